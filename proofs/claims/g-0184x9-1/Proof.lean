import JvmDerived
import JvmDerived.Pilot.@@N@@Statement
import JvmDerived.Pilot.@@N@@Code
set_option linter.unusedVariables false
set_option linter.unusedSimpArgs false
namespace Jvm.RoadKit
open Sem ClassFile Op Lib Jvm.Stand Jvm.Free Jvm.LawKit
section New
variable {p : Program} {l : Launch} {e : Env} {R : Room} {s : State} {m : MethodId} {args : Array Value} {below : List Frame} {meth : Method} {c : Code} {T : State} {locs : List Loc} {cells slots : Nat}
theorem retI (X : Stand p l e R s m args below meth c T locs cells slots) (hx : p.tables.exec = Jvm.exec) {pc : Nat} {Ls : Array Slot} {z : Int32} {rest : List Value} (hret : meth.sig.returnType = some .int) (hd : decode c.code pc = .ok (.ireturn, 1)) {fs : List Frame}
    (hl : ∀ (f : JFrame) (acts : List Action), f.method = m → f.locked = none → f.entered = [] → (doReturn e (T.setTop f) acts (some (.int z))).1 = T.setFrames fs) : Steps p.tables e below (T.setTop (mkF m pc Ls (.int z :: rest))) (T.setFrames fs) := by
  have hm' : T.vm.method? m = some meth := X.method'
  have hn : narrow .int (.int z) = .int z := rfl
  show Steps p.tables e below (T.setTop { method := m, pc := pc, locals := Ls, stack := _ :: rest, locked := none }) _
  jvm_step X.here [X.here.top, hx, hd, hm', hret, hn]
  first | (intro acts; rw [hl _ acts rfl rfl rfl]) | rw [hl _ _ rfl rfl rfl]
  exact Steps.refl _
end New
end Jvm.RoadKit
namespace Jvm.Own
open Jvm Jvm.ClassFile Sem Op Lib Jvm.Free Jvm.Stand Jvm.LawKit Jvm.RoadKit
/-! ## 1. Local variables: what the walk knows of them (L) and what they are (r) -/
def rv (ρ : Nat → Addr) : Value → Value
  | .ref k => .ref (ρ k)
  | .int x => .int x
  | .long x => .long x
  | .float x => .float x
  | .double x => .double x
  | .null => .null
  | .retAddr x => .retAddr x
def rs (ρ : Nat → Addr) : Slot → Slot
  | .val v => .val (rv ρ v)
  | .unset => .unset
  | .second => .second
theorem rv_cat (ρ : Nat → Addr) (v : Value) : (rv ρ v).category = v.category := by cases v <;> rfl
def WR (f : Nat → Option Slot) : Prop := (∀ i v, f i = some (.val v) → v.category = 2 → f (i + 1) = some .second) ∧ (∀ i, f i = some .second → ∃ j v, i = j + 1 ∧ f j = some (.val v) ∧ v.category = 2)
def up (f : Nat → Option Slot) (i : Nat) (x : Slot) : Nat → Option Slot := fun k => if k = i then some x else f k
def C1 (s : Option Slot) : Prop := s = some .unset ∨ ∃ w, s = some (.val w) ∧ w.category = 1
theorem C1.not2 {s : Option Slot} (h : C1 s) : s ≠ some .second ∧ ∀ v, s = some (.val v) → v.category ≠ 2 := by
  rcases h with rfl | ⟨w, rfl, h⟩
  · exact ⟨nofun, nofun⟩
  · exact ⟨nofun, fun v e q => by cases e; omega⟩
theorem up_at (f : Nat → Option Slot) (i : Nat) (x : Slot) : up f i x i = some x := by simp [up]
theorem up_ne (f : Nat → Option Slot) {i k : Nat} (x : Slot) (h : k ≠ i) : up f i x k = f k := by simp [up, h]
theorem WR.one {f : Nat → Option Slot} {i : Nat} {x : Slot} (h : WR f) (hi : C1 (f i)) (hx : C1 (some x)) : WR (up f i x) := by
  obtain ⟨n1, n2⟩ := hi.not2
  obtain ⟨m1, m2⟩ := hx.not2
  constructor
  · intro k v hk hv
    by_cases e : k = i
    · subst e; rw [up_at] at hk; exact absurd hv (m2 v hk)
    · rw [up_ne _ _ e] at hk
      have q := h.1 k v hk hv
      by_cases e2 : k + 1 = i
      · rw [e2] at q; exact absurd q n1
      · rw [up_ne _ _ e2]; exact q
  · intro k hk
    by_cases e : k = i
    · subst e; rw [up_at] at hk; exact absurd hk m1
    · rw [up_ne _ _ e] at hk
      obtain ⟨j, v, e1, e2, e3⟩ := h.2 k hk
      refine ⟨j, v, e1, ?_, e3⟩
      by_cases e4 : j = i
      · rw [e4] at e2; exact absurd e3 (n2 v e2)
      · rw [up_ne _ _ e4]; exact e2
theorem WR.clr {f : Nat → Option Slot} {j : Nat} {v : Value} (h : WR f) (hj : f j = some (.val v)) (hv : v.category = 2) : WR (up (up f j .unset) (j + 1) .unset) := by
  have q := h.1 j v hj hv
  constructor
  · intro k w hk hw
    by_cases e : k = j + 1
    · subst e; rw [up_at] at hk; cases hk
    · rw [up_ne _ _ e] at hk
      by_cases e2 : k = j
      · subst e2; rw [up_at] at hk; cases hk
      · rw [up_ne _ _ e2] at hk
        have q2 := h.1 k w hk hw
        by_cases e3 : k + 1 = j
        · rw [e3] at q2; rw [hj] at q2; cases q2
        · rw [up_ne _ _ (show k + 1 ≠ j + 1 by omega), up_ne _ _ e3]; exact q2
  · intro k hk
    by_cases e : k = j + 1
    · subst e; rw [up_at] at hk; cases hk
    · rw [up_ne _ _ e] at hk
      by_cases e2 : k = j
      · subst e2; rw [up_at] at hk; cases hk
      · rw [up_ne _ _ e2] at hk
        obtain ⟨i, w, e3, e4, e5⟩ := h.2 k hk
        refine ⟨i, w, e3, ?_, e5⟩
        by_cases e6 : i = j + 1
        · rw [e6, q] at e4; cases e4
        · rw [up_ne _ _ e6, up_ne _ _ (show i ≠ j by omega)]; exact e4
theorem WR.two {f : Nat → Option Slot} {i : Nat} {v : Value} (h : WR f) (h1 : C1 (f i)) (h2 : C1 (f (i + 1))) (hv : v.category = 2) : WR (up (up f i (.val v)) (i + 1) .second) := by
  obtain ⟨n1, n2⟩ := h1.not2
  obtain ⟨m1, m2⟩ := h2.not2
  constructor
  · intro k w hk hw
    by_cases e : k = i + 1
    · subst e; rw [up_at] at hk; cases hk
    · rw [up_ne _ _ e] at hk
      by_cases e2 : k = i
      · subst e2; exact up_at _ _ _
      · rw [up_ne _ _ e2] at hk
        have q := h.1 k w hk hw
        by_cases e3 : k + 1 = i
        · rw [e3] at q; exact absurd q n1
        · rw [up_ne _ _ (show k + 1 ≠ i + 1 by omega), up_ne _ _ e3]; exact q
  · intro k hk
    by_cases e : k = i + 1
    · exact ⟨i, v, e, by rw [up_ne _ _ (show i ≠ i + 1 by omega), up_at], hv⟩
    · rw [up_ne _ _ e] at hk
      by_cases e2 : k = i
      · subst e2; rw [up_at] at hk; cases hk
      · rw [up_ne _ _ e2] at hk
        obtain ⟨j, w, e3, e4, e5⟩ := h.2 k hk
        refine ⟨j, w, e3, ?_, e5⟩
        by_cases e6 : j = i + 1
        · rw [e6] at e4; exact absurd e5 (m2 w e4)
        · by_cases e7 : j = i
          · omega
          · rw [up_ne _ _ e6, up_ne _ _ e7]; exact e4
theorem up_arr {r : Array Slot} {i : Nat} (hi : i < r.size) (x : Slot) : (fun k => (r.setIfInBounds i x)[k]?) = up (fun k => r[k]?) i x := by
  funext k
  show (r.setIfInBounds i x)[k]? = _
  rw [Array.getElem?_setIfInBounds]
  by_cases e : i = k
  · subst e; simp [up, hi]
  · rw [if_neg e, up_ne _ _ (Ne.symm e)]
theorem up_lst {L : List Slot} {i : Nat} (hi : i < L.length) (x : Slot) : (fun k => (L.set i x)[k]?) = up (fun k => L[k]?) i x := by
  funext k
  show (L.set i x)[k]? = _
  rw [List.getElem?_set]
  by_cases e : i = k
  · subst e; simp [up, hi]
  · rw [if_neg e, up_ne _ _ (Ne.symm e)]
def SR (ρ : Nat → Addr) (L : List Slot) (r : Array Slot) : Prop :=
  r.size = L.length ∧ (∀ (i : Nat) (v : Value), L[i]? = some (.val v) → r[i]? = some (.val (rv ρ v))) ∧ (∀ (i : Nat), L[i]? = some .second → r[i]? = some .second) ∧ WR (fun k => L[k]?) ∧ WR (fun k => r[k]?)
theorem SR.get {ρ : Nat → Addr} {L : List Slot} {r : Array Slot} (h : SR ρ L r) {i : Nat} {v : Value} (e : L[i]? = some (.val v)) : r[i]? = some (.val (rv ρ v)) := h.2.1 i v e
/-- a store of one word over nothing or one word -/
theorem SR.st1 {ρ : Nat → Addr} {L : List Slot} {r : Array Slot} {i : Nat} {v : Value} (h : SR ρ L r) (ho : C1 L[i]?) (hv : v.category = 1) :
    ∃ r', storeLocals r i (rv ρ v) = some r' ∧ SR ρ (L.set i (.val v)) r' := by
  obtain ⟨h1, h2, h3, h4, h5⟩ := h
  have hi : i < L.length := by
    rcases ho with h | ⟨w, h, -⟩ <;> exact (List.getElem?_eq_some_iff.mp h).1
  have hir : i < r.size := by omega
  have hcv : (rv ρ v).category = 1 := by rw [rv_cat]; exact hv
  have hcx : C1 (some (Slot.val (rv ρ v))) := Or.inr ⟨_, rfl, hcv⟩
  obtain ⟨n1, n2⟩ := ho.not2
  have fin : ∀ r' : Array Slot, r'.size = r.size → WR (fun k => r'[k]?) → r'[i]? = some (.val (rv ρ v)) → (∀ k, k ≠ i → r'[k]? = r[k]? ∨ ∀ s, L[k]? = some s → s = .unset) → SR ρ (L.set i (.val v)) r' := by
    intro r' a1 a2 a3 a4
    refine ⟨by rw [a1, h1, List.length_set], ?_, ?_, by rw [up_lst hi]; exact h4.one ho (Or.inr ⟨v, rfl, hv⟩), a2⟩
    · intro k w hk
      rw [List.getElem?_set] at hk
      by_cases e : i = k
      · subst e; simp [hi] at hk; subst hk; exact a3
      · rw [if_neg e] at hk
        rcases a4 k (Ne.symm e) with q | q
        · rw [q]; exact h2 k w hk
        · cases q _ hk
    · intro k hk
      rw [List.getElem?_set] at hk
      by_cases e : i = k
      · subst e; simp [hi] at hk
      · rw [if_neg e] at hk
        rcases a4 k (Ne.symm e) with q | q
        · rw [q]; exact h3 k hk
        · cases q _ hk
  obtain ⟨q, hq⟩ : ∃ q, r[i]? = some q := ⟨_, Array.getElem?_eq_getElem hir⟩
  have plain : C1 (r[i]?) → ∃ r', storeLocals r i (rv ρ v) = some r' ∧ SR ρ (L.set i (.val v)) r' := by
    intro hC
    have hs : storeLocals r i (rv ρ v) = some (r.setIfInBounds i (.val (rv ρ v))) := by
      rcases hC with e | ⟨w, e, hw⟩
      · exact XS.store1 e (Or.inl rfl) hcv
      · exact XS.store1 e (Or.inr ⟨w, rfl, hw⟩) hcv
    refine ⟨_, hs, fin _ (by simp) (by rw [up_arr hir]; exact h5.one hC hcx) (by simp [hir]) ?_⟩
    intro k hk
    exact Or.inl (Array.getElem?_setIfInBounds_ne (Ne.symm hk))
  cases q with
  | unset => exact plain (Or.inl hq)
  | val w =>
    by_cases hw : w.category = 2
    · have q2 := h5.1 i w hq hw
      have hj : i + 1 < r.size := (Array.getElem?_eq_some_iff.mp q2).1
      have Lu : ∀ k, (k = i ∨ k = i + 1) → ∀ s, L[k]? = some s → s = .unset := by
        intro k hk s hs
        cases s with
        | unset => rfl
        | second =>
          rcases hk with rfl | rfl
          · exact absurd hs n1
          · obtain ⟨j, u, e1, e2, e3⟩ := h4.2 _ hs
            have : j = i := by omega
            subst this
            exact absurd e3 (n2 u e2)
        | val u =>
          rcases hk with rfl | rfl
          · have := h2 _ _ hs
            rw [hq] at this
            cases this
            rw [rv_cat] at hw
            exact absurd hw (n2 u hs)
          · have := h2 _ _ hs
            have q3 : r[i + 1]? = some .second := q2
            rw [q3] at this; cases this
      have hs : storeLocals r i (rv ρ v) = some ((r.setIfInBounds (i + 1) .unset).setIfInBounds i (.val (rv ρ v))) := by
        simp [storeLocals, storeSelf, setAt, hq, (Array.getElem?_eq_some_iff.mp hq).2, hw, hj, hir, hcv]
      refine ⟨_, hs, fin _ (by simp) ?_ (by simp [hir]) ?_⟩
      · have e : (fun k => ((r.setIfInBounds (i + 1) .unset).setIfInBounds i (.val (rv ρ v)))[k]?) = up (up (up (fun k => r[k]?) i .unset) (i + 1) .unset) i (.val (rv ρ v)) := by
          rw [up_arr (by simpa using hir), up_arr hj]
          funext k
          simp only [up]
          by_cases e : k = i
          · simp [e]
          · simp [e]
        rw [e]
        exact (h5.clr hq hw).one (Or.inl (by simp [up])) hcx
      · intro k hk
        by_cases e : k = i + 1
        · exact Or.inr (Lu k (Or.inr e))
        · left
          rw [Array.getElem?_setIfInBounds_ne (Ne.symm hk), Array.getElem?_setIfInBounds_ne (Ne.symm e)]
    · refine plain (Or.inr ⟨w, hq, ?_⟩)
      cases w <;> simp [Value.category] at hw ⊢
  | second =>
    obtain ⟨j, u, e1, e2, e3⟩ := h5.2 i hq
    subst e1
    have e2' : r[j]? = some (.val u) := e2
    have hj : j < r.size := by omega
    have Lu : ∀ s, L[j]? = some s → s = .unset := by
      intro s hs
      cases s with
      | unset => rfl
      | second => have := h3 _ hs; rw [e2'] at this; cases this
      | val w =>
        have := h2 _ _ hs
        rw [e2'] at this
        cases this
        rw [rv_cat] at e3
        exact absurd (h4.1 j w hs e3) n1
    have hs : storeLocals r (j + 1) (rv ρ v) = some ((r.setIfInBounds j .unset).setIfInBounds (j + 1) (.val (rv ρ v))) := by
      simp [storeLocals, storeSelf, setAt, hq, (Array.getElem?_eq_some_iff.mp hq).2, hj, hir, hcv]
    refine ⟨_, hs, fin _ (by simp) ?_ (by simp [hir]) ?_⟩
    · have e : (fun k => ((r.setIfInBounds j .unset).setIfInBounds (j + 1) (.val (rv ρ v)))[k]?) = up (up (up (fun k => r[k]?) j .unset) (j + 1) .unset) (j + 1) (.val (rv ρ v)) := by
        rw [up_arr (by simpa using hir), up_arr hj]
        funext k
        simp only [up]
        by_cases e : k = j + 1
        · simp [e]
        · simp [e]
      rw [e]
      exact (h5.clr e2 e3).one (Or.inl (by simp [up])) hcx
    · intro k hk
      by_cases e : k = j
      · subst e; exact Or.inr Lu
      · left
        rw [Array.getElem?_setIfInBounds_ne (Ne.symm hk), Array.getElem?_setIfInBounds_ne (Ne.symm e)]
end Jvm.Own

namespace Jvm.Own
open Jvm Jvm.ClassFile Sem Op Lib Jvm.Free Jvm.Stand Jvm.LawKit Jvm.RoadKit
theorem cat12 (w : Value) (h : ¬ w.category = 2) : w.category = 1 := by cases w <;> simp [Value.category] at h ⊢
theorem getset_ne {r : Array Slot} {i k : Nat} {x t : Slot} (h : r[k]? = some t) (ne : i ≠ k) (hk : k < (r.setIfInBounds i x).size) : (r.setIfInBounds i x)[k] = t := by
  have q : (r.setIfInBounds i x)[k]? = some t := by rw [Array.getElem?_setIfInBounds_ne ne]; exact h
  exact (Array.getElem?_eq_some_iff.mp q).2
/-- a store of two words over nothing or single words -/
theorem SR.st2 {ρ : Nat → Addr} {L : List Slot} {r : Array Slot} {i : Nat} {v : Value} (h : SR ρ L r) (ho : C1 L[i]?) (ho' : C1 L[i + 1]?) (hv : v.category = 2) :
    ∃ r', storeLocals r i (rv ρ v) = some r' ∧ SR ρ ((L.set i (.val v)).set (i + 1) .second) r' := by
  obtain ⟨h1, h2, h3, h4, h5⟩ := h
  have hi : i + 1 < L.length := by
    rcases ho' with h | ⟨w, h, -⟩ <;> exact (List.getElem?_eq_some_iff.mp h).1
  have hir1 : i + 1 < r.size := by omega
  have hir : i < r.size := by omega
  have hcv : (rv ρ v).category = 2 := by rw [rv_cat]; exact hv
  obtain ⟨n1, n2⟩ := ho.not2
  obtain ⟨m1, m2⟩ := ho'.not2
  have nr : ∀ w, r[i]? = some (.val w) → ∀ u, L[i]? = some (.val u) → w.category = 2 → False := by
    intro w hw u hu hc
    have := h2 _ _ hu
    rw [hw] at this; cases this
    rw [rv_cat] at hc
    exact n2 u hu hc
  have fin : ∀ r' : Array Slot, r'.size = r.size → WR (fun k => r'[k]?) → r'[i]? = some (.val (rv ρ v)) → r'[i + 1]? = some .second → (∀ k, k ≠ i → k ≠ i + 1 → r'[k]? = r[k]? ∨ ∀ s, L[k]? = some s → s = .unset) → SR ρ ((L.set i (.val v)).set (i + 1) .second) r' := by
    intro r' a1 a2 a3 a3' a4
    refine ⟨by rw [a1, h1]; simp, ?_, ?_, by rw [up_lst (by simpa using hi), up_lst (by omega)]; exact h4.two ho ho' hv, a2⟩
    · intro k w hk
      rw [List.getElem?_set] at hk
      by_cases e : i + 1 = k
      · subst e; simp [hi] at hk
      · rw [if_neg e, List.getElem?_set] at hk
        by_cases e2 : i = k
        · subst e2; simp [show i < L.length by omega] at hk; subst hk; exact a3
        · rw [if_neg e2] at hk
          rcases a4 k (Ne.symm e2) (Ne.symm e) with q | q
          · rw [q]; exact h2 k w hk
          · cases q _ hk
    · intro k hk
      rw [List.getElem?_set] at hk
      by_cases e : i + 1 = k
      · subst e; exact a3'
      · rw [if_neg e, List.getElem?_set] at hk
        by_cases e2 : i = k
        · subst e2; simp [show i < L.length by omega] at hk
        · rw [if_neg e2] at hk
          rcases a4 k (Ne.symm e2) (Ne.symm e) with q | q
          · rw [q]; exact h3 k hk
          · cases q _ hk
  have Lun2 : ∀ u, r[i + 1]? = some (.val u) → u.category = 2 → ∀ s, L[i + 2]? = some s → s = .unset := by
    intro u hu hc s hs
    have q2 : r[i + 2]? = some .second := h5.1 (i + 1) u hu hc
    cases s with
    | unset => rfl
    | second =>
      obtain ⟨j, w, e1, e2, e3⟩ := h4.2 _ hs
      have : j = i + 1 := by omega
      subst this
      exact absurd e3 (m2 w e2)
    | val w => have := h2 _ _ hs; rw [q2] at this; cases this
  obtain ⟨q, hq⟩ : ∃ q, r[i]? = some q := ⟨_, Array.getElem?_eq_getElem hir⟩
  obtain ⟨q1, hq1⟩ : ∃ q, r[i + 1]? = some q := ⟨_, Array.getElem?_eq_getElem hir1⟩
  have ne1 : i + 1 ≠ i := by omega
  cases q with
  | unset =>
    have hC : C1 (r[i]?) := Or.inl hq
    cases q1 with
    | unset =>
      refine ⟨(r.setIfInBounds i (.val (rv ρ v))).setIfInBounds (i + 1) .second, by simp [storeLocals, storeSelf, setAt, hq, (Array.getElem?_eq_some_iff.mp hq).2, hq1, (Array.getElem?_eq_some_iff.mp hq1).2, hir, hir1, hcv, Array.getElem?_setIfInBounds], fin _ (by simp) ?_ (by simp [hir, Array.getElem?_setIfInBounds]) (by simp [hir1]) ?_⟩
      · rw [up_arr (by simpa using hir1), up_arr hir]; exact h5.two hC (Or.inl hq1) hcv
      · intro k a b; left; rw [Array.getElem?_setIfInBounds_ne (Ne.symm b), Array.getElem?_setIfInBounds_ne (Ne.symm a)]
    | second => obtain ⟨j, w, e1, e2, e3⟩ := h5.2 _ hq1; have : j = i := by omega
                subst this; have e2' : r[j]? = some (.val w) := e2; rw [hq] at e2'; cases e2'
    | val u =>
      by_cases hu : u.category = 2
      · have q2 : r[i + 2]? = some .second := h5.1 (i + 1) u hq1 hu
        have hi2 : i + 2 < r.size := (Array.getElem?_eq_some_iff.mp q2).1
        refine ⟨((r.setIfInBounds i (.val (rv ρ v))).setIfInBounds (i + 2) .unset).setIfInBounds (i + 1) .second, by simp [storeLocals, storeSelf, setAt, hq, (Array.getElem?_eq_some_iff.mp hq).2, hq1, (Array.getElem?_eq_some_iff.mp hq1).2, hir, hir1, hi2, hcv, hu, Array.getElem?_setIfInBounds], fin _ (by simp) ?_ (by simp [hir, Array.getElem?_setIfInBounds]) (by simp [hir1]) ?_⟩
        · have e : (fun k => (((r.setIfInBounds i (.val (rv ρ v))).setIfInBounds (i + 2) .unset).setIfInBounds (i + 1) .second)[k]?) = up (up (up (up (fun k => r[k]?) (i + 1) .unset) (i + 2) .unset) i (.val (rv ρ v))) (i + 1) .second := by
            rw [up_arr (by simpa using hir1), up_arr (by simpa using hi2), up_arr hir]
            funext k
            simp only [up]
            by_cases e : k = i + 1
            · simp [e]
            · by_cases e2 : k = i
              · simp [e2]
              · simp [e, e2]
          rw [e]
          exact (h5.clr hq1 hu).two (Or.inl (by simp [up, hq] <;> omega)) (Or.inl (by simp [up] <;> omega)) hcv
        · intro k a b
          by_cases e : k = i + 2
          · subst e; exact Or.inr (Lun2 u hq1 hu)
          · left; rw [Array.getElem?_setIfInBounds_ne (Ne.symm b), Array.getElem?_setIfInBounds_ne (Ne.symm e), Array.getElem?_setIfInBounds_ne (Ne.symm a)]
      · refine ⟨(r.setIfInBounds i (.val (rv ρ v))).setIfInBounds (i + 1) .second, by simp [storeLocals, storeSelf, setAt, hq, (Array.getElem?_eq_some_iff.mp hq).2, hq1, (Array.getElem?_eq_some_iff.mp hq1).2, hir, hir1, hcv, hu, Array.getElem?_setIfInBounds], fin _ (by simp) ?_ (by simp [hir, Array.getElem?_setIfInBounds]) (by simp [hir1]) ?_⟩
        · rw [up_arr (by simpa using hir1), up_arr hir]; exact h5.two hC (Or.inr ⟨u, hq1, cat12 u hu⟩) hcv
        · intro k a b; left; rw [Array.getElem?_setIfInBounds_ne (Ne.symm b), Array.getElem?_setIfInBounds_ne (Ne.symm a)]
  | val w =>
    by_cases hw : w.category = 2
    · have q2 : r[i + 1]? = some .second := h5.1 i w hq hw
      have Lu : ∀ s, L[i]? = some s → s = .unset := by
        intro s hs
        cases s with
        | unset => rfl
        | second => exact absurd hs n1
        | val u => exact (nr w hq u hs hw).elim
      refine ⟨((r.setIfInBounds (i + 1) .unset).setIfInBounds i (.val (rv ρ v))).setIfInBounds (i + 1) .second, by simp [storeLocals, storeSelf, setAt, hq, (Array.getElem?_eq_some_iff.mp hq).2, hw, hir, hir1, hcv, Array.getElem?_setIfInBounds], fin _ (by simp) ?_ (by simp [hir, Array.getElem?_setIfInBounds]) (by simp [hir1]) ?_⟩
      · have e : (fun k => (((r.setIfInBounds (i + 1) .unset).setIfInBounds i (.val (rv ρ v))).setIfInBounds (i + 1) .second)[k]?) = up (up (up (up (fun k => r[k]?) i .unset) (i + 1) .unset) i (.val (rv ρ v))) (i + 1) .second := by
          rw [up_arr (by simpa using hir1), up_arr (by simpa using hir), up_arr hir1]
          funext k
          simp only [up]
          by_cases e : k = i + 1
          · simp [e]
          · by_cases e2 : k = i
            · simp [e2]
            · simp [e, e2]
        rw [e]
        exact (h5.clr hq hw).two (Or.inl (by simp [up] <;> omega)) (Or.inl (by simp [up] <;> omega)) hcv
      · intro k a b
        left; rw [Array.getElem?_setIfInBounds_ne (Ne.symm b), Array.getElem?_setIfInBounds_ne (Ne.symm a), Array.getElem?_setIfInBounds_ne (Ne.symm b)]
    · have hC : C1 (r[i]?) := Or.inr ⟨w, hq, cat12 w hw⟩
      cases q1 with
      | unset =>
        refine ⟨(r.setIfInBounds i (.val (rv ρ v))).setIfInBounds (i + 1) .second, by simp [storeLocals, storeSelf, setAt, hq, (Array.getElem?_eq_some_iff.mp hq).2, hq1, (Array.getElem?_eq_some_iff.mp hq1).2, hw, hir, hir1, hcv, Array.getElem?_setIfInBounds], fin _ (by simp) ?_ (by simp [hir, Array.getElem?_setIfInBounds]) (by simp [hir1]) ?_⟩
        · rw [up_arr (by simpa using hir1), up_arr hir]; exact h5.two hC (Or.inl hq1) hcv
        · intro k a b; left; rw [Array.getElem?_setIfInBounds_ne (Ne.symm b), Array.getElem?_setIfInBounds_ne (Ne.symm a)]
      | second => obtain ⟨j, u, e1, e2, e3⟩ := h5.2 _ hq1; have : j = i := by omega
                  subst this; have e2' : r[j]? = some (.val u) := e2; rw [hq] at e2'; cases e2'; exact absurd e3 hw
      | val u =>
        by_cases hu : u.category = 2
        · have q2 : r[i + 2]? = some .second := h5.1 (i + 1) u hq1 hu
          have hi2 : i + 2 < r.size := (Array.getElem?_eq_some_iff.mp q2).1
          refine ⟨((r.setIfInBounds i (.val (rv ρ v))).setIfInBounds (i + 2) .unset).setIfInBounds (i + 1) .second, by simp [storeLocals, storeSelf, setAt, hq, (Array.getElem?_eq_some_iff.mp hq).2, hq1, (Array.getElem?_eq_some_iff.mp hq1).2, hw, hir, hir1, hi2, hcv, hu, Array.getElem?_setIfInBounds], fin _ (by simp) ?_ (by simp [hir, Array.getElem?_setIfInBounds]) (by simp [hir1]) ?_⟩
          · have e : (fun k => (((r.setIfInBounds i (.val (rv ρ v))).setIfInBounds (i + 2) .unset).setIfInBounds (i + 1) .second)[k]?) = up (up (up (up (fun k => r[k]?) (i + 1) .unset) (i + 2) .unset) i (.val (rv ρ v))) (i + 1) .second := by
              rw [up_arr (by simpa using hir1), up_arr (by simpa using hi2), up_arr hir]
              funext k
              simp only [up]
              by_cases e : k = i + 1
              · simp [e]
              · by_cases e2 : k = i
                · simp [e2]
                · simp [e, e2]
            rw [e]
            exact (h5.clr hq1 hu).two (Or.inr ⟨w, by simp [up, hq] <;> omega, cat12 w hw⟩) (Or.inl (by simp [up] <;> omega)) hcv
          · intro k a b
            by_cases e : k = i + 2
            · subst e; exact Or.inr (Lun2 u hq1 hu)
            · left; rw [Array.getElem?_setIfInBounds_ne (Ne.symm b), Array.getElem?_setIfInBounds_ne (Ne.symm e), Array.getElem?_setIfInBounds_ne (Ne.symm a)]
        · refine ⟨(r.setIfInBounds i (.val (rv ρ v))).setIfInBounds (i + 1) .second, by simp [storeLocals, storeSelf, setAt, hq, (Array.getElem?_eq_some_iff.mp hq).2, hq1, (Array.getElem?_eq_some_iff.mp hq1).2, hw, hir, hir1, hcv, hu, Array.getElem?_setIfInBounds], fin _ (by simp) ?_ (by simp [hir, Array.getElem?_setIfInBounds]) (by simp [hir1]) ?_⟩
          · rw [up_arr (by simpa using hir1), up_arr hir]; exact h5.two hC (Or.inr ⟨u, hq1, cat12 u hu⟩) hcv
          · intro k a b; left; rw [Array.getElem?_setIfInBounds_ne (Ne.symm b), Array.getElem?_setIfInBounds_ne (Ne.symm a)]
  | second =>
    obtain ⟨j, y, e1, e2, e3⟩ := h5.2 i hq
    subst e1
    have e2' : r[j]? = some (.val y) := e2
    have hj : j < r.size := by omega
    have Lu : ∀ s, L[j]? = some s → s = .unset := by
      intro s hs
      cases s with
      | unset => rfl
      | second => have := h3 _ hs; rw [e2'] at this; cases this
      | val w =>
        have := h2 _ _ hs
        rw [e2'] at this
        cases this
        rw [rv_cat] at e3
        exact absurd (h4.1 j w hs e3) n1
    have W5 := h5.clr e2 e3
    cases q1 with
    | unset =>
      refine ⟨((r.setIfInBounds j .unset).setIfInBounds (j + 1) (.val (rv ρ v))).setIfInBounds (j + 1 + 1) .second, by simp [storeLocals, storeSelf, setAt, hq, (Array.getElem?_eq_some_iff.mp hq).2, hq1, (Array.getElem?_eq_some_iff.mp hq1).2, getset_ne hq1 (show j ≠ j + 1 + 1 by omega), hj, hir, hir1, hcv, Array.getElem?_setIfInBounds], fin _ (by simp) ?_ (by simp [hir, Array.getElem?_setIfInBounds]) (by simp [hir1]) ?_⟩
      · have e : (fun k => (((r.setIfInBounds j .unset).setIfInBounds (j + 1) (.val (rv ρ v))).setIfInBounds (j + 1 + 1) .second)[k]?) = up (up (up (up (fun k => r[k]?) j .unset) (j + 1) .unset) (j + 1) (.val (rv ρ v))) (j + 1 + 1) .second := by
          rw [up_arr (by simpa using hir1), up_arr (by simpa using hir), up_arr hj]
          funext k
          simp only [up]
          by_cases e : k = j + 1 + 1
          · simp [e]
          · by_cases e2 : k = j + 1
            · simp [e2]
            · simp [e, e2]
        rw [e]
        exact W5.two (Or.inl (by simp [up] <;> omega)) (Or.inl (by simp [up, hq1] <;> omega)) hcv
      · intro k a b
        by_cases e : k = j
        · subst e; exact Or.inr Lu
        · left; rw [Array.getElem?_setIfInBounds_ne (Ne.symm b), Array.getElem?_setIfInBounds_ne (Ne.symm a), Array.getElem?_setIfInBounds_ne (Ne.symm e)]
    | second => obtain ⟨k, w, f1, f2, f3⟩ := h5.2 _ hq1; have : k = j + 1 := by omega
                subst this; have f2' : r[j + 1]? = some (.val w) := f2; rw [hq] at f2'; cases f2'
    | val u =>
      by_cases hu : u.category = 2
      · have q2 : r[j + 1 + 2]? = some .second := h5.1 (j + 1 + 1) u hq1 hu
        have hi2 : j + 1 + 2 < r.size := (Array.getElem?_eq_some_iff.mp q2).1
        refine ⟨(((r.setIfInBounds j .unset).setIfInBounds (j + 1) (.val (rv ρ v))).setIfInBounds (j + 1 + 2) .unset).setIfInBounds (j + 1 + 1) .second, by simp [storeLocals, storeSelf, setAt, hq, (Array.getElem?_eq_some_iff.mp hq).2, hq1, (Array.getElem?_eq_some_iff.mp hq1).2, getset_ne hq1 (show j ≠ j + 1 + 1 by omega), hj, hir, hir1, hi2, hcv, hu, Array.getElem?_setIfInBounds], fin _ (by simp) ?_ (by simp [hir, Array.getElem?_setIfInBounds]) (by simp [hir1]) ?_⟩
        · have e : (fun k => ((((r.setIfInBounds j .unset).setIfInBounds (j + 1) (.val (rv ρ v))).setIfInBounds (j + 1 + 2) .unset).setIfInBounds (j + 1 + 1) .second)[k]?) = up (up (up (up (up (up (fun k => r[k]?) j .unset) (j + 1) .unset) (j + 1 + 1) .unset) (j + 1 + 1 + 1) .unset) (j + 1) (.val (rv ρ v))) (j + 1 + 1) .second := by
            rw [up_arr (by simpa using hir1), up_arr (by simpa using hi2), up_arr (by simpa using hir), up_arr hj]
            funext k
            simp only [up]
            by_cases e : k = j + 1 + 1
            · simp [e]
            · by_cases e2 : k = j + 1
              · simp [e2]
              · simp [e, e2]
          rw [e]
          exact (W5.clr (j := j + 1 + 1) (v := u) (by simp [up, hq1] <;> omega) hu).two (Or.inl (by simp [up] <;> omega)) (Or.inl (by simp [up] <;> omega)) hcv
        · intro k a b
          by_cases e : k = j
          · subst e; exact Or.inr Lu
          · by_cases e4 : k = j + 1 + 2
            · subst e4; exact Or.inr (Lun2 u hq1 hu)
            · left; rw [Array.getElem?_setIfInBounds_ne (Ne.symm b), Array.getElem?_setIfInBounds_ne (Ne.symm e4), Array.getElem?_setIfInBounds_ne (Ne.symm a), Array.getElem?_setIfInBounds_ne (Ne.symm e)]
      · refine ⟨((r.setIfInBounds j .unset).setIfInBounds (j + 1) (.val (rv ρ v))).setIfInBounds (j + 1 + 1) .second, by simp [storeLocals, storeSelf, setAt, hq, (Array.getElem?_eq_some_iff.mp hq).2, hq1, (Array.getElem?_eq_some_iff.mp hq1).2, getset_ne hq1 (show j ≠ j + 1 + 1 by omega), hj, hir, hir1, hcv, hu, Array.getElem?_setIfInBounds], fin _ (by simp) ?_ (by simp [hir, Array.getElem?_setIfInBounds]) (by simp [hir1]) ?_⟩
        · have e : (fun k => (((r.setIfInBounds j .unset).setIfInBounds (j + 1) (.val (rv ρ v))).setIfInBounds (j + 1 + 1) .second)[k]?) = up (up (up (up (fun k => r[k]?) j .unset) (j + 1) .unset) (j + 1) (.val (rv ρ v))) (j + 1 + 1) .second := by
            rw [up_arr (by simpa using hir1), up_arr (by simpa using hir), up_arr hj]
            funext k
            simp only [up]
            by_cases e : k = j + 1 + 1
            · simp [e]
            · by_cases e2 : k = j + 1
              · simp [e2]
              · simp [e, e2]
          rw [e]
          exact W5.two (Or.inl (by simp [up] <;> omega)) (Or.inr ⟨u, by simp [up, hq1] <;> omega, cat12 u hu⟩) hcv
        · intro k a b
          by_cases e : k = j
          · subst e; exact Or.inr Lu
          · left; rw [Array.getElem?_setIfInBounds_ne (Ne.symm b), Array.getElem?_setIfInBounds_ne (Ne.symm a), Array.getElem?_setIfInBounds_ne (Ne.symm e)]
/-- which lists of slots are laid out well -/
def wfL : List Slot → Bool
  | [] => true
  | .unset :: t => wfL t
  | .second :: _ => false
  | [.val v] => decide (v.category = 1)
  | .val v :: .second :: t => decide (v.category = 2) && wfL t
  | .val v :: .unset :: t => decide (v.category = 1) && wfL t
  | .val v :: .val u :: t => decide (v.category = 1) && wfL (.val u :: t)
/-- the walk forgets the variables that the mask marks -/
def fg : List Bool → List Slot → List Slot
  | true :: b, _ :: t => .unset :: fg b t
  | false :: b, s :: t => s :: fg b t
  | _, t => t
theorem WR.nil : WR (fun k => ([] : List Slot)[k]?) := ⟨fun i v h => by simp at h, fun i h => by simp at h⟩
theorem WR.cons1 {t : List Slot} {s : Slot} (h : WR (fun k => t[k]?)) (hs : C1 (some s)) : WR (fun k => (s :: t)[k]?) := by
  obtain ⟨n1, n2⟩ := hs.not2
  constructor
  · intro i v hi hv
    cases i with
    | zero => exact absurd hv (n2 v (by simpa using hi))
    | succ i => have := h.1 i v (by simpa using hi) hv; simpa using this
  · intro i hi
    cases i with
    | zero => exact absurd (by simpa using hi) n1
    | succ i => obtain ⟨j, v, e1, e2, e3⟩ := h.2 i (by simpa using hi); exact ⟨j + 1, v, by omega, by simpa using e2, e3⟩
theorem WR.cons2 {t : List Slot} {w : Value} (h : WR (fun k => t[k]?)) (hw : w.category = 2) : WR (fun k => (Slot.val w :: .second :: t)[k]?) := by
  constructor
  · intro i v hi hv
    match i with
    | 0 => simp
    | 1 => simp at hi
    | i + 2 => have := h.1 i v (by simpa using hi) hv; simpa using this
  · intro i hi
    match i with
    | 0 => simp at hi
    | 1 => exact ⟨0, w, rfl, by simp, hw⟩
    | i + 2 => obtain ⟨j, v, e1, e2, e3⟩ := h.2 i (by simpa using hi); exact ⟨j + 2, v, by omega, by simpa using e2, e3⟩
theorem WR.of_wfL : (L : List Slot) → wfL L = true → WR (fun k => L[k]?)
  | [], _ => WR.nil
  | .unset :: t, h => (WR.of_wfL t h).cons1 (Or.inl rfl)
  | .second :: _, h => by simp [wfL] at h
  | [.val v], h => WR.nil.cons1 (Or.inr ⟨v, rfl, by simpa [wfL] using h⟩)
  | .val v :: .second :: t, h => by simp [wfL] at h; exact (WR.of_wfL t h.2).cons2 h.1
  | .val v :: .unset :: t, h => by simp [wfL] at h; exact ((WR.of_wfL t h.2).cons1 (Or.inl rfl)).cons1 (Or.inr ⟨v, rfl, h.1⟩)
  | .val v :: .val u :: t, h => by
    have h' : decide (v.category = 1) = true ∧ wfL (.val u :: t) = true := by rw [wfL, Bool.and_eq_true] at h; exact h
    exact (WR.of_wfL (.val u :: t) h'.2).cons1 (Or.inr ⟨v, rfl, of_decide_eq_true h'.1⟩)
theorem fg_length : (b : List Bool) → (L : List Slot) → (fg b L).length = L.length
  | true :: b, _ :: t => by simp [fg, fg_length b t]
  | false :: b, s :: t => by simp [fg, fg_length b t]
  | [], t => by simp [fg]
  | true :: _, [] => by simp [fg]
  | false :: _, [] => by simp [fg]
theorem fg_get : (b : List Bool) → (L : List Slot) → ∀ (i : Nat) (s : Slot), (fg b L)[i]? = some s → s = .unset ∨ L[i]? = some s
  | true :: b, x :: t, i, s, h => by
    cases i with
    | zero => left; simpa [fg] using h.symm
    | succ i => have := fg_get b t i s (by simpa [fg] using h); simpa using this
  | false :: b, x :: t, i, s, h => by
    cases i with
    | zero => right; simpa [fg] using h
    | succ i => have := fg_get b t i s (by simpa [fg] using h); simpa using this
  | [], t, i, s, h => by right; simpa [fg] using h
  | true :: _, [], i, s, h => by right; simpa [fg] using h
  | false :: _, [], i, s, h => by right; simpa [fg] using h
theorem SR.forget {ρ : Nat → Addr} {L : List Slot} {r : Array Slot} (h : SR ρ L r) (b : List Bool) (hw : wfL (fg b L) = true) : SR ρ (fg b L) r := by
  obtain ⟨h1, h2, h3, h4, h5⟩ := h
  refine ⟨by rw [fg_length]; exact h1, fun i v hi => ?_, fun i hi => ?_, WR.of_wfL _ hw, h5⟩
  · rcases fg_get _ _ _ _ hi with e | e
    · cases e
    · exact h2 i v e
  · rcases fg_get _ _ _ _ hi with e | e
    · cases e
    · exact h3 i e
/-- at a method's entry -/
theorem a2l (ρ : Nat → Addr) (as : List Value) (mx : Nat) : argsToLocals (as.map (rv ρ)).toArray mx = (argsToLocals as.toArray mx).map (rs ρ) := by
  have key : ∀ (as : List Value) (acc : Array Slot), (as.map (rv ρ)).foldl (fun acc v => if v.category = 2 then (acc.push (.val v)).push .second else acc.push (.val v)) (acc.map (rs ρ)) = (as.foldl (fun acc v => if v.category = 2 then (acc.push (.val v)).push .second else acc.push (.val v)) acc).map (rs ρ) := by
    intro as
    induction as with
    | nil => intro acc; rfl
    | cons v t ih =>
      intro acc
      simp only [List.map_cons, List.foldl_cons, rv_cat]
      by_cases hv : v.category = 2
      · rw [if_pos hv, if_pos hv, ← ih]; simp [Array.map_push, rs]
      · rw [if_neg hv, if_neg hv, ← ih]; simp [Array.map_push, rs]
  have k0 := key as #[]
  simp only [Array.map_empty] at k0
  simp only [argsToLocals, List.foldl_toArray', List.size_toArray]
  simp only [k0, Array.map_append, Array.size_map, Array.map_replicate, rs]
theorem SR.entry (ρ : Nat → Addr) (as : List Value) (mx : Nat) {L : List Slot} (hL : (argsToLocals as.toArray mx).toList = L) (hw : wfL L = true) : SR ρ L (argsToLocals (as.map (rv ρ)).toArray mx) := by
  subst hL
  rw [a2l]
  have hW := WR.of_wfL _ hw
  generalize argsToLocals as.toArray mx = A at hW
  have g : ∀ i : Nat, (A.map (rs ρ))[i]? = (A.toList[i]?).map (rs ρ) := by intro i; simp
  refine ⟨by simp, fun i v hi => by rw [g, hi]; rfl, fun i hi => by rw [g, hi]; rfl, hW, ?_, ?_⟩
  · intro i v hi hv
    have hi' : (A.toList[i]?).map (rs ρ) = some (.val v) := by rw [← g]; exact hi
    cases hs : A.toList[i]? with
    | none => rw [hs] at hi'; cases hi'
    | some s =>
      rw [hs] at hi'
      cases s with
      | unset => cases hi'
      | second => cases hi'
      | val u =>
        cases hi'
        have := hW.1 i u hs (by rwa [rv_cat] at hv)
        show (A.map (rs ρ))[i + 1]? = _
        rw [g]
        have t : A.toList[i + 1]? = some .second := this
        rw [t]; rfl
  · intro i hi
    have hi' : (A.toList[i]?).map (rs ρ) = some .second := by rw [← g]; exact hi
    cases hs : A.toList[i]? with
    | none => rw [hs] at hi'; cases hi'
    | some s =>
      rw [hs] at hi'
      cases s with
      | unset => cases hi'
      | val u => cases hi'
      | second =>
        obtain ⟨j, v, e1, e2, e3⟩ := hW.2 i hs
        refine ⟨j, rv ρ v, e1, ?_, by rw [rv_cat]; exact e3⟩
        show (A.map (rs ρ))[j]? = _
        rw [g]
        have t : A.toList[j]? = some (.val v) := e2
        rw [t]; rfl
end Jvm.Own

namespace Jvm.Own
open Jvm Jvm.ClassFile Sem Op Lib Jvm.Free Jvm.Stand Jvm.LawKit Jvm.RoadKit
/-! ## 2. A method's data; what it means that a walk from a point of it comes to an end -/
/-- name, bytes, number of variables, what it returns, room, cells that it makes -/
abbrev MD : Type := MethodName × ByteArray × Nat × Option FieldType × Room × Nat
abbrev nmOf (md : MD) : MethodName := md.1
abbrev byOf (md : MD) : ByteArray := md.2.1
abbrev mxOf (md : MD) : Nat := md.2.2.1
abbrev rtOf (md : MD) : Option FieldType := md.2.2.2.1
abbrev rmOf (md : MD) : Room := md.2.2.2.2.1
abbrev exOf (md : MD) : Nat := md.2.2.2.2.2
/-- the class whose methods are walked; where the walk's references point; the first new address; what the heap holds; what a walk leaves alone -/
abbrev Mode (μ E : Type) : Type := String × (E → Nat → Addr) × (E → Nat) × (E → μ → Heap → Prop) × (E → Heap → Heap → Prop)
abbrev Mode.own {μ E : Type} (M : Mode μ E) : String := M.1
abbrev Mode.rho {μ E : Type} (M : Mode μ E) : E → Nat → Addr := M.2.1
abbrev Mode.lo {μ E : Type} (M : Mode μ E) : E → Nat := M.2.2.1
abbrev Mode.rel {μ E : Type} (M : Mode μ E) : E → μ → Heap → Prop := M.2.2.2.1
abbrev Mode.frm {μ E : Type} (M : Mode μ E) : E → Heap → Heap → Prop := M.2.2.2.2
def Kn (Z : State) (own : String) (md : MD) (p : Program) (s : State) (m : MethodId) (meth : Method) (c : Code) : Prop :=
  p.tables.exec = Jvm.exec ∧ Z.Warmed39 s.vm ∧ s.vm.findClass own = some m.cls ∧ meth.name = (nmOf md).name ∧ meth.sig.returnType = rtOf md ∧ meth.locks = false ∧ c.code = byOf md ∧ c.maxLocals = mxOf md
def Done {μ E : Type} (l : Launch) (M : Mode μ E) (md : MD) (Q : Option Value → μ → Prop) (en : E) (p : Program) (e : Env) (s : State) (m : MethodId) (args : Array Value) (below : List Frame) (meth : Method) (c : Code) (T : State) (g : JFrame) : Prop :=
  ∃ (T' : State) (locs' : List Loc) (su' : Nat) (v : Option Value) (w' : μ), Stand p l e (rmOf md) s m args below meth c T' locs' (exOf md) su' ∧ exOf md ≤ (rmOf md).cells ∧ su' ≤ (rmOf md).slots ∧ T'.heap.size = s.heap.size + exOf md ∧ Fr (M.lo en) locs' ∧ M.rel en w' T'.heap ∧ M.frm en T.heap T'.heap ∧
    (meth.sig.returnType = none → v = none) ∧ (∀ ρ x, v = some x → rv ρ x = x) ∧ Q v w' ∧
    ∀ fs, (∀ (f : JFrame) (acts : List Action), f.method = m → f.locked = none → f.entered = [] → (doReturn e (T'.setTop f) acts v).1 = T'.setFrames fs) → Steps p.tables e below (T.setTop g) (T'.setFrames fs)
/-- from the pc, with these variables and operands, over w, the walk returns with what Q says -/
def Wk {μ E : Type} (l : Launch) (Z : State) (M : Mode μ E) (md : MD) (pc : Nat) (L : List Slot) (S : List Value) (w : μ) (cu su : Nat) (Q : Option Value → μ → Prop) : Prop :=
  ∀ (en : E) (p : Program) (e : Env) (s : State) (m : MethodId) (args : Array Value) (below : List Frame) (meth : Method) (c : Code) (T : State) (locs : List Loc) (r : Array Slot),
    Stand p l e (rmOf md) s m args below meth c T locs cu su → Kn Z M.own md p s m meth c → T.heap.size = s.heap.size + cu → Fr (M.lo en) locs → M.rel en w T.heap → SR (M.rho en) L r →
    Done l M md Q en p e s m args below meth c T (mkF m pc r (S.map (rv (M.rho en))))
section Steps
variable {μ E : Type} {l : Launch} {Z : State} {M : Mode μ E} {md : MD} {pc pc' : Nat} {L L' : List Slot} {S : List Value} {w : μ} {cu su : Nat} {Q : Option Value → μ → Prop}
theorem Done.pre {en : E} {p : Program} {e : Env} {s : State} {m : MethodId} {args : Array Value} {below : List Frame} {meth : Method} {c : Code} {T T1 : State} {g g1 : JFrame} (h : Done l M md Q en p e s m args below meth c T1 g1) (hT : ∀ x, M.frm en T1.heap x → M.frm en T.heap x)
    (st : ∀ t, Steps p.tables e below (T1.setTop g1) t → Steps p.tables e below (T.setTop g) t) : Done l M md Q en p e s m args below meth c T g := by
  obtain ⟨T', locs', su', v, w', a1, a2, a3, a4, a5, a6, a7, a8, a9, a10, a11⟩ := h
  exact ⟨T', locs', su', v, w', a1, a2, a3, a4, a5, a6, hT _ a7, a8, a9, a10, fun fs hf => st _ (a11 fs hf)⟩
theorem Wk.mono {Q' : Option Value → μ → Prop} (h : Wk l Z M md pc L S w cu su Q) (hq : ∀ v w', Q v w' → Q' v w') : Wk l Z M md pc L S w cu su Q' := by
  intro en p e s m args below meth c T locs r X K hz hF hR hL
  obtain ⟨T', locs', su', v, w', a1, a2, a3, a4, a5, a6, a7, a8, a9, a10, a11⟩ := h en p e s m args below meth c T locs r X K hz hF hR hL
  exact ⟨T', locs', su', v, w', a1, a2, a3, a4, a5, a6, a7, a8, a9, hq _ _ a10, a11⟩
abbrev InsA (md : MD) (pc : Nat) (i : Instr) (n pc' : Nat) : Prop := decode (byOf md) pc = .ok (i, n) ∧ pc + n = pc'
abbrev InsB (md : MD) (pc : Nat) (i : Instr) (n pc' : Nat) (o : Int) (pt : Nat) : Prop := decode (byOf md) pc = .ok (i, n) ∧ pc + n = pc' ∧ 0 ≤ (pc : Int) + o ∧ ((pc : Int) + o).toNat = pt
theorem Kn.by {own : String} {p : Program} {s : State} {m : MethodId} {meth : Method} {c : Code} (K : Kn Z own md p s m meth c) : c.code = byOf md := K.2.2.2.2.2.2.1
theorem Wk.forget (b : List Bool) (hf : fg b L = L') (hw : wfL L' = true) (h : Wk l Z M md pc L' S w cu su Q) : Wk l Z M md pc L S w cu su Q :=
  fun en p e s m args below meth c T locs r X K hz hF hR hL => h en p e s m args below meth c T locs r X K hz hF hR (by subst hf; exact hL.forget b hw)
theorem Wk.iloadN {k : Fin 4} {v : Int32} (hd : InsA md pc (.iload_n k) 1 pc') (hl : L[k.val]? = some (.val (.int v))) (h : Wk l Z M md pc' L (.int v :: S) w cu su Q) : Wk l Z M md pc L (S) w cu su Q :=
  fun en p e s m args below meth c T locs r X K hz hF hR hL => by
  obtain ⟨hd, rfl⟩ := hd
  exact (h en p e s m args below meth c T locs r X K hz hF hR hL).pre (fun _ q => q) fun t k => XS.iloadN X.here K.1 rfl (hb K.by hd) (hL.get hl) k
theorem Wk.iload {k : Nat} {v : Int32} (hd : InsA md pc (.iload k) 2 pc') (hl : L[k]? = some (.val (.int v))) (h : Wk l Z M md pc' L (.int v :: S) w cu su Q) : Wk l Z M md pc L (S) w cu su Q :=
  fun en p e s m args below meth c T locs r X K hz hF hR hL => by
  obtain ⟨hd, rfl⟩ := hd
  exact (h en p e s m args below meth c T locs r X K hz hF hR hL).pre (fun _ q => q) fun t k => XS.iload X.here K.1 rfl (hb K.by hd) (hL.get hl) k
theorem Wk.lloadN {k : Fin 4} {v : Int64} (hd : InsA md pc (.lload_n k) 1 pc') (hl : L[k.val]? = some (.val (.long v))) (h : Wk l Z M md pc' L (.long v :: S) w cu su Q) : Wk l Z M md pc L (S) w cu su Q :=
  fun en p e s m args below meth c T locs r X K hz hF hR hL => by
  obtain ⟨hd, rfl⟩ := hd
  exact (h en p e s m args below meth c T locs r X K hz hF hR hL).pre (fun _ q => q) fun t k => XT.lloadN X.here K.1 rfl (hb K.by hd) (hL.get hl) k
theorem Wk.lload {k : Nat} {v : Int64} (hd : InsA md pc (.lload k) 2 pc') (hl : L[k]? = some (.val (.long v))) (h : Wk l Z M md pc' L (.long v :: S) w cu su Q) : Wk l Z M md pc L (S) w cu su Q :=
  fun en p e s m args below meth c T locs r X K hz hF hR hL => by
  obtain ⟨hd, rfl⟩ := hd
  exact (h en p e s m args below meth c T locs r X K hz hF hR hL).pre (fun _ q => q) fun t k => XT.lload X.here K.1 rfl (hb K.by hd) (hL.get hl) k
theorem Wk.aloadN {k : Fin 4} {v : Nat} (hd : InsA md pc (.aload_n k) 1 pc') (hl : L[k.val]? = some (.val (.ref v))) (h : Wk l Z M md pc' L (.ref v :: S) w cu su Q) : Wk l Z M md pc L (S) w cu su Q :=
  fun en p e s m args below meth c T locs r X K hz hF hR hL => by
  obtain ⟨hd, rfl⟩ := hd
  exact (h en p e s m args below meth c T locs r X K hz hF hR hL).pre (fun _ q => q) fun t k => XS.aloadN X.here K.1 rfl (hb K.by hd) (hL.get hl) rfl k
theorem Wk.aload {k : Nat} {v : Nat} (hd : InsA md pc (.aload k) 2 pc') (hl : L[k]? = some (.val (.ref v))) (h : Wk l Z M md pc' L (.ref v :: S) w cu su Q) : Wk l Z M md pc L (S) w cu su Q :=
  fun en p e s m args below meth c T locs r X K hz hF hR hL => by
  obtain ⟨hd, rfl⟩ := hd
  exact (h en p e s m args below meth c T locs r X K hz hF hR hL).pre (fun _ q => q) fun t k => XS.aload X.here K.1 rfl (hb K.by hd) (hL.get hl) rfl k
theorem Wk.iconst {i : Int} {z : Int32} (hd : InsA md pc (.iconst i) 1 pc') (hz' : Int32.ofInt i = z) (h : Wk l Z M md pc' L (.int z :: S) w cu su Q) : Wk l Z M md pc L (S) w cu su Q :=
  fun en p e s m args below meth c T locs r X K hz hF hR hL => by
  obtain ⟨hd, rfl⟩ := hd
  exact (h en p e s m args below meth c T locs r X K hz hF hR hL).pre (fun _ q => q) fun t k => XS.iconst X.here K.1 rfl (hb K.by hd) (by subst hz'; exact k)
theorem Wk.bipush {i : Int} {z : Int32} (hd : InsA md pc (.bipush i) 2 pc') (hz' : (Int8.ofInt i).toInt32 = z) (h : Wk l Z M md pc' L (.int z :: S) w cu su Q) : Wk l Z M md pc L (S) w cu su Q :=
  fun en p e s m args below meth c T locs r X K hz hF hR hL => by
  obtain ⟨hd, rfl⟩ := hd
  exact (h en p e s m args below meth c T locs r X K hz hF hR hL).pre (fun _ q => q) fun t k => XS.bipush X.here K.1 rfl (hb K.by hd) (by subst hz'; exact k)
theorem Wk.sipush {i : Int} {z : Int32} (hd : InsA md pc (.sipush i) 3 pc') (hz' : (Int16.ofInt i).toInt32 = z) (h : Wk l Z M md pc' L (.int z :: S) w cu su Q) : Wk l Z M md pc L (S) w cu su Q :=
  fun en p e s m args below meth c T locs r X K hz hF hR hL => by
  obtain ⟨hd, rfl⟩ := hd
  exact (h en p e s m args below meth c T locs r X K hz hF hR hL).pre (fun _ q => q) fun t k => XS.sipush X.here K.1 rfl (hb K.by hd) (by subst hz'; exact k)
theorem Wk.lconst {i : Fin 2} {z : Int64} (hd : InsA md pc (.lconst i) 1 pc') (hz' : Int64.ofNat i = z) (h : Wk l Z M md pc' L (.long z :: S) w cu su Q) : Wk l Z M md pc L (S) w cu su Q :=
  fun en p e s m args below meth c T locs r X K hz hF hR hL => by
  obtain ⟨hd, rfl⟩ := hd
  exact (h en p e s m args below meth c T locs r X K hz hF hR hL).pre (fun _ q => q) fun t k => XT.lconst X.here K.1 rfl (hb K.by hd) (by subst hz'; exact k)
theorem Wk.iadd {x y : Int32} (hd : InsA md pc (.iadd) 1 pc') (h : Wk l Z M md pc' L (.int (x + y) :: S) w cu su Q) : Wk l Z M md pc L (.int y :: .int x :: S) w cu su Q :=
  fun en p e s m args below meth c T locs r X K hz hF hR hL => by
  obtain ⟨hd, rfl⟩ := hd
  exact (h en p e s m args below meth c T locs r X K hz hF hR hL).pre (fun _ q => q) fun t k => XS.iadd X.here K.1 rfl (hb K.by hd) rfl k
theorem Wk.isub {x y : Int32} (hd : InsA md pc (.isub) 1 pc') (h : Wk l Z M md pc' L (.int (x - y) :: S) w cu su Q) : Wk l Z M md pc L (.int y :: .int x :: S) w cu su Q :=
  fun en p e s m args below meth c T locs r X K hz hF hR hL => by
  obtain ⟨hd, rfl⟩ := hd
  exact (h en p e s m args below meth c T locs r X K hz hF hR hL).pre (fun _ q => q) fun t k => XS.isub X.here K.1 rfl (hb K.by hd) rfl k
theorem Wk.imul {x y : Int32} (hd : InsA md pc (.imul) 1 pc') (h : Wk l Z M md pc' L (.int (x * y) :: S) w cu su Q) : Wk l Z M md pc L (.int y :: .int x :: S) w cu su Q :=
  fun en p e s m args below meth c T locs r X K hz hF hR hL => by
  obtain ⟨hd, rfl⟩ := hd
  exact (h en p e s m args below meth c T locs r X K hz hF hR hL).pre (fun _ q => q) fun t k => XS.imul X.here K.1 rfl (hb K.by hd) rfl k
theorem Wk.iand {x y : Int32} (hd : InsA md pc (.iand) 1 pc') (h : Wk l Z M md pc' L (.int (x &&& y) :: S) w cu su Q) : Wk l Z M md pc L (.int y :: .int x :: S) w cu su Q :=
  fun en p e s m args below meth c T locs r X K hz hF hR hL => by
  obtain ⟨hd, rfl⟩ := hd
  exact (h en p e s m args below meth c T locs r X K hz hF hR hL).pre (fun _ q => q) fun t k => XS.iand X.here K.1 rfl (hb K.by hd) rfl k
theorem Wk.ior {x y : Int32} (hd : InsA md pc (.ior) 1 pc') (h : Wk l Z M md pc' L (.int (x ||| y) :: S) w cu su Q) : Wk l Z M md pc L (.int y :: .int x :: S) w cu su Q :=
  fun en p e s m args below meth c T locs r X K hz hF hR hL => by
  obtain ⟨hd, rfl⟩ := hd
  exact (h en p e s m args below meth c T locs r X K hz hF hR hL).pre (fun _ q => q) fun t k => XT.ior X.here K.1 rfl (hb K.by hd) rfl k
theorem Wk.ixor {x y : Int32} (hd : InsA md pc (.ixor) 1 pc') (h : Wk l Z M md pc' L (.int (x ^^^ y) :: S) w cu su Q) : Wk l Z M md pc L (.int y :: .int x :: S) w cu su Q :=
  fun en p e s m args below meth c T locs r X K hz hF hR hL => by
  obtain ⟨hd, rfl⟩ := hd
  exact (h en p e s m args below meth c T locs r X K hz hF hR hL).pre (fun _ q => q) fun t k => XT.ixor X.here K.1 rfl (hb K.by hd) rfl k
theorem Wk.ishl {x y : Int32} (hd : InsA md pc (.ishl) 1 pc') (h : Wk l Z M md pc' L (.int (x <<< (y &&& 31)) :: S) w cu su Q) : Wk l Z M md pc L (.int y :: .int x :: S) w cu su Q :=
  fun en p e s m args below meth c T locs r X K hz hF hR hL => by
  obtain ⟨hd, rfl⟩ := hd
  exact (h en p e s m args below meth c T locs r X K hz hF hR hL).pre (fun _ q => q) fun t k => XT.ishl X.here K.1 rfl (hb K.by hd) rfl k
theorem Wk.ishr {x y : Int32} (hd : InsA md pc (.ishr) 1 pc') (h : Wk l Z M md pc' L (.int (x >>> (y &&& 31)) :: S) w cu su Q) : Wk l Z M md pc L (.int y :: .int x :: S) w cu su Q :=
  fun en p e s m args below meth c T locs r X K hz hF hR hL => by
  obtain ⟨hd, rfl⟩ := hd
  exact (h en p e s m args below meth c T locs r X K hz hF hR hL).pre (fun _ q => q) fun t k => XT.ishr X.here K.1 rfl (hb K.by hd) rfl k
theorem Wk.iushr {x y : Int32} (hd : InsA md pc (.iushr) 1 pc') (h : Wk l Z M md pc' L (.int (XT.ushr x y) :: S) w cu su Q) : Wk l Z M md pc L (.int y :: .int x :: S) w cu su Q :=
  fun en p e s m args below meth c T locs r X K hz hF hR hL => by
  obtain ⟨hd, rfl⟩ := hd
  exact (h en p e s m args below meth c T locs r X K hz hF hR hL).pre (fun _ q => q) fun t k => XT.iushr X.here K.1 rfl (hb K.by hd) rfl k
theorem Wk.ineg {x : Int32} (hd : InsA md pc (.ineg) 1 pc') (h : Wk l Z M md pc' L (.int (-x) :: S) w cu su Q) : Wk l Z M md pc L (.int x :: S) w cu su Q :=
  fun en p e s m args below meth c T locs r X K hz hF hR hL => by
  obtain ⟨hd, rfl⟩ := hd
  exact (h en p e s m args below meth c T locs r X K hz hF hR hL).pre (fun _ q => q) fun t k => XS.ineg X.here K.1 rfl (hb K.by hd) rfl k
theorem Wk.idiv {x y : Int32} (hd : InsA md pc (.idiv) 1 pc') (hy : y ≠ 0) (h : Wk l Z M md pc' L (.int (x / y) :: S) w cu su Q) : Wk l Z M md pc L (.int y :: .int x :: S) w cu su Q :=
  fun en p e s m args below meth c T locs r X K hz hF hR hL => by
  obtain ⟨hd, rfl⟩ := hd
  exact (h en p e s m args below meth c T locs r X K hz hF hR hL).pre (fun _ q => q) fun t k => XS.idiv X.here K.1 rfl (hb K.by hd) rfl hy k
theorem Wk.irem {x y : Int32} (hd : InsA md pc (.irem) 1 pc') (hy : y ≠ 0) (h : Wk l Z M md pc' L (.int (x % y) :: S) w cu su Q) : Wk l Z M md pc L (.int y :: .int x :: S) w cu su Q :=
  fun en p e s m args below meth c T locs r X K hz hF hR hL => by
  obtain ⟨hd, rfl⟩ := hd
  exact (h en p e s m args below meth c T locs r X K hz hF hR hL).pre (fun _ q => q) fun t k => Jvm.RoadKit.iremM X K.1 rfl (hb K.by hd) rfl hy k
theorem Wk.ladd {x y : Int64} (hd : InsA md pc (.ladd) 1 pc') (h : Wk l Z M md pc' L (.long (x + y) :: S) w cu su Q) : Wk l Z M md pc L (.long y :: .long x :: S) w cu su Q :=
  fun en p e s m args below meth c T locs r X K hz hF hR hL => by
  obtain ⟨hd, rfl⟩ := hd
  exact (h en p e s m args below meth c T locs r X K hz hF hR hL).pre (fun _ q => q) fun t k => XT.ladd X.here K.1 rfl (hb K.by hd) rfl k
theorem Wk.lsub {x y : Int64} (hd : InsA md pc (.lsub) 1 pc') (h : Wk l Z M md pc' L (.long (x - y) :: S) w cu su Q) : Wk l Z M md pc L (.long y :: .long x :: S) w cu su Q :=
  fun en p e s m args below meth c T locs r X K hz hF hR hL => by
  obtain ⟨hd, rfl⟩ := hd
  exact (h en p e s m args below meth c T locs r X K hz hF hR hL).pre (fun _ q => q) fun t k => XT.lsub X.here K.1 rfl (hb K.by hd) rfl k
theorem Wk.lmul {x y : Int64} (hd : InsA md pc (.lmul) 1 pc') (h : Wk l Z M md pc' L (.long (x * y) :: S) w cu su Q) : Wk l Z M md pc L (.long y :: .long x :: S) w cu su Q :=
  fun en p e s m args below meth c T locs r X K hz hF hR hL => by
  obtain ⟨hd, rfl⟩ := hd
  exact (h en p e s m args below meth c T locs r X K hz hF hR hL).pre (fun _ q => q) fun t k => XT.lmul X.here K.1 rfl (hb K.by hd) rfl k
theorem Wk.land {x y : Int64} (hd : InsA md pc (.land) 1 pc') (h : Wk l Z M md pc' L (.long (x &&& y) :: S) w cu su Q) : Wk l Z M md pc L (.long y :: .long x :: S) w cu su Q :=
  fun en p e s m args below meth c T locs r X K hz hF hR hL => by
  obtain ⟨hd, rfl⟩ := hd
  exact (h en p e s m args below meth c T locs r X K hz hF hR hL).pre (fun _ q => q) fun t k => XT.land X.here K.1 rfl (hb K.by hd) rfl k
theorem Wk.lor {x y : Int64} (hd : InsA md pc (.lor) 1 pc') (h : Wk l Z M md pc' L (.long (x ||| y) :: S) w cu su Q) : Wk l Z M md pc L (.long y :: .long x :: S) w cu su Q :=
  fun en p e s m args below meth c T locs r X K hz hF hR hL => by
  obtain ⟨hd, rfl⟩ := hd
  exact (h en p e s m args below meth c T locs r X K hz hF hR hL).pre (fun _ q => q) fun t k => XT.lor X.here K.1 rfl (hb K.by hd) rfl k
theorem Wk.lxor {x y : Int64} (hd : InsA md pc (.lxor) 1 pc') (h : Wk l Z M md pc' L (.long (x ^^^ y) :: S) w cu su Q) : Wk l Z M md pc L (.long y :: .long x :: S) w cu su Q :=
  fun en p e s m args below meth c T locs r X K hz hF hR hL => by
  obtain ⟨hd, rfl⟩ := hd
  exact (h en p e s m args below meth c T locs r X K hz hF hR hL).pre (fun _ q => q) fun t k => XT.lxor X.here K.1 rfl (hb K.by hd) rfl k
theorem Wk.ldiv {x y : Int64} (hd : InsA md pc (.ldiv) 1 pc') (hy : y ≠ 0) (h : Wk l Z M md pc' L (.long (x / y) :: S) w cu su Q) : Wk l Z M md pc L (.long y :: .long x :: S) w cu su Q :=
  fun en p e s m args below meth c T locs r X K hz hF hR hL => by
  obtain ⟨hd, rfl⟩ := hd
  exact (h en p e s m args below meth c T locs r X K hz hF hR hL).pre (fun _ q => q) fun t k => XT.ldiv X.here K.1 rfl (hb K.by hd) rfl hy k
theorem Wk.lrem {x y : Int64} (hd : InsA md pc (.lrem) 1 pc') (hy : y ≠ 0) (h : Wk l Z M md pc' L (.long (x - (x / y) * y) :: S) w cu su Q) : Wk l Z M md pc L (.long y :: .long x :: S) w cu su Q :=
  fun en p e s m args below meth c T locs r X K hz hF hR hL => by
  obtain ⟨hd, rfl⟩ := hd
  exact (h en p e s m args below meth c T locs r X K hz hF hR hL).pre (fun _ q => q) fun t k => XT.lrem X.here K.1 rfl (hb K.by hd) rfl hy k
theorem Wk.lshl {x : Int64} {y : Int32} (hd : InsA md pc (.lshl) 1 pc') (h : Wk l Z M md pc' L (.long (x <<< (y.toInt64 &&& 63)) :: S) w cu su Q) : Wk l Z M md pc L (.int y :: .long x :: S) w cu su Q :=
  fun en p e s m args below meth c T locs r X K hz hF hR hL => by
  obtain ⟨hd, rfl⟩ := hd
  exact (h en p e s m args below meth c T locs r X K hz hF hR hL).pre (fun _ q => q) fun t k => XT.lshl X.here K.1 rfl (hb K.by hd) rfl k
theorem Wk.lshr {x : Int64} {y : Int32} (hd : InsA md pc (.lshr) 1 pc') (h : Wk l Z M md pc' L (.long (x >>> (y.toInt64 &&& 63)) :: S) w cu su Q) : Wk l Z M md pc L (.int y :: .long x :: S) w cu su Q :=
  fun en p e s m args below meth c T locs r X K hz hF hR hL => by
  obtain ⟨hd, rfl⟩ := hd
  exact (h en p e s m args below meth c T locs r X K hz hF hR hL).pre (fun _ q => q) fun t k => XT.lshr X.here K.1 rfl (hb K.by hd) rfl k
theorem Wk.lushr {x : Int64} {y : Int32} (hd : InsA md pc (.lushr) 1 pc') (h : Wk l Z M md pc' L (.long (XT.ushrL x y) :: S) w cu su Q) : Wk l Z M md pc L (.int y :: .long x :: S) w cu su Q :=
  fun en p e s m args below meth c T locs r X K hz hF hR hL => by
  obtain ⟨hd, rfl⟩ := hd
  exact (h en p e s m args below meth c T locs r X K hz hF hR hL).pre (fun _ q => q) fun t k => XT.lushr X.here K.1 rfl (hb K.by hd) rfl k
theorem Wk.i2l {x : Int32} (hd : InsA md pc (.i2l) 1 pc') (h : Wk l Z M md pc' L (.long x.toInt64 :: S) w cu su Q) : Wk l Z M md pc L (.int x :: S) w cu su Q :=
  fun en p e s m args below meth c T locs r X K hz hF hR hL => by
  obtain ⟨hd, rfl⟩ := hd
  exact (h en p e s m args below meth c T locs r X K hz hF hR hL).pre (fun _ q => q) fun t k => XT.i2l X.here K.1 rfl (hb K.by hd) rfl k
theorem Wk.l2i {x : Int64} (hd : InsA md pc (.l2i) 1 pc') (h : Wk l Z M md pc' L (.int x.toInt32 :: S) w cu su Q) : Wk l Z M md pc L (.long x :: S) w cu su Q :=
  fun en p e s m args below meth c T locs r X K hz hF hR hL => by
  obtain ⟨hd, rfl⟩ := hd
  exact (h en p e s m args below meth c T locs r X K hz hF hR hL).pre (fun _ q => q) fun t k => XT.l2i X.here K.1 rfl (hb K.by hd) rfl k
theorem Wk.lcmp {x y : Int64} (hd : InsA md pc (.lcmp) 1 pc') (h : Wk l Z M md pc' L (.int (XT.cmpL x y) :: S) w cu su Q) : Wk l Z M md pc L (.long y :: .long x :: S) w cu su Q :=
  fun en p e s m args below meth c T locs r X K hz hF hR hL => by
  obtain ⟨hd, rfl⟩ := hd
  exact (h en p e s m args below meth c T locs r X K hz hF hR hL).pre (fun _ q => q) fun t k => XT.lcmp X.here K.1 rfl (hb K.by hd) rfl k
theorem Wk.dup {v : Value} (hd : InsA md pc (.dup) 1 pc') (hv : v.category = 1) (h : Wk l Z M md pc' L (v :: v :: S) w cu su Q) : Wk l Z M md pc L (v :: S) w cu su Q :=
  fun en p e s m args below meth c T locs r X K hz hF hR hL => by
  obtain ⟨hd, rfl⟩ := hd
  exact (h en p e s m args below meth c T locs r X K hz hF hR hL).pre (fun _ q => q) fun t k => XS.dup X.here K.1 rfl (hb K.by hd) rfl (by rw [rv_cat]; exact hv) k
theorem Wk.pop {v : Value} (hd : InsA md pc (.pop) 1 pc') (hv : v.category = 1) (h : Wk l Z M md pc' L (S) w cu su Q) : Wk l Z M md pc L (v :: S) w cu su Q :=
  fun en p e s m args below meth c T locs r X K hz hF hR hL => by
  obtain ⟨hd, rfl⟩ := hd
  exact (h en p e s m args below meth c T locs r X K hz hF hR hL).pre (fun _ q => q) fun t k => XT.pop X.here K.1 rfl (hb K.by hd) rfl (by rw [rv_cat]; exact hv) k
theorem Wk.dup2 {v u : Value} (hd : InsA md pc (.dup2) 1 pc') (hv : v.category = 1) (hu : u.category = 1) (h : Wk l Z M md pc' L (v :: u :: v :: u :: S) w cu su Q) : Wk l Z M md pc L (v :: u :: S) w cu su Q :=
  fun en p e s m args below meth c T locs r X K hz hF hR hL => by
  obtain ⟨hd, rfl⟩ := hd
  exact (h en p e s m args below meth c T locs r X K hz hF hR hL).pre (fun _ q => q) fun t k => XT.dup2 X.here K.1 rfl (hb K.by hd) rfl (by rw [rv_cat]; exact hv) (by rw [rv_cat]; exact hu) k
theorem Wk.dupX1 {v u : Value} (hd : InsA md pc (.dup_x1) 1 pc') (hv : v.category = 1) (hu : u.category = 1) (h : Wk l Z M md pc' L (v :: u :: v :: S) w cu su Q) : Wk l Z M md pc L (v :: u :: S) w cu su Q :=
  fun en p e s m args below meth c T locs r X K hz hF hR hL => by
  obtain ⟨hd, rfl⟩ := hd
  exact (h en p e s m args below meth c T locs r X K hz hF hR hL).pre (fun _ q => q) fun t k => XT.dupX1 X.here K.1 rfl (hb K.by hd) rfl (by rw [rv_cat]; exact hv) (by rw [rv_cat]; exact hu) k
theorem Wk.istoreN {k : Fin 4} {x : Int32} (hd : InsA md pc (.istore_n k) 1 pc') (ho : C1 L[k.val]?) (hl : L.set k.val (.val (.int x)) = L') (h : Wk l Z M md pc' L' S w cu su Q) : Wk l Z M md pc L (.int x :: S) w cu su Q :=
  fun en p e s m args below meth c T locs r X K hz hF hR hL => by
  obtain ⟨hd, rfl⟩ := hd
  obtain ⟨r', e1, hL2⟩ := hL.st1 (v := .int x) ho rfl
  subst hl
  exact (h en p e s m args below meth c T locs r' X K hz hF hR hL2).pre (fun _ q => q) fun t k => XS.istoreN X.here K.1 rfl (hb K.by hd) rfl e1 k
theorem Wk.istore {k : Nat} {x : Int32} (hd : InsA md pc (.istore k) 2 pc') (ho : C1 L[k]?) (hl : L.set k (.val (.int x)) = L') (h : Wk l Z M md pc' L' S w cu su Q) : Wk l Z M md pc L (.int x :: S) w cu su Q :=
  fun en p e s m args below meth c T locs r X K hz hF hR hL => by
  obtain ⟨hd, rfl⟩ := hd
  obtain ⟨r', e1, hL2⟩ := hL.st1 (v := .int x) ho rfl
  subst hl
  exact (h en p e s m args below meth c T locs r' X K hz hF hR hL2).pre (fun _ q => q) fun t k => XS.istore X.here K.1 rfl (hb K.by hd) rfl e1 k
theorem Wk.astoreN {k : Fin 4} {x : Nat} (hd : InsA md pc (.astore_n k) 1 pc') (ho : C1 L[k.val]?) (hl : L.set k.val (.val (.ref x)) = L') (h : Wk l Z M md pc' L' S w cu su Q) : Wk l Z M md pc L (.ref x :: S) w cu su Q :=
  fun en p e s m args below meth c T locs r X K hz hF hR hL => by
  obtain ⟨hd, rfl⟩ := hd
  obtain ⟨r', e1, hL2⟩ := hL.st1 (v := .ref x) ho rfl
  subst hl
  exact (h en p e s m args below meth c T locs r' X K hz hF hR hL2).pre (fun _ q => q) fun t k => XS.astoreN X.here K.1 rfl (hb K.by hd) rfl rfl e1 k
theorem Wk.astore {k : Nat} {x : Nat} (hd : InsA md pc (.astore k) 2 pc') (ho : C1 L[k]?) (hl : L.set k (.val (.ref x)) = L') (h : Wk l Z M md pc' L' S w cu su Q) : Wk l Z M md pc L (.ref x :: S) w cu su Q :=
  fun en p e s m args below meth c T locs r X K hz hF hR hL => by
  obtain ⟨hd, rfl⟩ := hd
  obtain ⟨r', e1, hL2⟩ := hL.st1 (v := .ref x) ho rfl
  subst hl
  exact (h en p e s m args below meth c T locs r' X K hz hF hR hL2).pre (fun _ q => q) fun t k => XS.astore X.here K.1 rfl (hb K.by hd) rfl rfl e1 k
theorem Wk.lstoreN {k : Fin 4} {x : Int64} (hd : InsA md pc (.lstore_n k) 1 pc') (ho : C1 L[k.val]?) (ho2 : C1 L[k.val + 1]?) (hl : (L.set k.val (.val (.long x))).set (k.val + 1) .second = L') (h : Wk l Z M md pc' L' S w cu su Q) : Wk l Z M md pc L (.long x :: S) w cu su Q :=
  fun en p e s m args below meth c T locs r X K hz hF hR hL => by
  obtain ⟨hd, rfl⟩ := hd
  obtain ⟨r', e1, hL2⟩ := hL.st2 (v := .long x) ho ho2 rfl
  subst hl
  exact (h en p e s m args below meth c T locs r' X K hz hF hR hL2).pre (fun _ q => q) fun t k => XT.lstoreN X.here K.1 rfl (hb K.by hd) rfl e1 k
theorem Wk.lstore {k : Nat} {x : Int64} (hd : InsA md pc (.lstore k) 2 pc') (ho : C1 L[k]?) (ho2 : C1 L[k + 1]?) (hl : (L.set k (.val (.long x))).set (k + 1) .second = L') (h : Wk l Z M md pc' L' S w cu su Q) : Wk l Z M md pc L (.long x :: S) w cu su Q :=
  fun en p e s m args below meth c T locs r X K hz hF hR hL => by
  obtain ⟨hd, rfl⟩ := hd
  obtain ⟨r', e1, hL2⟩ := hL.st2 (v := .long x) ho ho2 rfl
  subst hl
  exact (h en p e s m args below meth c T locs r' X K hz hF hR hL2).pre (fun _ q => q) fun t k => XT.lstore X.here K.1 rfl (hb K.by hd) rfl e1 k
theorem Wk.iinc {k : Nat} {cst : Int} {x z : Int32} (hd : InsA md pc (.iinc k cst) 3 pc') (hv : L[k]? = some (.val (.int x))) (hz' : x + Int32.ofInt cst = z) (hl : L.set k (.val (.int z)) = L') (h : Wk l Z M md pc' L' S w cu su Q) : Wk l Z M md pc L S w cu su Q :=
  fun en p e s m args below meth c T locs r X K hz hF hR hL => by
  obtain ⟨hd, rfl⟩ := hd
  obtain ⟨r', e1, hL2⟩ := hL.st1 (i := k) (v := .int z) (Or.inr ⟨_, hv, rfl⟩) rfl
  subst hl hz'
  exact (h en p e s m args below meth c T locs r' X K hz hF hR hL2).pre (fun _ q => q) fun t k => XS.iinc X.here K.1 rfl (hb K.by hd) (hL.get hv) e1 k
theorem Wk.goto {o : Int} {pt : Nat} (hd : InsB md pc (.goto o) 3 pc' o pt) (h : Wk l Z M md pt L S w cu su Q) : Wk l Z M md pc L S w cu su Q :=
  fun en p e s m args below meth c T locs r X K hz hF hR hL => by
  obtain ⟨hd, rfl, h3, h4⟩ := hd
  exact (h en p e s m args below meth c T locs r X K hz hF hR hL).pre (fun _ q => q) fun t k => XS.goto X.here K.1 rfl rfl (hb K.by hd) h3 h4 k
theorem Wk.icmp_lt {x y : Int32} {o : Int} {pt : Nat} (hd : InsB md pc (.if_icmp .lt o) 3 pc' o pt) (h1 : x < y → Wk l Z M md pt L S w cu su Q) (h2 : ¬ x < y → Wk l Z M md pc' L S w cu su Q) : Wk l Z M md pc L (.int y :: .int x :: S) w cu su Q :=
  fun en p e s m args below meth c T locs r X K hz hF hR hL => by
  obtain ⟨hd, rfl, h3, h4⟩ := hd
  by_cases q : x < y
  · exact (h1 q en p e s m args below meth c T locs r X K hz hF hR hL).pre (fun _ q => q) fun t k => XS.icmpYes X.here K.1 rfl rfl (hb K.by hd) rfl (tlt q).1 h3 h4 k
  · exact (h2 q en p e s m args below meth c T locs r X K hz hF hR hL).pre (fun _ q => q) fun t k => XS.icmpNo X.here K.1 rfl (hb K.by hd) rfl (flt q).1 k
theorem Wk.if_lt {x : Int32} {o : Int} {pt : Nat} (hd : InsB md pc (.ifCond .lt o) 3 pc' o pt) (h1 : x < 0 → Wk l Z M md pt L S w cu su Q) (h2 : ¬ x < 0 → Wk l Z M md pc' L S w cu su Q) : Wk l Z M md pc L (.int x :: S) w cu su Q :=
  fun en p e s m args below meth c T locs r X K hz hF hR hL => by
  obtain ⟨hd, rfl, h3, h4⟩ := hd
  by_cases q : x < 0
  · exact (h1 q en p e s m args below meth c T locs r X K hz hF hR hL).pre (fun _ q => q) fun t k => XS.ifYes X.here K.1 rfl rfl (hb K.by hd) rfl ((if0 _ _).trans (tlt q).1) h3 h4 k
  · exact (h2 q en p e s m args below meth c T locs r X K hz hF hR hL).pre (fun _ q => q) fun t k => XS.ifNo X.here K.1 rfl (hb K.by hd) rfl ((if0 _ _).trans (flt q).1) k
theorem Wk.icmp_ge {x y : Int32} {o : Int} {pt : Nat} (hd : InsB md pc (.if_icmp .ge o) 3 pc' o pt) (h1 : ¬ x < y → Wk l Z M md pt L S w cu su Q) (h2 : x < y → Wk l Z M md pc' L S w cu su Q) : Wk l Z M md pc L (.int y :: .int x :: S) w cu su Q :=
  fun en p e s m args below meth c T locs r X K hz hF hR hL => by
  obtain ⟨hd, rfl, h3, h4⟩ := hd
  by_cases q : x < y
  · exact (h2 q en p e s m args below meth c T locs r X K hz hF hR hL).pre (fun _ q => q) fun t k => XS.icmpNo X.here K.1 rfl (hb K.by hd) rfl (tlt q).2.1 k
  · exact (h1 q en p e s m args below meth c T locs r X K hz hF hR hL).pre (fun _ q => q) fun t k => XS.icmpYes X.here K.1 rfl rfl (hb K.by hd) rfl (flt q).2.1 h3 h4 k
theorem Wk.if_ge {x : Int32} {o : Int} {pt : Nat} (hd : InsB md pc (.ifCond .ge o) 3 pc' o pt) (h1 : ¬ x < 0 → Wk l Z M md pt L S w cu su Q) (h2 : x < 0 → Wk l Z M md pc' L S w cu su Q) : Wk l Z M md pc L (.int x :: S) w cu su Q :=
  fun en p e s m args below meth c T locs r X K hz hF hR hL => by
  obtain ⟨hd, rfl, h3, h4⟩ := hd
  by_cases q : x < 0
  · exact (h2 q en p e s m args below meth c T locs r X K hz hF hR hL).pre (fun _ q => q) fun t k => XS.ifNo X.here K.1 rfl (hb K.by hd) rfl ((if0 _ _).trans (tlt q).2.1) k
  · exact (h1 q en p e s m args below meth c T locs r X K hz hF hR hL).pre (fun _ q => q) fun t k => XS.ifYes X.here K.1 rfl rfl (hb K.by hd) rfl ((if0 _ _).trans (flt q).2.1) h3 h4 k
theorem Wk.icmp_gt {x y : Int32} {o : Int} {pt : Nat} (hd : InsB md pc (.if_icmp .gt o) 3 pc' o pt) (h1 : y < x → Wk l Z M md pt L S w cu su Q) (h2 : ¬ y < x → Wk l Z M md pc' L S w cu su Q) : Wk l Z M md pc L (.int y :: .int x :: S) w cu su Q :=
  fun en p e s m args below meth c T locs r X K hz hF hR hL => by
  obtain ⟨hd, rfl, h3, h4⟩ := hd
  by_cases q : y < x
  · exact (h1 q en p e s m args below meth c T locs r X K hz hF hR hL).pre (fun _ q => q) fun t k => XS.icmpYes X.here K.1 rfl rfl (hb K.by hd) rfl (tlt q).2.2.1 h3 h4 k
  · exact (h2 q en p e s m args below meth c T locs r X K hz hF hR hL).pre (fun _ q => q) fun t k => XS.icmpNo X.here K.1 rfl (hb K.by hd) rfl (flt q).2.2.1 k
theorem Wk.if_gt {x : Int32} {o : Int} {pt : Nat} (hd : InsB md pc (.ifCond .gt o) 3 pc' o pt) (h1 : 0 < x → Wk l Z M md pt L S w cu su Q) (h2 : ¬ 0 < x → Wk l Z M md pc' L S w cu su Q) : Wk l Z M md pc L (.int x :: S) w cu su Q :=
  fun en p e s m args below meth c T locs r X K hz hF hR hL => by
  obtain ⟨hd, rfl, h3, h4⟩ := hd
  by_cases q : 0 < x
  · exact (h1 q en p e s m args below meth c T locs r X K hz hF hR hL).pre (fun _ q => q) fun t k => XS.ifYes X.here K.1 rfl rfl (hb K.by hd) rfl ((if0 _ _).trans (tlt q).2.2.1) h3 h4 k
  · exact (h2 q en p e s m args below meth c T locs r X K hz hF hR hL).pre (fun _ q => q) fun t k => XS.ifNo X.here K.1 rfl (hb K.by hd) rfl ((if0 _ _).trans (flt q).2.2.1) k
theorem Wk.icmp_le {x y : Int32} {o : Int} {pt : Nat} (hd : InsB md pc (.if_icmp .le o) 3 pc' o pt) (h1 : ¬ y < x → Wk l Z M md pt L S w cu su Q) (h2 : y < x → Wk l Z M md pc' L S w cu su Q) : Wk l Z M md pc L (.int y :: .int x :: S) w cu su Q :=
  fun en p e s m args below meth c T locs r X K hz hF hR hL => by
  obtain ⟨hd, rfl, h3, h4⟩ := hd
  by_cases q : y < x
  · exact (h2 q en p e s m args below meth c T locs r X K hz hF hR hL).pre (fun _ q => q) fun t k => XS.icmpNo X.here K.1 rfl (hb K.by hd) rfl (tlt q).2.2.2 k
  · exact (h1 q en p e s m args below meth c T locs r X K hz hF hR hL).pre (fun _ q => q) fun t k => XS.icmpYes X.here K.1 rfl rfl (hb K.by hd) rfl (flt q).2.2.2 h3 h4 k
theorem Wk.if_le {x : Int32} {o : Int} {pt : Nat} (hd : InsB md pc (.ifCond .le o) 3 pc' o pt) (h1 : ¬ 0 < x → Wk l Z M md pt L S w cu su Q) (h2 : 0 < x → Wk l Z M md pc' L S w cu su Q) : Wk l Z M md pc L (.int x :: S) w cu su Q :=
  fun en p e s m args below meth c T locs r X K hz hF hR hL => by
  obtain ⟨hd, rfl, h3, h4⟩ := hd
  by_cases q : 0 < x
  · exact (h2 q en p e s m args below meth c T locs r X K hz hF hR hL).pre (fun _ q => q) fun t k => XS.ifNo X.here K.1 rfl (hb K.by hd) rfl ((if0 _ _).trans (tlt q).2.2.2) k
  · exact (h1 q en p e s m args below meth c T locs r X K hz hF hR hL).pre (fun _ q => q) fun t k => XS.ifYes X.here K.1 rfl rfl (hb K.by hd) rfl ((if0 _ _).trans (flt q).2.2.2) h3 h4 k
theorem Wk.icmp_eq {x y : Int32} {o : Int} {pt : Nat} (hd : InsB md pc (.if_icmp .eq o) 3 pc' o pt) (h1 : x = y → Wk l Z M md pt L S w cu su Q) (h2 : ¬ x = y → Wk l Z M md pc' L S w cu su Q) : Wk l Z M md pc L (.int y :: .int x :: S) w cu su Q :=
  fun en p e s m args below meth c T locs r X K hz hF hR hL => by
  obtain ⟨hd, rfl, h3, h4⟩ := hd
  by_cases q : x = y
  · exact (h1 q en p e s m args below meth c T locs r X K hz hF hR hL).pre (fun _ q => q) fun t k => XS.icmpYes X.here K.1 rfl rfl (hb K.by hd) rfl (teq q).1 h3 h4 k
  · exact (h2 q en p e s m args below meth c T locs r X K hz hF hR hL).pre (fun _ q => q) fun t k => XS.icmpNo X.here K.1 rfl (hb K.by hd) rfl (feq q).1 k
theorem Wk.if_eq {x : Int32} {o : Int} {pt : Nat} (hd : InsB md pc (.ifCond .eq o) 3 pc' o pt) (h1 : x = 0 → Wk l Z M md pt L S w cu su Q) (h2 : ¬ x = 0 → Wk l Z M md pc' L S w cu su Q) : Wk l Z M md pc L (.int x :: S) w cu su Q :=
  fun en p e s m args below meth c T locs r X K hz hF hR hL => by
  obtain ⟨hd, rfl, h3, h4⟩ := hd
  by_cases q : x = 0
  · exact (h1 q en p e s m args below meth c T locs r X K hz hF hR hL).pre (fun _ q => q) fun t k => XS.ifYes X.here K.1 rfl rfl (hb K.by hd) rfl ((if0 _ _).trans (teq q).1) h3 h4 k
  · exact (h2 q en p e s m args below meth c T locs r X K hz hF hR hL).pre (fun _ q => q) fun t k => XS.ifNo X.here K.1 rfl (hb K.by hd) rfl ((if0 _ _).trans (feq q).1) k
theorem Wk.icmp_ne {x y : Int32} {o : Int} {pt : Nat} (hd : InsB md pc (.if_icmp .ne o) 3 pc' o pt) (h1 : ¬ x = y → Wk l Z M md pt L S w cu su Q) (h2 : x = y → Wk l Z M md pc' L S w cu su Q) : Wk l Z M md pc L (.int y :: .int x :: S) w cu su Q :=
  fun en p e s m args below meth c T locs r X K hz hF hR hL => by
  obtain ⟨hd, rfl, h3, h4⟩ := hd
  by_cases q : x = y
  · exact (h2 q en p e s m args below meth c T locs r X K hz hF hR hL).pre (fun _ q => q) fun t k => XS.icmpNo X.here K.1 rfl (hb K.by hd) rfl (teq q).2 k
  · exact (h1 q en p e s m args below meth c T locs r X K hz hF hR hL).pre (fun _ q => q) fun t k => XS.icmpYes X.here K.1 rfl rfl (hb K.by hd) rfl (feq q).2 h3 h4 k
theorem Wk.if_ne {x : Int32} {o : Int} {pt : Nat} (hd : InsB md pc (.ifCond .ne o) 3 pc' o pt) (h1 : ¬ x = 0 → Wk l Z M md pt L S w cu su Q) (h2 : x = 0 → Wk l Z M md pc' L S w cu su Q) : Wk l Z M md pc L (.int x :: S) w cu su Q :=
  fun en p e s m args below meth c T locs r X K hz hF hR hL => by
  obtain ⟨hd, rfl, h3, h4⟩ := hd
  by_cases q : x = 0
  · exact (h2 q en p e s m args below meth c T locs r X K hz hF hR hL).pre (fun _ q => q) fun t k => XS.ifNo X.here K.1 rfl (hb K.by hd) rfl ((if0 _ _).trans (teq q).2) k
  · exact (h1 q en p e s m args below meth c T locs r X K hz hF hR hL).pre (fun _ q => q) fun t k => XS.ifYes X.here K.1 rfl rfl (hb K.by hd) rfl ((if0 _ _).trans (feq q).2) h3 h4 k
theorem Wk.tswIn {dflt low high o : Int} {offs : Array Int} {len pt : Nat} {x z : Int32} (hd : InsB md pc (.tableswitch dflt low high offs) len pc' o pt) (hx : x = z) (hin : ¬ (z.toInt < low ∨ z.toInt > high)) (hoff : offs[(z.toInt - low).toNat]? = some o) (h : Wk l Z M md pt L S w cu su Q) : Wk l Z M md pc L (.int x :: S) w cu su Q :=
  fun en p e s m args below meth c T locs r X K hz hF hR hL => by
  obtain ⟨hd, rfl, h3, h4⟩ := hd
  subst hx
  exact (h en p e s m args below meth c T locs r X K hz hF hR hL).pre (fun _ q => q) fun t k => XS.tswIn X.here K.1 rfl rfl (hb K.by hd) rfl hin hoff h3 h4 k
theorem Wk.tswOut {dflt low high : Int} {offs : Array Int} {len pt : Nat} {x : Int32} (hd : InsB md pc (.tableswitch dflt low high offs) len pc' dflt pt) (hout : x.toInt < low ∨ x.toInt > high) (h : Wk l Z M md pt L S w cu su Q) : Wk l Z M md pc L (.int x :: S) w cu su Q :=
  fun en p e s m args below meth c T locs r X K hz hF hR hL => by
  obtain ⟨hd, rfl, h3, h4⟩ := hd
  exact (h en p e s m args below meth c T locs r X K hz hF hR hL).pre (fun _ q => q) fun t k => XS.tswOut X.here K.1 rfl rfl (hb K.by hd) rfl hout h3 h4 k
theorem Wk.ldc {idx : Nat} {z : Int32} {a0 : Array Value} (hd : InsA md pc (.ldc idx) 2 pc') (wd : (Cond.constant M.own idx z).before a0 Z = true) (h : Wk l Z M md pc' L (.int z :: S) w cu su Q) : Wk l Z M md pc L S w cu su Q :=
  fun en p e s m args below meth c T locs r X K hz hF hR hL => by
  obtain ⟨hd, rfl⟩ := hd
  have hc : (Cond.constant M.own idx z).before args s = true := mvT K.2.1 wd
  exact (h en p e s m args below meth c T locs r X K hz hF hR hL).pre (fun _ q => q) fun t k => X.ldcInt K.1 K.2.2.1 hc (g := mkF m pc r (S.map (rv (M.rho en)))) rfl (hb K.by hd) t k
theorem Wk.ldcw {idx : Nat} {z : Int32} {a0 : Array Value} (hd : InsA md pc (.ldc_w idx) 3 pc') (wd : (Cond.constant M.own idx z).before a0 Z = true) (h : Wk l Z M md pc' L (.int z :: S) w cu su Q) : Wk l Z M md pc L S w cu su Q :=
  fun en p e s m args below meth c T locs r X K hz hF hR hL => by
  obtain ⟨hd, rfl⟩ := hd
  have hc : (Cond.constant M.own idx z).before args s = true := mvT K.2.1 wd
  exact (h en p e s m args below meth c T locs r X K hz hF hR hL).pre (fun _ q => q) fun t k => X.ldcwInt K.1 K.2.2.1 hc (g := mkF m pc r (S.map (rv (M.rho en)))) rfl (hb K.by hd) t k
theorem Wk.ldc2 {idx : Nat} {z : Int64} {a0 : Array Value} (hd : InsA md pc (.ldc2_w idx) 3 pc') (wd : (Cond.constantLong M.own idx z).before a0 Z = true) (h : Wk l Z M md pc' L (.long z :: S) w cu su Q) : Wk l Z M md pc L S w cu su Q :=
  fun en p e s m args below meth c T locs r X K hz hF hR hL => by
  obtain ⟨hd, rfl⟩ := hd
  have hc : (Cond.constantLong M.own idx z).before args s = true := mvT K.2.1 wd
  exact (h en p e s m args below meth c T locs r X K hz hF hR hL).pre (fun _ q => q) fun t k => X.ldc2Long K.1 K.2.2.1 hc (g := mkF m pc r (S.map (rv (M.rho en)))) rfl (hb K.by hd) t k
/-! returns -/
theorem Wk.ireturn {x : Int32} (hM : ∀ en h, M.frm en h h) (hret : rtOf md = some .int) (hd : InsA md pc .ireturn 1 pc') (hc : cu = exOf md) (hc2 : exOf md ≤ (rmOf md).cells) (hs : su ≤ (rmOf md).slots) (hq : Q (some (.int x)) w) : Wk l Z M md pc L (.int x :: S) w cu su Q :=
  fun en p e s m args below meth c T locs r X K hz hF hR hL => by
  subst hc
  have hr := K.2.2.2.2.1.trans hret
  exact ⟨T, locs, su, _, w, X, hc2, hs, hz, hF, hR, hM _ _, fun q => (by rw [hr] at q; cases q), fun ρ y e => (by cases e; rfl), hq, fun fs hf => retI X K.1 hr (hb K.by hd.1) hf⟩
theorem Wk.zreturn {x y : Int32} (hM : ∀ en h, M.frm en h h) (hret : rtOf md = some .boolean) (hd : InsA md pc .ireturn 1 pc') (hc : cu = exOf md) (hc2 : exOf md ≤ (rmOf md).cells) (hs : su ≤ (rmOf md).slots) (hy : nar .boolean x = y) (hq : Q (some (.int y)) w) : Wk l Z M md pc L (.int x :: S) w cu su Q :=
  fun en p e s m args below meth c T locs r X K hz hF hR hL => by
  subst hc hy
  have hr := K.2.2.2.2.1.trans hret
  exact ⟨T, locs, su, _, w, X, hc2, hs, hz, hF, hR, hM _ _, fun q => (by rw [hr] at q; cases q), fun ρ y e => (by cases e; rfl), hq, fun fs hf => retN X K.1 (t := .boolean) hr (by simp) (hb K.by hd.1) hf⟩
theorem Wk.lreturn {x : Int64} (hM : ∀ en h, M.frm en h h) (hret : rtOf md = some .long) (hd : InsA md pc .lreturn 1 pc') (hc : cu = exOf md) (hc2 : exOf md ≤ (rmOf md).cells) (hs : su ≤ (rmOf md).slots) (hq : Q (some (.long x)) w) : Wk l Z M md pc L [.long x] w cu su Q :=
  fun en p e s m args below meth c T locs r X K hz hF hR hL => by
  subst hc
  have hr := K.2.2.2.2.1.trans hret
  exact ⟨T, locs, su, _, w, X, hc2, hs, hz, hF, hR, hM _ _, fun q => (by rw [hr] at q; cases q), fun ρ y e => (by cases e; rfl), hq, fun fs hf => X.lreturnOut K.1 hr (hb K.by hd.1) hf⟩
theorem Wk.ret (hM : ∀ en h, M.frm en h h) (hret : rtOf md = none) (hd : InsA md pc .return_ 1 pc') (hc : cu = exOf md) (hc2 : exOf md ≤ (rmOf md).cells) (hs : su ≤ (rmOf md).slots) (hq : Q none w) : Wk l Z M md pc L [] w cu su Q :=
  fun en p e s m args below meth c T locs r X K hz hF hR hL => by
  subst hc
  have hr := K.2.2.2.2.1.trans hret
  exact ⟨T, locs, su, none, w, X, hc2, hs, hz, hF, hR, hM _ _, fun _ => rfl, fun ρ y e => (by cases e), hq, fun fs hf => X.returnOut K.1 hr (hb K.by hd.1) hf⟩
/-! a walk from the entry is a contract -/
theorem Wk.met (h : Wk l Z M md 0 L [] w 0 0 Q) (hp : plainName (nmOf md).cls = true) (ho : M.own = (nmOf md).cls) {en : E} {h0 : Heap} (hR : M.rel en w h0) (as : List Value) (hL : (argsToLocals as.toArray (mxOf md)).toList = L) (hw : wfL L = true) (ws : List Jvm.Cond) :
    MetFree l (nmOf md) (head1 (Jvm.Cond.code (nmOf md) (byOf md) (mxOf md) (rtOf md) :: ws) (rmOf md)) (fun a U => a = (as.map (rv (M.rho en))).toArray ∧ Z.Warmed39 U.vm ∧ U.heap = h0) (fun _ _ _ _ _ => True)
      (fun _ U o U' => ∃ v Lc, o = .returned v ∧ (∃ w', Q v w' ∧ M.rel en w' U'.heap ∧ M.frm en h0 U'.heap ∧ Fr (M.lo en) Lc ∧ U'.heap.size = h0.size + exOf md ∧ ∀ ρ x, v = some x → rv ρ x = x) ∧ FrameEnd U o U' Lc (rmOf md).cells (rmOf md).slots) := by
  refine MetFree.of_bodySF (plainFor_of_name hp) hisR ?_
  intro p e s m args below meth c s₁ Bd hml0 hP hK
  obtain ⟨rfl, hZ, hh⟩ := hP
  have hown : s.vm.findClass (nmOf md).cls = some m.cls := findClass_of_methodNamed Bd.named
  have hnm := (name_of_methodNamed Bd.named Bd.method).1
  have X0 : Stand p l e (rmOf md) s m (as.map (rv (M.rho en))).toArray below meth c s₁ [] 0 0 := Stand.of_body Bd
  have e0 : s₁.heap = s.heap := by rw [Bd.state]; rfl
  subst hh
  obtain ⟨T', locs', su', v, w', a1, a2, a3, a4, a5, a6, a7, a8, a9, a10, a11⟩ := h en p e s m _ below meth c s₁ [] _ X0 ⟨Bd.exec, hZ, by rw [ho]; exact hown, hnm, Bd.returns, BodyLoose.notSynchronized Bd, Bd.bytes, hml0⟩ (by rw [e0]; rfl) (Fr.nil _) (by rw [e0]; exact hR) (SR.entry (M.rho en) as (mxOf md) hL hw)
  obtain ⟨fs, hr, hrun, hended, hW, hsame⟩ := a1.leave (v := v) a8 (BodyLoose.notSynchronized Bd)
  rw [e0] at a7
  exact ⟨_, _, a11 fs hr, hrun, hended, v, locs', rfl, ⟨w', a10, a6, a7, a5, a4, a9⟩, ⟨_, rfl⟩, hW, hsame.mono a2 a3⟩
end Steps
end Jvm.Own

namespace Jvm.Own
open Jvm Jvm.ClassFile Sem Op Lib Jvm.Free Jvm.Stand Jvm.LawKit Jvm.RoadKit
/-! ## 3. One object of the project's class, with its arrays behind it -/
/-- how many arrays are made; the ints; the longs; the arrays of ints (and booleans); of longs -/
abbrev WO : Type := Nat × (Nat → Int32) × (Nat → Int64) × (Nat → Int32 → Int32) × (Nat → Int32 → Int64)
/-- the class; its fields of ints and booleans (number, name, descriptor); of longs; of arrays, in the order in which they are made -/
abbrev CD : Type := String × List (Nat × String × String) × List (Nat × String) × List (Nat × String × String × FieldType × Int32)
def ups {κ α : Type} [DecidableEq κ] (f : κ → α) (i : κ) (x : α) : κ → α := fun k => if k = i then x else f k
theorem ups_at {κ α : Type} [DecidableEq κ] (f : κ → α) (i : κ) (x : α) : ups f i x i = x := by simp [ups]
theorem ups_ne {κ α : Type} [DecidableEq κ] (f : κ → α) {i k : κ} (x : α) (h : k ≠ i) : ups f i x k = f k := by simp [ups, h]
def el : FieldType → Int32 → Int64 → Value
  | .long, _, j => .long j
  | _, i, _ => .int i
theorem el_int {ty : FieldType} (h : ty ≠ .long) (i : Int32) (j : Int64) : el ty i j = .int i := by cases ty <;> first | rfl | exact absurd rfl h
def AtA (Z : State) (h : Heap) (b : Addr) (ty : FieldType) (n : Int32) (f : Int32 → Int32) (g : Int32 → Int64) : Prop :=
  ∃ cl, Arr Z h b cl ty ∧ cl.slots.size = n.toNatClampNeg ∧ ∀ x : Int32, ¬ x < 0 → x < n → cl.slots[x.toNatClampNeg]? = some (el ty (f x) (g x))
def relC (Z : State) (cd : CD) (en : Nat × Nat) (w : WO) (h : Heap) : Prop :=
  en.2 ≤ en.1 ∧ Exa Z h en.1 cd.1 ∧ (∀ t ∈ cd.2.1, Fld Z h en.1 cd.1 t.2.1 t.2.2 (.int (w.2.1 t.1))) ∧ (∀ t ∈ cd.2.2.1, Fld Z h en.1 cd.1 t.2 "J" (.long (w.2.2.1 t.1))) ∧
  (∀ t ∈ cd.2.2.2, (t.1 < w.1 → Fld Z h en.1 cd.1 t.2.1 t.2.2.1 (.ref (en.1 + (t.1 + 1))) ∧ AtA Z h (en.1 + (t.1 + 1)) t.2.2.2.1 t.2.2.2.2 (w.2.2.2.1 t.1) (w.2.2.2.2 t.1)) ∧ (¬ t.1 < w.1 → Fld Z h en.1 cd.1 t.2.1 t.2.2.1 .null)) ∧
  (w.1 < cd.2.2.2.length → h.size = en.1 + 1 + w.1)
def frmC (cd : CD) (en : Nat × Nat) (h h' : Heap) : Prop := h.size ≤ h'.size ∧ ∀ (x : Nat) (c : Cell), h[x]? = some c → (x < en.1 ∨ en.1 + cd.2.2.2.length < x) → h'[x]? = some c
abbrev MoC (Z : State) (cd : CD) : Mode WO (Nat × Nat) := (cd.1, fun en k => en.1 + k, fun en => en.2, relC Z cd, frmC cd)
theorem nn {a b : Nat} (h : a ≠ b) : @Ne Addr a b := h
theorem frmC.refl (cd : CD) (en : Nat × Nat) (h : Heap) : frmC cd en h h := ⟨Nat.le_refl _, fun _ _ q _ => q⟩
theorem frmC.trans {cd : CD} {en : Nat × Nat} {h1 h2 h3 : Heap} (a : frmC cd en h1 h2) (b : frmC cd en h2 h3) : frmC cd en h1 h3 := ⟨Nat.le_trans a.1 b.1, fun x c q r => b.2 x c (a.2 x c q r) r⟩
theorem frmC.wr {cd : CD} {en : Nat × Nat} {h h' : Heap} {b : Nat} {sl : Nat} {v : Value} (W : Wr h h' b sl v) (h1 : en.1 ≤ b) (h2 : b ≤ en.1 + cd.2.2.2.length) : frmC cd en h h' := by
  refine ⟨Nat.le_of_eq W.size.symm, fun x c q r => ?_⟩
  obtain ⟨c', e1, -, -, -, e5, -⟩ := wr_at W q
  rw [← e5 (nn (by omega))]; exact e1
theorem frmC.ext {cd : CD} {en : Nat × Nat} {h h' : Heap} (E : Ext h h') : frmC cd en h h' := ⟨E.1, fun x c q _ => E.2 x c q⟩
def okC (cd : CD) : Prop :=
  (∀ t ∈ cd.2.1, ∀ t' ∈ cd.2.1, (t.1 = t'.1 → t = t') ∧ (t.1 ≠ t'.1 → t.2.1 ≠ t'.2.1)) ∧ (∀ t ∈ cd.2.2.1, ∀ t' ∈ cd.2.2.1, (t.1 = t'.1 → t = t') ∧ (t.1 ≠ t'.1 → t.2 ≠ t'.2)) ∧ (∀ t ∈ cd.2.2.2, ∀ t' ∈ cd.2.2.2, (t.1 = t'.1 → t = t') ∧ (t.1 ≠ t'.1 → t.2.1 ≠ t'.2.1)) ∧
  (∀ t ∈ cd.2.1, ∀ t' ∈ cd.2.2.1, t.2.1 ≠ t'.2) ∧ (∀ t ∈ cd.2.1, ∀ t' ∈ cd.2.2.2, t.2.1 ≠ t'.2.1) ∧ (∀ t ∈ cd.2.2.1, ∀ t' ∈ cd.2.2.2, t.2 ≠ t'.2.1) ∧
  (∀ t ∈ cd.2.1, parseFieldDescriptor t.2.2 = some .int ∨ parseFieldDescriptor t.2.2 = some .boolean) ∧
  (∀ t ∈ cd.2.2.2, parseFieldDescriptor t.2.2.1 = some (.array t.2.2.2.1) ∧ t.1 < cd.2.2.2.length ∧ (t.2.2.2.1 = .int ∨ t.2.2.2.1 = .boolean ∨ t.2.2.2.1 = .long) ∧ ¬ t.2.2.2.2 < 0)
/-- what the words say of the class -/
def CO (Z : State) (a0 : Array Value) (cd : CD) : Prop :=
  (∃ kk, (Cond.instantiable cd.1 kk).before a0 Z = true) ∧ (∀ t ∈ cd.2.1, Laid Z a0 cd.1 cd.1 t.2.1 t.2.2) ∧ (∀ t ∈ cd.2.2.1, Laid Z a0 cd.1 cd.1 t.2 "J") ∧ (∀ t ∈ cd.2.2.2, Laid Z a0 cd.1 cd.1 t.2.1 t.2.2.1) ∧ okC cd
theorem pJ : parseFieldDescriptor "J" = some .long := by decide +kernel
theorem snJ {Z : State} {a0 : Array Value} {C n n' d' : String} {t' : FieldType} (L : Laid Z a0 C C n "J") (L' : Laid Z a0 C C n' d') (hn : n ≠ n') (ht' : parseFieldDescriptor d' = some t') : Jvm.RoadKit.slotOf Z C n "J" ≠ Jvm.RoadKit.slotOf Z C n' d' := by
  have p := pJ
  generalize "J" = q at *
  exact slot_ne L L' hn p ht'
section Rel
variable {Z : State} {a0 : Array Value} {cd : CD} {en : Nat × Nat} {h h' : Heap} {k : Nat} {F : Nat → Int32} {G : Nat → Int64} {A : Nat → Int32 → Int32} {B : Nat → Int32 → Int64}
theorem pI (ok : CO Z a0 cd) {t : Nat × String × String} (ht : t ∈ cd.2.1) : ∃ ty, parseFieldDescriptor t.2.2 = some ty := by
  rcases ok.2.2.2.2.2.2.2.2.2.2.1 t ht with q | q <;> exact ⟨_, q⟩
theorem AtA.other {b b' : Addr} {ty : FieldType} {n : Int32} {f : Int32 → Int32} {g : Int32 → Int64} {sl : Nat} {v : Value} (W : Wr h h' b sl v) (H : AtA Z h b' ty n f g) (hne : b' ≠ b) : AtA Z h' b' ty n f g := by
  obtain ⟨cl, h1, h2, h3⟩ := H
  exact ⟨cl, h1.other W hne, h2, h3⟩
theorem AtA.ext {b' : Addr} {ty : FieldType} {n : Int32} {f : Int32 → Int32} {g : Int32 → Int64} (E : Ext h h') (H : AtA Z h b' ty n f g) : AtA Z h' b' ty n f g := by
  obtain ⟨cl, h1, h2, h3⟩ := H
  exact ⟨cl, h1.ext E, h2, h3⟩
theorem clamp_lt {x n : Int32} (h0 : ¬ x < 0) (h1 : x < n) : x.toNatClampNeg < n.toNatClampNeg := by
  simp only [Int32.lt_iff_toInt_lt, Int32.reduceToInt, Int32.toNatClampNeg] at *
  omega
theorem in_of {x n : Int32} {cl : Cell} (h2 : cl.slots.size = n.toNatClampNeg) (h0 : ¬ x < 0) (h1 : x < n) : ¬ (x < 0 ∨ cl.slots.size ≤ x.toNatClampNeg) := by
  have := clamp_lt h0 h1
  rintro (q | q)
  · exact h0 q
  · omega
theorem AtA.stI {b : Addr} {ty : FieldType} {n : Int32} {f : Int32 → Int32} {g : Int32 → Int64} {j x : Int32} (hty : ty ≠ .long) (h0 : ¬ j < 0) (h1 : j < n) (W : Wr h h' b j.toNatClampNeg (.int x)) (H : AtA Z h b ty n f g) : AtA Z h' b ty n (ups f j x) g := by
  obtain ⟨cl, g1, g2, g3⟩ := H
  refine ⟨_, g1.same W, by rw [sz_set]; exact g2, fun y y0 y1 => ?_⟩
  by_cases e : y = j
  · rw [get_hit (in_of g2 h0 h1) e, e, ups_at, el_int hty]
  · rw [get_miss h0 y0 e, ups_ne _ _ e]; exact g3 y y0 y1
theorem AtA.stJ {b : Addr} {n : Int32} {f : Int32 → Int32} {g : Int32 → Int64} {j : Int32} {x : Int64} (h0 : ¬ j < 0) (h1 : j < n) (W : Wr h h' b j.toNatClampNeg (.long x)) (H : AtA Z h b .long n f g) : AtA Z h' b .long n f (ups g j x) := by
  obtain ⟨cl, g1, g2, g3⟩ := H
  refine ⟨_, g1.same W, by rw [sz_set]; exact g2, fun y y0 y1 => ?_⟩
  by_cases e : y = j
  · rw [get_hit (in_of g2 h0 h1) e, e, ups_at]; rfl
  · rw [get_miss h0 y0 e, ups_ne _ _ e]; exact g3 y y0 y1
theorem relC.putI (ok : CO Z a0 cd) {i : Nat} {n d : String} {x : Int32} (hR : relC Z cd en (k, F, G, A, B) h) (ht : (i, n, d) ∈ cd.2.1) (W : Wr h h' en.1 (Jvm.RoadKit.slotOf Z cd.1 n d) (.int x)) : relC Z cd en (k, ups F i x, G, A, B) h' := by
  obtain ⟨r1, r2, r3, r4, r5, r6⟩ := hR
  obtain ⟨-, o2, o3, o4, q1, q2, q3, q4, q5, q6, q7, q8⟩ := ok
  obtain ⟨ty0, p0⟩ : ∃ ty, parseFieldDescriptor d = some ty := by rcases q7 _ ht with q | q <;> exact ⟨_, q⟩
  refine ⟨r1, r2.wr W, fun t m => ?_, fun t m => ?_, fun t m => ⟨fun hk => ?_, fun hk => ?_⟩, fun q => ?_⟩
  · obtain ⟨u1, u2⟩ := q1 _ m _ ht
    by_cases e : t.1 = i
    · have e2 := u1 e
      subst e2
      show Fld Z h' en.1 cd.1 n d (.int (ups F i x i))
      rw [ups_at]
      exact (r3 _ ht).same W
    · show Fld Z h' en.1 cd.1 _ _ (.int (ups F i x t.1))
      rw [ups_ne _ _ e]
      obtain ⟨ty1, p1⟩ : ∃ ty, parseFieldDescriptor t.2.2 = some ty := by rcases q7 _ m with q | q <;> exact ⟨_, q⟩
      have z0 := slot_ne (o2 _ m) (o2 _ ht) (u2 e) p1 p0
      exact (r3 t m).other W (Or.inr z0)
  · have e1 := o3 _ m
    have e2 := o2 _ ht
    have e3 := q4 _ ht _ m
    have e4 := snJ e1 e2 (Ne.symm e3) p0
    have e5 := r4 t m
    exact e5.other W (Or.inr e4)
  · obtain ⟨a1, a2⟩ := (r5 t m).1 hk
    have z0 := slot_ne (o4 _ m) (o2 _ ht) (Ne.symm (q5 _ ht _ m)) (q8 _ m).1 p0
    exact ⟨a1.other W (Or.inr z0), a2.other W (nn (by omega))⟩
  · have z0 := slot_ne (o4 _ m) (o2 _ ht) (Ne.symm (q5 _ ht _ m)) (q8 _ m).1 p0
    exact ((r5 t m).2 hk).other W (Or.inr z0)
  · rw [W.size]; exact r6 q
theorem relC.putJ (ok : CO Z a0 cd) {i : Nat} {n : String} {x : Int64} (hR : relC Z cd en (k, F, G, A, B) h) (ht : (i, n) ∈ cd.2.2.1) (W : Wr h h' en.1 (Jvm.RoadKit.slotOf Z cd.1 n "J") (.long x)) : relC Z cd en (k, F, ups G i x, A, B) h' := by
  obtain ⟨r1, r2, r3, r4, r5, r6⟩ := hR
  obtain ⟨-, o2, o3, o4, q1, q2, q3, q4, q5, q6, q7, q8⟩ := ok
  refine ⟨r1, r2.wr W, fun t m => ?_, fun t m => ?_, fun t m => ⟨fun hk => ?_, fun hk => ?_⟩, fun q => ?_⟩
  · obtain ⟨ty1, p1⟩ : ∃ ty, parseFieldDescriptor t.2.2 = some ty := by rcases q7 _ m with q | q <;> exact ⟨_, q⟩
    have z0 := Ne.symm (snJ (o3 _ ht) (o2 _ m) (Ne.symm (q4 _ m _ ht)) p1)
    exact (r3 t m).other W (Or.inr z0)
  · obtain ⟨u1, u2⟩ := q2 _ m _ ht
    by_cases e : t.1 = i
    · have e2 := u1 e
      subst e2
      show Fld Z h' en.1 cd.1 n "J" (.long (ups G i x i))
      rw [ups_at]
      exact (r4 _ ht).same W
    · show Fld Z h' en.1 cd.1 _ _ (.long (ups G i x t.1))
      rw [ups_ne _ _ e]
      have z0 := snJ (o3 _ m) (o3 _ ht) (u2 e) pJ
      exact (r4 t m).other W (Or.inr z0)
  · obtain ⟨a1, a2⟩ := (r5 t m).1 hk
    have z0 := Ne.symm (snJ (o3 _ ht) (o4 _ m) (q6 _ ht _ m) (q8 _ m).1)
    exact ⟨a1.other W (Or.inr z0), a2.other W (nn (by omega))⟩
  · have z0 := Ne.symm (snJ (o3 _ ht) (o4 _ m) (q6 _ ht _ m) (q8 _ m).1)
    exact ((r5 t m).2 hk).other W (Or.inr z0)
  · rw [W.size]; exact r6 q
theorem relC.stI (ok : CO Z a0 cd) {i : Nat} {n d : String} {ty : FieldType} {len j x : Int32} (hty : ty ≠ .long) (h0 : ¬ j < 0) (h1 : j < len) (hR : relC Z cd en (k, F, G, A, B) h) (ht : (i, n, d, ty, len) ∈ cd.2.2.2) (W : Wr h h' (en.1 + (i + 1)) j.toNatClampNeg (.int x)) : relC Z cd en (k, F, G, ups A i (ups (A i) j x), B) h' := by
  obtain ⟨r1, r2, r3, r4, r5, r6⟩ := hR
  obtain ⟨-, o2, o3, o4, q1, q2, q3, q4, q5, q6, q7, q8⟩ := ok
  refine ⟨r1, r2.wr W, fun t m => (r3 t m).other W (Or.inl (nn (by omega))), fun t m => (r4 t m).other W (Or.inl (nn (by omega))), fun t m => ⟨fun hk => ?_, fun hk => ((r5 t m).2 hk).other W (Or.inl (nn (by omega)))⟩, fun q => by rw [W.size]; exact r6 q⟩
  obtain ⟨a1, a2⟩ := (r5 t m).1 hk
  refine ⟨a1.other W (Or.inl (nn (by omega))), ?_⟩
  obtain ⟨u1, u2⟩ := q3 _ m _ ht
  show AtA Z h' _ _ _ (ups A i (ups (A i) j x) t.1) (B t.1)
  by_cases e : t.1 = i
  · have e2 := u1 e
    subst e2
    rw [ups_at]
    exact a2.stI hty h0 h1 W
  · rw [ups_ne _ _ e]
    exact a2.other W (nn (by omega))
theorem relC.stJ (ok : CO Z a0 cd) {i : Nat} {n d : String} {len j : Int32} {x : Int64} (h0 : ¬ j < 0) (h1 : j < len) (hR : relC Z cd en (k, F, G, A, B) h) (ht : (i, n, d, .long, len) ∈ cd.2.2.2) (W : Wr h h' (en.1 + (i + 1)) j.toNatClampNeg (.long x)) : relC Z cd en (k, F, G, A, ups B i (ups (B i) j x)) h' := by
  obtain ⟨r1, r2, r3, r4, r5, r6⟩ := hR
  obtain ⟨-, o2, o3, o4, q1, q2, q3, q4, q5, q6, q7, q8⟩ := ok
  refine ⟨r1, r2.wr W, fun t m => (r3 t m).other W (Or.inl (nn (by omega))), fun t m => (r4 t m).other W (Or.inl (nn (by omega))), fun t m => ⟨fun hk => ?_, fun hk => ((r5 t m).2 hk).other W (Or.inl (nn (by omega)))⟩, fun q => by rw [W.size]; exact r6 q⟩
  obtain ⟨a1, a2⟩ := (r5 t m).1 hk
  refine ⟨a1.other W (Or.inl (nn (by omega))), ?_⟩
  obtain ⟨u1, u2⟩ := q3 _ m _ ht
  show AtA Z h' _ _ _ (A t.1) (ups B i (ups (B i) j x) t.1)
  by_cases e : t.1 = i
  · have e2 := u1 e
    subst e2
    rw [ups_at]
    exact a2.stJ h0 h1 W
  · rw [ups_ne _ _ e]
    exact a2.other W (nn (by omega))
theorem relC.newA (ok : CO Z a0 cd) {h1 : Heap} {n d : String} {ty : FieldType} {len : Int32} {cA : ClassId} (hR : relC Z cd en (k, F, G, A, B) h) (ht : (k, n, d, ty, len) ∈ cd.2.2.2) (hA : A k = fun _ => 0) (hB : B k = fun _ => 0) (E : Ext h h1) (N : Arr Z h1 h.size (Jvm.RoadKit.newA cA ty len) ty) (W : Wr h1 h' en.1 (Jvm.RoadKit.slotOf Z cd.1 n d) (.ref h.size)) (hz : h'.size = h.size + 1) : relC Z cd en (k + 1, F, G, A, B) h' := by
  obtain ⟨r1, r2, r3, r4, r5, r6⟩ := hR
  obtain ⟨-, o2, o3, o4, q1, q2, q3, q4, q5, q6, q7, q8⟩ := ok
  have hsz : h.size = en.1 + 1 + k := r6 (q8 _ ht).2.1
  refine ⟨r1, (r2.ext E).wr W, fun t m => ?_, fun t m => ?_, fun t m => ⟨fun hk => ?_, fun hk => ?_⟩, fun q => ?_⟩
  · obtain ⟨ty1, p1⟩ : ∃ ty, parseFieldDescriptor t.2.2 = some ty := by rcases q7 _ m with q | q <;> exact ⟨_, q⟩
    have z0 := slot_ne (o2 _ m) (o4 _ ht) (q5 _ m _ ht) p1 (q8 _ ht).1
    exact ((r3 t m).ext E).other W (Or.inr z0)
  · have z0 := snJ (o3 _ m) (o4 _ ht) (q6 _ m _ ht) (q8 _ ht).1
    exact ((r4 t m).ext E).other W (Or.inr z0)
  · obtain ⟨u1, u2⟩ := q3 _ m _ ht
    by_cases e : t.1 = k
    · have e2 := u1 e
      subst e2
      have f0 := ((r5 _ ht).2 (Nat.lt_irrefl k)).ext E
      refine ⟨?_, ?_⟩
      · have := f0.same W
        rw [hsz] at this
        show Fld Z h' en.1 cd.1 n d (.ref (en.1 + (k + 1)))
        rw [show en.1 + (k + 1) = en.1 + 1 + k by omega]
        exact this
      · show AtA Z h' (en.1 + (k + 1)) ty len (A k) (B k)
        rw [hA, hB, show en.1 + (k + 1) = h.size by omega]
        refine AtA.other W ⟨_, N, sz_new _ _ _, fun x x0 x1 => ?_⟩ (nn (by omega))
        rw [get_new (in_of (cl := Jvm.RoadKit.newA cA ty len) (sz_new _ _ _) x0 x1 |> fun q => by rwa [sz_new] at q)]
        have o := (q8 _ ht).2.2.1
        rcases o with o | o | o <;> (have o' : ty = _ := o; subst o'; rfl)
    · obtain ⟨a1, a2⟩ := (r5 t m).1 (by show t.1 < k; have : t.1 < k + 1 := hk; omega)
      have z0 := slot_ne (o4 _ m) (o4 _ ht) (u2 e) (q8 _ m).1 (q8 _ ht).1
      exact ⟨(a1.ext E).other W (Or.inr z0), (a2.ext E).other W (nn (by omega))⟩
  · obtain ⟨u1, u2⟩ := q3 _ m _ ht
    have hk' : ¬ t.1 < k + 1 := hk
    have z0 := slot_ne (o4 _ m) (o4 _ ht) (u2 (by show t.1 ≠ k; omega)) (q8 _ m).1 (q8 _ ht).1
    exact (((r5 t m).2 (by show ¬ t.1 < k; omega)).ext E).other W (Or.inr z0)
  · show h'.size = en.1 + 1 + (k + 1)
    omega
end Rel
section StepsC
variable {l : Launch} {Z : State} {a0 : Array Value} {cd : CD} {md : MD} {pc pc' pc1 : Nat} {L L' : List Slot} {S : List Value} {k : Nat} {F : Nat → Int32} {G : Nat → Int64} {A : Nat → Int32 → Int32} {B : Nat → Int32 → Int64} {cu su cu' su' : Nat} {Q : Option Value → WO → Prop} {idx : Nat}
theorem Wk.getI {i : Nat} {n d : String} {x : Int32} (ht : (i, n, d) ∈ cd.2.1) (wl : (Cond.fieldLink cd.1 idx cd.1 n d).before a0 Z = true) (hd : InsA md pc (.getfield idx) 3 pc') (hx : F i = x) (h : Wk l Z (MoC Z cd) md pc' L (.int x :: S) (k, F, G, A, B) cu su Q) : Wk l Z (MoC Z cd) md pc L (.ref 0 :: S) (k, F, G, A, B) cu su Q :=
  fun en p e s m args below meth c T locs r X K hz hF hR hL => by
  obtain ⟨hd, rfl⟩ := hd
  subst hx
  obtain ⟨T1, X1, e1, st⟩ := getF X K.1 K.2.1 K.2.2.1 (host := "") (Or.inl wl) Via.refl rfl (hR.2.2.1 _ ht) (g := mkF m pc r (.ref en.1 :: S.map (rv ((MoC Z cd).rho en)))) rfl rfl (hb K.by hd)
  refine (h en p e s m args below meth c T1 locs r X1 K (by rw [e1]; exact hz) hF (by rw [e1]; exact hR) hL).pre (fun _ q => by rw [e1] at q; exact q) fun t q => st t q
theorem Wk.getJ {i : Nat} {n : String} {x : Int64} (ht : (i, n) ∈ cd.2.2.1) (wl : (Cond.fieldLink cd.1 idx cd.1 n "J").before a0 Z = true) (hd : InsA md pc (.getfield idx) 3 pc') (hx : G i = x) (h : Wk l Z (MoC Z cd) md pc' L (.long x :: S) (k, F, G, A, B) cu su Q) : Wk l Z (MoC Z cd) md pc L (.ref 0 :: S) (k, F, G, A, B) cu su Q :=
  fun en p e s m args below meth c T locs r X K hz hF hR hL => by
  obtain ⟨hd, rfl⟩ := hd
  subst hx
  obtain ⟨T1, X1, e1, st⟩ := getF X K.1 K.2.1 K.2.2.1 (host := "") (Or.inl wl) Via.refl rfl (hR.2.2.2.1 _ ht) (g := mkF m pc r (.ref en.1 :: S.map (rv ((MoC Z cd).rho en)))) rfl rfl (hb K.by hd)
  refine (h en p e s m args below meth c T1 locs r X1 K (by rw [e1]; exact hz) hF (by rw [e1]; exact hR) hL).pre (fun _ q => by rw [e1] at q; exact q) fun t q => st t q
theorem Wk.getA {i i' : Nat} {n d : String} {ty : FieldType} {len : Int32} (ht : (i, n, d, ty, len) ∈ cd.2.2.2) (hi : i < k) (hi' : i + 1 = i') (wl : (Cond.fieldLink cd.1 idx cd.1 n d).before a0 Z = true) (hd : InsA md pc (.getfield idx) 3 pc') (h : Wk l Z (MoC Z cd) md pc' L (.ref i' :: S) (k, F, G, A, B) cu su Q) : Wk l Z (MoC Z cd) md pc L (.ref 0 :: S) (k, F, G, A, B) cu su Q :=
  fun en p e s m args below meth c T locs r X K hz hF hR hL => by
  obtain ⟨hd, rfl⟩ := hd
  subst hi'
  obtain ⟨T1, X1, e1, st⟩ := getF X K.1 K.2.1 K.2.2.1 (host := "") (Or.inl wl) Via.refl rfl ((hR.2.2.2.2.1 _ ht).1 hi).1 (g := mkF m pc r (.ref en.1 :: S.map (rv ((MoC Z cd).rho en)))) rfl rfl (hb K.by hd)
  refine (h en p e s m args below meth c T1 locs r X1 K (by rw [e1]; exact hz) hF (by rw [e1]; exact hR) hL).pre (fun _ q => by rw [e1] at q; exact q) fun t q => st t q
theorem Wk.putI (ok : CO Z a0 cd) {i : Nat} {n : String} {x : Int32} (ht : (i, n, "I") ∈ cd.2.1) (wl : (Cond.fieldLink cd.1 idx cd.1 n "I").before a0 Z = true) (wy : (Cond.lays cd.1 cd.1 n "I").before a0 Z = true ∨ ((Cond.laysFinal cd.1 cd.1 n "I").before a0 Z = true ∧ (nmOf md).name = "<init>")) (hd : InsA md pc (.putfield idx) 3 pc') (h : Wk l Z (MoC Z cd) md pc' L S (k, ups F i x, G, A, B) cu su Q) : Wk l Z (MoC Z cd) md pc L (.int x :: .ref 0 :: S) (k, F, G, A, B) cu su Q :=
  fun en p e s m args below meth c T locs r X K hz hF hR hL => by
  obtain ⟨hd, rfl⟩ := hd
  obtain ⟨kk, wi⟩ := ok.1
  obtain ⟨T1, h1, X1, e1, W1, st⟩ := putF X K.1 K.2.1 K.2.2.1 (host := "") (Or.inl wl) Via.refl rfl (hR.2.2.1 _ ht) hR.2.1 (wy.imp id fun q => ⟨q.1, rfl, K.2.2.2.1.trans q.2⟩) wi (ty := .int) (v := .int x) (by decide +kernel) rfl rfl (g := mkF m pc r (.int x :: .ref en.1 :: S.map (rv ((MoC Z cd).rho en)))) rfl rfl (hb K.by hd)
  subst e1
  exact (h en p e s m args below meth c T1 _ r X1 K (by rw [W1.size]; exact hz) (Fr.snoc X1 hF hR.1) (relC.putI ok hR ht W1) hL).pre (fun _ q => (frmC.wr W1 (Nat.le_refl _) (Nat.le_add_right _ _)).trans q) fun t q => st t q
theorem Wk.putZ (ok : CO Z a0 cd) {i : Nat} {n : String} {x y : Int32} (hy : nar .boolean x = y) (ht : (i, n, "Z") ∈ cd.2.1) (wl : (Cond.fieldLink cd.1 idx cd.1 n "Z").before a0 Z = true) (wy : (Cond.lays cd.1 cd.1 n "Z").before a0 Z = true ∨ ((Cond.laysFinal cd.1 cd.1 n "Z").before a0 Z = true ∧ (nmOf md).name = "<init>")) (hd : InsA md pc (.putfield idx) 3 pc') (h : Wk l Z (MoC Z cd) md pc' L S (k, ups F i y, G, A, B) cu su Q) : Wk l Z (MoC Z cd) md pc L (.int x :: .ref 0 :: S) (k, F, G, A, B) cu su Q :=
  fun en p e s m args below meth c T locs r X K hz hF hR hL => by
  obtain ⟨hd, rfl⟩ := hd
  subst hy
  obtain ⟨kk, wi⟩ := ok.1
  obtain ⟨T1, h1, X1, e1, W1, st⟩ := putFN X K.1 K.2.1 K.2.2.1 wl Via.refl rfl (hR.2.2.1 _ ht) hR.2.1 (wy.imp id fun q => ⟨q.1, rfl, K.2.2.2.1.trans q.2⟩) wi (ty := .boolean) (v := .int x) (v' := .int (nar .boolean x)) (by decide +kernel) rfl (fits_nar_bool x) (g := mkF m pc r (.int x :: .ref en.1 :: S.map (rv ((MoC Z cd).rho en)))) rfl rfl (hb K.by hd)
  subst e1
  exact (h en p e s m args below meth c T1 _ r X1 K (by rw [W1.size]; exact hz) (Fr.snoc X1 hF hR.1) (relC.putI ok hR ht W1) hL).pre (fun _ q => (frmC.wr W1 (Nat.le_refl _) (Nat.le_add_right _ _)).trans q) fun t q => st t q
theorem Wk.putJ (ok : CO Z a0 cd) {i : Nat} {n : String} {x : Int64} (ht : (i, n) ∈ cd.2.2.1) (wl : (Cond.fieldLink cd.1 idx cd.1 n "J").before a0 Z = true) (wy : (Cond.lays cd.1 cd.1 n "J").before a0 Z = true ∨ ((Cond.laysFinal cd.1 cd.1 n "J").before a0 Z = true ∧ (nmOf md).name = "<init>")) (hd : InsA md pc (.putfield idx) 3 pc') (h : Wk l Z (MoC Z cd) md pc' L S (k, F, ups G i x, A, B) cu su Q) : Wk l Z (MoC Z cd) md pc L (.long x :: .ref 0 :: S) (k, F, G, A, B) cu su Q :=
  fun en p e s m args below meth c T locs r X K hz hF hR hL => by
  obtain ⟨hd, rfl⟩ := hd
  obtain ⟨kk, wi⟩ := ok.1
  obtain ⟨T1, h1, X1, e1, W1, st⟩ := putF X K.1 K.2.1 K.2.2.1 (host := "") (Or.inl wl) Via.refl rfl (hR.2.2.2.1 _ ht) hR.2.1 (wy.imp id fun q => ⟨q.1, rfl, K.2.2.2.1.trans q.2⟩) wi (ty := .long) (v := .long x) (by decide +kernel) rfl rfl (g := mkF m pc r (.long x :: .ref en.1 :: S.map (rv ((MoC Z cd).rho en)))) rfl rfl (hb K.by hd)
  subst e1
  exact (h en p e s m args below meth c T1 _ r X1 K (by rw [W1.size]; exact hz) (Fr.snoc X1 hF hR.1) (relC.putJ ok hR ht W1) hL).pre (fun _ q => (frmC.wr W1 (Nat.le_refl _) (Nat.le_add_right _ _)).trans q) fun t q => st t q
/-- an array is made and laid into its field at once -/
theorem Wk.newA (ok : CO Z a0 cd) {aty : ArrayType} {len : Int32} {n d : String} {ty : FieldType} {k' : Nat} (hty : newarray.typeOf aty = ty) (wa : (Cond.arrayClass (newarray.typeOf aty)).before a0 Z = true) (ht : (k, n, d, ty, len) ∈ cd.2.2.2) (wl : (Cond.fieldLink cd.1 idx cd.1 n d).before a0 Z = true)
    (wy : (Cond.lays cd.1 cd.1 n d).before a0 Z = true ∨ ((Cond.laysFinal cd.1 cd.1 n d).before a0 Z = true ∧ (nmOf md).name = "<init>")) (hd : InsA md pc (.newarray aty) 2 pc1) (hd2 : InsA md pc1 (.putfield idx) 3 pc') (hA : A k = fun _ => 0) (hB : B k = fun _ => 0) (hk : k + 1 = k') (hcu : cu + 1 = cu') (hsu : su + len.toNatClampNeg = su')
    (hcap : len.toNatClampNeg * 8 ≤ 536870912) (hc : cu' ≤ (rmOf md).cells) (hs : su' ≤ (rmOf md).slots) (h : Wk l Z (MoC Z cd) md pc' L S (k', F, G, A, B) cu' su' Q) : Wk l Z (MoC Z cd) md pc L (.int len :: .ref 0 :: S) (k, F, G, A, B) cu su Q :=
  fun en p e s m args below meth c T locs r X K hz hF hR hL => by
  obtain ⟨hd, rfl⟩ := hd
  obtain ⟨hd2, rfl⟩ := hd2
  subst hk hcu hsu hty
  obtain ⟨kk, wi⟩ := ok.1
  have p8 := ok.2.2.2.2.2.2.2.2.2.2.2 _ ht
  obtain ⟨T1, h1, cA, X1, e1, E1, N1, st1⟩ := newP X K.1 K.2.1 wa rfl (g := mkF m pc r (.int len :: .ref en.1 :: S.map (rv ((MoC Z cd).rho en)))) rfl (hb K.by hd) rfl p8.2.2.2 (cap := len.toNatClampNeg) (Nat.le_refl _) hcap hc hs
  subst e1
  obtain ⟨T2, h2, X2, e2, W2, st2⟩ := putF X1 K.1 K.2.1 K.2.2.1 (host := "") (Or.inl wl) Via.refl rfl (((hR.2.2.2.2.1 _ ht).2 (Nat.lt_irrefl k)).ext E1) (hR.2.1.ext E1) (wy.imp id fun q => ⟨q.1, rfl, K.2.2.2.1.trans q.2⟩) wi (v := .ref T.heap.size) p8.1 rfl rfl (g := mkF m (pc + 2) r (.ref T.heap.size :: .ref en.1 :: S.map (rv ((MoC Z cd).rho en)))) rfl rfl (hb K.by hd2)
  subst e2
  have z1 := X1.heapSize
  have z2 : (T.heap.size : Nat) < T1.heap.size := N1.lt
  have z3 := W2.size
  exact (h en p e s m args below meth c T2 _ r X2 K (by omega) (Fr.snoc X2 hF hR.1) (relC.newA ok hR ht hA hB E1 N1 W2 (by omega)) hL).pre (fun _ q => ((frmC.ext E1).trans (frmC.wr W2 (Nat.le_refl _) (Nat.le_add_right _ _))).trans q) fun t q => st1 t (st2 t q)
theorem relC.arr {en : Nat × Nat} {h : Heap} {i : Nat} {n d : String} {ty : FieldType} {len : Int32} (hR : relC Z cd en (k, F, G, A, B) h) (ht : (i, n, d, ty, len) ∈ cd.2.2.2) (hi : i < k) : AtA Z h (en.1 + (i + 1)) ty len (A i) (B i) := ((hR.2.2.2.2.1 _ ht).1 hi).2
theorem Wk.iaload {i i' : Nat} {n d : String} {len x : Int32} {y : Int32} (ht : (i, n, d, .int, len) ∈ cd.2.2.2) (hi : i < k) (hi' : i + 1 = i') (h0 : ¬ x < 0) (h1 : x < len) (hd : InsA md pc .iaload 1 pc') (hy : A i x = y) (h : Wk l Z (MoC Z cd) md pc' L (.int y :: S) (k, F, G, A, B) cu su Q) : Wk l Z (MoC Z cd) md pc L (.int x :: .ref i' :: S) (k, F, G, A, B) cu su Q :=
  fun en p e s m args below meth c T locs r X K hz hF hR hL => by
  obtain ⟨hd, rfl⟩ := hd
  subst hi' hy
  obtain ⟨cl, g1, g2, g3⟩ := relC.arr hR ht hi
  exact (h en p e s m args below meth c T locs r X K hz hF hR hL).pre (fun _ q => q) fun t q => X.iaload K.1 (j := x) (v := .int (A i x)) g1.1 (State.isArrayOf_alike K.2.1.alike g1.2.1) g1.2.2 (in_of g2 h0 h1) (g3 x h0 h1) (g := mkF m pc r (.int x :: .ref (en.1 + (i + 1)) :: S.map (rv ((MoC Z cd).rho en)))) rfl rfl (hb K.by hd) _ q
theorem Wk.baload {i i' : Nat} {n d : String} {len x : Int32} {y : Int32} (ht : (i, n, d, .boolean, len) ∈ cd.2.2.2) (hi : i < k) (hi' : i + 1 = i') (h0 : ¬ x < 0) (h1 : x < len) (hd : InsA md pc .baload 1 pc') (hy : A i x = y) (h : Wk l Z (MoC Z cd) md pc' L (.int y :: S) (k, F, G, A, B) cu su Q) : Wk l Z (MoC Z cd) md pc L (.int x :: .ref i' :: S) (k, F, G, A, B) cu su Q :=
  fun en p e s m args below meth c T locs r X K hz hF hR hL => by
  obtain ⟨hd, rfl⟩ := hd
  subst hi' hy
  obtain ⟨cl, g1, g2, g3⟩ := relC.arr hR ht hi
  exact (h en p e s m args below meth c T locs r X K hz hF hR hL).pre (fun _ q => q) fun t q => X.baloadBooleans K.1 (j := x) (v := .int (A i x)) g1.1 (State.isArrayOf_alike K.2.1.alike g1.2.1) g1.2.2 (in_of g2 h0 h1) (g3 x h0 h1) (g := mkF m pc r (.int x :: .ref (en.1 + (i + 1)) :: S.map (rv ((MoC Z cd).rho en)))) rfl rfl (hb K.by hd) _ q
theorem Wk.laload {i i' : Nat} {n d : String} {len x : Int32} {y : Int64} (ht : (i, n, d, .long, len) ∈ cd.2.2.2) (hi : i < k) (hi' : i + 1 = i') (h0 : ¬ x < 0) (h1 : x < len) (hd : InsA md pc .laload 1 pc') (hy : B i x = y) (h : Wk l Z (MoC Z cd) md pc' L (.long y :: S) (k, F, G, A, B) cu su Q) : Wk l Z (MoC Z cd) md pc L (.int x :: .ref i' :: S) (k, F, G, A, B) cu su Q :=
  fun en p e s m args below meth c T locs r X K hz hF hR hL => by
  obtain ⟨hd, rfl⟩ := hd
  subst hi' hy
  obtain ⟨cl, g1, g2, g3⟩ := relC.arr hR ht hi
  exact (h en p e s m args below meth c T locs r X K hz hF hR hL).pre (fun _ q => q) fun t q => X.laload K.1 (j := x) (v := .long (B i x)) g1.1 (State.isArrayOf_alike K.2.1.alike g1.2.1) g1.2.2 (in_of g2 h0 h1) (g3 x h0 h1) (g := mkF m pc r (.int x :: .ref (en.1 + (i + 1)) :: S.map (rv ((MoC Z cd).rho en)))) rfl rfl (hb K.by hd) _ q
theorem Wk.iastore (ok : CO Z a0 cd) {f : Int32 → Int32} {i i' : Nat} {n d : String} {len x v : Int32} (ht : (i, n, d, .int, len) ∈ cd.2.2.2) (hf : A i = f) (hi : i < k) (hi' : i + 1 = i') (h0 : ¬ x < 0) (h1 : x < len) (hd : InsA md pc .iastore 1 pc') (h : Wk l Z (MoC Z cd) md pc' L S (k, F, G, ups A i (ups f x v), B) cu su Q) : Wk l Z (MoC Z cd) md pc L (.int v :: .int x :: .ref i' :: S) (k, F, G, A, B) cu su Q :=
  fun en p e s m args below meth c T locs r X K hz hF hR hL => by
  obtain ⟨hd, rfl⟩ := hd
  subst hi' hf
  obtain ⟨cl, g1, g2, g3⟩ := relC.arr hR ht hi
  obtain ⟨T1, e1', X1, e1, W1, st⟩ := stI X K.1 K.2.1 rfl g1 (in_of g2 h0 h1) (g := mkF m pc r (.int v :: .int x :: .ref (en.1 + (i + 1)) :: S.map (rv ((MoC Z cd).rho en)))) rfl rfl (hb K.by hd)
  subst e1
  have p8 := (ok.2.2.2.2.2.2.2.2.2.2.2 _ ht).2.1
  exact (h en p e s m args below meth c T1 _ r X1 K (by rw [W1.size]; exact hz) (Fr.snoc X1 hF (Nat.le_trans hR.1 (Nat.le_add_right _ _))) (relC.stI ok (by decide) h0 h1 hR ht W1) hL).pre (fun _ q => (frmC.wr W1 (Nat.le_add_right _ _) (Nat.add_le_add_left (show i + 1 ≤ cd.2.2.2.length from p8) _)).trans q) fun t q => st t q
theorem Wk.bastore (ok : CO Z a0 cd) {f : Int32 → Int32} {i i' : Nat} {n d : String} {len x v v' : Int32} (hv : nar .boolean v = v') (ht : (i, n, d, .boolean, len) ∈ cd.2.2.2) (hf : A i = f) (hi : i < k) (hi' : i + 1 = i') (h0 : ¬ x < 0) (h1 : x < len) (hd : InsA md pc .bastore 1 pc') (h : Wk l Z (MoC Z cd) md pc' L S (k, F, G, ups A i (ups f x v'), B) cu su Q) : Wk l Z (MoC Z cd) md pc L (.int v :: .int x :: .ref i' :: S) (k, F, G, A, B) cu su Q :=
  fun en p e s m args below meth c T locs r X K hz hF hR hL => by
  obtain ⟨hd, rfl⟩ := hd
  subst hi' hv hf
  obtain ⟨cl, g1, g2, g3⟩ := relC.arr hR ht hi
  obtain ⟨T1, e1', X1, e1, W1, st⟩ := stZ X K.1 K.2.1 rfl g1 (in_of g2 h0 h1) (g := mkF m pc r (.int v :: .int x :: .ref (en.1 + (i + 1)) :: S.map (rv ((MoC Z cd).rho en)))) rfl rfl (hb K.by hd)
  subst e1
  have p8 := (ok.2.2.2.2.2.2.2.2.2.2.2 _ ht).2.1
  exact (h en p e s m args below meth c T1 _ r X1 K (by rw [W1.size]; exact hz) (Fr.snoc X1 hF (Nat.le_trans hR.1 (Nat.le_add_right _ _))) (relC.stI ok (by decide) h0 h1 hR ht W1) hL).pre (fun _ q => (frmC.wr W1 (Nat.le_add_right _ _) (Nat.add_le_add_left (show i + 1 ≤ cd.2.2.2.length from p8) _)).trans q) fun t q => st t q
theorem Wk.lastore (ok : CO Z a0 cd) {f : Int32 → Int64} {i i' : Nat} {n d : String} {len x : Int32} {v : Int64} (ht : (i, n, d, .long, len) ∈ cd.2.2.2) (hf : B i = f) (hi : i < k) (hi' : i + 1 = i') (h0 : ¬ x < 0) (h1 : x < len) (hd : InsA md pc .lastore 1 pc') (h : Wk l Z (MoC Z cd) md pc' L S (k, F, G, A, ups B i (ups f x v)) cu su Q) : Wk l Z (MoC Z cd) md pc L (.long v :: .int x :: .ref i' :: S) (k, F, G, A, B) cu su Q :=
  fun en p e s m args below meth c T locs r X K hz hF hR hL => by
  obtain ⟨hd, rfl⟩ := hd
  subst hi' hf
  obtain ⟨cl, g1, g2, g3⟩ := relC.arr hR ht hi
  obtain ⟨T1, e1', X1, e1, W1, st⟩ := stJ X K.1 K.2.1 rfl g1 (in_of g2 h0 h1) (g := mkF m pc r (.long v :: .int x :: .ref (en.1 + (i + 1)) :: S.map (rv ((MoC Z cd).rho en)))) rfl rfl (hb K.by hd)
  subst e1
  have p8 := (ok.2.2.2.2.2.2.2.2.2.2.2 _ ht).2.1
  exact (h en p e s m args below meth c T1 _ r X1 K (by rw [W1.size]; exact hz) (Fr.snoc X1 hF (Nat.le_trans hR.1 (Nat.le_add_right _ _))) (relC.stJ ok h0 h1 hR ht W1) hL).pre (fun _ q => (frmC.wr W1 (Nat.le_add_right _ _) (Nat.add_le_add_left (show i + 1 ≤ cd.2.2.2.length from p8) _)).trans q) fun t q => st t q
/-- Object.<init> -/
theorem Wk.initO {μ E : Type} {M : Mode μ E} {w : μ} {Q : Option Value → μ → Prop} {v : Nat} (w1 : (Cond.methodLink M.own idx Lib.objectInit).before a0 Z = true) (w2 : (Cond.instanceMethod Lib.objectInit).before a0 Z = true) (w3 : (Cond.code Lib.objectInit ⟨#[0xb1]⟩ 1 none).before a0 Z = true) (hd : InsA md pc (.invokespecial idx) 3 pc') (hl : L.length = mxOf md) (hf : 1 ≤ (rmOf md).frames) (hW : (S.map fun v => v.category).sum + 12 ≤ (rmOf md).locals)
    (h : Wk l Z M md pc' L S w cu su Q) : Wk l Z M md pc L (.ref v :: S) w cu su Q :=
  fun en p e s m args below meth c T locs r X K hz hF hR hL => by
  obtain ⟨hd, rfl⟩ := hd
  have cs : ∀ S : List Value, ((S.map (rv (M.rho en))).map fun v => v.category).sum = (S.map fun v => v.category).sum := fun S => by rw [List.map_map]; congr 1; exact List.map_congr_left fun v _ => rv_cat _ v
  obtain ⟨T1, X1, e1, st⟩ := Jvm.RoadKit.initO X K.1 K.2.1 K.2.2.1 w1 w2 w3 rfl (g := mkF m pc r (.ref (M.rho en v) :: S.map (rv (M.rho en)))) rfl (by show r.size = _; rw [hL.1, hl]; exact K.2.2.2.2.2.2.2.symm) rfl (hb K.by hd) hf (W := (S.map fun v => v.category).sum) (by show 2 * 0 + _ ≤ _; rw [cs]; omega) hW
  exact (h en p e s m args below meth c T1 locs r X1 K (by rw [e1]; exact hz) hF (by rw [e1]; exact hR) hL).pre (fun _ q => by rw [e1] at q; exact q) fun t q => st t q
end StepsC
end Jvm.Own

namespace Jvm.Own
open Jvm Jvm.ClassFile Sem Op Lib Jvm.Free Jvm.Stand Jvm.LawKit Jvm.RoadKit
/-! ## 4. Calls -/
def noRef : List Value → Bool
  | [] => true
  | .ref _ :: _ => false
  | _ :: t => noRef t
theorem noRef.map : (as : List Value) → noRef as = true → ∀ ρ, as.map (rv ρ) = as
  | [], _, _ => rfl
  | .ref _ :: _, h, _ => by cases h
  | .int _ :: t, h, ρ => by rw [List.map_cons, noRef.map t h ρ]; rfl
  | .long _ :: t, h, ρ => by rw [List.map_cons, noRef.map t h ρ]; rfl
  | .float _ :: t, h, ρ => by rw [List.map_cons, noRef.map t h ρ]; rfl
  | .double _ :: t, h, ρ => by rw [List.map_cons, noRef.map t h ρ]; rfl
  | .null :: t, h, ρ => by rw [List.map_cons, noRef.map t h ρ]; rfl
  | .retAddr _ :: t, h, ρ => by rw [List.map_cons, noRef.map t h ρ]; rfl
/-- what the words say of a callee: an instance method -/
def CalV (Z : State) (a0 : Array Value) (md : MD) (n : Nat) : Prop :=
  plainName (nmOf md).cls = true ∧ ((nmOf md).cls ≠ "java/lang/invoke/MethodHandle" ∧ (nmOf md).cls ≠ "java/lang/invoke/VarHandle") ∧ (∀ sig, parseMethodDescriptor (nmOf md).desc = some sig → n = sig.parameters.length) ∧
  (Cond.instanceMethod (nmOf md)).before a0 Z = true ∧ (Cond.code (nmOf md) (byOf md) (mxOf md) (rtOf md)).before a0 Z = true ∧ (Cond.initialized (nmOf md).cls).before a0 Z = true ∧
  (((Cond.declares (nmOf md)).before a0 Z = true ∧ (Cond.selects (nmOf md).cls (nmOf md) (nmOf md)).before a0 Z = true) ∨ ((Cond.privateMethod (nmOf md)).before a0 Z = true ∧ ∃ kk, (Cond.instantiable (nmOf md).cls kk).before a0 Z = true))
/-- a constructor -/
def CalI (Z : State) (a0 : Array Value) (md : MD) (n : Nat) : Prop :=
  plainName (nmOf md).cls = true ∧ ((nmOf md).cls ≠ "java/lang/invoke/MethodHandle" ∧ (nmOf md).cls ≠ "java/lang/invoke/VarHandle") ∧ (∀ sig, parseMethodDescriptor (nmOf md).desc = some sig → n = sig.parameters.length) ∧
  (Cond.instanceMethod (nmOf md)).before a0 Z = true ∧ (Cond.code (nmOf md) (byOf md) (mxOf md) (rtOf md)).before a0 Z = true ∧ (Cond.initialized (nmOf md).cls).before a0 Z = true ∧ (nmOf md).name = "<init>" ∧ rtOf md = none
/-- a static method -/
def CalS (Z : State) (a0 : Array Value) (md : MD) (n : Nat) : Prop :=
  plainName (nmOf md).cls = true ∧ ((nmOf md).cls ≠ "java/lang/invoke/MethodHandle" ∧ (nmOf md).cls ≠ "java/lang/invoke/VarHandle") ∧ (∀ sig, parseMethodDescriptor (nmOf md).desc = some sig → n = sig.parameters.length) ∧
  (Cond.static (nmOf md)).before a0 Z = true ∧ (Cond.code (nmOf md) (byOf md) (mxOf md) (rtOf md)).before a0 Z = true ∧ (Cond.initialized (nmOf md).cls).before a0 Z = true
/-- the figures of a call: the operands under it weigh wt -/
def Fits (md md' : MD) (wt cu su cu' su' : Nat) : Prop :=
  (rmOf md').frames + 1 ≤ (rmOf md).frames ∧ wt + (mxOf md' + 11) + (rmOf md').locals ≤ (rmOf md).locals ∧ cu + (rmOf md').cells = cu' ∧ su + (rmOf md').slots = su' ∧ cu' ≤ (rmOf md).cells ∧ su' ≤ (rmOf md).slots ∧ exOf md' = (rmOf md').cells
instance (md md' : MD) (wt cu su cu' su' : Nat) : Decidable (Fits md md' wt cu su cu' su') := by unfold Fits; infer_instance
section Core
variable {μ E : Type} {l : Launch} {Z : State} {a0 : Array Value} {M' : Mode μ E} {md md' : MD} {own : String} {p : Program} {e : Env} {s : State} {m : MethodId} {args : Array Value} {below : List Frame} {meth : Method} {c : Code} {T : State} {locs : List Loc} {cu su cu' su' wt pc idx : Nat} {as : List Value} {L' : List Slot} {w : μ} {Q' : Option Value → μ → Prop} {en : E} {a : Addr} {r : Array Slot} {rest : List Value}
theorem coreV (X : Stand p l e (rmOf md) s m args below meth c T locs cu su) (K : Kn Z own md p s m meth c) (hd : decode (byOf md) pc = .ok (.invokevirtual idx, 3)) (wl : (Cond.methodLink own idx (nmOf md')).before a0 Z = true) (cv : CalV Z a0 md' as.length) (hcal : Wk l Z M' md' 0 L' [] w 0 0 Q') (ho : M'.own = (nmOf md').cls) (hR : M'.rel en w T.heap) (hE : Exa Z T.heap a (nmOf md').cls) (ha : M'.rho en 0 = a)
    (hL : (argsToLocals (.ref 0 :: as).toArray (mxOf md')).toList = L') (hw : wfL L' = true) (ft : Fits md md' wt cu su cu' su') (hr : r.size = mxOf md) (hrest : (rest.map fun v => v.category).sum ≤ wt) :
    ∃ v T1 Lc w1, Stand p l e (rmOf md) s m args below meth c T1 (locs ++ Lc) cu' su' ∧ Q' v w1 ∧ M'.rel en w1 T1.heap ∧ M'.frm en T.heap T1.heap ∧ Fr (M'.lo en) Lc ∧ T1.heap.size = T.heap.size + exOf md' ∧ (∀ ρ x, v = some x → rv ρ x = x) ∧
      ∀ t, Steps p.tables e below (T1.setTop (mkF m (pc + 3) r (v.toList ++ rest))) t → Steps p.tables e below (T.setTop (mkF m pc r ((as.map (rv (M'.rho en))).reverse ++ .ref a :: rest))) t := by
  obtain ⟨v1, v2, v3, v4, v5, v6, v7⟩ := cv
  obtain ⟨f1, f2, f3, f4, f5, f6, f7⟩ := ft
  subst f3 f4 ha
  obtain ⟨hx, hZ, hown, -, -, -, hby, hml⟩ := K
  have bk := backOf (s := s) (args := args) (p := p) (e := e) (below := below) (len := 3) (W := wt) (R := rmOf md) (Q := fun v hh Lc => ∃ w', Q' v w' ∧ M'.rel en w' hh ∧ M'.frm en T.heap hh ∧ Fr (M'.lo en) Lc ∧ hh.size = T.heap.size + exOf md' ∧ ∀ ρ x, v = some x → rv ρ x = x) (hcal.met v1 ho hR (.ref 0 :: as) hL hw []) hZ v5 v6 f1 f2
  have hlen : ∀ sig, parseMethodDescriptor (nmOf md').desc = some sig → (as.map (rv (M'.rho en))).length = sig.parameters.length := fun sig q => by rw [List.length_map]; exact v3 sig q
  rcases v7 with ⟨d1, d2⟩ | ⟨d1, kk, d2⟩
  · obtain ⟨cq, kq, qa, qb, qc⟩ := isOf (T := T) hZ rfl hE
    obtain ⟨v, _, ⟨T1, L1, k1, n1⟩, -, X1, ⟨Lc, hQ, l1, y1, z1⟩, st⟩ := X.virtualBack hx (y := nmOf md') (z := nmOf md') hown (mvT hZ wl) (mvT hZ d1) (notFace_of_selects (args := #[]) (mvT hZ d2)) (mvT hZ d2) (mvT hZ v4) v2 bk qa qc (g := mkF m pc r ((as.map (rv (M'.rho en))).reverse ++ .ref (M'.rho en 0) :: rest)) rfl (hr.trans hml.symm) (Steps.refl _) (argsL := as.map (rv (M'.rho en))) (rest := rest) hlen rfl (by show 2 * 0 + _ ≤ _; omega) (hb hby hd) (fun _ _ => ⟨rfl, rfl, f5, f6⟩)
    dsimp only [Pt.U, Pt.locs, Pt.cells, Pt.slots] at X1 l1 y1 z1 st hQ
    subst l1 y1 z1
    obtain ⟨w1, q1, q2, q3, q4, q5, q6⟩ := hQ
    exact ⟨v, T1, Lc, w1, X1, q1, q2, q3, q4, q5, q6, fun t q => st.trans q⟩
  · obtain ⟨cc, kc, i1, i2, i3, i4, -⟩ := Cond.instantiable_spec (mvT (s := s) (args := #[]) hZ d2)
    have hni : kc.isInterface = false := by cases hq : kc.isInterface <;> simp [hq] at i4 ⊢
    have pv : s.PrivateAt (nmOf md') := Cond.privateMethod_at (mvP hZ d1 (args := #[]))
    have sel : (Cond.selects (nmOf md').cls (nmOf md') (nmOf md')).before args s = true := selects_self_of_private i1 i2 hni pv (mvT hZ v4) v2
    obtain ⟨cq, q7, q7'⟩ := hE.cell
    obtain ⟨v, _, ⟨T1, L1, k1, n1⟩, -, X1, ⟨Lc, hQ, l1, y1, z1⟩, st⟩ := X.privateBack hx (y := nmOf md') hown (mvT hZ wl) (mvT hZ v4) sel pv (mvT hZ v5) v2 bk (g := mkF m pc r ((as.map (rv (M'.rho en))).reverse ++ .ref (M'.rho en 0) :: rest)) rfl (hr.trans hml.symm) (Steps.refl _) (a := M'.rho en 0) q7 q7' (argsL := as.map (rv (M'.rho en))) (rest := rest) hlen rfl (by show 2 * 0 + _ ≤ _; omega) (hb hby hd) (fun _ _ => ⟨rfl, rfl, f5, f6⟩)
    dsimp only [Pt.U, Pt.locs, Pt.cells, Pt.slots] at X1 l1 y1 z1 st hQ
    subst l1 y1 z1
    obtain ⟨w1, q1, q2, q3, q4, q5, q6⟩ := hQ
    exact ⟨v, T1, Lc, w1, X1, q1, q2, q3, q4, q5, q6, fun t q => st.trans q⟩
theorem coreI (X : Stand p l e (rmOf md) s m args below meth c T locs cu su) (K : Kn Z own md p s m meth c) (hd : decode (byOf md) pc = .ok (.invokespecial idx, 3)) (wl : (Cond.methodLink own idx (nmOf md')).before a0 Z = true) (cv : CalI Z a0 md' as.length) (hcal : Wk l Z M' md' 0 L' [] w 0 0 Q') (ho : M'.own = (nmOf md').cls) (hR : M'.rel en w T.heap) (ha : M'.rho en 0 = a)
    (hL : (argsToLocals (.ref 0 :: as).toArray (mxOf md')).toList = L') (hw : wfL L' = true) (ft : Fits md md' wt cu su cu' su') (hr : r.size = mxOf md) (hrest : (rest.map fun v => v.category).sum ≤ wt) :
    ∃ v T1 Lc w1, Stand p l e (rmOf md) s m args below meth c T1 (locs ++ Lc) cu' su' ∧ Q' v w1 ∧ M'.rel en w1 T1.heap ∧ M'.frm en T.heap T1.heap ∧ Fr (M'.lo en) Lc ∧ T1.heap.size = T.heap.size + exOf md' ∧ (∀ ρ x, v = some x → rv ρ x = x) ∧
      ∀ t, Steps p.tables e below (T1.setTop (mkF m (pc + 3) r (v.toList ++ rest))) t → Steps p.tables e below (T.setTop (mkF m pc r ((as.map (rv (M'.rho en))).reverse ++ .ref a :: rest))) t := by
  obtain ⟨v1, v2, v3, v4, v5, v6, v7, v8⟩ := cv
  obtain ⟨f1, f2, f3, f4, f5, f6, f7⟩ := ft
  subst f3 f4 ha
  obtain ⟨hx, hZ, hown, -, -, -, hby, hml⟩ := K
  have bk := backOf (s := s) (args := args) (p := p) (e := e) (below := below) (len := 3) (W := wt) (R := rmOf md) (Q := fun v hh Lc => ∃ w', Q' v w' ∧ M'.rel en w' hh ∧ M'.frm en T.heap hh ∧ Fr (M'.lo en) Lc ∧ hh.size = T.heap.size + exOf md' ∧ ∀ ρ x, v = some x → rv ρ x = x) (hcal.met v1 ho hR (.ref 0 :: as) hL hw []) hZ v5 v6 f1 f2
  have hlen : ∀ sig, parseMethodDescriptor (nmOf md').desc = some sig → (as.map (rv (M'.rho en))).length = sig.parameters.length := fun sig q => by rw [List.length_map]; exact v3 sig q
  rw [v8] at v5
  obtain ⟨v, _, ⟨T1, L1, k1, n1⟩, -, X1, ⟨Lc, hQ, l1, y1, z1⟩, st⟩ := X.specialBack hx (y := nmOf md') v7 hown (mvT hZ wl) (mvT hZ v4) (mvT hZ v5) v2 bk (g := mkF m pc r ((as.map (rv (M'.rho en))).reverse ++ .ref (M'.rho en 0) :: rest)) rfl (hr.trans hml.symm) (Steps.refl _) (a := M'.rho en 0) (argsL := as.map (rv (M'.rho en))) (rest := rest) hlen rfl (by show 2 * 0 + _ ≤ _; omega) (hb hby hd) (fun _ _ => ⟨rfl, rfl, f5, f6⟩)
  dsimp only [Pt.U, Pt.locs, Pt.cells, Pt.slots] at X1 l1 y1 z1 st hQ
  subst l1 y1 z1
  obtain ⟨w1, q1, q2, q3, q4, q5, q6⟩ := hQ
  exact ⟨v, T1, Lc, w1, X1, q1, q2, q3, q4, q5, q6, fun t q => st.trans q⟩
theorem coreS (X : Stand p l e (rmOf md) s m args below meth c T locs cu su) (K : Kn Z own md p s m meth c) (hd : decode (byOf md) pc = .ok (.invokestatic idx, 3)) (wl : (Cond.methodLink own idx (nmOf md')).before a0 Z = true) (cv : CalS Z a0 md' as.length) (hcal : Wk l Z M' md' 0 L' [] w 0 0 Q') (ho : M'.own = (nmOf md').cls) (hR : M'.rel en w T.heap)
    (hL : (argsToLocals as.toArray (mxOf md')).toList = L') (hw : wfL L' = true) (ft : Fits md md' wt cu su cu' su') (hr : r.size = mxOf md) (hrest : (rest.map fun v => v.category).sum ≤ wt) :
    ∃ v T1 Lc w1, Stand p l e (rmOf md) s m args below meth c T1 (locs ++ Lc) cu' su' ∧ Q' v w1 ∧ M'.rel en w1 T1.heap ∧ M'.frm en T.heap T1.heap ∧ Fr (M'.lo en) Lc ∧ T1.heap.size = T.heap.size + exOf md' ∧ (∀ ρ x, v = some x → rv ρ x = x) ∧
      ∀ t, Steps p.tables e below (T1.setTop (mkF m (pc + 3) r (v.toList ++ rest))) t → Steps p.tables e below (T.setTop (mkF m pc r ((as.map (rv (M'.rho en))).reverse ++ rest))) t := by
  obtain ⟨v1, v2, v3, v4, v5, v6⟩ := cv
  obtain ⟨f1, f2, f3, f4, f5, f6, f7⟩ := ft
  subst f3 f4
  obtain ⟨hx, hZ, hown, -, -, -, hby, hml⟩ := K
  have bk := backOf (s := s) (args := args) (p := p) (e := e) (below := below) (len := 3) (W := wt) (R := rmOf md) (Q := fun v hh Lc => ∃ w', Q' v w' ∧ M'.rel en w' hh ∧ M'.frm en T.heap hh ∧ Fr (M'.lo en) Lc ∧ hh.size = T.heap.size + exOf md' ∧ ∀ ρ x, v = some x → rv ρ x = x) (hcal.met v1 ho hR as hL hw []) hZ v5 v6 f1 f2
  have hlen : ∀ sig, parseMethodDescriptor (nmOf md').desc = some sig → (as.map (rv (M'.rho en))).length = sig.parameters.length := fun sig q => by rw [List.length_map]; exact v3 sig q
  obtain ⟨v, _, ⟨T1, L1, k1, n1⟩, -, X1, ⟨Lc, hQ, l1, y1, z1⟩, st⟩ := Jvm.LawKit.callS X hx (y := nmOf md') hown (mvT hZ wl) (mvT hZ v4) (mvT hZ v6) (mvT hZ v5) v2 bk (g := mkF m pc r ((as.map (rv (M'.rho en))).reverse ++ rest)) rfl (hr.trans hml.symm) (argsL := as.map (rv (M'.rho en))) (rest := rest) hlen rfl (by show 2 * 0 + _ ≤ _; omega) (hb hby hd) (fun _ _ => ⟨rfl, rfl, f5, f6⟩)
  dsimp only [Pt.U, Pt.locs, Pt.cells, Pt.slots] at X1 l1 y1 z1 st hQ
  subst l1 y1 z1
  obtain ⟨w1, q1, q2, q3, q4, q5, q6⟩ := hQ
  exact ⟨v, T1, Lc, w1, X1, q1, q2, q3, q4, q5, q6, fun t q => st t q⟩
end Core
theorem cat_map (ρ : Nat → Addr) (S : List Value) : ((S.map (rv ρ)).map fun v => v.category).sum = (S.map fun v => v.category).sum := by
  rw [List.map_map]; congr 1; exact List.map_congr_left fun v _ => rv_cat _ v
theorem res_map {ρ : Nat → Addr} {v : Option Value} (h : ∀ ρ x, v = some x → rv ρ x = x) (S : List Value) : (v.toList ++ S).map (rv ρ) = v.toList ++ S.map (rv ρ) := by
  cases v with
  | none => rfl
  | some x => simp [h ρ x rfl]
section CallsC
variable {l : Launch} {Z : State} {a0 : Array Value} {cd : CD} {md md' : MD} {pc pc' wt idx : Nat} {L L' : List Slot} {S stk as : List Value} {w : WO} {cu su cu' su' : Nat} {Q Q' : Option Value → WO → Prop}
/-- a method of the same object -/
theorem Wk.callC (as : List Value) (S : List Value) (hs : stk = as.reverse ++ .ref 0 :: S) (wl : (Cond.methodLink cd.1 idx (nmOf md')).before a0 Z = true) (cv : CalV Z a0 md' as.length) (hc : (nmOf md').cls = cd.1) (nr : noRef as = true) (hcal : Wk l Z (MoC Z cd) md' 0 L' [] w 0 0 Q') (hL' : (argsToLocals (.ref 0 :: as).toArray (mxOf md')).toList = L') (hw : wfL L' = true) (hl : L.length = mxOf md)
    (hwt : (S.map fun v => v.category).sum = wt) (ft : Fits md md' wt cu su cu' su') (hd : InsA md pc (.invokevirtual idx) 3 pc') (h : ∀ v w', Q' v w' → Wk l Z (MoC Z cd) md pc' L (v.toList ++ S) w' cu' su' Q) : Wk l Z (MoC Z cd) md pc L stk w cu su Q :=
  fun en p e s m args below meth c T locs r X K hz hF hR hL => by
  obtain ⟨hd, rfl⟩ := hd
  subst hs
  obtain ⟨v, T1, Lc, w1, X1, q1, q2, q3, q4, q5, q6, st⟩ := coreV (M' := MoC Z cd) (en := en) (r := r) (rest := S.map (rv ((MoC Z cd).rho en))) X K hd wl cv hcal hc.symm hR (by rw [hc]; exact hR.2.1) rfl hL' hw ft (hL.1.trans hl) (by rw [cat_map]; omega)
  have f7 := ft.2.2.1
  have f8 := ft.2.2.2.2.2.2
  have em : (as.reverse ++ .ref 0 :: S).map (rv ((MoC Z cd).rho en)) = (as.map (rv ((MoC Z cd).rho en))).reverse ++ .ref ((MoC Z cd).rho en 0) :: S.map (rv ((MoC Z cd).rho en)) := by rw [List.map_append, List.map_reverse]; rfl
  have D := h v w1 q1 en p e s m args below meth c T1 _ r X1 K (by omega) (hF.app q4) q2 hL
  rw [res_map q6] at D
  rw [em]
  exact D.pre (fun _ q => frmC.trans q3 q) st
end CallsC
section CallsS
variable {μ E : Type} {l : Launch} {Z : State} {a0 : Array Value} {M : Mode μ E} {md md' : MD} {pc pc' wt idx : Nat} {L L' : List Slot} {S stk as : List Value} {w : μ} {cu su cu' su' : Nat} {Q Q' : Option Value → μ → Prop}
/-- a static method, in the same mode -/
theorem Wk.callS (hM : ∀ en h1 h2 h3, M.frm en h1 h2 → M.frm en h2 h3 → M.frm en h1 h3) (as : List Value) (S : List Value) (hs : stk = as.reverse ++ S) (wl : (Cond.methodLink M.own idx (nmOf md')).before a0 Z = true) (cv : CalS Z a0 md' as.length) (hc : (nmOf md').cls = M.own) (hcal : Wk l Z M md' 0 L' [] w 0 0 Q') (hL' : (argsToLocals as.toArray (mxOf md')).toList = L') (hw : wfL L' = true) (hl : L.length = mxOf md)
    (hwt : (S.map fun v => v.category).sum = wt) (ft : Fits md md' wt cu su cu' su') (hd : InsA md pc (.invokestatic idx) 3 pc') (h : ∀ v w', Q' v w' → Wk l Z M md pc' L (v.toList ++ S) w' cu' su' Q) : Wk l Z M md pc L stk w cu su Q :=
  fun en p e s m args below meth c T locs r X K hz hF hR hL => by
  obtain ⟨hd, rfl⟩ := hd
  subst hs
  obtain ⟨v, T1, Lc, w1, X1, q1, q2, q3, q4, q5, q6, st⟩ := coreS (M' := M) (en := en) (r := r) (rest := S.map (rv (M.rho en))) X K hd wl cv hcal hc.symm hR hL' hw ft (hL.1.trans hl) (by rw [cat_map]; omega)
  have f7 := ft.2.2.1
  have f8 := ft.2.2.2.2.2.2
  have em : (as.reverse ++ S).map (rv (M.rho en)) = (as.map (rv (M.rho en))).reverse ++ S.map (rv (M.rho en)) := by rw [List.map_append, List.map_reverse]
  have D := h v w1 q1 en p e s m args below meth c T1 _ r X1 K (by omega) (hF.app q4) q2 hL
  rw [res_map q6] at D
  rw [em]
  exact D.pre (fun _ q => hM _ _ _ _ q3 q) st
end CallsS
/-! ## 5. The law's own level: a script of ints (or none) and some objects, made one behind the other -/
abbrev WL : Type := Int32 × (Int32 → Int32) × List WO
def w0 : WO := (0, fun _ => 0, fun _ => 0, fun _ _ => 0, fun _ _ => 0)
def rhoL (cd : CD) (en : Nat × Nat) : Nat → Addr
  | 0 => en.2
  | i + 1 => en.1 + i * (cd.2.2.2.length + 1)
def relL (Z : State) (cd : CD) (sc : Bool) (en : Nat × Nat) (w : WL) (h : Heap) : Prop :=
  (sc = true → en.2 < en.1 ∧ ¬ w.1 < 0 ∧ AtA Z h en.2 .int w.1 w.2.1 (fun _ => 0)) ∧ (∀ i x, w.2.2[i]? = some x → relC Z cd (en.1 + i * (cd.2.2.2.length + 1), en.1) x h) ∧ h.size = en.1 + (w.2.2.map fun x => x.1 + 1).sum
abbrev MoL (Z : State) (cd : CD) (own : String) (sc : Bool) : Mode WL (Nat × Nat) := (own, rhoL cd, fun en => en.1, relL Z cd sc, fun _ _ _ => True)
def allK (n : Nat) : List WO → Prop
  | [] => True
  | x :: t => x.1 = n ∧ allK n t
theorem allK.get {n : Nat} : (ws : List WO) → allK n ws → ∀ (i : Nat) (x : WO), ws[i]? = some x → x.1 = n
  | [], _, i, x, h => by simp at h
  | y :: t, h, i, x, e => by
    cases i with
    | zero => simp at e; rw [← e]; exact h.1
    | succ i => exact allK.get t h.2 i x (by simpa using e)
theorem allK.sum {n : Nat} : {ws : List WO} → allK n ws → (ws.map fun x => x.1 + 1).sum = ws.length * (n + 1)
  | [], _ => by simp
  | y :: t, h => by rw [List.map_cons, List.sum_cons, allK.sum (ws := t) h.2, h.1, List.length_cons, Nat.add_mul]; omega
theorem sum_set : (ws : List WO) → (i : Nat) → (x y : WO) → ws[i]? = some x → ((ws.set i y).map fun x => x.1 + 1).sum + x.1 = (ws.map fun x => x.1 + 1).sum + y.1
  | [], i, x, y, h => by simp at h
  | z :: t, 0, x, y, h => by simp at h; subst h; simp; omega
  | z :: t, i + 1, x, y, h => by have := sum_set t i x y (by simpa using h); simp only [List.set_cons_succ, List.map_cons, List.sum_cons]; omega
section Keep
variable {Z : State} {cd : CD} {en : Nat × Nat} {h h' : Heap} {w : WO}
theorem Fld.cells {a : Addr} {C n d : String} {v : Value} (H : Fld Z h a C n d v) (q : ∀ c, h[a]? = some c → h'[a]? = some c) : Fld Z h' a C n d v := by
  obtain ⟨cell, cf, k, i, f, h1, r⟩ := H; exact ⟨cell, cf, k, i, f, q _ h1, r⟩
theorem Exa.cells {a : Addr} {C : String} (H : Exa Z h a C) (q : ∀ c, h[a]? = some c → h'[a]? = some c) : Exa Z h' a C := by
  obtain ⟨cell, k, h1, r⟩ := H; exact ⟨cell, k, q _ h1, r⟩
theorem AtA.cells {b : Addr} {ty : FieldType} {n : Int32} {f : Int32 → Int32} {g : Int32 → Int64} (H : AtA Z h b ty n f g) (q : ∀ c, h[b]? = some c → h'[b]? = some c) : AtA Z h' b ty n f g := by
  obtain ⟨cl, h1, r⟩ := H; exact ⟨cl, ⟨q _ h1.1, h1.2⟩, r⟩
theorem relC.cells (okA : ∀ t ∈ cd.2.2.2, t.1 < cd.2.2.2.length) (hR : relC Z cd en w h) (hk : w.1 = cd.2.2.2.length) (q : ∀ x c, en.1 ≤ x → x ≤ en.1 + cd.2.2.2.length → h[x]? = some c → h'[x]? = some c) : relC Z cd en w h' := by
  obtain ⟨r1, r2, r3, r4, r5, r6⟩ := hR
  have q0 := fun c => q en.1 c (Nat.le_refl _) (Nat.le_add_right _ _)
  refine ⟨r1, Exa.cells r2 q0, fun t m => Fld.cells (r3 t m) q0, fun t m => Fld.cells (r4 t m) q0, fun t m => ⟨fun k => ⟨Fld.cells ((r5 t m).1 k).1 q0, AtA.cells ((r5 t m).1 k).2 fun c => q _ c (Nat.le_add_right _ _) (by have := okA t m; omega)⟩, fun k => Fld.cells ((r5 t m).2 k) q0⟩, fun k => absurd k (by omega)⟩
end Keep
theorem apart {N i j n x : Nat} (hne : j ≠ i) (h1 : n + j * (N + 1) ≤ x) (h2 : x ≤ n + j * (N + 1) + N) : x < n + i * (N + 1) ∨ n + i * (N + 1) + N < x := by
  rcases Nat.lt_or_gt_of_ne hne with q | q
  · left
    have := Nat.mul_le_mul_right (N + 1) (show j + 1 ≤ i from q)
    rw [Nat.add_mul] at this
    omega
  · right
    have := Nat.mul_le_mul_right (N + 1) (show i + 1 ≤ j from q)
    rw [Nat.add_mul] at this
    omega
/-- one object's walk, seen from the law's level -/
theorem relL.step {Z : State} {cd : CD} {sc : Bool} {en : Nat × Nat} {sl : Int32} {sv : Int32 → Int32} {ws : List WO} {h h' : Heap} {i : Nat} {x y : WO} (okA : ∀ t ∈ cd.2.2.2, t.1 < cd.2.2.2.length) (hR : relL Z cd sc en (sl, sv, ws) h) (hi : ws[i]? = some x) (hoth : ∀ j z, ws[j]? = some z → j ≠ i → z.1 = cd.2.2.2.length)
    (hy : relC Z cd (en.1 + i * (cd.2.2.2.length + 1), en.1) y h') (hf : frmC cd (en.1 + i * (cd.2.2.2.length + 1), en.1) h h') (hz : h'.size + x.1 = h.size + y.1) : relL Z cd sc en (sl, sv, ws.set i y) h' := by
  obtain ⟨r1, r2, r3⟩ := hR
  refine ⟨fun q => ?_, fun j z hj => ?_, ?_⟩
  · obtain ⟨a1, a2, a3⟩ := r1 q
    refine ⟨a1, a2, AtA.cells a3 fun c hc => hf.2 _ c hc (Or.inl ?_)⟩
    show en.2 < en.1 + i * (cd.2.2.2.length + 1)
    omega
  · have hj' : (ws.set i y)[j]? = some z := hj
    rw [List.getElem?_set] at hj'
    by_cases e : i = j
    · subst e
      have : i < ws.length := (List.getElem?_eq_some_iff.mp hi).1
      simp [this] at hj'
      subst hj'
      exact hy
    · rw [if_neg e] at hj'
      exact relC.cells okA (r2 j z hj') (hoth j z hj' (Ne.symm e)) fun a c h1 h2 hc => hf.2 a c hc (apart (Ne.symm e) h1 h2)
  · have s1 := sum_set ws i x y hi
    have s2 : h.size = en.1 + (ws.map fun x => x.1 + 1).sum := r3
    show h'.size = en.1 + ((ws.set i y).map fun x => x.1 + 1).sum
    omega
section StepsL
variable {l : Launch} {Z : State} {a0 : Array Value} {cd : CD} {own : String} {sc : Bool} {md md' : MD} {pc pc' wt idx : Nat} {L L' : List Slot} {S stk as : List Value} {sl : Int32} {sv : Int32 → Int32} {ws ws' : List WO} {cu su cu' su' : Nat} {Q : Option Value → WL → Prop} {Q' : Option Value → WO → Prop}
theorem Wk.lenL (hd : InsA md pc .arraylength 1 pc') (h : Wk l Z (MoL Z cd own true) md pc' L (.int sl :: S) (sl, sv, ws) cu su Q) : Wk l Z (MoL Z cd own true) md pc L (.ref 0 :: S) (sl, sv, ws) cu su Q :=
  fun en p e s m args below meth c T locs r X K hz hF hR hL => by
  obtain ⟨hd, rfl⟩ := hd
  obtain ⟨a1, a2, cl, g1, g2, g3⟩ := hR.1 rfl
  have e1 : cl.slots.size.toInt32 = sl := by rw [g2]; exact (back32 a2).1
  refine (h en p e s m args below meth c T locs r X K hz hF hR hL).pre (fun _ q => q) fun t q => X.arraylength K.1 g1.1 (State.isArrayOf_alike K.2.1.alike g1.2.1) (g := mkF m pc r (.ref en.2 :: S.map (rv (rhoL cd en)))) rfl rfl (hb K.by hd) _ (by rw [e1]; exact q)
theorem Wk.ialoadL {x : Int32} (h0 : ¬ x < 0) (h1 : x < sl) (hd : InsA md pc .iaload 1 pc') (h : Wk l Z (MoL Z cd own true) md pc' L (.int (sv x) :: S) (sl, sv, ws) cu su Q) : Wk l Z (MoL Z cd own true) md pc L (.int x :: .ref 0 :: S) (sl, sv, ws) cu su Q :=
  fun en p e s m args below meth c T locs r X K hz hF hR hL => by
  obtain ⟨hd, rfl⟩ := hd
  obtain ⟨a1, a2, cl, g1, g2, g3⟩ := hR.1 rfl
  exact (h en p e s m args below meth c T locs r X K hz hF hR hL).pre (fun _ q => q) fun t q => X.iaload K.1 (j := x) (v := .int (sv x)) g1.1 (State.isArrayOf_alike K.2.1.alike g1.2.1) g1.2.2 (in_of g2 h0 h1) (g3 x h0 h1) (g := mkF m pc r (.int x :: .ref en.2 :: S.map (rv (rhoL cd en)))) rfl rfl (hb K.by hd) _ q
theorem Wk.newL (ok : CO Z a0 cd) {kk i' : Nat} (wc : (Cond.classLink own idx cd.1).before a0 Z = true) (wi : (Cond.instantiable cd.1 kk).before a0 Z = true) (wz : (Cond.initialized cd.1).before a0 Z = true) (hd : InsA md pc (.new idx) 3 pc') (hall : allK cd.2.2.2.length ws) (hi : ws.length + 1 = i') (hws : ws ++ [w0] = ws') (hcu : cu + 1 = cu') (hsu : su + kk = su') (hc : cu' ≤ (rmOf md).cells) (hs : su' ≤ (rmOf md).slots)
    (h : Wk l Z (MoL Z cd own sc) md pc' L (.ref i' :: S) (sl, sv, ws') cu' su' Q) : Wk l Z (MoL Z cd own sc) md pc L S (sl, sv, ws) cu su Q :=
  fun en p e s m args below meth c T locs r X K hz hF hR hL => by
  obtain ⟨hd, rfl⟩ := hd
  subst hi hws hcu hsu
  obtain ⟨T1, h1, X1, e1, E1, A1, D1, -, st⟩ := newO X K.1 K.2.1 K.2.2.1 wc wi wz rfl (g := mkF m pc r (S.map (rv (rhoL cd en)))) rfl (hb K.by hd) hc hs
  subst e1
  obtain ⟨r1, r2, r3⟩ := hR
  have r3' : T.heap.size = en.1 + (ws.map fun x => x.1 + 1).sum := r3
  have sm := hall.sum
  have z1 := X1.heapSize
  have z2 : (T.heap.size : Nat) < T1.heap.size := A1.lt
  have ea : T.heap.size = en.1 + ws.length * (cd.2.2.2.length + 1) := by rw [r3', sm]
  have okp := ok.2.2.2.2
  obtain ⟨q1, q2, q3, q4, q5, q6, q7, q8⟩ := okp
  have rel1 : relL Z cd sc en (sl, sv, ws ++ [w0]) T1.heap := by
    refine ⟨fun q => ⟨(r1 q).1, (r1 q).2.1, (r1 q).2.2.ext E1⟩, fun j z hj => ?_, ?_⟩
    · have hj' : (ws ++ [w0])[j]? = some z := hj
      by_cases e : j < ws.length
      · rw [List.getElem?_append_left e] at hj'
        exact relC.cells (fun t m => (q8 t m).2.1) (r2 j z hj') (allK.get _ hall _ _ hj') fun a c _ _ hc => E1.2 a c hc
      · have e2 : j = ws.length := by
          have := (List.getElem?_eq_some_iff.mp hj').1
          simp at this; omega
        subst e2
        simp at hj'
        subst hj'
        rw [← ea]
        refine ⟨by show en.1 ≤ T.heap.size; omega, A1, fun t m => ?_, fun t m => ?_, fun t m => ⟨fun k => absurd k (Nat.not_lt_zero _), fun _ => ?_⟩, fun _ => by show T1.heap.size = T.heap.size + 1 + 0; omega⟩
        · rcases q7 t m with q | q
          · exact D1 (ok.2.1 t m) q
          · exact D1 (ok.2.1 t m) q
        · exact D1 (ok.2.2.1 t m) pJ
        · exact D1 (ok.2.2.2.1 t m) (q8 t m).1
    · show T1.heap.size = en.1 + ((ws ++ [w0]).map fun x => x.1 + 1).sum
      rw [List.map_append, List.sum_append]
      show T1.heap.size = en.1 + ((ws.map fun x => x.1 + 1).sum + 1)
      omega
  refine (h en p e s m args below meth c T1 locs r X1 K (by omega) hF rel1 hL).pre (fun _ _ => trivial) fun t q => st t ?_
  rw [ea]
  exact q
theorem Wk.callLC (ok : CO Z a0 cd) (as : List Value) (i : Nat) (S : List Value) {i' : Nat} {x : WO} (hi' : i + 1 = i') (hs : stk = as.reverse ++ .ref i' :: S) (hx : ws[i]? = some x) (hoth : allK cd.2.2.2.length (ws.eraseIdx i)) (wl : (Cond.methodLink own idx (nmOf md')).before a0 Z = true) (cv : CalV Z a0 md' as.length) (hc : (nmOf md').cls = cd.1) (nr : noRef as = true) (hcal : Wk l Z (MoC Z cd) md' 0 L' [] x 0 0 Q') (hL' : (argsToLocals (.ref 0 :: as).toArray (mxOf md')).toList = L') (hw : wfL L' = true) (hl : L.length = mxOf md)
    (hwt : (S.map fun v => v.category).sum = wt) (ft : Fits md md' wt cu su cu' su') (hd : InsA md pc (.invokevirtual idx) 3 pc') (hk : ∀ v y, Q' v y → y.1 = x.1 + exOf md') (h : ∀ v y, Q' v y → Wk l Z (MoL Z cd own sc) md pc' L (v.toList ++ S) (sl, sv, ws.set i y) cu' su' Q) : Wk l Z (MoL Z cd own sc) md pc L stk (sl, sv, ws) cu su Q :=
  fun en p e s m args below meth c T locs r X K hz hF hR hL => by
  obtain ⟨hd, rfl⟩ := hd
  subst hs hi'
  have rx := hR.2.1 i x hx
  obtain ⟨v, T1, Lc, w1, X1, p1, p2, p3, p4, p5, p6, st⟩ := coreV (M' := MoC Z cd) (en := (en.1 + i * (cd.2.2.2.length + 1), en.1)) (r := r) (rest := S.map (rv (rhoL cd en))) X K hd wl cv hcal hc.symm rx (by rw [hc]; exact rx.2.1) rfl hL' hw ft (hL.1.trans hl) (by rw [cat_map]; omega)
  have f7 := ft.2.2.1
  have f8 := ft.2.2.2.2.2.2
  have em : (as.reverse ++ .ref (i + 1) :: S).map (rv (rhoL cd en)) = (as.map (rv ((MoC Z cd).rho (en.1 + i * (cd.2.2.2.length + 1), en.1)))).reverse ++ .ref ((MoC Z cd).rho (en.1 + i * (cd.2.2.2.length + 1), en.1) 0) :: S.map (rv (rhoL cd en)) := by
    rw [List.map_append, List.map_reverse, noRef.map as nr, noRef.map as nr]; rfl
  have oth : ∀ j z, ws[j]? = some z → j ≠ i → z.1 = cd.2.2.2.length := by
    intro j z hj hne
    by_cases e : j < i
    · exact allK.get _ hoth j z (by rw [List.getElem?_eraseIdx]; simp [e, hj])
    · refine allK.get _ hoth (j - 1) z ?_
      rw [List.getElem?_eraseIdx, if_neg (by omega), show j - 1 + 1 = j by omega]; exact hj
  have hkk := hk v w1 p1
  have okA : ∀ t ∈ cd.2.2.2, t.1 < cd.2.2.2.length := fun t m => (ok.2.2.2.2.2.2.2.2.2.2.2 t m).2.1
  have D := h v w1 p1 en p e s m args below meth c T1 _ r X1 K (by omega) (hF.app p4) (relL.step okA hR hx oth p2 p3 (by omega)) hL
  rw [res_map p6] at D
  show Done _ _ _ _ _ _ _ _ _ _ _ _ _ _ (mkF m pc r ((as.reverse ++ .ref (i + 1) :: S).map (rv (rhoL cd en))))
  rw [em]
  exact D.pre (fun _ _ => trivial) st
theorem Wk.ctorL (ok : CO Z a0 cd) (as : List Value) (i : Nat) (S : List Value) {i' : Nat} {x : WO} (hi' : i + 1 = i') (hs : stk = as.reverse ++ .ref i' :: S) (hx : ws[i]? = some x) (hoth : allK cd.2.2.2.length (ws.eraseIdx i)) (wl : (Cond.methodLink own idx (nmOf md')).before a0 Z = true) (cv : CalI Z a0 md' as.length) (hc : (nmOf md').cls = cd.1) (nr : noRef as = true) (hcal : Wk l Z (MoC Z cd) md' 0 L' [] x 0 0 Q') (hL' : (argsToLocals (.ref 0 :: as).toArray (mxOf md')).toList = L') (hw : wfL L' = true) (hl : L.length = mxOf md)
    (hwt : (S.map fun v => v.category).sum = wt) (ft : Fits md md' wt cu su cu' su') (hd : InsA md pc (.invokespecial idx) 3 pc') (hk : ∀ v y, Q' v y → y.1 = x.1 + exOf md') (h : ∀ v y, Q' v y → Wk l Z (MoL Z cd own sc) md pc' L (v.toList ++ S) (sl, sv, ws.set i y) cu' su' Q) : Wk l Z (MoL Z cd own sc) md pc L stk (sl, sv, ws) cu su Q :=
  fun en p e s m args below meth c T locs r X K hz hF hR hL => by
  obtain ⟨hd, rfl⟩ := hd
  subst hs hi'
  have rx := hR.2.1 i x hx
  obtain ⟨v, T1, Lc, w1, X1, p1, p2, p3, p4, p5, p6, st⟩ := coreI (M' := MoC Z cd) (en := (en.1 + i * (cd.2.2.2.length + 1), en.1)) (r := r) (rest := S.map (rv (rhoL cd en))) X K hd wl cv hcal hc.symm rx rfl hL' hw ft (hL.1.trans hl) (by rw [cat_map]; omega)
  have f7 := ft.2.2.1
  have f8 := ft.2.2.2.2.2.2
  have em : (as.reverse ++ .ref (i + 1) :: S).map (rv (rhoL cd en)) = (as.map (rv ((MoC Z cd).rho (en.1 + i * (cd.2.2.2.length + 1), en.1)))).reverse ++ .ref ((MoC Z cd).rho (en.1 + i * (cd.2.2.2.length + 1), en.1) 0) :: S.map (rv (rhoL cd en)) := by
    rw [List.map_append, List.map_reverse, noRef.map as nr, noRef.map as nr]; rfl
  have oth : ∀ j z, ws[j]? = some z → j ≠ i → z.1 = cd.2.2.2.length := by
    intro j z hj hne
    by_cases e : j < i
    · exact allK.get _ hoth j z (by rw [List.getElem?_eraseIdx]; simp [e, hj])
    · refine allK.get _ hoth (j - 1) z ?_
      rw [List.getElem?_eraseIdx, if_neg (by omega), show j - 1 + 1 = j by omega]; exact hj
  have hkk := hk v w1 p1
  have okA : ∀ t ∈ cd.2.2.2, t.1 < cd.2.2.2.length := fun t m => (ok.2.2.2.2.2.2.2.2.2.2.2 t m).2.1
  have D := h v w1 p1 en p e s m args below meth c T1 _ r X1 K (by omega) (hF.app p4) (relL.step okA hR hx oth p2 p3 (by omega)) hL
  rw [res_map p6] at D
  show Done _ _ _ _ _ _ _ _ _ _ _ _ _ _ (mkF m pc r ((as.reverse ++ .ref (i + 1) :: S).map (rv (rhoL cd en))))
  rw [em]
  exact D.pre (fun _ _ => trivial) st
end StepsL
end Jvm.Own

namespace Jvm.Own
open Jvm Jvm.ClassFile Sem Op Lib Jvm.Free Jvm.Stand Jvm.LawKit Jvm.RoadKit
/-- the class's list of fields, looked at -/
def okB (cd : CD) : Bool :=
  cd.2.1.all (fun (t : Nat × String × String) => cd.2.1.all fun t' => if t.1 = t'.1 then decide (t = t') else t.2.1 != t'.2.1) && cd.2.2.1.all (fun (t : Nat × String) => cd.2.2.1.all fun t' => if t.1 = t'.1 then decide (t = t') else t.2 != t'.2) && cd.2.2.2.all (fun (t : Nat × String × String × FieldType × Int32) => cd.2.2.2.all fun t' => if t.1 = t'.1 then decide (t = t') else t.2.1 != t'.2.1) &&
  cd.2.1.all (fun (t : Nat × String × String) => cd.2.2.1.all fun (t' : Nat × String) => t.2.1 != t'.2) && cd.2.1.all (fun (t : Nat × String × String) => cd.2.2.2.all fun (t' : Nat × String × String × FieldType × Int32) => t.2.1 != t'.2.1) && cd.2.2.1.all (fun (t : Nat × String) => cd.2.2.2.all fun (t' : Nat × String × String × FieldType × Int32) => t.2 != t'.2.1) &&
  cd.2.1.all (fun (t : Nat × String × String) => decide (parseFieldDescriptor t.2.2 = some .int) || decide (parseFieldDescriptor t.2.2 = some .boolean)) &&
  cd.2.2.2.all (fun (t : Nat × String × String × FieldType × Int32) => decide (parseFieldDescriptor t.2.2.1 = some (.array t.2.2.2.1)) && decide (t.1 < cd.2.2.2.length) && (decide (t.2.2.2.1 = .int) || decide (t.2.2.2.1 = .boolean) || decide (t.2.2.2.1 = .long)) && !decide (t.2.2.2.2 < 0))
theorem pair_of {α : Type} {L : List α} {f : α → Nat} {g : α → String} [DecidableEq α] (h : L.all (fun t => L.all fun t' => if f t = f t' then decide (t = t') else g t != g t') = true) : ∀ t ∈ L, ∀ t' ∈ L, (f t = f t' → t = t') ∧ (f t ≠ f t' → g t ≠ g t') := by
  intro t m t' m'
  have q := List.all_eq_true.mp (List.all_eq_true.mp h t m) t' m'
  constructor
  · intro e; rw [if_pos e] at q; exact of_decide_eq_true q
  · intro e; rw [if_neg e] at q; simpa using q
theorem apart_of {α β : Type} {L : List α} {L' : List β} {g : α → String} {g' : β → String} (h : L.all (fun t => L'.all fun t' => g t != g' t') = true) : ∀ t ∈ L, ∀ t' ∈ L', g t ≠ g' t' := by
  intro t m t' m'
  have q := List.all_eq_true.mp (List.all_eq_true.mp h t m) t' m'
  simpa using q
theorem okC.of {cd : CD} (h : okB cd = true) : okC cd := by
  unfold okB at h
  simp only [Bool.and_eq_true] at h
  obtain ⟨⟨⟨⟨⟨⟨⟨h1, h2⟩, h3⟩, h4⟩, h5⟩, h6⟩, h7⟩, h8⟩ := h
  refine ⟨pair_of (L := cd.2.1) (f := fun (t : Nat × String × String) => t.1) (g := fun (t : Nat × String × String) => t.2.1) h1, pair_of (L := cd.2.2.1) (f := fun (t : Nat × String) => t.1) (g := fun (t : Nat × String) => t.2) h2, pair_of (L := cd.2.2.2) (f := fun (t : Nat × String × String × FieldType × Int32) => t.1) (g := fun (t : Nat × String × String × FieldType × Int32) => t.2.1) h3, apart_of (L := cd.2.1) (L' := cd.2.2.1) (g := fun (t : Nat × String × String) => t.2.1) (g' := fun (t : Nat × String) => t.2) h4, apart_of (L := cd.2.1) (L' := cd.2.2.2) (g := fun (t : Nat × String × String) => t.2.1) (g' := fun (t : Nat × String × String × FieldType × Int32) => t.2.1) h5, apart_of (L := cd.2.2.1) (L' := cd.2.2.2) (g := fun (t : Nat × String) => t.2) (g' := fun (t : Nat × String × String × FieldType × Int32) => t.2.1) h6, fun t m => ?_, fun t m => ?_⟩
  · have q := List.all_eq_true.mp h7 t m
    simpa using q
  · have q := List.all_eq_true.mp h8 t m
    simp only [Bool.and_eq_true, Bool.or_eq_true, decide_eq_true_eq, Bool.not_eq_true', decide_eq_false_iff_not] at q
    exact ⟨q.1.1.1, q.1.1.2, by rcases q.1.2 with (a | a) | a <;> simp [a], q.2⟩
theorem nar1 : nar .boolean 1 = 1 := by decide
theorem nar0 : nar .boolean 0 = 0 := by decide
theorem nar_nar (x : Int32) : nar .boolean (nar .boolean x) = nar .boolean x := by
  show (x &&& 1) &&& 1 = x &&& 1
  rw [Int32.and_assoc]; rfl
theorem ne_toInt {x n : Int32} (q : ¬ x = n) : x.toInt ≠ n.toInt := fun h => q (Int32.toInt_inj.mp h)
/-! ## 6. The same calls where the callee's answer is known as a term -/
section FunC
variable {l : Launch} {Z : State} {a0 : Array Value} {cd : CD} {md md' : MD} {pc pc' wt idx : Nat} {L L' : List Slot} {S stk as : List Value} {w w1 : WO} {cu su cu' su' : Nat} {Q : Option Value → WO → Prop} {x : Value}
theorem Wk.callF (as : List Value) (S : List Value) (wl : (Cond.methodLink cd.1 idx (nmOf md')).before a0 Z = true) (cv : CalV Z a0 md' as.length) (hd : InsA md pc (.invokevirtual idx) 3 pc') (hcal : Wk l Z (MoC Z cd) md' 0 L' [] w 0 0 (fun v w' => v = some x ∧ w' = w1)) (ft : Fits md md' wt cu su cu' su') (hs : stk = as.reverse ++ .ref 0 :: S) (hc : (nmOf md').cls = cd.1) (nr : noRef as = true) (hL' : (argsToLocals (.ref 0 :: as).toArray (mxOf md')).toList = L') (hw : wfL L' = true) (hl : L.length = mxOf md)
    (hwt : (S.map fun v => v.category).sum = wt) (h : Wk l Z (MoC Z cd) md pc' L (x :: S) w1 cu' su' Q) : Wk l Z (MoC Z cd) md pc L stk w cu su Q :=
  Wk.callC as S hs wl cv hc nr hcal hL' hw hl hwt ft hd fun v w' q => by obtain ⟨rfl, rfl⟩ := q; exact h
theorem Wk.callU (as : List Value) (S : List Value) (wl : (Cond.methodLink cd.1 idx (nmOf md')).before a0 Z = true) (cv : CalV Z a0 md' as.length) (hd : InsA md pc (.invokevirtual idx) 3 pc') (hcal : Wk l Z (MoC Z cd) md' 0 L' [] w 0 0 (fun v w' => v = none ∧ w' = w1)) (ft : Fits md md' wt cu su cu' su') (hs : stk = as.reverse ++ .ref 0 :: S) (hc : (nmOf md').cls = cd.1) (nr : noRef as = true) (hL' : (argsToLocals (.ref 0 :: as).toArray (mxOf md')).toList = L') (hw : wfL L' = true) (hl : L.length = mxOf md)
    (hwt : (S.map fun v => v.category).sum = wt) (h : Wk l Z (MoC Z cd) md pc' L S w1 cu' su' Q) : Wk l Z (MoC Z cd) md pc L stk w cu su Q :=
  Wk.callC as S hs wl cv hc nr hcal hL' hw hl hwt ft hd fun v w' q => by obtain ⟨rfl, rfl⟩ := q; exact h
end FunC
section FunS
variable {μ E : Type} {l : Launch} {Z : State} {a0 : Array Value} {M : Mode μ E} {md md' : MD} {pc pc' wt idx : Nat} {L L' : List Slot} {S stk as : List Value} {w w1 : μ} {cu su cu' su' : Nat} {Q : Option Value → μ → Prop} {x : Value}
theorem Wk.callSF (hM : ∀ en h1 h2 h3, M.frm en h1 h2 → M.frm en h2 h3 → M.frm en h1 h3) (as : List Value) (S : List Value) (wl : (Cond.methodLink M.own idx (nmOf md')).before a0 Z = true) (cv : CalS Z a0 md' as.length) (hd : InsA md pc (.invokestatic idx) 3 pc') (hcal : Wk l Z M md' 0 L' [] w 0 0 (fun v w' => v = some x ∧ w' = w1)) (ft : Fits md md' wt cu su cu' su') (hs : stk = as.reverse ++ S) (hc : (nmOf md').cls = M.own) (hL' : (argsToLocals as.toArray (mxOf md')).toList = L') (hw : wfL L' = true) (hl : L.length = mxOf md)
    (hwt : (S.map fun v => v.category).sum = wt) (h : Wk l Z M md pc' L (x :: S) w1 cu' su' Q) : Wk l Z M md pc L stk w cu su Q :=
  Wk.callS hM as S hs wl cv hc hcal hL' hw hl hwt ft hd fun v w' q => by obtain ⟨rfl, rfl⟩ := q; exact h
theorem Wk.callSU (hM : ∀ en h1 h2 h3, M.frm en h1 h2 → M.frm en h2 h3 → M.frm en h1 h3) (as : List Value) (S : List Value) (wl : (Cond.methodLink M.own idx (nmOf md')).before a0 Z = true) (cv : CalS Z a0 md' as.length) (hd : InsA md pc (.invokestatic idx) 3 pc') (hcal : Wk l Z M md' 0 L' [] w 0 0 (fun v w' => v = none ∧ w' = w1)) (ft : Fits md md' wt cu su cu' su') (hs : stk = as.reverse ++ S) (hc : (nmOf md').cls = M.own) (hL' : (argsToLocals as.toArray (mxOf md')).toList = L') (hw : wfL L' = true) (hl : L.length = mxOf md)
    (hwt : (S.map fun v => v.category).sum = wt) (h : Wk l Z M md pc' L S w1 cu' su' Q) : Wk l Z M md pc L stk w cu su Q :=
  Wk.callS hM as S hs wl cv hc hcal hL' hw hl hwt ft hd fun v w' q => by obtain ⟨rfl, rfl⟩ := q; exact h
end FunS
section FunL
variable {l : Launch} {Z : State} {a0 : Array Value} {cd : CD} {own : String} {sc : Bool} {md md' : MD} {pc pc' wt idx : Nat} {L L' : List Slot} {S stk as : List Value} {sl : Int32} {sv : Int32 → Int32} {ws ws' : List WO} {cu su cu' su' : Nat} {Q : Option Value → WL → Prop} {v : Value} {y : WO}
theorem Wk.callLF (ok : CO Z a0 cd) (as : List Value) (i : Nat) (S : List Value) {i' : Nat} {x : WO} (wl : (Cond.methodLink own idx (nmOf md')).before a0 Z = true) (cv : CalV Z a0 md' as.length) (hd : InsA md pc (.invokevirtual idx) 3 pc') (hcal : Wk l Z (MoC Z cd) md' 0 L' [] x 0 0 (fun v' w' => v' = some v ∧ w' = y)) (ft : Fits md md' wt cu su cu' su') (hoth : allK cd.2.2.2.length (ws.eraseIdx i)) (hi' : i + 1 = i') (hs : stk = as.reverse ++ .ref i' :: S) (hx : ws[i]? = some x) (hc : (nmOf md').cls = cd.1) (nr : noRef as = true) (hL' : (argsToLocals (.ref 0 :: as).toArray (mxOf md')).toList = L') (hw : wfL L' = true) (hl : L.length = mxOf md)
    (hwt : (S.map fun v => v.category).sum = wt) (hk : y.1 = x.1 + exOf md') (hws : ws.set i y = ws') (h : Wk l Z (MoL Z cd own sc) md pc' L (v :: S) (sl, sv, ws') cu' su' Q) : Wk l Z (MoL Z cd own sc) md pc L stk (sl, sv, ws) cu su Q :=
  Wk.callLC ok as i S hi' hs hx hoth wl cv hc nr hcal hL' hw hl hwt ft hd (fun v' y' q => by obtain ⟨rfl, rfl⟩ := q; exact hk) fun v' y' q => by obtain ⟨rfl, rfl⟩ := q; subst hws; exact h
theorem Wk.callLU (ok : CO Z a0 cd) (as : List Value) (i : Nat) (S : List Value) {i' : Nat} {x : WO} (wl : (Cond.methodLink own idx (nmOf md')).before a0 Z = true) (cv : CalV Z a0 md' as.length) (hd : InsA md pc (.invokevirtual idx) 3 pc') (hcal : Wk l Z (MoC Z cd) md' 0 L' [] x 0 0 (fun v' w' => v' = none ∧ w' = y)) (ft : Fits md md' wt cu su cu' su') (hoth : allK cd.2.2.2.length (ws.eraseIdx i)) (hi' : i + 1 = i') (hs : stk = as.reverse ++ .ref i' :: S) (hx : ws[i]? = some x) (hc : (nmOf md').cls = cd.1) (nr : noRef as = true) (hL' : (argsToLocals (.ref 0 :: as).toArray (mxOf md')).toList = L') (hw : wfL L' = true) (hl : L.length = mxOf md)
    (hwt : (S.map fun v => v.category).sum = wt) (hk : y.1 = x.1 + exOf md') (hws : ws.set i y = ws') (h : Wk l Z (MoL Z cd own sc) md pc' L S (sl, sv, ws') cu' su' Q) : Wk l Z (MoL Z cd own sc) md pc L stk (sl, sv, ws) cu su Q :=
  Wk.callLC ok as i S hi' hs hx hoth wl cv hc nr hcal hL' hw hl hwt ft hd (fun v' y' q => by obtain ⟨rfl, rfl⟩ := q; exact hk) fun v' y' q => by obtain ⟨rfl, rfl⟩ := q; subst hws; exact h
theorem Wk.ctorLU (ok : CO Z a0 cd) (as : List Value) (i : Nat) (S : List Value) {i' : Nat} {x : WO} (wl : (Cond.methodLink own idx (nmOf md')).before a0 Z = true) (cv : CalI Z a0 md' as.length) (hd : InsA md pc (.invokespecial idx) 3 pc') (hcal : Wk l Z (MoC Z cd) md' 0 L' [] x 0 0 (fun v' w' => v' = none ∧ w' = y)) (ft : Fits md md' wt cu su cu' su') (hoth : allK cd.2.2.2.length (ws.eraseIdx i)) (hi' : i + 1 = i') (hs : stk = as.reverse ++ .ref i' :: S) (hx : ws[i]? = some x) (hc : (nmOf md').cls = cd.1) (nr : noRef as = true) (hL' : (argsToLocals (.ref 0 :: as).toArray (mxOf md')).toList = L') (hw : wfL L' = true) (hl : L.length = mxOf md)
    (hwt : (S.map fun v => v.category).sum = wt) (hk : y.1 = x.1 + exOf md') (hws : ws.set i y = ws') (h : Wk l Z (MoL Z cd own sc) md pc' L S (sl, sv, ws') cu' su' Q) : Wk l Z (MoL Z cd own sc) md pc L stk (sl, sv, ws) cu su Q :=
  Wk.ctorL ok as i S hi' hs hx hoth wl cv hc nr hcal hL' hw hl hwt ft hd (fun v' y' q => by obtain ⟨rfl, rfl⟩ := q; exact hk) fun v' y' q => by obtain ⟨rfl, rfl⟩ := q; subst hws; exact h
end FunL
end Jvm.Own

namespace Jvm.Own
open Jvm
/-! ## 7. Plain helpers -/
theorem lt_i {x y : Int32} : x < y ↔ x.toInt < y.toInt := Int32.lt_iff_toInt_lt
theorem add_toInt {x y : Int32} (h1 : -2147483648 ≤ x.toInt + y.toInt) (h2 : x.toInt + y.toInt < 2147483648) : (x + y).toInt = x.toInt + y.toInt := by
  rw [Int32.toInt_add]
  exact Int.bmod_eq_of_le (by omega) (by omega)
theorem sub_toInt {x y : Int32} (h1 : -2147483648 ≤ x.toInt - y.toInt) (h2 : x.toInt - y.toInt < 2147483648) : (x - y).toInt = x.toInt - y.toInt := by
  rw [Int32.toInt_sub]
  exact Int.bmod_eq_of_le (by omega) (by omega)
theorem succ_toInt {i n : Int32} (h : i < n) : (i + 1).toInt = i.toInt + 1 := by
  have h1 := lt_i.mp h
  have h2 := Int32.toInt_lt n
  have h3 := Int32.le_toInt i
  exact add_toInt (x := i) (y := 1) (by show -2147483648 ≤ i.toInt + 1; omega) (by show i.toInt + 1 < 2147483648; omega)
/-- a loop that counts up to n: backwards from its end -/
theorem loopUp {n : Int32} {P : Int32 → Prop} (hend : P n) (hstep : ∀ i, ¬ i < 0 → i < n → P (i + 1) → P i) : ∀ i, ¬ i < 0 → ¬ n < i → P i := by
  have key : ∀ (k : Nat) (i : Int32), ¬ i < 0 → ¬ n < i → (n.toInt - i.toInt).toNat = k → P i := by
    intro k
    induction k with
    | zero =>
      intro i h0 h1 hk
      have e : i = n := by
        rw [lt_i] at h1
        exact Int32.toInt_inj.mp (by omega)
      subst e; exact hend
    | succ k ih =>
      intro i h0 h1 hk
      rw [lt_i] at h1
      have hlt : i < n := lt_i.mpr (by omega)
      have hs := succ_toInt hlt
      have h0' : ¬ i.toInt < 0 := fun q => h0 (lt_i.mpr q)
      refine hstep i h0 hlt (ih (i + 1) ?_ ?_ ?_)
      · rw [lt_i, hs]; show ¬ i.toInt + 1 < 0; omega
      · rw [lt_i, hs]; omega
      · rw [hs]; omega
  exact fun i h0 h1 => key _ i h0 h1 rfl
/-- the first n places hold c -/
def fill {α : Type} (f : Int32 → α) (n : Int32) (c : α) : Int32 → α := fun x => if ¬ x < 0 ∧ x < n then c else f x
theorem fill_zero {α : Type} (f : Int32 → α) (c : α) : fill f 0 c = f := by
  funext x; exact if_neg fun q => q.1 q.2
theorem fill_succ {α : Type} (f : Int32 → α) (c : α) {i n : Int32} (h0 : ¬ i < 0) (h : i < n) : ups (fill f i c) i c = fill f (i + 1) c := by
  funext x
  have hs := succ_toInt h
  have h0' : ¬ i.toInt < 0 := fun q => h0 (lt_i.mpr q)
  unfold ups fill
  by_cases e : x = i
  · rw [if_pos e, if_pos]
    subst e
    exact ⟨h0, lt_i.mpr (by omega)⟩
  · rw [if_neg e]
    have e' : x.toInt ≠ i.toInt := fun q => e (Int32.toInt_inj.mp q)
    by_cases q : ¬ x < 0 ∧ x < i
    · rw [if_pos q, if_pos ⟨q.1, lt_i.mpr (by have := lt_i.mp q.2; omega)⟩]
    · rw [if_neg q, if_neg]
      rintro ⟨a, b⟩
      exact q ⟨a, lt_i.mpr (by have := lt_i.mp b; omega)⟩
theorem fill_in {α : Type} (f : Int32 → α) (c : α) {x n : Int32} (h0 : ¬ x < 0) (h : x < n) : fill f n c x = c := if_pos ⟨h0, h⟩
theorem ups_self {κ α : Type} [DecidableEq κ] (f : κ → α) (i : κ) : ups f i (f i) = f := by
  funext k; unfold ups; by_cases e : k = i
  · rw [if_pos e, e]
  · rw [if_neg e]
theorem ups_upd {κ α : Type} [DecidableEq κ] (f : κ → α) (i : κ) (x y : α) : ups (ups f i x) i y = ups f i y := by
  funext k; unfold ups; by_cases e : k = i
  · rw [if_pos e, if_pos e]
  · rw [if_neg e, if_neg e, if_neg e]
theorem ups_comm {κ α : Type} [DecidableEq κ] (f : κ → α) {i j : κ} (x y : α) (h : i ≠ j) : ups (ups f i x) j y = ups (ups f j y) i x := by
  funext k; unfold ups; by_cases e : k = i
  · have : k ≠ j := fun q => h (e.symm.trans q)
    rw [if_neg this, if_pos e, if_pos e]
  · by_cases e2 : k = j
    · rw [if_pos e2, if_neg e, if_pos e2]
    · rw [if_neg e2, if_neg e, if_neg e, if_neg e2]
end Jvm.Own

namespace Jvm.Own
open Jvm Jvm.Free
/-! ## 8. Bits -/
theorem toNat_toInt (x : Int32) : (x.toBitVec.toNat : Int) = x.toInt % 4294967296 := by
  have h1 : x.toInt = x.toBitVec.toInt := rfl
  rw [h1, BitVec.toInt_eq_toNat_bmod]
  have h2 := x.toBitVec.isLt
  have h3 := Int.bmod_emod (x := (x.toBitVec.toNat : Int)) (m := 2 ^ 32)
  have h4 : ((2 ^ 32 : Nat) : Int) = 4294967296 := rfl
  rw [h4] at h3
  rw [h3]; omega
theorem and_mask (x m : Int32) (k : Nat) (hk : k < 31) (hm : m.toBitVec.toNat = 2 ^ k - 1) : (x &&& m).toInt = x.toInt % ((2 ^ k : Nat) : Int) := by
  have h1 : (x &&& m).toInt = (x.toBitVec &&& m.toBitVec).toInt := rfl
  have h2 : (x.toBitVec &&& m.toBitVec).toNat = x.toBitVec.toNat % 2 ^ k := by rw [BitVec.toNat_and, hm, Nat.and_two_pow_sub_one_eq_mod]
  have h3 : (2 ^ k : Nat) ≤ 2 ^ 30 := Nat.pow_le_pow_right (by decide) (by omega)
  have h4 : x.toBitVec.toNat % 2 ^ k < 2 ^ k := Nat.mod_lt _ (Nat.two_pow_pos k)
  have h5 : (2 ^ k : Nat) ∣ 4294967296 := ⟨2 ^ (32 - k), by rw [← Nat.pow_add]; have : k + (32 - k) = 32 := by omega
                                                            rw [this]⟩
  rw [h1, BitVec.toInt_eq_toNat_of_lt (by rw [h2]; omega), h2, Int.natCast_emod, toNat_toInt]
  exact Int.emod_emod_of_dvd _ (Int.natCast_dvd_natCast.mpr h5)
theorem sar_toInt (x y : Int32) (k : Nat) (hy : y.toBitVec.smod 32#32 = BitVec.ofNat 32 k) (hk : k < 32) : (x >>> y).toInt = x.toInt / ((2 ^ k : Nat) : Int) := by
  have h1 : (x >>> y).toInt = (x.toBitVec.sshiftRight' (y.toBitVec.smod 32#32)).toInt := rfl
  rw [h1, hy, BitVec.sshiftRight_eq', BitVec.toInt_sshiftRight, BitVec.toNat_ofNat, Nat.mod_eq_of_lt (by omega), Int.shiftRight_eq_div_pow]
  rfl
theorem ushr_pos (x y : Int32) (k : Nat) (hy : (y &&& 31).toBitVec.toNat = k) (hx : ¬ x < 0) : (XT.ushr x y).toInt = x.toInt / ((2 ^ k : Nat) : Int) := by
  have hx' : 0 ≤ x.toInt := by rw [lt_i] at hx; have z : (0 : Int32).toInt = 0 := rfl; omega
  have h0 : (x.toBitVec.toNat : Int) = x.toInt := by rw [toNat_toInt]; have := Int32.toInt_lt x; omega
  have hy' : k < 32 := by
    rw [← hy]
    have : (y &&& 31).toBitVec.toNat = y.toBitVec.toNat % 2 ^ 5 := by
      show (y.toBitVec &&& 31#32).toNat = _
      rw [BitVec.toNat_and]; exact Nat.and_two_pow_sub_one_eq_mod _ 5
    omega
  have h1 : (XT.ushr x y).toBitVec = x.toBitVec >>> k := by
    show x.toBitVec >>> ((y &&& 31).toBitVec % 32#32) = _
    rw [BitVec.ushiftRight_eq', BitVec.toNat_umod, hy]
    show x.toBitVec >>> (k % 32) = _
    rw [Nat.mod_eq_of_lt hy']
  have h2 : (x.toBitVec >>> k).toNat = x.toBitVec.toNat / 2 ^ k := by rw [BitVec.toNat_ushiftRight, Nat.shiftRight_eq_div_pow]
  have h3 : (XT.ushr x y).toInt = (x.toBitVec >>> k).toInt := by rw [← h1]; rfl
  have h4 : x.toBitVec.toNat / 2 ^ k ≤ x.toBitVec.toNat := Nat.div_le_self _ _
  rw [h3, BitVec.toInt_eq_toNat_of_lt (by rw [h2]; have := Int32.toInt_lt x; omega), h2, Int.natCast_ediv, h0]
end Jvm.Own
namespace Jvm.Own
open Jvm Jvm.ClassFile Sem Op Lib Jvm.Free Jvm.Stand Jvm.LawKit Jvm.RoadKit
/-! ## 9. An array of ints that the law is given -/
theorem script_at {s : State} {sa : Addr} {N : Int32} (na : (Cond.arrayOf (.arg 0) .int).value #[.ref sa] s none s [] = some true)
    (hr : (Cond.all (.arg 0) (.isInt (.elem (.arg 0) (.index 0)))).value #[.ref sa] s none s [] = some true)
    (nl : (Cond.le (.length (.arg 0)) (.int N)).value #[.ref sa] s none s [] = some true) :
    ∃ (sl : Int32) (sv : Int32 → Int32), sa < s.heap.size ∧ ¬ sl < 0 ∧ ¬ N < sl ∧ AtA s s.heap sa .int sl sv (fun _ => 0) := by
  have ea : ∀ idx, (Term.arg 0).eval #[Value.ref sa] s none idx s = some (.ref sa) := fun _ => rfl
  obtain ⟨cl, hcl⟩ := Arr.start (ea []) na
  have h1 : sa < s.heap.size := (Array.getElem?_eq_some_iff.mp hcl.1).1
  have hat : s.arrayAt? sa = some cl := hcl.fin (Vm.Alike.refl _)
  obtain ⟨x, y, ex, ey, -, -⟩ := cmp_v (.inr (.inr nl))
  have hsz : cl.slots.size < 2 ^ 31 := by
    apply Classical.byContradiction; intro hn
    have hn' : ¬ cl.slots.size < 2147483648 := hn
    simp [Term.eval, hat, hn', ea] at ex
  have e1 : (Term.length (.arg 0)).eval #[Value.ref sa] s none [] s = some (.int cl.slots.size.toInt32) := len_f (ea []) hat hsz
  have e2 : (Term.int N).eval #[Value.ref sa] s none [] s = some (.int N) := Term.int_eval N
  have hle : cl.slots.size.toInt32 ≤ N := by
    have := nl
    simp [Cond.value, e1, e2] at this
    exact this
  have hnn : ¬ cl.slots.size.toInt32 < 0 := Int32.ofNat_not_neg hsz
  have hbk : cl.slots.size.toInt32.toNatClampNeg = cl.slots.size := Example.SumArray.toNatClampNeg_ofNat hsz
  refine ⟨cl.slots.size.toInt32, fun x => match cl.slots[x.toNatClampNeg]? with | some (.int y) => y | _ => 0, h1, hnn, Int32.not_lt.mpr hle, cl, hcl, hbk.symm, fun x h0 hx => ?_⟩
  have hlt : x.toNatClampNeg < cl.slots.size := by have := clamp_lt h0 hx; rw [hbk] at this; exact this
  obtain ⟨v, hv⟩ := is_v (Cond.all_elim (ea []) hat hr _ hlt)
  rw [elem_f (ea _) (idx_at h0) hat h0] at hv
  show cl.slots[x.toNatClampNeg]? = some (Value.int (match cl.slots[x.toNatClampNeg]? with | some (.int y) => y | _ => 0))
  simp only [hv]
end Jvm.Own
namespace Jvm.Pilot.@@N@@
open Jvm Jvm.ClassFile Sem Op Lib Jvm.Free Jvm.Stand Jvm.LawKit Jvm.RoadKit Bundle Jvm.Own Jvm.Pilot.@@N@@.Jvm.D
def OK (Z : State) (a0 : Array Value) : Prop := ∀ d ∈ tables_1, d.before a0 Z = true
theorem OK.w {Z : State} {a0 : Array Value} (H : OK Z a0) (i : Nat) {d : Jvm.Cond} (h : tables_1[i]? = some d) : d.before a0 Z = true := H _ (List.mem_of_getElem? h)
abbrev cdC : CD := ("RecursiveCte", [(0, "maxNodes", "I"), (1, "maxEdges", "I"), (2, "rowLimit", "I"), (3, "edges", "I"), (4, "kind", "I"), (5, "search", "I"), (6, "cycle", "Z"), (7, "maxDepth", "I"), (8, "status", "I"), (9, "count", "I"), (10, "top", "I")], [], [(0, "adj", "[Z", .boolean, 256), (1, "seed", "[Z", .boolean, 16), (2, "rowNodeA", "[I", .int, 64), (3, "rowDepthA", "[I", .int, 64), (4, "rowCycA", "[Z", .boolean, 64), (5, "rowPathA", "[I", .int, 1024), (6, "stkNode", "[I", .int, 16), (7, "stkNext", "[I", .int, 16), (8, "stkCyc", "[Z", .boolean, 16), (9, "found", "[Z", .boolean, 16)])
theorem okcC : okC cdC := okC.of (by decide +kernel)
theorem mI_maxNodes : (0, "maxNodes", "I") ∈ cdC.2.1 := List.mem_of_getElem? (i := 0) rfl
theorem mI_maxEdges : (1, "maxEdges", "I") ∈ cdC.2.1 := List.mem_of_getElem? (i := 1) rfl
theorem mI_rowLimit : (2, "rowLimit", "I") ∈ cdC.2.1 := List.mem_of_getElem? (i := 2) rfl
theorem mI_edges : (3, "edges", "I") ∈ cdC.2.1 := List.mem_of_getElem? (i := 3) rfl
theorem mI_kind : (4, "kind", "I") ∈ cdC.2.1 := List.mem_of_getElem? (i := 4) rfl
theorem mI_search : (5, "search", "I") ∈ cdC.2.1 := List.mem_of_getElem? (i := 5) rfl
theorem mI_cycle : (6, "cycle", "Z") ∈ cdC.2.1 := List.mem_of_getElem? (i := 6) rfl
theorem mI_maxDepth : (7, "maxDepth", "I") ∈ cdC.2.1 := List.mem_of_getElem? (i := 7) rfl
theorem mI_status : (8, "status", "I") ∈ cdC.2.1 := List.mem_of_getElem? (i := 8) rfl
theorem mI_count : (9, "count", "I") ∈ cdC.2.1 := List.mem_of_getElem? (i := 9) rfl
theorem mI_top : (10, "top", "I") ∈ cdC.2.1 := List.mem_of_getElem? (i := 10) rfl
theorem mA_adj : (0, "adj", "[Z", FieldType.boolean, (256 : Int32)) ∈ cdC.2.2.2 := List.mem_of_getElem? (i := 0) rfl
theorem mA_seed : (1, "seed", "[Z", FieldType.boolean, (16 : Int32)) ∈ cdC.2.2.2 := List.mem_of_getElem? (i := 1) rfl
theorem mA_rowNodeA : (2, "rowNodeA", "[I", FieldType.int, (64 : Int32)) ∈ cdC.2.2.2 := List.mem_of_getElem? (i := 2) rfl
theorem mA_rowDepthA : (3, "rowDepthA", "[I", FieldType.int, (64 : Int32)) ∈ cdC.2.2.2 := List.mem_of_getElem? (i := 3) rfl
theorem mA_rowCycA : (4, "rowCycA", "[Z", FieldType.boolean, (64 : Int32)) ∈ cdC.2.2.2 := List.mem_of_getElem? (i := 4) rfl
theorem mA_rowPathA : (5, "rowPathA", "[I", FieldType.int, (1024 : Int32)) ∈ cdC.2.2.2 := List.mem_of_getElem? (i := 5) rfl
theorem mA_stkNode : (6, "stkNode", "[I", FieldType.int, (16 : Int32)) ∈ cdC.2.2.2 := List.mem_of_getElem? (i := 6) rfl
theorem mA_stkNext : (7, "stkNext", "[I", FieldType.int, (16 : Int32)) ∈ cdC.2.2.2 := List.mem_of_getElem? (i := 7) rfl
theorem mA_stkCyc : (8, "stkCyc", "[Z", FieldType.boolean, (16 : Int32)) ∈ cdC.2.2.2 := List.mem_of_getElem? (i := 8) rfl
theorem mA_found : (9, "found", "[Z", FieldType.boolean, (16 : Int32)) ∈ cdC.2.2.2 := List.mem_of_getElem? (i := 9) rfl
theorem wf_adj {Z : State} {a0 : Array Value} (H : OK Z a0) : (Cond.fieldLink "RecursiveCte" 7 "RecursiveCte" "adj" "[Z").before a0 Z = true := H.w 10 rfl
theorem wf_seed {Z : State} {a0 : Array Value} (H : OK Z a0) : (Cond.fieldLink "RecursiveCte" 13 "RecursiveCte" "seed" "[Z").before a0 Z = true := H.w 12 rfl
theorem wf_rowNodeA {Z : State} {a0 : Array Value} (H : OK Z a0) : (Cond.fieldLink "RecursiveCte" 16 "RecursiveCte" "rowNodeA" "[I").before a0 Z = true := H.w 15 rfl
theorem wf_rowDepthA {Z : State} {a0 : Array Value} (H : OK Z a0) : (Cond.fieldLink "RecursiveCte" 20 "RecursiveCte" "rowDepthA" "[I").before a0 Z = true := H.w 17 rfl
theorem wf_rowCycA {Z : State} {a0 : Array Value} (H : OK Z a0) : (Cond.fieldLink "RecursiveCte" 23 "RecursiveCte" "rowCycA" "[Z").before a0 Z = true := H.w 19 rfl
theorem wf_rowPathA {Z : State} {a0 : Array Value} (H : OK Z a0) : (Cond.fieldLink "RecursiveCte" 26 "RecursiveCte" "rowPathA" "[I").before a0 Z = true := H.w 21 rfl
theorem wf_stkNode {Z : State} {a0 : Array Value} (H : OK Z a0) : (Cond.fieldLink "RecursiveCte" 29 "RecursiveCte" "stkNode" "[I").before a0 Z = true := H.w 23 rfl
theorem wf_stkNext {Z : State} {a0 : Array Value} (H : OK Z a0) : (Cond.fieldLink "RecursiveCte" 32 "RecursiveCte" "stkNext" "[I").before a0 Z = true := H.w 25 rfl
theorem wf_stkCyc {Z : State} {a0 : Array Value} (H : OK Z a0) : (Cond.fieldLink "RecursiveCte" 35 "RecursiveCte" "stkCyc" "[Z").before a0 Z = true := H.w 27 rfl
theorem wf_found {Z : State} {a0 : Array Value} (H : OK Z a0) : (Cond.fieldLink "RecursiveCte" 38 "RecursiveCte" "found" "[Z").before a0 Z = true := H.w 29 rfl
theorem wf_maxNodes {Z : State} {a0 : Array Value} (H : OK Z a0) : (Cond.fieldLink "RecursiveCte" 45 "RecursiveCte" "maxNodes" "I").before a0 Z = true := H.w 35 rfl
theorem wf_maxEdges {Z : State} {a0 : Array Value} (H : OK Z a0) : (Cond.fieldLink "RecursiveCte" 49 "RecursiveCte" "maxEdges" "I").before a0 Z = true := H.w 37 rfl
theorem wf_rowLimit {Z : State} {a0 : Array Value} (H : OK Z a0) : (Cond.fieldLink "RecursiveCte" 52 "RecursiveCte" "rowLimit" "I").before a0 Z = true := H.w 39 rfl
theorem wf_edges {Z : State} {a0 : Array Value} (H : OK Z a0) : (Cond.fieldLink "RecursiveCte" 55 "RecursiveCte" "edges" "I").before a0 Z = true := H.w 41 rfl
theorem wf_kind {Z : State} {a0 : Array Value} (H : OK Z a0) : (Cond.fieldLink "RecursiveCte" 58 "RecursiveCte" "kind" "I").before a0 Z = true := H.w 43 rfl
theorem wf_search {Z : State} {a0 : Array Value} (H : OK Z a0) : (Cond.fieldLink "RecursiveCte" 61 "RecursiveCte" "search" "I").before a0 Z = true := H.w 45 rfl
theorem wf_cycle {Z : State} {a0 : Array Value} (H : OK Z a0) : (Cond.fieldLink "RecursiveCte" 64 "RecursiveCte" "cycle" "Z").before a0 Z = true := H.w 47 rfl
theorem wf_maxDepth {Z : State} {a0 : Array Value} (H : OK Z a0) : (Cond.fieldLink "RecursiveCte" 68 "RecursiveCte" "maxDepth" "I").before a0 Z = true := H.w 49 rfl
theorem wf_status {Z : State} {a0 : Array Value} (H : OK Z a0) : (Cond.fieldLink "RecursiveCte" 71 "RecursiveCte" "status" "I").before a0 Z = true := H.w 51 rfl
theorem wf_count {Z : State} {a0 : Array Value} (H : OK Z a0) : (Cond.fieldLink "RecursiveCte" 74 "RecursiveCte" "count" "I").before a0 Z = true := H.w 53 rfl
theorem wf_top {Z : State} {a0 : Array Value} (H : OK Z a0) : (Cond.fieldLink "RecursiveCte" 77 "RecursiveCte" "top" "I").before a0 Z = true := H.w 55 rfl
theorem wy_adj {Z : State} {a0 : Array Value} (H : OK Z a0) : (Cond.laysFinal "RecursiveCte" "RecursiveCte" "adj" "[Z").before a0 Z = true := H.w 11 rfl
theorem wy_seed {Z : State} {a0 : Array Value} (H : OK Z a0) : (Cond.laysFinal "RecursiveCte" "RecursiveCte" "seed" "[Z").before a0 Z = true := H.w 13 rfl
theorem wy_rowNodeA {Z : State} {a0 : Array Value} (H : OK Z a0) : (Cond.laysFinal "RecursiveCte" "RecursiveCte" "rowNodeA" "[I").before a0 Z = true := H.w 16 rfl
theorem wy_rowDepthA {Z : State} {a0 : Array Value} (H : OK Z a0) : (Cond.laysFinal "RecursiveCte" "RecursiveCte" "rowDepthA" "[I").before a0 Z = true := H.w 18 rfl
theorem wy_rowCycA {Z : State} {a0 : Array Value} (H : OK Z a0) : (Cond.laysFinal "RecursiveCte" "RecursiveCte" "rowCycA" "[Z").before a0 Z = true := H.w 20 rfl
theorem wy_rowPathA {Z : State} {a0 : Array Value} (H : OK Z a0) : (Cond.laysFinal "RecursiveCte" "RecursiveCte" "rowPathA" "[I").before a0 Z = true := H.w 22 rfl
theorem wy_stkNode {Z : State} {a0 : Array Value} (H : OK Z a0) : (Cond.laysFinal "RecursiveCte" "RecursiveCte" "stkNode" "[I").before a0 Z = true := H.w 24 rfl
theorem wy_stkNext {Z : State} {a0 : Array Value} (H : OK Z a0) : (Cond.laysFinal "RecursiveCte" "RecursiveCte" "stkNext" "[I").before a0 Z = true := H.w 26 rfl
theorem wy_stkCyc {Z : State} {a0 : Array Value} (H : OK Z a0) : (Cond.laysFinal "RecursiveCte" "RecursiveCte" "stkCyc" "[Z").before a0 Z = true := H.w 28 rfl
theorem wy_found {Z : State} {a0 : Array Value} (H : OK Z a0) : (Cond.laysFinal "RecursiveCte" "RecursiveCte" "found" "[Z").before a0 Z = true := H.w 30 rfl
theorem wy_maxNodes {Z : State} {a0 : Array Value} (H : OK Z a0) : (Cond.lays "RecursiveCte" "RecursiveCte" "maxNodes" "I").before a0 Z = true := H.w 36 rfl
theorem wy_maxEdges {Z : State} {a0 : Array Value} (H : OK Z a0) : (Cond.lays "RecursiveCte" "RecursiveCte" "maxEdges" "I").before a0 Z = true := H.w 38 rfl
theorem wy_rowLimit {Z : State} {a0 : Array Value} (H : OK Z a0) : (Cond.lays "RecursiveCte" "RecursiveCte" "rowLimit" "I").before a0 Z = true := H.w 40 rfl
theorem wy_edges {Z : State} {a0 : Array Value} (H : OK Z a0) : (Cond.lays "RecursiveCte" "RecursiveCte" "edges" "I").before a0 Z = true := H.w 42 rfl
theorem wy_kind {Z : State} {a0 : Array Value} (H : OK Z a0) : (Cond.lays "RecursiveCte" "RecursiveCte" "kind" "I").before a0 Z = true := H.w 44 rfl
theorem wy_search {Z : State} {a0 : Array Value} (H : OK Z a0) : (Cond.lays "RecursiveCte" "RecursiveCte" "search" "I").before a0 Z = true := H.w 46 rfl
theorem wy_cycle {Z : State} {a0 : Array Value} (H : OK Z a0) : (Cond.lays "RecursiveCte" "RecursiveCte" "cycle" "Z").before a0 Z = true := H.w 48 rfl
theorem wy_maxDepth {Z : State} {a0 : Array Value} (H : OK Z a0) : (Cond.lays "RecursiveCte" "RecursiveCte" "maxDepth" "I").before a0 Z = true := H.w 50 rfl
theorem wy_status {Z : State} {a0 : Array Value} (H : OK Z a0) : (Cond.lays "RecursiveCte" "RecursiveCte" "status" "I").before a0 Z = true := H.w 52 rfl
theorem wy_count {Z : State} {a0 : Array Value} (H : OK Z a0) : (Cond.lays "RecursiveCte" "RecursiveCte" "count" "I").before a0 Z = true := H.w 54 rfl
theorem wy_top {Z : State} {a0 : Array Value} (H : OK Z a0) : (Cond.lays "RecursiveCte" "RecursiveCte" "top" "I").before a0 Z = true := H.w 56 rfl
theorem wa_int {Z : State} {a0 : Array Value} (H : OK Z a0) : (Cond.arrayClass (newarray.typeOf .int)).before a0 Z = true := H.w 14 rfl
theorem wa_boolean {Z : State} {a0 : Array Value} (H : OK Z a0) : (Cond.arrayClass (newarray.typeOf .boolean)).before a0 Z = true := H.w 9 rfl
theorem wz_C {Z : State} {a0 : Array Value} (H : OK Z a0) : (Cond.initialized "RecursiveCte").before a0 Z = true := H.w 2 rfl
theorem coC {Z : State} {a0 : Array Value} (H : OK Z a0) : CO Z a0 cdC := by
  refine ⟨⟨21, H.w 1 rfl⟩, ?_, ?_, ?_, okcC⟩
  · intro t m; simp only [cdC, List.mem_cons, List.not_mem_nil, or_false] at m
    rcases m with rfl | rfl | rfl | rfl | rfl | rfl | rfl | rfl | rfl | rfl | rfl
    · exact Or.inl (wy_maxNodes H)
    · exact Or.inl (wy_maxEdges H)
    · exact Or.inl (wy_rowLimit H)
    · exact Or.inl (wy_edges H)
    · exact Or.inl (wy_kind H)
    · exact Or.inl (wy_search H)
    · exact Or.inl (wy_cycle H)
    · exact Or.inl (wy_maxDepth H)
    · exact Or.inl (wy_status H)
    · exact Or.inl (wy_count H)
    · exact Or.inl (wy_top H)
  · intro t m; cases m
  · intro t m; simp only [cdC, List.mem_cons, List.not_mem_nil, or_false] at m
    rcases m with rfl | rfl | rfl | rfl | rfl | rfl | rfl | rfl | rfl | rfl
    · exact Or.inr (wy_adj H)
    · exact Or.inr (wy_seed H)
    · exact Or.inr (wy_rowNodeA H)
    · exact Or.inr (wy_rowDepthA H)
    · exact Or.inr (wy_rowCycA H)
    · exact Or.inr (wy_rowPathA H)
    · exact Or.inr (wy_stkNode H)
    · exact Or.inr (wy_stkNext H)
    · exact Or.inr (wy_stkCyc H)
    · exact Or.inr (wy_found H)
theorem mrC {Z : State} (en : Nat × Nat) (h : Heap) : (MoC Z cdC).frm en h h := frmC.refl _ _ _
theorem mtC {Z : State} (en : Nat × Nat) (h1 h2 h3 : Heap) (a : (MoC Z cdC).frm en h1 h2) (b : (MoC Z cdC).frm en h2 h3) : (MoC Z cdC).frm en h1 h3 := frmC.trans a b
theorem mrL {Z : State} (en : Nat × Nat) (h : Heap) : (MoL Z cdC "RecursiveCteL7" true).frm en h h := trivial
theorem mtL {Z : State} (en : Nat × Nat) (h1 h2 h3 : Heap) (a : (MoL Z cdC "RecursiveCteL7" true).frm en h1 h2) (b : (MoL Z cdC "RecursiveCteL7" true).frm en h2 h3) : (MoL Z cdC "RecursiveCteL7" true).frm en h1 h3 := trivial
theorem pn_RecursiveCte : plainName "RecursiveCte" = true := by first | (simp [plainName, overriddenIn]; done) | decide +kernel
theorem pn_RecursiveCteL7 : plainName "RecursiveCteL7" = true := by first | (simp [plainName, overriddenIn]; done) | decide +kernel
theorem pd___I : ∀ sig, parseMethodDescriptor "()I" = some sig → 0 = sig.parameters.length := fun sig h => by
  have q : parseMethodDescriptor "()I" = some ⟨[], some .int⟩ := by decide +kernel
  cases q.symm.trans h; rfl
theorem pd___V : ∀ sig, parseMethodDescriptor "()V" = some sig → 0 = sig.parameters.length := fun sig h => by
  have q : parseMethodDescriptor "()V" = some ⟨[], none⟩ := by decide +kernel
  cases q.symm.trans h; rfl
theorem pd___Z : ∀ sig, parseMethodDescriptor "()Z" = some sig → 0 = sig.parameters.length := fun sig h => by
  have q : parseMethodDescriptor "()Z" = some ⟨[], some .boolean⟩ := by decide +kernel
  cases q.symm.trans h; rfl
theorem pd__I_I : ∀ sig, parseMethodDescriptor "(I)I" = some sig → 1 = sig.parameters.length := fun sig h => by
  have q : parseMethodDescriptor "(I)I" = some ⟨[.int], some .int⟩ := by decide +kernel
  cases q.symm.trans h; rfl
theorem pd__I_Z : ∀ sig, parseMethodDescriptor "(I)Z" = some sig → 1 = sig.parameters.length := fun sig h => by
  have q : parseMethodDescriptor "(I)Z" = some ⟨[.int], some .boolean⟩ := by decide +kernel
  cases q.symm.trans h; rfl
theorem pd__II_I : ∀ sig, parseMethodDescriptor "(II)I" = some sig → 2 = sig.parameters.length := fun sig h => by
  have q : parseMethodDescriptor "(II)I" = some ⟨[.int, .int], some .int⟩ := by decide +kernel
  cases q.symm.trans h; rfl
theorem pd__II_V : ∀ sig, parseMethodDescriptor "(II)V" = some sig → 2 = sig.parameters.length := fun sig h => by
  have q : parseMethodDescriptor "(II)V" = some ⟨[.int, .int], none⟩ := by decide +kernel
  cases q.symm.trans h; rfl
theorem pd__II_Z : ∀ sig, parseMethodDescriptor "(II)Z" = some sig → 2 = sig.parameters.length := fun sig h => by
  have q : parseMethodDescriptor "(II)Z" = some ⟨[.int, .int], some .boolean⟩ := by decide +kernel
  cases q.symm.trans h; rfl
theorem pd__III_I : ∀ sig, parseMethodDescriptor "(III)I" = some sig → 3 = sig.parameters.length := fun sig h => by
  have q : parseMethodDescriptor "(III)I" = some ⟨[.int, .int, .int], some .int⟩ := by decide +kernel
  cases q.symm.trans h; rfl
theorem pd__III_V : ∀ sig, parseMethodDescriptor "(III)V" = some sig → 3 = sig.parameters.length := fun sig h => by
  have q : parseMethodDescriptor "(III)V" = some ⟨[.int, .int, .int], none⟩ := by decide +kernel
  cases q.symm.trans h; rfl
theorem pd__IIZ_Z : ∀ sig, parseMethodDescriptor "(IIZ)Z" = some sig → 3 = sig.parameters.length := fun sig h => by
  have q : parseMethodDescriptor "(IIZ)Z" = some ⟨[.int, .int, .boolean], some .boolean⟩ := by decide +kernel
  cases q.symm.trans h; rfl
theorem pd__IIZI_I : ∀ sig, parseMethodDescriptor "(IIZI)I" = some sig → 4 = sig.parameters.length := fun sig h => by
  have q : parseMethodDescriptor "(IIZI)I" = some ⟨[.int, .int, .boolean, .int], some .int⟩ := by decide +kernel
  cases q.symm.trans h; rfl
theorem pd__IZ_Z : ∀ sig, parseMethodDescriptor "(IZ)Z" = some sig → 2 = sig.parameters.length := fun sig h => by
  have q : parseMethodDescriptor "(IZ)Z" = some ⟨[.int, .boolean], some .boolean⟩ := by decide +kernel
  cases q.symm.trans h; rfl
theorem pd__LRecursiveCte__J : ∀ sig, parseMethodDescriptor "(LRecursiveCte;)J" = some sig → 1 = sig.parameters.length := fun sig h => by
  have q : parseMethodDescriptor "(LRecursiveCte;)J" = some ⟨[(.object "RecursiveCte")], some .long⟩ := by decide +kernel
  cases q.symm.trans h; rfl
theorem pd__Z_Z : ∀ sig, parseMethodDescriptor "(Z)Z" = some sig → 1 = sig.parameters.length := fun sig h => by
  have q : parseMethodDescriptor "(Z)Z" = some ⟨[.boolean], some .boolean⟩ := by decide +kernel
  cases q.symm.trans h; rfl
theorem pd___I_Z : ∀ sig, parseMethodDescriptor "([I)Z" = some sig → 1 = sig.parameters.length := fun sig h => by
  have q : parseMethodDescriptor "([I)Z" = some ⟨[(.array .int)], some .boolean⟩ := by decide +kernel
  cases q.symm.trans h; rfl
abbrev md_init : MD := (⟨"RecursiveCte", "<init>", "(III)V"⟩, prog_1_method_1_code, 4, none, { frames := 1, cells := 10, slots := 1552, locals := 16 }, 10)
theorem cv_init {Z : State} {a0 : Array Value} (H : OK Z a0) : CalI Z a0 md_init 3 := ⟨pn_RecursiveCte, by decide, pd__III_V, H.w 4 rfl, H.w 5 rfl, H.w 2 rfl, rfl, rfl⟩
theorem o_init_0 : InsA md_init 0 (.aload_n 0) 1 1 := ⟨by decide +kernel, rfl⟩
theorem o_init_1 : InsA md_init 1 (.invokespecial 1) 3 4 := ⟨by decide +kernel, rfl⟩
theorem o_init_4 : InsA md_init 4 (.aload_n 0) 1 5 := ⟨by decide +kernel, rfl⟩
theorem o_init_5 : InsA md_init 5 (.sipush 256) 3 8 := ⟨by decide +kernel, rfl⟩
theorem o_init_8 : InsA md_init 8 (.newarray .boolean) 2 10 := ⟨by decide +kernel, rfl⟩
theorem o_init_10 : InsA md_init 10 (.putfield 7) 3 13 := ⟨by decide +kernel, rfl⟩
theorem o_init_13 : InsA md_init 13 (.aload_n 0) 1 14 := ⟨by decide +kernel, rfl⟩
theorem o_init_14 : InsA md_init 14 (.bipush 16) 2 16 := ⟨by decide +kernel, rfl⟩
theorem o_init_16 : InsA md_init 16 (.newarray .boolean) 2 18 := ⟨by decide +kernel, rfl⟩
theorem o_init_18 : InsA md_init 18 (.putfield 13) 3 21 := ⟨by decide +kernel, rfl⟩
theorem o_init_21 : InsA md_init 21 (.aload_n 0) 1 22 := ⟨by decide +kernel, rfl⟩
theorem o_init_22 : InsA md_init 22 (.bipush 64) 2 24 := ⟨by decide +kernel, rfl⟩
theorem o_init_24 : InsA md_init 24 (.newarray .int) 2 26 := ⟨by decide +kernel, rfl⟩
theorem o_init_26 : InsA md_init 26 (.putfield 16) 3 29 := ⟨by decide +kernel, rfl⟩
theorem o_init_29 : InsA md_init 29 (.aload_n 0) 1 30 := ⟨by decide +kernel, rfl⟩
theorem o_init_30 : InsA md_init 30 (.bipush 64) 2 32 := ⟨by decide +kernel, rfl⟩
theorem o_init_32 : InsA md_init 32 (.newarray .int) 2 34 := ⟨by decide +kernel, rfl⟩
theorem o_init_34 : InsA md_init 34 (.putfield 20) 3 37 := ⟨by decide +kernel, rfl⟩
theorem o_init_37 : InsA md_init 37 (.aload_n 0) 1 38 := ⟨by decide +kernel, rfl⟩
theorem o_init_38 : InsA md_init 38 (.bipush 64) 2 40 := ⟨by decide +kernel, rfl⟩
theorem o_init_40 : InsA md_init 40 (.newarray .boolean) 2 42 := ⟨by decide +kernel, rfl⟩
theorem o_init_42 : InsA md_init 42 (.putfield 23) 3 45 := ⟨by decide +kernel, rfl⟩
theorem o_init_45 : InsA md_init 45 (.aload_n 0) 1 46 := ⟨by decide +kernel, rfl⟩
theorem o_init_46 : InsA md_init 46 (.sipush 1024) 3 49 := ⟨by decide +kernel, rfl⟩
theorem o_init_49 : InsA md_init 49 (.newarray .int) 2 51 := ⟨by decide +kernel, rfl⟩
theorem o_init_51 : InsA md_init 51 (.putfield 26) 3 54 := ⟨by decide +kernel, rfl⟩
theorem o_init_54 : InsA md_init 54 (.aload_n 0) 1 55 := ⟨by decide +kernel, rfl⟩
theorem o_init_55 : InsA md_init 55 (.bipush 16) 2 57 := ⟨by decide +kernel, rfl⟩
theorem o_init_57 : InsA md_init 57 (.newarray .int) 2 59 := ⟨by decide +kernel, rfl⟩
theorem o_init_59 : InsA md_init 59 (.putfield 29) 3 62 := ⟨by decide +kernel, rfl⟩
theorem o_init_62 : InsA md_init 62 (.aload_n 0) 1 63 := ⟨by decide +kernel, rfl⟩
theorem o_init_63 : InsA md_init 63 (.bipush 16) 2 65 := ⟨by decide +kernel, rfl⟩
theorem o_init_65 : InsA md_init 65 (.newarray .int) 2 67 := ⟨by decide +kernel, rfl⟩
theorem o_init_67 : InsA md_init 67 (.putfield 32) 3 70 := ⟨by decide +kernel, rfl⟩
theorem o_init_70 : InsA md_init 70 (.aload_n 0) 1 71 := ⟨by decide +kernel, rfl⟩
theorem o_init_71 : InsA md_init 71 (.bipush 16) 2 73 := ⟨by decide +kernel, rfl⟩
theorem o_init_73 : InsA md_init 73 (.newarray .boolean) 2 75 := ⟨by decide +kernel, rfl⟩
theorem o_init_75 : InsA md_init 75 (.putfield 35) 3 78 := ⟨by decide +kernel, rfl⟩
theorem o_init_78 : InsA md_init 78 (.aload_n 0) 1 79 := ⟨by decide +kernel, rfl⟩
theorem o_init_79 : InsA md_init 79 (.bipush 16) 2 81 := ⟨by decide +kernel, rfl⟩
theorem o_init_81 : InsA md_init 81 (.newarray .boolean) 2 83 := ⟨by decide +kernel, rfl⟩
theorem o_init_83 : InsA md_init 83 (.putfield 38) 3 86 := ⟨by decide +kernel, rfl⟩
theorem o_init_86 : InsA md_init 86 (.aload_n 0) 1 87 := ⟨by decide +kernel, rfl⟩
theorem o_init_87 : InsA md_init 87 (.aload_n 0) 1 88 := ⟨by decide +kernel, rfl⟩
theorem o_init_88 : InsA md_init 88 (.iload_n 1) 1 89 := ⟨by decide +kernel, rfl⟩
theorem o_init_89 : InsA md_init 89 (.iconst 2) 1 90 := ⟨by decide +kernel, rfl⟩
theorem o_init_90 : InsA md_init 90 (.bipush 16) 2 92 := ⟨by decide +kernel, rfl⟩
theorem o_init_92 : InsA md_init 92 (.invokevirtual 41) 3 95 := ⟨by decide +kernel, rfl⟩
theorem o_init_95 : InsA md_init 95 (.putfield 45) 3 98 := ⟨by decide +kernel, rfl⟩
theorem o_init_98 : InsA md_init 98 (.aload_n 0) 1 99 := ⟨by decide +kernel, rfl⟩
theorem o_init_99 : InsA md_init 99 (.aload_n 0) 1 100 := ⟨by decide +kernel, rfl⟩
theorem o_init_100 : InsA md_init 100 (.iload_n 2) 1 101 := ⟨by decide +kernel, rfl⟩
theorem o_init_101 : InsA md_init 101 (.iconst 1) 1 102 := ⟨by decide +kernel, rfl⟩
theorem o_init_102 : InsA md_init 102 (.bipush 32) 2 104 := ⟨by decide +kernel, rfl⟩
theorem o_init_104 : InsA md_init 104 (.invokevirtual 41) 3 107 := ⟨by decide +kernel, rfl⟩
theorem o_init_107 : InsA md_init 107 (.putfield 49) 3 110 := ⟨by decide +kernel, rfl⟩
theorem o_init_110 : InsA md_init 110 (.aload_n 0) 1 111 := ⟨by decide +kernel, rfl⟩
theorem o_init_111 : InsA md_init 111 (.aload_n 0) 1 112 := ⟨by decide +kernel, rfl⟩
theorem o_init_112 : InsA md_init 112 (.iload_n 3) 1 113 := ⟨by decide +kernel, rfl⟩
theorem o_init_113 : InsA md_init 113 (.iconst 1) 1 114 := ⟨by decide +kernel, rfl⟩
theorem o_init_114 : InsA md_init 114 (.bipush 64) 2 116 := ⟨by decide +kernel, rfl⟩
theorem o_init_116 : InsA md_init 116 (.invokevirtual 41) 3 119 := ⟨by decide +kernel, rfl⟩
theorem o_init_119 : InsA md_init 119 (.putfield 52) 3 122 := ⟨by decide +kernel, rfl⟩
theorem o_init_122 : InsA md_init 122 (.aload_n 0) 1 123 := ⟨by decide +kernel, rfl⟩
theorem o_init_123 : InsA md_init 123 (.iconst 0) 1 124 := ⟨by decide +kernel, rfl⟩
theorem o_init_124 : InsA md_init 124 (.putfield 55) 3 127 := ⟨by decide +kernel, rfl⟩
theorem o_init_127 : InsA md_init 127 (.aload_n 0) 1 128 := ⟨by decide +kernel, rfl⟩
theorem o_init_128 : InsA md_init 128 (.iconst 0) 1 129 := ⟨by decide +kernel, rfl⟩
theorem o_init_129 : InsA md_init 129 (.putfield 58) 3 132 := ⟨by decide +kernel, rfl⟩
theorem o_init_132 : InsA md_init 132 (.aload_n 0) 1 133 := ⟨by decide +kernel, rfl⟩
theorem o_init_133 : InsA md_init 133 (.iconst 0) 1 134 := ⟨by decide +kernel, rfl⟩
theorem o_init_134 : InsA md_init 134 (.putfield 61) 3 137 := ⟨by decide +kernel, rfl⟩
theorem o_init_137 : InsA md_init 137 (.aload_n 0) 1 138 := ⟨by decide +kernel, rfl⟩
theorem o_init_138 : InsA md_init 138 (.iconst 1) 1 139 := ⟨by decide +kernel, rfl⟩
theorem o_init_139 : InsA md_init 139 (.putfield 64) 3 142 := ⟨by decide +kernel, rfl⟩
theorem o_init_142 : InsA md_init 142 (.aload_n 0) 1 143 := ⟨by decide +kernel, rfl⟩
theorem o_init_143 : InsA md_init 143 (.iconst 4) 1 144 := ⟨by decide +kernel, rfl⟩
theorem o_init_144 : InsA md_init 144 (.putfield 68) 3 147 := ⟨by decide +kernel, rfl⟩
theorem o_init_147 : InsA md_init 147 (.aload_n 0) 1 148 := ⟨by decide +kernel, rfl⟩
theorem o_init_148 : InsA md_init 148 (.iconst 0) 1 149 := ⟨by decide +kernel, rfl⟩
theorem o_init_149 : InsA md_init 149 (.putfield 71) 3 152 := ⟨by decide +kernel, rfl⟩
theorem o_init_152 : InsA md_init 152 (.aload_n 0) 1 153 := ⟨by decide +kernel, rfl⟩
theorem o_init_153 : InsA md_init 153 (.iconst 0) 1 154 := ⟨by decide +kernel, rfl⟩
theorem o_init_154 : InsA md_init 154 (.putfield 74) 3 157 := ⟨by decide +kernel, rfl⟩
theorem o_init_157 : InsA md_init 157 (.aload_n 0) 1 158 := ⟨by decide +kernel, rfl⟩
theorem o_init_158 : InsA md_init 158 (.iconst (-1)) 1 159 := ⟨by decide +kernel, rfl⟩
theorem o_init_159 : InsA md_init 159 (.putfield 77) 3 162 := ⟨by decide +kernel, rfl⟩
theorem o_init_162 : InsA md_init 162 (.return_) 1 163 := ⟨by decide +kernel, rfl⟩
abbrev md_clamp : MD := (⟨"RecursiveCte", "clamp", "(III)I"⟩, prog_1_method_2_code, 4, some .int, { frames := 0, cells := 0, slots := 0, locals := 0 }, 0)
theorem cv_clamp {Z : State} {a0 : Array Value} (H : OK Z a0) : CalV Z a0 md_clamp 3 := ⟨pn_RecursiveCte, by decide, pd__III_I, H.w 32 rfl, H.w 34 rfl, H.w 2 rfl, Or.inr ⟨H.w 33 rfl, 21, H.w 1 rfl⟩⟩
theorem o_clamp_0 : InsA md_clamp 0 (.iload_n 1) 1 1 := ⟨by decide +kernel, rfl⟩
theorem o_clamp_1 : InsA md_clamp 1 (.iload_n 2) 1 2 := ⟨by decide +kernel, rfl⟩
theorem o_clamp_2 : InsB md_clamp 2 (.if_icmp .ge 5) 3 5 (5) 7 := ⟨by decide +kernel, rfl, by decide, by decide⟩
theorem o_clamp_5 : InsA md_clamp 5 (.iload_n 2) 1 6 := ⟨by decide +kernel, rfl⟩
theorem o_clamp_6 : InsA md_clamp 6 (.ireturn) 1 7 := ⟨by decide +kernel, rfl⟩
theorem o_clamp_7 : InsA md_clamp 7 (.iload_n 1) 1 8 := ⟨by decide +kernel, rfl⟩
theorem o_clamp_8 : InsA md_clamp 8 (.iload_n 3) 1 9 := ⟨by decide +kernel, rfl⟩
theorem o_clamp_9 : InsB md_clamp 9 (.if_icmp .le 5) 3 12 (5) 14 := ⟨by decide +kernel, rfl, by decide, by decide⟩
theorem o_clamp_12 : InsA md_clamp 12 (.iload_n 3) 1 13 := ⟨by decide +kernel, rfl⟩
theorem o_clamp_13 : InsA md_clamp 13 (.ireturn) 1 14 := ⟨by decide +kernel, rfl⟩
theorem o_clamp_14 : InsA md_clamp 14 (.iload_n 1) 1 15 := ⟨by decide +kernel, rfl⟩
theorem o_clamp_15 : InsA md_clamp 15 (.ireturn) 1 16 := ⟨by decide +kernel, rfl⟩
abbrev md_L_fp : MD := (⟨"RecursiveCteL7", "fp", "(LRecursiveCte;)J"⟩, method_2_code, 6, some .long, { frames := 2, cells := 0, slots := 0, locals := 30 }, 0)
theorem cv_L_fp {Z : State} {a0 : Array Value} (H : OK Z a0) : CalS Z a0 md_L_fp 1 := ⟨pn_RecursiveCteL7, by decide, pd__LRecursiveCte__J, H.w 59 rfl, H.w 61 rfl, H.w 60 rfl⟩
theorem o_L_fp_0 : InsA md_L_fp 0 (.aload_n 0) 1 1 := ⟨by decide +kernel, rfl⟩
theorem o_L_fp_1 : InsA md_L_fp 1 (.invokevirtual 7) 3 4 := ⟨by decide +kernel, rfl⟩
theorem o_L_fp_4 : InsA md_L_fp 4 (.i2l) 1 5 := ⟨by decide +kernel, rfl⟩
theorem o_L_fp_5 : InsA md_L_fp 5 (.lstore_n 1) 1 6 := ⟨by decide +kernel, rfl⟩
theorem o_L_fp_6 : InsA md_L_fp 6 (.lload_n 1) 1 7 := ⟨by decide +kernel, rfl⟩
theorem o_L_fp_7 : InsA md_L_fp 7 (.ldc2_w 13) 3 10 := ⟨by decide +kernel, rfl⟩
theorem o_L_fp_10 : InsA md_L_fp 10 (.lmul) 1 11 := ⟨by decide +kernel, rfl⟩
theorem o_L_fp_11 : InsA md_L_fp 11 (.aload_n 0) 1 12 := ⟨by decide +kernel, rfl⟩
theorem o_L_fp_12 : InsA md_L_fp 12 (.invokevirtual 15) 3 15 := ⟨by decide +kernel, rfl⟩
theorem o_L_fp_15 : InsA md_L_fp 15 (.i2l) 1 16 := ⟨by decide +kernel, rfl⟩
theorem o_L_fp_16 : InsA md_L_fp 16 (.ladd) 1 17 := ⟨by decide +kernel, rfl⟩
theorem o_L_fp_17 : InsA md_L_fp 17 (.lstore_n 1) 1 18 := ⟨by decide +kernel, rfl⟩
theorem o_L_fp_18 : InsA md_L_fp 18 (.lload_n 1) 1 19 := ⟨by decide +kernel, rfl⟩
theorem o_L_fp_19 : InsA md_L_fp 19 (.ldc2_w 13) 3 22 := ⟨by decide +kernel, rfl⟩
theorem o_L_fp_22 : InsA md_L_fp 22 (.lmul) 1 23 := ⟨by decide +kernel, rfl⟩
theorem o_L_fp_23 : InsA md_L_fp 23 (.aload_n 0) 1 24 := ⟨by decide +kernel, rfl⟩
theorem o_L_fp_24 : InsA md_L_fp 24 (.invokevirtual 18) 3 27 := ⟨by decide +kernel, rfl⟩
theorem o_L_fp_27 : InsA md_L_fp 27 (.i2l) 1 28 := ⟨by decide +kernel, rfl⟩
theorem o_L_fp_28 : InsA md_L_fp 28 (.ladd) 1 29 := ⟨by decide +kernel, rfl⟩
theorem o_L_fp_29 : InsA md_L_fp 29 (.lstore_n 1) 1 30 := ⟨by decide +kernel, rfl⟩
theorem o_L_fp_30 : InsA md_L_fp 30 (.iconst 0) 1 31 := ⟨by decide +kernel, rfl⟩
theorem o_L_fp_31 : InsA md_L_fp 31 (.istore_n 3) 1 32 := ⟨by decide +kernel, rfl⟩
theorem o_L_fp_32 : InsA md_L_fp 32 (.iload_n 3) 1 33 := ⟨by decide +kernel, rfl⟩
theorem o_L_fp_33 : InsA md_L_fp 33 (.bipush 49) 2 35 := ⟨by decide +kernel, rfl⟩
theorem o_L_fp_35 : InsB md_L_fp 35 (.if_icmp .ge 38) 3 38 (38) 73 := ⟨by decide +kernel, rfl, by decide, by decide⟩
theorem o_L_fp_38 : InsA md_L_fp 38 (.lload_n 1) 1 39 := ⟨by decide +kernel, rfl⟩
theorem o_L_fp_39 : InsA md_L_fp 39 (.ldc2_w 13) 3 42 := ⟨by decide +kernel, rfl⟩
theorem o_L_fp_42 : InsA md_L_fp 42 (.lmul) 1 43 := ⟨by decide +kernel, rfl⟩
theorem o_L_fp_43 : InsA md_L_fp 43 (.aload_n 0) 1 44 := ⟨by decide +kernel, rfl⟩
theorem o_L_fp_44 : InsA md_L_fp 44 (.iload_n 3) 1 45 := ⟨by decide +kernel, rfl⟩
theorem o_L_fp_45 : InsA md_L_fp 45 (.bipush 7) 2 47 := ⟨by decide +kernel, rfl⟩
theorem o_L_fp_47 : InsA md_L_fp 47 (.idiv) 1 48 := ⟨by decide +kernel, rfl⟩
theorem o_L_fp_48 : InsA md_L_fp 48 (.iload_n 3) 1 49 := ⟨by decide +kernel, rfl⟩
theorem o_L_fp_49 : InsA md_L_fp 49 (.bipush 7) 2 51 := ⟨by decide +kernel, rfl⟩
theorem o_L_fp_51 : InsA md_L_fp 51 (.irem) 1 52 := ⟨by decide +kernel, rfl⟩
theorem o_L_fp_52 : InsA md_L_fp 52 (.invokevirtual 21) 3 55 := ⟨by decide +kernel, rfl⟩
theorem o_L_fp_55 : InsB md_L_fp 55 (.ifCond .eq 7) 3 58 (7) 62 := ⟨by decide +kernel, rfl, by decide, by decide⟩
theorem o_L_fp_58 : InsA md_L_fp 58 (.lconst 1) 1 59 := ⟨by decide +kernel, rfl⟩
theorem o_L_fp_59 : InsB md_L_fp 59 (.goto 6) 3 62 (6) 65 := ⟨by decide +kernel, rfl, by decide, by decide⟩
theorem o_L_fp_62 : InsA md_L_fp 62 (.ldc2_w 25) 3 65 := ⟨by decide +kernel, rfl⟩
theorem o_L_fp_65 : InsA md_L_fp 65 (.ladd) 1 66 := ⟨by decide +kernel, rfl⟩
theorem o_L_fp_66 : InsA md_L_fp 66 (.lstore_n 1) 1 67 := ⟨by decide +kernel, rfl⟩
theorem o_L_fp_67 : InsA md_L_fp 67 (.iinc 3 1) 3 70 := ⟨by decide +kernel, rfl⟩
theorem o_L_fp_70 : InsB md_L_fp 70 (.goto (-38)) 3 73 (-38) 32 := ⟨by decide +kernel, rfl, by decide, by decide⟩
theorem o_L_fp_73 : InsA md_L_fp 73 (.iconst 0) 1 74 := ⟨by decide +kernel, rfl⟩
theorem o_L_fp_74 : InsA md_L_fp 74 (.istore_n 3) 1 75 := ⟨by decide +kernel, rfl⟩
theorem o_L_fp_75 : InsA md_L_fp 75 (.iload_n 3) 1 76 := ⟨by decide +kernel, rfl⟩
theorem o_L_fp_76 : InsA md_L_fp 76 (.bipush 7) 2 78 := ⟨by decide +kernel, rfl⟩
theorem o_L_fp_78 : InsB md_L_fp 78 (.if_icmp .ge 44) 3 81 (44) 122 := ⟨by decide +kernel, rfl, by decide, by decide⟩
theorem o_L_fp_81 : InsA md_L_fp 81 (.lload_n 1) 1 82 := ⟨by decide +kernel, rfl⟩
theorem o_L_fp_82 : InsA md_L_fp 82 (.ldc2_w 13) 3 85 := ⟨by decide +kernel, rfl⟩
theorem o_L_fp_85 : InsA md_L_fp 85 (.lmul) 1 86 := ⟨by decide +kernel, rfl⟩
theorem o_L_fp_86 : InsA md_L_fp 86 (.aload_n 0) 1 87 := ⟨by decide +kernel, rfl⟩
theorem o_L_fp_87 : InsA md_L_fp 87 (.iload_n 3) 1 88 := ⟨by decide +kernel, rfl⟩
theorem o_L_fp_88 : InsA md_L_fp 88 (.invokevirtual 27) 3 91 := ⟨by decide +kernel, rfl⟩
theorem o_L_fp_91 : InsA md_L_fp 91 (.i2l) 1 92 := ⟨by decide +kernel, rfl⟩
theorem o_L_fp_92 : InsA md_L_fp 92 (.ladd) 1 93 := ⟨by decide +kernel, rfl⟩
theorem o_L_fp_93 : InsA md_L_fp 93 (.lstore_n 1) 1 94 := ⟨by decide +kernel, rfl⟩
theorem o_L_fp_94 : InsA md_L_fp 94 (.lload_n 1) 1 95 := ⟨by decide +kernel, rfl⟩
theorem o_L_fp_95 : InsA md_L_fp 95 (.ldc2_w 13) 3 98 := ⟨by decide +kernel, rfl⟩
theorem o_L_fp_98 : InsA md_L_fp 98 (.lmul) 1 99 := ⟨by decide +kernel, rfl⟩
theorem o_L_fp_99 : InsA md_L_fp 99 (.aload_n 0) 1 100 := ⟨by decide +kernel, rfl⟩
theorem o_L_fp_100 : InsA md_L_fp 100 (.iload_n 3) 1 101 := ⟨by decide +kernel, rfl⟩
theorem o_L_fp_101 : InsA md_L_fp 101 (.invokevirtual 31) 3 104 := ⟨by decide +kernel, rfl⟩
theorem o_L_fp_104 : InsB md_L_fp 104 (.ifCond .eq 7) 3 107 (7) 111 := ⟨by decide +kernel, rfl, by decide, by decide⟩
theorem o_L_fp_107 : InsA md_L_fp 107 (.lconst 1) 1 108 := ⟨by decide +kernel, rfl⟩
theorem o_L_fp_108 : InsB md_L_fp 108 (.goto 6) 3 111 (6) 114 := ⟨by decide +kernel, rfl, by decide, by decide⟩
theorem o_L_fp_111 : InsA md_L_fp 111 (.ldc2_w 25) 3 114 := ⟨by decide +kernel, rfl⟩
theorem o_L_fp_114 : InsA md_L_fp 114 (.ladd) 1 115 := ⟨by decide +kernel, rfl⟩
theorem o_L_fp_115 : InsA md_L_fp 115 (.lstore_n 1) 1 116 := ⟨by decide +kernel, rfl⟩
theorem o_L_fp_116 : InsA md_L_fp 116 (.iinc 3 1) 3 119 := ⟨by decide +kernel, rfl⟩
theorem o_L_fp_119 : InsB md_L_fp 119 (.goto (-44)) 3 122 (-44) 75 := ⟨by decide +kernel, rfl, by decide, by decide⟩
theorem o_L_fp_122 : InsA md_L_fp 122 (.iconst 0) 1 123 := ⟨by decide +kernel, rfl⟩
theorem o_L_fp_123 : InsA md_L_fp 123 (.istore_n 3) 1 124 := ⟨by decide +kernel, rfl⟩
theorem o_L_fp_124 : InsA md_L_fp 124 (.iload_n 3) 1 125 := ⟨by decide +kernel, rfl⟩
theorem o_L_fp_125 : InsA md_L_fp 125 (.sipush 400) 3 128 := ⟨by decide +kernel, rfl⟩
theorem o_L_fp_128 : InsB md_L_fp 128 (.if_icmp .ge 92) 3 131 (92) 220 := ⟨by decide +kernel, rfl, by decide, by decide⟩
theorem o_L_fp_131 : InsA md_L_fp 131 (.iload_n 3) 1 132 := ⟨by decide +kernel, rfl⟩
theorem o_L_fp_132 : InsA md_L_fp 132 (.iconst 4) 1 133 := ⟨by decide +kernel, rfl⟩
theorem o_L_fp_133 : InsA md_L_fp 133 (.ishr) 1 134 := ⟨by decide +kernel, rfl⟩
theorem o_L_fp_134 : InsA md_L_fp 134 (.istore 4) 2 136 := ⟨by decide +kernel, rfl⟩
theorem o_L_fp_136 : InsA md_L_fp 136 (.iload_n 3) 1 137 := ⟨by decide +kernel, rfl⟩
theorem o_L_fp_137 : InsA md_L_fp 137 (.bipush 15) 2 139 := ⟨by decide +kernel, rfl⟩
theorem o_L_fp_139 : InsA md_L_fp 139 (.iand) 1 140 := ⟨by decide +kernel, rfl⟩
theorem o_L_fp_140 : InsA md_L_fp 140 (.istore 5) 2 142 := ⟨by decide +kernel, rfl⟩
theorem o_L_fp_142 : InsA md_L_fp 142 (.iload 5) 2 144 := ⟨by decide +kernel, rfl⟩
theorem o_L_fp_144 : InsB md_L_fp 144 (.ifCond .ne 54) 3 147 (54) 198 := ⟨by decide +kernel, rfl, by decide, by decide⟩
theorem o_L_fp_147 : InsA md_L_fp 147 (.lload_n 1) 1 148 := ⟨by decide +kernel, rfl⟩
theorem o_L_fp_148 : InsA md_L_fp 148 (.ldc2_w 13) 3 151 := ⟨by decide +kernel, rfl⟩
theorem o_L_fp_151 : InsA md_L_fp 151 (.lmul) 1 152 := ⟨by decide +kernel, rfl⟩
theorem o_L_fp_152 : InsA md_L_fp 152 (.aload_n 0) 1 153 := ⟨by decide +kernel, rfl⟩
theorem o_L_fp_153 : InsA md_L_fp 153 (.iload 4) 2 155 := ⟨by decide +kernel, rfl⟩
theorem o_L_fp_155 : InsA md_L_fp 155 (.invokevirtual 35) 3 158 := ⟨by decide +kernel, rfl⟩
theorem o_L_fp_158 : InsA md_L_fp 158 (.i2l) 1 159 := ⟨by decide +kernel, rfl⟩
theorem o_L_fp_159 : InsA md_L_fp 159 (.ladd) 1 160 := ⟨by decide +kernel, rfl⟩
theorem o_L_fp_160 : InsA md_L_fp 160 (.lstore_n 1) 1 161 := ⟨by decide +kernel, rfl⟩
theorem o_L_fp_161 : InsA md_L_fp 161 (.lload_n 1) 1 162 := ⟨by decide +kernel, rfl⟩
theorem o_L_fp_162 : InsA md_L_fp 162 (.ldc2_w 13) 3 165 := ⟨by decide +kernel, rfl⟩
theorem o_L_fp_165 : InsA md_L_fp 165 (.lmul) 1 166 := ⟨by decide +kernel, rfl⟩
theorem o_L_fp_166 : InsA md_L_fp 166 (.aload_n 0) 1 167 := ⟨by decide +kernel, rfl⟩
theorem o_L_fp_167 : InsA md_L_fp 167 (.iload 4) 2 169 := ⟨by decide +kernel, rfl⟩
theorem o_L_fp_169 : InsA md_L_fp 169 (.invokevirtual 38) 3 172 := ⟨by decide +kernel, rfl⟩
theorem o_L_fp_172 : InsA md_L_fp 172 (.i2l) 1 173 := ⟨by decide +kernel, rfl⟩
theorem o_L_fp_173 : InsA md_L_fp 173 (.ladd) 1 174 := ⟨by decide +kernel, rfl⟩
theorem o_L_fp_174 : InsA md_L_fp 174 (.lstore_n 1) 1 175 := ⟨by decide +kernel, rfl⟩
theorem o_L_fp_175 : InsA md_L_fp 175 (.lload_n 1) 1 176 := ⟨by decide +kernel, rfl⟩
theorem o_L_fp_176 : InsA md_L_fp 176 (.ldc2_w 13) 3 179 := ⟨by decide +kernel, rfl⟩
theorem o_L_fp_179 : InsA md_L_fp 179 (.lmul) 1 180 := ⟨by decide +kernel, rfl⟩
theorem o_L_fp_180 : InsA md_L_fp 180 (.aload_n 0) 1 181 := ⟨by decide +kernel, rfl⟩
theorem o_L_fp_181 : InsA md_L_fp 181 (.iload 4) 2 183 := ⟨by decide +kernel, rfl⟩
theorem o_L_fp_183 : InsA md_L_fp 183 (.invokevirtual 41) 3 186 := ⟨by decide +kernel, rfl⟩
theorem o_L_fp_186 : InsB md_L_fp 186 (.ifCond .eq 7) 3 189 (7) 193 := ⟨by decide +kernel, rfl, by decide, by decide⟩
theorem o_L_fp_189 : InsA md_L_fp 189 (.lconst 1) 1 190 := ⟨by decide +kernel, rfl⟩
theorem o_L_fp_190 : InsB md_L_fp 190 (.goto 6) 3 193 (6) 196 := ⟨by decide +kernel, rfl, by decide, by decide⟩
theorem o_L_fp_193 : InsA md_L_fp 193 (.ldc2_w 25) 3 196 := ⟨by decide +kernel, rfl⟩
theorem o_L_fp_196 : InsA md_L_fp 196 (.ladd) 1 197 := ⟨by decide +kernel, rfl⟩
theorem o_L_fp_197 : InsA md_L_fp 197 (.lstore_n 1) 1 198 := ⟨by decide +kernel, rfl⟩
theorem o_L_fp_198 : InsA md_L_fp 198 (.lload_n 1) 1 199 := ⟨by decide +kernel, rfl⟩
theorem o_L_fp_199 : InsA md_L_fp 199 (.ldc2_w 13) 3 202 := ⟨by decide +kernel, rfl⟩
theorem o_L_fp_202 : InsA md_L_fp 202 (.lmul) 1 203 := ⟨by decide +kernel, rfl⟩
theorem o_L_fp_203 : InsA md_L_fp 203 (.aload_n 0) 1 204 := ⟨by decide +kernel, rfl⟩
theorem o_L_fp_204 : InsA md_L_fp 204 (.iload 4) 2 206 := ⟨by decide +kernel, rfl⟩
theorem o_L_fp_206 : InsA md_L_fp 206 (.iload 5) 2 208 := ⟨by decide +kernel, rfl⟩
theorem o_L_fp_208 : InsA md_L_fp 208 (.invokevirtual 44) 3 211 := ⟨by decide +kernel, rfl⟩
theorem o_L_fp_211 : InsA md_L_fp 211 (.i2l) 1 212 := ⟨by decide +kernel, rfl⟩
theorem o_L_fp_212 : InsA md_L_fp 212 (.ladd) 1 213 := ⟨by decide +kernel, rfl⟩
theorem o_L_fp_213 : InsA md_L_fp 213 (.lstore_n 1) 1 214 := ⟨by decide +kernel, rfl⟩
theorem o_L_fp_214 : InsA md_L_fp 214 (.iinc 3 1) 3 217 := ⟨by decide +kernel, rfl⟩
theorem o_L_fp_217 : InsB md_L_fp 217 (.goto (-93)) 3 220 (-93) 124 := ⟨by decide +kernel, rfl, by decide, by decide⟩
theorem o_L_fp_220 : InsA md_L_fp 220 (.lload_n 1) 1 221 := ⟨by decide +kernel, rfl⟩
theorem o_L_fp_221 : InsA md_L_fp 221 (.lreturn) 1 222 := ⟨by decide +kernel, rfl⟩
abbrev md_status : MD := (⟨"RecursiveCte", "status", "()I"⟩, prog_1_method_24_code, 1, some .int, { frames := 0, cells := 0, slots := 0, locals := 0 }, 0)
theorem cv_status {Z : State} {a0 : Array Value} (H : OK Z a0) : CalV Z a0 md_status 0 := ⟨pn_RecursiveCte, by decide, pd___I, H.w 64 rfl, H.w 66 rfl, H.w 2 rfl, Or.inl ⟨H.w 63 rfl, H.w 65 rfl⟩⟩
theorem o_status_0 : InsA md_status 0 (.aload_n 0) 1 1 := ⟨by decide +kernel, rfl⟩
theorem o_status_1 : InsA md_status 1 (.getfield 71) 3 4 := ⟨by decide +kernel, rfl⟩
theorem o_status_4 : InsA md_status 4 (.ireturn) 1 5 := ⟨by decide +kernel, rfl⟩
abbrev md_rowCount : MD := (⟨"RecursiveCte", "rowCount", "()I"⟩, prog_1_method_25_code, 1, some .int, { frames := 0, cells := 0, slots := 0, locals := 0 }, 0)
theorem cv_rowCount {Z : State} {a0 : Array Value} (H : OK Z a0) : CalV Z a0 md_rowCount 0 := ⟨pn_RecursiveCte, by decide, pd___I, H.w 70 rfl, H.w 72 rfl, H.w 2 rfl, Or.inl ⟨H.w 69 rfl, H.w 71 rfl⟩⟩
theorem o_rowCount_0 : InsA md_rowCount 0 (.aload_n 0) 1 1 := ⟨by decide +kernel, rfl⟩
theorem o_rowCount_1 : InsA md_rowCount 1 (.getfield 74) 3 4 := ⟨by decide +kernel, rfl⟩
theorem o_rowCount_4 : InsA md_rowCount 4 (.ireturn) 1 5 := ⟨by decide +kernel, rfl⟩
abbrev md_edgeCount : MD := (⟨"RecursiveCte", "edgeCount", "()I"⟩, prog_1_method_32_code, 1, some .int, { frames := 0, cells := 0, slots := 0, locals := 0 }, 0)
theorem cv_edgeCount {Z : State} {a0 : Array Value} (H : OK Z a0) : CalV Z a0 md_edgeCount 0 := ⟨pn_RecursiveCte, by decide, pd___I, H.w 75 rfl, H.w 77 rfl, H.w 2 rfl, Or.inl ⟨H.w 74 rfl, H.w 76 rfl⟩⟩
theorem o_edgeCount_0 : InsA md_edgeCount 0 (.aload_n 0) 1 1 := ⟨by decide +kernel, rfl⟩
theorem o_edgeCount_1 : InsA md_edgeCount 1 (.getfield 55) 3 4 := ⟨by decide +kernel, rfl⟩
theorem o_edgeCount_4 : InsA md_edgeCount 4 (.ireturn) 1 5 := ⟨by decide +kernel, rfl⟩
abbrev md_hasEdge : MD := (⟨"RecursiveCte", "hasEdge", "(II)Z"⟩, prog_1_method_33_code, 3, some .boolean, { frames := 1, cells := 0, slots := 0, locals := 13 }, 0)
theorem cv_hasEdge {Z : State} {a0 : Array Value} (H : OK Z a0) : CalV Z a0 md_hasEdge 2 := ⟨pn_RecursiveCte, by decide, pd__II_Z, H.w 80 rfl, H.w 82 rfl, H.w 2 rfl, Or.inl ⟨H.w 79 rfl, H.w 81 rfl⟩⟩
theorem o_hasEdge_0 : InsA md_hasEdge 0 (.aload_n 0) 1 1 := ⟨by decide +kernel, rfl⟩
theorem o_hasEdge_1 : InsA md_hasEdge 1 (.iload_n 1) 1 2 := ⟨by decide +kernel, rfl⟩
theorem o_hasEdge_2 : InsA md_hasEdge 2 (.invokevirtual 80) 3 5 := ⟨by decide +kernel, rfl⟩
theorem o_hasEdge_5 : InsB md_hasEdge 5 (.ifCond .eq 11) 3 8 (11) 16 := ⟨by decide +kernel, rfl, by decide, by decide⟩
theorem o_hasEdge_8 : InsA md_hasEdge 8 (.aload_n 0) 1 9 := ⟨by decide +kernel, rfl⟩
theorem o_hasEdge_9 : InsA md_hasEdge 9 (.iload_n 2) 1 10 := ⟨by decide +kernel, rfl⟩
theorem o_hasEdge_10 : InsA md_hasEdge 10 (.invokevirtual 80) 3 13 := ⟨by decide +kernel, rfl⟩
theorem o_hasEdge_13 : InsB md_hasEdge 13 (.ifCond .ne 5) 3 16 (5) 18 := ⟨by decide +kernel, rfl, by decide, by decide⟩
theorem o_hasEdge_16 : InsA md_hasEdge 16 (.iconst 0) 1 17 := ⟨by decide +kernel, rfl⟩
theorem o_hasEdge_17 : InsA md_hasEdge 17 (.ireturn) 1 18 := ⟨by decide +kernel, rfl⟩
theorem o_hasEdge_18 : InsA md_hasEdge 18 (.aload_n 0) 1 19 := ⟨by decide +kernel, rfl⟩
theorem o_hasEdge_19 : InsA md_hasEdge 19 (.getfield 7) 3 22 := ⟨by decide +kernel, rfl⟩
theorem o_hasEdge_22 : InsA md_hasEdge 22 (.iload_n 1) 1 23 := ⟨by decide +kernel, rfl⟩
theorem o_hasEdge_23 : InsA md_hasEdge 23 (.bipush 16) 2 25 := ⟨by decide +kernel, rfl⟩
theorem o_hasEdge_25 : InsA md_hasEdge 25 (.imul) 1 26 := ⟨by decide +kernel, rfl⟩
theorem o_hasEdge_26 : InsA md_hasEdge 26 (.iload_n 2) 1 27 := ⟨by decide +kernel, rfl⟩
theorem o_hasEdge_27 : InsA md_hasEdge 27 (.iadd) 1 28 := ⟨by decide +kernel, rfl⟩
theorem o_hasEdge_28 : InsA md_hasEdge 28 (.baload) 1 29 := ⟨by decide +kernel, rfl⟩
theorem o_hasEdge_29 : InsA md_hasEdge 29 (.ireturn) 1 30 := ⟨by decide +kernel, rfl⟩
abbrev md_inRange : MD := (⟨"RecursiveCte", "inRange", "(I)Z"⟩, prog_1_method_3_code, 2, some .boolean, { frames := 0, cells := 0, slots := 0, locals := 0 }, 0)
theorem cv_inRange {Z : State} {a0 : Array Value} (H : OK Z a0) : CalV Z a0 md_inRange 1 := ⟨pn_RecursiveCte, by decide, pd__I_Z, H.w 84 rfl, H.w 86 rfl, H.w 2 rfl, Or.inr ⟨H.w 85 rfl, 21, H.w 1 rfl⟩⟩
theorem o_inRange_0 : InsA md_inRange 0 (.iload_n 1) 1 1 := ⟨by decide +kernel, rfl⟩
theorem o_inRange_1 : InsB md_inRange 1 (.ifCond .lt 15) 3 4 (15) 16 := ⟨by decide +kernel, rfl, by decide, by decide⟩
theorem o_inRange_4 : InsA md_inRange 4 (.iload_n 1) 1 5 := ⟨by decide +kernel, rfl⟩
theorem o_inRange_5 : InsA md_inRange 5 (.aload_n 0) 1 6 := ⟨by decide +kernel, rfl⟩
theorem o_inRange_6 : InsA md_inRange 6 (.getfield 45) 3 9 := ⟨by decide +kernel, rfl⟩
theorem o_inRange_9 : InsB md_inRange 9 (.if_icmp .ge 7) 3 12 (7) 16 := ⟨by decide +kernel, rfl, by decide, by decide⟩
theorem o_inRange_12 : InsA md_inRange 12 (.iconst 1) 1 13 := ⟨by decide +kernel, rfl⟩
theorem o_inRange_13 : InsB md_inRange 13 (.goto 4) 3 16 (4) 17 := ⟨by decide +kernel, rfl, by decide, by decide⟩
theorem o_inRange_16 : InsA md_inRange 16 (.iconst 0) 1 17 := ⟨by decide +kernel, rfl⟩
theorem o_inRange_17 : InsA md_inRange 17 (.ireturn) 1 18 := ⟨by decide +kernel, rfl⟩
abbrev md_countNode : MD := (⟨"RecursiveCte", "countNode", "(I)I"⟩, prog_1_method_31_code, 4, some .int, { frames := 1, cells := 0, slots := 0, locals := 13 }, 0)
theorem cv_countNode {Z : State} {a0 : Array Value} (H : OK Z a0) : CalV Z a0 md_countNode 1 := ⟨pn_RecursiveCte, by decide, pd__I_I, H.w 90 rfl, H.w 92 rfl, H.w 2 rfl, Or.inl ⟨H.w 89 rfl, H.w 91 rfl⟩⟩
theorem o_countNode_0 : InsA md_countNode 0 (.aload_n 0) 1 1 := ⟨by decide +kernel, rfl⟩
theorem o_countNode_1 : InsA md_countNode 1 (.iload_n 1) 1 2 := ⟨by decide +kernel, rfl⟩
theorem o_countNode_2 : InsA md_countNode 2 (.invokevirtual 80) 3 5 := ⟨by decide +kernel, rfl⟩
theorem o_countNode_5 : InsB md_countNode 5 (.ifCond .ne 5) 3 8 (5) 10 := ⟨by decide +kernel, rfl, by decide, by decide⟩
theorem o_countNode_8 : InsA md_countNode 8 (.iconst (-1)) 1 9 := ⟨by decide +kernel, rfl⟩
theorem o_countNode_9 : InsA md_countNode 9 (.ireturn) 1 10 := ⟨by decide +kernel, rfl⟩
theorem o_countNode_10 : InsA md_countNode 10 (.iconst 0) 1 11 := ⟨by decide +kernel, rfl⟩
theorem o_countNode_11 : InsA md_countNode 11 (.istore_n 2) 1 12 := ⟨by decide +kernel, rfl⟩
theorem o_countNode_12 : InsA md_countNode 12 (.iconst 0) 1 13 := ⟨by decide +kernel, rfl⟩
theorem o_countNode_13 : InsA md_countNode 13 (.istore_n 3) 1 14 := ⟨by decide +kernel, rfl⟩
theorem o_countNode_14 : InsA md_countNode 14 (.iload_n 3) 1 15 := ⟨by decide +kernel, rfl⟩
theorem o_countNode_15 : InsA md_countNode 15 (.aload_n 0) 1 16 := ⟨by decide +kernel, rfl⟩
theorem o_countNode_16 : InsA md_countNode 16 (.getfield 74) 3 19 := ⟨by decide +kernel, rfl⟩
theorem o_countNode_19 : InsB md_countNode 19 (.if_icmp .ge 28) 3 22 (28) 47 := ⟨by decide +kernel, rfl, by decide, by decide⟩
theorem o_countNode_22 : InsA md_countNode 22 (.iload_n 3) 1 23 := ⟨by decide +kernel, rfl⟩
theorem o_countNode_23 : InsA md_countNode 23 (.bipush 64) 2 25 := ⟨by decide +kernel, rfl⟩
theorem o_countNode_25 : InsB md_countNode 25 (.if_icmp .ge 22) 3 28 (22) 47 := ⟨by decide +kernel, rfl, by decide, by decide⟩
theorem o_countNode_28 : InsA md_countNode 28 (.aload_n 0) 1 29 := ⟨by decide +kernel, rfl⟩
theorem o_countNode_29 : InsA md_countNode 29 (.getfield 16) 3 32 := ⟨by decide +kernel, rfl⟩
theorem o_countNode_32 : InsA md_countNode 32 (.iload_n 3) 1 33 := ⟨by decide +kernel, rfl⟩
theorem o_countNode_33 : InsA md_countNode 33 (.iaload) 1 34 := ⟨by decide +kernel, rfl⟩
theorem o_countNode_34 : InsA md_countNode 34 (.iload_n 1) 1 35 := ⟨by decide +kernel, rfl⟩
theorem o_countNode_35 : InsB md_countNode 35 (.if_icmp .ne 6) 3 38 (6) 41 := ⟨by decide +kernel, rfl, by decide, by decide⟩
theorem o_countNode_38 : InsA md_countNode 38 (.iinc 2 1) 3 41 := ⟨by decide +kernel, rfl⟩
theorem o_countNode_41 : InsA md_countNode 41 (.iinc 3 1) 3 44 := ⟨by decide +kernel, rfl⟩
theorem o_countNode_44 : InsB md_countNode 44 (.goto (-30)) 3 47 (-30) 14 := ⟨by decide +kernel, rfl, by decide, by decide⟩
theorem o_countNode_47 : InsA md_countNode 47 (.iload_n 2) 1 48 := ⟨by decide +kernel, rfl⟩
theorem o_countNode_48 : InsA md_countNode 48 (.ireturn) 1 49 := ⟨by decide +kernel, rfl⟩
abbrev md_isSeed : MD := (⟨"RecursiveCte", "isSeed", "(I)Z"⟩, prog_1_method_34_code, 2, some .boolean, { frames := 1, cells := 0, slots := 0, locals := 13 }, 0)
theorem cv_isSeed {Z : State} {a0 : Array Value} (H : OK Z a0) : CalV Z a0 md_isSeed 1 := ⟨pn_RecursiveCte, by decide, pd__I_Z, H.w 95 rfl, H.w 97 rfl, H.w 2 rfl, Or.inl ⟨H.w 94 rfl, H.w 96 rfl⟩⟩
theorem o_isSeed_0 : InsA md_isSeed 0 (.aload_n 0) 1 1 := ⟨by decide +kernel, rfl⟩
theorem o_isSeed_1 : InsA md_isSeed 1 (.iload_n 1) 1 2 := ⟨by decide +kernel, rfl⟩
theorem o_isSeed_2 : InsA md_isSeed 2 (.invokevirtual 80) 3 5 := ⟨by decide +kernel, rfl⟩
theorem o_isSeed_5 : InsB md_isSeed 5 (.ifCond .ne 5) 3 8 (5) 10 := ⟨by decide +kernel, rfl, by decide, by decide⟩
theorem o_isSeed_8 : InsA md_isSeed 8 (.iconst 0) 1 9 := ⟨by decide +kernel, rfl⟩
theorem o_isSeed_9 : InsA md_isSeed 9 (.ireturn) 1 10 := ⟨by decide +kernel, rfl⟩
theorem o_isSeed_10 : InsA md_isSeed 10 (.aload_n 0) 1 11 := ⟨by decide +kernel, rfl⟩
theorem o_isSeed_11 : InsA md_isSeed 11 (.getfield 13) 3 14 := ⟨by decide +kernel, rfl⟩
theorem o_isSeed_14 : InsA md_isSeed 14 (.iload_n 1) 1 15 := ⟨by decide +kernel, rfl⟩
theorem o_isSeed_15 : InsA md_isSeed 15 (.baload) 1 16 := ⟨by decide +kernel, rfl⟩
theorem o_isSeed_16 : InsA md_isSeed 16 (.ireturn) 1 17 := ⟨by decide +kernel, rfl⟩
abbrev md_rowNode : MD := (⟨"RecursiveCte", "rowNode", "(I)I"⟩, prog_1_method_27_code, 2, some .int, { frames := 1, cells := 0, slots := 0, locals := 13 }, 0)
theorem cv_rowNode {Z : State} {a0 : Array Value} (H : OK Z a0) : CalV Z a0 md_rowNode 1 := ⟨pn_RecursiveCte, by decide, pd__I_I, H.w 100 rfl, H.w 102 rfl, H.w 2 rfl, Or.inl ⟨H.w 99 rfl, H.w 101 rfl⟩⟩
theorem o_rowNode_0 : InsA md_rowNode 0 (.aload_n 0) 1 1 := ⟨by decide +kernel, rfl⟩
theorem o_rowNode_1 : InsA md_rowNode 1 (.iload_n 1) 1 2 := ⟨by decide +kernel, rfl⟩
theorem o_rowNode_2 : InsA md_rowNode 2 (.invokevirtual 133) 3 5 := ⟨by decide +kernel, rfl⟩
theorem o_rowNode_5 : InsB md_rowNode 5 (.ifCond .ne 5) 3 8 (5) 10 := ⟨by decide +kernel, rfl, by decide, by decide⟩
theorem o_rowNode_8 : InsA md_rowNode 8 (.iconst (-1)) 1 9 := ⟨by decide +kernel, rfl⟩
theorem o_rowNode_9 : InsA md_rowNode 9 (.ireturn) 1 10 := ⟨by decide +kernel, rfl⟩
theorem o_rowNode_10 : InsA md_rowNode 10 (.aload_n 0) 1 11 := ⟨by decide +kernel, rfl⟩
theorem o_rowNode_11 : InsA md_rowNode 11 (.getfield 16) 3 14 := ⟨by decide +kernel, rfl⟩
theorem o_rowNode_14 : InsA md_rowNode 14 (.iload_n 1) 1 15 := ⟨by decide +kernel, rfl⟩
theorem o_rowNode_15 : InsA md_rowNode 15 (.iaload) 1 16 := ⟨by decide +kernel, rfl⟩
theorem o_rowNode_16 : InsA md_rowNode 16 (.ireturn) 1 17 := ⟨by decide +kernel, rfl⟩
abbrev md_validRow : MD := (⟨"RecursiveCte", "validRow", "(I)Z"⟩, prog_1_method_26_code, 2, some .boolean, { frames := 0, cells := 0, slots := 0, locals := 0 }, 0)
theorem cv_validRow {Z : State} {a0 : Array Value} (H : OK Z a0) : CalV Z a0 md_validRow 1 := ⟨pn_RecursiveCte, by decide, pd__I_Z, H.w 104 rfl, H.w 106 rfl, H.w 2 rfl, Or.inr ⟨H.w 105 rfl, 21, H.w 1 rfl⟩⟩
theorem o_validRow_0 : InsA md_validRow 0 (.iload_n 1) 1 1 := ⟨by decide +kernel, rfl⟩
theorem o_validRow_1 : InsB md_validRow 1 (.ifCond .lt 21) 3 4 (21) 22 := ⟨by decide +kernel, rfl, by decide, by decide⟩
theorem o_validRow_4 : InsA md_validRow 4 (.iload_n 1) 1 5 := ⟨by decide +kernel, rfl⟩
theorem o_validRow_5 : InsA md_validRow 5 (.aload_n 0) 1 6 := ⟨by decide +kernel, rfl⟩
theorem o_validRow_6 : InsA md_validRow 6 (.getfield 74) 3 9 := ⟨by decide +kernel, rfl⟩
theorem o_validRow_9 : InsB md_validRow 9 (.if_icmp .ge 13) 3 12 (13) 22 := ⟨by decide +kernel, rfl, by decide, by decide⟩
theorem o_validRow_12 : InsA md_validRow 12 (.iload_n 1) 1 13 := ⟨by decide +kernel, rfl⟩
theorem o_validRow_13 : InsA md_validRow 13 (.bipush 64) 2 15 := ⟨by decide +kernel, rfl⟩
theorem o_validRow_15 : InsB md_validRow 15 (.if_icmp .ge 7) 3 18 (7) 22 := ⟨by decide +kernel, rfl, by decide, by decide⟩
theorem o_validRow_18 : InsA md_validRow 18 (.iconst 1) 1 19 := ⟨by decide +kernel, rfl⟩
theorem o_validRow_19 : InsB md_validRow 19 (.goto 4) 3 22 (4) 23 := ⟨by decide +kernel, rfl, by decide, by decide⟩
theorem o_validRow_22 : InsA md_validRow 22 (.iconst 0) 1 23 := ⟨by decide +kernel, rfl⟩
theorem o_validRow_23 : InsA md_validRow 23 (.ireturn) 1 24 := ⟨by decide +kernel, rfl⟩
abbrev md_rowDepth : MD := (⟨"RecursiveCte", "rowDepth", "(I)I"⟩, prog_1_method_28_code, 2, some .int, { frames := 1, cells := 0, slots := 0, locals := 13 }, 0)
theorem cv_rowDepth {Z : State} {a0 : Array Value} (H : OK Z a0) : CalV Z a0 md_rowDepth 1 := ⟨pn_RecursiveCte, by decide, pd__I_I, H.w 109 rfl, H.w 111 rfl, H.w 2 rfl, Or.inl ⟨H.w 108 rfl, H.w 110 rfl⟩⟩
theorem o_rowDepth_0 : InsA md_rowDepth 0 (.aload_n 0) 1 1 := ⟨by decide +kernel, rfl⟩
theorem o_rowDepth_1 : InsA md_rowDepth 1 (.iload_n 1) 1 2 := ⟨by decide +kernel, rfl⟩
theorem o_rowDepth_2 : InsA md_rowDepth 2 (.invokevirtual 133) 3 5 := ⟨by decide +kernel, rfl⟩
theorem o_rowDepth_5 : InsB md_rowDepth 5 (.ifCond .ne 5) 3 8 (5) 10 := ⟨by decide +kernel, rfl, by decide, by decide⟩
theorem o_rowDepth_8 : InsA md_rowDepth 8 (.iconst (-1)) 1 9 := ⟨by decide +kernel, rfl⟩
theorem o_rowDepth_9 : InsA md_rowDepth 9 (.ireturn) 1 10 := ⟨by decide +kernel, rfl⟩
theorem o_rowDepth_10 : InsA md_rowDepth 10 (.aload_n 0) 1 11 := ⟨by decide +kernel, rfl⟩
theorem o_rowDepth_11 : InsA md_rowDepth 11 (.getfield 20) 3 14 := ⟨by decide +kernel, rfl⟩
theorem o_rowDepth_14 : InsA md_rowDepth 14 (.iload_n 1) 1 15 := ⟨by decide +kernel, rfl⟩
theorem o_rowDepth_15 : InsA md_rowDepth 15 (.iaload) 1 16 := ⟨by decide +kernel, rfl⟩
theorem o_rowDepth_16 : InsA md_rowDepth 16 (.ireturn) 1 17 := ⟨by decide +kernel, rfl⟩
abbrev md_rowIsCycle : MD := (⟨"RecursiveCte", "rowIsCycle", "(I)Z"⟩, prog_1_method_29_code, 2, some .boolean, { frames := 1, cells := 0, slots := 0, locals := 13 }, 0)
theorem cv_rowIsCycle {Z : State} {a0 : Array Value} (H : OK Z a0) : CalV Z a0 md_rowIsCycle 1 := ⟨pn_RecursiveCte, by decide, pd__I_Z, H.w 114 rfl, H.w 116 rfl, H.w 2 rfl, Or.inl ⟨H.w 113 rfl, H.w 115 rfl⟩⟩
theorem o_rowIsCycle_0 : InsA md_rowIsCycle 0 (.aload_n 0) 1 1 := ⟨by decide +kernel, rfl⟩
theorem o_rowIsCycle_1 : InsA md_rowIsCycle 1 (.iload_n 1) 1 2 := ⟨by decide +kernel, rfl⟩
theorem o_rowIsCycle_2 : InsA md_rowIsCycle 2 (.invokevirtual 133) 3 5 := ⟨by decide +kernel, rfl⟩
theorem o_rowIsCycle_5 : InsB md_rowIsCycle 5 (.ifCond .ne 5) 3 8 (5) 10 := ⟨by decide +kernel, rfl, by decide, by decide⟩
theorem o_rowIsCycle_8 : InsA md_rowIsCycle 8 (.iconst 0) 1 9 := ⟨by decide +kernel, rfl⟩
theorem o_rowIsCycle_9 : InsA md_rowIsCycle 9 (.ireturn) 1 10 := ⟨by decide +kernel, rfl⟩
theorem o_rowIsCycle_10 : InsA md_rowIsCycle 10 (.aload_n 0) 1 11 := ⟨by decide +kernel, rfl⟩
theorem o_rowIsCycle_11 : InsA md_rowIsCycle 11 (.getfield 23) 3 14 := ⟨by decide +kernel, rfl⟩
theorem o_rowIsCycle_14 : InsA md_rowIsCycle 14 (.iload_n 1) 1 15 := ⟨by decide +kernel, rfl⟩
theorem o_rowIsCycle_15 : InsA md_rowIsCycle 15 (.baload) 1 16 := ⟨by decide +kernel, rfl⟩
theorem o_rowIsCycle_16 : InsA md_rowIsCycle 16 (.ireturn) 1 17 := ⟨by decide +kernel, rfl⟩
abbrev md_rowPathNode : MD := (⟨"RecursiveCte", "rowPathNode", "(II)I"⟩, prog_1_method_30_code, 3, some .int, { frames := 1, cells := 0, slots := 0, locals := 13 }, 0)
theorem cv_rowPathNode {Z : State} {a0 : Array Value} (H : OK Z a0) : CalV Z a0 md_rowPathNode 2 := ⟨pn_RecursiveCte, by decide, pd__II_I, H.w 119 rfl, H.w 121 rfl, H.w 2 rfl, Or.inl ⟨H.w 118 rfl, H.w 120 rfl⟩⟩
theorem o_rowPathNode_0 : InsA md_rowPathNode 0 (.aload_n 0) 1 1 := ⟨by decide +kernel, rfl⟩
theorem o_rowPathNode_1 : InsA md_rowPathNode 1 (.iload_n 1) 1 2 := ⟨by decide +kernel, rfl⟩
theorem o_rowPathNode_2 : InsA md_rowPathNode 2 (.invokevirtual 133) 3 5 := ⟨by decide +kernel, rfl⟩
theorem o_rowPathNode_5 : InsB md_rowPathNode 5 (.ifCond .ne 5) 3 8 (5) 10 := ⟨by decide +kernel, rfl, by decide, by decide⟩
theorem o_rowPathNode_8 : InsA md_rowPathNode 8 (.iconst (-1)) 1 9 := ⟨by decide +kernel, rfl⟩
theorem o_rowPathNode_9 : InsA md_rowPathNode 9 (.ireturn) 1 10 := ⟨by decide +kernel, rfl⟩
theorem o_rowPathNode_10 : InsA md_rowPathNode 10 (.iload_n 2) 1 11 := ⟨by decide +kernel, rfl⟩
theorem o_rowPathNode_11 : InsB md_rowPathNode 11 (.ifCond .lt 19) 3 14 (19) 30 := ⟨by decide +kernel, rfl, by decide, by decide⟩
theorem o_rowPathNode_14 : InsA md_rowPathNode 14 (.iload_n 2) 1 15 := ⟨by decide +kernel, rfl⟩
theorem o_rowPathNode_15 : InsA md_rowPathNode 15 (.aload_n 0) 1 16 := ⟨by decide +kernel, rfl⟩
theorem o_rowPathNode_16 : InsA md_rowPathNode 16 (.getfield 20) 3 19 := ⟨by decide +kernel, rfl⟩
theorem o_rowPathNode_19 : InsA md_rowPathNode 19 (.iload_n 1) 1 20 := ⟨by decide +kernel, rfl⟩
theorem o_rowPathNode_20 : InsA md_rowPathNode 20 (.iaload) 1 21 := ⟨by decide +kernel, rfl⟩
theorem o_rowPathNode_21 : InsB md_rowPathNode 21 (.if_icmp .gt 9) 3 24 (9) 30 := ⟨by decide +kernel, rfl, by decide, by decide⟩
theorem o_rowPathNode_24 : InsA md_rowPathNode 24 (.iload_n 2) 1 25 := ⟨by decide +kernel, rfl⟩
theorem o_rowPathNode_25 : InsA md_rowPathNode 25 (.bipush 16) 2 27 := ⟨by decide +kernel, rfl⟩
theorem o_rowPathNode_27 : InsB md_rowPathNode 27 (.if_icmp .lt 5) 3 30 (5) 32 := ⟨by decide +kernel, rfl, by decide, by decide⟩
theorem o_rowPathNode_30 : InsA md_rowPathNode 30 (.iconst (-1)) 1 31 := ⟨by decide +kernel, rfl⟩
theorem o_rowPathNode_31 : InsA md_rowPathNode 31 (.ireturn) 1 32 := ⟨by decide +kernel, rfl⟩
theorem o_rowPathNode_32 : InsA md_rowPathNode 32 (.aload_n 0) 1 33 := ⟨by decide +kernel, rfl⟩
theorem o_rowPathNode_33 : InsA md_rowPathNode 33 (.getfield 26) 3 36 := ⟨by decide +kernel, rfl⟩
theorem o_rowPathNode_36 : InsA md_rowPathNode 36 (.iload_n 1) 1 37 := ⟨by decide +kernel, rfl⟩
theorem o_rowPathNode_37 : InsA md_rowPathNode 37 (.bipush 16) 2 39 := ⟨by decide +kernel, rfl⟩
theorem o_rowPathNode_39 : InsA md_rowPathNode 39 (.imul) 1 40 := ⟨by decide +kernel, rfl⟩
theorem o_rowPathNode_40 : InsA md_rowPathNode 40 (.iload_n 2) 1 41 := ⟨by decide +kernel, rfl⟩
theorem o_rowPathNode_41 : InsA md_rowPathNode 41 (.iadd) 1 42 := ⟨by decide +kernel, rfl⟩
theorem o_rowPathNode_42 : InsA md_rowPathNode 42 (.iaload) 1 43 := ⟨by decide +kernel, rfl⟩
theorem o_rowPathNode_43 : InsA md_rowPathNode 43 (.ireturn) 1 44 := ⟨by decide +kernel, rfl⟩
abbrev md_addSeed : MD := (⟨"RecursiveCte", "addSeed", "(I)I"⟩, prog_1_method_7_code, 2, some .int, { frames := 1, cells := 0, slots := 0, locals := 13 }, 0)
theorem cv_addSeed {Z : State} {a0 : Array Value} (H : OK Z a0) : CalV Z a0 md_addSeed 1 := ⟨pn_RecursiveCte, by decide, pd__I_I, H.w 124 rfl, H.w 126 rfl, H.w 2 rfl, Or.inl ⟨H.w 123 rfl, H.w 125 rfl⟩⟩
theorem o_addSeed_0 : InsA md_addSeed 0 (.aload_n 0) 1 1 := ⟨by decide +kernel, rfl⟩
theorem o_addSeed_1 : InsA md_addSeed 1 (.iload_n 1) 1 2 := ⟨by decide +kernel, rfl⟩
theorem o_addSeed_2 : InsA md_addSeed 2 (.invokevirtual 80) 3 5 := ⟨by decide +kernel, rfl⟩
theorem o_addSeed_5 : InsB md_addSeed 5 (.ifCond .ne 5) 3 8 (5) 10 := ⟨by decide +kernel, rfl, by decide, by decide⟩
theorem o_addSeed_8 : InsA md_addSeed 8 (.iconst (-1)) 1 9 := ⟨by decide +kernel, rfl⟩
theorem o_addSeed_9 : InsA md_addSeed 9 (.ireturn) 1 10 := ⟨by decide +kernel, rfl⟩
theorem o_addSeed_10 : InsA md_addSeed 10 (.aload_n 0) 1 11 := ⟨by decide +kernel, rfl⟩
theorem o_addSeed_11 : InsA md_addSeed 11 (.getfield 13) 3 14 := ⟨by decide +kernel, rfl⟩
theorem o_addSeed_14 : InsA md_addSeed 14 (.iload_n 1) 1 15 := ⟨by decide +kernel, rfl⟩
theorem o_addSeed_15 : InsA md_addSeed 15 (.baload) 1 16 := ⟨by decide +kernel, rfl⟩
theorem o_addSeed_16 : InsB md_addSeed 16 (.ifCond .eq 6) 3 19 (6) 22 := ⟨by decide +kernel, rfl, by decide, by decide⟩
theorem o_addSeed_19 : InsA md_addSeed 19 (.bipush (-2)) 2 21 := ⟨by decide +kernel, rfl⟩
theorem o_addSeed_21 : InsA md_addSeed 21 (.ireturn) 1 22 := ⟨by decide +kernel, rfl⟩
theorem o_addSeed_22 : InsA md_addSeed 22 (.aload_n 0) 1 23 := ⟨by decide +kernel, rfl⟩
theorem o_addSeed_23 : InsA md_addSeed 23 (.getfield 13) 3 26 := ⟨by decide +kernel, rfl⟩
theorem o_addSeed_26 : InsA md_addSeed 26 (.iload_n 1) 1 27 := ⟨by decide +kernel, rfl⟩
theorem o_addSeed_27 : InsA md_addSeed 27 (.iconst 1) 1 28 := ⟨by decide +kernel, rfl⟩
theorem o_addSeed_28 : InsA md_addSeed 28 (.bastore) 1 29 := ⟨by decide +kernel, rfl⟩
theorem o_addSeed_29 : InsA md_addSeed 29 (.aload_n 0) 1 30 := ⟨by decide +kernel, rfl⟩
theorem o_addSeed_30 : InsA md_addSeed 30 (.invokevirtual 84) 3 33 := ⟨by decide +kernel, rfl⟩
theorem o_addSeed_33 : InsA md_addSeed 33 (.iconst 0) 1 34 := ⟨by decide +kernel, rfl⟩
theorem o_addSeed_34 : InsA md_addSeed 34 (.ireturn) 1 35 := ⟨by decide +kernel, rfl⟩
abbrev md_clearResult : MD := (⟨"RecursiveCte", "clearResult", "()V"⟩, prog_1_method_4_code, 1, none, { frames := 0, cells := 0, slots := 0, locals := 0 }, 0)
theorem cv_clearResult {Z : State} {a0 : Array Value} (H : OK Z a0) : CalV Z a0 md_clearResult 0 := ⟨pn_RecursiveCte, by decide, pd___V, H.w 128 rfl, H.w 130 rfl, H.w 2 rfl, Or.inr ⟨H.w 129 rfl, 21, H.w 1 rfl⟩⟩
theorem o_clearResult_0 : InsA md_clearResult 0 (.aload_n 0) 1 1 := ⟨by decide +kernel, rfl⟩
theorem o_clearResult_1 : InsA md_clearResult 1 (.iconst 0) 1 2 := ⟨by decide +kernel, rfl⟩
theorem o_clearResult_2 : InsA md_clearResult 2 (.putfield 71) 3 5 := ⟨by decide +kernel, rfl⟩
theorem o_clearResult_5 : InsA md_clearResult 5 (.aload_n 0) 1 6 := ⟨by decide +kernel, rfl⟩
theorem o_clearResult_6 : InsA md_clearResult 6 (.iconst 0) 1 7 := ⟨by decide +kernel, rfl⟩
theorem o_clearResult_7 : InsA md_clearResult 7 (.putfield 74) 3 10 := ⟨by decide +kernel, rfl⟩
theorem o_clearResult_10 : InsA md_clearResult 10 (.return_) 1 11 := ⟨by decide +kernel, rfl⟩
abbrev md_addEdge : MD := (⟨"RecursiveCte", "addEdge", "(II)I"⟩, prog_1_method_5_code, 3, some .int, { frames := 1, cells := 0, slots := 0, locals := 13 }, 0)
theorem cv_addEdge {Z : State} {a0 : Array Value} (H : OK Z a0) : CalV Z a0 md_addEdge 2 := ⟨pn_RecursiveCte, by decide, pd__II_I, H.w 133 rfl, H.w 135 rfl, H.w 2 rfl, Or.inl ⟨H.w 132 rfl, H.w 134 rfl⟩⟩
theorem o_addEdge_0 : InsA md_addEdge 0 (.aload_n 0) 1 1 := ⟨by decide +kernel, rfl⟩
theorem o_addEdge_1 : InsA md_addEdge 1 (.iload_n 1) 1 2 := ⟨by decide +kernel, rfl⟩
theorem o_addEdge_2 : InsA md_addEdge 2 (.invokevirtual 80) 3 5 := ⟨by decide +kernel, rfl⟩
theorem o_addEdge_5 : InsB md_addEdge 5 (.ifCond .ne 5) 3 8 (5) 10 := ⟨by decide +kernel, rfl, by decide, by decide⟩
theorem o_addEdge_8 : InsA md_addEdge 8 (.iconst (-1)) 1 9 := ⟨by decide +kernel, rfl⟩
theorem o_addEdge_9 : InsA md_addEdge 9 (.ireturn) 1 10 := ⟨by decide +kernel, rfl⟩
theorem o_addEdge_10 : InsA md_addEdge 10 (.aload_n 0) 1 11 := ⟨by decide +kernel, rfl⟩
theorem o_addEdge_11 : InsA md_addEdge 11 (.iload_n 2) 1 12 := ⟨by decide +kernel, rfl⟩
theorem o_addEdge_12 : InsA md_addEdge 12 (.invokevirtual 80) 3 15 := ⟨by decide +kernel, rfl⟩
theorem o_addEdge_15 : InsB md_addEdge 15 (.ifCond .ne 5) 3 18 (5) 20 := ⟨by decide +kernel, rfl, by decide, by decide⟩
theorem o_addEdge_18 : InsA md_addEdge 18 (.iconst (-1)) 1 19 := ⟨by decide +kernel, rfl⟩
theorem o_addEdge_19 : InsA md_addEdge 19 (.ireturn) 1 20 := ⟨by decide +kernel, rfl⟩
theorem o_addEdge_20 : InsA md_addEdge 20 (.aload_n 0) 1 21 := ⟨by decide +kernel, rfl⟩
theorem o_addEdge_21 : InsA md_addEdge 21 (.getfield 7) 3 24 := ⟨by decide +kernel, rfl⟩
theorem o_addEdge_24 : InsA md_addEdge 24 (.iload_n 1) 1 25 := ⟨by decide +kernel, rfl⟩
theorem o_addEdge_25 : InsA md_addEdge 25 (.bipush 16) 2 27 := ⟨by decide +kernel, rfl⟩
theorem o_addEdge_27 : InsA md_addEdge 27 (.imul) 1 28 := ⟨by decide +kernel, rfl⟩
theorem o_addEdge_28 : InsA md_addEdge 28 (.iload_n 2) 1 29 := ⟨by decide +kernel, rfl⟩
theorem o_addEdge_29 : InsA md_addEdge 29 (.iadd) 1 30 := ⟨by decide +kernel, rfl⟩
theorem o_addEdge_30 : InsA md_addEdge 30 (.baload) 1 31 := ⟨by decide +kernel, rfl⟩
theorem o_addEdge_31 : InsB md_addEdge 31 (.ifCond .eq 6) 3 34 (6) 37 := ⟨by decide +kernel, rfl, by decide, by decide⟩
theorem o_addEdge_34 : InsA md_addEdge 34 (.bipush (-2)) 2 36 := ⟨by decide +kernel, rfl⟩
theorem o_addEdge_36 : InsA md_addEdge 36 (.ireturn) 1 37 := ⟨by decide +kernel, rfl⟩
theorem o_addEdge_37 : InsA md_addEdge 37 (.aload_n 0) 1 38 := ⟨by decide +kernel, rfl⟩
theorem o_addEdge_38 : InsA md_addEdge 38 (.getfield 55) 3 41 := ⟨by decide +kernel, rfl⟩
theorem o_addEdge_41 : InsA md_addEdge 41 (.aload_n 0) 1 42 := ⟨by decide +kernel, rfl⟩
theorem o_addEdge_42 : InsA md_addEdge 42 (.getfield 49) 3 45 := ⟨by decide +kernel, rfl⟩
theorem o_addEdge_45 : InsB md_addEdge 45 (.if_icmp .lt 6) 3 48 (6) 51 := ⟨by decide +kernel, rfl, by decide, by decide⟩
theorem o_addEdge_48 : InsA md_addEdge 48 (.bipush (-4)) 2 50 := ⟨by decide +kernel, rfl⟩
theorem o_addEdge_50 : InsA md_addEdge 50 (.ireturn) 1 51 := ⟨by decide +kernel, rfl⟩
theorem o_addEdge_51 : InsA md_addEdge 51 (.aload_n 0) 1 52 := ⟨by decide +kernel, rfl⟩
theorem o_addEdge_52 : InsA md_addEdge 52 (.getfield 7) 3 55 := ⟨by decide +kernel, rfl⟩
theorem o_addEdge_55 : InsA md_addEdge 55 (.iload_n 1) 1 56 := ⟨by decide +kernel, rfl⟩
theorem o_addEdge_56 : InsA md_addEdge 56 (.bipush 16) 2 58 := ⟨by decide +kernel, rfl⟩
theorem o_addEdge_58 : InsA md_addEdge 58 (.imul) 1 59 := ⟨by decide +kernel, rfl⟩
theorem o_addEdge_59 : InsA md_addEdge 59 (.iload_n 2) 1 60 := ⟨by decide +kernel, rfl⟩
theorem o_addEdge_60 : InsA md_addEdge 60 (.iadd) 1 61 := ⟨by decide +kernel, rfl⟩
theorem o_addEdge_61 : InsA md_addEdge 61 (.iconst 1) 1 62 := ⟨by decide +kernel, rfl⟩
theorem o_addEdge_62 : InsA md_addEdge 62 (.bastore) 1 63 := ⟨by decide +kernel, rfl⟩
theorem o_addEdge_63 : InsA md_addEdge 63 (.aload_n 0) 1 64 := ⟨by decide +kernel, rfl⟩
theorem o_addEdge_64 : InsA md_addEdge 64 (.dup) 1 65 := ⟨by decide +kernel, rfl⟩
theorem o_addEdge_65 : InsA md_addEdge 65 (.getfield 55) 3 68 := ⟨by decide +kernel, rfl⟩
theorem o_addEdge_68 : InsA md_addEdge 68 (.iconst 1) 1 69 := ⟨by decide +kernel, rfl⟩
theorem o_addEdge_69 : InsA md_addEdge 69 (.iadd) 1 70 := ⟨by decide +kernel, rfl⟩
theorem o_addEdge_70 : InsA md_addEdge 70 (.putfield 55) 3 73 := ⟨by decide +kernel, rfl⟩
theorem o_addEdge_73 : InsA md_addEdge 73 (.aload_n 0) 1 74 := ⟨by decide +kernel, rfl⟩
theorem o_addEdge_74 : InsA md_addEdge 74 (.invokevirtual 84) 3 77 := ⟨by decide +kernel, rfl⟩
theorem o_addEdge_77 : InsA md_addEdge 77 (.iconst 0) 1 78 := ⟨by decide +kernel, rfl⟩
theorem o_addEdge_78 : InsA md_addEdge 78 (.ireturn) 1 79 := ⟨by decide +kernel, rfl⟩
abbrev md_removeEdge : MD := (⟨"RecursiveCte", "removeEdge", "(II)I"⟩, prog_1_method_6_code, 3, some .int, { frames := 1, cells := 0, slots := 0, locals := 13 }, 0)
theorem cv_removeEdge {Z : State} {a0 : Array Value} (H : OK Z a0) : CalV Z a0 md_removeEdge 2 := ⟨pn_RecursiveCte, by decide, pd__II_I, H.w 138 rfl, H.w 140 rfl, H.w 2 rfl, Or.inl ⟨H.w 137 rfl, H.w 139 rfl⟩⟩
theorem o_removeEdge_0 : InsA md_removeEdge 0 (.aload_n 0) 1 1 := ⟨by decide +kernel, rfl⟩
theorem o_removeEdge_1 : InsA md_removeEdge 1 (.iload_n 1) 1 2 := ⟨by decide +kernel, rfl⟩
theorem o_removeEdge_2 : InsA md_removeEdge 2 (.invokevirtual 80) 3 5 := ⟨by decide +kernel, rfl⟩
theorem o_removeEdge_5 : InsB md_removeEdge 5 (.ifCond .ne 5) 3 8 (5) 10 := ⟨by decide +kernel, rfl, by decide, by decide⟩
theorem o_removeEdge_8 : InsA md_removeEdge 8 (.iconst (-1)) 1 9 := ⟨by decide +kernel, rfl⟩
theorem o_removeEdge_9 : InsA md_removeEdge 9 (.ireturn) 1 10 := ⟨by decide +kernel, rfl⟩
theorem o_removeEdge_10 : InsA md_removeEdge 10 (.aload_n 0) 1 11 := ⟨by decide +kernel, rfl⟩
theorem o_removeEdge_11 : InsA md_removeEdge 11 (.iload_n 2) 1 12 := ⟨by decide +kernel, rfl⟩
theorem o_removeEdge_12 : InsA md_removeEdge 12 (.invokevirtual 80) 3 15 := ⟨by decide +kernel, rfl⟩
theorem o_removeEdge_15 : InsB md_removeEdge 15 (.ifCond .ne 5) 3 18 (5) 20 := ⟨by decide +kernel, rfl, by decide, by decide⟩
theorem o_removeEdge_18 : InsA md_removeEdge 18 (.iconst (-1)) 1 19 := ⟨by decide +kernel, rfl⟩
theorem o_removeEdge_19 : InsA md_removeEdge 19 (.ireturn) 1 20 := ⟨by decide +kernel, rfl⟩
theorem o_removeEdge_20 : InsA md_removeEdge 20 (.aload_n 0) 1 21 := ⟨by decide +kernel, rfl⟩
theorem o_removeEdge_21 : InsA md_removeEdge 21 (.getfield 7) 3 24 := ⟨by decide +kernel, rfl⟩
theorem o_removeEdge_24 : InsA md_removeEdge 24 (.iload_n 1) 1 25 := ⟨by decide +kernel, rfl⟩
theorem o_removeEdge_25 : InsA md_removeEdge 25 (.bipush 16) 2 27 := ⟨by decide +kernel, rfl⟩
theorem o_removeEdge_27 : InsA md_removeEdge 27 (.imul) 1 28 := ⟨by decide +kernel, rfl⟩
theorem o_removeEdge_28 : InsA md_removeEdge 28 (.iload_n 2) 1 29 := ⟨by decide +kernel, rfl⟩
theorem o_removeEdge_29 : InsA md_removeEdge 29 (.iadd) 1 30 := ⟨by decide +kernel, rfl⟩
theorem o_removeEdge_30 : InsA md_removeEdge 30 (.baload) 1 31 := ⟨by decide +kernel, rfl⟩
theorem o_removeEdge_31 : InsB md_removeEdge 31 (.ifCond .ne 6) 3 34 (6) 37 := ⟨by decide +kernel, rfl, by decide, by decide⟩
theorem o_removeEdge_34 : InsA md_removeEdge 34 (.bipush (-3)) 2 36 := ⟨by decide +kernel, rfl⟩
theorem o_removeEdge_36 : InsA md_removeEdge 36 (.ireturn) 1 37 := ⟨by decide +kernel, rfl⟩
theorem o_removeEdge_37 : InsA md_removeEdge 37 (.aload_n 0) 1 38 := ⟨by decide +kernel, rfl⟩
theorem o_removeEdge_38 : InsA md_removeEdge 38 (.getfield 7) 3 41 := ⟨by decide +kernel, rfl⟩
theorem o_removeEdge_41 : InsA md_removeEdge 41 (.iload_n 1) 1 42 := ⟨by decide +kernel, rfl⟩
theorem o_removeEdge_42 : InsA md_removeEdge 42 (.bipush 16) 2 44 := ⟨by decide +kernel, rfl⟩
theorem o_removeEdge_44 : InsA md_removeEdge 44 (.imul) 1 45 := ⟨by decide +kernel, rfl⟩
theorem o_removeEdge_45 : InsA md_removeEdge 45 (.iload_n 2) 1 46 := ⟨by decide +kernel, rfl⟩
theorem o_removeEdge_46 : InsA md_removeEdge 46 (.iadd) 1 47 := ⟨by decide +kernel, rfl⟩
theorem o_removeEdge_47 : InsA md_removeEdge 47 (.iconst 0) 1 48 := ⟨by decide +kernel, rfl⟩
theorem o_removeEdge_48 : InsA md_removeEdge 48 (.bastore) 1 49 := ⟨by decide +kernel, rfl⟩
theorem o_removeEdge_49 : InsA md_removeEdge 49 (.aload_n 0) 1 50 := ⟨by decide +kernel, rfl⟩
theorem o_removeEdge_50 : InsA md_removeEdge 50 (.dup) 1 51 := ⟨by decide +kernel, rfl⟩
theorem o_removeEdge_51 : InsA md_removeEdge 51 (.getfield 55) 3 54 := ⟨by decide +kernel, rfl⟩
theorem o_removeEdge_54 : InsA md_removeEdge 54 (.iconst 1) 1 55 := ⟨by decide +kernel, rfl⟩
theorem o_removeEdge_55 : InsA md_removeEdge 55 (.isub) 1 56 := ⟨by decide +kernel, rfl⟩
theorem o_removeEdge_56 : InsA md_removeEdge 56 (.putfield 55) 3 59 := ⟨by decide +kernel, rfl⟩
theorem o_removeEdge_59 : InsA md_removeEdge 59 (.aload_n 0) 1 60 := ⟨by decide +kernel, rfl⟩
theorem o_removeEdge_60 : InsA md_removeEdge 60 (.invokevirtual 84) 3 63 := ⟨by decide +kernel, rfl⟩
theorem o_removeEdge_63 : InsA md_removeEdge 63 (.iconst 0) 1 64 := ⟨by decide +kernel, rfl⟩
theorem o_removeEdge_64 : InsA md_removeEdge 64 (.ireturn) 1 65 := ⟨by decide +kernel, rfl⟩
abbrev md_run : MD := (⟨"RecursiveCte", "run", "()I"⟩, prog_1_method_10_code, 2, some .int, { frames := 3, cells := 0, slots := 0, locals := 50 }, 0)
theorem cv_run {Z : State} {a0 : Array Value} (H : OK Z a0) : CalV Z a0 md_run 0 := ⟨pn_RecursiveCte, by decide, pd___I, H.w 143 rfl, H.w 145 rfl, H.w 2 rfl, Or.inl ⟨H.w 142 rfl, H.w 144 rfl⟩⟩
theorem o_run_0 : InsA md_run 0 (.aload_n 0) 1 1 := ⟨by decide +kernel, rfl⟩
theorem o_run_1 : InsA md_run 1 (.iconst 0) 1 2 := ⟨by decide +kernel, rfl⟩
theorem o_run_2 : InsA md_run 2 (.putfield 74) 3 5 := ⟨by decide +kernel, rfl⟩
theorem o_run_5 : InsA md_run 5 (.aload_n 0) 1 6 := ⟨by decide +kernel, rfl⟩
theorem o_run_6 : InsA md_run 6 (.getfield 58) 3 9 := ⟨by decide +kernel, rfl⟩
theorem o_run_9 : InsB md_run 9 (.ifCond .ne 27) 3 12 (27) 36 := ⟨by decide +kernel, rfl, by decide, by decide⟩
theorem o_run_12 : InsA md_run 12 (.aload_n 0) 1 13 := ⟨by decide +kernel, rfl⟩
theorem o_run_13 : InsA md_run 13 (.getfield 61) 3 16 := ⟨by decide +kernel, rfl⟩
theorem o_run_16 : InsB md_run 16 (.ifCond .ne 11) 3 19 (11) 27 := ⟨by decide +kernel, rfl, by decide, by decide⟩
theorem o_run_19 : InsA md_run 19 (.aload_n 0) 1 20 := ⟨by decide +kernel, rfl⟩
theorem o_run_20 : InsA md_run 20 (.invokevirtual 87) 3 23 := ⟨by decide +kernel, rfl⟩
theorem o_run_23 : InsA md_run 23 (.istore_n 1) 1 24 := ⟨by decide +kernel, rfl⟩
theorem o_run_24 : InsB md_run 24 (.goto 33) 3 27 (33) 57 := ⟨by decide +kernel, rfl, by decide, by decide⟩
theorem o_run_27 : InsA md_run 27 (.aload_n 0) 1 28 := ⟨by decide +kernel, rfl⟩
theorem o_run_28 : InsA md_run 28 (.iconst 0) 1 29 := ⟨by decide +kernel, rfl⟩
theorem o_run_29 : InsA md_run 29 (.invokevirtual 91) 3 32 := ⟨by decide +kernel, rfl⟩
theorem o_run_32 : InsA md_run 32 (.istore_n 1) 1 33 := ⟨by decide +kernel, rfl⟩
theorem o_run_33 : InsB md_run 33 (.goto 24) 3 36 (24) 57 := ⟨by decide +kernel, rfl, by decide, by decide⟩
theorem o_run_36 : InsA md_run 36 (.aload_n 0) 1 37 := ⟨by decide +kernel, rfl⟩
theorem o_run_37 : InsA md_run 37 (.iconst 1) 1 38 := ⟨by decide +kernel, rfl⟩
theorem o_run_38 : InsA md_run 38 (.invokevirtual 91) 3 41 := ⟨by decide +kernel, rfl⟩
theorem o_run_41 : InsA md_run 41 (.istore_n 1) 1 42 := ⟨by decide +kernel, rfl⟩
theorem o_run_42 : InsA md_run 42 (.iload_n 1) 1 43 := ⟨by decide +kernel, rfl⟩
theorem o_run_43 : InsB md_run 43 (.ifCond .eq 14) 3 46 (14) 57 := ⟨by decide +kernel, rfl, by decide, by decide⟩
theorem o_run_46 : InsA md_run 46 (.aload_n 0) 1 47 := ⟨by decide +kernel, rfl⟩
theorem o_run_47 : InsA md_run 47 (.getfield 61) 3 50 := ⟨by decide +kernel, rfl⟩
theorem o_run_50 : InsB md_run 50 (.ifCond .ne 7) 3 53 (7) 57 := ⟨by decide +kernel, rfl, by decide, by decide⟩
theorem o_run_53 : InsA md_run 53 (.aload_n 0) 1 54 := ⟨by decide +kernel, rfl⟩
theorem o_run_54 : InsA md_run 54 (.invokevirtual 95) 3 57 := ⟨by decide +kernel, rfl⟩
theorem o_run_57 : InsA md_run 57 (.iload_n 1) 1 58 := ⟨by decide +kernel, rfl⟩
theorem o_run_58 : InsB md_run 58 (.ifCond .ne 16) 3 61 (16) 74 := ⟨by decide +kernel, rfl, by decide, by decide⟩
theorem o_run_61 : InsA md_run 61 (.aload_n 0) 1 62 := ⟨by decide +kernel, rfl⟩
theorem o_run_62 : InsA md_run 62 (.iconst 0) 1 63 := ⟨by decide +kernel, rfl⟩
theorem o_run_63 : InsA md_run 63 (.putfield 74) 3 66 := ⟨by decide +kernel, rfl⟩
theorem o_run_66 : InsA md_run 66 (.aload_n 0) 1 67 := ⟨by decide +kernel, rfl⟩
theorem o_run_67 : InsA md_run 67 (.iconst 2) 1 68 := ⟨by decide +kernel, rfl⟩
theorem o_run_68 : InsA md_run 68 (.putfield 71) 3 71 := ⟨by decide +kernel, rfl⟩
theorem o_run_71 : InsA md_run 71 (.bipush (-6)) 2 73 := ⟨by decide +kernel, rfl⟩
theorem o_run_73 : InsA md_run 73 (.ireturn) 1 74 := ⟨by decide +kernel, rfl⟩
theorem o_run_74 : InsA md_run 74 (.aload_n 0) 1 75 := ⟨by decide +kernel, rfl⟩
theorem o_run_75 : InsA md_run 75 (.iconst 1) 1 76 := ⟨by decide +kernel, rfl⟩
theorem o_run_76 : InsA md_run 76 (.putfield 71) 3 79 := ⟨by decide +kernel, rfl⟩
theorem o_run_79 : InsA md_run 79 (.aload_n 0) 1 80 := ⟨by decide +kernel, rfl⟩
theorem o_run_80 : InsA md_run 80 (.getfield 74) 3 83 := ⟨by decide +kernel, rfl⟩
theorem o_run_83 : InsA md_run 83 (.ireturn) 1 84 := ⟨by decide +kernel, rfl⟩
abbrev md_runDepthFirstAll : MD := (⟨"RecursiveCte", "runDepthFirstAll", "()Z"⟩, prog_1_method_11_code, 2, some .boolean, { frames := 2, cells := 0, slots := 0, locals := 33 }, 0)
theorem cv_runDepthFirstAll {Z : State} {a0 : Array Value} (H : OK Z a0) : CalV Z a0 md_runDepthFirstAll 0 := ⟨pn_RecursiveCte, by decide, pd___Z, H.w 147 rfl, H.w 149 rfl, H.w 2 rfl, Or.inr ⟨H.w 148 rfl, 21, H.w 1 rfl⟩⟩
theorem o_runDepthFirstAll_0 : InsA md_runDepthFirstAll 0 (.iconst 0) 1 1 := ⟨by decide +kernel, rfl⟩
theorem o_runDepthFirstAll_1 : InsA md_runDepthFirstAll 1 (.istore_n 1) 1 2 := ⟨by decide +kernel, rfl⟩
theorem o_runDepthFirstAll_2 : InsA md_runDepthFirstAll 2 (.iload_n 1) 1 3 := ⟨by decide +kernel, rfl⟩
theorem o_runDepthFirstAll_3 : InsA md_runDepthFirstAll 3 (.aload_n 0) 1 4 := ⟨by decide +kernel, rfl⟩
theorem o_runDepthFirstAll_4 : InsA md_runDepthFirstAll 4 (.getfield 45) 3 7 := ⟨by decide +kernel, rfl⟩
theorem o_runDepthFirstAll_7 : InsB md_runDepthFirstAll 7 (.if_icmp .ge 34) 3 10 (34) 41 := ⟨by decide +kernel, rfl, by decide, by decide⟩
theorem o_runDepthFirstAll_10 : InsA md_runDepthFirstAll 10 (.iload_n 1) 1 11 := ⟨by decide +kernel, rfl⟩
theorem o_runDepthFirstAll_11 : InsA md_runDepthFirstAll 11 (.bipush 16) 2 13 := ⟨by decide +kernel, rfl⟩
theorem o_runDepthFirstAll_13 : InsB md_runDepthFirstAll 13 (.if_icmp .ge 28) 3 16 (28) 41 := ⟨by decide +kernel, rfl, by decide, by decide⟩
theorem o_runDepthFirstAll_16 : InsA md_runDepthFirstAll 16 (.aload_n 0) 1 17 := ⟨by decide +kernel, rfl⟩
theorem o_runDepthFirstAll_17 : InsA md_runDepthFirstAll 17 (.getfield 13) 3 20 := ⟨by decide +kernel, rfl⟩
theorem o_runDepthFirstAll_20 : InsA md_runDepthFirstAll 20 (.iload_n 1) 1 21 := ⟨by decide +kernel, rfl⟩
theorem o_runDepthFirstAll_21 : InsA md_runDepthFirstAll 21 (.baload) 1 22 := ⟨by decide +kernel, rfl⟩
theorem o_runDepthFirstAll_22 : InsB md_runDepthFirstAll 22 (.ifCond .eq 13) 3 25 (13) 35 := ⟨by decide +kernel, rfl, by decide, by decide⟩
theorem o_runDepthFirstAll_25 : InsA md_runDepthFirstAll 25 (.aload_n 0) 1 26 := ⟨by decide +kernel, rfl⟩
theorem o_runDepthFirstAll_26 : InsA md_runDepthFirstAll 26 (.iload_n 1) 1 27 := ⟨by decide +kernel, rfl⟩
theorem o_runDepthFirstAll_27 : InsA md_runDepthFirstAll 27 (.invokevirtual 98) 3 30 := ⟨by decide +kernel, rfl⟩
theorem o_runDepthFirstAll_30 : InsB md_runDepthFirstAll 30 (.ifCond .ne 5) 3 33 (5) 35 := ⟨by decide +kernel, rfl, by decide, by decide⟩
theorem o_runDepthFirstAll_33 : InsA md_runDepthFirstAll 33 (.iconst 0) 1 34 := ⟨by decide +kernel, rfl⟩
theorem o_runDepthFirstAll_34 : InsA md_runDepthFirstAll 34 (.ireturn) 1 35 := ⟨by decide +kernel, rfl⟩
theorem o_runDepthFirstAll_35 : InsA md_runDepthFirstAll 35 (.iinc 1 1) 3 38 := ⟨by decide +kernel, rfl⟩
theorem o_runDepthFirstAll_38 : InsB md_runDepthFirstAll 38 (.goto (-36)) 3 41 (-36) 2 := ⟨by decide +kernel, rfl, by decide, by decide⟩
theorem o_runDepthFirstAll_41 : InsA md_runDepthFirstAll 41 (.iconst 1) 1 42 := ⟨by decide +kernel, rfl⟩
theorem o_runDepthFirstAll_42 : InsA md_runDepthFirstAll 42 (.ireturn) 1 43 := ⟨by decide +kernel, rfl⟩
abbrev md_removeSeed : MD := (⟨"RecursiveCte", "removeSeed", "(I)I"⟩, prog_1_method_8_code, 2, some .int, { frames := 1, cells := 0, slots := 0, locals := 13 }, 0)
theorem cv_removeSeed {Z : State} {a0 : Array Value} (H : OK Z a0) : CalV Z a0 md_removeSeed 1 := ⟨pn_RecursiveCte, by decide, pd__I_I, H.w 152 rfl, H.w 154 rfl, H.w 2 rfl, Or.inl ⟨H.w 151 rfl, H.w 153 rfl⟩⟩
theorem o_removeSeed_0 : InsA md_removeSeed 0 (.aload_n 0) 1 1 := ⟨by decide +kernel, rfl⟩
theorem o_removeSeed_1 : InsA md_removeSeed 1 (.iload_n 1) 1 2 := ⟨by decide +kernel, rfl⟩
theorem o_removeSeed_2 : InsA md_removeSeed 2 (.invokevirtual 80) 3 5 := ⟨by decide +kernel, rfl⟩
theorem o_removeSeed_5 : InsB md_removeSeed 5 (.ifCond .ne 5) 3 8 (5) 10 := ⟨by decide +kernel, rfl, by decide, by decide⟩
theorem o_removeSeed_8 : InsA md_removeSeed 8 (.iconst (-1)) 1 9 := ⟨by decide +kernel, rfl⟩
theorem o_removeSeed_9 : InsA md_removeSeed 9 (.ireturn) 1 10 := ⟨by decide +kernel, rfl⟩
theorem o_removeSeed_10 : InsA md_removeSeed 10 (.aload_n 0) 1 11 := ⟨by decide +kernel, rfl⟩
theorem o_removeSeed_11 : InsA md_removeSeed 11 (.getfield 13) 3 14 := ⟨by decide +kernel, rfl⟩
theorem o_removeSeed_14 : InsA md_removeSeed 14 (.iload_n 1) 1 15 := ⟨by decide +kernel, rfl⟩
theorem o_removeSeed_15 : InsA md_removeSeed 15 (.baload) 1 16 := ⟨by decide +kernel, rfl⟩
theorem o_removeSeed_16 : InsB md_removeSeed 16 (.ifCond .ne 6) 3 19 (6) 22 := ⟨by decide +kernel, rfl, by decide, by decide⟩
theorem o_removeSeed_19 : InsA md_removeSeed 19 (.bipush (-3)) 2 21 := ⟨by decide +kernel, rfl⟩
theorem o_removeSeed_21 : InsA md_removeSeed 21 (.ireturn) 1 22 := ⟨by decide +kernel, rfl⟩
theorem o_removeSeed_22 : InsA md_removeSeed 22 (.aload_n 0) 1 23 := ⟨by decide +kernel, rfl⟩
theorem o_removeSeed_23 : InsA md_removeSeed 23 (.getfield 13) 3 26 := ⟨by decide +kernel, rfl⟩
theorem o_removeSeed_26 : InsA md_removeSeed 26 (.iload_n 1) 1 27 := ⟨by decide +kernel, rfl⟩
theorem o_removeSeed_27 : InsA md_removeSeed 27 (.iconst 0) 1 28 := ⟨by decide +kernel, rfl⟩
theorem o_removeSeed_28 : InsA md_removeSeed 28 (.bastore) 1 29 := ⟨by decide +kernel, rfl⟩
theorem o_removeSeed_29 : InsA md_removeSeed 29 (.aload_n 0) 1 30 := ⟨by decide +kernel, rfl⟩
theorem o_removeSeed_30 : InsA md_removeSeed 30 (.invokevirtual 84) 3 33 := ⟨by decide +kernel, rfl⟩
theorem o_removeSeed_33 : InsA md_removeSeed 33 (.iconst 0) 1 34 := ⟨by decide +kernel, rfl⟩
theorem o_removeSeed_34 : InsA md_removeSeed 34 (.ireturn) 1 35 := ⟨by decide +kernel, rfl⟩
abbrev md_setQuery : MD := (⟨"RecursiveCte", "setQuery", "(IIZI)I"⟩, prog_1_method_9_code, 5, some .int, { frames := 1, cells := 0, slots := 0, locals := 12 }, 0)
theorem al_setQuery (x0 : Int32) (x1 : Int32) (x2 : Int32) (x3 : Int32) : (argsToLocals [.ref 0, .int x0, .int x1, .int x2, .int x3].toArray (mxOf md_setQuery)).toList = [.val (.ref 0), .val (.int x0), .val (.int x1), .val (.int x2), .val (.int x3)] := (Jvm.Sym.argsToLocals_toList _ _).trans rfl
theorem cv_setQuery {Z : State} {a0 : Array Value} (H : OK Z a0) : CalV Z a0 md_setQuery 4 := ⟨pn_RecursiveCte, by decide, pd__IIZI_I, H.w 157 rfl, H.w 159 rfl, H.w 2 rfl, Or.inl ⟨H.w 156 rfl, H.w 158 rfl⟩⟩
theorem o_setQuery_0 : InsA md_setQuery 0 (.iload_n 1) 1 1 := ⟨by decide +kernel, rfl⟩
theorem o_setQuery_1 : InsB md_setQuery 1 (.ifCond .eq 11) 3 4 (11) 12 := ⟨by decide +kernel, rfl, by decide, by decide⟩
theorem o_setQuery_4 : InsA md_setQuery 4 (.iload_n 1) 1 5 := ⟨by decide +kernel, rfl⟩
theorem o_setQuery_5 : InsA md_setQuery 5 (.iconst 1) 1 6 := ⟨by decide +kernel, rfl⟩
theorem o_setQuery_6 : InsB md_setQuery 6 (.if_icmp .eq 6) 3 9 (6) 12 := ⟨by decide +kernel, rfl, by decide, by decide⟩
theorem o_setQuery_9 : InsA md_setQuery 9 (.bipush (-5)) 2 11 := ⟨by decide +kernel, rfl⟩
theorem o_setQuery_11 : InsA md_setQuery 11 (.ireturn) 1 12 := ⟨by decide +kernel, rfl⟩
theorem o_setQuery_12 : InsA md_setQuery 12 (.iload_n 2) 1 13 := ⟨by decide +kernel, rfl⟩
theorem o_setQuery_13 : InsB md_setQuery 13 (.ifCond .eq 11) 3 16 (11) 24 := ⟨by decide +kernel, rfl, by decide, by decide⟩
theorem o_setQuery_16 : InsA md_setQuery 16 (.iload_n 2) 1 17 := ⟨by decide +kernel, rfl⟩
theorem o_setQuery_17 : InsA md_setQuery 17 (.iconst 1) 1 18 := ⟨by decide +kernel, rfl⟩
theorem o_setQuery_18 : InsB md_setQuery 18 (.if_icmp .eq 6) 3 21 (6) 24 := ⟨by decide +kernel, rfl, by decide, by decide⟩
theorem o_setQuery_21 : InsA md_setQuery 21 (.bipush (-5)) 2 23 := ⟨by decide +kernel, rfl⟩
theorem o_setQuery_23 : InsA md_setQuery 23 (.ireturn) 1 24 := ⟨by decide +kernel, rfl⟩
theorem o_setQuery_24 : InsA md_setQuery 24 (.iload 4) 2 26 := ⟨by decide +kernel, rfl⟩
theorem o_setQuery_26 : InsB md_setQuery 26 (.ifCond .lt 10) 3 29 (10) 36 := ⟨by decide +kernel, rfl, by decide, by decide⟩
theorem o_setQuery_29 : InsA md_setQuery 29 (.iload 4) 2 31 := ⟨by decide +kernel, rfl⟩
theorem o_setQuery_31 : InsA md_setQuery 31 (.bipush 15) 2 33 := ⟨by decide +kernel, rfl⟩
theorem o_setQuery_33 : InsB md_setQuery 33 (.if_icmp .le 5) 3 36 (5) 38 := ⟨by decide +kernel, rfl, by decide, by decide⟩
theorem o_setQuery_36 : InsA md_setQuery 36 (.iconst (-1)) 1 37 := ⟨by decide +kernel, rfl⟩
theorem o_setQuery_37 : InsA md_setQuery 37 (.ireturn) 1 38 := ⟨by decide +kernel, rfl⟩
theorem o_setQuery_38 : InsA md_setQuery 38 (.aload_n 0) 1 39 := ⟨by decide +kernel, rfl⟩
theorem o_setQuery_39 : InsA md_setQuery 39 (.iload_n 1) 1 40 := ⟨by decide +kernel, rfl⟩
theorem o_setQuery_40 : InsA md_setQuery 40 (.putfield 58) 3 43 := ⟨by decide +kernel, rfl⟩
theorem o_setQuery_43 : InsA md_setQuery 43 (.aload_n 0) 1 44 := ⟨by decide +kernel, rfl⟩
theorem o_setQuery_44 : InsA md_setQuery 44 (.iload_n 2) 1 45 := ⟨by decide +kernel, rfl⟩
theorem o_setQuery_45 : InsA md_setQuery 45 (.putfield 61) 3 48 := ⟨by decide +kernel, rfl⟩
theorem o_setQuery_48 : InsA md_setQuery 48 (.aload_n 0) 1 49 := ⟨by decide +kernel, rfl⟩
theorem o_setQuery_49 : InsA md_setQuery 49 (.iload_n 3) 1 50 := ⟨by decide +kernel, rfl⟩
theorem o_setQuery_50 : InsA md_setQuery 50 (.putfield 64) 3 53 := ⟨by decide +kernel, rfl⟩
theorem o_setQuery_53 : InsA md_setQuery 53 (.aload_n 0) 1 54 := ⟨by decide +kernel, rfl⟩
theorem o_setQuery_54 : InsA md_setQuery 54 (.iload 4) 2 56 := ⟨by decide +kernel, rfl⟩
theorem o_setQuery_56 : InsA md_setQuery 56 (.putfield 68) 3 59 := ⟨by decide +kernel, rfl⟩
theorem o_setQuery_59 : InsA md_setQuery 59 (.aload_n 0) 1 60 := ⟨by decide +kernel, rfl⟩
theorem o_setQuery_60 : InsA md_setQuery 60 (.invokevirtual 84) 3 63 := ⟨by decide +kernel, rfl⟩
theorem o_setQuery_63 : InsA md_setQuery 63 (.iconst 0) 1 64 := ⟨by decide +kernel, rfl⟩
theorem o_setQuery_64 : InsA md_setQuery 64 (.ireturn) 1 65 := ⟨by decide +kernel, rfl⟩
abbrev md_runLevels : MD := (⟨"RecursiveCte", "runLevels", "(Z)Z"⟩, prog_1_method_16_code, 3, some .boolean, { frames := 2, cells := 0, slots := 0, locals := 36 }, 0)
theorem cv_runLevels {Z : State} {a0 : Array Value} (H : OK Z a0) : CalV Z a0 md_runLevels 1 := ⟨pn_RecursiveCte, by decide, pd__Z_Z, H.w 161 rfl, H.w 163 rfl, H.w 2 rfl, Or.inr ⟨H.w 162 rfl, 21, H.w 1 rfl⟩⟩
theorem o_runLevels_0 : InsA md_runLevels 0 (.iconst 0) 1 1 := ⟨by decide +kernel, rfl⟩
theorem o_runLevels_1 : InsA md_runLevels 1 (.istore_n 2) 1 2 := ⟨by decide +kernel, rfl⟩
theorem o_runLevels_2 : InsA md_runLevels 2 (.iload_n 2) 1 3 := ⟨by decide +kernel, rfl⟩
theorem o_runLevels_3 : InsA md_runLevels 3 (.bipush 16) 2 5 := ⟨by decide +kernel, rfl⟩
theorem o_runLevels_5 : InsB md_runLevels 5 (.if_icmp .ge 16) 3 8 (16) 21 := ⟨by decide +kernel, rfl, by decide, by decide⟩
theorem o_runLevels_8 : InsA md_runLevels 8 (.aload_n 0) 1 9 := ⟨by decide +kernel, rfl⟩
theorem o_runLevels_9 : InsA md_runLevels 9 (.getfield 38) 3 12 := ⟨by decide +kernel, rfl⟩
theorem o_runLevels_12 : InsA md_runLevels 12 (.iload_n 2) 1 13 := ⟨by decide +kernel, rfl⟩
theorem o_runLevels_13 : InsA md_runLevels 13 (.iconst 0) 1 14 := ⟨by decide +kernel, rfl⟩
theorem o_runLevels_14 : InsA md_runLevels 14 (.bastore) 1 15 := ⟨by decide +kernel, rfl⟩
theorem o_runLevels_15 : InsA md_runLevels 15 (.iinc 2 1) 3 18 := ⟨by decide +kernel, rfl⟩
theorem o_runLevels_18 : InsB md_runLevels 18 (.goto (-16)) 3 21 (-16) 2 := ⟨by decide +kernel, rfl, by decide, by decide⟩
theorem o_runLevels_21 : InsA md_runLevels 21 (.iconst 0) 1 22 := ⟨by decide +kernel, rfl⟩
theorem o_runLevels_22 : InsA md_runLevels 22 (.istore_n 2) 1 23 := ⟨by decide +kernel, rfl⟩
theorem o_runLevels_23 : InsA md_runLevels 23 (.iload_n 2) 1 24 := ⟨by decide +kernel, rfl⟩
theorem o_runLevels_24 : InsA md_runLevels 24 (.aload_n 0) 1 25 := ⟨by decide +kernel, rfl⟩
theorem o_runLevels_25 : InsA md_runLevels 25 (.getfield 45) 3 28 := ⟨by decide +kernel, rfl⟩
theorem o_runLevels_28 : InsB md_runLevels 28 (.if_icmp .ge 41) 3 31 (41) 69 := ⟨by decide +kernel, rfl, by decide, by decide⟩
theorem o_runLevels_31 : InsA md_runLevels 31 (.iload_n 2) 1 32 := ⟨by decide +kernel, rfl⟩
theorem o_runLevels_32 : InsA md_runLevels 32 (.bipush 16) 2 34 := ⟨by decide +kernel, rfl⟩
theorem o_runLevels_34 : InsB md_runLevels 34 (.if_icmp .ge 35) 3 37 (35) 69 := ⟨by decide +kernel, rfl, by decide, by decide⟩
theorem o_runLevels_37 : InsA md_runLevels 37 (.aload_n 0) 1 38 := ⟨by decide +kernel, rfl⟩
theorem o_runLevels_38 : InsA md_runLevels 38 (.getfield 13) 3 41 := ⟨by decide +kernel, rfl⟩
theorem o_runLevels_41 : InsA md_runLevels 41 (.iload_n 2) 1 42 := ⟨by decide +kernel, rfl⟩
theorem o_runLevels_42 : InsA md_runLevels 42 (.baload) 1 43 := ⟨by decide +kernel, rfl⟩
theorem o_runLevels_43 : InsB md_runLevels 43 (.ifCond .eq 20) 3 46 (20) 63 := ⟨by decide +kernel, rfl, by decide, by decide⟩
theorem o_runLevels_46 : InsA md_runLevels 46 (.aload_n 0) 1 47 := ⟨by decide +kernel, rfl⟩
theorem o_runLevels_47 : InsA md_runLevels 47 (.getfield 38) 3 50 := ⟨by decide +kernel, rfl⟩
theorem o_runLevels_50 : InsA md_runLevels 50 (.iload_n 2) 1 51 := ⟨by decide +kernel, rfl⟩
theorem o_runLevels_51 : InsA md_runLevels 51 (.iconst 1) 1 52 := ⟨by decide +kernel, rfl⟩
theorem o_runLevels_52 : InsA md_runLevels 52 (.bastore) 1 53 := ⟨by decide +kernel, rfl⟩
theorem o_runLevels_53 : InsA md_runLevels 53 (.aload_n 0) 1 54 := ⟨by decide +kernel, rfl⟩
theorem o_runLevels_54 : InsA md_runLevels 54 (.iload_n 2) 1 55 := ⟨by decide +kernel, rfl⟩
theorem o_runLevels_55 : InsA md_runLevels 55 (.invokevirtual 112) 3 58 := ⟨by decide +kernel, rfl⟩
theorem o_runLevels_58 : InsB md_runLevels 58 (.ifCond .ne 5) 3 61 (5) 63 := ⟨by decide +kernel, rfl, by decide, by decide⟩
theorem o_runLevels_61 : InsA md_runLevels 61 (.iconst 0) 1 62 := ⟨by decide +kernel, rfl⟩
theorem o_runLevels_62 : InsA md_runLevels 62 (.ireturn) 1 63 := ⟨by decide +kernel, rfl⟩
theorem o_runLevels_63 : InsA md_runLevels 63 (.iinc 2 1) 3 66 := ⟨by decide +kernel, rfl⟩
theorem o_runLevels_66 : InsB md_runLevels 66 (.goto (-43)) 3 69 (-43) 23 := ⟨by decide +kernel, rfl, by decide, by decide⟩
theorem o_runLevels_69 : InsA md_runLevels 69 (.iconst 0) 1 70 := ⟨by decide +kernel, rfl⟩
theorem o_runLevels_70 : InsA md_runLevels 70 (.istore_n 2) 1 71 := ⟨by decide +kernel, rfl⟩
theorem o_runLevels_71 : InsA md_runLevels 71 (.iload_n 2) 1 72 := ⟨by decide +kernel, rfl⟩
theorem o_runLevels_72 : InsA md_runLevels 72 (.aload_n 0) 1 73 := ⟨by decide +kernel, rfl⟩
theorem o_runLevels_73 : InsA md_runLevels 73 (.getfield 74) 3 76 := ⟨by decide +kernel, rfl⟩
theorem o_runLevels_76 : InsB md_runLevels 76 (.if_icmp .ge 48) 3 79 (48) 124 := ⟨by decide +kernel, rfl, by decide, by decide⟩
theorem o_runLevels_79 : InsA md_runLevels 79 (.iload_n 2) 1 80 := ⟨by decide +kernel, rfl⟩
theorem o_runLevels_80 : InsA md_runLevels 80 (.bipush 64) 2 82 := ⟨by decide +kernel, rfl⟩
theorem o_runLevels_82 : InsB md_runLevels 82 (.if_icmp .ge 42) 3 85 (42) 124 := ⟨by decide +kernel, rfl, by decide, by decide⟩
theorem o_runLevels_85 : InsA md_runLevels 85 (.aload_n 0) 1 86 := ⟨by decide +kernel, rfl⟩
theorem o_runLevels_86 : InsA md_runLevels 86 (.getfield 20) 3 89 := ⟨by decide +kernel, rfl⟩
theorem o_runLevels_89 : InsA md_runLevels 89 (.iload_n 2) 1 90 := ⟨by decide +kernel, rfl⟩
theorem o_runLevels_90 : InsA md_runLevels 90 (.iaload) 1 91 := ⟨by decide +kernel, rfl⟩
theorem o_runLevels_91 : InsA md_runLevels 91 (.aload_n 0) 1 92 := ⟨by decide +kernel, rfl⟩
theorem o_runLevels_92 : InsA md_runLevels 92 (.getfield 68) 3 95 := ⟨by decide +kernel, rfl⟩
theorem o_runLevels_95 : InsB md_runLevels 95 (.if_icmp .ge 23) 3 98 (23) 118 := ⟨by decide +kernel, rfl, by decide, by decide⟩
theorem o_runLevels_98 : InsA md_runLevels 98 (.aload_n 0) 1 99 := ⟨by decide +kernel, rfl⟩
theorem o_runLevels_99 : InsA md_runLevels 99 (.getfield 23) 3 102 := ⟨by decide +kernel, rfl⟩
theorem o_runLevels_102 : InsA md_runLevels 102 (.iload_n 2) 1 103 := ⟨by decide +kernel, rfl⟩
theorem o_runLevels_103 : InsA md_runLevels 103 (.baload) 1 104 := ⟨by decide +kernel, rfl⟩
theorem o_runLevels_104 : InsB md_runLevels 104 (.ifCond .ne 14) 3 107 (14) 118 := ⟨by decide +kernel, rfl, by decide, by decide⟩
theorem o_runLevels_107 : InsA md_runLevels 107 (.aload_n 0) 1 108 := ⟨by decide +kernel, rfl⟩
theorem o_runLevels_108 : InsA md_runLevels 108 (.iload_n 2) 1 109 := ⟨by decide +kernel, rfl⟩
theorem o_runLevels_109 : InsA md_runLevels 109 (.iload_n 1) 1 110 := ⟨by decide +kernel, rfl⟩
theorem o_runLevels_110 : InsA md_runLevels 110 (.invokevirtual 115) 3 113 := ⟨by decide +kernel, rfl⟩
theorem o_runLevels_113 : InsB md_runLevels 113 (.ifCond .ne 5) 3 116 (5) 118 := ⟨by decide +kernel, rfl, by decide, by decide⟩
theorem o_runLevels_116 : InsA md_runLevels 116 (.iconst 0) 1 117 := ⟨by decide +kernel, rfl⟩
theorem o_runLevels_117 : InsA md_runLevels 117 (.ireturn) 1 118 := ⟨by decide +kernel, rfl⟩
theorem o_runLevels_118 : InsA md_runLevels 118 (.iinc 2 1) 3 121 := ⟨by decide +kernel, rfl⟩
theorem o_runLevels_121 : InsB md_runLevels 121 (.goto (-50)) 3 124 (-50) 71 := ⟨by decide +kernel, rfl, by decide, by decide⟩
theorem o_runLevels_124 : InsA md_runLevels 124 (.iconst 1) 1 125 := ⟨by decide +kernel, rfl⟩
theorem o_runLevels_125 : InsA md_runLevels 125 (.ireturn) 1 126 := ⟨by decide +kernel, rfl⟩
abbrev md_appendRoot : MD := (⟨"RecursiveCte", "appendRoot", "(I)Z"⟩, prog_1_method_19_code, 2, some .boolean, { frames := 0, cells := 0, slots := 0, locals := 0 }, 0)
theorem cv_appendRoot {Z : State} {a0 : Array Value} (H : OK Z a0) : CalV Z a0 md_appendRoot 1 := ⟨pn_RecursiveCte, by decide, pd__I_Z, H.w 165 rfl, H.w 167 rfl, H.w 2 rfl, Or.inr ⟨H.w 166 rfl, 21, H.w 1 rfl⟩⟩
theorem o_appendRoot_0 : InsA md_appendRoot 0 (.aload_n 0) 1 1 := ⟨by decide +kernel, rfl⟩
theorem o_appendRoot_1 : InsA md_appendRoot 1 (.getfield 74) 3 4 := ⟨by decide +kernel, rfl⟩
theorem o_appendRoot_4 : InsA md_appendRoot 4 (.aload_n 0) 1 5 := ⟨by decide +kernel, rfl⟩
theorem o_appendRoot_5 : InsA md_appendRoot 5 (.getfield 52) 3 8 := ⟨by decide +kernel, rfl⟩
theorem o_appendRoot_8 : InsB md_appendRoot 8 (.if_icmp .ge 12) 3 11 (12) 20 := ⟨by decide +kernel, rfl, by decide, by decide⟩
theorem o_appendRoot_11 : InsA md_appendRoot 11 (.aload_n 0) 1 12 := ⟨by decide +kernel, rfl⟩
theorem o_appendRoot_12 : InsA md_appendRoot 12 (.getfield 74) 3 15 := ⟨by decide +kernel, rfl⟩
theorem o_appendRoot_15 : InsA md_appendRoot 15 (.bipush 64) 2 17 := ⟨by decide +kernel, rfl⟩
theorem o_appendRoot_17 : InsB md_appendRoot 17 (.if_icmp .lt 5) 3 20 (5) 22 := ⟨by decide +kernel, rfl, by decide, by decide⟩
theorem o_appendRoot_20 : InsA md_appendRoot 20 (.iconst 0) 1 21 := ⟨by decide +kernel, rfl⟩
theorem o_appendRoot_21 : InsA md_appendRoot 21 (.ireturn) 1 22 := ⟨by decide +kernel, rfl⟩
theorem o_appendRoot_22 : InsA md_appendRoot 22 (.aload_n 0) 1 23 := ⟨by decide +kernel, rfl⟩
theorem o_appendRoot_23 : InsA md_appendRoot 23 (.getfield 26) 3 26 := ⟨by decide +kernel, rfl⟩
theorem o_appendRoot_26 : InsA md_appendRoot 26 (.aload_n 0) 1 27 := ⟨by decide +kernel, rfl⟩
theorem o_appendRoot_27 : InsA md_appendRoot 27 (.getfield 74) 3 30 := ⟨by decide +kernel, rfl⟩
theorem o_appendRoot_30 : InsA md_appendRoot 30 (.bipush 16) 2 32 := ⟨by decide +kernel, rfl⟩
theorem o_appendRoot_32 : InsA md_appendRoot 32 (.imul) 1 33 := ⟨by decide +kernel, rfl⟩
theorem o_appendRoot_33 : InsA md_appendRoot 33 (.iload_n 1) 1 34 := ⟨by decide +kernel, rfl⟩
theorem o_appendRoot_34 : InsA md_appendRoot 34 (.iastore) 1 35 := ⟨by decide +kernel, rfl⟩
theorem o_appendRoot_35 : InsA md_appendRoot 35 (.aload_n 0) 1 36 := ⟨by decide +kernel, rfl⟩
theorem o_appendRoot_36 : InsA md_appendRoot 36 (.getfield 16) 3 39 := ⟨by decide +kernel, rfl⟩
theorem o_appendRoot_39 : InsA md_appendRoot 39 (.aload_n 0) 1 40 := ⟨by decide +kernel, rfl⟩
theorem o_appendRoot_40 : InsA md_appendRoot 40 (.getfield 74) 3 43 := ⟨by decide +kernel, rfl⟩
theorem o_appendRoot_43 : InsA md_appendRoot 43 (.iload_n 1) 1 44 := ⟨by decide +kernel, rfl⟩
theorem o_appendRoot_44 : InsA md_appendRoot 44 (.iastore) 1 45 := ⟨by decide +kernel, rfl⟩
theorem o_appendRoot_45 : InsA md_appendRoot 45 (.aload_n 0) 1 46 := ⟨by decide +kernel, rfl⟩
theorem o_appendRoot_46 : InsA md_appendRoot 46 (.getfield 20) 3 49 := ⟨by decide +kernel, rfl⟩
theorem o_appendRoot_49 : InsA md_appendRoot 49 (.aload_n 0) 1 50 := ⟨by decide +kernel, rfl⟩
theorem o_appendRoot_50 : InsA md_appendRoot 50 (.getfield 74) 3 53 := ⟨by decide +kernel, rfl⟩
theorem o_appendRoot_53 : InsA md_appendRoot 53 (.iconst 0) 1 54 := ⟨by decide +kernel, rfl⟩
theorem o_appendRoot_54 : InsA md_appendRoot 54 (.iastore) 1 55 := ⟨by decide +kernel, rfl⟩
theorem o_appendRoot_55 : InsA md_appendRoot 55 (.aload_n 0) 1 56 := ⟨by decide +kernel, rfl⟩
theorem o_appendRoot_56 : InsA md_appendRoot 56 (.getfield 23) 3 59 := ⟨by decide +kernel, rfl⟩
theorem o_appendRoot_59 : InsA md_appendRoot 59 (.aload_n 0) 1 60 := ⟨by decide +kernel, rfl⟩
theorem o_appendRoot_60 : InsA md_appendRoot 60 (.getfield 74) 3 63 := ⟨by decide +kernel, rfl⟩
theorem o_appendRoot_63 : InsA md_appendRoot 63 (.iconst 0) 1 64 := ⟨by decide +kernel, rfl⟩
theorem o_appendRoot_64 : InsA md_appendRoot 64 (.bastore) 1 65 := ⟨by decide +kernel, rfl⟩
theorem o_appendRoot_65 : InsA md_appendRoot 65 (.aload_n 0) 1 66 := ⟨by decide +kernel, rfl⟩
theorem o_appendRoot_66 : InsA md_appendRoot 66 (.dup) 1 67 := ⟨by decide +kernel, rfl⟩
theorem o_appendRoot_67 : InsA md_appendRoot 67 (.getfield 74) 3 70 := ⟨by decide +kernel, rfl⟩
theorem o_appendRoot_70 : InsA md_appendRoot 70 (.iconst 1) 1 71 := ⟨by decide +kernel, rfl⟩
theorem o_appendRoot_71 : InsA md_appendRoot 71 (.iadd) 1 72 := ⟨by decide +kernel, rfl⟩
theorem o_appendRoot_72 : InsA md_appendRoot 72 (.putfield 74) 3 75 := ⟨by decide +kernel, rfl⟩
theorem o_appendRoot_75 : InsA md_appendRoot 75 (.iconst 1) 1 76 := ⟨by decide +kernel, rfl⟩
theorem o_appendRoot_76 : InsA md_appendRoot 76 (.ireturn) 1 77 := ⟨by decide +kernel, rfl⟩
abbrev md_expandRow : MD := (⟨"RecursiveCte", "expandRow", "(IZ)Z"⟩, prog_1_method_17_code, 6, some .boolean, { frames := 1, cells := 0, slots := 0, locals := 19 }, 0)
theorem cv_expandRow {Z : State} {a0 : Array Value} (H : OK Z a0) : CalV Z a0 md_expandRow 2 := ⟨pn_RecursiveCte, by decide, pd__IZ_Z, H.w 169 rfl, H.w 171 rfl, H.w 2 rfl, Or.inr ⟨H.w 170 rfl, 21, H.w 1 rfl⟩⟩
theorem o_expandRow_0 : InsA md_expandRow 0 (.aload_n 0) 1 1 := ⟨by decide +kernel, rfl⟩
theorem o_expandRow_1 : InsA md_expandRow 1 (.getfield 16) 3 4 := ⟨by decide +kernel, rfl⟩
theorem o_expandRow_4 : InsA md_expandRow 4 (.iload_n 1) 1 5 := ⟨by decide +kernel, rfl⟩
theorem o_expandRow_5 : InsA md_expandRow 5 (.iaload) 1 6 := ⟨by decide +kernel, rfl⟩
theorem o_expandRow_6 : InsA md_expandRow 6 (.istore_n 3) 1 7 := ⟨by decide +kernel, rfl⟩
theorem o_expandRow_7 : InsA md_expandRow 7 (.iconst 0) 1 8 := ⟨by decide +kernel, rfl⟩
theorem o_expandRow_8 : InsA md_expandRow 8 (.istore 4) 2 10 := ⟨by decide +kernel, rfl⟩
theorem o_expandRow_10 : InsA md_expandRow 10 (.iload 4) 2 12 := ⟨by decide +kernel, rfl⟩
theorem o_expandRow_12 : InsA md_expandRow 12 (.aload_n 0) 1 13 := ⟨by decide +kernel, rfl⟩
theorem o_expandRow_13 : InsA md_expandRow 13 (.getfield 45) 3 16 := ⟨by decide +kernel, rfl⟩
theorem o_expandRow_16 : InsB md_expandRow 16 (.if_icmp .ge 101) 3 19 (101) 117 := ⟨by decide +kernel, rfl, by decide, by decide⟩
theorem o_expandRow_19 : InsA md_expandRow 19 (.iload 4) 2 21 := ⟨by decide +kernel, rfl⟩
theorem o_expandRow_21 : InsA md_expandRow 21 (.bipush 16) 2 23 := ⟨by decide +kernel, rfl⟩
theorem o_expandRow_23 : InsB md_expandRow 23 (.if_icmp .ge 94) 3 26 (94) 117 := ⟨by decide +kernel, rfl, by decide, by decide⟩
theorem o_expandRow_26 : InsA md_expandRow 26 (.aload_n 0) 1 27 := ⟨by decide +kernel, rfl⟩
theorem o_expandRow_27 : InsA md_expandRow 27 (.getfield 7) 3 30 := ⟨by decide +kernel, rfl⟩
theorem o_expandRow_30 : InsA md_expandRow 30 (.iload_n 3) 1 31 := ⟨by decide +kernel, rfl⟩
theorem o_expandRow_31 : InsA md_expandRow 31 (.bipush 16) 2 33 := ⟨by decide +kernel, rfl⟩
theorem o_expandRow_33 : InsA md_expandRow 33 (.imul) 1 34 := ⟨by decide +kernel, rfl⟩
theorem o_expandRow_34 : InsA md_expandRow 34 (.iload 4) 2 36 := ⟨by decide +kernel, rfl⟩
theorem o_expandRow_36 : InsA md_expandRow 36 (.iadd) 1 37 := ⟨by decide +kernel, rfl⟩
theorem o_expandRow_37 : InsA md_expandRow 37 (.baload) 1 38 := ⟨by decide +kernel, rfl⟩
theorem o_expandRow_38 : InsB md_expandRow 38 (.ifCond .ne 6) 3 41 (6) 44 := ⟨by decide +kernel, rfl, by decide, by decide⟩
theorem o_expandRow_41 : InsB md_expandRow 41 (.goto 70) 3 44 (70) 111 := ⟨by decide +kernel, rfl, by decide, by decide⟩
theorem o_expandRow_44 : InsA md_expandRow 44 (.iload_n 2) 1 45 := ⟨by decide +kernel, rfl⟩
theorem o_expandRow_45 : InsB md_expandRow 45 (.ifCond .eq 24) 3 48 (24) 69 := ⟨by decide +kernel, rfl, by decide, by decide⟩
theorem o_expandRow_48 : InsA md_expandRow 48 (.aload_n 0) 1 49 := ⟨by decide +kernel, rfl⟩
theorem o_expandRow_49 : InsA md_expandRow 49 (.getfield 38) 3 52 := ⟨by decide +kernel, rfl⟩
theorem o_expandRow_52 : InsA md_expandRow 52 (.iload 4) 2 54 := ⟨by decide +kernel, rfl⟩
theorem o_expandRow_54 : InsA md_expandRow 54 (.baload) 1 55 := ⟨by decide +kernel, rfl⟩
theorem o_expandRow_55 : InsB md_expandRow 55 (.ifCond .eq 6) 3 58 (6) 61 := ⟨by decide +kernel, rfl, by decide, by decide⟩
theorem o_expandRow_58 : InsB md_expandRow 58 (.goto 53) 3 61 (53) 111 := ⟨by decide +kernel, rfl, by decide, by decide⟩
theorem o_expandRow_61 : InsA md_expandRow 61 (.aload_n 0) 1 62 := ⟨by decide +kernel, rfl⟩
theorem o_expandRow_62 : InsA md_expandRow 62 (.getfield 38) 3 65 := ⟨by decide +kernel, rfl⟩
theorem o_expandRow_65 : InsA md_expandRow 65 (.iload 4) 2 67 := ⟨by decide +kernel, rfl⟩
theorem o_expandRow_67 : InsA md_expandRow 67 (.iconst 1) 1 68 := ⟨by decide +kernel, rfl⟩
theorem o_expandRow_68 : InsA md_expandRow 68 (.bastore) 1 69 := ⟨by decide +kernel, rfl⟩
theorem o_expandRow_69 : InsA md_expandRow 69 (.iload_n 2) 1 70 := ⟨by decide +kernel, rfl⟩
theorem o_expandRow_70 : InsB md_expandRow 70 (.ifCond .ne 24) 3 73 (24) 94 := ⟨by decide +kernel, rfl, by decide, by decide⟩
theorem o_expandRow_73 : InsA md_expandRow 73 (.aload_n 0) 1 74 := ⟨by decide +kernel, rfl⟩
theorem o_expandRow_74 : InsA md_expandRow 74 (.getfield 64) 3 77 := ⟨by decide +kernel, rfl⟩
theorem o_expandRow_77 : InsB md_expandRow 77 (.ifCond .eq 17) 3 80 (17) 94 := ⟨by decide +kernel, rfl, by decide, by decide⟩
theorem o_expandRow_80 : InsA md_expandRow 80 (.aload_n 0) 1 81 := ⟨by decide +kernel, rfl⟩
theorem o_expandRow_81 : InsA md_expandRow 81 (.iload_n 1) 1 82 := ⟨by decide +kernel, rfl⟩
theorem o_expandRow_82 : InsA md_expandRow 82 (.iload 4) 2 84 := ⟨by decide +kernel, rfl⟩
theorem o_expandRow_84 : InsA md_expandRow 84 (.invokevirtual 119) 3 87 := ⟨by decide +kernel, rfl⟩
theorem o_expandRow_87 : InsB md_expandRow 87 (.ifCond .eq 7) 3 90 (7) 94 := ⟨by decide +kernel, rfl, by decide, by decide⟩
theorem o_expandRow_90 : InsA md_expandRow 90 (.iconst 1) 1 91 := ⟨by decide +kernel, rfl⟩
theorem o_expandRow_91 : InsB md_expandRow 91 (.goto 4) 3 94 (4) 95 := ⟨by decide +kernel, rfl, by decide, by decide⟩
theorem o_expandRow_94 : InsA md_expandRow 94 (.iconst 0) 1 95 := ⟨by decide +kernel, rfl⟩
theorem o_expandRow_95 : InsA md_expandRow 95 (.istore 5) 2 97 := ⟨by decide +kernel, rfl⟩
theorem o_expandRow_97 : InsA md_expandRow 97 (.aload_n 0) 1 98 := ⟨by decide +kernel, rfl⟩
theorem o_expandRow_98 : InsA md_expandRow 98 (.iload_n 1) 1 99 := ⟨by decide +kernel, rfl⟩
theorem o_expandRow_99 : InsA md_expandRow 99 (.iload 4) 2 101 := ⟨by decide +kernel, rfl⟩
theorem o_expandRow_101 : InsA md_expandRow 101 (.iload 5) 2 103 := ⟨by decide +kernel, rfl⟩
theorem o_expandRow_103 : InsA md_expandRow 103 (.invokevirtual 122) 3 106 := ⟨by decide +kernel, rfl⟩
theorem o_expandRow_106 : InsB md_expandRow 106 (.ifCond .ne 5) 3 109 (5) 111 := ⟨by decide +kernel, rfl, by decide, by decide⟩
theorem o_expandRow_109 : InsA md_expandRow 109 (.iconst 0) 1 110 := ⟨by decide +kernel, rfl⟩
theorem o_expandRow_110 : InsA md_expandRow 110 (.ireturn) 1 111 := ⟨by decide +kernel, rfl⟩
theorem o_expandRow_111 : InsA md_expandRow 111 (.iinc 4 1) 3 114 := ⟨by decide +kernel, rfl⟩
theorem o_expandRow_114 : InsB md_expandRow 114 (.goto (-104)) 3 117 (-104) 10 := ⟨by decide +kernel, rfl, by decide, by decide⟩
theorem o_expandRow_117 : InsA md_expandRow 117 (.iconst 1) 1 118 := ⟨by decide +kernel, rfl⟩
theorem o_expandRow_118 : InsA md_expandRow 118 (.ireturn) 1 119 := ⟨by decide +kernel, rfl⟩
abbrev md_walkFrom : MD := (⟨"RecursiveCte", "walkFrom", "(I)Z"⟩, prog_1_method_12_code, 6, some .boolean, { frames := 1, cells := 0, slots := 0, locals := 16 }, 0)
theorem cv_walkFrom {Z : State} {a0 : Array Value} (H : OK Z a0) : CalV Z a0 md_walkFrom 1 := ⟨pn_RecursiveCte, by decide, pd__I_Z, H.w 173 rfl, H.w 175 rfl, H.w 2 rfl, Or.inr ⟨H.w 174 rfl, 21, H.w 1 rfl⟩⟩
theorem o_walkFrom_0 : InsA md_walkFrom 0 (.aload_n 0) 1 1 := ⟨by decide +kernel, rfl⟩
theorem o_walkFrom_1 : InsA md_walkFrom 1 (.iconst 0) 1 2 := ⟨by decide +kernel, rfl⟩
theorem o_walkFrom_2 : InsA md_walkFrom 2 (.putfield 77) 3 5 := ⟨by decide +kernel, rfl⟩
theorem o_walkFrom_5 : InsA md_walkFrom 5 (.aload_n 0) 1 6 := ⟨by decide +kernel, rfl⟩
theorem o_walkFrom_6 : InsA md_walkFrom 6 (.getfield 29) 3 9 := ⟨by decide +kernel, rfl⟩
theorem o_walkFrom_9 : InsA md_walkFrom 9 (.iconst 0) 1 10 := ⟨by decide +kernel, rfl⟩
theorem o_walkFrom_10 : InsA md_walkFrom 10 (.iload_n 1) 1 11 := ⟨by decide +kernel, rfl⟩
theorem o_walkFrom_11 : InsA md_walkFrom 11 (.iastore) 1 12 := ⟨by decide +kernel, rfl⟩
theorem o_walkFrom_12 : InsA md_walkFrom 12 (.aload_n 0) 1 13 := ⟨by decide +kernel, rfl⟩
theorem o_walkFrom_13 : InsA md_walkFrom 13 (.getfield 32) 3 16 := ⟨by decide +kernel, rfl⟩
theorem o_walkFrom_16 : InsA md_walkFrom 16 (.iconst 0) 1 17 := ⟨by decide +kernel, rfl⟩
theorem o_walkFrom_17 : InsA md_walkFrom 17 (.iconst 0) 1 18 := ⟨by decide +kernel, rfl⟩
theorem o_walkFrom_18 : InsA md_walkFrom 18 (.iastore) 1 19 := ⟨by decide +kernel, rfl⟩
theorem o_walkFrom_19 : InsA md_walkFrom 19 (.aload_n 0) 1 20 := ⟨by decide +kernel, rfl⟩
theorem o_walkFrom_20 : InsA md_walkFrom 20 (.getfield 35) 3 23 := ⟨by decide +kernel, rfl⟩
theorem o_walkFrom_23 : InsA md_walkFrom 23 (.iconst 0) 1 24 := ⟨by decide +kernel, rfl⟩
theorem o_walkFrom_24 : InsA md_walkFrom 24 (.iconst 0) 1 25 := ⟨by decide +kernel, rfl⟩
theorem o_walkFrom_25 : InsA md_walkFrom 25 (.bastore) 1 26 := ⟨by decide +kernel, rfl⟩
theorem o_walkFrom_26 : InsA md_walkFrom 26 (.aload_n 0) 1 27 := ⟨by decide +kernel, rfl⟩
theorem o_walkFrom_27 : InsA md_walkFrom 27 (.invokevirtual 101) 3 30 := ⟨by decide +kernel, rfl⟩
theorem o_walkFrom_30 : InsB md_walkFrom 30 (.ifCond .ne 5) 3 33 (5) 35 := ⟨by decide +kernel, rfl, by decide, by decide⟩
theorem o_walkFrom_33 : InsA md_walkFrom 33 (.iconst 0) 1 34 := ⟨by decide +kernel, rfl⟩
theorem o_walkFrom_34 : InsA md_walkFrom 34 (.ireturn) 1 35 := ⟨by decide +kernel, rfl⟩
theorem o_walkFrom_35 : InsA md_walkFrom 35 (.iconst 0) 1 36 := ⟨by decide +kernel, rfl⟩
theorem o_walkFrom_36 : InsA md_walkFrom 36 (.istore_n 2) 1 37 := ⟨by decide +kernel, rfl⟩
theorem o_walkFrom_37 : InsA md_walkFrom 37 (.iload_n 2) 1 38 := ⟨by decide +kernel, rfl⟩
theorem o_walkFrom_38 : InsA md_walkFrom 38 (.sipush 400) 3 41 := ⟨by decide +kernel, rfl⟩
theorem o_walkFrom_41 : InsB md_walkFrom 41 (.if_icmp .ge 162) 3 44 (162) 203 := ⟨by decide +kernel, rfl, by decide, by decide⟩
theorem o_walkFrom_44 : InsA md_walkFrom 44 (.aload_n 0) 1 45 := ⟨by decide +kernel, rfl⟩
theorem o_walkFrom_45 : InsA md_walkFrom 45 (.getfield 77) 3 48 := ⟨by decide +kernel, rfl⟩
theorem o_walkFrom_48 : InsB md_walkFrom 48 (.ifCond .lt 155) 3 51 (155) 203 := ⟨by decide +kernel, rfl, by decide, by decide⟩
theorem o_walkFrom_51 : InsA md_walkFrom 51 (.aload_n 0) 1 52 := ⟨by decide +kernel, rfl⟩
theorem o_walkFrom_52 : InsA md_walkFrom 52 (.getfield 77) 3 55 := ⟨by decide +kernel, rfl⟩
theorem o_walkFrom_55 : InsA md_walkFrom 55 (.istore_n 3) 1 56 := ⟨by decide +kernel, rfl⟩
theorem o_walkFrom_56 : InsA md_walkFrom 56 (.iconst (-1)) 1 57 := ⟨by decide +kernel, rfl⟩
theorem o_walkFrom_57 : InsA md_walkFrom 57 (.istore 4) 2 59 := ⟨by decide +kernel, rfl⟩
theorem o_walkFrom_59 : InsA md_walkFrom 59 (.iload_n 3) 1 60 := ⟨by decide +kernel, rfl⟩
theorem o_walkFrom_60 : InsA md_walkFrom 60 (.aload_n 0) 1 61 := ⟨by decide +kernel, rfl⟩
theorem o_walkFrom_61 : InsA md_walkFrom 61 (.getfield 68) 3 64 := ⟨by decide +kernel, rfl⟩
theorem o_walkFrom_64 : InsB md_walkFrom 64 (.if_icmp .ge 36) 3 67 (36) 100 := ⟨by decide +kernel, rfl, by decide, by decide⟩
theorem o_walkFrom_67 : InsA md_walkFrom 67 (.iload_n 3) 1 68 := ⟨by decide +kernel, rfl⟩
theorem o_walkFrom_68 : InsA md_walkFrom 68 (.bipush 15) 2 70 := ⟨by decide +kernel, rfl⟩
theorem o_walkFrom_70 : InsB md_walkFrom 70 (.if_icmp .ge 30) 3 73 (30) 100 := ⟨by decide +kernel, rfl, by decide, by decide⟩
theorem o_walkFrom_73 : InsA md_walkFrom 73 (.aload_n 0) 1 74 := ⟨by decide +kernel, rfl⟩
theorem o_walkFrom_74 : InsA md_walkFrom 74 (.getfield 35) 3 77 := ⟨by decide +kernel, rfl⟩
theorem o_walkFrom_77 : InsA md_walkFrom 77 (.iload_n 3) 1 78 := ⟨by decide +kernel, rfl⟩
theorem o_walkFrom_78 : InsA md_walkFrom 78 (.baload) 1 79 := ⟨by decide +kernel, rfl⟩
theorem o_walkFrom_79 : InsB md_walkFrom 79 (.ifCond .ne 21) 3 82 (21) 100 := ⟨by decide +kernel, rfl, by decide, by decide⟩
theorem o_walkFrom_82 : InsA md_walkFrom 82 (.aload_n 0) 1 83 := ⟨by decide +kernel, rfl⟩
theorem o_walkFrom_83 : InsA md_walkFrom 83 (.aload_n 0) 1 84 := ⟨by decide +kernel, rfl⟩
theorem o_walkFrom_84 : InsA md_walkFrom 84 (.getfield 29) 3 87 := ⟨by decide +kernel, rfl⟩
theorem o_walkFrom_87 : InsA md_walkFrom 87 (.iload_n 3) 1 88 := ⟨by decide +kernel, rfl⟩
theorem o_walkFrom_88 : InsA md_walkFrom 88 (.iaload) 1 89 := ⟨by decide +kernel, rfl⟩
theorem o_walkFrom_89 : InsA md_walkFrom 89 (.aload_n 0) 1 90 := ⟨by decide +kernel, rfl⟩
theorem o_walkFrom_90 : InsA md_walkFrom 90 (.getfield 32) 3 93 := ⟨by decide +kernel, rfl⟩
theorem o_walkFrom_93 : InsA md_walkFrom 93 (.iload_n 3) 1 94 := ⟨by decide +kernel, rfl⟩
theorem o_walkFrom_94 : InsA md_walkFrom 94 (.iaload) 1 95 := ⟨by decide +kernel, rfl⟩
theorem o_walkFrom_95 : InsA md_walkFrom 95 (.invokevirtual 104) 3 98 := ⟨by decide +kernel, rfl⟩
theorem o_walkFrom_98 : InsA md_walkFrom 98 (.istore 4) 2 100 := ⟨by decide +kernel, rfl⟩
theorem o_walkFrom_100 : InsA md_walkFrom 100 (.iload 4) 2 102 := ⟨by decide +kernel, rfl⟩
theorem o_walkFrom_102 : InsB md_walkFrom 102 (.ifCond .ge 16) 3 105 (16) 118 := ⟨by decide +kernel, rfl, by decide, by decide⟩
theorem o_walkFrom_105 : InsA md_walkFrom 105 (.aload_n 0) 1 106 := ⟨by decide +kernel, rfl⟩
theorem o_walkFrom_106 : InsA md_walkFrom 106 (.dup) 1 107 := ⟨by decide +kernel, rfl⟩
theorem o_walkFrom_107 : InsA md_walkFrom 107 (.getfield 77) 3 110 := ⟨by decide +kernel, rfl⟩
theorem o_walkFrom_110 : InsA md_walkFrom 110 (.iconst 1) 1 111 := ⟨by decide +kernel, rfl⟩
theorem o_walkFrom_111 : InsA md_walkFrom 111 (.isub) 1 112 := ⟨by decide +kernel, rfl⟩
theorem o_walkFrom_112 : InsA md_walkFrom 112 (.putfield 77) 3 115 := ⟨by decide +kernel, rfl⟩
theorem o_walkFrom_115 : InsB md_walkFrom 115 (.goto 82) 3 118 (82) 197 := ⟨by decide +kernel, rfl, by decide, by decide⟩
theorem o_walkFrom_118 : InsA md_walkFrom 118 (.aload_n 0) 1 119 := ⟨by decide +kernel, rfl⟩
theorem o_walkFrom_119 : InsA md_walkFrom 119 (.getfield 32) 3 122 := ⟨by decide +kernel, rfl⟩
theorem o_walkFrom_122 : InsA md_walkFrom 122 (.iload_n 3) 1 123 := ⟨by decide +kernel, rfl⟩
theorem o_walkFrom_123 : InsA md_walkFrom 123 (.iload 4) 2 125 := ⟨by decide +kernel, rfl⟩
theorem o_walkFrom_125 : InsA md_walkFrom 125 (.iconst 1) 1 126 := ⟨by decide +kernel, rfl⟩
theorem o_walkFrom_126 : InsA md_walkFrom 126 (.iadd) 1 127 := ⟨by decide +kernel, rfl⟩
theorem o_walkFrom_127 : InsA md_walkFrom 127 (.iastore) 1 128 := ⟨by decide +kernel, rfl⟩
theorem o_walkFrom_128 : InsA md_walkFrom 128 (.aload_n 0) 1 129 := ⟨by decide +kernel, rfl⟩
theorem o_walkFrom_129 : InsA md_walkFrom 129 (.getfield 64) 3 132 := ⟨by decide +kernel, rfl⟩
theorem o_walkFrom_132 : InsB md_walkFrom 132 (.ifCond .eq 17) 3 135 (17) 149 := ⟨by decide +kernel, rfl, by decide, by decide⟩
theorem o_walkFrom_135 : InsA md_walkFrom 135 (.aload_n 0) 1 136 := ⟨by decide +kernel, rfl⟩
theorem o_walkFrom_136 : InsA md_walkFrom 136 (.iload 4) 2 138 := ⟨by decide +kernel, rfl⟩
theorem o_walkFrom_138 : InsA md_walkFrom 138 (.iload_n 3) 1 139 := ⟨by decide +kernel, rfl⟩
theorem o_walkFrom_139 : InsA md_walkFrom 139 (.invokevirtual 108) 3 142 := ⟨by decide +kernel, rfl⟩
theorem o_walkFrom_142 : InsB md_walkFrom 142 (.ifCond .eq 7) 3 145 (7) 149 := ⟨by decide +kernel, rfl, by decide, by decide⟩
theorem o_walkFrom_145 : InsA md_walkFrom 145 (.iconst 1) 1 146 := ⟨by decide +kernel, rfl⟩
theorem o_walkFrom_146 : InsB md_walkFrom 146 (.goto 4) 3 149 (4) 150 := ⟨by decide +kernel, rfl, by decide, by decide⟩
theorem o_walkFrom_149 : InsA md_walkFrom 149 (.iconst 0) 1 150 := ⟨by decide +kernel, rfl⟩
theorem o_walkFrom_150 : InsA md_walkFrom 150 (.istore 5) 2 152 := ⟨by decide +kernel, rfl⟩
theorem o_walkFrom_152 : InsA md_walkFrom 152 (.aload_n 0) 1 153 := ⟨by decide +kernel, rfl⟩
theorem o_walkFrom_153 : InsA md_walkFrom 153 (.getfield 29) 3 156 := ⟨by decide +kernel, rfl⟩
theorem o_walkFrom_156 : InsA md_walkFrom 156 (.iload_n 3) 1 157 := ⟨by decide +kernel, rfl⟩
theorem o_walkFrom_157 : InsA md_walkFrom 157 (.iconst 1) 1 158 := ⟨by decide +kernel, rfl⟩
theorem o_walkFrom_158 : InsA md_walkFrom 158 (.iadd) 1 159 := ⟨by decide +kernel, rfl⟩
theorem o_walkFrom_159 : InsA md_walkFrom 159 (.iload 4) 2 161 := ⟨by decide +kernel, rfl⟩
theorem o_walkFrom_161 : InsA md_walkFrom 161 (.iastore) 1 162 := ⟨by decide +kernel, rfl⟩
theorem o_walkFrom_162 : InsA md_walkFrom 162 (.aload_n 0) 1 163 := ⟨by decide +kernel, rfl⟩
theorem o_walkFrom_163 : InsA md_walkFrom 163 (.getfield 32) 3 166 := ⟨by decide +kernel, rfl⟩
theorem o_walkFrom_166 : InsA md_walkFrom 166 (.iload_n 3) 1 167 := ⟨by decide +kernel, rfl⟩
theorem o_walkFrom_167 : InsA md_walkFrom 167 (.iconst 1) 1 168 := ⟨by decide +kernel, rfl⟩
theorem o_walkFrom_168 : InsA md_walkFrom 168 (.iadd) 1 169 := ⟨by decide +kernel, rfl⟩
theorem o_walkFrom_169 : InsA md_walkFrom 169 (.iconst 0) 1 170 := ⟨by decide +kernel, rfl⟩
theorem o_walkFrom_170 : InsA md_walkFrom 170 (.iastore) 1 171 := ⟨by decide +kernel, rfl⟩
theorem o_walkFrom_171 : InsA md_walkFrom 171 (.aload_n 0) 1 172 := ⟨by decide +kernel, rfl⟩
theorem o_walkFrom_172 : InsA md_walkFrom 172 (.getfield 35) 3 175 := ⟨by decide +kernel, rfl⟩
theorem o_walkFrom_175 : InsA md_walkFrom 175 (.iload_n 3) 1 176 := ⟨by decide +kernel, rfl⟩
theorem o_walkFrom_176 : InsA md_walkFrom 176 (.iconst 1) 1 177 := ⟨by decide +kernel, rfl⟩
theorem o_walkFrom_177 : InsA md_walkFrom 177 (.iadd) 1 178 := ⟨by decide +kernel, rfl⟩
theorem o_walkFrom_178 : InsA md_walkFrom 178 (.iload 5) 2 180 := ⟨by decide +kernel, rfl⟩
theorem o_walkFrom_180 : InsA md_walkFrom 180 (.bastore) 1 181 := ⟨by decide +kernel, rfl⟩
theorem o_walkFrom_181 : InsA md_walkFrom 181 (.aload_n 0) 1 182 := ⟨by decide +kernel, rfl⟩
theorem o_walkFrom_182 : InsA md_walkFrom 182 (.iload_n 3) 1 183 := ⟨by decide +kernel, rfl⟩
theorem o_walkFrom_183 : InsA md_walkFrom 183 (.iconst 1) 1 184 := ⟨by decide +kernel, rfl⟩
theorem o_walkFrom_184 : InsA md_walkFrom 184 (.iadd) 1 185 := ⟨by decide +kernel, rfl⟩
theorem o_walkFrom_185 : InsA md_walkFrom 185 (.putfield 77) 3 188 := ⟨by decide +kernel, rfl⟩
theorem o_walkFrom_188 : InsA md_walkFrom 188 (.aload_n 0) 1 189 := ⟨by decide +kernel, rfl⟩
theorem o_walkFrom_189 : InsA md_walkFrom 189 (.invokevirtual 101) 3 192 := ⟨by decide +kernel, rfl⟩
theorem o_walkFrom_192 : InsB md_walkFrom 192 (.ifCond .ne 5) 3 195 (5) 197 := ⟨by decide +kernel, rfl, by decide, by decide⟩
theorem o_walkFrom_195 : InsA md_walkFrom 195 (.iconst 0) 1 196 := ⟨by decide +kernel, rfl⟩
theorem o_walkFrom_196 : InsA md_walkFrom 196 (.ireturn) 1 197 := ⟨by decide +kernel, rfl⟩
theorem o_walkFrom_197 : InsA md_walkFrom 197 (.iinc 2 1) 3 200 := ⟨by decide +kernel, rfl⟩
theorem o_walkFrom_200 : InsB md_walkFrom 200 (.goto (-163)) 3 203 (-163) 37 := ⟨by decide +kernel, rfl, by decide, by decide⟩
theorem o_walkFrom_203 : InsA md_walkFrom 203 (.iconst 1) 1 204 := ⟨by decide +kernel, rfl⟩
theorem o_walkFrom_204 : InsA md_walkFrom 204 (.ireturn) 1 205 := ⟨by decide +kernel, rfl⟩
abbrev md_emitStack : MD := (⟨"RecursiveCte", "emitStack", "()Z"⟩, prog_1_method_15_code, 3, some .boolean, { frames := 0, cells := 0, slots := 0, locals := 0 }, 0)
theorem cv_emitStack {Z : State} {a0 : Array Value} (H : OK Z a0) : CalV Z a0 md_emitStack 0 := ⟨pn_RecursiveCte, by decide, pd___Z, H.w 177 rfl, H.w 179 rfl, H.w 2 rfl, Or.inr ⟨H.w 178 rfl, 21, H.w 1 rfl⟩⟩
theorem o_emitStack_0 : InsA md_emitStack 0 (.aload_n 0) 1 1 := ⟨by decide +kernel, rfl⟩
theorem o_emitStack_1 : InsA md_emitStack 1 (.getfield 74) 3 4 := ⟨by decide +kernel, rfl⟩
theorem o_emitStack_4 : InsA md_emitStack 4 (.aload_n 0) 1 5 := ⟨by decide +kernel, rfl⟩
theorem o_emitStack_5 : InsA md_emitStack 5 (.getfield 52) 3 8 := ⟨by decide +kernel, rfl⟩
theorem o_emitStack_8 : InsB md_emitStack 8 (.if_icmp .ge 12) 3 11 (12) 20 := ⟨by decide +kernel, rfl, by decide, by decide⟩
theorem o_emitStack_11 : InsA md_emitStack 11 (.aload_n 0) 1 12 := ⟨by decide +kernel, rfl⟩
theorem o_emitStack_12 : InsA md_emitStack 12 (.getfield 74) 3 15 := ⟨by decide +kernel, rfl⟩
theorem o_emitStack_15 : InsA md_emitStack 15 (.bipush 64) 2 17 := ⟨by decide +kernel, rfl⟩
theorem o_emitStack_17 : InsB md_emitStack 17 (.if_icmp .lt 5) 3 20 (5) 22 := ⟨by decide +kernel, rfl, by decide, by decide⟩
theorem o_emitStack_20 : InsA md_emitStack 20 (.iconst 0) 1 21 := ⟨by decide +kernel, rfl⟩
theorem o_emitStack_21 : InsA md_emitStack 21 (.ireturn) 1 22 := ⟨by decide +kernel, rfl⟩
theorem o_emitStack_22 : InsA md_emitStack 22 (.aload_n 0) 1 23 := ⟨by decide +kernel, rfl⟩
theorem o_emitStack_23 : InsA md_emitStack 23 (.getfield 74) 3 26 := ⟨by decide +kernel, rfl⟩
theorem o_emitStack_26 : InsA md_emitStack 26 (.bipush 16) 2 28 := ⟨by decide +kernel, rfl⟩
theorem o_emitStack_28 : InsA md_emitStack 28 (.imul) 1 29 := ⟨by decide +kernel, rfl⟩
theorem o_emitStack_29 : InsA md_emitStack 29 (.istore_n 1) 1 30 := ⟨by decide +kernel, rfl⟩
theorem o_emitStack_30 : InsA md_emitStack 30 (.iconst 0) 1 31 := ⟨by decide +kernel, rfl⟩
theorem o_emitStack_31 : InsA md_emitStack 31 (.istore_n 2) 1 32 := ⟨by decide +kernel, rfl⟩
theorem o_emitStack_32 : InsA md_emitStack 32 (.iload_n 2) 1 33 := ⟨by decide +kernel, rfl⟩
theorem o_emitStack_33 : InsA md_emitStack 33 (.aload_n 0) 1 34 := ⟨by decide +kernel, rfl⟩
theorem o_emitStack_34 : InsA md_emitStack 34 (.getfield 77) 3 37 := ⟨by decide +kernel, rfl⟩
theorem o_emitStack_37 : InsB md_emitStack 37 (.if_icmp .gt 29) 3 40 (29) 66 := ⟨by decide +kernel, rfl, by decide, by decide⟩
theorem o_emitStack_40 : InsA md_emitStack 40 (.iload_n 2) 1 41 := ⟨by decide +kernel, rfl⟩
theorem o_emitStack_41 : InsA md_emitStack 41 (.bipush 16) 2 43 := ⟨by decide +kernel, rfl⟩
theorem o_emitStack_43 : InsB md_emitStack 43 (.if_icmp .ge 23) 3 46 (23) 66 := ⟨by decide +kernel, rfl, by decide, by decide⟩
theorem o_emitStack_46 : InsA md_emitStack 46 (.aload_n 0) 1 47 := ⟨by decide +kernel, rfl⟩
theorem o_emitStack_47 : InsA md_emitStack 47 (.getfield 26) 3 50 := ⟨by decide +kernel, rfl⟩
theorem o_emitStack_50 : InsA md_emitStack 50 (.iload_n 1) 1 51 := ⟨by decide +kernel, rfl⟩
theorem o_emitStack_51 : InsA md_emitStack 51 (.iload_n 2) 1 52 := ⟨by decide +kernel, rfl⟩
theorem o_emitStack_52 : InsA md_emitStack 52 (.iadd) 1 53 := ⟨by decide +kernel, rfl⟩
theorem o_emitStack_53 : InsA md_emitStack 53 (.aload_n 0) 1 54 := ⟨by decide +kernel, rfl⟩
theorem o_emitStack_54 : InsA md_emitStack 54 (.getfield 29) 3 57 := ⟨by decide +kernel, rfl⟩
theorem o_emitStack_57 : InsA md_emitStack 57 (.iload_n 2) 1 58 := ⟨by decide +kernel, rfl⟩
theorem o_emitStack_58 : InsA md_emitStack 58 (.iaload) 1 59 := ⟨by decide +kernel, rfl⟩
theorem o_emitStack_59 : InsA md_emitStack 59 (.iastore) 1 60 := ⟨by decide +kernel, rfl⟩
theorem o_emitStack_60 : InsA md_emitStack 60 (.iinc 2 1) 3 63 := ⟨by decide +kernel, rfl⟩
theorem o_emitStack_63 : InsB md_emitStack 63 (.goto (-31)) 3 66 (-31) 32 := ⟨by decide +kernel, rfl, by decide, by decide⟩
theorem o_emitStack_66 : InsA md_emitStack 66 (.aload_n 0) 1 67 := ⟨by decide +kernel, rfl⟩
theorem o_emitStack_67 : InsA md_emitStack 67 (.getfield 16) 3 70 := ⟨by decide +kernel, rfl⟩
theorem o_emitStack_70 : InsA md_emitStack 70 (.aload_n 0) 1 71 := ⟨by decide +kernel, rfl⟩
theorem o_emitStack_71 : InsA md_emitStack 71 (.getfield 74) 3 74 := ⟨by decide +kernel, rfl⟩
theorem o_emitStack_74 : InsA md_emitStack 74 (.aload_n 0) 1 75 := ⟨by decide +kernel, rfl⟩
theorem o_emitStack_75 : InsA md_emitStack 75 (.getfield 29) 3 78 := ⟨by decide +kernel, rfl⟩
theorem o_emitStack_78 : InsA md_emitStack 78 (.aload_n 0) 1 79 := ⟨by decide +kernel, rfl⟩
theorem o_emitStack_79 : InsA md_emitStack 79 (.getfield 77) 3 82 := ⟨by decide +kernel, rfl⟩
theorem o_emitStack_82 : InsA md_emitStack 82 (.iaload) 1 83 := ⟨by decide +kernel, rfl⟩
theorem o_emitStack_83 : InsA md_emitStack 83 (.iastore) 1 84 := ⟨by decide +kernel, rfl⟩
theorem o_emitStack_84 : InsA md_emitStack 84 (.aload_n 0) 1 85 := ⟨by decide +kernel, rfl⟩
theorem o_emitStack_85 : InsA md_emitStack 85 (.getfield 20) 3 88 := ⟨by decide +kernel, rfl⟩
theorem o_emitStack_88 : InsA md_emitStack 88 (.aload_n 0) 1 89 := ⟨by decide +kernel, rfl⟩
theorem o_emitStack_89 : InsA md_emitStack 89 (.getfield 74) 3 92 := ⟨by decide +kernel, rfl⟩
theorem o_emitStack_92 : InsA md_emitStack 92 (.aload_n 0) 1 93 := ⟨by decide +kernel, rfl⟩
theorem o_emitStack_93 : InsA md_emitStack 93 (.getfield 77) 3 96 := ⟨by decide +kernel, rfl⟩
theorem o_emitStack_96 : InsA md_emitStack 96 (.iastore) 1 97 := ⟨by decide +kernel, rfl⟩
theorem o_emitStack_97 : InsA md_emitStack 97 (.aload_n 0) 1 98 := ⟨by decide +kernel, rfl⟩
theorem o_emitStack_98 : InsA md_emitStack 98 (.getfield 23) 3 101 := ⟨by decide +kernel, rfl⟩
theorem o_emitStack_101 : InsA md_emitStack 101 (.aload_n 0) 1 102 := ⟨by decide +kernel, rfl⟩
theorem o_emitStack_102 : InsA md_emitStack 102 (.getfield 74) 3 105 := ⟨by decide +kernel, rfl⟩
theorem o_emitStack_105 : InsA md_emitStack 105 (.aload_n 0) 1 106 := ⟨by decide +kernel, rfl⟩
theorem o_emitStack_106 : InsA md_emitStack 106 (.getfield 35) 3 109 := ⟨by decide +kernel, rfl⟩
theorem o_emitStack_109 : InsA md_emitStack 109 (.aload_n 0) 1 110 := ⟨by decide +kernel, rfl⟩
theorem o_emitStack_110 : InsA md_emitStack 110 (.getfield 77) 3 113 := ⟨by decide +kernel, rfl⟩
theorem o_emitStack_113 : InsA md_emitStack 113 (.baload) 1 114 := ⟨by decide +kernel, rfl⟩
theorem o_emitStack_114 : InsA md_emitStack 114 (.bastore) 1 115 := ⟨by decide +kernel, rfl⟩
theorem o_emitStack_115 : InsA md_emitStack 115 (.aload_n 0) 1 116 := ⟨by decide +kernel, rfl⟩
theorem o_emitStack_116 : InsA md_emitStack 116 (.dup) 1 117 := ⟨by decide +kernel, rfl⟩
theorem o_emitStack_117 : InsA md_emitStack 117 (.getfield 74) 3 120 := ⟨by decide +kernel, rfl⟩
theorem o_emitStack_120 : InsA md_emitStack 120 (.iconst 1) 1 121 := ⟨by decide +kernel, rfl⟩
theorem o_emitStack_121 : InsA md_emitStack 121 (.iadd) 1 122 := ⟨by decide +kernel, rfl⟩
theorem o_emitStack_122 : InsA md_emitStack 122 (.putfield 74) 3 125 := ⟨by decide +kernel, rfl⟩
theorem o_emitStack_125 : InsA md_emitStack 125 (.iconst 1) 1 126 := ⟨by decide +kernel, rfl⟩
theorem o_emitStack_126 : InsA md_emitStack 126 (.ireturn) 1 127 := ⟨by decide +kernel, rfl⟩
abbrev md_nextTarget : MD := (⟨"RecursiveCte", "nextTarget", "(II)I"⟩, prog_1_method_13_code, 5, some .int, { frames := 0, cells := 0, slots := 0, locals := 0 }, 0)
theorem cv_nextTarget {Z : State} {a0 : Array Value} (H : OK Z a0) : CalV Z a0 md_nextTarget 2 := ⟨pn_RecursiveCte, by decide, pd__II_I, H.w 181 rfl, H.w 183 rfl, H.w 2 rfl, Or.inr ⟨H.w 182 rfl, 21, H.w 1 rfl⟩⟩
theorem o_nextTarget_0 : InsA md_nextTarget 0 (.iload_n 2) 1 1 := ⟨by decide +kernel, rfl⟩
theorem o_nextTarget_1 : InsB md_nextTarget 1 (.ifCond .ge 7) 3 4 (7) 8 := ⟨by decide +kernel, rfl, by decide, by decide⟩
theorem o_nextTarget_4 : InsA md_nextTarget 4 (.iconst 0) 1 5 := ⟨by decide +kernel, rfl⟩
theorem o_nextTarget_5 : InsB md_nextTarget 5 (.goto 4) 3 8 (4) 9 := ⟨by decide +kernel, rfl, by decide, by decide⟩
theorem o_nextTarget_8 : InsA md_nextTarget 8 (.iload_n 2) 1 9 := ⟨by decide +kernel, rfl⟩
theorem o_nextTarget_9 : InsA md_nextTarget 9 (.istore_n 3) 1 10 := ⟨by decide +kernel, rfl⟩
theorem o_nextTarget_10 : InsA md_nextTarget 10 (.iload_n 3) 1 11 := ⟨by decide +kernel, rfl⟩
theorem o_nextTarget_11 : InsA md_nextTarget 11 (.istore 4) 2 13 := ⟨by decide +kernel, rfl⟩
theorem o_nextTarget_13 : InsA md_nextTarget 13 (.iload 4) 2 15 := ⟨by decide +kernel, rfl⟩
theorem o_nextTarget_15 : InsA md_nextTarget 15 (.aload_n 0) 1 16 := ⟨by decide +kernel, rfl⟩
theorem o_nextTarget_16 : InsA md_nextTarget 16 (.getfield 45) 3 19 := ⟨by decide +kernel, rfl⟩
theorem o_nextTarget_19 : InsB md_nextTarget 19 (.if_icmp .ge 34) 3 22 (34) 53 := ⟨by decide +kernel, rfl, by decide, by decide⟩
theorem o_nextTarget_22 : InsA md_nextTarget 22 (.iload 4) 2 24 := ⟨by decide +kernel, rfl⟩
theorem o_nextTarget_24 : InsA md_nextTarget 24 (.bipush 16) 2 26 := ⟨by decide +kernel, rfl⟩
theorem o_nextTarget_26 : InsB md_nextTarget 26 (.if_icmp .ge 27) 3 29 (27) 53 := ⟨by decide +kernel, rfl, by decide, by decide⟩
theorem o_nextTarget_29 : InsA md_nextTarget 29 (.aload_n 0) 1 30 := ⟨by decide +kernel, rfl⟩
theorem o_nextTarget_30 : InsA md_nextTarget 30 (.getfield 7) 3 33 := ⟨by decide +kernel, rfl⟩
theorem o_nextTarget_33 : InsA md_nextTarget 33 (.iload_n 1) 1 34 := ⟨by decide +kernel, rfl⟩
theorem o_nextTarget_34 : InsA md_nextTarget 34 (.bipush 16) 2 36 := ⟨by decide +kernel, rfl⟩
theorem o_nextTarget_36 : InsA md_nextTarget 36 (.imul) 1 37 := ⟨by decide +kernel, rfl⟩
theorem o_nextTarget_37 : InsA md_nextTarget 37 (.iload 4) 2 39 := ⟨by decide +kernel, rfl⟩
theorem o_nextTarget_39 : InsA md_nextTarget 39 (.iadd) 1 40 := ⟨by decide +kernel, rfl⟩
theorem o_nextTarget_40 : InsA md_nextTarget 40 (.baload) 1 41 := ⟨by decide +kernel, rfl⟩
theorem o_nextTarget_41 : InsB md_nextTarget 41 (.ifCond .eq 6) 3 44 (6) 47 := ⟨by decide +kernel, rfl, by decide, by decide⟩
theorem o_nextTarget_44 : InsA md_nextTarget 44 (.iload 4) 2 46 := ⟨by decide +kernel, rfl⟩
theorem o_nextTarget_46 : InsA md_nextTarget 46 (.ireturn) 1 47 := ⟨by decide +kernel, rfl⟩
theorem o_nextTarget_47 : InsA md_nextTarget 47 (.iinc 4 1) 3 50 := ⟨by decide +kernel, rfl⟩
theorem o_nextTarget_50 : InsB md_nextTarget 50 (.goto (-37)) 3 53 (-37) 13 := ⟨by decide +kernel, rfl, by decide, by decide⟩
theorem o_nextTarget_53 : InsA md_nextTarget 53 (.iconst (-1)) 1 54 := ⟨by decide +kernel, rfl⟩
theorem o_nextTarget_54 : InsA md_nextTarget 54 (.ireturn) 1 55 := ⟨by decide +kernel, rfl⟩
abbrev md_appendChild : MD := (⟨"RecursiveCte", "appendChild", "(IIZ)Z"⟩, prog_1_method_20_code, 8, some .boolean, { frames := 0, cells := 0, slots := 0, locals := 0 }, 0)
theorem cv_appendChild {Z : State} {a0 : Array Value} (H : OK Z a0) : CalV Z a0 md_appendChild 3 := ⟨pn_RecursiveCte, by decide, pd__IIZ_Z, H.w 185 rfl, H.w 187 rfl, H.w 2 rfl, Or.inr ⟨H.w 186 rfl, 21, H.w 1 rfl⟩⟩
theorem o_appendChild_0 : InsA md_appendChild 0 (.aload_n 0) 1 1 := ⟨by decide +kernel, rfl⟩
theorem o_appendChild_1 : InsA md_appendChild 1 (.getfield 74) 3 4 := ⟨by decide +kernel, rfl⟩
theorem o_appendChild_4 : InsA md_appendChild 4 (.aload_n 0) 1 5 := ⟨by decide +kernel, rfl⟩
theorem o_appendChild_5 : InsA md_appendChild 5 (.getfield 52) 3 8 := ⟨by decide +kernel, rfl⟩
theorem o_appendChild_8 : InsB md_appendChild 8 (.if_icmp .ge 12) 3 11 (12) 20 := ⟨by decide +kernel, rfl, by decide, by decide⟩
theorem o_appendChild_11 : InsA md_appendChild 11 (.aload_n 0) 1 12 := ⟨by decide +kernel, rfl⟩
theorem o_appendChild_12 : InsA md_appendChild 12 (.getfield 74) 3 15 := ⟨by decide +kernel, rfl⟩
theorem o_appendChild_15 : InsA md_appendChild 15 (.bipush 64) 2 17 := ⟨by decide +kernel, rfl⟩
theorem o_appendChild_17 : InsB md_appendChild 17 (.if_icmp .lt 5) 3 20 (5) 22 := ⟨by decide +kernel, rfl, by decide, by decide⟩
theorem o_appendChild_20 : InsA md_appendChild 20 (.iconst 0) 1 21 := ⟨by decide +kernel, rfl⟩
theorem o_appendChild_21 : InsA md_appendChild 21 (.ireturn) 1 22 := ⟨by decide +kernel, rfl⟩
theorem o_appendChild_22 : InsA md_appendChild 22 (.aload_n 0) 1 23 := ⟨by decide +kernel, rfl⟩
theorem o_appendChild_23 : InsA md_appendChild 23 (.getfield 20) 3 26 := ⟨by decide +kernel, rfl⟩
theorem o_appendChild_26 : InsA md_appendChild 26 (.iload_n 1) 1 27 := ⟨by decide +kernel, rfl⟩
theorem o_appendChild_27 : InsA md_appendChild 27 (.iaload) 1 28 := ⟨by decide +kernel, rfl⟩
theorem o_appendChild_28 : InsA md_appendChild 28 (.istore 4) 2 30 := ⟨by decide +kernel, rfl⟩
theorem o_appendChild_30 : InsA md_appendChild 30 (.iload 4) 2 32 := ⟨by decide +kernel, rfl⟩
theorem o_appendChild_32 : InsA md_appendChild 32 (.bipush 15) 2 34 := ⟨by decide +kernel, rfl⟩
theorem o_appendChild_34 : InsB md_appendChild 34 (.if_icmp .lt 5) 3 37 (5) 39 := ⟨by decide +kernel, rfl, by decide, by decide⟩
theorem o_appendChild_37 : InsA md_appendChild 37 (.iconst 0) 1 38 := ⟨by decide +kernel, rfl⟩
theorem o_appendChild_38 : InsA md_appendChild 38 (.ireturn) 1 39 := ⟨by decide +kernel, rfl⟩
theorem o_appendChild_39 : InsA md_appendChild 39 (.iload_n 1) 1 40 := ⟨by decide +kernel, rfl⟩
theorem o_appendChild_40 : InsA md_appendChild 40 (.bipush 16) 2 42 := ⟨by decide +kernel, rfl⟩
theorem o_appendChild_42 : InsA md_appendChild 42 (.imul) 1 43 := ⟨by decide +kernel, rfl⟩
theorem o_appendChild_43 : InsA md_appendChild 43 (.istore 5) 2 45 := ⟨by decide +kernel, rfl⟩
theorem o_appendChild_45 : InsA md_appendChild 45 (.aload_n 0) 1 46 := ⟨by decide +kernel, rfl⟩
theorem o_appendChild_46 : InsA md_appendChild 46 (.getfield 74) 3 49 := ⟨by decide +kernel, rfl⟩
theorem o_appendChild_49 : InsA md_appendChild 49 (.bipush 16) 2 51 := ⟨by decide +kernel, rfl⟩
theorem o_appendChild_51 : InsA md_appendChild 51 (.imul) 1 52 := ⟨by decide +kernel, rfl⟩
theorem o_appendChild_52 : InsA md_appendChild 52 (.istore 6) 2 54 := ⟨by decide +kernel, rfl⟩
theorem o_appendChild_54 : InsA md_appendChild 54 (.iconst 0) 1 55 := ⟨by decide +kernel, rfl⟩
theorem o_appendChild_55 : InsA md_appendChild 55 (.istore 7) 2 57 := ⟨by decide +kernel, rfl⟩
theorem o_appendChild_57 : InsA md_appendChild 57 (.iload 7) 2 59 := ⟨by decide +kernel, rfl⟩
theorem o_appendChild_59 : InsA md_appendChild 59 (.iload 4) 2 61 := ⟨by decide +kernel, rfl⟩
theorem o_appendChild_61 : InsB md_appendChild 61 (.if_icmp .gt 36) 3 64 (36) 97 := ⟨by decide +kernel, rfl, by decide, by decide⟩
theorem o_appendChild_64 : InsA md_appendChild 64 (.iload 7) 2 66 := ⟨by decide +kernel, rfl⟩
theorem o_appendChild_66 : InsA md_appendChild 66 (.bipush 16) 2 68 := ⟨by decide +kernel, rfl⟩
theorem o_appendChild_68 : InsB md_appendChild 68 (.if_icmp .ge 29) 3 71 (29) 97 := ⟨by decide +kernel, rfl, by decide, by decide⟩
theorem o_appendChild_71 : InsA md_appendChild 71 (.aload_n 0) 1 72 := ⟨by decide +kernel, rfl⟩
theorem o_appendChild_72 : InsA md_appendChild 72 (.getfield 26) 3 75 := ⟨by decide +kernel, rfl⟩
theorem o_appendChild_75 : InsA md_appendChild 75 (.iload 6) 2 77 := ⟨by decide +kernel, rfl⟩
theorem o_appendChild_77 : InsA md_appendChild 77 (.iload 7) 2 79 := ⟨by decide +kernel, rfl⟩
theorem o_appendChild_79 : InsA md_appendChild 79 (.iadd) 1 80 := ⟨by decide +kernel, rfl⟩
theorem o_appendChild_80 : InsA md_appendChild 80 (.aload_n 0) 1 81 := ⟨by decide +kernel, rfl⟩
theorem o_appendChild_81 : InsA md_appendChild 81 (.getfield 26) 3 84 := ⟨by decide +kernel, rfl⟩
theorem o_appendChild_84 : InsA md_appendChild 84 (.iload 5) 2 86 := ⟨by decide +kernel, rfl⟩
theorem o_appendChild_86 : InsA md_appendChild 86 (.iload 7) 2 88 := ⟨by decide +kernel, rfl⟩
theorem o_appendChild_88 : InsA md_appendChild 88 (.iadd) 1 89 := ⟨by decide +kernel, rfl⟩
theorem o_appendChild_89 : InsA md_appendChild 89 (.iaload) 1 90 := ⟨by decide +kernel, rfl⟩
theorem o_appendChild_90 : InsA md_appendChild 90 (.iastore) 1 91 := ⟨by decide +kernel, rfl⟩
theorem o_appendChild_91 : InsA md_appendChild 91 (.iinc 7 1) 3 94 := ⟨by decide +kernel, rfl⟩
theorem o_appendChild_94 : InsB md_appendChild 94 (.goto (-37)) 3 97 (-37) 57 := ⟨by decide +kernel, rfl, by decide, by decide⟩
theorem o_appendChild_97 : InsA md_appendChild 97 (.aload_n 0) 1 98 := ⟨by decide +kernel, rfl⟩
theorem o_appendChild_98 : InsA md_appendChild 98 (.getfield 26) 3 101 := ⟨by decide +kernel, rfl⟩
theorem o_appendChild_101 : InsA md_appendChild 101 (.iload 6) 2 103 := ⟨by decide +kernel, rfl⟩
theorem o_appendChild_103 : InsA md_appendChild 103 (.iload 4) 2 105 := ⟨by decide +kernel, rfl⟩
theorem o_appendChild_105 : InsA md_appendChild 105 (.iadd) 1 106 := ⟨by decide +kernel, rfl⟩
theorem o_appendChild_106 : InsA md_appendChild 106 (.iconst 1) 1 107 := ⟨by decide +kernel, rfl⟩
theorem o_appendChild_107 : InsA md_appendChild 107 (.iadd) 1 108 := ⟨by decide +kernel, rfl⟩
theorem o_appendChild_108 : InsA md_appendChild 108 (.iload_n 2) 1 109 := ⟨by decide +kernel, rfl⟩
theorem o_appendChild_109 : InsA md_appendChild 109 (.iastore) 1 110 := ⟨by decide +kernel, rfl⟩
theorem o_appendChild_110 : InsA md_appendChild 110 (.aload_n 0) 1 111 := ⟨by decide +kernel, rfl⟩
theorem o_appendChild_111 : InsA md_appendChild 111 (.getfield 16) 3 114 := ⟨by decide +kernel, rfl⟩
theorem o_appendChild_114 : InsA md_appendChild 114 (.aload_n 0) 1 115 := ⟨by decide +kernel, rfl⟩
theorem o_appendChild_115 : InsA md_appendChild 115 (.getfield 74) 3 118 := ⟨by decide +kernel, rfl⟩
theorem o_appendChild_118 : InsA md_appendChild 118 (.iload_n 2) 1 119 := ⟨by decide +kernel, rfl⟩
theorem o_appendChild_119 : InsA md_appendChild 119 (.iastore) 1 120 := ⟨by decide +kernel, rfl⟩
theorem o_appendChild_120 : InsA md_appendChild 120 (.aload_n 0) 1 121 := ⟨by decide +kernel, rfl⟩
theorem o_appendChild_121 : InsA md_appendChild 121 (.getfield 20) 3 124 := ⟨by decide +kernel, rfl⟩
theorem o_appendChild_124 : InsA md_appendChild 124 (.aload_n 0) 1 125 := ⟨by decide +kernel, rfl⟩
theorem o_appendChild_125 : InsA md_appendChild 125 (.getfield 74) 3 128 := ⟨by decide +kernel, rfl⟩
theorem o_appendChild_128 : InsA md_appendChild 128 (.iload 4) 2 130 := ⟨by decide +kernel, rfl⟩
theorem o_appendChild_130 : InsA md_appendChild 130 (.iconst 1) 1 131 := ⟨by decide +kernel, rfl⟩
theorem o_appendChild_131 : InsA md_appendChild 131 (.iadd) 1 132 := ⟨by decide +kernel, rfl⟩
theorem o_appendChild_132 : InsA md_appendChild 132 (.iastore) 1 133 := ⟨by decide +kernel, rfl⟩
theorem o_appendChild_133 : InsA md_appendChild 133 (.aload_n 0) 1 134 := ⟨by decide +kernel, rfl⟩
theorem o_appendChild_134 : InsA md_appendChild 134 (.getfield 23) 3 137 := ⟨by decide +kernel, rfl⟩
theorem o_appendChild_137 : InsA md_appendChild 137 (.aload_n 0) 1 138 := ⟨by decide +kernel, rfl⟩
theorem o_appendChild_138 : InsA md_appendChild 138 (.getfield 74) 3 141 := ⟨by decide +kernel, rfl⟩
theorem o_appendChild_141 : InsA md_appendChild 141 (.iload_n 3) 1 142 := ⟨by decide +kernel, rfl⟩
theorem o_appendChild_142 : InsA md_appendChild 142 (.bastore) 1 143 := ⟨by decide +kernel, rfl⟩
theorem o_appendChild_143 : InsA md_appendChild 143 (.aload_n 0) 1 144 := ⟨by decide +kernel, rfl⟩
theorem o_appendChild_144 : InsA md_appendChild 144 (.dup) 1 145 := ⟨by decide +kernel, rfl⟩
theorem o_appendChild_145 : InsA md_appendChild 145 (.getfield 74) 3 148 := ⟨by decide +kernel, rfl⟩
theorem o_appendChild_148 : InsA md_appendChild 148 (.iconst 1) 1 149 := ⟨by decide +kernel, rfl⟩
theorem o_appendChild_149 : InsA md_appendChild 149 (.iadd) 1 150 := ⟨by decide +kernel, rfl⟩
theorem o_appendChild_150 : InsA md_appendChild 150 (.putfield 74) 3 153 := ⟨by decide +kernel, rfl⟩
theorem o_appendChild_153 : InsA md_appendChild 153 (.iconst 1) 1 154 := ⟨by decide +kernel, rfl⟩
theorem o_appendChild_154 : InsA md_appendChild 154 (.ireturn) 1 155 := ⟨by decide +kernel, rfl⟩
abbrev md_pathContains : MD := (⟨"RecursiveCte", "pathContains", "(II)Z"⟩, prog_1_method_18_code, 6, some .boolean, { frames := 0, cells := 0, slots := 0, locals := 0 }, 0)
theorem cv_pathContains {Z : State} {a0 : Array Value} (H : OK Z a0) : CalV Z a0 md_pathContains 2 := ⟨pn_RecursiveCte, by decide, pd__II_Z, H.w 189 rfl, H.w 191 rfl, H.w 2 rfl, Or.inr ⟨H.w 190 rfl, 21, H.w 1 rfl⟩⟩
theorem o_pathContains_0 : InsA md_pathContains 0 (.aload_n 0) 1 1 := ⟨by decide +kernel, rfl⟩
theorem o_pathContains_1 : InsA md_pathContains 1 (.getfield 20) 3 4 := ⟨by decide +kernel, rfl⟩
theorem o_pathContains_4 : InsA md_pathContains 4 (.iload_n 1) 1 5 := ⟨by decide +kernel, rfl⟩
theorem o_pathContains_5 : InsA md_pathContains 5 (.iaload) 1 6 := ⟨by decide +kernel, rfl⟩
theorem o_pathContains_6 : InsA md_pathContains 6 (.istore_n 3) 1 7 := ⟨by decide +kernel, rfl⟩
theorem o_pathContains_7 : InsA md_pathContains 7 (.iload_n 1) 1 8 := ⟨by decide +kernel, rfl⟩
theorem o_pathContains_8 : InsA md_pathContains 8 (.bipush 16) 2 10 := ⟨by decide +kernel, rfl⟩
theorem o_pathContains_10 : InsA md_pathContains 10 (.imul) 1 11 := ⟨by decide +kernel, rfl⟩
theorem o_pathContains_11 : InsA md_pathContains 11 (.istore 4) 2 13 := ⟨by decide +kernel, rfl⟩
theorem o_pathContains_13 : InsA md_pathContains 13 (.iconst 0) 1 14 := ⟨by decide +kernel, rfl⟩
theorem o_pathContains_14 : InsA md_pathContains 14 (.istore 5) 2 16 := ⟨by decide +kernel, rfl⟩
theorem o_pathContains_16 : InsA md_pathContains 16 (.iload 5) 2 18 := ⟨by decide +kernel, rfl⟩
theorem o_pathContains_18 : InsA md_pathContains 18 (.iload_n 3) 1 19 := ⟨by decide +kernel, rfl⟩
theorem o_pathContains_19 : InsB md_pathContains 19 (.if_icmp .gt 32) 3 22 (32) 51 := ⟨by decide +kernel, rfl, by decide, by decide⟩
theorem o_pathContains_22 : InsA md_pathContains 22 (.iload 5) 2 24 := ⟨by decide +kernel, rfl⟩
theorem o_pathContains_24 : InsA md_pathContains 24 (.bipush 16) 2 26 := ⟨by decide +kernel, rfl⟩
theorem o_pathContains_26 : InsB md_pathContains 26 (.if_icmp .ge 25) 3 29 (25) 51 := ⟨by decide +kernel, rfl, by decide, by decide⟩
theorem o_pathContains_29 : InsA md_pathContains 29 (.aload_n 0) 1 30 := ⟨by decide +kernel, rfl⟩
theorem o_pathContains_30 : InsA md_pathContains 30 (.getfield 26) 3 33 := ⟨by decide +kernel, rfl⟩
theorem o_pathContains_33 : InsA md_pathContains 33 (.iload 4) 2 35 := ⟨by decide +kernel, rfl⟩
theorem o_pathContains_35 : InsA md_pathContains 35 (.iload 5) 2 37 := ⟨by decide +kernel, rfl⟩
theorem o_pathContains_37 : InsA md_pathContains 37 (.iadd) 1 38 := ⟨by decide +kernel, rfl⟩
theorem o_pathContains_38 : InsA md_pathContains 38 (.iaload) 1 39 := ⟨by decide +kernel, rfl⟩
theorem o_pathContains_39 : InsA md_pathContains 39 (.iload_n 2) 1 40 := ⟨by decide +kernel, rfl⟩
theorem o_pathContains_40 : InsB md_pathContains 40 (.if_icmp .ne 5) 3 43 (5) 45 := ⟨by decide +kernel, rfl, by decide, by decide⟩
theorem o_pathContains_43 : InsA md_pathContains 43 (.iconst 1) 1 44 := ⟨by decide +kernel, rfl⟩
theorem o_pathContains_44 : InsA md_pathContains 44 (.ireturn) 1 45 := ⟨by decide +kernel, rfl⟩
theorem o_pathContains_45 : InsA md_pathContains 45 (.iinc 5 1) 3 48 := ⟨by decide +kernel, rfl⟩
theorem o_pathContains_48 : InsB md_pathContains 48 (.goto (-32)) 3 51 (-32) 16 := ⟨by decide +kernel, rfl, by decide, by decide⟩
theorem o_pathContains_51 : InsA md_pathContains 51 (.iconst 0) 1 52 := ⟨by decide +kernel, rfl⟩
theorem o_pathContains_52 : InsA md_pathContains 52 (.ireturn) 1 53 := ⟨by decide +kernel, rfl⟩
abbrev md_sortRows : MD := (⟨"RecursiveCte", "sortRows", "()V"⟩, prog_1_method_21_code, 3, none, { frames := 1, cells := 0, slots := 0, locals := 19 }, 0)
theorem cv_sortRows {Z : State} {a0 : Array Value} (H : OK Z a0) : CalV Z a0 md_sortRows 0 := ⟨pn_RecursiveCte, by decide, pd___V, H.w 193 rfl, H.w 195 rfl, H.w 2 rfl, Or.inr ⟨H.w 194 rfl, 21, H.w 1 rfl⟩⟩
theorem o_sortRows_0 : InsA md_sortRows 0 (.iconst 1) 1 1 := ⟨by decide +kernel, rfl⟩
theorem o_sortRows_1 : InsA md_sortRows 1 (.istore_n 1) 1 2 := ⟨by decide +kernel, rfl⟩
theorem o_sortRows_2 : InsA md_sortRows 2 (.iload_n 1) 1 3 := ⟨by decide +kernel, rfl⟩
theorem o_sortRows_3 : InsA md_sortRows 3 (.aload_n 0) 1 4 := ⟨by decide +kernel, rfl⟩
theorem o_sortRows_4 : InsA md_sortRows 4 (.getfield 74) 3 7 := ⟨by decide +kernel, rfl⟩
theorem o_sortRows_7 : InsB md_sortRows 7 (.if_icmp .ge 46) 3 10 (46) 53 := ⟨by decide +kernel, rfl, by decide, by decide⟩
theorem o_sortRows_10 : InsA md_sortRows 10 (.iload_n 1) 1 11 := ⟨by decide +kernel, rfl⟩
theorem o_sortRows_11 : InsA md_sortRows 11 (.bipush 64) 2 13 := ⟨by decide +kernel, rfl⟩
theorem o_sortRows_13 : InsB md_sortRows 13 (.if_icmp .ge 40) 3 16 (40) 53 := ⟨by decide +kernel, rfl, by decide, by decide⟩
theorem o_sortRows_16 : InsA md_sortRows 16 (.iload_n 1) 1 17 := ⟨by decide +kernel, rfl⟩
theorem o_sortRows_17 : InsA md_sortRows 17 (.istore_n 2) 1 18 := ⟨by decide +kernel, rfl⟩
theorem o_sortRows_18 : InsA md_sortRows 18 (.iload_n 2) 1 19 := ⟨by decide +kernel, rfl⟩
theorem o_sortRows_19 : InsB md_sortRows 19 (.ifCond .le 28) 3 22 (28) 47 := ⟨by decide +kernel, rfl, by decide, by decide⟩
theorem o_sortRows_22 : InsA md_sortRows 22 (.aload_n 0) 1 23 := ⟨by decide +kernel, rfl⟩
theorem o_sortRows_23 : InsA md_sortRows 23 (.iload_n 2) 1 24 := ⟨by decide +kernel, rfl⟩
theorem o_sortRows_24 : InsA md_sortRows 24 (.iload_n 2) 1 25 := ⟨by decide +kernel, rfl⟩
theorem o_sortRows_25 : InsA md_sortRows 25 (.iconst 1) 1 26 := ⟨by decide +kernel, rfl⟩
theorem o_sortRows_26 : InsA md_sortRows 26 (.isub) 1 27 := ⟨by decide +kernel, rfl⟩
theorem o_sortRows_27 : InsA md_sortRows 27 (.invokevirtual 126) 3 30 := ⟨by decide +kernel, rfl⟩
theorem o_sortRows_30 : InsB md_sortRows 30 (.ifCond .eq 17) 3 33 (17) 47 := ⟨by decide +kernel, rfl, by decide, by decide⟩
theorem o_sortRows_33 : InsA md_sortRows 33 (.aload_n 0) 1 34 := ⟨by decide +kernel, rfl⟩
theorem o_sortRows_34 : InsA md_sortRows 34 (.iload_n 2) 1 35 := ⟨by decide +kernel, rfl⟩
theorem o_sortRows_35 : InsA md_sortRows 35 (.iload_n 2) 1 36 := ⟨by decide +kernel, rfl⟩
theorem o_sortRows_36 : InsA md_sortRows 36 (.iconst 1) 1 37 := ⟨by decide +kernel, rfl⟩
theorem o_sortRows_37 : InsA md_sortRows 37 (.isub) 1 38 := ⟨by decide +kernel, rfl⟩
theorem o_sortRows_38 : InsA md_sortRows 38 (.invokevirtual 129) 3 41 := ⟨by decide +kernel, rfl⟩
theorem o_sortRows_41 : InsA md_sortRows 41 (.iinc 2 (-1)) 3 44 := ⟨by decide +kernel, rfl⟩
theorem o_sortRows_44 : InsB md_sortRows 44 (.goto (-26)) 3 47 (-26) 18 := ⟨by decide +kernel, rfl, by decide, by decide⟩
theorem o_sortRows_47 : InsA md_sortRows 47 (.iinc 1 1) 3 50 := ⟨by decide +kernel, rfl⟩
theorem o_sortRows_50 : InsB md_sortRows 50 (.goto (-48)) 3 53 (-48) 2 := ⟨by decide +kernel, rfl, by decide, by decide⟩
theorem o_sortRows_53 : InsA md_sortRows 53 (.return_) 1 54 := ⟨by decide +kernel, rfl⟩
abbrev md_pathLess : MD := (⟨"RecursiveCte", "pathLess", "(II)Z"⟩, prog_1_method_22_code, 8, some .boolean, { frames := 0, cells := 0, slots := 0, locals := 0 }, 0)
theorem cv_pathLess {Z : State} {a0 : Array Value} (H : OK Z a0) : CalV Z a0 md_pathLess 2 := ⟨pn_RecursiveCte, by decide, pd__II_Z, H.w 197 rfl, H.w 199 rfl, H.w 2 rfl, Or.inr ⟨H.w 198 rfl, 21, H.w 1 rfl⟩⟩
theorem o_pathLess_0 : InsA md_pathLess 0 (.aload_n 0) 1 1 := ⟨by decide +kernel, rfl⟩
theorem o_pathLess_1 : InsA md_pathLess 1 (.getfield 20) 3 4 := ⟨by decide +kernel, rfl⟩
theorem o_pathLess_4 : InsA md_pathLess 4 (.iload_n 1) 1 5 := ⟨by decide +kernel, rfl⟩
theorem o_pathLess_5 : InsA md_pathLess 5 (.iaload) 1 6 := ⟨by decide +kernel, rfl⟩
theorem o_pathLess_6 : InsA md_pathLess 6 (.istore_n 3) 1 7 := ⟨by decide +kernel, rfl⟩
theorem o_pathLess_7 : InsA md_pathLess 7 (.aload_n 0) 1 8 := ⟨by decide +kernel, rfl⟩
theorem o_pathLess_8 : InsA md_pathLess 8 (.getfield 20) 3 11 := ⟨by decide +kernel, rfl⟩
theorem o_pathLess_11 : InsA md_pathLess 11 (.iload_n 2) 1 12 := ⟨by decide +kernel, rfl⟩
theorem o_pathLess_12 : InsA md_pathLess 12 (.iaload) 1 13 := ⟨by decide +kernel, rfl⟩
theorem o_pathLess_13 : InsA md_pathLess 13 (.istore 4) 2 15 := ⟨by decide +kernel, rfl⟩
theorem o_pathLess_15 : InsA md_pathLess 15 (.iconst 0) 1 16 := ⟨by decide +kernel, rfl⟩
theorem o_pathLess_16 : InsA md_pathLess 16 (.istore 5) 2 18 := ⟨by decide +kernel, rfl⟩
theorem o_pathLess_18 : InsA md_pathLess 18 (.iload 5) 2 20 := ⟨by decide +kernel, rfl⟩
theorem o_pathLess_20 : InsA md_pathLess 20 (.iload_n 3) 1 21 := ⟨by decide +kernel, rfl⟩
theorem o_pathLess_21 : InsB md_pathLess 21 (.if_icmp .gt 71) 3 24 (71) 92 := ⟨by decide +kernel, rfl, by decide, by decide⟩
theorem o_pathLess_24 : InsA md_pathLess 24 (.iload 5) 2 26 := ⟨by decide +kernel, rfl⟩
theorem o_pathLess_26 : InsA md_pathLess 26 (.iload 4) 2 28 := ⟨by decide +kernel, rfl⟩
theorem o_pathLess_28 : InsB md_pathLess 28 (.if_icmp .gt 64) 3 31 (64) 92 := ⟨by decide +kernel, rfl, by decide, by decide⟩
theorem o_pathLess_31 : InsA md_pathLess 31 (.iload 5) 2 33 := ⟨by decide +kernel, rfl⟩
theorem o_pathLess_33 : InsA md_pathLess 33 (.bipush 16) 2 35 := ⟨by decide +kernel, rfl⟩
theorem o_pathLess_35 : InsB md_pathLess 35 (.if_icmp .ge 57) 3 38 (57) 92 := ⟨by decide +kernel, rfl, by decide, by decide⟩
theorem o_pathLess_38 : InsA md_pathLess 38 (.aload_n 0) 1 39 := ⟨by decide +kernel, rfl⟩
theorem o_pathLess_39 : InsA md_pathLess 39 (.getfield 26) 3 42 := ⟨by decide +kernel, rfl⟩
theorem o_pathLess_42 : InsA md_pathLess 42 (.iload_n 1) 1 43 := ⟨by decide +kernel, rfl⟩
theorem o_pathLess_43 : InsA md_pathLess 43 (.bipush 16) 2 45 := ⟨by decide +kernel, rfl⟩
theorem o_pathLess_45 : InsA md_pathLess 45 (.imul) 1 46 := ⟨by decide +kernel, rfl⟩
theorem o_pathLess_46 : InsA md_pathLess 46 (.iload 5) 2 48 := ⟨by decide +kernel, rfl⟩
theorem o_pathLess_48 : InsA md_pathLess 48 (.iadd) 1 49 := ⟨by decide +kernel, rfl⟩
theorem o_pathLess_49 : InsA md_pathLess 49 (.iaload) 1 50 := ⟨by decide +kernel, rfl⟩
theorem o_pathLess_50 : InsA md_pathLess 50 (.istore 6) 2 52 := ⟨by decide +kernel, rfl⟩
theorem o_pathLess_52 : InsA md_pathLess 52 (.aload_n 0) 1 53 := ⟨by decide +kernel, rfl⟩
theorem o_pathLess_53 : InsA md_pathLess 53 (.getfield 26) 3 56 := ⟨by decide +kernel, rfl⟩
theorem o_pathLess_56 : InsA md_pathLess 56 (.iload_n 2) 1 57 := ⟨by decide +kernel, rfl⟩
theorem o_pathLess_57 : InsA md_pathLess 57 (.bipush 16) 2 59 := ⟨by decide +kernel, rfl⟩
theorem o_pathLess_59 : InsA md_pathLess 59 (.imul) 1 60 := ⟨by decide +kernel, rfl⟩
theorem o_pathLess_60 : InsA md_pathLess 60 (.iload 5) 2 62 := ⟨by decide +kernel, rfl⟩
theorem o_pathLess_62 : InsA md_pathLess 62 (.iadd) 1 63 := ⟨by decide +kernel, rfl⟩
theorem o_pathLess_63 : InsA md_pathLess 63 (.iaload) 1 64 := ⟨by decide +kernel, rfl⟩
theorem o_pathLess_64 : InsA md_pathLess 64 (.istore 7) 2 66 := ⟨by decide +kernel, rfl⟩
theorem o_pathLess_66 : InsA md_pathLess 66 (.iload 6) 2 68 := ⟨by decide +kernel, rfl⟩
theorem o_pathLess_68 : InsA md_pathLess 68 (.iload 7) 2 70 := ⟨by decide +kernel, rfl⟩
theorem o_pathLess_70 : InsB md_pathLess 70 (.if_icmp .eq 16) 3 73 (16) 86 := ⟨by decide +kernel, rfl, by decide, by decide⟩
theorem o_pathLess_73 : InsA md_pathLess 73 (.iload 6) 2 75 := ⟨by decide +kernel, rfl⟩
theorem o_pathLess_75 : InsA md_pathLess 75 (.iload 7) 2 77 := ⟨by decide +kernel, rfl⟩
theorem o_pathLess_77 : InsB md_pathLess 77 (.if_icmp .ge 7) 3 80 (7) 84 := ⟨by decide +kernel, rfl, by decide, by decide⟩
theorem o_pathLess_80 : InsA md_pathLess 80 (.iconst 1) 1 81 := ⟨by decide +kernel, rfl⟩
theorem o_pathLess_81 : InsB md_pathLess 81 (.goto 4) 3 84 (4) 85 := ⟨by decide +kernel, rfl, by decide, by decide⟩
theorem o_pathLess_84 : InsA md_pathLess 84 (.iconst 0) 1 85 := ⟨by decide +kernel, rfl⟩
theorem o_pathLess_85 : InsA md_pathLess 85 (.ireturn) 1 86 := ⟨by decide +kernel, rfl⟩
theorem o_pathLess_86 : InsA md_pathLess 86 (.iinc 5 1) 3 89 := ⟨by decide +kernel, rfl⟩
theorem o_pathLess_89 : InsB md_pathLess 89 (.goto (-71)) 3 92 (-71) 18 := ⟨by decide +kernel, rfl, by decide, by decide⟩
theorem o_pathLess_92 : InsA md_pathLess 92 (.iload_n 3) 1 93 := ⟨by decide +kernel, rfl⟩
theorem o_pathLess_93 : InsA md_pathLess 93 (.iload 4) 2 95 := ⟨by decide +kernel, rfl⟩
theorem o_pathLess_95 : InsB md_pathLess 95 (.if_icmp .ge 7) 3 98 (7) 102 := ⟨by decide +kernel, rfl, by decide, by decide⟩
theorem o_pathLess_98 : InsA md_pathLess 98 (.iconst 1) 1 99 := ⟨by decide +kernel, rfl⟩
theorem o_pathLess_99 : InsB md_pathLess 99 (.goto 4) 3 102 (4) 103 := ⟨by decide +kernel, rfl, by decide, by decide⟩
theorem o_pathLess_102 : InsA md_pathLess 102 (.iconst 0) 1 103 := ⟨by decide +kernel, rfl⟩
theorem o_pathLess_103 : InsA md_pathLess 103 (.ireturn) 1 104 := ⟨by decide +kernel, rfl⟩
abbrev md_onStack : MD := (⟨"RecursiveCte", "onStack", "(II)Z"⟩, prog_1_method_14_code, 4, some .boolean, { frames := 0, cells := 0, slots := 0, locals := 0 }, 0)
theorem cv_onStack {Z : State} {a0 : Array Value} (H : OK Z a0) : CalV Z a0 md_onStack 2 := ⟨pn_RecursiveCte, by decide, pd__II_Z, H.w 201 rfl, H.w 203 rfl, H.w 2 rfl, Or.inr ⟨H.w 202 rfl, 21, H.w 1 rfl⟩⟩
theorem o_onStack_0 : InsA md_onStack 0 (.iconst 0) 1 1 := ⟨by decide +kernel, rfl⟩
theorem o_onStack_1 : InsA md_onStack 1 (.istore_n 3) 1 2 := ⟨by decide +kernel, rfl⟩
theorem o_onStack_2 : InsA md_onStack 2 (.iload_n 3) 1 3 := ⟨by decide +kernel, rfl⟩
theorem o_onStack_3 : InsA md_onStack 3 (.iload_n 2) 1 4 := ⟨by decide +kernel, rfl⟩
theorem o_onStack_4 : InsB md_onStack 4 (.if_icmp .gt 27) 3 7 (27) 31 := ⟨by decide +kernel, rfl, by decide, by decide⟩
theorem o_onStack_7 : InsA md_onStack 7 (.iload_n 3) 1 8 := ⟨by decide +kernel, rfl⟩
theorem o_onStack_8 : InsA md_onStack 8 (.bipush 16) 2 10 := ⟨by decide +kernel, rfl⟩
theorem o_onStack_10 : InsB md_onStack 10 (.if_icmp .ge 21) 3 13 (21) 31 := ⟨by decide +kernel, rfl, by decide, by decide⟩
theorem o_onStack_13 : InsA md_onStack 13 (.aload_n 0) 1 14 := ⟨by decide +kernel, rfl⟩
theorem o_onStack_14 : InsA md_onStack 14 (.getfield 29) 3 17 := ⟨by decide +kernel, rfl⟩
theorem o_onStack_17 : InsA md_onStack 17 (.iload_n 3) 1 18 := ⟨by decide +kernel, rfl⟩
theorem o_onStack_18 : InsA md_onStack 18 (.iaload) 1 19 := ⟨by decide +kernel, rfl⟩
theorem o_onStack_19 : InsA md_onStack 19 (.iload_n 1) 1 20 := ⟨by decide +kernel, rfl⟩
theorem o_onStack_20 : InsB md_onStack 20 (.if_icmp .ne 5) 3 23 (5) 25 := ⟨by decide +kernel, rfl, by decide, by decide⟩
theorem o_onStack_23 : InsA md_onStack 23 (.iconst 1) 1 24 := ⟨by decide +kernel, rfl⟩
theorem o_onStack_24 : InsA md_onStack 24 (.ireturn) 1 25 := ⟨by decide +kernel, rfl⟩
theorem o_onStack_25 : InsA md_onStack 25 (.iinc 3 1) 3 28 := ⟨by decide +kernel, rfl⟩
theorem o_onStack_28 : InsB md_onStack 28 (.goto (-26)) 3 31 (-26) 2 := ⟨by decide +kernel, rfl, by decide, by decide⟩
theorem o_onStack_31 : InsA md_onStack 31 (.iconst 0) 1 32 := ⟨by decide +kernel, rfl⟩
theorem o_onStack_32 : InsA md_onStack 32 (.ireturn) 1 33 := ⟨by decide +kernel, rfl⟩
abbrev md_swapRows : MD := (⟨"RecursiveCte", "swapRows", "(II)V"⟩, prog_1_method_23_code, 8, none, { frames := 0, cells := 0, slots := 0, locals := 0 }, 0)
theorem cv_swapRows {Z : State} {a0 : Array Value} (H : OK Z a0) : CalV Z a0 md_swapRows 2 := ⟨pn_RecursiveCte, by decide, pd__II_V, H.w 205 rfl, H.w 207 rfl, H.w 2 rfl, Or.inr ⟨H.w 206 rfl, 21, H.w 1 rfl⟩⟩
theorem o_swapRows_0 : InsA md_swapRows 0 (.aload_n 0) 1 1 := ⟨by decide +kernel, rfl⟩
theorem o_swapRows_1 : InsA md_swapRows 1 (.getfield 16) 3 4 := ⟨by decide +kernel, rfl⟩
theorem o_swapRows_4 : InsA md_swapRows 4 (.iload_n 1) 1 5 := ⟨by decide +kernel, rfl⟩
theorem o_swapRows_5 : InsA md_swapRows 5 (.iaload) 1 6 := ⟨by decide +kernel, rfl⟩
theorem o_swapRows_6 : InsA md_swapRows 6 (.istore_n 3) 1 7 := ⟨by decide +kernel, rfl⟩
theorem o_swapRows_7 : InsA md_swapRows 7 (.aload_n 0) 1 8 := ⟨by decide +kernel, rfl⟩
theorem o_swapRows_8 : InsA md_swapRows 8 (.getfield 16) 3 11 := ⟨by decide +kernel, rfl⟩
theorem o_swapRows_11 : InsA md_swapRows 11 (.iload_n 1) 1 12 := ⟨by decide +kernel, rfl⟩
theorem o_swapRows_12 : InsA md_swapRows 12 (.aload_n 0) 1 13 := ⟨by decide +kernel, rfl⟩
theorem o_swapRows_13 : InsA md_swapRows 13 (.getfield 16) 3 16 := ⟨by decide +kernel, rfl⟩
theorem o_swapRows_16 : InsA md_swapRows 16 (.iload_n 2) 1 17 := ⟨by decide +kernel, rfl⟩
theorem o_swapRows_17 : InsA md_swapRows 17 (.iaload) 1 18 := ⟨by decide +kernel, rfl⟩
theorem o_swapRows_18 : InsA md_swapRows 18 (.iastore) 1 19 := ⟨by decide +kernel, rfl⟩
theorem o_swapRows_19 : InsA md_swapRows 19 (.aload_n 0) 1 20 := ⟨by decide +kernel, rfl⟩
theorem o_swapRows_20 : InsA md_swapRows 20 (.getfield 16) 3 23 := ⟨by decide +kernel, rfl⟩
theorem o_swapRows_23 : InsA md_swapRows 23 (.iload_n 2) 1 24 := ⟨by decide +kernel, rfl⟩
theorem o_swapRows_24 : InsA md_swapRows 24 (.iload_n 3) 1 25 := ⟨by decide +kernel, rfl⟩
theorem o_swapRows_25 : InsA md_swapRows 25 (.iastore) 1 26 := ⟨by decide +kernel, rfl⟩
theorem o_swapRows_26 : InsA md_swapRows 26 (.aload_n 0) 1 27 := ⟨by decide +kernel, rfl⟩
theorem o_swapRows_27 : InsA md_swapRows 27 (.getfield 20) 3 30 := ⟨by decide +kernel, rfl⟩
theorem o_swapRows_30 : InsA md_swapRows 30 (.iload_n 1) 1 31 := ⟨by decide +kernel, rfl⟩
theorem o_swapRows_31 : InsA md_swapRows 31 (.iaload) 1 32 := ⟨by decide +kernel, rfl⟩
theorem o_swapRows_32 : InsA md_swapRows 32 (.istore 4) 2 34 := ⟨by decide +kernel, rfl⟩
theorem o_swapRows_34 : InsA md_swapRows 34 (.aload_n 0) 1 35 := ⟨by decide +kernel, rfl⟩
theorem o_swapRows_35 : InsA md_swapRows 35 (.getfield 20) 3 38 := ⟨by decide +kernel, rfl⟩
theorem o_swapRows_38 : InsA md_swapRows 38 (.iload_n 1) 1 39 := ⟨by decide +kernel, rfl⟩
theorem o_swapRows_39 : InsA md_swapRows 39 (.aload_n 0) 1 40 := ⟨by decide +kernel, rfl⟩
theorem o_swapRows_40 : InsA md_swapRows 40 (.getfield 20) 3 43 := ⟨by decide +kernel, rfl⟩
theorem o_swapRows_43 : InsA md_swapRows 43 (.iload_n 2) 1 44 := ⟨by decide +kernel, rfl⟩
theorem o_swapRows_44 : InsA md_swapRows 44 (.iaload) 1 45 := ⟨by decide +kernel, rfl⟩
theorem o_swapRows_45 : InsA md_swapRows 45 (.iastore) 1 46 := ⟨by decide +kernel, rfl⟩
theorem o_swapRows_46 : InsA md_swapRows 46 (.aload_n 0) 1 47 := ⟨by decide +kernel, rfl⟩
theorem o_swapRows_47 : InsA md_swapRows 47 (.getfield 20) 3 50 := ⟨by decide +kernel, rfl⟩
theorem o_swapRows_50 : InsA md_swapRows 50 (.iload_n 2) 1 51 := ⟨by decide +kernel, rfl⟩
theorem o_swapRows_51 : InsA md_swapRows 51 (.iload 4) 2 53 := ⟨by decide +kernel, rfl⟩
theorem o_swapRows_53 : InsA md_swapRows 53 (.iastore) 1 54 := ⟨by decide +kernel, rfl⟩
theorem o_swapRows_54 : InsA md_swapRows 54 (.aload_n 0) 1 55 := ⟨by decide +kernel, rfl⟩
theorem o_swapRows_55 : InsA md_swapRows 55 (.getfield 23) 3 58 := ⟨by decide +kernel, rfl⟩
theorem o_swapRows_58 : InsA md_swapRows 58 (.iload_n 1) 1 59 := ⟨by decide +kernel, rfl⟩
theorem o_swapRows_59 : InsA md_swapRows 59 (.baload) 1 60 := ⟨by decide +kernel, rfl⟩
theorem o_swapRows_60 : InsA md_swapRows 60 (.istore 5) 2 62 := ⟨by decide +kernel, rfl⟩
theorem o_swapRows_62 : InsA md_swapRows 62 (.aload_n 0) 1 63 := ⟨by decide +kernel, rfl⟩
theorem o_swapRows_63 : InsA md_swapRows 63 (.getfield 23) 3 66 := ⟨by decide +kernel, rfl⟩
theorem o_swapRows_66 : InsA md_swapRows 66 (.iload_n 1) 1 67 := ⟨by decide +kernel, rfl⟩
theorem o_swapRows_67 : InsA md_swapRows 67 (.aload_n 0) 1 68 := ⟨by decide +kernel, rfl⟩
theorem o_swapRows_68 : InsA md_swapRows 68 (.getfield 23) 3 71 := ⟨by decide +kernel, rfl⟩
theorem o_swapRows_71 : InsA md_swapRows 71 (.iload_n 2) 1 72 := ⟨by decide +kernel, rfl⟩
theorem o_swapRows_72 : InsA md_swapRows 72 (.baload) 1 73 := ⟨by decide +kernel, rfl⟩
theorem o_swapRows_73 : InsA md_swapRows 73 (.bastore) 1 74 := ⟨by decide +kernel, rfl⟩
theorem o_swapRows_74 : InsA md_swapRows 74 (.aload_n 0) 1 75 := ⟨by decide +kernel, rfl⟩
theorem o_swapRows_75 : InsA md_swapRows 75 (.getfield 23) 3 78 := ⟨by decide +kernel, rfl⟩
theorem o_swapRows_78 : InsA md_swapRows 78 (.iload_n 2) 1 79 := ⟨by decide +kernel, rfl⟩
theorem o_swapRows_79 : InsA md_swapRows 79 (.iload 5) 2 81 := ⟨by decide +kernel, rfl⟩
theorem o_swapRows_81 : InsA md_swapRows 81 (.bastore) 1 82 := ⟨by decide +kernel, rfl⟩
theorem o_swapRows_82 : InsA md_swapRows 82 (.iconst 0) 1 83 := ⟨by decide +kernel, rfl⟩
theorem o_swapRows_83 : InsA md_swapRows 83 (.istore 6) 2 85 := ⟨by decide +kernel, rfl⟩
theorem o_swapRows_85 : InsA md_swapRows 85 (.iload 6) 2 87 := ⟨by decide +kernel, rfl⟩
theorem o_swapRows_87 : InsA md_swapRows 87 (.bipush 16) 2 89 := ⟨by decide +kernel, rfl⟩
theorem o_swapRows_89 : InsB md_swapRows 89 (.if_icmp .ge 61) 3 92 (61) 150 := ⟨by decide +kernel, rfl, by decide, by decide⟩
theorem o_swapRows_92 : InsA md_swapRows 92 (.aload_n 0) 1 93 := ⟨by decide +kernel, rfl⟩
theorem o_swapRows_93 : InsA md_swapRows 93 (.getfield 26) 3 96 := ⟨by decide +kernel, rfl⟩
theorem o_swapRows_96 : InsA md_swapRows 96 (.iload_n 1) 1 97 := ⟨by decide +kernel, rfl⟩
theorem o_swapRows_97 : InsA md_swapRows 97 (.bipush 16) 2 99 := ⟨by decide +kernel, rfl⟩
theorem o_swapRows_99 : InsA md_swapRows 99 (.imul) 1 100 := ⟨by decide +kernel, rfl⟩
theorem o_swapRows_100 : InsA md_swapRows 100 (.iload 6) 2 102 := ⟨by decide +kernel, rfl⟩
theorem o_swapRows_102 : InsA md_swapRows 102 (.iadd) 1 103 := ⟨by decide +kernel, rfl⟩
theorem o_swapRows_103 : InsA md_swapRows 103 (.iaload) 1 104 := ⟨by decide +kernel, rfl⟩
theorem o_swapRows_104 : InsA md_swapRows 104 (.istore 7) 2 106 := ⟨by decide +kernel, rfl⟩
theorem o_swapRows_106 : InsA md_swapRows 106 (.aload_n 0) 1 107 := ⟨by decide +kernel, rfl⟩
theorem o_swapRows_107 : InsA md_swapRows 107 (.getfield 26) 3 110 := ⟨by decide +kernel, rfl⟩
theorem o_swapRows_110 : InsA md_swapRows 110 (.iload_n 1) 1 111 := ⟨by decide +kernel, rfl⟩
theorem o_swapRows_111 : InsA md_swapRows 111 (.bipush 16) 2 113 := ⟨by decide +kernel, rfl⟩
theorem o_swapRows_113 : InsA md_swapRows 113 (.imul) 1 114 := ⟨by decide +kernel, rfl⟩
theorem o_swapRows_114 : InsA md_swapRows 114 (.iload 6) 2 116 := ⟨by decide +kernel, rfl⟩
theorem o_swapRows_116 : InsA md_swapRows 116 (.iadd) 1 117 := ⟨by decide +kernel, rfl⟩
theorem o_swapRows_117 : InsA md_swapRows 117 (.aload_n 0) 1 118 := ⟨by decide +kernel, rfl⟩
theorem o_swapRows_118 : InsA md_swapRows 118 (.getfield 26) 3 121 := ⟨by decide +kernel, rfl⟩
theorem o_swapRows_121 : InsA md_swapRows 121 (.iload_n 2) 1 122 := ⟨by decide +kernel, rfl⟩
theorem o_swapRows_122 : InsA md_swapRows 122 (.bipush 16) 2 124 := ⟨by decide +kernel, rfl⟩
theorem o_swapRows_124 : InsA md_swapRows 124 (.imul) 1 125 := ⟨by decide +kernel, rfl⟩
theorem o_swapRows_125 : InsA md_swapRows 125 (.iload 6) 2 127 := ⟨by decide +kernel, rfl⟩
theorem o_swapRows_127 : InsA md_swapRows 127 (.iadd) 1 128 := ⟨by decide +kernel, rfl⟩
theorem o_swapRows_128 : InsA md_swapRows 128 (.iaload) 1 129 := ⟨by decide +kernel, rfl⟩
theorem o_swapRows_129 : InsA md_swapRows 129 (.iastore) 1 130 := ⟨by decide +kernel, rfl⟩
theorem o_swapRows_130 : InsA md_swapRows 130 (.aload_n 0) 1 131 := ⟨by decide +kernel, rfl⟩
theorem o_swapRows_131 : InsA md_swapRows 131 (.getfield 26) 3 134 := ⟨by decide +kernel, rfl⟩
theorem o_swapRows_134 : InsA md_swapRows 134 (.iload_n 2) 1 135 := ⟨by decide +kernel, rfl⟩
theorem o_swapRows_135 : InsA md_swapRows 135 (.bipush 16) 2 137 := ⟨by decide +kernel, rfl⟩
theorem o_swapRows_137 : InsA md_swapRows 137 (.imul) 1 138 := ⟨by decide +kernel, rfl⟩
theorem o_swapRows_138 : InsA md_swapRows 138 (.iload 6) 2 140 := ⟨by decide +kernel, rfl⟩
theorem o_swapRows_140 : InsA md_swapRows 140 (.iadd) 1 141 := ⟨by decide +kernel, rfl⟩
theorem o_swapRows_141 : InsA md_swapRows 141 (.iload 7) 2 143 := ⟨by decide +kernel, rfl⟩
theorem o_swapRows_143 : InsA md_swapRows 143 (.iastore) 1 144 := ⟨by decide +kernel, rfl⟩
theorem o_swapRows_144 : InsA md_swapRows 144 (.iinc 6 1) 3 147 := ⟨by decide +kernel, rfl⟩
theorem o_swapRows_147 : InsB md_swapRows 147 (.goto (-62)) 3 150 (-62) 85 := ⟨by decide +kernel, rfl, by decide, by decide⟩
theorem o_swapRows_150 : InsA md_swapRows 150 (.return_) 1 151 := ⟨by decide +kernel, rfl⟩
abbrev md_L_law : MD := (x, code, maxLocals, ret, room_1, 11)
theorem o_L_law_0 : InsA md_L_law 0 (.new 8) 3 3 := ⟨at_0, rfl⟩
theorem o_L_law_3 : InsA md_L_law 3 (.dup) 1 4 := ⟨at_3, rfl⟩
theorem o_L_law_4 : InsA md_L_law 4 (.bipush 6) 2 6 := ⟨at_4, rfl⟩
theorem o_L_law_6 : InsA md_L_law 6 (.bipush 10) 2 8 := ⟨at_6, rfl⟩
theorem o_L_law_8 : InsA md_L_law 8 (.bipush 24) 2 10 := ⟨at_8, rfl⟩
theorem o_L_law_10 : InsA md_L_law 10 (.invokespecial 48) 3 13 := ⟨at_10, rfl⟩
theorem o_L_law_13 : InsA md_L_law 13 (.astore_n 1) 1 14 := ⟨at_13, rfl⟩
theorem o_L_law_14 : InsA md_L_law 14 (.iconst 0) 1 15 := ⟨at_14, rfl⟩
theorem o_L_law_15 : InsA md_L_law 15 (.istore_n 2) 1 16 := ⟨at_15, rfl⟩
theorem o_L_law_16 : InsA md_L_law 16 (.iload_n 2) 1 17 := ⟨at_16, rfl⟩
theorem o_L_law_17 : InsA md_L_law 17 (.iconst 4) 1 18 := ⟨at_17, rfl⟩
theorem o_L_law_18 : InsA md_L_law 18 (.iadd) 1 19 := ⟨at_18, rfl⟩
theorem o_L_law_19 : InsA md_L_law 19 (.aload_n 0) 1 20 := ⟨at_19, rfl⟩
theorem o_L_law_20 : InsA md_L_law 20 (.arraylength) 1 21 := ⟨at_20, rfl⟩
theorem o_L_law_21 : InsB md_L_law 21 (.if_icmp .ge 235) 3 24 (235) 256 := ⟨at_21, rfl, by decide, by decide⟩
theorem o_L_law_24 : InsA md_L_law 24 (.aload_n 0) 1 25 := ⟨at_24, rfl⟩
theorem o_L_law_25 : InsA md_L_law 25 (.iload_n 2) 1 26 := ⟨at_25, rfl⟩
theorem o_L_law_26 : InsA md_L_law 26 (.iaload) 1 27 := ⟨at_26, rfl⟩
theorem o_L_law_27 : InsA md_L_law 27 (.bipush 7) 2 29 := ⟨at_27, rfl⟩
theorem o_L_law_29 : InsA md_L_law 29 (.iand) 1 30 := ⟨at_29, rfl⟩
theorem o_L_law_30 : InsA md_L_law 30 (.istore_n 3) 1 31 := ⟨at_30, rfl⟩
theorem o_L_law_31 : InsA md_L_law 31 (.aload_n 0) 1 32 := ⟨at_31, rfl⟩
theorem o_L_law_32 : InsA md_L_law 32 (.iload_n 2) 1 33 := ⟨at_32, rfl⟩
theorem o_L_law_33 : InsA md_L_law 33 (.iconst 1) 1 34 := ⟨at_33, rfl⟩
theorem o_L_law_34 : InsA md_L_law 34 (.iadd) 1 35 := ⟨at_34, rfl⟩
theorem o_L_law_35 : InsA md_L_law 35 (.iaload) 1 36 := ⟨at_35, rfl⟩
theorem o_L_law_36 : InsA md_L_law 36 (.ldc 51) 2 38 := ⟨at_36, rfl⟩
theorem o_L_law_38 : InsA md_L_law 38 (.iand) 1 39 := ⟨at_38, rfl⟩
theorem o_L_law_39 : InsA md_L_law 39 (.bipush 7) 2 41 := ⟨at_39, rfl⟩
theorem o_L_law_41 : InsA md_L_law 41 (.irem) 1 42 := ⟨at_41, rfl⟩
theorem o_L_law_42 : InsA md_L_law 42 (.istore 4) 2 44 := ⟨at_42, rfl⟩
theorem o_L_law_44 : InsA md_L_law 44 (.aload_n 0) 1 45 := ⟨at_44, rfl⟩
theorem o_L_law_45 : InsA md_L_law 45 (.iload_n 2) 1 46 := ⟨at_45, rfl⟩
theorem o_L_law_46 : InsA md_L_law 46 (.iconst 2) 1 47 := ⟨at_46, rfl⟩
theorem o_L_law_47 : InsA md_L_law 47 (.iadd) 1 48 := ⟨at_47, rfl⟩
theorem o_L_law_48 : InsA md_L_law 48 (.iaload) 1 49 := ⟨at_48, rfl⟩
theorem o_L_law_49 : InsA md_L_law 49 (.ldc 51) 2 51 := ⟨at_49, rfl⟩
theorem o_L_law_51 : InsA md_L_law 51 (.iand) 1 52 := ⟨at_51, rfl⟩
theorem o_L_law_52 : InsA md_L_law 52 (.bipush 7) 2 54 := ⟨at_52, rfl⟩
theorem o_L_law_54 : InsA md_L_law 54 (.irem) 1 55 := ⟨at_54, rfl⟩
theorem o_L_law_55 : InsA md_L_law 55 (.istore 5) 2 57 := ⟨at_55, rfl⟩
theorem o_L_law_57 : InsA md_L_law 57 (.aload_n 0) 1 58 := ⟨at_57, rfl⟩
theorem o_L_law_58 : InsA md_L_law 58 (.iload_n 2) 1 59 := ⟨at_58, rfl⟩
theorem o_L_law_59 : InsA md_L_law 59 (.iconst 3) 1 60 := ⟨at_59, rfl⟩
theorem o_L_law_60 : InsA md_L_law 60 (.iadd) 1 61 := ⟨at_60, rfl⟩
theorem o_L_law_61 : InsA md_L_law 61 (.iaload) 1 62 := ⟨at_61, rfl⟩
theorem o_L_law_62 : InsA md_L_law 62 (.istore 6) 2 64 := ⟨at_62, rfl⟩
theorem o_L_law_64 : InsA md_L_law 64 (.aload_n 0) 1 65 := ⟨at_64, rfl⟩
theorem o_L_law_65 : InsA md_L_law 65 (.iload_n 2) 1 66 := ⟨at_65, rfl⟩
theorem o_L_law_66 : InsA md_L_law 66 (.iconst 4) 1 67 := ⟨at_66, rfl⟩
theorem o_L_law_67 : InsA md_L_law 67 (.iadd) 1 68 := ⟨at_67, rfl⟩
theorem o_L_law_68 : InsA md_L_law 68 (.iaload) 1 69 := ⟨at_68, rfl⟩
theorem o_L_law_69 : InsA md_L_law 69 (.istore 7) 2 71 := ⟨at_69, rfl⟩
theorem o_L_law_71 : InsA md_L_law 71 (.aload_n 1) 1 72 := ⟨at_71, rfl⟩
theorem o_L_law_72 : InsA md_L_law 72 (.invokestatic 52) 3 75 := ⟨at_72, rfl⟩
theorem o_L_law_75 : InsA md_L_law 75 (.lstore 8) 2 77 := ⟨at_75, rfl⟩
theorem o_L_law_77 : InsA md_L_law 77 (.aload_n 1) 1 78 := ⟨at_77, rfl⟩
theorem o_L_law_78 : InsA md_L_law 78 (.invokevirtual 7) 3 81 := ⟨at_78, rfl⟩
theorem o_L_law_81 : InsA md_L_law 81 (.istore 10) 2 83 := ⟨at_81, rfl⟩
theorem o_L_law_83 : InsA md_L_law 83 (.iload_n 3) 1 84 := ⟨at_83, rfl⟩
theorem o_L_law_84 : InsA md_L_law 84 (.iconst 1) 1 85 := ⟨at_84, rfl⟩
theorem o_L_law_85 : InsB md_L_law 85 (.if_icmp .gt 16) 3 88 (16) 101 := ⟨at_85, rfl, by decide, by decide⟩
theorem o_L_law_88 : InsA md_L_law 88 (.aload_n 1) 1 89 := ⟨at_88, rfl⟩
theorem o_L_law_89 : InsA md_L_law 89 (.iload 4) 2 91 := ⟨at_89, rfl⟩
theorem o_L_law_91 : InsA md_L_law 91 (.iload 5) 2 93 := ⟨at_91, rfl⟩
theorem o_L_law_93 : InsA md_L_law 93 (.invokevirtual 58) 3 96 := ⟨at_93, rfl⟩
theorem o_L_law_96 : InsA md_L_law 96 (.istore 11) 2 98 := ⟨at_96, rfl⟩
theorem o_L_law_98 : InsB md_L_law 98 (.goto 106) 3 101 (106) 204 := ⟨at_98, rfl, by decide, by decide⟩
theorem o_L_law_101 : InsA md_L_law 101 (.iload_n 3) 1 102 := ⟨at_101, rfl⟩
theorem o_L_law_102 : InsA md_L_law 102 (.iconst 2) 1 103 := ⟨at_102, rfl⟩
theorem o_L_law_103 : InsB md_L_law 103 (.if_icmp .ne 16) 3 106 (16) 119 := ⟨at_103, rfl, by decide, by decide⟩
theorem o_L_law_106 : InsA md_L_law 106 (.aload_n 1) 1 107 := ⟨at_106, rfl⟩
theorem o_L_law_107 : InsA md_L_law 107 (.iload 4) 2 109 := ⟨at_107, rfl⟩
theorem o_L_law_109 : InsA md_L_law 109 (.iload 5) 2 111 := ⟨at_109, rfl⟩
theorem o_L_law_111 : InsA md_L_law 111 (.invokevirtual 61) 3 114 := ⟨at_111, rfl⟩
theorem o_L_law_114 : InsA md_L_law 114 (.istore 11) 2 116 := ⟨at_114, rfl⟩
theorem o_L_law_116 : InsB md_L_law 116 (.goto 88) 3 119 (88) 204 := ⟨at_116, rfl, by decide, by decide⟩
theorem o_L_law_119 : InsA md_L_law 119 (.iload_n 3) 1 120 := ⟨at_119, rfl⟩
theorem o_L_law_120 : InsA md_L_law 120 (.iconst 3) 1 121 := ⟨at_120, rfl⟩
theorem o_L_law_121 : InsB md_L_law 121 (.if_icmp .ne 14) 3 124 (14) 135 := ⟨at_121, rfl, by decide, by decide⟩
theorem o_L_law_124 : InsA md_L_law 124 (.aload_n 1) 1 125 := ⟨at_124, rfl⟩
theorem o_L_law_125 : InsA md_L_law 125 (.iload 4) 2 127 := ⟨at_125, rfl⟩
theorem o_L_law_127 : InsA md_L_law 127 (.invokevirtual 64) 3 130 := ⟨at_127, rfl⟩
theorem o_L_law_130 : InsA md_L_law 130 (.istore 11) 2 132 := ⟨at_130, rfl⟩
theorem o_L_law_132 : InsB md_L_law 132 (.goto 72) 3 135 (72) 204 := ⟨at_132, rfl, by decide, by decide⟩
theorem o_L_law_135 : InsA md_L_law 135 (.iload_n 3) 1 136 := ⟨at_135, rfl⟩
theorem o_L_law_136 : InsA md_L_law 136 (.iconst 4) 1 137 := ⟨at_136, rfl⟩
theorem o_L_law_137 : InsB md_L_law 137 (.if_icmp .ne 14) 3 140 (14) 151 := ⟨at_137, rfl, by decide, by decide⟩
theorem o_L_law_140 : InsA md_L_law 140 (.aload_n 1) 1 141 := ⟨at_140, rfl⟩
theorem o_L_law_141 : InsA md_L_law 141 (.iload 4) 2 143 := ⟨at_141, rfl⟩
theorem o_L_law_143 : InsA md_L_law 143 (.invokevirtual 67) 3 146 := ⟨at_143, rfl⟩
theorem o_L_law_146 : InsA md_L_law 146 (.istore 11) 2 148 := ⟨at_146, rfl⟩
theorem o_L_law_148 : InsB md_L_law 148 (.goto 56) 3 151 (56) 204 := ⟨at_148, rfl, by decide, by decide⟩
theorem o_L_law_151 : InsA md_L_law 151 (.iload_n 3) 1 152 := ⟨at_151, rfl⟩
theorem o_L_law_152 : InsA md_L_law 152 (.iconst 5) 1 153 := ⟨at_152, rfl⟩
theorem o_L_law_153 : InsB md_L_law 153 (.if_icmp .ne 43) 3 156 (43) 196 := ⟨at_153, rfl, by decide, by decide⟩
theorem o_L_law_156 : InsA md_L_law 156 (.aload_n 1) 1 157 := ⟨at_156, rfl⟩
theorem o_L_law_157 : InsA md_L_law 157 (.iload 4) 2 159 := ⟨at_157, rfl⟩
theorem o_L_law_159 : InsA md_L_law 159 (.iconst 3) 1 160 := ⟨at_159, rfl⟩
theorem o_L_law_160 : InsA md_L_law 160 (.irem) 1 161 := ⟨at_160, rfl⟩
theorem o_L_law_161 : InsA md_L_law 161 (.iload 5) 2 163 := ⟨at_161, rfl⟩
theorem o_L_law_163 : InsA md_L_law 163 (.iconst 3) 1 164 := ⟨at_163, rfl⟩
theorem o_L_law_164 : InsA md_L_law 164 (.irem) 1 165 := ⟨at_164, rfl⟩
theorem o_L_law_165 : InsA md_L_law 165 (.iload 6) 2 167 := ⟨at_165, rfl⟩
theorem o_L_law_167 : InsA md_L_law 167 (.iconst 1) 1 168 := ⟨at_167, rfl⟩
theorem o_L_law_168 : InsA md_L_law 168 (.iand) 1 169 := ⟨at_168, rfl⟩
theorem o_L_law_169 : InsA md_L_law 169 (.iconst 1) 1 170 := ⟨at_169, rfl⟩
theorem o_L_law_170 : InsB md_L_law 170 (.if_icmp .ne 7) 3 173 (7) 177 := ⟨at_170, rfl, by decide, by decide⟩
theorem o_L_law_173 : InsA md_L_law 173 (.iconst 1) 1 174 := ⟨at_173, rfl⟩
theorem o_L_law_174 : InsB md_L_law 174 (.goto 4) 3 177 (4) 178 := ⟨at_174, rfl, by decide, by decide⟩
theorem o_L_law_177 : InsA md_L_law 177 (.iconst 0) 1 178 := ⟨at_177, rfl⟩
theorem o_L_law_178 : InsA md_L_law 178 (.iload 7) 2 180 := ⟨at_178, rfl⟩
theorem o_L_law_180 : InsA md_L_law 180 (.ldc 51) 2 182 := ⟨at_180, rfl⟩
theorem o_L_law_182 : InsA md_L_law 182 (.iand) 1 183 := ⟨at_182, rfl⟩
theorem o_L_law_183 : InsA md_L_law 183 (.bipush 8) 2 185 := ⟨at_183, rfl⟩
theorem o_L_law_185 : InsA md_L_law 185 (.irem) 1 186 := ⟨at_185, rfl⟩
theorem o_L_law_186 : InsA md_L_law 186 (.iconst 1) 1 187 := ⟨at_186, rfl⟩
theorem o_L_law_187 : InsA md_L_law 187 (.isub) 1 188 := ⟨at_187, rfl⟩
theorem o_L_law_188 : InsA md_L_law 188 (.invokevirtual 70) 3 191 := ⟨at_188, rfl⟩
theorem o_L_law_191 : InsA md_L_law 191 (.istore 11) 2 193 := ⟨at_191, rfl⟩
theorem o_L_law_193 : InsB md_L_law 193 (.goto 11) 3 196 (11) 204 := ⟨at_193, rfl, by decide, by decide⟩
theorem o_L_law_196 : InsA md_L_law 196 (.aload_n 1) 1 197 := ⟨at_196, rfl⟩
theorem o_L_law_197 : InsA md_L_law 197 (.invokevirtual 74) 3 200 := ⟨at_197, rfl⟩
theorem o_L_law_200 : InsA md_L_law 200 (.pop) 1 201 := ⟨at_200, rfl⟩
theorem o_L_law_201 : InsA md_L_law 201 (.iconst 0) 1 202 := ⟨at_201, rfl⟩
theorem o_L_law_202 : InsA md_L_law 202 (.istore 11) 2 204 := ⟨at_202, rfl⟩
theorem o_L_law_204 : InsA md_L_law 204 (.iload 11) 2 206 := ⟨at_204, rfl⟩
theorem o_L_law_206 : InsB md_L_law 206 (.ifCond .eq 44) 3 209 (44) 250 := ⟨at_206, rfl, by decide, by decide⟩
theorem o_L_law_209 : InsA md_L_law 209 (.iload 11) 2 211 := ⟨at_209, rfl⟩
theorem o_L_law_211 : InsB md_L_law 211 (.ifCond .lt 5) 3 214 (5) 216 := ⟨at_211, rfl, by decide, by decide⟩
theorem o_L_law_214 : InsA md_L_law 214 (.iconst 0) 1 215 := ⟨at_214, rfl⟩
theorem o_L_law_215 : InsA md_L_law 215 (.ireturn) 1 216 := ⟨at_215, rfl⟩
theorem o_L_law_216 : InsA md_L_law 216 (.aload_n 1) 1 217 := ⟨at_216, rfl⟩
theorem o_L_law_217 : InsA md_L_law 217 (.invokestatic 52) 3 220 := ⟨at_217, rfl⟩
theorem o_L_law_220 : InsA md_L_law 220 (.lload 8) 2 222 := ⟨at_220, rfl⟩
theorem o_L_law_222 : InsA md_L_law 222 (.lcmp) 1 223 := ⟨at_222, rfl⟩
theorem o_L_law_223 : InsB md_L_law 223 (.ifCond .eq 5) 3 226 (5) 228 := ⟨at_223, rfl, by decide, by decide⟩
theorem o_L_law_226 : InsA md_L_law 226 (.iconst 0) 1 227 := ⟨at_226, rfl⟩
theorem o_L_law_227 : InsA md_L_law 227 (.ireturn) 1 228 := ⟨at_227, rfl⟩
theorem o_L_law_228 : InsA md_L_law 228 (.iload 10) 2 230 := ⟨at_228, rfl⟩
theorem o_L_law_230 : InsB md_L_law 230 (.ifCond .eq 20) 3 233 (20) 250 := ⟨at_230, rfl, by decide, by decide⟩
theorem o_L_law_233 : InsA md_L_law 233 (.aload_n 1) 1 234 := ⟨at_233, rfl⟩
theorem o_L_law_234 : InsA md_L_law 234 (.invokevirtual 74) 3 237 := ⟨at_234, rfl⟩
theorem o_L_law_237 : InsA md_L_law 237 (.pop) 1 238 := ⟨at_237, rfl⟩
theorem o_L_law_238 : InsA md_L_law 238 (.aload_n 1) 1 239 := ⟨at_238, rfl⟩
theorem o_L_law_239 : InsA md_L_law 239 (.invokestatic 52) 3 242 := ⟨at_239, rfl⟩
theorem o_L_law_242 : InsA md_L_law 242 (.lload 8) 2 244 := ⟨at_242, rfl⟩
theorem o_L_law_244 : InsA md_L_law 244 (.lcmp) 1 245 := ⟨at_244, rfl⟩
theorem o_L_law_245 : InsB md_L_law 245 (.ifCond .eq 5) 3 248 (5) 250 := ⟨at_245, rfl, by decide, by decide⟩
theorem o_L_law_248 : InsA md_L_law 248 (.iconst 0) 1 249 := ⟨at_248, rfl⟩
theorem o_L_law_249 : InsA md_L_law 249 (.ireturn) 1 250 := ⟨at_249, rfl⟩
theorem o_L_law_250 : InsA md_L_law 250 (.iinc 2 5) 3 253 := ⟨at_250, rfl⟩
theorem o_L_law_253 : InsB md_L_law 253 (.goto (-237)) 3 256 (-237) 16 := ⟨at_253, rfl, by decide, by decide⟩
theorem o_L_law_256 : InsA md_L_law 256 (.iconst 1) 1 257 := ⟨at_256, rfl⟩
theorem o_L_law_257 : InsA md_L_law 257 (.ireturn) 1 258 := ⟨at_257, rfl⟩
theorem gd {c : Prop} [Decidable c] {α : Type} {x : Option α} {r : α} (h : (if c then x else none) = some r) : c ∧ x = some r := by
  by_cases q : c
  · rw [if_pos q] at h; exact ⟨q, h⟩
  · rw [if_neg q] at h; cases h
theorem ifp {c : Prop} [Decidable c] {α : Type} {x y z : α} (q : c) (h : (if c then x else y) = z) : x = z := by rw [if_pos q] at h; exact h
theorem ifn {c : Prop} [Decidable c] {α : Type} {x y z : α} (q : ¬ c) (h : (if c then x else y) = z) : y = z := by rw [if_neg q] at h; exact h
theorem getD_some {α : Type} {o : Option α} {d r : α} (h : o = some r) : o.getD d = r := by rw [h]; rfl
set_option maxRecDepth 65536 in
set_option maxHeartbeats 4000000 in
theorem wp_clamp {l : Launch} {Z : State} {a0 : Array Value} (H : OK Z a0) (F : Nat → Int32) (G : Nat → Int64) (A : Nat → Int32 → Int32) (B : Nat → Int32 → Int64) (p1 : Int32) (p2 : Int32) (p3 : Int32) {Q : Option Value → WO → Prop} (h3 : ¬ p1 < p2 → ¬ p3 < p1 → Q (some (.int p1)) (10, F, G, A, B)) (h4 : ¬ p1 < p2 → p3 < p1 → Q (some (.int p3)) (10, F, G, A, B)) (h5 : p1 < p2 → Q (some (.int p2)) (10, F, G, A, B)) :
    Wk l Z (MoC Z cdC) md_clamp 0 [.val (.ref 0), .val (.int p1), .val (.int p2), .val (.int p3)] [] (10, F, G, A, B) 0 0 Q := by
  refine Wk.iloadN o_clamp_0 rfl ?_
  refine Wk.iloadN o_clamp_1 rfl ?_
  refine Wk.icmp_ge o_clamp_2 (fun q1 => ?_) (fun q1 => ?_)
  · refine Wk.iloadN o_clamp_7 rfl ?_
    refine Wk.iloadN o_clamp_8 rfl ?_
    refine Wk.icmp_le o_clamp_9 (fun q2 => ?_) (fun q2 => ?_)
    · refine Wk.iloadN o_clamp_14 rfl ?_
      exact Wk.ireturn mrC rfl o_clamp_15 rfl (by decide) (by decide) (h3 q1 q2)
    · refine Wk.iloadN o_clamp_12 rfl ?_
      exact Wk.ireturn mrC rfl o_clamp_13 rfl (by decide) (by decide) (h4 q1 q2)
  · refine Wk.iloadN o_clamp_5 rfl ?_
    exact Wk.ireturn mrC rfl o_clamp_6 rfl (by decide) (by decide) (h5 q1)

def f_clamp (p1 : Int32) (p2 : Int32) (p3 : Int32) : Int32 := (if p1 < p2 then p2 else (if p3 < p1 then p3 else p1))
theorem e_clamp (p1 : Int32) (p2 : Int32) (p3 : Int32) : f_clamp p1 p2 p3 = (if p1 < p2 then p2 else (if p3 < p1 then p3 else p1)) := Eq.trans rfl rfl
theorem run_clamp {l : Launch} {Z : State} {a0 : Array Value} (H : OK Z a0) (F : Nat → Int32) (G : Nat → Int64) (A : Nat → Int32 → Int32) (B : Nat → Int32 → Int64) (p1 : Int32) (p2 : Int32) (p3 : Int32) :
    Wk l Z (MoC Z cdC) md_clamp 0 [.val (.ref 0), .val (.int p1), .val (.int p2), .val (.int p3)] [] (10, F, G, A, B) 0 0 (fun v w' => v = some (.int (f_clamp p1 p2 p3)) ∧ w' = (10, F, G, A, B)) :=
  wp_clamp H F G A B p1 p2 p3 (fun q1 q2 => ⟨by simp only [e_clamp, if_neg q1, if_neg q2], rfl⟩) (fun q1 q2 => ⟨by simp only [e_clamp, if_neg q1, if_pos q2], rfl⟩) (fun q1 => ⟨by simp only [e_clamp, if_pos q1], rfl⟩)
set_option maxRecDepth 65536 in
set_option maxHeartbeats 4000000 in
theorem wp_init {l : Launch} {Z : State} {a0 : Array Value} (H : OK Z a0) (p1 : Int32) (p2 : Int32) (p3 : Int32) {Q : Option Value → WO → Prop} (h1 : Q none (10, (ups (ups (ups (ups (ups (ups (ups (ups (ups (ups (ups (fun _ => 0) 0 (f_clamp p1 (2 : Int32) (16 : Int32))) 1 (f_clamp p2 (1 : Int32) (32 : Int32))) 2 (f_clamp p3 (1 : Int32) (64 : Int32))) 3 (0 : Int32)) 4 (0 : Int32)) 5 (0 : Int32)) 6 (1 : Int32)) 7 (4 : Int32)) 8 (0 : Int32)) 9 (0 : Int32)) 10 (-1 : Int32)), (fun _ => 0), (fun _ _ => 0), (fun _ _ => 0))) :
    Wk l Z (MoC Z cdC) md_init 0 [.val (.ref 0), .val (.int p1), .val (.int p2), .val (.int p3)] [] (0, (fun _ => 0), (fun _ => 0), (fun _ _ => 0), (fun _ _ => 0)) 0 0 Q := by
  refine Wk.aloadN o_init_0 rfl ?_
  refine Wk.initO (H.w 6 rfl) (H.w 7 rfl) (H.w 8 rfl) o_init_1 rfl (by decide) (by decide) ?_
  refine Wk.aloadN o_init_4 rfl ?_
  refine Wk.sipush o_init_5 (z := (256 : Int32)) (by decide) ?_
  refine Wk.newA (coC H) (aty := .boolean) rfl (wa_boolean H) (mA_adj) (wf_adj H) (Or.inr ⟨wy_adj H, rfl⟩) o_init_8 o_init_10 rfl rfl (k' := 1) rfl (cu' := 1) rfl (su' := 256) rfl (by decide) (by decide) (by decide) ?_
  refine Wk.aloadN o_init_13 rfl ?_
  refine Wk.bipush o_init_14 (z := (16 : Int32)) (by decide) ?_
  refine Wk.newA (coC H) (aty := .boolean) rfl (wa_boolean H) (mA_seed) (wf_seed H) (Or.inr ⟨wy_seed H, rfl⟩) o_init_16 o_init_18 rfl rfl (k' := 2) rfl (cu' := 2) rfl (su' := 272) rfl (by decide) (by decide) (by decide) ?_
  refine Wk.aloadN o_init_21 rfl ?_
  refine Wk.bipush o_init_22 (z := (64 : Int32)) (by decide) ?_
  refine Wk.newA (coC H) (aty := .int) rfl (wa_int H) (mA_rowNodeA) (wf_rowNodeA H) (Or.inr ⟨wy_rowNodeA H, rfl⟩) o_init_24 o_init_26 rfl rfl (k' := 3) rfl (cu' := 3) rfl (su' := 336) rfl (by decide) (by decide) (by decide) ?_
  refine Wk.aloadN o_init_29 rfl ?_
  refine Wk.bipush o_init_30 (z := (64 : Int32)) (by decide) ?_
  refine Wk.newA (coC H) (aty := .int) rfl (wa_int H) (mA_rowDepthA) (wf_rowDepthA H) (Or.inr ⟨wy_rowDepthA H, rfl⟩) o_init_32 o_init_34 rfl rfl (k' := 4) rfl (cu' := 4) rfl (su' := 400) rfl (by decide) (by decide) (by decide) ?_
  refine Wk.aloadN o_init_37 rfl ?_
  refine Wk.bipush o_init_38 (z := (64 : Int32)) (by decide) ?_
  refine Wk.newA (coC H) (aty := .boolean) rfl (wa_boolean H) (mA_rowCycA) (wf_rowCycA H) (Or.inr ⟨wy_rowCycA H, rfl⟩) o_init_40 o_init_42 rfl rfl (k' := 5) rfl (cu' := 5) rfl (su' := 464) rfl (by decide) (by decide) (by decide) ?_
  refine Wk.aloadN o_init_45 rfl ?_
  refine Wk.sipush o_init_46 (z := (1024 : Int32)) (by decide) ?_
  refine Wk.newA (coC H) (aty := .int) rfl (wa_int H) (mA_rowPathA) (wf_rowPathA H) (Or.inr ⟨wy_rowPathA H, rfl⟩) o_init_49 o_init_51 rfl rfl (k' := 6) rfl (cu' := 6) rfl (su' := 1488) rfl (by decide) (by decide) (by decide) ?_
  refine Wk.aloadN o_init_54 rfl ?_
  refine Wk.bipush o_init_55 (z := (16 : Int32)) (by decide) ?_
  refine Wk.newA (coC H) (aty := .int) rfl (wa_int H) (mA_stkNode) (wf_stkNode H) (Or.inr ⟨wy_stkNode H, rfl⟩) o_init_57 o_init_59 rfl rfl (k' := 7) rfl (cu' := 7) rfl (su' := 1504) rfl (by decide) (by decide) (by decide) ?_
  refine Wk.aloadN o_init_62 rfl ?_
  refine Wk.bipush o_init_63 (z := (16 : Int32)) (by decide) ?_
  refine Wk.newA (coC H) (aty := .int) rfl (wa_int H) (mA_stkNext) (wf_stkNext H) (Or.inr ⟨wy_stkNext H, rfl⟩) o_init_65 o_init_67 rfl rfl (k' := 8) rfl (cu' := 8) rfl (su' := 1520) rfl (by decide) (by decide) (by decide) ?_
  refine Wk.aloadN o_init_70 rfl ?_
  refine Wk.bipush o_init_71 (z := (16 : Int32)) (by decide) ?_
  refine Wk.newA (coC H) (aty := .boolean) rfl (wa_boolean H) (mA_stkCyc) (wf_stkCyc H) (Or.inr ⟨wy_stkCyc H, rfl⟩) o_init_73 o_init_75 rfl rfl (k' := 9) rfl (cu' := 9) rfl (su' := 1536) rfl (by decide) (by decide) (by decide) ?_
  refine Wk.aloadN o_init_78 rfl ?_
  refine Wk.bipush o_init_79 (z := (16 : Int32)) (by decide) ?_
  refine Wk.newA (coC H) (aty := .boolean) rfl (wa_boolean H) (mA_found) (wf_found H) (Or.inr ⟨wy_found H, rfl⟩) o_init_81 o_init_83 rfl rfl (k' := 10) rfl (cu' := 10) rfl (su' := 1552) rfl (by decide) (by decide) (by decide) ?_
  refine Wk.aloadN o_init_86 rfl ?_
  refine Wk.aloadN o_init_87 rfl ?_
  refine Wk.iloadN o_init_88 rfl ?_
  refine Wk.iconst o_init_89 (z := (2 : Int32)) (by decide) ?_
  refine Wk.bipush o_init_90 (z := (16 : Int32)) (by decide) ?_
  refine Wk.callF [.int p1, .int (2 : Int32), .int (16 : Int32)] [.ref 0] (H.w 31 rfl) (cv_clamp H) o_init_92 (run_clamp H (fun _ => 0) (fun _ => 0) (fun _ _ => 0) (fun _ _ => 0) p1 (2 : Int32) (16 : Int32)) (wt := 1) (cu' := 10) (su' := 1552) (by decide) rfl rfl rfl rfl rfl rfl rfl ?_
  refine Wk.putI (coC H) (mI_maxNodes) (wf_maxNodes H) (Or.inl (wy_maxNodes H)) o_init_95 ?_
  refine Wk.aloadN o_init_98 rfl ?_
  refine Wk.aloadN o_init_99 rfl ?_
  refine Wk.iloadN o_init_100 rfl ?_
  refine Wk.iconst o_init_101 (z := (1 : Int32)) (by decide) ?_
  refine Wk.bipush o_init_102 (z := (32 : Int32)) (by decide) ?_
  refine Wk.callF [.int p2, .int (1 : Int32), .int (32 : Int32)] [.ref 0] (H.w 31 rfl) (cv_clamp H) o_init_104 (run_clamp H (ups (fun _ => 0) 0 (f_clamp p1 (2 : Int32) (16 : Int32))) (fun _ => 0) (fun _ _ => 0) (fun _ _ => 0) p2 (1 : Int32) (32 : Int32)) (wt := 1) (cu' := 10) (su' := 1552) (by decide) rfl rfl rfl rfl rfl rfl rfl ?_
  refine Wk.putI (coC H) (mI_maxEdges) (wf_maxEdges H) (Or.inl (wy_maxEdges H)) o_init_107 ?_
  refine Wk.aloadN o_init_110 rfl ?_
  refine Wk.aloadN o_init_111 rfl ?_
  refine Wk.iloadN o_init_112 rfl ?_
  refine Wk.iconst o_init_113 (z := (1 : Int32)) (by decide) ?_
  refine Wk.bipush o_init_114 (z := (64 : Int32)) (by decide) ?_
  refine Wk.callF [.int p3, .int (1 : Int32), .int (64 : Int32)] [.ref 0] (H.w 31 rfl) (cv_clamp H) o_init_116 (run_clamp H (ups (ups (fun _ => 0) 0 (f_clamp p1 (2 : Int32) (16 : Int32))) 1 (f_clamp p2 (1 : Int32) (32 : Int32))) (fun _ => 0) (fun _ _ => 0) (fun _ _ => 0) p3 (1 : Int32) (64 : Int32)) (wt := 1) (cu' := 10) (su' := 1552) (by decide) rfl rfl rfl rfl rfl rfl rfl ?_
  refine Wk.putI (coC H) (mI_rowLimit) (wf_rowLimit H) (Or.inl (wy_rowLimit H)) o_init_119 ?_
  refine Wk.aloadN o_init_122 rfl ?_
  refine Wk.iconst o_init_123 (z := (0 : Int32)) (by decide) ?_
  refine Wk.putI (coC H) (mI_edges) (wf_edges H) (Or.inl (wy_edges H)) o_init_124 ?_
  refine Wk.aloadN o_init_127 rfl ?_
  refine Wk.iconst o_init_128 (z := (0 : Int32)) (by decide) ?_
  refine Wk.putI (coC H) (mI_kind) (wf_kind H) (Or.inl (wy_kind H)) o_init_129 ?_
  refine Wk.aloadN o_init_132 rfl ?_
  refine Wk.iconst o_init_133 (z := (0 : Int32)) (by decide) ?_
  refine Wk.putI (coC H) (mI_search) (wf_search H) (Or.inl (wy_search H)) o_init_134 ?_
  refine Wk.aloadN o_init_137 rfl ?_
  refine Wk.iconst o_init_138 (z := (1 : Int32)) (by decide) ?_
  refine Wk.putZ (coC H) (y := (1 : Int32)) (by decide) (mI_cycle) (wf_cycle H) (Or.inl (wy_cycle H)) o_init_139 ?_
  refine Wk.aloadN o_init_142 rfl ?_
  refine Wk.iconst o_init_143 (z := (4 : Int32)) (by decide) ?_
  refine Wk.putI (coC H) (mI_maxDepth) (wf_maxDepth H) (Or.inl (wy_maxDepth H)) o_init_144 ?_
  refine Wk.aloadN o_init_147 rfl ?_
  refine Wk.iconst o_init_148 (z := (0 : Int32)) (by decide) ?_
  refine Wk.putI (coC H) (mI_status) (wf_status H) (Or.inl (wy_status H)) o_init_149 ?_
  refine Wk.aloadN o_init_152 rfl ?_
  refine Wk.iconst o_init_153 (z := (0 : Int32)) (by decide) ?_
  refine Wk.putI (coC H) (mI_count) (wf_count H) (Or.inl (wy_count H)) o_init_154 ?_
  refine Wk.aloadN o_init_157 rfl ?_
  refine Wk.iconst o_init_158 (z := (-1 : Int32)) (by decide) ?_
  refine Wk.putI (coC H) (mI_top) (wf_top H) (Or.inl (wy_top H)) o_init_159 ?_
  exact Wk.ret mrC rfl o_init_162 rfl (by decide) (by decide) h1

def F_init (p1 : Int32) (p2 : Int32) (p3 : Int32) : Nat → Int32 := (ups (ups (ups (ups (ups (ups (ups (ups (ups (ups (ups (fun _ => 0) 0 (f_clamp p1 (2 : Int32) (16 : Int32))) 1 (f_clamp p2 (1 : Int32) (32 : Int32))) 2 (f_clamp p3 (1 : Int32) (64 : Int32))) 3 (0 : Int32)) 4 (0 : Int32)) 5 (0 : Int32)) 6 (1 : Int32)) 7 (4 : Int32)) 8 (0 : Int32)) 9 (0 : Int32)) 10 (-1 : Int32))
theorem eF_init (p1 : Int32) (p2 : Int32) (p3 : Int32) : F_init p1 p2 p3 = (ups (ups (ups (ups (ups (ups (ups (ups (ups (ups (ups (fun _ => 0) 0 (f_clamp p1 (2 : Int32) (16 : Int32))) 1 (f_clamp p2 (1 : Int32) (32 : Int32))) 2 (f_clamp p3 (1 : Int32) (64 : Int32))) 3 (0 : Int32)) 4 (0 : Int32)) 5 (0 : Int32)) 6 (1 : Int32)) 7 (4 : Int32)) 8 (0 : Int32)) 9 (0 : Int32)) 10 (-1 : Int32)) := Eq.trans rfl rfl
theorem F_init_0 (p1 : Int32) (p2 : Int32) (p3 : Int32) : F_init p1 p2 p3 0 = (f_clamp p1 (2 : Int32) (16 : Int32)) := by
  exact Eq.trans rfl rfl
theorem F_init_1 (p1 : Int32) (p2 : Int32) (p3 : Int32) : F_init p1 p2 p3 1 = (f_clamp p2 (1 : Int32) (32 : Int32)) := by
  exact Eq.trans rfl rfl
theorem F_init_2 (p1 : Int32) (p2 : Int32) (p3 : Int32) : F_init p1 p2 p3 2 = (f_clamp p3 (1 : Int32) (64 : Int32)) := by
  exact Eq.trans rfl rfl
theorem F_init_3 (p1 : Int32) (p2 : Int32) (p3 : Int32) : F_init p1 p2 p3 3 = (0 : Int32) := by
  exact Eq.trans rfl rfl
theorem F_init_4 (p1 : Int32) (p2 : Int32) (p3 : Int32) : F_init p1 p2 p3 4 = (0 : Int32) := by
  exact Eq.trans rfl rfl
theorem F_init_5 (p1 : Int32) (p2 : Int32) (p3 : Int32) : F_init p1 p2 p3 5 = (0 : Int32) := by
  exact Eq.trans rfl rfl
theorem F_init_6 (p1 : Int32) (p2 : Int32) (p3 : Int32) : F_init p1 p2 p3 6 = (1 : Int32) := by
  exact Eq.trans rfl rfl
theorem F_init_7 (p1 : Int32) (p2 : Int32) (p3 : Int32) : F_init p1 p2 p3 7 = (4 : Int32) := by
  exact Eq.trans rfl rfl
theorem F_init_8 (p1 : Int32) (p2 : Int32) (p3 : Int32) : F_init p1 p2 p3 8 = (0 : Int32) := by
  exact Eq.trans rfl rfl
theorem F_init_9 (p1 : Int32) (p2 : Int32) (p3 : Int32) : F_init p1 p2 p3 9 = (0 : Int32) := by
  exact Eq.trans rfl rfl
theorem F_init_10 (p1 : Int32) (p2 : Int32) (p3 : Int32) : F_init p1 p2 p3 10 = (-1 : Int32) := by
  exact Eq.trans rfl rfl
theorem run_init {l : Launch} {Z : State} {a0 : Array Value} (H : OK Z a0)  (p1 : Int32) (p2 : Int32) (p3 : Int32) :
    Wk l Z (MoC Z cdC) md_init 0 [.val (.ref 0), .val (.int p1), .val (.int p2), .val (.int p3)] [] (0, (fun _ => 0), (fun _ => 0), (fun _ _ => 0), (fun _ _ => 0)) 0 0 (fun v w' => v = none ∧ w' = (10, (F_init p1 p2 p3), (fun _ => 0), (fun _ _ => 0), (fun _ _ => 0))) :=
  wp_init H p1 p2 p3 ⟨rfl, rfl⟩
set_option maxRecDepth 65536 in
set_option maxHeartbeats 4000000 in
theorem wp_status {l : Launch} {Z : State} {a0 : Array Value} (H : OK Z a0) (F : Nat → Int32) (G : Nat → Int64) (A : Nat → Int32 → Int32) (B : Nat → Int32 → Int64) {Q : Option Value → WO → Prop} (h1 : Q (some (.int (F 8))) (10, F, G, A, B)) :
    Wk l Z (MoC Z cdC) md_status 0 [.val (.ref 0)] [] (10, F, G, A, B) 0 0 Q := by
  refine Wk.aloadN o_status_0 rfl ?_
  refine Wk.getI (mI_status) (wf_status H) o_status_1 (x := (F 8)) rfl ?_
  exact Wk.ireturn mrC rfl o_status_4 rfl (by decide) (by decide) h1

def f_status (F : Nat → Int32) : Int32 := (F 8)
theorem e_status (F : Nat → Int32) : f_status F = (F 8) := Eq.trans rfl rfl
theorem run_status {l : Launch} {Z : State} {a0 : Array Value} (H : OK Z a0) (F : Nat → Int32) (G : Nat → Int64) (A : Nat → Int32 → Int32) (B : Nat → Int32 → Int64) :
    Wk l Z (MoC Z cdC) md_status 0 [.val (.ref 0)] [] (10, F, G, A, B) 0 0 (fun v w' => v = some (.int (f_status F)) ∧ w' = (10, F, G, A, B)) :=
  wp_status H F G A B ⟨rfl, rfl⟩
set_option maxRecDepth 65536 in
set_option maxHeartbeats 4000000 in
theorem wp_rowCount {l : Launch} {Z : State} {a0 : Array Value} (H : OK Z a0) (F : Nat → Int32) (G : Nat → Int64) (A : Nat → Int32 → Int32) (B : Nat → Int32 → Int64) {Q : Option Value → WO → Prop} (h1 : Q (some (.int (F 9))) (10, F, G, A, B)) :
    Wk l Z (MoC Z cdC) md_rowCount 0 [.val (.ref 0)] [] (10, F, G, A, B) 0 0 Q := by
  refine Wk.aloadN o_rowCount_0 rfl ?_
  refine Wk.getI (mI_count) (wf_count H) o_rowCount_1 (x := (F 9)) rfl ?_
  exact Wk.ireturn mrC rfl o_rowCount_4 rfl (by decide) (by decide) h1

def f_rowCount (F : Nat → Int32) : Int32 := (F 9)
theorem e_rowCount (F : Nat → Int32) : f_rowCount F = (F 9) := Eq.trans rfl rfl
theorem run_rowCount {l : Launch} {Z : State} {a0 : Array Value} (H : OK Z a0) (F : Nat → Int32) (G : Nat → Int64) (A : Nat → Int32 → Int32) (B : Nat → Int32 → Int64) :
    Wk l Z (MoC Z cdC) md_rowCount 0 [.val (.ref 0)] [] (10, F, G, A, B) 0 0 (fun v w' => v = some (.int (f_rowCount F)) ∧ w' = (10, F, G, A, B)) :=
  wp_rowCount H F G A B ⟨rfl, rfl⟩
set_option maxRecDepth 65536 in
set_option maxHeartbeats 4000000 in
theorem wp_edgeCount {l : Launch} {Z : State} {a0 : Array Value} (H : OK Z a0) (F : Nat → Int32) (G : Nat → Int64) (A : Nat → Int32 → Int32) (B : Nat → Int32 → Int64) {Q : Option Value → WO → Prop} (h1 : Q (some (.int (F 3))) (10, F, G, A, B)) :
    Wk l Z (MoC Z cdC) md_edgeCount 0 [.val (.ref 0)] [] (10, F, G, A, B) 0 0 Q := by
  refine Wk.aloadN o_edgeCount_0 rfl ?_
  refine Wk.getI (mI_edges) (wf_edges H) o_edgeCount_1 (x := (F 3)) rfl ?_
  exact Wk.ireturn mrC rfl o_edgeCount_4 rfl (by decide) (by decide) h1

def f_edgeCount (F : Nat → Int32) : Int32 := (F 3)
theorem e_edgeCount (F : Nat → Int32) : f_edgeCount F = (F 3) := Eq.trans rfl rfl
theorem run_edgeCount {l : Launch} {Z : State} {a0 : Array Value} (H : OK Z a0) (F : Nat → Int32) (G : Nat → Int64) (A : Nat → Int32 → Int32) (B : Nat → Int32 → Int64) :
    Wk l Z (MoC Z cdC) md_edgeCount 0 [.val (.ref 0)] [] (10, F, G, A, B) 0 0 (fun v w' => v = some (.int (f_edgeCount F)) ∧ w' = (10, F, G, A, B)) :=
  wp_edgeCount H F G A B ⟨rfl, rfl⟩
set_option maxRecDepth 65536 in
set_option maxHeartbeats 4000000 in
theorem wp_inRange {l : Launch} {Z : State} {a0 : Array Value} (H : OK Z a0) (F : Nat → Int32) (G : Nat → Int64) (A : Nat → Int32 → Int32) (B : Nat → Int32 → Int64) (p1 : Int32) {Q : Option Value → WO → Prop} (h5 : Q (some (.int (nar .boolean (if p1 < 0 then (0 : Int32) else (if p1 < (F 0) then (1 : Int32) else (0 : Int32)))))) (10, F, G, A, B)) :
    Wk l Z (MoC Z cdC) md_inRange 0 [.val (.ref 0), .val (.int p1)] [] (10, F, G, A, B) 0 0 Q := by
  refine Wk.iloadN o_inRange_0 rfl ?_
  have J4 : Wk l Z (MoC Z cdC) md_inRange 17 [.val (.ref 0), .val (.int p1)] [.int (if p1 < 0 then (0 : Int32) else (if p1 < (F 0) then (1 : Int32) else (0 : Int32)))] (10, F, G, A, B) 0 0 Q := by
    exact Wk.zreturn mrC rfl o_inRange_17 rfl (by decide) (by decide) (y := (nar .boolean (if p1 < 0 then (0 : Int32) else (if p1 < (F 0) then (1 : Int32) else (0 : Int32))))) rfl h5
  refine Wk.if_lt o_inRange_1 (fun q1 => ?_) (fun q1 => ?_)
  · refine Wk.iconst o_inRange_16 (z := (0 : Int32)) (by decide) ?_
    first | (rw [show ((if p1 < 0 then (0 : Int32) else (if p1 < (F 0) then (1 : Int32) else (0 : Int32))) : Int32) = (0 : Int32) from if_pos q1] at J4; exact J4) | exact J4 | (simp only [if_pos q1] at J4 ⊢; exact J4)
  · refine Wk.iloadN o_inRange_4 rfl ?_
    refine Wk.aloadN o_inRange_5 rfl ?_
    refine Wk.getI (mI_maxNodes) (wf_maxNodes H) o_inRange_6 (x := (F 0)) rfl ?_
    refine Wk.icmp_ge o_inRange_9 (fun q2 => ?_) (fun q2 => ?_)
    · refine Wk.iconst o_inRange_16 (z := (0 : Int32)) (by decide) ?_
      first | (rw [show ((if p1 < 0 then (0 : Int32) else (if p1 < (F 0) then (1 : Int32) else (0 : Int32))) : Int32) = (0 : Int32) from Eq.trans (if_neg q1) <| if_neg q2] at J4; exact J4) | exact J4 | (simp only [if_neg q1, if_neg q2] at J4 ⊢; exact J4)
    · refine Wk.iconst o_inRange_12 (z := (1 : Int32)) (by decide) ?_
      refine Wk.goto o_inRange_13 ?_
      first | (rw [show ((if p1 < 0 then (0 : Int32) else (if p1 < (F 0) then (1 : Int32) else (0 : Int32))) : Int32) = (1 : Int32) from Eq.trans (if_neg q1) <| if_pos q2] at J4; exact J4) | exact J4 | (simp only [if_neg q1, if_pos q2] at J4 ⊢; exact J4)

def f_inRange (F : Nat → Int32) (p1 : Int32) : Int32 := (nar .boolean (if p1 < 0 then (0 : Int32) else (if p1 < (F 0) then (1 : Int32) else (0 : Int32))))
theorem e_inRange (F : Nat → Int32) (p1 : Int32) : f_inRange F p1 = (nar .boolean (if p1 < 0 then (0 : Int32) else (if p1 < (F 0) then (1 : Int32) else (0 : Int32)))) := Eq.trans rfl rfl
theorem bz_inRange (F : Nat → Int32) (p1 : Int32) : nar .boolean (f_inRange F p1) = f_inRange F p1 := by
  unfold f_inRange
  (repeat' split) <;> first | rfl | exact nar_nar _
theorem run_inRange {l : Launch} {Z : State} {a0 : Array Value} (H : OK Z a0) (F : Nat → Int32) (G : Nat → Int64) (A : Nat → Int32 → Int32) (B : Nat → Int32 → Int64) (p1 : Int32) :
    Wk l Z (MoC Z cdC) md_inRange 0 [.val (.ref 0), .val (.int p1)] [] (10, F, G, A, B) 0 0 (fun v w' => v = some (.int (f_inRange F p1)) ∧ w' = (10, F, G, A, B)) :=
  wp_inRange H F G A B p1 ⟨rfl, rfl⟩
set_option maxRecDepth 65536 in
set_option maxHeartbeats 4000000 in
theorem wp_hasEdge {l : Launch} {Z : State} {a0 : Array Value} (H : OK Z a0) (F : Nat → Int32) (G : Nat → Int64) (A : Nat → Int32 → Int32) (B : Nat → Int32 → Int64) (p1 : Int32) (p2 : Int32) {Q : Option Value → WO → Prop} (h2 : (f_inRange F p1) = 0 → Q (some (.int (0 : Int32))) (10, F, G, A, B)) (s4 : ¬ (f_inRange F p1) = 0 → ¬ (f_inRange F p2) = 0 → ¬ ((p1 * (16 : Int32)) + p2) < 0) (s5 : ¬ (f_inRange F p1) = 0 → ¬ (f_inRange F p2) = 0 → ((p1 * (16 : Int32)) + p2) < (256 : Int32)) (h6 : ¬ (f_inRange F p1) = 0 → ¬ (f_inRange F p2) = 0 → Q (some (.int (nar .boolean ((A 0) ((p1 * (16 : Int32)) + p2))))) (10, F, G, A, B)) (h7 : ¬ (f_inRange F p1) = 0 → (f_inRange F p2) = 0 → Q (some (.int (0 : Int32))) (10, F, G, A, B)) :
    Wk l Z (MoC Z cdC) md_hasEdge 0 [.val (.ref 0), .val (.int p1), .val (.int p2)] [] (10, F, G, A, B) 0 0 Q := by
  refine Wk.aloadN o_hasEdge_0 rfl ?_
  refine Wk.iloadN o_hasEdge_1 rfl ?_
  refine Wk.callF [.int p1] [] (H.w 83 rfl) (cv_inRange H) o_hasEdge_2 (run_inRange H F G A B p1) (wt := 0) (cu' := 0) (su' := 0) (by decide) rfl rfl rfl rfl rfl rfl rfl ?_
  refine Wk.if_eq o_hasEdge_5 (fun q1 => ?_) (fun q1 => ?_)
  · refine Wk.iconst o_hasEdge_16 (z := (0 : Int32)) (by decide) ?_
    exact Wk.zreturn mrC rfl o_hasEdge_17 rfl (by decide) (by decide) (y := (0 : Int32)) (by decide) (h2 q1)
  · refine Wk.aloadN o_hasEdge_8 rfl ?_
    refine Wk.iloadN o_hasEdge_9 rfl ?_
    refine Wk.callF [.int p2] [] (H.w 83 rfl) (cv_inRange H) o_hasEdge_10 (run_inRange H F G A B p2) (wt := 0) (cu' := 0) (su' := 0) (by decide) rfl rfl rfl rfl rfl rfl rfl ?_
    refine Wk.if_ne o_hasEdge_13 (fun q3 => ?_) (fun q3 => ?_)
    · refine Wk.aloadN o_hasEdge_18 rfl ?_
      refine Wk.getA (mA_adj) (by decide) (i' := 1) rfl (wf_adj H) o_hasEdge_19 ?_
      refine Wk.iloadN o_hasEdge_22 rfl ?_
      refine Wk.bipush o_hasEdge_23 (z := (16 : Int32)) (by decide) ?_
      refine Wk.imul o_hasEdge_25 ?_
      refine Wk.iloadN o_hasEdge_26 rfl ?_
      refine Wk.iadd o_hasEdge_27 ?_
      refine Wk.baload (mA_adj) (by decide) (i' := 1) rfl (s4 q1 q3) (s5 q1 q3) o_hasEdge_28 (y := ((A 0) ((p1 * (16 : Int32)) + p2))) rfl ?_
      exact Wk.zreturn mrC rfl o_hasEdge_29 rfl (by decide) (by decide) (y := (nar .boolean ((A 0) ((p1 * (16 : Int32)) + p2)))) rfl (h6 q1 q3)
    · refine Wk.iconst o_hasEdge_16 (z := (0 : Int32)) (by decide) ?_
      exact Wk.zreturn mrC rfl o_hasEdge_17 rfl (by decide) (by decide) (y := (0 : Int32)) (by decide) (h7 q1 q3)

theorem rt_hasEdge (F : Nat → Int32) (G : Nat → Int64) (A : Nat → Int32 → Int32) (B : Nat → Int32 → Int64) (v0 : Int32) (r : Int32) (e : v0 = r) : some (Value.int v0) = some (.int r) ∧ (10, F, G, A, B) = (10, F, G, A, B) := by subst e; exact ⟨rfl, rfl⟩
def en_hasEdge (F : Nat → Int32) (A : Nat → Int32 → Int32) (p1 : Int32) (p2 : Int32) : Option (Int32) := (if (f_inRange F p1) = 0 then some ((0 : Int32)) else (if (f_inRange F p2) = 0 then some ((0 : Int32)) else (if (¬ ((p1 * (16 : Int32)) + p2) < 0) ∧ (((p1 * (16 : Int32)) + p2) < (256 : Int32)) then some ((nar .boolean ((A 0) ((p1 * (16 : Int32)) + p2)))) else none)))
theorem een_hasEdge (F : Nat → Int32) (A : Nat → Int32 → Int32) (p1 : Int32) (p2 : Int32) : en_hasEdge F A p1 p2 = (if (f_inRange F p1) = 0 then some ((0 : Int32)) else (if (f_inRange F p2) = 0 then some ((0 : Int32)) else (if (¬ ((p1 * (16 : Int32)) + p2) < 0) ∧ (((p1 * (16 : Int32)) + p2) < (256 : Int32)) then some ((nar .boolean ((A 0) ((p1 * (16 : Int32)) + p2)))) else none))) := Eq.trans rfl rfl
def R_hasEdge (F : Nat → Int32) (A : Nat → Int32 → Int32) (p1 : Int32) (p2 : Int32) : Int32 := (en_hasEdge F A p1 p2).getD (0)
theorem eR_hasEdge (F : Nat → Int32) (A : Nat → Int32 → Int32) (p1 : Int32) (p2 : Int32) : R_hasEdge F A p1 p2 = (en_hasEdge F A p1 p2).getD (0) := Eq.trans rfl rfl
set_option maxRecDepth 65536 in
set_option maxHeartbeats 4000000 in
theorem run_hasEdge {l : Launch} {Z : State} {a0 : Array Value} (H : OK Z a0) (F : Nat → Int32) (G : Nat → Int64) (A : Nat → Int32 → Int32) (B : Nat → Int32 → Int64) (p1 : Int32) (p2 : Int32) (e1 : (en_hasEdge F A p1 p2).isSome = true) :
    Wk l Z (MoC Z cdC) md_hasEdge 0 [.val (.ref 0), .val (.int p1), .val (.int p2)] [] (10, F, G, A, B) 0 0 (fun v w' => v = some (.int (R_hasEdge F A p1 p2)) ∧ w' = (10, F, G, A, B)) := by
  obtain ⟨r, h⟩ := Option.isSome_iff_exists.mp e1
  have e : R_hasEdge F A p1 p2 = r := (eR_hasEdge F A p1 p2).trans (getD_some h)
  rw [e]
  rw [een_hasEdge] at h
  exact wp_hasEdge H F G A B p1 p2 (fun q1 => (rt_hasEdge _ _ _ _ _ r (Option.some.inj (ifp q1 h)))) (fun q1 q3 => (gd (ifn q3 (ifn q1 h))).1.1) (fun q1 q3 => (gd (ifn q3 (ifn q1 h))).1.2) (fun q1 q3 => (rt_hasEdge _ _ _ _ _ r (Option.some.inj (gd (ifn q3 (ifn q1 h))).2))) (fun q1 q3 => (rt_hasEdge _ _ _ _ _ r (Option.some.inj (ifp q3 (ifn q1 h)))))
set_option maxRecDepth 65536 in
set_option maxHeartbeats 4000000 in
theorem wp_countNode {l : Launch} {Z : State} {a0 : Array Value} (H : OK Z a0) (F : Nat → Int32) (G : Nat → Int64) (A : Nat → Int32 → Int32) (B : Nat → Int32 → Int64) (p1 : Int32) {Q : Option Value → WO → Prop} (h2 : ¬ (f_inRange F p1) = 0 → Wk l Z (MoC Z cdC) md_countNode 14 [.val (.ref 0), .val (.int p1), .val (.int (0 : Int32)), .val (.int (0 : Int32))] [] (10, F, G, A, B) 0 0 Q) (h3 : (f_inRange F p1) = 0 → Q (some (.int (-1 : Int32))) (10, F, G, A, B)) :
    Wk l Z (MoC Z cdC) md_countNode 0 [.val (.ref 0), .val (.int p1), .unset, .unset] [] (10, F, G, A, B) 0 0 Q := by
  refine Wk.aloadN o_countNode_0 rfl ?_
  refine Wk.iloadN o_countNode_1 rfl ?_
  refine Wk.callF [.int p1] [] (H.w 83 rfl) (cv_inRange H) o_countNode_2 (run_inRange H F G A B p1) (wt := 0) (cu' := 0) (su' := 0) (by decide) rfl rfl rfl rfl rfl rfl rfl ?_
  refine Wk.if_ne o_countNode_5 (fun q1 => ?_) (fun q1 => ?_)
  · refine Wk.iconst o_countNode_10 (z := (0 : Int32)) (by decide) ?_
    refine Wk.istoreN o_countNode_11 (Or.inl rfl) (L' := [.val (.ref 0), .val (.int p1), .val (.int (0 : Int32)), .unset]) rfl ?_
    refine Wk.iconst o_countNode_12 (z := (0 : Int32)) (by decide) ?_
    refine Wk.istoreN o_countNode_13 (Or.inl rfl) (L' := [.val (.ref 0), .val (.int p1), .val (.int (0 : Int32)), .val (.int (0 : Int32))]) rfl ?_
    exact (h2 q1)
  · refine Wk.iconst o_countNode_8 (z := (-1 : Int32)) (by decide) ?_
    exact Wk.ireturn mrC rfl o_countNode_9 rfl (by decide) (by decide) (h3 q1)

set_option maxRecDepth 65536 in
set_option maxHeartbeats 4000000 in
theorem wp_countNode_14 {l : Launch} {Z : State} {a0 : Array Value} (H : OK Z a0) (F : Nat → Int32) (G : Nat → Int64) (A : Nat → Int32 → Int32) (B : Nat → Int32 → Int64) (v1 : Int32) (v2 : Int32) (v3 : Int32) {Q : Option Value → WO → Prop} (h2 : ¬ v3 < (F 9) → Q (some (.int v2)) (10, F, G, A, B)) (h4 : v3 < (F 9) → ¬ v3 < (64 : Int32) → Q (some (.int v2)) (10, F, G, A, B)) (s5 : v3 < (F 9) → v3 < (64 : Int32) → ¬ v3 < 0) (h8 : v3 < (F 9) → v3 < (64 : Int32) → Wk l Z (MoC Z cdC) md_countNode 14 [.val (.ref 0), .val (.int v1), .val (.int (if ((A 2) v3) = v1 then (v2 + (1 : Int32)) else v2)), .val (.int (v3 + (1 : Int32)))] [] (10, F, G, A, B) 0 0 Q) :
    Wk l Z (MoC Z cdC) md_countNode 14 [.val (.ref 0), .val (.int v1), .val (.int v2), .val (.int v3)] [] (10, F, G, A, B) 0 0 Q := by
  refine Wk.iloadN o_countNode_14 rfl ?_
  refine Wk.aloadN o_countNode_15 rfl ?_
  refine Wk.getI (mI_count) (wf_count H) o_countNode_16 (x := (F 9)) rfl ?_
  refine Wk.icmp_ge o_countNode_19 (fun q1 => ?_) (fun q1 => ?_)
  · refine Wk.iloadN o_countNode_47 rfl ?_
    exact Wk.ireturn mrC rfl o_countNode_48 rfl (by decide) (by decide) (h2 q1)
  · refine Wk.iloadN o_countNode_22 rfl ?_
    refine Wk.bipush o_countNode_23 (z := (64 : Int32)) (by decide) ?_
    refine Wk.icmp_ge o_countNode_25 (fun q3 => ?_) (fun q3 => ?_)
    · refine Wk.iloadN o_countNode_47 rfl ?_
      exact Wk.ireturn mrC rfl o_countNode_48 rfl (by decide) (by decide) (h4 q1 q3)
    · refine Wk.aloadN o_countNode_28 rfl ?_
      refine Wk.getA (mA_rowNodeA) (by decide) (i' := 3) rfl (wf_rowNodeA H) o_countNode_29 ?_
      refine Wk.iloadN o_countNode_32 rfl ?_
      refine Wk.iaload (mA_rowNodeA) (by decide) (i' := 3) rfl (s5 q1 q3) q3 o_countNode_33 (y := ((A 2) v3)) rfl ?_
      refine Wk.iloadN o_countNode_34 rfl ?_
      have J7 : Wk l Z (MoC Z cdC) md_countNode 41 [.val (.ref 0), .val (.int v1), .val (.int (if ((A 2) v3) = v1 then (v2 + (1 : Int32)) else v2)), .val (.int v3)] [] (10, F, G, A, B) 0 0 Q := by
        refine Wk.iinc o_countNode_41 rfl (z := (v3 + (1 : Int32))) rfl (L' := [.val (.ref 0), .val (.int v1), .val (.int (if ((A 2) v3) = v1 then (v2 + (1 : Int32)) else v2)), .val (.int (v3 + (1 : Int32)))]) rfl ?_
        refine Wk.goto o_countNode_44 ?_
        exact (h8 q1 q3)
      refine Wk.icmp_ne o_countNode_35 (fun q6 => ?_) (fun q6 => ?_)
      · first | (rw [show ((if ((A 2) v3) = v1 then (v2 + (1 : Int32)) else v2) : Int32) = v2 from if_neg q6] at J7; exact J7) | exact J7 | (simp only [if_neg q6] at J7 ⊢; exact J7)
      · refine Wk.iinc o_countNode_38 rfl (z := (v2 + (1 : Int32))) rfl (L' := [.val (.ref 0), .val (.int v1), .val (.int (v2 + (1 : Int32))), .val (.int v3)]) rfl ?_
        first | (rw [show ((if ((A 2) v3) = v1 then (v2 + (1 : Int32)) else v2) : Int32) = (v2 + (1 : Int32)) from if_pos q6] at J7; exact J7) | exact J7 | (simp only [if_pos q6] at J7 ⊢; exact J7)

theorem rt_countNode (F : Nat → Int32) (G : Nat → Int64) (A : Nat → Int32 → Int32) (B : Nat → Int32 → Int64) (v0 : Int32) (r : Int32) (e : v0 = r) : some (Value.int v0) = some (.int r) ∧ (10, F, G, A, B) = (10, F, G, A, B) := by subst e; exact ⟨rfl, rfl⟩
def lp_countNode : Nat → Nat → Int32 → Int32 → Int32 → (Nat → Int32) → (Nat → Int32 → Int32) → Option (Int32)
  | 0, _, _, _, _, _, _ => none
  | n + 1, tag, v1, v2, v3, F, A => if tag = 14 then (if v3 < (F 9) then (if v3 < (64 : Int32) then (if (¬ v3 < 0) then lp_countNode n 14 v1 (if ((A 2) v3) = v1 then (v2 + (1 : Int32)) else v2) (v3 + (1 : Int32)) F A else none) else some (v2)) else some (v2)) else none
theorem lp_countNode_z (tag : Nat) (v1 : Int32) (v2 : Int32) (v3 : Int32) (F : Nat → Int32) (A : Nat → Int32 → Int32) : lp_countNode 0 tag v1 v2 v3 F A = none := Eq.trans rfl rfl
theorem lp_countNode_14 (n : Nat) (v1 : Int32) (v2 : Int32) (v3 : Int32) (F : Nat → Int32) (A : Nat → Int32 → Int32) : lp_countNode (n + 1) 14 v1 v2 v3 F A = (if v3 < (F 9) then (if v3 < (64 : Int32) then (if (¬ v3 < 0) then lp_countNode n 14 v1 (if ((A 2) v3) = v1 then (v2 + (1 : Int32)) else v2) (v3 + (1 : Int32)) F A else none) else some (v2)) else some (v2)) := by
  rw [lp_countNode, if_pos rfl]
set_option maxRecDepth 65536 in
set_option maxHeartbeats 4000000 in
theorem lpw_countNode {l : Launch} {Z : State} {a0 : Array Value} (H : OK Z a0) (F : Nat → Int32) (G : Nat → Int64) (A : Nat → Int32 → Int32) (B : Nat → Int32 → Int64) : ∀ (n : Nat) (v1 : Int32) (v2 : Int32) (v3 : Int32) (r : Int32), (lp_countNode n 14 v1 v2 v3 F A = some r → Wk l Z (MoC Z cdC) md_countNode 14 [.val (.ref 0), .val (.int v1), .val (.int v2), .val (.int v3)] [] (10, F, G, A, B) 0 0 (fun v w' => v = some (.int r) ∧ w' = (10, F, G, A, B))) := by
  intro n
  induction n with
  | zero =>
    intro v1 v2 v3  r
    exact (fun h => by rw [lp_countNode_z] at h; cases h)
  | succ n ih =>
    intro v1 v2 v3  r
    refine fun h => ?_
    · rw [lp_countNode_14] at h
      exact wp_countNode_14 H F G A B v1 v2 v3 (fun q1 => (rt_countNode _ _ _ _ _ r (Option.some.inj (ifn q1 h)))) (fun q1 q3 => (rt_countNode _ _ _ _ _ r (Option.some.inj (ifn q3 (ifp q1 h))))) (fun q1 q3 => (gd (ifp q3 (ifp q1 h))).1) (fun q1 q3 => (ih _ _ _ _) (gd (ifp q3 (ifp q1 h))).2)
def en_countNode (F : Nat → Int32) (A : Nat → Int32 → Int32) (p1 : Int32) : Option (Int32) := (if (f_inRange F p1) = 0 then some ((-1 : Int32)) else lp_countNode 1000 14 p1 (0 : Int32) (0 : Int32) F A)
theorem een_countNode (F : Nat → Int32) (A : Nat → Int32 → Int32) (p1 : Int32) : en_countNode F A p1 = (if (f_inRange F p1) = 0 then some ((-1 : Int32)) else lp_countNode 1000 14 p1 (0 : Int32) (0 : Int32) F A) := Eq.trans rfl rfl
def R_countNode (F : Nat → Int32) (A : Nat → Int32 → Int32) (p1 : Int32) : Int32 := (en_countNode F A p1).getD (0)
theorem eR_countNode (F : Nat → Int32) (A : Nat → Int32 → Int32) (p1 : Int32) : R_countNode F A p1 = (en_countNode F A p1).getD (0) := Eq.trans rfl rfl
set_option maxRecDepth 65536 in
set_option maxHeartbeats 4000000 in
theorem run_countNode {l : Launch} {Z : State} {a0 : Array Value} (H : OK Z a0) (F : Nat → Int32) (G : Nat → Int64) (A : Nat → Int32 → Int32) (B : Nat → Int32 → Int64) (p1 : Int32) (e1 : (en_countNode F A p1).isSome = true) :
    Wk l Z (MoC Z cdC) md_countNode 0 [.val (.ref 0), .val (.int p1), .unset, .unset] [] (10, F, G, A, B) 0 0 (fun v w' => v = some (.int (R_countNode F A p1)) ∧ w' = (10, F, G, A, B)) := by
  obtain ⟨r, h⟩ := Option.isSome_iff_exists.mp e1
  have e : R_countNode F A p1 = r := (eR_countNode F A p1).trans (getD_some h)
  rw [e]
  rw [een_countNode] at h
  exact wp_countNode H F G A B p1 (fun q1 => (lpw_countNode H F G A B _ _ _ _ _) (ifn q1 h)) (fun q1 => (rt_countNode _ _ _ _ _ r (Option.some.inj (ifp q1 h))))
set_option maxRecDepth 65536 in
set_option maxHeartbeats 4000000 in
theorem wp_isSeed {l : Launch} {Z : State} {a0 : Array Value} (H : OK Z a0) (F : Nat → Int32) (G : Nat → Int64) (A : Nat → Int32 → Int32) (B : Nat → Int32 → Int64) (p1 : Int32) {Q : Option Value → WO → Prop} (s2 : ¬ (f_inRange F p1) = 0 → ¬ p1 < 0) (s3 : ¬ (f_inRange F p1) = 0 → p1 < (16 : Int32)) (h4 : ¬ (f_inRange F p1) = 0 → Q (some (.int (nar .boolean ((A 1) p1)))) (10, F, G, A, B)) (h5 : (f_inRange F p1) = 0 → Q (some (.int (0 : Int32))) (10, F, G, A, B)) :
    Wk l Z (MoC Z cdC) md_isSeed 0 [.val (.ref 0), .val (.int p1)] [] (10, F, G, A, B) 0 0 Q := by
  refine Wk.aloadN o_isSeed_0 rfl ?_
  refine Wk.iloadN o_isSeed_1 rfl ?_
  refine Wk.callF [.int p1] [] (H.w 83 rfl) (cv_inRange H) o_isSeed_2 (run_inRange H F G A B p1) (wt := 0) (cu' := 0) (su' := 0) (by decide) rfl rfl rfl rfl rfl rfl rfl ?_
  refine Wk.if_ne o_isSeed_5 (fun q1 => ?_) (fun q1 => ?_)
  · refine Wk.aloadN o_isSeed_10 rfl ?_
    refine Wk.getA (mA_seed) (by decide) (i' := 2) rfl (wf_seed H) o_isSeed_11 ?_
    refine Wk.iloadN o_isSeed_14 rfl ?_
    refine Wk.baload (mA_seed) (by decide) (i' := 2) rfl (s2 q1) (s3 q1) o_isSeed_15 (y := ((A 1) p1)) rfl ?_
    exact Wk.zreturn mrC rfl o_isSeed_16 rfl (by decide) (by decide) (y := (nar .boolean ((A 1) p1))) rfl (h4 q1)
  · refine Wk.iconst o_isSeed_8 (z := (0 : Int32)) (by decide) ?_
    exact Wk.zreturn mrC rfl o_isSeed_9 rfl (by decide) (by decide) (y := (0 : Int32)) (by decide) (h5 q1)

theorem rt_isSeed (F : Nat → Int32) (G : Nat → Int64) (A : Nat → Int32 → Int32) (B : Nat → Int32 → Int64) (v0 : Int32) (r : Int32) (e : v0 = r) : some (Value.int v0) = some (.int r) ∧ (10, F, G, A, B) = (10, F, G, A, B) := by subst e; exact ⟨rfl, rfl⟩
def en_isSeed (F : Nat → Int32) (A : Nat → Int32 → Int32) (p1 : Int32) : Option (Int32) := (if (f_inRange F p1) = 0 then some ((0 : Int32)) else (if (¬ p1 < 0) ∧ (p1 < (16 : Int32)) then some ((nar .boolean ((A 1) p1))) else none))
theorem een_isSeed (F : Nat → Int32) (A : Nat → Int32 → Int32) (p1 : Int32) : en_isSeed F A p1 = (if (f_inRange F p1) = 0 then some ((0 : Int32)) else (if (¬ p1 < 0) ∧ (p1 < (16 : Int32)) then some ((nar .boolean ((A 1) p1))) else none)) := Eq.trans rfl rfl
def R_isSeed (F : Nat → Int32) (A : Nat → Int32 → Int32) (p1 : Int32) : Int32 := (en_isSeed F A p1).getD (0)
theorem eR_isSeed (F : Nat → Int32) (A : Nat → Int32 → Int32) (p1 : Int32) : R_isSeed F A p1 = (en_isSeed F A p1).getD (0) := Eq.trans rfl rfl
set_option maxRecDepth 65536 in
set_option maxHeartbeats 4000000 in
theorem run_isSeed {l : Launch} {Z : State} {a0 : Array Value} (H : OK Z a0) (F : Nat → Int32) (G : Nat → Int64) (A : Nat → Int32 → Int32) (B : Nat → Int32 → Int64) (p1 : Int32) (e1 : (en_isSeed F A p1).isSome = true) :
    Wk l Z (MoC Z cdC) md_isSeed 0 [.val (.ref 0), .val (.int p1)] [] (10, F, G, A, B) 0 0 (fun v w' => v = some (.int (R_isSeed F A p1)) ∧ w' = (10, F, G, A, B)) := by
  obtain ⟨r, h⟩ := Option.isSome_iff_exists.mp e1
  have e : R_isSeed F A p1 = r := (eR_isSeed F A p1).trans (getD_some h)
  rw [e]
  rw [een_isSeed] at h
  exact wp_isSeed H F G A B p1 (fun q1 => (gd (ifn q1 h)).1.1) (fun q1 => (gd (ifn q1 h)).1.2) (fun q1 => (rt_isSeed _ _ _ _ _ r (Option.some.inj (gd (ifn q1 h)).2))) (fun q1 => (rt_isSeed _ _ _ _ _ r (Option.some.inj (ifp q1 h))))
set_option maxRecDepth 65536 in
set_option maxHeartbeats 4000000 in
theorem wp_validRow {l : Launch} {Z : State} {a0 : Array Value} (H : OK Z a0) (F : Nat → Int32) (G : Nat → Int64) (A : Nat → Int32 → Int32) (B : Nat → Int32 → Int64) (p1 : Int32) {Q : Option Value → WO → Prop} (h7 : Q (some (.int (nar .boolean (if p1 < 0 then (0 : Int32) else (if p1 < (F 9) then (if p1 < (64 : Int32) then (1 : Int32) else (0 : Int32)) else (0 : Int32)))))) (10, F, G, A, B)) :
    Wk l Z (MoC Z cdC) md_validRow 0 [.val (.ref 0), .val (.int p1)] [] (10, F, G, A, B) 0 0 Q := by
  refine Wk.iloadN o_validRow_0 rfl ?_
  have J6 : Wk l Z (MoC Z cdC) md_validRow 23 [.val (.ref 0), .val (.int p1)] [.int (if p1 < 0 then (0 : Int32) else (if p1 < (F 9) then (if p1 < (64 : Int32) then (1 : Int32) else (0 : Int32)) else (0 : Int32)))] (10, F, G, A, B) 0 0 Q := by
    exact Wk.zreturn mrC rfl o_validRow_23 rfl (by decide) (by decide) (y := (nar .boolean (if p1 < 0 then (0 : Int32) else (if p1 < (F 9) then (if p1 < (64 : Int32) then (1 : Int32) else (0 : Int32)) else (0 : Int32))))) rfl h7
  refine Wk.if_lt o_validRow_1 (fun q1 => ?_) (fun q1 => ?_)
  · refine Wk.iconst o_validRow_22 (z := (0 : Int32)) (by decide) ?_
    first | (rw [show ((if p1 < 0 then (0 : Int32) else (if p1 < (F 9) then (if p1 < (64 : Int32) then (1 : Int32) else (0 : Int32)) else (0 : Int32))) : Int32) = (0 : Int32) from if_pos q1] at J6; exact J6) | exact J6 | (simp only [if_pos q1] at J6 ⊢; exact J6)
  · refine Wk.iloadN o_validRow_4 rfl ?_
    refine Wk.aloadN o_validRow_5 rfl ?_
    refine Wk.getI (mI_count) (wf_count H) o_validRow_6 (x := (F 9)) rfl ?_
    refine Wk.icmp_ge o_validRow_9 (fun q2 => ?_) (fun q2 => ?_)
    · refine Wk.iconst o_validRow_22 (z := (0 : Int32)) (by decide) ?_
      first | (rw [show ((if p1 < 0 then (0 : Int32) else (if p1 < (F 9) then (if p1 < (64 : Int32) then (1 : Int32) else (0 : Int32)) else (0 : Int32))) : Int32) = (0 : Int32) from Eq.trans (if_neg q1) <| if_neg q2] at J6; exact J6) | exact J6 | (simp only [if_neg q1, if_neg q2] at J6 ⊢; exact J6)
    · refine Wk.iloadN o_validRow_12 rfl ?_
      refine Wk.bipush o_validRow_13 (z := (64 : Int32)) (by decide) ?_
      refine Wk.icmp_ge o_validRow_15 (fun q3 => ?_) (fun q3 => ?_)
      · refine Wk.iconst o_validRow_22 (z := (0 : Int32)) (by decide) ?_
        first | (rw [show ((if p1 < 0 then (0 : Int32) else (if p1 < (F 9) then (if p1 < (64 : Int32) then (1 : Int32) else (0 : Int32)) else (0 : Int32))) : Int32) = (0 : Int32) from Eq.trans (if_neg q1) <| Eq.trans (if_pos q2) <| if_neg q3] at J6; exact J6) | exact J6 | (simp only [if_neg q1, if_pos q2, if_neg q3] at J6 ⊢; exact J6)
      · refine Wk.iconst o_validRow_18 (z := (1 : Int32)) (by decide) ?_
        refine Wk.goto o_validRow_19 ?_
        first | (rw [show ((if p1 < 0 then (0 : Int32) else (if p1 < (F 9) then (if p1 < (64 : Int32) then (1 : Int32) else (0 : Int32)) else (0 : Int32))) : Int32) = (1 : Int32) from Eq.trans (if_neg q1) <| Eq.trans (if_pos q2) <| if_pos q3] at J6; exact J6) | exact J6 | (simp only [if_neg q1, if_pos q2, if_pos q3] at J6 ⊢; exact J6)

def f_validRow (F : Nat → Int32) (p1 : Int32) : Int32 := (nar .boolean (if p1 < 0 then (0 : Int32) else (if p1 < (F 9) then (if p1 < (64 : Int32) then (1 : Int32) else (0 : Int32)) else (0 : Int32))))
theorem e_validRow (F : Nat → Int32) (p1 : Int32) : f_validRow F p1 = (nar .boolean (if p1 < 0 then (0 : Int32) else (if p1 < (F 9) then (if p1 < (64 : Int32) then (1 : Int32) else (0 : Int32)) else (0 : Int32)))) := Eq.trans rfl rfl
theorem bz_validRow (F : Nat → Int32) (p1 : Int32) : nar .boolean (f_validRow F p1) = f_validRow F p1 := by
  unfold f_validRow
  (repeat' split) <;> first | rfl | exact nar_nar _
theorem run_validRow {l : Launch} {Z : State} {a0 : Array Value} (H : OK Z a0) (F : Nat → Int32) (G : Nat → Int64) (A : Nat → Int32 → Int32) (B : Nat → Int32 → Int64) (p1 : Int32) :
    Wk l Z (MoC Z cdC) md_validRow 0 [.val (.ref 0), .val (.int p1)] [] (10, F, G, A, B) 0 0 (fun v w' => v = some (.int (f_validRow F p1)) ∧ w' = (10, F, G, A, B)) :=
  wp_validRow H F G A B p1 ⟨rfl, rfl⟩
set_option maxRecDepth 65536 in
set_option maxHeartbeats 4000000 in
theorem wp_rowNode {l : Launch} {Z : State} {a0 : Array Value} (H : OK Z a0) (F : Nat → Int32) (G : Nat → Int64) (A : Nat → Int32 → Int32) (B : Nat → Int32 → Int64) (p1 : Int32) {Q : Option Value → WO → Prop} (s2 : ¬ (f_validRow F p1) = 0 → ¬ p1 < 0) (s3 : ¬ (f_validRow F p1) = 0 → p1 < (64 : Int32)) (h4 : ¬ (f_validRow F p1) = 0 → Q (some (.int ((A 2) p1))) (10, F, G, A, B)) (h5 : (f_validRow F p1) = 0 → Q (some (.int (-1 : Int32))) (10, F, G, A, B)) :
    Wk l Z (MoC Z cdC) md_rowNode 0 [.val (.ref 0), .val (.int p1)] [] (10, F, G, A, B) 0 0 Q := by
  refine Wk.aloadN o_rowNode_0 rfl ?_
  refine Wk.iloadN o_rowNode_1 rfl ?_
  refine Wk.callF [.int p1] [] (H.w 103 rfl) (cv_validRow H) o_rowNode_2 (run_validRow H F G A B p1) (wt := 0) (cu' := 0) (su' := 0) (by decide) rfl rfl rfl rfl rfl rfl rfl ?_
  refine Wk.if_ne o_rowNode_5 (fun q1 => ?_) (fun q1 => ?_)
  · refine Wk.aloadN o_rowNode_10 rfl ?_
    refine Wk.getA (mA_rowNodeA) (by decide) (i' := 3) rfl (wf_rowNodeA H) o_rowNode_11 ?_
    refine Wk.iloadN o_rowNode_14 rfl ?_
    refine Wk.iaload (mA_rowNodeA) (by decide) (i' := 3) rfl (s2 q1) (s3 q1) o_rowNode_15 (y := ((A 2) p1)) rfl ?_
    exact Wk.ireturn mrC rfl o_rowNode_16 rfl (by decide) (by decide) (h4 q1)
  · refine Wk.iconst o_rowNode_8 (z := (-1 : Int32)) (by decide) ?_
    exact Wk.ireturn mrC rfl o_rowNode_9 rfl (by decide) (by decide) (h5 q1)

theorem rt_rowNode (F : Nat → Int32) (G : Nat → Int64) (A : Nat → Int32 → Int32) (B : Nat → Int32 → Int64) (v0 : Int32) (r : Int32) (e : v0 = r) : some (Value.int v0) = some (.int r) ∧ (10, F, G, A, B) = (10, F, G, A, B) := by subst e; exact ⟨rfl, rfl⟩
def en_rowNode (F : Nat → Int32) (A : Nat → Int32 → Int32) (p1 : Int32) : Option (Int32) := (if (f_validRow F p1) = 0 then some ((-1 : Int32)) else (if (¬ p1 < 0) ∧ (p1 < (64 : Int32)) then some (((A 2) p1)) else none))
theorem een_rowNode (F : Nat → Int32) (A : Nat → Int32 → Int32) (p1 : Int32) : en_rowNode F A p1 = (if (f_validRow F p1) = 0 then some ((-1 : Int32)) else (if (¬ p1 < 0) ∧ (p1 < (64 : Int32)) then some (((A 2) p1)) else none)) := Eq.trans rfl rfl
def R_rowNode (F : Nat → Int32) (A : Nat → Int32 → Int32) (p1 : Int32) : Int32 := (en_rowNode F A p1).getD (0)
theorem eR_rowNode (F : Nat → Int32) (A : Nat → Int32 → Int32) (p1 : Int32) : R_rowNode F A p1 = (en_rowNode F A p1).getD (0) := Eq.trans rfl rfl
set_option maxRecDepth 65536 in
set_option maxHeartbeats 4000000 in
theorem run_rowNode {l : Launch} {Z : State} {a0 : Array Value} (H : OK Z a0) (F : Nat → Int32) (G : Nat → Int64) (A : Nat → Int32 → Int32) (B : Nat → Int32 → Int64) (p1 : Int32) (e1 : (en_rowNode F A p1).isSome = true) :
    Wk l Z (MoC Z cdC) md_rowNode 0 [.val (.ref 0), .val (.int p1)] [] (10, F, G, A, B) 0 0 (fun v w' => v = some (.int (R_rowNode F A p1)) ∧ w' = (10, F, G, A, B)) := by
  obtain ⟨r, h⟩ := Option.isSome_iff_exists.mp e1
  have e : R_rowNode F A p1 = r := (eR_rowNode F A p1).trans (getD_some h)
  rw [e]
  rw [een_rowNode] at h
  exact wp_rowNode H F G A B p1 (fun q1 => (gd (ifn q1 h)).1.1) (fun q1 => (gd (ifn q1 h)).1.2) (fun q1 => (rt_rowNode _ _ _ _ _ r (Option.some.inj (gd (ifn q1 h)).2))) (fun q1 => (rt_rowNode _ _ _ _ _ r (Option.some.inj (ifp q1 h))))
set_option maxRecDepth 65536 in
set_option maxHeartbeats 4000000 in
theorem wp_rowDepth {l : Launch} {Z : State} {a0 : Array Value} (H : OK Z a0) (F : Nat → Int32) (G : Nat → Int64) (A : Nat → Int32 → Int32) (B : Nat → Int32 → Int64) (p1 : Int32) {Q : Option Value → WO → Prop} (s2 : ¬ (f_validRow F p1) = 0 → ¬ p1 < 0) (s3 : ¬ (f_validRow F p1) = 0 → p1 < (64 : Int32)) (h4 : ¬ (f_validRow F p1) = 0 → Q (some (.int ((A 3) p1))) (10, F, G, A, B)) (h5 : (f_validRow F p1) = 0 → Q (some (.int (-1 : Int32))) (10, F, G, A, B)) :
    Wk l Z (MoC Z cdC) md_rowDepth 0 [.val (.ref 0), .val (.int p1)] [] (10, F, G, A, B) 0 0 Q := by
  refine Wk.aloadN o_rowDepth_0 rfl ?_
  refine Wk.iloadN o_rowDepth_1 rfl ?_
  refine Wk.callF [.int p1] [] (H.w 103 rfl) (cv_validRow H) o_rowDepth_2 (run_validRow H F G A B p1) (wt := 0) (cu' := 0) (su' := 0) (by decide) rfl rfl rfl rfl rfl rfl rfl ?_
  refine Wk.if_ne o_rowDepth_5 (fun q1 => ?_) (fun q1 => ?_)
  · refine Wk.aloadN o_rowDepth_10 rfl ?_
    refine Wk.getA (mA_rowDepthA) (by decide) (i' := 4) rfl (wf_rowDepthA H) o_rowDepth_11 ?_
    refine Wk.iloadN o_rowDepth_14 rfl ?_
    refine Wk.iaload (mA_rowDepthA) (by decide) (i' := 4) rfl (s2 q1) (s3 q1) o_rowDepth_15 (y := ((A 3) p1)) rfl ?_
    exact Wk.ireturn mrC rfl o_rowDepth_16 rfl (by decide) (by decide) (h4 q1)
  · refine Wk.iconst o_rowDepth_8 (z := (-1 : Int32)) (by decide) ?_
    exact Wk.ireturn mrC rfl o_rowDepth_9 rfl (by decide) (by decide) (h5 q1)

theorem rt_rowDepth (F : Nat → Int32) (G : Nat → Int64) (A : Nat → Int32 → Int32) (B : Nat → Int32 → Int64) (v0 : Int32) (r : Int32) (e : v0 = r) : some (Value.int v0) = some (.int r) ∧ (10, F, G, A, B) = (10, F, G, A, B) := by subst e; exact ⟨rfl, rfl⟩
def en_rowDepth (F : Nat → Int32) (A : Nat → Int32 → Int32) (p1 : Int32) : Option (Int32) := (if (f_validRow F p1) = 0 then some ((-1 : Int32)) else (if (¬ p1 < 0) ∧ (p1 < (64 : Int32)) then some (((A 3) p1)) else none))
theorem een_rowDepth (F : Nat → Int32) (A : Nat → Int32 → Int32) (p1 : Int32) : en_rowDepth F A p1 = (if (f_validRow F p1) = 0 then some ((-1 : Int32)) else (if (¬ p1 < 0) ∧ (p1 < (64 : Int32)) then some (((A 3) p1)) else none)) := Eq.trans rfl rfl
def R_rowDepth (F : Nat → Int32) (A : Nat → Int32 → Int32) (p1 : Int32) : Int32 := (en_rowDepth F A p1).getD (0)
theorem eR_rowDepth (F : Nat → Int32) (A : Nat → Int32 → Int32) (p1 : Int32) : R_rowDepth F A p1 = (en_rowDepth F A p1).getD (0) := Eq.trans rfl rfl
set_option maxRecDepth 65536 in
set_option maxHeartbeats 4000000 in
theorem run_rowDepth {l : Launch} {Z : State} {a0 : Array Value} (H : OK Z a0) (F : Nat → Int32) (G : Nat → Int64) (A : Nat → Int32 → Int32) (B : Nat → Int32 → Int64) (p1 : Int32) (e1 : (en_rowDepth F A p1).isSome = true) :
    Wk l Z (MoC Z cdC) md_rowDepth 0 [.val (.ref 0), .val (.int p1)] [] (10, F, G, A, B) 0 0 (fun v w' => v = some (.int (R_rowDepth F A p1)) ∧ w' = (10, F, G, A, B)) := by
  obtain ⟨r, h⟩ := Option.isSome_iff_exists.mp e1
  have e : R_rowDepth F A p1 = r := (eR_rowDepth F A p1).trans (getD_some h)
  rw [e]
  rw [een_rowDepth] at h
  exact wp_rowDepth H F G A B p1 (fun q1 => (gd (ifn q1 h)).1.1) (fun q1 => (gd (ifn q1 h)).1.2) (fun q1 => (rt_rowDepth _ _ _ _ _ r (Option.some.inj (gd (ifn q1 h)).2))) (fun q1 => (rt_rowDepth _ _ _ _ _ r (Option.some.inj (ifp q1 h))))
set_option maxRecDepth 65536 in
set_option maxHeartbeats 4000000 in
theorem wp_rowIsCycle {l : Launch} {Z : State} {a0 : Array Value} (H : OK Z a0) (F : Nat → Int32) (G : Nat → Int64) (A : Nat → Int32 → Int32) (B : Nat → Int32 → Int64) (p1 : Int32) {Q : Option Value → WO → Prop} (s2 : ¬ (f_validRow F p1) = 0 → ¬ p1 < 0) (s3 : ¬ (f_validRow F p1) = 0 → p1 < (64 : Int32)) (h4 : ¬ (f_validRow F p1) = 0 → Q (some (.int (nar .boolean ((A 4) p1)))) (10, F, G, A, B)) (h5 : (f_validRow F p1) = 0 → Q (some (.int (0 : Int32))) (10, F, G, A, B)) :
    Wk l Z (MoC Z cdC) md_rowIsCycle 0 [.val (.ref 0), .val (.int p1)] [] (10, F, G, A, B) 0 0 Q := by
  refine Wk.aloadN o_rowIsCycle_0 rfl ?_
  refine Wk.iloadN o_rowIsCycle_1 rfl ?_
  refine Wk.callF [.int p1] [] (H.w 103 rfl) (cv_validRow H) o_rowIsCycle_2 (run_validRow H F G A B p1) (wt := 0) (cu' := 0) (su' := 0) (by decide) rfl rfl rfl rfl rfl rfl rfl ?_
  refine Wk.if_ne o_rowIsCycle_5 (fun q1 => ?_) (fun q1 => ?_)
  · refine Wk.aloadN o_rowIsCycle_10 rfl ?_
    refine Wk.getA (mA_rowCycA) (by decide) (i' := 5) rfl (wf_rowCycA H) o_rowIsCycle_11 ?_
    refine Wk.iloadN o_rowIsCycle_14 rfl ?_
    refine Wk.baload (mA_rowCycA) (by decide) (i' := 5) rfl (s2 q1) (s3 q1) o_rowIsCycle_15 (y := ((A 4) p1)) rfl ?_
    exact Wk.zreturn mrC rfl o_rowIsCycle_16 rfl (by decide) (by decide) (y := (nar .boolean ((A 4) p1))) rfl (h4 q1)
  · refine Wk.iconst o_rowIsCycle_8 (z := (0 : Int32)) (by decide) ?_
    exact Wk.zreturn mrC rfl o_rowIsCycle_9 rfl (by decide) (by decide) (y := (0 : Int32)) (by decide) (h5 q1)

theorem rt_rowIsCycle (F : Nat → Int32) (G : Nat → Int64) (A : Nat → Int32 → Int32) (B : Nat → Int32 → Int64) (v0 : Int32) (r : Int32) (e : v0 = r) : some (Value.int v0) = some (.int r) ∧ (10, F, G, A, B) = (10, F, G, A, B) := by subst e; exact ⟨rfl, rfl⟩
def en_rowIsCycle (F : Nat → Int32) (A : Nat → Int32 → Int32) (p1 : Int32) : Option (Int32) := (if (f_validRow F p1) = 0 then some ((0 : Int32)) else (if (¬ p1 < 0) ∧ (p1 < (64 : Int32)) then some ((nar .boolean ((A 4) p1))) else none))
theorem een_rowIsCycle (F : Nat → Int32) (A : Nat → Int32 → Int32) (p1 : Int32) : en_rowIsCycle F A p1 = (if (f_validRow F p1) = 0 then some ((0 : Int32)) else (if (¬ p1 < 0) ∧ (p1 < (64 : Int32)) then some ((nar .boolean ((A 4) p1))) else none)) := Eq.trans rfl rfl
def R_rowIsCycle (F : Nat → Int32) (A : Nat → Int32 → Int32) (p1 : Int32) : Int32 := (en_rowIsCycle F A p1).getD (0)
theorem eR_rowIsCycle (F : Nat → Int32) (A : Nat → Int32 → Int32) (p1 : Int32) : R_rowIsCycle F A p1 = (en_rowIsCycle F A p1).getD (0) := Eq.trans rfl rfl
set_option maxRecDepth 65536 in
set_option maxHeartbeats 4000000 in
theorem run_rowIsCycle {l : Launch} {Z : State} {a0 : Array Value} (H : OK Z a0) (F : Nat → Int32) (G : Nat → Int64) (A : Nat → Int32 → Int32) (B : Nat → Int32 → Int64) (p1 : Int32) (e1 : (en_rowIsCycle F A p1).isSome = true) :
    Wk l Z (MoC Z cdC) md_rowIsCycle 0 [.val (.ref 0), .val (.int p1)] [] (10, F, G, A, B) 0 0 (fun v w' => v = some (.int (R_rowIsCycle F A p1)) ∧ w' = (10, F, G, A, B)) := by
  obtain ⟨r, h⟩ := Option.isSome_iff_exists.mp e1
  have e : R_rowIsCycle F A p1 = r := (eR_rowIsCycle F A p1).trans (getD_some h)
  rw [e]
  rw [een_rowIsCycle] at h
  exact wp_rowIsCycle H F G A B p1 (fun q1 => (gd (ifn q1 h)).1.1) (fun q1 => (gd (ifn q1 h)).1.2) (fun q1 => (rt_rowIsCycle _ _ _ _ _ r (Option.some.inj (gd (ifn q1 h)).2))) (fun q1 => (rt_rowIsCycle _ _ _ _ _ r (Option.some.inj (ifp q1 h))))
set_option maxRecDepth 65536 in
set_option maxHeartbeats 4000000 in
theorem wp_rowPathNode {l : Launch} {Z : State} {a0 : Array Value} (H : OK Z a0) (F : Nat → Int32) (G : Nat → Int64) (A : Nat → Int32 → Int32) (B : Nat → Int32 → Int64) (p1 : Int32) (p2 : Int32) {Q : Option Value → WO → Prop} (h3 : ¬ (f_validRow F p1) = 0 → p2 < 0 → Q (some (.int (-1 : Int32))) (10, F, G, A, B)) (s4 : ¬ (f_validRow F p1) = 0 → ¬ p2 < 0 → ¬ p1 < 0) (s5 : ¬ (f_validRow F p1) = 0 → ¬ p2 < 0 → p1 < (64 : Int32)) (h7 : ¬ (f_validRow F p1) = 0 → ¬ p2 < 0 → ((A 3) p1) < p2 → Q (some (.int (-1 : Int32))) (10, F, G, A, B)) (s9 : ¬ (f_validRow F p1) = 0 → ¬ p2 < 0 → ¬ ((A 3) p1) < p2 → p2 < (16 : Int32) → ¬ ((p1 * (16 : Int32)) + p2) < 0) (s10 : ¬ (f_validRow F p1) = 0 → ¬ p2 < 0 → ¬ ((A 3) p1) < p2 → p2 < (16 : Int32) → ((p1 * (16 : Int32)) + p2) < (1024 : Int32)) (h11 : ¬ (f_validRow F p1) = 0 → ¬ p2 < 0 → ¬ ((A 3) p1) < p2 → p2 < (16 : Int32) → Q (some (.int ((A 5) ((p1 * (16 : Int32)) + p2)))) (10, F, G, A, B)) (h12 : ¬ (f_validRow F p1) = 0 → ¬ p2 < 0 → ¬ ((A 3) p1) < p2 → ¬ p2 < (16 : Int32) → Q (some (.int (-1 : Int32))) (10, F, G, A, B)) (h13 : (f_validRow F p1) = 0 → Q (some (.int (-1 : Int32))) (10, F, G, A, B)) :
    Wk l Z (MoC Z cdC) md_rowPathNode 0 [.val (.ref 0), .val (.int p1), .val (.int p2)] [] (10, F, G, A, B) 0 0 Q := by
  refine Wk.aloadN o_rowPathNode_0 rfl ?_
  refine Wk.iloadN o_rowPathNode_1 rfl ?_
  refine Wk.callF [.int p1] [] (H.w 103 rfl) (cv_validRow H) o_rowPathNode_2 (run_validRow H F G A B p1) (wt := 0) (cu' := 0) (su' := 0) (by decide) rfl rfl rfl rfl rfl rfl rfl ?_
  refine Wk.if_ne o_rowPathNode_5 (fun q1 => ?_) (fun q1 => ?_)
  · refine Wk.iloadN o_rowPathNode_10 rfl ?_
    refine Wk.if_lt o_rowPathNode_11 (fun q2 => ?_) (fun q2 => ?_)
    · refine Wk.iconst o_rowPathNode_30 (z := (-1 : Int32)) (by decide) ?_
      exact Wk.ireturn mrC rfl o_rowPathNode_31 rfl (by decide) (by decide) (h3 q1 q2)
    · refine Wk.iloadN o_rowPathNode_14 rfl ?_
      refine Wk.aloadN o_rowPathNode_15 rfl ?_
      refine Wk.getA (mA_rowDepthA) (by decide) (i' := 4) rfl (wf_rowDepthA H) o_rowPathNode_16 ?_
      refine Wk.iloadN o_rowPathNode_19 rfl ?_
      refine Wk.iaload (mA_rowDepthA) (by decide) (i' := 4) rfl (s4 q1 q2) (s5 q1 q2) o_rowPathNode_20 (y := ((A 3) p1)) rfl ?_
      refine Wk.icmp_gt o_rowPathNode_21 (fun q6 => ?_) (fun q6 => ?_)
      · refine Wk.iconst o_rowPathNode_30 (z := (-1 : Int32)) (by decide) ?_
        exact Wk.ireturn mrC rfl o_rowPathNode_31 rfl (by decide) (by decide) (h7 q1 q2 q6)
      · refine Wk.iloadN o_rowPathNode_24 rfl ?_
        refine Wk.bipush o_rowPathNode_25 (z := (16 : Int32)) (by decide) ?_
        refine Wk.icmp_lt o_rowPathNode_27 (fun q8 => ?_) (fun q8 => ?_)
        · refine Wk.aloadN o_rowPathNode_32 rfl ?_
          refine Wk.getA (mA_rowPathA) (by decide) (i' := 6) rfl (wf_rowPathA H) o_rowPathNode_33 ?_
          refine Wk.iloadN o_rowPathNode_36 rfl ?_
          refine Wk.bipush o_rowPathNode_37 (z := (16 : Int32)) (by decide) ?_
          refine Wk.imul o_rowPathNode_39 ?_
          refine Wk.iloadN o_rowPathNode_40 rfl ?_
          refine Wk.iadd o_rowPathNode_41 ?_
          refine Wk.iaload (mA_rowPathA) (by decide) (i' := 6) rfl (s9 q1 q2 q6 q8) (s10 q1 q2 q6 q8) o_rowPathNode_42 (y := ((A 5) ((p1 * (16 : Int32)) + p2))) rfl ?_
          exact Wk.ireturn mrC rfl o_rowPathNode_43 rfl (by decide) (by decide) (h11 q1 q2 q6 q8)
        · refine Wk.iconst o_rowPathNode_30 (z := (-1 : Int32)) (by decide) ?_
          exact Wk.ireturn mrC rfl o_rowPathNode_31 rfl (by decide) (by decide) (h12 q1 q2 q6 q8)
  · refine Wk.iconst o_rowPathNode_8 (z := (-1 : Int32)) (by decide) ?_
    exact Wk.ireturn mrC rfl o_rowPathNode_9 rfl (by decide) (by decide) (h13 q1)

theorem rt_rowPathNode (F : Nat → Int32) (G : Nat → Int64) (A : Nat → Int32 → Int32) (B : Nat → Int32 → Int64) (v0 : Int32) (r : Int32) (e : v0 = r) : some (Value.int v0) = some (.int r) ∧ (10, F, G, A, B) = (10, F, G, A, B) := by subst e; exact ⟨rfl, rfl⟩
def en_rowPathNode (F : Nat → Int32) (A : Nat → Int32 → Int32) (p1 : Int32) (p2 : Int32) : Option (Int32) := (if (f_validRow F p1) = 0 then some ((-1 : Int32)) else (if p2 < 0 then some ((-1 : Int32)) else (if (¬ p1 < 0) ∧ (p1 < (64 : Int32)) then (if ((A 3) p1) < p2 then some ((-1 : Int32)) else (if p2 < (16 : Int32) then (if (¬ ((p1 * (16 : Int32)) + p2) < 0) ∧ (((p1 * (16 : Int32)) + p2) < (1024 : Int32)) then some (((A 5) ((p1 * (16 : Int32)) + p2))) else none) else some ((-1 : Int32)))) else none)))
theorem een_rowPathNode (F : Nat → Int32) (A : Nat → Int32 → Int32) (p1 : Int32) (p2 : Int32) : en_rowPathNode F A p1 p2 = (if (f_validRow F p1) = 0 then some ((-1 : Int32)) else (if p2 < 0 then some ((-1 : Int32)) else (if (¬ p1 < 0) ∧ (p1 < (64 : Int32)) then (if ((A 3) p1) < p2 then some ((-1 : Int32)) else (if p2 < (16 : Int32) then (if (¬ ((p1 * (16 : Int32)) + p2) < 0) ∧ (((p1 * (16 : Int32)) + p2) < (1024 : Int32)) then some (((A 5) ((p1 * (16 : Int32)) + p2))) else none) else some ((-1 : Int32)))) else none))) := Eq.trans rfl rfl
def R_rowPathNode (F : Nat → Int32) (A : Nat → Int32 → Int32) (p1 : Int32) (p2 : Int32) : Int32 := (en_rowPathNode F A p1 p2).getD (0)
theorem eR_rowPathNode (F : Nat → Int32) (A : Nat → Int32 → Int32) (p1 : Int32) (p2 : Int32) : R_rowPathNode F A p1 p2 = (en_rowPathNode F A p1 p2).getD (0) := Eq.trans rfl rfl
set_option maxRecDepth 65536 in
set_option maxHeartbeats 4000000 in
theorem run_rowPathNode {l : Launch} {Z : State} {a0 : Array Value} (H : OK Z a0) (F : Nat → Int32) (G : Nat → Int64) (A : Nat → Int32 → Int32) (B : Nat → Int32 → Int64) (p1 : Int32) (p2 : Int32) (e1 : (en_rowPathNode F A p1 p2).isSome = true) :
    Wk l Z (MoC Z cdC) md_rowPathNode 0 [.val (.ref 0), .val (.int p1), .val (.int p2)] [] (10, F, G, A, B) 0 0 (fun v w' => v = some (.int (R_rowPathNode F A p1 p2)) ∧ w' = (10, F, G, A, B)) := by
  obtain ⟨r, h⟩ := Option.isSome_iff_exists.mp e1
  have e : R_rowPathNode F A p1 p2 = r := (eR_rowPathNode F A p1 p2).trans (getD_some h)
  rw [e]
  rw [een_rowPathNode] at h
  exact wp_rowPathNode H F G A B p1 p2 (fun q1 q2 => (rt_rowPathNode _ _ _ _ _ r (Option.some.inj (ifp q2 (ifn q1 h))))) (fun q1 q2 => (gd (ifn q2 (ifn q1 h))).1.1) (fun q1 q2 => (gd (ifn q2 (ifn q1 h))).1.2) (fun q1 q2 q6 => (rt_rowPathNode _ _ _ _ _ r (Option.some.inj (ifp q6 (gd (ifn q2 (ifn q1 h))).2)))) (fun q1 q2 q6 q8 => (gd (ifp q8 (ifn q6 (gd (ifn q2 (ifn q1 h))).2))).1.1) (fun q1 q2 q6 q8 => (gd (ifp q8 (ifn q6 (gd (ifn q2 (ifn q1 h))).2))).1.2) (fun q1 q2 q6 q8 => (rt_rowPathNode _ _ _ _ _ r (Option.some.inj (gd (ifp q8 (ifn q6 (gd (ifn q2 (ifn q1 h))).2))).2))) (fun q1 q2 q6 q8 => (rt_rowPathNode _ _ _ _ _ r (Option.some.inj (ifn q8 (ifn q6 (gd (ifn q2 (ifn q1 h))).2))))) (fun q1 => (rt_rowPathNode _ _ _ _ _ r (Option.some.inj (ifp q1 h))))
set_option maxRecDepth 65536 in
set_option maxHeartbeats 4000000 in
theorem wp_clearResult {l : Launch} {Z : State} {a0 : Array Value} (H : OK Z a0) (F : Nat → Int32) (G : Nat → Int64) (A : Nat → Int32 → Int32) (B : Nat → Int32 → Int64) {Q : Option Value → WO → Prop} (h1 : Q none (10, (ups (ups F 8 (0 : Int32)) 9 (0 : Int32)), G, A, B)) :
    Wk l Z (MoC Z cdC) md_clearResult 0 [.val (.ref 0)] [] (10, F, G, A, B) 0 0 Q := by
  refine Wk.aloadN o_clearResult_0 rfl ?_
  refine Wk.iconst o_clearResult_1 (z := (0 : Int32)) (by decide) ?_
  refine Wk.putI (coC H) (mI_status) (wf_status H) (Or.inl (wy_status H)) o_clearResult_2 ?_
  refine Wk.aloadN o_clearResult_5 rfl ?_
  refine Wk.iconst o_clearResult_6 (z := (0 : Int32)) (by decide) ?_
  refine Wk.putI (coC H) (mI_count) (wf_count H) (Or.inl (wy_count H)) o_clearResult_7 ?_
  exact Wk.ret mrC rfl o_clearResult_10 rfl (by decide) (by decide) h1

def F_clearResult (F : Nat → Int32) : Nat → Int32 := (ups (ups F 8 (0 : Int32)) 9 (0 : Int32))
theorem eF_clearResult (F : Nat → Int32) : F_clearResult F = (ups (ups F 8 (0 : Int32)) 9 (0 : Int32)) := Eq.trans rfl rfl
theorem F_clearResult_0 (F : Nat → Int32) : F_clearResult F 0 = (F 0) := by
  exact Eq.trans rfl rfl
theorem F_clearResult_1 (F : Nat → Int32) : F_clearResult F 1 = (F 1) := by
  exact Eq.trans rfl rfl
theorem F_clearResult_2 (F : Nat → Int32) : F_clearResult F 2 = (F 2) := by
  exact Eq.trans rfl rfl
theorem F_clearResult_3 (F : Nat → Int32) : F_clearResult F 3 = (F 3) := by
  exact Eq.trans rfl rfl
theorem F_clearResult_4 (F : Nat → Int32) : F_clearResult F 4 = (F 4) := by
  exact Eq.trans rfl rfl
theorem F_clearResult_5 (F : Nat → Int32) : F_clearResult F 5 = (F 5) := by
  exact Eq.trans rfl rfl
theorem F_clearResult_6 (F : Nat → Int32) : F_clearResult F 6 = (F 6) := by
  exact Eq.trans rfl rfl
theorem F_clearResult_7 (F : Nat → Int32) : F_clearResult F 7 = (F 7) := by
  exact Eq.trans rfl rfl
theorem F_clearResult_8 (F : Nat → Int32) : F_clearResult F 8 = (0 : Int32) := by
  exact Eq.trans rfl rfl
theorem F_clearResult_9 (F : Nat → Int32) : F_clearResult F 9 = (0 : Int32) := by
  exact Eq.trans rfl rfl
theorem F_clearResult_10 (F : Nat → Int32) : F_clearResult F 10 = (F 10) := by
  exact Eq.trans rfl rfl
theorem run_clearResult {l : Launch} {Z : State} {a0 : Array Value} (H : OK Z a0) (F : Nat → Int32) (G : Nat → Int64) (A : Nat → Int32 → Int32) (B : Nat → Int32 → Int64) :
    Wk l Z (MoC Z cdC) md_clearResult 0 [.val (.ref 0)] [] (10, F, G, A, B) 0 0 (fun v w' => v = none ∧ w' = (10, (F_clearResult F), G, A, B)) :=
  wp_clearResult H F G A B ⟨rfl, rfl⟩
set_option maxRecDepth 65536 in
set_option maxHeartbeats 4000000 in
theorem wp_addEdge {l : Launch} {Z : State} {a0 : Array Value} (H : OK Z a0) (F : Nat → Int32) (G : Nat → Int64) (A : Nat → Int32 → Int32) (B : Nat → Int32 → Int64) (p1 : Int32) (p2 : Int32) {Q : Option Value → WO → Prop} (s3 : ¬ (f_inRange F p1) = 0 → ¬ (f_inRange F p2) = 0 → ¬ ((p1 * (16 : Int32)) + p2) < 0) (s4 : ¬ (f_inRange F p1) = 0 → ¬ (f_inRange F p2) = 0 → ((p1 * (16 : Int32)) + p2) < (256 : Int32)) (s7 : ¬ (f_inRange F p1) = 0 → ¬ (f_inRange F p2) = 0 → ((A 0) ((p1 * (16 : Int32)) + p2)) = 0 → (F 3) < (F 1) → ¬ ((p1 * (16 : Int32)) + p2) < 0) (s8 : ¬ (f_inRange F p1) = 0 → ¬ (f_inRange F p2) = 0 → ((A 0) ((p1 * (16 : Int32)) + p2)) = 0 → (F 3) < (F 1) → ((p1 * (16 : Int32)) + p2) < (256 : Int32)) (h9 : ¬ (f_inRange F p1) = 0 → ¬ (f_inRange F p2) = 0 → ((A 0) ((p1 * (16 : Int32)) + p2)) = 0 → (F 3) < (F 1) → Q (some (.int (0 : Int32))) (10, (F_clearResult (ups F 3 ((F 3) + (1 : Int32)))), G, (ups A 0 (ups (A 0) ((p1 * (16 : Int32)) + p2) (1 : Int32))), B)) (h10 : ¬ (f_inRange F p1) = 0 → ¬ (f_inRange F p2) = 0 → ((A 0) ((p1 * (16 : Int32)) + p2)) = 0 → ¬ (F 3) < (F 1) → Q (some (.int (-4 : Int32))) (10, F, G, A, B)) (h11 : ¬ (f_inRange F p1) = 0 → ¬ (f_inRange F p2) = 0 → ¬ ((A 0) ((p1 * (16 : Int32)) + p2)) = 0 → Q (some (.int (-2 : Int32))) (10, F, G, A, B)) (h12 : ¬ (f_inRange F p1) = 0 → (f_inRange F p2) = 0 → Q (some (.int (-1 : Int32))) (10, F, G, A, B)) (h13 : (f_inRange F p1) = 0 → Q (some (.int (-1 : Int32))) (10, F, G, A, B)) :
    Wk l Z (MoC Z cdC) md_addEdge 0 [.val (.ref 0), .val (.int p1), .val (.int p2)] [] (10, F, G, A, B) 0 0 Q := by
  refine Wk.aloadN o_addEdge_0 rfl ?_
  refine Wk.iloadN o_addEdge_1 rfl ?_
  refine Wk.callF [.int p1] [] (H.w 83 rfl) (cv_inRange H) o_addEdge_2 (run_inRange H F G A B p1) (wt := 0) (cu' := 0) (su' := 0) (by decide) rfl rfl rfl rfl rfl rfl rfl ?_
  refine Wk.if_ne o_addEdge_5 (fun q1 => ?_) (fun q1 => ?_)
  · refine Wk.aloadN o_addEdge_10 rfl ?_
    refine Wk.iloadN o_addEdge_11 rfl ?_
    refine Wk.callF [.int p2] [] (H.w 83 rfl) (cv_inRange H) o_addEdge_12 (run_inRange H F G A B p2) (wt := 0) (cu' := 0) (su' := 0) (by decide) rfl rfl rfl rfl rfl rfl rfl ?_
    refine Wk.if_ne o_addEdge_15 (fun q2 => ?_) (fun q2 => ?_)
    · refine Wk.aloadN o_addEdge_20 rfl ?_
      refine Wk.getA (mA_adj) (by decide) (i' := 1) rfl (wf_adj H) o_addEdge_21 ?_
      refine Wk.iloadN o_addEdge_24 rfl ?_
      refine Wk.bipush o_addEdge_25 (z := (16 : Int32)) (by decide) ?_
      refine Wk.imul o_addEdge_27 ?_
      refine Wk.iloadN o_addEdge_28 rfl ?_
      refine Wk.iadd o_addEdge_29 ?_
      refine Wk.baload (mA_adj) (by decide) (i' := 1) rfl (s3 q1 q2) (s4 q1 q2) o_addEdge_30 (y := ((A 0) ((p1 * (16 : Int32)) + p2))) rfl ?_
      refine Wk.if_eq o_addEdge_31 (fun q5 => ?_) (fun q5 => ?_)
      · refine Wk.aloadN o_addEdge_37 rfl ?_
        refine Wk.getI (mI_edges) (wf_edges H) o_addEdge_38 (x := (F 3)) rfl ?_
        refine Wk.aloadN o_addEdge_41 rfl ?_
        refine Wk.getI (mI_maxEdges) (wf_maxEdges H) o_addEdge_42 (x := (F 1)) rfl ?_
        refine Wk.icmp_lt o_addEdge_45 (fun q6 => ?_) (fun q6 => ?_)
        · refine Wk.aloadN o_addEdge_51 rfl ?_
          refine Wk.getA (mA_adj) (by decide) (i' := 1) rfl (wf_adj H) o_addEdge_52 ?_
          refine Wk.iloadN o_addEdge_55 rfl ?_
          refine Wk.bipush o_addEdge_56 (z := (16 : Int32)) (by decide) ?_
          refine Wk.imul o_addEdge_58 ?_
          refine Wk.iloadN o_addEdge_59 rfl ?_
          refine Wk.iadd o_addEdge_60 ?_
          refine Wk.iconst o_addEdge_61 (z := (1 : Int32)) (by decide) ?_
          refine Wk.bastore (coC H) (f := (A 0)) (v' := (1 : Int32)) (by decide) (mA_adj) rfl (by decide) (i' := 1) rfl (s7 q1 q2 q5 q6) (s8 q1 q2 q5 q6) o_addEdge_62 ?_
          refine Wk.aloadN o_addEdge_63 rfl ?_
          refine Wk.dup o_addEdge_64 rfl ?_
          refine Wk.getI (mI_edges) (wf_edges H) o_addEdge_65 (x := (F 3)) rfl ?_
          refine Wk.iconst o_addEdge_68 (z := (1 : Int32)) (by decide) ?_
          refine Wk.iadd o_addEdge_69 ?_
          refine Wk.putI (coC H) (mI_edges) (wf_edges H) (Or.inl (wy_edges H)) o_addEdge_70 ?_
          refine Wk.aloadN o_addEdge_73 rfl ?_
          refine Wk.callU [] [] (H.w 127 rfl) (cv_clearResult H) o_addEdge_74 (run_clearResult H (ups F 3 ((F 3) + (1 : Int32))) G (ups A 0 (ups (A 0) ((p1 * (16 : Int32)) + p2) (1 : Int32))) B) (wt := 0) (cu' := 0) (su' := 0) (by decide) rfl rfl rfl rfl rfl rfl rfl ?_
          refine Wk.iconst o_addEdge_77 (z := (0 : Int32)) (by decide) ?_
          exact Wk.ireturn mrC rfl o_addEdge_78 rfl (by decide) (by decide) (h9 q1 q2 q5 q6)
        · refine Wk.bipush o_addEdge_48 (z := (-4 : Int32)) (by decide) ?_
          exact Wk.ireturn mrC rfl o_addEdge_50 rfl (by decide) (by decide) (h10 q1 q2 q5 q6)
      · refine Wk.bipush o_addEdge_34 (z := (-2 : Int32)) (by decide) ?_
        exact Wk.ireturn mrC rfl o_addEdge_36 rfl (by decide) (by decide) (h11 q1 q2 q5)
    · refine Wk.iconst o_addEdge_18 (z := (-1 : Int32)) (by decide) ?_
      exact Wk.ireturn mrC rfl o_addEdge_19 rfl (by decide) (by decide) (h12 q1 q2)
  · refine Wk.iconst o_addEdge_8 (z := (-1 : Int32)) (by decide) ?_
    exact Wk.ireturn mrC rfl o_addEdge_9 rfl (by decide) (by decide) (h13 q1)

theorem rt_addEdge (G : Nat → Int64) (B : Nat → Int32 → Int64) (v0 : Int32) (xF : Nat → Int32) (xA : Nat → Int32 → Int32) (r : Int32 × (Nat → Int32) × (Nat → Int32 → Int32)) (e : (v0, xF, xA) = r) : some (Value.int v0) = some (.int r.1) ∧ (10, xF, G, xA, B) = (10, r.2.1, G, r.2.2, B) := by subst e; exact ⟨rfl, rfl⟩
def en_addEdge (F : Nat → Int32) (A : Nat → Int32 → Int32) (p1 : Int32) (p2 : Int32) : Option (Int32 × (Nat → Int32) × (Nat → Int32 → Int32)) := (if (f_inRange F p1) = 0 then some ((-1 : Int32), F, A) else (if (f_inRange F p2) = 0 then some ((-1 : Int32), F, A) else (if (¬ ((p1 * (16 : Int32)) + p2) < 0) ∧ (((p1 * (16 : Int32)) + p2) < (256 : Int32)) then (if ((A 0) ((p1 * (16 : Int32)) + p2)) = 0 then (if (F 3) < (F 1) then (if (¬ ((p1 * (16 : Int32)) + p2) < 0) ∧ (((p1 * (16 : Int32)) + p2) < (256 : Int32)) then some ((0 : Int32), (F_clearResult (ups F 3 ((F 3) + (1 : Int32)))), (ups A 0 (ups (A 0) ((p1 * (16 : Int32)) + p2) (1 : Int32)))) else none) else some ((-4 : Int32), F, A)) else some ((-2 : Int32), F, A)) else none)))
theorem een_addEdge (F : Nat → Int32) (A : Nat → Int32 → Int32) (p1 : Int32) (p2 : Int32) : en_addEdge F A p1 p2 = (if (f_inRange F p1) = 0 then some ((-1 : Int32), F, A) else (if (f_inRange F p2) = 0 then some ((-1 : Int32), F, A) else (if (¬ ((p1 * (16 : Int32)) + p2) < 0) ∧ (((p1 * (16 : Int32)) + p2) < (256 : Int32)) then (if ((A 0) ((p1 * (16 : Int32)) + p2)) = 0 then (if (F 3) < (F 1) then (if (¬ ((p1 * (16 : Int32)) + p2) < 0) ∧ (((p1 * (16 : Int32)) + p2) < (256 : Int32)) then some ((0 : Int32), (F_clearResult (ups F 3 ((F 3) + (1 : Int32)))), (ups A 0 (ups (A 0) ((p1 * (16 : Int32)) + p2) (1 : Int32)))) else none) else some ((-4 : Int32), F, A)) else some ((-2 : Int32), F, A)) else none))) := Eq.trans rfl rfl
def R_addEdge (F : Nat → Int32) (A : Nat → Int32 → Int32) (p1 : Int32) (p2 : Int32) : Int32 × (Nat → Int32) × (Nat → Int32 → Int32) := (en_addEdge F A p1 p2).getD (0, (fun _ => 0), (fun _ _ => 0))
theorem eR_addEdge (F : Nat → Int32) (A : Nat → Int32 → Int32) (p1 : Int32) (p2 : Int32) : R_addEdge F A p1 p2 = (en_addEdge F A p1 p2).getD (0, (fun _ => 0), (fun _ _ => 0)) := Eq.trans rfl rfl
set_option maxRecDepth 65536 in
set_option maxHeartbeats 4000000 in
theorem run_addEdge {l : Launch} {Z : State} {a0 : Array Value} (H : OK Z a0) (F : Nat → Int32) (G : Nat → Int64) (A : Nat → Int32 → Int32) (B : Nat → Int32 → Int64) (p1 : Int32) (p2 : Int32) (e1 : (en_addEdge F A p1 p2).isSome = true) :
    Wk l Z (MoC Z cdC) md_addEdge 0 [.val (.ref 0), .val (.int p1), .val (.int p2)] [] (10, F, G, A, B) 0 0 (fun v w' => v = some (.int (R_addEdge F A p1 p2).1) ∧ w' = (10, (R_addEdge F A p1 p2).2.1, G, (R_addEdge F A p1 p2).2.2, B)) := by
  obtain ⟨r, h⟩ := Option.isSome_iff_exists.mp e1
  have e : R_addEdge F A p1 p2 = r := (eR_addEdge F A p1 p2).trans (getD_some h)
  rw [e]
  rw [een_addEdge] at h
  exact wp_addEdge H F G A B p1 p2 (fun q1 q2 => (gd (ifn q2 (ifn q1 h))).1.1) (fun q1 q2 => (gd (ifn q2 (ifn q1 h))).1.2) (fun q1 q2 q5 q6 => (gd (ifp q6 (ifp q5 (gd (ifn q2 (ifn q1 h))).2))).1.1) (fun q1 q2 q5 q6 => (gd (ifp q6 (ifp q5 (gd (ifn q2 (ifn q1 h))).2))).1.2) (fun q1 q2 q5 q6 => (rt_addEdge _ _ _ _ _ r (Option.some.inj (gd (ifp q6 (ifp q5 (gd (ifn q2 (ifn q1 h))).2))).2))) (fun q1 q2 q5 q6 => (rt_addEdge _ _ _ _ _ r (Option.some.inj (ifn q6 (ifp q5 (gd (ifn q2 (ifn q1 h))).2))))) (fun q1 q2 q5 => (rt_addEdge _ _ _ _ _ r (Option.some.inj (ifn q5 (gd (ifn q2 (ifn q1 h))).2)))) (fun q1 q2 => (rt_addEdge _ _ _ _ _ r (Option.some.inj (ifp q2 (ifn q1 h))))) (fun q1 => (rt_addEdge _ _ _ _ _ r (Option.some.inj (ifp q1 h))))
set_option maxRecDepth 65536 in
set_option maxHeartbeats 4000000 in
theorem wp_removeEdge {l : Launch} {Z : State} {a0 : Array Value} (H : OK Z a0) (F : Nat → Int32) (G : Nat → Int64) (A : Nat → Int32 → Int32) (B : Nat → Int32 → Int64) (p1 : Int32) (p2 : Int32) {Q : Option Value → WO → Prop} (s3 : ¬ (f_inRange F p1) = 0 → ¬ (f_inRange F p2) = 0 → ¬ ((p1 * (16 : Int32)) + p2) < 0) (s4 : ¬ (f_inRange F p1) = 0 → ¬ (f_inRange F p2) = 0 → ((p1 * (16 : Int32)) + p2) < (256 : Int32)) (s6 : ¬ (f_inRange F p1) = 0 → ¬ (f_inRange F p2) = 0 → ¬ ((A 0) ((p1 * (16 : Int32)) + p2)) = 0 → ¬ ((p1 * (16 : Int32)) + p2) < 0) (s7 : ¬ (f_inRange F p1) = 0 → ¬ (f_inRange F p2) = 0 → ¬ ((A 0) ((p1 * (16 : Int32)) + p2)) = 0 → ((p1 * (16 : Int32)) + p2) < (256 : Int32)) (h8 : ¬ (f_inRange F p1) = 0 → ¬ (f_inRange F p2) = 0 → ¬ ((A 0) ((p1 * (16 : Int32)) + p2)) = 0 → Q (some (.int (0 : Int32))) (10, (F_clearResult (ups F 3 ((F 3) - (1 : Int32)))), G, (ups A 0 (ups (A 0) ((p1 * (16 : Int32)) + p2) (0 : Int32))), B)) (h9 : ¬ (f_inRange F p1) = 0 → ¬ (f_inRange F p2) = 0 → ((A 0) ((p1 * (16 : Int32)) + p2)) = 0 → Q (some (.int (-3 : Int32))) (10, F, G, A, B)) (h10 : ¬ (f_inRange F p1) = 0 → (f_inRange F p2) = 0 → Q (some (.int (-1 : Int32))) (10, F, G, A, B)) (h11 : (f_inRange F p1) = 0 → Q (some (.int (-1 : Int32))) (10, F, G, A, B)) :
    Wk l Z (MoC Z cdC) md_removeEdge 0 [.val (.ref 0), .val (.int p1), .val (.int p2)] [] (10, F, G, A, B) 0 0 Q := by
  refine Wk.aloadN o_removeEdge_0 rfl ?_
  refine Wk.iloadN o_removeEdge_1 rfl ?_
  refine Wk.callF [.int p1] [] (H.w 83 rfl) (cv_inRange H) o_removeEdge_2 (run_inRange H F G A B p1) (wt := 0) (cu' := 0) (su' := 0) (by decide) rfl rfl rfl rfl rfl rfl rfl ?_
  refine Wk.if_ne o_removeEdge_5 (fun q1 => ?_) (fun q1 => ?_)
  · refine Wk.aloadN o_removeEdge_10 rfl ?_
    refine Wk.iloadN o_removeEdge_11 rfl ?_
    refine Wk.callF [.int p2] [] (H.w 83 rfl) (cv_inRange H) o_removeEdge_12 (run_inRange H F G A B p2) (wt := 0) (cu' := 0) (su' := 0) (by decide) rfl rfl rfl rfl rfl rfl rfl ?_
    refine Wk.if_ne o_removeEdge_15 (fun q2 => ?_) (fun q2 => ?_)
    · refine Wk.aloadN o_removeEdge_20 rfl ?_
      refine Wk.getA (mA_adj) (by decide) (i' := 1) rfl (wf_adj H) o_removeEdge_21 ?_
      refine Wk.iloadN o_removeEdge_24 rfl ?_
      refine Wk.bipush o_removeEdge_25 (z := (16 : Int32)) (by decide) ?_
      refine Wk.imul o_removeEdge_27 ?_
      refine Wk.iloadN o_removeEdge_28 rfl ?_
      refine Wk.iadd o_removeEdge_29 ?_
      refine Wk.baload (mA_adj) (by decide) (i' := 1) rfl (s3 q1 q2) (s4 q1 q2) o_removeEdge_30 (y := ((A 0) ((p1 * (16 : Int32)) + p2))) rfl ?_
      refine Wk.if_ne o_removeEdge_31 (fun q5 => ?_) (fun q5 => ?_)
      · refine Wk.aloadN o_removeEdge_37 rfl ?_
        refine Wk.getA (mA_adj) (by decide) (i' := 1) rfl (wf_adj H) o_removeEdge_38 ?_
        refine Wk.iloadN o_removeEdge_41 rfl ?_
        refine Wk.bipush o_removeEdge_42 (z := (16 : Int32)) (by decide) ?_
        refine Wk.imul o_removeEdge_44 ?_
        refine Wk.iloadN o_removeEdge_45 rfl ?_
        refine Wk.iadd o_removeEdge_46 ?_
        refine Wk.iconst o_removeEdge_47 (z := (0 : Int32)) (by decide) ?_
        refine Wk.bastore (coC H) (f := (A 0)) (v' := (0 : Int32)) (by decide) (mA_adj) rfl (by decide) (i' := 1) rfl (s6 q1 q2 q5) (s7 q1 q2 q5) o_removeEdge_48 ?_
        refine Wk.aloadN o_removeEdge_49 rfl ?_
        refine Wk.dup o_removeEdge_50 rfl ?_
        refine Wk.getI (mI_edges) (wf_edges H) o_removeEdge_51 (x := (F 3)) rfl ?_
        refine Wk.iconst o_removeEdge_54 (z := (1 : Int32)) (by decide) ?_
        refine Wk.isub o_removeEdge_55 ?_
        refine Wk.putI (coC H) (mI_edges) (wf_edges H) (Or.inl (wy_edges H)) o_removeEdge_56 ?_
        refine Wk.aloadN o_removeEdge_59 rfl ?_
        refine Wk.callU [] [] (H.w 127 rfl) (cv_clearResult H) o_removeEdge_60 (run_clearResult H (ups F 3 ((F 3) - (1 : Int32))) G (ups A 0 (ups (A 0) ((p1 * (16 : Int32)) + p2) (0 : Int32))) B) (wt := 0) (cu' := 0) (su' := 0) (by decide) rfl rfl rfl rfl rfl rfl rfl ?_
        refine Wk.iconst o_removeEdge_63 (z := (0 : Int32)) (by decide) ?_
        exact Wk.ireturn mrC rfl o_removeEdge_64 rfl (by decide) (by decide) (h8 q1 q2 q5)
      · refine Wk.bipush o_removeEdge_34 (z := (-3 : Int32)) (by decide) ?_
        exact Wk.ireturn mrC rfl o_removeEdge_36 rfl (by decide) (by decide) (h9 q1 q2 q5)
    · refine Wk.iconst o_removeEdge_18 (z := (-1 : Int32)) (by decide) ?_
      exact Wk.ireturn mrC rfl o_removeEdge_19 rfl (by decide) (by decide) (h10 q1 q2)
  · refine Wk.iconst o_removeEdge_8 (z := (-1 : Int32)) (by decide) ?_
    exact Wk.ireturn mrC rfl o_removeEdge_9 rfl (by decide) (by decide) (h11 q1)

theorem rt_removeEdge (G : Nat → Int64) (B : Nat → Int32 → Int64) (v0 : Int32) (xF : Nat → Int32) (xA : Nat → Int32 → Int32) (r : Int32 × (Nat → Int32) × (Nat → Int32 → Int32)) (e : (v0, xF, xA) = r) : some (Value.int v0) = some (.int r.1) ∧ (10, xF, G, xA, B) = (10, r.2.1, G, r.2.2, B) := by subst e; exact ⟨rfl, rfl⟩
def en_removeEdge (F : Nat → Int32) (A : Nat → Int32 → Int32) (p1 : Int32) (p2 : Int32) : Option (Int32 × (Nat → Int32) × (Nat → Int32 → Int32)) := (if (f_inRange F p1) = 0 then some ((-1 : Int32), F, A) else (if (f_inRange F p2) = 0 then some ((-1 : Int32), F, A) else (if (¬ ((p1 * (16 : Int32)) + p2) < 0) ∧ (((p1 * (16 : Int32)) + p2) < (256 : Int32)) then (if ((A 0) ((p1 * (16 : Int32)) + p2)) = 0 then some ((-3 : Int32), F, A) else (if (¬ ((p1 * (16 : Int32)) + p2) < 0) ∧ (((p1 * (16 : Int32)) + p2) < (256 : Int32)) then some ((0 : Int32), (F_clearResult (ups F 3 ((F 3) - (1 : Int32)))), (ups A 0 (ups (A 0) ((p1 * (16 : Int32)) + p2) (0 : Int32)))) else none)) else none)))
theorem een_removeEdge (F : Nat → Int32) (A : Nat → Int32 → Int32) (p1 : Int32) (p2 : Int32) : en_removeEdge F A p1 p2 = (if (f_inRange F p1) = 0 then some ((-1 : Int32), F, A) else (if (f_inRange F p2) = 0 then some ((-1 : Int32), F, A) else (if (¬ ((p1 * (16 : Int32)) + p2) < 0) ∧ (((p1 * (16 : Int32)) + p2) < (256 : Int32)) then (if ((A 0) ((p1 * (16 : Int32)) + p2)) = 0 then some ((-3 : Int32), F, A) else (if (¬ ((p1 * (16 : Int32)) + p2) < 0) ∧ (((p1 * (16 : Int32)) + p2) < (256 : Int32)) then some ((0 : Int32), (F_clearResult (ups F 3 ((F 3) - (1 : Int32)))), (ups A 0 (ups (A 0) ((p1 * (16 : Int32)) + p2) (0 : Int32)))) else none)) else none))) := Eq.trans rfl rfl
def R_removeEdge (F : Nat → Int32) (A : Nat → Int32 → Int32) (p1 : Int32) (p2 : Int32) : Int32 × (Nat → Int32) × (Nat → Int32 → Int32) := (en_removeEdge F A p1 p2).getD (0, (fun _ => 0), (fun _ _ => 0))
theorem eR_removeEdge (F : Nat → Int32) (A : Nat → Int32 → Int32) (p1 : Int32) (p2 : Int32) : R_removeEdge F A p1 p2 = (en_removeEdge F A p1 p2).getD (0, (fun _ => 0), (fun _ _ => 0)) := Eq.trans rfl rfl
set_option maxRecDepth 65536 in
set_option maxHeartbeats 4000000 in
theorem run_removeEdge {l : Launch} {Z : State} {a0 : Array Value} (H : OK Z a0) (F : Nat → Int32) (G : Nat → Int64) (A : Nat → Int32 → Int32) (B : Nat → Int32 → Int64) (p1 : Int32) (p2 : Int32) (e1 : (en_removeEdge F A p1 p2).isSome = true) :
    Wk l Z (MoC Z cdC) md_removeEdge 0 [.val (.ref 0), .val (.int p1), .val (.int p2)] [] (10, F, G, A, B) 0 0 (fun v w' => v = some (.int (R_removeEdge F A p1 p2).1) ∧ w' = (10, (R_removeEdge F A p1 p2).2.1, G, (R_removeEdge F A p1 p2).2.2, B)) := by
  obtain ⟨r, h⟩ := Option.isSome_iff_exists.mp e1
  have e : R_removeEdge F A p1 p2 = r := (eR_removeEdge F A p1 p2).trans (getD_some h)
  rw [e]
  rw [een_removeEdge] at h
  exact wp_removeEdge H F G A B p1 p2 (fun q1 q2 => (gd (ifn q2 (ifn q1 h))).1.1) (fun q1 q2 => (gd (ifn q2 (ifn q1 h))).1.2) (fun q1 q2 q5 => (gd (ifn q5 (gd (ifn q2 (ifn q1 h))).2)).1.1) (fun q1 q2 q5 => (gd (ifn q5 (gd (ifn q2 (ifn q1 h))).2)).1.2) (fun q1 q2 q5 => (rt_removeEdge _ _ _ _ _ r (Option.some.inj (gd (ifn q5 (gd (ifn q2 (ifn q1 h))).2)).2))) (fun q1 q2 q5 => (rt_removeEdge _ _ _ _ _ r (Option.some.inj (ifp q5 (gd (ifn q2 (ifn q1 h))).2)))) (fun q1 q2 => (rt_removeEdge _ _ _ _ _ r (Option.some.inj (ifp q2 (ifn q1 h))))) (fun q1 => (rt_removeEdge _ _ _ _ _ r (Option.some.inj (ifp q1 h))))
set_option maxRecDepth 65536 in
set_option maxHeartbeats 4000000 in
theorem wp_addSeed {l : Launch} {Z : State} {a0 : Array Value} (H : OK Z a0) (F : Nat → Int32) (G : Nat → Int64) (A : Nat → Int32 → Int32) (B : Nat → Int32 → Int64) (p1 : Int32) {Q : Option Value → WO → Prop} (s2 : ¬ (f_inRange F p1) = 0 → ¬ p1 < 0) (s3 : ¬ (f_inRange F p1) = 0 → p1 < (16 : Int32)) (s5 : ¬ (f_inRange F p1) = 0 → ((A 1) p1) = 0 → ¬ p1 < 0) (s6 : ¬ (f_inRange F p1) = 0 → ((A 1) p1) = 0 → p1 < (16 : Int32)) (h7 : ¬ (f_inRange F p1) = 0 → ((A 1) p1) = 0 → Q (some (.int (0 : Int32))) (10, (F_clearResult F), G, (ups A 1 (ups (A 1) p1 (1 : Int32))), B)) (h8 : ¬ (f_inRange F p1) = 0 → ¬ ((A 1) p1) = 0 → Q (some (.int (-2 : Int32))) (10, F, G, A, B)) (h9 : (f_inRange F p1) = 0 → Q (some (.int (-1 : Int32))) (10, F, G, A, B)) :
    Wk l Z (MoC Z cdC) md_addSeed 0 [.val (.ref 0), .val (.int p1)] [] (10, F, G, A, B) 0 0 Q := by
  refine Wk.aloadN o_addSeed_0 rfl ?_
  refine Wk.iloadN o_addSeed_1 rfl ?_
  refine Wk.callF [.int p1] [] (H.w 83 rfl) (cv_inRange H) o_addSeed_2 (run_inRange H F G A B p1) (wt := 0) (cu' := 0) (su' := 0) (by decide) rfl rfl rfl rfl rfl rfl rfl ?_
  refine Wk.if_ne o_addSeed_5 (fun q1 => ?_) (fun q1 => ?_)
  · refine Wk.aloadN o_addSeed_10 rfl ?_
    refine Wk.getA (mA_seed) (by decide) (i' := 2) rfl (wf_seed H) o_addSeed_11 ?_
    refine Wk.iloadN o_addSeed_14 rfl ?_
    refine Wk.baload (mA_seed) (by decide) (i' := 2) rfl (s2 q1) (s3 q1) o_addSeed_15 (y := ((A 1) p1)) rfl ?_
    refine Wk.if_eq o_addSeed_16 (fun q4 => ?_) (fun q4 => ?_)
    · refine Wk.aloadN o_addSeed_22 rfl ?_
      refine Wk.getA (mA_seed) (by decide) (i' := 2) rfl (wf_seed H) o_addSeed_23 ?_
      refine Wk.iloadN o_addSeed_26 rfl ?_
      refine Wk.iconst o_addSeed_27 (z := (1 : Int32)) (by decide) ?_
      refine Wk.bastore (coC H) (f := (A 1)) (v' := (1 : Int32)) (by decide) (mA_seed) rfl (by decide) (i' := 2) rfl (s5 q1 q4) (s6 q1 q4) o_addSeed_28 ?_
      refine Wk.aloadN o_addSeed_29 rfl ?_
      refine Wk.callU [] [] (H.w 127 rfl) (cv_clearResult H) o_addSeed_30 (run_clearResult H F G (ups A 1 (ups (A 1) p1 (1 : Int32))) B) (wt := 0) (cu' := 0) (su' := 0) (by decide) rfl rfl rfl rfl rfl rfl rfl ?_
      refine Wk.iconst o_addSeed_33 (z := (0 : Int32)) (by decide) ?_
      exact Wk.ireturn mrC rfl o_addSeed_34 rfl (by decide) (by decide) (h7 q1 q4)
    · refine Wk.bipush o_addSeed_19 (z := (-2 : Int32)) (by decide) ?_
      exact Wk.ireturn mrC rfl o_addSeed_21 rfl (by decide) (by decide) (h8 q1 q4)
  · refine Wk.iconst o_addSeed_8 (z := (-1 : Int32)) (by decide) ?_
    exact Wk.ireturn mrC rfl o_addSeed_9 rfl (by decide) (by decide) (h9 q1)

theorem rt_addSeed (G : Nat → Int64) (B : Nat → Int32 → Int64) (v0 : Int32) (xF : Nat → Int32) (xA : Nat → Int32 → Int32) (r : Int32 × (Nat → Int32) × (Nat → Int32 → Int32)) (e : (v0, xF, xA) = r) : some (Value.int v0) = some (.int r.1) ∧ (10, xF, G, xA, B) = (10, r.2.1, G, r.2.2, B) := by subst e; exact ⟨rfl, rfl⟩
def en_addSeed (F : Nat → Int32) (A : Nat → Int32 → Int32) (p1 : Int32) : Option (Int32 × (Nat → Int32) × (Nat → Int32 → Int32)) := (if (f_inRange F p1) = 0 then some ((-1 : Int32), F, A) else (if (¬ p1 < 0) ∧ (p1 < (16 : Int32)) then (if ((A 1) p1) = 0 then (if (¬ p1 < 0) ∧ (p1 < (16 : Int32)) then some ((0 : Int32), (F_clearResult F), (ups A 1 (ups (A 1) p1 (1 : Int32)))) else none) else some ((-2 : Int32), F, A)) else none))
theorem een_addSeed (F : Nat → Int32) (A : Nat → Int32 → Int32) (p1 : Int32) : en_addSeed F A p1 = (if (f_inRange F p1) = 0 then some ((-1 : Int32), F, A) else (if (¬ p1 < 0) ∧ (p1 < (16 : Int32)) then (if ((A 1) p1) = 0 then (if (¬ p1 < 0) ∧ (p1 < (16 : Int32)) then some ((0 : Int32), (F_clearResult F), (ups A 1 (ups (A 1) p1 (1 : Int32)))) else none) else some ((-2 : Int32), F, A)) else none)) := Eq.trans rfl rfl
def R_addSeed (F : Nat → Int32) (A : Nat → Int32 → Int32) (p1 : Int32) : Int32 × (Nat → Int32) × (Nat → Int32 → Int32) := (en_addSeed F A p1).getD (0, (fun _ => 0), (fun _ _ => 0))
theorem eR_addSeed (F : Nat → Int32) (A : Nat → Int32 → Int32) (p1 : Int32) : R_addSeed F A p1 = (en_addSeed F A p1).getD (0, (fun _ => 0), (fun _ _ => 0)) := Eq.trans rfl rfl
set_option maxRecDepth 65536 in
set_option maxHeartbeats 4000000 in
theorem run_addSeed {l : Launch} {Z : State} {a0 : Array Value} (H : OK Z a0) (F : Nat → Int32) (G : Nat → Int64) (A : Nat → Int32 → Int32) (B : Nat → Int32 → Int64) (p1 : Int32) (e1 : (en_addSeed F A p1).isSome = true) :
    Wk l Z (MoC Z cdC) md_addSeed 0 [.val (.ref 0), .val (.int p1)] [] (10, F, G, A, B) 0 0 (fun v w' => v = some (.int (R_addSeed F A p1).1) ∧ w' = (10, (R_addSeed F A p1).2.1, G, (R_addSeed F A p1).2.2, B)) := by
  obtain ⟨r, h⟩ := Option.isSome_iff_exists.mp e1
  have e : R_addSeed F A p1 = r := (eR_addSeed F A p1).trans (getD_some h)
  rw [e]
  rw [een_addSeed] at h
  exact wp_addSeed H F G A B p1 (fun q1 => (gd (ifn q1 h)).1.1) (fun q1 => (gd (ifn q1 h)).1.2) (fun q1 q4 => (gd (ifp q4 (gd (ifn q1 h)).2)).1.1) (fun q1 q4 => (gd (ifp q4 (gd (ifn q1 h)).2)).1.2) (fun q1 q4 => (rt_addSeed _ _ _ _ _ r (Option.some.inj (gd (ifp q4 (gd (ifn q1 h)).2)).2))) (fun q1 q4 => (rt_addSeed _ _ _ _ _ r (Option.some.inj (ifn q4 (gd (ifn q1 h)).2)))) (fun q1 => (rt_addSeed _ _ _ _ _ r (Option.some.inj (ifp q1 h))))
set_option maxRecDepth 65536 in
set_option maxHeartbeats 4000000 in
theorem wp_removeSeed {l : Launch} {Z : State} {a0 : Array Value} (H : OK Z a0) (F : Nat → Int32) (G : Nat → Int64) (A : Nat → Int32 → Int32) (B : Nat → Int32 → Int64) (p1 : Int32) {Q : Option Value → WO → Prop} (s2 : ¬ (f_inRange F p1) = 0 → ¬ p1 < 0) (s3 : ¬ (f_inRange F p1) = 0 → p1 < (16 : Int32)) (s5 : ¬ (f_inRange F p1) = 0 → ¬ ((A 1) p1) = 0 → ¬ p1 < 0) (s6 : ¬ (f_inRange F p1) = 0 → ¬ ((A 1) p1) = 0 → p1 < (16 : Int32)) (h7 : ¬ (f_inRange F p1) = 0 → ¬ ((A 1) p1) = 0 → Q (some (.int (0 : Int32))) (10, (F_clearResult F), G, (ups A 1 (ups (A 1) p1 (0 : Int32))), B)) (h8 : ¬ (f_inRange F p1) = 0 → ((A 1) p1) = 0 → Q (some (.int (-3 : Int32))) (10, F, G, A, B)) (h9 : (f_inRange F p1) = 0 → Q (some (.int (-1 : Int32))) (10, F, G, A, B)) :
    Wk l Z (MoC Z cdC) md_removeSeed 0 [.val (.ref 0), .val (.int p1)] [] (10, F, G, A, B) 0 0 Q := by
  refine Wk.aloadN o_removeSeed_0 rfl ?_
  refine Wk.iloadN o_removeSeed_1 rfl ?_
  refine Wk.callF [.int p1] [] (H.w 83 rfl) (cv_inRange H) o_removeSeed_2 (run_inRange H F G A B p1) (wt := 0) (cu' := 0) (su' := 0) (by decide) rfl rfl rfl rfl rfl rfl rfl ?_
  refine Wk.if_ne o_removeSeed_5 (fun q1 => ?_) (fun q1 => ?_)
  · refine Wk.aloadN o_removeSeed_10 rfl ?_
    refine Wk.getA (mA_seed) (by decide) (i' := 2) rfl (wf_seed H) o_removeSeed_11 ?_
    refine Wk.iloadN o_removeSeed_14 rfl ?_
    refine Wk.baload (mA_seed) (by decide) (i' := 2) rfl (s2 q1) (s3 q1) o_removeSeed_15 (y := ((A 1) p1)) rfl ?_
    refine Wk.if_ne o_removeSeed_16 (fun q4 => ?_) (fun q4 => ?_)
    · refine Wk.aloadN o_removeSeed_22 rfl ?_
      refine Wk.getA (mA_seed) (by decide) (i' := 2) rfl (wf_seed H) o_removeSeed_23 ?_
      refine Wk.iloadN o_removeSeed_26 rfl ?_
      refine Wk.iconst o_removeSeed_27 (z := (0 : Int32)) (by decide) ?_
      refine Wk.bastore (coC H) (f := (A 1)) (v' := (0 : Int32)) (by decide) (mA_seed) rfl (by decide) (i' := 2) rfl (s5 q1 q4) (s6 q1 q4) o_removeSeed_28 ?_
      refine Wk.aloadN o_removeSeed_29 rfl ?_
      refine Wk.callU [] [] (H.w 127 rfl) (cv_clearResult H) o_removeSeed_30 (run_clearResult H F G (ups A 1 (ups (A 1) p1 (0 : Int32))) B) (wt := 0) (cu' := 0) (su' := 0) (by decide) rfl rfl rfl rfl rfl rfl rfl ?_
      refine Wk.iconst o_removeSeed_33 (z := (0 : Int32)) (by decide) ?_
      exact Wk.ireturn mrC rfl o_removeSeed_34 rfl (by decide) (by decide) (h7 q1 q4)
    · refine Wk.bipush o_removeSeed_19 (z := (-3 : Int32)) (by decide) ?_
      exact Wk.ireturn mrC rfl o_removeSeed_21 rfl (by decide) (by decide) (h8 q1 q4)
  · refine Wk.iconst o_removeSeed_8 (z := (-1 : Int32)) (by decide) ?_
    exact Wk.ireturn mrC rfl o_removeSeed_9 rfl (by decide) (by decide) (h9 q1)

theorem rt_removeSeed (G : Nat → Int64) (B : Nat → Int32 → Int64) (v0 : Int32) (xF : Nat → Int32) (xA : Nat → Int32 → Int32) (r : Int32 × (Nat → Int32) × (Nat → Int32 → Int32)) (e : (v0, xF, xA) = r) : some (Value.int v0) = some (.int r.1) ∧ (10, xF, G, xA, B) = (10, r.2.1, G, r.2.2, B) := by subst e; exact ⟨rfl, rfl⟩
def en_removeSeed (F : Nat → Int32) (A : Nat → Int32 → Int32) (p1 : Int32) : Option (Int32 × (Nat → Int32) × (Nat → Int32 → Int32)) := (if (f_inRange F p1) = 0 then some ((-1 : Int32), F, A) else (if (¬ p1 < 0) ∧ (p1 < (16 : Int32)) then (if ((A 1) p1) = 0 then some ((-3 : Int32), F, A) else (if (¬ p1 < 0) ∧ (p1 < (16 : Int32)) then some ((0 : Int32), (F_clearResult F), (ups A 1 (ups (A 1) p1 (0 : Int32)))) else none)) else none))
theorem een_removeSeed (F : Nat → Int32) (A : Nat → Int32 → Int32) (p1 : Int32) : en_removeSeed F A p1 = (if (f_inRange F p1) = 0 then some ((-1 : Int32), F, A) else (if (¬ p1 < 0) ∧ (p1 < (16 : Int32)) then (if ((A 1) p1) = 0 then some ((-3 : Int32), F, A) else (if (¬ p1 < 0) ∧ (p1 < (16 : Int32)) then some ((0 : Int32), (F_clearResult F), (ups A 1 (ups (A 1) p1 (0 : Int32)))) else none)) else none)) := Eq.trans rfl rfl
def R_removeSeed (F : Nat → Int32) (A : Nat → Int32 → Int32) (p1 : Int32) : Int32 × (Nat → Int32) × (Nat → Int32 → Int32) := (en_removeSeed F A p1).getD (0, (fun _ => 0), (fun _ _ => 0))
theorem eR_removeSeed (F : Nat → Int32) (A : Nat → Int32 → Int32) (p1 : Int32) : R_removeSeed F A p1 = (en_removeSeed F A p1).getD (0, (fun _ => 0), (fun _ _ => 0)) := Eq.trans rfl rfl
set_option maxRecDepth 65536 in
set_option maxHeartbeats 4000000 in
theorem run_removeSeed {l : Launch} {Z : State} {a0 : Array Value} (H : OK Z a0) (F : Nat → Int32) (G : Nat → Int64) (A : Nat → Int32 → Int32) (B : Nat → Int32 → Int64) (p1 : Int32) (e1 : (en_removeSeed F A p1).isSome = true) :
    Wk l Z (MoC Z cdC) md_removeSeed 0 [.val (.ref 0), .val (.int p1)] [] (10, F, G, A, B) 0 0 (fun v w' => v = some (.int (R_removeSeed F A p1).1) ∧ w' = (10, (R_removeSeed F A p1).2.1, G, (R_removeSeed F A p1).2.2, B)) := by
  obtain ⟨r, h⟩ := Option.isSome_iff_exists.mp e1
  have e : R_removeSeed F A p1 = r := (eR_removeSeed F A p1).trans (getD_some h)
  rw [e]
  rw [een_removeSeed] at h
  exact wp_removeSeed H F G A B p1 (fun q1 => (gd (ifn q1 h)).1.1) (fun q1 => (gd (ifn q1 h)).1.2) (fun q1 q4 => (gd (ifn q4 (gd (ifn q1 h)).2)).1.1) (fun q1 q4 => (gd (ifn q4 (gd (ifn q1 h)).2)).1.2) (fun q1 q4 => (rt_removeSeed _ _ _ _ _ r (Option.some.inj (gd (ifn q4 (gd (ifn q1 h)).2)).2))) (fun q1 q4 => (rt_removeSeed _ _ _ _ _ r (Option.some.inj (ifp q4 (gd (ifn q1 h)).2)))) (fun q1 => (rt_removeSeed _ _ _ _ _ r (Option.some.inj (ifp q1 h))))
set_option maxRecDepth 65536 in
set_option maxHeartbeats 4000000 in
theorem wp_setQuery {l : Launch} {Z : State} {a0 : Array Value} (H : OK Z a0) (F : Nat → Int32) (G : Nat → Int64) (A : Nat → Int32 → Int32) (B : Nat → Int32 → Int64) (p1 : Int32) (p2 : Int32) (p3 : Int32) (p4 : Int32) {Q : Option Value → WO → Prop} (h4 : p1 = 0 → p2 = 0 → p4 < 0 → Q (some (.int (-1 : Int32))) (10, F, G, A, B)) (h6 : p1 = 0 → p2 = 0 → ¬ p4 < 0 → ¬ (15 : Int32) < p4 → Q (some (.int (0 : Int32))) (10, (F_clearResult (ups (ups (ups (ups F 4 p1) 5 p2) 6 (nar .boolean p3)) 7 p4)), G, A, B)) (h7 : p1 = 0 → p2 = 0 → ¬ p4 < 0 → (15 : Int32) < p4 → Q (some (.int (-1 : Int32))) (10, F, G, A, B)) (h10 : p1 = 0 → ¬ p2 = 0 → p2 = (1 : Int32) → p4 < 0 → Q (some (.int (-1 : Int32))) (10, F, G, A, B)) (h12 : p1 = 0 → ¬ p2 = 0 → p2 = (1 : Int32) → ¬ p4 < 0 → ¬ (15 : Int32) < p4 → Q (some (.int (0 : Int32))) (10, (F_clearResult (ups (ups (ups (ups F 4 p1) 5 p2) 6 (nar .boolean p3)) 7 p4)), G, A, B)) (h13 : p1 = 0 → ¬ p2 = 0 → p2 = (1 : Int32) → ¬ p4 < 0 → (15 : Int32) < p4 → Q (some (.int (-1 : Int32))) (10, F, G, A, B)) (h14 : p1 = 0 → ¬ p2 = 0 → ¬ p2 = (1 : Int32) → Q (some (.int (-5 : Int32))) (10, F, G, A, B)) (h18 : ¬ p1 = 0 → p1 = (1 : Int32) → p2 = 0 → p4 < 0 → Q (some (.int (-1 : Int32))) (10, F, G, A, B)) (h20 : ¬ p1 = 0 → p1 = (1 : Int32) → p2 = 0 → ¬ p4 < 0 → ¬ (15 : Int32) < p4 → Q (some (.int (0 : Int32))) (10, (F_clearResult (ups (ups (ups (ups F 4 p1) 5 p2) 6 (nar .boolean p3)) 7 p4)), G, A, B)) (h21 : ¬ p1 = 0 → p1 = (1 : Int32) → p2 = 0 → ¬ p4 < 0 → (15 : Int32) < p4 → Q (some (.int (-1 : Int32))) (10, F, G, A, B)) (h24 : ¬ p1 = 0 → p1 = (1 : Int32) → ¬ p2 = 0 → p2 = (1 : Int32) → p4 < 0 → Q (some (.int (-1 : Int32))) (10, F, G, A, B)) (h26 : ¬ p1 = 0 → p1 = (1 : Int32) → ¬ p2 = 0 → p2 = (1 : Int32) → ¬ p4 < 0 → ¬ (15 : Int32) < p4 → Q (some (.int (0 : Int32))) (10, (F_clearResult (ups (ups (ups (ups F 4 p1) 5 p2) 6 (nar .boolean p3)) 7 p4)), G, A, B)) (h27 : ¬ p1 = 0 → p1 = (1 : Int32) → ¬ p2 = 0 → p2 = (1 : Int32) → ¬ p4 < 0 → (15 : Int32) < p4 → Q (some (.int (-1 : Int32))) (10, F, G, A, B)) (h28 : ¬ p1 = 0 → p1 = (1 : Int32) → ¬ p2 = 0 → ¬ p2 = (1 : Int32) → Q (some (.int (-5 : Int32))) (10, F, G, A, B)) (h29 : ¬ p1 = 0 → ¬ p1 = (1 : Int32) → Q (some (.int (-5 : Int32))) (10, F, G, A, B)) :
    Wk l Z (MoC Z cdC) md_setQuery 0 [.val (.ref 0), .val (.int p1), .val (.int p2), .val (.int p3), .val (.int p4)] [] (10, F, G, A, B) 0 0 Q := by
  refine Wk.iloadN o_setQuery_0 rfl ?_
  refine Wk.if_eq o_setQuery_1 (fun q1 => ?_) (fun q1 => ?_)
  · refine Wk.iloadN o_setQuery_12 rfl ?_
    refine Wk.if_eq o_setQuery_13 (fun q2 => ?_) (fun q2 => ?_)
    · refine Wk.iload o_setQuery_24 rfl ?_
      refine Wk.if_lt o_setQuery_26 (fun q3 => ?_) (fun q3 => ?_)
      · refine Wk.iconst o_setQuery_36 (z := (-1 : Int32)) (by decide) ?_
        exact Wk.ireturn mrC rfl o_setQuery_37 rfl (by decide) (by decide) (h4 q1 q2 q3)
      · refine Wk.iload o_setQuery_29 rfl ?_
        refine Wk.bipush o_setQuery_31 (z := (15 : Int32)) (by decide) ?_
        refine Wk.icmp_le o_setQuery_33 (fun q5 => ?_) (fun q5 => ?_)
        · refine Wk.aloadN o_setQuery_38 rfl ?_
          refine Wk.iloadN o_setQuery_39 rfl ?_
          refine Wk.putI (coC H) (mI_kind) (wf_kind H) (Or.inl (wy_kind H)) o_setQuery_40 ?_
          refine Wk.aloadN o_setQuery_43 rfl ?_
          refine Wk.iloadN o_setQuery_44 rfl ?_
          refine Wk.putI (coC H) (mI_search) (wf_search H) (Or.inl (wy_search H)) o_setQuery_45 ?_
          refine Wk.aloadN o_setQuery_48 rfl ?_
          refine Wk.iloadN o_setQuery_49 rfl ?_
          refine Wk.putZ (coC H) (y := (nar .boolean p3)) rfl (mI_cycle) (wf_cycle H) (Or.inl (wy_cycle H)) o_setQuery_50 ?_
          refine Wk.aloadN o_setQuery_53 rfl ?_
          refine Wk.iload o_setQuery_54 rfl ?_
          refine Wk.putI (coC H) (mI_maxDepth) (wf_maxDepth H) (Or.inl (wy_maxDepth H)) o_setQuery_56 ?_
          refine Wk.aloadN o_setQuery_59 rfl ?_
          refine Wk.callU [] [] (H.w 127 rfl) (cv_clearResult H) o_setQuery_60 (run_clearResult H (ups (ups (ups (ups F 4 p1) 5 p2) 6 (nar .boolean p3)) 7 p4) G A B) (wt := 0) (cu' := 0) (su' := 0) (by decide) rfl rfl rfl rfl rfl rfl rfl ?_
          refine Wk.iconst o_setQuery_63 (z := (0 : Int32)) (by decide) ?_
          exact Wk.ireturn mrC rfl o_setQuery_64 rfl (by decide) (by decide) (h6 q1 q2 q3 q5)
        · refine Wk.iconst o_setQuery_36 (z := (-1 : Int32)) (by decide) ?_
          exact Wk.ireturn mrC rfl o_setQuery_37 rfl (by decide) (by decide) (h7 q1 q2 q3 q5)
    · refine Wk.iloadN o_setQuery_16 rfl ?_
      refine Wk.iconst o_setQuery_17 (z := (1 : Int32)) (by decide) ?_
      refine Wk.icmp_eq o_setQuery_18 (fun q8 => ?_) (fun q8 => ?_)
      · refine Wk.iload o_setQuery_24 rfl ?_
        refine Wk.if_lt o_setQuery_26 (fun q9 => ?_) (fun q9 => ?_)
        · refine Wk.iconst o_setQuery_36 (z := (-1 : Int32)) (by decide) ?_
          exact Wk.ireturn mrC rfl o_setQuery_37 rfl (by decide) (by decide) (h10 q1 q2 q8 q9)
        · refine Wk.iload o_setQuery_29 rfl ?_
          refine Wk.bipush o_setQuery_31 (z := (15 : Int32)) (by decide) ?_
          refine Wk.icmp_le o_setQuery_33 (fun q11 => ?_) (fun q11 => ?_)
          · refine Wk.aloadN o_setQuery_38 rfl ?_
            refine Wk.iloadN o_setQuery_39 rfl ?_
            refine Wk.putI (coC H) (mI_kind) (wf_kind H) (Or.inl (wy_kind H)) o_setQuery_40 ?_
            refine Wk.aloadN o_setQuery_43 rfl ?_
            refine Wk.iloadN o_setQuery_44 rfl ?_
            refine Wk.putI (coC H) (mI_search) (wf_search H) (Or.inl (wy_search H)) o_setQuery_45 ?_
            refine Wk.aloadN o_setQuery_48 rfl ?_
            refine Wk.iloadN o_setQuery_49 rfl ?_
            refine Wk.putZ (coC H) (y := (nar .boolean p3)) rfl (mI_cycle) (wf_cycle H) (Or.inl (wy_cycle H)) o_setQuery_50 ?_
            refine Wk.aloadN o_setQuery_53 rfl ?_
            refine Wk.iload o_setQuery_54 rfl ?_
            refine Wk.putI (coC H) (mI_maxDepth) (wf_maxDepth H) (Or.inl (wy_maxDepth H)) o_setQuery_56 ?_
            refine Wk.aloadN o_setQuery_59 rfl ?_
            refine Wk.callU [] [] (H.w 127 rfl) (cv_clearResult H) o_setQuery_60 (run_clearResult H (ups (ups (ups (ups F 4 p1) 5 p2) 6 (nar .boolean p3)) 7 p4) G A B) (wt := 0) (cu' := 0) (su' := 0) (by decide) rfl rfl rfl rfl rfl rfl rfl ?_
            refine Wk.iconst o_setQuery_63 (z := (0 : Int32)) (by decide) ?_
            exact Wk.ireturn mrC rfl o_setQuery_64 rfl (by decide) (by decide) (h12 q1 q2 q8 q9 q11)
          · refine Wk.iconst o_setQuery_36 (z := (-1 : Int32)) (by decide) ?_
            exact Wk.ireturn mrC rfl o_setQuery_37 rfl (by decide) (by decide) (h13 q1 q2 q8 q9 q11)
      · refine Wk.bipush o_setQuery_21 (z := (-5 : Int32)) (by decide) ?_
        exact Wk.ireturn mrC rfl o_setQuery_23 rfl (by decide) (by decide) (h14 q1 q2 q8)
  · refine Wk.iloadN o_setQuery_4 rfl ?_
    refine Wk.iconst o_setQuery_5 (z := (1 : Int32)) (by decide) ?_
    refine Wk.icmp_eq o_setQuery_6 (fun q15 => ?_) (fun q15 => ?_)
    · refine Wk.iloadN o_setQuery_12 rfl ?_
      refine Wk.if_eq o_setQuery_13 (fun q16 => ?_) (fun q16 => ?_)
      · refine Wk.iload o_setQuery_24 rfl ?_
        refine Wk.if_lt o_setQuery_26 (fun q17 => ?_) (fun q17 => ?_)
        · refine Wk.iconst o_setQuery_36 (z := (-1 : Int32)) (by decide) ?_
          exact Wk.ireturn mrC rfl o_setQuery_37 rfl (by decide) (by decide) (h18 q1 q15 q16 q17)
        · refine Wk.iload o_setQuery_29 rfl ?_
          refine Wk.bipush o_setQuery_31 (z := (15 : Int32)) (by decide) ?_
          refine Wk.icmp_le o_setQuery_33 (fun q19 => ?_) (fun q19 => ?_)
          · refine Wk.aloadN o_setQuery_38 rfl ?_
            refine Wk.iloadN o_setQuery_39 rfl ?_
            refine Wk.putI (coC H) (mI_kind) (wf_kind H) (Or.inl (wy_kind H)) o_setQuery_40 ?_
            refine Wk.aloadN o_setQuery_43 rfl ?_
            refine Wk.iloadN o_setQuery_44 rfl ?_
            refine Wk.putI (coC H) (mI_search) (wf_search H) (Or.inl (wy_search H)) o_setQuery_45 ?_
            refine Wk.aloadN o_setQuery_48 rfl ?_
            refine Wk.iloadN o_setQuery_49 rfl ?_
            refine Wk.putZ (coC H) (y := (nar .boolean p3)) rfl (mI_cycle) (wf_cycle H) (Or.inl (wy_cycle H)) o_setQuery_50 ?_
            refine Wk.aloadN o_setQuery_53 rfl ?_
            refine Wk.iload o_setQuery_54 rfl ?_
            refine Wk.putI (coC H) (mI_maxDepth) (wf_maxDepth H) (Or.inl (wy_maxDepth H)) o_setQuery_56 ?_
            refine Wk.aloadN o_setQuery_59 rfl ?_
            refine Wk.callU [] [] (H.w 127 rfl) (cv_clearResult H) o_setQuery_60 (run_clearResult H (ups (ups (ups (ups F 4 p1) 5 p2) 6 (nar .boolean p3)) 7 p4) G A B) (wt := 0) (cu' := 0) (su' := 0) (by decide) rfl rfl rfl rfl rfl rfl rfl ?_
            refine Wk.iconst o_setQuery_63 (z := (0 : Int32)) (by decide) ?_
            exact Wk.ireturn mrC rfl o_setQuery_64 rfl (by decide) (by decide) (h20 q1 q15 q16 q17 q19)
          · refine Wk.iconst o_setQuery_36 (z := (-1 : Int32)) (by decide) ?_
            exact Wk.ireturn mrC rfl o_setQuery_37 rfl (by decide) (by decide) (h21 q1 q15 q16 q17 q19)
      · refine Wk.iloadN o_setQuery_16 rfl ?_
        refine Wk.iconst o_setQuery_17 (z := (1 : Int32)) (by decide) ?_
        refine Wk.icmp_eq o_setQuery_18 (fun q22 => ?_) (fun q22 => ?_)
        · refine Wk.iload o_setQuery_24 rfl ?_
          refine Wk.if_lt o_setQuery_26 (fun q23 => ?_) (fun q23 => ?_)
          · refine Wk.iconst o_setQuery_36 (z := (-1 : Int32)) (by decide) ?_
            exact Wk.ireturn mrC rfl o_setQuery_37 rfl (by decide) (by decide) (h24 q1 q15 q16 q22 q23)
          · refine Wk.iload o_setQuery_29 rfl ?_
            refine Wk.bipush o_setQuery_31 (z := (15 : Int32)) (by decide) ?_
            refine Wk.icmp_le o_setQuery_33 (fun q25 => ?_) (fun q25 => ?_)
            · refine Wk.aloadN o_setQuery_38 rfl ?_
              refine Wk.iloadN o_setQuery_39 rfl ?_
              refine Wk.putI (coC H) (mI_kind) (wf_kind H) (Or.inl (wy_kind H)) o_setQuery_40 ?_
              refine Wk.aloadN o_setQuery_43 rfl ?_
              refine Wk.iloadN o_setQuery_44 rfl ?_
              refine Wk.putI (coC H) (mI_search) (wf_search H) (Or.inl (wy_search H)) o_setQuery_45 ?_
              refine Wk.aloadN o_setQuery_48 rfl ?_
              refine Wk.iloadN o_setQuery_49 rfl ?_
              refine Wk.putZ (coC H) (y := (nar .boolean p3)) rfl (mI_cycle) (wf_cycle H) (Or.inl (wy_cycle H)) o_setQuery_50 ?_
              refine Wk.aloadN o_setQuery_53 rfl ?_
              refine Wk.iload o_setQuery_54 rfl ?_
              refine Wk.putI (coC H) (mI_maxDepth) (wf_maxDepth H) (Or.inl (wy_maxDepth H)) o_setQuery_56 ?_
              refine Wk.aloadN o_setQuery_59 rfl ?_
              refine Wk.callU [] [] (H.w 127 rfl) (cv_clearResult H) o_setQuery_60 (run_clearResult H (ups (ups (ups (ups F 4 p1) 5 p2) 6 (nar .boolean p3)) 7 p4) G A B) (wt := 0) (cu' := 0) (su' := 0) (by decide) rfl rfl rfl rfl rfl rfl rfl ?_
              refine Wk.iconst o_setQuery_63 (z := (0 : Int32)) (by decide) ?_
              exact Wk.ireturn mrC rfl o_setQuery_64 rfl (by decide) (by decide) (h26 q1 q15 q16 q22 q23 q25)
            · refine Wk.iconst o_setQuery_36 (z := (-1 : Int32)) (by decide) ?_
              exact Wk.ireturn mrC rfl o_setQuery_37 rfl (by decide) (by decide) (h27 q1 q15 q16 q22 q23 q25)
        · refine Wk.bipush o_setQuery_21 (z := (-5 : Int32)) (by decide) ?_
          exact Wk.ireturn mrC rfl o_setQuery_23 rfl (by decide) (by decide) (h28 q1 q15 q16 q22)
    · refine Wk.bipush o_setQuery_9 (z := (-5 : Int32)) (by decide) ?_
      exact Wk.ireturn mrC rfl o_setQuery_11 rfl (by decide) (by decide) (h29 q1 q15)

def f_setQuery (p1 : Int32) (p2 : Int32) (p3 : Int32) (p4 : Int32) : Int32 := (if p1 = 0 then (if p2 = 0 then (if p4 < 0 then (-1 : Int32) else (if (15 : Int32) < p4 then (-1 : Int32) else (0 : Int32))) else (if p2 = (1 : Int32) then (if p4 < 0 then (-1 : Int32) else (if (15 : Int32) < p4 then (-1 : Int32) else (0 : Int32))) else (-5 : Int32))) else (if p1 = (1 : Int32) then (if p2 = 0 then (if p4 < 0 then (-1 : Int32) else (if (15 : Int32) < p4 then (-1 : Int32) else (0 : Int32))) else (if p2 = (1 : Int32) then (if p4 < 0 then (-1 : Int32) else (if (15 : Int32) < p4 then (-1 : Int32) else (0 : Int32))) else (-5 : Int32))) else (-5 : Int32)))
theorem e_setQuery (p1 : Int32) (p2 : Int32) (p3 : Int32) (p4 : Int32) : f_setQuery p1 p2 p3 p4 = (if p1 = 0 then (if p2 = 0 then (if p4 < 0 then (-1 : Int32) else (if (15 : Int32) < p4 then (-1 : Int32) else (0 : Int32))) else (if p2 = (1 : Int32) then (if p4 < 0 then (-1 : Int32) else (if (15 : Int32) < p4 then (-1 : Int32) else (0 : Int32))) else (-5 : Int32))) else (if p1 = (1 : Int32) then (if p2 = 0 then (if p4 < 0 then (-1 : Int32) else (if (15 : Int32) < p4 then (-1 : Int32) else (0 : Int32))) else (if p2 = (1 : Int32) then (if p4 < 0 then (-1 : Int32) else (if (15 : Int32) < p4 then (-1 : Int32) else (0 : Int32))) else (-5 : Int32))) else (-5 : Int32))) := Eq.trans rfl rfl
def F_setQuery (F : Nat → Int32) (p1 : Int32) (p2 : Int32) (p3 : Int32) (p4 : Int32) : Nat → Int32 := (if p1 = 0 then (if p2 = 0 then (if p4 < 0 then F else (if (15 : Int32) < p4 then F else (F_clearResult (ups (ups (ups (ups F 4 p1) 5 p2) 6 (nar .boolean p3)) 7 p4)))) else (if p2 = (1 : Int32) then (if p4 < 0 then F else (if (15 : Int32) < p4 then F else (F_clearResult (ups (ups (ups (ups F 4 p1) 5 p2) 6 (nar .boolean p3)) 7 p4)))) else F)) else (if p1 = (1 : Int32) then (if p2 = 0 then (if p4 < 0 then F else (if (15 : Int32) < p4 then F else (F_clearResult (ups (ups (ups (ups F 4 p1) 5 p2) 6 (nar .boolean p3)) 7 p4)))) else (if p2 = (1 : Int32) then (if p4 < 0 then F else (if (15 : Int32) < p4 then F else (F_clearResult (ups (ups (ups (ups F 4 p1) 5 p2) 6 (nar .boolean p3)) 7 p4)))) else F)) else F))
theorem eF_setQuery (F : Nat → Int32) (p1 : Int32) (p2 : Int32) (p3 : Int32) (p4 : Int32) : F_setQuery F p1 p2 p3 p4 = (if p1 = 0 then (if p2 = 0 then (if p4 < 0 then F else (if (15 : Int32) < p4 then F else (F_clearResult (ups (ups (ups (ups F 4 p1) 5 p2) 6 (nar .boolean p3)) 7 p4)))) else (if p2 = (1 : Int32) then (if p4 < 0 then F else (if (15 : Int32) < p4 then F else (F_clearResult (ups (ups (ups (ups F 4 p1) 5 p2) 6 (nar .boolean p3)) 7 p4)))) else F)) else (if p1 = (1 : Int32) then (if p2 = 0 then (if p4 < 0 then F else (if (15 : Int32) < p4 then F else (F_clearResult (ups (ups (ups (ups F 4 p1) 5 p2) 6 (nar .boolean p3)) 7 p4)))) else (if p2 = (1 : Int32) then (if p4 < 0 then F else (if (15 : Int32) < p4 then F else (F_clearResult (ups (ups (ups (ups F 4 p1) 5 p2) 6 (nar .boolean p3)) 7 p4)))) else F)) else F)) := Eq.trans rfl rfl
theorem F_setQuery_0 (F : Nat → Int32) (p1 : Int32) (p2 : Int32) (p3 : Int32) (p4 : Int32) : F_setQuery F p1 p2 p3 p4 0 = (F 0) := by
  rw [eF_setQuery]
  by_cases q1 : p1 = 0
  · try simp only [if_pos q1]
    by_cases q2 : p2 = 0
    · try simp only [if_pos q2]
      by_cases q3 : p4 < 0
      · try simp only [if_pos q3]
        all_goals rfl
      · try simp only [if_neg q3]
        by_cases q4 : (15 : Int32) < p4
        · try simp only [if_pos q4]
          all_goals rfl
        · try simp only [if_neg q4]
          all_goals first | rfl | exact (F_clearResult_0 (ups (ups (ups (ups F 4 p1) 5 p2) 6 (nar .boolean p3)) 7 p4))
    · try simp only [if_neg q2]
      by_cases q3 : p2 = (1 : Int32)
      · try simp only [if_pos q3]
        by_cases q4 : p4 < 0
        · try simp only [if_pos q4]
          all_goals rfl
        · try simp only [if_neg q4]
          by_cases q5 : (15 : Int32) < p4
          · try simp only [if_pos q5]
            all_goals rfl
          · try simp only [if_neg q5]
            all_goals first | rfl | exact (F_clearResult_0 (ups (ups (ups (ups F 4 p1) 5 p2) 6 (nar .boolean p3)) 7 p4))
      · try simp only [if_neg q3]
        all_goals rfl
  · try simp only [if_neg q1]
    by_cases q2 : p1 = (1 : Int32)
    · try simp only [if_pos q2]
      by_cases q3 : p2 = 0
      · try simp only [if_pos q3]
        by_cases q4 : p4 < 0
        · try simp only [if_pos q4]
          all_goals rfl
        · try simp only [if_neg q4]
          by_cases q5 : (15 : Int32) < p4
          · try simp only [if_pos q5]
            all_goals rfl
          · try simp only [if_neg q5]
            all_goals first | rfl | exact (F_clearResult_0 (ups (ups (ups (ups F 4 p1) 5 p2) 6 (nar .boolean p3)) 7 p4))
      · try simp only [if_neg q3]
        by_cases q4 : p2 = (1 : Int32)
        · try simp only [if_pos q4]
          by_cases q5 : p4 < 0
          · try simp only [if_pos q5]
            all_goals rfl
          · try simp only [if_neg q5]
            by_cases q6 : (15 : Int32) < p4
            · try simp only [if_pos q6]
              all_goals rfl
            · try simp only [if_neg q6]
              all_goals first | rfl | exact (F_clearResult_0 (ups (ups (ups (ups F 4 p1) 5 p2) 6 (nar .boolean p3)) 7 p4))
        · try simp only [if_neg q4]
          all_goals rfl
    · try simp only [if_neg q2]
      all_goals rfl
theorem F_setQuery_1 (F : Nat → Int32) (p1 : Int32) (p2 : Int32) (p3 : Int32) (p4 : Int32) : F_setQuery F p1 p2 p3 p4 1 = (F 1) := by
  rw [eF_setQuery]
  by_cases q1 : p1 = 0
  · try simp only [if_pos q1]
    by_cases q2 : p2 = 0
    · try simp only [if_pos q2]
      by_cases q3 : p4 < 0
      · try simp only [if_pos q3]
        all_goals rfl
      · try simp only [if_neg q3]
        by_cases q4 : (15 : Int32) < p4
        · try simp only [if_pos q4]
          all_goals rfl
        · try simp only [if_neg q4]
          all_goals first | rfl | exact (F_clearResult_1 (ups (ups (ups (ups F 4 p1) 5 p2) 6 (nar .boolean p3)) 7 p4))
    · try simp only [if_neg q2]
      by_cases q3 : p2 = (1 : Int32)
      · try simp only [if_pos q3]
        by_cases q4 : p4 < 0
        · try simp only [if_pos q4]
          all_goals rfl
        · try simp only [if_neg q4]
          by_cases q5 : (15 : Int32) < p4
          · try simp only [if_pos q5]
            all_goals rfl
          · try simp only [if_neg q5]
            all_goals first | rfl | exact (F_clearResult_1 (ups (ups (ups (ups F 4 p1) 5 p2) 6 (nar .boolean p3)) 7 p4))
      · try simp only [if_neg q3]
        all_goals rfl
  · try simp only [if_neg q1]
    by_cases q2 : p1 = (1 : Int32)
    · try simp only [if_pos q2]
      by_cases q3 : p2 = 0
      · try simp only [if_pos q3]
        by_cases q4 : p4 < 0
        · try simp only [if_pos q4]
          all_goals rfl
        · try simp only [if_neg q4]
          by_cases q5 : (15 : Int32) < p4
          · try simp only [if_pos q5]
            all_goals rfl
          · try simp only [if_neg q5]
            all_goals first | rfl | exact (F_clearResult_1 (ups (ups (ups (ups F 4 p1) 5 p2) 6 (nar .boolean p3)) 7 p4))
      · try simp only [if_neg q3]
        by_cases q4 : p2 = (1 : Int32)
        · try simp only [if_pos q4]
          by_cases q5 : p4 < 0
          · try simp only [if_pos q5]
            all_goals rfl
          · try simp only [if_neg q5]
            by_cases q6 : (15 : Int32) < p4
            · try simp only [if_pos q6]
              all_goals rfl
            · try simp only [if_neg q6]
              all_goals first | rfl | exact (F_clearResult_1 (ups (ups (ups (ups F 4 p1) 5 p2) 6 (nar .boolean p3)) 7 p4))
        · try simp only [if_neg q4]
          all_goals rfl
    · try simp only [if_neg q2]
      all_goals rfl
theorem F_setQuery_2 (F : Nat → Int32) (p1 : Int32) (p2 : Int32) (p3 : Int32) (p4 : Int32) : F_setQuery F p1 p2 p3 p4 2 = (F 2) := by
  rw [eF_setQuery]
  by_cases q1 : p1 = 0
  · try simp only [if_pos q1]
    by_cases q2 : p2 = 0
    · try simp only [if_pos q2]
      by_cases q3 : p4 < 0
      · try simp only [if_pos q3]
        all_goals rfl
      · try simp only [if_neg q3]
        by_cases q4 : (15 : Int32) < p4
        · try simp only [if_pos q4]
          all_goals rfl
        · try simp only [if_neg q4]
          all_goals first | rfl | exact (F_clearResult_2 (ups (ups (ups (ups F 4 p1) 5 p2) 6 (nar .boolean p3)) 7 p4))
    · try simp only [if_neg q2]
      by_cases q3 : p2 = (1 : Int32)
      · try simp only [if_pos q3]
        by_cases q4 : p4 < 0
        · try simp only [if_pos q4]
          all_goals rfl
        · try simp only [if_neg q4]
          by_cases q5 : (15 : Int32) < p4
          · try simp only [if_pos q5]
            all_goals rfl
          · try simp only [if_neg q5]
            all_goals first | rfl | exact (F_clearResult_2 (ups (ups (ups (ups F 4 p1) 5 p2) 6 (nar .boolean p3)) 7 p4))
      · try simp only [if_neg q3]
        all_goals rfl
  · try simp only [if_neg q1]
    by_cases q2 : p1 = (1 : Int32)
    · try simp only [if_pos q2]
      by_cases q3 : p2 = 0
      · try simp only [if_pos q3]
        by_cases q4 : p4 < 0
        · try simp only [if_pos q4]
          all_goals rfl
        · try simp only [if_neg q4]
          by_cases q5 : (15 : Int32) < p4
          · try simp only [if_pos q5]
            all_goals rfl
          · try simp only [if_neg q5]
            all_goals first | rfl | exact (F_clearResult_2 (ups (ups (ups (ups F 4 p1) 5 p2) 6 (nar .boolean p3)) 7 p4))
      · try simp only [if_neg q3]
        by_cases q4 : p2 = (1 : Int32)
        · try simp only [if_pos q4]
          by_cases q5 : p4 < 0
          · try simp only [if_pos q5]
            all_goals rfl
          · try simp only [if_neg q5]
            by_cases q6 : (15 : Int32) < p4
            · try simp only [if_pos q6]
              all_goals rfl
            · try simp only [if_neg q6]
              all_goals first | rfl | exact (F_clearResult_2 (ups (ups (ups (ups F 4 p1) 5 p2) 6 (nar .boolean p3)) 7 p4))
        · try simp only [if_neg q4]
          all_goals rfl
    · try simp only [if_neg q2]
      all_goals rfl
theorem F_setQuery_3 (F : Nat → Int32) (p1 : Int32) (p2 : Int32) (p3 : Int32) (p4 : Int32) : F_setQuery F p1 p2 p3 p4 3 = (F 3) := by
  rw [eF_setQuery]
  by_cases q1 : p1 = 0
  · try simp only [if_pos q1]
    by_cases q2 : p2 = 0
    · try simp only [if_pos q2]
      by_cases q3 : p4 < 0
      · try simp only [if_pos q3]
        all_goals rfl
      · try simp only [if_neg q3]
        by_cases q4 : (15 : Int32) < p4
        · try simp only [if_pos q4]
          all_goals rfl
        · try simp only [if_neg q4]
          all_goals first | rfl | exact (F_clearResult_3 (ups (ups (ups (ups F 4 p1) 5 p2) 6 (nar .boolean p3)) 7 p4))
    · try simp only [if_neg q2]
      by_cases q3 : p2 = (1 : Int32)
      · try simp only [if_pos q3]
        by_cases q4 : p4 < 0
        · try simp only [if_pos q4]
          all_goals rfl
        · try simp only [if_neg q4]
          by_cases q5 : (15 : Int32) < p4
          · try simp only [if_pos q5]
            all_goals rfl
          · try simp only [if_neg q5]
            all_goals first | rfl | exact (F_clearResult_3 (ups (ups (ups (ups F 4 p1) 5 p2) 6 (nar .boolean p3)) 7 p4))
      · try simp only [if_neg q3]
        all_goals rfl
  · try simp only [if_neg q1]
    by_cases q2 : p1 = (1 : Int32)
    · try simp only [if_pos q2]
      by_cases q3 : p2 = 0
      · try simp only [if_pos q3]
        by_cases q4 : p4 < 0
        · try simp only [if_pos q4]
          all_goals rfl
        · try simp only [if_neg q4]
          by_cases q5 : (15 : Int32) < p4
          · try simp only [if_pos q5]
            all_goals rfl
          · try simp only [if_neg q5]
            all_goals first | rfl | exact (F_clearResult_3 (ups (ups (ups (ups F 4 p1) 5 p2) 6 (nar .boolean p3)) 7 p4))
      · try simp only [if_neg q3]
        by_cases q4 : p2 = (1 : Int32)
        · try simp only [if_pos q4]
          by_cases q5 : p4 < 0
          · try simp only [if_pos q5]
            all_goals rfl
          · try simp only [if_neg q5]
            by_cases q6 : (15 : Int32) < p4
            · try simp only [if_pos q6]
              all_goals rfl
            · try simp only [if_neg q6]
              all_goals first | rfl | exact (F_clearResult_3 (ups (ups (ups (ups F 4 p1) 5 p2) 6 (nar .boolean p3)) 7 p4))
        · try simp only [if_neg q4]
          all_goals rfl
    · try simp only [if_neg q2]
      all_goals rfl
theorem F_setQuery_4 (F : Nat → Int32) (p1 : Int32) (p2 : Int32) (p3 : Int32) (p4 : Int32) : F_setQuery F p1 p2 p3 p4 4 = (if p1 = 0 then (if p2 = 0 then (if p4 < 0 then (F 4) else (if (15 : Int32) < p4 then (F 4) else p1)) else (if p2 = (1 : Int32) then (if p4 < 0 then (F 4) else (if (15 : Int32) < p4 then (F 4) else p1)) else (F 4))) else (if p1 = (1 : Int32) then (if p2 = 0 then (if p4 < 0 then (F 4) else (if (15 : Int32) < p4 then (F 4) else p1)) else (if p2 = (1 : Int32) then (if p4 < 0 then (F 4) else (if (15 : Int32) < p4 then (F 4) else p1)) else (F 4))) else (F 4))) := by
  rw [eF_setQuery]
  by_cases q1 : p1 = 0
  · try simp only [if_pos q1]
    by_cases q2 : p2 = 0
    · try simp only [if_pos q2]
      by_cases q3 : p4 < 0
      · try simp only [if_pos q3]
        all_goals rfl
      · try simp only [if_neg q3]
        by_cases q4 : (15 : Int32) < p4
        · try simp only [if_pos q4]
          all_goals rfl
        · try simp only [if_neg q4]
          all_goals first | rfl | exact (F_clearResult_4 (ups (ups (ups (ups F 4 p1) 5 p2) 6 (nar .boolean p3)) 7 p4))
    · try simp only [if_neg q2]
      by_cases q3 : p2 = (1 : Int32)
      · try simp only [if_pos q3]
        by_cases q4 : p4 < 0
        · try simp only [if_pos q4]
          all_goals rfl
        · try simp only [if_neg q4]
          by_cases q5 : (15 : Int32) < p4
          · try simp only [if_pos q5]
            all_goals rfl
          · try simp only [if_neg q5]
            all_goals first | rfl | exact (F_clearResult_4 (ups (ups (ups (ups F 4 p1) 5 p2) 6 (nar .boolean p3)) 7 p4))
      · try simp only [if_neg q3]
        all_goals rfl
  · try simp only [if_neg q1]
    by_cases q2 : p1 = (1 : Int32)
    · try simp only [if_pos q2]
      by_cases q3 : p2 = 0
      · try simp only [if_pos q3]
        by_cases q4 : p4 < 0
        · try simp only [if_pos q4]
          all_goals rfl
        · try simp only [if_neg q4]
          by_cases q5 : (15 : Int32) < p4
          · try simp only [if_pos q5]
            all_goals rfl
          · try simp only [if_neg q5]
            all_goals first | rfl | exact (F_clearResult_4 (ups (ups (ups (ups F 4 p1) 5 p2) 6 (nar .boolean p3)) 7 p4))
      · try simp only [if_neg q3]
        by_cases q4 : p2 = (1 : Int32)
        · try simp only [if_pos q4]
          by_cases q5 : p4 < 0
          · try simp only [if_pos q5]
            all_goals rfl
          · try simp only [if_neg q5]
            by_cases q6 : (15 : Int32) < p4
            · try simp only [if_pos q6]
              all_goals rfl
            · try simp only [if_neg q6]
              all_goals first | rfl | exact (F_clearResult_4 (ups (ups (ups (ups F 4 p1) 5 p2) 6 (nar .boolean p3)) 7 p4))
        · try simp only [if_neg q4]
          all_goals rfl
    · try simp only [if_neg q2]
      all_goals rfl
theorem F_setQuery_5 (F : Nat → Int32) (p1 : Int32) (p2 : Int32) (p3 : Int32) (p4 : Int32) : F_setQuery F p1 p2 p3 p4 5 = (if p1 = 0 then (if p2 = 0 then (if p4 < 0 then (F 5) else (if (15 : Int32) < p4 then (F 5) else p2)) else (if p2 = (1 : Int32) then (if p4 < 0 then (F 5) else (if (15 : Int32) < p4 then (F 5) else p2)) else (F 5))) else (if p1 = (1 : Int32) then (if p2 = 0 then (if p4 < 0 then (F 5) else (if (15 : Int32) < p4 then (F 5) else p2)) else (if p2 = (1 : Int32) then (if p4 < 0 then (F 5) else (if (15 : Int32) < p4 then (F 5) else p2)) else (F 5))) else (F 5))) := by
  rw [eF_setQuery]
  by_cases q1 : p1 = 0
  · try simp only [if_pos q1]
    by_cases q2 : p2 = 0
    · try simp only [if_pos q2]
      by_cases q3 : p4 < 0
      · try simp only [if_pos q3]
        all_goals rfl
      · try simp only [if_neg q3]
        by_cases q4 : (15 : Int32) < p4
        · try simp only [if_pos q4]
          all_goals rfl
        · try simp only [if_neg q4]
          all_goals first | rfl | exact (F_clearResult_5 (ups (ups (ups (ups F 4 p1) 5 p2) 6 (nar .boolean p3)) 7 p4))
    · try simp only [if_neg q2]
      by_cases q3 : p2 = (1 : Int32)
      · try simp only [if_pos q3]
        by_cases q4 : p4 < 0
        · try simp only [if_pos q4]
          all_goals rfl
        · try simp only [if_neg q4]
          by_cases q5 : (15 : Int32) < p4
          · try simp only [if_pos q5]
            all_goals rfl
          · try simp only [if_neg q5]
            all_goals first | rfl | exact (F_clearResult_5 (ups (ups (ups (ups F 4 p1) 5 p2) 6 (nar .boolean p3)) 7 p4))
      · try simp only [if_neg q3]
        all_goals rfl
  · try simp only [if_neg q1]
    by_cases q2 : p1 = (1 : Int32)
    · try simp only [if_pos q2]
      by_cases q3 : p2 = 0
      · try simp only [if_pos q3]
        by_cases q4 : p4 < 0
        · try simp only [if_pos q4]
          all_goals rfl
        · try simp only [if_neg q4]
          by_cases q5 : (15 : Int32) < p4
          · try simp only [if_pos q5]
            all_goals rfl
          · try simp only [if_neg q5]
            all_goals first | rfl | exact (F_clearResult_5 (ups (ups (ups (ups F 4 p1) 5 p2) 6 (nar .boolean p3)) 7 p4))
      · try simp only [if_neg q3]
        by_cases q4 : p2 = (1 : Int32)
        · try simp only [if_pos q4]
          by_cases q5 : p4 < 0
          · try simp only [if_pos q5]
            all_goals rfl
          · try simp only [if_neg q5]
            by_cases q6 : (15 : Int32) < p4
            · try simp only [if_pos q6]
              all_goals rfl
            · try simp only [if_neg q6]
              all_goals first | rfl | exact (F_clearResult_5 (ups (ups (ups (ups F 4 p1) 5 p2) 6 (nar .boolean p3)) 7 p4))
        · try simp only [if_neg q4]
          all_goals rfl
    · try simp only [if_neg q2]
      all_goals rfl
theorem F_setQuery_6 (F : Nat → Int32) (p1 : Int32) (p2 : Int32) (p3 : Int32) (p4 : Int32) : F_setQuery F p1 p2 p3 p4 6 = (if p1 = 0 then (if p2 = 0 then (if p4 < 0 then (F 6) else (if (15 : Int32) < p4 then (F 6) else (nar .boolean p3))) else (if p2 = (1 : Int32) then (if p4 < 0 then (F 6) else (if (15 : Int32) < p4 then (F 6) else (nar .boolean p3))) else (F 6))) else (if p1 = (1 : Int32) then (if p2 = 0 then (if p4 < 0 then (F 6) else (if (15 : Int32) < p4 then (F 6) else (nar .boolean p3))) else (if p2 = (1 : Int32) then (if p4 < 0 then (F 6) else (if (15 : Int32) < p4 then (F 6) else (nar .boolean p3))) else (F 6))) else (F 6))) := by
  rw [eF_setQuery]
  by_cases q1 : p1 = 0
  · try simp only [if_pos q1]
    by_cases q2 : p2 = 0
    · try simp only [if_pos q2]
      by_cases q3 : p4 < 0
      · try simp only [if_pos q3]
        all_goals rfl
      · try simp only [if_neg q3]
        by_cases q4 : (15 : Int32) < p4
        · try simp only [if_pos q4]
          all_goals rfl
        · try simp only [if_neg q4]
          all_goals first | rfl | exact (F_clearResult_6 (ups (ups (ups (ups F 4 p1) 5 p2) 6 (nar .boolean p3)) 7 p4))
    · try simp only [if_neg q2]
      by_cases q3 : p2 = (1 : Int32)
      · try simp only [if_pos q3]
        by_cases q4 : p4 < 0
        · try simp only [if_pos q4]
          all_goals rfl
        · try simp only [if_neg q4]
          by_cases q5 : (15 : Int32) < p4
          · try simp only [if_pos q5]
            all_goals rfl
          · try simp only [if_neg q5]
            all_goals first | rfl | exact (F_clearResult_6 (ups (ups (ups (ups F 4 p1) 5 p2) 6 (nar .boolean p3)) 7 p4))
      · try simp only [if_neg q3]
        all_goals rfl
  · try simp only [if_neg q1]
    by_cases q2 : p1 = (1 : Int32)
    · try simp only [if_pos q2]
      by_cases q3 : p2 = 0
      · try simp only [if_pos q3]
        by_cases q4 : p4 < 0
        · try simp only [if_pos q4]
          all_goals rfl
        · try simp only [if_neg q4]
          by_cases q5 : (15 : Int32) < p4
          · try simp only [if_pos q5]
            all_goals rfl
          · try simp only [if_neg q5]
            all_goals first | rfl | exact (F_clearResult_6 (ups (ups (ups (ups F 4 p1) 5 p2) 6 (nar .boolean p3)) 7 p4))
      · try simp only [if_neg q3]
        by_cases q4 : p2 = (1 : Int32)
        · try simp only [if_pos q4]
          by_cases q5 : p4 < 0
          · try simp only [if_pos q5]
            all_goals rfl
          · try simp only [if_neg q5]
            by_cases q6 : (15 : Int32) < p4
            · try simp only [if_pos q6]
              all_goals rfl
            · try simp only [if_neg q6]
              all_goals first | rfl | exact (F_clearResult_6 (ups (ups (ups (ups F 4 p1) 5 p2) 6 (nar .boolean p3)) 7 p4))
        · try simp only [if_neg q4]
          all_goals rfl
    · try simp only [if_neg q2]
      all_goals rfl
theorem F_setQuery_7 (F : Nat → Int32) (p1 : Int32) (p2 : Int32) (p3 : Int32) (p4 : Int32) : F_setQuery F p1 p2 p3 p4 7 = (if p1 = 0 then (if p2 = 0 then (if p4 < 0 then (F 7) else (if (15 : Int32) < p4 then (F 7) else p4)) else (if p2 = (1 : Int32) then (if p4 < 0 then (F 7) else (if (15 : Int32) < p4 then (F 7) else p4)) else (F 7))) else (if p1 = (1 : Int32) then (if p2 = 0 then (if p4 < 0 then (F 7) else (if (15 : Int32) < p4 then (F 7) else p4)) else (if p2 = (1 : Int32) then (if p4 < 0 then (F 7) else (if (15 : Int32) < p4 then (F 7) else p4)) else (F 7))) else (F 7))) := by
  rw [eF_setQuery]
  by_cases q1 : p1 = 0
  · try simp only [if_pos q1]
    by_cases q2 : p2 = 0
    · try simp only [if_pos q2]
      by_cases q3 : p4 < 0
      · try simp only [if_pos q3]
        all_goals rfl
      · try simp only [if_neg q3]
        by_cases q4 : (15 : Int32) < p4
        · try simp only [if_pos q4]
          all_goals rfl
        · try simp only [if_neg q4]
          all_goals first | rfl | exact (F_clearResult_7 (ups (ups (ups (ups F 4 p1) 5 p2) 6 (nar .boolean p3)) 7 p4))
    · try simp only [if_neg q2]
      by_cases q3 : p2 = (1 : Int32)
      · try simp only [if_pos q3]
        by_cases q4 : p4 < 0
        · try simp only [if_pos q4]
          all_goals rfl
        · try simp only [if_neg q4]
          by_cases q5 : (15 : Int32) < p4
          · try simp only [if_pos q5]
            all_goals rfl
          · try simp only [if_neg q5]
            all_goals first | rfl | exact (F_clearResult_7 (ups (ups (ups (ups F 4 p1) 5 p2) 6 (nar .boolean p3)) 7 p4))
      · try simp only [if_neg q3]
        all_goals rfl
  · try simp only [if_neg q1]
    by_cases q2 : p1 = (1 : Int32)
    · try simp only [if_pos q2]
      by_cases q3 : p2 = 0
      · try simp only [if_pos q3]
        by_cases q4 : p4 < 0
        · try simp only [if_pos q4]
          all_goals rfl
        · try simp only [if_neg q4]
          by_cases q5 : (15 : Int32) < p4
          · try simp only [if_pos q5]
            all_goals rfl
          · try simp only [if_neg q5]
            all_goals first | rfl | exact (F_clearResult_7 (ups (ups (ups (ups F 4 p1) 5 p2) 6 (nar .boolean p3)) 7 p4))
      · try simp only [if_neg q3]
        by_cases q4 : p2 = (1 : Int32)
        · try simp only [if_pos q4]
          by_cases q5 : p4 < 0
          · try simp only [if_pos q5]
            all_goals rfl
          · try simp only [if_neg q5]
            by_cases q6 : (15 : Int32) < p4
            · try simp only [if_pos q6]
              all_goals rfl
            · try simp only [if_neg q6]
              all_goals first | rfl | exact (F_clearResult_7 (ups (ups (ups (ups F 4 p1) 5 p2) 6 (nar .boolean p3)) 7 p4))
        · try simp only [if_neg q4]
          all_goals rfl
    · try simp only [if_neg q2]
      all_goals rfl
theorem F_setQuery_8 (F : Nat → Int32) (p1 : Int32) (p2 : Int32) (p3 : Int32) (p4 : Int32) : F_setQuery F p1 p2 p3 p4 8 = (if p1 = 0 then (if p2 = 0 then (if p4 < 0 then (F 8) else (if (15 : Int32) < p4 then (F 8) else (0 : Int32))) else (if p2 = (1 : Int32) then (if p4 < 0 then (F 8) else (if (15 : Int32) < p4 then (F 8) else (0 : Int32))) else (F 8))) else (if p1 = (1 : Int32) then (if p2 = 0 then (if p4 < 0 then (F 8) else (if (15 : Int32) < p4 then (F 8) else (0 : Int32))) else (if p2 = (1 : Int32) then (if p4 < 0 then (F 8) else (if (15 : Int32) < p4 then (F 8) else (0 : Int32))) else (F 8))) else (F 8))) := by
  rw [eF_setQuery]
  by_cases q1 : p1 = 0
  · try simp only [if_pos q1]
    by_cases q2 : p2 = 0
    · try simp only [if_pos q2]
      by_cases q3 : p4 < 0
      · try simp only [if_pos q3]
        all_goals rfl
      · try simp only [if_neg q3]
        by_cases q4 : (15 : Int32) < p4
        · try simp only [if_pos q4]
          all_goals rfl
        · try simp only [if_neg q4]
          all_goals first | rfl | exact (F_clearResult_8 (ups (ups (ups (ups F 4 p1) 5 p2) 6 (nar .boolean p3)) 7 p4))
    · try simp only [if_neg q2]
      by_cases q3 : p2 = (1 : Int32)
      · try simp only [if_pos q3]
        by_cases q4 : p4 < 0
        · try simp only [if_pos q4]
          all_goals rfl
        · try simp only [if_neg q4]
          by_cases q5 : (15 : Int32) < p4
          · try simp only [if_pos q5]
            all_goals rfl
          · try simp only [if_neg q5]
            all_goals first | rfl | exact (F_clearResult_8 (ups (ups (ups (ups F 4 p1) 5 p2) 6 (nar .boolean p3)) 7 p4))
      · try simp only [if_neg q3]
        all_goals rfl
  · try simp only [if_neg q1]
    by_cases q2 : p1 = (1 : Int32)
    · try simp only [if_pos q2]
      by_cases q3 : p2 = 0
      · try simp only [if_pos q3]
        by_cases q4 : p4 < 0
        · try simp only [if_pos q4]
          all_goals rfl
        · try simp only [if_neg q4]
          by_cases q5 : (15 : Int32) < p4
          · try simp only [if_pos q5]
            all_goals rfl
          · try simp only [if_neg q5]
            all_goals first | rfl | exact (F_clearResult_8 (ups (ups (ups (ups F 4 p1) 5 p2) 6 (nar .boolean p3)) 7 p4))
      · try simp only [if_neg q3]
        by_cases q4 : p2 = (1 : Int32)
        · try simp only [if_pos q4]
          by_cases q5 : p4 < 0
          · try simp only [if_pos q5]
            all_goals rfl
          · try simp only [if_neg q5]
            by_cases q6 : (15 : Int32) < p4
            · try simp only [if_pos q6]
              all_goals rfl
            · try simp only [if_neg q6]
              all_goals first | rfl | exact (F_clearResult_8 (ups (ups (ups (ups F 4 p1) 5 p2) 6 (nar .boolean p3)) 7 p4))
        · try simp only [if_neg q4]
          all_goals rfl
    · try simp only [if_neg q2]
      all_goals rfl
theorem F_setQuery_9 (F : Nat → Int32) (p1 : Int32) (p2 : Int32) (p3 : Int32) (p4 : Int32) : F_setQuery F p1 p2 p3 p4 9 = (if p1 = 0 then (if p2 = 0 then (if p4 < 0 then (F 9) else (if (15 : Int32) < p4 then (F 9) else (0 : Int32))) else (if p2 = (1 : Int32) then (if p4 < 0 then (F 9) else (if (15 : Int32) < p4 then (F 9) else (0 : Int32))) else (F 9))) else (if p1 = (1 : Int32) then (if p2 = 0 then (if p4 < 0 then (F 9) else (if (15 : Int32) < p4 then (F 9) else (0 : Int32))) else (if p2 = (1 : Int32) then (if p4 < 0 then (F 9) else (if (15 : Int32) < p4 then (F 9) else (0 : Int32))) else (F 9))) else (F 9))) := by
  rw [eF_setQuery]
  by_cases q1 : p1 = 0
  · try simp only [if_pos q1]
    by_cases q2 : p2 = 0
    · try simp only [if_pos q2]
      by_cases q3 : p4 < 0
      · try simp only [if_pos q3]
        all_goals rfl
      · try simp only [if_neg q3]
        by_cases q4 : (15 : Int32) < p4
        · try simp only [if_pos q4]
          all_goals rfl
        · try simp only [if_neg q4]
          all_goals first | rfl | exact (F_clearResult_9 (ups (ups (ups (ups F 4 p1) 5 p2) 6 (nar .boolean p3)) 7 p4))
    · try simp only [if_neg q2]
      by_cases q3 : p2 = (1 : Int32)
      · try simp only [if_pos q3]
        by_cases q4 : p4 < 0
        · try simp only [if_pos q4]
          all_goals rfl
        · try simp only [if_neg q4]
          by_cases q5 : (15 : Int32) < p4
          · try simp only [if_pos q5]
            all_goals rfl
          · try simp only [if_neg q5]
            all_goals first | rfl | exact (F_clearResult_9 (ups (ups (ups (ups F 4 p1) 5 p2) 6 (nar .boolean p3)) 7 p4))
      · try simp only [if_neg q3]
        all_goals rfl
  · try simp only [if_neg q1]
    by_cases q2 : p1 = (1 : Int32)
    · try simp only [if_pos q2]
      by_cases q3 : p2 = 0
      · try simp only [if_pos q3]
        by_cases q4 : p4 < 0
        · try simp only [if_pos q4]
          all_goals rfl
        · try simp only [if_neg q4]
          by_cases q5 : (15 : Int32) < p4
          · try simp only [if_pos q5]
            all_goals rfl
          · try simp only [if_neg q5]
            all_goals first | rfl | exact (F_clearResult_9 (ups (ups (ups (ups F 4 p1) 5 p2) 6 (nar .boolean p3)) 7 p4))
      · try simp only [if_neg q3]
        by_cases q4 : p2 = (1 : Int32)
        · try simp only [if_pos q4]
          by_cases q5 : p4 < 0
          · try simp only [if_pos q5]
            all_goals rfl
          · try simp only [if_neg q5]
            by_cases q6 : (15 : Int32) < p4
            · try simp only [if_pos q6]
              all_goals rfl
            · try simp only [if_neg q6]
              all_goals first | rfl | exact (F_clearResult_9 (ups (ups (ups (ups F 4 p1) 5 p2) 6 (nar .boolean p3)) 7 p4))
        · try simp only [if_neg q4]
          all_goals rfl
    · try simp only [if_neg q2]
      all_goals rfl
theorem F_setQuery_10 (F : Nat → Int32) (p1 : Int32) (p2 : Int32) (p3 : Int32) (p4 : Int32) : F_setQuery F p1 p2 p3 p4 10 = (F 10) := by
  rw [eF_setQuery]
  by_cases q1 : p1 = 0
  · try simp only [if_pos q1]
    by_cases q2 : p2 = 0
    · try simp only [if_pos q2]
      by_cases q3 : p4 < 0
      · try simp only [if_pos q3]
        all_goals rfl
      · try simp only [if_neg q3]
        by_cases q4 : (15 : Int32) < p4
        · try simp only [if_pos q4]
          all_goals rfl
        · try simp only [if_neg q4]
          all_goals first | rfl | exact (F_clearResult_10 (ups (ups (ups (ups F 4 p1) 5 p2) 6 (nar .boolean p3)) 7 p4))
    · try simp only [if_neg q2]
      by_cases q3 : p2 = (1 : Int32)
      · try simp only [if_pos q3]
        by_cases q4 : p4 < 0
        · try simp only [if_pos q4]
          all_goals rfl
        · try simp only [if_neg q4]
          by_cases q5 : (15 : Int32) < p4
          · try simp only [if_pos q5]
            all_goals rfl
          · try simp only [if_neg q5]
            all_goals first | rfl | exact (F_clearResult_10 (ups (ups (ups (ups F 4 p1) 5 p2) 6 (nar .boolean p3)) 7 p4))
      · try simp only [if_neg q3]
        all_goals rfl
  · try simp only [if_neg q1]
    by_cases q2 : p1 = (1 : Int32)
    · try simp only [if_pos q2]
      by_cases q3 : p2 = 0
      · try simp only [if_pos q3]
        by_cases q4 : p4 < 0
        · try simp only [if_pos q4]
          all_goals rfl
        · try simp only [if_neg q4]
          by_cases q5 : (15 : Int32) < p4
          · try simp only [if_pos q5]
            all_goals rfl
          · try simp only [if_neg q5]
            all_goals first | rfl | exact (F_clearResult_10 (ups (ups (ups (ups F 4 p1) 5 p2) 6 (nar .boolean p3)) 7 p4))
      · try simp only [if_neg q3]
        by_cases q4 : p2 = (1 : Int32)
        · try simp only [if_pos q4]
          by_cases q5 : p4 < 0
          · try simp only [if_pos q5]
            all_goals rfl
          · try simp only [if_neg q5]
            by_cases q6 : (15 : Int32) < p4
            · try simp only [if_pos q6]
              all_goals rfl
            · try simp only [if_neg q6]
              all_goals first | rfl | exact (F_clearResult_10 (ups (ups (ups (ups F 4 p1) 5 p2) 6 (nar .boolean p3)) 7 p4))
        · try simp only [if_neg q4]
          all_goals rfl
    · try simp only [if_neg q2]
      all_goals rfl
theorem run_setQuery {l : Launch} {Z : State} {a0 : Array Value} (H : OK Z a0) (F : Nat → Int32) (G : Nat → Int64) (A : Nat → Int32 → Int32) (B : Nat → Int32 → Int64) (p1 : Int32) (p2 : Int32) (p3 : Int32) (p4 : Int32) :
    Wk l Z (MoC Z cdC) md_setQuery 0 [.val (.ref 0), .val (.int p1), .val (.int p2), .val (.int p3), .val (.int p4)] [] (10, F, G, A, B) 0 0 (fun v w' => v = some (.int (f_setQuery p1 p2 p3 p4)) ∧ w' = (10, (F_setQuery F p1 p2 p3 p4), G, A, B)) :=
  wp_setQuery H F G A B p1 p2 p3 p4 (fun q1 q2 q3 => ⟨by simp only [e_setQuery, if_pos q1, if_pos q2, if_pos q3], by simp only [eF_setQuery, if_pos q1, if_pos q2, if_pos q3]⟩) (fun q1 q2 q3 q5 => ⟨by simp only [e_setQuery, if_pos q1, if_pos q2, if_neg q3, if_neg q5], by simp only [eF_setQuery, if_pos q1, if_pos q2, if_neg q3, if_neg q5]⟩) (fun q1 q2 q3 q5 => ⟨by simp only [e_setQuery, if_pos q1, if_pos q2, if_neg q3, if_pos q5], by simp only [eF_setQuery, if_pos q1, if_pos q2, if_neg q3, if_pos q5]⟩) (fun q1 q2 q8 q9 => ⟨by simp only [e_setQuery, if_pos q1, if_neg q2, if_pos q8, if_pos q9], by simp only [eF_setQuery, if_pos q1, if_neg q2, if_pos q8, if_pos q9]⟩) (fun q1 q2 q8 q9 q11 => ⟨by simp only [e_setQuery, if_pos q1, if_neg q2, if_pos q8, if_neg q9, if_neg q11], by simp only [eF_setQuery, if_pos q1, if_neg q2, if_pos q8, if_neg q9, if_neg q11]⟩) (fun q1 q2 q8 q9 q11 => ⟨by simp only [e_setQuery, if_pos q1, if_neg q2, if_pos q8, if_neg q9, if_pos q11], by simp only [eF_setQuery, if_pos q1, if_neg q2, if_pos q8, if_neg q9, if_pos q11]⟩) (fun q1 q2 q8 => ⟨by simp only [e_setQuery, if_pos q1, if_neg q2, if_neg q8], by simp only [eF_setQuery, if_pos q1, if_neg q2, if_neg q8]⟩) (fun q1 q15 q16 q17 => ⟨by simp only [e_setQuery, if_neg q1, if_pos q15, if_pos q16, if_pos q17], by simp only [eF_setQuery, if_neg q1, if_pos q15, if_pos q16, if_pos q17]⟩) (fun q1 q15 q16 q17 q19 => ⟨by simp only [e_setQuery, if_neg q1, if_pos q15, if_pos q16, if_neg q17, if_neg q19], by simp only [eF_setQuery, if_neg q1, if_pos q15, if_pos q16, if_neg q17, if_neg q19]⟩) (fun q1 q15 q16 q17 q19 => ⟨by simp only [e_setQuery, if_neg q1, if_pos q15, if_pos q16, if_neg q17, if_pos q19], by simp only [eF_setQuery, if_neg q1, if_pos q15, if_pos q16, if_neg q17, if_pos q19]⟩) (fun q1 q15 q16 q22 q23 => ⟨by simp only [e_setQuery, if_neg q1, if_pos q15, if_neg q16, if_pos q22, if_pos q23], by simp only [eF_setQuery, if_neg q1, if_pos q15, if_neg q16, if_pos q22, if_pos q23]⟩) (fun q1 q15 q16 q22 q23 q25 => ⟨by simp only [e_setQuery, if_neg q1, if_pos q15, if_neg q16, if_pos q22, if_neg q23, if_neg q25], by simp only [eF_setQuery, if_neg q1, if_pos q15, if_neg q16, if_pos q22, if_neg q23, if_neg q25]⟩) (fun q1 q15 q16 q22 q23 q25 => ⟨by simp only [e_setQuery, if_neg q1, if_pos q15, if_neg q16, if_pos q22, if_neg q23, if_pos q25], by simp only [eF_setQuery, if_neg q1, if_pos q15, if_neg q16, if_pos q22, if_neg q23, if_pos q25]⟩) (fun q1 q15 q16 q22 => ⟨by simp only [e_setQuery, if_neg q1, if_pos q15, if_neg q16, if_neg q22], by simp only [eF_setQuery, if_neg q1, if_pos q15, if_neg q16, if_neg q22]⟩) (fun q1 q15 => ⟨by simp only [e_setQuery, if_neg q1, if_neg q15], by simp only [eF_setQuery, if_neg q1, if_neg q15]⟩)
set_option maxRecDepth 65536 in
set_option maxHeartbeats 4000000 in
theorem wp_emitStack {l : Launch} {Z : State} {a0 : Array Value} (H : OK Z a0) (F : Nat → Int32) (G : Nat → Int64) (A : Nat → Int32 → Int32) (B : Nat → Int32 → Int64) {Q : Option Value → WO → Prop} (h2 : ¬ (F 9) < (F 2) → Q (some (.int (0 : Int32))) (10, F, G, A, B)) (h4 : (F 9) < (F 2) → (F 9) < (64 : Int32) → Wk l Z (MoC Z cdC) md_emitStack 32 [.val (.ref 0), .val (.int ((F 9) * (16 : Int32))), .val (.int (0 : Int32))] [] (10, F, G, A, B) 0 0 Q) (h5 : (F 9) < (F 2) → ¬ (F 9) < (64 : Int32) → Q (some (.int (0 : Int32))) (10, F, G, A, B)) :
    Wk l Z (MoC Z cdC) md_emitStack 0 [.val (.ref 0), .unset, .unset] [] (10, F, G, A, B) 0 0 Q := by
  refine Wk.aloadN o_emitStack_0 rfl ?_
  refine Wk.getI (mI_count) (wf_count H) o_emitStack_1 (x := (F 9)) rfl ?_
  refine Wk.aloadN o_emitStack_4 rfl ?_
  refine Wk.getI (mI_rowLimit) (wf_rowLimit H) o_emitStack_5 (x := (F 2)) rfl ?_
  refine Wk.icmp_ge o_emitStack_8 (fun q1 => ?_) (fun q1 => ?_)
  · refine Wk.iconst o_emitStack_20 (z := (0 : Int32)) (by decide) ?_
    exact Wk.zreturn mrC rfl o_emitStack_21 rfl (by decide) (by decide) (y := (0 : Int32)) (by decide) (h2 q1)
  · refine Wk.aloadN o_emitStack_11 rfl ?_
    refine Wk.getI (mI_count) (wf_count H) o_emitStack_12 (x := (F 9)) rfl ?_
    refine Wk.bipush o_emitStack_15 (z := (64 : Int32)) (by decide) ?_
    refine Wk.icmp_lt o_emitStack_17 (fun q3 => ?_) (fun q3 => ?_)
    · refine Wk.aloadN o_emitStack_22 rfl ?_
      refine Wk.getI (mI_count) (wf_count H) o_emitStack_23 (x := (F 9)) rfl ?_
      refine Wk.bipush o_emitStack_26 (z := (16 : Int32)) (by decide) ?_
      refine Wk.imul o_emitStack_28 ?_
      refine Wk.istoreN o_emitStack_29 (Or.inl rfl) (L' := [.val (.ref 0), .val (.int ((F 9) * (16 : Int32))), .unset]) rfl ?_
      refine Wk.iconst o_emitStack_30 (z := (0 : Int32)) (by decide) ?_
      refine Wk.istoreN o_emitStack_31 (Or.inl rfl) (L' := [.val (.ref 0), .val (.int ((F 9) * (16 : Int32))), .val (.int (0 : Int32))]) rfl ?_
      exact (h4 q1 q3)
    · refine Wk.iconst o_emitStack_20 (z := (0 : Int32)) (by decide) ?_
      exact Wk.zreturn mrC rfl o_emitStack_21 rfl (by decide) (by decide) (y := (0 : Int32)) (by decide) (h5 q1 q3)

set_option maxRecDepth 65536 in
set_option maxHeartbeats 4000000 in
theorem wp_emitStack_32 {l : Launch} {Z : State} {a0 : Array Value} (H : OK Z a0) (F : Nat → Int32) (G : Nat → Int64) (A : Nat → Int32 → Int32) (B : Nat → Int32 → Int64) (v1 : Int32) (v2 : Int32) {Q : Option Value → WO → Prop} (s2 : (F 10) < v2 → ¬ (F 10) < 0) (s3 : (F 10) < v2 → (F 10) < (16 : Int32)) (s4 : (F 10) < v2 → ¬ (F 9) < 0) (s5 : (F 10) < v2 → (F 9) < (64 : Int32)) (h6 : (F 10) < v2 → Q (some (.int (1 : Int32))) (10, (ups F 9 ((F 9) + (1 : Int32))), G, (ups (ups (ups A 2 (ups (A 2) (F 9) ((A 6) (F 10)))) 3 (ups (A 3) (F 9) (F 10))) 4 (ups (A 4) (F 9) (nar .boolean ((A 8) (F 10))))), B)) (s8 : ¬ (F 10) < v2 → ¬ v2 < (16 : Int32) → ¬ (F 10) < 0) (s9 : ¬ (F 10) < v2 → ¬ v2 < (16 : Int32) → (F 10) < (16 : Int32)) (s10 : ¬ (F 10) < v2 → ¬ v2 < (16 : Int32) → ¬ (F 9) < 0) (s11 : ¬ (F 10) < v2 → ¬ v2 < (16 : Int32) → (F 9) < (64 : Int32)) (h12 : ¬ (F 10) < v2 → ¬ v2 < (16 : Int32) → Q (some (.int (1 : Int32))) (10, (ups F 9 ((F 9) + (1 : Int32))), G, (ups (ups (ups A 2 (ups (A 2) (F 9) ((A 6) (F 10)))) 3 (ups (A 3) (F 9) (F 10))) 4 (ups (A 4) (F 9) (nar .boolean ((A 8) (F 10))))), B)) (s13 : ¬ (F 10) < v2 → v2 < (16 : Int32) → ¬ v2 < 0) (s14 : ¬ (F 10) < v2 → v2 < (16 : Int32) → ¬ (v1 + v2) < 0) (s15 : ¬ (F 10) < v2 → v2 < (16 : Int32) → (v1 + v2) < (1024 : Int32)) (h16 : ¬ (F 10) < v2 → v2 < (16 : Int32) → Wk l Z (MoC Z cdC) md_emitStack 32 [.val (.ref 0), .val (.int v1), .val (.int (v2 + (1 : Int32)))] [] (10, F, G, (ups A 5 (ups (A 5) (v1 + v2) ((A 6) v2))), B) 0 0 Q) :
    Wk l Z (MoC Z cdC) md_emitStack 32 [.val (.ref 0), .val (.int v1), .val (.int v2)] [] (10, F, G, A, B) 0 0 Q := by
  refine Wk.iloadN o_emitStack_32 rfl ?_
  refine Wk.aloadN o_emitStack_33 rfl ?_
  refine Wk.getI (mI_top) (wf_top H) o_emitStack_34 (x := (F 10)) rfl ?_
  refine Wk.icmp_gt o_emitStack_37 (fun q1 => ?_) (fun q1 => ?_)
  · refine Wk.aloadN o_emitStack_66 rfl ?_
    refine Wk.getA (mA_rowNodeA) (by decide) (i' := 3) rfl (wf_rowNodeA H) o_emitStack_67 ?_
    refine Wk.aloadN o_emitStack_70 rfl ?_
    refine Wk.getI (mI_count) (wf_count H) o_emitStack_71 (x := (F 9)) rfl ?_
    refine Wk.aloadN o_emitStack_74 rfl ?_
    refine Wk.getA (mA_stkNode) (by decide) (i' := 7) rfl (wf_stkNode H) o_emitStack_75 ?_
    refine Wk.aloadN o_emitStack_78 rfl ?_
    refine Wk.getI (mI_top) (wf_top H) o_emitStack_79 (x := (F 10)) rfl ?_
    refine Wk.iaload (mA_stkNode) (by decide) (i' := 7) rfl (s2 q1) (s3 q1) o_emitStack_82 (y := ((A 6) (F 10))) rfl ?_
    refine Wk.iastore (coC H) (f := (A 2)) (mA_rowNodeA) rfl (by decide) (i' := 3) rfl (s4 q1) (s5 q1) o_emitStack_83 ?_
    refine Wk.aloadN o_emitStack_84 rfl ?_
    refine Wk.getA (mA_rowDepthA) (by decide) (i' := 4) rfl (wf_rowDepthA H) o_emitStack_85 ?_
    refine Wk.aloadN o_emitStack_88 rfl ?_
    refine Wk.getI (mI_count) (wf_count H) o_emitStack_89 (x := (F 9)) rfl ?_
    refine Wk.aloadN o_emitStack_92 rfl ?_
    refine Wk.getI (mI_top) (wf_top H) o_emitStack_93 (x := (F 10)) rfl ?_
    refine Wk.iastore (coC H) (f := (A 3)) (mA_rowDepthA) rfl (by decide) (i' := 4) rfl (s4 q1) (s5 q1) o_emitStack_96 ?_
    refine Wk.aloadN o_emitStack_97 rfl ?_
    refine Wk.getA (mA_rowCycA) (by decide) (i' := 5) rfl (wf_rowCycA H) o_emitStack_98 ?_
    refine Wk.aloadN o_emitStack_101 rfl ?_
    refine Wk.getI (mI_count) (wf_count H) o_emitStack_102 (x := (F 9)) rfl ?_
    refine Wk.aloadN o_emitStack_105 rfl ?_
    refine Wk.getA (mA_stkCyc) (by decide) (i' := 9) rfl (wf_stkCyc H) o_emitStack_106 ?_
    refine Wk.aloadN o_emitStack_109 rfl ?_
    refine Wk.getI (mI_top) (wf_top H) o_emitStack_110 (x := (F 10)) rfl ?_
    refine Wk.baload (mA_stkCyc) (by decide) (i' := 9) rfl (s2 q1) (s3 q1) o_emitStack_113 (y := ((A 8) (F 10))) rfl ?_
    refine Wk.bastore (coC H) (f := (A 4)) (v' := (nar .boolean ((A 8) (F 10)))) rfl (mA_rowCycA) rfl (by decide) (i' := 5) rfl (s4 q1) (s5 q1) o_emitStack_114 ?_
    refine Wk.aloadN o_emitStack_115 rfl ?_
    refine Wk.dup o_emitStack_116 rfl ?_
    refine Wk.getI (mI_count) (wf_count H) o_emitStack_117 (x := (F 9)) rfl ?_
    refine Wk.iconst o_emitStack_120 (z := (1 : Int32)) (by decide) ?_
    refine Wk.iadd o_emitStack_121 ?_
    refine Wk.putI (coC H) (mI_count) (wf_count H) (Or.inl (wy_count H)) o_emitStack_122 ?_
    refine Wk.iconst o_emitStack_125 (z := (1 : Int32)) (by decide) ?_
    exact Wk.zreturn mrC rfl o_emitStack_126 rfl (by decide) (by decide) (y := (1 : Int32)) (by decide) (h6 q1)
  · refine Wk.iloadN o_emitStack_40 rfl ?_
    refine Wk.bipush o_emitStack_41 (z := (16 : Int32)) (by decide) ?_
    refine Wk.icmp_ge o_emitStack_43 (fun q7 => ?_) (fun q7 => ?_)
    · refine Wk.aloadN o_emitStack_66 rfl ?_
      refine Wk.getA (mA_rowNodeA) (by decide) (i' := 3) rfl (wf_rowNodeA H) o_emitStack_67 ?_
      refine Wk.aloadN o_emitStack_70 rfl ?_
      refine Wk.getI (mI_count) (wf_count H) o_emitStack_71 (x := (F 9)) rfl ?_
      refine Wk.aloadN o_emitStack_74 rfl ?_
      refine Wk.getA (mA_stkNode) (by decide) (i' := 7) rfl (wf_stkNode H) o_emitStack_75 ?_
      refine Wk.aloadN o_emitStack_78 rfl ?_
      refine Wk.getI (mI_top) (wf_top H) o_emitStack_79 (x := (F 10)) rfl ?_
      refine Wk.iaload (mA_stkNode) (by decide) (i' := 7) rfl (s8 q1 q7) (s9 q1 q7) o_emitStack_82 (y := ((A 6) (F 10))) rfl ?_
      refine Wk.iastore (coC H) (f := (A 2)) (mA_rowNodeA) rfl (by decide) (i' := 3) rfl (s10 q1 q7) (s11 q1 q7) o_emitStack_83 ?_
      refine Wk.aloadN o_emitStack_84 rfl ?_
      refine Wk.getA (mA_rowDepthA) (by decide) (i' := 4) rfl (wf_rowDepthA H) o_emitStack_85 ?_
      refine Wk.aloadN o_emitStack_88 rfl ?_
      refine Wk.getI (mI_count) (wf_count H) o_emitStack_89 (x := (F 9)) rfl ?_
      refine Wk.aloadN o_emitStack_92 rfl ?_
      refine Wk.getI (mI_top) (wf_top H) o_emitStack_93 (x := (F 10)) rfl ?_
      refine Wk.iastore (coC H) (f := (A 3)) (mA_rowDepthA) rfl (by decide) (i' := 4) rfl (s10 q1 q7) (s11 q1 q7) o_emitStack_96 ?_
      refine Wk.aloadN o_emitStack_97 rfl ?_
      refine Wk.getA (mA_rowCycA) (by decide) (i' := 5) rfl (wf_rowCycA H) o_emitStack_98 ?_
      refine Wk.aloadN o_emitStack_101 rfl ?_
      refine Wk.getI (mI_count) (wf_count H) o_emitStack_102 (x := (F 9)) rfl ?_
      refine Wk.aloadN o_emitStack_105 rfl ?_
      refine Wk.getA (mA_stkCyc) (by decide) (i' := 9) rfl (wf_stkCyc H) o_emitStack_106 ?_
      refine Wk.aloadN o_emitStack_109 rfl ?_
      refine Wk.getI (mI_top) (wf_top H) o_emitStack_110 (x := (F 10)) rfl ?_
      refine Wk.baload (mA_stkCyc) (by decide) (i' := 9) rfl (s8 q1 q7) (s9 q1 q7) o_emitStack_113 (y := ((A 8) (F 10))) rfl ?_
      refine Wk.bastore (coC H) (f := (A 4)) (v' := (nar .boolean ((A 8) (F 10)))) rfl (mA_rowCycA) rfl (by decide) (i' := 5) rfl (s10 q1 q7) (s11 q1 q7) o_emitStack_114 ?_
      refine Wk.aloadN o_emitStack_115 rfl ?_
      refine Wk.dup o_emitStack_116 rfl ?_
      refine Wk.getI (mI_count) (wf_count H) o_emitStack_117 (x := (F 9)) rfl ?_
      refine Wk.iconst o_emitStack_120 (z := (1 : Int32)) (by decide) ?_
      refine Wk.iadd o_emitStack_121 ?_
      refine Wk.putI (coC H) (mI_count) (wf_count H) (Or.inl (wy_count H)) o_emitStack_122 ?_
      refine Wk.iconst o_emitStack_125 (z := (1 : Int32)) (by decide) ?_
      exact Wk.zreturn mrC rfl o_emitStack_126 rfl (by decide) (by decide) (y := (1 : Int32)) (by decide) (h12 q1 q7)
    · refine Wk.aloadN o_emitStack_46 rfl ?_
      refine Wk.getA (mA_rowPathA) (by decide) (i' := 6) rfl (wf_rowPathA H) o_emitStack_47 ?_
      refine Wk.iloadN o_emitStack_50 rfl ?_
      refine Wk.iloadN o_emitStack_51 rfl ?_
      refine Wk.iadd o_emitStack_52 ?_
      refine Wk.aloadN o_emitStack_53 rfl ?_
      refine Wk.getA (mA_stkNode) (by decide) (i' := 7) rfl (wf_stkNode H) o_emitStack_54 ?_
      refine Wk.iloadN o_emitStack_57 rfl ?_
      refine Wk.iaload (mA_stkNode) (by decide) (i' := 7) rfl (s13 q1 q7) q7 o_emitStack_58 (y := ((A 6) v2)) rfl ?_
      refine Wk.iastore (coC H) (f := (A 5)) (mA_rowPathA) rfl (by decide) (i' := 6) rfl (s14 q1 q7) (s15 q1 q7) o_emitStack_59 ?_
      refine Wk.iinc o_emitStack_60 rfl (z := (v2 + (1 : Int32))) rfl (L' := [.val (.ref 0), .val (.int v1), .val (.int (v2 + (1 : Int32)))]) rfl ?_
      refine Wk.goto o_emitStack_63 ?_
      exact (h16 q1 q7)

theorem rt_emitStack (G : Nat → Int64) (B : Nat → Int32 → Int64) (v0 : Int32) (xF : Nat → Int32) (xA : Nat → Int32 → Int32) (r : Int32 × (Nat → Int32) × (Nat → Int32 → Int32)) (e : (v0, xF, xA) = r) : some (Value.int v0) = some (.int r.1) ∧ (10, xF, G, xA, B) = (10, r.2.1, G, r.2.2, B) := by subst e; exact ⟨rfl, rfl⟩
def lp_emitStack : Nat → Nat → Int32 → Int32 → (Nat → Int32) → (Nat → Int32 → Int32) → Option (Int32 × (Nat → Int32) × (Nat → Int32 → Int32))
  | 0, _, _, _, _, _ => none
  | n + 1, tag, v1, v2, F, A => if tag = 32 then (if (F 10) < v2 then (if (¬ (F 10) < 0) ∧ ((F 10) < (16 : Int32)) ∧ (¬ (F 9) < 0) ∧ ((F 9) < (64 : Int32)) then some ((1 : Int32), (ups F 9 ((F 9) + (1 : Int32))), (ups (ups (ups A 2 (ups (A 2) (F 9) ((A 6) (F 10)))) 3 (ups (A 3) (F 9) (F 10))) 4 (ups (A 4) (F 9) (nar .boolean ((A 8) (F 10)))))) else none) else (if v2 < (16 : Int32) then (if (¬ v2 < 0) ∧ (¬ (v1 + v2) < 0) ∧ ((v1 + v2) < (1024 : Int32)) then lp_emitStack n 32 v1 (v2 + (1 : Int32)) F (ups A 5 (ups (A 5) (v1 + v2) ((A 6) v2))) else none) else (if (¬ (F 10) < 0) ∧ ((F 10) < (16 : Int32)) ∧ (¬ (F 9) < 0) ∧ ((F 9) < (64 : Int32)) then some ((1 : Int32), (ups F 9 ((F 9) + (1 : Int32))), (ups (ups (ups A 2 (ups (A 2) (F 9) ((A 6) (F 10)))) 3 (ups (A 3) (F 9) (F 10))) 4 (ups (A 4) (F 9) (nar .boolean ((A 8) (F 10)))))) else none))) else none
theorem lp_emitStack_z (tag : Nat) (v1 : Int32) (v2 : Int32) (F : Nat → Int32) (A : Nat → Int32 → Int32) : lp_emitStack 0 tag v1 v2 F A = none := Eq.trans rfl rfl
theorem lp_emitStack_32 (n : Nat) (v1 : Int32) (v2 : Int32) (F : Nat → Int32) (A : Nat → Int32 → Int32) : lp_emitStack (n + 1) 32 v1 v2 F A = (if (F 10) < v2 then (if (¬ (F 10) < 0) ∧ ((F 10) < (16 : Int32)) ∧ (¬ (F 9) < 0) ∧ ((F 9) < (64 : Int32)) then some ((1 : Int32), (ups F 9 ((F 9) + (1 : Int32))), (ups (ups (ups A 2 (ups (A 2) (F 9) ((A 6) (F 10)))) 3 (ups (A 3) (F 9) (F 10))) 4 (ups (A 4) (F 9) (nar .boolean ((A 8) (F 10)))))) else none) else (if v2 < (16 : Int32) then (if (¬ v2 < 0) ∧ (¬ (v1 + v2) < 0) ∧ ((v1 + v2) < (1024 : Int32)) then lp_emitStack n 32 v1 (v2 + (1 : Int32)) F (ups A 5 (ups (A 5) (v1 + v2) ((A 6) v2))) else none) else (if (¬ (F 10) < 0) ∧ ((F 10) < (16 : Int32)) ∧ (¬ (F 9) < 0) ∧ ((F 9) < (64 : Int32)) then some ((1 : Int32), (ups F 9 ((F 9) + (1 : Int32))), (ups (ups (ups A 2 (ups (A 2) (F 9) ((A 6) (F 10)))) 3 (ups (A 3) (F 9) (F 10))) 4 (ups (A 4) (F 9) (nar .boolean ((A 8) (F 10)))))) else none))) := by
  rw [lp_emitStack, if_pos rfl]
set_option maxRecDepth 65536 in
set_option maxHeartbeats 4000000 in
theorem lpw_emitStack {l : Launch} {Z : State} {a0 : Array Value} (H : OK Z a0) (G : Nat → Int64) (B : Nat → Int32 → Int64) : ∀ (n : Nat) (v1 : Int32) (v2 : Int32) (F : Nat → Int32) (A : Nat → Int32 → Int32) (r : Int32 × (Nat → Int32) × (Nat → Int32 → Int32)), (lp_emitStack n 32 v1 v2 F A = some r → Wk l Z (MoC Z cdC) md_emitStack 32 [.val (.ref 0), .val (.int v1), .val (.int v2)] [] (10, F, G, A, B) 0 0 (fun v w' => v = some (.int r.1) ∧ w' = (10, r.2.1, G, r.2.2, B))) := by
  intro n
  induction n with
  | zero =>
    intro v1 v2 F A r
    exact (fun h => by rw [lp_emitStack_z] at h; cases h)
  | succ n ih =>
    intro v1 v2 F A r
    refine fun h => ?_
    · rw [lp_emitStack_32] at h
      exact wp_emitStack_32 H F G A B v1 v2 (fun q1 => (gd (ifp q1 h)).1.1) (fun q1 => (gd (ifp q1 h)).1.2.1) (fun q1 => (gd (ifp q1 h)).1.2.2.1) (fun q1 => (gd (ifp q1 h)).1.2.2.2) (fun q1 => (rt_emitStack _ _ _ _ _ r (Option.some.inj (gd (ifp q1 h)).2))) (fun q1 q7 => (gd (ifn q7 (ifn q1 h))).1.1) (fun q1 q7 => (gd (ifn q7 (ifn q1 h))).1.2.1) (fun q1 q7 => (gd (ifn q7 (ifn q1 h))).1.2.2.1) (fun q1 q7 => (gd (ifn q7 (ifn q1 h))).1.2.2.2) (fun q1 q7 => (rt_emitStack _ _ _ _ _ r (Option.some.inj (gd (ifn q7 (ifn q1 h))).2))) (fun q1 q7 => (gd (ifp q7 (ifn q1 h))).1.1) (fun q1 q7 => (gd (ifp q7 (ifn q1 h))).1.2.1) (fun q1 q7 => (gd (ifp q7 (ifn q1 h))).1.2.2) (fun q1 q7 => (ih _ _ _ _ _) (gd (ifp q7 (ifn q1 h))).2)
def en_emitStack (F : Nat → Int32) (A : Nat → Int32 → Int32) : Option (Int32 × (Nat → Int32) × (Nat → Int32 → Int32)) := (if (F 9) < (F 2) then (if (F 9) < (64 : Int32) then lp_emitStack 1000 32 ((F 9) * (16 : Int32)) (0 : Int32) F A else some ((0 : Int32), F, A)) else some ((0 : Int32), F, A))
theorem een_emitStack (F : Nat → Int32) (A : Nat → Int32 → Int32) : en_emitStack F A  = (if (F 9) < (F 2) then (if (F 9) < (64 : Int32) then lp_emitStack 1000 32 ((F 9) * (16 : Int32)) (0 : Int32) F A else some ((0 : Int32), F, A)) else some ((0 : Int32), F, A)) := Eq.trans rfl rfl
def R_emitStack (F : Nat → Int32) (A : Nat → Int32 → Int32) : Int32 × (Nat → Int32) × (Nat → Int32 → Int32) := (en_emitStack F A ).getD (0, (fun _ => 0), (fun _ _ => 0))
theorem eR_emitStack (F : Nat → Int32) (A : Nat → Int32 → Int32) : R_emitStack F A  = (en_emitStack F A ).getD (0, (fun _ => 0), (fun _ _ => 0)) := Eq.trans rfl rfl
set_option maxRecDepth 65536 in
set_option maxHeartbeats 4000000 in
theorem run_emitStack {l : Launch} {Z : State} {a0 : Array Value} (H : OK Z a0) (F : Nat → Int32) (G : Nat → Int64) (A : Nat → Int32 → Int32) (B : Nat → Int32 → Int64) (e1 : (en_emitStack F A ).isSome = true) :
    Wk l Z (MoC Z cdC) md_emitStack 0 [.val (.ref 0), .unset, .unset] [] (10, F, G, A, B) 0 0 (fun v w' => v = some (.int (R_emitStack F A ).1) ∧ w' = (10, (R_emitStack F A ).2.1, G, (R_emitStack F A ).2.2, B)) := by
  obtain ⟨r, h⟩ := Option.isSome_iff_exists.mp e1
  have e : R_emitStack F A  = r := (eR_emitStack F A ).trans (getD_some h)
  rw [e]
  rw [een_emitStack] at h
  exact wp_emitStack H F G A B  (fun q1 => (rt_emitStack _ _ _ _ _ r (Option.some.inj (ifn q1 h)))) (fun q1 q3 => (lpw_emitStack H G B _ _ _ _ _ _) (ifp q3 (ifp q1 h))) (fun q1 q3 => (rt_emitStack _ _ _ _ _ r (Option.some.inj (ifn q3 (ifp q1 h)))))
set_option maxRecDepth 65536 in
set_option maxHeartbeats 4000000 in
theorem wp_nextTarget {l : Launch} {Z : State} {a0 : Array Value} (H : OK Z a0) (F : Nat → Int32) (G : Nat → Int64) (A : Nat → Int32 → Int32) (B : Nat → Int32 → Int64) (p1 : Int32) (p2 : Int32) {Q : Option Value → WO → Prop} (h3 : Wk l Z (MoC Z cdC) md_nextTarget 13 [.val (.ref 0), .val (.int p1), .unset, .unset, .val (.int (if p2 < 0 then (0 : Int32) else p2))] [] (10, F, G, A, B) 0 0 Q) :
    Wk l Z (MoC Z cdC) md_nextTarget 0 [.val (.ref 0), .val (.int p1), .val (.int p2), .unset, .unset] [] (10, F, G, A, B) 0 0 Q := by
  refine Wk.iloadN o_nextTarget_0 rfl ?_
  have J2 : Wk l Z (MoC Z cdC) md_nextTarget 9 [.val (.ref 0), .val (.int p1), .val (.int p2), .unset, .unset] [.int (if p2 < 0 then (0 : Int32) else p2)] (10, F, G, A, B) 0 0 Q := by
    refine Wk.istoreN o_nextTarget_9 (Or.inl rfl) (L' := [.val (.ref 0), .val (.int p1), .val (.int p2), .val (.int (if p2 < 0 then (0 : Int32) else p2)), .unset]) rfl ?_
    refine Wk.iloadN o_nextTarget_10 rfl ?_
    refine Wk.istore o_nextTarget_11 (Or.inl rfl) (L' := [.val (.ref 0), .val (.int p1), .val (.int p2), .val (.int (if p2 < 0 then (0 : Int32) else p2)), .val (.int (if p2 < 0 then (0 : Int32) else p2))]) rfl ?_
    refine Wk.forget [false, false, true, true, false] (L' := [.val (.ref 0), .val (.int p1), .unset, .unset, .val (.int (if p2 < 0 then (0 : Int32) else p2))]) rfl rfl ?_
    exact h3
  refine Wk.if_ge o_nextTarget_1 (fun q1 => ?_) (fun q1 => ?_)
  · refine Wk.iloadN o_nextTarget_8 rfl ?_
    first | (rw [show ((if p2 < 0 then (0 : Int32) else p2) : Int32) = p2 from if_neg q1] at J2; exact J2) | exact J2 | (simp only [if_neg q1] at J2 ⊢; exact J2)
  · refine Wk.iconst o_nextTarget_4 (z := (0 : Int32)) (by decide) ?_
    refine Wk.goto o_nextTarget_5 ?_
    first | (rw [show ((if p2 < 0 then (0 : Int32) else p2) : Int32) = (0 : Int32) from if_pos q1] at J2; exact J2) | exact J2 | (simp only [if_pos q1] at J2 ⊢; exact J2)

set_option maxRecDepth 65536 in
set_option maxHeartbeats 4000000 in
theorem wp_nextTarget_13 {l : Launch} {Z : State} {a0 : Array Value} (H : OK Z a0) (F : Nat → Int32) (G : Nat → Int64) (A : Nat → Int32 → Int32) (B : Nat → Int32 → Int64) (v1 : Int32) (v4 : Int32) {Q : Option Value → WO → Prop} (h2 : ¬ v4 < (F 0) → Q (some (.int (-1 : Int32))) (10, F, G, A, B)) (h4 : v4 < (F 0) → ¬ v4 < (16 : Int32) → Q (some (.int (-1 : Int32))) (10, F, G, A, B)) (s5 : v4 < (F 0) → v4 < (16 : Int32) → ¬ ((v1 * (16 : Int32)) + v4) < 0) (s6 : v4 < (F 0) → v4 < (16 : Int32) → ((v1 * (16 : Int32)) + v4) < (256 : Int32)) (h8 : v4 < (F 0) → v4 < (16 : Int32) → ((A 0) ((v1 * (16 : Int32)) + v4)) = 0 → Wk l Z (MoC Z cdC) md_nextTarget 13 [.val (.ref 0), .val (.int v1), .unset, .unset, .val (.int (v4 + (1 : Int32)))] [] (10, F, G, A, B) 0 0 Q) (h9 : v4 < (F 0) → v4 < (16 : Int32) → ¬ ((A 0) ((v1 * (16 : Int32)) + v4)) = 0 → Q (some (.int v4)) (10, F, G, A, B)) :
    Wk l Z (MoC Z cdC) md_nextTarget 13 [.val (.ref 0), .val (.int v1), .unset, .unset, .val (.int v4)] [] (10, F, G, A, B) 0 0 Q := by
  refine Wk.iload o_nextTarget_13 rfl ?_
  refine Wk.aloadN o_nextTarget_15 rfl ?_
  refine Wk.getI (mI_maxNodes) (wf_maxNodes H) o_nextTarget_16 (x := (F 0)) rfl ?_
  refine Wk.icmp_ge o_nextTarget_19 (fun q1 => ?_) (fun q1 => ?_)
  · refine Wk.iconst o_nextTarget_53 (z := (-1 : Int32)) (by decide) ?_
    exact Wk.ireturn mrC rfl o_nextTarget_54 rfl (by decide) (by decide) (h2 q1)
  · refine Wk.iload o_nextTarget_22 rfl ?_
    refine Wk.bipush o_nextTarget_24 (z := (16 : Int32)) (by decide) ?_
    refine Wk.icmp_ge o_nextTarget_26 (fun q3 => ?_) (fun q3 => ?_)
    · refine Wk.iconst o_nextTarget_53 (z := (-1 : Int32)) (by decide) ?_
      exact Wk.ireturn mrC rfl o_nextTarget_54 rfl (by decide) (by decide) (h4 q1 q3)
    · refine Wk.aloadN o_nextTarget_29 rfl ?_
      refine Wk.getA (mA_adj) (by decide) (i' := 1) rfl (wf_adj H) o_nextTarget_30 ?_
      refine Wk.iloadN o_nextTarget_33 rfl ?_
      refine Wk.bipush o_nextTarget_34 (z := (16 : Int32)) (by decide) ?_
      refine Wk.imul o_nextTarget_36 ?_
      refine Wk.iload o_nextTarget_37 rfl ?_
      refine Wk.iadd o_nextTarget_39 ?_
      refine Wk.baload (mA_adj) (by decide) (i' := 1) rfl (s5 q1 q3) (s6 q1 q3) o_nextTarget_40 (y := ((A 0) ((v1 * (16 : Int32)) + v4))) rfl ?_
      refine Wk.if_eq o_nextTarget_41 (fun q7 => ?_) (fun q7 => ?_)
      · refine Wk.iinc o_nextTarget_47 rfl (z := (v4 + (1 : Int32))) rfl (L' := [.val (.ref 0), .val (.int v1), .unset, .unset, .val (.int (v4 + (1 : Int32)))]) rfl ?_
        refine Wk.goto o_nextTarget_50 ?_
        exact (h8 q1 q3 q7)
      · refine Wk.iload o_nextTarget_44 rfl ?_
        exact Wk.ireturn mrC rfl o_nextTarget_46 rfl (by decide) (by decide) (h9 q1 q3 q7)

theorem rt_nextTarget (F : Nat → Int32) (G : Nat → Int64) (A : Nat → Int32 → Int32) (B : Nat → Int32 → Int64) (v0 : Int32) (r : Int32) (e : v0 = r) : some (Value.int v0) = some (.int r) ∧ (10, F, G, A, B) = (10, F, G, A, B) := by subst e; exact ⟨rfl, rfl⟩
def lp_nextTarget : Nat → Nat → Int32 → Int32 → (Nat → Int32) → (Nat → Int32 → Int32) → Option (Int32)
  | 0, _, _, _, _, _ => none
  | n + 1, tag, v1, v4, F, A => if tag = 13 then (if v4 < (F 0) then (if v4 < (16 : Int32) then (if (¬ ((v1 * (16 : Int32)) + v4) < 0) ∧ (((v1 * (16 : Int32)) + v4) < (256 : Int32)) then (if ((A 0) ((v1 * (16 : Int32)) + v4)) = 0 then lp_nextTarget n 13 v1 (v4 + (1 : Int32)) F A else some (v4)) else none) else some ((-1 : Int32))) else some ((-1 : Int32))) else none
theorem lp_nextTarget_z (tag : Nat) (v1 : Int32) (v4 : Int32) (F : Nat → Int32) (A : Nat → Int32 → Int32) : lp_nextTarget 0 tag v1 v4 F A = none := Eq.trans rfl rfl
theorem lp_nextTarget_13 (n : Nat) (v1 : Int32) (v4 : Int32) (F : Nat → Int32) (A : Nat → Int32 → Int32) : lp_nextTarget (n + 1) 13 v1 v4 F A = (if v4 < (F 0) then (if v4 < (16 : Int32) then (if (¬ ((v1 * (16 : Int32)) + v4) < 0) ∧ (((v1 * (16 : Int32)) + v4) < (256 : Int32)) then (if ((A 0) ((v1 * (16 : Int32)) + v4)) = 0 then lp_nextTarget n 13 v1 (v4 + (1 : Int32)) F A else some (v4)) else none) else some ((-1 : Int32))) else some ((-1 : Int32))) := by
  rw [lp_nextTarget, if_pos rfl]
set_option maxRecDepth 65536 in
set_option maxHeartbeats 4000000 in
theorem lpw_nextTarget {l : Launch} {Z : State} {a0 : Array Value} (H : OK Z a0) (F : Nat → Int32) (G : Nat → Int64) (A : Nat → Int32 → Int32) (B : Nat → Int32 → Int64) : ∀ (n : Nat) (v1 : Int32) (v4 : Int32) (r : Int32), (lp_nextTarget n 13 v1 v4 F A = some r → Wk l Z (MoC Z cdC) md_nextTarget 13 [.val (.ref 0), .val (.int v1), .unset, .unset, .val (.int v4)] [] (10, F, G, A, B) 0 0 (fun v w' => v = some (.int r) ∧ w' = (10, F, G, A, B))) := by
  intro n
  induction n with
  | zero =>
    intro v1 v4  r
    exact (fun h => by rw [lp_nextTarget_z] at h; cases h)
  | succ n ih =>
    intro v1 v4  r
    refine fun h => ?_
    · rw [lp_nextTarget_13] at h
      exact wp_nextTarget_13 H F G A B v1 v4 (fun q1 => (rt_nextTarget _ _ _ _ _ r (Option.some.inj (ifn q1 h)))) (fun q1 q3 => (rt_nextTarget _ _ _ _ _ r (Option.some.inj (ifn q3 (ifp q1 h))))) (fun q1 q3 => (gd (ifp q3 (ifp q1 h))).1.1) (fun q1 q3 => (gd (ifp q3 (ifp q1 h))).1.2) (fun q1 q3 q7 => (ih _ _ _) (ifp q7 (gd (ifp q3 (ifp q1 h))).2)) (fun q1 q3 q7 => (rt_nextTarget _ _ _ _ _ r (Option.some.inj (ifn q7 (gd (ifp q3 (ifp q1 h))).2))))
def en_nextTarget (F : Nat → Int32) (A : Nat → Int32 → Int32) (p1 : Int32) (p2 : Int32) : Option (Int32) := lp_nextTarget 1000 13 p1 (if p2 < 0 then (0 : Int32) else p2) F A
theorem een_nextTarget (F : Nat → Int32) (A : Nat → Int32 → Int32) (p1 : Int32) (p2 : Int32) : en_nextTarget F A p1 p2 = lp_nextTarget 1000 13 p1 (if p2 < 0 then (0 : Int32) else p2) F A := Eq.trans rfl rfl
def R_nextTarget (F : Nat → Int32) (A : Nat → Int32 → Int32) (p1 : Int32) (p2 : Int32) : Int32 := (en_nextTarget F A p1 p2).getD (0)
theorem eR_nextTarget (F : Nat → Int32) (A : Nat → Int32 → Int32) (p1 : Int32) (p2 : Int32) : R_nextTarget F A p1 p2 = (en_nextTarget F A p1 p2).getD (0) := Eq.trans rfl rfl
set_option maxRecDepth 65536 in
set_option maxHeartbeats 4000000 in
theorem run_nextTarget {l : Launch} {Z : State} {a0 : Array Value} (H : OK Z a0) (F : Nat → Int32) (G : Nat → Int64) (A : Nat → Int32 → Int32) (B : Nat → Int32 → Int64) (p1 : Int32) (p2 : Int32) (e1 : (en_nextTarget F A p1 p2).isSome = true) :
    Wk l Z (MoC Z cdC) md_nextTarget 0 [.val (.ref 0), .val (.int p1), .val (.int p2), .unset, .unset] [] (10, F, G, A, B) 0 0 (fun v w' => v = some (.int (R_nextTarget F A p1 p2)) ∧ w' = (10, F, G, A, B)) := by
  obtain ⟨r, h⟩ := Option.isSome_iff_exists.mp e1
  have e : R_nextTarget F A p1 p2 = r := (eR_nextTarget F A p1 p2).trans (getD_some h)
  rw [e]
  rw [een_nextTarget] at h
  exact wp_nextTarget H F G A B p1 p2 ((lpw_nextTarget H F G A B _ _ _ _) h)
set_option maxRecDepth 65536 in
set_option maxHeartbeats 4000000 in
theorem wp_onStack {l : Launch} {Z : State} {a0 : Array Value} (H : OK Z a0) (F : Nat → Int32) (G : Nat → Int64) (A : Nat → Int32 → Int32) (B : Nat → Int32 → Int64) (p1 : Int32) (p2 : Int32) {Q : Option Value → WO → Prop} (h1 : Wk l Z (MoC Z cdC) md_onStack 2 [.val (.ref 0), .val (.int p1), .val (.int p2), .val (.int (0 : Int32))] [] (10, F, G, A, B) 0 0 Q) :
    Wk l Z (MoC Z cdC) md_onStack 0 [.val (.ref 0), .val (.int p1), .val (.int p2), .unset] [] (10, F, G, A, B) 0 0 Q := by
  refine Wk.iconst o_onStack_0 (z := (0 : Int32)) (by decide) ?_
  refine Wk.istoreN o_onStack_1 (Or.inl rfl) (L' := [.val (.ref 0), .val (.int p1), .val (.int p2), .val (.int (0 : Int32))]) rfl ?_
  exact h1

set_option maxRecDepth 65536 in
set_option maxHeartbeats 4000000 in
theorem wp_onStack_2 {l : Launch} {Z : State} {a0 : Array Value} (H : OK Z a0) (F : Nat → Int32) (G : Nat → Int64) (A : Nat → Int32 → Int32) (B : Nat → Int32 → Int64) (v1 : Int32) (v2 : Int32) (v3 : Int32) {Q : Option Value → WO → Prop} (h2 : v2 < v3 → Q (some (.int (0 : Int32))) (10, F, G, A, B)) (h4 : ¬ v2 < v3 → ¬ v3 < (16 : Int32) → Q (some (.int (0 : Int32))) (10, F, G, A, B)) (s5 : ¬ v2 < v3 → v3 < (16 : Int32) → ¬ v3 < 0) (h7 : ¬ v2 < v3 → v3 < (16 : Int32) → ¬ ((A 6) v3) = v1 → Wk l Z (MoC Z cdC) md_onStack 2 [.val (.ref 0), .val (.int v1), .val (.int v2), .val (.int (v3 + (1 : Int32)))] [] (10, F, G, A, B) 0 0 Q) (h8 : ¬ v2 < v3 → v3 < (16 : Int32) → ((A 6) v3) = v1 → Q (some (.int (1 : Int32))) (10, F, G, A, B)) :
    Wk l Z (MoC Z cdC) md_onStack 2 [.val (.ref 0), .val (.int v1), .val (.int v2), .val (.int v3)] [] (10, F, G, A, B) 0 0 Q := by
  refine Wk.iloadN o_onStack_2 rfl ?_
  refine Wk.iloadN o_onStack_3 rfl ?_
  refine Wk.icmp_gt o_onStack_4 (fun q1 => ?_) (fun q1 => ?_)
  · refine Wk.iconst o_onStack_31 (z := (0 : Int32)) (by decide) ?_
    exact Wk.zreturn mrC rfl o_onStack_32 rfl (by decide) (by decide) (y := (0 : Int32)) (by decide) (h2 q1)
  · refine Wk.iloadN o_onStack_7 rfl ?_
    refine Wk.bipush o_onStack_8 (z := (16 : Int32)) (by decide) ?_
    refine Wk.icmp_ge o_onStack_10 (fun q3 => ?_) (fun q3 => ?_)
    · refine Wk.iconst o_onStack_31 (z := (0 : Int32)) (by decide) ?_
      exact Wk.zreturn mrC rfl o_onStack_32 rfl (by decide) (by decide) (y := (0 : Int32)) (by decide) (h4 q1 q3)
    · refine Wk.aloadN o_onStack_13 rfl ?_
      refine Wk.getA (mA_stkNode) (by decide) (i' := 7) rfl (wf_stkNode H) o_onStack_14 ?_
      refine Wk.iloadN o_onStack_17 rfl ?_
      refine Wk.iaload (mA_stkNode) (by decide) (i' := 7) rfl (s5 q1 q3) q3 o_onStack_18 (y := ((A 6) v3)) rfl ?_
      refine Wk.iloadN o_onStack_19 rfl ?_
      refine Wk.icmp_ne o_onStack_20 (fun q6 => ?_) (fun q6 => ?_)
      · refine Wk.iinc o_onStack_25 rfl (z := (v3 + (1 : Int32))) rfl (L' := [.val (.ref 0), .val (.int v1), .val (.int v2), .val (.int (v3 + (1 : Int32)))]) rfl ?_
        refine Wk.goto o_onStack_28 ?_
        exact (h7 q1 q3 q6)
      · refine Wk.iconst o_onStack_23 (z := (1 : Int32)) (by decide) ?_
        exact Wk.zreturn mrC rfl o_onStack_24 rfl (by decide) (by decide) (y := (1 : Int32)) (by decide) (h8 q1 q3 q6)

theorem rt_onStack (F : Nat → Int32) (G : Nat → Int64) (A : Nat → Int32 → Int32) (B : Nat → Int32 → Int64) (v0 : Int32) (r : Int32) (e : v0 = r) : some (Value.int v0) = some (.int r) ∧ (10, F, G, A, B) = (10, F, G, A, B) := by subst e; exact ⟨rfl, rfl⟩
def lp_onStack : Nat → Nat → Int32 → Int32 → Int32 → (Nat → Int32 → Int32) → Option (Int32)
  | 0, _, _, _, _, _ => none
  | n + 1, tag, v1, v2, v3, A => if tag = 2 then (if v2 < v3 then some ((0 : Int32)) else (if v3 < (16 : Int32) then (if (¬ v3 < 0) then (if ((A 6) v3) = v1 then some ((1 : Int32)) else lp_onStack n 2 v1 v2 (v3 + (1 : Int32)) A) else none) else some ((0 : Int32)))) else none
theorem lp_onStack_z (tag : Nat) (v1 : Int32) (v2 : Int32) (v3 : Int32) (A : Nat → Int32 → Int32) : lp_onStack 0 tag v1 v2 v3 A = none := Eq.trans rfl rfl
theorem lp_onStack_2 (n : Nat) (v1 : Int32) (v2 : Int32) (v3 : Int32) (A : Nat → Int32 → Int32) : lp_onStack (n + 1) 2 v1 v2 v3 A = (if v2 < v3 then some ((0 : Int32)) else (if v3 < (16 : Int32) then (if (¬ v3 < 0) then (if ((A 6) v3) = v1 then some ((1 : Int32)) else lp_onStack n 2 v1 v2 (v3 + (1 : Int32)) A) else none) else some ((0 : Int32)))) := by
  rw [lp_onStack, if_pos rfl]
set_option maxRecDepth 65536 in
set_option maxHeartbeats 4000000 in
theorem lpw_onStack {l : Launch} {Z : State} {a0 : Array Value} (H : OK Z a0) (F : Nat → Int32) (G : Nat → Int64) (A : Nat → Int32 → Int32) (B : Nat → Int32 → Int64) : ∀ (n : Nat) (v1 : Int32) (v2 : Int32) (v3 : Int32) (r : Int32), (lp_onStack n 2 v1 v2 v3 A = some r → Wk l Z (MoC Z cdC) md_onStack 2 [.val (.ref 0), .val (.int v1), .val (.int v2), .val (.int v3)] [] (10, F, G, A, B) 0 0 (fun v w' => v = some (.int r) ∧ w' = (10, F, G, A, B))) := by
  intro n
  induction n with
  | zero =>
    intro v1 v2 v3  r
    exact (fun h => by rw [lp_onStack_z] at h; cases h)
  | succ n ih =>
    intro v1 v2 v3  r
    refine fun h => ?_
    · rw [lp_onStack_2] at h
      exact wp_onStack_2 H F G A B v1 v2 v3 (fun q1 => (rt_onStack _ _ _ _ _ r (Option.some.inj (ifp q1 h)))) (fun q1 q3 => (rt_onStack _ _ _ _ _ r (Option.some.inj (ifn q3 (ifn q1 h))))) (fun q1 q3 => (gd (ifp q3 (ifn q1 h))).1) (fun q1 q3 q6 => (ih _ _ _ _) (ifn q6 (gd (ifp q3 (ifn q1 h))).2)) (fun q1 q3 q6 => (rt_onStack _ _ _ _ _ r (Option.some.inj (ifp q6 (gd (ifp q3 (ifn q1 h))).2))))
def en_onStack (A : Nat → Int32 → Int32) (p1 : Int32) (p2 : Int32) : Option (Int32) := lp_onStack 1000 2 p1 p2 (0 : Int32) A
theorem een_onStack (A : Nat → Int32 → Int32) (p1 : Int32) (p2 : Int32) : en_onStack A p1 p2 = lp_onStack 1000 2 p1 p2 (0 : Int32) A := Eq.trans rfl rfl
def R_onStack (A : Nat → Int32 → Int32) (p1 : Int32) (p2 : Int32) : Int32 := (en_onStack A p1 p2).getD (0)
theorem eR_onStack (A : Nat → Int32 → Int32) (p1 : Int32) (p2 : Int32) : R_onStack A p1 p2 = (en_onStack A p1 p2).getD (0) := Eq.trans rfl rfl
set_option maxRecDepth 65536 in
set_option maxHeartbeats 4000000 in
theorem run_onStack {l : Launch} {Z : State} {a0 : Array Value} (H : OK Z a0) (F : Nat → Int32) (G : Nat → Int64) (A : Nat → Int32 → Int32) (B : Nat → Int32 → Int64) (p1 : Int32) (p2 : Int32) (e1 : (en_onStack A p1 p2).isSome = true) :
    Wk l Z (MoC Z cdC) md_onStack 0 [.val (.ref 0), .val (.int p1), .val (.int p2), .unset] [] (10, F, G, A, B) 0 0 (fun v w' => v = some (.int (R_onStack A p1 p2)) ∧ w' = (10, F, G, A, B)) := by
  obtain ⟨r, h⟩ := Option.isSome_iff_exists.mp e1
  have e : R_onStack A p1 p2 = r := (eR_onStack A p1 p2).trans (getD_some h)
  rw [e]
  rw [een_onStack] at h
  exact wp_onStack H F G A B p1 p2 ((lpw_onStack H F G A B _ _ _ _ _) h)
set_option maxRecDepth 65536 in
set_option maxHeartbeats 4000000 in
theorem wp_walkFrom {l : Launch} {Z : State} {a0 : Array Value} (H : OK Z a0) (F : Nat → Int32) (G : Nat → Int64) (A : Nat → Int32 → Int32) (B : Nat → Int32 → Int64) (p1 : Int32) {Q : Option Value → WO → Prop} (s1 : (en_emitStack (ups F 10 (0 : Int32)) (ups (ups (ups A 6 (ups (A 6) (0 : Int32) p1)) 7 (ups (A 7) (0 : Int32) (0 : Int32))) 8 (ups (A 8) (0 : Int32) (0 : Int32))) ).isSome = true) (h3 : ¬ (R_emitStack (ups F 10 (0 : Int32)) (ups (ups (ups A 6 (ups (A 6) (0 : Int32) p1)) 7 (ups (A 7) (0 : Int32) (0 : Int32))) 8 (ups (A 8) (0 : Int32) (0 : Int32))) ).1 = 0 → Wk l Z (MoC Z cdC) md_walkFrom 37 [.val (.ref 0), .unset, .val (.int (0 : Int32)), .unset, .unset, .unset] [] (10, (R_emitStack (ups F 10 (0 : Int32)) (ups (ups (ups A 6 (ups (A 6) (0 : Int32) p1)) 7 (ups (A 7) (0 : Int32) (0 : Int32))) 8 (ups (A 8) (0 : Int32) (0 : Int32))) ).2.1, G, (R_emitStack (ups F 10 (0 : Int32)) (ups (ups (ups A 6 (ups (A 6) (0 : Int32) p1)) 7 (ups (A 7) (0 : Int32) (0 : Int32))) 8 (ups (A 8) (0 : Int32) (0 : Int32))) ).2.2, B) 0 0 Q) (h4 : (R_emitStack (ups F 10 (0 : Int32)) (ups (ups (ups A 6 (ups (A 6) (0 : Int32) p1)) 7 (ups (A 7) (0 : Int32) (0 : Int32))) 8 (ups (A 8) (0 : Int32) (0 : Int32))) ).1 = 0 → Q (some (.int (0 : Int32))) (10, (R_emitStack (ups F 10 (0 : Int32)) (ups (ups (ups A 6 (ups (A 6) (0 : Int32) p1)) 7 (ups (A 7) (0 : Int32) (0 : Int32))) 8 (ups (A 8) (0 : Int32) (0 : Int32))) ).2.1, G, (R_emitStack (ups F 10 (0 : Int32)) (ups (ups (ups A 6 (ups (A 6) (0 : Int32) p1)) 7 (ups (A 7) (0 : Int32) (0 : Int32))) 8 (ups (A 8) (0 : Int32) (0 : Int32))) ).2.2, B)) :
    Wk l Z (MoC Z cdC) md_walkFrom 0 [.val (.ref 0), .val (.int p1), .unset, .unset, .unset, .unset] [] (10, F, G, A, B) 0 0 Q := by
  refine Wk.aloadN o_walkFrom_0 rfl ?_
  refine Wk.iconst o_walkFrom_1 (z := (0 : Int32)) (by decide) ?_
  refine Wk.putI (coC H) (mI_top) (wf_top H) (Or.inl (wy_top H)) o_walkFrom_2 ?_
  refine Wk.aloadN o_walkFrom_5 rfl ?_
  refine Wk.getA (mA_stkNode) (by decide) (i' := 7) rfl (wf_stkNode H) o_walkFrom_6 ?_
  refine Wk.iconst o_walkFrom_9 (z := (0 : Int32)) (by decide) ?_
  refine Wk.iloadN o_walkFrom_10 rfl ?_
  refine Wk.iastore (coC H) (f := (A 6)) (mA_stkNode) rfl (by decide) (i' := 7) rfl (by decide) (by decide) o_walkFrom_11 ?_
  refine Wk.aloadN o_walkFrom_12 rfl ?_
  refine Wk.getA (mA_stkNext) (by decide) (i' := 8) rfl (wf_stkNext H) o_walkFrom_13 ?_
  refine Wk.iconst o_walkFrom_16 (z := (0 : Int32)) (by decide) ?_
  refine Wk.iconst o_walkFrom_17 (z := (0 : Int32)) (by decide) ?_
  refine Wk.iastore (coC H) (f := (A 7)) (mA_stkNext) rfl (by decide) (i' := 8) rfl (by decide) (by decide) o_walkFrom_18 ?_
  refine Wk.aloadN o_walkFrom_19 rfl ?_
  refine Wk.getA (mA_stkCyc) (by decide) (i' := 9) rfl (wf_stkCyc H) o_walkFrom_20 ?_
  refine Wk.iconst o_walkFrom_23 (z := (0 : Int32)) (by decide) ?_
  refine Wk.iconst o_walkFrom_24 (z := (0 : Int32)) (by decide) ?_
  refine Wk.bastore (coC H) (f := (A 8)) (v' := (0 : Int32)) (by decide) (mA_stkCyc) rfl (by decide) (i' := 9) rfl (by decide) (by decide) o_walkFrom_25 ?_
  refine Wk.aloadN o_walkFrom_26 rfl ?_
  refine Wk.callF [] [] (H.w 176 rfl) (cv_emitStack H) o_walkFrom_27 (run_emitStack H (ups F 10 (0 : Int32)) G (ups (ups (ups A 6 (ups (A 6) (0 : Int32) p1)) 7 (ups (A 7) (0 : Int32) (0 : Int32))) 8 (ups (A 8) (0 : Int32) (0 : Int32))) B s1) (wt := 0) (cu' := 0) (su' := 0) (by decide) rfl rfl rfl rfl rfl rfl rfl ?_
  refine Wk.if_ne o_walkFrom_30 (fun q2 => ?_) (fun q2 => ?_)
  · refine Wk.iconst o_walkFrom_35 (z := (0 : Int32)) (by decide) ?_
    refine Wk.istoreN o_walkFrom_36 (Or.inl rfl) (L' := [.val (.ref 0), .val (.int p1), .val (.int (0 : Int32)), .unset, .unset, .unset]) rfl ?_
    refine Wk.forget [false, true, false, false, false, false] (L' := [.val (.ref 0), .unset, .val (.int (0 : Int32)), .unset, .unset, .unset]) rfl rfl ?_
    exact (h3 q2)
  · refine Wk.iconst o_walkFrom_33 (z := (0 : Int32)) (by decide) ?_
    exact Wk.zreturn mrC rfl o_walkFrom_34 rfl (by decide) (by decide) (y := (0 : Int32)) (by decide) (h4 q2)

set_option maxRecDepth 65536 in
set_option maxHeartbeats 4000000 in
theorem wp_walkFrom_37 {l : Launch} {Z : State} {a0 : Array Value} (H : OK Z a0) (F : Nat → Int32) (G : Nat → Int64) (A : Nat → Int32 → Int32) (B : Nat → Int32 → Int64) (v2 : Int32) {Q : Option Value → WO → Prop} (h2 : ¬ v2 < (400 : Int32) → Q (some (.int (1 : Int32))) (10, F, G, A, B)) (h4 : v2 < (400 : Int32) → (F 10) < 0 → Q (some (.int (1 : Int32))) (10, F, G, A, B)) (s7 : v2 < (400 : Int32) → ¬ (F 10) < 0 → (F 10) < (F 7) → (F 10) < (15 : Int32) → (F 10) < (16 : Int32)) (s9 : v2 < (400 : Int32) → ¬ (F 10) < 0 → (F 10) < (F 7) → (F 10) < (15 : Int32) → ((A 8) (F 10)) = 0 → (F 10) < (16 : Int32)) (s10 : v2 < (400 : Int32) → ¬ (F 10) < 0 → (F 10) < (F 7) → (F 10) < (15 : Int32) → ((A 8) (F 10)) = 0 → (en_nextTarget F A ((A 6) (F 10)) ((A 7) (F 10))).isSome = true) (s15 : v2 < (400 : Int32) → ¬ (F 10) < 0 → ¬ (if (F 10) < (F 7) then (if (F 10) < (15 : Int32) then (if ((A 8) (F 10)) = 0 then (R_nextTarget F A ((A 6) (F 10)) ((A 7) (F 10))) else (-1 : Int32)) else (-1 : Int32)) else (-1 : Int32)) < 0 → (F 10) < (16 : Int32)) (s17 : v2 < (400 : Int32) → ¬ (F 10) < 0 → ¬ (if (F 10) < (F 7) then (if (F 10) < (15 : Int32) then (if ((A 8) (F 10)) = 0 then (R_nextTarget F A ((A 6) (F 10)) ((A 7) (F 10))) else (-1 : Int32)) else (-1 : Int32)) else (-1 : Int32)) < 0 → ¬ (F 6) = 0 → (en_onStack (ups A 7 (ups (A 7) (F 10) ((if (F 10) < (F 7) then (if (F 10) < (15 : Int32) then (if ((A 8) (F 10)) = 0 then (R_nextTarget F A ((A 6) (F 10)) ((A 7) (F 10))) else (-1 : Int32)) else (-1 : Int32)) else (-1 : Int32)) + (1 : Int32)))) (if (F 10) < (F 7) then (if (F 10) < (15 : Int32) then (if ((A 8) (F 10)) = 0 then (R_nextTarget F A ((A 6) (F 10)) ((A 7) (F 10))) else (-1 : Int32)) else (-1 : Int32)) else (-1 : Int32)) (F 10)).isSome = true) (s21 : v2 < (400 : Int32) → ¬ (F 10) < 0 → ¬ (if (F 10) < (F 7) then (if (F 10) < (15 : Int32) then (if ((A 8) (F 10)) = 0 then (R_nextTarget F A ((A 6) (F 10)) ((A 7) (F 10))) else (-1 : Int32)) else (-1 : Int32)) else (-1 : Int32)) < 0 → ¬ ((F 10) + (1 : Int32)) < 0) (s22 : v2 < (400 : Int32) → ¬ (F 10) < 0 → ¬ (if (F 10) < (F 7) then (if (F 10) < (15 : Int32) then (if ((A 8) (F 10)) = 0 then (R_nextTarget F A ((A 6) (F 10)) ((A 7) (F 10))) else (-1 : Int32)) else (-1 : Int32)) else (-1 : Int32)) < 0 → ((F 10) + (1 : Int32)) < (16 : Int32)) (s23 : v2 < (400 : Int32) → ¬ (F 10) < 0 → ¬ (if (F 10) < (F 7) then (if (F 10) < (15 : Int32) then (if ((A 8) (F 10)) = 0 then (R_nextTarget F A ((A 6) (F 10)) ((A 7) (F 10))) else (-1 : Int32)) else (-1 : Int32)) else (-1 : Int32)) < 0 → (en_emitStack (ups F 10 ((F 10) + (1 : Int32))) (ups (ups (ups (ups A 7 (ups (A 7) (F 10) ((if (F 10) < (F 7) then (if (F 10) < (15 : Int32) then (if ((A 8) (F 10)) = 0 then (R_nextTarget F A ((A 6) (F 10)) ((A 7) (F 10))) else (-1 : Int32)) else (-1 : Int32)) else (-1 : Int32)) + (1 : Int32)))) 6 (ups (A 6) ((F 10) + (1 : Int32)) (if (F 10) < (F 7) then (if (F 10) < (15 : Int32) then (if ((A 8) (F 10)) = 0 then (R_nextTarget F A ((A 6) (F 10)) ((A 7) (F 10))) else (-1 : Int32)) else (-1 : Int32)) else (-1 : Int32)))) 7 (ups (ups (A 7) (F 10) ((if (F 10) < (F 7) then (if (F 10) < (15 : Int32) then (if ((A 8) (F 10)) = 0 then (R_nextTarget F A ((A 6) (F 10)) ((A 7) (F 10))) else (-1 : Int32)) else (-1 : Int32)) else (-1 : Int32)) + (1 : Int32))) ((F 10) + (1 : Int32)) (0 : Int32))) 8 (ups (A 8) ((F 10) + (1 : Int32)) (nar .boolean (if (F 6) = 0 then (0 : Int32) else (if (R_onStack (ups A 7 (ups (A 7) (F 10) ((if (F 10) < (F 7) then (if (F 10) < (15 : Int32) then (if ((A 8) (F 10)) = 0 then (R_nextTarget F A ((A 6) (F 10)) ((A 7) (F 10))) else (-1 : Int32)) else (-1 : Int32)) else (-1 : Int32)) + (1 : Int32)))) (if (F 10) < (F 7) then (if (F 10) < (15 : Int32) then (if ((A 8) (F 10)) = 0 then (R_nextTarget F A ((A 6) (F 10)) ((A 7) (F 10))) else (-1 : Int32)) else (-1 : Int32)) else (-1 : Int32)) (F 10)) = 0 then (0 : Int32) else (1 : Int32)))))) ).isSome = true) (h25 : v2 < (400 : Int32) → ¬ (F 10) < 0 → ¬ (if (F 10) < (F 7) then (if (F 10) < (15 : Int32) then (if ((A 8) (F 10)) = 0 then (R_nextTarget F A ((A 6) (F 10)) ((A 7) (F 10))) else (-1 : Int32)) else (-1 : Int32)) else (-1 : Int32)) < 0 → ¬ (R_emitStack (ups F 10 ((F 10) + (1 : Int32))) (ups (ups (ups (ups A 7 (ups (A 7) (F 10) ((if (F 10) < (F 7) then (if (F 10) < (15 : Int32) then (if ((A 8) (F 10)) = 0 then (R_nextTarget F A ((A 6) (F 10)) ((A 7) (F 10))) else (-1 : Int32)) else (-1 : Int32)) else (-1 : Int32)) + (1 : Int32)))) 6 (ups (A 6) ((F 10) + (1 : Int32)) (if (F 10) < (F 7) then (if (F 10) < (15 : Int32) then (if ((A 8) (F 10)) = 0 then (R_nextTarget F A ((A 6) (F 10)) ((A 7) (F 10))) else (-1 : Int32)) else (-1 : Int32)) else (-1 : Int32)))) 7 (ups (ups (A 7) (F 10) ((if (F 10) < (F 7) then (if (F 10) < (15 : Int32) then (if ((A 8) (F 10)) = 0 then (R_nextTarget F A ((A 6) (F 10)) ((A 7) (F 10))) else (-1 : Int32)) else (-1 : Int32)) else (-1 : Int32)) + (1 : Int32))) ((F 10) + (1 : Int32)) (0 : Int32))) 8 (ups (A 8) ((F 10) + (1 : Int32)) (nar .boolean (if (F 6) = 0 then (0 : Int32) else (if (R_onStack (ups A 7 (ups (A 7) (F 10) ((if (F 10) < (F 7) then (if (F 10) < (15 : Int32) then (if ((A 8) (F 10)) = 0 then (R_nextTarget F A ((A 6) (F 10)) ((A 7) (F 10))) else (-1 : Int32)) else (-1 : Int32)) else (-1 : Int32)) + (1 : Int32)))) (if (F 10) < (F 7) then (if (F 10) < (15 : Int32) then (if ((A 8) (F 10)) = 0 then (R_nextTarget F A ((A 6) (F 10)) ((A 7) (F 10))) else (-1 : Int32)) else (-1 : Int32)) else (-1 : Int32)) (F 10)) = 0 then (0 : Int32) else (1 : Int32)))))) ).1 = 0 → Wk l Z (MoC Z cdC) md_walkFrom 37 [.val (.ref 0), .unset, .val (.int (v2 + (1 : Int32))), .unset, .unset, .unset] [] (10, (R_emitStack (ups F 10 ((F 10) + (1 : Int32))) (ups (ups (ups (ups A 7 (ups (A 7) (F 10) ((if (F 10) < (F 7) then (if (F 10) < (15 : Int32) then (if ((A 8) (F 10)) = 0 then (R_nextTarget F A ((A 6) (F 10)) ((A 7) (F 10))) else (-1 : Int32)) else (-1 : Int32)) else (-1 : Int32)) + (1 : Int32)))) 6 (ups (A 6) ((F 10) + (1 : Int32)) (if (F 10) < (F 7) then (if (F 10) < (15 : Int32) then (if ((A 8) (F 10)) = 0 then (R_nextTarget F A ((A 6) (F 10)) ((A 7) (F 10))) else (-1 : Int32)) else (-1 : Int32)) else (-1 : Int32)))) 7 (ups (ups (A 7) (F 10) ((if (F 10) < (F 7) then (if (F 10) < (15 : Int32) then (if ((A 8) (F 10)) = 0 then (R_nextTarget F A ((A 6) (F 10)) ((A 7) (F 10))) else (-1 : Int32)) else (-1 : Int32)) else (-1 : Int32)) + (1 : Int32))) ((F 10) + (1 : Int32)) (0 : Int32))) 8 (ups (A 8) ((F 10) + (1 : Int32)) (nar .boolean (if (F 6) = 0 then (0 : Int32) else (if (R_onStack (ups A 7 (ups (A 7) (F 10) ((if (F 10) < (F 7) then (if (F 10) < (15 : Int32) then (if ((A 8) (F 10)) = 0 then (R_nextTarget F A ((A 6) (F 10)) ((A 7) (F 10))) else (-1 : Int32)) else (-1 : Int32)) else (-1 : Int32)) + (1 : Int32)))) (if (F 10) < (F 7) then (if (F 10) < (15 : Int32) then (if ((A 8) (F 10)) = 0 then (R_nextTarget F A ((A 6) (F 10)) ((A 7) (F 10))) else (-1 : Int32)) else (-1 : Int32)) else (-1 : Int32)) (F 10)) = 0 then (0 : Int32) else (1 : Int32)))))) ).2.1, G, (R_emitStack (ups F 10 ((F 10) + (1 : Int32))) (ups (ups (ups (ups A 7 (ups (A 7) (F 10) ((if (F 10) < (F 7) then (if (F 10) < (15 : Int32) then (if ((A 8) (F 10)) = 0 then (R_nextTarget F A ((A 6) (F 10)) ((A 7) (F 10))) else (-1 : Int32)) else (-1 : Int32)) else (-1 : Int32)) + (1 : Int32)))) 6 (ups (A 6) ((F 10) + (1 : Int32)) (if (F 10) < (F 7) then (if (F 10) < (15 : Int32) then (if ((A 8) (F 10)) = 0 then (R_nextTarget F A ((A 6) (F 10)) ((A 7) (F 10))) else (-1 : Int32)) else (-1 : Int32)) else (-1 : Int32)))) 7 (ups (ups (A 7) (F 10) ((if (F 10) < (F 7) then (if (F 10) < (15 : Int32) then (if ((A 8) (F 10)) = 0 then (R_nextTarget F A ((A 6) (F 10)) ((A 7) (F 10))) else (-1 : Int32)) else (-1 : Int32)) else (-1 : Int32)) + (1 : Int32))) ((F 10) + (1 : Int32)) (0 : Int32))) 8 (ups (A 8) ((F 10) + (1 : Int32)) (nar .boolean (if (F 6) = 0 then (0 : Int32) else (if (R_onStack (ups A 7 (ups (A 7) (F 10) ((if (F 10) < (F 7) then (if (F 10) < (15 : Int32) then (if ((A 8) (F 10)) = 0 then (R_nextTarget F A ((A 6) (F 10)) ((A 7) (F 10))) else (-1 : Int32)) else (-1 : Int32)) else (-1 : Int32)) + (1 : Int32)))) (if (F 10) < (F 7) then (if (F 10) < (15 : Int32) then (if ((A 8) (F 10)) = 0 then (R_nextTarget F A ((A 6) (F 10)) ((A 7) (F 10))) else (-1 : Int32)) else (-1 : Int32)) else (-1 : Int32)) (F 10)) = 0 then (0 : Int32) else (1 : Int32)))))) ).2.2, B) 0 0 Q) (h26 : v2 < (400 : Int32) → ¬ (F 10) < 0 → ¬ (if (F 10) < (F 7) then (if (F 10) < (15 : Int32) then (if ((A 8) (F 10)) = 0 then (R_nextTarget F A ((A 6) (F 10)) ((A 7) (F 10))) else (-1 : Int32)) else (-1 : Int32)) else (-1 : Int32)) < 0 → (R_emitStack (ups F 10 ((F 10) + (1 : Int32))) (ups (ups (ups (ups A 7 (ups (A 7) (F 10) ((if (F 10) < (F 7) then (if (F 10) < (15 : Int32) then (if ((A 8) (F 10)) = 0 then (R_nextTarget F A ((A 6) (F 10)) ((A 7) (F 10))) else (-1 : Int32)) else (-1 : Int32)) else (-1 : Int32)) + (1 : Int32)))) 6 (ups (A 6) ((F 10) + (1 : Int32)) (if (F 10) < (F 7) then (if (F 10) < (15 : Int32) then (if ((A 8) (F 10)) = 0 then (R_nextTarget F A ((A 6) (F 10)) ((A 7) (F 10))) else (-1 : Int32)) else (-1 : Int32)) else (-1 : Int32)))) 7 (ups (ups (A 7) (F 10) ((if (F 10) < (F 7) then (if (F 10) < (15 : Int32) then (if ((A 8) (F 10)) = 0 then (R_nextTarget F A ((A 6) (F 10)) ((A 7) (F 10))) else (-1 : Int32)) else (-1 : Int32)) else (-1 : Int32)) + (1 : Int32))) ((F 10) + (1 : Int32)) (0 : Int32))) 8 (ups (A 8) ((F 10) + (1 : Int32)) (nar .boolean (if (F 6) = 0 then (0 : Int32) else (if (R_onStack (ups A 7 (ups (A 7) (F 10) ((if (F 10) < (F 7) then (if (F 10) < (15 : Int32) then (if ((A 8) (F 10)) = 0 then (R_nextTarget F A ((A 6) (F 10)) ((A 7) (F 10))) else (-1 : Int32)) else (-1 : Int32)) else (-1 : Int32)) + (1 : Int32)))) (if (F 10) < (F 7) then (if (F 10) < (15 : Int32) then (if ((A 8) (F 10)) = 0 then (R_nextTarget F A ((A 6) (F 10)) ((A 7) (F 10))) else (-1 : Int32)) else (-1 : Int32)) else (-1 : Int32)) (F 10)) = 0 then (0 : Int32) else (1 : Int32)))))) ).1 = 0 → Q (some (.int (0 : Int32))) (10, (R_emitStack (ups F 10 ((F 10) + (1 : Int32))) (ups (ups (ups (ups A 7 (ups (A 7) (F 10) ((if (F 10) < (F 7) then (if (F 10) < (15 : Int32) then (if ((A 8) (F 10)) = 0 then (R_nextTarget F A ((A 6) (F 10)) ((A 7) (F 10))) else (-1 : Int32)) else (-1 : Int32)) else (-1 : Int32)) + (1 : Int32)))) 6 (ups (A 6) ((F 10) + (1 : Int32)) (if (F 10) < (F 7) then (if (F 10) < (15 : Int32) then (if ((A 8) (F 10)) = 0 then (R_nextTarget F A ((A 6) (F 10)) ((A 7) (F 10))) else (-1 : Int32)) else (-1 : Int32)) else (-1 : Int32)))) 7 (ups (ups (A 7) (F 10) ((if (F 10) < (F 7) then (if (F 10) < (15 : Int32) then (if ((A 8) (F 10)) = 0 then (R_nextTarget F A ((A 6) (F 10)) ((A 7) (F 10))) else (-1 : Int32)) else (-1 : Int32)) else (-1 : Int32)) + (1 : Int32))) ((F 10) + (1 : Int32)) (0 : Int32))) 8 (ups (A 8) ((F 10) + (1 : Int32)) (nar .boolean (if (F 6) = 0 then (0 : Int32) else (if (R_onStack (ups A 7 (ups (A 7) (F 10) ((if (F 10) < (F 7) then (if (F 10) < (15 : Int32) then (if ((A 8) (F 10)) = 0 then (R_nextTarget F A ((A 6) (F 10)) ((A 7) (F 10))) else (-1 : Int32)) else (-1 : Int32)) else (-1 : Int32)) + (1 : Int32)))) (if (F 10) < (F 7) then (if (F 10) < (15 : Int32) then (if ((A 8) (F 10)) = 0 then (R_nextTarget F A ((A 6) (F 10)) ((A 7) (F 10))) else (-1 : Int32)) else (-1 : Int32)) else (-1 : Int32)) (F 10)) = 0 then (0 : Int32) else (1 : Int32)))))) ).2.1, G, (R_emitStack (ups F 10 ((F 10) + (1 : Int32))) (ups (ups (ups (ups A 7 (ups (A 7) (F 10) ((if (F 10) < (F 7) then (if (F 10) < (15 : Int32) then (if ((A 8) (F 10)) = 0 then (R_nextTarget F A ((A 6) (F 10)) ((A 7) (F 10))) else (-1 : Int32)) else (-1 : Int32)) else (-1 : Int32)) + (1 : Int32)))) 6 (ups (A 6) ((F 10) + (1 : Int32)) (if (F 10) < (F 7) then (if (F 10) < (15 : Int32) then (if ((A 8) (F 10)) = 0 then (R_nextTarget F A ((A 6) (F 10)) ((A 7) (F 10))) else (-1 : Int32)) else (-1 : Int32)) else (-1 : Int32)))) 7 (ups (ups (A 7) (F 10) ((if (F 10) < (F 7) then (if (F 10) < (15 : Int32) then (if ((A 8) (F 10)) = 0 then (R_nextTarget F A ((A 6) (F 10)) ((A 7) (F 10))) else (-1 : Int32)) else (-1 : Int32)) else (-1 : Int32)) + (1 : Int32))) ((F 10) + (1 : Int32)) (0 : Int32))) 8 (ups (A 8) ((F 10) + (1 : Int32)) (nar .boolean (if (F 6) = 0 then (0 : Int32) else (if (R_onStack (ups A 7 (ups (A 7) (F 10) ((if (F 10) < (F 7) then (if (F 10) < (15 : Int32) then (if ((A 8) (F 10)) = 0 then (R_nextTarget F A ((A 6) (F 10)) ((A 7) (F 10))) else (-1 : Int32)) else (-1 : Int32)) else (-1 : Int32)) + (1 : Int32)))) (if (F 10) < (F 7) then (if (F 10) < (15 : Int32) then (if ((A 8) (F 10)) = 0 then (R_nextTarget F A ((A 6) (F 10)) ((A 7) (F 10))) else (-1 : Int32)) else (-1 : Int32)) else (-1 : Int32)) (F 10)) = 0 then (0 : Int32) else (1 : Int32)))))) ).2.2, B)) (h27 : v2 < (400 : Int32) → ¬ (F 10) < 0 → (if (F 10) < (F 7) then (if (F 10) < (15 : Int32) then (if ((A 8) (F 10)) = 0 then (R_nextTarget F A ((A 6) (F 10)) ((A 7) (F 10))) else (-1 : Int32)) else (-1 : Int32)) else (-1 : Int32)) < 0 → Wk l Z (MoC Z cdC) md_walkFrom 37 [.val (.ref 0), .unset, .val (.int (v2 + (1 : Int32))), .unset, .unset, .unset] [] (10, (ups F 10 ((F 10) - (1 : Int32))), G, A, B) 0 0 Q) :
    Wk l Z (MoC Z cdC) md_walkFrom 37 [.val (.ref 0), .unset, .val (.int v2), .unset, .unset, .unset] [] (10, F, G, A, B) 0 0 Q := by
  refine Wk.iloadN o_walkFrom_37 rfl ?_
  refine Wk.sipush o_walkFrom_38 (z := (400 : Int32)) (by decide) ?_
  refine Wk.icmp_ge o_walkFrom_41 (fun q1 => ?_) (fun q1 => ?_)
  · refine Wk.iconst o_walkFrom_203 (z := (1 : Int32)) (by decide) ?_
    exact Wk.zreturn mrC rfl o_walkFrom_204 rfl (by decide) (by decide) (y := (1 : Int32)) (by decide) (h2 q1)
  · refine Wk.aloadN o_walkFrom_44 rfl ?_
    refine Wk.getI (mI_top) (wf_top H) o_walkFrom_45 (x := (F 10)) rfl ?_
    refine Wk.if_lt o_walkFrom_48 (fun q3 => ?_) (fun q3 => ?_)
    · refine Wk.iconst o_walkFrom_203 (z := (1 : Int32)) (by decide) ?_
      exact Wk.zreturn mrC rfl o_walkFrom_204 rfl (by decide) (by decide) (y := (1 : Int32)) (by decide) (h4 q1 q3)
    · refine Wk.aloadN o_walkFrom_51 rfl ?_
      refine Wk.getI (mI_top) (wf_top H) o_walkFrom_52 (x := (F 10)) rfl ?_
      refine Wk.istoreN o_walkFrom_55 (Or.inl rfl) (L' := [.val (.ref 0), .unset, .val (.int v2), .val (.int (F 10)), .unset, .unset]) rfl ?_
      refine Wk.iconst o_walkFrom_56 (z := (-1 : Int32)) (by decide) ?_
      refine Wk.istore o_walkFrom_57 (Or.inl rfl) (L' := [.val (.ref 0), .unset, .val (.int v2), .val (.int (F 10)), .val (.int (-1 : Int32)), .unset]) rfl ?_
      refine Wk.iloadN o_walkFrom_59 rfl ?_
      refine Wk.aloadN o_walkFrom_60 rfl ?_
      refine Wk.getI (mI_maxDepth) (wf_maxDepth H) o_walkFrom_61 (x := (F 7)) rfl ?_
      have J13 : Wk l Z (MoC Z cdC) md_walkFrom 100 [.val (.ref 0), .unset, .val (.int v2), .val (.int (F 10)), .val (.int (if (F 10) < (F 7) then (if (F 10) < (15 : Int32) then (if ((A 8) (F 10)) = 0 then (R_nextTarget F A ((A 6) (F 10)) ((A 7) (F 10))) else (-1 : Int32)) else (-1 : Int32)) else (-1 : Int32))), .unset] [] (10, F, G, A, B) 0 0 Q := by
        refine Wk.iload o_walkFrom_100 rfl ?_
        refine Wk.if_ge o_walkFrom_102 (fun q14 => ?_) (fun q14 => ?_)
        · refine Wk.aloadN o_walkFrom_118 rfl ?_
          refine Wk.getA (mA_stkNext) (by decide) (i' := 8) rfl (wf_stkNext H) o_walkFrom_119 ?_
          refine Wk.iloadN o_walkFrom_122 rfl ?_
          refine Wk.iload o_walkFrom_123 rfl ?_
          refine Wk.iconst o_walkFrom_125 (z := (1 : Int32)) (by decide) ?_
          refine Wk.iadd o_walkFrom_126 ?_
          refine Wk.iastore (coC H) (f := (A 7)) (mA_stkNext) rfl (by decide) (i' := 8) rfl q3 (s15 q1 q3 q14) o_walkFrom_127 ?_
          refine Wk.aloadN o_walkFrom_128 rfl ?_
          refine Wk.getI (mI_cycle) (wf_cycle H) o_walkFrom_129 (x := (F 6)) rfl ?_
          have J20 : Wk l Z (MoC Z cdC) md_walkFrom 150 [.val (.ref 0), .unset, .val (.int v2), .val (.int (F 10)), .val (.int (if (F 10) < (F 7) then (if (F 10) < (15 : Int32) then (if ((A 8) (F 10)) = 0 then (R_nextTarget F A ((A 6) (F 10)) ((A 7) (F 10))) else (-1 : Int32)) else (-1 : Int32)) else (-1 : Int32))), .unset] [.int (if (F 6) = 0 then (0 : Int32) else (if (R_onStack (ups A 7 (ups (A 7) (F 10) ((if (F 10) < (F 7) then (if (F 10) < (15 : Int32) then (if ((A 8) (F 10)) = 0 then (R_nextTarget F A ((A 6) (F 10)) ((A 7) (F 10))) else (-1 : Int32)) else (-1 : Int32)) else (-1 : Int32)) + (1 : Int32)))) (if (F 10) < (F 7) then (if (F 10) < (15 : Int32) then (if ((A 8) (F 10)) = 0 then (R_nextTarget F A ((A 6) (F 10)) ((A 7) (F 10))) else (-1 : Int32)) else (-1 : Int32)) else (-1 : Int32)) (F 10)) = 0 then (0 : Int32) else (1 : Int32)))] (10, F, G, (ups A 7 (ups (A 7) (F 10) ((if (F 10) < (F 7) then (if (F 10) < (15 : Int32) then (if ((A 8) (F 10)) = 0 then (R_nextTarget F A ((A 6) (F 10)) ((A 7) (F 10))) else (-1 : Int32)) else (-1 : Int32)) else (-1 : Int32)) + (1 : Int32)))), B) 0 0 Q := by
            refine Wk.istore o_walkFrom_150 (Or.inl rfl) (L' := [.val (.ref 0), .unset, .val (.int v2), .val (.int (F 10)), .val (.int (if (F 10) < (F 7) then (if (F 10) < (15 : Int32) then (if ((A 8) (F 10)) = 0 then (R_nextTarget F A ((A 6) (F 10)) ((A 7) (F 10))) else (-1 : Int32)) else (-1 : Int32)) else (-1 : Int32))), .val (.int (if (F 6) = 0 then (0 : Int32) else (if (R_onStack (ups A 7 (ups (A 7) (F 10) ((if (F 10) < (F 7) then (if (F 10) < (15 : Int32) then (if ((A 8) (F 10)) = 0 then (R_nextTarget F A ((A 6) (F 10)) ((A 7) (F 10))) else (-1 : Int32)) else (-1 : Int32)) else (-1 : Int32)) + (1 : Int32)))) (if (F 10) < (F 7) then (if (F 10) < (15 : Int32) then (if ((A 8) (F 10)) = 0 then (R_nextTarget F A ((A 6) (F 10)) ((A 7) (F 10))) else (-1 : Int32)) else (-1 : Int32)) else (-1 : Int32)) (F 10)) = 0 then (0 : Int32) else (1 : Int32))))]) rfl ?_
            refine Wk.aloadN o_walkFrom_152 rfl ?_
            refine Wk.getA (mA_stkNode) (by decide) (i' := 7) rfl (wf_stkNode H) o_walkFrom_153 ?_
            refine Wk.iloadN o_walkFrom_156 rfl ?_
            refine Wk.iconst o_walkFrom_157 (z := (1 : Int32)) (by decide) ?_
            refine Wk.iadd o_walkFrom_158 ?_
            refine Wk.iload o_walkFrom_159 rfl ?_
            refine Wk.iastore (coC H) (f := (A 6)) (mA_stkNode) rfl (by decide) (i' := 7) rfl (s21 q1 q3 q14) (s22 q1 q3 q14) o_walkFrom_161 ?_
            refine Wk.aloadN o_walkFrom_162 rfl ?_
            refine Wk.getA (mA_stkNext) (by decide) (i' := 8) rfl (wf_stkNext H) o_walkFrom_163 ?_
            refine Wk.iloadN o_walkFrom_166 rfl ?_
            refine Wk.iconst o_walkFrom_167 (z := (1 : Int32)) (by decide) ?_
            refine Wk.iadd o_walkFrom_168 ?_
            refine Wk.iconst o_walkFrom_169 (z := (0 : Int32)) (by decide) ?_
            refine Wk.iastore (coC H) (f := (ups (A 7) (F 10) ((if (F 10) < (F 7) then (if (F 10) < (15 : Int32) then (if ((A 8) (F 10)) = 0 then (R_nextTarget F A ((A 6) (F 10)) ((A 7) (F 10))) else (-1 : Int32)) else (-1 : Int32)) else (-1 : Int32)) + (1 : Int32)))) (mA_stkNext) rfl (by decide) (i' := 8) rfl (s21 q1 q3 q14) (s22 q1 q3 q14) o_walkFrom_170 ?_
            refine Wk.aloadN o_walkFrom_171 rfl ?_
            refine Wk.getA (mA_stkCyc) (by decide) (i' := 9) rfl (wf_stkCyc H) o_walkFrom_172 ?_
            refine Wk.iloadN o_walkFrom_175 rfl ?_
            refine Wk.iconst o_walkFrom_176 (z := (1 : Int32)) (by decide) ?_
            refine Wk.iadd o_walkFrom_177 ?_
            refine Wk.iload o_walkFrom_178 rfl ?_
            refine Wk.bastore (coC H) (f := (A 8)) (v' := (nar .boolean (if (F 6) = 0 then (0 : Int32) else (if (R_onStack (ups A 7 (ups (A 7) (F 10) ((if (F 10) < (F 7) then (if (F 10) < (15 : Int32) then (if ((A 8) (F 10)) = 0 then (R_nextTarget F A ((A 6) (F 10)) ((A 7) (F 10))) else (-1 : Int32)) else (-1 : Int32)) else (-1 : Int32)) + (1 : Int32)))) (if (F 10) < (F 7) then (if (F 10) < (15 : Int32) then (if ((A 8) (F 10)) = 0 then (R_nextTarget F A ((A 6) (F 10)) ((A 7) (F 10))) else (-1 : Int32)) else (-1 : Int32)) else (-1 : Int32)) (F 10)) = 0 then (0 : Int32) else (1 : Int32))))) rfl (mA_stkCyc) rfl (by decide) (i' := 9) rfl (s21 q1 q3 q14) (s22 q1 q3 q14) o_walkFrom_180 ?_
            refine Wk.aloadN o_walkFrom_181 rfl ?_
            refine Wk.iloadN o_walkFrom_182 rfl ?_
            refine Wk.iconst o_walkFrom_183 (z := (1 : Int32)) (by decide) ?_
            refine Wk.iadd o_walkFrom_184 ?_
            refine Wk.putI (coC H) (mI_top) (wf_top H) (Or.inl (wy_top H)) o_walkFrom_185 ?_
            refine Wk.aloadN o_walkFrom_188 rfl ?_
            refine Wk.callF [] [] (H.w 176 rfl) (cv_emitStack H) o_walkFrom_189 (run_emitStack H (ups F 10 ((F 10) + (1 : Int32))) G (ups (ups (ups (ups A 7 (ups (A 7) (F 10) ((if (F 10) < (F 7) then (if (F 10) < (15 : Int32) then (if ((A 8) (F 10)) = 0 then (R_nextTarget F A ((A 6) (F 10)) ((A 7) (F 10))) else (-1 : Int32)) else (-1 : Int32)) else (-1 : Int32)) + (1 : Int32)))) 6 (ups (A 6) ((F 10) + (1 : Int32)) (if (F 10) < (F 7) then (if (F 10) < (15 : Int32) then (if ((A 8) (F 10)) = 0 then (R_nextTarget F A ((A 6) (F 10)) ((A 7) (F 10))) else (-1 : Int32)) else (-1 : Int32)) else (-1 : Int32)))) 7 (ups (ups (A 7) (F 10) ((if (F 10) < (F 7) then (if (F 10) < (15 : Int32) then (if ((A 8) (F 10)) = 0 then (R_nextTarget F A ((A 6) (F 10)) ((A 7) (F 10))) else (-1 : Int32)) else (-1 : Int32)) else (-1 : Int32)) + (1 : Int32))) ((F 10) + (1 : Int32)) (0 : Int32))) 8 (ups (A 8) ((F 10) + (1 : Int32)) (nar .boolean (if (F 6) = 0 then (0 : Int32) else (if (R_onStack (ups A 7 (ups (A 7) (F 10) ((if (F 10) < (F 7) then (if (F 10) < (15 : Int32) then (if ((A 8) (F 10)) = 0 then (R_nextTarget F A ((A 6) (F 10)) ((A 7) (F 10))) else (-1 : Int32)) else (-1 : Int32)) else (-1 : Int32)) + (1 : Int32)))) (if (F 10) < (F 7) then (if (F 10) < (15 : Int32) then (if ((A 8) (F 10)) = 0 then (R_nextTarget F A ((A 6) (F 10)) ((A 7) (F 10))) else (-1 : Int32)) else (-1 : Int32)) else (-1 : Int32)) (F 10)) = 0 then (0 : Int32) else (1 : Int32)))))) B (s23 q1 q3 q14)) (wt := 0) (cu' := 0) (su' := 0) (by decide) rfl rfl rfl rfl rfl rfl rfl ?_
            refine Wk.if_ne o_walkFrom_192 (fun q24 => ?_) (fun q24 => ?_)
            · refine Wk.iinc o_walkFrom_197 rfl (z := (v2 + (1 : Int32))) rfl (L' := [.val (.ref 0), .unset, .val (.int (v2 + (1 : Int32))), .val (.int (F 10)), .val (.int (if (F 10) < (F 7) then (if (F 10) < (15 : Int32) then (if ((A 8) (F 10)) = 0 then (R_nextTarget F A ((A 6) (F 10)) ((A 7) (F 10))) else (-1 : Int32)) else (-1 : Int32)) else (-1 : Int32))), .val (.int (if (F 6) = 0 then (0 : Int32) else (if (R_onStack (ups A 7 (ups (A 7) (F 10) ((if (F 10) < (F 7) then (if (F 10) < (15 : Int32) then (if ((A 8) (F 10)) = 0 then (R_nextTarget F A ((A 6) (F 10)) ((A 7) (F 10))) else (-1 : Int32)) else (-1 : Int32)) else (-1 : Int32)) + (1 : Int32)))) (if (F 10) < (F 7) then (if (F 10) < (15 : Int32) then (if ((A 8) (F 10)) = 0 then (R_nextTarget F A ((A 6) (F 10)) ((A 7) (F 10))) else (-1 : Int32)) else (-1 : Int32)) else (-1 : Int32)) (F 10)) = 0 then (0 : Int32) else (1 : Int32))))]) rfl ?_
              refine Wk.goto o_walkFrom_200 ?_
              refine Wk.forget [false, false, false, true, true, true] (L' := [.val (.ref 0), .unset, .val (.int (v2 + (1 : Int32))), .unset, .unset, .unset]) rfl rfl ?_
              exact (h25 q1 q3 q14 q24)
            · refine Wk.iconst o_walkFrom_195 (z := (0 : Int32)) (by decide) ?_
              exact Wk.zreturn mrC rfl o_walkFrom_196 rfl (by decide) (by decide) (y := (0 : Int32)) (by decide) (h26 q1 q3 q14 q24)
          refine Wk.if_eq o_walkFrom_132 (fun q16 => ?_) (fun q16 => ?_)
          · refine Wk.iconst o_walkFrom_149 (z := (0 : Int32)) (by decide) ?_
            first | (rw [show ((if (F 6) = 0 then (0 : Int32) else (if (R_onStack (ups A 7 (ups (A 7) (F 10) ((if (F 10) < (F 7) then (if (F 10) < (15 : Int32) then (if ((A 8) (F 10)) = 0 then (R_nextTarget F A ((A 6) (F 10)) ((A 7) (F 10))) else (-1 : Int32)) else (-1 : Int32)) else (-1 : Int32)) + (1 : Int32)))) (if (F 10) < (F 7) then (if (F 10) < (15 : Int32) then (if ((A 8) (F 10)) = 0 then (R_nextTarget F A ((A 6) (F 10)) ((A 7) (F 10))) else (-1 : Int32)) else (-1 : Int32)) else (-1 : Int32)) (F 10)) = 0 then (0 : Int32) else (1 : Int32))) : Int32) = (0 : Int32) from if_pos q16] at J20; exact J20) | exact J20 | (simp only [if_pos q16] at J20 ⊢; exact J20)
          · refine Wk.aloadN o_walkFrom_135 rfl ?_
            refine Wk.iload o_walkFrom_136 rfl ?_
            refine Wk.iloadN o_walkFrom_138 rfl ?_
            refine Wk.callF [.int (if (F 10) < (F 7) then (if (F 10) < (15 : Int32) then (if ((A 8) (F 10)) = 0 then (R_nextTarget F A ((A 6) (F 10)) ((A 7) (F 10))) else (-1 : Int32)) else (-1 : Int32)) else (-1 : Int32)), .int (F 10)] [] (H.w 200 rfl) (cv_onStack H) o_walkFrom_139 (run_onStack H F G (ups A 7 (ups (A 7) (F 10) ((if (F 10) < (F 7) then (if (F 10) < (15 : Int32) then (if ((A 8) (F 10)) = 0 then (R_nextTarget F A ((A 6) (F 10)) ((A 7) (F 10))) else (-1 : Int32)) else (-1 : Int32)) else (-1 : Int32)) + (1 : Int32)))) B (if (F 10) < (F 7) then (if (F 10) < (15 : Int32) then (if ((A 8) (F 10)) = 0 then (R_nextTarget F A ((A 6) (F 10)) ((A 7) (F 10))) else (-1 : Int32)) else (-1 : Int32)) else (-1 : Int32)) (F 10) (s17 q1 q3 q14 q16)) (wt := 0) (cu' := 0) (su' := 0) (by decide) rfl rfl rfl rfl rfl rfl rfl ?_
            refine Wk.if_eq o_walkFrom_142 (fun q18 => ?_) (fun q18 => ?_)
            · refine Wk.iconst o_walkFrom_149 (z := (0 : Int32)) (by decide) ?_
              first | (rw [show ((if (F 6) = 0 then (0 : Int32) else (if (R_onStack (ups A 7 (ups (A 7) (F 10) ((if (F 10) < (F 7) then (if (F 10) < (15 : Int32) then (if ((A 8) (F 10)) = 0 then (R_nextTarget F A ((A 6) (F 10)) ((A 7) (F 10))) else (-1 : Int32)) else (-1 : Int32)) else (-1 : Int32)) + (1 : Int32)))) (if (F 10) < (F 7) then (if (F 10) < (15 : Int32) then (if ((A 8) (F 10)) = 0 then (R_nextTarget F A ((A 6) (F 10)) ((A 7) (F 10))) else (-1 : Int32)) else (-1 : Int32)) else (-1 : Int32)) (F 10)) = 0 then (0 : Int32) else (1 : Int32))) : Int32) = (0 : Int32) from Eq.trans (if_neg q16) <| if_pos q18] at J20; exact J20) | exact J20 | (simp only [if_neg q16, if_pos q18] at J20 ⊢; exact J20)
            · refine Wk.iconst o_walkFrom_145 (z := (1 : Int32)) (by decide) ?_
              refine Wk.goto o_walkFrom_146 ?_
              first | (rw [show ((if (F 6) = 0 then (0 : Int32) else (if (R_onStack (ups A 7 (ups (A 7) (F 10) ((if (F 10) < (F 7) then (if (F 10) < (15 : Int32) then (if ((A 8) (F 10)) = 0 then (R_nextTarget F A ((A 6) (F 10)) ((A 7) (F 10))) else (-1 : Int32)) else (-1 : Int32)) else (-1 : Int32)) + (1 : Int32)))) (if (F 10) < (F 7) then (if (F 10) < (15 : Int32) then (if ((A 8) (F 10)) = 0 then (R_nextTarget F A ((A 6) (F 10)) ((A 7) (F 10))) else (-1 : Int32)) else (-1 : Int32)) else (-1 : Int32)) (F 10)) = 0 then (0 : Int32) else (1 : Int32))) : Int32) = (1 : Int32) from Eq.trans (if_neg q16) <| if_neg q18] at J20; exact J20) | exact J20 | (simp only [if_neg q16, if_neg q18] at J20 ⊢; exact J20)
        · refine Wk.aloadN o_walkFrom_105 rfl ?_
          refine Wk.dup o_walkFrom_106 rfl ?_
          refine Wk.getI (mI_top) (wf_top H) o_walkFrom_107 (x := (F 10)) rfl ?_
          refine Wk.iconst o_walkFrom_110 (z := (1 : Int32)) (by decide) ?_
          refine Wk.isub o_walkFrom_111 ?_
          refine Wk.putI (coC H) (mI_top) (wf_top H) (Or.inl (wy_top H)) o_walkFrom_112 ?_
          refine Wk.goto o_walkFrom_115 ?_
          refine Wk.iinc o_walkFrom_197 rfl (z := (v2 + (1 : Int32))) rfl (L' := [.val (.ref 0), .unset, .val (.int (v2 + (1 : Int32))), .val (.int (F 10)), .val (.int (if (F 10) < (F 7) then (if (F 10) < (15 : Int32) then (if ((A 8) (F 10)) = 0 then (R_nextTarget F A ((A 6) (F 10)) ((A 7) (F 10))) else (-1 : Int32)) else (-1 : Int32)) else (-1 : Int32))), .unset]) rfl ?_
          refine Wk.goto o_walkFrom_200 ?_
          refine Wk.forget [false, false, false, true, true, false] (L' := [.val (.ref 0), .unset, .val (.int (v2 + (1 : Int32))), .unset, .unset, .unset]) rfl rfl ?_
          exact (h27 q1 q3 q14)
      refine Wk.icmp_ge o_walkFrom_64 (fun q5 => ?_) (fun q5 => ?_)
      · first | (rw [show ((if (F 10) < (F 7) then (if (F 10) < (15 : Int32) then (if ((A 8) (F 10)) = 0 then (R_nextTarget F A ((A 6) (F 10)) ((A 7) (F 10))) else (-1 : Int32)) else (-1 : Int32)) else (-1 : Int32)) : Int32) = (-1 : Int32) from if_neg q5] at J13; exact J13) | exact J13 | (simp only [if_neg q5] at J13 ⊢; exact J13)
      · refine Wk.iloadN o_walkFrom_67 rfl ?_
        refine Wk.bipush o_walkFrom_68 (z := (15 : Int32)) (by decide) ?_
        refine Wk.icmp_ge o_walkFrom_70 (fun q6 => ?_) (fun q6 => ?_)
        · first | (rw [show ((if (F 10) < (F 7) then (if (F 10) < (15 : Int32) then (if ((A 8) (F 10)) = 0 then (R_nextTarget F A ((A 6) (F 10)) ((A 7) (F 10))) else (-1 : Int32)) else (-1 : Int32)) else (-1 : Int32)) : Int32) = (-1 : Int32) from Eq.trans (if_pos q5) <| if_neg q6] at J13; exact J13) | exact J13 | (simp only [if_pos q5, if_neg q6] at J13 ⊢; exact J13)
        · refine Wk.aloadN o_walkFrom_73 rfl ?_
          refine Wk.getA (mA_stkCyc) (by decide) (i' := 9) rfl (wf_stkCyc H) o_walkFrom_74 ?_
          refine Wk.iloadN o_walkFrom_77 rfl ?_
          refine Wk.baload (mA_stkCyc) (by decide) (i' := 9) rfl q3 (s7 q1 q3 q5 q6) o_walkFrom_78 (y := ((A 8) (F 10))) rfl ?_
          refine Wk.if_ne o_walkFrom_79 (fun q8 => ?_) (fun q8 => ?_)
          · first | (rw [show ((if (F 10) < (F 7) then (if (F 10) < (15 : Int32) then (if ((A 8) (F 10)) = 0 then (R_nextTarget F A ((A 6) (F 10)) ((A 7) (F 10))) else (-1 : Int32)) else (-1 : Int32)) else (-1 : Int32)) : Int32) = (-1 : Int32) from Eq.trans (if_pos q5) <| Eq.trans (if_pos q6) <| if_neg q8] at J13; exact J13) | exact J13 | (simp only [if_pos q5, if_pos q6, if_neg q8] at J13 ⊢; exact J13)
          · refine Wk.aloadN o_walkFrom_82 rfl ?_
            refine Wk.aloadN o_walkFrom_83 rfl ?_
            refine Wk.getA (mA_stkNode) (by decide) (i' := 7) rfl (wf_stkNode H) o_walkFrom_84 ?_
            refine Wk.iloadN o_walkFrom_87 rfl ?_
            refine Wk.iaload (mA_stkNode) (by decide) (i' := 7) rfl q3 (s9 q1 q3 q5 q6 q8) o_walkFrom_88 (y := ((A 6) (F 10))) rfl ?_
            refine Wk.aloadN o_walkFrom_89 rfl ?_
            refine Wk.getA (mA_stkNext) (by decide) (i' := 8) rfl (wf_stkNext H) o_walkFrom_90 ?_
            refine Wk.iloadN o_walkFrom_93 rfl ?_
            refine Wk.iaload (mA_stkNext) (by decide) (i' := 8) rfl q3 (s9 q1 q3 q5 q6 q8) o_walkFrom_94 (y := ((A 7) (F 10))) rfl ?_
            refine Wk.callF [.int ((A 6) (F 10)), .int ((A 7) (F 10))] [] (H.w 180 rfl) (cv_nextTarget H) o_walkFrom_95 (run_nextTarget H F G A B ((A 6) (F 10)) ((A 7) (F 10)) (s10 q1 q3 q5 q6 q8)) (wt := 0) (cu' := 0) (su' := 0) (by decide) rfl rfl rfl rfl rfl rfl rfl ?_
            refine Wk.istore o_walkFrom_98 (Or.inr ⟨_, rfl, rfl⟩) (L' := [.val (.ref 0), .unset, .val (.int v2), .val (.int (F 10)), .val (.int (R_nextTarget F A ((A 6) (F 10)) ((A 7) (F 10)))), .unset]) rfl ?_
            first | (rw [show ((if (F 10) < (F 7) then (if (F 10) < (15 : Int32) then (if ((A 8) (F 10)) = 0 then (R_nextTarget F A ((A 6) (F 10)) ((A 7) (F 10))) else (-1 : Int32)) else (-1 : Int32)) else (-1 : Int32)) : Int32) = (R_nextTarget F A ((A 6) (F 10)) ((A 7) (F 10))) from Eq.trans (if_pos q5) <| Eq.trans (if_pos q6) <| if_pos q8] at J13; exact J13) | exact J13 | (simp only [if_pos q5, if_pos q6, if_pos q8] at J13 ⊢; exact J13)

theorem rt_walkFrom (G : Nat → Int64) (B : Nat → Int32 → Int64) (v0 : Int32) (xF : Nat → Int32) (xA : Nat → Int32 → Int32) (r : Int32 × (Nat → Int32) × (Nat → Int32 → Int32)) (e : (v0, xF, xA) = r) : some (Value.int v0) = some (.int r.1) ∧ (10, xF, G, xA, B) = (10, r.2.1, G, r.2.2, B) := by subst e; exact ⟨rfl, rfl⟩
def lp_walkFrom : Nat → Nat → Int32 → (Nat → Int32) → (Nat → Int32 → Int32) → Option (Int32 × (Nat → Int32) × (Nat → Int32 → Int32))
  | 0, _, _, _, _ => none
  | n + 1, tag, v2, F, A => if tag = 37 then (if v2 < (400 : Int32) then (if (F 10) < 0 then some ((1 : Int32), F, A) else (if ((F 10) < (F 7) → (F 10) < (15 : Int32) → (F 10) < (16 : Int32)) ∧ ((F 10) < (F 7) → (F 10) < (15 : Int32) → ((A 8) (F 10)) = 0 → (F 10) < (16 : Int32)) ∧ ((F 10) < (F 7) → (F 10) < (15 : Int32) → ((A 8) (F 10)) = 0 → (en_nextTarget F A ((A 6) (F 10)) ((A 7) (F 10))).isSome = true) then (if (if (F 10) < (F 7) then (if (F 10) < (15 : Int32) then (if ((A 8) (F 10)) = 0 then (R_nextTarget F A ((A 6) (F 10)) ((A 7) (F 10))) else (-1 : Int32)) else (-1 : Int32)) else (-1 : Int32)) < 0 then lp_walkFrom n 37 (v2 + (1 : Int32)) (ups F 10 ((F 10) - (1 : Int32))) A else (if ((F 10) < (16 : Int32)) ∧ (¬ (F 6) = 0 → (en_onStack (ups A 7 (ups (A 7) (F 10) ((if (F 10) < (F 7) then (if (F 10) < (15 : Int32) then (if ((A 8) (F 10)) = 0 then (R_nextTarget F A ((A 6) (F 10)) ((A 7) (F 10))) else (-1 : Int32)) else (-1 : Int32)) else (-1 : Int32)) + (1 : Int32)))) (if (F 10) < (F 7) then (if (F 10) < (15 : Int32) then (if ((A 8) (F 10)) = 0 then (R_nextTarget F A ((A 6) (F 10)) ((A 7) (F 10))) else (-1 : Int32)) else (-1 : Int32)) else (-1 : Int32)) (F 10)).isSome = true) ∧ (¬ ((F 10) + (1 : Int32)) < 0) ∧ (((F 10) + (1 : Int32)) < (16 : Int32)) ∧ ((en_emitStack (ups F 10 ((F 10) + (1 : Int32))) (ups (ups (ups (ups A 7 (ups (A 7) (F 10) ((if (F 10) < (F 7) then (if (F 10) < (15 : Int32) then (if ((A 8) (F 10)) = 0 then (R_nextTarget F A ((A 6) (F 10)) ((A 7) (F 10))) else (-1 : Int32)) else (-1 : Int32)) else (-1 : Int32)) + (1 : Int32)))) 6 (ups (A 6) ((F 10) + (1 : Int32)) (if (F 10) < (F 7) then (if (F 10) < (15 : Int32) then (if ((A 8) (F 10)) = 0 then (R_nextTarget F A ((A 6) (F 10)) ((A 7) (F 10))) else (-1 : Int32)) else (-1 : Int32)) else (-1 : Int32)))) 7 (ups (ups (A 7) (F 10) ((if (F 10) < (F 7) then (if (F 10) < (15 : Int32) then (if ((A 8) (F 10)) = 0 then (R_nextTarget F A ((A 6) (F 10)) ((A 7) (F 10))) else (-1 : Int32)) else (-1 : Int32)) else (-1 : Int32)) + (1 : Int32))) ((F 10) + (1 : Int32)) (0 : Int32))) 8 (ups (A 8) ((F 10) + (1 : Int32)) (nar .boolean (if (F 6) = 0 then (0 : Int32) else (if (R_onStack (ups A 7 (ups (A 7) (F 10) ((if (F 10) < (F 7) then (if (F 10) < (15 : Int32) then (if ((A 8) (F 10)) = 0 then (R_nextTarget F A ((A 6) (F 10)) ((A 7) (F 10))) else (-1 : Int32)) else (-1 : Int32)) else (-1 : Int32)) + (1 : Int32)))) (if (F 10) < (F 7) then (if (F 10) < (15 : Int32) then (if ((A 8) (F 10)) = 0 then (R_nextTarget F A ((A 6) (F 10)) ((A 7) (F 10))) else (-1 : Int32)) else (-1 : Int32)) else (-1 : Int32)) (F 10)) = 0 then (0 : Int32) else (1 : Int32)))))) ).isSome = true) then (if (R_emitStack (ups F 10 ((F 10) + (1 : Int32))) (ups (ups (ups (ups A 7 (ups (A 7) (F 10) ((if (F 10) < (F 7) then (if (F 10) < (15 : Int32) then (if ((A 8) (F 10)) = 0 then (R_nextTarget F A ((A 6) (F 10)) ((A 7) (F 10))) else (-1 : Int32)) else (-1 : Int32)) else (-1 : Int32)) + (1 : Int32)))) 6 (ups (A 6) ((F 10) + (1 : Int32)) (if (F 10) < (F 7) then (if (F 10) < (15 : Int32) then (if ((A 8) (F 10)) = 0 then (R_nextTarget F A ((A 6) (F 10)) ((A 7) (F 10))) else (-1 : Int32)) else (-1 : Int32)) else (-1 : Int32)))) 7 (ups (ups (A 7) (F 10) ((if (F 10) < (F 7) then (if (F 10) < (15 : Int32) then (if ((A 8) (F 10)) = 0 then (R_nextTarget F A ((A 6) (F 10)) ((A 7) (F 10))) else (-1 : Int32)) else (-1 : Int32)) else (-1 : Int32)) + (1 : Int32))) ((F 10) + (1 : Int32)) (0 : Int32))) 8 (ups (A 8) ((F 10) + (1 : Int32)) (nar .boolean (if (F 6) = 0 then (0 : Int32) else (if (R_onStack (ups A 7 (ups (A 7) (F 10) ((if (F 10) < (F 7) then (if (F 10) < (15 : Int32) then (if ((A 8) (F 10)) = 0 then (R_nextTarget F A ((A 6) (F 10)) ((A 7) (F 10))) else (-1 : Int32)) else (-1 : Int32)) else (-1 : Int32)) + (1 : Int32)))) (if (F 10) < (F 7) then (if (F 10) < (15 : Int32) then (if ((A 8) (F 10)) = 0 then (R_nextTarget F A ((A 6) (F 10)) ((A 7) (F 10))) else (-1 : Int32)) else (-1 : Int32)) else (-1 : Int32)) (F 10)) = 0 then (0 : Int32) else (1 : Int32)))))) ).1 = 0 then some ((0 : Int32), (R_emitStack (ups F 10 ((F 10) + (1 : Int32))) (ups (ups (ups (ups A 7 (ups (A 7) (F 10) ((if (F 10) < (F 7) then (if (F 10) < (15 : Int32) then (if ((A 8) (F 10)) = 0 then (R_nextTarget F A ((A 6) (F 10)) ((A 7) (F 10))) else (-1 : Int32)) else (-1 : Int32)) else (-1 : Int32)) + (1 : Int32)))) 6 (ups (A 6) ((F 10) + (1 : Int32)) (if (F 10) < (F 7) then (if (F 10) < (15 : Int32) then (if ((A 8) (F 10)) = 0 then (R_nextTarget F A ((A 6) (F 10)) ((A 7) (F 10))) else (-1 : Int32)) else (-1 : Int32)) else (-1 : Int32)))) 7 (ups (ups (A 7) (F 10) ((if (F 10) < (F 7) then (if (F 10) < (15 : Int32) then (if ((A 8) (F 10)) = 0 then (R_nextTarget F A ((A 6) (F 10)) ((A 7) (F 10))) else (-1 : Int32)) else (-1 : Int32)) else (-1 : Int32)) + (1 : Int32))) ((F 10) + (1 : Int32)) (0 : Int32))) 8 (ups (A 8) ((F 10) + (1 : Int32)) (nar .boolean (if (F 6) = 0 then (0 : Int32) else (if (R_onStack (ups A 7 (ups (A 7) (F 10) ((if (F 10) < (F 7) then (if (F 10) < (15 : Int32) then (if ((A 8) (F 10)) = 0 then (R_nextTarget F A ((A 6) (F 10)) ((A 7) (F 10))) else (-1 : Int32)) else (-1 : Int32)) else (-1 : Int32)) + (1 : Int32)))) (if (F 10) < (F 7) then (if (F 10) < (15 : Int32) then (if ((A 8) (F 10)) = 0 then (R_nextTarget F A ((A 6) (F 10)) ((A 7) (F 10))) else (-1 : Int32)) else (-1 : Int32)) else (-1 : Int32)) (F 10)) = 0 then (0 : Int32) else (1 : Int32)))))) ).2.1, (R_emitStack (ups F 10 ((F 10) + (1 : Int32))) (ups (ups (ups (ups A 7 (ups (A 7) (F 10) ((if (F 10) < (F 7) then (if (F 10) < (15 : Int32) then (if ((A 8) (F 10)) = 0 then (R_nextTarget F A ((A 6) (F 10)) ((A 7) (F 10))) else (-1 : Int32)) else (-1 : Int32)) else (-1 : Int32)) + (1 : Int32)))) 6 (ups (A 6) ((F 10) + (1 : Int32)) (if (F 10) < (F 7) then (if (F 10) < (15 : Int32) then (if ((A 8) (F 10)) = 0 then (R_nextTarget F A ((A 6) (F 10)) ((A 7) (F 10))) else (-1 : Int32)) else (-1 : Int32)) else (-1 : Int32)))) 7 (ups (ups (A 7) (F 10) ((if (F 10) < (F 7) then (if (F 10) < (15 : Int32) then (if ((A 8) (F 10)) = 0 then (R_nextTarget F A ((A 6) (F 10)) ((A 7) (F 10))) else (-1 : Int32)) else (-1 : Int32)) else (-1 : Int32)) + (1 : Int32))) ((F 10) + (1 : Int32)) (0 : Int32))) 8 (ups (A 8) ((F 10) + (1 : Int32)) (nar .boolean (if (F 6) = 0 then (0 : Int32) else (if (R_onStack (ups A 7 (ups (A 7) (F 10) ((if (F 10) < (F 7) then (if (F 10) < (15 : Int32) then (if ((A 8) (F 10)) = 0 then (R_nextTarget F A ((A 6) (F 10)) ((A 7) (F 10))) else (-1 : Int32)) else (-1 : Int32)) else (-1 : Int32)) + (1 : Int32)))) (if (F 10) < (F 7) then (if (F 10) < (15 : Int32) then (if ((A 8) (F 10)) = 0 then (R_nextTarget F A ((A 6) (F 10)) ((A 7) (F 10))) else (-1 : Int32)) else (-1 : Int32)) else (-1 : Int32)) (F 10)) = 0 then (0 : Int32) else (1 : Int32)))))) ).2.2) else lp_walkFrom n 37 (v2 + (1 : Int32)) (R_emitStack (ups F 10 ((F 10) + (1 : Int32))) (ups (ups (ups (ups A 7 (ups (A 7) (F 10) ((if (F 10) < (F 7) then (if (F 10) < (15 : Int32) then (if ((A 8) (F 10)) = 0 then (R_nextTarget F A ((A 6) (F 10)) ((A 7) (F 10))) else (-1 : Int32)) else (-1 : Int32)) else (-1 : Int32)) + (1 : Int32)))) 6 (ups (A 6) ((F 10) + (1 : Int32)) (if (F 10) < (F 7) then (if (F 10) < (15 : Int32) then (if ((A 8) (F 10)) = 0 then (R_nextTarget F A ((A 6) (F 10)) ((A 7) (F 10))) else (-1 : Int32)) else (-1 : Int32)) else (-1 : Int32)))) 7 (ups (ups (A 7) (F 10) ((if (F 10) < (F 7) then (if (F 10) < (15 : Int32) then (if ((A 8) (F 10)) = 0 then (R_nextTarget F A ((A 6) (F 10)) ((A 7) (F 10))) else (-1 : Int32)) else (-1 : Int32)) else (-1 : Int32)) + (1 : Int32))) ((F 10) + (1 : Int32)) (0 : Int32))) 8 (ups (A 8) ((F 10) + (1 : Int32)) (nar .boolean (if (F 6) = 0 then (0 : Int32) else (if (R_onStack (ups A 7 (ups (A 7) (F 10) ((if (F 10) < (F 7) then (if (F 10) < (15 : Int32) then (if ((A 8) (F 10)) = 0 then (R_nextTarget F A ((A 6) (F 10)) ((A 7) (F 10))) else (-1 : Int32)) else (-1 : Int32)) else (-1 : Int32)) + (1 : Int32)))) (if (F 10) < (F 7) then (if (F 10) < (15 : Int32) then (if ((A 8) (F 10)) = 0 then (R_nextTarget F A ((A 6) (F 10)) ((A 7) (F 10))) else (-1 : Int32)) else (-1 : Int32)) else (-1 : Int32)) (F 10)) = 0 then (0 : Int32) else (1 : Int32)))))) ).2.1 (R_emitStack (ups F 10 ((F 10) + (1 : Int32))) (ups (ups (ups (ups A 7 (ups (A 7) (F 10) ((if (F 10) < (F 7) then (if (F 10) < (15 : Int32) then (if ((A 8) (F 10)) = 0 then (R_nextTarget F A ((A 6) (F 10)) ((A 7) (F 10))) else (-1 : Int32)) else (-1 : Int32)) else (-1 : Int32)) + (1 : Int32)))) 6 (ups (A 6) ((F 10) + (1 : Int32)) (if (F 10) < (F 7) then (if (F 10) < (15 : Int32) then (if ((A 8) (F 10)) = 0 then (R_nextTarget F A ((A 6) (F 10)) ((A 7) (F 10))) else (-1 : Int32)) else (-1 : Int32)) else (-1 : Int32)))) 7 (ups (ups (A 7) (F 10) ((if (F 10) < (F 7) then (if (F 10) < (15 : Int32) then (if ((A 8) (F 10)) = 0 then (R_nextTarget F A ((A 6) (F 10)) ((A 7) (F 10))) else (-1 : Int32)) else (-1 : Int32)) else (-1 : Int32)) + (1 : Int32))) ((F 10) + (1 : Int32)) (0 : Int32))) 8 (ups (A 8) ((F 10) + (1 : Int32)) (nar .boolean (if (F 6) = 0 then (0 : Int32) else (if (R_onStack (ups A 7 (ups (A 7) (F 10) ((if (F 10) < (F 7) then (if (F 10) < (15 : Int32) then (if ((A 8) (F 10)) = 0 then (R_nextTarget F A ((A 6) (F 10)) ((A 7) (F 10))) else (-1 : Int32)) else (-1 : Int32)) else (-1 : Int32)) + (1 : Int32)))) (if (F 10) < (F 7) then (if (F 10) < (15 : Int32) then (if ((A 8) (F 10)) = 0 then (R_nextTarget F A ((A 6) (F 10)) ((A 7) (F 10))) else (-1 : Int32)) else (-1 : Int32)) else (-1 : Int32)) (F 10)) = 0 then (0 : Int32) else (1 : Int32)))))) ).2.2) else none)) else none)) else some ((1 : Int32), F, A)) else none
theorem lp_walkFrom_z (tag : Nat) (v2 : Int32) (F : Nat → Int32) (A : Nat → Int32 → Int32) : lp_walkFrom 0 tag v2 F A = none := Eq.trans rfl rfl
theorem lp_walkFrom_37 (n : Nat) (v2 : Int32) (F : Nat → Int32) (A : Nat → Int32 → Int32) : lp_walkFrom (n + 1) 37 v2 F A = (if v2 < (400 : Int32) then (if (F 10) < 0 then some ((1 : Int32), F, A) else (if ((F 10) < (F 7) → (F 10) < (15 : Int32) → (F 10) < (16 : Int32)) ∧ ((F 10) < (F 7) → (F 10) < (15 : Int32) → ((A 8) (F 10)) = 0 → (F 10) < (16 : Int32)) ∧ ((F 10) < (F 7) → (F 10) < (15 : Int32) → ((A 8) (F 10)) = 0 → (en_nextTarget F A ((A 6) (F 10)) ((A 7) (F 10))).isSome = true) then (if (if (F 10) < (F 7) then (if (F 10) < (15 : Int32) then (if ((A 8) (F 10)) = 0 then (R_nextTarget F A ((A 6) (F 10)) ((A 7) (F 10))) else (-1 : Int32)) else (-1 : Int32)) else (-1 : Int32)) < 0 then lp_walkFrom n 37 (v2 + (1 : Int32)) (ups F 10 ((F 10) - (1 : Int32))) A else (if ((F 10) < (16 : Int32)) ∧ (¬ (F 6) = 0 → (en_onStack (ups A 7 (ups (A 7) (F 10) ((if (F 10) < (F 7) then (if (F 10) < (15 : Int32) then (if ((A 8) (F 10)) = 0 then (R_nextTarget F A ((A 6) (F 10)) ((A 7) (F 10))) else (-1 : Int32)) else (-1 : Int32)) else (-1 : Int32)) + (1 : Int32)))) (if (F 10) < (F 7) then (if (F 10) < (15 : Int32) then (if ((A 8) (F 10)) = 0 then (R_nextTarget F A ((A 6) (F 10)) ((A 7) (F 10))) else (-1 : Int32)) else (-1 : Int32)) else (-1 : Int32)) (F 10)).isSome = true) ∧ (¬ ((F 10) + (1 : Int32)) < 0) ∧ (((F 10) + (1 : Int32)) < (16 : Int32)) ∧ ((en_emitStack (ups F 10 ((F 10) + (1 : Int32))) (ups (ups (ups (ups A 7 (ups (A 7) (F 10) ((if (F 10) < (F 7) then (if (F 10) < (15 : Int32) then (if ((A 8) (F 10)) = 0 then (R_nextTarget F A ((A 6) (F 10)) ((A 7) (F 10))) else (-1 : Int32)) else (-1 : Int32)) else (-1 : Int32)) + (1 : Int32)))) 6 (ups (A 6) ((F 10) + (1 : Int32)) (if (F 10) < (F 7) then (if (F 10) < (15 : Int32) then (if ((A 8) (F 10)) = 0 then (R_nextTarget F A ((A 6) (F 10)) ((A 7) (F 10))) else (-1 : Int32)) else (-1 : Int32)) else (-1 : Int32)))) 7 (ups (ups (A 7) (F 10) ((if (F 10) < (F 7) then (if (F 10) < (15 : Int32) then (if ((A 8) (F 10)) = 0 then (R_nextTarget F A ((A 6) (F 10)) ((A 7) (F 10))) else (-1 : Int32)) else (-1 : Int32)) else (-1 : Int32)) + (1 : Int32))) ((F 10) + (1 : Int32)) (0 : Int32))) 8 (ups (A 8) ((F 10) + (1 : Int32)) (nar .boolean (if (F 6) = 0 then (0 : Int32) else (if (R_onStack (ups A 7 (ups (A 7) (F 10) ((if (F 10) < (F 7) then (if (F 10) < (15 : Int32) then (if ((A 8) (F 10)) = 0 then (R_nextTarget F A ((A 6) (F 10)) ((A 7) (F 10))) else (-1 : Int32)) else (-1 : Int32)) else (-1 : Int32)) + (1 : Int32)))) (if (F 10) < (F 7) then (if (F 10) < (15 : Int32) then (if ((A 8) (F 10)) = 0 then (R_nextTarget F A ((A 6) (F 10)) ((A 7) (F 10))) else (-1 : Int32)) else (-1 : Int32)) else (-1 : Int32)) (F 10)) = 0 then (0 : Int32) else (1 : Int32)))))) ).isSome = true) then (if (R_emitStack (ups F 10 ((F 10) + (1 : Int32))) (ups (ups (ups (ups A 7 (ups (A 7) (F 10) ((if (F 10) < (F 7) then (if (F 10) < (15 : Int32) then (if ((A 8) (F 10)) = 0 then (R_nextTarget F A ((A 6) (F 10)) ((A 7) (F 10))) else (-1 : Int32)) else (-1 : Int32)) else (-1 : Int32)) + (1 : Int32)))) 6 (ups (A 6) ((F 10) + (1 : Int32)) (if (F 10) < (F 7) then (if (F 10) < (15 : Int32) then (if ((A 8) (F 10)) = 0 then (R_nextTarget F A ((A 6) (F 10)) ((A 7) (F 10))) else (-1 : Int32)) else (-1 : Int32)) else (-1 : Int32)))) 7 (ups (ups (A 7) (F 10) ((if (F 10) < (F 7) then (if (F 10) < (15 : Int32) then (if ((A 8) (F 10)) = 0 then (R_nextTarget F A ((A 6) (F 10)) ((A 7) (F 10))) else (-1 : Int32)) else (-1 : Int32)) else (-1 : Int32)) + (1 : Int32))) ((F 10) + (1 : Int32)) (0 : Int32))) 8 (ups (A 8) ((F 10) + (1 : Int32)) (nar .boolean (if (F 6) = 0 then (0 : Int32) else (if (R_onStack (ups A 7 (ups (A 7) (F 10) ((if (F 10) < (F 7) then (if (F 10) < (15 : Int32) then (if ((A 8) (F 10)) = 0 then (R_nextTarget F A ((A 6) (F 10)) ((A 7) (F 10))) else (-1 : Int32)) else (-1 : Int32)) else (-1 : Int32)) + (1 : Int32)))) (if (F 10) < (F 7) then (if (F 10) < (15 : Int32) then (if ((A 8) (F 10)) = 0 then (R_nextTarget F A ((A 6) (F 10)) ((A 7) (F 10))) else (-1 : Int32)) else (-1 : Int32)) else (-1 : Int32)) (F 10)) = 0 then (0 : Int32) else (1 : Int32)))))) ).1 = 0 then some ((0 : Int32), (R_emitStack (ups F 10 ((F 10) + (1 : Int32))) (ups (ups (ups (ups A 7 (ups (A 7) (F 10) ((if (F 10) < (F 7) then (if (F 10) < (15 : Int32) then (if ((A 8) (F 10)) = 0 then (R_nextTarget F A ((A 6) (F 10)) ((A 7) (F 10))) else (-1 : Int32)) else (-1 : Int32)) else (-1 : Int32)) + (1 : Int32)))) 6 (ups (A 6) ((F 10) + (1 : Int32)) (if (F 10) < (F 7) then (if (F 10) < (15 : Int32) then (if ((A 8) (F 10)) = 0 then (R_nextTarget F A ((A 6) (F 10)) ((A 7) (F 10))) else (-1 : Int32)) else (-1 : Int32)) else (-1 : Int32)))) 7 (ups (ups (A 7) (F 10) ((if (F 10) < (F 7) then (if (F 10) < (15 : Int32) then (if ((A 8) (F 10)) = 0 then (R_nextTarget F A ((A 6) (F 10)) ((A 7) (F 10))) else (-1 : Int32)) else (-1 : Int32)) else (-1 : Int32)) + (1 : Int32))) ((F 10) + (1 : Int32)) (0 : Int32))) 8 (ups (A 8) ((F 10) + (1 : Int32)) (nar .boolean (if (F 6) = 0 then (0 : Int32) else (if (R_onStack (ups A 7 (ups (A 7) (F 10) ((if (F 10) < (F 7) then (if (F 10) < (15 : Int32) then (if ((A 8) (F 10)) = 0 then (R_nextTarget F A ((A 6) (F 10)) ((A 7) (F 10))) else (-1 : Int32)) else (-1 : Int32)) else (-1 : Int32)) + (1 : Int32)))) (if (F 10) < (F 7) then (if (F 10) < (15 : Int32) then (if ((A 8) (F 10)) = 0 then (R_nextTarget F A ((A 6) (F 10)) ((A 7) (F 10))) else (-1 : Int32)) else (-1 : Int32)) else (-1 : Int32)) (F 10)) = 0 then (0 : Int32) else (1 : Int32)))))) ).2.1, (R_emitStack (ups F 10 ((F 10) + (1 : Int32))) (ups (ups (ups (ups A 7 (ups (A 7) (F 10) ((if (F 10) < (F 7) then (if (F 10) < (15 : Int32) then (if ((A 8) (F 10)) = 0 then (R_nextTarget F A ((A 6) (F 10)) ((A 7) (F 10))) else (-1 : Int32)) else (-1 : Int32)) else (-1 : Int32)) + (1 : Int32)))) 6 (ups (A 6) ((F 10) + (1 : Int32)) (if (F 10) < (F 7) then (if (F 10) < (15 : Int32) then (if ((A 8) (F 10)) = 0 then (R_nextTarget F A ((A 6) (F 10)) ((A 7) (F 10))) else (-1 : Int32)) else (-1 : Int32)) else (-1 : Int32)))) 7 (ups (ups (A 7) (F 10) ((if (F 10) < (F 7) then (if (F 10) < (15 : Int32) then (if ((A 8) (F 10)) = 0 then (R_nextTarget F A ((A 6) (F 10)) ((A 7) (F 10))) else (-1 : Int32)) else (-1 : Int32)) else (-1 : Int32)) + (1 : Int32))) ((F 10) + (1 : Int32)) (0 : Int32))) 8 (ups (A 8) ((F 10) + (1 : Int32)) (nar .boolean (if (F 6) = 0 then (0 : Int32) else (if (R_onStack (ups A 7 (ups (A 7) (F 10) ((if (F 10) < (F 7) then (if (F 10) < (15 : Int32) then (if ((A 8) (F 10)) = 0 then (R_nextTarget F A ((A 6) (F 10)) ((A 7) (F 10))) else (-1 : Int32)) else (-1 : Int32)) else (-1 : Int32)) + (1 : Int32)))) (if (F 10) < (F 7) then (if (F 10) < (15 : Int32) then (if ((A 8) (F 10)) = 0 then (R_nextTarget F A ((A 6) (F 10)) ((A 7) (F 10))) else (-1 : Int32)) else (-1 : Int32)) else (-1 : Int32)) (F 10)) = 0 then (0 : Int32) else (1 : Int32)))))) ).2.2) else lp_walkFrom n 37 (v2 + (1 : Int32)) (R_emitStack (ups F 10 ((F 10) + (1 : Int32))) (ups (ups (ups (ups A 7 (ups (A 7) (F 10) ((if (F 10) < (F 7) then (if (F 10) < (15 : Int32) then (if ((A 8) (F 10)) = 0 then (R_nextTarget F A ((A 6) (F 10)) ((A 7) (F 10))) else (-1 : Int32)) else (-1 : Int32)) else (-1 : Int32)) + (1 : Int32)))) 6 (ups (A 6) ((F 10) + (1 : Int32)) (if (F 10) < (F 7) then (if (F 10) < (15 : Int32) then (if ((A 8) (F 10)) = 0 then (R_nextTarget F A ((A 6) (F 10)) ((A 7) (F 10))) else (-1 : Int32)) else (-1 : Int32)) else (-1 : Int32)))) 7 (ups (ups (A 7) (F 10) ((if (F 10) < (F 7) then (if (F 10) < (15 : Int32) then (if ((A 8) (F 10)) = 0 then (R_nextTarget F A ((A 6) (F 10)) ((A 7) (F 10))) else (-1 : Int32)) else (-1 : Int32)) else (-1 : Int32)) + (1 : Int32))) ((F 10) + (1 : Int32)) (0 : Int32))) 8 (ups (A 8) ((F 10) + (1 : Int32)) (nar .boolean (if (F 6) = 0 then (0 : Int32) else (if (R_onStack (ups A 7 (ups (A 7) (F 10) ((if (F 10) < (F 7) then (if (F 10) < (15 : Int32) then (if ((A 8) (F 10)) = 0 then (R_nextTarget F A ((A 6) (F 10)) ((A 7) (F 10))) else (-1 : Int32)) else (-1 : Int32)) else (-1 : Int32)) + (1 : Int32)))) (if (F 10) < (F 7) then (if (F 10) < (15 : Int32) then (if ((A 8) (F 10)) = 0 then (R_nextTarget F A ((A 6) (F 10)) ((A 7) (F 10))) else (-1 : Int32)) else (-1 : Int32)) else (-1 : Int32)) (F 10)) = 0 then (0 : Int32) else (1 : Int32)))))) ).2.1 (R_emitStack (ups F 10 ((F 10) + (1 : Int32))) (ups (ups (ups (ups A 7 (ups (A 7) (F 10) ((if (F 10) < (F 7) then (if (F 10) < (15 : Int32) then (if ((A 8) (F 10)) = 0 then (R_nextTarget F A ((A 6) (F 10)) ((A 7) (F 10))) else (-1 : Int32)) else (-1 : Int32)) else (-1 : Int32)) + (1 : Int32)))) 6 (ups (A 6) ((F 10) + (1 : Int32)) (if (F 10) < (F 7) then (if (F 10) < (15 : Int32) then (if ((A 8) (F 10)) = 0 then (R_nextTarget F A ((A 6) (F 10)) ((A 7) (F 10))) else (-1 : Int32)) else (-1 : Int32)) else (-1 : Int32)))) 7 (ups (ups (A 7) (F 10) ((if (F 10) < (F 7) then (if (F 10) < (15 : Int32) then (if ((A 8) (F 10)) = 0 then (R_nextTarget F A ((A 6) (F 10)) ((A 7) (F 10))) else (-1 : Int32)) else (-1 : Int32)) else (-1 : Int32)) + (1 : Int32))) ((F 10) + (1 : Int32)) (0 : Int32))) 8 (ups (A 8) ((F 10) + (1 : Int32)) (nar .boolean (if (F 6) = 0 then (0 : Int32) else (if (R_onStack (ups A 7 (ups (A 7) (F 10) ((if (F 10) < (F 7) then (if (F 10) < (15 : Int32) then (if ((A 8) (F 10)) = 0 then (R_nextTarget F A ((A 6) (F 10)) ((A 7) (F 10))) else (-1 : Int32)) else (-1 : Int32)) else (-1 : Int32)) + (1 : Int32)))) (if (F 10) < (F 7) then (if (F 10) < (15 : Int32) then (if ((A 8) (F 10)) = 0 then (R_nextTarget F A ((A 6) (F 10)) ((A 7) (F 10))) else (-1 : Int32)) else (-1 : Int32)) else (-1 : Int32)) (F 10)) = 0 then (0 : Int32) else (1 : Int32)))))) ).2.2) else none)) else none)) else some ((1 : Int32), F, A)) := by
  rw [lp_walkFrom, if_pos rfl]
set_option maxRecDepth 65536 in
set_option maxHeartbeats 4000000 in
theorem lpw_walkFrom {l : Launch} {Z : State} {a0 : Array Value} (H : OK Z a0) (G : Nat → Int64) (B : Nat → Int32 → Int64) : ∀ (n : Nat) (v2 : Int32) (F : Nat → Int32) (A : Nat → Int32 → Int32) (r : Int32 × (Nat → Int32) × (Nat → Int32 → Int32)), (lp_walkFrom n 37 v2 F A = some r → Wk l Z (MoC Z cdC) md_walkFrom 37 [.val (.ref 0), .unset, .val (.int v2), .unset, .unset, .unset] [] (10, F, G, A, B) 0 0 (fun v w' => v = some (.int r.1) ∧ w' = (10, r.2.1, G, r.2.2, B))) := by
  intro n
  induction n with
  | zero =>
    intro v2 F A r
    exact (fun h => by rw [lp_walkFrom_z] at h; cases h)
  | succ n ih =>
    intro v2 F A r
    refine fun h => ?_
    · rw [lp_walkFrom_37] at h
      exact wp_walkFrom_37 H F G A B v2 (fun q1 => (rt_walkFrom _ _ _ _ _ r (Option.some.inj (ifn q1 h)))) (fun q1 q3 => (rt_walkFrom _ _ _ _ _ r (Option.some.inj (ifp q3 (ifp q1 h))))) (fun q1 q3 q5 q6 => ((gd (ifn q3 (ifp q1 h))).1.1) q5 q6) (fun q1 q3 q5 q6 q8 => ((gd (ifn q3 (ifp q1 h))).1.2.1) q5 q6 q8) (fun q1 q3 q5 q6 q8 => ((gd (ifn q3 (ifp q1 h))).1.2.2) q5 q6 q8) (fun q1 q3 q14 => (gd (ifn q14 (gd (ifn q3 (ifp q1 h))).2)).1.1) (fun q1 q3 q14 q16 => ((gd (ifn q14 (gd (ifn q3 (ifp q1 h))).2)).1.2.1) q16) (fun q1 q3 q14 => (gd (ifn q14 (gd (ifn q3 (ifp q1 h))).2)).1.2.2.1) (fun q1 q3 q14 => (gd (ifn q14 (gd (ifn q3 (ifp q1 h))).2)).1.2.2.2.1) (fun q1 q3 q14 => (gd (ifn q14 (gd (ifn q3 (ifp q1 h))).2)).1.2.2.2.2) (fun q1 q3 q14 q24 => (ih _ _ _ _) (ifn q24 (gd (ifn q14 (gd (ifn q3 (ifp q1 h))).2)).2)) (fun q1 q3 q14 q24 => (rt_walkFrom _ _ _ _ _ r (Option.some.inj (ifp q24 (gd (ifn q14 (gd (ifn q3 (ifp q1 h))).2)).2)))) (fun q1 q3 q14 => (ih _ _ _ _) (ifp q14 (gd (ifn q3 (ifp q1 h))).2))
def en_walkFrom (F : Nat → Int32) (A : Nat → Int32 → Int32) (p1 : Int32) : Option (Int32 × (Nat → Int32) × (Nat → Int32 → Int32)) := (if ((en_emitStack (ups F 10 (0 : Int32)) (ups (ups (ups A 6 (ups (A 6) (0 : Int32) p1)) 7 (ups (A 7) (0 : Int32) (0 : Int32))) 8 (ups (A 8) (0 : Int32) (0 : Int32))) ).isSome = true) then (if (R_emitStack (ups F 10 (0 : Int32)) (ups (ups (ups A 6 (ups (A 6) (0 : Int32) p1)) 7 (ups (A 7) (0 : Int32) (0 : Int32))) 8 (ups (A 8) (0 : Int32) (0 : Int32))) ).1 = 0 then some ((0 : Int32), (R_emitStack (ups F 10 (0 : Int32)) (ups (ups (ups A 6 (ups (A 6) (0 : Int32) p1)) 7 (ups (A 7) (0 : Int32) (0 : Int32))) 8 (ups (A 8) (0 : Int32) (0 : Int32))) ).2.1, (R_emitStack (ups F 10 (0 : Int32)) (ups (ups (ups A 6 (ups (A 6) (0 : Int32) p1)) 7 (ups (A 7) (0 : Int32) (0 : Int32))) 8 (ups (A 8) (0 : Int32) (0 : Int32))) ).2.2) else lp_walkFrom 1000 37 (0 : Int32) (R_emitStack (ups F 10 (0 : Int32)) (ups (ups (ups A 6 (ups (A 6) (0 : Int32) p1)) 7 (ups (A 7) (0 : Int32) (0 : Int32))) 8 (ups (A 8) (0 : Int32) (0 : Int32))) ).2.1 (R_emitStack (ups F 10 (0 : Int32)) (ups (ups (ups A 6 (ups (A 6) (0 : Int32) p1)) 7 (ups (A 7) (0 : Int32) (0 : Int32))) 8 (ups (A 8) (0 : Int32) (0 : Int32))) ).2.2) else none)
theorem een_walkFrom (F : Nat → Int32) (A : Nat → Int32 → Int32) (p1 : Int32) : en_walkFrom F A p1 = (if ((en_emitStack (ups F 10 (0 : Int32)) (ups (ups (ups A 6 (ups (A 6) (0 : Int32) p1)) 7 (ups (A 7) (0 : Int32) (0 : Int32))) 8 (ups (A 8) (0 : Int32) (0 : Int32))) ).isSome = true) then (if (R_emitStack (ups F 10 (0 : Int32)) (ups (ups (ups A 6 (ups (A 6) (0 : Int32) p1)) 7 (ups (A 7) (0 : Int32) (0 : Int32))) 8 (ups (A 8) (0 : Int32) (0 : Int32))) ).1 = 0 then some ((0 : Int32), (R_emitStack (ups F 10 (0 : Int32)) (ups (ups (ups A 6 (ups (A 6) (0 : Int32) p1)) 7 (ups (A 7) (0 : Int32) (0 : Int32))) 8 (ups (A 8) (0 : Int32) (0 : Int32))) ).2.1, (R_emitStack (ups F 10 (0 : Int32)) (ups (ups (ups A 6 (ups (A 6) (0 : Int32) p1)) 7 (ups (A 7) (0 : Int32) (0 : Int32))) 8 (ups (A 8) (0 : Int32) (0 : Int32))) ).2.2) else lp_walkFrom 1000 37 (0 : Int32) (R_emitStack (ups F 10 (0 : Int32)) (ups (ups (ups A 6 (ups (A 6) (0 : Int32) p1)) 7 (ups (A 7) (0 : Int32) (0 : Int32))) 8 (ups (A 8) (0 : Int32) (0 : Int32))) ).2.1 (R_emitStack (ups F 10 (0 : Int32)) (ups (ups (ups A 6 (ups (A 6) (0 : Int32) p1)) 7 (ups (A 7) (0 : Int32) (0 : Int32))) 8 (ups (A 8) (0 : Int32) (0 : Int32))) ).2.2) else none) := Eq.trans rfl rfl
def R_walkFrom (F : Nat → Int32) (A : Nat → Int32 → Int32) (p1 : Int32) : Int32 × (Nat → Int32) × (Nat → Int32 → Int32) := (en_walkFrom F A p1).getD (0, (fun _ => 0), (fun _ _ => 0))
theorem eR_walkFrom (F : Nat → Int32) (A : Nat → Int32 → Int32) (p1 : Int32) : R_walkFrom F A p1 = (en_walkFrom F A p1).getD (0, (fun _ => 0), (fun _ _ => 0)) := Eq.trans rfl rfl
set_option maxRecDepth 65536 in
set_option maxHeartbeats 4000000 in
theorem run_walkFrom {l : Launch} {Z : State} {a0 : Array Value} (H : OK Z a0) (F : Nat → Int32) (G : Nat → Int64) (A : Nat → Int32 → Int32) (B : Nat → Int32 → Int64) (p1 : Int32) (e1 : (en_walkFrom F A p1).isSome = true) :
    Wk l Z (MoC Z cdC) md_walkFrom 0 [.val (.ref 0), .val (.int p1), .unset, .unset, .unset, .unset] [] (10, F, G, A, B) 0 0 (fun v w' => v = some (.int (R_walkFrom F A p1).1) ∧ w' = (10, (R_walkFrom F A p1).2.1, G, (R_walkFrom F A p1).2.2, B)) := by
  obtain ⟨r, h⟩ := Option.isSome_iff_exists.mp e1
  have e : R_walkFrom F A p1 = r := (eR_walkFrom F A p1).trans (getD_some h)
  rw [e]
  rw [een_walkFrom] at h
  exact wp_walkFrom H F G A B p1 ((gd h).1) (fun q2 => (lpw_walkFrom H G B _ _ _ _ _) (ifn q2 (gd h).2)) (fun q2 => (rt_walkFrom _ _ _ _ _ r (Option.some.inj (ifp q2 (gd h).2))))
set_option maxRecDepth 65536 in
set_option maxHeartbeats 4000000 in
theorem wp_runDepthFirstAll {l : Launch} {Z : State} {a0 : Array Value} (H : OK Z a0) (F : Nat → Int32) (G : Nat → Int64) (A : Nat → Int32 → Int32) (B : Nat → Int32 → Int64) {Q : Option Value → WO → Prop} (h1 : Wk l Z (MoC Z cdC) md_runDepthFirstAll 2 [.val (.ref 0), .val (.int (0 : Int32))] [] (10, F, G, A, B) 0 0 Q) :
    Wk l Z (MoC Z cdC) md_runDepthFirstAll 0 [.val (.ref 0), .unset] [] (10, F, G, A, B) 0 0 Q := by
  refine Wk.iconst o_runDepthFirstAll_0 (z := (0 : Int32)) (by decide) ?_
  refine Wk.istoreN o_runDepthFirstAll_1 (Or.inl rfl) (L' := [.val (.ref 0), .val (.int (0 : Int32))]) rfl ?_
  exact h1

set_option maxRecDepth 65536 in
set_option maxHeartbeats 4000000 in
theorem wp_runDepthFirstAll_2 {l : Launch} {Z : State} {a0 : Array Value} (H : OK Z a0) (F : Nat → Int32) (G : Nat → Int64) (A : Nat → Int32 → Int32) (B : Nat → Int32 → Int64) (v1 : Int32) {Q : Option Value → WO → Prop} (h2 : ¬ v1 < (F 0) → Q (some (.int (1 : Int32))) (10, F, G, A, B)) (h4 : v1 < (F 0) → ¬ v1 < (16 : Int32) → Q (some (.int (1 : Int32))) (10, F, G, A, B)) (s5 : v1 < (F 0) → v1 < (16 : Int32) → ¬ v1 < 0) (h7 : v1 < (F 0) → v1 < (16 : Int32) → ((A 1) v1) = 0 → Wk l Z (MoC Z cdC) md_runDepthFirstAll 2 [.val (.ref 0), .val (.int (v1 + (1 : Int32)))] [] (10, F, G, A, B) 0 0 Q) (s8 : v1 < (F 0) → v1 < (16 : Int32) → ¬ ((A 1) v1) = 0 → (en_walkFrom F A v1).isSome = true) (h10 : v1 < (F 0) → v1 < (16 : Int32) → ¬ ((A 1) v1) = 0 → ¬ (R_walkFrom F A v1).1 = 0 → Wk l Z (MoC Z cdC) md_runDepthFirstAll 2 [.val (.ref 0), .val (.int (v1 + (1 : Int32)))] [] (10, (R_walkFrom F A v1).2.1, G, (R_walkFrom F A v1).2.2, B) 0 0 Q) (h11 : v1 < (F 0) → v1 < (16 : Int32) → ¬ ((A 1) v1) = 0 → (R_walkFrom F A v1).1 = 0 → Q (some (.int (0 : Int32))) (10, (R_walkFrom F A v1).2.1, G, (R_walkFrom F A v1).2.2, B)) :
    Wk l Z (MoC Z cdC) md_runDepthFirstAll 2 [.val (.ref 0), .val (.int v1)] [] (10, F, G, A, B) 0 0 Q := by
  refine Wk.iloadN o_runDepthFirstAll_2 rfl ?_
  refine Wk.aloadN o_runDepthFirstAll_3 rfl ?_
  refine Wk.getI (mI_maxNodes) (wf_maxNodes H) o_runDepthFirstAll_4 (x := (F 0)) rfl ?_
  refine Wk.icmp_ge o_runDepthFirstAll_7 (fun q1 => ?_) (fun q1 => ?_)
  · refine Wk.iconst o_runDepthFirstAll_41 (z := (1 : Int32)) (by decide) ?_
    exact Wk.zreturn mrC rfl o_runDepthFirstAll_42 rfl (by decide) (by decide) (y := (1 : Int32)) (by decide) (h2 q1)
  · refine Wk.iloadN o_runDepthFirstAll_10 rfl ?_
    refine Wk.bipush o_runDepthFirstAll_11 (z := (16 : Int32)) (by decide) ?_
    refine Wk.icmp_ge o_runDepthFirstAll_13 (fun q3 => ?_) (fun q3 => ?_)
    · refine Wk.iconst o_runDepthFirstAll_41 (z := (1 : Int32)) (by decide) ?_
      exact Wk.zreturn mrC rfl o_runDepthFirstAll_42 rfl (by decide) (by decide) (y := (1 : Int32)) (by decide) (h4 q1 q3)
    · refine Wk.aloadN o_runDepthFirstAll_16 rfl ?_
      refine Wk.getA (mA_seed) (by decide) (i' := 2) rfl (wf_seed H) o_runDepthFirstAll_17 ?_
      refine Wk.iloadN o_runDepthFirstAll_20 rfl ?_
      refine Wk.baload (mA_seed) (by decide) (i' := 2) rfl (s5 q1 q3) q3 o_runDepthFirstAll_21 (y := ((A 1) v1)) rfl ?_
      refine Wk.if_eq o_runDepthFirstAll_22 (fun q6 => ?_) (fun q6 => ?_)
      · refine Wk.iinc o_runDepthFirstAll_35 rfl (z := (v1 + (1 : Int32))) rfl (L' := [.val (.ref 0), .val (.int (v1 + (1 : Int32)))]) rfl ?_
        refine Wk.goto o_runDepthFirstAll_38 ?_
        exact (h7 q1 q3 q6)
      · refine Wk.aloadN o_runDepthFirstAll_25 rfl ?_
        refine Wk.iloadN o_runDepthFirstAll_26 rfl ?_
        refine Wk.callF [.int v1] [] (H.w 172 rfl) (cv_walkFrom H) o_runDepthFirstAll_27 (run_walkFrom H F G A B v1 (s8 q1 q3 q6)) (wt := 0) (cu' := 0) (su' := 0) (by decide) rfl rfl rfl rfl rfl rfl rfl ?_
        refine Wk.if_ne o_runDepthFirstAll_30 (fun q9 => ?_) (fun q9 => ?_)
        · refine Wk.iinc o_runDepthFirstAll_35 rfl (z := (v1 + (1 : Int32))) rfl (L' := [.val (.ref 0), .val (.int (v1 + (1 : Int32)))]) rfl ?_
          refine Wk.goto o_runDepthFirstAll_38 ?_
          exact (h10 q1 q3 q6 q9)
        · refine Wk.iconst o_runDepthFirstAll_33 (z := (0 : Int32)) (by decide) ?_
          exact Wk.zreturn mrC rfl o_runDepthFirstAll_34 rfl (by decide) (by decide) (y := (0 : Int32)) (by decide) (h11 q1 q3 q6 q9)

theorem rt_runDepthFirstAll (G : Nat → Int64) (B : Nat → Int32 → Int64) (v0 : Int32) (xF : Nat → Int32) (xA : Nat → Int32 → Int32) (r : Int32 × (Nat → Int32) × (Nat → Int32 → Int32)) (e : (v0, xF, xA) = r) : some (Value.int v0) = some (.int r.1) ∧ (10, xF, G, xA, B) = (10, r.2.1, G, r.2.2, B) := by subst e; exact ⟨rfl, rfl⟩
def lp_runDepthFirstAll : Nat → Nat → Int32 → (Nat → Int32) → (Nat → Int32 → Int32) → Option (Int32 × (Nat → Int32) × (Nat → Int32 → Int32))
  | 0, _, _, _, _ => none
  | n + 1, tag, v1, F, A => if tag = 2 then (if v1 < (F 0) then (if v1 < (16 : Int32) then (if (¬ v1 < 0) then (if ((A 1) v1) = 0 then lp_runDepthFirstAll n 2 (v1 + (1 : Int32)) F A else (if ((en_walkFrom F A v1).isSome = true) then (if (R_walkFrom F A v1).1 = 0 then some ((0 : Int32), (R_walkFrom F A v1).2.1, (R_walkFrom F A v1).2.2) else lp_runDepthFirstAll n 2 (v1 + (1 : Int32)) (R_walkFrom F A v1).2.1 (R_walkFrom F A v1).2.2) else none)) else none) else some ((1 : Int32), F, A)) else some ((1 : Int32), F, A)) else none
theorem lp_runDepthFirstAll_z (tag : Nat) (v1 : Int32) (F : Nat → Int32) (A : Nat → Int32 → Int32) : lp_runDepthFirstAll 0 tag v1 F A = none := Eq.trans rfl rfl
theorem lp_runDepthFirstAll_2 (n : Nat) (v1 : Int32) (F : Nat → Int32) (A : Nat → Int32 → Int32) : lp_runDepthFirstAll (n + 1) 2 v1 F A = (if v1 < (F 0) then (if v1 < (16 : Int32) then (if (¬ v1 < 0) then (if ((A 1) v1) = 0 then lp_runDepthFirstAll n 2 (v1 + (1 : Int32)) F A else (if ((en_walkFrom F A v1).isSome = true) then (if (R_walkFrom F A v1).1 = 0 then some ((0 : Int32), (R_walkFrom F A v1).2.1, (R_walkFrom F A v1).2.2) else lp_runDepthFirstAll n 2 (v1 + (1 : Int32)) (R_walkFrom F A v1).2.1 (R_walkFrom F A v1).2.2) else none)) else none) else some ((1 : Int32), F, A)) else some ((1 : Int32), F, A)) := by
  rw [lp_runDepthFirstAll, if_pos rfl]
set_option maxRecDepth 65536 in
set_option maxHeartbeats 4000000 in
theorem lpw_runDepthFirstAll {l : Launch} {Z : State} {a0 : Array Value} (H : OK Z a0) (G : Nat → Int64) (B : Nat → Int32 → Int64) : ∀ (n : Nat) (v1 : Int32) (F : Nat → Int32) (A : Nat → Int32 → Int32) (r : Int32 × (Nat → Int32) × (Nat → Int32 → Int32)), (lp_runDepthFirstAll n 2 v1 F A = some r → Wk l Z (MoC Z cdC) md_runDepthFirstAll 2 [.val (.ref 0), .val (.int v1)] [] (10, F, G, A, B) 0 0 (fun v w' => v = some (.int r.1) ∧ w' = (10, r.2.1, G, r.2.2, B))) := by
  intro n
  induction n with
  | zero =>
    intro v1 F A r
    exact (fun h => by rw [lp_runDepthFirstAll_z] at h; cases h)
  | succ n ih =>
    intro v1 F A r
    refine fun h => ?_
    · rw [lp_runDepthFirstAll_2] at h
      exact wp_runDepthFirstAll_2 H F G A B v1 (fun q1 => (rt_runDepthFirstAll _ _ _ _ _ r (Option.some.inj (ifn q1 h)))) (fun q1 q3 => (rt_runDepthFirstAll _ _ _ _ _ r (Option.some.inj (ifn q3 (ifp q1 h))))) (fun q1 q3 => (gd (ifp q3 (ifp q1 h))).1) (fun q1 q3 q6 => (ih _ _ _ _) (ifp q6 (gd (ifp q3 (ifp q1 h))).2)) (fun q1 q3 q6 => (gd (ifn q6 (gd (ifp q3 (ifp q1 h))).2)).1) (fun q1 q3 q6 q9 => (ih _ _ _ _) (ifn q9 (gd (ifn q6 (gd (ifp q3 (ifp q1 h))).2)).2)) (fun q1 q3 q6 q9 => (rt_runDepthFirstAll _ _ _ _ _ r (Option.some.inj (ifp q9 (gd (ifn q6 (gd (ifp q3 (ifp q1 h))).2)).2))))
def en_runDepthFirstAll (F : Nat → Int32) (A : Nat → Int32 → Int32) : Option (Int32 × (Nat → Int32) × (Nat → Int32 → Int32)) := lp_runDepthFirstAll 1000 2 (0 : Int32) F A
theorem een_runDepthFirstAll (F : Nat → Int32) (A : Nat → Int32 → Int32) : en_runDepthFirstAll F A  = lp_runDepthFirstAll 1000 2 (0 : Int32) F A := Eq.trans rfl rfl
def R_runDepthFirstAll (F : Nat → Int32) (A : Nat → Int32 → Int32) : Int32 × (Nat → Int32) × (Nat → Int32 → Int32) := (en_runDepthFirstAll F A ).getD (0, (fun _ => 0), (fun _ _ => 0))
theorem eR_runDepthFirstAll (F : Nat → Int32) (A : Nat → Int32 → Int32) : R_runDepthFirstAll F A  = (en_runDepthFirstAll F A ).getD (0, (fun _ => 0), (fun _ _ => 0)) := Eq.trans rfl rfl
set_option maxRecDepth 65536 in
set_option maxHeartbeats 4000000 in
theorem run_runDepthFirstAll {l : Launch} {Z : State} {a0 : Array Value} (H : OK Z a0) (F : Nat → Int32) (G : Nat → Int64) (A : Nat → Int32 → Int32) (B : Nat → Int32 → Int64) (e1 : (en_runDepthFirstAll F A ).isSome = true) :
    Wk l Z (MoC Z cdC) md_runDepthFirstAll 0 [.val (.ref 0), .unset] [] (10, F, G, A, B) 0 0 (fun v w' => v = some (.int (R_runDepthFirstAll F A ).1) ∧ w' = (10, (R_runDepthFirstAll F A ).2.1, G, (R_runDepthFirstAll F A ).2.2, B)) := by
  obtain ⟨r, h⟩ := Option.isSome_iff_exists.mp e1
  have e : R_runDepthFirstAll F A  = r := (eR_runDepthFirstAll F A ).trans (getD_some h)
  rw [e]
  rw [een_runDepthFirstAll] at h
  exact wp_runDepthFirstAll H F G A B  ((lpw_runDepthFirstAll H G B _ _ _ _ _) h)
set_option maxRecDepth 65536 in
set_option maxHeartbeats 4000000 in
theorem wp_appendRoot {l : Launch} {Z : State} {a0 : Array Value} (H : OK Z a0) (F : Nat → Int32) (G : Nat → Int64) (A : Nat → Int32 → Int32) (B : Nat → Int32 → Int64) (p1 : Int32) {Q : Option Value → WO → Prop} (h2 : ¬ (F 9) < (F 2) → Q (some (.int (0 : Int32))) (10, F, G, A, B)) (s4 : (F 9) < (F 2) → (F 9) < (64 : Int32) → ¬ ((F 9) * (16 : Int32)) < 0) (s5 : (F 9) < (F 2) → (F 9) < (64 : Int32) → ((F 9) * (16 : Int32)) < (1024 : Int32)) (s6 : (F 9) < (F 2) → (F 9) < (64 : Int32) → ¬ (F 9) < 0) (h7 : (F 9) < (F 2) → (F 9) < (64 : Int32) → Q (some (.int (1 : Int32))) (10, (ups F 9 ((F 9) + (1 : Int32))), G, (ups (ups (ups (ups A 5 (ups (A 5) ((F 9) * (16 : Int32)) p1)) 2 (ups (A 2) (F 9) p1)) 3 (ups (A 3) (F 9) (0 : Int32))) 4 (ups (A 4) (F 9) (0 : Int32))), B)) (h8 : (F 9) < (F 2) → ¬ (F 9) < (64 : Int32) → Q (some (.int (0 : Int32))) (10, F, G, A, B)) :
    Wk l Z (MoC Z cdC) md_appendRoot 0 [.val (.ref 0), .val (.int p1)] [] (10, F, G, A, B) 0 0 Q := by
  refine Wk.aloadN o_appendRoot_0 rfl ?_
  refine Wk.getI (mI_count) (wf_count H) o_appendRoot_1 (x := (F 9)) rfl ?_
  refine Wk.aloadN o_appendRoot_4 rfl ?_
  refine Wk.getI (mI_rowLimit) (wf_rowLimit H) o_appendRoot_5 (x := (F 2)) rfl ?_
  refine Wk.icmp_ge o_appendRoot_8 (fun q1 => ?_) (fun q1 => ?_)
  · refine Wk.iconst o_appendRoot_20 (z := (0 : Int32)) (by decide) ?_
    exact Wk.zreturn mrC rfl o_appendRoot_21 rfl (by decide) (by decide) (y := (0 : Int32)) (by decide) (h2 q1)
  · refine Wk.aloadN o_appendRoot_11 rfl ?_
    refine Wk.getI (mI_count) (wf_count H) o_appendRoot_12 (x := (F 9)) rfl ?_
    refine Wk.bipush o_appendRoot_15 (z := (64 : Int32)) (by decide) ?_
    refine Wk.icmp_lt o_appendRoot_17 (fun q3 => ?_) (fun q3 => ?_)
    · refine Wk.aloadN o_appendRoot_22 rfl ?_
      refine Wk.getA (mA_rowPathA) (by decide) (i' := 6) rfl (wf_rowPathA H) o_appendRoot_23 ?_
      refine Wk.aloadN o_appendRoot_26 rfl ?_
      refine Wk.getI (mI_count) (wf_count H) o_appendRoot_27 (x := (F 9)) rfl ?_
      refine Wk.bipush o_appendRoot_30 (z := (16 : Int32)) (by decide) ?_
      refine Wk.imul o_appendRoot_32 ?_
      refine Wk.iloadN o_appendRoot_33 rfl ?_
      refine Wk.iastore (coC H) (f := (A 5)) (mA_rowPathA) rfl (by decide) (i' := 6) rfl (s4 q1 q3) (s5 q1 q3) o_appendRoot_34 ?_
      refine Wk.aloadN o_appendRoot_35 rfl ?_
      refine Wk.getA (mA_rowNodeA) (by decide) (i' := 3) rfl (wf_rowNodeA H) o_appendRoot_36 ?_
      refine Wk.aloadN o_appendRoot_39 rfl ?_
      refine Wk.getI (mI_count) (wf_count H) o_appendRoot_40 (x := (F 9)) rfl ?_
      refine Wk.iloadN o_appendRoot_43 rfl ?_
      refine Wk.iastore (coC H) (f := (A 2)) (mA_rowNodeA) rfl (by decide) (i' := 3) rfl (s6 q1 q3) q3 o_appendRoot_44 ?_
      refine Wk.aloadN o_appendRoot_45 rfl ?_
      refine Wk.getA (mA_rowDepthA) (by decide) (i' := 4) rfl (wf_rowDepthA H) o_appendRoot_46 ?_
      refine Wk.aloadN o_appendRoot_49 rfl ?_
      refine Wk.getI (mI_count) (wf_count H) o_appendRoot_50 (x := (F 9)) rfl ?_
      refine Wk.iconst o_appendRoot_53 (z := (0 : Int32)) (by decide) ?_
      refine Wk.iastore (coC H) (f := (A 3)) (mA_rowDepthA) rfl (by decide) (i' := 4) rfl (s6 q1 q3) q3 o_appendRoot_54 ?_
      refine Wk.aloadN o_appendRoot_55 rfl ?_
      refine Wk.getA (mA_rowCycA) (by decide) (i' := 5) rfl (wf_rowCycA H) o_appendRoot_56 ?_
      refine Wk.aloadN o_appendRoot_59 rfl ?_
      refine Wk.getI (mI_count) (wf_count H) o_appendRoot_60 (x := (F 9)) rfl ?_
      refine Wk.iconst o_appendRoot_63 (z := (0 : Int32)) (by decide) ?_
      refine Wk.bastore (coC H) (f := (A 4)) (v' := (0 : Int32)) (by decide) (mA_rowCycA) rfl (by decide) (i' := 5) rfl (s6 q1 q3) q3 o_appendRoot_64 ?_
      refine Wk.aloadN o_appendRoot_65 rfl ?_
      refine Wk.dup o_appendRoot_66 rfl ?_
      refine Wk.getI (mI_count) (wf_count H) o_appendRoot_67 (x := (F 9)) rfl ?_
      refine Wk.iconst o_appendRoot_70 (z := (1 : Int32)) (by decide) ?_
      refine Wk.iadd o_appendRoot_71 ?_
      refine Wk.putI (coC H) (mI_count) (wf_count H) (Or.inl (wy_count H)) o_appendRoot_72 ?_
      refine Wk.iconst o_appendRoot_75 (z := (1 : Int32)) (by decide) ?_
      exact Wk.zreturn mrC rfl o_appendRoot_76 rfl (by decide) (by decide) (y := (1 : Int32)) (by decide) (h7 q1 q3)
    · refine Wk.iconst o_appendRoot_20 (z := (0 : Int32)) (by decide) ?_
      exact Wk.zreturn mrC rfl o_appendRoot_21 rfl (by decide) (by decide) (y := (0 : Int32)) (by decide) (h8 q1 q3)

theorem rt_appendRoot (G : Nat → Int64) (B : Nat → Int32 → Int64) (v0 : Int32) (xF : Nat → Int32) (xA : Nat → Int32 → Int32) (r : Int32 × (Nat → Int32) × (Nat → Int32 → Int32)) (e : (v0, xF, xA) = r) : some (Value.int v0) = some (.int r.1) ∧ (10, xF, G, xA, B) = (10, r.2.1, G, r.2.2, B) := by subst e; exact ⟨rfl, rfl⟩
def en_appendRoot (F : Nat → Int32) (A : Nat → Int32 → Int32) (p1 : Int32) : Option (Int32 × (Nat → Int32) × (Nat → Int32 → Int32)) := (if (F 9) < (F 2) then (if (F 9) < (64 : Int32) then (if (¬ ((F 9) * (16 : Int32)) < 0) ∧ (((F 9) * (16 : Int32)) < (1024 : Int32)) ∧ (¬ (F 9) < 0) then some ((1 : Int32), (ups F 9 ((F 9) + (1 : Int32))), (ups (ups (ups (ups A 5 (ups (A 5) ((F 9) * (16 : Int32)) p1)) 2 (ups (A 2) (F 9) p1)) 3 (ups (A 3) (F 9) (0 : Int32))) 4 (ups (A 4) (F 9) (0 : Int32)))) else none) else some ((0 : Int32), F, A)) else some ((0 : Int32), F, A))
theorem een_appendRoot (F : Nat → Int32) (A : Nat → Int32 → Int32) (p1 : Int32) : en_appendRoot F A p1 = (if (F 9) < (F 2) then (if (F 9) < (64 : Int32) then (if (¬ ((F 9) * (16 : Int32)) < 0) ∧ (((F 9) * (16 : Int32)) < (1024 : Int32)) ∧ (¬ (F 9) < 0) then some ((1 : Int32), (ups F 9 ((F 9) + (1 : Int32))), (ups (ups (ups (ups A 5 (ups (A 5) ((F 9) * (16 : Int32)) p1)) 2 (ups (A 2) (F 9) p1)) 3 (ups (A 3) (F 9) (0 : Int32))) 4 (ups (A 4) (F 9) (0 : Int32)))) else none) else some ((0 : Int32), F, A)) else some ((0 : Int32), F, A)) := Eq.trans rfl rfl
def R_appendRoot (F : Nat → Int32) (A : Nat → Int32 → Int32) (p1 : Int32) : Int32 × (Nat → Int32) × (Nat → Int32 → Int32) := (en_appendRoot F A p1).getD (0, (fun _ => 0), (fun _ _ => 0))
theorem eR_appendRoot (F : Nat → Int32) (A : Nat → Int32 → Int32) (p1 : Int32) : R_appendRoot F A p1 = (en_appendRoot F A p1).getD (0, (fun _ => 0), (fun _ _ => 0)) := Eq.trans rfl rfl
set_option maxRecDepth 65536 in
set_option maxHeartbeats 4000000 in
theorem run_appendRoot {l : Launch} {Z : State} {a0 : Array Value} (H : OK Z a0) (F : Nat → Int32) (G : Nat → Int64) (A : Nat → Int32 → Int32) (B : Nat → Int32 → Int64) (p1 : Int32) (e1 : (en_appendRoot F A p1).isSome = true) :
    Wk l Z (MoC Z cdC) md_appendRoot 0 [.val (.ref 0), .val (.int p1)] [] (10, F, G, A, B) 0 0 (fun v w' => v = some (.int (R_appendRoot F A p1).1) ∧ w' = (10, (R_appendRoot F A p1).2.1, G, (R_appendRoot F A p1).2.2, B)) := by
  obtain ⟨r, h⟩ := Option.isSome_iff_exists.mp e1
  have e : R_appendRoot F A p1 = r := (eR_appendRoot F A p1).trans (getD_some h)
  rw [e]
  rw [een_appendRoot] at h
  exact wp_appendRoot H F G A B p1 (fun q1 => (rt_appendRoot _ _ _ _ _ r (Option.some.inj (ifn q1 h)))) (fun q1 q3 => (gd (ifp q3 (ifp q1 h))).1.1) (fun q1 q3 => (gd (ifp q3 (ifp q1 h))).1.2.1) (fun q1 q3 => (gd (ifp q3 (ifp q1 h))).1.2.2) (fun q1 q3 => (rt_appendRoot _ _ _ _ _ r (Option.some.inj (gd (ifp q3 (ifp q1 h))).2))) (fun q1 q3 => (rt_appendRoot _ _ _ _ _ r (Option.some.inj (ifn q3 (ifp q1 h)))))
set_option maxRecDepth 65536 in
set_option maxHeartbeats 4000000 in
theorem wp_pathContains {l : Launch} {Z : State} {a0 : Array Value} (H : OK Z a0) (F : Nat → Int32) (G : Nat → Int64) (A : Nat → Int32 → Int32) (B : Nat → Int32 → Int64) (p1 : Int32) (p2 : Int32) {Q : Option Value → WO → Prop} (s1 : ¬ p1 < 0) (s2 : p1 < (64 : Int32)) (h3 : Wk l Z (MoC Z cdC) md_pathContains 16 [.val (.ref 0), .unset, .val (.int p2), .val (.int ((A 3) p1)), .val (.int (p1 * (16 : Int32))), .val (.int (0 : Int32))] [] (10, F, G, A, B) 0 0 Q) :
    Wk l Z (MoC Z cdC) md_pathContains 0 [.val (.ref 0), .val (.int p1), .val (.int p2), .unset, .unset, .unset] [] (10, F, G, A, B) 0 0 Q := by
  refine Wk.aloadN o_pathContains_0 rfl ?_
  refine Wk.getA (mA_rowDepthA) (by decide) (i' := 4) rfl (wf_rowDepthA H) o_pathContains_1 ?_
  refine Wk.iloadN o_pathContains_4 rfl ?_
  refine Wk.iaload (mA_rowDepthA) (by decide) (i' := 4) rfl s1 s2 o_pathContains_5 (y := ((A 3) p1)) rfl ?_
  refine Wk.istoreN o_pathContains_6 (Or.inl rfl) (L' := [.val (.ref 0), .val (.int p1), .val (.int p2), .val (.int ((A 3) p1)), .unset, .unset]) rfl ?_
  refine Wk.iloadN o_pathContains_7 rfl ?_
  refine Wk.bipush o_pathContains_8 (z := (16 : Int32)) (by decide) ?_
  refine Wk.imul o_pathContains_10 ?_
  refine Wk.istore o_pathContains_11 (Or.inl rfl) (L' := [.val (.ref 0), .val (.int p1), .val (.int p2), .val (.int ((A 3) p1)), .val (.int (p1 * (16 : Int32))), .unset]) rfl ?_
  refine Wk.iconst o_pathContains_13 (z := (0 : Int32)) (by decide) ?_
  refine Wk.istore o_pathContains_14 (Or.inl rfl) (L' := [.val (.ref 0), .val (.int p1), .val (.int p2), .val (.int ((A 3) p1)), .val (.int (p1 * (16 : Int32))), .val (.int (0 : Int32))]) rfl ?_
  refine Wk.forget [false, true, false, false, false, false] (L' := [.val (.ref 0), .unset, .val (.int p2), .val (.int ((A 3) p1)), .val (.int (p1 * (16 : Int32))), .val (.int (0 : Int32))]) rfl rfl ?_
  exact h3

set_option maxRecDepth 65536 in
set_option maxHeartbeats 4000000 in
theorem wp_pathContains_16 {l : Launch} {Z : State} {a0 : Array Value} (H : OK Z a0) (F : Nat → Int32) (G : Nat → Int64) (A : Nat → Int32 → Int32) (B : Nat → Int32 → Int64) (v2 : Int32) (v3 : Int32) (v4 : Int32) (v5 : Int32) {Q : Option Value → WO → Prop} (h2 : v3 < v5 → Q (some (.int (0 : Int32))) (10, F, G, A, B)) (h4 : ¬ v3 < v5 → ¬ v5 < (16 : Int32) → Q (some (.int (0 : Int32))) (10, F, G, A, B)) (s5 : ¬ v3 < v5 → v5 < (16 : Int32) → ¬ (v4 + v5) < 0) (s6 : ¬ v3 < v5 → v5 < (16 : Int32) → (v4 + v5) < (1024 : Int32)) (h8 : ¬ v3 < v5 → v5 < (16 : Int32) → ¬ ((A 5) (v4 + v5)) = v2 → Wk l Z (MoC Z cdC) md_pathContains 16 [.val (.ref 0), .unset, .val (.int v2), .val (.int v3), .val (.int v4), .val (.int (v5 + (1 : Int32)))] [] (10, F, G, A, B) 0 0 Q) (h9 : ¬ v3 < v5 → v5 < (16 : Int32) → ((A 5) (v4 + v5)) = v2 → Q (some (.int (1 : Int32))) (10, F, G, A, B)) :
    Wk l Z (MoC Z cdC) md_pathContains 16 [.val (.ref 0), .unset, .val (.int v2), .val (.int v3), .val (.int v4), .val (.int v5)] [] (10, F, G, A, B) 0 0 Q := by
  refine Wk.iload o_pathContains_16 rfl ?_
  refine Wk.iloadN o_pathContains_18 rfl ?_
  refine Wk.icmp_gt o_pathContains_19 (fun q1 => ?_) (fun q1 => ?_)
  · refine Wk.iconst o_pathContains_51 (z := (0 : Int32)) (by decide) ?_
    exact Wk.zreturn mrC rfl o_pathContains_52 rfl (by decide) (by decide) (y := (0 : Int32)) (by decide) (h2 q1)
  · refine Wk.iload o_pathContains_22 rfl ?_
    refine Wk.bipush o_pathContains_24 (z := (16 : Int32)) (by decide) ?_
    refine Wk.icmp_ge o_pathContains_26 (fun q3 => ?_) (fun q3 => ?_)
    · refine Wk.iconst o_pathContains_51 (z := (0 : Int32)) (by decide) ?_
      exact Wk.zreturn mrC rfl o_pathContains_52 rfl (by decide) (by decide) (y := (0 : Int32)) (by decide) (h4 q1 q3)
    · refine Wk.aloadN o_pathContains_29 rfl ?_
      refine Wk.getA (mA_rowPathA) (by decide) (i' := 6) rfl (wf_rowPathA H) o_pathContains_30 ?_
      refine Wk.iload o_pathContains_33 rfl ?_
      refine Wk.iload o_pathContains_35 rfl ?_
      refine Wk.iadd o_pathContains_37 ?_
      refine Wk.iaload (mA_rowPathA) (by decide) (i' := 6) rfl (s5 q1 q3) (s6 q1 q3) o_pathContains_38 (y := ((A 5) (v4 + v5))) rfl ?_
      refine Wk.iloadN o_pathContains_39 rfl ?_
      refine Wk.icmp_ne o_pathContains_40 (fun q7 => ?_) (fun q7 => ?_)
      · refine Wk.iinc o_pathContains_45 rfl (z := (v5 + (1 : Int32))) rfl (L' := [.val (.ref 0), .unset, .val (.int v2), .val (.int v3), .val (.int v4), .val (.int (v5 + (1 : Int32)))]) rfl ?_
        refine Wk.goto o_pathContains_48 ?_
        exact (h8 q1 q3 q7)
      · refine Wk.iconst o_pathContains_43 (z := (1 : Int32)) (by decide) ?_
        exact Wk.zreturn mrC rfl o_pathContains_44 rfl (by decide) (by decide) (y := (1 : Int32)) (by decide) (h9 q1 q3 q7)

theorem rt_pathContains (F : Nat → Int32) (G : Nat → Int64) (A : Nat → Int32 → Int32) (B : Nat → Int32 → Int64) (v0 : Int32) (r : Int32) (e : v0 = r) : some (Value.int v0) = some (.int r) ∧ (10, F, G, A, B) = (10, F, G, A, B) := by subst e; exact ⟨rfl, rfl⟩
def lp_pathContains : Nat → Nat → Int32 → Int32 → Int32 → Int32 → (Nat → Int32 → Int32) → Option (Int32)
  | 0, _, _, _, _, _, _ => none
  | n + 1, tag, v2, v3, v4, v5, A => if tag = 16 then (if v3 < v5 then some ((0 : Int32)) else (if v5 < (16 : Int32) then (if (¬ (v4 + v5) < 0) ∧ ((v4 + v5) < (1024 : Int32)) then (if ((A 5) (v4 + v5)) = v2 then some ((1 : Int32)) else lp_pathContains n 16 v2 v3 v4 (v5 + (1 : Int32)) A) else none) else some ((0 : Int32)))) else none
theorem lp_pathContains_z (tag : Nat) (v2 : Int32) (v3 : Int32) (v4 : Int32) (v5 : Int32) (A : Nat → Int32 → Int32) : lp_pathContains 0 tag v2 v3 v4 v5 A = none := Eq.trans rfl rfl
theorem lp_pathContains_16 (n : Nat) (v2 : Int32) (v3 : Int32) (v4 : Int32) (v5 : Int32) (A : Nat → Int32 → Int32) : lp_pathContains (n + 1) 16 v2 v3 v4 v5 A = (if v3 < v5 then some ((0 : Int32)) else (if v5 < (16 : Int32) then (if (¬ (v4 + v5) < 0) ∧ ((v4 + v5) < (1024 : Int32)) then (if ((A 5) (v4 + v5)) = v2 then some ((1 : Int32)) else lp_pathContains n 16 v2 v3 v4 (v5 + (1 : Int32)) A) else none) else some ((0 : Int32)))) := by
  rw [lp_pathContains, if_pos rfl]
set_option maxRecDepth 65536 in
set_option maxHeartbeats 4000000 in
theorem lpw_pathContains {l : Launch} {Z : State} {a0 : Array Value} (H : OK Z a0) (F : Nat → Int32) (G : Nat → Int64) (A : Nat → Int32 → Int32) (B : Nat → Int32 → Int64) : ∀ (n : Nat) (v2 : Int32) (v3 : Int32) (v4 : Int32) (v5 : Int32) (r : Int32), (lp_pathContains n 16 v2 v3 v4 v5 A = some r → Wk l Z (MoC Z cdC) md_pathContains 16 [.val (.ref 0), .unset, .val (.int v2), .val (.int v3), .val (.int v4), .val (.int v5)] [] (10, F, G, A, B) 0 0 (fun v w' => v = some (.int r) ∧ w' = (10, F, G, A, B))) := by
  intro n
  induction n with
  | zero =>
    intro v2 v3 v4 v5  r
    exact (fun h => by rw [lp_pathContains_z] at h; cases h)
  | succ n ih =>
    intro v2 v3 v4 v5  r
    refine fun h => ?_
    · rw [lp_pathContains_16] at h
      exact wp_pathContains_16 H F G A B v2 v3 v4 v5 (fun q1 => (rt_pathContains _ _ _ _ _ r (Option.some.inj (ifp q1 h)))) (fun q1 q3 => (rt_pathContains _ _ _ _ _ r (Option.some.inj (ifn q3 (ifn q1 h))))) (fun q1 q3 => (gd (ifp q3 (ifn q1 h))).1.1) (fun q1 q3 => (gd (ifp q3 (ifn q1 h))).1.2) (fun q1 q3 q7 => (ih _ _ _ _ _) (ifn q7 (gd (ifp q3 (ifn q1 h))).2)) (fun q1 q3 q7 => (rt_pathContains _ _ _ _ _ r (Option.some.inj (ifp q7 (gd (ifp q3 (ifn q1 h))).2))))
def en_pathContains (A : Nat → Int32 → Int32) (p1 : Int32) (p2 : Int32) : Option (Int32) := (if (¬ p1 < 0) ∧ (p1 < (64 : Int32)) then lp_pathContains 1000 16 p2 ((A 3) p1) (p1 * (16 : Int32)) (0 : Int32) A else none)
theorem een_pathContains (A : Nat → Int32 → Int32) (p1 : Int32) (p2 : Int32) : en_pathContains A p1 p2 = (if (¬ p1 < 0) ∧ (p1 < (64 : Int32)) then lp_pathContains 1000 16 p2 ((A 3) p1) (p1 * (16 : Int32)) (0 : Int32) A else none) := Eq.trans rfl rfl
def R_pathContains (A : Nat → Int32 → Int32) (p1 : Int32) (p2 : Int32) : Int32 := (en_pathContains A p1 p2).getD (0)
theorem eR_pathContains (A : Nat → Int32 → Int32) (p1 : Int32) (p2 : Int32) : R_pathContains A p1 p2 = (en_pathContains A p1 p2).getD (0) := Eq.trans rfl rfl
set_option maxRecDepth 65536 in
set_option maxHeartbeats 4000000 in
theorem run_pathContains {l : Launch} {Z : State} {a0 : Array Value} (H : OK Z a0) (F : Nat → Int32) (G : Nat → Int64) (A : Nat → Int32 → Int32) (B : Nat → Int32 → Int64) (p1 : Int32) (p2 : Int32) (e1 : (en_pathContains A p1 p2).isSome = true) :
    Wk l Z (MoC Z cdC) md_pathContains 0 [.val (.ref 0), .val (.int p1), .val (.int p2), .unset, .unset, .unset] [] (10, F, G, A, B) 0 0 (fun v w' => v = some (.int (R_pathContains A p1 p2)) ∧ w' = (10, F, G, A, B)) := by
  obtain ⟨r, h⟩ := Option.isSome_iff_exists.mp e1
  have e : R_pathContains A p1 p2 = r := (eR_pathContains A p1 p2).trans (getD_some h)
  rw [e]
  rw [een_pathContains] at h
  exact wp_pathContains H F G A B p1 p2 ((gd h).1.1) ((gd h).1.2) ((lpw_pathContains H F G A B _ _ _ _ _ _) (gd h).2)
set_option maxRecDepth 65536 in
set_option maxHeartbeats 4000000 in
theorem wp_appendChild {l : Launch} {Z : State} {a0 : Array Value} (H : OK Z a0) (F : Nat → Int32) (G : Nat → Int64) (A : Nat → Int32 → Int32) (B : Nat → Int32 → Int64) (p1 : Int32) (p2 : Int32) (p3 : Int32) {Q : Option Value → WO → Prop} (h2 : ¬ (F 9) < (F 2) → Q (some (.int (0 : Int32))) (10, F, G, A, B)) (s4 : (F 9) < (F 2) → (F 9) < (64 : Int32) → ¬ p1 < 0) (s5 : (F 9) < (F 2) → (F 9) < (64 : Int32) → p1 < (64 : Int32)) (h7 : (F 9) < (F 2) → (F 9) < (64 : Int32) → ((A 3) p1) < (15 : Int32) → Wk l Z (MoC Z cdC) md_appendChild 57 [.val (.ref 0), .unset, .val (.int p2), .val (.int p3), .val (.int ((A 3) p1)), .val (.int (p1 * (16 : Int32))), .val (.int ((F 9) * (16 : Int32))), .val (.int (0 : Int32))] [] (10, F, G, A, B) 0 0 Q) (h8 : (F 9) < (F 2) → (F 9) < (64 : Int32) → ¬ ((A 3) p1) < (15 : Int32) → Q (some (.int (0 : Int32))) (10, F, G, A, B)) (h9 : (F 9) < (F 2) → ¬ (F 9) < (64 : Int32) → Q (some (.int (0 : Int32))) (10, F, G, A, B)) :
    Wk l Z (MoC Z cdC) md_appendChild 0 [.val (.ref 0), .val (.int p1), .val (.int p2), .val (.int p3), .unset, .unset, .unset, .unset] [] (10, F, G, A, B) 0 0 Q := by
  refine Wk.aloadN o_appendChild_0 rfl ?_
  refine Wk.getI (mI_count) (wf_count H) o_appendChild_1 (x := (F 9)) rfl ?_
  refine Wk.aloadN o_appendChild_4 rfl ?_
  refine Wk.getI (mI_rowLimit) (wf_rowLimit H) o_appendChild_5 (x := (F 2)) rfl ?_
  refine Wk.icmp_ge o_appendChild_8 (fun q1 => ?_) (fun q1 => ?_)
  · refine Wk.iconst o_appendChild_20 (z := (0 : Int32)) (by decide) ?_
    exact Wk.zreturn mrC rfl o_appendChild_21 rfl (by decide) (by decide) (y := (0 : Int32)) (by decide) (h2 q1)
  · refine Wk.aloadN o_appendChild_11 rfl ?_
    refine Wk.getI (mI_count) (wf_count H) o_appendChild_12 (x := (F 9)) rfl ?_
    refine Wk.bipush o_appendChild_15 (z := (64 : Int32)) (by decide) ?_
    refine Wk.icmp_lt o_appendChild_17 (fun q3 => ?_) (fun q3 => ?_)
    · refine Wk.aloadN o_appendChild_22 rfl ?_
      refine Wk.getA (mA_rowDepthA) (by decide) (i' := 4) rfl (wf_rowDepthA H) o_appendChild_23 ?_
      refine Wk.iloadN o_appendChild_26 rfl ?_
      refine Wk.iaload (mA_rowDepthA) (by decide) (i' := 4) rfl (s4 q1 q3) (s5 q1 q3) o_appendChild_27 (y := ((A 3) p1)) rfl ?_
      refine Wk.istore o_appendChild_28 (Or.inl rfl) (L' := [.val (.ref 0), .val (.int p1), .val (.int p2), .val (.int p3), .val (.int ((A 3) p1)), .unset, .unset, .unset]) rfl ?_
      refine Wk.iload o_appendChild_30 rfl ?_
      refine Wk.bipush o_appendChild_32 (z := (15 : Int32)) (by decide) ?_
      refine Wk.icmp_lt o_appendChild_34 (fun q6 => ?_) (fun q6 => ?_)
      · refine Wk.iloadN o_appendChild_39 rfl ?_
        refine Wk.bipush o_appendChild_40 (z := (16 : Int32)) (by decide) ?_
        refine Wk.imul o_appendChild_42 ?_
        refine Wk.istore o_appendChild_43 (Or.inl rfl) (L' := [.val (.ref 0), .val (.int p1), .val (.int p2), .val (.int p3), .val (.int ((A 3) p1)), .val (.int (p1 * (16 : Int32))), .unset, .unset]) rfl ?_
        refine Wk.aloadN o_appendChild_45 rfl ?_
        refine Wk.getI (mI_count) (wf_count H) o_appendChild_46 (x := (F 9)) rfl ?_
        refine Wk.bipush o_appendChild_49 (z := (16 : Int32)) (by decide) ?_
        refine Wk.imul o_appendChild_51 ?_
        refine Wk.istore o_appendChild_52 (Or.inl rfl) (L' := [.val (.ref 0), .val (.int p1), .val (.int p2), .val (.int p3), .val (.int ((A 3) p1)), .val (.int (p1 * (16 : Int32))), .val (.int ((F 9) * (16 : Int32))), .unset]) rfl ?_
        refine Wk.iconst o_appendChild_54 (z := (0 : Int32)) (by decide) ?_
        refine Wk.istore o_appendChild_55 (Or.inl rfl) (L' := [.val (.ref 0), .val (.int p1), .val (.int p2), .val (.int p3), .val (.int ((A 3) p1)), .val (.int (p1 * (16 : Int32))), .val (.int ((F 9) * (16 : Int32))), .val (.int (0 : Int32))]) rfl ?_
        refine Wk.forget [false, true, false, false, false, false, false, false] (L' := [.val (.ref 0), .unset, .val (.int p2), .val (.int p3), .val (.int ((A 3) p1)), .val (.int (p1 * (16 : Int32))), .val (.int ((F 9) * (16 : Int32))), .val (.int (0 : Int32))]) rfl rfl ?_
        exact (h7 q1 q3 q6)
      · refine Wk.iconst o_appendChild_37 (z := (0 : Int32)) (by decide) ?_
        exact Wk.zreturn mrC rfl o_appendChild_38 rfl (by decide) (by decide) (y := (0 : Int32)) (by decide) (h8 q1 q3 q6)
    · refine Wk.iconst o_appendChild_20 (z := (0 : Int32)) (by decide) ?_
      exact Wk.zreturn mrC rfl o_appendChild_21 rfl (by decide) (by decide) (y := (0 : Int32)) (by decide) (h9 q1 q3)

set_option maxRecDepth 65536 in
set_option maxHeartbeats 4000000 in
theorem wp_appendChild_57 {l : Launch} {Z : State} {a0 : Array Value} (H : OK Z a0) (F : Nat → Int32) (G : Nat → Int64) (A : Nat → Int32 → Int32) (B : Nat → Int32 → Int64) (v2 : Int32) (v3 : Int32) (v4 : Int32) (v5 : Int32) (v6 : Int32) (v7 : Int32) {Q : Option Value → WO → Prop} (s2 : v4 < v7 → ¬ ((v6 + v4) + (1 : Int32)) < 0) (s3 : v4 < v7 → ((v6 + v4) + (1 : Int32)) < (1024 : Int32)) (s4 : v4 < v7 → ¬ (F 9) < 0) (s5 : v4 < v7 → (F 9) < (64 : Int32)) (h6 : v4 < v7 → Q (some (.int (1 : Int32))) (10, (ups F 9 ((F 9) + (1 : Int32))), G, (ups (ups (ups (ups A 5 (ups (A 5) ((v6 + v4) + (1 : Int32)) v2)) 2 (ups (A 2) (F 9) v2)) 3 (ups (A 3) (F 9) (v4 + (1 : Int32)))) 4 (ups (A 4) (F 9) (nar .boolean v3))), B)) (s8 : ¬ v4 < v7 → ¬ v7 < (16 : Int32) → ¬ ((v6 + v4) + (1 : Int32)) < 0) (s9 : ¬ v4 < v7 → ¬ v7 < (16 : Int32) → ((v6 + v4) + (1 : Int32)) < (1024 : Int32)) (s10 : ¬ v4 < v7 → ¬ v7 < (16 : Int32) → ¬ (F 9) < 0) (s11 : ¬ v4 < v7 → ¬ v7 < (16 : Int32) → (F 9) < (64 : Int32)) (h12 : ¬ v4 < v7 → ¬ v7 < (16 : Int32) → Q (some (.int (1 : Int32))) (10, (ups F 9 ((F 9) + (1 : Int32))), G, (ups (ups (ups (ups A 5 (ups (A 5) ((v6 + v4) + (1 : Int32)) v2)) 2 (ups (A 2) (F 9) v2)) 3 (ups (A 3) (F 9) (v4 + (1 : Int32)))) 4 (ups (A 4) (F 9) (nar .boolean v3))), B)) (s13 : ¬ v4 < v7 → v7 < (16 : Int32) → ¬ (v5 + v7) < 0) (s14 : ¬ v4 < v7 → v7 < (16 : Int32) → (v5 + v7) < (1024 : Int32)) (s15 : ¬ v4 < v7 → v7 < (16 : Int32) → ¬ (v6 + v7) < 0) (s16 : ¬ v4 < v7 → v7 < (16 : Int32) → (v6 + v7) < (1024 : Int32)) (h17 : ¬ v4 < v7 → v7 < (16 : Int32) → Wk l Z (MoC Z cdC) md_appendChild 57 [.val (.ref 0), .unset, .val (.int v2), .val (.int v3), .val (.int v4), .val (.int v5), .val (.int v6), .val (.int (v7 + (1 : Int32)))] [] (10, F, G, (ups A 5 (ups (A 5) (v6 + v7) ((A 5) (v5 + v7)))), B) 0 0 Q) :
    Wk l Z (MoC Z cdC) md_appendChild 57 [.val (.ref 0), .unset, .val (.int v2), .val (.int v3), .val (.int v4), .val (.int v5), .val (.int v6), .val (.int v7)] [] (10, F, G, A, B) 0 0 Q := by
  refine Wk.iload o_appendChild_57 rfl ?_
  refine Wk.iload o_appendChild_59 rfl ?_
  refine Wk.icmp_gt o_appendChild_61 (fun q1 => ?_) (fun q1 => ?_)
  · refine Wk.aloadN o_appendChild_97 rfl ?_
    refine Wk.getA (mA_rowPathA) (by decide) (i' := 6) rfl (wf_rowPathA H) o_appendChild_98 ?_
    refine Wk.iload o_appendChild_101 rfl ?_
    refine Wk.iload o_appendChild_103 rfl ?_
    refine Wk.iadd o_appendChild_105 ?_
    refine Wk.iconst o_appendChild_106 (z := (1 : Int32)) (by decide) ?_
    refine Wk.iadd o_appendChild_107 ?_
    refine Wk.iloadN o_appendChild_108 rfl ?_
    refine Wk.iastore (coC H) (f := (A 5)) (mA_rowPathA) rfl (by decide) (i' := 6) rfl (s2 q1) (s3 q1) o_appendChild_109 ?_
    refine Wk.aloadN o_appendChild_110 rfl ?_
    refine Wk.getA (mA_rowNodeA) (by decide) (i' := 3) rfl (wf_rowNodeA H) o_appendChild_111 ?_
    refine Wk.aloadN o_appendChild_114 rfl ?_
    refine Wk.getI (mI_count) (wf_count H) o_appendChild_115 (x := (F 9)) rfl ?_
    refine Wk.iloadN o_appendChild_118 rfl ?_
    refine Wk.iastore (coC H) (f := (A 2)) (mA_rowNodeA) rfl (by decide) (i' := 3) rfl (s4 q1) (s5 q1) o_appendChild_119 ?_
    refine Wk.aloadN o_appendChild_120 rfl ?_
    refine Wk.getA (mA_rowDepthA) (by decide) (i' := 4) rfl (wf_rowDepthA H) o_appendChild_121 ?_
    refine Wk.aloadN o_appendChild_124 rfl ?_
    refine Wk.getI (mI_count) (wf_count H) o_appendChild_125 (x := (F 9)) rfl ?_
    refine Wk.iload o_appendChild_128 rfl ?_
    refine Wk.iconst o_appendChild_130 (z := (1 : Int32)) (by decide) ?_
    refine Wk.iadd o_appendChild_131 ?_
    refine Wk.iastore (coC H) (f := (A 3)) (mA_rowDepthA) rfl (by decide) (i' := 4) rfl (s4 q1) (s5 q1) o_appendChild_132 ?_
    refine Wk.aloadN o_appendChild_133 rfl ?_
    refine Wk.getA (mA_rowCycA) (by decide) (i' := 5) rfl (wf_rowCycA H) o_appendChild_134 ?_
    refine Wk.aloadN o_appendChild_137 rfl ?_
    refine Wk.getI (mI_count) (wf_count H) o_appendChild_138 (x := (F 9)) rfl ?_
    refine Wk.iloadN o_appendChild_141 rfl ?_
    refine Wk.bastore (coC H) (f := (A 4)) (v' := (nar .boolean v3)) rfl (mA_rowCycA) rfl (by decide) (i' := 5) rfl (s4 q1) (s5 q1) o_appendChild_142 ?_
    refine Wk.aloadN o_appendChild_143 rfl ?_
    refine Wk.dup o_appendChild_144 rfl ?_
    refine Wk.getI (mI_count) (wf_count H) o_appendChild_145 (x := (F 9)) rfl ?_
    refine Wk.iconst o_appendChild_148 (z := (1 : Int32)) (by decide) ?_
    refine Wk.iadd o_appendChild_149 ?_
    refine Wk.putI (coC H) (mI_count) (wf_count H) (Or.inl (wy_count H)) o_appendChild_150 ?_
    refine Wk.iconst o_appendChild_153 (z := (1 : Int32)) (by decide) ?_
    exact Wk.zreturn mrC rfl o_appendChild_154 rfl (by decide) (by decide) (y := (1 : Int32)) (by decide) (h6 q1)
  · refine Wk.iload o_appendChild_64 rfl ?_
    refine Wk.bipush o_appendChild_66 (z := (16 : Int32)) (by decide) ?_
    refine Wk.icmp_ge o_appendChild_68 (fun q7 => ?_) (fun q7 => ?_)
    · refine Wk.aloadN o_appendChild_97 rfl ?_
      refine Wk.getA (mA_rowPathA) (by decide) (i' := 6) rfl (wf_rowPathA H) o_appendChild_98 ?_
      refine Wk.iload o_appendChild_101 rfl ?_
      refine Wk.iload o_appendChild_103 rfl ?_
      refine Wk.iadd o_appendChild_105 ?_
      refine Wk.iconst o_appendChild_106 (z := (1 : Int32)) (by decide) ?_
      refine Wk.iadd o_appendChild_107 ?_
      refine Wk.iloadN o_appendChild_108 rfl ?_
      refine Wk.iastore (coC H) (f := (A 5)) (mA_rowPathA) rfl (by decide) (i' := 6) rfl (s8 q1 q7) (s9 q1 q7) o_appendChild_109 ?_
      refine Wk.aloadN o_appendChild_110 rfl ?_
      refine Wk.getA (mA_rowNodeA) (by decide) (i' := 3) rfl (wf_rowNodeA H) o_appendChild_111 ?_
      refine Wk.aloadN o_appendChild_114 rfl ?_
      refine Wk.getI (mI_count) (wf_count H) o_appendChild_115 (x := (F 9)) rfl ?_
      refine Wk.iloadN o_appendChild_118 rfl ?_
      refine Wk.iastore (coC H) (f := (A 2)) (mA_rowNodeA) rfl (by decide) (i' := 3) rfl (s10 q1 q7) (s11 q1 q7) o_appendChild_119 ?_
      refine Wk.aloadN o_appendChild_120 rfl ?_
      refine Wk.getA (mA_rowDepthA) (by decide) (i' := 4) rfl (wf_rowDepthA H) o_appendChild_121 ?_
      refine Wk.aloadN o_appendChild_124 rfl ?_
      refine Wk.getI (mI_count) (wf_count H) o_appendChild_125 (x := (F 9)) rfl ?_
      refine Wk.iload o_appendChild_128 rfl ?_
      refine Wk.iconst o_appendChild_130 (z := (1 : Int32)) (by decide) ?_
      refine Wk.iadd o_appendChild_131 ?_
      refine Wk.iastore (coC H) (f := (A 3)) (mA_rowDepthA) rfl (by decide) (i' := 4) rfl (s10 q1 q7) (s11 q1 q7) o_appendChild_132 ?_
      refine Wk.aloadN o_appendChild_133 rfl ?_
      refine Wk.getA (mA_rowCycA) (by decide) (i' := 5) rfl (wf_rowCycA H) o_appendChild_134 ?_
      refine Wk.aloadN o_appendChild_137 rfl ?_
      refine Wk.getI (mI_count) (wf_count H) o_appendChild_138 (x := (F 9)) rfl ?_
      refine Wk.iloadN o_appendChild_141 rfl ?_
      refine Wk.bastore (coC H) (f := (A 4)) (v' := (nar .boolean v3)) rfl (mA_rowCycA) rfl (by decide) (i' := 5) rfl (s10 q1 q7) (s11 q1 q7) o_appendChild_142 ?_
      refine Wk.aloadN o_appendChild_143 rfl ?_
      refine Wk.dup o_appendChild_144 rfl ?_
      refine Wk.getI (mI_count) (wf_count H) o_appendChild_145 (x := (F 9)) rfl ?_
      refine Wk.iconst o_appendChild_148 (z := (1 : Int32)) (by decide) ?_
      refine Wk.iadd o_appendChild_149 ?_
      refine Wk.putI (coC H) (mI_count) (wf_count H) (Or.inl (wy_count H)) o_appendChild_150 ?_
      refine Wk.iconst o_appendChild_153 (z := (1 : Int32)) (by decide) ?_
      exact Wk.zreturn mrC rfl o_appendChild_154 rfl (by decide) (by decide) (y := (1 : Int32)) (by decide) (h12 q1 q7)
    · refine Wk.aloadN o_appendChild_71 rfl ?_
      refine Wk.getA (mA_rowPathA) (by decide) (i' := 6) rfl (wf_rowPathA H) o_appendChild_72 ?_
      refine Wk.iload o_appendChild_75 rfl ?_
      refine Wk.iload o_appendChild_77 rfl ?_
      refine Wk.iadd o_appendChild_79 ?_
      refine Wk.aloadN o_appendChild_80 rfl ?_
      refine Wk.getA (mA_rowPathA) (by decide) (i' := 6) rfl (wf_rowPathA H) o_appendChild_81 ?_
      refine Wk.iload o_appendChild_84 rfl ?_
      refine Wk.iload o_appendChild_86 rfl ?_
      refine Wk.iadd o_appendChild_88 ?_
      refine Wk.iaload (mA_rowPathA) (by decide) (i' := 6) rfl (s13 q1 q7) (s14 q1 q7) o_appendChild_89 (y := ((A 5) (v5 + v7))) rfl ?_
      refine Wk.iastore (coC H) (f := (A 5)) (mA_rowPathA) rfl (by decide) (i' := 6) rfl (s15 q1 q7) (s16 q1 q7) o_appendChild_90 ?_
      refine Wk.iinc o_appendChild_91 rfl (z := (v7 + (1 : Int32))) rfl (L' := [.val (.ref 0), .unset, .val (.int v2), .val (.int v3), .val (.int v4), .val (.int v5), .val (.int v6), .val (.int (v7 + (1 : Int32)))]) rfl ?_
      refine Wk.goto o_appendChild_94 ?_
      exact (h17 q1 q7)

theorem rt_appendChild (G : Nat → Int64) (B : Nat → Int32 → Int64) (v0 : Int32) (xF : Nat → Int32) (xA : Nat → Int32 → Int32) (r : Int32 × (Nat → Int32) × (Nat → Int32 → Int32)) (e : (v0, xF, xA) = r) : some (Value.int v0) = some (.int r.1) ∧ (10, xF, G, xA, B) = (10, r.2.1, G, r.2.2, B) := by subst e; exact ⟨rfl, rfl⟩
def lp_appendChild : Nat → Nat → Int32 → Int32 → Int32 → Int32 → Int32 → Int32 → (Nat → Int32) → (Nat → Int32 → Int32) → Option (Int32 × (Nat → Int32) × (Nat → Int32 → Int32))
  | 0, _, _, _, _, _, _, _, _, _ => none
  | n + 1, tag, v2, v3, v4, v5, v6, v7, F, A => if tag = 57 then (if v4 < v7 then (if (¬ ((v6 + v4) + (1 : Int32)) < 0) ∧ (((v6 + v4) + (1 : Int32)) < (1024 : Int32)) ∧ (¬ (F 9) < 0) ∧ ((F 9) < (64 : Int32)) then some ((1 : Int32), (ups F 9 ((F 9) + (1 : Int32))), (ups (ups (ups (ups A 5 (ups (A 5) ((v6 + v4) + (1 : Int32)) v2)) 2 (ups (A 2) (F 9) v2)) 3 (ups (A 3) (F 9) (v4 + (1 : Int32)))) 4 (ups (A 4) (F 9) (nar .boolean v3)))) else none) else (if v7 < (16 : Int32) then (if (¬ (v5 + v7) < 0) ∧ ((v5 + v7) < (1024 : Int32)) ∧ (¬ (v6 + v7) < 0) ∧ ((v6 + v7) < (1024 : Int32)) then lp_appendChild n 57 v2 v3 v4 v5 v6 (v7 + (1 : Int32)) F (ups A 5 (ups (A 5) (v6 + v7) ((A 5) (v5 + v7)))) else none) else (if (¬ ((v6 + v4) + (1 : Int32)) < 0) ∧ (((v6 + v4) + (1 : Int32)) < (1024 : Int32)) ∧ (¬ (F 9) < 0) ∧ ((F 9) < (64 : Int32)) then some ((1 : Int32), (ups F 9 ((F 9) + (1 : Int32))), (ups (ups (ups (ups A 5 (ups (A 5) ((v6 + v4) + (1 : Int32)) v2)) 2 (ups (A 2) (F 9) v2)) 3 (ups (A 3) (F 9) (v4 + (1 : Int32)))) 4 (ups (A 4) (F 9) (nar .boolean v3)))) else none))) else none
theorem lp_appendChild_z (tag : Nat) (v2 : Int32) (v3 : Int32) (v4 : Int32) (v5 : Int32) (v6 : Int32) (v7 : Int32) (F : Nat → Int32) (A : Nat → Int32 → Int32) : lp_appendChild 0 tag v2 v3 v4 v5 v6 v7 F A = none := Eq.trans rfl rfl
theorem lp_appendChild_57 (n : Nat) (v2 : Int32) (v3 : Int32) (v4 : Int32) (v5 : Int32) (v6 : Int32) (v7 : Int32) (F : Nat → Int32) (A : Nat → Int32 → Int32) : lp_appendChild (n + 1) 57 v2 v3 v4 v5 v6 v7 F A = (if v4 < v7 then (if (¬ ((v6 + v4) + (1 : Int32)) < 0) ∧ (((v6 + v4) + (1 : Int32)) < (1024 : Int32)) ∧ (¬ (F 9) < 0) ∧ ((F 9) < (64 : Int32)) then some ((1 : Int32), (ups F 9 ((F 9) + (1 : Int32))), (ups (ups (ups (ups A 5 (ups (A 5) ((v6 + v4) + (1 : Int32)) v2)) 2 (ups (A 2) (F 9) v2)) 3 (ups (A 3) (F 9) (v4 + (1 : Int32)))) 4 (ups (A 4) (F 9) (nar .boolean v3)))) else none) else (if v7 < (16 : Int32) then (if (¬ (v5 + v7) < 0) ∧ ((v5 + v7) < (1024 : Int32)) ∧ (¬ (v6 + v7) < 0) ∧ ((v6 + v7) < (1024 : Int32)) then lp_appendChild n 57 v2 v3 v4 v5 v6 (v7 + (1 : Int32)) F (ups A 5 (ups (A 5) (v6 + v7) ((A 5) (v5 + v7)))) else none) else (if (¬ ((v6 + v4) + (1 : Int32)) < 0) ∧ (((v6 + v4) + (1 : Int32)) < (1024 : Int32)) ∧ (¬ (F 9) < 0) ∧ ((F 9) < (64 : Int32)) then some ((1 : Int32), (ups F 9 ((F 9) + (1 : Int32))), (ups (ups (ups (ups A 5 (ups (A 5) ((v6 + v4) + (1 : Int32)) v2)) 2 (ups (A 2) (F 9) v2)) 3 (ups (A 3) (F 9) (v4 + (1 : Int32)))) 4 (ups (A 4) (F 9) (nar .boolean v3)))) else none))) := by
  rw [lp_appendChild, if_pos rfl]
set_option maxRecDepth 65536 in
set_option maxHeartbeats 4000000 in
theorem lpw_appendChild {l : Launch} {Z : State} {a0 : Array Value} (H : OK Z a0) (G : Nat → Int64) (B : Nat → Int32 → Int64) : ∀ (n : Nat) (v2 : Int32) (v3 : Int32) (v4 : Int32) (v5 : Int32) (v6 : Int32) (v7 : Int32) (F : Nat → Int32) (A : Nat → Int32 → Int32) (r : Int32 × (Nat → Int32) × (Nat → Int32 → Int32)), (lp_appendChild n 57 v2 v3 v4 v5 v6 v7 F A = some r → Wk l Z (MoC Z cdC) md_appendChild 57 [.val (.ref 0), .unset, .val (.int v2), .val (.int v3), .val (.int v4), .val (.int v5), .val (.int v6), .val (.int v7)] [] (10, F, G, A, B) 0 0 (fun v w' => v = some (.int r.1) ∧ w' = (10, r.2.1, G, r.2.2, B))) := by
  intro n
  induction n with
  | zero =>
    intro v2 v3 v4 v5 v6 v7 F A r
    exact (fun h => by rw [lp_appendChild_z] at h; cases h)
  | succ n ih =>
    intro v2 v3 v4 v5 v6 v7 F A r
    refine fun h => ?_
    · rw [lp_appendChild_57] at h
      exact wp_appendChild_57 H F G A B v2 v3 v4 v5 v6 v7 (fun q1 => (gd (ifp q1 h)).1.1) (fun q1 => (gd (ifp q1 h)).1.2.1) (fun q1 => (gd (ifp q1 h)).1.2.2.1) (fun q1 => (gd (ifp q1 h)).1.2.2.2) (fun q1 => (rt_appendChild _ _ _ _ _ r (Option.some.inj (gd (ifp q1 h)).2))) (fun q1 q7 => (gd (ifn q7 (ifn q1 h))).1.1) (fun q1 q7 => (gd (ifn q7 (ifn q1 h))).1.2.1) (fun q1 q7 => (gd (ifn q7 (ifn q1 h))).1.2.2.1) (fun q1 q7 => (gd (ifn q7 (ifn q1 h))).1.2.2.2) (fun q1 q7 => (rt_appendChild _ _ _ _ _ r (Option.some.inj (gd (ifn q7 (ifn q1 h))).2))) (fun q1 q7 => (gd (ifp q7 (ifn q1 h))).1.1) (fun q1 q7 => (gd (ifp q7 (ifn q1 h))).1.2.1) (fun q1 q7 => (gd (ifp q7 (ifn q1 h))).1.2.2.1) (fun q1 q7 => (gd (ifp q7 (ifn q1 h))).1.2.2.2) (fun q1 q7 => (ih _ _ _ _ _ _ _ _ _) (gd (ifp q7 (ifn q1 h))).2)
def en_appendChild (F : Nat → Int32) (A : Nat → Int32 → Int32) (p1 : Int32) (p2 : Int32) (p3 : Int32) : Option (Int32 × (Nat → Int32) × (Nat → Int32 → Int32)) := (if (F 9) < (F 2) then (if (F 9) < (64 : Int32) then (if (¬ p1 < 0) ∧ (p1 < (64 : Int32)) then (if ((A 3) p1) < (15 : Int32) then lp_appendChild 1000 57 p2 p3 ((A 3) p1) (p1 * (16 : Int32)) ((F 9) * (16 : Int32)) (0 : Int32) F A else some ((0 : Int32), F, A)) else none) else some ((0 : Int32), F, A)) else some ((0 : Int32), F, A))
theorem een_appendChild (F : Nat → Int32) (A : Nat → Int32 → Int32) (p1 : Int32) (p2 : Int32) (p3 : Int32) : en_appendChild F A p1 p2 p3 = (if (F 9) < (F 2) then (if (F 9) < (64 : Int32) then (if (¬ p1 < 0) ∧ (p1 < (64 : Int32)) then (if ((A 3) p1) < (15 : Int32) then lp_appendChild 1000 57 p2 p3 ((A 3) p1) (p1 * (16 : Int32)) ((F 9) * (16 : Int32)) (0 : Int32) F A else some ((0 : Int32), F, A)) else none) else some ((0 : Int32), F, A)) else some ((0 : Int32), F, A)) := Eq.trans rfl rfl
def R_appendChild (F : Nat → Int32) (A : Nat → Int32 → Int32) (p1 : Int32) (p2 : Int32) (p3 : Int32) : Int32 × (Nat → Int32) × (Nat → Int32 → Int32) := (en_appendChild F A p1 p2 p3).getD (0, (fun _ => 0), (fun _ _ => 0))
theorem eR_appendChild (F : Nat → Int32) (A : Nat → Int32 → Int32) (p1 : Int32) (p2 : Int32) (p3 : Int32) : R_appendChild F A p1 p2 p3 = (en_appendChild F A p1 p2 p3).getD (0, (fun _ => 0), (fun _ _ => 0)) := Eq.trans rfl rfl
set_option maxRecDepth 65536 in
set_option maxHeartbeats 4000000 in
theorem run_appendChild {l : Launch} {Z : State} {a0 : Array Value} (H : OK Z a0) (F : Nat → Int32) (G : Nat → Int64) (A : Nat → Int32 → Int32) (B : Nat → Int32 → Int64) (p1 : Int32) (p2 : Int32) (p3 : Int32) (e1 : (en_appendChild F A p1 p2 p3).isSome = true) :
    Wk l Z (MoC Z cdC) md_appendChild 0 [.val (.ref 0), .val (.int p1), .val (.int p2), .val (.int p3), .unset, .unset, .unset, .unset] [] (10, F, G, A, B) 0 0 (fun v w' => v = some (.int (R_appendChild F A p1 p2 p3).1) ∧ w' = (10, (R_appendChild F A p1 p2 p3).2.1, G, (R_appendChild F A p1 p2 p3).2.2, B)) := by
  obtain ⟨r, h⟩ := Option.isSome_iff_exists.mp e1
  have e : R_appendChild F A p1 p2 p3 = r := (eR_appendChild F A p1 p2 p3).trans (getD_some h)
  rw [e]
  rw [een_appendChild] at h
  exact wp_appendChild H F G A B p1 p2 p3 (fun q1 => (rt_appendChild _ _ _ _ _ r (Option.some.inj (ifn q1 h)))) (fun q1 q3 => (gd (ifp q3 (ifp q1 h))).1.1) (fun q1 q3 => (gd (ifp q3 (ifp q1 h))).1.2) (fun q1 q3 q6 => (lpw_appendChild H G B _ _ _ _ _ _ _ _ _ _) (ifp q6 (gd (ifp q3 (ifp q1 h))).2)) (fun q1 q3 q6 => (rt_appendChild _ _ _ _ _ r (Option.some.inj (ifn q6 (gd (ifp q3 (ifp q1 h))).2)))) (fun q1 q3 => (rt_appendChild _ _ _ _ _ r (Option.some.inj (ifn q3 (ifp q1 h)))))
set_option maxRecDepth 65536 in
set_option maxHeartbeats 4000000 in
theorem wp_expandRow {l : Launch} {Z : State} {a0 : Array Value} (H : OK Z a0) (F : Nat → Int32) (G : Nat → Int64) (A : Nat → Int32 → Int32) (B : Nat → Int32 → Int64) (p1 : Int32) (p2 : Int32) {Q : Option Value → WO → Prop} (s1 : ¬ p1 < 0) (s2 : p1 < (64 : Int32)) (h3 : Wk l Z (MoC Z cdC) md_expandRow 10 [.val (.ref 0), .val (.int p1), .val (.int p2), .val (.int ((A 2) p1)), .val (.int (0 : Int32)), .unset] [] (10, F, G, A, B) 0 0 Q) :
    Wk l Z (MoC Z cdC) md_expandRow 0 [.val (.ref 0), .val (.int p1), .val (.int p2), .unset, .unset, .unset] [] (10, F, G, A, B) 0 0 Q := by
  refine Wk.aloadN o_expandRow_0 rfl ?_
  refine Wk.getA (mA_rowNodeA) (by decide) (i' := 3) rfl (wf_rowNodeA H) o_expandRow_1 ?_
  refine Wk.iloadN o_expandRow_4 rfl ?_
  refine Wk.iaload (mA_rowNodeA) (by decide) (i' := 3) rfl s1 s2 o_expandRow_5 (y := ((A 2) p1)) rfl ?_
  refine Wk.istoreN o_expandRow_6 (Or.inl rfl) (L' := [.val (.ref 0), .val (.int p1), .val (.int p2), .val (.int ((A 2) p1)), .unset, .unset]) rfl ?_
  refine Wk.iconst o_expandRow_7 (z := (0 : Int32)) (by decide) ?_
  refine Wk.istore o_expandRow_8 (Or.inl rfl) (L' := [.val (.ref 0), .val (.int p1), .val (.int p2), .val (.int ((A 2) p1)), .val (.int (0 : Int32)), .unset]) rfl ?_
  exact h3

set_option maxRecDepth 65536 in
set_option maxHeartbeats 4000000 in
theorem wp_expandRow_10 {l : Launch} {Z : State} {a0 : Array Value} (H : OK Z a0) (F : Nat → Int32) (G : Nat → Int64) (A : Nat → Int32 → Int32) (B : Nat → Int32 → Int64) (v1 : Int32) (v2 : Int32) (v3 : Int32) (v4 : Int32) {Q : Option Value → WO → Prop} (h2 : ¬ v4 < (F 0) → Q (some (.int (1 : Int32))) (10, F, G, A, B)) (h4 : v4 < (F 0) → ¬ v4 < (16 : Int32) → Q (some (.int (1 : Int32))) (10, F, G, A, B)) (s5 : v4 < (F 0) → v4 < (16 : Int32) → ¬ ((v3 * (16 : Int32)) + v4) < 0) (s6 : v4 < (F 0) → v4 < (16 : Int32) → ((v3 * (16 : Int32)) + v4) < (256 : Int32)) (s11 : v4 < (F 0) → v4 < (16 : Int32) → ¬ ((A 0) ((v3 * (16 : Int32)) + v4)) = 0 → v2 = 0 → v2 = 0 → ¬ (F 6) = 0 → (en_pathContains A v1 v4).isSome = true) (s16 : v4 < (F 0) → v4 < (16 : Int32) → ¬ ((A 0) ((v3 * (16 : Int32)) + v4)) = 0 → v2 = 0 → (en_appendChild F A v1 v4 (if v2 = 0 then (if (F 6) = 0 then (0 : Int32) else (if (R_pathContains A v1 v4) = 0 then (0 : Int32) else (1 : Int32))) else (0 : Int32))).isSome = true) (h18 : v4 < (F 0) → v4 < (16 : Int32) → ¬ ((A 0) ((v3 * (16 : Int32)) + v4)) = 0 → v2 = 0 → ¬ (R_appendChild F A v1 v4 (if v2 = 0 then (if (F 6) = 0 then (0 : Int32) else (if (R_pathContains A v1 v4) = 0 then (0 : Int32) else (1 : Int32))) else (0 : Int32))).1 = 0 → Wk l Z (MoC Z cdC) md_expandRow 10 [.val (.ref 0), .val (.int v1), .val (.int v2), .val (.int v3), .val (.int (v4 + (1 : Int32))), .unset] [] (10, (R_appendChild F A v1 v4 (if v2 = 0 then (if (F 6) = 0 then (0 : Int32) else (if (R_pathContains A v1 v4) = 0 then (0 : Int32) else (1 : Int32))) else (0 : Int32))).2.1, G, (R_appendChild F A v1 v4 (if v2 = 0 then (if (F 6) = 0 then (0 : Int32) else (if (R_pathContains A v1 v4) = 0 then (0 : Int32) else (1 : Int32))) else (0 : Int32))).2.2, B) 0 0 Q) (h19 : v4 < (F 0) → v4 < (16 : Int32) → ¬ ((A 0) ((v3 * (16 : Int32)) + v4)) = 0 → v2 = 0 → (R_appendChild F A v1 v4 (if v2 = 0 then (if (F 6) = 0 then (0 : Int32) else (if (R_pathContains A v1 v4) = 0 then (0 : Int32) else (1 : Int32))) else (0 : Int32))).1 = 0 → Q (some (.int (0 : Int32))) (10, (R_appendChild F A v1 v4 (if v2 = 0 then (if (F 6) = 0 then (0 : Int32) else (if (R_pathContains A v1 v4) = 0 then (0 : Int32) else (1 : Int32))) else (0 : Int32))).2.1, G, (R_appendChild F A v1 v4 (if v2 = 0 then (if (F 6) = 0 then (0 : Int32) else (if (R_pathContains A v1 v4) = 0 then (0 : Int32) else (1 : Int32))) else (0 : Int32))).2.2, B)) (s20 : v4 < (F 0) → v4 < (16 : Int32) → ¬ ((A 0) ((v3 * (16 : Int32)) + v4)) = 0 → ¬ v2 = 0 → ¬ v4 < 0) (s22 : v4 < (F 0) → v4 < (16 : Int32) → ¬ ((A 0) ((v3 * (16 : Int32)) + v4)) = 0 → ¬ v2 = 0 → ((A 9) v4) = 0 → ¬ v4 < 0) (s25 : v4 < (F 0) → v4 < (16 : Int32) → ¬ ((A 0) ((v3 * (16 : Int32)) + v4)) = 0 → ¬ v2 = 0 → ((A 9) v4) = 0 → v2 = 0 → ¬ (F 6) = 0 → (en_pathContains (ups A 9 (ups (A 9) v4 (1 : Int32))) v1 v4).isSome = true) (s30 : v4 < (F 0) → v4 < (16 : Int32) → ¬ ((A 0) ((v3 * (16 : Int32)) + v4)) = 0 → ¬ v2 = 0 → ((A 9) v4) = 0 → (en_appendChild F (ups A 9 (ups (A 9) v4 (1 : Int32))) v1 v4 (if v2 = 0 then (if (F 6) = 0 then (0 : Int32) else (if (R_pathContains (ups A 9 (ups (A 9) v4 (1 : Int32))) v1 v4) = 0 then (0 : Int32) else (1 : Int32))) else (0 : Int32))).isSome = true) (h32 : v4 < (F 0) → v4 < (16 : Int32) → ¬ ((A 0) ((v3 * (16 : Int32)) + v4)) = 0 → ¬ v2 = 0 → ((A 9) v4) = 0 → ¬ (R_appendChild F (ups A 9 (ups (A 9) v4 (1 : Int32))) v1 v4 (if v2 = 0 then (if (F 6) = 0 then (0 : Int32) else (if (R_pathContains (ups A 9 (ups (A 9) v4 (1 : Int32))) v1 v4) = 0 then (0 : Int32) else (1 : Int32))) else (0 : Int32))).1 = 0 → Wk l Z (MoC Z cdC) md_expandRow 10 [.val (.ref 0), .val (.int v1), .val (.int v2), .val (.int v3), .val (.int (v4 + (1 : Int32))), .unset] [] (10, (R_appendChild F (ups A 9 (ups (A 9) v4 (1 : Int32))) v1 v4 (if v2 = 0 then (if (F 6) = 0 then (0 : Int32) else (if (R_pathContains (ups A 9 (ups (A 9) v4 (1 : Int32))) v1 v4) = 0 then (0 : Int32) else (1 : Int32))) else (0 : Int32))).2.1, G, (R_appendChild F (ups A 9 (ups (A 9) v4 (1 : Int32))) v1 v4 (if v2 = 0 then (if (F 6) = 0 then (0 : Int32) else (if (R_pathContains (ups A 9 (ups (A 9) v4 (1 : Int32))) v1 v4) = 0 then (0 : Int32) else (1 : Int32))) else (0 : Int32))).2.2, B) 0 0 Q) (h33 : v4 < (F 0) → v4 < (16 : Int32) → ¬ ((A 0) ((v3 * (16 : Int32)) + v4)) = 0 → ¬ v2 = 0 → ((A 9) v4) = 0 → (R_appendChild F (ups A 9 (ups (A 9) v4 (1 : Int32))) v1 v4 (if v2 = 0 then (if (F 6) = 0 then (0 : Int32) else (if (R_pathContains (ups A 9 (ups (A 9) v4 (1 : Int32))) v1 v4) = 0 then (0 : Int32) else (1 : Int32))) else (0 : Int32))).1 = 0 → Q (some (.int (0 : Int32))) (10, (R_appendChild F (ups A 9 (ups (A 9) v4 (1 : Int32))) v1 v4 (if v2 = 0 then (if (F 6) = 0 then (0 : Int32) else (if (R_pathContains (ups A 9 (ups (A 9) v4 (1 : Int32))) v1 v4) = 0 then (0 : Int32) else (1 : Int32))) else (0 : Int32))).2.1, G, (R_appendChild F (ups A 9 (ups (A 9) v4 (1 : Int32))) v1 v4 (if v2 = 0 then (if (F 6) = 0 then (0 : Int32) else (if (R_pathContains (ups A 9 (ups (A 9) v4 (1 : Int32))) v1 v4) = 0 then (0 : Int32) else (1 : Int32))) else (0 : Int32))).2.2, B)) (h34 : v4 < (F 0) → v4 < (16 : Int32) → ¬ ((A 0) ((v3 * (16 : Int32)) + v4)) = 0 → ¬ v2 = 0 → ¬ ((A 9) v4) = 0 → Wk l Z (MoC Z cdC) md_expandRow 10 [.val (.ref 0), .val (.int v1), .val (.int v2), .val (.int v3), .val (.int (v4 + (1 : Int32))), .unset] [] (10, F, G, A, B) 0 0 Q) (h35 : v4 < (F 0) → v4 < (16 : Int32) → ((A 0) ((v3 * (16 : Int32)) + v4)) = 0 → Wk l Z (MoC Z cdC) md_expandRow 10 [.val (.ref 0), .val (.int v1), .val (.int v2), .val (.int v3), .val (.int (v4 + (1 : Int32))), .unset] [] (10, F, G, A, B) 0 0 Q) :
    Wk l Z (MoC Z cdC) md_expandRow 10 [.val (.ref 0), .val (.int v1), .val (.int v2), .val (.int v3), .val (.int v4), .unset] [] (10, F, G, A, B) 0 0 Q := by
  refine Wk.iload o_expandRow_10 rfl ?_
  refine Wk.aloadN o_expandRow_12 rfl ?_
  refine Wk.getI (mI_maxNodes) (wf_maxNodes H) o_expandRow_13 (x := (F 0)) rfl ?_
  refine Wk.icmp_ge o_expandRow_16 (fun q1 => ?_) (fun q1 => ?_)
  · refine Wk.iconst o_expandRow_117 (z := (1 : Int32)) (by decide) ?_
    exact Wk.zreturn mrC rfl o_expandRow_118 rfl (by decide) (by decide) (y := (1 : Int32)) (by decide) (h2 q1)
  · refine Wk.iload o_expandRow_19 rfl ?_
    refine Wk.bipush o_expandRow_21 (z := (16 : Int32)) (by decide) ?_
    refine Wk.icmp_ge o_expandRow_23 (fun q3 => ?_) (fun q3 => ?_)
    · refine Wk.iconst o_expandRow_117 (z := (1 : Int32)) (by decide) ?_
      exact Wk.zreturn mrC rfl o_expandRow_118 rfl (by decide) (by decide) (y := (1 : Int32)) (by decide) (h4 q1 q3)
    · refine Wk.aloadN o_expandRow_26 rfl ?_
      refine Wk.getA (mA_adj) (by decide) (i' := 1) rfl (wf_adj H) o_expandRow_27 ?_
      refine Wk.iloadN o_expandRow_30 rfl ?_
      refine Wk.bipush o_expandRow_31 (z := (16 : Int32)) (by decide) ?_
      refine Wk.imul o_expandRow_33 ?_
      refine Wk.iload o_expandRow_34 rfl ?_
      refine Wk.iadd o_expandRow_36 ?_
      refine Wk.baload (mA_adj) (by decide) (i' := 1) rfl (s5 q1 q3) (s6 q1 q3) o_expandRow_37 (y := ((A 0) ((v3 * (16 : Int32)) + v4))) rfl ?_
      refine Wk.if_ne o_expandRow_38 (fun q7 => ?_) (fun q7 => ?_)
      · refine Wk.iloadN o_expandRow_44 rfl ?_
        refine Wk.if_eq o_expandRow_45 (fun q8 => ?_) (fun q8 => ?_)
        · refine Wk.iloadN o_expandRow_69 rfl ?_
          have J15 : Wk l Z (MoC Z cdC) md_expandRow 95 [.val (.ref 0), .val (.int v1), .val (.int v2), .val (.int v3), .val (.int v4), .unset] [.int (if v2 = 0 then (if (F 6) = 0 then (0 : Int32) else (if (R_pathContains A v1 v4) = 0 then (0 : Int32) else (1 : Int32))) else (0 : Int32))] (10, F, G, A, B) 0 0 Q := by
            refine Wk.istore o_expandRow_95 (Or.inl rfl) (L' := [.val (.ref 0), .val (.int v1), .val (.int v2), .val (.int v3), .val (.int v4), .val (.int (if v2 = 0 then (if (F 6) = 0 then (0 : Int32) else (if (R_pathContains A v1 v4) = 0 then (0 : Int32) else (1 : Int32))) else (0 : Int32)))]) rfl ?_
            refine Wk.aloadN o_expandRow_97 rfl ?_
            refine Wk.iloadN o_expandRow_98 rfl ?_
            refine Wk.iload o_expandRow_99 rfl ?_
            refine Wk.iload o_expandRow_101 rfl ?_
            refine Wk.callF [.int v1, .int v4, .int (if v2 = 0 then (if (F 6) = 0 then (0 : Int32) else (if (R_pathContains A v1 v4) = 0 then (0 : Int32) else (1 : Int32))) else (0 : Int32))] [] (H.w 184 rfl) (cv_appendChild H) o_expandRow_103 (run_appendChild H F G A B v1 v4 (if v2 = 0 then (if (F 6) = 0 then (0 : Int32) else (if (R_pathContains A v1 v4) = 0 then (0 : Int32) else (1 : Int32))) else (0 : Int32)) (s16 q1 q3 q7 q8)) (wt := 0) (cu' := 0) (su' := 0) (by decide) rfl rfl rfl rfl rfl rfl rfl ?_
            refine Wk.if_ne o_expandRow_106 (fun q17 => ?_) (fun q17 => ?_)
            · refine Wk.iinc o_expandRow_111 rfl (z := (v4 + (1 : Int32))) rfl (L' := [.val (.ref 0), .val (.int v1), .val (.int v2), .val (.int v3), .val (.int (v4 + (1 : Int32))), .val (.int (if v2 = 0 then (if (F 6) = 0 then (0 : Int32) else (if (R_pathContains A v1 v4) = 0 then (0 : Int32) else (1 : Int32))) else (0 : Int32)))]) rfl ?_
              refine Wk.goto o_expandRow_114 ?_
              refine Wk.forget [false, false, false, false, false, true] (L' := [.val (.ref 0), .val (.int v1), .val (.int v2), .val (.int v3), .val (.int (v4 + (1 : Int32))), .unset]) rfl rfl ?_
              exact (h18 q1 q3 q7 q8 q17)
            · refine Wk.iconst o_expandRow_109 (z := (0 : Int32)) (by decide) ?_
              exact Wk.zreturn mrC rfl o_expandRow_110 rfl (by decide) (by decide) (y := (0 : Int32)) (by decide) (h19 q1 q3 q7 q8 q17)
          refine Wk.if_ne o_expandRow_70 (fun q9 => ?_) (fun q9 => ?_)
          · refine Wk.iconst o_expandRow_94 (z := (0 : Int32)) (by decide) ?_
            first | (rw [show ((if v2 = 0 then (if (F 6) = 0 then (0 : Int32) else (if (R_pathContains A v1 v4) = 0 then (0 : Int32) else (1 : Int32))) else (0 : Int32)) : Int32) = (0 : Int32) from if_neg q9] at J15; exact J15) | exact J15 | (simp only [if_neg q9] at J15 ⊢; exact J15)
          · refine Wk.aloadN o_expandRow_73 rfl ?_
            refine Wk.getI (mI_cycle) (wf_cycle H) o_expandRow_74 (x := (F 6)) rfl ?_
            refine Wk.if_eq o_expandRow_77 (fun q10 => ?_) (fun q10 => ?_)
            · refine Wk.iconst o_expandRow_94 (z := (0 : Int32)) (by decide) ?_
              first | (rw [show ((if v2 = 0 then (if (F 6) = 0 then (0 : Int32) else (if (R_pathContains A v1 v4) = 0 then (0 : Int32) else (1 : Int32))) else (0 : Int32)) : Int32) = (0 : Int32) from Eq.trans (if_pos q9) <| if_pos q10] at J15; exact J15) | exact J15 | (simp only [if_pos q9, if_pos q10] at J15 ⊢; exact J15)
            · refine Wk.aloadN o_expandRow_80 rfl ?_
              refine Wk.iloadN o_expandRow_81 rfl ?_
              refine Wk.iload o_expandRow_82 rfl ?_
              refine Wk.callF [.int v1, .int v4] [] (H.w 188 rfl) (cv_pathContains H) o_expandRow_84 (run_pathContains H F G A B v1 v4 (s11 q1 q3 q7 q8 q9 q10)) (wt := 0) (cu' := 0) (su' := 0) (by decide) rfl rfl rfl rfl rfl rfl rfl ?_
              refine Wk.if_eq o_expandRow_87 (fun q12 => ?_) (fun q12 => ?_)
              · refine Wk.iconst o_expandRow_94 (z := (0 : Int32)) (by decide) ?_
                first | (rw [show ((if v2 = 0 then (if (F 6) = 0 then (0 : Int32) else (if (R_pathContains A v1 v4) = 0 then (0 : Int32) else (1 : Int32))) else (0 : Int32)) : Int32) = (0 : Int32) from Eq.trans (if_pos q9) <| Eq.trans (if_neg q10) <| if_pos q12] at J15; exact J15) | exact J15 | (simp only [if_pos q9, if_neg q10, if_pos q12] at J15 ⊢; exact J15)
              · refine Wk.iconst o_expandRow_90 (z := (1 : Int32)) (by decide) ?_
                refine Wk.goto o_expandRow_91 ?_
                first | (rw [show ((if v2 = 0 then (if (F 6) = 0 then (0 : Int32) else (if (R_pathContains A v1 v4) = 0 then (0 : Int32) else (1 : Int32))) else (0 : Int32)) : Int32) = (1 : Int32) from Eq.trans (if_pos q9) <| Eq.trans (if_neg q10) <| if_neg q12] at J15; exact J15) | exact J15 | (simp only [if_pos q9, if_neg q10, if_neg q12] at J15 ⊢; exact J15)
        · refine Wk.aloadN o_expandRow_48 rfl ?_
          refine Wk.getA (mA_found) (by decide) (i' := 10) rfl (wf_found H) o_expandRow_49 ?_
          refine Wk.iload o_expandRow_52 rfl ?_
          refine Wk.baload (mA_found) (by decide) (i' := 10) rfl (s20 q1 q3 q7 q8) q3 o_expandRow_54 (y := ((A 9) v4)) rfl ?_
          refine Wk.if_eq o_expandRow_55 (fun q21 => ?_) (fun q21 => ?_)
          · refine Wk.aloadN o_expandRow_61 rfl ?_
            refine Wk.getA (mA_found) (by decide) (i' := 10) rfl (wf_found H) o_expandRow_62 ?_
            refine Wk.iload o_expandRow_65 rfl ?_
            refine Wk.iconst o_expandRow_67 (z := (1 : Int32)) (by decide) ?_
            refine Wk.bastore (coC H) (f := (A 9)) (v' := (1 : Int32)) (by decide) (mA_found) rfl (by decide) (i' := 10) rfl (s22 q1 q3 q7 q8 q21) q3 o_expandRow_68 ?_
            refine Wk.iloadN o_expandRow_69 rfl ?_
            have J29 : Wk l Z (MoC Z cdC) md_expandRow 95 [.val (.ref 0), .val (.int v1), .val (.int v2), .val (.int v3), .val (.int v4), .unset] [.int (if v2 = 0 then (if (F 6) = 0 then (0 : Int32) else (if (R_pathContains (ups A 9 (ups (A 9) v4 (1 : Int32))) v1 v4) = 0 then (0 : Int32) else (1 : Int32))) else (0 : Int32))] (10, F, G, (ups A 9 (ups (A 9) v4 (1 : Int32))), B) 0 0 Q := by
              refine Wk.istore o_expandRow_95 (Or.inl rfl) (L' := [.val (.ref 0), .val (.int v1), .val (.int v2), .val (.int v3), .val (.int v4), .val (.int (if v2 = 0 then (if (F 6) = 0 then (0 : Int32) else (if (R_pathContains (ups A 9 (ups (A 9) v4 (1 : Int32))) v1 v4) = 0 then (0 : Int32) else (1 : Int32))) else (0 : Int32)))]) rfl ?_
              refine Wk.aloadN o_expandRow_97 rfl ?_
              refine Wk.iloadN o_expandRow_98 rfl ?_
              refine Wk.iload o_expandRow_99 rfl ?_
              refine Wk.iload o_expandRow_101 rfl ?_
              refine Wk.callF [.int v1, .int v4, .int (if v2 = 0 then (if (F 6) = 0 then (0 : Int32) else (if (R_pathContains (ups A 9 (ups (A 9) v4 (1 : Int32))) v1 v4) = 0 then (0 : Int32) else (1 : Int32))) else (0 : Int32))] [] (H.w 184 rfl) (cv_appendChild H) o_expandRow_103 (run_appendChild H F G (ups A 9 (ups (A 9) v4 (1 : Int32))) B v1 v4 (if v2 = 0 then (if (F 6) = 0 then (0 : Int32) else (if (R_pathContains (ups A 9 (ups (A 9) v4 (1 : Int32))) v1 v4) = 0 then (0 : Int32) else (1 : Int32))) else (0 : Int32)) (s30 q1 q3 q7 q8 q21)) (wt := 0) (cu' := 0) (su' := 0) (by decide) rfl rfl rfl rfl rfl rfl rfl ?_
              refine Wk.if_ne o_expandRow_106 (fun q31 => ?_) (fun q31 => ?_)
              · refine Wk.iinc o_expandRow_111 rfl (z := (v4 + (1 : Int32))) rfl (L' := [.val (.ref 0), .val (.int v1), .val (.int v2), .val (.int v3), .val (.int (v4 + (1 : Int32))), .val (.int (if v2 = 0 then (if (F 6) = 0 then (0 : Int32) else (if (R_pathContains (ups A 9 (ups (A 9) v4 (1 : Int32))) v1 v4) = 0 then (0 : Int32) else (1 : Int32))) else (0 : Int32)))]) rfl ?_
                refine Wk.goto o_expandRow_114 ?_
                refine Wk.forget [false, false, false, false, false, true] (L' := [.val (.ref 0), .val (.int v1), .val (.int v2), .val (.int v3), .val (.int (v4 + (1 : Int32))), .unset]) rfl rfl ?_
                exact (h32 q1 q3 q7 q8 q21 q31)
              · refine Wk.iconst o_expandRow_109 (z := (0 : Int32)) (by decide) ?_
                exact Wk.zreturn mrC rfl o_expandRow_110 rfl (by decide) (by decide) (y := (0 : Int32)) (by decide) (h33 q1 q3 q7 q8 q21 q31)
            refine Wk.if_ne o_expandRow_70 (fun q23 => ?_) (fun q23 => ?_)
            · refine Wk.iconst o_expandRow_94 (z := (0 : Int32)) (by decide) ?_
              first | (rw [show ((if v2 = 0 then (if (F 6) = 0 then (0 : Int32) else (if (R_pathContains (ups A 9 (ups (A 9) v4 (1 : Int32))) v1 v4) = 0 then (0 : Int32) else (1 : Int32))) else (0 : Int32)) : Int32) = (0 : Int32) from if_neg q23] at J29; exact J29) | exact J29 | (simp only [if_neg q23] at J29 ⊢; exact J29)
            · refine Wk.aloadN o_expandRow_73 rfl ?_
              refine Wk.getI (mI_cycle) (wf_cycle H) o_expandRow_74 (x := (F 6)) rfl ?_
              refine Wk.if_eq o_expandRow_77 (fun q24 => ?_) (fun q24 => ?_)
              · refine Wk.iconst o_expandRow_94 (z := (0 : Int32)) (by decide) ?_
                first | (rw [show ((if v2 = 0 then (if (F 6) = 0 then (0 : Int32) else (if (R_pathContains (ups A 9 (ups (A 9) v4 (1 : Int32))) v1 v4) = 0 then (0 : Int32) else (1 : Int32))) else (0 : Int32)) : Int32) = (0 : Int32) from Eq.trans (if_pos q23) <| if_pos q24] at J29; exact J29) | exact J29 | (simp only [if_pos q23, if_pos q24] at J29 ⊢; exact J29)
              · refine Wk.aloadN o_expandRow_80 rfl ?_
                refine Wk.iloadN o_expandRow_81 rfl ?_
                refine Wk.iload o_expandRow_82 rfl ?_
                refine Wk.callF [.int v1, .int v4] [] (H.w 188 rfl) (cv_pathContains H) o_expandRow_84 (run_pathContains H F G (ups A 9 (ups (A 9) v4 (1 : Int32))) B v1 v4 (s25 q1 q3 q7 q8 q21 q23 q24)) (wt := 0) (cu' := 0) (su' := 0) (by decide) rfl rfl rfl rfl rfl rfl rfl ?_
                refine Wk.if_eq o_expandRow_87 (fun q26 => ?_) (fun q26 => ?_)
                · refine Wk.iconst o_expandRow_94 (z := (0 : Int32)) (by decide) ?_
                  first | (rw [show ((if v2 = 0 then (if (F 6) = 0 then (0 : Int32) else (if (R_pathContains (ups A 9 (ups (A 9) v4 (1 : Int32))) v1 v4) = 0 then (0 : Int32) else (1 : Int32))) else (0 : Int32)) : Int32) = (0 : Int32) from Eq.trans (if_pos q23) <| Eq.trans (if_neg q24) <| if_pos q26] at J29; exact J29) | exact J29 | (simp only [if_pos q23, if_neg q24, if_pos q26] at J29 ⊢; exact J29)
                · refine Wk.iconst o_expandRow_90 (z := (1 : Int32)) (by decide) ?_
                  refine Wk.goto o_expandRow_91 ?_
                  first | (rw [show ((if v2 = 0 then (if (F 6) = 0 then (0 : Int32) else (if (R_pathContains (ups A 9 (ups (A 9) v4 (1 : Int32))) v1 v4) = 0 then (0 : Int32) else (1 : Int32))) else (0 : Int32)) : Int32) = (1 : Int32) from Eq.trans (if_pos q23) <| Eq.trans (if_neg q24) <| if_neg q26] at J29; exact J29) | exact J29 | (simp only [if_pos q23, if_neg q24, if_neg q26] at J29 ⊢; exact J29)
          · refine Wk.goto o_expandRow_58 ?_
            refine Wk.iinc o_expandRow_111 rfl (z := (v4 + (1 : Int32))) rfl (L' := [.val (.ref 0), .val (.int v1), .val (.int v2), .val (.int v3), .val (.int (v4 + (1 : Int32))), .unset]) rfl ?_
            refine Wk.goto o_expandRow_114 ?_
            exact (h34 q1 q3 q7 q8 q21)
      · refine Wk.goto o_expandRow_41 ?_
        refine Wk.iinc o_expandRow_111 rfl (z := (v4 + (1 : Int32))) rfl (L' := [.val (.ref 0), .val (.int v1), .val (.int v2), .val (.int v3), .val (.int (v4 + (1 : Int32))), .unset]) rfl ?_
        refine Wk.goto o_expandRow_114 ?_
        exact (h35 q1 q3 q7)

theorem rt_expandRow (G : Nat → Int64) (B : Nat → Int32 → Int64) (v0 : Int32) (xF : Nat → Int32) (xA : Nat → Int32 → Int32) (r : Int32 × (Nat → Int32) × (Nat → Int32 → Int32)) (e : (v0, xF, xA) = r) : some (Value.int v0) = some (.int r.1) ∧ (10, xF, G, xA, B) = (10, r.2.1, G, r.2.2, B) := by subst e; exact ⟨rfl, rfl⟩
def lp_expandRow : Nat → Nat → Int32 → Int32 → Int32 → Int32 → (Nat → Int32) → (Nat → Int32 → Int32) → Option (Int32 × (Nat → Int32) × (Nat → Int32 → Int32))
  | 0, _, _, _, _, _, _, _ => none
  | n + 1, tag, v1, v2, v3, v4, F, A => if tag = 10 then (if v4 < (F 0) then (if v4 < (16 : Int32) then (if (¬ ((v3 * (16 : Int32)) + v4) < 0) ∧ (((v3 * (16 : Int32)) + v4) < (256 : Int32)) then (if ((A 0) ((v3 * (16 : Int32)) + v4)) = 0 then lp_expandRow n 10 v1 v2 v3 (v4 + (1 : Int32)) F A else (if v2 = 0 then (if (v2 = 0 → ¬ (F 6) = 0 → (en_pathContains A v1 v4).isSome = true) ∧ ((en_appendChild F A v1 v4 (if v2 = 0 then (if (F 6) = 0 then (0 : Int32) else (if (R_pathContains A v1 v4) = 0 then (0 : Int32) else (1 : Int32))) else (0 : Int32))).isSome = true) then (if (R_appendChild F A v1 v4 (if v2 = 0 then (if (F 6) = 0 then (0 : Int32) else (if (R_pathContains A v1 v4) = 0 then (0 : Int32) else (1 : Int32))) else (0 : Int32))).1 = 0 then some ((0 : Int32), (R_appendChild F A v1 v4 (if v2 = 0 then (if (F 6) = 0 then (0 : Int32) else (if (R_pathContains A v1 v4) = 0 then (0 : Int32) else (1 : Int32))) else (0 : Int32))).2.1, (R_appendChild F A v1 v4 (if v2 = 0 then (if (F 6) = 0 then (0 : Int32) else (if (R_pathContains A v1 v4) = 0 then (0 : Int32) else (1 : Int32))) else (0 : Int32))).2.2) else lp_expandRow n 10 v1 v2 v3 (v4 + (1 : Int32)) (R_appendChild F A v1 v4 (if v2 = 0 then (if (F 6) = 0 then (0 : Int32) else (if (R_pathContains A v1 v4) = 0 then (0 : Int32) else (1 : Int32))) else (0 : Int32))).2.1 (R_appendChild F A v1 v4 (if v2 = 0 then (if (F 6) = 0 then (0 : Int32) else (if (R_pathContains A v1 v4) = 0 then (0 : Int32) else (1 : Int32))) else (0 : Int32))).2.2) else none) else (if (¬ v4 < 0) then (if ((A 9) v4) = 0 then (if (¬ v4 < 0) ∧ (v2 = 0 → ¬ (F 6) = 0 → (en_pathContains (ups A 9 (ups (A 9) v4 (1 : Int32))) v1 v4).isSome = true) ∧ ((en_appendChild F (ups A 9 (ups (A 9) v4 (1 : Int32))) v1 v4 (if v2 = 0 then (if (F 6) = 0 then (0 : Int32) else (if (R_pathContains (ups A 9 (ups (A 9) v4 (1 : Int32))) v1 v4) = 0 then (0 : Int32) else (1 : Int32))) else (0 : Int32))).isSome = true) then (if (R_appendChild F (ups A 9 (ups (A 9) v4 (1 : Int32))) v1 v4 (if v2 = 0 then (if (F 6) = 0 then (0 : Int32) else (if (R_pathContains (ups A 9 (ups (A 9) v4 (1 : Int32))) v1 v4) = 0 then (0 : Int32) else (1 : Int32))) else (0 : Int32))).1 = 0 then some ((0 : Int32), (R_appendChild F (ups A 9 (ups (A 9) v4 (1 : Int32))) v1 v4 (if v2 = 0 then (if (F 6) = 0 then (0 : Int32) else (if (R_pathContains (ups A 9 (ups (A 9) v4 (1 : Int32))) v1 v4) = 0 then (0 : Int32) else (1 : Int32))) else (0 : Int32))).2.1, (R_appendChild F (ups A 9 (ups (A 9) v4 (1 : Int32))) v1 v4 (if v2 = 0 then (if (F 6) = 0 then (0 : Int32) else (if (R_pathContains (ups A 9 (ups (A 9) v4 (1 : Int32))) v1 v4) = 0 then (0 : Int32) else (1 : Int32))) else (0 : Int32))).2.2) else lp_expandRow n 10 v1 v2 v3 (v4 + (1 : Int32)) (R_appendChild F (ups A 9 (ups (A 9) v4 (1 : Int32))) v1 v4 (if v2 = 0 then (if (F 6) = 0 then (0 : Int32) else (if (R_pathContains (ups A 9 (ups (A 9) v4 (1 : Int32))) v1 v4) = 0 then (0 : Int32) else (1 : Int32))) else (0 : Int32))).2.1 (R_appendChild F (ups A 9 (ups (A 9) v4 (1 : Int32))) v1 v4 (if v2 = 0 then (if (F 6) = 0 then (0 : Int32) else (if (R_pathContains (ups A 9 (ups (A 9) v4 (1 : Int32))) v1 v4) = 0 then (0 : Int32) else (1 : Int32))) else (0 : Int32))).2.2) else none) else lp_expandRow n 10 v1 v2 v3 (v4 + (1 : Int32)) F A) else none))) else none) else some ((1 : Int32), F, A)) else some ((1 : Int32), F, A)) else none
theorem lp_expandRow_z (tag : Nat) (v1 : Int32) (v2 : Int32) (v3 : Int32) (v4 : Int32) (F : Nat → Int32) (A : Nat → Int32 → Int32) : lp_expandRow 0 tag v1 v2 v3 v4 F A = none := Eq.trans rfl rfl
theorem lp_expandRow_10 (n : Nat) (v1 : Int32) (v2 : Int32) (v3 : Int32) (v4 : Int32) (F : Nat → Int32) (A : Nat → Int32 → Int32) : lp_expandRow (n + 1) 10 v1 v2 v3 v4 F A = (if v4 < (F 0) then (if v4 < (16 : Int32) then (if (¬ ((v3 * (16 : Int32)) + v4) < 0) ∧ (((v3 * (16 : Int32)) + v4) < (256 : Int32)) then (if ((A 0) ((v3 * (16 : Int32)) + v4)) = 0 then lp_expandRow n 10 v1 v2 v3 (v4 + (1 : Int32)) F A else (if v2 = 0 then (if (v2 = 0 → ¬ (F 6) = 0 → (en_pathContains A v1 v4).isSome = true) ∧ ((en_appendChild F A v1 v4 (if v2 = 0 then (if (F 6) = 0 then (0 : Int32) else (if (R_pathContains A v1 v4) = 0 then (0 : Int32) else (1 : Int32))) else (0 : Int32))).isSome = true) then (if (R_appendChild F A v1 v4 (if v2 = 0 then (if (F 6) = 0 then (0 : Int32) else (if (R_pathContains A v1 v4) = 0 then (0 : Int32) else (1 : Int32))) else (0 : Int32))).1 = 0 then some ((0 : Int32), (R_appendChild F A v1 v4 (if v2 = 0 then (if (F 6) = 0 then (0 : Int32) else (if (R_pathContains A v1 v4) = 0 then (0 : Int32) else (1 : Int32))) else (0 : Int32))).2.1, (R_appendChild F A v1 v4 (if v2 = 0 then (if (F 6) = 0 then (0 : Int32) else (if (R_pathContains A v1 v4) = 0 then (0 : Int32) else (1 : Int32))) else (0 : Int32))).2.2) else lp_expandRow n 10 v1 v2 v3 (v4 + (1 : Int32)) (R_appendChild F A v1 v4 (if v2 = 0 then (if (F 6) = 0 then (0 : Int32) else (if (R_pathContains A v1 v4) = 0 then (0 : Int32) else (1 : Int32))) else (0 : Int32))).2.1 (R_appendChild F A v1 v4 (if v2 = 0 then (if (F 6) = 0 then (0 : Int32) else (if (R_pathContains A v1 v4) = 0 then (0 : Int32) else (1 : Int32))) else (0 : Int32))).2.2) else none) else (if (¬ v4 < 0) then (if ((A 9) v4) = 0 then (if (¬ v4 < 0) ∧ (v2 = 0 → ¬ (F 6) = 0 → (en_pathContains (ups A 9 (ups (A 9) v4 (1 : Int32))) v1 v4).isSome = true) ∧ ((en_appendChild F (ups A 9 (ups (A 9) v4 (1 : Int32))) v1 v4 (if v2 = 0 then (if (F 6) = 0 then (0 : Int32) else (if (R_pathContains (ups A 9 (ups (A 9) v4 (1 : Int32))) v1 v4) = 0 then (0 : Int32) else (1 : Int32))) else (0 : Int32))).isSome = true) then (if (R_appendChild F (ups A 9 (ups (A 9) v4 (1 : Int32))) v1 v4 (if v2 = 0 then (if (F 6) = 0 then (0 : Int32) else (if (R_pathContains (ups A 9 (ups (A 9) v4 (1 : Int32))) v1 v4) = 0 then (0 : Int32) else (1 : Int32))) else (0 : Int32))).1 = 0 then some ((0 : Int32), (R_appendChild F (ups A 9 (ups (A 9) v4 (1 : Int32))) v1 v4 (if v2 = 0 then (if (F 6) = 0 then (0 : Int32) else (if (R_pathContains (ups A 9 (ups (A 9) v4 (1 : Int32))) v1 v4) = 0 then (0 : Int32) else (1 : Int32))) else (0 : Int32))).2.1, (R_appendChild F (ups A 9 (ups (A 9) v4 (1 : Int32))) v1 v4 (if v2 = 0 then (if (F 6) = 0 then (0 : Int32) else (if (R_pathContains (ups A 9 (ups (A 9) v4 (1 : Int32))) v1 v4) = 0 then (0 : Int32) else (1 : Int32))) else (0 : Int32))).2.2) else lp_expandRow n 10 v1 v2 v3 (v4 + (1 : Int32)) (R_appendChild F (ups A 9 (ups (A 9) v4 (1 : Int32))) v1 v4 (if v2 = 0 then (if (F 6) = 0 then (0 : Int32) else (if (R_pathContains (ups A 9 (ups (A 9) v4 (1 : Int32))) v1 v4) = 0 then (0 : Int32) else (1 : Int32))) else (0 : Int32))).2.1 (R_appendChild F (ups A 9 (ups (A 9) v4 (1 : Int32))) v1 v4 (if v2 = 0 then (if (F 6) = 0 then (0 : Int32) else (if (R_pathContains (ups A 9 (ups (A 9) v4 (1 : Int32))) v1 v4) = 0 then (0 : Int32) else (1 : Int32))) else (0 : Int32))).2.2) else none) else lp_expandRow n 10 v1 v2 v3 (v4 + (1 : Int32)) F A) else none))) else none) else some ((1 : Int32), F, A)) else some ((1 : Int32), F, A)) := by
  rw [lp_expandRow, if_pos rfl]
set_option maxRecDepth 65536 in
set_option maxHeartbeats 4000000 in
theorem lpw_expandRow {l : Launch} {Z : State} {a0 : Array Value} (H : OK Z a0) (G : Nat → Int64) (B : Nat → Int32 → Int64) : ∀ (n : Nat) (v1 : Int32) (v2 : Int32) (v3 : Int32) (v4 : Int32) (F : Nat → Int32) (A : Nat → Int32 → Int32) (r : Int32 × (Nat → Int32) × (Nat → Int32 → Int32)), (lp_expandRow n 10 v1 v2 v3 v4 F A = some r → Wk l Z (MoC Z cdC) md_expandRow 10 [.val (.ref 0), .val (.int v1), .val (.int v2), .val (.int v3), .val (.int v4), .unset] [] (10, F, G, A, B) 0 0 (fun v w' => v = some (.int r.1) ∧ w' = (10, r.2.1, G, r.2.2, B))) := by
  intro n
  induction n with
  | zero =>
    intro v1 v2 v3 v4 F A r
    exact (fun h => by rw [lp_expandRow_z] at h; cases h)
  | succ n ih =>
    intro v1 v2 v3 v4 F A r
    refine fun h => ?_
    · rw [lp_expandRow_10] at h
      exact wp_expandRow_10 H F G A B v1 v2 v3 v4 (fun q1 => (rt_expandRow _ _ _ _ _ r (Option.some.inj (ifn q1 h)))) (fun q1 q3 => (rt_expandRow _ _ _ _ _ r (Option.some.inj (ifn q3 (ifp q1 h))))) (fun q1 q3 => (gd (ifp q3 (ifp q1 h))).1.1) (fun q1 q3 => (gd (ifp q3 (ifp q1 h))).1.2) (fun q1 q3 q7 q8 q9 q10 => ((gd (ifp q8 (ifn q7 (gd (ifp q3 (ifp q1 h))).2))).1.1) q9 q10) (fun q1 q3 q7 q8 => (gd (ifp q8 (ifn q7 (gd (ifp q3 (ifp q1 h))).2))).1.2) (fun q1 q3 q7 q8 q17 => (ih _ _ _ _ _ _ _) (ifn q17 (gd (ifp q8 (ifn q7 (gd (ifp q3 (ifp q1 h))).2))).2)) (fun q1 q3 q7 q8 q17 => (rt_expandRow _ _ _ _ _ r (Option.some.inj (ifp q17 (gd (ifp q8 (ifn q7 (gd (ifp q3 (ifp q1 h))).2))).2)))) (fun q1 q3 q7 q8 => (gd (ifn q8 (ifn q7 (gd (ifp q3 (ifp q1 h))).2))).1) (fun q1 q3 q7 q8 q21 => (gd (ifp q21 (gd (ifn q8 (ifn q7 (gd (ifp q3 (ifp q1 h))).2))).2)).1.1) (fun q1 q3 q7 q8 q21 q23 q24 => ((gd (ifp q21 (gd (ifn q8 (ifn q7 (gd (ifp q3 (ifp q1 h))).2))).2)).1.2.1) q23 q24) (fun q1 q3 q7 q8 q21 => (gd (ifp q21 (gd (ifn q8 (ifn q7 (gd (ifp q3 (ifp q1 h))).2))).2)).1.2.2) (fun q1 q3 q7 q8 q21 q31 => (ih _ _ _ _ _ _ _) (ifn q31 (gd (ifp q21 (gd (ifn q8 (ifn q7 (gd (ifp q3 (ifp q1 h))).2))).2)).2)) (fun q1 q3 q7 q8 q21 q31 => (rt_expandRow _ _ _ _ _ r (Option.some.inj (ifp q31 (gd (ifp q21 (gd (ifn q8 (ifn q7 (gd (ifp q3 (ifp q1 h))).2))).2)).2)))) (fun q1 q3 q7 q8 q21 => (ih _ _ _ _ _ _ _) (ifn q21 (gd (ifn q8 (ifn q7 (gd (ifp q3 (ifp q1 h))).2))).2)) (fun q1 q3 q7 => (ih _ _ _ _ _ _ _) (ifp q7 (gd (ifp q3 (ifp q1 h))).2))
def en_expandRow (F : Nat → Int32) (A : Nat → Int32 → Int32) (p1 : Int32) (p2 : Int32) : Option (Int32 × (Nat → Int32) × (Nat → Int32 → Int32)) := (if (¬ p1 < 0) ∧ (p1 < (64 : Int32)) then lp_expandRow 1000 10 p1 p2 ((A 2) p1) (0 : Int32) F A else none)
theorem een_expandRow (F : Nat → Int32) (A : Nat → Int32 → Int32) (p1 : Int32) (p2 : Int32) : en_expandRow F A p1 p2 = (if (¬ p1 < 0) ∧ (p1 < (64 : Int32)) then lp_expandRow 1000 10 p1 p2 ((A 2) p1) (0 : Int32) F A else none) := Eq.trans rfl rfl
def R_expandRow (F : Nat → Int32) (A : Nat → Int32 → Int32) (p1 : Int32) (p2 : Int32) : Int32 × (Nat → Int32) × (Nat → Int32 → Int32) := (en_expandRow F A p1 p2).getD (0, (fun _ => 0), (fun _ _ => 0))
theorem eR_expandRow (F : Nat → Int32) (A : Nat → Int32 → Int32) (p1 : Int32) (p2 : Int32) : R_expandRow F A p1 p2 = (en_expandRow F A p1 p2).getD (0, (fun _ => 0), (fun _ _ => 0)) := Eq.trans rfl rfl
set_option maxRecDepth 65536 in
set_option maxHeartbeats 4000000 in
theorem run_expandRow {l : Launch} {Z : State} {a0 : Array Value} (H : OK Z a0) (F : Nat → Int32) (G : Nat → Int64) (A : Nat → Int32 → Int32) (B : Nat → Int32 → Int64) (p1 : Int32) (p2 : Int32) (e1 : (en_expandRow F A p1 p2).isSome = true) :
    Wk l Z (MoC Z cdC) md_expandRow 0 [.val (.ref 0), .val (.int p1), .val (.int p2), .unset, .unset, .unset] [] (10, F, G, A, B) 0 0 (fun v w' => v = some (.int (R_expandRow F A p1 p2).1) ∧ w' = (10, (R_expandRow F A p1 p2).2.1, G, (R_expandRow F A p1 p2).2.2, B)) := by
  obtain ⟨r, h⟩ := Option.isSome_iff_exists.mp e1
  have e : R_expandRow F A p1 p2 = r := (eR_expandRow F A p1 p2).trans (getD_some h)
  rw [e]
  rw [een_expandRow] at h
  exact wp_expandRow H F G A B p1 p2 ((gd h).1.1) ((gd h).1.2) ((lpw_expandRow H G B _ _ _ _ _ _ _ _) (gd h).2)
set_option maxRecDepth 65536 in
set_option maxHeartbeats 4000000 in
theorem wp_runLevels {l : Launch} {Z : State} {a0 : Array Value} (H : OK Z a0) (F : Nat → Int32) (G : Nat → Int64) (A : Nat → Int32 → Int32) (B : Nat → Int32 → Int64) (p1 : Int32) {Q : Option Value → WO → Prop} (h1 : Wk l Z (MoC Z cdC) md_runLevels 2 [.val (.ref 0), .val (.int p1), .val (.int (0 : Int32))] [] (10, F, G, A, B) 0 0 Q) :
    Wk l Z (MoC Z cdC) md_runLevels 0 [.val (.ref 0), .val (.int p1), .unset] [] (10, F, G, A, B) 0 0 Q := by
  refine Wk.iconst o_runLevels_0 (z := (0 : Int32)) (by decide) ?_
  refine Wk.istoreN o_runLevels_1 (Or.inl rfl) (L' := [.val (.ref 0), .val (.int p1), .val (.int (0 : Int32))]) rfl ?_
  exact h1

set_option maxRecDepth 65536 in
set_option maxHeartbeats 4000000 in
theorem wp_runLevels_2 {l : Launch} {Z : State} {a0 : Array Value} (H : OK Z a0) (F : Nat → Int32) (G : Nat → Int64) (A : Nat → Int32 → Int32) (B : Nat → Int32 → Int64) (v1 : Int32) (v2 : Int32) {Q : Option Value → WO → Prop} (h2 : ¬ v2 < (16 : Int32) → Wk l Z (MoC Z cdC) md_runLevels 23 [.val (.ref 0), .val (.int v1), .val (.int (0 : Int32))] [] (10, F, G, A, B) 0 0 Q) (s3 : v2 < (16 : Int32) → ¬ v2 < 0) (h4 : v2 < (16 : Int32) → Wk l Z (MoC Z cdC) md_runLevels 2 [.val (.ref 0), .val (.int v1), .val (.int (v2 + (1 : Int32)))] [] (10, F, G, (ups A 9 (ups (A 9) v2 (0 : Int32))), B) 0 0 Q) :
    Wk l Z (MoC Z cdC) md_runLevels 2 [.val (.ref 0), .val (.int v1), .val (.int v2)] [] (10, F, G, A, B) 0 0 Q := by
  refine Wk.iloadN o_runLevels_2 rfl ?_
  refine Wk.bipush o_runLevels_3 (z := (16 : Int32)) (by decide) ?_
  refine Wk.icmp_ge o_runLevels_5 (fun q1 => ?_) (fun q1 => ?_)
  · refine Wk.iconst o_runLevels_21 (z := (0 : Int32)) (by decide) ?_
    refine Wk.istoreN o_runLevels_22 (Or.inr ⟨_, rfl, rfl⟩) (L' := [.val (.ref 0), .val (.int v1), .val (.int (0 : Int32))]) rfl ?_
    exact (h2 q1)
  · refine Wk.aloadN o_runLevels_8 rfl ?_
    refine Wk.getA (mA_found) (by decide) (i' := 10) rfl (wf_found H) o_runLevels_9 ?_
    refine Wk.iloadN o_runLevels_12 rfl ?_
    refine Wk.iconst o_runLevels_13 (z := (0 : Int32)) (by decide) ?_
    refine Wk.bastore (coC H) (f := (A 9)) (v' := (0 : Int32)) (by decide) (mA_found) rfl (by decide) (i' := 10) rfl (s3 q1) q1 o_runLevels_14 ?_
    refine Wk.iinc o_runLevels_15 rfl (z := (v2 + (1 : Int32))) rfl (L' := [.val (.ref 0), .val (.int v1), .val (.int (v2 + (1 : Int32)))]) rfl ?_
    refine Wk.goto o_runLevels_18 ?_
    exact (h4 q1)

set_option maxRecDepth 65536 in
set_option maxHeartbeats 4000000 in
theorem wp_runLevels_23 {l : Launch} {Z : State} {a0 : Array Value} (H : OK Z a0) (F : Nat → Int32) (G : Nat → Int64) (A : Nat → Int32 → Int32) (B : Nat → Int32 → Int64) (v1 : Int32) (v2 : Int32) {Q : Option Value → WO → Prop} (h2 : ¬ v2 < (F 0) → Wk l Z (MoC Z cdC) md_runLevels 71 [.val (.ref 0), .val (.int v1), .val (.int (0 : Int32))] [] (10, F, G, A, B) 0 0 Q) (h4 : v2 < (F 0) → ¬ v2 < (16 : Int32) → Wk l Z (MoC Z cdC) md_runLevels 71 [.val (.ref 0), .val (.int v1), .val (.int (0 : Int32))] [] (10, F, G, A, B) 0 0 Q) (s5 : v2 < (F 0) → v2 < (16 : Int32) → ¬ v2 < 0) (h7 : v2 < (F 0) → v2 < (16 : Int32) → ((A 1) v2) = 0 → Wk l Z (MoC Z cdC) md_runLevels 23 [.val (.ref 0), .val (.int v1), .val (.int (v2 + (1 : Int32)))] [] (10, F, G, A, B) 0 0 Q) (s8 : v2 < (F 0) → v2 < (16 : Int32) → ¬ ((A 1) v2) = 0 → ¬ v2 < 0) (s9 : v2 < (F 0) → v2 < (16 : Int32) → ¬ ((A 1) v2) = 0 → (en_appendRoot F (ups A 9 (ups (A 9) v2 (1 : Int32))) v2).isSome = true) (h11 : v2 < (F 0) → v2 < (16 : Int32) → ¬ ((A 1) v2) = 0 → ¬ (R_appendRoot F (ups A 9 (ups (A 9) v2 (1 : Int32))) v2).1 = 0 → Wk l Z (MoC Z cdC) md_runLevels 23 [.val (.ref 0), .val (.int v1), .val (.int (v2 + (1 : Int32)))] [] (10, (R_appendRoot F (ups A 9 (ups (A 9) v2 (1 : Int32))) v2).2.1, G, (R_appendRoot F (ups A 9 (ups (A 9) v2 (1 : Int32))) v2).2.2, B) 0 0 Q) (h12 : v2 < (F 0) → v2 < (16 : Int32) → ¬ ((A 1) v2) = 0 → (R_appendRoot F (ups A 9 (ups (A 9) v2 (1 : Int32))) v2).1 = 0 → Q (some (.int (0 : Int32))) (10, (R_appendRoot F (ups A 9 (ups (A 9) v2 (1 : Int32))) v2).2.1, G, (R_appendRoot F (ups A 9 (ups (A 9) v2 (1 : Int32))) v2).2.2, B)) :
    Wk l Z (MoC Z cdC) md_runLevels 23 [.val (.ref 0), .val (.int v1), .val (.int v2)] [] (10, F, G, A, B) 0 0 Q := by
  refine Wk.iloadN o_runLevels_23 rfl ?_
  refine Wk.aloadN o_runLevels_24 rfl ?_
  refine Wk.getI (mI_maxNodes) (wf_maxNodes H) o_runLevels_25 (x := (F 0)) rfl ?_
  refine Wk.icmp_ge o_runLevels_28 (fun q1 => ?_) (fun q1 => ?_)
  · refine Wk.iconst o_runLevels_69 (z := (0 : Int32)) (by decide) ?_
    refine Wk.istoreN o_runLevels_70 (Or.inr ⟨_, rfl, rfl⟩) (L' := [.val (.ref 0), .val (.int v1), .val (.int (0 : Int32))]) rfl ?_
    exact (h2 q1)
  · refine Wk.iloadN o_runLevels_31 rfl ?_
    refine Wk.bipush o_runLevels_32 (z := (16 : Int32)) (by decide) ?_
    refine Wk.icmp_ge o_runLevels_34 (fun q3 => ?_) (fun q3 => ?_)
    · refine Wk.iconst o_runLevels_69 (z := (0 : Int32)) (by decide) ?_
      refine Wk.istoreN o_runLevels_70 (Or.inr ⟨_, rfl, rfl⟩) (L' := [.val (.ref 0), .val (.int v1), .val (.int (0 : Int32))]) rfl ?_
      exact (h4 q1 q3)
    · refine Wk.aloadN o_runLevels_37 rfl ?_
      refine Wk.getA (mA_seed) (by decide) (i' := 2) rfl (wf_seed H) o_runLevels_38 ?_
      refine Wk.iloadN o_runLevels_41 rfl ?_
      refine Wk.baload (mA_seed) (by decide) (i' := 2) rfl (s5 q1 q3) q3 o_runLevels_42 (y := ((A 1) v2)) rfl ?_
      refine Wk.if_eq o_runLevels_43 (fun q6 => ?_) (fun q6 => ?_)
      · refine Wk.iinc o_runLevels_63 rfl (z := (v2 + (1 : Int32))) rfl (L' := [.val (.ref 0), .val (.int v1), .val (.int (v2 + (1 : Int32)))]) rfl ?_
        refine Wk.goto o_runLevels_66 ?_
        exact (h7 q1 q3 q6)
      · refine Wk.aloadN o_runLevels_46 rfl ?_
        refine Wk.getA (mA_found) (by decide) (i' := 10) rfl (wf_found H) o_runLevels_47 ?_
        refine Wk.iloadN o_runLevels_50 rfl ?_
        refine Wk.iconst o_runLevels_51 (z := (1 : Int32)) (by decide) ?_
        refine Wk.bastore (coC H) (f := (A 9)) (v' := (1 : Int32)) (by decide) (mA_found) rfl (by decide) (i' := 10) rfl (s8 q1 q3 q6) q3 o_runLevels_52 ?_
        refine Wk.aloadN o_runLevels_53 rfl ?_
        refine Wk.iloadN o_runLevels_54 rfl ?_
        refine Wk.callF [.int v2] [] (H.w 164 rfl) (cv_appendRoot H) o_runLevels_55 (run_appendRoot H F G (ups A 9 (ups (A 9) v2 (1 : Int32))) B v2 (s9 q1 q3 q6)) (wt := 0) (cu' := 0) (su' := 0) (by decide) rfl rfl rfl rfl rfl rfl rfl ?_
        refine Wk.if_ne o_runLevels_58 (fun q10 => ?_) (fun q10 => ?_)
        · refine Wk.iinc o_runLevels_63 rfl (z := (v2 + (1 : Int32))) rfl (L' := [.val (.ref 0), .val (.int v1), .val (.int (v2 + (1 : Int32)))]) rfl ?_
          refine Wk.goto o_runLevels_66 ?_
          exact (h11 q1 q3 q6 q10)
        · refine Wk.iconst o_runLevels_61 (z := (0 : Int32)) (by decide) ?_
          exact Wk.zreturn mrC rfl o_runLevels_62 rfl (by decide) (by decide) (y := (0 : Int32)) (by decide) (h12 q1 q3 q6 q10)

set_option maxRecDepth 65536 in
set_option maxHeartbeats 4000000 in
theorem wp_runLevels_71 {l : Launch} {Z : State} {a0 : Array Value} (H : OK Z a0) (F : Nat → Int32) (G : Nat → Int64) (A : Nat → Int32 → Int32) (B : Nat → Int32 → Int64) (v1 : Int32) (v2 : Int32) {Q : Option Value → WO → Prop} (h2 : ¬ v2 < (F 9) → Q (some (.int (1 : Int32))) (10, F, G, A, B)) (h4 : v2 < (F 9) → ¬ v2 < (64 : Int32) → Q (some (.int (1 : Int32))) (10, F, G, A, B)) (s5 : v2 < (F 9) → v2 < (64 : Int32) → ¬ v2 < 0) (h7 : v2 < (F 9) → v2 < (64 : Int32) → ¬ ((A 3) v2) < (F 7) → Wk l Z (MoC Z cdC) md_runLevels 71 [.val (.ref 0), .val (.int v1), .val (.int (v2 + (1 : Int32)))] [] (10, F, G, A, B) 0 0 Q) (s8 : v2 < (F 9) → v2 < (64 : Int32) → ((A 3) v2) < (F 7) → ¬ v2 < 0) (h10 : v2 < (F 9) → v2 < (64 : Int32) → ((A 3) v2) < (F 7) → ¬ ((A 4) v2) = 0 → Wk l Z (MoC Z cdC) md_runLevels 71 [.val (.ref 0), .val (.int v1), .val (.int (v2 + (1 : Int32)))] [] (10, F, G, A, B) 0 0 Q) (s11 : v2 < (F 9) → v2 < (64 : Int32) → ((A 3) v2) < (F 7) → ((A 4) v2) = 0 → (en_expandRow F A v2 v1).isSome = true) (h13 : v2 < (F 9) → v2 < (64 : Int32) → ((A 3) v2) < (F 7) → ((A 4) v2) = 0 → ¬ (R_expandRow F A v2 v1).1 = 0 → Wk l Z (MoC Z cdC) md_runLevels 71 [.val (.ref 0), .val (.int v1), .val (.int (v2 + (1 : Int32)))] [] (10, (R_expandRow F A v2 v1).2.1, G, (R_expandRow F A v2 v1).2.2, B) 0 0 Q) (h14 : v2 < (F 9) → v2 < (64 : Int32) → ((A 3) v2) < (F 7) → ((A 4) v2) = 0 → (R_expandRow F A v2 v1).1 = 0 → Q (some (.int (0 : Int32))) (10, (R_expandRow F A v2 v1).2.1, G, (R_expandRow F A v2 v1).2.2, B)) :
    Wk l Z (MoC Z cdC) md_runLevels 71 [.val (.ref 0), .val (.int v1), .val (.int v2)] [] (10, F, G, A, B) 0 0 Q := by
  refine Wk.iloadN o_runLevels_71 rfl ?_
  refine Wk.aloadN o_runLevels_72 rfl ?_
  refine Wk.getI (mI_count) (wf_count H) o_runLevels_73 (x := (F 9)) rfl ?_
  refine Wk.icmp_ge o_runLevels_76 (fun q1 => ?_) (fun q1 => ?_)
  · refine Wk.iconst o_runLevels_124 (z := (1 : Int32)) (by decide) ?_
    exact Wk.zreturn mrC rfl o_runLevels_125 rfl (by decide) (by decide) (y := (1 : Int32)) (by decide) (h2 q1)
  · refine Wk.iloadN o_runLevels_79 rfl ?_
    refine Wk.bipush o_runLevels_80 (z := (64 : Int32)) (by decide) ?_
    refine Wk.icmp_ge o_runLevels_82 (fun q3 => ?_) (fun q3 => ?_)
    · refine Wk.iconst o_runLevels_124 (z := (1 : Int32)) (by decide) ?_
      exact Wk.zreturn mrC rfl o_runLevels_125 rfl (by decide) (by decide) (y := (1 : Int32)) (by decide) (h4 q1 q3)
    · refine Wk.aloadN o_runLevels_85 rfl ?_
      refine Wk.getA (mA_rowDepthA) (by decide) (i' := 4) rfl (wf_rowDepthA H) o_runLevels_86 ?_
      refine Wk.iloadN o_runLevels_89 rfl ?_
      refine Wk.iaload (mA_rowDepthA) (by decide) (i' := 4) rfl (s5 q1 q3) q3 o_runLevels_90 (y := ((A 3) v2)) rfl ?_
      refine Wk.aloadN o_runLevels_91 rfl ?_
      refine Wk.getI (mI_maxDepth) (wf_maxDepth H) o_runLevels_92 (x := (F 7)) rfl ?_
      refine Wk.icmp_ge o_runLevels_95 (fun q6 => ?_) (fun q6 => ?_)
      · refine Wk.iinc o_runLevels_118 rfl (z := (v2 + (1 : Int32))) rfl (L' := [.val (.ref 0), .val (.int v1), .val (.int (v2 + (1 : Int32)))]) rfl ?_
        refine Wk.goto o_runLevels_121 ?_
        exact (h7 q1 q3 q6)
      · refine Wk.aloadN o_runLevels_98 rfl ?_
        refine Wk.getA (mA_rowCycA) (by decide) (i' := 5) rfl (wf_rowCycA H) o_runLevels_99 ?_
        refine Wk.iloadN o_runLevels_102 rfl ?_
        refine Wk.baload (mA_rowCycA) (by decide) (i' := 5) rfl (s8 q1 q3 q6) q3 o_runLevels_103 (y := ((A 4) v2)) rfl ?_
        refine Wk.if_ne o_runLevels_104 (fun q9 => ?_) (fun q9 => ?_)
        · refine Wk.iinc o_runLevels_118 rfl (z := (v2 + (1 : Int32))) rfl (L' := [.val (.ref 0), .val (.int v1), .val (.int (v2 + (1 : Int32)))]) rfl ?_
          refine Wk.goto o_runLevels_121 ?_
          exact (h10 q1 q3 q6 q9)
        · refine Wk.aloadN o_runLevels_107 rfl ?_
          refine Wk.iloadN o_runLevels_108 rfl ?_
          refine Wk.iloadN o_runLevels_109 rfl ?_
          refine Wk.callF [.int v2, .int v1] [] (H.w 168 rfl) (cv_expandRow H) o_runLevels_110 (run_expandRow H F G A B v2 v1 (s11 q1 q3 q6 q9)) (wt := 0) (cu' := 0) (su' := 0) (by decide) rfl rfl rfl rfl rfl rfl rfl ?_
          refine Wk.if_ne o_runLevels_113 (fun q12 => ?_) (fun q12 => ?_)
          · refine Wk.iinc o_runLevels_118 rfl (z := (v2 + (1 : Int32))) rfl (L' := [.val (.ref 0), .val (.int v1), .val (.int (v2 + (1 : Int32)))]) rfl ?_
            refine Wk.goto o_runLevels_121 ?_
            exact (h13 q1 q3 q6 q9 q12)
          · refine Wk.iconst o_runLevels_116 (z := (0 : Int32)) (by decide) ?_
            exact Wk.zreturn mrC rfl o_runLevels_117 rfl (by decide) (by decide) (y := (0 : Int32)) (by decide) (h14 q1 q3 q6 q9 q12)

theorem rt_runLevels (G : Nat → Int64) (B : Nat → Int32 → Int64) (v0 : Int32) (xF : Nat → Int32) (xA : Nat → Int32 → Int32) (r : Int32 × (Nat → Int32) × (Nat → Int32 → Int32)) (e : (v0, xF, xA) = r) : some (Value.int v0) = some (.int r.1) ∧ (10, xF, G, xA, B) = (10, r.2.1, G, r.2.2, B) := by subst e; exact ⟨rfl, rfl⟩
def lp_runLevels : Nat → Nat → Int32 → Int32 → (Nat → Int32) → (Nat → Int32 → Int32) → Option (Int32 × (Nat → Int32) × (Nat → Int32 → Int32))
  | 0, _, _, _, _, _ => none
  | n + 1, tag, v1, v2, F, A => if tag = 2 then (if v2 < (16 : Int32) then (if (¬ v2 < 0) then lp_runLevels n 2 v1 (v2 + (1 : Int32)) F (ups A 9 (ups (A 9) v2 (0 : Int32))) else none) else lp_runLevels n 23 v1 (0 : Int32) F A) else if tag = 23 then (if v2 < (F 0) then (if v2 < (16 : Int32) then (if (¬ v2 < 0) then (if ((A 1) v2) = 0 then lp_runLevels n 23 v1 (v2 + (1 : Int32)) F A else (if (¬ v2 < 0) ∧ ((en_appendRoot F (ups A 9 (ups (A 9) v2 (1 : Int32))) v2).isSome = true) then (if (R_appendRoot F (ups A 9 (ups (A 9) v2 (1 : Int32))) v2).1 = 0 then some ((0 : Int32), (R_appendRoot F (ups A 9 (ups (A 9) v2 (1 : Int32))) v2).2.1, (R_appendRoot F (ups A 9 (ups (A 9) v2 (1 : Int32))) v2).2.2) else lp_runLevels n 23 v1 (v2 + (1 : Int32)) (R_appendRoot F (ups A 9 (ups (A 9) v2 (1 : Int32))) v2).2.1 (R_appendRoot F (ups A 9 (ups (A 9) v2 (1 : Int32))) v2).2.2) else none)) else none) else lp_runLevels n 71 v1 (0 : Int32) F A) else lp_runLevels n 71 v1 (0 : Int32) F A) else if tag = 71 then (if v2 < (F 9) then (if v2 < (64 : Int32) then (if (¬ v2 < 0) then (if ((A 3) v2) < (F 7) then (if (¬ v2 < 0) then (if ((A 4) v2) = 0 then (if ((en_expandRow F A v2 v1).isSome = true) then (if (R_expandRow F A v2 v1).1 = 0 then some ((0 : Int32), (R_expandRow F A v2 v1).2.1, (R_expandRow F A v2 v1).2.2) else lp_runLevels n 71 v1 (v2 + (1 : Int32)) (R_expandRow F A v2 v1).2.1 (R_expandRow F A v2 v1).2.2) else none) else lp_runLevels n 71 v1 (v2 + (1 : Int32)) F A) else none) else lp_runLevels n 71 v1 (v2 + (1 : Int32)) F A) else none) else some ((1 : Int32), F, A)) else some ((1 : Int32), F, A)) else none
theorem lp_runLevels_z (tag : Nat) (v1 : Int32) (v2 : Int32) (F : Nat → Int32) (A : Nat → Int32 → Int32) : lp_runLevels 0 tag v1 v2 F A = none := Eq.trans rfl rfl
theorem lp_runLevels_2 (n : Nat) (v1 : Int32) (v2 : Int32) (F : Nat → Int32) (A : Nat → Int32 → Int32) : lp_runLevels (n + 1) 2 v1 v2 F A = (if v2 < (16 : Int32) then (if (¬ v2 < 0) then lp_runLevels n 2 v1 (v2 + (1 : Int32)) F (ups A 9 (ups (A 9) v2 (0 : Int32))) else none) else lp_runLevels n 23 v1 (0 : Int32) F A) := by
  rw [lp_runLevels, if_pos rfl]
theorem lp_runLevels_23 (n : Nat) (v1 : Int32) (v2 : Int32) (F : Nat → Int32) (A : Nat → Int32 → Int32) : lp_runLevels (n + 1) 23 v1 v2 F A = (if v2 < (F 0) then (if v2 < (16 : Int32) then (if (¬ v2 < 0) then (if ((A 1) v2) = 0 then lp_runLevels n 23 v1 (v2 + (1 : Int32)) F A else (if (¬ v2 < 0) ∧ ((en_appendRoot F (ups A 9 (ups (A 9) v2 (1 : Int32))) v2).isSome = true) then (if (R_appendRoot F (ups A 9 (ups (A 9) v2 (1 : Int32))) v2).1 = 0 then some ((0 : Int32), (R_appendRoot F (ups A 9 (ups (A 9) v2 (1 : Int32))) v2).2.1, (R_appendRoot F (ups A 9 (ups (A 9) v2 (1 : Int32))) v2).2.2) else lp_runLevels n 23 v1 (v2 + (1 : Int32)) (R_appendRoot F (ups A 9 (ups (A 9) v2 (1 : Int32))) v2).2.1 (R_appendRoot F (ups A 9 (ups (A 9) v2 (1 : Int32))) v2).2.2) else none)) else none) else lp_runLevels n 71 v1 (0 : Int32) F A) else lp_runLevels n 71 v1 (0 : Int32) F A) := by
  rw [lp_runLevels, if_neg (by decide), if_pos rfl]
theorem lp_runLevels_71 (n : Nat) (v1 : Int32) (v2 : Int32) (F : Nat → Int32) (A : Nat → Int32 → Int32) : lp_runLevels (n + 1) 71 v1 v2 F A = (if v2 < (F 9) then (if v2 < (64 : Int32) then (if (¬ v2 < 0) then (if ((A 3) v2) < (F 7) then (if (¬ v2 < 0) then (if ((A 4) v2) = 0 then (if ((en_expandRow F A v2 v1).isSome = true) then (if (R_expandRow F A v2 v1).1 = 0 then some ((0 : Int32), (R_expandRow F A v2 v1).2.1, (R_expandRow F A v2 v1).2.2) else lp_runLevels n 71 v1 (v2 + (1 : Int32)) (R_expandRow F A v2 v1).2.1 (R_expandRow F A v2 v1).2.2) else none) else lp_runLevels n 71 v1 (v2 + (1 : Int32)) F A) else none) else lp_runLevels n 71 v1 (v2 + (1 : Int32)) F A) else none) else some ((1 : Int32), F, A)) else some ((1 : Int32), F, A)) := by
  rw [lp_runLevels, if_neg (by decide), if_neg (by decide), if_pos rfl]
set_option maxRecDepth 65536 in
set_option maxHeartbeats 4000000 in
theorem lpw_runLevels {l : Launch} {Z : State} {a0 : Array Value} (H : OK Z a0) (G : Nat → Int64) (B : Nat → Int32 → Int64) : ∀ (n : Nat) (v1 : Int32) (v2 : Int32) (F : Nat → Int32) (A : Nat → Int32 → Int32) (r : Int32 × (Nat → Int32) × (Nat → Int32 → Int32)), (lp_runLevels n 2 v1 v2 F A = some r → Wk l Z (MoC Z cdC) md_runLevels 2 [.val (.ref 0), .val (.int v1), .val (.int v2)] [] (10, F, G, A, B) 0 0 (fun v w' => v = some (.int r.1) ∧ w' = (10, r.2.1, G, r.2.2, B))) ∧ (lp_runLevels n 23 v1 v2 F A = some r → Wk l Z (MoC Z cdC) md_runLevels 23 [.val (.ref 0), .val (.int v1), .val (.int v2)] [] (10, F, G, A, B) 0 0 (fun v w' => v = some (.int r.1) ∧ w' = (10, r.2.1, G, r.2.2, B))) ∧ (lp_runLevels n 71 v1 v2 F A = some r → Wk l Z (MoC Z cdC) md_runLevels 71 [.val (.ref 0), .val (.int v1), .val (.int v2)] [] (10, F, G, A, B) 0 0 (fun v w' => v = some (.int r.1) ∧ w' = (10, r.2.1, G, r.2.2, B))) := by
  intro n
  induction n with
  | zero =>
    intro v1 v2 F A r
    exact ⟨(fun h => by rw [lp_runLevels_z] at h; cases h), (fun h => by rw [lp_runLevels_z] at h; cases h), (fun h => by rw [lp_runLevels_z] at h; cases h)⟩
  | succ n ih =>
    intro v1 v2 F A r
    refine ⟨fun h => ?_, fun h => ?_, fun h => ?_⟩
    · rw [lp_runLevels_2] at h
      exact wp_runLevels_2 H F G A B v1 v2 (fun q1 => (ih _ _ _ _ _).2.1 (ifn q1 h)) (fun q1 => (gd (ifp q1 h)).1) (fun q1 => (ih _ _ _ _ _).1 (gd (ifp q1 h)).2)
    · rw [lp_runLevels_23] at h
      exact wp_runLevels_23 H F G A B v1 v2 (fun q1 => (ih _ _ _ _ _).2.2 (ifn q1 h)) (fun q1 q3 => (ih _ _ _ _ _).2.2 (ifn q3 (ifp q1 h))) (fun q1 q3 => (gd (ifp q3 (ifp q1 h))).1) (fun q1 q3 q6 => (ih _ _ _ _ _).2.1 (ifp q6 (gd (ifp q3 (ifp q1 h))).2)) (fun q1 q3 q6 => (gd (ifn q6 (gd (ifp q3 (ifp q1 h))).2)).1.1) (fun q1 q3 q6 => (gd (ifn q6 (gd (ifp q3 (ifp q1 h))).2)).1.2) (fun q1 q3 q6 q10 => (ih _ _ _ _ _).2.1 (ifn q10 (gd (ifn q6 (gd (ifp q3 (ifp q1 h))).2)).2)) (fun q1 q3 q6 q10 => (rt_runLevels _ _ _ _ _ r (Option.some.inj (ifp q10 (gd (ifn q6 (gd (ifp q3 (ifp q1 h))).2)).2))))
    · rw [lp_runLevels_71] at h
      exact wp_runLevels_71 H F G A B v1 v2 (fun q1 => (rt_runLevels _ _ _ _ _ r (Option.some.inj (ifn q1 h)))) (fun q1 q3 => (rt_runLevels _ _ _ _ _ r (Option.some.inj (ifn q3 (ifp q1 h))))) (fun q1 q3 => (gd (ifp q3 (ifp q1 h))).1) (fun q1 q3 q6 => (ih _ _ _ _ _).2.2 (ifn q6 (gd (ifp q3 (ifp q1 h))).2)) (fun q1 q3 q6 => (gd (ifp q6 (gd (ifp q3 (ifp q1 h))).2)).1) (fun q1 q3 q6 q9 => (ih _ _ _ _ _).2.2 (ifn q9 (gd (ifp q6 (gd (ifp q3 (ifp q1 h))).2)).2)) (fun q1 q3 q6 q9 => (gd (ifp q9 (gd (ifp q6 (gd (ifp q3 (ifp q1 h))).2)).2)).1) (fun q1 q3 q6 q9 q12 => (ih _ _ _ _ _).2.2 (ifn q12 (gd (ifp q9 (gd (ifp q6 (gd (ifp q3 (ifp q1 h))).2)).2)).2)) (fun q1 q3 q6 q9 q12 => (rt_runLevels _ _ _ _ _ r (Option.some.inj (ifp q12 (gd (ifp q9 (gd (ifp q6 (gd (ifp q3 (ifp q1 h))).2)).2)).2))))
def en_runLevels (F : Nat → Int32) (A : Nat → Int32 → Int32) (p1 : Int32) : Option (Int32 × (Nat → Int32) × (Nat → Int32 → Int32)) := lp_runLevels 1000 2 p1 (0 : Int32) F A
theorem een_runLevels (F : Nat → Int32) (A : Nat → Int32 → Int32) (p1 : Int32) : en_runLevels F A p1 = lp_runLevels 1000 2 p1 (0 : Int32) F A := Eq.trans rfl rfl
def R_runLevels (F : Nat → Int32) (A : Nat → Int32 → Int32) (p1 : Int32) : Int32 × (Nat → Int32) × (Nat → Int32 → Int32) := (en_runLevels F A p1).getD (0, (fun _ => 0), (fun _ _ => 0))
theorem eR_runLevels (F : Nat → Int32) (A : Nat → Int32 → Int32) (p1 : Int32) : R_runLevels F A p1 = (en_runLevels F A p1).getD (0, (fun _ => 0), (fun _ _ => 0)) := Eq.trans rfl rfl
set_option maxRecDepth 65536 in
set_option maxHeartbeats 4000000 in
theorem run_runLevels {l : Launch} {Z : State} {a0 : Array Value} (H : OK Z a0) (F : Nat → Int32) (G : Nat → Int64) (A : Nat → Int32 → Int32) (B : Nat → Int32 → Int64) (p1 : Int32) (e1 : (en_runLevels F A p1).isSome = true) :
    Wk l Z (MoC Z cdC) md_runLevels 0 [.val (.ref 0), .val (.int p1), .unset] [] (10, F, G, A, B) 0 0 (fun v w' => v = some (.int (R_runLevels F A p1).1) ∧ w' = (10, (R_runLevels F A p1).2.1, G, (R_runLevels F A p1).2.2, B)) := by
  obtain ⟨r, h⟩ := Option.isSome_iff_exists.mp e1
  have e : R_runLevels F A p1 = r := (eR_runLevels F A p1).trans (getD_some h)
  rw [e]
  rw [een_runLevels] at h
  exact wp_runLevels H F G A B p1 ((lpw_runLevels H G B _ _ _ _ _ _).1 h)
set_option maxRecDepth 65536 in
set_option maxHeartbeats 4000000 in
theorem wp_pathLess {l : Launch} {Z : State} {a0 : Array Value} (H : OK Z a0) (F : Nat → Int32) (G : Nat → Int64) (A : Nat → Int32 → Int32) (B : Nat → Int32 → Int64) (p1 : Int32) (p2 : Int32) {Q : Option Value → WO → Prop} (s1 : ¬ p1 < 0) (s2 : p1 < (64 : Int32)) (s3 : ¬ p2 < 0) (s4 : p2 < (64 : Int32)) (h5 : Wk l Z (MoC Z cdC) md_pathLess 18 [.val (.ref 0), .val (.int p1), .val (.int p2), .val (.int ((A 3) p1)), .val (.int ((A 3) p2)), .val (.int (0 : Int32)), .unset, .unset] [] (10, F, G, A, B) 0 0 Q) :
    Wk l Z (MoC Z cdC) md_pathLess 0 [.val (.ref 0), .val (.int p1), .val (.int p2), .unset, .unset, .unset, .unset, .unset] [] (10, F, G, A, B) 0 0 Q := by
  refine Wk.aloadN o_pathLess_0 rfl ?_
  refine Wk.getA (mA_rowDepthA) (by decide) (i' := 4) rfl (wf_rowDepthA H) o_pathLess_1 ?_
  refine Wk.iloadN o_pathLess_4 rfl ?_
  refine Wk.iaload (mA_rowDepthA) (by decide) (i' := 4) rfl s1 s2 o_pathLess_5 (y := ((A 3) p1)) rfl ?_
  refine Wk.istoreN o_pathLess_6 (Or.inl rfl) (L' := [.val (.ref 0), .val (.int p1), .val (.int p2), .val (.int ((A 3) p1)), .unset, .unset, .unset, .unset]) rfl ?_
  refine Wk.aloadN o_pathLess_7 rfl ?_
  refine Wk.getA (mA_rowDepthA) (by decide) (i' := 4) rfl (wf_rowDepthA H) o_pathLess_8 ?_
  refine Wk.iloadN o_pathLess_11 rfl ?_
  refine Wk.iaload (mA_rowDepthA) (by decide) (i' := 4) rfl s3 s4 o_pathLess_12 (y := ((A 3) p2)) rfl ?_
  refine Wk.istore o_pathLess_13 (Or.inl rfl) (L' := [.val (.ref 0), .val (.int p1), .val (.int p2), .val (.int ((A 3) p1)), .val (.int ((A 3) p2)), .unset, .unset, .unset]) rfl ?_
  refine Wk.iconst o_pathLess_15 (z := (0 : Int32)) (by decide) ?_
  refine Wk.istore o_pathLess_16 (Or.inl rfl) (L' := [.val (.ref 0), .val (.int p1), .val (.int p2), .val (.int ((A 3) p1)), .val (.int ((A 3) p2)), .val (.int (0 : Int32)), .unset, .unset]) rfl ?_
  exact h5

set_option maxRecDepth 65536 in
set_option maxHeartbeats 4000000 in
theorem wp_pathLess_18 {l : Launch} {Z : State} {a0 : Array Value} (H : OK Z a0) (F : Nat → Int32) (G : Nat → Int64) (A : Nat → Int32 → Int32) (B : Nat → Int32 → Int64) (v1 : Int32) (v2 : Int32) (v3 : Int32) (v4 : Int32) (v5 : Int32) {Q : Option Value → WO → Prop} (h4 : v3 < v5 → Q (some (.int (nar .boolean (if v3 < v4 then (1 : Int32) else (0 : Int32))))) (10, F, G, A, B)) (h8 : ¬ v3 < v5 → v4 < v5 → Q (some (.int (nar .boolean (if v3 < v4 then (1 : Int32) else (0 : Int32))))) (10, F, G, A, B)) (h12 : ¬ v3 < v5 → ¬ v4 < v5 → ¬ v5 < (16 : Int32) → Q (some (.int (nar .boolean (if v3 < v4 then (1 : Int32) else (0 : Int32))))) (10, F, G, A, B)) (s13 : ¬ v3 < v5 → ¬ v4 < v5 → v5 < (16 : Int32) → ¬ ((v1 * (16 : Int32)) + v5) < 0) (s14 : ¬ v3 < v5 → ¬ v4 < v5 → v5 < (16 : Int32) → ((v1 * (16 : Int32)) + v5) < (1024 : Int32)) (s15 : ¬ v3 < v5 → ¬ v4 < v5 → v5 < (16 : Int32) → ¬ ((v2 * (16 : Int32)) + v5) < 0) (s16 : ¬ v3 < v5 → ¬ v4 < v5 → v5 < (16 : Int32) → ((v2 * (16 : Int32)) + v5) < (1024 : Int32)) (h18 : ¬ v3 < v5 → ¬ v4 < v5 → v5 < (16 : Int32) → ((A 5) ((v1 * (16 : Int32)) + v5)) = ((A 5) ((v2 * (16 : Int32)) + v5)) → Wk l Z (MoC Z cdC) md_pathLess 18 [.val (.ref 0), .val (.int v1), .val (.int v2), .val (.int v3), .val (.int v4), .val (.int (v5 + (1 : Int32))), .unset, .unset] [] (10, F, G, A, B) 0 0 Q) (h21 : ¬ v3 < v5 → ¬ v4 < v5 → v5 < (16 : Int32) → ¬ ((A 5) ((v1 * (16 : Int32)) + v5)) = ((A 5) ((v2 * (16 : Int32)) + v5)) → Q (some (.int (nar .boolean (if ((A 5) ((v1 * (16 : Int32)) + v5)) < ((A 5) ((v2 * (16 : Int32)) + v5)) then (1 : Int32) else (0 : Int32))))) (10, F, G, A, B)) :
    Wk l Z (MoC Z cdC) md_pathLess 18 [.val (.ref 0), .val (.int v1), .val (.int v2), .val (.int v3), .val (.int v4), .val (.int v5), .unset, .unset] [] (10, F, G, A, B) 0 0 Q := by
  refine Wk.iload o_pathLess_18 rfl ?_
  refine Wk.iloadN o_pathLess_20 rfl ?_
  refine Wk.icmp_gt o_pathLess_21 (fun q1 => ?_) (fun q1 => ?_)
  · refine Wk.iloadN o_pathLess_92 rfl ?_
    refine Wk.iload o_pathLess_93 rfl ?_
    have J3 : Wk l Z (MoC Z cdC) md_pathLess 103 [.val (.ref 0), .val (.int v1), .val (.int v2), .val (.int v3), .val (.int v4), .val (.int v5), .unset, .unset] [.int (if v3 < v4 then (1 : Int32) else (0 : Int32))] (10, F, G, A, B) 0 0 Q := by
      exact Wk.zreturn mrC rfl o_pathLess_103 rfl (by decide) (by decide) (y := (nar .boolean (if v3 < v4 then (1 : Int32) else (0 : Int32)))) rfl (h4 q1)
    refine Wk.icmp_ge o_pathLess_95 (fun q2 => ?_) (fun q2 => ?_)
    · refine Wk.iconst o_pathLess_102 (z := (0 : Int32)) (by decide) ?_
      first | (rw [show ((if v3 < v4 then (1 : Int32) else (0 : Int32)) : Int32) = (0 : Int32) from if_neg q2] at J3; exact J3) | exact J3 | (simp only [if_neg q2] at J3 ⊢; exact J3)
    · refine Wk.iconst o_pathLess_98 (z := (1 : Int32)) (by decide) ?_
      refine Wk.goto o_pathLess_99 ?_
      first | (rw [show ((if v3 < v4 then (1 : Int32) else (0 : Int32)) : Int32) = (1 : Int32) from if_pos q2] at J3; exact J3) | exact J3 | (simp only [if_pos q2] at J3 ⊢; exact J3)
  · refine Wk.iload o_pathLess_24 rfl ?_
    refine Wk.iload o_pathLess_26 rfl ?_
    refine Wk.icmp_gt o_pathLess_28 (fun q5 => ?_) (fun q5 => ?_)
    · refine Wk.iloadN o_pathLess_92 rfl ?_
      refine Wk.iload o_pathLess_93 rfl ?_
      have J7 : Wk l Z (MoC Z cdC) md_pathLess 103 [.val (.ref 0), .val (.int v1), .val (.int v2), .val (.int v3), .val (.int v4), .val (.int v5), .unset, .unset] [.int (if v3 < v4 then (1 : Int32) else (0 : Int32))] (10, F, G, A, B) 0 0 Q := by
        exact Wk.zreturn mrC rfl o_pathLess_103 rfl (by decide) (by decide) (y := (nar .boolean (if v3 < v4 then (1 : Int32) else (0 : Int32)))) rfl (h8 q1 q5)
      refine Wk.icmp_ge o_pathLess_95 (fun q6 => ?_) (fun q6 => ?_)
      · refine Wk.iconst o_pathLess_102 (z := (0 : Int32)) (by decide) ?_
        first | (rw [show ((if v3 < v4 then (1 : Int32) else (0 : Int32)) : Int32) = (0 : Int32) from if_neg q6] at J7; exact J7) | exact J7 | (simp only [if_neg q6] at J7 ⊢; exact J7)
      · refine Wk.iconst o_pathLess_98 (z := (1 : Int32)) (by decide) ?_
        refine Wk.goto o_pathLess_99 ?_
        first | (rw [show ((if v3 < v4 then (1 : Int32) else (0 : Int32)) : Int32) = (1 : Int32) from if_pos q6] at J7; exact J7) | exact J7 | (simp only [if_pos q6] at J7 ⊢; exact J7)
    · refine Wk.iload o_pathLess_31 rfl ?_
      refine Wk.bipush o_pathLess_33 (z := (16 : Int32)) (by decide) ?_
      refine Wk.icmp_ge o_pathLess_35 (fun q9 => ?_) (fun q9 => ?_)
      · refine Wk.iloadN o_pathLess_92 rfl ?_
        refine Wk.iload o_pathLess_93 rfl ?_
        have J11 : Wk l Z (MoC Z cdC) md_pathLess 103 [.val (.ref 0), .val (.int v1), .val (.int v2), .val (.int v3), .val (.int v4), .val (.int v5), .unset, .unset] [.int (if v3 < v4 then (1 : Int32) else (0 : Int32))] (10, F, G, A, B) 0 0 Q := by
          exact Wk.zreturn mrC rfl o_pathLess_103 rfl (by decide) (by decide) (y := (nar .boolean (if v3 < v4 then (1 : Int32) else (0 : Int32)))) rfl (h12 q1 q5 q9)
        refine Wk.icmp_ge o_pathLess_95 (fun q10 => ?_) (fun q10 => ?_)
        · refine Wk.iconst o_pathLess_102 (z := (0 : Int32)) (by decide) ?_
          first | (rw [show ((if v3 < v4 then (1 : Int32) else (0 : Int32)) : Int32) = (0 : Int32) from if_neg q10] at J11; exact J11) | exact J11 | (simp only [if_neg q10] at J11 ⊢; exact J11)
        · refine Wk.iconst o_pathLess_98 (z := (1 : Int32)) (by decide) ?_
          refine Wk.goto o_pathLess_99 ?_
          first | (rw [show ((if v3 < v4 then (1 : Int32) else (0 : Int32)) : Int32) = (1 : Int32) from if_pos q10] at J11; exact J11) | exact J11 | (simp only [if_pos q10] at J11 ⊢; exact J11)
      · refine Wk.aloadN o_pathLess_38 rfl ?_
        refine Wk.getA (mA_rowPathA) (by decide) (i' := 6) rfl (wf_rowPathA H) o_pathLess_39 ?_
        refine Wk.iloadN o_pathLess_42 rfl ?_
        refine Wk.bipush o_pathLess_43 (z := (16 : Int32)) (by decide) ?_
        refine Wk.imul o_pathLess_45 ?_
        refine Wk.iload o_pathLess_46 rfl ?_
        refine Wk.iadd o_pathLess_48 ?_
        refine Wk.iaload (mA_rowPathA) (by decide) (i' := 6) rfl (s13 q1 q5 q9) (s14 q1 q5 q9) o_pathLess_49 (y := ((A 5) ((v1 * (16 : Int32)) + v5))) rfl ?_
        refine Wk.istore o_pathLess_50 (Or.inl rfl) (L' := [.val (.ref 0), .val (.int v1), .val (.int v2), .val (.int v3), .val (.int v4), .val (.int v5), .val (.int ((A 5) ((v1 * (16 : Int32)) + v5))), .unset]) rfl ?_
        refine Wk.aloadN o_pathLess_52 rfl ?_
        refine Wk.getA (mA_rowPathA) (by decide) (i' := 6) rfl (wf_rowPathA H) o_pathLess_53 ?_
        refine Wk.iloadN o_pathLess_56 rfl ?_
        refine Wk.bipush o_pathLess_57 (z := (16 : Int32)) (by decide) ?_
        refine Wk.imul o_pathLess_59 ?_
        refine Wk.iload o_pathLess_60 rfl ?_
        refine Wk.iadd o_pathLess_62 ?_
        refine Wk.iaload (mA_rowPathA) (by decide) (i' := 6) rfl (s15 q1 q5 q9) (s16 q1 q5 q9) o_pathLess_63 (y := ((A 5) ((v2 * (16 : Int32)) + v5))) rfl ?_
        refine Wk.istore o_pathLess_64 (Or.inl rfl) (L' := [.val (.ref 0), .val (.int v1), .val (.int v2), .val (.int v3), .val (.int v4), .val (.int v5), .val (.int ((A 5) ((v1 * (16 : Int32)) + v5))), .val (.int ((A 5) ((v2 * (16 : Int32)) + v5)))]) rfl ?_
        refine Wk.iload o_pathLess_66 rfl ?_
        refine Wk.iload o_pathLess_68 rfl ?_
        refine Wk.icmp_eq o_pathLess_70 (fun q17 => ?_) (fun q17 => ?_)
        · refine Wk.iinc o_pathLess_86 rfl (z := (v5 + (1 : Int32))) rfl (L' := [.val (.ref 0), .val (.int v1), .val (.int v2), .val (.int v3), .val (.int v4), .val (.int (v5 + (1 : Int32))), .val (.int ((A 5) ((v1 * (16 : Int32)) + v5))), .val (.int ((A 5) ((v2 * (16 : Int32)) + v5)))]) rfl ?_
          refine Wk.goto o_pathLess_89 ?_
          refine Wk.forget [false, false, false, false, false, false, true, true] (L' := [.val (.ref 0), .val (.int v1), .val (.int v2), .val (.int v3), .val (.int v4), .val (.int (v5 + (1 : Int32))), .unset, .unset]) rfl rfl ?_
          exact (h18 q1 q5 q9 q17)
        · refine Wk.iload o_pathLess_73 rfl ?_
          refine Wk.iload o_pathLess_75 rfl ?_
          have J20 : Wk l Z (MoC Z cdC) md_pathLess 85 [.val (.ref 0), .val (.int v1), .val (.int v2), .val (.int v3), .val (.int v4), .val (.int v5), .val (.int ((A 5) ((v1 * (16 : Int32)) + v5))), .val (.int ((A 5) ((v2 * (16 : Int32)) + v5)))] [.int (if ((A 5) ((v1 * (16 : Int32)) + v5)) < ((A 5) ((v2 * (16 : Int32)) + v5)) then (1 : Int32) else (0 : Int32))] (10, F, G, A, B) 0 0 Q := by
            exact Wk.zreturn mrC rfl o_pathLess_85 rfl (by decide) (by decide) (y := (nar .boolean (if ((A 5) ((v1 * (16 : Int32)) + v5)) < ((A 5) ((v2 * (16 : Int32)) + v5)) then (1 : Int32) else (0 : Int32)))) rfl (h21 q1 q5 q9 q17)
          refine Wk.icmp_ge o_pathLess_77 (fun q19 => ?_) (fun q19 => ?_)
          · refine Wk.iconst o_pathLess_84 (z := (0 : Int32)) (by decide) ?_
            first | (rw [show ((if ((A 5) ((v1 * (16 : Int32)) + v5)) < ((A 5) ((v2 * (16 : Int32)) + v5)) then (1 : Int32) else (0 : Int32)) : Int32) = (0 : Int32) from if_neg q19] at J20; exact J20) | exact J20 | (simp only [if_neg q19] at J20 ⊢; exact J20)
          · refine Wk.iconst o_pathLess_80 (z := (1 : Int32)) (by decide) ?_
            refine Wk.goto o_pathLess_81 ?_
            first | (rw [show ((if ((A 5) ((v1 * (16 : Int32)) + v5)) < ((A 5) ((v2 * (16 : Int32)) + v5)) then (1 : Int32) else (0 : Int32)) : Int32) = (1 : Int32) from if_pos q19] at J20; exact J20) | exact J20 | (simp only [if_pos q19] at J20 ⊢; exact J20)

theorem rt_pathLess (F : Nat → Int32) (G : Nat → Int64) (A : Nat → Int32 → Int32) (B : Nat → Int32 → Int64) (v0 : Int32) (r : Int32) (e : v0 = r) : some (Value.int v0) = some (.int r) ∧ (10, F, G, A, B) = (10, F, G, A, B) := by subst e; exact ⟨rfl, rfl⟩
def lp_pathLess : Nat → Nat → Int32 → Int32 → Int32 → Int32 → Int32 → (Nat → Int32 → Int32) → Option (Int32)
  | 0, _, _, _, _, _, _, _ => none
  | n + 1, tag, v1, v2, v3, v4, v5, A => if tag = 18 then (if v3 < v5 then some ((nar .boolean (if v3 < v4 then (1 : Int32) else (0 : Int32)))) else (if v4 < v5 then some ((nar .boolean (if v3 < v4 then (1 : Int32) else (0 : Int32)))) else (if v5 < (16 : Int32) then (if (¬ ((v1 * (16 : Int32)) + v5) < 0) ∧ (((v1 * (16 : Int32)) + v5) < (1024 : Int32)) ∧ (¬ ((v2 * (16 : Int32)) + v5) < 0) ∧ (((v2 * (16 : Int32)) + v5) < (1024 : Int32)) then (if ((A 5) ((v1 * (16 : Int32)) + v5)) = ((A 5) ((v2 * (16 : Int32)) + v5)) then lp_pathLess n 18 v1 v2 v3 v4 (v5 + (1 : Int32)) A else some ((nar .boolean (if ((A 5) ((v1 * (16 : Int32)) + v5)) < ((A 5) ((v2 * (16 : Int32)) + v5)) then (1 : Int32) else (0 : Int32))))) else none) else some ((nar .boolean (if v3 < v4 then (1 : Int32) else (0 : Int32))))))) else none
theorem lp_pathLess_z (tag : Nat) (v1 : Int32) (v2 : Int32) (v3 : Int32) (v4 : Int32) (v5 : Int32) (A : Nat → Int32 → Int32) : lp_pathLess 0 tag v1 v2 v3 v4 v5 A = none := Eq.trans rfl rfl
theorem lp_pathLess_18 (n : Nat) (v1 : Int32) (v2 : Int32) (v3 : Int32) (v4 : Int32) (v5 : Int32) (A : Nat → Int32 → Int32) : lp_pathLess (n + 1) 18 v1 v2 v3 v4 v5 A = (if v3 < v5 then some ((nar .boolean (if v3 < v4 then (1 : Int32) else (0 : Int32)))) else (if v4 < v5 then some ((nar .boolean (if v3 < v4 then (1 : Int32) else (0 : Int32)))) else (if v5 < (16 : Int32) then (if (¬ ((v1 * (16 : Int32)) + v5) < 0) ∧ (((v1 * (16 : Int32)) + v5) < (1024 : Int32)) ∧ (¬ ((v2 * (16 : Int32)) + v5) < 0) ∧ (((v2 * (16 : Int32)) + v5) < (1024 : Int32)) then (if ((A 5) ((v1 * (16 : Int32)) + v5)) = ((A 5) ((v2 * (16 : Int32)) + v5)) then lp_pathLess n 18 v1 v2 v3 v4 (v5 + (1 : Int32)) A else some ((nar .boolean (if ((A 5) ((v1 * (16 : Int32)) + v5)) < ((A 5) ((v2 * (16 : Int32)) + v5)) then (1 : Int32) else (0 : Int32))))) else none) else some ((nar .boolean (if v3 < v4 then (1 : Int32) else (0 : Int32))))))) := by
  rw [lp_pathLess, if_pos rfl]
set_option maxRecDepth 65536 in
set_option maxHeartbeats 4000000 in
theorem lpw_pathLess {l : Launch} {Z : State} {a0 : Array Value} (H : OK Z a0) (F : Nat → Int32) (G : Nat → Int64) (A : Nat → Int32 → Int32) (B : Nat → Int32 → Int64) : ∀ (n : Nat) (v1 : Int32) (v2 : Int32) (v3 : Int32) (v4 : Int32) (v5 : Int32) (r : Int32), (lp_pathLess n 18 v1 v2 v3 v4 v5 A = some r → Wk l Z (MoC Z cdC) md_pathLess 18 [.val (.ref 0), .val (.int v1), .val (.int v2), .val (.int v3), .val (.int v4), .val (.int v5), .unset, .unset] [] (10, F, G, A, B) 0 0 (fun v w' => v = some (.int r) ∧ w' = (10, F, G, A, B))) := by
  intro n
  induction n with
  | zero =>
    intro v1 v2 v3 v4 v5  r
    exact (fun h => by rw [lp_pathLess_z] at h; cases h)
  | succ n ih =>
    intro v1 v2 v3 v4 v5  r
    refine fun h => ?_
    · rw [lp_pathLess_18] at h
      exact wp_pathLess_18 H F G A B v1 v2 v3 v4 v5 (fun q1 => (rt_pathLess _ _ _ _ _ r (Option.some.inj (ifp q1 h)))) (fun q1 q5 => (rt_pathLess _ _ _ _ _ r (Option.some.inj (ifp q5 (ifn q1 h))))) (fun q1 q5 q9 => (rt_pathLess _ _ _ _ _ r (Option.some.inj (ifn q9 (ifn q5 (ifn q1 h)))))) (fun q1 q5 q9 => (gd (ifp q9 (ifn q5 (ifn q1 h)))).1.1) (fun q1 q5 q9 => (gd (ifp q9 (ifn q5 (ifn q1 h)))).1.2.1) (fun q1 q5 q9 => (gd (ifp q9 (ifn q5 (ifn q1 h)))).1.2.2.1) (fun q1 q5 q9 => (gd (ifp q9 (ifn q5 (ifn q1 h)))).1.2.2.2) (fun q1 q5 q9 q17 => (ih _ _ _ _ _ _) (ifp q17 (gd (ifp q9 (ifn q5 (ifn q1 h)))).2)) (fun q1 q5 q9 q17 => (rt_pathLess _ _ _ _ _ r (Option.some.inj (ifn q17 (gd (ifp q9 (ifn q5 (ifn q1 h)))).2))))
def en_pathLess (A : Nat → Int32 → Int32) (p1 : Int32) (p2 : Int32) : Option (Int32) := (if (¬ p1 < 0) ∧ (p1 < (64 : Int32)) ∧ (¬ p2 < 0) ∧ (p2 < (64 : Int32)) then lp_pathLess 1000 18 p1 p2 ((A 3) p1) ((A 3) p2) (0 : Int32) A else none)
theorem een_pathLess (A : Nat → Int32 → Int32) (p1 : Int32) (p2 : Int32) : en_pathLess A p1 p2 = (if (¬ p1 < 0) ∧ (p1 < (64 : Int32)) ∧ (¬ p2 < 0) ∧ (p2 < (64 : Int32)) then lp_pathLess 1000 18 p1 p2 ((A 3) p1) ((A 3) p2) (0 : Int32) A else none) := Eq.trans rfl rfl
def R_pathLess (A : Nat → Int32 → Int32) (p1 : Int32) (p2 : Int32) : Int32 := (en_pathLess A p1 p2).getD (0)
theorem eR_pathLess (A : Nat → Int32 → Int32) (p1 : Int32) (p2 : Int32) : R_pathLess A p1 p2 = (en_pathLess A p1 p2).getD (0) := Eq.trans rfl rfl
set_option maxRecDepth 65536 in
set_option maxHeartbeats 4000000 in
theorem run_pathLess {l : Launch} {Z : State} {a0 : Array Value} (H : OK Z a0) (F : Nat → Int32) (G : Nat → Int64) (A : Nat → Int32 → Int32) (B : Nat → Int32 → Int64) (p1 : Int32) (p2 : Int32) (e1 : (en_pathLess A p1 p2).isSome = true) :
    Wk l Z (MoC Z cdC) md_pathLess 0 [.val (.ref 0), .val (.int p1), .val (.int p2), .unset, .unset, .unset, .unset, .unset] [] (10, F, G, A, B) 0 0 (fun v w' => v = some (.int (R_pathLess A p1 p2)) ∧ w' = (10, F, G, A, B)) := by
  obtain ⟨r, h⟩ := Option.isSome_iff_exists.mp e1
  have e : R_pathLess A p1 p2 = r := (eR_pathLess A p1 p2).trans (getD_some h)
  rw [e]
  rw [een_pathLess] at h
  exact wp_pathLess H F G A B p1 p2 ((gd h).1.1) ((gd h).1.2.1) ((gd h).1.2.2.1) ((gd h).1.2.2.2) ((lpw_pathLess H F G A B _ _ _ _ _ _ _) (gd h).2)
set_option maxRecDepth 65536 in
set_option maxHeartbeats 4000000 in
theorem wp_swapRows {l : Launch} {Z : State} {a0 : Array Value} (H : OK Z a0) (F : Nat → Int32) (G : Nat → Int64) (A : Nat → Int32 → Int32) (B : Nat → Int32 → Int64) (p1 : Int32) (p2 : Int32) {Q : Option Value → WO → Prop} (s1 : ¬ p1 < 0) (s2 : p1 < (64 : Int32)) (s3 : ¬ p2 < 0) (s4 : p2 < (64 : Int32)) (h5 : Wk l Z (MoC Z cdC) md_swapRows 85 [.val (.ref 0), .val (.int p1), .val (.int p2), .unset, .unset, .unset, .val (.int (0 : Int32)), .unset] [] (10, F, G, (ups (ups (ups (ups (ups (ups A 2 (ups (A 2) p1 ((A 2) p2))) 2 (ups (ups (A 2) p1 ((A 2) p2)) p2 ((A 2) p1))) 3 (ups (A 3) p1 ((A 3) p2))) 3 (ups (ups (A 3) p1 ((A 3) p2)) p2 ((A 3) p1))) 4 (ups (A 4) p1 (nar .boolean ((A 4) p2)))) 4 (ups (ups (A 4) p1 (nar .boolean ((A 4) p2))) p2 (nar .boolean ((A 4) p1)))), B) 0 0 Q) :
    Wk l Z (MoC Z cdC) md_swapRows 0 [.val (.ref 0), .val (.int p1), .val (.int p2), .unset, .unset, .unset, .unset, .unset] [] (10, F, G, A, B) 0 0 Q := by
  refine Wk.aloadN o_swapRows_0 rfl ?_
  refine Wk.getA (mA_rowNodeA) (by decide) (i' := 3) rfl (wf_rowNodeA H) o_swapRows_1 ?_
  refine Wk.iloadN o_swapRows_4 rfl ?_
  refine Wk.iaload (mA_rowNodeA) (by decide) (i' := 3) rfl s1 s2 o_swapRows_5 (y := ((A 2) p1)) rfl ?_
  refine Wk.istoreN o_swapRows_6 (Or.inl rfl) (L' := [.val (.ref 0), .val (.int p1), .val (.int p2), .val (.int ((A 2) p1)), .unset, .unset, .unset, .unset]) rfl ?_
  refine Wk.aloadN o_swapRows_7 rfl ?_
  refine Wk.getA (mA_rowNodeA) (by decide) (i' := 3) rfl (wf_rowNodeA H) o_swapRows_8 ?_
  refine Wk.iloadN o_swapRows_11 rfl ?_
  refine Wk.aloadN o_swapRows_12 rfl ?_
  refine Wk.getA (mA_rowNodeA) (by decide) (i' := 3) rfl (wf_rowNodeA H) o_swapRows_13 ?_
  refine Wk.iloadN o_swapRows_16 rfl ?_
  refine Wk.iaload (mA_rowNodeA) (by decide) (i' := 3) rfl s3 s4 o_swapRows_17 (y := ((A 2) p2)) rfl ?_
  refine Wk.iastore (coC H) (f := (A 2)) (mA_rowNodeA) rfl (by decide) (i' := 3) rfl s1 s2 o_swapRows_18 ?_
  refine Wk.aloadN o_swapRows_19 rfl ?_
  refine Wk.getA (mA_rowNodeA) (by decide) (i' := 3) rfl (wf_rowNodeA H) o_swapRows_20 ?_
  refine Wk.iloadN o_swapRows_23 rfl ?_
  refine Wk.iloadN o_swapRows_24 rfl ?_
  refine Wk.iastore (coC H) (f := (ups (A 2) p1 ((A 2) p2))) (mA_rowNodeA) rfl (by decide) (i' := 3) rfl s3 s4 o_swapRows_25 ?_
  refine Wk.aloadN o_swapRows_26 rfl ?_
  refine Wk.getA (mA_rowDepthA) (by decide) (i' := 4) rfl (wf_rowDepthA H) o_swapRows_27 ?_
  refine Wk.iloadN o_swapRows_30 rfl ?_
  refine Wk.iaload (mA_rowDepthA) (by decide) (i' := 4) rfl s1 s2 o_swapRows_31 (y := ((A 3) p1)) rfl ?_
  refine Wk.istore o_swapRows_32 (Or.inl rfl) (L' := [.val (.ref 0), .val (.int p1), .val (.int p2), .val (.int ((A 2) p1)), .val (.int ((A 3) p1)), .unset, .unset, .unset]) rfl ?_
  refine Wk.aloadN o_swapRows_34 rfl ?_
  refine Wk.getA (mA_rowDepthA) (by decide) (i' := 4) rfl (wf_rowDepthA H) o_swapRows_35 ?_
  refine Wk.iloadN o_swapRows_38 rfl ?_
  refine Wk.aloadN o_swapRows_39 rfl ?_
  refine Wk.getA (mA_rowDepthA) (by decide) (i' := 4) rfl (wf_rowDepthA H) o_swapRows_40 ?_
  refine Wk.iloadN o_swapRows_43 rfl ?_
  refine Wk.iaload (mA_rowDepthA) (by decide) (i' := 4) rfl s3 s4 o_swapRows_44 (y := ((A 3) p2)) rfl ?_
  refine Wk.iastore (coC H) (f := (A 3)) (mA_rowDepthA) rfl (by decide) (i' := 4) rfl s1 s2 o_swapRows_45 ?_
  refine Wk.aloadN o_swapRows_46 rfl ?_
  refine Wk.getA (mA_rowDepthA) (by decide) (i' := 4) rfl (wf_rowDepthA H) o_swapRows_47 ?_
  refine Wk.iloadN o_swapRows_50 rfl ?_
  refine Wk.iload o_swapRows_51 rfl ?_
  refine Wk.iastore (coC H) (f := (ups (A 3) p1 ((A 3) p2))) (mA_rowDepthA) rfl (by decide) (i' := 4) rfl s3 s4 o_swapRows_53 ?_
  refine Wk.aloadN o_swapRows_54 rfl ?_
  refine Wk.getA (mA_rowCycA) (by decide) (i' := 5) rfl (wf_rowCycA H) o_swapRows_55 ?_
  refine Wk.iloadN o_swapRows_58 rfl ?_
  refine Wk.baload (mA_rowCycA) (by decide) (i' := 5) rfl s1 s2 o_swapRows_59 (y := ((A 4) p1)) rfl ?_
  refine Wk.istore o_swapRows_60 (Or.inl rfl) (L' := [.val (.ref 0), .val (.int p1), .val (.int p2), .val (.int ((A 2) p1)), .val (.int ((A 3) p1)), .val (.int ((A 4) p1)), .unset, .unset]) rfl ?_
  refine Wk.aloadN o_swapRows_62 rfl ?_
  refine Wk.getA (mA_rowCycA) (by decide) (i' := 5) rfl (wf_rowCycA H) o_swapRows_63 ?_
  refine Wk.iloadN o_swapRows_66 rfl ?_
  refine Wk.aloadN o_swapRows_67 rfl ?_
  refine Wk.getA (mA_rowCycA) (by decide) (i' := 5) rfl (wf_rowCycA H) o_swapRows_68 ?_
  refine Wk.iloadN o_swapRows_71 rfl ?_
  refine Wk.baload (mA_rowCycA) (by decide) (i' := 5) rfl s3 s4 o_swapRows_72 (y := ((A 4) p2)) rfl ?_
  refine Wk.bastore (coC H) (f := (A 4)) (v' := (nar .boolean ((A 4) p2))) rfl (mA_rowCycA) rfl (by decide) (i' := 5) rfl s1 s2 o_swapRows_73 ?_
  refine Wk.aloadN o_swapRows_74 rfl ?_
  refine Wk.getA (mA_rowCycA) (by decide) (i' := 5) rfl (wf_rowCycA H) o_swapRows_75 ?_
  refine Wk.iloadN o_swapRows_78 rfl ?_
  refine Wk.iload o_swapRows_79 rfl ?_
  refine Wk.bastore (coC H) (f := (ups (A 4) p1 (nar .boolean ((A 4) p2)))) (v' := (nar .boolean ((A 4) p1))) rfl (mA_rowCycA) rfl (by decide) (i' := 5) rfl s3 s4 o_swapRows_81 ?_
  refine Wk.iconst o_swapRows_82 (z := (0 : Int32)) (by decide) ?_
  refine Wk.istore o_swapRows_83 (Or.inl rfl) (L' := [.val (.ref 0), .val (.int p1), .val (.int p2), .val (.int ((A 2) p1)), .val (.int ((A 3) p1)), .val (.int ((A 4) p1)), .val (.int (0 : Int32)), .unset]) rfl ?_
  refine Wk.forget [false, false, false, true, true, true, false, false] (L' := [.val (.ref 0), .val (.int p1), .val (.int p2), .unset, .unset, .unset, .val (.int (0 : Int32)), .unset]) rfl rfl ?_
  exact h5

set_option maxRecDepth 65536 in
set_option maxHeartbeats 4000000 in
theorem wp_swapRows_85 {l : Launch} {Z : State} {a0 : Array Value} (H : OK Z a0) (F : Nat → Int32) (G : Nat → Int64) (A : Nat → Int32 → Int32) (B : Nat → Int32 → Int64) (v1 : Int32) (v2 : Int32) (v6 : Int32) {Q : Option Value → WO → Prop} (h2 : ¬ v6 < (16 : Int32) → Q none (10, F, G, A, B)) (s3 : v6 < (16 : Int32) → ¬ ((v1 * (16 : Int32)) + v6) < 0) (s4 : v6 < (16 : Int32) → ((v1 * (16 : Int32)) + v6) < (1024 : Int32)) (s5 : v6 < (16 : Int32) → ¬ ((v2 * (16 : Int32)) + v6) < 0) (s6 : v6 < (16 : Int32) → ((v2 * (16 : Int32)) + v6) < (1024 : Int32)) (h7 : v6 < (16 : Int32) → Wk l Z (MoC Z cdC) md_swapRows 85 [.val (.ref 0), .val (.int v1), .val (.int v2), .unset, .unset, .unset, .val (.int (v6 + (1 : Int32))), .unset] [] (10, F, G, (ups (ups A 5 (ups (A 5) ((v1 * (16 : Int32)) + v6) ((A 5) ((v2 * (16 : Int32)) + v6)))) 5 (ups (ups (A 5) ((v1 * (16 : Int32)) + v6) ((A 5) ((v2 * (16 : Int32)) + v6))) ((v2 * (16 : Int32)) + v6) ((A 5) ((v1 * (16 : Int32)) + v6)))), B) 0 0 Q) :
    Wk l Z (MoC Z cdC) md_swapRows 85 [.val (.ref 0), .val (.int v1), .val (.int v2), .unset, .unset, .unset, .val (.int v6), .unset] [] (10, F, G, A, B) 0 0 Q := by
  refine Wk.iload o_swapRows_85 rfl ?_
  refine Wk.bipush o_swapRows_87 (z := (16 : Int32)) (by decide) ?_
  refine Wk.icmp_ge o_swapRows_89 (fun q1 => ?_) (fun q1 => ?_)
  · exact Wk.ret mrC rfl o_swapRows_150 rfl (by decide) (by decide) (h2 q1)
  · refine Wk.aloadN o_swapRows_92 rfl ?_
    refine Wk.getA (mA_rowPathA) (by decide) (i' := 6) rfl (wf_rowPathA H) o_swapRows_93 ?_
    refine Wk.iloadN o_swapRows_96 rfl ?_
    refine Wk.bipush o_swapRows_97 (z := (16 : Int32)) (by decide) ?_
    refine Wk.imul o_swapRows_99 ?_
    refine Wk.iload o_swapRows_100 rfl ?_
    refine Wk.iadd o_swapRows_102 ?_
    refine Wk.iaload (mA_rowPathA) (by decide) (i' := 6) rfl (s3 q1) (s4 q1) o_swapRows_103 (y := ((A 5) ((v1 * (16 : Int32)) + v6))) rfl ?_
    refine Wk.istore o_swapRows_104 (Or.inl rfl) (L' := [.val (.ref 0), .val (.int v1), .val (.int v2), .unset, .unset, .unset, .val (.int v6), .val (.int ((A 5) ((v1 * (16 : Int32)) + v6)))]) rfl ?_
    refine Wk.aloadN o_swapRows_106 rfl ?_
    refine Wk.getA (mA_rowPathA) (by decide) (i' := 6) rfl (wf_rowPathA H) o_swapRows_107 ?_
    refine Wk.iloadN o_swapRows_110 rfl ?_
    refine Wk.bipush o_swapRows_111 (z := (16 : Int32)) (by decide) ?_
    refine Wk.imul o_swapRows_113 ?_
    refine Wk.iload o_swapRows_114 rfl ?_
    refine Wk.iadd o_swapRows_116 ?_
    refine Wk.aloadN o_swapRows_117 rfl ?_
    refine Wk.getA (mA_rowPathA) (by decide) (i' := 6) rfl (wf_rowPathA H) o_swapRows_118 ?_
    refine Wk.iloadN o_swapRows_121 rfl ?_
    refine Wk.bipush o_swapRows_122 (z := (16 : Int32)) (by decide) ?_
    refine Wk.imul o_swapRows_124 ?_
    refine Wk.iload o_swapRows_125 rfl ?_
    refine Wk.iadd o_swapRows_127 ?_
    refine Wk.iaload (mA_rowPathA) (by decide) (i' := 6) rfl (s5 q1) (s6 q1) o_swapRows_128 (y := ((A 5) ((v2 * (16 : Int32)) + v6))) rfl ?_
    refine Wk.iastore (coC H) (f := (A 5)) (mA_rowPathA) rfl (by decide) (i' := 6) rfl (s3 q1) (s4 q1) o_swapRows_129 ?_
    refine Wk.aloadN o_swapRows_130 rfl ?_
    refine Wk.getA (mA_rowPathA) (by decide) (i' := 6) rfl (wf_rowPathA H) o_swapRows_131 ?_
    refine Wk.iloadN o_swapRows_134 rfl ?_
    refine Wk.bipush o_swapRows_135 (z := (16 : Int32)) (by decide) ?_
    refine Wk.imul o_swapRows_137 ?_
    refine Wk.iload o_swapRows_138 rfl ?_
    refine Wk.iadd o_swapRows_140 ?_
    refine Wk.iload o_swapRows_141 rfl ?_
    refine Wk.iastore (coC H) (f := (ups (A 5) ((v1 * (16 : Int32)) + v6) ((A 5) ((v2 * (16 : Int32)) + v6)))) (mA_rowPathA) rfl (by decide) (i' := 6) rfl (s5 q1) (s6 q1) o_swapRows_143 ?_
    refine Wk.iinc o_swapRows_144 rfl (z := (v6 + (1 : Int32))) rfl (L' := [.val (.ref 0), .val (.int v1), .val (.int v2), .unset, .unset, .unset, .val (.int (v6 + (1 : Int32))), .val (.int ((A 5) ((v1 * (16 : Int32)) + v6)))]) rfl ?_
    refine Wk.goto o_swapRows_147 ?_
    refine Wk.forget [false, false, false, false, false, false, false, true] (L' := [.val (.ref 0), .val (.int v1), .val (.int v2), .unset, .unset, .unset, .val (.int (v6 + (1 : Int32))), .unset]) rfl rfl ?_
    exact (h7 q1)

theorem rt_swapRows (F : Nat → Int32) (G : Nat → Int64) (B : Nat → Int32 → Int64) (v0 : Int32) (xA : Nat → Int32 → Int32) (r : Int32 × (Nat → Int32 → Int32)) (e : (v0, xA) = r) : (none : Option Value) = none ∧ (10, F, G, xA, B) = (10, F, G, r.2, B) := by subst e; exact ⟨rfl, rfl⟩
def lp_swapRows : Nat → Nat → Int32 → Int32 → Int32 → (Nat → Int32 → Int32) → Option (Int32 × (Nat → Int32 → Int32))
  | 0, _, _, _, _, _ => none
  | n + 1, tag, v1, v2, v6, A => if tag = 85 then (if v6 < (16 : Int32) then (if (¬ ((v1 * (16 : Int32)) + v6) < 0) ∧ (((v1 * (16 : Int32)) + v6) < (1024 : Int32)) ∧ (¬ ((v2 * (16 : Int32)) + v6) < 0) ∧ (((v2 * (16 : Int32)) + v6) < (1024 : Int32)) then lp_swapRows n 85 v1 v2 (v6 + (1 : Int32)) (ups (ups A 5 (ups (A 5) ((v1 * (16 : Int32)) + v6) ((A 5) ((v2 * (16 : Int32)) + v6)))) 5 (ups (ups (A 5) ((v1 * (16 : Int32)) + v6) ((A 5) ((v2 * (16 : Int32)) + v6))) ((v2 * (16 : Int32)) + v6) ((A 5) ((v1 * (16 : Int32)) + v6)))) else none) else some ((0 : Int32), A)) else none
theorem lp_swapRows_z (tag : Nat) (v1 : Int32) (v2 : Int32) (v6 : Int32) (A : Nat → Int32 → Int32) : lp_swapRows 0 tag v1 v2 v6 A = none := Eq.trans rfl rfl
theorem lp_swapRows_85 (n : Nat) (v1 : Int32) (v2 : Int32) (v6 : Int32) (A : Nat → Int32 → Int32) : lp_swapRows (n + 1) 85 v1 v2 v6 A = (if v6 < (16 : Int32) then (if (¬ ((v1 * (16 : Int32)) + v6) < 0) ∧ (((v1 * (16 : Int32)) + v6) < (1024 : Int32)) ∧ (¬ ((v2 * (16 : Int32)) + v6) < 0) ∧ (((v2 * (16 : Int32)) + v6) < (1024 : Int32)) then lp_swapRows n 85 v1 v2 (v6 + (1 : Int32)) (ups (ups A 5 (ups (A 5) ((v1 * (16 : Int32)) + v6) ((A 5) ((v2 * (16 : Int32)) + v6)))) 5 (ups (ups (A 5) ((v1 * (16 : Int32)) + v6) ((A 5) ((v2 * (16 : Int32)) + v6))) ((v2 * (16 : Int32)) + v6) ((A 5) ((v1 * (16 : Int32)) + v6)))) else none) else some ((0 : Int32), A)) := by
  rw [lp_swapRows, if_pos rfl]
set_option maxRecDepth 65536 in
set_option maxHeartbeats 4000000 in
theorem lpw_swapRows {l : Launch} {Z : State} {a0 : Array Value} (H : OK Z a0) (F : Nat → Int32) (G : Nat → Int64) (B : Nat → Int32 → Int64) : ∀ (n : Nat) (v1 : Int32) (v2 : Int32) (v6 : Int32) (A : Nat → Int32 → Int32) (r : Int32 × (Nat → Int32 → Int32)), (lp_swapRows n 85 v1 v2 v6 A = some r → Wk l Z (MoC Z cdC) md_swapRows 85 [.val (.ref 0), .val (.int v1), .val (.int v2), .unset, .unset, .unset, .val (.int v6), .unset] [] (10, F, G, A, B) 0 0 (fun v w' => v = none ∧ w' = (10, F, G, r.2, B))) := by
  intro n
  induction n with
  | zero =>
    intro v1 v2 v6 A r
    exact (fun h => by rw [lp_swapRows_z] at h; cases h)
  | succ n ih =>
    intro v1 v2 v6 A r
    refine fun h => ?_
    · rw [lp_swapRows_85] at h
      exact wp_swapRows_85 H F G A B v1 v2 v6 (fun q1 => (rt_swapRows _ _ _ _ _ r (Option.some.inj (ifn q1 h)))) (fun q1 => (gd (ifp q1 h)).1.1) (fun q1 => (gd (ifp q1 h)).1.2.1) (fun q1 => (gd (ifp q1 h)).1.2.2.1) (fun q1 => (gd (ifp q1 h)).1.2.2.2) (fun q1 => (ih _ _ _ _ _) (gd (ifp q1 h)).2)
def en_swapRows (A : Nat → Int32 → Int32) (p1 : Int32) (p2 : Int32) : Option (Int32 × (Nat → Int32 → Int32)) := (if (¬ p1 < 0) ∧ (p1 < (64 : Int32)) ∧ (¬ p2 < 0) ∧ (p2 < (64 : Int32)) then lp_swapRows 1000 85 p1 p2 (0 : Int32) (ups (ups (ups (ups (ups (ups A 2 (ups (A 2) p1 ((A 2) p2))) 2 (ups (ups (A 2) p1 ((A 2) p2)) p2 ((A 2) p1))) 3 (ups (A 3) p1 ((A 3) p2))) 3 (ups (ups (A 3) p1 ((A 3) p2)) p2 ((A 3) p1))) 4 (ups (A 4) p1 (nar .boolean ((A 4) p2)))) 4 (ups (ups (A 4) p1 (nar .boolean ((A 4) p2))) p2 (nar .boolean ((A 4) p1)))) else none)
theorem een_swapRows (A : Nat → Int32 → Int32) (p1 : Int32) (p2 : Int32) : en_swapRows A p1 p2 = (if (¬ p1 < 0) ∧ (p1 < (64 : Int32)) ∧ (¬ p2 < 0) ∧ (p2 < (64 : Int32)) then lp_swapRows 1000 85 p1 p2 (0 : Int32) (ups (ups (ups (ups (ups (ups A 2 (ups (A 2) p1 ((A 2) p2))) 2 (ups (ups (A 2) p1 ((A 2) p2)) p2 ((A 2) p1))) 3 (ups (A 3) p1 ((A 3) p2))) 3 (ups (ups (A 3) p1 ((A 3) p2)) p2 ((A 3) p1))) 4 (ups (A 4) p1 (nar .boolean ((A 4) p2)))) 4 (ups (ups (A 4) p1 (nar .boolean ((A 4) p2))) p2 (nar .boolean ((A 4) p1)))) else none) := Eq.trans rfl rfl
def R_swapRows (A : Nat → Int32 → Int32) (p1 : Int32) (p2 : Int32) : Int32 × (Nat → Int32 → Int32) := (en_swapRows A p1 p2).getD (0, (fun _ _ => 0))
theorem eR_swapRows (A : Nat → Int32 → Int32) (p1 : Int32) (p2 : Int32) : R_swapRows A p1 p2 = (en_swapRows A p1 p2).getD (0, (fun _ _ => 0)) := Eq.trans rfl rfl
set_option maxRecDepth 65536 in
set_option maxHeartbeats 4000000 in
theorem run_swapRows {l : Launch} {Z : State} {a0 : Array Value} (H : OK Z a0) (F : Nat → Int32) (G : Nat → Int64) (A : Nat → Int32 → Int32) (B : Nat → Int32 → Int64) (p1 : Int32) (p2 : Int32) (e1 : (en_swapRows A p1 p2).isSome = true) :
    Wk l Z (MoC Z cdC) md_swapRows 0 [.val (.ref 0), .val (.int p1), .val (.int p2), .unset, .unset, .unset, .unset, .unset] [] (10, F, G, A, B) 0 0 (fun v w' => v = none ∧ w' = (10, F, G, (R_swapRows A p1 p2).2, B)) := by
  obtain ⟨r, h⟩ := Option.isSome_iff_exists.mp e1
  have e : R_swapRows A p1 p2 = r := (eR_swapRows A p1 p2).trans (getD_some h)
  rw [e]
  rw [een_swapRows] at h
  exact wp_swapRows H F G A B p1 p2 ((gd h).1.1) ((gd h).1.2.1) ((gd h).1.2.2.1) ((gd h).1.2.2.2) ((lpw_swapRows H F G B _ _ _ _ _ _) (gd h).2)
set_option maxRecDepth 65536 in
set_option maxHeartbeats 4000000 in
theorem wp_sortRows {l : Launch} {Z : State} {a0 : Array Value} (H : OK Z a0) (F : Nat → Int32) (G : Nat → Int64) (A : Nat → Int32 → Int32) (B : Nat → Int32 → Int64) {Q : Option Value → WO → Prop} (h1 : Wk l Z (MoC Z cdC) md_sortRows 2 [.val (.ref 0), .val (.int (1 : Int32)), .unset] [] (10, F, G, A, B) 0 0 Q) :
    Wk l Z (MoC Z cdC) md_sortRows 0 [.val (.ref 0), .unset, .unset] [] (10, F, G, A, B) 0 0 Q := by
  refine Wk.iconst o_sortRows_0 (z := (1 : Int32)) (by decide) ?_
  refine Wk.istoreN o_sortRows_1 (Or.inl rfl) (L' := [.val (.ref 0), .val (.int (1 : Int32)), .unset]) rfl ?_
  exact h1

set_option maxRecDepth 65536 in
set_option maxHeartbeats 4000000 in
theorem wp_sortRows_2 {l : Launch} {Z : State} {a0 : Array Value} (H : OK Z a0) (F : Nat → Int32) (G : Nat → Int64) (A : Nat → Int32 → Int32) (B : Nat → Int32 → Int64) (v1 : Int32) {Q : Option Value → WO → Prop} (h2 : ¬ v1 < (F 9) → Q none (10, F, G, A, B)) (h4 : v1 < (F 9) → ¬ v1 < (64 : Int32) → Q none (10, F, G, A, B)) (h5 : v1 < (F 9) → v1 < (64 : Int32) → Wk l Z (MoC Z cdC) md_sortRows 18 [.val (.ref 0), .val (.int v1), .val (.int v1)] [] (10, F, G, A, B) 0 0 Q) :
    Wk l Z (MoC Z cdC) md_sortRows 2 [.val (.ref 0), .val (.int v1), .unset] [] (10, F, G, A, B) 0 0 Q := by
  refine Wk.iloadN o_sortRows_2 rfl ?_
  refine Wk.aloadN o_sortRows_3 rfl ?_
  refine Wk.getI (mI_count) (wf_count H) o_sortRows_4 (x := (F 9)) rfl ?_
  refine Wk.icmp_ge o_sortRows_7 (fun q1 => ?_) (fun q1 => ?_)
  · exact Wk.ret mrC rfl o_sortRows_53 rfl (by decide) (by decide) (h2 q1)
  · refine Wk.iloadN o_sortRows_10 rfl ?_
    refine Wk.bipush o_sortRows_11 (z := (64 : Int32)) (by decide) ?_
    refine Wk.icmp_ge o_sortRows_13 (fun q3 => ?_) (fun q3 => ?_)
    · exact Wk.ret mrC rfl o_sortRows_53 rfl (by decide) (by decide) (h4 q1 q3)
    · refine Wk.iloadN o_sortRows_16 rfl ?_
      refine Wk.istoreN o_sortRows_17 (Or.inl rfl) (L' := [.val (.ref 0), .val (.int v1), .val (.int v1)]) rfl ?_
      exact (h5 q1 q3)

set_option maxRecDepth 65536 in
set_option maxHeartbeats 4000000 in
theorem wp_sortRows_18 {l : Launch} {Z : State} {a0 : Array Value} (H : OK Z a0) (F : Nat → Int32) (G : Nat → Int64) (A : Nat → Int32 → Int32) (B : Nat → Int32 → Int64) (v1 : Int32) (v2 : Int32) {Q : Option Value → WO → Prop} (h2 : ¬ 0 < v2 → Wk l Z (MoC Z cdC) md_sortRows 2 [.val (.ref 0), .val (.int (v1 + (1 : Int32))), .unset] [] (10, F, G, A, B) 0 0 Q) (s3 : 0 < v2 → (en_pathLess A v2 (v2 - (1 : Int32))).isSome = true) (h5 : 0 < v2 → (R_pathLess A v2 (v2 - (1 : Int32))) = 0 → Wk l Z (MoC Z cdC) md_sortRows 2 [.val (.ref 0), .val (.int (v1 + (1 : Int32))), .unset] [] (10, F, G, A, B) 0 0 Q) (s6 : 0 < v2 → ¬ (R_pathLess A v2 (v2 - (1 : Int32))) = 0 → (en_swapRows A v2 (v2 - (1 : Int32))).isSome = true) (h7 : 0 < v2 → ¬ (R_pathLess A v2 (v2 - (1 : Int32))) = 0 → Wk l Z (MoC Z cdC) md_sortRows 18 [.val (.ref 0), .val (.int v1), .val (.int (v2 + (-1 : Int32)))] [] (10, F, G, (R_swapRows A v2 (v2 - (1 : Int32))).2, B) 0 0 Q) :
    Wk l Z (MoC Z cdC) md_sortRows 18 [.val (.ref 0), .val (.int v1), .val (.int v2)] [] (10, F, G, A, B) 0 0 Q := by
  refine Wk.iloadN o_sortRows_18 rfl ?_
  refine Wk.if_le o_sortRows_19 (fun q1 => ?_) (fun q1 => ?_)
  · refine Wk.iinc o_sortRows_47 rfl (z := (v1 + (1 : Int32))) rfl (L' := [.val (.ref 0), .val (.int (v1 + (1 : Int32))), .val (.int v2)]) rfl ?_
    refine Wk.goto o_sortRows_50 ?_
    refine Wk.forget [false, false, true] (L' := [.val (.ref 0), .val (.int (v1 + (1 : Int32))), .unset]) rfl rfl ?_
    exact (h2 q1)
  · refine Wk.aloadN o_sortRows_22 rfl ?_
    refine Wk.iloadN o_sortRows_23 rfl ?_
    refine Wk.iloadN o_sortRows_24 rfl ?_
    refine Wk.iconst o_sortRows_25 (z := (1 : Int32)) (by decide) ?_
    refine Wk.isub o_sortRows_26 ?_
    refine Wk.callF [.int v2, .int (v2 - (1 : Int32))] [] (H.w 196 rfl) (cv_pathLess H) o_sortRows_27 (run_pathLess H F G A B v2 (v2 - (1 : Int32)) (s3 q1)) (wt := 0) (cu' := 0) (su' := 0) (by decide) rfl rfl rfl rfl rfl rfl rfl ?_
    refine Wk.if_eq o_sortRows_30 (fun q4 => ?_) (fun q4 => ?_)
    · refine Wk.iinc o_sortRows_47 rfl (z := (v1 + (1 : Int32))) rfl (L' := [.val (.ref 0), .val (.int (v1 + (1 : Int32))), .val (.int v2)]) rfl ?_
      refine Wk.goto o_sortRows_50 ?_
      refine Wk.forget [false, false, true] (L' := [.val (.ref 0), .val (.int (v1 + (1 : Int32))), .unset]) rfl rfl ?_
      exact (h5 q1 q4)
    · refine Wk.aloadN o_sortRows_33 rfl ?_
      refine Wk.iloadN o_sortRows_34 rfl ?_
      refine Wk.iloadN o_sortRows_35 rfl ?_
      refine Wk.iconst o_sortRows_36 (z := (1 : Int32)) (by decide) ?_
      refine Wk.isub o_sortRows_37 ?_
      refine Wk.callU [.int v2, .int (v2 - (1 : Int32))] [] (H.w 204 rfl) (cv_swapRows H) o_sortRows_38 (run_swapRows H F G A B v2 (v2 - (1 : Int32)) (s6 q1 q4)) (wt := 0) (cu' := 0) (su' := 0) (by decide) rfl rfl rfl rfl rfl rfl rfl ?_
      refine Wk.iinc o_sortRows_41 rfl (z := (v2 + (-1 : Int32))) rfl (L' := [.val (.ref 0), .val (.int v1), .val (.int (v2 + (-1 : Int32)))]) rfl ?_
      refine Wk.goto o_sortRows_44 ?_
      exact (h7 q1 q4)

theorem rt_sortRows (F : Nat → Int32) (G : Nat → Int64) (B : Nat → Int32 → Int64) (v0 : Int32) (xA : Nat → Int32 → Int32) (r : Int32 × (Nat → Int32 → Int32)) (e : (v0, xA) = r) : (none : Option Value) = none ∧ (10, F, G, xA, B) = (10, F, G, r.2, B) := by subst e; exact ⟨rfl, rfl⟩
def lp_sortRows : Nat → Nat → Int32 → Int32 → (Nat → Int32) → (Nat → Int32 → Int32) → Option (Int32 × (Nat → Int32 → Int32))
  | 0, _, _, _, _, _ => none
  | n + 1, tag, v1, v2, F, A => if tag = 2 then (if v1 < (F 9) then (if v1 < (64 : Int32) then lp_sortRows n 18 v1 v1 F A else some ((0 : Int32), A)) else some ((0 : Int32), A)) else if tag = 18 then (if 0 < v2 then (if ((en_pathLess A v2 (v2 - (1 : Int32))).isSome = true) then (if (R_pathLess A v2 (v2 - (1 : Int32))) = 0 then lp_sortRows n 2 (v1 + (1 : Int32)) 0 F A else (if ((en_swapRows A v2 (v2 - (1 : Int32))).isSome = true) then lp_sortRows n 18 v1 (v2 + (-1 : Int32)) F (R_swapRows A v2 (v2 - (1 : Int32))).2 else none)) else none) else lp_sortRows n 2 (v1 + (1 : Int32)) 0 F A) else none
theorem lp_sortRows_z (tag : Nat) (v1 : Int32) (v2 : Int32) (F : Nat → Int32) (A : Nat → Int32 → Int32) : lp_sortRows 0 tag v1 v2 F A = none := Eq.trans rfl rfl
theorem lp_sortRows_2 (n : Nat) (v1 : Int32) (v2 : Int32) (F : Nat → Int32) (A : Nat → Int32 → Int32) : lp_sortRows (n + 1) 2 v1 v2 F A = (if v1 < (F 9) then (if v1 < (64 : Int32) then lp_sortRows n 18 v1 v1 F A else some ((0 : Int32), A)) else some ((0 : Int32), A)) := by
  rw [lp_sortRows, if_pos rfl]
theorem lp_sortRows_18 (n : Nat) (v1 : Int32) (v2 : Int32) (F : Nat → Int32) (A : Nat → Int32 → Int32) : lp_sortRows (n + 1) 18 v1 v2 F A = (if 0 < v2 then (if ((en_pathLess A v2 (v2 - (1 : Int32))).isSome = true) then (if (R_pathLess A v2 (v2 - (1 : Int32))) = 0 then lp_sortRows n 2 (v1 + (1 : Int32)) 0 F A else (if ((en_swapRows A v2 (v2 - (1 : Int32))).isSome = true) then lp_sortRows n 18 v1 (v2 + (-1 : Int32)) F (R_swapRows A v2 (v2 - (1 : Int32))).2 else none)) else none) else lp_sortRows n 2 (v1 + (1 : Int32)) 0 F A) := by
  rw [lp_sortRows, if_neg (by decide), if_pos rfl]
set_option maxRecDepth 65536 in
set_option maxHeartbeats 4000000 in
theorem lpw_sortRows {l : Launch} {Z : State} {a0 : Array Value} (H : OK Z a0) (F : Nat → Int32) (G : Nat → Int64) (B : Nat → Int32 → Int64) : ∀ (n : Nat) (v1 : Int32) (v2 : Int32) (A : Nat → Int32 → Int32) (r : Int32 × (Nat → Int32 → Int32)), (lp_sortRows n 2 v1 v2 F A = some r → Wk l Z (MoC Z cdC) md_sortRows 2 [.val (.ref 0), .val (.int v1), .unset] [] (10, F, G, A, B) 0 0 (fun v w' => v = none ∧ w' = (10, F, G, r.2, B))) ∧ (lp_sortRows n 18 v1 v2 F A = some r → Wk l Z (MoC Z cdC) md_sortRows 18 [.val (.ref 0), .val (.int v1), .val (.int v2)] [] (10, F, G, A, B) 0 0 (fun v w' => v = none ∧ w' = (10, F, G, r.2, B))) := by
  intro n
  induction n with
  | zero =>
    intro v1 v2 A r
    exact ⟨(fun h => by rw [lp_sortRows_z] at h; cases h), (fun h => by rw [lp_sortRows_z] at h; cases h)⟩
  | succ n ih =>
    intro v1 v2 A r
    refine ⟨fun h => ?_, fun h => ?_⟩
    · rw [lp_sortRows_2] at h
      exact wp_sortRows_2 H F G A B v1 (fun q1 => (rt_sortRows _ _ _ _ _ r (Option.some.inj (ifn q1 h)))) (fun q1 q3 => (rt_sortRows _ _ _ _ _ r (Option.some.inj (ifn q3 (ifp q1 h))))) (fun q1 q3 => (ih _ _ _ _).2 (ifp q3 (ifp q1 h)))
    · rw [lp_sortRows_18] at h
      exact wp_sortRows_18 H F G A B v1 v2 (fun q1 => (ih _ _ _ _).1 (ifn q1 h)) (fun q1 => (gd (ifp q1 h)).1) (fun q1 q4 => (ih _ _ _ _).1 (ifp q4 (gd (ifp q1 h)).2)) (fun q1 q4 => (gd (ifn q4 (gd (ifp q1 h)).2)).1) (fun q1 q4 => (ih _ _ _ _).2 (gd (ifn q4 (gd (ifp q1 h)).2)).2)
def en_sortRows (F : Nat → Int32) (A : Nat → Int32 → Int32) : Option (Int32 × (Nat → Int32 → Int32)) := lp_sortRows 1000 2 (1 : Int32) 0 F A
theorem een_sortRows (F : Nat → Int32) (A : Nat → Int32 → Int32) : en_sortRows F A  = lp_sortRows 1000 2 (1 : Int32) 0 F A := Eq.trans rfl rfl
def R_sortRows (F : Nat → Int32) (A : Nat → Int32 → Int32) : Int32 × (Nat → Int32 → Int32) := (en_sortRows F A ).getD (0, (fun _ _ => 0))
theorem eR_sortRows (F : Nat → Int32) (A : Nat → Int32 → Int32) : R_sortRows F A  = (en_sortRows F A ).getD (0, (fun _ _ => 0)) := Eq.trans rfl rfl
set_option maxRecDepth 65536 in
set_option maxHeartbeats 4000000 in
theorem run_sortRows {l : Launch} {Z : State} {a0 : Array Value} (H : OK Z a0) (F : Nat → Int32) (G : Nat → Int64) (A : Nat → Int32 → Int32) (B : Nat → Int32 → Int64) (e1 : (en_sortRows F A ).isSome = true) :
    Wk l Z (MoC Z cdC) md_sortRows 0 [.val (.ref 0), .unset, .unset] [] (10, F, G, A, B) 0 0 (fun v w' => v = none ∧ w' = (10, F, G, (R_sortRows F A ).2, B)) := by
  obtain ⟨r, h⟩ := Option.isSome_iff_exists.mp e1
  have e : R_sortRows F A  = r := (eR_sortRows F A ).trans (getD_some h)
  rw [e]
  rw [een_sortRows] at h
  exact wp_sortRows H F G A B  ((lpw_sortRows H F G B _ _ _ _ _).1 h)
set_option maxRecDepth 65536 in
set_option maxHeartbeats 4000000 in
theorem wp_run {l : Launch} {Z : State} {a0 : Array Value} (H : OK Z a0) (F : Nat → Int32) (G : Nat → Int64) (A : Nat → Int32 → Int32) (B : Nat → Int32 → Int64) {Q : Option Value → WO → Prop} (s15 : ¬ (F 4) = 0 → (en_runLevels (ups F 9 (0 : Int32)) A (1 : Int32)).isSome = true) (h21 : ¬ (F 4) = 0 → (R_runLevels (ups F 9 (0 : Int32)) A (1 : Int32)).1 = 0 → ¬ (R_runLevels (ups F 9 (0 : Int32)) A (1 : Int32)).1 = 0 → Q (some (.int ((R_runLevels (ups F 9 (0 : Int32)) A (1 : Int32)).2.1 9))) (10, (ups (R_runLevels (ups F 9 (0 : Int32)) A (1 : Int32)).2.1 8 (1 : Int32)), G, (R_runLevels (ups F 9 (0 : Int32)) A (1 : Int32)).2.2, B)) (h22 : ¬ (F 4) = 0 → (R_runLevels (ups F 9 (0 : Int32)) A (1 : Int32)).1 = 0 → (R_runLevels (ups F 9 (0 : Int32)) A (1 : Int32)).1 = 0 → Q (some (.int (-6 : Int32))) (10, (ups (ups (R_runLevels (ups F 9 (0 : Int32)) A (1 : Int32)).2.1 9 (0 : Int32)) 8 (2 : Int32)), G, (R_runLevels (ups F 9 (0 : Int32)) A (1 : Int32)).2.2, B)) (h26 : ¬ (F 4) = 0 → ¬ (R_runLevels (ups F 9 (0 : Int32)) A (1 : Int32)).1 = 0 → ¬ ((R_runLevels (ups F 9 (0 : Int32)) A (1 : Int32)).2.1 5) = 0 → ¬ (R_runLevels (ups F 9 (0 : Int32)) A (1 : Int32)).1 = 0 → Q (some (.int ((R_runLevels (ups F 9 (0 : Int32)) A (1 : Int32)).2.1 9))) (10, (ups (R_runLevels (ups F 9 (0 : Int32)) A (1 : Int32)).2.1 8 (1 : Int32)), G, (R_runLevels (ups F 9 (0 : Int32)) A (1 : Int32)).2.2, B)) (h27 : ¬ (F 4) = 0 → ¬ (R_runLevels (ups F 9 (0 : Int32)) A (1 : Int32)).1 = 0 → ¬ ((R_runLevels (ups F 9 (0 : Int32)) A (1 : Int32)).2.1 5) = 0 → (R_runLevels (ups F 9 (0 : Int32)) A (1 : Int32)).1 = 0 → Q (some (.int (-6 : Int32))) (10, (ups (ups (R_runLevels (ups F 9 (0 : Int32)) A (1 : Int32)).2.1 9 (0 : Int32)) 8 (2 : Int32)), G, (R_runLevels (ups F 9 (0 : Int32)) A (1 : Int32)).2.2, B)) (s28 : ¬ (F 4) = 0 → ¬ (R_runLevels (ups F 9 (0 : Int32)) A (1 : Int32)).1 = 0 → ((R_runLevels (ups F 9 (0 : Int32)) A (1 : Int32)).2.1 5) = 0 → (en_sortRows (R_runLevels (ups F 9 (0 : Int32)) A (1 : Int32)).2.1 (R_runLevels (ups F 9 (0 : Int32)) A (1 : Int32)).2.2 ).isSome = true) (h30 : ¬ (F 4) = 0 → ¬ (R_runLevels (ups F 9 (0 : Int32)) A (1 : Int32)).1 = 0 → ((R_runLevels (ups F 9 (0 : Int32)) A (1 : Int32)).2.1 5) = 0 → ¬ (R_runLevels (ups F 9 (0 : Int32)) A (1 : Int32)).1 = 0 → Q (some (.int ((R_runLevels (ups F 9 (0 : Int32)) A (1 : Int32)).2.1 9))) (10, (ups (R_runLevels (ups F 9 (0 : Int32)) A (1 : Int32)).2.1 8 (1 : Int32)), G, (R_sortRows (R_runLevels (ups F 9 (0 : Int32)) A (1 : Int32)).2.1 (R_runLevels (ups F 9 (0 : Int32)) A (1 : Int32)).2.2 ).2, B)) (h31 : ¬ (F 4) = 0 → ¬ (R_runLevels (ups F 9 (0 : Int32)) A (1 : Int32)).1 = 0 → ((R_runLevels (ups F 9 (0 : Int32)) A (1 : Int32)).2.1 5) = 0 → (R_runLevels (ups F 9 (0 : Int32)) A (1 : Int32)).1 = 0 → Q (some (.int (-6 : Int32))) (10, (ups (ups (R_runLevels (ups F 9 (0 : Int32)) A (1 : Int32)).2.1 9 (0 : Int32)) 8 (2 : Int32)), G, (R_sortRows (R_runLevels (ups F 9 (0 : Int32)) A (1 : Int32)).2.1 (R_runLevels (ups F 9 (0 : Int32)) A (1 : Int32)).2.2 ).2, B)) (s35 : (F 4) = 0 → ¬ (F 5) = 0 → (en_runLevels (ups F 9 (0 : Int32)) A (0 : Int32)).isSome = true) (h37 : (F 4) = 0 → ¬ (F 5) = 0 → ¬ (R_runLevels (ups F 9 (0 : Int32)) A (0 : Int32)).1 = 0 → Q (some (.int ((R_runLevels (ups F 9 (0 : Int32)) A (0 : Int32)).2.1 9))) (10, (ups (R_runLevels (ups F 9 (0 : Int32)) A (0 : Int32)).2.1 8 (1 : Int32)), G, (R_runLevels (ups F 9 (0 : Int32)) A (0 : Int32)).2.2, B)) (h38 : (F 4) = 0 → ¬ (F 5) = 0 → (R_runLevels (ups F 9 (0 : Int32)) A (0 : Int32)).1 = 0 → Q (some (.int (-6 : Int32))) (10, (ups (ups (R_runLevels (ups F 9 (0 : Int32)) A (0 : Int32)).2.1 9 (0 : Int32)) 8 (2 : Int32)), G, (R_runLevels (ups F 9 (0 : Int32)) A (0 : Int32)).2.2, B)) (s39 : (F 4) = 0 → (F 5) = 0 → (en_runDepthFirstAll (ups F 9 (0 : Int32)) A ).isSome = true) (h41 : (F 4) = 0 → (F 5) = 0 → ¬ (R_runDepthFirstAll (ups F 9 (0 : Int32)) A ).1 = 0 → Q (some (.int ((R_runDepthFirstAll (ups F 9 (0 : Int32)) A ).2.1 9))) (10, (ups (R_runDepthFirstAll (ups F 9 (0 : Int32)) A ).2.1 8 (1 : Int32)), G, (R_runDepthFirstAll (ups F 9 (0 : Int32)) A ).2.2, B)) (h42 : (F 4) = 0 → (F 5) = 0 → (R_runDepthFirstAll (ups F 9 (0 : Int32)) A ).1 = 0 → Q (some (.int (-6 : Int32))) (10, (ups (ups (R_runDepthFirstAll (ups F 9 (0 : Int32)) A ).2.1 9 (0 : Int32)) 8 (2 : Int32)), G, (R_runDepthFirstAll (ups F 9 (0 : Int32)) A ).2.2, B)) :
    Wk l Z (MoC Z cdC) md_run 0 [.val (.ref 0), .unset] [] (10, F, G, A, B) 0 0 Q := by
  refine Wk.aloadN o_run_0 rfl ?_
  refine Wk.iconst o_run_1 (z := (0 : Int32)) (by decide) ?_
  refine Wk.putI (coC H) (mI_count) (wf_count H) (Or.inl (wy_count H)) o_run_2 ?_
  refine Wk.aloadN o_run_5 rfl ?_
  refine Wk.getI (mI_kind) (wf_kind H) o_run_6 (x := (F 4)) rfl ?_
  refine Wk.if_ne o_run_9 (fun q1 => ?_) (fun q1 => ?_)
  · refine Wk.aloadN o_run_36 rfl ?_
    refine Wk.iconst o_run_37 (z := (1 : Int32)) (by decide) ?_
    refine Wk.callF [.int (1 : Int32)] [] (H.w 160 rfl) (cv_runLevels H) o_run_38 (run_runLevels H (ups F 9 (0 : Int32)) G A B (1 : Int32) (s15 q1)) (wt := 0) (cu' := 0) (su' := 0) (by decide) rfl rfl rfl rfl rfl rfl rfl ?_
    refine Wk.istoreN o_run_41 (Or.inl rfl) (L' := [.val (.ref 0), .val (.int (R_runLevels (ups F 9 (0 : Int32)) A (1 : Int32)).1)]) rfl ?_
    refine Wk.iloadN o_run_42 rfl ?_
    refine Wk.if_eq o_run_43 (fun q16 => ?_) (fun q16 => ?_)
    · refine Wk.iloadN o_run_57 rfl ?_
      refine Wk.if_ne o_run_58 (fun q20 => ?_) (fun q20 => ?_)
      · refine Wk.aloadN o_run_74 rfl ?_
        refine Wk.iconst o_run_75 (z := (1 : Int32)) (by decide) ?_
        refine Wk.putI (coC H) (mI_status) (wf_status H) (Or.inl (wy_status H)) o_run_76 ?_
        refine Wk.aloadN o_run_79 rfl ?_
        refine Wk.getI (mI_count) (wf_count H) o_run_80 (x := ((R_runLevels (ups F 9 (0 : Int32)) A (1 : Int32)).2.1 9)) rfl ?_
        exact Wk.ireturn mrC rfl o_run_83 rfl (by decide) (by decide) (h21 q1 q16 q20)
      · refine Wk.aloadN o_run_61 rfl ?_
        refine Wk.iconst o_run_62 (z := (0 : Int32)) (by decide) ?_
        refine Wk.putI (coC H) (mI_count) (wf_count H) (Or.inl (wy_count H)) o_run_63 ?_
        refine Wk.aloadN o_run_66 rfl ?_
        refine Wk.iconst o_run_67 (z := (2 : Int32)) (by decide) ?_
        refine Wk.putI (coC H) (mI_status) (wf_status H) (Or.inl (wy_status H)) o_run_68 ?_
        refine Wk.bipush o_run_71 (z := (-6 : Int32)) (by decide) ?_
        exact Wk.ireturn mrC rfl o_run_73 rfl (by decide) (by decide) (h22 q1 q16 q20)
    · refine Wk.aloadN o_run_46 rfl ?_
      refine Wk.getI (mI_search) (wf_search H) o_run_47 (x := ((R_runLevels (ups F 9 (0 : Int32)) A (1 : Int32)).2.1 5)) rfl ?_
      refine Wk.if_ne o_run_50 (fun q23 => ?_) (fun q23 => ?_)
      · refine Wk.iloadN o_run_57 rfl ?_
        refine Wk.if_ne o_run_58 (fun q25 => ?_) (fun q25 => ?_)
        · refine Wk.aloadN o_run_74 rfl ?_
          refine Wk.iconst o_run_75 (z := (1 : Int32)) (by decide) ?_
          refine Wk.putI (coC H) (mI_status) (wf_status H) (Or.inl (wy_status H)) o_run_76 ?_
          refine Wk.aloadN o_run_79 rfl ?_
          refine Wk.getI (mI_count) (wf_count H) o_run_80 (x := ((R_runLevels (ups F 9 (0 : Int32)) A (1 : Int32)).2.1 9)) rfl ?_
          exact Wk.ireturn mrC rfl o_run_83 rfl (by decide) (by decide) (h26 q1 q16 q23 q25)
        · refine Wk.aloadN o_run_61 rfl ?_
          refine Wk.iconst o_run_62 (z := (0 : Int32)) (by decide) ?_
          refine Wk.putI (coC H) (mI_count) (wf_count H) (Or.inl (wy_count H)) o_run_63 ?_
          refine Wk.aloadN o_run_66 rfl ?_
          refine Wk.iconst o_run_67 (z := (2 : Int32)) (by decide) ?_
          refine Wk.putI (coC H) (mI_status) (wf_status H) (Or.inl (wy_status H)) o_run_68 ?_
          refine Wk.bipush o_run_71 (z := (-6 : Int32)) (by decide) ?_
          exact Wk.ireturn mrC rfl o_run_73 rfl (by decide) (by decide) (h27 q1 q16 q23 q25)
      · refine Wk.aloadN o_run_53 rfl ?_
        refine Wk.callU [] [] (H.w 192 rfl) (cv_sortRows H) o_run_54 (run_sortRows H (R_runLevels (ups F 9 (0 : Int32)) A (1 : Int32)).2.1 G (R_runLevels (ups F 9 (0 : Int32)) A (1 : Int32)).2.2 B (s28 q1 q16 q23)) (wt := 0) (cu' := 0) (su' := 0) (by decide) rfl rfl rfl rfl rfl rfl rfl ?_
        refine Wk.iloadN o_run_57 rfl ?_
        refine Wk.if_ne o_run_58 (fun q29 => ?_) (fun q29 => ?_)
        · refine Wk.aloadN o_run_74 rfl ?_
          refine Wk.iconst o_run_75 (z := (1 : Int32)) (by decide) ?_
          refine Wk.putI (coC H) (mI_status) (wf_status H) (Or.inl (wy_status H)) o_run_76 ?_
          refine Wk.aloadN o_run_79 rfl ?_
          refine Wk.getI (mI_count) (wf_count H) o_run_80 (x := ((R_runLevels (ups F 9 (0 : Int32)) A (1 : Int32)).2.1 9)) rfl ?_
          exact Wk.ireturn mrC rfl o_run_83 rfl (by decide) (by decide) (h30 q1 q16 q23 q29)
        · refine Wk.aloadN o_run_61 rfl ?_
          refine Wk.iconst o_run_62 (z := (0 : Int32)) (by decide) ?_
          refine Wk.putI (coC H) (mI_count) (wf_count H) (Or.inl (wy_count H)) o_run_63 ?_
          refine Wk.aloadN o_run_66 rfl ?_
          refine Wk.iconst o_run_67 (z := (2 : Int32)) (by decide) ?_
          refine Wk.putI (coC H) (mI_status) (wf_status H) (Or.inl (wy_status H)) o_run_68 ?_
          refine Wk.bipush o_run_71 (z := (-6 : Int32)) (by decide) ?_
          exact Wk.ireturn mrC rfl o_run_73 rfl (by decide) (by decide) (h31 q1 q16 q23 q29)
  · refine Wk.aloadN o_run_12 rfl ?_
    refine Wk.getI (mI_search) (wf_search H) o_run_13 (x := (F 5)) rfl ?_
    refine Wk.if_ne o_run_16 (fun q32 => ?_) (fun q32 => ?_)
    · refine Wk.aloadN o_run_27 rfl ?_
      refine Wk.iconst o_run_28 (z := (0 : Int32)) (by decide) ?_
      refine Wk.callF [.int (0 : Int32)] [] (H.w 160 rfl) (cv_runLevels H) o_run_29 (run_runLevels H (ups F 9 (0 : Int32)) G A B (0 : Int32) (s35 q1 q32)) (wt := 0) (cu' := 0) (su' := 0) (by decide) rfl rfl rfl rfl rfl rfl rfl ?_
      refine Wk.istoreN o_run_32 (Or.inl rfl) (L' := [.val (.ref 0), .val (.int (R_runLevels (ups F 9 (0 : Int32)) A (0 : Int32)).1)]) rfl ?_
      refine Wk.goto o_run_33 ?_
      refine Wk.iloadN o_run_57 rfl ?_
      refine Wk.if_ne o_run_58 (fun q36 => ?_) (fun q36 => ?_)
      · refine Wk.aloadN o_run_74 rfl ?_
        refine Wk.iconst o_run_75 (z := (1 : Int32)) (by decide) ?_
        refine Wk.putI (coC H) (mI_status) (wf_status H) (Or.inl (wy_status H)) o_run_76 ?_
        refine Wk.aloadN o_run_79 rfl ?_
        refine Wk.getI (mI_count) (wf_count H) o_run_80 (x := ((R_runLevels (ups F 9 (0 : Int32)) A (0 : Int32)).2.1 9)) rfl ?_
        exact Wk.ireturn mrC rfl o_run_83 rfl (by decide) (by decide) (h37 q1 q32 q36)
      · refine Wk.aloadN o_run_61 rfl ?_
        refine Wk.iconst o_run_62 (z := (0 : Int32)) (by decide) ?_
        refine Wk.putI (coC H) (mI_count) (wf_count H) (Or.inl (wy_count H)) o_run_63 ?_
        refine Wk.aloadN o_run_66 rfl ?_
        refine Wk.iconst o_run_67 (z := (2 : Int32)) (by decide) ?_
        refine Wk.putI (coC H) (mI_status) (wf_status H) (Or.inl (wy_status H)) o_run_68 ?_
        refine Wk.bipush o_run_71 (z := (-6 : Int32)) (by decide) ?_
        exact Wk.ireturn mrC rfl o_run_73 rfl (by decide) (by decide) (h38 q1 q32 q36)
    · refine Wk.aloadN o_run_19 rfl ?_
      refine Wk.callF [] [] (H.w 146 rfl) (cv_runDepthFirstAll H) o_run_20 (run_runDepthFirstAll H (ups F 9 (0 : Int32)) G A B (s39 q1 q32)) (wt := 0) (cu' := 0) (su' := 0) (by decide) rfl rfl rfl rfl rfl rfl rfl ?_
      refine Wk.istoreN o_run_23 (Or.inl rfl) (L' := [.val (.ref 0), .val (.int (R_runDepthFirstAll (ups F 9 (0 : Int32)) A ).1)]) rfl ?_
      refine Wk.goto o_run_24 ?_
      refine Wk.iloadN o_run_57 rfl ?_
      refine Wk.if_ne o_run_58 (fun q40 => ?_) (fun q40 => ?_)
      · refine Wk.aloadN o_run_74 rfl ?_
        refine Wk.iconst o_run_75 (z := (1 : Int32)) (by decide) ?_
        refine Wk.putI (coC H) (mI_status) (wf_status H) (Or.inl (wy_status H)) o_run_76 ?_
        refine Wk.aloadN o_run_79 rfl ?_
        refine Wk.getI (mI_count) (wf_count H) o_run_80 (x := ((R_runDepthFirstAll (ups F 9 (0 : Int32)) A ).2.1 9)) rfl ?_
        exact Wk.ireturn mrC rfl o_run_83 rfl (by decide) (by decide) (h41 q1 q32 q40)
      · refine Wk.aloadN o_run_61 rfl ?_
        refine Wk.iconst o_run_62 (z := (0 : Int32)) (by decide) ?_
        refine Wk.putI (coC H) (mI_count) (wf_count H) (Or.inl (wy_count H)) o_run_63 ?_
        refine Wk.aloadN o_run_66 rfl ?_
        refine Wk.iconst o_run_67 (z := (2 : Int32)) (by decide) ?_
        refine Wk.putI (coC H) (mI_status) (wf_status H) (Or.inl (wy_status H)) o_run_68 ?_
        refine Wk.bipush o_run_71 (z := (-6 : Int32)) (by decide) ?_
        exact Wk.ireturn mrC rfl o_run_73 rfl (by decide) (by decide) (h42 q1 q32 q40)

theorem rt_run (G : Nat → Int64) (B : Nat → Int32 → Int64) (v0 : Int32) (xF : Nat → Int32) (xA : Nat → Int32 → Int32) (r : Int32 × (Nat → Int32) × (Nat → Int32 → Int32)) (e : (v0, xF, xA) = r) : some (Value.int v0) = some (.int r.1) ∧ (10, xF, G, xA, B) = (10, r.2.1, G, r.2.2, B) := by subst e; exact ⟨rfl, rfl⟩
def en_run (F : Nat → Int32) (A : Nat → Int32 → Int32) : Option (Int32 × (Nat → Int32) × (Nat → Int32 → Int32)) := (if (F 4) = 0 then (if (F 5) = 0 then (if ((en_runDepthFirstAll (ups F 9 (0 : Int32)) A ).isSome = true) then (if (R_runDepthFirstAll (ups F 9 (0 : Int32)) A ).1 = 0 then some ((-6 : Int32), (ups (ups (R_runDepthFirstAll (ups F 9 (0 : Int32)) A ).2.1 9 (0 : Int32)) 8 (2 : Int32)), (R_runDepthFirstAll (ups F 9 (0 : Int32)) A ).2.2) else some (((R_runDepthFirstAll (ups F 9 (0 : Int32)) A ).2.1 9), (ups (R_runDepthFirstAll (ups F 9 (0 : Int32)) A ).2.1 8 (1 : Int32)), (R_runDepthFirstAll (ups F 9 (0 : Int32)) A ).2.2)) else none) else (if ((en_runLevels (ups F 9 (0 : Int32)) A (0 : Int32)).isSome = true) then (if (R_runLevels (ups F 9 (0 : Int32)) A (0 : Int32)).1 = 0 then some ((-6 : Int32), (ups (ups (R_runLevels (ups F 9 (0 : Int32)) A (0 : Int32)).2.1 9 (0 : Int32)) 8 (2 : Int32)), (R_runLevels (ups F 9 (0 : Int32)) A (0 : Int32)).2.2) else some (((R_runLevels (ups F 9 (0 : Int32)) A (0 : Int32)).2.1 9), (ups (R_runLevels (ups F 9 (0 : Int32)) A (0 : Int32)).2.1 8 (1 : Int32)), (R_runLevels (ups F 9 (0 : Int32)) A (0 : Int32)).2.2)) else none)) else (if ((en_runLevels (ups F 9 (0 : Int32)) A (1 : Int32)).isSome = true) then (if (R_runLevels (ups F 9 (0 : Int32)) A (1 : Int32)).1 = 0 then (if (R_runLevels (ups F 9 (0 : Int32)) A (1 : Int32)).1 = 0 then some ((-6 : Int32), (ups (ups (R_runLevels (ups F 9 (0 : Int32)) A (1 : Int32)).2.1 9 (0 : Int32)) 8 (2 : Int32)), (R_runLevels (ups F 9 (0 : Int32)) A (1 : Int32)).2.2) else some (((R_runLevels (ups F 9 (0 : Int32)) A (1 : Int32)).2.1 9), (ups (R_runLevels (ups F 9 (0 : Int32)) A (1 : Int32)).2.1 8 (1 : Int32)), (R_runLevels (ups F 9 (0 : Int32)) A (1 : Int32)).2.2)) else (if ((R_runLevels (ups F 9 (0 : Int32)) A (1 : Int32)).2.1 5) = 0 then (if ((en_sortRows (R_runLevels (ups F 9 (0 : Int32)) A (1 : Int32)).2.1 (R_runLevels (ups F 9 (0 : Int32)) A (1 : Int32)).2.2 ).isSome = true) then (if (R_runLevels (ups F 9 (0 : Int32)) A (1 : Int32)).1 = 0 then some ((-6 : Int32), (ups (ups (R_runLevels (ups F 9 (0 : Int32)) A (1 : Int32)).2.1 9 (0 : Int32)) 8 (2 : Int32)), (R_sortRows (R_runLevels (ups F 9 (0 : Int32)) A (1 : Int32)).2.1 (R_runLevels (ups F 9 (0 : Int32)) A (1 : Int32)).2.2 ).2) else some (((R_runLevels (ups F 9 (0 : Int32)) A (1 : Int32)).2.1 9), (ups (R_runLevels (ups F 9 (0 : Int32)) A (1 : Int32)).2.1 8 (1 : Int32)), (R_sortRows (R_runLevels (ups F 9 (0 : Int32)) A (1 : Int32)).2.1 (R_runLevels (ups F 9 (0 : Int32)) A (1 : Int32)).2.2 ).2)) else none) else (if (R_runLevels (ups F 9 (0 : Int32)) A (1 : Int32)).1 = 0 then some ((-6 : Int32), (ups (ups (R_runLevels (ups F 9 (0 : Int32)) A (1 : Int32)).2.1 9 (0 : Int32)) 8 (2 : Int32)), (R_runLevels (ups F 9 (0 : Int32)) A (1 : Int32)).2.2) else some (((R_runLevels (ups F 9 (0 : Int32)) A (1 : Int32)).2.1 9), (ups (R_runLevels (ups F 9 (0 : Int32)) A (1 : Int32)).2.1 8 (1 : Int32)), (R_runLevels (ups F 9 (0 : Int32)) A (1 : Int32)).2.2)))) else none))
theorem een_run (F : Nat → Int32) (A : Nat → Int32 → Int32) : en_run F A  = (if (F 4) = 0 then (if (F 5) = 0 then (if ((en_runDepthFirstAll (ups F 9 (0 : Int32)) A ).isSome = true) then (if (R_runDepthFirstAll (ups F 9 (0 : Int32)) A ).1 = 0 then some ((-6 : Int32), (ups (ups (R_runDepthFirstAll (ups F 9 (0 : Int32)) A ).2.1 9 (0 : Int32)) 8 (2 : Int32)), (R_runDepthFirstAll (ups F 9 (0 : Int32)) A ).2.2) else some (((R_runDepthFirstAll (ups F 9 (0 : Int32)) A ).2.1 9), (ups (R_runDepthFirstAll (ups F 9 (0 : Int32)) A ).2.1 8 (1 : Int32)), (R_runDepthFirstAll (ups F 9 (0 : Int32)) A ).2.2)) else none) else (if ((en_runLevels (ups F 9 (0 : Int32)) A (0 : Int32)).isSome = true) then (if (R_runLevels (ups F 9 (0 : Int32)) A (0 : Int32)).1 = 0 then some ((-6 : Int32), (ups (ups (R_runLevels (ups F 9 (0 : Int32)) A (0 : Int32)).2.1 9 (0 : Int32)) 8 (2 : Int32)), (R_runLevels (ups F 9 (0 : Int32)) A (0 : Int32)).2.2) else some (((R_runLevels (ups F 9 (0 : Int32)) A (0 : Int32)).2.1 9), (ups (R_runLevels (ups F 9 (0 : Int32)) A (0 : Int32)).2.1 8 (1 : Int32)), (R_runLevels (ups F 9 (0 : Int32)) A (0 : Int32)).2.2)) else none)) else (if ((en_runLevels (ups F 9 (0 : Int32)) A (1 : Int32)).isSome = true) then (if (R_runLevels (ups F 9 (0 : Int32)) A (1 : Int32)).1 = 0 then (if (R_runLevels (ups F 9 (0 : Int32)) A (1 : Int32)).1 = 0 then some ((-6 : Int32), (ups (ups (R_runLevels (ups F 9 (0 : Int32)) A (1 : Int32)).2.1 9 (0 : Int32)) 8 (2 : Int32)), (R_runLevels (ups F 9 (0 : Int32)) A (1 : Int32)).2.2) else some (((R_runLevels (ups F 9 (0 : Int32)) A (1 : Int32)).2.1 9), (ups (R_runLevels (ups F 9 (0 : Int32)) A (1 : Int32)).2.1 8 (1 : Int32)), (R_runLevels (ups F 9 (0 : Int32)) A (1 : Int32)).2.2)) else (if ((R_runLevels (ups F 9 (0 : Int32)) A (1 : Int32)).2.1 5) = 0 then (if ((en_sortRows (R_runLevels (ups F 9 (0 : Int32)) A (1 : Int32)).2.1 (R_runLevels (ups F 9 (0 : Int32)) A (1 : Int32)).2.2 ).isSome = true) then (if (R_runLevels (ups F 9 (0 : Int32)) A (1 : Int32)).1 = 0 then some ((-6 : Int32), (ups (ups (R_runLevels (ups F 9 (0 : Int32)) A (1 : Int32)).2.1 9 (0 : Int32)) 8 (2 : Int32)), (R_sortRows (R_runLevels (ups F 9 (0 : Int32)) A (1 : Int32)).2.1 (R_runLevels (ups F 9 (0 : Int32)) A (1 : Int32)).2.2 ).2) else some (((R_runLevels (ups F 9 (0 : Int32)) A (1 : Int32)).2.1 9), (ups (R_runLevels (ups F 9 (0 : Int32)) A (1 : Int32)).2.1 8 (1 : Int32)), (R_sortRows (R_runLevels (ups F 9 (0 : Int32)) A (1 : Int32)).2.1 (R_runLevels (ups F 9 (0 : Int32)) A (1 : Int32)).2.2 ).2)) else none) else (if (R_runLevels (ups F 9 (0 : Int32)) A (1 : Int32)).1 = 0 then some ((-6 : Int32), (ups (ups (R_runLevels (ups F 9 (0 : Int32)) A (1 : Int32)).2.1 9 (0 : Int32)) 8 (2 : Int32)), (R_runLevels (ups F 9 (0 : Int32)) A (1 : Int32)).2.2) else some (((R_runLevels (ups F 9 (0 : Int32)) A (1 : Int32)).2.1 9), (ups (R_runLevels (ups F 9 (0 : Int32)) A (1 : Int32)).2.1 8 (1 : Int32)), (R_runLevels (ups F 9 (0 : Int32)) A (1 : Int32)).2.2)))) else none)) := Eq.trans rfl rfl
def R_run (F : Nat → Int32) (A : Nat → Int32 → Int32) : Int32 × (Nat → Int32) × (Nat → Int32 → Int32) := (en_run F A ).getD (0, (fun _ => 0), (fun _ _ => 0))
theorem eR_run (F : Nat → Int32) (A : Nat → Int32 → Int32) : R_run F A  = (en_run F A ).getD (0, (fun _ => 0), (fun _ _ => 0)) := Eq.trans rfl rfl
set_option maxRecDepth 65536 in
set_option maxHeartbeats 4000000 in
theorem run_run {l : Launch} {Z : State} {a0 : Array Value} (H : OK Z a0) (F : Nat → Int32) (G : Nat → Int64) (A : Nat → Int32 → Int32) (B : Nat → Int32 → Int64) (e1 : (en_run F A ).isSome = true) :
    Wk l Z (MoC Z cdC) md_run 0 [.val (.ref 0), .unset] [] (10, F, G, A, B) 0 0 (fun v w' => v = some (.int (R_run F A ).1) ∧ w' = (10, (R_run F A ).2.1, G, (R_run F A ).2.2, B)) := by
  obtain ⟨r, h⟩ := Option.isSome_iff_exists.mp e1
  have e : R_run F A  = r := (eR_run F A ).trans (getD_some h)
  rw [e]
  rw [een_run] at h
  exact wp_run H F G A B  (fun q1 => (gd (ifn q1 h)).1) (fun q1 q16 q20 => (rt_run _ _ _ _ _ r (Option.some.inj (ifn q20 (ifp q16 (gd (ifn q1 h)).2))))) (fun q1 q16 q20 => (rt_run _ _ _ _ _ r (Option.some.inj (ifp q20 (ifp q16 (gd (ifn q1 h)).2))))) (fun q1 q16 q23 q25 => (rt_run _ _ _ _ _ r (Option.some.inj (ifn q25 (ifn q23 (ifn q16 (gd (ifn q1 h)).2)))))) (fun q1 q16 q23 q25 => (rt_run _ _ _ _ _ r (Option.some.inj (ifp q25 (ifn q23 (ifn q16 (gd (ifn q1 h)).2)))))) (fun q1 q16 q23 => (gd (ifp q23 (ifn q16 (gd (ifn q1 h)).2))).1) (fun q1 q16 q23 q29 => (rt_run _ _ _ _ _ r (Option.some.inj (ifn q29 (gd (ifp q23 (ifn q16 (gd (ifn q1 h)).2))).2)))) (fun q1 q16 q23 q29 => (rt_run _ _ _ _ _ r (Option.some.inj (ifp q29 (gd (ifp q23 (ifn q16 (gd (ifn q1 h)).2))).2)))) (fun q1 q32 => (gd (ifn q32 (ifp q1 h))).1) (fun q1 q32 q36 => (rt_run _ _ _ _ _ r (Option.some.inj (ifn q36 (gd (ifn q32 (ifp q1 h))).2)))) (fun q1 q32 q36 => (rt_run _ _ _ _ _ r (Option.some.inj (ifp q36 (gd (ifn q32 (ifp q1 h))).2)))) (fun q1 q32 => (gd (ifp q32 (ifp q1 h))).1) (fun q1 q32 q40 => (rt_run _ _ _ _ _ r (Option.some.inj (ifn q40 (gd (ifp q32 (ifp q1 h))).2)))) (fun q1 q32 q40 => (rt_run _ _ _ _ _ r (Option.some.inj (ifp q40 (gd (ifp q32 (ifp q1 h))).2))))
set_option maxRecDepth 65536 in
set_option maxHeartbeats 4000000 in
theorem wp_L_fp {l : Launch} {Z : State} {a0 : Array Value} (H : OK Z a0) (sl : Int32) (sv : Int32 → Int32) (F1 : Nat → Int32) (G1 : Nat → Int64) (A1 : Nat → Int32 → Int32) (B1 : Nat → Int32 → Int64) {Q : Option Value → WL → Prop} (h1 : Wk l Z (MoL Z cdC "RecursiveCteL7" true) md_L_fp 32 [.val (.ref 1), .val (.long ((((((f_status F1).toInt64) * (31 : Int64)) + ((f_rowCount F1).toInt64)) * (31 : Int64)) + ((f_edgeCount F1).toInt64))), .second, .val (.int (0 : Int32)), .unset, .unset] [] (sl, sv, [(10, F1, G1, A1, B1)]) 0 0 Q) :
    Wk l Z (MoL Z cdC "RecursiveCteL7" true) md_L_fp 0 [.val (.ref 1), .unset, .unset, .unset, .unset, .unset] [] (sl, sv, [(10, F1, G1, A1, B1)]) 0 0 Q := by
  refine Wk.aloadN o_L_fp_0 rfl ?_
  refine Wk.callLF (coC H) [] 0 [] (i' := 1) (H.w 62 rfl) (cv_status H) o_L_fp_1 (run_status H F1 G1 A1 B1) (wt := 0) (cu' := 0) (su' := 0) (by decide) trivial rfl rfl rfl rfl rfl rfl rfl rfl rfl rfl (ws' := [(10, F1, G1, A1, B1)]) rfl ?_
  refine Wk.i2l o_L_fp_4 ?_
  refine Wk.lstoreN o_L_fp_5 (Or.inl rfl) (Or.inl rfl) (L' := [.val (.ref 1), .val (.long ((f_status F1).toInt64)), .second, .unset, .unset, .unset]) rfl ?_
  refine Wk.lloadN o_L_fp_6 rfl ?_
  refine Wk.ldc2 o_L_fp_7 (z := (31 : Int64)) (H.w 67 rfl) ?_
  refine Wk.lmul o_L_fp_10 ?_
  refine Wk.aloadN o_L_fp_11 rfl ?_
  refine Wk.callLF (coC H) [] 0 [.long (((f_status F1).toInt64) * (31 : Int64))] (i' := 1) (H.w 68 rfl) (cv_rowCount H) o_L_fp_12 (run_rowCount H F1 G1 A1 B1) (wt := 2) (cu' := 0) (su' := 0) (by decide) trivial rfl rfl rfl rfl rfl rfl rfl rfl rfl rfl (ws' := [(10, F1, G1, A1, B1)]) rfl ?_
  refine Wk.i2l o_L_fp_15 ?_
  refine Wk.ladd o_L_fp_16 ?_
  refine Wk.forget [false, true, true, false, false, false] (L' := [.val (.ref 1), .unset, .unset, .unset, .unset, .unset]) rfl rfl ?_
  refine Wk.lstoreN o_L_fp_17 (Or.inl rfl) (Or.inl rfl) (L' := [.val (.ref 1), .val (.long ((((f_status F1).toInt64) * (31 : Int64)) + ((f_rowCount F1).toInt64))), .second, .unset, .unset, .unset]) rfl ?_
  refine Wk.lloadN o_L_fp_18 rfl ?_
  refine Wk.ldc2 o_L_fp_19 (z := (31 : Int64)) (H.w 67 rfl) ?_
  refine Wk.lmul o_L_fp_22 ?_
  refine Wk.aloadN o_L_fp_23 rfl ?_
  refine Wk.callLF (coC H) [] 0 [.long (((((f_status F1).toInt64) * (31 : Int64)) + ((f_rowCount F1).toInt64)) * (31 : Int64))] (i' := 1) (H.w 73 rfl) (cv_edgeCount H) o_L_fp_24 (run_edgeCount H F1 G1 A1 B1) (wt := 2) (cu' := 0) (su' := 0) (by decide) trivial rfl rfl rfl rfl rfl rfl rfl rfl rfl rfl (ws' := [(10, F1, G1, A1, B1)]) rfl ?_
  refine Wk.i2l o_L_fp_27 ?_
  refine Wk.ladd o_L_fp_28 ?_
  refine Wk.forget [false, true, true, false, false, false] (L' := [.val (.ref 1), .unset, .unset, .unset, .unset, .unset]) rfl rfl ?_
  refine Wk.lstoreN o_L_fp_29 (Or.inl rfl) (Or.inl rfl) (L' := [.val (.ref 1), .val (.long ((((((f_status F1).toInt64) * (31 : Int64)) + ((f_rowCount F1).toInt64)) * (31 : Int64)) + ((f_edgeCount F1).toInt64))), .second, .unset, .unset, .unset]) rfl ?_
  refine Wk.iconst o_L_fp_30 (z := (0 : Int32)) (by decide) ?_
  refine Wk.istoreN o_L_fp_31 (Or.inl rfl) (L' := [.val (.ref 1), .val (.long ((((((f_status F1).toInt64) * (31 : Int64)) + ((f_rowCount F1).toInt64)) * (31 : Int64)) + ((f_edgeCount F1).toInt64))), .second, .val (.int (0 : Int32)), .unset, .unset]) rfl ?_
  exact h1

set_option maxRecDepth 65536 in
set_option maxHeartbeats 4000000 in
theorem wp_L_fp_32 {l : Launch} {Z : State} {a0 : Array Value} (H : OK Z a0) (sl : Int32) (sv : Int32 → Int32) (F1 : Nat → Int32) (G1 : Nat → Int64) (A1 : Nat → Int32 → Int32) (B1 : Nat → Int32 → Int64) (w1 : Int64) (v3 : Int32) {Q : Option Value → WL → Prop} (h2 : ¬ v3 < (49 : Int32) → Wk l Z (MoL Z cdC "RecursiveCteL7" true) md_L_fp 75 [.val (.ref 1), .val (.long w1), .second, .val (.int (0 : Int32)), .unset, .unset] [] (sl, sv, [(10, F1, G1, A1, B1)]) 0 0 Q) (s3 : v3 < (49 : Int32) → (en_hasEdge F1 A1 (v3 / (7 : Int32)) (v3 % (7 : Int32))).isSome = true) (h6 : v3 < (49 : Int32) → Wk l Z (MoL Z cdC "RecursiveCteL7" true) md_L_fp 32 [.val (.ref 1), .val (.long ((w1 * (31 : Int64)) + (if (R_hasEdge F1 A1 (v3 / (7 : Int32)) (v3 % (7 : Int32))) = 0 then (2 : Int64) else (1 : Int64)))), .second, .val (.int (v3 + (1 : Int32))), .unset, .unset] [] (sl, sv, [(10, F1, G1, A1, B1)]) 0 0 Q) :
    Wk l Z (MoL Z cdC "RecursiveCteL7" true) md_L_fp 32 [.val (.ref 1), .val (.long w1), .second, .val (.int v3), .unset, .unset] [] (sl, sv, [(10, F1, G1, A1, B1)]) 0 0 Q := by
  refine Wk.iloadN o_L_fp_32 rfl ?_
  refine Wk.bipush o_L_fp_33 (z := (49 : Int32)) (by decide) ?_
  refine Wk.icmp_ge o_L_fp_35 (fun q1 => ?_) (fun q1 => ?_)
  · refine Wk.iconst o_L_fp_73 (z := (0 : Int32)) (by decide) ?_
    refine Wk.istoreN o_L_fp_74 (Or.inr ⟨_, rfl, rfl⟩) (L' := [.val (.ref 1), .val (.long w1), .second, .val (.int (0 : Int32)), .unset, .unset]) rfl ?_
    exact (h2 q1)
  · refine Wk.lloadN o_L_fp_38 rfl ?_
    refine Wk.ldc2 o_L_fp_39 (z := (31 : Int64)) (H.w 67 rfl) ?_
    refine Wk.lmul o_L_fp_42 ?_
    refine Wk.aloadN o_L_fp_43 rfl ?_
    refine Wk.iloadN o_L_fp_44 rfl ?_
    refine Wk.bipush o_L_fp_45 (z := (7 : Int32)) (by decide) ?_
    refine Wk.idiv o_L_fp_47 (by decide) ?_
    refine Wk.iloadN o_L_fp_48 rfl ?_
    refine Wk.bipush o_L_fp_49 (z := (7 : Int32)) (by decide) ?_
    refine Wk.irem o_L_fp_51 (by decide) ?_
    refine Wk.callLF (coC H) [.int (v3 / (7 : Int32)), .int (v3 % (7 : Int32))] 0 [.long (w1 * (31 : Int64))] (i' := 1) (H.w 78 rfl) (cv_hasEdge H) o_L_fp_52 (run_hasEdge H F1 G1 A1 B1 (v3 / (7 : Int32)) (v3 % (7 : Int32)) (s3 q1)) (wt := 2) (cu' := 0) (su' := 0) (by decide) trivial rfl rfl rfl rfl rfl rfl rfl rfl rfl rfl (ws' := [(10, F1, G1, A1, B1)]) rfl ?_
    have J5 : Wk l Z (MoL Z cdC "RecursiveCteL7" true) md_L_fp 65 [.val (.ref 1), .val (.long w1), .second, .val (.int v3), .unset, .unset] [.long (if (R_hasEdge F1 A1 (v3 / (7 : Int32)) (v3 % (7 : Int32))) = 0 then (2 : Int64) else (1 : Int64)), .long (w1 * (31 : Int64))] (sl, sv, [(10, F1, G1, A1, B1)]) 0 0 Q := by
      refine Wk.ladd o_L_fp_65 ?_
      refine Wk.forget [false, true, true, false, false, false] (L' := [.val (.ref 1), .unset, .unset, .val (.int v3), .unset, .unset]) rfl rfl ?_
      refine Wk.lstoreN o_L_fp_66 (Or.inl rfl) (Or.inl rfl) (L' := [.val (.ref 1), .val (.long ((w1 * (31 : Int64)) + (if (R_hasEdge F1 A1 (v3 / (7 : Int32)) (v3 % (7 : Int32))) = 0 then (2 : Int64) else (1 : Int64)))), .second, .val (.int v3), .unset, .unset]) rfl ?_
      refine Wk.iinc o_L_fp_67 rfl (z := (v3 + (1 : Int32))) rfl (L' := [.val (.ref 1), .val (.long ((w1 * (31 : Int64)) + (if (R_hasEdge F1 A1 (v3 / (7 : Int32)) (v3 % (7 : Int32))) = 0 then (2 : Int64) else (1 : Int64)))), .second, .val (.int (v3 + (1 : Int32))), .unset, .unset]) rfl ?_
      refine Wk.goto o_L_fp_70 ?_
      exact (h6 q1)
    refine Wk.if_eq o_L_fp_55 (fun q4 => ?_) (fun q4 => ?_)
    · refine Wk.ldc2 o_L_fp_62 (z := (2 : Int64)) (H.w 87 rfl) ?_
      first | (rw [show ((if (R_hasEdge F1 A1 (v3 / (7 : Int32)) (v3 % (7 : Int32))) = 0 then (2 : Int64) else (1 : Int64)) : Int64) = (2 : Int64) from if_pos q4] at J5; exact J5) | exact J5 | (simp only [if_pos q4] at J5 ⊢; exact J5)
    · refine Wk.lconst o_L_fp_58 (z := (1 : Int64)) (by decide) ?_
      refine Wk.goto o_L_fp_59 ?_
      first | (rw [show ((if (R_hasEdge F1 A1 (v3 / (7 : Int32)) (v3 % (7 : Int32))) = 0 then (2 : Int64) else (1 : Int64)) : Int64) = (1 : Int64) from if_neg q4] at J5; exact J5) | exact J5 | (simp only [if_neg q4] at J5 ⊢; exact J5)

set_option maxRecDepth 65536 in
set_option maxHeartbeats 4000000 in
theorem wp_L_fp_75 {l : Launch} {Z : State} {a0 : Array Value} (H : OK Z a0) (sl : Int32) (sv : Int32 → Int32) (F1 : Nat → Int32) (G1 : Nat → Int64) (A1 : Nat → Int32 → Int32) (B1 : Nat → Int32 → Int64) (w1 : Int64) (v3 : Int32) {Q : Option Value → WL → Prop} (h2 : ¬ v3 < (7 : Int32) → Wk l Z (MoL Z cdC "RecursiveCteL7" true) md_L_fp 124 [.val (.ref 1), .val (.long w1), .second, .val (.int (0 : Int32)), .unset, .unset] [] (sl, sv, [(10, F1, G1, A1, B1)]) 0 0 Q) (s3 : v3 < (7 : Int32) → (en_countNode F1 A1 v3).isSome = true) (s4 : v3 < (7 : Int32) → (en_isSeed F1 A1 v3).isSome = true) (h7 : v3 < (7 : Int32) → Wk l Z (MoL Z cdC "RecursiveCteL7" true) md_L_fp 75 [.val (.ref 1), .val (.long ((((w1 * (31 : Int64)) + ((R_countNode F1 A1 v3).toInt64)) * (31 : Int64)) + (if (R_isSeed F1 A1 v3) = 0 then (2 : Int64) else (1 : Int64)))), .second, .val (.int (v3 + (1 : Int32))), .unset, .unset] [] (sl, sv, [(10, F1, G1, A1, B1)]) 0 0 Q) :
    Wk l Z (MoL Z cdC "RecursiveCteL7" true) md_L_fp 75 [.val (.ref 1), .val (.long w1), .second, .val (.int v3), .unset, .unset] [] (sl, sv, [(10, F1, G1, A1, B1)]) 0 0 Q := by
  refine Wk.iloadN o_L_fp_75 rfl ?_
  refine Wk.bipush o_L_fp_76 (z := (7 : Int32)) (by decide) ?_
  refine Wk.icmp_ge o_L_fp_78 (fun q1 => ?_) (fun q1 => ?_)
  · refine Wk.iconst o_L_fp_122 (z := (0 : Int32)) (by decide) ?_
    refine Wk.istoreN o_L_fp_123 (Or.inr ⟨_, rfl, rfl⟩) (L' := [.val (.ref 1), .val (.long w1), .second, .val (.int (0 : Int32)), .unset, .unset]) rfl ?_
    exact (h2 q1)
  · refine Wk.lloadN o_L_fp_81 rfl ?_
    refine Wk.ldc2 o_L_fp_82 (z := (31 : Int64)) (H.w 67 rfl) ?_
    refine Wk.lmul o_L_fp_85 ?_
    refine Wk.aloadN o_L_fp_86 rfl ?_
    refine Wk.iloadN o_L_fp_87 rfl ?_
    refine Wk.callLF (coC H) [.int v3] 0 [.long (w1 * (31 : Int64))] (i' := 1) (H.w 88 rfl) (cv_countNode H) o_L_fp_88 (run_countNode H F1 G1 A1 B1 v3 (s3 q1)) (wt := 2) (cu' := 0) (su' := 0) (by decide) trivial rfl rfl rfl rfl rfl rfl rfl rfl rfl rfl (ws' := [(10, F1, G1, A1, B1)]) rfl ?_
    refine Wk.i2l o_L_fp_91 ?_
    refine Wk.ladd o_L_fp_92 ?_
    refine Wk.forget [false, true, true, false, false, false] (L' := [.val (.ref 1), .unset, .unset, .val (.int v3), .unset, .unset]) rfl rfl ?_
    refine Wk.lstoreN o_L_fp_93 (Or.inl rfl) (Or.inl rfl) (L' := [.val (.ref 1), .val (.long ((w1 * (31 : Int64)) + ((R_countNode F1 A1 v3).toInt64))), .second, .val (.int v3), .unset, .unset]) rfl ?_
    refine Wk.lloadN o_L_fp_94 rfl ?_
    refine Wk.ldc2 o_L_fp_95 (z := (31 : Int64)) (H.w 67 rfl) ?_
    refine Wk.lmul o_L_fp_98 ?_
    refine Wk.aloadN o_L_fp_99 rfl ?_
    refine Wk.iloadN o_L_fp_100 rfl ?_
    refine Wk.callLF (coC H) [.int v3] 0 [.long (((w1 * (31 : Int64)) + ((R_countNode F1 A1 v3).toInt64)) * (31 : Int64))] (i' := 1) (H.w 93 rfl) (cv_isSeed H) o_L_fp_101 (run_isSeed H F1 G1 A1 B1 v3 (s4 q1)) (wt := 2) (cu' := 0) (su' := 0) (by decide) trivial rfl rfl rfl rfl rfl rfl rfl rfl rfl rfl (ws' := [(10, F1, G1, A1, B1)]) rfl ?_
    have J6 : Wk l Z (MoL Z cdC "RecursiveCteL7" true) md_L_fp 114 [.val (.ref 1), .val (.long ((w1 * (31 : Int64)) + ((R_countNode F1 A1 v3).toInt64))), .second, .val (.int v3), .unset, .unset] [.long (if (R_isSeed F1 A1 v3) = 0 then (2 : Int64) else (1 : Int64)), .long (((w1 * (31 : Int64)) + ((R_countNode F1 A1 v3).toInt64)) * (31 : Int64))] (sl, sv, [(10, F1, G1, A1, B1)]) 0 0 Q := by
      refine Wk.ladd o_L_fp_114 ?_
      refine Wk.forget [false, true, true, false, false, false] (L' := [.val (.ref 1), .unset, .unset, .val (.int v3), .unset, .unset]) rfl rfl ?_
      refine Wk.lstoreN o_L_fp_115 (Or.inl rfl) (Or.inl rfl) (L' := [.val (.ref 1), .val (.long ((((w1 * (31 : Int64)) + ((R_countNode F1 A1 v3).toInt64)) * (31 : Int64)) + (if (R_isSeed F1 A1 v3) = 0 then (2 : Int64) else (1 : Int64)))), .second, .val (.int v3), .unset, .unset]) rfl ?_
      refine Wk.iinc o_L_fp_116 rfl (z := (v3 + (1 : Int32))) rfl (L' := [.val (.ref 1), .val (.long ((((w1 * (31 : Int64)) + ((R_countNode F1 A1 v3).toInt64)) * (31 : Int64)) + (if (R_isSeed F1 A1 v3) = 0 then (2 : Int64) else (1 : Int64)))), .second, .val (.int (v3 + (1 : Int32))), .unset, .unset]) rfl ?_
      refine Wk.goto o_L_fp_119 ?_
      exact (h7 q1)
    refine Wk.if_eq o_L_fp_104 (fun q5 => ?_) (fun q5 => ?_)
    · refine Wk.ldc2 o_L_fp_111 (z := (2 : Int64)) (H.w 87 rfl) ?_
      first | (rw [show ((if (R_isSeed F1 A1 v3) = 0 then (2 : Int64) else (1 : Int64)) : Int64) = (2 : Int64) from if_pos q5] at J6; exact J6) | exact J6 | (simp only [if_pos q5] at J6 ⊢; exact J6)
    · refine Wk.lconst o_L_fp_107 (z := (1 : Int64)) (by decide) ?_
      refine Wk.goto o_L_fp_108 ?_
      first | (rw [show ((if (R_isSeed F1 A1 v3) = 0 then (2 : Int64) else (1 : Int64)) : Int64) = (1 : Int64) from if_neg q5] at J6; exact J6) | exact J6 | (simp only [if_neg q5] at J6 ⊢; exact J6)

set_option maxRecDepth 65536 in
set_option maxHeartbeats 4000000 in
theorem wp_L_fp_124 {l : Launch} {Z : State} {a0 : Array Value} (H : OK Z a0) (sl : Int32) (sv : Int32 → Int32) (F1 : Nat → Int32) (G1 : Nat → Int64) (A1 : Nat → Int32 → Int32) (B1 : Nat → Int32 → Int64) (w1 : Int64) (v3 : Int32) {Q : Option Value → WL → Prop} (h2 : ¬ v3 < (400 : Int32) → Q (some (.long w1)) (sl, sv, [(10, F1, G1, A1, B1)])) (s4 : v3 < (400 : Int32) → (v3 &&& (15 : Int32)) = 0 → (en_rowNode F1 A1 (v3 >>> ((4 : Int32) &&& 31))).isSome = true) (s5 : v3 < (400 : Int32) → (v3 &&& (15 : Int32)) = 0 → (en_rowDepth F1 A1 (v3 >>> ((4 : Int32) &&& 31))).isSome = true) (s6 : v3 < (400 : Int32) → (v3 &&& (15 : Int32)) = 0 → (en_rowIsCycle F1 A1 (v3 >>> ((4 : Int32) &&& 31))).isSome = true) (s10 : v3 < (400 : Int32) → (en_rowPathNode F1 A1 (v3 >>> ((4 : Int32) &&& 31)) (v3 &&& (15 : Int32))).isSome = true) (h11 : v3 < (400 : Int32) → Wk l Z (MoL Z cdC "RecursiveCteL7" true) md_L_fp 124 [.val (.ref 1), .val (.long (((if (v3 &&& (15 : Int32)) = 0 then ((((((w1 * (31 : Int64)) + ((R_rowNode F1 A1 (v3 >>> ((4 : Int32) &&& 31))).toInt64)) * (31 : Int64)) + ((R_rowDepth F1 A1 (v3 >>> ((4 : Int32) &&& 31))).toInt64)) * (31 : Int64)) + (if (R_rowIsCycle F1 A1 (v3 >>> ((4 : Int32) &&& 31))) = 0 then (2 : Int64) else (1 : Int64))) else w1) * (31 : Int64)) + ((R_rowPathNode F1 A1 (v3 >>> ((4 : Int32) &&& 31)) (v3 &&& (15 : Int32))).toInt64))), .second, .val (.int (v3 + (1 : Int32))), .unset, .unset] [] (sl, sv, [(10, F1, G1, A1, B1)]) 0 0 Q) :
    Wk l Z (MoL Z cdC "RecursiveCteL7" true) md_L_fp 124 [.val (.ref 1), .val (.long w1), .second, .val (.int v3), .unset, .unset] [] (sl, sv, [(10, F1, G1, A1, B1)]) 0 0 Q := by
  refine Wk.iloadN o_L_fp_124 rfl ?_
  refine Wk.sipush o_L_fp_125 (z := (400 : Int32)) (by decide) ?_
  refine Wk.icmp_ge o_L_fp_128 (fun q1 => ?_) (fun q1 => ?_)
  · refine Wk.lloadN o_L_fp_220 rfl ?_
    exact Wk.lreturn mrL rfl o_L_fp_221 rfl (by decide) (by decide) (h2 q1)
  · refine Wk.iloadN o_L_fp_131 rfl ?_
    refine Wk.iconst o_L_fp_132 (z := (4 : Int32)) (by decide) ?_
    refine Wk.ishr o_L_fp_133 ?_
    refine Wk.istore o_L_fp_134 (Or.inl rfl) (L' := [.val (.ref 1), .val (.long w1), .second, .val (.int v3), .val (.int (v3 >>> ((4 : Int32) &&& 31))), .unset]) rfl ?_
    refine Wk.iloadN o_L_fp_136 rfl ?_
    refine Wk.bipush o_L_fp_137 (z := (15 : Int32)) (by decide) ?_
    refine Wk.iand o_L_fp_139 ?_
    refine Wk.istore o_L_fp_140 (Or.inl rfl) (L' := [.val (.ref 1), .val (.long w1), .second, .val (.int v3), .val (.int (v3 >>> ((4 : Int32) &&& 31))), .val (.int (v3 &&& (15 : Int32)))]) rfl ?_
    refine Wk.iload o_L_fp_142 rfl ?_
    have J9 : Wk l Z (MoL Z cdC "RecursiveCteL7" true) md_L_fp 198 [.val (.ref 1), .val (.long (if (v3 &&& (15 : Int32)) = 0 then ((((((w1 * (31 : Int64)) + ((R_rowNode F1 A1 (v3 >>> ((4 : Int32) &&& 31))).toInt64)) * (31 : Int64)) + ((R_rowDepth F1 A1 (v3 >>> ((4 : Int32) &&& 31))).toInt64)) * (31 : Int64)) + (if (R_rowIsCycle F1 A1 (v3 >>> ((4 : Int32) &&& 31))) = 0 then (2 : Int64) else (1 : Int64))) else w1)), .second, .val (.int v3), .val (.int (v3 >>> ((4 : Int32) &&& 31))), .val (.int (v3 &&& (15 : Int32)))] [] (sl, sv, [(10, F1, G1, A1, B1)]) 0 0 Q := by
      refine Wk.lloadN o_L_fp_198 rfl ?_
      refine Wk.ldc2 o_L_fp_199 (z := (31 : Int64)) (H.w 67 rfl) ?_
      refine Wk.lmul o_L_fp_202 ?_
      refine Wk.aloadN o_L_fp_203 rfl ?_
      refine Wk.iload o_L_fp_204 rfl ?_
      refine Wk.iload o_L_fp_206 rfl ?_
      refine Wk.callLF (coC H) [.int (v3 >>> ((4 : Int32) &&& 31)), .int (v3 &&& (15 : Int32))] 0 [.long ((if (v3 &&& (15 : Int32)) = 0 then ((((((w1 * (31 : Int64)) + ((R_rowNode F1 A1 (v3 >>> ((4 : Int32) &&& 31))).toInt64)) * (31 : Int64)) + ((R_rowDepth F1 A1 (v3 >>> ((4 : Int32) &&& 31))).toInt64)) * (31 : Int64)) + (if (R_rowIsCycle F1 A1 (v3 >>> ((4 : Int32) &&& 31))) = 0 then (2 : Int64) else (1 : Int64))) else w1) * (31 : Int64))] (i' := 1) (H.w 117 rfl) (cv_rowPathNode H) o_L_fp_208 (run_rowPathNode H F1 G1 A1 B1 (v3 >>> ((4 : Int32) &&& 31)) (v3 &&& (15 : Int32)) (s10 q1)) (wt := 2) (cu' := 0) (su' := 0) (by decide) trivial rfl rfl rfl rfl rfl rfl rfl rfl rfl rfl (ws' := [(10, F1, G1, A1, B1)]) rfl ?_
      refine Wk.i2l o_L_fp_211 ?_
      refine Wk.ladd o_L_fp_212 ?_
      refine Wk.forget [false, true, true, false, false, false] (L' := [.val (.ref 1), .unset, .unset, .val (.int v3), .val (.int (v3 >>> ((4 : Int32) &&& 31))), .val (.int (v3 &&& (15 : Int32)))]) rfl rfl ?_
      refine Wk.lstoreN o_L_fp_213 (Or.inl rfl) (Or.inl rfl) (L' := [.val (.ref 1), .val (.long (((if (v3 &&& (15 : Int32)) = 0 then ((((((w1 * (31 : Int64)) + ((R_rowNode F1 A1 (v3 >>> ((4 : Int32) &&& 31))).toInt64)) * (31 : Int64)) + ((R_rowDepth F1 A1 (v3 >>> ((4 : Int32) &&& 31))).toInt64)) * (31 : Int64)) + (if (R_rowIsCycle F1 A1 (v3 >>> ((4 : Int32) &&& 31))) = 0 then (2 : Int64) else (1 : Int64))) else w1) * (31 : Int64)) + ((R_rowPathNode F1 A1 (v3 >>> ((4 : Int32) &&& 31)) (v3 &&& (15 : Int32))).toInt64))), .second, .val (.int v3), .val (.int (v3 >>> ((4 : Int32) &&& 31))), .val (.int (v3 &&& (15 : Int32)))]) rfl ?_
      refine Wk.iinc o_L_fp_214 rfl (z := (v3 + (1 : Int32))) rfl (L' := [.val (.ref 1), .val (.long (((if (v3 &&& (15 : Int32)) = 0 then ((((((w1 * (31 : Int64)) + ((R_rowNode F1 A1 (v3 >>> ((4 : Int32) &&& 31))).toInt64)) * (31 : Int64)) + ((R_rowDepth F1 A1 (v3 >>> ((4 : Int32) &&& 31))).toInt64)) * (31 : Int64)) + (if (R_rowIsCycle F1 A1 (v3 >>> ((4 : Int32) &&& 31))) = 0 then (2 : Int64) else (1 : Int64))) else w1) * (31 : Int64)) + ((R_rowPathNode F1 A1 (v3 >>> ((4 : Int32) &&& 31)) (v3 &&& (15 : Int32))).toInt64))), .second, .val (.int (v3 + (1 : Int32))), .val (.int (v3 >>> ((4 : Int32) &&& 31))), .val (.int (v3 &&& (15 : Int32)))]) rfl ?_
      refine Wk.goto o_L_fp_217 ?_
      refine Wk.forget [false, false, false, false, true, true] (L' := [.val (.ref 1), .val (.long (((if (v3 &&& (15 : Int32)) = 0 then ((((((w1 * (31 : Int64)) + ((R_rowNode F1 A1 (v3 >>> ((4 : Int32) &&& 31))).toInt64)) * (31 : Int64)) + ((R_rowDepth F1 A1 (v3 >>> ((4 : Int32) &&& 31))).toInt64)) * (31 : Int64)) + (if (R_rowIsCycle F1 A1 (v3 >>> ((4 : Int32) &&& 31))) = 0 then (2 : Int64) else (1 : Int64))) else w1) * (31 : Int64)) + ((R_rowPathNode F1 A1 (v3 >>> ((4 : Int32) &&& 31)) (v3 &&& (15 : Int32))).toInt64))), .second, .val (.int (v3 + (1 : Int32))), .unset, .unset]) rfl rfl ?_
      exact (h11 q1)
    refine Wk.if_ne o_L_fp_144 (fun q3 => ?_) (fun q3 => ?_)
    · first | (rw [show ((if (v3 &&& (15 : Int32)) = 0 then ((((((w1 * (31 : Int64)) + ((R_rowNode F1 A1 (v3 >>> ((4 : Int32) &&& 31))).toInt64)) * (31 : Int64)) + ((R_rowDepth F1 A1 (v3 >>> ((4 : Int32) &&& 31))).toInt64)) * (31 : Int64)) + (if (R_rowIsCycle F1 A1 (v3 >>> ((4 : Int32) &&& 31))) = 0 then (2 : Int64) else (1 : Int64))) else w1) : Int64) = w1 from if_neg q3] at J9; exact J9) | exact J9 | (simp only [if_neg q3] at J9 ⊢; exact J9)
    · refine Wk.lloadN o_L_fp_147 rfl ?_
      refine Wk.ldc2 o_L_fp_148 (z := (31 : Int64)) (H.w 67 rfl) ?_
      refine Wk.lmul o_L_fp_151 ?_
      refine Wk.aloadN o_L_fp_152 rfl ?_
      refine Wk.iload o_L_fp_153 rfl ?_
      refine Wk.callLF (coC H) [.int (v3 >>> ((4 : Int32) &&& 31))] 0 [.long (w1 * (31 : Int64))] (i' := 1) (H.w 98 rfl) (cv_rowNode H) o_L_fp_155 (run_rowNode H F1 G1 A1 B1 (v3 >>> ((4 : Int32) &&& 31)) (s4 q1 q3)) (wt := 2) (cu' := 0) (su' := 0) (by decide) trivial rfl rfl rfl rfl rfl rfl rfl rfl rfl rfl (ws' := [(10, F1, G1, A1, B1)]) rfl ?_
      refine Wk.i2l o_L_fp_158 ?_
      refine Wk.ladd o_L_fp_159 ?_
      refine Wk.forget [false, true, true, false, false, false] (L' := [.val (.ref 1), .unset, .unset, .val (.int v3), .val (.int (v3 >>> ((4 : Int32) &&& 31))), .val (.int (v3 &&& (15 : Int32)))]) rfl rfl ?_
      refine Wk.lstoreN o_L_fp_160 (Or.inl rfl) (Or.inl rfl) (L' := [.val (.ref 1), .val (.long ((w1 * (31 : Int64)) + ((R_rowNode F1 A1 (v3 >>> ((4 : Int32) &&& 31))).toInt64))), .second, .val (.int v3), .val (.int (v3 >>> ((4 : Int32) &&& 31))), .val (.int (v3 &&& (15 : Int32)))]) rfl ?_
      refine Wk.lloadN o_L_fp_161 rfl ?_
      refine Wk.ldc2 o_L_fp_162 (z := (31 : Int64)) (H.w 67 rfl) ?_
      refine Wk.lmul o_L_fp_165 ?_
      refine Wk.aloadN o_L_fp_166 rfl ?_
      refine Wk.iload o_L_fp_167 rfl ?_
      refine Wk.callLF (coC H) [.int (v3 >>> ((4 : Int32) &&& 31))] 0 [.long (((w1 * (31 : Int64)) + ((R_rowNode F1 A1 (v3 >>> ((4 : Int32) &&& 31))).toInt64)) * (31 : Int64))] (i' := 1) (H.w 107 rfl) (cv_rowDepth H) o_L_fp_169 (run_rowDepth H F1 G1 A1 B1 (v3 >>> ((4 : Int32) &&& 31)) (s5 q1 q3)) (wt := 2) (cu' := 0) (su' := 0) (by decide) trivial rfl rfl rfl rfl rfl rfl rfl rfl rfl rfl (ws' := [(10, F1, G1, A1, B1)]) rfl ?_
      refine Wk.i2l o_L_fp_172 ?_
      refine Wk.ladd o_L_fp_173 ?_
      refine Wk.forget [false, true, true, false, false, false] (L' := [.val (.ref 1), .unset, .unset, .val (.int v3), .val (.int (v3 >>> ((4 : Int32) &&& 31))), .val (.int (v3 &&& (15 : Int32)))]) rfl rfl ?_
      refine Wk.lstoreN o_L_fp_174 (Or.inl rfl) (Or.inl rfl) (L' := [.val (.ref 1), .val (.long ((((w1 * (31 : Int64)) + ((R_rowNode F1 A1 (v3 >>> ((4 : Int32) &&& 31))).toInt64)) * (31 : Int64)) + ((R_rowDepth F1 A1 (v3 >>> ((4 : Int32) &&& 31))).toInt64))), .second, .val (.int v3), .val (.int (v3 >>> ((4 : Int32) &&& 31))), .val (.int (v3 &&& (15 : Int32)))]) rfl ?_
      refine Wk.lloadN o_L_fp_175 rfl ?_
      refine Wk.ldc2 o_L_fp_176 (z := (31 : Int64)) (H.w 67 rfl) ?_
      refine Wk.lmul o_L_fp_179 ?_
      refine Wk.aloadN o_L_fp_180 rfl ?_
      refine Wk.iload o_L_fp_181 rfl ?_
      refine Wk.callLF (coC H) [.int (v3 >>> ((4 : Int32) &&& 31))] 0 [.long (((((w1 * (31 : Int64)) + ((R_rowNode F1 A1 (v3 >>> ((4 : Int32) &&& 31))).toInt64)) * (31 : Int64)) + ((R_rowDepth F1 A1 (v3 >>> ((4 : Int32) &&& 31))).toInt64)) * (31 : Int64))] (i' := 1) (H.w 112 rfl) (cv_rowIsCycle H) o_L_fp_183 (run_rowIsCycle H F1 G1 A1 B1 (v3 >>> ((4 : Int32) &&& 31)) (s6 q1 q3)) (wt := 2) (cu' := 0) (su' := 0) (by decide) trivial rfl rfl rfl rfl rfl rfl rfl rfl rfl rfl (ws' := [(10, F1, G1, A1, B1)]) rfl ?_
      have J8 : Wk l Z (MoL Z cdC "RecursiveCteL7" true) md_L_fp 196 [.val (.ref 1), .val (.long ((((w1 * (31 : Int64)) + ((R_rowNode F1 A1 (v3 >>> ((4 : Int32) &&& 31))).toInt64)) * (31 : Int64)) + ((R_rowDepth F1 A1 (v3 >>> ((4 : Int32) &&& 31))).toInt64))), .second, .val (.int v3), .val (.int (v3 >>> ((4 : Int32) &&& 31))), .val (.int (v3 &&& (15 : Int32)))] [.long (if (R_rowIsCycle F1 A1 (v3 >>> ((4 : Int32) &&& 31))) = 0 then (2 : Int64) else (1 : Int64)), .long (((((w1 * (31 : Int64)) + ((R_rowNode F1 A1 (v3 >>> ((4 : Int32) &&& 31))).toInt64)) * (31 : Int64)) + ((R_rowDepth F1 A1 (v3 >>> ((4 : Int32) &&& 31))).toInt64)) * (31 : Int64))] (sl, sv, [(10, F1, G1, A1, B1)]) 0 0 Q := by
        refine Wk.ladd o_L_fp_196 ?_
        refine Wk.forget [false, true, true, false, false, false] (L' := [.val (.ref 1), .unset, .unset, .val (.int v3), .val (.int (v3 >>> ((4 : Int32) &&& 31))), .val (.int (v3 &&& (15 : Int32)))]) rfl rfl ?_
        refine Wk.lstoreN o_L_fp_197 (Or.inl rfl) (Or.inl rfl) (L' := [.val (.ref 1), .val (.long ((((((w1 * (31 : Int64)) + ((R_rowNode F1 A1 (v3 >>> ((4 : Int32) &&& 31))).toInt64)) * (31 : Int64)) + ((R_rowDepth F1 A1 (v3 >>> ((4 : Int32) &&& 31))).toInt64)) * (31 : Int64)) + (if (R_rowIsCycle F1 A1 (v3 >>> ((4 : Int32) &&& 31))) = 0 then (2 : Int64) else (1 : Int64)))), .second, .val (.int v3), .val (.int (v3 >>> ((4 : Int32) &&& 31))), .val (.int (v3 &&& (15 : Int32)))]) rfl ?_
        first | (rw [show ((if (v3 &&& (15 : Int32)) = 0 then ((((((w1 * (31 : Int64)) + ((R_rowNode F1 A1 (v3 >>> ((4 : Int32) &&& 31))).toInt64)) * (31 : Int64)) + ((R_rowDepth F1 A1 (v3 >>> ((4 : Int32) &&& 31))).toInt64)) * (31 : Int64)) + (if (R_rowIsCycle F1 A1 (v3 >>> ((4 : Int32) &&& 31))) = 0 then (2 : Int64) else (1 : Int64))) else w1) : Int64) = ((((((w1 * (31 : Int64)) + ((R_rowNode F1 A1 (v3 >>> ((4 : Int32) &&& 31))).toInt64)) * (31 : Int64)) + ((R_rowDepth F1 A1 (v3 >>> ((4 : Int32) &&& 31))).toInt64)) * (31 : Int64)) + (if (R_rowIsCycle F1 A1 (v3 >>> ((4 : Int32) &&& 31))) = 0 then (2 : Int64) else (1 : Int64))) from if_pos q3] at J9; exact J9) | exact J9 | (simp only [if_pos q3] at J9 ⊢; exact J9)
      refine Wk.if_eq o_L_fp_186 (fun q7 => ?_) (fun q7 => ?_)
      · refine Wk.ldc2 o_L_fp_193 (z := (2 : Int64)) (H.w 87 rfl) ?_
        first | (rw [show ((if (R_rowIsCycle F1 A1 (v3 >>> ((4 : Int32) &&& 31))) = 0 then (2 : Int64) else (1 : Int64)) : Int64) = (2 : Int64) from if_pos q7] at J8; exact J8) | exact J8 | (simp only [if_pos q7] at J8 ⊢; exact J8)
      · refine Wk.lconst o_L_fp_189 (z := (1 : Int64)) (by decide) ?_
        refine Wk.goto o_L_fp_190 ?_
        first | (rw [show ((if (R_rowIsCycle F1 A1 (v3 >>> ((4 : Int32) &&& 31))) = 0 then (2 : Int64) else (1 : Int64)) : Int64) = (1 : Int64) from if_neg q7] at J8; exact J8) | exact J8 | (simp only [if_neg q7] at J8 ⊢; exact J8)

theorem rt_L_fp (sl : Int32) (sv : Int32 → Int32) (F1 : Nat → Int32) (G1 : Nat → Int64) (A1 : Nat → Int32 → Int32) (B1 : Nat → Int32 → Int64) (v0 : Int64) (r : Int64) (e : v0 = r) : some (Value.long v0) = some (Value.long r) ∧ (sl, sv, [(10, F1, G1, A1, B1)]) = (sl, sv, [(10, F1, G1, A1, B1)]) := by subst e; exact ⟨rfl, rfl⟩
def lp_L_fp : Nat → Nat → Int64 → Int32 → (Nat → Int32) → (Nat → Int32 → Int32) → Option (Int64)
  | 0, _, _, _, _, _ => none
  | n + 1, tag, w1, v3, F1, A1 => if tag = 32 then (if v3 < (49 : Int32) then (if ((en_hasEdge F1 A1 (v3 / (7 : Int32)) (v3 % (7 : Int32))).isSome = true) then lp_L_fp n 32 ((w1 * (31 : Int64)) + (if (R_hasEdge F1 A1 (v3 / (7 : Int32)) (v3 % (7 : Int32))) = 0 then (2 : Int64) else (1 : Int64))) (v3 + (1 : Int32)) F1 A1 else none) else lp_L_fp n 75 w1 (0 : Int32) F1 A1) else if tag = 75 then (if v3 < (7 : Int32) then (if ((en_countNode F1 A1 v3).isSome = true) ∧ ((en_isSeed F1 A1 v3).isSome = true) then lp_L_fp n 75 ((((w1 * (31 : Int64)) + ((R_countNode F1 A1 v3).toInt64)) * (31 : Int64)) + (if (R_isSeed F1 A1 v3) = 0 then (2 : Int64) else (1 : Int64))) (v3 + (1 : Int32)) F1 A1 else none) else lp_L_fp n 124 w1 (0 : Int32) F1 A1) else if tag = 124 then (if v3 < (400 : Int32) then (if ((v3 &&& (15 : Int32)) = 0 → (en_rowNode F1 A1 (v3 >>> ((4 : Int32) &&& 31))).isSome = true) ∧ ((v3 &&& (15 : Int32)) = 0 → (en_rowDepth F1 A1 (v3 >>> ((4 : Int32) &&& 31))).isSome = true) ∧ ((v3 &&& (15 : Int32)) = 0 → (en_rowIsCycle F1 A1 (v3 >>> ((4 : Int32) &&& 31))).isSome = true) ∧ ((en_rowPathNode F1 A1 (v3 >>> ((4 : Int32) &&& 31)) (v3 &&& (15 : Int32))).isSome = true) then lp_L_fp n 124 (((if (v3 &&& (15 : Int32)) = 0 then ((((((w1 * (31 : Int64)) + ((R_rowNode F1 A1 (v3 >>> ((4 : Int32) &&& 31))).toInt64)) * (31 : Int64)) + ((R_rowDepth F1 A1 (v3 >>> ((4 : Int32) &&& 31))).toInt64)) * (31 : Int64)) + (if (R_rowIsCycle F1 A1 (v3 >>> ((4 : Int32) &&& 31))) = 0 then (2 : Int64) else (1 : Int64))) else w1) * (31 : Int64)) + ((R_rowPathNode F1 A1 (v3 >>> ((4 : Int32) &&& 31)) (v3 &&& (15 : Int32))).toInt64)) (v3 + (1 : Int32)) F1 A1 else none) else some (w1)) else none
theorem lp_L_fp_z (tag : Nat) (w1 : Int64) (v3 : Int32) (F1 : Nat → Int32) (A1 : Nat → Int32 → Int32) : lp_L_fp 0 tag  w1 v3 F1 A1 = none := Eq.trans rfl rfl
theorem lp_L_fp_32 (n : Nat) (w1 : Int64) (v3 : Int32) (F1 : Nat → Int32) (A1 : Nat → Int32 → Int32) : lp_L_fp (n + 1) 32  w1 v3 F1 A1 = (if v3 < (49 : Int32) then (if ((en_hasEdge F1 A1 (v3 / (7 : Int32)) (v3 % (7 : Int32))).isSome = true) then lp_L_fp n 32 ((w1 * (31 : Int64)) + (if (R_hasEdge F1 A1 (v3 / (7 : Int32)) (v3 % (7 : Int32))) = 0 then (2 : Int64) else (1 : Int64))) (v3 + (1 : Int32)) F1 A1 else none) else lp_L_fp n 75 w1 (0 : Int32) F1 A1) := by
  rw [lp_L_fp, if_pos rfl]
theorem lp_L_fp_75 (n : Nat) (w1 : Int64) (v3 : Int32) (F1 : Nat → Int32) (A1 : Nat → Int32 → Int32) : lp_L_fp (n + 1) 75  w1 v3 F1 A1 = (if v3 < (7 : Int32) then (if ((en_countNode F1 A1 v3).isSome = true) ∧ ((en_isSeed F1 A1 v3).isSome = true) then lp_L_fp n 75 ((((w1 * (31 : Int64)) + ((R_countNode F1 A1 v3).toInt64)) * (31 : Int64)) + (if (R_isSeed F1 A1 v3) = 0 then (2 : Int64) else (1 : Int64))) (v3 + (1 : Int32)) F1 A1 else none) else lp_L_fp n 124 w1 (0 : Int32) F1 A1) := by
  rw [lp_L_fp, if_neg (by decide), if_pos rfl]
theorem lp_L_fp_124 (n : Nat) (w1 : Int64) (v3 : Int32) (F1 : Nat → Int32) (A1 : Nat → Int32 → Int32) : lp_L_fp (n + 1) 124  w1 v3 F1 A1 = (if v3 < (400 : Int32) then (if ((v3 &&& (15 : Int32)) = 0 → (en_rowNode F1 A1 (v3 >>> ((4 : Int32) &&& 31))).isSome = true) ∧ ((v3 &&& (15 : Int32)) = 0 → (en_rowDepth F1 A1 (v3 >>> ((4 : Int32) &&& 31))).isSome = true) ∧ ((v3 &&& (15 : Int32)) = 0 → (en_rowIsCycle F1 A1 (v3 >>> ((4 : Int32) &&& 31))).isSome = true) ∧ ((en_rowPathNode F1 A1 (v3 >>> ((4 : Int32) &&& 31)) (v3 &&& (15 : Int32))).isSome = true) then lp_L_fp n 124 (((if (v3 &&& (15 : Int32)) = 0 then ((((((w1 * (31 : Int64)) + ((R_rowNode F1 A1 (v3 >>> ((4 : Int32) &&& 31))).toInt64)) * (31 : Int64)) + ((R_rowDepth F1 A1 (v3 >>> ((4 : Int32) &&& 31))).toInt64)) * (31 : Int64)) + (if (R_rowIsCycle F1 A1 (v3 >>> ((4 : Int32) &&& 31))) = 0 then (2 : Int64) else (1 : Int64))) else w1) * (31 : Int64)) + ((R_rowPathNode F1 A1 (v3 >>> ((4 : Int32) &&& 31)) (v3 &&& (15 : Int32))).toInt64)) (v3 + (1 : Int32)) F1 A1 else none) else some (w1)) := by
  rw [lp_L_fp, if_neg (by decide), if_neg (by decide), if_pos rfl]
set_option maxRecDepth 65536 in
set_option maxHeartbeats 4000000 in
theorem lpw_L_fp {l : Launch} {Z : State} {a0 : Array Value} (H : OK Z a0) (sl : Int32) (sv : Int32 → Int32) (F1 : Nat → Int32) (G1 : Nat → Int64) (A1 : Nat → Int32 → Int32) (B1 : Nat → Int32 → Int64) : ∀ (n : Nat) (w1 : Int64) (v3 : Int32) (r : Int64), (lp_L_fp n 32  w1 v3 F1 A1 = some r → Wk l Z (MoL Z cdC "RecursiveCteL7" true) md_L_fp 32 [.val (.ref 1), .val (.long w1), .second, .val (.int v3), .unset, .unset] [] (sl, sv, [(10, F1, G1, A1, B1)]) 0 0 (fun v w' => v = some (.long r) ∧ w' = (sl, sv, [(10, F1, G1, A1, B1)]))) ∧ (lp_L_fp n 75  w1 v3 F1 A1 = some r → Wk l Z (MoL Z cdC "RecursiveCteL7" true) md_L_fp 75 [.val (.ref 1), .val (.long w1), .second, .val (.int v3), .unset, .unset] [] (sl, sv, [(10, F1, G1, A1, B1)]) 0 0 (fun v w' => v = some (.long r) ∧ w' = (sl, sv, [(10, F1, G1, A1, B1)]))) ∧ (lp_L_fp n 124  w1 v3 F1 A1 = some r → Wk l Z (MoL Z cdC "RecursiveCteL7" true) md_L_fp 124 [.val (.ref 1), .val (.long w1), .second, .val (.int v3), .unset, .unset] [] (sl, sv, [(10, F1, G1, A1, B1)]) 0 0 (fun v w' => v = some (.long r) ∧ w' = (sl, sv, [(10, F1, G1, A1, B1)]))) := by
  intro n
  induction n with
  | zero =>
    intro w1 v3  r
    exact ⟨(fun h => by rw [lp_L_fp_z] at h; cases h), (fun h => by rw [lp_L_fp_z] at h; cases h), (fun h => by rw [lp_L_fp_z] at h; cases h)⟩
  | succ n ih =>
    intro w1 v3  r
    refine ⟨fun h => ?_, fun h => ?_, fun h => ?_⟩
    · rw [lp_L_fp_32] at h
      exact wp_L_fp_32 H sl sv F1 G1 A1 B1 w1 v3 (fun q1 => (ih _ _ _).2.1 (ifn q1 h)) (fun q1 => (gd (ifp q1 h)).1) (fun q1 => (ih _ _ _).1 (gd (ifp q1 h)).2)
    · rw [lp_L_fp_75] at h
      exact wp_L_fp_75 H sl sv F1 G1 A1 B1 w1 v3 (fun q1 => (ih _ _ _).2.2 (ifn q1 h)) (fun q1 => (gd (ifp q1 h)).1.1) (fun q1 => (gd (ifp q1 h)).1.2) (fun q1 => (ih _ _ _).2.1 (gd (ifp q1 h)).2)
    · rw [lp_L_fp_124] at h
      exact wp_L_fp_124 H sl sv F1 G1 A1 B1 w1 v3 (fun q1 => (rt_L_fp _ _ _ _ _ _ _ r (Option.some.inj (ifn q1 h)))) (fun q1 q3 => ((gd (ifp q1 h)).1.1) q3) (fun q1 q3 => ((gd (ifp q1 h)).1.2.1) q3) (fun q1 q3 => ((gd (ifp q1 h)).1.2.2.1) q3) (fun q1 => (gd (ifp q1 h)).1.2.2.2) (fun q1 => (ih _ _ _).2.2 (gd (ifp q1 h)).2)
def en_L_fp (F1 : Nat → Int32) (A1 : Nat → Int32 → Int32) : Option (Int64) := lp_L_fp 1000 32 ((((((f_status F1).toInt64) * (31 : Int64)) + ((f_rowCount F1).toInt64)) * (31 : Int64)) + ((f_edgeCount F1).toInt64)) (0 : Int32) F1 A1
theorem een_L_fp (F1 : Nat → Int32) (A1 : Nat → Int32 → Int32) : en_L_fp  F1 A1  = lp_L_fp 1000 32 ((((((f_status F1).toInt64) * (31 : Int64)) + ((f_rowCount F1).toInt64)) * (31 : Int64)) + ((f_edgeCount F1).toInt64)) (0 : Int32) F1 A1 := Eq.trans rfl rfl
def R_L_fp (F1 : Nat → Int32) (A1 : Nat → Int32 → Int32) : Int64 := (en_L_fp  F1 A1 ).getD (0)
theorem eR_L_fp (F1 : Nat → Int32) (A1 : Nat → Int32 → Int32) : R_L_fp  F1 A1  = (en_L_fp  F1 A1 ).getD (0) := Eq.trans rfl rfl
set_option maxRecDepth 65536 in
set_option maxHeartbeats 4000000 in
theorem run_L_fp {l : Launch} {Z : State} {a0 : Array Value} (H : OK Z a0) (sl : Int32) (sv : Int32 → Int32) (F1 : Nat → Int32) (G1 : Nat → Int64) (A1 : Nat → Int32 → Int32) (B1 : Nat → Int32 → Int64) (e1 : (en_L_fp  F1 A1 ).isSome = true) :
    Wk l Z (MoL Z cdC "RecursiveCteL7" true) md_L_fp 0 [.val (.ref 1), .unset, .unset, .unset, .unset, .unset] [] (sl, sv, [(10, F1, G1, A1, B1)]) 0 0 (fun v w' => v = some (.long (R_L_fp  F1 A1 )) ∧ w' = (sl, sv, [(10, F1, G1, A1, B1)])) := by
  obtain ⟨r, h⟩ := Option.isSome_iff_exists.mp e1
  have e : R_L_fp  F1 A1  = r := (eR_L_fp  F1 A1 ).trans (getD_some h)
  rw [e]
  rw [een_L_fp] at h
  exact wp_L_fp H sl sv F1 G1 A1 B1  ((lpw_L_fp H sl sv _ _ _ _ _ _ _ _).1 h)
set_option maxRecDepth 65536 in
set_option maxHeartbeats 4000000 in
theorem wp_L_law {l : Launch} {Z : State} {a0 : Array Value} (H : OK Z a0) (sl : Int32) (sv : Int32 → Int32) {Q : Option Value → WL → Prop} (h1 : Wk l Z (MoL Z cdC "RecursiveCteL7" true) md_L_law 14 [.val (.ref 0), .val (.ref 1), .unset, .unset, .unset, .unset, .unset, .unset, .unset, .unset, .unset, .unset] [] (sl, sv, [(10, (F_init (6 : Int32) (10 : Int32) (24 : Int32)), (fun _ => 0), (fun _ _ => 0), (fun _ _ => 0))]) 11 1573 Q) :
    Wk l Z (MoL Z cdC "RecursiveCteL7" true) md_L_law 0 [.val (.ref 0), .unset, .unset, .unset, .unset, .unset, .unset, .unset, .unset, .unset, .unset, .unset] [] (sl, sv, []) 0 0 Q := by
  refine Wk.newL (coC H) (kk := 21) (H.w 0 rfl) (H.w 1 rfl) (wz_C H) o_L_law_0 trivial (i' := 1) rfl (ws' := [(0, (fun _ => 0), (fun _ => 0), (fun _ _ => 0), (fun _ _ => 0))]) rfl (cu' := 1) rfl (su' := 21) rfl (by decide) (by decide) ?_
  refine Wk.dup o_L_law_3 rfl ?_
  refine Wk.bipush o_L_law_4 (z := (6 : Int32)) (by decide) ?_
  refine Wk.bipush o_L_law_6 (z := (10 : Int32)) (by decide) ?_
  refine Wk.bipush o_L_law_8 (z := (24 : Int32)) (by decide) ?_
  refine Wk.ctorLU (coC H) [.int (6 : Int32), .int (10 : Int32), .int (24 : Int32)] 0 [.ref 1] (i' := 1) (H.w 3 rfl) (cv_init H) o_L_law_10 (run_init H (6 : Int32) (10 : Int32) (24 : Int32)) (wt := 1) (cu' := 11) (su' := 1573) (by decide) trivial rfl rfl rfl rfl rfl rfl rfl rfl rfl rfl (ws' := [(10, (F_init (6 : Int32) (10 : Int32) (24 : Int32)), (fun _ => 0), (fun _ _ => 0), (fun _ _ => 0))]) rfl ?_
  refine Wk.astoreN o_L_law_13 (Or.inl rfl) (L' := [.val (.ref 0), .val (.ref 1), .unset, .unset, .unset, .unset, .unset, .unset, .unset, .unset, .unset, .unset]) rfl ?_
  exact h1

set_option maxRecDepth 65536 in
set_option maxHeartbeats 4000000 in
theorem wp_L_law_14 {l : Launch} {Z : State} {a0 : Array Value} (H : OK Z a0) (sl : Int32) (sv : Int32 → Int32) (F1 : Nat → Int32) (G1 : Nat → Int64) (A1 : Nat → Int32 → Int32) (B1 : Nat → Int32 → Int64) {Q : Option Value → WL → Prop} (h1 : Wk l Z (MoL Z cdC "RecursiveCteL7" true) md_L_law 16 [.val (.ref 0), .val (.ref 1), .val (.int (0 : Int32)), .unset, .unset, .unset, .unset, .unset, .unset, .unset, .unset, .unset] [] (sl, sv, [(10, F1, G1, A1, B1)]) 11 1573 Q) :
    Wk l Z (MoL Z cdC "RecursiveCteL7" true) md_L_law 14 [.val (.ref 0), .val (.ref 1), .unset, .unset, .unset, .unset, .unset, .unset, .unset, .unset, .unset, .unset] [] (sl, sv, [(10, F1, G1, A1, B1)]) 11 1573 Q := by
  refine Wk.iconst o_L_law_14 (z := (0 : Int32)) (by decide) ?_
  refine Wk.istoreN o_L_law_15 (Or.inl rfl) (L' := [.val (.ref 0), .val (.ref 1), .val (.int (0 : Int32)), .unset, .unset, .unset, .unset, .unset, .unset, .unset, .unset, .unset]) rfl ?_
  exact h1

set_option maxRecDepth 65536 in
set_option maxHeartbeats 4000000 in
theorem wp_L_law_16 {l : Launch} {Z : State} {a0 : Array Value} (H : OK Z a0) (sl : Int32) (sv : Int32 → Int32) (F1 : Nat → Int32) (G1 : Nat → Int64) (A1 : Nat → Int32 → Int32) (B1 : Nat → Int32 → Int64) (v2 : Int32) {Q : Option Value → WL → Prop} (h2 : ¬ (v2 + (4 : Int32)) < sl → Q (some (.int (1 : Int32))) (sl, sv, [(10, F1, G1, A1, B1)])) (s3 : (v2 + (4 : Int32)) < sl → ¬ v2 < 0) (s4 : (v2 + (4 : Int32)) < sl → v2 < sl) (s5 : (v2 + (4 : Int32)) < sl → ¬ (v2 + (1 : Int32)) < 0) (s6 : (v2 + (4 : Int32)) < sl → (v2 + (1 : Int32)) < sl) (s7 : (v2 + (4 : Int32)) < sl → ¬ (v2 + (2 : Int32)) < 0) (s8 : (v2 + (4 : Int32)) < sl → (v2 + (2 : Int32)) < sl) (s9 : (v2 + (4 : Int32)) < sl → ¬ (v2 + (3 : Int32)) < 0) (s10 : (v2 + (4 : Int32)) < sl → (v2 + (3 : Int32)) < sl) (s11 : (v2 + (4 : Int32)) < sl → ¬ (v2 + (4 : Int32)) < 0) (s12 : (v2 + (4 : Int32)) < sl → (en_L_fp  F1 A1 ).isSome = true) (s18 : (v2 + (4 : Int32)) < sl → (1 : Int32) < ((sv v2) &&& (7 : Int32)) → ¬ ((sv v2) &&& (7 : Int32)) = (2 : Int32) → ¬ ((sv v2) &&& (7 : Int32)) = (3 : Int32) → ¬ ((sv v2) &&& (7 : Int32)) = (4 : Int32) → ¬ ((sv v2) &&& (7 : Int32)) = (5 : Int32) → (en_run F1 A1 ).isSome = true) (h19 : (v2 + (4 : Int32)) < sl → (1 : Int32) < ((sv v2) &&& (7 : Int32)) → ¬ ((sv v2) &&& (7 : Int32)) = (2 : Int32) → ¬ ((sv v2) &&& (7 : Int32)) = (3 : Int32) → ¬ ((sv v2) &&& (7 : Int32)) = (4 : Int32) → ¬ ((sv v2) &&& (7 : Int32)) = (5 : Int32) → Wk l Z (MoL Z cdC "RecursiveCteL7" true) md_L_law 201 [.val (.ref 0), .val (.ref 1), .val (.int v2), .unset, .unset, .unset, .unset, .unset, .val (.long (R_L_fp  F1 A1 )), .second, .val (.int (f_status F1)), .unset] [] (sl, sv, [(10, (R_run F1 A1 ).2.1, G1, (R_run F1 A1 ).2.2, B1)]) 11 1573 Q) (h22 : (v2 + (4 : Int32)) < sl → (1 : Int32) < ((sv v2) &&& (7 : Int32)) → ¬ ((sv v2) &&& (7 : Int32)) = (2 : Int32) → ¬ ((sv v2) &&& (7 : Int32)) = (3 : Int32) → ¬ ((sv v2) &&& (7 : Int32)) = (4 : Int32) → ((sv v2) &&& (7 : Int32)) = (5 : Int32) → Wk l Z (MoL Z cdC "RecursiveCteL7" true) md_L_law 204 [.val (.ref 0), .val (.ref 1), .val (.int v2), .unset, .unset, .unset, .unset, .unset, .val (.long (R_L_fp  F1 A1 )), .second, .val (.int (f_status F1)), .val (.int (f_setQuery ((((sv (v2 + (1 : Int32))) &&& (2147483647 : Int32)) % (7 : Int32)) % (3 : Int32)) ((((sv (v2 + (2 : Int32))) &&& (2147483647 : Int32)) % (7 : Int32)) % (3 : Int32)) (if ((sv (v2 + (3 : Int32))) &&& (1 : Int32)) = (1 : Int32) then (1 : Int32) else (0 : Int32)) ((((sv (v2 + (4 : Int32))) &&& (2147483647 : Int32)) % (8 : Int32)) - (1 : Int32))))] [] (sl, sv, [(10, (F_setQuery F1 ((((sv (v2 + (1 : Int32))) &&& (2147483647 : Int32)) % (7 : Int32)) % (3 : Int32)) ((((sv (v2 + (2 : Int32))) &&& (2147483647 : Int32)) % (7 : Int32)) % (3 : Int32)) (if ((sv (v2 + (3 : Int32))) &&& (1 : Int32)) = (1 : Int32) then (1 : Int32) else (0 : Int32)) ((((sv (v2 + (4 : Int32))) &&& (2147483647 : Int32)) % (8 : Int32)) - (1 : Int32))), G1, A1, B1)]) 11 1573 Q) (s23 : (v2 + (4 : Int32)) < sl → (1 : Int32) < ((sv v2) &&& (7 : Int32)) → ¬ ((sv v2) &&& (7 : Int32)) = (2 : Int32) → ¬ ((sv v2) &&& (7 : Int32)) = (3 : Int32) → ((sv v2) &&& (7 : Int32)) = (4 : Int32) → (en_removeSeed F1 A1 (((sv (v2 + (1 : Int32))) &&& (2147483647 : Int32)) % (7 : Int32))).isSome = true) (h24 : (v2 + (4 : Int32)) < sl → (1 : Int32) < ((sv v2) &&& (7 : Int32)) → ¬ ((sv v2) &&& (7 : Int32)) = (2 : Int32) → ¬ ((sv v2) &&& (7 : Int32)) = (3 : Int32) → ((sv v2) &&& (7 : Int32)) = (4 : Int32) → Wk l Z (MoL Z cdC "RecursiveCteL7" true) md_L_law 204 [.val (.ref 0), .val (.ref 1), .val (.int v2), .unset, .unset, .unset, .unset, .unset, .val (.long (R_L_fp  F1 A1 )), .second, .val (.int (f_status F1)), .val (.int (R_removeSeed F1 A1 (((sv (v2 + (1 : Int32))) &&& (2147483647 : Int32)) % (7 : Int32))).1)] [] (sl, sv, [(10, (R_removeSeed F1 A1 (((sv (v2 + (1 : Int32))) &&& (2147483647 : Int32)) % (7 : Int32))).2.1, G1, (R_removeSeed F1 A1 (((sv (v2 + (1 : Int32))) &&& (2147483647 : Int32)) % (7 : Int32))).2.2, B1)]) 11 1573 Q) (s25 : (v2 + (4 : Int32)) < sl → (1 : Int32) < ((sv v2) &&& (7 : Int32)) → ¬ ((sv v2) &&& (7 : Int32)) = (2 : Int32) → ((sv v2) &&& (7 : Int32)) = (3 : Int32) → (en_addSeed F1 A1 (((sv (v2 + (1 : Int32))) &&& (2147483647 : Int32)) % (7 : Int32))).isSome = true) (h26 : (v2 + (4 : Int32)) < sl → (1 : Int32) < ((sv v2) &&& (7 : Int32)) → ¬ ((sv v2) &&& (7 : Int32)) = (2 : Int32) → ((sv v2) &&& (7 : Int32)) = (3 : Int32) → Wk l Z (MoL Z cdC "RecursiveCteL7" true) md_L_law 204 [.val (.ref 0), .val (.ref 1), .val (.int v2), .unset, .unset, .unset, .unset, .unset, .val (.long (R_L_fp  F1 A1 )), .second, .val (.int (f_status F1)), .val (.int (R_addSeed F1 A1 (((sv (v2 + (1 : Int32))) &&& (2147483647 : Int32)) % (7 : Int32))).1)] [] (sl, sv, [(10, (R_addSeed F1 A1 (((sv (v2 + (1 : Int32))) &&& (2147483647 : Int32)) % (7 : Int32))).2.1, G1, (R_addSeed F1 A1 (((sv (v2 + (1 : Int32))) &&& (2147483647 : Int32)) % (7 : Int32))).2.2, B1)]) 11 1573 Q) (s27 : (v2 + (4 : Int32)) < sl → (1 : Int32) < ((sv v2) &&& (7 : Int32)) → ((sv v2) &&& (7 : Int32)) = (2 : Int32) → (en_removeEdge F1 A1 (((sv (v2 + (1 : Int32))) &&& (2147483647 : Int32)) % (7 : Int32)) (((sv (v2 + (2 : Int32))) &&& (2147483647 : Int32)) % (7 : Int32))).isSome = true) (h28 : (v2 + (4 : Int32)) < sl → (1 : Int32) < ((sv v2) &&& (7 : Int32)) → ((sv v2) &&& (7 : Int32)) = (2 : Int32) → Wk l Z (MoL Z cdC "RecursiveCteL7" true) md_L_law 204 [.val (.ref 0), .val (.ref 1), .val (.int v2), .unset, .unset, .unset, .unset, .unset, .val (.long (R_L_fp  F1 A1 )), .second, .val (.int (f_status F1)), .val (.int (R_removeEdge F1 A1 (((sv (v2 + (1 : Int32))) &&& (2147483647 : Int32)) % (7 : Int32)) (((sv (v2 + (2 : Int32))) &&& (2147483647 : Int32)) % (7 : Int32))).1)] [] (sl, sv, [(10, (R_removeEdge F1 A1 (((sv (v2 + (1 : Int32))) &&& (2147483647 : Int32)) % (7 : Int32)) (((sv (v2 + (2 : Int32))) &&& (2147483647 : Int32)) % (7 : Int32))).2.1, G1, (R_removeEdge F1 A1 (((sv (v2 + (1 : Int32))) &&& (2147483647 : Int32)) % (7 : Int32)) (((sv (v2 + (2 : Int32))) &&& (2147483647 : Int32)) % (7 : Int32))).2.2, B1)]) 11 1573 Q) (s29 : (v2 + (4 : Int32)) < sl → ¬ (1 : Int32) < ((sv v2) &&& (7 : Int32)) → (en_addEdge F1 A1 (((sv (v2 + (1 : Int32))) &&& (2147483647 : Int32)) % (7 : Int32)) (((sv (v2 + (2 : Int32))) &&& (2147483647 : Int32)) % (7 : Int32))).isSome = true) (h30 : (v2 + (4 : Int32)) < sl → ¬ (1 : Int32) < ((sv v2) &&& (7 : Int32)) → Wk l Z (MoL Z cdC "RecursiveCteL7" true) md_L_law 204 [.val (.ref 0), .val (.ref 1), .val (.int v2), .unset, .unset, .unset, .unset, .unset, .val (.long (R_L_fp  F1 A1 )), .second, .val (.int (f_status F1)), .val (.int (R_addEdge F1 A1 (((sv (v2 + (1 : Int32))) &&& (2147483647 : Int32)) % (7 : Int32)) (((sv (v2 + (2 : Int32))) &&& (2147483647 : Int32)) % (7 : Int32))).1)] [] (sl, sv, [(10, (R_addEdge F1 A1 (((sv (v2 + (1 : Int32))) &&& (2147483647 : Int32)) % (7 : Int32)) (((sv (v2 + (2 : Int32))) &&& (2147483647 : Int32)) % (7 : Int32))).2.1, G1, (R_addEdge F1 A1 (((sv (v2 + (1 : Int32))) &&& (2147483647 : Int32)) % (7 : Int32)) (((sv (v2 + (2 : Int32))) &&& (2147483647 : Int32)) % (7 : Int32))).2.2, B1)]) 11 1573 Q) :
    Wk l Z (MoL Z cdC "RecursiveCteL7" true) md_L_law 16 [.val (.ref 0), .val (.ref 1), .val (.int v2), .unset, .unset, .unset, .unset, .unset, .unset, .unset, .unset, .unset] [] (sl, sv, [(10, F1, G1, A1, B1)]) 11 1573 Q := by
  refine Wk.iloadN o_L_law_16 rfl ?_
  refine Wk.iconst o_L_law_17 (z := (4 : Int32)) (by decide) ?_
  refine Wk.iadd o_L_law_18 ?_
  refine Wk.aloadN o_L_law_19 rfl ?_
  refine Wk.lenL o_L_law_20 ?_
  refine Wk.icmp_ge o_L_law_21 (fun q1 => ?_) (fun q1 => ?_)
  · refine Wk.iconst o_L_law_256 (z := (1 : Int32)) (by decide) ?_
    exact Wk.zreturn mrL rfl o_L_law_257 rfl (by decide) (by decide) (y := (1 : Int32)) (by decide) (h2 q1)
  · refine Wk.aloadN o_L_law_24 rfl ?_
    refine Wk.iloadN o_L_law_25 rfl ?_
    refine Wk.ialoadL (s3 q1) (s4 q1) o_L_law_26 ?_
    refine Wk.bipush o_L_law_27 (z := (7 : Int32)) (by decide) ?_
    refine Wk.iand o_L_law_29 ?_
    refine Wk.istoreN o_L_law_30 (Or.inl rfl) (L' := [.val (.ref 0), .val (.ref 1), .val (.int v2), .val (.int ((sv v2) &&& (7 : Int32))), .unset, .unset, .unset, .unset, .unset, .unset, .unset, .unset]) rfl ?_
    refine Wk.aloadN o_L_law_31 rfl ?_
    refine Wk.iloadN o_L_law_32 rfl ?_
    refine Wk.iconst o_L_law_33 (z := (1 : Int32)) (by decide) ?_
    refine Wk.iadd o_L_law_34 ?_
    refine Wk.ialoadL (s5 q1) (s6 q1) o_L_law_35 ?_
    refine Wk.ldc o_L_law_36 (z := (2147483647 : Int32)) (H.w 57 rfl) ?_
    refine Wk.iand o_L_law_38 ?_
    refine Wk.bipush o_L_law_39 (z := (7 : Int32)) (by decide) ?_
    refine Wk.irem o_L_law_41 (by decide) ?_
    refine Wk.istore o_L_law_42 (Or.inl rfl) (L' := [.val (.ref 0), .val (.ref 1), .val (.int v2), .val (.int ((sv v2) &&& (7 : Int32))), .val (.int (((sv (v2 + (1 : Int32))) &&& (2147483647 : Int32)) % (7 : Int32))), .unset, .unset, .unset, .unset, .unset, .unset, .unset]) rfl ?_
    refine Wk.aloadN o_L_law_44 rfl ?_
    refine Wk.iloadN o_L_law_45 rfl ?_
    refine Wk.iconst o_L_law_46 (z := (2 : Int32)) (by decide) ?_
    refine Wk.iadd o_L_law_47 ?_
    refine Wk.ialoadL (s7 q1) (s8 q1) o_L_law_48 ?_
    refine Wk.ldc o_L_law_49 (z := (2147483647 : Int32)) (H.w 57 rfl) ?_
    refine Wk.iand o_L_law_51 ?_
    refine Wk.bipush o_L_law_52 (z := (7 : Int32)) (by decide) ?_
    refine Wk.irem o_L_law_54 (by decide) ?_
    refine Wk.istore o_L_law_55 (Or.inl rfl) (L' := [.val (.ref 0), .val (.ref 1), .val (.int v2), .val (.int ((sv v2) &&& (7 : Int32))), .val (.int (((sv (v2 + (1 : Int32))) &&& (2147483647 : Int32)) % (7 : Int32))), .val (.int (((sv (v2 + (2 : Int32))) &&& (2147483647 : Int32)) % (7 : Int32))), .unset, .unset, .unset, .unset, .unset, .unset]) rfl ?_
    refine Wk.aloadN o_L_law_57 rfl ?_
    refine Wk.iloadN o_L_law_58 rfl ?_
    refine Wk.iconst o_L_law_59 (z := (3 : Int32)) (by decide) ?_
    refine Wk.iadd o_L_law_60 ?_
    refine Wk.ialoadL (s9 q1) (s10 q1) o_L_law_61 ?_
    refine Wk.istore o_L_law_62 (Or.inl rfl) (L' := [.val (.ref 0), .val (.ref 1), .val (.int v2), .val (.int ((sv v2) &&& (7 : Int32))), .val (.int (((sv (v2 + (1 : Int32))) &&& (2147483647 : Int32)) % (7 : Int32))), .val (.int (((sv (v2 + (2 : Int32))) &&& (2147483647 : Int32)) % (7 : Int32))), .val (.int (sv (v2 + (3 : Int32)))), .unset, .unset, .unset, .unset, .unset]) rfl ?_
    refine Wk.aloadN o_L_law_64 rfl ?_
    refine Wk.iloadN o_L_law_65 rfl ?_
    refine Wk.iconst o_L_law_66 (z := (4 : Int32)) (by decide) ?_
    refine Wk.iadd o_L_law_67 ?_
    refine Wk.ialoadL (s11 q1) q1 o_L_law_68 ?_
    refine Wk.istore o_L_law_69 (Or.inl rfl) (L' := [.val (.ref 0), .val (.ref 1), .val (.int v2), .val (.int ((sv v2) &&& (7 : Int32))), .val (.int (((sv (v2 + (1 : Int32))) &&& (2147483647 : Int32)) % (7 : Int32))), .val (.int (((sv (v2 + (2 : Int32))) &&& (2147483647 : Int32)) % (7 : Int32))), .val (.int (sv (v2 + (3 : Int32)))), .val (.int (sv (v2 + (4 : Int32)))), .unset, .unset, .unset, .unset]) rfl ?_
    refine Wk.aloadN o_L_law_71 rfl ?_
    refine Wk.callSF mtL [.ref 1] [] (H.w 58 rfl) (cv_L_fp H) o_L_law_72 (run_L_fp H sl sv F1 G1 A1 B1 (s12 q1)) (wt := 0) (cu' := 11) (su' := 1573) (by decide) rfl rfl rfl rfl rfl rfl ?_
    refine Wk.lstore o_L_law_75 (Or.inl rfl) (Or.inl rfl) (L' := [.val (.ref 0), .val (.ref 1), .val (.int v2), .val (.int ((sv v2) &&& (7 : Int32))), .val (.int (((sv (v2 + (1 : Int32))) &&& (2147483647 : Int32)) % (7 : Int32))), .val (.int (((sv (v2 + (2 : Int32))) &&& (2147483647 : Int32)) % (7 : Int32))), .val (.int (sv (v2 + (3 : Int32)))), .val (.int (sv (v2 + (4 : Int32)))), .val (.long (R_L_fp  F1 A1 )), .second, .unset, .unset]) rfl ?_
    refine Wk.aloadN o_L_law_77 rfl ?_
    refine Wk.callLF (coC H) [] 0 [] (i' := 1) (H.w 62 rfl) (cv_status H) o_L_law_78 (run_status H F1 G1 A1 B1) (wt := 0) (cu' := 11) (su' := 1573) (by decide) trivial rfl rfl rfl rfl rfl rfl rfl rfl rfl rfl (ws' := [(10, F1, G1, A1, B1)]) rfl ?_
    refine Wk.istore o_L_law_81 (Or.inl rfl) (L' := [.val (.ref 0), .val (.ref 1), .val (.int v2), .val (.int ((sv v2) &&& (7 : Int32))), .val (.int (((sv (v2 + (1 : Int32))) &&& (2147483647 : Int32)) % (7 : Int32))), .val (.int (((sv (v2 + (2 : Int32))) &&& (2147483647 : Int32)) % (7 : Int32))), .val (.int (sv (v2 + (3 : Int32)))), .val (.int (sv (v2 + (4 : Int32)))), .val (.long (R_L_fp  F1 A1 )), .second, .val (.int (f_status F1)), .unset]) rfl ?_
    refine Wk.iloadN o_L_law_83 rfl ?_
    refine Wk.iconst o_L_law_84 (z := (1 : Int32)) (by decide) ?_
    refine Wk.icmp_gt o_L_law_85 (fun q13 => ?_) (fun q13 => ?_)
    · refine Wk.iloadN o_L_law_101 rfl ?_
      refine Wk.iconst o_L_law_102 (z := (2 : Int32)) (by decide) ?_
      refine Wk.icmp_ne o_L_law_103 (fun q14 => ?_) (fun q14 => ?_)
      · refine Wk.iloadN o_L_law_119 rfl ?_
        refine Wk.iconst o_L_law_120 (z := (3 : Int32)) (by decide) ?_
        refine Wk.icmp_ne o_L_law_121 (fun q15 => ?_) (fun q15 => ?_)
        · refine Wk.iloadN o_L_law_135 rfl ?_
          refine Wk.iconst o_L_law_136 (z := (4 : Int32)) (by decide) ?_
          refine Wk.icmp_ne o_L_law_137 (fun q16 => ?_) (fun q16 => ?_)
          · refine Wk.iloadN o_L_law_151 rfl ?_
            refine Wk.iconst o_L_law_152 (z := (5 : Int32)) (by decide) ?_
            refine Wk.icmp_ne o_L_law_153 (fun q17 => ?_) (fun q17 => ?_)
            · refine Wk.aloadN o_L_law_196 rfl ?_
              refine Wk.callLF (coC H) [] 0 [] (i' := 1) (H.w 141 rfl) (cv_run H) o_L_law_197 (run_run H F1 G1 A1 B1 (s18 q1 q13 q14 q15 q16 q17)) (wt := 0) (cu' := 11) (su' := 1573) (by decide) trivial rfl rfl rfl rfl rfl rfl rfl rfl rfl rfl (ws' := [(10, (R_run F1 A1 ).2.1, G1, (R_run F1 A1 ).2.2, B1)]) rfl ?_
              refine Wk.pop o_L_law_200 rfl ?_
              refine Wk.forget [false, false, false, true, true, true, true, true, false, false, false, false] (L' := [.val (.ref 0), .val (.ref 1), .val (.int v2), .unset, .unset, .unset, .unset, .unset, .val (.long (R_L_fp  F1 A1 )), .second, .val (.int (f_status F1)), .unset]) rfl rfl ?_
              exact (h19 q1 q13 q14 q15 q16 q17)
            · refine Wk.aloadN o_L_law_156 rfl ?_
              refine Wk.iload o_L_law_157 rfl ?_
              refine Wk.iconst o_L_law_159 (z := (3 : Int32)) (by decide) ?_
              refine Wk.irem o_L_law_160 (by decide) ?_
              refine Wk.iload o_L_law_161 rfl ?_
              refine Wk.iconst o_L_law_163 (z := (3 : Int32)) (by decide) ?_
              refine Wk.irem o_L_law_164 (by decide) ?_
              refine Wk.iload o_L_law_165 rfl ?_
              refine Wk.iconst o_L_law_167 (z := (1 : Int32)) (by decide) ?_
              refine Wk.iand o_L_law_168 ?_
              refine Wk.iconst o_L_law_169 (z := (1 : Int32)) (by decide) ?_
              have J21 : Wk l Z (MoL Z cdC "RecursiveCteL7" true) md_L_law 178 [.val (.ref 0), .val (.ref 1), .val (.int v2), .val (.int ((sv v2) &&& (7 : Int32))), .val (.int (((sv (v2 + (1 : Int32))) &&& (2147483647 : Int32)) % (7 : Int32))), .val (.int (((sv (v2 + (2 : Int32))) &&& (2147483647 : Int32)) % (7 : Int32))), .val (.int (sv (v2 + (3 : Int32)))), .val (.int (sv (v2 + (4 : Int32)))), .val (.long (R_L_fp  F1 A1 )), .second, .val (.int (f_status F1)), .unset] [.int (if ((sv (v2 + (3 : Int32))) &&& (1 : Int32)) = (1 : Int32) then (1 : Int32) else (0 : Int32)), .int ((((sv (v2 + (2 : Int32))) &&& (2147483647 : Int32)) % (7 : Int32)) % (3 : Int32)), .int ((((sv (v2 + (1 : Int32))) &&& (2147483647 : Int32)) % (7 : Int32)) % (3 : Int32)), .ref 1] (sl, sv, [(10, F1, G1, A1, B1)]) 11 1573 Q := by
                refine Wk.iload o_L_law_178 rfl ?_
                refine Wk.ldc o_L_law_180 (z := (2147483647 : Int32)) (H.w 57 rfl) ?_
                refine Wk.iand o_L_law_182 ?_
                refine Wk.bipush o_L_law_183 (z := (8 : Int32)) (by decide) ?_
                refine Wk.irem o_L_law_185 (by decide) ?_
                refine Wk.iconst o_L_law_186 (z := (1 : Int32)) (by decide) ?_
                refine Wk.isub o_L_law_187 ?_
                refine Wk.callLF (coC H) [.int ((((sv (v2 + (1 : Int32))) &&& (2147483647 : Int32)) % (7 : Int32)) % (3 : Int32)), .int ((((sv (v2 + (2 : Int32))) &&& (2147483647 : Int32)) % (7 : Int32)) % (3 : Int32)), .int (if ((sv (v2 + (3 : Int32))) &&& (1 : Int32)) = (1 : Int32) then (1 : Int32) else (0 : Int32)), .int ((((sv (v2 + (4 : Int32))) &&& (2147483647 : Int32)) % (8 : Int32)) - (1 : Int32))] 0 [] (i' := 1) (H.w 155 rfl) (cv_setQuery H) o_L_law_188 (run_setQuery H F1 G1 A1 B1 ((((sv (v2 + (1 : Int32))) &&& (2147483647 : Int32)) % (7 : Int32)) % (3 : Int32)) ((((sv (v2 + (2 : Int32))) &&& (2147483647 : Int32)) % (7 : Int32)) % (3 : Int32)) (if ((sv (v2 + (3 : Int32))) &&& (1 : Int32)) = (1 : Int32) then (1 : Int32) else (0 : Int32)) ((((sv (v2 + (4 : Int32))) &&& (2147483647 : Int32)) % (8 : Int32)) - (1 : Int32))) (wt := 0) (cu' := 11) (su' := 1573) (by decide) trivial rfl rfl rfl rfl rfl (al_setQuery _ _ _ _) rfl rfl rfl rfl (ws' := [(10, (F_setQuery F1 ((((sv (v2 + (1 : Int32))) &&& (2147483647 : Int32)) % (7 : Int32)) % (3 : Int32)) ((((sv (v2 + (2 : Int32))) &&& (2147483647 : Int32)) % (7 : Int32)) % (3 : Int32)) (if ((sv (v2 + (3 : Int32))) &&& (1 : Int32)) = (1 : Int32) then (1 : Int32) else (0 : Int32)) ((((sv (v2 + (4 : Int32))) &&& (2147483647 : Int32)) % (8 : Int32)) - (1 : Int32))), G1, A1, B1)]) rfl ?_
                refine Wk.istore o_L_law_191 (Or.inl rfl) (L' := [.val (.ref 0), .val (.ref 1), .val (.int v2), .val (.int ((sv v2) &&& (7 : Int32))), .val (.int (((sv (v2 + (1 : Int32))) &&& (2147483647 : Int32)) % (7 : Int32))), .val (.int (((sv (v2 + (2 : Int32))) &&& (2147483647 : Int32)) % (7 : Int32))), .val (.int (sv (v2 + (3 : Int32)))), .val (.int (sv (v2 + (4 : Int32)))), .val (.long (R_L_fp  F1 A1 )), .second, .val (.int (f_status F1)), .val (.int (f_setQuery ((((sv (v2 + (1 : Int32))) &&& (2147483647 : Int32)) % (7 : Int32)) % (3 : Int32)) ((((sv (v2 + (2 : Int32))) &&& (2147483647 : Int32)) % (7 : Int32)) % (3 : Int32)) (if ((sv (v2 + (3 : Int32))) &&& (1 : Int32)) = (1 : Int32) then (1 : Int32) else (0 : Int32)) ((((sv (v2 + (4 : Int32))) &&& (2147483647 : Int32)) % (8 : Int32)) - (1 : Int32))))]) rfl ?_
                refine Wk.goto o_L_law_193 ?_
                refine Wk.forget [false, false, false, true, true, true, true, true, false, false, false, false] (L' := [.val (.ref 0), .val (.ref 1), .val (.int v2), .unset, .unset, .unset, .unset, .unset, .val (.long (R_L_fp  F1 A1 )), .second, .val (.int (f_status F1)), .val (.int (f_setQuery ((((sv (v2 + (1 : Int32))) &&& (2147483647 : Int32)) % (7 : Int32)) % (3 : Int32)) ((((sv (v2 + (2 : Int32))) &&& (2147483647 : Int32)) % (7 : Int32)) % (3 : Int32)) (if ((sv (v2 + (3 : Int32))) &&& (1 : Int32)) = (1 : Int32) then (1 : Int32) else (0 : Int32)) ((((sv (v2 + (4 : Int32))) &&& (2147483647 : Int32)) % (8 : Int32)) - (1 : Int32))))]) rfl rfl ?_
                exact (h22 q1 q13 q14 q15 q16 q17)
              refine Wk.icmp_ne o_L_law_170 (fun q20 => ?_) (fun q20 => ?_)
              · refine Wk.iconst o_L_law_177 (z := (0 : Int32)) (by decide) ?_
                first | (rw [show ((if ((sv (v2 + (3 : Int32))) &&& (1 : Int32)) = (1 : Int32) then (1 : Int32) else (0 : Int32)) : Int32) = (0 : Int32) from if_neg q20] at J21; exact J21) | exact J21 | (simp only [if_neg q20] at J21 ⊢; exact J21)
              · refine Wk.iconst o_L_law_173 (z := (1 : Int32)) (by decide) ?_
                refine Wk.goto o_L_law_174 ?_
                first | (rw [show ((if ((sv (v2 + (3 : Int32))) &&& (1 : Int32)) = (1 : Int32) then (1 : Int32) else (0 : Int32)) : Int32) = (1 : Int32) from if_pos q20] at J21; exact J21) | exact J21 | (simp only [if_pos q20] at J21 ⊢; exact J21)
          · refine Wk.aloadN o_L_law_140 rfl ?_
            refine Wk.iload o_L_law_141 rfl ?_
            refine Wk.callLF (coC H) [.int (((sv (v2 + (1 : Int32))) &&& (2147483647 : Int32)) % (7 : Int32))] 0 [] (i' := 1) (H.w 150 rfl) (cv_removeSeed H) o_L_law_143 (run_removeSeed H F1 G1 A1 B1 (((sv (v2 + (1 : Int32))) &&& (2147483647 : Int32)) % (7 : Int32)) (s23 q1 q13 q14 q15 q16)) (wt := 0) (cu' := 11) (su' := 1573) (by decide) trivial rfl rfl rfl rfl rfl rfl rfl rfl rfl rfl (ws' := [(10, (R_removeSeed F1 A1 (((sv (v2 + (1 : Int32))) &&& (2147483647 : Int32)) % (7 : Int32))).2.1, G1, (R_removeSeed F1 A1 (((sv (v2 + (1 : Int32))) &&& (2147483647 : Int32)) % (7 : Int32))).2.2, B1)]) rfl ?_
            refine Wk.istore o_L_law_146 (Or.inl rfl) (L' := [.val (.ref 0), .val (.ref 1), .val (.int v2), .val (.int ((sv v2) &&& (7 : Int32))), .val (.int (((sv (v2 + (1 : Int32))) &&& (2147483647 : Int32)) % (7 : Int32))), .val (.int (((sv (v2 + (2 : Int32))) &&& (2147483647 : Int32)) % (7 : Int32))), .val (.int (sv (v2 + (3 : Int32)))), .val (.int (sv (v2 + (4 : Int32)))), .val (.long (R_L_fp  F1 A1 )), .second, .val (.int (f_status F1)), .val (.int (R_removeSeed F1 A1 (((sv (v2 + (1 : Int32))) &&& (2147483647 : Int32)) % (7 : Int32))).1)]) rfl ?_
            refine Wk.goto o_L_law_148 ?_
            refine Wk.forget [false, false, false, true, true, true, true, true, false, false, false, false] (L' := [.val (.ref 0), .val (.ref 1), .val (.int v2), .unset, .unset, .unset, .unset, .unset, .val (.long (R_L_fp  F1 A1 )), .second, .val (.int (f_status F1)), .val (.int (R_removeSeed F1 A1 (((sv (v2 + (1 : Int32))) &&& (2147483647 : Int32)) % (7 : Int32))).1)]) rfl rfl ?_
            exact (h24 q1 q13 q14 q15 q16)
        · refine Wk.aloadN o_L_law_124 rfl ?_
          refine Wk.iload o_L_law_125 rfl ?_
          refine Wk.callLF (coC H) [.int (((sv (v2 + (1 : Int32))) &&& (2147483647 : Int32)) % (7 : Int32))] 0 [] (i' := 1) (H.w 122 rfl) (cv_addSeed H) o_L_law_127 (run_addSeed H F1 G1 A1 B1 (((sv (v2 + (1 : Int32))) &&& (2147483647 : Int32)) % (7 : Int32)) (s25 q1 q13 q14 q15)) (wt := 0) (cu' := 11) (su' := 1573) (by decide) trivial rfl rfl rfl rfl rfl rfl rfl rfl rfl rfl (ws' := [(10, (R_addSeed F1 A1 (((sv (v2 + (1 : Int32))) &&& (2147483647 : Int32)) % (7 : Int32))).2.1, G1, (R_addSeed F1 A1 (((sv (v2 + (1 : Int32))) &&& (2147483647 : Int32)) % (7 : Int32))).2.2, B1)]) rfl ?_
          refine Wk.istore o_L_law_130 (Or.inl rfl) (L' := [.val (.ref 0), .val (.ref 1), .val (.int v2), .val (.int ((sv v2) &&& (7 : Int32))), .val (.int (((sv (v2 + (1 : Int32))) &&& (2147483647 : Int32)) % (7 : Int32))), .val (.int (((sv (v2 + (2 : Int32))) &&& (2147483647 : Int32)) % (7 : Int32))), .val (.int (sv (v2 + (3 : Int32)))), .val (.int (sv (v2 + (4 : Int32)))), .val (.long (R_L_fp  F1 A1 )), .second, .val (.int (f_status F1)), .val (.int (R_addSeed F1 A1 (((sv (v2 + (1 : Int32))) &&& (2147483647 : Int32)) % (7 : Int32))).1)]) rfl ?_
          refine Wk.goto o_L_law_132 ?_
          refine Wk.forget [false, false, false, true, true, true, true, true, false, false, false, false] (L' := [.val (.ref 0), .val (.ref 1), .val (.int v2), .unset, .unset, .unset, .unset, .unset, .val (.long (R_L_fp  F1 A1 )), .second, .val (.int (f_status F1)), .val (.int (R_addSeed F1 A1 (((sv (v2 + (1 : Int32))) &&& (2147483647 : Int32)) % (7 : Int32))).1)]) rfl rfl ?_
          exact (h26 q1 q13 q14 q15)
      · refine Wk.aloadN o_L_law_106 rfl ?_
        refine Wk.iload o_L_law_107 rfl ?_
        refine Wk.iload o_L_law_109 rfl ?_
        refine Wk.callLF (coC H) [.int (((sv (v2 + (1 : Int32))) &&& (2147483647 : Int32)) % (7 : Int32)), .int (((sv (v2 + (2 : Int32))) &&& (2147483647 : Int32)) % (7 : Int32))] 0 [] (i' := 1) (H.w 136 rfl) (cv_removeEdge H) o_L_law_111 (run_removeEdge H F1 G1 A1 B1 (((sv (v2 + (1 : Int32))) &&& (2147483647 : Int32)) % (7 : Int32)) (((sv (v2 + (2 : Int32))) &&& (2147483647 : Int32)) % (7 : Int32)) (s27 q1 q13 q14)) (wt := 0) (cu' := 11) (su' := 1573) (by decide) trivial rfl rfl rfl rfl rfl rfl rfl rfl rfl rfl (ws' := [(10, (R_removeEdge F1 A1 (((sv (v2 + (1 : Int32))) &&& (2147483647 : Int32)) % (7 : Int32)) (((sv (v2 + (2 : Int32))) &&& (2147483647 : Int32)) % (7 : Int32))).2.1, G1, (R_removeEdge F1 A1 (((sv (v2 + (1 : Int32))) &&& (2147483647 : Int32)) % (7 : Int32)) (((sv (v2 + (2 : Int32))) &&& (2147483647 : Int32)) % (7 : Int32))).2.2, B1)]) rfl ?_
        refine Wk.istore o_L_law_114 (Or.inl rfl) (L' := [.val (.ref 0), .val (.ref 1), .val (.int v2), .val (.int ((sv v2) &&& (7 : Int32))), .val (.int (((sv (v2 + (1 : Int32))) &&& (2147483647 : Int32)) % (7 : Int32))), .val (.int (((sv (v2 + (2 : Int32))) &&& (2147483647 : Int32)) % (7 : Int32))), .val (.int (sv (v2 + (3 : Int32)))), .val (.int (sv (v2 + (4 : Int32)))), .val (.long (R_L_fp  F1 A1 )), .second, .val (.int (f_status F1)), .val (.int (R_removeEdge F1 A1 (((sv (v2 + (1 : Int32))) &&& (2147483647 : Int32)) % (7 : Int32)) (((sv (v2 + (2 : Int32))) &&& (2147483647 : Int32)) % (7 : Int32))).1)]) rfl ?_
        refine Wk.goto o_L_law_116 ?_
        refine Wk.forget [false, false, false, true, true, true, true, true, false, false, false, false] (L' := [.val (.ref 0), .val (.ref 1), .val (.int v2), .unset, .unset, .unset, .unset, .unset, .val (.long (R_L_fp  F1 A1 )), .second, .val (.int (f_status F1)), .val (.int (R_removeEdge F1 A1 (((sv (v2 + (1 : Int32))) &&& (2147483647 : Int32)) % (7 : Int32)) (((sv (v2 + (2 : Int32))) &&& (2147483647 : Int32)) % (7 : Int32))).1)]) rfl rfl ?_
        exact (h28 q1 q13 q14)
    · refine Wk.aloadN o_L_law_88 rfl ?_
      refine Wk.iload o_L_law_89 rfl ?_
      refine Wk.iload o_L_law_91 rfl ?_
      refine Wk.callLF (coC H) [.int (((sv (v2 + (1 : Int32))) &&& (2147483647 : Int32)) % (7 : Int32)), .int (((sv (v2 + (2 : Int32))) &&& (2147483647 : Int32)) % (7 : Int32))] 0 [] (i' := 1) (H.w 131 rfl) (cv_addEdge H) o_L_law_93 (run_addEdge H F1 G1 A1 B1 (((sv (v2 + (1 : Int32))) &&& (2147483647 : Int32)) % (7 : Int32)) (((sv (v2 + (2 : Int32))) &&& (2147483647 : Int32)) % (7 : Int32)) (s29 q1 q13)) (wt := 0) (cu' := 11) (su' := 1573) (by decide) trivial rfl rfl rfl rfl rfl rfl rfl rfl rfl rfl (ws' := [(10, (R_addEdge F1 A1 (((sv (v2 + (1 : Int32))) &&& (2147483647 : Int32)) % (7 : Int32)) (((sv (v2 + (2 : Int32))) &&& (2147483647 : Int32)) % (7 : Int32))).2.1, G1, (R_addEdge F1 A1 (((sv (v2 + (1 : Int32))) &&& (2147483647 : Int32)) % (7 : Int32)) (((sv (v2 + (2 : Int32))) &&& (2147483647 : Int32)) % (7 : Int32))).2.2, B1)]) rfl ?_
      refine Wk.istore o_L_law_96 (Or.inl rfl) (L' := [.val (.ref 0), .val (.ref 1), .val (.int v2), .val (.int ((sv v2) &&& (7 : Int32))), .val (.int (((sv (v2 + (1 : Int32))) &&& (2147483647 : Int32)) % (7 : Int32))), .val (.int (((sv (v2 + (2 : Int32))) &&& (2147483647 : Int32)) % (7 : Int32))), .val (.int (sv (v2 + (3 : Int32)))), .val (.int (sv (v2 + (4 : Int32)))), .val (.long (R_L_fp  F1 A1 )), .second, .val (.int (f_status F1)), .val (.int (R_addEdge F1 A1 (((sv (v2 + (1 : Int32))) &&& (2147483647 : Int32)) % (7 : Int32)) (((sv (v2 + (2 : Int32))) &&& (2147483647 : Int32)) % (7 : Int32))).1)]) rfl ?_
      refine Wk.goto o_L_law_98 ?_
      refine Wk.forget [false, false, false, true, true, true, true, true, false, false, false, false] (L' := [.val (.ref 0), .val (.ref 1), .val (.int v2), .unset, .unset, .unset, .unset, .unset, .val (.long (R_L_fp  F1 A1 )), .second, .val (.int (f_status F1)), .val (.int (R_addEdge F1 A1 (((sv (v2 + (1 : Int32))) &&& (2147483647 : Int32)) % (7 : Int32)) (((sv (v2 + (2 : Int32))) &&& (2147483647 : Int32)) % (7 : Int32))).1)]) rfl rfl ?_
      exact (h30 q1 q13)

set_option maxRecDepth 65536 in
set_option maxHeartbeats 4000000 in
theorem wp_L_law_204 {l : Launch} {Z : State} {a0 : Array Value} (H : OK Z a0) (sl : Int32) (sv : Int32 → Int32) (F1 : Nat → Int32) (G1 : Nat → Int64) (A1 : Nat → Int32 → Int32) (B1 : Nat → Int32 → Int64) (v2 : Int32) (w8 : Int64) (v10 : Int32) (v11 : Int32) {Q : Option Value → WL → Prop} (h2 : v11 = 0 → Wk l Z (MoL Z cdC "RecursiveCteL7" true) md_L_law 16 [.val (.ref 0), .val (.ref 1), .val (.int (v2 + (5 : Int32))), .unset, .unset, .unset, .unset, .unset, .unset, .unset, .unset, .unset] [] (sl, sv, [(10, F1, G1, A1, B1)]) 11 1573 Q) (s4 : ¬ v11 = 0 → v11 < 0 → (en_L_fp  F1 A1 ).isSome = true) (h7 : ¬ v11 = 0 → v11 < 0 → (XT.cmpL (R_L_fp  F1 A1 ) w8) = 0 → v10 = 0 → Wk l Z (MoL Z cdC "RecursiveCteL7" true) md_L_law 16 [.val (.ref 0), .val (.ref 1), .val (.int (v2 + (5 : Int32))), .unset, .unset, .unset, .unset, .unset, .unset, .unset, .unset, .unset] [] (sl, sv, [(10, F1, G1, A1, B1)]) 11 1573 Q) (s8 : ¬ v11 = 0 → v11 < 0 → (XT.cmpL (R_L_fp  F1 A1 ) w8) = 0 → ¬ v10 = 0 → (en_run F1 A1 ).isSome = true) (h9 : ¬ v11 = 0 → v11 < 0 → (XT.cmpL (R_L_fp  F1 A1 ) w8) = 0 → ¬ v10 = 0 → Wk l Z (MoL Z cdC "RecursiveCteL7" true) md_L_law 238 [.val (.ref 0), .val (.ref 1), .val (.int v2), .unset, .unset, .unset, .unset, .unset, .val (.long w8), .second, .unset, .unset] [] (sl, sv, [(10, (R_run F1 A1 ).2.1, G1, (R_run F1 A1 ).2.2, B1)]) 11 1573 Q) (h10 : ¬ v11 = 0 → v11 < 0 → ¬ (XT.cmpL (R_L_fp  F1 A1 ) w8) = 0 → Q (some (.int (0 : Int32))) (sl, sv, [(10, F1, G1, A1, B1)])) (h11 : ¬ v11 = 0 → ¬ v11 < 0 → Q (some (.int (0 : Int32))) (sl, sv, [(10, F1, G1, A1, B1)])) :
    Wk l Z (MoL Z cdC "RecursiveCteL7" true) md_L_law 204 [.val (.ref 0), .val (.ref 1), .val (.int v2), .unset, .unset, .unset, .unset, .unset, .val (.long w8), .second, .val (.int v10), .val (.int v11)] [] (sl, sv, [(10, F1, G1, A1, B1)]) 11 1573 Q := by
  refine Wk.iload o_L_law_204 rfl ?_
  refine Wk.if_eq o_L_law_206 (fun q1 => ?_) (fun q1 => ?_)
  · refine Wk.iinc o_L_law_250 rfl (z := (v2 + (5 : Int32))) rfl (L' := [.val (.ref 0), .val (.ref 1), .val (.int (v2 + (5 : Int32))), .unset, .unset, .unset, .unset, .unset, .val (.long w8), .second, .val (.int v10), .val (.int v11)]) rfl ?_
    refine Wk.goto o_L_law_253 ?_
    refine Wk.forget [false, false, false, false, false, false, false, false, true, true, true, true] (L' := [.val (.ref 0), .val (.ref 1), .val (.int (v2 + (5 : Int32))), .unset, .unset, .unset, .unset, .unset, .unset, .unset, .unset, .unset]) rfl rfl ?_
    exact (h2 q1)
  · refine Wk.iload o_L_law_209 rfl ?_
    refine Wk.if_lt o_L_law_211 (fun q3 => ?_) (fun q3 => ?_)
    · refine Wk.aloadN o_L_law_216 rfl ?_
      refine Wk.callSF mtL [.ref 1] [] (H.w 58 rfl) (cv_L_fp H) o_L_law_217 (run_L_fp H sl sv F1 G1 A1 B1 (s4 q1 q3)) (wt := 0) (cu' := 11) (su' := 1573) (by decide) rfl rfl rfl rfl rfl rfl ?_
      refine Wk.lload o_L_law_220 rfl ?_
      refine Wk.lcmp o_L_law_222 ?_
      refine Wk.if_eq o_L_law_223 (fun q5 => ?_) (fun q5 => ?_)
      · refine Wk.iload o_L_law_228 rfl ?_
        refine Wk.if_eq o_L_law_230 (fun q6 => ?_) (fun q6 => ?_)
        · refine Wk.iinc o_L_law_250 rfl (z := (v2 + (5 : Int32))) rfl (L' := [.val (.ref 0), .val (.ref 1), .val (.int (v2 + (5 : Int32))), .unset, .unset, .unset, .unset, .unset, .val (.long w8), .second, .val (.int v10), .val (.int v11)]) rfl ?_
          refine Wk.goto o_L_law_253 ?_
          refine Wk.forget [false, false, false, false, false, false, false, false, true, true, true, true] (L' := [.val (.ref 0), .val (.ref 1), .val (.int (v2 + (5 : Int32))), .unset, .unset, .unset, .unset, .unset, .unset, .unset, .unset, .unset]) rfl rfl ?_
          exact (h7 q1 q3 q5 q6)
        · refine Wk.aloadN o_L_law_233 rfl ?_
          refine Wk.callLF (coC H) [] 0 [] (i' := 1) (H.w 141 rfl) (cv_run H) o_L_law_234 (run_run H F1 G1 A1 B1 (s8 q1 q3 q5 q6)) (wt := 0) (cu' := 11) (su' := 1573) (by decide) trivial rfl rfl rfl rfl rfl rfl rfl rfl rfl rfl (ws' := [(10, (R_run F1 A1 ).2.1, G1, (R_run F1 A1 ).2.2, B1)]) rfl ?_
          refine Wk.pop o_L_law_237 rfl ?_
          refine Wk.forget [false, false, false, false, false, false, false, false, false, false, true, true] (L' := [.val (.ref 0), .val (.ref 1), .val (.int v2), .unset, .unset, .unset, .unset, .unset, .val (.long w8), .second, .unset, .unset]) rfl rfl ?_
          exact (h9 q1 q3 q5 q6)
      · refine Wk.iconst o_L_law_226 (z := (0 : Int32)) (by decide) ?_
        exact Wk.zreturn mrL rfl o_L_law_227 rfl (by decide) (by decide) (y := (0 : Int32)) (by decide) (h10 q1 q3 q5)
    · refine Wk.iconst o_L_law_214 (z := (0 : Int32)) (by decide) ?_
      exact Wk.zreturn mrL rfl o_L_law_215 rfl (by decide) (by decide) (y := (0 : Int32)) (by decide) (h11 q1 q3)

set_option maxRecDepth 65536 in
set_option maxHeartbeats 4000000 in
theorem wp_L_law_201 {l : Launch} {Z : State} {a0 : Array Value} (H : OK Z a0) (sl : Int32) (sv : Int32 → Int32) (F1 : Nat → Int32) (G1 : Nat → Int64) (A1 : Nat → Int32 → Int32) (B1 : Nat → Int32 → Int64) (v2 : Int32) (w8 : Int64) (v10 : Int32) {Q : Option Value → WL → Prop} (h1 : Wk l Z (MoL Z cdC "RecursiveCteL7" true) md_L_law 204 [.val (.ref 0), .val (.ref 1), .val (.int v2), .unset, .unset, .unset, .unset, .unset, .val (.long w8), .second, .val (.int v10), .val (.int (0 : Int32))] [] (sl, sv, [(10, F1, G1, A1, B1)]) 11 1573 Q) :
    Wk l Z (MoL Z cdC "RecursiveCteL7" true) md_L_law 201 [.val (.ref 0), .val (.ref 1), .val (.int v2), .unset, .unset, .unset, .unset, .unset, .val (.long w8), .second, .val (.int v10), .unset] [] (sl, sv, [(10, F1, G1, A1, B1)]) 11 1573 Q := by
  refine Wk.iconst o_L_law_201 (z := (0 : Int32)) (by decide) ?_
  refine Wk.istore o_L_law_202 (Or.inl rfl) (L' := [.val (.ref 0), .val (.ref 1), .val (.int v2), .unset, .unset, .unset, .unset, .unset, .val (.long w8), .second, .val (.int v10), .val (.int (0 : Int32))]) rfl ?_
  exact h1

set_option maxRecDepth 65536 in
set_option maxHeartbeats 4000000 in
theorem wp_L_law_238 {l : Launch} {Z : State} {a0 : Array Value} (H : OK Z a0) (sl : Int32) (sv : Int32 → Int32) (F1 : Nat → Int32) (G1 : Nat → Int64) (A1 : Nat → Int32 → Int32) (B1 : Nat → Int32 → Int64) (v2 : Int32) (w8 : Int64) {Q : Option Value → WL → Prop} (s1 : (en_L_fp  F1 A1 ).isSome = true) (h3 : (XT.cmpL (R_L_fp  F1 A1 ) w8) = 0 → Wk l Z (MoL Z cdC "RecursiveCteL7" true) md_L_law 16 [.val (.ref 0), .val (.ref 1), .val (.int (v2 + (5 : Int32))), .unset, .unset, .unset, .unset, .unset, .unset, .unset, .unset, .unset] [] (sl, sv, [(10, F1, G1, A1, B1)]) 11 1573 Q) (h4 : ¬ (XT.cmpL (R_L_fp  F1 A1 ) w8) = 0 → Q (some (.int (0 : Int32))) (sl, sv, [(10, F1, G1, A1, B1)])) :
    Wk l Z (MoL Z cdC "RecursiveCteL7" true) md_L_law 238 [.val (.ref 0), .val (.ref 1), .val (.int v2), .unset, .unset, .unset, .unset, .unset, .val (.long w8), .second, .unset, .unset] [] (sl, sv, [(10, F1, G1, A1, B1)]) 11 1573 Q := by
  refine Wk.aloadN o_L_law_238 rfl ?_
  refine Wk.callSF mtL [.ref 1] [] (H.w 58 rfl) (cv_L_fp H) o_L_law_239 (run_L_fp H sl sv F1 G1 A1 B1 s1) (wt := 0) (cu' := 11) (su' := 1573) (by decide) rfl rfl rfl rfl rfl rfl ?_
  refine Wk.lload o_L_law_242 rfl ?_
  refine Wk.lcmp o_L_law_244 ?_
  refine Wk.if_eq o_L_law_245 (fun q2 => ?_) (fun q2 => ?_)
  · refine Wk.iinc o_L_law_250 rfl (z := (v2 + (5 : Int32))) rfl (L' := [.val (.ref 0), .val (.ref 1), .val (.int (v2 + (5 : Int32))), .unset, .unset, .unset, .unset, .unset, .val (.long w8), .second, .unset, .unset]) rfl ?_
    refine Wk.goto o_L_law_253 ?_
    refine Wk.forget [false, false, false, false, false, false, false, false, true, true, false, false] (L' := [.val (.ref 0), .val (.ref 1), .val (.int (v2 + (5 : Int32))), .unset, .unset, .unset, .unset, .unset, .unset, .unset, .unset, .unset]) rfl rfl ?_
    exact (h3 q2)
  · refine Wk.iconst o_L_law_248 (z := (0 : Int32)) (by decide) ?_
    exact Wk.zreturn mrL rfl o_L_law_249 rfl (by decide) (by decide) (y := (0 : Int32)) (by decide) (h4 q2)

theorem rt_law {v r : Int32} (e : v = r) : some (Value.int v) = some (Value.int r) := by rw [e]
def lp_L_law : Nat → Nat → (Int32) → (Int32 → Int32) → Int32 → Int64 → Int32 → Int32 → (Nat → Int32) → (Nat → Int32 → Int32) → Option (Int32)
  | 0, _, _, _, _, _, _, _, _, _ => none
  | n + 1, tag, sl, sv, v2, w8, v10, v11, F1, A1 => if tag = 14 then lp_L_law n 16 sl sv (0 : Int32) 0 0 0 F1 A1 else if tag = 16 then (if (v2 + (4 : Int32)) < sl then (if (¬ v2 < 0) ∧ (v2 < sl) ∧ (¬ (v2 + (1 : Int32)) < 0) ∧ ((v2 + (1 : Int32)) < sl) ∧ (¬ (v2 + (2 : Int32)) < 0) ∧ ((v2 + (2 : Int32)) < sl) ∧ (¬ (v2 + (3 : Int32)) < 0) ∧ ((v2 + (3 : Int32)) < sl) ∧ (¬ (v2 + (4 : Int32)) < 0) ∧ ((en_L_fp  F1 A1 ).isSome = true) then (if (1 : Int32) < ((sv v2) &&& (7 : Int32)) then (if ((sv v2) &&& (7 : Int32)) = (2 : Int32) then (if ((en_removeEdge F1 A1 (((sv (v2 + (1 : Int32))) &&& (2147483647 : Int32)) % (7 : Int32)) (((sv (v2 + (2 : Int32))) &&& (2147483647 : Int32)) % (7 : Int32))).isSome = true) then lp_L_law n 204 sl sv v2 (R_L_fp  F1 A1 ) (f_status F1) (R_removeEdge F1 A1 (((sv (v2 + (1 : Int32))) &&& (2147483647 : Int32)) % (7 : Int32)) (((sv (v2 + (2 : Int32))) &&& (2147483647 : Int32)) % (7 : Int32))).1 (R_removeEdge F1 A1 (((sv (v2 + (1 : Int32))) &&& (2147483647 : Int32)) % (7 : Int32)) (((sv (v2 + (2 : Int32))) &&& (2147483647 : Int32)) % (7 : Int32))).2.1 (R_removeEdge F1 A1 (((sv (v2 + (1 : Int32))) &&& (2147483647 : Int32)) % (7 : Int32)) (((sv (v2 + (2 : Int32))) &&& (2147483647 : Int32)) % (7 : Int32))).2.2 else none) else (if ((sv v2) &&& (7 : Int32)) = (3 : Int32) then (if ((en_addSeed F1 A1 (((sv (v2 + (1 : Int32))) &&& (2147483647 : Int32)) % (7 : Int32))).isSome = true) then lp_L_law n 204 sl sv v2 (R_L_fp  F1 A1 ) (f_status F1) (R_addSeed F1 A1 (((sv (v2 + (1 : Int32))) &&& (2147483647 : Int32)) % (7 : Int32))).1 (R_addSeed F1 A1 (((sv (v2 + (1 : Int32))) &&& (2147483647 : Int32)) % (7 : Int32))).2.1 (R_addSeed F1 A1 (((sv (v2 + (1 : Int32))) &&& (2147483647 : Int32)) % (7 : Int32))).2.2 else none) else (if ((sv v2) &&& (7 : Int32)) = (4 : Int32) then (if ((en_removeSeed F1 A1 (((sv (v2 + (1 : Int32))) &&& (2147483647 : Int32)) % (7 : Int32))).isSome = true) then lp_L_law n 204 sl sv v2 (R_L_fp  F1 A1 ) (f_status F1) (R_removeSeed F1 A1 (((sv (v2 + (1 : Int32))) &&& (2147483647 : Int32)) % (7 : Int32))).1 (R_removeSeed F1 A1 (((sv (v2 + (1 : Int32))) &&& (2147483647 : Int32)) % (7 : Int32))).2.1 (R_removeSeed F1 A1 (((sv (v2 + (1 : Int32))) &&& (2147483647 : Int32)) % (7 : Int32))).2.2 else none) else (if ((sv v2) &&& (7 : Int32)) = (5 : Int32) then lp_L_law n 204 sl sv v2 (R_L_fp  F1 A1 ) (f_status F1) (f_setQuery ((((sv (v2 + (1 : Int32))) &&& (2147483647 : Int32)) % (7 : Int32)) % (3 : Int32)) ((((sv (v2 + (2 : Int32))) &&& (2147483647 : Int32)) % (7 : Int32)) % (3 : Int32)) (if ((sv (v2 + (3 : Int32))) &&& (1 : Int32)) = (1 : Int32) then (1 : Int32) else (0 : Int32)) ((((sv (v2 + (4 : Int32))) &&& (2147483647 : Int32)) % (8 : Int32)) - (1 : Int32))) (F_setQuery F1 ((((sv (v2 + (1 : Int32))) &&& (2147483647 : Int32)) % (7 : Int32)) % (3 : Int32)) ((((sv (v2 + (2 : Int32))) &&& (2147483647 : Int32)) % (7 : Int32)) % (3 : Int32)) (if ((sv (v2 + (3 : Int32))) &&& (1 : Int32)) = (1 : Int32) then (1 : Int32) else (0 : Int32)) ((((sv (v2 + (4 : Int32))) &&& (2147483647 : Int32)) % (8 : Int32)) - (1 : Int32))) A1 else (if ((en_run F1 A1 ).isSome = true) then lp_L_law n 201 sl sv v2 (R_L_fp  F1 A1 ) (f_status F1) 0 (R_run F1 A1 ).2.1 (R_run F1 A1 ).2.2 else none))))) else (if ((en_addEdge F1 A1 (((sv (v2 + (1 : Int32))) &&& (2147483647 : Int32)) % (7 : Int32)) (((sv (v2 + (2 : Int32))) &&& (2147483647 : Int32)) % (7 : Int32))).isSome = true) then lp_L_law n 204 sl sv v2 (R_L_fp  F1 A1 ) (f_status F1) (R_addEdge F1 A1 (((sv (v2 + (1 : Int32))) &&& (2147483647 : Int32)) % (7 : Int32)) (((sv (v2 + (2 : Int32))) &&& (2147483647 : Int32)) % (7 : Int32))).1 (R_addEdge F1 A1 (((sv (v2 + (1 : Int32))) &&& (2147483647 : Int32)) % (7 : Int32)) (((sv (v2 + (2 : Int32))) &&& (2147483647 : Int32)) % (7 : Int32))).2.1 (R_addEdge F1 A1 (((sv (v2 + (1 : Int32))) &&& (2147483647 : Int32)) % (7 : Int32)) (((sv (v2 + (2 : Int32))) &&& (2147483647 : Int32)) % (7 : Int32))).2.2 else none)) else none) else some ((1 : Int32))) else if tag = 204 then (if v11 = 0 then lp_L_law n 16 sl sv (v2 + (5 : Int32)) 0 0 0 F1 A1 else (if v11 < 0 then (if ((en_L_fp  F1 A1 ).isSome = true) then (if (XT.cmpL (R_L_fp  F1 A1 ) w8) = 0 then (if v10 = 0 then lp_L_law n 16 sl sv (v2 + (5 : Int32)) 0 0 0 F1 A1 else (if ((en_run F1 A1 ).isSome = true) then lp_L_law n 238 sl sv v2 w8 0 0 (R_run F1 A1 ).2.1 (R_run F1 A1 ).2.2 else none)) else some ((0 : Int32))) else none) else some ((0 : Int32)))) else if tag = 201 then lp_L_law n 204 sl sv v2 w8 v10 (0 : Int32) F1 A1 else if tag = 238 then (if ((en_L_fp  F1 A1 ).isSome = true) then (if (XT.cmpL (R_L_fp  F1 A1 ) w8) = 0 then lp_L_law n 16 sl sv (v2 + (5 : Int32)) 0 0 0 F1 A1 else some ((0 : Int32))) else none) else none
theorem lp_L_law_z (tag : Nat) (sl : Int32) (sv : Int32 → Int32) (v2 : Int32) (w8 : Int64) (v10 : Int32) (v11 : Int32) (F1 : Nat → Int32) (A1 : Nat → Int32 → Int32) : lp_L_law 0 tag sl sv v2 w8 v10 v11 F1 A1 = none := Eq.trans rfl rfl
theorem lp_L_law_14 (n : Nat) (sl : Int32) (sv : Int32 → Int32) (v2 : Int32) (w8 : Int64) (v10 : Int32) (v11 : Int32) (F1 : Nat → Int32) (A1 : Nat → Int32 → Int32) : lp_L_law (n + 1) 14 sl sv v2 w8 v10 v11 F1 A1 = lp_L_law n 16 sl sv (0 : Int32) 0 0 0 F1 A1 := by
  rw [lp_L_law, if_pos rfl]
theorem lp_L_law_16 (n : Nat) (sl : Int32) (sv : Int32 → Int32) (v2 : Int32) (w8 : Int64) (v10 : Int32) (v11 : Int32) (F1 : Nat → Int32) (A1 : Nat → Int32 → Int32) : lp_L_law (n + 1) 16 sl sv v2 w8 v10 v11 F1 A1 = (if (v2 + (4 : Int32)) < sl then (if (¬ v2 < 0) ∧ (v2 < sl) ∧ (¬ (v2 + (1 : Int32)) < 0) ∧ ((v2 + (1 : Int32)) < sl) ∧ (¬ (v2 + (2 : Int32)) < 0) ∧ ((v2 + (2 : Int32)) < sl) ∧ (¬ (v2 + (3 : Int32)) < 0) ∧ ((v2 + (3 : Int32)) < sl) ∧ (¬ (v2 + (4 : Int32)) < 0) ∧ ((en_L_fp  F1 A1 ).isSome = true) then (if (1 : Int32) < ((sv v2) &&& (7 : Int32)) then (if ((sv v2) &&& (7 : Int32)) = (2 : Int32) then (if ((en_removeEdge F1 A1 (((sv (v2 + (1 : Int32))) &&& (2147483647 : Int32)) % (7 : Int32)) (((sv (v2 + (2 : Int32))) &&& (2147483647 : Int32)) % (7 : Int32))).isSome = true) then lp_L_law n 204 sl sv v2 (R_L_fp  F1 A1 ) (f_status F1) (R_removeEdge F1 A1 (((sv (v2 + (1 : Int32))) &&& (2147483647 : Int32)) % (7 : Int32)) (((sv (v2 + (2 : Int32))) &&& (2147483647 : Int32)) % (7 : Int32))).1 (R_removeEdge F1 A1 (((sv (v2 + (1 : Int32))) &&& (2147483647 : Int32)) % (7 : Int32)) (((sv (v2 + (2 : Int32))) &&& (2147483647 : Int32)) % (7 : Int32))).2.1 (R_removeEdge F1 A1 (((sv (v2 + (1 : Int32))) &&& (2147483647 : Int32)) % (7 : Int32)) (((sv (v2 + (2 : Int32))) &&& (2147483647 : Int32)) % (7 : Int32))).2.2 else none) else (if ((sv v2) &&& (7 : Int32)) = (3 : Int32) then (if ((en_addSeed F1 A1 (((sv (v2 + (1 : Int32))) &&& (2147483647 : Int32)) % (7 : Int32))).isSome = true) then lp_L_law n 204 sl sv v2 (R_L_fp  F1 A1 ) (f_status F1) (R_addSeed F1 A1 (((sv (v2 + (1 : Int32))) &&& (2147483647 : Int32)) % (7 : Int32))).1 (R_addSeed F1 A1 (((sv (v2 + (1 : Int32))) &&& (2147483647 : Int32)) % (7 : Int32))).2.1 (R_addSeed F1 A1 (((sv (v2 + (1 : Int32))) &&& (2147483647 : Int32)) % (7 : Int32))).2.2 else none) else (if ((sv v2) &&& (7 : Int32)) = (4 : Int32) then (if ((en_removeSeed F1 A1 (((sv (v2 + (1 : Int32))) &&& (2147483647 : Int32)) % (7 : Int32))).isSome = true) then lp_L_law n 204 sl sv v2 (R_L_fp  F1 A1 ) (f_status F1) (R_removeSeed F1 A1 (((sv (v2 + (1 : Int32))) &&& (2147483647 : Int32)) % (7 : Int32))).1 (R_removeSeed F1 A1 (((sv (v2 + (1 : Int32))) &&& (2147483647 : Int32)) % (7 : Int32))).2.1 (R_removeSeed F1 A1 (((sv (v2 + (1 : Int32))) &&& (2147483647 : Int32)) % (7 : Int32))).2.2 else none) else (if ((sv v2) &&& (7 : Int32)) = (5 : Int32) then lp_L_law n 204 sl sv v2 (R_L_fp  F1 A1 ) (f_status F1) (f_setQuery ((((sv (v2 + (1 : Int32))) &&& (2147483647 : Int32)) % (7 : Int32)) % (3 : Int32)) ((((sv (v2 + (2 : Int32))) &&& (2147483647 : Int32)) % (7 : Int32)) % (3 : Int32)) (if ((sv (v2 + (3 : Int32))) &&& (1 : Int32)) = (1 : Int32) then (1 : Int32) else (0 : Int32)) ((((sv (v2 + (4 : Int32))) &&& (2147483647 : Int32)) % (8 : Int32)) - (1 : Int32))) (F_setQuery F1 ((((sv (v2 + (1 : Int32))) &&& (2147483647 : Int32)) % (7 : Int32)) % (3 : Int32)) ((((sv (v2 + (2 : Int32))) &&& (2147483647 : Int32)) % (7 : Int32)) % (3 : Int32)) (if ((sv (v2 + (3 : Int32))) &&& (1 : Int32)) = (1 : Int32) then (1 : Int32) else (0 : Int32)) ((((sv (v2 + (4 : Int32))) &&& (2147483647 : Int32)) % (8 : Int32)) - (1 : Int32))) A1 else (if ((en_run F1 A1 ).isSome = true) then lp_L_law n 201 sl sv v2 (R_L_fp  F1 A1 ) (f_status F1) 0 (R_run F1 A1 ).2.1 (R_run F1 A1 ).2.2 else none))))) else (if ((en_addEdge F1 A1 (((sv (v2 + (1 : Int32))) &&& (2147483647 : Int32)) % (7 : Int32)) (((sv (v2 + (2 : Int32))) &&& (2147483647 : Int32)) % (7 : Int32))).isSome = true) then lp_L_law n 204 sl sv v2 (R_L_fp  F1 A1 ) (f_status F1) (R_addEdge F1 A1 (((sv (v2 + (1 : Int32))) &&& (2147483647 : Int32)) % (7 : Int32)) (((sv (v2 + (2 : Int32))) &&& (2147483647 : Int32)) % (7 : Int32))).1 (R_addEdge F1 A1 (((sv (v2 + (1 : Int32))) &&& (2147483647 : Int32)) % (7 : Int32)) (((sv (v2 + (2 : Int32))) &&& (2147483647 : Int32)) % (7 : Int32))).2.1 (R_addEdge F1 A1 (((sv (v2 + (1 : Int32))) &&& (2147483647 : Int32)) % (7 : Int32)) (((sv (v2 + (2 : Int32))) &&& (2147483647 : Int32)) % (7 : Int32))).2.2 else none)) else none) else some ((1 : Int32))) := by
  rw [lp_L_law, if_neg (by decide), if_pos rfl]
theorem lp_L_law_204 (n : Nat) (sl : Int32) (sv : Int32 → Int32) (v2 : Int32) (w8 : Int64) (v10 : Int32) (v11 : Int32) (F1 : Nat → Int32) (A1 : Nat → Int32 → Int32) : lp_L_law (n + 1) 204 sl sv v2 w8 v10 v11 F1 A1 = (if v11 = 0 then lp_L_law n 16 sl sv (v2 + (5 : Int32)) 0 0 0 F1 A1 else (if v11 < 0 then (if ((en_L_fp  F1 A1 ).isSome = true) then (if (XT.cmpL (R_L_fp  F1 A1 ) w8) = 0 then (if v10 = 0 then lp_L_law n 16 sl sv (v2 + (5 : Int32)) 0 0 0 F1 A1 else (if ((en_run F1 A1 ).isSome = true) then lp_L_law n 238 sl sv v2 w8 0 0 (R_run F1 A1 ).2.1 (R_run F1 A1 ).2.2 else none)) else some ((0 : Int32))) else none) else some ((0 : Int32)))) := by
  rw [lp_L_law, if_neg (by decide), if_neg (by decide), if_pos rfl]
theorem lp_L_law_201 (n : Nat) (sl : Int32) (sv : Int32 → Int32) (v2 : Int32) (w8 : Int64) (v10 : Int32) (v11 : Int32) (F1 : Nat → Int32) (A1 : Nat → Int32 → Int32) : lp_L_law (n + 1) 201 sl sv v2 w8 v10 v11 F1 A1 = lp_L_law n 204 sl sv v2 w8 v10 (0 : Int32) F1 A1 := by
  rw [lp_L_law, if_neg (by decide), if_neg (by decide), if_neg (by decide), if_pos rfl]
theorem lp_L_law_238 (n : Nat) (sl : Int32) (sv : Int32 → Int32) (v2 : Int32) (w8 : Int64) (v10 : Int32) (v11 : Int32) (F1 : Nat → Int32) (A1 : Nat → Int32 → Int32) : lp_L_law (n + 1) 238 sl sv v2 w8 v10 v11 F1 A1 = (if ((en_L_fp  F1 A1 ).isSome = true) then (if (XT.cmpL (R_L_fp  F1 A1 ) w8) = 0 then lp_L_law n 16 sl sv (v2 + (5 : Int32)) 0 0 0 F1 A1 else some ((0 : Int32))) else none) := by
  rw [lp_L_law, if_neg (by decide), if_neg (by decide), if_neg (by decide), if_neg (by decide), if_pos rfl]
set_option maxRecDepth 65536 in
set_option maxHeartbeats 4000000 in
theorem lpw_L_law {l : Launch} {Z : State} {a0 : Array Value} (H : OK Z a0) (sl : Int32) (sv : Int32 → Int32) (G1 : Nat → Int64) (B1 : Nat → Int32 → Int64) : ∀ (n : Nat) (v2 : Int32) (w8 : Int64) (v10 : Int32) (v11 : Int32) (F1 : Nat → Int32) (A1 : Nat → Int32 → Int32) (r : Int32), (lp_L_law n 14 sl sv v2 w8 v10 v11 F1 A1 = some r → Wk l Z (MoL Z cdC "RecursiveCteL7" true) md_L_law 14 [.val (.ref 0), .val (.ref 1), .unset, .unset, .unset, .unset, .unset, .unset, .unset, .unset, .unset, .unset] [] (sl, sv, [(10, F1, G1, A1, B1)]) 11 1573 (fun v _ => v = some (.int r))) ∧ (lp_L_law n 16 sl sv v2 w8 v10 v11 F1 A1 = some r → Wk l Z (MoL Z cdC "RecursiveCteL7" true) md_L_law 16 [.val (.ref 0), .val (.ref 1), .val (.int v2), .unset, .unset, .unset, .unset, .unset, .unset, .unset, .unset, .unset] [] (sl, sv, [(10, F1, G1, A1, B1)]) 11 1573 (fun v _ => v = some (.int r))) ∧ (lp_L_law n 204 sl sv v2 w8 v10 v11 F1 A1 = some r → Wk l Z (MoL Z cdC "RecursiveCteL7" true) md_L_law 204 [.val (.ref 0), .val (.ref 1), .val (.int v2), .unset, .unset, .unset, .unset, .unset, .val (.long w8), .second, .val (.int v10), .val (.int v11)] [] (sl, sv, [(10, F1, G1, A1, B1)]) 11 1573 (fun v _ => v = some (.int r))) ∧ (lp_L_law n 201 sl sv v2 w8 v10 v11 F1 A1 = some r → Wk l Z (MoL Z cdC "RecursiveCteL7" true) md_L_law 201 [.val (.ref 0), .val (.ref 1), .val (.int v2), .unset, .unset, .unset, .unset, .unset, .val (.long w8), .second, .val (.int v10), .unset] [] (sl, sv, [(10, F1, G1, A1, B1)]) 11 1573 (fun v _ => v = some (.int r))) ∧ (lp_L_law n 238 sl sv v2 w8 v10 v11 F1 A1 = some r → Wk l Z (MoL Z cdC "RecursiveCteL7" true) md_L_law 238 [.val (.ref 0), .val (.ref 1), .val (.int v2), .unset, .unset, .unset, .unset, .unset, .val (.long w8), .second, .unset, .unset] [] (sl, sv, [(10, F1, G1, A1, B1)]) 11 1573 (fun v _ => v = some (.int r))) := by
  intro n
  induction n with
  | zero =>
    intro v2 w8 v10 v11 F1 A1 r
    exact ⟨(fun h => by rw [lp_L_law_z] at h; cases h), (fun h => by rw [lp_L_law_z] at h; cases h), (fun h => by rw [lp_L_law_z] at h; cases h), (fun h => by rw [lp_L_law_z] at h; cases h), (fun h => by rw [lp_L_law_z] at h; cases h)⟩
  | succ n ih =>
    intro v2 w8 v10 v11 F1 A1 r
    refine ⟨fun h => ?_, fun h => ?_, fun h => ?_, fun h => ?_, fun h => ?_⟩
    · rw [lp_L_law_14] at h
      exact wp_L_law_14 H sl sv F1 G1 A1 B1  ((ih _ _ _ _ _ _ _).2.1 h)
    · rw [lp_L_law_16] at h
      exact wp_L_law_16 H sl sv F1 G1 A1 B1 v2 (fun q1 => (rt_law (Option.some.inj (ifn q1 h)))) (fun q1 => (gd (ifp q1 h)).1.1) (fun q1 => (gd (ifp q1 h)).1.2.1) (fun q1 => (gd (ifp q1 h)).1.2.2.1) (fun q1 => (gd (ifp q1 h)).1.2.2.2.1) (fun q1 => (gd (ifp q1 h)).1.2.2.2.2.1) (fun q1 => (gd (ifp q1 h)).1.2.2.2.2.2.1) (fun q1 => (gd (ifp q1 h)).1.2.2.2.2.2.2.1) (fun q1 => (gd (ifp q1 h)).1.2.2.2.2.2.2.2.1) (fun q1 => (gd (ifp q1 h)).1.2.2.2.2.2.2.2.2.1) (fun q1 => (gd (ifp q1 h)).1.2.2.2.2.2.2.2.2.2) (fun q1 q13 q14 q15 q16 q17 => (gd (ifn q17 (ifn q16 (ifn q15 (ifn q14 (ifp q13 (gd (ifp q1 h)).2)))))).1) (fun q1 q13 q14 q15 q16 q17 => (ih _ _ _ _ _ _ _).2.2.2.1 (gd (ifn q17 (ifn q16 (ifn q15 (ifn q14 (ifp q13 (gd (ifp q1 h)).2)))))).2) (fun q1 q13 q14 q15 q16 q17 => (ih _ _ _ _ _ _ _).2.2.1 (ifp q17 (ifn q16 (ifn q15 (ifn q14 (ifp q13 (gd (ifp q1 h)).2)))))) (fun q1 q13 q14 q15 q16 => (gd (ifp q16 (ifn q15 (ifn q14 (ifp q13 (gd (ifp q1 h)).2))))).1) (fun q1 q13 q14 q15 q16 => (ih _ _ _ _ _ _ _).2.2.1 (gd (ifp q16 (ifn q15 (ifn q14 (ifp q13 (gd (ifp q1 h)).2))))).2) (fun q1 q13 q14 q15 => (gd (ifp q15 (ifn q14 (ifp q13 (gd (ifp q1 h)).2)))).1) (fun q1 q13 q14 q15 => (ih _ _ _ _ _ _ _).2.2.1 (gd (ifp q15 (ifn q14 (ifp q13 (gd (ifp q1 h)).2)))).2) (fun q1 q13 q14 => (gd (ifp q14 (ifp q13 (gd (ifp q1 h)).2))).1) (fun q1 q13 q14 => (ih _ _ _ _ _ _ _).2.2.1 (gd (ifp q14 (ifp q13 (gd (ifp q1 h)).2))).2) (fun q1 q13 => (gd (ifn q13 (gd (ifp q1 h)).2)).1) (fun q1 q13 => (ih _ _ _ _ _ _ _).2.2.1 (gd (ifn q13 (gd (ifp q1 h)).2)).2)
    · rw [lp_L_law_204] at h
      exact wp_L_law_204 H sl sv F1 G1 A1 B1 v2 w8 v10 v11 (fun q1 => (ih _ _ _ _ _ _ _).2.1 (ifp q1 h)) (fun q1 q3 => (gd (ifp q3 (ifn q1 h))).1) (fun q1 q3 q5 q6 => (ih _ _ _ _ _ _ _).2.1 (ifp q6 (ifp q5 (gd (ifp q3 (ifn q1 h))).2))) (fun q1 q3 q5 q6 => (gd (ifn q6 (ifp q5 (gd (ifp q3 (ifn q1 h))).2))).1) (fun q1 q3 q5 q6 => (ih _ _ _ _ _ _ _).2.2.2.2 (gd (ifn q6 (ifp q5 (gd (ifp q3 (ifn q1 h))).2))).2) (fun q1 q3 q5 => (rt_law (Option.some.inj (ifn q5 (gd (ifp q3 (ifn q1 h))).2)))) (fun q1 q3 => (rt_law (Option.some.inj (ifn q3 (ifn q1 h)))))
    · rw [lp_L_law_201] at h
      exact wp_L_law_201 H sl sv F1 G1 A1 B1 v2 w8 v10 ((ih _ _ _ _ _ _ _).2.2.1 h)
    · rw [lp_L_law_238] at h
      exact wp_L_law_238 H sl sv F1 G1 A1 B1 v2 w8 ((gd h).1) (fun q2 => (ih _ _ _ _ _ _ _).2.1 (ifp q2 (gd h).2)) (fun q2 => (rt_law (Option.some.inj (ifn q2 (gd h).2))))
def en_L_law (sl : Int32) (sv : Int32 → Int32) : Option (Int32) := lp_L_law 1000 14 sl sv 0 0 0 0 (F_init (6 : Int32) (10 : Int32) (24 : Int32)) (fun _ _ => 0)
theorem een_L_law (sl : Int32) (sv : Int32 → Int32) : en_L_law sl sv   = lp_L_law 1000 14 sl sv 0 0 0 0 (F_init (6 : Int32) (10 : Int32) (24 : Int32)) (fun _ _ => 0) := Eq.trans rfl rfl
set_option maxRecDepth 65536 in
set_option maxHeartbeats 4000000 in
theorem run_law {l : Launch} {Z : State} {a0 : Array Value} (H : OK Z a0) (sl : Int32) (sv : Int32 → Int32) (h : en_L_law sl sv  = some 1) : Wk l Z (MoL Z cdC "RecursiveCteL7" true) md_L_law 0 [.val (.ref 0), .unset, .unset, .unset, .unset, .unset, .unset, .unset, .unset, .unset, .unset, .unset] [] (sl, sv, []) 0 0 (fun v _ => v = some (.int (1 : Int32))) := by
  rw [een_L_law] at h
  exact wp_L_law H sl sv  ((lpw_L_law H sl sv _ _ _ _ _ _ _ _ _ _).1 h)
def Ok {α : Type} (o : Option α) (P : α → Prop) : Prop := ∃ r, o = some r ∧ P r
theorem Ok.ret {α : Type} {r : α} {P : α → Prop} (h : P r) : Ok (some r) P := ⟨r, rfl, h⟩
theorem Ok.ift {α : Type} {c : Prop} [Decidable c] {x : Option α} {P : α → Prop} (h : c) (k : Ok x P) : Ok (if c then x else none) P := by rw [if_pos h]; exact k
theorem Ok.ite {α : Type} {c : Prop} [Decidable c] {x y : Option α} {P : α → Prop} (h : c → Ok x P) (k : ¬ c → Ok y P) : Ok (if c then x else y) P := by
  by_cases q : c
  · rw [if_pos q]; exact h q
  · rw [if_neg q]; exact k q
theorem Ok.mono {α : Type} {x : Option α} {P Q : α → Prop} (h : Ok x P) (k : ∀ r, P r → Q r) : Ok x Q := by
  obtain ⟨r, e, p⟩ := h; exact ⟨r, e, k r p⟩
theorem Ok.S {α : Type} {x : Option α} {P : α → Prop} (h : Ok x P) : x.isSome = true := by obtain ⟨r, e, p⟩ := h; rw [e]; rfl
theorem Ok.R {α : Type} {x : Option α} {R d : α} {P : α → Prop} (h : Ok x P) (e : R = x.getD d) : x.isSome = true ∧ P R := by
  obtain ⟨r, q, p⟩ := h; refine ⟨by rw [q]; rfl, ?_⟩; rw [e, q]; exact p
theorem fu_nxt {v c : Int32} {n : Nat} (h : v < c) (hn : c.toInt < v.toInt + ((n + 1 : Nat) : Int)) : c.toInt < (v + 1).toInt + (n : Int) := by
  rw [succ_toInt h]; omega
theorem fu_z {v c : Int32} (h : ¬ c < v) (hn : c.toInt < v.toInt + ((0 : Nat) : Int)) : False := by
  rw [lt_i] at h; omega
theorem ifS {α β : Type} {x : α} {a b : β} : (if (some x).isSome = true then a else b) = a := if_pos rfl
theorem r_of {α : Type} {R : α} {o : Option α} {d r : α} (e : R = o.getD d) (h : o = some r) : R = r := e.trans (getD_some h)
theorem scan {σ : Type} (At : Int32 → σ → Prop) (Inv : Int32 → σ → Prop) (sl : Int32) (step : ∀ i s, Inv i s → (∀ j s', i.toInt < j.toInt → j.toInt ≤ sl.toInt → Inv j s' → At j s') → At i s) : ∀ i s, Inv i s → At i s := by
  have key : ∀ (n : Nat) (i : Int32) (s : σ), (sl.toInt - i.toInt).toNat ≤ n → Inv i s → At i s := by
    intro n
    induction n with
    | zero => exact fun i s hn hI => step i s hI fun j s' h1 h2 hJ => absurd h1 (by omega)
    | succ n ih => exact fun i s hn hI => step i s hI fun j s' h1 h2 hJ => ih j s' (by omega) hJ
  exact fun i s h => key _ i s (Nat.le_refl _) h
theorem adv (i sl c : Int32) (k : Nat) (hc : c.toInt = k) (hk : k ≤ 16) (h0 : ¬ i < 0) (h1 : ¬ 260 < i) : (i + c).toInt = i.toInt + k := by
  rw [lt_i] at h0 h1
  have z : (0 : Int32).toInt = 0 := by decide
  have z2 : (260 : Int32).toInt = 260 := by decide
  rw [z] at h0; rw [z2] at h1
  rw [add_toInt (by omega) (by omega), hc]
theorem nn_i {i : Int32} (h : ¬ i < 0) : 0 ≤ i.toInt := by
  rw [lt_i] at h; have z : (0 : Int32).toInt = 0 := by decide
  omega
theorem le_260 {i : Int32} (h : ¬ 260 < i) : i.toInt ≤ 260 := by
  rw [lt_i] at h; have z : (260 : Int32).toInt = 260 := by decide
  omega
theorem i_nn {i : Int32} (h : 0 ≤ i.toInt) : ¬ i < 0 := by
  rw [lt_i]; have z : (0 : Int32).toInt = 0 := by decide
  omega
theorem i_260 {i : Int32} (h : i.toInt ≤ 260) : ¬ 260 < i := by
  rw [lt_i]; have z : (260 : Int32).toInt = 260 := by decide
  omega
/-- i + b < sl, then on by c = b + 1 -/
theorem advS {i sl b c : Int32} (k : Nat) (hb : b.toInt = k) (hc : c.toInt = k + 1) (hk : k ≤ 15) (h0 : ¬ i < 0) (h1 : ¬ 260 < i) (hs : ¬ 260 < sl) (q : i + b < sl) : i.toInt < (i + c).toInt ∧ (i + c).toInt ≤ sl.toInt ∧ ¬ i + c < 0 ∧ ¬ 260 < i + c := by
  have e1 := adv i sl b k hb (by omega) h0 h1
  have e2 := adv i sl c (k + 1) (by rw [hc]; rfl) (by omega) h0 h1
  have a := nn_i h0
  have b' := le_260 hs
  have q' := lt_i.mp q
  refine ⟨by omega, by omega, i_nn (by omega), i_260 (by omega)⟩
theorem irr (z : Int32) : ¬ z < z := by grind
def Ok2 {α : Type} (o p : Option α) (P : α → α → Prop) : Prop := ∃ r s, o = some r ∧ p = some s ∧ P r s
theorem Ok2.ret {α : Type} {r s : α} {P : α → α → Prop} (h : P r s) : Ok2 (some r) (some s) P := ⟨r, s, rfl, rfl, h⟩
theorem Ok2.ift {α : Type} {c d : Prop} [Decidable c] [Decidable d] {x y : Option α} {P : α → α → Prop} (h : c) (h' : d) (k : Ok2 x y P) : Ok2 (if c then x else none) (if d then y else none) P := by
  rw [if_pos h, if_pos h']; exact k
theorem Ok2.ite {α : Type} {c d : Prop} [Decidable c] [Decidable d] {x y x' y' : Option α} {P : α → α → Prop} (e : c ↔ d) (h : c → Ok2 x x' P) (k : ¬ c → Ok2 y y' P) : Ok2 (if c then x else y) (if d then x' else y') P := by
  by_cases q : c
  · rw [if_pos q, if_pos (e.1 q)]; exact h q
  · rw [if_neg q, if_neg (fun z => q (e.2 z))]; exact k q
theorem Ok2.mono {α : Type} {x y : Option α} {P Q : α → α → Prop} (h : Ok2 x y P) (k : ∀ r s, P r s → Q r s) : Ok2 x y Q := by
  obtain ⟨r, s, e, f, p⟩ := h; exact ⟨r, s, e, f, k r s p⟩
theorem Ok2.R {α : Type} {x y : Option α} {R S d d' : α} {P : α → α → Prop} (h : Ok2 x y P) (e : R = x.getD d) (f : S = y.getD d') : x.isSome = true ∧ y.isSome = true ∧ P R S := by
  obtain ⟨r, s, q, q', p⟩ := h; refine ⟨by rw [q]; rfl, by rw [q']; rfl, ?_⟩; rw [e, f, q, q']; exact p
abbrev In (F G : Nat → Int32) (A B : Nat → Int32 → Int32) : Prop := (∀ k : Nat, k < 8 → F k = G k) ∧ A 0 = B 0 ∧ A 1 = B 1 ∧ F 0 = 6 ∧ F 2 = 24
abbrev Rw (A B : Nat → Int32 → Int32) (i : Int32) : Prop := (A 2 i = B 2 i ∧ A 3 i = B 3 i ∧ A 4 i = B 4 i) ∧ (¬ A 2 i < 0 ∧ A 2 i < 6 ∧ ¬ A 3 i < 0 ∧ A 3 i < 16) ∧ ∀ k : Int32, ¬ k < 0 → ¬ A 3 i < k → A 5 (i * 16 + k) = B 5 (i * 16 + k)
abbrev Rs (F G : Nat → Int32) (A B : Nat → Int32 → Int32) : Prop := F 9 = G 9 ∧ ¬ F 9 < 0 ∧ ¬ 24 < F 9 ∧ ∀ i : Int32, ¬ i < 0 → i < F 9 → Rw A B i
abbrev Sk (F G : Nat → Int32) (A B : Nat → Int32 → Int32) : Prop := F 10 = G 10 ∧ ¬ F 10 < -1 ∧ F 10 < 16 ∧ ∀ j : Int32, ¬ j < 0 → ¬ F 10 < j → (A 6 j = B 6 j ∧ A 7 j = B 7 j ∧ A 8 j = B 8 j) ∧ ¬ A 6 j < 0 ∧ A 6 j < 6
theorem uu {α β : Type} [DecidableEq α] {f g : α → β} {x z : α} {y y' : β} (h : f z = g z) (e : y = y') : ups f x y z = ups g x y' z := by
  by_cases q : z = x
  · subst q; rw [ups_at, ups_at, e]
  · rw [ups_ne _ _ q, ups_ne _ _ q, h]
theorem rw5 {A B : Nat → Int32 → Int32} {i : Int32} (h : Rw A B i) (x : Int32) {y y' : Int32} (e : y = y') : Rw (ups A 5 (ups (A 5) x y)) (ups B 5 (ups (B 5) x y')) i := by
  refine ⟨?_, ?_, fun k a b => ?_⟩
  · rw [ups_ne _ _ (by decide), ups_ne _ _ (by decide), ups_ne _ _ (by decide), ups_ne _ _ (by decide), ups_ne _ _ (by decide), ups_ne _ _ (by decide)]; exact h.1
  · rw [ups_ne _ _ (by decide), ups_ne _ _ (by decide)]; exact h.2.1
  · rw [ups_ne _ _ (by decide)] at b
    rw [ups_at, ups_at]; exact uu (h.2.2 k a b) e
theorem rs5 {F G : Nat → Int32} {A B : Nat → Int32 → Int32} (h : Rs F G A B) (x : Int32) {y y' : Int32} (e : y = y') : Rs F G (ups A 5 (ups (A 5) x y)) (ups B 5 (ups (B 5) x y')) :=
  ⟨h.1, h.2.1, h.2.2.1, fun i a b => rw5 (h.2.2.2 i a b) x e⟩
theorem rw_of {A B C D : Nat → Int32 → Int32} {i : Int32} (h : Rw A B i) (c : ∀ j : Nat, 1 < j → j < 6 → C j = A j) (d : ∀ j : Nat, 1 < j → j < 6 → D j = B j) : Rw C D i := by
  simp only [Rw]; rw [c 2 (by omega) (by omega), c 3 (by omega) (by omega), c 4 (by omega) (by omega), c 5 (by omega) (by omega), d 2 (by omega) (by omega), d 3 (by omega) (by omega), d 4 (by omega) (by omega), d 5 (by omega) (by omega)]; exact h
theorem rs_of {F G F' G' : Nat → Int32} {A B C D : Nat → Int32 → Int32} (h : Rs F G A B) (f : F' 9 = F 9) (g : G' 9 = G 9) (c : ∀ j : Nat, 1 < j → j < 6 → C j = A j) (d : ∀ j : Nat, 1 < j → j < 6 → D j = B j) : Rs F' G' C D := by
  refine ⟨by rw [f, g]; exact h.1, by rw [f]; exact h.2.1, by rw [f]; exact h.2.2.1, fun i a b => rw_of (h.2.2.2 i a (by rw [f] at b; exact b)) c d⟩
theorem sk_of {F G F' G' : Nat → Int32} {A B C D : Nat → Int32 → Int32} (h : Sk F G A B) (f : F' 10 = F 10) (g : G' 10 = G 10) (c : ∀ j : Nat, 5 < j → C j = A j) (d : ∀ j : Nat, 5 < j → D j = B j) : Sk F' G' C D := by
  refine ⟨by rw [f, g]; exact h.1, by rw [f]; exact h.2.1, by rw [f]; exact h.2.2.1, fun i a b => ?_⟩
  rw [f] at b; rw [c 6 (by omega), c 7 (by omega), c 8 (by omega), d 6 (by omega), d 7 (by omega), d 8 (by omega)]; exact h.2.2.2 i a b
theorem in_of {F G F' G' : Nat → Int32} {A B C D : Nat → Int32 → Int32} (h : In F G A B) (f : ∀ k : Nat, k < 8 → F' k = F k) (g : ∀ k : Nat, k < 8 → G' k = G k) (c : ∀ j : Nat, j < 2 → C j = A j) (d : ∀ j : Nat, j < 2 → D j = B j) : In F' G' C D := by
  refine ⟨fun k hk => by rw [f k hk, g k hk]; exact h.1 k hk, ?_⟩
  rw [c 0 (by omega), c 1 (by omega), d 0 (by omega), d 1 (by omega), f 0 (by omega), f 2 (by omega)]; exact h.2
def st (A : Nat → Int32 → Int32) (c nd d cy : Int32) : Nat → Int32 → Int32 := ups (ups (ups A 2 (ups (A 2) c nd)) 3 (ups (A 3) c d)) 4 (ups (A 4) c cy)
theorem st_j (A : Nat → Int32 → Int32) (c nd d cy : Int32) (j : Nat) (h : j < 2 ∨ 4 < j) : st A c nd d cy j = A j := by
  rw [st, ups_ne _ _ (by omega), ups_ne _ _ (by omega), ups_ne _ _ (by omega)]
theorem st_2 (A : Nat → Int32 → Int32) (c nd d cy : Int32) : st A c nd d cy 2 = ups (A 2) c nd := by simp [st, ups]
theorem st_3 (A : Nat → Int32 → Int32) (c nd d cy : Int32) : st A c nd d cy 3 = ups (A 3) c d := by simp [st, ups]
theorem st_4 (A : Nat → Int32 → Int32) (c nd d cy : Int32) : st A c nd d cy 4 = ups (A 4) c cy := by simp [st, ups]
theorem rw_st {A B : Nat → Int32 → Int32} {i c nd d cy nd' d' cy' : Int32} (h : ¬ i = c → Rw A B i) (en : nd = nd') (ed : d = d') (ec : cy = cy') (r : ¬ nd < 0 ∧ nd < 6 ∧ ¬ d < 0 ∧ d < 16) (p : ∀ k : Int32, ¬ k < 0 → ¬ d < k → A 5 (c * 16 + k) = B 5 (c * 16 + k)) : Rw (st A c nd d cy) (st B c nd' d' cy') i := by
  subst en ed ec
  simp only [Rw, st_2, st_3, st_4, st_j _ _ _ _ _ 5 (by omega)]
  by_cases q : i = c
  · subst q; simp only [ups_at]; exact ⟨⟨trivial, trivial, trivial⟩, r, p⟩
  · simp only [ups_ne _ _ q]; exact h q
theorem nx9 {c i : Int32} (h : ¬ c < 0) (h1 : c < 24) (hi : i < c + 1) (q : ¬ i = c) : i < c := by grind
theorem nx9' {c : Int32} (h : ¬ c < 0) (h1 : c < 24) : ¬ c + 1 < 0 ∧ ¬ 24 < c + 1 := by grind
theorem rs_st {F G F' G' : Nat → Int32} {A B : Nat → Int32 → Int32} {nd d cy nd' d' cy' : Int32} (h : Rs F G A B) (hc : F 9 < 24) (f : F' 9 = F 9 + 1) (g : G' 9 = G 9 + 1) (en : nd = nd') (ed : d = d') (ec : cy = cy') (r : ¬ nd < 0 ∧ nd < 6 ∧ ¬ d < 0 ∧ d < 16) (p : ∀ k : Int32, ¬ k < 0 → ¬ d < k → A 5 (F 9 * 16 + k) = B 5 (F 9 * 16 + k)) : Rs F' G' (st A (F 9) nd d cy) (st B (G 9) nd' d' cy') := by
  refine ⟨by rw [f, g, h.1], by rw [f]; exact (nx9' h.2.1 hc).1, by rw [f]; exact (nx9' h.2.1 hc).2, fun i a b => ?_⟩
  rw [f] at b
  rw [← h.1]
  exact rw_st (fun q => h.2.2.2 i a (nx9 h.2.1 hc b q)) en ed ec r p
abbrev Frm (F : Nat → Int32) (A : Nat → Int32 → Int32) (r : Int32 × (Nat → Int32) × (Nat → Int32 → Int32)) : Prop := (∀ k : Nat, ¬ k = 9 → r.2.1 k = F k) ∧ ∀ j : Nat, (j < 2 ∨ 5 < j) → r.2.2 j = A j
abbrev Es (F G : Nat → Int32) (A B : Nat → Int32 → Int32) (r s : Int32 × (Nat → Int32) × (Nat → Int32 → Int32)) : Prop := r.1 = s.1 ∧ Rs r.2.1 s.2.1 r.2.2 s.2.2 ∧ Frm F A r ∧ Frm G B s
theorem frm9 (F : Nat → Int32) (A B : Nat → Int32 → Int32) (x y : Int32) (h : ∀ j : Nat, (j < 2 ∨ 5 < j) → B j = A j) : Frm F A (x, ups F 9 y, B) := ⟨fun k hk => ups_ne _ _ hk, h⟩
theorem m16 {c k : Int32} (h : ¬ c < 0) (h1 : c < 24) (k0 : ¬ k < 0) (k1 : k < 16) : ¬ c * 16 + k < 0 ∧ c * 16 + k < 1024 := by
  grind
theorem l_es {F G : Nat → Int32} (t0 : ¬ F 10 < 0) : ∀ (n : Nat) (v : Int32) (A B : Nat → Int32 → Int32), Rs F G A B → Sk F G A B → F 9 < 24 → ¬ v < 0 → ¬ 16 < v → (16 : Int32).toInt < v.toInt + (n : Int) → (∀ k : Int32, ¬ k < 0 → k < v → A 5 (F 9 * 16 + k) = B 5 (F 9 * 16 + k)) → Ok2 (lp_emitStack n 32 (F 9 * 16) v F A) (lp_emitStack n 32 (G 9 * 16) v G B) (Es F G A B) := by
  intro n
  induction n with
  | zero => exact fun v A B _ _ _ h0 h1 h2 => (fu_z h1 h2).elim
  | succ n ih =>
    intro v A B rs sk hc h0 h1 h2 p
    rw [lp_emitStack_32, lp_emitStack_32]
    have e9 := rs.1
    have e10 := sk.1
    have t16 := sk.2.2.1
    have c0 := rs.2.1
    refine Ok2.ite (by rw [e10]) (fun q => ?_) fun q => ?_
    · have c64 : F 9 < 64 := by clear ih p rs sk; grind
      have z := sk.2.2.2 (F 10) t0 (irr _)
      refine Ok2.ift ⟨t0, t16, c0, c64⟩ ⟨by rw [← e10]; exact t0, by rw [← e10]; exact t16, by rw [← e9]; exact c0, by rw [← e9]; exact c64⟩ (Ok2.ret ⟨rfl, ?_, ?_, ?_⟩)
      · have y : Rs (ups F 9 (F 9 + 1)) (ups G 9 (G 9 + 1)) (st A (F 9) (A 6 (F 10)) (F 10) (nar .boolean (A 8 (F 10)))) (st B (G 9) (B 6 (G 10)) (G 10) (nar .boolean (B 8 (G 10)))) := by
          refine rs_st (F := F) (G := G) rs hc (ups_at _ _ _) (ups_at _ _ _) ?_ e10 ?_ ⟨z.2.1, z.2.2, t0, t16⟩ fun k a b => p k a (by clear ih p rs sk z; grind)
          · rw [← e10]; exact z.1.1
          · rw [← e10, z.1.2.2]
        exact y
      · exact frm9 F A _ 1 _ (fun j h => st_j A _ _ _ _ j (by omega))
      · exact frm9 G B _ 1 _ (fun j h => st_j B _ _ _ _ j (by omega))
    · have v16 : v < 16 := by clear ih p rs sk; grind
      have b := m16 c0 hc h0 v16
      refine Ok2.ite Iff.rfl (fun _ => Ok2.ift ⟨h0, b.1, b.2⟩ ⟨h0, by rw [← e9]; exact b.1, by rw [← e9]; exact b.2⟩ ?_) fun z => absurd v16 z
      have ev : A 6 v = B 6 v := (sk.2.2.2 v h0 q).1.1
      rw [← e9]
      have rs' := rs5 rs (F 9 * 16 + v) ev
      have sk' : Sk F G (ups A 5 (ups (A 5) (F 9 * 16 + v) (A 6 v))) (ups B 5 (ups (B 5) (F 9 * 16 + v) (B 6 v))) := sk_of sk rfl rfl (fun j hj => ups_ne _ _ (by omega)) (fun j hj => ups_ne _ _ (by omega))
      have go := ih (v + 1) _ _ rs' sk' hc (by clear ih p rs sk rs' sk'; grind) (by clear ih p rs sk rs' sk'; grind) (fu_nxt v16 h2) (fun k a c => by
        rw [ups_at, ups_at]
        by_cases y : k = v
        · subst y; rw [ups_at, ups_at]; exact ev
        · exact uu (p k a (by clear ih p rs sk rs' sk'; grind)) ev)
      rw [← e9] at go
      refine go.mono fun r s x => ⟨x.1, x.2.1, ⟨x.2.2.1.1, fun j h => (x.2.2.1.2 j h).trans (ups_ne _ _ (by omega))⟩, ⟨x.2.2.2.1, fun j h => (x.2.2.2.2 j h).trans (ups_ne _ _ (by omega))⟩⟩

theorem o_es {F G : Nat → Int32} {A B : Nat → Int32 → Int32} (i : In F G A B) (rs : Rs F G A B) (sk : Sk F G A B) (t0 : ¬ F 10 < 0) : Ok2 (en_emitStack F A) (en_emitStack G B) (Es F G A B) := by
  have e9 := rs.1
  have e2 := i.1 2 (by omega)
  have f2 := i.2.2.2.2
  have fr : ∀ (F : Nat → Int32) (A : Nat → Int32 → Int32), Frm F A (0, F, A) := fun F A => ⟨fun _ _ => rfl, fun _ _ => rfl⟩
  rw [een_emitStack, een_emitStack]
  refine Ok2.ite (by rw [e9, e2]) (fun q => Ok2.ite (by rw [e9]) (fun _ => ?_) fun _ => Ok2.ret ⟨rfl, rs, fr F A, fr G B⟩) fun _ => Ok2.ret ⟨rfl, rs, fr F A, fr G B⟩
  exact l_es t0 1000 0 A B rs sk (by rw [f2] at q; exact q) (by decide) (by decide) (by decide) (fun k a b => absurd b a)
theorem m6 {c k : Int32} (h : ¬ c < 0) (h1 : c < 6) (k0 : ¬ k < 0) (k1 : k < 6) : ¬ c * 16 + k < 0 ∧ c * 16 + k < 256 := by
  grind
theorem l_nt {F G : Nat → Int32} {A B : Nat → Int32 → Int32} (i : In F G A B) {c : Int32} (c0 : ¬ c < 0) (c1 : c < 6) : ∀ (n : Nat) (v : Int32), ¬ v < 0 → (v < 6 → (6 : Int32).toInt < v.toInt + (n : Int)) → 0 < n → Ok2 (lp_nextTarget n 13 c v F A) (lp_nextTarget n 13 c v G B) (fun r s => r = s ∧ (r < 0 ∨ r < 6)) := by
  intro n
  induction n with
  | zero => exact fun v h0 h2 h3 => absurd h3 (by omega)
  | succ n ih =>
    intro v h0 h2 h3
    have e0 := i.1 0 (by omega)
    have f0 := i.2.2.2.1
    have a0 := i.2.1
    rw [lp_nextTarget_13, lp_nextTarget_13, ← e0, f0, ← a0]
    refine Ok2.ite Iff.rfl (fun q => Ok2.ite Iff.rfl (fun _ => Ok2.ift (m6 c0 c1 h0 q) (m6 c0 c1 h0 q) (Ok2.ite Iff.rfl (fun _ => ?_) fun _ => Ok2.ret ⟨rfl, Or.inr q⟩)) fun _ => Ok2.ret ⟨rfl, Or.inl (by decide)⟩) fun _ => Ok2.ret ⟨rfl, Or.inl (by decide)⟩
    have f := fu_nxt q (h2 q)
    refine ih (v + 1) (by clear ih h2; grind) (fun _ => f) ?_
    have z : (6 : Int32).toInt = 6 := by decide
    have y : (v + 1).toInt = v.toInt + 1 := succ_toInt q
    have w := h0
    rw [lt_i] at w q
    omega
theorem o_nt {F G : Nat → Int32} {A B : Nat → Int32 → Int32} (i : In F G A B) {c : Int32} (c0 : ¬ c < 0) (c1 : c < 6) (p : Int32) : Ok2 (en_nextTarget F A c p) (en_nextTarget G B c p) (fun r s => r = s ∧ (r < 0 ∨ r < 6)) := by
  rw [een_nextTarget, een_nextTarget]
  have z : (6 : Int32).toInt = 6 := by decide
  have z0 : (0 : Int32).toInt = 0 := by decide
  have w : ¬ (if p < 0 then 0 else p) < 0 := by grind
  refine l_nt i c0 c1 1000 _ w (fun _ => ?_) (by omega)
  rw [lt_i] at w; omega
theorem l_on {A B : Nat → Int32 → Int32} {t k : Int32} (h : ∀ j : Int32, ¬ j < 0 → ¬ k < j → A 6 j = B 6 j) : ∀ (n : Nat) (v : Int32), ¬ v < 0 → ¬ 16 < v → (16 : Int32).toInt < v.toInt + (n : Int) → Ok2 (lp_onStack n 2 t k v A) (lp_onStack n 2 t k v B) (fun r s => r = s) := by
  intro n
  induction n with
  | zero => exact fun v h0 h1 h2 => (fu_z h1 h2).elim
  | succ n ih =>
    intro v h0 h1 h2
    rw [lp_onStack_2, lp_onStack_2]
    refine Ok2.ite Iff.rfl (fun _ => Ok2.ret rfl) fun q => Ok2.ite Iff.rfl (fun w => Ok2.ift h0 h0 (Ok2.ite (by rw [h v h0 q]) (fun _ => Ok2.ret rfl) fun _ => ih (v + 1) (by clear ih h; grind) (by clear ih h; grind) (fu_nxt w h2))) fun _ => Ok2.ret rfl
theorem o_on {A B : Nat → Int32 → Int32} {t k : Int32} (h : ∀ j : Int32, ¬ j < 0 → ¬ k < j → A 6 j = B 6 j) : Ok2 (en_onStack A t k) (en_onStack B t k) (fun r s => r = s) := by
  rw [een_onStack, een_onStack]; exact l_on h 1000 0 (by decide) (by decide) (by decide)
def TT (F : Nat → Int32) (A : Nat → Int32 → Int32) : Int32 := (if (F 10) < (F 7) then (if (F 10) < (15 : Int32) then (if ((A 8) (F 10)) = 0 then (R_nextTarget F A ((A 6) (F 10)) ((A 7) (F 10))) else (-1 : Int32)) else (-1 : Int32)) else (-1 : Int32))
def OS (F : Nat → Int32) (A : Nat → Int32 → Int32) : Nat → Int32 → Int32 := ups A 7 (ups (A 7) (F 10) (TT F A + 1))
def PP (F : Nat → Int32) (A : Nat → Int32 → Int32) : Nat → Int32 → Int32 := (ups (ups (ups (OS F A) 6 (ups (A 6) ((F 10) + (1 : Int32)) (TT F A))) 7 (ups (ups (A 7) (F 10) (TT F A + (1 : Int32))) ((F 10) + (1 : Int32)) (0 : Int32))) 8 (ups (A 8) ((F 10) + (1 : Int32)) (nar .boolean (if (F 6) = 0 then (0 : Int32) else (if (R_onStack (OS F A) (TT F A) (F 10)) = 0 then (0 : Int32) else (1 : Int32))))))
theorem wf37 (n : Nat) (v2 : Int32) (F : Nat → Int32) (A : Nat → Int32 → Int32) : lp_walkFrom (n + 1) 37 v2 F A = (if v2 < (400 : Int32) then (if (F 10) < 0 then some ((1 : Int32), F, A) else (if ((F 10) < (F 7) → (F 10) < (15 : Int32) → (F 10) < (16 : Int32)) ∧ ((F 10) < (F 7) → (F 10) < (15 : Int32) → ((A 8) (F 10)) = 0 → (F 10) < (16 : Int32)) ∧ ((F 10) < (F 7) → (F 10) < (15 : Int32) → ((A 8) (F 10)) = 0 → (en_nextTarget F A ((A 6) (F 10)) ((A 7) (F 10))).isSome = true) then (if TT F A < 0 then lp_walkFrom n 37 (v2 + (1 : Int32)) (ups F 10 ((F 10) - (1 : Int32))) A else (if ((F 10) < (16 : Int32)) ∧ (¬ (F 6) = 0 → (en_onStack (OS F A) (TT F A) (F 10)).isSome = true) ∧ (¬ ((F 10) + (1 : Int32)) < 0) ∧ (((F 10) + (1 : Int32)) < (16 : Int32)) ∧ ((en_emitStack (ups F 10 ((F 10) + (1 : Int32))) (PP F A)).isSome = true) then (if (R_emitStack (ups F 10 ((F 10) + (1 : Int32))) (PP F A)).1 = 0 then some ((0 : Int32), (R_emitStack (ups F 10 ((F 10) + (1 : Int32))) (PP F A)).2.1, (R_emitStack (ups F 10 ((F 10) + (1 : Int32))) (PP F A)).2.2) else lp_walkFrom n 37 (v2 + (1 : Int32)) (R_emitStack (ups F 10 ((F 10) + (1 : Int32))) (PP F A)).2.1 (R_emitStack (ups F 10 ((F 10) + (1 : Int32))) (PP F A)).2.2) else none)) else none)) else some ((1 : Int32), F, A)) := lp_walkFrom_37 n v2 F A
theorem tt {F G : Nat → Int32} {A B : Nat → Int32 → Int32} (i : In F G A B) (sk : Sk F G A B) (t0 : ¬ F 10 < 0) : (en_nextTarget F A (A 6 (F 10)) (A 7 (F 10))).isSome = true ∧ (en_nextTarget G B (B 6 (G 10)) (B 7 (G 10))).isSome = true ∧ TT F A = TT G B ∧ (¬ TT F A < 0 → TT F A < 6 ∧ F 10 < 15) := by
  have z := sk.2.2.2 (F 10) t0 (irr _)
  have n := (o_nt i z.2.1 z.2.2 (A 7 (F 10))).R (eR_nextTarget F A _ _) (eR_nextTarget G B _ _)
  have e10 := sk.1
  have e7 := i.1 7 (by omega)
  refine ⟨n.1, ?_, ?_, ?_⟩
  · rw [← e10, ← z.1.1, ← z.1.2.1]; exact n.2.1
  · rw [TT, TT, ← e10, ← e7, ← z.1.1, ← z.1.2.1, ← z.1.2.2, n.2.2.1]
  · intro h
    rw [TT] at h ⊢
    by_cases a : F 10 < F 7
    · rw [if_pos a] at h ⊢
      by_cases b : F 10 < 15
      · rw [if_pos b] at h ⊢
        by_cases c : A 8 (F 10) = 0
        · rw [if_pos c] at h ⊢; exact ⟨n.2.2.2.resolve_left h, b⟩
        · rw [if_neg c] at h; exact absurd (by decide) h
      · rw [if_neg b] at h; exact absurd (by decide) h
    · rw [if_neg a] at h; exact absurd (by decide) h
abbrev Fr2 (F : Nat → Int32) (A : Nat → Int32 → Int32) (r : Int32 × (Nat → Int32) × (Nat → Int32 → Int32)) : Prop := (∀ k : Nat, k < 9 → r.2.1 k = F k) ∧ ∀ j : Nat, j < 2 → r.2.2 j = A j
abbrev Wp (F G : Nat → Int32) (A B : Nat → Int32 → Int32) (r s : Int32 × (Nat → Int32) × (Nat → Int32 → Int32)) : Prop := r.1 = s.1 ∧ Rs r.2.1 s.2.1 r.2.2 s.2.2 ∧ Fr2 F A r ∧ Fr2 G B s
theorem fr2_id (F : Nat → Int32) (A : Nat → Int32 → Int32) (x : Int32) : Fr2 F A (x, F, A) := ⟨fun _ _ => rfl, fun _ _ => rfl⟩
theorem fr2_tr {F F' : Nat → Int32} {A A' : Nat → Int32 → Int32} {r : Int32 × (Nat → Int32) × (Nat → Int32 → Int32)} (f : ∀ k : Nat, k < 9 → F' k = F k) (a : ∀ j : Nat, j < 2 → A' j = A j) (h : Fr2 F' A' r) : Fr2 F A r :=
  ⟨fun k hk => (h.1 k hk).trans (f k hk), fun j hj => (h.2 j hj).trans (a j hj)⟩
theorem sk_dn {F G : Nat → Int32} {A B : Nat → Int32 → Int32} (sk : Sk F G A B) (t0 : ¬ F 10 < 0) : Sk (ups F 10 (F 10 - 1)) (ups G 10 (G 10 - 1)) A B := by
  have e := sk.2.2.1
  refine ⟨by rw [ups_at, ups_at, sk.1], by rw [ups_at]; clear sk; grind, by rw [ups_at]; clear sk; grind, fun j a b => sk.2.2.2 j a ?_⟩
  rw [ups_at] at b; clear sk; grind
theorem PP_6 (F : Nat → Int32) (A : Nat → Int32 → Int32) : PP F A 6 = ups (A 6) (F 10 + 1) (TT F A) := by simp [PP, ups]
theorem PP_7 (F : Nat → Int32) (A : Nat → Int32 → Int32) : PP F A 7 = ups (ups (A 7) (F 10) (TT F A + 1)) (F 10 + 1) 0 := by simp [PP, ups]
theorem PP_8 (F : Nat → Int32) (A : Nat → Int32 → Int32) : PP F A 8 = ups (A 8) (F 10 + 1) (nar .boolean (if (F 6) = 0 then (0 : Int32) else (if (R_onStack (OS F A) (TT F A) (F 10)) = 0 then (0 : Int32) else (1 : Int32)))) := by simp [PP, ups]
theorem PP_j (F : Nat → Int32) (A : Nat → Int32 → Int32) (j : Nat) (h : j < 6) : PP F A j = A j := by
  rw [PP, OS, ups_ne _ _ (by omega), ups_ne _ _ (by omega), ups_ne _ _ (by omega), ups_ne _ _ (by omega)]
theorem OS_6 (F : Nat → Int32) (A : Nat → Int32 → Int32) : OS F A 6 = A 6 := by simp [OS, ups]
theorem up1 {c : Int32} (h : ¬ c < 0) (h1 : c < 15) : ¬ c + 1 < 0 ∧ c + 1 < 16 ∧ ¬ c + 1 < -1 := by grind
theorem up2 {c j : Int32} (h : ¬ c < 0) (h1 : c < 15) (q : ¬ c + 1 < j) (k : ¬ j = c + 1) : ¬ c < j := by grind
theorem o_osk {F G : Nat → Int32} {A B : Nat → Int32 → Int32} (i : In F G A B) (sk : Sk F G A B) (t0 : ¬ F 10 < 0) : (en_onStack (OS F A) (TT F A) (F 10)).isSome = true ∧ (en_onStack (OS G B) (TT G B) (G 10)).isSome = true ∧ R_onStack (OS F A) (TT F A) (F 10) = R_onStack (OS G B) (TT G B) (G 10) := by
  have t := tt i sk t0
  rw [← t.2.2.1, ← sk.1]
  exact (o_on (A := OS F A) (B := OS G B) (t := TT F A) (k := F 10) (fun j a b => by rw [OS_6, OS_6]; exact (sk.2.2.2 j a b).1.1)).R (eR_onStack _ _ _) (eR_onStack _ _ _)
theorem sk_up {F G : Nat → Int32} {A B : Nat → Int32 → Int32} (i : In F G A B) (sk : Sk F G A B) (t0 : ¬ F 10 < 0) (h : ¬ TT F A < 0) : Sk (ups F 10 (F 10 + 1)) (ups G 10 (G 10 + 1)) (PP F A) (PP G B) := by
  have t := tt i sk t0
  have o := o_osk i sk t0
  have u := t.2.2.2 h
  have e := up1 t0 u.2
  refine ⟨by rw [ups_at, ups_at, sk.1], by rw [ups_at]; exact e.2.2, by rw [ups_at]; exact e.2.1, fun j a b => ?_⟩
  rw [ups_at] at b
  simp only [PP_6, PP_7, PP_8]
  rw [← o.2.2, ← t.2.2.1, ← sk.1, ← i.1 6 (by omega)]
  by_cases k : j = F 10 + 1
  · subst k; simp only [ups_at]; exact ⟨⟨trivial, trivial, trivial⟩, h, u.1⟩
  · have z := sk.2.2.2 j a (up2 t0 u.2 b k)
    simp only [ups_ne _ _ k]
    exact ⟨⟨z.1.1, uu z.1.2.1 rfl, z.1.2.2⟩, z.2⟩
theorem l_wf : ∀ (n : Nat) (v : Int32) (F G : Nat → Int32) (A B : Nat → Int32 → Int32), In F G A B → Rs F G A B → Sk F G A B → ¬ v < 0 → ¬ 400 < v → (400 : Int32).toInt < v.toInt + (n : Int) → Ok2 (lp_walkFrom n 37 v F A) (lp_walkFrom n 37 v G B) (Wp F G A B) := by
  intro n
  induction n with
  | zero => exact fun v F G A B _ _ _ h0 h1 h2 => (fu_z h1 h2).elim
  | succ n ih =>
    intro v F G A B i rs sk h0 h1 h2
    rw [wf37, wf37]
    have e10 := sk.1
    refine Ok2.ite Iff.rfl (fun q => ?_) fun _ => Ok2.ret ⟨rfl, rs, fr2_id F A 1, fr2_id G B 1⟩
    refine Ok2.ite (by rw [e10]) (fun _ => Ok2.ret ⟨rfl, rs, fr2_id F A 1, fr2_id G B 1⟩) fun t0 => ?_
    have t := tt i sk t0
    have t16 := sk.2.2.1
    have v0 : ¬ v + 1 < 0 := by clear ih i rs sk t; grind
    have v1 : ¬ 400 < v + 1 := by clear ih i rs sk t; grind
    refine Ok2.ift ⟨fun _ _ => t16, fun _ _ _ => t16, fun _ _ _ => t.1⟩ ⟨fun _ _ => by rw [← e10]; exact t16, fun _ _ _ => by rw [← e10]; exact t16, fun _ _ _ => t.2.1⟩ ?_
    refine Ok2.ite (by rw [t.2.2.1]) (fun _ => ?_) fun tn => ?_
    · have g := ih (v + 1) (ups F 10 (F 10 - 1)) (ups G 10 (G 10 - 1)) A B (in_of i (fun k hk => ups_ne _ _ (by omega)) (fun k hk => ups_ne _ _ (by omega)) (fun _ _ => rfl) (fun _ _ => rfl)) (rs_of rs (ups_ne _ _ (by decide)) (ups_ne _ _ (by decide)) (fun _ _ _ => rfl) (fun _ _ _ => rfl)) (sk_dn sk t0) v0 v1 (fu_nxt q h2)
      exact g.mono fun r s x => ⟨x.1, x.2.1, fr2_tr (fun k hk => ups_ne _ _ (by omega)) (fun _ _ => rfl) x.2.2.1, fr2_tr (fun k hk => ups_ne _ _ (by omega)) (fun _ _ => rfl) x.2.2.2⟩
    · have o := o_osk i sk t0
      have u := t.2.2.2 tn
      have e := up1 t0 u.2
      have i' : In (ups F 10 (F 10 + 1)) (ups G 10 (G 10 + 1)) (PP F A) (PP G B) := in_of i (fun k hk => ups_ne _ _ (by omega)) (fun k hk => ups_ne _ _ (by omega)) (fun j hj => PP_j F A j (by omega)) (fun j hj => PP_j G B j (by omega))
      have rs' : Rs (ups F 10 (F 10 + 1)) (ups G 10 (G 10 + 1)) (PP F A) (PP G B) := rs_of rs (ups_ne _ _ (by decide)) (ups_ne _ _ (by decide)) (fun j _ hj => PP_j F A j (by omega)) (fun j _ hj => PP_j G B j (by omega))
      have sk' := sk_up i sk t0 tn
      have s := (o_es i' rs' sk' (by rw [ups_at]; exact e.1)).R (eR_emitStack _ _) (eR_emitStack _ _)
      have s1 := s.1
      have s2 := s.2.1
      have s3 : Es (ups F 10 (F 10 + 1)) (ups G 10 (G 10 + 1)) (PP F A) (PP G B) (R_emitStack (ups F 10 (F 10 + 1)) (PP F A)) (R_emitStack (ups G 10 (G 10 + 1)) (PP G B)) := s.2.2
      clear s
      generalize R_emitStack (ups F 10 (F 10 + 1)) (PP F A) = r at *
      generalize R_emitStack (ups G 10 (G 10 + 1)) (PP G B) = s at *
      obtain ⟨a1, a2, a3, a4⟩ := s3
      have fF : Fr2 F A r := ⟨fun k hk => (a3.1 k (by omega)).trans (ups_ne _ _ (by omega)), fun j hj => (a3.2 j (by omega)).trans (PP_j F A j (by omega))⟩
      have fG : Fr2 G B s := ⟨fun k hk => (a4.1 k (by omega)).trans (ups_ne _ _ (by omega)), fun j hj => (a4.2 j (by omega)).trans (PP_j G B j (by omega))⟩
      refine Ok2.ift ⟨t16, fun _ => o.1, e.1, e.2.1, s1⟩ ⟨by rw [← e10]; exact t16, fun _ => o.2.1, by rw [← e10]; exact e.1, by rw [← e10]; exact e.2.1, s2⟩ ?_
      refine Ok2.ite (by rw [a1]) (fun _ => Ok2.ret ⟨rfl, a2, fF, fG⟩) fun _ => ?_
      have g := ih (v + 1) r.2.1 s.2.1 r.2.2 s.2.2 (in_of i (fun k hk => fF.1 k (by omega)) (fun k hk => fG.1 k (by omega)) fF.2 fG.2) a2 (sk_of sk' (a3.1 10 (by decide)) (a4.1 10 (by decide)) (fun j hj => a3.2 j (by omega)) (fun j hj => a4.2 j (by omega))) v0 v1 (fu_nxt q h2)
      exact g.mono fun r' s' x => ⟨x.1, x.2.1, fr2_tr fF.1 fF.2 x.2.2.1, fr2_tr fG.1 fG.2 x.2.2.2⟩
theorem o_wf {F G : Nat → Int32} {A B : Nat → Int32 → Int32} (i : In F G A B) (rs : Rs F G A B) (p : Int32) (p0 : ¬ p < 0) (p1 : p < 6) : Ok2 (en_walkFrom F A p) (en_walkFrom G B p) (Wp F G A B) := by
  rw [een_walkFrom, een_walkFrom]
  have f6 : ∀ A : Nat → Int32 → Int32, ∀ j : Nat, j < 6 → (ups (ups (ups A 6 (ups (A 6) 0 p)) 7 (ups (A 7) 0 0)) 8 (ups (A 8) 0 0)) j = A j := fun A j hj => by
    rw [ups_ne _ _ (by omega), ups_ne _ _ (by omega), ups_ne _ _ (by omega)]
  have sk' : Sk (ups F 10 0) (ups G 10 0) (ups (ups (ups A 6 (ups (A 6) 0 p)) 7 (ups (A 7) 0 0)) 8 (ups (A 8) 0 0)) (ups (ups (ups B 6 (ups (B 6) 0 p)) 7 (ups (B 7) 0 0)) 8 (ups (B 8) 0 0)) := by
    refine ⟨by rw [ups_at, ups_at], by rw [ups_at]; decide, by rw [ups_at]; decide, fun j a b => ?_⟩
    rw [ups_at] at b
    have : j = 0 := by clear i rs f6; grind
    subst this
    simp [ups, p0, p1]
  have i' : In (ups F 10 0) (ups G 10 0) (ups (ups (ups A 6 (ups (A 6) 0 p)) 7 (ups (A 7) 0 0)) 8 (ups (A 8) 0 0)) (ups (ups (ups B 6 (ups (B 6) 0 p)) 7 (ups (B 7) 0 0)) 8 (ups (B 8) 0 0)) := in_of i (fun k hk => ups_ne _ _ (by omega)) (fun k hk => ups_ne _ _ (by omega)) (fun j hj => f6 A j (by omega)) (fun j hj => f6 B j (by omega))
  have rs' : Rs (ups F 10 0) (ups G 10 0) (ups (ups (ups A 6 (ups (A 6) 0 p)) 7 (ups (A 7) 0 0)) 8 (ups (A 8) 0 0)) (ups (ups (ups B 6 (ups (B 6) 0 p)) 7 (ups (B 7) 0 0)) 8 (ups (B 8) 0 0)) := rs_of rs (ups_ne _ _ (by decide)) (ups_ne _ _ (by decide)) (fun j _ hj => f6 A j (by omega)) (fun j _ hj => f6 B j (by omega))
  have fa : ∀ j : Nat, j < 2 → (ups (ups (ups A 6 (ups (A 6) 0 p)) 7 (ups (A 7) 0 0)) 8 (ups (A 8) 0 0)) j = A j := fun j hj => f6 A j (by omega)
  have fb : ∀ j : Nat, j < 2 → (ups (ups (ups B 6 (ups (B 6) 0 p)) 7 (ups (B 7) 0 0)) 8 (ups (B 8) 0 0)) j = B j := fun j hj => f6 B j (by omega)
  clear f6
  generalize ups (ups (ups A 6 (ups (A 6) 0 p)) 7 (ups (A 7) 0 0)) 8 (ups (A 8) 0 0) = A' at *
  generalize ups (ups (ups B 6 (ups (B 6) 0 p)) 7 (ups (B 7) 0 0)) 8 (ups (B 8) 0 0) = B' at *
  have s := (o_es i' rs' sk' (by rw [ups_at]; decide)).R (eR_emitStack _ _) (eR_emitStack _ _)
  have s1 := s.1
  have s2 := s.2.1
  have s3 : Es (ups F 10 0) (ups G 10 0) A' B' (R_emitStack (ups F 10 0) A') (R_emitStack (ups G 10 0) B') := s.2.2
  clear s
  generalize R_emitStack (ups F 10 0) A' = r at *
  generalize R_emitStack (ups G 10 0) B' = s at *
  obtain ⟨a1, a2, a3, a4⟩ := s3
  have fF : Fr2 F A r := ⟨fun k hk => (a3.1 k (by omega)).trans (ups_ne _ _ (by omega)), fun j hj => (a3.2 j (by omega)).trans (fa j hj)⟩
  have fG : Fr2 G B s := ⟨fun k hk => (a4.1 k (by omega)).trans (ups_ne _ _ (by omega)), fun j hj => (a4.2 j (by omega)).trans (fb j hj)⟩
  refine Ok2.ift s1 s2 (Ok2.ite (by rw [a1]) (fun _ => Ok2.ret ⟨rfl, a2, fF, fG⟩) fun _ => ?_)
  have g := l_wf 1000 0 r.2.1 s.2.1 r.2.2 s.2.2 (in_of i (fun k hk => fF.1 k (by omega)) (fun k hk => fG.1 k (by omega)) fF.2 fG.2) a2 (sk_of sk' (a3.1 10 (by decide)) (a4.1 10 (by decide)) (fun j hj => a3.2 j (by omega)) (fun j hj => a4.2 j (by omega))) (by decide) (by decide) (by decide)
  exact g.mono fun r' s' x => ⟨x.1, x.2.1, fr2_tr fF.1 fF.2 x.2.2.1, fr2_tr fG.1 fG.2 x.2.2.2⟩
theorem l_df : ∀ (n : Nat) (v : Int32) (F G : Nat → Int32) (A B : Nat → Int32 → Int32), In F G A B → Rs F G A B → ¬ v < 0 → ¬ 6 < v → (6 : Int32).toInt < v.toInt + (n : Int) → Ok2 (lp_runDepthFirstAll n 2 v F A) (lp_runDepthFirstAll n 2 v G B) (Wp F G A B) := by
  intro n
  induction n with
  | zero => exact fun v F G A B _ _ h0 h1 h2 => (fu_z h1 h2).elim
  | succ n ih =>
    intro v F G A B i rs h0 h1 h2
    have e0 := i.1 0 (by omega)
    have f0 := i.2.2.2.1
    have a1 := i.2.2.1
    rw [lp_runDepthFirstAll_2, lp_runDepthFirstAll_2, ← e0, f0, ← a1]
    refine Ok2.ite Iff.rfl (fun q => Ok2.ite Iff.rfl (fun _ => Ok2.ift h0 h0 ?_) fun _ => Ok2.ret ⟨rfl, rs, fr2_id F A 1, fr2_id G B 1⟩) fun _ => Ok2.ret ⟨rfl, rs, fr2_id F A 1, fr2_id G B 1⟩
    have v0 : ¬ v + 1 < 0 := by clear ih i rs a1; grind
    have v1 : ¬ 6 < v + 1 := by clear ih i rs a1; grind
    refine Ok2.ite Iff.rfl (fun _ => ih (v + 1) F G A B i rs v0 v1 (fu_nxt q h2)) fun _ => ?_
    have s := (o_wf i rs v h0 q).R (eR_walkFrom _ _ _) (eR_walkFrom _ _ _)
    have s1 := s.1
    have s2 := s.2.1
    have s3 : Wp F G A B (R_walkFrom F A v) (R_walkFrom G B v) := s.2.2
    clear s
    generalize R_walkFrom F A v = r at *
    generalize R_walkFrom G B v = s at *
    obtain ⟨x1, x2, fF, fG⟩ := s3
    refine Ok2.ift s1 s2 (Ok2.ite (by rw [x1]) (fun _ => Ok2.ret ⟨rfl, x2, fF, fG⟩) fun _ => ?_)
    exact (ih (v + 1) r.2.1 s.2.1 r.2.2 s.2.2 (in_of i (fun k hk => fF.1 k (by omega)) (fun k hk => fG.1 k (by omega)) fF.2 fG.2) x2 v0 v1 (fu_nxt q h2)).mono fun r' s' x => ⟨x.1, x.2.1, fr2_tr fF.1 fF.2 x.2.2.1, fr2_tr fG.1 fG.2 x.2.2.2⟩
theorem o_df {F G : Nat → Int32} {A B : Nat → Int32 → Int32} (i : In F G A B) (rs : Rs F G A B) : Ok2 (en_runDepthFirstAll F A) (en_runDepthFirstAll G B) (Wp F G A B) := by
  rw [een_runDepthFirstAll, een_runDepthFirstAll]; exact l_df 1000 0 F G A B i rs (by decide) (by decide) (by decide)
abbrev Fd (A B : Nat → Int32 → Int32) : Prop := ∀ j : Int32, ¬ j < 0 → j < 16 → A 9 j = B 9 j
theorem fd_of {A B C D : Nat → Int32 → Int32} (h : Fd A B) (c : C 9 = A 9) (d : D 9 = B 9) : Fd C D := fun j a b => by rw [c, d]; exact h j a b
theorem ar16 {c : Int32} (h : ¬ c < 0) (h1 : c < 24) : ¬ c * 16 < 0 ∧ c * 16 < 1024 := by grind
theorem o_ar {F G : Nat → Int32} {A B : Nat → Int32 → Int32} (i : In F G A B) (rs : Rs F G A B) (p : Int32) (p0 : ¬ p < 0) (p1 : p < 6) : Ok2 (en_appendRoot F A p) (en_appendRoot G B p) (Es F G A B) := by
  have e9 := rs.1
  have e2 := i.1 2 (by omega)
  have f2 := i.2.2.2.2
  have fr : ∀ (F : Nat → Int32) (A : Nat → Int32 → Int32), Frm F A (0, F, A) := fun F A => ⟨fun _ _ => rfl, fun _ _ => rfl⟩
  rw [een_appendRoot, een_appendRoot]
  refine Ok2.ite (by rw [e9, e2]) (fun q => Ok2.ite (by rw [e9]) (fun _ => ?_) fun _ => Ok2.ret ⟨rfl, rs, fr F A, fr G B⟩) fun _ => Ok2.ret ⟨rfl, rs, fr F A, fr G B⟩
  rw [f2] at q
  have b := ar16 rs.2.1 q
  refine Ok2.ift ⟨b.1, b.2, rs.2.1⟩ (by rw [← e9]; exact ⟨b.1, b.2, rs.2.1⟩) (Ok2.ret ⟨rfl, ?_, ?_, ?_⟩)
  · have y : Rs (ups F 9 (F 9 + 1)) (ups G 9 (G 9 + 1)) (st (ups A 5 (ups (A 5) (F 9 * 16) p)) (F 9) p 0 0) (st (ups B 5 (ups (B 5) (F 9 * 16) p)) (G 9) p 0 0) := by
      refine rs_st (F := F) (G := G) (rs5 rs _ rfl) q (ups_at _ _ _) (ups_at _ _ _) rfl rfl rfl ⟨p0, p1, by decide, by decide⟩ fun k a b => ?_
      have : k = 0 := by clear i rs fr; grind
      subst this
      rw [ups_at, ups_at, Int32.add_zero, ups_at, ups_at]
    rw [← e9] at y ⊢; exact y
  · exact frm9 F A _ 1 _ (fun j h => (st_j (ups A 5 (ups (A 5) (F 9 * 16) p)) _ _ _ _ j (by omega)).trans (ups_ne _ _ (by omega)))
  · exact frm9 G B _ 1 _ (fun j h => (st_j (ups B 5 (ups (B 5) (G 9 * 16) p)) _ _ _ _ j (by omega)).trans (ups_ne _ _ (by omega)))
theorem l_pc {A B : Nat → Int32 → Int32} {h t : Int32} (h0' : ¬ h < 0) (h1' : h < 24) (r : Rw A B h) : ∀ (n : Nat) (v : Int32), ¬ v < 0 → ¬ 16 < v → (16 : Int32).toInt < v.toInt + (n : Int) → Ok2 (lp_pathContains n 16 t (A 3 h) (h * 16) v A) (lp_pathContains n 16 t (A 3 h) (h * 16) v B) (fun r s => r = s) := by
  intro n
  induction n with
  | zero => exact fun v h0 h1 h2 => (fu_z h1 h2).elim
  | succ n ih =>
    intro v h0 h1 h2
    rw [lp_pathContains_16, lp_pathContains_16]
    refine Ok2.ite Iff.rfl (fun _ => Ok2.ret rfl) fun q => Ok2.ite Iff.rfl (fun w => ?_) fun _ => Ok2.ret rfl
    exact Ok2.ift (m16 h0' h1' h0 w) (m16 h0' h1' h0 w) (Ok2.ite (by rw [r.2.2 v h0 q]) (fun _ => Ok2.ret rfl) fun _ => ih (v + 1) (by clear ih r; grind) (by clear ih r; grind) (fu_nxt w h2))
theorem r24 {c h : Int32} (a : h < c) (b : ¬ 24 < c) : h < 24 ∧ h < 64 := by grind
theorem o_pc {A B : Nat → Int32 → Int32} {h t : Int32} (h0 : ¬ h < 0) (h1 : h < 24) (h2 : h < 64) (r : Rw A B h) : Ok2 (en_pathContains A h t) (en_pathContains B h t) (fun r s => r = s) := by
  rw [een_pathContains, een_pathContains, ← r.1.2.1]; exact Ok2.ift ⟨h0, h2⟩ ⟨h0, h2⟩ (l_pc h0 h1 r 1000 0 (by decide) (by decide) (by decide))
abbrev Ec (F G : Nat → Int32) (A B : Nat → Int32 → Int32) (r s : Int32 × (Nat → Int32) × (Nat → Int32 → Int32)) : Prop := Es F G A B r s ∧ ¬ r.2.1 9 < F 9
theorem ge1 {c : Int32} (h : ¬ c < 0) (h1 : c < 24) : ¬ c + 1 < c := by grind
theorem l_ac {F G : Nat → Int32} {h t cy : Int32} (h0' : ¬ h < 0) (h1' : h < F 9) (t0 : ¬ t < 0) (t1 : t < 6) : ∀ (n : Nat) (v : Int32) (A B : Nat → Int32 → Int32) (d : Int32), Rs F G A B → A 3 h = d → ¬ d < 0 → d < 15 → F 9 < 24 → ¬ v < 0 → ¬ 16 < v → (16 : Int32).toInt < v.toInt + (n : Int) → (∀ k : Int32, ¬ k < 0 → k < v → A 5 (F 9 * 16 + k) = B 5 (F 9 * 16 + k)) → Ok2 (lp_appendChild n 57 t cy d (h * 16) (F 9 * 16) v F A) (lp_appendChild n 57 t cy d (h * 16) (G 9 * 16) v G B) (Ec F G A B) := by
  intro n
  induction n with
  | zero => exact fun v A B d _ _ _ _ _ h0 h1 h2 => (fu_z h1 h2).elim
  | succ n ih =>
    intro v A B d rs hd d0 d1 hc h0 h1 h2 p
    rw [lp_appendChild_57, lp_appendChild_57]
    have e9 := rs.1
    have c0 := rs.2.1
    have rh := rs.2.2.2 h h0' h1'
    have h24 := r24 h1' rs.2.2.1
    refine Ok2.ite Iff.rfl (fun q => ?_) fun q => ?_
    · have c64 : F 9 < 64 := by clear ih p rs rh; grind
      have u := up1 d0 d1
      have b := m16 c0 hc u.1 u.2.1
      rw [← Int32.add_assoc] at b
      refine Ok2.ift ⟨b.1, b.2, c0, c64⟩ (by rw [← e9]; exact ⟨b.1, b.2, c0, c64⟩) (Ok2.ret ⟨⟨rfl, ?_, ?_, ?_⟩, ?_⟩)
      · have y : Rs (ups F 9 (F 9 + 1)) (ups G 9 (G 9 + 1)) (st (ups A 5 (ups (A 5) (F 9 * 16 + d + 1) t)) (F 9) t (d + 1) (nar .boolean cy)) (st (ups B 5 (ups (B 5) (F 9 * 16 + d + 1) t)) (G 9) t (d + 1) (nar .boolean cy)) := by
          refine rs_st (F := F) (G := G) (rs5 rs _ rfl) hc (ups_at _ _ _) (ups_at _ _ _) rfl rfl rfl ⟨t0, t1, u.1, u.2.1⟩ fun k a b => ?_
          rw [ups_at, ups_at]
          by_cases w : k = d + 1
          · rw [w, ← Int32.add_assoc, ups_at, ups_at]
          · exact uu (p k a (by clear ih p rs rh; grind)) rfl
        rw [← e9] at y ⊢; exact y
      · exact frm9 F A _ 1 _ (fun j h => (st_j (ups A 5 (ups (A 5) (F 9 * 16 + d + 1) t)) _ _ _ _ j (by omega)).trans (ups_ne _ _ (by omega)))
      · exact frm9 G B _ 1 _ (fun j h => (st_j (ups B 5 (ups (B 5) (G 9 * 16 + d + 1) t)) _ _ _ _ j (by omega)).trans (ups_ne _ _ (by omega)))
      · dsimp only; rw [ups_at]; exact ge1 c0 hc
    · have v16 : v < 16 := by clear ih p rs rh; grind
      have b := m16 c0 hc h0 v16
      have b' := m16 h0' h24.1 h0 v16
      refine Ok2.ite Iff.rfl (fun _ => Ok2.ift ⟨b'.1, b'.2, b.1, b.2⟩ (by rw [← e9]; exact ⟨b'.1, b'.2, b.1, b.2⟩) ?_) fun z => absurd v16 z
      have ev : A 5 (h * 16 + v) = B 5 (h * 16 + v) := rh.2.2 v h0 (by rw [hd]; exact q)
      rw [← e9]
      have rs' := rs5 rs (F 9 * 16 + v) ev
      have go := ih (v + 1) _ _ d rs' (by rw [ups_ne _ _ (by decide)]; exact hd) d0 d1 hc (by clear ih p rs rs' rh; grind) (by clear ih p rs rs' rh; grind) (fu_nxt v16 h2) (fun k a c => by
        rw [ups_at, ups_at]
        by_cases y : k = v
        · subst y; rw [ups_at, ups_at]; exact ev
        · exact uu (p k a (by clear ih p rs rs' rh; grind)) ev)
      rw [← e9] at go
      exact go.mono fun r s x => ⟨⟨x.1.1, x.1.2.1, ⟨x.1.2.2.1.1, fun j h => (x.1.2.2.1.2 j h).trans (ups_ne _ _ (by omega))⟩, ⟨x.1.2.2.2.1, fun j h => (x.1.2.2.2.2 j h).trans (ups_ne _ _ (by omega))⟩⟩, x.2⟩
theorem o_ac {F G : Nat → Int32} {A B : Nat → Int32 → Int32} (i : In F G A B) (rs : Rs F G A B) {h t cy : Int32} (h0 : ¬ h < 0) (h1 : h < F 9) (t0 : ¬ t < 0) (t1 : t < 6) : Ok2 (en_appendChild F A h t cy) (en_appendChild G B h t cy) (Ec F G A B) := by
  have e9 := rs.1
  have e2 := i.1 2 (by omega)
  have f2 := i.2.2.2.2
  have rh := rs.2.2.2 h h0 h1
  have h24 := r24 h1 rs.2.2.1
  have fr : Ec F G A B (0, F, A) (0, G, B) := ⟨⟨rfl, rs, ⟨fun _ _ => rfl, fun _ _ => rfl⟩, ⟨fun _ _ => rfl, fun _ _ => rfl⟩⟩, irr _⟩
  rw [een_appendChild, een_appendChild, ← rh.1.2.1]
  refine Ok2.ite (by rw [e9, e2]) (fun q => Ok2.ite (by rw [e9]) (fun _ => Ok2.ift ⟨h0, h24.2⟩ ⟨h0, h24.2⟩ (Ok2.ite Iff.rfl (fun d1 => ?_) fun _ => Ok2.ret fr)) fun _ => Ok2.ret fr) fun _ => Ok2.ret fr
  exact l_ac h0 h1 t0 t1 1000 0 A B _ rs rfl rh.2.1.2.2.1 d1 (by rw [f2] at q; exact q) (by decide) (by decide) (by decide) (fun k a b => absurd b a)
def CY (F : Nat → Int32) (A : Nat → Int32 → Int32) (v2 v1 v4 : Int32) : Int32 := (if v2 = 0 then (if (F 6) = 0 then (0 : Int32) else (if (R_pathContains A v1 v4) = 0 then (0 : Int32) else (1 : Int32))) else (0 : Int32))
theorem xr10 (n : Nat) (v1 : Int32) (v2 : Int32) (v3 : Int32) (v4 : Int32) (F : Nat → Int32) (A : Nat → Int32 → Int32) : lp_expandRow (n + 1) 10 v1 v2 v3 v4 F A = (if v4 < (F 0) then (if v4 < (16 : Int32) then (if (¬ ((v3 * (16 : Int32)) + v4) < 0) ∧ (((v3 * (16 : Int32)) + v4) < (256 : Int32)) then (if ((A 0) ((v3 * (16 : Int32)) + v4)) = 0 then lp_expandRow n 10 v1 v2 v3 (v4 + (1 : Int32)) F A else (if v2 = 0 then (if (v2 = 0 → ¬ (F 6) = 0 → (en_pathContains A v1 v4).isSome = true) ∧ ((en_appendChild F A v1 v4 (CY F A v2 v1 v4)).isSome = true) then (if (R_appendChild F A v1 v4 (CY F A v2 v1 v4)).1 = 0 then some ((0 : Int32), (R_appendChild F A v1 v4 (CY F A v2 v1 v4)).2.1, (R_appendChild F A v1 v4 (CY F A v2 v1 v4)).2.2) else lp_expandRow n 10 v1 v2 v3 (v4 + (1 : Int32)) (R_appendChild F A v1 v4 (CY F A v2 v1 v4)).2.1 (R_appendChild F A v1 v4 (CY F A v2 v1 v4)).2.2) else none) else (if (¬ v4 < 0) then (if ((A 9) v4) = 0 then (if (¬ v4 < 0) ∧ (v2 = 0 → ¬ (F 6) = 0 → (en_pathContains (ups A 9 (ups (A 9) v4 (1 : Int32))) v1 v4).isSome = true) ∧ ((en_appendChild F (ups A 9 (ups (A 9) v4 (1 : Int32))) v1 v4 (CY F (ups A 9 (ups (A 9) v4 (1 : Int32))) v2 v1 v4)).isSome = true) then (if (R_appendChild F (ups A 9 (ups (A 9) v4 (1 : Int32))) v1 v4 (CY F (ups A 9 (ups (A 9) v4 (1 : Int32))) v2 v1 v4)).1 = 0 then some ((0 : Int32), (R_appendChild F (ups A 9 (ups (A 9) v4 (1 : Int32))) v1 v4 (CY F (ups A 9 (ups (A 9) v4 (1 : Int32))) v2 v1 v4)).2.1, (R_appendChild F (ups A 9 (ups (A 9) v4 (1 : Int32))) v1 v4 (CY F (ups A 9 (ups (A 9) v4 (1 : Int32))) v2 v1 v4)).2.2) else lp_expandRow n 10 v1 v2 v3 (v4 + (1 : Int32)) (R_appendChild F (ups A 9 (ups (A 9) v4 (1 : Int32))) v1 v4 (CY F (ups A 9 (ups (A 9) v4 (1 : Int32))) v2 v1 v4)).2.1 (R_appendChild F (ups A 9 (ups (A 9) v4 (1 : Int32))) v1 v4 (CY F (ups A 9 (ups (A 9) v4 (1 : Int32))) v2 v1 v4)).2.2) else none) else lp_expandRow n 10 v1 v2 v3 (v4 + (1 : Int32)) F A) else none))) else none) else some ((1 : Int32), F, A)) else some ((1 : Int32), F, A)) := lp_expandRow_10 n v1 v2 v3 v4 F A
theorem cyE {F G : Nat → Int32} {A B : Nat → Int32 → Int32} (i : In F G A B) (rs : Rs F G A B) {h t d : Int32} (h0 : ¬ h < 0) (h1 : h < F 9) : (en_pathContains A h t).isSome = true ∧ (en_pathContains B h t).isSome = true ∧ CY F A d h t = CY G B d h t := by
  have h24 := r24 h1 rs.2.2.1
  have s := (o_pc (t := t) h0 h24.1 h24.2 (rs.2.2.2 h h0 h1)).R (eR_pathContains A h t) (eR_pathContains B h t)
  refine ⟨s.1, s.2.1, ?_⟩
  rw [CY, CY, s.2.2, i.1 6 (by omega)]
abbrev Xp (F G : Nat → Int32) (A B : Nat → Int32 → Int32) (r s : Int32 × (Nat → Int32) × (Nat → Int32 → Int32)) : Prop := Wp F G A B r s ∧ Fd r.2.2 s.2.2
theorem l_xr : ∀ (n : Nat) (v h d c : Int32) (F G : Nat → Int32) (A B : Nat → Int32 → Int32), In F G A B → Rs F G A B → Fd A B → ¬ h < 0 → h < F 9 → ¬ c < 0 → c < 6 → ¬ v < 0 → ¬ 6 < v → (6 : Int32).toInt < v.toInt + (n : Int) → Ok2 (lp_expandRow n 10 h d c v F A) (lp_expandRow n 10 h d c v G B) (Xp F G A B) := by
  intro n
  induction n with
  | zero => exact fun v h d c F G A B _ _ _ _ _ _ _ h0 h1 h2 => (fu_z h1 h2).elim
  | succ n ih =>
    intro v h d c F G A B i rs fd hh0 hh1 c0 c1 h0 h1 h2
    have e0 := i.1 0 (by omega)
    have f0 := i.2.2.2.1
    have a0 := i.2.1
    rw [xr10, xr10, ← e0, f0, ← a0]
    have rid : Xp F G A B (1, F, A) (1, G, B) := ⟨⟨rfl, rs, fr2_id F A 1, fr2_id G B 1⟩, fd⟩
    refine Ok2.ite Iff.rfl (fun q => Ok2.ite Iff.rfl (fun v16 => Ok2.ift (m6 c0 c1 h0 q) (m6 c0 c1 h0 q) ?_) fun _ => Ok2.ret rid) fun _ => Ok2.ret rid
    have v0 : ¬ v + 1 < 0 := by clear ih i rs a0 rid fd; grind
    have v1 : ¬ 6 < v + 1 := by clear ih i rs a0 rid fd; grind
    have fu := fu_nxt q h2
    have skip := ih (v + 1) h d c F G A B i rs fd hh0 hh1 c0 c1 v0 v1 fu
    have body : ∀ (A' B' : Nat → Int32 → Int32), In F G A' B' → Rs F G A' B' → Fd A' B' → (∀ j : Nat, j < 2 → A' j = A j) → (∀ j : Nat, j < 2 → B' j = B j) → (en_pathContains A' h v).isSome = true ∧ (en_pathContains B' h v).isSome = true ∧ (en_appendChild F A' h v (CY F A' d h v)).isSome = true ∧ (en_appendChild G B' h v (CY G B' d h v)).isSome = true ∧ Ok2 (if (R_appendChild F A' h v (CY F A' d h v)).1 = 0 then some ((0 : Int32), (R_appendChild F A' h v (CY F A' d h v)).2.1, (R_appendChild F A' h v (CY F A' d h v)).2.2) else lp_expandRow n 10 h d c (v + (1 : Int32)) (R_appendChild F A' h v (CY F A' d h v)).2.1 (R_appendChild F A' h v (CY F A' d h v)).2.2) (if (R_appendChild G B' h v (CY G B' d h v)).1 = 0 then some ((0 : Int32), (R_appendChild G B' h v (CY G B' d h v)).2.1, (R_appendChild G B' h v (CY G B' d h v)).2.2) else lp_expandRow n 10 h d c (v + (1 : Int32)) (R_appendChild G B' h v (CY G B' d h v)).2.1 (R_appendChild G B' h v (CY G B' d h v)).2.2) (Xp F G A B) := by
      intro A' B' i' rs' fd' fa fb
      have y := cyE (d := d) (t := v) i' rs' hh0 hh1
      rw [← y.2.2]
      have s := (o_ac (cy := CY F A' d h v) i' rs' hh0 hh1 h0 q).R (eR_appendChild _ _ _ _ _) (eR_appendChild _ _ _ _ _)
      refine ⟨y.1, y.2.1, s.1, s.2.1, ?_⟩
      have s3 : Ec F G A' B' (R_appendChild F A' h v (CY F A' d h v)) (R_appendChild G B' h v (CY F A' d h v)) := s.2.2
      clear s
      generalize R_appendChild F A' h v (CY F A' d h v) = r at *
      generalize R_appendChild G B' h v (CY F A' d h v) = s at *
      obtain ⟨⟨a1, a2, a3, a4⟩, a5⟩ := s3
      have fF : Fr2 F A r := ⟨fun k hk => a3.1 k (by omega), fun j hj => (a3.2 j (by omega)).trans (fa j hj)⟩
      have fG : Fr2 G B s := ⟨fun k hk => a4.1 k (by omega), fun j hj => (a4.2 j (by omega)).trans (fb j hj)⟩
      have fd2 : Fd r.2.2 s.2.2 := fd_of fd' (a3.2 9 (by omega)) (a4.2 9 (by omega))
      refine Ok2.ite (by rw [a1]) (fun _ => Ok2.ret ⟨⟨rfl, a2, fF, fG⟩, fd2⟩) fun _ => ?_
      have hh : h < r.2.1 9 := by clear ih i rs a0 rid fd skip i' rs' fd' fa fb y a1 a2 a3 a4 fF fG fd2; grind
      exact (ih (v + 1) h d c r.2.1 s.2.1 r.2.2 s.2.2 (in_of i (fun k hk => fF.1 k (by omega)) (fun k hk => fG.1 k (by omega)) fF.2 fG.2) a2 fd2 hh0 hh c0 c1 v0 v1 fu).mono fun r' s' x => ⟨⟨x.1.1, x.1.2.1, fr2_tr fF.1 fF.2 x.1.2.2.1, fr2_tr fG.1 fG.2 x.1.2.2.2⟩, x.2⟩
    refine Ok2.ite Iff.rfl (fun _ => skip) fun _ => Ok2.ite Iff.rfl (fun _ => ?_) fun _ => Ok2.ift h0 h0 (Ok2.ite (by rw [fd v h0 v16]) (fun _ => ?_) fun _ => skip)
    · obtain ⟨b1, b2, b3, b4, b5⟩ := body A B i rs fd (fun _ _ => rfl) (fun _ _ => rfl)
      exact Ok2.ift ⟨fun _ _ => b1, b3⟩ ⟨fun _ _ => b2, b4⟩ b5
    · obtain ⟨b1, b2, b3, b4, b5⟩ := body (ups A 9 (ups (A 9) v 1)) (ups B 9 (ups (B 9) v 1)) (in_of i (fun _ _ => rfl) (fun _ _ => rfl) (fun j hj => ups_ne _ _ (by omega)) (fun j hj => ups_ne _ _ (by omega))) (rs_of rs rfl rfl (fun j _ hj => ups_ne _ _ (by omega)) (fun j _ hj => ups_ne _ _ (by omega))) (fun j a b => by rw [ups_at, ups_at]; exact uu (fd j a b) rfl) (fun j hj => ups_ne _ _ (by omega)) (fun j hj => ups_ne _ _ (by omega))
      exact Ok2.ift ⟨h0, fun _ _ => b1, b3⟩ ⟨h0, fun _ _ => b2, b4⟩ b5
theorem o_xr {F G : Nat → Int32} {A B : Nat → Int32 → Int32} (i : In F G A B) (rs : Rs F G A B) (fd : Fd A B) {h d : Int32} (h0 : ¬ h < 0) (h1 : h < F 9) : Ok2 (en_expandRow F A h d) (en_expandRow G B h d) (Xp F G A B) := by
  have rh := rs.2.2.2 h h0 h1
  have h24 := r24 h1 rs.2.2.1
  rw [een_expandRow, een_expandRow, ← rh.1.1]
  exact Ok2.ift ⟨h0, h24.2⟩ ⟨h0, h24.2⟩ (l_xr 1000 0 h d _ F G A B i rs fd h0 h1 rh.2.1.1 rh.2.1.2.1 (by decide) (by decide) (by decide))
theorem l_r71 : ∀ (n : Nat) (v d : Int32) (F G : Nat → Int32) (A B : Nat → Int32 → Int32), In F G A B → Rs F G A B → Fd A B → ¬ v < 0 → ¬ 24 < v → (24 : Int32).toInt < v.toInt + (n : Int) → Ok2 (lp_runLevels n 71 d v F A) (lp_runLevels n 71 d v G B) (Wp F G A B) := by
  intro n
  induction n with
  | zero => exact fun v d F G A B _ _ _ h0 h1 h2 => (fu_z h1 h2).elim
  | succ n ih =>
    intro v d F G A B i rs fd h0 h1 h2
    rw [lp_runLevels_71, lp_runLevels_71, ← rs.1]
    have rid : Wp F G A B (1, F, A) (1, G, B) := ⟨rfl, rs, fr2_id F A 1, fr2_id G B 1⟩
    refine Ok2.ite Iff.rfl (fun q => Ok2.ite Iff.rfl (fun _ => Ok2.ift h0 h0 ?_) fun _ => Ok2.ret rid) fun _ => Ok2.ret rid
    have v24 := r24 q rs.2.2.1
    have rh := rs.2.2.2 v h0 q
    have v0 : ¬ v + 1 < 0 := by clear ih i rs rid fd rh; grind
    have v1 : ¬ 24 < v + 1 := by clear ih i rs rid fd rh; grind
    have fu := fu_nxt v24.1 h2
    have skip := ih (v + 1) d F G A B i rs fd v0 v1 fu
    refine Ok2.ite (by rw [rh.1.2.1, i.1 7 (by omega)]) (fun _ => Ok2.ift h0 h0 (Ok2.ite (by rw [rh.1.2.2]) (fun _ => ?_) fun _ => skip)) fun _ => skip
    have s := (o_xr (d := d) i rs fd h0 q).R (eR_expandRow _ _ _ _) (eR_expandRow _ _ _ _)
    have s1 := s.1
    have s2 := s.2.1
    have s3 : Xp F G A B (R_expandRow F A v d) (R_expandRow G B v d) := s.2.2
    clear s
    generalize R_expandRow F A v d = r at *
    generalize R_expandRow G B v d = s at *
    obtain ⟨⟨a1, a2, fF, fG⟩, fd2⟩ := s3
    refine Ok2.ift s1 s2 (Ok2.ite (by rw [a1]) (fun _ => Ok2.ret ⟨rfl, a2, fF, fG⟩) fun _ => ?_)
    exact (ih (v + 1) d r.2.1 s.2.1 r.2.2 s.2.2 (in_of i (fun k hk => fF.1 k (by omega)) (fun k hk => fG.1 k (by omega)) fF.2 fG.2) a2 fd2 v0 v1 fu).mono fun r' s' x => ⟨x.1, x.2.1, fr2_tr fF.1 fF.2 x.2.2.1, fr2_tr fG.1 fG.2 x.2.2.2⟩
theorem l_r23 : ∀ (n : Nat) (v d : Int32) (F G : Nat → Int32) (A B : Nat → Int32 → Int32), In F G A B → Rs F G A B → Fd A B → ¬ v < 0 → ¬ 6 < v → (60 : Int32).toInt < v.toInt + (n : Int) → Ok2 (lp_runLevels n 23 d v F A) (lp_runLevels n 23 d v G B) (Wp F G A B) := by
  intro n
  induction n with
  | zero => exact fun v d F G A B _ _ _ h0 h1 h2 => (fu_z (show ¬ (60 : Int32) < v by grind) h2).elim
  | succ n ih =>
    intro v d F G A B i rs fd h0 h1 h2
    have e0 := i.1 0 (by omega)
    have f0 := i.2.2.2.1
    have a1 := i.2.2.1
    have z6 : (6 : Int32).toInt = 6 := by decide
    have z60 : (60 : Int32).toInt = 60 := by decide
    have z24 : (24 : Int32).toInt = 24 := by decide
    have z0 : (0 : Int32).toInt = 0 := by decide
    have hv := h1
    rw [lt_i] at hv
    have done := l_r71 n 0 d F G A B i rs fd (by decide) (by decide) (by omega)
    rw [lp_runLevels_23, lp_runLevels_23, ← e0, f0, ← a1]
    refine Ok2.ite Iff.rfl (fun q => Ok2.ite Iff.rfl (fun v16 => Ok2.ift h0 h0 ?_) fun _ => done) fun _ => done
    have v0 : ¬ v + 1 < 0 := by clear ih i rs a1 done fd; grind
    have v1 : ¬ 6 < v + 1 := by clear ih i rs a1 done fd; grind
    have fu : (60 : Int32).toInt < (v + 1).toInt + (n : Int) := fu_nxt (by clear ih i rs a1 done fd; grind) h2
    refine Ok2.ite Iff.rfl (fun _ => ih (v + 1) d F G A B i rs fd v0 v1 fu) fun _ => ?_
    have fa : ∀ (A : Nat → Int32 → Int32) (j : Nat), ¬ j = 9 → ups A 9 (ups (A 9) v 1) j = A j := fun A j hj => ups_ne _ _ hj
    have fd' : Fd (ups A 9 (ups (A 9) v 1)) (ups B 9 (ups (B 9) v 1)) := fun j a b => by rw [ups_at, ups_at]; exact uu (fd j a b) rfl
    have fA := fa A
    have fB := fa B
    clear fa
    generalize ups A 9 (ups (A 9) v 1) = A' at *
    generalize ups B 9 (ups (B 9) v 1) = B' at *
    have i' : In F G A' B' := in_of i (fun _ _ => rfl) (fun _ _ => rfl) (fun j hj => fA j (by omega)) (fun j hj => fB j (by omega))
    have rs' : Rs F G A' B' := rs_of rs rfl rfl (fun j _ hj => fA j (by omega)) (fun j _ hj => fB j (by omega))
    have s := (o_ar i' rs' v h0 q).R (eR_appendRoot _ _ _) (eR_appendRoot _ _ _)
    have s1 := s.1
    have s2 := s.2.1
    have s3 : Es F G A' B' (R_appendRoot F A' v) (R_appendRoot G B' v) := s.2.2
    clear s
    generalize R_appendRoot F A' v = r at *
    generalize R_appendRoot G B' v = s at *
    obtain ⟨b1, b2, b3, b4⟩ := s3
    have fF : Fr2 F A r := ⟨fun k hk => b3.1 k (by omega), fun j hj => (b3.2 j (by omega)).trans (fA j (by omega))⟩
    have fG : Fr2 G B s := ⟨fun k hk => b4.1 k (by omega), fun j hj => (b4.2 j (by omega)).trans (fB j (by omega))⟩
    refine Ok2.ift ⟨h0, s1⟩ ⟨h0, s2⟩ (Ok2.ite (by rw [b1]) (fun _ => Ok2.ret ⟨rfl, b2, fF, fG⟩) fun _ => ?_)
    exact (ih (v + 1) d r.2.1 s.2.1 r.2.2 s.2.2 (in_of i (fun k hk => fF.1 k (by omega)) (fun k hk => fG.1 k (by omega)) fF.2 fG.2) b2 (fd_of fd' (b3.2 9 (by omega)) (b4.2 9 (by omega))) v0 v1 fu).mono fun r' s' x => ⟨x.1, x.2.1, fr2_tr fF.1 fF.2 x.2.2.1, fr2_tr fG.1 fG.2 x.2.2.2⟩
theorem l_r2 {F G : Nat → Int32} : ∀ (n : Nat) (v d : Int32) (A B : Nat → Int32 → Int32), In F G A B → Rs F G A B → (∀ j : Int32, ¬ j < 0 → j < v → A 9 j = B 9 j) → ¬ v < 0 → ¬ 16 < v → (100 : Int32).toInt < v.toInt + (n : Int) → Ok2 (lp_runLevels n 2 d v F A) (lp_runLevels n 2 d v G B) (Wp F G A B) := by
  intro n
  induction n with
  | zero => exact fun v d A B _ _ _ h0 h1 h2 => (fu_z (show ¬ (100 : Int32) < v by grind) h2).elim
  | succ n ih =>
    intro v d A B i rs fd h0 h1 h2
    rw [lp_runLevels_2, lp_runLevels_2]
    refine Ok2.ite Iff.rfl (fun q => Ok2.ift h0 h0 ?_) fun q => ?_
    · have v0 : ¬ v + 1 < 0 := by clear ih i rs fd; grind
      have v1 : ¬ 16 < v + 1 := by clear ih i rs fd; grind
      have fu : (100 : Int32).toInt < (v + 1).toInt + (n : Int) := fu_nxt (by clear ih i rs fd; grind) h2
      refine (ih (v + 1) d _ _ (in_of i (fun _ _ => rfl) (fun _ _ => rfl) (fun j hj => ups_ne _ _ (by omega)) (fun j hj => ups_ne _ _ (by omega))) (rs_of rs rfl rfl (fun j _ hj => ups_ne _ _ (by omega)) (fun j _ hj => ups_ne _ _ (by omega))) (fun j a b => ?_) v0 v1 fu).mono fun r s x => ⟨x.1, x.2.1, fr2_tr (fun _ _ => rfl) (fun j hj => ups_ne _ _ (by omega)) x.2.2.1, fr2_tr (fun _ _ => rfl) (fun j hj => ups_ne _ _ (by omega)) x.2.2.2⟩
      rw [ups_at, ups_at]
      by_cases y : j = v
      · subst y; rw [ups_at, ups_at]
      · exact uu (fd j a (by clear ih i rs fd; grind)) rfl
    · have z16 : (16 : Int32).toInt = 16 := by decide
      have z60 : (60 : Int32).toInt = 60 := by decide
      have z100 : (100 : Int32).toInt = 100 := by decide
      have z0 : (0 : Int32).toInt = 0 := by decide
      have hv := h1
      rw [lt_i] at hv
      exact l_r23 n 0 d F G A B i rs (fun j a b => fd j a (by clear ih i rs fd; grind)) (by decide) (by decide) (by omega)
theorem o_rl {F G : Nat → Int32} {A B : Nat → Int32 → Int32} (i : In F G A B) (rs : Rs F G A B) (d : Int32) : Ok2 (en_runLevels F A d) (en_runLevels G B d) (Wp F G A B) := by
  rw [een_runLevels, een_runLevels]; exact l_r2 1000 0 d A B i rs (fun j a b => absurd b a) (by decide) (by decide) (by decide)
theorem l_pl {A B : Nat → Int32 → Int32} {a b : Int32} (a0 : ¬ a < 0) (a1 : a < 24) (b0 : ¬ b < 0) (b1 : b < 24) (ra : Rw A B a) (rb : Rw A B b) : ∀ (n : Nat) (v : Int32), ¬ v < 0 → ¬ 16 < v → (16 : Int32).toInt < v.toInt + (n : Int) → Ok2 (lp_pathLess n 18 a b (A 3 a) (A 3 b) v A) (lp_pathLess n 18 a b (A 3 a) (A 3 b) v B) (fun r s => r = s) := by
  intro n
  induction n with
  | zero => exact fun v h0 h1 h2 => (fu_z h1 h2).elim
  | succ n ih =>
    intro v h0 h1 h2
    rw [lp_pathLess_18, lp_pathLess_18]
    refine Ok2.ite Iff.rfl (fun _ => Ok2.ret rfl) fun q => Ok2.ite Iff.rfl (fun _ => Ok2.ret rfl) fun q' => Ok2.ite Iff.rfl (fun w => ?_) fun _ => Ok2.ret rfl
    have x := m16 a0 a1 h0 w
    have y := m16 b0 b1 h0 w
    have e1 := ra.2.2 v h0 q
    have e2 := rb.2.2 v h0 q'
    refine Ok2.ift ⟨x.1, x.2, y.1, y.2⟩ ⟨x.1, x.2, y.1, y.2⟩ (Ok2.ite (by rw [e1, e2]) (fun _ => ih (v + 1) (by clear ih ra rb; grind) (by clear ih ra rb; grind) (fu_nxt w h2)) fun _ => Ok2.ret ?_)
    rw [e1, e2]
theorem o_pl {A B : Nat → Int32 → Int32} {a b : Int32} (a0 : ¬ a < 0) (a1 : a < 24) (b0 : ¬ b < 0) (b1 : b < 24) (ra : Rw A B a) (rb : Rw A B b) : Ok2 (en_pathLess A a b) (en_pathLess B a b) (fun r s => r = s) := by
  rw [een_pathLess, een_pathLess, ← ra.1.2.1, ← rb.1.2.1]
  have a2 : a < 64 := by grind
  have b2 : b < 64 := by grind
  exact Ok2.ift ⟨a0, a2, b0, b2⟩ ⟨a0, a2, b0, b2⟩ (l_pl a0 a1 b0 b1 ra rb 1000 0 (by decide) (by decide) (by decide))
theorem inj16 {a b k m : Int32} (a0 : ¬ a < 0) (a1 : a < 24) (b0 : ¬ b < 0) (b1 : b < 24) (k0 : ¬ k < 0) (k1 : k < 16) (m0 : ¬ m < 0) (m1 : m < 16) (h : a * 16 + k = b * 16 + m) : a = b ∧ k = m := by
  grind
abbrev Sw (A : Nat → Int32 → Int32) (a b : Int32) (v : Int32) (C : Nat → Int32 → Int32) : Prop := ∀ i k : Int32, ¬ i < 0 → i < 24 → ¬ k < 0 → k < 16 → C 5 (i * 16 + k) = if k < v then (if i = a then A 5 (b * 16 + k) else if i = b then A 5 (a * 16 + k) else A 5 (i * 16 + k)) else A 5 (i * 16 + k)
theorem l_sw {a b : Int32} (ab : ¬ a = b) (a0 : ¬ a < 0) (a1 : a < 24) (b0 : ¬ b < 0) (b1 : b < 24) : ∀ (n : Nat) (v : Int32) (A C : Nat → Int32 → Int32), Sw A a b v C → ¬ v < 0 → ¬ 16 < v → (16 : Int32).toInt < v.toInt + (n : Int) → Ok (lp_swapRows n 85 a b v C) (fun r => Sw A a b 16 r.2 ∧ ∀ j : Nat, ¬ j = 5 → r.2 j = C j) := by
  intro n
  induction n with
  | zero => exact fun v A C _ h0 h1 h2 => (fu_z h1 h2).elim
  | succ n ih =>
    intro v A C h h0 h1 h2
    rw [lp_swapRows_85]
    refine Ok.ite (fun w => ?_) fun w => ?_
    · have x := m16 a0 a1 h0 w
      have y := m16 b0 b1 h0 w
      refine Ok.ift ⟨x.1, x.2, y.1, y.2⟩ ((ih (v + 1) A _ (fun i k i0 i1 k0 k1 => ?_) (by clear ih h; grind) (by clear ih h; grind) (fu_nxt w h2)).mono fun r p => ⟨p.1, fun j hj => (p.2 j hj).trans ((ups_ne _ _ hj).trans (ups_ne _ _ hj))⟩)
      rw [ups_at]
      have lv : k < v + 1 ↔ (k < v ∨ k = v) := by clear ih h; grind
      have ea := h a v a0 a1 h0 w
      have eb := h b v b0 b1 h0 w
      rw [if_neg (irr v)] at ea eb
      by_cases z : i * 16 + k = b * 16 + v
      · obtain ⟨z1, z2⟩ := inj16 i0 i1 b0 b1 k0 k1 h0 w z
        subst z1 z2
        rw [ups_at, if_pos (by rw [lv]; exact Or.inr rfl), if_neg (fun e => ab e.symm), if_pos rfl, ea]
      · rw [ups_ne _ _ z]
        by_cases z' : i * 16 + k = a * 16 + v
        · obtain ⟨z1, z2⟩ := inj16 i0 i1 a0 a1 k0 k1 h0 w z'
          subst z1 z2
          rw [ups_at, if_pos (by rw [lv]; exact Or.inr rfl), if_pos rfl, eb]
        · rw [ups_ne _ _ z', h i k i0 i1 k0 k1]
          by_cases kv : k = v
          · subst kv
            have na : ¬ i = a := fun e => z' (by rw [e])
            have nb : ¬ i = b := fun e => z (by rw [e])
            rw [if_neg (irr k), if_neg na, if_neg nb, ite_self]
          · simp only [lv, kv, or_false]
    · have : v = 16 := by clear ih h; grind
      subst this
      exact Ok.ret ⟨h, fun _ _ => rfl⟩
def sw3 (A : Nat → Int32 → Int32) (a b : Int32) : Nat → Int32 → Int32 := (ups (ups (ups (ups (ups (ups A 2 (ups (A 2) a ((A 2) b))) 2 (ups (ups (A 2) a ((A 2) b)) b ((A 2) a))) 3 (ups (A 3) a ((A 3) b))) 3 (ups (ups (A 3) a ((A 3) b)) b ((A 3) a))) 4 (ups (A 4) a (nar .boolean ((A 4) b)))) 4 (ups (ups (A 4) a (nar .boolean ((A 4) b))) b (nar .boolean ((A 4) a))))
theorem sw3_2 (A : Nat → Int32 → Int32) (a b : Int32) : sw3 A a b 2 = ups (ups (A 2) a (A 2 b)) b (A 2 a) := by simp [sw3, ups]
theorem sw3_3 (A : Nat → Int32 → Int32) (a b : Int32) : sw3 A a b 3 = ups (ups (A 3) a (A 3 b)) b (A 3 a) := by simp [sw3, ups]
theorem sw3_4 (A : Nat → Int32 → Int32) (a b : Int32) : sw3 A a b 4 = ups (ups (A 4) a (nar .boolean (A 4 b))) b (nar .boolean (A 4 a)) := by simp [sw3, ups]
theorem sw3_j (A : Nat → Int32 → Int32) (a b : Int32) (j : Nat) (h : j < 2 ∨ 4 < j) : sw3 A a b j = A j := by
  rw [sw3, ups_ne _ _ (by omega), ups_ne _ _ (by omega), ups_ne _ _ (by omega), ups_ne _ _ (by omega), ups_ne _ _ (by omega), ups_ne _ _ (by omega)]
theorem o_sw1 {a b : Int32} (ab : ¬ a = b) (a0 : ¬ a < 0) (a1 : a < 24) (b0 : ¬ b < 0) (b1 : b < 24) (A : Nat → Int32 → Int32) : Ok (en_swapRows A a b) (fun r => Sw A a b 16 r.2 ∧ ∀ j : Nat, ¬ j = 5 → r.2 j = sw3 A a b j) := by
  have a2 : a < 64 := by grind
  have b2 : b < 64 := by grind
  rw [een_swapRows]
  refine Ok.ift ⟨a0, a2, b0, b2⟩ (l_sw ab a0 a1 b0 b1 1000 0 A (sw3 A a b) (fun i k _ _ k0 _ => ?_) (by decide) (by decide) (by decide))
  rw [if_neg k0, sw3_j A a b 5 (by omega)]
theorem rw_sw {a b : Int32} (ab : ¬ a = b) (a0 : ¬ a < 0) (a1 : a < 24) (b0 : ¬ b < 0) (b1 : b < 24) {A B C D : Nat → Int32 → Int32} (ra : Rw A B a) (rb : Rw A B b) (hC : Sw A a b 16 C ∧ ∀ j : Nat, ¬ j = 5 → C j = sw3 A a b j) (hD : Sw B a b 16 D ∧ ∀ j : Nat, ¬ j = 5 → D j = sw3 B a b j) {i : Int32} (i0 : ¬ i < 0) (i1 : i < 24) (ri : Rw A B i) : Rw C D i := by
  simp only [Rw]
  rw [hC.2 2 (by omega), hC.2 3 (by omega), hC.2 4 (by omega), hD.2 2 (by omega), hD.2 3 (by omega), hD.2 4 (by omega)]
  simp only [sw3_2, sw3_3, sw3_4]
  have kk : ∀ (k d : Int32), d < 16 → ¬ d < k → k < 16 := by intro k d h h'; clear ra rb hC hD ri; grind
  by_cases e : i = b
  · subst e
    simp only [ups_at]
    refine ⟨⟨ra.1.1, ra.1.2.1, by rw [ra.1.2.2]⟩, ra.2.1, fun k k0 k1 => ?_⟩
    have k16 := kk k _ ra.2.1.2.2.2 k1
    rw [hC.1 i k i0 i1 k0 k16, hD.1 i k i0 i1 k0 k16, if_pos k16, if_pos k16, if_neg (show ¬ i = a from fun e => ab e.symm), if_neg (show ¬ i = a from fun e => ab e.symm), if_pos rfl, if_pos rfl]
    exact ra.2.2 k k0 k1
  · simp only [ups_ne _ _ e]
    by_cases e' : i = a
    · subst e'
      simp only [ups_at]
      refine ⟨⟨rb.1.1, rb.1.2.1, by rw [rb.1.2.2]⟩, rb.2.1, fun k k0 k1 => ?_⟩
      have k16 := kk k _ rb.2.1.2.2.2 k1
      rw [hC.1 i k i0 i1 k0 k16, hD.1 i k i0 i1 k0 k16, if_pos k16, if_pos k16, if_pos rfl, if_pos rfl]
      exact rb.2.2 k k0 k1
    · simp only [ups_ne _ _ e']
      refine ⟨ri.1, ri.2.1, fun k k0 k1 => ?_⟩
      have k16 := kk k _ ri.2.1.2.2.2 k1
      rw [hC.1 i k i0 i1 k0 k16, hD.1 i k i0 i1 k0 k16, if_pos k16, if_pos k16, if_neg e', if_neg e', if_neg e, if_neg e]
      exact ri.2.2 k k0 k1
abbrev Sp (F G : Nat → Int32) (A B : Nat → Int32 → Int32) (r s : Int32 × (Nat → Int32 → Int32)) : Prop := Rs F G r.2 s.2 ∧ (∀ j : Nat, j < 2 → r.2 j = A j) ∧ ∀ j : Nat, j < 2 → s.2 j = B j
theorem l_so {F G : Nat → Int32} : ∀ (n : Nat) (v w : Int32) (A B : Nat → Int32 → Int32), Rs F G A B → ¬ v < 0 → ¬ 24 < v →
    ((24 - v.toInt) * 30 + 2 ≤ (n : Int) → ¬ v < 1 → Ok2 (lp_sortRows n 2 v w F A) (lp_sortRows n 2 v w G B) (Sp F G A B)) ∧ (¬ w < 0 → ¬ v < w → v < F 9 → (24 - v.toInt) * 30 - 27 + w.toInt ≤ (n : Int) → Ok2 (lp_sortRows n 18 v w F A) (lp_sortRows n 18 v w G B) (Sp F G A B)) := by
  intro n
  have z24 : (24 : Int32).toInt = 24 := by decide
  have z0 : (0 : Int32).toInt = 0 := by decide
  have z1 : (1 : Int32).toInt = 1 := by decide
  induction n with
  | zero =>
    intro v w A B rs h0 h1
    refine ⟨fun h2 h3 => ?_, fun w0 w1 q h2 => ?_⟩
    · exfalso; rw [lt_i] at h0 h1; omega
    · exfalso
      have := (r24 q rs.2.2.1).1
      rw [lt_i] at h0 h1 w0 this; omega
  | succ n ih =>
    intro v w A B rs h0 h1
    refine ⟨fun h2 h3 => ?_, fun w0 w1 q h2 => ?_⟩
    · rw [lp_sortRows_2, lp_sortRows_2, ← rs.1]
      have rid : Sp F G A B (0, A) (0, B) := ⟨rs, fun _ _ => rfl, fun _ _ => rfl⟩
      refine Ok2.ite Iff.rfl (fun q => Ok2.ite Iff.rfl (fun _ => ?_) fun _ => Ok2.ret rid) fun _ => Ok2.ret rid
      have v24 := (r24 q rs.2.2.1).1
      refine (ih v v A B rs h0 h1).2 h0 (irr v) q ?_
      rw [lt_i] at v24; omega
    · have v24 := (r24 q rs.2.2.1).1
      have v24' := v24
      rw [lt_i] at v24'
      have nxt : Ok2 (lp_sortRows n 2 (v + 1) 0 F A) (lp_sortRows n 2 (v + 1) 0 G B) (Sp F G A B) := by
        refine (ih (v + 1) 0 A B rs (by clear ih rs; grind) (by clear ih rs; grind)).1 ?_ (by clear ih rs; grind)
        have := succ_toInt v24
        have w0' := w0
        rw [lt_i] at w0'
        rw [this]; omega
      rw [lp_sortRows_18, lp_sortRows_18]
      refine Ok2.ite Iff.rfl (fun p => ?_) fun _ => nxt
      have wF : w < F 9 := by clear ih rs nxt; grind
      have w24 : w < 24 := by clear ih rs nxt; grind
      have u0 : ¬ w - 1 < 0 := by clear ih rs nxt; grind
      have u1 : w - 1 < 24 := by clear ih rs nxt; grind
      have uF : w - 1 < F 9 := by clear ih rs nxt; grind
      have ab : ¬ w = w - 1 := by clear ih rs nxt; grind
      have ra := rs.2.2.2 w w0 wF
      have rb := rs.2.2.2 (w - 1) u0 uF
      have s := (o_pl w0 w24 u0 u1 ra rb).R (eR_pathLess _ _ _) (eR_pathLess _ _ _)
      refine Ok2.ift s.1 s.2.1 (Ok2.ite (by rw [s.2.2]) (fun _ => nxt) fun _ => ?_)
      have sA := (o_sw1 ab w0 w24 u0 u1 A).R (eR_swapRows A _ _)
      have sB := (o_sw1 ab w0 w24 u0 u1 B).R (eR_swapRows B _ _)
      have sA2 : Sw A w (w - 1) 16 (R_swapRows A w (w - 1)).2 ∧ ∀ j : Nat, ¬ j = 5 → (R_swapRows A w (w - 1)).2 j = sw3 A w (w - 1) j := sA.2
      have sB2 : Sw B w (w - 1) 16 (R_swapRows B w (w - 1)).2 ∧ ∀ j : Nat, ¬ j = 5 → (R_swapRows B w (w - 1)).2 j = sw3 B w (w - 1) j := sB.2
      refine Ok2.ift sA.1 sB.1 ?_
      generalize (R_swapRows A w (w - 1)).2 = C at *
      generalize (R_swapRows B w (w - 1)).2 = D at *
      have rs' : Rs F G C D := ⟨rs.1, rs.2.1, rs.2.2.1, fun i i0 i1 => rw_sw ab w0 w24 u0 u1 ra rb sA2 sB2 i0 (r24 i1 rs.2.2.1).1 (rs.2.2.2 i i0 i1)⟩
      have wt : (w + -1).toInt = w.toInt - 1 := by
        have p' := p
        rw [lt_i] at p'
        have := w.toInt_lt
        have zm : (-1 : Int32).toInt = -1 := by decide
        rw [add_toInt (by omega) (by omega), zm]; omega
      refine ((ih v (w + -1) C D rs' h0 h1).2 (by rw [lt_i] at p ⊢; omega) (by rw [lt_i] at w1 ⊢; omega) q (by omega)).mono fun r s x => ⟨x.1, fun j hj => (x.2.1 j hj).trans ((sA2.2 j (by omega)).trans (sw3_j A _ _ j (by omega))), fun j hj => (x.2.2 j hj).trans ((sB2.2 j (by omega)).trans (sw3_j B _ _ j (by omega)))⟩
theorem o_so {F G : Nat → Int32} {A B : Nat → Int32 → Int32} (rs : Rs F G A B) : Ok2 (en_sortRows F A) (en_sortRows G B) (Sp F G A B) := by
  rw [een_sortRows, een_sortRows]; exact (l_so 1000 1 0 A B rs (by decide) (by decide)).1 (by decide) (by decide)
abbrev V (F G : Nat → Int32) (A B : Nat → Int32 → Int32) (r s : Int32 × (Nat → Int32) × (Nat → Int32 → Int32)) : Prop := In r.2.1 s.2.1 r.2.2 s.2.2 ∧ Rs r.2.1 s.2.1 r.2.2 s.2.2 ∧ r.2.1 8 = s.2.1 8 ∧ ¬ r.2.1 8 = 0 ∧ ((∀ k : Nat, k < 8 → r.2.1 k = F k) ∧ ∀ j : Nat, j < 2 → r.2.2 j = A j) ∧ ((∀ k : Nat, k < 8 → s.2.1 k = G k) ∧ ∀ j : Nat, j < 2 → s.2.2 j = B j)
theorem v_bad {F G F' G' : Nat → Int32} {A B C D : Nat → Int32 → Int32} (i : In F G A B) (f : ∀ k : Nat, k < 8 → F' k = F k) (g : ∀ k : Nat, k < 8 → G' k = G k) (c : ∀ j : Nat, j < 2 → C j = A j) (d : ∀ j : Nat, j < 2 → D j = B j) (x y : Int32) : V F G A B (x, ups (ups F' 9 0) 8 2, C) (y, ups (ups G' 9 0) 8 2, D) := by
  have u : ∀ F' : Nat → Int32, ∀ k : Nat, k < 8 → ups (ups F' 9 (0 : Int32)) 8 2 k = F' k := fun F' k hk => (ups_ne _ _ (by omega)).trans (ups_ne _ _ (by omega))
  refine ⟨in_of i (fun k hk => (u F' k hk).trans (f k hk)) (fun k hk => (u G' k hk).trans (g k hk)) c d, ⟨?_, ?_, ?_, ?_⟩, ?_, ?_, ⟨fun k hk => (u F' k hk).trans (f k hk), c⟩, ⟨fun k hk => (u G' k hk).trans (g k hk), d⟩⟩
  · simp [ups]
  · simp [ups]
  · simp [ups]
  · intro j a b; simp [ups] at b; exact absurd b a
  · simp [ups]
  · simp [ups]
theorem v_ok {F G F' G' : Nat → Int32} {A B C D : Nat → Int32 → Int32} (i : In F G A B) (f : ∀ k : Nat, k < 8 → F' k = F k) (g : ∀ k : Nat, k < 8 → G' k = G k) (c : ∀ j : Nat, j < 2 → C j = A j) (d : ∀ j : Nat, j < 2 → D j = B j) (rs : Rs F' G' C D) (x y : Int32) : V F G A B (x, ups F' 8 1, C) (y, ups G' 8 1, D) := by
  have u : ∀ F' : Nat → Int32, ∀ k : Nat, k < 8 → ups F' 8 (1 : Int32) k = F' k := fun F' k hk => ups_ne _ _ (by omega)
  refine ⟨in_of i (fun k hk => (u F' k hk).trans (f k hk)) (fun k hk => (u G' k hk).trans (g k hk)) c d, rs_of rs (show ups F' 8 (1 : Int32) 9 = F' 9 from ups_ne _ _ (by decide)) (show ups G' 8 (1 : Int32) 9 = G' 9 from ups_ne _ _ (by decide)) (fun _ _ _ => rfl) (fun _ _ _ => rfl), ?_, ?_, ⟨fun k hk => (u F' k hk).trans (f k hk), c⟩, ⟨fun k hk => (u G' k hk).trans (g k hk), d⟩⟩
  · dsimp only; rw [ups_at, ups_at]
  · dsimp only; rw [ups_at]; decide
theorem o_run {F G : Nat → Int32} {A B : Nat → Int32 → Int32} (i : In F G A B) : Ok2 (en_run F A) (en_run G B) (V F G A B) := by
  have u : ∀ F : Nat → Int32, ∀ k : Nat, k < 9 → ups F 9 (0 : Int32) k = F k := fun F k hk => ups_ne _ _ (by omega)
  have i' : In (ups F 9 0) (ups G 9 0) A B := in_of i (fun k hk => u F k (by omega)) (fun k hk => u G k (by omega)) (fun _ _ => rfl) (fun _ _ => rfl)
  have rs' : Rs (ups F 9 0) (ups G 9 0) A B := ⟨by rw [ups_at, ups_at], by rw [ups_at]; decide, by rw [ups_at]; decide, fun j a b => by rw [ups_at] at b; exact absurd b a⟩
  have uF := u F
  have uG := u G
  clear u
  rw [een_run, een_run]
  generalize ups F 9 (0 : Int32) = F' at *
  generalize ups G 9 (0 : Int32) = G' at *
  refine Ok2.ite (by rw [i.1 4 (by omega)]) (fun _ => Ok2.ite (by rw [i.1 5 (by omega)]) (fun _ => ?_) fun _ => ?_) fun _ => ?_
  · have s := (o_df i' rs').R (eR_runDepthFirstAll _ _) (eR_runDepthFirstAll _ _)
    have s1 := s.1
    have s2 := s.2.1
    have s3 : Wp F' G' A B (R_runDepthFirstAll F' A) (R_runDepthFirstAll G' B) := s.2.2
    clear s
    generalize R_runDepthFirstAll F' A = r at *
    generalize R_runDepthFirstAll G' B = s at *
    obtain ⟨a1, a2, fF, fG⟩ := s3
    exact Ok2.ift s1 s2 (Ok2.ite (by rw [a1]) (fun _ => Ok2.ret (v_bad i (fun k hk => (fF.1 k (by omega)).trans (uF k (by omega))) (fun k hk => (fG.1 k (by omega)).trans (uG k (by omega))) fF.2 fG.2 _ _)) fun _ => Ok2.ret (v_ok i (fun k hk => (fF.1 k (by omega)).trans (uF k (by omega))) (fun k hk => (fG.1 k (by omega)).trans (uG k (by omega))) fF.2 fG.2 a2 _ _))
  · have s := (o_rl i' rs' 0).R (eR_runLevels _ _ _) (eR_runLevels _ _ _)
    have s1 := s.1
    have s2 := s.2.1
    have s3 : Wp F' G' A B (R_runLevels F' A 0) (R_runLevels G' B 0) := s.2.2
    clear s
    generalize R_runLevels F' A 0 = r at *
    generalize R_runLevels G' B 0 = s at *
    obtain ⟨a1, a2, fF, fG⟩ := s3
    exact Ok2.ift s1 s2 (Ok2.ite (by rw [a1]) (fun _ => Ok2.ret (v_bad i (fun k hk => (fF.1 k (by omega)).trans (uF k (by omega))) (fun k hk => (fG.1 k (by omega)).trans (uG k (by omega))) fF.2 fG.2 _ _)) fun _ => Ok2.ret (v_ok i (fun k hk => (fF.1 k (by omega)).trans (uF k (by omega))) (fun k hk => (fG.1 k (by omega)).trans (uG k (by omega))) fF.2 fG.2 a2 _ _))
  · have s := (o_rl i' rs' 1).R (eR_runLevels _ _ _) (eR_runLevels _ _ _)
    have s1 := s.1
    have s2 := s.2.1
    have s3 : Wp F' G' A B (R_runLevels F' A 1) (R_runLevels G' B 1) := s.2.2
    clear s
    generalize R_runLevels F' A 1 = r at *
    generalize R_runLevels G' B 1 = s at *
    obtain ⟨a1, a2, fF, fG⟩ := s3
    have kF : ∀ k : Nat, k < 8 → r.2.1 k = F k := fun k hk => (fF.1 k (by omega)).trans (uF k (by omega))
    have kG : ∀ k : Nat, k < 8 → s.2.1 k = G k := fun k hk => (fG.1 k (by omega)).trans (uG k (by omega))
    have bad : ∀ (C D : Nat → Int32 → Int32) (x y : Int32), (∀ j : Nat, j < 2 → C j = A j) → (∀ j : Nat, j < 2 → D j = B j) → V F G A B (x, ups (ups r.2.1 9 0) 8 2, C) (y, ups (ups s.2.1 9 0) 8 2, D) := fun C D x y c d => v_bad i kF kG c d x y
    have good : ∀ (C D : Nat → Int32 → Int32) (x y : Int32), (∀ j : Nat, j < 2 → C j = A j) → (∀ j : Nat, j < 2 → D j = B j) → Rs r.2.1 s.2.1 C D → V F G A B (x, ups r.2.1 8 1, C) (y, ups s.2.1 8 1, D) := fun C D x y c d e => v_ok i kF kG c d e x y
    have q := (o_so a2).R (eR_sortRows _ _) (eR_sortRows _ _)
    have q1 := q.1
    have q2 := q.2.1
    have q3 : Sp r.2.1 s.2.1 r.2.2 s.2.2 (R_sortRows r.2.1 r.2.2) (R_sortRows s.2.1 s.2.2) := q.2.2
    clear q
    generalize R_sortRows r.2.1 r.2.2 = X at *
    generalize R_sortRows s.2.1 s.2.2 = Y at *
    have e5 : r.2.1 5 = s.2.1 5 := by rw [kF 5 (by omega), kG 5 (by omega), i.1 5 (by omega)]
    have cX : ∀ j : Nat, j < 2 → X.2 j = A j := fun j hj => (q3.2.1 j hj).trans (fF.2 j hj)
    have cY : ∀ j : Nat, j < 2 → Y.2 j = B j := fun j hj => (q3.2.2 j hj).trans (fG.2 j hj)
    refine Ok2.ift s1 s2 (Ok2.ite (by rw [a1]) (fun _ => Ok2.ite (by rw [a1]) (fun _ => Ok2.ret (bad _ _ _ _ fF.2 fG.2)) fun _ => Ok2.ret (good _ _ _ _ fF.2 fG.2 a2)) fun _ => Ok2.ite (by rw [e5]) (fun _ => Ok2.ift q1 q2 (Ok2.ite (by rw [a1]) (fun _ => Ok2.ret (bad _ _ _ _ cX cY)) fun _ => Ok2.ret (good _ _ _ _ cX cY q3.1))) fun _ => Ok2.ite (by rw [a1]) (fun _ => Ok2.ret (bad _ _ _ _ fF.2 fG.2)) fun _ => Ok2.ret (good _ _ _ _ fF.2 fG.2 a2))
theorem n1 : nar .boolean (1 : Int32) = 1 := by decide
theorem n0 : nar .boolean (0 : Int32) = 0 := by decide
theorem inrg {F : Nat → Int32} {p : Int32} (f0 : F 0 = 6) (h : ¬ f_inRange F p = 0) : ¬ p < 0 ∧ p < 6 := by
  rw [e_inRange, f0] at h
  by_cases a : p < 0
  · rw [if_pos a] at h; exact absurd n0 h
  · rw [if_neg a] at h
    by_cases b : p < 6
    · exact ⟨a, b⟩
    · rw [if_neg b] at h; exact absurd n0 h
theorem vrow {F : Nat → Int32} {p : Int32} (h : ¬ f_validRow F p = 0) : ¬ p < 0 ∧ p < F 9 ∧ p < 64 := by
  rw [e_validRow] at h
  by_cases a : p < 0
  · rw [if_pos a] at h; exact absurd n0 h
  · rw [if_neg a] at h
    by_cases b : p < F 9
    · rw [if_pos b] at h
      by_cases c : p < 64
      · exact ⟨a, b, c⟩
      · rw [if_neg c] at h; exact absurd n0 h
    · rw [if_neg b] at h; exact absurd n0 h
theorem ir_eq {F G : Nat → Int32} {A B : Nat → Int32 → Int32} (i : In F G A B) (p : Int32) : f_inRange F p = f_inRange G p := by rw [e_inRange, e_inRange, i.1 0 (by omega)]
theorem vr_eq {F G : Nat → Int32} {A B : Nat → Int32 → Int32} (rs : Rs F G A B) (p : Int32) : f_validRow F p = f_validRow G p := by rw [e_validRow, e_validRow, rs.1]
theorem g_he {F G : Nat → Int32} {A B : Nat → Int32 → Int32} (i : In F G A B) (p q : Int32) : Ok2 (en_hasEdge F A p q) (en_hasEdge G B p q) (fun r s => r = s) := by
  rw [een_hasEdge, een_hasEdge, ← ir_eq i, ← ir_eq i, ← i.2.1]
  refine Ok2.ite Iff.rfl (fun _ => Ok2.ret rfl) fun a => Ok2.ite Iff.rfl (fun _ => Ok2.ret rfl) fun b => ?_
  have x := inrg i.2.2.2.1 a
  have y := inrg i.2.2.2.1 b
  have m := m6 x.1 x.2 y.1 y.2
  exact Ok2.ift m m (Ok2.ret rfl)
theorem l_cn {F G : Nat → Int32} {A B : Nat → Int32 → Int32} (rs : Rs F G A B) (p : Int32) : ∀ (n : Nat) (v c : Int32), ¬ v < 0 → ¬ 24 < v → (24 : Int32).toInt < v.toInt + (n : Int) → Ok2 (lp_countNode n 14 p c v F A) (lp_countNode n 14 p c v G B) (fun r s => r = s) := by
  intro n
  induction n with
  | zero => exact fun v c h0 h1 h2 => (fu_z h1 h2).elim
  | succ n ih =>
    intro v c h0 h1 h2
    rw [lp_countNode_14, lp_countNode_14, ← rs.1]
    refine Ok2.ite Iff.rfl (fun q => Ok2.ite Iff.rfl (fun _ => Ok2.ift h0 h0 ?_) fun _ => Ok2.ret rfl) fun _ => Ok2.ret rfl
    have v24 := (r24 q rs.2.2.1).1
    rw [(rs.2.2.2 v h0 q).1.1]
    exact ih (v + 1) _ (by clear ih rs; grind) (by clear ih rs; grind) (fu_nxt v24 h2)
theorem g_cn {F G : Nat → Int32} {A B : Nat → Int32 → Int32} (i : In F G A B) (rs : Rs F G A B) (p : Int32) : Ok2 (en_countNode F A p) (en_countNode G B p) (fun r s => r = s) := by
  rw [een_countNode, een_countNode, ← ir_eq i]
  exact Ok2.ite Iff.rfl (fun _ => Ok2.ret rfl) fun _ => l_cn rs p 1000 0 0 (by decide) (by decide) (by decide)
theorem lt16 {p : Int32} (h : p < 6) : p < 16 := by grind
theorem g_is {F G : Nat → Int32} {A B : Nat → Int32 → Int32} (i : In F G A B) (p : Int32) : Ok2 (en_isSeed F A p) (en_isSeed G B p) (fun r s => r = s) := by
  rw [een_isSeed, een_isSeed, ← ir_eq i, ← i.2.2.1]
  refine Ok2.ite Iff.rfl (fun _ => Ok2.ret rfl) fun a => ?_
  have x := inrg i.2.2.2.1 a
  exact Ok2.ift ⟨x.1, lt16 x.2⟩ ⟨x.1, lt16 x.2⟩ (Ok2.ret rfl)
theorem g_rn {F G : Nat → Int32} {A B : Nat → Int32 → Int32} (rs : Rs F G A B) (p : Int32) : Ok2 (en_rowNode F A p) (en_rowNode G B p) (fun r s => r = s) := by
  rw [een_rowNode, een_rowNode, ← vr_eq rs]
  refine Ok2.ite Iff.rfl (fun _ => Ok2.ret rfl) fun a => ?_
  have x := vrow a
  exact Ok2.ift ⟨x.1, x.2.2⟩ ⟨x.1, x.2.2⟩ (Ok2.ret (rs.2.2.2 p x.1 x.2.1).1.1)
theorem g_rd {F G : Nat → Int32} {A B : Nat → Int32 → Int32} (rs : Rs F G A B) (p : Int32) : Ok2 (en_rowDepth F A p) (en_rowDepth G B p) (fun r s => r = s) := by
  rw [een_rowDepth, een_rowDepth, ← vr_eq rs]
  refine Ok2.ite Iff.rfl (fun _ => Ok2.ret rfl) fun a => ?_
  have x := vrow a
  exact Ok2.ift ⟨x.1, x.2.2⟩ ⟨x.1, x.2.2⟩ (Ok2.ret (rs.2.2.2 p x.1 x.2.1).1.2.1)
theorem g_rc {F G : Nat → Int32} {A B : Nat → Int32 → Int32} (rs : Rs F G A B) (p : Int32) : Ok2 (en_rowIsCycle F A p) (en_rowIsCycle G B p) (fun r s => r = s) := by
  rw [een_rowIsCycle, een_rowIsCycle, ← vr_eq rs]
  refine Ok2.ite Iff.rfl (fun _ => Ok2.ret rfl) fun a => ?_
  have x := vrow a
  exact Ok2.ift ⟨x.1, x.2.2⟩ ⟨x.1, x.2.2⟩ (Ok2.ret (by rw [(rs.2.2.2 p x.1 x.2.1).1.2.2]))
theorem g_rp {F G : Nat → Int32} {A B : Nat → Int32 → Int32} (rs : Rs F G A B) (p k : Int32) : Ok2 (en_rowPathNode F A p k) (en_rowPathNode G B p k) (fun r s => r = s) := by
  rw [een_rowPathNode, een_rowPathNode, ← vr_eq rs]
  refine Ok2.ite Iff.rfl (fun _ => Ok2.ret rfl) fun a => Ok2.ite Iff.rfl (fun _ => Ok2.ret rfl) fun k0 => ?_
  have x := vrow a
  have rh := rs.2.2.2 p x.1 x.2.1
  have p24 := (r24 x.2.1 rs.2.2.1).1
  refine Ok2.ift ⟨x.1, x.2.2⟩ ⟨x.1, x.2.2⟩ (Ok2.ite (by rw [rh.1.2.1]) (fun _ => Ok2.ret rfl) fun q => Ok2.ite Iff.rfl (fun w => ?_) fun _ => Ok2.ret rfl)
  have m := m16 x.1 p24 k0 w
  exact Ok2.ift m m (Ok2.ret (rh.2.2 k k0 q))
theorem l_f124 {F G : Nat → Int32} {A B : Nat → Int32 → Int32} (rs : Rs F G A B) : ∀ (n : Nat) (v : Int32) (w : Int64), ¬ v < 0 → ¬ 400 < v → (400 : Int32).toInt < v.toInt + (n : Int) → Ok2 (lp_L_fp n 124 w v F A) (lp_L_fp n 124 w v G B) (fun r s => r = s) := by
  intro n
  induction n with
  | zero => exact fun v w h0 h1 h2 => (fu_z h1 h2).elim
  | succ n ih =>
    intro v w h0 h1 h2
    rw [lp_L_fp_124, lp_L_fp_124]
    refine Ok2.ite Iff.rfl (fun q => ?_) fun _ => Ok2.ret rfl
    have a := (g_rn rs (v >>> ((4 : Int32) &&& 31))).R (eR_rowNode _ _ _) (eR_rowNode _ _ _)
    have b := (g_rd rs (v >>> ((4 : Int32) &&& 31))).R (eR_rowDepth _ _ _) (eR_rowDepth _ _ _)
    have c := (g_rc rs (v >>> ((4 : Int32) &&& 31))).R (eR_rowIsCycle _ _ _) (eR_rowIsCycle _ _ _)
    have d := (g_rp rs (v >>> ((4 : Int32) &&& 31)) (v &&& 15)).R (eR_rowPathNode _ _ _ _) (eR_rowPathNode _ _ _ _)
    refine Ok2.ift ⟨fun _ => a.1, fun _ => b.1, fun _ => c.1, d.1⟩ ⟨fun _ => a.2.1, fun _ => b.2.1, fun _ => c.2.1, d.2.1⟩ ?_
    rw [a.2.2, b.2.2, c.2.2, d.2.2]
    exact ih (v + 1) _ (by clear ih rs a b c d; grind) (by clear ih rs a b c d; grind) (fu_nxt q h2)
theorem l_f75 {F G : Nat → Int32} {A B : Nat → Int32 → Int32} (i : In F G A B) (rs : Rs F G A B) : ∀ (n : Nat) (v : Int32) (w : Int64), ¬ v < 0 → ¬ 7 < v → (420 : Int32).toInt < v.toInt + (n : Int) → Ok2 (lp_L_fp n 75 w v F A) (lp_L_fp n 75 w v G B) (fun r s => r = s) := by
  intro n
  induction n with
  | zero => exact fun v w h0 h1 h2 => (fu_z (show ¬ (420 : Int32) < v by grind) h2).elim
  | succ n ih =>
    intro v w h0 h1 h2
    rw [lp_L_fp_75, lp_L_fp_75]
    refine Ok2.ite Iff.rfl (fun q => ?_) fun _ => ?_
    · have a := (g_cn i rs v).R (eR_countNode _ _ _) (eR_countNode _ _ _)
      have b := (g_is i v).R (eR_isSeed _ _ _) (eR_isSeed _ _ _)
      refine Ok2.ift ⟨a.1, b.1⟩ ⟨a.2.1, b.2.1⟩ ?_
      rw [a.2.2, b.2.2]
      exact ih (v + 1) _ (by clear ih i rs a b; grind) (by clear ih i rs a b; grind) (fu_nxt (by clear ih i rs a b; grind) h2)
    · have z7 : (7 : Int32).toInt = 7 := by decide
      have z400 : (400 : Int32).toInt = 400 := by decide
      have z420 : (420 : Int32).toInt = 420 := by decide
      have z0 : (0 : Int32).toInt = 0 := by decide
      rw [lt_i] at h1
      exact l_f124 rs n 0 w (by decide) (by decide) (by omega)
theorem l_f32 {F G : Nat → Int32} {A B : Nat → Int32 → Int32} (i : In F G A B) (rs : Rs F G A B) : ∀ (n : Nat) (v : Int32) (w : Int64), ¬ v < 0 → ¬ 49 < v → (500 : Int32).toInt < v.toInt + (n : Int) → Ok2 (lp_L_fp n 32 w v F A) (lp_L_fp n 32 w v G B) (fun r s => r = s) := by
  intro n
  induction n with
  | zero => exact fun v w h0 h1 h2 => (fu_z (show ¬ (500 : Int32) < v by grind) h2).elim
  | succ n ih =>
    intro v w h0 h1 h2
    rw [lp_L_fp_32, lp_L_fp_32]
    refine Ok2.ite Iff.rfl (fun q => ?_) fun _ => ?_
    · have a := (g_he i (v / 7) (v % 7)).R (eR_hasEdge _ _ _ _) (eR_hasEdge _ _ _ _)
      refine Ok2.ift a.1 a.2.1 ?_
      rw [a.2.2]
      exact ih (v + 1) _ (by clear ih i rs a; grind) (by clear ih i rs a; grind) (fu_nxt (by clear ih i rs a; grind) h2)
    · have z49 : (49 : Int32).toInt = 49 := by decide
      have z420 : (420 : Int32).toInt = 420 := by decide
      have z500 : (500 : Int32).toInt = 500 := by decide
      have z0 : (0 : Int32).toInt = 0 := by decide
      rw [lt_i] at h1
      exact l_f75 i rs n 0 w (by decide) (by decide) (by omega)
theorem o_fp {F G : Nat → Int32} {A B : Nat → Int32 → Int32} (i : In F G A B) (rs : Rs F G A B) (e8 : F 8 = G 8) : Ok2 (en_L_fp F A) (en_L_fp G B) (fun r s => r = s) := by
  rw [een_L_fp, een_L_fp, e_status, e_status, e_rowCount, e_rowCount, e_edgeCount, e_edgeCount, e8, rs.1, i.1 3 (by omega)]
  exact l_f32 i rs 1000 0 _ (by decide) (by decide) (by decide)
abbrev Mu (F : Nat → Int32) (A : Nat → Int32 → Int32) (x : Int32) (G : Nat → Int32) (B : Nat → Int32 → Int32) : Prop := (x < 0 ∧ G = F ∧ B = A) ∨ (x = 0 ∧ G 0 = F 0 ∧ G 2 = F 2 ∧ G 8 = 0 ∧ G 9 = 0)
theorem clr (F : Nat → Int32) (x : Int32) : F_clearResult (ups F 3 x) 0 = F 0 ∧ F_clearResult (ups F 3 x) 2 = F 2 ∧ F_clearResult (ups F 3 x) 8 = 0 ∧ F_clearResult (ups F 3 x) 9 = 0 :=
  ⟨(F_clearResult_0 _).trans (ups_ne _ _ (by decide)), (F_clearResult_2 _).trans (ups_ne _ _ (by decide)), F_clearResult_8 _, F_clearResult_9 _⟩
theorem mu_ae {F : Nat → Int32} (f0 : F 0 = 6) (A : Nat → Int32 → Int32) (p q : Int32) : Ok (en_addEdge F A p q) (fun r => Mu F A r.1 r.2.1 r.2.2) := by
  rw [een_addEdge]
  refine Ok.ite (fun _ => Ok.ret (Or.inl ⟨by dsimp only; decide, rfl, rfl⟩)) fun a => Ok.ite (fun _ => Ok.ret (Or.inl ⟨by dsimp only; decide, rfl, rfl⟩)) fun b => ?_
  have x := inrg f0 a
  have y := inrg f0 b
  have m := m6 x.1 x.2 y.1 y.2
  exact Ok.ift m (Ok.ite (fun _ => Ok.ite (fun _ => Ok.ift m (Ok.ret (Or.inr ⟨rfl, clr F (F 3 + 1)⟩))) fun _ => Ok.ret (Or.inl ⟨by dsimp only; decide, rfl, rfl⟩)) fun _ => Ok.ret (Or.inl ⟨by dsimp only; decide, rfl, rfl⟩))
theorem mu_re {F : Nat → Int32} (f0 : F 0 = 6) (A : Nat → Int32 → Int32) (p q : Int32) : Ok (en_removeEdge F A p q) (fun r => Mu F A r.1 r.2.1 r.2.2) := by
  rw [een_removeEdge]
  refine Ok.ite (fun _ => Ok.ret (Or.inl ⟨by dsimp only; decide, rfl, rfl⟩)) fun a => Ok.ite (fun _ => Ok.ret (Or.inl ⟨by dsimp only; decide, rfl, rfl⟩)) fun b => ?_
  have x := inrg f0 a
  have y := inrg f0 b
  have m := m6 x.1 x.2 y.1 y.2
  exact Ok.ift m (Ok.ite (fun _ => Ok.ret (Or.inl ⟨by dsimp only; decide, rfl, rfl⟩)) fun _ => Ok.ift m (Ok.ret (Or.inr ⟨rfl, clr F (F 3 - 1)⟩)))
theorem clr0 (F : Nat → Int32) : F_clearResult F 0 = F 0 ∧ F_clearResult F 2 = F 2 ∧ F_clearResult F 8 = 0 ∧ F_clearResult F 9 = 0 :=
  ⟨F_clearResult_0 _, F_clearResult_2 _, F_clearResult_8 _, F_clearResult_9 _⟩
theorem mu_as {F : Nat → Int32} (f0 : F 0 = 6) (A : Nat → Int32 → Int32) (p : Int32) : Ok (en_addSeed F A p) (fun r => Mu F A r.1 r.2.1 r.2.2) := by
  rw [een_addSeed]
  refine Ok.ite (fun _ => Ok.ret (Or.inl ⟨by dsimp only; decide, rfl, rfl⟩)) fun a => ?_
  have x := inrg f0 a
  exact Ok.ift ⟨x.1, lt16 x.2⟩ (Ok.ite (fun _ => Ok.ift ⟨x.1, lt16 x.2⟩ (Ok.ret (Or.inr ⟨rfl, clr0 F⟩))) fun _ => Ok.ret (Or.inl ⟨by dsimp only; decide, rfl, rfl⟩))
theorem mu_rs {F : Nat → Int32} (f0 : F 0 = 6) (A : Nat → Int32 → Int32) (p : Int32) : Ok (en_removeSeed F A p) (fun r => Mu F A r.1 r.2.1 r.2.2) := by
  rw [een_removeSeed]
  refine Ok.ite (fun _ => Ok.ret (Or.inl ⟨by dsimp only; decide, rfl, rfl⟩)) fun a => ?_
  have x := inrg f0 a
  exact Ok.ift ⟨x.1, lt16 x.2⟩ (Ok.ite (fun _ => Ok.ret (Or.inl ⟨by dsimp only; decide, rfl, rfl⟩)) fun _ => Ok.ift ⟨x.1, lt16 x.2⟩ (Ok.ret (Or.inr ⟨rfl, clr0 F⟩)))
theorem mu_sq (F : Nat → Int32) (A : Nat → Int32 → Int32) (a b c d : Int32) : Mu F A (f_setQuery a b c d) (F_setQuery F a b c d) A := by
  have no : ∀ x : Int32, x < 0 → Mu F A x F A := fun x h => Or.inl ⟨h, rfl, rfl⟩
  have yes : Mu F A 0 (F_clearResult (ups (ups (ups (ups F 4 a) 5 b) 6 (nar .boolean c)) 7 d)) A := by
    refine Or.inr ⟨rfl, ?_, ?_, F_clearResult_8 _, F_clearResult_9 _⟩
    · rw [F_clearResult_0]; simp [ups]
    · rw [F_clearResult_2]; simp [ups]
  rw [e_setQuery, eF_setQuery]
  generalize F_clearResult (ups (ups (ups (ups F 4 a) 5 b) 6 (nar .boolean c)) 7 d) = F' at *
  by_cases h1 : a = 0 <;> by_cases h2 : a = 1 <;> by_cases h3 : b = 0 <;> by_cases h4 : b = 1 <;> by_cases h5 : d < 0 <;> by_cases h6 : 15 < d <;> simp only [h1, h2, h3, h4, h5, h6, if_true, if_false, show ¬ (1 : Int32) = 0 from by decide, show ¬ (0 : Int32) = 1 from by decide] <;> first | exact yes | exact no _ (by decide)
abbrev J9 (F : Nat → Int32) (A : Nat → Int32 → Int32) : Prop := F 0 = 6 ∧ F 2 = 24 ∧ Rs F F A A ∧ (¬ F 8 = 0 → ∃ F0 A0 x, In F0 F A0 A ∧ en_run F0 A0 = some (x, F, A))
theorem in_self {F : Nat → Int32} {A : Nat → Int32 → Int32} (h : J9 F A) : In F F A A := ⟨fun _ _ => rfl, rfl, rfl, h.1, h.2.1⟩
theorem rs_self {F G : Nat → Int32} {A B : Nat → Int32 → Int32} (h : Rs F G A B) : Rs F F A A := ⟨rfl, h.2.1, h.2.2.1, fun i a b => by have := h.2.2.2 i a b; exact ⟨⟨rfl, rfl, rfl⟩, this.2.1, fun _ _ _ => rfl⟩⟩
theorem j_run {F : Nat → Int32} {A : Nat → Int32 → Int32} (h : J9 F A) : (en_run F A).isSome = true ∧ J9 (R_run F A).2.1 (R_run F A).2.2 := by
  have s := (o_run (in_self h)).R (eR_run F A) (eR_run F A)
  have s3 : V F F A A (R_run F A) (R_run F A) := s.2.2
  have er : en_run F A = some (R_run F A) := by
    have := s.1
    obtain ⟨r, hr⟩ := Option.isSome_iff_exists.mp this
    rw [r_of (eR_run F A) hr]; exact hr
  refine ⟨s.1, ?_⟩
  clear s
  generalize R_run F A = r at *
  obtain ⟨a1, a2, a3, a4, a5, a6⟩ := s3
  refine ⟨(a5.1 0 (by omega)).trans h.1, (a5.1 2 (by omega)).trans h.2.1, rs_self a2, fun _ => ⟨F, A, r.1, ?_, er⟩⟩
  exact ⟨fun k hk => (a5.1 k hk).symm, (a5.2 0 (by omega)).symm, (a5.2 1 (by omega)).symm, h.1, h.2.1⟩
theorem j_fp {F : Nat → Int32} {A : Nat → Int32 → Int32} (h : J9 F A) : (en_L_fp F A).isSome = true := ((o_fp (in_self h) h.2.2.1 rfl).R (eR_L_fp F A) (eR_L_fp F A)).1
theorem j_again {F : Nat → Int32} {A : Nat → Int32 → Int32} (h : J9 F A) (n : ¬ F 8 = 0) : R_L_fp (R_run F A).2.1 (R_run F A).2.2 = R_L_fp F A := by
  obtain ⟨F0, A0, x, i, er⟩ := h.2.2.2 n
  have s := (o_run i).R (eR_run F0 A0) (eR_run F A)
  have s3 : V F0 F A0 A (R_run F0 A0) (R_run F A) := s.2.2
  rw [r_of (eR_run F0 A0) er] at s3
  clear s
  generalize R_run F A = r at *
  obtain ⟨a1, a2, a3, a4, a5, a6⟩ := s3
  exact ((o_fp a1 a2 a3).R (eR_L_fp F A) (eR_L_fp r.2.1 r.2.2)).2.2.symm
theorem j_mu {F G : Nat → Int32} {A B : Nat → Int32 → Int32} {x : Int32} (h : J9 F A) (m : x = 0 ∧ G 0 = F 0 ∧ G 2 = F 2 ∧ G 8 = 0 ∧ G 9 = 0) : J9 G B := by
  obtain ⟨_, g0, g2, g8, g9⟩ := m
  exact ⟨g0.trans h.1, g2.trans h.2.1, ⟨rfl, by rw [g9]; decide, by rw [g9]; decide, fun i a b => by rw [g9] at b; exact absurd b a⟩, fun k => absurd g8 k⟩
theorem law9 (sl : Int32) (sv : Int32 → Int32) (hs : ¬ 260 < sl) : en_L_law sl sv = some 1 := by
  have main : ∀ (i : Int32) (s : (Nat → Int32) × (Nat → Int32 → Int32)), (¬ i < 0 ∧ ¬ 260 < i ∧ J9 s.1 s.2) → ∀ n : Nat, (265 - i.toInt) * 3 + 15 ≤ 5 * (n : Int) → lp_L_law n 16 sl sv i 0 0 0 s.1 s.2 = some 1 := by
    refine scan (fun i (s : (Nat → Int32) × (Nat → Int32 → Int32)) => ∀ n : Nat, (265 - i.toInt) * 3 + 15 ≤ 5 * (n : Int) → lp_L_law n 16 sl sv i 0 0 0 s.1 s.2 = some 1) (fun i s => ¬ i < 0 ∧ ¬ 260 < i ∧ J9 s.1 s.2) sl ?_
    rintro i ⟨F, A⟩ ⟨h0, h1, hI⟩ ih n hn
    dsimp only at hI hn ⊢
    have li := le_260 h1
    obtain ⟨k, rfl⟩ : ∃ k, n = k + 3 := ⟨n - 3, by omega⟩
    rw [lp_L_law_16]
    by_cases q : i + 4 < sl
    rotate_left
    · rw [if_neg q]
    have bd : (¬ i < 0) ∧ (i < sl) ∧ (¬ (i + (1 : Int32)) < 0) ∧ ((i + (1 : Int32)) < sl) ∧ (¬ (i + (2 : Int32)) < 0) ∧ ((i + (2 : Int32)) < sl) ∧ (¬ (i + (3 : Int32)) < 0) ∧ ((i + (3 : Int32)) < sl) ∧ (¬ (i + (4 : Int32)) < 0) := by
      clear ih hI
      refine ⟨h0, ?_, ?_, ?_, ?_, ?_, ?_, ?_, ?_⟩ <;> grind
    obtain ⟨d1, d2, d3, d4, d5, d6, d7, d8, d9⟩ := bd
    have fpS := j_fp hI
    rw [if_pos q, if_pos ⟨d1, d2, d3, d4, d5, d6, d7, d8, d9, fpS⟩, e_status]
    have a := advS (b := 4) (c := 5) 4 (by decide) (by decide) (by decide) h0 h1 hs q
    have e5 : (i + 5).toInt = i.toInt + 5 := adv i sl 5 5 (by decide) (by decide) h0 h1
    have go : ∀ (m : Nat) F A, k ≤ m → J9 F A → lp_L_law m 16 sl sv (i + 5) 0 0 0 F A = some 1 := by
      intro m F A hm h
      exact ih (i + 5) (F, A) a.1 a.2.1 ⟨a.2.2.1, a.2.2.2, h⟩ m (by omega)
    have mid : ∀ (x : Int32) (G : Nat → Int32) (B : Nat → Int32 → Int32), Mu F A x G B → lp_L_law (k + 2) 204 sl sv i (R_L_fp F A) (F 8) x G B = some 1 := by
      intro x G B m
      rw [lp_L_law_204]
      rcases m with ⟨m1, rfl, rfl⟩ | m
      · have nz : ¬ x = 0 := by clear ih hI fpS go; grind
        rw [if_neg nz, if_pos m1, if_pos fpS, if_pos (by rw [XT.cmpL]; simp)]
        by_cases z : G 8 = 0
        · rw [if_pos z]; exact go _ _ _ (by omega) hI
        · have r := j_run hI
          rw [if_neg z, if_pos r.1, lp_L_law_238, if_pos (j_fp r.2), j_again hI z, if_pos (by rw [XT.cmpL]; simp)]
          exact go _ _ _ (by omega) r.2
      · rw [if_pos m.1]; exact go _ _ _ (by omega) (j_mu hI m)
    by_cases c1 : 1 < sv i &&& 7
    rotate_left
    · rw [if_neg c1]
      have s := (mu_ae hI.1 A (((sv (i + (1 : Int32))) &&& (2147483647 : Int32)) % (7 : Int32)) (((sv (i + (2 : Int32))) &&& (2147483647 : Int32)) % (7 : Int32))).R (eR_addEdge _ _ _ _)
      rw [if_pos s.1]; exact mid _ _ _ s.2
    rw [if_pos c1]
    by_cases c2 : sv i &&& 7 = 2
    · rw [if_pos c2]
      have s := (mu_re hI.1 A (((sv (i + (1 : Int32))) &&& (2147483647 : Int32)) % (7 : Int32)) (((sv (i + (2 : Int32))) &&& (2147483647 : Int32)) % (7 : Int32))).R (eR_removeEdge _ _ _ _)
      rw [if_pos s.1]; exact mid _ _ _ s.2
    rw [if_neg c2]
    by_cases c3 : sv i &&& 7 = 3
    · rw [if_pos c3]
      have s := (mu_as hI.1 A (((sv (i + (1 : Int32))) &&& (2147483647 : Int32)) % (7 : Int32))).R (eR_addSeed _ _ _)
      rw [if_pos s.1]; exact mid _ _ _ s.2
    rw [if_neg c3]
    by_cases c4 : sv i &&& 7 = 4
    · rw [if_pos c4]
      have s := (mu_rs hI.1 A (((sv (i + (1 : Int32))) &&& (2147483647 : Int32)) % (7 : Int32))).R (eR_removeSeed _ _ _)
      rw [if_pos s.1]; exact mid _ _ _ s.2
    rw [if_neg c4]
    by_cases c5 : sv i &&& 7 = 5
    · rw [if_pos c5]; exact mid _ _ _ (mu_sq F A _ _ _ _)
    rw [if_neg c5]
    have r := j_run hI
    rw [if_pos r.1, lp_L_law_201, lp_L_law_204, if_pos rfl]
    exact go _ _ _ (by omega) r.2
  have hi : J9 (F_init 6 10 24) (fun _ _ => 0) := by
    refine ⟨?_, ?_, ⟨rfl, ?_, ?_, fun j a b => ?_⟩, fun h => absurd (F_init_8 6 10 24) h⟩
    · rw [F_init_0, e_clamp]; decide
    · rw [F_init_2, e_clamp]; decide
    · rw [F_init_9]; decide
    · rw [F_init_9]; decide
    · rw [F_init_9] at b; exact absurd b a
  rw [een_L_law, show (1000 : Nat) = 999 + 1 from rfl, lp_L_law_14]
  generalize F_init 6 10 24 = F at *
  exact main 0 (F, fun _ _ => 0) ⟨by decide, by decide, hi⟩ 999 (by decide)
theorem law_ok {l : Launch} {Z : State} {a0 : Array Value} (H : OK Z a0) (sl : Int32) (sv : Int32 → Int32) (q2 : ¬ sl < 0) (q3 : ¬ 260 < sl) : Wk l Z (MoL Z cdC "RecursiveCteL7" true) md_L_law 0 [.val (.ref 0), .unset, .unset, .unset, .unset, .unset, .unset, .unset, .unset, .unset, .unset, .unset] [] (sl, sv, []) 0 0 (fun v _ => v = some (.int (1 : Int32))) :=
  run_law H sl sv (law9 sl sv q3)
set_option maxRecDepth 65536 in
set_option maxHeartbeats 40000000 in
theorem comes_1 {Post : Tables → Env → Array Value → State → Outcome → State → Prop} (hpost : ∀ tb e args s v u, (limb_1_1.after args s (.returned v) u = true ∧ limb_1_2.after args s (.returned v) u = true ∧ True) → FrameEnd s (.returned v) u (Jvm.fieldLocs frame_1_writes args s ++ Jvm.arrayLocs frame_1_arrays args s ++ Jvm.staticLocs frame_1_statics s) room_1.cells room_1.slots → Post tb e args s (.returned v) u) :
    ArmFor flags0 classFile x code maxLocals ret World_1 tables_1 room_1 Calls_1 rest_1 Pre_1 Post := by
  intro l hfl _ _ p e ha hc hk s m args below hf hA hF happ hP
  obtain ⟨hcalls, hrest, hpre⟩ := hP
  obtain ⟨-, -, -, hnamed, -, -, -, hat⟩ := (Spec.applies_iff hf).mp happ
  obtain ⟨hg, hn⟩ := and_e (Cond.before_iff.mp (show (Jvm.Cond.and given_1 narrow_1).before args s = true from hpre))
  obtain ⟨h1, h2⟩ := and_e hg
  obtain ⟨w0, rfl⟩ : ∃ w0 : Value, args = #[w0] := by
    have hs : args.size = 1 := by simpa [Cond.value, given_1] using h1
    obtain ⟨L⟩ := args
    match L, hs with
    | [w0], _ => exact ⟨w0, rfl⟩
  have hw : OK s #[w0] := fun d (hd : d ∈ tables_1) => atoms_spec (ws := Jvm.Cond.code x code maxLocals ret :: tables_1) hat d (List.mem_cons_of_mem _ hd)
  obtain ⟨na, nl⟩ := and_e hn
  obtain ⟨sa, ea⟩ := arr_v na
  obtain rfl : w0 = .ref sa := Option.some.inj ea
  obtain ⟨-, hr2⟩ := and_e (Cond.before_iff.mp (show rest_1_c.before #[.ref sa] s = true from hrest))
  obtain ⟨sl, sv, q1, q2, q3, q4⟩ := script_at na hr2 nl
  have rel0 : relL s cdC true (s.heap.size, sa) (sl, sv, []) s.heap := ⟨fun _ => ⟨q1, q2, q4⟩, fun i x q => (by simp at q), (by simp)⟩
  obtain ⟨n, o, h1, h2, h3, v, L, rfl, ⟨w', hv, hrel, hfrm, N, hsz, hnr⟩, hq⟩ := (law_ok hw sl sv q2 q3).met (M := MoL s cdC "RecursiveCteL7" true) (l := l) pn_RecursiveCteL7 rfl (en := (s.heap.size, sa)) rel0 [.ref 0] rfl rfl tables_1 p e ha hc hk s m _ below hf ((Spec.applies_iff_loose hf).mp happ).1 ⟨rfl, State.Warmed39.refl s, rfl⟩ trivial
  subst hv
  exact ⟨n, _, h1, h2, h3, hpost _ _ _ _ _ _ ⟨Cond.after_iff.mpr rfl, Cond.after_iff.mpr (eq_i res_at (Term.int_eval (1)) rfl), trivial⟩ ⟨hq.1, hq.2.1, (hq.2.2.sift fun y hy => Or.inr (N y hy)).mono (Nat.le_refl _) (Nat.le_refl _)⟩⟩
theorem main_1_1 : Claimed_1_1 := comes_1 fun _ _ _ _ _ _ h hF => ⟨h.1, hF⟩
theorem main_1_2 : Claimed_1_2 := comes_1 fun _ _ _ _ _ _ h hF => ⟨h.2.1, hF⟩
end Jvm.Pilot.@@N@@
namespace Jvm.Pilot.@@N@@
open Jvm Jvm.ClassFile Sem Op Lib Jvm.Free Jvm.Stand Jvm.Pilot.@@N@@.Jvm.D
/-! MADE BY PROGRAM (witnessworld.py) out of the Statement's table words and the real class files: 11 classes; the members and pool entries that the words name. The judged class is class 1, her method 2. -/
namespace start1
open Jvm.ClassFile
def u (s : String) : CpInfo := .utf8 (stringToUtf16 s)
/-- a pool by its gaps: so many unusable entries, then the entry; so many at the end -/
def gap : Nat → List CpInfo → List CpInfo
  | 0, r => r
  | n + 1, r => .unusable :: gap n r
def poolList (es : List (Nat × CpInfo)) (last : Nat) : List CpInfo := es.foldr (fun e r => gap e.1 (e.2 :: r)) (gap last [])
def pool (es : List (Nat × CpInfo)) (last : Nat) : Array CpInfo := ⟨poolList es last⟩
def fileOf (pool : Array CpInfo) (this : Nat) (attrs : Array Attribute := #[]) (ms : Array MethodInfo := #[]) (fl : Nat := 33) (sup : Nat := 0) (ifs : Array Nat := #[]) (fds : Array FieldInfo := #[]) : ClassFile where
  minorVersion := 0
  majorVersion := 65
  constantPool := pool
  accessFlags := fl
  thisClass := this
  superClass := sup
  interfaces := ifs
  fields := fds
  methods := ms
  attributes := attrs
def plain (name : String) (sup : Option ClassId) : Class where
  name := name
  kind := .ordinary
  loader := none
  accessFlags := 33
  super := sup
  interfaces := #[]
  cf := none
  fields := #[]
  methods := #[]
  instanceTypes := #[]
  staticTypes := #[]
  resolved := #[]
  callSites := []
  init := .initialized
  statics := none
  mirror := none

def pool0 : Array CpInfo := pool [(5, u "<init>"), (0, u "()V"), (1, .class_ 10), (1, u "java/lang/Object")] 113

def k0c0 : Code := { maxStack := 0, maxLocals := 1, code := object_method_1_code, exceptionTable := #[], attributes := #[] }
def k0m0 : Method := { name := "<init>", desc := "()V", sig := { parameters := [], returnType := none }, accessFlags := 1, code := some k0c0 }
/-- java/lang/Object -/
def k0 : Class := { plain "java/lang/Object" none with
  accessFlags := 33
  interfaces := #[]
  cf := some (fileOf pool0 8 #[] #[{ accessFlags := 1, nameIndex := 5, descriptorIndex := 6, attributes := #[] }] 33 0 #[] #[])
  fields := #[]
  methods := #[k0m0]
  instanceTypes := #[]
  staticTypes := #[]
  resolved := Array.replicate 124 none
  statics := none }

def pool1 : Array CpInfo := pool [(2, .class_ 4), (1, u "java/lang/Object"), (0, u "<init>"), (0, u "()V"), (0, .methodref 8 9), (0, .class_ 10), (0, .nameAndType 11 12), (0, u "RecursiveCte"), (0, u "status"), (0, u "()I"), (0, .long 31), (1, .methodref 8 16), (0, .nameAndType 17 12), (0, u "rowCount"), (0, .methodref 8 19), (0, .nameAndType 20 12), (0, u "edgeCount"), (0, .methodref 8 22), (0, .nameAndType 23 24), (0, u "hasEdge"), (0, u "(II)Z"), (0, .long 2), (1, .methodref 8 28), (0, .nameAndType 29 30), (0, u "countNode"), (0, u "(I)I"), (0, .methodref 8 32), (0, .nameAndType 33 34), (0, u "isSeed"), (0, u "(I)Z"), (0, .methodref 8 36), (0, .nameAndType 37 30), (0, u "rowNode"), (0, .methodref 8 39), (0, .nameAndType 40 30), (0, u "rowDepth"), (0, .methodref 8 42), (0, .nameAndType 43 34), (0, u "rowIsCycle"), (0, .methodref 8 45), (0, .nameAndType 46 47), (0, u "rowPathNode"), (0, u "(II)I"), (0, .methodref 8 49), (0, .nameAndType 5 50), (0, u "(III)V"), (0, .integer 2147483647), (0, .methodref 53 54), (0, .class_ 55), (0, .nameAndType 56 57), (0, u "RecursiveCteL7"), (0, u "fp"), (0, u "(LRecursiveCte;)J"), (0, .methodref 8 59), (0, .nameAndType 60 47), (0, u "addEdge"), (0, .methodref 8 62), (0, .nameAndType 63 47), (0, u "removeEdge"), (0, .methodref 8 65), (0, .nameAndType 66 30), (0, u "addSeed"), (0, .methodref 8 68), (0, .nameAndType 69 30), (0, u "removeSeed"), (0, .methodref 8 71), (0, .nameAndType 72 73), (0, u "setQuery"), (0, u "(IIZI)I"), (0, .methodref 8 75), (0, .nameAndType 76 12), (0, u "run"), (3, u "law"), (0, u "([I)Z")] 4

def k1m0 : Method := { name := "<init>", desc := "()V", sig := { parameters := [], returnType := none }, accessFlags := 1, code := none }
def k1c1 : Code := { maxStack := 6, maxLocals := 6, code := method_2_code, exceptionTable := #[], attributes := #[] }
def k1m1 : Method := { name := "fp", desc := "(LRecursiveCte;)J", sig := { parameters := [(.object "RecursiveCte")], returnType := some .long }, accessFlags := 10, code := some k1c1 }
def k1c2 : Code := { maxStack := 6, maxLocals := 12, code := code, exceptionTable := #[], attributes := #[] }
def k1m2 : Method := { name := "law", desc := "([I)Z", sig := { parameters := [(.array .int)], returnType := some .boolean }, accessFlags := 9, code := some k1c2 }
/-- RecursiveCteL7 -/
def k1 : Class := { plain "RecursiveCteL7" (some 0) with
  accessFlags := 49
  interfaces := #[]
  cf := some (fileOf pool1 53 #[] #[{ accessFlags := 1, nameIndex := 5, descriptorIndex := 6, attributes := #[] }, { accessFlags := 10, nameIndex := 56, descriptorIndex := 57, attributes := #[] }, { accessFlags := 9, nameIndex := 80, descriptorIndex := 81, attributes := #[] }] 49 2 #[] #[])
  fields := #[]
  methods := #[k1m0, k1m1, k1m2]
  instanceTypes := #[]
  staticTypes := #[]
  resolved := Array.replicate 86 none
  statics := none }

def pool2 : Array CpInfo := pool [(1, .methodref 2 3), (0, .class_ 4), (0, .nameAndType 5 6), (0, u "java/lang/Object"), (0, u "<init>"), (0, u "()V"), (0, .fieldref 8 9), (0, .class_ 10), (0, .nameAndType 11 12), (0, u "RecursiveCte"), (0, u "adj"), (0, u "[Z"), (0, .fieldref 8 14), (0, .nameAndType 15 12), (0, u "seed"), (0, .fieldref 8 17), (0, .nameAndType 18 19), (0, u "rowNodeA"), (0, u "[I"), (0, .fieldref 8 21), (0, .nameAndType 22 19), (0, u "rowDepthA"), (0, .fieldref 8 24), (0, .nameAndType 25 12), (0, u "rowCycA"), (0, .fieldref 8 27), (0, .nameAndType 28 19), (0, u "rowPathA"), (0, .fieldref 8 30), (0, .nameAndType 31 19), (0, u "stkNode"), (0, .fieldref 8 33), (0, .nameAndType 34 19), (0, u "stkNext"), (0, .fieldref 8 36), (0, .nameAndType 37 12), (0, u "stkCyc"), (0, .fieldref 8 39), (0, .nameAndType 40 12), (0, u "found"), (0, .methodref 8 42), (0, .nameAndType 43 44), (0, u "clamp"), (0, u "(III)I"), (0, .fieldref 8 46), (0, .nameAndType 47 48), (0, u "maxNodes"), (0, u "I"), (0, .fieldref 8 50), (0, .nameAndType 51 48), (0, u "maxEdges"), (0, .fieldref 8 53), (0, .nameAndType 54 48), (0, u "rowLimit"), (0, .fieldref 8 56), (0, .nameAndType 57 48), (0, u "edges"), (0, .fieldref 8 59), (0, .nameAndType 60 48), (0, u "kind"), (0, .fieldref 8 62), (0, .nameAndType 63 48), (0, u "search"), (0, .fieldref 8 65), (0, .nameAndType 66 67), (0, u "cycle"), (0, u "Z"), (0, .fieldref 8 69), (0, .nameAndType 70 48), (0, u "maxDepth"), (0, .fieldref 8 72), (0, .nameAndType 73 48), (0, u "status"), (0, .fieldref 8 75), (0, .nameAndType 76 48), (0, u "count"), (0, .fieldref 8 78), (0, .nameAndType 79 48), (0, u "top"), (0, .methodref 8 81), (0, .nameAndType 82 83), (0, u "inRange"), (0, u "(I)Z"), (0, .methodref 8 85), (0, .nameAndType 86 6), (0, u "clearResult"), (0, .methodref 8 88), (0, .nameAndType 89 90), (0, u "runDepthFirstAll"), (0, u "()Z"), (0, .methodref 8 92), (0, .nameAndType 93 94), (0, u "runLevels"), (0, u "(Z)Z"), (0, .methodref 8 96), (0, .nameAndType 97 6), (0, u "sortRows"), (0, .methodref 8 99), (0, .nameAndType 100 83), (0, u "walkFrom"), (0, .methodref 8 102), (0, .nameAndType 103 90), (0, u "emitStack"), (0, .methodref 8 105), (0, .nameAndType 106 107), (0, u "nextTarget"), (0, u "(II)I"), (0, .methodref 8 109), (0, .nameAndType 110 111), (0, u "onStack"), (0, u "(II)Z"), (0, .methodref 8 113), (0, .nameAndType 114 83), (0, u "appendRoot"), (0, .methodref 8 116), (0, .nameAndType 117 118), (0, u "expandRow"), (0, u "(IZ)Z"), (0, .methodref 8 120), (0, .nameAndType 121 111), (0, u "pathContains"), (0, .methodref 8 123), (0, .nameAndType 124 125), (0, u "appendChild"), (0, u "(IIZ)Z"), (0, .methodref 8 127), (0, .nameAndType 128 111), (0, u "pathLess"), (0, .methodref 8 130), (0, .nameAndType 131 132), (0, u "swapRows"), (0, u "(II)V"), (0, .methodref 8 134), (0, .nameAndType 135 83), (0, u "validRow"), (0, u "OK"), (2, u "ERR_RANGE"), (1, u "ERR_DUPLICATE"), (1, u "ERR_ABSENT"), (1, u "ERR_FULL"), (1, u "ERR_ARG"), (1, u "RUN_TOO_MANY"), (1, u "UNION_ALL"), (0, u "UNION_DISTINCT"), (1, u "SEARCH_DEPTH_FIRST"), (0, u "SEARCH_BREADTH_FIRST"), (0, u "MAX_DEPTH_LIMIT"), (1, u "STATUS_NOT_RUN"), (0, u "STATUS_DONE"), (0, u "STATUS_TOO_MANY"), (1, u "(III)V"), (3, u "addEdge"), (0, u "removeEdge"), (0, u "addSeed"), (0, u "(I)I"), (0, u "removeSeed"), (0, u "setQuery"), (0, u "(IIZI)I"), (0, u "run"), (0, u "()I"), (0, u "rowCount"), (0, u "rowNode"), (0, u "rowDepth"), (0, u "rowIsCycle"), (0, u "rowPathNode"), (0, u "countNode"), (0, u "edgeCount"), (0, u "hasEdge"), (0, u "isSeed")] 2

def k2c0 : Code := { maxStack := 5, maxLocals := 4, code := prog_1_method_1_code, exceptionTable := #[], attributes := #[] }
def k2m0 : Method := { name := "<init>", desc := "(III)V", sig := { parameters := [.int, .int, .int], returnType := none }, accessFlags := 1, code := some k2c0 }
def k2c1 : Code := { maxStack := 2, maxLocals := 4, code := prog_1_method_2_code, exceptionTable := #[], attributes := #[] }
def k2m1 : Method := { name := "clamp", desc := "(III)I", sig := { parameters := [.int, .int, .int], returnType := some .int }, accessFlags := 2, code := some k2c1 }
def k2c2 : Code := { maxStack := 2, maxLocals := 2, code := prog_1_method_3_code, exceptionTable := #[], attributes := #[] }
def k2m2 : Method := { name := "inRange", desc := "(I)Z", sig := { parameters := [.int], returnType := some .boolean }, accessFlags := 2, code := some k2c2 }
def k2c3 : Code := { maxStack := 2, maxLocals := 1, code := prog_1_method_4_code, exceptionTable := #[], attributes := #[] }
def k2m3 : Method := { name := "clearResult", desc := "()V", sig := { parameters := [], returnType := none }, accessFlags := 2, code := some k2c3 }
def k2c4 : Code := { maxStack := 3, maxLocals := 3, code := prog_1_method_5_code, exceptionTable := #[], attributes := #[] }
def k2m4 : Method := { name := "addEdge", desc := "(II)I", sig := { parameters := [.int, .int], returnType := some .int }, accessFlags := 1, code := some k2c4 }
def k2c5 : Code := { maxStack := 3, maxLocals := 3, code := prog_1_method_6_code, exceptionTable := #[], attributes := #[] }
def k2m5 : Method := { name := "removeEdge", desc := "(II)I", sig := { parameters := [.int, .int], returnType := some .int }, accessFlags := 1, code := some k2c5 }
def k2c6 : Code := { maxStack := 3, maxLocals := 2, code := prog_1_method_7_code, exceptionTable := #[], attributes := #[] }
def k2m6 : Method := { name := "addSeed", desc := "(I)I", sig := { parameters := [.int], returnType := some .int }, accessFlags := 1, code := some k2c6 }
def k2c7 : Code := { maxStack := 3, maxLocals := 2, code := prog_1_method_8_code, exceptionTable := #[], attributes := #[] }
def k2m7 : Method := { name := "removeSeed", desc := "(I)I", sig := { parameters := [.int], returnType := some .int }, accessFlags := 1, code := some k2c7 }
def k2c8 : Code := { maxStack := 2, maxLocals := 5, code := prog_1_method_9_code, exceptionTable := #[], attributes := #[] }
def k2m8 : Method := { name := "setQuery", desc := "(IIZI)I", sig := { parameters := [.int, .int, .boolean, .int], returnType := some .int }, accessFlags := 1, code := some k2c8 }
def k2c9 : Code := { maxStack := 2, maxLocals := 2, code := prog_1_method_10_code, exceptionTable := #[], attributes := #[] }
def k2m9 : Method := { name := "run", desc := "()I", sig := { parameters := [], returnType := some .int }, accessFlags := 1, code := some k2c9 }
def k2c10 : Code := { maxStack := 2, maxLocals := 2, code := prog_1_method_11_code, exceptionTable := #[], attributes := #[] }
def k2m10 : Method := { name := "runDepthFirstAll", desc := "()Z", sig := { parameters := [], returnType := some .boolean }, accessFlags := 2, code := some k2c10 }
def k2c11 : Code := { maxStack := 4, maxLocals := 6, code := prog_1_method_12_code, exceptionTable := #[], attributes := #[] }
def k2m11 : Method := { name := "walkFrom", desc := "(I)Z", sig := { parameters := [.int], returnType := some .boolean }, accessFlags := 2, code := some k2c11 }
def k2c12 : Code := { maxStack := 3, maxLocals := 5, code := prog_1_method_13_code, exceptionTable := #[], attributes := #[] }
def k2m12 : Method := { name := "nextTarget", desc := "(II)I", sig := { parameters := [.int, .int], returnType := some .int }, accessFlags := 2, code := some k2c12 }
def k2c13 : Code := { maxStack := 2, maxLocals := 4, code := prog_1_method_14_code, exceptionTable := #[], attributes := #[] }
def k2m13 : Method := { name := "onStack", desc := "(II)Z", sig := { parameters := [.int, .int], returnType := some .boolean }, accessFlags := 2, code := some k2c13 }
def k2c14 : Code := { maxStack := 4, maxLocals := 3, code := prog_1_method_15_code, exceptionTable := #[], attributes := #[] }
def k2m14 : Method := { name := "emitStack", desc := "()Z", sig := { parameters := [], returnType := some .boolean }, accessFlags := 2, code := some k2c14 }
def k2c15 : Code := { maxStack := 3, maxLocals := 3, code := prog_1_method_16_code, exceptionTable := #[], attributes := #[] }
def k2m15 : Method := { name := "runLevels", desc := "(Z)Z", sig := { parameters := [.boolean], returnType := some .boolean }, accessFlags := 2, code := some k2c15 }
def k2c16 : Code := { maxStack := 4, maxLocals := 6, code := prog_1_method_17_code, exceptionTable := #[], attributes := #[] }
def k2m16 : Method := { name := "expandRow", desc := "(IZ)Z", sig := { parameters := [.int, .boolean], returnType := some .boolean }, accessFlags := 2, code := some k2c16 }
def k2c17 : Code := { maxStack := 3, maxLocals := 6, code := prog_1_method_18_code, exceptionTable := #[], attributes := #[] }
def k2m17 : Method := { name := "pathContains", desc := "(II)Z", sig := { parameters := [.int, .int], returnType := some .boolean }, accessFlags := 2, code := some k2c17 }
def k2c18 : Code := { maxStack := 3, maxLocals := 2, code := prog_1_method_19_code, exceptionTable := #[], attributes := #[] }
def k2m18 : Method := { name := "appendRoot", desc := "(I)Z", sig := { parameters := [.int], returnType := some .boolean }, accessFlags := 2, code := some k2c18 }
def k2c19 : Code := { maxStack := 5, maxLocals := 8, code := prog_1_method_20_code, exceptionTable := #[], attributes := #[] }
def k2m19 : Method := { name := "appendChild", desc := "(IIZ)Z", sig := { parameters := [.int, .int, .boolean], returnType := some .boolean }, accessFlags := 2, code := some k2c19 }
def k2c20 : Code := { maxStack := 4, maxLocals := 3, code := prog_1_method_21_code, exceptionTable := #[], attributes := #[] }
def k2m20 : Method := { name := "sortRows", desc := "()V", sig := { parameters := [], returnType := none }, accessFlags := 2, code := some k2c20 }
def k2c21 : Code := { maxStack := 3, maxLocals := 8, code := prog_1_method_22_code, exceptionTable := #[], attributes := #[] }
def k2m21 : Method := { name := "pathLess", desc := "(II)Z", sig := { parameters := [.int, .int], returnType := some .boolean }, accessFlags := 2, code := some k2c21 }
def k2c22 : Code := { maxStack := 5, maxLocals := 8, code := prog_1_method_23_code, exceptionTable := #[], attributes := #[] }
def k2m22 : Method := { name := "swapRows", desc := "(II)V", sig := { parameters := [.int, .int], returnType := none }, accessFlags := 2, code := some k2c22 }
def k2c23 : Code := { maxStack := 1, maxLocals := 1, code := prog_1_method_24_code, exceptionTable := #[], attributes := #[] }
def k2m23 : Method := { name := "status", desc := "()I", sig := { parameters := [], returnType := some .int }, accessFlags := 1, code := some k2c23 }
def k2c24 : Code := { maxStack := 1, maxLocals := 1, code := prog_1_method_25_code, exceptionTable := #[], attributes := #[] }
def k2m24 : Method := { name := "rowCount", desc := "()I", sig := { parameters := [], returnType := some .int }, accessFlags := 1, code := some k2c24 }
def k2c25 : Code := { maxStack := 2, maxLocals := 2, code := prog_1_method_26_code, exceptionTable := #[], attributes := #[] }
def k2m25 : Method := { name := "validRow", desc := "(I)Z", sig := { parameters := [.int], returnType := some .boolean }, accessFlags := 2, code := some k2c25 }
def k2c26 : Code := { maxStack := 2, maxLocals := 2, code := prog_1_method_27_code, exceptionTable := #[], attributes := #[] }
def k2m26 : Method := { name := "rowNode", desc := "(I)I", sig := { parameters := [.int], returnType := some .int }, accessFlags := 1, code := some k2c26 }
def k2c27 : Code := { maxStack := 2, maxLocals := 2, code := prog_1_method_28_code, exceptionTable := #[], attributes := #[] }
def k2m27 : Method := { name := "rowDepth", desc := "(I)I", sig := { parameters := [.int], returnType := some .int }, accessFlags := 1, code := some k2c27 }
def k2c28 : Code := { maxStack := 2, maxLocals := 2, code := prog_1_method_29_code, exceptionTable := #[], attributes := #[] }
def k2m28 : Method := { name := "rowIsCycle", desc := "(I)Z", sig := { parameters := [.int], returnType := some .boolean }, accessFlags := 1, code := some k2c28 }
def k2c29 : Code := { maxStack := 3, maxLocals := 3, code := prog_1_method_30_code, exceptionTable := #[], attributes := #[] }
def k2m29 : Method := { name := "rowPathNode", desc := "(II)I", sig := { parameters := [.int, .int], returnType := some .int }, accessFlags := 1, code := some k2c29 }
def k2c30 : Code := { maxStack := 2, maxLocals := 4, code := prog_1_method_31_code, exceptionTable := #[], attributes := #[] }
def k2m30 : Method := { name := "countNode", desc := "(I)I", sig := { parameters := [.int], returnType := some .int }, accessFlags := 1, code := some k2c30 }
def k2c31 : Code := { maxStack := 1, maxLocals := 1, code := prog_1_method_32_code, exceptionTable := #[], attributes := #[] }
def k2m31 : Method := { name := "edgeCount", desc := "()I", sig := { parameters := [], returnType := some .int }, accessFlags := 1, code := some k2c31 }
def k2c32 : Code := { maxStack := 3, maxLocals := 3, code := prog_1_method_33_code, exceptionTable := #[], attributes := #[] }
def k2m32 : Method := { name := "hasEdge", desc := "(II)Z", sig := { parameters := [.int, .int], returnType := some .boolean }, accessFlags := 1, code := some k2c32 }
def k2c33 : Code := { maxStack := 2, maxLocals := 2, code := prog_1_method_34_code, exceptionTable := #[], attributes := #[] }
def k2m33 : Method := { name := "isSeed", desc := "(I)Z", sig := { parameters := [.int], returnType := some .boolean }, accessFlags := 1, code := some k2c33 }
/-- RecursiveCte -/
def k2 : Class := { plain "RecursiveCte" (some 0) with
  accessFlags := 49
  interfaces := #[]
  cf := some (fileOf pool2 8 #[] #[{ accessFlags := 1, nameIndex := 5, descriptorIndex := 162, attributes := #[] }, { accessFlags := 2, nameIndex := 43, descriptorIndex := 44, attributes := #[] }, { accessFlags := 2, nameIndex := 82, descriptorIndex := 83, attributes := #[] }, { accessFlags := 2, nameIndex := 86, descriptorIndex := 6, attributes := #[] }, { accessFlags := 1, nameIndex := 166, descriptorIndex := 107, attributes := #[] }, { accessFlags := 1, nameIndex := 167, descriptorIndex := 107, attributes := #[] }, { accessFlags := 1, nameIndex := 168, descriptorIndex := 169, attributes := #[] }, { accessFlags := 1, nameIndex := 170, descriptorIndex := 169, attributes := #[] }, { accessFlags := 1, nameIndex := 171, descriptorIndex := 172, attributes := #[] }, { accessFlags := 1, nameIndex := 173, descriptorIndex := 174, attributes := #[] }, { accessFlags := 2, nameIndex := 89, descriptorIndex := 90, attributes := #[] }, { accessFlags := 2, nameIndex := 100, descriptorIndex := 83, attributes := #[] }, { accessFlags := 2, nameIndex := 106, descriptorIndex := 107, attributes := #[] }, { accessFlags := 2, nameIndex := 110, descriptorIndex := 111, attributes := #[] }, { accessFlags := 2, nameIndex := 103, descriptorIndex := 90, attributes := #[] }, { accessFlags := 2, nameIndex := 93, descriptorIndex := 94, attributes := #[] }, { accessFlags := 2, nameIndex := 117, descriptorIndex := 118, attributes := #[] }, { accessFlags := 2, nameIndex := 121, descriptorIndex := 111, attributes := #[] }, { accessFlags := 2, nameIndex := 114, descriptorIndex := 83, attributes := #[] }, { accessFlags := 2, nameIndex := 124, descriptorIndex := 125, attributes := #[] }, { accessFlags := 2, nameIndex := 97, descriptorIndex := 6, attributes := #[] }, { accessFlags := 2, nameIndex := 128, descriptorIndex := 111, attributes := #[] }, { accessFlags := 2, nameIndex := 131, descriptorIndex := 132, attributes := #[] }, { accessFlags := 1, nameIndex := 73, descriptorIndex := 174, attributes := #[] }, { accessFlags := 1, nameIndex := 175, descriptorIndex := 174, attributes := #[] }, { accessFlags := 2, nameIndex := 135, descriptorIndex := 83, attributes := #[] }, { accessFlags := 1, nameIndex := 176, descriptorIndex := 169, attributes := #[] }, { accessFlags := 1, nameIndex := 177, descriptorIndex := 169, attributes := #[] }, { accessFlags := 1, nameIndex := 178, descriptorIndex := 83, attributes := #[] }, { accessFlags := 1, nameIndex := 179, descriptorIndex := 107, attributes := #[] }, { accessFlags := 1, nameIndex := 180, descriptorIndex := 169, attributes := #[] }, { accessFlags := 1, nameIndex := 181, descriptorIndex := 174, attributes := #[] }, { accessFlags := 1, nameIndex := 182, descriptorIndex := 111, attributes := #[] }, { accessFlags := 1, nameIndex := 183, descriptorIndex := 83, attributes := #[] }] 49 2 #[] #[{ accessFlags := 25, nameIndex := 136, descriptorIndex := 48, attributes := #[] }, { accessFlags := 25, nameIndex := 139, descriptorIndex := 48, attributes := #[] }, { accessFlags := 25, nameIndex := 141, descriptorIndex := 48, attributes := #[] }, { accessFlags := 25, nameIndex := 143, descriptorIndex := 48, attributes := #[] }, { accessFlags := 25, nameIndex := 145, descriptorIndex := 48, attributes := #[] }, { accessFlags := 25, nameIndex := 147, descriptorIndex := 48, attributes := #[] }, { accessFlags := 25, nameIndex := 149, descriptorIndex := 48, attributes := #[] }, { accessFlags := 25, nameIndex := 151, descriptorIndex := 48, attributes := #[] }, { accessFlags := 25, nameIndex := 152, descriptorIndex := 48, attributes := #[] }, { accessFlags := 25, nameIndex := 154, descriptorIndex := 48, attributes := #[] }, { accessFlags := 25, nameIndex := 155, descriptorIndex := 48, attributes := #[] }, { accessFlags := 25, nameIndex := 156, descriptorIndex := 48, attributes := #[] }, { accessFlags := 25, nameIndex := 158, descriptorIndex := 48, attributes := #[] }, { accessFlags := 25, nameIndex := 159, descriptorIndex := 48, attributes := #[] }, { accessFlags := 25, nameIndex := 160, descriptorIndex := 48, attributes := #[] }, { accessFlags := 2, nameIndex := 47, descriptorIndex := 48, attributes := #[] }, { accessFlags := 2, nameIndex := 51, descriptorIndex := 48, attributes := #[] }, { accessFlags := 2, nameIndex := 54, descriptorIndex := 48, attributes := #[] }, { accessFlags := 18, nameIndex := 11, descriptorIndex := 12, attributes := #[] }, { accessFlags := 2, nameIndex := 57, descriptorIndex := 48, attributes := #[] }, { accessFlags := 18, nameIndex := 15, descriptorIndex := 12, attributes := #[] }, { accessFlags := 2, nameIndex := 60, descriptorIndex := 48, attributes := #[] }, { accessFlags := 2, nameIndex := 63, descriptorIndex := 48, attributes := #[] }, { accessFlags := 2, nameIndex := 66, descriptorIndex := 67, attributes := #[] }, { accessFlags := 2, nameIndex := 70, descriptorIndex := 48, attributes := #[] }, { accessFlags := 2, nameIndex := 73, descriptorIndex := 48, attributes := #[] }, { accessFlags := 2, nameIndex := 76, descriptorIndex := 48, attributes := #[] }, { accessFlags := 18, nameIndex := 18, descriptorIndex := 19, attributes := #[] }, { accessFlags := 18, nameIndex := 22, descriptorIndex := 19, attributes := #[] }, { accessFlags := 18, nameIndex := 25, descriptorIndex := 12, attributes := #[] }, { accessFlags := 18, nameIndex := 28, descriptorIndex := 19, attributes := #[] }, { accessFlags := 18, nameIndex := 31, descriptorIndex := 19, attributes := #[] }, { accessFlags := 18, nameIndex := 34, descriptorIndex := 19, attributes := #[] }, { accessFlags := 18, nameIndex := 37, descriptorIndex := 12, attributes := #[] }, { accessFlags := 2, nameIndex := 79, descriptorIndex := 48, attributes := #[] }, { accessFlags := 18, nameIndex := 40, descriptorIndex := 12, attributes := #[] }])
  fields := #[{ name := "OK", type := .int, accessFlags := 25, slot := 0, constantValue := 0 }, { name := "ERR_RANGE", type := .int, accessFlags := 25, slot := 1, constantValue := 0 }, { name := "ERR_DUPLICATE", type := .int, accessFlags := 25, slot := 2, constantValue := 0 }, { name := "ERR_ABSENT", type := .int, accessFlags := 25, slot := 3, constantValue := 0 }, { name := "ERR_FULL", type := .int, accessFlags := 25, slot := 4, constantValue := 0 }, { name := "ERR_ARG", type := .int, accessFlags := 25, slot := 5, constantValue := 0 }, { name := "RUN_TOO_MANY", type := .int, accessFlags := 25, slot := 6, constantValue := 0 }, { name := "UNION_ALL", type := .int, accessFlags := 25, slot := 7, constantValue := 0 }, { name := "UNION_DISTINCT", type := .int, accessFlags := 25, slot := 8, constantValue := 0 }, { name := "SEARCH_DEPTH_FIRST", type := .int, accessFlags := 25, slot := 9, constantValue := 0 }, { name := "SEARCH_BREADTH_FIRST", type := .int, accessFlags := 25, slot := 10, constantValue := 0 }, { name := "MAX_DEPTH_LIMIT", type := .int, accessFlags := 25, slot := 11, constantValue := 0 }, { name := "STATUS_NOT_RUN", type := .int, accessFlags := 25, slot := 12, constantValue := 0 }, { name := "STATUS_DONE", type := .int, accessFlags := 25, slot := 13, constantValue := 0 }, { name := "STATUS_TOO_MANY", type := .int, accessFlags := 25, slot := 14, constantValue := 0 }, { name := "maxNodes", type := .int, accessFlags := 2, slot := 0, constantValue := 0 }, { name := "maxEdges", type := .int, accessFlags := 2, slot := 1, constantValue := 0 }, { name := "rowLimit", type := .int, accessFlags := 2, slot := 2, constantValue := 0 }, { name := "adj", type := (.array .boolean), accessFlags := 18, slot := 3, constantValue := 0 }, { name := "edges", type := .int, accessFlags := 2, slot := 4, constantValue := 0 }, { name := "seed", type := (.array .boolean), accessFlags := 18, slot := 5, constantValue := 0 }, { name := "kind", type := .int, accessFlags := 2, slot := 6, constantValue := 0 }, { name := "search", type := .int, accessFlags := 2, slot := 7, constantValue := 0 }, { name := "cycle", type := .boolean, accessFlags := 2, slot := 8, constantValue := 0 }, { name := "maxDepth", type := .int, accessFlags := 2, slot := 9, constantValue := 0 }, { name := "status", type := .int, accessFlags := 2, slot := 10, constantValue := 0 }, { name := "count", type := .int, accessFlags := 2, slot := 11, constantValue := 0 }, { name := "rowNodeA", type := (.array .int), accessFlags := 18, slot := 12, constantValue := 0 }, { name := "rowDepthA", type := (.array .int), accessFlags := 18, slot := 13, constantValue := 0 }, { name := "rowCycA", type := (.array .boolean), accessFlags := 18, slot := 14, constantValue := 0 }, { name := "rowPathA", type := (.array .int), accessFlags := 18, slot := 15, constantValue := 0 }, { name := "stkNode", type := (.array .int), accessFlags := 18, slot := 16, constantValue := 0 }, { name := "stkNext", type := (.array .int), accessFlags := 18, slot := 17, constantValue := 0 }, { name := "stkCyc", type := (.array .boolean), accessFlags := 18, slot := 18, constantValue := 0 }, { name := "top", type := .int, accessFlags := 2, slot := 19, constantValue := 0 }, { name := "found", type := (.array .boolean), accessFlags := 18, slot := 20, constantValue := 0 }]
  methods := #[k2m0, k2m1, k2m2, k2m3, k2m4, k2m5, k2m6, k2m7, k2m8, k2m9, k2m10, k2m11, k2m12, k2m13, k2m14, k2m15, k2m16, k2m17, k2m18, k2m19, k2m20, k2m21, k2m22, k2m23, k2m24, k2m25, k2m26, k2m27, k2m28, k2m29, k2m30, k2m31, k2m32, k2m33]
  instanceTypes := #[.int, .int, .int, (.array .boolean), .int, (.array .boolean), .int, .int, .boolean, .int, .int, .int, (.array .int), (.array .int), (.array .boolean), (.array .int), (.array .int), (.array .int), (.array .boolean), .int, (.array .boolean)]
  staticTypes := #[.int, .int, .int, .int, .int, .int, .int, .int, .int, .int, .int, .int, .int, .int, .int]
  resolved := Array.replicate 186 none
  statics := none }

def pool3 : Array CpInfo := pool [(1, u "java/lang/Cloneable"), (0, .class_ 1), (0, u "java/lang/Object"), (0, .class_ 3)] 3

/-- java/lang/Cloneable -/
def k3 : Class := { plain "java/lang/Cloneable" (some 0) with
  accessFlags := 1537
  interfaces := #[]
  cf := some (fileOf pool3 2 #[] #[] 1537 4 #[] #[])
  fields := #[]
  methods := #[]
  instanceTypes := #[]
  staticTypes := #[]
  resolved := Array.replicate 8 none
  statics := none }

def pool4 : Array CpInfo := pool [(1, u "java/io/Serializable"), (0, .class_ 1), (0, u "java/lang/Object"), (0, .class_ 3)] 3

/-- java/io/Serializable -/
def k4 : Class := { plain "java/io/Serializable" (some 0) with
  accessFlags := 1537
  interfaces := #[]
  cf := some (fileOf pool4 2 #[] #[] 1537 4 #[] #[])
  fields := #[]
  methods := #[]
  instanceTypes := #[]
  staticTypes := #[]
  resolved := Array.replicate 8 none
  statics := none }

/-- the primitive boolean -/
def k5 : Class := { plain "boolean" none with kind := .primitive 'Z', accessFlags := 0x411 }
/-- [Z -/
def k6 : Class := { plain "[Z" (some 0) with kind := .array 5 .boolean, interfaces := #[3, 4], accessFlags := 1041 }

/-- the primitive byte -/
def k7 : Class := { plain "byte" none with kind := .primitive 'B', accessFlags := 0x411 }
/-- [B -/
def k8 : Class := { plain "[B" (some 0) with kind := .array 7 .byte, interfaces := #[3, 4], accessFlags := 1041 }

/-- the primitive int -/
def k9 : Class := { plain "int" none with kind := .primitive 'I', accessFlags := 0x411 }
/-- [I -/
def k10 : Class := { plain "[I" (some 0) with kind := .array 9 .int, interfaces := #[3, 4], accessFlags := 1041 }

def heap : Heap := #[{ cls := 10, slots := #[.int 0, .int 1, .int 2, .int 3, .int 4, .int 6, .int 1, .int 1, .int 1, .int 1], vm := .none }]
def classes : Array Class := #[k0, k1, k2, k3, k4, k5, k6, k7, k8, k9, k10]
def interned : List (Array UInt16 × Addr) := []
def slotsUsed : Nat := 10
def theMethod : MethodId := ⟨1, 2⟩
def args0 : Array Value := #[.ref 0]
def aboutOver (below : List Frame) : State where
  vm := { classes := classes, interned := interned.toArray }
  heap := heap
  slotsUsed := slotsUsed
  threads := #[{ frames := .invoking theMethod args0 :: below }]
def below0 : List Frame := [.native { method := ⟨0, 0⟩, args := #[] }]
def about1 : State := aboutOver below0
def p0 : Program := .bare "" "" ""
def e0 : Env := launch0.env 0 0 0
theorem w_frames : about1.frames = Frame.invoking theMethod args0 :: below0 := rfl
set_option maxRecDepth 65536 in
theorem w_args : argsFit about1.vm theMethod args0 = true := by decide +kernel
set_option maxRecDepth 65536 in
theorem w_heap : heapFits about1 = true := by decide +kernel
set_option maxRecDepth 65536 in
theorem w_runnable : about1.curStatus? = some .runnable := by decide +kernel
set_option maxRecDepth 65536 in
theorem w_alone : about1.alone = true := by decide +kernel
set_option maxRecDepth 65536 in
theorem w_named : about1.methodNamed? x = some theMethod := by decide +kernel
set_option maxRecDepth 65536 in
theorem w_hears : about1.hears theMethod below0 = true := by decide +kernel
set_option maxRecDepth 65536 in
theorem w_ripe : about1.ripe theMethod args0 below0 = true := by decide +kernel
theorem w_running : about1.status = .running := rfl
set_option maxRecDepth 65536 in
theorem w_room : about1.hasRoom e0.platform room_1 = true :=
  launch0.hasRoom_least _ room_1 (by decide +kernel) (by decide +kernel) (by decide +kernel) (by decide +kernel) (by decide +kernel) (by decide +kernel)
theorem allAtoms_all (ts : List Jvm.Cond) (a : Array Jvm.Value) (st : Jvm.State) : (allAtoms ts).before a st = ts.all (fun c => c.before a st) := by
  induction ts with
  | nil => rfl
  | cons c t ih =>
    show (Jvm.Cond.and c (allAtoms t)).before a st = _
    rw [Jvm.Cond.before_and, ih, List.all_cons]
def words1 : List Jvm.Cond := Jvm.Cond.code x code maxLocals ret :: tables_1
/-- a 'code' word, met by the world's own term for the bytes: nothing is compared byte by byte -/
theorem code_word {y : MethodName} {bytes : ByteArray} {mx : Nat} {rt : Option FieldType} {a : Array Value} {s : State} {m : MethodId} {meth : Method} {c : Code} (h1 : s.methodNamed? y = some m) (h2 : s.vm.method? m = some meth) (h3 : meth.code = some c) (h4 : c.code = bytes)
    (h5 : (c.maxLocals == mx && c.exceptionTable.isEmpty && decide (c.maxStack ≤ mostOperands) && decide (meth.sig.returnType = rt) && !meth.locks && decide (parseMethodDescriptor y.desc = some meth.sig)) = true) : (Jvm.Cond.code y bytes mx rt).before a s = true := by
  simp only [Bool.and_eq_true, beq_iff_eq, Bool.not_eq_true', decide_eq_true_eq] at h5
  obtain ⟨⟨⟨⟨⟨g1, g2⟩, g3⟩, g4⟩, g5⟩, g6⟩ := h5
  simp [Cond.before, Cond.holds, Cond.value, h1, h2, h3, h4, g1, g2, g3, g4, g5, g6]
def isCode : Jvm.Cond → Bool
  | .code _ _ _ _ => true
  | _ => false
theorem all_split {L : List Jvm.Cond} {P : Jvm.Cond → Bool} (h1 : L.all (fun c => isCode c || P c) = true) (h2 : ∀ c ∈ L.filter isCode, P c = true) : L.all P = true := by
  refine List.all_eq_true.mpr fun c hc => ?_
  have h := List.all_eq_true.mp h1 c hc
  rcases Bool.eq_false_or_eq_true (isCode c) with hi | hi
  · exact h2 c (List.mem_filter.mpr ⟨hc, hi⟩)
  · simpa [hi] using h
set_option maxRecDepth 65536 in
theorem w_c0 : (Jvm.Cond.code x code maxLocals ret).before args0 about1 = true := code_word (m := ⟨1, 2⟩) (meth := k1m2) (c := k1c2) (by decide +kernel) rfl rfl rfl (by decide +kernel)
set_option maxRecDepth 65536 in
theorem w_c1 : (Jvm.Cond.code ({ cls := "RecursiveCte", name := "<init>", desc := "(III)V" } : Jvm.MethodName) prog_1_method_1_code (4 : Nat) (Option.none : Option Jvm.ClassFile.FieldType)).before args0 about1 = true := code_word (m := ⟨2, 0⟩) (meth := k2m0) (c := k2c0) (by decide +kernel) rfl rfl rfl (by decide +kernel)
set_option maxRecDepth 65536 in
theorem w_c2 : (Jvm.Cond.code ({ cls := "java/lang/Object", name := "<init>", desc := "()V" } : Jvm.MethodName) object_method_1_code (1 : Nat) (Option.none : Option Jvm.ClassFile.FieldType)).before args0 about1 = true := code_word (m := ⟨0, 0⟩) (meth := k0m0) (c := k0c0) (by decide +kernel) rfl rfl rfl (by decide +kernel)
set_option maxRecDepth 65536 in
theorem w_c3 : (Jvm.Cond.code ({ cls := "RecursiveCte", name := "clamp", desc := "(III)I" } : Jvm.MethodName) prog_1_method_2_code (4 : Nat) (Option.some Jvm.ClassFile.FieldType.int)).before args0 about1 = true := code_word (m := ⟨2, 1⟩) (meth := k2m1) (c := k2c1) (by decide +kernel) rfl rfl rfl (by decide +kernel)
set_option maxRecDepth 65536 in
theorem w_c4 : (Jvm.Cond.code ({ cls := "RecursiveCteL7", name := "fp", desc := "(LRecursiveCte;)J" } : Jvm.MethodName) method_2_code (6 : Nat) (Option.some Jvm.ClassFile.FieldType.long)).before args0 about1 = true := code_word (m := ⟨1, 1⟩) (meth := k1m1) (c := k1c1) (by decide +kernel) rfl rfl rfl (by decide +kernel)
set_option maxRecDepth 65536 in
theorem w_c5 : (Jvm.Cond.code ({ cls := "RecursiveCte", name := "status", desc := "()I" } : Jvm.MethodName) prog_1_method_24_code (1 : Nat) (Option.some Jvm.ClassFile.FieldType.int)).before args0 about1 = true := code_word (m := ⟨2, 23⟩) (meth := k2m23) (c := k2c23) (by decide +kernel) rfl rfl rfl (by decide +kernel)
set_option maxRecDepth 65536 in
theorem w_c6 : (Jvm.Cond.code ({ cls := "RecursiveCte", name := "rowCount", desc := "()I" } : Jvm.MethodName) prog_1_method_25_code (1 : Nat) (Option.some Jvm.ClassFile.FieldType.int)).before args0 about1 = true := code_word (m := ⟨2, 24⟩) (meth := k2m24) (c := k2c24) (by decide +kernel) rfl rfl rfl (by decide +kernel)
set_option maxRecDepth 65536 in
theorem w_c7 : (Jvm.Cond.code ({ cls := "RecursiveCte", name := "edgeCount", desc := "()I" } : Jvm.MethodName) prog_1_method_32_code (1 : Nat) (Option.some Jvm.ClassFile.FieldType.int)).before args0 about1 = true := code_word (m := ⟨2, 31⟩) (meth := k2m31) (c := k2c31) (by decide +kernel) rfl rfl rfl (by decide +kernel)
set_option maxRecDepth 65536 in
theorem w_c8 : (Jvm.Cond.code ({ cls := "RecursiveCte", name := "hasEdge", desc := "(II)Z" } : Jvm.MethodName) prog_1_method_33_code (3 : Nat) (Option.some Jvm.ClassFile.FieldType.boolean)).before args0 about1 = true := code_word (m := ⟨2, 32⟩) (meth := k2m32) (c := k2c32) (by decide +kernel) rfl rfl rfl (by decide +kernel)
set_option maxRecDepth 65536 in
theorem w_c9 : (Jvm.Cond.code ({ cls := "RecursiveCte", name := "inRange", desc := "(I)Z" } : Jvm.MethodName) prog_1_method_3_code (2 : Nat) (Option.some Jvm.ClassFile.FieldType.boolean)).before args0 about1 = true := code_word (m := ⟨2, 2⟩) (meth := k2m2) (c := k2c2) (by decide +kernel) rfl rfl rfl (by decide +kernel)
set_option maxRecDepth 65536 in
theorem w_c10 : (Jvm.Cond.code ({ cls := "RecursiveCte", name := "countNode", desc := "(I)I" } : Jvm.MethodName) prog_1_method_31_code (4 : Nat) (Option.some Jvm.ClassFile.FieldType.int)).before args0 about1 = true := code_word (m := ⟨2, 30⟩) (meth := k2m30) (c := k2c30) (by decide +kernel) rfl rfl rfl (by decide +kernel)
set_option maxRecDepth 65536 in
theorem w_c11 : (Jvm.Cond.code ({ cls := "RecursiveCte", name := "isSeed", desc := "(I)Z" } : Jvm.MethodName) prog_1_method_34_code (2 : Nat) (Option.some Jvm.ClassFile.FieldType.boolean)).before args0 about1 = true := code_word (m := ⟨2, 33⟩) (meth := k2m33) (c := k2c33) (by decide +kernel) rfl rfl rfl (by decide +kernel)
set_option maxRecDepth 65536 in
theorem w_c12 : (Jvm.Cond.code ({ cls := "RecursiveCte", name := "rowNode", desc := "(I)I" } : Jvm.MethodName) prog_1_method_27_code (2 : Nat) (Option.some Jvm.ClassFile.FieldType.int)).before args0 about1 = true := code_word (m := ⟨2, 26⟩) (meth := k2m26) (c := k2c26) (by decide +kernel) rfl rfl rfl (by decide +kernel)
set_option maxRecDepth 65536 in
theorem w_c13 : (Jvm.Cond.code ({ cls := "RecursiveCte", name := "validRow", desc := "(I)Z" } : Jvm.MethodName) prog_1_method_26_code (2 : Nat) (Option.some Jvm.ClassFile.FieldType.boolean)).before args0 about1 = true := code_word (m := ⟨2, 25⟩) (meth := k2m25) (c := k2c25) (by decide +kernel) rfl rfl rfl (by decide +kernel)
set_option maxRecDepth 65536 in
theorem w_c14 : (Jvm.Cond.code ({ cls := "RecursiveCte", name := "rowDepth", desc := "(I)I" } : Jvm.MethodName) prog_1_method_28_code (2 : Nat) (Option.some Jvm.ClassFile.FieldType.int)).before args0 about1 = true := code_word (m := ⟨2, 27⟩) (meth := k2m27) (c := k2c27) (by decide +kernel) rfl rfl rfl (by decide +kernel)
set_option maxRecDepth 65536 in
theorem w_c15 : (Jvm.Cond.code ({ cls := "RecursiveCte", name := "rowIsCycle", desc := "(I)Z" } : Jvm.MethodName) prog_1_method_29_code (2 : Nat) (Option.some Jvm.ClassFile.FieldType.boolean)).before args0 about1 = true := code_word (m := ⟨2, 28⟩) (meth := k2m28) (c := k2c28) (by decide +kernel) rfl rfl rfl (by decide +kernel)
set_option maxRecDepth 65536 in
theorem w_c16 : (Jvm.Cond.code ({ cls := "RecursiveCte", name := "rowPathNode", desc := "(II)I" } : Jvm.MethodName) prog_1_method_30_code (3 : Nat) (Option.some Jvm.ClassFile.FieldType.int)).before args0 about1 = true := code_word (m := ⟨2, 29⟩) (meth := k2m29) (c := k2c29) (by decide +kernel) rfl rfl rfl (by decide +kernel)
set_option maxRecDepth 65536 in
theorem w_c17 : (Jvm.Cond.code ({ cls := "RecursiveCte", name := "addSeed", desc := "(I)I" } : Jvm.MethodName) prog_1_method_7_code (2 : Nat) (Option.some Jvm.ClassFile.FieldType.int)).before args0 about1 = true := code_word (m := ⟨2, 6⟩) (meth := k2m6) (c := k2c6) (by decide +kernel) rfl rfl rfl (by decide +kernel)
set_option maxRecDepth 65536 in
theorem w_c18 : (Jvm.Cond.code ({ cls := "RecursiveCte", name := "clearResult", desc := "()V" } : Jvm.MethodName) prog_1_method_4_code (1 : Nat) (Option.none : Option Jvm.ClassFile.FieldType)).before args0 about1 = true := code_word (m := ⟨2, 3⟩) (meth := k2m3) (c := k2c3) (by decide +kernel) rfl rfl rfl (by decide +kernel)
set_option maxRecDepth 65536 in
theorem w_c19 : (Jvm.Cond.code ({ cls := "RecursiveCte", name := "addEdge", desc := "(II)I" } : Jvm.MethodName) prog_1_method_5_code (3 : Nat) (Option.some Jvm.ClassFile.FieldType.int)).before args0 about1 = true := code_word (m := ⟨2, 4⟩) (meth := k2m4) (c := k2c4) (by decide +kernel) rfl rfl rfl (by decide +kernel)
set_option maxRecDepth 65536 in
theorem w_c20 : (Jvm.Cond.code ({ cls := "RecursiveCte", name := "removeEdge", desc := "(II)I" } : Jvm.MethodName) prog_1_method_6_code (3 : Nat) (Option.some Jvm.ClassFile.FieldType.int)).before args0 about1 = true := code_word (m := ⟨2, 5⟩) (meth := k2m5) (c := k2c5) (by decide +kernel) rfl rfl rfl (by decide +kernel)
set_option maxRecDepth 65536 in
theorem w_c21 : (Jvm.Cond.code ({ cls := "RecursiveCte", name := "run", desc := "()I" } : Jvm.MethodName) prog_1_method_10_code (2 : Nat) (Option.some Jvm.ClassFile.FieldType.int)).before args0 about1 = true := code_word (m := ⟨2, 9⟩) (meth := k2m9) (c := k2c9) (by decide +kernel) rfl rfl rfl (by decide +kernel)
set_option maxRecDepth 65536 in
theorem w_c22 : (Jvm.Cond.code ({ cls := "RecursiveCte", name := "runDepthFirstAll", desc := "()Z" } : Jvm.MethodName) prog_1_method_11_code (2 : Nat) (Option.some Jvm.ClassFile.FieldType.boolean)).before args0 about1 = true := code_word (m := ⟨2, 10⟩) (meth := k2m10) (c := k2c10) (by decide +kernel) rfl rfl rfl (by decide +kernel)
set_option maxRecDepth 65536 in
theorem w_c23 : (Jvm.Cond.code ({ cls := "RecursiveCte", name := "removeSeed", desc := "(I)I" } : Jvm.MethodName) prog_1_method_8_code (2 : Nat) (Option.some Jvm.ClassFile.FieldType.int)).before args0 about1 = true := code_word (m := ⟨2, 7⟩) (meth := k2m7) (c := k2c7) (by decide +kernel) rfl rfl rfl (by decide +kernel)
set_option maxRecDepth 65536 in
theorem w_c24 : (Jvm.Cond.code ({ cls := "RecursiveCte", name := "setQuery", desc := "(IIZI)I" } : Jvm.MethodName) prog_1_method_9_code (5 : Nat) (Option.some Jvm.ClassFile.FieldType.int)).before args0 about1 = true := code_word (m := ⟨2, 8⟩) (meth := k2m8) (c := k2c8) (by decide +kernel) rfl rfl rfl (by decide +kernel)
set_option maxRecDepth 65536 in
theorem w_c25 : (Jvm.Cond.code ({ cls := "RecursiveCte", name := "runLevels", desc := "(Z)Z" } : Jvm.MethodName) prog_1_method_16_code (3 : Nat) (Option.some Jvm.ClassFile.FieldType.boolean)).before args0 about1 = true := code_word (m := ⟨2, 15⟩) (meth := k2m15) (c := k2c15) (by decide +kernel) rfl rfl rfl (by decide +kernel)
set_option maxRecDepth 65536 in
theorem w_c26 : (Jvm.Cond.code ({ cls := "RecursiveCte", name := "appendRoot", desc := "(I)Z" } : Jvm.MethodName) prog_1_method_19_code (2 : Nat) (Option.some Jvm.ClassFile.FieldType.boolean)).before args0 about1 = true := code_word (m := ⟨2, 18⟩) (meth := k2m18) (c := k2c18) (by decide +kernel) rfl rfl rfl (by decide +kernel)
set_option maxRecDepth 65536 in
theorem w_c27 : (Jvm.Cond.code ({ cls := "RecursiveCte", name := "expandRow", desc := "(IZ)Z" } : Jvm.MethodName) prog_1_method_17_code (6 : Nat) (Option.some Jvm.ClassFile.FieldType.boolean)).before args0 about1 = true := code_word (m := ⟨2, 16⟩) (meth := k2m16) (c := k2c16) (by decide +kernel) rfl rfl rfl (by decide +kernel)
set_option maxRecDepth 65536 in
theorem w_c28 : (Jvm.Cond.code ({ cls := "RecursiveCte", name := "walkFrom", desc := "(I)Z" } : Jvm.MethodName) prog_1_method_12_code (6 : Nat) (Option.some Jvm.ClassFile.FieldType.boolean)).before args0 about1 = true := code_word (m := ⟨2, 11⟩) (meth := k2m11) (c := k2c11) (by decide +kernel) rfl rfl rfl (by decide +kernel)
set_option maxRecDepth 65536 in
theorem w_c29 : (Jvm.Cond.code ({ cls := "RecursiveCte", name := "emitStack", desc := "()Z" } : Jvm.MethodName) prog_1_method_15_code (3 : Nat) (Option.some Jvm.ClassFile.FieldType.boolean)).before args0 about1 = true := code_word (m := ⟨2, 14⟩) (meth := k2m14) (c := k2c14) (by decide +kernel) rfl rfl rfl (by decide +kernel)
set_option maxRecDepth 65536 in
theorem w_c30 : (Jvm.Cond.code ({ cls := "RecursiveCte", name := "nextTarget", desc := "(II)I" } : Jvm.MethodName) prog_1_method_13_code (5 : Nat) (Option.some Jvm.ClassFile.FieldType.int)).before args0 about1 = true := code_word (m := ⟨2, 12⟩) (meth := k2m12) (c := k2c12) (by decide +kernel) rfl rfl rfl (by decide +kernel)
set_option maxRecDepth 65536 in
theorem w_c31 : (Jvm.Cond.code ({ cls := "RecursiveCte", name := "appendChild", desc := "(IIZ)Z" } : Jvm.MethodName) prog_1_method_20_code (8 : Nat) (Option.some Jvm.ClassFile.FieldType.boolean)).before args0 about1 = true := code_word (m := ⟨2, 19⟩) (meth := k2m19) (c := k2c19) (by decide +kernel) rfl rfl rfl (by decide +kernel)
set_option maxRecDepth 65536 in
theorem w_c32 : (Jvm.Cond.code ({ cls := "RecursiveCte", name := "pathContains", desc := "(II)Z" } : Jvm.MethodName) prog_1_method_18_code (6 : Nat) (Option.some Jvm.ClassFile.FieldType.boolean)).before args0 about1 = true := code_word (m := ⟨2, 17⟩) (meth := k2m17) (c := k2c17) (by decide +kernel) rfl rfl rfl (by decide +kernel)
set_option maxRecDepth 65536 in
theorem w_c33 : (Jvm.Cond.code ({ cls := "RecursiveCte", name := "sortRows", desc := "()V" } : Jvm.MethodName) prog_1_method_21_code (3 : Nat) (Option.none : Option Jvm.ClassFile.FieldType)).before args0 about1 = true := code_word (m := ⟨2, 20⟩) (meth := k2m20) (c := k2c20) (by decide +kernel) rfl rfl rfl (by decide +kernel)
set_option maxRecDepth 65536 in
theorem w_c34 : (Jvm.Cond.code ({ cls := "RecursiveCte", name := "pathLess", desc := "(II)Z" } : Jvm.MethodName) prog_1_method_22_code (8 : Nat) (Option.some Jvm.ClassFile.FieldType.boolean)).before args0 about1 = true := code_word (m := ⟨2, 21⟩) (meth := k2m21) (c := k2c21) (by decide +kernel) rfl rfl rfl (by decide +kernel)
set_option maxRecDepth 65536 in
theorem w_c35 : (Jvm.Cond.code ({ cls := "RecursiveCte", name := "onStack", desc := "(II)Z" } : Jvm.MethodName) prog_1_method_14_code (4 : Nat) (Option.some Jvm.ClassFile.FieldType.boolean)).before args0 about1 = true := code_word (m := ⟨2, 13⟩) (meth := k2m13) (c := k2c13) (by decide +kernel) rfl rfl rfl (by decide +kernel)
set_option maxRecDepth 65536 in
theorem w_c36 : (Jvm.Cond.code ({ cls := "RecursiveCte", name := "swapRows", desc := "(II)V" } : Jvm.MethodName) prog_1_method_23_code (8 : Nat) (Option.none : Option Jvm.ClassFile.FieldType)).before args0 about1 = true := code_word (m := ⟨2, 22⟩) (meth := k2m22) (c := k2c22) (by decide +kernel) rfl rfl rfl (by decide +kernel)
def codes1 : List Jvm.Cond := [Jvm.Cond.code x code maxLocals ret, Jvm.Cond.code ({ cls := "RecursiveCte", name := "<init>", desc := "(III)V" } : Jvm.MethodName) prog_1_method_1_code (4 : Nat) (Option.none : Option Jvm.ClassFile.FieldType), Jvm.Cond.code ({ cls := "java/lang/Object", name := "<init>", desc := "()V" } : Jvm.MethodName) object_method_1_code (1 : Nat) (Option.none : Option Jvm.ClassFile.FieldType), Jvm.Cond.code ({ cls := "RecursiveCte", name := "clamp", desc := "(III)I" } : Jvm.MethodName) prog_1_method_2_code (4 : Nat) (Option.some Jvm.ClassFile.FieldType.int), Jvm.Cond.code ({ cls := "RecursiveCteL7", name := "fp", desc := "(LRecursiveCte;)J" } : Jvm.MethodName) method_2_code (6 : Nat) (Option.some Jvm.ClassFile.FieldType.long), Jvm.Cond.code ({ cls := "RecursiveCte", name := "status", desc := "()I" } : Jvm.MethodName) prog_1_method_24_code (1 : Nat) (Option.some Jvm.ClassFile.FieldType.int), Jvm.Cond.code ({ cls := "RecursiveCte", name := "rowCount", desc := "()I" } : Jvm.MethodName) prog_1_method_25_code (1 : Nat) (Option.some Jvm.ClassFile.FieldType.int), Jvm.Cond.code ({ cls := "RecursiveCte", name := "edgeCount", desc := "()I" } : Jvm.MethodName) prog_1_method_32_code (1 : Nat) (Option.some Jvm.ClassFile.FieldType.int), Jvm.Cond.code ({ cls := "RecursiveCte", name := "hasEdge", desc := "(II)Z" } : Jvm.MethodName) prog_1_method_33_code (3 : Nat) (Option.some Jvm.ClassFile.FieldType.boolean), Jvm.Cond.code ({ cls := "RecursiveCte", name := "inRange", desc := "(I)Z" } : Jvm.MethodName) prog_1_method_3_code (2 : Nat) (Option.some Jvm.ClassFile.FieldType.boolean), Jvm.Cond.code ({ cls := "RecursiveCte", name := "countNode", desc := "(I)I" } : Jvm.MethodName) prog_1_method_31_code (4 : Nat) (Option.some Jvm.ClassFile.FieldType.int), Jvm.Cond.code ({ cls := "RecursiveCte", name := "isSeed", desc := "(I)Z" } : Jvm.MethodName) prog_1_method_34_code (2 : Nat) (Option.some Jvm.ClassFile.FieldType.boolean), Jvm.Cond.code ({ cls := "RecursiveCte", name := "rowNode", desc := "(I)I" } : Jvm.MethodName) prog_1_method_27_code (2 : Nat) (Option.some Jvm.ClassFile.FieldType.int), Jvm.Cond.code ({ cls := "RecursiveCte", name := "validRow", desc := "(I)Z" } : Jvm.MethodName) prog_1_method_26_code (2 : Nat) (Option.some Jvm.ClassFile.FieldType.boolean), Jvm.Cond.code ({ cls := "RecursiveCte", name := "rowDepth", desc := "(I)I" } : Jvm.MethodName) prog_1_method_28_code (2 : Nat) (Option.some Jvm.ClassFile.FieldType.int), Jvm.Cond.code ({ cls := "RecursiveCte", name := "rowIsCycle", desc := "(I)Z" } : Jvm.MethodName) prog_1_method_29_code (2 : Nat) (Option.some Jvm.ClassFile.FieldType.boolean), Jvm.Cond.code ({ cls := "RecursiveCte", name := "rowPathNode", desc := "(II)I" } : Jvm.MethodName) prog_1_method_30_code (3 : Nat) (Option.some Jvm.ClassFile.FieldType.int), Jvm.Cond.code ({ cls := "RecursiveCte", name := "addSeed", desc := "(I)I" } : Jvm.MethodName) prog_1_method_7_code (2 : Nat) (Option.some Jvm.ClassFile.FieldType.int), Jvm.Cond.code ({ cls := "RecursiveCte", name := "clearResult", desc := "()V" } : Jvm.MethodName) prog_1_method_4_code (1 : Nat) (Option.none : Option Jvm.ClassFile.FieldType), Jvm.Cond.code ({ cls := "RecursiveCte", name := "addEdge", desc := "(II)I" } : Jvm.MethodName) prog_1_method_5_code (3 : Nat) (Option.some Jvm.ClassFile.FieldType.int), Jvm.Cond.code ({ cls := "RecursiveCte", name := "removeEdge", desc := "(II)I" } : Jvm.MethodName) prog_1_method_6_code (3 : Nat) (Option.some Jvm.ClassFile.FieldType.int), Jvm.Cond.code ({ cls := "RecursiveCte", name := "run", desc := "()I" } : Jvm.MethodName) prog_1_method_10_code (2 : Nat) (Option.some Jvm.ClassFile.FieldType.int), Jvm.Cond.code ({ cls := "RecursiveCte", name := "runDepthFirstAll", desc := "()Z" } : Jvm.MethodName) prog_1_method_11_code (2 : Nat) (Option.some Jvm.ClassFile.FieldType.boolean), Jvm.Cond.code ({ cls := "RecursiveCte", name := "removeSeed", desc := "(I)I" } : Jvm.MethodName) prog_1_method_8_code (2 : Nat) (Option.some Jvm.ClassFile.FieldType.int), Jvm.Cond.code ({ cls := "RecursiveCte", name := "setQuery", desc := "(IIZI)I" } : Jvm.MethodName) prog_1_method_9_code (5 : Nat) (Option.some Jvm.ClassFile.FieldType.int), Jvm.Cond.code ({ cls := "RecursiveCte", name := "runLevels", desc := "(Z)Z" } : Jvm.MethodName) prog_1_method_16_code (3 : Nat) (Option.some Jvm.ClassFile.FieldType.boolean), Jvm.Cond.code ({ cls := "RecursiveCte", name := "appendRoot", desc := "(I)Z" } : Jvm.MethodName) prog_1_method_19_code (2 : Nat) (Option.some Jvm.ClassFile.FieldType.boolean), Jvm.Cond.code ({ cls := "RecursiveCte", name := "expandRow", desc := "(IZ)Z" } : Jvm.MethodName) prog_1_method_17_code (6 : Nat) (Option.some Jvm.ClassFile.FieldType.boolean), Jvm.Cond.code ({ cls := "RecursiveCte", name := "walkFrom", desc := "(I)Z" } : Jvm.MethodName) prog_1_method_12_code (6 : Nat) (Option.some Jvm.ClassFile.FieldType.boolean), Jvm.Cond.code ({ cls := "RecursiveCte", name := "emitStack", desc := "()Z" } : Jvm.MethodName) prog_1_method_15_code (3 : Nat) (Option.some Jvm.ClassFile.FieldType.boolean), Jvm.Cond.code ({ cls := "RecursiveCte", name := "nextTarget", desc := "(II)I" } : Jvm.MethodName) prog_1_method_13_code (5 : Nat) (Option.some Jvm.ClassFile.FieldType.int), Jvm.Cond.code ({ cls := "RecursiveCte", name := "appendChild", desc := "(IIZ)Z" } : Jvm.MethodName) prog_1_method_20_code (8 : Nat) (Option.some Jvm.ClassFile.FieldType.boolean), Jvm.Cond.code ({ cls := "RecursiveCte", name := "pathContains", desc := "(II)Z" } : Jvm.MethodName) prog_1_method_18_code (6 : Nat) (Option.some Jvm.ClassFile.FieldType.boolean), Jvm.Cond.code ({ cls := "RecursiveCte", name := "sortRows", desc := "()V" } : Jvm.MethodName) prog_1_method_21_code (3 : Nat) (Option.none : Option Jvm.ClassFile.FieldType), Jvm.Cond.code ({ cls := "RecursiveCte", name := "pathLess", desc := "(II)Z" } : Jvm.MethodName) prog_1_method_22_code (8 : Nat) (Option.some Jvm.ClassFile.FieldType.boolean), Jvm.Cond.code ({ cls := "RecursiveCte", name := "onStack", desc := "(II)Z" } : Jvm.MethodName) prog_1_method_14_code (4 : Nat) (Option.some Jvm.ClassFile.FieldType.boolean), Jvm.Cond.code ({ cls := "RecursiveCte", name := "swapRows", desc := "(II)V" } : Jvm.MethodName) prog_1_method_23_code (8 : Nat) (Option.none : Option Jvm.ClassFile.FieldType)]
set_option maxRecDepth 65536 in
theorem codes_eq : words1.filter isCode = codes1 := rfl
theorem w_codes : ∀ c ∈ words1.filter isCode, c.before args0 about1 = true := by
  rw [codes_eq]
  intro c hc
  simp only [codes1, List.mem_cons, List.not_mem_nil, or_false] at hc
  rcases hc with rfl | rfl | rfl | rfl | rfl | rfl | rfl | rfl | rfl | rfl | rfl | rfl | rfl | rfl | rfl | rfl | rfl | rfl | rfl | rfl | rfl | rfl | rfl | rfl | rfl | rfl | rfl | rfl | rfl | rfl | rfl | rfl | rfl | rfl | rfl | rfl | rfl
  · exact w_c0
  · exact w_c1
  · exact w_c2
  · exact w_c3
  · exact w_c4
  · exact w_c5
  · exact w_c6
  · exact w_c7
  · exact w_c8
  · exact w_c9
  · exact w_c10
  · exact w_c11
  · exact w_c12
  · exact w_c13
  · exact w_c14
  · exact w_c15
  · exact w_c16
  · exact w_c17
  · exact w_c18
  · exact w_c19
  · exact w_c20
  · exact w_c21
  · exact w_c22
  · exact w_c23
  · exact w_c24
  · exact w_c25
  · exact w_c26
  · exact w_c27
  · exact w_c28
  · exact w_c29
  · exact w_c30
  · exact w_c31
  · exact w_c32
  · exact w_c33
  · exact w_c34
  · exact w_c35
  · exact w_c36
set_option maxRecDepth 65536 in
theorem w_t1 : (words1.take 24).all (fun c => isCode c || c.before args0 about1) = true := by decide +kernel
set_option maxRecDepth 65536 in
theorem w_t2 : ((words1.drop 24).take 24).all (fun c => isCode c || c.before args0 about1) = true := by decide +kernel
set_option maxRecDepth 65536 in
theorem w_t3 : (((words1.drop 24).drop 24).take 24).all (fun c => isCode c || c.before args0 about1) = true := by decide +kernel
set_option maxRecDepth 65536 in
theorem w_t4 : ((((words1.drop 24).drop 24).drop 24).take 24).all (fun c => isCode c || c.before args0 about1) = true := by decide +kernel
set_option maxRecDepth 65536 in
theorem w_t5 : (((((words1.drop 24).drop 24).drop 24).drop 24).take 24).all (fun c => isCode c || c.before args0 about1) = true := by decide +kernel
set_option maxRecDepth 65536 in
theorem w_t6 : ((((((words1.drop 24).drop 24).drop 24).drop 24).drop 24).take 24).all (fun c => isCode c || c.before args0 about1) = true := by decide +kernel
set_option maxRecDepth 65536 in
theorem w_t7 : (((((((words1.drop 24).drop 24).drop 24).drop 24).drop 24).drop 24).take 24).all (fun c => isCode c || c.before args0 about1) = true := by decide +kernel
set_option maxRecDepth 65536 in
theorem w_t8 : ((((((((words1.drop 24).drop 24).drop 24).drop 24).drop 24).drop 24).drop 24).take 24).all (fun c => isCode c || c.before args0 about1) = true := by decide +kernel
set_option maxRecDepth 65536 in
theorem w_t9 : ((((((((words1.drop 24).drop 24).drop 24).drop 24).drop 24).drop 24).drop 24).drop 24).all (fun c => isCode c || c.before args0 about1) = true := by decide +kernel
theorem w_tables : (allAtoms (Jvm.Cond.code x code maxLocals ret :: tables_1)).before args0 about1 = true := by
  rw [allAtoms_all]
  show words1.all (fun c => c.before args0 about1) = true
  refine all_split ?_ w_codes
  rw [← List.take_append_drop 24 words1, List.all_append, w_t1, ← List.take_append_drop 24 (words1.drop 24), List.all_append, w_t2, ← List.take_append_drop 24 ((words1.drop 24).drop 24), List.all_append, w_t3, ← List.take_append_drop 24 (((words1.drop 24).drop 24).drop 24), List.all_append, w_t4, ← List.take_append_drop 24 ((((words1.drop 24).drop 24).drop 24).drop 24), List.all_append, w_t5, ← List.take_append_drop 24 (((((words1.drop 24).drop 24).drop 24).drop 24).drop 24), List.all_append, w_t6, ← List.take_append_drop 24 ((((((words1.drop 24).drop 24).drop 24).drop 24).drop 24).drop 24), List.all_append, w_t7, ← List.take_append_drop 24 (((((((words1.drop 24).drop 24).drop 24).drop 24).drop 24).drop 24).drop 24), List.all_append, w_t8, w_t9]
  rfl
set_option maxRecDepth 65536 in
theorem w_rest : rest_1_c.before args0 about1 = true := by decide +kernel
set_option maxRecDepth 65536 in
theorem w_case : (Jvm.Cond.and given_1 narrow_1).before args0 about1 = true := by decide +kernel
theorem w_applies : (headSpec (Jvm.Cond.code x code maxLocals ret :: tables_1) room_1).applies x e0.platform about1 = true :=
  (Spec.applies_iff w_frames).mpr ⟨w_running, w_runnable, w_alone, w_named, w_hears, w_ripe, w_room, w_tables⟩
theorem atStart : AtStart classFile x code maxLocals ret World_1 tables_1 room_1 Calls_1 rest_1 Pre_1 launch0 p0 e0 about1 theMethod args0 below0 :=
  ⟨lists_1, trivial, launch0.admits_env _ _ _, launch0.least_env, fairChoices_fair.cas, fairChoices_fair.clock, w_frames, w_args, w_heap, w_applies, trivial, w_rest, w_case⟩
end start1
theorem witness_1 : WitnessClaimed_1 := ⟨start1.p0, start1.e0, start1.about1, start1.theMethod, start1.args0, start1.below0, start1.atStart⟩
end Jvm.Pilot.@@N@@
