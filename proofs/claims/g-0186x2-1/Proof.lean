import JvmDerived
import JvmDerived.Pilot.@@N@@Statement
import JvmDerived.Pilot.@@N@@Code
set_option linter.unusedVariables false
set_option linter.unusedSimpArgs false
namespace Jvm.RoadKit
open Sem ClassFile Op Lib Jvm.Stand Jvm.Free Jvm.LawKit
section New
variable {p : Program} {l : Launch} {e : Env} {R : Room} {s : State} {m : MethodId} {args : Array Value} {below : List Frame} {meth : Method} {c : Code} {T : State} {locs : List Loc} {cells slots : Nat}
theorem retI (X : Stand p l e R s m args below meth c T locs cells slots) (hx : p.tables.exec = Jvm.exec) {pc : Nat} {Ls : Array Slot} {z : Int32} {rest : List Value} (hret : meth.sig.returnType = some .int) (hd : decode c.code pc = .ok (.ireturn, 1)) {fs : List Frame}
    (hl : ∀ (f : JFrame) (acts : List Action), f.method = m → f.locked = none → f.entered = [] → (doReturn e (T.setTop f) acts (some (.int z))).1 = T.setFrames fs) : Steps p.tables e below (T.setTop (mkF m pc Ls (.int z :: rest))) (T.setFrames fs) := by
  have hm' : T.vm.method? m = some meth := X.method'
  have hn : narrow .int (.int z) = .int z := rfl
  show Steps p.tables e below (T.setTop { method := m, pc := pc, locals := Ls, stack := _ :: rest, locked := none }) _
  jvm_step X.here [X.here.top, hx, hd, hm', hret, hn]
  first | (intro acts; rw [hl _ acts rfl rfl rfl]) | rw [hl _ _ rfl rfl rfl]
  exact Steps.refl _
end New
end Jvm.RoadKit
namespace Jvm.Own
open Jvm Jvm.ClassFile Sem Op Lib Jvm.Free Jvm.Stand Jvm.LawKit Jvm.RoadKit
/-! ## 1. Local variables: what the walk knows of them (L) and what they are (r) -/
def rv (ρ : Nat → Addr) : Value → Value
  | .ref k => .ref (ρ k)
  | .int x => .int x
  | .long x => .long x
  | .float x => .float x
  | .double x => .double x
  | .null => .null
  | .retAddr x => .retAddr x
def rs (ρ : Nat → Addr) : Slot → Slot
  | .val v => .val (rv ρ v)
  | .unset => .unset
  | .second => .second
theorem rv_cat (ρ : Nat → Addr) (v : Value) : (rv ρ v).category = v.category := by cases v <;> rfl
def WR (f : Nat → Option Slot) : Prop := (∀ i v, f i = some (.val v) → v.category = 2 → f (i + 1) = some .second) ∧ (∀ i, f i = some .second → ∃ j v, i = j + 1 ∧ f j = some (.val v) ∧ v.category = 2)
def up (f : Nat → Option Slot) (i : Nat) (x : Slot) : Nat → Option Slot := fun k => if k = i then some x else f k
def C1 (s : Option Slot) : Prop := s = some .unset ∨ ∃ w, s = some (.val w) ∧ w.category = 1
theorem C1.not2 {s : Option Slot} (h : C1 s) : s ≠ some .second ∧ ∀ v, s = some (.val v) → v.category ≠ 2 := by
  rcases h with rfl | ⟨w, rfl, h⟩
  · exact ⟨nofun, nofun⟩
  · exact ⟨nofun, fun v e q => by cases e; omega⟩
theorem up_at (f : Nat → Option Slot) (i : Nat) (x : Slot) : up f i x i = some x := by simp [up]
theorem up_ne (f : Nat → Option Slot) {i k : Nat} (x : Slot) (h : k ≠ i) : up f i x k = f k := by simp [up, h]
theorem WR.one {f : Nat → Option Slot} {i : Nat} {x : Slot} (h : WR f) (hi : C1 (f i)) (hx : C1 (some x)) : WR (up f i x) := by
  obtain ⟨n1, n2⟩ := hi.not2
  obtain ⟨m1, m2⟩ := hx.not2
  constructor
  · intro k v hk hv
    by_cases e : k = i
    · subst e; rw [up_at] at hk; exact absurd hv (m2 v hk)
    · rw [up_ne _ _ e] at hk
      have q := h.1 k v hk hv
      by_cases e2 : k + 1 = i
      · rw [e2] at q; exact absurd q n1
      · rw [up_ne _ _ e2]; exact q
  · intro k hk
    by_cases e : k = i
    · subst e; rw [up_at] at hk; exact absurd hk m1
    · rw [up_ne _ _ e] at hk
      obtain ⟨j, v, e1, e2, e3⟩ := h.2 k hk
      refine ⟨j, v, e1, ?_, e3⟩
      by_cases e4 : j = i
      · rw [e4] at e2; exact absurd e3 (n2 v e2)
      · rw [up_ne _ _ e4]; exact e2
theorem WR.clr {f : Nat → Option Slot} {j : Nat} {v : Value} (h : WR f) (hj : f j = some (.val v)) (hv : v.category = 2) : WR (up (up f j .unset) (j + 1) .unset) := by
  have q := h.1 j v hj hv
  constructor
  · intro k w hk hw
    by_cases e : k = j + 1
    · subst e; rw [up_at] at hk; cases hk
    · rw [up_ne _ _ e] at hk
      by_cases e2 : k = j
      · subst e2; rw [up_at] at hk; cases hk
      · rw [up_ne _ _ e2] at hk
        have q2 := h.1 k w hk hw
        by_cases e3 : k + 1 = j
        · rw [e3] at q2; rw [hj] at q2; cases q2
        · rw [up_ne _ _ (show k + 1 ≠ j + 1 by omega), up_ne _ _ e3]; exact q2
  · intro k hk
    by_cases e : k = j + 1
    · subst e; rw [up_at] at hk; cases hk
    · rw [up_ne _ _ e] at hk
      by_cases e2 : k = j
      · subst e2; rw [up_at] at hk; cases hk
      · rw [up_ne _ _ e2] at hk
        obtain ⟨i, w, e3, e4, e5⟩ := h.2 k hk
        refine ⟨i, w, e3, ?_, e5⟩
        by_cases e6 : i = j + 1
        · rw [e6, q] at e4; cases e4
        · rw [up_ne _ _ e6, up_ne _ _ (show i ≠ j by omega)]; exact e4
theorem WR.two {f : Nat → Option Slot} {i : Nat} {v : Value} (h : WR f) (h1 : C1 (f i)) (h2 : C1 (f (i + 1))) (hv : v.category = 2) : WR (up (up f i (.val v)) (i + 1) .second) := by
  obtain ⟨n1, n2⟩ := h1.not2
  obtain ⟨m1, m2⟩ := h2.not2
  constructor
  · intro k w hk hw
    by_cases e : k = i + 1
    · subst e; rw [up_at] at hk; cases hk
    · rw [up_ne _ _ e] at hk
      by_cases e2 : k = i
      · subst e2; exact up_at _ _ _
      · rw [up_ne _ _ e2] at hk
        have q := h.1 k w hk hw
        by_cases e3 : k + 1 = i
        · rw [e3] at q; exact absurd q n1
        · rw [up_ne _ _ (show k + 1 ≠ i + 1 by omega), up_ne _ _ e3]; exact q
  · intro k hk
    by_cases e : k = i + 1
    · exact ⟨i, v, e, by rw [up_ne _ _ (show i ≠ i + 1 by omega), up_at], hv⟩
    · rw [up_ne _ _ e] at hk
      by_cases e2 : k = i
      · subst e2; rw [up_at] at hk; cases hk
      · rw [up_ne _ _ e2] at hk
        obtain ⟨j, w, e3, e4, e5⟩ := h.2 k hk
        refine ⟨j, w, e3, ?_, e5⟩
        by_cases e6 : j = i + 1
        · rw [e6] at e4; exact absurd e5 (m2 w e4)
        · by_cases e7 : j = i
          · omega
          · rw [up_ne _ _ e6, up_ne _ _ e7]; exact e4
theorem up_arr {r : Array Slot} {i : Nat} (hi : i < r.size) (x : Slot) : (fun k => (r.setIfInBounds i x)[k]?) = up (fun k => r[k]?) i x := by
  funext k
  show (r.setIfInBounds i x)[k]? = _
  rw [Array.getElem?_setIfInBounds]
  by_cases e : i = k
  · subst e; simp [up, hi]
  · rw [if_neg e, up_ne _ _ (Ne.symm e)]
theorem up_lst {L : List Slot} {i : Nat} (hi : i < L.length) (x : Slot) : (fun k => (L.set i x)[k]?) = up (fun k => L[k]?) i x := by
  funext k
  show (L.set i x)[k]? = _
  rw [List.getElem?_set]
  by_cases e : i = k
  · subst e; simp [up, hi]
  · rw [if_neg e, up_ne _ _ (Ne.symm e)]
def SR (ρ : Nat → Addr) (L : List Slot) (r : Array Slot) : Prop :=
  r.size = L.length ∧ (∀ (i : Nat) (v : Value), L[i]? = some (.val v) → r[i]? = some (.val (rv ρ v))) ∧ (∀ (i : Nat), L[i]? = some .second → r[i]? = some .second) ∧ WR (fun k => L[k]?) ∧ WR (fun k => r[k]?)
theorem SR.get {ρ : Nat → Addr} {L : List Slot} {r : Array Slot} (h : SR ρ L r) {i : Nat} {v : Value} (e : L[i]? = some (.val v)) : r[i]? = some (.val (rv ρ v)) := h.2.1 i v e
/-- a store of one word over nothing or one word -/
theorem SR.st1 {ρ : Nat → Addr} {L : List Slot} {r : Array Slot} {i : Nat} {v : Value} (h : SR ρ L r) (ho : C1 L[i]?) (hv : v.category = 1) :
    ∃ r', storeLocals r i (rv ρ v) = some r' ∧ SR ρ (L.set i (.val v)) r' := by
  obtain ⟨h1, h2, h3, h4, h5⟩ := h
  have hi : i < L.length := by
    rcases ho with h | ⟨w, h, -⟩ <;> exact (List.getElem?_eq_some_iff.mp h).1
  have hir : i < r.size := by omega
  have hcv : (rv ρ v).category = 1 := by rw [rv_cat]; exact hv
  have hcx : C1 (some (Slot.val (rv ρ v))) := Or.inr ⟨_, rfl, hcv⟩
  obtain ⟨n1, n2⟩ := ho.not2
  have fin : ∀ r' : Array Slot, r'.size = r.size → WR (fun k => r'[k]?) → r'[i]? = some (.val (rv ρ v)) → (∀ k, k ≠ i → r'[k]? = r[k]? ∨ ∀ s, L[k]? = some s → s = .unset) → SR ρ (L.set i (.val v)) r' := by
    intro r' a1 a2 a3 a4
    refine ⟨by rw [a1, h1, List.length_set], ?_, ?_, by rw [up_lst hi]; exact h4.one ho (Or.inr ⟨v, rfl, hv⟩), a2⟩
    · intro k w hk
      rw [List.getElem?_set] at hk
      by_cases e : i = k
      · subst e; simp [hi] at hk; subst hk; exact a3
      · rw [if_neg e] at hk
        rcases a4 k (Ne.symm e) with q | q
        · rw [q]; exact h2 k w hk
        · cases q _ hk
    · intro k hk
      rw [List.getElem?_set] at hk
      by_cases e : i = k
      · subst e; simp [hi] at hk
      · rw [if_neg e] at hk
        rcases a4 k (Ne.symm e) with q | q
        · rw [q]; exact h3 k hk
        · cases q _ hk
  obtain ⟨q, hq⟩ : ∃ q, r[i]? = some q := ⟨_, Array.getElem?_eq_getElem hir⟩
  have plain : C1 (r[i]?) → ∃ r', storeLocals r i (rv ρ v) = some r' ∧ SR ρ (L.set i (.val v)) r' := by
    intro hC
    have hs : storeLocals r i (rv ρ v) = some (r.setIfInBounds i (.val (rv ρ v))) := by
      rcases hC with e | ⟨w, e, hw⟩
      · exact XS.store1 e (Or.inl rfl) hcv
      · exact XS.store1 e (Or.inr ⟨w, rfl, hw⟩) hcv
    refine ⟨_, hs, fin _ (by simp) (by rw [up_arr hir]; exact h5.one hC hcx) (by simp [hir]) ?_⟩
    intro k hk
    exact Or.inl (Array.getElem?_setIfInBounds_ne (Ne.symm hk))
  cases q with
  | unset => exact plain (Or.inl hq)
  | val w =>
    by_cases hw : w.category = 2
    · have q2 := h5.1 i w hq hw
      have hj : i + 1 < r.size := (Array.getElem?_eq_some_iff.mp q2).1
      have Lu : ∀ k, (k = i ∨ k = i + 1) → ∀ s, L[k]? = some s → s = .unset := by
        intro k hk s hs
        cases s with
        | unset => rfl
        | second =>
          rcases hk with rfl | rfl
          · exact absurd hs n1
          · obtain ⟨j, u, e1, e2, e3⟩ := h4.2 _ hs
            have : j = i := by omega
            subst this
            exact absurd e3 (n2 u e2)
        | val u =>
          rcases hk with rfl | rfl
          · have := h2 _ _ hs
            rw [hq] at this
            cases this
            rw [rv_cat] at hw
            exact absurd hw (n2 u hs)
          · have := h2 _ _ hs
            have q3 : r[i + 1]? = some .second := q2
            rw [q3] at this; cases this
      have hs : storeLocals r i (rv ρ v) = some ((r.setIfInBounds (i + 1) .unset).setIfInBounds i (.val (rv ρ v))) := by
        simp [storeLocals, storeSelf, setAt, hq, (Array.getElem?_eq_some_iff.mp hq).2, hw, hj, hir, hcv]
      refine ⟨_, hs, fin _ (by simp) ?_ (by simp [hir]) ?_⟩
      · have e : (fun k => ((r.setIfInBounds (i + 1) .unset).setIfInBounds i (.val (rv ρ v)))[k]?) = up (up (up (fun k => r[k]?) i .unset) (i + 1) .unset) i (.val (rv ρ v)) := by
          rw [up_arr (by simpa using hir), up_arr hj]
          funext k
          simp only [up]
          by_cases e : k = i
          · simp [e]
          · simp [e]
        rw [e]
        exact (h5.clr hq hw).one (Or.inl (by simp [up])) hcx
      · intro k hk
        by_cases e : k = i + 1
        · exact Or.inr (Lu k (Or.inr e))
        · left
          rw [Array.getElem?_setIfInBounds_ne (Ne.symm hk), Array.getElem?_setIfInBounds_ne (Ne.symm e)]
    · refine plain (Or.inr ⟨w, hq, ?_⟩)
      cases w <;> simp [Value.category] at hw ⊢
  | second =>
    obtain ⟨j, u, e1, e2, e3⟩ := h5.2 i hq
    subst e1
    have e2' : r[j]? = some (.val u) := e2
    have hj : j < r.size := by omega
    have Lu : ∀ s, L[j]? = some s → s = .unset := by
      intro s hs
      cases s with
      | unset => rfl
      | second => have := h3 _ hs; rw [e2'] at this; cases this
      | val w =>
        have := h2 _ _ hs
        rw [e2'] at this
        cases this
        rw [rv_cat] at e3
        exact absurd (h4.1 j w hs e3) n1
    have hs : storeLocals r (j + 1) (rv ρ v) = some ((r.setIfInBounds j .unset).setIfInBounds (j + 1) (.val (rv ρ v))) := by
      simp [storeLocals, storeSelf, setAt, hq, (Array.getElem?_eq_some_iff.mp hq).2, hj, hir, hcv]
    refine ⟨_, hs, fin _ (by simp) ?_ (by simp [hir]) ?_⟩
    · have e : (fun k => ((r.setIfInBounds j .unset).setIfInBounds (j + 1) (.val (rv ρ v)))[k]?) = up (up (up (fun k => r[k]?) j .unset) (j + 1) .unset) (j + 1) (.val (rv ρ v)) := by
        rw [up_arr (by simpa using hir), up_arr hj]
        funext k
        simp only [up]
        by_cases e : k = j + 1
        · simp [e]
        · simp [e]
      rw [e]
      exact (h5.clr e2 e3).one (Or.inl (by simp [up])) hcx
    · intro k hk
      by_cases e : k = j
      · subst e; exact Or.inr Lu
      · left
        rw [Array.getElem?_setIfInBounds_ne (Ne.symm hk), Array.getElem?_setIfInBounds_ne (Ne.symm e)]
end Jvm.Own

namespace Jvm.Own
open Jvm Jvm.ClassFile Sem Op Lib Jvm.Free Jvm.Stand Jvm.LawKit Jvm.RoadKit
theorem cat12 (w : Value) (h : ¬ w.category = 2) : w.category = 1 := by cases w <;> simp [Value.category] at h ⊢
theorem getset_ne {r : Array Slot} {i k : Nat} {x t : Slot} (h : r[k]? = some t) (ne : i ≠ k) (hk : k < (r.setIfInBounds i x).size) : (r.setIfInBounds i x)[k] = t := by
  have q : (r.setIfInBounds i x)[k]? = some t := by rw [Array.getElem?_setIfInBounds_ne ne]; exact h
  exact (Array.getElem?_eq_some_iff.mp q).2
/-- a store of two words over nothing or single words -/
theorem SR.st2 {ρ : Nat → Addr} {L : List Slot} {r : Array Slot} {i : Nat} {v : Value} (h : SR ρ L r) (ho : C1 L[i]?) (ho' : C1 L[i + 1]?) (hv : v.category = 2) :
    ∃ r', storeLocals r i (rv ρ v) = some r' ∧ SR ρ ((L.set i (.val v)).set (i + 1) .second) r' := by
  obtain ⟨h1, h2, h3, h4, h5⟩ := h
  have hi : i + 1 < L.length := by
    rcases ho' with h | ⟨w, h, -⟩ <;> exact (List.getElem?_eq_some_iff.mp h).1
  have hir1 : i + 1 < r.size := by omega
  have hir : i < r.size := by omega
  have hcv : (rv ρ v).category = 2 := by rw [rv_cat]; exact hv
  obtain ⟨n1, n2⟩ := ho.not2
  obtain ⟨m1, m2⟩ := ho'.not2
  have nr : ∀ w, r[i]? = some (.val w) → ∀ u, L[i]? = some (.val u) → w.category = 2 → False := by
    intro w hw u hu hc
    have := h2 _ _ hu
    rw [hw] at this; cases this
    rw [rv_cat] at hc
    exact n2 u hu hc
  have fin : ∀ r' : Array Slot, r'.size = r.size → WR (fun k => r'[k]?) → r'[i]? = some (.val (rv ρ v)) → r'[i + 1]? = some .second → (∀ k, k ≠ i → k ≠ i + 1 → r'[k]? = r[k]? ∨ ∀ s, L[k]? = some s → s = .unset) → SR ρ ((L.set i (.val v)).set (i + 1) .second) r' := by
    intro r' a1 a2 a3 a3' a4
    refine ⟨by rw [a1, h1]; simp, ?_, ?_, by rw [up_lst (by simpa using hi), up_lst (by omega)]; exact h4.two ho ho' hv, a2⟩
    · intro k w hk
      rw [List.getElem?_set] at hk
      by_cases e : i + 1 = k
      · subst e; simp [hi] at hk
      · rw [if_neg e, List.getElem?_set] at hk
        by_cases e2 : i = k
        · subst e2; simp [show i < L.length by omega] at hk; subst hk; exact a3
        · rw [if_neg e2] at hk
          rcases a4 k (Ne.symm e2) (Ne.symm e) with q | q
          · rw [q]; exact h2 k w hk
          · cases q _ hk
    · intro k hk
      rw [List.getElem?_set] at hk
      by_cases e : i + 1 = k
      · subst e; exact a3'
      · rw [if_neg e, List.getElem?_set] at hk
        by_cases e2 : i = k
        · subst e2; simp [show i < L.length by omega] at hk
        · rw [if_neg e2] at hk
          rcases a4 k (Ne.symm e2) (Ne.symm e) with q | q
          · rw [q]; exact h3 k hk
          · cases q _ hk
  have Lun2 : ∀ u, r[i + 1]? = some (.val u) → u.category = 2 → ∀ s, L[i + 2]? = some s → s = .unset := by
    intro u hu hc s hs
    have q2 : r[i + 2]? = some .second := h5.1 (i + 1) u hu hc
    cases s with
    | unset => rfl
    | second =>
      obtain ⟨j, w, e1, e2, e3⟩ := h4.2 _ hs
      have : j = i + 1 := by omega
      subst this
      exact absurd e3 (m2 w e2)
    | val w => have := h2 _ _ hs; rw [q2] at this; cases this
  obtain ⟨q, hq⟩ : ∃ q, r[i]? = some q := ⟨_, Array.getElem?_eq_getElem hir⟩
  obtain ⟨q1, hq1⟩ : ∃ q, r[i + 1]? = some q := ⟨_, Array.getElem?_eq_getElem hir1⟩
  have ne1 : i + 1 ≠ i := by omega
  cases q with
  | unset =>
    have hC : C1 (r[i]?) := Or.inl hq
    cases q1 with
    | unset =>
      refine ⟨(r.setIfInBounds i (.val (rv ρ v))).setIfInBounds (i + 1) .second, by simp [storeLocals, storeSelf, setAt, hq, (Array.getElem?_eq_some_iff.mp hq).2, hq1, (Array.getElem?_eq_some_iff.mp hq1).2, hir, hir1, hcv, Array.getElem?_setIfInBounds], fin _ (by simp) ?_ (by simp [hir, Array.getElem?_setIfInBounds]) (by simp [hir1]) ?_⟩
      · rw [up_arr (by simpa using hir1), up_arr hir]; exact h5.two hC (Or.inl hq1) hcv
      · intro k a b; left; rw [Array.getElem?_setIfInBounds_ne (Ne.symm b), Array.getElem?_setIfInBounds_ne (Ne.symm a)]
    | second => obtain ⟨j, w, e1, e2, e3⟩ := h5.2 _ hq1; have : j = i := by omega
                subst this; have e2' : r[j]? = some (.val w) := e2; rw [hq] at e2'; cases e2'
    | val u =>
      by_cases hu : u.category = 2
      · have q2 : r[i + 2]? = some .second := h5.1 (i + 1) u hq1 hu
        have hi2 : i + 2 < r.size := (Array.getElem?_eq_some_iff.mp q2).1
        refine ⟨((r.setIfInBounds i (.val (rv ρ v))).setIfInBounds (i + 2) .unset).setIfInBounds (i + 1) .second, by simp [storeLocals, storeSelf, setAt, hq, (Array.getElem?_eq_some_iff.mp hq).2, hq1, (Array.getElem?_eq_some_iff.mp hq1).2, hir, hir1, hi2, hcv, hu, Array.getElem?_setIfInBounds], fin _ (by simp) ?_ (by simp [hir, Array.getElem?_setIfInBounds]) (by simp [hir1]) ?_⟩
        · have e : (fun k => (((r.setIfInBounds i (.val (rv ρ v))).setIfInBounds (i + 2) .unset).setIfInBounds (i + 1) .second)[k]?) = up (up (up (up (fun k => r[k]?) (i + 1) .unset) (i + 2) .unset) i (.val (rv ρ v))) (i + 1) .second := by
            rw [up_arr (by simpa using hir1), up_arr (by simpa using hi2), up_arr hir]
            funext k
            simp only [up]
            by_cases e : k = i + 1
            · simp [e]
            · by_cases e2 : k = i
              · simp [e2]
              · simp [e, e2]
          rw [e]
          exact (h5.clr hq1 hu).two (Or.inl (by simp [up, hq] <;> omega)) (Or.inl (by simp [up] <;> omega)) hcv
        · intro k a b
          by_cases e : k = i + 2
          · subst e; exact Or.inr (Lun2 u hq1 hu)
          · left; rw [Array.getElem?_setIfInBounds_ne (Ne.symm b), Array.getElem?_setIfInBounds_ne (Ne.symm e), Array.getElem?_setIfInBounds_ne (Ne.symm a)]
      · refine ⟨(r.setIfInBounds i (.val (rv ρ v))).setIfInBounds (i + 1) .second, by simp [storeLocals, storeSelf, setAt, hq, (Array.getElem?_eq_some_iff.mp hq).2, hq1, (Array.getElem?_eq_some_iff.mp hq1).2, hir, hir1, hcv, hu, Array.getElem?_setIfInBounds], fin _ (by simp) ?_ (by simp [hir, Array.getElem?_setIfInBounds]) (by simp [hir1]) ?_⟩
        · rw [up_arr (by simpa using hir1), up_arr hir]; exact h5.two hC (Or.inr ⟨u, hq1, cat12 u hu⟩) hcv
        · intro k a b; left; rw [Array.getElem?_setIfInBounds_ne (Ne.symm b), Array.getElem?_setIfInBounds_ne (Ne.symm a)]
  | val w =>
    by_cases hw : w.category = 2
    · have q2 : r[i + 1]? = some .second := h5.1 i w hq hw
      have Lu : ∀ s, L[i]? = some s → s = .unset := by
        intro s hs
        cases s with
        | unset => rfl
        | second => exact absurd hs n1
        | val u => exact (nr w hq u hs hw).elim
      refine ⟨((r.setIfInBounds (i + 1) .unset).setIfInBounds i (.val (rv ρ v))).setIfInBounds (i + 1) .second, by simp [storeLocals, storeSelf, setAt, hq, (Array.getElem?_eq_some_iff.mp hq).2, hw, hir, hir1, hcv, Array.getElem?_setIfInBounds], fin _ (by simp) ?_ (by simp [hir, Array.getElem?_setIfInBounds]) (by simp [hir1]) ?_⟩
      · have e : (fun k => (((r.setIfInBounds (i + 1) .unset).setIfInBounds i (.val (rv ρ v))).setIfInBounds (i + 1) .second)[k]?) = up (up (up (up (fun k => r[k]?) i .unset) (i + 1) .unset) i (.val (rv ρ v))) (i + 1) .second := by
          rw [up_arr (by simpa using hir1), up_arr (by simpa using hir), up_arr hir1]
          funext k
          simp only [up]
          by_cases e : k = i + 1
          · simp [e]
          · by_cases e2 : k = i
            · simp [e2]
            · simp [e, e2]
        rw [e]
        exact (h5.clr hq hw).two (Or.inl (by simp [up] <;> omega)) (Or.inl (by simp [up] <;> omega)) hcv
      · intro k a b
        left; rw [Array.getElem?_setIfInBounds_ne (Ne.symm b), Array.getElem?_setIfInBounds_ne (Ne.symm a), Array.getElem?_setIfInBounds_ne (Ne.symm b)]
    · have hC : C1 (r[i]?) := Or.inr ⟨w, hq, cat12 w hw⟩
      cases q1 with
      | unset =>
        refine ⟨(r.setIfInBounds i (.val (rv ρ v))).setIfInBounds (i + 1) .second, by simp [storeLocals, storeSelf, setAt, hq, (Array.getElem?_eq_some_iff.mp hq).2, hq1, (Array.getElem?_eq_some_iff.mp hq1).2, hw, hir, hir1, hcv, Array.getElem?_setIfInBounds], fin _ (by simp) ?_ (by simp [hir, Array.getElem?_setIfInBounds]) (by simp [hir1]) ?_⟩
        · rw [up_arr (by simpa using hir1), up_arr hir]; exact h5.two hC (Or.inl hq1) hcv
        · intro k a b; left; rw [Array.getElem?_setIfInBounds_ne (Ne.symm b), Array.getElem?_setIfInBounds_ne (Ne.symm a)]
      | second => obtain ⟨j, u, e1, e2, e3⟩ := h5.2 _ hq1; have : j = i := by omega
                  subst this; have e2' : r[j]? = some (.val u) := e2; rw [hq] at e2'; cases e2'; exact absurd e3 hw
      | val u =>
        by_cases hu : u.category = 2
        · have q2 : r[i + 2]? = some .second := h5.1 (i + 1) u hq1 hu
          have hi2 : i + 2 < r.size := (Array.getElem?_eq_some_iff.mp q2).1
          refine ⟨((r.setIfInBounds i (.val (rv ρ v))).setIfInBounds (i + 2) .unset).setIfInBounds (i + 1) .second, by simp [storeLocals, storeSelf, setAt, hq, (Array.getElem?_eq_some_iff.mp hq).2, hq1, (Array.getElem?_eq_some_iff.mp hq1).2, hw, hir, hir1, hi2, hcv, hu, Array.getElem?_setIfInBounds], fin _ (by simp) ?_ (by simp [hir, Array.getElem?_setIfInBounds]) (by simp [hir1]) ?_⟩
          · have e : (fun k => (((r.setIfInBounds i (.val (rv ρ v))).setIfInBounds (i + 2) .unset).setIfInBounds (i + 1) .second)[k]?) = up (up (up (up (fun k => r[k]?) (i + 1) .unset) (i + 2) .unset) i (.val (rv ρ v))) (i + 1) .second := by
              rw [up_arr (by simpa using hir1), up_arr (by simpa using hi2), up_arr hir]
              funext k
              simp only [up]
              by_cases e : k = i + 1
              · simp [e]
              · by_cases e2 : k = i
                · simp [e2]
                · simp [e, e2]
            rw [e]
            exact (h5.clr hq1 hu).two (Or.inr ⟨w, by simp [up, hq] <;> omega, cat12 w hw⟩) (Or.inl (by simp [up] <;> omega)) hcv
          · intro k a b
            by_cases e : k = i + 2
            · subst e; exact Or.inr (Lun2 u hq1 hu)
            · left; rw [Array.getElem?_setIfInBounds_ne (Ne.symm b), Array.getElem?_setIfInBounds_ne (Ne.symm e), Array.getElem?_setIfInBounds_ne (Ne.symm a)]
        · refine ⟨(r.setIfInBounds i (.val (rv ρ v))).setIfInBounds (i + 1) .second, by simp [storeLocals, storeSelf, setAt, hq, (Array.getElem?_eq_some_iff.mp hq).2, hq1, (Array.getElem?_eq_some_iff.mp hq1).2, hw, hir, hir1, hcv, hu, Array.getElem?_setIfInBounds], fin _ (by simp) ?_ (by simp [hir, Array.getElem?_setIfInBounds]) (by simp [hir1]) ?_⟩
          · rw [up_arr (by simpa using hir1), up_arr hir]; exact h5.two hC (Or.inr ⟨u, hq1, cat12 u hu⟩) hcv
          · intro k a b; left; rw [Array.getElem?_setIfInBounds_ne (Ne.symm b), Array.getElem?_setIfInBounds_ne (Ne.symm a)]
  | second =>
    obtain ⟨j, y, e1, e2, e3⟩ := h5.2 i hq
    subst e1
    have e2' : r[j]? = some (.val y) := e2
    have hj : j < r.size := by omega
    have Lu : ∀ s, L[j]? = some s → s = .unset := by
      intro s hs
      cases s with
      | unset => rfl
      | second => have := h3 _ hs; rw [e2'] at this; cases this
      | val w =>
        have := h2 _ _ hs
        rw [e2'] at this
        cases this
        rw [rv_cat] at e3
        exact absurd (h4.1 j w hs e3) n1
    have W5 := h5.clr e2 e3
    cases q1 with
    | unset =>
      refine ⟨((r.setIfInBounds j .unset).setIfInBounds (j + 1) (.val (rv ρ v))).setIfInBounds (j + 1 + 1) .second, by simp [storeLocals, storeSelf, setAt, hq, (Array.getElem?_eq_some_iff.mp hq).2, hq1, (Array.getElem?_eq_some_iff.mp hq1).2, getset_ne hq1 (show j ≠ j + 1 + 1 by omega), hj, hir, hir1, hcv, Array.getElem?_setIfInBounds], fin _ (by simp) ?_ (by simp [hir, Array.getElem?_setIfInBounds]) (by simp [hir1]) ?_⟩
      · have e : (fun k => (((r.setIfInBounds j .unset).setIfInBounds (j + 1) (.val (rv ρ v))).setIfInBounds (j + 1 + 1) .second)[k]?) = up (up (up (up (fun k => r[k]?) j .unset) (j + 1) .unset) (j + 1) (.val (rv ρ v))) (j + 1 + 1) .second := by
          rw [up_arr (by simpa using hir1), up_arr (by simpa using hir), up_arr hj]
          funext k
          simp only [up]
          by_cases e : k = j + 1 + 1
          · simp [e]
          · by_cases e2 : k = j + 1
            · simp [e2]
            · simp [e, e2]
        rw [e]
        exact W5.two (Or.inl (by simp [up] <;> omega)) (Or.inl (by simp [up, hq1] <;> omega)) hcv
      · intro k a b
        by_cases e : k = j
        · subst e; exact Or.inr Lu
        · left; rw [Array.getElem?_setIfInBounds_ne (Ne.symm b), Array.getElem?_setIfInBounds_ne (Ne.symm a), Array.getElem?_setIfInBounds_ne (Ne.symm e)]
    | second => obtain ⟨k, w, f1, f2, f3⟩ := h5.2 _ hq1; have : k = j + 1 := by omega
                subst this; have f2' : r[j + 1]? = some (.val w) := f2; rw [hq] at f2'; cases f2'
    | val u =>
      by_cases hu : u.category = 2
      · have q2 : r[j + 1 + 2]? = some .second := h5.1 (j + 1 + 1) u hq1 hu
        have hi2 : j + 1 + 2 < r.size := (Array.getElem?_eq_some_iff.mp q2).1
        refine ⟨(((r.setIfInBounds j .unset).setIfInBounds (j + 1) (.val (rv ρ v))).setIfInBounds (j + 1 + 2) .unset).setIfInBounds (j + 1 + 1) .second, by simp [storeLocals, storeSelf, setAt, hq, (Array.getElem?_eq_some_iff.mp hq).2, hq1, (Array.getElem?_eq_some_iff.mp hq1).2, getset_ne hq1 (show j ≠ j + 1 + 1 by omega), hj, hir, hir1, hi2, hcv, hu, Array.getElem?_setIfInBounds], fin _ (by simp) ?_ (by simp [hir, Array.getElem?_setIfInBounds]) (by simp [hir1]) ?_⟩
        · have e : (fun k => ((((r.setIfInBounds j .unset).setIfInBounds (j + 1) (.val (rv ρ v))).setIfInBounds (j + 1 + 2) .unset).setIfInBounds (j + 1 + 1) .second)[k]?) = up (up (up (up (up (up (fun k => r[k]?) j .unset) (j + 1) .unset) (j + 1 + 1) .unset) (j + 1 + 1 + 1) .unset) (j + 1) (.val (rv ρ v))) (j + 1 + 1) .second := by
            rw [up_arr (by simpa using hir1), up_arr (by simpa using hi2), up_arr (by simpa using hir), up_arr hj]
            funext k
            simp only [up]
            by_cases e : k = j + 1 + 1
            · simp [e]
            · by_cases e2 : k = j + 1
              · simp [e2]
              · simp [e, e2]
          rw [e]
          exact (W5.clr (j := j + 1 + 1) (v := u) (by simp [up, hq1] <;> omega) hu).two (Or.inl (by simp [up] <;> omega)) (Or.inl (by simp [up] <;> omega)) hcv
        · intro k a b
          by_cases e : k = j
          · subst e; exact Or.inr Lu
          · by_cases e4 : k = j + 1 + 2
            · subst e4; exact Or.inr (Lun2 u hq1 hu)
            · left; rw [Array.getElem?_setIfInBounds_ne (Ne.symm b), Array.getElem?_setIfInBounds_ne (Ne.symm e4), Array.getElem?_setIfInBounds_ne (Ne.symm a), Array.getElem?_setIfInBounds_ne (Ne.symm e)]
      · refine ⟨((r.setIfInBounds j .unset).setIfInBounds (j + 1) (.val (rv ρ v))).setIfInBounds (j + 1 + 1) .second, by simp [storeLocals, storeSelf, setAt, hq, (Array.getElem?_eq_some_iff.mp hq).2, hq1, (Array.getElem?_eq_some_iff.mp hq1).2, getset_ne hq1 (show j ≠ j + 1 + 1 by omega), hj, hir, hir1, hcv, hu, Array.getElem?_setIfInBounds], fin _ (by simp) ?_ (by simp [hir, Array.getElem?_setIfInBounds]) (by simp [hir1]) ?_⟩
        · have e : (fun k => (((r.setIfInBounds j .unset).setIfInBounds (j + 1) (.val (rv ρ v))).setIfInBounds (j + 1 + 1) .second)[k]?) = up (up (up (up (fun k => r[k]?) j .unset) (j + 1) .unset) (j + 1) (.val (rv ρ v))) (j + 1 + 1) .second := by
            rw [up_arr (by simpa using hir1), up_arr (by simpa using hir), up_arr hj]
            funext k
            simp only [up]
            by_cases e : k = j + 1 + 1
            · simp [e]
            · by_cases e2 : k = j + 1
              · simp [e2]
              · simp [e, e2]
          rw [e]
          exact W5.two (Or.inl (by simp [up] <;> omega)) (Or.inr ⟨u, by simp [up, hq1] <;> omega, cat12 u hu⟩) hcv
        · intro k a b
          by_cases e : k = j
          · subst e; exact Or.inr Lu
          · left; rw [Array.getElem?_setIfInBounds_ne (Ne.symm b), Array.getElem?_setIfInBounds_ne (Ne.symm a), Array.getElem?_setIfInBounds_ne (Ne.symm e)]
/-- which lists of slots are laid out well -/
def wfL : List Slot → Bool
  | [] => true
  | .unset :: t => wfL t
  | .second :: _ => false
  | [.val v] => decide (v.category = 1)
  | .val v :: .second :: t => decide (v.category = 2) && wfL t
  | .val v :: .unset :: t => decide (v.category = 1) && wfL t
  | .val v :: .val u :: t => decide (v.category = 1) && wfL (.val u :: t)
/-- the walk forgets the variables that the mask marks -/
def fg : List Bool → List Slot → List Slot
  | true :: b, _ :: t => .unset :: fg b t
  | false :: b, s :: t => s :: fg b t
  | _, t => t
theorem WR.nil : WR (fun k => ([] : List Slot)[k]?) := ⟨fun i v h => by simp at h, fun i h => by simp at h⟩
theorem WR.cons1 {t : List Slot} {s : Slot} (h : WR (fun k => t[k]?)) (hs : C1 (some s)) : WR (fun k => (s :: t)[k]?) := by
  obtain ⟨n1, n2⟩ := hs.not2
  constructor
  · intro i v hi hv
    cases i with
    | zero => exact absurd hv (n2 v (by simpa using hi))
    | succ i => have := h.1 i v (by simpa using hi) hv; simpa using this
  · intro i hi
    cases i with
    | zero => exact absurd (by simpa using hi) n1
    | succ i => obtain ⟨j, v, e1, e2, e3⟩ := h.2 i (by simpa using hi); exact ⟨j + 1, v, by omega, by simpa using e2, e3⟩
theorem WR.cons2 {t : List Slot} {w : Value} (h : WR (fun k => t[k]?)) (hw : w.category = 2) : WR (fun k => (Slot.val w :: .second :: t)[k]?) := by
  constructor
  · intro i v hi hv
    match i with
    | 0 => simp
    | 1 => simp at hi
    | i + 2 => have := h.1 i v (by simpa using hi) hv; simpa using this
  · intro i hi
    match i with
    | 0 => simp at hi
    | 1 => exact ⟨0, w, rfl, by simp, hw⟩
    | i + 2 => obtain ⟨j, v, e1, e2, e3⟩ := h.2 i (by simpa using hi); exact ⟨j + 2, v, by omega, by simpa using e2, e3⟩
theorem WR.of_wfL : (L : List Slot) → wfL L = true → WR (fun k => L[k]?)
  | [], _ => WR.nil
  | .unset :: t, h => (WR.of_wfL t h).cons1 (Or.inl rfl)
  | .second :: _, h => by simp [wfL] at h
  | [.val v], h => WR.nil.cons1 (Or.inr ⟨v, rfl, by simpa [wfL] using h⟩)
  | .val v :: .second :: t, h => by simp [wfL] at h; exact (WR.of_wfL t h.2).cons2 h.1
  | .val v :: .unset :: t, h => by simp [wfL] at h; exact ((WR.of_wfL t h.2).cons1 (Or.inl rfl)).cons1 (Or.inr ⟨v, rfl, h.1⟩)
  | .val v :: .val u :: t, h => by
    have h' : decide (v.category = 1) = true ∧ wfL (.val u :: t) = true := by rw [wfL, Bool.and_eq_true] at h; exact h
    exact (WR.of_wfL (.val u :: t) h'.2).cons1 (Or.inr ⟨v, rfl, of_decide_eq_true h'.1⟩)
theorem fg_length : (b : List Bool) → (L : List Slot) → (fg b L).length = L.length
  | true :: b, _ :: t => by simp [fg, fg_length b t]
  | false :: b, s :: t => by simp [fg, fg_length b t]
  | [], t => by simp [fg]
  | true :: _, [] => by simp [fg]
  | false :: _, [] => by simp [fg]
theorem fg_get : (b : List Bool) → (L : List Slot) → ∀ (i : Nat) (s : Slot), (fg b L)[i]? = some s → s = .unset ∨ L[i]? = some s
  | true :: b, x :: t, i, s, h => by
    cases i with
    | zero => left; simpa [fg] using h.symm
    | succ i => have := fg_get b t i s (by simpa [fg] using h); simpa using this
  | false :: b, x :: t, i, s, h => by
    cases i with
    | zero => right; simpa [fg] using h
    | succ i => have := fg_get b t i s (by simpa [fg] using h); simpa using this
  | [], t, i, s, h => by right; simpa [fg] using h
  | true :: _, [], i, s, h => by right; simpa [fg] using h
  | false :: _, [], i, s, h => by right; simpa [fg] using h
theorem SR.forget {ρ : Nat → Addr} {L : List Slot} {r : Array Slot} (h : SR ρ L r) (b : List Bool) (hw : wfL (fg b L) = true) : SR ρ (fg b L) r := by
  obtain ⟨h1, h2, h3, h4, h5⟩ := h
  refine ⟨by rw [fg_length]; exact h1, fun i v hi => ?_, fun i hi => ?_, WR.of_wfL _ hw, h5⟩
  · rcases fg_get _ _ _ _ hi with e | e
    · cases e
    · exact h2 i v e
  · rcases fg_get _ _ _ _ hi with e | e
    · cases e
    · exact h3 i e
/-- at a method's entry -/
theorem a2l (ρ : Nat → Addr) (as : List Value) (mx : Nat) : argsToLocals (as.map (rv ρ)).toArray mx = (argsToLocals as.toArray mx).map (rs ρ) := by
  have key : ∀ (as : List Value) (acc : Array Slot), (as.map (rv ρ)).foldl (fun acc v => if v.category = 2 then (acc.push (.val v)).push .second else acc.push (.val v)) (acc.map (rs ρ)) = (as.foldl (fun acc v => if v.category = 2 then (acc.push (.val v)).push .second else acc.push (.val v)) acc).map (rs ρ) := by
    intro as
    induction as with
    | nil => intro acc; rfl
    | cons v t ih =>
      intro acc
      simp only [List.map_cons, List.foldl_cons, rv_cat]
      by_cases hv : v.category = 2
      · rw [if_pos hv, if_pos hv, ← ih]; simp [Array.map_push, rs]
      · rw [if_neg hv, if_neg hv, ← ih]; simp [Array.map_push, rs]
  have k0 := key as #[]
  simp only [Array.map_empty] at k0
  simp only [argsToLocals, List.foldl_toArray', List.size_toArray]
  simp only [k0, Array.map_append, Array.size_map, Array.map_replicate, rs]
theorem SR.entry (ρ : Nat → Addr) (as : List Value) (mx : Nat) {L : List Slot} (hL : (argsToLocals as.toArray mx).toList = L) (hw : wfL L = true) : SR ρ L (argsToLocals (as.map (rv ρ)).toArray mx) := by
  subst hL
  rw [a2l]
  have hW := WR.of_wfL _ hw
  generalize argsToLocals as.toArray mx = A at hW
  have g : ∀ i : Nat, (A.map (rs ρ))[i]? = (A.toList[i]?).map (rs ρ) := by intro i; simp
  refine ⟨by simp, fun i v hi => by rw [g, hi]; rfl, fun i hi => by rw [g, hi]; rfl, hW, ?_, ?_⟩
  · intro i v hi hv
    have hi' : (A.toList[i]?).map (rs ρ) = some (.val v) := by rw [← g]; exact hi
    cases hs : A.toList[i]? with
    | none => rw [hs] at hi'; cases hi'
    | some s =>
      rw [hs] at hi'
      cases s with
      | unset => cases hi'
      | second => cases hi'
      | val u =>
        cases hi'
        have := hW.1 i u hs (by rwa [rv_cat] at hv)
        show (A.map (rs ρ))[i + 1]? = _
        rw [g]
        have t : A.toList[i + 1]? = some .second := this
        rw [t]; rfl
  · intro i hi
    have hi' : (A.toList[i]?).map (rs ρ) = some .second := by rw [← g]; exact hi
    cases hs : A.toList[i]? with
    | none => rw [hs] at hi'; cases hi'
    | some s =>
      rw [hs] at hi'
      cases s with
      | unset => cases hi'
      | val u => cases hi'
      | second =>
        obtain ⟨j, v, e1, e2, e3⟩ := hW.2 i hs
        refine ⟨j, rv ρ v, e1, ?_, by rw [rv_cat]; exact e3⟩
        show (A.map (rs ρ))[j]? = _
        rw [g]
        have t : A.toList[j]? = some (.val v) := e2
        rw [t]; rfl
end Jvm.Own

namespace Jvm.Own
open Jvm Jvm.ClassFile Sem Op Lib Jvm.Free Jvm.Stand Jvm.LawKit Jvm.RoadKit
/-! ## 2. A method's data; what it means that a walk from a point of it comes to an end -/
/-- name, bytes, number of variables, what it returns, room, cells that it makes -/
abbrev MD : Type := MethodName × ByteArray × Nat × Option FieldType × Room × Nat
abbrev nmOf (md : MD) : MethodName := md.1
abbrev byOf (md : MD) : ByteArray := md.2.1
abbrev mxOf (md : MD) : Nat := md.2.2.1
abbrev rtOf (md : MD) : Option FieldType := md.2.2.2.1
abbrev rmOf (md : MD) : Room := md.2.2.2.2.1
abbrev exOf (md : MD) : Nat := md.2.2.2.2.2
/-- the class whose methods are walked; where the walk's references point; the first new address; what the heap holds; what a walk leaves alone -/
abbrev Mode (μ E : Type) : Type := String × (E → Nat → Addr) × (E → Nat) × (E → μ → Heap → Prop) × (E → Heap → Heap → Prop)
abbrev Mode.own {μ E : Type} (M : Mode μ E) : String := M.1
abbrev Mode.rho {μ E : Type} (M : Mode μ E) : E → Nat → Addr := M.2.1
abbrev Mode.lo {μ E : Type} (M : Mode μ E) : E → Nat := M.2.2.1
abbrev Mode.rel {μ E : Type} (M : Mode μ E) : E → μ → Heap → Prop := M.2.2.2.1
abbrev Mode.frm {μ E : Type} (M : Mode μ E) : E → Heap → Heap → Prop := M.2.2.2.2
def Kn (Z : State) (own : String) (md : MD) (p : Program) (s : State) (m : MethodId) (meth : Method) (c : Code) : Prop :=
  p.tables.exec = Jvm.exec ∧ Z.Warmed39 s.vm ∧ s.vm.findClass own = some m.cls ∧ meth.name = (nmOf md).name ∧ meth.sig.returnType = rtOf md ∧ meth.locks = false ∧ c.code = byOf md ∧ c.maxLocals = mxOf md
def Done {μ E : Type} (l : Launch) (M : Mode μ E) (md : MD) (Q : Option Value → μ → Prop) (en : E) (p : Program) (e : Env) (s : State) (m : MethodId) (args : Array Value) (below : List Frame) (meth : Method) (c : Code) (T : State) (g : JFrame) : Prop :=
  ∃ (T' : State) (locs' : List Loc) (su' : Nat) (v : Option Value) (w' : μ), Stand p l e (rmOf md) s m args below meth c T' locs' (exOf md) su' ∧ exOf md ≤ (rmOf md).cells ∧ su' ≤ (rmOf md).slots ∧ T'.heap.size = s.heap.size + exOf md ∧ Fr (M.lo en) locs' ∧ M.rel en w' T'.heap ∧ M.frm en T.heap T'.heap ∧
    (meth.sig.returnType = none → v = none) ∧ (∀ ρ x, v = some x → rv ρ x = x) ∧ Q v w' ∧
    ∀ fs, (∀ (f : JFrame) (acts : List Action), f.method = m → f.locked = none → f.entered = [] → (doReturn e (T'.setTop f) acts v).1 = T'.setFrames fs) → Steps p.tables e below (T.setTop g) (T'.setFrames fs)
/-- from the pc, with these variables and operands, over w, the walk returns with what Q says -/
def Wk {μ E : Type} (l : Launch) (Z : State) (M : Mode μ E) (md : MD) (pc : Nat) (L : List Slot) (S : List Value) (w : μ) (cu su : Nat) (Q : Option Value → μ → Prop) : Prop :=
  ∀ (en : E) (p : Program) (e : Env) (s : State) (m : MethodId) (args : Array Value) (below : List Frame) (meth : Method) (c : Code) (T : State) (locs : List Loc) (r : Array Slot),
    Stand p l e (rmOf md) s m args below meth c T locs cu su → Kn Z M.own md p s m meth c → T.heap.size = s.heap.size + cu → Fr (M.lo en) locs → M.rel en w T.heap → SR (M.rho en) L r →
    Done l M md Q en p e s m args below meth c T (mkF m pc r (S.map (rv (M.rho en))))
section Steps
variable {μ E : Type} {l : Launch} {Z : State} {M : Mode μ E} {md : MD} {pc pc' : Nat} {L L' : List Slot} {S : List Value} {w : μ} {cu su : Nat} {Q : Option Value → μ → Prop}
theorem Done.pre {en : E} {p : Program} {e : Env} {s : State} {m : MethodId} {args : Array Value} {below : List Frame} {meth : Method} {c : Code} {T T1 : State} {g g1 : JFrame} (h : Done l M md Q en p e s m args below meth c T1 g1) (hT : ∀ x, M.frm en T1.heap x → M.frm en T.heap x)
    (st : ∀ t, Steps p.tables e below (T1.setTop g1) t → Steps p.tables e below (T.setTop g) t) : Done l M md Q en p e s m args below meth c T g := by
  obtain ⟨T', locs', su', v, w', a1, a2, a3, a4, a5, a6, a7, a8, a9, a10, a11⟩ := h
  exact ⟨T', locs', su', v, w', a1, a2, a3, a4, a5, a6, hT _ a7, a8, a9, a10, fun fs hf => st _ (a11 fs hf)⟩
theorem Wk.mono {Q' : Option Value → μ → Prop} (h : Wk l Z M md pc L S w cu su Q) (hq : ∀ v w', Q v w' → Q' v w') : Wk l Z M md pc L S w cu su Q' := by
  intro en p e s m args below meth c T locs r X K hz hF hR hL
  obtain ⟨T', locs', su', v, w', a1, a2, a3, a4, a5, a6, a7, a8, a9, a10, a11⟩ := h en p e s m args below meth c T locs r X K hz hF hR hL
  exact ⟨T', locs', su', v, w', a1, a2, a3, a4, a5, a6, a7, a8, a9, hq _ _ a10, a11⟩
abbrev InsA (md : MD) (pc : Nat) (i : Instr) (n pc' : Nat) : Prop := decode (byOf md) pc = .ok (i, n) ∧ pc + n = pc'
abbrev InsB (md : MD) (pc : Nat) (i : Instr) (n pc' : Nat) (o : Int) (pt : Nat) : Prop := decode (byOf md) pc = .ok (i, n) ∧ pc + n = pc' ∧ 0 ≤ (pc : Int) + o ∧ ((pc : Int) + o).toNat = pt
theorem Kn.by {own : String} {p : Program} {s : State} {m : MethodId} {meth : Method} {c : Code} (K : Kn Z own md p s m meth c) : c.code = byOf md := K.2.2.2.2.2.2.1
theorem Wk.forget (b : List Bool) (hf : fg b L = L') (hw : wfL L' = true) (h : Wk l Z M md pc L' S w cu su Q) : Wk l Z M md pc L S w cu su Q :=
  fun en p e s m args below meth c T locs r X K hz hF hR hL => h en p e s m args below meth c T locs r X K hz hF hR (by subst hf; exact hL.forget b hw)
theorem Wk.iloadN {k : Fin 4} {v : Int32} (hd : InsA md pc (.iload_n k) 1 pc') (hl : L[k.val]? = some (.val (.int v))) (h : Wk l Z M md pc' L (.int v :: S) w cu su Q) : Wk l Z M md pc L (S) w cu su Q :=
  fun en p e s m args below meth c T locs r X K hz hF hR hL => by
  obtain ⟨hd, rfl⟩ := hd
  exact (h en p e s m args below meth c T locs r X K hz hF hR hL).pre (fun _ q => q) fun t k => XS.iloadN X.here K.1 rfl (hb K.by hd) (hL.get hl) k
theorem Wk.iload {k : Nat} {v : Int32} (hd : InsA md pc (.iload k) 2 pc') (hl : L[k]? = some (.val (.int v))) (h : Wk l Z M md pc' L (.int v :: S) w cu su Q) : Wk l Z M md pc L (S) w cu su Q :=
  fun en p e s m args below meth c T locs r X K hz hF hR hL => by
  obtain ⟨hd, rfl⟩ := hd
  exact (h en p e s m args below meth c T locs r X K hz hF hR hL).pre (fun _ q => q) fun t k => XS.iload X.here K.1 rfl (hb K.by hd) (hL.get hl) k
theorem Wk.lloadN {k : Fin 4} {v : Int64} (hd : InsA md pc (.lload_n k) 1 pc') (hl : L[k.val]? = some (.val (.long v))) (h : Wk l Z M md pc' L (.long v :: S) w cu su Q) : Wk l Z M md pc L (S) w cu su Q :=
  fun en p e s m args below meth c T locs r X K hz hF hR hL => by
  obtain ⟨hd, rfl⟩ := hd
  exact (h en p e s m args below meth c T locs r X K hz hF hR hL).pre (fun _ q => q) fun t k => XT.lloadN X.here K.1 rfl (hb K.by hd) (hL.get hl) k
theorem Wk.lload {k : Nat} {v : Int64} (hd : InsA md pc (.lload k) 2 pc') (hl : L[k]? = some (.val (.long v))) (h : Wk l Z M md pc' L (.long v :: S) w cu su Q) : Wk l Z M md pc L (S) w cu su Q :=
  fun en p e s m args below meth c T locs r X K hz hF hR hL => by
  obtain ⟨hd, rfl⟩ := hd
  exact (h en p e s m args below meth c T locs r X K hz hF hR hL).pre (fun _ q => q) fun t k => XT.lload X.here K.1 rfl (hb K.by hd) (hL.get hl) k
theorem Wk.aloadN {k : Fin 4} {v : Nat} (hd : InsA md pc (.aload_n k) 1 pc') (hl : L[k.val]? = some (.val (.ref v))) (h : Wk l Z M md pc' L (.ref v :: S) w cu su Q) : Wk l Z M md pc L (S) w cu su Q :=
  fun en p e s m args below meth c T locs r X K hz hF hR hL => by
  obtain ⟨hd, rfl⟩ := hd
  exact (h en p e s m args below meth c T locs r X K hz hF hR hL).pre (fun _ q => q) fun t k => XS.aloadN X.here K.1 rfl (hb K.by hd) (hL.get hl) rfl k
theorem Wk.aload {k : Nat} {v : Nat} (hd : InsA md pc (.aload k) 2 pc') (hl : L[k]? = some (.val (.ref v))) (h : Wk l Z M md pc' L (.ref v :: S) w cu su Q) : Wk l Z M md pc L (S) w cu su Q :=
  fun en p e s m args below meth c T locs r X K hz hF hR hL => by
  obtain ⟨hd, rfl⟩ := hd
  exact (h en p e s m args below meth c T locs r X K hz hF hR hL).pre (fun _ q => q) fun t k => XS.aload X.here K.1 rfl (hb K.by hd) (hL.get hl) rfl k
theorem Wk.iconst {i : Int} {z : Int32} (hd : InsA md pc (.iconst i) 1 pc') (hz' : Int32.ofInt i = z) (h : Wk l Z M md pc' L (.int z :: S) w cu su Q) : Wk l Z M md pc L (S) w cu su Q :=
  fun en p e s m args below meth c T locs r X K hz hF hR hL => by
  obtain ⟨hd, rfl⟩ := hd
  exact (h en p e s m args below meth c T locs r X K hz hF hR hL).pre (fun _ q => q) fun t k => XS.iconst X.here K.1 rfl (hb K.by hd) (by subst hz'; exact k)
theorem Wk.bipush {i : Int} {z : Int32} (hd : InsA md pc (.bipush i) 2 pc') (hz' : (Int8.ofInt i).toInt32 = z) (h : Wk l Z M md pc' L (.int z :: S) w cu su Q) : Wk l Z M md pc L (S) w cu su Q :=
  fun en p e s m args below meth c T locs r X K hz hF hR hL => by
  obtain ⟨hd, rfl⟩ := hd
  exact (h en p e s m args below meth c T locs r X K hz hF hR hL).pre (fun _ q => q) fun t k => XS.bipush X.here K.1 rfl (hb K.by hd) (by subst hz'; exact k)
theorem Wk.sipush {i : Int} {z : Int32} (hd : InsA md pc (.sipush i) 3 pc') (hz' : (Int16.ofInt i).toInt32 = z) (h : Wk l Z M md pc' L (.int z :: S) w cu su Q) : Wk l Z M md pc L (S) w cu su Q :=
  fun en p e s m args below meth c T locs r X K hz hF hR hL => by
  obtain ⟨hd, rfl⟩ := hd
  exact (h en p e s m args below meth c T locs r X K hz hF hR hL).pre (fun _ q => q) fun t k => XS.sipush X.here K.1 rfl (hb K.by hd) (by subst hz'; exact k)
theorem Wk.lconst {i : Fin 2} {z : Int64} (hd : InsA md pc (.lconst i) 1 pc') (hz' : Int64.ofNat i = z) (h : Wk l Z M md pc' L (.long z :: S) w cu su Q) : Wk l Z M md pc L (S) w cu su Q :=
  fun en p e s m args below meth c T locs r X K hz hF hR hL => by
  obtain ⟨hd, rfl⟩ := hd
  exact (h en p e s m args below meth c T locs r X K hz hF hR hL).pre (fun _ q => q) fun t k => XT.lconst X.here K.1 rfl (hb K.by hd) (by subst hz'; exact k)
theorem Wk.iadd {x y : Int32} (hd : InsA md pc (.iadd) 1 pc') (h : Wk l Z M md pc' L (.int (x + y) :: S) w cu su Q) : Wk l Z M md pc L (.int y :: .int x :: S) w cu su Q :=
  fun en p e s m args below meth c T locs r X K hz hF hR hL => by
  obtain ⟨hd, rfl⟩ := hd
  exact (h en p e s m args below meth c T locs r X K hz hF hR hL).pre (fun _ q => q) fun t k => XS.iadd X.here K.1 rfl (hb K.by hd) rfl k
theorem Wk.isub {x y : Int32} (hd : InsA md pc (.isub) 1 pc') (h : Wk l Z M md pc' L (.int (x - y) :: S) w cu su Q) : Wk l Z M md pc L (.int y :: .int x :: S) w cu su Q :=
  fun en p e s m args below meth c T locs r X K hz hF hR hL => by
  obtain ⟨hd, rfl⟩ := hd
  exact (h en p e s m args below meth c T locs r X K hz hF hR hL).pre (fun _ q => q) fun t k => XS.isub X.here K.1 rfl (hb K.by hd) rfl k
theorem Wk.imul {x y : Int32} (hd : InsA md pc (.imul) 1 pc') (h : Wk l Z M md pc' L (.int (x * y) :: S) w cu su Q) : Wk l Z M md pc L (.int y :: .int x :: S) w cu su Q :=
  fun en p e s m args below meth c T locs r X K hz hF hR hL => by
  obtain ⟨hd, rfl⟩ := hd
  exact (h en p e s m args below meth c T locs r X K hz hF hR hL).pre (fun _ q => q) fun t k => XS.imul X.here K.1 rfl (hb K.by hd) rfl k
theorem Wk.iand {x y : Int32} (hd : InsA md pc (.iand) 1 pc') (h : Wk l Z M md pc' L (.int (x &&& y) :: S) w cu su Q) : Wk l Z M md pc L (.int y :: .int x :: S) w cu su Q :=
  fun en p e s m args below meth c T locs r X K hz hF hR hL => by
  obtain ⟨hd, rfl⟩ := hd
  exact (h en p e s m args below meth c T locs r X K hz hF hR hL).pre (fun _ q => q) fun t k => XS.iand X.here K.1 rfl (hb K.by hd) rfl k
theorem Wk.ior {x y : Int32} (hd : InsA md pc (.ior) 1 pc') (h : Wk l Z M md pc' L (.int (x ||| y) :: S) w cu su Q) : Wk l Z M md pc L (.int y :: .int x :: S) w cu su Q :=
  fun en p e s m args below meth c T locs r X K hz hF hR hL => by
  obtain ⟨hd, rfl⟩ := hd
  exact (h en p e s m args below meth c T locs r X K hz hF hR hL).pre (fun _ q => q) fun t k => XT.ior X.here K.1 rfl (hb K.by hd) rfl k
theorem Wk.ixor {x y : Int32} (hd : InsA md pc (.ixor) 1 pc') (h : Wk l Z M md pc' L (.int (x ^^^ y) :: S) w cu su Q) : Wk l Z M md pc L (.int y :: .int x :: S) w cu su Q :=
  fun en p e s m args below meth c T locs r X K hz hF hR hL => by
  obtain ⟨hd, rfl⟩ := hd
  exact (h en p e s m args below meth c T locs r X K hz hF hR hL).pre (fun _ q => q) fun t k => XT.ixor X.here K.1 rfl (hb K.by hd) rfl k
theorem Wk.ishl {x y : Int32} (hd : InsA md pc (.ishl) 1 pc') (h : Wk l Z M md pc' L (.int (x <<< (y &&& 31)) :: S) w cu su Q) : Wk l Z M md pc L (.int y :: .int x :: S) w cu su Q :=
  fun en p e s m args below meth c T locs r X K hz hF hR hL => by
  obtain ⟨hd, rfl⟩ := hd
  exact (h en p e s m args below meth c T locs r X K hz hF hR hL).pre (fun _ q => q) fun t k => XT.ishl X.here K.1 rfl (hb K.by hd) rfl k
theorem Wk.ishr {x y : Int32} (hd : InsA md pc (.ishr) 1 pc') (h : Wk l Z M md pc' L (.int (x >>> (y &&& 31)) :: S) w cu su Q) : Wk l Z M md pc L (.int y :: .int x :: S) w cu su Q :=
  fun en p e s m args below meth c T locs r X K hz hF hR hL => by
  obtain ⟨hd, rfl⟩ := hd
  exact (h en p e s m args below meth c T locs r X K hz hF hR hL).pre (fun _ q => q) fun t k => XT.ishr X.here K.1 rfl (hb K.by hd) rfl k
theorem Wk.iushr {x y : Int32} (hd : InsA md pc (.iushr) 1 pc') (h : Wk l Z M md pc' L (.int (XT.ushr x y) :: S) w cu su Q) : Wk l Z M md pc L (.int y :: .int x :: S) w cu su Q :=
  fun en p e s m args below meth c T locs r X K hz hF hR hL => by
  obtain ⟨hd, rfl⟩ := hd
  exact (h en p e s m args below meth c T locs r X K hz hF hR hL).pre (fun _ q => q) fun t k => XT.iushr X.here K.1 rfl (hb K.by hd) rfl k
theorem Wk.ineg {x : Int32} (hd : InsA md pc (.ineg) 1 pc') (h : Wk l Z M md pc' L (.int (-x) :: S) w cu su Q) : Wk l Z M md pc L (.int x :: S) w cu su Q :=
  fun en p e s m args below meth c T locs r X K hz hF hR hL => by
  obtain ⟨hd, rfl⟩ := hd
  exact (h en p e s m args below meth c T locs r X K hz hF hR hL).pre (fun _ q => q) fun t k => XS.ineg X.here K.1 rfl (hb K.by hd) rfl k
theorem Wk.idiv {x y : Int32} (hd : InsA md pc (.idiv) 1 pc') (hy : y ≠ 0) (h : Wk l Z M md pc' L (.int (x / y) :: S) w cu su Q) : Wk l Z M md pc L (.int y :: .int x :: S) w cu su Q :=
  fun en p e s m args below meth c T locs r X K hz hF hR hL => by
  obtain ⟨hd, rfl⟩ := hd
  exact (h en p e s m args below meth c T locs r X K hz hF hR hL).pre (fun _ q => q) fun t k => XS.idiv X.here K.1 rfl (hb K.by hd) rfl hy k
theorem Wk.irem {x y : Int32} (hd : InsA md pc (.irem) 1 pc') (hy : y ≠ 0) (h : Wk l Z M md pc' L (.int (x % y) :: S) w cu su Q) : Wk l Z M md pc L (.int y :: .int x :: S) w cu su Q :=
  fun en p e s m args below meth c T locs r X K hz hF hR hL => by
  obtain ⟨hd, rfl⟩ := hd
  exact (h en p e s m args below meth c T locs r X K hz hF hR hL).pre (fun _ q => q) fun t k => Jvm.RoadKit.iremM X K.1 rfl (hb K.by hd) rfl hy k
theorem Wk.ladd {x y : Int64} (hd : InsA md pc (.ladd) 1 pc') (h : Wk l Z M md pc' L (.long (x + y) :: S) w cu su Q) : Wk l Z M md pc L (.long y :: .long x :: S) w cu su Q :=
  fun en p e s m args below meth c T locs r X K hz hF hR hL => by
  obtain ⟨hd, rfl⟩ := hd
  exact (h en p e s m args below meth c T locs r X K hz hF hR hL).pre (fun _ q => q) fun t k => XT.ladd X.here K.1 rfl (hb K.by hd) rfl k
theorem Wk.lsub {x y : Int64} (hd : InsA md pc (.lsub) 1 pc') (h : Wk l Z M md pc' L (.long (x - y) :: S) w cu su Q) : Wk l Z M md pc L (.long y :: .long x :: S) w cu su Q :=
  fun en p e s m args below meth c T locs r X K hz hF hR hL => by
  obtain ⟨hd, rfl⟩ := hd
  exact (h en p e s m args below meth c T locs r X K hz hF hR hL).pre (fun _ q => q) fun t k => XT.lsub X.here K.1 rfl (hb K.by hd) rfl k
theorem Wk.lmul {x y : Int64} (hd : InsA md pc (.lmul) 1 pc') (h : Wk l Z M md pc' L (.long (x * y) :: S) w cu su Q) : Wk l Z M md pc L (.long y :: .long x :: S) w cu su Q :=
  fun en p e s m args below meth c T locs r X K hz hF hR hL => by
  obtain ⟨hd, rfl⟩ := hd
  exact (h en p e s m args below meth c T locs r X K hz hF hR hL).pre (fun _ q => q) fun t k => XT.lmul X.here K.1 rfl (hb K.by hd) rfl k
theorem Wk.land {x y : Int64} (hd : InsA md pc (.land) 1 pc') (h : Wk l Z M md pc' L (.long (x &&& y) :: S) w cu su Q) : Wk l Z M md pc L (.long y :: .long x :: S) w cu su Q :=
  fun en p e s m args below meth c T locs r X K hz hF hR hL => by
  obtain ⟨hd, rfl⟩ := hd
  exact (h en p e s m args below meth c T locs r X K hz hF hR hL).pre (fun _ q => q) fun t k => XT.land X.here K.1 rfl (hb K.by hd) rfl k
theorem Wk.lor {x y : Int64} (hd : InsA md pc (.lor) 1 pc') (h : Wk l Z M md pc' L (.long (x ||| y) :: S) w cu su Q) : Wk l Z M md pc L (.long y :: .long x :: S) w cu su Q :=
  fun en p e s m args below meth c T locs r X K hz hF hR hL => by
  obtain ⟨hd, rfl⟩ := hd
  exact (h en p e s m args below meth c T locs r X K hz hF hR hL).pre (fun _ q => q) fun t k => XT.lor X.here K.1 rfl (hb K.by hd) rfl k
theorem Wk.lxor {x y : Int64} (hd : InsA md pc (.lxor) 1 pc') (h : Wk l Z M md pc' L (.long (x ^^^ y) :: S) w cu su Q) : Wk l Z M md pc L (.long y :: .long x :: S) w cu su Q :=
  fun en p e s m args below meth c T locs r X K hz hF hR hL => by
  obtain ⟨hd, rfl⟩ := hd
  exact (h en p e s m args below meth c T locs r X K hz hF hR hL).pre (fun _ q => q) fun t k => XT.lxor X.here K.1 rfl (hb K.by hd) rfl k
theorem Wk.ldiv {x y : Int64} (hd : InsA md pc (.ldiv) 1 pc') (hy : y ≠ 0) (h : Wk l Z M md pc' L (.long (x / y) :: S) w cu su Q) : Wk l Z M md pc L (.long y :: .long x :: S) w cu su Q :=
  fun en p e s m args below meth c T locs r X K hz hF hR hL => by
  obtain ⟨hd, rfl⟩ := hd
  exact (h en p e s m args below meth c T locs r X K hz hF hR hL).pre (fun _ q => q) fun t k => XT.ldiv X.here K.1 rfl (hb K.by hd) rfl hy k
theorem Wk.lrem {x y : Int64} (hd : InsA md pc (.lrem) 1 pc') (hy : y ≠ 0) (h : Wk l Z M md pc' L (.long (x - (x / y) * y) :: S) w cu su Q) : Wk l Z M md pc L (.long y :: .long x :: S) w cu su Q :=
  fun en p e s m args below meth c T locs r X K hz hF hR hL => by
  obtain ⟨hd, rfl⟩ := hd
  exact (h en p e s m args below meth c T locs r X K hz hF hR hL).pre (fun _ q => q) fun t k => XT.lrem X.here K.1 rfl (hb K.by hd) rfl hy k
theorem Wk.lshl {x : Int64} {y : Int32} (hd : InsA md pc (.lshl) 1 pc') (h : Wk l Z M md pc' L (.long (x <<< (y.toInt64 &&& 63)) :: S) w cu su Q) : Wk l Z M md pc L (.int y :: .long x :: S) w cu su Q :=
  fun en p e s m args below meth c T locs r X K hz hF hR hL => by
  obtain ⟨hd, rfl⟩ := hd
  exact (h en p e s m args below meth c T locs r X K hz hF hR hL).pre (fun _ q => q) fun t k => XT.lshl X.here K.1 rfl (hb K.by hd) rfl k
theorem Wk.lshr {x : Int64} {y : Int32} (hd : InsA md pc (.lshr) 1 pc') (h : Wk l Z M md pc' L (.long (x >>> (y.toInt64 &&& 63)) :: S) w cu su Q) : Wk l Z M md pc L (.int y :: .long x :: S) w cu su Q :=
  fun en p e s m args below meth c T locs r X K hz hF hR hL => by
  obtain ⟨hd, rfl⟩ := hd
  exact (h en p e s m args below meth c T locs r X K hz hF hR hL).pre (fun _ q => q) fun t k => XT.lshr X.here K.1 rfl (hb K.by hd) rfl k
theorem Wk.lushr {x : Int64} {y : Int32} (hd : InsA md pc (.lushr) 1 pc') (h : Wk l Z M md pc' L (.long (XT.ushrL x y) :: S) w cu su Q) : Wk l Z M md pc L (.int y :: .long x :: S) w cu su Q :=
  fun en p e s m args below meth c T locs r X K hz hF hR hL => by
  obtain ⟨hd, rfl⟩ := hd
  exact (h en p e s m args below meth c T locs r X K hz hF hR hL).pre (fun _ q => q) fun t k => XT.lushr X.here K.1 rfl (hb K.by hd) rfl k
theorem Wk.i2l {x : Int32} (hd : InsA md pc (.i2l) 1 pc') (h : Wk l Z M md pc' L (.long x.toInt64 :: S) w cu su Q) : Wk l Z M md pc L (.int x :: S) w cu su Q :=
  fun en p e s m args below meth c T locs r X K hz hF hR hL => by
  obtain ⟨hd, rfl⟩ := hd
  exact (h en p e s m args below meth c T locs r X K hz hF hR hL).pre (fun _ q => q) fun t k => XT.i2l X.here K.1 rfl (hb K.by hd) rfl k
theorem Wk.l2i {x : Int64} (hd : InsA md pc (.l2i) 1 pc') (h : Wk l Z M md pc' L (.int x.toInt32 :: S) w cu su Q) : Wk l Z M md pc L (.long x :: S) w cu su Q :=
  fun en p e s m args below meth c T locs r X K hz hF hR hL => by
  obtain ⟨hd, rfl⟩ := hd
  exact (h en p e s m args below meth c T locs r X K hz hF hR hL).pre (fun _ q => q) fun t k => XT.l2i X.here K.1 rfl (hb K.by hd) rfl k
theorem Wk.lcmp {x y : Int64} (hd : InsA md pc (.lcmp) 1 pc') (h : Wk l Z M md pc' L (.int (XT.cmpL x y) :: S) w cu su Q) : Wk l Z M md pc L (.long y :: .long x :: S) w cu su Q :=
  fun en p e s m args below meth c T locs r X K hz hF hR hL => by
  obtain ⟨hd, rfl⟩ := hd
  exact (h en p e s m args below meth c T locs r X K hz hF hR hL).pre (fun _ q => q) fun t k => XT.lcmp X.here K.1 rfl (hb K.by hd) rfl k
theorem Wk.dup {v : Value} (hd : InsA md pc (.dup) 1 pc') (hv : v.category = 1) (h : Wk l Z M md pc' L (v :: v :: S) w cu su Q) : Wk l Z M md pc L (v :: S) w cu su Q :=
  fun en p e s m args below meth c T locs r X K hz hF hR hL => by
  obtain ⟨hd, rfl⟩ := hd
  exact (h en p e s m args below meth c T locs r X K hz hF hR hL).pre (fun _ q => q) fun t k => XS.dup X.here K.1 rfl (hb K.by hd) rfl (by rw [rv_cat]; exact hv) k
theorem Wk.pop {v : Value} (hd : InsA md pc (.pop) 1 pc') (hv : v.category = 1) (h : Wk l Z M md pc' L (S) w cu su Q) : Wk l Z M md pc L (v :: S) w cu su Q :=
  fun en p e s m args below meth c T locs r X K hz hF hR hL => by
  obtain ⟨hd, rfl⟩ := hd
  exact (h en p e s m args below meth c T locs r X K hz hF hR hL).pre (fun _ q => q) fun t k => XT.pop X.here K.1 rfl (hb K.by hd) rfl (by rw [rv_cat]; exact hv) k
theorem Wk.dup2 {v u : Value} (hd : InsA md pc (.dup2) 1 pc') (hv : v.category = 1) (hu : u.category = 1) (h : Wk l Z M md pc' L (v :: u :: v :: u :: S) w cu su Q) : Wk l Z M md pc L (v :: u :: S) w cu su Q :=
  fun en p e s m args below meth c T locs r X K hz hF hR hL => by
  obtain ⟨hd, rfl⟩ := hd
  exact (h en p e s m args below meth c T locs r X K hz hF hR hL).pre (fun _ q => q) fun t k => XT.dup2 X.here K.1 rfl (hb K.by hd) rfl (by rw [rv_cat]; exact hv) (by rw [rv_cat]; exact hu) k
theorem Wk.dupX1 {v u : Value} (hd : InsA md pc (.dup_x1) 1 pc') (hv : v.category = 1) (hu : u.category = 1) (h : Wk l Z M md pc' L (v :: u :: v :: S) w cu su Q) : Wk l Z M md pc L (v :: u :: S) w cu su Q :=
  fun en p e s m args below meth c T locs r X K hz hF hR hL => by
  obtain ⟨hd, rfl⟩ := hd
  exact (h en p e s m args below meth c T locs r X K hz hF hR hL).pre (fun _ q => q) fun t k => XT.dupX1 X.here K.1 rfl (hb K.by hd) rfl (by rw [rv_cat]; exact hv) (by rw [rv_cat]; exact hu) k
theorem Wk.istoreN {k : Fin 4} {x : Int32} (hd : InsA md pc (.istore_n k) 1 pc') (ho : C1 L[k.val]?) (hl : L.set k.val (.val (.int x)) = L') (h : Wk l Z M md pc' L' S w cu su Q) : Wk l Z M md pc L (.int x :: S) w cu su Q :=
  fun en p e s m args below meth c T locs r X K hz hF hR hL => by
  obtain ⟨hd, rfl⟩ := hd
  obtain ⟨r', e1, hL2⟩ := hL.st1 (v := .int x) ho rfl
  subst hl
  exact (h en p e s m args below meth c T locs r' X K hz hF hR hL2).pre (fun _ q => q) fun t k => XS.istoreN X.here K.1 rfl (hb K.by hd) rfl e1 k
theorem Wk.istore {k : Nat} {x : Int32} (hd : InsA md pc (.istore k) 2 pc') (ho : C1 L[k]?) (hl : L.set k (.val (.int x)) = L') (h : Wk l Z M md pc' L' S w cu su Q) : Wk l Z M md pc L (.int x :: S) w cu su Q :=
  fun en p e s m args below meth c T locs r X K hz hF hR hL => by
  obtain ⟨hd, rfl⟩ := hd
  obtain ⟨r', e1, hL2⟩ := hL.st1 (v := .int x) ho rfl
  subst hl
  exact (h en p e s m args below meth c T locs r' X K hz hF hR hL2).pre (fun _ q => q) fun t k => XS.istore X.here K.1 rfl (hb K.by hd) rfl e1 k
theorem Wk.astoreN {k : Fin 4} {x : Nat} (hd : InsA md pc (.astore_n k) 1 pc') (ho : C1 L[k.val]?) (hl : L.set k.val (.val (.ref x)) = L') (h : Wk l Z M md pc' L' S w cu su Q) : Wk l Z M md pc L (.ref x :: S) w cu su Q :=
  fun en p e s m args below meth c T locs r X K hz hF hR hL => by
  obtain ⟨hd, rfl⟩ := hd
  obtain ⟨r', e1, hL2⟩ := hL.st1 (v := .ref x) ho rfl
  subst hl
  exact (h en p e s m args below meth c T locs r' X K hz hF hR hL2).pre (fun _ q => q) fun t k => XS.astoreN X.here K.1 rfl (hb K.by hd) rfl rfl e1 k
theorem Wk.astore {k : Nat} {x : Nat} (hd : InsA md pc (.astore k) 2 pc') (ho : C1 L[k]?) (hl : L.set k (.val (.ref x)) = L') (h : Wk l Z M md pc' L' S w cu su Q) : Wk l Z M md pc L (.ref x :: S) w cu su Q :=
  fun en p e s m args below meth c T locs r X K hz hF hR hL => by
  obtain ⟨hd, rfl⟩ := hd
  obtain ⟨r', e1, hL2⟩ := hL.st1 (v := .ref x) ho rfl
  subst hl
  exact (h en p e s m args below meth c T locs r' X K hz hF hR hL2).pre (fun _ q => q) fun t k => XS.astore X.here K.1 rfl (hb K.by hd) rfl rfl e1 k
theorem Wk.lstoreN {k : Fin 4} {x : Int64} (hd : InsA md pc (.lstore_n k) 1 pc') (ho : C1 L[k.val]?) (ho2 : C1 L[k.val + 1]?) (hl : (L.set k.val (.val (.long x))).set (k.val + 1) .second = L') (h : Wk l Z M md pc' L' S w cu su Q) : Wk l Z M md pc L (.long x :: S) w cu su Q :=
  fun en p e s m args below meth c T locs r X K hz hF hR hL => by
  obtain ⟨hd, rfl⟩ := hd
  obtain ⟨r', e1, hL2⟩ := hL.st2 (v := .long x) ho ho2 rfl
  subst hl
  exact (h en p e s m args below meth c T locs r' X K hz hF hR hL2).pre (fun _ q => q) fun t k => XT.lstoreN X.here K.1 rfl (hb K.by hd) rfl e1 k
theorem Wk.lstore {k : Nat} {x : Int64} (hd : InsA md pc (.lstore k) 2 pc') (ho : C1 L[k]?) (ho2 : C1 L[k + 1]?) (hl : (L.set k (.val (.long x))).set (k + 1) .second = L') (h : Wk l Z M md pc' L' S w cu su Q) : Wk l Z M md pc L (.long x :: S) w cu su Q :=
  fun en p e s m args below meth c T locs r X K hz hF hR hL => by
  obtain ⟨hd, rfl⟩ := hd
  obtain ⟨r', e1, hL2⟩ := hL.st2 (v := .long x) ho ho2 rfl
  subst hl
  exact (h en p e s m args below meth c T locs r' X K hz hF hR hL2).pre (fun _ q => q) fun t k => XT.lstore X.here K.1 rfl (hb K.by hd) rfl e1 k
theorem Wk.iinc {k : Nat} {cst : Int} {x z : Int32} (hd : InsA md pc (.iinc k cst) 3 pc') (hv : L[k]? = some (.val (.int x))) (hz' : x + Int32.ofInt cst = z) (hl : L.set k (.val (.int z)) = L') (h : Wk l Z M md pc' L' S w cu su Q) : Wk l Z M md pc L S w cu su Q :=
  fun en p e s m args below meth c T locs r X K hz hF hR hL => by
  obtain ⟨hd, rfl⟩ := hd
  obtain ⟨r', e1, hL2⟩ := hL.st1 (i := k) (v := .int z) (Or.inr ⟨_, hv, rfl⟩) rfl
  subst hl hz'
  exact (h en p e s m args below meth c T locs r' X K hz hF hR hL2).pre (fun _ q => q) fun t k => XS.iinc X.here K.1 rfl (hb K.by hd) (hL.get hv) e1 k
theorem Wk.goto {o : Int} {pt : Nat} (hd : InsB md pc (.goto o) 3 pc' o pt) (h : Wk l Z M md pt L S w cu su Q) : Wk l Z M md pc L S w cu su Q :=
  fun en p e s m args below meth c T locs r X K hz hF hR hL => by
  obtain ⟨hd, rfl, h3, h4⟩ := hd
  exact (h en p e s m args below meth c T locs r X K hz hF hR hL).pre (fun _ q => q) fun t k => XS.goto X.here K.1 rfl rfl (hb K.by hd) h3 h4 k
theorem Wk.icmp_lt {x y : Int32} {o : Int} {pt : Nat} (hd : InsB md pc (.if_icmp .lt o) 3 pc' o pt) (h1 : x < y → Wk l Z M md pt L S w cu su Q) (h2 : ¬ x < y → Wk l Z M md pc' L S w cu su Q) : Wk l Z M md pc L (.int y :: .int x :: S) w cu su Q :=
  fun en p e s m args below meth c T locs r X K hz hF hR hL => by
  obtain ⟨hd, rfl, h3, h4⟩ := hd
  by_cases q : x < y
  · exact (h1 q en p e s m args below meth c T locs r X K hz hF hR hL).pre (fun _ q => q) fun t k => XS.icmpYes X.here K.1 rfl rfl (hb K.by hd) rfl (tlt q).1 h3 h4 k
  · exact (h2 q en p e s m args below meth c T locs r X K hz hF hR hL).pre (fun _ q => q) fun t k => XS.icmpNo X.here K.1 rfl (hb K.by hd) rfl (flt q).1 k
theorem Wk.if_lt {x : Int32} {o : Int} {pt : Nat} (hd : InsB md pc (.ifCond .lt o) 3 pc' o pt) (h1 : x < 0 → Wk l Z M md pt L S w cu su Q) (h2 : ¬ x < 0 → Wk l Z M md pc' L S w cu su Q) : Wk l Z M md pc L (.int x :: S) w cu su Q :=
  fun en p e s m args below meth c T locs r X K hz hF hR hL => by
  obtain ⟨hd, rfl, h3, h4⟩ := hd
  by_cases q : x < 0
  · exact (h1 q en p e s m args below meth c T locs r X K hz hF hR hL).pre (fun _ q => q) fun t k => XS.ifYes X.here K.1 rfl rfl (hb K.by hd) rfl ((if0 _ _).trans (tlt q).1) h3 h4 k
  · exact (h2 q en p e s m args below meth c T locs r X K hz hF hR hL).pre (fun _ q => q) fun t k => XS.ifNo X.here K.1 rfl (hb K.by hd) rfl ((if0 _ _).trans (flt q).1) k
theorem Wk.icmp_ge {x y : Int32} {o : Int} {pt : Nat} (hd : InsB md pc (.if_icmp .ge o) 3 pc' o pt) (h1 : ¬ x < y → Wk l Z M md pt L S w cu su Q) (h2 : x < y → Wk l Z M md pc' L S w cu su Q) : Wk l Z M md pc L (.int y :: .int x :: S) w cu su Q :=
  fun en p e s m args below meth c T locs r X K hz hF hR hL => by
  obtain ⟨hd, rfl, h3, h4⟩ := hd
  by_cases q : x < y
  · exact (h2 q en p e s m args below meth c T locs r X K hz hF hR hL).pre (fun _ q => q) fun t k => XS.icmpNo X.here K.1 rfl (hb K.by hd) rfl (tlt q).2.1 k
  · exact (h1 q en p e s m args below meth c T locs r X K hz hF hR hL).pre (fun _ q => q) fun t k => XS.icmpYes X.here K.1 rfl rfl (hb K.by hd) rfl (flt q).2.1 h3 h4 k
theorem Wk.if_ge {x : Int32} {o : Int} {pt : Nat} (hd : InsB md pc (.ifCond .ge o) 3 pc' o pt) (h1 : ¬ x < 0 → Wk l Z M md pt L S w cu su Q) (h2 : x < 0 → Wk l Z M md pc' L S w cu su Q) : Wk l Z M md pc L (.int x :: S) w cu su Q :=
  fun en p e s m args below meth c T locs r X K hz hF hR hL => by
  obtain ⟨hd, rfl, h3, h4⟩ := hd
  by_cases q : x < 0
  · exact (h2 q en p e s m args below meth c T locs r X K hz hF hR hL).pre (fun _ q => q) fun t k => XS.ifNo X.here K.1 rfl (hb K.by hd) rfl ((if0 _ _).trans (tlt q).2.1) k
  · exact (h1 q en p e s m args below meth c T locs r X K hz hF hR hL).pre (fun _ q => q) fun t k => XS.ifYes X.here K.1 rfl rfl (hb K.by hd) rfl ((if0 _ _).trans (flt q).2.1) h3 h4 k
theorem Wk.icmp_gt {x y : Int32} {o : Int} {pt : Nat} (hd : InsB md pc (.if_icmp .gt o) 3 pc' o pt) (h1 : y < x → Wk l Z M md pt L S w cu su Q) (h2 : ¬ y < x → Wk l Z M md pc' L S w cu su Q) : Wk l Z M md pc L (.int y :: .int x :: S) w cu su Q :=
  fun en p e s m args below meth c T locs r X K hz hF hR hL => by
  obtain ⟨hd, rfl, h3, h4⟩ := hd
  by_cases q : y < x
  · exact (h1 q en p e s m args below meth c T locs r X K hz hF hR hL).pre (fun _ q => q) fun t k => XS.icmpYes X.here K.1 rfl rfl (hb K.by hd) rfl (tlt q).2.2.1 h3 h4 k
  · exact (h2 q en p e s m args below meth c T locs r X K hz hF hR hL).pre (fun _ q => q) fun t k => XS.icmpNo X.here K.1 rfl (hb K.by hd) rfl (flt q).2.2.1 k
theorem Wk.if_gt {x : Int32} {o : Int} {pt : Nat} (hd : InsB md pc (.ifCond .gt o) 3 pc' o pt) (h1 : 0 < x → Wk l Z M md pt L S w cu su Q) (h2 : ¬ 0 < x → Wk l Z M md pc' L S w cu su Q) : Wk l Z M md pc L (.int x :: S) w cu su Q :=
  fun en p e s m args below meth c T locs r X K hz hF hR hL => by
  obtain ⟨hd, rfl, h3, h4⟩ := hd
  by_cases q : 0 < x
  · exact (h1 q en p e s m args below meth c T locs r X K hz hF hR hL).pre (fun _ q => q) fun t k => XS.ifYes X.here K.1 rfl rfl (hb K.by hd) rfl ((if0 _ _).trans (tlt q).2.2.1) h3 h4 k
  · exact (h2 q en p e s m args below meth c T locs r X K hz hF hR hL).pre (fun _ q => q) fun t k => XS.ifNo X.here K.1 rfl (hb K.by hd) rfl ((if0 _ _).trans (flt q).2.2.1) k
theorem Wk.icmp_le {x y : Int32} {o : Int} {pt : Nat} (hd : InsB md pc (.if_icmp .le o) 3 pc' o pt) (h1 : ¬ y < x → Wk l Z M md pt L S w cu su Q) (h2 : y < x → Wk l Z M md pc' L S w cu su Q) : Wk l Z M md pc L (.int y :: .int x :: S) w cu su Q :=
  fun en p e s m args below meth c T locs r X K hz hF hR hL => by
  obtain ⟨hd, rfl, h3, h4⟩ := hd
  by_cases q : y < x
  · exact (h2 q en p e s m args below meth c T locs r X K hz hF hR hL).pre (fun _ q => q) fun t k => XS.icmpNo X.here K.1 rfl (hb K.by hd) rfl (tlt q).2.2.2 k
  · exact (h1 q en p e s m args below meth c T locs r X K hz hF hR hL).pre (fun _ q => q) fun t k => XS.icmpYes X.here K.1 rfl rfl (hb K.by hd) rfl (flt q).2.2.2 h3 h4 k
theorem Wk.if_le {x : Int32} {o : Int} {pt : Nat} (hd : InsB md pc (.ifCond .le o) 3 pc' o pt) (h1 : ¬ 0 < x → Wk l Z M md pt L S w cu su Q) (h2 : 0 < x → Wk l Z M md pc' L S w cu su Q) : Wk l Z M md pc L (.int x :: S) w cu su Q :=
  fun en p e s m args below meth c T locs r X K hz hF hR hL => by
  obtain ⟨hd, rfl, h3, h4⟩ := hd
  by_cases q : 0 < x
  · exact (h2 q en p e s m args below meth c T locs r X K hz hF hR hL).pre (fun _ q => q) fun t k => XS.ifNo X.here K.1 rfl (hb K.by hd) rfl ((if0 _ _).trans (tlt q).2.2.2) k
  · exact (h1 q en p e s m args below meth c T locs r X K hz hF hR hL).pre (fun _ q => q) fun t k => XS.ifYes X.here K.1 rfl rfl (hb K.by hd) rfl ((if0 _ _).trans (flt q).2.2.2) h3 h4 k
theorem Wk.icmp_eq {x y : Int32} {o : Int} {pt : Nat} (hd : InsB md pc (.if_icmp .eq o) 3 pc' o pt) (h1 : x = y → Wk l Z M md pt L S w cu su Q) (h2 : ¬ x = y → Wk l Z M md pc' L S w cu su Q) : Wk l Z M md pc L (.int y :: .int x :: S) w cu su Q :=
  fun en p e s m args below meth c T locs r X K hz hF hR hL => by
  obtain ⟨hd, rfl, h3, h4⟩ := hd
  by_cases q : x = y
  · exact (h1 q en p e s m args below meth c T locs r X K hz hF hR hL).pre (fun _ q => q) fun t k => XS.icmpYes X.here K.1 rfl rfl (hb K.by hd) rfl (teq q).1 h3 h4 k
  · exact (h2 q en p e s m args below meth c T locs r X K hz hF hR hL).pre (fun _ q => q) fun t k => XS.icmpNo X.here K.1 rfl (hb K.by hd) rfl (feq q).1 k
theorem Wk.if_eq {x : Int32} {o : Int} {pt : Nat} (hd : InsB md pc (.ifCond .eq o) 3 pc' o pt) (h1 : x = 0 → Wk l Z M md pt L S w cu su Q) (h2 : ¬ x = 0 → Wk l Z M md pc' L S w cu su Q) : Wk l Z M md pc L (.int x :: S) w cu su Q :=
  fun en p e s m args below meth c T locs r X K hz hF hR hL => by
  obtain ⟨hd, rfl, h3, h4⟩ := hd
  by_cases q : x = 0
  · exact (h1 q en p e s m args below meth c T locs r X K hz hF hR hL).pre (fun _ q => q) fun t k => XS.ifYes X.here K.1 rfl rfl (hb K.by hd) rfl ((if0 _ _).trans (teq q).1) h3 h4 k
  · exact (h2 q en p e s m args below meth c T locs r X K hz hF hR hL).pre (fun _ q => q) fun t k => XS.ifNo X.here K.1 rfl (hb K.by hd) rfl ((if0 _ _).trans (feq q).1) k
theorem Wk.icmp_ne {x y : Int32} {o : Int} {pt : Nat} (hd : InsB md pc (.if_icmp .ne o) 3 pc' o pt) (h1 : ¬ x = y → Wk l Z M md pt L S w cu su Q) (h2 : x = y → Wk l Z M md pc' L S w cu su Q) : Wk l Z M md pc L (.int y :: .int x :: S) w cu su Q :=
  fun en p e s m args below meth c T locs r X K hz hF hR hL => by
  obtain ⟨hd, rfl, h3, h4⟩ := hd
  by_cases q : x = y
  · exact (h2 q en p e s m args below meth c T locs r X K hz hF hR hL).pre (fun _ q => q) fun t k => XS.icmpNo X.here K.1 rfl (hb K.by hd) rfl (teq q).2 k
  · exact (h1 q en p e s m args below meth c T locs r X K hz hF hR hL).pre (fun _ q => q) fun t k => XS.icmpYes X.here K.1 rfl rfl (hb K.by hd) rfl (feq q).2 h3 h4 k
theorem Wk.if_ne {x : Int32} {o : Int} {pt : Nat} (hd : InsB md pc (.ifCond .ne o) 3 pc' o pt) (h1 : ¬ x = 0 → Wk l Z M md pt L S w cu su Q) (h2 : x = 0 → Wk l Z M md pc' L S w cu su Q) : Wk l Z M md pc L (.int x :: S) w cu su Q :=
  fun en p e s m args below meth c T locs r X K hz hF hR hL => by
  obtain ⟨hd, rfl, h3, h4⟩ := hd
  by_cases q : x = 0
  · exact (h2 q en p e s m args below meth c T locs r X K hz hF hR hL).pre (fun _ q => q) fun t k => XS.ifNo X.here K.1 rfl (hb K.by hd) rfl ((if0 _ _).trans (teq q).2) k
  · exact (h1 q en p e s m args below meth c T locs r X K hz hF hR hL).pre (fun _ q => q) fun t k => XS.ifYes X.here K.1 rfl rfl (hb K.by hd) rfl ((if0 _ _).trans (feq q).2) h3 h4 k
theorem Wk.tswIn {dflt low high o : Int} {offs : Array Int} {len pt : Nat} {x z : Int32} (hd : InsB md pc (.tableswitch dflt low high offs) len pc' o pt) (hx : x = z) (hin : ¬ (z.toInt < low ∨ z.toInt > high)) (hoff : offs[(z.toInt - low).toNat]? = some o) (h : Wk l Z M md pt L S w cu su Q) : Wk l Z M md pc L (.int x :: S) w cu su Q :=
  fun en p e s m args below meth c T locs r X K hz hF hR hL => by
  obtain ⟨hd, rfl, h3, h4⟩ := hd
  subst hx
  exact (h en p e s m args below meth c T locs r X K hz hF hR hL).pre (fun _ q => q) fun t k => XS.tswIn X.here K.1 rfl rfl (hb K.by hd) rfl hin hoff h3 h4 k
theorem Wk.tswOut {dflt low high : Int} {offs : Array Int} {len pt : Nat} {x : Int32} (hd : InsB md pc (.tableswitch dflt low high offs) len pc' dflt pt) (hout : x.toInt < low ∨ x.toInt > high) (h : Wk l Z M md pt L S w cu su Q) : Wk l Z M md pc L (.int x :: S) w cu su Q :=
  fun en p e s m args below meth c T locs r X K hz hF hR hL => by
  obtain ⟨hd, rfl, h3, h4⟩ := hd
  exact (h en p e s m args below meth c T locs r X K hz hF hR hL).pre (fun _ q => q) fun t k => XS.tswOut X.here K.1 rfl rfl (hb K.by hd) rfl hout h3 h4 k
theorem Wk.ldc {idx : Nat} {z : Int32} {a0 : Array Value} (hd : InsA md pc (.ldc idx) 2 pc') (wd : (Cond.constant M.own idx z).before a0 Z = true) (h : Wk l Z M md pc' L (.int z :: S) w cu su Q) : Wk l Z M md pc L S w cu su Q :=
  fun en p e s m args below meth c T locs r X K hz hF hR hL => by
  obtain ⟨hd, rfl⟩ := hd
  have hc : (Cond.constant M.own idx z).before args s = true := mvT K.2.1 wd
  exact (h en p e s m args below meth c T locs r X K hz hF hR hL).pre (fun _ q => q) fun t k => X.ldcInt K.1 K.2.2.1 hc (g := mkF m pc r (S.map (rv (M.rho en)))) rfl (hb K.by hd) t k
theorem Wk.ldcw {idx : Nat} {z : Int32} {a0 : Array Value} (hd : InsA md pc (.ldc_w idx) 3 pc') (wd : (Cond.constant M.own idx z).before a0 Z = true) (h : Wk l Z M md pc' L (.int z :: S) w cu su Q) : Wk l Z M md pc L S w cu su Q :=
  fun en p e s m args below meth c T locs r X K hz hF hR hL => by
  obtain ⟨hd, rfl⟩ := hd
  have hc : (Cond.constant M.own idx z).before args s = true := mvT K.2.1 wd
  exact (h en p e s m args below meth c T locs r X K hz hF hR hL).pre (fun _ q => q) fun t k => X.ldcwInt K.1 K.2.2.1 hc (g := mkF m pc r (S.map (rv (M.rho en)))) rfl (hb K.by hd) t k
theorem Wk.ldc2 {idx : Nat} {z : Int64} {a0 : Array Value} (hd : InsA md pc (.ldc2_w idx) 3 pc') (wd : (Cond.constantLong M.own idx z).before a0 Z = true) (h : Wk l Z M md pc' L (.long z :: S) w cu su Q) : Wk l Z M md pc L S w cu su Q :=
  fun en p e s m args below meth c T locs r X K hz hF hR hL => by
  obtain ⟨hd, rfl⟩ := hd
  have hc : (Cond.constantLong M.own idx z).before args s = true := mvT K.2.1 wd
  exact (h en p e s m args below meth c T locs r X K hz hF hR hL).pre (fun _ q => q) fun t k => X.ldc2Long K.1 K.2.2.1 hc (g := mkF m pc r (S.map (rv (M.rho en)))) rfl (hb K.by hd) t k
/-! returns -/
theorem Wk.ireturn {x : Int32} (hM : ∀ en h, M.frm en h h) (hret : rtOf md = some .int) (hd : InsA md pc .ireturn 1 pc') (hc : cu = exOf md) (hc2 : exOf md ≤ (rmOf md).cells) (hs : su ≤ (rmOf md).slots) (hq : Q (some (.int x)) w) : Wk l Z M md pc L (.int x :: S) w cu su Q :=
  fun en p e s m args below meth c T locs r X K hz hF hR hL => by
  subst hc
  have hr := K.2.2.2.2.1.trans hret
  exact ⟨T, locs, su, _, w, X, hc2, hs, hz, hF, hR, hM _ _, fun q => (by rw [hr] at q; cases q), fun ρ y e => (by cases e; rfl), hq, fun fs hf => retI X K.1 hr (hb K.by hd.1) hf⟩
theorem Wk.zreturn {x y : Int32} (hM : ∀ en h, M.frm en h h) (hret : rtOf md = some .boolean) (hd : InsA md pc .ireturn 1 pc') (hc : cu = exOf md) (hc2 : exOf md ≤ (rmOf md).cells) (hs : su ≤ (rmOf md).slots) (hy : nar .boolean x = y) (hq : Q (some (.int y)) w) : Wk l Z M md pc L (.int x :: S) w cu su Q :=
  fun en p e s m args below meth c T locs r X K hz hF hR hL => by
  subst hc hy
  have hr := K.2.2.2.2.1.trans hret
  exact ⟨T, locs, su, _, w, X, hc2, hs, hz, hF, hR, hM _ _, fun q => (by rw [hr] at q; cases q), fun ρ y e => (by cases e; rfl), hq, fun fs hf => retN X K.1 (t := .boolean) hr (by simp) (hb K.by hd.1) hf⟩
theorem Wk.lreturn {x : Int64} (hM : ∀ en h, M.frm en h h) (hret : rtOf md = some .long) (hd : InsA md pc .lreturn 1 pc') (hc : cu = exOf md) (hc2 : exOf md ≤ (rmOf md).cells) (hs : su ≤ (rmOf md).slots) (hq : Q (some (.long x)) w) : Wk l Z M md pc L [.long x] w cu su Q :=
  fun en p e s m args below meth c T locs r X K hz hF hR hL => by
  subst hc
  have hr := K.2.2.2.2.1.trans hret
  exact ⟨T, locs, su, _, w, X, hc2, hs, hz, hF, hR, hM _ _, fun q => (by rw [hr] at q; cases q), fun ρ y e => (by cases e; rfl), hq, fun fs hf => X.lreturnOut K.1 hr (hb K.by hd.1) hf⟩
theorem Wk.ret (hM : ∀ en h, M.frm en h h) (hret : rtOf md = none) (hd : InsA md pc .return_ 1 pc') (hc : cu = exOf md) (hc2 : exOf md ≤ (rmOf md).cells) (hs : su ≤ (rmOf md).slots) (hq : Q none w) : Wk l Z M md pc L [] w cu su Q :=
  fun en p e s m args below meth c T locs r X K hz hF hR hL => by
  subst hc
  have hr := K.2.2.2.2.1.trans hret
  exact ⟨T, locs, su, none, w, X, hc2, hs, hz, hF, hR, hM _ _, fun _ => rfl, fun ρ y e => (by cases e), hq, fun fs hf => X.returnOut K.1 hr (hb K.by hd.1) hf⟩
/-! a walk from the entry is a contract -/
theorem Wk.met (h : Wk l Z M md 0 L [] w 0 0 Q) (hp : plainName (nmOf md).cls = true) (ho : M.own = (nmOf md).cls) {en : E} {h0 : Heap} (hR : M.rel en w h0) (as : List Value) (hL : (argsToLocals as.toArray (mxOf md)).toList = L) (hw : wfL L = true) (ws : List Jvm.Cond) :
    MetFree l (nmOf md) (head1 (Jvm.Cond.code (nmOf md) (byOf md) (mxOf md) (rtOf md) :: ws) (rmOf md)) (fun a U => a = (as.map (rv (M.rho en))).toArray ∧ Z.Warmed39 U.vm ∧ U.heap = h0) (fun _ _ _ _ _ => True)
      (fun _ U o U' => ∃ v Lc, o = .returned v ∧ (∃ w', Q v w' ∧ M.rel en w' U'.heap ∧ M.frm en h0 U'.heap ∧ Fr (M.lo en) Lc ∧ U'.heap.size = h0.size + exOf md ∧ ∀ ρ x, v = some x → rv ρ x = x) ∧ FrameEnd U o U' Lc (rmOf md).cells (rmOf md).slots) := by
  refine MetFree.of_bodySF (plainFor_of_name hp) hisR ?_
  intro p e s m args below meth c s₁ Bd hml0 hP hK
  obtain ⟨rfl, hZ, hh⟩ := hP
  have hown : s.vm.findClass (nmOf md).cls = some m.cls := findClass_of_methodNamed Bd.named
  have hnm := (name_of_methodNamed Bd.named Bd.method).1
  have X0 : Stand p l e (rmOf md) s m (as.map (rv (M.rho en))).toArray below meth c s₁ [] 0 0 := Stand.of_body Bd
  have e0 : s₁.heap = s.heap := by rw [Bd.state]; rfl
  subst hh
  obtain ⟨T', locs', su', v, w', a1, a2, a3, a4, a5, a6, a7, a8, a9, a10, a11⟩ := h en p e s m _ below meth c s₁ [] _ X0 ⟨Bd.exec, hZ, by rw [ho]; exact hown, hnm, Bd.returns, BodyLoose.notSynchronized Bd, Bd.bytes, hml0⟩ (by rw [e0]; rfl) (Fr.nil _) (by rw [e0]; exact hR) (SR.entry (M.rho en) as (mxOf md) hL hw)
  obtain ⟨fs, hr, hrun, hended, hW, hsame⟩ := a1.leave (v := v) a8 (BodyLoose.notSynchronized Bd)
  rw [e0] at a7
  exact ⟨_, _, a11 fs hr, hrun, hended, v, locs', rfl, ⟨w', a10, a6, a7, a5, a4, a9⟩, ⟨_, rfl⟩, hW, hsame.mono a2 a3⟩
end Steps
end Jvm.Own

namespace Jvm.Own
open Jvm Jvm.ClassFile Sem Op Lib Jvm.Free Jvm.Stand Jvm.LawKit Jvm.RoadKit
/-! ## 3. One object of the project's class, with its arrays behind it -/
/-- how many arrays are made; the ints; the longs; the arrays of ints (and booleans); of longs -/
abbrev WO : Type := Nat × (Nat → Int32) × (Nat → Int64) × (Nat → Int32 → Int32) × (Nat → Int32 → Int64)
/-- the class; its fields of ints and booleans (number, name, descriptor); of longs; of arrays, in the order in which they are made -/
abbrev CD : Type := String × List (Nat × String × String) × List (Nat × String) × List (Nat × String × String × FieldType × Int32)
def ups {κ α : Type} [DecidableEq κ] (f : κ → α) (i : κ) (x : α) : κ → α := fun k => if k = i then x else f k
theorem ups_at {κ α : Type} [DecidableEq κ] (f : κ → α) (i : κ) (x : α) : ups f i x i = x := by simp [ups]
theorem ups_ne {κ α : Type} [DecidableEq κ] (f : κ → α) {i k : κ} (x : α) (h : k ≠ i) : ups f i x k = f k := by simp [ups, h]
def el : FieldType → Int32 → Int64 → Value
  | .long, _, j => .long j
  | _, i, _ => .int i
theorem el_int {ty : FieldType} (h : ty ≠ .long) (i : Int32) (j : Int64) : el ty i j = .int i := by cases ty <;> first | rfl | exact absurd rfl h
def AtA (Z : State) (h : Heap) (b : Addr) (ty : FieldType) (n : Int32) (f : Int32 → Int32) (g : Int32 → Int64) : Prop :=
  ∃ cl, Arr Z h b cl ty ∧ cl.slots.size = n.toNatClampNeg ∧ ∀ x : Int32, ¬ x < 0 → x < n → cl.slots[x.toNatClampNeg]? = some (el ty (f x) (g x))
def relC (Z : State) (cd : CD) (en : Nat × Nat) (w : WO) (h : Heap) : Prop :=
  en.2 ≤ en.1 ∧ Exa Z h en.1 cd.1 ∧ (∀ t ∈ cd.2.1, Fld Z h en.1 cd.1 t.2.1 t.2.2 (.int (w.2.1 t.1))) ∧ (∀ t ∈ cd.2.2.1, Fld Z h en.1 cd.1 t.2 "J" (.long (w.2.2.1 t.1))) ∧
  (∀ t ∈ cd.2.2.2, (t.1 < w.1 → Fld Z h en.1 cd.1 t.2.1 t.2.2.1 (.ref (en.1 + (t.1 + 1))) ∧ AtA Z h (en.1 + (t.1 + 1)) t.2.2.2.1 t.2.2.2.2 (w.2.2.2.1 t.1) (w.2.2.2.2 t.1)) ∧ (¬ t.1 < w.1 → Fld Z h en.1 cd.1 t.2.1 t.2.2.1 .null)) ∧
  (w.1 < cd.2.2.2.length → h.size = en.1 + 1 + w.1)
def frmC (cd : CD) (en : Nat × Nat) (h h' : Heap) : Prop := h.size ≤ h'.size ∧ ∀ (x : Nat) (c : Cell), h[x]? = some c → (x < en.1 ∨ en.1 + cd.2.2.2.length < x) → h'[x]? = some c
abbrev MoC (Z : State) (cd : CD) : Mode WO (Nat × Nat) := (cd.1, fun en k => en.1 + k, fun en => en.2, relC Z cd, frmC cd)
theorem nn {a b : Nat} (h : a ≠ b) : @Ne Addr a b := h
theorem frmC.refl (cd : CD) (en : Nat × Nat) (h : Heap) : frmC cd en h h := ⟨Nat.le_refl _, fun _ _ q _ => q⟩
theorem frmC.trans {cd : CD} {en : Nat × Nat} {h1 h2 h3 : Heap} (a : frmC cd en h1 h2) (b : frmC cd en h2 h3) : frmC cd en h1 h3 := ⟨Nat.le_trans a.1 b.1, fun x c q r => b.2 x c (a.2 x c q r) r⟩
theorem frmC.wr {cd : CD} {en : Nat × Nat} {h h' : Heap} {b : Nat} {sl : Nat} {v : Value} (W : Wr h h' b sl v) (h1 : en.1 ≤ b) (h2 : b ≤ en.1 + cd.2.2.2.length) : frmC cd en h h' := by
  refine ⟨Nat.le_of_eq W.size.symm, fun x c q r => ?_⟩
  obtain ⟨c', e1, -, -, -, e5, -⟩ := wr_at W q
  rw [← e5 (nn (by omega))]; exact e1
theorem frmC.ext {cd : CD} {en : Nat × Nat} {h h' : Heap} (E : Ext h h') : frmC cd en h h' := ⟨E.1, fun x c q _ => E.2 x c q⟩
def okC (cd : CD) : Prop :=
  (∀ t ∈ cd.2.1, ∀ t' ∈ cd.2.1, (t.1 = t'.1 → t = t') ∧ (t.1 ≠ t'.1 → t.2.1 ≠ t'.2.1)) ∧ (∀ t ∈ cd.2.2.1, ∀ t' ∈ cd.2.2.1, (t.1 = t'.1 → t = t') ∧ (t.1 ≠ t'.1 → t.2 ≠ t'.2)) ∧ (∀ t ∈ cd.2.2.2, ∀ t' ∈ cd.2.2.2, (t.1 = t'.1 → t = t') ∧ (t.1 ≠ t'.1 → t.2.1 ≠ t'.2.1)) ∧
  (∀ t ∈ cd.2.1, ∀ t' ∈ cd.2.2.1, t.2.1 ≠ t'.2) ∧ (∀ t ∈ cd.2.1, ∀ t' ∈ cd.2.2.2, t.2.1 ≠ t'.2.1) ∧ (∀ t ∈ cd.2.2.1, ∀ t' ∈ cd.2.2.2, t.2 ≠ t'.2.1) ∧
  (∀ t ∈ cd.2.1, parseFieldDescriptor t.2.2 = some .int ∨ parseFieldDescriptor t.2.2 = some .boolean) ∧
  (∀ t ∈ cd.2.2.2, parseFieldDescriptor t.2.2.1 = some (.array t.2.2.2.1) ∧ t.1 < cd.2.2.2.length ∧ (t.2.2.2.1 = .int ∨ t.2.2.2.1 = .boolean ∨ t.2.2.2.1 = .long) ∧ ¬ t.2.2.2.2 < 0)
/-- what the words say of the class -/
def CO (Z : State) (a0 : Array Value) (cd : CD) : Prop :=
  (∃ kk, (Cond.instantiable cd.1 kk).before a0 Z = true) ∧ (∀ t ∈ cd.2.1, Laid Z a0 cd.1 cd.1 t.2.1 t.2.2) ∧ (∀ t ∈ cd.2.2.1, Laid Z a0 cd.1 cd.1 t.2 "J") ∧ (∀ t ∈ cd.2.2.2, Laid Z a0 cd.1 cd.1 t.2.1 t.2.2.1) ∧ okC cd
theorem pJ : parseFieldDescriptor "J" = some .long := by decide +kernel
theorem snJ {Z : State} {a0 : Array Value} {C n n' d' : String} {t' : FieldType} (L : Laid Z a0 C C n "J") (L' : Laid Z a0 C C n' d') (hn : n ≠ n') (ht' : parseFieldDescriptor d' = some t') : Jvm.RoadKit.slotOf Z C n "J" ≠ Jvm.RoadKit.slotOf Z C n' d' := by
  have p := pJ
  generalize "J" = q at *
  exact slot_ne L L' hn p ht'
section Rel
variable {Z : State} {a0 : Array Value} {cd : CD} {en : Nat × Nat} {h h' : Heap} {k : Nat} {F : Nat → Int32} {G : Nat → Int64} {A : Nat → Int32 → Int32} {B : Nat → Int32 → Int64}
theorem pI (ok : CO Z a0 cd) {t : Nat × String × String} (ht : t ∈ cd.2.1) : ∃ ty, parseFieldDescriptor t.2.2 = some ty := by
  rcases ok.2.2.2.2.2.2.2.2.2.2.1 t ht with q | q <;> exact ⟨_, q⟩
theorem AtA.other {b b' : Addr} {ty : FieldType} {n : Int32} {f : Int32 → Int32} {g : Int32 → Int64} {sl : Nat} {v : Value} (W : Wr h h' b sl v) (H : AtA Z h b' ty n f g) (hne : b' ≠ b) : AtA Z h' b' ty n f g := by
  obtain ⟨cl, h1, h2, h3⟩ := H
  exact ⟨cl, h1.other W hne, h2, h3⟩
theorem AtA.ext {b' : Addr} {ty : FieldType} {n : Int32} {f : Int32 → Int32} {g : Int32 → Int64} (E : Ext h h') (H : AtA Z h b' ty n f g) : AtA Z h' b' ty n f g := by
  obtain ⟨cl, h1, h2, h3⟩ := H
  exact ⟨cl, h1.ext E, h2, h3⟩
theorem clamp_lt {x n : Int32} (h0 : ¬ x < 0) (h1 : x < n) : x.toNatClampNeg < n.toNatClampNeg := by
  simp only [Int32.lt_iff_toInt_lt, Int32.reduceToInt, Int32.toNatClampNeg] at *
  omega
theorem in_of {x n : Int32} {cl : Cell} (h2 : cl.slots.size = n.toNatClampNeg) (h0 : ¬ x < 0) (h1 : x < n) : ¬ (x < 0 ∨ cl.slots.size ≤ x.toNatClampNeg) := by
  have := clamp_lt h0 h1
  rintro (q | q)
  · exact h0 q
  · omega
theorem AtA.stI {b : Addr} {ty : FieldType} {n : Int32} {f : Int32 → Int32} {g : Int32 → Int64} {j x : Int32} (hty : ty ≠ .long) (h0 : ¬ j < 0) (h1 : j < n) (W : Wr h h' b j.toNatClampNeg (.int x)) (H : AtA Z h b ty n f g) : AtA Z h' b ty n (ups f j x) g := by
  obtain ⟨cl, g1, g2, g3⟩ := H
  refine ⟨_, g1.same W, by rw [sz_set]; exact g2, fun y y0 y1 => ?_⟩
  by_cases e : y = j
  · rw [get_hit (in_of g2 h0 h1) e, e, ups_at, el_int hty]
  · rw [get_miss h0 y0 e, ups_ne _ _ e]; exact g3 y y0 y1
theorem AtA.stJ {b : Addr} {n : Int32} {f : Int32 → Int32} {g : Int32 → Int64} {j : Int32} {x : Int64} (h0 : ¬ j < 0) (h1 : j < n) (W : Wr h h' b j.toNatClampNeg (.long x)) (H : AtA Z h b .long n f g) : AtA Z h' b .long n f (ups g j x) := by
  obtain ⟨cl, g1, g2, g3⟩ := H
  refine ⟨_, g1.same W, by rw [sz_set]; exact g2, fun y y0 y1 => ?_⟩
  by_cases e : y = j
  · rw [get_hit (in_of g2 h0 h1) e, e, ups_at]; rfl
  · rw [get_miss h0 y0 e, ups_ne _ _ e]; exact g3 y y0 y1
theorem relC.putI (ok : CO Z a0 cd) {i : Nat} {n d : String} {x : Int32} (hR : relC Z cd en (k, F, G, A, B) h) (ht : (i, n, d) ∈ cd.2.1) (W : Wr h h' en.1 (Jvm.RoadKit.slotOf Z cd.1 n d) (.int x)) : relC Z cd en (k, ups F i x, G, A, B) h' := by
  obtain ⟨r1, r2, r3, r4, r5, r6⟩ := hR
  obtain ⟨-, o2, o3, o4, q1, q2, q3, q4, q5, q6, q7, q8⟩ := ok
  obtain ⟨ty0, p0⟩ : ∃ ty, parseFieldDescriptor d = some ty := by rcases q7 _ ht with q | q <;> exact ⟨_, q⟩
  refine ⟨r1, r2.wr W, fun t m => ?_, fun t m => ?_, fun t m => ⟨fun hk => ?_, fun hk => ?_⟩, fun q => ?_⟩
  · obtain ⟨u1, u2⟩ := q1 _ m _ ht
    by_cases e : t.1 = i
    · have e2 := u1 e
      subst e2
      show Fld Z h' en.1 cd.1 n d (.int (ups F i x i))
      rw [ups_at]
      exact (r3 _ ht).same W
    · show Fld Z h' en.1 cd.1 _ _ (.int (ups F i x t.1))
      rw [ups_ne _ _ e]
      obtain ⟨ty1, p1⟩ : ∃ ty, parseFieldDescriptor t.2.2 = some ty := by rcases q7 _ m with q | q <;> exact ⟨_, q⟩
      have z0 := slot_ne (o2 _ m) (o2 _ ht) (u2 e) p1 p0
      exact (r3 t m).other W (Or.inr z0)
  · have e1 := o3 _ m
    have e2 := o2 _ ht
    have e3 := q4 _ ht _ m
    have e4 := snJ e1 e2 (Ne.symm e3) p0
    have e5 := r4 t m
    exact e5.other W (Or.inr e4)
  · obtain ⟨a1, a2⟩ := (r5 t m).1 hk
    have z0 := slot_ne (o4 _ m) (o2 _ ht) (Ne.symm (q5 _ ht _ m)) (q8 _ m).1 p0
    exact ⟨a1.other W (Or.inr z0), a2.other W (nn (by omega))⟩
  · have z0 := slot_ne (o4 _ m) (o2 _ ht) (Ne.symm (q5 _ ht _ m)) (q8 _ m).1 p0
    exact ((r5 t m).2 hk).other W (Or.inr z0)
  · rw [W.size]; exact r6 q
theorem relC.putJ (ok : CO Z a0 cd) {i : Nat} {n : String} {x : Int64} (hR : relC Z cd en (k, F, G, A, B) h) (ht : (i, n) ∈ cd.2.2.1) (W : Wr h h' en.1 (Jvm.RoadKit.slotOf Z cd.1 n "J") (.long x)) : relC Z cd en (k, F, ups G i x, A, B) h' := by
  obtain ⟨r1, r2, r3, r4, r5, r6⟩ := hR
  obtain ⟨-, o2, o3, o4, q1, q2, q3, q4, q5, q6, q7, q8⟩ := ok
  refine ⟨r1, r2.wr W, fun t m => ?_, fun t m => ?_, fun t m => ⟨fun hk => ?_, fun hk => ?_⟩, fun q => ?_⟩
  · obtain ⟨ty1, p1⟩ : ∃ ty, parseFieldDescriptor t.2.2 = some ty := by rcases q7 _ m with q | q <;> exact ⟨_, q⟩
    have z0 := Ne.symm (snJ (o3 _ ht) (o2 _ m) (Ne.symm (q4 _ m _ ht)) p1)
    exact (r3 t m).other W (Or.inr z0)
  · obtain ⟨u1, u2⟩ := q2 _ m _ ht
    by_cases e : t.1 = i
    · have e2 := u1 e
      subst e2
      show Fld Z h' en.1 cd.1 n "J" (.long (ups G i x i))
      rw [ups_at]
      exact (r4 _ ht).same W
    · show Fld Z h' en.1 cd.1 _ _ (.long (ups G i x t.1))
      rw [ups_ne _ _ e]
      have z0 := snJ (o3 _ m) (o3 _ ht) (u2 e) pJ
      exact (r4 t m).other W (Or.inr z0)
  · obtain ⟨a1, a2⟩ := (r5 t m).1 hk
    have z0 := Ne.symm (snJ (o3 _ ht) (o4 _ m) (q6 _ ht _ m) (q8 _ m).1)
    exact ⟨a1.other W (Or.inr z0), a2.other W (nn (by omega))⟩
  · have z0 := Ne.symm (snJ (o3 _ ht) (o4 _ m) (q6 _ ht _ m) (q8 _ m).1)
    exact ((r5 t m).2 hk).other W (Or.inr z0)
  · rw [W.size]; exact r6 q
theorem relC.stI (ok : CO Z a0 cd) {i : Nat} {n d : String} {ty : FieldType} {len j x : Int32} (hty : ty ≠ .long) (h0 : ¬ j < 0) (h1 : j < len) (hR : relC Z cd en (k, F, G, A, B) h) (ht : (i, n, d, ty, len) ∈ cd.2.2.2) (W : Wr h h' (en.1 + (i + 1)) j.toNatClampNeg (.int x)) : relC Z cd en (k, F, G, ups A i (ups (A i) j x), B) h' := by
  obtain ⟨r1, r2, r3, r4, r5, r6⟩ := hR
  obtain ⟨-, o2, o3, o4, q1, q2, q3, q4, q5, q6, q7, q8⟩ := ok
  refine ⟨r1, r2.wr W, fun t m => (r3 t m).other W (Or.inl (nn (by omega))), fun t m => (r4 t m).other W (Or.inl (nn (by omega))), fun t m => ⟨fun hk => ?_, fun hk => ((r5 t m).2 hk).other W (Or.inl (nn (by omega)))⟩, fun q => by rw [W.size]; exact r6 q⟩
  obtain ⟨a1, a2⟩ := (r5 t m).1 hk
  refine ⟨a1.other W (Or.inl (nn (by omega))), ?_⟩
  obtain ⟨u1, u2⟩ := q3 _ m _ ht
  show AtA Z h' _ _ _ (ups A i (ups (A i) j x) t.1) (B t.1)
  by_cases e : t.1 = i
  · have e2 := u1 e
    subst e2
    rw [ups_at]
    exact a2.stI hty h0 h1 W
  · rw [ups_ne _ _ e]
    exact a2.other W (nn (by omega))
theorem relC.stJ (ok : CO Z a0 cd) {i : Nat} {n d : String} {len j : Int32} {x : Int64} (h0 : ¬ j < 0) (h1 : j < len) (hR : relC Z cd en (k, F, G, A, B) h) (ht : (i, n, d, .long, len) ∈ cd.2.2.2) (W : Wr h h' (en.1 + (i + 1)) j.toNatClampNeg (.long x)) : relC Z cd en (k, F, G, A, ups B i (ups (B i) j x)) h' := by
  obtain ⟨r1, r2, r3, r4, r5, r6⟩ := hR
  obtain ⟨-, o2, o3, o4, q1, q2, q3, q4, q5, q6, q7, q8⟩ := ok
  refine ⟨r1, r2.wr W, fun t m => (r3 t m).other W (Or.inl (nn (by omega))), fun t m => (r4 t m).other W (Or.inl (nn (by omega))), fun t m => ⟨fun hk => ?_, fun hk => ((r5 t m).2 hk).other W (Or.inl (nn (by omega)))⟩, fun q => by rw [W.size]; exact r6 q⟩
  obtain ⟨a1, a2⟩ := (r5 t m).1 hk
  refine ⟨a1.other W (Or.inl (nn (by omega))), ?_⟩
  obtain ⟨u1, u2⟩ := q3 _ m _ ht
  show AtA Z h' _ _ _ (A t.1) (ups B i (ups (B i) j x) t.1)
  by_cases e : t.1 = i
  · have e2 := u1 e
    subst e2
    rw [ups_at]
    exact a2.stJ h0 h1 W
  · rw [ups_ne _ _ e]
    exact a2.other W (nn (by omega))
theorem relC.newA (ok : CO Z a0 cd) {h1 : Heap} {n d : String} {ty : FieldType} {len : Int32} {cA : ClassId} (hR : relC Z cd en (k, F, G, A, B) h) (ht : (k, n, d, ty, len) ∈ cd.2.2.2) (hA : A k = fun _ => 0) (hB : B k = fun _ => 0) (E : Ext h h1) (N : Arr Z h1 h.size (Jvm.RoadKit.newA cA ty len) ty) (W : Wr h1 h' en.1 (Jvm.RoadKit.slotOf Z cd.1 n d) (.ref h.size)) (hz : h'.size = h.size + 1) : relC Z cd en (k + 1, F, G, A, B) h' := by
  obtain ⟨r1, r2, r3, r4, r5, r6⟩ := hR
  obtain ⟨-, o2, o3, o4, q1, q2, q3, q4, q5, q6, q7, q8⟩ := ok
  have hsz : h.size = en.1 + 1 + k := r6 (q8 _ ht).2.1
  refine ⟨r1, (r2.ext E).wr W, fun t m => ?_, fun t m => ?_, fun t m => ⟨fun hk => ?_, fun hk => ?_⟩, fun q => ?_⟩
  · obtain ⟨ty1, p1⟩ : ∃ ty, parseFieldDescriptor t.2.2 = some ty := by rcases q7 _ m with q | q <;> exact ⟨_, q⟩
    have z0 := slot_ne (o2 _ m) (o4 _ ht) (q5 _ m _ ht) p1 (q8 _ ht).1
    exact ((r3 t m).ext E).other W (Or.inr z0)
  · have z0 := snJ (o3 _ m) (o4 _ ht) (q6 _ m _ ht) (q8 _ ht).1
    exact ((r4 t m).ext E).other W (Or.inr z0)
  · obtain ⟨u1, u2⟩ := q3 _ m _ ht
    by_cases e : t.1 = k
    · have e2 := u1 e
      subst e2
      have f0 := ((r5 _ ht).2 (Nat.lt_irrefl k)).ext E
      refine ⟨?_, ?_⟩
      · have := f0.same W
        rw [hsz] at this
        show Fld Z h' en.1 cd.1 n d (.ref (en.1 + (k + 1)))
        rw [show en.1 + (k + 1) = en.1 + 1 + k by omega]
        exact this
      · show AtA Z h' (en.1 + (k + 1)) ty len (A k) (B k)
        rw [hA, hB, show en.1 + (k + 1) = h.size by omega]
        refine AtA.other W ⟨_, N, sz_new _ _ _, fun x x0 x1 => ?_⟩ (nn (by omega))
        rw [get_new (in_of (cl := Jvm.RoadKit.newA cA ty len) (sz_new _ _ _) x0 x1 |> fun q => by rwa [sz_new] at q)]
        have o := (q8 _ ht).2.2.1
        rcases o with o | o | o <;> (have o' : ty = _ := o; subst o'; rfl)
    · obtain ⟨a1, a2⟩ := (r5 t m).1 (by show t.1 < k; have : t.1 < k + 1 := hk; omega)
      have z0 := slot_ne (o4 _ m) (o4 _ ht) (u2 e) (q8 _ m).1 (q8 _ ht).1
      exact ⟨(a1.ext E).other W (Or.inr z0), (a2.ext E).other W (nn (by omega))⟩
  · obtain ⟨u1, u2⟩ := q3 _ m _ ht
    have hk' : ¬ t.1 < k + 1 := hk
    have z0 := slot_ne (o4 _ m) (o4 _ ht) (u2 (by show t.1 ≠ k; omega)) (q8 _ m).1 (q8 _ ht).1
    exact (((r5 t m).2 (by show ¬ t.1 < k; omega)).ext E).other W (Or.inr z0)
  · show h'.size = en.1 + 1 + (k + 1)
    omega
end Rel
section StepsC
variable {l : Launch} {Z : State} {a0 : Array Value} {cd : CD} {md : MD} {pc pc' pc1 : Nat} {L L' : List Slot} {S : List Value} {k : Nat} {F : Nat → Int32} {G : Nat → Int64} {A : Nat → Int32 → Int32} {B : Nat → Int32 → Int64} {cu su cu' su' : Nat} {Q : Option Value → WO → Prop} {idx : Nat}
theorem Wk.getI {i : Nat} {n d : String} {x : Int32} (ht : (i, n, d) ∈ cd.2.1) (wl : (Cond.fieldLink cd.1 idx cd.1 n d).before a0 Z = true) (hd : InsA md pc (.getfield idx) 3 pc') (hx : F i = x) (h : Wk l Z (MoC Z cd) md pc' L (.int x :: S) (k, F, G, A, B) cu su Q) : Wk l Z (MoC Z cd) md pc L (.ref 0 :: S) (k, F, G, A, B) cu su Q :=
  fun en p e s m args below meth c T locs r X K hz hF hR hL => by
  obtain ⟨hd, rfl⟩ := hd
  subst hx
  obtain ⟨T1, X1, e1, st⟩ := getF X K.1 K.2.1 K.2.2.1 (host := "") (Or.inl wl) Via.refl rfl (hR.2.2.1 _ ht) (g := mkF m pc r (.ref en.1 :: S.map (rv ((MoC Z cd).rho en)))) rfl rfl (hb K.by hd)
  refine (h en p e s m args below meth c T1 locs r X1 K (by rw [e1]; exact hz) hF (by rw [e1]; exact hR) hL).pre (fun _ q => by rw [e1] at q; exact q) fun t q => st t q
theorem Wk.getJ {i : Nat} {n : String} {x : Int64} (ht : (i, n) ∈ cd.2.2.1) (wl : (Cond.fieldLink cd.1 idx cd.1 n "J").before a0 Z = true) (hd : InsA md pc (.getfield idx) 3 pc') (hx : G i = x) (h : Wk l Z (MoC Z cd) md pc' L (.long x :: S) (k, F, G, A, B) cu su Q) : Wk l Z (MoC Z cd) md pc L (.ref 0 :: S) (k, F, G, A, B) cu su Q :=
  fun en p e s m args below meth c T locs r X K hz hF hR hL => by
  obtain ⟨hd, rfl⟩ := hd
  subst hx
  obtain ⟨T1, X1, e1, st⟩ := getF X K.1 K.2.1 K.2.2.1 (host := "") (Or.inl wl) Via.refl rfl (hR.2.2.2.1 _ ht) (g := mkF m pc r (.ref en.1 :: S.map (rv ((MoC Z cd).rho en)))) rfl rfl (hb K.by hd)
  refine (h en p e s m args below meth c T1 locs r X1 K (by rw [e1]; exact hz) hF (by rw [e1]; exact hR) hL).pre (fun _ q => by rw [e1] at q; exact q) fun t q => st t q
theorem Wk.getA {i i' : Nat} {n d : String} {ty : FieldType} {len : Int32} (ht : (i, n, d, ty, len) ∈ cd.2.2.2) (hi : i < k) (hi' : i + 1 = i') (wl : (Cond.fieldLink cd.1 idx cd.1 n d).before a0 Z = true) (hd : InsA md pc (.getfield idx) 3 pc') (h : Wk l Z (MoC Z cd) md pc' L (.ref i' :: S) (k, F, G, A, B) cu su Q) : Wk l Z (MoC Z cd) md pc L (.ref 0 :: S) (k, F, G, A, B) cu su Q :=
  fun en p e s m args below meth c T locs r X K hz hF hR hL => by
  obtain ⟨hd, rfl⟩ := hd
  subst hi'
  obtain ⟨T1, X1, e1, st⟩ := getF X K.1 K.2.1 K.2.2.1 (host := "") (Or.inl wl) Via.refl rfl ((hR.2.2.2.2.1 _ ht).1 hi).1 (g := mkF m pc r (.ref en.1 :: S.map (rv ((MoC Z cd).rho en)))) rfl rfl (hb K.by hd)
  refine (h en p e s m args below meth c T1 locs r X1 K (by rw [e1]; exact hz) hF (by rw [e1]; exact hR) hL).pre (fun _ q => by rw [e1] at q; exact q) fun t q => st t q
theorem Wk.putI (ok : CO Z a0 cd) {i : Nat} {n : String} {x : Int32} (ht : (i, n, "I") ∈ cd.2.1) (wl : (Cond.fieldLink cd.1 idx cd.1 n "I").before a0 Z = true) (wy : (Cond.lays cd.1 cd.1 n "I").before a0 Z = true ∨ ((Cond.laysFinal cd.1 cd.1 n "I").before a0 Z = true ∧ (nmOf md).name = "<init>")) (hd : InsA md pc (.putfield idx) 3 pc') (h : Wk l Z (MoC Z cd) md pc' L S (k, ups F i x, G, A, B) cu su Q) : Wk l Z (MoC Z cd) md pc L (.int x :: .ref 0 :: S) (k, F, G, A, B) cu su Q :=
  fun en p e s m args below meth c T locs r X K hz hF hR hL => by
  obtain ⟨hd, rfl⟩ := hd
  obtain ⟨kk, wi⟩ := ok.1
  obtain ⟨T1, h1, X1, e1, W1, st⟩ := putF X K.1 K.2.1 K.2.2.1 (host := "") (Or.inl wl) Via.refl rfl (hR.2.2.1 _ ht) hR.2.1 (wy.imp id fun q => ⟨q.1, rfl, K.2.2.2.1.trans q.2⟩) wi (ty := .int) (v := .int x) (by decide +kernel) rfl rfl (g := mkF m pc r (.int x :: .ref en.1 :: S.map (rv ((MoC Z cd).rho en)))) rfl rfl (hb K.by hd)
  subst e1
  exact (h en p e s m args below meth c T1 _ r X1 K (by rw [W1.size]; exact hz) (Fr.snoc X1 hF hR.1) (relC.putI ok hR ht W1) hL).pre (fun _ q => (frmC.wr W1 (Nat.le_refl _) (Nat.le_add_right _ _)).trans q) fun t q => st t q
theorem Wk.putZ (ok : CO Z a0 cd) {i : Nat} {n : String} {x y : Int32} (hy : nar .boolean x = y) (ht : (i, n, "Z") ∈ cd.2.1) (wl : (Cond.fieldLink cd.1 idx cd.1 n "Z").before a0 Z = true) (wy : (Cond.lays cd.1 cd.1 n "Z").before a0 Z = true ∨ ((Cond.laysFinal cd.1 cd.1 n "Z").before a0 Z = true ∧ (nmOf md).name = "<init>")) (hd : InsA md pc (.putfield idx) 3 pc') (h : Wk l Z (MoC Z cd) md pc' L S (k, ups F i y, G, A, B) cu su Q) : Wk l Z (MoC Z cd) md pc L (.int x :: .ref 0 :: S) (k, F, G, A, B) cu su Q :=
  fun en p e s m args below meth c T locs r X K hz hF hR hL => by
  obtain ⟨hd, rfl⟩ := hd
  subst hy
  obtain ⟨kk, wi⟩ := ok.1
  obtain ⟨T1, h1, X1, e1, W1, st⟩ := putFN X K.1 K.2.1 K.2.2.1 wl Via.refl rfl (hR.2.2.1 _ ht) hR.2.1 (wy.imp id fun q => ⟨q.1, rfl, K.2.2.2.1.trans q.2⟩) wi (ty := .boolean) (v := .int x) (v' := .int (nar .boolean x)) (by decide +kernel) rfl (fits_nar_bool x) (g := mkF m pc r (.int x :: .ref en.1 :: S.map (rv ((MoC Z cd).rho en)))) rfl rfl (hb K.by hd)
  subst e1
  exact (h en p e s m args below meth c T1 _ r X1 K (by rw [W1.size]; exact hz) (Fr.snoc X1 hF hR.1) (relC.putI ok hR ht W1) hL).pre (fun _ q => (frmC.wr W1 (Nat.le_refl _) (Nat.le_add_right _ _)).trans q) fun t q => st t q
theorem Wk.putJ (ok : CO Z a0 cd) {i : Nat} {n : String} {x : Int64} (ht : (i, n) ∈ cd.2.2.1) (wl : (Cond.fieldLink cd.1 idx cd.1 n "J").before a0 Z = true) (wy : (Cond.lays cd.1 cd.1 n "J").before a0 Z = true ∨ ((Cond.laysFinal cd.1 cd.1 n "J").before a0 Z = true ∧ (nmOf md).name = "<init>")) (hd : InsA md pc (.putfield idx) 3 pc') (h : Wk l Z (MoC Z cd) md pc' L S (k, F, ups G i x, A, B) cu su Q) : Wk l Z (MoC Z cd) md pc L (.long x :: .ref 0 :: S) (k, F, G, A, B) cu su Q :=
  fun en p e s m args below meth c T locs r X K hz hF hR hL => by
  obtain ⟨hd, rfl⟩ := hd
  obtain ⟨kk, wi⟩ := ok.1
  obtain ⟨T1, h1, X1, e1, W1, st⟩ := putF X K.1 K.2.1 K.2.2.1 (host := "") (Or.inl wl) Via.refl rfl (hR.2.2.2.1 _ ht) hR.2.1 (wy.imp id fun q => ⟨q.1, rfl, K.2.2.2.1.trans q.2⟩) wi (ty := .long) (v := .long x) (by decide +kernel) rfl rfl (g := mkF m pc r (.long x :: .ref en.1 :: S.map (rv ((MoC Z cd).rho en)))) rfl rfl (hb K.by hd)
  subst e1
  exact (h en p e s m args below meth c T1 _ r X1 K (by rw [W1.size]; exact hz) (Fr.snoc X1 hF hR.1) (relC.putJ ok hR ht W1) hL).pre (fun _ q => (frmC.wr W1 (Nat.le_refl _) (Nat.le_add_right _ _)).trans q) fun t q => st t q
/-- an array is made and laid into its field at once -/
theorem Wk.newA (ok : CO Z a0 cd) {aty : ArrayType} {len : Int32} {n d : String} {ty : FieldType} {k' : Nat} (hty : newarray.typeOf aty = ty) (wa : (Cond.arrayClass (newarray.typeOf aty)).before a0 Z = true) (ht : (k, n, d, ty, len) ∈ cd.2.2.2) (wl : (Cond.fieldLink cd.1 idx cd.1 n d).before a0 Z = true)
    (wy : (Cond.lays cd.1 cd.1 n d).before a0 Z = true ∨ ((Cond.laysFinal cd.1 cd.1 n d).before a0 Z = true ∧ (nmOf md).name = "<init>")) (hd : InsA md pc (.newarray aty) 2 pc1) (hd2 : InsA md pc1 (.putfield idx) 3 pc') (hA : A k = fun _ => 0) (hB : B k = fun _ => 0) (hk : k + 1 = k') (hcu : cu + 1 = cu') (hsu : su + len.toNatClampNeg = su')
    (hcap : len.toNatClampNeg * 8 ≤ 536870912) (hc : cu' ≤ (rmOf md).cells) (hs : su' ≤ (rmOf md).slots) (h : Wk l Z (MoC Z cd) md pc' L S (k', F, G, A, B) cu' su' Q) : Wk l Z (MoC Z cd) md pc L (.int len :: .ref 0 :: S) (k, F, G, A, B) cu su Q :=
  fun en p e s m args below meth c T locs r X K hz hF hR hL => by
  obtain ⟨hd, rfl⟩ := hd
  obtain ⟨hd2, rfl⟩ := hd2
  subst hk hcu hsu hty
  obtain ⟨kk, wi⟩ := ok.1
  have p8 := ok.2.2.2.2.2.2.2.2.2.2.2 _ ht
  obtain ⟨T1, h1, cA, X1, e1, E1, N1, st1⟩ := newP X K.1 K.2.1 wa rfl (g := mkF m pc r (.int len :: .ref en.1 :: S.map (rv ((MoC Z cd).rho en)))) rfl (hb K.by hd) rfl p8.2.2.2 (cap := len.toNatClampNeg) (Nat.le_refl _) hcap hc hs
  subst e1
  obtain ⟨T2, h2, X2, e2, W2, st2⟩ := putF X1 K.1 K.2.1 K.2.2.1 (host := "") (Or.inl wl) Via.refl rfl (((hR.2.2.2.2.1 _ ht).2 (Nat.lt_irrefl k)).ext E1) (hR.2.1.ext E1) (wy.imp id fun q => ⟨q.1, rfl, K.2.2.2.1.trans q.2⟩) wi (v := .ref T.heap.size) p8.1 rfl rfl (g := mkF m (pc + 2) r (.ref T.heap.size :: .ref en.1 :: S.map (rv ((MoC Z cd).rho en)))) rfl rfl (hb K.by hd2)
  subst e2
  have z1 := X1.heapSize
  have z2 : (T.heap.size : Nat) < T1.heap.size := N1.lt
  have z3 := W2.size
  exact (h en p e s m args below meth c T2 _ r X2 K (by omega) (Fr.snoc X2 hF hR.1) (relC.newA ok hR ht hA hB E1 N1 W2 (by omega)) hL).pre (fun _ q => ((frmC.ext E1).trans (frmC.wr W2 (Nat.le_refl _) (Nat.le_add_right _ _))).trans q) fun t q => st1 t (st2 t q)
theorem relC.arr {en : Nat × Nat} {h : Heap} {i : Nat} {n d : String} {ty : FieldType} {len : Int32} (hR : relC Z cd en (k, F, G, A, B) h) (ht : (i, n, d, ty, len) ∈ cd.2.2.2) (hi : i < k) : AtA Z h (en.1 + (i + 1)) ty len (A i) (B i) := ((hR.2.2.2.2.1 _ ht).1 hi).2
theorem Wk.iaload {i i' : Nat} {n d : String} {len x : Int32} {y : Int32} (ht : (i, n, d, .int, len) ∈ cd.2.2.2) (hi : i < k) (hi' : i + 1 = i') (h0 : ¬ x < 0) (h1 : x < len) (hd : InsA md pc .iaload 1 pc') (hy : A i x = y) (h : Wk l Z (MoC Z cd) md pc' L (.int y :: S) (k, F, G, A, B) cu su Q) : Wk l Z (MoC Z cd) md pc L (.int x :: .ref i' :: S) (k, F, G, A, B) cu su Q :=
  fun en p e s m args below meth c T locs r X K hz hF hR hL => by
  obtain ⟨hd, rfl⟩ := hd
  subst hi' hy
  obtain ⟨cl, g1, g2, g3⟩ := relC.arr hR ht hi
  exact (h en p e s m args below meth c T locs r X K hz hF hR hL).pre (fun _ q => q) fun t q => X.iaload K.1 (j := x) (v := .int (A i x)) g1.1 (State.isArrayOf_alike K.2.1.alike g1.2.1) g1.2.2 (in_of g2 h0 h1) (g3 x h0 h1) (g := mkF m pc r (.int x :: .ref (en.1 + (i + 1)) :: S.map (rv ((MoC Z cd).rho en)))) rfl rfl (hb K.by hd) _ q
theorem Wk.baload {i i' : Nat} {n d : String} {len x : Int32} {y : Int32} (ht : (i, n, d, .boolean, len) ∈ cd.2.2.2) (hi : i < k) (hi' : i + 1 = i') (h0 : ¬ x < 0) (h1 : x < len) (hd : InsA md pc .baload 1 pc') (hy : A i x = y) (h : Wk l Z (MoC Z cd) md pc' L (.int y :: S) (k, F, G, A, B) cu su Q) : Wk l Z (MoC Z cd) md pc L (.int x :: .ref i' :: S) (k, F, G, A, B) cu su Q :=
  fun en p e s m args below meth c T locs r X K hz hF hR hL => by
  obtain ⟨hd, rfl⟩ := hd
  subst hi' hy
  obtain ⟨cl, g1, g2, g3⟩ := relC.arr hR ht hi
  exact (h en p e s m args below meth c T locs r X K hz hF hR hL).pre (fun _ q => q) fun t q => X.baloadBooleans K.1 (j := x) (v := .int (A i x)) g1.1 (State.isArrayOf_alike K.2.1.alike g1.2.1) g1.2.2 (in_of g2 h0 h1) (g3 x h0 h1) (g := mkF m pc r (.int x :: .ref (en.1 + (i + 1)) :: S.map (rv ((MoC Z cd).rho en)))) rfl rfl (hb K.by hd) _ q
theorem Wk.laload {i i' : Nat} {n d : String} {len x : Int32} {y : Int64} (ht : (i, n, d, .long, len) ∈ cd.2.2.2) (hi : i < k) (hi' : i + 1 = i') (h0 : ¬ x < 0) (h1 : x < len) (hd : InsA md pc .laload 1 pc') (hy : B i x = y) (h : Wk l Z (MoC Z cd) md pc' L (.long y :: S) (k, F, G, A, B) cu su Q) : Wk l Z (MoC Z cd) md pc L (.int x :: .ref i' :: S) (k, F, G, A, B) cu su Q :=
  fun en p e s m args below meth c T locs r X K hz hF hR hL => by
  obtain ⟨hd, rfl⟩ := hd
  subst hi' hy
  obtain ⟨cl, g1, g2, g3⟩ := relC.arr hR ht hi
  exact (h en p e s m args below meth c T locs r X K hz hF hR hL).pre (fun _ q => q) fun t q => X.laload K.1 (j := x) (v := .long (B i x)) g1.1 (State.isArrayOf_alike K.2.1.alike g1.2.1) g1.2.2 (in_of g2 h0 h1) (g3 x h0 h1) (g := mkF m pc r (.int x :: .ref (en.1 + (i + 1)) :: S.map (rv ((MoC Z cd).rho en)))) rfl rfl (hb K.by hd) _ q
theorem Wk.iastore (ok : CO Z a0 cd) {f : Int32 → Int32} {i i' : Nat} {n d : String} {len x v : Int32} (ht : (i, n, d, .int, len) ∈ cd.2.2.2) (hf : A i = f) (hi : i < k) (hi' : i + 1 = i') (h0 : ¬ x < 0) (h1 : x < len) (hd : InsA md pc .iastore 1 pc') (h : Wk l Z (MoC Z cd) md pc' L S (k, F, G, ups A i (ups f x v), B) cu su Q) : Wk l Z (MoC Z cd) md pc L (.int v :: .int x :: .ref i' :: S) (k, F, G, A, B) cu su Q :=
  fun en p e s m args below meth c T locs r X K hz hF hR hL => by
  obtain ⟨hd, rfl⟩ := hd
  subst hi' hf
  obtain ⟨cl, g1, g2, g3⟩ := relC.arr hR ht hi
  obtain ⟨T1, e1', X1, e1, W1, st⟩ := stI X K.1 K.2.1 rfl g1 (in_of g2 h0 h1) (g := mkF m pc r (.int v :: .int x :: .ref (en.1 + (i + 1)) :: S.map (rv ((MoC Z cd).rho en)))) rfl rfl (hb K.by hd)
  subst e1
  have p8 := (ok.2.2.2.2.2.2.2.2.2.2.2 _ ht).2.1
  exact (h en p e s m args below meth c T1 _ r X1 K (by rw [W1.size]; exact hz) (Fr.snoc X1 hF (Nat.le_trans hR.1 (Nat.le_add_right _ _))) (relC.stI ok (by decide) h0 h1 hR ht W1) hL).pre (fun _ q => (frmC.wr W1 (Nat.le_add_right _ _) (Nat.add_le_add_left (show i + 1 ≤ cd.2.2.2.length from p8) _)).trans q) fun t q => st t q
theorem Wk.bastore (ok : CO Z a0 cd) {f : Int32 → Int32} {i i' : Nat} {n d : String} {len x v v' : Int32} (hv : nar .boolean v = v') (ht : (i, n, d, .boolean, len) ∈ cd.2.2.2) (hf : A i = f) (hi : i < k) (hi' : i + 1 = i') (h0 : ¬ x < 0) (h1 : x < len) (hd : InsA md pc .bastore 1 pc') (h : Wk l Z (MoC Z cd) md pc' L S (k, F, G, ups A i (ups f x v'), B) cu su Q) : Wk l Z (MoC Z cd) md pc L (.int v :: .int x :: .ref i' :: S) (k, F, G, A, B) cu su Q :=
  fun en p e s m args below meth c T locs r X K hz hF hR hL => by
  obtain ⟨hd, rfl⟩ := hd
  subst hi' hv hf
  obtain ⟨cl, g1, g2, g3⟩ := relC.arr hR ht hi
  obtain ⟨T1, e1', X1, e1, W1, st⟩ := stZ X K.1 K.2.1 rfl g1 (in_of g2 h0 h1) (g := mkF m pc r (.int v :: .int x :: .ref (en.1 + (i + 1)) :: S.map (rv ((MoC Z cd).rho en)))) rfl rfl (hb K.by hd)
  subst e1
  have p8 := (ok.2.2.2.2.2.2.2.2.2.2.2 _ ht).2.1
  exact (h en p e s m args below meth c T1 _ r X1 K (by rw [W1.size]; exact hz) (Fr.snoc X1 hF (Nat.le_trans hR.1 (Nat.le_add_right _ _))) (relC.stI ok (by decide) h0 h1 hR ht W1) hL).pre (fun _ q => (frmC.wr W1 (Nat.le_add_right _ _) (Nat.add_le_add_left (show i + 1 ≤ cd.2.2.2.length from p8) _)).trans q) fun t q => st t q
theorem Wk.lastore (ok : CO Z a0 cd) {f : Int32 → Int64} {i i' : Nat} {n d : String} {len x : Int32} {v : Int64} (ht : (i, n, d, .long, len) ∈ cd.2.2.2) (hf : B i = f) (hi : i < k) (hi' : i + 1 = i') (h0 : ¬ x < 0) (h1 : x < len) (hd : InsA md pc .lastore 1 pc') (h : Wk l Z (MoC Z cd) md pc' L S (k, F, G, A, ups B i (ups f x v)) cu su Q) : Wk l Z (MoC Z cd) md pc L (.long v :: .int x :: .ref i' :: S) (k, F, G, A, B) cu su Q :=
  fun en p e s m args below meth c T locs r X K hz hF hR hL => by
  obtain ⟨hd, rfl⟩ := hd
  subst hi' hf
  obtain ⟨cl, g1, g2, g3⟩ := relC.arr hR ht hi
  obtain ⟨T1, e1', X1, e1, W1, st⟩ := stJ X K.1 K.2.1 rfl g1 (in_of g2 h0 h1) (g := mkF m pc r (.long v :: .int x :: .ref (en.1 + (i + 1)) :: S.map (rv ((MoC Z cd).rho en)))) rfl rfl (hb K.by hd)
  subst e1
  have p8 := (ok.2.2.2.2.2.2.2.2.2.2.2 _ ht).2.1
  exact (h en p e s m args below meth c T1 _ r X1 K (by rw [W1.size]; exact hz) (Fr.snoc X1 hF (Nat.le_trans hR.1 (Nat.le_add_right _ _))) (relC.stJ ok h0 h1 hR ht W1) hL).pre (fun _ q => (frmC.wr W1 (Nat.le_add_right _ _) (Nat.add_le_add_left (show i + 1 ≤ cd.2.2.2.length from p8) _)).trans q) fun t q => st t q
/-- Object.<init> -/
theorem Wk.initO {μ E : Type} {M : Mode μ E} {w : μ} {Q : Option Value → μ → Prop} {v : Nat} (w1 : (Cond.methodLink M.own idx Lib.objectInit).before a0 Z = true) (w2 : (Cond.instanceMethod Lib.objectInit).before a0 Z = true) (w3 : (Cond.code Lib.objectInit ⟨#[0xb1]⟩ 1 none).before a0 Z = true) (hd : InsA md pc (.invokespecial idx) 3 pc') (hl : L.length = mxOf md) (hf : 1 ≤ (rmOf md).frames) (hW : (S.map fun v => v.category).sum + 12 ≤ (rmOf md).locals)
    (h : Wk l Z M md pc' L S w cu su Q) : Wk l Z M md pc L (.ref v :: S) w cu su Q :=
  fun en p e s m args below meth c T locs r X K hz hF hR hL => by
  obtain ⟨hd, rfl⟩ := hd
  have cs : ∀ S : List Value, ((S.map (rv (M.rho en))).map fun v => v.category).sum = (S.map fun v => v.category).sum := fun S => by rw [List.map_map]; congr 1; exact List.map_congr_left fun v _ => rv_cat _ v
  obtain ⟨T1, X1, e1, st⟩ := Jvm.RoadKit.initO X K.1 K.2.1 K.2.2.1 w1 w2 w3 rfl (g := mkF m pc r (.ref (M.rho en v) :: S.map (rv (M.rho en)))) rfl (by show r.size = _; rw [hL.1, hl]; exact K.2.2.2.2.2.2.2.symm) rfl (hb K.by hd) hf (W := (S.map fun v => v.category).sum) (by show 2 * 0 + _ ≤ _; rw [cs]; omega) hW
  exact (h en p e s m args below meth c T1 locs r X1 K (by rw [e1]; exact hz) hF (by rw [e1]; exact hR) hL).pre (fun _ q => by rw [e1] at q; exact q) fun t q => st t q
end StepsC
end Jvm.Own

namespace Jvm.Own
open Jvm Jvm.ClassFile Sem Op Lib Jvm.Free Jvm.Stand Jvm.LawKit Jvm.RoadKit
/-! ## 4. Calls -/
def noRef : List Value → Bool
  | [] => true
  | .ref _ :: _ => false
  | _ :: t => noRef t
theorem noRef.map : (as : List Value) → noRef as = true → ∀ ρ, as.map (rv ρ) = as
  | [], _, _ => rfl
  | .ref _ :: _, h, _ => by cases h
  | .int _ :: t, h, ρ => by rw [List.map_cons, noRef.map t h ρ]; rfl
  | .long _ :: t, h, ρ => by rw [List.map_cons, noRef.map t h ρ]; rfl
  | .float _ :: t, h, ρ => by rw [List.map_cons, noRef.map t h ρ]; rfl
  | .double _ :: t, h, ρ => by rw [List.map_cons, noRef.map t h ρ]; rfl
  | .null :: t, h, ρ => by rw [List.map_cons, noRef.map t h ρ]; rfl
  | .retAddr _ :: t, h, ρ => by rw [List.map_cons, noRef.map t h ρ]; rfl
/-- what the words say of a callee: an instance method -/
def CalV (Z : State) (a0 : Array Value) (md : MD) (n : Nat) : Prop :=
  plainName (nmOf md).cls = true ∧ ((nmOf md).cls ≠ "java/lang/invoke/MethodHandle" ∧ (nmOf md).cls ≠ "java/lang/invoke/VarHandle") ∧ (∀ sig, parseMethodDescriptor (nmOf md).desc = some sig → n = sig.parameters.length) ∧
  (Cond.instanceMethod (nmOf md)).before a0 Z = true ∧ (Cond.code (nmOf md) (byOf md) (mxOf md) (rtOf md)).before a0 Z = true ∧ (Cond.initialized (nmOf md).cls).before a0 Z = true ∧
  (((Cond.declares (nmOf md)).before a0 Z = true ∧ (Cond.selects (nmOf md).cls (nmOf md) (nmOf md)).before a0 Z = true) ∨ ((Cond.privateMethod (nmOf md)).before a0 Z = true ∧ ∃ kk, (Cond.instantiable (nmOf md).cls kk).before a0 Z = true))
/-- a constructor -/
def CalI (Z : State) (a0 : Array Value) (md : MD) (n : Nat) : Prop :=
  plainName (nmOf md).cls = true ∧ ((nmOf md).cls ≠ "java/lang/invoke/MethodHandle" ∧ (nmOf md).cls ≠ "java/lang/invoke/VarHandle") ∧ (∀ sig, parseMethodDescriptor (nmOf md).desc = some sig → n = sig.parameters.length) ∧
  (Cond.instanceMethod (nmOf md)).before a0 Z = true ∧ (Cond.code (nmOf md) (byOf md) (mxOf md) (rtOf md)).before a0 Z = true ∧ (Cond.initialized (nmOf md).cls).before a0 Z = true ∧ (nmOf md).name = "<init>" ∧ rtOf md = none
/-- a static method -/
def CalS (Z : State) (a0 : Array Value) (md : MD) (n : Nat) : Prop :=
  plainName (nmOf md).cls = true ∧ ((nmOf md).cls ≠ "java/lang/invoke/MethodHandle" ∧ (nmOf md).cls ≠ "java/lang/invoke/VarHandle") ∧ (∀ sig, parseMethodDescriptor (nmOf md).desc = some sig → n = sig.parameters.length) ∧
  (Cond.static (nmOf md)).before a0 Z = true ∧ (Cond.code (nmOf md) (byOf md) (mxOf md) (rtOf md)).before a0 Z = true ∧ (Cond.initialized (nmOf md).cls).before a0 Z = true
/-- the figures of a call: the operands under it weigh wt -/
def Fits (md md' : MD) (wt cu su cu' su' : Nat) : Prop :=
  (rmOf md').frames + 1 ≤ (rmOf md).frames ∧ wt + (mxOf md' + 11) + (rmOf md').locals ≤ (rmOf md).locals ∧ cu + (rmOf md').cells = cu' ∧ su + (rmOf md').slots = su' ∧ cu' ≤ (rmOf md).cells ∧ su' ≤ (rmOf md).slots ∧ exOf md' = (rmOf md').cells
instance (md md' : MD) (wt cu su cu' su' : Nat) : Decidable (Fits md md' wt cu su cu' su') := by unfold Fits; infer_instance
section Core
variable {μ E : Type} {l : Launch} {Z : State} {a0 : Array Value} {M' : Mode μ E} {md md' : MD} {own : String} {p : Program} {e : Env} {s : State} {m : MethodId} {args : Array Value} {below : List Frame} {meth : Method} {c : Code} {T : State} {locs : List Loc} {cu su cu' su' wt pc idx : Nat} {as : List Value} {L' : List Slot} {w : μ} {Q' : Option Value → μ → Prop} {en : E} {a : Addr} {r : Array Slot} {rest : List Value}
theorem coreV (X : Stand p l e (rmOf md) s m args below meth c T locs cu su) (K : Kn Z own md p s m meth c) (hd : decode (byOf md) pc = .ok (.invokevirtual idx, 3)) (wl : (Cond.methodLink own idx (nmOf md')).before a0 Z = true) (cv : CalV Z a0 md' as.length) (hcal : Wk l Z M' md' 0 L' [] w 0 0 Q') (ho : M'.own = (nmOf md').cls) (hR : M'.rel en w T.heap) (hE : Exa Z T.heap a (nmOf md').cls) (ha : M'.rho en 0 = a)
    (hL : (argsToLocals (.ref 0 :: as).toArray (mxOf md')).toList = L') (hw : wfL L' = true) (ft : Fits md md' wt cu su cu' su') (hr : r.size = mxOf md) (hrest : (rest.map fun v => v.category).sum ≤ wt) :
    ∃ v T1 Lc w1, Stand p l e (rmOf md) s m args below meth c T1 (locs ++ Lc) cu' su' ∧ Q' v w1 ∧ M'.rel en w1 T1.heap ∧ M'.frm en T.heap T1.heap ∧ Fr (M'.lo en) Lc ∧ T1.heap.size = T.heap.size + exOf md' ∧ (∀ ρ x, v = some x → rv ρ x = x) ∧
      ∀ t, Steps p.tables e below (T1.setTop (mkF m (pc + 3) r (v.toList ++ rest))) t → Steps p.tables e below (T.setTop (mkF m pc r ((as.map (rv (M'.rho en))).reverse ++ .ref a :: rest))) t := by
  obtain ⟨v1, v2, v3, v4, v5, v6, v7⟩ := cv
  obtain ⟨f1, f2, f3, f4, f5, f6, f7⟩ := ft
  subst f3 f4 ha
  obtain ⟨hx, hZ, hown, -, -, -, hby, hml⟩ := K
  have bk := backOf (s := s) (args := args) (p := p) (e := e) (below := below) (len := 3) (W := wt) (R := rmOf md) (Q := fun v hh Lc => ∃ w', Q' v w' ∧ M'.rel en w' hh ∧ M'.frm en T.heap hh ∧ Fr (M'.lo en) Lc ∧ hh.size = T.heap.size + exOf md' ∧ ∀ ρ x, v = some x → rv ρ x = x) (hcal.met v1 ho hR (.ref 0 :: as) hL hw []) hZ v5 v6 f1 f2
  have hlen : ∀ sig, parseMethodDescriptor (nmOf md').desc = some sig → (as.map (rv (M'.rho en))).length = sig.parameters.length := fun sig q => by rw [List.length_map]; exact v3 sig q
  rcases v7 with ⟨d1, d2⟩ | ⟨d1, kk, d2⟩
  · obtain ⟨cq, kq, qa, qb, qc⟩ := isOf (T := T) hZ rfl hE
    obtain ⟨v, _, ⟨T1, L1, k1, n1⟩, -, X1, ⟨Lc, hQ, l1, y1, z1⟩, st⟩ := X.virtualBack hx (y := nmOf md') (z := nmOf md') hown (mvT hZ wl) (mvT hZ d1) (notFace_of_selects (args := #[]) (mvT hZ d2)) (mvT hZ d2) (mvT hZ v4) v2 bk qa qc (g := mkF m pc r ((as.map (rv (M'.rho en))).reverse ++ .ref (M'.rho en 0) :: rest)) rfl (hr.trans hml.symm) (Steps.refl _) (argsL := as.map (rv (M'.rho en))) (rest := rest) hlen rfl (by show 2 * 0 + _ ≤ _; omega) (hb hby hd) (fun _ _ => ⟨rfl, rfl, f5, f6⟩)
    dsimp only [Pt.U, Pt.locs, Pt.cells, Pt.slots] at X1 l1 y1 z1 st hQ
    subst l1 y1 z1
    obtain ⟨w1, q1, q2, q3, q4, q5, q6⟩ := hQ
    exact ⟨v, T1, Lc, w1, X1, q1, q2, q3, q4, q5, q6, fun t q => st.trans q⟩
  · obtain ⟨cc, kc, i1, i2, i3, i4, -⟩ := Cond.instantiable_spec (mvT (s := s) (args := #[]) hZ d2)
    have hni : kc.isInterface = false := by cases hq : kc.isInterface <;> simp [hq] at i4 ⊢
    have pv : s.PrivateAt (nmOf md') := Cond.privateMethod_at (mvP hZ d1 (args := #[]))
    have sel : (Cond.selects (nmOf md').cls (nmOf md') (nmOf md')).before args s = true := selects_self_of_private i1 i2 hni pv (mvT hZ v4) v2
    obtain ⟨cq, q7, q7'⟩ := hE.cell
    obtain ⟨v, _, ⟨T1, L1, k1, n1⟩, -, X1, ⟨Lc, hQ, l1, y1, z1⟩, st⟩ := X.privateBack hx (y := nmOf md') hown (mvT hZ wl) (mvT hZ v4) sel pv (mvT hZ v5) v2 bk (g := mkF m pc r ((as.map (rv (M'.rho en))).reverse ++ .ref (M'.rho en 0) :: rest)) rfl (hr.trans hml.symm) (Steps.refl _) (a := M'.rho en 0) q7 q7' (argsL := as.map (rv (M'.rho en))) (rest := rest) hlen rfl (by show 2 * 0 + _ ≤ _; omega) (hb hby hd) (fun _ _ => ⟨rfl, rfl, f5, f6⟩)
    dsimp only [Pt.U, Pt.locs, Pt.cells, Pt.slots] at X1 l1 y1 z1 st hQ
    subst l1 y1 z1
    obtain ⟨w1, q1, q2, q3, q4, q5, q6⟩ := hQ
    exact ⟨v, T1, Lc, w1, X1, q1, q2, q3, q4, q5, q6, fun t q => st.trans q⟩
theorem coreI (X : Stand p l e (rmOf md) s m args below meth c T locs cu su) (K : Kn Z own md p s m meth c) (hd : decode (byOf md) pc = .ok (.invokespecial idx, 3)) (wl : (Cond.methodLink own idx (nmOf md')).before a0 Z = true) (cv : CalI Z a0 md' as.length) (hcal : Wk l Z M' md' 0 L' [] w 0 0 Q') (ho : M'.own = (nmOf md').cls) (hR : M'.rel en w T.heap) (ha : M'.rho en 0 = a)
    (hL : (argsToLocals (.ref 0 :: as).toArray (mxOf md')).toList = L') (hw : wfL L' = true) (ft : Fits md md' wt cu su cu' su') (hr : r.size = mxOf md) (hrest : (rest.map fun v => v.category).sum ≤ wt) :
    ∃ v T1 Lc w1, Stand p l e (rmOf md) s m args below meth c T1 (locs ++ Lc) cu' su' ∧ Q' v w1 ∧ M'.rel en w1 T1.heap ∧ M'.frm en T.heap T1.heap ∧ Fr (M'.lo en) Lc ∧ T1.heap.size = T.heap.size + exOf md' ∧ (∀ ρ x, v = some x → rv ρ x = x) ∧
      ∀ t, Steps p.tables e below (T1.setTop (mkF m (pc + 3) r (v.toList ++ rest))) t → Steps p.tables e below (T.setTop (mkF m pc r ((as.map (rv (M'.rho en))).reverse ++ .ref a :: rest))) t := by
  obtain ⟨v1, v2, v3, v4, v5, v6, v7, v8⟩ := cv
  obtain ⟨f1, f2, f3, f4, f5, f6, f7⟩ := ft
  subst f3 f4 ha
  obtain ⟨hx, hZ, hown, -, -, -, hby, hml⟩ := K
  have bk := backOf (s := s) (args := args) (p := p) (e := e) (below := below) (len := 3) (W := wt) (R := rmOf md) (Q := fun v hh Lc => ∃ w', Q' v w' ∧ M'.rel en w' hh ∧ M'.frm en T.heap hh ∧ Fr (M'.lo en) Lc ∧ hh.size = T.heap.size + exOf md' ∧ ∀ ρ x, v = some x → rv ρ x = x) (hcal.met v1 ho hR (.ref 0 :: as) hL hw []) hZ v5 v6 f1 f2
  have hlen : ∀ sig, parseMethodDescriptor (nmOf md').desc = some sig → (as.map (rv (M'.rho en))).length = sig.parameters.length := fun sig q => by rw [List.length_map]; exact v3 sig q
  rw [v8] at v5
  obtain ⟨v, _, ⟨T1, L1, k1, n1⟩, -, X1, ⟨Lc, hQ, l1, y1, z1⟩, st⟩ := X.specialBack hx (y := nmOf md') v7 hown (mvT hZ wl) (mvT hZ v4) (mvT hZ v5) v2 bk (g := mkF m pc r ((as.map (rv (M'.rho en))).reverse ++ .ref (M'.rho en 0) :: rest)) rfl (hr.trans hml.symm) (Steps.refl _) (a := M'.rho en 0) (argsL := as.map (rv (M'.rho en))) (rest := rest) hlen rfl (by show 2 * 0 + _ ≤ _; omega) (hb hby hd) (fun _ _ => ⟨rfl, rfl, f5, f6⟩)
  dsimp only [Pt.U, Pt.locs, Pt.cells, Pt.slots] at X1 l1 y1 z1 st hQ
  subst l1 y1 z1
  obtain ⟨w1, q1, q2, q3, q4, q5, q6⟩ := hQ
  exact ⟨v, T1, Lc, w1, X1, q1, q2, q3, q4, q5, q6, fun t q => st.trans q⟩
theorem coreS (X : Stand p l e (rmOf md) s m args below meth c T locs cu su) (K : Kn Z own md p s m meth c) (hd : decode (byOf md) pc = .ok (.invokestatic idx, 3)) (wl : (Cond.methodLink own idx (nmOf md')).before a0 Z = true) (cv : CalS Z a0 md' as.length) (hcal : Wk l Z M' md' 0 L' [] w 0 0 Q') (ho : M'.own = (nmOf md').cls) (hR : M'.rel en w T.heap)
    (hL : (argsToLocals as.toArray (mxOf md')).toList = L') (hw : wfL L' = true) (ft : Fits md md' wt cu su cu' su') (hr : r.size = mxOf md) (hrest : (rest.map fun v => v.category).sum ≤ wt) :
    ∃ v T1 Lc w1, Stand p l e (rmOf md) s m args below meth c T1 (locs ++ Lc) cu' su' ∧ Q' v w1 ∧ M'.rel en w1 T1.heap ∧ M'.frm en T.heap T1.heap ∧ Fr (M'.lo en) Lc ∧ T1.heap.size = T.heap.size + exOf md' ∧ (∀ ρ x, v = some x → rv ρ x = x) ∧
      ∀ t, Steps p.tables e below (T1.setTop (mkF m (pc + 3) r (v.toList ++ rest))) t → Steps p.tables e below (T.setTop (mkF m pc r ((as.map (rv (M'.rho en))).reverse ++ rest))) t := by
  obtain ⟨v1, v2, v3, v4, v5, v6⟩ := cv
  obtain ⟨f1, f2, f3, f4, f5, f6, f7⟩ := ft
  subst f3 f4
  obtain ⟨hx, hZ, hown, -, -, -, hby, hml⟩ := K
  have bk := backOf (s := s) (args := args) (p := p) (e := e) (below := below) (len := 3) (W := wt) (R := rmOf md) (Q := fun v hh Lc => ∃ w', Q' v w' ∧ M'.rel en w' hh ∧ M'.frm en T.heap hh ∧ Fr (M'.lo en) Lc ∧ hh.size = T.heap.size + exOf md' ∧ ∀ ρ x, v = some x → rv ρ x = x) (hcal.met v1 ho hR as hL hw []) hZ v5 v6 f1 f2
  have hlen : ∀ sig, parseMethodDescriptor (nmOf md').desc = some sig → (as.map (rv (M'.rho en))).length = sig.parameters.length := fun sig q => by rw [List.length_map]; exact v3 sig q
  obtain ⟨v, _, ⟨T1, L1, k1, n1⟩, -, X1, ⟨Lc, hQ, l1, y1, z1⟩, st⟩ := Jvm.LawKit.callS X hx (y := nmOf md') hown (mvT hZ wl) (mvT hZ v4) (mvT hZ v6) (mvT hZ v5) v2 bk (g := mkF m pc r ((as.map (rv (M'.rho en))).reverse ++ rest)) rfl (hr.trans hml.symm) (argsL := as.map (rv (M'.rho en))) (rest := rest) hlen rfl (by show 2 * 0 + _ ≤ _; omega) (hb hby hd) (fun _ _ => ⟨rfl, rfl, f5, f6⟩)
  dsimp only [Pt.U, Pt.locs, Pt.cells, Pt.slots] at X1 l1 y1 z1 st hQ
  subst l1 y1 z1
  obtain ⟨w1, q1, q2, q3, q4, q5, q6⟩ := hQ
  exact ⟨v, T1, Lc, w1, X1, q1, q2, q3, q4, q5, q6, fun t q => st t q⟩
end Core
theorem cat_map (ρ : Nat → Addr) (S : List Value) : ((S.map (rv ρ)).map fun v => v.category).sum = (S.map fun v => v.category).sum := by
  rw [List.map_map]; congr 1; exact List.map_congr_left fun v _ => rv_cat _ v
theorem res_map {ρ : Nat → Addr} {v : Option Value} (h : ∀ ρ x, v = some x → rv ρ x = x) (S : List Value) : (v.toList ++ S).map (rv ρ) = v.toList ++ S.map (rv ρ) := by
  cases v with
  | none => rfl
  | some x => simp [h ρ x rfl]
section CallsC
variable {l : Launch} {Z : State} {a0 : Array Value} {cd : CD} {md md' : MD} {pc pc' wt idx : Nat} {L L' : List Slot} {S stk as : List Value} {w : WO} {cu su cu' su' : Nat} {Q Q' : Option Value → WO → Prop}
/-- a method of the same object -/
theorem Wk.callC (as : List Value) (S : List Value) (hs : stk = as.reverse ++ .ref 0 :: S) (wl : (Cond.methodLink cd.1 idx (nmOf md')).before a0 Z = true) (cv : CalV Z a0 md' as.length) (hc : (nmOf md').cls = cd.1) (nr : noRef as = true) (hcal : Wk l Z (MoC Z cd) md' 0 L' [] w 0 0 Q') (hL' : (argsToLocals (.ref 0 :: as).toArray (mxOf md')).toList = L') (hw : wfL L' = true) (hl : L.length = mxOf md)
    (hwt : (S.map fun v => v.category).sum = wt) (ft : Fits md md' wt cu su cu' su') (hd : InsA md pc (.invokevirtual idx) 3 pc') (h : ∀ v w', Q' v w' → Wk l Z (MoC Z cd) md pc' L (v.toList ++ S) w' cu' su' Q) : Wk l Z (MoC Z cd) md pc L stk w cu su Q :=
  fun en p e s m args below meth c T locs r X K hz hF hR hL => by
  obtain ⟨hd, rfl⟩ := hd
  subst hs
  obtain ⟨v, T1, Lc, w1, X1, q1, q2, q3, q4, q5, q6, st⟩ := coreV (M' := MoC Z cd) (en := en) (r := r) (rest := S.map (rv ((MoC Z cd).rho en))) X K hd wl cv hcal hc.symm hR (by rw [hc]; exact hR.2.1) rfl hL' hw ft (hL.1.trans hl) (by rw [cat_map]; omega)
  have f7 := ft.2.2.1
  have f8 := ft.2.2.2.2.2.2
  have em : (as.reverse ++ .ref 0 :: S).map (rv ((MoC Z cd).rho en)) = (as.map (rv ((MoC Z cd).rho en))).reverse ++ .ref ((MoC Z cd).rho en 0) :: S.map (rv ((MoC Z cd).rho en)) := by rw [List.map_append, List.map_reverse]; rfl
  have D := h v w1 q1 en p e s m args below meth c T1 _ r X1 K (by omega) (hF.app q4) q2 hL
  rw [res_map q6] at D
  rw [em]
  exact D.pre (fun _ q => frmC.trans q3 q) st
end CallsC
section CallsS
variable {μ E : Type} {l : Launch} {Z : State} {a0 : Array Value} {M : Mode μ E} {md md' : MD} {pc pc' wt idx : Nat} {L L' : List Slot} {S stk as : List Value} {w : μ} {cu su cu' su' : Nat} {Q Q' : Option Value → μ → Prop}
/-- a static method, in the same mode -/
theorem Wk.callS (hM : ∀ en h1 h2 h3, M.frm en h1 h2 → M.frm en h2 h3 → M.frm en h1 h3) (as : List Value) (S : List Value) (hs : stk = as.reverse ++ S) (wl : (Cond.methodLink M.own idx (nmOf md')).before a0 Z = true) (cv : CalS Z a0 md' as.length) (hc : (nmOf md').cls = M.own) (hcal : Wk l Z M md' 0 L' [] w 0 0 Q') (hL' : (argsToLocals as.toArray (mxOf md')).toList = L') (hw : wfL L' = true) (hl : L.length = mxOf md)
    (hwt : (S.map fun v => v.category).sum = wt) (ft : Fits md md' wt cu su cu' su') (hd : InsA md pc (.invokestatic idx) 3 pc') (h : ∀ v w', Q' v w' → Wk l Z M md pc' L (v.toList ++ S) w' cu' su' Q) : Wk l Z M md pc L stk w cu su Q :=
  fun en p e s m args below meth c T locs r X K hz hF hR hL => by
  obtain ⟨hd, rfl⟩ := hd
  subst hs
  obtain ⟨v, T1, Lc, w1, X1, q1, q2, q3, q4, q5, q6, st⟩ := coreS (M' := M) (en := en) (r := r) (rest := S.map (rv (M.rho en))) X K hd wl cv hcal hc.symm hR hL' hw ft (hL.1.trans hl) (by rw [cat_map]; omega)
  have f7 := ft.2.2.1
  have f8 := ft.2.2.2.2.2.2
  have em : (as.reverse ++ S).map (rv (M.rho en)) = (as.map (rv (M.rho en))).reverse ++ S.map (rv (M.rho en)) := by rw [List.map_append, List.map_reverse]
  have D := h v w1 q1 en p e s m args below meth c T1 _ r X1 K (by omega) (hF.app q4) q2 hL
  rw [res_map q6] at D
  rw [em]
  exact D.pre (fun _ q => hM _ _ _ _ q3 q) st
end CallsS
/-! ## 5. The law's own level: a script of ints (or none) and some objects, made one behind the other -/
abbrev WL : Type := Int32 × (Int32 → Int32) × List WO
def w0 : WO := (0, fun _ => 0, fun _ => 0, fun _ _ => 0, fun _ _ => 0)
def rhoL (cd : CD) (en : Nat × Nat) : Nat → Addr
  | 0 => en.2
  | i + 1 => en.1 + i * (cd.2.2.2.length + 1)
def relL (Z : State) (cd : CD) (sc : Bool) (en : Nat × Nat) (w : WL) (h : Heap) : Prop :=
  (sc = true → en.2 < en.1 ∧ ¬ w.1 < 0 ∧ AtA Z h en.2 .int w.1 w.2.1 (fun _ => 0)) ∧ (∀ i x, w.2.2[i]? = some x → relC Z cd (en.1 + i * (cd.2.2.2.length + 1), en.1) x h) ∧ h.size = en.1 + (w.2.2.map fun x => x.1 + 1).sum
abbrev MoL (Z : State) (cd : CD) (own : String) (sc : Bool) : Mode WL (Nat × Nat) := (own, rhoL cd, fun en => en.1, relL Z cd sc, fun _ _ _ => True)
def allK (n : Nat) : List WO → Prop
  | [] => True
  | x :: t => x.1 = n ∧ allK n t
theorem allK.get {n : Nat} : (ws : List WO) → allK n ws → ∀ (i : Nat) (x : WO), ws[i]? = some x → x.1 = n
  | [], _, i, x, h => by simp at h
  | y :: t, h, i, x, e => by
    cases i with
    | zero => simp at e; rw [← e]; exact h.1
    | succ i => exact allK.get t h.2 i x (by simpa using e)
theorem allK.sum {n : Nat} : {ws : List WO} → allK n ws → (ws.map fun x => x.1 + 1).sum = ws.length * (n + 1)
  | [], _ => by simp
  | y :: t, h => by rw [List.map_cons, List.sum_cons, allK.sum (ws := t) h.2, h.1, List.length_cons, Nat.add_mul]; omega
theorem sum_set : (ws : List WO) → (i : Nat) → (x y : WO) → ws[i]? = some x → ((ws.set i y).map fun x => x.1 + 1).sum + x.1 = (ws.map fun x => x.1 + 1).sum + y.1
  | [], i, x, y, h => by simp at h
  | z :: t, 0, x, y, h => by simp at h; subst h; simp; omega
  | z :: t, i + 1, x, y, h => by have := sum_set t i x y (by simpa using h); simp only [List.set_cons_succ, List.map_cons, List.sum_cons]; omega
section Keep
variable {Z : State} {cd : CD} {en : Nat × Nat} {h h' : Heap} {w : WO}
theorem Fld.cells {a : Addr} {C n d : String} {v : Value} (H : Fld Z h a C n d v) (q : ∀ c, h[a]? = some c → h'[a]? = some c) : Fld Z h' a C n d v := by
  obtain ⟨cell, cf, k, i, f, h1, r⟩ := H; exact ⟨cell, cf, k, i, f, q _ h1, r⟩
theorem Exa.cells {a : Addr} {C : String} (H : Exa Z h a C) (q : ∀ c, h[a]? = some c → h'[a]? = some c) : Exa Z h' a C := by
  obtain ⟨cell, k, h1, r⟩ := H; exact ⟨cell, k, q _ h1, r⟩
theorem AtA.cells {b : Addr} {ty : FieldType} {n : Int32} {f : Int32 → Int32} {g : Int32 → Int64} (H : AtA Z h b ty n f g) (q : ∀ c, h[b]? = some c → h'[b]? = some c) : AtA Z h' b ty n f g := by
  obtain ⟨cl, h1, r⟩ := H; exact ⟨cl, ⟨q _ h1.1, h1.2⟩, r⟩
theorem relC.cells (okA : ∀ t ∈ cd.2.2.2, t.1 < cd.2.2.2.length) (hR : relC Z cd en w h) (hk : w.1 = cd.2.2.2.length) (q : ∀ x c, en.1 ≤ x → x ≤ en.1 + cd.2.2.2.length → h[x]? = some c → h'[x]? = some c) : relC Z cd en w h' := by
  obtain ⟨r1, r2, r3, r4, r5, r6⟩ := hR
  have q0 := fun c => q en.1 c (Nat.le_refl _) (Nat.le_add_right _ _)
  refine ⟨r1, Exa.cells r2 q0, fun t m => Fld.cells (r3 t m) q0, fun t m => Fld.cells (r4 t m) q0, fun t m => ⟨fun k => ⟨Fld.cells ((r5 t m).1 k).1 q0, AtA.cells ((r5 t m).1 k).2 fun c => q _ c (Nat.le_add_right _ _) (by have := okA t m; omega)⟩, fun k => Fld.cells ((r5 t m).2 k) q0⟩, fun k => absurd k (by omega)⟩
end Keep
theorem apart {N i j n x : Nat} (hne : j ≠ i) (h1 : n + j * (N + 1) ≤ x) (h2 : x ≤ n + j * (N + 1) + N) : x < n + i * (N + 1) ∨ n + i * (N + 1) + N < x := by
  rcases Nat.lt_or_gt_of_ne hne with q | q
  · left
    have := Nat.mul_le_mul_right (N + 1) (show j + 1 ≤ i from q)
    rw [Nat.add_mul] at this
    omega
  · right
    have := Nat.mul_le_mul_right (N + 1) (show i + 1 ≤ j from q)
    rw [Nat.add_mul] at this
    omega
/-- one object's walk, seen from the law's level -/
theorem relL.step {Z : State} {cd : CD} {sc : Bool} {en : Nat × Nat} {sl : Int32} {sv : Int32 → Int32} {ws : List WO} {h h' : Heap} {i : Nat} {x y : WO} (okA : ∀ t ∈ cd.2.2.2, t.1 < cd.2.2.2.length) (hR : relL Z cd sc en (sl, sv, ws) h) (hi : ws[i]? = some x) (hoth : ∀ j z, ws[j]? = some z → j ≠ i → z.1 = cd.2.2.2.length)
    (hy : relC Z cd (en.1 + i * (cd.2.2.2.length + 1), en.1) y h') (hf : frmC cd (en.1 + i * (cd.2.2.2.length + 1), en.1) h h') (hz : h'.size + x.1 = h.size + y.1) : relL Z cd sc en (sl, sv, ws.set i y) h' := by
  obtain ⟨r1, r2, r3⟩ := hR
  refine ⟨fun q => ?_, fun j z hj => ?_, ?_⟩
  · obtain ⟨a1, a2, a3⟩ := r1 q
    refine ⟨a1, a2, AtA.cells a3 fun c hc => hf.2 _ c hc (Or.inl ?_)⟩
    show en.2 < en.1 + i * (cd.2.2.2.length + 1)
    omega
  · have hj' : (ws.set i y)[j]? = some z := hj
    rw [List.getElem?_set] at hj'
    by_cases e : i = j
    · subst e
      have : i < ws.length := (List.getElem?_eq_some_iff.mp hi).1
      simp [this] at hj'
      subst hj'
      exact hy
    · rw [if_neg e] at hj'
      exact relC.cells okA (r2 j z hj') (hoth j z hj' (Ne.symm e)) fun a c h1 h2 hc => hf.2 a c hc (apart (Ne.symm e) h1 h2)
  · have s1 := sum_set ws i x y hi
    have s2 : h.size = en.1 + (ws.map fun x => x.1 + 1).sum := r3
    show h'.size = en.1 + ((ws.set i y).map fun x => x.1 + 1).sum
    omega
section StepsL
variable {l : Launch} {Z : State} {a0 : Array Value} {cd : CD} {own : String} {sc : Bool} {md md' : MD} {pc pc' wt idx : Nat} {L L' : List Slot} {S stk as : List Value} {sl : Int32} {sv : Int32 → Int32} {ws ws' : List WO} {cu su cu' su' : Nat} {Q : Option Value → WL → Prop} {Q' : Option Value → WO → Prop}
theorem Wk.lenL (hd : InsA md pc .arraylength 1 pc') (h : Wk l Z (MoL Z cd own true) md pc' L (.int sl :: S) (sl, sv, ws) cu su Q) : Wk l Z (MoL Z cd own true) md pc L (.ref 0 :: S) (sl, sv, ws) cu su Q :=
  fun en p e s m args below meth c T locs r X K hz hF hR hL => by
  obtain ⟨hd, rfl⟩ := hd
  obtain ⟨a1, a2, cl, g1, g2, g3⟩ := hR.1 rfl
  have e1 : cl.slots.size.toInt32 = sl := by rw [g2]; exact (back32 a2).1
  refine (h en p e s m args below meth c T locs r X K hz hF hR hL).pre (fun _ q => q) fun t q => X.arraylength K.1 g1.1 (State.isArrayOf_alike K.2.1.alike g1.2.1) (g := mkF m pc r (.ref en.2 :: S.map (rv (rhoL cd en)))) rfl rfl (hb K.by hd) _ (by rw [e1]; exact q)
theorem Wk.ialoadL {x : Int32} (h0 : ¬ x < 0) (h1 : x < sl) (hd : InsA md pc .iaload 1 pc') (h : Wk l Z (MoL Z cd own true) md pc' L (.int (sv x) :: S) (sl, sv, ws) cu su Q) : Wk l Z (MoL Z cd own true) md pc L (.int x :: .ref 0 :: S) (sl, sv, ws) cu su Q :=
  fun en p e s m args below meth c T locs r X K hz hF hR hL => by
  obtain ⟨hd, rfl⟩ := hd
  obtain ⟨a1, a2, cl, g1, g2, g3⟩ := hR.1 rfl
  exact (h en p e s m args below meth c T locs r X K hz hF hR hL).pre (fun _ q => q) fun t q => X.iaload K.1 (j := x) (v := .int (sv x)) g1.1 (State.isArrayOf_alike K.2.1.alike g1.2.1) g1.2.2 (in_of g2 h0 h1) (g3 x h0 h1) (g := mkF m pc r (.int x :: .ref en.2 :: S.map (rv (rhoL cd en)))) rfl rfl (hb K.by hd) _ q
theorem Wk.newL (ok : CO Z a0 cd) {kk i' : Nat} (wc : (Cond.classLink own idx cd.1).before a0 Z = true) (wi : (Cond.instantiable cd.1 kk).before a0 Z = true) (wz : (Cond.initialized cd.1).before a0 Z = true) (hd : InsA md pc (.new idx) 3 pc') (hall : allK cd.2.2.2.length ws) (hi : ws.length + 1 = i') (hws : ws ++ [w0] = ws') (hcu : cu + 1 = cu') (hsu : su + kk = su') (hc : cu' ≤ (rmOf md).cells) (hs : su' ≤ (rmOf md).slots)
    (h : Wk l Z (MoL Z cd own sc) md pc' L (.ref i' :: S) (sl, sv, ws') cu' su' Q) : Wk l Z (MoL Z cd own sc) md pc L S (sl, sv, ws) cu su Q :=
  fun en p e s m args below meth c T locs r X K hz hF hR hL => by
  obtain ⟨hd, rfl⟩ := hd
  subst hi hws hcu hsu
  obtain ⟨T1, h1, X1, e1, E1, A1, D1, -, st⟩ := newO X K.1 K.2.1 K.2.2.1 wc wi wz rfl (g := mkF m pc r (S.map (rv (rhoL cd en)))) rfl (hb K.by hd) hc hs
  subst e1
  obtain ⟨r1, r2, r3⟩ := hR
  have r3' : T.heap.size = en.1 + (ws.map fun x => x.1 + 1).sum := r3
  have sm := hall.sum
  have z1 := X1.heapSize
  have z2 : (T.heap.size : Nat) < T1.heap.size := A1.lt
  have ea : T.heap.size = en.1 + ws.length * (cd.2.2.2.length + 1) := by rw [r3', sm]
  have okp := ok.2.2.2.2
  obtain ⟨q1, q2, q3, q4, q5, q6, q7, q8⟩ := okp
  have rel1 : relL Z cd sc en (sl, sv, ws ++ [w0]) T1.heap := by
    refine ⟨fun q => ⟨(r1 q).1, (r1 q).2.1, (r1 q).2.2.ext E1⟩, fun j z hj => ?_, ?_⟩
    · have hj' : (ws ++ [w0])[j]? = some z := hj
      by_cases e : j < ws.length
      · rw [List.getElem?_append_left e] at hj'
        exact relC.cells (fun t m => (q8 t m).2.1) (r2 j z hj') (allK.get _ hall _ _ hj') fun a c _ _ hc => E1.2 a c hc
      · have e2 : j = ws.length := by
          have := (List.getElem?_eq_some_iff.mp hj').1
          simp at this; omega
        subst e2
        simp at hj'
        subst hj'
        rw [← ea]
        refine ⟨by show en.1 ≤ T.heap.size; omega, A1, fun t m => ?_, fun t m => ?_, fun t m => ⟨fun k => absurd k (Nat.not_lt_zero _), fun _ => ?_⟩, fun _ => by show T1.heap.size = T.heap.size + 1 + 0; omega⟩
        · rcases q7 t m with q | q
          · exact D1 (ok.2.1 t m) q
          · exact D1 (ok.2.1 t m) q
        · exact D1 (ok.2.2.1 t m) pJ
        · exact D1 (ok.2.2.2.1 t m) (q8 t m).1
    · show T1.heap.size = en.1 + ((ws ++ [w0]).map fun x => x.1 + 1).sum
      rw [List.map_append, List.sum_append]
      show T1.heap.size = en.1 + ((ws.map fun x => x.1 + 1).sum + 1)
      omega
  refine (h en p e s m args below meth c T1 locs r X1 K (by omega) hF rel1 hL).pre (fun _ _ => trivial) fun t q => st t ?_
  rw [ea]
  exact q
theorem Wk.callLC (ok : CO Z a0 cd) (as : List Value) (i : Nat) (S : List Value) {i' : Nat} {x : WO} (hi' : i + 1 = i') (hs : stk = as.reverse ++ .ref i' :: S) (hx : ws[i]? = some x) (hoth : allK cd.2.2.2.length (ws.eraseIdx i)) (wl : (Cond.methodLink own idx (nmOf md')).before a0 Z = true) (cv : CalV Z a0 md' as.length) (hc : (nmOf md').cls = cd.1) (nr : noRef as = true) (hcal : Wk l Z (MoC Z cd) md' 0 L' [] x 0 0 Q') (hL' : (argsToLocals (.ref 0 :: as).toArray (mxOf md')).toList = L') (hw : wfL L' = true) (hl : L.length = mxOf md)
    (hwt : (S.map fun v => v.category).sum = wt) (ft : Fits md md' wt cu su cu' su') (hd : InsA md pc (.invokevirtual idx) 3 pc') (hk : ∀ v y, Q' v y → y.1 = x.1 + exOf md') (h : ∀ v y, Q' v y → Wk l Z (MoL Z cd own sc) md pc' L (v.toList ++ S) (sl, sv, ws.set i y) cu' su' Q) : Wk l Z (MoL Z cd own sc) md pc L stk (sl, sv, ws) cu su Q :=
  fun en p e s m args below meth c T locs r X K hz hF hR hL => by
  obtain ⟨hd, rfl⟩ := hd
  subst hs hi'
  have rx := hR.2.1 i x hx
  obtain ⟨v, T1, Lc, w1, X1, p1, p2, p3, p4, p5, p6, st⟩ := coreV (M' := MoC Z cd) (en := (en.1 + i * (cd.2.2.2.length + 1), en.1)) (r := r) (rest := S.map (rv (rhoL cd en))) X K hd wl cv hcal hc.symm rx (by rw [hc]; exact rx.2.1) rfl hL' hw ft (hL.1.trans hl) (by rw [cat_map]; omega)
  have f7 := ft.2.2.1
  have f8 := ft.2.2.2.2.2.2
  have em : (as.reverse ++ .ref (i + 1) :: S).map (rv (rhoL cd en)) = (as.map (rv ((MoC Z cd).rho (en.1 + i * (cd.2.2.2.length + 1), en.1)))).reverse ++ .ref ((MoC Z cd).rho (en.1 + i * (cd.2.2.2.length + 1), en.1) 0) :: S.map (rv (rhoL cd en)) := by
    rw [List.map_append, List.map_reverse, noRef.map as nr, noRef.map as nr]; rfl
  have oth : ∀ j z, ws[j]? = some z → j ≠ i → z.1 = cd.2.2.2.length := by
    intro j z hj hne
    by_cases e : j < i
    · exact allK.get _ hoth j z (by rw [List.getElem?_eraseIdx]; simp [e, hj])
    · refine allK.get _ hoth (j - 1) z ?_
      rw [List.getElem?_eraseIdx, if_neg (by omega), show j - 1 + 1 = j by omega]; exact hj
  have hkk := hk v w1 p1
  have okA : ∀ t ∈ cd.2.2.2, t.1 < cd.2.2.2.length := fun t m => (ok.2.2.2.2.2.2.2.2.2.2.2 t m).2.1
  have D := h v w1 p1 en p e s m args below meth c T1 _ r X1 K (by omega) (hF.app p4) (relL.step okA hR hx oth p2 p3 (by omega)) hL
  rw [res_map p6] at D
  show Done _ _ _ _ _ _ _ _ _ _ _ _ _ _ (mkF m pc r ((as.reverse ++ .ref (i + 1) :: S).map (rv (rhoL cd en))))
  rw [em]
  exact D.pre (fun _ _ => trivial) st
theorem Wk.ctorL (ok : CO Z a0 cd) (as : List Value) (i : Nat) (S : List Value) {i' : Nat} {x : WO} (hi' : i + 1 = i') (hs : stk = as.reverse ++ .ref i' :: S) (hx : ws[i]? = some x) (hoth : allK cd.2.2.2.length (ws.eraseIdx i)) (wl : (Cond.methodLink own idx (nmOf md')).before a0 Z = true) (cv : CalI Z a0 md' as.length) (hc : (nmOf md').cls = cd.1) (nr : noRef as = true) (hcal : Wk l Z (MoC Z cd) md' 0 L' [] x 0 0 Q') (hL' : (argsToLocals (.ref 0 :: as).toArray (mxOf md')).toList = L') (hw : wfL L' = true) (hl : L.length = mxOf md)
    (hwt : (S.map fun v => v.category).sum = wt) (ft : Fits md md' wt cu su cu' su') (hd : InsA md pc (.invokespecial idx) 3 pc') (hk : ∀ v y, Q' v y → y.1 = x.1 + exOf md') (h : ∀ v y, Q' v y → Wk l Z (MoL Z cd own sc) md pc' L (v.toList ++ S) (sl, sv, ws.set i y) cu' su' Q) : Wk l Z (MoL Z cd own sc) md pc L stk (sl, sv, ws) cu su Q :=
  fun en p e s m args below meth c T locs r X K hz hF hR hL => by
  obtain ⟨hd, rfl⟩ := hd
  subst hs hi'
  have rx := hR.2.1 i x hx
  obtain ⟨v, T1, Lc, w1, X1, p1, p2, p3, p4, p5, p6, st⟩ := coreI (M' := MoC Z cd) (en := (en.1 + i * (cd.2.2.2.length + 1), en.1)) (r := r) (rest := S.map (rv (rhoL cd en))) X K hd wl cv hcal hc.symm rx rfl hL' hw ft (hL.1.trans hl) (by rw [cat_map]; omega)
  have f7 := ft.2.2.1
  have f8 := ft.2.2.2.2.2.2
  have em : (as.reverse ++ .ref (i + 1) :: S).map (rv (rhoL cd en)) = (as.map (rv ((MoC Z cd).rho (en.1 + i * (cd.2.2.2.length + 1), en.1)))).reverse ++ .ref ((MoC Z cd).rho (en.1 + i * (cd.2.2.2.length + 1), en.1) 0) :: S.map (rv (rhoL cd en)) := by
    rw [List.map_append, List.map_reverse, noRef.map as nr, noRef.map as nr]; rfl
  have oth : ∀ j z, ws[j]? = some z → j ≠ i → z.1 = cd.2.2.2.length := by
    intro j z hj hne
    by_cases e : j < i
    · exact allK.get _ hoth j z (by rw [List.getElem?_eraseIdx]; simp [e, hj])
    · refine allK.get _ hoth (j - 1) z ?_
      rw [List.getElem?_eraseIdx, if_neg (by omega), show j - 1 + 1 = j by omega]; exact hj
  have hkk := hk v w1 p1
  have okA : ∀ t ∈ cd.2.2.2, t.1 < cd.2.2.2.length := fun t m => (ok.2.2.2.2.2.2.2.2.2.2.2 t m).2.1
  have D := h v w1 p1 en p e s m args below meth c T1 _ r X1 K (by omega) (hF.app p4) (relL.step okA hR hx oth p2 p3 (by omega)) hL
  rw [res_map p6] at D
  show Done _ _ _ _ _ _ _ _ _ _ _ _ _ _ (mkF m pc r ((as.reverse ++ .ref (i + 1) :: S).map (rv (rhoL cd en))))
  rw [em]
  exact D.pre (fun _ _ => trivial) st
end StepsL
end Jvm.Own

namespace Jvm.Own
open Jvm Jvm.ClassFile Sem Op Lib Jvm.Free Jvm.Stand Jvm.LawKit Jvm.RoadKit
/-- the class's list of fields, looked at -/
def okB (cd : CD) : Bool :=
  cd.2.1.all (fun (t : Nat × String × String) => cd.2.1.all fun t' => if t.1 = t'.1 then decide (t = t') else t.2.1 != t'.2.1) && cd.2.2.1.all (fun (t : Nat × String) => cd.2.2.1.all fun t' => if t.1 = t'.1 then decide (t = t') else t.2 != t'.2) && cd.2.2.2.all (fun (t : Nat × String × String × FieldType × Int32) => cd.2.2.2.all fun t' => if t.1 = t'.1 then decide (t = t') else t.2.1 != t'.2.1) &&
  cd.2.1.all (fun (t : Nat × String × String) => cd.2.2.1.all fun (t' : Nat × String) => t.2.1 != t'.2) && cd.2.1.all (fun (t : Nat × String × String) => cd.2.2.2.all fun (t' : Nat × String × String × FieldType × Int32) => t.2.1 != t'.2.1) && cd.2.2.1.all (fun (t : Nat × String) => cd.2.2.2.all fun (t' : Nat × String × String × FieldType × Int32) => t.2 != t'.2.1) &&
  cd.2.1.all (fun (t : Nat × String × String) => decide (parseFieldDescriptor t.2.2 = some .int) || decide (parseFieldDescriptor t.2.2 = some .boolean)) &&
  cd.2.2.2.all (fun (t : Nat × String × String × FieldType × Int32) => decide (parseFieldDescriptor t.2.2.1 = some (.array t.2.2.2.1)) && decide (t.1 < cd.2.2.2.length) && (decide (t.2.2.2.1 = .int) || decide (t.2.2.2.1 = .boolean) || decide (t.2.2.2.1 = .long)) && !decide (t.2.2.2.2 < 0))
theorem pair_of {α : Type} {L : List α} {f : α → Nat} {g : α → String} [DecidableEq α] (h : L.all (fun t => L.all fun t' => if f t = f t' then decide (t = t') else g t != g t') = true) : ∀ t ∈ L, ∀ t' ∈ L, (f t = f t' → t = t') ∧ (f t ≠ f t' → g t ≠ g t') := by
  intro t m t' m'
  have q := List.all_eq_true.mp (List.all_eq_true.mp h t m) t' m'
  constructor
  · intro e; rw [if_pos e] at q; exact of_decide_eq_true q
  · intro e; rw [if_neg e] at q; simpa using q
theorem apart_of {α β : Type} {L : List α} {L' : List β} {g : α → String} {g' : β → String} (h : L.all (fun t => L'.all fun t' => g t != g' t') = true) : ∀ t ∈ L, ∀ t' ∈ L', g t ≠ g' t' := by
  intro t m t' m'
  have q := List.all_eq_true.mp (List.all_eq_true.mp h t m) t' m'
  simpa using q
theorem okC.of {cd : CD} (h : okB cd = true) : okC cd := by
  unfold okB at h
  simp only [Bool.and_eq_true] at h
  obtain ⟨⟨⟨⟨⟨⟨⟨h1, h2⟩, h3⟩, h4⟩, h5⟩, h6⟩, h7⟩, h8⟩ := h
  refine ⟨pair_of (L := cd.2.1) (f := fun (t : Nat × String × String) => t.1) (g := fun (t : Nat × String × String) => t.2.1) h1, pair_of (L := cd.2.2.1) (f := fun (t : Nat × String) => t.1) (g := fun (t : Nat × String) => t.2) h2, pair_of (L := cd.2.2.2) (f := fun (t : Nat × String × String × FieldType × Int32) => t.1) (g := fun (t : Nat × String × String × FieldType × Int32) => t.2.1) h3, apart_of (L := cd.2.1) (L' := cd.2.2.1) (g := fun (t : Nat × String × String) => t.2.1) (g' := fun (t : Nat × String) => t.2) h4, apart_of (L := cd.2.1) (L' := cd.2.2.2) (g := fun (t : Nat × String × String) => t.2.1) (g' := fun (t : Nat × String × String × FieldType × Int32) => t.2.1) h5, apart_of (L := cd.2.2.1) (L' := cd.2.2.2) (g := fun (t : Nat × String) => t.2) (g' := fun (t : Nat × String × String × FieldType × Int32) => t.2.1) h6, fun t m => ?_, fun t m => ?_⟩
  · have q := List.all_eq_true.mp h7 t m
    simpa using q
  · have q := List.all_eq_true.mp h8 t m
    simp only [Bool.and_eq_true, Bool.or_eq_true, decide_eq_true_eq, Bool.not_eq_true', decide_eq_false_iff_not] at q
    exact ⟨q.1.1.1, q.1.1.2, by rcases q.1.2 with (a | a) | a <;> simp [a], q.2⟩
theorem nar1 : nar .boolean 1 = 1 := by decide
theorem nar0 : nar .boolean 0 = 0 := by decide
theorem nar_nar (x : Int32) : nar .boolean (nar .boolean x) = nar .boolean x := by
  show (x &&& 1) &&& 1 = x &&& 1
  rw [Int32.and_assoc]; rfl
theorem ne_toInt {x n : Int32} (q : ¬ x = n) : x.toInt ≠ n.toInt := fun h => q (Int32.toInt_inj.mp h)
/-! ## 6. The same calls where the callee's answer is known as a term -/
section FunC
variable {l : Launch} {Z : State} {a0 : Array Value} {cd : CD} {md md' : MD} {pc pc' wt idx : Nat} {L L' : List Slot} {S stk as : List Value} {w w1 : WO} {cu su cu' su' : Nat} {Q : Option Value → WO → Prop} {x : Value}
theorem Wk.callF (as : List Value) (S : List Value) (wl : (Cond.methodLink cd.1 idx (nmOf md')).before a0 Z = true) (cv : CalV Z a0 md' as.length) (hd : InsA md pc (.invokevirtual idx) 3 pc') (hcal : Wk l Z (MoC Z cd) md' 0 L' [] w 0 0 (fun v w' => v = some x ∧ w' = w1)) (ft : Fits md md' wt cu su cu' su') (hs : stk = as.reverse ++ .ref 0 :: S) (hc : (nmOf md').cls = cd.1) (nr : noRef as = true) (hL' : (argsToLocals (.ref 0 :: as).toArray (mxOf md')).toList = L') (hw : wfL L' = true) (hl : L.length = mxOf md)
    (hwt : (S.map fun v => v.category).sum = wt) (h : Wk l Z (MoC Z cd) md pc' L (x :: S) w1 cu' su' Q) : Wk l Z (MoC Z cd) md pc L stk w cu su Q :=
  Wk.callC as S hs wl cv hc nr hcal hL' hw hl hwt ft hd fun v w' q => by obtain ⟨rfl, rfl⟩ := q; exact h
theorem Wk.callU (as : List Value) (S : List Value) (wl : (Cond.methodLink cd.1 idx (nmOf md')).before a0 Z = true) (cv : CalV Z a0 md' as.length) (hd : InsA md pc (.invokevirtual idx) 3 pc') (hcal : Wk l Z (MoC Z cd) md' 0 L' [] w 0 0 (fun v w' => v = none ∧ w' = w1)) (ft : Fits md md' wt cu su cu' su') (hs : stk = as.reverse ++ .ref 0 :: S) (hc : (nmOf md').cls = cd.1) (nr : noRef as = true) (hL' : (argsToLocals (.ref 0 :: as).toArray (mxOf md')).toList = L') (hw : wfL L' = true) (hl : L.length = mxOf md)
    (hwt : (S.map fun v => v.category).sum = wt) (h : Wk l Z (MoC Z cd) md pc' L S w1 cu' su' Q) : Wk l Z (MoC Z cd) md pc L stk w cu su Q :=
  Wk.callC as S hs wl cv hc nr hcal hL' hw hl hwt ft hd fun v w' q => by obtain ⟨rfl, rfl⟩ := q; exact h
end FunC
section FunS
variable {μ E : Type} {l : Launch} {Z : State} {a0 : Array Value} {M : Mode μ E} {md md' : MD} {pc pc' wt idx : Nat} {L L' : List Slot} {S stk as : List Value} {w w1 : μ} {cu su cu' su' : Nat} {Q : Option Value → μ → Prop} {x : Value}
theorem Wk.callSF (hM : ∀ en h1 h2 h3, M.frm en h1 h2 → M.frm en h2 h3 → M.frm en h1 h3) (as : List Value) (S : List Value) (wl : (Cond.methodLink M.own idx (nmOf md')).before a0 Z = true) (cv : CalS Z a0 md' as.length) (hd : InsA md pc (.invokestatic idx) 3 pc') (hcal : Wk l Z M md' 0 L' [] w 0 0 (fun v w' => v = some x ∧ w' = w1)) (ft : Fits md md' wt cu su cu' su') (hs : stk = as.reverse ++ S) (hc : (nmOf md').cls = M.own) (hL' : (argsToLocals as.toArray (mxOf md')).toList = L') (hw : wfL L' = true) (hl : L.length = mxOf md)
    (hwt : (S.map fun v => v.category).sum = wt) (h : Wk l Z M md pc' L (x :: S) w1 cu' su' Q) : Wk l Z M md pc L stk w cu su Q :=
  Wk.callS hM as S hs wl cv hc hcal hL' hw hl hwt ft hd fun v w' q => by obtain ⟨rfl, rfl⟩ := q; exact h
theorem Wk.callSU (hM : ∀ en h1 h2 h3, M.frm en h1 h2 → M.frm en h2 h3 → M.frm en h1 h3) (as : List Value) (S : List Value) (wl : (Cond.methodLink M.own idx (nmOf md')).before a0 Z = true) (cv : CalS Z a0 md' as.length) (hd : InsA md pc (.invokestatic idx) 3 pc') (hcal : Wk l Z M md' 0 L' [] w 0 0 (fun v w' => v = none ∧ w' = w1)) (ft : Fits md md' wt cu su cu' su') (hs : stk = as.reverse ++ S) (hc : (nmOf md').cls = M.own) (hL' : (argsToLocals as.toArray (mxOf md')).toList = L') (hw : wfL L' = true) (hl : L.length = mxOf md)
    (hwt : (S.map fun v => v.category).sum = wt) (h : Wk l Z M md pc' L S w1 cu' su' Q) : Wk l Z M md pc L stk w cu su Q :=
  Wk.callS hM as S hs wl cv hc hcal hL' hw hl hwt ft hd fun v w' q => by obtain ⟨rfl, rfl⟩ := q; exact h
end FunS
section FunL
variable {l : Launch} {Z : State} {a0 : Array Value} {cd : CD} {own : String} {sc : Bool} {md md' : MD} {pc pc' wt idx : Nat} {L L' : List Slot} {S stk as : List Value} {sl : Int32} {sv : Int32 → Int32} {ws ws' : List WO} {cu su cu' su' : Nat} {Q : Option Value → WL → Prop} {v : Value} {y : WO}
theorem Wk.callLF (ok : CO Z a0 cd) (as : List Value) (i : Nat) (S : List Value) {i' : Nat} {x : WO} (wl : (Cond.methodLink own idx (nmOf md')).before a0 Z = true) (cv : CalV Z a0 md' as.length) (hd : InsA md pc (.invokevirtual idx) 3 pc') (hcal : Wk l Z (MoC Z cd) md' 0 L' [] x 0 0 (fun v' w' => v' = some v ∧ w' = y)) (ft : Fits md md' wt cu su cu' su') (hoth : allK cd.2.2.2.length (ws.eraseIdx i)) (hi' : i + 1 = i') (hs : stk = as.reverse ++ .ref i' :: S) (hx : ws[i]? = some x) (hc : (nmOf md').cls = cd.1) (nr : noRef as = true) (hL' : (argsToLocals (.ref 0 :: as).toArray (mxOf md')).toList = L') (hw : wfL L' = true) (hl : L.length = mxOf md)
    (hwt : (S.map fun v => v.category).sum = wt) (hk : y.1 = x.1 + exOf md') (hws : ws.set i y = ws') (h : Wk l Z (MoL Z cd own sc) md pc' L (v :: S) (sl, sv, ws') cu' su' Q) : Wk l Z (MoL Z cd own sc) md pc L stk (sl, sv, ws) cu su Q :=
  Wk.callLC ok as i S hi' hs hx hoth wl cv hc nr hcal hL' hw hl hwt ft hd (fun v' y' q => by obtain ⟨rfl, rfl⟩ := q; exact hk) fun v' y' q => by obtain ⟨rfl, rfl⟩ := q; subst hws; exact h
theorem Wk.callLU (ok : CO Z a0 cd) (as : List Value) (i : Nat) (S : List Value) {i' : Nat} {x : WO} (wl : (Cond.methodLink own idx (nmOf md')).before a0 Z = true) (cv : CalV Z a0 md' as.length) (hd : InsA md pc (.invokevirtual idx) 3 pc') (hcal : Wk l Z (MoC Z cd) md' 0 L' [] x 0 0 (fun v' w' => v' = none ∧ w' = y)) (ft : Fits md md' wt cu su cu' su') (hoth : allK cd.2.2.2.length (ws.eraseIdx i)) (hi' : i + 1 = i') (hs : stk = as.reverse ++ .ref i' :: S) (hx : ws[i]? = some x) (hc : (nmOf md').cls = cd.1) (nr : noRef as = true) (hL' : (argsToLocals (.ref 0 :: as).toArray (mxOf md')).toList = L') (hw : wfL L' = true) (hl : L.length = mxOf md)
    (hwt : (S.map fun v => v.category).sum = wt) (hk : y.1 = x.1 + exOf md') (hws : ws.set i y = ws') (h : Wk l Z (MoL Z cd own sc) md pc' L S (sl, sv, ws') cu' su' Q) : Wk l Z (MoL Z cd own sc) md pc L stk (sl, sv, ws) cu su Q :=
  Wk.callLC ok as i S hi' hs hx hoth wl cv hc nr hcal hL' hw hl hwt ft hd (fun v' y' q => by obtain ⟨rfl, rfl⟩ := q; exact hk) fun v' y' q => by obtain ⟨rfl, rfl⟩ := q; subst hws; exact h
theorem Wk.ctorLU (ok : CO Z a0 cd) (as : List Value) (i : Nat) (S : List Value) {i' : Nat} {x : WO} (wl : (Cond.methodLink own idx (nmOf md')).before a0 Z = true) (cv : CalI Z a0 md' as.length) (hd : InsA md pc (.invokespecial idx) 3 pc') (hcal : Wk l Z (MoC Z cd) md' 0 L' [] x 0 0 (fun v' w' => v' = none ∧ w' = y)) (ft : Fits md md' wt cu su cu' su') (hoth : allK cd.2.2.2.length (ws.eraseIdx i)) (hi' : i + 1 = i') (hs : stk = as.reverse ++ .ref i' :: S) (hx : ws[i]? = some x) (hc : (nmOf md').cls = cd.1) (nr : noRef as = true) (hL' : (argsToLocals (.ref 0 :: as).toArray (mxOf md')).toList = L') (hw : wfL L' = true) (hl : L.length = mxOf md)
    (hwt : (S.map fun v => v.category).sum = wt) (hk : y.1 = x.1 + exOf md') (hws : ws.set i y = ws') (h : Wk l Z (MoL Z cd own sc) md pc' L S (sl, sv, ws') cu' su' Q) : Wk l Z (MoL Z cd own sc) md pc L stk (sl, sv, ws) cu su Q :=
  Wk.ctorL ok as i S hi' hs hx hoth wl cv hc nr hcal hL' hw hl hwt ft hd (fun v' y' q => by obtain ⟨rfl, rfl⟩ := q; exact hk) fun v' y' q => by obtain ⟨rfl, rfl⟩ := q; subst hws; exact h
end FunL
end Jvm.Own

namespace Jvm.Own
open Jvm
/-! ## 7. Plain helpers -/
theorem lt_i {x y : Int32} : x < y ↔ x.toInt < y.toInt := Int32.lt_iff_toInt_lt
theorem add_toInt {x y : Int32} (h1 : -2147483648 ≤ x.toInt + y.toInt) (h2 : x.toInt + y.toInt < 2147483648) : (x + y).toInt = x.toInt + y.toInt := by
  rw [Int32.toInt_add]
  exact Int.bmod_eq_of_le (by omega) (by omega)
theorem sub_toInt {x y : Int32} (h1 : -2147483648 ≤ x.toInt - y.toInt) (h2 : x.toInt - y.toInt < 2147483648) : (x - y).toInt = x.toInt - y.toInt := by
  rw [Int32.toInt_sub]
  exact Int.bmod_eq_of_le (by omega) (by omega)
theorem succ_toInt {i n : Int32} (h : i < n) : (i + 1).toInt = i.toInt + 1 := by
  have h1 := lt_i.mp h
  have h2 := Int32.toInt_lt n
  have h3 := Int32.le_toInt i
  exact add_toInt (x := i) (y := 1) (by show -2147483648 ≤ i.toInt + 1; omega) (by show i.toInt + 1 < 2147483648; omega)
/-- a loop that counts up to n: backwards from its end -/
theorem loopUp {n : Int32} {P : Int32 → Prop} (hend : P n) (hstep : ∀ i, ¬ i < 0 → i < n → P (i + 1) → P i) : ∀ i, ¬ i < 0 → ¬ n < i → P i := by
  have key : ∀ (k : Nat) (i : Int32), ¬ i < 0 → ¬ n < i → (n.toInt - i.toInt).toNat = k → P i := by
    intro k
    induction k with
    | zero =>
      intro i h0 h1 hk
      have e : i = n := by
        rw [lt_i] at h1
        exact Int32.toInt_inj.mp (by omega)
      subst e; exact hend
    | succ k ih =>
      intro i h0 h1 hk
      rw [lt_i] at h1
      have hlt : i < n := lt_i.mpr (by omega)
      have hs := succ_toInt hlt
      have h0' : ¬ i.toInt < 0 := fun q => h0 (lt_i.mpr q)
      refine hstep i h0 hlt (ih (i + 1) ?_ ?_ ?_)
      · rw [lt_i, hs]; show ¬ i.toInt + 1 < 0; omega
      · rw [lt_i, hs]; omega
      · rw [hs]; omega
  exact fun i h0 h1 => key _ i h0 h1 rfl
/-- the first n places hold c -/
def fill {α : Type} (f : Int32 → α) (n : Int32) (c : α) : Int32 → α := fun x => if ¬ x < 0 ∧ x < n then c else f x
theorem fill_zero {α : Type} (f : Int32 → α) (c : α) : fill f 0 c = f := by
  funext x; exact if_neg fun q => q.1 q.2
theorem fill_succ {α : Type} (f : Int32 → α) (c : α) {i n : Int32} (h0 : ¬ i < 0) (h : i < n) : ups (fill f i c) i c = fill f (i + 1) c := by
  funext x
  have hs := succ_toInt h
  have h0' : ¬ i.toInt < 0 := fun q => h0 (lt_i.mpr q)
  unfold ups fill
  by_cases e : x = i
  · rw [if_pos e, if_pos]
    subst e
    exact ⟨h0, lt_i.mpr (by omega)⟩
  · rw [if_neg e]
    have e' : x.toInt ≠ i.toInt := fun q => e (Int32.toInt_inj.mp q)
    by_cases q : ¬ x < 0 ∧ x < i
    · rw [if_pos q, if_pos ⟨q.1, lt_i.mpr (by have := lt_i.mp q.2; omega)⟩]
    · rw [if_neg q, if_neg]
      rintro ⟨a, b⟩
      exact q ⟨a, lt_i.mpr (by have := lt_i.mp b; omega)⟩
theorem fill_in {α : Type} (f : Int32 → α) (c : α) {x n : Int32} (h0 : ¬ x < 0) (h : x < n) : fill f n c x = c := if_pos ⟨h0, h⟩
theorem ups_self {κ α : Type} [DecidableEq κ] (f : κ → α) (i : κ) : ups f i (f i) = f := by
  funext k; unfold ups; by_cases e : k = i
  · rw [if_pos e, e]
  · rw [if_neg e]
theorem ups_upd {κ α : Type} [DecidableEq κ] (f : κ → α) (i : κ) (x y : α) : ups (ups f i x) i y = ups f i y := by
  funext k; unfold ups; by_cases e : k = i
  · rw [if_pos e, if_pos e]
  · rw [if_neg e, if_neg e, if_neg e]
theorem ups_comm {κ α : Type} [DecidableEq κ] (f : κ → α) {i j : κ} (x y : α) (h : i ≠ j) : ups (ups f i x) j y = ups (ups f j y) i x := by
  funext k; unfold ups; by_cases e : k = i
  · have : k ≠ j := fun q => h (e.symm.trans q)
    rw [if_neg this, if_pos e, if_pos e]
  · by_cases e2 : k = j
    · rw [if_pos e2, if_neg e, if_pos e2]
    · rw [if_neg e2, if_neg e, if_neg e, if_neg e2]
end Jvm.Own

namespace Jvm.Own
open Jvm Jvm.Free
/-! ## 8. Bits -/
theorem toNat_toInt (x : Int32) : (x.toBitVec.toNat : Int) = x.toInt % 4294967296 := by
  have h1 : x.toInt = x.toBitVec.toInt := rfl
  rw [h1, BitVec.toInt_eq_toNat_bmod]
  have h2 := x.toBitVec.isLt
  have h3 := Int.bmod_emod (x := (x.toBitVec.toNat : Int)) (m := 2 ^ 32)
  have h4 : ((2 ^ 32 : Nat) : Int) = 4294967296 := rfl
  rw [h4] at h3
  rw [h3]; omega
theorem and_mask (x m : Int32) (k : Nat) (hk : k < 31) (hm : m.toBitVec.toNat = 2 ^ k - 1) : (x &&& m).toInt = x.toInt % ((2 ^ k : Nat) : Int) := by
  have h1 : (x &&& m).toInt = (x.toBitVec &&& m.toBitVec).toInt := rfl
  have h2 : (x.toBitVec &&& m.toBitVec).toNat = x.toBitVec.toNat % 2 ^ k := by rw [BitVec.toNat_and, hm, Nat.and_two_pow_sub_one_eq_mod]
  have h3 : (2 ^ k : Nat) ≤ 2 ^ 30 := Nat.pow_le_pow_right (by decide) (by omega)
  have h4 : x.toBitVec.toNat % 2 ^ k < 2 ^ k := Nat.mod_lt _ (Nat.two_pow_pos k)
  have h5 : (2 ^ k : Nat) ∣ 4294967296 := ⟨2 ^ (32 - k), by rw [← Nat.pow_add]; have : k + (32 - k) = 32 := by omega
                                                            rw [this]⟩
  rw [h1, BitVec.toInt_eq_toNat_of_lt (by rw [h2]; omega), h2, Int.natCast_emod, toNat_toInt]
  exact Int.emod_emod_of_dvd _ (Int.natCast_dvd_natCast.mpr h5)
theorem sar_toInt (x y : Int32) (k : Nat) (hy : y.toBitVec.smod 32#32 = BitVec.ofNat 32 k) (hk : k < 32) : (x >>> y).toInt = x.toInt / ((2 ^ k : Nat) : Int) := by
  have h1 : (x >>> y).toInt = (x.toBitVec.sshiftRight' (y.toBitVec.smod 32#32)).toInt := rfl
  rw [h1, hy, BitVec.sshiftRight_eq', BitVec.toInt_sshiftRight, BitVec.toNat_ofNat, Nat.mod_eq_of_lt (by omega), Int.shiftRight_eq_div_pow]
  rfl
theorem ushr_pos (x y : Int32) (k : Nat) (hy : (y &&& 31).toBitVec.toNat = k) (hx : ¬ x < 0) : (XT.ushr x y).toInt = x.toInt / ((2 ^ k : Nat) : Int) := by
  have hx' : 0 ≤ x.toInt := by rw [lt_i] at hx; have z : (0 : Int32).toInt = 0 := rfl; omega
  have h0 : (x.toBitVec.toNat : Int) = x.toInt := by rw [toNat_toInt]; have := Int32.toInt_lt x; omega
  have hy' : k < 32 := by
    rw [← hy]
    have : (y &&& 31).toBitVec.toNat = y.toBitVec.toNat % 2 ^ 5 := by
      show (y.toBitVec &&& 31#32).toNat = _
      rw [BitVec.toNat_and]; exact Nat.and_two_pow_sub_one_eq_mod _ 5
    omega
  have h1 : (XT.ushr x y).toBitVec = x.toBitVec >>> k := by
    show x.toBitVec >>> ((y &&& 31).toBitVec % 32#32) = _
    rw [BitVec.ushiftRight_eq', BitVec.toNat_umod, hy]
    show x.toBitVec >>> (k % 32) = _
    rw [Nat.mod_eq_of_lt hy']
  have h2 : (x.toBitVec >>> k).toNat = x.toBitVec.toNat / 2 ^ k := by rw [BitVec.toNat_ushiftRight, Nat.shiftRight_eq_div_pow]
  have h3 : (XT.ushr x y).toInt = (x.toBitVec >>> k).toInt := by rw [← h1]; rfl
  have h4 : x.toBitVec.toNat / 2 ^ k ≤ x.toBitVec.toNat := Nat.div_le_self _ _
  rw [h3, BitVec.toInt_eq_toNat_of_lt (by rw [h2]; have := Int32.toInt_lt x; omega), h2, Int.natCast_ediv, h0]
end Jvm.Own
namespace Jvm.Own
open Jvm Jvm.ClassFile Sem Op Lib Jvm.Free Jvm.Stand Jvm.LawKit Jvm.RoadKit
/-! ## 9. An array of ints that the law is given -/
theorem script_at {s : State} {sa : Addr} {N : Int32} (na : (Cond.arrayOf (.arg 0) .int).value #[.ref sa] s none s [] = some true)
    (hr : (Cond.all (.arg 0) (.isInt (.elem (.arg 0) (.index 0)))).value #[.ref sa] s none s [] = some true)
    (nl : (Cond.le (.length (.arg 0)) (.int N)).value #[.ref sa] s none s [] = some true) :
    ∃ (sl : Int32) (sv : Int32 → Int32), sa < s.heap.size ∧ ¬ sl < 0 ∧ ¬ N < sl ∧ AtA s s.heap sa .int sl sv (fun _ => 0) := by
  have ea : ∀ idx, (Term.arg 0).eval #[Value.ref sa] s none idx s = some (.ref sa) := fun _ => rfl
  obtain ⟨cl, hcl⟩ := Arr.start (ea []) na
  have h1 : sa < s.heap.size := (Array.getElem?_eq_some_iff.mp hcl.1).1
  have hat : s.arrayAt? sa = some cl := hcl.fin (Vm.Alike.refl _)
  obtain ⟨x, y, ex, ey, -, -⟩ := cmp_v (.inr (.inr nl))
  have hsz : cl.slots.size < 2 ^ 31 := by
    apply Classical.byContradiction; intro hn
    have hn' : ¬ cl.slots.size < 2147483648 := hn
    simp [Term.eval, hat, hn', ea] at ex
  have e1 : (Term.length (.arg 0)).eval #[Value.ref sa] s none [] s = some (.int cl.slots.size.toInt32) := len_f (ea []) hat hsz
  have e2 : (Term.int N).eval #[Value.ref sa] s none [] s = some (.int N) := Term.int_eval N
  have hle : cl.slots.size.toInt32 ≤ N := by
    have := nl
    simp [Cond.value, e1, e2] at this
    exact this
  have hnn : ¬ cl.slots.size.toInt32 < 0 := Int32.ofNat_not_neg hsz
  have hbk : cl.slots.size.toInt32.toNatClampNeg = cl.slots.size := Example.SumArray.toNatClampNeg_ofNat hsz
  refine ⟨cl.slots.size.toInt32, fun x => match cl.slots[x.toNatClampNeg]? with | some (.int y) => y | _ => 0, h1, hnn, Int32.not_lt.mpr hle, cl, hcl, hbk.symm, fun x h0 hx => ?_⟩
  have hlt : x.toNatClampNeg < cl.slots.size := by have := clamp_lt h0 hx; rw [hbk] at this; exact this
  obtain ⟨v, hv⟩ := is_v (Cond.all_elim (ea []) hat hr _ hlt)
  rw [elem_f (ea _) (idx_at h0) hat h0] at hv
  show cl.slots[x.toNatClampNeg]? = some (Value.int (match cl.slots[x.toNatClampNeg]? with | some (.int y) => y | _ => 0))
  simp only [hv]
end Jvm.Own
namespace Jvm.Pilot.@@N@@
open Jvm Jvm.ClassFile Sem Op Lib Jvm.Free Jvm.Stand Jvm.LawKit Jvm.RoadKit Bundle Jvm.Own Jvm.Pilot.@@N@@.Jvm.D
def OK (Z : State) (a0 : Array Value) : Prop := ∀ d ∈ tables_1, d.before a0 Z = true
theorem OK.w {Z : State} {a0 : Array Value} (H : OK Z a0) (i : Nat) {d : Jvm.Cond} (h : tables_1[i]? = some d) : d.before a0 Z = true := H _ (List.mem_of_getElem? h)
abbrev cdC : CD := ("CyclicExecutive", [(0, "maxTasks", "I"), (1, "maxHyper", "I"), (2, "count", "I"), (3, "hyper", "I"), (4, "present", "Z"), (5, "frame", "I"), (6, "miss", "I"), (7, "now", "I"), (8, "pos", "I")], [], [(0, "per", "[I", .int, 8), (1, "exe", "[I", .int, 8), (2, "dl", "[I", .int, 8), (3, "runCnt", "[I", .int, 8), (4, "tickTask", "[I", .int, 128), (5, "tickJob", "[I", .int, 128), (6, "rem", "[I", .int, 1024)])
theorem okcC : okC cdC := okC.of (by decide +kernel)
theorem mI_maxTasks : (0, "maxTasks", "I") ∈ cdC.2.1 := List.mem_of_getElem? (i := 0) rfl
theorem mI_maxHyper : (1, "maxHyper", "I") ∈ cdC.2.1 := List.mem_of_getElem? (i := 1) rfl
theorem mI_count : (2, "count", "I") ∈ cdC.2.1 := List.mem_of_getElem? (i := 2) rfl
theorem mI_hyper : (3, "hyper", "I") ∈ cdC.2.1 := List.mem_of_getElem? (i := 3) rfl
theorem mI_present : (4, "present", "Z") ∈ cdC.2.1 := List.mem_of_getElem? (i := 4) rfl
theorem mI_frame : (5, "frame", "I") ∈ cdC.2.1 := List.mem_of_getElem? (i := 5) rfl
theorem mI_miss : (6, "miss", "I") ∈ cdC.2.1 := List.mem_of_getElem? (i := 6) rfl
theorem mI_now : (7, "now", "I") ∈ cdC.2.1 := List.mem_of_getElem? (i := 7) rfl
theorem mI_pos : (8, "pos", "I") ∈ cdC.2.1 := List.mem_of_getElem? (i := 8) rfl
theorem mA_per : (0, "per", "[I", FieldType.int, (8 : Int32)) ∈ cdC.2.2.2 := List.mem_of_getElem? (i := 0) rfl
theorem mA_exe : (1, "exe", "[I", FieldType.int, (8 : Int32)) ∈ cdC.2.2.2 := List.mem_of_getElem? (i := 1) rfl
theorem mA_dl : (2, "dl", "[I", FieldType.int, (8 : Int32)) ∈ cdC.2.2.2 := List.mem_of_getElem? (i := 2) rfl
theorem mA_runCnt : (3, "runCnt", "[I", FieldType.int, (8 : Int32)) ∈ cdC.2.2.2 := List.mem_of_getElem? (i := 3) rfl
theorem mA_tickTask : (4, "tickTask", "[I", FieldType.int, (128 : Int32)) ∈ cdC.2.2.2 := List.mem_of_getElem? (i := 4) rfl
theorem mA_tickJob : (5, "tickJob", "[I", FieldType.int, (128 : Int32)) ∈ cdC.2.2.2 := List.mem_of_getElem? (i := 5) rfl
theorem mA_rem : (6, "rem", "[I", FieldType.int, (1024 : Int32)) ∈ cdC.2.2.2 := List.mem_of_getElem? (i := 6) rfl
theorem wf_per {Z : State} {a0 : Array Value} (H : OK Z a0) : (Cond.fieldLink "CyclicExecutive" 7 "CyclicExecutive" "per" "[I").before a0 Z = true := H.w 10 rfl
theorem wf_exe {Z : State} {a0 : Array Value} (H : OK Z a0) : (Cond.fieldLink "CyclicExecutive" 13 "CyclicExecutive" "exe" "[I").before a0 Z = true := H.w 12 rfl
theorem wf_dl {Z : State} {a0 : Array Value} (H : OK Z a0) : (Cond.fieldLink "CyclicExecutive" 16 "CyclicExecutive" "dl" "[I").before a0 Z = true := H.w 14 rfl
theorem wf_runCnt {Z : State} {a0 : Array Value} (H : OK Z a0) : (Cond.fieldLink "CyclicExecutive" 19 "CyclicExecutive" "runCnt" "[I").before a0 Z = true := H.w 16 rfl
theorem wf_tickTask {Z : State} {a0 : Array Value} (H : OK Z a0) : (Cond.fieldLink "CyclicExecutive" 22 "CyclicExecutive" "tickTask" "[I").before a0 Z = true := H.w 18 rfl
theorem wf_tickJob {Z : State} {a0 : Array Value} (H : OK Z a0) : (Cond.fieldLink "CyclicExecutive" 25 "CyclicExecutive" "tickJob" "[I").before a0 Z = true := H.w 20 rfl
theorem wf_rem {Z : State} {a0 : Array Value} (H : OK Z a0) : (Cond.fieldLink "CyclicExecutive" 28 "CyclicExecutive" "rem" "[I").before a0 Z = true := H.w 22 rfl
theorem wf_maxTasks {Z : State} {a0 : Array Value} (H : OK Z a0) : (Cond.fieldLink "CyclicExecutive" 35 "CyclicExecutive" "maxTasks" "I").before a0 Z = true := H.w 28 rfl
theorem wf_maxHyper {Z : State} {a0 : Array Value} (H : OK Z a0) : (Cond.fieldLink "CyclicExecutive" 39 "CyclicExecutive" "maxHyper" "I").before a0 Z = true := H.w 30 rfl
theorem wf_count {Z : State} {a0 : Array Value} (H : OK Z a0) : (Cond.fieldLink "CyclicExecutive" 42 "CyclicExecutive" "count" "I").before a0 Z = true := H.w 32 rfl
theorem wf_hyper {Z : State} {a0 : Array Value} (H : OK Z a0) : (Cond.fieldLink "CyclicExecutive" 45 "CyclicExecutive" "hyper" "I").before a0 Z = true := H.w 34 rfl
theorem wf_present {Z : State} {a0 : Array Value} (H : OK Z a0) : (Cond.fieldLink "CyclicExecutive" 48 "CyclicExecutive" "present" "Z").before a0 Z = true := H.w 36 rfl
theorem wf_frame {Z : State} {a0 : Array Value} (H : OK Z a0) : (Cond.fieldLink "CyclicExecutive" 52 "CyclicExecutive" "frame" "I").before a0 Z = true := H.w 38 rfl
theorem wf_miss {Z : State} {a0 : Array Value} (H : OK Z a0) : (Cond.fieldLink "CyclicExecutive" 55 "CyclicExecutive" "miss" "I").before a0 Z = true := H.w 40 rfl
theorem wf_now {Z : State} {a0 : Array Value} (H : OK Z a0) : (Cond.fieldLink "CyclicExecutive" 58 "CyclicExecutive" "now" "I").before a0 Z = true := H.w 42 rfl
theorem wf_pos {Z : State} {a0 : Array Value} (H : OK Z a0) : (Cond.fieldLink "CyclicExecutive" 61 "CyclicExecutive" "pos" "I").before a0 Z = true := H.w 44 rfl
theorem wy_per {Z : State} {a0 : Array Value} (H : OK Z a0) : (Cond.laysFinal "CyclicExecutive" "CyclicExecutive" "per" "[I").before a0 Z = true := H.w 11 rfl
theorem wy_exe {Z : State} {a0 : Array Value} (H : OK Z a0) : (Cond.laysFinal "CyclicExecutive" "CyclicExecutive" "exe" "[I").before a0 Z = true := H.w 13 rfl
theorem wy_dl {Z : State} {a0 : Array Value} (H : OK Z a0) : (Cond.laysFinal "CyclicExecutive" "CyclicExecutive" "dl" "[I").before a0 Z = true := H.w 15 rfl
theorem wy_runCnt {Z : State} {a0 : Array Value} (H : OK Z a0) : (Cond.laysFinal "CyclicExecutive" "CyclicExecutive" "runCnt" "[I").before a0 Z = true := H.w 17 rfl
theorem wy_tickTask {Z : State} {a0 : Array Value} (H : OK Z a0) : (Cond.laysFinal "CyclicExecutive" "CyclicExecutive" "tickTask" "[I").before a0 Z = true := H.w 19 rfl
theorem wy_tickJob {Z : State} {a0 : Array Value} (H : OK Z a0) : (Cond.laysFinal "CyclicExecutive" "CyclicExecutive" "tickJob" "[I").before a0 Z = true := H.w 21 rfl
theorem wy_rem {Z : State} {a0 : Array Value} (H : OK Z a0) : (Cond.laysFinal "CyclicExecutive" "CyclicExecutive" "rem" "[I").before a0 Z = true := H.w 23 rfl
theorem wy_maxTasks {Z : State} {a0 : Array Value} (H : OK Z a0) : (Cond.lays "CyclicExecutive" "CyclicExecutive" "maxTasks" "I").before a0 Z = true := H.w 29 rfl
theorem wy_maxHyper {Z : State} {a0 : Array Value} (H : OK Z a0) : (Cond.lays "CyclicExecutive" "CyclicExecutive" "maxHyper" "I").before a0 Z = true := H.w 31 rfl
theorem wy_count {Z : State} {a0 : Array Value} (H : OK Z a0) : (Cond.lays "CyclicExecutive" "CyclicExecutive" "count" "I").before a0 Z = true := H.w 33 rfl
theorem wy_hyper {Z : State} {a0 : Array Value} (H : OK Z a0) : (Cond.lays "CyclicExecutive" "CyclicExecutive" "hyper" "I").before a0 Z = true := H.w 35 rfl
theorem wy_present {Z : State} {a0 : Array Value} (H : OK Z a0) : (Cond.lays "CyclicExecutive" "CyclicExecutive" "present" "Z").before a0 Z = true := H.w 37 rfl
theorem wy_frame {Z : State} {a0 : Array Value} (H : OK Z a0) : (Cond.lays "CyclicExecutive" "CyclicExecutive" "frame" "I").before a0 Z = true := H.w 39 rfl
theorem wy_miss {Z : State} {a0 : Array Value} (H : OK Z a0) : (Cond.lays "CyclicExecutive" "CyclicExecutive" "miss" "I").before a0 Z = true := H.w 41 rfl
theorem wy_now {Z : State} {a0 : Array Value} (H : OK Z a0) : (Cond.lays "CyclicExecutive" "CyclicExecutive" "now" "I").before a0 Z = true := H.w 43 rfl
theorem wy_pos {Z : State} {a0 : Array Value} (H : OK Z a0) : (Cond.lays "CyclicExecutive" "CyclicExecutive" "pos" "I").before a0 Z = true := H.w 45 rfl
theorem wa_int {Z : State} {a0 : Array Value} (H : OK Z a0) : (Cond.arrayClass (newarray.typeOf .int)).before a0 Z = true := H.w 9 rfl
theorem wz_C {Z : State} {a0 : Array Value} (H : OK Z a0) : (Cond.initialized "CyclicExecutive").before a0 Z = true := H.w 2 rfl
theorem coC {Z : State} {a0 : Array Value} (H : OK Z a0) : CO Z a0 cdC := by
  refine ⟨⟨16, H.w 1 rfl⟩, ?_, ?_, ?_, okcC⟩
  · intro t m; simp only [cdC, List.mem_cons, List.not_mem_nil, or_false] at m
    rcases m with rfl | rfl | rfl | rfl | rfl | rfl | rfl | rfl | rfl
    · exact Or.inl (wy_maxTasks H)
    · exact Or.inl (wy_maxHyper H)
    · exact Or.inl (wy_count H)
    · exact Or.inl (wy_hyper H)
    · exact Or.inl (wy_present H)
    · exact Or.inl (wy_frame H)
    · exact Or.inl (wy_miss H)
    · exact Or.inl (wy_now H)
    · exact Or.inl (wy_pos H)
  · intro t m; cases m
  · intro t m; simp only [cdC, List.mem_cons, List.not_mem_nil, or_false] at m
    rcases m with rfl | rfl | rfl | rfl | rfl | rfl | rfl
    · exact Or.inr (wy_per H)
    · exact Or.inr (wy_exe H)
    · exact Or.inr (wy_dl H)
    · exact Or.inr (wy_runCnt H)
    · exact Or.inr (wy_tickTask H)
    · exact Or.inr (wy_tickJob H)
    · exact Or.inr (wy_rem H)
theorem mrC {Z : State} (en : Nat × Nat) (h : Heap) : (MoC Z cdC).frm en h h := frmC.refl _ _ _
theorem mtC {Z : State} (en : Nat × Nat) (h1 h2 h3 : Heap) (a : (MoC Z cdC).frm en h1 h2) (b : (MoC Z cdC).frm en h2 h3) : (MoC Z cdC).frm en h1 h3 := frmC.trans a b
theorem mrL {Z : State} (en : Nat × Nat) (h : Heap) : (MoL Z cdC "CyclicExecutiveOwnLaw" true).frm en h h := trivial
theorem mtL {Z : State} (en : Nat × Nat) (h1 h2 h3 : Heap) (a : (MoL Z cdC "CyclicExecutiveOwnLaw" true).frm en h1 h2) (b : (MoL Z cdC "CyclicExecutiveOwnLaw" true).frm en h2 h3) : (MoL Z cdC "CyclicExecutiveOwnLaw" true).frm en h1 h3 := trivial
theorem pn_CyclicExecutive : plainName "CyclicExecutive" = true := by first | (simp [plainName, overriddenIn]; done) | decide +kernel
theorem pn_CyclicExecutiveOwnLaw : plainName "CyclicExecutiveOwnLaw" = true := by first | (simp [plainName, overriddenIn]; done) | decide +kernel
theorem pd___I : ∀ sig, parseMethodDescriptor "()I" = some sig → 0 = sig.parameters.length := fun sig h => by
  have q : parseMethodDescriptor "()I" = some ⟨[], some .int⟩ := by decide +kernel
  cases q.symm.trans h; rfl
theorem pd___V : ∀ sig, parseMethodDescriptor "()V" = some sig → 0 = sig.parameters.length := fun sig h => by
  have q : parseMethodDescriptor "()V" = some ⟨[], none⟩ := by decide +kernel
  cases q.symm.trans h; rfl
theorem pd__I_I : ∀ sig, parseMethodDescriptor "(I)I" = some sig → 1 = sig.parameters.length := fun sig h => by
  have q : parseMethodDescriptor "(I)I" = some ⟨[.int], some .int⟩ := by decide +kernel
  cases q.symm.trans h; rfl
theorem pd__I_Z : ∀ sig, parseMethodDescriptor "(I)Z" = some sig → 1 = sig.parameters.length := fun sig h => by
  have q : parseMethodDescriptor "(I)Z" = some ⟨[.int], some .boolean⟩ := by decide +kernel
  cases q.symm.trans h; rfl
theorem pd__II_I : ∀ sig, parseMethodDescriptor "(II)I" = some sig → 2 = sig.parameters.length := fun sig h => by
  have q : parseMethodDescriptor "(II)I" = some ⟨[.int, .int], some .int⟩ := by decide +kernel
  cases q.symm.trans h; rfl
theorem pd__II_V : ∀ sig, parseMethodDescriptor "(II)V" = some sig → 2 = sig.parameters.length := fun sig h => by
  have q : parseMethodDescriptor "(II)V" = some ⟨[.int, .int], none⟩ := by decide +kernel
  cases q.symm.trans h; rfl
theorem pd__III_I : ∀ sig, parseMethodDescriptor "(III)I" = some sig → 3 = sig.parameters.length := fun sig h => by
  have q : parseMethodDescriptor "(III)I" = some ⟨[.int, .int, .int], some .int⟩ := by decide +kernel
  cases q.symm.trans h; rfl
theorem pd___I_Z : ∀ sig, parseMethodDescriptor "([I)Z" = some sig → 1 = sig.parameters.length := fun sig h => by
  have q : parseMethodDescriptor "([I)Z" = some ⟨[(.array .int)], some .boolean⟩ := by decide +kernel
  cases q.symm.trans h; rfl
theorem pd___II_I : ∀ sig, parseMethodDescriptor "([II)I" = some sig → 2 = sig.parameters.length := fun sig h => by
  have q : parseMethodDescriptor "([II)I" = some ⟨[(.array .int), .int], some .int⟩ := by decide +kernel
  cases q.symm.trans h; rfl
abbrev md_init : MD := (⟨"CyclicExecutive", "<init>", "(II)V"⟩, prog_1_method_1_code, 3, none, { frames := 1, cells := 7, slots := 1312, locals := 16 }, 7)
theorem cv_init {Z : State} {a0 : Array Value} (H : OK Z a0) : CalI Z a0 md_init 2 := ⟨pn_CyclicExecutive, by decide, pd__II_V, H.w 4 rfl, H.w 5 rfl, H.w 2 rfl, rfl, rfl⟩
theorem o_init_0 : InsA md_init 0 (.aload_n 0) 1 1 := ⟨by decide +kernel, rfl⟩
theorem o_init_1 : InsA md_init 1 (.invokespecial 1) 3 4 := ⟨by decide +kernel, rfl⟩
theorem o_init_4 : InsA md_init 4 (.aload_n 0) 1 5 := ⟨by decide +kernel, rfl⟩
theorem o_init_5 : InsA md_init 5 (.bipush 8) 2 7 := ⟨by decide +kernel, rfl⟩
theorem o_init_7 : InsA md_init 7 (.newarray .int) 2 9 := ⟨by decide +kernel, rfl⟩
theorem o_init_9 : InsA md_init 9 (.putfield 7) 3 12 := ⟨by decide +kernel, rfl⟩
theorem o_init_12 : InsA md_init 12 (.aload_n 0) 1 13 := ⟨by decide +kernel, rfl⟩
theorem o_init_13 : InsA md_init 13 (.bipush 8) 2 15 := ⟨by decide +kernel, rfl⟩
theorem o_init_15 : InsA md_init 15 (.newarray .int) 2 17 := ⟨by decide +kernel, rfl⟩
theorem o_init_17 : InsA md_init 17 (.putfield 13) 3 20 := ⟨by decide +kernel, rfl⟩
theorem o_init_20 : InsA md_init 20 (.aload_n 0) 1 21 := ⟨by decide +kernel, rfl⟩
theorem o_init_21 : InsA md_init 21 (.bipush 8) 2 23 := ⟨by decide +kernel, rfl⟩
theorem o_init_23 : InsA md_init 23 (.newarray .int) 2 25 := ⟨by decide +kernel, rfl⟩
theorem o_init_25 : InsA md_init 25 (.putfield 16) 3 28 := ⟨by decide +kernel, rfl⟩
theorem o_init_28 : InsA md_init 28 (.aload_n 0) 1 29 := ⟨by decide +kernel, rfl⟩
theorem o_init_29 : InsA md_init 29 (.bipush 8) 2 31 := ⟨by decide +kernel, rfl⟩
theorem o_init_31 : InsA md_init 31 (.newarray .int) 2 33 := ⟨by decide +kernel, rfl⟩
theorem o_init_33 : InsA md_init 33 (.putfield 19) 3 36 := ⟨by decide +kernel, rfl⟩
theorem o_init_36 : InsA md_init 36 (.aload_n 0) 1 37 := ⟨by decide +kernel, rfl⟩
theorem o_init_37 : InsA md_init 37 (.sipush 128) 3 40 := ⟨by decide +kernel, rfl⟩
theorem o_init_40 : InsA md_init 40 (.newarray .int) 2 42 := ⟨by decide +kernel, rfl⟩
theorem o_init_42 : InsA md_init 42 (.putfield 22) 3 45 := ⟨by decide +kernel, rfl⟩
theorem o_init_45 : InsA md_init 45 (.aload_n 0) 1 46 := ⟨by decide +kernel, rfl⟩
theorem o_init_46 : InsA md_init 46 (.sipush 128) 3 49 := ⟨by decide +kernel, rfl⟩
theorem o_init_49 : InsA md_init 49 (.newarray .int) 2 51 := ⟨by decide +kernel, rfl⟩
theorem o_init_51 : InsA md_init 51 (.putfield 25) 3 54 := ⟨by decide +kernel, rfl⟩
theorem o_init_54 : InsA md_init 54 (.aload_n 0) 1 55 := ⟨by decide +kernel, rfl⟩
theorem o_init_55 : InsA md_init 55 (.sipush 1024) 3 58 := ⟨by decide +kernel, rfl⟩
theorem o_init_58 : InsA md_init 58 (.newarray .int) 2 60 := ⟨by decide +kernel, rfl⟩
theorem o_init_60 : InsA md_init 60 (.putfield 28) 3 63 := ⟨by decide +kernel, rfl⟩
theorem o_init_63 : InsA md_init 63 (.aload_n 0) 1 64 := ⟨by decide +kernel, rfl⟩
theorem o_init_64 : InsA md_init 64 (.aload_n 0) 1 65 := ⟨by decide +kernel, rfl⟩
theorem o_init_65 : InsA md_init 65 (.iload_n 1) 1 66 := ⟨by decide +kernel, rfl⟩
theorem o_init_66 : InsA md_init 66 (.iconst 1) 1 67 := ⟨by decide +kernel, rfl⟩
theorem o_init_67 : InsA md_init 67 (.bipush 8) 2 69 := ⟨by decide +kernel, rfl⟩
theorem o_init_69 : InsA md_init 69 (.invokevirtual 31) 3 72 := ⟨by decide +kernel, rfl⟩
theorem o_init_72 : InsA md_init 72 (.putfield 35) 3 75 := ⟨by decide +kernel, rfl⟩
theorem o_init_75 : InsA md_init 75 (.aload_n 0) 1 76 := ⟨by decide +kernel, rfl⟩
theorem o_init_76 : InsA md_init 76 (.aload_n 0) 1 77 := ⟨by decide +kernel, rfl⟩
theorem o_init_77 : InsA md_init 77 (.iload_n 2) 1 78 := ⟨by decide +kernel, rfl⟩
theorem o_init_78 : InsA md_init 78 (.iconst 1) 1 79 := ⟨by decide +kernel, rfl⟩
theorem o_init_79 : InsA md_init 79 (.sipush 128) 3 82 := ⟨by decide +kernel, rfl⟩
theorem o_init_82 : InsA md_init 82 (.invokevirtual 31) 3 85 := ⟨by decide +kernel, rfl⟩
theorem o_init_85 : InsA md_init 85 (.putfield 39) 3 88 := ⟨by decide +kernel, rfl⟩
theorem o_init_88 : InsA md_init 88 (.aload_n 0) 1 89 := ⟨by decide +kernel, rfl⟩
theorem o_init_89 : InsA md_init 89 (.iconst 0) 1 90 := ⟨by decide +kernel, rfl⟩
theorem o_init_90 : InsA md_init 90 (.putfield 42) 3 93 := ⟨by decide +kernel, rfl⟩
theorem o_init_93 : InsA md_init 93 (.aload_n 0) 1 94 := ⟨by decide +kernel, rfl⟩
theorem o_init_94 : InsA md_init 94 (.iconst 0) 1 95 := ⟨by decide +kernel, rfl⟩
theorem o_init_95 : InsA md_init 95 (.putfield 45) 3 98 := ⟨by decide +kernel, rfl⟩
theorem o_init_98 : InsA md_init 98 (.aload_n 0) 1 99 := ⟨by decide +kernel, rfl⟩
theorem o_init_99 : InsA md_init 99 (.iconst 0) 1 100 := ⟨by decide +kernel, rfl⟩
theorem o_init_100 : InsA md_init 100 (.putfield 48) 3 103 := ⟨by decide +kernel, rfl⟩
theorem o_init_103 : InsA md_init 103 (.aload_n 0) 1 104 := ⟨by decide +kernel, rfl⟩
theorem o_init_104 : InsA md_init 104 (.iconst 0) 1 105 := ⟨by decide +kernel, rfl⟩
theorem o_init_105 : InsA md_init 105 (.putfield 52) 3 108 := ⟨by decide +kernel, rfl⟩
theorem o_init_108 : InsA md_init 108 (.aload_n 0) 1 109 := ⟨by decide +kernel, rfl⟩
theorem o_init_109 : InsA md_init 109 (.iconst (-1)) 1 110 := ⟨by decide +kernel, rfl⟩
theorem o_init_110 : InsA md_init 110 (.putfield 55) 3 113 := ⟨by decide +kernel, rfl⟩
theorem o_init_113 : InsA md_init 113 (.aload_n 0) 1 114 := ⟨by decide +kernel, rfl⟩
theorem o_init_114 : InsA md_init 114 (.iconst 0) 1 115 := ⟨by decide +kernel, rfl⟩
theorem o_init_115 : InsA md_init 115 (.putfield 58) 3 118 := ⟨by decide +kernel, rfl⟩
theorem o_init_118 : InsA md_init 118 (.aload_n 0) 1 119 := ⟨by decide +kernel, rfl⟩
theorem o_init_119 : InsA md_init 119 (.iconst 0) 1 120 := ⟨by decide +kernel, rfl⟩
theorem o_init_120 : InsA md_init 120 (.putfield 61) 3 123 := ⟨by decide +kernel, rfl⟩
theorem o_init_123 : InsA md_init 123 (.return_) 1 124 := ⟨by decide +kernel, rfl⟩
abbrev md_clamp : MD := (⟨"CyclicExecutive", "clamp", "(III)I"⟩, prog_1_method_2_code, 4, some .int, { frames := 0, cells := 0, slots := 0, locals := 0 }, 0)
theorem cv_clamp {Z : State} {a0 : Array Value} (H : OK Z a0) : CalV Z a0 md_clamp 3 := ⟨pn_CyclicExecutive, by decide, pd__III_I, H.w 25 rfl, H.w 27 rfl, H.w 2 rfl, Or.inr ⟨H.w 26 rfl, 16, H.w 1 rfl⟩⟩
theorem o_clamp_0 : InsA md_clamp 0 (.iload_n 1) 1 1 := ⟨by decide +kernel, rfl⟩
theorem o_clamp_1 : InsA md_clamp 1 (.iload_n 2) 1 2 := ⟨by decide +kernel, rfl⟩
theorem o_clamp_2 : InsB md_clamp 2 (.if_icmp .ge 5) 3 5 (5) 7 := ⟨by decide +kernel, rfl, by decide, by decide⟩
theorem o_clamp_5 : InsA md_clamp 5 (.iload_n 2) 1 6 := ⟨by decide +kernel, rfl⟩
theorem o_clamp_6 : InsA md_clamp 6 (.ireturn) 1 7 := ⟨by decide +kernel, rfl⟩
theorem o_clamp_7 : InsA md_clamp 7 (.iload_n 1) 1 8 := ⟨by decide +kernel, rfl⟩
theorem o_clamp_8 : InsA md_clamp 8 (.iload_n 3) 1 9 := ⟨by decide +kernel, rfl⟩
theorem o_clamp_9 : InsB md_clamp 9 (.if_icmp .le 5) 3 12 (5) 14 := ⟨by decide +kernel, rfl, by decide, by decide⟩
theorem o_clamp_12 : InsA md_clamp 12 (.iload_n 3) 1 13 := ⟨by decide +kernel, rfl⟩
theorem o_clamp_13 : InsA md_clamp 13 (.ireturn) 1 14 := ⟨by decide +kernel, rfl⟩
theorem o_clamp_14 : InsA md_clamp 14 (.iload_n 1) 1 15 := ⟨by decide +kernel, rfl⟩
theorem o_clamp_15 : InsA md_clamp 15 (.ireturn) 1 16 := ⟨by decide +kernel, rfl⟩
abbrev md_L_cell : MD := (⟨"CyclicExecutiveOwnLaw", "cell", "([II)I"⟩, method_2_code, 2, some .int, { frames := 0, cells := 0, slots := 0, locals := 0 }, 0)
theorem cv_L_cell {Z : State} {a0 : Array Value} (H : OK Z a0) : CalS Z a0 md_L_cell 2 := ⟨pn_CyclicExecutiveOwnLaw, by decide, pd___II_I, H.w 47 rfl, H.w 49 rfl, H.w 48 rfl⟩
theorem o_L_cell_0 : InsA md_L_cell 0 (.iload_n 1) 1 1 := ⟨by decide +kernel, rfl⟩
theorem o_L_cell_1 : InsA md_L_cell 1 (.aload_n 0) 1 2 := ⟨by decide +kernel, rfl⟩
theorem o_L_cell_2 : InsA md_L_cell 2 (.arraylength) 1 3 := ⟨by decide +kernel, rfl⟩
theorem o_L_cell_3 : InsB md_L_cell 3 (.if_icmp .ge 9) 3 6 (9) 12 := ⟨by decide +kernel, rfl, by decide, by decide⟩
theorem o_L_cell_6 : InsA md_L_cell 6 (.aload_n 0) 1 7 := ⟨by decide +kernel, rfl⟩
theorem o_L_cell_7 : InsA md_L_cell 7 (.iload_n 1) 1 8 := ⟨by decide +kernel, rfl⟩
theorem o_L_cell_8 : InsA md_L_cell 8 (.iaload) 1 9 := ⟨by decide +kernel, rfl⟩
theorem o_L_cell_9 : InsB md_L_cell 9 (.goto 4) 3 12 (4) 13 := ⟨by decide +kernel, rfl, by decide, by decide⟩
theorem o_L_cell_12 : InsA md_L_cell 12 (.iconst 0) 1 13 := ⟨by decide +kernel, rfl⟩
theorem o_L_cell_13 : InsA md_L_cell 13 (.ireturn) 1 14 := ⟨by decide +kernel, rfl⟩
abbrev md_L_period : MD := (⟨"CyclicExecutiveOwnLaw", "period", "(I)I"⟩, method_3_code, 2, some .int, { frames := 0, cells := 0, slots := 0, locals := 0 }, 0)
theorem cv_L_period {Z : State} {a0 : Array Value} (H : OK Z a0) : CalS Z a0 md_L_period 1 := ⟨pn_CyclicExecutiveOwnLaw, by decide, pd__I_I, H.w 51 rfl, H.w 52 rfl, H.w 48 rfl⟩
theorem o_L_period_0 : InsA md_L_period 0 (.iload_n 0) 1 1 := ⟨by decide +kernel, rfl⟩
theorem o_L_period_1 : InsA md_L_period 1 (.sipush 32767) 3 4 := ⟨by decide +kernel, rfl⟩
theorem o_L_period_4 : InsA md_L_period 4 (.iand) 1 5 := ⟨by decide +kernel, rfl⟩
theorem o_L_period_5 : InsA md_L_period 5 (.bipush 6) 2 7 := ⟨by decide +kernel, rfl⟩
theorem o_L_period_7 : InsA md_L_period 7 (.irem) 1 8 := ⟨by decide +kernel, rfl⟩
theorem o_L_period_8 : InsA md_L_period 8 (.istore_n 1) 1 9 := ⟨by decide +kernel, rfl⟩
theorem o_L_period_9 : InsA md_L_period 9 (.iload_n 1) 1 10 := ⟨by decide +kernel, rfl⟩
theorem o_L_period_10 : InsB md_L_period 10 (.ifCond .ne 5) 3 13 (5) 15 := ⟨by decide +kernel, rfl, by decide, by decide⟩
theorem o_L_period_13 : InsA md_L_period 13 (.iconst 2) 1 14 := ⟨by decide +kernel, rfl⟩
theorem o_L_period_14 : InsA md_L_period 14 (.ireturn) 1 15 := ⟨by decide +kernel, rfl⟩
theorem o_L_period_15 : InsA md_L_period 15 (.iload_n 1) 1 16 := ⟨by decide +kernel, rfl⟩
theorem o_L_period_16 : InsA md_L_period 16 (.iconst 1) 1 17 := ⟨by decide +kernel, rfl⟩
theorem o_L_period_17 : InsB md_L_period 17 (.if_icmp .ne 5) 3 20 (5) 22 := ⟨by decide +kernel, rfl, by decide, by decide⟩
theorem o_L_period_20 : InsA md_L_period 20 (.iconst 3) 1 21 := ⟨by decide +kernel, rfl⟩
theorem o_L_period_21 : InsA md_L_period 21 (.ireturn) 1 22 := ⟨by decide +kernel, rfl⟩
theorem o_L_period_22 : InsA md_L_period 22 (.iload_n 1) 1 23 := ⟨by decide +kernel, rfl⟩
theorem o_L_period_23 : InsA md_L_period 23 (.iconst 2) 1 24 := ⟨by decide +kernel, rfl⟩
theorem o_L_period_24 : InsB md_L_period 24 (.if_icmp .ne 5) 3 27 (5) 29 := ⟨by decide +kernel, rfl, by decide, by decide⟩
theorem o_L_period_27 : InsA md_L_period 27 (.iconst 4) 1 28 := ⟨by decide +kernel, rfl⟩
theorem o_L_period_28 : InsA md_L_period 28 (.ireturn) 1 29 := ⟨by decide +kernel, rfl⟩
theorem o_L_period_29 : InsA md_L_period 29 (.iload_n 1) 1 30 := ⟨by decide +kernel, rfl⟩
theorem o_L_period_30 : InsA md_L_period 30 (.iconst 3) 1 31 := ⟨by decide +kernel, rfl⟩
theorem o_L_period_31 : InsB md_L_period 31 (.if_icmp .ne 6) 3 34 (6) 37 := ⟨by decide +kernel, rfl, by decide, by decide⟩
theorem o_L_period_34 : InsA md_L_period 34 (.bipush 6) 2 36 := ⟨by decide +kernel, rfl⟩
theorem o_L_period_36 : InsA md_L_period 36 (.ireturn) 1 37 := ⟨by decide +kernel, rfl⟩
theorem o_L_period_37 : InsA md_L_period 37 (.iload_n 1) 1 38 := ⟨by decide +kernel, rfl⟩
theorem o_L_period_38 : InsA md_L_period 38 (.iconst 4) 1 39 := ⟨by decide +kernel, rfl⟩
theorem o_L_period_39 : InsB md_L_period 39 (.if_icmp .ne 6) 3 42 (6) 45 := ⟨by decide +kernel, rfl, by decide, by decide⟩
theorem o_L_period_42 : InsA md_L_period 42 (.bipush 8) 2 44 := ⟨by decide +kernel, rfl⟩
theorem o_L_period_44 : InsA md_L_period 44 (.ireturn) 1 45 := ⟨by decide +kernel, rfl⟩
theorem o_L_period_45 : InsA md_L_period 45 (.bipush 12) 2 47 := ⟨by decide +kernel, rfl⟩
theorem o_L_period_47 : InsA md_L_period 47 (.ireturn) 1 48 := ⟨by decide +kernel, rfl⟩
abbrev md_L_deadline : MD := (⟨"CyclicExecutiveOwnLaw", "deadline", "(II)I"⟩, method_4_code, 2, some .int, { frames := 0, cells := 0, slots := 0, locals := 0 }, 0)
theorem cv_L_deadline {Z : State} {a0 : Array Value} (H : OK Z a0) : CalS Z a0 md_L_deadline 2 := ⟨pn_CyclicExecutiveOwnLaw, by decide, pd__II_I, H.w 54 rfl, H.w 55 rfl, H.w 48 rfl⟩
theorem o_L_deadline_0 : InsA md_L_deadline 0 (.iload_n 0) 1 1 := ⟨by decide +kernel, rfl⟩
theorem o_L_deadline_1 : InsA md_L_deadline 1 (.iload_n 1) 1 2 := ⟨by decide +kernel, rfl⟩
theorem o_L_deadline_2 : InsA md_L_deadline 2 (.sipush 32767) 3 5 := ⟨by decide +kernel, rfl⟩
theorem o_L_deadline_5 : InsA md_L_deadline 5 (.iand) 1 6 := ⟨by decide +kernel, rfl⟩
theorem o_L_deadline_6 : InsA md_L_deadline 6 (.iload_n 0) 1 7 := ⟨by decide +kernel, rfl⟩
theorem o_L_deadline_7 : InsA md_L_deadline 7 (.iconst 1) 1 8 := ⟨by decide +kernel, rfl⟩
theorem o_L_deadline_8 : InsA md_L_deadline 8 (.iadd) 1 9 := ⟨by decide +kernel, rfl⟩
theorem o_L_deadline_9 : InsA md_L_deadline 9 (.iconst 2) 1 10 := ⟨by decide +kernel, rfl⟩
theorem o_L_deadline_10 : InsA md_L_deadline 10 (.idiv) 1 11 := ⟨by decide +kernel, rfl⟩
theorem o_L_deadline_11 : InsA md_L_deadline 11 (.irem) 1 12 := ⟨by decide +kernel, rfl⟩
theorem o_L_deadline_12 : InsA md_L_deadline 12 (.isub) 1 13 := ⟨by decide +kernel, rfl⟩
theorem o_L_deadline_13 : InsA md_L_deadline 13 (.ireturn) 1 14 := ⟨by decide +kernel, rfl⟩
abbrev md_L_wcet : MD := (⟨"CyclicExecutiveOwnLaw", "wcet", "(III)I"⟩, method_5_code, 4, some .int, { frames := 0, cells := 0, slots := 0, locals := 0 }, 0)
theorem cv_L_wcet {Z : State} {a0 : Array Value} (H : OK Z a0) : CalS Z a0 md_L_wcet 3 := ⟨pn_CyclicExecutiveOwnLaw, by decide, pd__III_I, H.w 57 rfl, H.w 58 rfl, H.w 48 rfl⟩
theorem o_L_wcet_0 : InsA md_L_wcet 0 (.iload_n 0) 1 1 := ⟨by decide +kernel, rfl⟩
theorem o_L_wcet_1 : InsA md_L_wcet 1 (.iload_n 1) 1 2 := ⟨by decide +kernel, rfl⟩
theorem o_L_wcet_2 : InsA md_L_wcet 2 (.idiv) 1 3 := ⟨by decide +kernel, rfl⟩
theorem o_L_wcet_3 : InsA md_L_wcet 3 (.istore_n 3) 1 4 := ⟨by decide +kernel, rfl⟩
theorem o_L_wcet_4 : InsA md_L_wcet 4 (.iload_n 3) 1 5 := ⟨by decide +kernel, rfl⟩
theorem o_L_wcet_5 : InsA md_L_wcet 5 (.iconst 1) 1 6 := ⟨by decide +kernel, rfl⟩
theorem o_L_wcet_6 : InsB md_L_wcet 6 (.if_icmp .ge 5) 3 9 (5) 11 := ⟨by decide +kernel, rfl, by decide, by decide⟩
theorem o_L_wcet_9 : InsA md_L_wcet 9 (.iconst 1) 1 10 := ⟨by decide +kernel, rfl⟩
theorem o_L_wcet_10 : InsA md_L_wcet 10 (.istore_n 3) 1 11 := ⟨by decide +kernel, rfl⟩
theorem o_L_wcet_11 : InsA md_L_wcet 11 (.iconst 1) 1 12 := ⟨by decide +kernel, rfl⟩
theorem o_L_wcet_12 : InsA md_L_wcet 12 (.iload_n 2) 1 13 := ⟨by decide +kernel, rfl⟩
theorem o_L_wcet_13 : InsA md_L_wcet 13 (.sipush 32767) 3 16 := ⟨by decide +kernel, rfl⟩
theorem o_L_wcet_16 : InsA md_L_wcet 16 (.iand) 1 17 := ⟨by decide +kernel, rfl⟩
theorem o_L_wcet_17 : InsA md_L_wcet 17 (.iload_n 3) 1 18 := ⟨by decide +kernel, rfl⟩
theorem o_L_wcet_18 : InsA md_L_wcet 18 (.irem) 1 19 := ⟨by decide +kernel, rfl⟩
theorem o_L_wcet_19 : InsA md_L_wcet 19 (.iadd) 1 20 := ⟨by decide +kernel, rfl⟩
theorem o_L_wcet_20 : InsA md_L_wcet 20 (.ireturn) 1 21 := ⟨by decide +kernel, rfl⟩
abbrev md_addTask : MD := (⟨"CyclicExecutive", "addTask", "(III)I"⟩, prog_1_method_6_code, 7, some .int, { frames := 2, cells := 0, slots := 0, locals := 33 }, 0)
theorem cv_addTask {Z : State} {a0 : Array Value} (H : OK Z a0) : CalV Z a0 md_addTask 3 := ⟨pn_CyclicExecutive, by decide, pd__III_I, H.w 61 rfl, H.w 63 rfl, H.w 2 rfl, Or.inl ⟨H.w 60 rfl, H.w 62 rfl⟩⟩
theorem o_addTask_0 : InsA md_addTask 0 (.iload_n 1) 1 1 := ⟨by decide +kernel, rfl⟩
theorem o_addTask_1 : InsA md_addTask 1 (.iconst 1) 1 2 := ⟨by decide +kernel, rfl⟩
theorem o_addTask_2 : InsB md_addTask 2 (.if_icmp .lt 30) 3 5 (30) 32 := ⟨by decide +kernel, rfl, by decide, by decide⟩
theorem o_addTask_5 : InsA md_addTask 5 (.iload_n 1) 1 6 := ⟨by decide +kernel, rfl⟩
theorem o_addTask_6 : InsA md_addTask 6 (.sipush 128) 3 9 := ⟨by decide +kernel, rfl⟩
theorem o_addTask_9 : InsB md_addTask 9 (.if_icmp .gt 23) 3 12 (23) 32 := ⟨by decide +kernel, rfl, by decide, by decide⟩
theorem o_addTask_12 : InsA md_addTask 12 (.iload_n 3) 1 13 := ⟨by decide +kernel, rfl⟩
theorem o_addTask_13 : InsA md_addTask 13 (.iconst 1) 1 14 := ⟨by decide +kernel, rfl⟩
theorem o_addTask_14 : InsB md_addTask 14 (.if_icmp .lt 18) 3 17 (18) 32 := ⟨by decide +kernel, rfl, by decide, by decide⟩
theorem o_addTask_17 : InsA md_addTask 17 (.iload_n 3) 1 18 := ⟨by decide +kernel, rfl⟩
theorem o_addTask_18 : InsA md_addTask 18 (.iload_n 1) 1 19 := ⟨by decide +kernel, rfl⟩
theorem o_addTask_19 : InsB md_addTask 19 (.if_icmp .gt 13) 3 22 (13) 32 := ⟨by decide +kernel, rfl, by decide, by decide⟩
theorem o_addTask_22 : InsA md_addTask 22 (.iload_n 2) 1 23 := ⟨by decide +kernel, rfl⟩
theorem o_addTask_23 : InsA md_addTask 23 (.iconst 1) 1 24 := ⟨by decide +kernel, rfl⟩
theorem o_addTask_24 : InsB md_addTask 24 (.if_icmp .lt 8) 3 27 (8) 32 := ⟨by decide +kernel, rfl, by decide, by decide⟩
theorem o_addTask_27 : InsA md_addTask 27 (.iload_n 2) 1 28 := ⟨by decide +kernel, rfl⟩
theorem o_addTask_28 : InsA md_addTask 28 (.iload_n 3) 1 29 := ⟨by decide +kernel, rfl⟩
theorem o_addTask_29 : InsB md_addTask 29 (.if_icmp .le 5) 3 32 (5) 34 := ⟨by decide +kernel, rfl, by decide, by decide⟩
theorem o_addTask_32 : InsA md_addTask 32 (.iconst (-1)) 1 33 := ⟨by decide +kernel, rfl⟩
theorem o_addTask_33 : InsA md_addTask 33 (.ireturn) 1 34 := ⟨by decide +kernel, rfl⟩
theorem o_addTask_34 : InsA md_addTask 34 (.aload_n 0) 1 35 := ⟨by decide +kernel, rfl⟩
theorem o_addTask_35 : InsA md_addTask 35 (.getfield 42) 3 38 := ⟨by decide +kernel, rfl⟩
theorem o_addTask_38 : InsA md_addTask 38 (.aload_n 0) 1 39 := ⟨by decide +kernel, rfl⟩
theorem o_addTask_39 : InsA md_addTask 39 (.getfield 35) 3 42 := ⟨by decide +kernel, rfl⟩
theorem o_addTask_42 : InsB md_addTask 42 (.if_icmp .lt 6) 3 45 (6) 48 := ⟨by decide +kernel, rfl, by decide, by decide⟩
theorem o_addTask_45 : InsA md_addTask 45 (.bipush (-2)) 2 47 := ⟨by decide +kernel, rfl⟩
theorem o_addTask_47 : InsA md_addTask 47 (.ireturn) 1 48 := ⟨by decide +kernel, rfl⟩
theorem o_addTask_48 : InsA md_addTask 48 (.aload_n 0) 1 49 := ⟨by decide +kernel, rfl⟩
theorem o_addTask_49 : InsA md_addTask 49 (.getfield 42) 3 52 := ⟨by decide +kernel, rfl⟩
theorem o_addTask_52 : InsB md_addTask 52 (.ifCond .ne 7) 3 55 (7) 59 := ⟨by decide +kernel, rfl, by decide, by decide⟩
theorem o_addTask_55 : InsA md_addTask 55 (.iconst 1) 1 56 := ⟨by decide +kernel, rfl⟩
theorem o_addTask_56 : InsB md_addTask 56 (.goto 7) 3 59 (7) 63 := ⟨by decide +kernel, rfl, by decide, by decide⟩
theorem o_addTask_59 : InsA md_addTask 59 (.aload_n 0) 1 60 := ⟨by decide +kernel, rfl⟩
theorem o_addTask_60 : InsA md_addTask 60 (.getfield 45) 3 63 := ⟨by decide +kernel, rfl⟩
theorem o_addTask_63 : InsA md_addTask 63 (.istore 4) 2 65 := ⟨by decide +kernel, rfl⟩
theorem o_addTask_65 : InsA md_addTask 65 (.aload_n 0) 1 66 := ⟨by decide +kernel, rfl⟩
theorem o_addTask_66 : InsA md_addTask 66 (.iload 4) 2 68 := ⟨by decide +kernel, rfl⟩
theorem o_addTask_68 : InsA md_addTask 68 (.iload_n 1) 1 69 := ⟨by decide +kernel, rfl⟩
theorem o_addTask_69 : InsA md_addTask 69 (.invokevirtual 68) 3 72 := ⟨by decide +kernel, rfl⟩
theorem o_addTask_72 : InsA md_addTask 72 (.istore 5) 2 74 := ⟨by decide +kernel, rfl⟩
theorem o_addTask_74 : InsA md_addTask 74 (.iload 5) 2 76 := ⟨by decide +kernel, rfl⟩
theorem o_addTask_76 : InsA md_addTask 76 (.aload_n 0) 1 77 := ⟨by decide +kernel, rfl⟩
theorem o_addTask_77 : InsA md_addTask 77 (.getfield 39) 3 80 := ⟨by decide +kernel, rfl⟩
theorem o_addTask_80 : InsB md_addTask 80 (.if_icmp .le 6) 3 83 (6) 86 := ⟨by decide +kernel, rfl, by decide, by decide⟩
theorem o_addTask_83 : InsA md_addTask 83 (.bipush (-3)) 2 85 := ⟨by decide +kernel, rfl⟩
theorem o_addTask_85 : InsA md_addTask 85 (.ireturn) 1 86 := ⟨by decide +kernel, rfl⟩
theorem o_addTask_86 : InsA md_addTask 86 (.aload_n 0) 1 87 := ⟨by decide +kernel, rfl⟩
theorem o_addTask_87 : InsA md_addTask 87 (.getfield 42) 3 90 := ⟨by decide +kernel, rfl⟩
theorem o_addTask_90 : InsA md_addTask 90 (.istore 6) 2 92 := ⟨by decide +kernel, rfl⟩
theorem o_addTask_92 : InsA md_addTask 92 (.aload_n 0) 1 93 := ⟨by decide +kernel, rfl⟩
theorem o_addTask_93 : InsA md_addTask 93 (.getfield 7) 3 96 := ⟨by decide +kernel, rfl⟩
theorem o_addTask_96 : InsA md_addTask 96 (.iload 6) 2 98 := ⟨by decide +kernel, rfl⟩
theorem o_addTask_98 : InsA md_addTask 98 (.iload_n 1) 1 99 := ⟨by decide +kernel, rfl⟩
theorem o_addTask_99 : InsA md_addTask 99 (.iastore) 1 100 := ⟨by decide +kernel, rfl⟩
theorem o_addTask_100 : InsA md_addTask 100 (.aload_n 0) 1 101 := ⟨by decide +kernel, rfl⟩
theorem o_addTask_101 : InsA md_addTask 101 (.getfield 13) 3 104 := ⟨by decide +kernel, rfl⟩
theorem o_addTask_104 : InsA md_addTask 104 (.iload 6) 2 106 := ⟨by decide +kernel, rfl⟩
theorem o_addTask_106 : InsA md_addTask 106 (.iload_n 2) 1 107 := ⟨by decide +kernel, rfl⟩
theorem o_addTask_107 : InsA md_addTask 107 (.iastore) 1 108 := ⟨by decide +kernel, rfl⟩
theorem o_addTask_108 : InsA md_addTask 108 (.aload_n 0) 1 109 := ⟨by decide +kernel, rfl⟩
theorem o_addTask_109 : InsA md_addTask 109 (.getfield 16) 3 112 := ⟨by decide +kernel, rfl⟩
theorem o_addTask_112 : InsA md_addTask 112 (.iload 6) 2 114 := ⟨by decide +kernel, rfl⟩
theorem o_addTask_114 : InsA md_addTask 114 (.iload_n 3) 1 115 := ⟨by decide +kernel, rfl⟩
theorem o_addTask_115 : InsA md_addTask 115 (.iastore) 1 116 := ⟨by decide +kernel, rfl⟩
theorem o_addTask_116 : InsA md_addTask 116 (.aload_n 0) 1 117 := ⟨by decide +kernel, rfl⟩
theorem o_addTask_117 : InsA md_addTask 117 (.dup) 1 118 := ⟨by decide +kernel, rfl⟩
theorem o_addTask_118 : InsA md_addTask 118 (.getfield 42) 3 121 := ⟨by decide +kernel, rfl⟩
theorem o_addTask_121 : InsA md_addTask 121 (.iconst 1) 1 122 := ⟨by decide +kernel, rfl⟩
theorem o_addTask_122 : InsA md_addTask 122 (.iadd) 1 123 := ⟨by decide +kernel, rfl⟩
theorem o_addTask_123 : InsA md_addTask 123 (.putfield 42) 3 126 := ⟨by decide +kernel, rfl⟩
theorem o_addTask_126 : InsA md_addTask 126 (.aload_n 0) 1 127 := ⟨by decide +kernel, rfl⟩
theorem o_addTask_127 : InsA md_addTask 127 (.iload 5) 2 129 := ⟨by decide +kernel, rfl⟩
theorem o_addTask_129 : InsA md_addTask 129 (.putfield 45) 3 132 := ⟨by decide +kernel, rfl⟩
theorem o_addTask_132 : InsA md_addTask 132 (.aload_n 0) 1 133 := ⟨by decide +kernel, rfl⟩
theorem o_addTask_133 : InsA md_addTask 133 (.iconst 0) 1 134 := ⟨by decide +kernel, rfl⟩
theorem o_addTask_134 : InsA md_addTask 134 (.putfield 48) 3 137 := ⟨by decide +kernel, rfl⟩
theorem o_addTask_137 : InsA md_addTask 137 (.aload_n 0) 1 138 := ⟨by decide +kernel, rfl⟩
theorem o_addTask_138 : InsA md_addTask 138 (.iconst 0) 1 139 := ⟨by decide +kernel, rfl⟩
theorem o_addTask_139 : InsA md_addTask 139 (.putfield 52) 3 142 := ⟨by decide +kernel, rfl⟩
theorem o_addTask_142 : InsA md_addTask 142 (.aload_n 0) 1 143 := ⟨by decide +kernel, rfl⟩
theorem o_addTask_143 : InsA md_addTask 143 (.iconst (-1)) 1 144 := ⟨by decide +kernel, rfl⟩
theorem o_addTask_144 : InsA md_addTask 144 (.putfield 55) 3 147 := ⟨by decide +kernel, rfl⟩
theorem o_addTask_147 : InsA md_addTask 147 (.aload_n 0) 1 148 := ⟨by decide +kernel, rfl⟩
theorem o_addTask_148 : InsA md_addTask 148 (.invokevirtual 71) 3 151 := ⟨by decide +kernel, rfl⟩
theorem o_addTask_151 : InsA md_addTask 151 (.iload 6) 2 153 := ⟨by decide +kernel, rfl⟩
theorem o_addTask_153 : InsA md_addTask 153 (.ireturn) 1 154 := ⟨by decide +kernel, rfl⟩
abbrev md_lcm : MD := (⟨"CyclicExecutive", "lcm", "(II)I"⟩, prog_1_method_4_code, 4, some .int, { frames := 1, cells := 0, slots := 0, locals := 18 }, 0)
theorem cv_lcm {Z : State} {a0 : Array Value} (H : OK Z a0) : CalV Z a0 md_lcm 2 := ⟨pn_CyclicExecutive, by decide, pd__II_I, H.w 65 rfl, H.w 67 rfl, H.w 2 rfl, Or.inr ⟨H.w 66 rfl, 16, H.w 1 rfl⟩⟩
theorem o_lcm_0 : InsA md_lcm 0 (.aload_n 0) 1 1 := ⟨by decide +kernel, rfl⟩
theorem o_lcm_1 : InsA md_lcm 1 (.iload_n 1) 1 2 := ⟨by decide +kernel, rfl⟩
theorem o_lcm_2 : InsA md_lcm 2 (.iload_n 2) 1 3 := ⟨by decide +kernel, rfl⟩
theorem o_lcm_3 : InsA md_lcm 3 (.invokevirtual 64) 3 6 := ⟨by decide +kernel, rfl⟩
theorem o_lcm_6 : InsA md_lcm 6 (.istore_n 3) 1 7 := ⟨by decide +kernel, rfl⟩
theorem o_lcm_7 : InsA md_lcm 7 (.iload_n 3) 1 8 := ⟨by decide +kernel, rfl⟩
theorem o_lcm_8 : InsB md_lcm 8 (.ifCond .ne 5) 3 11 (5) 13 := ⟨by decide +kernel, rfl, by decide, by decide⟩
theorem o_lcm_11 : InsA md_lcm 11 (.iconst 0) 1 12 := ⟨by decide +kernel, rfl⟩
theorem o_lcm_12 : InsA md_lcm 12 (.ireturn) 1 13 := ⟨by decide +kernel, rfl⟩
theorem o_lcm_13 : InsA md_lcm 13 (.iload_n 1) 1 14 := ⟨by decide +kernel, rfl⟩
theorem o_lcm_14 : InsA md_lcm 14 (.iload_n 3) 1 15 := ⟨by decide +kernel, rfl⟩
theorem o_lcm_15 : InsA md_lcm 15 (.idiv) 1 16 := ⟨by decide +kernel, rfl⟩
theorem o_lcm_16 : InsA md_lcm 16 (.iload_n 2) 1 17 := ⟨by decide +kernel, rfl⟩
theorem o_lcm_17 : InsA md_lcm 17 (.imul) 1 18 := ⟨by decide +kernel, rfl⟩
theorem o_lcm_18 : InsA md_lcm 18 (.ireturn) 1 19 := ⟨by decide +kernel, rfl⟩
abbrev md_gcd : MD := (⟨"CyclicExecutive", "gcd", "(II)I"⟩, prog_1_method_3_code, 7, some .int, { frames := 0, cells := 0, slots := 0, locals := 0 }, 0)
theorem cv_gcd {Z : State} {a0 : Array Value} (H : OK Z a0) : CalV Z a0 md_gcd 2 := ⟨pn_CyclicExecutive, by decide, pd__II_I, H.w 69 rfl, H.w 71 rfl, H.w 2 rfl, Or.inr ⟨H.w 70 rfl, 16, H.w 1 rfl⟩⟩
theorem o_gcd_0 : InsA md_gcd 0 (.iload_n 1) 1 1 := ⟨by decide +kernel, rfl⟩
theorem o_gcd_1 : InsA md_gcd 1 (.istore_n 3) 1 2 := ⟨by decide +kernel, rfl⟩
theorem o_gcd_2 : InsA md_gcd 2 (.iload_n 2) 1 3 := ⟨by decide +kernel, rfl⟩
theorem o_gcd_3 : InsA md_gcd 3 (.istore 4) 2 5 := ⟨by decide +kernel, rfl⟩
theorem o_gcd_5 : InsA md_gcd 5 (.iconst 0) 1 6 := ⟨by decide +kernel, rfl⟩
theorem o_gcd_6 : InsA md_gcd 6 (.istore 5) 2 8 := ⟨by decide +kernel, rfl⟩
theorem o_gcd_8 : InsA md_gcd 8 (.iload 5) 2 10 := ⟨by decide +kernel, rfl⟩
theorem o_gcd_10 : InsA md_gcd 10 (.bipush 64) 2 12 := ⟨by decide +kernel, rfl⟩
theorem o_gcd_12 : InsB md_gcd 12 (.if_icmp .ge 27) 3 15 (27) 39 := ⟨by decide +kernel, rfl, by decide, by decide⟩
theorem o_gcd_15 : InsA md_gcd 15 (.iload 4) 2 17 := ⟨by decide +kernel, rfl⟩
theorem o_gcd_17 : InsB md_gcd 17 (.ifCond .eq 22) 3 20 (22) 39 := ⟨by decide +kernel, rfl, by decide, by decide⟩
theorem o_gcd_20 : InsA md_gcd 20 (.iload_n 3) 1 21 := ⟨by decide +kernel, rfl⟩
theorem o_gcd_21 : InsA md_gcd 21 (.iload 4) 2 23 := ⟨by decide +kernel, rfl⟩
theorem o_gcd_23 : InsA md_gcd 23 (.irem) 1 24 := ⟨by decide +kernel, rfl⟩
theorem o_gcd_24 : InsA md_gcd 24 (.istore 6) 2 26 := ⟨by decide +kernel, rfl⟩
theorem o_gcd_26 : InsA md_gcd 26 (.iload 4) 2 28 := ⟨by decide +kernel, rfl⟩
theorem o_gcd_28 : InsA md_gcd 28 (.istore_n 3) 1 29 := ⟨by decide +kernel, rfl⟩
theorem o_gcd_29 : InsA md_gcd 29 (.iload 6) 2 31 := ⟨by decide +kernel, rfl⟩
theorem o_gcd_31 : InsA md_gcd 31 (.istore 4) 2 33 := ⟨by decide +kernel, rfl⟩
theorem o_gcd_33 : InsA md_gcd 33 (.iinc 5 1) 3 36 := ⟨by decide +kernel, rfl⟩
theorem o_gcd_36 : InsB md_gcd 36 (.goto (-28)) 3 39 (-28) 8 := ⟨by decide +kernel, rfl, by decide, by decide⟩
theorem o_gcd_39 : InsA md_gcd 39 (.iload_n 3) 1 40 := ⟨by decide +kernel, rfl⟩
theorem o_gcd_40 : InsA md_gcd 40 (.ireturn) 1 41 := ⟨by decide +kernel, rfl⟩
abbrev md_resetDispatcher : MD := (⟨"CyclicExecutive", "resetDispatcher", "()V"⟩, prog_1_method_5_code, 2, none, { frames := 0, cells := 0, slots := 0, locals := 0 }, 0)
theorem cv_resetDispatcher {Z : State} {a0 : Array Value} (H : OK Z a0) : CalV Z a0 md_resetDispatcher 0 := ⟨pn_CyclicExecutive, by decide, pd___V, H.w 73 rfl, H.w 75 rfl, H.w 2 rfl, Or.inr ⟨H.w 74 rfl, 16, H.w 1 rfl⟩⟩
theorem o_resetDispatcher_0 : InsA md_resetDispatcher 0 (.aload_n 0) 1 1 := ⟨by decide +kernel, rfl⟩
theorem o_resetDispatcher_1 : InsA md_resetDispatcher 1 (.iconst 0) 1 2 := ⟨by decide +kernel, rfl⟩
theorem o_resetDispatcher_2 : InsA md_resetDispatcher 2 (.putfield 58) 3 5 := ⟨by decide +kernel, rfl⟩
theorem o_resetDispatcher_5 : InsA md_resetDispatcher 5 (.aload_n 0) 1 6 := ⟨by decide +kernel, rfl⟩
theorem o_resetDispatcher_6 : InsA md_resetDispatcher 6 (.iconst 0) 1 7 := ⟨by decide +kernel, rfl⟩
theorem o_resetDispatcher_7 : InsA md_resetDispatcher 7 (.putfield 61) 3 10 := ⟨by decide +kernel, rfl⟩
theorem o_resetDispatcher_10 : InsA md_resetDispatcher 10 (.iconst 0) 1 11 := ⟨by decide +kernel, rfl⟩
theorem o_resetDispatcher_11 : InsA md_resetDispatcher 11 (.istore_n 1) 1 12 := ⟨by decide +kernel, rfl⟩
theorem o_resetDispatcher_12 : InsA md_resetDispatcher 12 (.iload_n 1) 1 13 := ⟨by decide +kernel, rfl⟩
theorem o_resetDispatcher_13 : InsA md_resetDispatcher 13 (.bipush 8) 2 15 := ⟨by decide +kernel, rfl⟩
theorem o_resetDispatcher_15 : InsB md_resetDispatcher 15 (.if_icmp .ge 16) 3 18 (16) 31 := ⟨by decide +kernel, rfl, by decide, by decide⟩
theorem o_resetDispatcher_18 : InsA md_resetDispatcher 18 (.aload_n 0) 1 19 := ⟨by decide +kernel, rfl⟩
theorem o_resetDispatcher_19 : InsA md_resetDispatcher 19 (.getfield 19) 3 22 := ⟨by decide +kernel, rfl⟩
theorem o_resetDispatcher_22 : InsA md_resetDispatcher 22 (.iload_n 1) 1 23 := ⟨by decide +kernel, rfl⟩
theorem o_resetDispatcher_23 : InsA md_resetDispatcher 23 (.iconst 0) 1 24 := ⟨by decide +kernel, rfl⟩
theorem o_resetDispatcher_24 : InsA md_resetDispatcher 24 (.iastore) 1 25 := ⟨by decide +kernel, rfl⟩
theorem o_resetDispatcher_25 : InsA md_resetDispatcher 25 (.iinc 1 1) 3 28 := ⟨by decide +kernel, rfl⟩
theorem o_resetDispatcher_28 : InsB md_resetDispatcher 28 (.goto (-16)) 3 31 (-16) 12 := ⟨by decide +kernel, rfl, by decide, by decide⟩
theorem o_resetDispatcher_31 : InsA md_resetDispatcher 31 (.return_) 1 32 := ⟨by decide +kernel, rfl⟩
abbrev md_L_gcd : MD := (⟨"CyclicExecutiveOwnLaw", "gcd", "(II)I"⟩, method_6_code, 4, some .int, { frames := 0, cells := 0, slots := 0, locals := 0 }, 0)
theorem cv_L_gcd {Z : State} {a0 : Array Value} (H : OK Z a0) : CalS Z a0 md_L_gcd 2 := ⟨pn_CyclicExecutiveOwnLaw, by decide, pd__II_I, H.w 77 rfl, H.w 78 rfl, H.w 48 rfl⟩
theorem o_L_gcd_0 : InsA md_L_gcd 0 (.iconst 0) 1 1 := ⟨by decide +kernel, rfl⟩
theorem o_L_gcd_1 : InsA md_L_gcd 1 (.istore_n 2) 1 2 := ⟨by decide +kernel, rfl⟩
theorem o_L_gcd_2 : InsA md_L_gcd 2 (.iload_n 2) 1 3 := ⟨by decide +kernel, rfl⟩
theorem o_L_gcd_3 : InsA md_L_gcd 3 (.bipush 64) 2 5 := ⟨by decide +kernel, rfl⟩
theorem o_L_gcd_5 : InsB md_L_gcd 5 (.if_icmp .ge 21) 3 8 (21) 26 := ⟨by decide +kernel, rfl, by decide, by decide⟩
theorem o_L_gcd_8 : InsA md_L_gcd 8 (.iload_n 1) 1 9 := ⟨by decide +kernel, rfl⟩
theorem o_L_gcd_9 : InsB md_L_gcd 9 (.ifCond .eq 17) 3 12 (17) 26 := ⟨by decide +kernel, rfl, by decide, by decide⟩
theorem o_L_gcd_12 : InsA md_L_gcd 12 (.iload_n 0) 1 13 := ⟨by decide +kernel, rfl⟩
theorem o_L_gcd_13 : InsA md_L_gcd 13 (.iload_n 1) 1 14 := ⟨by decide +kernel, rfl⟩
theorem o_L_gcd_14 : InsA md_L_gcd 14 (.irem) 1 15 := ⟨by decide +kernel, rfl⟩
theorem o_L_gcd_15 : InsA md_L_gcd 15 (.istore_n 3) 1 16 := ⟨by decide +kernel, rfl⟩
theorem o_L_gcd_16 : InsA md_L_gcd 16 (.iload_n 1) 1 17 := ⟨by decide +kernel, rfl⟩
theorem o_L_gcd_17 : InsA md_L_gcd 17 (.istore_n 0) 1 18 := ⟨by decide +kernel, rfl⟩
theorem o_L_gcd_18 : InsA md_L_gcd 18 (.iload_n 3) 1 19 := ⟨by decide +kernel, rfl⟩
theorem o_L_gcd_19 : InsA md_L_gcd 19 (.istore_n 1) 1 20 := ⟨by decide +kernel, rfl⟩
theorem o_L_gcd_20 : InsA md_L_gcd 20 (.iinc 2 1) 3 23 := ⟨by decide +kernel, rfl⟩
theorem o_L_gcd_23 : InsB md_L_gcd 23 (.goto (-21)) 3 26 (-21) 2 := ⟨by decide +kernel, rfl, by decide, by decide⟩
theorem o_L_gcd_26 : InsA md_L_gcd 26 (.iload_n 0) 1 27 := ⟨by decide +kernel, rfl⟩
theorem o_L_gcd_27 : InsA md_L_gcd 27 (.ireturn) 1 28 := ⟨by decide +kernel, rfl⟩
abbrev md_getHyperperiod : MD := (⟨"CyclicExecutive", "getHyperperiod", "()I"⟩, prog_1_method_8_code, 1, some .int, { frames := 0, cells := 0, slots := 0, locals := 0 }, 0)
theorem cv_getHyperperiod {Z : State} {a0 : Array Value} (H : OK Z a0) : CalV Z a0 md_getHyperperiod 0 := ⟨pn_CyclicExecutive, by decide, pd___I, H.w 81 rfl, H.w 83 rfl, H.w 2 rfl, Or.inl ⟨H.w 80 rfl, H.w 82 rfl⟩⟩
theorem o_getHyperperiod_0 : InsA md_getHyperperiod 0 (.aload_n 0) 1 1 := ⟨by decide +kernel, rfl⟩
theorem o_getHyperperiod_1 : InsA md_getHyperperiod 1 (.getfield 42) 3 4 := ⟨by decide +kernel, rfl⟩
theorem o_getHyperperiod_4 : InsB md_getHyperperiod 4 (.ifCond .ne 7) 3 7 (7) 11 := ⟨by decide +kernel, rfl, by decide, by decide⟩
theorem o_getHyperperiod_7 : InsA md_getHyperperiod 7 (.iconst 0) 1 8 := ⟨by decide +kernel, rfl⟩
theorem o_getHyperperiod_8 : InsB md_getHyperperiod 8 (.goto 7) 3 11 (7) 15 := ⟨by decide +kernel, rfl, by decide, by decide⟩
theorem o_getHyperperiod_11 : InsA md_getHyperperiod 11 (.aload_n 0) 1 12 := ⟨by decide +kernel, rfl⟩
theorem o_getHyperperiod_12 : InsA md_getHyperperiod 12 (.getfield 45) 3 15 := ⟨by decide +kernel, rfl⟩
theorem o_getHyperperiod_15 : InsA md_getHyperperiod 15 (.ireturn) 1 16 := ⟨by decide +kernel, rfl⟩
abbrev md_build : MD := (⟨"CyclicExecutive", "build", "(I)I"⟩, prog_1_method_15_code, 4, some .int, { frames := 2, cells := 0, slots := 0, locals := 42 }, 0)
theorem cv_build {Z : State} {a0 : Array Value} (H : OK Z a0) : CalV Z a0 md_build 1 := ⟨pn_CyclicExecutive, by decide, pd__I_I, H.w 86 rfl, H.w 88 rfl, H.w 2 rfl, Or.inl ⟨H.w 85 rfl, H.w 87 rfl⟩⟩
theorem o_build_0 : InsA md_build 0 (.aload_n 0) 1 1 := ⟨by decide +kernel, rfl⟩
theorem o_build_1 : InsA md_build 1 (.getfield 42) 3 4 := ⟨by decide +kernel, rfl⟩
theorem o_build_4 : InsB md_build 4 (.ifCond .ne 6) 3 7 (6) 10 := ⟨by decide +kernel, rfl, by decide, by decide⟩
theorem o_build_7 : InsA md_build 7 (.bipush (-4)) 2 9 := ⟨by decide +kernel, rfl⟩
theorem o_build_9 : InsA md_build 9 (.ireturn) 1 10 := ⟨by decide +kernel, rfl⟩
theorem o_build_10 : InsA md_build 10 (.aload_n 0) 1 11 := ⟨by decide +kernel, rfl⟩
theorem o_build_11 : InsA md_build 11 (.iload_n 1) 1 12 := ⟨by decide +kernel, rfl⟩
theorem o_build_12 : InsA md_build 12 (.invokevirtual 74) 3 15 := ⟨by decide +kernel, rfl⟩
theorem o_build_15 : InsB md_build 15 (.ifCond .ne 6) 3 18 (6) 21 := ⟨by decide +kernel, rfl, by decide, by decide⟩
theorem o_build_18 : InsA md_build 18 (.bipush (-5)) 2 20 := ⟨by decide +kernel, rfl⟩
theorem o_build_20 : InsA md_build 20 (.ireturn) 1 21 := ⟨by decide +kernel, rfl⟩
theorem o_build_21 : InsA md_build 21 (.aload_n 0) 1 22 := ⟨by decide +kernel, rfl⟩
theorem o_build_22 : InsA md_build 22 (.iload_n 1) 1 23 := ⟨by decide +kernel, rfl⟩
theorem o_build_23 : InsA md_build 23 (.invokevirtual 82) 3 26 := ⟨by decide +kernel, rfl⟩
theorem o_build_26 : InsB md_build 26 (.ifCond .ne 6) 3 29 (6) 32 := ⟨by decide +kernel, rfl, by decide, by decide⟩
theorem o_build_29 : InsA md_build 29 (.bipush (-6)) 2 31 := ⟨by decide +kernel, rfl⟩
theorem o_build_31 : InsA md_build 31 (.ireturn) 1 32 := ⟨by decide +kernel, rfl⟩
theorem o_build_32 : InsA md_build 32 (.aload_n 0) 1 33 := ⟨by decide +kernel, rfl⟩
theorem o_build_33 : InsA md_build 33 (.invokevirtual 88) 3 36 := ⟨by decide +kernel, rfl⟩
theorem o_build_36 : InsA md_build 36 (.iconst 0) 1 37 := ⟨by decide +kernel, rfl⟩
theorem o_build_37 : InsA md_build 37 (.istore_n 2) 1 38 := ⟨by decide +kernel, rfl⟩
theorem o_build_38 : InsA md_build 38 (.iload_n 2) 1 39 := ⟨by decide +kernel, rfl⟩
theorem o_build_39 : InsA md_build 39 (.sipush 128) 3 42 := ⟨by decide +kernel, rfl⟩
theorem o_build_42 : InsB md_build 42 (.if_icmp .ge 23) 3 45 (23) 65 := ⟨by decide +kernel, rfl, by decide, by decide⟩
theorem o_build_45 : InsA md_build 45 (.aload_n 0) 1 46 := ⟨by decide +kernel, rfl⟩
theorem o_build_46 : InsA md_build 46 (.getfield 22) 3 49 := ⟨by decide +kernel, rfl⟩
theorem o_build_49 : InsA md_build 49 (.iload_n 2) 1 50 := ⟨by decide +kernel, rfl⟩
theorem o_build_50 : InsA md_build 50 (.iconst (-1)) 1 51 := ⟨by decide +kernel, rfl⟩
theorem o_build_51 : InsA md_build 51 (.iastore) 1 52 := ⟨by decide +kernel, rfl⟩
theorem o_build_52 : InsA md_build 52 (.aload_n 0) 1 53 := ⟨by decide +kernel, rfl⟩
theorem o_build_53 : InsA md_build 53 (.getfield 25) 3 56 := ⟨by decide +kernel, rfl⟩
theorem o_build_56 : InsA md_build 56 (.iload_n 2) 1 57 := ⟨by decide +kernel, rfl⟩
theorem o_build_57 : InsA md_build 57 (.iconst (-1)) 1 58 := ⟨by decide +kernel, rfl⟩
theorem o_build_58 : InsA md_build 58 (.iastore) 1 59 := ⟨by decide +kernel, rfl⟩
theorem o_build_59 : InsA md_build 59 (.iinc 2 1) 3 62 := ⟨by decide +kernel, rfl⟩
theorem o_build_62 : InsB md_build 62 (.goto (-24)) 3 65 (-24) 38 := ⟨by decide +kernel, rfl, by decide, by decide⟩
theorem o_build_65 : InsA md_build 65 (.aload_n 0) 1 66 := ⟨by decide +kernel, rfl⟩
theorem o_build_66 : InsA md_build 66 (.getfield 45) 3 69 := ⟨by decide +kernel, rfl⟩
theorem o_build_69 : InsA md_build 69 (.iload_n 1) 1 70 := ⟨by decide +kernel, rfl⟩
theorem o_build_70 : InsA md_build 70 (.idiv) 1 71 := ⟨by decide +kernel, rfl⟩
theorem o_build_71 : InsA md_build 71 (.istore_n 2) 1 72 := ⟨by decide +kernel, rfl⟩
theorem o_build_72 : InsA md_build 72 (.iconst 0) 1 73 := ⟨by decide +kernel, rfl⟩
theorem o_build_73 : InsA md_build 73 (.istore_n 3) 1 74 := ⟨by decide +kernel, rfl⟩
theorem o_build_74 : InsA md_build 74 (.iload_n 3) 1 75 := ⟨by decide +kernel, rfl⟩
theorem o_build_75 : InsA md_build 75 (.iload_n 2) 1 76 := ⟨by decide +kernel, rfl⟩
theorem o_build_76 : InsB md_build 76 (.if_icmp .ge 15) 3 79 (15) 91 := ⟨by decide +kernel, rfl, by decide, by decide⟩
theorem o_build_79 : InsA md_build 79 (.aload_n 0) 1 80 := ⟨by decide +kernel, rfl⟩
theorem o_build_80 : InsA md_build 80 (.iload_n 3) 1 81 := ⟨by decide +kernel, rfl⟩
theorem o_build_81 : InsA md_build 81 (.iload_n 1) 1 82 := ⟨by decide +kernel, rfl⟩
theorem o_build_82 : InsA md_build 82 (.invokevirtual 91) 3 85 := ⟨by decide +kernel, rfl⟩
theorem o_build_85 : InsA md_build 85 (.iinc 3 1) 3 88 := ⟨by decide +kernel, rfl⟩
theorem o_build_88 : InsB md_build 88 (.goto (-14)) 3 91 (-14) 74 := ⟨by decide +kernel, rfl, by decide, by decide⟩
theorem o_build_91 : InsA md_build 91 (.aload_n 0) 1 92 := ⟨by decide +kernel, rfl⟩
theorem o_build_92 : InsA md_build 92 (.invokevirtual 95) 3 95 := ⟨by decide +kernel, rfl⟩
theorem o_build_95 : InsA md_build 95 (.istore_n 3) 1 96 := ⟨by decide +kernel, rfl⟩
theorem o_build_96 : InsA md_build 96 (.aload_n 0) 1 97 := ⟨by decide +kernel, rfl⟩
theorem o_build_97 : InsA md_build 97 (.invokevirtual 71) 3 100 := ⟨by decide +kernel, rfl⟩
theorem o_build_100 : InsA md_build 100 (.iload_n 3) 1 101 := ⟨by decide +kernel, rfl⟩
theorem o_build_101 : InsB md_build 101 (.ifCond .lt 21) 3 104 (21) 122 := ⟨by decide +kernel, rfl, by decide, by decide⟩
theorem o_build_104 : InsA md_build 104 (.aload_n 0) 1 105 := ⟨by decide +kernel, rfl⟩
theorem o_build_105 : InsA md_build 105 (.iconst 0) 1 106 := ⟨by decide +kernel, rfl⟩
theorem o_build_106 : InsA md_build 106 (.putfield 48) 3 109 := ⟨by decide +kernel, rfl⟩
theorem o_build_109 : InsA md_build 109 (.aload_n 0) 1 110 := ⟨by decide +kernel, rfl⟩
theorem o_build_110 : InsA md_build 110 (.iconst 0) 1 111 := ⟨by decide +kernel, rfl⟩
theorem o_build_111 : InsA md_build 111 (.putfield 52) 3 114 := ⟨by decide +kernel, rfl⟩
theorem o_build_114 : InsA md_build 114 (.aload_n 0) 1 115 := ⟨by decide +kernel, rfl⟩
theorem o_build_115 : InsA md_build 115 (.iload_n 3) 1 116 := ⟨by decide +kernel, rfl⟩
theorem o_build_116 : InsA md_build 116 (.putfield 55) 3 119 := ⟨by decide +kernel, rfl⟩
theorem o_build_119 : InsA md_build 119 (.bipush (-7)) 2 121 := ⟨by decide +kernel, rfl⟩
theorem o_build_121 : InsA md_build 121 (.ireturn) 1 122 := ⟨by decide +kernel, rfl⟩
theorem o_build_122 : InsA md_build 122 (.aload_n 0) 1 123 := ⟨by decide +kernel, rfl⟩
theorem o_build_123 : InsA md_build 123 (.iconst 1) 1 124 := ⟨by decide +kernel, rfl⟩
theorem o_build_124 : InsA md_build 124 (.putfield 48) 3 127 := ⟨by decide +kernel, rfl⟩
theorem o_build_127 : InsA md_build 127 (.aload_n 0) 1 128 := ⟨by decide +kernel, rfl⟩
theorem o_build_128 : InsA md_build 128 (.iload_n 1) 1 129 := ⟨by decide +kernel, rfl⟩
theorem o_build_129 : InsA md_build 129 (.putfield 52) 3 132 := ⟨by decide +kernel, rfl⟩
theorem o_build_132 : InsA md_build 132 (.aload_n 0) 1 133 := ⟨by decide +kernel, rfl⟩
theorem o_build_133 : InsA md_build 133 (.iconst (-1)) 1 134 := ⟨by decide +kernel, rfl⟩
theorem o_build_134 : InsA md_build 134 (.putfield 55) 3 137 := ⟨by decide +kernel, rfl⟩
theorem o_build_137 : InsA md_build 137 (.iconst 0) 1 138 := ⟨by decide +kernel, rfl⟩
theorem o_build_138 : InsA md_build 138 (.ireturn) 1 139 := ⟨by decide +kernel, rfl⟩
abbrev md_dividesHyper : MD := (⟨"CyclicExecutive", "dividesHyper", "(I)Z"⟩, prog_1_method_9_code, 2, some .boolean, { frames := 0, cells := 0, slots := 0, locals := 0 }, 0)
theorem cv_dividesHyper {Z : State} {a0 : Array Value} (H : OK Z a0) : CalV Z a0 md_dividesHyper 1 := ⟨pn_CyclicExecutive, by decide, pd__I_Z, H.w 90 rfl, H.w 92 rfl, H.w 2 rfl, Or.inr ⟨H.w 91 rfl, 16, H.w 1 rfl⟩⟩
theorem o_dividesHyper_0 : InsA md_dividesHyper 0 (.aload_n 0) 1 1 := ⟨by decide +kernel, rfl⟩
theorem o_dividesHyper_1 : InsA md_dividesHyper 1 (.getfield 42) 3 4 := ⟨by decide +kernel, rfl⟩
theorem o_dividesHyper_4 : InsB md_dividesHyper 4 (.ifCond .le 29) 3 7 (29) 33 := ⟨by decide +kernel, rfl, by decide, by decide⟩
theorem o_dividesHyper_7 : InsA md_dividesHyper 7 (.iload_n 1) 1 8 := ⟨by decide +kernel, rfl⟩
theorem o_dividesHyper_8 : InsA md_dividesHyper 8 (.iconst 1) 1 9 := ⟨by decide +kernel, rfl⟩
theorem o_dividesHyper_9 : InsB md_dividesHyper 9 (.if_icmp .lt 24) 3 12 (24) 33 := ⟨by decide +kernel, rfl, by decide, by decide⟩
theorem o_dividesHyper_12 : InsA md_dividesHyper 12 (.iload_n 1) 1 13 := ⟨by decide +kernel, rfl⟩
theorem o_dividesHyper_13 : InsA md_dividesHyper 13 (.aload_n 0) 1 14 := ⟨by decide +kernel, rfl⟩
theorem o_dividesHyper_14 : InsA md_dividesHyper 14 (.getfield 45) 3 17 := ⟨by decide +kernel, rfl⟩
theorem o_dividesHyper_17 : InsB md_dividesHyper 17 (.if_icmp .gt 16) 3 20 (16) 33 := ⟨by decide +kernel, rfl, by decide, by decide⟩
theorem o_dividesHyper_20 : InsA md_dividesHyper 20 (.aload_n 0) 1 21 := ⟨by decide +kernel, rfl⟩
theorem o_dividesHyper_21 : InsA md_dividesHyper 21 (.getfield 45) 3 24 := ⟨by decide +kernel, rfl⟩
theorem o_dividesHyper_24 : InsA md_dividesHyper 24 (.iload_n 1) 1 25 := ⟨by decide +kernel, rfl⟩
theorem o_dividesHyper_25 : InsA md_dividesHyper 25 (.irem) 1 26 := ⟨by decide +kernel, rfl⟩
theorem o_dividesHyper_26 : InsB md_dividesHyper 26 (.ifCond .ne 7) 3 29 (7) 33 := ⟨by decide +kernel, rfl, by decide, by decide⟩
theorem o_dividesHyper_29 : InsA md_dividesHyper 29 (.iconst 1) 1 30 := ⟨by decide +kernel, rfl⟩
theorem o_dividesHyper_30 : InsB md_dividesHyper 30 (.goto 4) 3 33 (4) 34 := ⟨by decide +kernel, rfl, by decide, by decide⟩
theorem o_dividesHyper_33 : InsA md_dividesHyper 33 (.iconst 0) 1 34 := ⟨by decide +kernel, rfl⟩
theorem o_dividesHyper_34 : InsA md_dividesHyper 34 (.ireturn) 1 35 := ⟨by decide +kernel, rfl⟩
abbrev md_deadlinesOk : MD := (⟨"CyclicExecutive", "deadlinesOk", "(I)Z"⟩, prog_1_method_11_code, 4, some .boolean, { frames := 1, cells := 0, slots := 0, locals := 18 }, 0)
theorem cv_deadlinesOk {Z : State} {a0 : Array Value} (H : OK Z a0) : CalV Z a0 md_deadlinesOk 1 := ⟨pn_CyclicExecutive, by decide, pd__I_Z, H.w 94 rfl, H.w 96 rfl, H.w 2 rfl, Or.inr ⟨H.w 95 rfl, 16, H.w 1 rfl⟩⟩
theorem o_deadlinesOk_0 : InsA md_deadlinesOk 0 (.iconst 0) 1 1 := ⟨by decide +kernel, rfl⟩
theorem o_deadlinesOk_1 : InsA md_deadlinesOk 1 (.istore_n 2) 1 2 := ⟨by decide +kernel, rfl⟩
theorem o_deadlinesOk_2 : InsA md_deadlinesOk 2 (.iload_n 2) 1 3 := ⟨by decide +kernel, rfl⟩
theorem o_deadlinesOk_3 : InsA md_deadlinesOk 3 (.aload_n 0) 1 4 := ⟨by decide +kernel, rfl⟩
theorem o_deadlinesOk_4 : InsA md_deadlinesOk 4 (.getfield 42) 3 7 := ⟨by decide +kernel, rfl⟩
theorem o_deadlinesOk_7 : InsB md_deadlinesOk 7 (.if_icmp .ge 37) 3 10 (37) 44 := ⟨by decide +kernel, rfl, by decide, by decide⟩
theorem o_deadlinesOk_10 : InsA md_deadlinesOk 10 (.aload_n 0) 1 11 := ⟨by decide +kernel, rfl⟩
theorem o_deadlinesOk_11 : InsA md_deadlinesOk 11 (.iload_n 1) 1 12 := ⟨by decide +kernel, rfl⟩
theorem o_deadlinesOk_12 : InsA md_deadlinesOk 12 (.aload_n 0) 1 13 := ⟨by decide +kernel, rfl⟩
theorem o_deadlinesOk_13 : InsA md_deadlinesOk 13 (.getfield 7) 3 16 := ⟨by decide +kernel, rfl⟩
theorem o_deadlinesOk_16 : InsA md_deadlinesOk 16 (.iload_n 2) 1 17 := ⟨by decide +kernel, rfl⟩
theorem o_deadlinesOk_17 : InsA md_deadlinesOk 17 (.iaload) 1 18 := ⟨by decide +kernel, rfl⟩
theorem o_deadlinesOk_18 : InsA md_deadlinesOk 18 (.invokevirtual 64) 3 21 := ⟨by decide +kernel, rfl⟩
theorem o_deadlinesOk_21 : InsA md_deadlinesOk 21 (.istore_n 3) 1 22 := ⟨by decide +kernel, rfl⟩
theorem o_deadlinesOk_22 : InsA md_deadlinesOk 22 (.iconst 2) 1 23 := ⟨by decide +kernel, rfl⟩
theorem o_deadlinesOk_23 : InsA md_deadlinesOk 23 (.iload_n 1) 1 24 := ⟨by decide +kernel, rfl⟩
theorem o_deadlinesOk_24 : InsA md_deadlinesOk 24 (.imul) 1 25 := ⟨by decide +kernel, rfl⟩
theorem o_deadlinesOk_25 : InsA md_deadlinesOk 25 (.iload_n 3) 1 26 := ⟨by decide +kernel, rfl⟩
theorem o_deadlinesOk_26 : InsA md_deadlinesOk 26 (.isub) 1 27 := ⟨by decide +kernel, rfl⟩
theorem o_deadlinesOk_27 : InsA md_deadlinesOk 27 (.aload_n 0) 1 28 := ⟨by decide +kernel, rfl⟩
theorem o_deadlinesOk_28 : InsA md_deadlinesOk 28 (.getfield 16) 3 31 := ⟨by decide +kernel, rfl⟩
theorem o_deadlinesOk_31 : InsA md_deadlinesOk 31 (.iload_n 2) 1 32 := ⟨by decide +kernel, rfl⟩
theorem o_deadlinesOk_32 : InsA md_deadlinesOk 32 (.iaload) 1 33 := ⟨by decide +kernel, rfl⟩
theorem o_deadlinesOk_33 : InsB md_deadlinesOk 33 (.if_icmp .le 5) 3 36 (5) 38 := ⟨by decide +kernel, rfl, by decide, by decide⟩
theorem o_deadlinesOk_36 : InsA md_deadlinesOk 36 (.iconst 0) 1 37 := ⟨by decide +kernel, rfl⟩
theorem o_deadlinesOk_37 : InsA md_deadlinesOk 37 (.ireturn) 1 38 := ⟨by decide +kernel, rfl⟩
theorem o_deadlinesOk_38 : InsA md_deadlinesOk 38 (.iinc 2 1) 3 41 := ⟨by decide +kernel, rfl⟩
theorem o_deadlinesOk_41 : InsB md_deadlinesOk 41 (.goto (-39)) 3 44 (-39) 2 := ⟨by decide +kernel, rfl, by decide, by decide⟩
theorem o_deadlinesOk_44 : InsA md_deadlinesOk 44 (.iconst 1) 1 45 := ⟨by decide +kernel, rfl⟩
theorem o_deadlinesOk_45 : InsA md_deadlinesOk 45 (.ireturn) 1 46 := ⟨by decide +kernel, rfl⟩
abbrev md_initJobs : MD := (⟨"CyclicExecutive", "initJobs", "()V"⟩, prog_1_method_16_code, 4, none, { frames := 0, cells := 0, slots := 0, locals := 0 }, 0)
theorem cv_initJobs {Z : State} {a0 : Array Value} (H : OK Z a0) : CalV Z a0 md_initJobs 0 := ⟨pn_CyclicExecutive, by decide, pd___V, H.w 98 rfl, H.w 100 rfl, H.w 2 rfl, Or.inr ⟨H.w 99 rfl, 16, H.w 1 rfl⟩⟩
theorem o_initJobs_0 : InsA md_initJobs 0 (.iconst 0) 1 1 := ⟨by decide +kernel, rfl⟩
theorem o_initJobs_1 : InsA md_initJobs 1 (.istore_n 1) 1 2 := ⟨by decide +kernel, rfl⟩
theorem o_initJobs_2 : InsA md_initJobs 2 (.iload_n 1) 1 3 := ⟨by decide +kernel, rfl⟩
theorem o_initJobs_3 : InsA md_initJobs 3 (.aload_n 0) 1 4 := ⟨by decide +kernel, rfl⟩
theorem o_initJobs_4 : InsA md_initJobs 4 (.getfield 42) 3 7 := ⟨by decide +kernel, rfl⟩
theorem o_initJobs_7 : InsB md_initJobs 7 (.if_icmp .ge 59) 3 10 (59) 66 := ⟨by decide +kernel, rfl, by decide, by decide⟩
theorem o_initJobs_10 : InsA md_initJobs 10 (.aload_n 0) 1 11 := ⟨by decide +kernel, rfl⟩
theorem o_initJobs_11 : InsA md_initJobs 11 (.getfield 45) 3 14 := ⟨by decide +kernel, rfl⟩
theorem o_initJobs_14 : InsA md_initJobs 14 (.aload_n 0) 1 15 := ⟨by decide +kernel, rfl⟩
theorem o_initJobs_15 : InsA md_initJobs 15 (.getfield 7) 3 18 := ⟨by decide +kernel, rfl⟩
theorem o_initJobs_18 : InsA md_initJobs 18 (.iload_n 1) 1 19 := ⟨by decide +kernel, rfl⟩
theorem o_initJobs_19 : InsA md_initJobs 19 (.iaload) 1 20 := ⟨by decide +kernel, rfl⟩
theorem o_initJobs_20 : InsA md_initJobs 20 (.idiv) 1 21 := ⟨by decide +kernel, rfl⟩
theorem o_initJobs_21 : InsA md_initJobs 21 (.istore_n 2) 1 22 := ⟨by decide +kernel, rfl⟩
theorem o_initJobs_22 : InsA md_initJobs 22 (.iconst 0) 1 23 := ⟨by decide +kernel, rfl⟩
theorem o_initJobs_23 : InsA md_initJobs 23 (.istore_n 3) 1 24 := ⟨by decide +kernel, rfl⟩
theorem o_initJobs_24 : InsA md_initJobs 24 (.iload_n 3) 1 25 := ⟨by decide +kernel, rfl⟩
theorem o_initJobs_25 : InsA md_initJobs 25 (.iload_n 2) 1 26 := ⟨by decide +kernel, rfl⟩
theorem o_initJobs_26 : InsB md_initJobs 26 (.if_icmp .ge 34) 3 29 (34) 60 := ⟨by decide +kernel, rfl, by decide, by decide⟩
theorem o_initJobs_29 : InsA md_initJobs 29 (.iload_n 3) 1 30 := ⟨by decide +kernel, rfl⟩
theorem o_initJobs_30 : InsA md_initJobs 30 (.sipush 128) 3 33 := ⟨by decide +kernel, rfl⟩
theorem o_initJobs_33 : InsB md_initJobs 33 (.if_icmp .ge 27) 3 36 (27) 60 := ⟨by decide +kernel, rfl, by decide, by decide⟩
theorem o_initJobs_36 : InsA md_initJobs 36 (.aload_n 0) 1 37 := ⟨by decide +kernel, rfl⟩
theorem o_initJobs_37 : InsA md_initJobs 37 (.getfield 28) 3 40 := ⟨by decide +kernel, rfl⟩
theorem o_initJobs_40 : InsA md_initJobs 40 (.iload_n 1) 1 41 := ⟨by decide +kernel, rfl⟩
theorem o_initJobs_41 : InsA md_initJobs 41 (.sipush 128) 3 44 := ⟨by decide +kernel, rfl⟩
theorem o_initJobs_44 : InsA md_initJobs 44 (.imul) 1 45 := ⟨by decide +kernel, rfl⟩
theorem o_initJobs_45 : InsA md_initJobs 45 (.iload_n 3) 1 46 := ⟨by decide +kernel, rfl⟩
theorem o_initJobs_46 : InsA md_initJobs 46 (.iadd) 1 47 := ⟨by decide +kernel, rfl⟩
theorem o_initJobs_47 : InsA md_initJobs 47 (.aload_n 0) 1 48 := ⟨by decide +kernel, rfl⟩
theorem o_initJobs_48 : InsA md_initJobs 48 (.getfield 13) 3 51 := ⟨by decide +kernel, rfl⟩
theorem o_initJobs_51 : InsA md_initJobs 51 (.iload_n 1) 1 52 := ⟨by decide +kernel, rfl⟩
theorem o_initJobs_52 : InsA md_initJobs 52 (.iaload) 1 53 := ⟨by decide +kernel, rfl⟩
theorem o_initJobs_53 : InsA md_initJobs 53 (.iastore) 1 54 := ⟨by decide +kernel, rfl⟩
theorem o_initJobs_54 : InsA md_initJobs 54 (.iinc 3 1) 3 57 := ⟨by decide +kernel, rfl⟩
theorem o_initJobs_57 : InsB md_initJobs 57 (.goto (-33)) 3 60 (-33) 24 := ⟨by decide +kernel, rfl, by decide, by decide⟩
theorem o_initJobs_60 : InsA md_initJobs 60 (.iinc 1 1) 3 63 := ⟨by decide +kernel, rfl⟩
theorem o_initJobs_63 : InsB md_initJobs 63 (.goto (-61)) 3 66 (-61) 2 := ⟨by decide +kernel, rfl, by decide, by decide⟩
theorem o_initJobs_66 : InsA md_initJobs 66 (.return_) 1 67 := ⟨by decide +kernel, rfl⟩
abbrev md_fillFrame : MD := (⟨"CyclicExecutive", "fillFrame", "(II)V"⟩, prog_1_method_17_code, 11, none, { frames := 1, cells := 0, slots := 0, locals := 20 }, 0)
theorem cv_fillFrame {Z : State} {a0 : Array Value} (H : OK Z a0) : CalV Z a0 md_fillFrame 2 := ⟨pn_CyclicExecutive, by decide, pd__II_V, H.w 102 rfl, H.w 104 rfl, H.w 2 rfl, Or.inr ⟨H.w 103 rfl, 16, H.w 1 rfl⟩⟩
theorem o_fillFrame_0 : InsA md_fillFrame 0 (.iload_n 1) 1 1 := ⟨by decide +kernel, rfl⟩
theorem o_fillFrame_1 : InsA md_fillFrame 1 (.iconst 1) 1 2 := ⟨by decide +kernel, rfl⟩
theorem o_fillFrame_2 : InsA md_fillFrame 2 (.iadd) 1 3 := ⟨by decide +kernel, rfl⟩
theorem o_fillFrame_3 : InsA md_fillFrame 3 (.iload_n 2) 1 4 := ⟨by decide +kernel, rfl⟩
theorem o_fillFrame_4 : InsA md_fillFrame 4 (.imul) 1 5 := ⟨by decide +kernel, rfl⟩
theorem o_fillFrame_5 : InsA md_fillFrame 5 (.istore_n 3) 1 6 := ⟨by decide +kernel, rfl⟩
theorem o_fillFrame_6 : InsA md_fillFrame 6 (.iload_n 1) 1 7 := ⟨by decide +kernel, rfl⟩
theorem o_fillFrame_7 : InsA md_fillFrame 7 (.iload_n 2) 1 8 := ⟨by decide +kernel, rfl⟩
theorem o_fillFrame_8 : InsA md_fillFrame 8 (.imul) 1 9 := ⟨by decide +kernel, rfl⟩
theorem o_fillFrame_9 : InsA md_fillFrame 9 (.istore 4) 2 11 := ⟨by decide +kernel, rfl⟩
theorem o_fillFrame_11 : InsA md_fillFrame 11 (.iconst 0) 1 12 := ⟨by decide +kernel, rfl⟩
theorem o_fillFrame_12 : InsA md_fillFrame 12 (.istore 5) 2 14 := ⟨by decide +kernel, rfl⟩
theorem o_fillFrame_14 : InsA md_fillFrame 14 (.iload 5) 2 16 := ⟨by decide +kernel, rfl⟩
theorem o_fillFrame_16 : InsA md_fillFrame 16 (.iload_n 2) 1 17 := ⟨by decide +kernel, rfl⟩
theorem o_fillFrame_17 : InsB md_fillFrame 17 (.if_icmp .ge 136) 3 20 (136) 153 := ⟨by decide +kernel, rfl, by decide, by decide⟩
theorem o_fillFrame_20 : InsA md_fillFrame 20 (.iload 4) 2 22 := ⟨by decide +kernel, rfl⟩
theorem o_fillFrame_22 : InsA md_fillFrame 22 (.iload_n 3) 1 23 := ⟨by decide +kernel, rfl⟩
theorem o_fillFrame_23 : InsB md_fillFrame 23 (.if_icmp .ge 130) 3 26 (130) 153 := ⟨by decide +kernel, rfl, by decide, by decide⟩
theorem o_fillFrame_26 : InsA md_fillFrame 26 (.aload_n 0) 1 27 := ⟨by decide +kernel, rfl⟩
theorem o_fillFrame_27 : InsA md_fillFrame 27 (.iload_n 1) 1 28 := ⟨by decide +kernel, rfl⟩
theorem o_fillFrame_28 : InsA md_fillFrame 28 (.iload_n 2) 1 29 := ⟨by decide +kernel, rfl⟩
theorem o_fillFrame_29 : InsA md_fillFrame 29 (.invokevirtual 98) 3 32 := ⟨by decide +kernel, rfl⟩
theorem o_fillFrame_32 : InsA md_fillFrame 32 (.istore 6) 2 34 := ⟨by decide +kernel, rfl⟩
theorem o_fillFrame_34 : InsA md_fillFrame 34 (.iload 6) 2 36 := ⟨by decide +kernel, rfl⟩
theorem o_fillFrame_36 : InsB md_fillFrame 36 (.ifCond .ge 6) 3 39 (6) 42 := ⟨by decide +kernel, rfl, by decide, by decide⟩
theorem o_fillFrame_39 : InsB md_fillFrame 39 (.goto 114) 3 42 (114) 153 := ⟨by decide +kernel, rfl, by decide, by decide⟩
theorem o_fillFrame_42 : InsA md_fillFrame 42 (.aload_n 0) 1 43 := ⟨by decide +kernel, rfl⟩
theorem o_fillFrame_43 : InsA md_fillFrame 43 (.getfield 28) 3 46 := ⟨by decide +kernel, rfl⟩
theorem o_fillFrame_46 : InsA md_fillFrame 46 (.iload 6) 2 48 := ⟨by decide +kernel, rfl⟩
theorem o_fillFrame_48 : InsA md_fillFrame 48 (.iaload) 1 49 := ⟨by decide +kernel, rfl⟩
theorem o_fillFrame_49 : InsA md_fillFrame 49 (.istore 7) 2 51 := ⟨by decide +kernel, rfl⟩
theorem o_fillFrame_51 : InsA md_fillFrame 51 (.iload_n 3) 1 52 := ⟨by decide +kernel, rfl⟩
theorem o_fillFrame_52 : InsA md_fillFrame 52 (.iload 4) 2 54 := ⟨by decide +kernel, rfl⟩
theorem o_fillFrame_54 : InsA md_fillFrame 54 (.isub) 1 55 := ⟨by decide +kernel, rfl⟩
theorem o_fillFrame_55 : InsA md_fillFrame 55 (.iload 7) 2 57 := ⟨by decide +kernel, rfl⟩
theorem o_fillFrame_57 : InsB md_fillFrame 57 (.if_icmp .ge 9) 3 60 (9) 66 := ⟨by decide +kernel, rfl, by decide, by decide⟩
theorem o_fillFrame_60 : InsA md_fillFrame 60 (.iload_n 3) 1 61 := ⟨by decide +kernel, rfl⟩
theorem o_fillFrame_61 : InsA md_fillFrame 61 (.iload 4) 2 63 := ⟨by decide +kernel, rfl⟩
theorem o_fillFrame_63 : InsA md_fillFrame 63 (.isub) 1 64 := ⟨by decide +kernel, rfl⟩
theorem o_fillFrame_64 : InsA md_fillFrame 64 (.istore 7) 2 66 := ⟨by decide +kernel, rfl⟩
theorem o_fillFrame_66 : InsA md_fillFrame 66 (.iload 6) 2 68 := ⟨by decide +kernel, rfl⟩
theorem o_fillFrame_68 : InsA md_fillFrame 68 (.sipush 128) 3 71 := ⟨by decide +kernel, rfl⟩
theorem o_fillFrame_71 : InsA md_fillFrame 71 (.idiv) 1 72 := ⟨by decide +kernel, rfl⟩
theorem o_fillFrame_72 : InsA md_fillFrame 72 (.istore 8) 2 74 := ⟨by decide +kernel, rfl⟩
theorem o_fillFrame_74 : InsA md_fillFrame 74 (.iload 6) 2 76 := ⟨by decide +kernel, rfl⟩
theorem o_fillFrame_76 : InsA md_fillFrame 76 (.sipush 128) 3 79 := ⟨by decide +kernel, rfl⟩
theorem o_fillFrame_79 : InsA md_fillFrame 79 (.irem) 1 80 := ⟨by decide +kernel, rfl⟩
theorem o_fillFrame_80 : InsA md_fillFrame 80 (.istore 9) 2 82 := ⟨by decide +kernel, rfl⟩
theorem o_fillFrame_82 : InsA md_fillFrame 82 (.iload 4) 2 84 := ⟨by decide +kernel, rfl⟩
theorem o_fillFrame_84 : InsA md_fillFrame 84 (.istore 10) 2 86 := ⟨by decide +kernel, rfl⟩
theorem o_fillFrame_86 : InsA md_fillFrame 86 (.iload 10) 2 88 := ⟨by decide +kernel, rfl⟩
theorem o_fillFrame_88 : InsA md_fillFrame 88 (.iload 4) 2 90 := ⟨by decide +kernel, rfl⟩
theorem o_fillFrame_90 : InsA md_fillFrame 90 (.iload 7) 2 92 := ⟨by decide +kernel, rfl⟩
theorem o_fillFrame_92 : InsA md_fillFrame 92 (.iadd) 1 93 := ⟨by decide +kernel, rfl⟩
theorem o_fillFrame_93 : InsB md_fillFrame 93 (.if_icmp .ge 35) 3 96 (35) 128 := ⟨by decide +kernel, rfl, by decide, by decide⟩
theorem o_fillFrame_96 : InsA md_fillFrame 96 (.iload 10) 2 98 := ⟨by decide +kernel, rfl⟩
theorem o_fillFrame_98 : InsA md_fillFrame 98 (.sipush 128) 3 101 := ⟨by decide +kernel, rfl⟩
theorem o_fillFrame_101 : InsB md_fillFrame 101 (.if_icmp .ge 27) 3 104 (27) 128 := ⟨by decide +kernel, rfl, by decide, by decide⟩
theorem o_fillFrame_104 : InsA md_fillFrame 104 (.aload_n 0) 1 105 := ⟨by decide +kernel, rfl⟩
theorem o_fillFrame_105 : InsA md_fillFrame 105 (.getfield 22) 3 108 := ⟨by decide +kernel, rfl⟩
theorem o_fillFrame_108 : InsA md_fillFrame 108 (.iload 10) 2 110 := ⟨by decide +kernel, rfl⟩
theorem o_fillFrame_110 : InsA md_fillFrame 110 (.iload 8) 2 112 := ⟨by decide +kernel, rfl⟩
theorem o_fillFrame_112 : InsA md_fillFrame 112 (.iastore) 1 113 := ⟨by decide +kernel, rfl⟩
theorem o_fillFrame_113 : InsA md_fillFrame 113 (.aload_n 0) 1 114 := ⟨by decide +kernel, rfl⟩
theorem o_fillFrame_114 : InsA md_fillFrame 114 (.getfield 25) 3 117 := ⟨by decide +kernel, rfl⟩
theorem o_fillFrame_117 : InsA md_fillFrame 117 (.iload 10) 2 119 := ⟨by decide +kernel, rfl⟩
theorem o_fillFrame_119 : InsA md_fillFrame 119 (.iload 9) 2 121 := ⟨by decide +kernel, rfl⟩
theorem o_fillFrame_121 : InsA md_fillFrame 121 (.iastore) 1 122 := ⟨by decide +kernel, rfl⟩
theorem o_fillFrame_122 : InsA md_fillFrame 122 (.iinc 10 1) 3 125 := ⟨by decide +kernel, rfl⟩
theorem o_fillFrame_125 : InsB md_fillFrame 125 (.goto (-39)) 3 128 (-39) 86 := ⟨by decide +kernel, rfl, by decide, by decide⟩
theorem o_fillFrame_128 : InsA md_fillFrame 128 (.aload_n 0) 1 129 := ⟨by decide +kernel, rfl⟩
theorem o_fillFrame_129 : InsA md_fillFrame 129 (.getfield 28) 3 132 := ⟨by decide +kernel, rfl⟩
theorem o_fillFrame_132 : InsA md_fillFrame 132 (.iload 6) 2 134 := ⟨by decide +kernel, rfl⟩
theorem o_fillFrame_134 : InsA md_fillFrame 134 (.dup2) 1 135 := ⟨by decide +kernel, rfl⟩
theorem o_fillFrame_135 : InsA md_fillFrame 135 (.iaload) 1 136 := ⟨by decide +kernel, rfl⟩
theorem o_fillFrame_136 : InsA md_fillFrame 136 (.iload 7) 2 138 := ⟨by decide +kernel, rfl⟩
theorem o_fillFrame_138 : InsA md_fillFrame 138 (.isub) 1 139 := ⟨by decide +kernel, rfl⟩
theorem o_fillFrame_139 : InsA md_fillFrame 139 (.iastore) 1 140 := ⟨by decide +kernel, rfl⟩
theorem o_fillFrame_140 : InsA md_fillFrame 140 (.iload 4) 2 142 := ⟨by decide +kernel, rfl⟩
theorem o_fillFrame_142 : InsA md_fillFrame 142 (.iload 7) 2 144 := ⟨by decide +kernel, rfl⟩
theorem o_fillFrame_144 : InsA md_fillFrame 144 (.iadd) 1 145 := ⟨by decide +kernel, rfl⟩
theorem o_fillFrame_145 : InsA md_fillFrame 145 (.istore 4) 2 147 := ⟨by decide +kernel, rfl⟩
theorem o_fillFrame_147 : InsA md_fillFrame 147 (.iinc 5 1) 3 150 := ⟨by decide +kernel, rfl⟩
theorem o_fillFrame_150 : InsB md_fillFrame 150 (.goto (-136)) 3 153 (-136) 14 := ⟨by decide +kernel, rfl, by decide, by decide⟩
theorem o_fillFrame_153 : InsA md_fillFrame 153 (.return_) 1 154 := ⟨by decide +kernel, rfl⟩
abbrev md_pickJob : MD := (⟨"CyclicExecutive", "pickJob", "(II)I"⟩, prog_1_method_18_code, 9, some .int, { frames := 0, cells := 0, slots := 0, locals := 0 }, 0)
theorem cv_pickJob {Z : State} {a0 : Array Value} (H : OK Z a0) : CalV Z a0 md_pickJob 2 := ⟨pn_CyclicExecutive, by decide, pd__II_I, H.w 106 rfl, H.w 108 rfl, H.w 2 rfl, Or.inr ⟨H.w 107 rfl, 16, H.w 1 rfl⟩⟩
theorem o_pickJob_0 : InsA md_pickJob 0 (.iconst (-1)) 1 1 := ⟨by decide +kernel, rfl⟩
theorem o_pickJob_1 : InsA md_pickJob 1 (.istore_n 3) 1 2 := ⟨by decide +kernel, rfl⟩
theorem o_pickJob_2 : InsA md_pickJob 2 (.iconst 0) 1 3 := ⟨by decide +kernel, rfl⟩
theorem o_pickJob_3 : InsA md_pickJob 3 (.istore 4) 2 5 := ⟨by decide +kernel, rfl⟩
theorem o_pickJob_5 : InsA md_pickJob 5 (.iconst 0) 1 6 := ⟨by decide +kernel, rfl⟩
theorem o_pickJob_6 : InsA md_pickJob 6 (.istore 5) 2 8 := ⟨by decide +kernel, rfl⟩
theorem o_pickJob_8 : InsA md_pickJob 8 (.iload 5) 2 10 := ⟨by decide +kernel, rfl⟩
theorem o_pickJob_10 : InsA md_pickJob 10 (.aload_n 0) 1 11 := ⟨by decide +kernel, rfl⟩
theorem o_pickJob_11 : InsA md_pickJob 11 (.getfield 42) 3 14 := ⟨by decide +kernel, rfl⟩
theorem o_pickJob_14 : InsB md_pickJob 14 (.if_icmp .ge 113) 3 17 (113) 127 := ⟨by decide +kernel, rfl, by decide, by decide⟩
theorem o_pickJob_17 : InsA md_pickJob 17 (.iload_n 1) 1 18 := ⟨by decide +kernel, rfl⟩
theorem o_pickJob_18 : InsA md_pickJob 18 (.iload_n 2) 1 19 := ⟨by decide +kernel, rfl⟩
theorem o_pickJob_19 : InsA md_pickJob 19 (.imul) 1 20 := ⟨by decide +kernel, rfl⟩
theorem o_pickJob_20 : InsA md_pickJob 20 (.aload_n 0) 1 21 := ⟨by decide +kernel, rfl⟩
theorem o_pickJob_21 : InsA md_pickJob 21 (.getfield 7) 3 24 := ⟨by decide +kernel, rfl⟩
theorem o_pickJob_24 : InsA md_pickJob 24 (.iload 5) 2 26 := ⟨by decide +kernel, rfl⟩
theorem o_pickJob_26 : InsA md_pickJob 26 (.iaload) 1 27 := ⟨by decide +kernel, rfl⟩
theorem o_pickJob_27 : InsA md_pickJob 27 (.idiv) 1 28 := ⟨by decide +kernel, rfl⟩
theorem o_pickJob_28 : InsA md_pickJob 28 (.istore 6) 2 30 := ⟨by decide +kernel, rfl⟩
theorem o_pickJob_30 : InsA md_pickJob 30 (.iload 6) 2 32 := ⟨by decide +kernel, rfl⟩
theorem o_pickJob_32 : InsB md_pickJob 32 (.ifCond .lt 89) 3 35 (89) 121 := ⟨by decide +kernel, rfl, by decide, by decide⟩
theorem o_pickJob_35 : InsA md_pickJob 35 (.iload 6) 2 37 := ⟨by decide +kernel, rfl⟩
theorem o_pickJob_37 : InsA md_pickJob 37 (.sipush 128) 3 40 := ⟨by decide +kernel, rfl⟩
theorem o_pickJob_40 : InsB md_pickJob 40 (.if_icmp .lt 6) 3 43 (6) 46 := ⟨by decide +kernel, rfl, by decide, by decide⟩
theorem o_pickJob_43 : InsB md_pickJob 43 (.goto 78) 3 46 (78) 121 := ⟨by decide +kernel, rfl, by decide, by decide⟩
theorem o_pickJob_46 : InsA md_pickJob 46 (.iload 6) 2 48 := ⟨by decide +kernel, rfl⟩
theorem o_pickJob_48 : InsA md_pickJob 48 (.aload_n 0) 1 49 := ⟨by decide +kernel, rfl⟩
theorem o_pickJob_49 : InsA md_pickJob 49 (.getfield 7) 3 52 := ⟨by decide +kernel, rfl⟩
theorem o_pickJob_52 : InsA md_pickJob 52 (.iload 5) 2 54 := ⟨by decide +kernel, rfl⟩
theorem o_pickJob_54 : InsA md_pickJob 54 (.iaload) 1 55 := ⟨by decide +kernel, rfl⟩
theorem o_pickJob_55 : InsA md_pickJob 55 (.imul) 1 56 := ⟨by decide +kernel, rfl⟩
theorem o_pickJob_56 : InsA md_pickJob 56 (.aload_n 0) 1 57 := ⟨by decide +kernel, rfl⟩
theorem o_pickJob_57 : InsA md_pickJob 57 (.getfield 16) 3 60 := ⟨by decide +kernel, rfl⟩
theorem o_pickJob_60 : InsA md_pickJob 60 (.iload 5) 2 62 := ⟨by decide +kernel, rfl⟩
theorem o_pickJob_62 : InsA md_pickJob 62 (.iaload) 1 63 := ⟨by decide +kernel, rfl⟩
theorem o_pickJob_63 : InsA md_pickJob 63 (.iadd) 1 64 := ⟨by decide +kernel, rfl⟩
theorem o_pickJob_64 : InsA md_pickJob 64 (.istore 7) 2 66 := ⟨by decide +kernel, rfl⟩
theorem o_pickJob_66 : InsA md_pickJob 66 (.iload_n 1) 1 67 := ⟨by decide +kernel, rfl⟩
theorem o_pickJob_67 : InsA md_pickJob 67 (.iconst 1) 1 68 := ⟨by decide +kernel, rfl⟩
theorem o_pickJob_68 : InsA md_pickJob 68 (.iadd) 1 69 := ⟨by decide +kernel, rfl⟩
theorem o_pickJob_69 : InsA md_pickJob 69 (.iload_n 2) 1 70 := ⟨by decide +kernel, rfl⟩
theorem o_pickJob_70 : InsA md_pickJob 70 (.imul) 1 71 := ⟨by decide +kernel, rfl⟩
theorem o_pickJob_71 : InsA md_pickJob 71 (.iload 7) 2 73 := ⟨by decide +kernel, rfl⟩
theorem o_pickJob_73 : InsB md_pickJob 73 (.if_icmp .le 6) 3 76 (6) 79 := ⟨by decide +kernel, rfl, by decide, by decide⟩
theorem o_pickJob_76 : InsB md_pickJob 76 (.goto 45) 3 79 (45) 121 := ⟨by decide +kernel, rfl, by decide, by decide⟩
theorem o_pickJob_79 : InsA md_pickJob 79 (.iload 5) 2 81 := ⟨by decide +kernel, rfl⟩
theorem o_pickJob_81 : InsA md_pickJob 81 (.sipush 128) 3 84 := ⟨by decide +kernel, rfl⟩
theorem o_pickJob_84 : InsA md_pickJob 84 (.imul) 1 85 := ⟨by decide +kernel, rfl⟩
theorem o_pickJob_85 : InsA md_pickJob 85 (.iload 6) 2 87 := ⟨by decide +kernel, rfl⟩
theorem o_pickJob_87 : InsA md_pickJob 87 (.iadd) 1 88 := ⟨by decide +kernel, rfl⟩
theorem o_pickJob_88 : InsA md_pickJob 88 (.istore 8) 2 90 := ⟨by decide +kernel, rfl⟩
theorem o_pickJob_90 : InsA md_pickJob 90 (.aload_n 0) 1 91 := ⟨by decide +kernel, rfl⟩
theorem o_pickJob_91 : InsA md_pickJob 91 (.getfield 28) 3 94 := ⟨by decide +kernel, rfl⟩
theorem o_pickJob_94 : InsA md_pickJob 94 (.iload 8) 2 96 := ⟨by decide +kernel, rfl⟩
theorem o_pickJob_96 : InsA md_pickJob 96 (.iaload) 1 97 := ⟨by decide +kernel, rfl⟩
theorem o_pickJob_97 : InsB md_pickJob 97 (.ifCond .gt 6) 3 100 (6) 103 := ⟨by decide +kernel, rfl, by decide, by decide⟩
theorem o_pickJob_100 : InsB md_pickJob 100 (.goto 21) 3 103 (21) 121 := ⟨by decide +kernel, rfl, by decide, by decide⟩
theorem o_pickJob_103 : InsA md_pickJob 103 (.iload_n 3) 1 104 := ⟨by decide +kernel, rfl⟩
theorem o_pickJob_104 : InsB md_pickJob 104 (.ifCond .lt 10) 3 107 (10) 114 := ⟨by decide +kernel, rfl, by decide, by decide⟩
theorem o_pickJob_107 : InsA md_pickJob 107 (.iload 7) 2 109 := ⟨by decide +kernel, rfl⟩
theorem o_pickJob_109 : InsA md_pickJob 109 (.iload 4) 2 111 := ⟨by decide +kernel, rfl⟩
theorem o_pickJob_111 : InsB md_pickJob 111 (.if_icmp .ge 10) 3 114 (10) 121 := ⟨by decide +kernel, rfl, by decide, by decide⟩
theorem o_pickJob_114 : InsA md_pickJob 114 (.iload 8) 2 116 := ⟨by decide +kernel, rfl⟩
theorem o_pickJob_116 : InsA md_pickJob 116 (.istore_n 3) 1 117 := ⟨by decide +kernel, rfl⟩
theorem o_pickJob_117 : InsA md_pickJob 117 (.iload 7) 2 119 := ⟨by decide +kernel, rfl⟩
theorem o_pickJob_119 : InsA md_pickJob 119 (.istore 4) 2 121 := ⟨by decide +kernel, rfl⟩
theorem o_pickJob_121 : InsA md_pickJob 121 (.iinc 5 1) 3 124 := ⟨by decide +kernel, rfl⟩
theorem o_pickJob_124 : InsB md_pickJob 124 (.goto (-116)) 3 127 (-116) 8 := ⟨by decide +kernel, rfl, by decide, by decide⟩
theorem o_pickJob_127 : InsA md_pickJob 127 (.iload_n 3) 1 128 := ⟨by decide +kernel, rfl⟩
theorem o_pickJob_128 : InsA md_pickJob 128 (.ireturn) 1 129 := ⟨by decide +kernel, rfl⟩
abbrev md_findMiss : MD := (⟨"CyclicExecutive", "findMiss", "()I"⟩, prog_1_method_19_code, 8, some .int, { frames := 0, cells := 0, slots := 0, locals := 0 }, 0)
theorem cv_findMiss {Z : State} {a0 : Array Value} (H : OK Z a0) : CalV Z a0 md_findMiss 0 := ⟨pn_CyclicExecutive, by decide, pd___I, H.w 110 rfl, H.w 112 rfl, H.w 2 rfl, Or.inr ⟨H.w 111 rfl, 16, H.w 1 rfl⟩⟩
theorem o_findMiss_0 : InsA md_findMiss 0 (.iconst (-1)) 1 1 := ⟨by decide +kernel, rfl⟩
theorem o_findMiss_1 : InsA md_findMiss 1 (.istore_n 1) 1 2 := ⟨by decide +kernel, rfl⟩
theorem o_findMiss_2 : InsA md_findMiss 2 (.iconst 0) 1 3 := ⟨by decide +kernel, rfl⟩
theorem o_findMiss_3 : InsA md_findMiss 3 (.istore_n 2) 1 4 := ⟨by decide +kernel, rfl⟩
theorem o_findMiss_4 : InsA md_findMiss 4 (.iconst 0) 1 5 := ⟨by decide +kernel, rfl⟩
theorem o_findMiss_5 : InsA md_findMiss 5 (.istore_n 3) 1 6 := ⟨by decide +kernel, rfl⟩
theorem o_findMiss_6 : InsA md_findMiss 6 (.iload_n 3) 1 7 := ⟨by decide +kernel, rfl⟩
theorem o_findMiss_7 : InsA md_findMiss 7 (.aload_n 0) 1 8 := ⟨by decide +kernel, rfl⟩
theorem o_findMiss_8 : InsA md_findMiss 8 (.getfield 42) 3 11 := ⟨by decide +kernel, rfl⟩
theorem o_findMiss_11 : InsB md_findMiss 11 (.if_icmp .ge 103) 3 14 (103) 114 := ⟨by decide +kernel, rfl, by decide, by decide⟩
theorem o_findMiss_14 : InsA md_findMiss 14 (.aload_n 0) 1 15 := ⟨by decide +kernel, rfl⟩
theorem o_findMiss_15 : InsA md_findMiss 15 (.getfield 45) 3 18 := ⟨by decide +kernel, rfl⟩
theorem o_findMiss_18 : InsA md_findMiss 18 (.aload_n 0) 1 19 := ⟨by decide +kernel, rfl⟩
theorem o_findMiss_19 : InsA md_findMiss 19 (.getfield 7) 3 22 := ⟨by decide +kernel, rfl⟩
theorem o_findMiss_22 : InsA md_findMiss 22 (.iload_n 3) 1 23 := ⟨by decide +kernel, rfl⟩
theorem o_findMiss_23 : InsA md_findMiss 23 (.iaload) 1 24 := ⟨by decide +kernel, rfl⟩
theorem o_findMiss_24 : InsA md_findMiss 24 (.idiv) 1 25 := ⟨by decide +kernel, rfl⟩
theorem o_findMiss_25 : InsA md_findMiss 25 (.istore 4) 2 27 := ⟨by decide +kernel, rfl⟩
theorem o_findMiss_27 : InsA md_findMiss 27 (.iconst 0) 1 28 := ⟨by decide +kernel, rfl⟩
theorem o_findMiss_28 : InsA md_findMiss 28 (.istore 5) 2 30 := ⟨by decide +kernel, rfl⟩
theorem o_findMiss_30 : InsA md_findMiss 30 (.iload 5) 2 32 := ⟨by decide +kernel, rfl⟩
theorem o_findMiss_32 : InsA md_findMiss 32 (.iload 4) 2 34 := ⟨by decide +kernel, rfl⟩
theorem o_findMiss_34 : InsB md_findMiss 34 (.if_icmp .ge 74) 3 37 (74) 108 := ⟨by decide +kernel, rfl, by decide, by decide⟩
theorem o_findMiss_37 : InsA md_findMiss 37 (.iload 5) 2 39 := ⟨by decide +kernel, rfl⟩
theorem o_findMiss_39 : InsA md_findMiss 39 (.sipush 128) 3 42 := ⟨by decide +kernel, rfl⟩
theorem o_findMiss_42 : InsB md_findMiss 42 (.if_icmp .ge 66) 3 45 (66) 108 := ⟨by decide +kernel, rfl, by decide, by decide⟩
theorem o_findMiss_45 : InsA md_findMiss 45 (.iload_n 3) 1 46 := ⟨by decide +kernel, rfl⟩
theorem o_findMiss_46 : InsA md_findMiss 46 (.sipush 128) 3 49 := ⟨by decide +kernel, rfl⟩
theorem o_findMiss_49 : InsA md_findMiss 49 (.imul) 1 50 := ⟨by decide +kernel, rfl⟩
theorem o_findMiss_50 : InsA md_findMiss 50 (.iload 5) 2 52 := ⟨by decide +kernel, rfl⟩
theorem o_findMiss_52 : InsA md_findMiss 52 (.iadd) 1 53 := ⟨by decide +kernel, rfl⟩
theorem o_findMiss_53 : InsA md_findMiss 53 (.istore 6) 2 55 := ⟨by decide +kernel, rfl⟩
theorem o_findMiss_55 : InsA md_findMiss 55 (.aload_n 0) 1 56 := ⟨by decide +kernel, rfl⟩
theorem o_findMiss_56 : InsA md_findMiss 56 (.getfield 28) 3 59 := ⟨by decide +kernel, rfl⟩
theorem o_findMiss_59 : InsA md_findMiss 59 (.iload 6) 2 61 := ⟨by decide +kernel, rfl⟩
theorem o_findMiss_61 : InsA md_findMiss 61 (.iaload) 1 62 := ⟨by decide +kernel, rfl⟩
theorem o_findMiss_62 : InsB md_findMiss 62 (.ifCond .gt 6) 3 65 (6) 68 := ⟨by decide +kernel, rfl, by decide, by decide⟩
theorem o_findMiss_65 : InsB md_findMiss 65 (.goto 37) 3 68 (37) 102 := ⟨by decide +kernel, rfl, by decide, by decide⟩
theorem o_findMiss_68 : InsA md_findMiss 68 (.iload 5) 2 70 := ⟨by decide +kernel, rfl⟩
theorem o_findMiss_70 : InsA md_findMiss 70 (.aload_n 0) 1 71 := ⟨by decide +kernel, rfl⟩
theorem o_findMiss_71 : InsA md_findMiss 71 (.getfield 7) 3 74 := ⟨by decide +kernel, rfl⟩
theorem o_findMiss_74 : InsA md_findMiss 74 (.iload_n 3) 1 75 := ⟨by decide +kernel, rfl⟩
theorem o_findMiss_75 : InsA md_findMiss 75 (.iaload) 1 76 := ⟨by decide +kernel, rfl⟩
theorem o_findMiss_76 : InsA md_findMiss 76 (.imul) 1 77 := ⟨by decide +kernel, rfl⟩
theorem o_findMiss_77 : InsA md_findMiss 77 (.aload_n 0) 1 78 := ⟨by decide +kernel, rfl⟩
theorem o_findMiss_78 : InsA md_findMiss 78 (.getfield 16) 3 81 := ⟨by decide +kernel, rfl⟩
theorem o_findMiss_81 : InsA md_findMiss 81 (.iload_n 3) 1 82 := ⟨by decide +kernel, rfl⟩
theorem o_findMiss_82 : InsA md_findMiss 82 (.iaload) 1 83 := ⟨by decide +kernel, rfl⟩
theorem o_findMiss_83 : InsA md_findMiss 83 (.iadd) 1 84 := ⟨by decide +kernel, rfl⟩
theorem o_findMiss_84 : InsA md_findMiss 84 (.istore 7) 2 86 := ⟨by decide +kernel, rfl⟩
theorem o_findMiss_86 : InsA md_findMiss 86 (.iload_n 1) 1 87 := ⟨by decide +kernel, rfl⟩
theorem o_findMiss_87 : InsB md_findMiss 87 (.ifCond .lt 9) 3 90 (9) 96 := ⟨by decide +kernel, rfl, by decide, by decide⟩
theorem o_findMiss_90 : InsA md_findMiss 90 (.iload 7) 2 92 := ⟨by decide +kernel, rfl⟩
theorem o_findMiss_92 : InsA md_findMiss 92 (.iload_n 2) 1 93 := ⟨by decide +kernel, rfl⟩
theorem o_findMiss_93 : InsB md_findMiss 93 (.if_icmp .ge 9) 3 96 (9) 102 := ⟨by decide +kernel, rfl, by decide, by decide⟩
theorem o_findMiss_96 : InsA md_findMiss 96 (.iload 6) 2 98 := ⟨by decide +kernel, rfl⟩
theorem o_findMiss_98 : InsA md_findMiss 98 (.istore_n 1) 1 99 := ⟨by decide +kernel, rfl⟩
theorem o_findMiss_99 : InsA md_findMiss 99 (.iload 7) 2 101 := ⟨by decide +kernel, rfl⟩
theorem o_findMiss_101 : InsA md_findMiss 101 (.istore_n 2) 1 102 := ⟨by decide +kernel, rfl⟩
theorem o_findMiss_102 : InsA md_findMiss 102 (.iinc 5 1) 3 105 := ⟨by decide +kernel, rfl⟩
theorem o_findMiss_105 : InsB md_findMiss 105 (.goto (-75)) 3 108 (-75) 30 := ⟨by decide +kernel, rfl, by decide, by decide⟩
theorem o_findMiss_108 : InsA md_findMiss 108 (.iinc 3 1) 3 111 := ⟨by decide +kernel, rfl⟩
theorem o_findMiss_111 : InsB md_findMiss 111 (.goto (-105)) 3 114 (-105) 6 := ⟨by decide +kernel, rfl, by decide, by decide⟩
theorem o_findMiss_114 : InsA md_findMiss 114 (.iload_n 1) 1 115 := ⟨by decide +kernel, rfl⟩
theorem o_findMiss_115 : InsA md_findMiss 115 (.ireturn) 1 116 := ⟨by decide +kernel, rfl⟩
abbrev md_getFrame : MD := (⟨"CyclicExecutive", "getFrame", "()I"⟩, prog_1_method_20_code, 1, some .int, { frames := 0, cells := 0, slots := 0, locals := 0 }, 0)
theorem cv_getFrame {Z : State} {a0 : Array Value} (H : OK Z a0) : CalV Z a0 md_getFrame 0 := ⟨pn_CyclicExecutive, by decide, pd___I, H.w 115 rfl, H.w 117 rfl, H.w 2 rfl, Or.inl ⟨H.w 114 rfl, H.w 116 rfl⟩⟩
theorem o_getFrame_0 : InsA md_getFrame 0 (.aload_n 0) 1 1 := ⟨by decide +kernel, rfl⟩
theorem o_getFrame_1 : InsA md_getFrame 1 (.getfield 48) 3 4 := ⟨by decide +kernel, rfl⟩
theorem o_getFrame_4 : InsB md_getFrame 4 (.ifCond .eq 10) 3 7 (10) 14 := ⟨by decide +kernel, rfl, by decide, by decide⟩
theorem o_getFrame_7 : InsA md_getFrame 7 (.aload_n 0) 1 8 := ⟨by decide +kernel, rfl⟩
theorem o_getFrame_8 : InsA md_getFrame 8 (.getfield 52) 3 11 := ⟨by decide +kernel, rfl⟩
theorem o_getFrame_11 : InsB md_getFrame 11 (.goto 4) 3 14 (4) 15 := ⟨by decide +kernel, rfl, by decide, by decide⟩
theorem o_getFrame_14 : InsA md_getFrame 14 (.iconst 0) 1 15 := ⟨by decide +kernel, rfl⟩
theorem o_getFrame_15 : InsA md_getFrame 15 (.ireturn) 1 16 := ⟨by decide +kernel, rfl⟩
abbrev md_run : MD := (⟨"CyclicExecutive", "run", "(I)I"⟩, prog_1_method_26_code, 5, some .int, { frames := 0, cells := 0, slots := 0, locals := 0 }, 0)
theorem cv_run {Z : State} {a0 : Array Value} (H : OK Z a0) : CalV Z a0 md_run 1 := ⟨pn_CyclicExecutive, by decide, pd__I_I, H.w 120 rfl, H.w 122 rfl, H.w 2 rfl, Or.inl ⟨H.w 119 rfl, H.w 121 rfl⟩⟩
theorem o_run_0 : InsA md_run 0 (.aload_n 0) 1 1 := ⟨by decide +kernel, rfl⟩
theorem o_run_1 : InsA md_run 1 (.getfield 48) 3 4 := ⟨by decide +kernel, rfl⟩
theorem o_run_4 : InsB md_run 4 (.ifCond .eq 16) 3 7 (16) 20 := ⟨by decide +kernel, rfl, by decide, by decide⟩
theorem o_run_7 : InsA md_run 7 (.iload_n 1) 1 8 := ⟨by decide +kernel, rfl⟩
theorem o_run_8 : InsA md_run 8 (.iconst 1) 1 9 := ⟨by decide +kernel, rfl⟩
theorem o_run_9 : InsB md_run 9 (.if_icmp .lt 11) 3 12 (11) 20 := ⟨by decide +kernel, rfl, by decide, by decide⟩
theorem o_run_12 : InsA md_run 12 (.aload_n 0) 1 13 := ⟨by decide +kernel, rfl⟩
theorem o_run_13 : InsA md_run 13 (.getfield 45) 3 16 := ⟨by decide +kernel, rfl⟩
theorem o_run_16 : InsA md_run 16 (.iconst 1) 1 17 := ⟨by decide +kernel, rfl⟩
theorem o_run_17 : InsB md_run 17 (.if_icmp .ge 5) 3 20 (5) 22 := ⟨by decide +kernel, rfl, by decide, by decide⟩
theorem o_run_20 : InsA md_run 20 (.iconst 0) 1 21 := ⟨by decide +kernel, rfl⟩
theorem o_run_21 : InsA md_run 21 (.ireturn) 1 22 := ⟨by decide +kernel, rfl⟩
theorem o_run_22 : InsA md_run 22 (.iload_n 1) 1 23 := ⟨by decide +kernel, rfl⟩
theorem o_run_23 : InsA md_run 23 (.sipush 4096) 3 26 := ⟨by decide +kernel, rfl⟩
theorem o_run_26 : InsB md_run 26 (.if_icmp .ge 7) 3 29 (7) 33 := ⟨by decide +kernel, rfl, by decide, by decide⟩
theorem o_run_29 : InsA md_run 29 (.iload_n 1) 1 30 := ⟨by decide +kernel, rfl⟩
theorem o_run_30 : InsB md_run 30 (.goto 6) 3 33 (6) 36 := ⟨by decide +kernel, rfl, by decide, by decide⟩
theorem o_run_33 : InsA md_run 33 (.sipush 4096) 3 36 := ⟨by decide +kernel, rfl⟩
theorem o_run_36 : InsA md_run 36 (.istore_n 2) 1 37 := ⟨by decide +kernel, rfl⟩
theorem o_run_37 : InsA md_run 37 (.iconst 0) 1 38 := ⟨by decide +kernel, rfl⟩
theorem o_run_38 : InsA md_run 38 (.istore_n 3) 1 39 := ⟨by decide +kernel, rfl⟩
theorem o_run_39 : InsA md_run 39 (.iload_n 3) 1 40 := ⟨by decide +kernel, rfl⟩
theorem o_run_40 : InsA md_run 40 (.iload_n 2) 1 41 := ⟨by decide +kernel, rfl⟩
theorem o_run_41 : InsB md_run 41 (.if_icmp .ge 112) 3 44 (112) 153 := ⟨by decide +kernel, rfl, by decide, by decide⟩
theorem o_run_44 : InsA md_run 44 (.aload_n 0) 1 45 := ⟨by decide +kernel, rfl⟩
theorem o_run_45 : InsA md_run 45 (.getfield 61) 3 48 := ⟨by decide +kernel, rfl⟩
theorem o_run_48 : InsB md_run 48 (.ifCond .lt 24) 3 51 (24) 72 := ⟨by decide +kernel, rfl, by decide, by decide⟩
theorem o_run_51 : InsA md_run 51 (.aload_n 0) 1 52 := ⟨by decide +kernel, rfl⟩
theorem o_run_52 : InsA md_run 52 (.getfield 61) 3 55 := ⟨by decide +kernel, rfl⟩
theorem o_run_55 : InsA md_run 55 (.aload_n 0) 1 56 := ⟨by decide +kernel, rfl⟩
theorem o_run_56 : InsA md_run 56 (.getfield 45) 3 59 := ⟨by decide +kernel, rfl⟩
theorem o_run_59 : InsB md_run 59 (.if_icmp .ge 13) 3 62 (13) 72 := ⟨by decide +kernel, rfl, by decide, by decide⟩
theorem o_run_62 : InsA md_run 62 (.aload_n 0) 1 63 := ⟨by decide +kernel, rfl⟩
theorem o_run_63 : InsA md_run 63 (.getfield 61) 3 66 := ⟨by decide +kernel, rfl⟩
theorem o_run_66 : InsA md_run 66 (.sipush 128) 3 69 := ⟨by decide +kernel, rfl⟩
theorem o_run_69 : InsB md_run 69 (.if_icmp .lt 8) 3 72 (8) 77 := ⟨by decide +kernel, rfl, by decide, by decide⟩
theorem o_run_72 : InsA md_run 72 (.aload_n 0) 1 73 := ⟨by decide +kernel, rfl⟩
theorem o_run_73 : InsA md_run 73 (.iconst 0) 1 74 := ⟨by decide +kernel, rfl⟩
theorem o_run_74 : InsA md_run 74 (.putfield 61) 3 77 := ⟨by decide +kernel, rfl⟩
theorem o_run_77 : InsA md_run 77 (.aload_n 0) 1 78 := ⟨by decide +kernel, rfl⟩
theorem o_run_78 : InsA md_run 78 (.getfield 22) 3 81 := ⟨by decide +kernel, rfl⟩
theorem o_run_81 : InsA md_run 81 (.aload_n 0) 1 82 := ⟨by decide +kernel, rfl⟩
theorem o_run_82 : InsA md_run 82 (.getfield 61) 3 85 := ⟨by decide +kernel, rfl⟩
theorem o_run_85 : InsA md_run 85 (.iaload) 1 86 := ⟨by decide +kernel, rfl⟩
theorem o_run_86 : InsA md_run 86 (.istore 4) 2 88 := ⟨by decide +kernel, rfl⟩
theorem o_run_88 : InsA md_run 88 (.iload 4) 2 90 := ⟨by decide +kernel, rfl⟩
theorem o_run_90 : InsB md_run 90 (.ifCond .lt 21) 3 93 (21) 111 := ⟨by decide +kernel, rfl, by decide, by decide⟩
theorem o_run_93 : InsA md_run 93 (.iload 4) 2 95 := ⟨by decide +kernel, rfl⟩
theorem o_run_95 : InsA md_run 95 (.bipush 8) 2 97 := ⟨by decide +kernel, rfl⟩
theorem o_run_97 : InsB md_run 97 (.if_icmp .ge 14) 3 100 (14) 111 := ⟨by decide +kernel, rfl, by decide, by decide⟩
theorem o_run_100 : InsA md_run 100 (.aload_n 0) 1 101 := ⟨by decide +kernel, rfl⟩
theorem o_run_101 : InsA md_run 101 (.getfield 19) 3 104 := ⟨by decide +kernel, rfl⟩
theorem o_run_104 : InsA md_run 104 (.iload 4) 2 106 := ⟨by decide +kernel, rfl⟩
theorem o_run_106 : InsA md_run 106 (.dup2) 1 107 := ⟨by decide +kernel, rfl⟩
theorem o_run_107 : InsA md_run 107 (.iaload) 1 108 := ⟨by decide +kernel, rfl⟩
theorem o_run_108 : InsA md_run 108 (.iconst 1) 1 109 := ⟨by decide +kernel, rfl⟩
theorem o_run_109 : InsA md_run 109 (.iadd) 1 110 := ⟨by decide +kernel, rfl⟩
theorem o_run_110 : InsA md_run 110 (.iastore) 1 111 := ⟨by decide +kernel, rfl⟩
theorem o_run_111 : InsA md_run 111 (.aload_n 0) 1 112 := ⟨by decide +kernel, rfl⟩
theorem o_run_112 : InsA md_run 112 (.dup) 1 113 := ⟨by decide +kernel, rfl⟩
theorem o_run_113 : InsA md_run 113 (.getfield 58) 3 116 := ⟨by decide +kernel, rfl⟩
theorem o_run_116 : InsA md_run 116 (.iconst 1) 1 117 := ⟨by decide +kernel, rfl⟩
theorem o_run_117 : InsA md_run 117 (.iadd) 1 118 := ⟨by decide +kernel, rfl⟩
theorem o_run_118 : InsA md_run 118 (.putfield 58) 3 121 := ⟨by decide +kernel, rfl⟩
theorem o_run_121 : InsA md_run 121 (.aload_n 0) 1 122 := ⟨by decide +kernel, rfl⟩
theorem o_run_122 : InsA md_run 122 (.dup) 1 123 := ⟨by decide +kernel, rfl⟩
theorem o_run_123 : InsA md_run 123 (.getfield 61) 3 126 := ⟨by decide +kernel, rfl⟩
theorem o_run_126 : InsA md_run 126 (.iconst 1) 1 127 := ⟨by decide +kernel, rfl⟩
theorem o_run_127 : InsA md_run 127 (.iadd) 1 128 := ⟨by decide +kernel, rfl⟩
theorem o_run_128 : InsA md_run 128 (.putfield 61) 3 131 := ⟨by decide +kernel, rfl⟩
theorem o_run_131 : InsA md_run 131 (.aload_n 0) 1 132 := ⟨by decide +kernel, rfl⟩
theorem o_run_132 : InsA md_run 132 (.getfield 61) 3 135 := ⟨by decide +kernel, rfl⟩
theorem o_run_135 : InsA md_run 135 (.aload_n 0) 1 136 := ⟨by decide +kernel, rfl⟩
theorem o_run_136 : InsA md_run 136 (.getfield 45) 3 139 := ⟨by decide +kernel, rfl⟩
theorem o_run_139 : InsB md_run 139 (.if_icmp .lt 8) 3 142 (8) 147 := ⟨by decide +kernel, rfl, by decide, by decide⟩
theorem o_run_142 : InsA md_run 142 (.aload_n 0) 1 143 := ⟨by decide +kernel, rfl⟩
theorem o_run_143 : InsA md_run 143 (.iconst 0) 1 144 := ⟨by decide +kernel, rfl⟩
theorem o_run_144 : InsA md_run 144 (.putfield 61) 3 147 := ⟨by decide +kernel, rfl⟩
theorem o_run_147 : InsA md_run 147 (.iinc 3 1) 3 150 := ⟨by decide +kernel, rfl⟩
theorem o_run_150 : InsB md_run 150 (.goto (-111)) 3 153 (-111) 39 := ⟨by decide +kernel, rfl, by decide, by decide⟩
theorem o_run_153 : InsA md_run 153 (.iload_n 2) 1 154 := ⟨by decide +kernel, rfl⟩
theorem o_run_154 : InsA md_run 154 (.ireturn) 1 155 := ⟨by decide +kernel, rfl⟩
abbrev md_getNow : MD := (⟨"CyclicExecutive", "getNow", "()I"⟩, prog_1_method_27_code, 1, some .int, { frames := 0, cells := 0, slots := 0, locals := 0 }, 0)
theorem cv_getNow {Z : State} {a0 : Array Value} (H : OK Z a0) : CalV Z a0 md_getNow 0 := ⟨pn_CyclicExecutive, by decide, pd___I, H.w 125 rfl, H.w 127 rfl, H.w 2 rfl, Or.inl ⟨H.w 124 rfl, H.w 126 rfl⟩⟩
theorem o_getNow_0 : InsA md_getNow 0 (.aload_n 0) 1 1 := ⟨by decide +kernel, rfl⟩
theorem o_getNow_1 : InsA md_getNow 1 (.getfield 58) 3 4 := ⟨by decide +kernel, rfl⟩
theorem o_getNow_4 : InsA md_getNow 4 (.ireturn) 1 5 := ⟨by decide +kernel, rfl⟩
abbrev md_getRunTicks : MD := (⟨"CyclicExecutive", "getRunTicks", "(I)I"⟩, prog_1_method_28_code, 2, some .int, { frames := 0, cells := 0, slots := 0, locals := 0 }, 0)
theorem cv_getRunTicks {Z : State} {a0 : Array Value} (H : OK Z a0) : CalV Z a0 md_getRunTicks 1 := ⟨pn_CyclicExecutive, by decide, pd__I_I, H.w 130 rfl, H.w 132 rfl, H.w 2 rfl, Or.inl ⟨H.w 129 rfl, H.w 131 rfl⟩⟩
theorem o_getRunTicks_0 : InsA md_getRunTicks 0 (.iload_n 1) 1 1 := ⟨by decide +kernel, rfl⟩
theorem o_getRunTicks_1 : InsB md_getRunTicks 1 (.ifCond .lt 11) 3 4 (11) 12 := ⟨by decide +kernel, rfl, by decide, by decide⟩
theorem o_getRunTicks_4 : InsA md_getRunTicks 4 (.iload_n 1) 1 5 := ⟨by decide +kernel, rfl⟩
theorem o_getRunTicks_5 : InsA md_getRunTicks 5 (.aload_n 0) 1 6 := ⟨by decide +kernel, rfl⟩
theorem o_getRunTicks_6 : InsA md_getRunTicks 6 (.getfield 42) 3 9 := ⟨by decide +kernel, rfl⟩
theorem o_getRunTicks_9 : InsB md_getRunTicks 9 (.if_icmp .lt 5) 3 12 (5) 14 := ⟨by decide +kernel, rfl, by decide, by decide⟩
theorem o_getRunTicks_12 : InsA md_getRunTicks 12 (.iconst (-1)) 1 13 := ⟨by decide +kernel, rfl⟩
theorem o_getRunTicks_13 : InsA md_getRunTicks 13 (.ireturn) 1 14 := ⟨by decide +kernel, rfl⟩
theorem o_getRunTicks_14 : InsA md_getRunTicks 14 (.aload_n 0) 1 15 := ⟨by decide +kernel, rfl⟩
theorem o_getRunTicks_15 : InsA md_getRunTicks 15 (.getfield 19) 3 18 := ⟨by decide +kernel, rfl⟩
theorem o_getRunTicks_18 : InsA md_getRunTicks 18 (.iload_n 1) 1 19 := ⟨by decide +kernel, rfl⟩
theorem o_getRunTicks_19 : InsA md_getRunTicks 19 (.iaload) 1 20 := ⟨by decide +kernel, rfl⟩
theorem o_getRunTicks_20 : InsA md_getRunTicks 20 (.ireturn) 1 21 := ⟨by decide +kernel, rfl⟩
abbrev md_getTickTask : MD := (⟨"CyclicExecutive", "getTickTask", "(I)I"⟩, prog_1_method_22_code, 2, some .int, { frames := 1, cells := 0, slots := 0, locals := 13 }, 0)
theorem cv_getTickTask {Z : State} {a0 : Array Value} (H : OK Z a0) : CalV Z a0 md_getTickTask 1 := ⟨pn_CyclicExecutive, by decide, pd__I_I, H.w 135 rfl, H.w 137 rfl, H.w 2 rfl, Or.inl ⟨H.w 134 rfl, H.w 136 rfl⟩⟩
theorem o_getTickTask_0 : InsA md_getTickTask 0 (.aload_n 0) 1 1 := ⟨by decide +kernel, rfl⟩
theorem o_getTickTask_1 : InsA md_getTickTask 1 (.iload_n 1) 1 2 := ⟨by decide +kernel, rfl⟩
theorem o_getTickTask_2 : InsA md_getTickTask 2 (.invokevirtual 101) 3 5 := ⟨by decide +kernel, rfl⟩
theorem o_getTickTask_5 : InsB md_getTickTask 5 (.ifCond .ne 5) 3 8 (5) 10 := ⟨by decide +kernel, rfl, by decide, by decide⟩
theorem o_getTickTask_8 : InsA md_getTickTask 8 (.iconst (-1)) 1 9 := ⟨by decide +kernel, rfl⟩
theorem o_getTickTask_9 : InsA md_getTickTask 9 (.ireturn) 1 10 := ⟨by decide +kernel, rfl⟩
theorem o_getTickTask_10 : InsA md_getTickTask 10 (.aload_n 0) 1 11 := ⟨by decide +kernel, rfl⟩
theorem o_getTickTask_11 : InsA md_getTickTask 11 (.getfield 22) 3 14 := ⟨by decide +kernel, rfl⟩
theorem o_getTickTask_14 : InsA md_getTickTask 14 (.iload_n 1) 1 15 := ⟨by decide +kernel, rfl⟩
theorem o_getTickTask_15 : InsA md_getTickTask 15 (.iaload) 1 16 := ⟨by decide +kernel, rfl⟩
theorem o_getTickTask_16 : InsA md_getTickTask 16 (.ireturn) 1 17 := ⟨by decide +kernel, rfl⟩
abbrev md_validTick : MD := (⟨"CyclicExecutive", "validTick", "(I)Z"⟩, prog_1_method_21_code, 2, some .boolean, { frames := 0, cells := 0, slots := 0, locals := 0 }, 0)
theorem cv_validTick {Z : State} {a0 : Array Value} (H : OK Z a0) : CalV Z a0 md_validTick 1 := ⟨pn_CyclicExecutive, by decide, pd__I_Z, H.w 139 rfl, H.w 141 rfl, H.w 2 rfl, Or.inr ⟨H.w 140 rfl, 16, H.w 1 rfl⟩⟩
theorem o_validTick_0 : InsA md_validTick 0 (.aload_n 0) 1 1 := ⟨by decide +kernel, rfl⟩
theorem o_validTick_1 : InsA md_validTick 1 (.getfield 48) 3 4 := ⟨by decide +kernel, rfl⟩
theorem o_validTick_4 : InsB md_validTick 4 (.ifCond .eq 26) 3 7 (26) 30 := ⟨by decide +kernel, rfl, by decide, by decide⟩
theorem o_validTick_7 : InsA md_validTick 7 (.iload_n 1) 1 8 := ⟨by decide +kernel, rfl⟩
theorem o_validTick_8 : InsB md_validTick 8 (.ifCond .lt 22) 3 11 (22) 30 := ⟨by decide +kernel, rfl, by decide, by decide⟩
theorem o_validTick_11 : InsA md_validTick 11 (.iload_n 1) 1 12 := ⟨by decide +kernel, rfl⟩
theorem o_validTick_12 : InsA md_validTick 12 (.aload_n 0) 1 13 := ⟨by decide +kernel, rfl⟩
theorem o_validTick_13 : InsA md_validTick 13 (.getfield 45) 3 16 := ⟨by decide +kernel, rfl⟩
theorem o_validTick_16 : InsB md_validTick 16 (.if_icmp .ge 14) 3 19 (14) 30 := ⟨by decide +kernel, rfl, by decide, by decide⟩
theorem o_validTick_19 : InsA md_validTick 19 (.iload_n 1) 1 20 := ⟨by decide +kernel, rfl⟩
theorem o_validTick_20 : InsA md_validTick 20 (.sipush 128) 3 23 := ⟨by decide +kernel, rfl⟩
theorem o_validTick_23 : InsB md_validTick 23 (.if_icmp .ge 7) 3 26 (7) 30 := ⟨by decide +kernel, rfl, by decide, by decide⟩
theorem o_validTick_26 : InsA md_validTick 26 (.iconst 1) 1 27 := ⟨by decide +kernel, rfl⟩
theorem o_validTick_27 : InsB md_validTick 27 (.goto 4) 3 30 (4) 31 := ⟨by decide +kernel, rfl, by decide, by decide⟩
theorem o_validTick_30 : InsA md_validTick 30 (.iconst 0) 1 31 := ⟨by decide +kernel, rfl⟩
theorem o_validTick_31 : InsA md_validTick 31 (.ireturn) 1 32 := ⟨by decide +kernel, rfl⟩
abbrev md_getTickJob : MD := (⟨"CyclicExecutive", "getTickJob", "(I)I"⟩, prog_1_method_23_code, 2, some .int, { frames := 1, cells := 0, slots := 0, locals := 13 }, 0)
theorem cv_getTickJob {Z : State} {a0 : Array Value} (H : OK Z a0) : CalV Z a0 md_getTickJob 1 := ⟨pn_CyclicExecutive, by decide, pd__I_I, H.w 144 rfl, H.w 146 rfl, H.w 2 rfl, Or.inl ⟨H.w 143 rfl, H.w 145 rfl⟩⟩
theorem o_getTickJob_0 : InsA md_getTickJob 0 (.aload_n 0) 1 1 := ⟨by decide +kernel, rfl⟩
theorem o_getTickJob_1 : InsA md_getTickJob 1 (.iload_n 1) 1 2 := ⟨by decide +kernel, rfl⟩
theorem o_getTickJob_2 : InsA md_getTickJob 2 (.invokevirtual 101) 3 5 := ⟨by decide +kernel, rfl⟩
theorem o_getTickJob_5 : InsB md_getTickJob 5 (.ifCond .ne 5) 3 8 (5) 10 := ⟨by decide +kernel, rfl, by decide, by decide⟩
theorem o_getTickJob_8 : InsA md_getTickJob 8 (.iconst (-1)) 1 9 := ⟨by decide +kernel, rfl⟩
theorem o_getTickJob_9 : InsA md_getTickJob 9 (.ireturn) 1 10 := ⟨by decide +kernel, rfl⟩
theorem o_getTickJob_10 : InsA md_getTickJob 10 (.aload_n 0) 1 11 := ⟨by decide +kernel, rfl⟩
theorem o_getTickJob_11 : InsA md_getTickJob 11 (.getfield 25) 3 14 := ⟨by decide +kernel, rfl⟩
theorem o_getTickJob_14 : InsA md_getTickJob 14 (.iload_n 1) 1 15 := ⟨by decide +kernel, rfl⟩
theorem o_getTickJob_15 : InsA md_getTickJob 15 (.iaload) 1 16 := ⟨by decide +kernel, rfl⟩
theorem o_getTickJob_16 : InsA md_getTickJob 16 (.ireturn) 1 17 := ⟨by decide +kernel, rfl⟩
abbrev md_getSliceCount : MD := (⟨"CyclicExecutive", "getSliceCount", "(II)I"⟩, prog_1_method_24_code, 9, some .int, { frames := 0, cells := 0, slots := 0, locals := 0 }, 0)
theorem cv_getSliceCount {Z : State} {a0 : Array Value} (H : OK Z a0) : CalV Z a0 md_getSliceCount 2 := ⟨pn_CyclicExecutive, by decide, pd__II_I, H.w 149 rfl, H.w 151 rfl, H.w 2 rfl, Or.inl ⟨H.w 148 rfl, H.w 150 rfl⟩⟩
theorem o_getSliceCount_0 : InsA md_getSliceCount 0 (.aload_n 0) 1 1 := ⟨by decide +kernel, rfl⟩
theorem o_getSliceCount_1 : InsA md_getSliceCount 1 (.getfield 48) 3 4 := ⟨by decide +kernel, rfl⟩
theorem o_getSliceCount_4 : InsB md_getSliceCount 4 (.ifCond .eq 23) 3 7 (23) 27 := ⟨by decide +kernel, rfl, by decide, by decide⟩
theorem o_getSliceCount_7 : InsA md_getSliceCount 7 (.aload_n 0) 1 8 := ⟨by decide +kernel, rfl⟩
theorem o_getSliceCount_8 : InsA md_getSliceCount 8 (.getfield 52) 3 11 := ⟨by decide +kernel, rfl⟩
theorem o_getSliceCount_11 : InsA md_getSliceCount 11 (.iconst 1) 1 12 := ⟨by decide +kernel, rfl⟩
theorem o_getSliceCount_12 : InsB md_getSliceCount 12 (.if_icmp .lt 15) 3 15 (15) 27 := ⟨by decide +kernel, rfl, by decide, by decide⟩
theorem o_getSliceCount_15 : InsA md_getSliceCount 15 (.iload_n 1) 1 16 := ⟨by decide +kernel, rfl⟩
theorem o_getSliceCount_16 : InsB md_getSliceCount 16 (.ifCond .lt 11) 3 19 (11) 27 := ⟨by decide +kernel, rfl, by decide, by decide⟩
theorem o_getSliceCount_19 : InsA md_getSliceCount 19 (.iload_n 1) 1 20 := ⟨by decide +kernel, rfl⟩
theorem o_getSliceCount_20 : InsA md_getSliceCount 20 (.aload_n 0) 1 21 := ⟨by decide +kernel, rfl⟩
theorem o_getSliceCount_21 : InsA md_getSliceCount 21 (.getfield 42) 3 24 := ⟨by decide +kernel, rfl⟩
theorem o_getSliceCount_24 : InsB md_getSliceCount 24 (.if_icmp .lt 5) 3 27 (5) 29 := ⟨by decide +kernel, rfl, by decide, by decide⟩
theorem o_getSliceCount_27 : InsA md_getSliceCount 27 (.iconst (-1)) 1 28 := ⟨by decide +kernel, rfl⟩
theorem o_getSliceCount_28 : InsA md_getSliceCount 28 (.ireturn) 1 29 := ⟨by decide +kernel, rfl⟩
theorem o_getSliceCount_29 : InsA md_getSliceCount 29 (.aload_n 0) 1 30 := ⟨by decide +kernel, rfl⟩
theorem o_getSliceCount_30 : InsA md_getSliceCount 30 (.getfield 45) 3 33 := ⟨by decide +kernel, rfl⟩
theorem o_getSliceCount_33 : InsA md_getSliceCount 33 (.aload_n 0) 1 34 := ⟨by decide +kernel, rfl⟩
theorem o_getSliceCount_34 : InsA md_getSliceCount 34 (.getfield 7) 3 37 := ⟨by decide +kernel, rfl⟩
theorem o_getSliceCount_37 : InsA md_getSliceCount 37 (.iload_n 1) 1 38 := ⟨by decide +kernel, rfl⟩
theorem o_getSliceCount_38 : InsA md_getSliceCount 38 (.iaload) 1 39 := ⟨by decide +kernel, rfl⟩
theorem o_getSliceCount_39 : InsA md_getSliceCount 39 (.idiv) 1 40 := ⟨by decide +kernel, rfl⟩
theorem o_getSliceCount_40 : InsA md_getSliceCount 40 (.istore_n 3) 1 41 := ⟨by decide +kernel, rfl⟩
theorem o_getSliceCount_41 : InsA md_getSliceCount 41 (.iload_n 2) 1 42 := ⟨by decide +kernel, rfl⟩
theorem o_getSliceCount_42 : InsB md_getSliceCount 42 (.ifCond .lt 8) 3 45 (8) 50 := ⟨by decide +kernel, rfl, by decide, by decide⟩
theorem o_getSliceCount_45 : InsA md_getSliceCount 45 (.iload_n 2) 1 46 := ⟨by decide +kernel, rfl⟩
theorem o_getSliceCount_46 : InsA md_getSliceCount 46 (.iload_n 3) 1 47 := ⟨by decide +kernel, rfl⟩
theorem o_getSliceCount_47 : InsB md_getSliceCount 47 (.if_icmp .lt 5) 3 50 (5) 52 := ⟨by decide +kernel, rfl, by decide, by decide⟩
theorem o_getSliceCount_50 : InsA md_getSliceCount 50 (.iconst (-1)) 1 51 := ⟨by decide +kernel, rfl⟩
theorem o_getSliceCount_51 : InsA md_getSliceCount 51 (.ireturn) 1 52 := ⟨by decide +kernel, rfl⟩
theorem o_getSliceCount_52 : InsA md_getSliceCount 52 (.aload_n 0) 1 53 := ⟨by decide +kernel, rfl⟩
theorem o_getSliceCount_53 : InsA md_getSliceCount 53 (.getfield 45) 3 56 := ⟨by decide +kernel, rfl⟩
theorem o_getSliceCount_56 : InsA md_getSliceCount 56 (.aload_n 0) 1 57 := ⟨by decide +kernel, rfl⟩
theorem o_getSliceCount_57 : InsA md_getSliceCount 57 (.getfield 52) 3 60 := ⟨by decide +kernel, rfl⟩
theorem o_getSliceCount_60 : InsA md_getSliceCount 60 (.idiv) 1 61 := ⟨by decide +kernel, rfl⟩
theorem o_getSliceCount_61 : InsA md_getSliceCount 61 (.istore 4) 2 63 := ⟨by decide +kernel, rfl⟩
theorem o_getSliceCount_63 : InsA md_getSliceCount 63 (.iconst 0) 1 64 := ⟨by decide +kernel, rfl⟩
theorem o_getSliceCount_64 : InsA md_getSliceCount 64 (.istore 5) 2 66 := ⟨by decide +kernel, rfl⟩
theorem o_getSliceCount_66 : InsA md_getSliceCount 66 (.iconst 0) 1 67 := ⟨by decide +kernel, rfl⟩
theorem o_getSliceCount_67 : InsA md_getSliceCount 67 (.istore 6) 2 69 := ⟨by decide +kernel, rfl⟩
theorem o_getSliceCount_69 : InsA md_getSliceCount 69 (.iload 6) 2 71 := ⟨by decide +kernel, rfl⟩
theorem o_getSliceCount_71 : InsA md_getSliceCount 71 (.iload 4) 2 73 := ⟨by decide +kernel, rfl⟩
theorem o_getSliceCount_73 : InsB md_getSliceCount 73 (.if_icmp .ge 76) 3 76 (76) 149 := ⟨by decide +kernel, rfl, by decide, by decide⟩
theorem o_getSliceCount_76 : InsA md_getSliceCount 76 (.iload 6) 2 78 := ⟨by decide +kernel, rfl⟩
theorem o_getSliceCount_78 : InsA md_getSliceCount 78 (.aload_n 0) 1 79 := ⟨by decide +kernel, rfl⟩
theorem o_getSliceCount_79 : InsA md_getSliceCount 79 (.getfield 52) 3 82 := ⟨by decide +kernel, rfl⟩
theorem o_getSliceCount_82 : InsA md_getSliceCount 82 (.imul) 1 83 := ⟨by decide +kernel, rfl⟩
theorem o_getSliceCount_83 : InsA md_getSliceCount 83 (.istore 7) 2 85 := ⟨by decide +kernel, rfl⟩
theorem o_getSliceCount_85 : InsA md_getSliceCount 85 (.iload 7) 2 87 := ⟨by decide +kernel, rfl⟩
theorem o_getSliceCount_87 : InsA md_getSliceCount 87 (.istore 8) 2 89 := ⟨by decide +kernel, rfl⟩
theorem o_getSliceCount_89 : InsA md_getSliceCount 89 (.iload 8) 2 91 := ⟨by decide +kernel, rfl⟩
theorem o_getSliceCount_91 : InsA md_getSliceCount 91 (.iload 7) 2 93 := ⟨by decide +kernel, rfl⟩
theorem o_getSliceCount_93 : InsA md_getSliceCount 93 (.aload_n 0) 1 94 := ⟨by decide +kernel, rfl⟩
theorem o_getSliceCount_94 : InsA md_getSliceCount 94 (.getfield 52) 3 97 := ⟨by decide +kernel, rfl⟩
theorem o_getSliceCount_97 : InsA md_getSliceCount 97 (.iadd) 1 98 := ⟨by decide +kernel, rfl⟩
theorem o_getSliceCount_98 : InsB md_getSliceCount 98 (.if_icmp .ge 45) 3 101 (45) 143 := ⟨by decide +kernel, rfl, by decide, by decide⟩
theorem o_getSliceCount_101 : InsA md_getSliceCount 101 (.iload 8) 2 103 := ⟨by decide +kernel, rfl⟩
theorem o_getSliceCount_103 : InsA md_getSliceCount 103 (.sipush 128) 3 106 := ⟨by decide +kernel, rfl⟩
theorem o_getSliceCount_106 : InsB md_getSliceCount 106 (.if_icmp .ge 37) 3 109 (37) 143 := ⟨by decide +kernel, rfl, by decide, by decide⟩
theorem o_getSliceCount_109 : InsA md_getSliceCount 109 (.aload_n 0) 1 110 := ⟨by decide +kernel, rfl⟩
theorem o_getSliceCount_110 : InsA md_getSliceCount 110 (.getfield 22) 3 113 := ⟨by decide +kernel, rfl⟩
theorem o_getSliceCount_113 : InsA md_getSliceCount 113 (.iload 8) 2 115 := ⟨by decide +kernel, rfl⟩
theorem o_getSliceCount_115 : InsA md_getSliceCount 115 (.iaload) 1 116 := ⟨by decide +kernel, rfl⟩
theorem o_getSliceCount_116 : InsA md_getSliceCount 116 (.iload_n 1) 1 117 := ⟨by decide +kernel, rfl⟩
theorem o_getSliceCount_117 : InsB md_getSliceCount 117 (.if_icmp .ne 20) 3 120 (20) 137 := ⟨by decide +kernel, rfl, by decide, by decide⟩
theorem o_getSliceCount_120 : InsA md_getSliceCount 120 (.aload_n 0) 1 121 := ⟨by decide +kernel, rfl⟩
theorem o_getSliceCount_121 : InsA md_getSliceCount 121 (.getfield 25) 3 124 := ⟨by decide +kernel, rfl⟩
theorem o_getSliceCount_124 : InsA md_getSliceCount 124 (.iload 8) 2 126 := ⟨by decide +kernel, rfl⟩
theorem o_getSliceCount_126 : InsA md_getSliceCount 126 (.iaload) 1 127 := ⟨by decide +kernel, rfl⟩
theorem o_getSliceCount_127 : InsA md_getSliceCount 127 (.iload_n 2) 1 128 := ⟨by decide +kernel, rfl⟩
theorem o_getSliceCount_128 : InsB md_getSliceCount 128 (.if_icmp .ne 9) 3 131 (9) 137 := ⟨by decide +kernel, rfl, by decide, by decide⟩
theorem o_getSliceCount_131 : InsA md_getSliceCount 131 (.iinc 5 1) 3 134 := ⟨by decide +kernel, rfl⟩
theorem o_getSliceCount_134 : InsB md_getSliceCount 134 (.goto 9) 3 137 (9) 143 := ⟨by decide +kernel, rfl, by decide, by decide⟩
theorem o_getSliceCount_137 : InsA md_getSliceCount 137 (.iinc 8 1) 3 140 := ⟨by decide +kernel, rfl⟩
theorem o_getSliceCount_140 : InsB md_getSliceCount 140 (.goto (-51)) 3 143 (-51) 89 := ⟨by decide +kernel, rfl, by decide, by decide⟩
theorem o_getSliceCount_143 : InsA md_getSliceCount 143 (.iinc 6 1) 3 146 := ⟨by decide +kernel, rfl⟩
theorem o_getSliceCount_146 : InsB md_getSliceCount 146 (.goto (-77)) 3 149 (-77) 69 := ⟨by decide +kernel, rfl, by decide, by decide⟩
theorem o_getSliceCount_149 : InsA md_getSliceCount 149 (.iload 5) 2 151 := ⟨by decide +kernel, rfl⟩
theorem o_getSliceCount_151 : InsA md_getSliceCount 151 (.ireturn) 1 152 := ⟨by decide +kernel, rfl⟩
abbrev md_L_law : MD := (x, code, maxLocals, ret, room_1, 8)
theorem o_L_law_0 : InsA md_L_law 0 (.new 7) 3 3 := ⟨at_0, rfl⟩
theorem o_L_law_3 : InsA md_L_law 3 (.dup) 1 4 := ⟨at_3, rfl⟩
theorem o_L_law_4 : InsA md_L_law 4 (.bipush 8) 2 6 := ⟨at_4, rfl⟩
theorem o_L_law_6 : InsA md_L_law 6 (.sipush 128) 3 9 := ⟨at_6, rfl⟩
theorem o_L_law_9 : InsA md_L_law 9 (.invokespecial 9) 3 12 := ⟨at_9, rfl⟩
theorem o_L_law_12 : InsA md_L_law 12 (.astore_n 1) 1 13 := ⟨at_12, rfl⟩
theorem o_L_law_13 : InsA md_L_law 13 (.iconst 1) 1 14 := ⟨at_13, rfl⟩
theorem o_L_law_14 : InsA md_L_law 14 (.aload_n 0) 1 15 := ⟨at_14, rfl⟩
theorem o_L_law_15 : InsA md_L_law 15 (.iconst 0) 1 16 := ⟨at_15, rfl⟩
theorem o_L_law_16 : InsA md_L_law 16 (.invokestatic 12) 3 19 := ⟨at_16, rfl⟩
theorem o_L_law_19 : InsA md_L_law 19 (.sipush 32767) 3 22 := ⟨at_19, rfl⟩
theorem o_L_law_22 : InsA md_L_law 22 (.iand) 1 23 := ⟨at_22, rfl⟩
theorem o_L_law_23 : InsA md_L_law 23 (.iconst 4) 1 24 := ⟨at_23, rfl⟩
theorem o_L_law_24 : InsA md_L_law 24 (.irem) 1 25 := ⟨at_24, rfl⟩
theorem o_L_law_25 : InsA md_L_law 25 (.iadd) 1 26 := ⟨at_25, rfl⟩
theorem o_L_law_26 : InsA md_L_law 26 (.istore_n 2) 1 27 := ⟨at_26, rfl⟩
theorem o_L_law_27 : InsA md_L_law 27 (.iconst 1) 1 28 := ⟨at_27, rfl⟩
theorem o_L_law_28 : InsA md_L_law 28 (.istore_n 3) 1 29 := ⟨at_28, rfl⟩
theorem o_L_law_29 : InsA md_L_law 29 (.iconst 0) 1 30 := ⟨at_29, rfl⟩
theorem o_L_law_30 : InsA md_L_law 30 (.istore 4) 2 32 := ⟨at_30, rfl⟩
theorem o_L_law_32 : InsA md_L_law 32 (.iload 4) 2 34 := ⟨at_32, rfl⟩
theorem o_L_law_34 : InsA md_L_law 34 (.iload_n 2) 1 35 := ⟨at_34, rfl⟩
theorem o_L_law_35 : InsB md_L_law 35 (.if_icmp .ge 88) 3 38 (88) 123 := ⟨at_35, rfl, by decide, by decide⟩
theorem o_L_law_38 : InsA md_L_law 38 (.aload_n 0) 1 39 := ⟨at_38, rfl⟩
theorem o_L_law_39 : InsA md_L_law 39 (.iconst 1) 1 40 := ⟨at_39, rfl⟩
theorem o_L_law_40 : InsA md_L_law 40 (.iconst 3) 1 41 := ⟨at_40, rfl⟩
theorem o_L_law_41 : InsA md_L_law 41 (.iload 4) 2 43 := ⟨at_41, rfl⟩
theorem o_L_law_43 : InsA md_L_law 43 (.imul) 1 44 := ⟨at_43, rfl⟩
theorem o_L_law_44 : InsA md_L_law 44 (.iadd) 1 45 := ⟨at_44, rfl⟩
theorem o_L_law_45 : InsA md_L_law 45 (.invokestatic 12) 3 48 := ⟨at_45, rfl⟩
theorem o_L_law_48 : InsA md_L_law 48 (.invokestatic 18) 3 51 := ⟨at_48, rfl⟩
theorem o_L_law_51 : InsA md_L_law 51 (.istore 5) 2 53 := ⟨at_51, rfl⟩
theorem o_L_law_53 : InsA md_L_law 53 (.iload 5) 2 55 := ⟨at_53, rfl⟩
theorem o_L_law_55 : InsA md_L_law 55 (.aload_n 0) 1 56 := ⟨at_55, rfl⟩
theorem o_L_law_56 : InsA md_L_law 56 (.iconst 2) 1 57 := ⟨at_56, rfl⟩
theorem o_L_law_57 : InsA md_L_law 57 (.iconst 3) 1 58 := ⟨at_57, rfl⟩
theorem o_L_law_58 : InsA md_L_law 58 (.iload 4) 2 60 := ⟨at_58, rfl⟩
theorem o_L_law_60 : InsA md_L_law 60 (.imul) 1 61 := ⟨at_60, rfl⟩
theorem o_L_law_61 : InsA md_L_law 61 (.iadd) 1 62 := ⟨at_61, rfl⟩
theorem o_L_law_62 : InsA md_L_law 62 (.invokestatic 12) 3 65 := ⟨at_62, rfl⟩
theorem o_L_law_65 : InsA md_L_law 65 (.invokestatic 22) 3 68 := ⟨at_65, rfl⟩
theorem o_L_law_68 : InsA md_L_law 68 (.istore 6) 2 70 := ⟨at_68, rfl⟩
theorem o_L_law_70 : InsA md_L_law 70 (.iload 6) 2 72 := ⟨at_70, rfl⟩
theorem o_L_law_72 : InsA md_L_law 72 (.iload_n 2) 1 73 := ⟨at_72, rfl⟩
theorem o_L_law_73 : InsA md_L_law 73 (.aload_n 0) 1 74 := ⟨at_73, rfl⟩
theorem o_L_law_74 : InsA md_L_law 74 (.iconst 3) 1 75 := ⟨at_74, rfl⟩
theorem o_L_law_75 : InsA md_L_law 75 (.iconst 3) 1 76 := ⟨at_75, rfl⟩
theorem o_L_law_76 : InsA md_L_law 76 (.iload 4) 2 78 := ⟨at_76, rfl⟩
theorem o_L_law_78 : InsA md_L_law 78 (.imul) 1 79 := ⟨at_78, rfl⟩
theorem o_L_law_79 : InsA md_L_law 79 (.iadd) 1 80 := ⟨at_79, rfl⟩
theorem o_L_law_80 : InsA md_L_law 80 (.invokestatic 12) 3 83 := ⟨at_80, rfl⟩
theorem o_L_law_83 : InsA md_L_law 83 (.invokestatic 26) 3 86 := ⟨at_83, rfl⟩
theorem o_L_law_86 : InsA md_L_law 86 (.istore 7) 2 88 := ⟨at_86, rfl⟩
theorem o_L_law_88 : InsA md_L_law 88 (.aload_n 1) 1 89 := ⟨at_88, rfl⟩
theorem o_L_law_89 : InsA md_L_law 89 (.iload 5) 2 91 := ⟨at_89, rfl⟩
theorem o_L_law_91 : InsA md_L_law 91 (.iload 7) 2 93 := ⟨at_91, rfl⟩
theorem o_L_law_93 : InsA md_L_law 93 (.iload 6) 2 95 := ⟨at_93, rfl⟩
theorem o_L_law_95 : InsA md_L_law 95 (.invokevirtual 30) 3 98 := ⟨at_95, rfl⟩
theorem o_L_law_98 : InsA md_L_law 98 (.iload 4) 2 100 := ⟨at_98, rfl⟩
theorem o_L_law_100 : InsB md_L_law 100 (.if_icmp .eq 5) 3 103 (5) 105 := ⟨at_100, rfl, by decide, by decide⟩
theorem o_L_law_103 : InsA md_L_law 103 (.iconst 0) 1 104 := ⟨at_103, rfl⟩
theorem o_L_law_104 : InsA md_L_law 104 (.ireturn) 1 105 := ⟨at_104, rfl⟩
theorem o_L_law_105 : InsA md_L_law 105 (.iload_n 3) 1 106 := ⟨at_105, rfl⟩
theorem o_L_law_106 : InsA md_L_law 106 (.iload_n 3) 1 107 := ⟨at_106, rfl⟩
theorem o_L_law_107 : InsA md_L_law 107 (.iload 5) 2 109 := ⟨at_107, rfl⟩
theorem o_L_law_109 : InsA md_L_law 109 (.invokestatic 33) 3 112 := ⟨at_109, rfl⟩
theorem o_L_law_112 : InsA md_L_law 112 (.idiv) 1 113 := ⟨at_112, rfl⟩
theorem o_L_law_113 : InsA md_L_law 113 (.iload 5) 2 115 := ⟨at_113, rfl⟩
theorem o_L_law_115 : InsA md_L_law 115 (.imul) 1 116 := ⟨at_115, rfl⟩
theorem o_L_law_116 : InsA md_L_law 116 (.istore_n 3) 1 117 := ⟨at_116, rfl⟩
theorem o_L_law_117 : InsA md_L_law 117 (.iinc 4 1) 3 120 := ⟨at_117, rfl⟩
theorem o_L_law_120 : InsB md_L_law 120 (.goto (-88)) 3 123 (-88) 32 := ⟨at_120, rfl, by decide, by decide⟩
theorem o_L_law_123 : InsA md_L_law 123 (.aload_n 1) 1 124 := ⟨at_123, rfl⟩
theorem o_L_law_124 : InsA md_L_law 124 (.invokevirtual 36) 3 127 := ⟨at_124, rfl⟩
theorem o_L_law_127 : InsA md_L_law 127 (.iload_n 3) 1 128 := ⟨at_127, rfl⟩
theorem o_L_law_128 : InsB md_L_law 128 (.if_icmp .eq 5) 3 131 (5) 133 := ⟨at_128, rfl, by decide, by decide⟩
theorem o_L_law_131 : InsA md_L_law 131 (.iconst 0) 1 132 := ⟨at_131, rfl⟩
theorem o_L_law_132 : InsA md_L_law 132 (.ireturn) 1 133 := ⟨at_132, rfl⟩
theorem o_L_law_133 : InsA md_L_law 133 (.iconst 0) 1 134 := ⟨at_133, rfl⟩
theorem o_L_law_134 : InsA md_L_law 134 (.istore 4) 2 136 := ⟨at_134, rfl⟩
theorem o_L_law_136 : InsA md_L_law 136 (.iload 4) 2 138 := ⟨at_136, rfl⟩
theorem o_L_law_138 : InsA md_L_law 138 (.bipush 6) 2 140 := ⟨at_138, rfl⟩
theorem o_L_law_140 : InsB md_L_law 140 (.if_icmp .ge 684) 3 143 (684) 824 := ⟨at_140, rfl, by decide, by decide⟩
theorem o_L_law_143 : InsA md_L_law 143 (.aload_n 0) 1 144 := ⟨at_143, rfl⟩
theorem o_L_law_144 : InsA md_L_law 144 (.bipush 13) 2 146 := ⟨at_144, rfl⟩
theorem o_L_law_146 : InsA md_L_law 146 (.iconst 2) 1 147 := ⟨at_146, rfl⟩
theorem o_L_law_147 : InsA md_L_law 147 (.iload 4) 2 149 := ⟨at_147, rfl⟩
theorem o_L_law_149 : InsA md_L_law 149 (.imul) 1 150 := ⟨at_149, rfl⟩
theorem o_L_law_150 : InsA md_L_law 150 (.iadd) 1 151 := ⟨at_150, rfl⟩
theorem o_L_law_151 : InsA md_L_law 151 (.invokestatic 12) 3 154 := ⟨at_151, rfl⟩
theorem o_L_law_154 : InsA md_L_law 154 (.sipush 32767) 3 157 := ⟨at_154, rfl⟩
theorem o_L_law_157 : InsA md_L_law 157 (.iand) 1 158 := ⟨at_157, rfl⟩
theorem o_L_law_158 : InsA md_L_law 158 (.istore 5) 2 160 := ⟨at_158, rfl⟩
theorem o_L_law_160 : InsA md_L_law 160 (.iconst 0) 1 161 := ⟨at_160, rfl⟩
theorem o_L_law_161 : InsA md_L_law 161 (.istore 6) 2 163 := ⟨at_161, rfl⟩
theorem o_L_law_163 : InsA md_L_law 163 (.iload 5) 2 165 := ⟨at_163, rfl⟩
theorem o_L_law_165 : InsA md_L_law 165 (.iconst 5) 1 166 := ⟨at_165, rfl⟩
theorem o_L_law_166 : InsA md_L_law 166 (.irem) 1 167 := ⟨at_166, rfl⟩
theorem o_L_law_167 : InsA md_L_law 167 (.iconst 4) 1 168 := ⟨at_167, rfl⟩
theorem o_L_law_168 : InsB md_L_law 168 (.if_icmp .ne 16) 3 171 (16) 184 := ⟨at_168, rfl, by decide, by decide⟩
theorem o_L_law_171 : InsA md_L_law 171 (.iconst 1) 1 172 := ⟨at_171, rfl⟩
theorem o_L_law_172 : InsA md_L_law 172 (.iload 5) 2 174 := ⟨at_172, rfl⟩
theorem o_L_law_174 : InsA md_L_law 174 (.iconst 5) 1 175 := ⟨at_174, rfl⟩
theorem o_L_law_175 : InsA md_L_law 175 (.idiv) 1 176 := ⟨at_175, rfl⟩
theorem o_L_law_176 : InsA md_L_law 176 (.iload_n 3) 1 177 := ⟨at_176, rfl⟩
theorem o_L_law_177 : InsA md_L_law 177 (.irem) 1 178 := ⟨at_177, rfl⟩
theorem o_L_law_178 : InsA md_L_law 178 (.iadd) 1 179 := ⟨at_178, rfl⟩
theorem o_L_law_179 : InsA md_L_law 179 (.istore 6) 2 181 := ⟨at_179, rfl⟩
theorem o_L_law_181 : InsB md_L_law 181 (.goto 79) 3 184 (79) 260 := ⟨at_181, rfl, by decide, by decide⟩
theorem o_L_law_184 : InsA md_L_law 184 (.iconst 0) 1 185 := ⟨at_184, rfl⟩
theorem o_L_law_185 : InsA md_L_law 185 (.istore 7) 2 187 := ⟨at_185, rfl⟩
theorem o_L_law_187 : InsA md_L_law 187 (.iconst 1) 1 188 := ⟨at_187, rfl⟩
theorem o_L_law_188 : InsA md_L_law 188 (.istore 8) 2 190 := ⟨at_188, rfl⟩
theorem o_L_law_190 : InsA md_L_law 190 (.iload 8) 2 192 := ⟨at_190, rfl⟩
theorem o_L_law_192 : InsA md_L_law 192 (.iload_n 3) 1 193 := ⟨at_192, rfl⟩
theorem o_L_law_193 : InsB md_L_law 193 (.if_icmp .gt 19) 3 196 (19) 212 := ⟨at_193, rfl, by decide, by decide⟩
theorem o_L_law_196 : InsA md_L_law 196 (.iload_n 3) 1 197 := ⟨at_196, rfl⟩
theorem o_L_law_197 : InsA md_L_law 197 (.iload 8) 2 199 := ⟨at_197, rfl⟩
theorem o_L_law_199 : InsA md_L_law 199 (.irem) 1 200 := ⟨at_199, rfl⟩
theorem o_L_law_200 : InsB md_L_law 200 (.ifCond .ne 6) 3 203 (6) 206 := ⟨at_200, rfl, by decide, by decide⟩
theorem o_L_law_203 : InsA md_L_law 203 (.iinc 7 1) 3 206 := ⟨at_203, rfl⟩
theorem o_L_law_206 : InsA md_L_law 206 (.iinc 8 1) 3 209 := ⟨at_206, rfl⟩
theorem o_L_law_209 : InsB md_L_law 209 (.goto (-19)) 3 212 (-19) 190 := ⟨at_209, rfl, by decide, by decide⟩
theorem o_L_law_212 : InsA md_L_law 212 (.iload 5) 2 214 := ⟨at_212, rfl⟩
theorem o_L_law_214 : InsA md_L_law 214 (.iconst 5) 1 215 := ⟨at_214, rfl⟩
theorem o_L_law_215 : InsA md_L_law 215 (.idiv) 1 216 := ⟨at_215, rfl⟩
theorem o_L_law_216 : InsA md_L_law 216 (.iload 7) 2 218 := ⟨at_216, rfl⟩
theorem o_L_law_218 : InsA md_L_law 218 (.irem) 1 219 := ⟨at_218, rfl⟩
theorem o_L_law_219 : InsA md_L_law 219 (.istore 8) 2 221 := ⟨at_219, rfl⟩
theorem o_L_law_221 : InsA md_L_law 221 (.iconst 0) 1 222 := ⟨at_221, rfl⟩
theorem o_L_law_222 : InsA md_L_law 222 (.istore 9) 2 224 := ⟨at_222, rfl⟩
theorem o_L_law_224 : InsA md_L_law 224 (.iconst 1) 1 225 := ⟨at_224, rfl⟩
theorem o_L_law_225 : InsA md_L_law 225 (.istore 10) 2 227 := ⟨at_225, rfl⟩
theorem o_L_law_227 : InsA md_L_law 227 (.iload 10) 2 229 := ⟨at_227, rfl⟩
theorem o_L_law_229 : InsA md_L_law 229 (.iload_n 3) 1 230 := ⟨at_229, rfl⟩
theorem o_L_law_230 : InsB md_L_law 230 (.if_icmp .gt 30) 3 233 (30) 260 := ⟨at_230, rfl, by decide, by decide⟩
theorem o_L_law_233 : InsA md_L_law 233 (.iload_n 3) 1 234 := ⟨at_233, rfl⟩
theorem o_L_law_234 : InsA md_L_law 234 (.iload 10) 2 236 := ⟨at_234, rfl⟩
theorem o_L_law_236 : InsA md_L_law 236 (.irem) 1 237 := ⟨at_236, rfl⟩
theorem o_L_law_237 : InsB md_L_law 237 (.ifCond .ne 17) 3 240 (17) 254 := ⟨at_237, rfl, by decide, by decide⟩
theorem o_L_law_240 : InsA md_L_law 240 (.iload 9) 2 242 := ⟨at_240, rfl⟩
theorem o_L_law_242 : InsA md_L_law 242 (.iload 8) 2 244 := ⟨at_242, rfl⟩
theorem o_L_law_244 : InsB md_L_law 244 (.if_icmp .ne 7) 3 247 (7) 251 := ⟨at_244, rfl, by decide, by decide⟩
theorem o_L_law_247 : InsA md_L_law 247 (.iload 10) 2 249 := ⟨at_247, rfl⟩
theorem o_L_law_249 : InsA md_L_law 249 (.istore 6) 2 251 := ⟨at_249, rfl⟩
theorem o_L_law_251 : InsA md_L_law 251 (.iinc 9 1) 3 254 := ⟨at_251, rfl⟩
theorem o_L_law_254 : InsA md_L_law 254 (.iinc 10 1) 3 257 := ⟨at_254, rfl⟩
theorem o_L_law_257 : InsB md_L_law 257 (.goto (-30)) 3 260 (-30) 227 := ⟨at_257, rfl, by decide, by decide⟩
theorem o_L_law_260 : InsA md_L_law 260 (.aload_n 1) 1 261 := ⟨at_260, rfl⟩
theorem o_L_law_261 : InsA md_L_law 261 (.iload 6) 2 263 := ⟨at_261, rfl⟩
theorem o_L_law_263 : InsA md_L_law 263 (.invokevirtual 40) 3 266 := ⟨at_263, rfl⟩
theorem o_L_law_266 : InsA md_L_law 266 (.istore 7) 2 268 := ⟨at_266, rfl⟩
theorem o_L_law_268 : InsA md_L_law 268 (.iload 7) 2 270 := ⟨at_268, rfl⟩
theorem o_L_law_270 : InsB md_L_law 270 (.ifCond .ne 118) 3 273 (118) 388 := ⟨at_270, rfl, by decide, by decide⟩
theorem o_L_law_273 : InsA md_L_law 273 (.aload_n 1) 1 274 := ⟨at_273, rfl⟩
theorem o_L_law_274 : InsA md_L_law 274 (.invokevirtual 43) 3 277 := ⟨at_274, rfl⟩
theorem o_L_law_277 : InsA md_L_law 277 (.iload 6) 2 279 := ⟨at_277, rfl⟩
theorem o_L_law_279 : InsB md_L_law 279 (.if_icmp .eq 5) 3 282 (5) 284 := ⟨at_279, rfl, by decide, by decide⟩
theorem o_L_law_282 : InsA md_L_law 282 (.iconst 0) 1 283 := ⟨at_282, rfl⟩
theorem o_L_law_283 : InsA md_L_law 283 (.ireturn) 1 284 := ⟨at_283, rfl⟩
theorem o_L_law_284 : InsA md_L_law 284 (.aload_n 1) 1 285 := ⟨at_284, rfl⟩
theorem o_L_law_285 : InsA md_L_law 285 (.iload_n 3) 1 286 := ⟨at_285, rfl⟩
theorem o_L_law_286 : InsA md_L_law 286 (.invokevirtual 46) 3 289 := ⟨at_286, rfl⟩
theorem o_L_law_289 : InsA md_L_law 289 (.iload_n 3) 1 290 := ⟨at_289, rfl⟩
theorem o_L_law_290 : InsB md_L_law 290 (.if_icmp .eq 5) 3 293 (5) 295 := ⟨at_290, rfl, by decide, by decide⟩
theorem o_L_law_293 : InsA md_L_law 293 (.iconst 0) 1 294 := ⟨at_293, rfl⟩
theorem o_L_law_294 : InsA md_L_law 294 (.ireturn) 1 295 := ⟨at_294, rfl⟩
theorem o_L_law_295 : InsA md_L_law 295 (.aload_n 1) 1 296 := ⟨at_295, rfl⟩
theorem o_L_law_296 : InsA md_L_law 296 (.invokevirtual 49) 3 299 := ⟨at_296, rfl⟩
theorem o_L_law_299 : InsA md_L_law 299 (.iload_n 3) 1 300 := ⟨at_299, rfl⟩
theorem o_L_law_300 : InsB md_L_law 300 (.if_icmp .eq 5) 3 303 (5) 305 := ⟨at_300, rfl, by decide, by decide⟩
theorem o_L_law_303 : InsA md_L_law 303 (.iconst 0) 1 304 := ⟨at_303, rfl⟩
theorem o_L_law_304 : InsA md_L_law 304 (.ireturn) 1 305 := ⟨at_304, rfl⟩
theorem o_L_law_305 : InsA md_L_law 305 (.iconst 0) 1 306 := ⟨at_305, rfl⟩
theorem o_L_law_306 : InsA md_L_law 306 (.istore 8) 2 308 := ⟨at_306, rfl⟩
theorem o_L_law_308 : InsA md_L_law 308 (.iload 8) 2 310 := ⟨at_308, rfl⟩
theorem o_L_law_310 : InsA md_L_law 310 (.iload_n 2) 1 311 := ⟨at_310, rfl⟩
theorem o_L_law_311 : InsB md_L_law 311 (.if_icmp .ge 77) 3 314 (77) 388 := ⟨at_311, rfl, by decide, by decide⟩
theorem o_L_law_314 : InsA md_L_law 314 (.aload_n 0) 1 315 := ⟨at_314, rfl⟩
theorem o_L_law_315 : InsA md_L_law 315 (.iconst 1) 1 316 := ⟨at_315, rfl⟩
theorem o_L_law_316 : InsA md_L_law 316 (.iconst 3) 1 317 := ⟨at_316, rfl⟩
theorem o_L_law_317 : InsA md_L_law 317 (.iload 8) 2 319 := ⟨at_317, rfl⟩
theorem o_L_law_319 : InsA md_L_law 319 (.imul) 1 320 := ⟨at_319, rfl⟩
theorem o_L_law_320 : InsA md_L_law 320 (.iadd) 1 321 := ⟨at_320, rfl⟩
theorem o_L_law_321 : InsA md_L_law 321 (.invokestatic 12) 3 324 := ⟨at_321, rfl⟩
theorem o_L_law_324 : InsA md_L_law 324 (.invokestatic 18) 3 327 := ⟨at_324, rfl⟩
theorem o_L_law_327 : InsA md_L_law 327 (.istore 9) 2 329 := ⟨at_327, rfl⟩
theorem o_L_law_329 : InsA md_L_law 329 (.iload 9) 2 331 := ⟨at_329, rfl⟩
theorem o_L_law_331 : InsA md_L_law 331 (.aload_n 0) 1 332 := ⟨at_331, rfl⟩
theorem o_L_law_332 : InsA md_L_law 332 (.iconst 2) 1 333 := ⟨at_332, rfl⟩
theorem o_L_law_333 : InsA md_L_law 333 (.iconst 3) 1 334 := ⟨at_333, rfl⟩
theorem o_L_law_334 : InsA md_L_law 334 (.iload 8) 2 336 := ⟨at_334, rfl⟩
theorem o_L_law_336 : InsA md_L_law 336 (.imul) 1 337 := ⟨at_336, rfl⟩
theorem o_L_law_337 : InsA md_L_law 337 (.iadd) 1 338 := ⟨at_337, rfl⟩
theorem o_L_law_338 : InsA md_L_law 338 (.invokestatic 12) 3 341 := ⟨at_338, rfl⟩
theorem o_L_law_341 : InsA md_L_law 341 (.invokestatic 22) 3 344 := ⟨at_341, rfl⟩
theorem o_L_law_344 : InsA md_L_law 344 (.istore 10) 2 346 := ⟨at_344, rfl⟩
theorem o_L_law_346 : InsA md_L_law 346 (.iload 10) 2 348 := ⟨at_346, rfl⟩
theorem o_L_law_348 : InsA md_L_law 348 (.iload_n 2) 1 349 := ⟨at_348, rfl⟩
theorem o_L_law_349 : InsA md_L_law 349 (.aload_n 0) 1 350 := ⟨at_349, rfl⟩
theorem o_L_law_350 : InsA md_L_law 350 (.iconst 3) 1 351 := ⟨at_350, rfl⟩
theorem o_L_law_351 : InsA md_L_law 351 (.iconst 3) 1 352 := ⟨at_351, rfl⟩
theorem o_L_law_352 : InsA md_L_law 352 (.iload 8) 2 354 := ⟨at_352, rfl⟩
theorem o_L_law_354 : InsA md_L_law 354 (.imul) 1 355 := ⟨at_354, rfl⟩
theorem o_L_law_355 : InsA md_L_law 355 (.iadd) 1 356 := ⟨at_355, rfl⟩
theorem o_L_law_356 : InsA md_L_law 356 (.invokestatic 12) 3 359 := ⟨at_356, rfl⟩
theorem o_L_law_359 : InsA md_L_law 359 (.invokestatic 26) 3 362 := ⟨at_359, rfl⟩
theorem o_L_law_362 : InsA md_L_law 362 (.istore 11) 2 364 := ⟨at_362, rfl⟩
theorem o_L_law_364 : InsA md_L_law 364 (.aload_n 1) 1 365 := ⟨at_364, rfl⟩
theorem o_L_law_365 : InsA md_L_law 365 (.iload 8) 2 367 := ⟨at_365, rfl⟩
theorem o_L_law_367 : InsA md_L_law 367 (.invokevirtual 52) 3 370 := ⟨at_367, rfl⟩
theorem o_L_law_370 : InsA md_L_law 370 (.iload 11) 2 372 := ⟨at_370, rfl⟩
theorem o_L_law_372 : InsA md_L_law 372 (.iload_n 3) 1 373 := ⟨at_372, rfl⟩
theorem o_L_law_373 : InsA md_L_law 373 (.iload 9) 2 375 := ⟨at_373, rfl⟩
theorem o_L_law_375 : InsA md_L_law 375 (.idiv) 1 376 := ⟨at_375, rfl⟩
theorem o_L_law_376 : InsA md_L_law 376 (.imul) 1 377 := ⟨at_376, rfl⟩
theorem o_L_law_377 : InsB md_L_law 377 (.if_icmp .eq 5) 3 380 (5) 382 := ⟨at_377, rfl, by decide, by decide⟩
theorem o_L_law_380 : InsA md_L_law 380 (.iconst 0) 1 381 := ⟨at_380, rfl⟩
theorem o_L_law_381 : InsA md_L_law 381 (.ireturn) 1 382 := ⟨at_381, rfl⟩
theorem o_L_law_382 : InsA md_L_law 382 (.iinc 8 1) 3 385 := ⟨at_382, rfl⟩
theorem o_L_law_385 : InsB md_L_law 385 (.goto (-77)) 3 388 (-77) 308 := ⟨at_385, rfl, by decide, by decide⟩
theorem o_L_law_388 : InsA md_L_law 388 (.aload_n 1) 1 389 := ⟨at_388, rfl⟩
theorem o_L_law_389 : InsA md_L_law 389 (.invokevirtual 43) 3 392 := ⟨at_389, rfl⟩
theorem o_L_law_392 : InsA md_L_law 392 (.istore 8) 2 394 := ⟨at_392, rfl⟩
theorem o_L_law_394 : InsA md_L_law 394 (.iload 8) 2 396 := ⟨at_394, rfl⟩
theorem o_L_law_396 : InsB md_L_law 396 (.ifCond .le 403) 3 399 (403) 799 := ⟨at_396, rfl, by decide, by decide⟩
theorem o_L_law_399 : InsA md_L_law 399 (.iconst 0) 1 400 := ⟨at_399, rfl⟩
theorem o_L_law_400 : InsA md_L_law 400 (.istore 9) 2 402 := ⟨at_400, rfl⟩
theorem o_L_law_402 : InsA md_L_law 402 (.iload 9) 2 404 := ⟨at_402, rfl⟩
theorem o_L_law_404 : InsA md_L_law 404 (.iload_n 3) 1 405 := ⟨at_404, rfl⟩
theorem o_L_law_405 : InsB md_L_law 405 (.if_icmp .ge 182) 3 408 (182) 587 := ⟨at_405, rfl, by decide, by decide⟩
theorem o_L_law_408 : InsA md_L_law 408 (.aload_n 1) 1 409 := ⟨at_408, rfl⟩
theorem o_L_law_409 : InsA md_L_law 409 (.iload 9) 2 411 := ⟨at_409, rfl⟩
theorem o_L_law_411 : InsA md_L_law 411 (.invokevirtual 55) 3 414 := ⟨at_411, rfl⟩
theorem o_L_law_414 : InsA md_L_law 414 (.istore 10) 2 416 := ⟨at_414, rfl⟩
theorem o_L_law_416 : InsA md_L_law 416 (.aload_n 1) 1 417 := ⟨at_416, rfl⟩
theorem o_L_law_417 : InsA md_L_law 417 (.iload 9) 2 419 := ⟨at_417, rfl⟩
theorem o_L_law_419 : InsA md_L_law 419 (.invokevirtual 58) 3 422 := ⟨at_419, rfl⟩
theorem o_L_law_422 : InsA md_L_law 422 (.istore 11) 2 424 := ⟨at_422, rfl⟩
theorem o_L_law_424 : InsA md_L_law 424 (.iload 10) 2 426 := ⟨at_424, rfl⟩
theorem o_L_law_426 : InsA md_L_law 426 (.iconst (-1)) 1 427 := ⟨at_426, rfl⟩
theorem o_L_law_427 : InsB md_L_law 427 (.if_icmp .ne 7) 3 430 (7) 434 := ⟨at_427, rfl, by decide, by decide⟩
theorem o_L_law_430 : InsA md_L_law 430 (.iconst 1) 1 431 := ⟨at_430, rfl⟩
theorem o_L_law_431 : InsB md_L_law 431 (.goto 4) 3 434 (4) 435 := ⟨at_431, rfl, by decide, by decide⟩
theorem o_L_law_434 : InsA md_L_law 434 (.iconst 0) 1 435 := ⟨at_434, rfl⟩
theorem o_L_law_435 : InsA md_L_law 435 (.iload 11) 2 437 := ⟨at_435, rfl⟩
theorem o_L_law_437 : InsA md_L_law 437 (.iconst (-1)) 1 438 := ⟨at_437, rfl⟩
theorem o_L_law_438 : InsB md_L_law 438 (.if_icmp .ne 7) 3 441 (7) 445 := ⟨at_438, rfl, by decide, by decide⟩
theorem o_L_law_441 : InsA md_L_law 441 (.iconst 1) 1 442 := ⟨at_441, rfl⟩
theorem o_L_law_442 : InsB md_L_law 442 (.goto 4) 3 445 (4) 446 := ⟨at_442, rfl, by decide, by decide⟩
theorem o_L_law_445 : InsA md_L_law 445 (.iconst 0) 1 446 := ⟨at_445, rfl⟩
theorem o_L_law_446 : InsB md_L_law 446 (.if_icmp .eq 5) 3 449 (5) 451 := ⟨at_446, rfl, by decide, by decide⟩
theorem o_L_law_449 : InsA md_L_law 449 (.iconst 0) 1 450 := ⟨at_449, rfl⟩
theorem o_L_law_450 : InsA md_L_law 450 (.ireturn) 1 451 := ⟨at_450, rfl⟩
theorem o_L_law_451 : InsA md_L_law 451 (.iload 10) 2 453 := ⟨at_451, rfl⟩
theorem o_L_law_453 : InsA md_L_law 453 (.iconst (-1)) 1 454 := ⟨at_453, rfl⟩
theorem o_L_law_454 : InsB md_L_law 454 (.if_icmp .ne 6) 3 457 (6) 460 := ⟨at_454, rfl, by decide, by decide⟩
theorem o_L_law_457 : InsB md_L_law 457 (.goto 124) 3 460 (124) 581 := ⟨at_457, rfl, by decide, by decide⟩
theorem o_L_law_460 : InsA md_L_law 460 (.iload 10) 2 462 := ⟨at_460, rfl⟩
theorem o_L_law_462 : InsB md_L_law 462 (.ifCond .lt 9) 3 465 (9) 471 := ⟨at_462, rfl, by decide, by decide⟩
theorem o_L_law_465 : InsA md_L_law 465 (.iload 10) 2 467 := ⟨at_465, rfl⟩
theorem o_L_law_467 : InsA md_L_law 467 (.iload_n 2) 1 468 := ⟨at_467, rfl⟩
theorem o_L_law_468 : InsB md_L_law 468 (.if_icmp .lt 5) 3 471 (5) 473 := ⟨at_468, rfl, by decide, by decide⟩
theorem o_L_law_471 : InsA md_L_law 471 (.iconst 0) 1 472 := ⟨at_471, rfl⟩
theorem o_L_law_472 : InsA md_L_law 472 (.ireturn) 1 473 := ⟨at_472, rfl⟩
theorem o_L_law_473 : InsA md_L_law 473 (.aload_n 0) 1 474 := ⟨at_473, rfl⟩
theorem o_L_law_474 : InsA md_L_law 474 (.iconst 1) 1 475 := ⟨at_474, rfl⟩
theorem o_L_law_475 : InsA md_L_law 475 (.iconst 3) 1 476 := ⟨at_475, rfl⟩
theorem o_L_law_476 : InsA md_L_law 476 (.iload 10) 2 478 := ⟨at_476, rfl⟩
theorem o_L_law_478 : InsA md_L_law 478 (.imul) 1 479 := ⟨at_478, rfl⟩
theorem o_L_law_479 : InsA md_L_law 479 (.iadd) 1 480 := ⟨at_479, rfl⟩
theorem o_L_law_480 : InsA md_L_law 480 (.invokestatic 12) 3 483 := ⟨at_480, rfl⟩
theorem o_L_law_483 : InsA md_L_law 483 (.invokestatic 18) 3 486 := ⟨at_483, rfl⟩
theorem o_L_law_486 : InsA md_L_law 486 (.istore 12) 2 488 := ⟨at_486, rfl⟩
theorem o_L_law_488 : InsA md_L_law 488 (.iload 12) 2 490 := ⟨at_488, rfl⟩
theorem o_L_law_490 : InsA md_L_law 490 (.aload_n 0) 1 491 := ⟨at_490, rfl⟩
theorem o_L_law_491 : InsA md_L_law 491 (.iconst 2) 1 492 := ⟨at_491, rfl⟩
theorem o_L_law_492 : InsA md_L_law 492 (.iconst 3) 1 493 := ⟨at_492, rfl⟩
theorem o_L_law_493 : InsA md_L_law 493 (.iload 10) 2 495 := ⟨at_493, rfl⟩
theorem o_L_law_495 : InsA md_L_law 495 (.imul) 1 496 := ⟨at_495, rfl⟩
theorem o_L_law_496 : InsA md_L_law 496 (.iadd) 1 497 := ⟨at_496, rfl⟩
theorem o_L_law_497 : InsA md_L_law 497 (.invokestatic 12) 3 500 := ⟨at_497, rfl⟩
theorem o_L_law_500 : InsA md_L_law 500 (.invokestatic 22) 3 503 := ⟨at_500, rfl⟩
theorem o_L_law_503 : InsA md_L_law 503 (.istore 13) 2 505 := ⟨at_503, rfl⟩
theorem o_L_law_505 : InsA md_L_law 505 (.iload 11) 2 507 := ⟨at_505, rfl⟩
theorem o_L_law_507 : InsB md_L_law 507 (.ifCond .lt 12) 3 510 (12) 519 := ⟨at_507, rfl, by decide, by decide⟩
theorem o_L_law_510 : InsA md_L_law 510 (.iload 11) 2 512 := ⟨at_510, rfl⟩
theorem o_L_law_512 : InsA md_L_law 512 (.iload_n 3) 1 513 := ⟨at_512, rfl⟩
theorem o_L_law_513 : InsA md_L_law 513 (.iload 12) 2 515 := ⟨at_513, rfl⟩
theorem o_L_law_515 : InsA md_L_law 515 (.idiv) 1 516 := ⟨at_515, rfl⟩
theorem o_L_law_516 : InsB md_L_law 516 (.if_icmp .lt 5) 3 519 (5) 521 := ⟨at_516, rfl, by decide, by decide⟩
theorem o_L_law_519 : InsA md_L_law 519 (.iconst 0) 1 520 := ⟨at_519, rfl⟩
theorem o_L_law_520 : InsA md_L_law 520 (.ireturn) 1 521 := ⟨at_520, rfl⟩
theorem o_L_law_521 : InsA md_L_law 521 (.iload 11) 2 523 := ⟨at_521, rfl⟩
theorem o_L_law_523 : InsA md_L_law 523 (.iload 12) 2 525 := ⟨at_523, rfl⟩
theorem o_L_law_525 : InsA md_L_law 525 (.imul) 1 526 := ⟨at_525, rfl⟩
theorem o_L_law_526 : InsA md_L_law 526 (.istore 14) 2 528 := ⟨at_526, rfl⟩
theorem o_L_law_528 : InsA md_L_law 528 (.iload 9) 2 530 := ⟨at_528, rfl⟩
theorem o_L_law_530 : InsA md_L_law 530 (.iload 14) 2 532 := ⟨at_530, rfl⟩
theorem o_L_law_532 : InsB md_L_law 532 (.if_icmp .lt 13) 3 535 (13) 545 := ⟨at_532, rfl, by decide, by decide⟩
theorem o_L_law_535 : InsA md_L_law 535 (.iload 9) 2 537 := ⟨at_535, rfl⟩
theorem o_L_law_537 : InsA md_L_law 537 (.iload 14) 2 539 := ⟨at_537, rfl⟩
theorem o_L_law_539 : InsA md_L_law 539 (.iload 13) 2 541 := ⟨at_539, rfl⟩
theorem o_L_law_541 : InsA md_L_law 541 (.iadd) 1 542 := ⟨at_541, rfl⟩
theorem o_L_law_542 : InsB md_L_law 542 (.if_icmp .lt 5) 3 545 (5) 547 := ⟨at_542, rfl, by decide, by decide⟩
theorem o_L_law_545 : InsA md_L_law 545 (.iconst 0) 1 546 := ⟨at_545, rfl⟩
theorem o_L_law_546 : InsA md_L_law 546 (.ireturn) 1 547 := ⟨at_546, rfl⟩
theorem o_L_law_547 : InsA md_L_law 547 (.iload 9) 2 549 := ⟨at_547, rfl⟩
theorem o_L_law_549 : InsA md_L_law 549 (.iload 8) 2 551 := ⟨at_549, rfl⟩
theorem o_L_law_551 : InsA md_L_law 551 (.idiv) 1 552 := ⟨at_551, rfl⟩
theorem o_L_law_552 : InsA md_L_law 552 (.istore 15) 2 554 := ⟨at_552, rfl⟩
theorem o_L_law_554 : InsA md_L_law 554 (.iload 14) 2 556 := ⟨at_554, rfl⟩
theorem o_L_law_556 : InsA md_L_law 556 (.iload 15) 2 558 := ⟨at_556, rfl⟩
theorem o_L_law_558 : InsA md_L_law 558 (.iload 8) 2 560 := ⟨at_558, rfl⟩
theorem o_L_law_560 : InsA md_L_law 560 (.imul) 1 561 := ⟨at_560, rfl⟩
theorem o_L_law_561 : InsB md_L_law 561 (.if_icmp .gt 18) 3 564 (18) 579 := ⟨at_561, rfl, by decide, by decide⟩
theorem o_L_law_564 : InsA md_L_law 564 (.iload 15) 2 566 := ⟨at_564, rfl⟩
theorem o_L_law_566 : InsA md_L_law 566 (.iconst 1) 1 567 := ⟨at_566, rfl⟩
theorem o_L_law_567 : InsA md_L_law 567 (.iadd) 1 568 := ⟨at_567, rfl⟩
theorem o_L_law_568 : InsA md_L_law 568 (.iload 8) 2 570 := ⟨at_568, rfl⟩
theorem o_L_law_570 : InsA md_L_law 570 (.imul) 1 571 := ⟨at_570, rfl⟩
theorem o_L_law_571 : InsA md_L_law 571 (.iload 14) 2 573 := ⟨at_571, rfl⟩
theorem o_L_law_573 : InsA md_L_law 573 (.iload 13) 2 575 := ⟨at_573, rfl⟩
theorem o_L_law_575 : InsA md_L_law 575 (.iadd) 1 576 := ⟨at_575, rfl⟩
theorem o_L_law_576 : InsB md_L_law 576 (.if_icmp .le 5) 3 579 (5) 581 := ⟨at_576, rfl, by decide, by decide⟩
theorem o_L_law_579 : InsA md_L_law 579 (.iconst 0) 1 580 := ⟨at_579, rfl⟩
theorem o_L_law_580 : InsA md_L_law 580 (.ireturn) 1 581 := ⟨at_580, rfl⟩
theorem o_L_law_581 : InsA md_L_law 581 (.iinc 9 1) 3 584 := ⟨at_581, rfl⟩
theorem o_L_law_584 : InsB md_L_law 584 (.goto (-182)) 3 587 (-182) 402 := ⟨at_584, rfl, by decide, by decide⟩
theorem o_L_law_587 : InsA md_L_law 587 (.iconst 0) 1 588 := ⟨at_587, rfl⟩
theorem o_L_law_588 : InsA md_L_law 588 (.istore 9) 2 590 := ⟨at_588, rfl⟩
theorem o_L_law_590 : InsA md_L_law 590 (.iload 9) 2 592 := ⟨at_590, rfl⟩
theorem o_L_law_592 : InsA md_L_law 592 (.iload_n 2) 1 593 := ⟨at_592, rfl⟩
theorem o_L_law_593 : InsB md_L_law 593 (.if_icmp .ge 206) 3 596 (206) 799 := ⟨at_593, rfl, by decide, by decide⟩
theorem o_L_law_596 : InsA md_L_law 596 (.aload_n 0) 1 597 := ⟨at_596, rfl⟩
theorem o_L_law_597 : InsA md_L_law 597 (.iconst 1) 1 598 := ⟨at_597, rfl⟩
theorem o_L_law_598 : InsA md_L_law 598 (.iconst 3) 1 599 := ⟨at_598, rfl⟩
theorem o_L_law_599 : InsA md_L_law 599 (.iload 9) 2 601 := ⟨at_599, rfl⟩
theorem o_L_law_601 : InsA md_L_law 601 (.imul) 1 602 := ⟨at_601, rfl⟩
theorem o_L_law_602 : InsA md_L_law 602 (.iadd) 1 603 := ⟨at_602, rfl⟩
theorem o_L_law_603 : InsA md_L_law 603 (.invokestatic 12) 3 606 := ⟨at_603, rfl⟩
theorem o_L_law_606 : InsA md_L_law 606 (.invokestatic 18) 3 609 := ⟨at_606, rfl⟩
theorem o_L_law_609 : InsA md_L_law 609 (.istore 10) 2 611 := ⟨at_609, rfl⟩
theorem o_L_law_611 : InsA md_L_law 611 (.iload 10) 2 613 := ⟨at_611, rfl⟩
theorem o_L_law_613 : InsA md_L_law 613 (.aload_n 0) 1 614 := ⟨at_613, rfl⟩
theorem o_L_law_614 : InsA md_L_law 614 (.iconst 2) 1 615 := ⟨at_614, rfl⟩
theorem o_L_law_615 : InsA md_L_law 615 (.iconst 3) 1 616 := ⟨at_615, rfl⟩
theorem o_L_law_616 : InsA md_L_law 616 (.iload 9) 2 618 := ⟨at_616, rfl⟩
theorem o_L_law_618 : InsA md_L_law 618 (.imul) 1 619 := ⟨at_618, rfl⟩
theorem o_L_law_619 : InsA md_L_law 619 (.iadd) 1 620 := ⟨at_619, rfl⟩
theorem o_L_law_620 : InsA md_L_law 620 (.invokestatic 12) 3 623 := ⟨at_620, rfl⟩
theorem o_L_law_623 : InsA md_L_law 623 (.invokestatic 22) 3 626 := ⟨at_623, rfl⟩
theorem o_L_law_626 : InsA md_L_law 626 (.istore 11) 2 628 := ⟨at_626, rfl⟩
theorem o_L_law_628 : InsA md_L_law 628 (.iload 11) 2 630 := ⟨at_628, rfl⟩
theorem o_L_law_630 : InsA md_L_law 630 (.iload_n 2) 1 631 := ⟨at_630, rfl⟩
theorem o_L_law_631 : InsA md_L_law 631 (.aload_n 0) 1 632 := ⟨at_631, rfl⟩
theorem o_L_law_632 : InsA md_L_law 632 (.iconst 3) 1 633 := ⟨at_632, rfl⟩
theorem o_L_law_633 : InsA md_L_law 633 (.iconst 3) 1 634 := ⟨at_633, rfl⟩
theorem o_L_law_634 : InsA md_L_law 634 (.iload 9) 2 636 := ⟨at_634, rfl⟩
theorem o_L_law_636 : InsA md_L_law 636 (.imul) 1 637 := ⟨at_636, rfl⟩
theorem o_L_law_637 : InsA md_L_law 637 (.iadd) 1 638 := ⟨at_637, rfl⟩
theorem o_L_law_638 : InsA md_L_law 638 (.invokestatic 12) 3 641 := ⟨at_638, rfl⟩
theorem o_L_law_641 : InsA md_L_law 641 (.invokestatic 26) 3 644 := ⟨at_641, rfl⟩
theorem o_L_law_644 : InsA md_L_law 644 (.istore 12) 2 646 := ⟨at_644, rfl⟩
theorem o_L_law_646 : InsA md_L_law 646 (.iconst 0) 1 647 := ⟨at_646, rfl⟩
theorem o_L_law_647 : InsA md_L_law 647 (.istore 13) 2 649 := ⟨at_647, rfl⟩
theorem o_L_law_649 : InsA md_L_law 649 (.iload 13) 2 651 := ⟨at_649, rfl⟩
theorem o_L_law_651 : InsA md_L_law 651 (.iload_n 3) 1 652 := ⟨at_651, rfl⟩
theorem o_L_law_652 : InsA md_L_law 652 (.iload 10) 2 654 := ⟨at_652, rfl⟩
theorem o_L_law_654 : InsA md_L_law 654 (.idiv) 1 655 := ⟨at_654, rfl⟩
theorem o_L_law_655 : InsB md_L_law 655 (.if_icmp .ge 138) 3 658 (138) 793 := ⟨at_655, rfl, by decide, by decide⟩
theorem o_L_law_658 : InsA md_L_law 658 (.iconst 0) 1 659 := ⟨at_658, rfl⟩
theorem o_L_law_659 : InsA md_L_law 659 (.istore 14) 2 661 := ⟨at_659, rfl⟩
theorem o_L_law_661 : InsA md_L_law 661 (.iconst 0) 1 662 := ⟨at_661, rfl⟩
theorem o_L_law_662 : InsA md_L_law 662 (.istore 15) 2 664 := ⟨at_662, rfl⟩
theorem o_L_law_664 : InsA md_L_law 664 (.iconst 0) 1 665 := ⟨at_664, rfl⟩
theorem o_L_law_665 : InsA md_L_law 665 (.istore 16) 2 667 := ⟨at_665, rfl⟩
theorem o_L_law_667 : InsA md_L_law 667 (.iload 16) 2 669 := ⟨at_667, rfl⟩
theorem o_L_law_669 : InsA md_L_law 669 (.iload_n 3) 1 670 := ⟨at_669, rfl⟩
theorem o_L_law_670 : InsA md_L_law 670 (.iload 8) 2 672 := ⟨at_670, rfl⟩
theorem o_L_law_672 : InsA md_L_law 672 (.idiv) 1 673 := ⟨at_672, rfl⟩
theorem o_L_law_673 : InsB md_L_law 673 (.if_icmp .ge 73) 3 676 (73) 746 := ⟨at_673, rfl, by decide, by decide⟩
theorem o_L_law_676 : InsA md_L_law 676 (.iconst 0) 1 677 := ⟨at_676, rfl⟩
theorem o_L_law_677 : InsA md_L_law 677 (.istore 17) 2 679 := ⟨at_677, rfl⟩
theorem o_L_law_679 : InsA md_L_law 679 (.iload 16) 2 681 := ⟨at_679, rfl⟩
theorem o_L_law_681 : InsA md_L_law 681 (.iload 8) 2 683 := ⟨at_681, rfl⟩
theorem o_L_law_683 : InsA md_L_law 683 (.imul) 1 684 := ⟨at_683, rfl⟩
theorem o_L_law_684 : InsA md_L_law 684 (.istore 18) 2 686 := ⟨at_684, rfl⟩
theorem o_L_law_686 : InsA md_L_law 686 (.iload 18) 2 688 := ⟨at_686, rfl⟩
theorem o_L_law_688 : InsA md_L_law 688 (.iload 16) 2 690 := ⟨at_688, rfl⟩
theorem o_L_law_690 : InsA md_L_law 690 (.iconst 1) 1 691 := ⟨at_690, rfl⟩
theorem o_L_law_691 : InsA md_L_law 691 (.iadd) 1 692 := ⟨at_691, rfl⟩
theorem o_L_law_692 : InsA md_L_law 692 (.iload 8) 2 694 := ⟨at_692, rfl⟩
theorem o_L_law_694 : InsA md_L_law 694 (.imul) 1 695 := ⟨at_694, rfl⟩
theorem o_L_law_695 : InsB md_L_law 695 (.if_icmp .ge 37) 3 698 (37) 732 := ⟨at_695, rfl, by decide, by decide⟩
theorem o_L_law_698 : InsA md_L_law 698 (.aload_n 1) 1 699 := ⟨at_698, rfl⟩
theorem o_L_law_699 : InsA md_L_law 699 (.iload 18) 2 701 := ⟨at_699, rfl⟩
theorem o_L_law_701 : InsA md_L_law 701 (.invokevirtual 55) 3 704 := ⟨at_701, rfl⟩
theorem o_L_law_704 : InsA md_L_law 704 (.iload 9) 2 706 := ⟨at_704, rfl⟩
theorem o_L_law_706 : InsB md_L_law 706 (.if_icmp .ne 20) 3 709 (20) 726 := ⟨at_706, rfl, by decide, by decide⟩
theorem o_L_law_709 : InsA md_L_law 709 (.aload_n 1) 1 710 := ⟨at_709, rfl⟩
theorem o_L_law_710 : InsA md_L_law 710 (.iload 18) 2 712 := ⟨at_710, rfl⟩
theorem o_L_law_712 : InsA md_L_law 712 (.invokevirtual 58) 3 715 := ⟨at_712, rfl⟩
theorem o_L_law_715 : InsA md_L_law 715 (.iload 13) 2 717 := ⟨at_715, rfl⟩
theorem o_L_law_717 : InsB md_L_law 717 (.if_icmp .ne 9) 3 720 (9) 726 := ⟨at_717, rfl, by decide, by decide⟩
theorem o_L_law_720 : InsA md_L_law 720 (.iinc 14 1) 3 723 := ⟨at_720, rfl⟩
theorem o_L_law_723 : InsA md_L_law 723 (.iconst 1) 1 724 := ⟨at_723, rfl⟩
theorem o_L_law_724 : InsA md_L_law 724 (.istore 17) 2 726 := ⟨at_724, rfl⟩
theorem o_L_law_726 : InsA md_L_law 726 (.iinc 18 1) 3 729 := ⟨at_726, rfl⟩
theorem o_L_law_729 : InsB md_L_law 729 (.goto (-43)) 3 732 (-43) 686 := ⟨at_729, rfl, by decide, by decide⟩
theorem o_L_law_732 : InsA md_L_law 732 (.iload 17) 2 734 := ⟨at_732, rfl⟩
theorem o_L_law_734 : InsB md_L_law 734 (.ifCond .eq 6) 3 737 (6) 740 := ⟨at_734, rfl, by decide, by decide⟩
theorem o_L_law_737 : InsA md_L_law 737 (.iinc 15 1) 3 740 := ⟨at_737, rfl⟩
theorem o_L_law_740 : InsA md_L_law 740 (.iinc 16 1) 3 743 := ⟨at_740, rfl⟩
theorem o_L_law_743 : InsB md_L_law 743 (.goto (-76)) 3 746 (-76) 667 := ⟨at_743, rfl, by decide, by decide⟩
theorem o_L_law_746 : InsA md_L_law 746 (.iload 14) 2 748 := ⟨at_746, rfl⟩
theorem o_L_law_748 : InsA md_L_law 748 (.iload 12) 2 750 := ⟨at_748, rfl⟩
theorem o_L_law_750 : InsB md_L_law 750 (.if_icmp .eq 5) 3 753 (5) 755 := ⟨at_750, rfl, by decide, by decide⟩
theorem o_L_law_753 : InsA md_L_law 753 (.iconst 0) 1 754 := ⟨at_753, rfl⟩
theorem o_L_law_754 : InsA md_L_law 754 (.ireturn) 1 755 := ⟨at_754, rfl⟩
theorem o_L_law_755 : InsA md_L_law 755 (.aload_n 1) 1 756 := ⟨at_755, rfl⟩
theorem o_L_law_756 : InsA md_L_law 756 (.iload 9) 2 758 := ⟨at_756, rfl⟩
theorem o_L_law_758 : InsA md_L_law 758 (.iload 13) 2 760 := ⟨at_758, rfl⟩
theorem o_L_law_760 : InsA md_L_law 760 (.invokevirtual 61) 3 763 := ⟨at_760, rfl⟩
theorem o_L_law_763 : InsA md_L_law 763 (.iload 15) 2 765 := ⟨at_763, rfl⟩
theorem o_L_law_765 : InsB md_L_law 765 (.if_icmp .eq 5) 3 768 (5) 770 := ⟨at_765, rfl, by decide, by decide⟩
theorem o_L_law_768 : InsA md_L_law 768 (.iconst 0) 1 769 := ⟨at_768, rfl⟩
theorem o_L_law_769 : InsA md_L_law 769 (.ireturn) 1 770 := ⟨at_769, rfl⟩
theorem o_L_law_770 : InsA md_L_law 770 (.iload 15) 2 772 := ⟨at_770, rfl⟩
theorem o_L_law_772 : InsA md_L_law 772 (.iload 12) 2 774 := ⟨at_772, rfl⟩
theorem o_L_law_774 : InsA md_L_law 774 (.iload 8) 2 776 := ⟨at_774, rfl⟩
theorem o_L_law_776 : InsA md_L_law 776 (.iadd) 1 777 := ⟨at_776, rfl⟩
theorem o_L_law_777 : InsA md_L_law 777 (.iconst 1) 1 778 := ⟨at_777, rfl⟩
theorem o_L_law_778 : InsA md_L_law 778 (.isub) 1 779 := ⟨at_778, rfl⟩
theorem o_L_law_779 : InsA md_L_law 779 (.iload 8) 2 781 := ⟨at_779, rfl⟩
theorem o_L_law_781 : InsA md_L_law 781 (.idiv) 1 782 := ⟨at_781, rfl⟩
theorem o_L_law_782 : InsB md_L_law 782 (.if_icmp .ge 5) 3 785 (5) 787 := ⟨at_782, rfl, by decide, by decide⟩
theorem o_L_law_785 : InsA md_L_law 785 (.iconst 0) 1 786 := ⟨at_785, rfl⟩
theorem o_L_law_786 : InsA md_L_law 786 (.ireturn) 1 787 := ⟨at_786, rfl⟩
theorem o_L_law_787 : InsA md_L_law 787 (.iinc 13 1) 3 790 := ⟨at_787, rfl⟩
theorem o_L_law_790 : InsB md_L_law 790 (.goto (-141)) 3 793 (-141) 649 := ⟨at_790, rfl, by decide, by decide⟩
theorem o_L_law_793 : InsA md_L_law 793 (.iinc 9 1) 3 796 := ⟨at_793, rfl⟩
theorem o_L_law_796 : InsB md_L_law 796 (.goto (-206)) 3 799 (-206) 590 := ⟨at_796, rfl, by decide, by decide⟩
theorem o_L_law_799 : InsA md_L_law 799 (.aload_n 1) 1 800 := ⟨at_799, rfl⟩
theorem o_L_law_800 : InsA md_L_law 800 (.aload_n 0) 1 801 := ⟨at_800, rfl⟩
theorem o_L_law_801 : InsA md_L_law 801 (.bipush 14) 2 803 := ⟨at_801, rfl⟩
theorem o_L_law_803 : InsA md_L_law 803 (.iconst 2) 1 804 := ⟨at_803, rfl⟩
theorem o_L_law_804 : InsA md_L_law 804 (.iload 4) 2 806 := ⟨at_804, rfl⟩
theorem o_L_law_806 : InsA md_L_law 806 (.imul) 1 807 := ⟨at_806, rfl⟩
theorem o_L_law_807 : InsA md_L_law 807 (.iadd) 1 808 := ⟨at_807, rfl⟩
theorem o_L_law_808 : InsA md_L_law 808 (.invokestatic 12) 3 811 := ⟨at_808, rfl⟩
theorem o_L_law_811 : InsA md_L_law 811 (.bipush 63) 2 813 := ⟨at_811, rfl⟩
theorem o_L_law_813 : InsA md_L_law 813 (.iand) 1 814 := ⟨at_813, rfl⟩
theorem o_L_law_814 : InsA md_L_law 814 (.invokevirtual 46) 3 817 := ⟨at_814, rfl⟩
theorem o_L_law_817 : InsA md_L_law 817 (.pop) 1 818 := ⟨at_817, rfl⟩
theorem o_L_law_818 : InsA md_L_law 818 (.iinc 4 1) 3 821 := ⟨at_818, rfl⟩
theorem o_L_law_821 : InsB md_L_law 821 (.goto (-685)) 3 824 (-685) 136 := ⟨at_821, rfl, by decide, by decide⟩
theorem o_L_law_824 : InsA md_L_law 824 (.iconst 1) 1 825 := ⟨at_824, rfl⟩
theorem o_L_law_825 : InsA md_L_law 825 (.ireturn) 1 826 := ⟨at_825, rfl⟩
theorem gd {c : Prop} [Decidable c] {α : Type} {x : Option α} {r : α} (h : (if c then x else none) = some r) : c ∧ x = some r := by
  by_cases q : c
  · rw [if_pos q] at h; exact ⟨q, h⟩
  · rw [if_neg q] at h; cases h
theorem ifp {c : Prop} [Decidable c] {α : Type} {x y z : α} (q : c) (h : (if c then x else y) = z) : x = z := by rw [if_pos q] at h; exact h
theorem ifn {c : Prop} [Decidable c] {α : Type} {x y z : α} (q : ¬ c) (h : (if c then x else y) = z) : y = z := by rw [if_neg q] at h; exact h
theorem getD_some {α : Type} {o : Option α} {d r : α} (h : o = some r) : o.getD d = r := by rw [h]; rfl
set_option maxRecDepth 65536 in
set_option maxHeartbeats 4000000 in
theorem wp_clamp {l : Launch} {Z : State} {a0 : Array Value} (H : OK Z a0) (F : Nat → Int32) (G : Nat → Int64) (A : Nat → Int32 → Int32) (B : Nat → Int32 → Int64) (p1 : Int32) (p2 : Int32) (p3 : Int32) {Q : Option Value → WO → Prop} (h3 : ¬ p1 < p2 → ¬ p3 < p1 → Q (some (.int p1)) (7, F, G, A, B)) (h4 : ¬ p1 < p2 → p3 < p1 → Q (some (.int p3)) (7, F, G, A, B)) (h5 : p1 < p2 → Q (some (.int p2)) (7, F, G, A, B)) :
    Wk l Z (MoC Z cdC) md_clamp 0 [.val (.ref 0), .val (.int p1), .val (.int p2), .val (.int p3)] [] (7, F, G, A, B) 0 0 Q := by
  refine Wk.iloadN o_clamp_0 rfl ?_
  refine Wk.iloadN o_clamp_1 rfl ?_
  refine Wk.icmp_ge o_clamp_2 (fun q1 => ?_) (fun q1 => ?_)
  · refine Wk.iloadN o_clamp_7 rfl ?_
    refine Wk.iloadN o_clamp_8 rfl ?_
    refine Wk.icmp_le o_clamp_9 (fun q2 => ?_) (fun q2 => ?_)
    · refine Wk.iloadN o_clamp_14 rfl ?_
      exact Wk.ireturn mrC rfl o_clamp_15 rfl (by decide) (by decide) (h3 q1 q2)
    · refine Wk.iloadN o_clamp_12 rfl ?_
      exact Wk.ireturn mrC rfl o_clamp_13 rfl (by decide) (by decide) (h4 q1 q2)
  · refine Wk.iloadN o_clamp_5 rfl ?_
    exact Wk.ireturn mrC rfl o_clamp_6 rfl (by decide) (by decide) (h5 q1)

def f_clamp (p1 : Int32) (p2 : Int32) (p3 : Int32) : Int32 := (if p1 < p2 then p2 else (if p3 < p1 then p3 else p1))
theorem e_clamp (p1 : Int32) (p2 : Int32) (p3 : Int32) : f_clamp p1 p2 p3 = (if p1 < p2 then p2 else (if p3 < p1 then p3 else p1)) := Eq.trans rfl rfl
theorem run_clamp {l : Launch} {Z : State} {a0 : Array Value} (H : OK Z a0) (F : Nat → Int32) (G : Nat → Int64) (A : Nat → Int32 → Int32) (B : Nat → Int32 → Int64) (p1 : Int32) (p2 : Int32) (p3 : Int32) :
    Wk l Z (MoC Z cdC) md_clamp 0 [.val (.ref 0), .val (.int p1), .val (.int p2), .val (.int p3)] [] (7, F, G, A, B) 0 0 (fun v w' => v = some (.int (f_clamp p1 p2 p3)) ∧ w' = (7, F, G, A, B)) :=
  wp_clamp H F G A B p1 p2 p3 (fun q1 q2 => ⟨by simp only [e_clamp, if_neg q1, if_neg q2], rfl⟩) (fun q1 q2 => ⟨by simp only [e_clamp, if_neg q1, if_pos q2], rfl⟩) (fun q1 => ⟨by simp only [e_clamp, if_pos q1], rfl⟩)
set_option maxRecDepth 65536 in
set_option maxHeartbeats 4000000 in
theorem wp_init {l : Launch} {Z : State} {a0 : Array Value} (H : OK Z a0) (p1 : Int32) (p2 : Int32) {Q : Option Value → WO → Prop} (h1 : Q none (7, (ups (ups (ups (ups (ups (ups (ups (ups (ups (fun _ => 0) 0 (f_clamp p1 (1 : Int32) (8 : Int32))) 1 (f_clamp p2 (1 : Int32) (128 : Int32))) 2 (0 : Int32)) 3 (0 : Int32)) 4 (0 : Int32)) 5 (0 : Int32)) 6 (-1 : Int32)) 7 (0 : Int32)) 8 (0 : Int32)), (fun _ => 0), (fun _ _ => 0), (fun _ _ => 0))) :
    Wk l Z (MoC Z cdC) md_init 0 [.val (.ref 0), .val (.int p1), .val (.int p2)] [] (0, (fun _ => 0), (fun _ => 0), (fun _ _ => 0), (fun _ _ => 0)) 0 0 Q := by
  refine Wk.aloadN o_init_0 rfl ?_
  refine Wk.initO (H.w 6 rfl) (H.w 7 rfl) (H.w 8 rfl) o_init_1 rfl (by decide) (by decide) ?_
  refine Wk.aloadN o_init_4 rfl ?_
  refine Wk.bipush o_init_5 (z := (8 : Int32)) (by decide) ?_
  refine Wk.newA (coC H) (aty := .int) rfl (wa_int H) (mA_per) (wf_per H) (Or.inr ⟨wy_per H, rfl⟩) o_init_7 o_init_9 rfl rfl (k' := 1) rfl (cu' := 1) rfl (su' := 8) rfl (by decide) (by decide) (by decide) ?_
  refine Wk.aloadN o_init_12 rfl ?_
  refine Wk.bipush o_init_13 (z := (8 : Int32)) (by decide) ?_
  refine Wk.newA (coC H) (aty := .int) rfl (wa_int H) (mA_exe) (wf_exe H) (Or.inr ⟨wy_exe H, rfl⟩) o_init_15 o_init_17 rfl rfl (k' := 2) rfl (cu' := 2) rfl (su' := 16) rfl (by decide) (by decide) (by decide) ?_
  refine Wk.aloadN o_init_20 rfl ?_
  refine Wk.bipush o_init_21 (z := (8 : Int32)) (by decide) ?_
  refine Wk.newA (coC H) (aty := .int) rfl (wa_int H) (mA_dl) (wf_dl H) (Or.inr ⟨wy_dl H, rfl⟩) o_init_23 o_init_25 rfl rfl (k' := 3) rfl (cu' := 3) rfl (su' := 24) rfl (by decide) (by decide) (by decide) ?_
  refine Wk.aloadN o_init_28 rfl ?_
  refine Wk.bipush o_init_29 (z := (8 : Int32)) (by decide) ?_
  refine Wk.newA (coC H) (aty := .int) rfl (wa_int H) (mA_runCnt) (wf_runCnt H) (Or.inr ⟨wy_runCnt H, rfl⟩) o_init_31 o_init_33 rfl rfl (k' := 4) rfl (cu' := 4) rfl (su' := 32) rfl (by decide) (by decide) (by decide) ?_
  refine Wk.aloadN o_init_36 rfl ?_
  refine Wk.sipush o_init_37 (z := (128 : Int32)) (by decide) ?_
  refine Wk.newA (coC H) (aty := .int) rfl (wa_int H) (mA_tickTask) (wf_tickTask H) (Or.inr ⟨wy_tickTask H, rfl⟩) o_init_40 o_init_42 rfl rfl (k' := 5) rfl (cu' := 5) rfl (su' := 160) rfl (by decide) (by decide) (by decide) ?_
  refine Wk.aloadN o_init_45 rfl ?_
  refine Wk.sipush o_init_46 (z := (128 : Int32)) (by decide) ?_
  refine Wk.newA (coC H) (aty := .int) rfl (wa_int H) (mA_tickJob) (wf_tickJob H) (Or.inr ⟨wy_tickJob H, rfl⟩) o_init_49 o_init_51 rfl rfl (k' := 6) rfl (cu' := 6) rfl (su' := 288) rfl (by decide) (by decide) (by decide) ?_
  refine Wk.aloadN o_init_54 rfl ?_
  refine Wk.sipush o_init_55 (z := (1024 : Int32)) (by decide) ?_
  refine Wk.newA (coC H) (aty := .int) rfl (wa_int H) (mA_rem) (wf_rem H) (Or.inr ⟨wy_rem H, rfl⟩) o_init_58 o_init_60 rfl rfl (k' := 7) rfl (cu' := 7) rfl (su' := 1312) rfl (by decide) (by decide) (by decide) ?_
  refine Wk.aloadN o_init_63 rfl ?_
  refine Wk.aloadN o_init_64 rfl ?_
  refine Wk.iloadN o_init_65 rfl ?_
  refine Wk.iconst o_init_66 (z := (1 : Int32)) (by decide) ?_
  refine Wk.bipush o_init_67 (z := (8 : Int32)) (by decide) ?_
  refine Wk.callF [.int p1, .int (1 : Int32), .int (8 : Int32)] [.ref 0] (H.w 24 rfl) (cv_clamp H) o_init_69 (run_clamp H (fun _ => 0) (fun _ => 0) (fun _ _ => 0) (fun _ _ => 0) p1 (1 : Int32) (8 : Int32)) (wt := 1) (cu' := 7) (su' := 1312) (by decide) rfl rfl rfl rfl rfl rfl rfl ?_
  refine Wk.putI (coC H) (mI_maxTasks) (wf_maxTasks H) (Or.inl (wy_maxTasks H)) o_init_72 ?_
  refine Wk.aloadN o_init_75 rfl ?_
  refine Wk.aloadN o_init_76 rfl ?_
  refine Wk.iloadN o_init_77 rfl ?_
  refine Wk.iconst o_init_78 (z := (1 : Int32)) (by decide) ?_
  refine Wk.sipush o_init_79 (z := (128 : Int32)) (by decide) ?_
  refine Wk.callF [.int p2, .int (1 : Int32), .int (128 : Int32)] [.ref 0] (H.w 24 rfl) (cv_clamp H) o_init_82 (run_clamp H (ups (fun _ => 0) 0 (f_clamp p1 (1 : Int32) (8 : Int32))) (fun _ => 0) (fun _ _ => 0) (fun _ _ => 0) p2 (1 : Int32) (128 : Int32)) (wt := 1) (cu' := 7) (su' := 1312) (by decide) rfl rfl rfl rfl rfl rfl rfl ?_
  refine Wk.putI (coC H) (mI_maxHyper) (wf_maxHyper H) (Or.inl (wy_maxHyper H)) o_init_85 ?_
  refine Wk.aloadN o_init_88 rfl ?_
  refine Wk.iconst o_init_89 (z := (0 : Int32)) (by decide) ?_
  refine Wk.putI (coC H) (mI_count) (wf_count H) (Or.inl (wy_count H)) o_init_90 ?_
  refine Wk.aloadN o_init_93 rfl ?_
  refine Wk.iconst o_init_94 (z := (0 : Int32)) (by decide) ?_
  refine Wk.putI (coC H) (mI_hyper) (wf_hyper H) (Or.inl (wy_hyper H)) o_init_95 ?_
  refine Wk.aloadN o_init_98 rfl ?_
  refine Wk.iconst o_init_99 (z := (0 : Int32)) (by decide) ?_
  refine Wk.putZ (coC H) (y := (0 : Int32)) (by decide) (mI_present) (wf_present H) (Or.inl (wy_present H)) o_init_100 ?_
  refine Wk.aloadN o_init_103 rfl ?_
  refine Wk.iconst o_init_104 (z := (0 : Int32)) (by decide) ?_
  refine Wk.putI (coC H) (mI_frame) (wf_frame H) (Or.inl (wy_frame H)) o_init_105 ?_
  refine Wk.aloadN o_init_108 rfl ?_
  refine Wk.iconst o_init_109 (z := (-1 : Int32)) (by decide) ?_
  refine Wk.putI (coC H) (mI_miss) (wf_miss H) (Or.inl (wy_miss H)) o_init_110 ?_
  refine Wk.aloadN o_init_113 rfl ?_
  refine Wk.iconst o_init_114 (z := (0 : Int32)) (by decide) ?_
  refine Wk.putI (coC H) (mI_now) (wf_now H) (Or.inl (wy_now H)) o_init_115 ?_
  refine Wk.aloadN o_init_118 rfl ?_
  refine Wk.iconst o_init_119 (z := (0 : Int32)) (by decide) ?_
  refine Wk.putI (coC H) (mI_pos) (wf_pos H) (Or.inl (wy_pos H)) o_init_120 ?_
  exact Wk.ret mrC rfl o_init_123 rfl (by decide) (by decide) h1

def F_init (p1 : Int32) (p2 : Int32) : Nat → Int32 := (ups (ups (ups (ups (ups (ups (ups (ups (ups (fun _ => 0) 0 (f_clamp p1 (1 : Int32) (8 : Int32))) 1 (f_clamp p2 (1 : Int32) (128 : Int32))) 2 (0 : Int32)) 3 (0 : Int32)) 4 (0 : Int32)) 5 (0 : Int32)) 6 (-1 : Int32)) 7 (0 : Int32)) 8 (0 : Int32))
theorem eF_init (p1 : Int32) (p2 : Int32) : F_init p1 p2 = (ups (ups (ups (ups (ups (ups (ups (ups (ups (fun _ => 0) 0 (f_clamp p1 (1 : Int32) (8 : Int32))) 1 (f_clamp p2 (1 : Int32) (128 : Int32))) 2 (0 : Int32)) 3 (0 : Int32)) 4 (0 : Int32)) 5 (0 : Int32)) 6 (-1 : Int32)) 7 (0 : Int32)) 8 (0 : Int32)) := Eq.trans rfl rfl
theorem F_init_0 (p1 : Int32) (p2 : Int32) : F_init p1 p2 0 = (f_clamp p1 (1 : Int32) (8 : Int32)) := by
  exact Eq.trans rfl rfl
theorem F_init_1 (p1 : Int32) (p2 : Int32) : F_init p1 p2 1 = (f_clamp p2 (1 : Int32) (128 : Int32)) := by
  exact Eq.trans rfl rfl
theorem F_init_2 (p1 : Int32) (p2 : Int32) : F_init p1 p2 2 = (0 : Int32) := by
  exact Eq.trans rfl rfl
theorem F_init_3 (p1 : Int32) (p2 : Int32) : F_init p1 p2 3 = (0 : Int32) := by
  exact Eq.trans rfl rfl
theorem F_init_4 (p1 : Int32) (p2 : Int32) : F_init p1 p2 4 = (0 : Int32) := by
  exact Eq.trans rfl rfl
theorem F_init_5 (p1 : Int32) (p2 : Int32) : F_init p1 p2 5 = (0 : Int32) := by
  exact Eq.trans rfl rfl
theorem F_init_6 (p1 : Int32) (p2 : Int32) : F_init p1 p2 6 = (-1 : Int32) := by
  exact Eq.trans rfl rfl
theorem F_init_7 (p1 : Int32) (p2 : Int32) : F_init p1 p2 7 = (0 : Int32) := by
  exact Eq.trans rfl rfl
theorem F_init_8 (p1 : Int32) (p2 : Int32) : F_init p1 p2 8 = (0 : Int32) := by
  exact Eq.trans rfl rfl
theorem run_init {l : Launch} {Z : State} {a0 : Array Value} (H : OK Z a0)  (p1 : Int32) (p2 : Int32) :
    Wk l Z (MoC Z cdC) md_init 0 [.val (.ref 0), .val (.int p1), .val (.int p2)] [] (0, (fun _ => 0), (fun _ => 0), (fun _ _ => 0), (fun _ _ => 0)) 0 0 (fun v w' => v = none ∧ w' = (7, (F_init p1 p2), (fun _ => 0), (fun _ _ => 0), (fun _ _ => 0))) :=
  wp_init H p1 p2 ⟨rfl, rfl⟩
set_option maxRecDepth 65536 in
set_option maxHeartbeats 4000000 in
theorem wp_L_cell {l : Launch} {Z : State} {a0 : Array Value} (H : OK Z a0) (sl : Int32) (sv : Int32 → Int32) (ws : List WO) (p1 : Int32) {Q : Option Value → WL → Prop} (s2 : p1 < sl → ¬ p1 < 0) (h4 : Q (some (.int (if p1 < sl then (sv p1) else (0 : Int32)))) (sl, sv, ws)) :
    Wk l Z (MoL Z cdC "CyclicExecutiveOwnLaw" true) md_L_cell 0 [.val (.ref 0), .val (.int p1)] [] (sl, sv, ws) 0 0 Q := by
  refine Wk.iloadN o_L_cell_0 rfl ?_
  refine Wk.aloadN o_L_cell_1 rfl ?_
  refine Wk.lenL o_L_cell_2 ?_
  have J3 : Wk l Z (MoL Z cdC "CyclicExecutiveOwnLaw" true) md_L_cell 13 [.val (.ref 0), .val (.int p1)] [.int (if p1 < sl then (sv p1) else (0 : Int32))] (sl, sv, ws) 0 0 Q := by
    exact Wk.ireturn mrL rfl o_L_cell_13 rfl (by decide) (by decide) h4
  refine Wk.icmp_ge o_L_cell_3 (fun q1 => ?_) (fun q1 => ?_)
  · refine Wk.iconst o_L_cell_12 (z := (0 : Int32)) (by decide) ?_
    first | (rw [show ((if p1 < sl then (sv p1) else (0 : Int32)) : Int32) = (0 : Int32) from if_neg q1] at J3; exact J3) | exact J3 | (simp only [if_neg q1] at J3 ⊢; exact J3)
  · refine Wk.aloadN o_L_cell_6 rfl ?_
    refine Wk.iloadN o_L_cell_7 rfl ?_
    refine Wk.ialoadL (s2 q1) q1 o_L_cell_8 ?_
    refine Wk.goto o_L_cell_9 ?_
    first | (rw [show ((if p1 < sl then (sv p1) else (0 : Int32)) : Int32) = (sv p1) from if_pos q1] at J3; exact J3) | exact J3 | (simp only [if_pos q1] at J3 ⊢; exact J3)
def f_L_cell (sl : Int32) (sv : Int32 → Int32) (p1 : Int32) : Int32 := (if p1 < sl then (sv p1) else (0 : Int32))
theorem e_L_cell (sl : Int32) (sv : Int32 → Int32) (p1 : Int32) : f_L_cell sl sv p1 = (if p1 < sl then (sv p1) else (0 : Int32)) := Eq.trans rfl rfl
theorem run_L_cell {l : Launch} {Z : State} {a0 : Array Value} (H : OK Z a0) (sl : Int32) (sv : Int32 → Int32) (ws : List WO) (p1 : Int32) (s2 : p1 < sl → ¬ p1 < 0) :
    Wk l Z (MoL Z cdC "CyclicExecutiveOwnLaw" true) md_L_cell 0 [.val (.ref 0), .val (.int p1)] [] (sl, sv, ws) 0 0 (fun v w2 => v = some (.int (f_L_cell sl sv p1)) ∧ w2 = (sl, sv, ws)) :=
  wp_L_cell H sl sv ws p1 s2 ⟨rfl, rfl⟩
set_option maxRecDepth 65536 in
set_option maxHeartbeats 4000000 in
theorem wp_L_period {l : Launch} {Z : State} {a0 : Array Value} (H : OK Z a0) (sl : Int32) (sv : Int32 → Int32) (ws : List WO) (p1 : Int32) {Q : Option Value → WL → Prop} (h6 : ¬ ((p1 &&& (32767 : Int32)) % (6 : Int32)) = 0 → ¬ ((p1 &&& (32767 : Int32)) % (6 : Int32)) = (1 : Int32) → ¬ ((p1 &&& (32767 : Int32)) % (6 : Int32)) = (2 : Int32) → ¬ ((p1 &&& (32767 : Int32)) % (6 : Int32)) = (3 : Int32) → ¬ ((p1 &&& (32767 : Int32)) % (6 : Int32)) = (4 : Int32) → Q (some (.int (12 : Int32))) (sl, sv, ws)) (h7 : ¬ ((p1 &&& (32767 : Int32)) % (6 : Int32)) = 0 → ¬ ((p1 &&& (32767 : Int32)) % (6 : Int32)) = (1 : Int32) → ¬ ((p1 &&& (32767 : Int32)) % (6 : Int32)) = (2 : Int32) → ¬ ((p1 &&& (32767 : Int32)) % (6 : Int32)) = (3 : Int32) → ((p1 &&& (32767 : Int32)) % (6 : Int32)) = (4 : Int32) → Q (some (.int (8 : Int32))) (sl, sv, ws)) (h8 : ¬ ((p1 &&& (32767 : Int32)) % (6 : Int32)) = 0 → ¬ ((p1 &&& (32767 : Int32)) % (6 : Int32)) = (1 : Int32) → ¬ ((p1 &&& (32767 : Int32)) % (6 : Int32)) = (2 : Int32) → ((p1 &&& (32767 : Int32)) % (6 : Int32)) = (3 : Int32) → Q (some (.int (6 : Int32))) (sl, sv, ws)) (h9 : ¬ ((p1 &&& (32767 : Int32)) % (6 : Int32)) = 0 → ¬ ((p1 &&& (32767 : Int32)) % (6 : Int32)) = (1 : Int32) → ((p1 &&& (32767 : Int32)) % (6 : Int32)) = (2 : Int32) → Q (some (.int (4 : Int32))) (sl, sv, ws)) (h10 : ¬ ((p1 &&& (32767 : Int32)) % (6 : Int32)) = 0 → ((p1 &&& (32767 : Int32)) % (6 : Int32)) = (1 : Int32) → Q (some (.int (3 : Int32))) (sl, sv, ws)) (h11 : ((p1 &&& (32767 : Int32)) % (6 : Int32)) = 0 → Q (some (.int (2 : Int32))) (sl, sv, ws)) :
    Wk l Z (MoL Z cdC "CyclicExecutiveOwnLaw" true) md_L_period 0 [.val (.int p1), .unset] [] (sl, sv, ws) 0 0 Q := by
  refine Wk.iloadN o_L_period_0 rfl ?_
  refine Wk.sipush o_L_period_1 (z := (32767 : Int32)) (by decide) ?_
  refine Wk.iand o_L_period_4 ?_
  refine Wk.bipush o_L_period_5 (z := (6 : Int32)) (by decide) ?_
  refine Wk.irem o_L_period_7 (by decide) ?_
  refine Wk.istoreN o_L_period_8 (Or.inl rfl) (L' := [.val (.int p1), .val (.int ((p1 &&& (32767 : Int32)) % (6 : Int32)))]) rfl ?_
  refine Wk.iloadN o_L_period_9 rfl ?_
  refine Wk.if_ne o_L_period_10 (fun q1 => ?_) (fun q1 => ?_)
  · refine Wk.iloadN o_L_period_15 rfl ?_
    refine Wk.iconst o_L_period_16 (z := (1 : Int32)) (by decide) ?_
    refine Wk.icmp_ne o_L_period_17 (fun q2 => ?_) (fun q2 => ?_)
    · refine Wk.iloadN o_L_period_22 rfl ?_
      refine Wk.iconst o_L_period_23 (z := (2 : Int32)) (by decide) ?_
      refine Wk.icmp_ne o_L_period_24 (fun q3 => ?_) (fun q3 => ?_)
      · refine Wk.iloadN o_L_period_29 rfl ?_
        refine Wk.iconst o_L_period_30 (z := (3 : Int32)) (by decide) ?_
        refine Wk.icmp_ne o_L_period_31 (fun q4 => ?_) (fun q4 => ?_)
        · refine Wk.iloadN o_L_period_37 rfl ?_
          refine Wk.iconst o_L_period_38 (z := (4 : Int32)) (by decide) ?_
          refine Wk.icmp_ne o_L_period_39 (fun q5 => ?_) (fun q5 => ?_)
          · refine Wk.bipush o_L_period_45 (z := (12 : Int32)) (by decide) ?_
            exact Wk.ireturn mrL rfl o_L_period_47 rfl (by decide) (by decide) (h6 q1 q2 q3 q4 q5)
          · refine Wk.bipush o_L_period_42 (z := (8 : Int32)) (by decide) ?_
            exact Wk.ireturn mrL rfl o_L_period_44 rfl (by decide) (by decide) (h7 q1 q2 q3 q4 q5)
        · refine Wk.bipush o_L_period_34 (z := (6 : Int32)) (by decide) ?_
          exact Wk.ireturn mrL rfl o_L_period_36 rfl (by decide) (by decide) (h8 q1 q2 q3 q4)
      · refine Wk.iconst o_L_period_27 (z := (4 : Int32)) (by decide) ?_
        exact Wk.ireturn mrL rfl o_L_period_28 rfl (by decide) (by decide) (h9 q1 q2 q3)
    · refine Wk.iconst o_L_period_20 (z := (3 : Int32)) (by decide) ?_
      exact Wk.ireturn mrL rfl o_L_period_21 rfl (by decide) (by decide) (h10 q1 q2)
  · refine Wk.iconst o_L_period_13 (z := (2 : Int32)) (by decide) ?_
    exact Wk.ireturn mrL rfl o_L_period_14 rfl (by decide) (by decide) (h11 q1)
def f_L_period (p1 : Int32) : Int32 := (if ((p1 &&& (32767 : Int32)) % (6 : Int32)) = 0 then (2 : Int32) else (if ((p1 &&& (32767 : Int32)) % (6 : Int32)) = (1 : Int32) then (3 : Int32) else (if ((p1 &&& (32767 : Int32)) % (6 : Int32)) = (2 : Int32) then (4 : Int32) else (if ((p1 &&& (32767 : Int32)) % (6 : Int32)) = (3 : Int32) then (6 : Int32) else (if ((p1 &&& (32767 : Int32)) % (6 : Int32)) = (4 : Int32) then (8 : Int32) else (12 : Int32))))))
theorem e_L_period (p1 : Int32) : f_L_period p1 = (if ((p1 &&& (32767 : Int32)) % (6 : Int32)) = 0 then (2 : Int32) else (if ((p1 &&& (32767 : Int32)) % (6 : Int32)) = (1 : Int32) then (3 : Int32) else (if ((p1 &&& (32767 : Int32)) % (6 : Int32)) = (2 : Int32) then (4 : Int32) else (if ((p1 &&& (32767 : Int32)) % (6 : Int32)) = (3 : Int32) then (6 : Int32) else (if ((p1 &&& (32767 : Int32)) % (6 : Int32)) = (4 : Int32) then (8 : Int32) else (12 : Int32)))))) := Eq.trans rfl rfl
theorem run_L_period {l : Launch} {Z : State} {a0 : Array Value} (H : OK Z a0) (sl : Int32) (sv : Int32 → Int32) (ws : List WO) (p1 : Int32) :
    Wk l Z (MoL Z cdC "CyclicExecutiveOwnLaw" true) md_L_period 0 [.val (.int p1), .unset] [] (sl, sv, ws) 0 0 (fun v w2 => v = some (.int (f_L_period p1)) ∧ w2 = (sl, sv, ws)) :=
  wp_L_period H sl sv ws p1 (fun q1 q2 q3 q4 q5 => ⟨by simp only [e_L_period, if_neg q1, if_neg q2, if_neg q3, if_neg q4, if_neg q5], rfl⟩) (fun q1 q2 q3 q4 q5 => ⟨by simp only [e_L_period, if_neg q1, if_neg q2, if_neg q3, if_neg q4, if_pos q5], rfl⟩) (fun q1 q2 q3 q4 => ⟨by simp only [e_L_period, if_neg q1, if_neg q2, if_neg q3, if_pos q4], rfl⟩) (fun q1 q2 q3 => ⟨by simp only [e_L_period, if_neg q1, if_neg q2, if_pos q3], rfl⟩) (fun q1 q2 => ⟨by simp only [e_L_period, if_neg q1, if_pos q2], rfl⟩) (fun q1 => ⟨by simp only [e_L_period, if_pos q1], rfl⟩)
set_option maxRecDepth 65536 in
set_option maxHeartbeats 4000000 in
theorem wp_L_deadline {l : Launch} {Z : State} {a0 : Array Value} (H : OK Z a0) (sl : Int32) (sv : Int32 → Int32) (ws : List WO) (p1 : Int32) (p2 : Int32) {Q : Option Value → WL → Prop} (s1 : ¬ ((p1 + (1 : Int32)) / (2 : Int32)) = (0 : Int32)) (h2 : Q (some (.int (p1 - ((p2 &&& (32767 : Int32)) % ((p1 + (1 : Int32)) / (2 : Int32)))))) (sl, sv, ws)) :
    Wk l Z (MoL Z cdC "CyclicExecutiveOwnLaw" true) md_L_deadline 0 [.val (.int p1), .val (.int p2)] [] (sl, sv, ws) 0 0 Q := by
  refine Wk.iloadN o_L_deadline_0 rfl ?_
  refine Wk.iloadN o_L_deadline_1 rfl ?_
  refine Wk.sipush o_L_deadline_2 (z := (32767 : Int32)) (by decide) ?_
  refine Wk.iand o_L_deadline_5 ?_
  refine Wk.iloadN o_L_deadline_6 rfl ?_
  refine Wk.iconst o_L_deadline_7 (z := (1 : Int32)) (by decide) ?_
  refine Wk.iadd o_L_deadline_8 ?_
  refine Wk.iconst o_L_deadline_9 (z := (2 : Int32)) (by decide) ?_
  refine Wk.idiv o_L_deadline_10 (by decide) ?_
  refine Wk.irem o_L_deadline_11 s1 ?_
  refine Wk.isub o_L_deadline_12 ?_
  exact Wk.ireturn mrL rfl o_L_deadline_13 rfl (by decide) (by decide) h2
def f_L_deadline (p1 : Int32) (p2 : Int32) : Int32 := (p1 - ((p2 &&& (32767 : Int32)) % ((p1 + (1 : Int32)) / (2 : Int32))))
theorem e_L_deadline (p1 : Int32) (p2 : Int32) : f_L_deadline p1 p2 = (p1 - ((p2 &&& (32767 : Int32)) % ((p1 + (1 : Int32)) / (2 : Int32)))) := Eq.trans rfl rfl
theorem run_L_deadline {l : Launch} {Z : State} {a0 : Array Value} (H : OK Z a0) (sl : Int32) (sv : Int32 → Int32) (ws : List WO) (p1 : Int32) (p2 : Int32) (s1 : ¬ ((p1 + (1 : Int32)) / (2 : Int32)) = (0 : Int32)) :
    Wk l Z (MoL Z cdC "CyclicExecutiveOwnLaw" true) md_L_deadline 0 [.val (.int p1), .val (.int p2)] [] (sl, sv, ws) 0 0 (fun v w2 => v = some (.int (f_L_deadline p1 p2)) ∧ w2 = (sl, sv, ws)) :=
  wp_L_deadline H sl sv ws p1 p2 s1 ⟨rfl, rfl⟩
set_option maxRecDepth 65536 in
set_option maxHeartbeats 4000000 in
theorem wp_L_wcet {l : Launch} {Z : State} {a0 : Array Value} (H : OK Z a0) (sl : Int32) (sv : Int32 → Int32) (ws : List WO) (p1 : Int32) (p2 : Int32) (p3 : Int32) {Q : Option Value → WL → Prop} (s1 : ¬ p2 = (0 : Int32)) (s4 : ¬ (if (p1 / p2) < (1 : Int32) then (1 : Int32) else (p1 / p2)) = (0 : Int32)) (h5 : Q (some (.int ((1 : Int32) + ((p3 &&& (32767 : Int32)) % (if (p1 / p2) < (1 : Int32) then (1 : Int32) else (p1 / p2)))))) (sl, sv, ws)) :
    Wk l Z (MoL Z cdC "CyclicExecutiveOwnLaw" true) md_L_wcet 0 [.val (.int p1), .val (.int p2), .val (.int p3), .unset] [] (sl, sv, ws) 0 0 Q := by
  refine Wk.iloadN o_L_wcet_0 rfl ?_
  refine Wk.iloadN o_L_wcet_1 rfl ?_
  refine Wk.idiv o_L_wcet_2 s1 ?_
  refine Wk.istoreN o_L_wcet_3 (Or.inl rfl) (L' := [.val (.int p1), .val (.int p2), .val (.int p3), .val (.int (p1 / p2))]) rfl ?_
  refine Wk.iloadN o_L_wcet_4 rfl ?_
  refine Wk.iconst o_L_wcet_5 (z := (1 : Int32)) (by decide) ?_
  have J3 : Wk l Z (MoL Z cdC "CyclicExecutiveOwnLaw" true) md_L_wcet 11 [.val (.int p1), .val (.int p2), .val (.int p3), .val (.int (if (p1 / p2) < (1 : Int32) then (1 : Int32) else (p1 / p2)))] [] (sl, sv, ws) 0 0 Q := by
    refine Wk.iconst o_L_wcet_11 (z := (1 : Int32)) (by decide) ?_
    refine Wk.iloadN o_L_wcet_12 rfl ?_
    refine Wk.sipush o_L_wcet_13 (z := (32767 : Int32)) (by decide) ?_
    refine Wk.iand o_L_wcet_16 ?_
    refine Wk.iloadN o_L_wcet_17 rfl ?_
    refine Wk.irem o_L_wcet_18 s4 ?_
    refine Wk.iadd o_L_wcet_19 ?_
    exact Wk.ireturn mrL rfl o_L_wcet_20 rfl (by decide) (by decide) h5
  refine Wk.icmp_ge o_L_wcet_6 (fun q2 => ?_) (fun q2 => ?_)
  · first | (rw [show ((if (p1 / p2) < (1 : Int32) then (1 : Int32) else (p1 / p2)) : Int32) = (p1 / p2) from if_neg q2] at J3; exact J3) | exact J3 | (simp only [if_neg q2] at J3 ⊢; exact J3)
  · refine Wk.iconst o_L_wcet_9 (z := (1 : Int32)) (by decide) ?_
    refine Wk.istoreN o_L_wcet_10 (Or.inr ⟨_, rfl, rfl⟩) (L' := [.val (.int p1), .val (.int p2), .val (.int p3), .val (.int (1 : Int32))]) rfl ?_
    first | (rw [show ((if (p1 / p2) < (1 : Int32) then (1 : Int32) else (p1 / p2)) : Int32) = (1 : Int32) from if_pos q2] at J3; exact J3) | exact J3 | (simp only [if_pos q2] at J3 ⊢; exact J3)
def f_L_wcet (p1 : Int32) (p2 : Int32) (p3 : Int32) : Int32 := ((1 : Int32) + ((p3 &&& (32767 : Int32)) % (if (p1 / p2) < (1 : Int32) then (1 : Int32) else (p1 / p2))))
theorem e_L_wcet (p1 : Int32) (p2 : Int32) (p3 : Int32) : f_L_wcet p1 p2 p3 = ((1 : Int32) + ((p3 &&& (32767 : Int32)) % (if (p1 / p2) < (1 : Int32) then (1 : Int32) else (p1 / p2)))) := Eq.trans rfl rfl
theorem run_L_wcet {l : Launch} {Z : State} {a0 : Array Value} (H : OK Z a0) (sl : Int32) (sv : Int32 → Int32) (ws : List WO) (p1 : Int32) (p2 : Int32) (p3 : Int32) (s1 : ¬ p2 = (0 : Int32)) (s4 : ¬ (if (p1 / p2) < (1 : Int32) then (1 : Int32) else (p1 / p2)) = (0 : Int32)) :
    Wk l Z (MoL Z cdC "CyclicExecutiveOwnLaw" true) md_L_wcet 0 [.val (.int p1), .val (.int p2), .val (.int p3), .unset] [] (sl, sv, ws) 0 0 (fun v w2 => v = some (.int (f_L_wcet p1 p2 p3)) ∧ w2 = (sl, sv, ws)) :=
  wp_L_wcet H sl sv ws p1 p2 p3 s1 s4 ⟨rfl, rfl⟩
set_option maxRecDepth 65536 in
set_option maxHeartbeats 4000000 in
theorem wp_gcd {l : Launch} {Z : State} {a0 : Array Value} (H : OK Z a0) (F : Nat → Int32) (G : Nat → Int64) (A : Nat → Int32 → Int32) (B : Nat → Int32 → Int64) (p1 : Int32) (p2 : Int32) {Q : Option Value → WO → Prop} (h1 : Wk l Z (MoC Z cdC) md_gcd 8 [.val (.ref 0), .unset, .unset, .val (.int p1), .val (.int p2), .val (.int (0 : Int32)), .unset] [] (7, F, G, A, B) 0 0 Q) :
    Wk l Z (MoC Z cdC) md_gcd 0 [.val (.ref 0), .val (.int p1), .val (.int p2), .unset, .unset, .unset, .unset] [] (7, F, G, A, B) 0 0 Q := by
  refine Wk.iloadN o_gcd_0 rfl ?_
  refine Wk.istoreN o_gcd_1 (Or.inl rfl) (L' := [.val (.ref 0), .val (.int p1), .val (.int p2), .val (.int p1), .unset, .unset, .unset]) rfl ?_
  refine Wk.iloadN o_gcd_2 rfl ?_
  refine Wk.istore o_gcd_3 (Or.inl rfl) (L' := [.val (.ref 0), .val (.int p1), .val (.int p2), .val (.int p1), .val (.int p2), .unset, .unset]) rfl ?_
  refine Wk.iconst o_gcd_5 (z := (0 : Int32)) (by decide) ?_
  refine Wk.istore o_gcd_6 (Or.inl rfl) (L' := [.val (.ref 0), .val (.int p1), .val (.int p2), .val (.int p1), .val (.int p2), .val (.int (0 : Int32)), .unset]) rfl ?_
  refine Wk.forget [false, true, true, false, false, false, false] (L' := [.val (.ref 0), .unset, .unset, .val (.int p1), .val (.int p2), .val (.int (0 : Int32)), .unset]) rfl rfl ?_
  exact h1

set_option maxRecDepth 65536 in
set_option maxHeartbeats 4000000 in
theorem wp_gcd_8 {l : Launch} {Z : State} {a0 : Array Value} (H : OK Z a0) (F : Nat → Int32) (G : Nat → Int64) (A : Nat → Int32 → Int32) (B : Nat → Int32 → Int64) (v3 : Int32) (v4 : Int32) (v5 : Int32) {Q : Option Value → WO → Prop} (h2 : ¬ v5 < (64 : Int32) → Q (some (.int v3)) (7, F, G, A, B)) (h4 : v5 < (64 : Int32) → v4 = 0 → Q (some (.int v3)) (7, F, G, A, B)) (s5 : v5 < (64 : Int32) → ¬ v4 = 0 → ¬ v4 = (0 : Int32)) (h6 : v5 < (64 : Int32) → ¬ v4 = 0 → Wk l Z (MoC Z cdC) md_gcd 8 [.val (.ref 0), .unset, .unset, .val (.int v4), .val (.int (v3 % v4)), .val (.int (v5 + (1 : Int32))), .unset] [] (7, F, G, A, B) 0 0 Q) :
    Wk l Z (MoC Z cdC) md_gcd 8 [.val (.ref 0), .unset, .unset, .val (.int v3), .val (.int v4), .val (.int v5), .unset] [] (7, F, G, A, B) 0 0 Q := by
  refine Wk.iload o_gcd_8 rfl ?_
  refine Wk.bipush o_gcd_10 (z := (64 : Int32)) (by decide) ?_
  refine Wk.icmp_ge o_gcd_12 (fun q1 => ?_) (fun q1 => ?_)
  · refine Wk.iloadN o_gcd_39 rfl ?_
    exact Wk.ireturn mrC rfl o_gcd_40 rfl (by decide) (by decide) (h2 q1)
  · refine Wk.iload o_gcd_15 rfl ?_
    refine Wk.if_eq o_gcd_17 (fun q3 => ?_) (fun q3 => ?_)
    · refine Wk.iloadN o_gcd_39 rfl ?_
      exact Wk.ireturn mrC rfl o_gcd_40 rfl (by decide) (by decide) (h4 q1 q3)
    · refine Wk.iloadN o_gcd_20 rfl ?_
      refine Wk.iload o_gcd_21 rfl ?_
      refine Wk.irem o_gcd_23 (s5 q1 q3) ?_
      refine Wk.istore o_gcd_24 (Or.inl rfl) (L' := [.val (.ref 0), .unset, .unset, .val (.int v3), .val (.int v4), .val (.int v5), .val (.int (v3 % v4))]) rfl ?_
      refine Wk.iload o_gcd_26 rfl ?_
      refine Wk.istoreN o_gcd_28 (Or.inr ⟨_, rfl, rfl⟩) (L' := [.val (.ref 0), .unset, .unset, .val (.int v4), .val (.int v4), .val (.int v5), .val (.int (v3 % v4))]) rfl ?_
      refine Wk.iload o_gcd_29 rfl ?_
      refine Wk.istore o_gcd_31 (Or.inr ⟨_, rfl, rfl⟩) (L' := [.val (.ref 0), .unset, .unset, .val (.int v4), .val (.int (v3 % v4)), .val (.int v5), .val (.int (v3 % v4))]) rfl ?_
      refine Wk.iinc o_gcd_33 rfl (z := (v5 + (1 : Int32))) rfl (L' := [.val (.ref 0), .unset, .unset, .val (.int v4), .val (.int (v3 % v4)), .val (.int (v5 + (1 : Int32))), .val (.int (v3 % v4))]) rfl ?_
      refine Wk.goto o_gcd_36 ?_
      refine Wk.forget [false, false, false, false, false, false, true] (L' := [.val (.ref 0), .unset, .unset, .val (.int v4), .val (.int (v3 % v4)), .val (.int (v5 + (1 : Int32))), .unset]) rfl rfl ?_
      exact (h6 q1 q3)

theorem rt_gcd (F : Nat → Int32) (G : Nat → Int64) (A : Nat → Int32 → Int32) (B : Nat → Int32 → Int64) (v0 : Int32) (r : Int32) (e : v0 = r) : some (Value.int v0) = some (.int r) ∧ (7, F, G, A, B) = (7, F, G, A, B) := by subst e; exact ⟨rfl, rfl⟩
def lp_gcd : Nat → Nat → Int32 → Int32 → Int32 → Option (Int32)
  | 0, _, _, _, _ => none
  | n + 1, tag, v3, v4, v5 => if tag = 8 then (if v5 < (64 : Int32) then (if v4 = 0 then some (v3) else (if (¬ v4 = (0 : Int32)) then lp_gcd n 8 v4 (v3 % v4) (v5 + (1 : Int32)) else none)) else some (v3)) else none
theorem lp_gcd_z (tag : Nat) (v3 : Int32) (v4 : Int32) (v5 : Int32) : lp_gcd 0 tag v3 v4 v5  = none := Eq.trans rfl rfl
theorem lp_gcd_8 (n : Nat) (v3 : Int32) (v4 : Int32) (v5 : Int32) : lp_gcd (n + 1) 8 v3 v4 v5  = (if v5 < (64 : Int32) then (if v4 = 0 then some (v3) else (if (¬ v4 = (0 : Int32)) then lp_gcd n 8 v4 (v3 % v4) (v5 + (1 : Int32)) else none)) else some (v3)) := by
  rw [lp_gcd, if_pos rfl]
set_option maxRecDepth 65536 in
set_option maxHeartbeats 4000000 in
theorem lpw_gcd {l : Launch} {Z : State} {a0 : Array Value} (H : OK Z a0) (F : Nat → Int32) (G : Nat → Int64) (A : Nat → Int32 → Int32) (B : Nat → Int32 → Int64) : ∀ (n : Nat) (v3 : Int32) (v4 : Int32) (v5 : Int32) (r : Int32), (lp_gcd n 8 v3 v4 v5  = some r → Wk l Z (MoC Z cdC) md_gcd 8 [.val (.ref 0), .unset, .unset, .val (.int v3), .val (.int v4), .val (.int v5), .unset] [] (7, F, G, A, B) 0 0 (fun v w' => v = some (.int r) ∧ w' = (7, F, G, A, B))) := by
  intro n
  induction n with
  | zero =>
    intro v3 v4 v5  r
    exact (fun h => by rw [lp_gcd_z] at h; cases h)
  | succ n ih =>
    intro v3 v4 v5  r
    refine fun h => ?_
    · rw [lp_gcd_8] at h
      exact wp_gcd_8 H F G A B v3 v4 v5 (fun q1 => (rt_gcd _ _ _ _ _ r (Option.some.inj (ifn q1 h)))) (fun q1 q3 => (rt_gcd _ _ _ _ _ r (Option.some.inj (ifp q3 (ifp q1 h))))) (fun q1 q3 => (gd (ifn q3 (ifp q1 h))).1) (fun q1 q3 => (ih _ _ _ _) (gd (ifn q3 (ifp q1 h))).2)
def en_gcd (p1 : Int32) (p2 : Int32) : Option (Int32) := lp_gcd 20000 8 p1 p2 (0 : Int32)
theorem een_gcd (p1 : Int32) (p2 : Int32) : en_gcd  p1 p2 = lp_gcd 20000 8 p1 p2 (0 : Int32) := Eq.trans rfl rfl
def R_gcd (p1 : Int32) (p2 : Int32) : Int32 := (en_gcd  p1 p2).getD (0)
theorem eR_gcd (p1 : Int32) (p2 : Int32) : R_gcd  p1 p2 = (en_gcd  p1 p2).getD (0) := Eq.trans rfl rfl
set_option maxRecDepth 65536 in
set_option maxHeartbeats 4000000 in
theorem run_gcd {l : Launch} {Z : State} {a0 : Array Value} (H : OK Z a0) (F : Nat → Int32) (G : Nat → Int64) (A : Nat → Int32 → Int32) (B : Nat → Int32 → Int64) (p1 : Int32) (p2 : Int32) (e1 : (en_gcd  p1 p2).isSome = true) :
    Wk l Z (MoC Z cdC) md_gcd 0 [.val (.ref 0), .val (.int p1), .val (.int p2), .unset, .unset, .unset, .unset] [] (7, F, G, A, B) 0 0 (fun v w' => v = some (.int (R_gcd  p1 p2)) ∧ w' = (7, F, G, A, B)) := by
  obtain ⟨r, h⟩ := Option.isSome_iff_exists.mp e1
  have e : R_gcd  p1 p2 = r := (eR_gcd  p1 p2).trans (getD_some h)
  rw [e]
  rw [een_gcd] at h
  exact wp_gcd H F G A B p1 p2 ((lpw_gcd H F G A B _ _ _ _ _) h)
set_option maxRecDepth 65536 in
set_option maxHeartbeats 4000000 in
theorem wp_lcm {l : Launch} {Z : State} {a0 : Array Value} (H : OK Z a0) (F : Nat → Int32) (G : Nat → Int64) (A : Nat → Int32 → Int32) (B : Nat → Int32 → Int64) (p1 : Int32) (p2 : Int32) {Q : Option Value → WO → Prop} (s1 : (en_gcd  p1 p2).isSome = true) (s3 : ¬ (R_gcd  p1 p2) = 0 → ¬ (R_gcd  p1 p2) = (0 : Int32)) (h4 : ¬ (R_gcd  p1 p2) = 0 → Q (some (.int ((p1 / (R_gcd  p1 p2)) * p2))) (7, F, G, A, B)) (h5 : (R_gcd  p1 p2) = 0 → Q (some (.int (0 : Int32))) (7, F, G, A, B)) :
    Wk l Z (MoC Z cdC) md_lcm 0 [.val (.ref 0), .val (.int p1), .val (.int p2), .unset] [] (7, F, G, A, B) 0 0 Q := by
  refine Wk.aloadN o_lcm_0 rfl ?_
  refine Wk.iloadN o_lcm_1 rfl ?_
  refine Wk.iloadN o_lcm_2 rfl ?_
  refine Wk.callF [.int p1, .int p2] [] (H.w 68 rfl) (cv_gcd H) o_lcm_3 (run_gcd H F G A B p1 p2 s1) (wt := 0) (cu' := 0) (su' := 0) (by decide) rfl rfl rfl rfl rfl rfl rfl ?_
  refine Wk.istoreN o_lcm_6 (Or.inl rfl) (L' := [.val (.ref 0), .val (.int p1), .val (.int p2), .val (.int (R_gcd  p1 p2))]) rfl ?_
  refine Wk.iloadN o_lcm_7 rfl ?_
  refine Wk.if_ne o_lcm_8 (fun q2 => ?_) (fun q2 => ?_)
  · refine Wk.iloadN o_lcm_13 rfl ?_
    refine Wk.iloadN o_lcm_14 rfl ?_
    refine Wk.idiv o_lcm_15 (s3 q2) ?_
    refine Wk.iloadN o_lcm_16 rfl ?_
    refine Wk.imul o_lcm_17 ?_
    exact Wk.ireturn mrC rfl o_lcm_18 rfl (by decide) (by decide) (h4 q2)
  · refine Wk.iconst o_lcm_11 (z := (0 : Int32)) (by decide) ?_
    exact Wk.ireturn mrC rfl o_lcm_12 rfl (by decide) (by decide) (h5 q2)

theorem rt_lcm (F : Nat → Int32) (G : Nat → Int64) (A : Nat → Int32 → Int32) (B : Nat → Int32 → Int64) (v0 : Int32) (r : Int32) (e : v0 = r) : some (Value.int v0) = some (.int r) ∧ (7, F, G, A, B) = (7, F, G, A, B) := by subst e; exact ⟨rfl, rfl⟩
def en_lcm (p1 : Int32) (p2 : Int32) : Option (Int32) := (if ((en_gcd  p1 p2).isSome = true) then (if (R_gcd  p1 p2) = 0 then some ((0 : Int32)) else (if (¬ (R_gcd  p1 p2) = (0 : Int32)) then some (((p1 / (R_gcd  p1 p2)) * p2)) else none)) else none)
theorem een_lcm (p1 : Int32) (p2 : Int32) : en_lcm  p1 p2 = (if ((en_gcd  p1 p2).isSome = true) then (if (R_gcd  p1 p2) = 0 then some ((0 : Int32)) else (if (¬ (R_gcd  p1 p2) = (0 : Int32)) then some (((p1 / (R_gcd  p1 p2)) * p2)) else none)) else none) := Eq.trans rfl rfl
def R_lcm (p1 : Int32) (p2 : Int32) : Int32 := (en_lcm  p1 p2).getD (0)
theorem eR_lcm (p1 : Int32) (p2 : Int32) : R_lcm  p1 p2 = (en_lcm  p1 p2).getD (0) := Eq.trans rfl rfl
set_option maxRecDepth 65536 in
set_option maxHeartbeats 4000000 in
theorem run_lcm {l : Launch} {Z : State} {a0 : Array Value} (H : OK Z a0) (F : Nat → Int32) (G : Nat → Int64) (A : Nat → Int32 → Int32) (B : Nat → Int32 → Int64) (p1 : Int32) (p2 : Int32) (e1 : (en_lcm  p1 p2).isSome = true) :
    Wk l Z (MoC Z cdC) md_lcm 0 [.val (.ref 0), .val (.int p1), .val (.int p2), .unset] [] (7, F, G, A, B) 0 0 (fun v w' => v = some (.int (R_lcm  p1 p2)) ∧ w' = (7, F, G, A, B)) := by
  obtain ⟨r, h⟩ := Option.isSome_iff_exists.mp e1
  have e : R_lcm  p1 p2 = r := (eR_lcm  p1 p2).trans (getD_some h)
  rw [e]
  rw [een_lcm] at h
  exact wp_lcm H F G A B p1 p2 ((gd h).1) (fun q2 => (gd (ifn q2 (gd h).2)).1) (fun q2 => (rt_lcm _ _ _ _ _ r (Option.some.inj (gd (ifn q2 (gd h).2)).2))) (fun q2 => (rt_lcm _ _ _ _ _ r (Option.some.inj (ifp q2 (gd h).2))))
set_option maxRecDepth 65536 in
set_option maxHeartbeats 4000000 in
theorem wp_resetDispatcher {l : Launch} {Z : State} {a0 : Array Value} (H : OK Z a0) (F : Nat → Int32) (G : Nat → Int64) (A : Nat → Int32 → Int32) (B : Nat → Int32 → Int64) {Q : Option Value → WO → Prop} (h1 : Wk l Z (MoC Z cdC) md_resetDispatcher 12 [.val (.ref 0), .val (.int (0 : Int32))] [] (7, (ups (ups F 7 (0 : Int32)) 8 (0 : Int32)), G, A, B) 0 0 Q) :
    Wk l Z (MoC Z cdC) md_resetDispatcher 0 [.val (.ref 0), .unset] [] (7, F, G, A, B) 0 0 Q := by
  refine Wk.aloadN o_resetDispatcher_0 rfl ?_
  refine Wk.iconst o_resetDispatcher_1 (z := (0 : Int32)) (by decide) ?_
  refine Wk.putI (coC H) (mI_now) (wf_now H) (Or.inl (wy_now H)) o_resetDispatcher_2 ?_
  refine Wk.aloadN o_resetDispatcher_5 rfl ?_
  refine Wk.iconst o_resetDispatcher_6 (z := (0 : Int32)) (by decide) ?_
  refine Wk.putI (coC H) (mI_pos) (wf_pos H) (Or.inl (wy_pos H)) o_resetDispatcher_7 ?_
  refine Wk.iconst o_resetDispatcher_10 (z := (0 : Int32)) (by decide) ?_
  refine Wk.istoreN o_resetDispatcher_11 (Or.inl rfl) (L' := [.val (.ref 0), .val (.int (0 : Int32))]) rfl ?_
  exact h1

set_option maxRecDepth 65536 in
set_option maxHeartbeats 4000000 in
theorem wp_resetDispatcher_12 {l : Launch} {Z : State} {a0 : Array Value} (H : OK Z a0) (F : Nat → Int32) (G : Nat → Int64) (A : Nat → Int32 → Int32) (B : Nat → Int32 → Int64) (v1 : Int32) {Q : Option Value → WO → Prop} (h2 : ¬ v1 < (8 : Int32) → Q none (7, F, G, A, B)) (s3 : v1 < (8 : Int32) → ¬ v1 < 0) (h4 : v1 < (8 : Int32) → Wk l Z (MoC Z cdC) md_resetDispatcher 12 [.val (.ref 0), .val (.int (v1 + (1 : Int32)))] [] (7, F, G, (ups A 3 (ups (A 3) v1 (0 : Int32))), B) 0 0 Q) :
    Wk l Z (MoC Z cdC) md_resetDispatcher 12 [.val (.ref 0), .val (.int v1)] [] (7, F, G, A, B) 0 0 Q := by
  refine Wk.iloadN o_resetDispatcher_12 rfl ?_
  refine Wk.bipush o_resetDispatcher_13 (z := (8 : Int32)) (by decide) ?_
  refine Wk.icmp_ge o_resetDispatcher_15 (fun q1 => ?_) (fun q1 => ?_)
  · exact Wk.ret mrC rfl o_resetDispatcher_31 rfl (by decide) (by decide) (h2 q1)
  · refine Wk.aloadN o_resetDispatcher_18 rfl ?_
    refine Wk.getA (mA_runCnt) (by decide) (i' := 4) rfl (wf_runCnt H) o_resetDispatcher_19 ?_
    refine Wk.iloadN o_resetDispatcher_22 rfl ?_
    refine Wk.iconst o_resetDispatcher_23 (z := (0 : Int32)) (by decide) ?_
    refine Wk.iastore (coC H) (f := (A 3)) (mA_runCnt) rfl (by decide) (i' := 4) rfl (s3 q1) q1 o_resetDispatcher_24 ?_
    refine Wk.iinc o_resetDispatcher_25 rfl (z := (v1 + (1 : Int32))) rfl (L' := [.val (.ref 0), .val (.int (v1 + (1 : Int32)))]) rfl ?_
    refine Wk.goto o_resetDispatcher_28 ?_
    exact (h4 q1)

theorem rt_resetDispatcher (G : Nat → Int64) (B : Nat → Int32 → Int64) (v0 : Int32) (xF : Nat → Int32) (xA : Nat → Int32 → Int32) (r : Int32 × (Nat → Int32) × (Nat → Int32 → Int32)) (e : (v0, xF, xA) = r) : (none : Option Value) = none ∧ (7, xF, G, xA, B) = (7, r.2.1, G, r.2.2, B) := by subst e; exact ⟨rfl, rfl⟩
def lp_resetDispatcher : Nat → Nat → Int32 → (Nat → Int32) → (Nat → Int32 → Int32) → Option (Int32 × (Nat → Int32) × (Nat → Int32 → Int32))
  | 0, _, _, _, _ => none
  | n + 1, tag, v1, F, A => if tag = 12 then (if v1 < (8 : Int32) then (if (¬ v1 < 0) then lp_resetDispatcher n 12 (v1 + (1 : Int32)) F (ups A 3 (ups (A 3) v1 (0 : Int32))) else none) else some ((0 : Int32), F, A)) else none
theorem lp_resetDispatcher_z (tag : Nat) (v1 : Int32) (F : Nat → Int32) (A : Nat → Int32 → Int32) : lp_resetDispatcher 0 tag v1 F A = none := Eq.trans rfl rfl
theorem lp_resetDispatcher_12 (n : Nat) (v1 : Int32) (F : Nat → Int32) (A : Nat → Int32 → Int32) : lp_resetDispatcher (n + 1) 12 v1 F A = (if v1 < (8 : Int32) then (if (¬ v1 < 0) then lp_resetDispatcher n 12 (v1 + (1 : Int32)) F (ups A 3 (ups (A 3) v1 (0 : Int32))) else none) else some ((0 : Int32), F, A)) := by
  rw [lp_resetDispatcher, if_pos rfl]
set_option maxRecDepth 65536 in
set_option maxHeartbeats 4000000 in
theorem lpw_resetDispatcher {l : Launch} {Z : State} {a0 : Array Value} (H : OK Z a0) (G : Nat → Int64) (B : Nat → Int32 → Int64) : ∀ (n : Nat) (v1 : Int32) (F : Nat → Int32) (A : Nat → Int32 → Int32) (r : Int32 × (Nat → Int32) × (Nat → Int32 → Int32)), (lp_resetDispatcher n 12 v1 F A = some r → Wk l Z (MoC Z cdC) md_resetDispatcher 12 [.val (.ref 0), .val (.int v1)] [] (7, F, G, A, B) 0 0 (fun v w' => v = none ∧ w' = (7, r.2.1, G, r.2.2, B))) := by
  intro n
  induction n with
  | zero =>
    intro v1 F A r
    exact (fun h => by rw [lp_resetDispatcher_z] at h; cases h)
  | succ n ih =>
    intro v1 F A r
    refine fun h => ?_
    · rw [lp_resetDispatcher_12] at h
      exact wp_resetDispatcher_12 H F G A B v1 (fun q1 => (rt_resetDispatcher _ _ _ _ _ r (Option.some.inj (ifn q1 h)))) (fun q1 => (gd (ifp q1 h)).1) (fun q1 => (ih _ _ _ _) (gd (ifp q1 h)).2)
def en_resetDispatcher (F : Nat → Int32) (A : Nat → Int32 → Int32) : Option (Int32 × (Nat → Int32) × (Nat → Int32 → Int32)) := lp_resetDispatcher 20000 12 (0 : Int32) (ups (ups F 7 (0 : Int32)) 8 (0 : Int32)) A
theorem een_resetDispatcher (F : Nat → Int32) (A : Nat → Int32 → Int32) : en_resetDispatcher F A  = lp_resetDispatcher 20000 12 (0 : Int32) (ups (ups F 7 (0 : Int32)) 8 (0 : Int32)) A := Eq.trans rfl rfl
def R_resetDispatcher (F : Nat → Int32) (A : Nat → Int32 → Int32) : Int32 × (Nat → Int32) × (Nat → Int32 → Int32) := (en_resetDispatcher F A ).getD (0, (fun _ => 0), (fun _ _ => 0))
theorem eR_resetDispatcher (F : Nat → Int32) (A : Nat → Int32 → Int32) : R_resetDispatcher F A  = (en_resetDispatcher F A ).getD (0, (fun _ => 0), (fun _ _ => 0)) := Eq.trans rfl rfl
set_option maxRecDepth 65536 in
set_option maxHeartbeats 4000000 in
theorem run_resetDispatcher {l : Launch} {Z : State} {a0 : Array Value} (H : OK Z a0) (F : Nat → Int32) (G : Nat → Int64) (A : Nat → Int32 → Int32) (B : Nat → Int32 → Int64) (e1 : (en_resetDispatcher F A ).isSome = true) :
    Wk l Z (MoC Z cdC) md_resetDispatcher 0 [.val (.ref 0), .unset] [] (7, F, G, A, B) 0 0 (fun v w' => v = none ∧ w' = (7, (R_resetDispatcher F A ).2.1, G, (R_resetDispatcher F A ).2.2, B)) := by
  obtain ⟨r, h⟩ := Option.isSome_iff_exists.mp e1
  have e : R_resetDispatcher F A  = r := (eR_resetDispatcher F A ).trans (getD_some h)
  rw [e]
  rw [een_resetDispatcher] at h
  exact wp_resetDispatcher H F G A B  ((lpw_resetDispatcher H G B _ _ _ _ _) h)
set_option maxRecDepth 65536 in
set_option maxHeartbeats 4000000 in
theorem wp_addTask {l : Launch} {Z : State} {a0 : Array Value} (H : OK Z a0) (F : Nat → Int32) (G : Nat → Int64) (A : Nat → Int32 → Int32) (B : Nat → Int32 → Int64) (p1 : Int32) (p2 : Int32) (p3 : Int32) {Q : Option Value → WO → Prop} (h2 : p1 < (1 : Int32) → Q (some (.int (-1 : Int32))) (7, F, G, A, B)) (h4 : ¬ p1 < (1 : Int32) → (128 : Int32) < p1 → Q (some (.int (-1 : Int32))) (7, F, G, A, B)) (h6 : ¬ p1 < (1 : Int32) → ¬ (128 : Int32) < p1 → p3 < (1 : Int32) → Q (some (.int (-1 : Int32))) (7, F, G, A, B)) (h8 : ¬ p1 < (1 : Int32) → ¬ (128 : Int32) < p1 → ¬ p3 < (1 : Int32) → p1 < p3 → Q (some (.int (-1 : Int32))) (7, F, G, A, B)) (h10 : ¬ p1 < (1 : Int32) → ¬ (128 : Int32) < p1 → ¬ p3 < (1 : Int32) → ¬ p1 < p3 → p2 < (1 : Int32) → Q (some (.int (-1 : Int32))) (7, F, G, A, B)) (s15 : ¬ p1 < (1 : Int32) → ¬ (128 : Int32) < p1 → ¬ p3 < (1 : Int32) → ¬ p1 < p3 → ¬ p2 < (1 : Int32) → ¬ p3 < p2 → (F 2) < (F 0) → (en_lcm  (if (F 2) = 0 then (1 : Int32) else (F 3)) p1).isSome = true) (s17 : ¬ p1 < (1 : Int32) → ¬ (128 : Int32) < p1 → ¬ p3 < (1 : Int32) → ¬ p1 < p3 → ¬ p2 < (1 : Int32) → ¬ p3 < p2 → (F 2) < (F 0) → ¬ (F 1) < (R_lcm  (if (F 2) = 0 then (1 : Int32) else (F 3)) p1) → ¬ (F 2) < 0) (s18 : ¬ p1 < (1 : Int32) → ¬ (128 : Int32) < p1 → ¬ p3 < (1 : Int32) → ¬ p1 < p3 → ¬ p2 < (1 : Int32) → ¬ p3 < p2 → (F 2) < (F 0) → ¬ (F 1) < (R_lcm  (if (F 2) = 0 then (1 : Int32) else (F 3)) p1) → (F 2) < (8 : Int32)) (s19 : ¬ p1 < (1 : Int32) → ¬ (128 : Int32) < p1 → ¬ p3 < (1 : Int32) → ¬ p1 < p3 → ¬ p2 < (1 : Int32) → ¬ p3 < p2 → (F 2) < (F 0) → ¬ (F 1) < (R_lcm  (if (F 2) = 0 then (1 : Int32) else (F 3)) p1) → (en_resetDispatcher (ups (ups (ups (ups (ups F 2 ((F 2) + (1 : Int32))) 3 (R_lcm  (if (F 2) = 0 then (1 : Int32) else (F 3)) p1)) 4 (0 : Int32)) 5 (0 : Int32)) 6 (-1 : Int32)) (ups (ups (ups A 0 (ups (A 0) (F 2) p1)) 1 (ups (A 1) (F 2) p2)) 2 (ups (A 2) (F 2) p3)) ).isSome = true) (h20 : ¬ p1 < (1 : Int32) → ¬ (128 : Int32) < p1 → ¬ p3 < (1 : Int32) → ¬ p1 < p3 → ¬ p2 < (1 : Int32) → ¬ p3 < p2 → (F 2) < (F 0) → ¬ (F 1) < (R_lcm  (if (F 2) = 0 then (1 : Int32) else (F 3)) p1) → Q (some (.int (F 2))) (7, (R_resetDispatcher (ups (ups (ups (ups (ups F 2 ((F 2) + (1 : Int32))) 3 (R_lcm  (if (F 2) = 0 then (1 : Int32) else (F 3)) p1)) 4 (0 : Int32)) 5 (0 : Int32)) 6 (-1 : Int32)) (ups (ups (ups A 0 (ups (A 0) (F 2) p1)) 1 (ups (A 1) (F 2) p2)) 2 (ups (A 2) (F 2) p3)) ).2.1, G, (R_resetDispatcher (ups (ups (ups (ups (ups F 2 ((F 2) + (1 : Int32))) 3 (R_lcm  (if (F 2) = 0 then (1 : Int32) else (F 3)) p1)) 4 (0 : Int32)) 5 (0 : Int32)) 6 (-1 : Int32)) (ups (ups (ups A 0 (ups (A 0) (F 2) p1)) 1 (ups (A 1) (F 2) p2)) 2 (ups (A 2) (F 2) p3)) ).2.2, B)) (h21 : ¬ p1 < (1 : Int32) → ¬ (128 : Int32) < p1 → ¬ p3 < (1 : Int32) → ¬ p1 < p3 → ¬ p2 < (1 : Int32) → ¬ p3 < p2 → (F 2) < (F 0) → (F 1) < (R_lcm  (if (F 2) = 0 then (1 : Int32) else (F 3)) p1) → Q (some (.int (-3 : Int32))) (7, F, G, A, B)) (h22 : ¬ p1 < (1 : Int32) → ¬ (128 : Int32) < p1 → ¬ p3 < (1 : Int32) → ¬ p1 < p3 → ¬ p2 < (1 : Int32) → ¬ p3 < p2 → ¬ (F 2) < (F 0) → Q (some (.int (-2 : Int32))) (7, F, G, A, B)) (h23 : ¬ p1 < (1 : Int32) → ¬ (128 : Int32) < p1 → ¬ p3 < (1 : Int32) → ¬ p1 < p3 → ¬ p2 < (1 : Int32) → p3 < p2 → Q (some (.int (-1 : Int32))) (7, F, G, A, B)) :
    Wk l Z (MoC Z cdC) md_addTask 0 [.val (.ref 0), .val (.int p1), .val (.int p2), .val (.int p3), .unset, .unset, .unset] [] (7, F, G, A, B) 0 0 Q := by
  refine Wk.iloadN o_addTask_0 rfl ?_
  refine Wk.iconst o_addTask_1 (z := (1 : Int32)) (by decide) ?_
  refine Wk.icmp_lt o_addTask_2 (fun q1 => ?_) (fun q1 => ?_)
  · refine Wk.iconst o_addTask_32 (z := (-1 : Int32)) (by decide) ?_
    exact Wk.ireturn mrC rfl o_addTask_33 rfl (by decide) (by decide) (h2 q1)
  · refine Wk.iloadN o_addTask_5 rfl ?_
    refine Wk.sipush o_addTask_6 (z := (128 : Int32)) (by decide) ?_
    refine Wk.icmp_gt o_addTask_9 (fun q3 => ?_) (fun q3 => ?_)
    · refine Wk.iconst o_addTask_32 (z := (-1 : Int32)) (by decide) ?_
      exact Wk.ireturn mrC rfl o_addTask_33 rfl (by decide) (by decide) (h4 q1 q3)
    · refine Wk.iloadN o_addTask_12 rfl ?_
      refine Wk.iconst o_addTask_13 (z := (1 : Int32)) (by decide) ?_
      refine Wk.icmp_lt o_addTask_14 (fun q5 => ?_) (fun q5 => ?_)
      · refine Wk.iconst o_addTask_32 (z := (-1 : Int32)) (by decide) ?_
        exact Wk.ireturn mrC rfl o_addTask_33 rfl (by decide) (by decide) (h6 q1 q3 q5)
      · refine Wk.iloadN o_addTask_17 rfl ?_
        refine Wk.iloadN o_addTask_18 rfl ?_
        refine Wk.icmp_gt o_addTask_19 (fun q7 => ?_) (fun q7 => ?_)
        · refine Wk.iconst o_addTask_32 (z := (-1 : Int32)) (by decide) ?_
          exact Wk.ireturn mrC rfl o_addTask_33 rfl (by decide) (by decide) (h8 q1 q3 q5 q7)
        · refine Wk.iloadN o_addTask_22 rfl ?_
          refine Wk.iconst o_addTask_23 (z := (1 : Int32)) (by decide) ?_
          refine Wk.icmp_lt o_addTask_24 (fun q9 => ?_) (fun q9 => ?_)
          · refine Wk.iconst o_addTask_32 (z := (-1 : Int32)) (by decide) ?_
            exact Wk.ireturn mrC rfl o_addTask_33 rfl (by decide) (by decide) (h10 q1 q3 q5 q7 q9)
          · refine Wk.iloadN o_addTask_27 rfl ?_
            refine Wk.iloadN o_addTask_28 rfl ?_
            refine Wk.icmp_le o_addTask_29 (fun q11 => ?_) (fun q11 => ?_)
            · refine Wk.aloadN o_addTask_34 rfl ?_
              refine Wk.getI (mI_count) (wf_count H) o_addTask_35 (x := (F 2)) rfl ?_
              refine Wk.aloadN o_addTask_38 rfl ?_
              refine Wk.getI (mI_maxTasks) (wf_maxTasks H) o_addTask_39 (x := (F 0)) rfl ?_
              refine Wk.icmp_lt o_addTask_42 (fun q12 => ?_) (fun q12 => ?_)
              · refine Wk.aloadN o_addTask_48 rfl ?_
                refine Wk.getI (mI_count) (wf_count H) o_addTask_49 (x := (F 2)) rfl ?_
                have J14 : Wk l Z (MoC Z cdC) md_addTask 63 [.val (.ref 0), .val (.int p1), .val (.int p2), .val (.int p3), .unset, .unset, .unset] [.int (if (F 2) = 0 then (1 : Int32) else (F 3))] (7, F, G, A, B) 0 0 Q := by
                  refine Wk.istore o_addTask_63 (Or.inl rfl) (L' := [.val (.ref 0), .val (.int p1), .val (.int p2), .val (.int p3), .val (.int (if (F 2) = 0 then (1 : Int32) else (F 3))), .unset, .unset]) rfl ?_
                  refine Wk.aloadN o_addTask_65 rfl ?_
                  refine Wk.iload o_addTask_66 rfl ?_
                  refine Wk.iloadN o_addTask_68 rfl ?_
                  refine Wk.callF [.int (if (F 2) = 0 then (1 : Int32) else (F 3)), .int p1] [] (H.w 64 rfl) (cv_lcm H) o_addTask_69 (run_lcm H F G A B (if (F 2) = 0 then (1 : Int32) else (F 3)) p1 (s15 q1 q3 q5 q7 q9 q11 q12)) (wt := 0) (cu' := 0) (su' := 0) (by decide) rfl rfl rfl rfl rfl rfl rfl ?_
                  refine Wk.istore o_addTask_72 (Or.inl rfl) (L' := [.val (.ref 0), .val (.int p1), .val (.int p2), .val (.int p3), .val (.int (if (F 2) = 0 then (1 : Int32) else (F 3))), .val (.int (R_lcm  (if (F 2) = 0 then (1 : Int32) else (F 3)) p1)), .unset]) rfl ?_
                  refine Wk.iload o_addTask_74 rfl ?_
                  refine Wk.aloadN o_addTask_76 rfl ?_
                  refine Wk.getI (mI_maxHyper) (wf_maxHyper H) o_addTask_77 (x := (F 1)) rfl ?_
                  refine Wk.icmp_le o_addTask_80 (fun q16 => ?_) (fun q16 => ?_)
                  · refine Wk.aloadN o_addTask_86 rfl ?_
                    refine Wk.getI (mI_count) (wf_count H) o_addTask_87 (x := (F 2)) rfl ?_
                    refine Wk.istore o_addTask_90 (Or.inl rfl) (L' := [.val (.ref 0), .val (.int p1), .val (.int p2), .val (.int p3), .val (.int (if (F 2) = 0 then (1 : Int32) else (F 3))), .val (.int (R_lcm  (if (F 2) = 0 then (1 : Int32) else (F 3)) p1)), .val (.int (F 2))]) rfl ?_
                    refine Wk.aloadN o_addTask_92 rfl ?_
                    refine Wk.getA (mA_per) (by decide) (i' := 1) rfl (wf_per H) o_addTask_93 ?_
                    refine Wk.iload o_addTask_96 rfl ?_
                    refine Wk.iloadN o_addTask_98 rfl ?_
                    refine Wk.iastore (coC H) (f := (A 0)) (mA_per) rfl (by decide) (i' := 1) rfl (s17 q1 q3 q5 q7 q9 q11 q12 q16) (s18 q1 q3 q5 q7 q9 q11 q12 q16) o_addTask_99 ?_
                    refine Wk.aloadN o_addTask_100 rfl ?_
                    refine Wk.getA (mA_exe) (by decide) (i' := 2) rfl (wf_exe H) o_addTask_101 ?_
                    refine Wk.iload o_addTask_104 rfl ?_
                    refine Wk.iloadN o_addTask_106 rfl ?_
                    refine Wk.iastore (coC H) (f := (A 1)) (mA_exe) rfl (by decide) (i' := 2) rfl (s17 q1 q3 q5 q7 q9 q11 q12 q16) (s18 q1 q3 q5 q7 q9 q11 q12 q16) o_addTask_107 ?_
                    refine Wk.aloadN o_addTask_108 rfl ?_
                    refine Wk.getA (mA_dl) (by decide) (i' := 3) rfl (wf_dl H) o_addTask_109 ?_
                    refine Wk.iload o_addTask_112 rfl ?_
                    refine Wk.iloadN o_addTask_114 rfl ?_
                    refine Wk.iastore (coC H) (f := (A 2)) (mA_dl) rfl (by decide) (i' := 3) rfl (s17 q1 q3 q5 q7 q9 q11 q12 q16) (s18 q1 q3 q5 q7 q9 q11 q12 q16) o_addTask_115 ?_
                    refine Wk.aloadN o_addTask_116 rfl ?_
                    refine Wk.dup o_addTask_117 rfl ?_
                    refine Wk.getI (mI_count) (wf_count H) o_addTask_118 (x := (F 2)) rfl ?_
                    refine Wk.iconst o_addTask_121 (z := (1 : Int32)) (by decide) ?_
                    refine Wk.iadd o_addTask_122 ?_
                    refine Wk.putI (coC H) (mI_count) (wf_count H) (Or.inl (wy_count H)) o_addTask_123 ?_
                    refine Wk.aloadN o_addTask_126 rfl ?_
                    refine Wk.iload o_addTask_127 rfl ?_
                    refine Wk.putI (coC H) (mI_hyper) (wf_hyper H) (Or.inl (wy_hyper H)) o_addTask_129 ?_
                    refine Wk.aloadN o_addTask_132 rfl ?_
                    refine Wk.iconst o_addTask_133 (z := (0 : Int32)) (by decide) ?_
                    refine Wk.putZ (coC H) (y := (0 : Int32)) (by decide) (mI_present) (wf_present H) (Or.inl (wy_present H)) o_addTask_134 ?_
                    refine Wk.aloadN o_addTask_137 rfl ?_
                    refine Wk.iconst o_addTask_138 (z := (0 : Int32)) (by decide) ?_
                    refine Wk.putI (coC H) (mI_frame) (wf_frame H) (Or.inl (wy_frame H)) o_addTask_139 ?_
                    refine Wk.aloadN o_addTask_142 rfl ?_
                    refine Wk.iconst o_addTask_143 (z := (-1 : Int32)) (by decide) ?_
                    refine Wk.putI (coC H) (mI_miss) (wf_miss H) (Or.inl (wy_miss H)) o_addTask_144 ?_
                    refine Wk.aloadN o_addTask_147 rfl ?_
                    refine Wk.callU [] [] (H.w 72 rfl) (cv_resetDispatcher H) o_addTask_148 (run_resetDispatcher H (ups (ups (ups (ups (ups F 2 ((F 2) + (1 : Int32))) 3 (R_lcm  (if (F 2) = 0 then (1 : Int32) else (F 3)) p1)) 4 (0 : Int32)) 5 (0 : Int32)) 6 (-1 : Int32)) G (ups (ups (ups A 0 (ups (A 0) (F 2) p1)) 1 (ups (A 1) (F 2) p2)) 2 (ups (A 2) (F 2) p3)) B (s19 q1 q3 q5 q7 q9 q11 q12 q16)) (wt := 0) (cu' := 0) (su' := 0) (by decide) rfl rfl rfl rfl rfl rfl rfl ?_
                    refine Wk.iload o_addTask_151 rfl ?_
                    exact Wk.ireturn mrC rfl o_addTask_153 rfl (by decide) (by decide) (h20 q1 q3 q5 q7 q9 q11 q12 q16)
                  · refine Wk.bipush o_addTask_83 (z := (-3 : Int32)) (by decide) ?_
                    exact Wk.ireturn mrC rfl o_addTask_85 rfl (by decide) (by decide) (h21 q1 q3 q5 q7 q9 q11 q12 q16)
                refine Wk.if_ne o_addTask_52 (fun q13 => ?_) (fun q13 => ?_)
                · refine Wk.aloadN o_addTask_59 rfl ?_
                  refine Wk.getI (mI_hyper) (wf_hyper H) o_addTask_60 (x := (F 3)) rfl ?_
                  first | (rw [show ((if (F 2) = 0 then (1 : Int32) else (F 3)) : Int32) = (F 3) from if_neg q13] at J14; exact J14) | exact J14 | (simp only [if_neg q13] at J14 ⊢; exact J14)
                · refine Wk.iconst o_addTask_55 (z := (1 : Int32)) (by decide) ?_
                  refine Wk.goto o_addTask_56 ?_
                  first | (rw [show ((if (F 2) = 0 then (1 : Int32) else (F 3)) : Int32) = (1 : Int32) from if_pos q13] at J14; exact J14) | exact J14 | (simp only [if_pos q13] at J14 ⊢; exact J14)
              · refine Wk.bipush o_addTask_45 (z := (-2 : Int32)) (by decide) ?_
                exact Wk.ireturn mrC rfl o_addTask_47 rfl (by decide) (by decide) (h22 q1 q3 q5 q7 q9 q11 q12)
            · refine Wk.iconst o_addTask_32 (z := (-1 : Int32)) (by decide) ?_
              exact Wk.ireturn mrC rfl o_addTask_33 rfl (by decide) (by decide) (h23 q1 q3 q5 q7 q9 q11)

theorem rt_addTask (G : Nat → Int64) (B : Nat → Int32 → Int64) (v0 : Int32) (xF : Nat → Int32) (xA : Nat → Int32 → Int32) (r : Int32 × (Nat → Int32) × (Nat → Int32 → Int32)) (e : (v0, xF, xA) = r) : some (Value.int v0) = some (.int r.1) ∧ (7, xF, G, xA, B) = (7, r.2.1, G, r.2.2, B) := by subst e; exact ⟨rfl, rfl⟩
def en_addTask (F : Nat → Int32) (A : Nat → Int32 → Int32) (p1 : Int32) (p2 : Int32) (p3 : Int32) : Option (Int32 × (Nat → Int32) × (Nat → Int32 → Int32)) := (if p1 < (1 : Int32) then some ((-1 : Int32), F, A) else (if (128 : Int32) < p1 then some ((-1 : Int32), F, A) else (if p3 < (1 : Int32) then some ((-1 : Int32), F, A) else (if p1 < p3 then some ((-1 : Int32), F, A) else (if p2 < (1 : Int32) then some ((-1 : Int32), F, A) else (if p3 < p2 then some ((-1 : Int32), F, A) else (if (F 2) < (F 0) then (if ((en_lcm  (if (F 2) = 0 then (1 : Int32) else (F 3)) p1).isSome = true) then (if (F 1) < (R_lcm  (if (F 2) = 0 then (1 : Int32) else (F 3)) p1) then some ((-3 : Int32), F, A) else (if (¬ (F 2) < 0) ∧ ((F 2) < (8 : Int32)) ∧ ((en_resetDispatcher (ups (ups (ups (ups (ups F 2 ((F 2) + (1 : Int32))) 3 (R_lcm  (if (F 2) = 0 then (1 : Int32) else (F 3)) p1)) 4 (0 : Int32)) 5 (0 : Int32)) 6 (-1 : Int32)) (ups (ups (ups A 0 (ups (A 0) (F 2) p1)) 1 (ups (A 1) (F 2) p2)) 2 (ups (A 2) (F 2) p3)) ).isSome = true) then some ((F 2), (R_resetDispatcher (ups (ups (ups (ups (ups F 2 ((F 2) + (1 : Int32))) 3 (R_lcm  (if (F 2) = 0 then (1 : Int32) else (F 3)) p1)) 4 (0 : Int32)) 5 (0 : Int32)) 6 (-1 : Int32)) (ups (ups (ups A 0 (ups (A 0) (F 2) p1)) 1 (ups (A 1) (F 2) p2)) 2 (ups (A 2) (F 2) p3)) ).2.1, (R_resetDispatcher (ups (ups (ups (ups (ups F 2 ((F 2) + (1 : Int32))) 3 (R_lcm  (if (F 2) = 0 then (1 : Int32) else (F 3)) p1)) 4 (0 : Int32)) 5 (0 : Int32)) 6 (-1 : Int32)) (ups (ups (ups A 0 (ups (A 0) (F 2) p1)) 1 (ups (A 1) (F 2) p2)) 2 (ups (A 2) (F 2) p3)) ).2.2) else none)) else none) else some ((-2 : Int32), F, A))))))))
theorem een_addTask (F : Nat → Int32) (A : Nat → Int32 → Int32) (p1 : Int32) (p2 : Int32) (p3 : Int32) : en_addTask F A p1 p2 p3 = (if p1 < (1 : Int32) then some ((-1 : Int32), F, A) else (if (128 : Int32) < p1 then some ((-1 : Int32), F, A) else (if p3 < (1 : Int32) then some ((-1 : Int32), F, A) else (if p1 < p3 then some ((-1 : Int32), F, A) else (if p2 < (1 : Int32) then some ((-1 : Int32), F, A) else (if p3 < p2 then some ((-1 : Int32), F, A) else (if (F 2) < (F 0) then (if ((en_lcm  (if (F 2) = 0 then (1 : Int32) else (F 3)) p1).isSome = true) then (if (F 1) < (R_lcm  (if (F 2) = 0 then (1 : Int32) else (F 3)) p1) then some ((-3 : Int32), F, A) else (if (¬ (F 2) < 0) ∧ ((F 2) < (8 : Int32)) ∧ ((en_resetDispatcher (ups (ups (ups (ups (ups F 2 ((F 2) + (1 : Int32))) 3 (R_lcm  (if (F 2) = 0 then (1 : Int32) else (F 3)) p1)) 4 (0 : Int32)) 5 (0 : Int32)) 6 (-1 : Int32)) (ups (ups (ups A 0 (ups (A 0) (F 2) p1)) 1 (ups (A 1) (F 2) p2)) 2 (ups (A 2) (F 2) p3)) ).isSome = true) then some ((F 2), (R_resetDispatcher (ups (ups (ups (ups (ups F 2 ((F 2) + (1 : Int32))) 3 (R_lcm  (if (F 2) = 0 then (1 : Int32) else (F 3)) p1)) 4 (0 : Int32)) 5 (0 : Int32)) 6 (-1 : Int32)) (ups (ups (ups A 0 (ups (A 0) (F 2) p1)) 1 (ups (A 1) (F 2) p2)) 2 (ups (A 2) (F 2) p3)) ).2.1, (R_resetDispatcher (ups (ups (ups (ups (ups F 2 ((F 2) + (1 : Int32))) 3 (R_lcm  (if (F 2) = 0 then (1 : Int32) else (F 3)) p1)) 4 (0 : Int32)) 5 (0 : Int32)) 6 (-1 : Int32)) (ups (ups (ups A 0 (ups (A 0) (F 2) p1)) 1 (ups (A 1) (F 2) p2)) 2 (ups (A 2) (F 2) p3)) ).2.2) else none)) else none) else some ((-2 : Int32), F, A)))))))) := Eq.trans rfl rfl
def R_addTask (F : Nat → Int32) (A : Nat → Int32 → Int32) (p1 : Int32) (p2 : Int32) (p3 : Int32) : Int32 × (Nat → Int32) × (Nat → Int32 → Int32) := (en_addTask F A p1 p2 p3).getD (0, (fun _ => 0), (fun _ _ => 0))
theorem eR_addTask (F : Nat → Int32) (A : Nat → Int32 → Int32) (p1 : Int32) (p2 : Int32) (p3 : Int32) : R_addTask F A p1 p2 p3 = (en_addTask F A p1 p2 p3).getD (0, (fun _ => 0), (fun _ _ => 0)) := Eq.trans rfl rfl
set_option maxRecDepth 65536 in
set_option maxHeartbeats 4000000 in
theorem run_addTask {l : Launch} {Z : State} {a0 : Array Value} (H : OK Z a0) (F : Nat → Int32) (G : Nat → Int64) (A : Nat → Int32 → Int32) (B : Nat → Int32 → Int64) (p1 : Int32) (p2 : Int32) (p3 : Int32) (e1 : (en_addTask F A p1 p2 p3).isSome = true) :
    Wk l Z (MoC Z cdC) md_addTask 0 [.val (.ref 0), .val (.int p1), .val (.int p2), .val (.int p3), .unset, .unset, .unset] [] (7, F, G, A, B) 0 0 (fun v w' => v = some (.int (R_addTask F A p1 p2 p3).1) ∧ w' = (7, (R_addTask F A p1 p2 p3).2.1, G, (R_addTask F A p1 p2 p3).2.2, B)) := by
  obtain ⟨r, h⟩ := Option.isSome_iff_exists.mp e1
  have e : R_addTask F A p1 p2 p3 = r := (eR_addTask F A p1 p2 p3).trans (getD_some h)
  rw [e]
  rw [een_addTask] at h
  exact wp_addTask H F G A B p1 p2 p3 (fun q1 => (rt_addTask _ _ _ _ _ r (Option.some.inj (ifp q1 h)))) (fun q1 q3 => (rt_addTask _ _ _ _ _ r (Option.some.inj (ifp q3 (ifn q1 h))))) (fun q1 q3 q5 => (rt_addTask _ _ _ _ _ r (Option.some.inj (ifp q5 (ifn q3 (ifn q1 h)))))) (fun q1 q3 q5 q7 => (rt_addTask _ _ _ _ _ r (Option.some.inj (ifp q7 (ifn q5 (ifn q3 (ifn q1 h))))))) (fun q1 q3 q5 q7 q9 => (rt_addTask _ _ _ _ _ r (Option.some.inj (ifp q9 (ifn q7 (ifn q5 (ifn q3 (ifn q1 h)))))))) (fun q1 q3 q5 q7 q9 q11 q12 => (gd (ifp q12 (ifn q11 (ifn q9 (ifn q7 (ifn q5 (ifn q3 (ifn q1 h)))))))).1) (fun q1 q3 q5 q7 q9 q11 q12 q16 => (gd (ifn q16 (gd (ifp q12 (ifn q11 (ifn q9 (ifn q7 (ifn q5 (ifn q3 (ifn q1 h)))))))).2)).1.1) (fun q1 q3 q5 q7 q9 q11 q12 q16 => (gd (ifn q16 (gd (ifp q12 (ifn q11 (ifn q9 (ifn q7 (ifn q5 (ifn q3 (ifn q1 h)))))))).2)).1.2.1) (fun q1 q3 q5 q7 q9 q11 q12 q16 => (gd (ifn q16 (gd (ifp q12 (ifn q11 (ifn q9 (ifn q7 (ifn q5 (ifn q3 (ifn q1 h)))))))).2)).1.2.2) (fun q1 q3 q5 q7 q9 q11 q12 q16 => (rt_addTask _ _ _ _ _ r (Option.some.inj (gd (ifn q16 (gd (ifp q12 (ifn q11 (ifn q9 (ifn q7 (ifn q5 (ifn q3 (ifn q1 h)))))))).2)).2))) (fun q1 q3 q5 q7 q9 q11 q12 q16 => (rt_addTask _ _ _ _ _ r (Option.some.inj (ifp q16 (gd (ifp q12 (ifn q11 (ifn q9 (ifn q7 (ifn q5 (ifn q3 (ifn q1 h)))))))).2)))) (fun q1 q3 q5 q7 q9 q11 q12 => (rt_addTask _ _ _ _ _ r (Option.some.inj (ifn q12 (ifn q11 (ifn q9 (ifn q7 (ifn q5 (ifn q3 (ifn q1 h)))))))))) (fun q1 q3 q5 q7 q9 q11 => (rt_addTask _ _ _ _ _ r (Option.some.inj (ifp q11 (ifn q9 (ifn q7 (ifn q5 (ifn q3 (ifn q1 h)))))))))
set_option maxRecDepth 65536 in
set_option maxHeartbeats 4000000 in
theorem wp_getHyperperiod {l : Launch} {Z : State} {a0 : Array Value} (H : OK Z a0) (F : Nat → Int32) (G : Nat → Int64) (A : Nat → Int32 → Int32) (B : Nat → Int32 → Int64) {Q : Option Value → WO → Prop} (h3 : Q (some (.int (if (F 2) = 0 then (0 : Int32) else (F 3)))) (7, F, G, A, B)) :
    Wk l Z (MoC Z cdC) md_getHyperperiod 0 [.val (.ref 0)] [] (7, F, G, A, B) 0 0 Q := by
  refine Wk.aloadN o_getHyperperiod_0 rfl ?_
  refine Wk.getI (mI_count) (wf_count H) o_getHyperperiod_1 (x := (F 2)) rfl ?_
  have J2 : Wk l Z (MoC Z cdC) md_getHyperperiod 15 [.val (.ref 0)] [.int (if (F 2) = 0 then (0 : Int32) else (F 3))] (7, F, G, A, B) 0 0 Q := by
    exact Wk.ireturn mrC rfl o_getHyperperiod_15 rfl (by decide) (by decide) h3
  refine Wk.if_ne o_getHyperperiod_4 (fun q1 => ?_) (fun q1 => ?_)
  · refine Wk.aloadN o_getHyperperiod_11 rfl ?_
    refine Wk.getI (mI_hyper) (wf_hyper H) o_getHyperperiod_12 (x := (F 3)) rfl ?_
    first | (rw [show ((if (F 2) = 0 then (0 : Int32) else (F 3)) : Int32) = (F 3) from if_neg q1] at J2; exact J2) | exact J2 | (simp only [if_neg q1] at J2 ⊢; exact J2)
  · refine Wk.iconst o_getHyperperiod_7 (z := (0 : Int32)) (by decide) ?_
    refine Wk.goto o_getHyperperiod_8 ?_
    first | (rw [show ((if (F 2) = 0 then (0 : Int32) else (F 3)) : Int32) = (0 : Int32) from if_pos q1] at J2; exact J2) | exact J2 | (simp only [if_pos q1] at J2 ⊢; exact J2)

def f_getHyperperiod (F : Nat → Int32) : Int32 := (if (F 2) = 0 then (0 : Int32) else (F 3))
theorem e_getHyperperiod (F : Nat → Int32) : f_getHyperperiod F = (if (F 2) = 0 then (0 : Int32) else (F 3)) := Eq.trans rfl rfl
theorem run_getHyperperiod {l : Launch} {Z : State} {a0 : Array Value} (H : OK Z a0) (F : Nat → Int32) (G : Nat → Int64) (A : Nat → Int32 → Int32) (B : Nat → Int32 → Int64) :
    Wk l Z (MoC Z cdC) md_getHyperperiod 0 [.val (.ref 0)] [] (7, F, G, A, B) 0 0 (fun v w' => v = some (.int (f_getHyperperiod F)) ∧ w' = (7, F, G, A, B)) :=
  wp_getHyperperiod H F G A B ⟨rfl, rfl⟩
set_option maxRecDepth 65536 in
set_option maxHeartbeats 4000000 in
theorem wp_dividesHyper {l : Launch} {Z : State} {a0 : Array Value} (H : OK Z a0) (F : Nat → Int32) (G : Nat → Int64) (A : Nat → Int32 → Int32) (B : Nat → Int32 → Int64) (p1 : Int32) {Q : Option Value → WO → Prop} (s4 : 0 < (F 2) → ¬ p1 < (1 : Int32) → ¬ (F 3) < p1 → ¬ p1 = (0 : Int32)) (h10 : Q (some (.int (nar .boolean (if 0 < (F 2) then (if p1 < (1 : Int32) then (0 : Int32) else (if (F 3) < p1 then (0 : Int32) else (if ((F 3) % p1) = 0 then (1 : Int32) else (0 : Int32)))) else (0 : Int32))))) (7, F, G, A, B)) :
    Wk l Z (MoC Z cdC) md_dividesHyper 0 [.val (.ref 0), .val (.int p1)] [] (7, F, G, A, B) 0 0 Q := by
  refine Wk.aloadN o_dividesHyper_0 rfl ?_
  refine Wk.getI (mI_count) (wf_count H) o_dividesHyper_1 (x := (F 2)) rfl ?_
  have J9 : Wk l Z (MoC Z cdC) md_dividesHyper 34 [.val (.ref 0), .val (.int p1)] [.int (if 0 < (F 2) then (if p1 < (1 : Int32) then (0 : Int32) else (if (F 3) < p1 then (0 : Int32) else (if ((F 3) % p1) = 0 then (1 : Int32) else (0 : Int32)))) else (0 : Int32))] (7, F, G, A, B) 0 0 Q := by
    exact Wk.zreturn mrC rfl o_dividesHyper_34 rfl (by decide) (by decide) (y := (nar .boolean (if 0 < (F 2) then (if p1 < (1 : Int32) then (0 : Int32) else (if (F 3) < p1 then (0 : Int32) else (if ((F 3) % p1) = 0 then (1 : Int32) else (0 : Int32)))) else (0 : Int32)))) rfl h10
  refine Wk.if_le o_dividesHyper_4 (fun q1 => ?_) (fun q1 => ?_)
  · refine Wk.iconst o_dividesHyper_33 (z := (0 : Int32)) (by decide) ?_
    first | (rw [show ((if 0 < (F 2) then (if p1 < (1 : Int32) then (0 : Int32) else (if (F 3) < p1 then (0 : Int32) else (if ((F 3) % p1) = 0 then (1 : Int32) else (0 : Int32)))) else (0 : Int32)) : Int32) = (0 : Int32) from if_neg q1] at J9; exact J9) | exact J9 | (simp only [if_neg q1] at J9 ⊢; exact J9)
  · refine Wk.iloadN o_dividesHyper_7 rfl ?_
    refine Wk.iconst o_dividesHyper_8 (z := (1 : Int32)) (by decide) ?_
    refine Wk.icmp_lt o_dividesHyper_9 (fun q2 => ?_) (fun q2 => ?_)
    · refine Wk.iconst o_dividesHyper_33 (z := (0 : Int32)) (by decide) ?_
      first | (rw [show ((if 0 < (F 2) then (if p1 < (1 : Int32) then (0 : Int32) else (if (F 3) < p1 then (0 : Int32) else (if ((F 3) % p1) = 0 then (1 : Int32) else (0 : Int32)))) else (0 : Int32)) : Int32) = (0 : Int32) from Eq.trans (if_pos q1) <| if_pos q2] at J9; exact J9) | exact J9 | (simp only [if_pos q1, if_pos q2] at J9 ⊢; exact J9)
    · refine Wk.iloadN o_dividesHyper_12 rfl ?_
      refine Wk.aloadN o_dividesHyper_13 rfl ?_
      refine Wk.getI (mI_hyper) (wf_hyper H) o_dividesHyper_14 (x := (F 3)) rfl ?_
      refine Wk.icmp_gt o_dividesHyper_17 (fun q3 => ?_) (fun q3 => ?_)
      · refine Wk.iconst o_dividesHyper_33 (z := (0 : Int32)) (by decide) ?_
        first | (rw [show ((if 0 < (F 2) then (if p1 < (1 : Int32) then (0 : Int32) else (if (F 3) < p1 then (0 : Int32) else (if ((F 3) % p1) = 0 then (1 : Int32) else (0 : Int32)))) else (0 : Int32)) : Int32) = (0 : Int32) from Eq.trans (if_pos q1) <| Eq.trans (if_neg q2) <| if_pos q3] at J9; exact J9) | exact J9 | (simp only [if_pos q1, if_neg q2, if_pos q3] at J9 ⊢; exact J9)
      · refine Wk.aloadN o_dividesHyper_20 rfl ?_
        refine Wk.getI (mI_hyper) (wf_hyper H) o_dividesHyper_21 (x := (F 3)) rfl ?_
        refine Wk.iloadN o_dividesHyper_24 rfl ?_
        refine Wk.irem o_dividesHyper_25 (s4 q1 q2 q3) ?_
        refine Wk.if_ne o_dividesHyper_26 (fun q5 => ?_) (fun q5 => ?_)
        · refine Wk.iconst o_dividesHyper_33 (z := (0 : Int32)) (by decide) ?_
          first | (rw [show ((if 0 < (F 2) then (if p1 < (1 : Int32) then (0 : Int32) else (if (F 3) < p1 then (0 : Int32) else (if ((F 3) % p1) = 0 then (1 : Int32) else (0 : Int32)))) else (0 : Int32)) : Int32) = (0 : Int32) from Eq.trans (if_pos q1) <| Eq.trans (if_neg q2) <| Eq.trans (if_neg q3) <| if_neg q5] at J9; exact J9) | exact J9 | (simp only [if_pos q1, if_neg q2, if_neg q3, if_neg q5] at J9 ⊢; exact J9)
        · refine Wk.iconst o_dividesHyper_29 (z := (1 : Int32)) (by decide) ?_
          refine Wk.goto o_dividesHyper_30 ?_
          first | (rw [show ((if 0 < (F 2) then (if p1 < (1 : Int32) then (0 : Int32) else (if (F 3) < p1 then (0 : Int32) else (if ((F 3) % p1) = 0 then (1 : Int32) else (0 : Int32)))) else (0 : Int32)) : Int32) = (1 : Int32) from Eq.trans (if_pos q1) <| Eq.trans (if_neg q2) <| Eq.trans (if_neg q3) <| if_pos q5] at J9; exact J9) | exact J9 | (simp only [if_pos q1, if_neg q2, if_neg q3, if_pos q5] at J9 ⊢; exact J9)

theorem rt_dividesHyper (F : Nat → Int32) (G : Nat → Int64) (A : Nat → Int32 → Int32) (B : Nat → Int32 → Int64) (v0 : Int32) (r : Int32) (e : v0 = r) : some (Value.int v0) = some (.int r) ∧ (7, F, G, A, B) = (7, F, G, A, B) := by subst e; exact ⟨rfl, rfl⟩
def en_dividesHyper (F : Nat → Int32) (p1 : Int32) : Option (Int32) := (if (0 < (F 2) → ¬ p1 < (1 : Int32) → ¬ (F 3) < p1 → ¬ p1 = (0 : Int32)) then some ((nar .boolean (if 0 < (F 2) then (if p1 < (1 : Int32) then (0 : Int32) else (if (F 3) < p1 then (0 : Int32) else (if ((F 3) % p1) = 0 then (1 : Int32) else (0 : Int32)))) else (0 : Int32)))) else none)
theorem een_dividesHyper (F : Nat → Int32) (p1 : Int32) : en_dividesHyper F p1 = (if (0 < (F 2) → ¬ p1 < (1 : Int32) → ¬ (F 3) < p1 → ¬ p1 = (0 : Int32)) then some ((nar .boolean (if 0 < (F 2) then (if p1 < (1 : Int32) then (0 : Int32) else (if (F 3) < p1 then (0 : Int32) else (if ((F 3) % p1) = 0 then (1 : Int32) else (0 : Int32)))) else (0 : Int32)))) else none) := Eq.trans rfl rfl
def R_dividesHyper (F : Nat → Int32) (p1 : Int32) : Int32 := (en_dividesHyper F p1).getD (0)
theorem eR_dividesHyper (F : Nat → Int32) (p1 : Int32) : R_dividesHyper F p1 = (en_dividesHyper F p1).getD (0) := Eq.trans rfl rfl
set_option maxRecDepth 65536 in
set_option maxHeartbeats 4000000 in
theorem run_dividesHyper {l : Launch} {Z : State} {a0 : Array Value} (H : OK Z a0) (F : Nat → Int32) (G : Nat → Int64) (A : Nat → Int32 → Int32) (B : Nat → Int32 → Int64) (p1 : Int32) (e1 : (en_dividesHyper F p1).isSome = true) :
    Wk l Z (MoC Z cdC) md_dividesHyper 0 [.val (.ref 0), .val (.int p1)] [] (7, F, G, A, B) 0 0 (fun v w' => v = some (.int (R_dividesHyper F p1)) ∧ w' = (7, F, G, A, B)) := by
  obtain ⟨r, h⟩ := Option.isSome_iff_exists.mp e1
  have e : R_dividesHyper F p1 = r := (eR_dividesHyper F p1).trans (getD_some h)
  rw [e]
  rw [een_dividesHyper] at h
  exact wp_dividesHyper H F G A B p1 (fun q1 q2 q3 => ((gd h).1) q1 q2 q3) ((rt_dividesHyper _ _ _ _ _ r (Option.some.inj (gd h).2)))
set_option maxRecDepth 65536 in
set_option maxHeartbeats 4000000 in
theorem wp_deadlinesOk {l : Launch} {Z : State} {a0 : Array Value} (H : OK Z a0) (F : Nat → Int32) (G : Nat → Int64) (A : Nat → Int32 → Int32) (B : Nat → Int32 → Int64) (p1 : Int32) {Q : Option Value → WO → Prop} (h1 : Wk l Z (MoC Z cdC) md_deadlinesOk 2 [.val (.ref 0), .val (.int p1), .val (.int (0 : Int32)), .unset] [] (7, F, G, A, B) 0 0 Q) :
    Wk l Z (MoC Z cdC) md_deadlinesOk 0 [.val (.ref 0), .val (.int p1), .unset, .unset] [] (7, F, G, A, B) 0 0 Q := by
  refine Wk.iconst o_deadlinesOk_0 (z := (0 : Int32)) (by decide) ?_
  refine Wk.istoreN o_deadlinesOk_1 (Or.inl rfl) (L' := [.val (.ref 0), .val (.int p1), .val (.int (0 : Int32)), .unset]) rfl ?_
  exact h1

set_option maxRecDepth 65536 in
set_option maxHeartbeats 4000000 in
theorem wp_deadlinesOk_2 {l : Launch} {Z : State} {a0 : Array Value} (H : OK Z a0) (F : Nat → Int32) (G : Nat → Int64) (A : Nat → Int32 → Int32) (B : Nat → Int32 → Int64) (v1 : Int32) (v2 : Int32) {Q : Option Value → WO → Prop} (h2 : ¬ v2 < (F 2) → Q (some (.int (1 : Int32))) (7, F, G, A, B)) (s3 : v2 < (F 2) → ¬ v2 < 0) (s4 : v2 < (F 2) → v2 < (8 : Int32)) (s5 : v2 < (F 2) → (en_gcd  v1 ((A 0) v2)).isSome = true) (h7 : v2 < (F 2) → ¬ ((A 2) v2) < (((2 : Int32) * v1) - (R_gcd  v1 ((A 0) v2))) → Wk l Z (MoC Z cdC) md_deadlinesOk 2 [.val (.ref 0), .val (.int v1), .val (.int (v2 + (1 : Int32))), .unset] [] (7, F, G, A, B) 0 0 Q) (h8 : v2 < (F 2) → ((A 2) v2) < (((2 : Int32) * v1) - (R_gcd  v1 ((A 0) v2))) → Q (some (.int (0 : Int32))) (7, F, G, A, B)) :
    Wk l Z (MoC Z cdC) md_deadlinesOk 2 [.val (.ref 0), .val (.int v1), .val (.int v2), .unset] [] (7, F, G, A, B) 0 0 Q := by
  refine Wk.iloadN o_deadlinesOk_2 rfl ?_
  refine Wk.aloadN o_deadlinesOk_3 rfl ?_
  refine Wk.getI (mI_count) (wf_count H) o_deadlinesOk_4 (x := (F 2)) rfl ?_
  refine Wk.icmp_ge o_deadlinesOk_7 (fun q1 => ?_) (fun q1 => ?_)
  · refine Wk.iconst o_deadlinesOk_44 (z := (1 : Int32)) (by decide) ?_
    exact Wk.zreturn mrC rfl o_deadlinesOk_45 rfl (by decide) (by decide) (y := (1 : Int32)) (by decide) (h2 q1)
  · refine Wk.aloadN o_deadlinesOk_10 rfl ?_
    refine Wk.iloadN o_deadlinesOk_11 rfl ?_
    refine Wk.aloadN o_deadlinesOk_12 rfl ?_
    refine Wk.getA (mA_per) (by decide) (i' := 1) rfl (wf_per H) o_deadlinesOk_13 ?_
    refine Wk.iloadN o_deadlinesOk_16 rfl ?_
    refine Wk.iaload (mA_per) (by decide) (i' := 1) rfl (s3 q1) (s4 q1) o_deadlinesOk_17 (y := ((A 0) v2)) rfl ?_
    refine Wk.callF [.int v1, .int ((A 0) v2)] [] (H.w 68 rfl) (cv_gcd H) o_deadlinesOk_18 (run_gcd H F G A B v1 ((A 0) v2) (s5 q1)) (wt := 0) (cu' := 0) (su' := 0) (by decide) rfl rfl rfl rfl rfl rfl rfl ?_
    refine Wk.istoreN o_deadlinesOk_21 (Or.inl rfl) (L' := [.val (.ref 0), .val (.int v1), .val (.int v2), .val (.int (R_gcd  v1 ((A 0) v2)))]) rfl ?_
    refine Wk.iconst o_deadlinesOk_22 (z := (2 : Int32)) (by decide) ?_
    refine Wk.iloadN o_deadlinesOk_23 rfl ?_
    refine Wk.imul o_deadlinesOk_24 ?_
    refine Wk.iloadN o_deadlinesOk_25 rfl ?_
    refine Wk.isub o_deadlinesOk_26 ?_
    refine Wk.aloadN o_deadlinesOk_27 rfl ?_
    refine Wk.getA (mA_dl) (by decide) (i' := 3) rfl (wf_dl H) o_deadlinesOk_28 ?_
    refine Wk.iloadN o_deadlinesOk_31 rfl ?_
    refine Wk.iaload (mA_dl) (by decide) (i' := 3) rfl (s3 q1) (s4 q1) o_deadlinesOk_32 (y := ((A 2) v2)) rfl ?_
    refine Wk.icmp_le o_deadlinesOk_33 (fun q6 => ?_) (fun q6 => ?_)
    · refine Wk.iinc o_deadlinesOk_38 rfl (z := (v2 + (1 : Int32))) rfl (L' := [.val (.ref 0), .val (.int v1), .val (.int (v2 + (1 : Int32))), .val (.int (R_gcd  v1 ((A 0) v2)))]) rfl ?_
      refine Wk.goto o_deadlinesOk_41 ?_
      refine Wk.forget [false, false, false, true] (L' := [.val (.ref 0), .val (.int v1), .val (.int (v2 + (1 : Int32))), .unset]) rfl rfl ?_
      exact (h7 q1 q6)
    · refine Wk.iconst o_deadlinesOk_36 (z := (0 : Int32)) (by decide) ?_
      exact Wk.zreturn mrC rfl o_deadlinesOk_37 rfl (by decide) (by decide) (y := (0 : Int32)) (by decide) (h8 q1 q6)

theorem rt_deadlinesOk (F : Nat → Int32) (G : Nat → Int64) (A : Nat → Int32 → Int32) (B : Nat → Int32 → Int64) (v0 : Int32) (r : Int32) (e : v0 = r) : some (Value.int v0) = some (.int r) ∧ (7, F, G, A, B) = (7, F, G, A, B) := by subst e; exact ⟨rfl, rfl⟩
def lp_deadlinesOk : Nat → Nat → Int32 → Int32 → (Nat → Int32) → (Nat → Int32 → Int32) → Option (Int32)
  | 0, _, _, _, _, _ => none
  | n + 1, tag, v1, v2, F, A => if tag = 2 then (if v2 < (F 2) then (if (¬ v2 < 0) ∧ (v2 < (8 : Int32)) ∧ ((en_gcd  v1 ((A 0) v2)).isSome = true) then (if ((A 2) v2) < (((2 : Int32) * v1) - (R_gcd  v1 ((A 0) v2))) then some ((0 : Int32)) else lp_deadlinesOk n 2 v1 (v2 + (1 : Int32)) F A) else none) else some ((1 : Int32))) else none
theorem lp_deadlinesOk_z (tag : Nat) (v1 : Int32) (v2 : Int32) (F : Nat → Int32) (A : Nat → Int32 → Int32) : lp_deadlinesOk 0 tag v1 v2 F A = none := Eq.trans rfl rfl
theorem lp_deadlinesOk_2 (n : Nat) (v1 : Int32) (v2 : Int32) (F : Nat → Int32) (A : Nat → Int32 → Int32) : lp_deadlinesOk (n + 1) 2 v1 v2 F A = (if v2 < (F 2) then (if (¬ v2 < 0) ∧ (v2 < (8 : Int32)) ∧ ((en_gcd  v1 ((A 0) v2)).isSome = true) then (if ((A 2) v2) < (((2 : Int32) * v1) - (R_gcd  v1 ((A 0) v2))) then some ((0 : Int32)) else lp_deadlinesOk n 2 v1 (v2 + (1 : Int32)) F A) else none) else some ((1 : Int32))) := by
  rw [lp_deadlinesOk, if_pos rfl]
set_option maxRecDepth 65536 in
set_option maxHeartbeats 4000000 in
theorem lpw_deadlinesOk {l : Launch} {Z : State} {a0 : Array Value} (H : OK Z a0) (F : Nat → Int32) (G : Nat → Int64) (A : Nat → Int32 → Int32) (B : Nat → Int32 → Int64) : ∀ (n : Nat) (v1 : Int32) (v2 : Int32) (r : Int32), (lp_deadlinesOk n 2 v1 v2 F A = some r → Wk l Z (MoC Z cdC) md_deadlinesOk 2 [.val (.ref 0), .val (.int v1), .val (.int v2), .unset] [] (7, F, G, A, B) 0 0 (fun v w' => v = some (.int r) ∧ w' = (7, F, G, A, B))) := by
  intro n
  induction n with
  | zero =>
    intro v1 v2  r
    exact (fun h => by rw [lp_deadlinesOk_z] at h; cases h)
  | succ n ih =>
    intro v1 v2  r
    refine fun h => ?_
    · rw [lp_deadlinesOk_2] at h
      exact wp_deadlinesOk_2 H F G A B v1 v2 (fun q1 => (rt_deadlinesOk _ _ _ _ _ r (Option.some.inj (ifn q1 h)))) (fun q1 => (gd (ifp q1 h)).1.1) (fun q1 => (gd (ifp q1 h)).1.2.1) (fun q1 => (gd (ifp q1 h)).1.2.2) (fun q1 q6 => (ih _ _ _) (ifn q6 (gd (ifp q1 h)).2)) (fun q1 q6 => (rt_deadlinesOk _ _ _ _ _ r (Option.some.inj (ifp q6 (gd (ifp q1 h)).2))))
def en_deadlinesOk (F : Nat → Int32) (A : Nat → Int32 → Int32) (p1 : Int32) : Option (Int32) := lp_deadlinesOk 20000 2 p1 (0 : Int32) F A
theorem een_deadlinesOk (F : Nat → Int32) (A : Nat → Int32 → Int32) (p1 : Int32) : en_deadlinesOk F A p1 = lp_deadlinesOk 20000 2 p1 (0 : Int32) F A := Eq.trans rfl rfl
def R_deadlinesOk (F : Nat → Int32) (A : Nat → Int32 → Int32) (p1 : Int32) : Int32 := (en_deadlinesOk F A p1).getD (0)
theorem eR_deadlinesOk (F : Nat → Int32) (A : Nat → Int32 → Int32) (p1 : Int32) : R_deadlinesOk F A p1 = (en_deadlinesOk F A p1).getD (0) := Eq.trans rfl rfl
set_option maxRecDepth 65536 in
set_option maxHeartbeats 4000000 in
theorem run_deadlinesOk {l : Launch} {Z : State} {a0 : Array Value} (H : OK Z a0) (F : Nat → Int32) (G : Nat → Int64) (A : Nat → Int32 → Int32) (B : Nat → Int32 → Int64) (p1 : Int32) (e1 : (en_deadlinesOk F A p1).isSome = true) :
    Wk l Z (MoC Z cdC) md_deadlinesOk 0 [.val (.ref 0), .val (.int p1), .unset, .unset] [] (7, F, G, A, B) 0 0 (fun v w' => v = some (.int (R_deadlinesOk F A p1)) ∧ w' = (7, F, G, A, B)) := by
  obtain ⟨r, h⟩ := Option.isSome_iff_exists.mp e1
  have e : R_deadlinesOk F A p1 = r := (eR_deadlinesOk F A p1).trans (getD_some h)
  rw [e]
  rw [een_deadlinesOk] at h
  exact wp_deadlinesOk H F G A B p1 ((lpw_deadlinesOk H F G A B _ _ _ _) h)
set_option maxRecDepth 65536 in
set_option maxHeartbeats 4000000 in
theorem wp_initJobs {l : Launch} {Z : State} {a0 : Array Value} (H : OK Z a0) (F : Nat → Int32) (G : Nat → Int64) (A : Nat → Int32 → Int32) (B : Nat → Int32 → Int64) {Q : Option Value → WO → Prop} (h1 : Wk l Z (MoC Z cdC) md_initJobs 2 [.val (.ref 0), .val (.int (0 : Int32)), .unset, .unset] [] (7, F, G, A, B) 0 0 Q) :
    Wk l Z (MoC Z cdC) md_initJobs 0 [.val (.ref 0), .unset, .unset, .unset] [] (7, F, G, A, B) 0 0 Q := by
  refine Wk.iconst o_initJobs_0 (z := (0 : Int32)) (by decide) ?_
  refine Wk.istoreN o_initJobs_1 (Or.inl rfl) (L' := [.val (.ref 0), .val (.int (0 : Int32)), .unset, .unset]) rfl ?_
  exact h1

set_option maxRecDepth 65536 in
set_option maxHeartbeats 4000000 in
theorem wp_initJobs_2 {l : Launch} {Z : State} {a0 : Array Value} (H : OK Z a0) (F : Nat → Int32) (G : Nat → Int64) (A : Nat → Int32 → Int32) (B : Nat → Int32 → Int64) (v1 : Int32) {Q : Option Value → WO → Prop} (h2 : ¬ v1 < (F 2) → Q none (7, F, G, A, B)) (s3 : v1 < (F 2) → ¬ v1 < 0) (s4 : v1 < (F 2) → v1 < (8 : Int32)) (s5 : v1 < (F 2) → ¬ ((A 0) v1) = (0 : Int32)) (h6 : v1 < (F 2) → Wk l Z (MoC Z cdC) md_initJobs 24 [.val (.ref 0), .val (.int v1), .val (.int ((F 3) / ((A 0) v1))), .val (.int (0 : Int32))] [] (7, F, G, A, B) 0 0 Q) :
    Wk l Z (MoC Z cdC) md_initJobs 2 [.val (.ref 0), .val (.int v1), .unset, .unset] [] (7, F, G, A, B) 0 0 Q := by
  refine Wk.iloadN o_initJobs_2 rfl ?_
  refine Wk.aloadN o_initJobs_3 rfl ?_
  refine Wk.getI (mI_count) (wf_count H) o_initJobs_4 (x := (F 2)) rfl ?_
  refine Wk.icmp_ge o_initJobs_7 (fun q1 => ?_) (fun q1 => ?_)
  · exact Wk.ret mrC rfl o_initJobs_66 rfl (by decide) (by decide) (h2 q1)
  · refine Wk.aloadN o_initJobs_10 rfl ?_
    refine Wk.getI (mI_hyper) (wf_hyper H) o_initJobs_11 (x := (F 3)) rfl ?_
    refine Wk.aloadN o_initJobs_14 rfl ?_
    refine Wk.getA (mA_per) (by decide) (i' := 1) rfl (wf_per H) o_initJobs_15 ?_
    refine Wk.iloadN o_initJobs_18 rfl ?_
    refine Wk.iaload (mA_per) (by decide) (i' := 1) rfl (s3 q1) (s4 q1) o_initJobs_19 (y := ((A 0) v1)) rfl ?_
    refine Wk.idiv o_initJobs_20 (s5 q1) ?_
    refine Wk.istoreN o_initJobs_21 (Or.inl rfl) (L' := [.val (.ref 0), .val (.int v1), .val (.int ((F 3) / ((A 0) v1))), .unset]) rfl ?_
    refine Wk.iconst o_initJobs_22 (z := (0 : Int32)) (by decide) ?_
    refine Wk.istoreN o_initJobs_23 (Or.inl rfl) (L' := [.val (.ref 0), .val (.int v1), .val (.int ((F 3) / ((A 0) v1))), .val (.int (0 : Int32))]) rfl ?_
    exact (h6 q1)

set_option maxRecDepth 65536 in
set_option maxHeartbeats 4000000 in
theorem wp_initJobs_24 {l : Launch} {Z : State} {a0 : Array Value} (H : OK Z a0) (F : Nat → Int32) (G : Nat → Int64) (A : Nat → Int32 → Int32) (B : Nat → Int32 → Int64) (v1 : Int32) (v2 : Int32) (v3 : Int32) {Q : Option Value → WO → Prop} (h2 : ¬ v3 < v2 → Wk l Z (MoC Z cdC) md_initJobs 2 [.val (.ref 0), .val (.int (v1 + (1 : Int32))), .unset, .unset] [] (7, F, G, A, B) 0 0 Q) (h4 : v3 < v2 → ¬ v3 < (128 : Int32) → Wk l Z (MoC Z cdC) md_initJobs 2 [.val (.ref 0), .val (.int (v1 + (1 : Int32))), .unset, .unset] [] (7, F, G, A, B) 0 0 Q) (s5 : v3 < v2 → v3 < (128 : Int32) → ¬ v1 < 0) (s6 : v3 < v2 → v3 < (128 : Int32) → v1 < (8 : Int32)) (s7 : v3 < v2 → v3 < (128 : Int32) → ¬ ((v1 * (128 : Int32)) + v3) < 0) (s8 : v3 < v2 → v3 < (128 : Int32) → ((v1 * (128 : Int32)) + v3) < (1024 : Int32)) (h9 : v3 < v2 → v3 < (128 : Int32) → Wk l Z (MoC Z cdC) md_initJobs 24 [.val (.ref 0), .val (.int v1), .val (.int v2), .val (.int (v3 + (1 : Int32)))] [] (7, F, G, (ups A 6 (ups (A 6) ((v1 * (128 : Int32)) + v3) ((A 1) v1))), B) 0 0 Q) :
    Wk l Z (MoC Z cdC) md_initJobs 24 [.val (.ref 0), .val (.int v1), .val (.int v2), .val (.int v3)] [] (7, F, G, A, B) 0 0 Q := by
  refine Wk.iloadN o_initJobs_24 rfl ?_
  refine Wk.iloadN o_initJobs_25 rfl ?_
  refine Wk.icmp_ge o_initJobs_26 (fun q1 => ?_) (fun q1 => ?_)
  · refine Wk.iinc o_initJobs_60 rfl (z := (v1 + (1 : Int32))) rfl (L' := [.val (.ref 0), .val (.int (v1 + (1 : Int32))), .val (.int v2), .val (.int v3)]) rfl ?_
    refine Wk.goto o_initJobs_63 ?_
    refine Wk.forget [false, false, true, true] (L' := [.val (.ref 0), .val (.int (v1 + (1 : Int32))), .unset, .unset]) rfl rfl ?_
    exact (h2 q1)
  · refine Wk.iloadN o_initJobs_29 rfl ?_
    refine Wk.sipush o_initJobs_30 (z := (128 : Int32)) (by decide) ?_
    refine Wk.icmp_ge o_initJobs_33 (fun q3 => ?_) (fun q3 => ?_)
    · refine Wk.iinc o_initJobs_60 rfl (z := (v1 + (1 : Int32))) rfl (L' := [.val (.ref 0), .val (.int (v1 + (1 : Int32))), .val (.int v2), .val (.int v3)]) rfl ?_
      refine Wk.goto o_initJobs_63 ?_
      refine Wk.forget [false, false, true, true] (L' := [.val (.ref 0), .val (.int (v1 + (1 : Int32))), .unset, .unset]) rfl rfl ?_
      exact (h4 q1 q3)
    · refine Wk.aloadN o_initJobs_36 rfl ?_
      refine Wk.getA (mA_rem) (by decide) (i' := 7) rfl (wf_rem H) o_initJobs_37 ?_
      refine Wk.iloadN o_initJobs_40 rfl ?_
      refine Wk.sipush o_initJobs_41 (z := (128 : Int32)) (by decide) ?_
      refine Wk.imul o_initJobs_44 ?_
      refine Wk.iloadN o_initJobs_45 rfl ?_
      refine Wk.iadd o_initJobs_46 ?_
      refine Wk.aloadN o_initJobs_47 rfl ?_
      refine Wk.getA (mA_exe) (by decide) (i' := 2) rfl (wf_exe H) o_initJobs_48 ?_
      refine Wk.iloadN o_initJobs_51 rfl ?_
      refine Wk.iaload (mA_exe) (by decide) (i' := 2) rfl (s5 q1 q3) (s6 q1 q3) o_initJobs_52 (y := ((A 1) v1)) rfl ?_
      refine Wk.iastore (coC H) (f := (A 6)) (mA_rem) rfl (by decide) (i' := 7) rfl (s7 q1 q3) (s8 q1 q3) o_initJobs_53 ?_
      refine Wk.iinc o_initJobs_54 rfl (z := (v3 + (1 : Int32))) rfl (L' := [.val (.ref 0), .val (.int v1), .val (.int v2), .val (.int (v3 + (1 : Int32)))]) rfl ?_
      refine Wk.goto o_initJobs_57 ?_
      exact (h9 q1 q3)

theorem rt_initJobs (F : Nat → Int32) (G : Nat → Int64) (B : Nat → Int32 → Int64) (v0 : Int32) (xA : Nat → Int32 → Int32) (r : Int32 × (Nat → Int32 → Int32)) (e : (v0, xA) = r) : (none : Option Value) = none ∧ (7, F, G, xA, B) = (7, F, G, r.2, B) := by subst e; exact ⟨rfl, rfl⟩
def lp_initJobs : Nat → Nat → Int32 → Int32 → Int32 → (Nat → Int32) → (Nat → Int32 → Int32) → Option (Int32 × (Nat → Int32 → Int32))
  | 0, _, _, _, _, _, _ => none
  | n + 1, tag, v1, v2, v3, F, A => if tag = 2 then (if v1 < (F 2) then (if (¬ v1 < 0) ∧ (v1 < (8 : Int32)) ∧ (¬ ((A 0) v1) = (0 : Int32)) then lp_initJobs n 24 v1 ((F 3) / ((A 0) v1)) (0 : Int32) F A else none) else some ((0 : Int32), A)) else if tag = 24 then (if v3 < v2 then (if v3 < (128 : Int32) then (if (¬ v1 < 0) ∧ (v1 < (8 : Int32)) ∧ (¬ ((v1 * (128 : Int32)) + v3) < 0) ∧ (((v1 * (128 : Int32)) + v3) < (1024 : Int32)) then lp_initJobs n 24 v1 v2 (v3 + (1 : Int32)) F (ups A 6 (ups (A 6) ((v1 * (128 : Int32)) + v3) ((A 1) v1))) else none) else lp_initJobs n 2 (v1 + (1 : Int32)) 0 0 F A) else lp_initJobs n 2 (v1 + (1 : Int32)) 0 0 F A) else none
theorem lp_initJobs_z (tag : Nat) (v1 : Int32) (v2 : Int32) (v3 : Int32) (F : Nat → Int32) (A : Nat → Int32 → Int32) : lp_initJobs 0 tag v1 v2 v3 F A = none := Eq.trans rfl rfl
theorem lp_initJobs_2 (n : Nat) (v1 : Int32) (v2 : Int32) (v3 : Int32) (F : Nat → Int32) (A : Nat → Int32 → Int32) : lp_initJobs (n + 1) 2 v1 v2 v3 F A = (if v1 < (F 2) then (if (¬ v1 < 0) ∧ (v1 < (8 : Int32)) ∧ (¬ ((A 0) v1) = (0 : Int32)) then lp_initJobs n 24 v1 ((F 3) / ((A 0) v1)) (0 : Int32) F A else none) else some ((0 : Int32), A)) := by
  rw [lp_initJobs, if_pos rfl]
theorem lp_initJobs_24 (n : Nat) (v1 : Int32) (v2 : Int32) (v3 : Int32) (F : Nat → Int32) (A : Nat → Int32 → Int32) : lp_initJobs (n + 1) 24 v1 v2 v3 F A = (if v3 < v2 then (if v3 < (128 : Int32) then (if (¬ v1 < 0) ∧ (v1 < (8 : Int32)) ∧ (¬ ((v1 * (128 : Int32)) + v3) < 0) ∧ (((v1 * (128 : Int32)) + v3) < (1024 : Int32)) then lp_initJobs n 24 v1 v2 (v3 + (1 : Int32)) F (ups A 6 (ups (A 6) ((v1 * (128 : Int32)) + v3) ((A 1) v1))) else none) else lp_initJobs n 2 (v1 + (1 : Int32)) 0 0 F A) else lp_initJobs n 2 (v1 + (1 : Int32)) 0 0 F A) := by
  rw [lp_initJobs, if_neg (by decide), if_pos rfl]
set_option maxRecDepth 65536 in
set_option maxHeartbeats 4000000 in
theorem lpw_initJobs {l : Launch} {Z : State} {a0 : Array Value} (H : OK Z a0) (F : Nat → Int32) (G : Nat → Int64) (B : Nat → Int32 → Int64) : ∀ (n : Nat) (v1 : Int32) (v2 : Int32) (v3 : Int32) (A : Nat → Int32 → Int32) (r : Int32 × (Nat → Int32 → Int32)), (lp_initJobs n 2 v1 v2 v3 F A = some r → Wk l Z (MoC Z cdC) md_initJobs 2 [.val (.ref 0), .val (.int v1), .unset, .unset] [] (7, F, G, A, B) 0 0 (fun v w' => v = none ∧ w' = (7, F, G, r.2, B))) ∧ (lp_initJobs n 24 v1 v2 v3 F A = some r → Wk l Z (MoC Z cdC) md_initJobs 24 [.val (.ref 0), .val (.int v1), .val (.int v2), .val (.int v3)] [] (7, F, G, A, B) 0 0 (fun v w' => v = none ∧ w' = (7, F, G, r.2, B))) := by
  intro n
  induction n with
  | zero =>
    intro v1 v2 v3 A r
    exact ⟨(fun h => by rw [lp_initJobs_z] at h; cases h), (fun h => by rw [lp_initJobs_z] at h; cases h)⟩
  | succ n ih =>
    intro v1 v2 v3 A r
    refine ⟨fun h => ?_, fun h => ?_⟩
    · rw [lp_initJobs_2] at h
      exact wp_initJobs_2 H F G A B v1 (fun q1 => (rt_initJobs _ _ _ _ _ r (Option.some.inj (ifn q1 h)))) (fun q1 => (gd (ifp q1 h)).1.1) (fun q1 => (gd (ifp q1 h)).1.2.1) (fun q1 => (gd (ifp q1 h)).1.2.2) (fun q1 => (ih _ _ _ _ _).2 (gd (ifp q1 h)).2)
    · rw [lp_initJobs_24] at h
      exact wp_initJobs_24 H F G A B v1 v2 v3 (fun q1 => (ih _ _ _ _ _).1 (ifn q1 h)) (fun q1 q3 => (ih _ _ _ _ _).1 (ifn q3 (ifp q1 h))) (fun q1 q3 => (gd (ifp q3 (ifp q1 h))).1.1) (fun q1 q3 => (gd (ifp q3 (ifp q1 h))).1.2.1) (fun q1 q3 => (gd (ifp q3 (ifp q1 h))).1.2.2.1) (fun q1 q3 => (gd (ifp q3 (ifp q1 h))).1.2.2.2) (fun q1 q3 => (ih _ _ _ _ _).2 (gd (ifp q3 (ifp q1 h))).2)
def en_initJobs (F : Nat → Int32) (A : Nat → Int32 → Int32) : Option (Int32 × (Nat → Int32 → Int32)) := lp_initJobs 20000 2 (0 : Int32) 0 0 F A
theorem een_initJobs (F : Nat → Int32) (A : Nat → Int32 → Int32) : en_initJobs F A  = lp_initJobs 20000 2 (0 : Int32) 0 0 F A := Eq.trans rfl rfl
def R_initJobs (F : Nat → Int32) (A : Nat → Int32 → Int32) : Int32 × (Nat → Int32 → Int32) := (en_initJobs F A ).getD (0, (fun _ _ => 0))
theorem eR_initJobs (F : Nat → Int32) (A : Nat → Int32 → Int32) : R_initJobs F A  = (en_initJobs F A ).getD (0, (fun _ _ => 0)) := Eq.trans rfl rfl
set_option maxRecDepth 65536 in
set_option maxHeartbeats 4000000 in
theorem run_initJobs {l : Launch} {Z : State} {a0 : Array Value} (H : OK Z a0) (F : Nat → Int32) (G : Nat → Int64) (A : Nat → Int32 → Int32) (B : Nat → Int32 → Int64) (e1 : (en_initJobs F A ).isSome = true) :
    Wk l Z (MoC Z cdC) md_initJobs 0 [.val (.ref 0), .unset, .unset, .unset] [] (7, F, G, A, B) 0 0 (fun v w' => v = none ∧ w' = (7, F, G, (R_initJobs F A ).2, B)) := by
  obtain ⟨r, h⟩ := Option.isSome_iff_exists.mp e1
  have e : R_initJobs F A  = r := (eR_initJobs F A ).trans (getD_some h)
  rw [e]
  rw [een_initJobs] at h
  exact wp_initJobs H F G A B  ((lpw_initJobs H F G B _ _ _ _ _ _).1 h)
set_option maxRecDepth 65536 in
set_option maxHeartbeats 4000000 in
theorem wp_pickJob {l : Launch} {Z : State} {a0 : Array Value} (H : OK Z a0) (F : Nat → Int32) (G : Nat → Int64) (A : Nat → Int32 → Int32) (B : Nat → Int32 → Int64) (p1 : Int32) (p2 : Int32) {Q : Option Value → WO → Prop} (h1 : Wk l Z (MoC Z cdC) md_pickJob 8 [.val (.ref 0), .val (.int p1), .val (.int p2), .val (.int (-1 : Int32)), .val (.int (0 : Int32)), .val (.int (0 : Int32)), .unset, .unset, .unset] [] (7, F, G, A, B) 0 0 Q) :
    Wk l Z (MoC Z cdC) md_pickJob 0 [.val (.ref 0), .val (.int p1), .val (.int p2), .unset, .unset, .unset, .unset, .unset, .unset] [] (7, F, G, A, B) 0 0 Q := by
  refine Wk.iconst o_pickJob_0 (z := (-1 : Int32)) (by decide) ?_
  refine Wk.istoreN o_pickJob_1 (Or.inl rfl) (L' := [.val (.ref 0), .val (.int p1), .val (.int p2), .val (.int (-1 : Int32)), .unset, .unset, .unset, .unset, .unset]) rfl ?_
  refine Wk.iconst o_pickJob_2 (z := (0 : Int32)) (by decide) ?_
  refine Wk.istore o_pickJob_3 (Or.inl rfl) (L' := [.val (.ref 0), .val (.int p1), .val (.int p2), .val (.int (-1 : Int32)), .val (.int (0 : Int32)), .unset, .unset, .unset, .unset]) rfl ?_
  refine Wk.iconst o_pickJob_5 (z := (0 : Int32)) (by decide) ?_
  refine Wk.istore o_pickJob_6 (Or.inl rfl) (L' := [.val (.ref 0), .val (.int p1), .val (.int p2), .val (.int (-1 : Int32)), .val (.int (0 : Int32)), .val (.int (0 : Int32)), .unset, .unset, .unset]) rfl ?_
  exact h1

set_option maxRecDepth 65536 in
set_option maxHeartbeats 4000000 in
theorem wp_pickJob_8 {l : Launch} {Z : State} {a0 : Array Value} (H : OK Z a0) (F : Nat → Int32) (G : Nat → Int64) (A : Nat → Int32 → Int32) (B : Nat → Int32 → Int64) (v1 : Int32) (v2 : Int32) (v3 : Int32) (v4 : Int32) (v5 : Int32) {Q : Option Value → WO → Prop} (h2 : ¬ v5 < (F 2) → Q (some (.int v3)) (7, F, G, A, B)) (s3 : v5 < (F 2) → ¬ v5 < 0) (s4 : v5 < (F 2) → v5 < (8 : Int32)) (s5 : v5 < (F 2) → ¬ ((A 0) v5) = (0 : Int32)) (s8 : v5 < (F 2) → ¬ ((v1 * v2) / ((A 0) v5)) < 0 → ((v1 * v2) / ((A 0) v5)) < (128 : Int32) → ¬ v5 < 0) (s9 : v5 < (F 2) → ¬ ((v1 * v2) / ((A 0) v5)) < 0 → ((v1 * v2) / ((A 0) v5)) < (128 : Int32) → v5 < (8 : Int32)) (s11 : v5 < (F 2) → ¬ ((v1 * v2) / ((A 0) v5)) < 0 → ((v1 * v2) / ((A 0) v5)) < (128 : Int32) → ¬ ((((v1 * v2) / ((A 0) v5)) * ((A 0) v5)) + ((A 2) v5)) < ((v1 + (1 : Int32)) * v2) → ¬ ((v5 * (128 : Int32)) + ((v1 * v2) / ((A 0) v5))) < 0) (s12 : v5 < (F 2) → ¬ ((v1 * v2) / ((A 0) v5)) < 0 → ((v1 * v2) / ((A 0) v5)) < (128 : Int32) → ¬ ((((v1 * v2) / ((A 0) v5)) * ((A 0) v5)) + ((A 2) v5)) < ((v1 + (1 : Int32)) * v2) → ((v5 * (128 : Int32)) + ((v1 * v2) / ((A 0) v5))) < (1024 : Int32)) (h22 : v5 < (F 2) → Wk l Z (MoC Z cdC) md_pickJob 8 [.val (.ref 0), .val (.int v1), .val (.int v2), .val (.int (if ((v1 * v2) / ((A 0) v5)) < 0 then v3 else (if ((v1 * v2) / ((A 0) v5)) < (128 : Int32) then (if ((((v1 * v2) / ((A 0) v5)) * ((A 0) v5)) + ((A 2) v5)) < ((v1 + (1 : Int32)) * v2) then v3 else (if 0 < ((A 6) ((v5 * (128 : Int32)) + ((v1 * v2) / ((A 0) v5)))) then (if v3 < 0 then ((v5 * (128 : Int32)) + ((v1 * v2) / ((A 0) v5))) else (if ((((v1 * v2) / ((A 0) v5)) * ((A 0) v5)) + ((A 2) v5)) < v4 then ((v5 * (128 : Int32)) + ((v1 * v2) / ((A 0) v5))) else v3)) else v3)) else v3))), .val (.int (if ((v1 * v2) / ((A 0) v5)) < 0 then v4 else (if ((v1 * v2) / ((A 0) v5)) < (128 : Int32) then (if ((((v1 * v2) / ((A 0) v5)) * ((A 0) v5)) + ((A 2) v5)) < ((v1 + (1 : Int32)) * v2) then v4 else (if 0 < ((A 6) ((v5 * (128 : Int32)) + ((v1 * v2) / ((A 0) v5)))) then (if v3 < 0 then ((((v1 * v2) / ((A 0) v5)) * ((A 0) v5)) + ((A 2) v5)) else (if ((((v1 * v2) / ((A 0) v5)) * ((A 0) v5)) + ((A 2) v5)) < v4 then ((((v1 * v2) / ((A 0) v5)) * ((A 0) v5)) + ((A 2) v5)) else v4)) else v4)) else v4))), .val (.int (v5 + (1 : Int32))), .unset, .unset, .unset] [] (7, F, G, A, B) 0 0 Q) :
    Wk l Z (MoC Z cdC) md_pickJob 8 [.val (.ref 0), .val (.int v1), .val (.int v2), .val (.int v3), .val (.int v4), .val (.int v5), .unset, .unset, .unset] [] (7, F, G, A, B) 0 0 Q := by
  refine Wk.iload o_pickJob_8 rfl ?_
  refine Wk.aloadN o_pickJob_10 rfl ?_
  refine Wk.getI (mI_count) (wf_count H) o_pickJob_11 (x := (F 2)) rfl ?_
  refine Wk.icmp_ge o_pickJob_14 (fun q1 => ?_) (fun q1 => ?_)
  · refine Wk.iloadN o_pickJob_127 rfl ?_
    exact Wk.ireturn mrC rfl o_pickJob_128 rfl (by decide) (by decide) (h2 q1)
  · refine Wk.iloadN o_pickJob_17 rfl ?_
    refine Wk.iloadN o_pickJob_18 rfl ?_
    refine Wk.imul o_pickJob_19 ?_
    refine Wk.aloadN o_pickJob_20 rfl ?_
    refine Wk.getA (mA_per) (by decide) (i' := 1) rfl (wf_per H) o_pickJob_21 ?_
    refine Wk.iload o_pickJob_24 rfl ?_
    refine Wk.iaload (mA_per) (by decide) (i' := 1) rfl (s3 q1) (s4 q1) o_pickJob_26 (y := ((A 0) v5)) rfl ?_
    refine Wk.idiv o_pickJob_27 (s5 q1) ?_
    refine Wk.istore o_pickJob_28 (Or.inl rfl) (L' := [.val (.ref 0), .val (.int v1), .val (.int v2), .val (.int v3), .val (.int v4), .val (.int v5), .val (.int ((v1 * v2) / ((A 0) v5))), .unset, .unset]) rfl ?_
    refine Wk.iload o_pickJob_30 rfl ?_
    have J21 : Wk l Z (MoC Z cdC) md_pickJob 121 [.val (.ref 0), .val (.int v1), .val (.int v2), .val (.int (if ((v1 * v2) / ((A 0) v5)) < 0 then v3 else (if ((v1 * v2) / ((A 0) v5)) < (128 : Int32) then (if ((((v1 * v2) / ((A 0) v5)) * ((A 0) v5)) + ((A 2) v5)) < ((v1 + (1 : Int32)) * v2) then v3 else (if 0 < ((A 6) ((v5 * (128 : Int32)) + ((v1 * v2) / ((A 0) v5)))) then (if v3 < 0 then ((v5 * (128 : Int32)) + ((v1 * v2) / ((A 0) v5))) else (if ((((v1 * v2) / ((A 0) v5)) * ((A 0) v5)) + ((A 2) v5)) < v4 then ((v5 * (128 : Int32)) + ((v1 * v2) / ((A 0) v5))) else v3)) else v3)) else v3))), .val (.int (if ((v1 * v2) / ((A 0) v5)) < 0 then v4 else (if ((v1 * v2) / ((A 0) v5)) < (128 : Int32) then (if ((((v1 * v2) / ((A 0) v5)) * ((A 0) v5)) + ((A 2) v5)) < ((v1 + (1 : Int32)) * v2) then v4 else (if 0 < ((A 6) ((v5 * (128 : Int32)) + ((v1 * v2) / ((A 0) v5)))) then (if v3 < 0 then ((((v1 * v2) / ((A 0) v5)) * ((A 0) v5)) + ((A 2) v5)) else (if ((((v1 * v2) / ((A 0) v5)) * ((A 0) v5)) + ((A 2) v5)) < v4 then ((((v1 * v2) / ((A 0) v5)) * ((A 0) v5)) + ((A 2) v5)) else v4)) else v4)) else v4))), .val (.int v5), .val (.int ((v1 * v2) / ((A 0) v5))), .unset, .unset] [] (7, F, G, A, B) 0 0 Q := by
      refine Wk.iinc o_pickJob_121 rfl (z := (v5 + (1 : Int32))) rfl (L' := [.val (.ref 0), .val (.int v1), .val (.int v2), .val (.int (if ((v1 * v2) / ((A 0) v5)) < 0 then v3 else (if ((v1 * v2) / ((A 0) v5)) < (128 : Int32) then (if ((((v1 * v2) / ((A 0) v5)) * ((A 0) v5)) + ((A 2) v5)) < ((v1 + (1 : Int32)) * v2) then v3 else (if 0 < ((A 6) ((v5 * (128 : Int32)) + ((v1 * v2) / ((A 0) v5)))) then (if v3 < 0 then ((v5 * (128 : Int32)) + ((v1 * v2) / ((A 0) v5))) else (if ((((v1 * v2) / ((A 0) v5)) * ((A 0) v5)) + ((A 2) v5)) < v4 then ((v5 * (128 : Int32)) + ((v1 * v2) / ((A 0) v5))) else v3)) else v3)) else v3))), .val (.int (if ((v1 * v2) / ((A 0) v5)) < 0 then v4 else (if ((v1 * v2) / ((A 0) v5)) < (128 : Int32) then (if ((((v1 * v2) / ((A 0) v5)) * ((A 0) v5)) + ((A 2) v5)) < ((v1 + (1 : Int32)) * v2) then v4 else (if 0 < ((A 6) ((v5 * (128 : Int32)) + ((v1 * v2) / ((A 0) v5)))) then (if v3 < 0 then ((((v1 * v2) / ((A 0) v5)) * ((A 0) v5)) + ((A 2) v5)) else (if ((((v1 * v2) / ((A 0) v5)) * ((A 0) v5)) + ((A 2) v5)) < v4 then ((((v1 * v2) / ((A 0) v5)) * ((A 0) v5)) + ((A 2) v5)) else v4)) else v4)) else v4))), .val (.int (v5 + (1 : Int32))), .val (.int ((v1 * v2) / ((A 0) v5))), .unset, .unset]) rfl ?_
      refine Wk.goto o_pickJob_124 ?_
      refine Wk.forget [false, false, false, false, false, false, true, false, false] (L' := [.val (.ref 0), .val (.int v1), .val (.int v2), .val (.int (if ((v1 * v2) / ((A 0) v5)) < 0 then v3 else (if ((v1 * v2) / ((A 0) v5)) < (128 : Int32) then (if ((((v1 * v2) / ((A 0) v5)) * ((A 0) v5)) + ((A 2) v5)) < ((v1 + (1 : Int32)) * v2) then v3 else (if 0 < ((A 6) ((v5 * (128 : Int32)) + ((v1 * v2) / ((A 0) v5)))) then (if v3 < 0 then ((v5 * (128 : Int32)) + ((v1 * v2) / ((A 0) v5))) else (if ((((v1 * v2) / ((A 0) v5)) * ((A 0) v5)) + ((A 2) v5)) < v4 then ((v5 * (128 : Int32)) + ((v1 * v2) / ((A 0) v5))) else v3)) else v3)) else v3))), .val (.int (if ((v1 * v2) / ((A 0) v5)) < 0 then v4 else (if ((v1 * v2) / ((A 0) v5)) < (128 : Int32) then (if ((((v1 * v2) / ((A 0) v5)) * ((A 0) v5)) + ((A 2) v5)) < ((v1 + (1 : Int32)) * v2) then v4 else (if 0 < ((A 6) ((v5 * (128 : Int32)) + ((v1 * v2) / ((A 0) v5)))) then (if v3 < 0 then ((((v1 * v2) / ((A 0) v5)) * ((A 0) v5)) + ((A 2) v5)) else (if ((((v1 * v2) / ((A 0) v5)) * ((A 0) v5)) + ((A 2) v5)) < v4 then ((((v1 * v2) / ((A 0) v5)) * ((A 0) v5)) + ((A 2) v5)) else v4)) else v4)) else v4))), .val (.int (v5 + (1 : Int32))), .unset, .unset, .unset]) rfl rfl ?_
      exact (h22 q1)
    refine Wk.if_lt o_pickJob_32 (fun q6 => ?_) (fun q6 => ?_)
    · first | (rw [show ((if ((v1 * v2) / ((A 0) v5)) < 0 then v3 else (if ((v1 * v2) / ((A 0) v5)) < (128 : Int32) then (if ((((v1 * v2) / ((A 0) v5)) * ((A 0) v5)) + ((A 2) v5)) < ((v1 + (1 : Int32)) * v2) then v3 else (if 0 < ((A 6) ((v5 * (128 : Int32)) + ((v1 * v2) / ((A 0) v5)))) then (if v3 < 0 then ((v5 * (128 : Int32)) + ((v1 * v2) / ((A 0) v5))) else (if ((((v1 * v2) / ((A 0) v5)) * ((A 0) v5)) + ((A 2) v5)) < v4 then ((v5 * (128 : Int32)) + ((v1 * v2) / ((A 0) v5))) else v3)) else v3)) else v3)) : Int32) = v3 from if_pos q6, show ((if ((v1 * v2) / ((A 0) v5)) < 0 then v4 else (if ((v1 * v2) / ((A 0) v5)) < (128 : Int32) then (if ((((v1 * v2) / ((A 0) v5)) * ((A 0) v5)) + ((A 2) v5)) < ((v1 + (1 : Int32)) * v2) then v4 else (if 0 < ((A 6) ((v5 * (128 : Int32)) + ((v1 * v2) / ((A 0) v5)))) then (if v3 < 0 then ((((v1 * v2) / ((A 0) v5)) * ((A 0) v5)) + ((A 2) v5)) else (if ((((v1 * v2) / ((A 0) v5)) * ((A 0) v5)) + ((A 2) v5)) < v4 then ((((v1 * v2) / ((A 0) v5)) * ((A 0) v5)) + ((A 2) v5)) else v4)) else v4)) else v4)) : Int32) = v4 from if_pos q6] at J21; exact J21) | exact J21 | (simp only [if_pos q6] at J21 ⊢; exact J21)
    · refine Wk.iload o_pickJob_35 rfl ?_
      refine Wk.sipush o_pickJob_37 (z := (128 : Int32)) (by decide) ?_
      refine Wk.icmp_lt o_pickJob_40 (fun q7 => ?_) (fun q7 => ?_)
      · refine Wk.iload o_pickJob_46 rfl ?_
        refine Wk.aloadN o_pickJob_48 rfl ?_
        refine Wk.getA (mA_per) (by decide) (i' := 1) rfl (wf_per H) o_pickJob_49 ?_
        refine Wk.iload o_pickJob_52 rfl ?_
        refine Wk.iaload (mA_per) (by decide) (i' := 1) rfl (s8 q1 q6 q7) (s9 q1 q6 q7) o_pickJob_54 (y := ((A 0) v5)) rfl ?_
        refine Wk.imul o_pickJob_55 ?_
        refine Wk.aloadN o_pickJob_56 rfl ?_
        refine Wk.getA (mA_dl) (by decide) (i' := 3) rfl (wf_dl H) o_pickJob_57 ?_
        refine Wk.iload o_pickJob_60 rfl ?_
        refine Wk.iaload (mA_dl) (by decide) (i' := 3) rfl (s8 q1 q6 q7) (s9 q1 q6 q7) o_pickJob_62 (y := ((A 2) v5)) rfl ?_
        refine Wk.iadd o_pickJob_63 ?_
        refine Wk.istore o_pickJob_64 (Or.inl rfl) (L' := [.val (.ref 0), .val (.int v1), .val (.int v2), .val (.int v3), .val (.int v4), .val (.int v5), .val (.int ((v1 * v2) / ((A 0) v5))), .val (.int ((((v1 * v2) / ((A 0) v5)) * ((A 0) v5)) + ((A 2) v5))), .unset]) rfl ?_
        refine Wk.iloadN o_pickJob_66 rfl ?_
        refine Wk.iconst o_pickJob_67 (z := (1 : Int32)) (by decide) ?_
        refine Wk.iadd o_pickJob_68 ?_
        refine Wk.iloadN o_pickJob_69 rfl ?_
        refine Wk.imul o_pickJob_70 ?_
        refine Wk.iload o_pickJob_71 rfl ?_
        refine Wk.icmp_le o_pickJob_73 (fun q10 => ?_) (fun q10 => ?_)
        · refine Wk.iload o_pickJob_79 rfl ?_
          refine Wk.sipush o_pickJob_81 (z := (128 : Int32)) (by decide) ?_
          refine Wk.imul o_pickJob_84 ?_
          refine Wk.iload o_pickJob_85 rfl ?_
          refine Wk.iadd o_pickJob_87 ?_
          refine Wk.istore o_pickJob_88 (Or.inl rfl) (L' := [.val (.ref 0), .val (.int v1), .val (.int v2), .val (.int v3), .val (.int v4), .val (.int v5), .val (.int ((v1 * v2) / ((A 0) v5))), .val (.int ((((v1 * v2) / ((A 0) v5)) * ((A 0) v5)) + ((A 2) v5))), .val (.int ((v5 * (128 : Int32)) + ((v1 * v2) / ((A 0) v5))))]) rfl ?_
          refine Wk.aloadN o_pickJob_90 rfl ?_
          refine Wk.getA (mA_rem) (by decide) (i' := 7) rfl (wf_rem H) o_pickJob_91 ?_
          refine Wk.iload o_pickJob_94 rfl ?_
          refine Wk.iaload (mA_rem) (by decide) (i' := 7) rfl (s11 q1 q6 q7 q10) (s12 q1 q6 q7 q10) o_pickJob_96 (y := ((A 6) ((v5 * (128 : Int32)) + ((v1 * v2) / ((A 0) v5))))) rfl ?_
          refine Wk.if_gt o_pickJob_97 (fun q13 => ?_) (fun q13 => ?_)
          · refine Wk.iloadN o_pickJob_103 rfl ?_
            refine Wk.if_lt o_pickJob_104 (fun q14 => ?_) (fun q14 => ?_)
            · refine Wk.iload o_pickJob_114 rfl ?_
              refine Wk.istoreN o_pickJob_116 (Or.inr ⟨_, rfl, rfl⟩) (L' := [.val (.ref 0), .val (.int v1), .val (.int v2), .val (.int ((v5 * (128 : Int32)) + ((v1 * v2) / ((A 0) v5)))), .val (.int v4), .val (.int v5), .val (.int ((v1 * v2) / ((A 0) v5))), .val (.int ((((v1 * v2) / ((A 0) v5)) * ((A 0) v5)) + ((A 2) v5))), .val (.int ((v5 * (128 : Int32)) + ((v1 * v2) / ((A 0) v5))))]) rfl ?_
              refine Wk.iload o_pickJob_117 rfl ?_
              refine Wk.istore o_pickJob_119 (Or.inr ⟨_, rfl, rfl⟩) (L' := [.val (.ref 0), .val (.int v1), .val (.int v2), .val (.int ((v5 * (128 : Int32)) + ((v1 * v2) / ((A 0) v5)))), .val (.int ((((v1 * v2) / ((A 0) v5)) * ((A 0) v5)) + ((A 2) v5))), .val (.int v5), .val (.int ((v1 * v2) / ((A 0) v5))), .val (.int ((((v1 * v2) / ((A 0) v5)) * ((A 0) v5)) + ((A 2) v5))), .val (.int ((v5 * (128 : Int32)) + ((v1 * v2) / ((A 0) v5))))]) rfl ?_
              refine Wk.forget [false, false, false, false, false, false, false, true, true] (L' := [.val (.ref 0), .val (.int v1), .val (.int v2), .val (.int ((v5 * (128 : Int32)) + ((v1 * v2) / ((A 0) v5)))), .val (.int ((((v1 * v2) / ((A 0) v5)) * ((A 0) v5)) + ((A 2) v5))), .val (.int v5), .val (.int ((v1 * v2) / ((A 0) v5))), .unset, .unset]) rfl rfl ?_
              first | (rw [show ((if ((v1 * v2) / ((A 0) v5)) < 0 then v3 else (if ((v1 * v2) / ((A 0) v5)) < (128 : Int32) then (if ((((v1 * v2) / ((A 0) v5)) * ((A 0) v5)) + ((A 2) v5)) < ((v1 + (1 : Int32)) * v2) then v3 else (if 0 < ((A 6) ((v5 * (128 : Int32)) + ((v1 * v2) / ((A 0) v5)))) then (if v3 < 0 then ((v5 * (128 : Int32)) + ((v1 * v2) / ((A 0) v5))) else (if ((((v1 * v2) / ((A 0) v5)) * ((A 0) v5)) + ((A 2) v5)) < v4 then ((v5 * (128 : Int32)) + ((v1 * v2) / ((A 0) v5))) else v3)) else v3)) else v3)) : Int32) = ((v5 * (128 : Int32)) + ((v1 * v2) / ((A 0) v5))) from Eq.trans (if_neg q6) <| Eq.trans (if_pos q7) <| Eq.trans (if_neg q10) <| Eq.trans (if_pos q13) <| if_pos q14, show ((if ((v1 * v2) / ((A 0) v5)) < 0 then v4 else (if ((v1 * v2) / ((A 0) v5)) < (128 : Int32) then (if ((((v1 * v2) / ((A 0) v5)) * ((A 0) v5)) + ((A 2) v5)) < ((v1 + (1 : Int32)) * v2) then v4 else (if 0 < ((A 6) ((v5 * (128 : Int32)) + ((v1 * v2) / ((A 0) v5)))) then (if v3 < 0 then ((((v1 * v2) / ((A 0) v5)) * ((A 0) v5)) + ((A 2) v5)) else (if ((((v1 * v2) / ((A 0) v5)) * ((A 0) v5)) + ((A 2) v5)) < v4 then ((((v1 * v2) / ((A 0) v5)) * ((A 0) v5)) + ((A 2) v5)) else v4)) else v4)) else v4)) : Int32) = ((((v1 * v2) / ((A 0) v5)) * ((A 0) v5)) + ((A 2) v5)) from Eq.trans (if_neg q6) <| Eq.trans (if_pos q7) <| Eq.trans (if_neg q10) <| Eq.trans (if_pos q13) <| if_pos q14] at J21; exact J21) | exact J21 | (simp only [if_neg q6, if_pos q7, if_neg q10, if_pos q13, if_pos q14] at J21 ⊢; exact J21)
            · refine Wk.iload o_pickJob_107 rfl ?_
              refine Wk.iload o_pickJob_109 rfl ?_
              refine Wk.icmp_ge o_pickJob_111 (fun q15 => ?_) (fun q15 => ?_)
              · refine Wk.forget [false, false, false, false, false, false, false, true, true] (L' := [.val (.ref 0), .val (.int v1), .val (.int v2), .val (.int v3), .val (.int v4), .val (.int v5), .val (.int ((v1 * v2) / ((A 0) v5))), .unset, .unset]) rfl rfl ?_
                first | (rw [show ((if ((v1 * v2) / ((A 0) v5)) < 0 then v3 else (if ((v1 * v2) / ((A 0) v5)) < (128 : Int32) then (if ((((v1 * v2) / ((A 0) v5)) * ((A 0) v5)) + ((A 2) v5)) < ((v1 + (1 : Int32)) * v2) then v3 else (if 0 < ((A 6) ((v5 * (128 : Int32)) + ((v1 * v2) / ((A 0) v5)))) then (if v3 < 0 then ((v5 * (128 : Int32)) + ((v1 * v2) / ((A 0) v5))) else (if ((((v1 * v2) / ((A 0) v5)) * ((A 0) v5)) + ((A 2) v5)) < v4 then ((v5 * (128 : Int32)) + ((v1 * v2) / ((A 0) v5))) else v3)) else v3)) else v3)) : Int32) = v3 from Eq.trans (if_neg q6) <| Eq.trans (if_pos q7) <| Eq.trans (if_neg q10) <| Eq.trans (if_pos q13) <| Eq.trans (if_neg q14) <| if_neg q15, show ((if ((v1 * v2) / ((A 0) v5)) < 0 then v4 else (if ((v1 * v2) / ((A 0) v5)) < (128 : Int32) then (if ((((v1 * v2) / ((A 0) v5)) * ((A 0) v5)) + ((A 2) v5)) < ((v1 + (1 : Int32)) * v2) then v4 else (if 0 < ((A 6) ((v5 * (128 : Int32)) + ((v1 * v2) / ((A 0) v5)))) then (if v3 < 0 then ((((v1 * v2) / ((A 0) v5)) * ((A 0) v5)) + ((A 2) v5)) else (if ((((v1 * v2) / ((A 0) v5)) * ((A 0) v5)) + ((A 2) v5)) < v4 then ((((v1 * v2) / ((A 0) v5)) * ((A 0) v5)) + ((A 2) v5)) else v4)) else v4)) else v4)) : Int32) = v4 from Eq.trans (if_neg q6) <| Eq.trans (if_pos q7) <| Eq.trans (if_neg q10) <| Eq.trans (if_pos q13) <| Eq.trans (if_neg q14) <| if_neg q15] at J21; exact J21) | exact J21 | (simp only [if_neg q6, if_pos q7, if_neg q10, if_pos q13, if_neg q14, if_neg q15] at J21 ⊢; exact J21)
              · refine Wk.iload o_pickJob_114 rfl ?_
                refine Wk.istoreN o_pickJob_116 (Or.inr ⟨_, rfl, rfl⟩) (L' := [.val (.ref 0), .val (.int v1), .val (.int v2), .val (.int ((v5 * (128 : Int32)) + ((v1 * v2) / ((A 0) v5)))), .val (.int v4), .val (.int v5), .val (.int ((v1 * v2) / ((A 0) v5))), .val (.int ((((v1 * v2) / ((A 0) v5)) * ((A 0) v5)) + ((A 2) v5))), .val (.int ((v5 * (128 : Int32)) + ((v1 * v2) / ((A 0) v5))))]) rfl ?_
                refine Wk.iload o_pickJob_117 rfl ?_
                refine Wk.istore o_pickJob_119 (Or.inr ⟨_, rfl, rfl⟩) (L' := [.val (.ref 0), .val (.int v1), .val (.int v2), .val (.int ((v5 * (128 : Int32)) + ((v1 * v2) / ((A 0) v5)))), .val (.int ((((v1 * v2) / ((A 0) v5)) * ((A 0) v5)) + ((A 2) v5))), .val (.int v5), .val (.int ((v1 * v2) / ((A 0) v5))), .val (.int ((((v1 * v2) / ((A 0) v5)) * ((A 0) v5)) + ((A 2) v5))), .val (.int ((v5 * (128 : Int32)) + ((v1 * v2) / ((A 0) v5))))]) rfl ?_
                refine Wk.forget [false, false, false, false, false, false, false, true, true] (L' := [.val (.ref 0), .val (.int v1), .val (.int v2), .val (.int ((v5 * (128 : Int32)) + ((v1 * v2) / ((A 0) v5)))), .val (.int ((((v1 * v2) / ((A 0) v5)) * ((A 0) v5)) + ((A 2) v5))), .val (.int v5), .val (.int ((v1 * v2) / ((A 0) v5))), .unset, .unset]) rfl rfl ?_
                first | (rw [show ((if ((v1 * v2) / ((A 0) v5)) < 0 then v3 else (if ((v1 * v2) / ((A 0) v5)) < (128 : Int32) then (if ((((v1 * v2) / ((A 0) v5)) * ((A 0) v5)) + ((A 2) v5)) < ((v1 + (1 : Int32)) * v2) then v3 else (if 0 < ((A 6) ((v5 * (128 : Int32)) + ((v1 * v2) / ((A 0) v5)))) then (if v3 < 0 then ((v5 * (128 : Int32)) + ((v1 * v2) / ((A 0) v5))) else (if ((((v1 * v2) / ((A 0) v5)) * ((A 0) v5)) + ((A 2) v5)) < v4 then ((v5 * (128 : Int32)) + ((v1 * v2) / ((A 0) v5))) else v3)) else v3)) else v3)) : Int32) = ((v5 * (128 : Int32)) + ((v1 * v2) / ((A 0) v5))) from Eq.trans (if_neg q6) <| Eq.trans (if_pos q7) <| Eq.trans (if_neg q10) <| Eq.trans (if_pos q13) <| Eq.trans (if_neg q14) <| if_pos q15, show ((if ((v1 * v2) / ((A 0) v5)) < 0 then v4 else (if ((v1 * v2) / ((A 0) v5)) < (128 : Int32) then (if ((((v1 * v2) / ((A 0) v5)) * ((A 0) v5)) + ((A 2) v5)) < ((v1 + (1 : Int32)) * v2) then v4 else (if 0 < ((A 6) ((v5 * (128 : Int32)) + ((v1 * v2) / ((A 0) v5)))) then (if v3 < 0 then ((((v1 * v2) / ((A 0) v5)) * ((A 0) v5)) + ((A 2) v5)) else (if ((((v1 * v2) / ((A 0) v5)) * ((A 0) v5)) + ((A 2) v5)) < v4 then ((((v1 * v2) / ((A 0) v5)) * ((A 0) v5)) + ((A 2) v5)) else v4)) else v4)) else v4)) : Int32) = ((((v1 * v2) / ((A 0) v5)) * ((A 0) v5)) + ((A 2) v5)) from Eq.trans (if_neg q6) <| Eq.trans (if_pos q7) <| Eq.trans (if_neg q10) <| Eq.trans (if_pos q13) <| Eq.trans (if_neg q14) <| if_pos q15] at J21; exact J21) | exact J21 | (simp only [if_neg q6, if_pos q7, if_neg q10, if_pos q13, if_neg q14, if_pos q15] at J21 ⊢; exact J21)
          · refine Wk.goto o_pickJob_100 ?_
            refine Wk.forget [false, false, false, false, false, false, false, true, true] (L' := [.val (.ref 0), .val (.int v1), .val (.int v2), .val (.int v3), .val (.int v4), .val (.int v5), .val (.int ((v1 * v2) / ((A 0) v5))), .unset, .unset]) rfl rfl ?_
            first | (rw [show ((if ((v1 * v2) / ((A 0) v5)) < 0 then v3 else (if ((v1 * v2) / ((A 0) v5)) < (128 : Int32) then (if ((((v1 * v2) / ((A 0) v5)) * ((A 0) v5)) + ((A 2) v5)) < ((v1 + (1 : Int32)) * v2) then v3 else (if 0 < ((A 6) ((v5 * (128 : Int32)) + ((v1 * v2) / ((A 0) v5)))) then (if v3 < 0 then ((v5 * (128 : Int32)) + ((v1 * v2) / ((A 0) v5))) else (if ((((v1 * v2) / ((A 0) v5)) * ((A 0) v5)) + ((A 2) v5)) < v4 then ((v5 * (128 : Int32)) + ((v1 * v2) / ((A 0) v5))) else v3)) else v3)) else v3)) : Int32) = v3 from Eq.trans (if_neg q6) <| Eq.trans (if_pos q7) <| Eq.trans (if_neg q10) <| if_neg q13, show ((if ((v1 * v2) / ((A 0) v5)) < 0 then v4 else (if ((v1 * v2) / ((A 0) v5)) < (128 : Int32) then (if ((((v1 * v2) / ((A 0) v5)) * ((A 0) v5)) + ((A 2) v5)) < ((v1 + (1 : Int32)) * v2) then v4 else (if 0 < ((A 6) ((v5 * (128 : Int32)) + ((v1 * v2) / ((A 0) v5)))) then (if v3 < 0 then ((((v1 * v2) / ((A 0) v5)) * ((A 0) v5)) + ((A 2) v5)) else (if ((((v1 * v2) / ((A 0) v5)) * ((A 0) v5)) + ((A 2) v5)) < v4 then ((((v1 * v2) / ((A 0) v5)) * ((A 0) v5)) + ((A 2) v5)) else v4)) else v4)) else v4)) : Int32) = v4 from Eq.trans (if_neg q6) <| Eq.trans (if_pos q7) <| Eq.trans (if_neg q10) <| if_neg q13] at J21; exact J21) | exact J21 | (simp only [if_neg q6, if_pos q7, if_neg q10, if_neg q13] at J21 ⊢; exact J21)
        · refine Wk.goto o_pickJob_76 ?_
          refine Wk.forget [false, false, false, false, false, false, false, true, false] (L' := [.val (.ref 0), .val (.int v1), .val (.int v2), .val (.int v3), .val (.int v4), .val (.int v5), .val (.int ((v1 * v2) / ((A 0) v5))), .unset, .unset]) rfl rfl ?_
          first | (rw [show ((if ((v1 * v2) / ((A 0) v5)) < 0 then v3 else (if ((v1 * v2) / ((A 0) v5)) < (128 : Int32) then (if ((((v1 * v2) / ((A 0) v5)) * ((A 0) v5)) + ((A 2) v5)) < ((v1 + (1 : Int32)) * v2) then v3 else (if 0 < ((A 6) ((v5 * (128 : Int32)) + ((v1 * v2) / ((A 0) v5)))) then (if v3 < 0 then ((v5 * (128 : Int32)) + ((v1 * v2) / ((A 0) v5))) else (if ((((v1 * v2) / ((A 0) v5)) * ((A 0) v5)) + ((A 2) v5)) < v4 then ((v5 * (128 : Int32)) + ((v1 * v2) / ((A 0) v5))) else v3)) else v3)) else v3)) : Int32) = v3 from Eq.trans (if_neg q6) <| Eq.trans (if_pos q7) <| if_pos q10, show ((if ((v1 * v2) / ((A 0) v5)) < 0 then v4 else (if ((v1 * v2) / ((A 0) v5)) < (128 : Int32) then (if ((((v1 * v2) / ((A 0) v5)) * ((A 0) v5)) + ((A 2) v5)) < ((v1 + (1 : Int32)) * v2) then v4 else (if 0 < ((A 6) ((v5 * (128 : Int32)) + ((v1 * v2) / ((A 0) v5)))) then (if v3 < 0 then ((((v1 * v2) / ((A 0) v5)) * ((A 0) v5)) + ((A 2) v5)) else (if ((((v1 * v2) / ((A 0) v5)) * ((A 0) v5)) + ((A 2) v5)) < v4 then ((((v1 * v2) / ((A 0) v5)) * ((A 0) v5)) + ((A 2) v5)) else v4)) else v4)) else v4)) : Int32) = v4 from Eq.trans (if_neg q6) <| Eq.trans (if_pos q7) <| if_pos q10] at J21; exact J21) | exact J21 | (simp only [if_neg q6, if_pos q7, if_pos q10] at J21 ⊢; exact J21)
      · refine Wk.goto o_pickJob_43 ?_
        first | (rw [show ((if ((v1 * v2) / ((A 0) v5)) < 0 then v3 else (if ((v1 * v2) / ((A 0) v5)) < (128 : Int32) then (if ((((v1 * v2) / ((A 0) v5)) * ((A 0) v5)) + ((A 2) v5)) < ((v1 + (1 : Int32)) * v2) then v3 else (if 0 < ((A 6) ((v5 * (128 : Int32)) + ((v1 * v2) / ((A 0) v5)))) then (if v3 < 0 then ((v5 * (128 : Int32)) + ((v1 * v2) / ((A 0) v5))) else (if ((((v1 * v2) / ((A 0) v5)) * ((A 0) v5)) + ((A 2) v5)) < v4 then ((v5 * (128 : Int32)) + ((v1 * v2) / ((A 0) v5))) else v3)) else v3)) else v3)) : Int32) = v3 from Eq.trans (if_neg q6) <| if_neg q7, show ((if ((v1 * v2) / ((A 0) v5)) < 0 then v4 else (if ((v1 * v2) / ((A 0) v5)) < (128 : Int32) then (if ((((v1 * v2) / ((A 0) v5)) * ((A 0) v5)) + ((A 2) v5)) < ((v1 + (1 : Int32)) * v2) then v4 else (if 0 < ((A 6) ((v5 * (128 : Int32)) + ((v1 * v2) / ((A 0) v5)))) then (if v3 < 0 then ((((v1 * v2) / ((A 0) v5)) * ((A 0) v5)) + ((A 2) v5)) else (if ((((v1 * v2) / ((A 0) v5)) * ((A 0) v5)) + ((A 2) v5)) < v4 then ((((v1 * v2) / ((A 0) v5)) * ((A 0) v5)) + ((A 2) v5)) else v4)) else v4)) else v4)) : Int32) = v4 from Eq.trans (if_neg q6) <| if_neg q7] at J21; exact J21) | exact J21 | (simp only [if_neg q6, if_neg q7] at J21 ⊢; exact J21)

theorem rt_pickJob (F : Nat → Int32) (G : Nat → Int64) (A : Nat → Int32 → Int32) (B : Nat → Int32 → Int64) (v0 : Int32) (r : Int32) (e : v0 = r) : some (Value.int v0) = some (.int r) ∧ (7, F, G, A, B) = (7, F, G, A, B) := by subst e; exact ⟨rfl, rfl⟩
def lp_pickJob : Nat → Nat → Int32 → Int32 → Int32 → Int32 → Int32 → (Nat → Int32) → (Nat → Int32 → Int32) → Option (Int32)
  | 0, _, _, _, _, _, _, _, _ => none
  | n + 1, tag, v1, v2, v3, v4, v5, F, A => if tag = 8 then (if v5 < (F 2) then (if (¬ v5 < 0) ∧ (v5 < (8 : Int32)) ∧ (¬ ((A 0) v5) = (0 : Int32)) ∧ (¬ ((v1 * v2) / ((A 0) v5)) < 0 → ((v1 * v2) / ((A 0) v5)) < (128 : Int32) → ¬ v5 < 0) ∧ (¬ ((v1 * v2) / ((A 0) v5)) < 0 → ((v1 * v2) / ((A 0) v5)) < (128 : Int32) → v5 < (8 : Int32)) ∧ (¬ ((v1 * v2) / ((A 0) v5)) < 0 → ((v1 * v2) / ((A 0) v5)) < (128 : Int32) → ¬ ((((v1 * v2) / ((A 0) v5)) * ((A 0) v5)) + ((A 2) v5)) < ((v1 + (1 : Int32)) * v2) → ¬ ((v5 * (128 : Int32)) + ((v1 * v2) / ((A 0) v5))) < 0) ∧ (¬ ((v1 * v2) / ((A 0) v5)) < 0 → ((v1 * v2) / ((A 0) v5)) < (128 : Int32) → ¬ ((((v1 * v2) / ((A 0) v5)) * ((A 0) v5)) + ((A 2) v5)) < ((v1 + (1 : Int32)) * v2) → ((v5 * (128 : Int32)) + ((v1 * v2) / ((A 0) v5))) < (1024 : Int32)) then lp_pickJob n 8 v1 v2 (if ((v1 * v2) / ((A 0) v5)) < 0 then v3 else (if ((v1 * v2) / ((A 0) v5)) < (128 : Int32) then (if ((((v1 * v2) / ((A 0) v5)) * ((A 0) v5)) + ((A 2) v5)) < ((v1 + (1 : Int32)) * v2) then v3 else (if 0 < ((A 6) ((v5 * (128 : Int32)) + ((v1 * v2) / ((A 0) v5)))) then (if v3 < 0 then ((v5 * (128 : Int32)) + ((v1 * v2) / ((A 0) v5))) else (if ((((v1 * v2) / ((A 0) v5)) * ((A 0) v5)) + ((A 2) v5)) < v4 then ((v5 * (128 : Int32)) + ((v1 * v2) / ((A 0) v5))) else v3)) else v3)) else v3)) (if ((v1 * v2) / ((A 0) v5)) < 0 then v4 else (if ((v1 * v2) / ((A 0) v5)) < (128 : Int32) then (if ((((v1 * v2) / ((A 0) v5)) * ((A 0) v5)) + ((A 2) v5)) < ((v1 + (1 : Int32)) * v2) then v4 else (if 0 < ((A 6) ((v5 * (128 : Int32)) + ((v1 * v2) / ((A 0) v5)))) then (if v3 < 0 then ((((v1 * v2) / ((A 0) v5)) * ((A 0) v5)) + ((A 2) v5)) else (if ((((v1 * v2) / ((A 0) v5)) * ((A 0) v5)) + ((A 2) v5)) < v4 then ((((v1 * v2) / ((A 0) v5)) * ((A 0) v5)) + ((A 2) v5)) else v4)) else v4)) else v4)) (v5 + (1 : Int32)) F A else none) else some (v3)) else none
theorem lp_pickJob_z (tag : Nat) (v1 : Int32) (v2 : Int32) (v3 : Int32) (v4 : Int32) (v5 : Int32) (F : Nat → Int32) (A : Nat → Int32 → Int32) : lp_pickJob 0 tag v1 v2 v3 v4 v5 F A = none := Eq.trans rfl rfl
theorem lp_pickJob_8 (n : Nat) (v1 : Int32) (v2 : Int32) (v3 : Int32) (v4 : Int32) (v5 : Int32) (F : Nat → Int32) (A : Nat → Int32 → Int32) : lp_pickJob (n + 1) 8 v1 v2 v3 v4 v5 F A = (if v5 < (F 2) then (if (¬ v5 < 0) ∧ (v5 < (8 : Int32)) ∧ (¬ ((A 0) v5) = (0 : Int32)) ∧ (¬ ((v1 * v2) / ((A 0) v5)) < 0 → ((v1 * v2) / ((A 0) v5)) < (128 : Int32) → ¬ v5 < 0) ∧ (¬ ((v1 * v2) / ((A 0) v5)) < 0 → ((v1 * v2) / ((A 0) v5)) < (128 : Int32) → v5 < (8 : Int32)) ∧ (¬ ((v1 * v2) / ((A 0) v5)) < 0 → ((v1 * v2) / ((A 0) v5)) < (128 : Int32) → ¬ ((((v1 * v2) / ((A 0) v5)) * ((A 0) v5)) + ((A 2) v5)) < ((v1 + (1 : Int32)) * v2) → ¬ ((v5 * (128 : Int32)) + ((v1 * v2) / ((A 0) v5))) < 0) ∧ (¬ ((v1 * v2) / ((A 0) v5)) < 0 → ((v1 * v2) / ((A 0) v5)) < (128 : Int32) → ¬ ((((v1 * v2) / ((A 0) v5)) * ((A 0) v5)) + ((A 2) v5)) < ((v1 + (1 : Int32)) * v2) → ((v5 * (128 : Int32)) + ((v1 * v2) / ((A 0) v5))) < (1024 : Int32)) then lp_pickJob n 8 v1 v2 (if ((v1 * v2) / ((A 0) v5)) < 0 then v3 else (if ((v1 * v2) / ((A 0) v5)) < (128 : Int32) then (if ((((v1 * v2) / ((A 0) v5)) * ((A 0) v5)) + ((A 2) v5)) < ((v1 + (1 : Int32)) * v2) then v3 else (if 0 < ((A 6) ((v5 * (128 : Int32)) + ((v1 * v2) / ((A 0) v5)))) then (if v3 < 0 then ((v5 * (128 : Int32)) + ((v1 * v2) / ((A 0) v5))) else (if ((((v1 * v2) / ((A 0) v5)) * ((A 0) v5)) + ((A 2) v5)) < v4 then ((v5 * (128 : Int32)) + ((v1 * v2) / ((A 0) v5))) else v3)) else v3)) else v3)) (if ((v1 * v2) / ((A 0) v5)) < 0 then v4 else (if ((v1 * v2) / ((A 0) v5)) < (128 : Int32) then (if ((((v1 * v2) / ((A 0) v5)) * ((A 0) v5)) + ((A 2) v5)) < ((v1 + (1 : Int32)) * v2) then v4 else (if 0 < ((A 6) ((v5 * (128 : Int32)) + ((v1 * v2) / ((A 0) v5)))) then (if v3 < 0 then ((((v1 * v2) / ((A 0) v5)) * ((A 0) v5)) + ((A 2) v5)) else (if ((((v1 * v2) / ((A 0) v5)) * ((A 0) v5)) + ((A 2) v5)) < v4 then ((((v1 * v2) / ((A 0) v5)) * ((A 0) v5)) + ((A 2) v5)) else v4)) else v4)) else v4)) (v5 + (1 : Int32)) F A else none) else some (v3)) := by
  rw [lp_pickJob, if_pos rfl]
set_option maxRecDepth 65536 in
set_option maxHeartbeats 4000000 in
theorem lpw_pickJob {l : Launch} {Z : State} {a0 : Array Value} (H : OK Z a0) (F : Nat → Int32) (G : Nat → Int64) (A : Nat → Int32 → Int32) (B : Nat → Int32 → Int64) : ∀ (n : Nat) (v1 : Int32) (v2 : Int32) (v3 : Int32) (v4 : Int32) (v5 : Int32) (r : Int32), (lp_pickJob n 8 v1 v2 v3 v4 v5 F A = some r → Wk l Z (MoC Z cdC) md_pickJob 8 [.val (.ref 0), .val (.int v1), .val (.int v2), .val (.int v3), .val (.int v4), .val (.int v5), .unset, .unset, .unset] [] (7, F, G, A, B) 0 0 (fun v w' => v = some (.int r) ∧ w' = (7, F, G, A, B))) := by
  intro n
  induction n with
  | zero =>
    intro v1 v2 v3 v4 v5  r
    exact (fun h => by rw [lp_pickJob_z] at h; cases h)
  | succ n ih =>
    intro v1 v2 v3 v4 v5  r
    refine fun h => ?_
    · rw [lp_pickJob_8] at h
      exact wp_pickJob_8 H F G A B v1 v2 v3 v4 v5 (fun q1 => (rt_pickJob _ _ _ _ _ r (Option.some.inj (ifn q1 h)))) (fun q1 => (gd (ifp q1 h)).1.1) (fun q1 => (gd (ifp q1 h)).1.2.1) (fun q1 => (gd (ifp q1 h)).1.2.2.1) (fun q1 q6 q7 => ((gd (ifp q1 h)).1.2.2.2.1) q6 q7) (fun q1 q6 q7 => ((gd (ifp q1 h)).1.2.2.2.2.1) q6 q7) (fun q1 q6 q7 q10 => ((gd (ifp q1 h)).1.2.2.2.2.2.1) q6 q7 q10) (fun q1 q6 q7 q10 => ((gd (ifp q1 h)).1.2.2.2.2.2.2) q6 q7 q10) (fun q1 => (ih _ _ _ _ _ _) (gd (ifp q1 h)).2)
def en_pickJob (F : Nat → Int32) (A : Nat → Int32 → Int32) (p1 : Int32) (p2 : Int32) : Option (Int32) := lp_pickJob 20000 8 p1 p2 (-1 : Int32) (0 : Int32) (0 : Int32) F A
theorem een_pickJob (F : Nat → Int32) (A : Nat → Int32 → Int32) (p1 : Int32) (p2 : Int32) : en_pickJob F A p1 p2 = lp_pickJob 20000 8 p1 p2 (-1 : Int32) (0 : Int32) (0 : Int32) F A := Eq.trans rfl rfl
def R_pickJob (F : Nat → Int32) (A : Nat → Int32 → Int32) (p1 : Int32) (p2 : Int32) : Int32 := (en_pickJob F A p1 p2).getD (0)
theorem eR_pickJob (F : Nat → Int32) (A : Nat → Int32 → Int32) (p1 : Int32) (p2 : Int32) : R_pickJob F A p1 p2 = (en_pickJob F A p1 p2).getD (0) := Eq.trans rfl rfl
set_option maxRecDepth 65536 in
set_option maxHeartbeats 4000000 in
theorem run_pickJob {l : Launch} {Z : State} {a0 : Array Value} (H : OK Z a0) (F : Nat → Int32) (G : Nat → Int64) (A : Nat → Int32 → Int32) (B : Nat → Int32 → Int64) (p1 : Int32) (p2 : Int32) (e1 : (en_pickJob F A p1 p2).isSome = true) :
    Wk l Z (MoC Z cdC) md_pickJob 0 [.val (.ref 0), .val (.int p1), .val (.int p2), .unset, .unset, .unset, .unset, .unset, .unset] [] (7, F, G, A, B) 0 0 (fun v w' => v = some (.int (R_pickJob F A p1 p2)) ∧ w' = (7, F, G, A, B)) := by
  obtain ⟨r, h⟩ := Option.isSome_iff_exists.mp e1
  have e : R_pickJob F A p1 p2 = r := (eR_pickJob F A p1 p2).trans (getD_some h)
  rw [e]
  rw [een_pickJob] at h
  exact wp_pickJob H F G A B p1 p2 ((lpw_pickJob H F G A B _ _ _ _ _ _ _) h)
set_option maxRecDepth 65536 in
set_option maxHeartbeats 4000000 in
theorem wp_fillFrame {l : Launch} {Z : State} {a0 : Array Value} (H : OK Z a0) (F : Nat → Int32) (G : Nat → Int64) (A : Nat → Int32 → Int32) (B : Nat → Int32 → Int64) (p1 : Int32) (p2 : Int32) {Q : Option Value → WO → Prop} (h1 : Wk l Z (MoC Z cdC) md_fillFrame 14 [.val (.ref 0), .val (.int p1), .val (.int p2), .val (.int ((p1 + (1 : Int32)) * p2)), .val (.int (p1 * p2)), .val (.int (0 : Int32)), .unset, .unset, .unset, .unset, .unset] [] (7, F, G, A, B) 0 0 Q) :
    Wk l Z (MoC Z cdC) md_fillFrame 0 [.val (.ref 0), .val (.int p1), .val (.int p2), .unset, .unset, .unset, .unset, .unset, .unset, .unset, .unset] [] (7, F, G, A, B) 0 0 Q := by
  refine Wk.iloadN o_fillFrame_0 rfl ?_
  refine Wk.iconst o_fillFrame_1 (z := (1 : Int32)) (by decide) ?_
  refine Wk.iadd o_fillFrame_2 ?_
  refine Wk.iloadN o_fillFrame_3 rfl ?_
  refine Wk.imul o_fillFrame_4 ?_
  refine Wk.istoreN o_fillFrame_5 (Or.inl rfl) (L' := [.val (.ref 0), .val (.int p1), .val (.int p2), .val (.int ((p1 + (1 : Int32)) * p2)), .unset, .unset, .unset, .unset, .unset, .unset, .unset]) rfl ?_
  refine Wk.iloadN o_fillFrame_6 rfl ?_
  refine Wk.iloadN o_fillFrame_7 rfl ?_
  refine Wk.imul o_fillFrame_8 ?_
  refine Wk.istore o_fillFrame_9 (Or.inl rfl) (L' := [.val (.ref 0), .val (.int p1), .val (.int p2), .val (.int ((p1 + (1 : Int32)) * p2)), .val (.int (p1 * p2)), .unset, .unset, .unset, .unset, .unset, .unset]) rfl ?_
  refine Wk.iconst o_fillFrame_11 (z := (0 : Int32)) (by decide) ?_
  refine Wk.istore o_fillFrame_12 (Or.inl rfl) (L' := [.val (.ref 0), .val (.int p1), .val (.int p2), .val (.int ((p1 + (1 : Int32)) * p2)), .val (.int (p1 * p2)), .val (.int (0 : Int32)), .unset, .unset, .unset, .unset, .unset]) rfl ?_
  exact h1

set_option maxRecDepth 65536 in
set_option maxHeartbeats 4000000 in
theorem wp_fillFrame_14 {l : Launch} {Z : State} {a0 : Array Value} (H : OK Z a0) (F : Nat → Int32) (G : Nat → Int64) (A : Nat → Int32 → Int32) (B : Nat → Int32 → Int64) (v1 : Int32) (v2 : Int32) (v3 : Int32) (v4 : Int32) (v5 : Int32) {Q : Option Value → WO → Prop} (h2 : ¬ v5 < v2 → Q none (7, F, G, A, B)) (h4 : v5 < v2 → ¬ v4 < v3 → Q none (7, F, G, A, B)) (s5 : v5 < v2 → v4 < v3 → (en_pickJob F A v1 v2).isSome = true) (s7 : v5 < v2 → v4 < v3 → ¬ (R_pickJob F A v1 v2) < 0 → (R_pickJob F A v1 v2) < (1024 : Int32)) (h10 : v5 < v2 → v4 < v3 → ¬ (R_pickJob F A v1 v2) < 0 → Wk l Z (MoC Z cdC) md_fillFrame 86 [.val (.ref 0), .val (.int v1), .val (.int v2), .val (.int v3), .val (.int v4), .val (.int v5), .val (.int (R_pickJob F A v1 v2)), .val (.int (if (v3 - v4) < ((A 6) (R_pickJob F A v1 v2)) then (v3 - v4) else ((A 6) (R_pickJob F A v1 v2)))), .val (.int ((R_pickJob F A v1 v2) / (128 : Int32))), .val (.int ((R_pickJob F A v1 v2) % (128 : Int32))), .val (.int v4)] [] (7, F, G, A, B) 0 0 Q) (h11 : v5 < v2 → v4 < v3 → (R_pickJob F A v1 v2) < 0 → Q none (7, F, G, A, B)) :
    Wk l Z (MoC Z cdC) md_fillFrame 14 [.val (.ref 0), .val (.int v1), .val (.int v2), .val (.int v3), .val (.int v4), .val (.int v5), .unset, .unset, .unset, .unset, .unset] [] (7, F, G, A, B) 0 0 Q := by
  refine Wk.iload o_fillFrame_14 rfl ?_
  refine Wk.iloadN o_fillFrame_16 rfl ?_
  refine Wk.icmp_ge o_fillFrame_17 (fun q1 => ?_) (fun q1 => ?_)
  · exact Wk.ret mrC rfl o_fillFrame_153 rfl (by decide) (by decide) (h2 q1)
  · refine Wk.iload o_fillFrame_20 rfl ?_
    refine Wk.iloadN o_fillFrame_22 rfl ?_
    refine Wk.icmp_ge o_fillFrame_23 (fun q3 => ?_) (fun q3 => ?_)
    · exact Wk.ret mrC rfl o_fillFrame_153 rfl (by decide) (by decide) (h4 q1 q3)
    · refine Wk.aloadN o_fillFrame_26 rfl ?_
      refine Wk.iloadN o_fillFrame_27 rfl ?_
      refine Wk.iloadN o_fillFrame_28 rfl ?_
      refine Wk.callF [.int v1, .int v2] [] (H.w 105 rfl) (cv_pickJob H) o_fillFrame_29 (run_pickJob H F G A B v1 v2 (s5 q1 q3)) (wt := 0) (cu' := 0) (su' := 0) (by decide) rfl rfl rfl rfl rfl rfl rfl ?_
      refine Wk.istore o_fillFrame_32 (Or.inl rfl) (L' := [.val (.ref 0), .val (.int v1), .val (.int v2), .val (.int v3), .val (.int v4), .val (.int v5), .val (.int (R_pickJob F A v1 v2)), .unset, .unset, .unset, .unset]) rfl ?_
      refine Wk.iload o_fillFrame_34 rfl ?_
      refine Wk.if_ge o_fillFrame_36 (fun q6 => ?_) (fun q6 => ?_)
      · refine Wk.aloadN o_fillFrame_42 rfl ?_
        refine Wk.getA (mA_rem) (by decide) (i' := 7) rfl (wf_rem H) o_fillFrame_43 ?_
        refine Wk.iload o_fillFrame_46 rfl ?_
        refine Wk.iaload (mA_rem) (by decide) (i' := 7) rfl q6 (s7 q1 q3 q6) o_fillFrame_48 (y := ((A 6) (R_pickJob F A v1 v2))) rfl ?_
        refine Wk.istore o_fillFrame_49 (Or.inl rfl) (L' := [.val (.ref 0), .val (.int v1), .val (.int v2), .val (.int v3), .val (.int v4), .val (.int v5), .val (.int (R_pickJob F A v1 v2)), .val (.int ((A 6) (R_pickJob F A v1 v2))), .unset, .unset, .unset]) rfl ?_
        refine Wk.iloadN o_fillFrame_51 rfl ?_
        refine Wk.iload o_fillFrame_52 rfl ?_
        refine Wk.isub o_fillFrame_54 ?_
        refine Wk.iload o_fillFrame_55 rfl ?_
        have J9 : Wk l Z (MoC Z cdC) md_fillFrame 66 [.val (.ref 0), .val (.int v1), .val (.int v2), .val (.int v3), .val (.int v4), .val (.int v5), .val (.int (R_pickJob F A v1 v2)), .val (.int (if (v3 - v4) < ((A 6) (R_pickJob F A v1 v2)) then (v3 - v4) else ((A 6) (R_pickJob F A v1 v2)))), .unset, .unset, .unset] [] (7, F, G, A, B) 0 0 Q := by
          refine Wk.iload o_fillFrame_66 rfl ?_
          refine Wk.sipush o_fillFrame_68 (z := (128 : Int32)) (by decide) ?_
          refine Wk.idiv o_fillFrame_71 (by decide) ?_
          refine Wk.istore o_fillFrame_72 (Or.inl rfl) (L' := [.val (.ref 0), .val (.int v1), .val (.int v2), .val (.int v3), .val (.int v4), .val (.int v5), .val (.int (R_pickJob F A v1 v2)), .val (.int (if (v3 - v4) < ((A 6) (R_pickJob F A v1 v2)) then (v3 - v4) else ((A 6) (R_pickJob F A v1 v2)))), .val (.int ((R_pickJob F A v1 v2) / (128 : Int32))), .unset, .unset]) rfl ?_
          refine Wk.iload o_fillFrame_74 rfl ?_
          refine Wk.sipush o_fillFrame_76 (z := (128 : Int32)) (by decide) ?_
          refine Wk.irem o_fillFrame_79 (by decide) ?_
          refine Wk.istore o_fillFrame_80 (Or.inl rfl) (L' := [.val (.ref 0), .val (.int v1), .val (.int v2), .val (.int v3), .val (.int v4), .val (.int v5), .val (.int (R_pickJob F A v1 v2)), .val (.int (if (v3 - v4) < ((A 6) (R_pickJob F A v1 v2)) then (v3 - v4) else ((A 6) (R_pickJob F A v1 v2)))), .val (.int ((R_pickJob F A v1 v2) / (128 : Int32))), .val (.int ((R_pickJob F A v1 v2) % (128 : Int32))), .unset]) rfl ?_
          refine Wk.iload o_fillFrame_82 rfl ?_
          refine Wk.istore o_fillFrame_84 (Or.inl rfl) (L' := [.val (.ref 0), .val (.int v1), .val (.int v2), .val (.int v3), .val (.int v4), .val (.int v5), .val (.int (R_pickJob F A v1 v2)), .val (.int (if (v3 - v4) < ((A 6) (R_pickJob F A v1 v2)) then (v3 - v4) else ((A 6) (R_pickJob F A v1 v2)))), .val (.int ((R_pickJob F A v1 v2) / (128 : Int32))), .val (.int ((R_pickJob F A v1 v2) % (128 : Int32))), .val (.int v4)]) rfl ?_
          exact (h10 q1 q3 q6)
        refine Wk.icmp_ge o_fillFrame_57 (fun q8 => ?_) (fun q8 => ?_)
        · first | (rw [show ((if (v3 - v4) < ((A 6) (R_pickJob F A v1 v2)) then (v3 - v4) else ((A 6) (R_pickJob F A v1 v2))) : Int32) = ((A 6) (R_pickJob F A v1 v2)) from if_neg q8] at J9; exact J9) | exact J9 | (simp only [if_neg q8] at J9 ⊢; exact J9)
        · refine Wk.iloadN o_fillFrame_60 rfl ?_
          refine Wk.iload o_fillFrame_61 rfl ?_
          refine Wk.isub o_fillFrame_63 ?_
          refine Wk.istore o_fillFrame_64 (Or.inr ⟨_, rfl, rfl⟩) (L' := [.val (.ref 0), .val (.int v1), .val (.int v2), .val (.int v3), .val (.int v4), .val (.int v5), .val (.int (R_pickJob F A v1 v2)), .val (.int (v3 - v4)), .unset, .unset, .unset]) rfl ?_
          first | (rw [show ((if (v3 - v4) < ((A 6) (R_pickJob F A v1 v2)) then (v3 - v4) else ((A 6) (R_pickJob F A v1 v2))) : Int32) = (v3 - v4) from if_pos q8] at J9; exact J9) | exact J9 | (simp only [if_pos q8] at J9 ⊢; exact J9)
      · refine Wk.goto o_fillFrame_39 ?_
        exact Wk.ret mrC rfl o_fillFrame_153 rfl (by decide) (by decide) (h11 q1 q3 q6)

set_option maxRecDepth 65536 in
set_option maxHeartbeats 4000000 in
theorem wp_fillFrame_86 {l : Launch} {Z : State} {a0 : Array Value} (H : OK Z a0) (F : Nat → Int32) (G : Nat → Int64) (A : Nat → Int32 → Int32) (B : Nat → Int32 → Int64) (v1 : Int32) (v2 : Int32) (v3 : Int32) (v4 : Int32) (v5 : Int32) (v6 : Int32) (v7 : Int32) (v8 : Int32) (v9 : Int32) (v10 : Int32) {Q : Option Value → WO → Prop} (s2 : ¬ v10 < (v4 + v7) → ¬ v6 < 0) (s3 : ¬ v10 < (v4 + v7) → v6 < (1024 : Int32)) (h4 : ¬ v10 < (v4 + v7) → Wk l Z (MoC Z cdC) md_fillFrame 14 [.val (.ref 0), .val (.int v1), .val (.int v2), .val (.int v3), .val (.int (v4 + v7)), .val (.int (v5 + (1 : Int32))), .unset, .unset, .unset, .unset, .unset] [] (7, F, G, (ups A 6 (ups (A 6) v6 (((A 6) v6) - v7))), B) 0 0 Q) (s6 : v10 < (v4 + v7) → ¬ v10 < (128 : Int32) → ¬ v6 < 0) (s7 : v10 < (v4 + v7) → ¬ v10 < (128 : Int32) → v6 < (1024 : Int32)) (h8 : v10 < (v4 + v7) → ¬ v10 < (128 : Int32) → Wk l Z (MoC Z cdC) md_fillFrame 14 [.val (.ref 0), .val (.int v1), .val (.int v2), .val (.int v3), .val (.int (v4 + v7)), .val (.int (v5 + (1 : Int32))), .unset, .unset, .unset, .unset, .unset] [] (7, F, G, (ups A 6 (ups (A 6) v6 (((A 6) v6) - v7))), B) 0 0 Q) (s9 : v10 < (v4 + v7) → v10 < (128 : Int32) → ¬ v10 < 0) (h10 : v10 < (v4 + v7) → v10 < (128 : Int32) → Wk l Z (MoC Z cdC) md_fillFrame 86 [.val (.ref 0), .val (.int v1), .val (.int v2), .val (.int v3), .val (.int v4), .val (.int v5), .val (.int v6), .val (.int v7), .val (.int v8), .val (.int v9), .val (.int (v10 + (1 : Int32)))] [] (7, F, G, (ups (ups A 4 (ups (A 4) v10 v8)) 5 (ups (A 5) v10 v9)), B) 0 0 Q) :
    Wk l Z (MoC Z cdC) md_fillFrame 86 [.val (.ref 0), .val (.int v1), .val (.int v2), .val (.int v3), .val (.int v4), .val (.int v5), .val (.int v6), .val (.int v7), .val (.int v8), .val (.int v9), .val (.int v10)] [] (7, F, G, A, B) 0 0 Q := by
  refine Wk.iload o_fillFrame_86 rfl ?_
  refine Wk.iload o_fillFrame_88 rfl ?_
  refine Wk.iload o_fillFrame_90 rfl ?_
  refine Wk.iadd o_fillFrame_92 ?_
  refine Wk.icmp_ge o_fillFrame_93 (fun q1 => ?_) (fun q1 => ?_)
  · refine Wk.aloadN o_fillFrame_128 rfl ?_
    refine Wk.getA (mA_rem) (by decide) (i' := 7) rfl (wf_rem H) o_fillFrame_129 ?_
    refine Wk.iload o_fillFrame_132 rfl ?_
    refine Wk.dup2 o_fillFrame_134 rfl rfl ?_
    refine Wk.iaload (mA_rem) (by decide) (i' := 7) rfl (s2 q1) (s3 q1) o_fillFrame_135 (y := ((A 6) v6)) rfl ?_
    refine Wk.iload o_fillFrame_136 rfl ?_
    refine Wk.isub o_fillFrame_138 ?_
    refine Wk.iastore (coC H) (f := (A 6)) (mA_rem) rfl (by decide) (i' := 7) rfl (s2 q1) (s3 q1) o_fillFrame_139 ?_
    refine Wk.iload o_fillFrame_140 rfl ?_
    refine Wk.iload o_fillFrame_142 rfl ?_
    refine Wk.iadd o_fillFrame_144 ?_
    refine Wk.istore o_fillFrame_145 (Or.inr ⟨_, rfl, rfl⟩) (L' := [.val (.ref 0), .val (.int v1), .val (.int v2), .val (.int v3), .val (.int (v4 + v7)), .val (.int v5), .val (.int v6), .val (.int v7), .val (.int v8), .val (.int v9), .val (.int v10)]) rfl ?_
    refine Wk.iinc o_fillFrame_147 rfl (z := (v5 + (1 : Int32))) rfl (L' := [.val (.ref 0), .val (.int v1), .val (.int v2), .val (.int v3), .val (.int (v4 + v7)), .val (.int (v5 + (1 : Int32))), .val (.int v6), .val (.int v7), .val (.int v8), .val (.int v9), .val (.int v10)]) rfl ?_
    refine Wk.goto o_fillFrame_150 ?_
    refine Wk.forget [false, false, false, false, false, false, true, true, true, true, true] (L' := [.val (.ref 0), .val (.int v1), .val (.int v2), .val (.int v3), .val (.int (v4 + v7)), .val (.int (v5 + (1 : Int32))), .unset, .unset, .unset, .unset, .unset]) rfl rfl ?_
    exact (h4 q1)
  · refine Wk.iload o_fillFrame_96 rfl ?_
    refine Wk.sipush o_fillFrame_98 (z := (128 : Int32)) (by decide) ?_
    refine Wk.icmp_ge o_fillFrame_101 (fun q5 => ?_) (fun q5 => ?_)
    · refine Wk.aloadN o_fillFrame_128 rfl ?_
      refine Wk.getA (mA_rem) (by decide) (i' := 7) rfl (wf_rem H) o_fillFrame_129 ?_
      refine Wk.iload o_fillFrame_132 rfl ?_
      refine Wk.dup2 o_fillFrame_134 rfl rfl ?_
      refine Wk.iaload (mA_rem) (by decide) (i' := 7) rfl (s6 q1 q5) (s7 q1 q5) o_fillFrame_135 (y := ((A 6) v6)) rfl ?_
      refine Wk.iload o_fillFrame_136 rfl ?_
      refine Wk.isub o_fillFrame_138 ?_
      refine Wk.iastore (coC H) (f := (A 6)) (mA_rem) rfl (by decide) (i' := 7) rfl (s6 q1 q5) (s7 q1 q5) o_fillFrame_139 ?_
      refine Wk.iload o_fillFrame_140 rfl ?_
      refine Wk.iload o_fillFrame_142 rfl ?_
      refine Wk.iadd o_fillFrame_144 ?_
      refine Wk.istore o_fillFrame_145 (Or.inr ⟨_, rfl, rfl⟩) (L' := [.val (.ref 0), .val (.int v1), .val (.int v2), .val (.int v3), .val (.int (v4 + v7)), .val (.int v5), .val (.int v6), .val (.int v7), .val (.int v8), .val (.int v9), .val (.int v10)]) rfl ?_
      refine Wk.iinc o_fillFrame_147 rfl (z := (v5 + (1 : Int32))) rfl (L' := [.val (.ref 0), .val (.int v1), .val (.int v2), .val (.int v3), .val (.int (v4 + v7)), .val (.int (v5 + (1 : Int32))), .val (.int v6), .val (.int v7), .val (.int v8), .val (.int v9), .val (.int v10)]) rfl ?_
      refine Wk.goto o_fillFrame_150 ?_
      refine Wk.forget [false, false, false, false, false, false, true, true, true, true, true] (L' := [.val (.ref 0), .val (.int v1), .val (.int v2), .val (.int v3), .val (.int (v4 + v7)), .val (.int (v5 + (1 : Int32))), .unset, .unset, .unset, .unset, .unset]) rfl rfl ?_
      exact (h8 q1 q5)
    · refine Wk.aloadN o_fillFrame_104 rfl ?_
      refine Wk.getA (mA_tickTask) (by decide) (i' := 5) rfl (wf_tickTask H) o_fillFrame_105 ?_
      refine Wk.iload o_fillFrame_108 rfl ?_
      refine Wk.iload o_fillFrame_110 rfl ?_
      refine Wk.iastore (coC H) (f := (A 4)) (mA_tickTask) rfl (by decide) (i' := 5) rfl (s9 q1 q5) q5 o_fillFrame_112 ?_
      refine Wk.aloadN o_fillFrame_113 rfl ?_
      refine Wk.getA (mA_tickJob) (by decide) (i' := 6) rfl (wf_tickJob H) o_fillFrame_114 ?_
      refine Wk.iload o_fillFrame_117 rfl ?_
      refine Wk.iload o_fillFrame_119 rfl ?_
      refine Wk.iastore (coC H) (f := (A 5)) (mA_tickJob) rfl (by decide) (i' := 6) rfl (s9 q1 q5) q5 o_fillFrame_121 ?_
      refine Wk.iinc o_fillFrame_122 rfl (z := (v10 + (1 : Int32))) rfl (L' := [.val (.ref 0), .val (.int v1), .val (.int v2), .val (.int v3), .val (.int v4), .val (.int v5), .val (.int v6), .val (.int v7), .val (.int v8), .val (.int v9), .val (.int (v10 + (1 : Int32)))]) rfl ?_
      refine Wk.goto o_fillFrame_125 ?_
      exact (h10 q1 q5)

theorem rt_fillFrame (F : Nat → Int32) (G : Nat → Int64) (B : Nat → Int32 → Int64) (v0 : Int32) (xA : Nat → Int32 → Int32) (r : Int32 × (Nat → Int32 → Int32)) (e : (v0, xA) = r) : (none : Option Value) = none ∧ (7, F, G, xA, B) = (7, F, G, r.2, B) := by subst e; exact ⟨rfl, rfl⟩
def lp_fillFrame : Nat → Nat → Int32 → Int32 → Int32 → Int32 → Int32 → Int32 → Int32 → Int32 → Int32 → Int32 → (Nat → Int32) → (Nat → Int32 → Int32) → Option (Int32 × (Nat → Int32 → Int32))
  | 0, _, _, _, _, _, _, _, _, _, _, _, _, _ => none
  | n + 1, tag, v1, v2, v3, v4, v5, v6, v7, v8, v9, v10, F, A => if tag = 14 then (if v5 < v2 then (if v4 < v3 then (if ((en_pickJob F A v1 v2).isSome = true) then (if (R_pickJob F A v1 v2) < 0 then some ((0 : Int32), A) else (if ((R_pickJob F A v1 v2) < (1024 : Int32)) then lp_fillFrame n 86 v1 v2 v3 v4 v5 (R_pickJob F A v1 v2) (if (v3 - v4) < ((A 6) (R_pickJob F A v1 v2)) then (v3 - v4) else ((A 6) (R_pickJob F A v1 v2))) ((R_pickJob F A v1 v2) / (128 : Int32)) ((R_pickJob F A v1 v2) % (128 : Int32)) v4 F A else none)) else none) else some ((0 : Int32), A)) else some ((0 : Int32), A)) else if tag = 86 then (if v10 < (v4 + v7) then (if v10 < (128 : Int32) then (if (¬ v10 < 0) then lp_fillFrame n 86 v1 v2 v3 v4 v5 v6 v7 v8 v9 (v10 + (1 : Int32)) F (ups (ups A 4 (ups (A 4) v10 v8)) 5 (ups (A 5) v10 v9)) else none) else (if (¬ v6 < 0) ∧ (v6 < (1024 : Int32)) then lp_fillFrame n 14 v1 v2 v3 (v4 + v7) (v5 + (1 : Int32)) 0 0 0 0 0 F (ups A 6 (ups (A 6) v6 (((A 6) v6) - v7))) else none)) else (if (¬ v6 < 0) ∧ (v6 < (1024 : Int32)) then lp_fillFrame n 14 v1 v2 v3 (v4 + v7) (v5 + (1 : Int32)) 0 0 0 0 0 F (ups A 6 (ups (A 6) v6 (((A 6) v6) - v7))) else none)) else none
theorem lp_fillFrame_z (tag : Nat) (v1 : Int32) (v2 : Int32) (v3 : Int32) (v4 : Int32) (v5 : Int32) (v6 : Int32) (v7 : Int32) (v8 : Int32) (v9 : Int32) (v10 : Int32) (F : Nat → Int32) (A : Nat → Int32 → Int32) : lp_fillFrame 0 tag v1 v2 v3 v4 v5 v6 v7 v8 v9 v10 F A = none := Eq.trans rfl rfl
theorem lp_fillFrame_14 (n : Nat) (v1 : Int32) (v2 : Int32) (v3 : Int32) (v4 : Int32) (v5 : Int32) (v6 : Int32) (v7 : Int32) (v8 : Int32) (v9 : Int32) (v10 : Int32) (F : Nat → Int32) (A : Nat → Int32 → Int32) : lp_fillFrame (n + 1) 14 v1 v2 v3 v4 v5 v6 v7 v8 v9 v10 F A = (if v5 < v2 then (if v4 < v3 then (if ((en_pickJob F A v1 v2).isSome = true) then (if (R_pickJob F A v1 v2) < 0 then some ((0 : Int32), A) else (if ((R_pickJob F A v1 v2) < (1024 : Int32)) then lp_fillFrame n 86 v1 v2 v3 v4 v5 (R_pickJob F A v1 v2) (if (v3 - v4) < ((A 6) (R_pickJob F A v1 v2)) then (v3 - v4) else ((A 6) (R_pickJob F A v1 v2))) ((R_pickJob F A v1 v2) / (128 : Int32)) ((R_pickJob F A v1 v2) % (128 : Int32)) v4 F A else none)) else none) else some ((0 : Int32), A)) else some ((0 : Int32), A)) := by
  rw [lp_fillFrame, if_pos rfl]
theorem lp_fillFrame_86 (n : Nat) (v1 : Int32) (v2 : Int32) (v3 : Int32) (v4 : Int32) (v5 : Int32) (v6 : Int32) (v7 : Int32) (v8 : Int32) (v9 : Int32) (v10 : Int32) (F : Nat → Int32) (A : Nat → Int32 → Int32) : lp_fillFrame (n + 1) 86 v1 v2 v3 v4 v5 v6 v7 v8 v9 v10 F A = (if v10 < (v4 + v7) then (if v10 < (128 : Int32) then (if (¬ v10 < 0) then lp_fillFrame n 86 v1 v2 v3 v4 v5 v6 v7 v8 v9 (v10 + (1 : Int32)) F (ups (ups A 4 (ups (A 4) v10 v8)) 5 (ups (A 5) v10 v9)) else none) else (if (¬ v6 < 0) ∧ (v6 < (1024 : Int32)) then lp_fillFrame n 14 v1 v2 v3 (v4 + v7) (v5 + (1 : Int32)) 0 0 0 0 0 F (ups A 6 (ups (A 6) v6 (((A 6) v6) - v7))) else none)) else (if (¬ v6 < 0) ∧ (v6 < (1024 : Int32)) then lp_fillFrame n 14 v1 v2 v3 (v4 + v7) (v5 + (1 : Int32)) 0 0 0 0 0 F (ups A 6 (ups (A 6) v6 (((A 6) v6) - v7))) else none)) := by
  rw [lp_fillFrame, if_neg (by decide), if_pos rfl]
set_option maxRecDepth 65536 in
set_option maxHeartbeats 4000000 in
theorem lpw_fillFrame {l : Launch} {Z : State} {a0 : Array Value} (H : OK Z a0) (F : Nat → Int32) (G : Nat → Int64) (B : Nat → Int32 → Int64) : ∀ (n : Nat) (v1 : Int32) (v2 : Int32) (v3 : Int32) (v4 : Int32) (v5 : Int32) (v6 : Int32) (v7 : Int32) (v8 : Int32) (v9 : Int32) (v10 : Int32) (A : Nat → Int32 → Int32) (r : Int32 × (Nat → Int32 → Int32)), (lp_fillFrame n 14 v1 v2 v3 v4 v5 v6 v7 v8 v9 v10 F A = some r → Wk l Z (MoC Z cdC) md_fillFrame 14 [.val (.ref 0), .val (.int v1), .val (.int v2), .val (.int v3), .val (.int v4), .val (.int v5), .unset, .unset, .unset, .unset, .unset] [] (7, F, G, A, B) 0 0 (fun v w' => v = none ∧ w' = (7, F, G, r.2, B))) ∧ (lp_fillFrame n 86 v1 v2 v3 v4 v5 v6 v7 v8 v9 v10 F A = some r → Wk l Z (MoC Z cdC) md_fillFrame 86 [.val (.ref 0), .val (.int v1), .val (.int v2), .val (.int v3), .val (.int v4), .val (.int v5), .val (.int v6), .val (.int v7), .val (.int v8), .val (.int v9), .val (.int v10)] [] (7, F, G, A, B) 0 0 (fun v w' => v = none ∧ w' = (7, F, G, r.2, B))) := by
  intro n
  induction n with
  | zero =>
    intro v1 v2 v3 v4 v5 v6 v7 v8 v9 v10 A r
    exact ⟨(fun h => by rw [lp_fillFrame_z] at h; cases h), (fun h => by rw [lp_fillFrame_z] at h; cases h)⟩
  | succ n ih =>
    intro v1 v2 v3 v4 v5 v6 v7 v8 v9 v10 A r
    refine ⟨fun h => ?_, fun h => ?_⟩
    · rw [lp_fillFrame_14] at h
      exact wp_fillFrame_14 H F G A B v1 v2 v3 v4 v5 (fun q1 => (rt_fillFrame _ _ _ _ _ r (Option.some.inj (ifn q1 h)))) (fun q1 q3 => (rt_fillFrame _ _ _ _ _ r (Option.some.inj (ifn q3 (ifp q1 h))))) (fun q1 q3 => (gd (ifp q3 (ifp q1 h))).1) (fun q1 q3 q6 => (gd (ifn q6 (gd (ifp q3 (ifp q1 h))).2)).1) (fun q1 q3 q6 => (ih _ _ _ _ _ _ _ _ _ _ _ _).2 (gd (ifn q6 (gd (ifp q3 (ifp q1 h))).2)).2) (fun q1 q3 q6 => (rt_fillFrame _ _ _ _ _ r (Option.some.inj (ifp q6 (gd (ifp q3 (ifp q1 h))).2))))
    · rw [lp_fillFrame_86] at h
      exact wp_fillFrame_86 H F G A B v1 v2 v3 v4 v5 v6 v7 v8 v9 v10 (fun q1 => (gd (ifn q1 h)).1.1) (fun q1 => (gd (ifn q1 h)).1.2) (fun q1 => (ih _ _ _ _ _ _ _ _ _ _ _ _).1 (gd (ifn q1 h)).2) (fun q1 q5 => (gd (ifn q5 (ifp q1 h))).1.1) (fun q1 q5 => (gd (ifn q5 (ifp q1 h))).1.2) (fun q1 q5 => (ih _ _ _ _ _ _ _ _ _ _ _ _).1 (gd (ifn q5 (ifp q1 h))).2) (fun q1 q5 => (gd (ifp q5 (ifp q1 h))).1) (fun q1 q5 => (ih _ _ _ _ _ _ _ _ _ _ _ _).2 (gd (ifp q5 (ifp q1 h))).2)
def en_fillFrame (F : Nat → Int32) (A : Nat → Int32 → Int32) (p1 : Int32) (p2 : Int32) : Option (Int32 × (Nat → Int32 → Int32)) := lp_fillFrame 20000 14 p1 p2 ((p1 + (1 : Int32)) * p2) (p1 * p2) (0 : Int32) 0 0 0 0 0 F A
theorem een_fillFrame (F : Nat → Int32) (A : Nat → Int32 → Int32) (p1 : Int32) (p2 : Int32) : en_fillFrame F A p1 p2 = lp_fillFrame 20000 14 p1 p2 ((p1 + (1 : Int32)) * p2) (p1 * p2) (0 : Int32) 0 0 0 0 0 F A := Eq.trans rfl rfl
def R_fillFrame (F : Nat → Int32) (A : Nat → Int32 → Int32) (p1 : Int32) (p2 : Int32) : Int32 × (Nat → Int32 → Int32) := (en_fillFrame F A p1 p2).getD (0, (fun _ _ => 0))
theorem eR_fillFrame (F : Nat → Int32) (A : Nat → Int32 → Int32) (p1 : Int32) (p2 : Int32) : R_fillFrame F A p1 p2 = (en_fillFrame F A p1 p2).getD (0, (fun _ _ => 0)) := Eq.trans rfl rfl
set_option maxRecDepth 65536 in
set_option maxHeartbeats 4000000 in
theorem run_fillFrame {l : Launch} {Z : State} {a0 : Array Value} (H : OK Z a0) (F : Nat → Int32) (G : Nat → Int64) (A : Nat → Int32 → Int32) (B : Nat → Int32 → Int64) (p1 : Int32) (p2 : Int32) (e1 : (en_fillFrame F A p1 p2).isSome = true) :
    Wk l Z (MoC Z cdC) md_fillFrame 0 [.val (.ref 0), .val (.int p1), .val (.int p2), .unset, .unset, .unset, .unset, .unset, .unset, .unset, .unset] [] (7, F, G, A, B) 0 0 (fun v w' => v = none ∧ w' = (7, F, G, (R_fillFrame F A p1 p2).2, B)) := by
  obtain ⟨r, h⟩ := Option.isSome_iff_exists.mp e1
  have e : R_fillFrame F A p1 p2 = r := (eR_fillFrame F A p1 p2).trans (getD_some h)
  rw [e]
  rw [een_fillFrame] at h
  exact wp_fillFrame H F G A B p1 p2 ((lpw_fillFrame H F G B _ _ _ _ _ _ _ _ _ _ _ _ _).1 h)
set_option maxRecDepth 65536 in
set_option maxHeartbeats 4000000 in
theorem wp_findMiss {l : Launch} {Z : State} {a0 : Array Value} (H : OK Z a0) (F : Nat → Int32) (G : Nat → Int64) (A : Nat → Int32 → Int32) (B : Nat → Int32 → Int64) {Q : Option Value → WO → Prop} (h1 : Wk l Z (MoC Z cdC) md_findMiss 6 [.val (.ref 0), .val (.int (-1 : Int32)), .val (.int (0 : Int32)), .val (.int (0 : Int32)), .unset, .unset, .unset, .unset] [] (7, F, G, A, B) 0 0 Q) :
    Wk l Z (MoC Z cdC) md_findMiss 0 [.val (.ref 0), .unset, .unset, .unset, .unset, .unset, .unset, .unset] [] (7, F, G, A, B) 0 0 Q := by
  refine Wk.iconst o_findMiss_0 (z := (-1 : Int32)) (by decide) ?_
  refine Wk.istoreN o_findMiss_1 (Or.inl rfl) (L' := [.val (.ref 0), .val (.int (-1 : Int32)), .unset, .unset, .unset, .unset, .unset, .unset]) rfl ?_
  refine Wk.iconst o_findMiss_2 (z := (0 : Int32)) (by decide) ?_
  refine Wk.istoreN o_findMiss_3 (Or.inl rfl) (L' := [.val (.ref 0), .val (.int (-1 : Int32)), .val (.int (0 : Int32)), .unset, .unset, .unset, .unset, .unset]) rfl ?_
  refine Wk.iconst o_findMiss_4 (z := (0 : Int32)) (by decide) ?_
  refine Wk.istoreN o_findMiss_5 (Or.inl rfl) (L' := [.val (.ref 0), .val (.int (-1 : Int32)), .val (.int (0 : Int32)), .val (.int (0 : Int32)), .unset, .unset, .unset, .unset]) rfl ?_
  exact h1

set_option maxRecDepth 65536 in
set_option maxHeartbeats 4000000 in
theorem wp_findMiss_6 {l : Launch} {Z : State} {a0 : Array Value} (H : OK Z a0) (F : Nat → Int32) (G : Nat → Int64) (A : Nat → Int32 → Int32) (B : Nat → Int32 → Int64) (v1 : Int32) (v2 : Int32) (v3 : Int32) {Q : Option Value → WO → Prop} (h2 : ¬ v3 < (F 2) → Q (some (.int v1)) (7, F, G, A, B)) (s3 : v3 < (F 2) → ¬ v3 < 0) (s4 : v3 < (F 2) → v3 < (8 : Int32)) (s5 : v3 < (F 2) → ¬ ((A 0) v3) = (0 : Int32)) (h6 : v3 < (F 2) → Wk l Z (MoC Z cdC) md_findMiss 30 [.val (.ref 0), .val (.int v1), .val (.int v2), .val (.int v3), .val (.int ((F 3) / ((A 0) v3))), .val (.int (0 : Int32)), .unset, .unset] [] (7, F, G, A, B) 0 0 Q) :
    Wk l Z (MoC Z cdC) md_findMiss 6 [.val (.ref 0), .val (.int v1), .val (.int v2), .val (.int v3), .unset, .unset, .unset, .unset] [] (7, F, G, A, B) 0 0 Q := by
  refine Wk.iloadN o_findMiss_6 rfl ?_
  refine Wk.aloadN o_findMiss_7 rfl ?_
  refine Wk.getI (mI_count) (wf_count H) o_findMiss_8 (x := (F 2)) rfl ?_
  refine Wk.icmp_ge o_findMiss_11 (fun q1 => ?_) (fun q1 => ?_)
  · refine Wk.iloadN o_findMiss_114 rfl ?_
    exact Wk.ireturn mrC rfl o_findMiss_115 rfl (by decide) (by decide) (h2 q1)
  · refine Wk.aloadN o_findMiss_14 rfl ?_
    refine Wk.getI (mI_hyper) (wf_hyper H) o_findMiss_15 (x := (F 3)) rfl ?_
    refine Wk.aloadN o_findMiss_18 rfl ?_
    refine Wk.getA (mA_per) (by decide) (i' := 1) rfl (wf_per H) o_findMiss_19 ?_
    refine Wk.iloadN o_findMiss_22 rfl ?_
    refine Wk.iaload (mA_per) (by decide) (i' := 1) rfl (s3 q1) (s4 q1) o_findMiss_23 (y := ((A 0) v3)) rfl ?_
    refine Wk.idiv o_findMiss_24 (s5 q1) ?_
    refine Wk.istore o_findMiss_25 (Or.inl rfl) (L' := [.val (.ref 0), .val (.int v1), .val (.int v2), .val (.int v3), .val (.int ((F 3) / ((A 0) v3))), .unset, .unset, .unset]) rfl ?_
    refine Wk.iconst o_findMiss_27 (z := (0 : Int32)) (by decide) ?_
    refine Wk.istore o_findMiss_28 (Or.inl rfl) (L' := [.val (.ref 0), .val (.int v1), .val (.int v2), .val (.int v3), .val (.int ((F 3) / ((A 0) v3))), .val (.int (0 : Int32)), .unset, .unset]) rfl ?_
    exact (h6 q1)

set_option maxRecDepth 65536 in
set_option maxHeartbeats 4000000 in
theorem wp_findMiss_30 {l : Launch} {Z : State} {a0 : Array Value} (H : OK Z a0) (F : Nat → Int32) (G : Nat → Int64) (A : Nat → Int32 → Int32) (B : Nat → Int32 → Int64) (v1 : Int32) (v2 : Int32) (v3 : Int32) (v4 : Int32) (v5 : Int32) {Q : Option Value → WO → Prop} (h2 : ¬ v5 < v4 → Wk l Z (MoC Z cdC) md_findMiss 6 [.val (.ref 0), .val (.int v1), .val (.int v2), .val (.int (v3 + (1 : Int32))), .unset, .unset, .unset, .unset] [] (7, F, G, A, B) 0 0 Q) (h4 : v5 < v4 → ¬ v5 < (128 : Int32) → Wk l Z (MoC Z cdC) md_findMiss 6 [.val (.ref 0), .val (.int v1), .val (.int v2), .val (.int (v3 + (1 : Int32))), .unset, .unset, .unset, .unset] [] (7, F, G, A, B) 0 0 Q) (s5 : v5 < v4 → v5 < (128 : Int32) → ¬ ((v3 * (128 : Int32)) + v5) < 0) (s6 : v5 < v4 → v5 < (128 : Int32) → ((v3 * (128 : Int32)) + v5) < (1024 : Int32)) (s8 : v5 < v4 → v5 < (128 : Int32) → 0 < ((A 6) ((v3 * (128 : Int32)) + v5)) → ¬ v3 < 0) (s9 : v5 < v4 → v5 < (128 : Int32) → 0 < ((A 6) ((v3 * (128 : Int32)) + v5)) → v3 < (8 : Int32)) (h15 : v5 < v4 → v5 < (128 : Int32) → Wk l Z (MoC Z cdC) md_findMiss 30 [.val (.ref 0), .val (.int (if 0 < ((A 6) ((v3 * (128 : Int32)) + v5)) then (if v1 < 0 then ((v3 * (128 : Int32)) + v5) else (if ((v5 * ((A 0) v3)) + ((A 2) v3)) < v2 then ((v3 * (128 : Int32)) + v5) else v1)) else v1)), .val (.int (if 0 < ((A 6) ((v3 * (128 : Int32)) + v5)) then (if v1 < 0 then ((v5 * ((A 0) v3)) + ((A 2) v3)) else (if ((v5 * ((A 0) v3)) + ((A 2) v3)) < v2 then ((v5 * ((A 0) v3)) + ((A 2) v3)) else v2)) else v2)), .val (.int v3), .val (.int v4), .val (.int (v5 + (1 : Int32))), .unset, .unset] [] (7, F, G, A, B) 0 0 Q) :
    Wk l Z (MoC Z cdC) md_findMiss 30 [.val (.ref 0), .val (.int v1), .val (.int v2), .val (.int v3), .val (.int v4), .val (.int v5), .unset, .unset] [] (7, F, G, A, B) 0 0 Q := by
  refine Wk.iload o_findMiss_30 rfl ?_
  refine Wk.iload o_findMiss_32 rfl ?_
  refine Wk.icmp_ge o_findMiss_34 (fun q1 => ?_) (fun q1 => ?_)
  · refine Wk.iinc o_findMiss_108 rfl (z := (v3 + (1 : Int32))) rfl (L' := [.val (.ref 0), .val (.int v1), .val (.int v2), .val (.int (v3 + (1 : Int32))), .val (.int v4), .val (.int v5), .unset, .unset]) rfl ?_
    refine Wk.goto o_findMiss_111 ?_
    refine Wk.forget [false, false, false, false, true, true, false, false] (L' := [.val (.ref 0), .val (.int v1), .val (.int v2), .val (.int (v3 + (1 : Int32))), .unset, .unset, .unset, .unset]) rfl rfl ?_
    exact (h2 q1)
  · refine Wk.iload o_findMiss_37 rfl ?_
    refine Wk.sipush o_findMiss_39 (z := (128 : Int32)) (by decide) ?_
    refine Wk.icmp_ge o_findMiss_42 (fun q3 => ?_) (fun q3 => ?_)
    · refine Wk.iinc o_findMiss_108 rfl (z := (v3 + (1 : Int32))) rfl (L' := [.val (.ref 0), .val (.int v1), .val (.int v2), .val (.int (v3 + (1 : Int32))), .val (.int v4), .val (.int v5), .unset, .unset]) rfl ?_
      refine Wk.goto o_findMiss_111 ?_
      refine Wk.forget [false, false, false, false, true, true, false, false] (L' := [.val (.ref 0), .val (.int v1), .val (.int v2), .val (.int (v3 + (1 : Int32))), .unset, .unset, .unset, .unset]) rfl rfl ?_
      exact (h4 q1 q3)
    · refine Wk.iloadN o_findMiss_45 rfl ?_
      refine Wk.sipush o_findMiss_46 (z := (128 : Int32)) (by decide) ?_
      refine Wk.imul o_findMiss_49 ?_
      refine Wk.iload o_findMiss_50 rfl ?_
      refine Wk.iadd o_findMiss_52 ?_
      refine Wk.istore o_findMiss_53 (Or.inl rfl) (L' := [.val (.ref 0), .val (.int v1), .val (.int v2), .val (.int v3), .val (.int v4), .val (.int v5), .val (.int ((v3 * (128 : Int32)) + v5)), .unset]) rfl ?_
      refine Wk.aloadN o_findMiss_55 rfl ?_
      refine Wk.getA (mA_rem) (by decide) (i' := 7) rfl (wf_rem H) o_findMiss_56 ?_
      refine Wk.iload o_findMiss_59 rfl ?_
      refine Wk.iaload (mA_rem) (by decide) (i' := 7) rfl (s5 q1 q3) (s6 q1 q3) o_findMiss_61 (y := ((A 6) ((v3 * (128 : Int32)) + v5))) rfl ?_
      have J14 : Wk l Z (MoC Z cdC) md_findMiss 102 [.val (.ref 0), .val (.int (if 0 < ((A 6) ((v3 * (128 : Int32)) + v5)) then (if v1 < 0 then ((v3 * (128 : Int32)) + v5) else (if ((v5 * ((A 0) v3)) + ((A 2) v3)) < v2 then ((v3 * (128 : Int32)) + v5) else v1)) else v1)), .val (.int (if 0 < ((A 6) ((v3 * (128 : Int32)) + v5)) then (if v1 < 0 then ((v5 * ((A 0) v3)) + ((A 2) v3)) else (if ((v5 * ((A 0) v3)) + ((A 2) v3)) < v2 then ((v5 * ((A 0) v3)) + ((A 2) v3)) else v2)) else v2)), .val (.int v3), .val (.int v4), .val (.int v5), .val (.int ((v3 * (128 : Int32)) + v5)), .unset] [] (7, F, G, A, B) 0 0 Q := by
        refine Wk.iinc o_findMiss_102 rfl (z := (v5 + (1 : Int32))) rfl (L' := [.val (.ref 0), .val (.int (if 0 < ((A 6) ((v3 * (128 : Int32)) + v5)) then (if v1 < 0 then ((v3 * (128 : Int32)) + v5) else (if ((v5 * ((A 0) v3)) + ((A 2) v3)) < v2 then ((v3 * (128 : Int32)) + v5) else v1)) else v1)), .val (.int (if 0 < ((A 6) ((v3 * (128 : Int32)) + v5)) then (if v1 < 0 then ((v5 * ((A 0) v3)) + ((A 2) v3)) else (if ((v5 * ((A 0) v3)) + ((A 2) v3)) < v2 then ((v5 * ((A 0) v3)) + ((A 2) v3)) else v2)) else v2)), .val (.int v3), .val (.int v4), .val (.int (v5 + (1 : Int32))), .val (.int ((v3 * (128 : Int32)) + v5)), .unset]) rfl ?_
        refine Wk.goto o_findMiss_105 ?_
        refine Wk.forget [false, false, false, false, false, false, true, false] (L' := [.val (.ref 0), .val (.int (if 0 < ((A 6) ((v3 * (128 : Int32)) + v5)) then (if v1 < 0 then ((v3 * (128 : Int32)) + v5) else (if ((v5 * ((A 0) v3)) + ((A 2) v3)) < v2 then ((v3 * (128 : Int32)) + v5) else v1)) else v1)), .val (.int (if 0 < ((A 6) ((v3 * (128 : Int32)) + v5)) then (if v1 < 0 then ((v5 * ((A 0) v3)) + ((A 2) v3)) else (if ((v5 * ((A 0) v3)) + ((A 2) v3)) < v2 then ((v5 * ((A 0) v3)) + ((A 2) v3)) else v2)) else v2)), .val (.int v3), .val (.int v4), .val (.int (v5 + (1 : Int32))), .unset, .unset]) rfl rfl ?_
        exact (h15 q1 q3)
      refine Wk.if_gt o_findMiss_62 (fun q7 => ?_) (fun q7 => ?_)
      · refine Wk.iload o_findMiss_68 rfl ?_
        refine Wk.aloadN o_findMiss_70 rfl ?_
        refine Wk.getA (mA_per) (by decide) (i' := 1) rfl (wf_per H) o_findMiss_71 ?_
        refine Wk.iloadN o_findMiss_74 rfl ?_
        refine Wk.iaload (mA_per) (by decide) (i' := 1) rfl (s8 q1 q3 q7) (s9 q1 q3 q7) o_findMiss_75 (y := ((A 0) v3)) rfl ?_
        refine Wk.imul o_findMiss_76 ?_
        refine Wk.aloadN o_findMiss_77 rfl ?_
        refine Wk.getA (mA_dl) (by decide) (i' := 3) rfl (wf_dl H) o_findMiss_78 ?_
        refine Wk.iloadN o_findMiss_81 rfl ?_
        refine Wk.iaload (mA_dl) (by decide) (i' := 3) rfl (s8 q1 q3 q7) (s9 q1 q3 q7) o_findMiss_82 (y := ((A 2) v3)) rfl ?_
        refine Wk.iadd o_findMiss_83 ?_
        refine Wk.istore o_findMiss_84 (Or.inl rfl) (L' := [.val (.ref 0), .val (.int v1), .val (.int v2), .val (.int v3), .val (.int v4), .val (.int v5), .val (.int ((v3 * (128 : Int32)) + v5)), .val (.int ((v5 * ((A 0) v3)) + ((A 2) v3)))]) rfl ?_
        refine Wk.iloadN o_findMiss_86 rfl ?_
        refine Wk.if_lt o_findMiss_87 (fun q10 => ?_) (fun q10 => ?_)
        · refine Wk.iload o_findMiss_96 rfl ?_
          refine Wk.istoreN o_findMiss_98 (Or.inr ⟨_, rfl, rfl⟩) (L' := [.val (.ref 0), .val (.int ((v3 * (128 : Int32)) + v5)), .val (.int v2), .val (.int v3), .val (.int v4), .val (.int v5), .val (.int ((v3 * (128 : Int32)) + v5)), .val (.int ((v5 * ((A 0) v3)) + ((A 2) v3)))]) rfl ?_
          refine Wk.iload o_findMiss_99 rfl ?_
          refine Wk.istoreN o_findMiss_101 (Or.inr ⟨_, rfl, rfl⟩) (L' := [.val (.ref 0), .val (.int ((v3 * (128 : Int32)) + v5)), .val (.int ((v5 * ((A 0) v3)) + ((A 2) v3))), .val (.int v3), .val (.int v4), .val (.int v5), .val (.int ((v3 * (128 : Int32)) + v5)), .val (.int ((v5 * ((A 0) v3)) + ((A 2) v3)))]) rfl ?_
          refine Wk.forget [false, false, false, false, false, false, false, true] (L' := [.val (.ref 0), .val (.int ((v3 * (128 : Int32)) + v5)), .val (.int ((v5 * ((A 0) v3)) + ((A 2) v3))), .val (.int v3), .val (.int v4), .val (.int v5), .val (.int ((v3 * (128 : Int32)) + v5)), .unset]) rfl rfl ?_
          first | (rw [show ((if 0 < ((A 6) ((v3 * (128 : Int32)) + v5)) then (if v1 < 0 then ((v3 * (128 : Int32)) + v5) else (if ((v5 * ((A 0) v3)) + ((A 2) v3)) < v2 then ((v3 * (128 : Int32)) + v5) else v1)) else v1) : Int32) = ((v3 * (128 : Int32)) + v5) from Eq.trans (if_pos q7) <| if_pos q10, show ((if 0 < ((A 6) ((v3 * (128 : Int32)) + v5)) then (if v1 < 0 then ((v5 * ((A 0) v3)) + ((A 2) v3)) else (if ((v5 * ((A 0) v3)) + ((A 2) v3)) < v2 then ((v5 * ((A 0) v3)) + ((A 2) v3)) else v2)) else v2) : Int32) = ((v5 * ((A 0) v3)) + ((A 2) v3)) from Eq.trans (if_pos q7) <| if_pos q10] at J14; exact J14) | exact J14 | (simp only [if_pos q7, if_pos q10] at J14 ⊢; exact J14)
        · refine Wk.iload o_findMiss_90 rfl ?_
          refine Wk.iloadN o_findMiss_92 rfl ?_
          refine Wk.icmp_ge o_findMiss_93 (fun q11 => ?_) (fun q11 => ?_)
          · refine Wk.forget [false, false, false, false, false, false, false, true] (L' := [.val (.ref 0), .val (.int v1), .val (.int v2), .val (.int v3), .val (.int v4), .val (.int v5), .val (.int ((v3 * (128 : Int32)) + v5)), .unset]) rfl rfl ?_
            first | (rw [show ((if 0 < ((A 6) ((v3 * (128 : Int32)) + v5)) then (if v1 < 0 then ((v3 * (128 : Int32)) + v5) else (if ((v5 * ((A 0) v3)) + ((A 2) v3)) < v2 then ((v3 * (128 : Int32)) + v5) else v1)) else v1) : Int32) = v1 from Eq.trans (if_pos q7) <| Eq.trans (if_neg q10) <| if_neg q11, show ((if 0 < ((A 6) ((v3 * (128 : Int32)) + v5)) then (if v1 < 0 then ((v5 * ((A 0) v3)) + ((A 2) v3)) else (if ((v5 * ((A 0) v3)) + ((A 2) v3)) < v2 then ((v5 * ((A 0) v3)) + ((A 2) v3)) else v2)) else v2) : Int32) = v2 from Eq.trans (if_pos q7) <| Eq.trans (if_neg q10) <| if_neg q11] at J14; exact J14) | exact J14 | (simp only [if_pos q7, if_neg q10, if_neg q11] at J14 ⊢; exact J14)
          · refine Wk.iload o_findMiss_96 rfl ?_
            refine Wk.istoreN o_findMiss_98 (Or.inr ⟨_, rfl, rfl⟩) (L' := [.val (.ref 0), .val (.int ((v3 * (128 : Int32)) + v5)), .val (.int v2), .val (.int v3), .val (.int v4), .val (.int v5), .val (.int ((v3 * (128 : Int32)) + v5)), .val (.int ((v5 * ((A 0) v3)) + ((A 2) v3)))]) rfl ?_
            refine Wk.iload o_findMiss_99 rfl ?_
            refine Wk.istoreN o_findMiss_101 (Or.inr ⟨_, rfl, rfl⟩) (L' := [.val (.ref 0), .val (.int ((v3 * (128 : Int32)) + v5)), .val (.int ((v5 * ((A 0) v3)) + ((A 2) v3))), .val (.int v3), .val (.int v4), .val (.int v5), .val (.int ((v3 * (128 : Int32)) + v5)), .val (.int ((v5 * ((A 0) v3)) + ((A 2) v3)))]) rfl ?_
            refine Wk.forget [false, false, false, false, false, false, false, true] (L' := [.val (.ref 0), .val (.int ((v3 * (128 : Int32)) + v5)), .val (.int ((v5 * ((A 0) v3)) + ((A 2) v3))), .val (.int v3), .val (.int v4), .val (.int v5), .val (.int ((v3 * (128 : Int32)) + v5)), .unset]) rfl rfl ?_
            first | (rw [show ((if 0 < ((A 6) ((v3 * (128 : Int32)) + v5)) then (if v1 < 0 then ((v3 * (128 : Int32)) + v5) else (if ((v5 * ((A 0) v3)) + ((A 2) v3)) < v2 then ((v3 * (128 : Int32)) + v5) else v1)) else v1) : Int32) = ((v3 * (128 : Int32)) + v5) from Eq.trans (if_pos q7) <| Eq.trans (if_neg q10) <| if_pos q11, show ((if 0 < ((A 6) ((v3 * (128 : Int32)) + v5)) then (if v1 < 0 then ((v5 * ((A 0) v3)) + ((A 2) v3)) else (if ((v5 * ((A 0) v3)) + ((A 2) v3)) < v2 then ((v5 * ((A 0) v3)) + ((A 2) v3)) else v2)) else v2) : Int32) = ((v5 * ((A 0) v3)) + ((A 2) v3)) from Eq.trans (if_pos q7) <| Eq.trans (if_neg q10) <| if_pos q11] at J14; exact J14) | exact J14 | (simp only [if_pos q7, if_neg q10, if_pos q11] at J14 ⊢; exact J14)
      · refine Wk.goto o_findMiss_65 ?_
        first | (rw [show ((if 0 < ((A 6) ((v3 * (128 : Int32)) + v5)) then (if v1 < 0 then ((v3 * (128 : Int32)) + v5) else (if ((v5 * ((A 0) v3)) + ((A 2) v3)) < v2 then ((v3 * (128 : Int32)) + v5) else v1)) else v1) : Int32) = v1 from if_neg q7, show ((if 0 < ((A 6) ((v3 * (128 : Int32)) + v5)) then (if v1 < 0 then ((v5 * ((A 0) v3)) + ((A 2) v3)) else (if ((v5 * ((A 0) v3)) + ((A 2) v3)) < v2 then ((v5 * ((A 0) v3)) + ((A 2) v3)) else v2)) else v2) : Int32) = v2 from if_neg q7] at J14; exact J14) | exact J14 | (simp only [if_neg q7] at J14 ⊢; exact J14)

theorem rt_findMiss (F : Nat → Int32) (G : Nat → Int64) (A : Nat → Int32 → Int32) (B : Nat → Int32 → Int64) (v0 : Int32) (r : Int32) (e : v0 = r) : some (Value.int v0) = some (.int r) ∧ (7, F, G, A, B) = (7, F, G, A, B) := by subst e; exact ⟨rfl, rfl⟩
def lp_findMiss : Nat → Nat → Int32 → Int32 → Int32 → Int32 → Int32 → (Nat → Int32) → (Nat → Int32 → Int32) → Option (Int32)
  | 0, _, _, _, _, _, _, _, _ => none
  | n + 1, tag, v1, v2, v3, v4, v5, F, A => if tag = 6 then (if v3 < (F 2) then (if (¬ v3 < 0) ∧ (v3 < (8 : Int32)) ∧ (¬ ((A 0) v3) = (0 : Int32)) then lp_findMiss n 30 v1 v2 v3 ((F 3) / ((A 0) v3)) (0 : Int32) F A else none) else some (v1)) else if tag = 30 then (if v5 < v4 then (if v5 < (128 : Int32) then (if (¬ ((v3 * (128 : Int32)) + v5) < 0) ∧ (((v3 * (128 : Int32)) + v5) < (1024 : Int32)) ∧ (0 < ((A 6) ((v3 * (128 : Int32)) + v5)) → ¬ v3 < 0) ∧ (0 < ((A 6) ((v3 * (128 : Int32)) + v5)) → v3 < (8 : Int32)) then lp_findMiss n 30 (if 0 < ((A 6) ((v3 * (128 : Int32)) + v5)) then (if v1 < 0 then ((v3 * (128 : Int32)) + v5) else (if ((v5 * ((A 0) v3)) + ((A 2) v3)) < v2 then ((v3 * (128 : Int32)) + v5) else v1)) else v1) (if 0 < ((A 6) ((v3 * (128 : Int32)) + v5)) then (if v1 < 0 then ((v5 * ((A 0) v3)) + ((A 2) v3)) else (if ((v5 * ((A 0) v3)) + ((A 2) v3)) < v2 then ((v5 * ((A 0) v3)) + ((A 2) v3)) else v2)) else v2) v3 v4 (v5 + (1 : Int32)) F A else none) else lp_findMiss n 6 v1 v2 (v3 + (1 : Int32)) 0 0 F A) else lp_findMiss n 6 v1 v2 (v3 + (1 : Int32)) 0 0 F A) else none
theorem lp_findMiss_z (tag : Nat) (v1 : Int32) (v2 : Int32) (v3 : Int32) (v4 : Int32) (v5 : Int32) (F : Nat → Int32) (A : Nat → Int32 → Int32) : lp_findMiss 0 tag v1 v2 v3 v4 v5 F A = none := Eq.trans rfl rfl
theorem lp_findMiss_6 (n : Nat) (v1 : Int32) (v2 : Int32) (v3 : Int32) (v4 : Int32) (v5 : Int32) (F : Nat → Int32) (A : Nat → Int32 → Int32) : lp_findMiss (n + 1) 6 v1 v2 v3 v4 v5 F A = (if v3 < (F 2) then (if (¬ v3 < 0) ∧ (v3 < (8 : Int32)) ∧ (¬ ((A 0) v3) = (0 : Int32)) then lp_findMiss n 30 v1 v2 v3 ((F 3) / ((A 0) v3)) (0 : Int32) F A else none) else some (v1)) := by
  rw [lp_findMiss, if_pos rfl]
theorem lp_findMiss_30 (n : Nat) (v1 : Int32) (v2 : Int32) (v3 : Int32) (v4 : Int32) (v5 : Int32) (F : Nat → Int32) (A : Nat → Int32 → Int32) : lp_findMiss (n + 1) 30 v1 v2 v3 v4 v5 F A = (if v5 < v4 then (if v5 < (128 : Int32) then (if (¬ ((v3 * (128 : Int32)) + v5) < 0) ∧ (((v3 * (128 : Int32)) + v5) < (1024 : Int32)) ∧ (0 < ((A 6) ((v3 * (128 : Int32)) + v5)) → ¬ v3 < 0) ∧ (0 < ((A 6) ((v3 * (128 : Int32)) + v5)) → v3 < (8 : Int32)) then lp_findMiss n 30 (if 0 < ((A 6) ((v3 * (128 : Int32)) + v5)) then (if v1 < 0 then ((v3 * (128 : Int32)) + v5) else (if ((v5 * ((A 0) v3)) + ((A 2) v3)) < v2 then ((v3 * (128 : Int32)) + v5) else v1)) else v1) (if 0 < ((A 6) ((v3 * (128 : Int32)) + v5)) then (if v1 < 0 then ((v5 * ((A 0) v3)) + ((A 2) v3)) else (if ((v5 * ((A 0) v3)) + ((A 2) v3)) < v2 then ((v5 * ((A 0) v3)) + ((A 2) v3)) else v2)) else v2) v3 v4 (v5 + (1 : Int32)) F A else none) else lp_findMiss n 6 v1 v2 (v3 + (1 : Int32)) 0 0 F A) else lp_findMiss n 6 v1 v2 (v3 + (1 : Int32)) 0 0 F A) := by
  rw [lp_findMiss, if_neg (by decide), if_pos rfl]
set_option maxRecDepth 65536 in
set_option maxHeartbeats 4000000 in
theorem lpw_findMiss {l : Launch} {Z : State} {a0 : Array Value} (H : OK Z a0) (F : Nat → Int32) (G : Nat → Int64) (A : Nat → Int32 → Int32) (B : Nat → Int32 → Int64) : ∀ (n : Nat) (v1 : Int32) (v2 : Int32) (v3 : Int32) (v4 : Int32) (v5 : Int32) (r : Int32), (lp_findMiss n 6 v1 v2 v3 v4 v5 F A = some r → Wk l Z (MoC Z cdC) md_findMiss 6 [.val (.ref 0), .val (.int v1), .val (.int v2), .val (.int v3), .unset, .unset, .unset, .unset] [] (7, F, G, A, B) 0 0 (fun v w' => v = some (.int r) ∧ w' = (7, F, G, A, B))) ∧ (lp_findMiss n 30 v1 v2 v3 v4 v5 F A = some r → Wk l Z (MoC Z cdC) md_findMiss 30 [.val (.ref 0), .val (.int v1), .val (.int v2), .val (.int v3), .val (.int v4), .val (.int v5), .unset, .unset] [] (7, F, G, A, B) 0 0 (fun v w' => v = some (.int r) ∧ w' = (7, F, G, A, B))) := by
  intro n
  induction n with
  | zero =>
    intro v1 v2 v3 v4 v5  r
    exact ⟨(fun h => by rw [lp_findMiss_z] at h; cases h), (fun h => by rw [lp_findMiss_z] at h; cases h)⟩
  | succ n ih =>
    intro v1 v2 v3 v4 v5  r
    refine ⟨fun h => ?_, fun h => ?_⟩
    · rw [lp_findMiss_6] at h
      exact wp_findMiss_6 H F G A B v1 v2 v3 (fun q1 => (rt_findMiss _ _ _ _ _ r (Option.some.inj (ifn q1 h)))) (fun q1 => (gd (ifp q1 h)).1.1) (fun q1 => (gd (ifp q1 h)).1.2.1) (fun q1 => (gd (ifp q1 h)).1.2.2) (fun q1 => (ih _ _ _ _ _ _).2 (gd (ifp q1 h)).2)
    · rw [lp_findMiss_30] at h
      exact wp_findMiss_30 H F G A B v1 v2 v3 v4 v5 (fun q1 => (ih _ _ _ _ _ _).1 (ifn q1 h)) (fun q1 q3 => (ih _ _ _ _ _ _).1 (ifn q3 (ifp q1 h))) (fun q1 q3 => (gd (ifp q3 (ifp q1 h))).1.1) (fun q1 q3 => (gd (ifp q3 (ifp q1 h))).1.2.1) (fun q1 q3 q7 => ((gd (ifp q3 (ifp q1 h))).1.2.2.1) q7) (fun q1 q3 q7 => ((gd (ifp q3 (ifp q1 h))).1.2.2.2) q7) (fun q1 q3 => (ih _ _ _ _ _ _).2 (gd (ifp q3 (ifp q1 h))).2)
def en_findMiss (F : Nat → Int32) (A : Nat → Int32 → Int32) : Option (Int32) := lp_findMiss 20000 6 (-1 : Int32) (0 : Int32) (0 : Int32) 0 0 F A
theorem een_findMiss (F : Nat → Int32) (A : Nat → Int32 → Int32) : en_findMiss F A  = lp_findMiss 20000 6 (-1 : Int32) (0 : Int32) (0 : Int32) 0 0 F A := Eq.trans rfl rfl
def R_findMiss (F : Nat → Int32) (A : Nat → Int32 → Int32) : Int32 := (en_findMiss F A ).getD (0)
theorem eR_findMiss (F : Nat → Int32) (A : Nat → Int32 → Int32) : R_findMiss F A  = (en_findMiss F A ).getD (0) := Eq.trans rfl rfl
set_option maxRecDepth 65536 in
set_option maxHeartbeats 4000000 in
theorem run_findMiss {l : Launch} {Z : State} {a0 : Array Value} (H : OK Z a0) (F : Nat → Int32) (G : Nat → Int64) (A : Nat → Int32 → Int32) (B : Nat → Int32 → Int64) (e1 : (en_findMiss F A ).isSome = true) :
    Wk l Z (MoC Z cdC) md_findMiss 0 [.val (.ref 0), .unset, .unset, .unset, .unset, .unset, .unset, .unset] [] (7, F, G, A, B) 0 0 (fun v w' => v = some (.int (R_findMiss F A )) ∧ w' = (7, F, G, A, B)) := by
  obtain ⟨r, h⟩ := Option.isSome_iff_exists.mp e1
  have e : R_findMiss F A  = r := (eR_findMiss F A ).trans (getD_some h)
  rw [e]
  rw [een_findMiss] at h
  exact wp_findMiss H F G A B  ((lpw_findMiss H F G A B _ _ _ _ _ _ _).1 h)
set_option maxRecDepth 65536 in
set_option maxHeartbeats 4000000 in
theorem wp_build {l : Launch} {Z : State} {a0 : Array Value} (H : OK Z a0) (F : Nat → Int32) (G : Nat → Int64) (A : Nat → Int32 → Int32) (B : Nat → Int32 → Int64) (p1 : Int32) {Q : Option Value → WO → Prop} (s2 : ¬ (F 2) = 0 → (en_dividesHyper F p1).isSome = true) (s4 : ¬ (F 2) = 0 → ¬ (R_dividesHyper F p1) = 0 → (en_deadlinesOk F A p1).isSome = true) (s6 : ¬ (F 2) = 0 → ¬ (R_dividesHyper F p1) = 0 → ¬ (R_deadlinesOk F A p1) = 0 → (en_initJobs F A ).isSome = true) (h7 : ¬ (F 2) = 0 → ¬ (R_dividesHyper F p1) = 0 → ¬ (R_deadlinesOk F A p1) = 0 → Wk l Z (MoC Z cdC) md_build 38 [.val (.ref 0), .val (.int p1), .val (.int (0 : Int32)), .unset] [] (7, F, G, (R_initJobs F A ).2, B) 0 0 Q) (h8 : ¬ (F 2) = 0 → ¬ (R_dividesHyper F p1) = 0 → (R_deadlinesOk F A p1) = 0 → Q (some (.int (-6 : Int32))) (7, F, G, A, B)) (h9 : ¬ (F 2) = 0 → (R_dividesHyper F p1) = 0 → Q (some (.int (-5 : Int32))) (7, F, G, A, B)) (h10 : (F 2) = 0 → Q (some (.int (-4 : Int32))) (7, F, G, A, B)) :
    Wk l Z (MoC Z cdC) md_build 0 [.val (.ref 0), .val (.int p1), .unset, .unset] [] (7, F, G, A, B) 0 0 Q := by
  refine Wk.aloadN o_build_0 rfl ?_
  refine Wk.getI (mI_count) (wf_count H) o_build_1 (x := (F 2)) rfl ?_
  refine Wk.if_ne o_build_4 (fun q1 => ?_) (fun q1 => ?_)
  · refine Wk.aloadN o_build_10 rfl ?_
    refine Wk.iloadN o_build_11 rfl ?_
    refine Wk.callF [.int p1] [] (H.w 89 rfl) (cv_dividesHyper H) o_build_12 (run_dividesHyper H F G A B p1 (s2 q1)) (wt := 0) (cu' := 0) (su' := 0) (by decide) rfl rfl rfl rfl rfl rfl rfl ?_
    refine Wk.if_ne o_build_15 (fun q3 => ?_) (fun q3 => ?_)
    · refine Wk.aloadN o_build_21 rfl ?_
      refine Wk.iloadN o_build_22 rfl ?_
      refine Wk.callF [.int p1] [] (H.w 93 rfl) (cv_deadlinesOk H) o_build_23 (run_deadlinesOk H F G A B p1 (s4 q1 q3)) (wt := 0) (cu' := 0) (su' := 0) (by decide) rfl rfl rfl rfl rfl rfl rfl ?_
      refine Wk.if_ne o_build_26 (fun q5 => ?_) (fun q5 => ?_)
      · refine Wk.aloadN o_build_32 rfl ?_
        refine Wk.callU [] [] (H.w 97 rfl) (cv_initJobs H) o_build_33 (run_initJobs H F G A B (s6 q1 q3 q5)) (wt := 0) (cu' := 0) (su' := 0) (by decide) rfl rfl rfl rfl rfl rfl rfl ?_
        refine Wk.iconst o_build_36 (z := (0 : Int32)) (by decide) ?_
        refine Wk.istoreN o_build_37 (Or.inl rfl) (L' := [.val (.ref 0), .val (.int p1), .val (.int (0 : Int32)), .unset]) rfl ?_
        exact (h7 q1 q3 q5)
      · refine Wk.bipush o_build_29 (z := (-6 : Int32)) (by decide) ?_
        exact Wk.ireturn mrC rfl o_build_31 rfl (by decide) (by decide) (h8 q1 q3 q5)
    · refine Wk.bipush o_build_18 (z := (-5 : Int32)) (by decide) ?_
      exact Wk.ireturn mrC rfl o_build_20 rfl (by decide) (by decide) (h9 q1 q3)
  · refine Wk.bipush o_build_7 (z := (-4 : Int32)) (by decide) ?_
    exact Wk.ireturn mrC rfl o_build_9 rfl (by decide) (by decide) (h10 q1)

set_option maxRecDepth 65536 in
set_option maxHeartbeats 4000000 in
theorem wp_build_38 {l : Launch} {Z : State} {a0 : Array Value} (H : OK Z a0) (F : Nat → Int32) (G : Nat → Int64) (A : Nat → Int32 → Int32) (B : Nat → Int32 → Int64) (v1 : Int32) (v2 : Int32) {Q : Option Value → WO → Prop} (s2 : ¬ v2 < (128 : Int32) → ¬ v1 = (0 : Int32)) (h3 : ¬ v2 < (128 : Int32) → Wk l Z (MoC Z cdC) md_build 74 [.val (.ref 0), .val (.int v1), .val (.int ((F 3) / v1)), .val (.int (0 : Int32))] [] (7, F, G, A, B) 0 0 Q) (s4 : v2 < (128 : Int32) → ¬ v2 < 0) (h5 : v2 < (128 : Int32) → Wk l Z (MoC Z cdC) md_build 38 [.val (.ref 0), .val (.int v1), .val (.int (v2 + (1 : Int32))), .unset] [] (7, F, G, (ups (ups A 4 (ups (A 4) v2 (-1 : Int32))) 5 (ups (A 5) v2 (-1 : Int32))), B) 0 0 Q) :
    Wk l Z (MoC Z cdC) md_build 38 [.val (.ref 0), .val (.int v1), .val (.int v2), .unset] [] (7, F, G, A, B) 0 0 Q := by
  refine Wk.iloadN o_build_38 rfl ?_
  refine Wk.sipush o_build_39 (z := (128 : Int32)) (by decide) ?_
  refine Wk.icmp_ge o_build_42 (fun q1 => ?_) (fun q1 => ?_)
  · refine Wk.aloadN o_build_65 rfl ?_
    refine Wk.getI (mI_hyper) (wf_hyper H) o_build_66 (x := (F 3)) rfl ?_
    refine Wk.iloadN o_build_69 rfl ?_
    refine Wk.idiv o_build_70 (s2 q1) ?_
    refine Wk.istoreN o_build_71 (Or.inr ⟨_, rfl, rfl⟩) (L' := [.val (.ref 0), .val (.int v1), .val (.int ((F 3) / v1)), .unset]) rfl ?_
    refine Wk.iconst o_build_72 (z := (0 : Int32)) (by decide) ?_
    refine Wk.istoreN o_build_73 (Or.inl rfl) (L' := [.val (.ref 0), .val (.int v1), .val (.int ((F 3) / v1)), .val (.int (0 : Int32))]) rfl ?_
    exact (h3 q1)
  · refine Wk.aloadN o_build_45 rfl ?_
    refine Wk.getA (mA_tickTask) (by decide) (i' := 5) rfl (wf_tickTask H) o_build_46 ?_
    refine Wk.iloadN o_build_49 rfl ?_
    refine Wk.iconst o_build_50 (z := (-1 : Int32)) (by decide) ?_
    refine Wk.iastore (coC H) (f := (A 4)) (mA_tickTask) rfl (by decide) (i' := 5) rfl (s4 q1) q1 o_build_51 ?_
    refine Wk.aloadN o_build_52 rfl ?_
    refine Wk.getA (mA_tickJob) (by decide) (i' := 6) rfl (wf_tickJob H) o_build_53 ?_
    refine Wk.iloadN o_build_56 rfl ?_
    refine Wk.iconst o_build_57 (z := (-1 : Int32)) (by decide) ?_
    refine Wk.iastore (coC H) (f := (A 5)) (mA_tickJob) rfl (by decide) (i' := 6) rfl (s4 q1) q1 o_build_58 ?_
    refine Wk.iinc o_build_59 rfl (z := (v2 + (1 : Int32))) rfl (L' := [.val (.ref 0), .val (.int v1), .val (.int (v2 + (1 : Int32))), .unset]) rfl ?_
    refine Wk.goto o_build_62 ?_
    exact (h5 q1)

set_option maxRecDepth 65536 in
set_option maxHeartbeats 4000000 in
theorem wp_build_74 {l : Launch} {Z : State} {a0 : Array Value} (H : OK Z a0) (F : Nat → Int32) (G : Nat → Int64) (A : Nat → Int32 → Int32) (B : Nat → Int32 → Int64) (v1 : Int32) (v2 : Int32) (v3 : Int32) {Q : Option Value → WO → Prop} (s2 : ¬ v3 < v2 → (en_findMiss F A ).isSome = true) (s3 : ¬ v3 < v2 → (en_resetDispatcher F A ).isSome = true) (h5 : ¬ v3 < v2 → (R_findMiss F A ) < 0 → Q (some (.int (0 : Int32))) (7, (ups (ups (ups (R_resetDispatcher F A ).2.1 4 (1 : Int32)) 5 v1) 6 (-1 : Int32)), G, (R_resetDispatcher F A ).2.2, B)) (h6 : ¬ v3 < v2 → ¬ (R_findMiss F A ) < 0 → Q (some (.int (-7 : Int32))) (7, (ups (ups (ups (R_resetDispatcher F A ).2.1 4 (0 : Int32)) 5 (0 : Int32)) 6 (R_findMiss F A )), G, (R_resetDispatcher F A ).2.2, B)) (s7 : v3 < v2 → (en_fillFrame F A v3 v1).isSome = true) (h8 : v3 < v2 → Wk l Z (MoC Z cdC) md_build 74 [.val (.ref 0), .val (.int v1), .val (.int v2), .val (.int (v3 + (1 : Int32)))] [] (7, F, G, (R_fillFrame F A v3 v1).2, B) 0 0 Q) :
    Wk l Z (MoC Z cdC) md_build 74 [.val (.ref 0), .val (.int v1), .val (.int v2), .val (.int v3)] [] (7, F, G, A, B) 0 0 Q := by
  refine Wk.iloadN o_build_74 rfl ?_
  refine Wk.iloadN o_build_75 rfl ?_
  refine Wk.icmp_ge o_build_76 (fun q1 => ?_) (fun q1 => ?_)
  · refine Wk.aloadN o_build_91 rfl ?_
    refine Wk.callF [] [] (H.w 109 rfl) (cv_findMiss H) o_build_92 (run_findMiss H F G A B (s2 q1)) (wt := 0) (cu' := 0) (su' := 0) (by decide) rfl rfl rfl rfl rfl rfl rfl ?_
    refine Wk.istoreN o_build_95 (Or.inr ⟨_, rfl, rfl⟩) (L' := [.val (.ref 0), .val (.int v1), .val (.int v2), .val (.int (R_findMiss F A ))]) rfl ?_
    refine Wk.aloadN o_build_96 rfl ?_
    refine Wk.callU [] [] (H.w 72 rfl) (cv_resetDispatcher H) o_build_97 (run_resetDispatcher H F G A B (s3 q1)) (wt := 0) (cu' := 0) (su' := 0) (by decide) rfl rfl rfl rfl rfl rfl rfl ?_
    refine Wk.iloadN o_build_100 rfl ?_
    refine Wk.if_lt o_build_101 (fun q4 => ?_) (fun q4 => ?_)
    · refine Wk.aloadN o_build_122 rfl ?_
      refine Wk.iconst o_build_123 (z := (1 : Int32)) (by decide) ?_
      refine Wk.putZ (coC H) (y := (1 : Int32)) (by decide) (mI_present) (wf_present H) (Or.inl (wy_present H)) o_build_124 ?_
      refine Wk.aloadN o_build_127 rfl ?_
      refine Wk.iloadN o_build_128 rfl ?_
      refine Wk.putI (coC H) (mI_frame) (wf_frame H) (Or.inl (wy_frame H)) o_build_129 ?_
      refine Wk.aloadN o_build_132 rfl ?_
      refine Wk.iconst o_build_133 (z := (-1 : Int32)) (by decide) ?_
      refine Wk.putI (coC H) (mI_miss) (wf_miss H) (Or.inl (wy_miss H)) o_build_134 ?_
      refine Wk.iconst o_build_137 (z := (0 : Int32)) (by decide) ?_
      exact Wk.ireturn mrC rfl o_build_138 rfl (by decide) (by decide) (h5 q1 q4)
    · refine Wk.aloadN o_build_104 rfl ?_
      refine Wk.iconst o_build_105 (z := (0 : Int32)) (by decide) ?_
      refine Wk.putZ (coC H) (y := (0 : Int32)) (by decide) (mI_present) (wf_present H) (Or.inl (wy_present H)) o_build_106 ?_
      refine Wk.aloadN o_build_109 rfl ?_
      refine Wk.iconst o_build_110 (z := (0 : Int32)) (by decide) ?_
      refine Wk.putI (coC H) (mI_frame) (wf_frame H) (Or.inl (wy_frame H)) o_build_111 ?_
      refine Wk.aloadN o_build_114 rfl ?_
      refine Wk.iloadN o_build_115 rfl ?_
      refine Wk.putI (coC H) (mI_miss) (wf_miss H) (Or.inl (wy_miss H)) o_build_116 ?_
      refine Wk.bipush o_build_119 (z := (-7 : Int32)) (by decide) ?_
      exact Wk.ireturn mrC rfl o_build_121 rfl (by decide) (by decide) (h6 q1 q4)
  · refine Wk.aloadN o_build_79 rfl ?_
    refine Wk.iloadN o_build_80 rfl ?_
    refine Wk.iloadN o_build_81 rfl ?_
    refine Wk.callU [.int v3, .int v1] [] (H.w 101 rfl) (cv_fillFrame H) o_build_82 (run_fillFrame H F G A B v3 v1 (s7 q1)) (wt := 0) (cu' := 0) (su' := 0) (by decide) rfl rfl rfl rfl rfl rfl rfl ?_
    refine Wk.iinc o_build_85 rfl (z := (v3 + (1 : Int32))) rfl (L' := [.val (.ref 0), .val (.int v1), .val (.int v2), .val (.int (v3 + (1 : Int32)))]) rfl ?_
    refine Wk.goto o_build_88 ?_
    exact (h8 q1)

theorem rt_build (G : Nat → Int64) (B : Nat → Int32 → Int64) (v0 : Int32) (xF : Nat → Int32) (xA : Nat → Int32 → Int32) (r : Int32 × (Nat → Int32) × (Nat → Int32 → Int32)) (e : (v0, xF, xA) = r) : some (Value.int v0) = some (.int r.1) ∧ (7, xF, G, xA, B) = (7, r.2.1, G, r.2.2, B) := by subst e; exact ⟨rfl, rfl⟩
def lp_build : Nat → Nat → Int32 → Int32 → Int32 → (Nat → Int32) → (Nat → Int32 → Int32) → Option (Int32 × (Nat → Int32) × (Nat → Int32 → Int32))
  | 0, _, _, _, _, _, _ => none
  | n + 1, tag, v1, v2, v3, F, A => if tag = 38 then (if v2 < (128 : Int32) then (if (¬ v2 < 0) then lp_build n 38 v1 (v2 + (1 : Int32)) 0 F (ups (ups A 4 (ups (A 4) v2 (-1 : Int32))) 5 (ups (A 5) v2 (-1 : Int32))) else none) else (if (¬ v1 = (0 : Int32)) then lp_build n 74 v1 ((F 3) / v1) (0 : Int32) F A else none)) else if tag = 74 then (if v3 < v2 then (if ((en_fillFrame F A v3 v1).isSome = true) then lp_build n 74 v1 v2 (v3 + (1 : Int32)) F (R_fillFrame F A v3 v1).2 else none) else (if ((en_findMiss F A ).isSome = true) ∧ ((en_resetDispatcher F A ).isSome = true) then (if (R_findMiss F A ) < 0 then some ((0 : Int32), (ups (ups (ups (R_resetDispatcher F A ).2.1 4 (1 : Int32)) 5 v1) 6 (-1 : Int32)), (R_resetDispatcher F A ).2.2) else some ((-7 : Int32), (ups (ups (ups (R_resetDispatcher F A ).2.1 4 (0 : Int32)) 5 (0 : Int32)) 6 (R_findMiss F A )), (R_resetDispatcher F A ).2.2)) else none)) else none
theorem lp_build_z (tag : Nat) (v1 : Int32) (v2 : Int32) (v3 : Int32) (F : Nat → Int32) (A : Nat → Int32 → Int32) : lp_build 0 tag v1 v2 v3 F A = none := Eq.trans rfl rfl
theorem lp_build_38 (n : Nat) (v1 : Int32) (v2 : Int32) (v3 : Int32) (F : Nat → Int32) (A : Nat → Int32 → Int32) : lp_build (n + 1) 38 v1 v2 v3 F A = (if v2 < (128 : Int32) then (if (¬ v2 < 0) then lp_build n 38 v1 (v2 + (1 : Int32)) 0 F (ups (ups A 4 (ups (A 4) v2 (-1 : Int32))) 5 (ups (A 5) v2 (-1 : Int32))) else none) else (if (¬ v1 = (0 : Int32)) then lp_build n 74 v1 ((F 3) / v1) (0 : Int32) F A else none)) := by
  rw [lp_build, if_pos rfl]
theorem lp_build_74 (n : Nat) (v1 : Int32) (v2 : Int32) (v3 : Int32) (F : Nat → Int32) (A : Nat → Int32 → Int32) : lp_build (n + 1) 74 v1 v2 v3 F A = (if v3 < v2 then (if ((en_fillFrame F A v3 v1).isSome = true) then lp_build n 74 v1 v2 (v3 + (1 : Int32)) F (R_fillFrame F A v3 v1).2 else none) else (if ((en_findMiss F A ).isSome = true) ∧ ((en_resetDispatcher F A ).isSome = true) then (if (R_findMiss F A ) < 0 then some ((0 : Int32), (ups (ups (ups (R_resetDispatcher F A ).2.1 4 (1 : Int32)) 5 v1) 6 (-1 : Int32)), (R_resetDispatcher F A ).2.2) else some ((-7 : Int32), (ups (ups (ups (R_resetDispatcher F A ).2.1 4 (0 : Int32)) 5 (0 : Int32)) 6 (R_findMiss F A )), (R_resetDispatcher F A ).2.2)) else none)) := by
  rw [lp_build, if_neg (by decide), if_pos rfl]
set_option maxRecDepth 65536 in
set_option maxHeartbeats 4000000 in
theorem lpw_build {l : Launch} {Z : State} {a0 : Array Value} (H : OK Z a0) (G : Nat → Int64) (B : Nat → Int32 → Int64) : ∀ (n : Nat) (v1 : Int32) (v2 : Int32) (v3 : Int32) (F : Nat → Int32) (A : Nat → Int32 → Int32) (r : Int32 × (Nat → Int32) × (Nat → Int32 → Int32)), (lp_build n 38 v1 v2 v3 F A = some r → Wk l Z (MoC Z cdC) md_build 38 [.val (.ref 0), .val (.int v1), .val (.int v2), .unset] [] (7, F, G, A, B) 0 0 (fun v w' => v = some (.int r.1) ∧ w' = (7, r.2.1, G, r.2.2, B))) ∧ (lp_build n 74 v1 v2 v3 F A = some r → Wk l Z (MoC Z cdC) md_build 74 [.val (.ref 0), .val (.int v1), .val (.int v2), .val (.int v3)] [] (7, F, G, A, B) 0 0 (fun v w' => v = some (.int r.1) ∧ w' = (7, r.2.1, G, r.2.2, B))) := by
  intro n
  induction n with
  | zero =>
    intro v1 v2 v3 F A r
    exact ⟨(fun h => by rw [lp_build_z] at h; cases h), (fun h => by rw [lp_build_z] at h; cases h)⟩
  | succ n ih =>
    intro v1 v2 v3 F A r
    refine ⟨fun h => ?_, fun h => ?_⟩
    · rw [lp_build_38] at h
      exact wp_build_38 H F G A B v1 v2 (fun q1 => (gd (ifn q1 h)).1) (fun q1 => (ih _ _ _ _ _ _).2 (gd (ifn q1 h)).2) (fun q1 => (gd (ifp q1 h)).1) (fun q1 => (ih _ _ _ _ _ _).1 (gd (ifp q1 h)).2)
    · rw [lp_build_74] at h
      exact wp_build_74 H F G A B v1 v2 v3 (fun q1 => (gd (ifn q1 h)).1.1) (fun q1 => (gd (ifn q1 h)).1.2) (fun q1 q4 => (rt_build _ _ _ _ _ r (Option.some.inj (ifp q4 (gd (ifn q1 h)).2)))) (fun q1 q4 => (rt_build _ _ _ _ _ r (Option.some.inj (ifn q4 (gd (ifn q1 h)).2)))) (fun q1 => (gd (ifp q1 h)).1) (fun q1 => (ih _ _ _ _ _ _).2 (gd (ifp q1 h)).2)
def en_build (F : Nat → Int32) (A : Nat → Int32 → Int32) (p1 : Int32) : Option (Int32 × (Nat → Int32) × (Nat → Int32 → Int32)) := (if (F 2) = 0 then some ((-4 : Int32), F, A) else (if ((en_dividesHyper F p1).isSome = true) then (if (R_dividesHyper F p1) = 0 then some ((-5 : Int32), F, A) else (if ((en_deadlinesOk F A p1).isSome = true) then (if (R_deadlinesOk F A p1) = 0 then some ((-6 : Int32), F, A) else (if ((en_initJobs F A ).isSome = true) then lp_build 20000 38 p1 (0 : Int32) 0 F (R_initJobs F A ).2 else none)) else none)) else none))
theorem een_build (F : Nat → Int32) (A : Nat → Int32 → Int32) (p1 : Int32) : en_build F A p1 = (if (F 2) = 0 then some ((-4 : Int32), F, A) else (if ((en_dividesHyper F p1).isSome = true) then (if (R_dividesHyper F p1) = 0 then some ((-5 : Int32), F, A) else (if ((en_deadlinesOk F A p1).isSome = true) then (if (R_deadlinesOk F A p1) = 0 then some ((-6 : Int32), F, A) else (if ((en_initJobs F A ).isSome = true) then lp_build 20000 38 p1 (0 : Int32) 0 F (R_initJobs F A ).2 else none)) else none)) else none)) := Eq.trans rfl rfl
def R_build (F : Nat → Int32) (A : Nat → Int32 → Int32) (p1 : Int32) : Int32 × (Nat → Int32) × (Nat → Int32 → Int32) := (en_build F A p1).getD (0, (fun _ => 0), (fun _ _ => 0))
theorem eR_build (F : Nat → Int32) (A : Nat → Int32 → Int32) (p1 : Int32) : R_build F A p1 = (en_build F A p1).getD (0, (fun _ => 0), (fun _ _ => 0)) := Eq.trans rfl rfl
set_option maxRecDepth 65536 in
set_option maxHeartbeats 4000000 in
theorem run_build {l : Launch} {Z : State} {a0 : Array Value} (H : OK Z a0) (F : Nat → Int32) (G : Nat → Int64) (A : Nat → Int32 → Int32) (B : Nat → Int32 → Int64) (p1 : Int32) (e1 : (en_build F A p1).isSome = true) :
    Wk l Z (MoC Z cdC) md_build 0 [.val (.ref 0), .val (.int p1), .unset, .unset] [] (7, F, G, A, B) 0 0 (fun v w' => v = some (.int (R_build F A p1).1) ∧ w' = (7, (R_build F A p1).2.1, G, (R_build F A p1).2.2, B)) := by
  obtain ⟨r, h⟩ := Option.isSome_iff_exists.mp e1
  have e : R_build F A p1 = r := (eR_build F A p1).trans (getD_some h)
  rw [e]
  rw [een_build] at h
  exact wp_build H F G A B p1 (fun q1 => (gd (ifn q1 h)).1) (fun q1 q3 => (gd (ifn q3 (gd (ifn q1 h)).2)).1) (fun q1 q3 q5 => (gd (ifn q5 (gd (ifn q3 (gd (ifn q1 h)).2)).2)).1) (fun q1 q3 q5 => (lpw_build H G B _ _ _ _ _ _ _).1 (gd (ifn q5 (gd (ifn q3 (gd (ifn q1 h)).2)).2)).2) (fun q1 q3 q5 => (rt_build _ _ _ _ _ r (Option.some.inj (ifp q5 (gd (ifn q3 (gd (ifn q1 h)).2)).2)))) (fun q1 q3 => (rt_build _ _ _ _ _ r (Option.some.inj (ifp q3 (gd (ifn q1 h)).2)))) (fun q1 => (rt_build _ _ _ _ _ r (Option.some.inj (ifp q1 h))))
set_option maxRecDepth 65536 in
set_option maxHeartbeats 4000000 in
theorem wp_getFrame {l : Launch} {Z : State} {a0 : Array Value} (H : OK Z a0) (F : Nat → Int32) (G : Nat → Int64) (A : Nat → Int32 → Int32) (B : Nat → Int32 → Int64) {Q : Option Value → WO → Prop} (h3 : Q (some (.int (if (F 4) = 0 then (0 : Int32) else (F 5)))) (7, F, G, A, B)) :
    Wk l Z (MoC Z cdC) md_getFrame 0 [.val (.ref 0)] [] (7, F, G, A, B) 0 0 Q := by
  refine Wk.aloadN o_getFrame_0 rfl ?_
  refine Wk.getI (mI_present) (wf_present H) o_getFrame_1 (x := (F 4)) rfl ?_
  have J2 : Wk l Z (MoC Z cdC) md_getFrame 15 [.val (.ref 0)] [.int (if (F 4) = 0 then (0 : Int32) else (F 5))] (7, F, G, A, B) 0 0 Q := by
    exact Wk.ireturn mrC rfl o_getFrame_15 rfl (by decide) (by decide) h3
  refine Wk.if_eq o_getFrame_4 (fun q1 => ?_) (fun q1 => ?_)
  · refine Wk.iconst o_getFrame_14 (z := (0 : Int32)) (by decide) ?_
    first | (rw [show ((if (F 4) = 0 then (0 : Int32) else (F 5)) : Int32) = (0 : Int32) from if_pos q1] at J2; exact J2) | exact J2 | (simp only [if_pos q1] at J2 ⊢; exact J2)
  · refine Wk.aloadN o_getFrame_7 rfl ?_
    refine Wk.getI (mI_frame) (wf_frame H) o_getFrame_8 (x := (F 5)) rfl ?_
    refine Wk.goto o_getFrame_11 ?_
    first | (rw [show ((if (F 4) = 0 then (0 : Int32) else (F 5)) : Int32) = (F 5) from if_neg q1] at J2; exact J2) | exact J2 | (simp only [if_neg q1] at J2 ⊢; exact J2)

def f_getFrame (F : Nat → Int32) : Int32 := (if (F 4) = 0 then (0 : Int32) else (F 5))
theorem e_getFrame (F : Nat → Int32) : f_getFrame F = (if (F 4) = 0 then (0 : Int32) else (F 5)) := Eq.trans rfl rfl
theorem run_getFrame {l : Launch} {Z : State} {a0 : Array Value} (H : OK Z a0) (F : Nat → Int32) (G : Nat → Int64) (A : Nat → Int32 → Int32) (B : Nat → Int32 → Int64) :
    Wk l Z (MoC Z cdC) md_getFrame 0 [.val (.ref 0)] [] (7, F, G, A, B) 0 0 (fun v w' => v = some (.int (f_getFrame F)) ∧ w' = (7, F, G, A, B)) :=
  wp_getFrame H F G A B ⟨rfl, rfl⟩
set_option maxRecDepth 65536 in
set_option maxHeartbeats 4000000 in
theorem wp_run {l : Launch} {Z : State} {a0 : Array Value} (H : OK Z a0) (F : Nat → Int32) (G : Nat → Int64) (A : Nat → Int32 → Int32) (B : Nat → Int32 → Int64) (p1 : Int32) {Q : Option Value → WO → Prop} (h2 : (F 4) = 0 → Q (some (.int (0 : Int32))) (7, F, G, A, B)) (h4 : ¬ (F 4) = 0 → p1 < (1 : Int32) → Q (some (.int (0 : Int32))) (7, F, G, A, B)) (h8 : ¬ (F 4) = 0 → ¬ p1 < (1 : Int32) → ¬ (F 3) < (1 : Int32) → Wk l Z (MoC Z cdC) md_run 39 [.val (.ref 0), .unset, .val (.int (if p1 < (4096 : Int32) then p1 else (4096 : Int32))), .val (.int (0 : Int32)), .unset] [] (7, F, G, A, B) 0 0 Q) (h9 : ¬ (F 4) = 0 → ¬ p1 < (1 : Int32) → (F 3) < (1 : Int32) → Q (some (.int (0 : Int32))) (7, F, G, A, B)) :
    Wk l Z (MoC Z cdC) md_run 0 [.val (.ref 0), .val (.int p1), .unset, .unset, .unset] [] (7, F, G, A, B) 0 0 Q := by
  refine Wk.aloadN o_run_0 rfl ?_
  refine Wk.getI (mI_present) (wf_present H) o_run_1 (x := (F 4)) rfl ?_
  refine Wk.if_eq o_run_4 (fun q1 => ?_) (fun q1 => ?_)
  · refine Wk.iconst o_run_20 (z := (0 : Int32)) (by decide) ?_
    exact Wk.ireturn mrC rfl o_run_21 rfl (by decide) (by decide) (h2 q1)
  · refine Wk.iloadN o_run_7 rfl ?_
    refine Wk.iconst o_run_8 (z := (1 : Int32)) (by decide) ?_
    refine Wk.icmp_lt o_run_9 (fun q3 => ?_) (fun q3 => ?_)
    · refine Wk.iconst o_run_20 (z := (0 : Int32)) (by decide) ?_
      exact Wk.ireturn mrC rfl o_run_21 rfl (by decide) (by decide) (h4 q1 q3)
    · refine Wk.aloadN o_run_12 rfl ?_
      refine Wk.getI (mI_hyper) (wf_hyper H) o_run_13 (x := (F 3)) rfl ?_
      refine Wk.iconst o_run_16 (z := (1 : Int32)) (by decide) ?_
      refine Wk.icmp_ge o_run_17 (fun q5 => ?_) (fun q5 => ?_)
      · refine Wk.iloadN o_run_22 rfl ?_
        refine Wk.sipush o_run_23 (z := (4096 : Int32)) (by decide) ?_
        have J7 : Wk l Z (MoC Z cdC) md_run 36 [.val (.ref 0), .val (.int p1), .unset, .unset, .unset] [.int (if p1 < (4096 : Int32) then p1 else (4096 : Int32))] (7, F, G, A, B) 0 0 Q := by
          refine Wk.istoreN o_run_36 (Or.inl rfl) (L' := [.val (.ref 0), .val (.int p1), .val (.int (if p1 < (4096 : Int32) then p1 else (4096 : Int32))), .unset, .unset]) rfl ?_
          refine Wk.iconst o_run_37 (z := (0 : Int32)) (by decide) ?_
          refine Wk.istoreN o_run_38 (Or.inl rfl) (L' := [.val (.ref 0), .val (.int p1), .val (.int (if p1 < (4096 : Int32) then p1 else (4096 : Int32))), .val (.int (0 : Int32)), .unset]) rfl ?_
          refine Wk.forget [false, true, false, false, false] (L' := [.val (.ref 0), .unset, .val (.int (if p1 < (4096 : Int32) then p1 else (4096 : Int32))), .val (.int (0 : Int32)), .unset]) rfl rfl ?_
          exact (h8 q1 q3 q5)
        refine Wk.icmp_ge o_run_26 (fun q6 => ?_) (fun q6 => ?_)
        · refine Wk.sipush o_run_33 (z := (4096 : Int32)) (by decide) ?_
          first | (rw [show ((if p1 < (4096 : Int32) then p1 else (4096 : Int32)) : Int32) = (4096 : Int32) from if_neg q6] at J7; exact J7) | exact J7 | (simp only [if_neg q6] at J7 ⊢; exact J7)
        · refine Wk.iloadN o_run_29 rfl ?_
          refine Wk.goto o_run_30 ?_
          first | (rw [show ((if p1 < (4096 : Int32) then p1 else (4096 : Int32)) : Int32) = p1 from if_pos q6] at J7; exact J7) | exact J7 | (simp only [if_pos q6] at J7 ⊢; exact J7)
      · refine Wk.iconst o_run_20 (z := (0 : Int32)) (by decide) ?_
        exact Wk.ireturn mrC rfl o_run_21 rfl (by decide) (by decide) (h9 q1 q3 q5)

set_option maxRecDepth 65536 in
set_option maxHeartbeats 4000000 in
theorem wp_run_39 {l : Launch} {Z : State} {a0 : Array Value} (H : OK Z a0) (F : Nat → Int32) (G : Nat → Int64) (A : Nat → Int32 → Int32) (B : Nat → Int32 → Int64) (v2 : Int32) (v3 : Int32) {Q : Option Value → WO → Prop} (h2 : ¬ v3 < v2 → Q (some (.int v2)) (7, F, G, A, B)) (h10 : v3 < v2 → (F 8) < 0 → ((A 4) (0 : Int32)) < 0 → ((0 : Int32) + (1 : Int32)) < (F 3) → Wk l Z (MoC Z cdC) md_run 39 [.val (.ref 0), .unset, .val (.int v2), .val (.int (v3 + (1 : Int32))), .unset] [] (7, (ups (ups (ups F 8 (0 : Int32)) 7 ((F 7) + (1 : Int32))) 8 ((0 : Int32) + (1 : Int32))), G, A, B) 0 0 Q) (h11 : v3 < v2 → (F 8) < 0 → ((A 4) (0 : Int32)) < 0 → ¬ ((0 : Int32) + (1 : Int32)) < (F 3) → Wk l Z (MoC Z cdC) md_run 39 [.val (.ref 0), .unset, .val (.int v2), .val (.int (v3 + (1 : Int32))), .unset] [] (7, (ups (ups (ups (ups F 8 (0 : Int32)) 7 ((F 7) + (1 : Int32))) 8 ((0 : Int32) + (1 : Int32))) 8 (0 : Int32)), G, A, B) 0 0 Q) (h14 : v3 < v2 → (F 8) < 0 → ¬ ((A 4) (0 : Int32)) < 0 → ¬ ((A 4) (0 : Int32)) < (8 : Int32) → ((0 : Int32) + (1 : Int32)) < (F 3) → Wk l Z (MoC Z cdC) md_run 39 [.val (.ref 0), .unset, .val (.int v2), .val (.int (v3 + (1 : Int32))), .unset] [] (7, (ups (ups (ups F 8 (0 : Int32)) 7 ((F 7) + (1 : Int32))) 8 ((0 : Int32) + (1 : Int32))), G, A, B) 0 0 Q) (h15 : v3 < v2 → (F 8) < 0 → ¬ ((A 4) (0 : Int32)) < 0 → ¬ ((A 4) (0 : Int32)) < (8 : Int32) → ¬ ((0 : Int32) + (1 : Int32)) < (F 3) → Wk l Z (MoC Z cdC) md_run 39 [.val (.ref 0), .unset, .val (.int v2), .val (.int (v3 + (1 : Int32))), .unset] [] (7, (ups (ups (ups (ups F 8 (0 : Int32)) 7 ((F 7) + (1 : Int32))) 8 ((0 : Int32) + (1 : Int32))) 8 (0 : Int32)), G, A, B) 0 0 Q) (h17 : v3 < v2 → (F 8) < 0 → ¬ ((A 4) (0 : Int32)) < 0 → ((A 4) (0 : Int32)) < (8 : Int32) → ((0 : Int32) + (1 : Int32)) < (F 3) → Wk l Z (MoC Z cdC) md_run 39 [.val (.ref 0), .unset, .val (.int v2), .val (.int (v3 + (1 : Int32))), .unset] [] (7, (ups (ups (ups F 8 (0 : Int32)) 7 ((F 7) + (1 : Int32))) 8 ((0 : Int32) + (1 : Int32))), G, (ups A 3 (ups (A 3) ((A 4) (0 : Int32)) (((A 3) ((A 4) (0 : Int32))) + (1 : Int32)))), B) 0 0 Q) (h18 : v3 < v2 → (F 8) < 0 → ¬ ((A 4) (0 : Int32)) < 0 → ((A 4) (0 : Int32)) < (8 : Int32) → ¬ ((0 : Int32) + (1 : Int32)) < (F 3) → Wk l Z (MoC Z cdC) md_run 39 [.val (.ref 0), .unset, .val (.int v2), .val (.int (v3 + (1 : Int32))), .unset] [] (7, (ups (ups (ups (ups F 8 (0 : Int32)) 7 ((F 7) + (1 : Int32))) 8 ((0 : Int32) + (1 : Int32))) 8 (0 : Int32)), G, (ups A 3 (ups (A 3) ((A 4) (0 : Int32)) (((A 3) ((A 4) (0 : Int32))) + (1 : Int32)))), B) 0 0 Q) (h24 : v3 < v2 → ¬ (F 8) < 0 → ¬ (F 8) < (F 3) → ((A 4) (0 : Int32)) < 0 → ((0 : Int32) + (1 : Int32)) < (F 3) → Wk l Z (MoC Z cdC) md_run 39 [.val (.ref 0), .unset, .val (.int v2), .val (.int (v3 + (1 : Int32))), .unset] [] (7, (ups (ups (ups F 8 (0 : Int32)) 7 ((F 7) + (1 : Int32))) 8 ((0 : Int32) + (1 : Int32))), G, A, B) 0 0 Q) (h25 : v3 < v2 → ¬ (F 8) < 0 → ¬ (F 8) < (F 3) → ((A 4) (0 : Int32)) < 0 → ¬ ((0 : Int32) + (1 : Int32)) < (F 3) → Wk l Z (MoC Z cdC) md_run 39 [.val (.ref 0), .unset, .val (.int v2), .val (.int (v3 + (1 : Int32))), .unset] [] (7, (ups (ups (ups (ups F 8 (0 : Int32)) 7 ((F 7) + (1 : Int32))) 8 ((0 : Int32) + (1 : Int32))) 8 (0 : Int32)), G, A, B) 0 0 Q) (h28 : v3 < v2 → ¬ (F 8) < 0 → ¬ (F 8) < (F 3) → ¬ ((A 4) (0 : Int32)) < 0 → ¬ ((A 4) (0 : Int32)) < (8 : Int32) → ((0 : Int32) + (1 : Int32)) < (F 3) → Wk l Z (MoC Z cdC) md_run 39 [.val (.ref 0), .unset, .val (.int v2), .val (.int (v3 + (1 : Int32))), .unset] [] (7, (ups (ups (ups F 8 (0 : Int32)) 7 ((F 7) + (1 : Int32))) 8 ((0 : Int32) + (1 : Int32))), G, A, B) 0 0 Q) (h29 : v3 < v2 → ¬ (F 8) < 0 → ¬ (F 8) < (F 3) → ¬ ((A 4) (0 : Int32)) < 0 → ¬ ((A 4) (0 : Int32)) < (8 : Int32) → ¬ ((0 : Int32) + (1 : Int32)) < (F 3) → Wk l Z (MoC Z cdC) md_run 39 [.val (.ref 0), .unset, .val (.int v2), .val (.int (v3 + (1 : Int32))), .unset] [] (7, (ups (ups (ups (ups F 8 (0 : Int32)) 7 ((F 7) + (1 : Int32))) 8 ((0 : Int32) + (1 : Int32))) 8 (0 : Int32)), G, A, B) 0 0 Q) (h31 : v3 < v2 → ¬ (F 8) < 0 → ¬ (F 8) < (F 3) → ¬ ((A 4) (0 : Int32)) < 0 → ((A 4) (0 : Int32)) < (8 : Int32) → ((0 : Int32) + (1 : Int32)) < (F 3) → Wk l Z (MoC Z cdC) md_run 39 [.val (.ref 0), .unset, .val (.int v2), .val (.int (v3 + (1 : Int32))), .unset] [] (7, (ups (ups (ups F 8 (0 : Int32)) 7 ((F 7) + (1 : Int32))) 8 ((0 : Int32) + (1 : Int32))), G, (ups A 3 (ups (A 3) ((A 4) (0 : Int32)) (((A 3) ((A 4) (0 : Int32))) + (1 : Int32)))), B) 0 0 Q) (h32 : v3 < v2 → ¬ (F 8) < 0 → ¬ (F 8) < (F 3) → ¬ ((A 4) (0 : Int32)) < 0 → ((A 4) (0 : Int32)) < (8 : Int32) → ¬ ((0 : Int32) + (1 : Int32)) < (F 3) → Wk l Z (MoC Z cdC) md_run 39 [.val (.ref 0), .unset, .val (.int v2), .val (.int (v3 + (1 : Int32))), .unset] [] (7, (ups (ups (ups (ups F 8 (0 : Int32)) 7 ((F 7) + (1 : Int32))) 8 ((0 : Int32) + (1 : Int32))) 8 (0 : Int32)), G, (ups A 3 (ups (A 3) ((A 4) (0 : Int32)) (((A 3) ((A 4) (0 : Int32))) + (1 : Int32)))), B) 0 0 Q) (h37 : v3 < v2 → ¬ (F 8) < 0 → (F 8) < (F 3) → (F 8) < (128 : Int32) → ((A 4) (F 8)) < 0 → ((F 8) + (1 : Int32)) < (F 3) → Wk l Z (MoC Z cdC) md_run 39 [.val (.ref 0), .unset, .val (.int v2), .val (.int (v3 + (1 : Int32))), .unset] [] (7, (ups (ups F 7 ((F 7) + (1 : Int32))) 8 ((F 8) + (1 : Int32))), G, A, B) 0 0 Q) (h38 : v3 < v2 → ¬ (F 8) < 0 → (F 8) < (F 3) → (F 8) < (128 : Int32) → ((A 4) (F 8)) < 0 → ¬ ((F 8) + (1 : Int32)) < (F 3) → Wk l Z (MoC Z cdC) md_run 39 [.val (.ref 0), .unset, .val (.int v2), .val (.int (v3 + (1 : Int32))), .unset] [] (7, (ups (ups (ups F 7 ((F 7) + (1 : Int32))) 8 ((F 8) + (1 : Int32))) 8 (0 : Int32)), G, A, B) 0 0 Q) (h41 : v3 < v2 → ¬ (F 8) < 0 → (F 8) < (F 3) → (F 8) < (128 : Int32) → ¬ ((A 4) (F 8)) < 0 → ¬ ((A 4) (F 8)) < (8 : Int32) → ((F 8) + (1 : Int32)) < (F 3) → Wk l Z (MoC Z cdC) md_run 39 [.val (.ref 0), .unset, .val (.int v2), .val (.int (v3 + (1 : Int32))), .unset] [] (7, (ups (ups F 7 ((F 7) + (1 : Int32))) 8 ((F 8) + (1 : Int32))), G, A, B) 0 0 Q) (h42 : v3 < v2 → ¬ (F 8) < 0 → (F 8) < (F 3) → (F 8) < (128 : Int32) → ¬ ((A 4) (F 8)) < 0 → ¬ ((A 4) (F 8)) < (8 : Int32) → ¬ ((F 8) + (1 : Int32)) < (F 3) → Wk l Z (MoC Z cdC) md_run 39 [.val (.ref 0), .unset, .val (.int v2), .val (.int (v3 + (1 : Int32))), .unset] [] (7, (ups (ups (ups F 7 ((F 7) + (1 : Int32))) 8 ((F 8) + (1 : Int32))) 8 (0 : Int32)), G, A, B) 0 0 Q) (h44 : v3 < v2 → ¬ (F 8) < 0 → (F 8) < (F 3) → (F 8) < (128 : Int32) → ¬ ((A 4) (F 8)) < 0 → ((A 4) (F 8)) < (8 : Int32) → ((F 8) + (1 : Int32)) < (F 3) → Wk l Z (MoC Z cdC) md_run 39 [.val (.ref 0), .unset, .val (.int v2), .val (.int (v3 + (1 : Int32))), .unset] [] (7, (ups (ups F 7 ((F 7) + (1 : Int32))) 8 ((F 8) + (1 : Int32))), G, (ups A 3 (ups (A 3) ((A 4) (F 8)) (((A 3) ((A 4) (F 8))) + (1 : Int32)))), B) 0 0 Q) (h45 : v3 < v2 → ¬ (F 8) < 0 → (F 8) < (F 3) → (F 8) < (128 : Int32) → ¬ ((A 4) (F 8)) < 0 → ((A 4) (F 8)) < (8 : Int32) → ¬ ((F 8) + (1 : Int32)) < (F 3) → Wk l Z (MoC Z cdC) md_run 39 [.val (.ref 0), .unset, .val (.int v2), .val (.int (v3 + (1 : Int32))), .unset] [] (7, (ups (ups (ups F 7 ((F 7) + (1 : Int32))) 8 ((F 8) + (1 : Int32))) 8 (0 : Int32)), G, (ups A 3 (ups (A 3) ((A 4) (F 8)) (((A 3) ((A 4) (F 8))) + (1 : Int32)))), B) 0 0 Q) (h49 : v3 < v2 → ¬ (F 8) < 0 → (F 8) < (F 3) → ¬ (F 8) < (128 : Int32) → ((A 4) (0 : Int32)) < 0 → ((0 : Int32) + (1 : Int32)) < (F 3) → Wk l Z (MoC Z cdC) md_run 39 [.val (.ref 0), .unset, .val (.int v2), .val (.int (v3 + (1 : Int32))), .unset] [] (7, (ups (ups (ups F 8 (0 : Int32)) 7 ((F 7) + (1 : Int32))) 8 ((0 : Int32) + (1 : Int32))), G, A, B) 0 0 Q) (h50 : v3 < v2 → ¬ (F 8) < 0 → (F 8) < (F 3) → ¬ (F 8) < (128 : Int32) → ((A 4) (0 : Int32)) < 0 → ¬ ((0 : Int32) + (1 : Int32)) < (F 3) → Wk l Z (MoC Z cdC) md_run 39 [.val (.ref 0), .unset, .val (.int v2), .val (.int (v3 + (1 : Int32))), .unset] [] (7, (ups (ups (ups (ups F 8 (0 : Int32)) 7 ((F 7) + (1 : Int32))) 8 ((0 : Int32) + (1 : Int32))) 8 (0 : Int32)), G, A, B) 0 0 Q) (h53 : v3 < v2 → ¬ (F 8) < 0 → (F 8) < (F 3) → ¬ (F 8) < (128 : Int32) → ¬ ((A 4) (0 : Int32)) < 0 → ¬ ((A 4) (0 : Int32)) < (8 : Int32) → ((0 : Int32) + (1 : Int32)) < (F 3) → Wk l Z (MoC Z cdC) md_run 39 [.val (.ref 0), .unset, .val (.int v2), .val (.int (v3 + (1 : Int32))), .unset] [] (7, (ups (ups (ups F 8 (0 : Int32)) 7 ((F 7) + (1 : Int32))) 8 ((0 : Int32) + (1 : Int32))), G, A, B) 0 0 Q) (h54 : v3 < v2 → ¬ (F 8) < 0 → (F 8) < (F 3) → ¬ (F 8) < (128 : Int32) → ¬ ((A 4) (0 : Int32)) < 0 → ¬ ((A 4) (0 : Int32)) < (8 : Int32) → ¬ ((0 : Int32) + (1 : Int32)) < (F 3) → Wk l Z (MoC Z cdC) md_run 39 [.val (.ref 0), .unset, .val (.int v2), .val (.int (v3 + (1 : Int32))), .unset] [] (7, (ups (ups (ups (ups F 8 (0 : Int32)) 7 ((F 7) + (1 : Int32))) 8 ((0 : Int32) + (1 : Int32))) 8 (0 : Int32)), G, A, B) 0 0 Q) (h56 : v3 < v2 → ¬ (F 8) < 0 → (F 8) < (F 3) → ¬ (F 8) < (128 : Int32) → ¬ ((A 4) (0 : Int32)) < 0 → ((A 4) (0 : Int32)) < (8 : Int32) → ((0 : Int32) + (1 : Int32)) < (F 3) → Wk l Z (MoC Z cdC) md_run 39 [.val (.ref 0), .unset, .val (.int v2), .val (.int (v3 + (1 : Int32))), .unset] [] (7, (ups (ups (ups F 8 (0 : Int32)) 7 ((F 7) + (1 : Int32))) 8 ((0 : Int32) + (1 : Int32))), G, (ups A 3 (ups (A 3) ((A 4) (0 : Int32)) (((A 3) ((A 4) (0 : Int32))) + (1 : Int32)))), B) 0 0 Q) (h57 : v3 < v2 → ¬ (F 8) < 0 → (F 8) < (F 3) → ¬ (F 8) < (128 : Int32) → ¬ ((A 4) (0 : Int32)) < 0 → ((A 4) (0 : Int32)) < (8 : Int32) → ¬ ((0 : Int32) + (1 : Int32)) < (F 3) → Wk l Z (MoC Z cdC) md_run 39 [.val (.ref 0), .unset, .val (.int v2), .val (.int (v3 + (1 : Int32))), .unset] [] (7, (ups (ups (ups (ups F 8 (0 : Int32)) 7 ((F 7) + (1 : Int32))) 8 ((0 : Int32) + (1 : Int32))) 8 (0 : Int32)), G, (ups A 3 (ups (A 3) ((A 4) (0 : Int32)) (((A 3) ((A 4) (0 : Int32))) + (1 : Int32)))), B) 0 0 Q) :
    Wk l Z (MoC Z cdC) md_run 39 [.val (.ref 0), .unset, .val (.int v2), .val (.int v3), .unset] [] (7, F, G, A, B) 0 0 Q := by
  refine Wk.iloadN o_run_39 rfl ?_
  refine Wk.iloadN o_run_40 rfl ?_
  refine Wk.icmp_ge o_run_41 (fun q1 => ?_) (fun q1 => ?_)
  · refine Wk.iloadN o_run_153 rfl ?_
    exact Wk.ireturn mrC rfl o_run_154 rfl (by decide) (by decide) (h2 q1)
  · refine Wk.aloadN o_run_44 rfl ?_
    refine Wk.getI (mI_pos) (wf_pos H) o_run_45 (x := (F 8)) rfl ?_
    refine Wk.if_lt o_run_48 (fun q3 => ?_) (fun q3 => ?_)
    · refine Wk.aloadN o_run_72 rfl ?_
      refine Wk.iconst o_run_73 (z := (0 : Int32)) (by decide) ?_
      refine Wk.putI (coC H) (mI_pos) (wf_pos H) (Or.inl (wy_pos H)) o_run_74 ?_
      refine Wk.aloadN o_run_77 rfl ?_
      refine Wk.getA (mA_tickTask) (by decide) (i' := 5) rfl (wf_tickTask H) o_run_78 ?_
      refine Wk.aloadN o_run_81 rfl ?_
      refine Wk.getI (mI_pos) (wf_pos H) o_run_82 (x := (0 : Int32)) rfl ?_
      refine Wk.iaload (mA_tickTask) (by decide) (i' := 5) rfl (by decide) (by decide) o_run_85 (y := ((A 4) (0 : Int32))) rfl ?_
      refine Wk.istore o_run_86 (Or.inl rfl) (L' := [.val (.ref 0), .unset, .val (.int v2), .val (.int v3), .val (.int ((A 4) (0 : Int32)))]) rfl ?_
      refine Wk.iload o_run_88 rfl ?_
      refine Wk.if_lt o_run_90 (fun q7 => ?_) (fun q7 => ?_)
      · refine Wk.aloadN o_run_111 rfl ?_
        refine Wk.dup o_run_112 rfl ?_
        refine Wk.getI (mI_now) (wf_now H) o_run_113 (x := (F 7)) rfl ?_
        refine Wk.iconst o_run_116 (z := (1 : Int32)) (by decide) ?_
        refine Wk.iadd o_run_117 ?_
        refine Wk.putI (coC H) (mI_now) (wf_now H) (Or.inl (wy_now H)) o_run_118 ?_
        refine Wk.aloadN o_run_121 rfl ?_
        refine Wk.dup o_run_122 rfl ?_
        refine Wk.getI (mI_pos) (wf_pos H) o_run_123 (x := (0 : Int32)) rfl ?_
        refine Wk.iconst o_run_126 (z := (1 : Int32)) (by decide) ?_
        refine Wk.iadd o_run_127 ?_
        refine Wk.putI (coC H) (mI_pos) (wf_pos H) (Or.inl (wy_pos H)) o_run_128 ?_
        refine Wk.aloadN o_run_131 rfl ?_
        refine Wk.getI (mI_pos) (wf_pos H) o_run_132 (x := ((0 : Int32) + (1 : Int32))) rfl ?_
        refine Wk.aloadN o_run_135 rfl ?_
        refine Wk.getI (mI_hyper) (wf_hyper H) o_run_136 (x := (F 3)) rfl ?_
        refine Wk.icmp_lt o_run_139 (fun q9 => ?_) (fun q9 => ?_)
        · refine Wk.iinc o_run_147 rfl (z := (v3 + (1 : Int32))) rfl (L' := [.val (.ref 0), .unset, .val (.int v2), .val (.int (v3 + (1 : Int32))), .val (.int ((A 4) (0 : Int32)))]) rfl ?_
          refine Wk.goto o_run_150 ?_
          refine Wk.forget [false, false, false, false, true] (L' := [.val (.ref 0), .unset, .val (.int v2), .val (.int (v3 + (1 : Int32))), .unset]) rfl rfl ?_
          exact (h10 q1 q3 q7 q9)
        · refine Wk.aloadN o_run_142 rfl ?_
          refine Wk.iconst o_run_143 (z := (0 : Int32)) (by decide) ?_
          refine Wk.putI (coC H) (mI_pos) (wf_pos H) (Or.inl (wy_pos H)) o_run_144 ?_
          refine Wk.iinc o_run_147 rfl (z := (v3 + (1 : Int32))) rfl (L' := [.val (.ref 0), .unset, .val (.int v2), .val (.int (v3 + (1 : Int32))), .val (.int ((A 4) (0 : Int32)))]) rfl ?_
          refine Wk.goto o_run_150 ?_
          refine Wk.forget [false, false, false, false, true] (L' := [.val (.ref 0), .unset, .val (.int v2), .val (.int (v3 + (1 : Int32))), .unset]) rfl rfl ?_
          exact (h11 q1 q3 q7 q9)
      · refine Wk.iload o_run_93 rfl ?_
        refine Wk.bipush o_run_95 (z := (8 : Int32)) (by decide) ?_
        refine Wk.icmp_ge o_run_97 (fun q12 => ?_) (fun q12 => ?_)
        · refine Wk.aloadN o_run_111 rfl ?_
          refine Wk.dup o_run_112 rfl ?_
          refine Wk.getI (mI_now) (wf_now H) o_run_113 (x := (F 7)) rfl ?_
          refine Wk.iconst o_run_116 (z := (1 : Int32)) (by decide) ?_
          refine Wk.iadd o_run_117 ?_
          refine Wk.putI (coC H) (mI_now) (wf_now H) (Or.inl (wy_now H)) o_run_118 ?_
          refine Wk.aloadN o_run_121 rfl ?_
          refine Wk.dup o_run_122 rfl ?_
          refine Wk.getI (mI_pos) (wf_pos H) o_run_123 (x := (0 : Int32)) rfl ?_
          refine Wk.iconst o_run_126 (z := (1 : Int32)) (by decide) ?_
          refine Wk.iadd o_run_127 ?_
          refine Wk.putI (coC H) (mI_pos) (wf_pos H) (Or.inl (wy_pos H)) o_run_128 ?_
          refine Wk.aloadN o_run_131 rfl ?_
          refine Wk.getI (mI_pos) (wf_pos H) o_run_132 (x := ((0 : Int32) + (1 : Int32))) rfl ?_
          refine Wk.aloadN o_run_135 rfl ?_
          refine Wk.getI (mI_hyper) (wf_hyper H) o_run_136 (x := (F 3)) rfl ?_
          refine Wk.icmp_lt o_run_139 (fun q13 => ?_) (fun q13 => ?_)
          · refine Wk.iinc o_run_147 rfl (z := (v3 + (1 : Int32))) rfl (L' := [.val (.ref 0), .unset, .val (.int v2), .val (.int (v3 + (1 : Int32))), .val (.int ((A 4) (0 : Int32)))]) rfl ?_
            refine Wk.goto o_run_150 ?_
            refine Wk.forget [false, false, false, false, true] (L' := [.val (.ref 0), .unset, .val (.int v2), .val (.int (v3 + (1 : Int32))), .unset]) rfl rfl ?_
            exact (h14 q1 q3 q7 q12 q13)
          · refine Wk.aloadN o_run_142 rfl ?_
            refine Wk.iconst o_run_143 (z := (0 : Int32)) (by decide) ?_
            refine Wk.putI (coC H) (mI_pos) (wf_pos H) (Or.inl (wy_pos H)) o_run_144 ?_
            refine Wk.iinc o_run_147 rfl (z := (v3 + (1 : Int32))) rfl (L' := [.val (.ref 0), .unset, .val (.int v2), .val (.int (v3 + (1 : Int32))), .val (.int ((A 4) (0 : Int32)))]) rfl ?_
            refine Wk.goto o_run_150 ?_
            refine Wk.forget [false, false, false, false, true] (L' := [.val (.ref 0), .unset, .val (.int v2), .val (.int (v3 + (1 : Int32))), .unset]) rfl rfl ?_
            exact (h15 q1 q3 q7 q12 q13)
        · refine Wk.aloadN o_run_100 rfl ?_
          refine Wk.getA (mA_runCnt) (by decide) (i' := 4) rfl (wf_runCnt H) o_run_101 ?_
          refine Wk.iload o_run_104 rfl ?_
          refine Wk.dup2 o_run_106 rfl rfl ?_
          refine Wk.iaload (mA_runCnt) (by decide) (i' := 4) rfl q7 q12 o_run_107 (y := ((A 3) ((A 4) (0 : Int32)))) rfl ?_
          refine Wk.iconst o_run_108 (z := (1 : Int32)) (by decide) ?_
          refine Wk.iadd o_run_109 ?_
          refine Wk.iastore (coC H) (f := (A 3)) (mA_runCnt) rfl (by decide) (i' := 4) rfl q7 q12 o_run_110 ?_
          refine Wk.aloadN o_run_111 rfl ?_
          refine Wk.dup o_run_112 rfl ?_
          refine Wk.getI (mI_now) (wf_now H) o_run_113 (x := (F 7)) rfl ?_
          refine Wk.iconst o_run_116 (z := (1 : Int32)) (by decide) ?_
          refine Wk.iadd o_run_117 ?_
          refine Wk.putI (coC H) (mI_now) (wf_now H) (Or.inl (wy_now H)) o_run_118 ?_
          refine Wk.aloadN o_run_121 rfl ?_
          refine Wk.dup o_run_122 rfl ?_
          refine Wk.getI (mI_pos) (wf_pos H) o_run_123 (x := (0 : Int32)) rfl ?_
          refine Wk.iconst o_run_126 (z := (1 : Int32)) (by decide) ?_
          refine Wk.iadd o_run_127 ?_
          refine Wk.putI (coC H) (mI_pos) (wf_pos H) (Or.inl (wy_pos H)) o_run_128 ?_
          refine Wk.aloadN o_run_131 rfl ?_
          refine Wk.getI (mI_pos) (wf_pos H) o_run_132 (x := ((0 : Int32) + (1 : Int32))) rfl ?_
          refine Wk.aloadN o_run_135 rfl ?_
          refine Wk.getI (mI_hyper) (wf_hyper H) o_run_136 (x := (F 3)) rfl ?_
          refine Wk.icmp_lt o_run_139 (fun q16 => ?_) (fun q16 => ?_)
          · refine Wk.iinc o_run_147 rfl (z := (v3 + (1 : Int32))) rfl (L' := [.val (.ref 0), .unset, .val (.int v2), .val (.int (v3 + (1 : Int32))), .val (.int ((A 4) (0 : Int32)))]) rfl ?_
            refine Wk.goto o_run_150 ?_
            refine Wk.forget [false, false, false, false, true] (L' := [.val (.ref 0), .unset, .val (.int v2), .val (.int (v3 + (1 : Int32))), .unset]) rfl rfl ?_
            exact (h17 q1 q3 q7 q12 q16)
          · refine Wk.aloadN o_run_142 rfl ?_
            refine Wk.iconst o_run_143 (z := (0 : Int32)) (by decide) ?_
            refine Wk.putI (coC H) (mI_pos) (wf_pos H) (Or.inl (wy_pos H)) o_run_144 ?_
            refine Wk.iinc o_run_147 rfl (z := (v3 + (1 : Int32))) rfl (L' := [.val (.ref 0), .unset, .val (.int v2), .val (.int (v3 + (1 : Int32))), .val (.int ((A 4) (0 : Int32)))]) rfl ?_
            refine Wk.goto o_run_150 ?_
            refine Wk.forget [false, false, false, false, true] (L' := [.val (.ref 0), .unset, .val (.int v2), .val (.int (v3 + (1 : Int32))), .unset]) rfl rfl ?_
            exact (h18 q1 q3 q7 q12 q16)
    · refine Wk.aloadN o_run_51 rfl ?_
      refine Wk.getI (mI_pos) (wf_pos H) o_run_52 (x := (F 8)) rfl ?_
      refine Wk.aloadN o_run_55 rfl ?_
      refine Wk.getI (mI_hyper) (wf_hyper H) o_run_56 (x := (F 3)) rfl ?_
      refine Wk.icmp_ge o_run_59 (fun q19 => ?_) (fun q19 => ?_)
      · refine Wk.aloadN o_run_72 rfl ?_
        refine Wk.iconst o_run_73 (z := (0 : Int32)) (by decide) ?_
        refine Wk.putI (coC H) (mI_pos) (wf_pos H) (Or.inl (wy_pos H)) o_run_74 ?_
        refine Wk.aloadN o_run_77 rfl ?_
        refine Wk.getA (mA_tickTask) (by decide) (i' := 5) rfl (wf_tickTask H) o_run_78 ?_
        refine Wk.aloadN o_run_81 rfl ?_
        refine Wk.getI (mI_pos) (wf_pos H) o_run_82 (x := (0 : Int32)) rfl ?_
        refine Wk.iaload (mA_tickTask) (by decide) (i' := 5) rfl (by decide) (by decide) o_run_85 (y := ((A 4) (0 : Int32))) rfl ?_
        refine Wk.istore o_run_86 (Or.inl rfl) (L' := [.val (.ref 0), .unset, .val (.int v2), .val (.int v3), .val (.int ((A 4) (0 : Int32)))]) rfl ?_
        refine Wk.iload o_run_88 rfl ?_
        refine Wk.if_lt o_run_90 (fun q21 => ?_) (fun q21 => ?_)
        · refine Wk.aloadN o_run_111 rfl ?_
          refine Wk.dup o_run_112 rfl ?_
          refine Wk.getI (mI_now) (wf_now H) o_run_113 (x := (F 7)) rfl ?_
          refine Wk.iconst o_run_116 (z := (1 : Int32)) (by decide) ?_
          refine Wk.iadd o_run_117 ?_
          refine Wk.putI (coC H) (mI_now) (wf_now H) (Or.inl (wy_now H)) o_run_118 ?_
          refine Wk.aloadN o_run_121 rfl ?_
          refine Wk.dup o_run_122 rfl ?_
          refine Wk.getI (mI_pos) (wf_pos H) o_run_123 (x := (0 : Int32)) rfl ?_
          refine Wk.iconst o_run_126 (z := (1 : Int32)) (by decide) ?_
          refine Wk.iadd o_run_127 ?_
          refine Wk.putI (coC H) (mI_pos) (wf_pos H) (Or.inl (wy_pos H)) o_run_128 ?_
          refine Wk.aloadN o_run_131 rfl ?_
          refine Wk.getI (mI_pos) (wf_pos H) o_run_132 (x := ((0 : Int32) + (1 : Int32))) rfl ?_
          refine Wk.aloadN o_run_135 rfl ?_
          refine Wk.getI (mI_hyper) (wf_hyper H) o_run_136 (x := (F 3)) rfl ?_
          refine Wk.icmp_lt o_run_139 (fun q23 => ?_) (fun q23 => ?_)
          · refine Wk.iinc o_run_147 rfl (z := (v3 + (1 : Int32))) rfl (L' := [.val (.ref 0), .unset, .val (.int v2), .val (.int (v3 + (1 : Int32))), .val (.int ((A 4) (0 : Int32)))]) rfl ?_
            refine Wk.goto o_run_150 ?_
            refine Wk.forget [false, false, false, false, true] (L' := [.val (.ref 0), .unset, .val (.int v2), .val (.int (v3 + (1 : Int32))), .unset]) rfl rfl ?_
            exact (h24 q1 q3 q19 q21 q23)
          · refine Wk.aloadN o_run_142 rfl ?_
            refine Wk.iconst o_run_143 (z := (0 : Int32)) (by decide) ?_
            refine Wk.putI (coC H) (mI_pos) (wf_pos H) (Or.inl (wy_pos H)) o_run_144 ?_
            refine Wk.iinc o_run_147 rfl (z := (v3 + (1 : Int32))) rfl (L' := [.val (.ref 0), .unset, .val (.int v2), .val (.int (v3 + (1 : Int32))), .val (.int ((A 4) (0 : Int32)))]) rfl ?_
            refine Wk.goto o_run_150 ?_
            refine Wk.forget [false, false, false, false, true] (L' := [.val (.ref 0), .unset, .val (.int v2), .val (.int (v3 + (1 : Int32))), .unset]) rfl rfl ?_
            exact (h25 q1 q3 q19 q21 q23)
        · refine Wk.iload o_run_93 rfl ?_
          refine Wk.bipush o_run_95 (z := (8 : Int32)) (by decide) ?_
          refine Wk.icmp_ge o_run_97 (fun q26 => ?_) (fun q26 => ?_)
          · refine Wk.aloadN o_run_111 rfl ?_
            refine Wk.dup o_run_112 rfl ?_
            refine Wk.getI (mI_now) (wf_now H) o_run_113 (x := (F 7)) rfl ?_
            refine Wk.iconst o_run_116 (z := (1 : Int32)) (by decide) ?_
            refine Wk.iadd o_run_117 ?_
            refine Wk.putI (coC H) (mI_now) (wf_now H) (Or.inl (wy_now H)) o_run_118 ?_
            refine Wk.aloadN o_run_121 rfl ?_
            refine Wk.dup o_run_122 rfl ?_
            refine Wk.getI (mI_pos) (wf_pos H) o_run_123 (x := (0 : Int32)) rfl ?_
            refine Wk.iconst o_run_126 (z := (1 : Int32)) (by decide) ?_
            refine Wk.iadd o_run_127 ?_
            refine Wk.putI (coC H) (mI_pos) (wf_pos H) (Or.inl (wy_pos H)) o_run_128 ?_
            refine Wk.aloadN o_run_131 rfl ?_
            refine Wk.getI (mI_pos) (wf_pos H) o_run_132 (x := ((0 : Int32) + (1 : Int32))) rfl ?_
            refine Wk.aloadN o_run_135 rfl ?_
            refine Wk.getI (mI_hyper) (wf_hyper H) o_run_136 (x := (F 3)) rfl ?_
            refine Wk.icmp_lt o_run_139 (fun q27 => ?_) (fun q27 => ?_)
            · refine Wk.iinc o_run_147 rfl (z := (v3 + (1 : Int32))) rfl (L' := [.val (.ref 0), .unset, .val (.int v2), .val (.int (v3 + (1 : Int32))), .val (.int ((A 4) (0 : Int32)))]) rfl ?_
              refine Wk.goto o_run_150 ?_
              refine Wk.forget [false, false, false, false, true] (L' := [.val (.ref 0), .unset, .val (.int v2), .val (.int (v3 + (1 : Int32))), .unset]) rfl rfl ?_
              exact (h28 q1 q3 q19 q21 q26 q27)
            · refine Wk.aloadN o_run_142 rfl ?_
              refine Wk.iconst o_run_143 (z := (0 : Int32)) (by decide) ?_
              refine Wk.putI (coC H) (mI_pos) (wf_pos H) (Or.inl (wy_pos H)) o_run_144 ?_
              refine Wk.iinc o_run_147 rfl (z := (v3 + (1 : Int32))) rfl (L' := [.val (.ref 0), .unset, .val (.int v2), .val (.int (v3 + (1 : Int32))), .val (.int ((A 4) (0 : Int32)))]) rfl ?_
              refine Wk.goto o_run_150 ?_
              refine Wk.forget [false, false, false, false, true] (L' := [.val (.ref 0), .unset, .val (.int v2), .val (.int (v3 + (1 : Int32))), .unset]) rfl rfl ?_
              exact (h29 q1 q3 q19 q21 q26 q27)
          · refine Wk.aloadN o_run_100 rfl ?_
            refine Wk.getA (mA_runCnt) (by decide) (i' := 4) rfl (wf_runCnt H) o_run_101 ?_
            refine Wk.iload o_run_104 rfl ?_
            refine Wk.dup2 o_run_106 rfl rfl ?_
            refine Wk.iaload (mA_runCnt) (by decide) (i' := 4) rfl q21 q26 o_run_107 (y := ((A 3) ((A 4) (0 : Int32)))) rfl ?_
            refine Wk.iconst o_run_108 (z := (1 : Int32)) (by decide) ?_
            refine Wk.iadd o_run_109 ?_
            refine Wk.iastore (coC H) (f := (A 3)) (mA_runCnt) rfl (by decide) (i' := 4) rfl q21 q26 o_run_110 ?_
            refine Wk.aloadN o_run_111 rfl ?_
            refine Wk.dup o_run_112 rfl ?_
            refine Wk.getI (mI_now) (wf_now H) o_run_113 (x := (F 7)) rfl ?_
            refine Wk.iconst o_run_116 (z := (1 : Int32)) (by decide) ?_
            refine Wk.iadd o_run_117 ?_
            refine Wk.putI (coC H) (mI_now) (wf_now H) (Or.inl (wy_now H)) o_run_118 ?_
            refine Wk.aloadN o_run_121 rfl ?_
            refine Wk.dup o_run_122 rfl ?_
            refine Wk.getI (mI_pos) (wf_pos H) o_run_123 (x := (0 : Int32)) rfl ?_
            refine Wk.iconst o_run_126 (z := (1 : Int32)) (by decide) ?_
            refine Wk.iadd o_run_127 ?_
            refine Wk.putI (coC H) (mI_pos) (wf_pos H) (Or.inl (wy_pos H)) o_run_128 ?_
            refine Wk.aloadN o_run_131 rfl ?_
            refine Wk.getI (mI_pos) (wf_pos H) o_run_132 (x := ((0 : Int32) + (1 : Int32))) rfl ?_
            refine Wk.aloadN o_run_135 rfl ?_
            refine Wk.getI (mI_hyper) (wf_hyper H) o_run_136 (x := (F 3)) rfl ?_
            refine Wk.icmp_lt o_run_139 (fun q30 => ?_) (fun q30 => ?_)
            · refine Wk.iinc o_run_147 rfl (z := (v3 + (1 : Int32))) rfl (L' := [.val (.ref 0), .unset, .val (.int v2), .val (.int (v3 + (1 : Int32))), .val (.int ((A 4) (0 : Int32)))]) rfl ?_
              refine Wk.goto o_run_150 ?_
              refine Wk.forget [false, false, false, false, true] (L' := [.val (.ref 0), .unset, .val (.int v2), .val (.int (v3 + (1 : Int32))), .unset]) rfl rfl ?_
              exact (h31 q1 q3 q19 q21 q26 q30)
            · refine Wk.aloadN o_run_142 rfl ?_
              refine Wk.iconst o_run_143 (z := (0 : Int32)) (by decide) ?_
              refine Wk.putI (coC H) (mI_pos) (wf_pos H) (Or.inl (wy_pos H)) o_run_144 ?_
              refine Wk.iinc o_run_147 rfl (z := (v3 + (1 : Int32))) rfl (L' := [.val (.ref 0), .unset, .val (.int v2), .val (.int (v3 + (1 : Int32))), .val (.int ((A 4) (0 : Int32)))]) rfl ?_
              refine Wk.goto o_run_150 ?_
              refine Wk.forget [false, false, false, false, true] (L' := [.val (.ref 0), .unset, .val (.int v2), .val (.int (v3 + (1 : Int32))), .unset]) rfl rfl ?_
              exact (h32 q1 q3 q19 q21 q26 q30)
      · refine Wk.aloadN o_run_62 rfl ?_
        refine Wk.getI (mI_pos) (wf_pos H) o_run_63 (x := (F 8)) rfl ?_
        refine Wk.sipush o_run_66 (z := (128 : Int32)) (by decide) ?_
        refine Wk.icmp_lt o_run_69 (fun q33 => ?_) (fun q33 => ?_)
        · refine Wk.aloadN o_run_77 rfl ?_
          refine Wk.getA (mA_tickTask) (by decide) (i' := 5) rfl (wf_tickTask H) o_run_78 ?_
          refine Wk.aloadN o_run_81 rfl ?_
          refine Wk.getI (mI_pos) (wf_pos H) o_run_82 (x := (F 8)) rfl ?_
          refine Wk.iaload (mA_tickTask) (by decide) (i' := 5) rfl q3 q33 o_run_85 (y := ((A 4) (F 8))) rfl ?_
          refine Wk.istore o_run_86 (Or.inl rfl) (L' := [.val (.ref 0), .unset, .val (.int v2), .val (.int v3), .val (.int ((A 4) (F 8)))]) rfl ?_
          refine Wk.iload o_run_88 rfl ?_
          refine Wk.if_lt o_run_90 (fun q34 => ?_) (fun q34 => ?_)
          · refine Wk.aloadN o_run_111 rfl ?_
            refine Wk.dup o_run_112 rfl ?_
            refine Wk.getI (mI_now) (wf_now H) o_run_113 (x := (F 7)) rfl ?_
            refine Wk.iconst o_run_116 (z := (1 : Int32)) (by decide) ?_
            refine Wk.iadd o_run_117 ?_
            refine Wk.putI (coC H) (mI_now) (wf_now H) (Or.inl (wy_now H)) o_run_118 ?_
            refine Wk.aloadN o_run_121 rfl ?_
            refine Wk.dup o_run_122 rfl ?_
            refine Wk.getI (mI_pos) (wf_pos H) o_run_123 (x := (F 8)) rfl ?_
            refine Wk.iconst o_run_126 (z := (1 : Int32)) (by decide) ?_
            refine Wk.iadd o_run_127 ?_
            refine Wk.putI (coC H) (mI_pos) (wf_pos H) (Or.inl (wy_pos H)) o_run_128 ?_
            refine Wk.aloadN o_run_131 rfl ?_
            refine Wk.getI (mI_pos) (wf_pos H) o_run_132 (x := ((F 8) + (1 : Int32))) rfl ?_
            refine Wk.aloadN o_run_135 rfl ?_
            refine Wk.getI (mI_hyper) (wf_hyper H) o_run_136 (x := (F 3)) rfl ?_
            refine Wk.icmp_lt o_run_139 (fun q36 => ?_) (fun q36 => ?_)
            · refine Wk.iinc o_run_147 rfl (z := (v3 + (1 : Int32))) rfl (L' := [.val (.ref 0), .unset, .val (.int v2), .val (.int (v3 + (1 : Int32))), .val (.int ((A 4) (F 8)))]) rfl ?_
              refine Wk.goto o_run_150 ?_
              refine Wk.forget [false, false, false, false, true] (L' := [.val (.ref 0), .unset, .val (.int v2), .val (.int (v3 + (1 : Int32))), .unset]) rfl rfl ?_
              exact (h37 q1 q3 q19 q33 q34 q36)
            · refine Wk.aloadN o_run_142 rfl ?_
              refine Wk.iconst o_run_143 (z := (0 : Int32)) (by decide) ?_
              refine Wk.putI (coC H) (mI_pos) (wf_pos H) (Or.inl (wy_pos H)) o_run_144 ?_
              refine Wk.iinc o_run_147 rfl (z := (v3 + (1 : Int32))) rfl (L' := [.val (.ref 0), .unset, .val (.int v2), .val (.int (v3 + (1 : Int32))), .val (.int ((A 4) (F 8)))]) rfl ?_
              refine Wk.goto o_run_150 ?_
              refine Wk.forget [false, false, false, false, true] (L' := [.val (.ref 0), .unset, .val (.int v2), .val (.int (v3 + (1 : Int32))), .unset]) rfl rfl ?_
              exact (h38 q1 q3 q19 q33 q34 q36)
          · refine Wk.iload o_run_93 rfl ?_
            refine Wk.bipush o_run_95 (z := (8 : Int32)) (by decide) ?_
            refine Wk.icmp_ge o_run_97 (fun q39 => ?_) (fun q39 => ?_)
            · refine Wk.aloadN o_run_111 rfl ?_
              refine Wk.dup o_run_112 rfl ?_
              refine Wk.getI (mI_now) (wf_now H) o_run_113 (x := (F 7)) rfl ?_
              refine Wk.iconst o_run_116 (z := (1 : Int32)) (by decide) ?_
              refine Wk.iadd o_run_117 ?_
              refine Wk.putI (coC H) (mI_now) (wf_now H) (Or.inl (wy_now H)) o_run_118 ?_
              refine Wk.aloadN o_run_121 rfl ?_
              refine Wk.dup o_run_122 rfl ?_
              refine Wk.getI (mI_pos) (wf_pos H) o_run_123 (x := (F 8)) rfl ?_
              refine Wk.iconst o_run_126 (z := (1 : Int32)) (by decide) ?_
              refine Wk.iadd o_run_127 ?_
              refine Wk.putI (coC H) (mI_pos) (wf_pos H) (Or.inl (wy_pos H)) o_run_128 ?_
              refine Wk.aloadN o_run_131 rfl ?_
              refine Wk.getI (mI_pos) (wf_pos H) o_run_132 (x := ((F 8) + (1 : Int32))) rfl ?_
              refine Wk.aloadN o_run_135 rfl ?_
              refine Wk.getI (mI_hyper) (wf_hyper H) o_run_136 (x := (F 3)) rfl ?_
              refine Wk.icmp_lt o_run_139 (fun q40 => ?_) (fun q40 => ?_)
              · refine Wk.iinc o_run_147 rfl (z := (v3 + (1 : Int32))) rfl (L' := [.val (.ref 0), .unset, .val (.int v2), .val (.int (v3 + (1 : Int32))), .val (.int ((A 4) (F 8)))]) rfl ?_
                refine Wk.goto o_run_150 ?_
                refine Wk.forget [false, false, false, false, true] (L' := [.val (.ref 0), .unset, .val (.int v2), .val (.int (v3 + (1 : Int32))), .unset]) rfl rfl ?_
                exact (h41 q1 q3 q19 q33 q34 q39 q40)
              · refine Wk.aloadN o_run_142 rfl ?_
                refine Wk.iconst o_run_143 (z := (0 : Int32)) (by decide) ?_
                refine Wk.putI (coC H) (mI_pos) (wf_pos H) (Or.inl (wy_pos H)) o_run_144 ?_
                refine Wk.iinc o_run_147 rfl (z := (v3 + (1 : Int32))) rfl (L' := [.val (.ref 0), .unset, .val (.int v2), .val (.int (v3 + (1 : Int32))), .val (.int ((A 4) (F 8)))]) rfl ?_
                refine Wk.goto o_run_150 ?_
                refine Wk.forget [false, false, false, false, true] (L' := [.val (.ref 0), .unset, .val (.int v2), .val (.int (v3 + (1 : Int32))), .unset]) rfl rfl ?_
                exact (h42 q1 q3 q19 q33 q34 q39 q40)
            · refine Wk.aloadN o_run_100 rfl ?_
              refine Wk.getA (mA_runCnt) (by decide) (i' := 4) rfl (wf_runCnt H) o_run_101 ?_
              refine Wk.iload o_run_104 rfl ?_
              refine Wk.dup2 o_run_106 rfl rfl ?_
              refine Wk.iaload (mA_runCnt) (by decide) (i' := 4) rfl q34 q39 o_run_107 (y := ((A 3) ((A 4) (F 8)))) rfl ?_
              refine Wk.iconst o_run_108 (z := (1 : Int32)) (by decide) ?_
              refine Wk.iadd o_run_109 ?_
              refine Wk.iastore (coC H) (f := (A 3)) (mA_runCnt) rfl (by decide) (i' := 4) rfl q34 q39 o_run_110 ?_
              refine Wk.aloadN o_run_111 rfl ?_
              refine Wk.dup o_run_112 rfl ?_
              refine Wk.getI (mI_now) (wf_now H) o_run_113 (x := (F 7)) rfl ?_
              refine Wk.iconst o_run_116 (z := (1 : Int32)) (by decide) ?_
              refine Wk.iadd o_run_117 ?_
              refine Wk.putI (coC H) (mI_now) (wf_now H) (Or.inl (wy_now H)) o_run_118 ?_
              refine Wk.aloadN o_run_121 rfl ?_
              refine Wk.dup o_run_122 rfl ?_
              refine Wk.getI (mI_pos) (wf_pos H) o_run_123 (x := (F 8)) rfl ?_
              refine Wk.iconst o_run_126 (z := (1 : Int32)) (by decide) ?_
              refine Wk.iadd o_run_127 ?_
              refine Wk.putI (coC H) (mI_pos) (wf_pos H) (Or.inl (wy_pos H)) o_run_128 ?_
              refine Wk.aloadN o_run_131 rfl ?_
              refine Wk.getI (mI_pos) (wf_pos H) o_run_132 (x := ((F 8) + (1 : Int32))) rfl ?_
              refine Wk.aloadN o_run_135 rfl ?_
              refine Wk.getI (mI_hyper) (wf_hyper H) o_run_136 (x := (F 3)) rfl ?_
              refine Wk.icmp_lt o_run_139 (fun q43 => ?_) (fun q43 => ?_)
              · refine Wk.iinc o_run_147 rfl (z := (v3 + (1 : Int32))) rfl (L' := [.val (.ref 0), .unset, .val (.int v2), .val (.int (v3 + (1 : Int32))), .val (.int ((A 4) (F 8)))]) rfl ?_
                refine Wk.goto o_run_150 ?_
                refine Wk.forget [false, false, false, false, true] (L' := [.val (.ref 0), .unset, .val (.int v2), .val (.int (v3 + (1 : Int32))), .unset]) rfl rfl ?_
                exact (h44 q1 q3 q19 q33 q34 q39 q43)
              · refine Wk.aloadN o_run_142 rfl ?_
                refine Wk.iconst o_run_143 (z := (0 : Int32)) (by decide) ?_
                refine Wk.putI (coC H) (mI_pos) (wf_pos H) (Or.inl (wy_pos H)) o_run_144 ?_
                refine Wk.iinc o_run_147 rfl (z := (v3 + (1 : Int32))) rfl (L' := [.val (.ref 0), .unset, .val (.int v2), .val (.int (v3 + (1 : Int32))), .val (.int ((A 4) (F 8)))]) rfl ?_
                refine Wk.goto o_run_150 ?_
                refine Wk.forget [false, false, false, false, true] (L' := [.val (.ref 0), .unset, .val (.int v2), .val (.int (v3 + (1 : Int32))), .unset]) rfl rfl ?_
                exact (h45 q1 q3 q19 q33 q34 q39 q43)
        · refine Wk.aloadN o_run_72 rfl ?_
          refine Wk.iconst o_run_73 (z := (0 : Int32)) (by decide) ?_
          refine Wk.putI (coC H) (mI_pos) (wf_pos H) (Or.inl (wy_pos H)) o_run_74 ?_
          refine Wk.aloadN o_run_77 rfl ?_
          refine Wk.getA (mA_tickTask) (by decide) (i' := 5) rfl (wf_tickTask H) o_run_78 ?_
          refine Wk.aloadN o_run_81 rfl ?_
          refine Wk.getI (mI_pos) (wf_pos H) o_run_82 (x := (0 : Int32)) rfl ?_
          refine Wk.iaload (mA_tickTask) (by decide) (i' := 5) rfl (by decide) (by decide) o_run_85 (y := ((A 4) (0 : Int32))) rfl ?_
          refine Wk.istore o_run_86 (Or.inl rfl) (L' := [.val (.ref 0), .unset, .val (.int v2), .val (.int v3), .val (.int ((A 4) (0 : Int32)))]) rfl ?_
          refine Wk.iload o_run_88 rfl ?_
          refine Wk.if_lt o_run_90 (fun q46 => ?_) (fun q46 => ?_)
          · refine Wk.aloadN o_run_111 rfl ?_
            refine Wk.dup o_run_112 rfl ?_
            refine Wk.getI (mI_now) (wf_now H) o_run_113 (x := (F 7)) rfl ?_
            refine Wk.iconst o_run_116 (z := (1 : Int32)) (by decide) ?_
            refine Wk.iadd o_run_117 ?_
            refine Wk.putI (coC H) (mI_now) (wf_now H) (Or.inl (wy_now H)) o_run_118 ?_
            refine Wk.aloadN o_run_121 rfl ?_
            refine Wk.dup o_run_122 rfl ?_
            refine Wk.getI (mI_pos) (wf_pos H) o_run_123 (x := (0 : Int32)) rfl ?_
            refine Wk.iconst o_run_126 (z := (1 : Int32)) (by decide) ?_
            refine Wk.iadd o_run_127 ?_
            refine Wk.putI (coC H) (mI_pos) (wf_pos H) (Or.inl (wy_pos H)) o_run_128 ?_
            refine Wk.aloadN o_run_131 rfl ?_
            refine Wk.getI (mI_pos) (wf_pos H) o_run_132 (x := ((0 : Int32) + (1 : Int32))) rfl ?_
            refine Wk.aloadN o_run_135 rfl ?_
            refine Wk.getI (mI_hyper) (wf_hyper H) o_run_136 (x := (F 3)) rfl ?_
            refine Wk.icmp_lt o_run_139 (fun q48 => ?_) (fun q48 => ?_)
            · refine Wk.iinc o_run_147 rfl (z := (v3 + (1 : Int32))) rfl (L' := [.val (.ref 0), .unset, .val (.int v2), .val (.int (v3 + (1 : Int32))), .val (.int ((A 4) (0 : Int32)))]) rfl ?_
              refine Wk.goto o_run_150 ?_
              refine Wk.forget [false, false, false, false, true] (L' := [.val (.ref 0), .unset, .val (.int v2), .val (.int (v3 + (1 : Int32))), .unset]) rfl rfl ?_
              exact (h49 q1 q3 q19 q33 q46 q48)
            · refine Wk.aloadN o_run_142 rfl ?_
              refine Wk.iconst o_run_143 (z := (0 : Int32)) (by decide) ?_
              refine Wk.putI (coC H) (mI_pos) (wf_pos H) (Or.inl (wy_pos H)) o_run_144 ?_
              refine Wk.iinc o_run_147 rfl (z := (v3 + (1 : Int32))) rfl (L' := [.val (.ref 0), .unset, .val (.int v2), .val (.int (v3 + (1 : Int32))), .val (.int ((A 4) (0 : Int32)))]) rfl ?_
              refine Wk.goto o_run_150 ?_
              refine Wk.forget [false, false, false, false, true] (L' := [.val (.ref 0), .unset, .val (.int v2), .val (.int (v3 + (1 : Int32))), .unset]) rfl rfl ?_
              exact (h50 q1 q3 q19 q33 q46 q48)
          · refine Wk.iload o_run_93 rfl ?_
            refine Wk.bipush o_run_95 (z := (8 : Int32)) (by decide) ?_
            refine Wk.icmp_ge o_run_97 (fun q51 => ?_) (fun q51 => ?_)
            · refine Wk.aloadN o_run_111 rfl ?_
              refine Wk.dup o_run_112 rfl ?_
              refine Wk.getI (mI_now) (wf_now H) o_run_113 (x := (F 7)) rfl ?_
              refine Wk.iconst o_run_116 (z := (1 : Int32)) (by decide) ?_
              refine Wk.iadd o_run_117 ?_
              refine Wk.putI (coC H) (mI_now) (wf_now H) (Or.inl (wy_now H)) o_run_118 ?_
              refine Wk.aloadN o_run_121 rfl ?_
              refine Wk.dup o_run_122 rfl ?_
              refine Wk.getI (mI_pos) (wf_pos H) o_run_123 (x := (0 : Int32)) rfl ?_
              refine Wk.iconst o_run_126 (z := (1 : Int32)) (by decide) ?_
              refine Wk.iadd o_run_127 ?_
              refine Wk.putI (coC H) (mI_pos) (wf_pos H) (Or.inl (wy_pos H)) o_run_128 ?_
              refine Wk.aloadN o_run_131 rfl ?_
              refine Wk.getI (mI_pos) (wf_pos H) o_run_132 (x := ((0 : Int32) + (1 : Int32))) rfl ?_
              refine Wk.aloadN o_run_135 rfl ?_
              refine Wk.getI (mI_hyper) (wf_hyper H) o_run_136 (x := (F 3)) rfl ?_
              refine Wk.icmp_lt o_run_139 (fun q52 => ?_) (fun q52 => ?_)
              · refine Wk.iinc o_run_147 rfl (z := (v3 + (1 : Int32))) rfl (L' := [.val (.ref 0), .unset, .val (.int v2), .val (.int (v3 + (1 : Int32))), .val (.int ((A 4) (0 : Int32)))]) rfl ?_
                refine Wk.goto o_run_150 ?_
                refine Wk.forget [false, false, false, false, true] (L' := [.val (.ref 0), .unset, .val (.int v2), .val (.int (v3 + (1 : Int32))), .unset]) rfl rfl ?_
                exact (h53 q1 q3 q19 q33 q46 q51 q52)
              · refine Wk.aloadN o_run_142 rfl ?_
                refine Wk.iconst o_run_143 (z := (0 : Int32)) (by decide) ?_
                refine Wk.putI (coC H) (mI_pos) (wf_pos H) (Or.inl (wy_pos H)) o_run_144 ?_
                refine Wk.iinc o_run_147 rfl (z := (v3 + (1 : Int32))) rfl (L' := [.val (.ref 0), .unset, .val (.int v2), .val (.int (v3 + (1 : Int32))), .val (.int ((A 4) (0 : Int32)))]) rfl ?_
                refine Wk.goto o_run_150 ?_
                refine Wk.forget [false, false, false, false, true] (L' := [.val (.ref 0), .unset, .val (.int v2), .val (.int (v3 + (1 : Int32))), .unset]) rfl rfl ?_
                exact (h54 q1 q3 q19 q33 q46 q51 q52)
            · refine Wk.aloadN o_run_100 rfl ?_
              refine Wk.getA (mA_runCnt) (by decide) (i' := 4) rfl (wf_runCnt H) o_run_101 ?_
              refine Wk.iload o_run_104 rfl ?_
              refine Wk.dup2 o_run_106 rfl rfl ?_
              refine Wk.iaload (mA_runCnt) (by decide) (i' := 4) rfl q46 q51 o_run_107 (y := ((A 3) ((A 4) (0 : Int32)))) rfl ?_
              refine Wk.iconst o_run_108 (z := (1 : Int32)) (by decide) ?_
              refine Wk.iadd o_run_109 ?_
              refine Wk.iastore (coC H) (f := (A 3)) (mA_runCnt) rfl (by decide) (i' := 4) rfl q46 q51 o_run_110 ?_
              refine Wk.aloadN o_run_111 rfl ?_
              refine Wk.dup o_run_112 rfl ?_
              refine Wk.getI (mI_now) (wf_now H) o_run_113 (x := (F 7)) rfl ?_
              refine Wk.iconst o_run_116 (z := (1 : Int32)) (by decide) ?_
              refine Wk.iadd o_run_117 ?_
              refine Wk.putI (coC H) (mI_now) (wf_now H) (Or.inl (wy_now H)) o_run_118 ?_
              refine Wk.aloadN o_run_121 rfl ?_
              refine Wk.dup o_run_122 rfl ?_
              refine Wk.getI (mI_pos) (wf_pos H) o_run_123 (x := (0 : Int32)) rfl ?_
              refine Wk.iconst o_run_126 (z := (1 : Int32)) (by decide) ?_
              refine Wk.iadd o_run_127 ?_
              refine Wk.putI (coC H) (mI_pos) (wf_pos H) (Or.inl (wy_pos H)) o_run_128 ?_
              refine Wk.aloadN o_run_131 rfl ?_
              refine Wk.getI (mI_pos) (wf_pos H) o_run_132 (x := ((0 : Int32) + (1 : Int32))) rfl ?_
              refine Wk.aloadN o_run_135 rfl ?_
              refine Wk.getI (mI_hyper) (wf_hyper H) o_run_136 (x := (F 3)) rfl ?_
              refine Wk.icmp_lt o_run_139 (fun q55 => ?_) (fun q55 => ?_)
              · refine Wk.iinc o_run_147 rfl (z := (v3 + (1 : Int32))) rfl (L' := [.val (.ref 0), .unset, .val (.int v2), .val (.int (v3 + (1 : Int32))), .val (.int ((A 4) (0 : Int32)))]) rfl ?_
                refine Wk.goto o_run_150 ?_
                refine Wk.forget [false, false, false, false, true] (L' := [.val (.ref 0), .unset, .val (.int v2), .val (.int (v3 + (1 : Int32))), .unset]) rfl rfl ?_
                exact (h56 q1 q3 q19 q33 q46 q51 q55)
              · refine Wk.aloadN o_run_142 rfl ?_
                refine Wk.iconst o_run_143 (z := (0 : Int32)) (by decide) ?_
                refine Wk.putI (coC H) (mI_pos) (wf_pos H) (Or.inl (wy_pos H)) o_run_144 ?_
                refine Wk.iinc o_run_147 rfl (z := (v3 + (1 : Int32))) rfl (L' := [.val (.ref 0), .unset, .val (.int v2), .val (.int (v3 + (1 : Int32))), .val (.int ((A 4) (0 : Int32)))]) rfl ?_
                refine Wk.goto o_run_150 ?_
                refine Wk.forget [false, false, false, false, true] (L' := [.val (.ref 0), .unset, .val (.int v2), .val (.int (v3 + (1 : Int32))), .unset]) rfl rfl ?_
                exact (h57 q1 q3 q19 q33 q46 q51 q55)

theorem rt_run (G : Nat → Int64) (B : Nat → Int32 → Int64) (v0 : Int32) (xF : Nat → Int32) (xA : Nat → Int32 → Int32) (r : Int32 × (Nat → Int32) × (Nat → Int32 → Int32)) (e : (v0, xF, xA) = r) : some (Value.int v0) = some (.int r.1) ∧ (7, xF, G, xA, B) = (7, r.2.1, G, r.2.2, B) := by subst e; exact ⟨rfl, rfl⟩
def lp_run : Nat → Nat → Int32 → Int32 → (Nat → Int32) → (Nat → Int32 → Int32) → Option (Int32 × (Nat → Int32) × (Nat → Int32 → Int32))
  | 0, _, _, _, _, _ => none
  | n + 1, tag, v2, v3, F, A => if tag = 39 then (if v3 < v2 then (if (F 8) < 0 then (if ((A 4) (0 : Int32)) < 0 then (if ((0 : Int32) + (1 : Int32)) < (F 3) then lp_run n 39 v2 (v3 + (1 : Int32)) (ups (ups (ups F 8 (0 : Int32)) 7 ((F 7) + (1 : Int32))) 8 ((0 : Int32) + (1 : Int32))) A else lp_run n 39 v2 (v3 + (1 : Int32)) (ups (ups (ups (ups F 8 (0 : Int32)) 7 ((F 7) + (1 : Int32))) 8 ((0 : Int32) + (1 : Int32))) 8 (0 : Int32)) A) else (if ((A 4) (0 : Int32)) < (8 : Int32) then (if ((0 : Int32) + (1 : Int32)) < (F 3) then lp_run n 39 v2 (v3 + (1 : Int32)) (ups (ups (ups F 8 (0 : Int32)) 7 ((F 7) + (1 : Int32))) 8 ((0 : Int32) + (1 : Int32))) (ups A 3 (ups (A 3) ((A 4) (0 : Int32)) (((A 3) ((A 4) (0 : Int32))) + (1 : Int32)))) else lp_run n 39 v2 (v3 + (1 : Int32)) (ups (ups (ups (ups F 8 (0 : Int32)) 7 ((F 7) + (1 : Int32))) 8 ((0 : Int32) + (1 : Int32))) 8 (0 : Int32)) (ups A 3 (ups (A 3) ((A 4) (0 : Int32)) (((A 3) ((A 4) (0 : Int32))) + (1 : Int32))))) else (if ((0 : Int32) + (1 : Int32)) < (F 3) then lp_run n 39 v2 (v3 + (1 : Int32)) (ups (ups (ups F 8 (0 : Int32)) 7 ((F 7) + (1 : Int32))) 8 ((0 : Int32) + (1 : Int32))) A else lp_run n 39 v2 (v3 + (1 : Int32)) (ups (ups (ups (ups F 8 (0 : Int32)) 7 ((F 7) + (1 : Int32))) 8 ((0 : Int32) + (1 : Int32))) 8 (0 : Int32)) A))) else (if (F 8) < (F 3) then (if (F 8) < (128 : Int32) then (if ((A 4) (F 8)) < 0 then (if ((F 8) + (1 : Int32)) < (F 3) then lp_run n 39 v2 (v3 + (1 : Int32)) (ups (ups F 7 ((F 7) + (1 : Int32))) 8 ((F 8) + (1 : Int32))) A else lp_run n 39 v2 (v3 + (1 : Int32)) (ups (ups (ups F 7 ((F 7) + (1 : Int32))) 8 ((F 8) + (1 : Int32))) 8 (0 : Int32)) A) else (if ((A 4) (F 8)) < (8 : Int32) then (if ((F 8) + (1 : Int32)) < (F 3) then lp_run n 39 v2 (v3 + (1 : Int32)) (ups (ups F 7 ((F 7) + (1 : Int32))) 8 ((F 8) + (1 : Int32))) (ups A 3 (ups (A 3) ((A 4) (F 8)) (((A 3) ((A 4) (F 8))) + (1 : Int32)))) else lp_run n 39 v2 (v3 + (1 : Int32)) (ups (ups (ups F 7 ((F 7) + (1 : Int32))) 8 ((F 8) + (1 : Int32))) 8 (0 : Int32)) (ups A 3 (ups (A 3) ((A 4) (F 8)) (((A 3) ((A 4) (F 8))) + (1 : Int32))))) else (if ((F 8) + (1 : Int32)) < (F 3) then lp_run n 39 v2 (v3 + (1 : Int32)) (ups (ups F 7 ((F 7) + (1 : Int32))) 8 ((F 8) + (1 : Int32))) A else lp_run n 39 v2 (v3 + (1 : Int32)) (ups (ups (ups F 7 ((F 7) + (1 : Int32))) 8 ((F 8) + (1 : Int32))) 8 (0 : Int32)) A))) else (if ((A 4) (0 : Int32)) < 0 then (if ((0 : Int32) + (1 : Int32)) < (F 3) then lp_run n 39 v2 (v3 + (1 : Int32)) (ups (ups (ups F 8 (0 : Int32)) 7 ((F 7) + (1 : Int32))) 8 ((0 : Int32) + (1 : Int32))) A else lp_run n 39 v2 (v3 + (1 : Int32)) (ups (ups (ups (ups F 8 (0 : Int32)) 7 ((F 7) + (1 : Int32))) 8 ((0 : Int32) + (1 : Int32))) 8 (0 : Int32)) A) else (if ((A 4) (0 : Int32)) < (8 : Int32) then (if ((0 : Int32) + (1 : Int32)) < (F 3) then lp_run n 39 v2 (v3 + (1 : Int32)) (ups (ups (ups F 8 (0 : Int32)) 7 ((F 7) + (1 : Int32))) 8 ((0 : Int32) + (1 : Int32))) (ups A 3 (ups (A 3) ((A 4) (0 : Int32)) (((A 3) ((A 4) (0 : Int32))) + (1 : Int32)))) else lp_run n 39 v2 (v3 + (1 : Int32)) (ups (ups (ups (ups F 8 (0 : Int32)) 7 ((F 7) + (1 : Int32))) 8 ((0 : Int32) + (1 : Int32))) 8 (0 : Int32)) (ups A 3 (ups (A 3) ((A 4) (0 : Int32)) (((A 3) ((A 4) (0 : Int32))) + (1 : Int32))))) else (if ((0 : Int32) + (1 : Int32)) < (F 3) then lp_run n 39 v2 (v3 + (1 : Int32)) (ups (ups (ups F 8 (0 : Int32)) 7 ((F 7) + (1 : Int32))) 8 ((0 : Int32) + (1 : Int32))) A else lp_run n 39 v2 (v3 + (1 : Int32)) (ups (ups (ups (ups F 8 (0 : Int32)) 7 ((F 7) + (1 : Int32))) 8 ((0 : Int32) + (1 : Int32))) 8 (0 : Int32)) A)))) else (if ((A 4) (0 : Int32)) < 0 then (if ((0 : Int32) + (1 : Int32)) < (F 3) then lp_run n 39 v2 (v3 + (1 : Int32)) (ups (ups (ups F 8 (0 : Int32)) 7 ((F 7) + (1 : Int32))) 8 ((0 : Int32) + (1 : Int32))) A else lp_run n 39 v2 (v3 + (1 : Int32)) (ups (ups (ups (ups F 8 (0 : Int32)) 7 ((F 7) + (1 : Int32))) 8 ((0 : Int32) + (1 : Int32))) 8 (0 : Int32)) A) else (if ((A 4) (0 : Int32)) < (8 : Int32) then (if ((0 : Int32) + (1 : Int32)) < (F 3) then lp_run n 39 v2 (v3 + (1 : Int32)) (ups (ups (ups F 8 (0 : Int32)) 7 ((F 7) + (1 : Int32))) 8 ((0 : Int32) + (1 : Int32))) (ups A 3 (ups (A 3) ((A 4) (0 : Int32)) (((A 3) ((A 4) (0 : Int32))) + (1 : Int32)))) else lp_run n 39 v2 (v3 + (1 : Int32)) (ups (ups (ups (ups F 8 (0 : Int32)) 7 ((F 7) + (1 : Int32))) 8 ((0 : Int32) + (1 : Int32))) 8 (0 : Int32)) (ups A 3 (ups (A 3) ((A 4) (0 : Int32)) (((A 3) ((A 4) (0 : Int32))) + (1 : Int32))))) else (if ((0 : Int32) + (1 : Int32)) < (F 3) then lp_run n 39 v2 (v3 + (1 : Int32)) (ups (ups (ups F 8 (0 : Int32)) 7 ((F 7) + (1 : Int32))) 8 ((0 : Int32) + (1 : Int32))) A else lp_run n 39 v2 (v3 + (1 : Int32)) (ups (ups (ups (ups F 8 (0 : Int32)) 7 ((F 7) + (1 : Int32))) 8 ((0 : Int32) + (1 : Int32))) 8 (0 : Int32)) A))))) else some (v2, F, A)) else none
theorem lp_run_z (tag : Nat) (v2 : Int32) (v3 : Int32) (F : Nat → Int32) (A : Nat → Int32 → Int32) : lp_run 0 tag v2 v3 F A = none := Eq.trans rfl rfl
theorem lp_run_39 (n : Nat) (v2 : Int32) (v3 : Int32) (F : Nat → Int32) (A : Nat → Int32 → Int32) : lp_run (n + 1) 39 v2 v3 F A = (if v3 < v2 then (if (F 8) < 0 then (if ((A 4) (0 : Int32)) < 0 then (if ((0 : Int32) + (1 : Int32)) < (F 3) then lp_run n 39 v2 (v3 + (1 : Int32)) (ups (ups (ups F 8 (0 : Int32)) 7 ((F 7) + (1 : Int32))) 8 ((0 : Int32) + (1 : Int32))) A else lp_run n 39 v2 (v3 + (1 : Int32)) (ups (ups (ups (ups F 8 (0 : Int32)) 7 ((F 7) + (1 : Int32))) 8 ((0 : Int32) + (1 : Int32))) 8 (0 : Int32)) A) else (if ((A 4) (0 : Int32)) < (8 : Int32) then (if ((0 : Int32) + (1 : Int32)) < (F 3) then lp_run n 39 v2 (v3 + (1 : Int32)) (ups (ups (ups F 8 (0 : Int32)) 7 ((F 7) + (1 : Int32))) 8 ((0 : Int32) + (1 : Int32))) (ups A 3 (ups (A 3) ((A 4) (0 : Int32)) (((A 3) ((A 4) (0 : Int32))) + (1 : Int32)))) else lp_run n 39 v2 (v3 + (1 : Int32)) (ups (ups (ups (ups F 8 (0 : Int32)) 7 ((F 7) + (1 : Int32))) 8 ((0 : Int32) + (1 : Int32))) 8 (0 : Int32)) (ups A 3 (ups (A 3) ((A 4) (0 : Int32)) (((A 3) ((A 4) (0 : Int32))) + (1 : Int32))))) else (if ((0 : Int32) + (1 : Int32)) < (F 3) then lp_run n 39 v2 (v3 + (1 : Int32)) (ups (ups (ups F 8 (0 : Int32)) 7 ((F 7) + (1 : Int32))) 8 ((0 : Int32) + (1 : Int32))) A else lp_run n 39 v2 (v3 + (1 : Int32)) (ups (ups (ups (ups F 8 (0 : Int32)) 7 ((F 7) + (1 : Int32))) 8 ((0 : Int32) + (1 : Int32))) 8 (0 : Int32)) A))) else (if (F 8) < (F 3) then (if (F 8) < (128 : Int32) then (if ((A 4) (F 8)) < 0 then (if ((F 8) + (1 : Int32)) < (F 3) then lp_run n 39 v2 (v3 + (1 : Int32)) (ups (ups F 7 ((F 7) + (1 : Int32))) 8 ((F 8) + (1 : Int32))) A else lp_run n 39 v2 (v3 + (1 : Int32)) (ups (ups (ups F 7 ((F 7) + (1 : Int32))) 8 ((F 8) + (1 : Int32))) 8 (0 : Int32)) A) else (if ((A 4) (F 8)) < (8 : Int32) then (if ((F 8) + (1 : Int32)) < (F 3) then lp_run n 39 v2 (v3 + (1 : Int32)) (ups (ups F 7 ((F 7) + (1 : Int32))) 8 ((F 8) + (1 : Int32))) (ups A 3 (ups (A 3) ((A 4) (F 8)) (((A 3) ((A 4) (F 8))) + (1 : Int32)))) else lp_run n 39 v2 (v3 + (1 : Int32)) (ups (ups (ups F 7 ((F 7) + (1 : Int32))) 8 ((F 8) + (1 : Int32))) 8 (0 : Int32)) (ups A 3 (ups (A 3) ((A 4) (F 8)) (((A 3) ((A 4) (F 8))) + (1 : Int32))))) else (if ((F 8) + (1 : Int32)) < (F 3) then lp_run n 39 v2 (v3 + (1 : Int32)) (ups (ups F 7 ((F 7) + (1 : Int32))) 8 ((F 8) + (1 : Int32))) A else lp_run n 39 v2 (v3 + (1 : Int32)) (ups (ups (ups F 7 ((F 7) + (1 : Int32))) 8 ((F 8) + (1 : Int32))) 8 (0 : Int32)) A))) else (if ((A 4) (0 : Int32)) < 0 then (if ((0 : Int32) + (1 : Int32)) < (F 3) then lp_run n 39 v2 (v3 + (1 : Int32)) (ups (ups (ups F 8 (0 : Int32)) 7 ((F 7) + (1 : Int32))) 8 ((0 : Int32) + (1 : Int32))) A else lp_run n 39 v2 (v3 + (1 : Int32)) (ups (ups (ups (ups F 8 (0 : Int32)) 7 ((F 7) + (1 : Int32))) 8 ((0 : Int32) + (1 : Int32))) 8 (0 : Int32)) A) else (if ((A 4) (0 : Int32)) < (8 : Int32) then (if ((0 : Int32) + (1 : Int32)) < (F 3) then lp_run n 39 v2 (v3 + (1 : Int32)) (ups (ups (ups F 8 (0 : Int32)) 7 ((F 7) + (1 : Int32))) 8 ((0 : Int32) + (1 : Int32))) (ups A 3 (ups (A 3) ((A 4) (0 : Int32)) (((A 3) ((A 4) (0 : Int32))) + (1 : Int32)))) else lp_run n 39 v2 (v3 + (1 : Int32)) (ups (ups (ups (ups F 8 (0 : Int32)) 7 ((F 7) + (1 : Int32))) 8 ((0 : Int32) + (1 : Int32))) 8 (0 : Int32)) (ups A 3 (ups (A 3) ((A 4) (0 : Int32)) (((A 3) ((A 4) (0 : Int32))) + (1 : Int32))))) else (if ((0 : Int32) + (1 : Int32)) < (F 3) then lp_run n 39 v2 (v3 + (1 : Int32)) (ups (ups (ups F 8 (0 : Int32)) 7 ((F 7) + (1 : Int32))) 8 ((0 : Int32) + (1 : Int32))) A else lp_run n 39 v2 (v3 + (1 : Int32)) (ups (ups (ups (ups F 8 (0 : Int32)) 7 ((F 7) + (1 : Int32))) 8 ((0 : Int32) + (1 : Int32))) 8 (0 : Int32)) A)))) else (if ((A 4) (0 : Int32)) < 0 then (if ((0 : Int32) + (1 : Int32)) < (F 3) then lp_run n 39 v2 (v3 + (1 : Int32)) (ups (ups (ups F 8 (0 : Int32)) 7 ((F 7) + (1 : Int32))) 8 ((0 : Int32) + (1 : Int32))) A else lp_run n 39 v2 (v3 + (1 : Int32)) (ups (ups (ups (ups F 8 (0 : Int32)) 7 ((F 7) + (1 : Int32))) 8 ((0 : Int32) + (1 : Int32))) 8 (0 : Int32)) A) else (if ((A 4) (0 : Int32)) < (8 : Int32) then (if ((0 : Int32) + (1 : Int32)) < (F 3) then lp_run n 39 v2 (v3 + (1 : Int32)) (ups (ups (ups F 8 (0 : Int32)) 7 ((F 7) + (1 : Int32))) 8 ((0 : Int32) + (1 : Int32))) (ups A 3 (ups (A 3) ((A 4) (0 : Int32)) (((A 3) ((A 4) (0 : Int32))) + (1 : Int32)))) else lp_run n 39 v2 (v3 + (1 : Int32)) (ups (ups (ups (ups F 8 (0 : Int32)) 7 ((F 7) + (1 : Int32))) 8 ((0 : Int32) + (1 : Int32))) 8 (0 : Int32)) (ups A 3 (ups (A 3) ((A 4) (0 : Int32)) (((A 3) ((A 4) (0 : Int32))) + (1 : Int32))))) else (if ((0 : Int32) + (1 : Int32)) < (F 3) then lp_run n 39 v2 (v3 + (1 : Int32)) (ups (ups (ups F 8 (0 : Int32)) 7 ((F 7) + (1 : Int32))) 8 ((0 : Int32) + (1 : Int32))) A else lp_run n 39 v2 (v3 + (1 : Int32)) (ups (ups (ups (ups F 8 (0 : Int32)) 7 ((F 7) + (1 : Int32))) 8 ((0 : Int32) + (1 : Int32))) 8 (0 : Int32)) A))))) else some (v2, F, A)) := by
  rw [lp_run, if_pos rfl]
set_option maxRecDepth 65536 in
set_option maxHeartbeats 4000000 in
theorem lpw_run {l : Launch} {Z : State} {a0 : Array Value} (H : OK Z a0) (G : Nat → Int64) (B : Nat → Int32 → Int64) : ∀ (n : Nat) (v2 : Int32) (v3 : Int32) (F : Nat → Int32) (A : Nat → Int32 → Int32) (r : Int32 × (Nat → Int32) × (Nat → Int32 → Int32)), (lp_run n 39 v2 v3 F A = some r → Wk l Z (MoC Z cdC) md_run 39 [.val (.ref 0), .unset, .val (.int v2), .val (.int v3), .unset] [] (7, F, G, A, B) 0 0 (fun v w' => v = some (.int r.1) ∧ w' = (7, r.2.1, G, r.2.2, B))) := by
  intro n
  induction n with
  | zero =>
    intro v2 v3 F A r
    exact (fun h => by rw [lp_run_z] at h; cases h)
  | succ n ih =>
    intro v2 v3 F A r
    refine fun h => ?_
    · rw [lp_run_39] at h
      exact wp_run_39 H F G A B v2 v3 (fun q1 => (rt_run _ _ _ _ _ r (Option.some.inj (ifn q1 h)))) (fun q1 q3 q7 q9 => (ih _ _ _ _ _) (ifp q9 (ifp q7 (ifp q3 (ifp q1 h))))) (fun q1 q3 q7 q9 => (ih _ _ _ _ _) (ifn q9 (ifp q7 (ifp q3 (ifp q1 h))))) (fun q1 q3 q7 q12 q13 => (ih _ _ _ _ _) (ifp q13 (ifn q12 (ifn q7 (ifp q3 (ifp q1 h)))))) (fun q1 q3 q7 q12 q13 => (ih _ _ _ _ _) (ifn q13 (ifn q12 (ifn q7 (ifp q3 (ifp q1 h)))))) (fun q1 q3 q7 q12 q16 => (ih _ _ _ _ _) (ifp q16 (ifp q12 (ifn q7 (ifp q3 (ifp q1 h)))))) (fun q1 q3 q7 q12 q16 => (ih _ _ _ _ _) (ifn q16 (ifp q12 (ifn q7 (ifp q3 (ifp q1 h)))))) (fun q1 q3 q19 q21 q23 => (ih _ _ _ _ _) (ifp q23 (ifp q21 (ifn q19 (ifn q3 (ifp q1 h)))))) (fun q1 q3 q19 q21 q23 => (ih _ _ _ _ _) (ifn q23 (ifp q21 (ifn q19 (ifn q3 (ifp q1 h)))))) (fun q1 q3 q19 q21 q26 q27 => (ih _ _ _ _ _) (ifp q27 (ifn q26 (ifn q21 (ifn q19 (ifn q3 (ifp q1 h))))))) (fun q1 q3 q19 q21 q26 q27 => (ih _ _ _ _ _) (ifn q27 (ifn q26 (ifn q21 (ifn q19 (ifn q3 (ifp q1 h))))))) (fun q1 q3 q19 q21 q26 q30 => (ih _ _ _ _ _) (ifp q30 (ifp q26 (ifn q21 (ifn q19 (ifn q3 (ifp q1 h))))))) (fun q1 q3 q19 q21 q26 q30 => (ih _ _ _ _ _) (ifn q30 (ifp q26 (ifn q21 (ifn q19 (ifn q3 (ifp q1 h))))))) (fun q1 q3 q19 q33 q34 q36 => (ih _ _ _ _ _) (ifp q36 (ifp q34 (ifp q33 (ifp q19 (ifn q3 (ifp q1 h))))))) (fun q1 q3 q19 q33 q34 q36 => (ih _ _ _ _ _) (ifn q36 (ifp q34 (ifp q33 (ifp q19 (ifn q3 (ifp q1 h))))))) (fun q1 q3 q19 q33 q34 q39 q40 => (ih _ _ _ _ _) (ifp q40 (ifn q39 (ifn q34 (ifp q33 (ifp q19 (ifn q3 (ifp q1 h)))))))) (fun q1 q3 q19 q33 q34 q39 q40 => (ih _ _ _ _ _) (ifn q40 (ifn q39 (ifn q34 (ifp q33 (ifp q19 (ifn q3 (ifp q1 h)))))))) (fun q1 q3 q19 q33 q34 q39 q43 => (ih _ _ _ _ _) (ifp q43 (ifp q39 (ifn q34 (ifp q33 (ifp q19 (ifn q3 (ifp q1 h)))))))) (fun q1 q3 q19 q33 q34 q39 q43 => (ih _ _ _ _ _) (ifn q43 (ifp q39 (ifn q34 (ifp q33 (ifp q19 (ifn q3 (ifp q1 h)))))))) (fun q1 q3 q19 q33 q46 q48 => (ih _ _ _ _ _) (ifp q48 (ifp q46 (ifn q33 (ifp q19 (ifn q3 (ifp q1 h))))))) (fun q1 q3 q19 q33 q46 q48 => (ih _ _ _ _ _) (ifn q48 (ifp q46 (ifn q33 (ifp q19 (ifn q3 (ifp q1 h))))))) (fun q1 q3 q19 q33 q46 q51 q52 => (ih _ _ _ _ _) (ifp q52 (ifn q51 (ifn q46 (ifn q33 (ifp q19 (ifn q3 (ifp q1 h)))))))) (fun q1 q3 q19 q33 q46 q51 q52 => (ih _ _ _ _ _) (ifn q52 (ifn q51 (ifn q46 (ifn q33 (ifp q19 (ifn q3 (ifp q1 h)))))))) (fun q1 q3 q19 q33 q46 q51 q55 => (ih _ _ _ _ _) (ifp q55 (ifp q51 (ifn q46 (ifn q33 (ifp q19 (ifn q3 (ifp q1 h)))))))) (fun q1 q3 q19 q33 q46 q51 q55 => (ih _ _ _ _ _) (ifn q55 (ifp q51 (ifn q46 (ifn q33 (ifp q19 (ifn q3 (ifp q1 h))))))))
def en_run (F : Nat → Int32) (A : Nat → Int32 → Int32) (p1 : Int32) : Option (Int32 × (Nat → Int32) × (Nat → Int32 → Int32)) := (if (F 4) = 0 then some ((0 : Int32), F, A) else (if p1 < (1 : Int32) then some ((0 : Int32), F, A) else (if (F 3) < (1 : Int32) then some ((0 : Int32), F, A) else lp_run 20000 39 (if p1 < (4096 : Int32) then p1 else (4096 : Int32)) (0 : Int32) F A)))
theorem een_run (F : Nat → Int32) (A : Nat → Int32 → Int32) (p1 : Int32) : en_run F A p1 = (if (F 4) = 0 then some ((0 : Int32), F, A) else (if p1 < (1 : Int32) then some ((0 : Int32), F, A) else (if (F 3) < (1 : Int32) then some ((0 : Int32), F, A) else lp_run 20000 39 (if p1 < (4096 : Int32) then p1 else (4096 : Int32)) (0 : Int32) F A))) := Eq.trans rfl rfl
def R_run (F : Nat → Int32) (A : Nat → Int32 → Int32) (p1 : Int32) : Int32 × (Nat → Int32) × (Nat → Int32 → Int32) := (en_run F A p1).getD (0, (fun _ => 0), (fun _ _ => 0))
theorem eR_run (F : Nat → Int32) (A : Nat → Int32 → Int32) (p1 : Int32) : R_run F A p1 = (en_run F A p1).getD (0, (fun _ => 0), (fun _ _ => 0)) := Eq.trans rfl rfl
set_option maxRecDepth 65536 in
set_option maxHeartbeats 4000000 in
theorem run_run {l : Launch} {Z : State} {a0 : Array Value} (H : OK Z a0) (F : Nat → Int32) (G : Nat → Int64) (A : Nat → Int32 → Int32) (B : Nat → Int32 → Int64) (p1 : Int32) (e1 : (en_run F A p1).isSome = true) :
    Wk l Z (MoC Z cdC) md_run 0 [.val (.ref 0), .val (.int p1), .unset, .unset, .unset] [] (7, F, G, A, B) 0 0 (fun v w' => v = some (.int (R_run F A p1).1) ∧ w' = (7, (R_run F A p1).2.1, G, (R_run F A p1).2.2, B)) := by
  obtain ⟨r, h⟩ := Option.isSome_iff_exists.mp e1
  have e : R_run F A p1 = r := (eR_run F A p1).trans (getD_some h)
  rw [e]
  rw [een_run] at h
  exact wp_run H F G A B p1 (fun q1 => (rt_run _ _ _ _ _ r (Option.some.inj (ifp q1 h)))) (fun q1 q3 => (rt_run _ _ _ _ _ r (Option.some.inj (ifp q3 (ifn q1 h))))) (fun q1 q3 q5 => (lpw_run H G B _ _ _ _ _ _) (ifn q5 (ifn q3 (ifn q1 h)))) (fun q1 q3 q5 => (rt_run _ _ _ _ _ r (Option.some.inj (ifp q5 (ifn q3 (ifn q1 h))))))
set_option maxRecDepth 65536 in
set_option maxHeartbeats 4000000 in
theorem wp_getNow {l : Launch} {Z : State} {a0 : Array Value} (H : OK Z a0) (F : Nat → Int32) (G : Nat → Int64) (A : Nat → Int32 → Int32) (B : Nat → Int32 → Int64) {Q : Option Value → WO → Prop} (h1 : Q (some (.int (F 7))) (7, F, G, A, B)) :
    Wk l Z (MoC Z cdC) md_getNow 0 [.val (.ref 0)] [] (7, F, G, A, B) 0 0 Q := by
  refine Wk.aloadN o_getNow_0 rfl ?_
  refine Wk.getI (mI_now) (wf_now H) o_getNow_1 (x := (F 7)) rfl ?_
  exact Wk.ireturn mrC rfl o_getNow_4 rfl (by decide) (by decide) h1

def f_getNow (F : Nat → Int32) : Int32 := (F 7)
theorem e_getNow (F : Nat → Int32) : f_getNow F = (F 7) := Eq.trans rfl rfl
theorem run_getNow {l : Launch} {Z : State} {a0 : Array Value} (H : OK Z a0) (F : Nat → Int32) (G : Nat → Int64) (A : Nat → Int32 → Int32) (B : Nat → Int32 → Int64) :
    Wk l Z (MoC Z cdC) md_getNow 0 [.val (.ref 0)] [] (7, F, G, A, B) 0 0 (fun v w' => v = some (.int (f_getNow F)) ∧ w' = (7, F, G, A, B)) :=
  wp_getNow H F G A B ⟨rfl, rfl⟩
set_option maxRecDepth 65536 in
set_option maxHeartbeats 4000000 in
theorem wp_getRunTicks {l : Launch} {Z : State} {a0 : Array Value} (H : OK Z a0) (F : Nat → Int32) (G : Nat → Int64) (A : Nat → Int32 → Int32) (B : Nat → Int32 → Int64) (p1 : Int32) {Q : Option Value → WO → Prop} (h2 : p1 < 0 → Q (some (.int (-1 : Int32))) (7, F, G, A, B)) (s4 : ¬ p1 < 0 → p1 < (F 2) → p1 < (8 : Int32)) (h5 : ¬ p1 < 0 → p1 < (F 2) → Q (some (.int ((A 3) p1))) (7, F, G, A, B)) (h6 : ¬ p1 < 0 → ¬ p1 < (F 2) → Q (some (.int (-1 : Int32))) (7, F, G, A, B)) :
    Wk l Z (MoC Z cdC) md_getRunTicks 0 [.val (.ref 0), .val (.int p1)] [] (7, F, G, A, B) 0 0 Q := by
  refine Wk.iloadN o_getRunTicks_0 rfl ?_
  refine Wk.if_lt o_getRunTicks_1 (fun q1 => ?_) (fun q1 => ?_)
  · refine Wk.iconst o_getRunTicks_12 (z := (-1 : Int32)) (by decide) ?_
    exact Wk.ireturn mrC rfl o_getRunTicks_13 rfl (by decide) (by decide) (h2 q1)
  · refine Wk.iloadN o_getRunTicks_4 rfl ?_
    refine Wk.aloadN o_getRunTicks_5 rfl ?_
    refine Wk.getI (mI_count) (wf_count H) o_getRunTicks_6 (x := (F 2)) rfl ?_
    refine Wk.icmp_lt o_getRunTicks_9 (fun q3 => ?_) (fun q3 => ?_)
    · refine Wk.aloadN o_getRunTicks_14 rfl ?_
      refine Wk.getA (mA_runCnt) (by decide) (i' := 4) rfl (wf_runCnt H) o_getRunTicks_15 ?_
      refine Wk.iloadN o_getRunTicks_18 rfl ?_
      refine Wk.iaload (mA_runCnt) (by decide) (i' := 4) rfl q1 (s4 q1 q3) o_getRunTicks_19 (y := ((A 3) p1)) rfl ?_
      exact Wk.ireturn mrC rfl o_getRunTicks_20 rfl (by decide) (by decide) (h5 q1 q3)
    · refine Wk.iconst o_getRunTicks_12 (z := (-1 : Int32)) (by decide) ?_
      exact Wk.ireturn mrC rfl o_getRunTicks_13 rfl (by decide) (by decide) (h6 q1 q3)

theorem rt_getRunTicks (F : Nat → Int32) (G : Nat → Int64) (A : Nat → Int32 → Int32) (B : Nat → Int32 → Int64) (v0 : Int32) (r : Int32) (e : v0 = r) : some (Value.int v0) = some (.int r) ∧ (7, F, G, A, B) = (7, F, G, A, B) := by subst e; exact ⟨rfl, rfl⟩
def en_getRunTicks (F : Nat → Int32) (A : Nat → Int32 → Int32) (p1 : Int32) : Option (Int32) := (if p1 < 0 then some ((-1 : Int32)) else (if p1 < (F 2) then (if (p1 < (8 : Int32)) then some (((A 3) p1)) else none) else some ((-1 : Int32))))
theorem een_getRunTicks (F : Nat → Int32) (A : Nat → Int32 → Int32) (p1 : Int32) : en_getRunTicks F A p1 = (if p1 < 0 then some ((-1 : Int32)) else (if p1 < (F 2) then (if (p1 < (8 : Int32)) then some (((A 3) p1)) else none) else some ((-1 : Int32)))) := Eq.trans rfl rfl
def R_getRunTicks (F : Nat → Int32) (A : Nat → Int32 → Int32) (p1 : Int32) : Int32 := (en_getRunTicks F A p1).getD (0)
theorem eR_getRunTicks (F : Nat → Int32) (A : Nat → Int32 → Int32) (p1 : Int32) : R_getRunTicks F A p1 = (en_getRunTicks F A p1).getD (0) := Eq.trans rfl rfl
set_option maxRecDepth 65536 in
set_option maxHeartbeats 4000000 in
theorem run_getRunTicks {l : Launch} {Z : State} {a0 : Array Value} (H : OK Z a0) (F : Nat → Int32) (G : Nat → Int64) (A : Nat → Int32 → Int32) (B : Nat → Int32 → Int64) (p1 : Int32) (e1 : (en_getRunTicks F A p1).isSome = true) :
    Wk l Z (MoC Z cdC) md_getRunTicks 0 [.val (.ref 0), .val (.int p1)] [] (7, F, G, A, B) 0 0 (fun v w' => v = some (.int (R_getRunTicks F A p1)) ∧ w' = (7, F, G, A, B)) := by
  obtain ⟨r, h⟩ := Option.isSome_iff_exists.mp e1
  have e : R_getRunTicks F A p1 = r := (eR_getRunTicks F A p1).trans (getD_some h)
  rw [e]
  rw [een_getRunTicks] at h
  exact wp_getRunTicks H F G A B p1 (fun q1 => (rt_getRunTicks _ _ _ _ _ r (Option.some.inj (ifp q1 h)))) (fun q1 q3 => (gd (ifp q3 (ifn q1 h))).1) (fun q1 q3 => (rt_getRunTicks _ _ _ _ _ r (Option.some.inj (gd (ifp q3 (ifn q1 h))).2))) (fun q1 q3 => (rt_getRunTicks _ _ _ _ _ r (Option.some.inj (ifn q3 (ifn q1 h)))))
set_option maxRecDepth 65536 in
set_option maxHeartbeats 4000000 in
theorem wp_validTick {l : Launch} {Z : State} {a0 : Array Value} (H : OK Z a0) (F : Nat → Int32) (G : Nat → Int64) (A : Nat → Int32 → Int32) (B : Nat → Int32 → Int64) (p1 : Int32) {Q : Option Value → WO → Prop} (h9 : Q (some (.int (nar .boolean (if (F 4) = 0 then (0 : Int32) else (if p1 < 0 then (0 : Int32) else (if p1 < (F 3) then (if p1 < (128 : Int32) then (1 : Int32) else (0 : Int32)) else (0 : Int32))))))) (7, F, G, A, B)) :
    Wk l Z (MoC Z cdC) md_validTick 0 [.val (.ref 0), .val (.int p1)] [] (7, F, G, A, B) 0 0 Q := by
  refine Wk.aloadN o_validTick_0 rfl ?_
  refine Wk.getI (mI_present) (wf_present H) o_validTick_1 (x := (F 4)) rfl ?_
  have J8 : Wk l Z (MoC Z cdC) md_validTick 31 [.val (.ref 0), .val (.int p1)] [.int (if (F 4) = 0 then (0 : Int32) else (if p1 < 0 then (0 : Int32) else (if p1 < (F 3) then (if p1 < (128 : Int32) then (1 : Int32) else (0 : Int32)) else (0 : Int32))))] (7, F, G, A, B) 0 0 Q := by
    exact Wk.zreturn mrC rfl o_validTick_31 rfl (by decide) (by decide) (y := (nar .boolean (if (F 4) = 0 then (0 : Int32) else (if p1 < 0 then (0 : Int32) else (if p1 < (F 3) then (if p1 < (128 : Int32) then (1 : Int32) else (0 : Int32)) else (0 : Int32)))))) rfl h9
  refine Wk.if_eq o_validTick_4 (fun q1 => ?_) (fun q1 => ?_)
  · refine Wk.iconst o_validTick_30 (z := (0 : Int32)) (by decide) ?_
    first | (rw [show ((if (F 4) = 0 then (0 : Int32) else (if p1 < 0 then (0 : Int32) else (if p1 < (F 3) then (if p1 < (128 : Int32) then (1 : Int32) else (0 : Int32)) else (0 : Int32)))) : Int32) = (0 : Int32) from if_pos q1] at J8; exact J8) | exact J8 | (simp only [if_pos q1] at J8 ⊢; exact J8)
  · refine Wk.iloadN o_validTick_7 rfl ?_
    refine Wk.if_lt o_validTick_8 (fun q2 => ?_) (fun q2 => ?_)
    · refine Wk.iconst o_validTick_30 (z := (0 : Int32)) (by decide) ?_
      first | (rw [show ((if (F 4) = 0 then (0 : Int32) else (if p1 < 0 then (0 : Int32) else (if p1 < (F 3) then (if p1 < (128 : Int32) then (1 : Int32) else (0 : Int32)) else (0 : Int32)))) : Int32) = (0 : Int32) from Eq.trans (if_neg q1) <| if_pos q2] at J8; exact J8) | exact J8 | (simp only [if_neg q1, if_pos q2] at J8 ⊢; exact J8)
    · refine Wk.iloadN o_validTick_11 rfl ?_
      refine Wk.aloadN o_validTick_12 rfl ?_
      refine Wk.getI (mI_hyper) (wf_hyper H) o_validTick_13 (x := (F 3)) rfl ?_
      refine Wk.icmp_ge o_validTick_16 (fun q3 => ?_) (fun q3 => ?_)
      · refine Wk.iconst o_validTick_30 (z := (0 : Int32)) (by decide) ?_
        first | (rw [show ((if (F 4) = 0 then (0 : Int32) else (if p1 < 0 then (0 : Int32) else (if p1 < (F 3) then (if p1 < (128 : Int32) then (1 : Int32) else (0 : Int32)) else (0 : Int32)))) : Int32) = (0 : Int32) from Eq.trans (if_neg q1) <| Eq.trans (if_neg q2) <| if_neg q3] at J8; exact J8) | exact J8 | (simp only [if_neg q1, if_neg q2, if_neg q3] at J8 ⊢; exact J8)
      · refine Wk.iloadN o_validTick_19 rfl ?_
        refine Wk.sipush o_validTick_20 (z := (128 : Int32)) (by decide) ?_
        refine Wk.icmp_ge o_validTick_23 (fun q4 => ?_) (fun q4 => ?_)
        · refine Wk.iconst o_validTick_30 (z := (0 : Int32)) (by decide) ?_
          first | (rw [show ((if (F 4) = 0 then (0 : Int32) else (if p1 < 0 then (0 : Int32) else (if p1 < (F 3) then (if p1 < (128 : Int32) then (1 : Int32) else (0 : Int32)) else (0 : Int32)))) : Int32) = (0 : Int32) from Eq.trans (if_neg q1) <| Eq.trans (if_neg q2) <| Eq.trans (if_pos q3) <| if_neg q4] at J8; exact J8) | exact J8 | (simp only [if_neg q1, if_neg q2, if_pos q3, if_neg q4] at J8 ⊢; exact J8)
        · refine Wk.iconst o_validTick_26 (z := (1 : Int32)) (by decide) ?_
          refine Wk.goto o_validTick_27 ?_
          first | (rw [show ((if (F 4) = 0 then (0 : Int32) else (if p1 < 0 then (0 : Int32) else (if p1 < (F 3) then (if p1 < (128 : Int32) then (1 : Int32) else (0 : Int32)) else (0 : Int32)))) : Int32) = (1 : Int32) from Eq.trans (if_neg q1) <| Eq.trans (if_neg q2) <| Eq.trans (if_pos q3) <| if_pos q4] at J8; exact J8) | exact J8 | (simp only [if_neg q1, if_neg q2, if_pos q3, if_pos q4] at J8 ⊢; exact J8)

def f_validTick (F : Nat → Int32) (p1 : Int32) : Int32 := (nar .boolean (if (F 4) = 0 then (0 : Int32) else (if p1 < 0 then (0 : Int32) else (if p1 < (F 3) then (if p1 < (128 : Int32) then (1 : Int32) else (0 : Int32)) else (0 : Int32)))))
theorem e_validTick (F : Nat → Int32) (p1 : Int32) : f_validTick F p1 = (nar .boolean (if (F 4) = 0 then (0 : Int32) else (if p1 < 0 then (0 : Int32) else (if p1 < (F 3) then (if p1 < (128 : Int32) then (1 : Int32) else (0 : Int32)) else (0 : Int32))))) := Eq.trans rfl rfl
theorem bz_validTick (F : Nat → Int32) (p1 : Int32) : nar .boolean (f_validTick F p1) = f_validTick F p1 := by
  unfold f_validTick
  (repeat' split) <;> first | rfl | exact nar_nar _
theorem run_validTick {l : Launch} {Z : State} {a0 : Array Value} (H : OK Z a0) (F : Nat → Int32) (G : Nat → Int64) (A : Nat → Int32 → Int32) (B : Nat → Int32 → Int64) (p1 : Int32) :
    Wk l Z (MoC Z cdC) md_validTick 0 [.val (.ref 0), .val (.int p1)] [] (7, F, G, A, B) 0 0 (fun v w' => v = some (.int (f_validTick F p1)) ∧ w' = (7, F, G, A, B)) :=
  wp_validTick H F G A B p1 ⟨rfl, rfl⟩
set_option maxRecDepth 65536 in
set_option maxHeartbeats 4000000 in
theorem wp_getTickTask {l : Launch} {Z : State} {a0 : Array Value} (H : OK Z a0) (F : Nat → Int32) (G : Nat → Int64) (A : Nat → Int32 → Int32) (B : Nat → Int32 → Int64) (p1 : Int32) {Q : Option Value → WO → Prop} (s2 : ¬ (f_validTick F p1) = 0 → ¬ p1 < 0) (s3 : ¬ (f_validTick F p1) = 0 → p1 < (128 : Int32)) (h4 : ¬ (f_validTick F p1) = 0 → Q (some (.int ((A 4) p1))) (7, F, G, A, B)) (h5 : (f_validTick F p1) = 0 → Q (some (.int (-1 : Int32))) (7, F, G, A, B)) :
    Wk l Z (MoC Z cdC) md_getTickTask 0 [.val (.ref 0), .val (.int p1)] [] (7, F, G, A, B) 0 0 Q := by
  refine Wk.aloadN o_getTickTask_0 rfl ?_
  refine Wk.iloadN o_getTickTask_1 rfl ?_
  refine Wk.callF [.int p1] [] (H.w 138 rfl) (cv_validTick H) o_getTickTask_2 (run_validTick H F G A B p1) (wt := 0) (cu' := 0) (su' := 0) (by decide) rfl rfl rfl rfl rfl rfl rfl ?_
  refine Wk.if_ne o_getTickTask_5 (fun q1 => ?_) (fun q1 => ?_)
  · refine Wk.aloadN o_getTickTask_10 rfl ?_
    refine Wk.getA (mA_tickTask) (by decide) (i' := 5) rfl (wf_tickTask H) o_getTickTask_11 ?_
    refine Wk.iloadN o_getTickTask_14 rfl ?_
    refine Wk.iaload (mA_tickTask) (by decide) (i' := 5) rfl (s2 q1) (s3 q1) o_getTickTask_15 (y := ((A 4) p1)) rfl ?_
    exact Wk.ireturn mrC rfl o_getTickTask_16 rfl (by decide) (by decide) (h4 q1)
  · refine Wk.iconst o_getTickTask_8 (z := (-1 : Int32)) (by decide) ?_
    exact Wk.ireturn mrC rfl o_getTickTask_9 rfl (by decide) (by decide) (h5 q1)

theorem rt_getTickTask (F : Nat → Int32) (G : Nat → Int64) (A : Nat → Int32 → Int32) (B : Nat → Int32 → Int64) (v0 : Int32) (r : Int32) (e : v0 = r) : some (Value.int v0) = some (.int r) ∧ (7, F, G, A, B) = (7, F, G, A, B) := by subst e; exact ⟨rfl, rfl⟩
def en_getTickTask (F : Nat → Int32) (A : Nat → Int32 → Int32) (p1 : Int32) : Option (Int32) := (if (f_validTick F p1) = 0 then some ((-1 : Int32)) else (if (¬ p1 < 0) ∧ (p1 < (128 : Int32)) then some (((A 4) p1)) else none))
theorem een_getTickTask (F : Nat → Int32) (A : Nat → Int32 → Int32) (p1 : Int32) : en_getTickTask F A p1 = (if (f_validTick F p1) = 0 then some ((-1 : Int32)) else (if (¬ p1 < 0) ∧ (p1 < (128 : Int32)) then some (((A 4) p1)) else none)) := Eq.trans rfl rfl
def R_getTickTask (F : Nat → Int32) (A : Nat → Int32 → Int32) (p1 : Int32) : Int32 := (en_getTickTask F A p1).getD (0)
theorem eR_getTickTask (F : Nat → Int32) (A : Nat → Int32 → Int32) (p1 : Int32) : R_getTickTask F A p1 = (en_getTickTask F A p1).getD (0) := Eq.trans rfl rfl
set_option maxRecDepth 65536 in
set_option maxHeartbeats 4000000 in
theorem run_getTickTask {l : Launch} {Z : State} {a0 : Array Value} (H : OK Z a0) (F : Nat → Int32) (G : Nat → Int64) (A : Nat → Int32 → Int32) (B : Nat → Int32 → Int64) (p1 : Int32) (e1 : (en_getTickTask F A p1).isSome = true) :
    Wk l Z (MoC Z cdC) md_getTickTask 0 [.val (.ref 0), .val (.int p1)] [] (7, F, G, A, B) 0 0 (fun v w' => v = some (.int (R_getTickTask F A p1)) ∧ w' = (7, F, G, A, B)) := by
  obtain ⟨r, h⟩ := Option.isSome_iff_exists.mp e1
  have e : R_getTickTask F A p1 = r := (eR_getTickTask F A p1).trans (getD_some h)
  rw [e]
  rw [een_getTickTask] at h
  exact wp_getTickTask H F G A B p1 (fun q1 => (gd (ifn q1 h)).1.1) (fun q1 => (gd (ifn q1 h)).1.2) (fun q1 => (rt_getTickTask _ _ _ _ _ r (Option.some.inj (gd (ifn q1 h)).2))) (fun q1 => (rt_getTickTask _ _ _ _ _ r (Option.some.inj (ifp q1 h))))
set_option maxRecDepth 65536 in
set_option maxHeartbeats 4000000 in
theorem wp_getTickJob {l : Launch} {Z : State} {a0 : Array Value} (H : OK Z a0) (F : Nat → Int32) (G : Nat → Int64) (A : Nat → Int32 → Int32) (B : Nat → Int32 → Int64) (p1 : Int32) {Q : Option Value → WO → Prop} (s2 : ¬ (f_validTick F p1) = 0 → ¬ p1 < 0) (s3 : ¬ (f_validTick F p1) = 0 → p1 < (128 : Int32)) (h4 : ¬ (f_validTick F p1) = 0 → Q (some (.int ((A 5) p1))) (7, F, G, A, B)) (h5 : (f_validTick F p1) = 0 → Q (some (.int (-1 : Int32))) (7, F, G, A, B)) :
    Wk l Z (MoC Z cdC) md_getTickJob 0 [.val (.ref 0), .val (.int p1)] [] (7, F, G, A, B) 0 0 Q := by
  refine Wk.aloadN o_getTickJob_0 rfl ?_
  refine Wk.iloadN o_getTickJob_1 rfl ?_
  refine Wk.callF [.int p1] [] (H.w 138 rfl) (cv_validTick H) o_getTickJob_2 (run_validTick H F G A B p1) (wt := 0) (cu' := 0) (su' := 0) (by decide) rfl rfl rfl rfl rfl rfl rfl ?_
  refine Wk.if_ne o_getTickJob_5 (fun q1 => ?_) (fun q1 => ?_)
  · refine Wk.aloadN o_getTickJob_10 rfl ?_
    refine Wk.getA (mA_tickJob) (by decide) (i' := 6) rfl (wf_tickJob H) o_getTickJob_11 ?_
    refine Wk.iloadN o_getTickJob_14 rfl ?_
    refine Wk.iaload (mA_tickJob) (by decide) (i' := 6) rfl (s2 q1) (s3 q1) o_getTickJob_15 (y := ((A 5) p1)) rfl ?_
    exact Wk.ireturn mrC rfl o_getTickJob_16 rfl (by decide) (by decide) (h4 q1)
  · refine Wk.iconst o_getTickJob_8 (z := (-1 : Int32)) (by decide) ?_
    exact Wk.ireturn mrC rfl o_getTickJob_9 rfl (by decide) (by decide) (h5 q1)

theorem rt_getTickJob (F : Nat → Int32) (G : Nat → Int64) (A : Nat → Int32 → Int32) (B : Nat → Int32 → Int64) (v0 : Int32) (r : Int32) (e : v0 = r) : some (Value.int v0) = some (.int r) ∧ (7, F, G, A, B) = (7, F, G, A, B) := by subst e; exact ⟨rfl, rfl⟩
def en_getTickJob (F : Nat → Int32) (A : Nat → Int32 → Int32) (p1 : Int32) : Option (Int32) := (if (f_validTick F p1) = 0 then some ((-1 : Int32)) else (if (¬ p1 < 0) ∧ (p1 < (128 : Int32)) then some (((A 5) p1)) else none))
theorem een_getTickJob (F : Nat → Int32) (A : Nat → Int32 → Int32) (p1 : Int32) : en_getTickJob F A p1 = (if (f_validTick F p1) = 0 then some ((-1 : Int32)) else (if (¬ p1 < 0) ∧ (p1 < (128 : Int32)) then some (((A 5) p1)) else none)) := Eq.trans rfl rfl
def R_getTickJob (F : Nat → Int32) (A : Nat → Int32 → Int32) (p1 : Int32) : Int32 := (en_getTickJob F A p1).getD (0)
theorem eR_getTickJob (F : Nat → Int32) (A : Nat → Int32 → Int32) (p1 : Int32) : R_getTickJob F A p1 = (en_getTickJob F A p1).getD (0) := Eq.trans rfl rfl
set_option maxRecDepth 65536 in
set_option maxHeartbeats 4000000 in
theorem run_getTickJob {l : Launch} {Z : State} {a0 : Array Value} (H : OK Z a0) (F : Nat → Int32) (G : Nat → Int64) (A : Nat → Int32 → Int32) (B : Nat → Int32 → Int64) (p1 : Int32) (e1 : (en_getTickJob F A p1).isSome = true) :
    Wk l Z (MoC Z cdC) md_getTickJob 0 [.val (.ref 0), .val (.int p1)] [] (7, F, G, A, B) 0 0 (fun v w' => v = some (.int (R_getTickJob F A p1)) ∧ w' = (7, F, G, A, B)) := by
  obtain ⟨r, h⟩ := Option.isSome_iff_exists.mp e1
  have e : R_getTickJob F A p1 = r := (eR_getTickJob F A p1).trans (getD_some h)
  rw [e]
  rw [een_getTickJob] at h
  exact wp_getTickJob H F G A B p1 (fun q1 => (gd (ifn q1 h)).1.1) (fun q1 => (gd (ifn q1 h)).1.2) (fun q1 => (rt_getTickJob _ _ _ _ _ r (Option.some.inj (gd (ifn q1 h)).2))) (fun q1 => (rt_getTickJob _ _ _ _ _ r (Option.some.inj (ifp q1 h))))
set_option maxRecDepth 65536 in
set_option maxHeartbeats 4000000 in
theorem wp_getSliceCount {l : Launch} {Z : State} {a0 : Array Value} (H : OK Z a0) (F : Nat → Int32) (G : Nat → Int64) (A : Nat → Int32 → Int32) (B : Nat → Int32 → Int64) (p1 : Int32) (p2 : Int32) {Q : Option Value → WO → Prop} (h2 : (F 4) = 0 → Q (some (.int (-1 : Int32))) (7, F, G, A, B)) (h4 : ¬ (F 4) = 0 → (F 5) < (1 : Int32) → Q (some (.int (-1 : Int32))) (7, F, G, A, B)) (h6 : ¬ (F 4) = 0 → ¬ (F 5) < (1 : Int32) → p1 < 0 → Q (some (.int (-1 : Int32))) (7, F, G, A, B)) (s8 : ¬ (F 4) = 0 → ¬ (F 5) < (1 : Int32) → ¬ p1 < 0 → p1 < (F 2) → p1 < (8 : Int32)) (s9 : ¬ (F 4) = 0 → ¬ (F 5) < (1 : Int32) → ¬ p1 < 0 → p1 < (F 2) → ¬ ((A 0) p1) = (0 : Int32)) (h11 : ¬ (F 4) = 0 → ¬ (F 5) < (1 : Int32) → ¬ p1 < 0 → p1 < (F 2) → p2 < 0 → Q (some (.int (-1 : Int32))) (7, F, G, A, B)) (s13 : ¬ (F 4) = 0 → ¬ (F 5) < (1 : Int32) → ¬ p1 < 0 → p1 < (F 2) → ¬ p2 < 0 → p2 < ((F 3) / ((A 0) p1)) → ¬ (F 5) = (0 : Int32)) (h14 : ¬ (F 4) = 0 → ¬ (F 5) < (1 : Int32) → ¬ p1 < 0 → p1 < (F 2) → ¬ p2 < 0 → p2 < ((F 3) / ((A 0) p1)) → Wk l Z (MoC Z cdC) md_getSliceCount 69 [.val (.ref 0), .val (.int p1), .val (.int p2), .unset, .val (.int ((F 3) / (F 5))), .val (.int (0 : Int32)), .val (.int (0 : Int32)), .unset, .unset] [] (7, F, G, A, B) 0 0 Q) (h15 : ¬ (F 4) = 0 → ¬ (F 5) < (1 : Int32) → ¬ p1 < 0 → p1 < (F 2) → ¬ p2 < 0 → ¬ p2 < ((F 3) / ((A 0) p1)) → Q (some (.int (-1 : Int32))) (7, F, G, A, B)) (h16 : ¬ (F 4) = 0 → ¬ (F 5) < (1 : Int32) → ¬ p1 < 0 → ¬ p1 < (F 2) → Q (some (.int (-1 : Int32))) (7, F, G, A, B)) :
    Wk l Z (MoC Z cdC) md_getSliceCount 0 [.val (.ref 0), .val (.int p1), .val (.int p2), .unset, .unset, .unset, .unset, .unset, .unset] [] (7, F, G, A, B) 0 0 Q := by
  refine Wk.aloadN o_getSliceCount_0 rfl ?_
  refine Wk.getI (mI_present) (wf_present H) o_getSliceCount_1 (x := (F 4)) rfl ?_
  refine Wk.if_eq o_getSliceCount_4 (fun q1 => ?_) (fun q1 => ?_)
  · refine Wk.iconst o_getSliceCount_27 (z := (-1 : Int32)) (by decide) ?_
    exact Wk.ireturn mrC rfl o_getSliceCount_28 rfl (by decide) (by decide) (h2 q1)
  · refine Wk.aloadN o_getSliceCount_7 rfl ?_
    refine Wk.getI (mI_frame) (wf_frame H) o_getSliceCount_8 (x := (F 5)) rfl ?_
    refine Wk.iconst o_getSliceCount_11 (z := (1 : Int32)) (by decide) ?_
    refine Wk.icmp_lt o_getSliceCount_12 (fun q3 => ?_) (fun q3 => ?_)
    · refine Wk.iconst o_getSliceCount_27 (z := (-1 : Int32)) (by decide) ?_
      exact Wk.ireturn mrC rfl o_getSliceCount_28 rfl (by decide) (by decide) (h4 q1 q3)
    · refine Wk.iloadN o_getSliceCount_15 rfl ?_
      refine Wk.if_lt o_getSliceCount_16 (fun q5 => ?_) (fun q5 => ?_)
      · refine Wk.iconst o_getSliceCount_27 (z := (-1 : Int32)) (by decide) ?_
        exact Wk.ireturn mrC rfl o_getSliceCount_28 rfl (by decide) (by decide) (h6 q1 q3 q5)
      · refine Wk.iloadN o_getSliceCount_19 rfl ?_
        refine Wk.aloadN o_getSliceCount_20 rfl ?_
        refine Wk.getI (mI_count) (wf_count H) o_getSliceCount_21 (x := (F 2)) rfl ?_
        refine Wk.icmp_lt o_getSliceCount_24 (fun q7 => ?_) (fun q7 => ?_)
        · refine Wk.aloadN o_getSliceCount_29 rfl ?_
          refine Wk.getI (mI_hyper) (wf_hyper H) o_getSliceCount_30 (x := (F 3)) rfl ?_
          refine Wk.aloadN o_getSliceCount_33 rfl ?_
          refine Wk.getA (mA_per) (by decide) (i' := 1) rfl (wf_per H) o_getSliceCount_34 ?_
          refine Wk.iloadN o_getSliceCount_37 rfl ?_
          refine Wk.iaload (mA_per) (by decide) (i' := 1) rfl q5 (s8 q1 q3 q5 q7) o_getSliceCount_38 (y := ((A 0) p1)) rfl ?_
          refine Wk.idiv o_getSliceCount_39 (s9 q1 q3 q5 q7) ?_
          refine Wk.istoreN o_getSliceCount_40 (Or.inl rfl) (L' := [.val (.ref 0), .val (.int p1), .val (.int p2), .val (.int ((F 3) / ((A 0) p1))), .unset, .unset, .unset, .unset, .unset]) rfl ?_
          refine Wk.iloadN o_getSliceCount_41 rfl ?_
          refine Wk.if_lt o_getSliceCount_42 (fun q10 => ?_) (fun q10 => ?_)
          · refine Wk.iconst o_getSliceCount_50 (z := (-1 : Int32)) (by decide) ?_
            exact Wk.ireturn mrC rfl o_getSliceCount_51 rfl (by decide) (by decide) (h11 q1 q3 q5 q7 q10)
          · refine Wk.iloadN o_getSliceCount_45 rfl ?_
            refine Wk.iloadN o_getSliceCount_46 rfl ?_
            refine Wk.icmp_lt o_getSliceCount_47 (fun q12 => ?_) (fun q12 => ?_)
            · refine Wk.aloadN o_getSliceCount_52 rfl ?_
              refine Wk.getI (mI_hyper) (wf_hyper H) o_getSliceCount_53 (x := (F 3)) rfl ?_
              refine Wk.aloadN o_getSliceCount_56 rfl ?_
              refine Wk.getI (mI_frame) (wf_frame H) o_getSliceCount_57 (x := (F 5)) rfl ?_
              refine Wk.idiv o_getSliceCount_60 (s13 q1 q3 q5 q7 q10 q12) ?_
              refine Wk.istore o_getSliceCount_61 (Or.inl rfl) (L' := [.val (.ref 0), .val (.int p1), .val (.int p2), .val (.int ((F 3) / ((A 0) p1))), .val (.int ((F 3) / (F 5))), .unset, .unset, .unset, .unset]) rfl ?_
              refine Wk.iconst o_getSliceCount_63 (z := (0 : Int32)) (by decide) ?_
              refine Wk.istore o_getSliceCount_64 (Or.inl rfl) (L' := [.val (.ref 0), .val (.int p1), .val (.int p2), .val (.int ((F 3) / ((A 0) p1))), .val (.int ((F 3) / (F 5))), .val (.int (0 : Int32)), .unset, .unset, .unset]) rfl ?_
              refine Wk.iconst o_getSliceCount_66 (z := (0 : Int32)) (by decide) ?_
              refine Wk.istore o_getSliceCount_67 (Or.inl rfl) (L' := [.val (.ref 0), .val (.int p1), .val (.int p2), .val (.int ((F 3) / ((A 0) p1))), .val (.int ((F 3) / (F 5))), .val (.int (0 : Int32)), .val (.int (0 : Int32)), .unset, .unset]) rfl ?_
              refine Wk.forget [false, false, false, true, false, false, false, false, false] (L' := [.val (.ref 0), .val (.int p1), .val (.int p2), .unset, .val (.int ((F 3) / (F 5))), .val (.int (0 : Int32)), .val (.int (0 : Int32)), .unset, .unset]) rfl rfl ?_
              exact (h14 q1 q3 q5 q7 q10 q12)
            · refine Wk.iconst o_getSliceCount_50 (z := (-1 : Int32)) (by decide) ?_
              exact Wk.ireturn mrC rfl o_getSliceCount_51 rfl (by decide) (by decide) (h15 q1 q3 q5 q7 q10 q12)
        · refine Wk.iconst o_getSliceCount_27 (z := (-1 : Int32)) (by decide) ?_
          exact Wk.ireturn mrC rfl o_getSliceCount_28 rfl (by decide) (by decide) (h16 q1 q3 q5 q7)

set_option maxRecDepth 65536 in
set_option maxHeartbeats 4000000 in
theorem wp_getSliceCount_69 {l : Launch} {Z : State} {a0 : Array Value} (H : OK Z a0) (F : Nat → Int32) (G : Nat → Int64) (A : Nat → Int32 → Int32) (B : Nat → Int32 → Int64) (v1 : Int32) (v2 : Int32) (v4 : Int32) (v5 : Int32) (v6 : Int32) {Q : Option Value → WO → Prop} (h2 : ¬ v6 < v4 → Q (some (.int v5)) (7, F, G, A, B)) (h3 : v6 < v4 → Wk l Z (MoC Z cdC) md_getSliceCount 89 [.val (.ref 0), .val (.int v1), .val (.int v2), .unset, .val (.int v4), .val (.int v5), .val (.int v6), .val (.int (v6 * (F 5))), .val (.int (v6 * (F 5)))] [] (7, F, G, A, B) 0 0 Q) :
    Wk l Z (MoC Z cdC) md_getSliceCount 69 [.val (.ref 0), .val (.int v1), .val (.int v2), .unset, .val (.int v4), .val (.int v5), .val (.int v6), .unset, .unset] [] (7, F, G, A, B) 0 0 Q := by
  refine Wk.iload o_getSliceCount_69 rfl ?_
  refine Wk.iload o_getSliceCount_71 rfl ?_
  refine Wk.icmp_ge o_getSliceCount_73 (fun q1 => ?_) (fun q1 => ?_)
  · refine Wk.iload o_getSliceCount_149 rfl ?_
    exact Wk.ireturn mrC rfl o_getSliceCount_151 rfl (by decide) (by decide) (h2 q1)
  · refine Wk.iload o_getSliceCount_76 rfl ?_
    refine Wk.aloadN o_getSliceCount_78 rfl ?_
    refine Wk.getI (mI_frame) (wf_frame H) o_getSliceCount_79 (x := (F 5)) rfl ?_
    refine Wk.imul o_getSliceCount_82 ?_
    refine Wk.istore o_getSliceCount_83 (Or.inl rfl) (L' := [.val (.ref 0), .val (.int v1), .val (.int v2), .unset, .val (.int v4), .val (.int v5), .val (.int v6), .val (.int (v6 * (F 5))), .unset]) rfl ?_
    refine Wk.iload o_getSliceCount_85 rfl ?_
    refine Wk.istore o_getSliceCount_87 (Or.inl rfl) (L' := [.val (.ref 0), .val (.int v1), .val (.int v2), .unset, .val (.int v4), .val (.int v5), .val (.int v6), .val (.int (v6 * (F 5))), .val (.int (v6 * (F 5)))]) rfl ?_
    exact (h3 q1)

set_option maxRecDepth 65536 in
set_option maxHeartbeats 4000000 in
theorem wp_getSliceCount_89 {l : Launch} {Z : State} {a0 : Array Value} (H : OK Z a0) (F : Nat → Int32) (G : Nat → Int64) (A : Nat → Int32 → Int32) (B : Nat → Int32 → Int64) (v1 : Int32) (v2 : Int32) (v4 : Int32) (v5 : Int32) (v6 : Int32) (v7 : Int32) (v8 : Int32) {Q : Option Value → WO → Prop} (h2 : ¬ v8 < (v7 + (F 5)) → Wk l Z (MoC Z cdC) md_getSliceCount 69 [.val (.ref 0), .val (.int v1), .val (.int v2), .unset, .val (.int v4), .val (.int v5), .val (.int (v6 + (1 : Int32))), .unset, .unset] [] (7, F, G, A, B) 0 0 Q) (h4 : v8 < (v7 + (F 5)) → ¬ v8 < (128 : Int32) → Wk l Z (MoC Z cdC) md_getSliceCount 69 [.val (.ref 0), .val (.int v1), .val (.int v2), .unset, .val (.int v4), .val (.int v5), .val (.int (v6 + (1 : Int32))), .unset, .unset] [] (7, F, G, A, B) 0 0 Q) (s5 : v8 < (v7 + (F 5)) → v8 < (128 : Int32) → ¬ v8 < 0) (h7 : v8 < (v7 + (F 5)) → v8 < (128 : Int32) → ¬ ((A 4) v8) = v1 → Wk l Z (MoC Z cdC) md_getSliceCount 89 [.val (.ref 0), .val (.int v1), .val (.int v2), .unset, .val (.int v4), .val (.int v5), .val (.int v6), .val (.int v7), .val (.int (v8 + (1 : Int32)))] [] (7, F, G, A, B) 0 0 Q) (s8 : v8 < (v7 + (F 5)) → v8 < (128 : Int32) → ((A 4) v8) = v1 → ¬ v8 < 0) (h10 : v8 < (v7 + (F 5)) → v8 < (128 : Int32) → ((A 4) v8) = v1 → ¬ ((A 5) v8) = v2 → Wk l Z (MoC Z cdC) md_getSliceCount 89 [.val (.ref 0), .val (.int v1), .val (.int v2), .unset, .val (.int v4), .val (.int v5), .val (.int v6), .val (.int v7), .val (.int (v8 + (1 : Int32)))] [] (7, F, G, A, B) 0 0 Q) (h11 : v8 < (v7 + (F 5)) → v8 < (128 : Int32) → ((A 4) v8) = v1 → ((A 5) v8) = v2 → Wk l Z (MoC Z cdC) md_getSliceCount 69 [.val (.ref 0), .val (.int v1), .val (.int v2), .unset, .val (.int v4), .val (.int (v5 + (1 : Int32))), .val (.int (v6 + (1 : Int32))), .unset, .unset] [] (7, F, G, A, B) 0 0 Q) :
    Wk l Z (MoC Z cdC) md_getSliceCount 89 [.val (.ref 0), .val (.int v1), .val (.int v2), .unset, .val (.int v4), .val (.int v5), .val (.int v6), .val (.int v7), .val (.int v8)] [] (7, F, G, A, B) 0 0 Q := by
  refine Wk.iload o_getSliceCount_89 rfl ?_
  refine Wk.iload o_getSliceCount_91 rfl ?_
  refine Wk.aloadN o_getSliceCount_93 rfl ?_
  refine Wk.getI (mI_frame) (wf_frame H) o_getSliceCount_94 (x := (F 5)) rfl ?_
  refine Wk.iadd o_getSliceCount_97 ?_
  refine Wk.icmp_ge o_getSliceCount_98 (fun q1 => ?_) (fun q1 => ?_)
  · refine Wk.iinc o_getSliceCount_143 rfl (z := (v6 + (1 : Int32))) rfl (L' := [.val (.ref 0), .val (.int v1), .val (.int v2), .unset, .val (.int v4), .val (.int v5), .val (.int (v6 + (1 : Int32))), .val (.int v7), .val (.int v8)]) rfl ?_
    refine Wk.goto o_getSliceCount_146 ?_
    refine Wk.forget [false, false, false, false, false, false, false, true, true] (L' := [.val (.ref 0), .val (.int v1), .val (.int v2), .unset, .val (.int v4), .val (.int v5), .val (.int (v6 + (1 : Int32))), .unset, .unset]) rfl rfl ?_
    exact (h2 q1)
  · refine Wk.iload o_getSliceCount_101 rfl ?_
    refine Wk.sipush o_getSliceCount_103 (z := (128 : Int32)) (by decide) ?_
    refine Wk.icmp_ge o_getSliceCount_106 (fun q3 => ?_) (fun q3 => ?_)
    · refine Wk.iinc o_getSliceCount_143 rfl (z := (v6 + (1 : Int32))) rfl (L' := [.val (.ref 0), .val (.int v1), .val (.int v2), .unset, .val (.int v4), .val (.int v5), .val (.int (v6 + (1 : Int32))), .val (.int v7), .val (.int v8)]) rfl ?_
      refine Wk.goto o_getSliceCount_146 ?_
      refine Wk.forget [false, false, false, false, false, false, false, true, true] (L' := [.val (.ref 0), .val (.int v1), .val (.int v2), .unset, .val (.int v4), .val (.int v5), .val (.int (v6 + (1 : Int32))), .unset, .unset]) rfl rfl ?_
      exact (h4 q1 q3)
    · refine Wk.aloadN o_getSliceCount_109 rfl ?_
      refine Wk.getA (mA_tickTask) (by decide) (i' := 5) rfl (wf_tickTask H) o_getSliceCount_110 ?_
      refine Wk.iload o_getSliceCount_113 rfl ?_
      refine Wk.iaload (mA_tickTask) (by decide) (i' := 5) rfl (s5 q1 q3) q3 o_getSliceCount_115 (y := ((A 4) v8)) rfl ?_
      refine Wk.iloadN o_getSliceCount_116 rfl ?_
      refine Wk.icmp_ne o_getSliceCount_117 (fun q6 => ?_) (fun q6 => ?_)
      · refine Wk.iinc o_getSliceCount_137 rfl (z := (v8 + (1 : Int32))) rfl (L' := [.val (.ref 0), .val (.int v1), .val (.int v2), .unset, .val (.int v4), .val (.int v5), .val (.int v6), .val (.int v7), .val (.int (v8 + (1 : Int32)))]) rfl ?_
        refine Wk.goto o_getSliceCount_140 ?_
        exact (h7 q1 q3 q6)
      · refine Wk.aloadN o_getSliceCount_120 rfl ?_
        refine Wk.getA (mA_tickJob) (by decide) (i' := 6) rfl (wf_tickJob H) o_getSliceCount_121 ?_
        refine Wk.iload o_getSliceCount_124 rfl ?_
        refine Wk.iaload (mA_tickJob) (by decide) (i' := 6) rfl (s8 q1 q3 q6) q3 o_getSliceCount_126 (y := ((A 5) v8)) rfl ?_
        refine Wk.iloadN o_getSliceCount_127 rfl ?_
        refine Wk.icmp_ne o_getSliceCount_128 (fun q9 => ?_) (fun q9 => ?_)
        · refine Wk.iinc o_getSliceCount_137 rfl (z := (v8 + (1 : Int32))) rfl (L' := [.val (.ref 0), .val (.int v1), .val (.int v2), .unset, .val (.int v4), .val (.int v5), .val (.int v6), .val (.int v7), .val (.int (v8 + (1 : Int32)))]) rfl ?_
          refine Wk.goto o_getSliceCount_140 ?_
          exact (h10 q1 q3 q6 q9)
        · refine Wk.iinc o_getSliceCount_131 rfl (z := (v5 + (1 : Int32))) rfl (L' := [.val (.ref 0), .val (.int v1), .val (.int v2), .unset, .val (.int v4), .val (.int (v5 + (1 : Int32))), .val (.int v6), .val (.int v7), .val (.int v8)]) rfl ?_
          refine Wk.goto o_getSliceCount_134 ?_
          refine Wk.iinc o_getSliceCount_143 rfl (z := (v6 + (1 : Int32))) rfl (L' := [.val (.ref 0), .val (.int v1), .val (.int v2), .unset, .val (.int v4), .val (.int (v5 + (1 : Int32))), .val (.int (v6 + (1 : Int32))), .val (.int v7), .val (.int v8)]) rfl ?_
          refine Wk.goto o_getSliceCount_146 ?_
          refine Wk.forget [false, false, false, false, false, false, false, true, true] (L' := [.val (.ref 0), .val (.int v1), .val (.int v2), .unset, .val (.int v4), .val (.int (v5 + (1 : Int32))), .val (.int (v6 + (1 : Int32))), .unset, .unset]) rfl rfl ?_
          exact (h11 q1 q3 q6 q9)

theorem rt_getSliceCount (F : Nat → Int32) (G : Nat → Int64) (A : Nat → Int32 → Int32) (B : Nat → Int32 → Int64) (v0 : Int32) (r : Int32) (e : v0 = r) : some (Value.int v0) = some (.int r) ∧ (7, F, G, A, B) = (7, F, G, A, B) := by subst e; exact ⟨rfl, rfl⟩
def lp_getSliceCount : Nat → Nat → Int32 → Int32 → Int32 → Int32 → Int32 → Int32 → Int32 → (Nat → Int32) → (Nat → Int32 → Int32) → Option (Int32)
  | 0, _, _, _, _, _, _, _, _, _, _ => none
  | n + 1, tag, v1, v2, v4, v5, v6, v7, v8, F, A => if tag = 69 then (if v6 < v4 then lp_getSliceCount n 89 v1 v2 v4 v5 v6 (v6 * (F 5)) (v6 * (F 5)) F A else some (v5)) else if tag = 89 then (if v8 < (v7 + (F 5)) then (if v8 < (128 : Int32) then (if (¬ v8 < 0) then (if ((A 4) v8) = v1 then (if (¬ v8 < 0) then (if ((A 5) v8) = v2 then lp_getSliceCount n 69 v1 v2 v4 (v5 + (1 : Int32)) (v6 + (1 : Int32)) 0 0 F A else lp_getSliceCount n 89 v1 v2 v4 v5 v6 v7 (v8 + (1 : Int32)) F A) else none) else lp_getSliceCount n 89 v1 v2 v4 v5 v6 v7 (v8 + (1 : Int32)) F A) else none) else lp_getSliceCount n 69 v1 v2 v4 v5 (v6 + (1 : Int32)) 0 0 F A) else lp_getSliceCount n 69 v1 v2 v4 v5 (v6 + (1 : Int32)) 0 0 F A) else none
theorem lp_getSliceCount_z (tag : Nat) (v1 : Int32) (v2 : Int32) (v4 : Int32) (v5 : Int32) (v6 : Int32) (v7 : Int32) (v8 : Int32) (F : Nat → Int32) (A : Nat → Int32 → Int32) : lp_getSliceCount 0 tag v1 v2 v4 v5 v6 v7 v8 F A = none := Eq.trans rfl rfl
theorem lp_getSliceCount_69 (n : Nat) (v1 : Int32) (v2 : Int32) (v4 : Int32) (v5 : Int32) (v6 : Int32) (v7 : Int32) (v8 : Int32) (F : Nat → Int32) (A : Nat → Int32 → Int32) : lp_getSliceCount (n + 1) 69 v1 v2 v4 v5 v6 v7 v8 F A = (if v6 < v4 then lp_getSliceCount n 89 v1 v2 v4 v5 v6 (v6 * (F 5)) (v6 * (F 5)) F A else some (v5)) := by
  rw [lp_getSliceCount, if_pos rfl]
theorem lp_getSliceCount_89 (n : Nat) (v1 : Int32) (v2 : Int32) (v4 : Int32) (v5 : Int32) (v6 : Int32) (v7 : Int32) (v8 : Int32) (F : Nat → Int32) (A : Nat → Int32 → Int32) : lp_getSliceCount (n + 1) 89 v1 v2 v4 v5 v6 v7 v8 F A = (if v8 < (v7 + (F 5)) then (if v8 < (128 : Int32) then (if (¬ v8 < 0) then (if ((A 4) v8) = v1 then (if (¬ v8 < 0) then (if ((A 5) v8) = v2 then lp_getSliceCount n 69 v1 v2 v4 (v5 + (1 : Int32)) (v6 + (1 : Int32)) 0 0 F A else lp_getSliceCount n 89 v1 v2 v4 v5 v6 v7 (v8 + (1 : Int32)) F A) else none) else lp_getSliceCount n 89 v1 v2 v4 v5 v6 v7 (v8 + (1 : Int32)) F A) else none) else lp_getSliceCount n 69 v1 v2 v4 v5 (v6 + (1 : Int32)) 0 0 F A) else lp_getSliceCount n 69 v1 v2 v4 v5 (v6 + (1 : Int32)) 0 0 F A) := by
  rw [lp_getSliceCount, if_neg (by decide), if_pos rfl]
set_option maxRecDepth 65536 in
set_option maxHeartbeats 4000000 in
theorem lpw_getSliceCount {l : Launch} {Z : State} {a0 : Array Value} (H : OK Z a0) (F : Nat → Int32) (G : Nat → Int64) (A : Nat → Int32 → Int32) (B : Nat → Int32 → Int64) : ∀ (n : Nat) (v1 : Int32) (v2 : Int32) (v4 : Int32) (v5 : Int32) (v6 : Int32) (v7 : Int32) (v8 : Int32) (r : Int32), (lp_getSliceCount n 69 v1 v2 v4 v5 v6 v7 v8 F A = some r → Wk l Z (MoC Z cdC) md_getSliceCount 69 [.val (.ref 0), .val (.int v1), .val (.int v2), .unset, .val (.int v4), .val (.int v5), .val (.int v6), .unset, .unset] [] (7, F, G, A, B) 0 0 (fun v w' => v = some (.int r) ∧ w' = (7, F, G, A, B))) ∧ (lp_getSliceCount n 89 v1 v2 v4 v5 v6 v7 v8 F A = some r → Wk l Z (MoC Z cdC) md_getSliceCount 89 [.val (.ref 0), .val (.int v1), .val (.int v2), .unset, .val (.int v4), .val (.int v5), .val (.int v6), .val (.int v7), .val (.int v8)] [] (7, F, G, A, B) 0 0 (fun v w' => v = some (.int r) ∧ w' = (7, F, G, A, B))) := by
  intro n
  induction n with
  | zero =>
    intro v1 v2 v4 v5 v6 v7 v8  r
    exact ⟨(fun h => by rw [lp_getSliceCount_z] at h; cases h), (fun h => by rw [lp_getSliceCount_z] at h; cases h)⟩
  | succ n ih =>
    intro v1 v2 v4 v5 v6 v7 v8  r
    refine ⟨fun h => ?_, fun h => ?_⟩
    · rw [lp_getSliceCount_69] at h
      exact wp_getSliceCount_69 H F G A B v1 v2 v4 v5 v6 (fun q1 => (rt_getSliceCount _ _ _ _ _ r (Option.some.inj (ifn q1 h)))) (fun q1 => (ih _ _ _ _ _ _ _ _).2 (ifp q1 h))
    · rw [lp_getSliceCount_89] at h
      exact wp_getSliceCount_89 H F G A B v1 v2 v4 v5 v6 v7 v8 (fun q1 => (ih _ _ _ _ _ _ _ _).1 (ifn q1 h)) (fun q1 q3 => (ih _ _ _ _ _ _ _ _).1 (ifn q3 (ifp q1 h))) (fun q1 q3 => (gd (ifp q3 (ifp q1 h))).1) (fun q1 q3 q6 => (ih _ _ _ _ _ _ _ _).2 (ifn q6 (gd (ifp q3 (ifp q1 h))).2)) (fun q1 q3 q6 => (gd (ifp q6 (gd (ifp q3 (ifp q1 h))).2)).1) (fun q1 q3 q6 q9 => (ih _ _ _ _ _ _ _ _).2 (ifn q9 (gd (ifp q6 (gd (ifp q3 (ifp q1 h))).2)).2)) (fun q1 q3 q6 q9 => (ih _ _ _ _ _ _ _ _).1 (ifp q9 (gd (ifp q6 (gd (ifp q3 (ifp q1 h))).2)).2))
def en_getSliceCount (F : Nat → Int32) (A : Nat → Int32 → Int32) (p1 : Int32) (p2 : Int32) : Option (Int32) := (if (F 4) = 0 then some ((-1 : Int32)) else (if (F 5) < (1 : Int32) then some ((-1 : Int32)) else (if p1 < 0 then some ((-1 : Int32)) else (if p1 < (F 2) then (if (p1 < (8 : Int32)) ∧ (¬ ((A 0) p1) = (0 : Int32)) then (if p2 < 0 then some ((-1 : Int32)) else (if p2 < ((F 3) / ((A 0) p1)) then (if (¬ (F 5) = (0 : Int32)) then lp_getSliceCount 20000 69 p1 p2 ((F 3) / (F 5)) (0 : Int32) (0 : Int32) 0 0 F A else none) else some ((-1 : Int32)))) else none) else some ((-1 : Int32))))))
theorem een_getSliceCount (F : Nat → Int32) (A : Nat → Int32 → Int32) (p1 : Int32) (p2 : Int32) : en_getSliceCount F A p1 p2 = (if (F 4) = 0 then some ((-1 : Int32)) else (if (F 5) < (1 : Int32) then some ((-1 : Int32)) else (if p1 < 0 then some ((-1 : Int32)) else (if p1 < (F 2) then (if (p1 < (8 : Int32)) ∧ (¬ ((A 0) p1) = (0 : Int32)) then (if p2 < 0 then some ((-1 : Int32)) else (if p2 < ((F 3) / ((A 0) p1)) then (if (¬ (F 5) = (0 : Int32)) then lp_getSliceCount 20000 69 p1 p2 ((F 3) / (F 5)) (0 : Int32) (0 : Int32) 0 0 F A else none) else some ((-1 : Int32)))) else none) else some ((-1 : Int32)))))) := Eq.trans rfl rfl
def R_getSliceCount (F : Nat → Int32) (A : Nat → Int32 → Int32) (p1 : Int32) (p2 : Int32) : Int32 := (en_getSliceCount F A p1 p2).getD (0)
theorem eR_getSliceCount (F : Nat → Int32) (A : Nat → Int32 → Int32) (p1 : Int32) (p2 : Int32) : R_getSliceCount F A p1 p2 = (en_getSliceCount F A p1 p2).getD (0) := Eq.trans rfl rfl
set_option maxRecDepth 65536 in
set_option maxHeartbeats 4000000 in
theorem run_getSliceCount {l : Launch} {Z : State} {a0 : Array Value} (H : OK Z a0) (F : Nat → Int32) (G : Nat → Int64) (A : Nat → Int32 → Int32) (B : Nat → Int32 → Int64) (p1 : Int32) (p2 : Int32) (e1 : (en_getSliceCount F A p1 p2).isSome = true) :
    Wk l Z (MoC Z cdC) md_getSliceCount 0 [.val (.ref 0), .val (.int p1), .val (.int p2), .unset, .unset, .unset, .unset, .unset, .unset] [] (7, F, G, A, B) 0 0 (fun v w' => v = some (.int (R_getSliceCount F A p1 p2)) ∧ w' = (7, F, G, A, B)) := by
  obtain ⟨r, h⟩ := Option.isSome_iff_exists.mp e1
  have e : R_getSliceCount F A p1 p2 = r := (eR_getSliceCount F A p1 p2).trans (getD_some h)
  rw [e]
  rw [een_getSliceCount] at h
  exact wp_getSliceCount H F G A B p1 p2 (fun q1 => (rt_getSliceCount _ _ _ _ _ r (Option.some.inj (ifp q1 h)))) (fun q1 q3 => (rt_getSliceCount _ _ _ _ _ r (Option.some.inj (ifp q3 (ifn q1 h))))) (fun q1 q3 q5 => (rt_getSliceCount _ _ _ _ _ r (Option.some.inj (ifp q5 (ifn q3 (ifn q1 h)))))) (fun q1 q3 q5 q7 => (gd (ifp q7 (ifn q5 (ifn q3 (ifn q1 h))))).1.1) (fun q1 q3 q5 q7 => (gd (ifp q7 (ifn q5 (ifn q3 (ifn q1 h))))).1.2) (fun q1 q3 q5 q7 q10 => (rt_getSliceCount _ _ _ _ _ r (Option.some.inj (ifp q10 (gd (ifp q7 (ifn q5 (ifn q3 (ifn q1 h))))).2)))) (fun q1 q3 q5 q7 q10 q12 => (gd (ifp q12 (ifn q10 (gd (ifp q7 (ifn q5 (ifn q3 (ifn q1 h))))).2))).1) (fun q1 q3 q5 q7 q10 q12 => (lpw_getSliceCount H F G A B _ _ _ _ _ _ _ _ _).1 (gd (ifp q12 (ifn q10 (gd (ifp q7 (ifn q5 (ifn q3 (ifn q1 h))))).2))).2) (fun q1 q3 q5 q7 q10 q12 => (rt_getSliceCount _ _ _ _ _ r (Option.some.inj (ifn q12 (ifn q10 (gd (ifp q7 (ifn q5 (ifn q3 (ifn q1 h))))).2))))) (fun q1 q3 q5 q7 => (rt_getSliceCount _ _ _ _ _ r (Option.some.inj (ifn q7 (ifn q5 (ifn q3 (ifn q1 h)))))))
set_option maxRecDepth 65536 in
set_option maxHeartbeats 4000000 in
theorem wp_L_gcd {l : Launch} {Z : State} {a0 : Array Value} (H : OK Z a0) (sl : Int32) (sv : Int32 → Int32) (F1 : Nat → Int32) (G1 : Nat → Int64) (A1 : Nat → Int32 → Int32) (B1 : Nat → Int32 → Int64) (p1 : Int32) (p2 : Int32) {Q : Option Value → WL → Prop} (h1 : Wk l Z (MoL Z cdC "CyclicExecutiveOwnLaw" true) md_L_gcd 2 [.val (.int p1), .val (.int p2), .val (.int (0 : Int32)), .unset] [] (sl, sv, [(7, F1, G1, A1, B1)]) 0 0 Q) :
    Wk l Z (MoL Z cdC "CyclicExecutiveOwnLaw" true) md_L_gcd 0 [.val (.int p1), .val (.int p2), .unset, .unset] [] (sl, sv, [(7, F1, G1, A1, B1)]) 0 0 Q := by
  refine Wk.iconst o_L_gcd_0 (z := (0 : Int32)) (by decide) ?_
  refine Wk.istoreN o_L_gcd_1 (Or.inl rfl) (L' := [.val (.int p1), .val (.int p2), .val (.int (0 : Int32)), .unset]) rfl ?_
  exact h1

set_option maxRecDepth 65536 in
set_option maxHeartbeats 4000000 in
theorem wp_L_gcd_2 {l : Launch} {Z : State} {a0 : Array Value} (H : OK Z a0) (sl : Int32) (sv : Int32 → Int32) (F1 : Nat → Int32) (G1 : Nat → Int64) (A1 : Nat → Int32 → Int32) (B1 : Nat → Int32 → Int64) (v0 : Int32) (v1 : Int32) (v2 : Int32) {Q : Option Value → WL → Prop} (h2 : ¬ v2 < (64 : Int32) → Q (some (.int v0)) (sl, sv, [(7, F1, G1, A1, B1)])) (h4 : v2 < (64 : Int32) → v1 = 0 → Q (some (.int v0)) (sl, sv, [(7, F1, G1, A1, B1)])) (s5 : v2 < (64 : Int32) → ¬ v1 = 0 → ¬ v1 = (0 : Int32)) (h6 : v2 < (64 : Int32) → ¬ v1 = 0 → Wk l Z (MoL Z cdC "CyclicExecutiveOwnLaw" true) md_L_gcd 2 [.val (.int v1), .val (.int (v0 % v1)), .val (.int (v2 + (1 : Int32))), .unset] [] (sl, sv, [(7, F1, G1, A1, B1)]) 0 0 Q) :
    Wk l Z (MoL Z cdC "CyclicExecutiveOwnLaw" true) md_L_gcd 2 [.val (.int v0), .val (.int v1), .val (.int v2), .unset] [] (sl, sv, [(7, F1, G1, A1, B1)]) 0 0 Q := by
  refine Wk.iloadN o_L_gcd_2 rfl ?_
  refine Wk.bipush o_L_gcd_3 (z := (64 : Int32)) (by decide) ?_
  refine Wk.icmp_ge o_L_gcd_5 (fun q1 => ?_) (fun q1 => ?_)
  · refine Wk.iloadN o_L_gcd_26 rfl ?_
    exact Wk.ireturn mrL rfl o_L_gcd_27 rfl (by decide) (by decide) (h2 q1)
  · refine Wk.iloadN o_L_gcd_8 rfl ?_
    refine Wk.if_eq o_L_gcd_9 (fun q3 => ?_) (fun q3 => ?_)
    · refine Wk.iloadN o_L_gcd_26 rfl ?_
      exact Wk.ireturn mrL rfl o_L_gcd_27 rfl (by decide) (by decide) (h4 q1 q3)
    · refine Wk.iloadN o_L_gcd_12 rfl ?_
      refine Wk.iloadN o_L_gcd_13 rfl ?_
      refine Wk.irem o_L_gcd_14 (s5 q1 q3) ?_
      refine Wk.istoreN o_L_gcd_15 (Or.inl rfl) (L' := [.val (.int v0), .val (.int v1), .val (.int v2), .val (.int (v0 % v1))]) rfl ?_
      refine Wk.iloadN o_L_gcd_16 rfl ?_
      refine Wk.istoreN o_L_gcd_17 (Or.inr ⟨_, rfl, rfl⟩) (L' := [.val (.int v1), .val (.int v1), .val (.int v2), .val (.int (v0 % v1))]) rfl ?_
      refine Wk.iloadN o_L_gcd_18 rfl ?_
      refine Wk.istoreN o_L_gcd_19 (Or.inr ⟨_, rfl, rfl⟩) (L' := [.val (.int v1), .val (.int (v0 % v1)), .val (.int v2), .val (.int (v0 % v1))]) rfl ?_
      refine Wk.iinc o_L_gcd_20 rfl (z := (v2 + (1 : Int32))) rfl (L' := [.val (.int v1), .val (.int (v0 % v1)), .val (.int (v2 + (1 : Int32))), .val (.int (v0 % v1))]) rfl ?_
      refine Wk.goto o_L_gcd_23 ?_
      refine Wk.forget [false, false, false, true] (L' := [.val (.int v1), .val (.int (v0 % v1)), .val (.int (v2 + (1 : Int32))), .unset]) rfl rfl ?_
      exact (h6 q1 q3)

theorem rt_L_gcd (sl : Int32) (sv : Int32 → Int32) (F1 : Nat → Int32) (G1 : Nat → Int64) (A1 : Nat → Int32 → Int32) (B1 : Nat → Int32 → Int64) (v0 : Int32) (r : Int32) (e : v0 = r) : some (Value.int v0) = some (Value.int r) ∧ (sl, sv, [(7, F1, G1, A1, B1)]) = (sl, sv, [(7, F1, G1, A1, B1)]) := by subst e; exact ⟨rfl, rfl⟩
def lp_L_gcd : Nat → Nat → Int32 → Int32 → Int32 → Option (Int32)
  | 0, _, _, _, _ => none
  | n + 1, tag, v0, v1, v2 => if tag = 2 then (if v2 < (64 : Int32) then (if v1 = 0 then some (v0) else (if (¬ v1 = (0 : Int32)) then lp_L_gcd n 2 v1 (v0 % v1) (v2 + (1 : Int32)) else none)) else some (v0)) else none
theorem lp_L_gcd_z (tag : Nat) (v0 : Int32) (v1 : Int32) (v2 : Int32) : lp_L_gcd 0 tag  v0 v1 v2  = none := Eq.trans rfl rfl
theorem lp_L_gcd_2 (n : Nat) (v0 : Int32) (v1 : Int32) (v2 : Int32) : lp_L_gcd (n + 1) 2  v0 v1 v2  = (if v2 < (64 : Int32) then (if v1 = 0 then some (v0) else (if (¬ v1 = (0 : Int32)) then lp_L_gcd n 2 v1 (v0 % v1) (v2 + (1 : Int32)) else none)) else some (v0)) := by
  rw [lp_L_gcd, if_pos rfl]
set_option maxRecDepth 65536 in
set_option maxHeartbeats 4000000 in
theorem lpw_L_gcd {l : Launch} {Z : State} {a0 : Array Value} (H : OK Z a0) (sl : Int32) (sv : Int32 → Int32) (F1 : Nat → Int32) (G1 : Nat → Int64) (A1 : Nat → Int32 → Int32) (B1 : Nat → Int32 → Int64) : ∀ (n : Nat) (v0 : Int32) (v1 : Int32) (v2 : Int32) (r : Int32), (lp_L_gcd n 2  v0 v1 v2  = some r → Wk l Z (MoL Z cdC "CyclicExecutiveOwnLaw" true) md_L_gcd 2 [.val (.int v0), .val (.int v1), .val (.int v2), .unset] [] (sl, sv, [(7, F1, G1, A1, B1)]) 0 0 (fun v w' => v = some (.int r) ∧ w' = (sl, sv, [(7, F1, G1, A1, B1)]))) := by
  intro n
  induction n with
  | zero =>
    intro v0 v1 v2  r
    exact (fun h => by rw [lp_L_gcd_z] at h; cases h)
  | succ n ih =>
    intro v0 v1 v2  r
    refine fun h => ?_
    · rw [lp_L_gcd_2] at h
      exact wp_L_gcd_2 H sl sv F1 G1 A1 B1 v0 v1 v2 (fun q1 => (rt_L_gcd _ _ _ _ _ _ _ r (Option.some.inj (ifn q1 h)))) (fun q1 q3 => (rt_L_gcd _ _ _ _ _ _ _ r (Option.some.inj (ifp q3 (ifp q1 h))))) (fun q1 q3 => (gd (ifn q3 (ifp q1 h))).1) (fun q1 q3 => (ih _ _ _ _) (gd (ifn q3 (ifp q1 h))).2)
def en_L_gcd (p1 : Int32) (p2 : Int32) : Option (Int32) := lp_L_gcd 1000 2 p1 p2 (0 : Int32)
theorem een_L_gcd (p1 : Int32) (p2 : Int32) : en_L_gcd   p1 p2 = lp_L_gcd 1000 2 p1 p2 (0 : Int32) := Eq.trans rfl rfl
def R_L_gcd (p1 : Int32) (p2 : Int32) : Int32 := (en_L_gcd   p1 p2).getD (0)
theorem eR_L_gcd (p1 : Int32) (p2 : Int32) : R_L_gcd   p1 p2 = (en_L_gcd   p1 p2).getD (0) := Eq.trans rfl rfl
set_option maxRecDepth 65536 in
set_option maxHeartbeats 4000000 in
theorem run_L_gcd {l : Launch} {Z : State} {a0 : Array Value} (H : OK Z a0) (sl : Int32) (sv : Int32 → Int32) (F1 : Nat → Int32) (G1 : Nat → Int64) (A1 : Nat → Int32 → Int32) (B1 : Nat → Int32 → Int64) (p1 : Int32) (p2 : Int32) (e1 : (en_L_gcd   p1 p2).isSome = true) :
    Wk l Z (MoL Z cdC "CyclicExecutiveOwnLaw" true) md_L_gcd 0 [.val (.int p1), .val (.int p2), .unset, .unset] [] (sl, sv, [(7, F1, G1, A1, B1)]) 0 0 (fun v w' => v = some (.int (R_L_gcd   p1 p2)) ∧ w' = (sl, sv, [(7, F1, G1, A1, B1)])) := by
  obtain ⟨r, h⟩ := Option.isSome_iff_exists.mp e1
  have e : R_L_gcd   p1 p2 = r := (eR_L_gcd   p1 p2).trans (getD_some h)
  rw [e]
  rw [een_L_gcd] at h
  exact wp_L_gcd H sl sv F1 G1 A1 B1 p1 p2 ((lpw_L_gcd H sl sv _ _ _ _ _ _ _ _ _) h)
set_option maxRecDepth 65536 in
set_option maxHeartbeats 4000000 in
theorem wp_L_law {l : Launch} {Z : State} {a0 : Array Value} (H : OK Z a0) (sl : Int32) (sv : Int32 → Int32) {Q : Option Value → WL → Prop} (h1 : Wk l Z (MoL Z cdC "CyclicExecutiveOwnLaw" true) md_L_law 13 [.val (.ref 0), .val (.ref 1), .unset, .unset, .unset, .unset, .unset, .unset, .unset, .unset, .unset, .unset, .unset, .unset, .unset, .unset, .unset, .unset, .unset] [] (sl, sv, [(7, (F_init (8 : Int32) (128 : Int32)), (fun _ => 0), (fun _ _ => 0), (fun _ _ => 0))]) 8 1328 Q) :
    Wk l Z (MoL Z cdC "CyclicExecutiveOwnLaw" true) md_L_law 0 [.val (.ref 0), .unset, .unset, .unset, .unset, .unset, .unset, .unset, .unset, .unset, .unset, .unset, .unset, .unset, .unset, .unset, .unset, .unset, .unset] [] (sl, sv, []) 0 0 Q := by
  refine Wk.newL (coC H) (kk := 16) (H.w 0 rfl) (H.w 1 rfl) (wz_C H) o_L_law_0 trivial (i' := 1) rfl (ws' := [(0, (fun _ => 0), (fun _ => 0), (fun _ _ => 0), (fun _ _ => 0))]) rfl (cu' := 1) rfl (su' := 16) rfl (by decide) (by decide) ?_
  refine Wk.dup o_L_law_3 rfl ?_
  refine Wk.bipush o_L_law_4 (z := (8 : Int32)) (by decide) ?_
  refine Wk.sipush o_L_law_6 (z := (128 : Int32)) (by decide) ?_
  refine Wk.ctorLU (coC H) [.int (8 : Int32), .int (128 : Int32)] 0 [.ref 1] (i' := 1) (H.w 3 rfl) (cv_init H) o_L_law_9 (run_init H (8 : Int32) (128 : Int32)) (wt := 1) (cu' := 8) (su' := 1328) (by decide) trivial rfl rfl rfl rfl rfl rfl rfl rfl rfl rfl (ws' := [(7, (F_init (8 : Int32) (128 : Int32)), (fun _ => 0), (fun _ _ => 0), (fun _ _ => 0))]) rfl ?_
  refine Wk.astoreN o_L_law_12 (Or.inl rfl) (L' := [.val (.ref 0), .val (.ref 1), .unset, .unset, .unset, .unset, .unset, .unset, .unset, .unset, .unset, .unset, .unset, .unset, .unset, .unset, .unset, .unset, .unset]) rfl ?_
  exact h1

set_option maxRecDepth 65536 in
set_option maxHeartbeats 4000000 in
theorem wp_L_law_13 {l : Launch} {Z : State} {a0 : Array Value} (H : OK Z a0) (sl : Int32) (sv : Int32 → Int32) (F1 : Nat → Int32) (G1 : Nat → Int64) (A1 : Nat → Int32 → Int32) (B1 : Nat → Int32 → Int64) {Q : Option Value → WL → Prop} (s1 : (0 : Int32) < sl → ¬ (0 : Int32) < 0) (h2 : Wk l Z (MoL Z cdC "CyclicExecutiveOwnLaw" true) md_L_law 32 [.val (.ref 0), .val (.ref 1), .val (.int ((1 : Int32) + (((f_L_cell sl sv (0 : Int32)) &&& (32767 : Int32)) % (4 : Int32)))), .val (.int (1 : Int32)), .val (.int (0 : Int32)), .unset, .unset, .unset, .unset, .unset, .unset, .unset, .unset, .unset, .unset, .unset, .unset, .unset, .unset] [] (sl, sv, [(7, F1, G1, A1, B1)]) 8 1328 Q) :
    Wk l Z (MoL Z cdC "CyclicExecutiveOwnLaw" true) md_L_law 13 [.val (.ref 0), .val (.ref 1), .unset, .unset, .unset, .unset, .unset, .unset, .unset, .unset, .unset, .unset, .unset, .unset, .unset, .unset, .unset, .unset, .unset] [] (sl, sv, [(7, F1, G1, A1, B1)]) 8 1328 Q := by
  refine Wk.iconst o_L_law_13 (z := (1 : Int32)) (by decide) ?_
  refine Wk.aloadN o_L_law_14 rfl ?_
  refine Wk.iconst o_L_law_15 (z := (0 : Int32)) (by decide) ?_
  refine Wk.callSF mtL [.ref 0, .int (0 : Int32)] [.int (1 : Int32)] (H.w 46 rfl) (cv_L_cell H) o_L_law_16 (run_L_cell H sl sv [(7, F1, G1, A1, B1)] (0 : Int32) s1) (wt := 1) (cu' := 8) (su' := 1328) (by decide) rfl rfl rfl rfl rfl rfl ?_
  refine Wk.sipush o_L_law_19 (z := (32767 : Int32)) (by decide) ?_
  refine Wk.iand o_L_law_22 ?_
  refine Wk.iconst o_L_law_23 (z := (4 : Int32)) (by decide) ?_
  refine Wk.irem o_L_law_24 (by decide) ?_
  refine Wk.iadd o_L_law_25 ?_
  refine Wk.istoreN o_L_law_26 (Or.inl rfl) (L' := [.val (.ref 0), .val (.ref 1), .val (.int ((1 : Int32) + (((f_L_cell sl sv (0 : Int32)) &&& (32767 : Int32)) % (4 : Int32)))), .unset, .unset, .unset, .unset, .unset, .unset, .unset, .unset, .unset, .unset, .unset, .unset, .unset, .unset, .unset, .unset]) rfl ?_
  refine Wk.iconst o_L_law_27 (z := (1 : Int32)) (by decide) ?_
  refine Wk.istoreN o_L_law_28 (Or.inl rfl) (L' := [.val (.ref 0), .val (.ref 1), .val (.int ((1 : Int32) + (((f_L_cell sl sv (0 : Int32)) &&& (32767 : Int32)) % (4 : Int32)))), .val (.int (1 : Int32)), .unset, .unset, .unset, .unset, .unset, .unset, .unset, .unset, .unset, .unset, .unset, .unset, .unset, .unset, .unset]) rfl ?_
  refine Wk.iconst o_L_law_29 (z := (0 : Int32)) (by decide) ?_
  refine Wk.istore o_L_law_30 (Or.inl rfl) (L' := [.val (.ref 0), .val (.ref 1), .val (.int ((1 : Int32) + (((f_L_cell sl sv (0 : Int32)) &&& (32767 : Int32)) % (4 : Int32)))), .val (.int (1 : Int32)), .val (.int (0 : Int32)), .unset, .unset, .unset, .unset, .unset, .unset, .unset, .unset, .unset, .unset, .unset, .unset, .unset, .unset]) rfl ?_
  exact h2

set_option maxRecDepth 65536 in
set_option maxHeartbeats 4000000 in
theorem wp_L_law_32 {l : Launch} {Z : State} {a0 : Array Value} (H : OK Z a0) (sl : Int32) (sv : Int32 → Int32) (F1 : Nat → Int32) (G1 : Nat → Int64) (A1 : Nat → Int32 → Int32) (B1 : Nat → Int32 → Int64) (v2 : Int32) (v3 : Int32) (v4 : Int32) {Q : Option Value → WL → Prop} (h3 : ¬ v4 < v2 → (f_getHyperperiod F1) = v3 → Wk l Z (MoL Z cdC "CyclicExecutiveOwnLaw" true) md_L_law 136 [.val (.ref 0), .val (.ref 1), .val (.int v2), .val (.int v3), .val (.int (0 : Int32)), .unset, .unset, .unset, .unset, .unset, .unset, .unset, .unset, .unset, .unset, .unset, .unset, .unset, .unset] [] (sl, sv, [(7, F1, G1, A1, B1)]) 8 1328 Q) (h4 : ¬ v4 < v2 → ¬ (f_getHyperperiod F1) = v3 → Q (some (.int (0 : Int32))) (sl, sv, [(7, F1, G1, A1, B1)])) (s5 : v4 < v2 → ((1 : Int32) + ((3 : Int32) * v4)) < sl → ¬ ((1 : Int32) + ((3 : Int32) * v4)) < 0) (s6 : v4 < v2 → ((2 : Int32) + ((3 : Int32) * v4)) < sl → ¬ ((2 : Int32) + ((3 : Int32) * v4)) < 0) (s7 : v4 < v2 → ¬ (((f_L_period (f_L_cell sl sv ((1 : Int32) + ((3 : Int32) * v4)))) + (1 : Int32)) / (2 : Int32)) = (0 : Int32)) (s8 : v4 < v2 → ((3 : Int32) + ((3 : Int32) * v4)) < sl → ¬ ((3 : Int32) + ((3 : Int32) * v4)) < 0) (s9 : v4 < v2 → ¬ v2 = (0 : Int32)) (s10 : v4 < v2 → ¬ (if ((f_L_deadline (f_L_period (f_L_cell sl sv ((1 : Int32) + ((3 : Int32) * v4)))) (f_L_cell sl sv ((2 : Int32) + ((3 : Int32) * v4)))) / v2) < (1 : Int32) then (1 : Int32) else ((f_L_deadline (f_L_period (f_L_cell sl sv ((1 : Int32) + ((3 : Int32) * v4)))) (f_L_cell sl sv ((2 : Int32) + ((3 : Int32) * v4)))) / v2)) = (0 : Int32)) (s11 : v4 < v2 → (en_addTask F1 A1 (f_L_period (f_L_cell sl sv ((1 : Int32) + ((3 : Int32) * v4)))) (f_L_wcet (f_L_deadline (f_L_period (f_L_cell sl sv ((1 : Int32) + ((3 : Int32) * v4)))) (f_L_cell sl sv ((2 : Int32) + ((3 : Int32) * v4)))) v2 (f_L_cell sl sv ((3 : Int32) + ((3 : Int32) * v4)))) (f_L_deadline (f_L_period (f_L_cell sl sv ((1 : Int32) + ((3 : Int32) * v4)))) (f_L_cell sl sv ((2 : Int32) + ((3 : Int32) * v4))))).isSome = true) (h13 : v4 < v2 → (R_addTask F1 A1 (f_L_period (f_L_cell sl sv ((1 : Int32) + ((3 : Int32) * v4)))) (f_L_wcet (f_L_deadline (f_L_period (f_L_cell sl sv ((1 : Int32) + ((3 : Int32) * v4)))) (f_L_cell sl sv ((2 : Int32) + ((3 : Int32) * v4)))) v2 (f_L_cell sl sv ((3 : Int32) + ((3 : Int32) * v4)))) (f_L_deadline (f_L_period (f_L_cell sl sv ((1 : Int32) + ((3 : Int32) * v4)))) (f_L_cell sl sv ((2 : Int32) + ((3 : Int32) * v4))))).1 = v4 → Wk l Z (MoL Z cdC "CyclicExecutiveOwnLaw" true) md_L_law 105 [.val (.ref 0), .val (.ref 1), .val (.int v2), .val (.int v3), .val (.int v4), .val (.int (f_L_period (f_L_cell sl sv ((1 : Int32) + ((3 : Int32) * v4))))), .unset, .unset, .unset, .unset, .unset, .unset, .unset, .unset, .unset, .unset, .unset, .unset, .unset] [] (sl, sv, [(7, (R_addTask F1 A1 (f_L_period (f_L_cell sl sv ((1 : Int32) + ((3 : Int32) * v4)))) (f_L_wcet (f_L_deadline (f_L_period (f_L_cell sl sv ((1 : Int32) + ((3 : Int32) * v4)))) (f_L_cell sl sv ((2 : Int32) + ((3 : Int32) * v4)))) v2 (f_L_cell sl sv ((3 : Int32) + ((3 : Int32) * v4)))) (f_L_deadline (f_L_period (f_L_cell sl sv ((1 : Int32) + ((3 : Int32) * v4)))) (f_L_cell sl sv ((2 : Int32) + ((3 : Int32) * v4))))).2.1, G1, (R_addTask F1 A1 (f_L_period (f_L_cell sl sv ((1 : Int32) + ((3 : Int32) * v4)))) (f_L_wcet (f_L_deadline (f_L_period (f_L_cell sl sv ((1 : Int32) + ((3 : Int32) * v4)))) (f_L_cell sl sv ((2 : Int32) + ((3 : Int32) * v4)))) v2 (f_L_cell sl sv ((3 : Int32) + ((3 : Int32) * v4)))) (f_L_deadline (f_L_period (f_L_cell sl sv ((1 : Int32) + ((3 : Int32) * v4)))) (f_L_cell sl sv ((2 : Int32) + ((3 : Int32) * v4))))).2.2, B1)]) 8 1328 Q) (h14 : v4 < v2 → ¬ (R_addTask F1 A1 (f_L_period (f_L_cell sl sv ((1 : Int32) + ((3 : Int32) * v4)))) (f_L_wcet (f_L_deadline (f_L_period (f_L_cell sl sv ((1 : Int32) + ((3 : Int32) * v4)))) (f_L_cell sl sv ((2 : Int32) + ((3 : Int32) * v4)))) v2 (f_L_cell sl sv ((3 : Int32) + ((3 : Int32) * v4)))) (f_L_deadline (f_L_period (f_L_cell sl sv ((1 : Int32) + ((3 : Int32) * v4)))) (f_L_cell sl sv ((2 : Int32) + ((3 : Int32) * v4))))).1 = v4 → Q (some (.int (0 : Int32))) (sl, sv, [(7, (R_addTask F1 A1 (f_L_period (f_L_cell sl sv ((1 : Int32) + ((3 : Int32) * v4)))) (f_L_wcet (f_L_deadline (f_L_period (f_L_cell sl sv ((1 : Int32) + ((3 : Int32) * v4)))) (f_L_cell sl sv ((2 : Int32) + ((3 : Int32) * v4)))) v2 (f_L_cell sl sv ((3 : Int32) + ((3 : Int32) * v4)))) (f_L_deadline (f_L_period (f_L_cell sl sv ((1 : Int32) + ((3 : Int32) * v4)))) (f_L_cell sl sv ((2 : Int32) + ((3 : Int32) * v4))))).2.1, G1, (R_addTask F1 A1 (f_L_period (f_L_cell sl sv ((1 : Int32) + ((3 : Int32) * v4)))) (f_L_wcet (f_L_deadline (f_L_period (f_L_cell sl sv ((1 : Int32) + ((3 : Int32) * v4)))) (f_L_cell sl sv ((2 : Int32) + ((3 : Int32) * v4)))) v2 (f_L_cell sl sv ((3 : Int32) + ((3 : Int32) * v4)))) (f_L_deadline (f_L_period (f_L_cell sl sv ((1 : Int32) + ((3 : Int32) * v4)))) (f_L_cell sl sv ((2 : Int32) + ((3 : Int32) * v4))))).2.2, B1)])) :
    Wk l Z (MoL Z cdC "CyclicExecutiveOwnLaw" true) md_L_law 32 [.val (.ref 0), .val (.ref 1), .val (.int v2), .val (.int v3), .val (.int v4), .unset, .unset, .unset, .unset, .unset, .unset, .unset, .unset, .unset, .unset, .unset, .unset, .unset, .unset] [] (sl, sv, [(7, F1, G1, A1, B1)]) 8 1328 Q := by
  refine Wk.iload o_L_law_32 rfl ?_
  refine Wk.iloadN o_L_law_34 rfl ?_
  refine Wk.icmp_ge o_L_law_35 (fun q1 => ?_) (fun q1 => ?_)
  · refine Wk.aloadN o_L_law_123 rfl ?_
    refine Wk.callLF (coC H) [] 0 [] (i' := 1) (H.w 79 rfl) (cv_getHyperperiod H) o_L_law_124 (run_getHyperperiod H F1 G1 A1 B1) (wt := 0) (cu' := 8) (su' := 1328) (by decide) trivial rfl rfl rfl rfl rfl rfl rfl rfl rfl rfl (ws' := [(7, F1, G1, A1, B1)]) rfl ?_
    refine Wk.iloadN o_L_law_127 rfl ?_
    refine Wk.icmp_eq o_L_law_128 (fun q2 => ?_) (fun q2 => ?_)
    · refine Wk.iconst o_L_law_133 (z := (0 : Int32)) (by decide) ?_
      refine Wk.istore o_L_law_134 (Or.inr ⟨_, rfl, rfl⟩) (L' := [.val (.ref 0), .val (.ref 1), .val (.int v2), .val (.int v3), .val (.int (0 : Int32)), .unset, .unset, .unset, .unset, .unset, .unset, .unset, .unset, .unset, .unset, .unset, .unset, .unset, .unset]) rfl ?_
      exact (h3 q1 q2)
    · refine Wk.iconst o_L_law_131 (z := (0 : Int32)) (by decide) ?_
      exact Wk.zreturn mrL rfl o_L_law_132 rfl (by decide) (by decide) (y := (0 : Int32)) (by decide) (h4 q1 q2)
  · refine Wk.aloadN o_L_law_38 rfl ?_
    refine Wk.iconst o_L_law_39 (z := (1 : Int32)) (by decide) ?_
    refine Wk.iconst o_L_law_40 (z := (3 : Int32)) (by decide) ?_
    refine Wk.iload o_L_law_41 rfl ?_
    refine Wk.imul o_L_law_43 ?_
    refine Wk.iadd o_L_law_44 ?_
    refine Wk.callSF mtL [.ref 0, .int ((1 : Int32) + ((3 : Int32) * v4))] [] (H.w 46 rfl) (cv_L_cell H) o_L_law_45 (run_L_cell H sl sv [(7, F1, G1, A1, B1)] ((1 : Int32) + ((3 : Int32) * v4)) (s5 q1)) (wt := 0) (cu' := 8) (su' := 1328) (by decide) rfl rfl rfl rfl rfl rfl ?_
    refine Wk.callSF mtL [.int (f_L_cell sl sv ((1 : Int32) + ((3 : Int32) * v4)))] [] (H.w 50 rfl) (cv_L_period H) o_L_law_48 (run_L_period H sl sv [(7, F1, G1, A1, B1)] (f_L_cell sl sv ((1 : Int32) + ((3 : Int32) * v4)))) (wt := 0) (cu' := 8) (su' := 1328) (by decide) rfl rfl rfl rfl rfl rfl ?_
    refine Wk.istore o_L_law_51 (Or.inl rfl) (L' := [.val (.ref 0), .val (.ref 1), .val (.int v2), .val (.int v3), .val (.int v4), .val (.int (f_L_period (f_L_cell sl sv ((1 : Int32) + ((3 : Int32) * v4))))), .unset, .unset, .unset, .unset, .unset, .unset, .unset, .unset, .unset, .unset, .unset, .unset, .unset]) rfl ?_
    refine Wk.iload o_L_law_53 rfl ?_
    refine Wk.aloadN o_L_law_55 rfl ?_
    refine Wk.iconst o_L_law_56 (z := (2 : Int32)) (by decide) ?_
    refine Wk.iconst o_L_law_57 (z := (3 : Int32)) (by decide) ?_
    refine Wk.iload o_L_law_58 rfl ?_
    refine Wk.imul o_L_law_60 ?_
    refine Wk.iadd o_L_law_61 ?_
    refine Wk.callSF mtL [.ref 0, .int ((2 : Int32) + ((3 : Int32) * v4))] [.int (f_L_period (f_L_cell sl sv ((1 : Int32) + ((3 : Int32) * v4))))] (H.w 46 rfl) (cv_L_cell H) o_L_law_62 (run_L_cell H sl sv [(7, F1, G1, A1, B1)] ((2 : Int32) + ((3 : Int32) * v4)) (s6 q1)) (wt := 1) (cu' := 8) (su' := 1328) (by decide) rfl rfl rfl rfl rfl rfl ?_
    refine Wk.callSF mtL [.int (f_L_period (f_L_cell sl sv ((1 : Int32) + ((3 : Int32) * v4)))), .int (f_L_cell sl sv ((2 : Int32) + ((3 : Int32) * v4)))] [] (H.w 53 rfl) (cv_L_deadline H) o_L_law_65 (run_L_deadline H sl sv [(7, F1, G1, A1, B1)] (f_L_period (f_L_cell sl sv ((1 : Int32) + ((3 : Int32) * v4)))) (f_L_cell sl sv ((2 : Int32) + ((3 : Int32) * v4))) (s7 q1)) (wt := 0) (cu' := 8) (su' := 1328) (by decide) rfl rfl rfl rfl rfl rfl ?_
    refine Wk.istore o_L_law_68 (Or.inl rfl) (L' := [.val (.ref 0), .val (.ref 1), .val (.int v2), .val (.int v3), .val (.int v4), .val (.int (f_L_period (f_L_cell sl sv ((1 : Int32) + ((3 : Int32) * v4))))), .val (.int (f_L_deadline (f_L_period (f_L_cell sl sv ((1 : Int32) + ((3 : Int32) * v4)))) (f_L_cell sl sv ((2 : Int32) + ((3 : Int32) * v4))))), .unset, .unset, .unset, .unset, .unset, .unset, .unset, .unset, .unset, .unset, .unset, .unset]) rfl ?_
    refine Wk.iload o_L_law_70 rfl ?_
    refine Wk.iloadN o_L_law_72 rfl ?_
    refine Wk.aloadN o_L_law_73 rfl ?_
    refine Wk.iconst o_L_law_74 (z := (3 : Int32)) (by decide) ?_
    refine Wk.iconst o_L_law_75 (z := (3 : Int32)) (by decide) ?_
    refine Wk.iload o_L_law_76 rfl ?_
    refine Wk.imul o_L_law_78 ?_
    refine Wk.iadd o_L_law_79 ?_
    refine Wk.callSF mtL [.ref 0, .int ((3 : Int32) + ((3 : Int32) * v4))] [.int v2, .int (f_L_deadline (f_L_period (f_L_cell sl sv ((1 : Int32) + ((3 : Int32) * v4)))) (f_L_cell sl sv ((2 : Int32) + ((3 : Int32) * v4))))] (H.w 46 rfl) (cv_L_cell H) o_L_law_80 (run_L_cell H sl sv [(7, F1, G1, A1, B1)] ((3 : Int32) + ((3 : Int32) * v4)) (s8 q1)) (wt := 2) (cu' := 8) (su' := 1328) (by decide) rfl rfl rfl rfl rfl rfl ?_
    refine Wk.callSF mtL [.int (f_L_deadline (f_L_period (f_L_cell sl sv ((1 : Int32) + ((3 : Int32) * v4)))) (f_L_cell sl sv ((2 : Int32) + ((3 : Int32) * v4)))), .int v2, .int (f_L_cell sl sv ((3 : Int32) + ((3 : Int32) * v4)))] [] (H.w 56 rfl) (cv_L_wcet H) o_L_law_83 (run_L_wcet H sl sv [(7, F1, G1, A1, B1)] (f_L_deadline (f_L_period (f_L_cell sl sv ((1 : Int32) + ((3 : Int32) * v4)))) (f_L_cell sl sv ((2 : Int32) + ((3 : Int32) * v4)))) v2 (f_L_cell sl sv ((3 : Int32) + ((3 : Int32) * v4))) (s9 q1) (s10 q1)) (wt := 0) (cu' := 8) (su' := 1328) (by decide) rfl rfl rfl rfl rfl rfl ?_
    refine Wk.istore o_L_law_86 (Or.inl rfl) (L' := [.val (.ref 0), .val (.ref 1), .val (.int v2), .val (.int v3), .val (.int v4), .val (.int (f_L_period (f_L_cell sl sv ((1 : Int32) + ((3 : Int32) * v4))))), .val (.int (f_L_deadline (f_L_period (f_L_cell sl sv ((1 : Int32) + ((3 : Int32) * v4)))) (f_L_cell sl sv ((2 : Int32) + ((3 : Int32) * v4))))), .val (.int (f_L_wcet (f_L_deadline (f_L_period (f_L_cell sl sv ((1 : Int32) + ((3 : Int32) * v4)))) (f_L_cell sl sv ((2 : Int32) + ((3 : Int32) * v4)))) v2 (f_L_cell sl sv ((3 : Int32) + ((3 : Int32) * v4))))), .unset, .unset, .unset, .unset, .unset, .unset, .unset, .unset, .unset, .unset, .unset]) rfl ?_
    refine Wk.aloadN o_L_law_88 rfl ?_
    refine Wk.iload o_L_law_89 rfl ?_
    refine Wk.iload o_L_law_91 rfl ?_
    refine Wk.iload o_L_law_93 rfl ?_
    refine Wk.callLF (coC H) [.int (f_L_period (f_L_cell sl sv ((1 : Int32) + ((3 : Int32) * v4)))), .int (f_L_wcet (f_L_deadline (f_L_period (f_L_cell sl sv ((1 : Int32) + ((3 : Int32) * v4)))) (f_L_cell sl sv ((2 : Int32) + ((3 : Int32) * v4)))) v2 (f_L_cell sl sv ((3 : Int32) + ((3 : Int32) * v4)))), .int (f_L_deadline (f_L_period (f_L_cell sl sv ((1 : Int32) + ((3 : Int32) * v4)))) (f_L_cell sl sv ((2 : Int32) + ((3 : Int32) * v4))))] 0 [] (i' := 1) (H.w 59 rfl) (cv_addTask H) o_L_law_95 (run_addTask H F1 G1 A1 B1 (f_L_period (f_L_cell sl sv ((1 : Int32) + ((3 : Int32) * v4)))) (f_L_wcet (f_L_deadline (f_L_period (f_L_cell sl sv ((1 : Int32) + ((3 : Int32) * v4)))) (f_L_cell sl sv ((2 : Int32) + ((3 : Int32) * v4)))) v2 (f_L_cell sl sv ((3 : Int32) + ((3 : Int32) * v4)))) (f_L_deadline (f_L_period (f_L_cell sl sv ((1 : Int32) + ((3 : Int32) * v4)))) (f_L_cell sl sv ((2 : Int32) + ((3 : Int32) * v4)))) (s11 q1)) (wt := 0) (cu' := 8) (su' := 1328) (by decide) trivial rfl rfl rfl rfl rfl rfl rfl rfl rfl rfl (ws' := [(7, (R_addTask F1 A1 (f_L_period (f_L_cell sl sv ((1 : Int32) + ((3 : Int32) * v4)))) (f_L_wcet (f_L_deadline (f_L_period (f_L_cell sl sv ((1 : Int32) + ((3 : Int32) * v4)))) (f_L_cell sl sv ((2 : Int32) + ((3 : Int32) * v4)))) v2 (f_L_cell sl sv ((3 : Int32) + ((3 : Int32) * v4)))) (f_L_deadline (f_L_period (f_L_cell sl sv ((1 : Int32) + ((3 : Int32) * v4)))) (f_L_cell sl sv ((2 : Int32) + ((3 : Int32) * v4))))).2.1, G1, (R_addTask F1 A1 (f_L_period (f_L_cell sl sv ((1 : Int32) + ((3 : Int32) * v4)))) (f_L_wcet (f_L_deadline (f_L_period (f_L_cell sl sv ((1 : Int32) + ((3 : Int32) * v4)))) (f_L_cell sl sv ((2 : Int32) + ((3 : Int32) * v4)))) v2 (f_L_cell sl sv ((3 : Int32) + ((3 : Int32) * v4)))) (f_L_deadline (f_L_period (f_L_cell sl sv ((1 : Int32) + ((3 : Int32) * v4)))) (f_L_cell sl sv ((2 : Int32) + ((3 : Int32) * v4))))).2.2, B1)]) rfl ?_
    refine Wk.iload o_L_law_98 rfl ?_
    refine Wk.icmp_eq o_L_law_100 (fun q12 => ?_) (fun q12 => ?_)
    · refine Wk.forget [false, false, false, false, false, false, true, true, false, false, false, false, false, false, false, false, false, false, false] (L' := [.val (.ref 0), .val (.ref 1), .val (.int v2), .val (.int v3), .val (.int v4), .val (.int (f_L_period (f_L_cell sl sv ((1 : Int32) + ((3 : Int32) * v4))))), .unset, .unset, .unset, .unset, .unset, .unset, .unset, .unset, .unset, .unset, .unset, .unset, .unset]) rfl rfl ?_
      exact (h13 q1 q12)
    · refine Wk.iconst o_L_law_103 (z := (0 : Int32)) (by decide) ?_
      exact Wk.zreturn mrL rfl o_L_law_104 rfl (by decide) (by decide) (y := (0 : Int32)) (by decide) (h14 q1 q12)

set_option maxRecDepth 65536 in
set_option maxHeartbeats 4000000 in
theorem wp_L_law_105 {l : Launch} {Z : State} {a0 : Array Value} (H : OK Z a0) (sl : Int32) (sv : Int32 → Int32) (F1 : Nat → Int32) (G1 : Nat → Int64) (A1 : Nat → Int32 → Int32) (B1 : Nat → Int32 → Int64) (v2 : Int32) (v3 : Int32) (v4 : Int32) (v5 : Int32) {Q : Option Value → WL → Prop} (s1 : (en_L_gcd   v3 v5).isSome = true) (s2 : ¬ (R_L_gcd   v3 v5) = (0 : Int32)) (h3 : Wk l Z (MoL Z cdC "CyclicExecutiveOwnLaw" true) md_L_law 32 [.val (.ref 0), .val (.ref 1), .val (.int v2), .val (.int ((v3 / (R_L_gcd   v3 v5)) * v5)), .val (.int (v4 + (1 : Int32))), .unset, .unset, .unset, .unset, .unset, .unset, .unset, .unset, .unset, .unset, .unset, .unset, .unset, .unset] [] (sl, sv, [(7, F1, G1, A1, B1)]) 8 1328 Q) :
    Wk l Z (MoL Z cdC "CyclicExecutiveOwnLaw" true) md_L_law 105 [.val (.ref 0), .val (.ref 1), .val (.int v2), .val (.int v3), .val (.int v4), .val (.int v5), .unset, .unset, .unset, .unset, .unset, .unset, .unset, .unset, .unset, .unset, .unset, .unset, .unset] [] (sl, sv, [(7, F1, G1, A1, B1)]) 8 1328 Q := by
  refine Wk.iloadN o_L_law_105 rfl ?_
  refine Wk.iloadN o_L_law_106 rfl ?_
  refine Wk.iload o_L_law_107 rfl ?_
  refine Wk.callSF mtL [.int v3, .int v5] [.int v3] (H.w 76 rfl) (cv_L_gcd H) o_L_law_109 (run_L_gcd H sl sv F1 G1 A1 B1 v3 v5 s1) (wt := 1) (cu' := 8) (su' := 1328) (by decide) rfl rfl rfl rfl rfl rfl ?_
  refine Wk.idiv o_L_law_112 s2 ?_
  refine Wk.iload o_L_law_113 rfl ?_
  refine Wk.imul o_L_law_115 ?_
  refine Wk.istoreN o_L_law_116 (Or.inr ⟨_, rfl, rfl⟩) (L' := [.val (.ref 0), .val (.ref 1), .val (.int v2), .val (.int ((v3 / (R_L_gcd   v3 v5)) * v5)), .val (.int v4), .val (.int v5), .unset, .unset, .unset, .unset, .unset, .unset, .unset, .unset, .unset, .unset, .unset, .unset, .unset]) rfl ?_
  refine Wk.iinc o_L_law_117 rfl (z := (v4 + (1 : Int32))) rfl (L' := [.val (.ref 0), .val (.ref 1), .val (.int v2), .val (.int ((v3 / (R_L_gcd   v3 v5)) * v5)), .val (.int (v4 + (1 : Int32))), .val (.int v5), .unset, .unset, .unset, .unset, .unset, .unset, .unset, .unset, .unset, .unset, .unset, .unset, .unset]) rfl ?_
  refine Wk.goto o_L_law_120 ?_
  refine Wk.forget [false, false, false, false, false, true, false, false, false, false, false, false, false, false, false, false, false, false, false] (L' := [.val (.ref 0), .val (.ref 1), .val (.int v2), .val (.int ((v3 / (R_L_gcd   v3 v5)) * v5)), .val (.int (v4 + (1 : Int32))), .unset, .unset, .unset, .unset, .unset, .unset, .unset, .unset, .unset, .unset, .unset, .unset, .unset, .unset]) rfl rfl ?_
  exact h3

set_option maxRecDepth 65536 in
set_option maxHeartbeats 4000000 in
theorem wp_L_law_136 {l : Launch} {Z : State} {a0 : Array Value} (H : OK Z a0) (sl : Int32) (sv : Int32 → Int32) (F1 : Nat → Int32) (G1 : Nat → Int64) (A1 : Nat → Int32 → Int32) (B1 : Nat → Int32 → Int64) (v2 : Int32) (v3 : Int32) (v4 : Int32) {Q : Option Value → WL → Prop} (h2 : ¬ v4 < (6 : Int32) → Q (some (.int (1 : Int32))) (sl, sv, [(7, F1, G1, A1, B1)])) (s3 : v4 < (6 : Int32) → ((13 : Int32) + ((2 : Int32) * v4)) < sl → ¬ ((13 : Int32) + ((2 : Int32) * v4)) < 0) (h5 : v4 < (6 : Int32) → ¬ (((f_L_cell sl sv ((13 : Int32) + ((2 : Int32) * v4))) &&& (32767 : Int32)) % (5 : Int32)) = (4 : Int32) → Wk l Z (MoL Z cdC "CyclicExecutiveOwnLaw" true) md_L_law 190 [.val (.ref 0), .val (.ref 1), .val (.int v2), .val (.int v3), .val (.int v4), .val (.int ((f_L_cell sl sv ((13 : Int32) + ((2 : Int32) * v4))) &&& (32767 : Int32))), .val (.int (0 : Int32)), .val (.int (0 : Int32)), .val (.int (1 : Int32)), .unset, .unset, .unset, .unset, .unset, .unset, .unset, .unset, .unset, .unset] [] (sl, sv, [(7, F1, G1, A1, B1)]) 8 1328 Q) (s6 : v4 < (6 : Int32) → (((f_L_cell sl sv ((13 : Int32) + ((2 : Int32) * v4))) &&& (32767 : Int32)) % (5 : Int32)) = (4 : Int32) → ¬ v3 = (0 : Int32)) (s7 : v4 < (6 : Int32) → (((f_L_cell sl sv ((13 : Int32) + ((2 : Int32) * v4))) &&& (32767 : Int32)) % (5 : Int32)) = (4 : Int32) → (en_build F1 A1 ((1 : Int32) + ((((f_L_cell sl sv ((13 : Int32) + ((2 : Int32) * v4))) &&& (32767 : Int32)) / (5 : Int32)) % v3))).isSome = true) (h8 : v4 < (6 : Int32) → (((f_L_cell sl sv ((13 : Int32) + ((2 : Int32) * v4))) &&& (32767 : Int32)) % (5 : Int32)) = (4 : Int32) → Wk l Z (MoL Z cdC "CyclicExecutiveOwnLaw" true) md_L_law 268 [.val (.ref 0), .val (.ref 1), .val (.int v2), .val (.int v3), .val (.int v4), .unset, .val (.int ((1 : Int32) + ((((f_L_cell sl sv ((13 : Int32) + ((2 : Int32) * v4))) &&& (32767 : Int32)) / (5 : Int32)) % v3))), .val (.int (R_build F1 A1 ((1 : Int32) + ((((f_L_cell sl sv ((13 : Int32) + ((2 : Int32) * v4))) &&& (32767 : Int32)) / (5 : Int32)) % v3))).1), .unset, .unset, .unset, .unset, .unset, .unset, .unset, .unset, .unset, .unset, .unset] [] (sl, sv, [(7, (R_build F1 A1 ((1 : Int32) + ((((f_L_cell sl sv ((13 : Int32) + ((2 : Int32) * v4))) &&& (32767 : Int32)) / (5 : Int32)) % v3))).2.1, G1, (R_build F1 A1 ((1 : Int32) + ((((f_L_cell sl sv ((13 : Int32) + ((2 : Int32) * v4))) &&& (32767 : Int32)) / (5 : Int32)) % v3))).2.2, B1)]) 8 1328 Q) :
    Wk l Z (MoL Z cdC "CyclicExecutiveOwnLaw" true) md_L_law 136 [.val (.ref 0), .val (.ref 1), .val (.int v2), .val (.int v3), .val (.int v4), .unset, .unset, .unset, .unset, .unset, .unset, .unset, .unset, .unset, .unset, .unset, .unset, .unset, .unset] [] (sl, sv, [(7, F1, G1, A1, B1)]) 8 1328 Q := by
  refine Wk.iload o_L_law_136 rfl ?_
  refine Wk.bipush o_L_law_138 (z := (6 : Int32)) (by decide) ?_
  refine Wk.icmp_ge o_L_law_140 (fun q1 => ?_) (fun q1 => ?_)
  · refine Wk.iconst o_L_law_824 (z := (1 : Int32)) (by decide) ?_
    exact Wk.zreturn mrL rfl o_L_law_825 rfl (by decide) (by decide) (y := (1 : Int32)) (by decide) (h2 q1)
  · refine Wk.aloadN o_L_law_143 rfl ?_
    refine Wk.bipush o_L_law_144 (z := (13 : Int32)) (by decide) ?_
    refine Wk.iconst o_L_law_146 (z := (2 : Int32)) (by decide) ?_
    refine Wk.iload o_L_law_147 rfl ?_
    refine Wk.imul o_L_law_149 ?_
    refine Wk.iadd o_L_law_150 ?_
    refine Wk.callSF mtL [.ref 0, .int ((13 : Int32) + ((2 : Int32) * v4))] [] (H.w 46 rfl) (cv_L_cell H) o_L_law_151 (run_L_cell H sl sv [(7, F1, G1, A1, B1)] ((13 : Int32) + ((2 : Int32) * v4)) (s3 q1)) (wt := 0) (cu' := 8) (su' := 1328) (by decide) rfl rfl rfl rfl rfl rfl ?_
    refine Wk.sipush o_L_law_154 (z := (32767 : Int32)) (by decide) ?_
    refine Wk.iand o_L_law_157 ?_
    refine Wk.istore o_L_law_158 (Or.inl rfl) (L' := [.val (.ref 0), .val (.ref 1), .val (.int v2), .val (.int v3), .val (.int v4), .val (.int ((f_L_cell sl sv ((13 : Int32) + ((2 : Int32) * v4))) &&& (32767 : Int32))), .unset, .unset, .unset, .unset, .unset, .unset, .unset, .unset, .unset, .unset, .unset, .unset, .unset]) rfl ?_
    refine Wk.iconst o_L_law_160 (z := (0 : Int32)) (by decide) ?_
    refine Wk.istore o_L_law_161 (Or.inl rfl) (L' := [.val (.ref 0), .val (.ref 1), .val (.int v2), .val (.int v3), .val (.int v4), .val (.int ((f_L_cell sl sv ((13 : Int32) + ((2 : Int32) * v4))) &&& (32767 : Int32))), .val (.int (0 : Int32)), .unset, .unset, .unset, .unset, .unset, .unset, .unset, .unset, .unset, .unset, .unset, .unset]) rfl ?_
    refine Wk.iload o_L_law_163 rfl ?_
    refine Wk.iconst o_L_law_165 (z := (5 : Int32)) (by decide) ?_
    refine Wk.irem o_L_law_166 (by decide) ?_
    refine Wk.iconst o_L_law_167 (z := (4 : Int32)) (by decide) ?_
    refine Wk.icmp_ne o_L_law_168 (fun q4 => ?_) (fun q4 => ?_)
    · refine Wk.iconst o_L_law_184 (z := (0 : Int32)) (by decide) ?_
      refine Wk.istore o_L_law_185 (Or.inl rfl) (L' := [.val (.ref 0), .val (.ref 1), .val (.int v2), .val (.int v3), .val (.int v4), .val (.int ((f_L_cell sl sv ((13 : Int32) + ((2 : Int32) * v4))) &&& (32767 : Int32))), .val (.int (0 : Int32)), .val (.int (0 : Int32)), .unset, .unset, .unset, .unset, .unset, .unset, .unset, .unset, .unset, .unset, .unset]) rfl ?_
      refine Wk.iconst o_L_law_187 (z := (1 : Int32)) (by decide) ?_
      refine Wk.istore o_L_law_188 (Or.inl rfl) (L' := [.val (.ref 0), .val (.ref 1), .val (.int v2), .val (.int v3), .val (.int v4), .val (.int ((f_L_cell sl sv ((13 : Int32) + ((2 : Int32) * v4))) &&& (32767 : Int32))), .val (.int (0 : Int32)), .val (.int (0 : Int32)), .val (.int (1 : Int32)), .unset, .unset, .unset, .unset, .unset, .unset, .unset, .unset, .unset, .unset]) rfl ?_
      exact (h5 q1 q4)
    · refine Wk.iconst o_L_law_171 (z := (1 : Int32)) (by decide) ?_
      refine Wk.iload o_L_law_172 rfl ?_
      refine Wk.iconst o_L_law_174 (z := (5 : Int32)) (by decide) ?_
      refine Wk.idiv o_L_law_175 (by decide) ?_
      refine Wk.iloadN o_L_law_176 rfl ?_
      refine Wk.irem o_L_law_177 (s6 q1 q4) ?_
      refine Wk.iadd o_L_law_178 ?_
      refine Wk.istore o_L_law_179 (Or.inr ⟨_, rfl, rfl⟩) (L' := [.val (.ref 0), .val (.ref 1), .val (.int v2), .val (.int v3), .val (.int v4), .val (.int ((f_L_cell sl sv ((13 : Int32) + ((2 : Int32) * v4))) &&& (32767 : Int32))), .val (.int ((1 : Int32) + ((((f_L_cell sl sv ((13 : Int32) + ((2 : Int32) * v4))) &&& (32767 : Int32)) / (5 : Int32)) % v3))), .unset, .unset, .unset, .unset, .unset, .unset, .unset, .unset, .unset, .unset, .unset, .unset]) rfl ?_
      refine Wk.goto o_L_law_181 ?_
      refine Wk.aloadN o_L_law_260 rfl ?_
      refine Wk.iload o_L_law_261 rfl ?_
      refine Wk.callLF (coC H) [.int ((1 : Int32) + ((((f_L_cell sl sv ((13 : Int32) + ((2 : Int32) * v4))) &&& (32767 : Int32)) / (5 : Int32)) % v3))] 0 [] (i' := 1) (H.w 84 rfl) (cv_build H) o_L_law_263 (run_build H F1 G1 A1 B1 ((1 : Int32) + ((((f_L_cell sl sv ((13 : Int32) + ((2 : Int32) * v4))) &&& (32767 : Int32)) / (5 : Int32)) % v3)) (s7 q1 q4)) (wt := 0) (cu' := 8) (su' := 1328) (by decide) trivial rfl rfl rfl rfl rfl rfl rfl rfl rfl rfl (ws' := [(7, (R_build F1 A1 ((1 : Int32) + ((((f_L_cell sl sv ((13 : Int32) + ((2 : Int32) * v4))) &&& (32767 : Int32)) / (5 : Int32)) % v3))).2.1, G1, (R_build F1 A1 ((1 : Int32) + ((((f_L_cell sl sv ((13 : Int32) + ((2 : Int32) * v4))) &&& (32767 : Int32)) / (5 : Int32)) % v3))).2.2, B1)]) rfl ?_
      refine Wk.istore o_L_law_266 (Or.inl rfl) (L' := [.val (.ref 0), .val (.ref 1), .val (.int v2), .val (.int v3), .val (.int v4), .val (.int ((f_L_cell sl sv ((13 : Int32) + ((2 : Int32) * v4))) &&& (32767 : Int32))), .val (.int ((1 : Int32) + ((((f_L_cell sl sv ((13 : Int32) + ((2 : Int32) * v4))) &&& (32767 : Int32)) / (5 : Int32)) % v3))), .val (.int (R_build F1 A1 ((1 : Int32) + ((((f_L_cell sl sv ((13 : Int32) + ((2 : Int32) * v4))) &&& (32767 : Int32)) / (5 : Int32)) % v3))).1), .unset, .unset, .unset, .unset, .unset, .unset, .unset, .unset, .unset, .unset, .unset]) rfl ?_
      refine Wk.forget [false, false, false, false, false, true, false, false, false, false, false, false, false, false, false, false, false, false, false] (L' := [.val (.ref 0), .val (.ref 1), .val (.int v2), .val (.int v3), .val (.int v4), .unset, .val (.int ((1 : Int32) + ((((f_L_cell sl sv ((13 : Int32) + ((2 : Int32) * v4))) &&& (32767 : Int32)) / (5 : Int32)) % v3))), .val (.int (R_build F1 A1 ((1 : Int32) + ((((f_L_cell sl sv ((13 : Int32) + ((2 : Int32) * v4))) &&& (32767 : Int32)) / (5 : Int32)) % v3))).1), .unset, .unset, .unset, .unset, .unset, .unset, .unset, .unset, .unset, .unset, .unset]) rfl rfl ?_
      exact (h8 q1 q4)

set_option maxRecDepth 65536 in
set_option maxHeartbeats 4000000 in
theorem wp_L_law_268 {l : Launch} {Z : State} {a0 : Array Value} (H : OK Z a0) (sl : Int32) (sv : Int32 → Int32) (F1 : Nat → Int32) (G1 : Nat → Int64) (A1 : Nat → Int32 → Int32) (B1 : Nat → Int32 → Int64) (v2 : Int32) (v3 : Int32) (v4 : Int32) (v6 : Int32) (v7 : Int32) {Q : Option Value → WL → Prop} (s3 : ¬ v7 = 0 → ¬ 0 < (f_getFrame F1) → ((14 : Int32) + ((2 : Int32) * v4)) < sl → ¬ ((14 : Int32) + ((2 : Int32) * v4)) < 0) (s4 : ¬ v7 = 0 → ¬ 0 < (f_getFrame F1) → (en_run F1 A1 ((f_L_cell sl sv ((14 : Int32) + ((2 : Int32) * v4))) &&& (63 : Int32))).isSome = true) (h5 : ¬ v7 = 0 → ¬ 0 < (f_getFrame F1) → Wk l Z (MoL Z cdC "CyclicExecutiveOwnLaw" true) md_L_law 818 [.val (.ref 0), .val (.ref 1), .val (.int v2), .val (.int v3), .val (.int v4), .unset, .unset, .unset, .unset, .unset, .unset, .unset, .unset, .unset, .unset, .unset, .unset, .unset, .unset] [] (sl, sv, [(7, (R_run F1 A1 ((f_L_cell sl sv ((14 : Int32) + ((2 : Int32) * v4))) &&& (63 : Int32))).2.1, G1, (R_run F1 A1 ((f_L_cell sl sv ((14 : Int32) + ((2 : Int32) * v4))) &&& (63 : Int32))).2.2, B1)]) 8 1328 Q) (h6 : ¬ v7 = 0 → 0 < (f_getFrame F1) → Wk l Z (MoL Z cdC "CyclicExecutiveOwnLaw" true) md_L_law 402 [.val (.ref 0), .val (.ref 1), .val (.int v2), .val (.int v3), .val (.int v4), .unset, .unset, .unset, .val (.int (f_getFrame F1)), .val (.int (0 : Int32)), .unset, .unset, .unset, .unset, .unset, .unset, .unset, .unset, .unset] [] (sl, sv, [(7, F1, G1, A1, B1)]) 8 1328 Q) (s8 : v7 = 0 → (f_getFrame F1) = v6 → (en_run F1 A1 v3).isSome = true) (h10 : v7 = 0 → (f_getFrame F1) = v6 → (R_run F1 A1 v3).1 = v3 → Wk l Z (MoL Z cdC "CyclicExecutiveOwnLaw" true) md_L_law 295 [.val (.ref 0), .val (.ref 1), .val (.int v2), .val (.int v3), .val (.int v4), .unset, .unset, .unset, .unset, .unset, .unset, .unset, .unset, .unset, .unset, .unset, .unset, .unset, .unset] [] (sl, sv, [(7, (R_run F1 A1 v3).2.1, G1, (R_run F1 A1 v3).2.2, B1)]) 8 1328 Q) (h11 : v7 = 0 → (f_getFrame F1) = v6 → ¬ (R_run F1 A1 v3).1 = v3 → Q (some (.int (0 : Int32))) (sl, sv, [(7, (R_run F1 A1 v3).2.1, G1, (R_run F1 A1 v3).2.2, B1)])) (h12 : v7 = 0 → ¬ (f_getFrame F1) = v6 → Q (some (.int (0 : Int32))) (sl, sv, [(7, F1, G1, A1, B1)])) :
    Wk l Z (MoL Z cdC "CyclicExecutiveOwnLaw" true) md_L_law 268 [.val (.ref 0), .val (.ref 1), .val (.int v2), .val (.int v3), .val (.int v4), .unset, .val (.int v6), .val (.int v7), .unset, .unset, .unset, .unset, .unset, .unset, .unset, .unset, .unset, .unset, .unset] [] (sl, sv, [(7, F1, G1, A1, B1)]) 8 1328 Q := by
  refine Wk.iload o_L_law_268 rfl ?_
  refine Wk.if_ne o_L_law_270 (fun q1 => ?_) (fun q1 => ?_)
  · refine Wk.aloadN o_L_law_388 rfl ?_
    refine Wk.callLF (coC H) [] 0 [] (i' := 1) (H.w 113 rfl) (cv_getFrame H) o_L_law_389 (run_getFrame H F1 G1 A1 B1) (wt := 0) (cu' := 8) (su' := 1328) (by decide) trivial rfl rfl rfl rfl rfl rfl rfl rfl rfl rfl (ws' := [(7, F1, G1, A1, B1)]) rfl ?_
    refine Wk.istore o_L_law_392 (Or.inl rfl) (L' := [.val (.ref 0), .val (.ref 1), .val (.int v2), .val (.int v3), .val (.int v4), .unset, .val (.int v6), .val (.int v7), .val (.int (f_getFrame F1)), .unset, .unset, .unset, .unset, .unset, .unset, .unset, .unset, .unset, .unset]) rfl ?_
    refine Wk.iload o_L_law_394 rfl ?_
    refine Wk.if_le o_L_law_396 (fun q2 => ?_) (fun q2 => ?_)
    · refine Wk.aloadN o_L_law_799 rfl ?_
      refine Wk.aloadN o_L_law_800 rfl ?_
      refine Wk.bipush o_L_law_801 (z := (14 : Int32)) (by decide) ?_
      refine Wk.iconst o_L_law_803 (z := (2 : Int32)) (by decide) ?_
      refine Wk.iload o_L_law_804 rfl ?_
      refine Wk.imul o_L_law_806 ?_
      refine Wk.iadd o_L_law_807 ?_
      refine Wk.callSF mtL [.ref 0, .int ((14 : Int32) + ((2 : Int32) * v4))] [.ref 1] (H.w 46 rfl) (cv_L_cell H) o_L_law_808 (run_L_cell H sl sv [(7, F1, G1, A1, B1)] ((14 : Int32) + ((2 : Int32) * v4)) (s3 q1 q2)) (wt := 1) (cu' := 8) (su' := 1328) (by decide) rfl rfl rfl rfl rfl rfl ?_
      refine Wk.bipush o_L_law_811 (z := (63 : Int32)) (by decide) ?_
      refine Wk.iand o_L_law_813 ?_
      refine Wk.callLF (coC H) [.int ((f_L_cell sl sv ((14 : Int32) + ((2 : Int32) * v4))) &&& (63 : Int32))] 0 [] (i' := 1) (H.w 118 rfl) (cv_run H) o_L_law_814 (run_run H F1 G1 A1 B1 ((f_L_cell sl sv ((14 : Int32) + ((2 : Int32) * v4))) &&& (63 : Int32)) (s4 q1 q2)) (wt := 0) (cu' := 8) (su' := 1328) (by decide) trivial rfl rfl rfl rfl rfl rfl rfl rfl rfl rfl (ws' := [(7, (R_run F1 A1 ((f_L_cell sl sv ((14 : Int32) + ((2 : Int32) * v4))) &&& (63 : Int32))).2.1, G1, (R_run F1 A1 ((f_L_cell sl sv ((14 : Int32) + ((2 : Int32) * v4))) &&& (63 : Int32))).2.2, B1)]) rfl ?_
      refine Wk.pop o_L_law_817 rfl ?_
      refine Wk.forget [false, false, false, false, false, false, true, true, true, false, false, false, false, false, false, false, false, false, false] (L' := [.val (.ref 0), .val (.ref 1), .val (.int v2), .val (.int v3), .val (.int v4), .unset, .unset, .unset, .unset, .unset, .unset, .unset, .unset, .unset, .unset, .unset, .unset, .unset, .unset]) rfl rfl ?_
      exact (h5 q1 q2)
    · refine Wk.iconst o_L_law_399 (z := (0 : Int32)) (by decide) ?_
      refine Wk.istore o_L_law_400 (Or.inl rfl) (L' := [.val (.ref 0), .val (.ref 1), .val (.int v2), .val (.int v3), .val (.int v4), .unset, .val (.int v6), .val (.int v7), .val (.int (f_getFrame F1)), .val (.int (0 : Int32)), .unset, .unset, .unset, .unset, .unset, .unset, .unset, .unset, .unset]) rfl ?_
      refine Wk.forget [false, false, false, false, false, false, true, true, false, false, false, false, false, false, false, false, false, false, false] (L' := [.val (.ref 0), .val (.ref 1), .val (.int v2), .val (.int v3), .val (.int v4), .unset, .unset, .unset, .val (.int (f_getFrame F1)), .val (.int (0 : Int32)), .unset, .unset, .unset, .unset, .unset, .unset, .unset, .unset, .unset]) rfl rfl ?_
      exact (h6 q1 q2)
  · refine Wk.aloadN o_L_law_273 rfl ?_
    refine Wk.callLF (coC H) [] 0 [] (i' := 1) (H.w 113 rfl) (cv_getFrame H) o_L_law_274 (run_getFrame H F1 G1 A1 B1) (wt := 0) (cu' := 8) (su' := 1328) (by decide) trivial rfl rfl rfl rfl rfl rfl rfl rfl rfl rfl (ws' := [(7, F1, G1, A1, B1)]) rfl ?_
    refine Wk.iload o_L_law_277 rfl ?_
    refine Wk.icmp_eq o_L_law_279 (fun q7 => ?_) (fun q7 => ?_)
    · refine Wk.aloadN o_L_law_284 rfl ?_
      refine Wk.iloadN o_L_law_285 rfl ?_
      refine Wk.callLF (coC H) [.int v3] 0 [] (i' := 1) (H.w 118 rfl) (cv_run H) o_L_law_286 (run_run H F1 G1 A1 B1 v3 (s8 q1 q7)) (wt := 0) (cu' := 8) (su' := 1328) (by decide) trivial rfl rfl rfl rfl rfl rfl rfl rfl rfl rfl (ws' := [(7, (R_run F1 A1 v3).2.1, G1, (R_run F1 A1 v3).2.2, B1)]) rfl ?_
      refine Wk.iloadN o_L_law_289 rfl ?_
      refine Wk.icmp_eq o_L_law_290 (fun q9 => ?_) (fun q9 => ?_)
      · refine Wk.forget [false, false, false, false, false, false, true, true, false, false, false, false, false, false, false, false, false, false, false] (L' := [.val (.ref 0), .val (.ref 1), .val (.int v2), .val (.int v3), .val (.int v4), .unset, .unset, .unset, .unset, .unset, .unset, .unset, .unset, .unset, .unset, .unset, .unset, .unset, .unset]) rfl rfl ?_
        exact (h10 q1 q7 q9)
      · refine Wk.iconst o_L_law_293 (z := (0 : Int32)) (by decide) ?_
        exact Wk.zreturn mrL rfl o_L_law_294 rfl (by decide) (by decide) (y := (0 : Int32)) (by decide) (h11 q1 q7 q9)
    · refine Wk.iconst o_L_law_282 (z := (0 : Int32)) (by decide) ?_
      exact Wk.zreturn mrL rfl o_L_law_283 rfl (by decide) (by decide) (y := (0 : Int32)) (by decide) (h12 q1 q7)

set_option maxRecDepth 65536 in
set_option maxHeartbeats 4000000 in
theorem wp_L_law_190 {l : Launch} {Z : State} {a0 : Array Value} (H : OK Z a0) (sl : Int32) (sv : Int32 → Int32) (F1 : Nat → Int32) (G1 : Nat → Int64) (A1 : Nat → Int32 → Int32) (B1 : Nat → Int32 → Int64) (v2 : Int32) (v3 : Int32) (v4 : Int32) (v5 : Int32) (v6 : Int32) (v7 : Int32) (v8 : Int32) {Q : Option Value → WL → Prop} (s2 : v3 < v8 → ¬ v7 = (0 : Int32)) (h3 : v3 < v8 → Wk l Z (MoL Z cdC "CyclicExecutiveOwnLaw" true) md_L_law 227 [.val (.ref 0), .val (.ref 1), .val (.int v2), .val (.int v3), .val (.int v4), .unset, .val (.int v6), .unset, .val (.int ((v5 / (5 : Int32)) % v7)), .val (.int (0 : Int32)), .val (.int (1 : Int32)), .unset, .unset, .unset, .unset, .unset, .unset, .unset, .unset] [] (sl, sv, [(7, F1, G1, A1, B1)]) 8 1328 Q) (s4 : ¬ v3 < v8 → ¬ v8 = (0 : Int32)) (h7 : ¬ v3 < v8 → Wk l Z (MoL Z cdC "CyclicExecutiveOwnLaw" true) md_L_law 190 [.val (.ref 0), .val (.ref 1), .val (.int v2), .val (.int v3), .val (.int v4), .val (.int v5), .val (.int v6), .val (.int (if (v3 % v8) = 0 then (v7 + (1 : Int32)) else v7)), .val (.int (v8 + (1 : Int32))), .unset, .unset, .unset, .unset, .unset, .unset, .unset, .unset, .unset, .unset] [] (sl, sv, [(7, F1, G1, A1, B1)]) 8 1328 Q) :
    Wk l Z (MoL Z cdC "CyclicExecutiveOwnLaw" true) md_L_law 190 [.val (.ref 0), .val (.ref 1), .val (.int v2), .val (.int v3), .val (.int v4), .val (.int v5), .val (.int v6), .val (.int v7), .val (.int v8), .unset, .unset, .unset, .unset, .unset, .unset, .unset, .unset, .unset, .unset] [] (sl, sv, [(7, F1, G1, A1, B1)]) 8 1328 Q := by
  refine Wk.iload o_L_law_190 rfl ?_
  refine Wk.iloadN o_L_law_192 rfl ?_
  refine Wk.icmp_gt o_L_law_193 (fun q1 => ?_) (fun q1 => ?_)
  · refine Wk.iload o_L_law_212 rfl ?_
    refine Wk.iconst o_L_law_214 (z := (5 : Int32)) (by decide) ?_
    refine Wk.idiv o_L_law_215 (by decide) ?_
    refine Wk.iload o_L_law_216 rfl ?_
    refine Wk.irem o_L_law_218 (s2 q1) ?_
    refine Wk.istore o_L_law_219 (Or.inr ⟨_, rfl, rfl⟩) (L' := [.val (.ref 0), .val (.ref 1), .val (.int v2), .val (.int v3), .val (.int v4), .val (.int v5), .val (.int v6), .val (.int v7), .val (.int ((v5 / (5 : Int32)) % v7)), .unset, .unset, .unset, .unset, .unset, .unset, .unset, .unset, .unset, .unset]) rfl ?_
    refine Wk.iconst o_L_law_221 (z := (0 : Int32)) (by decide) ?_
    refine Wk.istore o_L_law_222 (Or.inl rfl) (L' := [.val (.ref 0), .val (.ref 1), .val (.int v2), .val (.int v3), .val (.int v4), .val (.int v5), .val (.int v6), .val (.int v7), .val (.int ((v5 / (5 : Int32)) % v7)), .val (.int (0 : Int32)), .unset, .unset, .unset, .unset, .unset, .unset, .unset, .unset, .unset]) rfl ?_
    refine Wk.iconst o_L_law_224 (z := (1 : Int32)) (by decide) ?_
    refine Wk.istore o_L_law_225 (Or.inl rfl) (L' := [.val (.ref 0), .val (.ref 1), .val (.int v2), .val (.int v3), .val (.int v4), .val (.int v5), .val (.int v6), .val (.int v7), .val (.int ((v5 / (5 : Int32)) % v7)), .val (.int (0 : Int32)), .val (.int (1 : Int32)), .unset, .unset, .unset, .unset, .unset, .unset, .unset, .unset]) rfl ?_
    refine Wk.forget [false, false, false, false, false, true, false, true, false, false, false, false, false, false, false, false, false, false, false] (L' := [.val (.ref 0), .val (.ref 1), .val (.int v2), .val (.int v3), .val (.int v4), .unset, .val (.int v6), .unset, .val (.int ((v5 / (5 : Int32)) % v7)), .val (.int (0 : Int32)), .val (.int (1 : Int32)), .unset, .unset, .unset, .unset, .unset, .unset, .unset, .unset]) rfl rfl ?_
    exact (h3 q1)
  · refine Wk.iloadN o_L_law_196 rfl ?_
    refine Wk.iload o_L_law_197 rfl ?_
    refine Wk.irem o_L_law_199 (s4 q1) ?_
    have J6 : Wk l Z (MoL Z cdC "CyclicExecutiveOwnLaw" true) md_L_law 206 [.val (.ref 0), .val (.ref 1), .val (.int v2), .val (.int v3), .val (.int v4), .val (.int v5), .val (.int v6), .val (.int (if (v3 % v8) = 0 then (v7 + (1 : Int32)) else v7)), .val (.int v8), .unset, .unset, .unset, .unset, .unset, .unset, .unset, .unset, .unset, .unset] [] (sl, sv, [(7, F1, G1, A1, B1)]) 8 1328 Q := by
      refine Wk.iinc o_L_law_206 rfl (z := (v8 + (1 : Int32))) rfl (L' := [.val (.ref 0), .val (.ref 1), .val (.int v2), .val (.int v3), .val (.int v4), .val (.int v5), .val (.int v6), .val (.int (if (v3 % v8) = 0 then (v7 + (1 : Int32)) else v7)), .val (.int (v8 + (1 : Int32))), .unset, .unset, .unset, .unset, .unset, .unset, .unset, .unset, .unset, .unset]) rfl ?_
      refine Wk.goto o_L_law_209 ?_
      exact (h7 q1)
    refine Wk.if_ne o_L_law_200 (fun q5 => ?_) (fun q5 => ?_)
    · first | (rw [show ((if (v3 % v8) = 0 then (v7 + (1 : Int32)) else v7) : Int32) = v7 from if_neg q5] at J6; exact J6) | exact J6 | (simp only [if_neg q5] at J6 ⊢; exact J6)
    · refine Wk.iinc o_L_law_203 rfl (z := (v7 + (1 : Int32))) rfl (L' := [.val (.ref 0), .val (.ref 1), .val (.int v2), .val (.int v3), .val (.int v4), .val (.int v5), .val (.int v6), .val (.int (v7 + (1 : Int32))), .val (.int v8), .unset, .unset, .unset, .unset, .unset, .unset, .unset, .unset, .unset, .unset]) rfl ?_
      first | (rw [show ((if (v3 % v8) = 0 then (v7 + (1 : Int32)) else v7) : Int32) = (v7 + (1 : Int32)) from if_pos q5] at J6; exact J6) | exact J6 | (simp only [if_pos q5] at J6 ⊢; exact J6)

set_option maxRecDepth 65536 in
set_option maxHeartbeats 4000000 in
theorem wp_L_law_295 {l : Launch} {Z : State} {a0 : Array Value} (H : OK Z a0) (sl : Int32) (sv : Int32 → Int32) (F1 : Nat → Int32) (G1 : Nat → Int64) (A1 : Nat → Int32 → Int32) (B1 : Nat → Int32 → Int64) (v2 : Int32) (v3 : Int32) (v4 : Int32) {Q : Option Value → WL → Prop} (h2 : (f_getNow F1) = v3 → Wk l Z (MoL Z cdC "CyclicExecutiveOwnLaw" true) md_L_law 308 [.val (.ref 0), .val (.ref 1), .val (.int v2), .val (.int v3), .val (.int v4), .unset, .unset, .unset, .val (.int (0 : Int32)), .unset, .unset, .unset, .unset, .unset, .unset, .unset, .unset, .unset, .unset] [] (sl, sv, [(7, F1, G1, A1, B1)]) 8 1328 Q) (h3 : ¬ (f_getNow F1) = v3 → Q (some (.int (0 : Int32))) (sl, sv, [(7, F1, G1, A1, B1)])) :
    Wk l Z (MoL Z cdC "CyclicExecutiveOwnLaw" true) md_L_law 295 [.val (.ref 0), .val (.ref 1), .val (.int v2), .val (.int v3), .val (.int v4), .unset, .unset, .unset, .unset, .unset, .unset, .unset, .unset, .unset, .unset, .unset, .unset, .unset, .unset] [] (sl, sv, [(7, F1, G1, A1, B1)]) 8 1328 Q := by
  refine Wk.aloadN o_L_law_295 rfl ?_
  refine Wk.callLF (coC H) [] 0 [] (i' := 1) (H.w 123 rfl) (cv_getNow H) o_L_law_296 (run_getNow H F1 G1 A1 B1) (wt := 0) (cu' := 8) (su' := 1328) (by decide) trivial rfl rfl rfl rfl rfl rfl rfl rfl rfl rfl (ws' := [(7, F1, G1, A1, B1)]) rfl ?_
  refine Wk.iloadN o_L_law_299 rfl ?_
  refine Wk.icmp_eq o_L_law_300 (fun q1 => ?_) (fun q1 => ?_)
  · refine Wk.iconst o_L_law_305 (z := (0 : Int32)) (by decide) ?_
    refine Wk.istore o_L_law_306 (Or.inl rfl) (L' := [.val (.ref 0), .val (.ref 1), .val (.int v2), .val (.int v3), .val (.int v4), .unset, .unset, .unset, .val (.int (0 : Int32)), .unset, .unset, .unset, .unset, .unset, .unset, .unset, .unset, .unset, .unset]) rfl ?_
    exact (h2 q1)
  · refine Wk.iconst o_L_law_303 (z := (0 : Int32)) (by decide) ?_
    exact Wk.zreturn mrL rfl o_L_law_304 rfl (by decide) (by decide) (y := (0 : Int32)) (by decide) (h3 q1)

set_option maxRecDepth 65536 in
set_option maxHeartbeats 4000000 in
theorem wp_L_law_402 {l : Launch} {Z : State} {a0 : Array Value} (H : OK Z a0) (sl : Int32) (sv : Int32 → Int32) (F1 : Nat → Int32) (G1 : Nat → Int64) (A1 : Nat → Int32 → Int32) (B1 : Nat → Int32 → Int64) (v2 : Int32) (v3 : Int32) (v4 : Int32) (v8 : Int32) (v9 : Int32) {Q : Option Value → WL → Prop} (h2 : ¬ v9 < v3 → Wk l Z (MoL Z cdC "CyclicExecutiveOwnLaw" true) md_L_law 590 [.val (.ref 0), .val (.ref 1), .val (.int v2), .val (.int v3), .val (.int v4), .unset, .unset, .unset, .val (.int v8), .val (.int (0 : Int32)), .unset, .unset, .unset, .unset, .unset, .unset, .unset, .unset, .unset] [] (sl, sv, [(7, F1, G1, A1, B1)]) 8 1328 Q) (s3 : v9 < v3 → (en_getTickTask F1 A1 v9).isSome = true) (s4 : v9 < v3 → (en_getTickJob F1 A1 v9).isSome = true) (h12 : v9 < v3 → (if (R_getTickTask F1 A1 v9) = (-1 : Int32) then (1 : Int32) else (0 : Int32)) = (if (R_getTickJob F1 A1 v9) = (-1 : Int32) then (1 : Int32) else (0 : Int32)) → ¬ (R_getTickTask F1 A1 v9) = (-1 : Int32) → (R_getTickTask F1 A1 v9) < 0 → Q (some (.int (0 : Int32))) (sl, sv, [(7, F1, G1, A1, B1)])) (s14 : v9 < v3 → (if (R_getTickTask F1 A1 v9) = (-1 : Int32) then (1 : Int32) else (0 : Int32)) = (if (R_getTickJob F1 A1 v9) = (-1 : Int32) then (1 : Int32) else (0 : Int32)) → ¬ (R_getTickTask F1 A1 v9) = (-1 : Int32) → ¬ (R_getTickTask F1 A1 v9) < 0 → (R_getTickTask F1 A1 v9) < v2 → ((1 : Int32) + ((3 : Int32) * (R_getTickTask F1 A1 v9))) < sl → ¬ ((1 : Int32) + ((3 : Int32) * (R_getTickTask F1 A1 v9))) < 0) (s15 : v9 < v3 → (if (R_getTickTask F1 A1 v9) = (-1 : Int32) then (1 : Int32) else (0 : Int32)) = (if (R_getTickJob F1 A1 v9) = (-1 : Int32) then (1 : Int32) else (0 : Int32)) → ¬ (R_getTickTask F1 A1 v9) = (-1 : Int32) → ¬ (R_getTickTask F1 A1 v9) < 0 → (R_getTickTask F1 A1 v9) < v2 → ((2 : Int32) + ((3 : Int32) * (R_getTickTask F1 A1 v9))) < sl → ¬ ((2 : Int32) + ((3 : Int32) * (R_getTickTask F1 A1 v9))) < 0) (s16 : v9 < v3 → (if (R_getTickTask F1 A1 v9) = (-1 : Int32) then (1 : Int32) else (0 : Int32)) = (if (R_getTickJob F1 A1 v9) = (-1 : Int32) then (1 : Int32) else (0 : Int32)) → ¬ (R_getTickTask F1 A1 v9) = (-1 : Int32) → ¬ (R_getTickTask F1 A1 v9) < 0 → (R_getTickTask F1 A1 v9) < v2 → ¬ (((f_L_period (f_L_cell sl sv ((1 : Int32) + ((3 : Int32) * (R_getTickTask F1 A1 v9))))) + (1 : Int32)) / (2 : Int32)) = (0 : Int32)) (h18 : v9 < v3 → (if (R_getTickTask F1 A1 v9) = (-1 : Int32) then (1 : Int32) else (0 : Int32)) = (if (R_getTickJob F1 A1 v9) = (-1 : Int32) then (1 : Int32) else (0 : Int32)) → ¬ (R_getTickTask F1 A1 v9) = (-1 : Int32) → ¬ (R_getTickTask F1 A1 v9) < 0 → (R_getTickTask F1 A1 v9) < v2 → (R_getTickJob F1 A1 v9) < 0 → Q (some (.int (0 : Int32))) (sl, sv, [(7, F1, G1, A1, B1)])) (s19 : v9 < v3 → (if (R_getTickTask F1 A1 v9) = (-1 : Int32) then (1 : Int32) else (0 : Int32)) = (if (R_getTickJob F1 A1 v9) = (-1 : Int32) then (1 : Int32) else (0 : Int32)) → ¬ (R_getTickTask F1 A1 v9) = (-1 : Int32) → ¬ (R_getTickTask F1 A1 v9) < 0 → (R_getTickTask F1 A1 v9) < v2 → ¬ (R_getTickJob F1 A1 v9) < 0 → ¬ (f_L_period (f_L_cell sl sv ((1 : Int32) + ((3 : Int32) * (R_getTickTask F1 A1 v9))))) = (0 : Int32)) (h22 : v9 < v3 → (if (R_getTickTask F1 A1 v9) = (-1 : Int32) then (1 : Int32) else (0 : Int32)) = (if (R_getTickJob F1 A1 v9) = (-1 : Int32) then (1 : Int32) else (0 : Int32)) → ¬ (R_getTickTask F1 A1 v9) = (-1 : Int32) → ¬ (R_getTickTask F1 A1 v9) < 0 → (R_getTickTask F1 A1 v9) < v2 → ¬ (R_getTickJob F1 A1 v9) < 0 → (R_getTickJob F1 A1 v9) < (v3 / (f_L_period (f_L_cell sl sv ((1 : Int32) + ((3 : Int32) * (R_getTickTask F1 A1 v9)))))) → v9 < ((R_getTickJob F1 A1 v9) * (f_L_period (f_L_cell sl sv ((1 : Int32) + ((3 : Int32) * (R_getTickTask F1 A1 v9)))))) → Q (some (.int (0 : Int32))) (sl, sv, [(7, F1, G1, A1, B1)])) (s24 : v9 < v3 → (if (R_getTickTask F1 A1 v9) = (-1 : Int32) then (1 : Int32) else (0 : Int32)) = (if (R_getTickJob F1 A1 v9) = (-1 : Int32) then (1 : Int32) else (0 : Int32)) → ¬ (R_getTickTask F1 A1 v9) = (-1 : Int32) → ¬ (R_getTickTask F1 A1 v9) < 0 → (R_getTickTask F1 A1 v9) < v2 → ¬ (R_getTickJob F1 A1 v9) < 0 → (R_getTickJob F1 A1 v9) < (v3 / (f_L_period (f_L_cell sl sv ((1 : Int32) + ((3 : Int32) * (R_getTickTask F1 A1 v9)))))) → ¬ v9 < ((R_getTickJob F1 A1 v9) * (f_L_period (f_L_cell sl sv ((1 : Int32) + ((3 : Int32) * (R_getTickTask F1 A1 v9)))))) → v9 < (((R_getTickJob F1 A1 v9) * (f_L_period (f_L_cell sl sv ((1 : Int32) + ((3 : Int32) * (R_getTickTask F1 A1 v9)))))) + (f_L_deadline (f_L_period (f_L_cell sl sv ((1 : Int32) + ((3 : Int32) * (R_getTickTask F1 A1 v9))))) (f_L_cell sl sv ((2 : Int32) + ((3 : Int32) * (R_getTickTask F1 A1 v9)))))) → ¬ v8 = (0 : Int32)) (h26 : v9 < v3 → (if (R_getTickTask F1 A1 v9) = (-1 : Int32) then (1 : Int32) else (0 : Int32)) = (if (R_getTickJob F1 A1 v9) = (-1 : Int32) then (1 : Int32) else (0 : Int32)) → ¬ (R_getTickTask F1 A1 v9) = (-1 : Int32) → ¬ (R_getTickTask F1 A1 v9) < 0 → (R_getTickTask F1 A1 v9) < v2 → ¬ (R_getTickJob F1 A1 v9) < 0 → (R_getTickJob F1 A1 v9) < (v3 / (f_L_period (f_L_cell sl sv ((1 : Int32) + ((3 : Int32) * (R_getTickTask F1 A1 v9)))))) → ¬ v9 < ((R_getTickJob F1 A1 v9) * (f_L_period (f_L_cell sl sv ((1 : Int32) + ((3 : Int32) * (R_getTickTask F1 A1 v9)))))) → v9 < (((R_getTickJob F1 A1 v9) * (f_L_period (f_L_cell sl sv ((1 : Int32) + ((3 : Int32) * (R_getTickTask F1 A1 v9)))))) + (f_L_deadline (f_L_period (f_L_cell sl sv ((1 : Int32) + ((3 : Int32) * (R_getTickTask F1 A1 v9))))) (f_L_cell sl sv ((2 : Int32) + ((3 : Int32) * (R_getTickTask F1 A1 v9)))))) → ((v9 / v8) * v8) < ((R_getTickJob F1 A1 v9) * (f_L_period (f_L_cell sl sv ((1 : Int32) + ((3 : Int32) * (R_getTickTask F1 A1 v9)))))) → Q (some (.int (0 : Int32))) (sl, sv, [(7, F1, G1, A1, B1)])) (h28 : v9 < v3 → (if (R_getTickTask F1 A1 v9) = (-1 : Int32) then (1 : Int32) else (0 : Int32)) = (if (R_getTickJob F1 A1 v9) = (-1 : Int32) then (1 : Int32) else (0 : Int32)) → ¬ (R_getTickTask F1 A1 v9) = (-1 : Int32) → ¬ (R_getTickTask F1 A1 v9) < 0 → (R_getTickTask F1 A1 v9) < v2 → ¬ (R_getTickJob F1 A1 v9) < 0 → (R_getTickJob F1 A1 v9) < (v3 / (f_L_period (f_L_cell sl sv ((1 : Int32) + ((3 : Int32) * (R_getTickTask F1 A1 v9)))))) → ¬ v9 < ((R_getTickJob F1 A1 v9) * (f_L_period (f_L_cell sl sv ((1 : Int32) + ((3 : Int32) * (R_getTickTask F1 A1 v9)))))) → v9 < (((R_getTickJob F1 A1 v9) * (f_L_period (f_L_cell sl sv ((1 : Int32) + ((3 : Int32) * (R_getTickTask F1 A1 v9)))))) + (f_L_deadline (f_L_period (f_L_cell sl sv ((1 : Int32) + ((3 : Int32) * (R_getTickTask F1 A1 v9))))) (f_L_cell sl sv ((2 : Int32) + ((3 : Int32) * (R_getTickTask F1 A1 v9)))))) → ¬ ((v9 / v8) * v8) < ((R_getTickJob F1 A1 v9) * (f_L_period (f_L_cell sl sv ((1 : Int32) + ((3 : Int32) * (R_getTickTask F1 A1 v9)))))) → ¬ (((R_getTickJob F1 A1 v9) * (f_L_period (f_L_cell sl sv ((1 : Int32) + ((3 : Int32) * (R_getTickTask F1 A1 v9)))))) + (f_L_deadline (f_L_period (f_L_cell sl sv ((1 : Int32) + ((3 : Int32) * (R_getTickTask F1 A1 v9))))) (f_L_cell sl sv ((2 : Int32) + ((3 : Int32) * (R_getTickTask F1 A1 v9)))))) < (((v9 / v8) + (1 : Int32)) * v8) → Wk l Z (MoL Z cdC "CyclicExecutiveOwnLaw" true) md_L_law 402 [.val (.ref 0), .val (.ref 1), .val (.int v2), .val (.int v3), .val (.int v4), .unset, .unset, .unset, .val (.int v8), .val (.int (v9 + (1 : Int32))), .unset, .unset, .unset, .unset, .unset, .unset, .unset, .unset, .unset] [] (sl, sv, [(7, F1, G1, A1, B1)]) 8 1328 Q) (h29 : v9 < v3 → (if (R_getTickTask F1 A1 v9) = (-1 : Int32) then (1 : Int32) else (0 : Int32)) = (if (R_getTickJob F1 A1 v9) = (-1 : Int32) then (1 : Int32) else (0 : Int32)) → ¬ (R_getTickTask F1 A1 v9) = (-1 : Int32) → ¬ (R_getTickTask F1 A1 v9) < 0 → (R_getTickTask F1 A1 v9) < v2 → ¬ (R_getTickJob F1 A1 v9) < 0 → (R_getTickJob F1 A1 v9) < (v3 / (f_L_period (f_L_cell sl sv ((1 : Int32) + ((3 : Int32) * (R_getTickTask F1 A1 v9)))))) → ¬ v9 < ((R_getTickJob F1 A1 v9) * (f_L_period (f_L_cell sl sv ((1 : Int32) + ((3 : Int32) * (R_getTickTask F1 A1 v9)))))) → v9 < (((R_getTickJob F1 A1 v9) * (f_L_period (f_L_cell sl sv ((1 : Int32) + ((3 : Int32) * (R_getTickTask F1 A1 v9)))))) + (f_L_deadline (f_L_period (f_L_cell sl sv ((1 : Int32) + ((3 : Int32) * (R_getTickTask F1 A1 v9))))) (f_L_cell sl sv ((2 : Int32) + ((3 : Int32) * (R_getTickTask F1 A1 v9)))))) → ¬ ((v9 / v8) * v8) < ((R_getTickJob F1 A1 v9) * (f_L_period (f_L_cell sl sv ((1 : Int32) + ((3 : Int32) * (R_getTickTask F1 A1 v9)))))) → (((R_getTickJob F1 A1 v9) * (f_L_period (f_L_cell sl sv ((1 : Int32) + ((3 : Int32) * (R_getTickTask F1 A1 v9)))))) + (f_L_deadline (f_L_period (f_L_cell sl sv ((1 : Int32) + ((3 : Int32) * (R_getTickTask F1 A1 v9))))) (f_L_cell sl sv ((2 : Int32) + ((3 : Int32) * (R_getTickTask F1 A1 v9)))))) < (((v9 / v8) + (1 : Int32)) * v8) → Q (some (.int (0 : Int32))) (sl, sv, [(7, F1, G1, A1, B1)])) (h30 : v9 < v3 → (if (R_getTickTask F1 A1 v9) = (-1 : Int32) then (1 : Int32) else (0 : Int32)) = (if (R_getTickJob F1 A1 v9) = (-1 : Int32) then (1 : Int32) else (0 : Int32)) → ¬ (R_getTickTask F1 A1 v9) = (-1 : Int32) → ¬ (R_getTickTask F1 A1 v9) < 0 → (R_getTickTask F1 A1 v9) < v2 → ¬ (R_getTickJob F1 A1 v9) < 0 → (R_getTickJob F1 A1 v9) < (v3 / (f_L_period (f_L_cell sl sv ((1 : Int32) + ((3 : Int32) * (R_getTickTask F1 A1 v9)))))) → ¬ v9 < ((R_getTickJob F1 A1 v9) * (f_L_period (f_L_cell sl sv ((1 : Int32) + ((3 : Int32) * (R_getTickTask F1 A1 v9)))))) → ¬ v9 < (((R_getTickJob F1 A1 v9) * (f_L_period (f_L_cell sl sv ((1 : Int32) + ((3 : Int32) * (R_getTickTask F1 A1 v9)))))) + (f_L_deadline (f_L_period (f_L_cell sl sv ((1 : Int32) + ((3 : Int32) * (R_getTickTask F1 A1 v9))))) (f_L_cell sl sv ((2 : Int32) + ((3 : Int32) * (R_getTickTask F1 A1 v9)))))) → Q (some (.int (0 : Int32))) (sl, sv, [(7, F1, G1, A1, B1)])) (h31 : v9 < v3 → (if (R_getTickTask F1 A1 v9) = (-1 : Int32) then (1 : Int32) else (0 : Int32)) = (if (R_getTickJob F1 A1 v9) = (-1 : Int32) then (1 : Int32) else (0 : Int32)) → ¬ (R_getTickTask F1 A1 v9) = (-1 : Int32) → ¬ (R_getTickTask F1 A1 v9) < 0 → (R_getTickTask F1 A1 v9) < v2 → ¬ (R_getTickJob F1 A1 v9) < 0 → ¬ (R_getTickJob F1 A1 v9) < (v3 / (f_L_period (f_L_cell sl sv ((1 : Int32) + ((3 : Int32) * (R_getTickTask F1 A1 v9)))))) → Q (some (.int (0 : Int32))) (sl, sv, [(7, F1, G1, A1, B1)])) (h32 : v9 < v3 → (if (R_getTickTask F1 A1 v9) = (-1 : Int32) then (1 : Int32) else (0 : Int32)) = (if (R_getTickJob F1 A1 v9) = (-1 : Int32) then (1 : Int32) else (0 : Int32)) → ¬ (R_getTickTask F1 A1 v9) = (-1 : Int32) → ¬ (R_getTickTask F1 A1 v9) < 0 → ¬ (R_getTickTask F1 A1 v9) < v2 → Q (some (.int (0 : Int32))) (sl, sv, [(7, F1, G1, A1, B1)])) (h33 : v9 < v3 → (if (R_getTickTask F1 A1 v9) = (-1 : Int32) then (1 : Int32) else (0 : Int32)) = (if (R_getTickJob F1 A1 v9) = (-1 : Int32) then (1 : Int32) else (0 : Int32)) → (R_getTickTask F1 A1 v9) = (-1 : Int32) → Wk l Z (MoL Z cdC "CyclicExecutiveOwnLaw" true) md_L_law 402 [.val (.ref 0), .val (.ref 1), .val (.int v2), .val (.int v3), .val (.int v4), .unset, .unset, .unset, .val (.int v8), .val (.int (v9 + (1 : Int32))), .unset, .unset, .unset, .unset, .unset, .unset, .unset, .unset, .unset] [] (sl, sv, [(7, F1, G1, A1, B1)]) 8 1328 Q) (h34 : v9 < v3 → ¬ (if (R_getTickTask F1 A1 v9) = (-1 : Int32) then (1 : Int32) else (0 : Int32)) = (if (R_getTickJob F1 A1 v9) = (-1 : Int32) then (1 : Int32) else (0 : Int32)) → Q (some (.int (0 : Int32))) (sl, sv, [(7, F1, G1, A1, B1)])) :
    Wk l Z (MoL Z cdC "CyclicExecutiveOwnLaw" true) md_L_law 402 [.val (.ref 0), .val (.ref 1), .val (.int v2), .val (.int v3), .val (.int v4), .unset, .unset, .unset, .val (.int v8), .val (.int v9), .unset, .unset, .unset, .unset, .unset, .unset, .unset, .unset, .unset] [] (sl, sv, [(7, F1, G1, A1, B1)]) 8 1328 Q := by
  refine Wk.iload o_L_law_402 rfl ?_
  refine Wk.iloadN o_L_law_404 rfl ?_
  refine Wk.icmp_ge o_L_law_405 (fun q1 => ?_) (fun q1 => ?_)
  · refine Wk.iconst o_L_law_587 (z := (0 : Int32)) (by decide) ?_
    refine Wk.istore o_L_law_588 (Or.inr ⟨_, rfl, rfl⟩) (L' := [.val (.ref 0), .val (.ref 1), .val (.int v2), .val (.int v3), .val (.int v4), .unset, .unset, .unset, .val (.int v8), .val (.int (0 : Int32)), .unset, .unset, .unset, .unset, .unset, .unset, .unset, .unset, .unset]) rfl ?_
    exact (h2 q1)
  · refine Wk.aloadN o_L_law_408 rfl ?_
    refine Wk.iload o_L_law_409 rfl ?_
    refine Wk.callLF (coC H) [.int v9] 0 [] (i' := 1) (H.w 133 rfl) (cv_getTickTask H) o_L_law_411 (run_getTickTask H F1 G1 A1 B1 v9 (s3 q1)) (wt := 0) (cu' := 8) (su' := 1328) (by decide) trivial rfl rfl rfl rfl rfl rfl rfl rfl rfl rfl (ws' := [(7, F1, G1, A1, B1)]) rfl ?_
    refine Wk.istore o_L_law_414 (Or.inl rfl) (L' := [.val (.ref 0), .val (.ref 1), .val (.int v2), .val (.int v3), .val (.int v4), .unset, .unset, .unset, .val (.int v8), .val (.int v9), .val (.int (R_getTickTask F1 A1 v9)), .unset, .unset, .unset, .unset, .unset, .unset, .unset, .unset]) rfl ?_
    refine Wk.aloadN o_L_law_416 rfl ?_
    refine Wk.iload o_L_law_417 rfl ?_
    refine Wk.callLF (coC H) [.int v9] 0 [] (i' := 1) (H.w 142 rfl) (cv_getTickJob H) o_L_law_419 (run_getTickJob H F1 G1 A1 B1 v9 (s4 q1)) (wt := 0) (cu' := 8) (su' := 1328) (by decide) trivial rfl rfl rfl rfl rfl rfl rfl rfl rfl rfl (ws' := [(7, F1, G1, A1, B1)]) rfl ?_
    refine Wk.istore o_L_law_422 (Or.inl rfl) (L' := [.val (.ref 0), .val (.ref 1), .val (.int v2), .val (.int v3), .val (.int v4), .unset, .unset, .unset, .val (.int v8), .val (.int v9), .val (.int (R_getTickTask F1 A1 v9)), .val (.int (R_getTickJob F1 A1 v9)), .unset, .unset, .unset, .unset, .unset, .unset, .unset]) rfl ?_
    refine Wk.iload o_L_law_424 rfl ?_
    refine Wk.iconst o_L_law_426 (z := (-1 : Int32)) (by decide) ?_
    have J6 : Wk l Z (MoL Z cdC "CyclicExecutiveOwnLaw" true) md_L_law 435 [.val (.ref 0), .val (.ref 1), .val (.int v2), .val (.int v3), .val (.int v4), .unset, .unset, .unset, .val (.int v8), .val (.int v9), .val (.int (R_getTickTask F1 A1 v9)), .val (.int (R_getTickJob F1 A1 v9)), .unset, .unset, .unset, .unset, .unset, .unset, .unset] [.int (if (R_getTickTask F1 A1 v9) = (-1 : Int32) then (1 : Int32) else (0 : Int32))] (sl, sv, [(7, F1, G1, A1, B1)]) 8 1328 Q := by
      refine Wk.iload o_L_law_435 rfl ?_
      refine Wk.iconst o_L_law_437 (z := (-1 : Int32)) (by decide) ?_
      have J8 : Wk l Z (MoL Z cdC "CyclicExecutiveOwnLaw" true) md_L_law 446 [.val (.ref 0), .val (.ref 1), .val (.int v2), .val (.int v3), .val (.int v4), .unset, .unset, .unset, .val (.int v8), .val (.int v9), .val (.int (R_getTickTask F1 A1 v9)), .val (.int (R_getTickJob F1 A1 v9)), .unset, .unset, .unset, .unset, .unset, .unset, .unset] [.int (if (R_getTickJob F1 A1 v9) = (-1 : Int32) then (1 : Int32) else (0 : Int32)), .int (if (R_getTickTask F1 A1 v9) = (-1 : Int32) then (1 : Int32) else (0 : Int32))] (sl, sv, [(7, F1, G1, A1, B1)]) 8 1328 Q := by
        refine Wk.icmp_eq o_L_law_446 (fun q9 => ?_) (fun q9 => ?_)
        · refine Wk.iload o_L_law_451 rfl ?_
          refine Wk.iconst o_L_law_453 (z := (-1 : Int32)) (by decide) ?_
          refine Wk.icmp_ne o_L_law_454 (fun q10 => ?_) (fun q10 => ?_)
          · refine Wk.iload o_L_law_460 rfl ?_
            refine Wk.if_lt o_L_law_462 (fun q11 => ?_) (fun q11 => ?_)
            · refine Wk.iconst o_L_law_471 (z := (0 : Int32)) (by decide) ?_
              exact Wk.zreturn mrL rfl o_L_law_472 rfl (by decide) (by decide) (y := (0 : Int32)) (by decide) (h12 q1 q9 q10 q11)
            · refine Wk.iload o_L_law_465 rfl ?_
              refine Wk.iloadN o_L_law_467 rfl ?_
              refine Wk.icmp_lt o_L_law_468 (fun q13 => ?_) (fun q13 => ?_)
              · refine Wk.aloadN o_L_law_473 rfl ?_
                refine Wk.iconst o_L_law_474 (z := (1 : Int32)) (by decide) ?_
                refine Wk.iconst o_L_law_475 (z := (3 : Int32)) (by decide) ?_
                refine Wk.iload o_L_law_476 rfl ?_
                refine Wk.imul o_L_law_478 ?_
                refine Wk.iadd o_L_law_479 ?_
                refine Wk.callSF mtL [.ref 0, .int ((1 : Int32) + ((3 : Int32) * (R_getTickTask F1 A1 v9)))] [] (H.w 46 rfl) (cv_L_cell H) o_L_law_480 (run_L_cell H sl sv [(7, F1, G1, A1, B1)] ((1 : Int32) + ((3 : Int32) * (R_getTickTask F1 A1 v9))) (s14 q1 q9 q10 q11 q13)) (wt := 0) (cu' := 8) (su' := 1328) (by decide) rfl rfl rfl rfl rfl rfl ?_
                refine Wk.callSF mtL [.int (f_L_cell sl sv ((1 : Int32) + ((3 : Int32) * (R_getTickTask F1 A1 v9))))] [] (H.w 50 rfl) (cv_L_period H) o_L_law_483 (run_L_period H sl sv [(7, F1, G1, A1, B1)] (f_L_cell sl sv ((1 : Int32) + ((3 : Int32) * (R_getTickTask F1 A1 v9))))) (wt := 0) (cu' := 8) (su' := 1328) (by decide) rfl rfl rfl rfl rfl rfl ?_
                refine Wk.istore o_L_law_486 (Or.inl rfl) (L' := [.val (.ref 0), .val (.ref 1), .val (.int v2), .val (.int v3), .val (.int v4), .unset, .unset, .unset, .val (.int v8), .val (.int v9), .val (.int (R_getTickTask F1 A1 v9)), .val (.int (R_getTickJob F1 A1 v9)), .val (.int (f_L_period (f_L_cell sl sv ((1 : Int32) + ((3 : Int32) * (R_getTickTask F1 A1 v9)))))), .unset, .unset, .unset, .unset, .unset, .unset]) rfl ?_
                refine Wk.iload o_L_law_488 rfl ?_
                refine Wk.aloadN o_L_law_490 rfl ?_
                refine Wk.iconst o_L_law_491 (z := (2 : Int32)) (by decide) ?_
                refine Wk.iconst o_L_law_492 (z := (3 : Int32)) (by decide) ?_
                refine Wk.iload o_L_law_493 rfl ?_
                refine Wk.imul o_L_law_495 ?_
                refine Wk.iadd o_L_law_496 ?_
                refine Wk.callSF mtL [.ref 0, .int ((2 : Int32) + ((3 : Int32) * (R_getTickTask F1 A1 v9)))] [.int (f_L_period (f_L_cell sl sv ((1 : Int32) + ((3 : Int32) * (R_getTickTask F1 A1 v9)))))] (H.w 46 rfl) (cv_L_cell H) o_L_law_497 (run_L_cell H sl sv [(7, F1, G1, A1, B1)] ((2 : Int32) + ((3 : Int32) * (R_getTickTask F1 A1 v9))) (s15 q1 q9 q10 q11 q13)) (wt := 1) (cu' := 8) (su' := 1328) (by decide) rfl rfl rfl rfl rfl rfl ?_
                refine Wk.callSF mtL [.int (f_L_period (f_L_cell sl sv ((1 : Int32) + ((3 : Int32) * (R_getTickTask F1 A1 v9))))), .int (f_L_cell sl sv ((2 : Int32) + ((3 : Int32) * (R_getTickTask F1 A1 v9))))] [] (H.w 53 rfl) (cv_L_deadline H) o_L_law_500 (run_L_deadline H sl sv [(7, F1, G1, A1, B1)] (f_L_period (f_L_cell sl sv ((1 : Int32) + ((3 : Int32) * (R_getTickTask F1 A1 v9))))) (f_L_cell sl sv ((2 : Int32) + ((3 : Int32) * (R_getTickTask F1 A1 v9)))) (s16 q1 q9 q10 q11 q13)) (wt := 0) (cu' := 8) (su' := 1328) (by decide) rfl rfl rfl rfl rfl rfl ?_
                refine Wk.istore o_L_law_503 (Or.inl rfl) (L' := [.val (.ref 0), .val (.ref 1), .val (.int v2), .val (.int v3), .val (.int v4), .unset, .unset, .unset, .val (.int v8), .val (.int v9), .val (.int (R_getTickTask F1 A1 v9)), .val (.int (R_getTickJob F1 A1 v9)), .val (.int (f_L_period (f_L_cell sl sv ((1 : Int32) + ((3 : Int32) * (R_getTickTask F1 A1 v9)))))), .val (.int (f_L_deadline (f_L_period (f_L_cell sl sv ((1 : Int32) + ((3 : Int32) * (R_getTickTask F1 A1 v9))))) (f_L_cell sl sv ((2 : Int32) + ((3 : Int32) * (R_getTickTask F1 A1 v9)))))), .unset, .unset, .unset, .unset, .unset]) rfl ?_
                refine Wk.iload o_L_law_505 rfl ?_
                refine Wk.if_lt o_L_law_507 (fun q17 => ?_) (fun q17 => ?_)
                · refine Wk.iconst o_L_law_519 (z := (0 : Int32)) (by decide) ?_
                  exact Wk.zreturn mrL rfl o_L_law_520 rfl (by decide) (by decide) (y := (0 : Int32)) (by decide) (h18 q1 q9 q10 q11 q13 q17)
                · refine Wk.iload o_L_law_510 rfl ?_
                  refine Wk.iloadN o_L_law_512 rfl ?_
                  refine Wk.iload o_L_law_513 rfl ?_
                  refine Wk.idiv o_L_law_515 (s19 q1 q9 q10 q11 q13 q17) ?_
                  refine Wk.icmp_lt o_L_law_516 (fun q20 => ?_) (fun q20 => ?_)
                  · refine Wk.iload o_L_law_521 rfl ?_
                    refine Wk.iload o_L_law_523 rfl ?_
                    refine Wk.imul o_L_law_525 ?_
                    refine Wk.istore o_L_law_526 (Or.inl rfl) (L' := [.val (.ref 0), .val (.ref 1), .val (.int v2), .val (.int v3), .val (.int v4), .unset, .unset, .unset, .val (.int v8), .val (.int v9), .val (.int (R_getTickTask F1 A1 v9)), .val (.int (R_getTickJob F1 A1 v9)), .val (.int (f_L_period (f_L_cell sl sv ((1 : Int32) + ((3 : Int32) * (R_getTickTask F1 A1 v9)))))), .val (.int (f_L_deadline (f_L_period (f_L_cell sl sv ((1 : Int32) + ((3 : Int32) * (R_getTickTask F1 A1 v9))))) (f_L_cell sl sv ((2 : Int32) + ((3 : Int32) * (R_getTickTask F1 A1 v9)))))), .val (.int ((R_getTickJob F1 A1 v9) * (f_L_period (f_L_cell sl sv ((1 : Int32) + ((3 : Int32) * (R_getTickTask F1 A1 v9))))))), .unset, .unset, .unset, .unset]) rfl ?_
                    refine Wk.iload o_L_law_528 rfl ?_
                    refine Wk.iload o_L_law_530 rfl ?_
                    refine Wk.icmp_lt o_L_law_532 (fun q21 => ?_) (fun q21 => ?_)
                    · refine Wk.iconst o_L_law_545 (z := (0 : Int32)) (by decide) ?_
                      exact Wk.zreturn mrL rfl o_L_law_546 rfl (by decide) (by decide) (y := (0 : Int32)) (by decide) (h22 q1 q9 q10 q11 q13 q17 q20 q21)
                    · refine Wk.iload o_L_law_535 rfl ?_
                      refine Wk.iload o_L_law_537 rfl ?_
                      refine Wk.iload o_L_law_539 rfl ?_
                      refine Wk.iadd o_L_law_541 ?_
                      refine Wk.icmp_lt o_L_law_542 (fun q23 => ?_) (fun q23 => ?_)
                      · refine Wk.iload o_L_law_547 rfl ?_
                        refine Wk.iload o_L_law_549 rfl ?_
                        refine Wk.idiv o_L_law_551 (s24 q1 q9 q10 q11 q13 q17 q20 q21 q23) ?_
                        refine Wk.istore o_L_law_552 (Or.inl rfl) (L' := [.val (.ref 0), .val (.ref 1), .val (.int v2), .val (.int v3), .val (.int v4), .unset, .unset, .unset, .val (.int v8), .val (.int v9), .val (.int (R_getTickTask F1 A1 v9)), .val (.int (R_getTickJob F1 A1 v9)), .val (.int (f_L_period (f_L_cell sl sv ((1 : Int32) + ((3 : Int32) * (R_getTickTask F1 A1 v9)))))), .val (.int (f_L_deadline (f_L_period (f_L_cell sl sv ((1 : Int32) + ((3 : Int32) * (R_getTickTask F1 A1 v9))))) (f_L_cell sl sv ((2 : Int32) + ((3 : Int32) * (R_getTickTask F1 A1 v9)))))), .val (.int ((R_getTickJob F1 A1 v9) * (f_L_period (f_L_cell sl sv ((1 : Int32) + ((3 : Int32) * (R_getTickTask F1 A1 v9))))))), .val (.int (v9 / v8)), .unset, .unset, .unset]) rfl ?_
                        refine Wk.iload o_L_law_554 rfl ?_
                        refine Wk.iload o_L_law_556 rfl ?_
                        refine Wk.iload o_L_law_558 rfl ?_
                        refine Wk.imul o_L_law_560 ?_
                        refine Wk.icmp_gt o_L_law_561 (fun q25 => ?_) (fun q25 => ?_)
                        · refine Wk.iconst o_L_law_579 (z := (0 : Int32)) (by decide) ?_
                          exact Wk.zreturn mrL rfl o_L_law_580 rfl (by decide) (by decide) (y := (0 : Int32)) (by decide) (h26 q1 q9 q10 q11 q13 q17 q20 q21 q23 q25)
                        · refine Wk.iload o_L_law_564 rfl ?_
                          refine Wk.iconst o_L_law_566 (z := (1 : Int32)) (by decide) ?_
                          refine Wk.iadd o_L_law_567 ?_
                          refine Wk.iload o_L_law_568 rfl ?_
                          refine Wk.imul o_L_law_570 ?_
                          refine Wk.iload o_L_law_571 rfl ?_
                          refine Wk.iload o_L_law_573 rfl ?_
                          refine Wk.iadd o_L_law_575 ?_
                          refine Wk.icmp_le o_L_law_576 (fun q27 => ?_) (fun q27 => ?_)
                          · refine Wk.iinc o_L_law_581 rfl (z := (v9 + (1 : Int32))) rfl (L' := [.val (.ref 0), .val (.ref 1), .val (.int v2), .val (.int v3), .val (.int v4), .unset, .unset, .unset, .val (.int v8), .val (.int (v9 + (1 : Int32))), .val (.int (R_getTickTask F1 A1 v9)), .val (.int (R_getTickJob F1 A1 v9)), .val (.int (f_L_period (f_L_cell sl sv ((1 : Int32) + ((3 : Int32) * (R_getTickTask F1 A1 v9)))))), .val (.int (f_L_deadline (f_L_period (f_L_cell sl sv ((1 : Int32) + ((3 : Int32) * (R_getTickTask F1 A1 v9))))) (f_L_cell sl sv ((2 : Int32) + ((3 : Int32) * (R_getTickTask F1 A1 v9)))))), .val (.int ((R_getTickJob F1 A1 v9) * (f_L_period (f_L_cell sl sv ((1 : Int32) + ((3 : Int32) * (R_getTickTask F1 A1 v9))))))), .val (.int (v9 / v8)), .unset, .unset, .unset]) rfl ?_
                            refine Wk.goto o_L_law_584 ?_
                            refine Wk.forget [false, false, false, false, false, false, false, false, false, false, true, true, true, true, true, true, false, false, false] (L' := [.val (.ref 0), .val (.ref 1), .val (.int v2), .val (.int v3), .val (.int v4), .unset, .unset, .unset, .val (.int v8), .val (.int (v9 + (1 : Int32))), .unset, .unset, .unset, .unset, .unset, .unset, .unset, .unset, .unset]) rfl rfl ?_
                            exact (h28 q1 q9 q10 q11 q13 q17 q20 q21 q23 q25 q27)
                          · refine Wk.iconst o_L_law_579 (z := (0 : Int32)) (by decide) ?_
                            exact Wk.zreturn mrL rfl o_L_law_580 rfl (by decide) (by decide) (y := (0 : Int32)) (by decide) (h29 q1 q9 q10 q11 q13 q17 q20 q21 q23 q25 q27)
                      · refine Wk.iconst o_L_law_545 (z := (0 : Int32)) (by decide) ?_
                        exact Wk.zreturn mrL rfl o_L_law_546 rfl (by decide) (by decide) (y := (0 : Int32)) (by decide) (h30 q1 q9 q10 q11 q13 q17 q20 q21 q23)
                  · refine Wk.iconst o_L_law_519 (z := (0 : Int32)) (by decide) ?_
                    exact Wk.zreturn mrL rfl o_L_law_520 rfl (by decide) (by decide) (y := (0 : Int32)) (by decide) (h31 q1 q9 q10 q11 q13 q17 q20)
              · refine Wk.iconst o_L_law_471 (z := (0 : Int32)) (by decide) ?_
                exact Wk.zreturn mrL rfl o_L_law_472 rfl (by decide) (by decide) (y := (0 : Int32)) (by decide) (h32 q1 q9 q10 q11 q13)
          · refine Wk.goto o_L_law_457 ?_
            refine Wk.iinc o_L_law_581 rfl (z := (v9 + (1 : Int32))) rfl (L' := [.val (.ref 0), .val (.ref 1), .val (.int v2), .val (.int v3), .val (.int v4), .unset, .unset, .unset, .val (.int v8), .val (.int (v9 + (1 : Int32))), .val (.int (R_getTickTask F1 A1 v9)), .val (.int (R_getTickJob F1 A1 v9)), .unset, .unset, .unset, .unset, .unset, .unset, .unset]) rfl ?_
            refine Wk.goto o_L_law_584 ?_
            refine Wk.forget [false, false, false, false, false, false, false, false, false, false, true, true, false, false, false, false, false, false, false] (L' := [.val (.ref 0), .val (.ref 1), .val (.int v2), .val (.int v3), .val (.int v4), .unset, .unset, .unset, .val (.int v8), .val (.int (v9 + (1 : Int32))), .unset, .unset, .unset, .unset, .unset, .unset, .unset, .unset, .unset]) rfl rfl ?_
            exact (h33 q1 q9 q10)
        · refine Wk.iconst o_L_law_449 (z := (0 : Int32)) (by decide) ?_
          exact Wk.zreturn mrL rfl o_L_law_450 rfl (by decide) (by decide) (y := (0 : Int32)) (by decide) (h34 q1 q9)
      refine Wk.icmp_ne o_L_law_438 (fun q7 => ?_) (fun q7 => ?_)
      · refine Wk.iconst o_L_law_445 (z := (0 : Int32)) (by decide) ?_
        first | (rw [show ((if (R_getTickJob F1 A1 v9) = (-1 : Int32) then (1 : Int32) else (0 : Int32)) : Int32) = (0 : Int32) from if_neg q7] at J8; exact J8) | exact J8 | (simp only [if_neg q7] at J8 ⊢; exact J8)
      · refine Wk.iconst o_L_law_441 (z := (1 : Int32)) (by decide) ?_
        refine Wk.goto o_L_law_442 ?_
        first | (rw [show ((if (R_getTickJob F1 A1 v9) = (-1 : Int32) then (1 : Int32) else (0 : Int32)) : Int32) = (1 : Int32) from if_pos q7] at J8; exact J8) | exact J8 | (simp only [if_pos q7] at J8 ⊢; exact J8)
    refine Wk.icmp_ne o_L_law_427 (fun q5 => ?_) (fun q5 => ?_)
    · refine Wk.iconst o_L_law_434 (z := (0 : Int32)) (by decide) ?_
      first | (rw [show ((if (R_getTickTask F1 A1 v9) = (-1 : Int32) then (1 : Int32) else (0 : Int32)) : Int32) = (0 : Int32) from if_neg q5] at J6; exact J6) | exact J6 | (simp only [if_neg q5] at J6 ⊢; exact J6)
    · refine Wk.iconst o_L_law_430 (z := (1 : Int32)) (by decide) ?_
      refine Wk.goto o_L_law_431 ?_
      first | (rw [show ((if (R_getTickTask F1 A1 v9) = (-1 : Int32) then (1 : Int32) else (0 : Int32)) : Int32) = (1 : Int32) from if_pos q5] at J6; exact J6) | exact J6 | (simp only [if_pos q5] at J6 ⊢; exact J6)

set_option maxRecDepth 65536 in
set_option maxHeartbeats 4000000 in
theorem wp_L_law_818 {l : Launch} {Z : State} {a0 : Array Value} (H : OK Z a0) (sl : Int32) (sv : Int32 → Int32) (F1 : Nat → Int32) (G1 : Nat → Int64) (A1 : Nat → Int32 → Int32) (B1 : Nat → Int32 → Int64) (v2 : Int32) (v3 : Int32) (v4 : Int32) {Q : Option Value → WL → Prop} (h1 : Wk l Z (MoL Z cdC "CyclicExecutiveOwnLaw" true) md_L_law 136 [.val (.ref 0), .val (.ref 1), .val (.int v2), .val (.int v3), .val (.int (v4 + (1 : Int32))), .unset, .unset, .unset, .unset, .unset, .unset, .unset, .unset, .unset, .unset, .unset, .unset, .unset, .unset] [] (sl, sv, [(7, F1, G1, A1, B1)]) 8 1328 Q) :
    Wk l Z (MoL Z cdC "CyclicExecutiveOwnLaw" true) md_L_law 818 [.val (.ref 0), .val (.ref 1), .val (.int v2), .val (.int v3), .val (.int v4), .unset, .unset, .unset, .unset, .unset, .unset, .unset, .unset, .unset, .unset, .unset, .unset, .unset, .unset] [] (sl, sv, [(7, F1, G1, A1, B1)]) 8 1328 Q := by
  refine Wk.iinc o_L_law_818 rfl (z := (v4 + (1 : Int32))) rfl (L' := [.val (.ref 0), .val (.ref 1), .val (.int v2), .val (.int v3), .val (.int (v4 + (1 : Int32))), .unset, .unset, .unset, .unset, .unset, .unset, .unset, .unset, .unset, .unset, .unset, .unset, .unset, .unset]) rfl ?_
  refine Wk.goto o_L_law_821 ?_
  exact h1

set_option maxRecDepth 65536 in
set_option maxHeartbeats 4000000 in
theorem wp_L_law_227 {l : Launch} {Z : State} {a0 : Array Value} (H : OK Z a0) (sl : Int32) (sv : Int32 → Int32) (F1 : Nat → Int32) (G1 : Nat → Int64) (A1 : Nat → Int32 → Int32) (B1 : Nat → Int32 → Int64) (v2 : Int32) (v3 : Int32) (v4 : Int32) (v6 : Int32) (v8 : Int32) (v9 : Int32) (v10 : Int32) {Q : Option Value → WL → Prop} (s2 : v3 < v10 → (en_build F1 A1 v6).isSome = true) (h3 : v3 < v10 → Wk l Z (MoL Z cdC "CyclicExecutiveOwnLaw" true) md_L_law 268 [.val (.ref 0), .val (.ref 1), .val (.int v2), .val (.int v3), .val (.int v4), .unset, .val (.int v6), .val (.int (R_build F1 A1 v6).1), .unset, .unset, .unset, .unset, .unset, .unset, .unset, .unset, .unset, .unset, .unset] [] (sl, sv, [(7, (R_build F1 A1 v6).2.1, G1, (R_build F1 A1 v6).2.2, B1)]) 8 1328 Q) (s4 : ¬ v3 < v10 → ¬ v10 = (0 : Int32)) (h9 : ¬ v3 < v10 → Wk l Z (MoL Z cdC "CyclicExecutiveOwnLaw" true) md_L_law 227 [.val (.ref 0), .val (.ref 1), .val (.int v2), .val (.int v3), .val (.int v4), .unset, .val (.int (if (v3 % v10) = 0 then (if v9 = v8 then v10 else v6) else v6)), .unset, .val (.int v8), .val (.int (if (v3 % v10) = 0 then (v9 + (1 : Int32)) else v9)), .val (.int (v10 + (1 : Int32))), .unset, .unset, .unset, .unset, .unset, .unset, .unset, .unset] [] (sl, sv, [(7, F1, G1, A1, B1)]) 8 1328 Q) :
    Wk l Z (MoL Z cdC "CyclicExecutiveOwnLaw" true) md_L_law 227 [.val (.ref 0), .val (.ref 1), .val (.int v2), .val (.int v3), .val (.int v4), .unset, .val (.int v6), .unset, .val (.int v8), .val (.int v9), .val (.int v10), .unset, .unset, .unset, .unset, .unset, .unset, .unset, .unset] [] (sl, sv, [(7, F1, G1, A1, B1)]) 8 1328 Q := by
  refine Wk.iload o_L_law_227 rfl ?_
  refine Wk.iloadN o_L_law_229 rfl ?_
  refine Wk.icmp_gt o_L_law_230 (fun q1 => ?_) (fun q1 => ?_)
  · refine Wk.aloadN o_L_law_260 rfl ?_
    refine Wk.iload o_L_law_261 rfl ?_
    refine Wk.callLF (coC H) [.int v6] 0 [] (i' := 1) (H.w 84 rfl) (cv_build H) o_L_law_263 (run_build H F1 G1 A1 B1 v6 (s2 q1)) (wt := 0) (cu' := 8) (su' := 1328) (by decide) trivial rfl rfl rfl rfl rfl rfl rfl rfl rfl rfl (ws' := [(7, (R_build F1 A1 v6).2.1, G1, (R_build F1 A1 v6).2.2, B1)]) rfl ?_
    refine Wk.istore o_L_law_266 (Or.inl rfl) (L' := [.val (.ref 0), .val (.ref 1), .val (.int v2), .val (.int v3), .val (.int v4), .unset, .val (.int v6), .val (.int (R_build F1 A1 v6).1), .val (.int v8), .val (.int v9), .val (.int v10), .unset, .unset, .unset, .unset, .unset, .unset, .unset, .unset]) rfl ?_
    refine Wk.forget [false, false, false, false, false, false, false, false, true, true, true, false, false, false, false, false, false, false, false] (L' := [.val (.ref 0), .val (.ref 1), .val (.int v2), .val (.int v3), .val (.int v4), .unset, .val (.int v6), .val (.int (R_build F1 A1 v6).1), .unset, .unset, .unset, .unset, .unset, .unset, .unset, .unset, .unset, .unset, .unset]) rfl rfl ?_
    exact (h3 q1)
  · refine Wk.iloadN o_L_law_233 rfl ?_
    refine Wk.iload o_L_law_234 rfl ?_
    refine Wk.irem o_L_law_236 (s4 q1) ?_
    have J8 : Wk l Z (MoL Z cdC "CyclicExecutiveOwnLaw" true) md_L_law 254 [.val (.ref 0), .val (.ref 1), .val (.int v2), .val (.int v3), .val (.int v4), .unset, .val (.int (if (v3 % v10) = 0 then (if v9 = v8 then v10 else v6) else v6)), .unset, .val (.int v8), .val (.int (if (v3 % v10) = 0 then (v9 + (1 : Int32)) else v9)), .val (.int v10), .unset, .unset, .unset, .unset, .unset, .unset, .unset, .unset] [] (sl, sv, [(7, F1, G1, A1, B1)]) 8 1328 Q := by
      refine Wk.iinc o_L_law_254 rfl (z := (v10 + (1 : Int32))) rfl (L' := [.val (.ref 0), .val (.ref 1), .val (.int v2), .val (.int v3), .val (.int v4), .unset, .val (.int (if (v3 % v10) = 0 then (if v9 = v8 then v10 else v6) else v6)), .unset, .val (.int v8), .val (.int (if (v3 % v10) = 0 then (v9 + (1 : Int32)) else v9)), .val (.int (v10 + (1 : Int32))), .unset, .unset, .unset, .unset, .unset, .unset, .unset, .unset]) rfl ?_
      refine Wk.goto o_L_law_257 ?_
      exact (h9 q1)
    refine Wk.if_ne o_L_law_237 (fun q5 => ?_) (fun q5 => ?_)
    · first | (rw [show ((if (v3 % v10) = 0 then (if v9 = v8 then v10 else v6) else v6) : Int32) = v6 from if_neg q5, show ((if (v3 % v10) = 0 then (v9 + (1 : Int32)) else v9) : Int32) = v9 from if_neg q5] at J8; exact J8) | exact J8 | (simp only [if_neg q5] at J8 ⊢; exact J8)
    · refine Wk.iload o_L_law_240 rfl ?_
      refine Wk.iload o_L_law_242 rfl ?_
      have J7 : Wk l Z (MoL Z cdC "CyclicExecutiveOwnLaw" true) md_L_law 251 [.val (.ref 0), .val (.ref 1), .val (.int v2), .val (.int v3), .val (.int v4), .unset, .val (.int (if v9 = v8 then v10 else v6)), .unset, .val (.int v8), .val (.int v9), .val (.int v10), .unset, .unset, .unset, .unset, .unset, .unset, .unset, .unset] [] (sl, sv, [(7, F1, G1, A1, B1)]) 8 1328 Q := by
        refine Wk.iinc o_L_law_251 rfl (z := (v9 + (1 : Int32))) rfl (L' := [.val (.ref 0), .val (.ref 1), .val (.int v2), .val (.int v3), .val (.int v4), .unset, .val (.int (if v9 = v8 then v10 else v6)), .unset, .val (.int v8), .val (.int (v9 + (1 : Int32))), .val (.int v10), .unset, .unset, .unset, .unset, .unset, .unset, .unset, .unset]) rfl ?_
        first | (rw [show ((if (v3 % v10) = 0 then (if v9 = v8 then v10 else v6) else v6) : Int32) = (if v9 = v8 then v10 else v6) from if_pos q5, show ((if (v3 % v10) = 0 then (v9 + (1 : Int32)) else v9) : Int32) = (v9 + (1 : Int32)) from if_pos q5] at J8; exact J8) | exact J8 | (simp only [if_pos q5] at J8 ⊢; exact J8)
      refine Wk.icmp_ne o_L_law_244 (fun q6 => ?_) (fun q6 => ?_)
      · first | (rw [show ((if v9 = v8 then v10 else v6) : Int32) = v6 from if_neg q6] at J7; exact J7) | exact J7 | (simp only [if_neg q6] at J7 ⊢; exact J7)
      · refine Wk.iload o_L_law_247 rfl ?_
        refine Wk.istore o_L_law_249 (Or.inr ⟨_, rfl, rfl⟩) (L' := [.val (.ref 0), .val (.ref 1), .val (.int v2), .val (.int v3), .val (.int v4), .unset, .val (.int v10), .unset, .val (.int v8), .val (.int v9), .val (.int v10), .unset, .unset, .unset, .unset, .unset, .unset, .unset, .unset]) rfl ?_
        first | (rw [show ((if v9 = v8 then v10 else v6) : Int32) = v10 from if_pos q6] at J7; exact J7) | exact J7 | (simp only [if_pos q6] at J7 ⊢; exact J7)

set_option maxRecDepth 65536 in
set_option maxHeartbeats 4000000 in
theorem wp_L_law_308 {l : Launch} {Z : State} {a0 : Array Value} (H : OK Z a0) (sl : Int32) (sv : Int32 → Int32) (F1 : Nat → Int32) (G1 : Nat → Int64) (A1 : Nat → Int32 → Int32) (B1 : Nat → Int32 → Int64) (v2 : Int32) (v3 : Int32) (v4 : Int32) (v8 : Int32) {Q : Option Value → WL → Prop} (s3 : ¬ v8 < v2 → ¬ 0 < (f_getFrame F1) → ((14 : Int32) + ((2 : Int32) * v4)) < sl → ¬ ((14 : Int32) + ((2 : Int32) * v4)) < 0) (s4 : ¬ v8 < v2 → ¬ 0 < (f_getFrame F1) → (en_run F1 A1 ((f_L_cell sl sv ((14 : Int32) + ((2 : Int32) * v4))) &&& (63 : Int32))).isSome = true) (h5 : ¬ v8 < v2 → ¬ 0 < (f_getFrame F1) → Wk l Z (MoL Z cdC "CyclicExecutiveOwnLaw" true) md_L_law 818 [.val (.ref 0), .val (.ref 1), .val (.int v2), .val (.int v3), .val (.int v4), .unset, .unset, .unset, .unset, .unset, .unset, .unset, .unset, .unset, .unset, .unset, .unset, .unset, .unset] [] (sl, sv, [(7, (R_run F1 A1 ((f_L_cell sl sv ((14 : Int32) + ((2 : Int32) * v4))) &&& (63 : Int32))).2.1, G1, (R_run F1 A1 ((f_L_cell sl sv ((14 : Int32) + ((2 : Int32) * v4))) &&& (63 : Int32))).2.2, B1)]) 8 1328 Q) (h6 : ¬ v8 < v2 → 0 < (f_getFrame F1) → Wk l Z (MoL Z cdC "CyclicExecutiveOwnLaw" true) md_L_law 402 [.val (.ref 0), .val (.ref 1), .val (.int v2), .val (.int v3), .val (.int v4), .unset, .unset, .unset, .val (.int (f_getFrame F1)), .val (.int (0 : Int32)), .unset, .unset, .unset, .unset, .unset, .unset, .unset, .unset, .unset] [] (sl, sv, [(7, F1, G1, A1, B1)]) 8 1328 Q) (s7 : v8 < v2 → ((1 : Int32) + ((3 : Int32) * v8)) < sl → ¬ ((1 : Int32) + ((3 : Int32) * v8)) < 0) (s8 : v8 < v2 → ((2 : Int32) + ((3 : Int32) * v8)) < sl → ¬ ((2 : Int32) + ((3 : Int32) * v8)) < 0) (s9 : v8 < v2 → ¬ (((f_L_period (f_L_cell sl sv ((1 : Int32) + ((3 : Int32) * v8)))) + (1 : Int32)) / (2 : Int32)) = (0 : Int32)) (s10 : v8 < v2 → ((3 : Int32) + ((3 : Int32) * v8)) < sl → ¬ ((3 : Int32) + ((3 : Int32) * v8)) < 0) (s11 : v8 < v2 → ¬ v2 = (0 : Int32)) (s12 : v8 < v2 → ¬ (if ((f_L_deadline (f_L_period (f_L_cell sl sv ((1 : Int32) + ((3 : Int32) * v8)))) (f_L_cell sl sv ((2 : Int32) + ((3 : Int32) * v8)))) / v2) < (1 : Int32) then (1 : Int32) else ((f_L_deadline (f_L_period (f_L_cell sl sv ((1 : Int32) + ((3 : Int32) * v8)))) (f_L_cell sl sv ((2 : Int32) + ((3 : Int32) * v8)))) / v2)) = (0 : Int32)) (s13 : v8 < v2 → (en_getRunTicks F1 A1 v8).isSome = true) (s14 : v8 < v2 → ¬ (f_L_period (f_L_cell sl sv ((1 : Int32) + ((3 : Int32) * v8)))) = (0 : Int32)) (h16 : v8 < v2 → (R_getRunTicks F1 A1 v8) = ((f_L_wcet (f_L_deadline (f_L_period (f_L_cell sl sv ((1 : Int32) + ((3 : Int32) * v8)))) (f_L_cell sl sv ((2 : Int32) + ((3 : Int32) * v8)))) v2 (f_L_cell sl sv ((3 : Int32) + ((3 : Int32) * v8)))) * (v3 / (f_L_period (f_L_cell sl sv ((1 : Int32) + ((3 : Int32) * v8)))))) → Wk l Z (MoL Z cdC "CyclicExecutiveOwnLaw" true) md_L_law 308 [.val (.ref 0), .val (.ref 1), .val (.int v2), .val (.int v3), .val (.int v4), .unset, .unset, .unset, .val (.int (v8 + (1 : Int32))), .unset, .unset, .unset, .unset, .unset, .unset, .unset, .unset, .unset, .unset] [] (sl, sv, [(7, F1, G1, A1, B1)]) 8 1328 Q) (h17 : v8 < v2 → ¬ (R_getRunTicks F1 A1 v8) = ((f_L_wcet (f_L_deadline (f_L_period (f_L_cell sl sv ((1 : Int32) + ((3 : Int32) * v8)))) (f_L_cell sl sv ((2 : Int32) + ((3 : Int32) * v8)))) v2 (f_L_cell sl sv ((3 : Int32) + ((3 : Int32) * v8)))) * (v3 / (f_L_period (f_L_cell sl sv ((1 : Int32) + ((3 : Int32) * v8)))))) → Q (some (.int (0 : Int32))) (sl, sv, [(7, F1, G1, A1, B1)])) :
    Wk l Z (MoL Z cdC "CyclicExecutiveOwnLaw" true) md_L_law 308 [.val (.ref 0), .val (.ref 1), .val (.int v2), .val (.int v3), .val (.int v4), .unset, .unset, .unset, .val (.int v8), .unset, .unset, .unset, .unset, .unset, .unset, .unset, .unset, .unset, .unset] [] (sl, sv, [(7, F1, G1, A1, B1)]) 8 1328 Q := by
  refine Wk.iload o_L_law_308 rfl ?_
  refine Wk.iloadN o_L_law_310 rfl ?_
  refine Wk.icmp_ge o_L_law_311 (fun q1 => ?_) (fun q1 => ?_)
  · refine Wk.aloadN o_L_law_388 rfl ?_
    refine Wk.callLF (coC H) [] 0 [] (i' := 1) (H.w 113 rfl) (cv_getFrame H) o_L_law_389 (run_getFrame H F1 G1 A1 B1) (wt := 0) (cu' := 8) (su' := 1328) (by decide) trivial rfl rfl rfl rfl rfl rfl rfl rfl rfl rfl (ws' := [(7, F1, G1, A1, B1)]) rfl ?_
    refine Wk.istore o_L_law_392 (Or.inr ⟨_, rfl, rfl⟩) (L' := [.val (.ref 0), .val (.ref 1), .val (.int v2), .val (.int v3), .val (.int v4), .unset, .unset, .unset, .val (.int (f_getFrame F1)), .unset, .unset, .unset, .unset, .unset, .unset, .unset, .unset, .unset, .unset]) rfl ?_
    refine Wk.iload o_L_law_394 rfl ?_
    refine Wk.if_le o_L_law_396 (fun q2 => ?_) (fun q2 => ?_)
    · refine Wk.aloadN o_L_law_799 rfl ?_
      refine Wk.aloadN o_L_law_800 rfl ?_
      refine Wk.bipush o_L_law_801 (z := (14 : Int32)) (by decide) ?_
      refine Wk.iconst o_L_law_803 (z := (2 : Int32)) (by decide) ?_
      refine Wk.iload o_L_law_804 rfl ?_
      refine Wk.imul o_L_law_806 ?_
      refine Wk.iadd o_L_law_807 ?_
      refine Wk.callSF mtL [.ref 0, .int ((14 : Int32) + ((2 : Int32) * v4))] [.ref 1] (H.w 46 rfl) (cv_L_cell H) o_L_law_808 (run_L_cell H sl sv [(7, F1, G1, A1, B1)] ((14 : Int32) + ((2 : Int32) * v4)) (s3 q1 q2)) (wt := 1) (cu' := 8) (su' := 1328) (by decide) rfl rfl rfl rfl rfl rfl ?_
      refine Wk.bipush o_L_law_811 (z := (63 : Int32)) (by decide) ?_
      refine Wk.iand o_L_law_813 ?_
      refine Wk.callLF (coC H) [.int ((f_L_cell sl sv ((14 : Int32) + ((2 : Int32) * v4))) &&& (63 : Int32))] 0 [] (i' := 1) (H.w 118 rfl) (cv_run H) o_L_law_814 (run_run H F1 G1 A1 B1 ((f_L_cell sl sv ((14 : Int32) + ((2 : Int32) * v4))) &&& (63 : Int32)) (s4 q1 q2)) (wt := 0) (cu' := 8) (su' := 1328) (by decide) trivial rfl rfl rfl rfl rfl rfl rfl rfl rfl rfl (ws' := [(7, (R_run F1 A1 ((f_L_cell sl sv ((14 : Int32) + ((2 : Int32) * v4))) &&& (63 : Int32))).2.1, G1, (R_run F1 A1 ((f_L_cell sl sv ((14 : Int32) + ((2 : Int32) * v4))) &&& (63 : Int32))).2.2, B1)]) rfl ?_
      refine Wk.pop o_L_law_817 rfl ?_
      refine Wk.forget [false, false, false, false, false, false, false, false, true, false, false, false, false, false, false, false, false, false, false] (L' := [.val (.ref 0), .val (.ref 1), .val (.int v2), .val (.int v3), .val (.int v4), .unset, .unset, .unset, .unset, .unset, .unset, .unset, .unset, .unset, .unset, .unset, .unset, .unset, .unset]) rfl rfl ?_
      exact (h5 q1 q2)
    · refine Wk.iconst o_L_law_399 (z := (0 : Int32)) (by decide) ?_
      refine Wk.istore o_L_law_400 (Or.inl rfl) (L' := [.val (.ref 0), .val (.ref 1), .val (.int v2), .val (.int v3), .val (.int v4), .unset, .unset, .unset, .val (.int (f_getFrame F1)), .val (.int (0 : Int32)), .unset, .unset, .unset, .unset, .unset, .unset, .unset, .unset, .unset]) rfl ?_
      exact (h6 q1 q2)
  · refine Wk.aloadN o_L_law_314 rfl ?_
    refine Wk.iconst o_L_law_315 (z := (1 : Int32)) (by decide) ?_
    refine Wk.iconst o_L_law_316 (z := (3 : Int32)) (by decide) ?_
    refine Wk.iload o_L_law_317 rfl ?_
    refine Wk.imul o_L_law_319 ?_
    refine Wk.iadd o_L_law_320 ?_
    refine Wk.callSF mtL [.ref 0, .int ((1 : Int32) + ((3 : Int32) * v8))] [] (H.w 46 rfl) (cv_L_cell H) o_L_law_321 (run_L_cell H sl sv [(7, F1, G1, A1, B1)] ((1 : Int32) + ((3 : Int32) * v8)) (s7 q1)) (wt := 0) (cu' := 8) (su' := 1328) (by decide) rfl rfl rfl rfl rfl rfl ?_
    refine Wk.callSF mtL [.int (f_L_cell sl sv ((1 : Int32) + ((3 : Int32) * v8)))] [] (H.w 50 rfl) (cv_L_period H) o_L_law_324 (run_L_period H sl sv [(7, F1, G1, A1, B1)] (f_L_cell sl sv ((1 : Int32) + ((3 : Int32) * v8)))) (wt := 0) (cu' := 8) (su' := 1328) (by decide) rfl rfl rfl rfl rfl rfl ?_
    refine Wk.istore o_L_law_327 (Or.inl rfl) (L' := [.val (.ref 0), .val (.ref 1), .val (.int v2), .val (.int v3), .val (.int v4), .unset, .unset, .unset, .val (.int v8), .val (.int (f_L_period (f_L_cell sl sv ((1 : Int32) + ((3 : Int32) * v8))))), .unset, .unset, .unset, .unset, .unset, .unset, .unset, .unset, .unset]) rfl ?_
    refine Wk.iload o_L_law_329 rfl ?_
    refine Wk.aloadN o_L_law_331 rfl ?_
    refine Wk.iconst o_L_law_332 (z := (2 : Int32)) (by decide) ?_
    refine Wk.iconst o_L_law_333 (z := (3 : Int32)) (by decide) ?_
    refine Wk.iload o_L_law_334 rfl ?_
    refine Wk.imul o_L_law_336 ?_
    refine Wk.iadd o_L_law_337 ?_
    refine Wk.callSF mtL [.ref 0, .int ((2 : Int32) + ((3 : Int32) * v8))] [.int (f_L_period (f_L_cell sl sv ((1 : Int32) + ((3 : Int32) * v8))))] (H.w 46 rfl) (cv_L_cell H) o_L_law_338 (run_L_cell H sl sv [(7, F1, G1, A1, B1)] ((2 : Int32) + ((3 : Int32) * v8)) (s8 q1)) (wt := 1) (cu' := 8) (su' := 1328) (by decide) rfl rfl rfl rfl rfl rfl ?_
    refine Wk.callSF mtL [.int (f_L_period (f_L_cell sl sv ((1 : Int32) + ((3 : Int32) * v8)))), .int (f_L_cell sl sv ((2 : Int32) + ((3 : Int32) * v8)))] [] (H.w 53 rfl) (cv_L_deadline H) o_L_law_341 (run_L_deadline H sl sv [(7, F1, G1, A1, B1)] (f_L_period (f_L_cell sl sv ((1 : Int32) + ((3 : Int32) * v8)))) (f_L_cell sl sv ((2 : Int32) + ((3 : Int32) * v8))) (s9 q1)) (wt := 0) (cu' := 8) (su' := 1328) (by decide) rfl rfl rfl rfl rfl rfl ?_
    refine Wk.istore o_L_law_344 (Or.inl rfl) (L' := [.val (.ref 0), .val (.ref 1), .val (.int v2), .val (.int v3), .val (.int v4), .unset, .unset, .unset, .val (.int v8), .val (.int (f_L_period (f_L_cell sl sv ((1 : Int32) + ((3 : Int32) * v8))))), .val (.int (f_L_deadline (f_L_period (f_L_cell sl sv ((1 : Int32) + ((3 : Int32) * v8)))) (f_L_cell sl sv ((2 : Int32) + ((3 : Int32) * v8))))), .unset, .unset, .unset, .unset, .unset, .unset, .unset, .unset]) rfl ?_
    refine Wk.iload o_L_law_346 rfl ?_
    refine Wk.iloadN o_L_law_348 rfl ?_
    refine Wk.aloadN o_L_law_349 rfl ?_
    refine Wk.iconst o_L_law_350 (z := (3 : Int32)) (by decide) ?_
    refine Wk.iconst o_L_law_351 (z := (3 : Int32)) (by decide) ?_
    refine Wk.iload o_L_law_352 rfl ?_
    refine Wk.imul o_L_law_354 ?_
    refine Wk.iadd o_L_law_355 ?_
    refine Wk.callSF mtL [.ref 0, .int ((3 : Int32) + ((3 : Int32) * v8))] [.int v2, .int (f_L_deadline (f_L_period (f_L_cell sl sv ((1 : Int32) + ((3 : Int32) * v8)))) (f_L_cell sl sv ((2 : Int32) + ((3 : Int32) * v8))))] (H.w 46 rfl) (cv_L_cell H) o_L_law_356 (run_L_cell H sl sv [(7, F1, G1, A1, B1)] ((3 : Int32) + ((3 : Int32) * v8)) (s10 q1)) (wt := 2) (cu' := 8) (su' := 1328) (by decide) rfl rfl rfl rfl rfl rfl ?_
    refine Wk.callSF mtL [.int (f_L_deadline (f_L_period (f_L_cell sl sv ((1 : Int32) + ((3 : Int32) * v8)))) (f_L_cell sl sv ((2 : Int32) + ((3 : Int32) * v8)))), .int v2, .int (f_L_cell sl sv ((3 : Int32) + ((3 : Int32) * v8)))] [] (H.w 56 rfl) (cv_L_wcet H) o_L_law_359 (run_L_wcet H sl sv [(7, F1, G1, A1, B1)] (f_L_deadline (f_L_period (f_L_cell sl sv ((1 : Int32) + ((3 : Int32) * v8)))) (f_L_cell sl sv ((2 : Int32) + ((3 : Int32) * v8)))) v2 (f_L_cell sl sv ((3 : Int32) + ((3 : Int32) * v8))) (s11 q1) (s12 q1)) (wt := 0) (cu' := 8) (su' := 1328) (by decide) rfl rfl rfl rfl rfl rfl ?_
    refine Wk.istore o_L_law_362 (Or.inl rfl) (L' := [.val (.ref 0), .val (.ref 1), .val (.int v2), .val (.int v3), .val (.int v4), .unset, .unset, .unset, .val (.int v8), .val (.int (f_L_period (f_L_cell sl sv ((1 : Int32) + ((3 : Int32) * v8))))), .val (.int (f_L_deadline (f_L_period (f_L_cell sl sv ((1 : Int32) + ((3 : Int32) * v8)))) (f_L_cell sl sv ((2 : Int32) + ((3 : Int32) * v8))))), .val (.int (f_L_wcet (f_L_deadline (f_L_period (f_L_cell sl sv ((1 : Int32) + ((3 : Int32) * v8)))) (f_L_cell sl sv ((2 : Int32) + ((3 : Int32) * v8)))) v2 (f_L_cell sl sv ((3 : Int32) + ((3 : Int32) * v8))))), .unset, .unset, .unset, .unset, .unset, .unset, .unset]) rfl ?_
    refine Wk.aloadN o_L_law_364 rfl ?_
    refine Wk.iload o_L_law_365 rfl ?_
    refine Wk.callLF (coC H) [.int v8] 0 [] (i' := 1) (H.w 128 rfl) (cv_getRunTicks H) o_L_law_367 (run_getRunTicks H F1 G1 A1 B1 v8 (s13 q1)) (wt := 0) (cu' := 8) (su' := 1328) (by decide) trivial rfl rfl rfl rfl rfl rfl rfl rfl rfl rfl (ws' := [(7, F1, G1, A1, B1)]) rfl ?_
    refine Wk.iload o_L_law_370 rfl ?_
    refine Wk.iloadN o_L_law_372 rfl ?_
    refine Wk.iload o_L_law_373 rfl ?_
    refine Wk.idiv o_L_law_375 (s14 q1) ?_
    refine Wk.imul o_L_law_376 ?_
    refine Wk.icmp_eq o_L_law_377 (fun q15 => ?_) (fun q15 => ?_)
    · refine Wk.iinc o_L_law_382 rfl (z := (v8 + (1 : Int32))) rfl (L' := [.val (.ref 0), .val (.ref 1), .val (.int v2), .val (.int v3), .val (.int v4), .unset, .unset, .unset, .val (.int (v8 + (1 : Int32))), .val (.int (f_L_period (f_L_cell sl sv ((1 : Int32) + ((3 : Int32) * v8))))), .val (.int (f_L_deadline (f_L_period (f_L_cell sl sv ((1 : Int32) + ((3 : Int32) * v8)))) (f_L_cell sl sv ((2 : Int32) + ((3 : Int32) * v8))))), .val (.int (f_L_wcet (f_L_deadline (f_L_period (f_L_cell sl sv ((1 : Int32) + ((3 : Int32) * v8)))) (f_L_cell sl sv ((2 : Int32) + ((3 : Int32) * v8)))) v2 (f_L_cell sl sv ((3 : Int32) + ((3 : Int32) * v8))))), .unset, .unset, .unset, .unset, .unset, .unset, .unset]) rfl ?_
      refine Wk.goto o_L_law_385 ?_
      refine Wk.forget [false, false, false, false, false, false, false, false, false, true, true, true, false, false, false, false, false, false, false] (L' := [.val (.ref 0), .val (.ref 1), .val (.int v2), .val (.int v3), .val (.int v4), .unset, .unset, .unset, .val (.int (v8 + (1 : Int32))), .unset, .unset, .unset, .unset, .unset, .unset, .unset, .unset, .unset, .unset]) rfl rfl ?_
      exact (h16 q1 q15)
    · refine Wk.iconst o_L_law_380 (z := (0 : Int32)) (by decide) ?_
      exact Wk.zreturn mrL rfl o_L_law_381 rfl (by decide) (by decide) (y := (0 : Int32)) (by decide) (h17 q1 q15)

set_option maxRecDepth 65536 in
set_option maxHeartbeats 4000000 in
theorem wp_L_law_590 {l : Launch} {Z : State} {a0 : Array Value} (H : OK Z a0) (sl : Int32) (sv : Int32 → Int32) (F1 : Nat → Int32) (G1 : Nat → Int64) (A1 : Nat → Int32 → Int32) (B1 : Nat → Int32 → Int64) (v2 : Int32) (v3 : Int32) (v4 : Int32) (v8 : Int32) (v9 : Int32) {Q : Option Value → WL → Prop} (s2 : ¬ v9 < v2 → ((14 : Int32) + ((2 : Int32) * v4)) < sl → ¬ ((14 : Int32) + ((2 : Int32) * v4)) < 0) (s3 : ¬ v9 < v2 → (en_run F1 A1 ((f_L_cell sl sv ((14 : Int32) + ((2 : Int32) * v4))) &&& (63 : Int32))).isSome = true) (h4 : ¬ v9 < v2 → Wk l Z (MoL Z cdC "CyclicExecutiveOwnLaw" true) md_L_law 818 [.val (.ref 0), .val (.ref 1), .val (.int v2), .val (.int v3), .val (.int v4), .unset, .unset, .unset, .unset, .unset, .unset, .unset, .unset, .unset, .unset, .unset, .unset, .unset, .unset] [] (sl, sv, [(7, (R_run F1 A1 ((f_L_cell sl sv ((14 : Int32) + ((2 : Int32) * v4))) &&& (63 : Int32))).2.1, G1, (R_run F1 A1 ((f_L_cell sl sv ((14 : Int32) + ((2 : Int32) * v4))) &&& (63 : Int32))).2.2, B1)]) 8 1328 Q) (s5 : v9 < v2 → ((1 : Int32) + ((3 : Int32) * v9)) < sl → ¬ ((1 : Int32) + ((3 : Int32) * v9)) < 0) (s6 : v9 < v2 → ((2 : Int32) + ((3 : Int32) * v9)) < sl → ¬ ((2 : Int32) + ((3 : Int32) * v9)) < 0) (s7 : v9 < v2 → ¬ (((f_L_period (f_L_cell sl sv ((1 : Int32) + ((3 : Int32) * v9)))) + (1 : Int32)) / (2 : Int32)) = (0 : Int32)) (s8 : v9 < v2 → ((3 : Int32) + ((3 : Int32) * v9)) < sl → ¬ ((3 : Int32) + ((3 : Int32) * v9)) < 0) (s9 : v9 < v2 → ¬ v2 = (0 : Int32)) (s10 : v9 < v2 → ¬ (if ((f_L_deadline (f_L_period (f_L_cell sl sv ((1 : Int32) + ((3 : Int32) * v9)))) (f_L_cell sl sv ((2 : Int32) + ((3 : Int32) * v9)))) / v2) < (1 : Int32) then (1 : Int32) else ((f_L_deadline (f_L_period (f_L_cell sl sv ((1 : Int32) + ((3 : Int32) * v9)))) (f_L_cell sl sv ((2 : Int32) + ((3 : Int32) * v9)))) / v2)) = (0 : Int32)) (h11 : v9 < v2 → Wk l Z (MoL Z cdC "CyclicExecutiveOwnLaw" true) md_L_law 649 [.val (.ref 0), .val (.ref 1), .val (.int v2), .val (.int v3), .val (.int v4), .unset, .unset, .unset, .val (.int v8), .val (.int v9), .val (.int (f_L_period (f_L_cell sl sv ((1 : Int32) + ((3 : Int32) * v9))))), .unset, .val (.int (f_L_wcet (f_L_deadline (f_L_period (f_L_cell sl sv ((1 : Int32) + ((3 : Int32) * v9)))) (f_L_cell sl sv ((2 : Int32) + ((3 : Int32) * v9)))) v2 (f_L_cell sl sv ((3 : Int32) + ((3 : Int32) * v9))))), .val (.int (0 : Int32)), .unset, .unset, .unset, .unset, .unset] [] (sl, sv, [(7, F1, G1, A1, B1)]) 8 1328 Q) :
    Wk l Z (MoL Z cdC "CyclicExecutiveOwnLaw" true) md_L_law 590 [.val (.ref 0), .val (.ref 1), .val (.int v2), .val (.int v3), .val (.int v4), .unset, .unset, .unset, .val (.int v8), .val (.int v9), .unset, .unset, .unset, .unset, .unset, .unset, .unset, .unset, .unset] [] (sl, sv, [(7, F1, G1, A1, B1)]) 8 1328 Q := by
  refine Wk.iload o_L_law_590 rfl ?_
  refine Wk.iloadN o_L_law_592 rfl ?_
  refine Wk.icmp_ge o_L_law_593 (fun q1 => ?_) (fun q1 => ?_)
  · refine Wk.aloadN o_L_law_799 rfl ?_
    refine Wk.aloadN o_L_law_800 rfl ?_
    refine Wk.bipush o_L_law_801 (z := (14 : Int32)) (by decide) ?_
    refine Wk.iconst o_L_law_803 (z := (2 : Int32)) (by decide) ?_
    refine Wk.iload o_L_law_804 rfl ?_
    refine Wk.imul o_L_law_806 ?_
    refine Wk.iadd o_L_law_807 ?_
    refine Wk.callSF mtL [.ref 0, .int ((14 : Int32) + ((2 : Int32) * v4))] [.ref 1] (H.w 46 rfl) (cv_L_cell H) o_L_law_808 (run_L_cell H sl sv [(7, F1, G1, A1, B1)] ((14 : Int32) + ((2 : Int32) * v4)) (s2 q1)) (wt := 1) (cu' := 8) (su' := 1328) (by decide) rfl rfl rfl rfl rfl rfl ?_
    refine Wk.bipush o_L_law_811 (z := (63 : Int32)) (by decide) ?_
    refine Wk.iand o_L_law_813 ?_
    refine Wk.callLF (coC H) [.int ((f_L_cell sl sv ((14 : Int32) + ((2 : Int32) * v4))) &&& (63 : Int32))] 0 [] (i' := 1) (H.w 118 rfl) (cv_run H) o_L_law_814 (run_run H F1 G1 A1 B1 ((f_L_cell sl sv ((14 : Int32) + ((2 : Int32) * v4))) &&& (63 : Int32)) (s3 q1)) (wt := 0) (cu' := 8) (su' := 1328) (by decide) trivial rfl rfl rfl rfl rfl rfl rfl rfl rfl rfl (ws' := [(7, (R_run F1 A1 ((f_L_cell sl sv ((14 : Int32) + ((2 : Int32) * v4))) &&& (63 : Int32))).2.1, G1, (R_run F1 A1 ((f_L_cell sl sv ((14 : Int32) + ((2 : Int32) * v4))) &&& (63 : Int32))).2.2, B1)]) rfl ?_
    refine Wk.pop o_L_law_817 rfl ?_
    refine Wk.forget [false, false, false, false, false, false, false, false, true, true, false, false, false, false, false, false, false, false, false] (L' := [.val (.ref 0), .val (.ref 1), .val (.int v2), .val (.int v3), .val (.int v4), .unset, .unset, .unset, .unset, .unset, .unset, .unset, .unset, .unset, .unset, .unset, .unset, .unset, .unset]) rfl rfl ?_
    exact (h4 q1)
  · refine Wk.aloadN o_L_law_596 rfl ?_
    refine Wk.iconst o_L_law_597 (z := (1 : Int32)) (by decide) ?_
    refine Wk.iconst o_L_law_598 (z := (3 : Int32)) (by decide) ?_
    refine Wk.iload o_L_law_599 rfl ?_
    refine Wk.imul o_L_law_601 ?_
    refine Wk.iadd o_L_law_602 ?_
    refine Wk.callSF mtL [.ref 0, .int ((1 : Int32) + ((3 : Int32) * v9))] [] (H.w 46 rfl) (cv_L_cell H) o_L_law_603 (run_L_cell H sl sv [(7, F1, G1, A1, B1)] ((1 : Int32) + ((3 : Int32) * v9)) (s5 q1)) (wt := 0) (cu' := 8) (su' := 1328) (by decide) rfl rfl rfl rfl rfl rfl ?_
    refine Wk.callSF mtL [.int (f_L_cell sl sv ((1 : Int32) + ((3 : Int32) * v9)))] [] (H.w 50 rfl) (cv_L_period H) o_L_law_606 (run_L_period H sl sv [(7, F1, G1, A1, B1)] (f_L_cell sl sv ((1 : Int32) + ((3 : Int32) * v9)))) (wt := 0) (cu' := 8) (su' := 1328) (by decide) rfl rfl rfl rfl rfl rfl ?_
    refine Wk.istore o_L_law_609 (Or.inl rfl) (L' := [.val (.ref 0), .val (.ref 1), .val (.int v2), .val (.int v3), .val (.int v4), .unset, .unset, .unset, .val (.int v8), .val (.int v9), .val (.int (f_L_period (f_L_cell sl sv ((1 : Int32) + ((3 : Int32) * v9))))), .unset, .unset, .unset, .unset, .unset, .unset, .unset, .unset]) rfl ?_
    refine Wk.iload o_L_law_611 rfl ?_
    refine Wk.aloadN o_L_law_613 rfl ?_
    refine Wk.iconst o_L_law_614 (z := (2 : Int32)) (by decide) ?_
    refine Wk.iconst o_L_law_615 (z := (3 : Int32)) (by decide) ?_
    refine Wk.iload o_L_law_616 rfl ?_
    refine Wk.imul o_L_law_618 ?_
    refine Wk.iadd o_L_law_619 ?_
    refine Wk.callSF mtL [.ref 0, .int ((2 : Int32) + ((3 : Int32) * v9))] [.int (f_L_period (f_L_cell sl sv ((1 : Int32) + ((3 : Int32) * v9))))] (H.w 46 rfl) (cv_L_cell H) o_L_law_620 (run_L_cell H sl sv [(7, F1, G1, A1, B1)] ((2 : Int32) + ((3 : Int32) * v9)) (s6 q1)) (wt := 1) (cu' := 8) (su' := 1328) (by decide) rfl rfl rfl rfl rfl rfl ?_
    refine Wk.callSF mtL [.int (f_L_period (f_L_cell sl sv ((1 : Int32) + ((3 : Int32) * v9)))), .int (f_L_cell sl sv ((2 : Int32) + ((3 : Int32) * v9)))] [] (H.w 53 rfl) (cv_L_deadline H) o_L_law_623 (run_L_deadline H sl sv [(7, F1, G1, A1, B1)] (f_L_period (f_L_cell sl sv ((1 : Int32) + ((3 : Int32) * v9)))) (f_L_cell sl sv ((2 : Int32) + ((3 : Int32) * v9))) (s7 q1)) (wt := 0) (cu' := 8) (su' := 1328) (by decide) rfl rfl rfl rfl rfl rfl ?_
    refine Wk.istore o_L_law_626 (Or.inl rfl) (L' := [.val (.ref 0), .val (.ref 1), .val (.int v2), .val (.int v3), .val (.int v4), .unset, .unset, .unset, .val (.int v8), .val (.int v9), .val (.int (f_L_period (f_L_cell sl sv ((1 : Int32) + ((3 : Int32) * v9))))), .val (.int (f_L_deadline (f_L_period (f_L_cell sl sv ((1 : Int32) + ((3 : Int32) * v9)))) (f_L_cell sl sv ((2 : Int32) + ((3 : Int32) * v9))))), .unset, .unset, .unset, .unset, .unset, .unset, .unset]) rfl ?_
    refine Wk.iload o_L_law_628 rfl ?_
    refine Wk.iloadN o_L_law_630 rfl ?_
    refine Wk.aloadN o_L_law_631 rfl ?_
    refine Wk.iconst o_L_law_632 (z := (3 : Int32)) (by decide) ?_
    refine Wk.iconst o_L_law_633 (z := (3 : Int32)) (by decide) ?_
    refine Wk.iload o_L_law_634 rfl ?_
    refine Wk.imul o_L_law_636 ?_
    refine Wk.iadd o_L_law_637 ?_
    refine Wk.callSF mtL [.ref 0, .int ((3 : Int32) + ((3 : Int32) * v9))] [.int v2, .int (f_L_deadline (f_L_period (f_L_cell sl sv ((1 : Int32) + ((3 : Int32) * v9)))) (f_L_cell sl sv ((2 : Int32) + ((3 : Int32) * v9))))] (H.w 46 rfl) (cv_L_cell H) o_L_law_638 (run_L_cell H sl sv [(7, F1, G1, A1, B1)] ((3 : Int32) + ((3 : Int32) * v9)) (s8 q1)) (wt := 2) (cu' := 8) (su' := 1328) (by decide) rfl rfl rfl rfl rfl rfl ?_
    refine Wk.callSF mtL [.int (f_L_deadline (f_L_period (f_L_cell sl sv ((1 : Int32) + ((3 : Int32) * v9)))) (f_L_cell sl sv ((2 : Int32) + ((3 : Int32) * v9)))), .int v2, .int (f_L_cell sl sv ((3 : Int32) + ((3 : Int32) * v9)))] [] (H.w 56 rfl) (cv_L_wcet H) o_L_law_641 (run_L_wcet H sl sv [(7, F1, G1, A1, B1)] (f_L_deadline (f_L_period (f_L_cell sl sv ((1 : Int32) + ((3 : Int32) * v9)))) (f_L_cell sl sv ((2 : Int32) + ((3 : Int32) * v9)))) v2 (f_L_cell sl sv ((3 : Int32) + ((3 : Int32) * v9))) (s9 q1) (s10 q1)) (wt := 0) (cu' := 8) (su' := 1328) (by decide) rfl rfl rfl rfl rfl rfl ?_
    refine Wk.istore o_L_law_644 (Or.inl rfl) (L' := [.val (.ref 0), .val (.ref 1), .val (.int v2), .val (.int v3), .val (.int v4), .unset, .unset, .unset, .val (.int v8), .val (.int v9), .val (.int (f_L_period (f_L_cell sl sv ((1 : Int32) + ((3 : Int32) * v9))))), .val (.int (f_L_deadline (f_L_period (f_L_cell sl sv ((1 : Int32) + ((3 : Int32) * v9)))) (f_L_cell sl sv ((2 : Int32) + ((3 : Int32) * v9))))), .val (.int (f_L_wcet (f_L_deadline (f_L_period (f_L_cell sl sv ((1 : Int32) + ((3 : Int32) * v9)))) (f_L_cell sl sv ((2 : Int32) + ((3 : Int32) * v9)))) v2 (f_L_cell sl sv ((3 : Int32) + ((3 : Int32) * v9))))), .unset, .unset, .unset, .unset, .unset, .unset]) rfl ?_
    refine Wk.iconst o_L_law_646 (z := (0 : Int32)) (by decide) ?_
    refine Wk.istore o_L_law_647 (Or.inl rfl) (L' := [.val (.ref 0), .val (.ref 1), .val (.int v2), .val (.int v3), .val (.int v4), .unset, .unset, .unset, .val (.int v8), .val (.int v9), .val (.int (f_L_period (f_L_cell sl sv ((1 : Int32) + ((3 : Int32) * v9))))), .val (.int (f_L_deadline (f_L_period (f_L_cell sl sv ((1 : Int32) + ((3 : Int32) * v9)))) (f_L_cell sl sv ((2 : Int32) + ((3 : Int32) * v9))))), .val (.int (f_L_wcet (f_L_deadline (f_L_period (f_L_cell sl sv ((1 : Int32) + ((3 : Int32) * v9)))) (f_L_cell sl sv ((2 : Int32) + ((3 : Int32) * v9)))) v2 (f_L_cell sl sv ((3 : Int32) + ((3 : Int32) * v9))))), .val (.int (0 : Int32)), .unset, .unset, .unset, .unset, .unset]) rfl ?_
    refine Wk.forget [false, false, false, false, false, false, false, false, false, false, false, true, false, false, false, false, false, false, false] (L' := [.val (.ref 0), .val (.ref 1), .val (.int v2), .val (.int v3), .val (.int v4), .unset, .unset, .unset, .val (.int v8), .val (.int v9), .val (.int (f_L_period (f_L_cell sl sv ((1 : Int32) + ((3 : Int32) * v9))))), .unset, .val (.int (f_L_wcet (f_L_deadline (f_L_period (f_L_cell sl sv ((1 : Int32) + ((3 : Int32) * v9)))) (f_L_cell sl sv ((2 : Int32) + ((3 : Int32) * v9)))) v2 (f_L_cell sl sv ((3 : Int32) + ((3 : Int32) * v9))))), .val (.int (0 : Int32)), .unset, .unset, .unset, .unset, .unset]) rfl rfl ?_
    exact (h11 q1)

set_option maxRecDepth 65536 in
set_option maxHeartbeats 4000000 in
theorem wp_L_law_649 {l : Launch} {Z : State} {a0 : Array Value} (H : OK Z a0) (sl : Int32) (sv : Int32 → Int32) (F1 : Nat → Int32) (G1 : Nat → Int64) (A1 : Nat → Int32 → Int32) (B1 : Nat → Int32 → Int64) (v2 : Int32) (v3 : Int32) (v4 : Int32) (v8 : Int32) (v9 : Int32) (v10 : Int32) (v12 : Int32) (v13 : Int32) {Q : Option Value → WL → Prop} (s1 : ¬ v10 = (0 : Int32)) (h3 : ¬ v13 < (v3 / v10) → Wk l Z (MoL Z cdC "CyclicExecutiveOwnLaw" true) md_L_law 590 [.val (.ref 0), .val (.ref 1), .val (.int v2), .val (.int v3), .val (.int v4), .unset, .unset, .unset, .val (.int v8), .val (.int (v9 + (1 : Int32))), .unset, .unset, .unset, .unset, .unset, .unset, .unset, .unset, .unset] [] (sl, sv, [(7, F1, G1, A1, B1)]) 8 1328 Q) (h4 : v13 < (v3 / v10) → Wk l Z (MoL Z cdC "CyclicExecutiveOwnLaw" true) md_L_law 667 [.val (.ref 0), .val (.ref 1), .val (.int v2), .val (.int v3), .val (.int v4), .unset, .unset, .unset, .val (.int v8), .val (.int v9), .val (.int v10), .unset, .val (.int v12), .val (.int v13), .val (.int (0 : Int32)), .val (.int (0 : Int32)), .val (.int (0 : Int32)), .unset, .unset] [] (sl, sv, [(7, F1, G1, A1, B1)]) 8 1328 Q) :
    Wk l Z (MoL Z cdC "CyclicExecutiveOwnLaw" true) md_L_law 649 [.val (.ref 0), .val (.ref 1), .val (.int v2), .val (.int v3), .val (.int v4), .unset, .unset, .unset, .val (.int v8), .val (.int v9), .val (.int v10), .unset, .val (.int v12), .val (.int v13), .unset, .unset, .unset, .unset, .unset] [] (sl, sv, [(7, F1, G1, A1, B1)]) 8 1328 Q := by
  refine Wk.iload o_L_law_649 rfl ?_
  refine Wk.iloadN o_L_law_651 rfl ?_
  refine Wk.iload o_L_law_652 rfl ?_
  refine Wk.idiv o_L_law_654 s1 ?_
  refine Wk.icmp_ge o_L_law_655 (fun q2 => ?_) (fun q2 => ?_)
  · refine Wk.iinc o_L_law_793 rfl (z := (v9 + (1 : Int32))) rfl (L' := [.val (.ref 0), .val (.ref 1), .val (.int v2), .val (.int v3), .val (.int v4), .unset, .unset, .unset, .val (.int v8), .val (.int (v9 + (1 : Int32))), .val (.int v10), .unset, .val (.int v12), .val (.int v13), .unset, .unset, .unset, .unset, .unset]) rfl ?_
    refine Wk.goto o_L_law_796 ?_
    refine Wk.forget [false, false, false, false, false, false, false, false, false, false, true, false, true, true, false, false, false, false, false] (L' := [.val (.ref 0), .val (.ref 1), .val (.int v2), .val (.int v3), .val (.int v4), .unset, .unset, .unset, .val (.int v8), .val (.int (v9 + (1 : Int32))), .unset, .unset, .unset, .unset, .unset, .unset, .unset, .unset, .unset]) rfl rfl ?_
    exact (h3 q2)
  · refine Wk.iconst o_L_law_658 (z := (0 : Int32)) (by decide) ?_
    refine Wk.istore o_L_law_659 (Or.inl rfl) (L' := [.val (.ref 0), .val (.ref 1), .val (.int v2), .val (.int v3), .val (.int v4), .unset, .unset, .unset, .val (.int v8), .val (.int v9), .val (.int v10), .unset, .val (.int v12), .val (.int v13), .val (.int (0 : Int32)), .unset, .unset, .unset, .unset]) rfl ?_
    refine Wk.iconst o_L_law_661 (z := (0 : Int32)) (by decide) ?_
    refine Wk.istore o_L_law_662 (Or.inl rfl) (L' := [.val (.ref 0), .val (.ref 1), .val (.int v2), .val (.int v3), .val (.int v4), .unset, .unset, .unset, .val (.int v8), .val (.int v9), .val (.int v10), .unset, .val (.int v12), .val (.int v13), .val (.int (0 : Int32)), .val (.int (0 : Int32)), .unset, .unset, .unset]) rfl ?_
    refine Wk.iconst o_L_law_664 (z := (0 : Int32)) (by decide) ?_
    refine Wk.istore o_L_law_665 (Or.inl rfl) (L' := [.val (.ref 0), .val (.ref 1), .val (.int v2), .val (.int v3), .val (.int v4), .unset, .unset, .unset, .val (.int v8), .val (.int v9), .val (.int v10), .unset, .val (.int v12), .val (.int v13), .val (.int (0 : Int32)), .val (.int (0 : Int32)), .val (.int (0 : Int32)), .unset, .unset]) rfl ?_
    exact (h4 q2)

set_option maxRecDepth 65536 in
set_option maxHeartbeats 4000000 in
theorem wp_L_law_667 {l : Launch} {Z : State} {a0 : Array Value} (H : OK Z a0) (sl : Int32) (sv : Int32 → Int32) (F1 : Nat → Int32) (G1 : Nat → Int64) (A1 : Nat → Int32 → Int32) (B1 : Nat → Int32 → Int64) (v2 : Int32) (v3 : Int32) (v4 : Int32) (v8 : Int32) (v9 : Int32) (v10 : Int32) (v12 : Int32) (v13 : Int32) (v14 : Int32) (v15 : Int32) (v16 : Int32) {Q : Option Value → WL → Prop} (s1 : ¬ v8 = (0 : Int32)) (s4 : ¬ v16 < (v3 / v8) → v14 = v12 → (en_getSliceCount F1 A1 v9 v13).isSome = true) (s6 : ¬ v16 < (v3 / v8) → v14 = v12 → (R_getSliceCount F1 A1 v9 v13) = v15 → ¬ v8 = (0 : Int32)) (h8 : ¬ v16 < (v3 / v8) → v14 = v12 → (R_getSliceCount F1 A1 v9 v13) = v15 → ¬ v15 < (((v12 + v8) - (1 : Int32)) / v8) → Wk l Z (MoL Z cdC "CyclicExecutiveOwnLaw" true) md_L_law 649 [.val (.ref 0), .val (.ref 1), .val (.int v2), .val (.int v3), .val (.int v4), .unset, .unset, .unset, .val (.int v8), .val (.int v9), .val (.int v10), .unset, .val (.int v12), .val (.int (v13 + (1 : Int32))), .unset, .unset, .unset, .unset, .unset] [] (sl, sv, [(7, F1, G1, A1, B1)]) 8 1328 Q) (h9 : ¬ v16 < (v3 / v8) → v14 = v12 → (R_getSliceCount F1 A1 v9 v13) = v15 → v15 < (((v12 + v8) - (1 : Int32)) / v8) → Q (some (.int (0 : Int32))) (sl, sv, [(7, F1, G1, A1, B1)])) (h10 : ¬ v16 < (v3 / v8) → v14 = v12 → ¬ (R_getSliceCount F1 A1 v9 v13) = v15 → Q (some (.int (0 : Int32))) (sl, sv, [(7, F1, G1, A1, B1)])) (h11 : ¬ v16 < (v3 / v8) → ¬ v14 = v12 → Q (some (.int (0 : Int32))) (sl, sv, [(7, F1, G1, A1, B1)])) (h12 : v16 < (v3 / v8) → Wk l Z (MoL Z cdC "CyclicExecutiveOwnLaw" true) md_L_law 686 [.val (.ref 0), .val (.ref 1), .val (.int v2), .val (.int v3), .val (.int v4), .unset, .unset, .unset, .val (.int v8), .val (.int v9), .val (.int v10), .unset, .val (.int v12), .val (.int v13), .val (.int v14), .val (.int v15), .val (.int v16), .val (.int (0 : Int32)), .val (.int (v16 * v8))] [] (sl, sv, [(7, F1, G1, A1, B1)]) 8 1328 Q) :
    Wk l Z (MoL Z cdC "CyclicExecutiveOwnLaw" true) md_L_law 667 [.val (.ref 0), .val (.ref 1), .val (.int v2), .val (.int v3), .val (.int v4), .unset, .unset, .unset, .val (.int v8), .val (.int v9), .val (.int v10), .unset, .val (.int v12), .val (.int v13), .val (.int v14), .val (.int v15), .val (.int v16), .unset, .unset] [] (sl, sv, [(7, F1, G1, A1, B1)]) 8 1328 Q := by
  refine Wk.iload o_L_law_667 rfl ?_
  refine Wk.iloadN o_L_law_669 rfl ?_
  refine Wk.iload o_L_law_670 rfl ?_
  refine Wk.idiv o_L_law_672 s1 ?_
  refine Wk.icmp_ge o_L_law_673 (fun q2 => ?_) (fun q2 => ?_)
  · refine Wk.iload o_L_law_746 rfl ?_
    refine Wk.iload o_L_law_748 rfl ?_
    refine Wk.icmp_eq o_L_law_750 (fun q3 => ?_) (fun q3 => ?_)
    · refine Wk.aloadN o_L_law_755 rfl ?_
      refine Wk.iload o_L_law_756 rfl ?_
      refine Wk.iload o_L_law_758 rfl ?_
      refine Wk.callLF (coC H) [.int v9, .int v13] 0 [] (i' := 1) (H.w 147 rfl) (cv_getSliceCount H) o_L_law_760 (run_getSliceCount H F1 G1 A1 B1 v9 v13 (s4 q2 q3)) (wt := 0) (cu' := 8) (su' := 1328) (by decide) trivial rfl rfl rfl rfl rfl rfl rfl rfl rfl rfl (ws' := [(7, F1, G1, A1, B1)]) rfl ?_
      refine Wk.iload o_L_law_763 rfl ?_
      refine Wk.icmp_eq o_L_law_765 (fun q5 => ?_) (fun q5 => ?_)
      · refine Wk.iload o_L_law_770 rfl ?_
        refine Wk.iload o_L_law_772 rfl ?_
        refine Wk.iload o_L_law_774 rfl ?_
        refine Wk.iadd o_L_law_776 ?_
        refine Wk.iconst o_L_law_777 (z := (1 : Int32)) (by decide) ?_
        refine Wk.isub o_L_law_778 ?_
        refine Wk.iload o_L_law_779 rfl ?_
        refine Wk.idiv o_L_law_781 (s6 q2 q3 q5) ?_
        refine Wk.icmp_ge o_L_law_782 (fun q7 => ?_) (fun q7 => ?_)
        · refine Wk.iinc o_L_law_787 rfl (z := (v13 + (1 : Int32))) rfl (L' := [.val (.ref 0), .val (.ref 1), .val (.int v2), .val (.int v3), .val (.int v4), .unset, .unset, .unset, .val (.int v8), .val (.int v9), .val (.int v10), .unset, .val (.int v12), .val (.int (v13 + (1 : Int32))), .val (.int v14), .val (.int v15), .val (.int v16), .unset, .unset]) rfl ?_
          refine Wk.goto o_L_law_790 ?_
          refine Wk.forget [false, false, false, false, false, false, false, false, false, false, false, false, false, false, true, true, true, false, false] (L' := [.val (.ref 0), .val (.ref 1), .val (.int v2), .val (.int v3), .val (.int v4), .unset, .unset, .unset, .val (.int v8), .val (.int v9), .val (.int v10), .unset, .val (.int v12), .val (.int (v13 + (1 : Int32))), .unset, .unset, .unset, .unset, .unset]) rfl rfl ?_
          exact (h8 q2 q3 q5 q7)
        · refine Wk.iconst o_L_law_785 (z := (0 : Int32)) (by decide) ?_
          exact Wk.zreturn mrL rfl o_L_law_786 rfl (by decide) (by decide) (y := (0 : Int32)) (by decide) (h9 q2 q3 q5 q7)
      · refine Wk.iconst o_L_law_768 (z := (0 : Int32)) (by decide) ?_
        exact Wk.zreturn mrL rfl o_L_law_769 rfl (by decide) (by decide) (y := (0 : Int32)) (by decide) (h10 q2 q3 q5)
    · refine Wk.iconst o_L_law_753 (z := (0 : Int32)) (by decide) ?_
      exact Wk.zreturn mrL rfl o_L_law_754 rfl (by decide) (by decide) (y := (0 : Int32)) (by decide) (h11 q2 q3)
  · refine Wk.iconst o_L_law_676 (z := (0 : Int32)) (by decide) ?_
    refine Wk.istore o_L_law_677 (Or.inl rfl) (L' := [.val (.ref 0), .val (.ref 1), .val (.int v2), .val (.int v3), .val (.int v4), .unset, .unset, .unset, .val (.int v8), .val (.int v9), .val (.int v10), .unset, .val (.int v12), .val (.int v13), .val (.int v14), .val (.int v15), .val (.int v16), .val (.int (0 : Int32)), .unset]) rfl ?_
    refine Wk.iload o_L_law_679 rfl ?_
    refine Wk.iload o_L_law_681 rfl ?_
    refine Wk.imul o_L_law_683 ?_
    refine Wk.istore o_L_law_684 (Or.inl rfl) (L' := [.val (.ref 0), .val (.ref 1), .val (.int v2), .val (.int v3), .val (.int v4), .unset, .unset, .unset, .val (.int v8), .val (.int v9), .val (.int v10), .unset, .val (.int v12), .val (.int v13), .val (.int v14), .val (.int v15), .val (.int v16), .val (.int (0 : Int32)), .val (.int (v16 * v8))]) rfl ?_
    exact (h12 q2)

set_option maxRecDepth 65536 in
set_option maxHeartbeats 4000000 in
theorem wp_L_law_686 {l : Launch} {Z : State} {a0 : Array Value} (H : OK Z a0) (sl : Int32) (sv : Int32 → Int32) (F1 : Nat → Int32) (G1 : Nat → Int64) (A1 : Nat → Int32 → Int32) (B1 : Nat → Int32 → Int64) (v2 : Int32) (v3 : Int32) (v4 : Int32) (v8 : Int32) (v9 : Int32) (v10 : Int32) (v12 : Int32) (v13 : Int32) (v14 : Int32) (v15 : Int32) (v16 : Int32) (v17 : Int32) (v18 : Int32) {Q : Option Value → WL → Prop} (h4 : ¬ v18 < ((v16 + (1 : Int32)) * v8) → Wk l Z (MoL Z cdC "CyclicExecutiveOwnLaw" true) md_L_law 667 [.val (.ref 0), .val (.ref 1), .val (.int v2), .val (.int v3), .val (.int v4), .unset, .unset, .unset, .val (.int v8), .val (.int v9), .val (.int v10), .unset, .val (.int v12), .val (.int v13), .val (.int v14), .val (.int (if v17 = 0 then v15 else (v15 + (1 : Int32)))), .val (.int (v16 + (1 : Int32))), .unset, .unset] [] (sl, sv, [(7, F1, G1, A1, B1)]) 8 1328 Q) (s5 : v18 < ((v16 + (1 : Int32)) * v8) → (en_getTickTask F1 A1 v18).isSome = true) (s7 : v18 < ((v16 + (1 : Int32)) * v8) → (R_getTickTask F1 A1 v18) = v9 → (en_getTickJob F1 A1 v18).isSome = true) (h11 : v18 < ((v16 + (1 : Int32)) * v8) → Wk l Z (MoL Z cdC "CyclicExecutiveOwnLaw" true) md_L_law 686 [.val (.ref 0), .val (.ref 1), .val (.int v2), .val (.int v3), .val (.int v4), .unset, .unset, .unset, .val (.int v8), .val (.int v9), .val (.int v10), .unset, .val (.int v12), .val (.int v13), .val (.int (if (R_getTickTask F1 A1 v18) = v9 then (if (R_getTickJob F1 A1 v18) = v13 then (v14 + (1 : Int32)) else v14) else v14)), .val (.int v15), .val (.int v16), .val (.int (if (R_getTickTask F1 A1 v18) = v9 then (if (R_getTickJob F1 A1 v18) = v13 then (1 : Int32) else v17) else v17)), .val (.int (v18 + (1 : Int32)))] [] (sl, sv, [(7, F1, G1, A1, B1)]) 8 1328 Q) :
    Wk l Z (MoL Z cdC "CyclicExecutiveOwnLaw" true) md_L_law 686 [.val (.ref 0), .val (.ref 1), .val (.int v2), .val (.int v3), .val (.int v4), .unset, .unset, .unset, .val (.int v8), .val (.int v9), .val (.int v10), .unset, .val (.int v12), .val (.int v13), .val (.int v14), .val (.int v15), .val (.int v16), .val (.int v17), .val (.int v18)] [] (sl, sv, [(7, F1, G1, A1, B1)]) 8 1328 Q := by
  refine Wk.iload o_L_law_686 rfl ?_
  refine Wk.iload o_L_law_688 rfl ?_
  refine Wk.iconst o_L_law_690 (z := (1 : Int32)) (by decide) ?_
  refine Wk.iadd o_L_law_691 ?_
  refine Wk.iload o_L_law_692 rfl ?_
  refine Wk.imul o_L_law_694 ?_
  refine Wk.icmp_ge o_L_law_695 (fun q1 => ?_) (fun q1 => ?_)
  · refine Wk.iload o_L_law_732 rfl ?_
    have J3 : Wk l Z (MoL Z cdC "CyclicExecutiveOwnLaw" true) md_L_law 740 [.val (.ref 0), .val (.ref 1), .val (.int v2), .val (.int v3), .val (.int v4), .unset, .unset, .unset, .val (.int v8), .val (.int v9), .val (.int v10), .unset, .val (.int v12), .val (.int v13), .val (.int v14), .val (.int (if v17 = 0 then v15 else (v15 + (1 : Int32)))), .val (.int v16), .val (.int v17), .val (.int v18)] [] (sl, sv, [(7, F1, G1, A1, B1)]) 8 1328 Q := by
      refine Wk.iinc o_L_law_740 rfl (z := (v16 + (1 : Int32))) rfl (L' := [.val (.ref 0), .val (.ref 1), .val (.int v2), .val (.int v3), .val (.int v4), .unset, .unset, .unset, .val (.int v8), .val (.int v9), .val (.int v10), .unset, .val (.int v12), .val (.int v13), .val (.int v14), .val (.int (if v17 = 0 then v15 else (v15 + (1 : Int32)))), .val (.int (v16 + (1 : Int32))), .val (.int v17), .val (.int v18)]) rfl ?_
      refine Wk.goto o_L_law_743 ?_
      refine Wk.forget [false, false, false, false, false, false, false, false, false, false, false, false, false, false, false, false, false, true, true] (L' := [.val (.ref 0), .val (.ref 1), .val (.int v2), .val (.int v3), .val (.int v4), .unset, .unset, .unset, .val (.int v8), .val (.int v9), .val (.int v10), .unset, .val (.int v12), .val (.int v13), .val (.int v14), .val (.int (if v17 = 0 then v15 else (v15 + (1 : Int32)))), .val (.int (v16 + (1 : Int32))), .unset, .unset]) rfl rfl ?_
      exact (h4 q1)
    refine Wk.if_eq o_L_law_734 (fun q2 => ?_) (fun q2 => ?_)
    · first | (rw [show ((if v17 = 0 then v15 else (v15 + (1 : Int32))) : Int32) = v15 from if_pos q2] at J3; exact J3) | exact J3 | (simp only [if_pos q2] at J3 ⊢; exact J3)
    · refine Wk.iinc o_L_law_737 rfl (z := (v15 + (1 : Int32))) rfl (L' := [.val (.ref 0), .val (.ref 1), .val (.int v2), .val (.int v3), .val (.int v4), .unset, .unset, .unset, .val (.int v8), .val (.int v9), .val (.int v10), .unset, .val (.int v12), .val (.int v13), .val (.int v14), .val (.int (v15 + (1 : Int32))), .val (.int v16), .val (.int v17), .val (.int v18)]) rfl ?_
      first | (rw [show ((if v17 = 0 then v15 else (v15 + (1 : Int32))) : Int32) = (v15 + (1 : Int32)) from if_neg q2] at J3; exact J3) | exact J3 | (simp only [if_neg q2] at J3 ⊢; exact J3)
  · refine Wk.aloadN o_L_law_698 rfl ?_
    refine Wk.iload o_L_law_699 rfl ?_
    refine Wk.callLF (coC H) [.int v18] 0 [] (i' := 1) (H.w 133 rfl) (cv_getTickTask H) o_L_law_701 (run_getTickTask H F1 G1 A1 B1 v18 (s5 q1)) (wt := 0) (cu' := 8) (su' := 1328) (by decide) trivial rfl rfl rfl rfl rfl rfl rfl rfl rfl rfl (ws' := [(7, F1, G1, A1, B1)]) rfl ?_
    refine Wk.iload o_L_law_704 rfl ?_
    have J10 : Wk l Z (MoL Z cdC "CyclicExecutiveOwnLaw" true) md_L_law 726 [.val (.ref 0), .val (.ref 1), .val (.int v2), .val (.int v3), .val (.int v4), .unset, .unset, .unset, .val (.int v8), .val (.int v9), .val (.int v10), .unset, .val (.int v12), .val (.int v13), .val (.int (if (R_getTickTask F1 A1 v18) = v9 then (if (R_getTickJob F1 A1 v18) = v13 then (v14 + (1 : Int32)) else v14) else v14)), .val (.int v15), .val (.int v16), .val (.int (if (R_getTickTask F1 A1 v18) = v9 then (if (R_getTickJob F1 A1 v18) = v13 then (1 : Int32) else v17) else v17)), .val (.int v18)] [] (sl, sv, [(7, F1, G1, A1, B1)]) 8 1328 Q := by
      refine Wk.iinc o_L_law_726 rfl (z := (v18 + (1 : Int32))) rfl (L' := [.val (.ref 0), .val (.ref 1), .val (.int v2), .val (.int v3), .val (.int v4), .unset, .unset, .unset, .val (.int v8), .val (.int v9), .val (.int v10), .unset, .val (.int v12), .val (.int v13), .val (.int (if (R_getTickTask F1 A1 v18) = v9 then (if (R_getTickJob F1 A1 v18) = v13 then (v14 + (1 : Int32)) else v14) else v14)), .val (.int v15), .val (.int v16), .val (.int (if (R_getTickTask F1 A1 v18) = v9 then (if (R_getTickJob F1 A1 v18) = v13 then (1 : Int32) else v17) else v17)), .val (.int (v18 + (1 : Int32)))]) rfl ?_
      refine Wk.goto o_L_law_729 ?_
      exact (h11 q1)
    refine Wk.icmp_ne o_L_law_706 (fun q6 => ?_) (fun q6 => ?_)
    · first | (rw [show ((if (R_getTickTask F1 A1 v18) = v9 then (if (R_getTickJob F1 A1 v18) = v13 then (v14 + (1 : Int32)) else v14) else v14) : Int32) = v14 from if_neg q6, show ((if (R_getTickTask F1 A1 v18) = v9 then (if (R_getTickJob F1 A1 v18) = v13 then (1 : Int32) else v17) else v17) : Int32) = v17 from if_neg q6] at J10; exact J10) | exact J10 | (simp only [if_neg q6] at J10 ⊢; exact J10)
    · refine Wk.aloadN o_L_law_709 rfl ?_
      refine Wk.iload o_L_law_710 rfl ?_
      refine Wk.callLF (coC H) [.int v18] 0 [] (i' := 1) (H.w 142 rfl) (cv_getTickJob H) o_L_law_712 (run_getTickJob H F1 G1 A1 B1 v18 (s7 q1 q6)) (wt := 0) (cu' := 8) (su' := 1328) (by decide) trivial rfl rfl rfl rfl rfl rfl rfl rfl rfl rfl (ws' := [(7, F1, G1, A1, B1)]) rfl ?_
      refine Wk.iload o_L_law_715 rfl ?_
      refine Wk.icmp_ne o_L_law_717 (fun q8 => ?_) (fun q8 => ?_)
      · first | (rw [show ((if (R_getTickTask F1 A1 v18) = v9 then (if (R_getTickJob F1 A1 v18) = v13 then (v14 + (1 : Int32)) else v14) else v14) : Int32) = v14 from Eq.trans (if_pos q6) <| if_neg q8, show ((if (R_getTickTask F1 A1 v18) = v9 then (if (R_getTickJob F1 A1 v18) = v13 then (1 : Int32) else v17) else v17) : Int32) = v17 from Eq.trans (if_pos q6) <| if_neg q8] at J10; exact J10) | exact J10 | (simp only [if_pos q6, if_neg q8] at J10 ⊢; exact J10)
      · refine Wk.iinc o_L_law_720 rfl (z := (v14 + (1 : Int32))) rfl (L' := [.val (.ref 0), .val (.ref 1), .val (.int v2), .val (.int v3), .val (.int v4), .unset, .unset, .unset, .val (.int v8), .val (.int v9), .val (.int v10), .unset, .val (.int v12), .val (.int v13), .val (.int (v14 + (1 : Int32))), .val (.int v15), .val (.int v16), .val (.int v17), .val (.int v18)]) rfl ?_
        refine Wk.iconst o_L_law_723 (z := (1 : Int32)) (by decide) ?_
        refine Wk.istore o_L_law_724 (Or.inr ⟨_, rfl, rfl⟩) (L' := [.val (.ref 0), .val (.ref 1), .val (.int v2), .val (.int v3), .val (.int v4), .unset, .unset, .unset, .val (.int v8), .val (.int v9), .val (.int v10), .unset, .val (.int v12), .val (.int v13), .val (.int (v14 + (1 : Int32))), .val (.int v15), .val (.int v16), .val (.int (1 : Int32)), .val (.int v18)]) rfl ?_
        first | (rw [show ((if (R_getTickTask F1 A1 v18) = v9 then (if (R_getTickJob F1 A1 v18) = v13 then (v14 + (1 : Int32)) else v14) else v14) : Int32) = (v14 + (1 : Int32)) from Eq.trans (if_pos q6) <| if_pos q8, show ((if (R_getTickTask F1 A1 v18) = v9 then (if (R_getTickJob F1 A1 v18) = v13 then (1 : Int32) else v17) else v17) : Int32) = (1 : Int32) from Eq.trans (if_pos q6) <| if_pos q8] at J10; exact J10) | exact J10 | (simp only [if_pos q6, if_pos q8] at J10 ⊢; exact J10)

theorem rt_law {v r : Int32} (e : v = r) : some (Value.int v) = some (Value.int r) := by rw [e]
def lp_L_law : Nat → Nat → (Int32) → (Int32 → Int32) → Int32 → Int32 → Int32 → Int32 → Int32 → Int32 → Int32 → Int32 → Int32 → Int32 → Int32 → Int32 → Int32 → Int32 → Int32 → Int32 → (Nat → Int32) → (Nat → Int32 → Int32) → Option (Int32)
  | 0, _, _, _, _, _, _, _, _, _, _, _, _, _, _, _, _, _, _, _, _, _ => none
  | n + 1, tag, sl, sv, v2, v3, v4, v5, v6, v7, v8, v9, v10, v12, v13, v14, v15, v16, v17, v18, F1, A1 => if tag = 13 then (if ((0 : Int32) < sl → ¬ (0 : Int32) < 0) then lp_L_law n 32 sl sv ((1 : Int32) + (((f_L_cell sl sv (0 : Int32)) &&& (32767 : Int32)) % (4 : Int32))) (1 : Int32) (0 : Int32) 0 0 0 0 0 0 0 0 0 0 0 0 0 F1 A1 else none) else if tag = 32 then (if v4 < v2 then (if (((1 : Int32) + ((3 : Int32) * v4)) < sl → ¬ ((1 : Int32) + ((3 : Int32) * v4)) < 0) ∧ (((2 : Int32) + ((3 : Int32) * v4)) < sl → ¬ ((2 : Int32) + ((3 : Int32) * v4)) < 0) ∧ (¬ (((f_L_period (f_L_cell sl sv ((1 : Int32) + ((3 : Int32) * v4)))) + (1 : Int32)) / (2 : Int32)) = (0 : Int32)) ∧ (((3 : Int32) + ((3 : Int32) * v4)) < sl → ¬ ((3 : Int32) + ((3 : Int32) * v4)) < 0) ∧ (¬ v2 = (0 : Int32)) ∧ (¬ (if ((f_L_deadline (f_L_period (f_L_cell sl sv ((1 : Int32) + ((3 : Int32) * v4)))) (f_L_cell sl sv ((2 : Int32) + ((3 : Int32) * v4)))) / v2) < (1 : Int32) then (1 : Int32) else ((f_L_deadline (f_L_period (f_L_cell sl sv ((1 : Int32) + ((3 : Int32) * v4)))) (f_L_cell sl sv ((2 : Int32) + ((3 : Int32) * v4)))) / v2)) = (0 : Int32)) ∧ ((en_addTask F1 A1 (f_L_period (f_L_cell sl sv ((1 : Int32) + ((3 : Int32) * v4)))) (f_L_wcet (f_L_deadline (f_L_period (f_L_cell sl sv ((1 : Int32) + ((3 : Int32) * v4)))) (f_L_cell sl sv ((2 : Int32) + ((3 : Int32) * v4)))) v2 (f_L_cell sl sv ((3 : Int32) + ((3 : Int32) * v4)))) (f_L_deadline (f_L_period (f_L_cell sl sv ((1 : Int32) + ((3 : Int32) * v4)))) (f_L_cell sl sv ((2 : Int32) + ((3 : Int32) * v4))))).isSome = true) then (if (R_addTask F1 A1 (f_L_period (f_L_cell sl sv ((1 : Int32) + ((3 : Int32) * v4)))) (f_L_wcet (f_L_deadline (f_L_period (f_L_cell sl sv ((1 : Int32) + ((3 : Int32) * v4)))) (f_L_cell sl sv ((2 : Int32) + ((3 : Int32) * v4)))) v2 (f_L_cell sl sv ((3 : Int32) + ((3 : Int32) * v4)))) (f_L_deadline (f_L_period (f_L_cell sl sv ((1 : Int32) + ((3 : Int32) * v4)))) (f_L_cell sl sv ((2 : Int32) + ((3 : Int32) * v4))))).1 = v4 then lp_L_law n 105 sl sv v2 v3 v4 (f_L_period (f_L_cell sl sv ((1 : Int32) + ((3 : Int32) * v4)))) 0 0 0 0 0 0 0 0 0 0 0 0 (R_addTask F1 A1 (f_L_period (f_L_cell sl sv ((1 : Int32) + ((3 : Int32) * v4)))) (f_L_wcet (f_L_deadline (f_L_period (f_L_cell sl sv ((1 : Int32) + ((3 : Int32) * v4)))) (f_L_cell sl sv ((2 : Int32) + ((3 : Int32) * v4)))) v2 (f_L_cell sl sv ((3 : Int32) + ((3 : Int32) * v4)))) (f_L_deadline (f_L_period (f_L_cell sl sv ((1 : Int32) + ((3 : Int32) * v4)))) (f_L_cell sl sv ((2 : Int32) + ((3 : Int32) * v4))))).2.1 (R_addTask F1 A1 (f_L_period (f_L_cell sl sv ((1 : Int32) + ((3 : Int32) * v4)))) (f_L_wcet (f_L_deadline (f_L_period (f_L_cell sl sv ((1 : Int32) + ((3 : Int32) * v4)))) (f_L_cell sl sv ((2 : Int32) + ((3 : Int32) * v4)))) v2 (f_L_cell sl sv ((3 : Int32) + ((3 : Int32) * v4)))) (f_L_deadline (f_L_period (f_L_cell sl sv ((1 : Int32) + ((3 : Int32) * v4)))) (f_L_cell sl sv ((2 : Int32) + ((3 : Int32) * v4))))).2.2 else some ((0 : Int32))) else none) else (if (f_getHyperperiod F1) = v3 then lp_L_law n 136 sl sv v2 v3 (0 : Int32) 0 0 0 0 0 0 0 0 0 0 0 0 0 F1 A1 else some ((0 : Int32)))) else if tag = 105 then (if ((en_L_gcd   v3 v5).isSome = true) ∧ (¬ (R_L_gcd   v3 v5) = (0 : Int32)) then lp_L_law n 32 sl sv v2 ((v3 / (R_L_gcd   v3 v5)) * v5) (v4 + (1 : Int32)) 0 0 0 0 0 0 0 0 0 0 0 0 0 F1 A1 else none) else if tag = 136 then (if v4 < (6 : Int32) then (if (((13 : Int32) + ((2 : Int32) * v4)) < sl → ¬ ((13 : Int32) + ((2 : Int32) * v4)) < 0) then (if (((f_L_cell sl sv ((13 : Int32) + ((2 : Int32) * v4))) &&& (32767 : Int32)) % (5 : Int32)) = (4 : Int32) then (if (¬ v3 = (0 : Int32)) ∧ ((en_build F1 A1 ((1 : Int32) + ((((f_L_cell sl sv ((13 : Int32) + ((2 : Int32) * v4))) &&& (32767 : Int32)) / (5 : Int32)) % v3))).isSome = true) then lp_L_law n 268 sl sv v2 v3 v4 0 ((1 : Int32) + ((((f_L_cell sl sv ((13 : Int32) + ((2 : Int32) * v4))) &&& (32767 : Int32)) / (5 : Int32)) % v3)) (R_build F1 A1 ((1 : Int32) + ((((f_L_cell sl sv ((13 : Int32) + ((2 : Int32) * v4))) &&& (32767 : Int32)) / (5 : Int32)) % v3))).1 0 0 0 0 0 0 0 0 0 0 (R_build F1 A1 ((1 : Int32) + ((((f_L_cell sl sv ((13 : Int32) + ((2 : Int32) * v4))) &&& (32767 : Int32)) / (5 : Int32)) % v3))).2.1 (R_build F1 A1 ((1 : Int32) + ((((f_L_cell sl sv ((13 : Int32) + ((2 : Int32) * v4))) &&& (32767 : Int32)) / (5 : Int32)) % v3))).2.2 else none) else lp_L_law n 190 sl sv v2 v3 v4 ((f_L_cell sl sv ((13 : Int32) + ((2 : Int32) * v4))) &&& (32767 : Int32)) (0 : Int32) (0 : Int32) (1 : Int32) 0 0 0 0 0 0 0 0 0 F1 A1) else none) else some ((1 : Int32))) else if tag = 268 then (if v7 = 0 then (if (f_getFrame F1) = v6 then (if ((en_run F1 A1 v3).isSome = true) then (if (R_run F1 A1 v3).1 = v3 then lp_L_law n 295 sl sv v2 v3 v4 0 0 0 0 0 0 0 0 0 0 0 0 0 (R_run F1 A1 v3).2.1 (R_run F1 A1 v3).2.2 else some ((0 : Int32))) else none) else some ((0 : Int32))) else (if 0 < (f_getFrame F1) then lp_L_law n 402 sl sv v2 v3 v4 0 0 0 (f_getFrame F1) (0 : Int32) 0 0 0 0 0 0 0 0 F1 A1 else (if (((14 : Int32) + ((2 : Int32) * v4)) < sl → ¬ ((14 : Int32) + ((2 : Int32) * v4)) < 0) ∧ ((en_run F1 A1 ((f_L_cell sl sv ((14 : Int32) + ((2 : Int32) * v4))) &&& (63 : Int32))).isSome = true) then lp_L_law n 818 sl sv v2 v3 v4 0 0 0 0 0 0 0 0 0 0 0 0 0 (R_run F1 A1 ((f_L_cell sl sv ((14 : Int32) + ((2 : Int32) * v4))) &&& (63 : Int32))).2.1 (R_run F1 A1 ((f_L_cell sl sv ((14 : Int32) + ((2 : Int32) * v4))) &&& (63 : Int32))).2.2 else none))) else if tag = 190 then (if v3 < v8 then (if (¬ v7 = (0 : Int32)) then lp_L_law n 227 sl sv v2 v3 v4 0 v6 0 ((v5 / (5 : Int32)) % v7) (0 : Int32) (1 : Int32) 0 0 0 0 0 0 0 F1 A1 else none) else (if (¬ v8 = (0 : Int32)) then lp_L_law n 190 sl sv v2 v3 v4 v5 v6 (if (v3 % v8) = 0 then (v7 + (1 : Int32)) else v7) (v8 + (1 : Int32)) 0 0 0 0 0 0 0 0 0 F1 A1 else none)) else if tag = 295 then (if (f_getNow F1) = v3 then lp_L_law n 308 sl sv v2 v3 v4 0 0 0 (0 : Int32) 0 0 0 0 0 0 0 0 0 F1 A1 else some ((0 : Int32))) else if tag = 402 then (if v9 < v3 then (if ((en_getTickTask F1 A1 v9).isSome = true) ∧ ((en_getTickJob F1 A1 v9).isSome = true) then (if (if (R_getTickTask F1 A1 v9) = (-1 : Int32) then (1 : Int32) else (0 : Int32)) = (if (R_getTickJob F1 A1 v9) = (-1 : Int32) then (1 : Int32) else (0 : Int32)) then (if (R_getTickTask F1 A1 v9) = (-1 : Int32) then lp_L_law n 402 sl sv v2 v3 v4 0 0 0 v8 (v9 + (1 : Int32)) 0 0 0 0 0 0 0 0 F1 A1 else (if (R_getTickTask F1 A1 v9) < 0 then some ((0 : Int32)) else (if (R_getTickTask F1 A1 v9) < v2 then (if (((1 : Int32) + ((3 : Int32) * (R_getTickTask F1 A1 v9))) < sl → ¬ ((1 : Int32) + ((3 : Int32) * (R_getTickTask F1 A1 v9))) < 0) ∧ (((2 : Int32) + ((3 : Int32) * (R_getTickTask F1 A1 v9))) < sl → ¬ ((2 : Int32) + ((3 : Int32) * (R_getTickTask F1 A1 v9))) < 0) ∧ (¬ (((f_L_period (f_L_cell sl sv ((1 : Int32) + ((3 : Int32) * (R_getTickTask F1 A1 v9))))) + (1 : Int32)) / (2 : Int32)) = (0 : Int32)) then (if (R_getTickJob F1 A1 v9) < 0 then some ((0 : Int32)) else (if (¬ (f_L_period (f_L_cell sl sv ((1 : Int32) + ((3 : Int32) * (R_getTickTask F1 A1 v9))))) = (0 : Int32)) then (if (R_getTickJob F1 A1 v9) < (v3 / (f_L_period (f_L_cell sl sv ((1 : Int32) + ((3 : Int32) * (R_getTickTask F1 A1 v9)))))) then (if v9 < ((R_getTickJob F1 A1 v9) * (f_L_period (f_L_cell sl sv ((1 : Int32) + ((3 : Int32) * (R_getTickTask F1 A1 v9)))))) then some ((0 : Int32)) else (if v9 < (((R_getTickJob F1 A1 v9) * (f_L_period (f_L_cell sl sv ((1 : Int32) + ((3 : Int32) * (R_getTickTask F1 A1 v9)))))) + (f_L_deadline (f_L_period (f_L_cell sl sv ((1 : Int32) + ((3 : Int32) * (R_getTickTask F1 A1 v9))))) (f_L_cell sl sv ((2 : Int32) + ((3 : Int32) * (R_getTickTask F1 A1 v9)))))) then (if (¬ v8 = (0 : Int32)) then (if ((v9 / v8) * v8) < ((R_getTickJob F1 A1 v9) * (f_L_period (f_L_cell sl sv ((1 : Int32) + ((3 : Int32) * (R_getTickTask F1 A1 v9)))))) then some ((0 : Int32)) else (if (((R_getTickJob F1 A1 v9) * (f_L_period (f_L_cell sl sv ((1 : Int32) + ((3 : Int32) * (R_getTickTask F1 A1 v9)))))) + (f_L_deadline (f_L_period (f_L_cell sl sv ((1 : Int32) + ((3 : Int32) * (R_getTickTask F1 A1 v9))))) (f_L_cell sl sv ((2 : Int32) + ((3 : Int32) * (R_getTickTask F1 A1 v9)))))) < (((v9 / v8) + (1 : Int32)) * v8) then some ((0 : Int32)) else lp_L_law n 402 sl sv v2 v3 v4 0 0 0 v8 (v9 + (1 : Int32)) 0 0 0 0 0 0 0 0 F1 A1)) else none) else some ((0 : Int32)))) else some ((0 : Int32))) else none)) else none) else some ((0 : Int32))))) else some ((0 : Int32))) else none) else lp_L_law n 590 sl sv v2 v3 v4 0 0 0 v8 (0 : Int32) 0 0 0 0 0 0 0 0 F1 A1) else if tag = 818 then lp_L_law n 136 sl sv v2 v3 (v4 + (1 : Int32)) 0 0 0 0 0 0 0 0 0 0 0 0 0 F1 A1 else if tag = 227 then (if v3 < v10 then (if ((en_build F1 A1 v6).isSome = true) then lp_L_law n 268 sl sv v2 v3 v4 0 v6 (R_build F1 A1 v6).1 0 0 0 0 0 0 0 0 0 0 (R_build F1 A1 v6).2.1 (R_build F1 A1 v6).2.2 else none) else (if (¬ v10 = (0 : Int32)) then lp_L_law n 227 sl sv v2 v3 v4 0 (if (v3 % v10) = 0 then (if v9 = v8 then v10 else v6) else v6) 0 v8 (if (v3 % v10) = 0 then (v9 + (1 : Int32)) else v9) (v10 + (1 : Int32)) 0 0 0 0 0 0 0 F1 A1 else none)) else if tag = 308 then (if v8 < v2 then (if (((1 : Int32) + ((3 : Int32) * v8)) < sl → ¬ ((1 : Int32) + ((3 : Int32) * v8)) < 0) ∧ (((2 : Int32) + ((3 : Int32) * v8)) < sl → ¬ ((2 : Int32) + ((3 : Int32) * v8)) < 0) ∧ (¬ (((f_L_period (f_L_cell sl sv ((1 : Int32) + ((3 : Int32) * v8)))) + (1 : Int32)) / (2 : Int32)) = (0 : Int32)) ∧ (((3 : Int32) + ((3 : Int32) * v8)) < sl → ¬ ((3 : Int32) + ((3 : Int32) * v8)) < 0) ∧ (¬ v2 = (0 : Int32)) ∧ (¬ (if ((f_L_deadline (f_L_period (f_L_cell sl sv ((1 : Int32) + ((3 : Int32) * v8)))) (f_L_cell sl sv ((2 : Int32) + ((3 : Int32) * v8)))) / v2) < (1 : Int32) then (1 : Int32) else ((f_L_deadline (f_L_period (f_L_cell sl sv ((1 : Int32) + ((3 : Int32) * v8)))) (f_L_cell sl sv ((2 : Int32) + ((3 : Int32) * v8)))) / v2)) = (0 : Int32)) ∧ ((en_getRunTicks F1 A1 v8).isSome = true) ∧ (¬ (f_L_period (f_L_cell sl sv ((1 : Int32) + ((3 : Int32) * v8)))) = (0 : Int32)) then (if (R_getRunTicks F1 A1 v8) = ((f_L_wcet (f_L_deadline (f_L_period (f_L_cell sl sv ((1 : Int32) + ((3 : Int32) * v8)))) (f_L_cell sl sv ((2 : Int32) + ((3 : Int32) * v8)))) v2 (f_L_cell sl sv ((3 : Int32) + ((3 : Int32) * v8)))) * (v3 / (f_L_period (f_L_cell sl sv ((1 : Int32) + ((3 : Int32) * v8)))))) then lp_L_law n 308 sl sv v2 v3 v4 0 0 0 (v8 + (1 : Int32)) 0 0 0 0 0 0 0 0 0 F1 A1 else some ((0 : Int32))) else none) else (if 0 < (f_getFrame F1) then lp_L_law n 402 sl sv v2 v3 v4 0 0 0 (f_getFrame F1) (0 : Int32) 0 0 0 0 0 0 0 0 F1 A1 else (if (((14 : Int32) + ((2 : Int32) * v4)) < sl → ¬ ((14 : Int32) + ((2 : Int32) * v4)) < 0) ∧ ((en_run F1 A1 ((f_L_cell sl sv ((14 : Int32) + ((2 : Int32) * v4))) &&& (63 : Int32))).isSome = true) then lp_L_law n 818 sl sv v2 v3 v4 0 0 0 0 0 0 0 0 0 0 0 0 0 (R_run F1 A1 ((f_L_cell sl sv ((14 : Int32) + ((2 : Int32) * v4))) &&& (63 : Int32))).2.1 (R_run F1 A1 ((f_L_cell sl sv ((14 : Int32) + ((2 : Int32) * v4))) &&& (63 : Int32))).2.2 else none))) else if tag = 590 then (if v9 < v2 then (if (((1 : Int32) + ((3 : Int32) * v9)) < sl → ¬ ((1 : Int32) + ((3 : Int32) * v9)) < 0) ∧ (((2 : Int32) + ((3 : Int32) * v9)) < sl → ¬ ((2 : Int32) + ((3 : Int32) * v9)) < 0) ∧ (¬ (((f_L_period (f_L_cell sl sv ((1 : Int32) + ((3 : Int32) * v9)))) + (1 : Int32)) / (2 : Int32)) = (0 : Int32)) ∧ (((3 : Int32) + ((3 : Int32) * v9)) < sl → ¬ ((3 : Int32) + ((3 : Int32) * v9)) < 0) ∧ (¬ v2 = (0 : Int32)) ∧ (¬ (if ((f_L_deadline (f_L_period (f_L_cell sl sv ((1 : Int32) + ((3 : Int32) * v9)))) (f_L_cell sl sv ((2 : Int32) + ((3 : Int32) * v9)))) / v2) < (1 : Int32) then (1 : Int32) else ((f_L_deadline (f_L_period (f_L_cell sl sv ((1 : Int32) + ((3 : Int32) * v9)))) (f_L_cell sl sv ((2 : Int32) + ((3 : Int32) * v9)))) / v2)) = (0 : Int32)) then lp_L_law n 649 sl sv v2 v3 v4 0 0 0 v8 v9 (f_L_period (f_L_cell sl sv ((1 : Int32) + ((3 : Int32) * v9)))) (f_L_wcet (f_L_deadline (f_L_period (f_L_cell sl sv ((1 : Int32) + ((3 : Int32) * v9)))) (f_L_cell sl sv ((2 : Int32) + ((3 : Int32) * v9)))) v2 (f_L_cell sl sv ((3 : Int32) + ((3 : Int32) * v9)))) (0 : Int32) 0 0 0 0 0 F1 A1 else none) else (if (((14 : Int32) + ((2 : Int32) * v4)) < sl → ¬ ((14 : Int32) + ((2 : Int32) * v4)) < 0) ∧ ((en_run F1 A1 ((f_L_cell sl sv ((14 : Int32) + ((2 : Int32) * v4))) &&& (63 : Int32))).isSome = true) then lp_L_law n 818 sl sv v2 v3 v4 0 0 0 0 0 0 0 0 0 0 0 0 0 (R_run F1 A1 ((f_L_cell sl sv ((14 : Int32) + ((2 : Int32) * v4))) &&& (63 : Int32))).2.1 (R_run F1 A1 ((f_L_cell sl sv ((14 : Int32) + ((2 : Int32) * v4))) &&& (63 : Int32))).2.2 else none)) else if tag = 649 then (if (¬ v10 = (0 : Int32)) then (if v13 < (v3 / v10) then lp_L_law n 667 sl sv v2 v3 v4 0 0 0 v8 v9 v10 v12 v13 (0 : Int32) (0 : Int32) (0 : Int32) 0 0 F1 A1 else lp_L_law n 590 sl sv v2 v3 v4 0 0 0 v8 (v9 + (1 : Int32)) 0 0 0 0 0 0 0 0 F1 A1) else none) else if tag = 667 then (if (¬ v8 = (0 : Int32)) then (if v16 < (v3 / v8) then lp_L_law n 686 sl sv v2 v3 v4 0 0 0 v8 v9 v10 v12 v13 v14 v15 v16 (0 : Int32) (v16 * v8) F1 A1 else (if v14 = v12 then (if ((en_getSliceCount F1 A1 v9 v13).isSome = true) then (if (R_getSliceCount F1 A1 v9 v13) = v15 then (if (¬ v8 = (0 : Int32)) then (if v15 < (((v12 + v8) - (1 : Int32)) / v8) then some ((0 : Int32)) else lp_L_law n 649 sl sv v2 v3 v4 0 0 0 v8 v9 v10 v12 (v13 + (1 : Int32)) 0 0 0 0 0 F1 A1) else none) else some ((0 : Int32))) else none) else some ((0 : Int32)))) else none) else if tag = 686 then (if v18 < ((v16 + (1 : Int32)) * v8) then (if ((en_getTickTask F1 A1 v18).isSome = true) ∧ ((R_getTickTask F1 A1 v18) = v9 → (en_getTickJob F1 A1 v18).isSome = true) then lp_L_law n 686 sl sv v2 v3 v4 0 0 0 v8 v9 v10 v12 v13 (if (R_getTickTask F1 A1 v18) = v9 then (if (R_getTickJob F1 A1 v18) = v13 then (v14 + (1 : Int32)) else v14) else v14) v15 v16 (if (R_getTickTask F1 A1 v18) = v9 then (if (R_getTickJob F1 A1 v18) = v13 then (1 : Int32) else v17) else v17) (v18 + (1 : Int32)) F1 A1 else none) else lp_L_law n 667 sl sv v2 v3 v4 0 0 0 v8 v9 v10 v12 v13 v14 (if v17 = 0 then v15 else (v15 + (1 : Int32))) (v16 + (1 : Int32)) 0 0 F1 A1) else none
theorem lp_L_law_z (tag : Nat) (sl : Int32) (sv : Int32 → Int32) (v2 : Int32) (v3 : Int32) (v4 : Int32) (v5 : Int32) (v6 : Int32) (v7 : Int32) (v8 : Int32) (v9 : Int32) (v10 : Int32) (v12 : Int32) (v13 : Int32) (v14 : Int32) (v15 : Int32) (v16 : Int32) (v17 : Int32) (v18 : Int32) (F1 : Nat → Int32) (A1 : Nat → Int32 → Int32) : lp_L_law 0 tag sl sv v2 v3 v4 v5 v6 v7 v8 v9 v10 v12 v13 v14 v15 v16 v17 v18 F1 A1 = none := Eq.trans rfl rfl
theorem lp_L_law_13 (n : Nat) (sl : Int32) (sv : Int32 → Int32) (v2 : Int32) (v3 : Int32) (v4 : Int32) (v5 : Int32) (v6 : Int32) (v7 : Int32) (v8 : Int32) (v9 : Int32) (v10 : Int32) (v12 : Int32) (v13 : Int32) (v14 : Int32) (v15 : Int32) (v16 : Int32) (v17 : Int32) (v18 : Int32) (F1 : Nat → Int32) (A1 : Nat → Int32 → Int32) : lp_L_law (n + 1) 13 sl sv v2 v3 v4 v5 v6 v7 v8 v9 v10 v12 v13 v14 v15 v16 v17 v18 F1 A1 = (if ((0 : Int32) < sl → ¬ (0 : Int32) < 0) then lp_L_law n 32 sl sv ((1 : Int32) + (((f_L_cell sl sv (0 : Int32)) &&& (32767 : Int32)) % (4 : Int32))) (1 : Int32) (0 : Int32) 0 0 0 0 0 0 0 0 0 0 0 0 0 F1 A1 else none) := by
  rw [lp_L_law, if_pos rfl]
theorem lp_L_law_32 (n : Nat) (sl : Int32) (sv : Int32 → Int32) (v2 : Int32) (v3 : Int32) (v4 : Int32) (v5 : Int32) (v6 : Int32) (v7 : Int32) (v8 : Int32) (v9 : Int32) (v10 : Int32) (v12 : Int32) (v13 : Int32) (v14 : Int32) (v15 : Int32) (v16 : Int32) (v17 : Int32) (v18 : Int32) (F1 : Nat → Int32) (A1 : Nat → Int32 → Int32) : lp_L_law (n + 1) 32 sl sv v2 v3 v4 v5 v6 v7 v8 v9 v10 v12 v13 v14 v15 v16 v17 v18 F1 A1 = (if v4 < v2 then (if (((1 : Int32) + ((3 : Int32) * v4)) < sl → ¬ ((1 : Int32) + ((3 : Int32) * v4)) < 0) ∧ (((2 : Int32) + ((3 : Int32) * v4)) < sl → ¬ ((2 : Int32) + ((3 : Int32) * v4)) < 0) ∧ (¬ (((f_L_period (f_L_cell sl sv ((1 : Int32) + ((3 : Int32) * v4)))) + (1 : Int32)) / (2 : Int32)) = (0 : Int32)) ∧ (((3 : Int32) + ((3 : Int32) * v4)) < sl → ¬ ((3 : Int32) + ((3 : Int32) * v4)) < 0) ∧ (¬ v2 = (0 : Int32)) ∧ (¬ (if ((f_L_deadline (f_L_period (f_L_cell sl sv ((1 : Int32) + ((3 : Int32) * v4)))) (f_L_cell sl sv ((2 : Int32) + ((3 : Int32) * v4)))) / v2) < (1 : Int32) then (1 : Int32) else ((f_L_deadline (f_L_period (f_L_cell sl sv ((1 : Int32) + ((3 : Int32) * v4)))) (f_L_cell sl sv ((2 : Int32) + ((3 : Int32) * v4)))) / v2)) = (0 : Int32)) ∧ ((en_addTask F1 A1 (f_L_period (f_L_cell sl sv ((1 : Int32) + ((3 : Int32) * v4)))) (f_L_wcet (f_L_deadline (f_L_period (f_L_cell sl sv ((1 : Int32) + ((3 : Int32) * v4)))) (f_L_cell sl sv ((2 : Int32) + ((3 : Int32) * v4)))) v2 (f_L_cell sl sv ((3 : Int32) + ((3 : Int32) * v4)))) (f_L_deadline (f_L_period (f_L_cell sl sv ((1 : Int32) + ((3 : Int32) * v4)))) (f_L_cell sl sv ((2 : Int32) + ((3 : Int32) * v4))))).isSome = true) then (if (R_addTask F1 A1 (f_L_period (f_L_cell sl sv ((1 : Int32) + ((3 : Int32) * v4)))) (f_L_wcet (f_L_deadline (f_L_period (f_L_cell sl sv ((1 : Int32) + ((3 : Int32) * v4)))) (f_L_cell sl sv ((2 : Int32) + ((3 : Int32) * v4)))) v2 (f_L_cell sl sv ((3 : Int32) + ((3 : Int32) * v4)))) (f_L_deadline (f_L_period (f_L_cell sl sv ((1 : Int32) + ((3 : Int32) * v4)))) (f_L_cell sl sv ((2 : Int32) + ((3 : Int32) * v4))))).1 = v4 then lp_L_law n 105 sl sv v2 v3 v4 (f_L_period (f_L_cell sl sv ((1 : Int32) + ((3 : Int32) * v4)))) 0 0 0 0 0 0 0 0 0 0 0 0 (R_addTask F1 A1 (f_L_period (f_L_cell sl sv ((1 : Int32) + ((3 : Int32) * v4)))) (f_L_wcet (f_L_deadline (f_L_period (f_L_cell sl sv ((1 : Int32) + ((3 : Int32) * v4)))) (f_L_cell sl sv ((2 : Int32) + ((3 : Int32) * v4)))) v2 (f_L_cell sl sv ((3 : Int32) + ((3 : Int32) * v4)))) (f_L_deadline (f_L_period (f_L_cell sl sv ((1 : Int32) + ((3 : Int32) * v4)))) (f_L_cell sl sv ((2 : Int32) + ((3 : Int32) * v4))))).2.1 (R_addTask F1 A1 (f_L_period (f_L_cell sl sv ((1 : Int32) + ((3 : Int32) * v4)))) (f_L_wcet (f_L_deadline (f_L_period (f_L_cell sl sv ((1 : Int32) + ((3 : Int32) * v4)))) (f_L_cell sl sv ((2 : Int32) + ((3 : Int32) * v4)))) v2 (f_L_cell sl sv ((3 : Int32) + ((3 : Int32) * v4)))) (f_L_deadline (f_L_period (f_L_cell sl sv ((1 : Int32) + ((3 : Int32) * v4)))) (f_L_cell sl sv ((2 : Int32) + ((3 : Int32) * v4))))).2.2 else some ((0 : Int32))) else none) else (if (f_getHyperperiod F1) = v3 then lp_L_law n 136 sl sv v2 v3 (0 : Int32) 0 0 0 0 0 0 0 0 0 0 0 0 0 F1 A1 else some ((0 : Int32)))) := by
  rw [lp_L_law, if_neg (by decide), if_pos rfl]
theorem lp_L_law_105 (n : Nat) (sl : Int32) (sv : Int32 → Int32) (v2 : Int32) (v3 : Int32) (v4 : Int32) (v5 : Int32) (v6 : Int32) (v7 : Int32) (v8 : Int32) (v9 : Int32) (v10 : Int32) (v12 : Int32) (v13 : Int32) (v14 : Int32) (v15 : Int32) (v16 : Int32) (v17 : Int32) (v18 : Int32) (F1 : Nat → Int32) (A1 : Nat → Int32 → Int32) : lp_L_law (n + 1) 105 sl sv v2 v3 v4 v5 v6 v7 v8 v9 v10 v12 v13 v14 v15 v16 v17 v18 F1 A1 = (if ((en_L_gcd   v3 v5).isSome = true) ∧ (¬ (R_L_gcd   v3 v5) = (0 : Int32)) then lp_L_law n 32 sl sv v2 ((v3 / (R_L_gcd   v3 v5)) * v5) (v4 + (1 : Int32)) 0 0 0 0 0 0 0 0 0 0 0 0 0 F1 A1 else none) := by
  rw [lp_L_law, if_neg (by decide), if_neg (by decide), if_pos rfl]
theorem lp_L_law_136 (n : Nat) (sl : Int32) (sv : Int32 → Int32) (v2 : Int32) (v3 : Int32) (v4 : Int32) (v5 : Int32) (v6 : Int32) (v7 : Int32) (v8 : Int32) (v9 : Int32) (v10 : Int32) (v12 : Int32) (v13 : Int32) (v14 : Int32) (v15 : Int32) (v16 : Int32) (v17 : Int32) (v18 : Int32) (F1 : Nat → Int32) (A1 : Nat → Int32 → Int32) : lp_L_law (n + 1) 136 sl sv v2 v3 v4 v5 v6 v7 v8 v9 v10 v12 v13 v14 v15 v16 v17 v18 F1 A1 = (if v4 < (6 : Int32) then (if (((13 : Int32) + ((2 : Int32) * v4)) < sl → ¬ ((13 : Int32) + ((2 : Int32) * v4)) < 0) then (if (((f_L_cell sl sv ((13 : Int32) + ((2 : Int32) * v4))) &&& (32767 : Int32)) % (5 : Int32)) = (4 : Int32) then (if (¬ v3 = (0 : Int32)) ∧ ((en_build F1 A1 ((1 : Int32) + ((((f_L_cell sl sv ((13 : Int32) + ((2 : Int32) * v4))) &&& (32767 : Int32)) / (5 : Int32)) % v3))).isSome = true) then lp_L_law n 268 sl sv v2 v3 v4 0 ((1 : Int32) + ((((f_L_cell sl sv ((13 : Int32) + ((2 : Int32) * v4))) &&& (32767 : Int32)) / (5 : Int32)) % v3)) (R_build F1 A1 ((1 : Int32) + ((((f_L_cell sl sv ((13 : Int32) + ((2 : Int32) * v4))) &&& (32767 : Int32)) / (5 : Int32)) % v3))).1 0 0 0 0 0 0 0 0 0 0 (R_build F1 A1 ((1 : Int32) + ((((f_L_cell sl sv ((13 : Int32) + ((2 : Int32) * v4))) &&& (32767 : Int32)) / (5 : Int32)) % v3))).2.1 (R_build F1 A1 ((1 : Int32) + ((((f_L_cell sl sv ((13 : Int32) + ((2 : Int32) * v4))) &&& (32767 : Int32)) / (5 : Int32)) % v3))).2.2 else none) else lp_L_law n 190 sl sv v2 v3 v4 ((f_L_cell sl sv ((13 : Int32) + ((2 : Int32) * v4))) &&& (32767 : Int32)) (0 : Int32) (0 : Int32) (1 : Int32) 0 0 0 0 0 0 0 0 0 F1 A1) else none) else some ((1 : Int32))) := by
  rw [lp_L_law, if_neg (by decide), if_neg (by decide), if_neg (by decide), if_pos rfl]
theorem lp_L_law_268 (n : Nat) (sl : Int32) (sv : Int32 → Int32) (v2 : Int32) (v3 : Int32) (v4 : Int32) (v5 : Int32) (v6 : Int32) (v7 : Int32) (v8 : Int32) (v9 : Int32) (v10 : Int32) (v12 : Int32) (v13 : Int32) (v14 : Int32) (v15 : Int32) (v16 : Int32) (v17 : Int32) (v18 : Int32) (F1 : Nat → Int32) (A1 : Nat → Int32 → Int32) : lp_L_law (n + 1) 268 sl sv v2 v3 v4 v5 v6 v7 v8 v9 v10 v12 v13 v14 v15 v16 v17 v18 F1 A1 = (if v7 = 0 then (if (f_getFrame F1) = v6 then (if ((en_run F1 A1 v3).isSome = true) then (if (R_run F1 A1 v3).1 = v3 then lp_L_law n 295 sl sv v2 v3 v4 0 0 0 0 0 0 0 0 0 0 0 0 0 (R_run F1 A1 v3).2.1 (R_run F1 A1 v3).2.2 else some ((0 : Int32))) else none) else some ((0 : Int32))) else (if 0 < (f_getFrame F1) then lp_L_law n 402 sl sv v2 v3 v4 0 0 0 (f_getFrame F1) (0 : Int32) 0 0 0 0 0 0 0 0 F1 A1 else (if (((14 : Int32) + ((2 : Int32) * v4)) < sl → ¬ ((14 : Int32) + ((2 : Int32) * v4)) < 0) ∧ ((en_run F1 A1 ((f_L_cell sl sv ((14 : Int32) + ((2 : Int32) * v4))) &&& (63 : Int32))).isSome = true) then lp_L_law n 818 sl sv v2 v3 v4 0 0 0 0 0 0 0 0 0 0 0 0 0 (R_run F1 A1 ((f_L_cell sl sv ((14 : Int32) + ((2 : Int32) * v4))) &&& (63 : Int32))).2.1 (R_run F1 A1 ((f_L_cell sl sv ((14 : Int32) + ((2 : Int32) * v4))) &&& (63 : Int32))).2.2 else none))) := by
  rw [lp_L_law, if_neg (by decide), if_neg (by decide), if_neg (by decide), if_neg (by decide), if_pos rfl]
theorem lp_L_law_190 (n : Nat) (sl : Int32) (sv : Int32 → Int32) (v2 : Int32) (v3 : Int32) (v4 : Int32) (v5 : Int32) (v6 : Int32) (v7 : Int32) (v8 : Int32) (v9 : Int32) (v10 : Int32) (v12 : Int32) (v13 : Int32) (v14 : Int32) (v15 : Int32) (v16 : Int32) (v17 : Int32) (v18 : Int32) (F1 : Nat → Int32) (A1 : Nat → Int32 → Int32) : lp_L_law (n + 1) 190 sl sv v2 v3 v4 v5 v6 v7 v8 v9 v10 v12 v13 v14 v15 v16 v17 v18 F1 A1 = (if v3 < v8 then (if (¬ v7 = (0 : Int32)) then lp_L_law n 227 sl sv v2 v3 v4 0 v6 0 ((v5 / (5 : Int32)) % v7) (0 : Int32) (1 : Int32) 0 0 0 0 0 0 0 F1 A1 else none) else (if (¬ v8 = (0 : Int32)) then lp_L_law n 190 sl sv v2 v3 v4 v5 v6 (if (v3 % v8) = 0 then (v7 + (1 : Int32)) else v7) (v8 + (1 : Int32)) 0 0 0 0 0 0 0 0 0 F1 A1 else none)) := by
  rw [lp_L_law, if_neg (by decide), if_neg (by decide), if_neg (by decide), if_neg (by decide), if_neg (by decide), if_pos rfl]
theorem lp_L_law_295 (n : Nat) (sl : Int32) (sv : Int32 → Int32) (v2 : Int32) (v3 : Int32) (v4 : Int32) (v5 : Int32) (v6 : Int32) (v7 : Int32) (v8 : Int32) (v9 : Int32) (v10 : Int32) (v12 : Int32) (v13 : Int32) (v14 : Int32) (v15 : Int32) (v16 : Int32) (v17 : Int32) (v18 : Int32) (F1 : Nat → Int32) (A1 : Nat → Int32 → Int32) : lp_L_law (n + 1) 295 sl sv v2 v3 v4 v5 v6 v7 v8 v9 v10 v12 v13 v14 v15 v16 v17 v18 F1 A1 = (if (f_getNow F1) = v3 then lp_L_law n 308 sl sv v2 v3 v4 0 0 0 (0 : Int32) 0 0 0 0 0 0 0 0 0 F1 A1 else some ((0 : Int32))) := by
  rw [lp_L_law, if_neg (by decide), if_neg (by decide), if_neg (by decide), if_neg (by decide), if_neg (by decide), if_neg (by decide), if_pos rfl]
theorem lp_L_law_402 (n : Nat) (sl : Int32) (sv : Int32 → Int32) (v2 : Int32) (v3 : Int32) (v4 : Int32) (v5 : Int32) (v6 : Int32) (v7 : Int32) (v8 : Int32) (v9 : Int32) (v10 : Int32) (v12 : Int32) (v13 : Int32) (v14 : Int32) (v15 : Int32) (v16 : Int32) (v17 : Int32) (v18 : Int32) (F1 : Nat → Int32) (A1 : Nat → Int32 → Int32) : lp_L_law (n + 1) 402 sl sv v2 v3 v4 v5 v6 v7 v8 v9 v10 v12 v13 v14 v15 v16 v17 v18 F1 A1 = (if v9 < v3 then (if ((en_getTickTask F1 A1 v9).isSome = true) ∧ ((en_getTickJob F1 A1 v9).isSome = true) then (if (if (R_getTickTask F1 A1 v9) = (-1 : Int32) then (1 : Int32) else (0 : Int32)) = (if (R_getTickJob F1 A1 v9) = (-1 : Int32) then (1 : Int32) else (0 : Int32)) then (if (R_getTickTask F1 A1 v9) = (-1 : Int32) then lp_L_law n 402 sl sv v2 v3 v4 0 0 0 v8 (v9 + (1 : Int32)) 0 0 0 0 0 0 0 0 F1 A1 else (if (R_getTickTask F1 A1 v9) < 0 then some ((0 : Int32)) else (if (R_getTickTask F1 A1 v9) < v2 then (if (((1 : Int32) + ((3 : Int32) * (R_getTickTask F1 A1 v9))) < sl → ¬ ((1 : Int32) + ((3 : Int32) * (R_getTickTask F1 A1 v9))) < 0) ∧ (((2 : Int32) + ((3 : Int32) * (R_getTickTask F1 A1 v9))) < sl → ¬ ((2 : Int32) + ((3 : Int32) * (R_getTickTask F1 A1 v9))) < 0) ∧ (¬ (((f_L_period (f_L_cell sl sv ((1 : Int32) + ((3 : Int32) * (R_getTickTask F1 A1 v9))))) + (1 : Int32)) / (2 : Int32)) = (0 : Int32)) then (if (R_getTickJob F1 A1 v9) < 0 then some ((0 : Int32)) else (if (¬ (f_L_period (f_L_cell sl sv ((1 : Int32) + ((3 : Int32) * (R_getTickTask F1 A1 v9))))) = (0 : Int32)) then (if (R_getTickJob F1 A1 v9) < (v3 / (f_L_period (f_L_cell sl sv ((1 : Int32) + ((3 : Int32) * (R_getTickTask F1 A1 v9)))))) then (if v9 < ((R_getTickJob F1 A1 v9) * (f_L_period (f_L_cell sl sv ((1 : Int32) + ((3 : Int32) * (R_getTickTask F1 A1 v9)))))) then some ((0 : Int32)) else (if v9 < (((R_getTickJob F1 A1 v9) * (f_L_period (f_L_cell sl sv ((1 : Int32) + ((3 : Int32) * (R_getTickTask F1 A1 v9)))))) + (f_L_deadline (f_L_period (f_L_cell sl sv ((1 : Int32) + ((3 : Int32) * (R_getTickTask F1 A1 v9))))) (f_L_cell sl sv ((2 : Int32) + ((3 : Int32) * (R_getTickTask F1 A1 v9)))))) then (if (¬ v8 = (0 : Int32)) then (if ((v9 / v8) * v8) < ((R_getTickJob F1 A1 v9) * (f_L_period (f_L_cell sl sv ((1 : Int32) + ((3 : Int32) * (R_getTickTask F1 A1 v9)))))) then some ((0 : Int32)) else (if (((R_getTickJob F1 A1 v9) * (f_L_period (f_L_cell sl sv ((1 : Int32) + ((3 : Int32) * (R_getTickTask F1 A1 v9)))))) + (f_L_deadline (f_L_period (f_L_cell sl sv ((1 : Int32) + ((3 : Int32) * (R_getTickTask F1 A1 v9))))) (f_L_cell sl sv ((2 : Int32) + ((3 : Int32) * (R_getTickTask F1 A1 v9)))))) < (((v9 / v8) + (1 : Int32)) * v8) then some ((0 : Int32)) else lp_L_law n 402 sl sv v2 v3 v4 0 0 0 v8 (v9 + (1 : Int32)) 0 0 0 0 0 0 0 0 F1 A1)) else none) else some ((0 : Int32)))) else some ((0 : Int32))) else none)) else none) else some ((0 : Int32))))) else some ((0 : Int32))) else none) else lp_L_law n 590 sl sv v2 v3 v4 0 0 0 v8 (0 : Int32) 0 0 0 0 0 0 0 0 F1 A1) := by
  rw [lp_L_law, if_neg (by decide), if_neg (by decide), if_neg (by decide), if_neg (by decide), if_neg (by decide), if_neg (by decide), if_neg (by decide), if_pos rfl]
theorem lp_L_law_818 (n : Nat) (sl : Int32) (sv : Int32 → Int32) (v2 : Int32) (v3 : Int32) (v4 : Int32) (v5 : Int32) (v6 : Int32) (v7 : Int32) (v8 : Int32) (v9 : Int32) (v10 : Int32) (v12 : Int32) (v13 : Int32) (v14 : Int32) (v15 : Int32) (v16 : Int32) (v17 : Int32) (v18 : Int32) (F1 : Nat → Int32) (A1 : Nat → Int32 → Int32) : lp_L_law (n + 1) 818 sl sv v2 v3 v4 v5 v6 v7 v8 v9 v10 v12 v13 v14 v15 v16 v17 v18 F1 A1 = lp_L_law n 136 sl sv v2 v3 (v4 + (1 : Int32)) 0 0 0 0 0 0 0 0 0 0 0 0 0 F1 A1 := by
  rw [lp_L_law, if_neg (by decide), if_neg (by decide), if_neg (by decide), if_neg (by decide), if_neg (by decide), if_neg (by decide), if_neg (by decide), if_neg (by decide), if_pos rfl]
theorem lp_L_law_227 (n : Nat) (sl : Int32) (sv : Int32 → Int32) (v2 : Int32) (v3 : Int32) (v4 : Int32) (v5 : Int32) (v6 : Int32) (v7 : Int32) (v8 : Int32) (v9 : Int32) (v10 : Int32) (v12 : Int32) (v13 : Int32) (v14 : Int32) (v15 : Int32) (v16 : Int32) (v17 : Int32) (v18 : Int32) (F1 : Nat → Int32) (A1 : Nat → Int32 → Int32) : lp_L_law (n + 1) 227 sl sv v2 v3 v4 v5 v6 v7 v8 v9 v10 v12 v13 v14 v15 v16 v17 v18 F1 A1 = (if v3 < v10 then (if ((en_build F1 A1 v6).isSome = true) then lp_L_law n 268 sl sv v2 v3 v4 0 v6 (R_build F1 A1 v6).1 0 0 0 0 0 0 0 0 0 0 (R_build F1 A1 v6).2.1 (R_build F1 A1 v6).2.2 else none) else (if (¬ v10 = (0 : Int32)) then lp_L_law n 227 sl sv v2 v3 v4 0 (if (v3 % v10) = 0 then (if v9 = v8 then v10 else v6) else v6) 0 v8 (if (v3 % v10) = 0 then (v9 + (1 : Int32)) else v9) (v10 + (1 : Int32)) 0 0 0 0 0 0 0 F1 A1 else none)) := by
  rw [lp_L_law, if_neg (by decide), if_neg (by decide), if_neg (by decide), if_neg (by decide), if_neg (by decide), if_neg (by decide), if_neg (by decide), if_neg (by decide), if_neg (by decide), if_pos rfl]
theorem lp_L_law_308 (n : Nat) (sl : Int32) (sv : Int32 → Int32) (v2 : Int32) (v3 : Int32) (v4 : Int32) (v5 : Int32) (v6 : Int32) (v7 : Int32) (v8 : Int32) (v9 : Int32) (v10 : Int32) (v12 : Int32) (v13 : Int32) (v14 : Int32) (v15 : Int32) (v16 : Int32) (v17 : Int32) (v18 : Int32) (F1 : Nat → Int32) (A1 : Nat → Int32 → Int32) : lp_L_law (n + 1) 308 sl sv v2 v3 v4 v5 v6 v7 v8 v9 v10 v12 v13 v14 v15 v16 v17 v18 F1 A1 = (if v8 < v2 then (if (((1 : Int32) + ((3 : Int32) * v8)) < sl → ¬ ((1 : Int32) + ((3 : Int32) * v8)) < 0) ∧ (((2 : Int32) + ((3 : Int32) * v8)) < sl → ¬ ((2 : Int32) + ((3 : Int32) * v8)) < 0) ∧ (¬ (((f_L_period (f_L_cell sl sv ((1 : Int32) + ((3 : Int32) * v8)))) + (1 : Int32)) / (2 : Int32)) = (0 : Int32)) ∧ (((3 : Int32) + ((3 : Int32) * v8)) < sl → ¬ ((3 : Int32) + ((3 : Int32) * v8)) < 0) ∧ (¬ v2 = (0 : Int32)) ∧ (¬ (if ((f_L_deadline (f_L_period (f_L_cell sl sv ((1 : Int32) + ((3 : Int32) * v8)))) (f_L_cell sl sv ((2 : Int32) + ((3 : Int32) * v8)))) / v2) < (1 : Int32) then (1 : Int32) else ((f_L_deadline (f_L_period (f_L_cell sl sv ((1 : Int32) + ((3 : Int32) * v8)))) (f_L_cell sl sv ((2 : Int32) + ((3 : Int32) * v8)))) / v2)) = (0 : Int32)) ∧ ((en_getRunTicks F1 A1 v8).isSome = true) ∧ (¬ (f_L_period (f_L_cell sl sv ((1 : Int32) + ((3 : Int32) * v8)))) = (0 : Int32)) then (if (R_getRunTicks F1 A1 v8) = ((f_L_wcet (f_L_deadline (f_L_period (f_L_cell sl sv ((1 : Int32) + ((3 : Int32) * v8)))) (f_L_cell sl sv ((2 : Int32) + ((3 : Int32) * v8)))) v2 (f_L_cell sl sv ((3 : Int32) + ((3 : Int32) * v8)))) * (v3 / (f_L_period (f_L_cell sl sv ((1 : Int32) + ((3 : Int32) * v8)))))) then lp_L_law n 308 sl sv v2 v3 v4 0 0 0 (v8 + (1 : Int32)) 0 0 0 0 0 0 0 0 0 F1 A1 else some ((0 : Int32))) else none) else (if 0 < (f_getFrame F1) then lp_L_law n 402 sl sv v2 v3 v4 0 0 0 (f_getFrame F1) (0 : Int32) 0 0 0 0 0 0 0 0 F1 A1 else (if (((14 : Int32) + ((2 : Int32) * v4)) < sl → ¬ ((14 : Int32) + ((2 : Int32) * v4)) < 0) ∧ ((en_run F1 A1 ((f_L_cell sl sv ((14 : Int32) + ((2 : Int32) * v4))) &&& (63 : Int32))).isSome = true) then lp_L_law n 818 sl sv v2 v3 v4 0 0 0 0 0 0 0 0 0 0 0 0 0 (R_run F1 A1 ((f_L_cell sl sv ((14 : Int32) + ((2 : Int32) * v4))) &&& (63 : Int32))).2.1 (R_run F1 A1 ((f_L_cell sl sv ((14 : Int32) + ((2 : Int32) * v4))) &&& (63 : Int32))).2.2 else none))) := by
  rw [lp_L_law, if_neg (by decide), if_neg (by decide), if_neg (by decide), if_neg (by decide), if_neg (by decide), if_neg (by decide), if_neg (by decide), if_neg (by decide), if_neg (by decide), if_neg (by decide), if_pos rfl]
theorem lp_L_law_590 (n : Nat) (sl : Int32) (sv : Int32 → Int32) (v2 : Int32) (v3 : Int32) (v4 : Int32) (v5 : Int32) (v6 : Int32) (v7 : Int32) (v8 : Int32) (v9 : Int32) (v10 : Int32) (v12 : Int32) (v13 : Int32) (v14 : Int32) (v15 : Int32) (v16 : Int32) (v17 : Int32) (v18 : Int32) (F1 : Nat → Int32) (A1 : Nat → Int32 → Int32) : lp_L_law (n + 1) 590 sl sv v2 v3 v4 v5 v6 v7 v8 v9 v10 v12 v13 v14 v15 v16 v17 v18 F1 A1 = (if v9 < v2 then (if (((1 : Int32) + ((3 : Int32) * v9)) < sl → ¬ ((1 : Int32) + ((3 : Int32) * v9)) < 0) ∧ (((2 : Int32) + ((3 : Int32) * v9)) < sl → ¬ ((2 : Int32) + ((3 : Int32) * v9)) < 0) ∧ (¬ (((f_L_period (f_L_cell sl sv ((1 : Int32) + ((3 : Int32) * v9)))) + (1 : Int32)) / (2 : Int32)) = (0 : Int32)) ∧ (((3 : Int32) + ((3 : Int32) * v9)) < sl → ¬ ((3 : Int32) + ((3 : Int32) * v9)) < 0) ∧ (¬ v2 = (0 : Int32)) ∧ (¬ (if ((f_L_deadline (f_L_period (f_L_cell sl sv ((1 : Int32) + ((3 : Int32) * v9)))) (f_L_cell sl sv ((2 : Int32) + ((3 : Int32) * v9)))) / v2) < (1 : Int32) then (1 : Int32) else ((f_L_deadline (f_L_period (f_L_cell sl sv ((1 : Int32) + ((3 : Int32) * v9)))) (f_L_cell sl sv ((2 : Int32) + ((3 : Int32) * v9)))) / v2)) = (0 : Int32)) then lp_L_law n 649 sl sv v2 v3 v4 0 0 0 v8 v9 (f_L_period (f_L_cell sl sv ((1 : Int32) + ((3 : Int32) * v9)))) (f_L_wcet (f_L_deadline (f_L_period (f_L_cell sl sv ((1 : Int32) + ((3 : Int32) * v9)))) (f_L_cell sl sv ((2 : Int32) + ((3 : Int32) * v9)))) v2 (f_L_cell sl sv ((3 : Int32) + ((3 : Int32) * v9)))) (0 : Int32) 0 0 0 0 0 F1 A1 else none) else (if (((14 : Int32) + ((2 : Int32) * v4)) < sl → ¬ ((14 : Int32) + ((2 : Int32) * v4)) < 0) ∧ ((en_run F1 A1 ((f_L_cell sl sv ((14 : Int32) + ((2 : Int32) * v4))) &&& (63 : Int32))).isSome = true) then lp_L_law n 818 sl sv v2 v3 v4 0 0 0 0 0 0 0 0 0 0 0 0 0 (R_run F1 A1 ((f_L_cell sl sv ((14 : Int32) + ((2 : Int32) * v4))) &&& (63 : Int32))).2.1 (R_run F1 A1 ((f_L_cell sl sv ((14 : Int32) + ((2 : Int32) * v4))) &&& (63 : Int32))).2.2 else none)) := by
  rw [lp_L_law, if_neg (by decide), if_neg (by decide), if_neg (by decide), if_neg (by decide), if_neg (by decide), if_neg (by decide), if_neg (by decide), if_neg (by decide), if_neg (by decide), if_neg (by decide), if_neg (by decide), if_pos rfl]
theorem lp_L_law_649 (n : Nat) (sl : Int32) (sv : Int32 → Int32) (v2 : Int32) (v3 : Int32) (v4 : Int32) (v5 : Int32) (v6 : Int32) (v7 : Int32) (v8 : Int32) (v9 : Int32) (v10 : Int32) (v12 : Int32) (v13 : Int32) (v14 : Int32) (v15 : Int32) (v16 : Int32) (v17 : Int32) (v18 : Int32) (F1 : Nat → Int32) (A1 : Nat → Int32 → Int32) : lp_L_law (n + 1) 649 sl sv v2 v3 v4 v5 v6 v7 v8 v9 v10 v12 v13 v14 v15 v16 v17 v18 F1 A1 = (if (¬ v10 = (0 : Int32)) then (if v13 < (v3 / v10) then lp_L_law n 667 sl sv v2 v3 v4 0 0 0 v8 v9 v10 v12 v13 (0 : Int32) (0 : Int32) (0 : Int32) 0 0 F1 A1 else lp_L_law n 590 sl sv v2 v3 v4 0 0 0 v8 (v9 + (1 : Int32)) 0 0 0 0 0 0 0 0 F1 A1) else none) := by
  rw [lp_L_law, if_neg (by decide), if_neg (by decide), if_neg (by decide), if_neg (by decide), if_neg (by decide), if_neg (by decide), if_neg (by decide), if_neg (by decide), if_neg (by decide), if_neg (by decide), if_neg (by decide), if_neg (by decide), if_pos rfl]
theorem lp_L_law_667 (n : Nat) (sl : Int32) (sv : Int32 → Int32) (v2 : Int32) (v3 : Int32) (v4 : Int32) (v5 : Int32) (v6 : Int32) (v7 : Int32) (v8 : Int32) (v9 : Int32) (v10 : Int32) (v12 : Int32) (v13 : Int32) (v14 : Int32) (v15 : Int32) (v16 : Int32) (v17 : Int32) (v18 : Int32) (F1 : Nat → Int32) (A1 : Nat → Int32 → Int32) : lp_L_law (n + 1) 667 sl sv v2 v3 v4 v5 v6 v7 v8 v9 v10 v12 v13 v14 v15 v16 v17 v18 F1 A1 = (if (¬ v8 = (0 : Int32)) then (if v16 < (v3 / v8) then lp_L_law n 686 sl sv v2 v3 v4 0 0 0 v8 v9 v10 v12 v13 v14 v15 v16 (0 : Int32) (v16 * v8) F1 A1 else (if v14 = v12 then (if ((en_getSliceCount F1 A1 v9 v13).isSome = true) then (if (R_getSliceCount F1 A1 v9 v13) = v15 then (if (¬ v8 = (0 : Int32)) then (if v15 < (((v12 + v8) - (1 : Int32)) / v8) then some ((0 : Int32)) else lp_L_law n 649 sl sv v2 v3 v4 0 0 0 v8 v9 v10 v12 (v13 + (1 : Int32)) 0 0 0 0 0 F1 A1) else none) else some ((0 : Int32))) else none) else some ((0 : Int32)))) else none) := by
  rw [lp_L_law, if_neg (by decide), if_neg (by decide), if_neg (by decide), if_neg (by decide), if_neg (by decide), if_neg (by decide), if_neg (by decide), if_neg (by decide), if_neg (by decide), if_neg (by decide), if_neg (by decide), if_neg (by decide), if_neg (by decide), if_pos rfl]
theorem lp_L_law_686 (n : Nat) (sl : Int32) (sv : Int32 → Int32) (v2 : Int32) (v3 : Int32) (v4 : Int32) (v5 : Int32) (v6 : Int32) (v7 : Int32) (v8 : Int32) (v9 : Int32) (v10 : Int32) (v12 : Int32) (v13 : Int32) (v14 : Int32) (v15 : Int32) (v16 : Int32) (v17 : Int32) (v18 : Int32) (F1 : Nat → Int32) (A1 : Nat → Int32 → Int32) : lp_L_law (n + 1) 686 sl sv v2 v3 v4 v5 v6 v7 v8 v9 v10 v12 v13 v14 v15 v16 v17 v18 F1 A1 = (if v18 < ((v16 + (1 : Int32)) * v8) then (if ((en_getTickTask F1 A1 v18).isSome = true) ∧ ((R_getTickTask F1 A1 v18) = v9 → (en_getTickJob F1 A1 v18).isSome = true) then lp_L_law n 686 sl sv v2 v3 v4 0 0 0 v8 v9 v10 v12 v13 (if (R_getTickTask F1 A1 v18) = v9 then (if (R_getTickJob F1 A1 v18) = v13 then (v14 + (1 : Int32)) else v14) else v14) v15 v16 (if (R_getTickTask F1 A1 v18) = v9 then (if (R_getTickJob F1 A1 v18) = v13 then (1 : Int32) else v17) else v17) (v18 + (1 : Int32)) F1 A1 else none) else lp_L_law n 667 sl sv v2 v3 v4 0 0 0 v8 v9 v10 v12 v13 v14 (if v17 = 0 then v15 else (v15 + (1 : Int32))) (v16 + (1 : Int32)) 0 0 F1 A1) := by
  rw [lp_L_law, if_neg (by decide), if_neg (by decide), if_neg (by decide), if_neg (by decide), if_neg (by decide), if_neg (by decide), if_neg (by decide), if_neg (by decide), if_neg (by decide), if_neg (by decide), if_neg (by decide), if_neg (by decide), if_neg (by decide), if_neg (by decide), if_pos rfl]
set_option maxRecDepth 65536 in
set_option maxHeartbeats 4000000 in
theorem lpw_L_law {l : Launch} {Z : State} {a0 : Array Value} (H : OK Z a0) (sl : Int32) (sv : Int32 → Int32) (G1 : Nat → Int64) (B1 : Nat → Int32 → Int64) : ∀ (n : Nat) (v2 : Int32) (v3 : Int32) (v4 : Int32) (v5 : Int32) (v6 : Int32) (v7 : Int32) (v8 : Int32) (v9 : Int32) (v10 : Int32) (v12 : Int32) (v13 : Int32) (v14 : Int32) (v15 : Int32) (v16 : Int32) (v17 : Int32) (v18 : Int32) (F1 : Nat → Int32) (A1 : Nat → Int32 → Int32) (r : Int32), (lp_L_law n 13 sl sv v2 v3 v4 v5 v6 v7 v8 v9 v10 v12 v13 v14 v15 v16 v17 v18 F1 A1 = some r → Wk l Z (MoL Z cdC "CyclicExecutiveOwnLaw" true) md_L_law 13 [.val (.ref 0), .val (.ref 1), .unset, .unset, .unset, .unset, .unset, .unset, .unset, .unset, .unset, .unset, .unset, .unset, .unset, .unset, .unset, .unset, .unset] [] (sl, sv, [(7, F1, G1, A1, B1)]) 8 1328 (fun v _ => v = some (.int r))) ∧ (lp_L_law n 32 sl sv v2 v3 v4 v5 v6 v7 v8 v9 v10 v12 v13 v14 v15 v16 v17 v18 F1 A1 = some r → Wk l Z (MoL Z cdC "CyclicExecutiveOwnLaw" true) md_L_law 32 [.val (.ref 0), .val (.ref 1), .val (.int v2), .val (.int v3), .val (.int v4), .unset, .unset, .unset, .unset, .unset, .unset, .unset, .unset, .unset, .unset, .unset, .unset, .unset, .unset] [] (sl, sv, [(7, F1, G1, A1, B1)]) 8 1328 (fun v _ => v = some (.int r))) ∧ (lp_L_law n 105 sl sv v2 v3 v4 v5 v6 v7 v8 v9 v10 v12 v13 v14 v15 v16 v17 v18 F1 A1 = some r → Wk l Z (MoL Z cdC "CyclicExecutiveOwnLaw" true) md_L_law 105 [.val (.ref 0), .val (.ref 1), .val (.int v2), .val (.int v3), .val (.int v4), .val (.int v5), .unset, .unset, .unset, .unset, .unset, .unset, .unset, .unset, .unset, .unset, .unset, .unset, .unset] [] (sl, sv, [(7, F1, G1, A1, B1)]) 8 1328 (fun v _ => v = some (.int r))) ∧ (lp_L_law n 136 sl sv v2 v3 v4 v5 v6 v7 v8 v9 v10 v12 v13 v14 v15 v16 v17 v18 F1 A1 = some r → Wk l Z (MoL Z cdC "CyclicExecutiveOwnLaw" true) md_L_law 136 [.val (.ref 0), .val (.ref 1), .val (.int v2), .val (.int v3), .val (.int v4), .unset, .unset, .unset, .unset, .unset, .unset, .unset, .unset, .unset, .unset, .unset, .unset, .unset, .unset] [] (sl, sv, [(7, F1, G1, A1, B1)]) 8 1328 (fun v _ => v = some (.int r))) ∧ (lp_L_law n 268 sl sv v2 v3 v4 v5 v6 v7 v8 v9 v10 v12 v13 v14 v15 v16 v17 v18 F1 A1 = some r → Wk l Z (MoL Z cdC "CyclicExecutiveOwnLaw" true) md_L_law 268 [.val (.ref 0), .val (.ref 1), .val (.int v2), .val (.int v3), .val (.int v4), .unset, .val (.int v6), .val (.int v7), .unset, .unset, .unset, .unset, .unset, .unset, .unset, .unset, .unset, .unset, .unset] [] (sl, sv, [(7, F1, G1, A1, B1)]) 8 1328 (fun v _ => v = some (.int r))) ∧ (lp_L_law n 190 sl sv v2 v3 v4 v5 v6 v7 v8 v9 v10 v12 v13 v14 v15 v16 v17 v18 F1 A1 = some r → Wk l Z (MoL Z cdC "CyclicExecutiveOwnLaw" true) md_L_law 190 [.val (.ref 0), .val (.ref 1), .val (.int v2), .val (.int v3), .val (.int v4), .val (.int v5), .val (.int v6), .val (.int v7), .val (.int v8), .unset, .unset, .unset, .unset, .unset, .unset, .unset, .unset, .unset, .unset] [] (sl, sv, [(7, F1, G1, A1, B1)]) 8 1328 (fun v _ => v = some (.int r))) ∧ (lp_L_law n 295 sl sv v2 v3 v4 v5 v6 v7 v8 v9 v10 v12 v13 v14 v15 v16 v17 v18 F1 A1 = some r → Wk l Z (MoL Z cdC "CyclicExecutiveOwnLaw" true) md_L_law 295 [.val (.ref 0), .val (.ref 1), .val (.int v2), .val (.int v3), .val (.int v4), .unset, .unset, .unset, .unset, .unset, .unset, .unset, .unset, .unset, .unset, .unset, .unset, .unset, .unset] [] (sl, sv, [(7, F1, G1, A1, B1)]) 8 1328 (fun v _ => v = some (.int r))) ∧ (lp_L_law n 402 sl sv v2 v3 v4 v5 v6 v7 v8 v9 v10 v12 v13 v14 v15 v16 v17 v18 F1 A1 = some r → Wk l Z (MoL Z cdC "CyclicExecutiveOwnLaw" true) md_L_law 402 [.val (.ref 0), .val (.ref 1), .val (.int v2), .val (.int v3), .val (.int v4), .unset, .unset, .unset, .val (.int v8), .val (.int v9), .unset, .unset, .unset, .unset, .unset, .unset, .unset, .unset, .unset] [] (sl, sv, [(7, F1, G1, A1, B1)]) 8 1328 (fun v _ => v = some (.int r))) ∧ (lp_L_law n 818 sl sv v2 v3 v4 v5 v6 v7 v8 v9 v10 v12 v13 v14 v15 v16 v17 v18 F1 A1 = some r → Wk l Z (MoL Z cdC "CyclicExecutiveOwnLaw" true) md_L_law 818 [.val (.ref 0), .val (.ref 1), .val (.int v2), .val (.int v3), .val (.int v4), .unset, .unset, .unset, .unset, .unset, .unset, .unset, .unset, .unset, .unset, .unset, .unset, .unset, .unset] [] (sl, sv, [(7, F1, G1, A1, B1)]) 8 1328 (fun v _ => v = some (.int r))) ∧ (lp_L_law n 227 sl sv v2 v3 v4 v5 v6 v7 v8 v9 v10 v12 v13 v14 v15 v16 v17 v18 F1 A1 = some r → Wk l Z (MoL Z cdC "CyclicExecutiveOwnLaw" true) md_L_law 227 [.val (.ref 0), .val (.ref 1), .val (.int v2), .val (.int v3), .val (.int v4), .unset, .val (.int v6), .unset, .val (.int v8), .val (.int v9), .val (.int v10), .unset, .unset, .unset, .unset, .unset, .unset, .unset, .unset] [] (sl, sv, [(7, F1, G1, A1, B1)]) 8 1328 (fun v _ => v = some (.int r))) ∧ (lp_L_law n 308 sl sv v2 v3 v4 v5 v6 v7 v8 v9 v10 v12 v13 v14 v15 v16 v17 v18 F1 A1 = some r → Wk l Z (MoL Z cdC "CyclicExecutiveOwnLaw" true) md_L_law 308 [.val (.ref 0), .val (.ref 1), .val (.int v2), .val (.int v3), .val (.int v4), .unset, .unset, .unset, .val (.int v8), .unset, .unset, .unset, .unset, .unset, .unset, .unset, .unset, .unset, .unset] [] (sl, sv, [(7, F1, G1, A1, B1)]) 8 1328 (fun v _ => v = some (.int r))) ∧ (lp_L_law n 590 sl sv v2 v3 v4 v5 v6 v7 v8 v9 v10 v12 v13 v14 v15 v16 v17 v18 F1 A1 = some r → Wk l Z (MoL Z cdC "CyclicExecutiveOwnLaw" true) md_L_law 590 [.val (.ref 0), .val (.ref 1), .val (.int v2), .val (.int v3), .val (.int v4), .unset, .unset, .unset, .val (.int v8), .val (.int v9), .unset, .unset, .unset, .unset, .unset, .unset, .unset, .unset, .unset] [] (sl, sv, [(7, F1, G1, A1, B1)]) 8 1328 (fun v _ => v = some (.int r))) ∧ (lp_L_law n 649 sl sv v2 v3 v4 v5 v6 v7 v8 v9 v10 v12 v13 v14 v15 v16 v17 v18 F1 A1 = some r → Wk l Z (MoL Z cdC "CyclicExecutiveOwnLaw" true) md_L_law 649 [.val (.ref 0), .val (.ref 1), .val (.int v2), .val (.int v3), .val (.int v4), .unset, .unset, .unset, .val (.int v8), .val (.int v9), .val (.int v10), .unset, .val (.int v12), .val (.int v13), .unset, .unset, .unset, .unset, .unset] [] (sl, sv, [(7, F1, G1, A1, B1)]) 8 1328 (fun v _ => v = some (.int r))) ∧ (lp_L_law n 667 sl sv v2 v3 v4 v5 v6 v7 v8 v9 v10 v12 v13 v14 v15 v16 v17 v18 F1 A1 = some r → Wk l Z (MoL Z cdC "CyclicExecutiveOwnLaw" true) md_L_law 667 [.val (.ref 0), .val (.ref 1), .val (.int v2), .val (.int v3), .val (.int v4), .unset, .unset, .unset, .val (.int v8), .val (.int v9), .val (.int v10), .unset, .val (.int v12), .val (.int v13), .val (.int v14), .val (.int v15), .val (.int v16), .unset, .unset] [] (sl, sv, [(7, F1, G1, A1, B1)]) 8 1328 (fun v _ => v = some (.int r))) ∧ (lp_L_law n 686 sl sv v2 v3 v4 v5 v6 v7 v8 v9 v10 v12 v13 v14 v15 v16 v17 v18 F1 A1 = some r → Wk l Z (MoL Z cdC "CyclicExecutiveOwnLaw" true) md_L_law 686 [.val (.ref 0), .val (.ref 1), .val (.int v2), .val (.int v3), .val (.int v4), .unset, .unset, .unset, .val (.int v8), .val (.int v9), .val (.int v10), .unset, .val (.int v12), .val (.int v13), .val (.int v14), .val (.int v15), .val (.int v16), .val (.int v17), .val (.int v18)] [] (sl, sv, [(7, F1, G1, A1, B1)]) 8 1328 (fun v _ => v = some (.int r))) := by
  intro n
  induction n with
  | zero =>
    intro v2 v3 v4 v5 v6 v7 v8 v9 v10 v12 v13 v14 v15 v16 v17 v18 F1 A1 r
    exact ⟨(fun h => by rw [lp_L_law_z] at h; cases h), (fun h => by rw [lp_L_law_z] at h; cases h), (fun h => by rw [lp_L_law_z] at h; cases h), (fun h => by rw [lp_L_law_z] at h; cases h), (fun h => by rw [lp_L_law_z] at h; cases h), (fun h => by rw [lp_L_law_z] at h; cases h), (fun h => by rw [lp_L_law_z] at h; cases h), (fun h => by rw [lp_L_law_z] at h; cases h), (fun h => by rw [lp_L_law_z] at h; cases h), (fun h => by rw [lp_L_law_z] at h; cases h), (fun h => by rw [lp_L_law_z] at h; cases h), (fun h => by rw [lp_L_law_z] at h; cases h), (fun h => by rw [lp_L_law_z] at h; cases h), (fun h => by rw [lp_L_law_z] at h; cases h), (fun h => by rw [lp_L_law_z] at h; cases h)⟩
  | succ n ih =>
    intro v2 v3 v4 v5 v6 v7 v8 v9 v10 v12 v13 v14 v15 v16 v17 v18 F1 A1 r
    refine ⟨fun h => ?_, fun h => ?_, fun h => ?_, fun h => ?_, fun h => ?_, fun h => ?_, fun h => ?_, fun h => ?_, fun h => ?_, fun h => ?_, fun h => ?_, fun h => ?_, fun h => ?_, fun h => ?_, fun h => ?_⟩
    · rw [lp_L_law_13] at h
      exact wp_L_law_13 H sl sv F1 G1 A1 B1  ((gd h).1) ((ih _ _ _ _ _ _ _ _ _ _ _ _ _ _ _ _ _ _ _).2.1 (gd h).2)
    · rw [lp_L_law_32] at h
      exact wp_L_law_32 H sl sv F1 G1 A1 B1 v2 v3 v4 (fun q1 q2 => (ih _ _ _ _ _ _ _ _ _ _ _ _ _ _ _ _ _ _ _).2.2.2.1 (ifp q2 (ifn q1 h))) (fun q1 q2 => (rt_law (Option.some.inj (ifn q2 (ifn q1 h))))) (fun q1 => (gd (ifp q1 h)).1.1) (fun q1 => (gd (ifp q1 h)).1.2.1) (fun q1 => (gd (ifp q1 h)).1.2.2.1) (fun q1 => (gd (ifp q1 h)).1.2.2.2.1) (fun q1 => (gd (ifp q1 h)).1.2.2.2.2.1) (fun q1 => (gd (ifp q1 h)).1.2.2.2.2.2.1) (fun q1 => (gd (ifp q1 h)).1.2.2.2.2.2.2) (fun q1 q12 => (ih _ _ _ _ _ _ _ _ _ _ _ _ _ _ _ _ _ _ _).2.2.1 (ifp q12 (gd (ifp q1 h)).2)) (fun q1 q12 => (rt_law (Option.some.inj (ifn q12 (gd (ifp q1 h)).2))))
    · rw [lp_L_law_105] at h
      exact wp_L_law_105 H sl sv F1 G1 A1 B1 v2 v3 v4 v5 ((gd h).1.1) ((gd h).1.2) ((ih _ _ _ _ _ _ _ _ _ _ _ _ _ _ _ _ _ _ _).2.1 (gd h).2)
    · rw [lp_L_law_136] at h
      exact wp_L_law_136 H sl sv F1 G1 A1 B1 v2 v3 v4 (fun q1 => (rt_law (Option.some.inj (ifn q1 h)))) (fun q1 => (gd (ifp q1 h)).1) (fun q1 q4 => (ih _ _ _ _ _ _ _ _ _ _ _ _ _ _ _ _ _ _ _).2.2.2.2.2.1 (ifn q4 (gd (ifp q1 h)).2)) (fun q1 q4 => (gd (ifp q4 (gd (ifp q1 h)).2)).1.1) (fun q1 q4 => (gd (ifp q4 (gd (ifp q1 h)).2)).1.2) (fun q1 q4 => (ih _ _ _ _ _ _ _ _ _ _ _ _ _ _ _ _ _ _ _).2.2.2.2.1 (gd (ifp q4 (gd (ifp q1 h)).2)).2)
    · rw [lp_L_law_268] at h
      exact wp_L_law_268 H sl sv F1 G1 A1 B1 v2 v3 v4 v6 v7 (fun q1 q2 => (gd (ifn q2 (ifn q1 h))).1.1) (fun q1 q2 => (gd (ifn q2 (ifn q1 h))).1.2) (fun q1 q2 => (ih _ _ _ _ _ _ _ _ _ _ _ _ _ _ _ _ _ _ _).2.2.2.2.2.2.2.2.1 (gd (ifn q2 (ifn q1 h))).2) (fun q1 q2 => (ih _ _ _ _ _ _ _ _ _ _ _ _ _ _ _ _ _ _ _).2.2.2.2.2.2.2.1 (ifp q2 (ifn q1 h))) (fun q1 q7 => (gd (ifp q7 (ifp q1 h))).1) (fun q1 q7 q9 => (ih _ _ _ _ _ _ _ _ _ _ _ _ _ _ _ _ _ _ _).2.2.2.2.2.2.1 (ifp q9 (gd (ifp q7 (ifp q1 h))).2)) (fun q1 q7 q9 => (rt_law (Option.some.inj (ifn q9 (gd (ifp q7 (ifp q1 h))).2)))) (fun q1 q7 => (rt_law (Option.some.inj (ifn q7 (ifp q1 h)))))
    · rw [lp_L_law_190] at h
      exact wp_L_law_190 H sl sv F1 G1 A1 B1 v2 v3 v4 v5 v6 v7 v8 (fun q1 => (gd (ifp q1 h)).1) (fun q1 => (ih _ _ _ _ _ _ _ _ _ _ _ _ _ _ _ _ _ _ _).2.2.2.2.2.2.2.2.2.1 (gd (ifp q1 h)).2) (fun q1 => (gd (ifn q1 h)).1) (fun q1 => (ih _ _ _ _ _ _ _ _ _ _ _ _ _ _ _ _ _ _ _).2.2.2.2.2.1 (gd (ifn q1 h)).2)
    · rw [lp_L_law_295] at h
      exact wp_L_law_295 H sl sv F1 G1 A1 B1 v2 v3 v4 (fun q1 => (ih _ _ _ _ _ _ _ _ _ _ _ _ _ _ _ _ _ _ _).2.2.2.2.2.2.2.2.2.2.1 (ifp q1 h)) (fun q1 => (rt_law (Option.some.inj (ifn q1 h))))
    · rw [lp_L_law_402] at h
      exact wp_L_law_402 H sl sv F1 G1 A1 B1 v2 v3 v4 v8 v9 (fun q1 => (ih _ _ _ _ _ _ _ _ _ _ _ _ _ _ _ _ _ _ _).2.2.2.2.2.2.2.2.2.2.2.1 (ifn q1 h)) (fun q1 => (gd (ifp q1 h)).1.1) (fun q1 => (gd (ifp q1 h)).1.2) (fun q1 q9 q10 q11 => (rt_law (Option.some.inj (ifp q11 (ifn q10 (ifp q9 (gd (ifp q1 h)).2)))))) (fun q1 q9 q10 q11 q13 => (gd (ifp q13 (ifn q11 (ifn q10 (ifp q9 (gd (ifp q1 h)).2))))).1.1) (fun q1 q9 q10 q11 q13 => (gd (ifp q13 (ifn q11 (ifn q10 (ifp q9 (gd (ifp q1 h)).2))))).1.2.1) (fun q1 q9 q10 q11 q13 => (gd (ifp q13 (ifn q11 (ifn q10 (ifp q9 (gd (ifp q1 h)).2))))).1.2.2) (fun q1 q9 q10 q11 q13 q17 => (rt_law (Option.some.inj (ifp q17 (gd (ifp q13 (ifn q11 (ifn q10 (ifp q9 (gd (ifp q1 h)).2))))).2)))) (fun q1 q9 q10 q11 q13 q17 => (gd (ifn q17 (gd (ifp q13 (ifn q11 (ifn q10 (ifp q9 (gd (ifp q1 h)).2))))).2)).1) (fun q1 q9 q10 q11 q13 q17 q20 q21 => (rt_law (Option.some.inj (ifp q21 (ifp q20 (gd (ifn q17 (gd (ifp q13 (ifn q11 (ifn q10 (ifp q9 (gd (ifp q1 h)).2))))).2)).2))))) (fun q1 q9 q10 q11 q13 q17 q20 q21 q23 => (gd (ifp q23 (ifn q21 (ifp q20 (gd (ifn q17 (gd (ifp q13 (ifn q11 (ifn q10 (ifp q9 (gd (ifp q1 h)).2))))).2)).2)))).1) (fun q1 q9 q10 q11 q13 q17 q20 q21 q23 q25 => (rt_law (Option.some.inj (ifp q25 (gd (ifp q23 (ifn q21 (ifp q20 (gd (ifn q17 (gd (ifp q13 (ifn q11 (ifn q10 (ifp q9 (gd (ifp q1 h)).2))))).2)).2)))).2)))) (fun q1 q9 q10 q11 q13 q17 q20 q21 q23 q25 q27 => (ih _ _ _ _ _ _ _ _ _ _ _ _ _ _ _ _ _ _ _).2.2.2.2.2.2.2.1 (ifn q27 (ifn q25 (gd (ifp q23 (ifn q21 (ifp q20 (gd (ifn q17 (gd (ifp q13 (ifn q11 (ifn q10 (ifp q9 (gd (ifp q1 h)).2))))).2)).2)))).2))) (fun q1 q9 q10 q11 q13 q17 q20 q21 q23 q25 q27 => (rt_law (Option.some.inj (ifp q27 (ifn q25 (gd (ifp q23 (ifn q21 (ifp q20 (gd (ifn q17 (gd (ifp q13 (ifn q11 (ifn q10 (ifp q9 (gd (ifp q1 h)).2))))).2)).2)))).2))))) (fun q1 q9 q10 q11 q13 q17 q20 q21 q23 => (rt_law (Option.some.inj (ifn q23 (ifn q21 (ifp q20 (gd (ifn q17 (gd (ifp q13 (ifn q11 (ifn q10 (ifp q9 (gd (ifp q1 h)).2))))).2)).2)))))) (fun q1 q9 q10 q11 q13 q17 q20 => (rt_law (Option.some.inj (ifn q20 (gd (ifn q17 (gd (ifp q13 (ifn q11 (ifn q10 (ifp q9 (gd (ifp q1 h)).2))))).2)).2)))) (fun q1 q9 q10 q11 q13 => (rt_law (Option.some.inj (ifn q13 (ifn q11 (ifn q10 (ifp q9 (gd (ifp q1 h)).2))))))) (fun q1 q9 q10 => (ih _ _ _ _ _ _ _ _ _ _ _ _ _ _ _ _ _ _ _).2.2.2.2.2.2.2.1 (ifp q10 (ifp q9 (gd (ifp q1 h)).2))) (fun q1 q9 => (rt_law (Option.some.inj (ifn q9 (gd (ifp q1 h)).2))))
    · rw [lp_L_law_818] at h
      exact wp_L_law_818 H sl sv F1 G1 A1 B1 v2 v3 v4 ((ih _ _ _ _ _ _ _ _ _ _ _ _ _ _ _ _ _ _ _).2.2.2.1 h)
    · rw [lp_L_law_227] at h
      exact wp_L_law_227 H sl sv F1 G1 A1 B1 v2 v3 v4 v6 v8 v9 v10 (fun q1 => (gd (ifp q1 h)).1) (fun q1 => (ih _ _ _ _ _ _ _ _ _ _ _ _ _ _ _ _ _ _ _).2.2.2.2.1 (gd (ifp q1 h)).2) (fun q1 => (gd (ifn q1 h)).1) (fun q1 => (ih _ _ _ _ _ _ _ _ _ _ _ _ _ _ _ _ _ _ _).2.2.2.2.2.2.2.2.2.1 (gd (ifn q1 h)).2)
    · rw [lp_L_law_308] at h
      exact wp_L_law_308 H sl sv F1 G1 A1 B1 v2 v3 v4 v8 (fun q1 q2 => (gd (ifn q2 (ifn q1 h))).1.1) (fun q1 q2 => (gd (ifn q2 (ifn q1 h))).1.2) (fun q1 q2 => (ih _ _ _ _ _ _ _ _ _ _ _ _ _ _ _ _ _ _ _).2.2.2.2.2.2.2.2.1 (gd (ifn q2 (ifn q1 h))).2) (fun q1 q2 => (ih _ _ _ _ _ _ _ _ _ _ _ _ _ _ _ _ _ _ _).2.2.2.2.2.2.2.1 (ifp q2 (ifn q1 h))) (fun q1 => (gd (ifp q1 h)).1.1) (fun q1 => (gd (ifp q1 h)).1.2.1) (fun q1 => (gd (ifp q1 h)).1.2.2.1) (fun q1 => (gd (ifp q1 h)).1.2.2.2.1) (fun q1 => (gd (ifp q1 h)).1.2.2.2.2.1) (fun q1 => (gd (ifp q1 h)).1.2.2.2.2.2.1) (fun q1 => (gd (ifp q1 h)).1.2.2.2.2.2.2.1) (fun q1 => (gd (ifp q1 h)).1.2.2.2.2.2.2.2) (fun q1 q15 => (ih _ _ _ _ _ _ _ _ _ _ _ _ _ _ _ _ _ _ _).2.2.2.2.2.2.2.2.2.2.1 (ifp q15 (gd (ifp q1 h)).2)) (fun q1 q15 => (rt_law (Option.some.inj (ifn q15 (gd (ifp q1 h)).2))))
    · rw [lp_L_law_590] at h
      exact wp_L_law_590 H sl sv F1 G1 A1 B1 v2 v3 v4 v8 v9 (fun q1 => (gd (ifn q1 h)).1.1) (fun q1 => (gd (ifn q1 h)).1.2) (fun q1 => (ih _ _ _ _ _ _ _ _ _ _ _ _ _ _ _ _ _ _ _).2.2.2.2.2.2.2.2.1 (gd (ifn q1 h)).2) (fun q1 => (gd (ifp q1 h)).1.1) (fun q1 => (gd (ifp q1 h)).1.2.1) (fun q1 => (gd (ifp q1 h)).1.2.2.1) (fun q1 => (gd (ifp q1 h)).1.2.2.2.1) (fun q1 => (gd (ifp q1 h)).1.2.2.2.2.1) (fun q1 => (gd (ifp q1 h)).1.2.2.2.2.2) (fun q1 => (ih _ _ _ _ _ _ _ _ _ _ _ _ _ _ _ _ _ _ _).2.2.2.2.2.2.2.2.2.2.2.2.1 (gd (ifp q1 h)).2)
    · rw [lp_L_law_649] at h
      exact wp_L_law_649 H sl sv F1 G1 A1 B1 v2 v3 v4 v8 v9 v10 v12 v13 ((gd h).1) (fun q2 => (ih _ _ _ _ _ _ _ _ _ _ _ _ _ _ _ _ _ _ _).2.2.2.2.2.2.2.2.2.2.2.1 (ifn q2 (gd h).2)) (fun q2 => (ih _ _ _ _ _ _ _ _ _ _ _ _ _ _ _ _ _ _ _).2.2.2.2.2.2.2.2.2.2.2.2.2.1 (ifp q2 (gd h).2))
    · rw [lp_L_law_667] at h
      exact wp_L_law_667 H sl sv F1 G1 A1 B1 v2 v3 v4 v8 v9 v10 v12 v13 v14 v15 v16 ((gd h).1) (fun q2 q3 => (gd (ifp q3 (ifn q2 (gd h).2))).1) (fun q2 q3 q5 => (gd (ifp q5 (gd (ifp q3 (ifn q2 (gd h).2))).2)).1) (fun q2 q3 q5 q7 => (ih _ _ _ _ _ _ _ _ _ _ _ _ _ _ _ _ _ _ _).2.2.2.2.2.2.2.2.2.2.2.2.1 (ifn q7 (gd (ifp q5 (gd (ifp q3 (ifn q2 (gd h).2))).2)).2)) (fun q2 q3 q5 q7 => (rt_law (Option.some.inj (ifp q7 (gd (ifp q5 (gd (ifp q3 (ifn q2 (gd h).2))).2)).2)))) (fun q2 q3 q5 => (rt_law (Option.some.inj (ifn q5 (gd (ifp q3 (ifn q2 (gd h).2))).2)))) (fun q2 q3 => (rt_law (Option.some.inj (ifn q3 (ifn q2 (gd h).2))))) (fun q2 => (ih _ _ _ _ _ _ _ _ _ _ _ _ _ _ _ _ _ _ _).2.2.2.2.2.2.2.2.2.2.2.2.2.2 (ifp q2 (gd h).2))
    · rw [lp_L_law_686] at h
      exact wp_L_law_686 H sl sv F1 G1 A1 B1 v2 v3 v4 v8 v9 v10 v12 v13 v14 v15 v16 v17 v18 (fun q1 => (ih _ _ _ _ _ _ _ _ _ _ _ _ _ _ _ _ _ _ _).2.2.2.2.2.2.2.2.2.2.2.2.2.1 (ifn q1 h)) (fun q1 => (gd (ifp q1 h)).1.1) (fun q1 q6 => ((gd (ifp q1 h)).1.2) q6) (fun q1 => (ih _ _ _ _ _ _ _ _ _ _ _ _ _ _ _ _ _ _ _).2.2.2.2.2.2.2.2.2.2.2.2.2.2 (gd (ifp q1 h)).2)
def en_L_law (sl : Int32) (sv : Int32 → Int32) : Option (Int32) := lp_L_law 400000 13 sl sv 0 0 0 0 0 0 0 0 0 0 0 0 0 0 0 0 (F_init (8 : Int32) (128 : Int32)) (fun _ _ => 0)
theorem een_L_law (sl : Int32) (sv : Int32 → Int32) : en_L_law sl sv   = lp_L_law 400000 13 sl sv 0 0 0 0 0 0 0 0 0 0 0 0 0 0 0 0 (F_init (8 : Int32) (128 : Int32)) (fun _ _ => 0) := Eq.trans rfl rfl
set_option maxRecDepth 65536 in
set_option maxHeartbeats 4000000 in
theorem run_law {l : Launch} {Z : State} {a0 : Array Value} (H : OK Z a0) (sl : Int32) (sv : Int32 → Int32) (h : en_L_law sl sv  = some 1) : Wk l Z (MoL Z cdC "CyclicExecutiveOwnLaw" true) md_L_law 0 [.val (.ref 0), .unset, .unset, .unset, .unset, .unset, .unset, .unset, .unset, .unset, .unset, .unset, .unset, .unset, .unset, .unset, .unset, .unset, .unset] [] (sl, sv, []) 0 0 (fun v _ => v = some (.int (1 : Int32))) := by
  rw [een_L_law] at h
  exact wp_L_law H sl sv  ((lpw_L_law H sl sv _ _ _ _ _ _ _ _ _ _ _ _ _ _ _ _ _ _ _ _ _ _).1 h)
def Ok {α : Type} (o : Option α) (P : α → Prop) : Prop := ∃ r, o = some r ∧ P r
theorem Ok.ret {α : Type} {r : α} {P : α → Prop} (h : P r) : Ok (some r) P := ⟨r, rfl, h⟩
theorem Ok.ift {α : Type} {c : Prop} [Decidable c] {x : Option α} {P : α → Prop} (h : c) (k : Ok x P) : Ok (if c then x else none) P := by rw [if_pos h]; exact k
theorem Ok.ite {α : Type} {c : Prop} [Decidable c] {x y : Option α} {P : α → Prop} (h : c → Ok x P) (k : ¬ c → Ok y P) : Ok (if c then x else y) P := by
  by_cases q : c
  · rw [if_pos q]; exact h q
  · rw [if_neg q]; exact k q
theorem Ok.mono {α : Type} {x : Option α} {P Q : α → Prop} (h : Ok x P) (k : ∀ r, P r → Q r) : Ok x Q := by
  obtain ⟨r, e, p⟩ := h; exact ⟨r, e, k r p⟩
theorem Ok.S {α : Type} {x : Option α} {P : α → Prop} (h : Ok x P) : x.isSome = true := by obtain ⟨r, e, p⟩ := h; rw [e]; rfl
theorem Ok.R {α : Type} {x : Option α} {R d : α} {P : α → Prop} (h : Ok x P) (e : R = x.getD d) : x.isSome = true ∧ P R := by
  obtain ⟨r, q, p⟩ := h; refine ⟨by rw [q]; rfl, ?_⟩; rw [e, q]; exact p
theorem fu_nxt {v c : Int32} {n : Nat} (h : v < c) (hn : c.toInt < v.toInt + ((n + 1 : Nat) : Int)) : c.toInt < (v + 1).toInt + (n : Int) := by
  rw [succ_toInt h]; omega
theorem fu_z {v c : Int32} (h : ¬ c < v) (hn : c.toInt < v.toInt + ((0 : Nat) : Int)) : False := by
  rw [lt_i] at h; omega
theorem ifS {α β : Type} {x : α} {a b : β} : (if (some x).isSome = true then a else b) = a := if_pos rfl
theorem r_of {α : Type} {R : α} {o : Option α} {d r : α} (e : R = o.getD d) (h : o = some r) : R = r := e.trans (getD_some h)
theorem nI {a : Nat} (h : a < 2147483648) : (Int32.ofNat a).toInt = a := Int32.toInt_ofNat_of_lt (by omega)
theorem nlt {a b : Nat} (ha : a < 2147483648) (hb : b < 2147483648) : Int32.ofNat a < Int32.ofNat b ↔ a < b := by
  rw [lt_i, nI ha, nI hb]; omega
theorem nn {a : Nat} (ha : a < 2147483648) : ¬ Int32.ofNat a < 0 := by
  have z : (0 : Int32).toInt = 0 := by decide
  rw [lt_i, nI ha, z]; omega
theorem nj {a b : Nat} (ha : a < 2147483648) (hb : b < 2147483648) (h : Int32.ofNat a = Int32.ofNat b) : a = b := by
  have := congrArg Int32.toInt h; rw [nI ha, nI hb] at this; omega
theorem nadd (a b : Nat) : Int32.ofNat a + Int32.ofNat b = Int32.ofNat (a + b) := (Int32.ofNat_add a b).symm
theorem n1a (a : Nat) : Int32.ofNat a + 1 = Int32.ofNat (a + 1) := nadd a 1
theorem nmul (a b : Nat) : Int32.ofNat a * Int32.ofNat b = Int32.ofNat (a * b) := (Int32.ofNat_mul a b).symm
theorem ndiv {a b : Nat} (ha : a < 2147483648) (hb : b < 2147483648) : Int32.ofNat a / Int32.ofNat b = Int32.ofNat (a / b) := by
  have h : a / b ≤ a := Nat.div_le_self a b
  apply Int32.toInt_inj.mp
  rw [Int32.toInt_div, nI ha, nI hb, nI (by omega), Int.tdiv_eq_ediv_of_nonneg (by omega), ← Int.natCast_ediv]
  generalize a / b = q at *
  exact Int.bmod_eq_of_le (by omega) (by omega)
theorem nmod {a b : Nat} (ha : a < 2147483648) (hb : b < 2147483648) : Int32.ofNat a % Int32.ofNat b = Int32.ofNat (a % b) := by
  have h : a % b ≤ a := Nat.mod_le a b
  apply Int32.toInt_inj.mp
  rw [Int32.toInt_mod, nI ha, nI hb, nI (by omega), Int.tmod_eq_emod_of_nonneg (by omega), ← Int.natCast_emod]
theorem nsub {a b : Nat} (h : b ≤ a) : Int32.ofNat a - Int32.ofNat b = Int32.ofNat (a - b) := by
  have e : Int32.ofNat a = Int32.ofNat (a - b) + Int32.ofNat b := by rw [nadd]; congr 1; omega
  rw [e]; generalize Int32.ofNat (a - b) = x; generalize Int32.ofNat b = y; grind
theorem nz {a : Nat} (ha : a < 2147483648) : Int32.ofNat a = 0 ↔ a = 0 :=
  ⟨fun h => nj ha (by omega) h, fun h => by rw [h]; rfl⟩
theorem l_gc : ∀ (n a b g : Nat), a < 1000 → b < 1000 → b + g ≤ 64 → b < n → lp_gcd n 8 (Int32.ofNat a) (Int32.ofNat b) (Int32.ofNat g) = some (Int32.ofNat (Nat.gcd b a)) := by
  intro n
  induction n with
  | zero => exact fun a b g _ _ _ h => absurd h (by omega)
  | succ n ih =>
    intro a b g ha hb hg hn
    rw [lp_gcd_8]
    by_cases z : b = 0
    · subst z
      rw [if_pos (show Int32.ofNat 0 = 0 from rfl), ite_self, Nat.gcd_zero_left]
    · have bz : ¬ Int32.ofNat b = 0 := fun e => z ((nz (by omega)).1 e)
      rw [show (64 : Int32) = Int32.ofNat 64 from rfl, if_pos ((nlt (by omega) (by omega)).2 (by omega)), if_neg bz, if_pos bz, nmod (by omega) (by omega), n1a]
      have h := Nat.mod_lt a (show 0 < b by omega)
      rw [ih b (a % b) (g + 1) hb (by omega) (by omega) (by omega), Nat.gcd_rec b a]
theorem e_gc {a b : Nat} (ha : a < 1000) (hb : b ≤ 40) : en_gcd (Int32.ofNat a) (Int32.ofNat b) = some (Int32.ofNat (Nat.gcd b a)) := by
  rw [een_gcd]; exact l_gc 20000 a b 0 ha (by omega) (by omega) (by omega)
theorem l_gL : ∀ (n a b g : Nat), a < 1000 → b < 1000 → b + g ≤ 64 → b < n → lp_L_gcd n 2 (Int32.ofNat a) (Int32.ofNat b) (Int32.ofNat g) = some (Int32.ofNat (Nat.gcd b a)) := by
  intro n
  induction n with
  | zero => exact fun a b g _ _ _ h => absurd h (by omega)
  | succ n ih =>
    intro a b g ha hb hg hn
    rw [lp_L_gcd_2]
    by_cases z : b = 0
    · subst z
      rw [if_pos (show Int32.ofNat 0 = 0 from rfl), ite_self, Nat.gcd_zero_left]
    · have bz : ¬ Int32.ofNat b = 0 := fun e => z ((nz (by omega)).1 e)
      rw [show (64 : Int32) = Int32.ofNat 64 from rfl, if_pos ((nlt (by omega) (by omega)).2 (by omega)), if_neg bz, if_pos bz, nmod (by omega) (by omega), n1a]
      have h := Nat.mod_lt a (show 0 < b by omega)
      rw [ih b (a % b) (g + 1) hb (by omega) (by omega) (by omega), Nat.gcd_rec b a]
theorem e_gL {a b : Nat} (ha : a < 1000) (hb : b ≤ 40) : en_L_gcd (Int32.ofNat a) (Int32.ofNat b) = some (Int32.ofNat (Nat.gcd b a)) := by
  rw [een_L_gcd]; exact l_gL 1000 a b 0 ha (by omega) (by omega) (by omega)
/-- a / gcd * b -/
def lc (a b : Nat) : Nat := a / Nat.gcd b a * b
theorem lc_le {a b : Nat} (ha : a ≤ 60) (hb : b ≤ 12) : lc a b ≤ 720 := by
  have h : a / Nat.gcd b a ≤ a := Nat.div_le_self _ _
  exact Nat.le_trans (Nat.mul_le_mul (Nat.le_trans h ha) hb) (by omega)
theorem lc_pos {a b : Nat} (ha : 0 < a) (hb : 0 < b) : 0 < lc a b := by
  have g : 0 < Nat.gcd b a := Nat.gcd_pos_of_pos_left a hb
  have d : 0 < a / Nat.gcd b a := Nat.div_pos (Nat.le_of_dvd ha (Nat.gcd_dvd_right b a)) g
  exact Nat.mul_pos d hb
theorem lc_l {a b : Nat} : a ∣ lc a b := by
  rw [lc, Nat.div_mul_right_comm (Nat.gcd_dvd_right b a), Nat.mul_div_assoc a (Nat.gcd_dvd_left b a)]
  exact Nat.dvd_mul_right a _
theorem lc_r {a b : Nat} : b ∣ lc a b := Nat.dvd_mul_left b _
theorem e_lc {a b : Nat} (ha : a ≤ 60) (hb : b ≤ 12) (b0 : 0 < b) : en_lcm (Int32.ofNat a) (Int32.ofNat b) = some (Int32.ofNat (lc a b)) := by
  have g := e_gc (a := a) (b := b) (by omega) (by omega)
  have gp : 0 < Nat.gcd b a := Nat.gcd_pos_of_pos_left a b0
  have gl : Nat.gcd b a ≤ b := Nat.gcd_le_left a b0
  have gz : ¬ Int32.ofNat (Nat.gcd b a) = 0 := fun e => by have := (nz (by omega)).1 e; omega
  rw [een_lcm, g, ifS, r_of (eR_gcd _ _) g, if_neg gz, if_pos gz, ndiv (by omega) (by omega), nmul]; rfl
theorem lc_dvd {a b m : Nat} (ha : a ∣ m) (hb : b ∣ m) : lc a b ∣ m := by
  have e : lc a b = Nat.lcm a b := by
    rw [lc, Nat.lcm, Nat.div_mul_right_comm (Nat.gcd_dvd_right b a), Nat.gcd_comm]
  rw [e]; exact Nat.lcm_dvd ha hb
abbrev TK (A : Nat → Int32 → Int32) (c h : Nat) (p e d : Nat → Nat) : Prop := ∀ i : Nat, i < c → A 0 (Int32.ofNat i) = Int32.ofNat (p i) ∧ A 1 (Int32.ofNat i) = Int32.ofNat (e i) ∧ A 2 (Int32.ofNat i) = Int32.ofNat (d i) ∧ (1 ≤ p i ∧ p i ≤ 12) ∧ p i ∣ h ∧ (1 ≤ e i ∧ e i ≤ d i ∧ d i ≤ p i)
theorem tk_of {A A' : Nat → Int32 → Int32} {c h : Nat} {p e d : Nat → Nat} (t : TK A c h p e d) (a : ∀ j : Nat, j < 3 → A' j = A j) : TK A' c h p e d := by
  intro i hi
  rw [a 0 (by omega), a 1 (by omega), a 2 (by omega)]; exact t i hi
def sN (f : Nat → Nat) : Nat → Nat
  | 0 => 0
  | k + 1 => sN f k + f k
theorem sN_congr {f g : Nat → Nat} : ∀ k : Nat, (∀ i : Nat, i < k → f i = g i) → sN f k = sN g k
  | 0, _ => rfl
  | k + 1, h => by rw [sN, sN, sN_congr k (fun i hi => h i (by omega)), h k (by omega)]
theorem sN_upd {f g : Nat → Nat} : ∀ (k j : Nat), j < k → (∀ i : Nat, i < k → i ≠ j → g i = f i) → sN g k + f j = sN f k + g j
  | 0, j, h, _ => absurd h (by omega)
  | k + 1, j, h, e => by
    by_cases q : j = k
    · subst q; rw [sN, sN, sN_congr (f := g) (g := f) j (fun i hi => e i (by omega) (by omega))]; omega
    · rw [sN, sN, e k (by omega) (fun h => q h.symm)]
      have := sN_upd k j (by omega) (fun i hi hn => e i (by omega) hn); omega
theorem sN_k (a : Nat) : ∀ (k : Nat) (f : Nat → Nat), (∀ i : Nat, i < k → f i = a) → sN f k = a * k
  | 0, _, _ => rfl
  | k + 1, f, h => by rw [sN, sN_k a k f (fun i hi => h i (by omega)), h k (by omega), Nat.mul_succ]
def rr (A : Nat → Int32 → Int32) (x : Nat) : Nat := (A 6 (Int32.ofNat x)).toInt.toNat
def tc (A : Nat → Int32 → Int32) (i H : Nat) : Nat := sN (fun t => if A 4 (Int32.ofNat t) = Int32.ofNat i then 1 else 0) H
abbrev SB (A : Nat → Int32 → Int32) (c h : Nat) (p e : Nat → Nat) (i0 u : Nat) : Prop := ∀ i : Nat, i < c → tc A i h + sN (fun k => rr A (i * 128 + k)) (h / p i) = e i * (h / p i) + (if i = i0 then u else 0)
abbrev RN (A : Nat → Int32 → Int32) (c h : Nat) (p : Nat → Nat) : Prop := ∀ i : Nat, i < c → ∀ k : Nat, k < h / p i → 0 ≤ (A 6 (Int32.ofNat (i * 128 + k))).toInt ∧ (A 6 (Int32.ofNat (i * 128 + k))).toInt ≤ 12
abbrev TE (A : Nat → Int32 → Int32) (h s : Nat) : Prop := ∀ t : Nat, s ≤ t → t < h → A 4 (Int32.ofNat t) = -1 ∧ A 5 (Int32.ofNat t) = -1
def tj (A : Nat → Int32 → Int32) (i k H : Nat) : Nat := sN (fun t => if A 4 (Int32.ofNat t) = Int32.ofNat i ∧ A 5 (Int32.ofNat t) = Int32.ofNat k then 1 else 0) H
abbrev SJ (A : Nat → Int32 → Int32) (c h : Nat) (p e : Nat → Nat) (i0 k0 u : Nat) : Prop := ∀ i k : Nat, i < c → k < h / p i → tj A i k h + rr A (i * 128 + k) = e i + (if i = i0 ∧ k = k0 then u else 0)
abbrev TW (A : Nat → Int32 → Int32) (c h : Nat) (p d : Nat → Nat) (f : Nat) : Prop := ∀ t : Nat, t < h → (A 4 (Int32.ofNat t) = -1 ∧ A 5 (Int32.ofNat t) = -1) ∨ ∃ i k : Nat, i < c ∧ k < h / p i ∧ A 4 (Int32.ofNat t) = Int32.ofNat i ∧ A 5 (Int32.ofNat t) = Int32.ofNat k ∧ k * p i ≤ t / f * f ∧ (t / f + 1) * f ≤ k * p i + d i
theorem jb {h p : Nat} (hh : h ≤ 60) : h / p ≤ 60 := Nat.le_trans (Nat.div_le_self h p) hh
/- initJobs -/
theorem l_ij {F : Nat → Int32} {c h : Nat} {p e d : Nat → Nat} (f2 : F 2 = Int32.ofNat c) (f3 : F 3 = Int32.ofNat h) (c4 : c ≤ 4) (h60 : h ≤ 60) : ∀ (n : Nat), (∀ (i : Nat) (a b : Int32) (A : Nat → Int32 → Int32), TK A c h p e d → i ≤ c → (∀ i' k' : Nat, i' < i → k' < h / p i' → A 6 (Int32.ofNat (i' * 128 + k')) = Int32.ofNat (e i')) → (4 - i) * 70 + 1 ≤ n → Ok (lp_initJobs n 2 (Int32.ofNat i) a b F A) (fun r => (∀ j : Nat, ¬ j = 6 → r.2 j = A j) ∧ ∀ i' k' : Nat, i' < c → k' < h / p i' → r.2 6 (Int32.ofNat (i' * 128 + k')) = Int32.ofNat (e i'))) ∧ (∀ (i k : Nat) (A : Nat → Int32 → Int32), TK A c h p e d → i < c → k ≤ h / p i → (∀ i' k' : Nat, i' < i → k' < h / p i' → A 6 (Int32.ofNat (i' * 128 + k')) = Int32.ofNat (e i')) → (∀ k' : Nat, k' < k → A 6 (Int32.ofNat (i * 128 + k')) = Int32.ofNat (e i)) → (3 - i) * 70 + 1 + (62 - k) ≤ n → Ok (lp_initJobs n 24 (Int32.ofNat i) (Int32.ofNat (h / p i)) (Int32.ofNat k) F A) (fun r => (∀ j : Nat, ¬ j = 6 → r.2 j = A j) ∧ ∀ i' k' : Nat, i' < c → k' < h / p i' → r.2 6 (Int32.ofNat (i' * 128 + k')) = Int32.ofNat (e i'))) := by
  intro n
  induction n with
  | zero => exact ⟨fun i a b A _ _ _ h => absurd h (by omega), fun i k A _ _ _ _ _ h => absurd h (by omega)⟩
  | succ n ih =>
    refine ⟨fun i a b A t ic dn hn => ?_, fun i k A t ic kj dn dk hn => ?_⟩
    · rw [lp_initJobs_2, f2, f3]
      by_cases q : i < c
      · have ti := t i q
        rw [if_pos ((nlt (by omega) (by omega)).2 q), ti.1, if_pos ⟨nn (by omega), by rw [show (8 : Int32) = Int32.ofNat 8 from rfl, nlt (by omega) (by omega)]; omega, fun z => by have := (nz (by omega)).1 z; omega⟩, ndiv (by omega) (by omega)]
        exact ih.2 i 0 A t q (Nat.zero_le _) dn (fun k' hk => absurd hk (by omega)) (by omega)
      · have : i = c := by omega
        subst this
        rw [if_neg (fun z => by have := (nlt (a := i) (b := i) (by omega) (by omega)).1 z; omega)]
        exact Ok.ret ⟨fun _ _ => rfl, dn⟩
    · have J := jb (p := p i) h60
      rw [lp_initJobs_24]
      by_cases q : k < h / p i
      · have ti := t i ic
        rw [if_pos ((nlt (by omega) (by omega)).2 q), show (128 : Int32) = Int32.ofNat 128 from rfl, if_pos ((nlt (by omega) (by omega)).2 (by omega)), nmul, nadd, if_pos ⟨nn (by omega), by rw [show (8 : Int32) = Int32.ofNat 8 from rfl, nlt (by omega) (by omega)]; omega, nn (by omega), by rw [show (1024 : Int32) = Int32.ofNat 1024 from rfl, nlt (by omega) (by omega)]; omega⟩, n1a, ti.2.1]
        refine (ih.2 i (k + 1) _ (tk_of t (fun j hj => ups_ne _ _ (by omega))) ic (by omega) (fun i' k' a b => ?_) (fun k' hk => ?_) (by omega)).mono fun r x => ⟨fun j hj => (x.1 j hj).trans (ups_ne _ _ hj), x.2⟩
        · have J' := jb (p := p i') h60
          rw [ups_at, ups_ne _ _ (fun z => by have := nj (by omega) (by omega) z; omega)]; exact dn i' k' a b
        · rw [ups_at]
          by_cases w : k' = k
          · subst w; exact ups_at _ _ _
          · rw [ups_ne _ _ (fun z => by have := nj (by omega) (by omega) z; omega)]; exact dk k' (by omega)
      · have : k = h / p i := by omega
        rw [if_neg (fun z => by have := (nlt (by omega) (by omega)).1 z; omega), n1a]
        refine ih.1 (i + 1) 0 0 A t (by omega) (fun i' k' a b => ?_) (by omega)
        by_cases w : i' = i
        · subst w; exact dk k' (by omega)
        · exact dn i' k' (by omega) b
theorem o_ij {F : Nat → Int32} {A : Nat → Int32 → Int32} {c h : Nat} {p e d : Nat → Nat} (f2 : F 2 = Int32.ofNat c) (f3 : F 3 = Int32.ofNat h) (c4 : c ≤ 4) (h60 : h ≤ 60) (t : TK A c h p e d) : Ok (en_initJobs F A) (fun r => (∀ j : Nat, ¬ j = 6 → r.2 j = A j) ∧ ∀ i' k' : Nat, i' < c → k' < h / p i' → r.2 6 (Int32.ofNat (i' * 128 + k')) = Int32.ofNat (e i')) := by
  rw [een_initJobs]
  exact (l_ij (d := d) f2 f3 c4 h60 20000).1 0 0 0 A t (by omega) (fun i' k' a _ => absurd a (by omega)) (by omega)
/- pickJob -/
abbrev VJ (A : Nat → Int32 → Int32) (c h : Nat) (p d : Nat → Nat) (j f : Nat) (r : Int32) : Prop := r < 0 ∨ ∃ i k : Nat, i < c ∧ k < h / p i ∧ r = Int32.ofNat (i * 128 + k) ∧ 0 < A 6 r ∧ k * p i ≤ j * f ∧ (j + 1) * f ≤ k * p i + d i
theorem l_pj {F : Nat → Int32} {A : Nat → Int32 → Int32} {c h j f : Nat} {p e d : Nat → Nat} (f2 : F 2 = Int32.ofNat c) (c4 : c ≤ 4) (h60 : h ≤ 60) (t : TK A c h p e d) (jf : j * f < h) (je : (j + 1) * f ≤ h) : ∀ (n i : Nat) (v3 v4 : Int32), i ≤ c → 4 < i + n → VJ A c h p d j f v3 → Ok (lp_pickJob n 8 (Int32.ofNat j) (Int32.ofNat f) v3 v4 (Int32.ofNat i) F A) (VJ A c h p d j f) := by
  intro n
  induction n with
  | zero => exact fun i v3 v4 h1 h2 => absurd h2 (by omega)
  | succ n ih =>
    intro i v3 v4 h1 h2 vj
    rw [lp_pickJob_8, f2]
    by_cases q : i < c
    · have ti := t i q
      have hd : j * f / p i < h / p i := Nat.div_lt_div_of_lt_of_dvd ti.2.2.2.2.1 jf
      have J := jb (p := p i) h60
      rw [if_pos ((nlt (by omega) (by omega)).2 q), ti.1, nmul, ndiv (by omega) (by omega)]
      have dm : j * f / p i * p i ≤ j * f := Nat.div_mul_le_self (j * f) (p i)
      generalize j * f / p i = k at *
      have i0 : ¬ Int32.ofNat i < 0 := nn (by omega)
      have i8 : Int32.ofNat i < 8 := by rw [show (8 : Int32) = Int32.ofNat 8 from rfl, nlt (by omega) (by omega)]; omega
      have ix : Int32.ofNat i * 128 + Int32.ofNat k = Int32.ofNat (i * 128 + k) := by rw [show (128 : Int32) = Int32.ofNat 128 from rfl, nmul, nadd]
      rw [ix]
      have x0 : ¬ Int32.ofNat (i * 128 + k) < 0 := nn (by omega)
      have x1 : Int32.ofNat (i * 128 + k) < 1024 := by rw [show (1024 : Int32) = Int32.ofNat 1024 from rfl, nlt (by omega) (by omega)]; omega
      refine Ok.ift ⟨i0, i8, fun z => by have := (nz (by omega)).1 z; omega, fun _ _ => i0, fun _ _ => i8, fun _ _ _ => x0, fun _ _ _ => x1⟩ ?_
      rw [n1a i]
      refine ih (i + 1) _ _ (by omega) (by omega) ?_
      have good : ¬ Int32.ofNat k * Int32.ofNat (p i) + A 2 (Int32.ofNat i) < (Int32.ofNat j + 1) * Int32.ofNat f → 0 < A 6 (Int32.ofNat (i * 128 + k)) → VJ A c h p d j f (Int32.ofNat (i * 128 + k)) := fun y z => by
        refine Or.inr ⟨i, k, q, hd, rfl, z, dm, ?_⟩
        rw [ti.2.2.1, n1a, nmul, nmul, nadd] at y
        have kp : k * p i ≤ 60 := by omega
        by_cases w : k * p i + d i < (j + 1) * f
        · exact absurd ((nlt (by omega) (by omega)).2 w) y
        · omega
      clear ih
      repeat' split
      all_goals first | exact vj | (exact good (by assumption) (by assumption))
    · have : i = c := by omega
      subst this
      rw [if_neg (fun z => by have := (nlt (a := i) (b := i) (by omega) (by omega)).1 z; omega)]
      exact Ok.ret vj
theorem o_pj {F : Nat → Int32} {A : Nat → Int32 → Int32} {c h j f : Nat} {p e d : Nat → Nat} (f2 : F 2 = Int32.ofNat c) (c4 : c ≤ 4) (h60 : h ≤ 60) (t : TK A c h p e d) (jf : j * f < h) (je : (j + 1) * f ≤ h) : Ok (en_pickJob F A (Int32.ofNat j) (Int32.ofNat f)) (VJ A c h p d j f) := by
  rw [een_pickJob]
  exact l_pj f2 c4 h60 t jf je 20000 0 (-1) 0 (by omega) (by omega) (Or.inl (by decide))
/- fillFrame -/
theorem tc_w {A : Nat → Int32 → Int32} {h t i : Nat} {y : Int32} (ht : t < h) (h60 : h ≤ 60) (e : A 4 (Int32.ofNat t) = -1) (i' : Nat) (c4 : i' < 8) (i4 : i < 8) : tc (ups (ups A 4 (ups (A 4) (Int32.ofNat t) (Int32.ofNat i))) 5 (ups (A 5) (Int32.ofNat t) y)) i' h = tc A i' h + (if i' = i then 1 else 0) := by
  have e4 : (ups (ups A 4 (ups (A 4) (Int32.ofNat t) (Int32.ofNat i))) 5 (ups (A 5) (Int32.ofNat t) y)) 4 = ups (A 4) (Int32.ofNat t) (Int32.ofNat i) := by
    rw [ups_ne _ _ (by decide), ups_at]
  have u := sN_upd (f := fun t => if A 4 (Int32.ofNat t) = Int32.ofNat i' then 1 else 0) (g := fun x => if ups (A 4) (Int32.ofNat t) (Int32.ofNat i) (Int32.ofNat x) = Int32.ofNat i' then 1 else 0) h t ht (fun x hx n => by rw [ups_ne _ _ (fun z => n (nj (by omega) (by omega) z))])
  have n1 : ¬ (-1 : Int32) = Int32.ofNat i' := fun z => by
    have := nn (a := i') (by omega); rw [← z] at this; exact this (by decide)
  rw [e, if_neg n1, ups_at] at u
  rw [tc, e4, tc]
  by_cases w : i' = i
  · rw [if_pos w]; rw [if_pos (by rw [w])] at u; omega
  · rw [if_neg w]; rw [if_neg (fun z => w (nj (by omega) (by omega) z).symm)] at u; omega
theorem tj_w {A : Nat → Int32 → Int32} {h t i k : Nat} (ht : t < h) (h60 : h ≤ 60) (e : A 4 (Int32.ofNat t) = -1) (i' k' : Nat) (c4 : i' < 8) (i4 : i < 8) (k4 : k < 100) (k4' : k' < 100) : tj (ups (ups A 4 (ups (A 4) (Int32.ofNat t) (Int32.ofNat i))) 5 (ups (A 5) (Int32.ofNat t) (Int32.ofNat k))) i' k' h = tj A i' k' h + (if i' = i ∧ k' = k then 1 else 0) := by
  have e4 : (ups (ups A 4 (ups (A 4) (Int32.ofNat t) (Int32.ofNat i))) 5 (ups (A 5) (Int32.ofNat t) (Int32.ofNat k))) 4 = ups (A 4) (Int32.ofNat t) (Int32.ofNat i) := by
    rw [ups_ne _ _ (by decide), ups_at]
  have e5 : (ups (ups A 4 (ups (A 4) (Int32.ofNat t) (Int32.ofNat i))) 5 (ups (A 5) (Int32.ofNat t) (Int32.ofNat k))) 5 = ups (A 5) (Int32.ofNat t) (Int32.ofNat k) := by
    rw [ups_at]
  have u := sN_upd (f := fun t => if A 4 (Int32.ofNat t) = Int32.ofNat i' ∧ A 5 (Int32.ofNat t) = Int32.ofNat k' then 1 else 0) (g := fun x => if ups (A 4) (Int32.ofNat t) (Int32.ofNat i) (Int32.ofNat x) = Int32.ofNat i' ∧ ups (A 5) (Int32.ofNat t) (Int32.ofNat k) (Int32.ofNat x) = Int32.ofNat k' then 1 else 0) h t ht (fun x hx n => by
    have nx : ¬ Int32.ofNat x = Int32.ofNat t := fun z => n (nj (by omega) (by omega) z)
    rw [ups_ne _ _ nx, ups_ne _ _ nx])
  have n1 : ¬ (-1 : Int32) = Int32.ofNat i' := fun z => by
    have := nn (a := i') (by omega); rw [← z] at this; exact this (by decide)
  rw [e, if_neg (fun z => n1 z.1), ups_at, ups_at] at u
  rw [tj, e4, e5, tj]
  by_cases w : i' = i ∧ k' = k
  · rw [if_pos w]; rw [if_pos ⟨by rw [w.1], by rw [w.2]⟩] at u; omega
  · rw [if_neg w]; rw [if_neg (fun z => w ⟨(nj (by omega) (by omega) z.1).symm, (nj (by omega) (by omega) z.2).symm⟩)] at u; omega
abbrev FI (A : Nat → Int32 → Int32) (c h : Nat) (p e d : Nat → Nat) (f i0 k0 u s : Nat) : Prop := TK A c h p e d ∧ SB A c h p e i0 u ∧ RN A c h p ∧ TE A h s ∧ SJ A c h p e i0 k0 u ∧ TW A c h p d f
abbrev FP (A : Nat → Int32 → Int32) (c h : Nat) (p e d : Nat → Nat) (f s : Nat) (r : Int32 × (Nat → Int32 → Int32)) : Prop := FI r.2 c h p e d f 0 0 0 s ∧ ∀ j : Nat, j < 4 → r.2 j = A j
theorem sb_0 {A : Nat → Int32 → Int32} {c h : Nat} {p e : Nat → Nat} {i0 i1 : Nat} (b : SB A c h p e i0 0) : SB A c h p e i1 0 := fun i hi => by
  have := b i hi
  rw [ite_self] at this ⊢; exact this
theorem sj_0 {A : Nat → Int32 → Int32} {c h : Nat} {p e : Nat → Nat} {i0 k0 i1 k1 : Nat} (b : SJ A c h p e i0 k0 0) : SJ A c h p e i1 k1 0 := fun i k hi hk => by
  have := b i k hi hk
  rw [ite_self] at this ⊢; exact this
theorem rr_eq {A : Nat → Int32 → Int32} {x : Nat} (h0 : 0 ≤ (A 6 (Int32.ofNat x)).toInt) : A 6 (Int32.ofNat x) = Int32.ofNat (rr A x) := by
  apply Int32.toInt_inj.mp
  have := (A 6 (Int32.ofNat x)).toInt_lt
  rw [nI (by rw [rr]; omega), rr]; omega
theorem l_ff {F : Nat → Int32} {c h j f : Nat} {p e d : Nat → Nat} (f2 : F 2 = Int32.ofNat c) (c4 : c ≤ 4) (h60 : h ≤ 60) (f8 : f ≤ 24) (jf : j * f < h) (je : (j + 1) * f ≤ h) : ∀ (n : Nat), (∀ (s g : Nat) (a b x y z : Int32) (A : Nat → Int32 → Int32), FI A c h p e d f 0 0 0 s → j * f ≤ s → s ≤ (j + 1) * f → g ≤ f → (24 - g) * 30 + 1 ≤ n → Ok (lp_fillFrame n 14 (Int32.ofNat j) (Int32.ofNat f) (Int32.ofNat ((j + 1) * f)) (Int32.ofNat s) (Int32.ofNat g) a b x y z F A) (FP A c h p e d f ((j + 1) * f))) ∧ (∀ (s g i k w u : Nat) (A : Nat → Int32 → Int32), FI A c h p e d f i k u (s + u) → i < c → k < h / p i → k * p i ≤ j * f → (j + 1) * f ≤ k * p i + d i → w ≤ rr A (i * 128 + k) → w ≤ 12 → j * f ≤ s → s + w ≤ (j + 1) * f → g < f → u ≤ w → (23 - g) * 30 + 2 + (14 - u) ≤ n → Ok (lp_fillFrame n 86 (Int32.ofNat j) (Int32.ofNat f) (Int32.ofNat ((j + 1) * f)) (Int32.ofNat s) (Int32.ofNat g) (Int32.ofNat (i * 128 + k)) (Int32.ofNat w) (Int32.ofNat i) (Int32.ofNat k) (Int32.ofNat (s + u)) F A) (FP A c h p e d f ((j + 1) * f))) := by
  intro n
  induction n with
  | zero => exact ⟨fun s g a b x y z A _ _ _ _ h => absurd h (by omega), fun s g i k w u A _ _ _ _ _ _ _ _ _ _ _ h => absurd h (by omega)⟩
  | succ n ih =>
    refine ⟨fun s g a b x y z A fi js hs hg hn => ?_, fun s g i k w u A fi ic kj kp kd wr w8 js sw gf uw hn => ?_⟩
    · rw [lp_fillFrame_14]
      have rid : FP A c h p e d f ((j + 1) * f) (0, A) := ⟨⟨fi.1, fi.2.1, fi.2.2.1, fun t a b => fi.2.2.2.1 t (by omega) b, fi.2.2.2.2⟩, fun _ _ => rfl⟩
      refine Ok.ite (fun q => Ok.ite (fun q2 => ?_) fun _ => Ok.ret rid) fun _ => Ok.ret rid
      rw [nlt (by omega) (by omega)] at q q2
      have s' := (o_pj f2 c4 h60 fi.1 jf je).R (eR_pickJob F A (Int32.ofNat j) (Int32.ofNat f))
      refine Ok.ift s'.1 ?_
      have s2 : VJ A c h p d j f (R_pickJob F A (Int32.ofNat j) (Int32.ofNat f)) := s'.2
      clear s'
      generalize R_pickJob F A (Int32.ofNat j) (Int32.ofNat f) = r at *
      refine Ok.ite (fun _ => Ok.ret rid) fun r0 => ?_
      obtain ⟨i, k, ic, kj, er, pos, kp, kd⟩ := s2.resolve_left r0
      have J := jb (p := p i) h60
      have rn := fi.2.2.1 i ic k kj
      have re := rr_eq (A := A) (x := i * 128 + k) rn.1
      have r8 : rr A (i * 128 + k) ≤ 12 := by rw [rr]; omega
      rw [er] at pos ⊢
      have r1 : 0 < rr A (i * 128 + k) := by
        rw [re] at pos; exact (nlt (a := 0) (by omega) (by omega)).1 pos
      refine Ok.ift (by rw [show (1024 : Int32) = Int32.ofNat 1024 from rfl, nlt (by omega) (by omega)]; omega) ?_
      have ew : (if Int32.ofNat ((j + 1) * f) - Int32.ofNat s < A 6 (Int32.ofNat (i * 128 + k)) then Int32.ofNat ((j + 1) * f) - Int32.ofNat s else A 6 (Int32.ofNat (i * 128 + k))) = Int32.ofNat (if (j + 1) * f - s < rr A (i * 128 + k) then (j + 1) * f - s else rr A (i * 128 + k)) := by
        rw [nsub hs, re]
        by_cases z : (j + 1) * f - s < rr A (i * 128 + k)
        · rw [if_pos z, if_pos ((nlt (by omega) (by omega)).2 z)]
        · rw [if_neg z, if_neg (fun y => z ((nlt (by omega) (by omega)).1 y))]
      have ed : Int32.ofNat (i * 128 + k) / 128 = Int32.ofNat i := by
        rw [show (128 : Int32) = Int32.ofNat 128 from rfl, ndiv (by omega) (by omega)]; congr 1; omega
      have em : Int32.ofNat (i * 128 + k) % 128 = Int32.ofNat k := by
        rw [show (128 : Int32) = Int32.ofNat 128 from rfl, nmod (by omega) (by omega)]; congr 1; omega
      rw [ew, ed, em]
      have wl : (if (j + 1) * f - s < rr A (i * 128 + k) then (j + 1) * f - s else rr A (i * 128 + k)) ≤ rr A (i * 128 + k) ∧ s + (if (j + 1) * f - s < rr A (i * 128 + k) then (j + 1) * f - s else rr A (i * 128 + k)) ≤ (j + 1) * f := by
        split <;> omega
      generalize (if (j + 1) * f - s < rr A (i * 128 + k) then (j + 1) * f - s else rr A (i * 128 + k)) = w at *
      exact ih.2 s g i k w 0 A ⟨fi.1, sb_0 fi.2.1, fi.2.2.1, fi.2.2.2.1, sj_0 fi.2.2.2.2.1, fi.2.2.2.2.2⟩ ic kj kp kd wl.1 (by omega) js wl.2 q (by omega) (by omega)
    · have J := jb (p := p i) h60
      have rn := fi.2.2.1 i ic k kj
      have re := rr_eq (A := A) (x := i * 128 + k) rn.1
      have r8 : rr A (i * 128 + k) ≤ 12 := by rw [rr]; omega
      rw [lp_fillFrame_86, nadd s w]
      by_cases q : u < w
      · rw [if_pos ((nlt (by omega) (by omega)).2 (by omega)), show (128 : Int32) = Int32.ofNat 128 from rfl, if_pos ((nlt (by omega) (by omega)).2 (by omega)), if_pos (nn (by omega)), n1a]
        have te := fi.2.2.2.1 (s + u) (Nat.le_refl _) (by omega)
        have a6 : (ups (ups A 4 (ups (A 4) (Int32.ofNat (s + u)) (Int32.ofNat i))) 5 (ups (A 5) (Int32.ofNat (s + u)) (Int32.ofNat k))) 6 = A 6 := by rw [ups_ne _ _ (by decide), ups_ne _ _ (by decide)]
        have a4 : (ups (ups A 4 (ups (A 4) (Int32.ofNat (s + u)) (Int32.ofNat i))) 5 (ups (A 5) (Int32.ofNat (s + u)) (Int32.ofNat k))) 4 = ups (A 4) (Int32.ofNat (s + u)) (Int32.ofNat i) := by rw [ups_ne _ _ (by decide), ups_at]
        have tw := fun i' h' => tc_w (A := A) (t := s + u) (i := i) (y := Int32.ofNat k) (by omega) h60 te.1 i' h' (by omega)
        have tjw := fun i' k' h' hk' => tj_w (A := A) (t := s + u) (i := i) (k := k) (by omega) h60 te.1 i' k' h' (by omega) (by omega) hk'
        have a5 : (ups (ups A 4 (ups (A 4) (Int32.ofNat (s + u)) (Int32.ofNat i))) 5 (ups (A 5) (Int32.ofNat (s + u)) (Int32.ofNat k))) 5 = ups (A 5) (Int32.ofNat (s + u)) (Int32.ofNat k) := by rw [ups_at]
        have fa : ∀ j : Nat, j < 4 → (ups (ups A 4 (ups (A 4) (Int32.ofNat (s + u)) (Int32.ofNat i))) 5 (ups (A 5) (Int32.ofNat (s + u)) (Int32.ofNat k))) j = A j := fun j hj => by rw [ups_ne _ _ (by omega), ups_ne _ _ (by omega)]
        generalize ups (ups A 4 (ups (A 4) (Int32.ofNat (s + u)) (Int32.ofNat i))) 5 (ups (A 5) (Int32.ofNat (s + u)) (Int32.ofNat k)) = A' at *
        have r' : ∀ x : Nat, rr A' x = rr A x := fun x => by rw [rr, rr, a6]
        refine (ih.2 s g i k w (u + 1) A' ⟨tk_of fi.1 (fun j hj => fa j (by omega)), fun i' hi => ?_, fun i' hi k' hk => by rw [a6]; exact fi.2.2.1 i' hi k' hk, fun t a b => ?_, fun i' k' hi hk => ?_, fun t ht => ?_⟩ ic kj kp kd (by rw [r']; exact wr) w8 js sw gf (by omega) (by omega)).mono fun r x => ⟨x.1, fun j hj => (x.2 j hj).trans (fa j hj)⟩
        · have := fi.2.1 i' hi
          rw [tw i' (by omega), sN_congr (h / p i') (fun k' _ => r' (i' * 128 + k'))]
          by_cases z : i' = i
          · rw [if_pos z] at this ⊢; rw [if_pos z]; omega
          · rw [if_neg z] at this ⊢; rw [if_neg z]; omega
        · have nx : ¬ Int32.ofNat t = Int32.ofNat (s + u) := fun z => by have := nj (by omega) (by omega) z; omega
          rw [a4, a5, ups_ne _ _ nx, ups_ne _ _ nx]
          exact fi.2.2.2.1 t (by omega) b
        · have J' := jb (p := p i') h60
          have := fi.2.2.2.2.1 i' k' hi hk
          rw [tjw i' k' (by omega) (by omega), r' (i' * 128 + k')]
          by_cases z : i' = i ∧ k' = k
          · rw [if_pos z] at this ⊢; rw [if_pos z]; omega
          · rw [if_neg z] at this ⊢; rw [if_neg z]; omega
        · rw [a4, a5]
          by_cases z : t = s + u
          · subst z
            right
            have ej : (s + u) / f = j := Nat.div_eq_of_lt_le (by omega) (by omega)
            exact ⟨i, k, ic, kj, ups_at _ _ _, ups_at _ _ _, by rw [ej]; exact kp, by rw [ej]; exact kd⟩
          · have nx : ¬ Int32.ofNat t = Int32.ofNat (s + u) := fun y => z (nj (by omega) (by omega) y)
            rw [ups_ne _ _ nx, ups_ne _ _ nx]
            exact fi.2.2.2.2.2 t ht
      · have : u = w := by omega
        subst this
        rw [if_neg (fun z => by have := (nlt (by omega) (by omega)).1 z; omega)]
        refine Ok.ift ⟨nn (by omega), by rw [show (1024 : Int32) = Int32.ofNat 1024 from rfl, nlt (by omega) (by omega)]; omega⟩ ?_
        rw [n1a, re, nsub wr]
        have a6 : (ups A 6 (ups (A 6) (Int32.ofNat (i * 128 + k)) (Int32.ofNat (rr A (i * 128 + k) - u)))) 6 = ups (A 6) (Int32.ofNat (i * 128 + k)) (Int32.ofNat (rr A (i * 128 + k) - u)) := ups_at _ _ _
        have fa : ∀ j : Nat, ¬ j = 6 → (ups A 6 (ups (A 6) (Int32.ofNat (i * 128 + k)) (Int32.ofNat (rr A (i * 128 + k) - u)))) j = A j := fun j hj => ups_ne _ _ hj
        generalize ups A 6 (ups (A 6) (Int32.ofNat (i * 128 + k)) (Int32.ofNat (rr A (i * 128 + k) - u))) = A' at *
        have r1 : rr A' (i * 128 + k) = rr A (i * 128 + k) - u := by
          rw [rr, a6, ups_at, nI (by omega)]; omega
        have r2 : ∀ x : Nat, x < 2000 → ¬ x = i * 128 + k → rr A' x = rr A x := fun x hx n => by
          rw [rr, rr, a6, ups_ne _ _ (fun z => n (nj (by omega) (by omega) z))]
        refine (ih.1 (s + u) (g + 1) 0 0 0 0 0 A' ⟨tk_of fi.1 (fun j hj => fa j (by omega)), fun i' hi => ?_, fun i' hi k' hk => ?_, fun t a b => ?_, fun i' k' hi hk => ?_, fun t ht => ?_⟩ (by omega) sw (by omega) (by omega)).mono fun r x => ⟨x.1, fun j hj => (x.2 j hj).trans (fa j (by omega))⟩
        · have := fi.2.1 i' hi
          have J' := jb (p := p i') h60
          have te : tc A' i' h = tc A i' h := by rw [tc, tc, fa 4 (by decide)]
          rw [te]
          by_cases z : i' = i
          · subst z
            rw [if_pos rfl] at this
            have up := sN_upd (f := fun k' => rr A (i' * 128 + k')) (g := fun k' => rr A' (i' * 128 + k')) (h / p i') k kj (fun x hx n => r2 _ (by omega) (by omega))
            rw [r1] at up
            rw [ite_self]; omega
          · rw [if_neg z] at this
            rw [sN_congr (h / p i') (fun k' hk => r2 (i' * 128 + k') (by omega) (by omega)), ite_self]; omega
        · have J' := jb (p := p i') h60
          by_cases z : i' * 128 + k' = i * 128 + k
          · rw [z, a6, ups_at, nI (by omega)]; omega
          · rw [a6, ups_ne _ _ (fun y => z (nj (by omega) (by omega) y))]; exact fi.2.2.1 i' hi k' hk
        · rw [fa 4 (by decide), fa 5 (by decide)]; exact fi.2.2.2.1 t a b
        · have J' := jb (p := p i') h60
          have tje : tj A' i' k' h = tj A i' k' h := by rw [tj, tj, fa 4 (by decide), fa 5 (by decide)]
          have := fi.2.2.2.2.1 i' k' hi hk
          rw [tje, ite_self]
          by_cases z : i' = i ∧ k' = k
          · rw [if_pos z] at this
            rw [z.1, z.2] at this ⊢
            rw [r1]; omega
          · rw [if_neg z] at this
            rw [r2 (i' * 128 + k') (by omega) (by omega)]; exact this
        · rw [fa 4 (by decide), fa 5 (by decide)]; exact fi.2.2.2.2.2 t ht
theorem o_ff {F : Nat → Int32} {A : Nat → Int32 → Int32} {c h j f : Nat} {p e d : Nat → Nat} (f2 : F 2 = Int32.ofNat c) (c4 : c ≤ 4) (h60 : h ≤ 60) (f8 : f ≤ 24) (jf : j * f < h) (je : (j + 1) * f ≤ h) (fi : FI A c h p e d f 0 0 0 (j * f)) : Ok (en_fillFrame F A (Int32.ofNat j) (Int32.ofNat f)) (FP A c h p e d f ((j + 1) * f)) := by
  rw [een_fillFrame, n1a, nmul, nmul]
  exact (l_ff f2 c4 h60 f8 jf je 20000).1 (j * f) 0 0 0 0 0 0 A fi (Nat.le_refl _) (Nat.mul_le_mul_right f (by omega)) (by omega) (by omega)
abbrev FM (A : Nat → Int32 → Int32) (c h : Nat) (p : Nat → Nat) (i k : Nat) (v : Int32) : Prop := (v < 0 ∧ ∀ i' k' : Nat, i' < c → k' < h / p i' → (i' < i ∨ (i' = i ∧ k' < k)) → ¬ 0 < A 6 (Int32.ofNat (i' * 128 + k'))) ∨ ∃ i0 k0 : Nat, i0 < c ∧ k0 < h / p i0 ∧ v = Int32.ofNat (i0 * 128 + k0)
theorem l_fm {F : Nat → Int32} {A : Nat → Int32 → Int32} {c h : Nat} {p e d : Nat → Nat} (f2 : F 2 = Int32.ofNat c) (f3 : F 3 = Int32.ofNat h) (c4 : c ≤ 4) (h60 : h ≤ 60) (t : TK A c h p e d) : ∀ (n : Nat), (∀ (i : Nat) (v1 v2 a b : Int32), i ≤ c → FM A c h p i 0 v1 → (4 - i) * 70 + 1 ≤ n → Ok (lp_findMiss n 6 v1 v2 (Int32.ofNat i) a b F A) (FM A c h p c 0)) ∧ (∀ (i k : Nat) (v1 v2 : Int32), i < c → k ≤ h / p i → FM A c h p i k v1 → (3 - i) * 70 + 1 + (62 - k) ≤ n → Ok (lp_findMiss n 30 v1 v2 (Int32.ofNat i) (Int32.ofNat (h / p i)) (Int32.ofNat k) F A) (FM A c h p c 0)) := by
  intro n
  induction n with
  | zero => exact ⟨fun i v1 v2 a b _ _ h => absurd h (by omega), fun i k v1 v2 _ _ _ h => absurd h (by omega)⟩
  | succ n ih =>
    refine ⟨fun i v1 v2 a b ic fm hn => ?_, fun i k v1 v2 ic kj fm hn => ?_⟩
    · rw [lp_findMiss_6, f2, f3]
      by_cases q : i < c
      · have ti := t i q
        rw [if_pos ((nlt (by omega) (by omega)).2 q), ti.1, if_pos ⟨nn (by omega), by rw [show (8 : Int32) = Int32.ofNat 8 from rfl, nlt (by omega) (by omega)]; omega, fun z => by have := (nz (by omega)).1 z; omega⟩, ndiv (by omega) (by omega)]
        exact ih.2 i 0 v1 v2 q (Nat.zero_le _) fm (by omega)
      · have : i = c := by omega
        subst this
        rw [if_neg (fun z => by have := (nlt (a := i) (b := i) (by omega) (by omega)).1 z; omega)]
        exact Ok.ret fm
    · have J := jb (p := p i) h60
      rw [lp_findMiss_30]
      by_cases q : k < h / p i
      · have ti := t i ic
        have i0 : ¬ Int32.ofNat i < 0 := nn (by omega)
        have i8 : Int32.ofNat i < 8 := by rw [show (8 : Int32) = Int32.ofNat 8 from rfl, nlt (by omega) (by omega)]; omega
        rw [if_pos ((nlt (by omega) (by omega)).2 q), show (128 : Int32) = Int32.ofNat 128 from rfl, if_pos ((nlt (by omega) (by omega)).2 (by omega)), nmul i 128, nadd (i * 128) k, if_pos ⟨nn (by omega), by rw [show (1024 : Int32) = Int32.ofNat 1024 from rfl, nlt (by omega) (by omega)]; omega, fun _ => i0, fun _ => i8⟩, n1a k]
        refine ih.2 i (k + 1) _ _ ic (by omega) ?_ (by omega)
        have here : FM A c h p i (k + 1) (Int32.ofNat (i * 128 + k)) := Or.inr ⟨i, k, ic, q, rfl⟩
        have keep : (¬ v1 < 0 ∨ ¬ 0 < A 6 (Int32.ofNat (i * 128 + k))) → FM A c h p i (k + 1) v1 := fun z => by
          rcases fm with ⟨a, b⟩ | x
          · left
            refine ⟨a, fun i' k' h1 h2 h3 => ?_⟩
            by_cases w : i' = i ∧ k' = k
            · rw [w.1, w.2]; exact z.resolve_left (fun y => y a)
            · exact b i' k' h1 h2 (by omega)
          · exact Or.inr x
        by_cases z : 0 < A 6 (Int32.ofNat (i * 128 + k))
        · rw [if_pos z]
          by_cases w : v1 < 0
          · rw [if_pos w]; exact here
          · rw [if_neg w]; split
            · exact here
            · exact keep (Or.inl w)
        · rw [if_neg z]; exact keep (Or.inr z)
      · have : k = h / p i := by omega
        rw [if_neg (fun z => by have := (nlt (by omega) (by omega)).1 z; omega), n1a]
        refine ih.1 (i + 1) v1 v2 0 0 (by omega) ?_ (by omega)
        rcases fm with ⟨a, b⟩ | x
        · left
          refine ⟨a, fun i' k' h1 h2 h3 => b i' k' h1 h2 ?_⟩
          by_cases w : i' = i
          · right; refine ⟨w, ?_⟩; rw [this, ← w]; exact h2
          · left; omega
        · exact Or.inr x
theorem o_fm {F : Nat → Int32} {A : Nat → Int32 → Int32} {c h : Nat} {p e d : Nat → Nat} (f2 : F 2 = Int32.ofNat c) (f3 : F 3 = Int32.ofNat h) (c4 : c ≤ 4) (h60 : h ≤ 60) (t : TK A c h p e d) : Ok (en_findMiss F A) (FM A c h p c 0) := by
  rw [een_findMiss]
  exact (l_fm f2 f3 c4 h60 t 20000).1 0 (-1) 0 0 0 (by omega) (Or.inl ⟨by decide, fun i' k' _ _ h => absurd h (by omega)⟩) (by omega)
/- resetDispatcher -/
abbrev RD (F : Nat → Int32) (A : Nat → Int32 → Int32) (r : Int32 × (Nat → Int32) × (Nat → Int32 → Int32)) : Prop := r.2.1 = F ∧ (∀ j : Nat, ¬ j = 3 → r.2.2 j = A j) ∧ ∀ k : Nat, k < 8 → r.2.2 3 (Int32.ofNat k) = 0
theorem l_rd (F : Nat → Int32) : ∀ (n v : Nat) (A : Nat → Int32 → Int32), v ≤ 8 → 8 < v + n → (∀ k : Nat, k < v → A 3 (Int32.ofNat k) = 0) → Ok (lp_resetDispatcher n 12 (Int32.ofNat v) F A) (RD F A) := by
  intro n
  induction n with
  | zero => exact fun v A h1 h2 _ => absurd h2 (by omega)
  | succ n ih =>
    intro v A h1 h2 h3
    rw [lp_resetDispatcher_12, show (8 : Int32) = Int32.ofNat 8 from rfl]
    by_cases q : v < 8
    · rw [if_pos ((nlt (by omega) (by omega)).2 q), if_pos (nn (by omega)), n1a]
      refine (ih (v + 1) _ (by omega) (by omega) fun k hk => ?_).mono fun r x => ⟨x.1, fun j hj => (x.2.1 j hj).trans (ups_ne _ _ hj), x.2.2⟩
      rw [ups_at]
      by_cases w : k = v
      · subst w; exact ups_at _ _ _
      · rw [ups_ne _ _ (fun z => w (nj (by omega) (by omega) z))]; exact h3 k (by omega)
    · have : v = 8 := by omega
      subst this
      rw [if_neg (by decide)]
      exact Ok.ret ⟨rfl, fun _ _ => rfl, h3⟩
theorem o_rd (F : Nat → Int32) (A : Nat → Int32 → Int32) : Ok (en_resetDispatcher F A) (RD (ups (ups F 7 0) 8 0) A) := by
  rw [een_resetDispatcher]
  exact l_rd _ 20000 0 A (by omega) (by omega) (fun k hk => absurd hk (by omega))
/- build -/
abbrev BP (F : Nat → Int32) (A : Nat → Int32 → Int32) (c h f : Nat) (p e d : Nat → Nat) (r : Int32 × (Nat → Int32) × (Nat → Int32 → Int32)) : Prop := (∀ j : Nat, j < 3 → r.2.2 j = A j) ∧ (∀ k : Nat, k < 8 → r.2.2 3 (Int32.ofNat k) = 0) ∧ ((r.1 = 0 ∧ r.2.1 = ups (ups (ups (ups (ups F 7 0) 8 0) 4 1) 5 (Int32.ofNat f)) 6 (-1) ∧ (∀ i : Nat, i < c → tc r.2.2 i h = e i * (h / p i)) ∧ (∀ i k : Nat, i < c → k < h / p i → tj r.2.2 i k h = e i) ∧ TW r.2.2 c h p d f) ∨ (r.1 = -7 ∧ ∃ i k : Nat, i < c ∧ k < h / p i ∧ r.2.1 = ups (ups (ups (ups (ups F 7 0) 8 0) 4 0) 5 0) 6 (Int32.ofNat (i * 128 + k))))
theorem l_b2 {F : Nat → Int32} {c h f m : Nat} {p e d : Nat → Nat} (f2 : F 2 = Int32.ofNat c) (f3 : F 3 = Int32.ofNat h) (c4 : c ≤ 4) (h60 : h ≤ 60) (f1 : 1 ≤ f) (f8 : f ≤ 24) (hm : m * f = h) : ∀ (n j : Nat) (A : Nat → Int32 → Int32), FI A c h p e d f 0 0 0 (j * f) → j ≤ m → m < j + n → Ok (lp_build n 74 (Int32.ofNat f) (Int32.ofNat m) (Int32.ofNat j) F A) (BP F A c h f p e d) := by
  have m60 : m ≤ 60 := by
    have := Nat.le_mul_of_pos_right m f1; omega
  intro n
  induction n with
  | zero => exact fun j A _ h1 h2 => absurd h2 (by omega)
  | succ n ih =>
    intro j A fi h1 h2
    rw [lp_build_74]
    by_cases q : j < m
    · have je : (j + 1) * f ≤ h := by rw [← hm]; exact Nat.mul_le_mul_right f q
      have jf : j * f < h := by rw [Nat.add_mul] at je; omega
      rw [if_pos ((nlt (by omega) (by omega)).2 q), n1a]
      have s' := (o_ff f2 c4 h60 f8 jf je fi).R (eR_fillFrame F A (Int32.ofNat j) (Int32.ofNat f))
      refine Ok.ift s'.1 ?_
      have s2 : FP A c h p e d f ((j + 1) * f) (R_fillFrame F A (Int32.ofNat j) (Int32.ofNat f)) := s'.2
      clear s'
      generalize R_fillFrame F A (Int32.ofNat j) (Int32.ofNat f) = r at *
      exact (ih (j + 1) r.2 s2.1 (by omega) (by omega)).mono fun x y => ⟨fun j hj => (y.1 j hj).trans (s2.2 j (by omega)), y.2⟩
    · have : j = m := by omega
      subst this
      rw [hm] at fi
      rw [if_neg (fun z => by have := (nlt (a := j) (b := j) (by omega) (by omega)).1 z; omega)]
      have a := (o_fm f2 f3 c4 h60 fi.1).R (eR_findMiss F A)
      have b := (o_rd F A).R (eR_resetDispatcher F A)
      refine Ok.ift ⟨a.1, b.1⟩ ?_
      have a2 : FM A c h p c 0 (R_findMiss F A) := a.2
      have b2 : RD (ups (ups F 7 0) 8 0) A (R_resetDispatcher F A) := b.2
      clear a b
      generalize R_findMiss F A = v at *
      generalize R_resetDispatcher F A = r at *
      have b21 := b2.1
      refine Ok.ite (fun v0 => Ok.ret ⟨fun j hj => b2.2.1 j (by omega), b2.2.2, Or.inl ⟨rfl, by dsimp only; rw [b21], fun i hi => ?_, fun i k hi hk => ?_, fun t ht => ?_⟩⟩) fun v0 => Ok.ret ⟨fun j hj => b2.2.1 j (by omega), b2.2.2, Or.inr ⟨rfl, ?_⟩⟩
      · have al := (a2.resolve_right (fun ⟨i0, k0, x, y, z⟩ => by
          have J := jb (p := p i0) h60
          rw [z] at v0; exact nn (by omega) v0)).2
        have sb := fi.2.1 i hi
        rw [ite_self] at sb
        have z := sN_k 0 (h / p i) (fun k => rr A (i * 128 + k)) (fun k hk => by
          have x := al i k hi hk (Or.inl hi)
          have y := (fi.2.2.1 i hi k hk).1
          have z0 : (0 : Int32).toInt = 0 := by decide
          rw [lt_i] at x
          rw [rr]; omega)
        rw [Nat.zero_mul] at z
        have e4 : tc r.2.2 i h = tc A i h := by rw [tc, tc, b2.2.1 4 (by decide)]
        dsimp only; rw [e4]; omega
      · have al := (a2.resolve_right (fun ⟨i0, k0, x, y, z⟩ => by
          have J := jb (p := p i0) h60
          rw [z] at v0; exact nn (by omega) v0)).2
        have sj := fi.2.2.2.2.1 i k hi hk
        rw [ite_self] at sj
        have x := al i k hi hk (Or.inl hi)
        have y := (fi.2.2.1 i hi k hk).1
        have z0 : (0 : Int32).toInt = 0 := by decide
        rw [lt_i] at x
        have rz : rr A (i * 128 + k) = 0 := by rw [rr]; omega
        have e4 : tj r.2.2 i k h = tj A i k h := by rw [tj, tj, b2.2.1 4 (by decide), b2.2.1 5 (by decide)]
        dsimp only; rw [e4]; omega
      · dsimp only; rw [b2.2.1 4 (by decide), b2.2.1 5 (by decide)]; exact fi.2.2.2.2.2 t ht
      · obtain ⟨i0, k0, x, y, z⟩ := a2.resolve_left (fun w => v0 w.1)
        exact ⟨i0, k0, x, y, by dsimp only; rw [b21, z]⟩
theorem l_b1 {F : Nat → Int32} {c h f m : Nat} {p e d : Nat → Nat} (f2 : F 2 = Int32.ofNat c) (f3 : F 3 = Int32.ofNat h) (c4 : c ≤ 4) (h60 : h ≤ 60) (f1 : 1 ≤ f) (f8 : f ≤ 24) (hm : m * f = h) : ∀ (n t : Nat) (w : Int32) (A : Nat → Int32 → Int32), TK A c h p e d → (∀ i' k' : Nat, i' < c → k' < h / p i' → A 6 (Int32.ofNat (i' * 128 + k')) = Int32.ofNat (e i')) → (∀ x : Nat, x < t → A 4 (Int32.ofNat x) = -1 ∧ A 5 (Int32.ofNat x) = -1) → t ≤ 128 → 200 < t + n → Ok (lp_build n 38 (Int32.ofNat f) (Int32.ofNat t) w F A) (BP F A c h f p e d) := by
  have m60 : m ≤ 60 := by
    have := Nat.le_mul_of_pos_right m f1; omega
  intro n
  induction n with
  | zero => exact fun t w A _ _ _ h1 h2 => absurd h2 (by omega)
  | succ n ih =>
    intro t w A tk a6 a4 h1 h2
    rw [lp_build_38, show (128 : Int32) = Int32.ofNat 128 from rfl]
    by_cases q : t < 128
    · rw [if_pos ((nlt (by omega) (by omega)).2 q), if_pos (nn (by omega)), n1a]
      refine (ih (t + 1) 0 _ (tk_of tk (fun j hj => by rw [ups_ne _ _ (by omega), ups_ne _ _ (by omega)])) (fun i' k' x y => by rw [ups_ne _ _ (by decide), ups_ne _ _ (by decide)]; exact a6 i' k' x y) (fun x hx => ?_) (by omega) (by omega)).mono fun r x => ⟨fun j hj => (x.1 j hj).trans (by rw [ups_ne _ _ (by omega), ups_ne _ _ (by omega)]), x.2⟩
      have q4 : (ups (ups A 4 (ups (A 4) (Int32.ofNat t) (-1))) 5 (ups (A 5) (Int32.ofNat t) (-1))) 4 = ups (A 4) (Int32.ofNat t) (-1) := by rw [ups_ne _ _ (by decide), ups_at]
      have q5 : (ups (ups A 4 (ups (A 4) (Int32.ofNat t) (-1))) 5 (ups (A 5) (Int32.ofNat t) (-1))) 5 = ups (A 5) (Int32.ofNat t) (-1) := by rw [ups_at]
      rw [q4, q5]
      by_cases z : x = t
      · subst z; exact ⟨ups_at _ _ _, ups_at _ _ _⟩
      · have nx : ¬ Int32.ofNat x = Int32.ofNat t := fun y => z (nj (by omega) (by omega) y)
        rw [ups_ne _ _ nx, ups_ne _ _ nx]; exact a4 x (by omega)
    · have : t = 128 := by omega
      subst this
      rw [if_neg (fun z => by have := (nlt (a := 128) (b := 128) (by omega) (by omega)).1 z; omega), if_pos (fun z => by have := (nz (by omega)).1 z; omega), f3, ndiv (by omega) (by omega)]
      have em : h / f = m := by rw [← hm, Nat.mul_div_cancel m f1]
      rw [em]
      refine l_b2 f2 f3 c4 h60 f1 f8 hm n 0 A ⟨tk, fun i hi => ?_, fun i hi k hk => ?_, fun x a b => a4 x (by omega), fun i k hi hk => ?_, fun x hx => Or.inl (a4 x (by omega))⟩ (by omega) (by omega)
      · have t0 : tc A i h = 0 := by
          have := sN_k 0 h (fun t => if A 4 (Int32.ofNat t) = Int32.ofNat i then 1 else 0) (fun x hx => by
            rw [(a4 x (by omega)).1, if_neg]
            intro z
            have := nn (a := i) (by omega); rw [← z] at this; exact this (by decide))
          rw [Nat.zero_mul] at this; rw [tc]; exact this
        have ti := tk i hi
        have s := sN_k (e i) (h / p i) (fun k => rr A (i * 128 + k)) (fun k hk => by
          rw [rr, a6 i k hi hk, nI (by omega)]; omega)
        rw [ite_self, t0, s]; omega
      · have ti := tk i hi
        rw [a6 i k hi hk, nI (by omega)]; omega
      · have ti := tk i hi
        have t0 : tj A i k h = 0 := by
          have := sN_k 0 h (fun t => if A 4 (Int32.ofNat t) = Int32.ofNat i ∧ A 5 (Int32.ofNat t) = Int32.ofNat k then 1 else 0) (fun x hx => by
            rw [(a4 x (by omega)).1, if_neg]
            intro z
            have := nn (a := i) (by omega); rw [← z.1] at this; exact this (by decide))
          rw [Nat.zero_mul] at this; rw [tj]; exact this
        rw [ite_self, t0, rr, a6 i k hi hk, nI (by omega)]; omega
theorem ups_ups {α β : Type} [DecidableEq α] (f : α → β) (i : α) (x y : β) : ups (ups f i x) i y = ups f i y := by
  funext j; unfold ups; split <;> rfl
def nx (h p : Int32) : Int32 := if p + 1 < h then p + 1 else 0
def tk (A : Nat → Int32 → Int32) (p : Int32) : Nat → Int32 → Int32 := if A 4 p < 0 then A else if A 4 p < 8 then ups A 3 (ups (A 3) (A 4 p) (A 3 (A 4 p) + 1)) else A
theorem run_st (n : Nat) (v2 v3 : Int32) (F : Nat → Int32) (A : Nat → Int32 → Int32) (q : v3 < v2) (h0 : ¬ F 8 < 0) (h1 : F 8 < F 3) (h2 : ¬ 60 < F 3) : lp_run (n + 1) 39 v2 v3 F A = lp_run n 39 v2 (v3 + 1) (ups (ups F 7 (F 7 + 1)) 8 (nx (F 3) (F 8))) (tk A (F 8)) := by
  rw [lp_run_39, if_pos q, if_neg h0, if_pos h1, if_pos (show F 8 < 128 by grind)]
  unfold nx tk
  by_cases a : A 4 (F 8) < 0
  · rw [if_pos a, if_pos a]
    by_cases b : F 8 + 1 < F 3
    · rw [if_pos b, if_pos b]
    · rw [if_neg b, if_neg b, ups_ups]
  · rw [if_neg a, if_neg a]
    by_cases c : A 4 (F 8) < 8
    · rw [if_pos c, if_pos c]
      by_cases b : F 8 + 1 < F 3
      · rw [if_pos b, if_pos b]
      · rw [if_neg b, if_neg b, ups_ups]
    · rw [if_neg c, if_neg c]
      by_cases b : F 8 + 1 < F 3
      · rw [if_pos b, if_pos b]
      · rw [if_neg b, if_neg b, ups_ups]
theorem o_dv {F : Nat → Int32} {c h f : Nat} (f2 : F 2 = Int32.ofNat c) (f3 : F 3 = Int32.ofNat h) (c0 : 0 < c) (c4 : c ≤ 4) (h60 : h ≤ 60) (f1 : 1 ≤ f) (f8 : f ≤ 24) : en_dividesHyper F (Int32.ofNat f) = some (if h < f then 0 else if h % f = 0 then 1 else 0) := by
  have fz : ¬ Int32.ofNat f = 0 := fun z => by have := (nz (by omega)).1 z; omega
  have cp : 0 < Int32.ofNat c := (nlt (a := 0) (by omega) (by omega)).2 c0
  have g1 : ¬ Int32.ofNat f < 1 := fun z => by have := (nlt (a := f) (b := 1) (by omega) (by omega)).1 z; omega
  rw [een_dividesHyper, if_pos (fun _ _ _ => fz), f2, f3, if_pos cp, if_neg g1, nmod (by omega) (by omega)]
  by_cases q : h < f
  · rw [if_pos ((nlt (by omega) (by omega)).2 q), if_pos q]; rfl
  · rw [if_neg (fun z => q ((nlt (by omega) (by omega)).1 z)), if_neg q]
    have hm : h % f ≤ h := Nat.mod_le h f
    by_cases w : h % f = 0
    · rw [if_pos ((nz (by omega)).2 w), if_pos w]; rfl
    · rw [if_neg (fun z => w ((nz (by omega)).1 z)), if_neg w]; rfl
theorem l_dk {F : Nat → Int32} {A : Nat → Int32 → Int32} {c h f : Nat} {p e d : Nat → Nat} (f2 : F 2 = Int32.ofNat c) (c4 : c ≤ 4) (f8 : f ≤ 24) (t : TK A c h p e d) : ∀ (k i n : Nat), i + k = c → k < n → Ok (lp_deadlinesOk n 2 (Int32.ofNat f) (Int32.ofNat i) F A) (fun _ => True) := by
  intro k
  induction k with
  | zero =>
    intro i n hi hn
    obtain ⟨n, rfl⟩ : ∃ z, n = z + 1 := ⟨n - 1, by omega⟩
    have : ¬ Int32.ofNat i < Int32.ofNat c := fun z => by have := (nlt (by omega) (by omega)).1 z; omega
    rw [lp_deadlinesOk_2, f2, if_neg this]
    exact Ok.ret trivial
  | succ k ih =>
    intro i n hi hn
    obtain ⟨n, rfl⟩ : ∃ z, n = z + 1 := ⟨n - 1, by omega⟩
    have lt : Int32.ofNat i < Int32.ofNat c := (nlt (by omega) (by omega)).2 (by omega)
    have ti := t i (by omega)
    have g1 := e_gc (a := f) (b := p i) (by omega) (by omega)
    have i8 : Int32.ofNat i < 8 := by rw [show (8 : Int32) = Int32.ofNat 8 from rfl, nlt (by omega) (by omega)]; omega
    rw [lp_deadlinesOk_2, f2, if_pos lt, ti.1, g1, if_pos ⟨nn (by omega), i8, rfl⟩, n1a]
    exact Ok.ite (fun _ => Ok.ret trivial) fun _ => ih (i + 1) n (by omega) (by omega)
/-- what build answers -/
theorem o_bd {F : Nat → Int32} {A : Nat → Int32 → Int32} {c h f : Nat} {p e d : Nat → Nat} (f2 : F 2 = Int32.ofNat c) (c4 : c ≤ 4) (c0 : 0 < c) (f3 : F 3 = Int32.ofNat h) (h60 : h ≤ 60) (f8 : f ≤ 24) (t : TK A c h p e d) : Ok (en_build F A (Int32.ofNat f)) (fun r => (¬ r.1 = 0 ∧ r.2 = (F, A)) ∨ (1 ≤ f ∧ f ∣ h ∧ BP F A c h f p e d r)) := by
  have cz : ¬ F 2 = 0 := by rw [f2]; exact fun z => by have := (nz (by omega)).1 z; omega
  rw [een_build, if_neg cz]
  have no : en_dividesHyper F (Int32.ofNat f) = some 0 → Ok (if (en_dividesHyper F (Int32.ofNat f)).isSome = true then (if (R_dividesHyper F (Int32.ofNat f)) = 0 then some ((-5 : Int32), F, A) else (if ((en_deadlinesOk F A (Int32.ofNat f)).isSome = true) then (if (R_deadlinesOk F A (Int32.ofNat f)) = 0 then some ((-6 : Int32), F, A) else (if ((en_initJobs F A ).isSome = true) then lp_build 20000 38 (Int32.ofNat f) (0 : Int32) 0 F (R_initJobs F A ).2 else none)) else none)) else none) (fun r => (¬ r.1 = 0 ∧ r.2 = (F, A)) ∨ (1 ≤ f ∧ f ∣ h ∧ BP F A c h f p e d r)) := fun dv => by
    rw [dv, ifS, r_of (eR_dividesHyper F _) dv, if_pos rfl]
    exact Ok.ret (Or.inl ⟨by dsimp only; decide, rfl⟩)
  by_cases f1 : 1 ≤ f
  rotate_left
  · have fz : f = 0 := by omega
    subst fz
    refine no ?_
    have cp : 0 < Int32.ofNat c := (nlt (a := 0) (by omega) (by omega)).2 c0
    rw [een_dividesHyper, if_pos (fun _ z => absurd (by decide) z), f2, if_pos cp, if_pos (by decide)]; rfl
  · have dv := o_dv f2 f3 c0 c4 h60 f1 f8
    by_cases q : h < f
    · rw [if_pos q] at dv; exact no dv
    · rw [if_neg q] at dv
      by_cases w : h % f = 0
      rotate_left
      · rw [if_neg w] at dv; exact no dv
      · rw [if_pos w] at dv
        clear no
        have fd := Nat.dvd_of_mod_eq_zero w
        rw [dv, ifS, r_of (eR_dividesHyper F _) dv, if_neg (by decide)]
        have dk : (en_deadlinesOk F A (Int32.ofNat f)).isSome = true := by
          rw [een_deadlinesOk]; exact (l_dk (f := f) f2 c4 f8 t c 0 20000 (by omega) (by omega)).S
        refine Ok.ift dk (Ok.ite (fun _ => Ok.ret (Or.inl ⟨by dsimp only; decide, rfl⟩)) fun _ => ?_)
        have s' := (o_ij f2 f3 c4 h60 t).R (eR_initJobs F A)
        refine Ok.ift s'.1 ?_
        have s2 : (∀ j : Nat, ¬ j = 6 → (R_initJobs F A).2 j = A j) ∧ ∀ i' k' : Nat, i' < c → k' < h / p i' → (R_initJobs F A).2 6 (Int32.ofNat (i' * 128 + k')) = Int32.ofNat (e i') := s'.2
        clear s'
        generalize R_initJobs F A = r at *
        exact (l_b1 (m := h / f) f2 f3 c4 h60 f1 f8 (Nat.div_mul_cancel fd) 20000 0 0 r.2 (tk_of t (fun j hj => s2.1 j (by omega))) s2.2 (fun x hx => absurd hx (by omega)) (by omega) (by omega)).mono fun r' z => Or.inr ⟨f1, fd, fun j hj => (z.1 j hj).trans (s2.1 j (by omega)), z.2⟩
abbrev RI (F : Nat → Int32) (A : Nat → Int32 → Int32) (c h : Nat) (dm : Nat → Nat) (now : Nat) : Prop := F 7 = Int32.ofNat now ∧ F 8 = Int32.ofNat (now % h) ∧ ∀ i : Nat, i < c → A 3 (Int32.ofNat i) = Int32.ofNat (now / h * dm i + tc A i (now % h))
theorem tk_3 {A : Nat → Int32 → Int32} {x : Int32} {i : Nat} (i8 : i < 8) : tk A x 3 (Int32.ofNat i) = A 3 (Int32.ofNat i) + Int32.ofNat (if A 4 x = Int32.ofNat i then 1 else 0) := by
  have i0 : ¬ Int32.ofNat i < 0 := nn (by omega)
  have i1 : Int32.ofNat i < 8 := by rw [show (8 : Int32) = Int32.ofNat 8 from rfl, nlt (by omega) (by omega)]; omega
  rw [tk]
  by_cases e : A 4 x = Int32.ofNat i
  · rw [e, if_neg i0, if_pos i1, ups_at, ups_at, if_pos rfl]; rfl
  · rw [if_neg e]
    have z : A 3 (Int32.ofNat i) + Int32.ofNat 0 = A 3 (Int32.ofNat i) := Int32.add_zero _
    rw [z]
    by_cases p : A 4 x < 0
    · rw [if_pos p]
    · rw [if_neg p]
      by_cases q : A 4 x < 8
      · rw [if_pos q, ups_at, ups_ne _ _ (fun w => e w.symm)]
      · rw [if_neg q]
theorem tk_j {A : Nat → Int32 → Int32} {x : Int32} {j : Nat} (h : ¬ j = 3) : tk A x j = A j := by
  rw [tk]; split
  · rfl
  · split
    · exact ups_ne _ _ h
    · rfl
theorem nxt_now {h now : Nat} (h0 : 0 < h) : (now % h + 1 < h ∧ (now + 1) % h = now % h + 1 ∧ (now + 1) / h = now / h) ∨ (now % h + 1 = h ∧ (now + 1) % h = 0 ∧ (now + 1) / h = now / h + 1) := by
  have e := Nat.div_add_mod now h
  have l := Nat.mod_lt now h0
  by_cases q : now % h + 1 < h
  · left
    have e' : now + 1 = h * (now / h) + (now % h + 1) := by omega
    refine ⟨q, ?_, ?_⟩
    · rw [e', Nat.mul_add_mod, Nat.mod_eq_of_lt q]
    · have : (now + 1) / h = (h * (now / h) + (now % h + 1)) / h := by rw [← e']
      rw [this, Nat.mul_add_div h0, Nat.div_eq_of_lt q, Nat.add_zero]
  · right
    have e' : now + 1 = h * (now / h + 1) := by rw [Nat.mul_add]; omega
    refine ⟨by omega, ?_, ?_⟩
    · rw [e', Nat.mul_mod_right]
    · have : (now + 1) / h = (h * (now / h + 1)) / h := by rw [← e']
      rw [this, Nat.mul_div_cancel_left _ h0]
theorem nx_now {h now : Nat} (h0 : 0 < h) (h60 : h ≤ 60) : nx (Int32.ofNat h) (Int32.ofNat (now % h)) = Int32.ofNat ((now + 1) % h) := by
  have l := Nat.mod_lt now h0
  rw [nx, n1a]
  rcases nxt_now (now := now) h0 with ⟨a, b, _⟩ | ⟨a, b, _⟩
  · rw [if_pos ((nlt (by omega) (by omega)).2 a), b]
  · rw [if_neg (fun z => by have := (nlt (by omega) (by omega)).1 z; omega), b]; rfl
theorem l_run {c h : Nat} {dm : Nat → Nat} (c4 : c ≤ 4) (h0 : 0 < h) (h60 : h ≤ 60) : ∀ (k n v s now : Nat) (F : Nat → Int32) (A : Nat → Int32 → Int32), v + k = s → s < 1000 → k < n → F 3 = Int32.ofNat h → (∀ i : Nat, i < c → tc A i h = dm i) → RI F A c h dm now → Ok (lp_run n 39 (Int32.ofNat s) (Int32.ofNat v) F A) (fun r => r.1 = Int32.ofNat s ∧ (∀ j : Nat, ¬ j = 7 → ¬ j = 8 → r.2.1 j = F j) ∧ (∀ j : Nat, ¬ j = 3 → r.2.2 j = A j) ∧ RI r.2.1 r.2.2 c h dm (now + k)) := by
  intro k
  induction k with
  | zero =>
    intro n v s now F A hv hs hn f3 ht ri
    obtain ⟨n, rfl⟩ : ∃ z, n = z + 1 := ⟨n - 1, by omega⟩
    have e : v = s := by omega
    subst e
    rw [lp_run_39, if_neg (fun z => by have := (nlt (a := v) (b := v) (by omega) (by omega)).1 z; omega)]
    exact Ok.ret ⟨rfl, fun _ _ _ => rfl, fun _ _ => rfl, ri⟩
  | succ k ih =>
    intro n v s now F A hv hs hn f3 ht ri
    obtain ⟨n, rfl⟩ : ∃ z, n = z + 1 := ⟨n - 1, by omega⟩
    have l := Nat.mod_lt now h0
    rw [run_st n _ _ F A ((nlt (by omega) (by omega)).2 (by omega)) (by rw [ri.2.1]; exact nn (by omega)) (by rw [ri.2.1, f3, nlt (by omega) (by omega)]; exact l) (by rw [f3, show (60 : Int32) = Int32.ofNat 60 from rfl, nlt (by omega) (by omega)]; omega), n1a, ri.1, ri.2.1, f3, n1a, nx_now h0 h60]
    have e4 : tk A (Int32.ofNat (now % h)) 4 = A 4 := tk_j (by decide)
    have tce : ∀ i H : Nat, tc (tk A (Int32.ofNat (now % h))) i H = tc A i H := fun i H => by rw [tc, tc, e4]
    refine (ih n (v + 1) s (now + 1) _ _ (by omega) hs (by omega) ?_ (fun i hi => by rw [tce]; exact ht i hi) ⟨?_, ?_, fun i hi => ?_⟩).mono fun r x => ⟨x.1, fun j a b => (x.2.1 j a b).trans (by rw [ups_ne _ _ b, ups_ne _ _ a]), fun j a => (x.2.2.1 j a).trans (tk_j a), by rw [show now + (k + 1) = now + 1 + k by omega]; exact x.2.2.2⟩
    · rw [ups_ne _ _ (by decide), ups_ne _ _ (by decide)]; exact f3
    · rw [ups_ne _ _ (by decide), ups_at]
    · rw [ups_at]
    · rw [tk_3 (by omega), ri.2.2 i hi, nadd, tce]
      congr 1
      have hi' := ht i hi
      rcases nxt_now (now := now) h0 with ⟨a, b, e⟩ | ⟨a, b, e⟩
      · rw [b, e, tc, tc, sN]; omega
      · have : tc A i (now % h + 1) = tc A i (now % h) + (if A 4 (Int32.ofNat (now % h)) = Int32.ofNat i then 1 else 0) := rfl
        have z : tc A i 0 = 0 := rfl
        rw [a] at this
        rw [b, e, Nat.add_mul, z]; omega
theorem sN_le {f : Nat → Nat} : ∀ k : Nat, (∀ i : Nat, i < k → f i ≤ 1) → sN f k ≤ k
  | 0, _ => Nat.le_refl _
  | k + 1, h => by rw [sN]; have := sN_le k (fun i hi => h i (by omega)); have := h k (by omega); omega
theorem sN_mono {f : Nat → Nat} : ∀ (d a : Nat), sN f a ≤ sN f (a + d)
  | 0, _ => Nat.le_refl _
  | d + 1, a => by rw [show a + (d + 1) = (a + d) + 1 by omega, sN]; have := sN_mono (f := f) d a; omega
theorem tc_le (A : Nat → Int32 → Int32) (i H : Nat) : tc A i H ≤ H := sN_le H fun t _ => by split <;> omega
theorem tc_mono (A : Nat → Int32 → Int32) (i : Nat) {a b : Nat} (h : a ≤ b) : tc A i a ≤ tc A i b := by
  have := sN_mono (f := fun t => if A 4 (Int32.ofNat t) = Int32.ofNat i then 1 else 0) (b - a) a
  rw [show a + (b - a) = b by omega] at this; exact this
theorem e_rt {F : Nat → Int32} {A : Nat → Int32 → Int32} {c i : Nat} (f2 : F 2 = Int32.ofNat c) (c4 : c ≤ 4) (hi : i < c) : en_getRunTicks F A (Int32.ofNat i) = some (A 3 (Int32.ofNat i)) := by
  rw [een_getRunTicks, f2, if_neg (nn (by omega)), if_pos ((nlt (by omega) (by omega)).2 hi), if_pos]
  rw [show (8 : Int32) = Int32.ofNat 8 from rfl, nlt (by omega) (by omega)]; omega
theorem toN (n : Nat) (h : n < 2147483648) : (Int32.ofNat n).toInt = n := Int32.toInt_ofNat_of_lt (by omega)
theorem mask_fin (p m : Int32) (k : Nat) (hk : k < 31) (hm : m.toBitVec.toNat = 2 ^ k - 1) : ∃ s : Fin (2 ^ k), p &&& m = Int32.ofNat s.1 := by
  have h := and_mask p m k hk hm
  have h3 : (2 ^ k : Nat) ≤ 2 ^ 30 := Nat.pow_le_pow_right (by decide) (by omega)
  have h4 : (2 ^ 30 : Nat) = 1073741824 := by decide
  have h5 : (0 : Int) < ((2 ^ k : Nat) : Int) := by have := Nat.two_pow_pos k; omega
  have h1 := Int.emod_nonneg p.toInt (Int.ne_of_gt h5)
  have h2 := Int.emod_lt_of_pos p.toInt h5
  refine ⟨⟨(p.toInt % ((2 ^ k : Nat) : Int)).toNat, by omega⟩, Int32.toInt_inj.mp ?_⟩
  show (p &&& m).toInt = (Int32.ofNat (p.toInt % ((2 ^ k : Nat) : Int)).toNat).toInt
  rw [h, toN _ (by omega)]; omega
theorem per_v (x : Int32) : ∃ m : Nat, f_L_period x = Int32.ofNat m ∧ (m = 2 ∨ m = 3 ∨ m = 4 ∨ m = 6 ∨ m = 8 ∨ m = 12) := by
  rw [e_L_period]
  generalize (x &&& 32767) % 6 = r
  by_cases a : r = 0
  · exact ⟨2, by rw [if_pos a]; rfl, by omega⟩
  rw [if_neg a]
  by_cases b : r = 1
  · exact ⟨3, by rw [if_pos b]; rfl, by omega⟩
  rw [if_neg b]
  by_cases c : r = 2
  · exact ⟨4, by rw [if_pos c]; rfl, by omega⟩
  rw [if_neg c]
  by_cases d : r = 3
  · exact ⟨6, by rw [if_pos d]; rfl, by omega⟩
  rw [if_neg d]
  by_cases e : r = 4
  · exact ⟨8, by rw [if_pos e]; rfl, by omega⟩
  · exact ⟨12, by rw [if_neg e]; rfl, by omega⟩
theorem p24 {m : Nat} (h : m = 2 ∨ m = 3 ∨ m = 4 ∨ m = 6 ∨ m = 8 ∨ m = 12) : m ∣ 24 := by
  rcases h with rfl | rfl | rfl | rfl | rfl | rfl <;> decide
theorem dead_v {p : Nat} (p2 : 2 ≤ p) (p12 : p ≤ 12) (y : Int32) : ∃ d : Nat, f_L_deadline (Int32.ofNat p) y = Int32.ofNat d ∧ 1 ≤ d ∧ d ≤ p := by
  obtain ⟨s, hs⟩ := mask_fin y 32767 15 (by decide) (by decide)
  have sl := s.2
  have r := Nat.mod_lt s.1 (show 0 < (p + 1) / 2 by omega)
  refine ⟨p - s.1 % ((p + 1) / 2), ?_, by omega, by omega⟩
  rw [e_L_deadline, hs, n1a, show (2 : Int32) = Int32.ofNat 2 from rfl, ndiv (by omega) (by omega), nmod (by omega) (by omega), nsub (by omega)]
theorem wc_v {d n : Nat} (d1 : 1 ≤ d) (d12 : d ≤ 12) (n1 : 1 ≤ n) (n4 : n ≤ 4) (z : Int32) : (∃ e : Nat, f_L_wcet (Int32.ofNat d) (Int32.ofNat n) z = Int32.ofNat e ∧ 1 ≤ e ∧ e ≤ d) ∧ ¬ (if Int32.ofNat d / Int32.ofNat n < 1 then (1 : Int32) else Int32.ofNat d / Int32.ofNat n) = 0 := by
  obtain ⟨s, hs⟩ := mask_fin z 32767 15 (by decide) (by decide)
  have sl := s.2
  have dn : d / n ≤ d := Nat.div_le_self d n
  rw [e_L_wcet, hs, ndiv (by omega) (by omega)]
  have em : ∃ m : Nat, (if Int32.ofNat (d / n) < 1 then (1 : Int32) else Int32.ofNat (d / n)) = Int32.ofNat m ∧ 1 ≤ m ∧ m ≤ d := by
    by_cases q : d / n < 1
    · exact ⟨1, by rw [if_pos (show Int32.ofNat (d / n) < 1 from (nlt (a := d / n) (b := 1) (by omega) (by omega)).2 q)]; rfl, by omega, by omega⟩
    · exact ⟨d / n, by rw [if_neg (show ¬ Int32.ofNat (d / n) < 1 from fun y => q ((nlt (a := d / n) (b := 1) (by omega) (by omega)).1 y))], by omega, dn⟩
  obtain ⟨m, e, m1, md⟩ := em
  rw [e]
  have r := Nat.mod_lt s.1 (show 0 < m by omega)
  refine ⟨⟨1 + s.1 % m, ?_, by omega, by omega⟩, fun y => by have := (nz (by omega)).1 y; omega⟩
  rw [nmod (by omega) (by omega), show (1 : Int32) = Int32.ofNat 1 from rfl, nadd]
section Own
variable (sl : Int32) (sv : Int32 → Int32) (n : Nat)
def pf (i : Nat) : Nat := (f_L_period (f_L_cell sl sv (1 + 3 * Int32.ofNat i))).toInt.toNat
def df (i : Nat) : Nat := (f_L_deadline (f_L_period (f_L_cell sl sv (1 + 3 * Int32.ofNat i))) (f_L_cell sl sv (2 + 3 * Int32.ofNat i))).toInt.toNat
def ef (i : Nat) : Nat := (f_L_wcet (f_L_deadline (f_L_period (f_L_cell sl sv (1 + 3 * Int32.ofNat i))) (f_L_cell sl sv (2 + 3 * Int32.ofNat i))) (Int32.ofNat n) (f_L_cell sl sv (3 + 3 * Int32.ofNat i))).toInt.toNat
end Own
theorem toN' {x : Int32} {m : Nat} (h : x = Int32.ofNat m) (hm : m < 2147483648) : x.toInt.toNat = m := by rw [h, nI hm]; omega
theorem pde (sl : Int32) (sv : Int32 → Int32) {n : Nat} (n1 : 1 ≤ n) (n4 : n ≤ 4) (i : Nat) : (f_L_period (f_L_cell sl sv (1 + 3 * Int32.ofNat i)) = Int32.ofNat (pf sl sv i) ∧ f_L_deadline (f_L_period (f_L_cell sl sv (1 + 3 * Int32.ofNat i))) (f_L_cell sl sv (2 + 3 * Int32.ofNat i)) = Int32.ofNat (df sl sv i) ∧ f_L_wcet (f_L_deadline (f_L_period (f_L_cell sl sv (1 + 3 * Int32.ofNat i))) (f_L_cell sl sv (2 + 3 * Int32.ofNat i))) (Int32.ofNat n) (f_L_cell sl sv (3 + 3 * Int32.ofNat i)) = Int32.ofNat (ef sl sv n i)) ∧ pf sl sv i ∣ 24 ∧ (2 ≤ pf sl sv i ∧ pf sl sv i ≤ 12) ∧ (1 ≤ ef sl sv n i ∧ ef sl sv n i ≤ df sl sv i ∧ df sl sv i ≤ pf sl sv i) ∧ ¬ (if Int32.ofNat (df sl sv i) / Int32.ofNat n < 1 then (1 : Int32) else Int32.ofNat (df sl sv i) / Int32.ofNat n) = 0 := by
  obtain ⟨p, hp, pv⟩ := per_v (f_L_cell sl sv (1 + 3 * Int32.ofNat i))
  have ep : pf sl sv i = p := toN' hp (by omega)
  obtain ⟨d, hd, d1, dp⟩ := dead_v (p := p) (by omega) (by omega) (f_L_cell sl sv (2 + 3 * Int32.ofNat i))
  rw [← hp] at hd
  have ed : df sl sv i = d := toN' hd (by omega)
  obtain ⟨⟨e, he, e1, ede⟩, nzz⟩ := wc_v (d := d) (n := n) d1 (by omega) n1 n4 (f_L_cell sl sv (3 + 3 * Int32.ofNat i))
  rw [← hd] at he
  have ee : ef sl sv n i = e := toN' he (by omega)
  rw [ep, ed, ee]
  exact ⟨⟨hp, hd, he⟩, p24 pv, by omega, by omega, nzz⟩
theorem nng (a b i : Nat) (h : a + b * i < 2147483648) : ¬ Int32.ofNat a + Int32.ofNat b * Int32.ofNat i < 0 := by
  rw [nmul, nadd]; exact nn h
theorem nne (a b i : Nat) : Int32.ofNat a + Int32.ofNat b * Int32.ofNat i = Int32.ofNat (a + b * i) := by rw [nmul, nadd]
/- slices -/
def slc (A : Nat → Int32 → Int32) (i k f : Nat) : Nat → Nat
  | 0 => 0
  | j + 1 => slc A i k f j + (if tj A i k (j * f) < tj A i k ((j + 1) * f) then 1 else 0)
theorem sN_add {g : Nat → Nat} (h : ∀ t : Nat, g t ≤ 1) : ∀ (d a : Nat), sN g (a + d) ≤ sN g a + d
  | 0, _ => Nat.le_refl _
  | d + 1, a => by rw [show a + (d + 1) = (a + d) + 1 by omega, sN]; have := sN_add h d a; have := h (a + d); omega
theorem tj_add (A : Nat → Int32 → Int32) (i k a d : Nat) : tj A i k (a + d) ≤ tj A i k a + d := sN_add (fun t => by split <;> omega) d a
theorem tj_mono (A : Nat → Int32 → Int32) (i k a d : Nat) : tj A i k a ≤ tj A i k (a + d) := sN_mono d a
theorem slc_le (A : Nat → Int32 → Int32) (i k f : Nat) : ∀ j : Nat, slc A i k f j ≤ j
  | 0 => Nat.le_refl _
  | j + 1 => by rw [slc]; have := slc_le A i k f j; split <;> omega
theorem tj_slc (A : Nat → Int32 → Int32) (i k f : Nat) : ∀ j : Nat, tj A i k (j * f) ≤ f * slc A i k f j
  | 0 => by rw [Nat.zero_mul]; exact Nat.le_refl _
  | j + 1 => by
    have h := tj_slc A i k f j
    have a := tj_add A i k (j * f) f
    have e : (j + 1) * f = j * f + f := Nat.succ_mul j f
    rw [slc]
    by_cases q : tj A i k (j * f) < tj A i k ((j + 1) * f)
    · rw [if_pos q, Nat.mul_add, Nat.mul_one, e]; omega
    · rw [if_neg q, show slc A i k f j + 0 = slc A i k f j from rfl]; omega
theorem tj_s (A : Nat → Int32 → Int32) (i k t : Nat) : tj A i k (t + 1) = tj A i k t + (if A 4 (Int32.ofNat t) = Int32.ofNat i ∧ A 5 (Int32.ofNat t) = Int32.ofNat k then 1 else 0) := rfl
theorem l_sc {F : Nat → Int32} {A : Nat → Int32 → Int32} {h f J i k : Nat} (h24 : h ≤ 24) (f1 : 1 ≤ f) (hJ : J * f = h) (f5 : F 5 = Int32.ofNat f) : ∀ (n : Nat), (∀ (j : Nat) (a b : Int32), j ≤ J → (J - j) * 30 + 1 ≤ n → lp_getSliceCount n 69 (Int32.ofNat i) (Int32.ofNat k) (Int32.ofNat J) (Int32.ofNat (slc A i k f j)) (Int32.ofNat j) a b F A = some (Int32.ofNat (slc A i k f J))) ∧ (∀ (j u : Nat), j < J → u ≤ f → tj A i k (j * f + u) = tj A i k (j * f) → (J - j - 1) * 30 + 2 + (24 - u) ≤ n → lp_getSliceCount n 89 (Int32.ofNat i) (Int32.ofNat k) (Int32.ofNat J) (Int32.ofNat (slc A i k f j)) (Int32.ofNat j) (Int32.ofNat (j * f)) (Int32.ofNat (j * f + u)) F A = some (Int32.ofNat (slc A i k f J))) := by
  have J24 : J ≤ 24 := by have := Nat.le_mul_of_pos_right J f1; omega
  intro n
  induction n with
  | zero => exact ⟨fun j a b _ h => absurd h (by omega), fun j u _ _ _ h => absurd h (by omega)⟩
  | succ n ih =>
    refine ⟨fun j a b jJ hn => ?_, fun j u jJ uf et hn => ?_⟩
    · rw [lp_getSliceCount_69, f5]
      by_cases q : j < J
      · have jf : j * f ≤ h := by rw [← hJ]; exact Nat.mul_le_mul_right f jJ
        rw [if_pos ((nlt (by omega) (by omega)).2 q), nmul]
        exact ih.2 j 0 q (by omega) rfl (by omega)
      · have : j = J := by omega
        subst this
        rw [if_neg (fun z => by have := (nlt (a := j) (b := j) (by omega) (by omega)).1 z; omega)]
    · have je : (j + 1) * f ≤ h := by rw [← hJ]; exact Nat.mul_le_mul_right f jJ
      have e1 : (j + 1) * f = j * f + f := Nat.succ_mul j f
      have sl := slc_le A i k f j
      rw [lp_getSliceCount_89, f5, nadd]
      by_cases q : u < f
      · have ts := tj_s A i k (j * f + u)
        have t0 : ¬ Int32.ofNat (j * f + u) < 0 := nn (by omega)
        rw [if_pos ((nlt (by omega) (by omega)).2 (by omega)), if_pos (show Int32.ofNat (j * f + u) < 128 from (nlt (a := j * f + u) (b := 128) (by omega) (by omega)).2 (by omega)), if_pos t0, if_pos t0, n1a (j * f + u), n1a j, n1a (slc A i k f j)]
        have next : tj A i k (j * f + (u + 1)) = tj A i k (j * f) → lp_getSliceCount n 89 (Int32.ofNat i) (Int32.ofNat k) (Int32.ofNat J) (Int32.ofNat (slc A i k f j)) (Int32.ofNat j) (Int32.ofNat (j * f)) (Int32.ofNat (j * f + u + 1)) F A = some (Int32.ofNat (slc A i k f J)) := fun z => ih.2 j (u + 1) jJ (by omega) z (by omega)
        by_cases a : A 4 (Int32.ofNat (j * f + u)) = Int32.ofNat i
        · rw [if_pos a]
          by_cases b : A 5 (Int32.ofNat (j * f + u)) = Int32.ofNat k
          · rw [if_pos b]
            rw [if_pos ⟨a, b⟩] at ts
            have mono := tj_mono A i k (j * f + u + 1) (f - (u + 1))
            rw [show j * f + u + 1 + (f - (u + 1)) = (j + 1) * f by omega] at mono
            have es : slc A i k f (j + 1) = slc A i k f j + 1 := by rw [slc, if_pos (by omega)]
            rw [← es]
            exact ih.1 (j + 1) 0 0 (by omega) (by omega)
          · rw [if_neg b]
            rw [if_neg (fun z => b z.2)] at ts
            exact next (by rw [show j * f + (u + 1) = j * f + u + 1 by omega]; omega)
        · rw [if_neg a]
          rw [if_neg (fun z => a z.1)] at ts
          exact next (by rw [show j * f + (u + 1) = j * f + u + 1 by omega]; omega)
      · have : u = f := by omega
        subst this
        rw [if_neg (fun z => by have := (nlt (by omega) (by omega)).1 z; omega), n1a]
        have es : slc A i k u (j + 1) = slc A i k u j := by rw [slc, e1, et, if_neg (by omega)]; omega
        rw [← es]
        exact ih.1 (j + 1) 0 0 (by omega) (by omega)
theorem e_sc {F : Nat → Int32} {A : Nat → Int32 → Int32} {c h f i k : Nat} {p e d : Nat → Nat} (f2 : F 2 = Int32.ofNat c) (c4 : c ≤ 4) (f3 : F 3 = Int32.ofNat h) (h24 : h ≤ 24) (f4 : F 4 = 1) (f5 : F 5 = Int32.ofNat f) (f1 : 1 ≤ f) (fd : f ∣ h) (h0 : 0 < h) (t : TK A c h p e d) (ic : i < c) (kj : k < h / p i) : en_getSliceCount F A (Int32.ofNat i) (Int32.ofNat k) = some (Int32.ofNat (slc A i k f (h / f))) := by
  have fh : f ≤ h := Nat.le_of_dvd h0 fd
  have ti := t i ic
  have J := jb (p := p i) (show h ≤ 60 by omega)
  have z1 : ¬ Int32.ofNat f < 1 := fun z => by have := (nlt (a := f) (b := 1) (by omega) (by omega)).1 z; omega
  have z2 : ¬ Int32.ofNat f = 0 := fun z => by have := (nz (by omega)).1 z; omega
  have z3 : ¬ Int32.ofNat (p i) = 0 := fun z => by have := (nz (by omega)).1 z; omega
  rw [een_getSliceCount, f4, f5, f2, f3, if_neg (by decide), if_neg z1, if_neg (nn (by omega)), if_pos ((nlt (by omega) (by omega)).2 ic), ti.1, if_pos ⟨(nlt (a := i) (b := 8) (by omega) (by omega)).2 (by omega), z3⟩, if_neg (nn (by omega)), ndiv (by omega) (by omega), if_pos ((nlt (by omega) (by omega)).2 kj), if_pos z2, ndiv (by omega) (by omega)]
  have hJ := Nat.div_mul_cancel fd
  have J24 : h / f ≤ 24 := Nat.le_trans (Nat.div_le_self h f) h24
  exact (l_sc (i := i) (k := k) h24 f1 hJ f5 20000).1 0 0 0 (Nat.zero_le _) (by omega)
abbrev TB (A : Nat → Int32 → Int32) (c h : Nat) (p e d : Nat → Nat) (f : Nat) : Prop := (∀ i : Nat, i < c → tc A i h = e i * (h / p i)) ∧ (∀ i k : Nat, i < c → k < h / p i → tj A i k h = e i) ∧ TW A c h p d f
abbrev JB (F : Nat → Int32) (A : Nat → Int32 → Int32) (c h : Nat) (p e d : Nat → Nat) (f : Nat) : Prop := F 4 = 1 ∧ F 5 = Int32.ofNat f ∧ 1 ≤ f ∧ f ∣ h ∧ TB A c h p e d f ∧ ∃ now : Nat, RI F A c h (fun i => e i * (h / p i)) now
abbrev JD (F : Nat → Int32) (A : Nat → Int32 → Int32) (c h : Nat) (p e d : Nat → Nat) : Prop := F 2 = Int32.ofNat c ∧ F 3 = Int32.ofNat h ∧ TK A c h p e d ∧ (F 4 = 0 ∨ ∃ f : Nat, JB F A c h p e d f)
theorem o_rn {F : Nat → Int32} {A : Nat → Int32 → Int32} {c h : Nat} {p e d : Nat → Nat} (c4 : c ≤ 4) (h0 : 0 < h) (h60 : h ≤ 60) (j : JD F A c h p e d) {m : Nat} (m63 : m ≤ 63) : Ok (en_run F A (Int32.ofNat m)) (fun r => JD r.2.1 r.2.2 c h p e d ∧ (∀ f now : Nat, JB F A c h p e d f → RI F A c h (fun i => e i * (h / p i)) now → 1 ≤ m → r.1 = Int32.ofNat m ∧ JB r.2.1 r.2.2 c h p e d f ∧ RI r.2.1 r.2.2 c h (fun i => e i * (h / p i)) (now + m))) := by
  rw [een_run]
  by_cases f4 : F 4 = 0
  · rw [if_pos f4]; exact Ok.ret ⟨j, fun f now b => by have := b.1; rw [f4] at this; exact absurd this (by decide)⟩
  rw [if_neg f4]
  by_cases q : m < 1
  · rw [if_pos (show Int32.ofNat m < 1 from (nlt (a := m) (b := 1) (by omega) (by omega)).2 q)]
    exact Ok.ret ⟨j, fun f now _ _ z => absurd z (by omega)⟩
  have n1 : ¬ Int32.ofNat m < 1 := fun y => q ((nlt (a := m) (b := 1) (by omega) (by omega)).1 y)
  have n3 : ¬ F 3 < 1 := by rw [j.2.1]; exact fun y => by have := (nlt (a := h) (b := 1) (by omega) (by omega)).1 y; omega
  rw [if_neg n1, if_neg n3, if_pos (show Int32.ofNat m < 4096 from (nlt (a := m) (b := 4096) (by omega) (by omega)).2 (by omega))]
  obtain ⟨f, jb⟩ := j.2.2.2.resolve_left f4
  obtain ⟨b4, b5, f1, fd, tb, now, ri⟩ := jb
  have step : ∀ now : Nat, RI F A c h (fun i => e i * (h / p i)) now → Ok (lp_run 20000 39 (Int32.ofNat m) 0 F A) (fun r => r.1 = Int32.ofNat m ∧ (∀ j : Nat, ¬ j = 7 → ¬ j = 8 → r.2.1 j = F j) ∧ (∀ j : Nat, ¬ j = 3 → r.2.2 j = A j) ∧ RI r.2.1 r.2.2 c h (fun i => e i * (h / p i)) (now + m)) := fun now ri =>
    l_run (dm := fun i => e i * (h / p i)) c4 h0 h60 m 20000 0 m now F A (by omega) (by omega) (by omega) j.2.1 tb.1 ri
  have keep : ∀ (r : Int32 × (Nat → Int32) × (Nat → Int32 → Int32)) (f : Nat), JB F A c h p e d f → (∀ j : Nat, ¬ j = 7 → ¬ j = 8 → r.2.1 j = F j) → (∀ j : Nat, ¬ j = 3 → r.2.2 j = A j) → (∃ now : Nat, RI r.2.1 r.2.2 c h (fun i => e i * (h / p i)) now) → JB r.2.1 r.2.2 c h p e d f := by
    rintro r f ⟨b4, b5, f1, fd, tb, _⟩ rF rA ex
    have e4 := rA 4 (by decide)
    have e5 := rA 5 (by decide)
    refine ⟨by rw [rF 4 (by decide) (by decide)]; exact b4, by rw [rF 5 (by decide) (by decide)]; exact b5, f1, fd, ⟨fun i hi => ?_, fun i k hi hk => ?_, fun t ht => ?_⟩, ex⟩
    · rw [tc, e4]; exact tb.1 i hi
    · rw [tj, e4, e5]; exact tb.2.1 i k hi hk
    · rw [e4, e5]; exact tb.2.2 t ht
  obtain ⟨r, er, r1, rF, rA, r4⟩ := step now ri
  have er0 : lp_run 20000 39 (Int32.ofNat m) 0 F A = some r := er
  refine ⟨r, er0, ⟨by rw [rF 2 (by decide) (by decide)]; exact j.1, by rw [rF 3 (by decide) (by decide)]; exact j.2.1, tk_of j.2.2.1 (fun k hk => rA k (by omega)), Or.inr ⟨f, keep r f ⟨b4, b5, f1, fd, tb, now, ri⟩ rF rA ⟨_, r4⟩⟩⟩, ?_⟩
  intro f' now' jb' ri' _
  obtain ⟨r', er', r1', rF', rA', r4'⟩ := step now' ri'
  have e : r' = r := Option.some.inj (er'.symm.trans er0)
  subst e
  exact ⟨r1', keep r' f' jb' rF' rA' ⟨_, r4'⟩, r4'⟩
section Law
variable {sl : Int32} {sv : Int32 → Int32} {c h : Nat}
abbrev JX (sl : Int32) (sv : Int32 → Int32) (F : Nat → Int32) (A : Nat → Int32 → Int32) (c h : Nat) : Prop := JD F A c h (pf sl sv) (ef sl sv c) (df sl sv)
theorem end_ok {F : Nat → Int32} {A : Nat → Int32 → Int32} (c4 : c ≤ 4) (h0 : 0 < h) (h24 : h ≤ 24) {r M : Nat} (r6 : r < 6) (j : JX sl sv F A c h) (go : ∀ (F : Nat → Int32) (A : Nat → Int32 → Int32), JX sl sv F A c h → ∀ m : Nat, M ≤ m → lp_L_law m 136 sl sv (Int32.ofNat c) (Int32.ofNat h) (Int32.ofNat (r + 1)) 0 0 0 0 0 0 0 0 0 0 0 0 0 F A = some 1) (n : Nat) (hn : M + 1 ≤ n) :
    (if (((14 : Int32) + ((2 : Int32) * (Int32.ofNat r))) < sl → ¬ ((14 : Int32) + ((2 : Int32) * (Int32.ofNat r))) < 0) ∧ ((en_run F A ((f_L_cell sl sv ((14 : Int32) + ((2 : Int32) * (Int32.ofNat r)))) &&& (63 : Int32))).isSome = true) then lp_L_law n 818 sl sv (Int32.ofNat c) (Int32.ofNat h) (Int32.ofNat r) 0 0 0 0 0 0 0 0 0 0 0 0 0 (R_run F A ((f_L_cell sl sv ((14 : Int32) + ((2 : Int32) * (Int32.ofNat r)))) &&& (63 : Int32))).2.1 (R_run F A ((f_L_cell sl sv ((14 : Int32) + ((2 : Int32) * (Int32.ofNat r)))) &&& (63 : Int32))).2.2 else none) = some 1 := by
  obtain ⟨n, rfl⟩ : ∃ z, n = z + 1 := ⟨n - 1, by omega⟩
  obtain ⟨x, hx⟩ := mask_fin (f_L_cell sl sv ((14 : Int32) + ((2 : Int32) * (Int32.ofNat r)))) 63 6 (by decide) (by decide)
  rw [hx]
  have xs := x.2
  have s := (o_rn c4 h0 (by omega) j (m := x.1) (by omega)).R (eR_run F A (Int32.ofNat x.1))
  rw [if_pos ⟨fun _ => nng 14 2 r (by omega), s.1⟩]
  have s2 := s.2.1
  generalize R_run F A (Int32.ofNat x.1) = q at *
  rw [lp_L_law_818, n1a]
  exact go _ _ s2 n (by omega)
theorem gtk {F : Nat → Int32} {A : Nat → Int32 → Int32} {t : Nat} (f3 : F 3 = Int32.ofNat h) (f4 : F 4 = 1) (h24 : h ≤ 24) (ht : t < h) : en_getTickTask F A (Int32.ofNat t) = some (A 4 (Int32.ofNat t)) ∧ en_getTickJob F A (Int32.ofNat t) = some (A 5 (Int32.ofNat t)) := by
  have t0 : ¬ Int32.ofNat t < 0 := nn (by omega)
  have t1 : Int32.ofNat t < 128 := (nlt (a := t) (b := 128) (by omega) (by omega)).2 (by omega)
  have v : f_validTick F (Int32.ofNat t) = 1 := by
    rw [e_validTick, f3, f4, if_neg (by decide), if_neg t0, if_pos ((nlt (by omega) (by omega)).2 ht), if_pos t1]; rfl
  refine ⟨?_, ?_⟩
  · rw [een_getTickTask, v, if_neg (by decide), if_pos ⟨t0, t1⟩]
  · rw [een_getTickJob, v, if_neg (by decide), if_pos ⟨t0, t1⟩]
/- counting loops -/
theorem l686 {F : Nat → Int32} {A : Nat → Int32 → Int32} {r f i k j M : Nat} {v10 v12 : Int32} (h24 : h ≤ 24) (f3 : F 3 = Int32.ofNat h) (f4 : F 4 = 1) (je : (j + 1) * f ≤ h) (j24 : j ≤ 24)
    (go : ∀ m : Nat, M ≤ m → lp_L_law m 667 sl sv (Int32.ofNat c) (Int32.ofNat h) (Int32.ofNat r) 0 0 0 (Int32.ofNat f) (Int32.ofNat i) v10 v12 (Int32.ofNat k) (Int32.ofNat (tj A i k ((j + 1) * f))) (Int32.ofNat (slc A i k f (j + 1))) (Int32.ofNat (j + 1)) 0 0 F A = some 1) : ∀ (q u n : Nat), u + q = f → M + q + 1 ≤ n → lp_L_law n 686 sl sv (Int32.ofNat c) (Int32.ofNat h) (Int32.ofNat r) 0 0 0 (Int32.ofNat f) (Int32.ofNat i) v10 v12 (Int32.ofNat k) (Int32.ofNat (tj A i k (j * f + u))) (Int32.ofNat (slc A i k f j)) (Int32.ofNat j) (if tj A i k (j * f) < tj A i k (j * f + u) then 1 else 0) (Int32.ofNat (j * f + u)) F A = some 1 := by
  have e1 : (j + 1) * f = j * f + f := Nat.succ_mul j f
  intro q
  induction q with
  | zero =>
    intro u n hu hn
    obtain ⟨n, rfl⟩ : ∃ z, n = z + 1 := ⟨n - 1, by omega⟩
    have : u = f := by omega
    subst this
    rw [lp_L_law_686, n1a, nmul, e1, if_neg (fun z => by have := (nlt (a := j * u + u) (b := j * u + u) (by omega) (by omega)).1 z; omega)]
    have g := go n (by omega)
    rw [e1, slc, e1] at g
    by_cases w : tj A i k (j * u) < tj A i k (j * u + u)
    · rw [if_pos w] at g
      simp only [if_pos w, show ((1 : Int32) = 0) = False by simp, if_false]
      rw [n1a]; exact g
    · rw [if_neg w] at g
      simp only [if_neg w, if_true]
      exact g
  | succ q ih =>
    intro u n hu hn
    obtain ⟨n, rfl⟩ : ∃ z, n = z + 1 := ⟨n - 1, by omega⟩
    have g := gtk (A := A) (t := j * f + u) f3 f4 h24 (by omega)
    have x := ih (u + 1) n (by omega) (by omega)
    have ts := tj_s A i k (j * f + u)
    have mono := tj_mono A i k (j * f) u
    rw [lp_L_law_686, n1a j, nmul (j + 1) f, if_pos ((nlt (by omega) (by omega)).2 (by omega)), g.1, g.2, if_pos ⟨rfl, fun _ => rfl⟩, r_of (eR_getTickTask F A _) g.1, r_of (eR_getTickJob F A _) g.2, n1a (j * f + u), n1a (tj A i k (j * f + u))]
    rw [show j * f + (u + 1) = j * f + u + 1 by omega, ts] at x
    by_cases a : A 4 (Int32.ofNat (j * f + u)) = Int32.ofNat i
    · by_cases b : A 5 (Int32.ofNat (j * f + u)) = Int32.ofNat k
      · rw [if_pos ⟨a, b⟩, if_pos (by omega)] at x
        simp only [if_pos a, if_pos b]; exact x
      · rw [if_neg (fun z => b z.2)] at x
        simp only [if_pos a, if_neg b]; exact x
    · rw [if_neg (fun z => a z.1)] at x
      simp only [if_neg a]; exact x
theorem l667 {F : Nat → Int32} {A : Nat → Int32 → Int32} {r f i k M : Nat} {v10 : Int32} {p e d : Nat → Nat} (c4 : c ≤ 4) (h0 : 0 < h) (h24 : h ≤ 24) (f2 : F 2 = Int32.ofNat c) (f3 : F 3 = Int32.ofNat h) (tk : TK A c h p e d) (b : JB F A c h p e d f) (ic : i < c) (kj : k < h / p i)
    (go : ∀ m : Nat, M ≤ m → lp_L_law m 649 sl sv (Int32.ofNat c) (Int32.ofNat h) (Int32.ofNat r) 0 0 0 (Int32.ofNat f) (Int32.ofNat i) v10 (Int32.ofNat (e i)) (Int32.ofNat (k + 1)) 0 0 0 0 0 F A = some 1) : ∀ (q j n : Nat), j + q = h / f → M + q * 26 + 1 ≤ n → lp_L_law n 667 sl sv (Int32.ofNat c) (Int32.ofNat h) (Int32.ofNat r) 0 0 0 (Int32.ofNat f) (Int32.ofNat i) v10 (Int32.ofNat (e i)) (Int32.ofNat k) (Int32.ofNat (tj A i k (j * f))) (Int32.ofNat (slc A i k f j)) (Int32.ofNat j) 0 0 F A = some 1 := by
  obtain ⟨f4, f5, f1, fd, tb, _⟩ := b
  have fh : f ≤ h := Nat.le_of_dvd h0 fd
  have hJ := Nat.div_mul_cancel fd
  have J24 : h / f ≤ 24 := Nat.le_trans (Nat.div_le_self h f) h24
  have z2 : ¬ Int32.ofNat f = 0 := fun z => by have := (nz (by omega)).1 z; omega
  have ti := tk i ic
  intro q
  induction q with
  | zero =>
    intro j n hj hn
    obtain ⟨n, rfl⟩ : ∃ z, n = z + 1 := ⟨n - 1, by omega⟩
    have ej : j = h / f := by omega
    have sc := e_sc f2 c4 f3 h24 f4 f5 f1 fd h0 tk ic kj
    have t1 := tb.2.1 i k ic kj
    have ts := tj_slc A i k f j
    have sl := slc_le A i k f j
    rw [ej, hJ, t1] at ts
    rw [ej] at sl
    rw [lp_L_law_667, if_pos z2, ndiv (by omega) (by omega), ej, if_neg (fun z => by have := (nlt (a := h / f) (b := h / f) (by omega) (by omega)).1 z; omega), hJ, t1, if_pos rfl, sc, ifS, r_of (eR_getSliceCount F A _ _) sc, if_pos rfl, if_pos z2, nadd, show (1 : Int32) = Int32.ofNat 1 from rfl, nsub (by omega), ndiv (by omega) (by omega), nadd, if_neg]
    · exact go n (by omega)
    · intro z
      have dl : (e i + f - 1) / f ≤ e i + f - 1 := Nat.div_le_self _ _
      have := (nlt (by omega) (by omega)).1 z
      have : (e i + f - 1) / f ≤ slc A i k f (h / f) := by
        apply Nat.le_of_lt_succ
        rw [Nat.div_lt_iff_lt_mul (by omega), Nat.succ_mul, Nat.mul_comm]
        omega
      omega
  | succ q ih =>
    intro j n hj hn
    obtain ⟨n, rfl⟩ : ∃ z, n = z + 1 := ⟨n - 1, by omega⟩
    have je : (j + 1) * f ≤ h := by
      have := Nat.mul_le_mul_right f (show j + 1 ≤ h / f by omega); omega
    rw [lp_L_law_667, if_pos z2, ndiv (by omega) (by omega), if_pos ((nlt (by omega) (by omega)).2 (by omega)), nmul]
    have x := l686 (c := c) (sl := sl) (sv := sv) (r := r) (A := A) (i := i) (k := k) (M := M + q * 26 + 1) (v10 := v10) (v12 := Int32.ofNat (e i)) h24 f3 f4 je (by omega) (fun m hm => ih (j + 1) m (by omega) hm) f 0 n (by omega) (by omega)
    rw [Nat.add_zero, if_neg (by omega)] at x
    exact x
theorem l649 {F : Nat → Int32} {A : Nat → Int32 → Int32} {r f i M : Nat} {p e d : Nat → Nat} (c4 : c ≤ 4) (h0 : 0 < h) (h24 : h ≤ 24) (f2 : F 2 = Int32.ofNat c) (f3 : F 3 = Int32.ofNat h) (tk : TK A c h p e d) (b : JB F A c h p e d f) (ic : i < c)
    (go : ∀ m : Nat, M ≤ m → lp_L_law m 590 sl sv (Int32.ofNat c) (Int32.ofNat h) (Int32.ofNat r) 0 0 0 (Int32.ofNat f) (Int32.ofNat (i + 1)) 0 0 0 0 0 0 0 0 F A = some 1) : ∀ (q k n : Nat), k + q = h / p i → M + q * 700 + 1 ≤ n → lp_L_law n 649 sl sv (Int32.ofNat c) (Int32.ofNat h) (Int32.ofNat r) 0 0 0 (Int32.ofNat f) (Int32.ofNat i) (Int32.ofNat (p i)) (Int32.ofNat (e i)) (Int32.ofNat k) 0 0 0 0 0 F A = some 1 := by
  have ti := tk i ic
  have J := jb (p := p i) (show h ≤ 60 by omega)
  have z3 : ¬ Int32.ofNat (p i) = 0 := fun z => by have := (nz (by omega)).1 z; omega
  have J24 : h / f ≤ 24 := Nat.le_trans (Nat.div_le_self h f) h24
  intro q
  induction q with
  | zero =>
    intro k n hk hn
    obtain ⟨n, rfl⟩ : ∃ z, n = z + 1 := ⟨n - 1, by omega⟩
    rw [lp_L_law_649, if_pos z3, ndiv (by omega) (by omega), if_neg (fun z => by have := (nlt (by omega) (by omega)).1 z; omega), n1a]
    exact go n (by omega)
  | succ q ih =>
    intro k n hk hn
    obtain ⟨n, rfl⟩ : ∃ z, n = z + 1 := ⟨n - 1, by omega⟩
    rw [lp_L_law_649, if_pos z3, ndiv (by omega) (by omega), if_pos ((nlt (by omega) (by omega)).2 (by omega))]
    have x := l667 (sl := sl) (sv := sv) (r := r) (k := k) (M := M + q * 700 + 1) (v10 := Int32.ofNat (p i)) c4 h0 h24 f2 f3 tk b ic (by omega) (fun m hm => ih (k + 1) m (by omega) hm) (h / f) 0 n (by omega) (by omega)
    rw [Nat.zero_mul] at x
    exact x
theorem l590 {F : Nat → Int32} {A : Nat → Int32 → Int32} {r f M : Nat} (c1 : 1 ≤ c) (c4 : c ≤ 4) (h0 : 0 < h) (h24 : h ≤ 24) (r6 : r < 6) (j : JX sl sv F A c h) (b : JB F A c h (pf sl sv) (ef sl sv c) (df sl sv) f)
    (go : ∀ (F : Nat → Int32) (A : Nat → Int32 → Int32), JX sl sv F A c h → ∀ m : Nat, M ≤ m → lp_L_law m 136 sl sv (Int32.ofNat c) (Int32.ofNat h) (Int32.ofNat (r + 1)) 0 0 0 0 0 0 0 0 0 0 0 0 0 F A = some 1) : ∀ (q i n : Nat), i + q = c → M + 2 + q * 9000 ≤ n → lp_L_law n 590 sl sv (Int32.ofNat c) (Int32.ofNat h) (Int32.ofNat r) 0 0 0 (Int32.ofNat f) (Int32.ofNat i) 0 0 0 0 0 0 0 0 F A = some 1 := by
  intro q
  induction q with
  | zero =>
    intro i n hi hn
    obtain ⟨n, rfl⟩ : ∃ z, n = z + 1 := ⟨n - 1, by omega⟩
    rw [lp_L_law_590, if_neg (fun z => by have := (nlt (by omega) (by omega)).1 z; omega)]
    exact end_ok c4 h0 h24 r6 j go n (by omega)
  | succ q ih =>
    intro i n hi hn
    obtain ⟨n, rfl⟩ : ∃ z, n = z + 1 := ⟨n - 1, by omega⟩
    obtain ⟨⟨hp, hd, he⟩, _, p212, ed, nw⟩ := pde sl sv c1 c4 i
    have J : h / pf sl sv i ≤ 12 := by
      have a : h / pf sl sv i ≤ h / 2 := Nat.div_le_div_left p212.1 (by omega)
      omega
    have n2 : ¬ (Int32.ofNat (pf sl sv i) + 1) / 2 = 0 := by
      rw [n1a, show (2 : Int32) = Int32.ofNat 2 from rfl, ndiv (by omega) (by omega)]
      exact fun z => by have := (nz (by omega)).1 z; omega
    rw [lp_L_law_590, if_pos ((nlt (by omega) (by omega)).2 (by omega)), he, hd, hp, if_pos ⟨fun _ => nng 1 3 i (by omega), fun _ => nng 2 3 i (by omega), n2, fun _ => nng 3 3 i (by omega), fun z => by have := (nz (by omega)).1 z; omega, nw⟩]
    exact l649 (sl := sl) (sv := sv) (r := r) (M := M + 2 + q * 9000) c4 h0 h24 j.1 j.2.1 j.2.2.1 b (by omega) (fun m hm => ih (i + 1) m (by omega) hm) (h / pf sl sv i) 0 n (by omega) (by omega)
end Law
section Law
variable {sl : Int32} {sv : Int32 → Int32} {c h : Nat}
theorem nm1 {i : Nat} (h : i < 2147483648) : ¬ Int32.ofNat i = -1 := fun z => by
  have := nn (a := i) h; rw [z] at this; exact this (by decide)
theorem l402 {F : Nat → Int32} {A : Nat → Int32 → Int32} {r f M : Nat} (c1 : 1 ≤ c) (c4 : c ≤ 4) (h0 : 0 < h) (h24 : h ≤ 24) (j : JX sl sv F A c h) (b : JB F A c h (pf sl sv) (ef sl sv c) (df sl sv) f)
    (go : ∀ m : Nat, M ≤ m → lp_L_law m 590 sl sv (Int32.ofNat c) (Int32.ofNat h) (Int32.ofNat r) 0 0 0 (Int32.ofNat f) 0 0 0 0 0 0 0 0 0 F A = some 1) : ∀ (q t n : Nat), t + q = h → M + q + 1 ≤ n → lp_L_law n 402 sl sv (Int32.ofNat c) (Int32.ofNat h) (Int32.ofNat r) 0 0 0 (Int32.ofNat f) (Int32.ofNat t) 0 0 0 0 0 0 0 0 F A = some 1 := by
  obtain ⟨f4, f5, f1, fd, tb, _⟩ := b
  have fh : f ≤ h := Nat.le_of_dvd h0 fd
  have z2 : ¬ Int32.ofNat f = 0 := fun z => by have := (nz (by omega)).1 z; omega
  intro q
  induction q with
  | zero =>
    intro t n ht hn
    obtain ⟨n, rfl⟩ : ∃ z, n = z + 1 := ⟨n - 1, by omega⟩
    rw [lp_L_law_402, if_neg (fun z => by have := (nlt (by omega) (by omega)).1 z; omega)]
    exact go n (by omega)
  | succ q ih =>
    intro t n ht hn
    obtain ⟨n, rfl⟩ : ∃ z, n = z + 1 := ⟨n - 1, by omega⟩
    have g := gtk (A := A) (t := t) j.2.1 f4 h24 (by omega)
    have x := ih (t + 1) n (by omega) (by omega)
    rw [lp_L_law_402, if_pos ((nlt (by omega) (by omega)).2 (by omega)), g.1, g.2, if_pos ⟨rfl, rfl⟩, r_of (eR_getTickTask F A _) g.1, r_of (eR_getTickJob F A _) g.2, n1a t, x]
    rcases tb.2.2 t (by omega) with ⟨a, b⟩ | ⟨i, k, ic, kj, a, b, kp, kd⟩
    · rw [a, b, if_pos rfl, if_pos rfl]
    · obtain ⟨⟨hp, hd, he⟩, _, p212, ed, nw⟩ := pde sl sv c1 c4 i
      have J := jb (p := pf sl sv i) (show h ≤ 60 by omega)
      have n2 : ¬ (Int32.ofNat (pf sl sv i) + 1) / 2 = 0 := by
        rw [n1a, show (2 : Int32) = Int32.ofNat 2 from rfl, ndiv (by omega) (by omega)]
        exact fun z => by have := (nz (by omega)).1 z; omega
      have pz : ¬ Int32.ofNat (pf sl sv i) = 0 := fun z => by have := (nz (by omega)).1 z; omega
      have tf : t / f * f ≤ t := Nat.div_mul_le_self t f
      have tl : t < (t / f + 1) * f := Nat.lt_mul_of_div_lt (Nat.lt_succ_self _) (by omega)
      have tfl : t / f ≤ t := Nat.div_le_self t f
      rw [a, b, if_neg (nm1 (by omega)), if_neg (nm1 (by omega)), if_pos rfl, if_neg (nm1 (by omega)), if_neg (nn (by omega)), if_pos ((nlt (by omega) (by omega)).2 ic), hd, hp, if_pos ⟨fun _ => nng 1 3 i (by omega), fun _ => nng 2 3 i (by omega), n2⟩, if_neg (nn (by omega)), if_pos pz, ndiv (a := h) (by omega) (by omega), if_pos ((nlt (by omega) (by omega)).2 kj), nmul k, nadd (k * pf sl sv i), ndiv (a := t) (by omega) (by omega), n1a (t / f), nmul (t / f), nmul (t / f + 1)]
      rw [if_neg (fun z => by have := (nlt (by omega) (by omega)).1 z; omega), if_pos ((nlt (by omega) (by omega)).2 (by omega)), if_pos z2, if_neg (fun z => by have := (nlt (by omega) (by omega)).1 z; omega), if_neg (fun z => by have := (nlt (by omega) (by omega)).1 z; omega)]
/-- behind the check of the runs: the table, or the end -/
theorem tail {F : Nat → Int32} {A : Nat → Int32 → Int32} {r M : Nat} (c1 : 1 ≤ c) (c4 : c ≤ 4) (h0 : 0 < h) (h24 : h ≤ 24) (r6 : r < 6) (j : JX sl sv F A c h)
    (go : ∀ (F : Nat → Int32) (A : Nat → Int32 → Int32), JX sl sv F A c h → ∀ m : Nat, M ≤ m → lp_L_law m 136 sl sv (Int32.ofNat c) (Int32.ofNat h) (Int32.ofNat (r + 1)) 0 0 0 0 0 0 0 0 0 0 0 0 0 F A = some 1) (n : Nat) (hn : M + 36100 ≤ n) :
    (if 0 < (f_getFrame F) then lp_L_law n 402 sl sv (Int32.ofNat c) (Int32.ofNat h) (Int32.ofNat r) 0 0 0 (f_getFrame F) (0 : Int32) 0 0 0 0 0 0 0 0 F A else (if (((14 : Int32) + ((2 : Int32) * (Int32.ofNat r))) < sl → ¬ ((14 : Int32) + ((2 : Int32) * (Int32.ofNat r))) < 0) ∧ ((en_run F A ((f_L_cell sl sv ((14 : Int32) + ((2 : Int32) * (Int32.ofNat r)))) &&& (63 : Int32))).isSome = true) then lp_L_law n 818 sl sv (Int32.ofNat c) (Int32.ofNat h) (Int32.ofNat r) 0 0 0 0 0 0 0 0 0 0 0 0 0 (R_run F A ((f_L_cell sl sv ((14 : Int32) + ((2 : Int32) * (Int32.ofNat r)))) &&& (63 : Int32))).2.1 (R_run F A ((f_L_cell sl sv ((14 : Int32) + ((2 : Int32) * (Int32.ofNat r)))) &&& (63 : Int32))).2.2 else none)) = some 1 := by
  rcases j.2.2.2 with f4 | ⟨f, b⟩
  · rw [e_getFrame, f4, if_pos rfl, if_neg (by decide)]
    exact end_ok c4 h0 h24 r6 j go n (by omega)
  · have f1 := b.2.2.1
    have fh : f ≤ h := Nat.le_of_dvd h0 b.2.2.2.1
    have e : f_getFrame F = Int32.ofNat f := by rw [e_getFrame, b.1, if_neg (by decide), b.2.1]
    rw [e, if_pos (show 0 < Int32.ofNat f from (nlt (a := 0) (b := f) (by omega) (by omega)).2 (by omega))]
    exact l402 c1 c4 h0 h24 j b (M := M + 2 + c * 9000) (fun m hm => l590 c1 c4 h0 h24 r6 j b go c 0 m (by omega) hm) h 0 n (by omega) (by omega)
theorem l308 {F : Nat → Int32} {A : Nat → Int32 → Int32} {r f M : Nat} (c1 : 1 ≤ c) (c4 : c ≤ 4) (h0 : 0 < h) (h24 : h ≤ 24) (r6 : r < 6) (j : JX sl sv F A c h) (b : JB F A c h (pf sl sv) (ef sl sv c) (df sl sv) f) (ri : RI F A c h (fun i => ef sl sv c i * (h / pf sl sv i)) (0 + h))
    (go : ∀ (F : Nat → Int32) (A : Nat → Int32 → Int32), JX sl sv F A c h → ∀ m : Nat, M ≤ m → lp_L_law m 136 sl sv (Int32.ofNat c) (Int32.ofNat h) (Int32.ofNat (r + 1)) 0 0 0 0 0 0 0 0 0 0 0 0 0 F A = some 1) : ∀ (q i n : Nat), i + q = c → M + 36101 + q ≤ n → lp_L_law n 308 sl sv (Int32.ofNat c) (Int32.ofNat h) (Int32.ofNat r) 0 0 0 (Int32.ofNat i) 0 0 0 0 0 0 0 0 0 F A = some 1 := by
  intro q
  induction q with
  | zero =>
    intro i n hi hn
    obtain ⟨n, rfl⟩ : ∃ z, n = z + 1 := ⟨n - 1, by omega⟩
    rw [lp_L_law_308, if_neg (fun z => by have := (nlt (by omega) (by omega)).1 z; omega)]
    exact tail c1 c4 h0 h24 r6 j go n (by omega)
  | succ q ih =>
    intro i n hi hn
    obtain ⟨n, rfl⟩ : ∃ z, n = z + 1 := ⟨n - 1, by omega⟩
    have ic : i < c := by omega
    obtain ⟨⟨hp, hd, he⟩, _, p212, ed, nw⟩ := pde sl sv c1 c4 i
    have n2 : ¬ (Int32.ofNat (pf sl sv i) + 1) / 2 = 0 := by
      rw [n1a, show (2 : Int32) = Int32.ofNat 2 from rfl, ndiv (by omega) (by omega)]
      exact fun z => by have := (nz (by omega)).1 z; omega
    have pz : ¬ Int32.ofNat (pf sl sv i) = 0 := fun z => by have := (nz (by omega)).1 z; omega
    have rt := e_rt (A := A) j.1 c4 ic
    have a3 : A 3 (Int32.ofNat i) = Int32.ofNat (ef sl sv c i * (h / pf sl sv i)) := by
      have x := ri.2.2 i ic
      have z : tc A i 0 = 0 := rfl
      rw [Nat.zero_add, Nat.div_self h0, Nat.mod_self, z, Nat.one_mul, Nat.add_zero] at x
      exact x
    rw [lp_L_law_308, if_pos ((nlt (by omega) (by omega)).2 ic), he, hd, hp, rt, if_pos ⟨fun _ => nng 1 3 i (by omega), fun _ => nng 2 3 i (by omega), n2, fun _ => nng 3 3 i (by omega), fun z => by have := (nz (by omega)).1 z; omega, nw, rfl, pz⟩, r_of (eR_getRunTicks F A _) rt, a3, ndiv (a := h) (by omega) (by omega), nmul, if_pos rfl, n1a]
    exact ih (i + 1) n (by omega) (by omega)
theorem b268 {F : Nat → Int32} {A : Nat → Int32 → Int32} {r f M : Nat} (c1 : 1 ≤ c) (c4 : c ≤ 4) (h0 : 0 < h) (h24 : h ≤ 24) (r6 : r < 6) (f24 : f ≤ 24) (j : JX sl sv F A c h)
    (go : ∀ (F : Nat → Int32) (A : Nat → Int32 → Int32), JX sl sv F A c h → ∀ m : Nat, M ≤ m → lp_L_law m 136 sl sv (Int32.ofNat c) (Int32.ofNat h) (Int32.ofNat (r + 1)) 0 0 0 0 0 0 0 0 0 0 0 0 0 F A = some 1) (n : Nat) (hn : M + 36200 ≤ n) :
    (en_build F A (Int32.ofNat f)).isSome = true ∧ lp_L_law n 268 sl sv (Int32.ofNat c) (Int32.ofNat h) (Int32.ofNat r) 0 (Int32.ofNat f) (R_build F A (Int32.ofNat f)).1 0 0 0 0 0 0 0 0 0 0 (R_build F A (Int32.ofNat f)).2.1 (R_build F A (Int32.ofNat f)).2.2 = some 1 := by
  obtain ⟨n, rfl⟩ : ∃ z, n = z + 3 := ⟨n - 3, by omega⟩
  have s' := (o_bd j.1 c4 (by omega) j.2.1 (by omega) f24 j.2.2.1).R (eR_build F A (Int32.ofNat f))
  refine ⟨s'.1, ?_⟩
  have s2 : (¬ (R_build F A (Int32.ofNat f)).1 = 0 ∧ (R_build F A (Int32.ofNat f)).2 = (F, A)) ∨ (1 ≤ f ∧ f ∣ h ∧ BP F A c h f (pf sl sv) (ef sl sv c) (df sl sv) (R_build F A (Int32.ofNat f))) := s'.2
  clear s'
  generalize R_build F A (Int32.ofNat f) = q at *
  rw [lp_L_law_268]
  rcases s2 with ⟨nz', e⟩ | ⟨f1, fd, ra, r3, ⟨r0, rF, ht, hj, tw⟩ | ⟨r0, i, k, ic, kj, rF⟩⟩
  · rw [if_neg nz', e]
    exact tail c1 c4 h0 h24 r6 j go (n + 2) (by omega)
  · have ri0 : RI q.2.1 q.2.2 c h (fun i => ef sl sv c i * (h / pf sl sv i)) 0 := by
      refine ⟨by rw [rF]; simp [ups], by rw [rF]; simp [ups], fun i hi => ?_⟩
      rw [r3 i (by omega)]
      have : tc q.2.2 i 0 = 0 := rfl
      rw [Nat.zero_div, Nat.zero_mul, Nat.zero_mod, this]; rfl
    have b : JB q.2.1 q.2.2 c h (pf sl sv) (ef sl sv c) (df sl sv) f := ⟨by rw [rF]; simp [ups], by rw [rF]; simp [ups], f1, fd, ⟨ht, hj, tw⟩, 0, ri0⟩
    have j' : JX sl sv q.2.1 q.2.2 c h := ⟨by rw [rF]; simp [ups, j.1], by rw [rF]; simp [ups, j.2.1], tk_of j.2.2.1 ra, Or.inr ⟨f, b⟩⟩
    have e : f_getFrame q.2.1 = Int32.ofNat f := by rw [e_getFrame, b.1, if_neg (by decide), b.2.1]
    have s := (o_rn c4 h0 (by omega) j' (m := h) (by omega)).R (eR_run q.2.1 q.2.2 (Int32.ofNat h))
    rw [if_pos r0, if_pos e, if_pos s.1]
    have s2 := s.2
    generalize R_run q.2.1 q.2.2 (Int32.ofNat h) = w at *
    have y := s2.2 f 0 b ri0 h0
    rw [if_pos y.1, lp_L_law_295, e_getNow, y.2.2.1, Nat.zero_add, if_pos rfl]
    have z := l308 c1 c4 h0 h24 r6 s2.1 y.2.1 y.2.2 go c 0 (n + 1) (by omega) (by omega)
    exact z
  · have j' : JX sl sv q.2.1 q.2.2 c h := ⟨by rw [rF]; simp [ups, j.1], by rw [rF]; simp [ups, j.2.1], tk_of j.2.2.1 ra, Or.inl (by rw [rF]; simp [ups])⟩
    rw [if_neg (by rw [r0]; decide)]
    exact tail c1 c4 h0 h24 r6 j' go (n + 2) (by omega)
theorem l227 {F : Nat → Int32} {A : Nat → Int32 → Int32} {r M : Nat} (c1 : 1 ≤ c) (c4 : c ≤ 4) (h0 : 0 < h) (h24 : h ≤ 24) (r6 : r < 6) (j : JX sl sv F A c h)
    (go : ∀ (F : Nat → Int32) (A : Nat → Int32 → Int32), JX sl sv F A c h → ∀ m : Nat, M ≤ m → lp_L_law m 136 sl sv (Int32.ofNat c) (Int32.ofNat h) (Int32.ofNat (r + 1)) 0 0 0 0 0 0 0 0 0 0 0 0 0 F A = some 1) : ∀ (q x f n : Nat) (v8 v9 : Int32), 1 ≤ x → x + q = h + 1 → f ≤ 24 → M + 36201 + q ≤ n → lp_L_law n 227 sl sv (Int32.ofNat c) (Int32.ofNat h) (Int32.ofNat r) 0 (Int32.ofNat f) 0 v8 v9 (Int32.ofNat x) 0 0 0 0 0 0 0 F A = some 1 := by
  intro q
  induction q with
  | zero =>
    intro x f n v8 v9 x1 hx f24 hn
    obtain ⟨n, rfl⟩ : ∃ z, n = z + 1 := ⟨n - 1, by omega⟩
    have b := b268 c1 c4 h0 h24 r6 f24 j go n (by omega)
    rw [lp_L_law_227, if_pos ((nlt (by omega) (by omega)).2 (by omega)), if_pos b.1]
    exact b.2
  | succ q ih =>
    intro x f n v8 v9 x1 hx f24 hn
    obtain ⟨n, rfl⟩ : ∃ z, n = z + 1 := ⟨n - 1, by omega⟩
    have xz : ¬ Int32.ofNat x = 0 := fun z => by have := (nz (by omega)).1 z; omega
    rw [lp_L_law_227, if_neg (fun z => by have := (nlt (by omega) (by omega)).1 z; omega), if_pos xz, n1a]
    have ex : ∃ f' : Nat, f' ≤ 24 ∧ (if (Int32.ofNat h % Int32.ofNat x) = 0 then (if v9 = v8 then Int32.ofNat x else Int32.ofNat f) else Int32.ofNat f) = Int32.ofNat f' := by
      split
      · split
        · exact ⟨x, by omega, rfl⟩
        · exact ⟨f, f24, rfl⟩
      · exact ⟨f, f24, rfl⟩
    obtain ⟨f', hf, ef'⟩ := ex
    rw [ef']
    exact ih (x + 1) f' n _ _ (by omega) (by omega) hf (by omega)
theorem l190 {F : Nat → Int32} {A : Nat → Int32 → Int32} {r M : Nat} {v5 : Int32} (c1 : 1 ≤ c) (c4 : c ≤ 4) (h0 : 0 < h) (h24 : h ≤ 24) (r6 : r < 6) (j : JX sl sv F A c h)
    (go : ∀ (F : Nat → Int32) (A : Nat → Int32 → Int32), JX sl sv F A c h → ∀ m : Nat, M ≤ m → lp_L_law m 136 sl sv (Int32.ofNat c) (Int32.ofNat h) (Int32.ofNat (r + 1)) 0 0 0 0 0 0 0 0 0 0 0 0 0 F A = some 1) : ∀ (q x a n : Nat), 1 ≤ x → x + q = h + 1 → (2 ≤ x → 1 ≤ a) → a ≤ x → M + 36300 + q ≤ n → lp_L_law n 190 sl sv (Int32.ofNat c) (Int32.ofNat h) (Int32.ofNat r) v5 0 (Int32.ofNat a) (Int32.ofNat x) 0 0 0 0 0 0 0 0 0 F A = some 1 := by
  intro q
  induction q with
  | zero =>
    intro x a n x1 hx ha ax hn
    obtain ⟨n, rfl⟩ : ∃ z, n = z + 1 := ⟨n - 1, by omega⟩
    have a1 := ha (by omega)
    have az : ¬ Int32.ofNat a = 0 := fun z => by have := (nz (by omega)).1 z; omega
    rw [lp_L_law_190, if_pos ((nlt (by omega) (by omega)).2 (by omega)), if_pos az]
    exact l227 c1 c4 h0 h24 r6 j go h 1 0 n _ _ (by omega) (by omega) (by omega) (by omega)
  | succ q ih =>
    intro x a n x1 hx ha ax hn
    obtain ⟨n, rfl⟩ : ∃ z, n = z + 1 := ⟨n - 1, by omega⟩
    have xz : ¬ Int32.ofNat x = 0 := fun z => by have := (nz (by omega)).1 z; omega
    rw [lp_L_law_190, if_neg (fun z => by have := (nlt (by omega) (by omega)).1 z; omega), if_pos xz, n1a x, n1a a, nmod (by omega) (by omega)]
    have ml : h % x ≤ h := Nat.mod_le h x
    by_cases w : h % x = 0
    · rw [if_pos ((nz (by omega)).2 w)]
      exact ih (x + 1) (a + 1) n (by omega) (by omega) (fun _ => by omega) (by omega) (by omega)
    · rw [if_neg (fun z => w ((nz (by omega)).1 z))]
      refine ih (x + 1) a n (by omega) (by omega) (fun _ => ha ?_) (by omega) (by omega)
      by_cases y : x = 1
      · subst y; exact absurd (Nat.mod_one h) w
      · omega
theorem fu36 {q n h : Nat} (h24 : h ≤ 24) (hn : (q + 1) * 40000 + 1 ≤ n + 1) : q * 40000 + 1 + 36300 + h ≤ n ∧ q * 40000 + 1 + 36200 ≤ n := by
  rw [Nat.succ_mul] at hn
  generalize q * 40000 = Z at *
  omega
theorem l136 (c1 : 1 ≤ c) (c4 : c ≤ 4) (h0 : 0 < h) (h24 : h ≤ 24) : ∀ (q r : Nat) (F : Nat → Int32) (A : Nat → Int32 → Int32), r + q = 6 → JX sl sv F A c h → ∀ n : Nat, q * 40000 + 1 ≤ n → lp_L_law n 136 sl sv (Int32.ofNat c) (Int32.ofNat h) (Int32.ofNat r) 0 0 0 0 0 0 0 0 0 0 0 0 0 F A = some 1 := by
  intro q
  induction q with
  | zero =>
    intro r F A hr j n hn
    obtain ⟨n, rfl⟩ : ∃ z, n = z + 1 := ⟨n - 1, by omega⟩
    have : r = 6 := by omega
    subst this
    rw [lp_L_law_136, if_neg (by decide)]
  | succ q ih =>
    intro r F A hr j n hn
    obtain ⟨n, rfl⟩ : ∃ z, n = z + 1 := ⟨n - 1, by omega⟩
    have go : ∀ (F : Nat → Int32) (A : Nat → Int32 → Int32), JX sl sv F A c h → ∀ m : Nat, q * 40000 + 1 ≤ m → lp_L_law m 136 sl sv (Int32.ofNat c) (Int32.ofNat h) (Int32.ofNat (r + 1)) 0 0 0 0 0 0 0 0 0 0 0 0 0 F A = some 1 := fun F A j m hm => ih (r + 1) F A (by omega) j m hm
    clear ih
    obtain ⟨s, hs⟩ := mask_fin (f_L_cell sl sv ((13 : Int32) + ((2 : Int32) * (Int32.ofNat r)))) 32767 15 (by decide) (by decide)
    have ss := s.2
    rw [lp_L_law_136, if_pos (show Int32.ofNat r < 6 from (nlt (a := r) (b := 6) (by omega) (by omega)).2 (by omega)), if_pos (show (13 : Int32) + 2 * Int32.ofNat r < sl → ¬ (13 : Int32) + 2 * Int32.ofNat r < 0 from fun _ => nng 13 2 r (by omega)), hs]
    have hz : ¬ Int32.ofNat h = 0 := fun z => by have := (nz (by omega)).1 z; omega
    have fu := fu36 h24 hn
    have r6 : r < 6 := by omega
    by_cases w : Int32.ofNat s.1 % 5 = 4
    · have ml := Nat.mod_lt (s.1 / 5) h0
      have e : (1 : Int32) + Int32.ofNat s.1 / 5 % Int32.ofNat h = Int32.ofNat (1 + s.1 / 5 % h) := by
        rw [show (5 : Int32) = Int32.ofNat 5 from rfl, ndiv (by omega) (by omega), nmod (by omega) (by omega), show (1 : Int32) = Int32.ofNat 1 from rfl, nadd]
      rw [if_pos w, e]
      have b := b268 c1 c4 h0 h24 r6 (f := 1 + s.1 / 5 % h) (by omega) j go n fu.2
      rw [if_pos ⟨hz, b.1⟩]; exact b.2
    · rw [if_neg w]
      have x := l190 (M := q * 40000 + 1) (v5 := Int32.ofNat s.1) c1 c4 h0 h24 r6 j go h 1 0 n (Nat.le_refl _) (Nat.add_comm 1 h) (fun z => absurd z (by decide)) (by decide) fu.1
      exact x
/- the tasks -/
abbrev JT (sl : Int32) (sv : Int32 → Int32) (F : Nat → Int32) (A : Nat → Int32 → Int32) (c i h : Nat) : Prop := (F 0 = 8 ∧ F 1 = 128) ∧ F 2 = Int32.ofNat i ∧ F 4 = 0 ∧ (if F 2 = 0 then (1 : Int32) else F 3) = Int32.ofNat h ∧ TK A i h (pf sl sv) (ef sl sv c) (df sl sv) ∧ h ∣ 24
theorem o_ad {F : Nat → Int32} {A : Nat → Int32 → Int32} {i : Nat} (c1 : 1 ≤ c) (c4 : c ≤ 4) (ic : i < c) (j : JT sl sv F A c i h) : Ok (en_addTask F A (Int32.ofNat (pf sl sv i)) (Int32.ofNat (ef sl sv c i)) (Int32.ofNat (df sl sv i))) (fun r => r.1 = Int32.ofNat i ∧ JT sl sv r.2.1 r.2.2 c (i + 1) (lc h (pf sl sv i))) := by
  obtain ⟨⟨f0, f1⟩, f2, f4, f3, tk, hd⟩ := j
  obtain ⟨_, p24, p212, ed, _⟩ := pde sl sv c1 c4 i
  have h24 : h ≤ 24 := Nat.le_of_dvd (by omega) hd
  have hp : 0 < h := Nat.pos_of_dvd_of_pos hd (by omega)
  have ld : lc h (pf sl sv i) ∣ 24 := lc_dvd hd p24
  have l24 : lc h (pf sl sv i) ≤ 24 := Nat.le_of_dvd (by omega) ld
  have nl : ∀ a b : Nat, a < 2147483648 → b < 2147483648 → ¬ a < b → ¬ Int32.ofNat a < Int32.ofNat b := fun a b ha hb h z => h ((nlt ha hb).1 z)
  have lcm := e_lc (a := h) (b := pf sl sv i) (by omega) (by omega) (by omega)
  generalize hP : pf sl sv i = P at *
  generalize hE : ef sl sv c i = E at *
  generalize hD : df sl sv i = D at *
  rw [een_addTask, if_neg (show ¬ Int32.ofNat P < 1 from nl P 1 (by omega) (by omega) (by omega)), if_neg (show ¬ 128 < Int32.ofNat P from nl 128 P (by omega) (by omega) (by omega)), if_neg (show ¬ Int32.ofNat D < 1 from nl D 1 (by omega) (by omega) (by omega)), if_neg (nl P D (by omega) (by omega) (by omega)), if_neg (show ¬ Int32.ofNat E < 1 from nl E 1 (by omega) (by omega) (by omega)), if_neg (nl D E (by omega) (by omega) (by omega)), f3, lcm, ifS, r_of (eR_lcm _ _) lcm, f2, f0, f1, n1a, if_pos (show Int32.ofNat i < 8 from (nlt (a := i) (b := 8) (by omega) (by omega)).2 (by omega)), if_neg (show ¬ 128 < Int32.ofNat (lc h P) from nl 128 _ (by omega) (by omega) (by omega))]
  have s' := (o_rd (ups (ups (ups (ups (ups F 2 (Int32.ofNat (i + 1))) 3 (Int32.ofNat (lc h P))) 4 0) 5 0) 6 (-1)) (ups (ups (ups A 0 (ups (A 0) (Int32.ofNat i) (Int32.ofNat P))) 1 (ups (A 1) (Int32.ofNat i) (Int32.ofNat E))) 2 (ups (A 2) (Int32.ofNat i) (Int32.ofNat D)))).R (eR_resetDispatcher _ _)
  have s1 := s'.1
  have s2 : RD _ _ (R_resetDispatcher (ups (ups (ups (ups (ups F 2 (Int32.ofNat (i + 1))) 3 (Int32.ofNat (lc h P))) 4 0) 5 0) 6 (-1)) (ups (ups (ups A 0 (ups (A 0) (Int32.ofNat i) (Int32.ofNat P))) 1 (ups (A 1) (Int32.ofNat i) (Int32.ofNat E))) 2 (ups (A 2) (Int32.ofNat i) (Int32.ofNat D)))) := s'.2
  clear s'
  refine Ok.ift ⟨nn (by omega), (nlt (a := i) (b := 8) (by omega) (by omega)).2 (by omega), s1⟩ ?_
  generalize R_resetDispatcher (ups (ups (ups (ups (ups F 2 (Int32.ofNat (i + 1))) 3 (Int32.ofNat (lc h P))) 4 0) 5 0) 6 (-1)) (ups (ups (ups A 0 (ups (A 0) (Int32.ofNat i) (Int32.ofNat P))) 1 (ups (A 1) (Int32.ofNat i) (Int32.ofNat E))) 2 (ups (A 2) (Int32.ofNat i) (Int32.ofNat D))) = r at *
  obtain ⟨eF, eA, _⟩ := s2
  have a0 : r.2.2 0 = ups (A 0) (Int32.ofNat i) (Int32.ofNat P) := by rw [eA 0 (by decide), ups_ne _ _ (by decide), ups_ne _ _ (by decide), ups_at]
  have a1 : r.2.2 1 = ups (A 1) (Int32.ofNat i) (Int32.ofNat E) := by rw [eA 1 (by decide), ups_ne _ _ (by decide), ups_at]
  have a2 : r.2.2 2 = ups (A 2) (Int32.ofNat i) (Int32.ofNat D) := by rw [eA 2 (by decide), ups_at]
  have iz : ¬ Int32.ofNat (i + 1) = 0 := fun z => by have := (nz (by omega)).1 z; omega
  have e2 : r.2.1 2 = Int32.ofNat (i + 1) := by rw [eF]; simp [ups]
  refine Ok.ret ⟨rfl, ⟨⟨by rw [eF]; simp [ups, f0], by rw [eF]; simp [ups, f1]⟩, e2, by rw [eF]; simp [ups], by dsimp only; rw [e2, if_neg iz, eF]; simp [ups], fun i' hi => ?_, ld⟩⟩
  dsimp only
  rw [a0, a1, a2]
  by_cases q : i' = i
  · subst q
    rw [ups_at, ups_at, ups_at, hP, hE, hD]
    exact ⟨rfl, rfl, rfl, by omega, lc_r, by omega⟩
  · have ne : ¬ Int32.ofNat i' = Int32.ofNat i := fun z => q (nj (by omega) (by omega) z)
    have ti := tk i' (by omega)
    rw [ups_ne _ _ ne, ups_ne _ _ ne, ups_ne _ _ ne]
    exact ⟨ti.1, ti.2.1, ti.2.2.1, ti.2.2.2.1, Nat.dvd_trans ti.2.2.2.2.1 lc_l, ti.2.2.2.2.2⟩
theorem l32 (c1 : 1 ≤ c) (c4 : c ≤ 4) : ∀ (q i h : Nat) (F : Nat → Int32) (A : Nat → Int32 → Int32), i + q = c → JT sl sv F A c i h → ∀ n : Nat, q * 2 + 300000 ≤ n → lp_L_law n 32 sl sv (Int32.ofNat c) (Int32.ofNat h) (Int32.ofNat i) 0 0 0 0 0 0 0 0 0 0 0 0 0 F A = some 1 := by
  intro q
  induction q with
  | zero =>
    intro i h F A hi j n hn
    obtain ⟨n, rfl⟩ : ∃ z, n = z + 1 := ⟨n - 1, by omega⟩
    have ei : i = c := by omega
    subst ei
    obtain ⟨⟨f0, f1⟩, f2, f4, f3, tk, hd⟩ := j
    have h24 : h ≤ 24 := Nat.le_of_dvd (by omega) hd
    have hp : 0 < h := Nat.pos_of_dvd_of_pos hd (by omega)
    have iz : ¬ F 2 = 0 := by rw [f2]; exact fun z => by have := (nz (by omega)).1 z; omega
    rw [if_neg iz] at f3
    rw [lp_L_law_32, if_neg (fun z => by have := (nlt (a := i) (b := i) (by omega) (by omega)).1 z; omega), e_getHyperperiod, if_neg iz, f3, if_pos rfl]
    exact l136 c1 c4 hp h24 6 0 F A (by omega) ⟨f2, f3, tk, Or.inl f4⟩ n (by omega)
  | succ q ih =>
    intro i h F A hi j n hn
    obtain ⟨n, rfl⟩ : ∃ z, n = z + 2 := ⟨n - 2, by omega⟩
    have ic : i < c := by omega
    obtain ⟨⟨hp, hdl, he⟩, p24, p212, ed, nw⟩ := pde sl sv c1 c4 i
    have hd := j.2.2.2.2.2
    have h24 : h ≤ 24 := Nat.le_of_dvd (by omega) hd
    have n2 : ¬ (Int32.ofNat (pf sl sv i) + 1) / 2 = 0 := by
      rw [n1a, show (2 : Int32) = Int32.ofNat 2 from rfl, ndiv (by omega) (by omega)]
      exact fun z => by have := (nz (by omega)).1 z; omega
    have s' := (o_ad c1 c4 ic j).R (eR_addTask F A (Int32.ofNat (pf sl sv i)) (Int32.ofNat (ef sl sv c i)) (Int32.ofNat (df sl sv i)))
    rw [lp_L_law_32, if_pos ((nlt (by omega) (by omega)).2 ic), he, hdl, hp, if_pos ⟨fun _ => nng 1 3 i (by omega), fun _ => nng 2 3 i (by omega), n2, fun _ => nng 3 3 i (by omega), fun z => by have := (nz (by omega)).1 z; omega, nw, s'.1⟩]
    have s2 : (R_addTask F A (Int32.ofNat (pf sl sv i)) (Int32.ofNat (ef sl sv c i)) (Int32.ofNat (df sl sv i))).1 = Int32.ofNat i ∧ JT sl sv (R_addTask F A (Int32.ofNat (pf sl sv i)) (Int32.ofNat (ef sl sv c i)) (Int32.ofNat (df sl sv i))).2.1 (R_addTask F A (Int32.ofNat (pf sl sv i)) (Int32.ofNat (ef sl sv c i)) (Int32.ofNat (df sl sv i))).2.2 c (i + 1) (lc h (pf sl sv i)) := s'.2
    clear s'
    generalize R_addTask F A (Int32.ofNat (pf sl sv i)) (Int32.ofNat (ef sl sv c i)) (Int32.ofNat (df sl sv i)) = r at *
    have g := e_gL (a := h) (b := pf sl sv i) (by omega) (by omega)
    have gp : 0 < Nat.gcd (pf sl sv i) h := Nat.gcd_pos_of_pos_left h (by omega)
    have gl : Nat.gcd (pf sl sv i) h ≤ pf sl sv i := Nat.gcd_le_left h (by omega)
    have gz : ¬ Int32.ofNat (Nat.gcd (pf sl sv i) h) = 0 := fun e => by have := (nz (by omega)).1 e; omega
    rw [if_pos s2.1, lp_L_law_105, g, r_of (eR_L_gcd _ _) g, if_pos ⟨rfl, gz⟩, ndiv (by omega) (by omega), nmul, n1a]
    exact ih (i + 1) (lc h (pf sl sv i)) r.2.1 r.2.2 (by omega) s2.2 n (by omega)
end Law
theorem law2 (sl : Int32) (sv : Int32 → Int32) (hs : ¬ 260 < sl) : en_L_law sl sv = some 1 := by
  obtain ⟨s, hs'⟩ := mask_fin (f_L_cell sl sv 0) 32767 15 (by decide) (by decide)
  have ss := s.2
  have e : (1 : Int32) + Int32.ofNat s.1 % 4 = Int32.ofNat (1 + s.1 % 4) := by
    rw [show (4 : Int32) = Int32.ofNat 4 from rfl, nmod (by omega) (by omega), show (1 : Int32) = Int32.ofNat 1 from rfl, nadd]
  rw [een_L_law, show (400000 : Nat) = 399999 + 1 from rfl, lp_L_law_13, if_pos (fun _ => by decide), hs', e]
  refine l32 (c := 1 + s.1 % 4) (by omega) (by omega) (1 + s.1 % 4) 0 1 _ _ (by omega) ⟨⟨?_, ?_⟩, ?_, ?_, ?_, fun i hi => absurd hi (by omega), by decide⟩ 399999 (by omega)
  · rw [F_init_0, e_clamp]; decide
  · rw [F_init_1, e_clamp]; decide
  · rw [F_init_2]; rfl
  · rw [F_init_4]
  · rw [F_init_2, if_pos rfl]; rfl
theorem law_ok {l : Launch} {Z : State} {a0 : Array Value} (H : OK Z a0) (sl : Int32) (sv : Int32 → Int32) (q2 : ¬ sl < 0) (q3 : ¬ 260 < sl) : Wk l Z (MoL Z cdC "CyclicExecutiveOwnLaw" true) md_L_law 0 [.val (.ref 0), .unset, .unset, .unset, .unset, .unset, .unset, .unset, .unset, .unset, .unset, .unset, .unset, .unset, .unset, .unset, .unset, .unset, .unset] [] (sl, sv, []) 0 0 (fun v _ => v = some (.int (1 : Int32))) :=
  run_law H sl sv (law2 sl sv q3)
set_option maxRecDepth 65536 in
set_option maxHeartbeats 40000000 in
theorem comes_1 {Post : Tables → Env → Array Value → State → Outcome → State → Prop} (hpost : ∀ tb e args s v u, (limb_1_1.after args s (.returned v) u = true ∧ limb_1_2.after args s (.returned v) u = true ∧ True) → FrameEnd s (.returned v) u (Jvm.fieldLocs frame_1_writes args s ++ Jvm.arrayLocs frame_1_arrays args s ++ Jvm.staticLocs frame_1_statics s) room_1.cells room_1.slots → Post tb e args s (.returned v) u) :
    ArmFor flags0 classFile x code maxLocals ret World_1 tables_1 room_1 Calls_1 rest_1 Pre_1 Post := by
  intro l hfl _ _ p e ha hc hk s m args below hf hA hF happ hP
  obtain ⟨hcalls, hrest, hpre⟩ := hP
  obtain ⟨-, -, -, hnamed, -, -, -, hat⟩ := (Spec.applies_iff hf).mp happ
  obtain ⟨hg, hn⟩ := and_e (Cond.before_iff.mp (show (Jvm.Cond.and given_1 narrow_1).before args s = true from hpre))
  obtain ⟨h1, h2⟩ := and_e hg
  obtain ⟨w0, rfl⟩ : ∃ w0 : Value, args = #[w0] := by
    have hs : args.size = 1 := by simpa [Cond.value, given_1] using h1
    obtain ⟨L⟩ := args
    match L, hs with
    | [w0], _ => exact ⟨w0, rfl⟩
  have hw : OK s #[w0] := fun d (hd : d ∈ tables_1) => atoms_spec (ws := Jvm.Cond.code x code maxLocals ret :: tables_1) hat d (List.mem_cons_of_mem _ hd)
  obtain ⟨na, nl⟩ := and_e hn
  obtain ⟨sa, ea⟩ := arr_v na
  obtain rfl : w0 = .ref sa := Option.some.inj ea
  obtain ⟨-, hr2⟩ := and_e (Cond.before_iff.mp (show rest_1_c.before #[.ref sa] s = true from hrest))
  obtain ⟨sl, sv, q1, q2, q3, q4⟩ := script_at na hr2 nl
  have rel0 : relL s cdC true (s.heap.size, sa) (sl, sv, []) s.heap := ⟨fun _ => ⟨q1, q2, q4⟩, fun i x q => (by simp at q), (by simp)⟩
  obtain ⟨n, o, h1, h2, h3, v, L, rfl, ⟨w', hv, hrel, hfrm, N, hsz, hnr⟩, hq⟩ := (law_ok hw sl sv q2 q3).met (M := MoL s cdC "CyclicExecutiveOwnLaw" true) (l := l) pn_CyclicExecutiveOwnLaw rfl (en := (s.heap.size, sa)) rel0 [.ref 0] rfl rfl tables_1 p e ha hc hk s m _ below hf ((Spec.applies_iff_loose hf).mp happ).1 ⟨rfl, State.Warmed39.refl s, rfl⟩ trivial
  subst hv
  exact ⟨n, _, h1, h2, h3, hpost _ _ _ _ _ _ ⟨Cond.after_iff.mpr rfl, Cond.after_iff.mpr (eq_i res_at (Term.int_eval (1)) rfl), trivial⟩ ⟨hq.1, hq.2.1, (hq.2.2.sift fun y hy => Or.inr (N y hy)).mono (Nat.le_refl _) (Nat.le_refl _)⟩⟩
theorem main_1_1 : Claimed_1_1 := comes_1 fun _ _ _ _ _ _ h hF => ⟨h.1, hF⟩
theorem main_1_2 : Claimed_1_2 := comes_1 fun _ _ _ _ _ _ h hF => ⟨h.2.1, hF⟩
end Jvm.Pilot.@@N@@
namespace Jvm.Pilot.@@N@@
open Jvm Jvm.ClassFile Sem Op Lib Jvm.Free Jvm.Stand Jvm.Pilot.@@N@@.Jvm.D
/-! MADE BY PROGRAM (witnessworld.py) out of the Statement's table words and the real class files: 9 classes; the members and pool entries that the words name. The judged class is class 1, her method 6. -/
namespace start1
open Jvm.ClassFile
def u (s : String) : CpInfo := .utf8 (stringToUtf16 s)
/-- a pool by its gaps: so many unusable entries, then the entry; so many at the end -/
def gap : Nat → List CpInfo → List CpInfo
  | 0, r => r
  | n + 1, r => .unusable :: gap n r
def poolList (es : List (Nat × CpInfo)) (last : Nat) : List CpInfo := es.foldr (fun e r => gap e.1 (e.2 :: r)) (gap last [])
def pool (es : List (Nat × CpInfo)) (last : Nat) : Array CpInfo := ⟨poolList es last⟩
def fileOf (pool : Array CpInfo) (this : Nat) (attrs : Array Attribute := #[]) (ms : Array MethodInfo := #[]) (fl : Nat := 33) (sup : Nat := 0) (ifs : Array Nat := #[]) (fds : Array FieldInfo := #[]) : ClassFile where
  minorVersion := 0
  majorVersion := 65
  constantPool := pool
  accessFlags := fl
  thisClass := this
  superClass := sup
  interfaces := ifs
  fields := fds
  methods := ms
  attributes := attrs
def plain (name : String) (sup : Option ClassId) : Class where
  name := name
  kind := .ordinary
  loader := none
  accessFlags := 33
  super := sup
  interfaces := #[]
  cf := none
  fields := #[]
  methods := #[]
  instanceTypes := #[]
  staticTypes := #[]
  resolved := #[]
  callSites := []
  init := .initialized
  statics := none
  mirror := none

def pool0 : Array CpInfo := pool [(5, u "<init>"), (0, u "()V"), (1, .class_ 10), (1, u "java/lang/Object")] 113

def k0c0 : Code := { maxStack := 0, maxLocals := 1, code := object_method_1_code, exceptionTable := #[], attributes := #[] }
def k0m0 : Method := { name := "<init>", desc := "()V", sig := { parameters := [], returnType := none }, accessFlags := 1, code := some k0c0 }
/-- java/lang/Object -/
def k0 : Class := { plain "java/lang/Object" none with
  accessFlags := 33
  interfaces := #[]
  cf := some (fileOf pool0 8 #[] #[{ accessFlags := 1, nameIndex := 5, descriptorIndex := 6, attributes := #[] }] 33 0 #[] #[])
  fields := #[]
  methods := #[k0m0]
  instanceTypes := #[]
  staticTypes := #[]
  resolved := Array.replicate 124 none
  statics := none }

def pool1 : Array CpInfo := pool [(2, .class_ 4), (1, u "java/lang/Object"), (0, u "<init>"), (0, u "()V"), (0, .class_ 8), (0, u "CyclicExecutive"), (0, .methodref 7 10), (0, .nameAndType 5 11), (0, u "(II)V"), (0, .methodref 13 14), (0, .class_ 15), (0, .nameAndType 16 17), (0, u "CyclicExecutiveOwnLaw"), (0, u "cell"), (0, u "([II)I"), (0, .methodref 13 19), (0, .nameAndType 20 21), (0, u "period"), (0, u "(I)I"), (0, .methodref 13 23), (0, .nameAndType 24 25), (0, u "deadline"), (0, u "(II)I"), (0, .methodref 13 27), (0, .nameAndType 28 29), (0, u "wcet"), (0, u "(III)I"), (0, .methodref 7 31), (0, .nameAndType 32 29), (0, u "addTask"), (0, .methodref 13 34), (0, .nameAndType 35 25), (0, u "gcd"), (0, .methodref 7 37), (0, .nameAndType 38 39), (0, u "getHyperperiod"), (0, u "()I"), (0, .methodref 7 41), (0, .nameAndType 42 21), (0, u "build"), (0, .methodref 7 44), (0, .nameAndType 45 39), (0, u "getFrame"), (0, .methodref 7 47), (0, .nameAndType 48 21), (0, u "run"), (0, .methodref 7 50), (0, .nameAndType 51 39), (0, u "getNow"), (0, .methodref 7 53), (0, .nameAndType 54 21), (0, u "getRunTicks"), (0, .methodref 7 56), (0, .nameAndType 57 21), (0, u "getTickTask"), (0, .methodref 7 59), (0, .nameAndType 60 21), (0, u "getTickJob"), (0, .methodref 7 62), (0, .nameAndType 63 25), (0, u "getSliceCount"), (3, u "law"), (0, u "([I)Z")] 4

def k1m0 : Method := { name := "<init>", desc := "()V", sig := { parameters := [], returnType := none }, accessFlags := 1, code := none }
def k1c1 : Code := { maxStack := 2, maxLocals := 2, code := method_2_code, exceptionTable := #[], attributes := #[] }
def k1m1 : Method := { name := "cell", desc := "([II)I", sig := { parameters := [(.array .int), .int], returnType := some .int }, accessFlags := 10, code := some k1c1 }
def k1c2 : Code := { maxStack := 2, maxLocals := 2, code := method_3_code, exceptionTable := #[], attributes := #[] }
def k1m2 : Method := { name := "period", desc := "(I)I", sig := { parameters := [.int], returnType := some .int }, accessFlags := 10, code := some k1c2 }
def k1c3 : Code := { maxStack := 4, maxLocals := 2, code := method_4_code, exceptionTable := #[], attributes := #[] }
def k1m3 : Method := { name := "deadline", desc := "(II)I", sig := { parameters := [.int, .int], returnType := some .int }, accessFlags := 10, code := some k1c3 }
def k1c4 : Code := { maxStack := 3, maxLocals := 4, code := method_5_code, exceptionTable := #[], attributes := #[] }
def k1m4 : Method := { name := "wcet", desc := "(III)I", sig := { parameters := [.int, .int, .int], returnType := some .int }, accessFlags := 10, code := some k1c4 }
def k1c5 : Code := { maxStack := 2, maxLocals := 4, code := method_6_code, exceptionTable := #[], attributes := #[] }
def k1m5 : Method := { name := "gcd", desc := "(II)I", sig := { parameters := [.int, .int], returnType := some .int }, accessFlags := 10, code := some k1c5 }
def k1c6 : Code := { maxStack := 6, maxLocals := 19, code := code, exceptionTable := #[], attributes := #[] }
def k1m6 : Method := { name := "law", desc := "([I)Z", sig := { parameters := [(.array .int)], returnType := some .boolean }, accessFlags := 9, code := some k1c6 }
/-- CyclicExecutiveOwnLaw -/
def k1 : Class := { plain "CyclicExecutiveOwnLaw" (some 0) with
  accessFlags := 49
  interfaces := #[]
  cf := some (fileOf pool1 13 #[] #[{ accessFlags := 1, nameIndex := 5, descriptorIndex := 6, attributes := #[] }, { accessFlags := 10, nameIndex := 16, descriptorIndex := 17, attributes := #[] }, { accessFlags := 10, nameIndex := 20, descriptorIndex := 21, attributes := #[] }, { accessFlags := 10, nameIndex := 24, descriptorIndex := 25, attributes := #[] }, { accessFlags := 10, nameIndex := 28, descriptorIndex := 29, attributes := #[] }, { accessFlags := 10, nameIndex := 35, descriptorIndex := 25, attributes := #[] }, { accessFlags := 9, nameIndex := 67, descriptorIndex := 68, attributes := #[] }] 49 2 #[] #[])
  fields := #[]
  methods := #[k1m0, k1m1, k1m2, k1m3, k1m4, k1m5, k1m6]
  instanceTypes := #[]
  staticTypes := #[]
  resolved := Array.replicate 73 none
  statics := none }

def pool2 : Array CpInfo := pool [(1, .methodref 2 3), (0, .class_ 4), (0, .nameAndType 5 6), (0, u "java/lang/Object"), (0, u "<init>"), (0, u "()V"), (0, .fieldref 8 9), (0, .class_ 10), (0, .nameAndType 11 12), (0, u "CyclicExecutive"), (0, u "per"), (0, u "[I"), (0, .fieldref 8 14), (0, .nameAndType 15 12), (0, u "exe"), (0, .fieldref 8 17), (0, .nameAndType 18 12), (0, u "dl"), (0, .fieldref 8 20), (0, .nameAndType 21 12), (0, u "runCnt"), (0, .fieldref 8 23), (0, .nameAndType 24 12), (0, u "tickTask"), (0, .fieldref 8 26), (0, .nameAndType 27 12), (0, u "tickJob"), (0, .fieldref 8 29), (0, .nameAndType 30 12), (0, u "rem"), (0, .methodref 8 32), (0, .nameAndType 33 34), (0, u "clamp"), (0, u "(III)I"), (0, .fieldref 8 36), (0, .nameAndType 37 38), (0, u "maxTasks"), (0, u "I"), (0, .fieldref 8 40), (0, .nameAndType 41 38), (0, u "maxHyper"), (0, .fieldref 8 43), (0, .nameAndType 44 38), (0, u "count"), (0, .fieldref 8 46), (0, .nameAndType 47 38), (0, u "hyper"), (0, .fieldref 8 49), (0, .nameAndType 50 51), (0, u "present"), (0, u "Z"), (0, .fieldref 8 53), (0, .nameAndType 54 38), (0, u "frame"), (0, .fieldref 8 56), (0, .nameAndType 57 38), (0, u "miss"), (0, .fieldref 8 59), (0, .nameAndType 60 38), (0, u "now"), (0, .fieldref 8 62), (0, .nameAndType 63 38), (0, u "pos"), (0, .methodref 8 65), (0, .nameAndType 66 67), (0, u "gcd"), (0, u "(II)I"), (0, .methodref 8 69), (0, .nameAndType 70 67), (0, u "lcm"), (0, .methodref 8 72), (0, .nameAndType 73 6), (0, u "resetDispatcher"), (0, .methodref 8 75), (0, .nameAndType 76 77), (0, u "dividesHyper"), (0, u "(I)Z"), (3, u "()I"), (0, .methodref 8 83), (0, .nameAndType 84 77), (0, u "deadlinesOk"), (3, .methodref 8 89), (0, .nameAndType 90 6), (0, u "initJobs"), (0, .methodref 8 92), (0, .nameAndType 93 94), (0, u "fillFrame"), (0, u "(II)V"), (0, .methodref 8 96), (0, .nameAndType 97 81), (0, u "findMiss"), (0, .methodref 8 99), (0, .nameAndType 100 67), (0, u "pickJob"), (0, .methodref 8 102), (0, .nameAndType 103 77), (0, u "validTick"), (0, u "IDLE"), (2, u "BUILD_OK"), (1, u "ERR_ARG"), (0, u "ERR_FULL"), (1, u "ERR_HYPER"), (1, u "ERR_EMPTY"), (1, u "ERR_DIVIDE"), (1, u "ERR_DEADLINE"), (1, u "ERR_MISS"), (1, u "MAX_RUN"), (1, u "TASK_CAP"), (1, u "HYPER_CAP"), (1, u "JOB_SHIFT"), (3, u "addTask"), (1, u "getHyperperiod"), (2, u "(I)I"), (0, u "build"), (0, u "getFrame"), (0, u "getTickTask"), (0, u "getTickJob"), (0, u "getSliceCount"), (1, u "run"), (0, u "getNow"), (0, u "getRunTicks")] 2

def k2c0 : Code := { maxStack := 5, maxLocals := 3, code := prog_1_method_1_code, exceptionTable := #[], attributes := #[] }
def k2m0 : Method := { name := "<init>", desc := "(II)V", sig := { parameters := [.int, .int], returnType := none }, accessFlags := 1, code := some k2c0 }
def k2c1 : Code := { maxStack := 2, maxLocals := 4, code := prog_1_method_2_code, exceptionTable := #[], attributes := #[] }
def k2m1 : Method := { name := "clamp", desc := "(III)I", sig := { parameters := [.int, .int, .int], returnType := some .int }, accessFlags := 2, code := some k2c1 }
def k2c2 : Code := { maxStack := 2, maxLocals := 7, code := prog_1_method_3_code, exceptionTable := #[], attributes := #[] }
def k2m2 : Method := { name := "gcd", desc := "(II)I", sig := { parameters := [.int, .int], returnType := some .int }, accessFlags := 2, code := some k2c2 }
def k2c3 : Code := { maxStack := 3, maxLocals := 4, code := prog_1_method_4_code, exceptionTable := #[], attributes := #[] }
def k2m3 : Method := { name := "lcm", desc := "(II)I", sig := { parameters := [.int, .int], returnType := some .int }, accessFlags := 2, code := some k2c3 }
def k2c4 : Code := { maxStack := 3, maxLocals := 2, code := prog_1_method_5_code, exceptionTable := #[], attributes := #[] }
def k2m4 : Method := { name := "resetDispatcher", desc := "()V", sig := { parameters := [], returnType := none }, accessFlags := 2, code := some k2c4 }
def k2c5 : Code := { maxStack := 3, maxLocals := 7, code := prog_1_method_6_code, exceptionTable := #[], attributes := #[] }
def k2m5 : Method := { name := "addTask", desc := "(III)I", sig := { parameters := [.int, .int, .int], returnType := some .int }, accessFlags := 1, code := some k2c5 }
def k2c6 : Code := { maxStack := 1, maxLocals := 1, code := prog_1_method_8_code, exceptionTable := #[], attributes := #[] }
def k2m6 : Method := { name := "getHyperperiod", desc := "()I", sig := { parameters := [], returnType := some .int }, accessFlags := 1, code := some k2c6 }
def k2c7 : Code := { maxStack := 2, maxLocals := 2, code := prog_1_method_9_code, exceptionTable := #[], attributes := #[] }
def k2m7 : Method := { name := "dividesHyper", desc := "(I)Z", sig := { parameters := [.int], returnType := some .boolean }, accessFlags := 2, code := some k2c7 }
def k2c8 : Code := { maxStack := 4, maxLocals := 4, code := prog_1_method_11_code, exceptionTable := #[], attributes := #[] }
def k2m8 : Method := { name := "deadlinesOk", desc := "(I)Z", sig := { parameters := [.int], returnType := some .boolean }, accessFlags := 2, code := some k2c8 }
def k2c9 : Code := { maxStack := 3, maxLocals := 4, code := prog_1_method_15_code, exceptionTable := #[], attributes := #[] }
def k2m9 : Method := { name := "build", desc := "(I)I", sig := { parameters := [.int], returnType := some .int }, accessFlags := 1, code := some k2c9 }
def k2c10 : Code := { maxStack := 4, maxLocals := 4, code := prog_1_method_16_code, exceptionTable := #[], attributes := #[] }
def k2m10 : Method := { name := "initJobs", desc := "()V", sig := { parameters := [], returnType := none }, accessFlags := 2, code := some k2c10 }
def k2c11 : Code := { maxStack := 4, maxLocals := 11, code := prog_1_method_17_code, exceptionTable := #[], attributes := #[] }
def k2m11 : Method := { name := "fillFrame", desc := "(II)V", sig := { parameters := [.int, .int], returnType := none }, accessFlags := 2, code := some k2c11 }
def k2c12 : Code := { maxStack := 3, maxLocals := 9, code := prog_1_method_18_code, exceptionTable := #[], attributes := #[] }
def k2m12 : Method := { name := "pickJob", desc := "(II)I", sig := { parameters := [.int, .int], returnType := some .int }, accessFlags := 2, code := some k2c12 }
def k2c13 : Code := { maxStack := 3, maxLocals := 8, code := prog_1_method_19_code, exceptionTable := #[], attributes := #[] }
def k2m13 : Method := { name := "findMiss", desc := "()I", sig := { parameters := [], returnType := some .int }, accessFlags := 2, code := some k2c13 }
def k2c14 : Code := { maxStack := 1, maxLocals := 1, code := prog_1_method_20_code, exceptionTable := #[], attributes := #[] }
def k2m14 : Method := { name := "getFrame", desc := "()I", sig := { parameters := [], returnType := some .int }, accessFlags := 1, code := some k2c14 }
def k2c15 : Code := { maxStack := 2, maxLocals := 2, code := prog_1_method_21_code, exceptionTable := #[], attributes := #[] }
def k2m15 : Method := { name := "validTick", desc := "(I)Z", sig := { parameters := [.int], returnType := some .boolean }, accessFlags := 2, code := some k2c15 }
def k2c16 : Code := { maxStack := 2, maxLocals := 2, code := prog_1_method_22_code, exceptionTable := #[], attributes := #[] }
def k2m16 : Method := { name := "getTickTask", desc := "(I)I", sig := { parameters := [.int], returnType := some .int }, accessFlags := 1, code := some k2c16 }
def k2c17 : Code := { maxStack := 2, maxLocals := 2, code := prog_1_method_23_code, exceptionTable := #[], attributes := #[] }
def k2m17 : Method := { name := "getTickJob", desc := "(I)I", sig := { parameters := [.int], returnType := some .int }, accessFlags := 1, code := some k2c17 }
def k2c18 : Code := { maxStack := 3, maxLocals := 9, code := prog_1_method_24_code, exceptionTable := #[], attributes := #[] }
def k2m18 : Method := { name := "getSliceCount", desc := "(II)I", sig := { parameters := [.int, .int], returnType := some .int }, accessFlags := 1, code := some k2c18 }
def k2c19 : Code := { maxStack := 4, maxLocals := 5, code := prog_1_method_26_code, exceptionTable := #[], attributes := #[] }
def k2m19 : Method := { name := "run", desc := "(I)I", sig := { parameters := [.int], returnType := some .int }, accessFlags := 1, code := some k2c19 }
def k2c20 : Code := { maxStack := 1, maxLocals := 1, code := prog_1_method_27_code, exceptionTable := #[], attributes := #[] }
def k2m20 : Method := { name := "getNow", desc := "()I", sig := { parameters := [], returnType := some .int }, accessFlags := 1, code := some k2c20 }
def k2c21 : Code := { maxStack := 2, maxLocals := 2, code := prog_1_method_28_code, exceptionTable := #[], attributes := #[] }
def k2m21 : Method := { name := "getRunTicks", desc := "(I)I", sig := { parameters := [.int], returnType := some .int }, accessFlags := 1, code := some k2c21 }
/-- CyclicExecutive -/
def k2 : Class := { plain "CyclicExecutive" (some 0) with
  accessFlags := 49
  interfaces := #[]
  cf := some (fileOf pool2 8 #[] #[{ accessFlags := 1, nameIndex := 5, descriptorIndex := 94, attributes := #[] }, { accessFlags := 2, nameIndex := 33, descriptorIndex := 34, attributes := #[] }, { accessFlags := 2, nameIndex := 66, descriptorIndex := 67, attributes := #[] }, { accessFlags := 2, nameIndex := 70, descriptorIndex := 67, attributes := #[] }, { accessFlags := 2, nameIndex := 73, descriptorIndex := 6, attributes := #[] }, { accessFlags := 1, nameIndex := 132, descriptorIndex := 34, attributes := #[] }, { accessFlags := 1, nameIndex := 134, descriptorIndex := 81, attributes := #[] }, { accessFlags := 2, nameIndex := 76, descriptorIndex := 77, attributes := #[] }, { accessFlags := 2, nameIndex := 84, descriptorIndex := 77, attributes := #[] }, { accessFlags := 1, nameIndex := 138, descriptorIndex := 137, attributes := #[] }, { accessFlags := 2, nameIndex := 90, descriptorIndex := 6, attributes := #[] }, { accessFlags := 2, nameIndex := 93, descriptorIndex := 94, attributes := #[] }, { accessFlags := 2, nameIndex := 100, descriptorIndex := 67, attributes := #[] }, { accessFlags := 2, nameIndex := 97, descriptorIndex := 81, attributes := #[] }, { accessFlags := 1, nameIndex := 139, descriptorIndex := 81, attributes := #[] }, { accessFlags := 2, nameIndex := 103, descriptorIndex := 77, attributes := #[] }, { accessFlags := 1, nameIndex := 140, descriptorIndex := 137, attributes := #[] }, { accessFlags := 1, nameIndex := 141, descriptorIndex := 137, attributes := #[] }, { accessFlags := 1, nameIndex := 142, descriptorIndex := 67, attributes := #[] }, { accessFlags := 1, nameIndex := 144, descriptorIndex := 137, attributes := #[] }, { accessFlags := 1, nameIndex := 145, descriptorIndex := 81, attributes := #[] }, { accessFlags := 1, nameIndex := 146, descriptorIndex := 137, attributes := #[] }] 49 2 #[] #[{ accessFlags := 25, nameIndex := 104, descriptorIndex := 38, attributes := #[] }, { accessFlags := 25, nameIndex := 107, descriptorIndex := 38, attributes := #[] }, { accessFlags := 25, nameIndex := 109, descriptorIndex := 38, attributes := #[] }, { accessFlags := 25, nameIndex := 110, descriptorIndex := 38, attributes := #[] }, { accessFlags := 25, nameIndex := 112, descriptorIndex := 38, attributes := #[] }, { accessFlags := 25, nameIndex := 114, descriptorIndex := 38, attributes := #[] }, { accessFlags := 25, nameIndex := 116, descriptorIndex := 38, attributes := #[] }, { accessFlags := 25, nameIndex := 118, descriptorIndex := 38, attributes := #[] }, { accessFlags := 25, nameIndex := 120, descriptorIndex := 38, attributes := #[] }, { accessFlags := 25, nameIndex := 122, descriptorIndex := 38, attributes := #[] }, { accessFlags := 26, nameIndex := 124, descriptorIndex := 38, attributes := #[] }, { accessFlags := 26, nameIndex := 126, descriptorIndex := 38, attributes := #[] }, { accessFlags := 26, nameIndex := 128, descriptorIndex := 38, attributes := #[] }, { accessFlags := 2, nameIndex := 37, descriptorIndex := 38, attributes := #[] }, { accessFlags := 2, nameIndex := 41, descriptorIndex := 38, attributes := #[] }, { accessFlags := 2, nameIndex := 44, descriptorIndex := 38, attributes := #[] }, { accessFlags := 2, nameIndex := 47, descriptorIndex := 38, attributes := #[] }, { accessFlags := 18, nameIndex := 11, descriptorIndex := 12, attributes := #[] }, { accessFlags := 18, nameIndex := 15, descriptorIndex := 12, attributes := #[] }, { accessFlags := 18, nameIndex := 18, descriptorIndex := 12, attributes := #[] }, { accessFlags := 18, nameIndex := 21, descriptorIndex := 12, attributes := #[] }, { accessFlags := 2, nameIndex := 50, descriptorIndex := 51, attributes := #[] }, { accessFlags := 2, nameIndex := 54, descriptorIndex := 38, attributes := #[] }, { accessFlags := 18, nameIndex := 24, descriptorIndex := 12, attributes := #[] }, { accessFlags := 18, nameIndex := 27, descriptorIndex := 12, attributes := #[] }, { accessFlags := 18, nameIndex := 30, descriptorIndex := 12, attributes := #[] }, { accessFlags := 2, nameIndex := 57, descriptorIndex := 38, attributes := #[] }, { accessFlags := 2, nameIndex := 60, descriptorIndex := 38, attributes := #[] }, { accessFlags := 2, nameIndex := 63, descriptorIndex := 38, attributes := #[] }])
  fields := #[{ name := "IDLE", type := .int, accessFlags := 25, slot := 0, constantValue := 0 }, { name := "BUILD_OK", type := .int, accessFlags := 25, slot := 1, constantValue := 0 }, { name := "ERR_ARG", type := .int, accessFlags := 25, slot := 2, constantValue := 0 }, { name := "ERR_FULL", type := .int, accessFlags := 25, slot := 3, constantValue := 0 }, { name := "ERR_HYPER", type := .int, accessFlags := 25, slot := 4, constantValue := 0 }, { name := "ERR_EMPTY", type := .int, accessFlags := 25, slot := 5, constantValue := 0 }, { name := "ERR_DIVIDE", type := .int, accessFlags := 25, slot := 6, constantValue := 0 }, { name := "ERR_DEADLINE", type := .int, accessFlags := 25, slot := 7, constantValue := 0 }, { name := "ERR_MISS", type := .int, accessFlags := 25, slot := 8, constantValue := 0 }, { name := "MAX_RUN", type := .int, accessFlags := 25, slot := 9, constantValue := 0 }, { name := "TASK_CAP", type := .int, accessFlags := 26, slot := 10, constantValue := 0 }, { name := "HYPER_CAP", type := .int, accessFlags := 26, slot := 11, constantValue := 0 }, { name := "JOB_SHIFT", type := .int, accessFlags := 26, slot := 12, constantValue := 0 }, { name := "maxTasks", type := .int, accessFlags := 2, slot := 0, constantValue := 0 }, { name := "maxHyper", type := .int, accessFlags := 2, slot := 1, constantValue := 0 }, { name := "count", type := .int, accessFlags := 2, slot := 2, constantValue := 0 }, { name := "hyper", type := .int, accessFlags := 2, slot := 3, constantValue := 0 }, { name := "per", type := (.array .int), accessFlags := 18, slot := 4, constantValue := 0 }, { name := "exe", type := (.array .int), accessFlags := 18, slot := 5, constantValue := 0 }, { name := "dl", type := (.array .int), accessFlags := 18, slot := 6, constantValue := 0 }, { name := "runCnt", type := (.array .int), accessFlags := 18, slot := 7, constantValue := 0 }, { name := "present", type := .boolean, accessFlags := 2, slot := 8, constantValue := 0 }, { name := "frame", type := .int, accessFlags := 2, slot := 9, constantValue := 0 }, { name := "tickTask", type := (.array .int), accessFlags := 18, slot := 10, constantValue := 0 }, { name := "tickJob", type := (.array .int), accessFlags := 18, slot := 11, constantValue := 0 }, { name := "rem", type := (.array .int), accessFlags := 18, slot := 12, constantValue := 0 }, { name := "miss", type := .int, accessFlags := 2, slot := 13, constantValue := 0 }, { name := "now", type := .int, accessFlags := 2, slot := 14, constantValue := 0 }, { name := "pos", type := .int, accessFlags := 2, slot := 15, constantValue := 0 }]
  methods := #[k2m0, k2m1, k2m2, k2m3, k2m4, k2m5, k2m6, k2m7, k2m8, k2m9, k2m10, k2m11, k2m12, k2m13, k2m14, k2m15, k2m16, k2m17, k2m18, k2m19, k2m20, k2m21]
  instanceTypes := #[.int, .int, .int, .int, (.array .int), (.array .int), (.array .int), (.array .int), .boolean, .int, (.array .int), (.array .int), (.array .int), .int, .int, .int]
  staticTypes := #[.int, .int, .int, .int, .int, .int, .int, .int, .int, .int, .int, .int, .int]
  resolved := Array.replicate 149 none
  statics := none }

def pool3 : Array CpInfo := pool [(1, u "java/lang/Cloneable"), (0, .class_ 1), (0, u "java/lang/Object"), (0, .class_ 3)] 3

/-- java/lang/Cloneable -/
def k3 : Class := { plain "java/lang/Cloneable" (some 0) with
  accessFlags := 1537
  interfaces := #[]
  cf := some (fileOf pool3 2 #[] #[] 1537 4 #[] #[])
  fields := #[]
  methods := #[]
  instanceTypes := #[]
  staticTypes := #[]
  resolved := Array.replicate 8 none
  statics := none }

def pool4 : Array CpInfo := pool [(1, u "java/io/Serializable"), (0, .class_ 1), (0, u "java/lang/Object"), (0, .class_ 3)] 3

/-- java/io/Serializable -/
def k4 : Class := { plain "java/io/Serializable" (some 0) with
  accessFlags := 1537
  interfaces := #[]
  cf := some (fileOf pool4 2 #[] #[] 1537 4 #[] #[])
  fields := #[]
  methods := #[]
  instanceTypes := #[]
  staticTypes := #[]
  resolved := Array.replicate 8 none
  statics := none }

/-- the primitive byte -/
def k5 : Class := { plain "byte" none with kind := .primitive 'B', accessFlags := 0x411 }
/-- [B -/
def k6 : Class := { plain "[B" (some 0) with kind := .array 5 .byte, interfaces := #[3, 4], accessFlags := 1041 }

/-- the primitive int -/
def k7 : Class := { plain "int" none with kind := .primitive 'I', accessFlags := 0x411 }
/-- [I -/
def k8 : Class := { plain "[I" (some 0) with kind := .array 7 .int, interfaces := #[3, 4], accessFlags := 1041 }

def heap : Heap := #[{ cls := 8, slots := #[.int 2, .int 3, .int 0, .int 0, .int 2, .int 3, .int 0, .int 0, .int 7, .int 9, .int 0, .int 0], vm := .none }]
def classes : Array Class := #[k0, k1, k2, k3, k4, k5, k6, k7, k8]
def interned : List (Array UInt16 × Addr) := []
def slotsUsed : Nat := 12
def theMethod : MethodId := ⟨1, 6⟩
def args0 : Array Value := #[.ref 0]
def aboutOver (below : List Frame) : State where
  vm := { classes := classes, interned := interned.toArray }
  heap := heap
  slotsUsed := slotsUsed
  threads := #[{ frames := .invoking theMethod args0 :: below }]
def below0 : List Frame := [.native { method := ⟨0, 0⟩, args := #[] }]
def about1 : State := aboutOver below0
def p0 : Program := .bare "" "" ""
def e0 : Env := launch0.env 0 0 0
theorem w_frames : about1.frames = Frame.invoking theMethod args0 :: below0 := rfl
set_option maxRecDepth 65536 in
theorem w_args : argsFit about1.vm theMethod args0 = true := by decide +kernel
set_option maxRecDepth 65536 in
theorem w_heap : heapFits about1 = true := by decide +kernel
set_option maxRecDepth 65536 in
theorem w_runnable : about1.curStatus? = some .runnable := by decide +kernel
set_option maxRecDepth 65536 in
theorem w_alone : about1.alone = true := by decide +kernel
set_option maxRecDepth 65536 in
theorem w_named : about1.methodNamed? x = some theMethod := by decide +kernel
set_option maxRecDepth 65536 in
theorem w_hears : about1.hears theMethod below0 = true := by decide +kernel
set_option maxRecDepth 65536 in
theorem w_ripe : about1.ripe theMethod args0 below0 = true := by decide +kernel
theorem w_running : about1.status = .running := rfl
set_option maxRecDepth 65536 in
theorem w_room : about1.hasRoom e0.platform room_1 = true :=
  launch0.hasRoom_least _ room_1 (by decide +kernel) (by decide +kernel) (by decide +kernel) (by decide +kernel) (by decide +kernel) (by decide +kernel)
theorem allAtoms_all (ts : List Jvm.Cond) (a : Array Jvm.Value) (st : Jvm.State) : (allAtoms ts).before a st = ts.all (fun c => c.before a st) := by
  induction ts with
  | nil => rfl
  | cons c t ih =>
    show (Jvm.Cond.and c (allAtoms t)).before a st = _
    rw [Jvm.Cond.before_and, ih, List.all_cons]
def words1 : List Jvm.Cond := Jvm.Cond.code x code maxLocals ret :: tables_1
/-- a 'code' word, met by the world's own term for the bytes: nothing is compared byte by byte -/
theorem code_word {y : MethodName} {bytes : ByteArray} {mx : Nat} {rt : Option FieldType} {a : Array Value} {s : State} {m : MethodId} {meth : Method} {c : Code} (h1 : s.methodNamed? y = some m) (h2 : s.vm.method? m = some meth) (h3 : meth.code = some c) (h4 : c.code = bytes)
    (h5 : (c.maxLocals == mx && c.exceptionTable.isEmpty && decide (c.maxStack ≤ mostOperands) && decide (meth.sig.returnType = rt) && !meth.locks && decide (parseMethodDescriptor y.desc = some meth.sig)) = true) : (Jvm.Cond.code y bytes mx rt).before a s = true := by
  simp only [Bool.and_eq_true, beq_iff_eq, Bool.not_eq_true', decide_eq_true_eq] at h5
  obtain ⟨⟨⟨⟨⟨g1, g2⟩, g3⟩, g4⟩, g5⟩, g6⟩ := h5
  simp [Cond.before, Cond.holds, Cond.value, h1, h2, h3, h4, g1, g2, g3, g4, g5, g6]
def isCode : Jvm.Cond → Bool
  | .code _ _ _ _ => true
  | _ => false
theorem all_split {L : List Jvm.Cond} {P : Jvm.Cond → Bool} (h1 : L.all (fun c => isCode c || P c) = true) (h2 : ∀ c ∈ L.filter isCode, P c = true) : L.all P = true := by
  refine List.all_eq_true.mpr fun c hc => ?_
  have h := List.all_eq_true.mp h1 c hc
  rcases Bool.eq_false_or_eq_true (isCode c) with hi | hi
  · exact h2 c (List.mem_filter.mpr ⟨hc, hi⟩)
  · simpa [hi] using h
set_option maxRecDepth 65536 in
theorem w_c0 : (Jvm.Cond.code x code maxLocals ret).before args0 about1 = true := code_word (m := ⟨1, 6⟩) (meth := k1m6) (c := k1c6) (by decide +kernel) rfl rfl rfl (by decide +kernel)
set_option maxRecDepth 65536 in
theorem w_c1 : (Jvm.Cond.code ({ cls := "CyclicExecutive", name := "<init>", desc := "(II)V" } : Jvm.MethodName) prog_1_method_1_code (3 : Nat) (Option.none : Option Jvm.ClassFile.FieldType)).before args0 about1 = true := code_word (m := ⟨2, 0⟩) (meth := k2m0) (c := k2c0) (by decide +kernel) rfl rfl rfl (by decide +kernel)
set_option maxRecDepth 65536 in
theorem w_c2 : (Jvm.Cond.code ({ cls := "java/lang/Object", name := "<init>", desc := "()V" } : Jvm.MethodName) object_method_1_code (1 : Nat) (Option.none : Option Jvm.ClassFile.FieldType)).before args0 about1 = true := code_word (m := ⟨0, 0⟩) (meth := k0m0) (c := k0c0) (by decide +kernel) rfl rfl rfl (by decide +kernel)
set_option maxRecDepth 65536 in
theorem w_c3 : (Jvm.Cond.code ({ cls := "CyclicExecutive", name := "clamp", desc := "(III)I" } : Jvm.MethodName) prog_1_method_2_code (4 : Nat) (Option.some Jvm.ClassFile.FieldType.int)).before args0 about1 = true := code_word (m := ⟨2, 1⟩) (meth := k2m1) (c := k2c1) (by decide +kernel) rfl rfl rfl (by decide +kernel)
set_option maxRecDepth 65536 in
theorem w_c4 : (Jvm.Cond.code ({ cls := "CyclicExecutiveOwnLaw", name := "cell", desc := "([II)I" } : Jvm.MethodName) method_2_code (2 : Nat) (Option.some Jvm.ClassFile.FieldType.int)).before args0 about1 = true := code_word (m := ⟨1, 1⟩) (meth := k1m1) (c := k1c1) (by decide +kernel) rfl rfl rfl (by decide +kernel)
set_option maxRecDepth 65536 in
theorem w_c5 : (Jvm.Cond.code ({ cls := "CyclicExecutiveOwnLaw", name := "period", desc := "(I)I" } : Jvm.MethodName) method_3_code (2 : Nat) (Option.some Jvm.ClassFile.FieldType.int)).before args0 about1 = true := code_word (m := ⟨1, 2⟩) (meth := k1m2) (c := k1c2) (by decide +kernel) rfl rfl rfl (by decide +kernel)
set_option maxRecDepth 65536 in
theorem w_c6 : (Jvm.Cond.code ({ cls := "CyclicExecutiveOwnLaw", name := "deadline", desc := "(II)I" } : Jvm.MethodName) method_4_code (2 : Nat) (Option.some Jvm.ClassFile.FieldType.int)).before args0 about1 = true := code_word (m := ⟨1, 3⟩) (meth := k1m3) (c := k1c3) (by decide +kernel) rfl rfl rfl (by decide +kernel)
set_option maxRecDepth 65536 in
theorem w_c7 : (Jvm.Cond.code ({ cls := "CyclicExecutiveOwnLaw", name := "wcet", desc := "(III)I" } : Jvm.MethodName) method_5_code (4 : Nat) (Option.some Jvm.ClassFile.FieldType.int)).before args0 about1 = true := code_word (m := ⟨1, 4⟩) (meth := k1m4) (c := k1c4) (by decide +kernel) rfl rfl rfl (by decide +kernel)
set_option maxRecDepth 65536 in
theorem w_c8 : (Jvm.Cond.code ({ cls := "CyclicExecutive", name := "addTask", desc := "(III)I" } : Jvm.MethodName) prog_1_method_6_code (7 : Nat) (Option.some Jvm.ClassFile.FieldType.int)).before args0 about1 = true := code_word (m := ⟨2, 5⟩) (meth := k2m5) (c := k2c5) (by decide +kernel) rfl rfl rfl (by decide +kernel)
set_option maxRecDepth 65536 in
theorem w_c9 : (Jvm.Cond.code ({ cls := "CyclicExecutive", name := "lcm", desc := "(II)I" } : Jvm.MethodName) prog_1_method_4_code (4 : Nat) (Option.some Jvm.ClassFile.FieldType.int)).before args0 about1 = true := code_word (m := ⟨2, 3⟩) (meth := k2m3) (c := k2c3) (by decide +kernel) rfl rfl rfl (by decide +kernel)
set_option maxRecDepth 65536 in
theorem w_c10 : (Jvm.Cond.code ({ cls := "CyclicExecutive", name := "gcd", desc := "(II)I" } : Jvm.MethodName) prog_1_method_3_code (7 : Nat) (Option.some Jvm.ClassFile.FieldType.int)).before args0 about1 = true := code_word (m := ⟨2, 2⟩) (meth := k2m2) (c := k2c2) (by decide +kernel) rfl rfl rfl (by decide +kernel)
set_option maxRecDepth 65536 in
theorem w_c11 : (Jvm.Cond.code ({ cls := "CyclicExecutive", name := "resetDispatcher", desc := "()V" } : Jvm.MethodName) prog_1_method_5_code (2 : Nat) (Option.none : Option Jvm.ClassFile.FieldType)).before args0 about1 = true := code_word (m := ⟨2, 4⟩) (meth := k2m4) (c := k2c4) (by decide +kernel) rfl rfl rfl (by decide +kernel)
set_option maxRecDepth 65536 in
theorem w_c12 : (Jvm.Cond.code ({ cls := "CyclicExecutiveOwnLaw", name := "gcd", desc := "(II)I" } : Jvm.MethodName) method_6_code (4 : Nat) (Option.some Jvm.ClassFile.FieldType.int)).before args0 about1 = true := code_word (m := ⟨1, 5⟩) (meth := k1m5) (c := k1c5) (by decide +kernel) rfl rfl rfl (by decide +kernel)
set_option maxRecDepth 65536 in
theorem w_c13 : (Jvm.Cond.code ({ cls := "CyclicExecutive", name := "getHyperperiod", desc := "()I" } : Jvm.MethodName) prog_1_method_8_code (1 : Nat) (Option.some Jvm.ClassFile.FieldType.int)).before args0 about1 = true := code_word (m := ⟨2, 6⟩) (meth := k2m6) (c := k2c6) (by decide +kernel) rfl rfl rfl (by decide +kernel)
set_option maxRecDepth 65536 in
theorem w_c14 : (Jvm.Cond.code ({ cls := "CyclicExecutive", name := "build", desc := "(I)I" } : Jvm.MethodName) prog_1_method_15_code (4 : Nat) (Option.some Jvm.ClassFile.FieldType.int)).before args0 about1 = true := code_word (m := ⟨2, 9⟩) (meth := k2m9) (c := k2c9) (by decide +kernel) rfl rfl rfl (by decide +kernel)
set_option maxRecDepth 65536 in
theorem w_c15 : (Jvm.Cond.code ({ cls := "CyclicExecutive", name := "dividesHyper", desc := "(I)Z" } : Jvm.MethodName) prog_1_method_9_code (2 : Nat) (Option.some Jvm.ClassFile.FieldType.boolean)).before args0 about1 = true := code_word (m := ⟨2, 7⟩) (meth := k2m7) (c := k2c7) (by decide +kernel) rfl rfl rfl (by decide +kernel)
set_option maxRecDepth 65536 in
theorem w_c16 : (Jvm.Cond.code ({ cls := "CyclicExecutive", name := "deadlinesOk", desc := "(I)Z" } : Jvm.MethodName) prog_1_method_11_code (4 : Nat) (Option.some Jvm.ClassFile.FieldType.boolean)).before args0 about1 = true := code_word (m := ⟨2, 8⟩) (meth := k2m8) (c := k2c8) (by decide +kernel) rfl rfl rfl (by decide +kernel)
set_option maxRecDepth 65536 in
theorem w_c17 : (Jvm.Cond.code ({ cls := "CyclicExecutive", name := "initJobs", desc := "()V" } : Jvm.MethodName) prog_1_method_16_code (4 : Nat) (Option.none : Option Jvm.ClassFile.FieldType)).before args0 about1 = true := code_word (m := ⟨2, 10⟩) (meth := k2m10) (c := k2c10) (by decide +kernel) rfl rfl rfl (by decide +kernel)
set_option maxRecDepth 65536 in
theorem w_c18 : (Jvm.Cond.code ({ cls := "CyclicExecutive", name := "fillFrame", desc := "(II)V" } : Jvm.MethodName) prog_1_method_17_code (11 : Nat) (Option.none : Option Jvm.ClassFile.FieldType)).before args0 about1 = true := code_word (m := ⟨2, 11⟩) (meth := k2m11) (c := k2c11) (by decide +kernel) rfl rfl rfl (by decide +kernel)
set_option maxRecDepth 65536 in
theorem w_c19 : (Jvm.Cond.code ({ cls := "CyclicExecutive", name := "pickJob", desc := "(II)I" } : Jvm.MethodName) prog_1_method_18_code (9 : Nat) (Option.some Jvm.ClassFile.FieldType.int)).before args0 about1 = true := code_word (m := ⟨2, 12⟩) (meth := k2m12) (c := k2c12) (by decide +kernel) rfl rfl rfl (by decide +kernel)
set_option maxRecDepth 65536 in
theorem w_c20 : (Jvm.Cond.code ({ cls := "CyclicExecutive", name := "findMiss", desc := "()I" } : Jvm.MethodName) prog_1_method_19_code (8 : Nat) (Option.some Jvm.ClassFile.FieldType.int)).before args0 about1 = true := code_word (m := ⟨2, 13⟩) (meth := k2m13) (c := k2c13) (by decide +kernel) rfl rfl rfl (by decide +kernel)
set_option maxRecDepth 65536 in
theorem w_c21 : (Jvm.Cond.code ({ cls := "CyclicExecutive", name := "getFrame", desc := "()I" } : Jvm.MethodName) prog_1_method_20_code (1 : Nat) (Option.some Jvm.ClassFile.FieldType.int)).before args0 about1 = true := code_word (m := ⟨2, 14⟩) (meth := k2m14) (c := k2c14) (by decide +kernel) rfl rfl rfl (by decide +kernel)
set_option maxRecDepth 65536 in
theorem w_c22 : (Jvm.Cond.code ({ cls := "CyclicExecutive", name := "run", desc := "(I)I" } : Jvm.MethodName) prog_1_method_26_code (5 : Nat) (Option.some Jvm.ClassFile.FieldType.int)).before args0 about1 = true := code_word (m := ⟨2, 19⟩) (meth := k2m19) (c := k2c19) (by decide +kernel) rfl rfl rfl (by decide +kernel)
set_option maxRecDepth 65536 in
theorem w_c23 : (Jvm.Cond.code ({ cls := "CyclicExecutive", name := "getNow", desc := "()I" } : Jvm.MethodName) prog_1_method_27_code (1 : Nat) (Option.some Jvm.ClassFile.FieldType.int)).before args0 about1 = true := code_word (m := ⟨2, 20⟩) (meth := k2m20) (c := k2c20) (by decide +kernel) rfl rfl rfl (by decide +kernel)
set_option maxRecDepth 65536 in
theorem w_c24 : (Jvm.Cond.code ({ cls := "CyclicExecutive", name := "getRunTicks", desc := "(I)I" } : Jvm.MethodName) prog_1_method_28_code (2 : Nat) (Option.some Jvm.ClassFile.FieldType.int)).before args0 about1 = true := code_word (m := ⟨2, 21⟩) (meth := k2m21) (c := k2c21) (by decide +kernel) rfl rfl rfl (by decide +kernel)
set_option maxRecDepth 65536 in
theorem w_c25 : (Jvm.Cond.code ({ cls := "CyclicExecutive", name := "getTickTask", desc := "(I)I" } : Jvm.MethodName) prog_1_method_22_code (2 : Nat) (Option.some Jvm.ClassFile.FieldType.int)).before args0 about1 = true := code_word (m := ⟨2, 16⟩) (meth := k2m16) (c := k2c16) (by decide +kernel) rfl rfl rfl (by decide +kernel)
set_option maxRecDepth 65536 in
theorem w_c26 : (Jvm.Cond.code ({ cls := "CyclicExecutive", name := "validTick", desc := "(I)Z" } : Jvm.MethodName) prog_1_method_21_code (2 : Nat) (Option.some Jvm.ClassFile.FieldType.boolean)).before args0 about1 = true := code_word (m := ⟨2, 15⟩) (meth := k2m15) (c := k2c15) (by decide +kernel) rfl rfl rfl (by decide +kernel)
set_option maxRecDepth 65536 in
theorem w_c27 : (Jvm.Cond.code ({ cls := "CyclicExecutive", name := "getTickJob", desc := "(I)I" } : Jvm.MethodName) prog_1_method_23_code (2 : Nat) (Option.some Jvm.ClassFile.FieldType.int)).before args0 about1 = true := code_word (m := ⟨2, 17⟩) (meth := k2m17) (c := k2c17) (by decide +kernel) rfl rfl rfl (by decide +kernel)
set_option maxRecDepth 65536 in
theorem w_c28 : (Jvm.Cond.code ({ cls := "CyclicExecutive", name := "getSliceCount", desc := "(II)I" } : Jvm.MethodName) prog_1_method_24_code (9 : Nat) (Option.some Jvm.ClassFile.FieldType.int)).before args0 about1 = true := code_word (m := ⟨2, 18⟩) (meth := k2m18) (c := k2c18) (by decide +kernel) rfl rfl rfl (by decide +kernel)
def codes1 : List Jvm.Cond := [Jvm.Cond.code x code maxLocals ret, Jvm.Cond.code ({ cls := "CyclicExecutive", name := "<init>", desc := "(II)V" } : Jvm.MethodName) prog_1_method_1_code (3 : Nat) (Option.none : Option Jvm.ClassFile.FieldType), Jvm.Cond.code ({ cls := "java/lang/Object", name := "<init>", desc := "()V" } : Jvm.MethodName) object_method_1_code (1 : Nat) (Option.none : Option Jvm.ClassFile.FieldType), Jvm.Cond.code ({ cls := "CyclicExecutive", name := "clamp", desc := "(III)I" } : Jvm.MethodName) prog_1_method_2_code (4 : Nat) (Option.some Jvm.ClassFile.FieldType.int), Jvm.Cond.code ({ cls := "CyclicExecutiveOwnLaw", name := "cell", desc := "([II)I" } : Jvm.MethodName) method_2_code (2 : Nat) (Option.some Jvm.ClassFile.FieldType.int), Jvm.Cond.code ({ cls := "CyclicExecutiveOwnLaw", name := "period", desc := "(I)I" } : Jvm.MethodName) method_3_code (2 : Nat) (Option.some Jvm.ClassFile.FieldType.int), Jvm.Cond.code ({ cls := "CyclicExecutiveOwnLaw", name := "deadline", desc := "(II)I" } : Jvm.MethodName) method_4_code (2 : Nat) (Option.some Jvm.ClassFile.FieldType.int), Jvm.Cond.code ({ cls := "CyclicExecutiveOwnLaw", name := "wcet", desc := "(III)I" } : Jvm.MethodName) method_5_code (4 : Nat) (Option.some Jvm.ClassFile.FieldType.int), Jvm.Cond.code ({ cls := "CyclicExecutive", name := "addTask", desc := "(III)I" } : Jvm.MethodName) prog_1_method_6_code (7 : Nat) (Option.some Jvm.ClassFile.FieldType.int), Jvm.Cond.code ({ cls := "CyclicExecutive", name := "lcm", desc := "(II)I" } : Jvm.MethodName) prog_1_method_4_code (4 : Nat) (Option.some Jvm.ClassFile.FieldType.int), Jvm.Cond.code ({ cls := "CyclicExecutive", name := "gcd", desc := "(II)I" } : Jvm.MethodName) prog_1_method_3_code (7 : Nat) (Option.some Jvm.ClassFile.FieldType.int), Jvm.Cond.code ({ cls := "CyclicExecutive", name := "resetDispatcher", desc := "()V" } : Jvm.MethodName) prog_1_method_5_code (2 : Nat) (Option.none : Option Jvm.ClassFile.FieldType), Jvm.Cond.code ({ cls := "CyclicExecutiveOwnLaw", name := "gcd", desc := "(II)I" } : Jvm.MethodName) method_6_code (4 : Nat) (Option.some Jvm.ClassFile.FieldType.int), Jvm.Cond.code ({ cls := "CyclicExecutive", name := "getHyperperiod", desc := "()I" } : Jvm.MethodName) prog_1_method_8_code (1 : Nat) (Option.some Jvm.ClassFile.FieldType.int), Jvm.Cond.code ({ cls := "CyclicExecutive", name := "build", desc := "(I)I" } : Jvm.MethodName) prog_1_method_15_code (4 : Nat) (Option.some Jvm.ClassFile.FieldType.int), Jvm.Cond.code ({ cls := "CyclicExecutive", name := "dividesHyper", desc := "(I)Z" } : Jvm.MethodName) prog_1_method_9_code (2 : Nat) (Option.some Jvm.ClassFile.FieldType.boolean), Jvm.Cond.code ({ cls := "CyclicExecutive", name := "deadlinesOk", desc := "(I)Z" } : Jvm.MethodName) prog_1_method_11_code (4 : Nat) (Option.some Jvm.ClassFile.FieldType.boolean), Jvm.Cond.code ({ cls := "CyclicExecutive", name := "initJobs", desc := "()V" } : Jvm.MethodName) prog_1_method_16_code (4 : Nat) (Option.none : Option Jvm.ClassFile.FieldType), Jvm.Cond.code ({ cls := "CyclicExecutive", name := "fillFrame", desc := "(II)V" } : Jvm.MethodName) prog_1_method_17_code (11 : Nat) (Option.none : Option Jvm.ClassFile.FieldType), Jvm.Cond.code ({ cls := "CyclicExecutive", name := "pickJob", desc := "(II)I" } : Jvm.MethodName) prog_1_method_18_code (9 : Nat) (Option.some Jvm.ClassFile.FieldType.int), Jvm.Cond.code ({ cls := "CyclicExecutive", name := "findMiss", desc := "()I" } : Jvm.MethodName) prog_1_method_19_code (8 : Nat) (Option.some Jvm.ClassFile.FieldType.int), Jvm.Cond.code ({ cls := "CyclicExecutive", name := "getFrame", desc := "()I" } : Jvm.MethodName) prog_1_method_20_code (1 : Nat) (Option.some Jvm.ClassFile.FieldType.int), Jvm.Cond.code ({ cls := "CyclicExecutive", name := "run", desc := "(I)I" } : Jvm.MethodName) prog_1_method_26_code (5 : Nat) (Option.some Jvm.ClassFile.FieldType.int), Jvm.Cond.code ({ cls := "CyclicExecutive", name := "getNow", desc := "()I" } : Jvm.MethodName) prog_1_method_27_code (1 : Nat) (Option.some Jvm.ClassFile.FieldType.int), Jvm.Cond.code ({ cls := "CyclicExecutive", name := "getRunTicks", desc := "(I)I" } : Jvm.MethodName) prog_1_method_28_code (2 : Nat) (Option.some Jvm.ClassFile.FieldType.int), Jvm.Cond.code ({ cls := "CyclicExecutive", name := "getTickTask", desc := "(I)I" } : Jvm.MethodName) prog_1_method_22_code (2 : Nat) (Option.some Jvm.ClassFile.FieldType.int), Jvm.Cond.code ({ cls := "CyclicExecutive", name := "validTick", desc := "(I)Z" } : Jvm.MethodName) prog_1_method_21_code (2 : Nat) (Option.some Jvm.ClassFile.FieldType.boolean), Jvm.Cond.code ({ cls := "CyclicExecutive", name := "getTickJob", desc := "(I)I" } : Jvm.MethodName) prog_1_method_23_code (2 : Nat) (Option.some Jvm.ClassFile.FieldType.int), Jvm.Cond.code ({ cls := "CyclicExecutive", name := "getSliceCount", desc := "(II)I" } : Jvm.MethodName) prog_1_method_24_code (9 : Nat) (Option.some Jvm.ClassFile.FieldType.int)]
set_option maxRecDepth 65536 in
theorem codes_eq : words1.filter isCode = codes1 := rfl
theorem w_codes : ∀ c ∈ words1.filter isCode, c.before args0 about1 = true := by
  rw [codes_eq]
  intro c hc
  simp only [codes1, List.mem_cons, List.not_mem_nil, or_false] at hc
  rcases hc with rfl | rfl | rfl | rfl | rfl | rfl | rfl | rfl | rfl | rfl | rfl | rfl | rfl | rfl | rfl | rfl | rfl | rfl | rfl | rfl | rfl | rfl | rfl | rfl | rfl | rfl | rfl | rfl | rfl
  · exact w_c0
  · exact w_c1
  · exact w_c2
  · exact w_c3
  · exact w_c4
  · exact w_c5
  · exact w_c6
  · exact w_c7
  · exact w_c8
  · exact w_c9
  · exact w_c10
  · exact w_c11
  · exact w_c12
  · exact w_c13
  · exact w_c14
  · exact w_c15
  · exact w_c16
  · exact w_c17
  · exact w_c18
  · exact w_c19
  · exact w_c20
  · exact w_c21
  · exact w_c22
  · exact w_c23
  · exact w_c24
  · exact w_c25
  · exact w_c26
  · exact w_c27
  · exact w_c28
set_option maxRecDepth 65536 in
theorem w_t1 : (words1.take 24).all (fun c => isCode c || c.before args0 about1) = true := by decide +kernel
set_option maxRecDepth 65536 in
theorem w_t2 : ((words1.drop 24).take 24).all (fun c => isCode c || c.before args0 about1) = true := by decide +kernel
set_option maxRecDepth 65536 in
theorem w_t3 : (((words1.drop 24).drop 24).take 24).all (fun c => isCode c || c.before args0 about1) = true := by decide +kernel
set_option maxRecDepth 65536 in
theorem w_t4 : ((((words1.drop 24).drop 24).drop 24).take 24).all (fun c => isCode c || c.before args0 about1) = true := by decide +kernel
set_option maxRecDepth 65536 in
theorem w_t5 : (((((words1.drop 24).drop 24).drop 24).drop 24).take 24).all (fun c => isCode c || c.before args0 about1) = true := by decide +kernel
set_option maxRecDepth 65536 in
theorem w_t6 : ((((((words1.drop 24).drop 24).drop 24).drop 24).drop 24).take 24).all (fun c => isCode c || c.before args0 about1) = true := by decide +kernel
set_option maxRecDepth 65536 in
theorem w_t7 : ((((((words1.drop 24).drop 24).drop 24).drop 24).drop 24).drop 24).all (fun c => isCode c || c.before args0 about1) = true := by decide +kernel
theorem w_tables : (allAtoms (Jvm.Cond.code x code maxLocals ret :: tables_1)).before args0 about1 = true := by
  rw [allAtoms_all]
  show words1.all (fun c => c.before args0 about1) = true
  refine all_split ?_ w_codes
  rw [← List.take_append_drop 24 words1, List.all_append, w_t1, ← List.take_append_drop 24 (words1.drop 24), List.all_append, w_t2, ← List.take_append_drop 24 ((words1.drop 24).drop 24), List.all_append, w_t3, ← List.take_append_drop 24 (((words1.drop 24).drop 24).drop 24), List.all_append, w_t4, ← List.take_append_drop 24 ((((words1.drop 24).drop 24).drop 24).drop 24), List.all_append, w_t5, ← List.take_append_drop 24 (((((words1.drop 24).drop 24).drop 24).drop 24).drop 24), List.all_append, w_t6, w_t7]
  rfl
set_option maxRecDepth 65536 in
theorem w_rest : rest_1_c.before args0 about1 = true := by decide +kernel
set_option maxRecDepth 65536 in
theorem w_case : (Jvm.Cond.and given_1 narrow_1).before args0 about1 = true := by decide +kernel
theorem w_applies : (headSpec (Jvm.Cond.code x code maxLocals ret :: tables_1) room_1).applies x e0.platform about1 = true :=
  (Spec.applies_iff w_frames).mpr ⟨w_running, w_runnable, w_alone, w_named, w_hears, w_ripe, w_room, w_tables⟩
theorem atStart : AtStart classFile x code maxLocals ret World_1 tables_1 room_1 Calls_1 rest_1 Pre_1 launch0 p0 e0 about1 theMethod args0 below0 :=
  ⟨lists_1, trivial, launch0.admits_env _ _ _, launch0.least_env, fairChoices_fair.cas, fairChoices_fair.clock, w_frames, w_args, w_heap, w_applies, trivial, w_rest, w_case⟩
end start1
theorem witness_1 : WitnessClaimed_1 := ⟨start1.p0, start1.e0, start1.about1, start1.theMethod, start1.args0, start1.below0, start1.atStart⟩
end Jvm.Pilot.@@N@@
