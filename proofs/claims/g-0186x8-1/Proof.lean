import JvmDerived
import JvmDerived.Pilot.@@N@@Statement
import JvmDerived.Pilot.@@N@@Code
set_option linter.unusedVariables false
set_option linter.unusedSimpArgs false
namespace Jvm.RoadKit
open Sem ClassFile Op Lib Jvm.Stand Jvm.Free Jvm.LawKit
section New
variable {p : Program} {l : Launch} {e : Env} {R : Room} {s : State} {m : MethodId} {args : Array Value} {below : List Frame} {meth : Method} {c : Code} {T : State} {locs : List Loc} {cells slots : Nat}
theorem retI (X : Stand p l e R s m args below meth c T locs cells slots) (hx : p.tables.exec = Jvm.exec) {pc : Nat} {Ls : Array Slot} {z : Int32} {rest : List Value} (hret : meth.sig.returnType = some .int) (hd : decode c.code pc = .ok (.ireturn, 1)) {fs : List Frame}
    (hl : ∀ (f : JFrame) (acts : List Action), f.method = m → f.locked = none → f.entered = [] → (doReturn e (T.setTop f) acts (some (.int z))).1 = T.setFrames fs) : Steps p.tables e below (T.setTop (mkF m pc Ls (.int z :: rest))) (T.setFrames fs) := by
  have hm' : T.vm.method? m = some meth := X.method'
  have hn : narrow .int (.int z) = .int z := rfl
  show Steps p.tables e below (T.setTop { method := m, pc := pc, locals := Ls, stack := _ :: rest, locked := none }) _
  jvm_step X.here [X.here.top, hx, hd, hm', hret, hn]
  first | (intro acts; rw [hl _ acts rfl rfl rfl]) | rw [hl _ _ rfl rfl rfl]
  exact Steps.refl _
end New
end Jvm.RoadKit
namespace Jvm.Own
open Jvm Jvm.ClassFile Sem Op Lib Jvm.Free Jvm.Stand Jvm.LawKit Jvm.RoadKit
/-! ## 1. Local variables: what the walk knows of them (L) and what they are (r) -/
def rv (ρ : Nat → Addr) : Value → Value
  | .ref k => .ref (ρ k)
  | .int x => .int x
  | .long x => .long x
  | .float x => .float x
  | .double x => .double x
  | .null => .null
  | .retAddr x => .retAddr x
def rs (ρ : Nat → Addr) : Slot → Slot
  | .val v => .val (rv ρ v)
  | .unset => .unset
  | .second => .second
theorem rv_cat (ρ : Nat → Addr) (v : Value) : (rv ρ v).category = v.category := by cases v <;> rfl
def WR (f : Nat → Option Slot) : Prop := (∀ i v, f i = some (.val v) → v.category = 2 → f (i + 1) = some .second) ∧ (∀ i, f i = some .second → ∃ j v, i = j + 1 ∧ f j = some (.val v) ∧ v.category = 2)
def up (f : Nat → Option Slot) (i : Nat) (x : Slot) : Nat → Option Slot := fun k => if k = i then some x else f k
def C1 (s : Option Slot) : Prop := s = some .unset ∨ ∃ w, s = some (.val w) ∧ w.category = 1
theorem C1.not2 {s : Option Slot} (h : C1 s) : s ≠ some .second ∧ ∀ v, s = some (.val v) → v.category ≠ 2 := by
  rcases h with rfl | ⟨w, rfl, h⟩
  · exact ⟨nofun, nofun⟩
  · exact ⟨nofun, fun v e q => by cases e; omega⟩
theorem up_at (f : Nat → Option Slot) (i : Nat) (x : Slot) : up f i x i = some x := by simp [up]
theorem up_ne (f : Nat → Option Slot) {i k : Nat} (x : Slot) (h : k ≠ i) : up f i x k = f k := by simp [up, h]
theorem WR.one {f : Nat → Option Slot} {i : Nat} {x : Slot} (h : WR f) (hi : C1 (f i)) (hx : C1 (some x)) : WR (up f i x) := by
  obtain ⟨n1, n2⟩ := hi.not2
  obtain ⟨m1, m2⟩ := hx.not2
  constructor
  · intro k v hk hv
    by_cases e : k = i
    · subst e; rw [up_at] at hk; exact absurd hv (m2 v hk)
    · rw [up_ne _ _ e] at hk
      have q := h.1 k v hk hv
      by_cases e2 : k + 1 = i
      · rw [e2] at q; exact absurd q n1
      · rw [up_ne _ _ e2]; exact q
  · intro k hk
    by_cases e : k = i
    · subst e; rw [up_at] at hk; exact absurd hk m1
    · rw [up_ne _ _ e] at hk
      obtain ⟨j, v, e1, e2, e3⟩ := h.2 k hk
      refine ⟨j, v, e1, ?_, e3⟩
      by_cases e4 : j = i
      · rw [e4] at e2; exact absurd e3 (n2 v e2)
      · rw [up_ne _ _ e4]; exact e2
theorem WR.clr {f : Nat → Option Slot} {j : Nat} {v : Value} (h : WR f) (hj : f j = some (.val v)) (hv : v.category = 2) : WR (up (up f j .unset) (j + 1) .unset) := by
  have q := h.1 j v hj hv
  constructor
  · intro k w hk hw
    by_cases e : k = j + 1
    · subst e; rw [up_at] at hk; cases hk
    · rw [up_ne _ _ e] at hk
      by_cases e2 : k = j
      · subst e2; rw [up_at] at hk; cases hk
      · rw [up_ne _ _ e2] at hk
        have q2 := h.1 k w hk hw
        by_cases e3 : k + 1 = j
        · rw [e3] at q2; rw [hj] at q2; cases q2
        · rw [up_ne _ _ (show k + 1 ≠ j + 1 by omega), up_ne _ _ e3]; exact q2
  · intro k hk
    by_cases e : k = j + 1
    · subst e; rw [up_at] at hk; cases hk
    · rw [up_ne _ _ e] at hk
      by_cases e2 : k = j
      · subst e2; rw [up_at] at hk; cases hk
      · rw [up_ne _ _ e2] at hk
        obtain ⟨i, w, e3, e4, e5⟩ := h.2 k hk
        refine ⟨i, w, e3, ?_, e5⟩
        by_cases e6 : i = j + 1
        · rw [e6, q] at e4; cases e4
        · rw [up_ne _ _ e6, up_ne _ _ (show i ≠ j by omega)]; exact e4
theorem WR.two {f : Nat → Option Slot} {i : Nat} {v : Value} (h : WR f) (h1 : C1 (f i)) (h2 : C1 (f (i + 1))) (hv : v.category = 2) : WR (up (up f i (.val v)) (i + 1) .second) := by
  obtain ⟨n1, n2⟩ := h1.not2
  obtain ⟨m1, m2⟩ := h2.not2
  constructor
  · intro k w hk hw
    by_cases e : k = i + 1
    · subst e; rw [up_at] at hk; cases hk
    · rw [up_ne _ _ e] at hk
      by_cases e2 : k = i
      · subst e2; exact up_at _ _ _
      · rw [up_ne _ _ e2] at hk
        have q := h.1 k w hk hw
        by_cases e3 : k + 1 = i
        · rw [e3] at q; exact absurd q n1
        · rw [up_ne _ _ (show k + 1 ≠ i + 1 by omega), up_ne _ _ e3]; exact q
  · intro k hk
    by_cases e : k = i + 1
    · exact ⟨i, v, e, by rw [up_ne _ _ (show i ≠ i + 1 by omega), up_at], hv⟩
    · rw [up_ne _ _ e] at hk
      by_cases e2 : k = i
      · subst e2; rw [up_at] at hk; cases hk
      · rw [up_ne _ _ e2] at hk
        obtain ⟨j, w, e3, e4, e5⟩ := h.2 k hk
        refine ⟨j, w, e3, ?_, e5⟩
        by_cases e6 : j = i + 1
        · rw [e6] at e4; exact absurd e5 (m2 w e4)
        · by_cases e7 : j = i
          · omega
          · rw [up_ne _ _ e6, up_ne _ _ e7]; exact e4
theorem up_arr {r : Array Slot} {i : Nat} (hi : i < r.size) (x : Slot) : (fun k => (r.setIfInBounds i x)[k]?) = up (fun k => r[k]?) i x := by
  funext k
  show (r.setIfInBounds i x)[k]? = _
  rw [Array.getElem?_setIfInBounds]
  by_cases e : i = k
  · subst e; simp [up, hi]
  · rw [if_neg e, up_ne _ _ (Ne.symm e)]
theorem up_lst {L : List Slot} {i : Nat} (hi : i < L.length) (x : Slot) : (fun k => (L.set i x)[k]?) = up (fun k => L[k]?) i x := by
  funext k
  show (L.set i x)[k]? = _
  rw [List.getElem?_set]
  by_cases e : i = k
  · subst e; simp [up, hi]
  · rw [if_neg e, up_ne _ _ (Ne.symm e)]
def SR (ρ : Nat → Addr) (L : List Slot) (r : Array Slot) : Prop :=
  r.size = L.length ∧ (∀ (i : Nat) (v : Value), L[i]? = some (.val v) → r[i]? = some (.val (rv ρ v))) ∧ (∀ (i : Nat), L[i]? = some .second → r[i]? = some .second) ∧ WR (fun k => L[k]?) ∧ WR (fun k => r[k]?)
theorem SR.get {ρ : Nat → Addr} {L : List Slot} {r : Array Slot} (h : SR ρ L r) {i : Nat} {v : Value} (e : L[i]? = some (.val v)) : r[i]? = some (.val (rv ρ v)) := h.2.1 i v e
/-- a store of one word over nothing or one word -/
theorem SR.st1 {ρ : Nat → Addr} {L : List Slot} {r : Array Slot} {i : Nat} {v : Value} (h : SR ρ L r) (ho : C1 L[i]?) (hv : v.category = 1) :
    ∃ r', storeLocals r i (rv ρ v) = some r' ∧ SR ρ (L.set i (.val v)) r' := by
  obtain ⟨h1, h2, h3, h4, h5⟩ := h
  have hi : i < L.length := by
    rcases ho with h | ⟨w, h, -⟩ <;> exact (List.getElem?_eq_some_iff.mp h).1
  have hir : i < r.size := by omega
  have hcv : (rv ρ v).category = 1 := by rw [rv_cat]; exact hv
  have hcx : C1 (some (Slot.val (rv ρ v))) := Or.inr ⟨_, rfl, hcv⟩
  obtain ⟨n1, n2⟩ := ho.not2
  have fin : ∀ r' : Array Slot, r'.size = r.size → WR (fun k => r'[k]?) → r'[i]? = some (.val (rv ρ v)) → (∀ k, k ≠ i → r'[k]? = r[k]? ∨ ∀ s, L[k]? = some s → s = .unset) → SR ρ (L.set i (.val v)) r' := by
    intro r' a1 a2 a3 a4
    refine ⟨by rw [a1, h1, List.length_set], ?_, ?_, by rw [up_lst hi]; exact h4.one ho (Or.inr ⟨v, rfl, hv⟩), a2⟩
    · intro k w hk
      rw [List.getElem?_set] at hk
      by_cases e : i = k
      · subst e; simp [hi] at hk; subst hk; exact a3
      · rw [if_neg e] at hk
        rcases a4 k (Ne.symm e) with q | q
        · rw [q]; exact h2 k w hk
        · cases q _ hk
    · intro k hk
      rw [List.getElem?_set] at hk
      by_cases e : i = k
      · subst e; simp [hi] at hk
      · rw [if_neg e] at hk
        rcases a4 k (Ne.symm e) with q | q
        · rw [q]; exact h3 k hk
        · cases q _ hk
  obtain ⟨q, hq⟩ : ∃ q, r[i]? = some q := ⟨_, Array.getElem?_eq_getElem hir⟩
  have plain : C1 (r[i]?) → ∃ r', storeLocals r i (rv ρ v) = some r' ∧ SR ρ (L.set i (.val v)) r' := by
    intro hC
    have hs : storeLocals r i (rv ρ v) = some (r.setIfInBounds i (.val (rv ρ v))) := by
      rcases hC with e | ⟨w, e, hw⟩
      · exact XS.store1 e (Or.inl rfl) hcv
      · exact XS.store1 e (Or.inr ⟨w, rfl, hw⟩) hcv
    refine ⟨_, hs, fin _ (by simp) (by rw [up_arr hir]; exact h5.one hC hcx) (by simp [hir]) ?_⟩
    intro k hk
    exact Or.inl (Array.getElem?_setIfInBounds_ne (Ne.symm hk))
  cases q with
  | unset => exact plain (Or.inl hq)
  | val w =>
    by_cases hw : w.category = 2
    · have q2 := h5.1 i w hq hw
      have hj : i + 1 < r.size := (Array.getElem?_eq_some_iff.mp q2).1
      have Lu : ∀ k, (k = i ∨ k = i + 1) → ∀ s, L[k]? = some s → s = .unset := by
        intro k hk s hs
        cases s with
        | unset => rfl
        | second =>
          rcases hk with rfl | rfl
          · exact absurd hs n1
          · obtain ⟨j, u, e1, e2, e3⟩ := h4.2 _ hs
            have : j = i := by omega
            subst this
            exact absurd e3 (n2 u e2)
        | val u =>
          rcases hk with rfl | rfl
          · have := h2 _ _ hs
            rw [hq] at this
            cases this
            rw [rv_cat] at hw
            exact absurd hw (n2 u hs)
          · have := h2 _ _ hs
            have q3 : r[i + 1]? = some .second := q2
            rw [q3] at this; cases this
      have hs : storeLocals r i (rv ρ v) = some ((r.setIfInBounds (i + 1) .unset).setIfInBounds i (.val (rv ρ v))) := by
        simp [storeLocals, storeSelf, setAt, hq, (Array.getElem?_eq_some_iff.mp hq).2, hw, hj, hir, hcv]
      refine ⟨_, hs, fin _ (by simp) ?_ (by simp [hir]) ?_⟩
      · have e : (fun k => ((r.setIfInBounds (i + 1) .unset).setIfInBounds i (.val (rv ρ v)))[k]?) = up (up (up (fun k => r[k]?) i .unset) (i + 1) .unset) i (.val (rv ρ v)) := by
          rw [up_arr (by simpa using hir), up_arr hj]
          funext k
          simp only [up]
          by_cases e : k = i
          · simp [e]
          · simp [e]
        rw [e]
        exact (h5.clr hq hw).one (Or.inl (by simp [up])) hcx
      · intro k hk
        by_cases e : k = i + 1
        · exact Or.inr (Lu k (Or.inr e))
        · left
          rw [Array.getElem?_setIfInBounds_ne (Ne.symm hk), Array.getElem?_setIfInBounds_ne (Ne.symm e)]
    · refine plain (Or.inr ⟨w, hq, ?_⟩)
      cases w <;> simp [Value.category] at hw ⊢
  | second =>
    obtain ⟨j, u, e1, e2, e3⟩ := h5.2 i hq
    subst e1
    have e2' : r[j]? = some (.val u) := e2
    have hj : j < r.size := by omega
    have Lu : ∀ s, L[j]? = some s → s = .unset := by
      intro s hs
      cases s with
      | unset => rfl
      | second => have := h3 _ hs; rw [e2'] at this; cases this
      | val w =>
        have := h2 _ _ hs
        rw [e2'] at this
        cases this
        rw [rv_cat] at e3
        exact absurd (h4.1 j w hs e3) n1
    have hs : storeLocals r (j + 1) (rv ρ v) = some ((r.setIfInBounds j .unset).setIfInBounds (j + 1) (.val (rv ρ v))) := by
      simp [storeLocals, storeSelf, setAt, hq, (Array.getElem?_eq_some_iff.mp hq).2, hj, hir, hcv]
    refine ⟨_, hs, fin _ (by simp) ?_ (by simp [hir]) ?_⟩
    · have e : (fun k => ((r.setIfInBounds j .unset).setIfInBounds (j + 1) (.val (rv ρ v)))[k]?) = up (up (up (fun k => r[k]?) j .unset) (j + 1) .unset) (j + 1) (.val (rv ρ v)) := by
        rw [up_arr (by simpa using hir), up_arr hj]
        funext k
        simp only [up]
        by_cases e : k = j + 1
        · simp [e]
        · simp [e]
      rw [e]
      exact (h5.clr e2 e3).one (Or.inl (by simp [up])) hcx
    · intro k hk
      by_cases e : k = j
      · subst e; exact Or.inr Lu
      · left
        rw [Array.getElem?_setIfInBounds_ne (Ne.symm hk), Array.getElem?_setIfInBounds_ne (Ne.symm e)]
end Jvm.Own

namespace Jvm.Own
open Jvm Jvm.ClassFile Sem Op Lib Jvm.Free Jvm.Stand Jvm.LawKit Jvm.RoadKit
theorem cat12 (w : Value) (h : ¬ w.category = 2) : w.category = 1 := by cases w <;> simp [Value.category] at h ⊢
theorem getset_ne {r : Array Slot} {i k : Nat} {x t : Slot} (h : r[k]? = some t) (ne : i ≠ k) (hk : k < (r.setIfInBounds i x).size) : (r.setIfInBounds i x)[k] = t := by
  have q : (r.setIfInBounds i x)[k]? = some t := by rw [Array.getElem?_setIfInBounds_ne ne]; exact h
  exact (Array.getElem?_eq_some_iff.mp q).2
/-- a store of two words over nothing or single words -/
theorem SR.st2 {ρ : Nat → Addr} {L : List Slot} {r : Array Slot} {i : Nat} {v : Value} (h : SR ρ L r) (ho : C1 L[i]?) (ho' : C1 L[i + 1]?) (hv : v.category = 2) :
    ∃ r', storeLocals r i (rv ρ v) = some r' ∧ SR ρ ((L.set i (.val v)).set (i + 1) .second) r' := by
  obtain ⟨h1, h2, h3, h4, h5⟩ := h
  have hi : i + 1 < L.length := by
    rcases ho' with h | ⟨w, h, -⟩ <;> exact (List.getElem?_eq_some_iff.mp h).1
  have hir1 : i + 1 < r.size := by omega
  have hir : i < r.size := by omega
  have hcv : (rv ρ v).category = 2 := by rw [rv_cat]; exact hv
  obtain ⟨n1, n2⟩ := ho.not2
  obtain ⟨m1, m2⟩ := ho'.not2
  have nr : ∀ w, r[i]? = some (.val w) → ∀ u, L[i]? = some (.val u) → w.category = 2 → False := by
    intro w hw u hu hc
    have := h2 _ _ hu
    rw [hw] at this; cases this
    rw [rv_cat] at hc
    exact n2 u hu hc
  have fin : ∀ r' : Array Slot, r'.size = r.size → WR (fun k => r'[k]?) → r'[i]? = some (.val (rv ρ v)) → r'[i + 1]? = some .second → (∀ k, k ≠ i → k ≠ i + 1 → r'[k]? = r[k]? ∨ ∀ s, L[k]? = some s → s = .unset) → SR ρ ((L.set i (.val v)).set (i + 1) .second) r' := by
    intro r' a1 a2 a3 a3' a4
    refine ⟨by rw [a1, h1]; simp, ?_, ?_, by rw [up_lst (by simpa using hi), up_lst (by omega)]; exact h4.two ho ho' hv, a2⟩
    · intro k w hk
      rw [List.getElem?_set] at hk
      by_cases e : i + 1 = k
      · subst e; simp [hi] at hk
      · rw [if_neg e, List.getElem?_set] at hk
        by_cases e2 : i = k
        · subst e2; simp [show i < L.length by omega] at hk; subst hk; exact a3
        · rw [if_neg e2] at hk
          rcases a4 k (Ne.symm e2) (Ne.symm e) with q | q
          · rw [q]; exact h2 k w hk
          · cases q _ hk
    · intro k hk
      rw [List.getElem?_set] at hk
      by_cases e : i + 1 = k
      · subst e; exact a3'
      · rw [if_neg e, List.getElem?_set] at hk
        by_cases e2 : i = k
        · subst e2; simp [show i < L.length by omega] at hk
        · rw [if_neg e2] at hk
          rcases a4 k (Ne.symm e2) (Ne.symm e) with q | q
          · rw [q]; exact h3 k hk
          · cases q _ hk
  have Lun2 : ∀ u, r[i + 1]? = some (.val u) → u.category = 2 → ∀ s, L[i + 2]? = some s → s = .unset := by
    intro u hu hc s hs
    have q2 : r[i + 2]? = some .second := h5.1 (i + 1) u hu hc
    cases s with
    | unset => rfl
    | second =>
      obtain ⟨j, w, e1, e2, e3⟩ := h4.2 _ hs
      have : j = i + 1 := by omega
      subst this
      exact absurd e3 (m2 w e2)
    | val w => have := h2 _ _ hs; rw [q2] at this; cases this
  obtain ⟨q, hq⟩ : ∃ q, r[i]? = some q := ⟨_, Array.getElem?_eq_getElem hir⟩
  obtain ⟨q1, hq1⟩ : ∃ q, r[i + 1]? = some q := ⟨_, Array.getElem?_eq_getElem hir1⟩
  have ne1 : i + 1 ≠ i := by omega
  cases q with
  | unset =>
    have hC : C1 (r[i]?) := Or.inl hq
    cases q1 with
    | unset =>
      refine ⟨(r.setIfInBounds i (.val (rv ρ v))).setIfInBounds (i + 1) .second, by simp [storeLocals, storeSelf, setAt, hq, (Array.getElem?_eq_some_iff.mp hq).2, hq1, (Array.getElem?_eq_some_iff.mp hq1).2, hir, hir1, hcv, Array.getElem?_setIfInBounds], fin _ (by simp) ?_ (by simp [hir, Array.getElem?_setIfInBounds]) (by simp [hir1]) ?_⟩
      · rw [up_arr (by simpa using hir1), up_arr hir]; exact h5.two hC (Or.inl hq1) hcv
      · intro k a b; left; rw [Array.getElem?_setIfInBounds_ne (Ne.symm b), Array.getElem?_setIfInBounds_ne (Ne.symm a)]
    | second => obtain ⟨j, w, e1, e2, e3⟩ := h5.2 _ hq1; have : j = i := by omega
                subst this; have e2' : r[j]? = some (.val w) := e2; rw [hq] at e2'; cases e2'
    | val u =>
      by_cases hu : u.category = 2
      · have q2 : r[i + 2]? = some .second := h5.1 (i + 1) u hq1 hu
        have hi2 : i + 2 < r.size := (Array.getElem?_eq_some_iff.mp q2).1
        refine ⟨((r.setIfInBounds i (.val (rv ρ v))).setIfInBounds (i + 2) .unset).setIfInBounds (i + 1) .second, by simp [storeLocals, storeSelf, setAt, hq, (Array.getElem?_eq_some_iff.mp hq).2, hq1, (Array.getElem?_eq_some_iff.mp hq1).2, hir, hir1, hi2, hcv, hu, Array.getElem?_setIfInBounds], fin _ (by simp) ?_ (by simp [hir, Array.getElem?_setIfInBounds]) (by simp [hir1]) ?_⟩
        · have e : (fun k => (((r.setIfInBounds i (.val (rv ρ v))).setIfInBounds (i + 2) .unset).setIfInBounds (i + 1) .second)[k]?) = up (up (up (up (fun k => r[k]?) (i + 1) .unset) (i + 2) .unset) i (.val (rv ρ v))) (i + 1) .second := by
            rw [up_arr (by simpa using hir1), up_arr (by simpa using hi2), up_arr hir]
            funext k
            simp only [up]
            by_cases e : k = i + 1
            · simp [e]
            · by_cases e2 : k = i
              · simp [e2]
              · simp [e, e2]
          rw [e]
          exact (h5.clr hq1 hu).two (Or.inl (by simp [up, hq] <;> omega)) (Or.inl (by simp [up] <;> omega)) hcv
        · intro k a b
          by_cases e : k = i + 2
          · subst e; exact Or.inr (Lun2 u hq1 hu)
          · left; rw [Array.getElem?_setIfInBounds_ne (Ne.symm b), Array.getElem?_setIfInBounds_ne (Ne.symm e), Array.getElem?_setIfInBounds_ne (Ne.symm a)]
      · refine ⟨(r.setIfInBounds i (.val (rv ρ v))).setIfInBounds (i + 1) .second, by simp [storeLocals, storeSelf, setAt, hq, (Array.getElem?_eq_some_iff.mp hq).2, hq1, (Array.getElem?_eq_some_iff.mp hq1).2, hir, hir1, hcv, hu, Array.getElem?_setIfInBounds], fin _ (by simp) ?_ (by simp [hir, Array.getElem?_setIfInBounds]) (by simp [hir1]) ?_⟩
        · rw [up_arr (by simpa using hir1), up_arr hir]; exact h5.two hC (Or.inr ⟨u, hq1, cat12 u hu⟩) hcv
        · intro k a b; left; rw [Array.getElem?_setIfInBounds_ne (Ne.symm b), Array.getElem?_setIfInBounds_ne (Ne.symm a)]
  | val w =>
    by_cases hw : w.category = 2
    · have q2 : r[i + 1]? = some .second := h5.1 i w hq hw
      have Lu : ∀ s, L[i]? = some s → s = .unset := by
        intro s hs
        cases s with
        | unset => rfl
        | second => exact absurd hs n1
        | val u => exact (nr w hq u hs hw).elim
      refine ⟨((r.setIfInBounds (i + 1) .unset).setIfInBounds i (.val (rv ρ v))).setIfInBounds (i + 1) .second, by simp [storeLocals, storeSelf, setAt, hq, (Array.getElem?_eq_some_iff.mp hq).2, hw, hir, hir1, hcv, Array.getElem?_setIfInBounds], fin _ (by simp) ?_ (by simp [hir, Array.getElem?_setIfInBounds]) (by simp [hir1]) ?_⟩
      · have e : (fun k => (((r.setIfInBounds (i + 1) .unset).setIfInBounds i (.val (rv ρ v))).setIfInBounds (i + 1) .second)[k]?) = up (up (up (up (fun k => r[k]?) i .unset) (i + 1) .unset) i (.val (rv ρ v))) (i + 1) .second := by
          rw [up_arr (by simpa using hir1), up_arr (by simpa using hir), up_arr hir1]
          funext k
          simp only [up]
          by_cases e : k = i + 1
          · simp [e]
          · by_cases e2 : k = i
            · simp [e2]
            · simp [e, e2]
        rw [e]
        exact (h5.clr hq hw).two (Or.inl (by simp [up] <;> omega)) (Or.inl (by simp [up] <;> omega)) hcv
      · intro k a b
        left; rw [Array.getElem?_setIfInBounds_ne (Ne.symm b), Array.getElem?_setIfInBounds_ne (Ne.symm a), Array.getElem?_setIfInBounds_ne (Ne.symm b)]
    · have hC : C1 (r[i]?) := Or.inr ⟨w, hq, cat12 w hw⟩
      cases q1 with
      | unset =>
        refine ⟨(r.setIfInBounds i (.val (rv ρ v))).setIfInBounds (i + 1) .second, by simp [storeLocals, storeSelf, setAt, hq, (Array.getElem?_eq_some_iff.mp hq).2, hq1, (Array.getElem?_eq_some_iff.mp hq1).2, hw, hir, hir1, hcv, Array.getElem?_setIfInBounds], fin _ (by simp) ?_ (by simp [hir, Array.getElem?_setIfInBounds]) (by simp [hir1]) ?_⟩
        · rw [up_arr (by simpa using hir1), up_arr hir]; exact h5.two hC (Or.inl hq1) hcv
        · intro k a b; left; rw [Array.getElem?_setIfInBounds_ne (Ne.symm b), Array.getElem?_setIfInBounds_ne (Ne.symm a)]
      | second => obtain ⟨j, u, e1, e2, e3⟩ := h5.2 _ hq1; have : j = i := by omega
                  subst this; have e2' : r[j]? = some (.val u) := e2; rw [hq] at e2'; cases e2'; exact absurd e3 hw
      | val u =>
        by_cases hu : u.category = 2
        · have q2 : r[i + 2]? = some .second := h5.1 (i + 1) u hq1 hu
          have hi2 : i + 2 < r.size := (Array.getElem?_eq_some_iff.mp q2).1
          refine ⟨((r.setIfInBounds i (.val (rv ρ v))).setIfInBounds (i + 2) .unset).setIfInBounds (i + 1) .second, by simp [storeLocals, storeSelf, setAt, hq, (Array.getElem?_eq_some_iff.mp hq).2, hq1, (Array.getElem?_eq_some_iff.mp hq1).2, hw, hir, hir1, hi2, hcv, hu, Array.getElem?_setIfInBounds], fin _ (by simp) ?_ (by simp [hir, Array.getElem?_setIfInBounds]) (by simp [hir1]) ?_⟩
          · have e : (fun k => (((r.setIfInBounds i (.val (rv ρ v))).setIfInBounds (i + 2) .unset).setIfInBounds (i + 1) .second)[k]?) = up (up (up (up (fun k => r[k]?) (i + 1) .unset) (i + 2) .unset) i (.val (rv ρ v))) (i + 1) .second := by
              rw [up_arr (by simpa using hir1), up_arr (by simpa using hi2), up_arr hir]
              funext k
              simp only [up]
              by_cases e : k = i + 1
              · simp [e]
              · by_cases e2 : k = i
                · simp [e2]
                · simp [e, e2]
            rw [e]
            exact (h5.clr hq1 hu).two (Or.inr ⟨w, by simp [up, hq] <;> omega, cat12 w hw⟩) (Or.inl (by simp [up] <;> omega)) hcv
          · intro k a b
            by_cases e : k = i + 2
            · subst e; exact Or.inr (Lun2 u hq1 hu)
            · left; rw [Array.getElem?_setIfInBounds_ne (Ne.symm b), Array.getElem?_setIfInBounds_ne (Ne.symm e), Array.getElem?_setIfInBounds_ne (Ne.symm a)]
        · refine ⟨(r.setIfInBounds i (.val (rv ρ v))).setIfInBounds (i + 1) .second, by simp [storeLocals, storeSelf, setAt, hq, (Array.getElem?_eq_some_iff.mp hq).2, hq1, (Array.getElem?_eq_some_iff.mp hq1).2, hw, hir, hir1, hcv, hu, Array.getElem?_setIfInBounds], fin _ (by simp) ?_ (by simp [hir, Array.getElem?_setIfInBounds]) (by simp [hir1]) ?_⟩
          · rw [up_arr (by simpa using hir1), up_arr hir]; exact h5.two hC (Or.inr ⟨u, hq1, cat12 u hu⟩) hcv
          · intro k a b; left; rw [Array.getElem?_setIfInBounds_ne (Ne.symm b), Array.getElem?_setIfInBounds_ne (Ne.symm a)]
  | second =>
    obtain ⟨j, y, e1, e2, e3⟩ := h5.2 i hq
    subst e1
    have e2' : r[j]? = some (.val y) := e2
    have hj : j < r.size := by omega
    have Lu : ∀ s, L[j]? = some s → s = .unset := by
      intro s hs
      cases s with
      | unset => rfl
      | second => have := h3 _ hs; rw [e2'] at this; cases this
      | val w =>
        have := h2 _ _ hs
        rw [e2'] at this
        cases this
        rw [rv_cat] at e3
        exact absurd (h4.1 j w hs e3) n1
    have W5 := h5.clr e2 e3
    cases q1 with
    | unset =>
      refine ⟨((r.setIfInBounds j .unset).setIfInBounds (j + 1) (.val (rv ρ v))).setIfInBounds (j + 1 + 1) .second, by simp [storeLocals, storeSelf, setAt, hq, (Array.getElem?_eq_some_iff.mp hq).2, hq1, (Array.getElem?_eq_some_iff.mp hq1).2, getset_ne hq1 (show j ≠ j + 1 + 1 by omega), hj, hir, hir1, hcv, Array.getElem?_setIfInBounds], fin _ (by simp) ?_ (by simp [hir, Array.getElem?_setIfInBounds]) (by simp [hir1]) ?_⟩
      · have e : (fun k => (((r.setIfInBounds j .unset).setIfInBounds (j + 1) (.val (rv ρ v))).setIfInBounds (j + 1 + 1) .second)[k]?) = up (up (up (up (fun k => r[k]?) j .unset) (j + 1) .unset) (j + 1) (.val (rv ρ v))) (j + 1 + 1) .second := by
          rw [up_arr (by simpa using hir1), up_arr (by simpa using hir), up_arr hj]
          funext k
          simp only [up]
          by_cases e : k = j + 1 + 1
          · simp [e]
          · by_cases e2 : k = j + 1
            · simp [e2]
            · simp [e, e2]
        rw [e]
        exact W5.two (Or.inl (by simp [up] <;> omega)) (Or.inl (by simp [up, hq1] <;> omega)) hcv
      · intro k a b
        by_cases e : k = j
        · subst e; exact Or.inr Lu
        · left; rw [Array.getElem?_setIfInBounds_ne (Ne.symm b), Array.getElem?_setIfInBounds_ne (Ne.symm a), Array.getElem?_setIfInBounds_ne (Ne.symm e)]
    | second => obtain ⟨k, w, f1, f2, f3⟩ := h5.2 _ hq1; have : k = j + 1 := by omega
                subst this; have f2' : r[j + 1]? = some (.val w) := f2; rw [hq] at f2'; cases f2'
    | val u =>
      by_cases hu : u.category = 2
      · have q2 : r[j + 1 + 2]? = some .second := h5.1 (j + 1 + 1) u hq1 hu
        have hi2 : j + 1 + 2 < r.size := (Array.getElem?_eq_some_iff.mp q2).1
        refine ⟨(((r.setIfInBounds j .unset).setIfInBounds (j + 1) (.val (rv ρ v))).setIfInBounds (j + 1 + 2) .unset).setIfInBounds (j + 1 + 1) .second, by simp [storeLocals, storeSelf, setAt, hq, (Array.getElem?_eq_some_iff.mp hq).2, hq1, (Array.getElem?_eq_some_iff.mp hq1).2, getset_ne hq1 (show j ≠ j + 1 + 1 by omega), hj, hir, hir1, hi2, hcv, hu, Array.getElem?_setIfInBounds], fin _ (by simp) ?_ (by simp [hir, Array.getElem?_setIfInBounds]) (by simp [hir1]) ?_⟩
        · have e : (fun k => ((((r.setIfInBounds j .unset).setIfInBounds (j + 1) (.val (rv ρ v))).setIfInBounds (j + 1 + 2) .unset).setIfInBounds (j + 1 + 1) .second)[k]?) = up (up (up (up (up (up (fun k => r[k]?) j .unset) (j + 1) .unset) (j + 1 + 1) .unset) (j + 1 + 1 + 1) .unset) (j + 1) (.val (rv ρ v))) (j + 1 + 1) .second := by
            rw [up_arr (by simpa using hir1), up_arr (by simpa using hi2), up_arr (by simpa using hir), up_arr hj]
            funext k
            simp only [up]
            by_cases e : k = j + 1 + 1
            · simp [e]
            · by_cases e2 : k = j + 1
              · simp [e2]
              · simp [e, e2]
          rw [e]
          exact (W5.clr (j := j + 1 + 1) (v := u) (by simp [up, hq1] <;> omega) hu).two (Or.inl (by simp [up] <;> omega)) (Or.inl (by simp [up] <;> omega)) hcv
        · intro k a b
          by_cases e : k = j
          · subst e; exact Or.inr Lu
          · by_cases e4 : k = j + 1 + 2
            · subst e4; exact Or.inr (Lun2 u hq1 hu)
            · left; rw [Array.getElem?_setIfInBounds_ne (Ne.symm b), Array.getElem?_setIfInBounds_ne (Ne.symm e4), Array.getElem?_setIfInBounds_ne (Ne.symm a), Array.getElem?_setIfInBounds_ne (Ne.symm e)]
      · refine ⟨((r.setIfInBounds j .unset).setIfInBounds (j + 1) (.val (rv ρ v))).setIfInBounds (j + 1 + 1) .second, by simp [storeLocals, storeSelf, setAt, hq, (Array.getElem?_eq_some_iff.mp hq).2, hq1, (Array.getElem?_eq_some_iff.mp hq1).2, getset_ne hq1 (show j ≠ j + 1 + 1 by omega), hj, hir, hir1, hcv, hu, Array.getElem?_setIfInBounds], fin _ (by simp) ?_ (by simp [hir, Array.getElem?_setIfInBounds]) (by simp [hir1]) ?_⟩
        · have e : (fun k => (((r.setIfInBounds j .unset).setIfInBounds (j + 1) (.val (rv ρ v))).setIfInBounds (j + 1 + 1) .second)[k]?) = up (up (up (up (fun k => r[k]?) j .unset) (j + 1) .unset) (j + 1) (.val (rv ρ v))) (j + 1 + 1) .second := by
            rw [up_arr (by simpa using hir1), up_arr (by simpa using hir), up_arr hj]
            funext k
            simp only [up]
            by_cases e : k = j + 1 + 1
            · simp [e]
            · by_cases e2 : k = j + 1
              · simp [e2]
              · simp [e, e2]
          rw [e]
          exact W5.two (Or.inl (by simp [up] <;> omega)) (Or.inr ⟨u, by simp [up, hq1] <;> omega, cat12 u hu⟩) hcv
        · intro k a b
          by_cases e : k = j
          · subst e; exact Or.inr Lu
          · left; rw [Array.getElem?_setIfInBounds_ne (Ne.symm b), Array.getElem?_setIfInBounds_ne (Ne.symm a), Array.getElem?_setIfInBounds_ne (Ne.symm e)]
/-- which lists of slots are laid out well -/
def wfL : List Slot → Bool
  | [] => true
  | .unset :: t => wfL t
  | .second :: _ => false
  | [.val v] => decide (v.category = 1)
  | .val v :: .second :: t => decide (v.category = 2) && wfL t
  | .val v :: .unset :: t => decide (v.category = 1) && wfL t
  | .val v :: .val u :: t => decide (v.category = 1) && wfL (.val u :: t)
/-- the walk forgets the variables that the mask marks -/
def fg : List Bool → List Slot → List Slot
  | true :: b, _ :: t => .unset :: fg b t
  | false :: b, s :: t => s :: fg b t
  | _, t => t
theorem WR.nil : WR (fun k => ([] : List Slot)[k]?) := ⟨fun i v h => by simp at h, fun i h => by simp at h⟩
theorem WR.cons1 {t : List Slot} {s : Slot} (h : WR (fun k => t[k]?)) (hs : C1 (some s)) : WR (fun k => (s :: t)[k]?) := by
  obtain ⟨n1, n2⟩ := hs.not2
  constructor
  · intro i v hi hv
    cases i with
    | zero => exact absurd hv (n2 v (by simpa using hi))
    | succ i => have := h.1 i v (by simpa using hi) hv; simpa using this
  · intro i hi
    cases i with
    | zero => exact absurd (by simpa using hi) n1
    | succ i => obtain ⟨j, v, e1, e2, e3⟩ := h.2 i (by simpa using hi); exact ⟨j + 1, v, by omega, by simpa using e2, e3⟩
theorem WR.cons2 {t : List Slot} {w : Value} (h : WR (fun k => t[k]?)) (hw : w.category = 2) : WR (fun k => (Slot.val w :: .second :: t)[k]?) := by
  constructor
  · intro i v hi hv
    match i with
    | 0 => simp
    | 1 => simp at hi
    | i + 2 => have := h.1 i v (by simpa using hi) hv; simpa using this
  · intro i hi
    match i with
    | 0 => simp at hi
    | 1 => exact ⟨0, w, rfl, by simp, hw⟩
    | i + 2 => obtain ⟨j, v, e1, e2, e3⟩ := h.2 i (by simpa using hi); exact ⟨j + 2, v, by omega, by simpa using e2, e3⟩
theorem WR.of_wfL : (L : List Slot) → wfL L = true → WR (fun k => L[k]?)
  | [], _ => WR.nil
  | .unset :: t, h => (WR.of_wfL t h).cons1 (Or.inl rfl)
  | .second :: _, h => by simp [wfL] at h
  | [.val v], h => WR.nil.cons1 (Or.inr ⟨v, rfl, by simpa [wfL] using h⟩)
  | .val v :: .second :: t, h => by simp [wfL] at h; exact (WR.of_wfL t h.2).cons2 h.1
  | .val v :: .unset :: t, h => by simp [wfL] at h; exact ((WR.of_wfL t h.2).cons1 (Or.inl rfl)).cons1 (Or.inr ⟨v, rfl, h.1⟩)
  | .val v :: .val u :: t, h => by
    have h' : decide (v.category = 1) = true ∧ wfL (.val u :: t) = true := by rw [wfL, Bool.and_eq_true] at h; exact h
    exact (WR.of_wfL (.val u :: t) h'.2).cons1 (Or.inr ⟨v, rfl, of_decide_eq_true h'.1⟩)
theorem fg_length : (b : List Bool) → (L : List Slot) → (fg b L).length = L.length
  | true :: b, _ :: t => by simp [fg, fg_length b t]
  | false :: b, s :: t => by simp [fg, fg_length b t]
  | [], t => by simp [fg]
  | true :: _, [] => by simp [fg]
  | false :: _, [] => by simp [fg]
theorem fg_get : (b : List Bool) → (L : List Slot) → ∀ (i : Nat) (s : Slot), (fg b L)[i]? = some s → s = .unset ∨ L[i]? = some s
  | true :: b, x :: t, i, s, h => by
    cases i with
    | zero => left; simpa [fg] using h.symm
    | succ i => have := fg_get b t i s (by simpa [fg] using h); simpa using this
  | false :: b, x :: t, i, s, h => by
    cases i with
    | zero => right; simpa [fg] using h
    | succ i => have := fg_get b t i s (by simpa [fg] using h); simpa using this
  | [], t, i, s, h => by right; simpa [fg] using h
  | true :: _, [], i, s, h => by right; simpa [fg] using h
  | false :: _, [], i, s, h => by right; simpa [fg] using h
theorem SR.forget {ρ : Nat → Addr} {L : List Slot} {r : Array Slot} (h : SR ρ L r) (b : List Bool) (hw : wfL (fg b L) = true) : SR ρ (fg b L) r := by
  obtain ⟨h1, h2, h3, h4, h5⟩ := h
  refine ⟨by rw [fg_length]; exact h1, fun i v hi => ?_, fun i hi => ?_, WR.of_wfL _ hw, h5⟩
  · rcases fg_get _ _ _ _ hi with e | e
    · cases e
    · exact h2 i v e
  · rcases fg_get _ _ _ _ hi with e | e
    · cases e
    · exact h3 i e
/-- at a method's entry -/
theorem a2l (ρ : Nat → Addr) (as : List Value) (mx : Nat) : argsToLocals (as.map (rv ρ)).toArray mx = (argsToLocals as.toArray mx).map (rs ρ) := by
  have key : ∀ (as : List Value) (acc : Array Slot), (as.map (rv ρ)).foldl (fun acc v => if v.category = 2 then (acc.push (.val v)).push .second else acc.push (.val v)) (acc.map (rs ρ)) = (as.foldl (fun acc v => if v.category = 2 then (acc.push (.val v)).push .second else acc.push (.val v)) acc).map (rs ρ) := by
    intro as
    induction as with
    | nil => intro acc; rfl
    | cons v t ih =>
      intro acc
      simp only [List.map_cons, List.foldl_cons, rv_cat]
      by_cases hv : v.category = 2
      · rw [if_pos hv, if_pos hv, ← ih]; simp [Array.map_push, rs]
      · rw [if_neg hv, if_neg hv, ← ih]; simp [Array.map_push, rs]
  have k0 := key as #[]
  simp only [Array.map_empty] at k0
  simp only [argsToLocals, List.foldl_toArray', List.size_toArray]
  simp only [k0, Array.map_append, Array.size_map, Array.map_replicate, rs]
theorem SR.entry (ρ : Nat → Addr) (as : List Value) (mx : Nat) {L : List Slot} (hL : (argsToLocals as.toArray mx).toList = L) (hw : wfL L = true) : SR ρ L (argsToLocals (as.map (rv ρ)).toArray mx) := by
  subst hL
  rw [a2l]
  have hW := WR.of_wfL _ hw
  generalize argsToLocals as.toArray mx = A at hW
  have g : ∀ i : Nat, (A.map (rs ρ))[i]? = (A.toList[i]?).map (rs ρ) := by intro i; simp
  refine ⟨by simp, fun i v hi => by rw [g, hi]; rfl, fun i hi => by rw [g, hi]; rfl, hW, ?_, ?_⟩
  · intro i v hi hv
    have hi' : (A.toList[i]?).map (rs ρ) = some (.val v) := by rw [← g]; exact hi
    cases hs : A.toList[i]? with
    | none => rw [hs] at hi'; cases hi'
    | some s =>
      rw [hs] at hi'
      cases s with
      | unset => cases hi'
      | second => cases hi'
      | val u =>
        cases hi'
        have := hW.1 i u hs (by rwa [rv_cat] at hv)
        show (A.map (rs ρ))[i + 1]? = _
        rw [g]
        have t : A.toList[i + 1]? = some .second := this
        rw [t]; rfl
  · intro i hi
    have hi' : (A.toList[i]?).map (rs ρ) = some .second := by rw [← g]; exact hi
    cases hs : A.toList[i]? with
    | none => rw [hs] at hi'; cases hi'
    | some s =>
      rw [hs] at hi'
      cases s with
      | unset => cases hi'
      | val u => cases hi'
      | second =>
        obtain ⟨j, v, e1, e2, e3⟩ := hW.2 i hs
        refine ⟨j, rv ρ v, e1, ?_, by rw [rv_cat]; exact e3⟩
        show (A.map (rs ρ))[j]? = _
        rw [g]
        have t : A.toList[j]? = some (.val v) := e2
        rw [t]; rfl
end Jvm.Own

namespace Jvm.Own
open Jvm Jvm.ClassFile Sem Op Lib Jvm.Free Jvm.Stand Jvm.LawKit Jvm.RoadKit
/-! ## 2. A method's data; what it means that a walk from a point of it comes to an end -/
/-- name, bytes, number of variables, what it returns, room, cells that it makes -/
abbrev MD : Type := MethodName × ByteArray × Nat × Option FieldType × Room × Nat
abbrev nmOf (md : MD) : MethodName := md.1
abbrev byOf (md : MD) : ByteArray := md.2.1
abbrev mxOf (md : MD) : Nat := md.2.2.1
abbrev rtOf (md : MD) : Option FieldType := md.2.2.2.1
abbrev rmOf (md : MD) : Room := md.2.2.2.2.1
abbrev exOf (md : MD) : Nat := md.2.2.2.2.2
/-- the class whose methods are walked; where the walk's references point; the first new address; what the heap holds; what a walk leaves alone -/
abbrev Mode (μ E : Type) : Type := String × (E → Nat → Addr) × (E → Nat) × (E → μ → Heap → Prop) × (E → Heap → Heap → Prop)
abbrev Mode.own {μ E : Type} (M : Mode μ E) : String := M.1
abbrev Mode.rho {μ E : Type} (M : Mode μ E) : E → Nat → Addr := M.2.1
abbrev Mode.lo {μ E : Type} (M : Mode μ E) : E → Nat := M.2.2.1
abbrev Mode.rel {μ E : Type} (M : Mode μ E) : E → μ → Heap → Prop := M.2.2.2.1
abbrev Mode.frm {μ E : Type} (M : Mode μ E) : E → Heap → Heap → Prop := M.2.2.2.2
def Kn (Z : State) (own : String) (md : MD) (p : Program) (s : State) (m : MethodId) (meth : Method) (c : Code) : Prop :=
  p.tables.exec = Jvm.exec ∧ Z.Warmed39 s.vm ∧ s.vm.findClass own = some m.cls ∧ meth.name = (nmOf md).name ∧ meth.sig.returnType = rtOf md ∧ meth.locks = false ∧ c.code = byOf md ∧ c.maxLocals = mxOf md
def Done {μ E : Type} (l : Launch) (M : Mode μ E) (md : MD) (Q : Option Value → μ → Prop) (en : E) (p : Program) (e : Env) (s : State) (m : MethodId) (args : Array Value) (below : List Frame) (meth : Method) (c : Code) (T : State) (g : JFrame) : Prop :=
  ∃ (T' : State) (locs' : List Loc) (su' : Nat) (v : Option Value) (w' : μ), Stand p l e (rmOf md) s m args below meth c T' locs' (exOf md) su' ∧ exOf md ≤ (rmOf md).cells ∧ su' ≤ (rmOf md).slots ∧ T'.heap.size = s.heap.size + exOf md ∧ Fr (M.lo en) locs' ∧ M.rel en w' T'.heap ∧ M.frm en T.heap T'.heap ∧
    (meth.sig.returnType = none → v = none) ∧ (∀ ρ x, v = some x → rv ρ x = x) ∧ Q v w' ∧
    ∀ fs, (∀ (f : JFrame) (acts : List Action), f.method = m → f.locked = none → f.entered = [] → (doReturn e (T'.setTop f) acts v).1 = T'.setFrames fs) → Steps p.tables e below (T.setTop g) (T'.setFrames fs)
/-- from the pc, with these variables and operands, over w, the walk returns with what Q says -/
def Wk {μ E : Type} (l : Launch) (Z : State) (M : Mode μ E) (md : MD) (pc : Nat) (L : List Slot) (S : List Value) (w : μ) (cu su : Nat) (Q : Option Value → μ → Prop) : Prop :=
  ∀ (en : E) (p : Program) (e : Env) (s : State) (m : MethodId) (args : Array Value) (below : List Frame) (meth : Method) (c : Code) (T : State) (locs : List Loc) (r : Array Slot),
    Stand p l e (rmOf md) s m args below meth c T locs cu su → Kn Z M.own md p s m meth c → T.heap.size = s.heap.size + cu → Fr (M.lo en) locs → M.rel en w T.heap → SR (M.rho en) L r →
    Done l M md Q en p e s m args below meth c T (mkF m pc r (S.map (rv (M.rho en))))
section Steps
variable {μ E : Type} {l : Launch} {Z : State} {M : Mode μ E} {md : MD} {pc pc' : Nat} {L L' : List Slot} {S : List Value} {w : μ} {cu su : Nat} {Q : Option Value → μ → Prop}
theorem Done.pre {en : E} {p : Program} {e : Env} {s : State} {m : MethodId} {args : Array Value} {below : List Frame} {meth : Method} {c : Code} {T T1 : State} {g g1 : JFrame} (h : Done l M md Q en p e s m args below meth c T1 g1) (hT : ∀ x, M.frm en T1.heap x → M.frm en T.heap x)
    (st : ∀ t, Steps p.tables e below (T1.setTop g1) t → Steps p.tables e below (T.setTop g) t) : Done l M md Q en p e s m args below meth c T g := by
  obtain ⟨T', locs', su', v, w', a1, a2, a3, a4, a5, a6, a7, a8, a9, a10, a11⟩ := h
  exact ⟨T', locs', su', v, w', a1, a2, a3, a4, a5, a6, hT _ a7, a8, a9, a10, fun fs hf => st _ (a11 fs hf)⟩
theorem Wk.mono {Q' : Option Value → μ → Prop} (h : Wk l Z M md pc L S w cu su Q) (hq : ∀ v w', Q v w' → Q' v w') : Wk l Z M md pc L S w cu su Q' := by
  intro en p e s m args below meth c T locs r X K hz hF hR hL
  obtain ⟨T', locs', su', v, w', a1, a2, a3, a4, a5, a6, a7, a8, a9, a10, a11⟩ := h en p e s m args below meth c T locs r X K hz hF hR hL
  exact ⟨T', locs', su', v, w', a1, a2, a3, a4, a5, a6, a7, a8, a9, hq _ _ a10, a11⟩
abbrev InsA (md : MD) (pc : Nat) (i : Instr) (n pc' : Nat) : Prop := decode (byOf md) pc = .ok (i, n) ∧ pc + n = pc'
abbrev InsB (md : MD) (pc : Nat) (i : Instr) (n pc' : Nat) (o : Int) (pt : Nat) : Prop := decode (byOf md) pc = .ok (i, n) ∧ pc + n = pc' ∧ 0 ≤ (pc : Int) + o ∧ ((pc : Int) + o).toNat = pt
theorem Kn.by {own : String} {p : Program} {s : State} {m : MethodId} {meth : Method} {c : Code} (K : Kn Z own md p s m meth c) : c.code = byOf md := K.2.2.2.2.2.2.1
theorem Wk.forget (b : List Bool) (hf : fg b L = L') (hw : wfL L' = true) (h : Wk l Z M md pc L' S w cu su Q) : Wk l Z M md pc L S w cu su Q :=
  fun en p e s m args below meth c T locs r X K hz hF hR hL => h en p e s m args below meth c T locs r X K hz hF hR (by subst hf; exact hL.forget b hw)
theorem Wk.iloadN {k : Fin 4} {v : Int32} (hd : InsA md pc (.iload_n k) 1 pc') (hl : L[k.val]? = some (.val (.int v))) (h : Wk l Z M md pc' L (.int v :: S) w cu su Q) : Wk l Z M md pc L (S) w cu su Q :=
  fun en p e s m args below meth c T locs r X K hz hF hR hL => by
  obtain ⟨hd, rfl⟩ := hd
  exact (h en p e s m args below meth c T locs r X K hz hF hR hL).pre (fun _ q => q) fun t k => XS.iloadN X.here K.1 rfl (hb K.by hd) (hL.get hl) k
theorem Wk.iload {k : Nat} {v : Int32} (hd : InsA md pc (.iload k) 2 pc') (hl : L[k]? = some (.val (.int v))) (h : Wk l Z M md pc' L (.int v :: S) w cu su Q) : Wk l Z M md pc L (S) w cu su Q :=
  fun en p e s m args below meth c T locs r X K hz hF hR hL => by
  obtain ⟨hd, rfl⟩ := hd
  exact (h en p e s m args below meth c T locs r X K hz hF hR hL).pre (fun _ q => q) fun t k => XS.iload X.here K.1 rfl (hb K.by hd) (hL.get hl) k
theorem Wk.lloadN {k : Fin 4} {v : Int64} (hd : InsA md pc (.lload_n k) 1 pc') (hl : L[k.val]? = some (.val (.long v))) (h : Wk l Z M md pc' L (.long v :: S) w cu su Q) : Wk l Z M md pc L (S) w cu su Q :=
  fun en p e s m args below meth c T locs r X K hz hF hR hL => by
  obtain ⟨hd, rfl⟩ := hd
  exact (h en p e s m args below meth c T locs r X K hz hF hR hL).pre (fun _ q => q) fun t k => XT.lloadN X.here K.1 rfl (hb K.by hd) (hL.get hl) k
theorem Wk.lload {k : Nat} {v : Int64} (hd : InsA md pc (.lload k) 2 pc') (hl : L[k]? = some (.val (.long v))) (h : Wk l Z M md pc' L (.long v :: S) w cu su Q) : Wk l Z M md pc L (S) w cu su Q :=
  fun en p e s m args below meth c T locs r X K hz hF hR hL => by
  obtain ⟨hd, rfl⟩ := hd
  exact (h en p e s m args below meth c T locs r X K hz hF hR hL).pre (fun _ q => q) fun t k => XT.lload X.here K.1 rfl (hb K.by hd) (hL.get hl) k
theorem Wk.aloadN {k : Fin 4} {v : Nat} (hd : InsA md pc (.aload_n k) 1 pc') (hl : L[k.val]? = some (.val (.ref v))) (h : Wk l Z M md pc' L (.ref v :: S) w cu su Q) : Wk l Z M md pc L (S) w cu su Q :=
  fun en p e s m args below meth c T locs r X K hz hF hR hL => by
  obtain ⟨hd, rfl⟩ := hd
  exact (h en p e s m args below meth c T locs r X K hz hF hR hL).pre (fun _ q => q) fun t k => XS.aloadN X.here K.1 rfl (hb K.by hd) (hL.get hl) rfl k
theorem Wk.aload {k : Nat} {v : Nat} (hd : InsA md pc (.aload k) 2 pc') (hl : L[k]? = some (.val (.ref v))) (h : Wk l Z M md pc' L (.ref v :: S) w cu su Q) : Wk l Z M md pc L (S) w cu su Q :=
  fun en p e s m args below meth c T locs r X K hz hF hR hL => by
  obtain ⟨hd, rfl⟩ := hd
  exact (h en p e s m args below meth c T locs r X K hz hF hR hL).pre (fun _ q => q) fun t k => XS.aload X.here K.1 rfl (hb K.by hd) (hL.get hl) rfl k
theorem Wk.iconst {i : Int} {z : Int32} (hd : InsA md pc (.iconst i) 1 pc') (hz' : Int32.ofInt i = z) (h : Wk l Z M md pc' L (.int z :: S) w cu su Q) : Wk l Z M md pc L (S) w cu su Q :=
  fun en p e s m args below meth c T locs r X K hz hF hR hL => by
  obtain ⟨hd, rfl⟩ := hd
  exact (h en p e s m args below meth c T locs r X K hz hF hR hL).pre (fun _ q => q) fun t k => XS.iconst X.here K.1 rfl (hb K.by hd) (by subst hz'; exact k)
theorem Wk.bipush {i : Int} {z : Int32} (hd : InsA md pc (.bipush i) 2 pc') (hz' : (Int8.ofInt i).toInt32 = z) (h : Wk l Z M md pc' L (.int z :: S) w cu su Q) : Wk l Z M md pc L (S) w cu su Q :=
  fun en p e s m args below meth c T locs r X K hz hF hR hL => by
  obtain ⟨hd, rfl⟩ := hd
  exact (h en p e s m args below meth c T locs r X K hz hF hR hL).pre (fun _ q => q) fun t k => XS.bipush X.here K.1 rfl (hb K.by hd) (by subst hz'; exact k)
theorem Wk.sipush {i : Int} {z : Int32} (hd : InsA md pc (.sipush i) 3 pc') (hz' : (Int16.ofInt i).toInt32 = z) (h : Wk l Z M md pc' L (.int z :: S) w cu su Q) : Wk l Z M md pc L (S) w cu su Q :=
  fun en p e s m args below meth c T locs r X K hz hF hR hL => by
  obtain ⟨hd, rfl⟩ := hd
  exact (h en p e s m args below meth c T locs r X K hz hF hR hL).pre (fun _ q => q) fun t k => XS.sipush X.here K.1 rfl (hb K.by hd) (by subst hz'; exact k)
theorem Wk.lconst {i : Fin 2} {z : Int64} (hd : InsA md pc (.lconst i) 1 pc') (hz' : Int64.ofNat i = z) (h : Wk l Z M md pc' L (.long z :: S) w cu su Q) : Wk l Z M md pc L (S) w cu su Q :=
  fun en p e s m args below meth c T locs r X K hz hF hR hL => by
  obtain ⟨hd, rfl⟩ := hd
  exact (h en p e s m args below meth c T locs r X K hz hF hR hL).pre (fun _ q => q) fun t k => XT.lconst X.here K.1 rfl (hb K.by hd) (by subst hz'; exact k)
theorem Wk.iadd {x y : Int32} (hd : InsA md pc (.iadd) 1 pc') (h : Wk l Z M md pc' L (.int (x + y) :: S) w cu su Q) : Wk l Z M md pc L (.int y :: .int x :: S) w cu su Q :=
  fun en p e s m args below meth c T locs r X K hz hF hR hL => by
  obtain ⟨hd, rfl⟩ := hd
  exact (h en p e s m args below meth c T locs r X K hz hF hR hL).pre (fun _ q => q) fun t k => XS.iadd X.here K.1 rfl (hb K.by hd) rfl k
theorem Wk.isub {x y : Int32} (hd : InsA md pc (.isub) 1 pc') (h : Wk l Z M md pc' L (.int (x - y) :: S) w cu su Q) : Wk l Z M md pc L (.int y :: .int x :: S) w cu su Q :=
  fun en p e s m args below meth c T locs r X K hz hF hR hL => by
  obtain ⟨hd, rfl⟩ := hd
  exact (h en p e s m args below meth c T locs r X K hz hF hR hL).pre (fun _ q => q) fun t k => XS.isub X.here K.1 rfl (hb K.by hd) rfl k
theorem Wk.imul {x y : Int32} (hd : InsA md pc (.imul) 1 pc') (h : Wk l Z M md pc' L (.int (x * y) :: S) w cu su Q) : Wk l Z M md pc L (.int y :: .int x :: S) w cu su Q :=
  fun en p e s m args below meth c T locs r X K hz hF hR hL => by
  obtain ⟨hd, rfl⟩ := hd
  exact (h en p e s m args below meth c T locs r X K hz hF hR hL).pre (fun _ q => q) fun t k => XS.imul X.here K.1 rfl (hb K.by hd) rfl k
theorem Wk.iand {x y : Int32} (hd : InsA md pc (.iand) 1 pc') (h : Wk l Z M md pc' L (.int (x &&& y) :: S) w cu su Q) : Wk l Z M md pc L (.int y :: .int x :: S) w cu su Q :=
  fun en p e s m args below meth c T locs r X K hz hF hR hL => by
  obtain ⟨hd, rfl⟩ := hd
  exact (h en p e s m args below meth c T locs r X K hz hF hR hL).pre (fun _ q => q) fun t k => XS.iand X.here K.1 rfl (hb K.by hd) rfl k
theorem Wk.ior {x y : Int32} (hd : InsA md pc (.ior) 1 pc') (h : Wk l Z M md pc' L (.int (x ||| y) :: S) w cu su Q) : Wk l Z M md pc L (.int y :: .int x :: S) w cu su Q :=
  fun en p e s m args below meth c T locs r X K hz hF hR hL => by
  obtain ⟨hd, rfl⟩ := hd
  exact (h en p e s m args below meth c T locs r X K hz hF hR hL).pre (fun _ q => q) fun t k => XT.ior X.here K.1 rfl (hb K.by hd) rfl k
theorem Wk.ixor {x y : Int32} (hd : InsA md pc (.ixor) 1 pc') (h : Wk l Z M md pc' L (.int (x ^^^ y) :: S) w cu su Q) : Wk l Z M md pc L (.int y :: .int x :: S) w cu su Q :=
  fun en p e s m args below meth c T locs r X K hz hF hR hL => by
  obtain ⟨hd, rfl⟩ := hd
  exact (h en p e s m args below meth c T locs r X K hz hF hR hL).pre (fun _ q => q) fun t k => XT.ixor X.here K.1 rfl (hb K.by hd) rfl k
theorem Wk.ishl {x y : Int32} (hd : InsA md pc (.ishl) 1 pc') (h : Wk l Z M md pc' L (.int (x <<< (y &&& 31)) :: S) w cu su Q) : Wk l Z M md pc L (.int y :: .int x :: S) w cu su Q :=
  fun en p e s m args below meth c T locs r X K hz hF hR hL => by
  obtain ⟨hd, rfl⟩ := hd
  exact (h en p e s m args below meth c T locs r X K hz hF hR hL).pre (fun _ q => q) fun t k => XT.ishl X.here K.1 rfl (hb K.by hd) rfl k
theorem Wk.ishr {x y : Int32} (hd : InsA md pc (.ishr) 1 pc') (h : Wk l Z M md pc' L (.int (x >>> (y &&& 31)) :: S) w cu su Q) : Wk l Z M md pc L (.int y :: .int x :: S) w cu su Q :=
  fun en p e s m args below meth c T locs r X K hz hF hR hL => by
  obtain ⟨hd, rfl⟩ := hd
  exact (h en p e s m args below meth c T locs r X K hz hF hR hL).pre (fun _ q => q) fun t k => XT.ishr X.here K.1 rfl (hb K.by hd) rfl k
theorem Wk.iushr {x y : Int32} (hd : InsA md pc (.iushr) 1 pc') (h : Wk l Z M md pc' L (.int (XT.ushr x y) :: S) w cu su Q) : Wk l Z M md pc L (.int y :: .int x :: S) w cu su Q :=
  fun en p e s m args below meth c T locs r X K hz hF hR hL => by
  obtain ⟨hd, rfl⟩ := hd
  exact (h en p e s m args below meth c T locs r X K hz hF hR hL).pre (fun _ q => q) fun t k => XT.iushr X.here K.1 rfl (hb K.by hd) rfl k
theorem Wk.ineg {x : Int32} (hd : InsA md pc (.ineg) 1 pc') (h : Wk l Z M md pc' L (.int (-x) :: S) w cu su Q) : Wk l Z M md pc L (.int x :: S) w cu su Q :=
  fun en p e s m args below meth c T locs r X K hz hF hR hL => by
  obtain ⟨hd, rfl⟩ := hd
  exact (h en p e s m args below meth c T locs r X K hz hF hR hL).pre (fun _ q => q) fun t k => XS.ineg X.here K.1 rfl (hb K.by hd) rfl k
theorem Wk.idiv {x y : Int32} (hd : InsA md pc (.idiv) 1 pc') (hy : y ≠ 0) (h : Wk l Z M md pc' L (.int (x / y) :: S) w cu su Q) : Wk l Z M md pc L (.int y :: .int x :: S) w cu su Q :=
  fun en p e s m args below meth c T locs r X K hz hF hR hL => by
  obtain ⟨hd, rfl⟩ := hd
  exact (h en p e s m args below meth c T locs r X K hz hF hR hL).pre (fun _ q => q) fun t k => XS.idiv X.here K.1 rfl (hb K.by hd) rfl hy k
theorem Wk.irem {x y : Int32} (hd : InsA md pc (.irem) 1 pc') (hy : y ≠ 0) (h : Wk l Z M md pc' L (.int (x % y) :: S) w cu su Q) : Wk l Z M md pc L (.int y :: .int x :: S) w cu su Q :=
  fun en p e s m args below meth c T locs r X K hz hF hR hL => by
  obtain ⟨hd, rfl⟩ := hd
  exact (h en p e s m args below meth c T locs r X K hz hF hR hL).pre (fun _ q => q) fun t k => Jvm.RoadKit.iremM X K.1 rfl (hb K.by hd) rfl hy k
theorem Wk.ladd {x y : Int64} (hd : InsA md pc (.ladd) 1 pc') (h : Wk l Z M md pc' L (.long (x + y) :: S) w cu su Q) : Wk l Z M md pc L (.long y :: .long x :: S) w cu su Q :=
  fun en p e s m args below meth c T locs r X K hz hF hR hL => by
  obtain ⟨hd, rfl⟩ := hd
  exact (h en p e s m args below meth c T locs r X K hz hF hR hL).pre (fun _ q => q) fun t k => XT.ladd X.here K.1 rfl (hb K.by hd) rfl k
theorem Wk.lsub {x y : Int64} (hd : InsA md pc (.lsub) 1 pc') (h : Wk l Z M md pc' L (.long (x - y) :: S) w cu su Q) : Wk l Z M md pc L (.long y :: .long x :: S) w cu su Q :=
  fun en p e s m args below meth c T locs r X K hz hF hR hL => by
  obtain ⟨hd, rfl⟩ := hd
  exact (h en p e s m args below meth c T locs r X K hz hF hR hL).pre (fun _ q => q) fun t k => XT.lsub X.here K.1 rfl (hb K.by hd) rfl k
theorem Wk.lmul {x y : Int64} (hd : InsA md pc (.lmul) 1 pc') (h : Wk l Z M md pc' L (.long (x * y) :: S) w cu su Q) : Wk l Z M md pc L (.long y :: .long x :: S) w cu su Q :=
  fun en p e s m args below meth c T locs r X K hz hF hR hL => by
  obtain ⟨hd, rfl⟩ := hd
  exact (h en p e s m args below meth c T locs r X K hz hF hR hL).pre (fun _ q => q) fun t k => XT.lmul X.here K.1 rfl (hb K.by hd) rfl k
theorem Wk.land {x y : Int64} (hd : InsA md pc (.land) 1 pc') (h : Wk l Z M md pc' L (.long (x &&& y) :: S) w cu su Q) : Wk l Z M md pc L (.long y :: .long x :: S) w cu su Q :=
  fun en p e s m args below meth c T locs r X K hz hF hR hL => by
  obtain ⟨hd, rfl⟩ := hd
  exact (h en p e s m args below meth c T locs r X K hz hF hR hL).pre (fun _ q => q) fun t k => XT.land X.here K.1 rfl (hb K.by hd) rfl k
theorem Wk.lor {x y : Int64} (hd : InsA md pc (.lor) 1 pc') (h : Wk l Z M md pc' L (.long (x ||| y) :: S) w cu su Q) : Wk l Z M md pc L (.long y :: .long x :: S) w cu su Q :=
  fun en p e s m args below meth c T locs r X K hz hF hR hL => by
  obtain ⟨hd, rfl⟩ := hd
  exact (h en p e s m args below meth c T locs r X K hz hF hR hL).pre (fun _ q => q) fun t k => XT.lor X.here K.1 rfl (hb K.by hd) rfl k
theorem Wk.lxor {x y : Int64} (hd : InsA md pc (.lxor) 1 pc') (h : Wk l Z M md pc' L (.long (x ^^^ y) :: S) w cu su Q) : Wk l Z M md pc L (.long y :: .long x :: S) w cu su Q :=
  fun en p e s m args below meth c T locs r X K hz hF hR hL => by
  obtain ⟨hd, rfl⟩ := hd
  exact (h en p e s m args below meth c T locs r X K hz hF hR hL).pre (fun _ q => q) fun t k => XT.lxor X.here K.1 rfl (hb K.by hd) rfl k
theorem Wk.ldiv {x y : Int64} (hd : InsA md pc (.ldiv) 1 pc') (hy : y ≠ 0) (h : Wk l Z M md pc' L (.long (x / y) :: S) w cu su Q) : Wk l Z M md pc L (.long y :: .long x :: S) w cu su Q :=
  fun en p e s m args below meth c T locs r X K hz hF hR hL => by
  obtain ⟨hd, rfl⟩ := hd
  exact (h en p e s m args below meth c T locs r X K hz hF hR hL).pre (fun _ q => q) fun t k => XT.ldiv X.here K.1 rfl (hb K.by hd) rfl hy k
theorem Wk.lrem {x y : Int64} (hd : InsA md pc (.lrem) 1 pc') (hy : y ≠ 0) (h : Wk l Z M md pc' L (.long (x - (x / y) * y) :: S) w cu su Q) : Wk l Z M md pc L (.long y :: .long x :: S) w cu su Q :=
  fun en p e s m args below meth c T locs r X K hz hF hR hL => by
  obtain ⟨hd, rfl⟩ := hd
  exact (h en p e s m args below meth c T locs r X K hz hF hR hL).pre (fun _ q => q) fun t k => XT.lrem X.here K.1 rfl (hb K.by hd) rfl hy k
theorem Wk.lshl {x : Int64} {y : Int32} (hd : InsA md pc (.lshl) 1 pc') (h : Wk l Z M md pc' L (.long (x <<< (y.toInt64 &&& 63)) :: S) w cu su Q) : Wk l Z M md pc L (.int y :: .long x :: S) w cu su Q :=
  fun en p e s m args below meth c T locs r X K hz hF hR hL => by
  obtain ⟨hd, rfl⟩ := hd
  exact (h en p e s m args below meth c T locs r X K hz hF hR hL).pre (fun _ q => q) fun t k => XT.lshl X.here K.1 rfl (hb K.by hd) rfl k
theorem Wk.lshr {x : Int64} {y : Int32} (hd : InsA md pc (.lshr) 1 pc') (h : Wk l Z M md pc' L (.long (x >>> (y.toInt64 &&& 63)) :: S) w cu su Q) : Wk l Z M md pc L (.int y :: .long x :: S) w cu su Q :=
  fun en p e s m args below meth c T locs r X K hz hF hR hL => by
  obtain ⟨hd, rfl⟩ := hd
  exact (h en p e s m args below meth c T locs r X K hz hF hR hL).pre (fun _ q => q) fun t k => XT.lshr X.here K.1 rfl (hb K.by hd) rfl k
theorem Wk.lushr {x : Int64} {y : Int32} (hd : InsA md pc (.lushr) 1 pc') (h : Wk l Z M md pc' L (.long (XT.ushrL x y) :: S) w cu su Q) : Wk l Z M md pc L (.int y :: .long x :: S) w cu su Q :=
  fun en p e s m args below meth c T locs r X K hz hF hR hL => by
  obtain ⟨hd, rfl⟩ := hd
  exact (h en p e s m args below meth c T locs r X K hz hF hR hL).pre (fun _ q => q) fun t k => XT.lushr X.here K.1 rfl (hb K.by hd) rfl k
theorem Wk.i2l {x : Int32} (hd : InsA md pc (.i2l) 1 pc') (h : Wk l Z M md pc' L (.long x.toInt64 :: S) w cu su Q) : Wk l Z M md pc L (.int x :: S) w cu su Q :=
  fun en p e s m args below meth c T locs r X K hz hF hR hL => by
  obtain ⟨hd, rfl⟩ := hd
  exact (h en p e s m args below meth c T locs r X K hz hF hR hL).pre (fun _ q => q) fun t k => XT.i2l X.here K.1 rfl (hb K.by hd) rfl k
theorem Wk.l2i {x : Int64} (hd : InsA md pc (.l2i) 1 pc') (h : Wk l Z M md pc' L (.int x.toInt32 :: S) w cu su Q) : Wk l Z M md pc L (.long x :: S) w cu su Q :=
  fun en p e s m args below meth c T locs r X K hz hF hR hL => by
  obtain ⟨hd, rfl⟩ := hd
  exact (h en p e s m args below meth c T locs r X K hz hF hR hL).pre (fun _ q => q) fun t k => XT.l2i X.here K.1 rfl (hb K.by hd) rfl k
theorem Wk.lcmp {x y : Int64} (hd : InsA md pc (.lcmp) 1 pc') (h : Wk l Z M md pc' L (.int (XT.cmpL x y) :: S) w cu su Q) : Wk l Z M md pc L (.long y :: .long x :: S) w cu su Q :=
  fun en p e s m args below meth c T locs r X K hz hF hR hL => by
  obtain ⟨hd, rfl⟩ := hd
  exact (h en p e s m args below meth c T locs r X K hz hF hR hL).pre (fun _ q => q) fun t k => XT.lcmp X.here K.1 rfl (hb K.by hd) rfl k
theorem Wk.dup {v : Value} (hd : InsA md pc (.dup) 1 pc') (hv : v.category = 1) (h : Wk l Z M md pc' L (v :: v :: S) w cu su Q) : Wk l Z M md pc L (v :: S) w cu su Q :=
  fun en p e s m args below meth c T locs r X K hz hF hR hL => by
  obtain ⟨hd, rfl⟩ := hd
  exact (h en p e s m args below meth c T locs r X K hz hF hR hL).pre (fun _ q => q) fun t k => XS.dup X.here K.1 rfl (hb K.by hd) rfl (by rw [rv_cat]; exact hv) k
theorem Wk.pop {v : Value} (hd : InsA md pc (.pop) 1 pc') (hv : v.category = 1) (h : Wk l Z M md pc' L (S) w cu su Q) : Wk l Z M md pc L (v :: S) w cu su Q :=
  fun en p e s m args below meth c T locs r X K hz hF hR hL => by
  obtain ⟨hd, rfl⟩ := hd
  exact (h en p e s m args below meth c T locs r X K hz hF hR hL).pre (fun _ q => q) fun t k => XT.pop X.here K.1 rfl (hb K.by hd) rfl (by rw [rv_cat]; exact hv) k
theorem Wk.dup2 {v u : Value} (hd : InsA md pc (.dup2) 1 pc') (hv : v.category = 1) (hu : u.category = 1) (h : Wk l Z M md pc' L (v :: u :: v :: u :: S) w cu su Q) : Wk l Z M md pc L (v :: u :: S) w cu su Q :=
  fun en p e s m args below meth c T locs r X K hz hF hR hL => by
  obtain ⟨hd, rfl⟩ := hd
  exact (h en p e s m args below meth c T locs r X K hz hF hR hL).pre (fun _ q => q) fun t k => XT.dup2 X.here K.1 rfl (hb K.by hd) rfl (by rw [rv_cat]; exact hv) (by rw [rv_cat]; exact hu) k
theorem Wk.dupX1 {v u : Value} (hd : InsA md pc (.dup_x1) 1 pc') (hv : v.category = 1) (hu : u.category = 1) (h : Wk l Z M md pc' L (v :: u :: v :: S) w cu su Q) : Wk l Z M md pc L (v :: u :: S) w cu su Q :=
  fun en p e s m args below meth c T locs r X K hz hF hR hL => by
  obtain ⟨hd, rfl⟩ := hd
  exact (h en p e s m args below meth c T locs r X K hz hF hR hL).pre (fun _ q => q) fun t k => XT.dupX1 X.here K.1 rfl (hb K.by hd) rfl (by rw [rv_cat]; exact hv) (by rw [rv_cat]; exact hu) k
theorem Wk.istoreN {k : Fin 4} {x : Int32} (hd : InsA md pc (.istore_n k) 1 pc') (ho : C1 L[k.val]?) (hl : L.set k.val (.val (.int x)) = L') (h : Wk l Z M md pc' L' S w cu su Q) : Wk l Z M md pc L (.int x :: S) w cu su Q :=
  fun en p e s m args below meth c T locs r X K hz hF hR hL => by
  obtain ⟨hd, rfl⟩ := hd
  obtain ⟨r', e1, hL2⟩ := hL.st1 (v := .int x) ho rfl
  subst hl
  exact (h en p e s m args below meth c T locs r' X K hz hF hR hL2).pre (fun _ q => q) fun t k => XS.istoreN X.here K.1 rfl (hb K.by hd) rfl e1 k
theorem Wk.istore {k : Nat} {x : Int32} (hd : InsA md pc (.istore k) 2 pc') (ho : C1 L[k]?) (hl : L.set k (.val (.int x)) = L') (h : Wk l Z M md pc' L' S w cu su Q) : Wk l Z M md pc L (.int x :: S) w cu su Q :=
  fun en p e s m args below meth c T locs r X K hz hF hR hL => by
  obtain ⟨hd, rfl⟩ := hd
  obtain ⟨r', e1, hL2⟩ := hL.st1 (v := .int x) ho rfl
  subst hl
  exact (h en p e s m args below meth c T locs r' X K hz hF hR hL2).pre (fun _ q => q) fun t k => XS.istore X.here K.1 rfl (hb K.by hd) rfl e1 k
theorem Wk.astoreN {k : Fin 4} {x : Nat} (hd : InsA md pc (.astore_n k) 1 pc') (ho : C1 L[k.val]?) (hl : L.set k.val (.val (.ref x)) = L') (h : Wk l Z M md pc' L' S w cu su Q) : Wk l Z M md pc L (.ref x :: S) w cu su Q :=
  fun en p e s m args below meth c T locs r X K hz hF hR hL => by
  obtain ⟨hd, rfl⟩ := hd
  obtain ⟨r', e1, hL2⟩ := hL.st1 (v := .ref x) ho rfl
  subst hl
  exact (h en p e s m args below meth c T locs r' X K hz hF hR hL2).pre (fun _ q => q) fun t k => XS.astoreN X.here K.1 rfl (hb K.by hd) rfl rfl e1 k
theorem Wk.astore {k : Nat} {x : Nat} (hd : InsA md pc (.astore k) 2 pc') (ho : C1 L[k]?) (hl : L.set k (.val (.ref x)) = L') (h : Wk l Z M md pc' L' S w cu su Q) : Wk l Z M md pc L (.ref x :: S) w cu su Q :=
  fun en p e s m args below meth c T locs r X K hz hF hR hL => by
  obtain ⟨hd, rfl⟩ := hd
  obtain ⟨r', e1, hL2⟩ := hL.st1 (v := .ref x) ho rfl
  subst hl
  exact (h en p e s m args below meth c T locs r' X K hz hF hR hL2).pre (fun _ q => q) fun t k => XS.astore X.here K.1 rfl (hb K.by hd) rfl rfl e1 k
theorem Wk.lstoreN {k : Fin 4} {x : Int64} (hd : InsA md pc (.lstore_n k) 1 pc') (ho : C1 L[k.val]?) (ho2 : C1 L[k.val + 1]?) (hl : (L.set k.val (.val (.long x))).set (k.val + 1) .second = L') (h : Wk l Z M md pc' L' S w cu su Q) : Wk l Z M md pc L (.long x :: S) w cu su Q :=
  fun en p e s m args below meth c T locs r X K hz hF hR hL => by
  obtain ⟨hd, rfl⟩ := hd
  obtain ⟨r', e1, hL2⟩ := hL.st2 (v := .long x) ho ho2 rfl
  subst hl
  exact (h en p e s m args below meth c T locs r' X K hz hF hR hL2).pre (fun _ q => q) fun t k => XT.lstoreN X.here K.1 rfl (hb K.by hd) rfl e1 k
theorem Wk.lstore {k : Nat} {x : Int64} (hd : InsA md pc (.lstore k) 2 pc') (ho : C1 L[k]?) (ho2 : C1 L[k + 1]?) (hl : (L.set k (.val (.long x))).set (k + 1) .second = L') (h : Wk l Z M md pc' L' S w cu su Q) : Wk l Z M md pc L (.long x :: S) w cu su Q :=
  fun en p e s m args below meth c T locs r X K hz hF hR hL => by
  obtain ⟨hd, rfl⟩ := hd
  obtain ⟨r', e1, hL2⟩ := hL.st2 (v := .long x) ho ho2 rfl
  subst hl
  exact (h en p e s m args below meth c T locs r' X K hz hF hR hL2).pre (fun _ q => q) fun t k => XT.lstore X.here K.1 rfl (hb K.by hd) rfl e1 k
theorem Wk.iinc {k : Nat} {cst : Int} {x z : Int32} (hd : InsA md pc (.iinc k cst) 3 pc') (hv : L[k]? = some (.val (.int x))) (hz' : x + Int32.ofInt cst = z) (hl : L.set k (.val (.int z)) = L') (h : Wk l Z M md pc' L' S w cu su Q) : Wk l Z M md pc L S w cu su Q :=
  fun en p e s m args below meth c T locs r X K hz hF hR hL => by
  obtain ⟨hd, rfl⟩ := hd
  obtain ⟨r', e1, hL2⟩ := hL.st1 (i := k) (v := .int z) (Or.inr ⟨_, hv, rfl⟩) rfl
  subst hl hz'
  exact (h en p e s m args below meth c T locs r' X K hz hF hR hL2).pre (fun _ q => q) fun t k => XS.iinc X.here K.1 rfl (hb K.by hd) (hL.get hv) e1 k
theorem Wk.goto {o : Int} {pt : Nat} (hd : InsB md pc (.goto o) 3 pc' o pt) (h : Wk l Z M md pt L S w cu su Q) : Wk l Z M md pc L S w cu su Q :=
  fun en p e s m args below meth c T locs r X K hz hF hR hL => by
  obtain ⟨hd, rfl, h3, h4⟩ := hd
  exact (h en p e s m args below meth c T locs r X K hz hF hR hL).pre (fun _ q => q) fun t k => XS.goto X.here K.1 rfl rfl (hb K.by hd) h3 h4 k
theorem Wk.icmp_lt {x y : Int32} {o : Int} {pt : Nat} (hd : InsB md pc (.if_icmp .lt o) 3 pc' o pt) (h1 : x < y → Wk l Z M md pt L S w cu su Q) (h2 : ¬ x < y → Wk l Z M md pc' L S w cu su Q) : Wk l Z M md pc L (.int y :: .int x :: S) w cu su Q :=
  fun en p e s m args below meth c T locs r X K hz hF hR hL => by
  obtain ⟨hd, rfl, h3, h4⟩ := hd
  by_cases q : x < y
  · exact (h1 q en p e s m args below meth c T locs r X K hz hF hR hL).pre (fun _ q => q) fun t k => XS.icmpYes X.here K.1 rfl rfl (hb K.by hd) rfl (tlt q).1 h3 h4 k
  · exact (h2 q en p e s m args below meth c T locs r X K hz hF hR hL).pre (fun _ q => q) fun t k => XS.icmpNo X.here K.1 rfl (hb K.by hd) rfl (flt q).1 k
theorem Wk.if_lt {x : Int32} {o : Int} {pt : Nat} (hd : InsB md pc (.ifCond .lt o) 3 pc' o pt) (h1 : x < 0 → Wk l Z M md pt L S w cu su Q) (h2 : ¬ x < 0 → Wk l Z M md pc' L S w cu su Q) : Wk l Z M md pc L (.int x :: S) w cu su Q :=
  fun en p e s m args below meth c T locs r X K hz hF hR hL => by
  obtain ⟨hd, rfl, h3, h4⟩ := hd
  by_cases q : x < 0
  · exact (h1 q en p e s m args below meth c T locs r X K hz hF hR hL).pre (fun _ q => q) fun t k => XS.ifYes X.here K.1 rfl rfl (hb K.by hd) rfl ((if0 _ _).trans (tlt q).1) h3 h4 k
  · exact (h2 q en p e s m args below meth c T locs r X K hz hF hR hL).pre (fun _ q => q) fun t k => XS.ifNo X.here K.1 rfl (hb K.by hd) rfl ((if0 _ _).trans (flt q).1) k
theorem Wk.icmp_ge {x y : Int32} {o : Int} {pt : Nat} (hd : InsB md pc (.if_icmp .ge o) 3 pc' o pt) (h1 : ¬ x < y → Wk l Z M md pt L S w cu su Q) (h2 : x < y → Wk l Z M md pc' L S w cu su Q) : Wk l Z M md pc L (.int y :: .int x :: S) w cu su Q :=
  fun en p e s m args below meth c T locs r X K hz hF hR hL => by
  obtain ⟨hd, rfl, h3, h4⟩ := hd
  by_cases q : x < y
  · exact (h2 q en p e s m args below meth c T locs r X K hz hF hR hL).pre (fun _ q => q) fun t k => XS.icmpNo X.here K.1 rfl (hb K.by hd) rfl (tlt q).2.1 k
  · exact (h1 q en p e s m args below meth c T locs r X K hz hF hR hL).pre (fun _ q => q) fun t k => XS.icmpYes X.here K.1 rfl rfl (hb K.by hd) rfl (flt q).2.1 h3 h4 k
theorem Wk.if_ge {x : Int32} {o : Int} {pt : Nat} (hd : InsB md pc (.ifCond .ge o) 3 pc' o pt) (h1 : ¬ x < 0 → Wk l Z M md pt L S w cu su Q) (h2 : x < 0 → Wk l Z M md pc' L S w cu su Q) : Wk l Z M md pc L (.int x :: S) w cu su Q :=
  fun en p e s m args below meth c T locs r X K hz hF hR hL => by
  obtain ⟨hd, rfl, h3, h4⟩ := hd
  by_cases q : x < 0
  · exact (h2 q en p e s m args below meth c T locs r X K hz hF hR hL).pre (fun _ q => q) fun t k => XS.ifNo X.here K.1 rfl (hb K.by hd) rfl ((if0 _ _).trans (tlt q).2.1) k
  · exact (h1 q en p e s m args below meth c T locs r X K hz hF hR hL).pre (fun _ q => q) fun t k => XS.ifYes X.here K.1 rfl rfl (hb K.by hd) rfl ((if0 _ _).trans (flt q).2.1) h3 h4 k
theorem Wk.icmp_gt {x y : Int32} {o : Int} {pt : Nat} (hd : InsB md pc (.if_icmp .gt o) 3 pc' o pt) (h1 : y < x → Wk l Z M md pt L S w cu su Q) (h2 : ¬ y < x → Wk l Z M md pc' L S w cu su Q) : Wk l Z M md pc L (.int y :: .int x :: S) w cu su Q :=
  fun en p e s m args below meth c T locs r X K hz hF hR hL => by
  obtain ⟨hd, rfl, h3, h4⟩ := hd
  by_cases q : y < x
  · exact (h1 q en p e s m args below meth c T locs r X K hz hF hR hL).pre (fun _ q => q) fun t k => XS.icmpYes X.here K.1 rfl rfl (hb K.by hd) rfl (tlt q).2.2.1 h3 h4 k
  · exact (h2 q en p e s m args below meth c T locs r X K hz hF hR hL).pre (fun _ q => q) fun t k => XS.icmpNo X.here K.1 rfl (hb K.by hd) rfl (flt q).2.2.1 k
theorem Wk.if_gt {x : Int32} {o : Int} {pt : Nat} (hd : InsB md pc (.ifCond .gt o) 3 pc' o pt) (h1 : 0 < x → Wk l Z M md pt L S w cu su Q) (h2 : ¬ 0 < x → Wk l Z M md pc' L S w cu su Q) : Wk l Z M md pc L (.int x :: S) w cu su Q :=
  fun en p e s m args below meth c T locs r X K hz hF hR hL => by
  obtain ⟨hd, rfl, h3, h4⟩ := hd
  by_cases q : 0 < x
  · exact (h1 q en p e s m args below meth c T locs r X K hz hF hR hL).pre (fun _ q => q) fun t k => XS.ifYes X.here K.1 rfl rfl (hb K.by hd) rfl ((if0 _ _).trans (tlt q).2.2.1) h3 h4 k
  · exact (h2 q en p e s m args below meth c T locs r X K hz hF hR hL).pre (fun _ q => q) fun t k => XS.ifNo X.here K.1 rfl (hb K.by hd) rfl ((if0 _ _).trans (flt q).2.2.1) k
theorem Wk.icmp_le {x y : Int32} {o : Int} {pt : Nat} (hd : InsB md pc (.if_icmp .le o) 3 pc' o pt) (h1 : ¬ y < x → Wk l Z M md pt L S w cu su Q) (h2 : y < x → Wk l Z M md pc' L S w cu su Q) : Wk l Z M md pc L (.int y :: .int x :: S) w cu su Q :=
  fun en p e s m args below meth c T locs r X K hz hF hR hL => by
  obtain ⟨hd, rfl, h3, h4⟩ := hd
  by_cases q : y < x
  · exact (h2 q en p e s m args below meth c T locs r X K hz hF hR hL).pre (fun _ q => q) fun t k => XS.icmpNo X.here K.1 rfl (hb K.by hd) rfl (tlt q).2.2.2 k
  · exact (h1 q en p e s m args below meth c T locs r X K hz hF hR hL).pre (fun _ q => q) fun t k => XS.icmpYes X.here K.1 rfl rfl (hb K.by hd) rfl (flt q).2.2.2 h3 h4 k
theorem Wk.if_le {x : Int32} {o : Int} {pt : Nat} (hd : InsB md pc (.ifCond .le o) 3 pc' o pt) (h1 : ¬ 0 < x → Wk l Z M md pt L S w cu su Q) (h2 : 0 < x → Wk l Z M md pc' L S w cu su Q) : Wk l Z M md pc L (.int x :: S) w cu su Q :=
  fun en p e s m args below meth c T locs r X K hz hF hR hL => by
  obtain ⟨hd, rfl, h3, h4⟩ := hd
  by_cases q : 0 < x
  · exact (h2 q en p e s m args below meth c T locs r X K hz hF hR hL).pre (fun _ q => q) fun t k => XS.ifNo X.here K.1 rfl (hb K.by hd) rfl ((if0 _ _).trans (tlt q).2.2.2) k
  · exact (h1 q en p e s m args below meth c T locs r X K hz hF hR hL).pre (fun _ q => q) fun t k => XS.ifYes X.here K.1 rfl rfl (hb K.by hd) rfl ((if0 _ _).trans (flt q).2.2.2) h3 h4 k
theorem Wk.icmp_eq {x y : Int32} {o : Int} {pt : Nat} (hd : InsB md pc (.if_icmp .eq o) 3 pc' o pt) (h1 : x = y → Wk l Z M md pt L S w cu su Q) (h2 : ¬ x = y → Wk l Z M md pc' L S w cu su Q) : Wk l Z M md pc L (.int y :: .int x :: S) w cu su Q :=
  fun en p e s m args below meth c T locs r X K hz hF hR hL => by
  obtain ⟨hd, rfl, h3, h4⟩ := hd
  by_cases q : x = y
  · exact (h1 q en p e s m args below meth c T locs r X K hz hF hR hL).pre (fun _ q => q) fun t k => XS.icmpYes X.here K.1 rfl rfl (hb K.by hd) rfl (teq q).1 h3 h4 k
  · exact (h2 q en p e s m args below meth c T locs r X K hz hF hR hL).pre (fun _ q => q) fun t k => XS.icmpNo X.here K.1 rfl (hb K.by hd) rfl (feq q).1 k
theorem Wk.if_eq {x : Int32} {o : Int} {pt : Nat} (hd : InsB md pc (.ifCond .eq o) 3 pc' o pt) (h1 : x = 0 → Wk l Z M md pt L S w cu su Q) (h2 : ¬ x = 0 → Wk l Z M md pc' L S w cu su Q) : Wk l Z M md pc L (.int x :: S) w cu su Q :=
  fun en p e s m args below meth c T locs r X K hz hF hR hL => by
  obtain ⟨hd, rfl, h3, h4⟩ := hd
  by_cases q : x = 0
  · exact (h1 q en p e s m args below meth c T locs r X K hz hF hR hL).pre (fun _ q => q) fun t k => XS.ifYes X.here K.1 rfl rfl (hb K.by hd) rfl ((if0 _ _).trans (teq q).1) h3 h4 k
  · exact (h2 q en p e s m args below meth c T locs r X K hz hF hR hL).pre (fun _ q => q) fun t k => XS.ifNo X.here K.1 rfl (hb K.by hd) rfl ((if0 _ _).trans (feq q).1) k
theorem Wk.icmp_ne {x y : Int32} {o : Int} {pt : Nat} (hd : InsB md pc (.if_icmp .ne o) 3 pc' o pt) (h1 : ¬ x = y → Wk l Z M md pt L S w cu su Q) (h2 : x = y → Wk l Z M md pc' L S w cu su Q) : Wk l Z M md pc L (.int y :: .int x :: S) w cu su Q :=
  fun en p e s m args below meth c T locs r X K hz hF hR hL => by
  obtain ⟨hd, rfl, h3, h4⟩ := hd
  by_cases q : x = y
  · exact (h2 q en p e s m args below meth c T locs r X K hz hF hR hL).pre (fun _ q => q) fun t k => XS.icmpNo X.here K.1 rfl (hb K.by hd) rfl (teq q).2 k
  · exact (h1 q en p e s m args below meth c T locs r X K hz hF hR hL).pre (fun _ q => q) fun t k => XS.icmpYes X.here K.1 rfl rfl (hb K.by hd) rfl (feq q).2 h3 h4 k
theorem Wk.if_ne {x : Int32} {o : Int} {pt : Nat} (hd : InsB md pc (.ifCond .ne o) 3 pc' o pt) (h1 : ¬ x = 0 → Wk l Z M md pt L S w cu su Q) (h2 : x = 0 → Wk l Z M md pc' L S w cu su Q) : Wk l Z M md pc L (.int x :: S) w cu su Q :=
  fun en p e s m args below meth c T locs r X K hz hF hR hL => by
  obtain ⟨hd, rfl, h3, h4⟩ := hd
  by_cases q : x = 0
  · exact (h2 q en p e s m args below meth c T locs r X K hz hF hR hL).pre (fun _ q => q) fun t k => XS.ifNo X.here K.1 rfl (hb K.by hd) rfl ((if0 _ _).trans (teq q).2) k
  · exact (h1 q en p e s m args below meth c T locs r X K hz hF hR hL).pre (fun _ q => q) fun t k => XS.ifYes X.here K.1 rfl rfl (hb K.by hd) rfl ((if0 _ _).trans (feq q).2) h3 h4 k
theorem Wk.tswIn {dflt low high o : Int} {offs : Array Int} {len pt : Nat} {x z : Int32} (hd : InsB md pc (.tableswitch dflt low high offs) len pc' o pt) (hx : x = z) (hin : ¬ (z.toInt < low ∨ z.toInt > high)) (hoff : offs[(z.toInt - low).toNat]? = some o) (h : Wk l Z M md pt L S w cu su Q) : Wk l Z M md pc L (.int x :: S) w cu su Q :=
  fun en p e s m args below meth c T locs r X K hz hF hR hL => by
  obtain ⟨hd, rfl, h3, h4⟩ := hd
  subst hx
  exact (h en p e s m args below meth c T locs r X K hz hF hR hL).pre (fun _ q => q) fun t k => XS.tswIn X.here K.1 rfl rfl (hb K.by hd) rfl hin hoff h3 h4 k
theorem Wk.tswOut {dflt low high : Int} {offs : Array Int} {len pt : Nat} {x : Int32} (hd : InsB md pc (.tableswitch dflt low high offs) len pc' dflt pt) (hout : x.toInt < low ∨ x.toInt > high) (h : Wk l Z M md pt L S w cu su Q) : Wk l Z M md pc L (.int x :: S) w cu su Q :=
  fun en p e s m args below meth c T locs r X K hz hF hR hL => by
  obtain ⟨hd, rfl, h3, h4⟩ := hd
  exact (h en p e s m args below meth c T locs r X K hz hF hR hL).pre (fun _ q => q) fun t k => XS.tswOut X.here K.1 rfl rfl (hb K.by hd) rfl hout h3 h4 k
theorem Wk.ldc {idx : Nat} {z : Int32} {a0 : Array Value} (hd : InsA md pc (.ldc idx) 2 pc') (wd : (Cond.constant M.own idx z).before a0 Z = true) (h : Wk l Z M md pc' L (.int z :: S) w cu su Q) : Wk l Z M md pc L S w cu su Q :=
  fun en p e s m args below meth c T locs r X K hz hF hR hL => by
  obtain ⟨hd, rfl⟩ := hd
  have hc : (Cond.constant M.own idx z).before args s = true := mvT K.2.1 wd
  exact (h en p e s m args below meth c T locs r X K hz hF hR hL).pre (fun _ q => q) fun t k => X.ldcInt K.1 K.2.2.1 hc (g := mkF m pc r (S.map (rv (M.rho en)))) rfl (hb K.by hd) t k
theorem Wk.ldcw {idx : Nat} {z : Int32} {a0 : Array Value} (hd : InsA md pc (.ldc_w idx) 3 pc') (wd : (Cond.constant M.own idx z).before a0 Z = true) (h : Wk l Z M md pc' L (.int z :: S) w cu su Q) : Wk l Z M md pc L S w cu su Q :=
  fun en p e s m args below meth c T locs r X K hz hF hR hL => by
  obtain ⟨hd, rfl⟩ := hd
  have hc : (Cond.constant M.own idx z).before args s = true := mvT K.2.1 wd
  exact (h en p e s m args below meth c T locs r X K hz hF hR hL).pre (fun _ q => q) fun t k => X.ldcwInt K.1 K.2.2.1 hc (g := mkF m pc r (S.map (rv (M.rho en)))) rfl (hb K.by hd) t k
theorem Wk.ldc2 {idx : Nat} {z : Int64} {a0 : Array Value} (hd : InsA md pc (.ldc2_w idx) 3 pc') (wd : (Cond.constantLong M.own idx z).before a0 Z = true) (h : Wk l Z M md pc' L (.long z :: S) w cu su Q) : Wk l Z M md pc L S w cu su Q :=
  fun en p e s m args below meth c T locs r X K hz hF hR hL => by
  obtain ⟨hd, rfl⟩ := hd
  have hc : (Cond.constantLong M.own idx z).before args s = true := mvT K.2.1 wd
  exact (h en p e s m args below meth c T locs r X K hz hF hR hL).pre (fun _ q => q) fun t k => X.ldc2Long K.1 K.2.2.1 hc (g := mkF m pc r (S.map (rv (M.rho en)))) rfl (hb K.by hd) t k
/-! returns -/
theorem Wk.ireturn {x : Int32} (hM : ∀ en h, M.frm en h h) (hret : rtOf md = some .int) (hd : InsA md pc .ireturn 1 pc') (hc : cu = exOf md) (hc2 : exOf md ≤ (rmOf md).cells) (hs : su ≤ (rmOf md).slots) (hq : Q (some (.int x)) w) : Wk l Z M md pc L (.int x :: S) w cu su Q :=
  fun en p e s m args below meth c T locs r X K hz hF hR hL => by
  subst hc
  have hr := K.2.2.2.2.1.trans hret
  exact ⟨T, locs, su, _, w, X, hc2, hs, hz, hF, hR, hM _ _, fun q => (by rw [hr] at q; cases q), fun ρ y e => (by cases e; rfl), hq, fun fs hf => retI X K.1 hr (hb K.by hd.1) hf⟩
theorem Wk.zreturn {x y : Int32} (hM : ∀ en h, M.frm en h h) (hret : rtOf md = some .boolean) (hd : InsA md pc .ireturn 1 pc') (hc : cu = exOf md) (hc2 : exOf md ≤ (rmOf md).cells) (hs : su ≤ (rmOf md).slots) (hy : nar .boolean x = y) (hq : Q (some (.int y)) w) : Wk l Z M md pc L (.int x :: S) w cu su Q :=
  fun en p e s m args below meth c T locs r X K hz hF hR hL => by
  subst hc hy
  have hr := K.2.2.2.2.1.trans hret
  exact ⟨T, locs, su, _, w, X, hc2, hs, hz, hF, hR, hM _ _, fun q => (by rw [hr] at q; cases q), fun ρ y e => (by cases e; rfl), hq, fun fs hf => retN X K.1 (t := .boolean) hr (by simp) (hb K.by hd.1) hf⟩
theorem Wk.lreturn {x : Int64} (hM : ∀ en h, M.frm en h h) (hret : rtOf md = some .long) (hd : InsA md pc .lreturn 1 pc') (hc : cu = exOf md) (hc2 : exOf md ≤ (rmOf md).cells) (hs : su ≤ (rmOf md).slots) (hq : Q (some (.long x)) w) : Wk l Z M md pc L [.long x] w cu su Q :=
  fun en p e s m args below meth c T locs r X K hz hF hR hL => by
  subst hc
  have hr := K.2.2.2.2.1.trans hret
  exact ⟨T, locs, su, _, w, X, hc2, hs, hz, hF, hR, hM _ _, fun q => (by rw [hr] at q; cases q), fun ρ y e => (by cases e; rfl), hq, fun fs hf => X.lreturnOut K.1 hr (hb K.by hd.1) hf⟩
theorem Wk.ret (hM : ∀ en h, M.frm en h h) (hret : rtOf md = none) (hd : InsA md pc .return_ 1 pc') (hc : cu = exOf md) (hc2 : exOf md ≤ (rmOf md).cells) (hs : su ≤ (rmOf md).slots) (hq : Q none w) : Wk l Z M md pc L [] w cu su Q :=
  fun en p e s m args below meth c T locs r X K hz hF hR hL => by
  subst hc
  have hr := K.2.2.2.2.1.trans hret
  exact ⟨T, locs, su, none, w, X, hc2, hs, hz, hF, hR, hM _ _, fun _ => rfl, fun ρ y e => (by cases e), hq, fun fs hf => X.returnOut K.1 hr (hb K.by hd.1) hf⟩
/-! a walk from the entry is a contract -/
theorem Wk.met (h : Wk l Z M md 0 L [] w 0 0 Q) (hp : plainName (nmOf md).cls = true) (ho : M.own = (nmOf md).cls) {en : E} {h0 : Heap} (hR : M.rel en w h0) (as : List Value) (hL : (argsToLocals as.toArray (mxOf md)).toList = L) (hw : wfL L = true) (ws : List Jvm.Cond) :
    MetFree l (nmOf md) (head1 (Jvm.Cond.code (nmOf md) (byOf md) (mxOf md) (rtOf md) :: ws) (rmOf md)) (fun a U => a = (as.map (rv (M.rho en))).toArray ∧ Z.Warmed39 U.vm ∧ U.heap = h0) (fun _ _ _ _ _ => True)
      (fun _ U o U' => ∃ v Lc, o = .returned v ∧ (∃ w', Q v w' ∧ M.rel en w' U'.heap ∧ M.frm en h0 U'.heap ∧ Fr (M.lo en) Lc ∧ U'.heap.size = h0.size + exOf md ∧ ∀ ρ x, v = some x → rv ρ x = x) ∧ FrameEnd U o U' Lc (rmOf md).cells (rmOf md).slots) := by
  refine MetFree.of_bodySF (plainFor_of_name hp) hisR ?_
  intro p e s m args below meth c s₁ Bd hml0 hP hK
  obtain ⟨rfl, hZ, hh⟩ := hP
  have hown : s.vm.findClass (nmOf md).cls = some m.cls := findClass_of_methodNamed Bd.named
  have hnm := (name_of_methodNamed Bd.named Bd.method).1
  have X0 : Stand p l e (rmOf md) s m (as.map (rv (M.rho en))).toArray below meth c s₁ [] 0 0 := Stand.of_body Bd
  have e0 : s₁.heap = s.heap := by rw [Bd.state]; rfl
  subst hh
  obtain ⟨T', locs', su', v, w', a1, a2, a3, a4, a5, a6, a7, a8, a9, a10, a11⟩ := h en p e s m _ below meth c s₁ [] _ X0 ⟨Bd.exec, hZ, by rw [ho]; exact hown, hnm, Bd.returns, BodyLoose.notSynchronized Bd, Bd.bytes, hml0⟩ (by rw [e0]; rfl) (Fr.nil _) (by rw [e0]; exact hR) (SR.entry (M.rho en) as (mxOf md) hL hw)
  obtain ⟨fs, hr, hrun, hended, hW, hsame⟩ := a1.leave (v := v) a8 (BodyLoose.notSynchronized Bd)
  rw [e0] at a7
  exact ⟨_, _, a11 fs hr, hrun, hended, v, locs', rfl, ⟨w', a10, a6, a7, a5, a4, a9⟩, ⟨_, rfl⟩, hW, hsame.mono a2 a3⟩
end Steps
end Jvm.Own

namespace Jvm.Own
open Jvm Jvm.ClassFile Sem Op Lib Jvm.Free Jvm.Stand Jvm.LawKit Jvm.RoadKit
/-! ## 3. One object of the project's class, with its arrays behind it -/
/-- how many arrays are made; the ints; the longs; the arrays of ints (and booleans); of longs -/
abbrev WO : Type := Nat × (Nat → Int32) × (Nat → Int64) × (Nat → Int32 → Int32) × (Nat → Int32 → Int64)
/-- the class; its fields of ints and booleans (number, name, descriptor); of longs; of arrays, in the order in which they are made -/
abbrev CD : Type := String × List (Nat × String × String) × List (Nat × String) × List (Nat × String × String × FieldType × Int32)
def ups {κ α : Type} [DecidableEq κ] (f : κ → α) (i : κ) (x : α) : κ → α := fun k => if k = i then x else f k
theorem ups_at {κ α : Type} [DecidableEq κ] (f : κ → α) (i : κ) (x : α) : ups f i x i = x := by simp [ups]
theorem ups_ne {κ α : Type} [DecidableEq κ] (f : κ → α) {i k : κ} (x : α) (h : k ≠ i) : ups f i x k = f k := by simp [ups, h]
def el : FieldType → Int32 → Int64 → Value
  | .long, _, j => .long j
  | _, i, _ => .int i
theorem el_int {ty : FieldType} (h : ty ≠ .long) (i : Int32) (j : Int64) : el ty i j = .int i := by cases ty <;> first | rfl | exact absurd rfl h
def AtA (Z : State) (h : Heap) (b : Addr) (ty : FieldType) (n : Int32) (f : Int32 → Int32) (g : Int32 → Int64) : Prop :=
  ∃ cl, Arr Z h b cl ty ∧ cl.slots.size = n.toNatClampNeg ∧ ∀ x : Int32, ¬ x < 0 → x < n → cl.slots[x.toNatClampNeg]? = some (el ty (f x) (g x))
def relC (Z : State) (cd : CD) (en : Nat × Nat) (w : WO) (h : Heap) : Prop :=
  en.2 ≤ en.1 ∧ Exa Z h en.1 cd.1 ∧ (∀ t ∈ cd.2.1, Fld Z h en.1 cd.1 t.2.1 t.2.2 (.int (w.2.1 t.1))) ∧ (∀ t ∈ cd.2.2.1, Fld Z h en.1 cd.1 t.2 "J" (.long (w.2.2.1 t.1))) ∧
  (∀ t ∈ cd.2.2.2, (t.1 < w.1 → Fld Z h en.1 cd.1 t.2.1 t.2.2.1 (.ref (en.1 + (t.1 + 1))) ∧ AtA Z h (en.1 + (t.1 + 1)) t.2.2.2.1 t.2.2.2.2 (w.2.2.2.1 t.1) (w.2.2.2.2 t.1)) ∧ (¬ t.1 < w.1 → Fld Z h en.1 cd.1 t.2.1 t.2.2.1 .null)) ∧
  (w.1 < cd.2.2.2.length → h.size = en.1 + 1 + w.1)
def frmC (cd : CD) (en : Nat × Nat) (h h' : Heap) : Prop := h.size ≤ h'.size ∧ ∀ (x : Nat) (c : Cell), h[x]? = some c → (x < en.1 ∨ en.1 + cd.2.2.2.length < x) → h'[x]? = some c
abbrev MoC (Z : State) (cd : CD) : Mode WO (Nat × Nat) := (cd.1, fun en k => en.1 + k, fun en => en.2, relC Z cd, frmC cd)
theorem nn {a b : Nat} (h : a ≠ b) : @Ne Addr a b := h
theorem frmC.refl (cd : CD) (en : Nat × Nat) (h : Heap) : frmC cd en h h := ⟨Nat.le_refl _, fun _ _ q _ => q⟩
theorem frmC.trans {cd : CD} {en : Nat × Nat} {h1 h2 h3 : Heap} (a : frmC cd en h1 h2) (b : frmC cd en h2 h3) : frmC cd en h1 h3 := ⟨Nat.le_trans a.1 b.1, fun x c q r => b.2 x c (a.2 x c q r) r⟩
theorem frmC.wr {cd : CD} {en : Nat × Nat} {h h' : Heap} {b : Nat} {sl : Nat} {v : Value} (W : Wr h h' b sl v) (h1 : en.1 ≤ b) (h2 : b ≤ en.1 + cd.2.2.2.length) : frmC cd en h h' := by
  refine ⟨Nat.le_of_eq W.size.symm, fun x c q r => ?_⟩
  obtain ⟨c', e1, -, -, -, e5, -⟩ := wr_at W q
  rw [← e5 (nn (by omega))]; exact e1
theorem frmC.ext {cd : CD} {en : Nat × Nat} {h h' : Heap} (E : Ext h h') : frmC cd en h h' := ⟨E.1, fun x c q _ => E.2 x c q⟩
def okC (cd : CD) : Prop :=
  (∀ t ∈ cd.2.1, ∀ t' ∈ cd.2.1, (t.1 = t'.1 → t = t') ∧ (t.1 ≠ t'.1 → t.2.1 ≠ t'.2.1)) ∧ (∀ t ∈ cd.2.2.1, ∀ t' ∈ cd.2.2.1, (t.1 = t'.1 → t = t') ∧ (t.1 ≠ t'.1 → t.2 ≠ t'.2)) ∧ (∀ t ∈ cd.2.2.2, ∀ t' ∈ cd.2.2.2, (t.1 = t'.1 → t = t') ∧ (t.1 ≠ t'.1 → t.2.1 ≠ t'.2.1)) ∧
  (∀ t ∈ cd.2.1, ∀ t' ∈ cd.2.2.1, t.2.1 ≠ t'.2) ∧ (∀ t ∈ cd.2.1, ∀ t' ∈ cd.2.2.2, t.2.1 ≠ t'.2.1) ∧ (∀ t ∈ cd.2.2.1, ∀ t' ∈ cd.2.2.2, t.2 ≠ t'.2.1) ∧
  (∀ t ∈ cd.2.1, parseFieldDescriptor t.2.2 = some .int ∨ parseFieldDescriptor t.2.2 = some .boolean) ∧
  (∀ t ∈ cd.2.2.2, parseFieldDescriptor t.2.2.1 = some (.array t.2.2.2.1) ∧ t.1 < cd.2.2.2.length ∧ (t.2.2.2.1 = .int ∨ t.2.2.2.1 = .boolean ∨ t.2.2.2.1 = .long) ∧ ¬ t.2.2.2.2 < 0)
/-- what the words say of the class -/
def CO (Z : State) (a0 : Array Value) (cd : CD) : Prop :=
  (∃ kk, (Cond.instantiable cd.1 kk).before a0 Z = true) ∧ (∀ t ∈ cd.2.1, Laid Z a0 cd.1 cd.1 t.2.1 t.2.2) ∧ (∀ t ∈ cd.2.2.1, Laid Z a0 cd.1 cd.1 t.2 "J") ∧ (∀ t ∈ cd.2.2.2, Laid Z a0 cd.1 cd.1 t.2.1 t.2.2.1) ∧ okC cd
theorem pJ : parseFieldDescriptor "J" = some .long := by decide +kernel
theorem snJ {Z : State} {a0 : Array Value} {C n n' d' : String} {t' : FieldType} (L : Laid Z a0 C C n "J") (L' : Laid Z a0 C C n' d') (hn : n ≠ n') (ht' : parseFieldDescriptor d' = some t') : Jvm.RoadKit.slotOf Z C n "J" ≠ Jvm.RoadKit.slotOf Z C n' d' := by
  have p := pJ
  generalize "J" = q at *
  exact slot_ne L L' hn p ht'
section Rel
variable {Z : State} {a0 : Array Value} {cd : CD} {en : Nat × Nat} {h h' : Heap} {k : Nat} {F : Nat → Int32} {G : Nat → Int64} {A : Nat → Int32 → Int32} {B : Nat → Int32 → Int64}
theorem pI (ok : CO Z a0 cd) {t : Nat × String × String} (ht : t ∈ cd.2.1) : ∃ ty, parseFieldDescriptor t.2.2 = some ty := by
  rcases ok.2.2.2.2.2.2.2.2.2.2.1 t ht with q | q <;> exact ⟨_, q⟩
theorem AtA.other {b b' : Addr} {ty : FieldType} {n : Int32} {f : Int32 → Int32} {g : Int32 → Int64} {sl : Nat} {v : Value} (W : Wr h h' b sl v) (H : AtA Z h b' ty n f g) (hne : b' ≠ b) : AtA Z h' b' ty n f g := by
  obtain ⟨cl, h1, h2, h3⟩ := H
  exact ⟨cl, h1.other W hne, h2, h3⟩
theorem AtA.ext {b' : Addr} {ty : FieldType} {n : Int32} {f : Int32 → Int32} {g : Int32 → Int64} (E : Ext h h') (H : AtA Z h b' ty n f g) : AtA Z h' b' ty n f g := by
  obtain ⟨cl, h1, h2, h3⟩ := H
  exact ⟨cl, h1.ext E, h2, h3⟩
theorem clamp_lt {x n : Int32} (h0 : ¬ x < 0) (h1 : x < n) : x.toNatClampNeg < n.toNatClampNeg := by
  simp only [Int32.lt_iff_toInt_lt, Int32.reduceToInt, Int32.toNatClampNeg] at *
  omega
theorem in_of {x n : Int32} {cl : Cell} (h2 : cl.slots.size = n.toNatClampNeg) (h0 : ¬ x < 0) (h1 : x < n) : ¬ (x < 0 ∨ cl.slots.size ≤ x.toNatClampNeg) := by
  have := clamp_lt h0 h1
  rintro (q | q)
  · exact h0 q
  · omega
theorem AtA.stI {b : Addr} {ty : FieldType} {n : Int32} {f : Int32 → Int32} {g : Int32 → Int64} {j x : Int32} (hty : ty ≠ .long) (h0 : ¬ j < 0) (h1 : j < n) (W : Wr h h' b j.toNatClampNeg (.int x)) (H : AtA Z h b ty n f g) : AtA Z h' b ty n (ups f j x) g := by
  obtain ⟨cl, g1, g2, g3⟩ := H
  refine ⟨_, g1.same W, by rw [sz_set]; exact g2, fun y y0 y1 => ?_⟩
  by_cases e : y = j
  · rw [get_hit (in_of g2 h0 h1) e, e, ups_at, el_int hty]
  · rw [get_miss h0 y0 e, ups_ne _ _ e]; exact g3 y y0 y1
theorem AtA.stJ {b : Addr} {n : Int32} {f : Int32 → Int32} {g : Int32 → Int64} {j : Int32} {x : Int64} (h0 : ¬ j < 0) (h1 : j < n) (W : Wr h h' b j.toNatClampNeg (.long x)) (H : AtA Z h b .long n f g) : AtA Z h' b .long n f (ups g j x) := by
  obtain ⟨cl, g1, g2, g3⟩ := H
  refine ⟨_, g1.same W, by rw [sz_set]; exact g2, fun y y0 y1 => ?_⟩
  by_cases e : y = j
  · rw [get_hit (in_of g2 h0 h1) e, e, ups_at]; rfl
  · rw [get_miss h0 y0 e, ups_ne _ _ e]; exact g3 y y0 y1
theorem relC.putI (ok : CO Z a0 cd) {i : Nat} {n d : String} {x : Int32} (hR : relC Z cd en (k, F, G, A, B) h) (ht : (i, n, d) ∈ cd.2.1) (W : Wr h h' en.1 (Jvm.RoadKit.slotOf Z cd.1 n d) (.int x)) : relC Z cd en (k, ups F i x, G, A, B) h' := by
  obtain ⟨r1, r2, r3, r4, r5, r6⟩ := hR
  obtain ⟨-, o2, o3, o4, q1, q2, q3, q4, q5, q6, q7, q8⟩ := ok
  obtain ⟨ty0, p0⟩ : ∃ ty, parseFieldDescriptor d = some ty := by rcases q7 _ ht with q | q <;> exact ⟨_, q⟩
  refine ⟨r1, r2.wr W, fun t m => ?_, fun t m => ?_, fun t m => ⟨fun hk => ?_, fun hk => ?_⟩, fun q => ?_⟩
  · obtain ⟨u1, u2⟩ := q1 _ m _ ht
    by_cases e : t.1 = i
    · have e2 := u1 e
      subst e2
      show Fld Z h' en.1 cd.1 n d (.int (ups F i x i))
      rw [ups_at]
      exact (r3 _ ht).same W
    · show Fld Z h' en.1 cd.1 _ _ (.int (ups F i x t.1))
      rw [ups_ne _ _ e]
      obtain ⟨ty1, p1⟩ : ∃ ty, parseFieldDescriptor t.2.2 = some ty := by rcases q7 _ m with q | q <;> exact ⟨_, q⟩
      have z0 := slot_ne (o2 _ m) (o2 _ ht) (u2 e) p1 p0
      exact (r3 t m).other W (Or.inr z0)
  · have e1 := o3 _ m
    have e2 := o2 _ ht
    have e3 := q4 _ ht _ m
    have e4 := snJ e1 e2 (Ne.symm e3) p0
    have e5 := r4 t m
    exact e5.other W (Or.inr e4)
  · obtain ⟨a1, a2⟩ := (r5 t m).1 hk
    have z0 := slot_ne (o4 _ m) (o2 _ ht) (Ne.symm (q5 _ ht _ m)) (q8 _ m).1 p0
    exact ⟨a1.other W (Or.inr z0), a2.other W (nn (by omega))⟩
  · have z0 := slot_ne (o4 _ m) (o2 _ ht) (Ne.symm (q5 _ ht _ m)) (q8 _ m).1 p0
    exact ((r5 t m).2 hk).other W (Or.inr z0)
  · rw [W.size]; exact r6 q
theorem relC.putJ (ok : CO Z a0 cd) {i : Nat} {n : String} {x : Int64} (hR : relC Z cd en (k, F, G, A, B) h) (ht : (i, n) ∈ cd.2.2.1) (W : Wr h h' en.1 (Jvm.RoadKit.slotOf Z cd.1 n "J") (.long x)) : relC Z cd en (k, F, ups G i x, A, B) h' := by
  obtain ⟨r1, r2, r3, r4, r5, r6⟩ := hR
  obtain ⟨-, o2, o3, o4, q1, q2, q3, q4, q5, q6, q7, q8⟩ := ok
  refine ⟨r1, r2.wr W, fun t m => ?_, fun t m => ?_, fun t m => ⟨fun hk => ?_, fun hk => ?_⟩, fun q => ?_⟩
  · obtain ⟨ty1, p1⟩ : ∃ ty, parseFieldDescriptor t.2.2 = some ty := by rcases q7 _ m with q | q <;> exact ⟨_, q⟩
    have z0 := Ne.symm (snJ (o3 _ ht) (o2 _ m) (Ne.symm (q4 _ m _ ht)) p1)
    exact (r3 t m).other W (Or.inr z0)
  · obtain ⟨u1, u2⟩ := q2 _ m _ ht
    by_cases e : t.1 = i
    · have e2 := u1 e
      subst e2
      show Fld Z h' en.1 cd.1 n "J" (.long (ups G i x i))
      rw [ups_at]
      exact (r4 _ ht).same W
    · show Fld Z h' en.1 cd.1 _ _ (.long (ups G i x t.1))
      rw [ups_ne _ _ e]
      have z0 := snJ (o3 _ m) (o3 _ ht) (u2 e) pJ
      exact (r4 t m).other W (Or.inr z0)
  · obtain ⟨a1, a2⟩ := (r5 t m).1 hk
    have z0 := Ne.symm (snJ (o3 _ ht) (o4 _ m) (q6 _ ht _ m) (q8 _ m).1)
    exact ⟨a1.other W (Or.inr z0), a2.other W (nn (by omega))⟩
  · have z0 := Ne.symm (snJ (o3 _ ht) (o4 _ m) (q6 _ ht _ m) (q8 _ m).1)
    exact ((r5 t m).2 hk).other W (Or.inr z0)
  · rw [W.size]; exact r6 q
theorem relC.stI (ok : CO Z a0 cd) {i : Nat} {n d : String} {ty : FieldType} {len j x : Int32} (hty : ty ≠ .long) (h0 : ¬ j < 0) (h1 : j < len) (hR : relC Z cd en (k, F, G, A, B) h) (ht : (i, n, d, ty, len) ∈ cd.2.2.2) (W : Wr h h' (en.1 + (i + 1)) j.toNatClampNeg (.int x)) : relC Z cd en (k, F, G, ups A i (ups (A i) j x), B) h' := by
  obtain ⟨r1, r2, r3, r4, r5, r6⟩ := hR
  obtain ⟨-, o2, o3, o4, q1, q2, q3, q4, q5, q6, q7, q8⟩ := ok
  refine ⟨r1, r2.wr W, fun t m => (r3 t m).other W (Or.inl (nn (by omega))), fun t m => (r4 t m).other W (Or.inl (nn (by omega))), fun t m => ⟨fun hk => ?_, fun hk => ((r5 t m).2 hk).other W (Or.inl (nn (by omega)))⟩, fun q => by rw [W.size]; exact r6 q⟩
  obtain ⟨a1, a2⟩ := (r5 t m).1 hk
  refine ⟨a1.other W (Or.inl (nn (by omega))), ?_⟩
  obtain ⟨u1, u2⟩ := q3 _ m _ ht
  show AtA Z h' _ _ _ (ups A i (ups (A i) j x) t.1) (B t.1)
  by_cases e : t.1 = i
  · have e2 := u1 e
    subst e2
    rw [ups_at]
    exact a2.stI hty h0 h1 W
  · rw [ups_ne _ _ e]
    exact a2.other W (nn (by omega))
theorem relC.stJ (ok : CO Z a0 cd) {i : Nat} {n d : String} {len j : Int32} {x : Int64} (h0 : ¬ j < 0) (h1 : j < len) (hR : relC Z cd en (k, F, G, A, B) h) (ht : (i, n, d, .long, len) ∈ cd.2.2.2) (W : Wr h h' (en.1 + (i + 1)) j.toNatClampNeg (.long x)) : relC Z cd en (k, F, G, A, ups B i (ups (B i) j x)) h' := by
  obtain ⟨r1, r2, r3, r4, r5, r6⟩ := hR
  obtain ⟨-, o2, o3, o4, q1, q2, q3, q4, q5, q6, q7, q8⟩ := ok
  refine ⟨r1, r2.wr W, fun t m => (r3 t m).other W (Or.inl (nn (by omega))), fun t m => (r4 t m).other W (Or.inl (nn (by omega))), fun t m => ⟨fun hk => ?_, fun hk => ((r5 t m).2 hk).other W (Or.inl (nn (by omega)))⟩, fun q => by rw [W.size]; exact r6 q⟩
  obtain ⟨a1, a2⟩ := (r5 t m).1 hk
  refine ⟨a1.other W (Or.inl (nn (by omega))), ?_⟩
  obtain ⟨u1, u2⟩ := q3 _ m _ ht
  show AtA Z h' _ _ _ (A t.1) (ups B i (ups (B i) j x) t.1)
  by_cases e : t.1 = i
  · have e2 := u1 e
    subst e2
    rw [ups_at]
    exact a2.stJ h0 h1 W
  · rw [ups_ne _ _ e]
    exact a2.other W (nn (by omega))
theorem relC.newA (ok : CO Z a0 cd) {h1 : Heap} {n d : String} {ty : FieldType} {len : Int32} {cA : ClassId} (hR : relC Z cd en (k, F, G, A, B) h) (ht : (k, n, d, ty, len) ∈ cd.2.2.2) (hA : A k = fun _ => 0) (hB : B k = fun _ => 0) (E : Ext h h1) (N : Arr Z h1 h.size (Jvm.RoadKit.newA cA ty len) ty) (W : Wr h1 h' en.1 (Jvm.RoadKit.slotOf Z cd.1 n d) (.ref h.size)) (hz : h'.size = h.size + 1) : relC Z cd en (k + 1, F, G, A, B) h' := by
  obtain ⟨r1, r2, r3, r4, r5, r6⟩ := hR
  obtain ⟨-, o2, o3, o4, q1, q2, q3, q4, q5, q6, q7, q8⟩ := ok
  have hsz : h.size = en.1 + 1 + k := r6 (q8 _ ht).2.1
  refine ⟨r1, (r2.ext E).wr W, fun t m => ?_, fun t m => ?_, fun t m => ⟨fun hk => ?_, fun hk => ?_⟩, fun q => ?_⟩
  · obtain ⟨ty1, p1⟩ : ∃ ty, parseFieldDescriptor t.2.2 = some ty := by rcases q7 _ m with q | q <;> exact ⟨_, q⟩
    have z0 := slot_ne (o2 _ m) (o4 _ ht) (q5 _ m _ ht) p1 (q8 _ ht).1
    exact ((r3 t m).ext E).other W (Or.inr z0)
  · have z0 := snJ (o3 _ m) (o4 _ ht) (q6 _ m _ ht) (q8 _ ht).1
    exact ((r4 t m).ext E).other W (Or.inr z0)
  · obtain ⟨u1, u2⟩ := q3 _ m _ ht
    by_cases e : t.1 = k
    · have e2 := u1 e
      subst e2
      have f0 := ((r5 _ ht).2 (Nat.lt_irrefl k)).ext E
      refine ⟨?_, ?_⟩
      · have := f0.same W
        rw [hsz] at this
        show Fld Z h' en.1 cd.1 n d (.ref (en.1 + (k + 1)))
        rw [show en.1 + (k + 1) = en.1 + 1 + k by omega]
        exact this
      · show AtA Z h' (en.1 + (k + 1)) ty len (A k) (B k)
        rw [hA, hB, show en.1 + (k + 1) = h.size by omega]
        refine AtA.other W ⟨_, N, sz_new _ _ _, fun x x0 x1 => ?_⟩ (nn (by omega))
        rw [get_new (in_of (cl := Jvm.RoadKit.newA cA ty len) (sz_new _ _ _) x0 x1 |> fun q => by rwa [sz_new] at q)]
        have o := (q8 _ ht).2.2.1
        rcases o with o | o | o <;> (have o' : ty = _ := o; subst o'; rfl)
    · obtain ⟨a1, a2⟩ := (r5 t m).1 (by show t.1 < k; have : t.1 < k + 1 := hk; omega)
      have z0 := slot_ne (o4 _ m) (o4 _ ht) (u2 e) (q8 _ m).1 (q8 _ ht).1
      exact ⟨(a1.ext E).other W (Or.inr z0), (a2.ext E).other W (nn (by omega))⟩
  · obtain ⟨u1, u2⟩ := q3 _ m _ ht
    have hk' : ¬ t.1 < k + 1 := hk
    have z0 := slot_ne (o4 _ m) (o4 _ ht) (u2 (by show t.1 ≠ k; omega)) (q8 _ m).1 (q8 _ ht).1
    exact (((r5 t m).2 (by show ¬ t.1 < k; omega)).ext E).other W (Or.inr z0)
  · show h'.size = en.1 + 1 + (k + 1)
    omega
end Rel
section StepsC
variable {l : Launch} {Z : State} {a0 : Array Value} {cd : CD} {md : MD} {pc pc' pc1 : Nat} {L L' : List Slot} {S : List Value} {k : Nat} {F : Nat → Int32} {G : Nat → Int64} {A : Nat → Int32 → Int32} {B : Nat → Int32 → Int64} {cu su cu' su' : Nat} {Q : Option Value → WO → Prop} {idx : Nat}
theorem Wk.getI {i : Nat} {n d : String} {x : Int32} (ht : (i, n, d) ∈ cd.2.1) (wl : (Cond.fieldLink cd.1 idx cd.1 n d).before a0 Z = true) (hd : InsA md pc (.getfield idx) 3 pc') (hx : F i = x) (h : Wk l Z (MoC Z cd) md pc' L (.int x :: S) (k, F, G, A, B) cu su Q) : Wk l Z (MoC Z cd) md pc L (.ref 0 :: S) (k, F, G, A, B) cu su Q :=
  fun en p e s m args below meth c T locs r X K hz hF hR hL => by
  obtain ⟨hd, rfl⟩ := hd
  subst hx
  obtain ⟨T1, X1, e1, st⟩ := getF X K.1 K.2.1 K.2.2.1 (host := "") (Or.inl wl) Via.refl rfl (hR.2.2.1 _ ht) (g := mkF m pc r (.ref en.1 :: S.map (rv ((MoC Z cd).rho en)))) rfl rfl (hb K.by hd)
  refine (h en p e s m args below meth c T1 locs r X1 K (by rw [e1]; exact hz) hF (by rw [e1]; exact hR) hL).pre (fun _ q => by rw [e1] at q; exact q) fun t q => st t q
theorem Wk.getJ {i : Nat} {n : String} {x : Int64} (ht : (i, n) ∈ cd.2.2.1) (wl : (Cond.fieldLink cd.1 idx cd.1 n "J").before a0 Z = true) (hd : InsA md pc (.getfield idx) 3 pc') (hx : G i = x) (h : Wk l Z (MoC Z cd) md pc' L (.long x :: S) (k, F, G, A, B) cu su Q) : Wk l Z (MoC Z cd) md pc L (.ref 0 :: S) (k, F, G, A, B) cu su Q :=
  fun en p e s m args below meth c T locs r X K hz hF hR hL => by
  obtain ⟨hd, rfl⟩ := hd
  subst hx
  obtain ⟨T1, X1, e1, st⟩ := getF X K.1 K.2.1 K.2.2.1 (host := "") (Or.inl wl) Via.refl rfl (hR.2.2.2.1 _ ht) (g := mkF m pc r (.ref en.1 :: S.map (rv ((MoC Z cd).rho en)))) rfl rfl (hb K.by hd)
  refine (h en p e s m args below meth c T1 locs r X1 K (by rw [e1]; exact hz) hF (by rw [e1]; exact hR) hL).pre (fun _ q => by rw [e1] at q; exact q) fun t q => st t q
theorem Wk.getA {i i' : Nat} {n d : String} {ty : FieldType} {len : Int32} (ht : (i, n, d, ty, len) ∈ cd.2.2.2) (hi : i < k) (hi' : i + 1 = i') (wl : (Cond.fieldLink cd.1 idx cd.1 n d).before a0 Z = true) (hd : InsA md pc (.getfield idx) 3 pc') (h : Wk l Z (MoC Z cd) md pc' L (.ref i' :: S) (k, F, G, A, B) cu su Q) : Wk l Z (MoC Z cd) md pc L (.ref 0 :: S) (k, F, G, A, B) cu su Q :=
  fun en p e s m args below meth c T locs r X K hz hF hR hL => by
  obtain ⟨hd, rfl⟩ := hd
  subst hi'
  obtain ⟨T1, X1, e1, st⟩ := getF X K.1 K.2.1 K.2.2.1 (host := "") (Or.inl wl) Via.refl rfl ((hR.2.2.2.2.1 _ ht).1 hi).1 (g := mkF m pc r (.ref en.1 :: S.map (rv ((MoC Z cd).rho en)))) rfl rfl (hb K.by hd)
  refine (h en p e s m args below meth c T1 locs r X1 K (by rw [e1]; exact hz) hF (by rw [e1]; exact hR) hL).pre (fun _ q => by rw [e1] at q; exact q) fun t q => st t q
theorem Wk.putI (ok : CO Z a0 cd) {i : Nat} {n : String} {x : Int32} (ht : (i, n, "I") ∈ cd.2.1) (wl : (Cond.fieldLink cd.1 idx cd.1 n "I").before a0 Z = true) (wy : (Cond.lays cd.1 cd.1 n "I").before a0 Z = true ∨ ((Cond.laysFinal cd.1 cd.1 n "I").before a0 Z = true ∧ (nmOf md).name = "<init>")) (hd : InsA md pc (.putfield idx) 3 pc') (h : Wk l Z (MoC Z cd) md pc' L S (k, ups F i x, G, A, B) cu su Q) : Wk l Z (MoC Z cd) md pc L (.int x :: .ref 0 :: S) (k, F, G, A, B) cu su Q :=
  fun en p e s m args below meth c T locs r X K hz hF hR hL => by
  obtain ⟨hd, rfl⟩ := hd
  obtain ⟨kk, wi⟩ := ok.1
  obtain ⟨T1, h1, X1, e1, W1, st⟩ := putF X K.1 K.2.1 K.2.2.1 (host := "") (Or.inl wl) Via.refl rfl (hR.2.2.1 _ ht) hR.2.1 (wy.imp id fun q => ⟨q.1, rfl, K.2.2.2.1.trans q.2⟩) wi (ty := .int) (v := .int x) (by decide +kernel) rfl rfl (g := mkF m pc r (.int x :: .ref en.1 :: S.map (rv ((MoC Z cd).rho en)))) rfl rfl (hb K.by hd)
  subst e1
  exact (h en p e s m args below meth c T1 _ r X1 K (by rw [W1.size]; exact hz) (Fr.snoc X1 hF hR.1) (relC.putI ok hR ht W1) hL).pre (fun _ q => (frmC.wr W1 (Nat.le_refl _) (Nat.le_add_right _ _)).trans q) fun t q => st t q
theorem Wk.putZ (ok : CO Z a0 cd) {i : Nat} {n : String} {x y : Int32} (hy : nar .boolean x = y) (ht : (i, n, "Z") ∈ cd.2.1) (wl : (Cond.fieldLink cd.1 idx cd.1 n "Z").before a0 Z = true) (wy : (Cond.lays cd.1 cd.1 n "Z").before a0 Z = true ∨ ((Cond.laysFinal cd.1 cd.1 n "Z").before a0 Z = true ∧ (nmOf md).name = "<init>")) (hd : InsA md pc (.putfield idx) 3 pc') (h : Wk l Z (MoC Z cd) md pc' L S (k, ups F i y, G, A, B) cu su Q) : Wk l Z (MoC Z cd) md pc L (.int x :: .ref 0 :: S) (k, F, G, A, B) cu su Q :=
  fun en p e s m args below meth c T locs r X K hz hF hR hL => by
  obtain ⟨hd, rfl⟩ := hd
  subst hy
  obtain ⟨kk, wi⟩ := ok.1
  obtain ⟨T1, h1, X1, e1, W1, st⟩ := putFN X K.1 K.2.1 K.2.2.1 wl Via.refl rfl (hR.2.2.1 _ ht) hR.2.1 (wy.imp id fun q => ⟨q.1, rfl, K.2.2.2.1.trans q.2⟩) wi (ty := .boolean) (v := .int x) (v' := .int (nar .boolean x)) (by decide +kernel) rfl (fits_nar_bool x) (g := mkF m pc r (.int x :: .ref en.1 :: S.map (rv ((MoC Z cd).rho en)))) rfl rfl (hb K.by hd)
  subst e1
  exact (h en p e s m args below meth c T1 _ r X1 K (by rw [W1.size]; exact hz) (Fr.snoc X1 hF hR.1) (relC.putI ok hR ht W1) hL).pre (fun _ q => (frmC.wr W1 (Nat.le_refl _) (Nat.le_add_right _ _)).trans q) fun t q => st t q
theorem Wk.putJ (ok : CO Z a0 cd) {i : Nat} {n : String} {x : Int64} (ht : (i, n) ∈ cd.2.2.1) (wl : (Cond.fieldLink cd.1 idx cd.1 n "J").before a0 Z = true) (wy : (Cond.lays cd.1 cd.1 n "J").before a0 Z = true ∨ ((Cond.laysFinal cd.1 cd.1 n "J").before a0 Z = true ∧ (nmOf md).name = "<init>")) (hd : InsA md pc (.putfield idx) 3 pc') (h : Wk l Z (MoC Z cd) md pc' L S (k, F, ups G i x, A, B) cu su Q) : Wk l Z (MoC Z cd) md pc L (.long x :: .ref 0 :: S) (k, F, G, A, B) cu su Q :=
  fun en p e s m args below meth c T locs r X K hz hF hR hL => by
  obtain ⟨hd, rfl⟩ := hd
  obtain ⟨kk, wi⟩ := ok.1
  obtain ⟨T1, h1, X1, e1, W1, st⟩ := putF X K.1 K.2.1 K.2.2.1 (host := "") (Or.inl wl) Via.refl rfl (hR.2.2.2.1 _ ht) hR.2.1 (wy.imp id fun q => ⟨q.1, rfl, K.2.2.2.1.trans q.2⟩) wi (ty := .long) (v := .long x) (by decide +kernel) rfl rfl (g := mkF m pc r (.long x :: .ref en.1 :: S.map (rv ((MoC Z cd).rho en)))) rfl rfl (hb K.by hd)
  subst e1
  exact (h en p e s m args below meth c T1 _ r X1 K (by rw [W1.size]; exact hz) (Fr.snoc X1 hF hR.1) (relC.putJ ok hR ht W1) hL).pre (fun _ q => (frmC.wr W1 (Nat.le_refl _) (Nat.le_add_right _ _)).trans q) fun t q => st t q
/-- an array is made and laid into its field at once -/
theorem Wk.newA (ok : CO Z a0 cd) {aty : ArrayType} {len : Int32} {n d : String} {ty : FieldType} {k' : Nat} (hty : newarray.typeOf aty = ty) (wa : (Cond.arrayClass (newarray.typeOf aty)).before a0 Z = true) (ht : (k, n, d, ty, len) ∈ cd.2.2.2) (wl : (Cond.fieldLink cd.1 idx cd.1 n d).before a0 Z = true)
    (wy : (Cond.lays cd.1 cd.1 n d).before a0 Z = true ∨ ((Cond.laysFinal cd.1 cd.1 n d).before a0 Z = true ∧ (nmOf md).name = "<init>")) (hd : InsA md pc (.newarray aty) 2 pc1) (hd2 : InsA md pc1 (.putfield idx) 3 pc') (hA : A k = fun _ => 0) (hB : B k = fun _ => 0) (hk : k + 1 = k') (hcu : cu + 1 = cu') (hsu : su + len.toNatClampNeg = su')
    (hcap : len.toNatClampNeg * 8 ≤ 536870912) (hc : cu' ≤ (rmOf md).cells) (hs : su' ≤ (rmOf md).slots) (h : Wk l Z (MoC Z cd) md pc' L S (k', F, G, A, B) cu' su' Q) : Wk l Z (MoC Z cd) md pc L (.int len :: .ref 0 :: S) (k, F, G, A, B) cu su Q :=
  fun en p e s m args below meth c T locs r X K hz hF hR hL => by
  obtain ⟨hd, rfl⟩ := hd
  obtain ⟨hd2, rfl⟩ := hd2
  subst hk hcu hsu hty
  obtain ⟨kk, wi⟩ := ok.1
  have p8 := ok.2.2.2.2.2.2.2.2.2.2.2 _ ht
  obtain ⟨T1, h1, cA, X1, e1, E1, N1, st1⟩ := newP X K.1 K.2.1 wa rfl (g := mkF m pc r (.int len :: .ref en.1 :: S.map (rv ((MoC Z cd).rho en)))) rfl (hb K.by hd) rfl p8.2.2.2 (cap := len.toNatClampNeg) (Nat.le_refl _) hcap hc hs
  subst e1
  obtain ⟨T2, h2, X2, e2, W2, st2⟩ := putF X1 K.1 K.2.1 K.2.2.1 (host := "") (Or.inl wl) Via.refl rfl (((hR.2.2.2.2.1 _ ht).2 (Nat.lt_irrefl k)).ext E1) (hR.2.1.ext E1) (wy.imp id fun q => ⟨q.1, rfl, K.2.2.2.1.trans q.2⟩) wi (v := .ref T.heap.size) p8.1 rfl rfl (g := mkF m (pc + 2) r (.ref T.heap.size :: .ref en.1 :: S.map (rv ((MoC Z cd).rho en)))) rfl rfl (hb K.by hd2)
  subst e2
  have z1 := X1.heapSize
  have z2 : (T.heap.size : Nat) < T1.heap.size := N1.lt
  have z3 := W2.size
  exact (h en p e s m args below meth c T2 _ r X2 K (by omega) (Fr.snoc X2 hF hR.1) (relC.newA ok hR ht hA hB E1 N1 W2 (by omega)) hL).pre (fun _ q => ((frmC.ext E1).trans (frmC.wr W2 (Nat.le_refl _) (Nat.le_add_right _ _))).trans q) fun t q => st1 t (st2 t q)
theorem relC.arr {en : Nat × Nat} {h : Heap} {i : Nat} {n d : String} {ty : FieldType} {len : Int32} (hR : relC Z cd en (k, F, G, A, B) h) (ht : (i, n, d, ty, len) ∈ cd.2.2.2) (hi : i < k) : AtA Z h (en.1 + (i + 1)) ty len (A i) (B i) := ((hR.2.2.2.2.1 _ ht).1 hi).2
theorem Wk.iaload {i i' : Nat} {n d : String} {len x : Int32} {y : Int32} (ht : (i, n, d, .int, len) ∈ cd.2.2.2) (hi : i < k) (hi' : i + 1 = i') (h0 : ¬ x < 0) (h1 : x < len) (hd : InsA md pc .iaload 1 pc') (hy : A i x = y) (h : Wk l Z (MoC Z cd) md pc' L (.int y :: S) (k, F, G, A, B) cu su Q) : Wk l Z (MoC Z cd) md pc L (.int x :: .ref i' :: S) (k, F, G, A, B) cu su Q :=
  fun en p e s m args below meth c T locs r X K hz hF hR hL => by
  obtain ⟨hd, rfl⟩ := hd
  subst hi' hy
  obtain ⟨cl, g1, g2, g3⟩ := relC.arr hR ht hi
  exact (h en p e s m args below meth c T locs r X K hz hF hR hL).pre (fun _ q => q) fun t q => X.iaload K.1 (j := x) (v := .int (A i x)) g1.1 (State.isArrayOf_alike K.2.1.alike g1.2.1) g1.2.2 (in_of g2 h0 h1) (g3 x h0 h1) (g := mkF m pc r (.int x :: .ref (en.1 + (i + 1)) :: S.map (rv ((MoC Z cd).rho en)))) rfl rfl (hb K.by hd) _ q
theorem Wk.baload {i i' : Nat} {n d : String} {len x : Int32} {y : Int32} (ht : (i, n, d, .boolean, len) ∈ cd.2.2.2) (hi : i < k) (hi' : i + 1 = i') (h0 : ¬ x < 0) (h1 : x < len) (hd : InsA md pc .baload 1 pc') (hy : A i x = y) (h : Wk l Z (MoC Z cd) md pc' L (.int y :: S) (k, F, G, A, B) cu su Q) : Wk l Z (MoC Z cd) md pc L (.int x :: .ref i' :: S) (k, F, G, A, B) cu su Q :=
  fun en p e s m args below meth c T locs r X K hz hF hR hL => by
  obtain ⟨hd, rfl⟩ := hd
  subst hi' hy
  obtain ⟨cl, g1, g2, g3⟩ := relC.arr hR ht hi
  exact (h en p e s m args below meth c T locs r X K hz hF hR hL).pre (fun _ q => q) fun t q => X.baloadBooleans K.1 (j := x) (v := .int (A i x)) g1.1 (State.isArrayOf_alike K.2.1.alike g1.2.1) g1.2.2 (in_of g2 h0 h1) (g3 x h0 h1) (g := mkF m pc r (.int x :: .ref (en.1 + (i + 1)) :: S.map (rv ((MoC Z cd).rho en)))) rfl rfl (hb K.by hd) _ q
theorem Wk.laload {i i' : Nat} {n d : String} {len x : Int32} {y : Int64} (ht : (i, n, d, .long, len) ∈ cd.2.2.2) (hi : i < k) (hi' : i + 1 = i') (h0 : ¬ x < 0) (h1 : x < len) (hd : InsA md pc .laload 1 pc') (hy : B i x = y) (h : Wk l Z (MoC Z cd) md pc' L (.long y :: S) (k, F, G, A, B) cu su Q) : Wk l Z (MoC Z cd) md pc L (.int x :: .ref i' :: S) (k, F, G, A, B) cu su Q :=
  fun en p e s m args below meth c T locs r X K hz hF hR hL => by
  obtain ⟨hd, rfl⟩ := hd
  subst hi' hy
  obtain ⟨cl, g1, g2, g3⟩ := relC.arr hR ht hi
  exact (h en p e s m args below meth c T locs r X K hz hF hR hL).pre (fun _ q => q) fun t q => X.laload K.1 (j := x) (v := .long (B i x)) g1.1 (State.isArrayOf_alike K.2.1.alike g1.2.1) g1.2.2 (in_of g2 h0 h1) (g3 x h0 h1) (g := mkF m pc r (.int x :: .ref (en.1 + (i + 1)) :: S.map (rv ((MoC Z cd).rho en)))) rfl rfl (hb K.by hd) _ q
theorem Wk.iastore (ok : CO Z a0 cd) {f : Int32 → Int32} {i i' : Nat} {n d : String} {len x v : Int32} (ht : (i, n, d, .int, len) ∈ cd.2.2.2) (hf : A i = f) (hi : i < k) (hi' : i + 1 = i') (h0 : ¬ x < 0) (h1 : x < len) (hd : InsA md pc .iastore 1 pc') (h : Wk l Z (MoC Z cd) md pc' L S (k, F, G, ups A i (ups f x v), B) cu su Q) : Wk l Z (MoC Z cd) md pc L (.int v :: .int x :: .ref i' :: S) (k, F, G, A, B) cu su Q :=
  fun en p e s m args below meth c T locs r X K hz hF hR hL => by
  obtain ⟨hd, rfl⟩ := hd
  subst hi' hf
  obtain ⟨cl, g1, g2, g3⟩ := relC.arr hR ht hi
  obtain ⟨T1, e1', X1, e1, W1, st⟩ := stI X K.1 K.2.1 rfl g1 (in_of g2 h0 h1) (g := mkF m pc r (.int v :: .int x :: .ref (en.1 + (i + 1)) :: S.map (rv ((MoC Z cd).rho en)))) rfl rfl (hb K.by hd)
  subst e1
  have p8 := (ok.2.2.2.2.2.2.2.2.2.2.2 _ ht).2.1
  exact (h en p e s m args below meth c T1 _ r X1 K (by rw [W1.size]; exact hz) (Fr.snoc X1 hF (Nat.le_trans hR.1 (Nat.le_add_right _ _))) (relC.stI ok (by decide) h0 h1 hR ht W1) hL).pre (fun _ q => (frmC.wr W1 (Nat.le_add_right _ _) (Nat.add_le_add_left (show i + 1 ≤ cd.2.2.2.length from p8) _)).trans q) fun t q => st t q
theorem Wk.bastore (ok : CO Z a0 cd) {f : Int32 → Int32} {i i' : Nat} {n d : String} {len x v v' : Int32} (hv : nar .boolean v = v') (ht : (i, n, d, .boolean, len) ∈ cd.2.2.2) (hf : A i = f) (hi : i < k) (hi' : i + 1 = i') (h0 : ¬ x < 0) (h1 : x < len) (hd : InsA md pc .bastore 1 pc') (h : Wk l Z (MoC Z cd) md pc' L S (k, F, G, ups A i (ups f x v'), B) cu su Q) : Wk l Z (MoC Z cd) md pc L (.int v :: .int x :: .ref i' :: S) (k, F, G, A, B) cu su Q :=
  fun en p e s m args below meth c T locs r X K hz hF hR hL => by
  obtain ⟨hd, rfl⟩ := hd
  subst hi' hv hf
  obtain ⟨cl, g1, g2, g3⟩ := relC.arr hR ht hi
  obtain ⟨T1, e1', X1, e1, W1, st⟩ := stZ X K.1 K.2.1 rfl g1 (in_of g2 h0 h1) (g := mkF m pc r (.int v :: .int x :: .ref (en.1 + (i + 1)) :: S.map (rv ((MoC Z cd).rho en)))) rfl rfl (hb K.by hd)
  subst e1
  have p8 := (ok.2.2.2.2.2.2.2.2.2.2.2 _ ht).2.1
  exact (h en p e s m args below meth c T1 _ r X1 K (by rw [W1.size]; exact hz) (Fr.snoc X1 hF (Nat.le_trans hR.1 (Nat.le_add_right _ _))) (relC.stI ok (by decide) h0 h1 hR ht W1) hL).pre (fun _ q => (frmC.wr W1 (Nat.le_add_right _ _) (Nat.add_le_add_left (show i + 1 ≤ cd.2.2.2.length from p8) _)).trans q) fun t q => st t q
theorem Wk.lastore (ok : CO Z a0 cd) {f : Int32 → Int64} {i i' : Nat} {n d : String} {len x : Int32} {v : Int64} (ht : (i, n, d, .long, len) ∈ cd.2.2.2) (hf : B i = f) (hi : i < k) (hi' : i + 1 = i') (h0 : ¬ x < 0) (h1 : x < len) (hd : InsA md pc .lastore 1 pc') (h : Wk l Z (MoC Z cd) md pc' L S (k, F, G, A, ups B i (ups f x v)) cu su Q) : Wk l Z (MoC Z cd) md pc L (.long v :: .int x :: .ref i' :: S) (k, F, G, A, B) cu su Q :=
  fun en p e s m args below meth c T locs r X K hz hF hR hL => by
  obtain ⟨hd, rfl⟩ := hd
  subst hi' hf
  obtain ⟨cl, g1, g2, g3⟩ := relC.arr hR ht hi
  obtain ⟨T1, e1', X1, e1, W1, st⟩ := stJ X K.1 K.2.1 rfl g1 (in_of g2 h0 h1) (g := mkF m pc r (.long v :: .int x :: .ref (en.1 + (i + 1)) :: S.map (rv ((MoC Z cd).rho en)))) rfl rfl (hb K.by hd)
  subst e1
  have p8 := (ok.2.2.2.2.2.2.2.2.2.2.2 _ ht).2.1
  exact (h en p e s m args below meth c T1 _ r X1 K (by rw [W1.size]; exact hz) (Fr.snoc X1 hF (Nat.le_trans hR.1 (Nat.le_add_right _ _))) (relC.stJ ok h0 h1 hR ht W1) hL).pre (fun _ q => (frmC.wr W1 (Nat.le_add_right _ _) (Nat.add_le_add_left (show i + 1 ≤ cd.2.2.2.length from p8) _)).trans q) fun t q => st t q
/-- Object.<init> -/
theorem Wk.initO {μ E : Type} {M : Mode μ E} {w : μ} {Q : Option Value → μ → Prop} {v : Nat} (w1 : (Cond.methodLink M.own idx Lib.objectInit).before a0 Z = true) (w2 : (Cond.instanceMethod Lib.objectInit).before a0 Z = true) (w3 : (Cond.code Lib.objectInit ⟨#[0xb1]⟩ 1 none).before a0 Z = true) (hd : InsA md pc (.invokespecial idx) 3 pc') (hl : L.length = mxOf md) (hf : 1 ≤ (rmOf md).frames) (hW : (S.map fun v => v.category).sum + 12 ≤ (rmOf md).locals)
    (h : Wk l Z M md pc' L S w cu su Q) : Wk l Z M md pc L (.ref v :: S) w cu su Q :=
  fun en p e s m args below meth c T locs r X K hz hF hR hL => by
  obtain ⟨hd, rfl⟩ := hd
  have cs : ∀ S : List Value, ((S.map (rv (M.rho en))).map fun v => v.category).sum = (S.map fun v => v.category).sum := fun S => by rw [List.map_map]; congr 1; exact List.map_congr_left fun v _ => rv_cat _ v
  obtain ⟨T1, X1, e1, st⟩ := Jvm.RoadKit.initO X K.1 K.2.1 K.2.2.1 w1 w2 w3 rfl (g := mkF m pc r (.ref (M.rho en v) :: S.map (rv (M.rho en)))) rfl (by show r.size = _; rw [hL.1, hl]; exact K.2.2.2.2.2.2.2.symm) rfl (hb K.by hd) hf (W := (S.map fun v => v.category).sum) (by show 2 * 0 + _ ≤ _; rw [cs]; omega) hW
  exact (h en p e s m args below meth c T1 locs r X1 K (by rw [e1]; exact hz) hF (by rw [e1]; exact hR) hL).pre (fun _ q => by rw [e1] at q; exact q) fun t q => st t q
end StepsC
end Jvm.Own

namespace Jvm.Own
open Jvm Jvm.ClassFile Sem Op Lib Jvm.Free Jvm.Stand Jvm.LawKit Jvm.RoadKit
/-! ## 4. Calls -/
def noRef : List Value → Bool
  | [] => true
  | .ref _ :: _ => false
  | _ :: t => noRef t
theorem noRef.map : (as : List Value) → noRef as = true → ∀ ρ, as.map (rv ρ) = as
  | [], _, _ => rfl
  | .ref _ :: _, h, _ => by cases h
  | .int _ :: t, h, ρ => by rw [List.map_cons, noRef.map t h ρ]; rfl
  | .long _ :: t, h, ρ => by rw [List.map_cons, noRef.map t h ρ]; rfl
  | .float _ :: t, h, ρ => by rw [List.map_cons, noRef.map t h ρ]; rfl
  | .double _ :: t, h, ρ => by rw [List.map_cons, noRef.map t h ρ]; rfl
  | .null :: t, h, ρ => by rw [List.map_cons, noRef.map t h ρ]; rfl
  | .retAddr _ :: t, h, ρ => by rw [List.map_cons, noRef.map t h ρ]; rfl
/-- what the words say of a callee: an instance method -/
def CalV (Z : State) (a0 : Array Value) (md : MD) (n : Nat) : Prop :=
  plainName (nmOf md).cls = true ∧ ((nmOf md).cls ≠ "java/lang/invoke/MethodHandle" ∧ (nmOf md).cls ≠ "java/lang/invoke/VarHandle") ∧ (∀ sig, parseMethodDescriptor (nmOf md).desc = some sig → n = sig.parameters.length) ∧
  (Cond.instanceMethod (nmOf md)).before a0 Z = true ∧ (Cond.code (nmOf md) (byOf md) (mxOf md) (rtOf md)).before a0 Z = true ∧ (Cond.initialized (nmOf md).cls).before a0 Z = true ∧
  (((Cond.declares (nmOf md)).before a0 Z = true ∧ (Cond.selects (nmOf md).cls (nmOf md) (nmOf md)).before a0 Z = true) ∨ ((Cond.privateMethod (nmOf md)).before a0 Z = true ∧ ∃ kk, (Cond.instantiable (nmOf md).cls kk).before a0 Z = true))
/-- a constructor -/
def CalI (Z : State) (a0 : Array Value) (md : MD) (n : Nat) : Prop :=
  plainName (nmOf md).cls = true ∧ ((nmOf md).cls ≠ "java/lang/invoke/MethodHandle" ∧ (nmOf md).cls ≠ "java/lang/invoke/VarHandle") ∧ (∀ sig, parseMethodDescriptor (nmOf md).desc = some sig → n = sig.parameters.length) ∧
  (Cond.instanceMethod (nmOf md)).before a0 Z = true ∧ (Cond.code (nmOf md) (byOf md) (mxOf md) (rtOf md)).before a0 Z = true ∧ (Cond.initialized (nmOf md).cls).before a0 Z = true ∧ (nmOf md).name = "<init>" ∧ rtOf md = none
/-- a static method -/
def CalS (Z : State) (a0 : Array Value) (md : MD) (n : Nat) : Prop :=
  plainName (nmOf md).cls = true ∧ ((nmOf md).cls ≠ "java/lang/invoke/MethodHandle" ∧ (nmOf md).cls ≠ "java/lang/invoke/VarHandle") ∧ (∀ sig, parseMethodDescriptor (nmOf md).desc = some sig → n = sig.parameters.length) ∧
  (Cond.static (nmOf md)).before a0 Z = true ∧ (Cond.code (nmOf md) (byOf md) (mxOf md) (rtOf md)).before a0 Z = true ∧ (Cond.initialized (nmOf md).cls).before a0 Z = true
/-- the figures of a call: the operands under it weigh wt -/
def Fits (md md' : MD) (wt cu su cu' su' : Nat) : Prop :=
  (rmOf md').frames + 1 ≤ (rmOf md).frames ∧ wt + (mxOf md' + 11) + (rmOf md').locals ≤ (rmOf md).locals ∧ cu + (rmOf md').cells = cu' ∧ su + (rmOf md').slots = su' ∧ cu' ≤ (rmOf md).cells ∧ su' ≤ (rmOf md).slots ∧ exOf md' = (rmOf md').cells
instance (md md' : MD) (wt cu su cu' su' : Nat) : Decidable (Fits md md' wt cu su cu' su') := by unfold Fits; infer_instance
section Core
variable {μ E : Type} {l : Launch} {Z : State} {a0 : Array Value} {M' : Mode μ E} {md md' : MD} {own : String} {p : Program} {e : Env} {s : State} {m : MethodId} {args : Array Value} {below : List Frame} {meth : Method} {c : Code} {T : State} {locs : List Loc} {cu su cu' su' wt pc idx : Nat} {as : List Value} {L' : List Slot} {w : μ} {Q' : Option Value → μ → Prop} {en : E} {a : Addr} {r : Array Slot} {rest : List Value}
theorem coreV (X : Stand p l e (rmOf md) s m args below meth c T locs cu su) (K : Kn Z own md p s m meth c) (hd : decode (byOf md) pc = .ok (.invokevirtual idx, 3)) (wl : (Cond.methodLink own idx (nmOf md')).before a0 Z = true) (cv : CalV Z a0 md' as.length) (hcal : Wk l Z M' md' 0 L' [] w 0 0 Q') (ho : M'.own = (nmOf md').cls) (hR : M'.rel en w T.heap) (hE : Exa Z T.heap a (nmOf md').cls) (ha : M'.rho en 0 = a)
    (hL : (argsToLocals (.ref 0 :: as).toArray (mxOf md')).toList = L') (hw : wfL L' = true) (ft : Fits md md' wt cu su cu' su') (hr : r.size = mxOf md) (hrest : (rest.map fun v => v.category).sum ≤ wt) :
    ∃ v T1 Lc w1, Stand p l e (rmOf md) s m args below meth c T1 (locs ++ Lc) cu' su' ∧ Q' v w1 ∧ M'.rel en w1 T1.heap ∧ M'.frm en T.heap T1.heap ∧ Fr (M'.lo en) Lc ∧ T1.heap.size = T.heap.size + exOf md' ∧ (∀ ρ x, v = some x → rv ρ x = x) ∧
      ∀ t, Steps p.tables e below (T1.setTop (mkF m (pc + 3) r (v.toList ++ rest))) t → Steps p.tables e below (T.setTop (mkF m pc r ((as.map (rv (M'.rho en))).reverse ++ .ref a :: rest))) t := by
  obtain ⟨v1, v2, v3, v4, v5, v6, v7⟩ := cv
  obtain ⟨f1, f2, f3, f4, f5, f6, f7⟩ := ft
  subst f3 f4 ha
  obtain ⟨hx, hZ, hown, -, -, -, hby, hml⟩ := K
  have bk := backOf (s := s) (args := args) (p := p) (e := e) (below := below) (len := 3) (W := wt) (R := rmOf md) (Q := fun v hh Lc => ∃ w', Q' v w' ∧ M'.rel en w' hh ∧ M'.frm en T.heap hh ∧ Fr (M'.lo en) Lc ∧ hh.size = T.heap.size + exOf md' ∧ ∀ ρ x, v = some x → rv ρ x = x) (hcal.met v1 ho hR (.ref 0 :: as) hL hw []) hZ v5 v6 f1 f2
  have hlen : ∀ sig, parseMethodDescriptor (nmOf md').desc = some sig → (as.map (rv (M'.rho en))).length = sig.parameters.length := fun sig q => by rw [List.length_map]; exact v3 sig q
  rcases v7 with ⟨d1, d2⟩ | ⟨d1, kk, d2⟩
  · obtain ⟨cq, kq, qa, qb, qc⟩ := isOf (T := T) hZ rfl hE
    obtain ⟨v, _, ⟨T1, L1, k1, n1⟩, -, X1, ⟨Lc, hQ, l1, y1, z1⟩, st⟩ := X.virtualBack hx (y := nmOf md') (z := nmOf md') hown (mvT hZ wl) (mvT hZ d1) (notFace_of_selects (args := #[]) (mvT hZ d2)) (mvT hZ d2) (mvT hZ v4) v2 bk qa qc (g := mkF m pc r ((as.map (rv (M'.rho en))).reverse ++ .ref (M'.rho en 0) :: rest)) rfl (hr.trans hml.symm) (Steps.refl _) (argsL := as.map (rv (M'.rho en))) (rest := rest) hlen rfl (by show 2 * 0 + _ ≤ _; omega) (hb hby hd) (fun _ _ => ⟨rfl, rfl, f5, f6⟩)
    dsimp only [Pt.U, Pt.locs, Pt.cells, Pt.slots] at X1 l1 y1 z1 st hQ
    subst l1 y1 z1
    obtain ⟨w1, q1, q2, q3, q4, q5, q6⟩ := hQ
    exact ⟨v, T1, Lc, w1, X1, q1, q2, q3, q4, q5, q6, fun t q => st.trans q⟩
  · obtain ⟨cc, kc, i1, i2, i3, i4, -⟩ := Cond.instantiable_spec (mvT (s := s) (args := #[]) hZ d2)
    have hni : kc.isInterface = false := by cases hq : kc.isInterface <;> simp [hq] at i4 ⊢
    have pv : s.PrivateAt (nmOf md') := Cond.privateMethod_at (mvP hZ d1 (args := #[]))
    have sel : (Cond.selects (nmOf md').cls (nmOf md') (nmOf md')).before args s = true := selects_self_of_private i1 i2 hni pv (mvT hZ v4) v2
    obtain ⟨cq, q7, q7'⟩ := hE.cell
    obtain ⟨v, _, ⟨T1, L1, k1, n1⟩, -, X1, ⟨Lc, hQ, l1, y1, z1⟩, st⟩ := X.privateBack hx (y := nmOf md') hown (mvT hZ wl) (mvT hZ v4) sel pv (mvT hZ v5) v2 bk (g := mkF m pc r ((as.map (rv (M'.rho en))).reverse ++ .ref (M'.rho en 0) :: rest)) rfl (hr.trans hml.symm) (Steps.refl _) (a := M'.rho en 0) q7 q7' (argsL := as.map (rv (M'.rho en))) (rest := rest) hlen rfl (by show 2 * 0 + _ ≤ _; omega) (hb hby hd) (fun _ _ => ⟨rfl, rfl, f5, f6⟩)
    dsimp only [Pt.U, Pt.locs, Pt.cells, Pt.slots] at X1 l1 y1 z1 st hQ
    subst l1 y1 z1
    obtain ⟨w1, q1, q2, q3, q4, q5, q6⟩ := hQ
    exact ⟨v, T1, Lc, w1, X1, q1, q2, q3, q4, q5, q6, fun t q => st.trans q⟩
theorem coreI (X : Stand p l e (rmOf md) s m args below meth c T locs cu su) (K : Kn Z own md p s m meth c) (hd : decode (byOf md) pc = .ok (.invokespecial idx, 3)) (wl : (Cond.methodLink own idx (nmOf md')).before a0 Z = true) (cv : CalI Z a0 md' as.length) (hcal : Wk l Z M' md' 0 L' [] w 0 0 Q') (ho : M'.own = (nmOf md').cls) (hR : M'.rel en w T.heap) (ha : M'.rho en 0 = a)
    (hL : (argsToLocals (.ref 0 :: as).toArray (mxOf md')).toList = L') (hw : wfL L' = true) (ft : Fits md md' wt cu su cu' su') (hr : r.size = mxOf md) (hrest : (rest.map fun v => v.category).sum ≤ wt) :
    ∃ v T1 Lc w1, Stand p l e (rmOf md) s m args below meth c T1 (locs ++ Lc) cu' su' ∧ Q' v w1 ∧ M'.rel en w1 T1.heap ∧ M'.frm en T.heap T1.heap ∧ Fr (M'.lo en) Lc ∧ T1.heap.size = T.heap.size + exOf md' ∧ (∀ ρ x, v = some x → rv ρ x = x) ∧
      ∀ t, Steps p.tables e below (T1.setTop (mkF m (pc + 3) r (v.toList ++ rest))) t → Steps p.tables e below (T.setTop (mkF m pc r ((as.map (rv (M'.rho en))).reverse ++ .ref a :: rest))) t := by
  obtain ⟨v1, v2, v3, v4, v5, v6, v7, v8⟩ := cv
  obtain ⟨f1, f2, f3, f4, f5, f6, f7⟩ := ft
  subst f3 f4 ha
  obtain ⟨hx, hZ, hown, -, -, -, hby, hml⟩ := K
  have bk := backOf (s := s) (args := args) (p := p) (e := e) (below := below) (len := 3) (W := wt) (R := rmOf md) (Q := fun v hh Lc => ∃ w', Q' v w' ∧ M'.rel en w' hh ∧ M'.frm en T.heap hh ∧ Fr (M'.lo en) Lc ∧ hh.size = T.heap.size + exOf md' ∧ ∀ ρ x, v = some x → rv ρ x = x) (hcal.met v1 ho hR (.ref 0 :: as) hL hw []) hZ v5 v6 f1 f2
  have hlen : ∀ sig, parseMethodDescriptor (nmOf md').desc = some sig → (as.map (rv (M'.rho en))).length = sig.parameters.length := fun sig q => by rw [List.length_map]; exact v3 sig q
  rw [v8] at v5
  obtain ⟨v, _, ⟨T1, L1, k1, n1⟩, -, X1, ⟨Lc, hQ, l1, y1, z1⟩, st⟩ := X.specialBack hx (y := nmOf md') v7 hown (mvT hZ wl) (mvT hZ v4) (mvT hZ v5) v2 bk (g := mkF m pc r ((as.map (rv (M'.rho en))).reverse ++ .ref (M'.rho en 0) :: rest)) rfl (hr.trans hml.symm) (Steps.refl _) (a := M'.rho en 0) (argsL := as.map (rv (M'.rho en))) (rest := rest) hlen rfl (by show 2 * 0 + _ ≤ _; omega) (hb hby hd) (fun _ _ => ⟨rfl, rfl, f5, f6⟩)
  dsimp only [Pt.U, Pt.locs, Pt.cells, Pt.slots] at X1 l1 y1 z1 st hQ
  subst l1 y1 z1
  obtain ⟨w1, q1, q2, q3, q4, q5, q6⟩ := hQ
  exact ⟨v, T1, Lc, w1, X1, q1, q2, q3, q4, q5, q6, fun t q => st.trans q⟩
theorem coreS (X : Stand p l e (rmOf md) s m args below meth c T locs cu su) (K : Kn Z own md p s m meth c) (hd : decode (byOf md) pc = .ok (.invokestatic idx, 3)) (wl : (Cond.methodLink own idx (nmOf md')).before a0 Z = true) (cv : CalS Z a0 md' as.length) (hcal : Wk l Z M' md' 0 L' [] w 0 0 Q') (ho : M'.own = (nmOf md').cls) (hR : M'.rel en w T.heap)
    (hL : (argsToLocals as.toArray (mxOf md')).toList = L') (hw : wfL L' = true) (ft : Fits md md' wt cu su cu' su') (hr : r.size = mxOf md) (hrest : (rest.map fun v => v.category).sum ≤ wt) :
    ∃ v T1 Lc w1, Stand p l e (rmOf md) s m args below meth c T1 (locs ++ Lc) cu' su' ∧ Q' v w1 ∧ M'.rel en w1 T1.heap ∧ M'.frm en T.heap T1.heap ∧ Fr (M'.lo en) Lc ∧ T1.heap.size = T.heap.size + exOf md' ∧ (∀ ρ x, v = some x → rv ρ x = x) ∧
      ∀ t, Steps p.tables e below (T1.setTop (mkF m (pc + 3) r (v.toList ++ rest))) t → Steps p.tables e below (T.setTop (mkF m pc r ((as.map (rv (M'.rho en))).reverse ++ rest))) t := by
  obtain ⟨v1, v2, v3, v4, v5, v6⟩ := cv
  obtain ⟨f1, f2, f3, f4, f5, f6, f7⟩ := ft
  subst f3 f4
  obtain ⟨hx, hZ, hown, -, -, -, hby, hml⟩ := K
  have bk := backOf (s := s) (args := args) (p := p) (e := e) (below := below) (len := 3) (W := wt) (R := rmOf md) (Q := fun v hh Lc => ∃ w', Q' v w' ∧ M'.rel en w' hh ∧ M'.frm en T.heap hh ∧ Fr (M'.lo en) Lc ∧ hh.size = T.heap.size + exOf md' ∧ ∀ ρ x, v = some x → rv ρ x = x) (hcal.met v1 ho hR as hL hw []) hZ v5 v6 f1 f2
  have hlen : ∀ sig, parseMethodDescriptor (nmOf md').desc = some sig → (as.map (rv (M'.rho en))).length = sig.parameters.length := fun sig q => by rw [List.length_map]; exact v3 sig q
  obtain ⟨v, _, ⟨T1, L1, k1, n1⟩, -, X1, ⟨Lc, hQ, l1, y1, z1⟩, st⟩ := Jvm.LawKit.callS X hx (y := nmOf md') hown (mvT hZ wl) (mvT hZ v4) (mvT hZ v6) (mvT hZ v5) v2 bk (g := mkF m pc r ((as.map (rv (M'.rho en))).reverse ++ rest)) rfl (hr.trans hml.symm) (argsL := as.map (rv (M'.rho en))) (rest := rest) hlen rfl (by show 2 * 0 + _ ≤ _; omega) (hb hby hd) (fun _ _ => ⟨rfl, rfl, f5, f6⟩)
  dsimp only [Pt.U, Pt.locs, Pt.cells, Pt.slots] at X1 l1 y1 z1 st hQ
  subst l1 y1 z1
  obtain ⟨w1, q1, q2, q3, q4, q5, q6⟩ := hQ
  exact ⟨v, T1, Lc, w1, X1, q1, q2, q3, q4, q5, q6, fun t q => st t q⟩
end Core
theorem cat_map (ρ : Nat → Addr) (S : List Value) : ((S.map (rv ρ)).map fun v => v.category).sum = (S.map fun v => v.category).sum := by
  rw [List.map_map]; congr 1; exact List.map_congr_left fun v _ => rv_cat _ v
theorem res_map {ρ : Nat → Addr} {v : Option Value} (h : ∀ ρ x, v = some x → rv ρ x = x) (S : List Value) : (v.toList ++ S).map (rv ρ) = v.toList ++ S.map (rv ρ) := by
  cases v with
  | none => rfl
  | some x => simp [h ρ x rfl]
section CallsC
variable {l : Launch} {Z : State} {a0 : Array Value} {cd : CD} {md md' : MD} {pc pc' wt idx : Nat} {L L' : List Slot} {S stk as : List Value} {w : WO} {cu su cu' su' : Nat} {Q Q' : Option Value → WO → Prop}
/-- a method of the same object -/
theorem Wk.callC (as : List Value) (S : List Value) (hs : stk = as.reverse ++ .ref 0 :: S) (wl : (Cond.methodLink cd.1 idx (nmOf md')).before a0 Z = true) (cv : CalV Z a0 md' as.length) (hc : (nmOf md').cls = cd.1) (nr : noRef as = true) (hcal : Wk l Z (MoC Z cd) md' 0 L' [] w 0 0 Q') (hL' : (argsToLocals (.ref 0 :: as).toArray (mxOf md')).toList = L') (hw : wfL L' = true) (hl : L.length = mxOf md)
    (hwt : (S.map fun v => v.category).sum = wt) (ft : Fits md md' wt cu su cu' su') (hd : InsA md pc (.invokevirtual idx) 3 pc') (h : ∀ v w', Q' v w' → Wk l Z (MoC Z cd) md pc' L (v.toList ++ S) w' cu' su' Q) : Wk l Z (MoC Z cd) md pc L stk w cu su Q :=
  fun en p e s m args below meth c T locs r X K hz hF hR hL => by
  obtain ⟨hd, rfl⟩ := hd
  subst hs
  obtain ⟨v, T1, Lc, w1, X1, q1, q2, q3, q4, q5, q6, st⟩ := coreV (M' := MoC Z cd) (en := en) (r := r) (rest := S.map (rv ((MoC Z cd).rho en))) X K hd wl cv hcal hc.symm hR (by rw [hc]; exact hR.2.1) rfl hL' hw ft (hL.1.trans hl) (by rw [cat_map]; omega)
  have f7 := ft.2.2.1
  have f8 := ft.2.2.2.2.2.2
  have em : (as.reverse ++ .ref 0 :: S).map (rv ((MoC Z cd).rho en)) = (as.map (rv ((MoC Z cd).rho en))).reverse ++ .ref ((MoC Z cd).rho en 0) :: S.map (rv ((MoC Z cd).rho en)) := by rw [List.map_append, List.map_reverse]; rfl
  have D := h v w1 q1 en p e s m args below meth c T1 _ r X1 K (by omega) (hF.app q4) q2 hL
  rw [res_map q6] at D
  rw [em]
  exact D.pre (fun _ q => frmC.trans q3 q) st
end CallsC
section CallsS
variable {μ E : Type} {l : Launch} {Z : State} {a0 : Array Value} {M : Mode μ E} {md md' : MD} {pc pc' wt idx : Nat} {L L' : List Slot} {S stk as : List Value} {w : μ} {cu su cu' su' : Nat} {Q Q' : Option Value → μ → Prop}
/-- a static method, in the same mode -/
theorem Wk.callS (hM : ∀ en h1 h2 h3, M.frm en h1 h2 → M.frm en h2 h3 → M.frm en h1 h3) (as : List Value) (S : List Value) (hs : stk = as.reverse ++ S) (wl : (Cond.methodLink M.own idx (nmOf md')).before a0 Z = true) (cv : CalS Z a0 md' as.length) (hc : (nmOf md').cls = M.own) (hcal : Wk l Z M md' 0 L' [] w 0 0 Q') (hL' : (argsToLocals as.toArray (mxOf md')).toList = L') (hw : wfL L' = true) (hl : L.length = mxOf md)
    (hwt : (S.map fun v => v.category).sum = wt) (ft : Fits md md' wt cu su cu' su') (hd : InsA md pc (.invokestatic idx) 3 pc') (h : ∀ v w', Q' v w' → Wk l Z M md pc' L (v.toList ++ S) w' cu' su' Q) : Wk l Z M md pc L stk w cu su Q :=
  fun en p e s m args below meth c T locs r X K hz hF hR hL => by
  obtain ⟨hd, rfl⟩ := hd
  subst hs
  obtain ⟨v, T1, Lc, w1, X1, q1, q2, q3, q4, q5, q6, st⟩ := coreS (M' := M) (en := en) (r := r) (rest := S.map (rv (M.rho en))) X K hd wl cv hcal hc.symm hR hL' hw ft (hL.1.trans hl) (by rw [cat_map]; omega)
  have f7 := ft.2.2.1
  have f8 := ft.2.2.2.2.2.2
  have em : (as.reverse ++ S).map (rv (M.rho en)) = (as.map (rv (M.rho en))).reverse ++ S.map (rv (M.rho en)) := by rw [List.map_append, List.map_reverse]
  have D := h v w1 q1 en p e s m args below meth c T1 _ r X1 K (by omega) (hF.app q4) q2 hL
  rw [res_map q6] at D
  rw [em]
  exact D.pre (fun _ q => hM _ _ _ _ q3 q) st
end CallsS
/-! ## 5. The law's own level: a script of ints (or none) and some objects, made one behind the other -/
abbrev WL : Type := Int32 × (Int32 → Int32) × List WO
def w0 : WO := (0, fun _ => 0, fun _ => 0, fun _ _ => 0, fun _ _ => 0)
def rhoL (cd : CD) (en : Nat × Nat) : Nat → Addr
  | 0 => en.2
  | i + 1 => en.1 + i * (cd.2.2.2.length + 1)
def relL (Z : State) (cd : CD) (sc : Bool) (en : Nat × Nat) (w : WL) (h : Heap) : Prop :=
  (sc = true → en.2 < en.1 ∧ ¬ w.1 < 0 ∧ AtA Z h en.2 .int w.1 w.2.1 (fun _ => 0)) ∧ (∀ i x, w.2.2[i]? = some x → relC Z cd (en.1 + i * (cd.2.2.2.length + 1), en.1) x h) ∧ h.size = en.1 + (w.2.2.map fun x => x.1 + 1).sum
abbrev MoL (Z : State) (cd : CD) (own : String) (sc : Bool) : Mode WL (Nat × Nat) := (own, rhoL cd, fun en => en.1, relL Z cd sc, fun _ _ _ => True)
def allK (n : Nat) : List WO → Prop
  | [] => True
  | x :: t => x.1 = n ∧ allK n t
theorem allK.get {n : Nat} : (ws : List WO) → allK n ws → ∀ (i : Nat) (x : WO), ws[i]? = some x → x.1 = n
  | [], _, i, x, h => by simp at h
  | y :: t, h, i, x, e => by
    cases i with
    | zero => simp at e; rw [← e]; exact h.1
    | succ i => exact allK.get t h.2 i x (by simpa using e)
theorem allK.sum {n : Nat} : {ws : List WO} → allK n ws → (ws.map fun x => x.1 + 1).sum = ws.length * (n + 1)
  | [], _ => by simp
  | y :: t, h => by rw [List.map_cons, List.sum_cons, allK.sum (ws := t) h.2, h.1, List.length_cons, Nat.add_mul]; omega
theorem sum_set : (ws : List WO) → (i : Nat) → (x y : WO) → ws[i]? = some x → ((ws.set i y).map fun x => x.1 + 1).sum + x.1 = (ws.map fun x => x.1 + 1).sum + y.1
  | [], i, x, y, h => by simp at h
  | z :: t, 0, x, y, h => by simp at h; subst h; simp; omega
  | z :: t, i + 1, x, y, h => by have := sum_set t i x y (by simpa using h); simp only [List.set_cons_succ, List.map_cons, List.sum_cons]; omega
section Keep
variable {Z : State} {cd : CD} {en : Nat × Nat} {h h' : Heap} {w : WO}
theorem Fld.cells {a : Addr} {C n d : String} {v : Value} (H : Fld Z h a C n d v) (q : ∀ c, h[a]? = some c → h'[a]? = some c) : Fld Z h' a C n d v := by
  obtain ⟨cell, cf, k, i, f, h1, r⟩ := H; exact ⟨cell, cf, k, i, f, q _ h1, r⟩
theorem Exa.cells {a : Addr} {C : String} (H : Exa Z h a C) (q : ∀ c, h[a]? = some c → h'[a]? = some c) : Exa Z h' a C := by
  obtain ⟨cell, k, h1, r⟩ := H; exact ⟨cell, k, q _ h1, r⟩
theorem AtA.cells {b : Addr} {ty : FieldType} {n : Int32} {f : Int32 → Int32} {g : Int32 → Int64} (H : AtA Z h b ty n f g) (q : ∀ c, h[b]? = some c → h'[b]? = some c) : AtA Z h' b ty n f g := by
  obtain ⟨cl, h1, r⟩ := H; exact ⟨cl, ⟨q _ h1.1, h1.2⟩, r⟩
theorem relC.cells (okA : ∀ t ∈ cd.2.2.2, t.1 < cd.2.2.2.length) (hR : relC Z cd en w h) (hk : w.1 = cd.2.2.2.length) (q : ∀ x c, en.1 ≤ x → x ≤ en.1 + cd.2.2.2.length → h[x]? = some c → h'[x]? = some c) : relC Z cd en w h' := by
  obtain ⟨r1, r2, r3, r4, r5, r6⟩ := hR
  have q0 := fun c => q en.1 c (Nat.le_refl _) (Nat.le_add_right _ _)
  refine ⟨r1, Exa.cells r2 q0, fun t m => Fld.cells (r3 t m) q0, fun t m => Fld.cells (r4 t m) q0, fun t m => ⟨fun k => ⟨Fld.cells ((r5 t m).1 k).1 q0, AtA.cells ((r5 t m).1 k).2 fun c => q _ c (Nat.le_add_right _ _) (by have := okA t m; omega)⟩, fun k => Fld.cells ((r5 t m).2 k) q0⟩, fun k => absurd k (by omega)⟩
end Keep
theorem apart {N i j n x : Nat} (hne : j ≠ i) (h1 : n + j * (N + 1) ≤ x) (h2 : x ≤ n + j * (N + 1) + N) : x < n + i * (N + 1) ∨ n + i * (N + 1) + N < x := by
  rcases Nat.lt_or_gt_of_ne hne with q | q
  · left
    have := Nat.mul_le_mul_right (N + 1) (show j + 1 ≤ i from q)
    rw [Nat.add_mul] at this
    omega
  · right
    have := Nat.mul_le_mul_right (N + 1) (show i + 1 ≤ j from q)
    rw [Nat.add_mul] at this
    omega
/-- one object's walk, seen from the law's level -/
theorem relL.step {Z : State} {cd : CD} {sc : Bool} {en : Nat × Nat} {sl : Int32} {sv : Int32 → Int32} {ws : List WO} {h h' : Heap} {i : Nat} {x y : WO} (okA : ∀ t ∈ cd.2.2.2, t.1 < cd.2.2.2.length) (hR : relL Z cd sc en (sl, sv, ws) h) (hi : ws[i]? = some x) (hoth : ∀ j z, ws[j]? = some z → j ≠ i → z.1 = cd.2.2.2.length)
    (hy : relC Z cd (en.1 + i * (cd.2.2.2.length + 1), en.1) y h') (hf : frmC cd (en.1 + i * (cd.2.2.2.length + 1), en.1) h h') (hz : h'.size + x.1 = h.size + y.1) : relL Z cd sc en (sl, sv, ws.set i y) h' := by
  obtain ⟨r1, r2, r3⟩ := hR
  refine ⟨fun q => ?_, fun j z hj => ?_, ?_⟩
  · obtain ⟨a1, a2, a3⟩ := r1 q
    refine ⟨a1, a2, AtA.cells a3 fun c hc => hf.2 _ c hc (Or.inl ?_)⟩
    show en.2 < en.1 + i * (cd.2.2.2.length + 1)
    omega
  · have hj' : (ws.set i y)[j]? = some z := hj
    rw [List.getElem?_set] at hj'
    by_cases e : i = j
    · subst e
      have : i < ws.length := (List.getElem?_eq_some_iff.mp hi).1
      simp [this] at hj'
      subst hj'
      exact hy
    · rw [if_neg e] at hj'
      exact relC.cells okA (r2 j z hj') (hoth j z hj' (Ne.symm e)) fun a c h1 h2 hc => hf.2 a c hc (apart (Ne.symm e) h1 h2)
  · have s1 := sum_set ws i x y hi
    have s2 : h.size = en.1 + (ws.map fun x => x.1 + 1).sum := r3
    show h'.size = en.1 + ((ws.set i y).map fun x => x.1 + 1).sum
    omega
section StepsL
variable {l : Launch} {Z : State} {a0 : Array Value} {cd : CD} {own : String} {sc : Bool} {md md' : MD} {pc pc' wt idx : Nat} {L L' : List Slot} {S stk as : List Value} {sl : Int32} {sv : Int32 → Int32} {ws ws' : List WO} {cu su cu' su' : Nat} {Q : Option Value → WL → Prop} {Q' : Option Value → WO → Prop}
theorem Wk.lenL (hd : InsA md pc .arraylength 1 pc') (h : Wk l Z (MoL Z cd own true) md pc' L (.int sl :: S) (sl, sv, ws) cu su Q) : Wk l Z (MoL Z cd own true) md pc L (.ref 0 :: S) (sl, sv, ws) cu su Q :=
  fun en p e s m args below meth c T locs r X K hz hF hR hL => by
  obtain ⟨hd, rfl⟩ := hd
  obtain ⟨a1, a2, cl, g1, g2, g3⟩ := hR.1 rfl
  have e1 : cl.slots.size.toInt32 = sl := by rw [g2]; exact (back32 a2).1
  refine (h en p e s m args below meth c T locs r X K hz hF hR hL).pre (fun _ q => q) fun t q => X.arraylength K.1 g1.1 (State.isArrayOf_alike K.2.1.alike g1.2.1) (g := mkF m pc r (.ref en.2 :: S.map (rv (rhoL cd en)))) rfl rfl (hb K.by hd) _ (by rw [e1]; exact q)
theorem Wk.ialoadL {x : Int32} (h0 : ¬ x < 0) (h1 : x < sl) (hd : InsA md pc .iaload 1 pc') (h : Wk l Z (MoL Z cd own true) md pc' L (.int (sv x) :: S) (sl, sv, ws) cu su Q) : Wk l Z (MoL Z cd own true) md pc L (.int x :: .ref 0 :: S) (sl, sv, ws) cu su Q :=
  fun en p e s m args below meth c T locs r X K hz hF hR hL => by
  obtain ⟨hd, rfl⟩ := hd
  obtain ⟨a1, a2, cl, g1, g2, g3⟩ := hR.1 rfl
  exact (h en p e s m args below meth c T locs r X K hz hF hR hL).pre (fun _ q => q) fun t q => X.iaload K.1 (j := x) (v := .int (sv x)) g1.1 (State.isArrayOf_alike K.2.1.alike g1.2.1) g1.2.2 (in_of g2 h0 h1) (g3 x h0 h1) (g := mkF m pc r (.int x :: .ref en.2 :: S.map (rv (rhoL cd en)))) rfl rfl (hb K.by hd) _ q
theorem Wk.newL (ok : CO Z a0 cd) {kk i' : Nat} (wc : (Cond.classLink own idx cd.1).before a0 Z = true) (wi : (Cond.instantiable cd.1 kk).before a0 Z = true) (wz : (Cond.initialized cd.1).before a0 Z = true) (hd : InsA md pc (.new idx) 3 pc') (hall : allK cd.2.2.2.length ws) (hi : ws.length + 1 = i') (hws : ws ++ [w0] = ws') (hcu : cu + 1 = cu') (hsu : su + kk = su') (hc : cu' ≤ (rmOf md).cells) (hs : su' ≤ (rmOf md).slots)
    (h : Wk l Z (MoL Z cd own sc) md pc' L (.ref i' :: S) (sl, sv, ws') cu' su' Q) : Wk l Z (MoL Z cd own sc) md pc L S (sl, sv, ws) cu su Q :=
  fun en p e s m args below meth c T locs r X K hz hF hR hL => by
  obtain ⟨hd, rfl⟩ := hd
  subst hi hws hcu hsu
  obtain ⟨T1, h1, X1, e1, E1, A1, D1, -, st⟩ := newO X K.1 K.2.1 K.2.2.1 wc wi wz rfl (g := mkF m pc r (S.map (rv (rhoL cd en)))) rfl (hb K.by hd) hc hs
  subst e1
  obtain ⟨r1, r2, r3⟩ := hR
  have r3' : T.heap.size = en.1 + (ws.map fun x => x.1 + 1).sum := r3
  have sm := hall.sum
  have z1 := X1.heapSize
  have z2 : (T.heap.size : Nat) < T1.heap.size := A1.lt
  have ea : T.heap.size = en.1 + ws.length * (cd.2.2.2.length + 1) := by rw [r3', sm]
  have okp := ok.2.2.2.2
  obtain ⟨q1, q2, q3, q4, q5, q6, q7, q8⟩ := okp
  have rel1 : relL Z cd sc en (sl, sv, ws ++ [w0]) T1.heap := by
    refine ⟨fun q => ⟨(r1 q).1, (r1 q).2.1, (r1 q).2.2.ext E1⟩, fun j z hj => ?_, ?_⟩
    · have hj' : (ws ++ [w0])[j]? = some z := hj
      by_cases e : j < ws.length
      · rw [List.getElem?_append_left e] at hj'
        exact relC.cells (fun t m => (q8 t m).2.1) (r2 j z hj') (allK.get _ hall _ _ hj') fun a c _ _ hc => E1.2 a c hc
      · have e2 : j = ws.length := by
          have := (List.getElem?_eq_some_iff.mp hj').1
          simp at this; omega
        subst e2
        simp at hj'
        subst hj'
        rw [← ea]
        refine ⟨by show en.1 ≤ T.heap.size; omega, A1, fun t m => ?_, fun t m => ?_, fun t m => ⟨fun k => absurd k (Nat.not_lt_zero _), fun _ => ?_⟩, fun _ => by show T1.heap.size = T.heap.size + 1 + 0; omega⟩
        · rcases q7 t m with q | q
          · exact D1 (ok.2.1 t m) q
          · exact D1 (ok.2.1 t m) q
        · exact D1 (ok.2.2.1 t m) pJ
        · exact D1 (ok.2.2.2.1 t m) (q8 t m).1
    · show T1.heap.size = en.1 + ((ws ++ [w0]).map fun x => x.1 + 1).sum
      rw [List.map_append, List.sum_append]
      show T1.heap.size = en.1 + ((ws.map fun x => x.1 + 1).sum + 1)
      omega
  refine (h en p e s m args below meth c T1 locs r X1 K (by omega) hF rel1 hL).pre (fun _ _ => trivial) fun t q => st t ?_
  rw [ea]
  exact q
theorem Wk.callLC (ok : CO Z a0 cd) (as : List Value) (i : Nat) (S : List Value) {i' : Nat} {x : WO} (hi' : i + 1 = i') (hs : stk = as.reverse ++ .ref i' :: S) (hx : ws[i]? = some x) (hoth : allK cd.2.2.2.length (ws.eraseIdx i)) (wl : (Cond.methodLink own idx (nmOf md')).before a0 Z = true) (cv : CalV Z a0 md' as.length) (hc : (nmOf md').cls = cd.1) (nr : noRef as = true) (hcal : Wk l Z (MoC Z cd) md' 0 L' [] x 0 0 Q') (hL' : (argsToLocals (.ref 0 :: as).toArray (mxOf md')).toList = L') (hw : wfL L' = true) (hl : L.length = mxOf md)
    (hwt : (S.map fun v => v.category).sum = wt) (ft : Fits md md' wt cu su cu' su') (hd : InsA md pc (.invokevirtual idx) 3 pc') (hk : ∀ v y, Q' v y → y.1 = x.1 + exOf md') (h : ∀ v y, Q' v y → Wk l Z (MoL Z cd own sc) md pc' L (v.toList ++ S) (sl, sv, ws.set i y) cu' su' Q) : Wk l Z (MoL Z cd own sc) md pc L stk (sl, sv, ws) cu su Q :=
  fun en p e s m args below meth c T locs r X K hz hF hR hL => by
  obtain ⟨hd, rfl⟩ := hd
  subst hs hi'
  have rx := hR.2.1 i x hx
  obtain ⟨v, T1, Lc, w1, X1, p1, p2, p3, p4, p5, p6, st⟩ := coreV (M' := MoC Z cd) (en := (en.1 + i * (cd.2.2.2.length + 1), en.1)) (r := r) (rest := S.map (rv (rhoL cd en))) X K hd wl cv hcal hc.symm rx (by rw [hc]; exact rx.2.1) rfl hL' hw ft (hL.1.trans hl) (by rw [cat_map]; omega)
  have f7 := ft.2.2.1
  have f8 := ft.2.2.2.2.2.2
  have em : (as.reverse ++ .ref (i + 1) :: S).map (rv (rhoL cd en)) = (as.map (rv ((MoC Z cd).rho (en.1 + i * (cd.2.2.2.length + 1), en.1)))).reverse ++ .ref ((MoC Z cd).rho (en.1 + i * (cd.2.2.2.length + 1), en.1) 0) :: S.map (rv (rhoL cd en)) := by
    rw [List.map_append, List.map_reverse, noRef.map as nr, noRef.map as nr]; rfl
  have oth : ∀ j z, ws[j]? = some z → j ≠ i → z.1 = cd.2.2.2.length := by
    intro j z hj hne
    by_cases e : j < i
    · exact allK.get _ hoth j z (by rw [List.getElem?_eraseIdx]; simp [e, hj])
    · refine allK.get _ hoth (j - 1) z ?_
      rw [List.getElem?_eraseIdx, if_neg (by omega), show j - 1 + 1 = j by omega]; exact hj
  have hkk := hk v w1 p1
  have okA : ∀ t ∈ cd.2.2.2, t.1 < cd.2.2.2.length := fun t m => (ok.2.2.2.2.2.2.2.2.2.2.2 t m).2.1
  have D := h v w1 p1 en p e s m args below meth c T1 _ r X1 K (by omega) (hF.app p4) (relL.step okA hR hx oth p2 p3 (by omega)) hL
  rw [res_map p6] at D
  show Done _ _ _ _ _ _ _ _ _ _ _ _ _ _ (mkF m pc r ((as.reverse ++ .ref (i + 1) :: S).map (rv (rhoL cd en))))
  rw [em]
  exact D.pre (fun _ _ => trivial) st
theorem Wk.ctorL (ok : CO Z a0 cd) (as : List Value) (i : Nat) (S : List Value) {i' : Nat} {x : WO} (hi' : i + 1 = i') (hs : stk = as.reverse ++ .ref i' :: S) (hx : ws[i]? = some x) (hoth : allK cd.2.2.2.length (ws.eraseIdx i)) (wl : (Cond.methodLink own idx (nmOf md')).before a0 Z = true) (cv : CalI Z a0 md' as.length) (hc : (nmOf md').cls = cd.1) (nr : noRef as = true) (hcal : Wk l Z (MoC Z cd) md' 0 L' [] x 0 0 Q') (hL' : (argsToLocals (.ref 0 :: as).toArray (mxOf md')).toList = L') (hw : wfL L' = true) (hl : L.length = mxOf md)
    (hwt : (S.map fun v => v.category).sum = wt) (ft : Fits md md' wt cu su cu' su') (hd : InsA md pc (.invokespecial idx) 3 pc') (hk : ∀ v y, Q' v y → y.1 = x.1 + exOf md') (h : ∀ v y, Q' v y → Wk l Z (MoL Z cd own sc) md pc' L (v.toList ++ S) (sl, sv, ws.set i y) cu' su' Q) : Wk l Z (MoL Z cd own sc) md pc L stk (sl, sv, ws) cu su Q :=
  fun en p e s m args below meth c T locs r X K hz hF hR hL => by
  obtain ⟨hd, rfl⟩ := hd
  subst hs hi'
  have rx := hR.2.1 i x hx
  obtain ⟨v, T1, Lc, w1, X1, p1, p2, p3, p4, p5, p6, st⟩ := coreI (M' := MoC Z cd) (en := (en.1 + i * (cd.2.2.2.length + 1), en.1)) (r := r) (rest := S.map (rv (rhoL cd en))) X K hd wl cv hcal hc.symm rx rfl hL' hw ft (hL.1.trans hl) (by rw [cat_map]; omega)
  have f7 := ft.2.2.1
  have f8 := ft.2.2.2.2.2.2
  have em : (as.reverse ++ .ref (i + 1) :: S).map (rv (rhoL cd en)) = (as.map (rv ((MoC Z cd).rho (en.1 + i * (cd.2.2.2.length + 1), en.1)))).reverse ++ .ref ((MoC Z cd).rho (en.1 + i * (cd.2.2.2.length + 1), en.1) 0) :: S.map (rv (rhoL cd en)) := by
    rw [List.map_append, List.map_reverse, noRef.map as nr, noRef.map as nr]; rfl
  have oth : ∀ j z, ws[j]? = some z → j ≠ i → z.1 = cd.2.2.2.length := by
    intro j z hj hne
    by_cases e : j < i
    · exact allK.get _ hoth j z (by rw [List.getElem?_eraseIdx]; simp [e, hj])
    · refine allK.get _ hoth (j - 1) z ?_
      rw [List.getElem?_eraseIdx, if_neg (by omega), show j - 1 + 1 = j by omega]; exact hj
  have hkk := hk v w1 p1
  have okA : ∀ t ∈ cd.2.2.2, t.1 < cd.2.2.2.length := fun t m => (ok.2.2.2.2.2.2.2.2.2.2.2 t m).2.1
  have D := h v w1 p1 en p e s m args below meth c T1 _ r X1 K (by omega) (hF.app p4) (relL.step okA hR hx oth p2 p3 (by omega)) hL
  rw [res_map p6] at D
  show Done _ _ _ _ _ _ _ _ _ _ _ _ _ _ (mkF m pc r ((as.reverse ++ .ref (i + 1) :: S).map (rv (rhoL cd en))))
  rw [em]
  exact D.pre (fun _ _ => trivial) st
end StepsL
end Jvm.Own

namespace Jvm.Own
open Jvm Jvm.ClassFile Sem Op Lib Jvm.Free Jvm.Stand Jvm.LawKit Jvm.RoadKit
/-- the class's list of fields, looked at -/
def okB (cd : CD) : Bool :=
  cd.2.1.all (fun (t : Nat × String × String) => cd.2.1.all fun t' => if t.1 = t'.1 then decide (t = t') else t.2.1 != t'.2.1) && cd.2.2.1.all (fun (t : Nat × String) => cd.2.2.1.all fun t' => if t.1 = t'.1 then decide (t = t') else t.2 != t'.2) && cd.2.2.2.all (fun (t : Nat × String × String × FieldType × Int32) => cd.2.2.2.all fun t' => if t.1 = t'.1 then decide (t = t') else t.2.1 != t'.2.1) &&
  cd.2.1.all (fun (t : Nat × String × String) => cd.2.2.1.all fun (t' : Nat × String) => t.2.1 != t'.2) && cd.2.1.all (fun (t : Nat × String × String) => cd.2.2.2.all fun (t' : Nat × String × String × FieldType × Int32) => t.2.1 != t'.2.1) && cd.2.2.1.all (fun (t : Nat × String) => cd.2.2.2.all fun (t' : Nat × String × String × FieldType × Int32) => t.2 != t'.2.1) &&
  cd.2.1.all (fun (t : Nat × String × String) => decide (parseFieldDescriptor t.2.2 = some .int) || decide (parseFieldDescriptor t.2.2 = some .boolean)) &&
  cd.2.2.2.all (fun (t : Nat × String × String × FieldType × Int32) => decide (parseFieldDescriptor t.2.2.1 = some (.array t.2.2.2.1)) && decide (t.1 < cd.2.2.2.length) && (decide (t.2.2.2.1 = .int) || decide (t.2.2.2.1 = .boolean) || decide (t.2.2.2.1 = .long)) && !decide (t.2.2.2.2 < 0))
theorem pair_of {α : Type} {L : List α} {f : α → Nat} {g : α → String} [DecidableEq α] (h : L.all (fun t => L.all fun t' => if f t = f t' then decide (t = t') else g t != g t') = true) : ∀ t ∈ L, ∀ t' ∈ L, (f t = f t' → t = t') ∧ (f t ≠ f t' → g t ≠ g t') := by
  intro t m t' m'
  have q := List.all_eq_true.mp (List.all_eq_true.mp h t m) t' m'
  constructor
  · intro e; rw [if_pos e] at q; exact of_decide_eq_true q
  · intro e; rw [if_neg e] at q; simpa using q
theorem apart_of {α β : Type} {L : List α} {L' : List β} {g : α → String} {g' : β → String} (h : L.all (fun t => L'.all fun t' => g t != g' t') = true) : ∀ t ∈ L, ∀ t' ∈ L', g t ≠ g' t' := by
  intro t m t' m'
  have q := List.all_eq_true.mp (List.all_eq_true.mp h t m) t' m'
  simpa using q
theorem okC.of {cd : CD} (h : okB cd = true) : okC cd := by
  unfold okB at h
  simp only [Bool.and_eq_true] at h
  obtain ⟨⟨⟨⟨⟨⟨⟨h1, h2⟩, h3⟩, h4⟩, h5⟩, h6⟩, h7⟩, h8⟩ := h
  refine ⟨pair_of (L := cd.2.1) (f := fun (t : Nat × String × String) => t.1) (g := fun (t : Nat × String × String) => t.2.1) h1, pair_of (L := cd.2.2.1) (f := fun (t : Nat × String) => t.1) (g := fun (t : Nat × String) => t.2) h2, pair_of (L := cd.2.2.2) (f := fun (t : Nat × String × String × FieldType × Int32) => t.1) (g := fun (t : Nat × String × String × FieldType × Int32) => t.2.1) h3, apart_of (L := cd.2.1) (L' := cd.2.2.1) (g := fun (t : Nat × String × String) => t.2.1) (g' := fun (t : Nat × String) => t.2) h4, apart_of (L := cd.2.1) (L' := cd.2.2.2) (g := fun (t : Nat × String × String) => t.2.1) (g' := fun (t : Nat × String × String × FieldType × Int32) => t.2.1) h5, apart_of (L := cd.2.2.1) (L' := cd.2.2.2) (g := fun (t : Nat × String) => t.2) (g' := fun (t : Nat × String × String × FieldType × Int32) => t.2.1) h6, fun t m => ?_, fun t m => ?_⟩
  · have q := List.all_eq_true.mp h7 t m
    simpa using q
  · have q := List.all_eq_true.mp h8 t m
    simp only [Bool.and_eq_true, Bool.or_eq_true, decide_eq_true_eq, Bool.not_eq_true', decide_eq_false_iff_not] at q
    exact ⟨q.1.1.1, q.1.1.2, by rcases q.1.2 with (a | a) | a <;> simp [a], q.2⟩
theorem nar1 : nar .boolean 1 = 1 := by decide
theorem nar0 : nar .boolean 0 = 0 := by decide
theorem nar_nar (x : Int32) : nar .boolean (nar .boolean x) = nar .boolean x := by
  show (x &&& 1) &&& 1 = x &&& 1
  rw [Int32.and_assoc]; rfl
theorem ne_toInt {x n : Int32} (q : ¬ x = n) : x.toInt ≠ n.toInt := fun h => q (Int32.toInt_inj.mp h)
/-! ## 6. The same calls where the callee's answer is known as a term -/
section FunC
variable {l : Launch} {Z : State} {a0 : Array Value} {cd : CD} {md md' : MD} {pc pc' wt idx : Nat} {L L' : List Slot} {S stk as : List Value} {w w1 : WO} {cu su cu' su' : Nat} {Q : Option Value → WO → Prop} {x : Value}
theorem Wk.callF (as : List Value) (S : List Value) (wl : (Cond.methodLink cd.1 idx (nmOf md')).before a0 Z = true) (cv : CalV Z a0 md' as.length) (hd : InsA md pc (.invokevirtual idx) 3 pc') (hcal : Wk l Z (MoC Z cd) md' 0 L' [] w 0 0 (fun v w' => v = some x ∧ w' = w1)) (ft : Fits md md' wt cu su cu' su') (hs : stk = as.reverse ++ .ref 0 :: S) (hc : (nmOf md').cls = cd.1) (nr : noRef as = true) (hL' : (argsToLocals (.ref 0 :: as).toArray (mxOf md')).toList = L') (hw : wfL L' = true) (hl : L.length = mxOf md)
    (hwt : (S.map fun v => v.category).sum = wt) (h : Wk l Z (MoC Z cd) md pc' L (x :: S) w1 cu' su' Q) : Wk l Z (MoC Z cd) md pc L stk w cu su Q :=
  Wk.callC as S hs wl cv hc nr hcal hL' hw hl hwt ft hd fun v w' q => by obtain ⟨rfl, rfl⟩ := q; exact h
theorem Wk.callU (as : List Value) (S : List Value) (wl : (Cond.methodLink cd.1 idx (nmOf md')).before a0 Z = true) (cv : CalV Z a0 md' as.length) (hd : InsA md pc (.invokevirtual idx) 3 pc') (hcal : Wk l Z (MoC Z cd) md' 0 L' [] w 0 0 (fun v w' => v = none ∧ w' = w1)) (ft : Fits md md' wt cu su cu' su') (hs : stk = as.reverse ++ .ref 0 :: S) (hc : (nmOf md').cls = cd.1) (nr : noRef as = true) (hL' : (argsToLocals (.ref 0 :: as).toArray (mxOf md')).toList = L') (hw : wfL L' = true) (hl : L.length = mxOf md)
    (hwt : (S.map fun v => v.category).sum = wt) (h : Wk l Z (MoC Z cd) md pc' L S w1 cu' su' Q) : Wk l Z (MoC Z cd) md pc L stk w cu su Q :=
  Wk.callC as S hs wl cv hc nr hcal hL' hw hl hwt ft hd fun v w' q => by obtain ⟨rfl, rfl⟩ := q; exact h
end FunC
section FunS
variable {μ E : Type} {l : Launch} {Z : State} {a0 : Array Value} {M : Mode μ E} {md md' : MD} {pc pc' wt idx : Nat} {L L' : List Slot} {S stk as : List Value} {w w1 : μ} {cu su cu' su' : Nat} {Q : Option Value → μ → Prop} {x : Value}
theorem Wk.callSF (hM : ∀ en h1 h2 h3, M.frm en h1 h2 → M.frm en h2 h3 → M.frm en h1 h3) (as : List Value) (S : List Value) (wl : (Cond.methodLink M.own idx (nmOf md')).before a0 Z = true) (cv : CalS Z a0 md' as.length) (hd : InsA md pc (.invokestatic idx) 3 pc') (hcal : Wk l Z M md' 0 L' [] w 0 0 (fun v w' => v = some x ∧ w' = w1)) (ft : Fits md md' wt cu su cu' su') (hs : stk = as.reverse ++ S) (hc : (nmOf md').cls = M.own) (hL' : (argsToLocals as.toArray (mxOf md')).toList = L') (hw : wfL L' = true) (hl : L.length = mxOf md)
    (hwt : (S.map fun v => v.category).sum = wt) (h : Wk l Z M md pc' L (x :: S) w1 cu' su' Q) : Wk l Z M md pc L stk w cu su Q :=
  Wk.callS hM as S hs wl cv hc hcal hL' hw hl hwt ft hd fun v w' q => by obtain ⟨rfl, rfl⟩ := q; exact h
theorem Wk.callSU (hM : ∀ en h1 h2 h3, M.frm en h1 h2 → M.frm en h2 h3 → M.frm en h1 h3) (as : List Value) (S : List Value) (wl : (Cond.methodLink M.own idx (nmOf md')).before a0 Z = true) (cv : CalS Z a0 md' as.length) (hd : InsA md pc (.invokestatic idx) 3 pc') (hcal : Wk l Z M md' 0 L' [] w 0 0 (fun v w' => v = none ∧ w' = w1)) (ft : Fits md md' wt cu su cu' su') (hs : stk = as.reverse ++ S) (hc : (nmOf md').cls = M.own) (hL' : (argsToLocals as.toArray (mxOf md')).toList = L') (hw : wfL L' = true) (hl : L.length = mxOf md)
    (hwt : (S.map fun v => v.category).sum = wt) (h : Wk l Z M md pc' L S w1 cu' su' Q) : Wk l Z M md pc L stk w cu su Q :=
  Wk.callS hM as S hs wl cv hc hcal hL' hw hl hwt ft hd fun v w' q => by obtain ⟨rfl, rfl⟩ := q; exact h
end FunS
section FunL
variable {l : Launch} {Z : State} {a0 : Array Value} {cd : CD} {own : String} {sc : Bool} {md md' : MD} {pc pc' wt idx : Nat} {L L' : List Slot} {S stk as : List Value} {sl : Int32} {sv : Int32 → Int32} {ws ws' : List WO} {cu su cu' su' : Nat} {Q : Option Value → WL → Prop} {v : Value} {y : WO}
theorem Wk.callLF (ok : CO Z a0 cd) (as : List Value) (i : Nat) (S : List Value) {i' : Nat} {x : WO} (wl : (Cond.methodLink own idx (nmOf md')).before a0 Z = true) (cv : CalV Z a0 md' as.length) (hd : InsA md pc (.invokevirtual idx) 3 pc') (hcal : Wk l Z (MoC Z cd) md' 0 L' [] x 0 0 (fun v' w' => v' = some v ∧ w' = y)) (ft : Fits md md' wt cu su cu' su') (hoth : allK cd.2.2.2.length (ws.eraseIdx i)) (hi' : i + 1 = i') (hs : stk = as.reverse ++ .ref i' :: S) (hx : ws[i]? = some x) (hc : (nmOf md').cls = cd.1) (nr : noRef as = true) (hL' : (argsToLocals (.ref 0 :: as).toArray (mxOf md')).toList = L') (hw : wfL L' = true) (hl : L.length = mxOf md)
    (hwt : (S.map fun v => v.category).sum = wt) (hk : y.1 = x.1 + exOf md') (hws : ws.set i y = ws') (h : Wk l Z (MoL Z cd own sc) md pc' L (v :: S) (sl, sv, ws') cu' su' Q) : Wk l Z (MoL Z cd own sc) md pc L stk (sl, sv, ws) cu su Q :=
  Wk.callLC ok as i S hi' hs hx hoth wl cv hc nr hcal hL' hw hl hwt ft hd (fun v' y' q => by obtain ⟨rfl, rfl⟩ := q; exact hk) fun v' y' q => by obtain ⟨rfl, rfl⟩ := q; subst hws; exact h
theorem Wk.callLU (ok : CO Z a0 cd) (as : List Value) (i : Nat) (S : List Value) {i' : Nat} {x : WO} (wl : (Cond.methodLink own idx (nmOf md')).before a0 Z = true) (cv : CalV Z a0 md' as.length) (hd : InsA md pc (.invokevirtual idx) 3 pc') (hcal : Wk l Z (MoC Z cd) md' 0 L' [] x 0 0 (fun v' w' => v' = none ∧ w' = y)) (ft : Fits md md' wt cu su cu' su') (hoth : allK cd.2.2.2.length (ws.eraseIdx i)) (hi' : i + 1 = i') (hs : stk = as.reverse ++ .ref i' :: S) (hx : ws[i]? = some x) (hc : (nmOf md').cls = cd.1) (nr : noRef as = true) (hL' : (argsToLocals (.ref 0 :: as).toArray (mxOf md')).toList = L') (hw : wfL L' = true) (hl : L.length = mxOf md)
    (hwt : (S.map fun v => v.category).sum = wt) (hk : y.1 = x.1 + exOf md') (hws : ws.set i y = ws') (h : Wk l Z (MoL Z cd own sc) md pc' L S (sl, sv, ws') cu' su' Q) : Wk l Z (MoL Z cd own sc) md pc L stk (sl, sv, ws) cu su Q :=
  Wk.callLC ok as i S hi' hs hx hoth wl cv hc nr hcal hL' hw hl hwt ft hd (fun v' y' q => by obtain ⟨rfl, rfl⟩ := q; exact hk) fun v' y' q => by obtain ⟨rfl, rfl⟩ := q; subst hws; exact h
theorem Wk.ctorLU (ok : CO Z a0 cd) (as : List Value) (i : Nat) (S : List Value) {i' : Nat} {x : WO} (wl : (Cond.methodLink own idx (nmOf md')).before a0 Z = true) (cv : CalI Z a0 md' as.length) (hd : InsA md pc (.invokespecial idx) 3 pc') (hcal : Wk l Z (MoC Z cd) md' 0 L' [] x 0 0 (fun v' w' => v' = none ∧ w' = y)) (ft : Fits md md' wt cu su cu' su') (hoth : allK cd.2.2.2.length (ws.eraseIdx i)) (hi' : i + 1 = i') (hs : stk = as.reverse ++ .ref i' :: S) (hx : ws[i]? = some x) (hc : (nmOf md').cls = cd.1) (nr : noRef as = true) (hL' : (argsToLocals (.ref 0 :: as).toArray (mxOf md')).toList = L') (hw : wfL L' = true) (hl : L.length = mxOf md)
    (hwt : (S.map fun v => v.category).sum = wt) (hk : y.1 = x.1 + exOf md') (hws : ws.set i y = ws') (h : Wk l Z (MoL Z cd own sc) md pc' L S (sl, sv, ws') cu' su' Q) : Wk l Z (MoL Z cd own sc) md pc L stk (sl, sv, ws) cu su Q :=
  Wk.ctorL ok as i S hi' hs hx hoth wl cv hc nr hcal hL' hw hl hwt ft hd (fun v' y' q => by obtain ⟨rfl, rfl⟩ := q; exact hk) fun v' y' q => by obtain ⟨rfl, rfl⟩ := q; subst hws; exact h
end FunL
end Jvm.Own

namespace Jvm.Own
open Jvm
/-! ## 7. Plain helpers -/
theorem lt_i {x y : Int32} : x < y ↔ x.toInt < y.toInt := Int32.lt_iff_toInt_lt
theorem add_toInt {x y : Int32} (h1 : -2147483648 ≤ x.toInt + y.toInt) (h2 : x.toInt + y.toInt < 2147483648) : (x + y).toInt = x.toInt + y.toInt := by
  rw [Int32.toInt_add]
  exact Int.bmod_eq_of_le (by omega) (by omega)
theorem sub_toInt {x y : Int32} (h1 : -2147483648 ≤ x.toInt - y.toInt) (h2 : x.toInt - y.toInt < 2147483648) : (x - y).toInt = x.toInt - y.toInt := by
  rw [Int32.toInt_sub]
  exact Int.bmod_eq_of_le (by omega) (by omega)
theorem succ_toInt {i n : Int32} (h : i < n) : (i + 1).toInt = i.toInt + 1 := by
  have h1 := lt_i.mp h
  have h2 := Int32.toInt_lt n
  have h3 := Int32.le_toInt i
  exact add_toInt (x := i) (y := 1) (by show -2147483648 ≤ i.toInt + 1; omega) (by show i.toInt + 1 < 2147483648; omega)
/-- a loop that counts up to n: backwards from its end -/
theorem loopUp {n : Int32} {P : Int32 → Prop} (hend : P n) (hstep : ∀ i, ¬ i < 0 → i < n → P (i + 1) → P i) : ∀ i, ¬ i < 0 → ¬ n < i → P i := by
  have key : ∀ (k : Nat) (i : Int32), ¬ i < 0 → ¬ n < i → (n.toInt - i.toInt).toNat = k → P i := by
    intro k
    induction k with
    | zero =>
      intro i h0 h1 hk
      have e : i = n := by
        rw [lt_i] at h1
        exact Int32.toInt_inj.mp (by omega)
      subst e; exact hend
    | succ k ih =>
      intro i h0 h1 hk
      rw [lt_i] at h1
      have hlt : i < n := lt_i.mpr (by omega)
      have hs := succ_toInt hlt
      have h0' : ¬ i.toInt < 0 := fun q => h0 (lt_i.mpr q)
      refine hstep i h0 hlt (ih (i + 1) ?_ ?_ ?_)
      · rw [lt_i, hs]; show ¬ i.toInt + 1 < 0; omega
      · rw [lt_i, hs]; omega
      · rw [hs]; omega
  exact fun i h0 h1 => key _ i h0 h1 rfl
/-- the first n places hold c -/
def fill {α : Type} (f : Int32 → α) (n : Int32) (c : α) : Int32 → α := fun x => if ¬ x < 0 ∧ x < n then c else f x
theorem fill_zero {α : Type} (f : Int32 → α) (c : α) : fill f 0 c = f := by
  funext x; exact if_neg fun q => q.1 q.2
theorem fill_succ {α : Type} (f : Int32 → α) (c : α) {i n : Int32} (h0 : ¬ i < 0) (h : i < n) : ups (fill f i c) i c = fill f (i + 1) c := by
  funext x
  have hs := succ_toInt h
  have h0' : ¬ i.toInt < 0 := fun q => h0 (lt_i.mpr q)
  unfold ups fill
  by_cases e : x = i
  · rw [if_pos e, if_pos]
    subst e
    exact ⟨h0, lt_i.mpr (by omega)⟩
  · rw [if_neg e]
    have e' : x.toInt ≠ i.toInt := fun q => e (Int32.toInt_inj.mp q)
    by_cases q : ¬ x < 0 ∧ x < i
    · rw [if_pos q, if_pos ⟨q.1, lt_i.mpr (by have := lt_i.mp q.2; omega)⟩]
    · rw [if_neg q, if_neg]
      rintro ⟨a, b⟩
      exact q ⟨a, lt_i.mpr (by have := lt_i.mp b; omega)⟩
theorem fill_in {α : Type} (f : Int32 → α) (c : α) {x n : Int32} (h0 : ¬ x < 0) (h : x < n) : fill f n c x = c := if_pos ⟨h0, h⟩
theorem ups_self {κ α : Type} [DecidableEq κ] (f : κ → α) (i : κ) : ups f i (f i) = f := by
  funext k; unfold ups; by_cases e : k = i
  · rw [if_pos e, e]
  · rw [if_neg e]
theorem ups_upd {κ α : Type} [DecidableEq κ] (f : κ → α) (i : κ) (x y : α) : ups (ups f i x) i y = ups f i y := by
  funext k; unfold ups; by_cases e : k = i
  · rw [if_pos e, if_pos e]
  · rw [if_neg e, if_neg e, if_neg e]
theorem ups_comm {κ α : Type} [DecidableEq κ] (f : κ → α) {i j : κ} (x y : α) (h : i ≠ j) : ups (ups f i x) j y = ups (ups f j y) i x := by
  funext k; unfold ups; by_cases e : k = i
  · have : k ≠ j := fun q => h (e.symm.trans q)
    rw [if_neg this, if_pos e, if_pos e]
  · by_cases e2 : k = j
    · rw [if_pos e2, if_neg e, if_pos e2]
    · rw [if_neg e2, if_neg e, if_neg e, if_neg e2]
end Jvm.Own

namespace Jvm.Own
open Jvm Jvm.Free
/-! ## 8. Bits -/
theorem toNat_toInt (x : Int32) : (x.toBitVec.toNat : Int) = x.toInt % 4294967296 := by
  have h1 : x.toInt = x.toBitVec.toInt := rfl
  rw [h1, BitVec.toInt_eq_toNat_bmod]
  have h2 := x.toBitVec.isLt
  have h3 := Int.bmod_emod (x := (x.toBitVec.toNat : Int)) (m := 2 ^ 32)
  have h4 : ((2 ^ 32 : Nat) : Int) = 4294967296 := rfl
  rw [h4] at h3
  rw [h3]; omega
theorem and_mask (x m : Int32) (k : Nat) (hk : k < 31) (hm : m.toBitVec.toNat = 2 ^ k - 1) : (x &&& m).toInt = x.toInt % ((2 ^ k : Nat) : Int) := by
  have h1 : (x &&& m).toInt = (x.toBitVec &&& m.toBitVec).toInt := rfl
  have h2 : (x.toBitVec &&& m.toBitVec).toNat = x.toBitVec.toNat % 2 ^ k := by rw [BitVec.toNat_and, hm, Nat.and_two_pow_sub_one_eq_mod]
  have h3 : (2 ^ k : Nat) ≤ 2 ^ 30 := Nat.pow_le_pow_right (by decide) (by omega)
  have h4 : x.toBitVec.toNat % 2 ^ k < 2 ^ k := Nat.mod_lt _ (Nat.two_pow_pos k)
  have h5 : (2 ^ k : Nat) ∣ 4294967296 := ⟨2 ^ (32 - k), by rw [← Nat.pow_add]; have : k + (32 - k) = 32 := by omega
                                                            rw [this]⟩
  rw [h1, BitVec.toInt_eq_toNat_of_lt (by rw [h2]; omega), h2, Int.natCast_emod, toNat_toInt]
  exact Int.emod_emod_of_dvd _ (Int.natCast_dvd_natCast.mpr h5)
theorem sar_toInt (x y : Int32) (k : Nat) (hy : y.toBitVec.smod 32#32 = BitVec.ofNat 32 k) (hk : k < 32) : (x >>> y).toInt = x.toInt / ((2 ^ k : Nat) : Int) := by
  have h1 : (x >>> y).toInt = (x.toBitVec.sshiftRight' (y.toBitVec.smod 32#32)).toInt := rfl
  rw [h1, hy, BitVec.sshiftRight_eq', BitVec.toInt_sshiftRight, BitVec.toNat_ofNat, Nat.mod_eq_of_lt (by omega), Int.shiftRight_eq_div_pow]
  rfl
theorem ushr_pos (x y : Int32) (k : Nat) (hy : (y &&& 31).toBitVec.toNat = k) (hx : ¬ x < 0) : (XT.ushr x y).toInt = x.toInt / ((2 ^ k : Nat) : Int) := by
  have hx' : 0 ≤ x.toInt := by rw [lt_i] at hx; have z : (0 : Int32).toInt = 0 := rfl; omega
  have h0 : (x.toBitVec.toNat : Int) = x.toInt := by rw [toNat_toInt]; have := Int32.toInt_lt x; omega
  have hy' : k < 32 := by
    rw [← hy]
    have : (y &&& 31).toBitVec.toNat = y.toBitVec.toNat % 2 ^ 5 := by
      show (y.toBitVec &&& 31#32).toNat = _
      rw [BitVec.toNat_and]; exact Nat.and_two_pow_sub_one_eq_mod _ 5
    omega
  have h1 : (XT.ushr x y).toBitVec = x.toBitVec >>> k := by
    show x.toBitVec >>> ((y &&& 31).toBitVec % 32#32) = _
    rw [BitVec.ushiftRight_eq', BitVec.toNat_umod, hy]
    show x.toBitVec >>> (k % 32) = _
    rw [Nat.mod_eq_of_lt hy']
  have h2 : (x.toBitVec >>> k).toNat = x.toBitVec.toNat / 2 ^ k := by rw [BitVec.toNat_ushiftRight, Nat.shiftRight_eq_div_pow]
  have h3 : (XT.ushr x y).toInt = (x.toBitVec >>> k).toInt := by rw [← h1]; rfl
  have h4 : x.toBitVec.toNat / 2 ^ k ≤ x.toBitVec.toNat := Nat.div_le_self _ _
  rw [h3, BitVec.toInt_eq_toNat_of_lt (by rw [h2]; have := Int32.toInt_lt x; omega), h2, Int.natCast_ediv, h0]
end Jvm.Own
namespace Jvm.Own
open Jvm Jvm.ClassFile Sem Op Lib Jvm.Free Jvm.Stand Jvm.LawKit Jvm.RoadKit
/-! ## 9. An array of ints that the law is given -/
theorem script_at {s : State} {sa : Addr} {N : Int32} (na : (Cond.arrayOf (.arg 0) .int).value #[.ref sa] s none s [] = some true)
    (hr : (Cond.all (.arg 0) (.isInt (.elem (.arg 0) (.index 0)))).value #[.ref sa] s none s [] = some true)
    (nl : (Cond.le (.length (.arg 0)) (.int N)).value #[.ref sa] s none s [] = some true) :
    ∃ (sl : Int32) (sv : Int32 → Int32), sa < s.heap.size ∧ ¬ sl < 0 ∧ ¬ N < sl ∧ AtA s s.heap sa .int sl sv (fun _ => 0) := by
  have ea : ∀ idx, (Term.arg 0).eval #[Value.ref sa] s none idx s = some (.ref sa) := fun _ => rfl
  obtain ⟨cl, hcl⟩ := Arr.start (ea []) na
  have h1 : sa < s.heap.size := (Array.getElem?_eq_some_iff.mp hcl.1).1
  have hat : s.arrayAt? sa = some cl := hcl.fin (Vm.Alike.refl _)
  obtain ⟨x, y, ex, ey, -, -⟩ := cmp_v (.inr (.inr nl))
  have hsz : cl.slots.size < 2 ^ 31 := by
    apply Classical.byContradiction; intro hn
    have hn' : ¬ cl.slots.size < 2147483648 := hn
    simp [Term.eval, hat, hn', ea] at ex
  have e1 : (Term.length (.arg 0)).eval #[Value.ref sa] s none [] s = some (.int cl.slots.size.toInt32) := len_f (ea []) hat hsz
  have e2 : (Term.int N).eval #[Value.ref sa] s none [] s = some (.int N) := Term.int_eval N
  have hle : cl.slots.size.toInt32 ≤ N := by
    have := nl
    simp [Cond.value, e1, e2] at this
    exact this
  have hnn : ¬ cl.slots.size.toInt32 < 0 := Int32.ofNat_not_neg hsz
  have hbk : cl.slots.size.toInt32.toNatClampNeg = cl.slots.size := Example.SumArray.toNatClampNeg_ofNat hsz
  refine ⟨cl.slots.size.toInt32, fun x => match cl.slots[x.toNatClampNeg]? with | some (.int y) => y | _ => 0, h1, hnn, Int32.not_lt.mpr hle, cl, hcl, hbk.symm, fun x h0 hx => ?_⟩
  have hlt : x.toNatClampNeg < cl.slots.size := by have := clamp_lt h0 hx; rw [hbk] at this; exact this
  obtain ⟨v, hv⟩ := is_v (Cond.all_elim (ea []) hat hr _ hlt)
  rw [elem_f (ea _) (idx_at h0) hat h0] at hv
  show cl.slots[x.toNatClampNeg]? = some (Value.int (match cl.slots[x.toNatClampNeg]? with | some (.int y) => y | _ => 0))
  simp only [hv]
end Jvm.Own
namespace Jvm.Pilot.@@N@@
open Jvm Jvm.ClassFile Sem Op Lib Jvm.Free Jvm.Stand Jvm.LawKit Jvm.RoadKit Bundle Jvm.Own Jvm.Pilot.@@N@@.Jvm.D
def OK (Z : State) (a0 : Array Value) : Prop := ∀ d ∈ tables_1, d.before a0 Z = true
theorem OK.w {Z : State} {a0 : Array Value} (H : OK Z a0) (i : Nat) {d : Jvm.Cond} (h : tables_1[i]? = some d) : d.before a0 Z = true := H _ (List.mem_of_getElem? h)
abbrev cdC : CD := ("CyclicExecutive", [(0, "maxTasks", "I"), (1, "maxHyper", "I"), (2, "count", "I"), (3, "hyper", "I"), (4, "present", "Z"), (5, "frame", "I"), (6, "miss", "I"), (7, "now", "I"), (8, "pos", "I")], [], [(0, "per", "[I", .int, 8), (1, "exe", "[I", .int, 8), (2, "dl", "[I", .int, 8), (3, "runCnt", "[I", .int, 8), (4, "tickTask", "[I", .int, 128), (5, "tickJob", "[I", .int, 128), (6, "rem", "[I", .int, 1024)])
theorem okcC : okC cdC := okC.of (by decide +kernel)
theorem mI_maxTasks : (0, "maxTasks", "I") ∈ cdC.2.1 := List.mem_of_getElem? (i := 0) rfl
theorem mI_maxHyper : (1, "maxHyper", "I") ∈ cdC.2.1 := List.mem_of_getElem? (i := 1) rfl
theorem mI_count : (2, "count", "I") ∈ cdC.2.1 := List.mem_of_getElem? (i := 2) rfl
theorem mI_hyper : (3, "hyper", "I") ∈ cdC.2.1 := List.mem_of_getElem? (i := 3) rfl
theorem mI_present : (4, "present", "Z") ∈ cdC.2.1 := List.mem_of_getElem? (i := 4) rfl
theorem mI_frame : (5, "frame", "I") ∈ cdC.2.1 := List.mem_of_getElem? (i := 5) rfl
theorem mI_miss : (6, "miss", "I") ∈ cdC.2.1 := List.mem_of_getElem? (i := 6) rfl
theorem mI_now : (7, "now", "I") ∈ cdC.2.1 := List.mem_of_getElem? (i := 7) rfl
theorem mI_pos : (8, "pos", "I") ∈ cdC.2.1 := List.mem_of_getElem? (i := 8) rfl
theorem mA_per : (0, "per", "[I", FieldType.int, (8 : Int32)) ∈ cdC.2.2.2 := List.mem_of_getElem? (i := 0) rfl
theorem mA_exe : (1, "exe", "[I", FieldType.int, (8 : Int32)) ∈ cdC.2.2.2 := List.mem_of_getElem? (i := 1) rfl
theorem mA_dl : (2, "dl", "[I", FieldType.int, (8 : Int32)) ∈ cdC.2.2.2 := List.mem_of_getElem? (i := 2) rfl
theorem mA_runCnt : (3, "runCnt", "[I", FieldType.int, (8 : Int32)) ∈ cdC.2.2.2 := List.mem_of_getElem? (i := 3) rfl
theorem mA_tickTask : (4, "tickTask", "[I", FieldType.int, (128 : Int32)) ∈ cdC.2.2.2 := List.mem_of_getElem? (i := 4) rfl
theorem mA_tickJob : (5, "tickJob", "[I", FieldType.int, (128 : Int32)) ∈ cdC.2.2.2 := List.mem_of_getElem? (i := 5) rfl
theorem mA_rem : (6, "rem", "[I", FieldType.int, (1024 : Int32)) ∈ cdC.2.2.2 := List.mem_of_getElem? (i := 6) rfl
theorem wf_per {Z : State} {a0 : Array Value} (H : OK Z a0) : (Cond.fieldLink "CyclicExecutive" 7 "CyclicExecutive" "per" "[I").before a0 Z = true := H.w 10 rfl
theorem wf_exe {Z : State} {a0 : Array Value} (H : OK Z a0) : (Cond.fieldLink "CyclicExecutive" 13 "CyclicExecutive" "exe" "[I").before a0 Z = true := H.w 12 rfl
theorem wf_dl {Z : State} {a0 : Array Value} (H : OK Z a0) : (Cond.fieldLink "CyclicExecutive" 16 "CyclicExecutive" "dl" "[I").before a0 Z = true := H.w 14 rfl
theorem wf_runCnt {Z : State} {a0 : Array Value} (H : OK Z a0) : (Cond.fieldLink "CyclicExecutive" 19 "CyclicExecutive" "runCnt" "[I").before a0 Z = true := H.w 16 rfl
theorem wf_tickTask {Z : State} {a0 : Array Value} (H : OK Z a0) : (Cond.fieldLink "CyclicExecutive" 22 "CyclicExecutive" "tickTask" "[I").before a0 Z = true := H.w 18 rfl
theorem wf_tickJob {Z : State} {a0 : Array Value} (H : OK Z a0) : (Cond.fieldLink "CyclicExecutive" 25 "CyclicExecutive" "tickJob" "[I").before a0 Z = true := H.w 20 rfl
theorem wf_rem {Z : State} {a0 : Array Value} (H : OK Z a0) : (Cond.fieldLink "CyclicExecutive" 28 "CyclicExecutive" "rem" "[I").before a0 Z = true := H.w 22 rfl
theorem wf_maxTasks {Z : State} {a0 : Array Value} (H : OK Z a0) : (Cond.fieldLink "CyclicExecutive" 35 "CyclicExecutive" "maxTasks" "I").before a0 Z = true := H.w 28 rfl
theorem wf_maxHyper {Z : State} {a0 : Array Value} (H : OK Z a0) : (Cond.fieldLink "CyclicExecutive" 39 "CyclicExecutive" "maxHyper" "I").before a0 Z = true := H.w 30 rfl
theorem wf_count {Z : State} {a0 : Array Value} (H : OK Z a0) : (Cond.fieldLink "CyclicExecutive" 42 "CyclicExecutive" "count" "I").before a0 Z = true := H.w 32 rfl
theorem wf_hyper {Z : State} {a0 : Array Value} (H : OK Z a0) : (Cond.fieldLink "CyclicExecutive" 45 "CyclicExecutive" "hyper" "I").before a0 Z = true := H.w 34 rfl
theorem wf_present {Z : State} {a0 : Array Value} (H : OK Z a0) : (Cond.fieldLink "CyclicExecutive" 48 "CyclicExecutive" "present" "Z").before a0 Z = true := H.w 36 rfl
theorem wf_frame {Z : State} {a0 : Array Value} (H : OK Z a0) : (Cond.fieldLink "CyclicExecutive" 52 "CyclicExecutive" "frame" "I").before a0 Z = true := H.w 38 rfl
theorem wf_miss {Z : State} {a0 : Array Value} (H : OK Z a0) : (Cond.fieldLink "CyclicExecutive" 55 "CyclicExecutive" "miss" "I").before a0 Z = true := H.w 40 rfl
theorem wf_now {Z : State} {a0 : Array Value} (H : OK Z a0) : (Cond.fieldLink "CyclicExecutive" 58 "CyclicExecutive" "now" "I").before a0 Z = true := H.w 42 rfl
theorem wf_pos {Z : State} {a0 : Array Value} (H : OK Z a0) : (Cond.fieldLink "CyclicExecutive" 61 "CyclicExecutive" "pos" "I").before a0 Z = true := H.w 44 rfl
theorem wy_per {Z : State} {a0 : Array Value} (H : OK Z a0) : (Cond.laysFinal "CyclicExecutive" "CyclicExecutive" "per" "[I").before a0 Z = true := H.w 11 rfl
theorem wy_exe {Z : State} {a0 : Array Value} (H : OK Z a0) : (Cond.laysFinal "CyclicExecutive" "CyclicExecutive" "exe" "[I").before a0 Z = true := H.w 13 rfl
theorem wy_dl {Z : State} {a0 : Array Value} (H : OK Z a0) : (Cond.laysFinal "CyclicExecutive" "CyclicExecutive" "dl" "[I").before a0 Z = true := H.w 15 rfl
theorem wy_runCnt {Z : State} {a0 : Array Value} (H : OK Z a0) : (Cond.laysFinal "CyclicExecutive" "CyclicExecutive" "runCnt" "[I").before a0 Z = true := H.w 17 rfl
theorem wy_tickTask {Z : State} {a0 : Array Value} (H : OK Z a0) : (Cond.laysFinal "CyclicExecutive" "CyclicExecutive" "tickTask" "[I").before a0 Z = true := H.w 19 rfl
theorem wy_tickJob {Z : State} {a0 : Array Value} (H : OK Z a0) : (Cond.laysFinal "CyclicExecutive" "CyclicExecutive" "tickJob" "[I").before a0 Z = true := H.w 21 rfl
theorem wy_rem {Z : State} {a0 : Array Value} (H : OK Z a0) : (Cond.laysFinal "CyclicExecutive" "CyclicExecutive" "rem" "[I").before a0 Z = true := H.w 23 rfl
theorem wy_maxTasks {Z : State} {a0 : Array Value} (H : OK Z a0) : (Cond.lays "CyclicExecutive" "CyclicExecutive" "maxTasks" "I").before a0 Z = true := H.w 29 rfl
theorem wy_maxHyper {Z : State} {a0 : Array Value} (H : OK Z a0) : (Cond.lays "CyclicExecutive" "CyclicExecutive" "maxHyper" "I").before a0 Z = true := H.w 31 rfl
theorem wy_count {Z : State} {a0 : Array Value} (H : OK Z a0) : (Cond.lays "CyclicExecutive" "CyclicExecutive" "count" "I").before a0 Z = true := H.w 33 rfl
theorem wy_hyper {Z : State} {a0 : Array Value} (H : OK Z a0) : (Cond.lays "CyclicExecutive" "CyclicExecutive" "hyper" "I").before a0 Z = true := H.w 35 rfl
theorem wy_present {Z : State} {a0 : Array Value} (H : OK Z a0) : (Cond.lays "CyclicExecutive" "CyclicExecutive" "present" "Z").before a0 Z = true := H.w 37 rfl
theorem wy_frame {Z : State} {a0 : Array Value} (H : OK Z a0) : (Cond.lays "CyclicExecutive" "CyclicExecutive" "frame" "I").before a0 Z = true := H.w 39 rfl
theorem wy_miss {Z : State} {a0 : Array Value} (H : OK Z a0) : (Cond.lays "CyclicExecutive" "CyclicExecutive" "miss" "I").before a0 Z = true := H.w 41 rfl
theorem wy_now {Z : State} {a0 : Array Value} (H : OK Z a0) : (Cond.lays "CyclicExecutive" "CyclicExecutive" "now" "I").before a0 Z = true := H.w 43 rfl
theorem wy_pos {Z : State} {a0 : Array Value} (H : OK Z a0) : (Cond.lays "CyclicExecutive" "CyclicExecutive" "pos" "I").before a0 Z = true := H.w 45 rfl
theorem wa_int {Z : State} {a0 : Array Value} (H : OK Z a0) : (Cond.arrayClass (newarray.typeOf .int)).before a0 Z = true := H.w 9 rfl
theorem wz_C {Z : State} {a0 : Array Value} (H : OK Z a0) : (Cond.initialized "CyclicExecutive").before a0 Z = true := H.w 2 rfl
theorem coC {Z : State} {a0 : Array Value} (H : OK Z a0) : CO Z a0 cdC := by
  refine ⟨⟨16, H.w 1 rfl⟩, ?_, ?_, ?_, okcC⟩
  · intro t m; simp only [cdC, List.mem_cons, List.not_mem_nil, or_false] at m
    rcases m with rfl | rfl | rfl | rfl | rfl | rfl | rfl | rfl | rfl
    · exact Or.inl (wy_maxTasks H)
    · exact Or.inl (wy_maxHyper H)
    · exact Or.inl (wy_count H)
    · exact Or.inl (wy_hyper H)
    · exact Or.inl (wy_present H)
    · exact Or.inl (wy_frame H)
    · exact Or.inl (wy_miss H)
    · exact Or.inl (wy_now H)
    · exact Or.inl (wy_pos H)
  · intro t m; cases m
  · intro t m; simp only [cdC, List.mem_cons, List.not_mem_nil, or_false] at m
    rcases m with rfl | rfl | rfl | rfl | rfl | rfl | rfl
    · exact Or.inr (wy_per H)
    · exact Or.inr (wy_exe H)
    · exact Or.inr (wy_dl H)
    · exact Or.inr (wy_runCnt H)
    · exact Or.inr (wy_tickTask H)
    · exact Or.inr (wy_tickJob H)
    · exact Or.inr (wy_rem H)
theorem mrC {Z : State} (en : Nat × Nat) (h : Heap) : (MoC Z cdC).frm en h h := frmC.refl _ _ _
theorem mtC {Z : State} (en : Nat × Nat) (h1 h2 h3 : Heap) (a : (MoC Z cdC).frm en h1 h2) (b : (MoC Z cdC).frm en h2 h3) : (MoC Z cdC).frm en h1 h3 := frmC.trans a b
theorem mrL {Z : State} (en : Nat × Nat) (h : Heap) : (MoL Z cdC "CyclicExecutiveL6" true).frm en h h := trivial
theorem mtL {Z : State} (en : Nat × Nat) (h1 h2 h3 : Heap) (a : (MoL Z cdC "CyclicExecutiveL6" true).frm en h1 h2) (b : (MoL Z cdC "CyclicExecutiveL6" true).frm en h2 h3) : (MoL Z cdC "CyclicExecutiveL6" true).frm en h1 h3 := trivial
theorem pn_CyclicExecutive : plainName "CyclicExecutive" = true := by first | (simp [plainName, overriddenIn]; done) | decide +kernel
theorem pn_CyclicExecutiveL6 : plainName "CyclicExecutiveL6" = true := by first | (simp [plainName, overriddenIn]; done) | decide +kernel
theorem pd___I : ∀ sig, parseMethodDescriptor "()I" = some sig → 0 = sig.parameters.length := fun sig h => by
  have q : parseMethodDescriptor "()I" = some ⟨[], some .int⟩ := by decide +kernel
  cases q.symm.trans h; rfl
theorem pd___V : ∀ sig, parseMethodDescriptor "()V" = some sig → 0 = sig.parameters.length := fun sig h => by
  have q : parseMethodDescriptor "()V" = some ⟨[], none⟩ := by decide +kernel
  cases q.symm.trans h; rfl
theorem pd__I_I : ∀ sig, parseMethodDescriptor "(I)I" = some sig → 1 = sig.parameters.length := fun sig h => by
  have q : parseMethodDescriptor "(I)I" = some ⟨[.int], some .int⟩ := by decide +kernel
  cases q.symm.trans h; rfl
theorem pd__I_Z : ∀ sig, parseMethodDescriptor "(I)Z" = some sig → 1 = sig.parameters.length := fun sig h => by
  have q : parseMethodDescriptor "(I)Z" = some ⟨[.int], some .boolean⟩ := by decide +kernel
  cases q.symm.trans h; rfl
theorem pd__II_I : ∀ sig, parseMethodDescriptor "(II)I" = some sig → 2 = sig.parameters.length := fun sig h => by
  have q : parseMethodDescriptor "(II)I" = some ⟨[.int, .int], some .int⟩ := by decide +kernel
  cases q.symm.trans h; rfl
theorem pd__II_V : ∀ sig, parseMethodDescriptor "(II)V" = some sig → 2 = sig.parameters.length := fun sig h => by
  have q : parseMethodDescriptor "(II)V" = some ⟨[.int, .int], none⟩ := by decide +kernel
  cases q.symm.trans h; rfl
theorem pd__III_I : ∀ sig, parseMethodDescriptor "(III)I" = some sig → 3 = sig.parameters.length := fun sig h => by
  have q : parseMethodDescriptor "(III)I" = some ⟨[.int, .int, .int], some .int⟩ := by decide +kernel
  cases q.symm.trans h; rfl
theorem pd__IIJJ_Z : ∀ sig, parseMethodDescriptor "(IIJJ)Z" = some sig → 4 = sig.parameters.length := fun sig h => by
  have q : parseMethodDescriptor "(IIJJ)Z" = some ⟨[.int, .int, .long, .long], some .boolean⟩ := by decide +kernel
  cases q.symm.trans h; rfl
theorem pd__JI_I : ∀ sig, parseMethodDescriptor "(JI)I" = some sig → 2 = sig.parameters.length := fun sig h => by
  have q : parseMethodDescriptor "(JI)I" = some ⟨[.long, .int], some .int⟩ := by decide +kernel
  cases q.symm.trans h; rfl
theorem pd__LCyclicExecutive_IIIIJJ_Z : ∀ sig, parseMethodDescriptor "(LCyclicExecutive;IIIIJJ)Z" = some sig → 7 = sig.parameters.length := fun sig h => by
  have q : parseMethodDescriptor "(LCyclicExecutive;IIIIJJ)Z" = some ⟨[(.object "CyclicExecutive"), .int, .int, .int, .int, .long, .long], some .boolean⟩ := by decide +kernel
  cases q.symm.trans h; rfl
theorem pd___I_Z : ∀ sig, parseMethodDescriptor "([I)Z" = some sig → 1 = sig.parameters.length := fun sig h => by
  have q : parseMethodDescriptor "([I)Z" = some ⟨[(.array .int)], some .boolean⟩ := by decide +kernel
  cases q.symm.trans h; rfl
abbrev md_init : MD := (⟨"CyclicExecutive", "<init>", "(II)V"⟩, prog_1_method_1_code, 3, none, { frames := 1, cells := 7, slots := 1312, locals := 16 }, 7)
theorem cv_init {Z : State} {a0 : Array Value} (H : OK Z a0) : CalI Z a0 md_init 2 := ⟨pn_CyclicExecutive, by decide, pd__II_V, H.w 4 rfl, H.w 5 rfl, H.w 2 rfl, rfl, rfl⟩
theorem o_init_0 : InsA md_init 0 (.aload_n 0) 1 1 := ⟨by decide +kernel, rfl⟩
theorem o_init_1 : InsA md_init 1 (.invokespecial 1) 3 4 := ⟨by decide +kernel, rfl⟩
theorem o_init_4 : InsA md_init 4 (.aload_n 0) 1 5 := ⟨by decide +kernel, rfl⟩
theorem o_init_5 : InsA md_init 5 (.bipush 8) 2 7 := ⟨by decide +kernel, rfl⟩
theorem o_init_7 : InsA md_init 7 (.newarray .int) 2 9 := ⟨by decide +kernel, rfl⟩
theorem o_init_9 : InsA md_init 9 (.putfield 7) 3 12 := ⟨by decide +kernel, rfl⟩
theorem o_init_12 : InsA md_init 12 (.aload_n 0) 1 13 := ⟨by decide +kernel, rfl⟩
theorem o_init_13 : InsA md_init 13 (.bipush 8) 2 15 := ⟨by decide +kernel, rfl⟩
theorem o_init_15 : InsA md_init 15 (.newarray .int) 2 17 := ⟨by decide +kernel, rfl⟩
theorem o_init_17 : InsA md_init 17 (.putfield 13) 3 20 := ⟨by decide +kernel, rfl⟩
theorem o_init_20 : InsA md_init 20 (.aload_n 0) 1 21 := ⟨by decide +kernel, rfl⟩
theorem o_init_21 : InsA md_init 21 (.bipush 8) 2 23 := ⟨by decide +kernel, rfl⟩
theorem o_init_23 : InsA md_init 23 (.newarray .int) 2 25 := ⟨by decide +kernel, rfl⟩
theorem o_init_25 : InsA md_init 25 (.putfield 16) 3 28 := ⟨by decide +kernel, rfl⟩
theorem o_init_28 : InsA md_init 28 (.aload_n 0) 1 29 := ⟨by decide +kernel, rfl⟩
theorem o_init_29 : InsA md_init 29 (.bipush 8) 2 31 := ⟨by decide +kernel, rfl⟩
theorem o_init_31 : InsA md_init 31 (.newarray .int) 2 33 := ⟨by decide +kernel, rfl⟩
theorem o_init_33 : InsA md_init 33 (.putfield 19) 3 36 := ⟨by decide +kernel, rfl⟩
theorem o_init_36 : InsA md_init 36 (.aload_n 0) 1 37 := ⟨by decide +kernel, rfl⟩
theorem o_init_37 : InsA md_init 37 (.sipush 128) 3 40 := ⟨by decide +kernel, rfl⟩
theorem o_init_40 : InsA md_init 40 (.newarray .int) 2 42 := ⟨by decide +kernel, rfl⟩
theorem o_init_42 : InsA md_init 42 (.putfield 22) 3 45 := ⟨by decide +kernel, rfl⟩
theorem o_init_45 : InsA md_init 45 (.aload_n 0) 1 46 := ⟨by decide +kernel, rfl⟩
theorem o_init_46 : InsA md_init 46 (.sipush 128) 3 49 := ⟨by decide +kernel, rfl⟩
theorem o_init_49 : InsA md_init 49 (.newarray .int) 2 51 := ⟨by decide +kernel, rfl⟩
theorem o_init_51 : InsA md_init 51 (.putfield 25) 3 54 := ⟨by decide +kernel, rfl⟩
theorem o_init_54 : InsA md_init 54 (.aload_n 0) 1 55 := ⟨by decide +kernel, rfl⟩
theorem o_init_55 : InsA md_init 55 (.sipush 1024) 3 58 := ⟨by decide +kernel, rfl⟩
theorem o_init_58 : InsA md_init 58 (.newarray .int) 2 60 := ⟨by decide +kernel, rfl⟩
theorem o_init_60 : InsA md_init 60 (.putfield 28) 3 63 := ⟨by decide +kernel, rfl⟩
theorem o_init_63 : InsA md_init 63 (.aload_n 0) 1 64 := ⟨by decide +kernel, rfl⟩
theorem o_init_64 : InsA md_init 64 (.aload_n 0) 1 65 := ⟨by decide +kernel, rfl⟩
theorem o_init_65 : InsA md_init 65 (.iload_n 1) 1 66 := ⟨by decide +kernel, rfl⟩
theorem o_init_66 : InsA md_init 66 (.iconst 1) 1 67 := ⟨by decide +kernel, rfl⟩
theorem o_init_67 : InsA md_init 67 (.bipush 8) 2 69 := ⟨by decide +kernel, rfl⟩
theorem o_init_69 : InsA md_init 69 (.invokevirtual 31) 3 72 := ⟨by decide +kernel, rfl⟩
theorem o_init_72 : InsA md_init 72 (.putfield 35) 3 75 := ⟨by decide +kernel, rfl⟩
theorem o_init_75 : InsA md_init 75 (.aload_n 0) 1 76 := ⟨by decide +kernel, rfl⟩
theorem o_init_76 : InsA md_init 76 (.aload_n 0) 1 77 := ⟨by decide +kernel, rfl⟩
theorem o_init_77 : InsA md_init 77 (.iload_n 2) 1 78 := ⟨by decide +kernel, rfl⟩
theorem o_init_78 : InsA md_init 78 (.iconst 1) 1 79 := ⟨by decide +kernel, rfl⟩
theorem o_init_79 : InsA md_init 79 (.sipush 128) 3 82 := ⟨by decide +kernel, rfl⟩
theorem o_init_82 : InsA md_init 82 (.invokevirtual 31) 3 85 := ⟨by decide +kernel, rfl⟩
theorem o_init_85 : InsA md_init 85 (.putfield 39) 3 88 := ⟨by decide +kernel, rfl⟩
theorem o_init_88 : InsA md_init 88 (.aload_n 0) 1 89 := ⟨by decide +kernel, rfl⟩
theorem o_init_89 : InsA md_init 89 (.iconst 0) 1 90 := ⟨by decide +kernel, rfl⟩
theorem o_init_90 : InsA md_init 90 (.putfield 42) 3 93 := ⟨by decide +kernel, rfl⟩
theorem o_init_93 : InsA md_init 93 (.aload_n 0) 1 94 := ⟨by decide +kernel, rfl⟩
theorem o_init_94 : InsA md_init 94 (.iconst 0) 1 95 := ⟨by decide +kernel, rfl⟩
theorem o_init_95 : InsA md_init 95 (.putfield 45) 3 98 := ⟨by decide +kernel, rfl⟩
theorem o_init_98 : InsA md_init 98 (.aload_n 0) 1 99 := ⟨by decide +kernel, rfl⟩
theorem o_init_99 : InsA md_init 99 (.iconst 0) 1 100 := ⟨by decide +kernel, rfl⟩
theorem o_init_100 : InsA md_init 100 (.putfield 48) 3 103 := ⟨by decide +kernel, rfl⟩
theorem o_init_103 : InsA md_init 103 (.aload_n 0) 1 104 := ⟨by decide +kernel, rfl⟩
theorem o_init_104 : InsA md_init 104 (.iconst 0) 1 105 := ⟨by decide +kernel, rfl⟩
theorem o_init_105 : InsA md_init 105 (.putfield 52) 3 108 := ⟨by decide +kernel, rfl⟩
theorem o_init_108 : InsA md_init 108 (.aload_n 0) 1 109 := ⟨by decide +kernel, rfl⟩
theorem o_init_109 : InsA md_init 109 (.iconst (-1)) 1 110 := ⟨by decide +kernel, rfl⟩
theorem o_init_110 : InsA md_init 110 (.putfield 55) 3 113 := ⟨by decide +kernel, rfl⟩
theorem o_init_113 : InsA md_init 113 (.aload_n 0) 1 114 := ⟨by decide +kernel, rfl⟩
theorem o_init_114 : InsA md_init 114 (.iconst 0) 1 115 := ⟨by decide +kernel, rfl⟩
theorem o_init_115 : InsA md_init 115 (.putfield 58) 3 118 := ⟨by decide +kernel, rfl⟩
theorem o_init_118 : InsA md_init 118 (.aload_n 0) 1 119 := ⟨by decide +kernel, rfl⟩
theorem o_init_119 : InsA md_init 119 (.iconst 0) 1 120 := ⟨by decide +kernel, rfl⟩
theorem o_init_120 : InsA md_init 120 (.putfield 61) 3 123 := ⟨by decide +kernel, rfl⟩
theorem o_init_123 : InsA md_init 123 (.return_) 1 124 := ⟨by decide +kernel, rfl⟩
abbrev md_clamp : MD := (⟨"CyclicExecutive", "clamp", "(III)I"⟩, prog_1_method_2_code, 4, some .int, { frames := 0, cells := 0, slots := 0, locals := 0 }, 0)
theorem cv_clamp {Z : State} {a0 : Array Value} (H : OK Z a0) : CalV Z a0 md_clamp 3 := ⟨pn_CyclicExecutive, by decide, pd__III_I, H.w 25 rfl, H.w 27 rfl, H.w 2 rfl, Or.inr ⟨H.w 26 rfl, 16, H.w 1 rfl⟩⟩
theorem o_clamp_0 : InsA md_clamp 0 (.iload_n 1) 1 1 := ⟨by decide +kernel, rfl⟩
theorem o_clamp_1 : InsA md_clamp 1 (.iload_n 2) 1 2 := ⟨by decide +kernel, rfl⟩
theorem o_clamp_2 : InsB md_clamp 2 (.if_icmp .ge 5) 3 5 (5) 7 := ⟨by decide +kernel, rfl, by decide, by decide⟩
theorem o_clamp_5 : InsA md_clamp 5 (.iload_n 2) 1 6 := ⟨by decide +kernel, rfl⟩
theorem o_clamp_6 : InsA md_clamp 6 (.ireturn) 1 7 := ⟨by decide +kernel, rfl⟩
theorem o_clamp_7 : InsA md_clamp 7 (.iload_n 1) 1 8 := ⟨by decide +kernel, rfl⟩
theorem o_clamp_8 : InsA md_clamp 8 (.iload_n 3) 1 9 := ⟨by decide +kernel, rfl⟩
theorem o_clamp_9 : InsB md_clamp 9 (.if_icmp .le 5) 3 12 (5) 14 := ⟨by decide +kernel, rfl, by decide, by decide⟩
theorem o_clamp_12 : InsA md_clamp 12 (.iload_n 3) 1 13 := ⟨by decide +kernel, rfl⟩
theorem o_clamp_13 : InsA md_clamp 13 (.ireturn) 1 14 := ⟨by decide +kernel, rfl⟩
theorem o_clamp_14 : InsA md_clamp 14 (.iload_n 1) 1 15 := ⟨by decide +kernel, rfl⟩
theorem o_clamp_15 : InsA md_clamp 15 (.ireturn) 1 16 := ⟨by decide +kernel, rfl⟩
abbrev md_run : MD := (⟨"CyclicExecutive", "run", "(I)I"⟩, prog_1_method_26_code, 5, some .int, { frames := 0, cells := 0, slots := 0, locals := 0 }, 0)
theorem cv_run {Z : State} {a0 : Array Value} (H : OK Z a0) : CalV Z a0 md_run 1 := ⟨pn_CyclicExecutive, by decide, pd__I_I, H.w 48 rfl, H.w 50 rfl, H.w 2 rfl, Or.inl ⟨H.w 47 rfl, H.w 49 rfl⟩⟩
theorem o_run_0 : InsA md_run 0 (.aload_n 0) 1 1 := ⟨by decide +kernel, rfl⟩
theorem o_run_1 : InsA md_run 1 (.getfield 48) 3 4 := ⟨by decide +kernel, rfl⟩
theorem o_run_4 : InsB md_run 4 (.ifCond .eq 16) 3 7 (16) 20 := ⟨by decide +kernel, rfl, by decide, by decide⟩
theorem o_run_7 : InsA md_run 7 (.iload_n 1) 1 8 := ⟨by decide +kernel, rfl⟩
theorem o_run_8 : InsA md_run 8 (.iconst 1) 1 9 := ⟨by decide +kernel, rfl⟩
theorem o_run_9 : InsB md_run 9 (.if_icmp .lt 11) 3 12 (11) 20 := ⟨by decide +kernel, rfl, by decide, by decide⟩
theorem o_run_12 : InsA md_run 12 (.aload_n 0) 1 13 := ⟨by decide +kernel, rfl⟩
theorem o_run_13 : InsA md_run 13 (.getfield 45) 3 16 := ⟨by decide +kernel, rfl⟩
theorem o_run_16 : InsA md_run 16 (.iconst 1) 1 17 := ⟨by decide +kernel, rfl⟩
theorem o_run_17 : InsB md_run 17 (.if_icmp .ge 5) 3 20 (5) 22 := ⟨by decide +kernel, rfl, by decide, by decide⟩
theorem o_run_20 : InsA md_run 20 (.iconst 0) 1 21 := ⟨by decide +kernel, rfl⟩
theorem o_run_21 : InsA md_run 21 (.ireturn) 1 22 := ⟨by decide +kernel, rfl⟩
theorem o_run_22 : InsA md_run 22 (.iload_n 1) 1 23 := ⟨by decide +kernel, rfl⟩
theorem o_run_23 : InsA md_run 23 (.sipush 4096) 3 26 := ⟨by decide +kernel, rfl⟩
theorem o_run_26 : InsB md_run 26 (.if_icmp .ge 7) 3 29 (7) 33 := ⟨by decide +kernel, rfl, by decide, by decide⟩
theorem o_run_29 : InsA md_run 29 (.iload_n 1) 1 30 := ⟨by decide +kernel, rfl⟩
theorem o_run_30 : InsB md_run 30 (.goto 6) 3 33 (6) 36 := ⟨by decide +kernel, rfl, by decide, by decide⟩
theorem o_run_33 : InsA md_run 33 (.sipush 4096) 3 36 := ⟨by decide +kernel, rfl⟩
theorem o_run_36 : InsA md_run 36 (.istore_n 2) 1 37 := ⟨by decide +kernel, rfl⟩
theorem o_run_37 : InsA md_run 37 (.iconst 0) 1 38 := ⟨by decide +kernel, rfl⟩
theorem o_run_38 : InsA md_run 38 (.istore_n 3) 1 39 := ⟨by decide +kernel, rfl⟩
theorem o_run_39 : InsA md_run 39 (.iload_n 3) 1 40 := ⟨by decide +kernel, rfl⟩
theorem o_run_40 : InsA md_run 40 (.iload_n 2) 1 41 := ⟨by decide +kernel, rfl⟩
theorem o_run_41 : InsB md_run 41 (.if_icmp .ge 112) 3 44 (112) 153 := ⟨by decide +kernel, rfl, by decide, by decide⟩
theorem o_run_44 : InsA md_run 44 (.aload_n 0) 1 45 := ⟨by decide +kernel, rfl⟩
theorem o_run_45 : InsA md_run 45 (.getfield 61) 3 48 := ⟨by decide +kernel, rfl⟩
theorem o_run_48 : InsB md_run 48 (.ifCond .lt 24) 3 51 (24) 72 := ⟨by decide +kernel, rfl, by decide, by decide⟩
theorem o_run_51 : InsA md_run 51 (.aload_n 0) 1 52 := ⟨by decide +kernel, rfl⟩
theorem o_run_52 : InsA md_run 52 (.getfield 61) 3 55 := ⟨by decide +kernel, rfl⟩
theorem o_run_55 : InsA md_run 55 (.aload_n 0) 1 56 := ⟨by decide +kernel, rfl⟩
theorem o_run_56 : InsA md_run 56 (.getfield 45) 3 59 := ⟨by decide +kernel, rfl⟩
theorem o_run_59 : InsB md_run 59 (.if_icmp .ge 13) 3 62 (13) 72 := ⟨by decide +kernel, rfl, by decide, by decide⟩
theorem o_run_62 : InsA md_run 62 (.aload_n 0) 1 63 := ⟨by decide +kernel, rfl⟩
theorem o_run_63 : InsA md_run 63 (.getfield 61) 3 66 := ⟨by decide +kernel, rfl⟩
theorem o_run_66 : InsA md_run 66 (.sipush 128) 3 69 := ⟨by decide +kernel, rfl⟩
theorem o_run_69 : InsB md_run 69 (.if_icmp .lt 8) 3 72 (8) 77 := ⟨by decide +kernel, rfl, by decide, by decide⟩
theorem o_run_72 : InsA md_run 72 (.aload_n 0) 1 73 := ⟨by decide +kernel, rfl⟩
theorem o_run_73 : InsA md_run 73 (.iconst 0) 1 74 := ⟨by decide +kernel, rfl⟩
theorem o_run_74 : InsA md_run 74 (.putfield 61) 3 77 := ⟨by decide +kernel, rfl⟩
theorem o_run_77 : InsA md_run 77 (.aload_n 0) 1 78 := ⟨by decide +kernel, rfl⟩
theorem o_run_78 : InsA md_run 78 (.getfield 22) 3 81 := ⟨by decide +kernel, rfl⟩
theorem o_run_81 : InsA md_run 81 (.aload_n 0) 1 82 := ⟨by decide +kernel, rfl⟩
theorem o_run_82 : InsA md_run 82 (.getfield 61) 3 85 := ⟨by decide +kernel, rfl⟩
theorem o_run_85 : InsA md_run 85 (.iaload) 1 86 := ⟨by decide +kernel, rfl⟩
theorem o_run_86 : InsA md_run 86 (.istore 4) 2 88 := ⟨by decide +kernel, rfl⟩
theorem o_run_88 : InsA md_run 88 (.iload 4) 2 90 := ⟨by decide +kernel, rfl⟩
theorem o_run_90 : InsB md_run 90 (.ifCond .lt 21) 3 93 (21) 111 := ⟨by decide +kernel, rfl, by decide, by decide⟩
theorem o_run_93 : InsA md_run 93 (.iload 4) 2 95 := ⟨by decide +kernel, rfl⟩
theorem o_run_95 : InsA md_run 95 (.bipush 8) 2 97 := ⟨by decide +kernel, rfl⟩
theorem o_run_97 : InsB md_run 97 (.if_icmp .ge 14) 3 100 (14) 111 := ⟨by decide +kernel, rfl, by decide, by decide⟩
theorem o_run_100 : InsA md_run 100 (.aload_n 0) 1 101 := ⟨by decide +kernel, rfl⟩
theorem o_run_101 : InsA md_run 101 (.getfield 19) 3 104 := ⟨by decide +kernel, rfl⟩
theorem o_run_104 : InsA md_run 104 (.iload 4) 2 106 := ⟨by decide +kernel, rfl⟩
theorem o_run_106 : InsA md_run 106 (.dup2) 1 107 := ⟨by decide +kernel, rfl⟩
theorem o_run_107 : InsA md_run 107 (.iaload) 1 108 := ⟨by decide +kernel, rfl⟩
theorem o_run_108 : InsA md_run 108 (.iconst 1) 1 109 := ⟨by decide +kernel, rfl⟩
theorem o_run_109 : InsA md_run 109 (.iadd) 1 110 := ⟨by decide +kernel, rfl⟩
theorem o_run_110 : InsA md_run 110 (.iastore) 1 111 := ⟨by decide +kernel, rfl⟩
theorem o_run_111 : InsA md_run 111 (.aload_n 0) 1 112 := ⟨by decide +kernel, rfl⟩
theorem o_run_112 : InsA md_run 112 (.dup) 1 113 := ⟨by decide +kernel, rfl⟩
theorem o_run_113 : InsA md_run 113 (.getfield 58) 3 116 := ⟨by decide +kernel, rfl⟩
theorem o_run_116 : InsA md_run 116 (.iconst 1) 1 117 := ⟨by decide +kernel, rfl⟩
theorem o_run_117 : InsA md_run 117 (.iadd) 1 118 := ⟨by decide +kernel, rfl⟩
theorem o_run_118 : InsA md_run 118 (.putfield 58) 3 121 := ⟨by decide +kernel, rfl⟩
theorem o_run_121 : InsA md_run 121 (.aload_n 0) 1 122 := ⟨by decide +kernel, rfl⟩
theorem o_run_122 : InsA md_run 122 (.dup) 1 123 := ⟨by decide +kernel, rfl⟩
theorem o_run_123 : InsA md_run 123 (.getfield 61) 3 126 := ⟨by decide +kernel, rfl⟩
theorem o_run_126 : InsA md_run 126 (.iconst 1) 1 127 := ⟨by decide +kernel, rfl⟩
theorem o_run_127 : InsA md_run 127 (.iadd) 1 128 := ⟨by decide +kernel, rfl⟩
theorem o_run_128 : InsA md_run 128 (.putfield 61) 3 131 := ⟨by decide +kernel, rfl⟩
theorem o_run_131 : InsA md_run 131 (.aload_n 0) 1 132 := ⟨by decide +kernel, rfl⟩
theorem o_run_132 : InsA md_run 132 (.getfield 61) 3 135 := ⟨by decide +kernel, rfl⟩
theorem o_run_135 : InsA md_run 135 (.aload_n 0) 1 136 := ⟨by decide +kernel, rfl⟩
theorem o_run_136 : InsA md_run 136 (.getfield 45) 3 139 := ⟨by decide +kernel, rfl⟩
theorem o_run_139 : InsB md_run 139 (.if_icmp .lt 8) 3 142 (8) 147 := ⟨by decide +kernel, rfl, by decide, by decide⟩
theorem o_run_142 : InsA md_run 142 (.aload_n 0) 1 143 := ⟨by decide +kernel, rfl⟩
theorem o_run_143 : InsA md_run 143 (.iconst 0) 1 144 := ⟨by decide +kernel, rfl⟩
theorem o_run_144 : InsA md_run 144 (.putfield 61) 3 147 := ⟨by decide +kernel, rfl⟩
theorem o_run_147 : InsA md_run 147 (.iinc 3 1) 3 150 := ⟨by decide +kernel, rfl⟩
theorem o_run_150 : InsB md_run 150 (.goto (-111)) 3 153 (-111) 39 := ⟨by decide +kernel, rfl, by decide, by decide⟩
theorem o_run_153 : InsA md_run 153 (.iload_n 2) 1 154 := ⟨by decide +kernel, rfl⟩
theorem o_run_154 : InsA md_run 154 (.ireturn) 1 155 := ⟨by decide +kernel, rfl⟩
abbrev md_getTaskCount : MD := (⟨"CyclicExecutive", "getTaskCount", "()I"⟩, prog_1_method_7_code, 1, some .int, { frames := 0, cells := 0, slots := 0, locals := 0 }, 0)
theorem cv_getTaskCount {Z : State} {a0 : Array Value} (H : OK Z a0) : CalV Z a0 md_getTaskCount 0 := ⟨pn_CyclicExecutive, by decide, pd___I, H.w 53 rfl, H.w 55 rfl, H.w 2 rfl, Or.inl ⟨H.w 52 rfl, H.w 54 rfl⟩⟩
theorem o_getTaskCount_0 : InsA md_getTaskCount 0 (.aload_n 0) 1 1 := ⟨by decide +kernel, rfl⟩
theorem o_getTaskCount_1 : InsA md_getTaskCount 1 (.getfield 42) 3 4 := ⟨by decide +kernel, rfl⟩
theorem o_getTaskCount_4 : InsA md_getTaskCount 4 (.ireturn) 1 5 := ⟨by decide +kernel, rfl⟩
abbrev md_getHyperperiod : MD := (⟨"CyclicExecutive", "getHyperperiod", "()I"⟩, prog_1_method_8_code, 1, some .int, { frames := 0, cells := 0, slots := 0, locals := 0 }, 0)
theorem cv_getHyperperiod {Z : State} {a0 : Array Value} (H : OK Z a0) : CalV Z a0 md_getHyperperiod 0 := ⟨pn_CyclicExecutive, by decide, pd___I, H.w 58 rfl, H.w 60 rfl, H.w 2 rfl, Or.inl ⟨H.w 57 rfl, H.w 59 rfl⟩⟩
theorem o_getHyperperiod_0 : InsA md_getHyperperiod 0 (.aload_n 0) 1 1 := ⟨by decide +kernel, rfl⟩
theorem o_getHyperperiod_1 : InsA md_getHyperperiod 1 (.getfield 42) 3 4 := ⟨by decide +kernel, rfl⟩
theorem o_getHyperperiod_4 : InsB md_getHyperperiod 4 (.ifCond .ne 7) 3 7 (7) 11 := ⟨by decide +kernel, rfl, by decide, by decide⟩
theorem o_getHyperperiod_7 : InsA md_getHyperperiod 7 (.iconst 0) 1 8 := ⟨by decide +kernel, rfl⟩
theorem o_getHyperperiod_8 : InsB md_getHyperperiod 8 (.goto 7) 3 11 (7) 15 := ⟨by decide +kernel, rfl, by decide, by decide⟩
theorem o_getHyperperiod_11 : InsA md_getHyperperiod 11 (.aload_n 0) 1 12 := ⟨by decide +kernel, rfl⟩
theorem o_getHyperperiod_12 : InsA md_getHyperperiod 12 (.getfield 45) 3 15 := ⟨by decide +kernel, rfl⟩
theorem o_getHyperperiod_15 : InsA md_getHyperperiod 15 (.ireturn) 1 16 := ⟨by decide +kernel, rfl⟩
abbrev md_getFrame : MD := (⟨"CyclicExecutive", "getFrame", "()I"⟩, prog_1_method_20_code, 1, some .int, { frames := 0, cells := 0, slots := 0, locals := 0 }, 0)
theorem cv_getFrame {Z : State} {a0 : Array Value} (H : OK Z a0) : CalV Z a0 md_getFrame 0 := ⟨pn_CyclicExecutive, by decide, pd___I, H.w 63 rfl, H.w 65 rfl, H.w 2 rfl, Or.inl ⟨H.w 62 rfl, H.w 64 rfl⟩⟩
theorem o_getFrame_0 : InsA md_getFrame 0 (.aload_n 0) 1 1 := ⟨by decide +kernel, rfl⟩
theorem o_getFrame_1 : InsA md_getFrame 1 (.getfield 48) 3 4 := ⟨by decide +kernel, rfl⟩
theorem o_getFrame_4 : InsB md_getFrame 4 (.ifCond .eq 10) 3 7 (10) 14 := ⟨by decide +kernel, rfl, by decide, by decide⟩
theorem o_getFrame_7 : InsA md_getFrame 7 (.aload_n 0) 1 8 := ⟨by decide +kernel, rfl⟩
theorem o_getFrame_8 : InsA md_getFrame 8 (.getfield 52) 3 11 := ⟨by decide +kernel, rfl⟩
theorem o_getFrame_11 : InsB md_getFrame 11 (.goto 4) 3 14 (4) 15 := ⟨by decide +kernel, rfl, by decide, by decide⟩
theorem o_getFrame_14 : InsA md_getFrame 14 (.iconst 0) 1 15 := ⟨by decide +kernel, rfl⟩
theorem o_getFrame_15 : InsA md_getFrame 15 (.ireturn) 1 16 := ⟨by decide +kernel, rfl⟩
abbrev md_getNow : MD := (⟨"CyclicExecutive", "getNow", "()I"⟩, prog_1_method_27_code, 1, some .int, { frames := 0, cells := 0, slots := 0, locals := 0 }, 0)
theorem cv_getNow {Z : State} {a0 : Array Value} (H : OK Z a0) : CalV Z a0 md_getNow 0 := ⟨pn_CyclicExecutive, by decide, pd___I, H.w 68 rfl, H.w 70 rfl, H.w 2 rfl, Or.inl ⟨H.w 67 rfl, H.w 69 rfl⟩⟩
theorem o_getNow_0 : InsA md_getNow 0 (.aload_n 0) 1 1 := ⟨by decide +kernel, rfl⟩
theorem o_getNow_1 : InsA md_getNow 1 (.getfield 58) 3 4 := ⟨by decide +kernel, rfl⟩
theorem o_getNow_4 : InsA md_getNow 4 (.ireturn) 1 5 := ⟨by decide +kernel, rfl⟩
abbrev md_getMiss : MD := (⟨"CyclicExecutive", "getMiss", "()I"⟩, prog_1_method_25_code, 1, some .int, { frames := 0, cells := 0, slots := 0, locals := 0 }, 0)
theorem cv_getMiss {Z : State} {a0 : Array Value} (H : OK Z a0) : CalV Z a0 md_getMiss 0 := ⟨pn_CyclicExecutive, by decide, pd___I, H.w 73 rfl, H.w 75 rfl, H.w 2 rfl, Or.inl ⟨H.w 72 rfl, H.w 74 rfl⟩⟩
theorem o_getMiss_0 : InsA md_getMiss 0 (.aload_n 0) 1 1 := ⟨by decide +kernel, rfl⟩
theorem o_getMiss_1 : InsA md_getMiss 1 (.getfield 55) 3 4 := ⟨by decide +kernel, rfl⟩
theorem o_getMiss_4 : InsA md_getMiss 4 (.ireturn) 1 5 := ⟨by decide +kernel, rfl⟩
abbrev md_L_runsOk : MD := (⟨"CyclicExecutiveL6", "runsOk", "(LCyclicExecutive;IIIIJJ)Z"⟩, method_5_code, 15, some .boolean, { frames := 1, cells := 0, slots := 0, locals := 16 }, 0)
theorem al_L_runsOk (x0 : Nat) (x1 : Int32) (x2 : Int32) (x3 : Int32) (x4 : Int32) (x5 : Int64) (x6 : Int64) : (argsToLocals [.ref x0, .int x1, .int x2, .int x3, .int x4, .long x5, .long x6].toArray (mxOf md_L_runsOk)).toList = [.val (.ref x0), .val (.int x1), .val (.int x2), .val (.int x3), .val (.int x4), .val (.long x5), .second, .val (.long x6), .second, .unset, .unset, .unset, .unset, .unset, .unset] := (Jvm.Sym.argsToLocals_toList _ _).trans rfl
theorem cv_L_runsOk {Z : State} {a0 : Array Value} (H : OK Z a0) : CalS Z a0 md_L_runsOk 7 := ⟨pn_CyclicExecutiveL6, by decide, pd__LCyclicExecutive_IIIIJJ_Z, H.w 77 rfl, H.w 79 rfl, H.w 78 rfl⟩
theorem o_L_runsOk_0 : InsA md_L_runsOk 0 (.iconst 0) 1 1 := ⟨by decide +kernel, rfl⟩
theorem o_L_runsOk_1 : InsA md_L_runsOk 1 (.istore 9) 2 3 := ⟨by decide +kernel, rfl⟩
theorem o_L_runsOk_3 : InsA md_L_runsOk 3 (.iload 9) 2 5 := ⟨by decide +kernel, rfl⟩
theorem o_L_runsOk_5 : InsA md_L_runsOk 5 (.iload_n 1) 1 6 := ⟨by decide +kernel, rfl⟩
theorem o_L_runsOk_6 : InsB md_L_runsOk 6 (.if_icmp .ge 104) 3 9 (104) 110 := ⟨by decide +kernel, rfl, by decide, by decide⟩
theorem o_L_runsOk_9 : InsA md_L_runsOk 9 (.iload 9) 2 11 := ⟨by decide +kernel, rfl⟩
theorem o_L_runsOk_11 : InsA md_L_runsOk 11 (.bipush 8) 2 13 := ⟨by decide +kernel, rfl⟩
theorem o_L_runsOk_13 : InsB md_L_runsOk 13 (.if_icmp .ge 97) 3 16 (97) 110 := ⟨by decide +kernel, rfl, by decide, by decide⟩
theorem o_L_runsOk_16 : InsA md_L_runsOk 16 (.aload_n 0) 1 17 := ⟨by decide +kernel, rfl⟩
theorem o_L_runsOk_17 : InsA md_L_runsOk 17 (.iload 9) 2 19 := ⟨by decide +kernel, rfl⟩
theorem o_L_runsOk_19 : InsA md_L_runsOk 19 (.invokevirtual 19) 3 22 := ⟨by decide +kernel, rfl⟩
theorem o_L_runsOk_22 : InsA md_L_runsOk 22 (.istore 10) 2 24 := ⟨by decide +kernel, rfl⟩
theorem o_L_runsOk_24 : InsA md_L_runsOk 24 (.iload_n 3) 1 25 := ⟨by decide +kernel, rfl⟩
theorem o_L_runsOk_25 : InsB md_L_runsOk 25 (.ifCond .ne 10) 3 28 (10) 35 := ⟨by decide +kernel, rfl, by decide, by decide⟩
theorem o_L_runsOk_28 : InsA md_L_runsOk 28 (.iload 10) 2 30 := ⟨by decide +kernel, rfl⟩
theorem o_L_runsOk_30 : InsB md_L_runsOk 30 (.ifCond .eq 74) 3 33 (74) 104 := ⟨by decide +kernel, rfl, by decide, by decide⟩
theorem o_L_runsOk_33 : InsA md_L_runsOk 33 (.iconst 0) 1 34 := ⟨by decide +kernel, rfl⟩
theorem o_L_runsOk_34 : InsA md_L_runsOk 34 (.ireturn) 1 35 := ⟨by decide +kernel, rfl⟩
theorem o_L_runsOk_35 : InsA md_L_runsOk 35 (.lload 7) 2 37 := ⟨by decide +kernel, rfl⟩
theorem o_L_runsOk_37 : InsA md_L_runsOk 37 (.iload 9) 2 39 := ⟨by decide +kernel, rfl⟩
theorem o_L_runsOk_39 : InsA md_L_runsOk 39 (.invokestatic 9) 3 42 := ⟨by decide +kernel, rfl⟩
theorem o_L_runsOk_42 : InsA md_L_runsOk 42 (.iload_n 2) 1 43 := ⟨by decide +kernel, rfl⟩
theorem o_L_runsOk_43 : InsA md_L_runsOk 43 (.lload 5) 2 45 := ⟨by decide +kernel, rfl⟩
theorem o_L_runsOk_45 : InsA md_L_runsOk 45 (.iload 9) 2 47 := ⟨by decide +kernel, rfl⟩
theorem o_L_runsOk_47 : InsA md_L_runsOk 47 (.invokestatic 9) 3 50 := ⟨by decide +kernel, rfl⟩
theorem o_L_runsOk_50 : InsA md_L_runsOk 50 (.idiv) 1 51 := ⟨by decide +kernel, rfl⟩
theorem o_L_runsOk_51 : InsA md_L_runsOk 51 (.imul) 1 52 := ⟨by decide +kernel, rfl⟩
theorem o_L_runsOk_52 : InsA md_L_runsOk 52 (.istore 11) 2 54 := ⟨by decide +kernel, rfl⟩
theorem o_L_runsOk_54 : InsA md_L_runsOk 54 (.iload 4) 2 56 := ⟨by decide +kernel, rfl⟩
theorem o_L_runsOk_56 : InsA md_L_runsOk 56 (.iload_n 2) 1 57 := ⟨by decide +kernel, rfl⟩
theorem o_L_runsOk_57 : InsA md_L_runsOk 57 (.irem) 1 58 := ⟨by decide +kernel, rfl⟩
theorem o_L_runsOk_58 : InsA md_L_runsOk 58 (.istore 12) 2 60 := ⟨by decide +kernel, rfl⟩
theorem o_L_runsOk_60 : InsA md_L_runsOk 60 (.iload 4) 2 62 := ⟨by decide +kernel, rfl⟩
theorem o_L_runsOk_62 : InsA md_L_runsOk 62 (.iload_n 2) 1 63 := ⟨by decide +kernel, rfl⟩
theorem o_L_runsOk_63 : InsA md_L_runsOk 63 (.idiv) 1 64 := ⟨by decide +kernel, rfl⟩
theorem o_L_runsOk_64 : InsA md_L_runsOk 64 (.iload 11) 2 66 := ⟨by decide +kernel, rfl⟩
theorem o_L_runsOk_66 : InsA md_L_runsOk 66 (.imul) 1 67 := ⟨by decide +kernel, rfl⟩
theorem o_L_runsOk_67 : InsA md_L_runsOk 67 (.istore 13) 2 69 := ⟨by decide +kernel, rfl⟩
theorem o_L_runsOk_69 : InsA md_L_runsOk 69 (.iload 13) 2 71 := ⟨by decide +kernel, rfl⟩
theorem o_L_runsOk_71 : InsA md_L_runsOk 71 (.iload 12) 2 73 := ⟨by decide +kernel, rfl⟩
theorem o_L_runsOk_73 : InsA md_L_runsOk 73 (.iload 11) 2 75 := ⟨by decide +kernel, rfl⟩
theorem o_L_runsOk_75 : InsB md_L_runsOk 75 (.if_icmp .ge 8) 3 78 (8) 83 := ⟨by decide +kernel, rfl, by decide, by decide⟩
theorem o_L_runsOk_78 : InsA md_L_runsOk 78 (.iload 12) 2 80 := ⟨by decide +kernel, rfl⟩
theorem o_L_runsOk_80 : InsB md_L_runsOk 80 (.goto 5) 3 83 (5) 85 := ⟨by decide +kernel, rfl, by decide, by decide⟩
theorem o_L_runsOk_83 : InsA md_L_runsOk 83 (.iload 11) 2 85 := ⟨by decide +kernel, rfl⟩
theorem o_L_runsOk_85 : InsA md_L_runsOk 85 (.iadd) 1 86 := ⟨by decide +kernel, rfl⟩
theorem o_L_runsOk_86 : InsA md_L_runsOk 86 (.istore 14) 2 88 := ⟨by decide +kernel, rfl⟩
theorem o_L_runsOk_88 : InsA md_L_runsOk 88 (.iload 10) 2 90 := ⟨by decide +kernel, rfl⟩
theorem o_L_runsOk_90 : InsA md_L_runsOk 90 (.iload 13) 2 92 := ⟨by decide +kernel, rfl⟩
theorem o_L_runsOk_92 : InsB md_L_runsOk 92 (.if_icmp .lt 10) 3 95 (10) 102 := ⟨by decide +kernel, rfl, by decide, by decide⟩
theorem o_L_runsOk_95 : InsA md_L_runsOk 95 (.iload 10) 2 97 := ⟨by decide +kernel, rfl⟩
theorem o_L_runsOk_97 : InsA md_L_runsOk 97 (.iload 14) 2 99 := ⟨by decide +kernel, rfl⟩
theorem o_L_runsOk_99 : InsB md_L_runsOk 99 (.if_icmp .le 5) 3 102 (5) 104 := ⟨by decide +kernel, rfl, by decide, by decide⟩
theorem o_L_runsOk_102 : InsA md_L_runsOk 102 (.iconst 0) 1 103 := ⟨by decide +kernel, rfl⟩
theorem o_L_runsOk_103 : InsA md_L_runsOk 103 (.ireturn) 1 104 := ⟨by decide +kernel, rfl⟩
theorem o_L_runsOk_104 : InsA md_L_runsOk 104 (.iinc 9 1) 3 107 := ⟨by decide +kernel, rfl⟩
theorem o_L_runsOk_107 : InsB md_L_runsOk 107 (.goto (-104)) 3 110 (-104) 3 := ⟨by decide +kernel, rfl, by decide, by decide⟩
theorem o_L_runsOk_110 : InsA md_L_runsOk 110 (.aload_n 0) 1 111 := ⟨by decide +kernel, rfl⟩
theorem o_L_runsOk_111 : InsA md_L_runsOk 111 (.iload_n 1) 1 112 := ⟨by decide +kernel, rfl⟩
theorem o_L_runsOk_112 : InsA md_L_runsOk 112 (.invokevirtual 19) 3 115 := ⟨by decide +kernel, rfl⟩
theorem o_L_runsOk_115 : InsA md_L_runsOk 115 (.iconst (-1)) 1 116 := ⟨by decide +kernel, rfl⟩
theorem o_L_runsOk_116 : InsB md_L_runsOk 116 (.if_icmp .ne 16) 3 119 (16) 132 := ⟨by decide +kernel, rfl, by decide, by decide⟩
theorem o_L_runsOk_119 : InsA md_L_runsOk 119 (.aload_n 0) 1 120 := ⟨by decide +kernel, rfl⟩
theorem o_L_runsOk_120 : InsA md_L_runsOk 120 (.iconst (-1)) 1 121 := ⟨by decide +kernel, rfl⟩
theorem o_L_runsOk_121 : InsA md_L_runsOk 121 (.invokevirtual 19) 3 124 := ⟨by decide +kernel, rfl⟩
theorem o_L_runsOk_124 : InsA md_L_runsOk 124 (.iconst (-1)) 1 125 := ⟨by decide +kernel, rfl⟩
theorem o_L_runsOk_125 : InsB md_L_runsOk 125 (.if_icmp .ne 7) 3 128 (7) 132 := ⟨by decide +kernel, rfl, by decide, by decide⟩
theorem o_L_runsOk_128 : InsA md_L_runsOk 128 (.iconst 1) 1 129 := ⟨by decide +kernel, rfl⟩
theorem o_L_runsOk_129 : InsB md_L_runsOk 129 (.goto 4) 3 132 (4) 133 := ⟨by decide +kernel, rfl, by decide, by decide⟩
theorem o_L_runsOk_132 : InsA md_L_runsOk 132 (.iconst 0) 1 133 := ⟨by decide +kernel, rfl⟩
theorem o_L_runsOk_133 : InsA md_L_runsOk 133 (.ireturn) 1 134 := ⟨by decide +kernel, rfl⟩
abbrev md_getRunTicks : MD := (⟨"CyclicExecutive", "getRunTicks", "(I)I"⟩, prog_1_method_28_code, 2, some .int, { frames := 0, cells := 0, slots := 0, locals := 0 }, 0)
theorem cv_getRunTicks {Z : State} {a0 : Array Value} (H : OK Z a0) : CalV Z a0 md_getRunTicks 1 := ⟨pn_CyclicExecutive, by decide, pd__I_I, H.w 82 rfl, H.w 84 rfl, H.w 2 rfl, Or.inl ⟨H.w 81 rfl, H.w 83 rfl⟩⟩
theorem o_getRunTicks_0 : InsA md_getRunTicks 0 (.iload_n 1) 1 1 := ⟨by decide +kernel, rfl⟩
theorem o_getRunTicks_1 : InsB md_getRunTicks 1 (.ifCond .lt 11) 3 4 (11) 12 := ⟨by decide +kernel, rfl, by decide, by decide⟩
theorem o_getRunTicks_4 : InsA md_getRunTicks 4 (.iload_n 1) 1 5 := ⟨by decide +kernel, rfl⟩
theorem o_getRunTicks_5 : InsA md_getRunTicks 5 (.aload_n 0) 1 6 := ⟨by decide +kernel, rfl⟩
theorem o_getRunTicks_6 : InsA md_getRunTicks 6 (.getfield 42) 3 9 := ⟨by decide +kernel, rfl⟩
theorem o_getRunTicks_9 : InsB md_getRunTicks 9 (.if_icmp .lt 5) 3 12 (5) 14 := ⟨by decide +kernel, rfl, by decide, by decide⟩
theorem o_getRunTicks_12 : InsA md_getRunTicks 12 (.iconst (-1)) 1 13 := ⟨by decide +kernel, rfl⟩
theorem o_getRunTicks_13 : InsA md_getRunTicks 13 (.ireturn) 1 14 := ⟨by decide +kernel, rfl⟩
theorem o_getRunTicks_14 : InsA md_getRunTicks 14 (.aload_n 0) 1 15 := ⟨by decide +kernel, rfl⟩
theorem o_getRunTicks_15 : InsA md_getRunTicks 15 (.getfield 19) 3 18 := ⟨by decide +kernel, rfl⟩
theorem o_getRunTicks_18 : InsA md_getRunTicks 18 (.iload_n 1) 1 19 := ⟨by decide +kernel, rfl⟩
theorem o_getRunTicks_19 : InsA md_getRunTicks 19 (.iaload) 1 20 := ⟨by decide +kernel, rfl⟩
theorem o_getRunTicks_20 : InsA md_getRunTicks 20 (.ireturn) 1 21 := ⟨by decide +kernel, rfl⟩
abbrev md_addTask : MD := (⟨"CyclicExecutive", "addTask", "(III)I"⟩, prog_1_method_6_code, 7, some .int, { frames := 2, cells := 0, slots := 0, locals := 33 }, 0)
theorem cv_addTask {Z : State} {a0 : Array Value} (H : OK Z a0) : CalV Z a0 md_addTask 3 := ⟨pn_CyclicExecutive, by decide, pd__III_I, H.w 87 rfl, H.w 89 rfl, H.w 2 rfl, Or.inl ⟨H.w 86 rfl, H.w 88 rfl⟩⟩
theorem o_addTask_0 : InsA md_addTask 0 (.iload_n 1) 1 1 := ⟨by decide +kernel, rfl⟩
theorem o_addTask_1 : InsA md_addTask 1 (.iconst 1) 1 2 := ⟨by decide +kernel, rfl⟩
theorem o_addTask_2 : InsB md_addTask 2 (.if_icmp .lt 30) 3 5 (30) 32 := ⟨by decide +kernel, rfl, by decide, by decide⟩
theorem o_addTask_5 : InsA md_addTask 5 (.iload_n 1) 1 6 := ⟨by decide +kernel, rfl⟩
theorem o_addTask_6 : InsA md_addTask 6 (.sipush 128) 3 9 := ⟨by decide +kernel, rfl⟩
theorem o_addTask_9 : InsB md_addTask 9 (.if_icmp .gt 23) 3 12 (23) 32 := ⟨by decide +kernel, rfl, by decide, by decide⟩
theorem o_addTask_12 : InsA md_addTask 12 (.iload_n 3) 1 13 := ⟨by decide +kernel, rfl⟩
theorem o_addTask_13 : InsA md_addTask 13 (.iconst 1) 1 14 := ⟨by decide +kernel, rfl⟩
theorem o_addTask_14 : InsB md_addTask 14 (.if_icmp .lt 18) 3 17 (18) 32 := ⟨by decide +kernel, rfl, by decide, by decide⟩
theorem o_addTask_17 : InsA md_addTask 17 (.iload_n 3) 1 18 := ⟨by decide +kernel, rfl⟩
theorem o_addTask_18 : InsA md_addTask 18 (.iload_n 1) 1 19 := ⟨by decide +kernel, rfl⟩
theorem o_addTask_19 : InsB md_addTask 19 (.if_icmp .gt 13) 3 22 (13) 32 := ⟨by decide +kernel, rfl, by decide, by decide⟩
theorem o_addTask_22 : InsA md_addTask 22 (.iload_n 2) 1 23 := ⟨by decide +kernel, rfl⟩
theorem o_addTask_23 : InsA md_addTask 23 (.iconst 1) 1 24 := ⟨by decide +kernel, rfl⟩
theorem o_addTask_24 : InsB md_addTask 24 (.if_icmp .lt 8) 3 27 (8) 32 := ⟨by decide +kernel, rfl, by decide, by decide⟩
theorem o_addTask_27 : InsA md_addTask 27 (.iload_n 2) 1 28 := ⟨by decide +kernel, rfl⟩
theorem o_addTask_28 : InsA md_addTask 28 (.iload_n 3) 1 29 := ⟨by decide +kernel, rfl⟩
theorem o_addTask_29 : InsB md_addTask 29 (.if_icmp .le 5) 3 32 (5) 34 := ⟨by decide +kernel, rfl, by decide, by decide⟩
theorem o_addTask_32 : InsA md_addTask 32 (.iconst (-1)) 1 33 := ⟨by decide +kernel, rfl⟩
theorem o_addTask_33 : InsA md_addTask 33 (.ireturn) 1 34 := ⟨by decide +kernel, rfl⟩
theorem o_addTask_34 : InsA md_addTask 34 (.aload_n 0) 1 35 := ⟨by decide +kernel, rfl⟩
theorem o_addTask_35 : InsA md_addTask 35 (.getfield 42) 3 38 := ⟨by decide +kernel, rfl⟩
theorem o_addTask_38 : InsA md_addTask 38 (.aload_n 0) 1 39 := ⟨by decide +kernel, rfl⟩
theorem o_addTask_39 : InsA md_addTask 39 (.getfield 35) 3 42 := ⟨by decide +kernel, rfl⟩
theorem o_addTask_42 : InsB md_addTask 42 (.if_icmp .lt 6) 3 45 (6) 48 := ⟨by decide +kernel, rfl, by decide, by decide⟩
theorem o_addTask_45 : InsA md_addTask 45 (.bipush (-2)) 2 47 := ⟨by decide +kernel, rfl⟩
theorem o_addTask_47 : InsA md_addTask 47 (.ireturn) 1 48 := ⟨by decide +kernel, rfl⟩
theorem o_addTask_48 : InsA md_addTask 48 (.aload_n 0) 1 49 := ⟨by decide +kernel, rfl⟩
theorem o_addTask_49 : InsA md_addTask 49 (.getfield 42) 3 52 := ⟨by decide +kernel, rfl⟩
theorem o_addTask_52 : InsB md_addTask 52 (.ifCond .ne 7) 3 55 (7) 59 := ⟨by decide +kernel, rfl, by decide, by decide⟩
theorem o_addTask_55 : InsA md_addTask 55 (.iconst 1) 1 56 := ⟨by decide +kernel, rfl⟩
theorem o_addTask_56 : InsB md_addTask 56 (.goto 7) 3 59 (7) 63 := ⟨by decide +kernel, rfl, by decide, by decide⟩
theorem o_addTask_59 : InsA md_addTask 59 (.aload_n 0) 1 60 := ⟨by decide +kernel, rfl⟩
theorem o_addTask_60 : InsA md_addTask 60 (.getfield 45) 3 63 := ⟨by decide +kernel, rfl⟩
theorem o_addTask_63 : InsA md_addTask 63 (.istore 4) 2 65 := ⟨by decide +kernel, rfl⟩
theorem o_addTask_65 : InsA md_addTask 65 (.aload_n 0) 1 66 := ⟨by decide +kernel, rfl⟩
theorem o_addTask_66 : InsA md_addTask 66 (.iload 4) 2 68 := ⟨by decide +kernel, rfl⟩
theorem o_addTask_68 : InsA md_addTask 68 (.iload_n 1) 1 69 := ⟨by decide +kernel, rfl⟩
theorem o_addTask_69 : InsA md_addTask 69 (.invokevirtual 68) 3 72 := ⟨by decide +kernel, rfl⟩
theorem o_addTask_72 : InsA md_addTask 72 (.istore 5) 2 74 := ⟨by decide +kernel, rfl⟩
theorem o_addTask_74 : InsA md_addTask 74 (.iload 5) 2 76 := ⟨by decide +kernel, rfl⟩
theorem o_addTask_76 : InsA md_addTask 76 (.aload_n 0) 1 77 := ⟨by decide +kernel, rfl⟩
theorem o_addTask_77 : InsA md_addTask 77 (.getfield 39) 3 80 := ⟨by decide +kernel, rfl⟩
theorem o_addTask_80 : InsB md_addTask 80 (.if_icmp .le 6) 3 83 (6) 86 := ⟨by decide +kernel, rfl, by decide, by decide⟩
theorem o_addTask_83 : InsA md_addTask 83 (.bipush (-3)) 2 85 := ⟨by decide +kernel, rfl⟩
theorem o_addTask_85 : InsA md_addTask 85 (.ireturn) 1 86 := ⟨by decide +kernel, rfl⟩
theorem o_addTask_86 : InsA md_addTask 86 (.aload_n 0) 1 87 := ⟨by decide +kernel, rfl⟩
theorem o_addTask_87 : InsA md_addTask 87 (.getfield 42) 3 90 := ⟨by decide +kernel, rfl⟩
theorem o_addTask_90 : InsA md_addTask 90 (.istore 6) 2 92 := ⟨by decide +kernel, rfl⟩
theorem o_addTask_92 : InsA md_addTask 92 (.aload_n 0) 1 93 := ⟨by decide +kernel, rfl⟩
theorem o_addTask_93 : InsA md_addTask 93 (.getfield 7) 3 96 := ⟨by decide +kernel, rfl⟩
theorem o_addTask_96 : InsA md_addTask 96 (.iload 6) 2 98 := ⟨by decide +kernel, rfl⟩
theorem o_addTask_98 : InsA md_addTask 98 (.iload_n 1) 1 99 := ⟨by decide +kernel, rfl⟩
theorem o_addTask_99 : InsA md_addTask 99 (.iastore) 1 100 := ⟨by decide +kernel, rfl⟩
theorem o_addTask_100 : InsA md_addTask 100 (.aload_n 0) 1 101 := ⟨by decide +kernel, rfl⟩
theorem o_addTask_101 : InsA md_addTask 101 (.getfield 13) 3 104 := ⟨by decide +kernel, rfl⟩
theorem o_addTask_104 : InsA md_addTask 104 (.iload 6) 2 106 := ⟨by decide +kernel, rfl⟩
theorem o_addTask_106 : InsA md_addTask 106 (.iload_n 2) 1 107 := ⟨by decide +kernel, rfl⟩
theorem o_addTask_107 : InsA md_addTask 107 (.iastore) 1 108 := ⟨by decide +kernel, rfl⟩
theorem o_addTask_108 : InsA md_addTask 108 (.aload_n 0) 1 109 := ⟨by decide +kernel, rfl⟩
theorem o_addTask_109 : InsA md_addTask 109 (.getfield 16) 3 112 := ⟨by decide +kernel, rfl⟩
theorem o_addTask_112 : InsA md_addTask 112 (.iload 6) 2 114 := ⟨by decide +kernel, rfl⟩
theorem o_addTask_114 : InsA md_addTask 114 (.iload_n 3) 1 115 := ⟨by decide +kernel, rfl⟩
theorem o_addTask_115 : InsA md_addTask 115 (.iastore) 1 116 := ⟨by decide +kernel, rfl⟩
theorem o_addTask_116 : InsA md_addTask 116 (.aload_n 0) 1 117 := ⟨by decide +kernel, rfl⟩
theorem o_addTask_117 : InsA md_addTask 117 (.dup) 1 118 := ⟨by decide +kernel, rfl⟩
theorem o_addTask_118 : InsA md_addTask 118 (.getfield 42) 3 121 := ⟨by decide +kernel, rfl⟩
theorem o_addTask_121 : InsA md_addTask 121 (.iconst 1) 1 122 := ⟨by decide +kernel, rfl⟩
theorem o_addTask_122 : InsA md_addTask 122 (.iadd) 1 123 := ⟨by decide +kernel, rfl⟩
theorem o_addTask_123 : InsA md_addTask 123 (.putfield 42) 3 126 := ⟨by decide +kernel, rfl⟩
theorem o_addTask_126 : InsA md_addTask 126 (.aload_n 0) 1 127 := ⟨by decide +kernel, rfl⟩
theorem o_addTask_127 : InsA md_addTask 127 (.iload 5) 2 129 := ⟨by decide +kernel, rfl⟩
theorem o_addTask_129 : InsA md_addTask 129 (.putfield 45) 3 132 := ⟨by decide +kernel, rfl⟩
theorem o_addTask_132 : InsA md_addTask 132 (.aload_n 0) 1 133 := ⟨by decide +kernel, rfl⟩
theorem o_addTask_133 : InsA md_addTask 133 (.iconst 0) 1 134 := ⟨by decide +kernel, rfl⟩
theorem o_addTask_134 : InsA md_addTask 134 (.putfield 48) 3 137 := ⟨by decide +kernel, rfl⟩
theorem o_addTask_137 : InsA md_addTask 137 (.aload_n 0) 1 138 := ⟨by decide +kernel, rfl⟩
theorem o_addTask_138 : InsA md_addTask 138 (.iconst 0) 1 139 := ⟨by decide +kernel, rfl⟩
theorem o_addTask_139 : InsA md_addTask 139 (.putfield 52) 3 142 := ⟨by decide +kernel, rfl⟩
theorem o_addTask_142 : InsA md_addTask 142 (.aload_n 0) 1 143 := ⟨by decide +kernel, rfl⟩
theorem o_addTask_143 : InsA md_addTask 143 (.iconst (-1)) 1 144 := ⟨by decide +kernel, rfl⟩
theorem o_addTask_144 : InsA md_addTask 144 (.putfield 55) 3 147 := ⟨by decide +kernel, rfl⟩
theorem o_addTask_147 : InsA md_addTask 147 (.aload_n 0) 1 148 := ⟨by decide +kernel, rfl⟩
theorem o_addTask_148 : InsA md_addTask 148 (.invokevirtual 71) 3 151 := ⟨by decide +kernel, rfl⟩
theorem o_addTask_151 : InsA md_addTask 151 (.iload 6) 2 153 := ⟨by decide +kernel, rfl⟩
theorem o_addTask_153 : InsA md_addTask 153 (.ireturn) 1 154 := ⟨by decide +kernel, rfl⟩
abbrev md_lcm : MD := (⟨"CyclicExecutive", "lcm", "(II)I"⟩, prog_1_method_4_code, 4, some .int, { frames := 1, cells := 0, slots := 0, locals := 18 }, 0)
theorem cv_lcm {Z : State} {a0 : Array Value} (H : OK Z a0) : CalV Z a0 md_lcm 2 := ⟨pn_CyclicExecutive, by decide, pd__II_I, H.w 91 rfl, H.w 93 rfl, H.w 2 rfl, Or.inr ⟨H.w 92 rfl, 16, H.w 1 rfl⟩⟩
theorem o_lcm_0 : InsA md_lcm 0 (.aload_n 0) 1 1 := ⟨by decide +kernel, rfl⟩
theorem o_lcm_1 : InsA md_lcm 1 (.iload_n 1) 1 2 := ⟨by decide +kernel, rfl⟩
theorem o_lcm_2 : InsA md_lcm 2 (.iload_n 2) 1 3 := ⟨by decide +kernel, rfl⟩
theorem o_lcm_3 : InsA md_lcm 3 (.invokevirtual 64) 3 6 := ⟨by decide +kernel, rfl⟩
theorem o_lcm_6 : InsA md_lcm 6 (.istore_n 3) 1 7 := ⟨by decide +kernel, rfl⟩
theorem o_lcm_7 : InsA md_lcm 7 (.iload_n 3) 1 8 := ⟨by decide +kernel, rfl⟩
theorem o_lcm_8 : InsB md_lcm 8 (.ifCond .ne 5) 3 11 (5) 13 := ⟨by decide +kernel, rfl, by decide, by decide⟩
theorem o_lcm_11 : InsA md_lcm 11 (.iconst 0) 1 12 := ⟨by decide +kernel, rfl⟩
theorem o_lcm_12 : InsA md_lcm 12 (.ireturn) 1 13 := ⟨by decide +kernel, rfl⟩
theorem o_lcm_13 : InsA md_lcm 13 (.iload_n 1) 1 14 := ⟨by decide +kernel, rfl⟩
theorem o_lcm_14 : InsA md_lcm 14 (.iload_n 3) 1 15 := ⟨by decide +kernel, rfl⟩
theorem o_lcm_15 : InsA md_lcm 15 (.idiv) 1 16 := ⟨by decide +kernel, rfl⟩
theorem o_lcm_16 : InsA md_lcm 16 (.iload_n 2) 1 17 := ⟨by decide +kernel, rfl⟩
theorem o_lcm_17 : InsA md_lcm 17 (.imul) 1 18 := ⟨by decide +kernel, rfl⟩
theorem o_lcm_18 : InsA md_lcm 18 (.ireturn) 1 19 := ⟨by decide +kernel, rfl⟩
abbrev md_gcd : MD := (⟨"CyclicExecutive", "gcd", "(II)I"⟩, prog_1_method_3_code, 7, some .int, { frames := 0, cells := 0, slots := 0, locals := 0 }, 0)
theorem cv_gcd {Z : State} {a0 : Array Value} (H : OK Z a0) : CalV Z a0 md_gcd 2 := ⟨pn_CyclicExecutive, by decide, pd__II_I, H.w 95 rfl, H.w 97 rfl, H.w 2 rfl, Or.inr ⟨H.w 96 rfl, 16, H.w 1 rfl⟩⟩
theorem o_gcd_0 : InsA md_gcd 0 (.iload_n 1) 1 1 := ⟨by decide +kernel, rfl⟩
theorem o_gcd_1 : InsA md_gcd 1 (.istore_n 3) 1 2 := ⟨by decide +kernel, rfl⟩
theorem o_gcd_2 : InsA md_gcd 2 (.iload_n 2) 1 3 := ⟨by decide +kernel, rfl⟩
theorem o_gcd_3 : InsA md_gcd 3 (.istore 4) 2 5 := ⟨by decide +kernel, rfl⟩
theorem o_gcd_5 : InsA md_gcd 5 (.iconst 0) 1 6 := ⟨by decide +kernel, rfl⟩
theorem o_gcd_6 : InsA md_gcd 6 (.istore 5) 2 8 := ⟨by decide +kernel, rfl⟩
theorem o_gcd_8 : InsA md_gcd 8 (.iload 5) 2 10 := ⟨by decide +kernel, rfl⟩
theorem o_gcd_10 : InsA md_gcd 10 (.bipush 64) 2 12 := ⟨by decide +kernel, rfl⟩
theorem o_gcd_12 : InsB md_gcd 12 (.if_icmp .ge 27) 3 15 (27) 39 := ⟨by decide +kernel, rfl, by decide, by decide⟩
theorem o_gcd_15 : InsA md_gcd 15 (.iload 4) 2 17 := ⟨by decide +kernel, rfl⟩
theorem o_gcd_17 : InsB md_gcd 17 (.ifCond .eq 22) 3 20 (22) 39 := ⟨by decide +kernel, rfl, by decide, by decide⟩
theorem o_gcd_20 : InsA md_gcd 20 (.iload_n 3) 1 21 := ⟨by decide +kernel, rfl⟩
theorem o_gcd_21 : InsA md_gcd 21 (.iload 4) 2 23 := ⟨by decide +kernel, rfl⟩
theorem o_gcd_23 : InsA md_gcd 23 (.irem) 1 24 := ⟨by decide +kernel, rfl⟩
theorem o_gcd_24 : InsA md_gcd 24 (.istore 6) 2 26 := ⟨by decide +kernel, rfl⟩
theorem o_gcd_26 : InsA md_gcd 26 (.iload 4) 2 28 := ⟨by decide +kernel, rfl⟩
theorem o_gcd_28 : InsA md_gcd 28 (.istore_n 3) 1 29 := ⟨by decide +kernel, rfl⟩
theorem o_gcd_29 : InsA md_gcd 29 (.iload 6) 2 31 := ⟨by decide +kernel, rfl⟩
theorem o_gcd_31 : InsA md_gcd 31 (.istore 4) 2 33 := ⟨by decide +kernel, rfl⟩
theorem o_gcd_33 : InsA md_gcd 33 (.iinc 5 1) 3 36 := ⟨by decide +kernel, rfl⟩
theorem o_gcd_36 : InsB md_gcd 36 (.goto (-28)) 3 39 (-28) 8 := ⟨by decide +kernel, rfl, by decide, by decide⟩
theorem o_gcd_39 : InsA md_gcd 39 (.iload_n 3) 1 40 := ⟨by decide +kernel, rfl⟩
theorem o_gcd_40 : InsA md_gcd 40 (.ireturn) 1 41 := ⟨by decide +kernel, rfl⟩
abbrev md_resetDispatcher : MD := (⟨"CyclicExecutive", "resetDispatcher", "()V"⟩, prog_1_method_5_code, 2, none, { frames := 0, cells := 0, slots := 0, locals := 0 }, 0)
theorem cv_resetDispatcher {Z : State} {a0 : Array Value} (H : OK Z a0) : CalV Z a0 md_resetDispatcher 0 := ⟨pn_CyclicExecutive, by decide, pd___V, H.w 99 rfl, H.w 101 rfl, H.w 2 rfl, Or.inr ⟨H.w 100 rfl, 16, H.w 1 rfl⟩⟩
theorem o_resetDispatcher_0 : InsA md_resetDispatcher 0 (.aload_n 0) 1 1 := ⟨by decide +kernel, rfl⟩
theorem o_resetDispatcher_1 : InsA md_resetDispatcher 1 (.iconst 0) 1 2 := ⟨by decide +kernel, rfl⟩
theorem o_resetDispatcher_2 : InsA md_resetDispatcher 2 (.putfield 58) 3 5 := ⟨by decide +kernel, rfl⟩
theorem o_resetDispatcher_5 : InsA md_resetDispatcher 5 (.aload_n 0) 1 6 := ⟨by decide +kernel, rfl⟩
theorem o_resetDispatcher_6 : InsA md_resetDispatcher 6 (.iconst 0) 1 7 := ⟨by decide +kernel, rfl⟩
theorem o_resetDispatcher_7 : InsA md_resetDispatcher 7 (.putfield 61) 3 10 := ⟨by decide +kernel, rfl⟩
theorem o_resetDispatcher_10 : InsA md_resetDispatcher 10 (.iconst 0) 1 11 := ⟨by decide +kernel, rfl⟩
theorem o_resetDispatcher_11 : InsA md_resetDispatcher 11 (.istore_n 1) 1 12 := ⟨by decide +kernel, rfl⟩
theorem o_resetDispatcher_12 : InsA md_resetDispatcher 12 (.iload_n 1) 1 13 := ⟨by decide +kernel, rfl⟩
theorem o_resetDispatcher_13 : InsA md_resetDispatcher 13 (.bipush 8) 2 15 := ⟨by decide +kernel, rfl⟩
theorem o_resetDispatcher_15 : InsB md_resetDispatcher 15 (.if_icmp .ge 16) 3 18 (16) 31 := ⟨by decide +kernel, rfl, by decide, by decide⟩
theorem o_resetDispatcher_18 : InsA md_resetDispatcher 18 (.aload_n 0) 1 19 := ⟨by decide +kernel, rfl⟩
theorem o_resetDispatcher_19 : InsA md_resetDispatcher 19 (.getfield 19) 3 22 := ⟨by decide +kernel, rfl⟩
theorem o_resetDispatcher_22 : InsA md_resetDispatcher 22 (.iload_n 1) 1 23 := ⟨by decide +kernel, rfl⟩
theorem o_resetDispatcher_23 : InsA md_resetDispatcher 23 (.iconst 0) 1 24 := ⟨by decide +kernel, rfl⟩
theorem o_resetDispatcher_24 : InsA md_resetDispatcher 24 (.iastore) 1 25 := ⟨by decide +kernel, rfl⟩
theorem o_resetDispatcher_25 : InsA md_resetDispatcher 25 (.iinc 1 1) 3 28 := ⟨by decide +kernel, rfl⟩
theorem o_resetDispatcher_28 : InsB md_resetDispatcher 28 (.goto (-16)) 3 31 (-16) 12 := ⟨by decide +kernel, rfl, by decide, by decide⟩
theorem o_resetDispatcher_31 : InsA md_resetDispatcher 31 (.return_) 1 32 := ⟨by decide +kernel, rfl⟩
abbrev md_L_gcd : MD := (⟨"CyclicExecutiveL6", "gcd", "(II)I"⟩, method_2_code, 4, some .int, { frames := 0, cells := 0, slots := 0, locals := 0 }, 0)
theorem cv_L_gcd {Z : State} {a0 : Array Value} (H : OK Z a0) : CalS Z a0 md_L_gcd 2 := ⟨pn_CyclicExecutiveL6, by decide, pd__II_I, H.w 103 rfl, H.w 104 rfl, H.w 78 rfl⟩
theorem o_L_gcd_0 : InsA md_L_gcd 0 (.iconst 0) 1 1 := ⟨by decide +kernel, rfl⟩
theorem o_L_gcd_1 : InsA md_L_gcd 1 (.istore_n 2) 1 2 := ⟨by decide +kernel, rfl⟩
theorem o_L_gcd_2 : InsA md_L_gcd 2 (.iload_n 2) 1 3 := ⟨by decide +kernel, rfl⟩
theorem o_L_gcd_3 : InsA md_L_gcd 3 (.bipush 40) 2 5 := ⟨by decide +kernel, rfl⟩
theorem o_L_gcd_5 : InsB md_L_gcd 5 (.if_icmp .ge 21) 3 8 (21) 26 := ⟨by decide +kernel, rfl, by decide, by decide⟩
theorem o_L_gcd_8 : InsA md_L_gcd 8 (.iload_n 1) 1 9 := ⟨by decide +kernel, rfl⟩
theorem o_L_gcd_9 : InsB md_L_gcd 9 (.ifCond .eq 17) 3 12 (17) 26 := ⟨by decide +kernel, rfl, by decide, by decide⟩
theorem o_L_gcd_12 : InsA md_L_gcd 12 (.iload_n 0) 1 13 := ⟨by decide +kernel, rfl⟩
theorem o_L_gcd_13 : InsA md_L_gcd 13 (.iload_n 1) 1 14 := ⟨by decide +kernel, rfl⟩
theorem o_L_gcd_14 : InsA md_L_gcd 14 (.irem) 1 15 := ⟨by decide +kernel, rfl⟩
theorem o_L_gcd_15 : InsA md_L_gcd 15 (.istore_n 3) 1 16 := ⟨by decide +kernel, rfl⟩
theorem o_L_gcd_16 : InsA md_L_gcd 16 (.iload_n 1) 1 17 := ⟨by decide +kernel, rfl⟩
theorem o_L_gcd_17 : InsA md_L_gcd 17 (.istore_n 0) 1 18 := ⟨by decide +kernel, rfl⟩
theorem o_L_gcd_18 : InsA md_L_gcd 18 (.iload_n 3) 1 19 := ⟨by decide +kernel, rfl⟩
theorem o_L_gcd_19 : InsA md_L_gcd 19 (.istore_n 1) 1 20 := ⟨by decide +kernel, rfl⟩
theorem o_L_gcd_20 : InsA md_L_gcd 20 (.iinc 2 1) 3 23 := ⟨by decide +kernel, rfl⟩
theorem o_L_gcd_23 : InsB md_L_gcd 23 (.goto (-21)) 3 26 (-21) 2 := ⟨by decide +kernel, rfl, by decide, by decide⟩
theorem o_L_gcd_26 : InsA md_L_gcd 26 (.iload_n 0) 1 27 := ⟨by decide +kernel, rfl⟩
theorem o_L_gcd_27 : InsA md_L_gcd 27 (.ireturn) 1 28 := ⟨by decide +kernel, rfl⟩
abbrev md_build : MD := (⟨"CyclicExecutive", "build", "(I)I"⟩, prog_1_method_15_code, 4, some .int, { frames := 2, cells := 0, slots := 0, locals := 42 }, 0)
theorem cv_build {Z : State} {a0 : Array Value} (H : OK Z a0) : CalV Z a0 md_build 1 := ⟨pn_CyclicExecutive, by decide, pd__I_I, H.w 107 rfl, H.w 109 rfl, H.w 2 rfl, Or.inl ⟨H.w 106 rfl, H.w 108 rfl⟩⟩
theorem o_build_0 : InsA md_build 0 (.aload_n 0) 1 1 := ⟨by decide +kernel, rfl⟩
theorem o_build_1 : InsA md_build 1 (.getfield 42) 3 4 := ⟨by decide +kernel, rfl⟩
theorem o_build_4 : InsB md_build 4 (.ifCond .ne 6) 3 7 (6) 10 := ⟨by decide +kernel, rfl, by decide, by decide⟩
theorem o_build_7 : InsA md_build 7 (.bipush (-4)) 2 9 := ⟨by decide +kernel, rfl⟩
theorem o_build_9 : InsA md_build 9 (.ireturn) 1 10 := ⟨by decide +kernel, rfl⟩
theorem o_build_10 : InsA md_build 10 (.aload_n 0) 1 11 := ⟨by decide +kernel, rfl⟩
theorem o_build_11 : InsA md_build 11 (.iload_n 1) 1 12 := ⟨by decide +kernel, rfl⟩
theorem o_build_12 : InsA md_build 12 (.invokevirtual 74) 3 15 := ⟨by decide +kernel, rfl⟩
theorem o_build_15 : InsB md_build 15 (.ifCond .ne 6) 3 18 (6) 21 := ⟨by decide +kernel, rfl, by decide, by decide⟩
theorem o_build_18 : InsA md_build 18 (.bipush (-5)) 2 20 := ⟨by decide +kernel, rfl⟩
theorem o_build_20 : InsA md_build 20 (.ireturn) 1 21 := ⟨by decide +kernel, rfl⟩
theorem o_build_21 : InsA md_build 21 (.aload_n 0) 1 22 := ⟨by decide +kernel, rfl⟩
theorem o_build_22 : InsA md_build 22 (.iload_n 1) 1 23 := ⟨by decide +kernel, rfl⟩
theorem o_build_23 : InsA md_build 23 (.invokevirtual 82) 3 26 := ⟨by decide +kernel, rfl⟩
theorem o_build_26 : InsB md_build 26 (.ifCond .ne 6) 3 29 (6) 32 := ⟨by decide +kernel, rfl, by decide, by decide⟩
theorem o_build_29 : InsA md_build 29 (.bipush (-6)) 2 31 := ⟨by decide +kernel, rfl⟩
theorem o_build_31 : InsA md_build 31 (.ireturn) 1 32 := ⟨by decide +kernel, rfl⟩
theorem o_build_32 : InsA md_build 32 (.aload_n 0) 1 33 := ⟨by decide +kernel, rfl⟩
theorem o_build_33 : InsA md_build 33 (.invokevirtual 88) 3 36 := ⟨by decide +kernel, rfl⟩
theorem o_build_36 : InsA md_build 36 (.iconst 0) 1 37 := ⟨by decide +kernel, rfl⟩
theorem o_build_37 : InsA md_build 37 (.istore_n 2) 1 38 := ⟨by decide +kernel, rfl⟩
theorem o_build_38 : InsA md_build 38 (.iload_n 2) 1 39 := ⟨by decide +kernel, rfl⟩
theorem o_build_39 : InsA md_build 39 (.sipush 128) 3 42 := ⟨by decide +kernel, rfl⟩
theorem o_build_42 : InsB md_build 42 (.if_icmp .ge 23) 3 45 (23) 65 := ⟨by decide +kernel, rfl, by decide, by decide⟩
theorem o_build_45 : InsA md_build 45 (.aload_n 0) 1 46 := ⟨by decide +kernel, rfl⟩
theorem o_build_46 : InsA md_build 46 (.getfield 22) 3 49 := ⟨by decide +kernel, rfl⟩
theorem o_build_49 : InsA md_build 49 (.iload_n 2) 1 50 := ⟨by decide +kernel, rfl⟩
theorem o_build_50 : InsA md_build 50 (.iconst (-1)) 1 51 := ⟨by decide +kernel, rfl⟩
theorem o_build_51 : InsA md_build 51 (.iastore) 1 52 := ⟨by decide +kernel, rfl⟩
theorem o_build_52 : InsA md_build 52 (.aload_n 0) 1 53 := ⟨by decide +kernel, rfl⟩
theorem o_build_53 : InsA md_build 53 (.getfield 25) 3 56 := ⟨by decide +kernel, rfl⟩
theorem o_build_56 : InsA md_build 56 (.iload_n 2) 1 57 := ⟨by decide +kernel, rfl⟩
theorem o_build_57 : InsA md_build 57 (.iconst (-1)) 1 58 := ⟨by decide +kernel, rfl⟩
theorem o_build_58 : InsA md_build 58 (.iastore) 1 59 := ⟨by decide +kernel, rfl⟩
theorem o_build_59 : InsA md_build 59 (.iinc 2 1) 3 62 := ⟨by decide +kernel, rfl⟩
theorem o_build_62 : InsB md_build 62 (.goto (-24)) 3 65 (-24) 38 := ⟨by decide +kernel, rfl, by decide, by decide⟩
theorem o_build_65 : InsA md_build 65 (.aload_n 0) 1 66 := ⟨by decide +kernel, rfl⟩
theorem o_build_66 : InsA md_build 66 (.getfield 45) 3 69 := ⟨by decide +kernel, rfl⟩
theorem o_build_69 : InsA md_build 69 (.iload_n 1) 1 70 := ⟨by decide +kernel, rfl⟩
theorem o_build_70 : InsA md_build 70 (.idiv) 1 71 := ⟨by decide +kernel, rfl⟩
theorem o_build_71 : InsA md_build 71 (.istore_n 2) 1 72 := ⟨by decide +kernel, rfl⟩
theorem o_build_72 : InsA md_build 72 (.iconst 0) 1 73 := ⟨by decide +kernel, rfl⟩
theorem o_build_73 : InsA md_build 73 (.istore_n 3) 1 74 := ⟨by decide +kernel, rfl⟩
theorem o_build_74 : InsA md_build 74 (.iload_n 3) 1 75 := ⟨by decide +kernel, rfl⟩
theorem o_build_75 : InsA md_build 75 (.iload_n 2) 1 76 := ⟨by decide +kernel, rfl⟩
theorem o_build_76 : InsB md_build 76 (.if_icmp .ge 15) 3 79 (15) 91 := ⟨by decide +kernel, rfl, by decide, by decide⟩
theorem o_build_79 : InsA md_build 79 (.aload_n 0) 1 80 := ⟨by decide +kernel, rfl⟩
theorem o_build_80 : InsA md_build 80 (.iload_n 3) 1 81 := ⟨by decide +kernel, rfl⟩
theorem o_build_81 : InsA md_build 81 (.iload_n 1) 1 82 := ⟨by decide +kernel, rfl⟩
theorem o_build_82 : InsA md_build 82 (.invokevirtual 91) 3 85 := ⟨by decide +kernel, rfl⟩
theorem o_build_85 : InsA md_build 85 (.iinc 3 1) 3 88 := ⟨by decide +kernel, rfl⟩
theorem o_build_88 : InsB md_build 88 (.goto (-14)) 3 91 (-14) 74 := ⟨by decide +kernel, rfl, by decide, by decide⟩
theorem o_build_91 : InsA md_build 91 (.aload_n 0) 1 92 := ⟨by decide +kernel, rfl⟩
theorem o_build_92 : InsA md_build 92 (.invokevirtual 95) 3 95 := ⟨by decide +kernel, rfl⟩
theorem o_build_95 : InsA md_build 95 (.istore_n 3) 1 96 := ⟨by decide +kernel, rfl⟩
theorem o_build_96 : InsA md_build 96 (.aload_n 0) 1 97 := ⟨by decide +kernel, rfl⟩
theorem o_build_97 : InsA md_build 97 (.invokevirtual 71) 3 100 := ⟨by decide +kernel, rfl⟩
theorem o_build_100 : InsA md_build 100 (.iload_n 3) 1 101 := ⟨by decide +kernel, rfl⟩
theorem o_build_101 : InsB md_build 101 (.ifCond .lt 21) 3 104 (21) 122 := ⟨by decide +kernel, rfl, by decide, by decide⟩
theorem o_build_104 : InsA md_build 104 (.aload_n 0) 1 105 := ⟨by decide +kernel, rfl⟩
theorem o_build_105 : InsA md_build 105 (.iconst 0) 1 106 := ⟨by decide +kernel, rfl⟩
theorem o_build_106 : InsA md_build 106 (.putfield 48) 3 109 := ⟨by decide +kernel, rfl⟩
theorem o_build_109 : InsA md_build 109 (.aload_n 0) 1 110 := ⟨by decide +kernel, rfl⟩
theorem o_build_110 : InsA md_build 110 (.iconst 0) 1 111 := ⟨by decide +kernel, rfl⟩
theorem o_build_111 : InsA md_build 111 (.putfield 52) 3 114 := ⟨by decide +kernel, rfl⟩
theorem o_build_114 : InsA md_build 114 (.aload_n 0) 1 115 := ⟨by decide +kernel, rfl⟩
theorem o_build_115 : InsA md_build 115 (.iload_n 3) 1 116 := ⟨by decide +kernel, rfl⟩
theorem o_build_116 : InsA md_build 116 (.putfield 55) 3 119 := ⟨by decide +kernel, rfl⟩
theorem o_build_119 : InsA md_build 119 (.bipush (-7)) 2 121 := ⟨by decide +kernel, rfl⟩
theorem o_build_121 : InsA md_build 121 (.ireturn) 1 122 := ⟨by decide +kernel, rfl⟩
theorem o_build_122 : InsA md_build 122 (.aload_n 0) 1 123 := ⟨by decide +kernel, rfl⟩
theorem o_build_123 : InsA md_build 123 (.iconst 1) 1 124 := ⟨by decide +kernel, rfl⟩
theorem o_build_124 : InsA md_build 124 (.putfield 48) 3 127 := ⟨by decide +kernel, rfl⟩
theorem o_build_127 : InsA md_build 127 (.aload_n 0) 1 128 := ⟨by decide +kernel, rfl⟩
theorem o_build_128 : InsA md_build 128 (.iload_n 1) 1 129 := ⟨by decide +kernel, rfl⟩
theorem o_build_129 : InsA md_build 129 (.putfield 52) 3 132 := ⟨by decide +kernel, rfl⟩
theorem o_build_132 : InsA md_build 132 (.aload_n 0) 1 133 := ⟨by decide +kernel, rfl⟩
theorem o_build_133 : InsA md_build 133 (.iconst (-1)) 1 134 := ⟨by decide +kernel, rfl⟩
theorem o_build_134 : InsA md_build 134 (.putfield 55) 3 137 := ⟨by decide +kernel, rfl⟩
theorem o_build_137 : InsA md_build 137 (.iconst 0) 1 138 := ⟨by decide +kernel, rfl⟩
theorem o_build_138 : InsA md_build 138 (.ireturn) 1 139 := ⟨by decide +kernel, rfl⟩
abbrev md_dividesHyper : MD := (⟨"CyclicExecutive", "dividesHyper", "(I)Z"⟩, prog_1_method_9_code, 2, some .boolean, { frames := 0, cells := 0, slots := 0, locals := 0 }, 0)
theorem cv_dividesHyper {Z : State} {a0 : Array Value} (H : OK Z a0) : CalV Z a0 md_dividesHyper 1 := ⟨pn_CyclicExecutive, by decide, pd__I_Z, H.w 111 rfl, H.w 113 rfl, H.w 2 rfl, Or.inr ⟨H.w 112 rfl, 16, H.w 1 rfl⟩⟩
theorem o_dividesHyper_0 : InsA md_dividesHyper 0 (.aload_n 0) 1 1 := ⟨by decide +kernel, rfl⟩
theorem o_dividesHyper_1 : InsA md_dividesHyper 1 (.getfield 42) 3 4 := ⟨by decide +kernel, rfl⟩
theorem o_dividesHyper_4 : InsB md_dividesHyper 4 (.ifCond .le 29) 3 7 (29) 33 := ⟨by decide +kernel, rfl, by decide, by decide⟩
theorem o_dividesHyper_7 : InsA md_dividesHyper 7 (.iload_n 1) 1 8 := ⟨by decide +kernel, rfl⟩
theorem o_dividesHyper_8 : InsA md_dividesHyper 8 (.iconst 1) 1 9 := ⟨by decide +kernel, rfl⟩
theorem o_dividesHyper_9 : InsB md_dividesHyper 9 (.if_icmp .lt 24) 3 12 (24) 33 := ⟨by decide +kernel, rfl, by decide, by decide⟩
theorem o_dividesHyper_12 : InsA md_dividesHyper 12 (.iload_n 1) 1 13 := ⟨by decide +kernel, rfl⟩
theorem o_dividesHyper_13 : InsA md_dividesHyper 13 (.aload_n 0) 1 14 := ⟨by decide +kernel, rfl⟩
theorem o_dividesHyper_14 : InsA md_dividesHyper 14 (.getfield 45) 3 17 := ⟨by decide +kernel, rfl⟩
theorem o_dividesHyper_17 : InsB md_dividesHyper 17 (.if_icmp .gt 16) 3 20 (16) 33 := ⟨by decide +kernel, rfl, by decide, by decide⟩
theorem o_dividesHyper_20 : InsA md_dividesHyper 20 (.aload_n 0) 1 21 := ⟨by decide +kernel, rfl⟩
theorem o_dividesHyper_21 : InsA md_dividesHyper 21 (.getfield 45) 3 24 := ⟨by decide +kernel, rfl⟩
theorem o_dividesHyper_24 : InsA md_dividesHyper 24 (.iload_n 1) 1 25 := ⟨by decide +kernel, rfl⟩
theorem o_dividesHyper_25 : InsA md_dividesHyper 25 (.irem) 1 26 := ⟨by decide +kernel, rfl⟩
theorem o_dividesHyper_26 : InsB md_dividesHyper 26 (.ifCond .ne 7) 3 29 (7) 33 := ⟨by decide +kernel, rfl, by decide, by decide⟩
theorem o_dividesHyper_29 : InsA md_dividesHyper 29 (.iconst 1) 1 30 := ⟨by decide +kernel, rfl⟩
theorem o_dividesHyper_30 : InsB md_dividesHyper 30 (.goto 4) 3 33 (4) 34 := ⟨by decide +kernel, rfl, by decide, by decide⟩
theorem o_dividesHyper_33 : InsA md_dividesHyper 33 (.iconst 0) 1 34 := ⟨by decide +kernel, rfl⟩
theorem o_dividesHyper_34 : InsA md_dividesHyper 34 (.ireturn) 1 35 := ⟨by decide +kernel, rfl⟩
abbrev md_deadlinesOk : MD := (⟨"CyclicExecutive", "deadlinesOk", "(I)Z"⟩, prog_1_method_11_code, 4, some .boolean, { frames := 1, cells := 0, slots := 0, locals := 18 }, 0)
theorem cv_deadlinesOk {Z : State} {a0 : Array Value} (H : OK Z a0) : CalV Z a0 md_deadlinesOk 1 := ⟨pn_CyclicExecutive, by decide, pd__I_Z, H.w 115 rfl, H.w 117 rfl, H.w 2 rfl, Or.inr ⟨H.w 116 rfl, 16, H.w 1 rfl⟩⟩
theorem o_deadlinesOk_0 : InsA md_deadlinesOk 0 (.iconst 0) 1 1 := ⟨by decide +kernel, rfl⟩
theorem o_deadlinesOk_1 : InsA md_deadlinesOk 1 (.istore_n 2) 1 2 := ⟨by decide +kernel, rfl⟩
theorem o_deadlinesOk_2 : InsA md_deadlinesOk 2 (.iload_n 2) 1 3 := ⟨by decide +kernel, rfl⟩
theorem o_deadlinesOk_3 : InsA md_deadlinesOk 3 (.aload_n 0) 1 4 := ⟨by decide +kernel, rfl⟩
theorem o_deadlinesOk_4 : InsA md_deadlinesOk 4 (.getfield 42) 3 7 := ⟨by decide +kernel, rfl⟩
theorem o_deadlinesOk_7 : InsB md_deadlinesOk 7 (.if_icmp .ge 37) 3 10 (37) 44 := ⟨by decide +kernel, rfl, by decide, by decide⟩
theorem o_deadlinesOk_10 : InsA md_deadlinesOk 10 (.aload_n 0) 1 11 := ⟨by decide +kernel, rfl⟩
theorem o_deadlinesOk_11 : InsA md_deadlinesOk 11 (.iload_n 1) 1 12 := ⟨by decide +kernel, rfl⟩
theorem o_deadlinesOk_12 : InsA md_deadlinesOk 12 (.aload_n 0) 1 13 := ⟨by decide +kernel, rfl⟩
theorem o_deadlinesOk_13 : InsA md_deadlinesOk 13 (.getfield 7) 3 16 := ⟨by decide +kernel, rfl⟩
theorem o_deadlinesOk_16 : InsA md_deadlinesOk 16 (.iload_n 2) 1 17 := ⟨by decide +kernel, rfl⟩
theorem o_deadlinesOk_17 : InsA md_deadlinesOk 17 (.iaload) 1 18 := ⟨by decide +kernel, rfl⟩
theorem o_deadlinesOk_18 : InsA md_deadlinesOk 18 (.invokevirtual 64) 3 21 := ⟨by decide +kernel, rfl⟩
theorem o_deadlinesOk_21 : InsA md_deadlinesOk 21 (.istore_n 3) 1 22 := ⟨by decide +kernel, rfl⟩
theorem o_deadlinesOk_22 : InsA md_deadlinesOk 22 (.iconst 2) 1 23 := ⟨by decide +kernel, rfl⟩
theorem o_deadlinesOk_23 : InsA md_deadlinesOk 23 (.iload_n 1) 1 24 := ⟨by decide +kernel, rfl⟩
theorem o_deadlinesOk_24 : InsA md_deadlinesOk 24 (.imul) 1 25 := ⟨by decide +kernel, rfl⟩
theorem o_deadlinesOk_25 : InsA md_deadlinesOk 25 (.iload_n 3) 1 26 := ⟨by decide +kernel, rfl⟩
theorem o_deadlinesOk_26 : InsA md_deadlinesOk 26 (.isub) 1 27 := ⟨by decide +kernel, rfl⟩
theorem o_deadlinesOk_27 : InsA md_deadlinesOk 27 (.aload_n 0) 1 28 := ⟨by decide +kernel, rfl⟩
theorem o_deadlinesOk_28 : InsA md_deadlinesOk 28 (.getfield 16) 3 31 := ⟨by decide +kernel, rfl⟩
theorem o_deadlinesOk_31 : InsA md_deadlinesOk 31 (.iload_n 2) 1 32 := ⟨by decide +kernel, rfl⟩
theorem o_deadlinesOk_32 : InsA md_deadlinesOk 32 (.iaload) 1 33 := ⟨by decide +kernel, rfl⟩
theorem o_deadlinesOk_33 : InsB md_deadlinesOk 33 (.if_icmp .le 5) 3 36 (5) 38 := ⟨by decide +kernel, rfl, by decide, by decide⟩
theorem o_deadlinesOk_36 : InsA md_deadlinesOk 36 (.iconst 0) 1 37 := ⟨by decide +kernel, rfl⟩
theorem o_deadlinesOk_37 : InsA md_deadlinesOk 37 (.ireturn) 1 38 := ⟨by decide +kernel, rfl⟩
theorem o_deadlinesOk_38 : InsA md_deadlinesOk 38 (.iinc 2 1) 3 41 := ⟨by decide +kernel, rfl⟩
theorem o_deadlinesOk_41 : InsB md_deadlinesOk 41 (.goto (-39)) 3 44 (-39) 2 := ⟨by decide +kernel, rfl, by decide, by decide⟩
theorem o_deadlinesOk_44 : InsA md_deadlinesOk 44 (.iconst 1) 1 45 := ⟨by decide +kernel, rfl⟩
theorem o_deadlinesOk_45 : InsA md_deadlinesOk 45 (.ireturn) 1 46 := ⟨by decide +kernel, rfl⟩
abbrev md_L_deadlineFails : MD := (⟨"CyclicExecutiveL6", "deadlineFails", "(IIJJ)Z"⟩, method_4_code, 9, some .boolean, { frames := 1, cells := 0, slots := 0, locals := 15 }, 0)
theorem al_L_deadlineFails (x0 : Int32) (x1 : Int32) (x2 : Int64) (x3 : Int64) : (argsToLocals [.int x0, .int x1, .long x2, .long x3].toArray (mxOf md_L_deadlineFails)).toList = [.val (.int x0), .val (.int x1), .val (.long x2), .second, .val (.long x3), .second, .unset, .unset, .unset] := (Jvm.Sym.argsToLocals_toList _ _).trans rfl
theorem cv_L_deadlineFails {Z : State} {a0 : Array Value} (H : OK Z a0) : CalS Z a0 md_L_deadlineFails 4 := ⟨pn_CyclicExecutiveL6, by decide, pd__IIJJ_Z, H.w 119 rfl, H.w 120 rfl, H.w 78 rfl⟩
theorem o_L_deadlineFails_0 : InsA md_L_deadlineFails 0 (.iconst 0) 1 1 := ⟨by decide +kernel, rfl⟩
theorem o_L_deadlineFails_1 : InsA md_L_deadlineFails 1 (.istore 6) 2 3 := ⟨by decide +kernel, rfl⟩
theorem o_L_deadlineFails_3 : InsA md_L_deadlineFails 3 (.iload 6) 2 5 := ⟨by decide +kernel, rfl⟩
theorem o_L_deadlineFails_5 : InsA md_L_deadlineFails 5 (.iload_n 1) 1 6 := ⟨by decide +kernel, rfl⟩
theorem o_L_deadlineFails_6 : InsB md_L_deadlineFails 6 (.if_icmp .ge 50) 3 9 (50) 56 := ⟨by decide +kernel, rfl, by decide, by decide⟩
theorem o_L_deadlineFails_9 : InsA md_L_deadlineFails 9 (.iload 6) 2 11 := ⟨by decide +kernel, rfl⟩
theorem o_L_deadlineFails_11 : InsA md_L_deadlineFails 11 (.bipush 8) 2 13 := ⟨by decide +kernel, rfl⟩
theorem o_L_deadlineFails_13 : InsB md_L_deadlineFails 13 (.if_icmp .ge 43) 3 16 (43) 56 := ⟨by decide +kernel, rfl, by decide, by decide⟩
theorem o_L_deadlineFails_16 : InsA md_L_deadlineFails 16 (.lload_n 2) 1 17 := ⟨by decide +kernel, rfl⟩
theorem o_L_deadlineFails_17 : InsA md_L_deadlineFails 17 (.iload 6) 2 19 := ⟨by decide +kernel, rfl⟩
theorem o_L_deadlineFails_19 : InsA md_L_deadlineFails 19 (.invokestatic 9) 3 22 := ⟨by decide +kernel, rfl⟩
theorem o_L_deadlineFails_22 : InsA md_L_deadlineFails 22 (.istore 7) 2 24 := ⟨by decide +kernel, rfl⟩
theorem o_L_deadlineFails_24 : InsA md_L_deadlineFails 24 (.iload_n 0) 1 25 := ⟨by decide +kernel, rfl⟩
theorem o_L_deadlineFails_25 : InsA md_L_deadlineFails 25 (.iload 7) 2 27 := ⟨by decide +kernel, rfl⟩
theorem o_L_deadlineFails_27 : InsA md_L_deadlineFails 27 (.invokestatic 15) 3 30 := ⟨by decide +kernel, rfl⟩
theorem o_L_deadlineFails_30 : InsA md_L_deadlineFails 30 (.istore 8) 2 32 := ⟨by decide +kernel, rfl⟩
theorem o_L_deadlineFails_32 : InsA md_L_deadlineFails 32 (.iconst 2) 1 33 := ⟨by decide +kernel, rfl⟩
theorem o_L_deadlineFails_33 : InsA md_L_deadlineFails 33 (.iload_n 0) 1 34 := ⟨by decide +kernel, rfl⟩
theorem o_L_deadlineFails_34 : InsA md_L_deadlineFails 34 (.imul) 1 35 := ⟨by decide +kernel, rfl⟩
theorem o_L_deadlineFails_35 : InsA md_L_deadlineFails 35 (.iload 8) 2 37 := ⟨by decide +kernel, rfl⟩
theorem o_L_deadlineFails_37 : InsA md_L_deadlineFails 37 (.isub) 1 38 := ⟨by decide +kernel, rfl⟩
theorem o_L_deadlineFails_38 : InsA md_L_deadlineFails 38 (.lload 4) 2 40 := ⟨by decide +kernel, rfl⟩
theorem o_L_deadlineFails_40 : InsA md_L_deadlineFails 40 (.iload 6) 2 42 := ⟨by decide +kernel, rfl⟩
theorem o_L_deadlineFails_42 : InsA md_L_deadlineFails 42 (.invokestatic 9) 3 45 := ⟨by decide +kernel, rfl⟩
theorem o_L_deadlineFails_45 : InsB md_L_deadlineFails 45 (.if_icmp .le 5) 3 48 (5) 50 := ⟨by decide +kernel, rfl, by decide, by decide⟩
theorem o_L_deadlineFails_48 : InsA md_L_deadlineFails 48 (.iconst 1) 1 49 := ⟨by decide +kernel, rfl⟩
theorem o_L_deadlineFails_49 : InsA md_L_deadlineFails 49 (.ireturn) 1 50 := ⟨by decide +kernel, rfl⟩
theorem o_L_deadlineFails_50 : InsA md_L_deadlineFails 50 (.iinc 6 1) 3 53 := ⟨by decide +kernel, rfl⟩
theorem o_L_deadlineFails_53 : InsB md_L_deadlineFails 53 (.goto (-50)) 3 56 (-50) 3 := ⟨by decide +kernel, rfl, by decide, by decide⟩
theorem o_L_deadlineFails_56 : InsA md_L_deadlineFails 56 (.iconst 0) 1 57 := ⟨by decide +kernel, rfl⟩
theorem o_L_deadlineFails_57 : InsA md_L_deadlineFails 57 (.ireturn) 1 58 := ⟨by decide +kernel, rfl⟩
abbrev md_L_fld : MD := (⟨"CyclicExecutiveL6", "fld", "(JI)I"⟩, method_3_code, 3, some .int, { frames := 0, cells := 0, slots := 0, locals := 0 }, 0)
theorem cv_L_fld {Z : State} {a0 : Array Value} (H : OK Z a0) : CalS Z a0 md_L_fld 2 := ⟨pn_CyclicExecutiveL6, by decide, pd__JI_I, H.w 122 rfl, H.w 123 rfl, H.w 78 rfl⟩
theorem o_L_fld_0 : InsA md_L_fld 0 (.lload_n 0) 1 1 := ⟨by decide +kernel, rfl⟩
theorem o_L_fld_1 : InsA md_L_fld 1 (.bipush 8) 2 3 := ⟨by decide +kernel, rfl⟩
theorem o_L_fld_3 : InsA md_L_fld 3 (.iload_n 2) 1 4 := ⟨by decide +kernel, rfl⟩
theorem o_L_fld_4 : InsA md_L_fld 4 (.imul) 1 5 := ⟨by decide +kernel, rfl⟩
theorem o_L_fld_5 : InsA md_L_fld 5 (.lushr) 1 6 := ⟨by decide +kernel, rfl⟩
theorem o_L_fld_6 : InsA md_L_fld 6 (.ldc2_w 7) 3 9 := ⟨by decide +kernel, rfl⟩
theorem o_L_fld_9 : InsA md_L_fld 9 (.land) 1 10 := ⟨by decide +kernel, rfl⟩
theorem o_L_fld_10 : InsA md_L_fld 10 (.l2i) 1 11 := ⟨by decide +kernel, rfl⟩
theorem o_L_fld_11 : InsA md_L_fld 11 (.ireturn) 1 12 := ⟨by decide +kernel, rfl⟩
abbrev md_initJobs : MD := (⟨"CyclicExecutive", "initJobs", "()V"⟩, prog_1_method_16_code, 4, none, { frames := 0, cells := 0, slots := 0, locals := 0 }, 0)
theorem cv_initJobs {Z : State} {a0 : Array Value} (H : OK Z a0) : CalV Z a0 md_initJobs 0 := ⟨pn_CyclicExecutive, by decide, pd___V, H.w 126 rfl, H.w 128 rfl, H.w 2 rfl, Or.inr ⟨H.w 127 rfl, 16, H.w 1 rfl⟩⟩
theorem o_initJobs_0 : InsA md_initJobs 0 (.iconst 0) 1 1 := ⟨by decide +kernel, rfl⟩
theorem o_initJobs_1 : InsA md_initJobs 1 (.istore_n 1) 1 2 := ⟨by decide +kernel, rfl⟩
theorem o_initJobs_2 : InsA md_initJobs 2 (.iload_n 1) 1 3 := ⟨by decide +kernel, rfl⟩
theorem o_initJobs_3 : InsA md_initJobs 3 (.aload_n 0) 1 4 := ⟨by decide +kernel, rfl⟩
theorem o_initJobs_4 : InsA md_initJobs 4 (.getfield 42) 3 7 := ⟨by decide +kernel, rfl⟩
theorem o_initJobs_7 : InsB md_initJobs 7 (.if_icmp .ge 59) 3 10 (59) 66 := ⟨by decide +kernel, rfl, by decide, by decide⟩
theorem o_initJobs_10 : InsA md_initJobs 10 (.aload_n 0) 1 11 := ⟨by decide +kernel, rfl⟩
theorem o_initJobs_11 : InsA md_initJobs 11 (.getfield 45) 3 14 := ⟨by decide +kernel, rfl⟩
theorem o_initJobs_14 : InsA md_initJobs 14 (.aload_n 0) 1 15 := ⟨by decide +kernel, rfl⟩
theorem o_initJobs_15 : InsA md_initJobs 15 (.getfield 7) 3 18 := ⟨by decide +kernel, rfl⟩
theorem o_initJobs_18 : InsA md_initJobs 18 (.iload_n 1) 1 19 := ⟨by decide +kernel, rfl⟩
theorem o_initJobs_19 : InsA md_initJobs 19 (.iaload) 1 20 := ⟨by decide +kernel, rfl⟩
theorem o_initJobs_20 : InsA md_initJobs 20 (.idiv) 1 21 := ⟨by decide +kernel, rfl⟩
theorem o_initJobs_21 : InsA md_initJobs 21 (.istore_n 2) 1 22 := ⟨by decide +kernel, rfl⟩
theorem o_initJobs_22 : InsA md_initJobs 22 (.iconst 0) 1 23 := ⟨by decide +kernel, rfl⟩
theorem o_initJobs_23 : InsA md_initJobs 23 (.istore_n 3) 1 24 := ⟨by decide +kernel, rfl⟩
theorem o_initJobs_24 : InsA md_initJobs 24 (.iload_n 3) 1 25 := ⟨by decide +kernel, rfl⟩
theorem o_initJobs_25 : InsA md_initJobs 25 (.iload_n 2) 1 26 := ⟨by decide +kernel, rfl⟩
theorem o_initJobs_26 : InsB md_initJobs 26 (.if_icmp .ge 34) 3 29 (34) 60 := ⟨by decide +kernel, rfl, by decide, by decide⟩
theorem o_initJobs_29 : InsA md_initJobs 29 (.iload_n 3) 1 30 := ⟨by decide +kernel, rfl⟩
theorem o_initJobs_30 : InsA md_initJobs 30 (.sipush 128) 3 33 := ⟨by decide +kernel, rfl⟩
theorem o_initJobs_33 : InsB md_initJobs 33 (.if_icmp .ge 27) 3 36 (27) 60 := ⟨by decide +kernel, rfl, by decide, by decide⟩
theorem o_initJobs_36 : InsA md_initJobs 36 (.aload_n 0) 1 37 := ⟨by decide +kernel, rfl⟩
theorem o_initJobs_37 : InsA md_initJobs 37 (.getfield 28) 3 40 := ⟨by decide +kernel, rfl⟩
theorem o_initJobs_40 : InsA md_initJobs 40 (.iload_n 1) 1 41 := ⟨by decide +kernel, rfl⟩
theorem o_initJobs_41 : InsA md_initJobs 41 (.sipush 128) 3 44 := ⟨by decide +kernel, rfl⟩
theorem o_initJobs_44 : InsA md_initJobs 44 (.imul) 1 45 := ⟨by decide +kernel, rfl⟩
theorem o_initJobs_45 : InsA md_initJobs 45 (.iload_n 3) 1 46 := ⟨by decide +kernel, rfl⟩
theorem o_initJobs_46 : InsA md_initJobs 46 (.iadd) 1 47 := ⟨by decide +kernel, rfl⟩
theorem o_initJobs_47 : InsA md_initJobs 47 (.aload_n 0) 1 48 := ⟨by decide +kernel, rfl⟩
theorem o_initJobs_48 : InsA md_initJobs 48 (.getfield 13) 3 51 := ⟨by decide +kernel, rfl⟩
theorem o_initJobs_51 : InsA md_initJobs 51 (.iload_n 1) 1 52 := ⟨by decide +kernel, rfl⟩
theorem o_initJobs_52 : InsA md_initJobs 52 (.iaload) 1 53 := ⟨by decide +kernel, rfl⟩
theorem o_initJobs_53 : InsA md_initJobs 53 (.iastore) 1 54 := ⟨by decide +kernel, rfl⟩
theorem o_initJobs_54 : InsA md_initJobs 54 (.iinc 3 1) 3 57 := ⟨by decide +kernel, rfl⟩
theorem o_initJobs_57 : InsB md_initJobs 57 (.goto (-33)) 3 60 (-33) 24 := ⟨by decide +kernel, rfl, by decide, by decide⟩
theorem o_initJobs_60 : InsA md_initJobs 60 (.iinc 1 1) 3 63 := ⟨by decide +kernel, rfl⟩
theorem o_initJobs_63 : InsB md_initJobs 63 (.goto (-61)) 3 66 (-61) 2 := ⟨by decide +kernel, rfl, by decide, by decide⟩
theorem o_initJobs_66 : InsA md_initJobs 66 (.return_) 1 67 := ⟨by decide +kernel, rfl⟩
abbrev md_fillFrame : MD := (⟨"CyclicExecutive", "fillFrame", "(II)V"⟩, prog_1_method_17_code, 11, none, { frames := 1, cells := 0, slots := 0, locals := 20 }, 0)
theorem cv_fillFrame {Z : State} {a0 : Array Value} (H : OK Z a0) : CalV Z a0 md_fillFrame 2 := ⟨pn_CyclicExecutive, by decide, pd__II_V, H.w 130 rfl, H.w 132 rfl, H.w 2 rfl, Or.inr ⟨H.w 131 rfl, 16, H.w 1 rfl⟩⟩
theorem o_fillFrame_0 : InsA md_fillFrame 0 (.iload_n 1) 1 1 := ⟨by decide +kernel, rfl⟩
theorem o_fillFrame_1 : InsA md_fillFrame 1 (.iconst 1) 1 2 := ⟨by decide +kernel, rfl⟩
theorem o_fillFrame_2 : InsA md_fillFrame 2 (.iadd) 1 3 := ⟨by decide +kernel, rfl⟩
theorem o_fillFrame_3 : InsA md_fillFrame 3 (.iload_n 2) 1 4 := ⟨by decide +kernel, rfl⟩
theorem o_fillFrame_4 : InsA md_fillFrame 4 (.imul) 1 5 := ⟨by decide +kernel, rfl⟩
theorem o_fillFrame_5 : InsA md_fillFrame 5 (.istore_n 3) 1 6 := ⟨by decide +kernel, rfl⟩
theorem o_fillFrame_6 : InsA md_fillFrame 6 (.iload_n 1) 1 7 := ⟨by decide +kernel, rfl⟩
theorem o_fillFrame_7 : InsA md_fillFrame 7 (.iload_n 2) 1 8 := ⟨by decide +kernel, rfl⟩
theorem o_fillFrame_8 : InsA md_fillFrame 8 (.imul) 1 9 := ⟨by decide +kernel, rfl⟩
theorem o_fillFrame_9 : InsA md_fillFrame 9 (.istore 4) 2 11 := ⟨by decide +kernel, rfl⟩
theorem o_fillFrame_11 : InsA md_fillFrame 11 (.iconst 0) 1 12 := ⟨by decide +kernel, rfl⟩
theorem o_fillFrame_12 : InsA md_fillFrame 12 (.istore 5) 2 14 := ⟨by decide +kernel, rfl⟩
theorem o_fillFrame_14 : InsA md_fillFrame 14 (.iload 5) 2 16 := ⟨by decide +kernel, rfl⟩
theorem o_fillFrame_16 : InsA md_fillFrame 16 (.iload_n 2) 1 17 := ⟨by decide +kernel, rfl⟩
theorem o_fillFrame_17 : InsB md_fillFrame 17 (.if_icmp .ge 136) 3 20 (136) 153 := ⟨by decide +kernel, rfl, by decide, by decide⟩
theorem o_fillFrame_20 : InsA md_fillFrame 20 (.iload 4) 2 22 := ⟨by decide +kernel, rfl⟩
theorem o_fillFrame_22 : InsA md_fillFrame 22 (.iload_n 3) 1 23 := ⟨by decide +kernel, rfl⟩
theorem o_fillFrame_23 : InsB md_fillFrame 23 (.if_icmp .ge 130) 3 26 (130) 153 := ⟨by decide +kernel, rfl, by decide, by decide⟩
theorem o_fillFrame_26 : InsA md_fillFrame 26 (.aload_n 0) 1 27 := ⟨by decide +kernel, rfl⟩
theorem o_fillFrame_27 : InsA md_fillFrame 27 (.iload_n 1) 1 28 := ⟨by decide +kernel, rfl⟩
theorem o_fillFrame_28 : InsA md_fillFrame 28 (.iload_n 2) 1 29 := ⟨by decide +kernel, rfl⟩
theorem o_fillFrame_29 : InsA md_fillFrame 29 (.invokevirtual 98) 3 32 := ⟨by decide +kernel, rfl⟩
theorem o_fillFrame_32 : InsA md_fillFrame 32 (.istore 6) 2 34 := ⟨by decide +kernel, rfl⟩
theorem o_fillFrame_34 : InsA md_fillFrame 34 (.iload 6) 2 36 := ⟨by decide +kernel, rfl⟩
theorem o_fillFrame_36 : InsB md_fillFrame 36 (.ifCond .ge 6) 3 39 (6) 42 := ⟨by decide +kernel, rfl, by decide, by decide⟩
theorem o_fillFrame_39 : InsB md_fillFrame 39 (.goto 114) 3 42 (114) 153 := ⟨by decide +kernel, rfl, by decide, by decide⟩
theorem o_fillFrame_42 : InsA md_fillFrame 42 (.aload_n 0) 1 43 := ⟨by decide +kernel, rfl⟩
theorem o_fillFrame_43 : InsA md_fillFrame 43 (.getfield 28) 3 46 := ⟨by decide +kernel, rfl⟩
theorem o_fillFrame_46 : InsA md_fillFrame 46 (.iload 6) 2 48 := ⟨by decide +kernel, rfl⟩
theorem o_fillFrame_48 : InsA md_fillFrame 48 (.iaload) 1 49 := ⟨by decide +kernel, rfl⟩
theorem o_fillFrame_49 : InsA md_fillFrame 49 (.istore 7) 2 51 := ⟨by decide +kernel, rfl⟩
theorem o_fillFrame_51 : InsA md_fillFrame 51 (.iload_n 3) 1 52 := ⟨by decide +kernel, rfl⟩
theorem o_fillFrame_52 : InsA md_fillFrame 52 (.iload 4) 2 54 := ⟨by decide +kernel, rfl⟩
theorem o_fillFrame_54 : InsA md_fillFrame 54 (.isub) 1 55 := ⟨by decide +kernel, rfl⟩
theorem o_fillFrame_55 : InsA md_fillFrame 55 (.iload 7) 2 57 := ⟨by decide +kernel, rfl⟩
theorem o_fillFrame_57 : InsB md_fillFrame 57 (.if_icmp .ge 9) 3 60 (9) 66 := ⟨by decide +kernel, rfl, by decide, by decide⟩
theorem o_fillFrame_60 : InsA md_fillFrame 60 (.iload_n 3) 1 61 := ⟨by decide +kernel, rfl⟩
theorem o_fillFrame_61 : InsA md_fillFrame 61 (.iload 4) 2 63 := ⟨by decide +kernel, rfl⟩
theorem o_fillFrame_63 : InsA md_fillFrame 63 (.isub) 1 64 := ⟨by decide +kernel, rfl⟩
theorem o_fillFrame_64 : InsA md_fillFrame 64 (.istore 7) 2 66 := ⟨by decide +kernel, rfl⟩
theorem o_fillFrame_66 : InsA md_fillFrame 66 (.iload 6) 2 68 := ⟨by decide +kernel, rfl⟩
theorem o_fillFrame_68 : InsA md_fillFrame 68 (.sipush 128) 3 71 := ⟨by decide +kernel, rfl⟩
theorem o_fillFrame_71 : InsA md_fillFrame 71 (.idiv) 1 72 := ⟨by decide +kernel, rfl⟩
theorem o_fillFrame_72 : InsA md_fillFrame 72 (.istore 8) 2 74 := ⟨by decide +kernel, rfl⟩
theorem o_fillFrame_74 : InsA md_fillFrame 74 (.iload 6) 2 76 := ⟨by decide +kernel, rfl⟩
theorem o_fillFrame_76 : InsA md_fillFrame 76 (.sipush 128) 3 79 := ⟨by decide +kernel, rfl⟩
theorem o_fillFrame_79 : InsA md_fillFrame 79 (.irem) 1 80 := ⟨by decide +kernel, rfl⟩
theorem o_fillFrame_80 : InsA md_fillFrame 80 (.istore 9) 2 82 := ⟨by decide +kernel, rfl⟩
theorem o_fillFrame_82 : InsA md_fillFrame 82 (.iload 4) 2 84 := ⟨by decide +kernel, rfl⟩
theorem o_fillFrame_84 : InsA md_fillFrame 84 (.istore 10) 2 86 := ⟨by decide +kernel, rfl⟩
theorem o_fillFrame_86 : InsA md_fillFrame 86 (.iload 10) 2 88 := ⟨by decide +kernel, rfl⟩
theorem o_fillFrame_88 : InsA md_fillFrame 88 (.iload 4) 2 90 := ⟨by decide +kernel, rfl⟩
theorem o_fillFrame_90 : InsA md_fillFrame 90 (.iload 7) 2 92 := ⟨by decide +kernel, rfl⟩
theorem o_fillFrame_92 : InsA md_fillFrame 92 (.iadd) 1 93 := ⟨by decide +kernel, rfl⟩
theorem o_fillFrame_93 : InsB md_fillFrame 93 (.if_icmp .ge 35) 3 96 (35) 128 := ⟨by decide +kernel, rfl, by decide, by decide⟩
theorem o_fillFrame_96 : InsA md_fillFrame 96 (.iload 10) 2 98 := ⟨by decide +kernel, rfl⟩
theorem o_fillFrame_98 : InsA md_fillFrame 98 (.sipush 128) 3 101 := ⟨by decide +kernel, rfl⟩
theorem o_fillFrame_101 : InsB md_fillFrame 101 (.if_icmp .ge 27) 3 104 (27) 128 := ⟨by decide +kernel, rfl, by decide, by decide⟩
theorem o_fillFrame_104 : InsA md_fillFrame 104 (.aload_n 0) 1 105 := ⟨by decide +kernel, rfl⟩
theorem o_fillFrame_105 : InsA md_fillFrame 105 (.getfield 22) 3 108 := ⟨by decide +kernel, rfl⟩
theorem o_fillFrame_108 : InsA md_fillFrame 108 (.iload 10) 2 110 := ⟨by decide +kernel, rfl⟩
theorem o_fillFrame_110 : InsA md_fillFrame 110 (.iload 8) 2 112 := ⟨by decide +kernel, rfl⟩
theorem o_fillFrame_112 : InsA md_fillFrame 112 (.iastore) 1 113 := ⟨by decide +kernel, rfl⟩
theorem o_fillFrame_113 : InsA md_fillFrame 113 (.aload_n 0) 1 114 := ⟨by decide +kernel, rfl⟩
theorem o_fillFrame_114 : InsA md_fillFrame 114 (.getfield 25) 3 117 := ⟨by decide +kernel, rfl⟩
theorem o_fillFrame_117 : InsA md_fillFrame 117 (.iload 10) 2 119 := ⟨by decide +kernel, rfl⟩
theorem o_fillFrame_119 : InsA md_fillFrame 119 (.iload 9) 2 121 := ⟨by decide +kernel, rfl⟩
theorem o_fillFrame_121 : InsA md_fillFrame 121 (.iastore) 1 122 := ⟨by decide +kernel, rfl⟩
theorem o_fillFrame_122 : InsA md_fillFrame 122 (.iinc 10 1) 3 125 := ⟨by decide +kernel, rfl⟩
theorem o_fillFrame_125 : InsB md_fillFrame 125 (.goto (-39)) 3 128 (-39) 86 := ⟨by decide +kernel, rfl, by decide, by decide⟩
theorem o_fillFrame_128 : InsA md_fillFrame 128 (.aload_n 0) 1 129 := ⟨by decide +kernel, rfl⟩
theorem o_fillFrame_129 : InsA md_fillFrame 129 (.getfield 28) 3 132 := ⟨by decide +kernel, rfl⟩
theorem o_fillFrame_132 : InsA md_fillFrame 132 (.iload 6) 2 134 := ⟨by decide +kernel, rfl⟩
theorem o_fillFrame_134 : InsA md_fillFrame 134 (.dup2) 1 135 := ⟨by decide +kernel, rfl⟩
theorem o_fillFrame_135 : InsA md_fillFrame 135 (.iaload) 1 136 := ⟨by decide +kernel, rfl⟩
theorem o_fillFrame_136 : InsA md_fillFrame 136 (.iload 7) 2 138 := ⟨by decide +kernel, rfl⟩
theorem o_fillFrame_138 : InsA md_fillFrame 138 (.isub) 1 139 := ⟨by decide +kernel, rfl⟩
theorem o_fillFrame_139 : InsA md_fillFrame 139 (.iastore) 1 140 := ⟨by decide +kernel, rfl⟩
theorem o_fillFrame_140 : InsA md_fillFrame 140 (.iload 4) 2 142 := ⟨by decide +kernel, rfl⟩
theorem o_fillFrame_142 : InsA md_fillFrame 142 (.iload 7) 2 144 := ⟨by decide +kernel, rfl⟩
theorem o_fillFrame_144 : InsA md_fillFrame 144 (.iadd) 1 145 := ⟨by decide +kernel, rfl⟩
theorem o_fillFrame_145 : InsA md_fillFrame 145 (.istore 4) 2 147 := ⟨by decide +kernel, rfl⟩
theorem o_fillFrame_147 : InsA md_fillFrame 147 (.iinc 5 1) 3 150 := ⟨by decide +kernel, rfl⟩
theorem o_fillFrame_150 : InsB md_fillFrame 150 (.goto (-136)) 3 153 (-136) 14 := ⟨by decide +kernel, rfl, by decide, by decide⟩
theorem o_fillFrame_153 : InsA md_fillFrame 153 (.return_) 1 154 := ⟨by decide +kernel, rfl⟩
abbrev md_pickJob : MD := (⟨"CyclicExecutive", "pickJob", "(II)I"⟩, prog_1_method_18_code, 9, some .int, { frames := 0, cells := 0, slots := 0, locals := 0 }, 0)
theorem cv_pickJob {Z : State} {a0 : Array Value} (H : OK Z a0) : CalV Z a0 md_pickJob 2 := ⟨pn_CyclicExecutive, by decide, pd__II_I, H.w 134 rfl, H.w 136 rfl, H.w 2 rfl, Or.inr ⟨H.w 135 rfl, 16, H.w 1 rfl⟩⟩
theorem o_pickJob_0 : InsA md_pickJob 0 (.iconst (-1)) 1 1 := ⟨by decide +kernel, rfl⟩
theorem o_pickJob_1 : InsA md_pickJob 1 (.istore_n 3) 1 2 := ⟨by decide +kernel, rfl⟩
theorem o_pickJob_2 : InsA md_pickJob 2 (.iconst 0) 1 3 := ⟨by decide +kernel, rfl⟩
theorem o_pickJob_3 : InsA md_pickJob 3 (.istore 4) 2 5 := ⟨by decide +kernel, rfl⟩
theorem o_pickJob_5 : InsA md_pickJob 5 (.iconst 0) 1 6 := ⟨by decide +kernel, rfl⟩
theorem o_pickJob_6 : InsA md_pickJob 6 (.istore 5) 2 8 := ⟨by decide +kernel, rfl⟩
theorem o_pickJob_8 : InsA md_pickJob 8 (.iload 5) 2 10 := ⟨by decide +kernel, rfl⟩
theorem o_pickJob_10 : InsA md_pickJob 10 (.aload_n 0) 1 11 := ⟨by decide +kernel, rfl⟩
theorem o_pickJob_11 : InsA md_pickJob 11 (.getfield 42) 3 14 := ⟨by decide +kernel, rfl⟩
theorem o_pickJob_14 : InsB md_pickJob 14 (.if_icmp .ge 113) 3 17 (113) 127 := ⟨by decide +kernel, rfl, by decide, by decide⟩
theorem o_pickJob_17 : InsA md_pickJob 17 (.iload_n 1) 1 18 := ⟨by decide +kernel, rfl⟩
theorem o_pickJob_18 : InsA md_pickJob 18 (.iload_n 2) 1 19 := ⟨by decide +kernel, rfl⟩
theorem o_pickJob_19 : InsA md_pickJob 19 (.imul) 1 20 := ⟨by decide +kernel, rfl⟩
theorem o_pickJob_20 : InsA md_pickJob 20 (.aload_n 0) 1 21 := ⟨by decide +kernel, rfl⟩
theorem o_pickJob_21 : InsA md_pickJob 21 (.getfield 7) 3 24 := ⟨by decide +kernel, rfl⟩
theorem o_pickJob_24 : InsA md_pickJob 24 (.iload 5) 2 26 := ⟨by decide +kernel, rfl⟩
theorem o_pickJob_26 : InsA md_pickJob 26 (.iaload) 1 27 := ⟨by decide +kernel, rfl⟩
theorem o_pickJob_27 : InsA md_pickJob 27 (.idiv) 1 28 := ⟨by decide +kernel, rfl⟩
theorem o_pickJob_28 : InsA md_pickJob 28 (.istore 6) 2 30 := ⟨by decide +kernel, rfl⟩
theorem o_pickJob_30 : InsA md_pickJob 30 (.iload 6) 2 32 := ⟨by decide +kernel, rfl⟩
theorem o_pickJob_32 : InsB md_pickJob 32 (.ifCond .lt 89) 3 35 (89) 121 := ⟨by decide +kernel, rfl, by decide, by decide⟩
theorem o_pickJob_35 : InsA md_pickJob 35 (.iload 6) 2 37 := ⟨by decide +kernel, rfl⟩
theorem o_pickJob_37 : InsA md_pickJob 37 (.sipush 128) 3 40 := ⟨by decide +kernel, rfl⟩
theorem o_pickJob_40 : InsB md_pickJob 40 (.if_icmp .lt 6) 3 43 (6) 46 := ⟨by decide +kernel, rfl, by decide, by decide⟩
theorem o_pickJob_43 : InsB md_pickJob 43 (.goto 78) 3 46 (78) 121 := ⟨by decide +kernel, rfl, by decide, by decide⟩
theorem o_pickJob_46 : InsA md_pickJob 46 (.iload 6) 2 48 := ⟨by decide +kernel, rfl⟩
theorem o_pickJob_48 : InsA md_pickJob 48 (.aload_n 0) 1 49 := ⟨by decide +kernel, rfl⟩
theorem o_pickJob_49 : InsA md_pickJob 49 (.getfield 7) 3 52 := ⟨by decide +kernel, rfl⟩
theorem o_pickJob_52 : InsA md_pickJob 52 (.iload 5) 2 54 := ⟨by decide +kernel, rfl⟩
theorem o_pickJob_54 : InsA md_pickJob 54 (.iaload) 1 55 := ⟨by decide +kernel, rfl⟩
theorem o_pickJob_55 : InsA md_pickJob 55 (.imul) 1 56 := ⟨by decide +kernel, rfl⟩
theorem o_pickJob_56 : InsA md_pickJob 56 (.aload_n 0) 1 57 := ⟨by decide +kernel, rfl⟩
theorem o_pickJob_57 : InsA md_pickJob 57 (.getfield 16) 3 60 := ⟨by decide +kernel, rfl⟩
theorem o_pickJob_60 : InsA md_pickJob 60 (.iload 5) 2 62 := ⟨by decide +kernel, rfl⟩
theorem o_pickJob_62 : InsA md_pickJob 62 (.iaload) 1 63 := ⟨by decide +kernel, rfl⟩
theorem o_pickJob_63 : InsA md_pickJob 63 (.iadd) 1 64 := ⟨by decide +kernel, rfl⟩
theorem o_pickJob_64 : InsA md_pickJob 64 (.istore 7) 2 66 := ⟨by decide +kernel, rfl⟩
theorem o_pickJob_66 : InsA md_pickJob 66 (.iload_n 1) 1 67 := ⟨by decide +kernel, rfl⟩
theorem o_pickJob_67 : InsA md_pickJob 67 (.iconst 1) 1 68 := ⟨by decide +kernel, rfl⟩
theorem o_pickJob_68 : InsA md_pickJob 68 (.iadd) 1 69 := ⟨by decide +kernel, rfl⟩
theorem o_pickJob_69 : InsA md_pickJob 69 (.iload_n 2) 1 70 := ⟨by decide +kernel, rfl⟩
theorem o_pickJob_70 : InsA md_pickJob 70 (.imul) 1 71 := ⟨by decide +kernel, rfl⟩
theorem o_pickJob_71 : InsA md_pickJob 71 (.iload 7) 2 73 := ⟨by decide +kernel, rfl⟩
theorem o_pickJob_73 : InsB md_pickJob 73 (.if_icmp .le 6) 3 76 (6) 79 := ⟨by decide +kernel, rfl, by decide, by decide⟩
theorem o_pickJob_76 : InsB md_pickJob 76 (.goto 45) 3 79 (45) 121 := ⟨by decide +kernel, rfl, by decide, by decide⟩
theorem o_pickJob_79 : InsA md_pickJob 79 (.iload 5) 2 81 := ⟨by decide +kernel, rfl⟩
theorem o_pickJob_81 : InsA md_pickJob 81 (.sipush 128) 3 84 := ⟨by decide +kernel, rfl⟩
theorem o_pickJob_84 : InsA md_pickJob 84 (.imul) 1 85 := ⟨by decide +kernel, rfl⟩
theorem o_pickJob_85 : InsA md_pickJob 85 (.iload 6) 2 87 := ⟨by decide +kernel, rfl⟩
theorem o_pickJob_87 : InsA md_pickJob 87 (.iadd) 1 88 := ⟨by decide +kernel, rfl⟩
theorem o_pickJob_88 : InsA md_pickJob 88 (.istore 8) 2 90 := ⟨by decide +kernel, rfl⟩
theorem o_pickJob_90 : InsA md_pickJob 90 (.aload_n 0) 1 91 := ⟨by decide +kernel, rfl⟩
theorem o_pickJob_91 : InsA md_pickJob 91 (.getfield 28) 3 94 := ⟨by decide +kernel, rfl⟩
theorem o_pickJob_94 : InsA md_pickJob 94 (.iload 8) 2 96 := ⟨by decide +kernel, rfl⟩
theorem o_pickJob_96 : InsA md_pickJob 96 (.iaload) 1 97 := ⟨by decide +kernel, rfl⟩
theorem o_pickJob_97 : InsB md_pickJob 97 (.ifCond .gt 6) 3 100 (6) 103 := ⟨by decide +kernel, rfl, by decide, by decide⟩
theorem o_pickJob_100 : InsB md_pickJob 100 (.goto 21) 3 103 (21) 121 := ⟨by decide +kernel, rfl, by decide, by decide⟩
theorem o_pickJob_103 : InsA md_pickJob 103 (.iload_n 3) 1 104 := ⟨by decide +kernel, rfl⟩
theorem o_pickJob_104 : InsB md_pickJob 104 (.ifCond .lt 10) 3 107 (10) 114 := ⟨by decide +kernel, rfl, by decide, by decide⟩
theorem o_pickJob_107 : InsA md_pickJob 107 (.iload 7) 2 109 := ⟨by decide +kernel, rfl⟩
theorem o_pickJob_109 : InsA md_pickJob 109 (.iload 4) 2 111 := ⟨by decide +kernel, rfl⟩
theorem o_pickJob_111 : InsB md_pickJob 111 (.if_icmp .ge 10) 3 114 (10) 121 := ⟨by decide +kernel, rfl, by decide, by decide⟩
theorem o_pickJob_114 : InsA md_pickJob 114 (.iload 8) 2 116 := ⟨by decide +kernel, rfl⟩
theorem o_pickJob_116 : InsA md_pickJob 116 (.istore_n 3) 1 117 := ⟨by decide +kernel, rfl⟩
theorem o_pickJob_117 : InsA md_pickJob 117 (.iload 7) 2 119 := ⟨by decide +kernel, rfl⟩
theorem o_pickJob_119 : InsA md_pickJob 119 (.istore 4) 2 121 := ⟨by decide +kernel, rfl⟩
theorem o_pickJob_121 : InsA md_pickJob 121 (.iinc 5 1) 3 124 := ⟨by decide +kernel, rfl⟩
theorem o_pickJob_124 : InsB md_pickJob 124 (.goto (-116)) 3 127 (-116) 8 := ⟨by decide +kernel, rfl, by decide, by decide⟩
theorem o_pickJob_127 : InsA md_pickJob 127 (.iload_n 3) 1 128 := ⟨by decide +kernel, rfl⟩
theorem o_pickJob_128 : InsA md_pickJob 128 (.ireturn) 1 129 := ⟨by decide +kernel, rfl⟩
abbrev md_findMiss : MD := (⟨"CyclicExecutive", "findMiss", "()I"⟩, prog_1_method_19_code, 8, some .int, { frames := 0, cells := 0, slots := 0, locals := 0 }, 0)
theorem cv_findMiss {Z : State} {a0 : Array Value} (H : OK Z a0) : CalV Z a0 md_findMiss 0 := ⟨pn_CyclicExecutive, by decide, pd___I, H.w 138 rfl, H.w 140 rfl, H.w 2 rfl, Or.inr ⟨H.w 139 rfl, 16, H.w 1 rfl⟩⟩
theorem o_findMiss_0 : InsA md_findMiss 0 (.iconst (-1)) 1 1 := ⟨by decide +kernel, rfl⟩
theorem o_findMiss_1 : InsA md_findMiss 1 (.istore_n 1) 1 2 := ⟨by decide +kernel, rfl⟩
theorem o_findMiss_2 : InsA md_findMiss 2 (.iconst 0) 1 3 := ⟨by decide +kernel, rfl⟩
theorem o_findMiss_3 : InsA md_findMiss 3 (.istore_n 2) 1 4 := ⟨by decide +kernel, rfl⟩
theorem o_findMiss_4 : InsA md_findMiss 4 (.iconst 0) 1 5 := ⟨by decide +kernel, rfl⟩
theorem o_findMiss_5 : InsA md_findMiss 5 (.istore_n 3) 1 6 := ⟨by decide +kernel, rfl⟩
theorem o_findMiss_6 : InsA md_findMiss 6 (.iload_n 3) 1 7 := ⟨by decide +kernel, rfl⟩
theorem o_findMiss_7 : InsA md_findMiss 7 (.aload_n 0) 1 8 := ⟨by decide +kernel, rfl⟩
theorem o_findMiss_8 : InsA md_findMiss 8 (.getfield 42) 3 11 := ⟨by decide +kernel, rfl⟩
theorem o_findMiss_11 : InsB md_findMiss 11 (.if_icmp .ge 103) 3 14 (103) 114 := ⟨by decide +kernel, rfl, by decide, by decide⟩
theorem o_findMiss_14 : InsA md_findMiss 14 (.aload_n 0) 1 15 := ⟨by decide +kernel, rfl⟩
theorem o_findMiss_15 : InsA md_findMiss 15 (.getfield 45) 3 18 := ⟨by decide +kernel, rfl⟩
theorem o_findMiss_18 : InsA md_findMiss 18 (.aload_n 0) 1 19 := ⟨by decide +kernel, rfl⟩
theorem o_findMiss_19 : InsA md_findMiss 19 (.getfield 7) 3 22 := ⟨by decide +kernel, rfl⟩
theorem o_findMiss_22 : InsA md_findMiss 22 (.iload_n 3) 1 23 := ⟨by decide +kernel, rfl⟩
theorem o_findMiss_23 : InsA md_findMiss 23 (.iaload) 1 24 := ⟨by decide +kernel, rfl⟩
theorem o_findMiss_24 : InsA md_findMiss 24 (.idiv) 1 25 := ⟨by decide +kernel, rfl⟩
theorem o_findMiss_25 : InsA md_findMiss 25 (.istore 4) 2 27 := ⟨by decide +kernel, rfl⟩
theorem o_findMiss_27 : InsA md_findMiss 27 (.iconst 0) 1 28 := ⟨by decide +kernel, rfl⟩
theorem o_findMiss_28 : InsA md_findMiss 28 (.istore 5) 2 30 := ⟨by decide +kernel, rfl⟩
theorem o_findMiss_30 : InsA md_findMiss 30 (.iload 5) 2 32 := ⟨by decide +kernel, rfl⟩
theorem o_findMiss_32 : InsA md_findMiss 32 (.iload 4) 2 34 := ⟨by decide +kernel, rfl⟩
theorem o_findMiss_34 : InsB md_findMiss 34 (.if_icmp .ge 74) 3 37 (74) 108 := ⟨by decide +kernel, rfl, by decide, by decide⟩
theorem o_findMiss_37 : InsA md_findMiss 37 (.iload 5) 2 39 := ⟨by decide +kernel, rfl⟩
theorem o_findMiss_39 : InsA md_findMiss 39 (.sipush 128) 3 42 := ⟨by decide +kernel, rfl⟩
theorem o_findMiss_42 : InsB md_findMiss 42 (.if_icmp .ge 66) 3 45 (66) 108 := ⟨by decide +kernel, rfl, by decide, by decide⟩
theorem o_findMiss_45 : InsA md_findMiss 45 (.iload_n 3) 1 46 := ⟨by decide +kernel, rfl⟩
theorem o_findMiss_46 : InsA md_findMiss 46 (.sipush 128) 3 49 := ⟨by decide +kernel, rfl⟩
theorem o_findMiss_49 : InsA md_findMiss 49 (.imul) 1 50 := ⟨by decide +kernel, rfl⟩
theorem o_findMiss_50 : InsA md_findMiss 50 (.iload 5) 2 52 := ⟨by decide +kernel, rfl⟩
theorem o_findMiss_52 : InsA md_findMiss 52 (.iadd) 1 53 := ⟨by decide +kernel, rfl⟩
theorem o_findMiss_53 : InsA md_findMiss 53 (.istore 6) 2 55 := ⟨by decide +kernel, rfl⟩
theorem o_findMiss_55 : InsA md_findMiss 55 (.aload_n 0) 1 56 := ⟨by decide +kernel, rfl⟩
theorem o_findMiss_56 : InsA md_findMiss 56 (.getfield 28) 3 59 := ⟨by decide +kernel, rfl⟩
theorem o_findMiss_59 : InsA md_findMiss 59 (.iload 6) 2 61 := ⟨by decide +kernel, rfl⟩
theorem o_findMiss_61 : InsA md_findMiss 61 (.iaload) 1 62 := ⟨by decide +kernel, rfl⟩
theorem o_findMiss_62 : InsB md_findMiss 62 (.ifCond .gt 6) 3 65 (6) 68 := ⟨by decide +kernel, rfl, by decide, by decide⟩
theorem o_findMiss_65 : InsB md_findMiss 65 (.goto 37) 3 68 (37) 102 := ⟨by decide +kernel, rfl, by decide, by decide⟩
theorem o_findMiss_68 : InsA md_findMiss 68 (.iload 5) 2 70 := ⟨by decide +kernel, rfl⟩
theorem o_findMiss_70 : InsA md_findMiss 70 (.aload_n 0) 1 71 := ⟨by decide +kernel, rfl⟩
theorem o_findMiss_71 : InsA md_findMiss 71 (.getfield 7) 3 74 := ⟨by decide +kernel, rfl⟩
theorem o_findMiss_74 : InsA md_findMiss 74 (.iload_n 3) 1 75 := ⟨by decide +kernel, rfl⟩
theorem o_findMiss_75 : InsA md_findMiss 75 (.iaload) 1 76 := ⟨by decide +kernel, rfl⟩
theorem o_findMiss_76 : InsA md_findMiss 76 (.imul) 1 77 := ⟨by decide +kernel, rfl⟩
theorem o_findMiss_77 : InsA md_findMiss 77 (.aload_n 0) 1 78 := ⟨by decide +kernel, rfl⟩
theorem o_findMiss_78 : InsA md_findMiss 78 (.getfield 16) 3 81 := ⟨by decide +kernel, rfl⟩
theorem o_findMiss_81 : InsA md_findMiss 81 (.iload_n 3) 1 82 := ⟨by decide +kernel, rfl⟩
theorem o_findMiss_82 : InsA md_findMiss 82 (.iaload) 1 83 := ⟨by decide +kernel, rfl⟩
theorem o_findMiss_83 : InsA md_findMiss 83 (.iadd) 1 84 := ⟨by decide +kernel, rfl⟩
theorem o_findMiss_84 : InsA md_findMiss 84 (.istore 7) 2 86 := ⟨by decide +kernel, rfl⟩
theorem o_findMiss_86 : InsA md_findMiss 86 (.iload_n 1) 1 87 := ⟨by decide +kernel, rfl⟩
theorem o_findMiss_87 : InsB md_findMiss 87 (.ifCond .lt 9) 3 90 (9) 96 := ⟨by decide +kernel, rfl, by decide, by decide⟩
theorem o_findMiss_90 : InsA md_findMiss 90 (.iload 7) 2 92 := ⟨by decide +kernel, rfl⟩
theorem o_findMiss_92 : InsA md_findMiss 92 (.iload_n 2) 1 93 := ⟨by decide +kernel, rfl⟩
theorem o_findMiss_93 : InsB md_findMiss 93 (.if_icmp .ge 9) 3 96 (9) 102 := ⟨by decide +kernel, rfl, by decide, by decide⟩
theorem o_findMiss_96 : InsA md_findMiss 96 (.iload 6) 2 98 := ⟨by decide +kernel, rfl⟩
theorem o_findMiss_98 : InsA md_findMiss 98 (.istore_n 1) 1 99 := ⟨by decide +kernel, rfl⟩
theorem o_findMiss_99 : InsA md_findMiss 99 (.iload 7) 2 101 := ⟨by decide +kernel, rfl⟩
theorem o_findMiss_101 : InsA md_findMiss 101 (.istore_n 2) 1 102 := ⟨by decide +kernel, rfl⟩
theorem o_findMiss_102 : InsA md_findMiss 102 (.iinc 5 1) 3 105 := ⟨by decide +kernel, rfl⟩
theorem o_findMiss_105 : InsB md_findMiss 105 (.goto (-75)) 3 108 (-75) 30 := ⟨by decide +kernel, rfl, by decide, by decide⟩
theorem o_findMiss_108 : InsA md_findMiss 108 (.iinc 3 1) 3 111 := ⟨by decide +kernel, rfl⟩
theorem o_findMiss_111 : InsB md_findMiss 111 (.goto (-105)) 3 114 (-105) 6 := ⟨by decide +kernel, rfl, by decide, by decide⟩
theorem o_findMiss_114 : InsA md_findMiss 114 (.iload_n 1) 1 115 := ⟨by decide +kernel, rfl⟩
theorem o_findMiss_115 : InsA md_findMiss 115 (.ireturn) 1 116 := ⟨by decide +kernel, rfl⟩
abbrev md_L_law : MD := (x, code, maxLocals, ret, room_1, 8)
theorem o_L_law_0 : InsA md_L_law 0 (.new 20) 3 3 := ⟨at_0, rfl⟩
theorem o_L_law_3 : InsA md_L_law 3 (.dup) 1 4 := ⟨at_3, rfl⟩
theorem o_L_law_4 : InsA md_L_law 4 (.iconst 4) 1 5 := ⟨at_4, rfl⟩
theorem o_L_law_5 : InsA md_L_law 5 (.bipush 60) 2 7 := ⟨at_5, rfl⟩
theorem o_L_law_7 : InsA md_L_law 7 (.invokespecial 25) 3 10 := ⟨at_7, rfl⟩
theorem o_L_law_10 : InsA md_L_law 10 (.astore_n 1) 1 11 := ⟨at_10, rfl⟩
theorem o_L_law_11 : InsA md_L_law 11 (.iconst 0) 1 12 := ⟨at_11, rfl⟩
theorem o_L_law_12 : InsA md_L_law 12 (.istore_n 2) 1 13 := ⟨at_12, rfl⟩
theorem o_L_law_13 : InsA md_L_law 13 (.iconst 0) 1 14 := ⟨at_13, rfl⟩
theorem o_L_law_14 : InsA md_L_law 14 (.istore_n 3) 1 15 := ⟨at_14, rfl⟩
theorem o_L_law_15 : InsA md_L_law 15 (.iconst 0) 1 16 := ⟨at_15, rfl⟩
theorem o_L_law_16 : InsA md_L_law 16 (.istore 4) 2 18 := ⟨at_16, rfl⟩
theorem o_L_law_18 : InsA md_L_law 18 (.iconst 0) 1 19 := ⟨at_18, rfl⟩
theorem o_L_law_19 : InsA md_L_law 19 (.istore 5) 2 21 := ⟨at_19, rfl⟩
theorem o_L_law_21 : InsA md_L_law 21 (.iconst (-1)) 1 22 := ⟨at_21, rfl⟩
theorem o_L_law_22 : InsA md_L_law 22 (.istore 6) 2 24 := ⟨at_22, rfl⟩
theorem o_L_law_24 : InsA md_L_law 24 (.lconst 0) 1 25 := ⟨at_24, rfl⟩
theorem o_L_law_25 : InsA md_L_law 25 (.lstore 7) 2 27 := ⟨at_25, rfl⟩
theorem o_L_law_27 : InsA md_L_law 27 (.lconst 0) 1 28 := ⟨at_27, rfl⟩
theorem o_L_law_28 : InsA md_L_law 28 (.lstore 9) 2 30 := ⟨at_28, rfl⟩
theorem o_L_law_30 : InsA md_L_law 30 (.lconst 0) 1 31 := ⟨at_30, rfl⟩
theorem o_L_law_31 : InsA md_L_law 31 (.lstore 11) 2 33 := ⟨at_31, rfl⟩
theorem o_L_law_33 : InsA md_L_law 33 (.iconst 0) 1 34 := ⟨at_33, rfl⟩
theorem o_L_law_34 : InsA md_L_law 34 (.istore 13) 2 36 := ⟨at_34, rfl⟩
theorem o_L_law_36 : InsA md_L_law 36 (.iload 13) 2 38 := ⟨at_36, rfl⟩
theorem o_L_law_38 : InsA md_L_law 38 (.iconst 3) 1 39 := ⟨at_38, rfl⟩
theorem o_L_law_39 : InsA md_L_law 39 (.iadd) 1 40 := ⟨at_39, rfl⟩
theorem o_L_law_40 : InsA md_L_law 40 (.aload_n 0) 1 41 := ⟨at_40, rfl⟩
theorem o_L_law_41 : InsA md_L_law 41 (.arraylength) 1 42 := ⟨at_41, rfl⟩
theorem o_L_law_42 : InsB md_L_law 42 (.if_icmp .ge 509) 3 45 (509) 551 := ⟨at_42, rfl, by decide, by decide⟩
theorem o_L_law_45 : InsA md_L_law 45 (.iload 13) 2 47 := ⟨at_45, rfl⟩
theorem o_L_law_47 : InsA md_L_law 47 (.sipush 400) 3 50 := ⟨at_47, rfl⟩
theorem o_L_law_50 : InsB md_L_law 50 (.if_icmp .ge 501) 3 53 (501) 551 := ⟨at_50, rfl, by decide, by decide⟩
theorem o_L_law_53 : InsA md_L_law 53 (.aload_n 0) 1 54 := ⟨at_53, rfl⟩
theorem o_L_law_54 : InsA md_L_law 54 (.iload 13) 2 56 := ⟨at_54, rfl⟩
theorem o_L_law_56 : InsA md_L_law 56 (.iaload) 1 57 := ⟨at_56, rfl⟩
theorem o_L_law_57 : InsA md_L_law 57 (.iconst 3) 1 58 := ⟨at_57, rfl⟩
theorem o_L_law_58 : InsA md_L_law 58 (.iand) 1 59 := ⟨at_58, rfl⟩
theorem o_L_law_59 : InsA md_L_law 59 (.istore 14) 2 61 := ⟨at_59, rfl⟩
theorem o_L_law_61 : InsA md_L_law 61 (.aload_n 0) 1 62 := ⟨at_61, rfl⟩
theorem o_L_law_62 : InsA md_L_law 62 (.iload 13) 2 64 := ⟨at_62, rfl⟩
theorem o_L_law_64 : InsA md_L_law 64 (.iconst 1) 1 65 := ⟨at_64, rfl⟩
theorem o_L_law_65 : InsA md_L_law 65 (.iadd) 1 66 := ⟨at_65, rfl⟩
theorem o_L_law_66 : InsA md_L_law 66 (.iaload) 1 67 := ⟨at_66, rfl⟩
theorem o_L_law_67 : InsA md_L_law 67 (.istore 15) 2 69 := ⟨at_67, rfl⟩
theorem o_L_law_69 : InsA md_L_law 69 (.aload_n 0) 1 70 := ⟨at_69, rfl⟩
theorem o_L_law_70 : InsA md_L_law 70 (.iload 13) 2 72 := ⟨at_70, rfl⟩
theorem o_L_law_72 : InsA md_L_law 72 (.iconst 2) 1 73 := ⟨at_72, rfl⟩
theorem o_L_law_73 : InsA md_L_law 73 (.iadd) 1 74 := ⟨at_73, rfl⟩
theorem o_L_law_74 : InsA md_L_law 74 (.iaload) 1 75 := ⟨at_74, rfl⟩
theorem o_L_law_75 : InsA md_L_law 75 (.istore 16) 2 77 := ⟨at_75, rfl⟩
theorem o_L_law_77 : InsA md_L_law 77 (.aload_n 0) 1 78 := ⟨at_77, rfl⟩
theorem o_L_law_78 : InsA md_L_law 78 (.iload 13) 2 80 := ⟨at_78, rfl⟩
theorem o_L_law_80 : InsA md_L_law 80 (.iconst 3) 1 81 := ⟨at_80, rfl⟩
theorem o_L_law_81 : InsA md_L_law 81 (.iadd) 1 82 := ⟨at_81, rfl⟩
theorem o_L_law_82 : InsA md_L_law 82 (.iaload) 1 83 := ⟨at_82, rfl⟩
theorem o_L_law_83 : InsA md_L_law 83 (.istore 17) 2 85 := ⟨at_83, rfl⟩
theorem o_L_law_85 : InsA md_L_law 85 (.iload 14) 2 87 := ⟨at_85, rfl⟩
theorem o_L_law_87 : InsA md_L_law 87 (.iconst 1) 1 88 := ⟨at_87, rfl⟩
theorem o_L_law_88 : InsB md_L_law 88 (.if_icmp .gt 176) 3 91 (176) 264 := ⟨at_88, rfl, by decide, by decide⟩
theorem o_L_law_91 : InsA md_L_law 91 (.iload 15) 2 93 := ⟨at_91, rfl⟩
theorem o_L_law_93 : InsA md_L_law 93 (.bipush 7) 2 95 := ⟨at_93, rfl⟩
theorem o_L_law_95 : InsA md_L_law 95 (.iand) 1 96 := ⟨at_95, rfl⟩
theorem o_L_law_96 : InsA md_L_law 96 (.iconst 1) 1 97 := ⟨at_96, rfl⟩
theorem o_L_law_97 : InsA md_L_law 97 (.iadd) 1 98 := ⟨at_97, rfl⟩
theorem o_L_law_98 : InsA md_L_law 98 (.istore 18) 2 100 := ⟨at_98, rfl⟩
theorem o_L_law_100 : InsA md_L_law 100 (.iload 16) 2 102 := ⟨at_100, rfl⟩
theorem o_L_law_102 : InsA md_L_law 102 (.iconst 3) 1 103 := ⟨at_102, rfl⟩
theorem o_L_law_103 : InsA md_L_law 103 (.iand) 1 104 := ⟨at_103, rfl⟩
theorem o_L_law_104 : InsA md_L_law 104 (.iconst 1) 1 105 := ⟨at_104, rfl⟩
theorem o_L_law_105 : InsA md_L_law 105 (.iadd) 1 106 := ⟨at_105, rfl⟩
theorem o_L_law_106 : InsA md_L_law 106 (.istore 19) 2 108 := ⟨at_106, rfl⟩
theorem o_L_law_108 : InsA md_L_law 108 (.iload 18) 2 110 := ⟨at_108, rfl⟩
theorem o_L_law_110 : InsA md_L_law 110 (.iload 17) 2 112 := ⟨at_110, rfl⟩
theorem o_L_law_112 : InsA md_L_law 112 (.iconst 1) 1 113 := ⟨at_112, rfl⟩
theorem o_L_law_113 : InsA md_L_law 113 (.iand) 1 114 := ⟨at_113, rfl⟩
theorem o_L_law_114 : InsA md_L_law 114 (.isub) 1 115 := ⟨at_114, rfl⟩
theorem o_L_law_115 : InsA md_L_law 115 (.istore 20) 2 117 := ⟨at_115, rfl⟩
theorem o_L_law_117 : InsA md_L_law 117 (.aload_n 1) 1 118 := ⟨at_117, rfl⟩
theorem o_L_law_118 : InsA md_L_law 118 (.iload 18) 2 120 := ⟨at_118, rfl⟩
theorem o_L_law_120 : InsA md_L_law 120 (.iload 19) 2 122 := ⟨at_120, rfl⟩
theorem o_L_law_122 : InsA md_L_law 122 (.iload 20) 2 124 := ⟨at_122, rfl⟩
theorem o_L_law_124 : InsA md_L_law 124 (.invokevirtual 28) 3 127 := ⟨at_124, rfl⟩
theorem o_L_law_127 : InsA md_L_law 127 (.istore 21) 2 129 := ⟨at_127, rfl⟩
theorem o_L_law_129 : InsA md_L_law 129 (.iload_n 3) 1 130 := ⟨at_129, rfl⟩
theorem o_L_law_130 : InsB md_L_law 130 (.ifCond .ne 8) 3 133 (8) 138 := ⟨at_130, rfl, by decide, by decide⟩
theorem o_L_law_133 : InsA md_L_law 133 (.iload 18) 2 135 := ⟨at_133, rfl⟩
theorem o_L_law_135 : InsB md_L_law 135 (.goto 14) 3 138 (14) 149 := ⟨at_135, rfl, by decide, by decide⟩
theorem o_L_law_138 : InsA md_L_law 138 (.iload_n 3) 1 139 := ⟨at_138, rfl⟩
theorem o_L_law_139 : InsA md_L_law 139 (.iload_n 3) 1 140 := ⟨at_139, rfl⟩
theorem o_L_law_140 : InsA md_L_law 140 (.iload 18) 2 142 := ⟨at_140, rfl⟩
theorem o_L_law_142 : InsA md_L_law 142 (.invokestatic 15) 3 145 := ⟨at_142, rfl⟩
theorem o_L_law_145 : InsA md_L_law 145 (.idiv) 1 146 := ⟨at_145, rfl⟩
theorem o_L_law_146 : InsA md_L_law 146 (.iload 18) 2 148 := ⟨at_146, rfl⟩
theorem o_L_law_148 : InsA md_L_law 148 (.imul) 1 149 := ⟨at_148, rfl⟩
theorem o_L_law_149 : InsA md_L_law 149 (.istore 22) 2 151 := ⟨at_149, rfl⟩
theorem o_L_law_151 : InsA md_L_law 151 (.iload 20) 2 153 := ⟨at_151, rfl⟩
theorem o_L_law_153 : InsA md_L_law 153 (.iconst 1) 1 154 := ⟨at_153, rfl⟩
theorem o_L_law_154 : InsB md_L_law 154 (.if_icmp .lt 10) 3 157 (10) 164 := ⟨at_154, rfl, by decide, by decide⟩
theorem o_L_law_157 : InsA md_L_law 157 (.iload 19) 2 159 := ⟨at_157, rfl⟩
theorem o_L_law_159 : InsA md_L_law 159 (.iload 20) 2 161 := ⟨at_159, rfl⟩
theorem o_L_law_161 : InsB md_L_law 161 (.if_icmp .le 7) 3 164 (7) 168 := ⟨at_161, rfl, by decide, by decide⟩
theorem o_L_law_164 : InsA md_L_law 164 (.iconst (-1)) 1 165 := ⟨at_164, rfl⟩
theorem o_L_law_165 : InsB md_L_law 165 (.goto 26) 3 168 (26) 191 := ⟨at_165, rfl, by decide, by decide⟩
theorem o_L_law_168 : InsA md_L_law 168 (.iload_n 2) 1 169 := ⟨at_168, rfl⟩
theorem o_L_law_169 : InsA md_L_law 169 (.iconst 4) 1 170 := ⟨at_169, rfl⟩
theorem o_L_law_170 : InsB md_L_law 170 (.if_icmp .ne 8) 3 173 (8) 178 := ⟨at_170, rfl, by decide, by decide⟩
theorem o_L_law_173 : InsA md_L_law 173 (.bipush (-2)) 2 175 := ⟨at_173, rfl⟩
theorem o_L_law_175 : InsB md_L_law 175 (.goto 16) 3 178 (16) 191 := ⟨at_175, rfl, by decide, by decide⟩
theorem o_L_law_178 : InsA md_L_law 178 (.iload 22) 2 180 := ⟨at_178, rfl⟩
theorem o_L_law_180 : InsA md_L_law 180 (.bipush 60) 2 182 := ⟨at_180, rfl⟩
theorem o_L_law_182 : InsB md_L_law 182 (.if_icmp .le 8) 3 185 (8) 190 := ⟨at_182, rfl, by decide, by decide⟩
theorem o_L_law_185 : InsA md_L_law 185 (.bipush (-3)) 2 187 := ⟨at_185, rfl⟩
theorem o_L_law_187 : InsB md_L_law 187 (.goto 4) 3 190 (4) 191 := ⟨at_187, rfl, by decide, by decide⟩
theorem o_L_law_190 : InsA md_L_law 190 (.iload_n 2) 1 191 := ⟨at_190, rfl⟩
theorem o_L_law_191 : InsA md_L_law 191 (.istore 23) 2 193 := ⟨at_191, rfl⟩
theorem o_L_law_193 : InsA md_L_law 193 (.iload 21) 2 195 := ⟨at_193, rfl⟩
theorem o_L_law_195 : InsA md_L_law 195 (.iload 23) 2 197 := ⟨at_195, rfl⟩
theorem o_L_law_197 : InsB md_L_law 197 (.if_icmp .eq 5) 3 200 (5) 202 := ⟨at_197, rfl, by decide, by decide⟩
theorem o_L_law_200 : InsA md_L_law 200 (.iconst 0) 1 201 := ⟨at_200, rfl⟩
theorem o_L_law_201 : InsA md_L_law 201 (.ireturn) 1 202 := ⟨at_201, rfl⟩
theorem o_L_law_202 : InsA md_L_law 202 (.iload 21) 2 204 := ⟨at_202, rfl⟩
theorem o_L_law_204 : InsB md_L_law 204 (.ifCond .lt 57) 3 207 (57) 261 := ⟨at_204, rfl, by decide, by decide⟩
theorem o_L_law_207 : InsA md_L_law 207 (.lload 7) 2 209 := ⟨at_207, rfl⟩
theorem o_L_law_209 : InsA md_L_law 209 (.iload 18) 2 211 := ⟨at_209, rfl⟩
theorem o_L_law_211 : InsA md_L_law 211 (.i2l) 1 212 := ⟨at_211, rfl⟩
theorem o_L_law_212 : InsA md_L_law 212 (.bipush 8) 2 214 := ⟨at_212, rfl⟩
theorem o_L_law_214 : InsA md_L_law 214 (.iload_n 2) 1 215 := ⟨at_214, rfl⟩
theorem o_L_law_215 : InsA md_L_law 215 (.imul) 1 216 := ⟨at_215, rfl⟩
theorem o_L_law_216 : InsA md_L_law 216 (.lshl) 1 217 := ⟨at_216, rfl⟩
theorem o_L_law_217 : InsA md_L_law 217 (.lor) 1 218 := ⟨at_217, rfl⟩
theorem o_L_law_218 : InsA md_L_law 218 (.lstore 7) 2 220 := ⟨at_218, rfl⟩
theorem o_L_law_220 : InsA md_L_law 220 (.lload 9) 2 222 := ⟨at_220, rfl⟩
theorem o_L_law_222 : InsA md_L_law 222 (.iload 19) 2 224 := ⟨at_222, rfl⟩
theorem o_L_law_224 : InsA md_L_law 224 (.i2l) 1 225 := ⟨at_224, rfl⟩
theorem o_L_law_225 : InsA md_L_law 225 (.bipush 8) 2 227 := ⟨at_225, rfl⟩
theorem o_L_law_227 : InsA md_L_law 227 (.iload_n 2) 1 228 := ⟨at_227, rfl⟩
theorem o_L_law_228 : InsA md_L_law 228 (.imul) 1 229 := ⟨at_228, rfl⟩
theorem o_L_law_229 : InsA md_L_law 229 (.lshl) 1 230 := ⟨at_229, rfl⟩
theorem o_L_law_230 : InsA md_L_law 230 (.lor) 1 231 := ⟨at_230, rfl⟩
theorem o_L_law_231 : InsA md_L_law 231 (.lstore 9) 2 233 := ⟨at_231, rfl⟩
theorem o_L_law_233 : InsA md_L_law 233 (.lload 11) 2 235 := ⟨at_233, rfl⟩
theorem o_L_law_235 : InsA md_L_law 235 (.iload 20) 2 237 := ⟨at_235, rfl⟩
theorem o_L_law_237 : InsA md_L_law 237 (.i2l) 1 238 := ⟨at_237, rfl⟩
theorem o_L_law_238 : InsA md_L_law 238 (.bipush 8) 2 240 := ⟨at_238, rfl⟩
theorem o_L_law_240 : InsA md_L_law 240 (.iload_n 2) 1 241 := ⟨at_240, rfl⟩
theorem o_L_law_241 : InsA md_L_law 241 (.imul) 1 242 := ⟨at_241, rfl⟩
theorem o_L_law_242 : InsA md_L_law 242 (.lshl) 1 243 := ⟨at_242, rfl⟩
theorem o_L_law_243 : InsA md_L_law 243 (.lor) 1 244 := ⟨at_243, rfl⟩
theorem o_L_law_244 : InsA md_L_law 244 (.lstore 11) 2 246 := ⟨at_244, rfl⟩
theorem o_L_law_246 : InsA md_L_law 246 (.iinc 2 1) 3 249 := ⟨at_246, rfl⟩
theorem o_L_law_249 : InsA md_L_law 249 (.iload 22) 2 251 := ⟨at_249, rfl⟩
theorem o_L_law_251 : InsA md_L_law 251 (.istore_n 3) 1 252 := ⟨at_251, rfl⟩
theorem o_L_law_252 : InsA md_L_law 252 (.iconst 0) 1 253 := ⟨at_252, rfl⟩
theorem o_L_law_253 : InsA md_L_law 253 (.istore 4) 2 255 := ⟨at_253, rfl⟩
theorem o_L_law_255 : InsA md_L_law 255 (.iconst 0) 1 256 := ⟨at_255, rfl⟩
theorem o_L_law_256 : InsA md_L_law 256 (.istore 5) 2 258 := ⟨at_256, rfl⟩
theorem o_L_law_258 : InsA md_L_law 258 (.iconst (-1)) 1 259 := ⟨at_258, rfl⟩
theorem o_L_law_259 : InsA md_L_law 259 (.istore 6) 2 261 := ⟨at_259, rfl⟩
theorem o_L_law_261 : InsB md_L_law 261 (.goto 218) 3 264 (218) 479 := ⟨at_261, rfl, by decide, by decide⟩
theorem o_L_law_264 : InsA md_L_law 264 (.iload 14) 2 266 := ⟨at_264, rfl⟩
theorem o_L_law_266 : InsA md_L_law 266 (.iconst 2) 1 267 := ⟨at_266, rfl⟩
theorem o_L_law_267 : InsB md_L_law 267 (.if_icmp .ne 160) 3 270 (160) 427 := ⟨at_267, rfl, by decide, by decide⟩
theorem o_L_law_270 : InsA md_L_law 270 (.iload 15) 2 272 := ⟨at_270, rfl⟩
theorem o_L_law_272 : InsA md_L_law 272 (.bipush 7) 2 274 := ⟨at_272, rfl⟩
theorem o_L_law_274 : InsA md_L_law 274 (.iand) 1 275 := ⟨at_274, rfl⟩
theorem o_L_law_275 : InsA md_L_law 275 (.iconst 1) 1 276 := ⟨at_275, rfl⟩
theorem o_L_law_276 : InsA md_L_law 276 (.iadd) 1 277 := ⟨at_276, rfl⟩
theorem o_L_law_277 : InsA md_L_law 277 (.istore 18) 2 279 := ⟨at_277, rfl⟩
theorem o_L_law_279 : InsA md_L_law 279 (.aload_n 1) 1 280 := ⟨at_279, rfl⟩
theorem o_L_law_280 : InsA md_L_law 280 (.iload 18) 2 282 := ⟨at_280, rfl⟩
theorem o_L_law_282 : InsA md_L_law 282 (.invokevirtual 32) 3 285 := ⟨at_282, rfl⟩
theorem o_L_law_285 : InsA md_L_law 285 (.istore 19) 2 287 := ⟨at_285, rfl⟩
theorem o_L_law_287 : InsA md_L_law 287 (.iload_n 2) 1 288 := ⟨at_287, rfl⟩
theorem o_L_law_288 : InsB md_L_law 288 (.ifCond .ne 12) 3 291 (12) 300 := ⟨at_288, rfl, by decide, by decide⟩
theorem o_L_law_291 : InsA md_L_law 291 (.iload 19) 2 293 := ⟨at_291, rfl⟩
theorem o_L_law_293 : InsA md_L_law 293 (.bipush (-4)) 2 295 := ⟨at_293, rfl⟩
theorem o_L_law_295 : InsB md_L_law 295 (.if_icmp .eq 129) 3 298 (129) 424 := ⟨at_295, rfl, by decide, by decide⟩
theorem o_L_law_298 : InsA md_L_law 298 (.iconst 0) 1 299 := ⟨at_298, rfl⟩
theorem o_L_law_299 : InsA md_L_law 299 (.ireturn) 1 300 := ⟨at_299, rfl⟩
theorem o_L_law_300 : InsA md_L_law 300 (.iload 18) 2 302 := ⟨at_300, rfl⟩
theorem o_L_law_302 : InsA md_L_law 302 (.iload_n 3) 1 303 := ⟨at_302, rfl⟩
theorem o_L_law_303 : InsB md_L_law 303 (.if_icmp .gt 10) 3 306 (10) 313 := ⟨at_303, rfl, by decide, by decide⟩
theorem o_L_law_306 : InsA md_L_law 306 (.iload_n 3) 1 307 := ⟨at_306, rfl⟩
theorem o_L_law_307 : InsA md_L_law 307 (.iload 18) 2 309 := ⟨at_307, rfl⟩
theorem o_L_law_309 : InsA md_L_law 309 (.irem) 1 310 := ⟨at_309, rfl⟩
theorem o_L_law_310 : InsB md_L_law 310 (.ifCond .eq 12) 3 313 (12) 322 := ⟨at_310, rfl, by decide, by decide⟩
theorem o_L_law_313 : InsA md_L_law 313 (.iload 19) 2 315 := ⟨at_313, rfl⟩
theorem o_L_law_315 : InsA md_L_law 315 (.bipush (-5)) 2 317 := ⟨at_315, rfl⟩
theorem o_L_law_317 : InsB md_L_law 317 (.if_icmp .eq 107) 3 320 (107) 424 := ⟨at_317, rfl, by decide, by decide⟩
theorem o_L_law_320 : InsA md_L_law 320 (.iconst 0) 1 321 := ⟨at_320, rfl⟩
theorem o_L_law_321 : InsA md_L_law 321 (.ireturn) 1 322 := ⟨at_321, rfl⟩
theorem o_L_law_322 : InsA md_L_law 322 (.iload 18) 2 324 := ⟨at_322, rfl⟩
theorem o_L_law_324 : InsA md_L_law 324 (.iload_n 2) 1 325 := ⟨at_324, rfl⟩
theorem o_L_law_325 : InsA md_L_law 325 (.lload 7) 2 327 := ⟨at_325, rfl⟩
theorem o_L_law_327 : InsA md_L_law 327 (.lload 11) 2 329 := ⟨at_327, rfl⟩
theorem o_L_law_329 : InsA md_L_law 329 (.invokestatic 35) 3 332 := ⟨at_329, rfl⟩
theorem o_L_law_332 : InsB md_L_law 332 (.ifCond .eq 12) 3 335 (12) 344 := ⟨at_332, rfl, by decide, by decide⟩
theorem o_L_law_335 : InsA md_L_law 335 (.iload 19) 2 337 := ⟨at_335, rfl⟩
theorem o_L_law_337 : InsA md_L_law 337 (.bipush (-6)) 2 339 := ⟨at_337, rfl⟩
theorem o_L_law_339 : InsB md_L_law 339 (.if_icmp .eq 85) 3 342 (85) 424 := ⟨at_339, rfl, by decide, by decide⟩
theorem o_L_law_342 : InsA md_L_law 342 (.iconst 0) 1 343 := ⟨at_342, rfl⟩
theorem o_L_law_343 : InsA md_L_law 343 (.ireturn) 1 344 := ⟨at_343, rfl⟩
theorem o_L_law_344 : InsA md_L_law 344 (.iload 19) 2 346 := ⟨at_344, rfl⟩
theorem o_L_law_346 : InsB md_L_law 346 (.ifCond .ne 16) 3 349 (16) 362 := ⟨at_346, rfl, by decide, by decide⟩
theorem o_L_law_349 : InsA md_L_law 349 (.iload 18) 2 351 := ⟨at_349, rfl⟩
theorem o_L_law_351 : InsA md_L_law 351 (.istore 4) 2 353 := ⟨at_351, rfl⟩
theorem o_L_law_353 : InsA md_L_law 353 (.iconst 0) 1 354 := ⟨at_353, rfl⟩
theorem o_L_law_354 : InsA md_L_law 354 (.istore 5) 2 356 := ⟨at_354, rfl⟩
theorem o_L_law_356 : InsA md_L_law 356 (.iconst (-1)) 1 357 := ⟨at_356, rfl⟩
theorem o_L_law_357 : InsA md_L_law 357 (.istore 6) 2 359 := ⟨at_357, rfl⟩
theorem o_L_law_359 : InsB md_L_law 359 (.goto 65) 3 362 (65) 424 := ⟨at_359, rfl, by decide, by decide⟩
theorem o_L_law_362 : InsA md_L_law 362 (.iload 19) 2 364 := ⟨at_362, rfl⟩
theorem o_L_law_364 : InsA md_L_law 364 (.bipush (-7)) 2 366 := ⟨at_364, rfl⟩
theorem o_L_law_366 : InsB md_L_law 366 (.if_icmp .ne 56) 3 369 (56) 422 := ⟨at_366, rfl, by decide, by decide⟩
theorem o_L_law_369 : InsA md_L_law 369 (.iconst 0) 1 370 := ⟨at_369, rfl⟩
theorem o_L_law_370 : InsA md_L_law 370 (.istore 4) 2 372 := ⟨at_370, rfl⟩
theorem o_L_law_372 : InsA md_L_law 372 (.iconst 0) 1 373 := ⟨at_372, rfl⟩
theorem o_L_law_373 : InsA md_L_law 373 (.istore 5) 2 375 := ⟨at_373, rfl⟩
theorem o_L_law_375 : InsA md_L_law 375 (.aload_n 1) 1 376 := ⟨at_375, rfl⟩
theorem o_L_law_376 : InsA md_L_law 376 (.invokevirtual 39) 3 379 := ⟨at_376, rfl⟩
theorem o_L_law_379 : InsA md_L_law 379 (.istore 6) 2 381 := ⟨at_379, rfl⟩
theorem o_L_law_381 : InsA md_L_law 381 (.iload 6) 2 383 := ⟨at_381, rfl⟩
theorem o_L_law_383 : InsB md_L_law 383 (.ifCond .lt 13) 3 386 (13) 396 := ⟨at_383, rfl, by decide, by decide⟩
theorem o_L_law_386 : InsA md_L_law 386 (.iload 6) 2 388 := ⟨at_386, rfl⟩
theorem o_L_law_388 : InsA md_L_law 388 (.sipush 128) 3 391 := ⟨at_388, rfl⟩
theorem o_L_law_391 : InsA md_L_law 391 (.idiv) 1 392 := ⟨at_391, rfl⟩
theorem o_L_law_392 : InsA md_L_law 392 (.iload_n 2) 1 393 := ⟨at_392, rfl⟩
theorem o_L_law_393 : InsB md_L_law 393 (.if_icmp .lt 5) 3 396 (5) 398 := ⟨at_393, rfl, by decide, by decide⟩
theorem o_L_law_396 : InsA md_L_law 396 (.iconst 0) 1 397 := ⟨at_396, rfl⟩
theorem o_L_law_397 : InsA md_L_law 397 (.ireturn) 1 398 := ⟨at_397, rfl⟩
theorem o_L_law_398 : InsA md_L_law 398 (.iload 6) 2 400 := ⟨at_398, rfl⟩
theorem o_L_law_400 : InsA md_L_law 400 (.sipush 128) 3 403 := ⟨at_400, rfl⟩
theorem o_L_law_403 : InsA md_L_law 403 (.irem) 1 404 := ⟨at_403, rfl⟩
theorem o_L_law_404 : InsA md_L_law 404 (.iload_n 3) 1 405 := ⟨at_404, rfl⟩
theorem o_L_law_405 : InsA md_L_law 405 (.lload 7) 2 407 := ⟨at_405, rfl⟩
theorem o_L_law_407 : InsA md_L_law 407 (.iload 6) 2 409 := ⟨at_407, rfl⟩
theorem o_L_law_409 : InsA md_L_law 409 (.sipush 128) 3 412 := ⟨at_409, rfl⟩
theorem o_L_law_412 : InsA md_L_law 412 (.idiv) 1 413 := ⟨at_412, rfl⟩
theorem o_L_law_413 : InsA md_L_law 413 (.invokestatic 9) 3 416 := ⟨at_413, rfl⟩
theorem o_L_law_416 : InsA md_L_law 416 (.idiv) 1 417 := ⟨at_416, rfl⟩
theorem o_L_law_417 : InsB md_L_law 417 (.if_icmp .lt 7) 3 420 (7) 424 := ⟨at_417, rfl, by decide, by decide⟩
theorem o_L_law_420 : InsA md_L_law 420 (.iconst 0) 1 421 := ⟨at_420, rfl⟩
theorem o_L_law_421 : InsA md_L_law 421 (.ireturn) 1 422 := ⟨at_421, rfl⟩
theorem o_L_law_422 : InsA md_L_law 422 (.iconst 0) 1 423 := ⟨at_422, rfl⟩
theorem o_L_law_423 : InsA md_L_law 423 (.ireturn) 1 424 := ⟨at_423, rfl⟩
theorem o_L_law_424 : InsB md_L_law 424 (.goto 55) 3 427 (55) 479 := ⟨at_424, rfl, by decide, by decide⟩
theorem o_L_law_427 : InsA md_L_law 427 (.iload 15) 2 429 := ⟨at_427, rfl⟩
theorem o_L_law_429 : InsA md_L_law 429 (.bipush 63) 2 431 := ⟨at_429, rfl⟩
theorem o_L_law_431 : InsA md_L_law 431 (.iand) 1 432 := ⟨at_431, rfl⟩
theorem o_L_law_432 : InsA md_L_law 432 (.iconst 2) 1 433 := ⟨at_432, rfl⟩
theorem o_L_law_433 : InsA md_L_law 433 (.isub) 1 434 := ⟨at_433, rfl⟩
theorem o_L_law_434 : InsA md_L_law 434 (.istore 18) 2 436 := ⟨at_434, rfl⟩
theorem o_L_law_436 : InsA md_L_law 436 (.aload_n 1) 1 437 := ⟨at_436, rfl⟩
theorem o_L_law_437 : InsA md_L_law 437 (.iload 18) 2 439 := ⟨at_437, rfl⟩
theorem o_L_law_439 : InsA md_L_law 439 (.invokevirtual 43) 3 442 := ⟨at_439, rfl⟩
theorem o_L_law_442 : InsA md_L_law 442 (.istore 19) 2 444 := ⟨at_442, rfl⟩
theorem o_L_law_444 : InsA md_L_law 444 (.iload 4) 2 446 := ⟨at_444, rfl⟩
theorem o_L_law_446 : InsB md_L_law 446 (.ifCond .eq 9) 3 449 (9) 455 := ⟨at_446, rfl, by decide, by decide⟩
theorem o_L_law_449 : InsA md_L_law 449 (.iload 18) 2 451 := ⟨at_449, rfl⟩
theorem o_L_law_451 : InsA md_L_law 451 (.iconst 1) 1 452 := ⟨at_451, rfl⟩
theorem o_L_law_452 : InsB md_L_law 452 (.if_icmp .ge 7) 3 455 (7) 459 := ⟨at_452, rfl, by decide, by decide⟩
theorem o_L_law_455 : InsA md_L_law 455 (.iconst 0) 1 456 := ⟨at_455, rfl⟩
theorem o_L_law_456 : InsB md_L_law 456 (.goto 5) 3 459 (5) 461 := ⟨at_456, rfl, by decide, by decide⟩
theorem o_L_law_459 : InsA md_L_law 459 (.iload 18) 2 461 := ⟨at_459, rfl⟩
theorem o_L_law_461 : InsA md_L_law 461 (.istore 20) 2 463 := ⟨at_461, rfl⟩
theorem o_L_law_463 : InsA md_L_law 463 (.iload 19) 2 465 := ⟨at_463, rfl⟩
theorem o_L_law_465 : InsA md_L_law 465 (.iload 20) 2 467 := ⟨at_465, rfl⟩
theorem o_L_law_467 : InsB md_L_law 467 (.if_icmp .eq 5) 3 470 (5) 472 := ⟨at_467, rfl, by decide, by decide⟩
theorem o_L_law_470 : InsA md_L_law 470 (.iconst 0) 1 471 := ⟨at_470, rfl⟩
theorem o_L_law_471 : InsA md_L_law 471 (.ireturn) 1 472 := ⟨at_471, rfl⟩
theorem o_L_law_472 : InsA md_L_law 472 (.iload 5) 2 474 := ⟨at_472, rfl⟩
theorem o_L_law_474 : InsA md_L_law 474 (.iload 20) 2 476 := ⟨at_474, rfl⟩
theorem o_L_law_476 : InsA md_L_law 476 (.iadd) 1 477 := ⟨at_476, rfl⟩
theorem o_L_law_477 : InsA md_L_law 477 (.istore 5) 2 479 := ⟨at_477, rfl⟩
theorem o_L_law_479 : InsA md_L_law 479 (.aload_n 1) 1 480 := ⟨at_479, rfl⟩
theorem o_L_law_480 : InsA md_L_law 480 (.invokevirtual 46) 3 483 := ⟨at_480, rfl⟩
theorem o_L_law_483 : InsA md_L_law 483 (.iload_n 2) 1 484 := ⟨at_483, rfl⟩
theorem o_L_law_484 : InsB md_L_law 484 (.if_icmp .ne 20) 3 487 (20) 504 := ⟨at_484, rfl, by decide, by decide⟩
theorem o_L_law_487 : InsA md_L_law 487 (.aload_n 1) 1 488 := ⟨at_487, rfl⟩
theorem o_L_law_488 : InsA md_L_law 488 (.invokevirtual 49) 3 491 := ⟨at_488, rfl⟩
theorem o_L_law_491 : InsA md_L_law 491 (.iload_n 3) 1 492 := ⟨at_491, rfl⟩
theorem o_L_law_492 : InsB md_L_law 492 (.if_icmp .ne 12) 3 495 (12) 504 := ⟨at_492, rfl, by decide, by decide⟩
theorem o_L_law_495 : InsA md_L_law 495 (.aload_n 1) 1 496 := ⟨at_495, rfl⟩
theorem o_L_law_496 : InsA md_L_law 496 (.invokevirtual 52) 3 499 := ⟨at_496, rfl⟩
theorem o_L_law_499 : InsA md_L_law 499 (.iload 4) 2 501 := ⟨at_499, rfl⟩
theorem o_L_law_501 : InsB md_L_law 501 (.if_icmp .eq 5) 3 504 (5) 506 := ⟨at_501, rfl, by decide, by decide⟩
theorem o_L_law_504 : InsA md_L_law 504 (.iconst 0) 1 505 := ⟨at_504, rfl⟩
theorem o_L_law_505 : InsA md_L_law 505 (.ireturn) 1 506 := ⟨at_505, rfl⟩
theorem o_L_law_506 : InsA md_L_law 506 (.aload_n 1) 1 507 := ⟨at_506, rfl⟩
theorem o_L_law_507 : InsA md_L_law 507 (.invokevirtual 55) 3 510 := ⟨at_507, rfl⟩
theorem o_L_law_510 : InsA md_L_law 510 (.iload 5) 2 512 := ⟨at_510, rfl⟩
theorem o_L_law_512 : InsB md_L_law 512 (.if_icmp .ne 12) 3 515 (12) 524 := ⟨at_512, rfl, by decide, by decide⟩
theorem o_L_law_515 : InsA md_L_law 515 (.aload_n 1) 1 516 := ⟨at_515, rfl⟩
theorem o_L_law_516 : InsA md_L_law 516 (.invokevirtual 39) 3 519 := ⟨at_516, rfl⟩
theorem o_L_law_519 : InsA md_L_law 519 (.iload 6) 2 521 := ⟨at_519, rfl⟩
theorem o_L_law_521 : InsB md_L_law 521 (.if_icmp .eq 5) 3 524 (5) 526 := ⟨at_521, rfl, by decide, by decide⟩
theorem o_L_law_524 : InsA md_L_law 524 (.iconst 0) 1 525 := ⟨at_524, rfl⟩
theorem o_L_law_525 : InsA md_L_law 525 (.ireturn) 1 526 := ⟨at_525, rfl⟩
theorem o_L_law_526 : InsA md_L_law 526 (.aload_n 1) 1 527 := ⟨at_526, rfl⟩
theorem o_L_law_527 : InsA md_L_law 527 (.iload_n 2) 1 528 := ⟨at_527, rfl⟩
theorem o_L_law_528 : InsA md_L_law 528 (.iload_n 3) 1 529 := ⟨at_528, rfl⟩
theorem o_L_law_529 : InsA md_L_law 529 (.iload 4) 2 531 := ⟨at_529, rfl⟩
theorem o_L_law_531 : InsA md_L_law 531 (.iload 5) 2 533 := ⟨at_531, rfl⟩
theorem o_L_law_533 : InsA md_L_law 533 (.lload 7) 2 535 := ⟨at_533, rfl⟩
theorem o_L_law_535 : InsA md_L_law 535 (.lload 9) 2 537 := ⟨at_535, rfl⟩
theorem o_L_law_537 : InsA md_L_law 537 (.invokestatic 58) 3 540 := ⟨at_537, rfl⟩
theorem o_L_law_540 : InsB md_L_law 540 (.ifCond .ne 5) 3 543 (5) 545 := ⟨at_540, rfl, by decide, by decide⟩
theorem o_L_law_543 : InsA md_L_law 543 (.iconst 0) 1 544 := ⟨at_543, rfl⟩
theorem o_L_law_544 : InsA md_L_law 544 (.ireturn) 1 545 := ⟨at_544, rfl⟩
theorem o_L_law_545 : InsA md_L_law 545 (.iinc 13 4) 3 548 := ⟨at_545, rfl⟩
theorem o_L_law_548 : InsB md_L_law 548 (.goto (-512)) 3 551 (-512) 36 := ⟨at_548, rfl, by decide, by decide⟩
theorem o_L_law_551 : InsA md_L_law 551 (.iconst 1) 1 552 := ⟨at_551, rfl⟩
theorem o_L_law_552 : InsA md_L_law 552 (.ireturn) 1 553 := ⟨at_552, rfl⟩
theorem gd {c : Prop} [Decidable c] {α : Type} {x : Option α} {r : α} (h : (if c then x else none) = some r) : c ∧ x = some r := by
  by_cases q : c
  · rw [if_pos q] at h; exact ⟨q, h⟩
  · rw [if_neg q] at h; cases h
theorem ifp {c : Prop} [Decidable c] {α : Type} {x y z : α} (q : c) (h : (if c then x else y) = z) : x = z := by rw [if_pos q] at h; exact h
theorem ifn {c : Prop} [Decidable c] {α : Type} {x y z : α} (q : ¬ c) (h : (if c then x else y) = z) : y = z := by rw [if_neg q] at h; exact h
theorem getD_some {α : Type} {o : Option α} {d r : α} (h : o = some r) : o.getD d = r := by rw [h]; rfl
set_option maxRecDepth 65536 in
set_option maxHeartbeats 4000000 in
theorem wp_clamp {l : Launch} {Z : State} {a0 : Array Value} (H : OK Z a0) (F : Nat → Int32) (G : Nat → Int64) (A : Nat → Int32 → Int32) (B : Nat → Int32 → Int64) (p1 : Int32) (p2 : Int32) (p3 : Int32) {Q : Option Value → WO → Prop} (h3 : ¬ p1 < p2 → ¬ p3 < p1 → Q (some (.int p1)) (7, F, G, A, B)) (h4 : ¬ p1 < p2 → p3 < p1 → Q (some (.int p3)) (7, F, G, A, B)) (h5 : p1 < p2 → Q (some (.int p2)) (7, F, G, A, B)) :
    Wk l Z (MoC Z cdC) md_clamp 0 [.val (.ref 0), .val (.int p1), .val (.int p2), .val (.int p3)] [] (7, F, G, A, B) 0 0 Q := by
  refine Wk.iloadN o_clamp_0 rfl ?_
  refine Wk.iloadN o_clamp_1 rfl ?_
  refine Wk.icmp_ge o_clamp_2 (fun q1 => ?_) (fun q1 => ?_)
  · refine Wk.iloadN o_clamp_7 rfl ?_
    refine Wk.iloadN o_clamp_8 rfl ?_
    refine Wk.icmp_le o_clamp_9 (fun q2 => ?_) (fun q2 => ?_)
    · refine Wk.iloadN o_clamp_14 rfl ?_
      exact Wk.ireturn mrC rfl o_clamp_15 rfl (by decide) (by decide) (h3 q1 q2)
    · refine Wk.iloadN o_clamp_12 rfl ?_
      exact Wk.ireturn mrC rfl o_clamp_13 rfl (by decide) (by decide) (h4 q1 q2)
  · refine Wk.iloadN o_clamp_5 rfl ?_
    exact Wk.ireturn mrC rfl o_clamp_6 rfl (by decide) (by decide) (h5 q1)

def f_clamp (p1 : Int32) (p2 : Int32) (p3 : Int32) : Int32 := (if p1 < p2 then p2 else (if p3 < p1 then p3 else p1))
theorem e_clamp (p1 : Int32) (p2 : Int32) (p3 : Int32) : f_clamp p1 p2 p3 = (if p1 < p2 then p2 else (if p3 < p1 then p3 else p1)) := Eq.trans rfl rfl
theorem run_clamp {l : Launch} {Z : State} {a0 : Array Value} (H : OK Z a0) (F : Nat → Int32) (G : Nat → Int64) (A : Nat → Int32 → Int32) (B : Nat → Int32 → Int64) (p1 : Int32) (p2 : Int32) (p3 : Int32) :
    Wk l Z (MoC Z cdC) md_clamp 0 [.val (.ref 0), .val (.int p1), .val (.int p2), .val (.int p3)] [] (7, F, G, A, B) 0 0 (fun v w' => v = some (.int (f_clamp p1 p2 p3)) ∧ w' = (7, F, G, A, B)) :=
  wp_clamp H F G A B p1 p2 p3 (fun q1 q2 => ⟨by simp only [e_clamp, if_neg q1, if_neg q2], rfl⟩) (fun q1 q2 => ⟨by simp only [e_clamp, if_neg q1, if_pos q2], rfl⟩) (fun q1 => ⟨by simp only [e_clamp, if_pos q1], rfl⟩)
set_option maxRecDepth 65536 in
set_option maxHeartbeats 4000000 in
theorem wp_init {l : Launch} {Z : State} {a0 : Array Value} (H : OK Z a0) (p1 : Int32) (p2 : Int32) {Q : Option Value → WO → Prop} (h1 : Q none (7, (ups (ups (ups (ups (ups (ups (ups (ups (ups (fun _ => 0) 0 (f_clamp p1 (1 : Int32) (8 : Int32))) 1 (f_clamp p2 (1 : Int32) (128 : Int32))) 2 (0 : Int32)) 3 (0 : Int32)) 4 (0 : Int32)) 5 (0 : Int32)) 6 (-1 : Int32)) 7 (0 : Int32)) 8 (0 : Int32)), (fun _ => 0), (fun _ _ => 0), (fun _ _ => 0))) :
    Wk l Z (MoC Z cdC) md_init 0 [.val (.ref 0), .val (.int p1), .val (.int p2)] [] (0, (fun _ => 0), (fun _ => 0), (fun _ _ => 0), (fun _ _ => 0)) 0 0 Q := by
  refine Wk.aloadN o_init_0 rfl ?_
  refine Wk.initO (H.w 6 rfl) (H.w 7 rfl) (H.w 8 rfl) o_init_1 rfl (by decide) (by decide) ?_
  refine Wk.aloadN o_init_4 rfl ?_
  refine Wk.bipush o_init_5 (z := (8 : Int32)) (by decide) ?_
  refine Wk.newA (coC H) (aty := .int) rfl (wa_int H) (mA_per) (wf_per H) (Or.inr ⟨wy_per H, rfl⟩) o_init_7 o_init_9 rfl rfl (k' := 1) rfl (cu' := 1) rfl (su' := 8) rfl (by decide) (by decide) (by decide) ?_
  refine Wk.aloadN o_init_12 rfl ?_
  refine Wk.bipush o_init_13 (z := (8 : Int32)) (by decide) ?_
  refine Wk.newA (coC H) (aty := .int) rfl (wa_int H) (mA_exe) (wf_exe H) (Or.inr ⟨wy_exe H, rfl⟩) o_init_15 o_init_17 rfl rfl (k' := 2) rfl (cu' := 2) rfl (su' := 16) rfl (by decide) (by decide) (by decide) ?_
  refine Wk.aloadN o_init_20 rfl ?_
  refine Wk.bipush o_init_21 (z := (8 : Int32)) (by decide) ?_
  refine Wk.newA (coC H) (aty := .int) rfl (wa_int H) (mA_dl) (wf_dl H) (Or.inr ⟨wy_dl H, rfl⟩) o_init_23 o_init_25 rfl rfl (k' := 3) rfl (cu' := 3) rfl (su' := 24) rfl (by decide) (by decide) (by decide) ?_
  refine Wk.aloadN o_init_28 rfl ?_
  refine Wk.bipush o_init_29 (z := (8 : Int32)) (by decide) ?_
  refine Wk.newA (coC H) (aty := .int) rfl (wa_int H) (mA_runCnt) (wf_runCnt H) (Or.inr ⟨wy_runCnt H, rfl⟩) o_init_31 o_init_33 rfl rfl (k' := 4) rfl (cu' := 4) rfl (su' := 32) rfl (by decide) (by decide) (by decide) ?_
  refine Wk.aloadN o_init_36 rfl ?_
  refine Wk.sipush o_init_37 (z := (128 : Int32)) (by decide) ?_
  refine Wk.newA (coC H) (aty := .int) rfl (wa_int H) (mA_tickTask) (wf_tickTask H) (Or.inr ⟨wy_tickTask H, rfl⟩) o_init_40 o_init_42 rfl rfl (k' := 5) rfl (cu' := 5) rfl (su' := 160) rfl (by decide) (by decide) (by decide) ?_
  refine Wk.aloadN o_init_45 rfl ?_
  refine Wk.sipush o_init_46 (z := (128 : Int32)) (by decide) ?_
  refine Wk.newA (coC H) (aty := .int) rfl (wa_int H) (mA_tickJob) (wf_tickJob H) (Or.inr ⟨wy_tickJob H, rfl⟩) o_init_49 o_init_51 rfl rfl (k' := 6) rfl (cu' := 6) rfl (su' := 288) rfl (by decide) (by decide) (by decide) ?_
  refine Wk.aloadN o_init_54 rfl ?_
  refine Wk.sipush o_init_55 (z := (1024 : Int32)) (by decide) ?_
  refine Wk.newA (coC H) (aty := .int) rfl (wa_int H) (mA_rem) (wf_rem H) (Or.inr ⟨wy_rem H, rfl⟩) o_init_58 o_init_60 rfl rfl (k' := 7) rfl (cu' := 7) rfl (su' := 1312) rfl (by decide) (by decide) (by decide) ?_
  refine Wk.aloadN o_init_63 rfl ?_
  refine Wk.aloadN o_init_64 rfl ?_
  refine Wk.iloadN o_init_65 rfl ?_
  refine Wk.iconst o_init_66 (z := (1 : Int32)) (by decide) ?_
  refine Wk.bipush o_init_67 (z := (8 : Int32)) (by decide) ?_
  refine Wk.callF [.int p1, .int (1 : Int32), .int (8 : Int32)] [.ref 0] (H.w 24 rfl) (cv_clamp H) o_init_69 (run_clamp H (fun _ => 0) (fun _ => 0) (fun _ _ => 0) (fun _ _ => 0) p1 (1 : Int32) (8 : Int32)) (wt := 1) (cu' := 7) (su' := 1312) (by decide) rfl rfl rfl rfl rfl rfl rfl ?_
  refine Wk.putI (coC H) (mI_maxTasks) (wf_maxTasks H) (Or.inl (wy_maxTasks H)) o_init_72 ?_
  refine Wk.aloadN o_init_75 rfl ?_
  refine Wk.aloadN o_init_76 rfl ?_
  refine Wk.iloadN o_init_77 rfl ?_
  refine Wk.iconst o_init_78 (z := (1 : Int32)) (by decide) ?_
  refine Wk.sipush o_init_79 (z := (128 : Int32)) (by decide) ?_
  refine Wk.callF [.int p2, .int (1 : Int32), .int (128 : Int32)] [.ref 0] (H.w 24 rfl) (cv_clamp H) o_init_82 (run_clamp H (ups (fun _ => 0) 0 (f_clamp p1 (1 : Int32) (8 : Int32))) (fun _ => 0) (fun _ _ => 0) (fun _ _ => 0) p2 (1 : Int32) (128 : Int32)) (wt := 1) (cu' := 7) (su' := 1312) (by decide) rfl rfl rfl rfl rfl rfl rfl ?_
  refine Wk.putI (coC H) (mI_maxHyper) (wf_maxHyper H) (Or.inl (wy_maxHyper H)) o_init_85 ?_
  refine Wk.aloadN o_init_88 rfl ?_
  refine Wk.iconst o_init_89 (z := (0 : Int32)) (by decide) ?_
  refine Wk.putI (coC H) (mI_count) (wf_count H) (Or.inl (wy_count H)) o_init_90 ?_
  refine Wk.aloadN o_init_93 rfl ?_
  refine Wk.iconst o_init_94 (z := (0 : Int32)) (by decide) ?_
  refine Wk.putI (coC H) (mI_hyper) (wf_hyper H) (Or.inl (wy_hyper H)) o_init_95 ?_
  refine Wk.aloadN o_init_98 rfl ?_
  refine Wk.iconst o_init_99 (z := (0 : Int32)) (by decide) ?_
  refine Wk.putZ (coC H) (y := (0 : Int32)) (by decide) (mI_present) (wf_present H) (Or.inl (wy_present H)) o_init_100 ?_
  refine Wk.aloadN o_init_103 rfl ?_
  refine Wk.iconst o_init_104 (z := (0 : Int32)) (by decide) ?_
  refine Wk.putI (coC H) (mI_frame) (wf_frame H) (Or.inl (wy_frame H)) o_init_105 ?_
  refine Wk.aloadN o_init_108 rfl ?_
  refine Wk.iconst o_init_109 (z := (-1 : Int32)) (by decide) ?_
  refine Wk.putI (coC H) (mI_miss) (wf_miss H) (Or.inl (wy_miss H)) o_init_110 ?_
  refine Wk.aloadN o_init_113 rfl ?_
  refine Wk.iconst o_init_114 (z := (0 : Int32)) (by decide) ?_
  refine Wk.putI (coC H) (mI_now) (wf_now H) (Or.inl (wy_now H)) o_init_115 ?_
  refine Wk.aloadN o_init_118 rfl ?_
  refine Wk.iconst o_init_119 (z := (0 : Int32)) (by decide) ?_
  refine Wk.putI (coC H) (mI_pos) (wf_pos H) (Or.inl (wy_pos H)) o_init_120 ?_
  exact Wk.ret mrC rfl o_init_123 rfl (by decide) (by decide) h1

def F_init (p1 : Int32) (p2 : Int32) : Nat → Int32 := (ups (ups (ups (ups (ups (ups (ups (ups (ups (fun _ => 0) 0 (f_clamp p1 (1 : Int32) (8 : Int32))) 1 (f_clamp p2 (1 : Int32) (128 : Int32))) 2 (0 : Int32)) 3 (0 : Int32)) 4 (0 : Int32)) 5 (0 : Int32)) 6 (-1 : Int32)) 7 (0 : Int32)) 8 (0 : Int32))
theorem eF_init (p1 : Int32) (p2 : Int32) : F_init p1 p2 = (ups (ups (ups (ups (ups (ups (ups (ups (ups (fun _ => 0) 0 (f_clamp p1 (1 : Int32) (8 : Int32))) 1 (f_clamp p2 (1 : Int32) (128 : Int32))) 2 (0 : Int32)) 3 (0 : Int32)) 4 (0 : Int32)) 5 (0 : Int32)) 6 (-1 : Int32)) 7 (0 : Int32)) 8 (0 : Int32)) := Eq.trans rfl rfl
theorem F_init_0 (p1 : Int32) (p2 : Int32) : F_init p1 p2 0 = (f_clamp p1 (1 : Int32) (8 : Int32)) := by
  exact Eq.trans rfl rfl
theorem F_init_1 (p1 : Int32) (p2 : Int32) : F_init p1 p2 1 = (f_clamp p2 (1 : Int32) (128 : Int32)) := by
  exact Eq.trans rfl rfl
theorem F_init_2 (p1 : Int32) (p2 : Int32) : F_init p1 p2 2 = (0 : Int32) := by
  exact Eq.trans rfl rfl
theorem F_init_3 (p1 : Int32) (p2 : Int32) : F_init p1 p2 3 = (0 : Int32) := by
  exact Eq.trans rfl rfl
theorem F_init_4 (p1 : Int32) (p2 : Int32) : F_init p1 p2 4 = (0 : Int32) := by
  exact Eq.trans rfl rfl
theorem F_init_5 (p1 : Int32) (p2 : Int32) : F_init p1 p2 5 = (0 : Int32) := by
  exact Eq.trans rfl rfl
theorem F_init_6 (p1 : Int32) (p2 : Int32) : F_init p1 p2 6 = (-1 : Int32) := by
  exact Eq.trans rfl rfl
theorem F_init_7 (p1 : Int32) (p2 : Int32) : F_init p1 p2 7 = (0 : Int32) := by
  exact Eq.trans rfl rfl
theorem F_init_8 (p1 : Int32) (p2 : Int32) : F_init p1 p2 8 = (0 : Int32) := by
  exact Eq.trans rfl rfl
theorem run_init {l : Launch} {Z : State} {a0 : Array Value} (H : OK Z a0)  (p1 : Int32) (p2 : Int32) :
    Wk l Z (MoC Z cdC) md_init 0 [.val (.ref 0), .val (.int p1), .val (.int p2)] [] (0, (fun _ => 0), (fun _ => 0), (fun _ _ => 0), (fun _ _ => 0)) 0 0 (fun v w' => v = none ∧ w' = (7, (F_init p1 p2), (fun _ => 0), (fun _ _ => 0), (fun _ _ => 0))) :=
  wp_init H p1 p2 ⟨rfl, rfl⟩
set_option maxRecDepth 65536 in
set_option maxHeartbeats 4000000 in
theorem wp_gcd {l : Launch} {Z : State} {a0 : Array Value} (H : OK Z a0) (F : Nat → Int32) (G : Nat → Int64) (A : Nat → Int32 → Int32) (B : Nat → Int32 → Int64) (p1 : Int32) (p2 : Int32) {Q : Option Value → WO → Prop} (h1 : Wk l Z (MoC Z cdC) md_gcd 8 [.val (.ref 0), .unset, .unset, .val (.int p1), .val (.int p2), .val (.int (0 : Int32)), .unset] [] (7, F, G, A, B) 0 0 Q) :
    Wk l Z (MoC Z cdC) md_gcd 0 [.val (.ref 0), .val (.int p1), .val (.int p2), .unset, .unset, .unset, .unset] [] (7, F, G, A, B) 0 0 Q := by
  refine Wk.iloadN o_gcd_0 rfl ?_
  refine Wk.istoreN o_gcd_1 (Or.inl rfl) (L' := [.val (.ref 0), .val (.int p1), .val (.int p2), .val (.int p1), .unset, .unset, .unset]) rfl ?_
  refine Wk.iloadN o_gcd_2 rfl ?_
  refine Wk.istore o_gcd_3 (Or.inl rfl) (L' := [.val (.ref 0), .val (.int p1), .val (.int p2), .val (.int p1), .val (.int p2), .unset, .unset]) rfl ?_
  refine Wk.iconst o_gcd_5 (z := (0 : Int32)) (by decide) ?_
  refine Wk.istore o_gcd_6 (Or.inl rfl) (L' := [.val (.ref 0), .val (.int p1), .val (.int p2), .val (.int p1), .val (.int p2), .val (.int (0 : Int32)), .unset]) rfl ?_
  refine Wk.forget [false, true, true, false, false, false, false] (L' := [.val (.ref 0), .unset, .unset, .val (.int p1), .val (.int p2), .val (.int (0 : Int32)), .unset]) rfl rfl ?_
  exact h1

set_option maxRecDepth 65536 in
set_option maxHeartbeats 4000000 in
theorem wp_gcd_8 {l : Launch} {Z : State} {a0 : Array Value} (H : OK Z a0) (F : Nat → Int32) (G : Nat → Int64) (A : Nat → Int32 → Int32) (B : Nat → Int32 → Int64) (v3 : Int32) (v4 : Int32) (v5 : Int32) {Q : Option Value → WO → Prop} (h2 : ¬ v5 < (64 : Int32) → Q (some (.int v3)) (7, F, G, A, B)) (h4 : v5 < (64 : Int32) → v4 = 0 → Q (some (.int v3)) (7, F, G, A, B)) (s5 : v5 < (64 : Int32) → ¬ v4 = 0 → ¬ v4 = (0 : Int32)) (h6 : v5 < (64 : Int32) → ¬ v4 = 0 → Wk l Z (MoC Z cdC) md_gcd 8 [.val (.ref 0), .unset, .unset, .val (.int v4), .val (.int (v3 % v4)), .val (.int (v5 + (1 : Int32))), .unset] [] (7, F, G, A, B) 0 0 Q) :
    Wk l Z (MoC Z cdC) md_gcd 8 [.val (.ref 0), .unset, .unset, .val (.int v3), .val (.int v4), .val (.int v5), .unset] [] (7, F, G, A, B) 0 0 Q := by
  refine Wk.iload o_gcd_8 rfl ?_
  refine Wk.bipush o_gcd_10 (z := (64 : Int32)) (by decide) ?_
  refine Wk.icmp_ge o_gcd_12 (fun q1 => ?_) (fun q1 => ?_)
  · refine Wk.iloadN o_gcd_39 rfl ?_
    exact Wk.ireturn mrC rfl o_gcd_40 rfl (by decide) (by decide) (h2 q1)
  · refine Wk.iload o_gcd_15 rfl ?_
    refine Wk.if_eq o_gcd_17 (fun q3 => ?_) (fun q3 => ?_)
    · refine Wk.iloadN o_gcd_39 rfl ?_
      exact Wk.ireturn mrC rfl o_gcd_40 rfl (by decide) (by decide) (h4 q1 q3)
    · refine Wk.iloadN o_gcd_20 rfl ?_
      refine Wk.iload o_gcd_21 rfl ?_
      refine Wk.irem o_gcd_23 (s5 q1 q3) ?_
      refine Wk.istore o_gcd_24 (Or.inl rfl) (L' := [.val (.ref 0), .unset, .unset, .val (.int v3), .val (.int v4), .val (.int v5), .val (.int (v3 % v4))]) rfl ?_
      refine Wk.iload o_gcd_26 rfl ?_
      refine Wk.istoreN o_gcd_28 (Or.inr ⟨_, rfl, rfl⟩) (L' := [.val (.ref 0), .unset, .unset, .val (.int v4), .val (.int v4), .val (.int v5), .val (.int (v3 % v4))]) rfl ?_
      refine Wk.iload o_gcd_29 rfl ?_
      refine Wk.istore o_gcd_31 (Or.inr ⟨_, rfl, rfl⟩) (L' := [.val (.ref 0), .unset, .unset, .val (.int v4), .val (.int (v3 % v4)), .val (.int v5), .val (.int (v3 % v4))]) rfl ?_
      refine Wk.iinc o_gcd_33 rfl (z := (v5 + (1 : Int32))) rfl (L' := [.val (.ref 0), .unset, .unset, .val (.int v4), .val (.int (v3 % v4)), .val (.int (v5 + (1 : Int32))), .val (.int (v3 % v4))]) rfl ?_
      refine Wk.goto o_gcd_36 ?_
      refine Wk.forget [false, false, false, false, false, false, true] (L' := [.val (.ref 0), .unset, .unset, .val (.int v4), .val (.int (v3 % v4)), .val (.int (v5 + (1 : Int32))), .unset]) rfl rfl ?_
      exact (h6 q1 q3)

theorem rt_gcd (F : Nat → Int32) (G : Nat → Int64) (A : Nat → Int32 → Int32) (B : Nat → Int32 → Int64) (v0 : Int32) (r : Int32) (e : v0 = r) : some (Value.int v0) = some (.int r) ∧ (7, F, G, A, B) = (7, F, G, A, B) := by subst e; exact ⟨rfl, rfl⟩
def lp_gcd : Nat → Nat → Int32 → Int32 → Int32 → Option (Int32)
  | 0, _, _, _, _ => none
  | n + 1, tag, v3, v4, v5 => if tag = 8 then (if v5 < (64 : Int32) then (if v4 = 0 then some (v3) else (if (¬ v4 = (0 : Int32)) then lp_gcd n 8 v4 (v3 % v4) (v5 + (1 : Int32)) else none)) else some (v3)) else none
theorem lp_gcd_z (tag : Nat) (v3 : Int32) (v4 : Int32) (v5 : Int32) : lp_gcd 0 tag v3 v4 v5  = none := Eq.trans rfl rfl
theorem lp_gcd_8 (n : Nat) (v3 : Int32) (v4 : Int32) (v5 : Int32) : lp_gcd (n + 1) 8 v3 v4 v5  = (if v5 < (64 : Int32) then (if v4 = 0 then some (v3) else (if (¬ v4 = (0 : Int32)) then lp_gcd n 8 v4 (v3 % v4) (v5 + (1 : Int32)) else none)) else some (v3)) := by
  rw [lp_gcd, if_pos rfl]
set_option maxRecDepth 65536 in
set_option maxHeartbeats 4000000 in
theorem lpw_gcd {l : Launch} {Z : State} {a0 : Array Value} (H : OK Z a0) (F : Nat → Int32) (G : Nat → Int64) (A : Nat → Int32 → Int32) (B : Nat → Int32 → Int64) : ∀ (n : Nat) (v3 : Int32) (v4 : Int32) (v5 : Int32) (r : Int32), (lp_gcd n 8 v3 v4 v5  = some r → Wk l Z (MoC Z cdC) md_gcd 8 [.val (.ref 0), .unset, .unset, .val (.int v3), .val (.int v4), .val (.int v5), .unset] [] (7, F, G, A, B) 0 0 (fun v w' => v = some (.int r) ∧ w' = (7, F, G, A, B))) := by
  intro n
  induction n with
  | zero =>
    intro v3 v4 v5  r
    exact (fun h => by rw [lp_gcd_z] at h; cases h)
  | succ n ih =>
    intro v3 v4 v5  r
    refine fun h => ?_
    · rw [lp_gcd_8] at h
      exact wp_gcd_8 H F G A B v3 v4 v5 (fun q1 => (rt_gcd _ _ _ _ _ r (Option.some.inj (ifn q1 h)))) (fun q1 q3 => (rt_gcd _ _ _ _ _ r (Option.some.inj (ifp q3 (ifp q1 h))))) (fun q1 q3 => (gd (ifn q3 (ifp q1 h))).1) (fun q1 q3 => (ih _ _ _ _) (gd (ifn q3 (ifp q1 h))).2)
def en_gcd (p1 : Int32) (p2 : Int32) : Option (Int32) := lp_gcd 5000 8 p1 p2 (0 : Int32)
theorem een_gcd (p1 : Int32) (p2 : Int32) : en_gcd  p1 p2 = lp_gcd 5000 8 p1 p2 (0 : Int32) := Eq.trans rfl rfl
def R_gcd (p1 : Int32) (p2 : Int32) : Int32 := (en_gcd  p1 p2).getD (0)
theorem eR_gcd (p1 : Int32) (p2 : Int32) : R_gcd  p1 p2 = (en_gcd  p1 p2).getD (0) := Eq.trans rfl rfl
set_option maxRecDepth 65536 in
set_option maxHeartbeats 4000000 in
theorem run_gcd {l : Launch} {Z : State} {a0 : Array Value} (H : OK Z a0) (F : Nat → Int32) (G : Nat → Int64) (A : Nat → Int32 → Int32) (B : Nat → Int32 → Int64) (p1 : Int32) (p2 : Int32) (e1 : (en_gcd  p1 p2).isSome = true) :
    Wk l Z (MoC Z cdC) md_gcd 0 [.val (.ref 0), .val (.int p1), .val (.int p2), .unset, .unset, .unset, .unset] [] (7, F, G, A, B) 0 0 (fun v w' => v = some (.int (R_gcd  p1 p2)) ∧ w' = (7, F, G, A, B)) := by
  obtain ⟨r, h⟩ := Option.isSome_iff_exists.mp e1
  have e : R_gcd  p1 p2 = r := (eR_gcd  p1 p2).trans (getD_some h)
  rw [e]
  rw [een_gcd] at h
  exact wp_gcd H F G A B p1 p2 ((lpw_gcd H F G A B _ _ _ _ _) h)
set_option maxRecDepth 65536 in
set_option maxHeartbeats 4000000 in
theorem wp_lcm {l : Launch} {Z : State} {a0 : Array Value} (H : OK Z a0) (F : Nat → Int32) (G : Nat → Int64) (A : Nat → Int32 → Int32) (B : Nat → Int32 → Int64) (p1 : Int32) (p2 : Int32) {Q : Option Value → WO → Prop} (s1 : (en_gcd  p1 p2).isSome = true) (s3 : ¬ (R_gcd  p1 p2) = 0 → ¬ (R_gcd  p1 p2) = (0 : Int32)) (h4 : ¬ (R_gcd  p1 p2) = 0 → Q (some (.int ((p1 / (R_gcd  p1 p2)) * p2))) (7, F, G, A, B)) (h5 : (R_gcd  p1 p2) = 0 → Q (some (.int (0 : Int32))) (7, F, G, A, B)) :
    Wk l Z (MoC Z cdC) md_lcm 0 [.val (.ref 0), .val (.int p1), .val (.int p2), .unset] [] (7, F, G, A, B) 0 0 Q := by
  refine Wk.aloadN o_lcm_0 rfl ?_
  refine Wk.iloadN o_lcm_1 rfl ?_
  refine Wk.iloadN o_lcm_2 rfl ?_
  refine Wk.callF [.int p1, .int p2] [] (H.w 94 rfl) (cv_gcd H) o_lcm_3 (run_gcd H F G A B p1 p2 s1) (wt := 0) (cu' := 0) (su' := 0) (by decide) rfl rfl rfl rfl rfl rfl rfl ?_
  refine Wk.istoreN o_lcm_6 (Or.inl rfl) (L' := [.val (.ref 0), .val (.int p1), .val (.int p2), .val (.int (R_gcd  p1 p2))]) rfl ?_
  refine Wk.iloadN o_lcm_7 rfl ?_
  refine Wk.if_ne o_lcm_8 (fun q2 => ?_) (fun q2 => ?_)
  · refine Wk.iloadN o_lcm_13 rfl ?_
    refine Wk.iloadN o_lcm_14 rfl ?_
    refine Wk.idiv o_lcm_15 (s3 q2) ?_
    refine Wk.iloadN o_lcm_16 rfl ?_
    refine Wk.imul o_lcm_17 ?_
    exact Wk.ireturn mrC rfl o_lcm_18 rfl (by decide) (by decide) (h4 q2)
  · refine Wk.iconst o_lcm_11 (z := (0 : Int32)) (by decide) ?_
    exact Wk.ireturn mrC rfl o_lcm_12 rfl (by decide) (by decide) (h5 q2)

theorem rt_lcm (F : Nat → Int32) (G : Nat → Int64) (A : Nat → Int32 → Int32) (B : Nat → Int32 → Int64) (v0 : Int32) (r : Int32) (e : v0 = r) : some (Value.int v0) = some (.int r) ∧ (7, F, G, A, B) = (7, F, G, A, B) := by subst e; exact ⟨rfl, rfl⟩
def en_lcm (p1 : Int32) (p2 : Int32) : Option (Int32) := (if ((en_gcd  p1 p2).isSome = true) then (if (R_gcd  p1 p2) = 0 then some ((0 : Int32)) else (if (¬ (R_gcd  p1 p2) = (0 : Int32)) then some (((p1 / (R_gcd  p1 p2)) * p2)) else none)) else none)
theorem een_lcm (p1 : Int32) (p2 : Int32) : en_lcm  p1 p2 = (if ((en_gcd  p1 p2).isSome = true) then (if (R_gcd  p1 p2) = 0 then some ((0 : Int32)) else (if (¬ (R_gcd  p1 p2) = (0 : Int32)) then some (((p1 / (R_gcd  p1 p2)) * p2)) else none)) else none) := Eq.trans rfl rfl
def R_lcm (p1 : Int32) (p2 : Int32) : Int32 := (en_lcm  p1 p2).getD (0)
theorem eR_lcm (p1 : Int32) (p2 : Int32) : R_lcm  p1 p2 = (en_lcm  p1 p2).getD (0) := Eq.trans rfl rfl
set_option maxRecDepth 65536 in
set_option maxHeartbeats 4000000 in
theorem run_lcm {l : Launch} {Z : State} {a0 : Array Value} (H : OK Z a0) (F : Nat → Int32) (G : Nat → Int64) (A : Nat → Int32 → Int32) (B : Nat → Int32 → Int64) (p1 : Int32) (p2 : Int32) (e1 : (en_lcm  p1 p2).isSome = true) :
    Wk l Z (MoC Z cdC) md_lcm 0 [.val (.ref 0), .val (.int p1), .val (.int p2), .unset] [] (7, F, G, A, B) 0 0 (fun v w' => v = some (.int (R_lcm  p1 p2)) ∧ w' = (7, F, G, A, B)) := by
  obtain ⟨r, h⟩ := Option.isSome_iff_exists.mp e1
  have e : R_lcm  p1 p2 = r := (eR_lcm  p1 p2).trans (getD_some h)
  rw [e]
  rw [een_lcm] at h
  exact wp_lcm H F G A B p1 p2 ((gd h).1) (fun q2 => (gd (ifn q2 (gd h).2)).1) (fun q2 => (rt_lcm _ _ _ _ _ r (Option.some.inj (gd (ifn q2 (gd h).2)).2))) (fun q2 => (rt_lcm _ _ _ _ _ r (Option.some.inj (ifp q2 (gd h).2))))
set_option maxRecDepth 65536 in
set_option maxHeartbeats 4000000 in
theorem wp_resetDispatcher {l : Launch} {Z : State} {a0 : Array Value} (H : OK Z a0) (F : Nat → Int32) (G : Nat → Int64) (A : Nat → Int32 → Int32) (B : Nat → Int32 → Int64) {Q : Option Value → WO → Prop} (h1 : Wk l Z (MoC Z cdC) md_resetDispatcher 12 [.val (.ref 0), .val (.int (0 : Int32))] [] (7, (ups (ups F 7 (0 : Int32)) 8 (0 : Int32)), G, A, B) 0 0 Q) :
    Wk l Z (MoC Z cdC) md_resetDispatcher 0 [.val (.ref 0), .unset] [] (7, F, G, A, B) 0 0 Q := by
  refine Wk.aloadN o_resetDispatcher_0 rfl ?_
  refine Wk.iconst o_resetDispatcher_1 (z := (0 : Int32)) (by decide) ?_
  refine Wk.putI (coC H) (mI_now) (wf_now H) (Or.inl (wy_now H)) o_resetDispatcher_2 ?_
  refine Wk.aloadN o_resetDispatcher_5 rfl ?_
  refine Wk.iconst o_resetDispatcher_6 (z := (0 : Int32)) (by decide) ?_
  refine Wk.putI (coC H) (mI_pos) (wf_pos H) (Or.inl (wy_pos H)) o_resetDispatcher_7 ?_
  refine Wk.iconst o_resetDispatcher_10 (z := (0 : Int32)) (by decide) ?_
  refine Wk.istoreN o_resetDispatcher_11 (Or.inl rfl) (L' := [.val (.ref 0), .val (.int (0 : Int32))]) rfl ?_
  exact h1

set_option maxRecDepth 65536 in
set_option maxHeartbeats 4000000 in
theorem wp_resetDispatcher_12 {l : Launch} {Z : State} {a0 : Array Value} (H : OK Z a0) (F : Nat → Int32) (G : Nat → Int64) (A : Nat → Int32 → Int32) (B : Nat → Int32 → Int64) (v1 : Int32) {Q : Option Value → WO → Prop} (h2 : ¬ v1 < (8 : Int32) → Q none (7, F, G, A, B)) (s3 : v1 < (8 : Int32) → ¬ v1 < 0) (h4 : v1 < (8 : Int32) → Wk l Z (MoC Z cdC) md_resetDispatcher 12 [.val (.ref 0), .val (.int (v1 + (1 : Int32)))] [] (7, F, G, (ups A 3 (ups (A 3) v1 (0 : Int32))), B) 0 0 Q) :
    Wk l Z (MoC Z cdC) md_resetDispatcher 12 [.val (.ref 0), .val (.int v1)] [] (7, F, G, A, B) 0 0 Q := by
  refine Wk.iloadN o_resetDispatcher_12 rfl ?_
  refine Wk.bipush o_resetDispatcher_13 (z := (8 : Int32)) (by decide) ?_
  refine Wk.icmp_ge o_resetDispatcher_15 (fun q1 => ?_) (fun q1 => ?_)
  · exact Wk.ret mrC rfl o_resetDispatcher_31 rfl (by decide) (by decide) (h2 q1)
  · refine Wk.aloadN o_resetDispatcher_18 rfl ?_
    refine Wk.getA (mA_runCnt) (by decide) (i' := 4) rfl (wf_runCnt H) o_resetDispatcher_19 ?_
    refine Wk.iloadN o_resetDispatcher_22 rfl ?_
    refine Wk.iconst o_resetDispatcher_23 (z := (0 : Int32)) (by decide) ?_
    refine Wk.iastore (coC H) (f := (A 3)) (mA_runCnt) rfl (by decide) (i' := 4) rfl (s3 q1) q1 o_resetDispatcher_24 ?_
    refine Wk.iinc o_resetDispatcher_25 rfl (z := (v1 + (1 : Int32))) rfl (L' := [.val (.ref 0), .val (.int (v1 + (1 : Int32)))]) rfl ?_
    refine Wk.goto o_resetDispatcher_28 ?_
    exact (h4 q1)

theorem rt_resetDispatcher (G : Nat → Int64) (B : Nat → Int32 → Int64) (v0 : Int32) (xF : Nat → Int32) (xA : Nat → Int32 → Int32) (r : Int32 × (Nat → Int32) × (Nat → Int32 → Int32)) (e : (v0, xF, xA) = r) : (none : Option Value) = none ∧ (7, xF, G, xA, B) = (7, r.2.1, G, r.2.2, B) := by subst e; exact ⟨rfl, rfl⟩
def lp_resetDispatcher : Nat → Nat → Int32 → (Nat → Int32) → (Nat → Int32 → Int32) → Option (Int32 × (Nat → Int32) × (Nat → Int32 → Int32))
  | 0, _, _, _, _ => none
  | n + 1, tag, v1, F, A => if tag = 12 then (if v1 < (8 : Int32) then (if (¬ v1 < 0) then lp_resetDispatcher n 12 (v1 + (1 : Int32)) F (ups A 3 (ups (A 3) v1 (0 : Int32))) else none) else some ((0 : Int32), F, A)) else none
theorem lp_resetDispatcher_z (tag : Nat) (v1 : Int32) (F : Nat → Int32) (A : Nat → Int32 → Int32) : lp_resetDispatcher 0 tag v1 F A = none := Eq.trans rfl rfl
theorem lp_resetDispatcher_12 (n : Nat) (v1 : Int32) (F : Nat → Int32) (A : Nat → Int32 → Int32) : lp_resetDispatcher (n + 1) 12 v1 F A = (if v1 < (8 : Int32) then (if (¬ v1 < 0) then lp_resetDispatcher n 12 (v1 + (1 : Int32)) F (ups A 3 (ups (A 3) v1 (0 : Int32))) else none) else some ((0 : Int32), F, A)) := by
  rw [lp_resetDispatcher, if_pos rfl]
set_option maxRecDepth 65536 in
set_option maxHeartbeats 4000000 in
theorem lpw_resetDispatcher {l : Launch} {Z : State} {a0 : Array Value} (H : OK Z a0) (G : Nat → Int64) (B : Nat → Int32 → Int64) : ∀ (n : Nat) (v1 : Int32) (F : Nat → Int32) (A : Nat → Int32 → Int32) (r : Int32 × (Nat → Int32) × (Nat → Int32 → Int32)), (lp_resetDispatcher n 12 v1 F A = some r → Wk l Z (MoC Z cdC) md_resetDispatcher 12 [.val (.ref 0), .val (.int v1)] [] (7, F, G, A, B) 0 0 (fun v w' => v = none ∧ w' = (7, r.2.1, G, r.2.2, B))) := by
  intro n
  induction n with
  | zero =>
    intro v1 F A r
    exact (fun h => by rw [lp_resetDispatcher_z] at h; cases h)
  | succ n ih =>
    intro v1 F A r
    refine fun h => ?_
    · rw [lp_resetDispatcher_12] at h
      exact wp_resetDispatcher_12 H F G A B v1 (fun q1 => (rt_resetDispatcher _ _ _ _ _ r (Option.some.inj (ifn q1 h)))) (fun q1 => (gd (ifp q1 h)).1) (fun q1 => (ih _ _ _ _) (gd (ifp q1 h)).2)
def en_resetDispatcher (F : Nat → Int32) (A : Nat → Int32 → Int32) : Option (Int32 × (Nat → Int32) × (Nat → Int32 → Int32)) := lp_resetDispatcher 5000 12 (0 : Int32) (ups (ups F 7 (0 : Int32)) 8 (0 : Int32)) A
theorem een_resetDispatcher (F : Nat → Int32) (A : Nat → Int32 → Int32) : en_resetDispatcher F A  = lp_resetDispatcher 5000 12 (0 : Int32) (ups (ups F 7 (0 : Int32)) 8 (0 : Int32)) A := Eq.trans rfl rfl
def R_resetDispatcher (F : Nat → Int32) (A : Nat → Int32 → Int32) : Int32 × (Nat → Int32) × (Nat → Int32 → Int32) := (en_resetDispatcher F A ).getD (0, (fun _ => 0), (fun _ _ => 0))
theorem eR_resetDispatcher (F : Nat → Int32) (A : Nat → Int32 → Int32) : R_resetDispatcher F A  = (en_resetDispatcher F A ).getD (0, (fun _ => 0), (fun _ _ => 0)) := Eq.trans rfl rfl
set_option maxRecDepth 65536 in
set_option maxHeartbeats 4000000 in
theorem run_resetDispatcher {l : Launch} {Z : State} {a0 : Array Value} (H : OK Z a0) (F : Nat → Int32) (G : Nat → Int64) (A : Nat → Int32 → Int32) (B : Nat → Int32 → Int64) (e1 : (en_resetDispatcher F A ).isSome = true) :
    Wk l Z (MoC Z cdC) md_resetDispatcher 0 [.val (.ref 0), .unset] [] (7, F, G, A, B) 0 0 (fun v w' => v = none ∧ w' = (7, (R_resetDispatcher F A ).2.1, G, (R_resetDispatcher F A ).2.2, B)) := by
  obtain ⟨r, h⟩ := Option.isSome_iff_exists.mp e1
  have e : R_resetDispatcher F A  = r := (eR_resetDispatcher F A ).trans (getD_some h)
  rw [e]
  rw [een_resetDispatcher] at h
  exact wp_resetDispatcher H F G A B  ((lpw_resetDispatcher H G B _ _ _ _ _) h)
set_option maxRecDepth 65536 in
set_option maxHeartbeats 4000000 in
theorem wp_addTask {l : Launch} {Z : State} {a0 : Array Value} (H : OK Z a0) (F : Nat → Int32) (G : Nat → Int64) (A : Nat → Int32 → Int32) (B : Nat → Int32 → Int64) (p1 : Int32) (p2 : Int32) (p3 : Int32) {Q : Option Value → WO → Prop} (h2 : p1 < (1 : Int32) → Q (some (.int (-1 : Int32))) (7, F, G, A, B)) (h4 : ¬ p1 < (1 : Int32) → (128 : Int32) < p1 → Q (some (.int (-1 : Int32))) (7, F, G, A, B)) (h6 : ¬ p1 < (1 : Int32) → ¬ (128 : Int32) < p1 → p3 < (1 : Int32) → Q (some (.int (-1 : Int32))) (7, F, G, A, B)) (h8 : ¬ p1 < (1 : Int32) → ¬ (128 : Int32) < p1 → ¬ p3 < (1 : Int32) → p1 < p3 → Q (some (.int (-1 : Int32))) (7, F, G, A, B)) (h10 : ¬ p1 < (1 : Int32) → ¬ (128 : Int32) < p1 → ¬ p3 < (1 : Int32) → ¬ p1 < p3 → p2 < (1 : Int32) → Q (some (.int (-1 : Int32))) (7, F, G, A, B)) (s15 : ¬ p1 < (1 : Int32) → ¬ (128 : Int32) < p1 → ¬ p3 < (1 : Int32) → ¬ p1 < p3 → ¬ p2 < (1 : Int32) → ¬ p3 < p2 → (F 2) < (F 0) → (en_lcm  (if (F 2) = 0 then (1 : Int32) else (F 3)) p1).isSome = true) (s17 : ¬ p1 < (1 : Int32) → ¬ (128 : Int32) < p1 → ¬ p3 < (1 : Int32) → ¬ p1 < p3 → ¬ p2 < (1 : Int32) → ¬ p3 < p2 → (F 2) < (F 0) → ¬ (F 1) < (R_lcm  (if (F 2) = 0 then (1 : Int32) else (F 3)) p1) → ¬ (F 2) < 0) (s18 : ¬ p1 < (1 : Int32) → ¬ (128 : Int32) < p1 → ¬ p3 < (1 : Int32) → ¬ p1 < p3 → ¬ p2 < (1 : Int32) → ¬ p3 < p2 → (F 2) < (F 0) → ¬ (F 1) < (R_lcm  (if (F 2) = 0 then (1 : Int32) else (F 3)) p1) → (F 2) < (8 : Int32)) (s19 : ¬ p1 < (1 : Int32) → ¬ (128 : Int32) < p1 → ¬ p3 < (1 : Int32) → ¬ p1 < p3 → ¬ p2 < (1 : Int32) → ¬ p3 < p2 → (F 2) < (F 0) → ¬ (F 1) < (R_lcm  (if (F 2) = 0 then (1 : Int32) else (F 3)) p1) → (en_resetDispatcher (ups (ups (ups (ups (ups F 2 ((F 2) + (1 : Int32))) 3 (R_lcm  (if (F 2) = 0 then (1 : Int32) else (F 3)) p1)) 4 (0 : Int32)) 5 (0 : Int32)) 6 (-1 : Int32)) (ups (ups (ups A 0 (ups (A 0) (F 2) p1)) 1 (ups (A 1) (F 2) p2)) 2 (ups (A 2) (F 2) p3)) ).isSome = true) (h20 : ¬ p1 < (1 : Int32) → ¬ (128 : Int32) < p1 → ¬ p3 < (1 : Int32) → ¬ p1 < p3 → ¬ p2 < (1 : Int32) → ¬ p3 < p2 → (F 2) < (F 0) → ¬ (F 1) < (R_lcm  (if (F 2) = 0 then (1 : Int32) else (F 3)) p1) → Q (some (.int (F 2))) (7, (R_resetDispatcher (ups (ups (ups (ups (ups F 2 ((F 2) + (1 : Int32))) 3 (R_lcm  (if (F 2) = 0 then (1 : Int32) else (F 3)) p1)) 4 (0 : Int32)) 5 (0 : Int32)) 6 (-1 : Int32)) (ups (ups (ups A 0 (ups (A 0) (F 2) p1)) 1 (ups (A 1) (F 2) p2)) 2 (ups (A 2) (F 2) p3)) ).2.1, G, (R_resetDispatcher (ups (ups (ups (ups (ups F 2 ((F 2) + (1 : Int32))) 3 (R_lcm  (if (F 2) = 0 then (1 : Int32) else (F 3)) p1)) 4 (0 : Int32)) 5 (0 : Int32)) 6 (-1 : Int32)) (ups (ups (ups A 0 (ups (A 0) (F 2) p1)) 1 (ups (A 1) (F 2) p2)) 2 (ups (A 2) (F 2) p3)) ).2.2, B)) (h21 : ¬ p1 < (1 : Int32) → ¬ (128 : Int32) < p1 → ¬ p3 < (1 : Int32) → ¬ p1 < p3 → ¬ p2 < (1 : Int32) → ¬ p3 < p2 → (F 2) < (F 0) → (F 1) < (R_lcm  (if (F 2) = 0 then (1 : Int32) else (F 3)) p1) → Q (some (.int (-3 : Int32))) (7, F, G, A, B)) (h22 : ¬ p1 < (1 : Int32) → ¬ (128 : Int32) < p1 → ¬ p3 < (1 : Int32) → ¬ p1 < p3 → ¬ p2 < (1 : Int32) → ¬ p3 < p2 → ¬ (F 2) < (F 0) → Q (some (.int (-2 : Int32))) (7, F, G, A, B)) (h23 : ¬ p1 < (1 : Int32) → ¬ (128 : Int32) < p1 → ¬ p3 < (1 : Int32) → ¬ p1 < p3 → ¬ p2 < (1 : Int32) → p3 < p2 → Q (some (.int (-1 : Int32))) (7, F, G, A, B)) :
    Wk l Z (MoC Z cdC) md_addTask 0 [.val (.ref 0), .val (.int p1), .val (.int p2), .val (.int p3), .unset, .unset, .unset] [] (7, F, G, A, B) 0 0 Q := by
  refine Wk.iloadN o_addTask_0 rfl ?_
  refine Wk.iconst o_addTask_1 (z := (1 : Int32)) (by decide) ?_
  refine Wk.icmp_lt o_addTask_2 (fun q1 => ?_) (fun q1 => ?_)
  · refine Wk.iconst o_addTask_32 (z := (-1 : Int32)) (by decide) ?_
    exact Wk.ireturn mrC rfl o_addTask_33 rfl (by decide) (by decide) (h2 q1)
  · refine Wk.iloadN o_addTask_5 rfl ?_
    refine Wk.sipush o_addTask_6 (z := (128 : Int32)) (by decide) ?_
    refine Wk.icmp_gt o_addTask_9 (fun q3 => ?_) (fun q3 => ?_)
    · refine Wk.iconst o_addTask_32 (z := (-1 : Int32)) (by decide) ?_
      exact Wk.ireturn mrC rfl o_addTask_33 rfl (by decide) (by decide) (h4 q1 q3)
    · refine Wk.iloadN o_addTask_12 rfl ?_
      refine Wk.iconst o_addTask_13 (z := (1 : Int32)) (by decide) ?_
      refine Wk.icmp_lt o_addTask_14 (fun q5 => ?_) (fun q5 => ?_)
      · refine Wk.iconst o_addTask_32 (z := (-1 : Int32)) (by decide) ?_
        exact Wk.ireturn mrC rfl o_addTask_33 rfl (by decide) (by decide) (h6 q1 q3 q5)
      · refine Wk.iloadN o_addTask_17 rfl ?_
        refine Wk.iloadN o_addTask_18 rfl ?_
        refine Wk.icmp_gt o_addTask_19 (fun q7 => ?_) (fun q7 => ?_)
        · refine Wk.iconst o_addTask_32 (z := (-1 : Int32)) (by decide) ?_
          exact Wk.ireturn mrC rfl o_addTask_33 rfl (by decide) (by decide) (h8 q1 q3 q5 q7)
        · refine Wk.iloadN o_addTask_22 rfl ?_
          refine Wk.iconst o_addTask_23 (z := (1 : Int32)) (by decide) ?_
          refine Wk.icmp_lt o_addTask_24 (fun q9 => ?_) (fun q9 => ?_)
          · refine Wk.iconst o_addTask_32 (z := (-1 : Int32)) (by decide) ?_
            exact Wk.ireturn mrC rfl o_addTask_33 rfl (by decide) (by decide) (h10 q1 q3 q5 q7 q9)
          · refine Wk.iloadN o_addTask_27 rfl ?_
            refine Wk.iloadN o_addTask_28 rfl ?_
            refine Wk.icmp_le o_addTask_29 (fun q11 => ?_) (fun q11 => ?_)
            · refine Wk.aloadN o_addTask_34 rfl ?_
              refine Wk.getI (mI_count) (wf_count H) o_addTask_35 (x := (F 2)) rfl ?_
              refine Wk.aloadN o_addTask_38 rfl ?_
              refine Wk.getI (mI_maxTasks) (wf_maxTasks H) o_addTask_39 (x := (F 0)) rfl ?_
              refine Wk.icmp_lt o_addTask_42 (fun q12 => ?_) (fun q12 => ?_)
              · refine Wk.aloadN o_addTask_48 rfl ?_
                refine Wk.getI (mI_count) (wf_count H) o_addTask_49 (x := (F 2)) rfl ?_
                have J14 : Wk l Z (MoC Z cdC) md_addTask 63 [.val (.ref 0), .val (.int p1), .val (.int p2), .val (.int p3), .unset, .unset, .unset] [.int (if (F 2) = 0 then (1 : Int32) else (F 3))] (7, F, G, A, B) 0 0 Q := by
                  refine Wk.istore o_addTask_63 (Or.inl rfl) (L' := [.val (.ref 0), .val (.int p1), .val (.int p2), .val (.int p3), .val (.int (if (F 2) = 0 then (1 : Int32) else (F 3))), .unset, .unset]) rfl ?_
                  refine Wk.aloadN o_addTask_65 rfl ?_
                  refine Wk.iload o_addTask_66 rfl ?_
                  refine Wk.iloadN o_addTask_68 rfl ?_
                  refine Wk.callF [.int (if (F 2) = 0 then (1 : Int32) else (F 3)), .int p1] [] (H.w 90 rfl) (cv_lcm H) o_addTask_69 (run_lcm H F G A B (if (F 2) = 0 then (1 : Int32) else (F 3)) p1 (s15 q1 q3 q5 q7 q9 q11 q12)) (wt := 0) (cu' := 0) (su' := 0) (by decide) rfl rfl rfl rfl rfl rfl rfl ?_
                  refine Wk.istore o_addTask_72 (Or.inl rfl) (L' := [.val (.ref 0), .val (.int p1), .val (.int p2), .val (.int p3), .val (.int (if (F 2) = 0 then (1 : Int32) else (F 3))), .val (.int (R_lcm  (if (F 2) = 0 then (1 : Int32) else (F 3)) p1)), .unset]) rfl ?_
                  refine Wk.iload o_addTask_74 rfl ?_
                  refine Wk.aloadN o_addTask_76 rfl ?_
                  refine Wk.getI (mI_maxHyper) (wf_maxHyper H) o_addTask_77 (x := (F 1)) rfl ?_
                  refine Wk.icmp_le o_addTask_80 (fun q16 => ?_) (fun q16 => ?_)
                  · refine Wk.aloadN o_addTask_86 rfl ?_
                    refine Wk.getI (mI_count) (wf_count H) o_addTask_87 (x := (F 2)) rfl ?_
                    refine Wk.istore o_addTask_90 (Or.inl rfl) (L' := [.val (.ref 0), .val (.int p1), .val (.int p2), .val (.int p3), .val (.int (if (F 2) = 0 then (1 : Int32) else (F 3))), .val (.int (R_lcm  (if (F 2) = 0 then (1 : Int32) else (F 3)) p1)), .val (.int (F 2))]) rfl ?_
                    refine Wk.aloadN o_addTask_92 rfl ?_
                    refine Wk.getA (mA_per) (by decide) (i' := 1) rfl (wf_per H) o_addTask_93 ?_
                    refine Wk.iload o_addTask_96 rfl ?_
                    refine Wk.iloadN o_addTask_98 rfl ?_
                    refine Wk.iastore (coC H) (f := (A 0)) (mA_per) rfl (by decide) (i' := 1) rfl (s17 q1 q3 q5 q7 q9 q11 q12 q16) (s18 q1 q3 q5 q7 q9 q11 q12 q16) o_addTask_99 ?_
                    refine Wk.aloadN o_addTask_100 rfl ?_
                    refine Wk.getA (mA_exe) (by decide) (i' := 2) rfl (wf_exe H) o_addTask_101 ?_
                    refine Wk.iload o_addTask_104 rfl ?_
                    refine Wk.iloadN o_addTask_106 rfl ?_
                    refine Wk.iastore (coC H) (f := (A 1)) (mA_exe) rfl (by decide) (i' := 2) rfl (s17 q1 q3 q5 q7 q9 q11 q12 q16) (s18 q1 q3 q5 q7 q9 q11 q12 q16) o_addTask_107 ?_
                    refine Wk.aloadN o_addTask_108 rfl ?_
                    refine Wk.getA (mA_dl) (by decide) (i' := 3) rfl (wf_dl H) o_addTask_109 ?_
                    refine Wk.iload o_addTask_112 rfl ?_
                    refine Wk.iloadN o_addTask_114 rfl ?_
                    refine Wk.iastore (coC H) (f := (A 2)) (mA_dl) rfl (by decide) (i' := 3) rfl (s17 q1 q3 q5 q7 q9 q11 q12 q16) (s18 q1 q3 q5 q7 q9 q11 q12 q16) o_addTask_115 ?_
                    refine Wk.aloadN o_addTask_116 rfl ?_
                    refine Wk.dup o_addTask_117 rfl ?_
                    refine Wk.getI (mI_count) (wf_count H) o_addTask_118 (x := (F 2)) rfl ?_
                    refine Wk.iconst o_addTask_121 (z := (1 : Int32)) (by decide) ?_
                    refine Wk.iadd o_addTask_122 ?_
                    refine Wk.putI (coC H) (mI_count) (wf_count H) (Or.inl (wy_count H)) o_addTask_123 ?_
                    refine Wk.aloadN o_addTask_126 rfl ?_
                    refine Wk.iload o_addTask_127 rfl ?_
                    refine Wk.putI (coC H) (mI_hyper) (wf_hyper H) (Or.inl (wy_hyper H)) o_addTask_129 ?_
                    refine Wk.aloadN o_addTask_132 rfl ?_
                    refine Wk.iconst o_addTask_133 (z := (0 : Int32)) (by decide) ?_
                    refine Wk.putZ (coC H) (y := (0 : Int32)) (by decide) (mI_present) (wf_present H) (Or.inl (wy_present H)) o_addTask_134 ?_
                    refine Wk.aloadN o_addTask_137 rfl ?_
                    refine Wk.iconst o_addTask_138 (z := (0 : Int32)) (by decide) ?_
                    refine Wk.putI (coC H) (mI_frame) (wf_frame H) (Or.inl (wy_frame H)) o_addTask_139 ?_
                    refine Wk.aloadN o_addTask_142 rfl ?_
                    refine Wk.iconst o_addTask_143 (z := (-1 : Int32)) (by decide) ?_
                    refine Wk.putI (coC H) (mI_miss) (wf_miss H) (Or.inl (wy_miss H)) o_addTask_144 ?_
                    refine Wk.aloadN o_addTask_147 rfl ?_
                    refine Wk.callU [] [] (H.w 98 rfl) (cv_resetDispatcher H) o_addTask_148 (run_resetDispatcher H (ups (ups (ups (ups (ups F 2 ((F 2) + (1 : Int32))) 3 (R_lcm  (if (F 2) = 0 then (1 : Int32) else (F 3)) p1)) 4 (0 : Int32)) 5 (0 : Int32)) 6 (-1 : Int32)) G (ups (ups (ups A 0 (ups (A 0) (F 2) p1)) 1 (ups (A 1) (F 2) p2)) 2 (ups (A 2) (F 2) p3)) B (s19 q1 q3 q5 q7 q9 q11 q12 q16)) (wt := 0) (cu' := 0) (su' := 0) (by decide) rfl rfl rfl rfl rfl rfl rfl ?_
                    refine Wk.iload o_addTask_151 rfl ?_
                    exact Wk.ireturn mrC rfl o_addTask_153 rfl (by decide) (by decide) (h20 q1 q3 q5 q7 q9 q11 q12 q16)
                  · refine Wk.bipush o_addTask_83 (z := (-3 : Int32)) (by decide) ?_
                    exact Wk.ireturn mrC rfl o_addTask_85 rfl (by decide) (by decide) (h21 q1 q3 q5 q7 q9 q11 q12 q16)
                refine Wk.if_ne o_addTask_52 (fun q13 => ?_) (fun q13 => ?_)
                · refine Wk.aloadN o_addTask_59 rfl ?_
                  refine Wk.getI (mI_hyper) (wf_hyper H) o_addTask_60 (x := (F 3)) rfl ?_
                  first | (rw [show ((if (F 2) = 0 then (1 : Int32) else (F 3)) : Int32) = (F 3) from if_neg q13] at J14; exact J14) | exact J14 | (simp only [if_neg q13] at J14 ⊢; exact J14)
                · refine Wk.iconst o_addTask_55 (z := (1 : Int32)) (by decide) ?_
                  refine Wk.goto o_addTask_56 ?_
                  first | (rw [show ((if (F 2) = 0 then (1 : Int32) else (F 3)) : Int32) = (1 : Int32) from if_pos q13] at J14; exact J14) | exact J14 | (simp only [if_pos q13] at J14 ⊢; exact J14)
              · refine Wk.bipush o_addTask_45 (z := (-2 : Int32)) (by decide) ?_
                exact Wk.ireturn mrC rfl o_addTask_47 rfl (by decide) (by decide) (h22 q1 q3 q5 q7 q9 q11 q12)
            · refine Wk.iconst o_addTask_32 (z := (-1 : Int32)) (by decide) ?_
              exact Wk.ireturn mrC rfl o_addTask_33 rfl (by decide) (by decide) (h23 q1 q3 q5 q7 q9 q11)

theorem rt_addTask (G : Nat → Int64) (B : Nat → Int32 → Int64) (v0 : Int32) (xF : Nat → Int32) (xA : Nat → Int32 → Int32) (r : Int32 × (Nat → Int32) × (Nat → Int32 → Int32)) (e : (v0, xF, xA) = r) : some (Value.int v0) = some (.int r.1) ∧ (7, xF, G, xA, B) = (7, r.2.1, G, r.2.2, B) := by subst e; exact ⟨rfl, rfl⟩
def en_addTask (F : Nat → Int32) (A : Nat → Int32 → Int32) (p1 : Int32) (p2 : Int32) (p3 : Int32) : Option (Int32 × (Nat → Int32) × (Nat → Int32 → Int32)) := (if p1 < (1 : Int32) then some ((-1 : Int32), F, A) else (if (128 : Int32) < p1 then some ((-1 : Int32), F, A) else (if p3 < (1 : Int32) then some ((-1 : Int32), F, A) else (if p1 < p3 then some ((-1 : Int32), F, A) else (if p2 < (1 : Int32) then some ((-1 : Int32), F, A) else (if p3 < p2 then some ((-1 : Int32), F, A) else (if (F 2) < (F 0) then (if ((en_lcm  (if (F 2) = 0 then (1 : Int32) else (F 3)) p1).isSome = true) then (if (F 1) < (R_lcm  (if (F 2) = 0 then (1 : Int32) else (F 3)) p1) then some ((-3 : Int32), F, A) else (if (¬ (F 2) < 0) ∧ ((F 2) < (8 : Int32)) ∧ ((en_resetDispatcher (ups (ups (ups (ups (ups F 2 ((F 2) + (1 : Int32))) 3 (R_lcm  (if (F 2) = 0 then (1 : Int32) else (F 3)) p1)) 4 (0 : Int32)) 5 (0 : Int32)) 6 (-1 : Int32)) (ups (ups (ups A 0 (ups (A 0) (F 2) p1)) 1 (ups (A 1) (F 2) p2)) 2 (ups (A 2) (F 2) p3)) ).isSome = true) then some ((F 2), (R_resetDispatcher (ups (ups (ups (ups (ups F 2 ((F 2) + (1 : Int32))) 3 (R_lcm  (if (F 2) = 0 then (1 : Int32) else (F 3)) p1)) 4 (0 : Int32)) 5 (0 : Int32)) 6 (-1 : Int32)) (ups (ups (ups A 0 (ups (A 0) (F 2) p1)) 1 (ups (A 1) (F 2) p2)) 2 (ups (A 2) (F 2) p3)) ).2.1, (R_resetDispatcher (ups (ups (ups (ups (ups F 2 ((F 2) + (1 : Int32))) 3 (R_lcm  (if (F 2) = 0 then (1 : Int32) else (F 3)) p1)) 4 (0 : Int32)) 5 (0 : Int32)) 6 (-1 : Int32)) (ups (ups (ups A 0 (ups (A 0) (F 2) p1)) 1 (ups (A 1) (F 2) p2)) 2 (ups (A 2) (F 2) p3)) ).2.2) else none)) else none) else some ((-2 : Int32), F, A))))))))
theorem een_addTask (F : Nat → Int32) (A : Nat → Int32 → Int32) (p1 : Int32) (p2 : Int32) (p3 : Int32) : en_addTask F A p1 p2 p3 = (if p1 < (1 : Int32) then some ((-1 : Int32), F, A) else (if (128 : Int32) < p1 then some ((-1 : Int32), F, A) else (if p3 < (1 : Int32) then some ((-1 : Int32), F, A) else (if p1 < p3 then some ((-1 : Int32), F, A) else (if p2 < (1 : Int32) then some ((-1 : Int32), F, A) else (if p3 < p2 then some ((-1 : Int32), F, A) else (if (F 2) < (F 0) then (if ((en_lcm  (if (F 2) = 0 then (1 : Int32) else (F 3)) p1).isSome = true) then (if (F 1) < (R_lcm  (if (F 2) = 0 then (1 : Int32) else (F 3)) p1) then some ((-3 : Int32), F, A) else (if (¬ (F 2) < 0) ∧ ((F 2) < (8 : Int32)) ∧ ((en_resetDispatcher (ups (ups (ups (ups (ups F 2 ((F 2) + (1 : Int32))) 3 (R_lcm  (if (F 2) = 0 then (1 : Int32) else (F 3)) p1)) 4 (0 : Int32)) 5 (0 : Int32)) 6 (-1 : Int32)) (ups (ups (ups A 0 (ups (A 0) (F 2) p1)) 1 (ups (A 1) (F 2) p2)) 2 (ups (A 2) (F 2) p3)) ).isSome = true) then some ((F 2), (R_resetDispatcher (ups (ups (ups (ups (ups F 2 ((F 2) + (1 : Int32))) 3 (R_lcm  (if (F 2) = 0 then (1 : Int32) else (F 3)) p1)) 4 (0 : Int32)) 5 (0 : Int32)) 6 (-1 : Int32)) (ups (ups (ups A 0 (ups (A 0) (F 2) p1)) 1 (ups (A 1) (F 2) p2)) 2 (ups (A 2) (F 2) p3)) ).2.1, (R_resetDispatcher (ups (ups (ups (ups (ups F 2 ((F 2) + (1 : Int32))) 3 (R_lcm  (if (F 2) = 0 then (1 : Int32) else (F 3)) p1)) 4 (0 : Int32)) 5 (0 : Int32)) 6 (-1 : Int32)) (ups (ups (ups A 0 (ups (A 0) (F 2) p1)) 1 (ups (A 1) (F 2) p2)) 2 (ups (A 2) (F 2) p3)) ).2.2) else none)) else none) else some ((-2 : Int32), F, A)))))))) := Eq.trans rfl rfl
def R_addTask (F : Nat → Int32) (A : Nat → Int32 → Int32) (p1 : Int32) (p2 : Int32) (p3 : Int32) : Int32 × (Nat → Int32) × (Nat → Int32 → Int32) := (en_addTask F A p1 p2 p3).getD (0, (fun _ => 0), (fun _ _ => 0))
theorem eR_addTask (F : Nat → Int32) (A : Nat → Int32 → Int32) (p1 : Int32) (p2 : Int32) (p3 : Int32) : R_addTask F A p1 p2 p3 = (en_addTask F A p1 p2 p3).getD (0, (fun _ => 0), (fun _ _ => 0)) := Eq.trans rfl rfl
set_option maxRecDepth 65536 in
set_option maxHeartbeats 4000000 in
theorem run_addTask {l : Launch} {Z : State} {a0 : Array Value} (H : OK Z a0) (F : Nat → Int32) (G : Nat → Int64) (A : Nat → Int32 → Int32) (B : Nat → Int32 → Int64) (p1 : Int32) (p2 : Int32) (p3 : Int32) (e1 : (en_addTask F A p1 p2 p3).isSome = true) :
    Wk l Z (MoC Z cdC) md_addTask 0 [.val (.ref 0), .val (.int p1), .val (.int p2), .val (.int p3), .unset, .unset, .unset] [] (7, F, G, A, B) 0 0 (fun v w' => v = some (.int (R_addTask F A p1 p2 p3).1) ∧ w' = (7, (R_addTask F A p1 p2 p3).2.1, G, (R_addTask F A p1 p2 p3).2.2, B)) := by
  obtain ⟨r, h⟩ := Option.isSome_iff_exists.mp e1
  have e : R_addTask F A p1 p2 p3 = r := (eR_addTask F A p1 p2 p3).trans (getD_some h)
  rw [e]
  rw [een_addTask] at h
  exact wp_addTask H F G A B p1 p2 p3 (fun q1 => (rt_addTask _ _ _ _ _ r (Option.some.inj (ifp q1 h)))) (fun q1 q3 => (rt_addTask _ _ _ _ _ r (Option.some.inj (ifp q3 (ifn q1 h))))) (fun q1 q3 q5 => (rt_addTask _ _ _ _ _ r (Option.some.inj (ifp q5 (ifn q3 (ifn q1 h)))))) (fun q1 q3 q5 q7 => (rt_addTask _ _ _ _ _ r (Option.some.inj (ifp q7 (ifn q5 (ifn q3 (ifn q1 h))))))) (fun q1 q3 q5 q7 q9 => (rt_addTask _ _ _ _ _ r (Option.some.inj (ifp q9 (ifn q7 (ifn q5 (ifn q3 (ifn q1 h)))))))) (fun q1 q3 q5 q7 q9 q11 q12 => (gd (ifp q12 (ifn q11 (ifn q9 (ifn q7 (ifn q5 (ifn q3 (ifn q1 h)))))))).1) (fun q1 q3 q5 q7 q9 q11 q12 q16 => (gd (ifn q16 (gd (ifp q12 (ifn q11 (ifn q9 (ifn q7 (ifn q5 (ifn q3 (ifn q1 h)))))))).2)).1.1) (fun q1 q3 q5 q7 q9 q11 q12 q16 => (gd (ifn q16 (gd (ifp q12 (ifn q11 (ifn q9 (ifn q7 (ifn q5 (ifn q3 (ifn q1 h)))))))).2)).1.2.1) (fun q1 q3 q5 q7 q9 q11 q12 q16 => (gd (ifn q16 (gd (ifp q12 (ifn q11 (ifn q9 (ifn q7 (ifn q5 (ifn q3 (ifn q1 h)))))))).2)).1.2.2) (fun q1 q3 q5 q7 q9 q11 q12 q16 => (rt_addTask _ _ _ _ _ r (Option.some.inj (gd (ifn q16 (gd (ifp q12 (ifn q11 (ifn q9 (ifn q7 (ifn q5 (ifn q3 (ifn q1 h)))))))).2)).2))) (fun q1 q3 q5 q7 q9 q11 q12 q16 => (rt_addTask _ _ _ _ _ r (Option.some.inj (ifp q16 (gd (ifp q12 (ifn q11 (ifn q9 (ifn q7 (ifn q5 (ifn q3 (ifn q1 h)))))))).2)))) (fun q1 q3 q5 q7 q9 q11 q12 => (rt_addTask _ _ _ _ _ r (Option.some.inj (ifn q12 (ifn q11 (ifn q9 (ifn q7 (ifn q5 (ifn q3 (ifn q1 h)))))))))) (fun q1 q3 q5 q7 q9 q11 => (rt_addTask _ _ _ _ _ r (Option.some.inj (ifp q11 (ifn q9 (ifn q7 (ifn q5 (ifn q3 (ifn q1 h)))))))))
set_option maxRecDepth 65536 in
set_option maxHeartbeats 4000000 in
theorem wp_dividesHyper {l : Launch} {Z : State} {a0 : Array Value} (H : OK Z a0) (F : Nat → Int32) (G : Nat → Int64) (A : Nat → Int32 → Int32) (B : Nat → Int32 → Int64) (p1 : Int32) {Q : Option Value → WO → Prop} (s4 : 0 < (F 2) → ¬ p1 < (1 : Int32) → ¬ (F 3) < p1 → ¬ p1 = (0 : Int32)) (h10 : Q (some (.int (nar .boolean (if 0 < (F 2) then (if p1 < (1 : Int32) then (0 : Int32) else (if (F 3) < p1 then (0 : Int32) else (if ((F 3) % p1) = 0 then (1 : Int32) else (0 : Int32)))) else (0 : Int32))))) (7, F, G, A, B)) :
    Wk l Z (MoC Z cdC) md_dividesHyper 0 [.val (.ref 0), .val (.int p1)] [] (7, F, G, A, B) 0 0 Q := by
  refine Wk.aloadN o_dividesHyper_0 rfl ?_
  refine Wk.getI (mI_count) (wf_count H) o_dividesHyper_1 (x := (F 2)) rfl ?_
  have J9 : Wk l Z (MoC Z cdC) md_dividesHyper 34 [.val (.ref 0), .val (.int p1)] [.int (if 0 < (F 2) then (if p1 < (1 : Int32) then (0 : Int32) else (if (F 3) < p1 then (0 : Int32) else (if ((F 3) % p1) = 0 then (1 : Int32) else (0 : Int32)))) else (0 : Int32))] (7, F, G, A, B) 0 0 Q := by
    exact Wk.zreturn mrC rfl o_dividesHyper_34 rfl (by decide) (by decide) (y := (nar .boolean (if 0 < (F 2) then (if p1 < (1 : Int32) then (0 : Int32) else (if (F 3) < p1 then (0 : Int32) else (if ((F 3) % p1) = 0 then (1 : Int32) else (0 : Int32)))) else (0 : Int32)))) rfl h10
  refine Wk.if_le o_dividesHyper_4 (fun q1 => ?_) (fun q1 => ?_)
  · refine Wk.iconst o_dividesHyper_33 (z := (0 : Int32)) (by decide) ?_
    first | (rw [show ((if 0 < (F 2) then (if p1 < (1 : Int32) then (0 : Int32) else (if (F 3) < p1 then (0 : Int32) else (if ((F 3) % p1) = 0 then (1 : Int32) else (0 : Int32)))) else (0 : Int32)) : Int32) = (0 : Int32) from if_neg q1] at J9; exact J9) | exact J9 | (simp only [if_neg q1] at J9 ⊢; exact J9)
  · refine Wk.iloadN o_dividesHyper_7 rfl ?_
    refine Wk.iconst o_dividesHyper_8 (z := (1 : Int32)) (by decide) ?_
    refine Wk.icmp_lt o_dividesHyper_9 (fun q2 => ?_) (fun q2 => ?_)
    · refine Wk.iconst o_dividesHyper_33 (z := (0 : Int32)) (by decide) ?_
      first | (rw [show ((if 0 < (F 2) then (if p1 < (1 : Int32) then (0 : Int32) else (if (F 3) < p1 then (0 : Int32) else (if ((F 3) % p1) = 0 then (1 : Int32) else (0 : Int32)))) else (0 : Int32)) : Int32) = (0 : Int32) from Eq.trans (if_pos q1) <| if_pos q2] at J9; exact J9) | exact J9 | (simp only [if_pos q1, if_pos q2] at J9 ⊢; exact J9)
    · refine Wk.iloadN o_dividesHyper_12 rfl ?_
      refine Wk.aloadN o_dividesHyper_13 rfl ?_
      refine Wk.getI (mI_hyper) (wf_hyper H) o_dividesHyper_14 (x := (F 3)) rfl ?_
      refine Wk.icmp_gt o_dividesHyper_17 (fun q3 => ?_) (fun q3 => ?_)
      · refine Wk.iconst o_dividesHyper_33 (z := (0 : Int32)) (by decide) ?_
        first | (rw [show ((if 0 < (F 2) then (if p1 < (1 : Int32) then (0 : Int32) else (if (F 3) < p1 then (0 : Int32) else (if ((F 3) % p1) = 0 then (1 : Int32) else (0 : Int32)))) else (0 : Int32)) : Int32) = (0 : Int32) from Eq.trans (if_pos q1) <| Eq.trans (if_neg q2) <| if_pos q3] at J9; exact J9) | exact J9 | (simp only [if_pos q1, if_neg q2, if_pos q3] at J9 ⊢; exact J9)
      · refine Wk.aloadN o_dividesHyper_20 rfl ?_
        refine Wk.getI (mI_hyper) (wf_hyper H) o_dividesHyper_21 (x := (F 3)) rfl ?_
        refine Wk.iloadN o_dividesHyper_24 rfl ?_
        refine Wk.irem o_dividesHyper_25 (s4 q1 q2 q3) ?_
        refine Wk.if_ne o_dividesHyper_26 (fun q5 => ?_) (fun q5 => ?_)
        · refine Wk.iconst o_dividesHyper_33 (z := (0 : Int32)) (by decide) ?_
          first | (rw [show ((if 0 < (F 2) then (if p1 < (1 : Int32) then (0 : Int32) else (if (F 3) < p1 then (0 : Int32) else (if ((F 3) % p1) = 0 then (1 : Int32) else (0 : Int32)))) else (0 : Int32)) : Int32) = (0 : Int32) from Eq.trans (if_pos q1) <| Eq.trans (if_neg q2) <| Eq.trans (if_neg q3) <| if_neg q5] at J9; exact J9) | exact J9 | (simp only [if_pos q1, if_neg q2, if_neg q3, if_neg q5] at J9 ⊢; exact J9)
        · refine Wk.iconst o_dividesHyper_29 (z := (1 : Int32)) (by decide) ?_
          refine Wk.goto o_dividesHyper_30 ?_
          first | (rw [show ((if 0 < (F 2) then (if p1 < (1 : Int32) then (0 : Int32) else (if (F 3) < p1 then (0 : Int32) else (if ((F 3) % p1) = 0 then (1 : Int32) else (0 : Int32)))) else (0 : Int32)) : Int32) = (1 : Int32) from Eq.trans (if_pos q1) <| Eq.trans (if_neg q2) <| Eq.trans (if_neg q3) <| if_pos q5] at J9; exact J9) | exact J9 | (simp only [if_pos q1, if_neg q2, if_neg q3, if_pos q5] at J9 ⊢; exact J9)

theorem rt_dividesHyper (F : Nat → Int32) (G : Nat → Int64) (A : Nat → Int32 → Int32) (B : Nat → Int32 → Int64) (v0 : Int32) (r : Int32) (e : v0 = r) : some (Value.int v0) = some (.int r) ∧ (7, F, G, A, B) = (7, F, G, A, B) := by subst e; exact ⟨rfl, rfl⟩
def en_dividesHyper (F : Nat → Int32) (p1 : Int32) : Option (Int32) := (if (0 < (F 2) → ¬ p1 < (1 : Int32) → ¬ (F 3) < p1 → ¬ p1 = (0 : Int32)) then some ((nar .boolean (if 0 < (F 2) then (if p1 < (1 : Int32) then (0 : Int32) else (if (F 3) < p1 then (0 : Int32) else (if ((F 3) % p1) = 0 then (1 : Int32) else (0 : Int32)))) else (0 : Int32)))) else none)
theorem een_dividesHyper (F : Nat → Int32) (p1 : Int32) : en_dividesHyper F p1 = (if (0 < (F 2) → ¬ p1 < (1 : Int32) → ¬ (F 3) < p1 → ¬ p1 = (0 : Int32)) then some ((nar .boolean (if 0 < (F 2) then (if p1 < (1 : Int32) then (0 : Int32) else (if (F 3) < p1 then (0 : Int32) else (if ((F 3) % p1) = 0 then (1 : Int32) else (0 : Int32)))) else (0 : Int32)))) else none) := Eq.trans rfl rfl
def R_dividesHyper (F : Nat → Int32) (p1 : Int32) : Int32 := (en_dividesHyper F p1).getD (0)
theorem eR_dividesHyper (F : Nat → Int32) (p1 : Int32) : R_dividesHyper F p1 = (en_dividesHyper F p1).getD (0) := Eq.trans rfl rfl
set_option maxRecDepth 65536 in
set_option maxHeartbeats 4000000 in
theorem run_dividesHyper {l : Launch} {Z : State} {a0 : Array Value} (H : OK Z a0) (F : Nat → Int32) (G : Nat → Int64) (A : Nat → Int32 → Int32) (B : Nat → Int32 → Int64) (p1 : Int32) (e1 : (en_dividesHyper F p1).isSome = true) :
    Wk l Z (MoC Z cdC) md_dividesHyper 0 [.val (.ref 0), .val (.int p1)] [] (7, F, G, A, B) 0 0 (fun v w' => v = some (.int (R_dividesHyper F p1)) ∧ w' = (7, F, G, A, B)) := by
  obtain ⟨r, h⟩ := Option.isSome_iff_exists.mp e1
  have e : R_dividesHyper F p1 = r := (eR_dividesHyper F p1).trans (getD_some h)
  rw [e]
  rw [een_dividesHyper] at h
  exact wp_dividesHyper H F G A B p1 (fun q1 q2 q3 => ((gd h).1) q1 q2 q3) ((rt_dividesHyper _ _ _ _ _ r (Option.some.inj (gd h).2)))
set_option maxRecDepth 65536 in
set_option maxHeartbeats 4000000 in
theorem wp_deadlinesOk {l : Launch} {Z : State} {a0 : Array Value} (H : OK Z a0) (F : Nat → Int32) (G : Nat → Int64) (A : Nat → Int32 → Int32) (B : Nat → Int32 → Int64) (p1 : Int32) {Q : Option Value → WO → Prop} (h1 : Wk l Z (MoC Z cdC) md_deadlinesOk 2 [.val (.ref 0), .val (.int p1), .val (.int (0 : Int32)), .unset] [] (7, F, G, A, B) 0 0 Q) :
    Wk l Z (MoC Z cdC) md_deadlinesOk 0 [.val (.ref 0), .val (.int p1), .unset, .unset] [] (7, F, G, A, B) 0 0 Q := by
  refine Wk.iconst o_deadlinesOk_0 (z := (0 : Int32)) (by decide) ?_
  refine Wk.istoreN o_deadlinesOk_1 (Or.inl rfl) (L' := [.val (.ref 0), .val (.int p1), .val (.int (0 : Int32)), .unset]) rfl ?_
  exact h1

set_option maxRecDepth 65536 in
set_option maxHeartbeats 4000000 in
theorem wp_deadlinesOk_2 {l : Launch} {Z : State} {a0 : Array Value} (H : OK Z a0) (F : Nat → Int32) (G : Nat → Int64) (A : Nat → Int32 → Int32) (B : Nat → Int32 → Int64) (v1 : Int32) (v2 : Int32) {Q : Option Value → WO → Prop} (h2 : ¬ v2 < (F 2) → Q (some (.int (1 : Int32))) (7, F, G, A, B)) (s3 : v2 < (F 2) → ¬ v2 < 0) (s4 : v2 < (F 2) → v2 < (8 : Int32)) (s5 : v2 < (F 2) → (en_gcd  v1 ((A 0) v2)).isSome = true) (h7 : v2 < (F 2) → ¬ ((A 2) v2) < (((2 : Int32) * v1) - (R_gcd  v1 ((A 0) v2))) → Wk l Z (MoC Z cdC) md_deadlinesOk 2 [.val (.ref 0), .val (.int v1), .val (.int (v2 + (1 : Int32))), .unset] [] (7, F, G, A, B) 0 0 Q) (h8 : v2 < (F 2) → ((A 2) v2) < (((2 : Int32) * v1) - (R_gcd  v1 ((A 0) v2))) → Q (some (.int (0 : Int32))) (7, F, G, A, B)) :
    Wk l Z (MoC Z cdC) md_deadlinesOk 2 [.val (.ref 0), .val (.int v1), .val (.int v2), .unset] [] (7, F, G, A, B) 0 0 Q := by
  refine Wk.iloadN o_deadlinesOk_2 rfl ?_
  refine Wk.aloadN o_deadlinesOk_3 rfl ?_
  refine Wk.getI (mI_count) (wf_count H) o_deadlinesOk_4 (x := (F 2)) rfl ?_
  refine Wk.icmp_ge o_deadlinesOk_7 (fun q1 => ?_) (fun q1 => ?_)
  · refine Wk.iconst o_deadlinesOk_44 (z := (1 : Int32)) (by decide) ?_
    exact Wk.zreturn mrC rfl o_deadlinesOk_45 rfl (by decide) (by decide) (y := (1 : Int32)) (by decide) (h2 q1)
  · refine Wk.aloadN o_deadlinesOk_10 rfl ?_
    refine Wk.iloadN o_deadlinesOk_11 rfl ?_
    refine Wk.aloadN o_deadlinesOk_12 rfl ?_
    refine Wk.getA (mA_per) (by decide) (i' := 1) rfl (wf_per H) o_deadlinesOk_13 ?_
    refine Wk.iloadN o_deadlinesOk_16 rfl ?_
    refine Wk.iaload (mA_per) (by decide) (i' := 1) rfl (s3 q1) (s4 q1) o_deadlinesOk_17 (y := ((A 0) v2)) rfl ?_
    refine Wk.callF [.int v1, .int ((A 0) v2)] [] (H.w 94 rfl) (cv_gcd H) o_deadlinesOk_18 (run_gcd H F G A B v1 ((A 0) v2) (s5 q1)) (wt := 0) (cu' := 0) (su' := 0) (by decide) rfl rfl rfl rfl rfl rfl rfl ?_
    refine Wk.istoreN o_deadlinesOk_21 (Or.inl rfl) (L' := [.val (.ref 0), .val (.int v1), .val (.int v2), .val (.int (R_gcd  v1 ((A 0) v2)))]) rfl ?_
    refine Wk.iconst o_deadlinesOk_22 (z := (2 : Int32)) (by decide) ?_
    refine Wk.iloadN o_deadlinesOk_23 rfl ?_
    refine Wk.imul o_deadlinesOk_24 ?_
    refine Wk.iloadN o_deadlinesOk_25 rfl ?_
    refine Wk.isub o_deadlinesOk_26 ?_
    refine Wk.aloadN o_deadlinesOk_27 rfl ?_
    refine Wk.getA (mA_dl) (by decide) (i' := 3) rfl (wf_dl H) o_deadlinesOk_28 ?_
    refine Wk.iloadN o_deadlinesOk_31 rfl ?_
    refine Wk.iaload (mA_dl) (by decide) (i' := 3) rfl (s3 q1) (s4 q1) o_deadlinesOk_32 (y := ((A 2) v2)) rfl ?_
    refine Wk.icmp_le o_deadlinesOk_33 (fun q6 => ?_) (fun q6 => ?_)
    · refine Wk.iinc o_deadlinesOk_38 rfl (z := (v2 + (1 : Int32))) rfl (L' := [.val (.ref 0), .val (.int v1), .val (.int (v2 + (1 : Int32))), .val (.int (R_gcd  v1 ((A 0) v2)))]) rfl ?_
      refine Wk.goto o_deadlinesOk_41 ?_
      refine Wk.forget [false, false, false, true] (L' := [.val (.ref 0), .val (.int v1), .val (.int (v2 + (1 : Int32))), .unset]) rfl rfl ?_
      exact (h7 q1 q6)
    · refine Wk.iconst o_deadlinesOk_36 (z := (0 : Int32)) (by decide) ?_
      exact Wk.zreturn mrC rfl o_deadlinesOk_37 rfl (by decide) (by decide) (y := (0 : Int32)) (by decide) (h8 q1 q6)

theorem rt_deadlinesOk (F : Nat → Int32) (G : Nat → Int64) (A : Nat → Int32 → Int32) (B : Nat → Int32 → Int64) (v0 : Int32) (r : Int32) (e : v0 = r) : some (Value.int v0) = some (.int r) ∧ (7, F, G, A, B) = (7, F, G, A, B) := by subst e; exact ⟨rfl, rfl⟩
def lp_deadlinesOk : Nat → Nat → Int32 → Int32 → (Nat → Int32) → (Nat → Int32 → Int32) → Option (Int32)
  | 0, _, _, _, _, _ => none
  | n + 1, tag, v1, v2, F, A => if tag = 2 then (if v2 < (F 2) then (if (¬ v2 < 0) ∧ (v2 < (8 : Int32)) ∧ ((en_gcd  v1 ((A 0) v2)).isSome = true) then (if ((A 2) v2) < (((2 : Int32) * v1) - (R_gcd  v1 ((A 0) v2))) then some ((0 : Int32)) else lp_deadlinesOk n 2 v1 (v2 + (1 : Int32)) F A) else none) else some ((1 : Int32))) else none
theorem lp_deadlinesOk_z (tag : Nat) (v1 : Int32) (v2 : Int32) (F : Nat → Int32) (A : Nat → Int32 → Int32) : lp_deadlinesOk 0 tag v1 v2 F A = none := Eq.trans rfl rfl
theorem lp_deadlinesOk_2 (n : Nat) (v1 : Int32) (v2 : Int32) (F : Nat → Int32) (A : Nat → Int32 → Int32) : lp_deadlinesOk (n + 1) 2 v1 v2 F A = (if v2 < (F 2) then (if (¬ v2 < 0) ∧ (v2 < (8 : Int32)) ∧ ((en_gcd  v1 ((A 0) v2)).isSome = true) then (if ((A 2) v2) < (((2 : Int32) * v1) - (R_gcd  v1 ((A 0) v2))) then some ((0 : Int32)) else lp_deadlinesOk n 2 v1 (v2 + (1 : Int32)) F A) else none) else some ((1 : Int32))) := by
  rw [lp_deadlinesOk, if_pos rfl]
set_option maxRecDepth 65536 in
set_option maxHeartbeats 4000000 in
theorem lpw_deadlinesOk {l : Launch} {Z : State} {a0 : Array Value} (H : OK Z a0) (F : Nat → Int32) (G : Nat → Int64) (A : Nat → Int32 → Int32) (B : Nat → Int32 → Int64) : ∀ (n : Nat) (v1 : Int32) (v2 : Int32) (r : Int32), (lp_deadlinesOk n 2 v1 v2 F A = some r → Wk l Z (MoC Z cdC) md_deadlinesOk 2 [.val (.ref 0), .val (.int v1), .val (.int v2), .unset] [] (7, F, G, A, B) 0 0 (fun v w' => v = some (.int r) ∧ w' = (7, F, G, A, B))) := by
  intro n
  induction n with
  | zero =>
    intro v1 v2  r
    exact (fun h => by rw [lp_deadlinesOk_z] at h; cases h)
  | succ n ih =>
    intro v1 v2  r
    refine fun h => ?_
    · rw [lp_deadlinesOk_2] at h
      exact wp_deadlinesOk_2 H F G A B v1 v2 (fun q1 => (rt_deadlinesOk _ _ _ _ _ r (Option.some.inj (ifn q1 h)))) (fun q1 => (gd (ifp q1 h)).1.1) (fun q1 => (gd (ifp q1 h)).1.2.1) (fun q1 => (gd (ifp q1 h)).1.2.2) (fun q1 q6 => (ih _ _ _) (ifn q6 (gd (ifp q1 h)).2)) (fun q1 q6 => (rt_deadlinesOk _ _ _ _ _ r (Option.some.inj (ifp q6 (gd (ifp q1 h)).2))))
def en_deadlinesOk (F : Nat → Int32) (A : Nat → Int32 → Int32) (p1 : Int32) : Option (Int32) := lp_deadlinesOk 5000 2 p1 (0 : Int32) F A
theorem een_deadlinesOk (F : Nat → Int32) (A : Nat → Int32 → Int32) (p1 : Int32) : en_deadlinesOk F A p1 = lp_deadlinesOk 5000 2 p1 (0 : Int32) F A := Eq.trans rfl rfl
def R_deadlinesOk (F : Nat → Int32) (A : Nat → Int32 → Int32) (p1 : Int32) : Int32 := (en_deadlinesOk F A p1).getD (0)
theorem eR_deadlinesOk (F : Nat → Int32) (A : Nat → Int32 → Int32) (p1 : Int32) : R_deadlinesOk F A p1 = (en_deadlinesOk F A p1).getD (0) := Eq.trans rfl rfl
set_option maxRecDepth 65536 in
set_option maxHeartbeats 4000000 in
theorem run_deadlinesOk {l : Launch} {Z : State} {a0 : Array Value} (H : OK Z a0) (F : Nat → Int32) (G : Nat → Int64) (A : Nat → Int32 → Int32) (B : Nat → Int32 → Int64) (p1 : Int32) (e1 : (en_deadlinesOk F A p1).isSome = true) :
    Wk l Z (MoC Z cdC) md_deadlinesOk 0 [.val (.ref 0), .val (.int p1), .unset, .unset] [] (7, F, G, A, B) 0 0 (fun v w' => v = some (.int (R_deadlinesOk F A p1)) ∧ w' = (7, F, G, A, B)) := by
  obtain ⟨r, h⟩ := Option.isSome_iff_exists.mp e1
  have e : R_deadlinesOk F A p1 = r := (eR_deadlinesOk F A p1).trans (getD_some h)
  rw [e]
  rw [een_deadlinesOk] at h
  exact wp_deadlinesOk H F G A B p1 ((lpw_deadlinesOk H F G A B _ _ _ _) h)
set_option maxRecDepth 65536 in
set_option maxHeartbeats 4000000 in
theorem wp_initJobs {l : Launch} {Z : State} {a0 : Array Value} (H : OK Z a0) (F : Nat → Int32) (G : Nat → Int64) (A : Nat → Int32 → Int32) (B : Nat → Int32 → Int64) {Q : Option Value → WO → Prop} (h1 : Wk l Z (MoC Z cdC) md_initJobs 2 [.val (.ref 0), .val (.int (0 : Int32)), .unset, .unset] [] (7, F, G, A, B) 0 0 Q) :
    Wk l Z (MoC Z cdC) md_initJobs 0 [.val (.ref 0), .unset, .unset, .unset] [] (7, F, G, A, B) 0 0 Q := by
  refine Wk.iconst o_initJobs_0 (z := (0 : Int32)) (by decide) ?_
  refine Wk.istoreN o_initJobs_1 (Or.inl rfl) (L' := [.val (.ref 0), .val (.int (0 : Int32)), .unset, .unset]) rfl ?_
  exact h1

set_option maxRecDepth 65536 in
set_option maxHeartbeats 4000000 in
theorem wp_initJobs_2 {l : Launch} {Z : State} {a0 : Array Value} (H : OK Z a0) (F : Nat → Int32) (G : Nat → Int64) (A : Nat → Int32 → Int32) (B : Nat → Int32 → Int64) (v1 : Int32) {Q : Option Value → WO → Prop} (h2 : ¬ v1 < (F 2) → Q none (7, F, G, A, B)) (s3 : v1 < (F 2) → ¬ v1 < 0) (s4 : v1 < (F 2) → v1 < (8 : Int32)) (s5 : v1 < (F 2) → ¬ ((A 0) v1) = (0 : Int32)) (h6 : v1 < (F 2) → Wk l Z (MoC Z cdC) md_initJobs 24 [.val (.ref 0), .val (.int v1), .val (.int ((F 3) / ((A 0) v1))), .val (.int (0 : Int32))] [] (7, F, G, A, B) 0 0 Q) :
    Wk l Z (MoC Z cdC) md_initJobs 2 [.val (.ref 0), .val (.int v1), .unset, .unset] [] (7, F, G, A, B) 0 0 Q := by
  refine Wk.iloadN o_initJobs_2 rfl ?_
  refine Wk.aloadN o_initJobs_3 rfl ?_
  refine Wk.getI (mI_count) (wf_count H) o_initJobs_4 (x := (F 2)) rfl ?_
  refine Wk.icmp_ge o_initJobs_7 (fun q1 => ?_) (fun q1 => ?_)
  · exact Wk.ret mrC rfl o_initJobs_66 rfl (by decide) (by decide) (h2 q1)
  · refine Wk.aloadN o_initJobs_10 rfl ?_
    refine Wk.getI (mI_hyper) (wf_hyper H) o_initJobs_11 (x := (F 3)) rfl ?_
    refine Wk.aloadN o_initJobs_14 rfl ?_
    refine Wk.getA (mA_per) (by decide) (i' := 1) rfl (wf_per H) o_initJobs_15 ?_
    refine Wk.iloadN o_initJobs_18 rfl ?_
    refine Wk.iaload (mA_per) (by decide) (i' := 1) rfl (s3 q1) (s4 q1) o_initJobs_19 (y := ((A 0) v1)) rfl ?_
    refine Wk.idiv o_initJobs_20 (s5 q1) ?_
    refine Wk.istoreN o_initJobs_21 (Or.inl rfl) (L' := [.val (.ref 0), .val (.int v1), .val (.int ((F 3) / ((A 0) v1))), .unset]) rfl ?_
    refine Wk.iconst o_initJobs_22 (z := (0 : Int32)) (by decide) ?_
    refine Wk.istoreN o_initJobs_23 (Or.inl rfl) (L' := [.val (.ref 0), .val (.int v1), .val (.int ((F 3) / ((A 0) v1))), .val (.int (0 : Int32))]) rfl ?_
    exact (h6 q1)

set_option maxRecDepth 65536 in
set_option maxHeartbeats 4000000 in
theorem wp_initJobs_24 {l : Launch} {Z : State} {a0 : Array Value} (H : OK Z a0) (F : Nat → Int32) (G : Nat → Int64) (A : Nat → Int32 → Int32) (B : Nat → Int32 → Int64) (v1 : Int32) (v2 : Int32) (v3 : Int32) {Q : Option Value → WO → Prop} (h2 : ¬ v3 < v2 → Wk l Z (MoC Z cdC) md_initJobs 2 [.val (.ref 0), .val (.int (v1 + (1 : Int32))), .unset, .unset] [] (7, F, G, A, B) 0 0 Q) (h4 : v3 < v2 → ¬ v3 < (128 : Int32) → Wk l Z (MoC Z cdC) md_initJobs 2 [.val (.ref 0), .val (.int (v1 + (1 : Int32))), .unset, .unset] [] (7, F, G, A, B) 0 0 Q) (s5 : v3 < v2 → v3 < (128 : Int32) → ¬ v1 < 0) (s6 : v3 < v2 → v3 < (128 : Int32) → v1 < (8 : Int32)) (s7 : v3 < v2 → v3 < (128 : Int32) → ¬ ((v1 * (128 : Int32)) + v3) < 0) (s8 : v3 < v2 → v3 < (128 : Int32) → ((v1 * (128 : Int32)) + v3) < (1024 : Int32)) (h9 : v3 < v2 → v3 < (128 : Int32) → Wk l Z (MoC Z cdC) md_initJobs 24 [.val (.ref 0), .val (.int v1), .val (.int v2), .val (.int (v3 + (1 : Int32)))] [] (7, F, G, (ups A 6 (ups (A 6) ((v1 * (128 : Int32)) + v3) ((A 1) v1))), B) 0 0 Q) :
    Wk l Z (MoC Z cdC) md_initJobs 24 [.val (.ref 0), .val (.int v1), .val (.int v2), .val (.int v3)] [] (7, F, G, A, B) 0 0 Q := by
  refine Wk.iloadN o_initJobs_24 rfl ?_
  refine Wk.iloadN o_initJobs_25 rfl ?_
  refine Wk.icmp_ge o_initJobs_26 (fun q1 => ?_) (fun q1 => ?_)
  · refine Wk.iinc o_initJobs_60 rfl (z := (v1 + (1 : Int32))) rfl (L' := [.val (.ref 0), .val (.int (v1 + (1 : Int32))), .val (.int v2), .val (.int v3)]) rfl ?_
    refine Wk.goto o_initJobs_63 ?_
    refine Wk.forget [false, false, true, true] (L' := [.val (.ref 0), .val (.int (v1 + (1 : Int32))), .unset, .unset]) rfl rfl ?_
    exact (h2 q1)
  · refine Wk.iloadN o_initJobs_29 rfl ?_
    refine Wk.sipush o_initJobs_30 (z := (128 : Int32)) (by decide) ?_
    refine Wk.icmp_ge o_initJobs_33 (fun q3 => ?_) (fun q3 => ?_)
    · refine Wk.iinc o_initJobs_60 rfl (z := (v1 + (1 : Int32))) rfl (L' := [.val (.ref 0), .val (.int (v1 + (1 : Int32))), .val (.int v2), .val (.int v3)]) rfl ?_
      refine Wk.goto o_initJobs_63 ?_
      refine Wk.forget [false, false, true, true] (L' := [.val (.ref 0), .val (.int (v1 + (1 : Int32))), .unset, .unset]) rfl rfl ?_
      exact (h4 q1 q3)
    · refine Wk.aloadN o_initJobs_36 rfl ?_
      refine Wk.getA (mA_rem) (by decide) (i' := 7) rfl (wf_rem H) o_initJobs_37 ?_
      refine Wk.iloadN o_initJobs_40 rfl ?_
      refine Wk.sipush o_initJobs_41 (z := (128 : Int32)) (by decide) ?_
      refine Wk.imul o_initJobs_44 ?_
      refine Wk.iloadN o_initJobs_45 rfl ?_
      refine Wk.iadd o_initJobs_46 ?_
      refine Wk.aloadN o_initJobs_47 rfl ?_
      refine Wk.getA (mA_exe) (by decide) (i' := 2) rfl (wf_exe H) o_initJobs_48 ?_
      refine Wk.iloadN o_initJobs_51 rfl ?_
      refine Wk.iaload (mA_exe) (by decide) (i' := 2) rfl (s5 q1 q3) (s6 q1 q3) o_initJobs_52 (y := ((A 1) v1)) rfl ?_
      refine Wk.iastore (coC H) (f := (A 6)) (mA_rem) rfl (by decide) (i' := 7) rfl (s7 q1 q3) (s8 q1 q3) o_initJobs_53 ?_
      refine Wk.iinc o_initJobs_54 rfl (z := (v3 + (1 : Int32))) rfl (L' := [.val (.ref 0), .val (.int v1), .val (.int v2), .val (.int (v3 + (1 : Int32)))]) rfl ?_
      refine Wk.goto o_initJobs_57 ?_
      exact (h9 q1 q3)

theorem rt_initJobs (F : Nat → Int32) (G : Nat → Int64) (B : Nat → Int32 → Int64) (v0 : Int32) (xA : Nat → Int32 → Int32) (r : Int32 × (Nat → Int32 → Int32)) (e : (v0, xA) = r) : (none : Option Value) = none ∧ (7, F, G, xA, B) = (7, F, G, r.2, B) := by subst e; exact ⟨rfl, rfl⟩
def lp_initJobs : Nat → Nat → Int32 → Int32 → Int32 → (Nat → Int32) → (Nat → Int32 → Int32) → Option (Int32 × (Nat → Int32 → Int32))
  | 0, _, _, _, _, _, _ => none
  | n + 1, tag, v1, v2, v3, F, A => if tag = 2 then (if v1 < (F 2) then (if (¬ v1 < 0) ∧ (v1 < (8 : Int32)) ∧ (¬ ((A 0) v1) = (0 : Int32)) then lp_initJobs n 24 v1 ((F 3) / ((A 0) v1)) (0 : Int32) F A else none) else some ((0 : Int32), A)) else if tag = 24 then (if v3 < v2 then (if v3 < (128 : Int32) then (if (¬ v1 < 0) ∧ (v1 < (8 : Int32)) ∧ (¬ ((v1 * (128 : Int32)) + v3) < 0) ∧ (((v1 * (128 : Int32)) + v3) < (1024 : Int32)) then lp_initJobs n 24 v1 v2 (v3 + (1 : Int32)) F (ups A 6 (ups (A 6) ((v1 * (128 : Int32)) + v3) ((A 1) v1))) else none) else lp_initJobs n 2 (v1 + (1 : Int32)) 0 0 F A) else lp_initJobs n 2 (v1 + (1 : Int32)) 0 0 F A) else none
theorem lp_initJobs_z (tag : Nat) (v1 : Int32) (v2 : Int32) (v3 : Int32) (F : Nat → Int32) (A : Nat → Int32 → Int32) : lp_initJobs 0 tag v1 v2 v3 F A = none := Eq.trans rfl rfl
theorem lp_initJobs_2 (n : Nat) (v1 : Int32) (v2 : Int32) (v3 : Int32) (F : Nat → Int32) (A : Nat → Int32 → Int32) : lp_initJobs (n + 1) 2 v1 v2 v3 F A = (if v1 < (F 2) then (if (¬ v1 < 0) ∧ (v1 < (8 : Int32)) ∧ (¬ ((A 0) v1) = (0 : Int32)) then lp_initJobs n 24 v1 ((F 3) / ((A 0) v1)) (0 : Int32) F A else none) else some ((0 : Int32), A)) := by
  rw [lp_initJobs, if_pos rfl]
theorem lp_initJobs_24 (n : Nat) (v1 : Int32) (v2 : Int32) (v3 : Int32) (F : Nat → Int32) (A : Nat → Int32 → Int32) : lp_initJobs (n + 1) 24 v1 v2 v3 F A = (if v3 < v2 then (if v3 < (128 : Int32) then (if (¬ v1 < 0) ∧ (v1 < (8 : Int32)) ∧ (¬ ((v1 * (128 : Int32)) + v3) < 0) ∧ (((v1 * (128 : Int32)) + v3) < (1024 : Int32)) then lp_initJobs n 24 v1 v2 (v3 + (1 : Int32)) F (ups A 6 (ups (A 6) ((v1 * (128 : Int32)) + v3) ((A 1) v1))) else none) else lp_initJobs n 2 (v1 + (1 : Int32)) 0 0 F A) else lp_initJobs n 2 (v1 + (1 : Int32)) 0 0 F A) := by
  rw [lp_initJobs, if_neg (by decide), if_pos rfl]
set_option maxRecDepth 65536 in
set_option maxHeartbeats 4000000 in
theorem lpw_initJobs {l : Launch} {Z : State} {a0 : Array Value} (H : OK Z a0) (F : Nat → Int32) (G : Nat → Int64) (B : Nat → Int32 → Int64) : ∀ (n : Nat) (v1 : Int32) (v2 : Int32) (v3 : Int32) (A : Nat → Int32 → Int32) (r : Int32 × (Nat → Int32 → Int32)), (lp_initJobs n 2 v1 v2 v3 F A = some r → Wk l Z (MoC Z cdC) md_initJobs 2 [.val (.ref 0), .val (.int v1), .unset, .unset] [] (7, F, G, A, B) 0 0 (fun v w' => v = none ∧ w' = (7, F, G, r.2, B))) ∧ (lp_initJobs n 24 v1 v2 v3 F A = some r → Wk l Z (MoC Z cdC) md_initJobs 24 [.val (.ref 0), .val (.int v1), .val (.int v2), .val (.int v3)] [] (7, F, G, A, B) 0 0 (fun v w' => v = none ∧ w' = (7, F, G, r.2, B))) := by
  intro n
  induction n with
  | zero =>
    intro v1 v2 v3 A r
    exact ⟨(fun h => by rw [lp_initJobs_z] at h; cases h), (fun h => by rw [lp_initJobs_z] at h; cases h)⟩
  | succ n ih =>
    intro v1 v2 v3 A r
    refine ⟨fun h => ?_, fun h => ?_⟩
    · rw [lp_initJobs_2] at h
      exact wp_initJobs_2 H F G A B v1 (fun q1 => (rt_initJobs _ _ _ _ _ r (Option.some.inj (ifn q1 h)))) (fun q1 => (gd (ifp q1 h)).1.1) (fun q1 => (gd (ifp q1 h)).1.2.1) (fun q1 => (gd (ifp q1 h)).1.2.2) (fun q1 => (ih _ _ _ _ _).2 (gd (ifp q1 h)).2)
    · rw [lp_initJobs_24] at h
      exact wp_initJobs_24 H F G A B v1 v2 v3 (fun q1 => (ih _ _ _ _ _).1 (ifn q1 h)) (fun q1 q3 => (ih _ _ _ _ _).1 (ifn q3 (ifp q1 h))) (fun q1 q3 => (gd (ifp q3 (ifp q1 h))).1.1) (fun q1 q3 => (gd (ifp q3 (ifp q1 h))).1.2.1) (fun q1 q3 => (gd (ifp q3 (ifp q1 h))).1.2.2.1) (fun q1 q3 => (gd (ifp q3 (ifp q1 h))).1.2.2.2) (fun q1 q3 => (ih _ _ _ _ _).2 (gd (ifp q3 (ifp q1 h))).2)
def en_initJobs (F : Nat → Int32) (A : Nat → Int32 → Int32) : Option (Int32 × (Nat → Int32 → Int32)) := lp_initJobs 5000 2 (0 : Int32) 0 0 F A
theorem een_initJobs (F : Nat → Int32) (A : Nat → Int32 → Int32) : en_initJobs F A  = lp_initJobs 5000 2 (0 : Int32) 0 0 F A := Eq.trans rfl rfl
def R_initJobs (F : Nat → Int32) (A : Nat → Int32 → Int32) : Int32 × (Nat → Int32 → Int32) := (en_initJobs F A ).getD (0, (fun _ _ => 0))
theorem eR_initJobs (F : Nat → Int32) (A : Nat → Int32 → Int32) : R_initJobs F A  = (en_initJobs F A ).getD (0, (fun _ _ => 0)) := Eq.trans rfl rfl
set_option maxRecDepth 65536 in
set_option maxHeartbeats 4000000 in
theorem run_initJobs {l : Launch} {Z : State} {a0 : Array Value} (H : OK Z a0) (F : Nat → Int32) (G : Nat → Int64) (A : Nat → Int32 → Int32) (B : Nat → Int32 → Int64) (e1 : (en_initJobs F A ).isSome = true) :
    Wk l Z (MoC Z cdC) md_initJobs 0 [.val (.ref 0), .unset, .unset, .unset] [] (7, F, G, A, B) 0 0 (fun v w' => v = none ∧ w' = (7, F, G, (R_initJobs F A ).2, B)) := by
  obtain ⟨r, h⟩ := Option.isSome_iff_exists.mp e1
  have e : R_initJobs F A  = r := (eR_initJobs F A ).trans (getD_some h)
  rw [e]
  rw [een_initJobs] at h
  exact wp_initJobs H F G A B  ((lpw_initJobs H F G B _ _ _ _ _ _).1 h)
set_option maxRecDepth 65536 in
set_option maxHeartbeats 4000000 in
theorem wp_pickJob {l : Launch} {Z : State} {a0 : Array Value} (H : OK Z a0) (F : Nat → Int32) (G : Nat → Int64) (A : Nat → Int32 → Int32) (B : Nat → Int32 → Int64) (p1 : Int32) (p2 : Int32) {Q : Option Value → WO → Prop} (h1 : Wk l Z (MoC Z cdC) md_pickJob 8 [.val (.ref 0), .val (.int p1), .val (.int p2), .val (.int (-1 : Int32)), .val (.int (0 : Int32)), .val (.int (0 : Int32)), .unset, .unset, .unset] [] (7, F, G, A, B) 0 0 Q) :
    Wk l Z (MoC Z cdC) md_pickJob 0 [.val (.ref 0), .val (.int p1), .val (.int p2), .unset, .unset, .unset, .unset, .unset, .unset] [] (7, F, G, A, B) 0 0 Q := by
  refine Wk.iconst o_pickJob_0 (z := (-1 : Int32)) (by decide) ?_
  refine Wk.istoreN o_pickJob_1 (Or.inl rfl) (L' := [.val (.ref 0), .val (.int p1), .val (.int p2), .val (.int (-1 : Int32)), .unset, .unset, .unset, .unset, .unset]) rfl ?_
  refine Wk.iconst o_pickJob_2 (z := (0 : Int32)) (by decide) ?_
  refine Wk.istore o_pickJob_3 (Or.inl rfl) (L' := [.val (.ref 0), .val (.int p1), .val (.int p2), .val (.int (-1 : Int32)), .val (.int (0 : Int32)), .unset, .unset, .unset, .unset]) rfl ?_
  refine Wk.iconst o_pickJob_5 (z := (0 : Int32)) (by decide) ?_
  refine Wk.istore o_pickJob_6 (Or.inl rfl) (L' := [.val (.ref 0), .val (.int p1), .val (.int p2), .val (.int (-1 : Int32)), .val (.int (0 : Int32)), .val (.int (0 : Int32)), .unset, .unset, .unset]) rfl ?_
  exact h1

set_option maxRecDepth 65536 in
set_option maxHeartbeats 4000000 in
theorem wp_pickJob_8 {l : Launch} {Z : State} {a0 : Array Value} (H : OK Z a0) (F : Nat → Int32) (G : Nat → Int64) (A : Nat → Int32 → Int32) (B : Nat → Int32 → Int64) (v1 : Int32) (v2 : Int32) (v3 : Int32) (v4 : Int32) (v5 : Int32) {Q : Option Value → WO → Prop} (h2 : ¬ v5 < (F 2) → Q (some (.int v3)) (7, F, G, A, B)) (s3 : v5 < (F 2) → ¬ v5 < 0) (s4 : v5 < (F 2) → v5 < (8 : Int32)) (s5 : v5 < (F 2) → ¬ ((A 0) v5) = (0 : Int32)) (s8 : v5 < (F 2) → ¬ ((v1 * v2) / ((A 0) v5)) < 0 → ((v1 * v2) / ((A 0) v5)) < (128 : Int32) → ¬ v5 < 0) (s9 : v5 < (F 2) → ¬ ((v1 * v2) / ((A 0) v5)) < 0 → ((v1 * v2) / ((A 0) v5)) < (128 : Int32) → v5 < (8 : Int32)) (s11 : v5 < (F 2) → ¬ ((v1 * v2) / ((A 0) v5)) < 0 → ((v1 * v2) / ((A 0) v5)) < (128 : Int32) → ¬ ((((v1 * v2) / ((A 0) v5)) * ((A 0) v5)) + ((A 2) v5)) < ((v1 + (1 : Int32)) * v2) → ¬ ((v5 * (128 : Int32)) + ((v1 * v2) / ((A 0) v5))) < 0) (s12 : v5 < (F 2) → ¬ ((v1 * v2) / ((A 0) v5)) < 0 → ((v1 * v2) / ((A 0) v5)) < (128 : Int32) → ¬ ((((v1 * v2) / ((A 0) v5)) * ((A 0) v5)) + ((A 2) v5)) < ((v1 + (1 : Int32)) * v2) → ((v5 * (128 : Int32)) + ((v1 * v2) / ((A 0) v5))) < (1024 : Int32)) (h22 : v5 < (F 2) → Wk l Z (MoC Z cdC) md_pickJob 8 [.val (.ref 0), .val (.int v1), .val (.int v2), .val (.int (if ((v1 * v2) / ((A 0) v5)) < 0 then v3 else (if ((v1 * v2) / ((A 0) v5)) < (128 : Int32) then (if ((((v1 * v2) / ((A 0) v5)) * ((A 0) v5)) + ((A 2) v5)) < ((v1 + (1 : Int32)) * v2) then v3 else (if 0 < ((A 6) ((v5 * (128 : Int32)) + ((v1 * v2) / ((A 0) v5)))) then (if v3 < 0 then ((v5 * (128 : Int32)) + ((v1 * v2) / ((A 0) v5))) else (if ((((v1 * v2) / ((A 0) v5)) * ((A 0) v5)) + ((A 2) v5)) < v4 then ((v5 * (128 : Int32)) + ((v1 * v2) / ((A 0) v5))) else v3)) else v3)) else v3))), .val (.int (if ((v1 * v2) / ((A 0) v5)) < 0 then v4 else (if ((v1 * v2) / ((A 0) v5)) < (128 : Int32) then (if ((((v1 * v2) / ((A 0) v5)) * ((A 0) v5)) + ((A 2) v5)) < ((v1 + (1 : Int32)) * v2) then v4 else (if 0 < ((A 6) ((v5 * (128 : Int32)) + ((v1 * v2) / ((A 0) v5)))) then (if v3 < 0 then ((((v1 * v2) / ((A 0) v5)) * ((A 0) v5)) + ((A 2) v5)) else (if ((((v1 * v2) / ((A 0) v5)) * ((A 0) v5)) + ((A 2) v5)) < v4 then ((((v1 * v2) / ((A 0) v5)) * ((A 0) v5)) + ((A 2) v5)) else v4)) else v4)) else v4))), .val (.int (v5 + (1 : Int32))), .unset, .unset, .unset] [] (7, F, G, A, B) 0 0 Q) :
    Wk l Z (MoC Z cdC) md_pickJob 8 [.val (.ref 0), .val (.int v1), .val (.int v2), .val (.int v3), .val (.int v4), .val (.int v5), .unset, .unset, .unset] [] (7, F, G, A, B) 0 0 Q := by
  refine Wk.iload o_pickJob_8 rfl ?_
  refine Wk.aloadN o_pickJob_10 rfl ?_
  refine Wk.getI (mI_count) (wf_count H) o_pickJob_11 (x := (F 2)) rfl ?_
  refine Wk.icmp_ge o_pickJob_14 (fun q1 => ?_) (fun q1 => ?_)
  · refine Wk.iloadN o_pickJob_127 rfl ?_
    exact Wk.ireturn mrC rfl o_pickJob_128 rfl (by decide) (by decide) (h2 q1)
  · refine Wk.iloadN o_pickJob_17 rfl ?_
    refine Wk.iloadN o_pickJob_18 rfl ?_
    refine Wk.imul o_pickJob_19 ?_
    refine Wk.aloadN o_pickJob_20 rfl ?_
    refine Wk.getA (mA_per) (by decide) (i' := 1) rfl (wf_per H) o_pickJob_21 ?_
    refine Wk.iload o_pickJob_24 rfl ?_
    refine Wk.iaload (mA_per) (by decide) (i' := 1) rfl (s3 q1) (s4 q1) o_pickJob_26 (y := ((A 0) v5)) rfl ?_
    refine Wk.idiv o_pickJob_27 (s5 q1) ?_
    refine Wk.istore o_pickJob_28 (Or.inl rfl) (L' := [.val (.ref 0), .val (.int v1), .val (.int v2), .val (.int v3), .val (.int v4), .val (.int v5), .val (.int ((v1 * v2) / ((A 0) v5))), .unset, .unset]) rfl ?_
    refine Wk.iload o_pickJob_30 rfl ?_
    have J21 : Wk l Z (MoC Z cdC) md_pickJob 121 [.val (.ref 0), .val (.int v1), .val (.int v2), .val (.int (if ((v1 * v2) / ((A 0) v5)) < 0 then v3 else (if ((v1 * v2) / ((A 0) v5)) < (128 : Int32) then (if ((((v1 * v2) / ((A 0) v5)) * ((A 0) v5)) + ((A 2) v5)) < ((v1 + (1 : Int32)) * v2) then v3 else (if 0 < ((A 6) ((v5 * (128 : Int32)) + ((v1 * v2) / ((A 0) v5)))) then (if v3 < 0 then ((v5 * (128 : Int32)) + ((v1 * v2) / ((A 0) v5))) else (if ((((v1 * v2) / ((A 0) v5)) * ((A 0) v5)) + ((A 2) v5)) < v4 then ((v5 * (128 : Int32)) + ((v1 * v2) / ((A 0) v5))) else v3)) else v3)) else v3))), .val (.int (if ((v1 * v2) / ((A 0) v5)) < 0 then v4 else (if ((v1 * v2) / ((A 0) v5)) < (128 : Int32) then (if ((((v1 * v2) / ((A 0) v5)) * ((A 0) v5)) + ((A 2) v5)) < ((v1 + (1 : Int32)) * v2) then v4 else (if 0 < ((A 6) ((v5 * (128 : Int32)) + ((v1 * v2) / ((A 0) v5)))) then (if v3 < 0 then ((((v1 * v2) / ((A 0) v5)) * ((A 0) v5)) + ((A 2) v5)) else (if ((((v1 * v2) / ((A 0) v5)) * ((A 0) v5)) + ((A 2) v5)) < v4 then ((((v1 * v2) / ((A 0) v5)) * ((A 0) v5)) + ((A 2) v5)) else v4)) else v4)) else v4))), .val (.int v5), .val (.int ((v1 * v2) / ((A 0) v5))), .unset, .unset] [] (7, F, G, A, B) 0 0 Q := by
      refine Wk.iinc o_pickJob_121 rfl (z := (v5 + (1 : Int32))) rfl (L' := [.val (.ref 0), .val (.int v1), .val (.int v2), .val (.int (if ((v1 * v2) / ((A 0) v5)) < 0 then v3 else (if ((v1 * v2) / ((A 0) v5)) < (128 : Int32) then (if ((((v1 * v2) / ((A 0) v5)) * ((A 0) v5)) + ((A 2) v5)) < ((v1 + (1 : Int32)) * v2) then v3 else (if 0 < ((A 6) ((v5 * (128 : Int32)) + ((v1 * v2) / ((A 0) v5)))) then (if v3 < 0 then ((v5 * (128 : Int32)) + ((v1 * v2) / ((A 0) v5))) else (if ((((v1 * v2) / ((A 0) v5)) * ((A 0) v5)) + ((A 2) v5)) < v4 then ((v5 * (128 : Int32)) + ((v1 * v2) / ((A 0) v5))) else v3)) else v3)) else v3))), .val (.int (if ((v1 * v2) / ((A 0) v5)) < 0 then v4 else (if ((v1 * v2) / ((A 0) v5)) < (128 : Int32) then (if ((((v1 * v2) / ((A 0) v5)) * ((A 0) v5)) + ((A 2) v5)) < ((v1 + (1 : Int32)) * v2) then v4 else (if 0 < ((A 6) ((v5 * (128 : Int32)) + ((v1 * v2) / ((A 0) v5)))) then (if v3 < 0 then ((((v1 * v2) / ((A 0) v5)) * ((A 0) v5)) + ((A 2) v5)) else (if ((((v1 * v2) / ((A 0) v5)) * ((A 0) v5)) + ((A 2) v5)) < v4 then ((((v1 * v2) / ((A 0) v5)) * ((A 0) v5)) + ((A 2) v5)) else v4)) else v4)) else v4))), .val (.int (v5 + (1 : Int32))), .val (.int ((v1 * v2) / ((A 0) v5))), .unset, .unset]) rfl ?_
      refine Wk.goto o_pickJob_124 ?_
      refine Wk.forget [false, false, false, false, false, false, true, false, false] (L' := [.val (.ref 0), .val (.int v1), .val (.int v2), .val (.int (if ((v1 * v2) / ((A 0) v5)) < 0 then v3 else (if ((v1 * v2) / ((A 0) v5)) < (128 : Int32) then (if ((((v1 * v2) / ((A 0) v5)) * ((A 0) v5)) + ((A 2) v5)) < ((v1 + (1 : Int32)) * v2) then v3 else (if 0 < ((A 6) ((v5 * (128 : Int32)) + ((v1 * v2) / ((A 0) v5)))) then (if v3 < 0 then ((v5 * (128 : Int32)) + ((v1 * v2) / ((A 0) v5))) else (if ((((v1 * v2) / ((A 0) v5)) * ((A 0) v5)) + ((A 2) v5)) < v4 then ((v5 * (128 : Int32)) + ((v1 * v2) / ((A 0) v5))) else v3)) else v3)) else v3))), .val (.int (if ((v1 * v2) / ((A 0) v5)) < 0 then v4 else (if ((v1 * v2) / ((A 0) v5)) < (128 : Int32) then (if ((((v1 * v2) / ((A 0) v5)) * ((A 0) v5)) + ((A 2) v5)) < ((v1 + (1 : Int32)) * v2) then v4 else (if 0 < ((A 6) ((v5 * (128 : Int32)) + ((v1 * v2) / ((A 0) v5)))) then (if v3 < 0 then ((((v1 * v2) / ((A 0) v5)) * ((A 0) v5)) + ((A 2) v5)) else (if ((((v1 * v2) / ((A 0) v5)) * ((A 0) v5)) + ((A 2) v5)) < v4 then ((((v1 * v2) / ((A 0) v5)) * ((A 0) v5)) + ((A 2) v5)) else v4)) else v4)) else v4))), .val (.int (v5 + (1 : Int32))), .unset, .unset, .unset]) rfl rfl ?_
      exact (h22 q1)
    refine Wk.if_lt o_pickJob_32 (fun q6 => ?_) (fun q6 => ?_)
    · first | (rw [show ((if ((v1 * v2) / ((A 0) v5)) < 0 then v3 else (if ((v1 * v2) / ((A 0) v5)) < (128 : Int32) then (if ((((v1 * v2) / ((A 0) v5)) * ((A 0) v5)) + ((A 2) v5)) < ((v1 + (1 : Int32)) * v2) then v3 else (if 0 < ((A 6) ((v5 * (128 : Int32)) + ((v1 * v2) / ((A 0) v5)))) then (if v3 < 0 then ((v5 * (128 : Int32)) + ((v1 * v2) / ((A 0) v5))) else (if ((((v1 * v2) / ((A 0) v5)) * ((A 0) v5)) + ((A 2) v5)) < v4 then ((v5 * (128 : Int32)) + ((v1 * v2) / ((A 0) v5))) else v3)) else v3)) else v3)) : Int32) = v3 from if_pos q6, show ((if ((v1 * v2) / ((A 0) v5)) < 0 then v4 else (if ((v1 * v2) / ((A 0) v5)) < (128 : Int32) then (if ((((v1 * v2) / ((A 0) v5)) * ((A 0) v5)) + ((A 2) v5)) < ((v1 + (1 : Int32)) * v2) then v4 else (if 0 < ((A 6) ((v5 * (128 : Int32)) + ((v1 * v2) / ((A 0) v5)))) then (if v3 < 0 then ((((v1 * v2) / ((A 0) v5)) * ((A 0) v5)) + ((A 2) v5)) else (if ((((v1 * v2) / ((A 0) v5)) * ((A 0) v5)) + ((A 2) v5)) < v4 then ((((v1 * v2) / ((A 0) v5)) * ((A 0) v5)) + ((A 2) v5)) else v4)) else v4)) else v4)) : Int32) = v4 from if_pos q6] at J21; exact J21) | exact J21 | (simp only [if_pos q6] at J21 ⊢; exact J21)
    · refine Wk.iload o_pickJob_35 rfl ?_
      refine Wk.sipush o_pickJob_37 (z := (128 : Int32)) (by decide) ?_
      refine Wk.icmp_lt o_pickJob_40 (fun q7 => ?_) (fun q7 => ?_)
      · refine Wk.iload o_pickJob_46 rfl ?_
        refine Wk.aloadN o_pickJob_48 rfl ?_
        refine Wk.getA (mA_per) (by decide) (i' := 1) rfl (wf_per H) o_pickJob_49 ?_
        refine Wk.iload o_pickJob_52 rfl ?_
        refine Wk.iaload (mA_per) (by decide) (i' := 1) rfl (s8 q1 q6 q7) (s9 q1 q6 q7) o_pickJob_54 (y := ((A 0) v5)) rfl ?_
        refine Wk.imul o_pickJob_55 ?_
        refine Wk.aloadN o_pickJob_56 rfl ?_
        refine Wk.getA (mA_dl) (by decide) (i' := 3) rfl (wf_dl H) o_pickJob_57 ?_
        refine Wk.iload o_pickJob_60 rfl ?_
        refine Wk.iaload (mA_dl) (by decide) (i' := 3) rfl (s8 q1 q6 q7) (s9 q1 q6 q7) o_pickJob_62 (y := ((A 2) v5)) rfl ?_
        refine Wk.iadd o_pickJob_63 ?_
        refine Wk.istore o_pickJob_64 (Or.inl rfl) (L' := [.val (.ref 0), .val (.int v1), .val (.int v2), .val (.int v3), .val (.int v4), .val (.int v5), .val (.int ((v1 * v2) / ((A 0) v5))), .val (.int ((((v1 * v2) / ((A 0) v5)) * ((A 0) v5)) + ((A 2) v5))), .unset]) rfl ?_
        refine Wk.iloadN o_pickJob_66 rfl ?_
        refine Wk.iconst o_pickJob_67 (z := (1 : Int32)) (by decide) ?_
        refine Wk.iadd o_pickJob_68 ?_
        refine Wk.iloadN o_pickJob_69 rfl ?_
        refine Wk.imul o_pickJob_70 ?_
        refine Wk.iload o_pickJob_71 rfl ?_
        refine Wk.icmp_le o_pickJob_73 (fun q10 => ?_) (fun q10 => ?_)
        · refine Wk.iload o_pickJob_79 rfl ?_
          refine Wk.sipush o_pickJob_81 (z := (128 : Int32)) (by decide) ?_
          refine Wk.imul o_pickJob_84 ?_
          refine Wk.iload o_pickJob_85 rfl ?_
          refine Wk.iadd o_pickJob_87 ?_
          refine Wk.istore o_pickJob_88 (Or.inl rfl) (L' := [.val (.ref 0), .val (.int v1), .val (.int v2), .val (.int v3), .val (.int v4), .val (.int v5), .val (.int ((v1 * v2) / ((A 0) v5))), .val (.int ((((v1 * v2) / ((A 0) v5)) * ((A 0) v5)) + ((A 2) v5))), .val (.int ((v5 * (128 : Int32)) + ((v1 * v2) / ((A 0) v5))))]) rfl ?_
          refine Wk.aloadN o_pickJob_90 rfl ?_
          refine Wk.getA (mA_rem) (by decide) (i' := 7) rfl (wf_rem H) o_pickJob_91 ?_
          refine Wk.iload o_pickJob_94 rfl ?_
          refine Wk.iaload (mA_rem) (by decide) (i' := 7) rfl (s11 q1 q6 q7 q10) (s12 q1 q6 q7 q10) o_pickJob_96 (y := ((A 6) ((v5 * (128 : Int32)) + ((v1 * v2) / ((A 0) v5))))) rfl ?_
          refine Wk.if_gt o_pickJob_97 (fun q13 => ?_) (fun q13 => ?_)
          · refine Wk.iloadN o_pickJob_103 rfl ?_
            refine Wk.if_lt o_pickJob_104 (fun q14 => ?_) (fun q14 => ?_)
            · refine Wk.iload o_pickJob_114 rfl ?_
              refine Wk.istoreN o_pickJob_116 (Or.inr ⟨_, rfl, rfl⟩) (L' := [.val (.ref 0), .val (.int v1), .val (.int v2), .val (.int ((v5 * (128 : Int32)) + ((v1 * v2) / ((A 0) v5)))), .val (.int v4), .val (.int v5), .val (.int ((v1 * v2) / ((A 0) v5))), .val (.int ((((v1 * v2) / ((A 0) v5)) * ((A 0) v5)) + ((A 2) v5))), .val (.int ((v5 * (128 : Int32)) + ((v1 * v2) / ((A 0) v5))))]) rfl ?_
              refine Wk.iload o_pickJob_117 rfl ?_
              refine Wk.istore o_pickJob_119 (Or.inr ⟨_, rfl, rfl⟩) (L' := [.val (.ref 0), .val (.int v1), .val (.int v2), .val (.int ((v5 * (128 : Int32)) + ((v1 * v2) / ((A 0) v5)))), .val (.int ((((v1 * v2) / ((A 0) v5)) * ((A 0) v5)) + ((A 2) v5))), .val (.int v5), .val (.int ((v1 * v2) / ((A 0) v5))), .val (.int ((((v1 * v2) / ((A 0) v5)) * ((A 0) v5)) + ((A 2) v5))), .val (.int ((v5 * (128 : Int32)) + ((v1 * v2) / ((A 0) v5))))]) rfl ?_
              refine Wk.forget [false, false, false, false, false, false, false, true, true] (L' := [.val (.ref 0), .val (.int v1), .val (.int v2), .val (.int ((v5 * (128 : Int32)) + ((v1 * v2) / ((A 0) v5)))), .val (.int ((((v1 * v2) / ((A 0) v5)) * ((A 0) v5)) + ((A 2) v5))), .val (.int v5), .val (.int ((v1 * v2) / ((A 0) v5))), .unset, .unset]) rfl rfl ?_
              first | (rw [show ((if ((v1 * v2) / ((A 0) v5)) < 0 then v3 else (if ((v1 * v2) / ((A 0) v5)) < (128 : Int32) then (if ((((v1 * v2) / ((A 0) v5)) * ((A 0) v5)) + ((A 2) v5)) < ((v1 + (1 : Int32)) * v2) then v3 else (if 0 < ((A 6) ((v5 * (128 : Int32)) + ((v1 * v2) / ((A 0) v5)))) then (if v3 < 0 then ((v5 * (128 : Int32)) + ((v1 * v2) / ((A 0) v5))) else (if ((((v1 * v2) / ((A 0) v5)) * ((A 0) v5)) + ((A 2) v5)) < v4 then ((v5 * (128 : Int32)) + ((v1 * v2) / ((A 0) v5))) else v3)) else v3)) else v3)) : Int32) = ((v5 * (128 : Int32)) + ((v1 * v2) / ((A 0) v5))) from Eq.trans (if_neg q6) <| Eq.trans (if_pos q7) <| Eq.trans (if_neg q10) <| Eq.trans (if_pos q13) <| if_pos q14, show ((if ((v1 * v2) / ((A 0) v5)) < 0 then v4 else (if ((v1 * v2) / ((A 0) v5)) < (128 : Int32) then (if ((((v1 * v2) / ((A 0) v5)) * ((A 0) v5)) + ((A 2) v5)) < ((v1 + (1 : Int32)) * v2) then v4 else (if 0 < ((A 6) ((v5 * (128 : Int32)) + ((v1 * v2) / ((A 0) v5)))) then (if v3 < 0 then ((((v1 * v2) / ((A 0) v5)) * ((A 0) v5)) + ((A 2) v5)) else (if ((((v1 * v2) / ((A 0) v5)) * ((A 0) v5)) + ((A 2) v5)) < v4 then ((((v1 * v2) / ((A 0) v5)) * ((A 0) v5)) + ((A 2) v5)) else v4)) else v4)) else v4)) : Int32) = ((((v1 * v2) / ((A 0) v5)) * ((A 0) v5)) + ((A 2) v5)) from Eq.trans (if_neg q6) <| Eq.trans (if_pos q7) <| Eq.trans (if_neg q10) <| Eq.trans (if_pos q13) <| if_pos q14] at J21; exact J21) | exact J21 | (simp only [if_neg q6, if_pos q7, if_neg q10, if_pos q13, if_pos q14] at J21 ⊢; exact J21)
            · refine Wk.iload o_pickJob_107 rfl ?_
              refine Wk.iload o_pickJob_109 rfl ?_
              refine Wk.icmp_ge o_pickJob_111 (fun q15 => ?_) (fun q15 => ?_)
              · refine Wk.forget [false, false, false, false, false, false, false, true, true] (L' := [.val (.ref 0), .val (.int v1), .val (.int v2), .val (.int v3), .val (.int v4), .val (.int v5), .val (.int ((v1 * v2) / ((A 0) v5))), .unset, .unset]) rfl rfl ?_
                first | (rw [show ((if ((v1 * v2) / ((A 0) v5)) < 0 then v3 else (if ((v1 * v2) / ((A 0) v5)) < (128 : Int32) then (if ((((v1 * v2) / ((A 0) v5)) * ((A 0) v5)) + ((A 2) v5)) < ((v1 + (1 : Int32)) * v2) then v3 else (if 0 < ((A 6) ((v5 * (128 : Int32)) + ((v1 * v2) / ((A 0) v5)))) then (if v3 < 0 then ((v5 * (128 : Int32)) + ((v1 * v2) / ((A 0) v5))) else (if ((((v1 * v2) / ((A 0) v5)) * ((A 0) v5)) + ((A 2) v5)) < v4 then ((v5 * (128 : Int32)) + ((v1 * v2) / ((A 0) v5))) else v3)) else v3)) else v3)) : Int32) = v3 from Eq.trans (if_neg q6) <| Eq.trans (if_pos q7) <| Eq.trans (if_neg q10) <| Eq.trans (if_pos q13) <| Eq.trans (if_neg q14) <| if_neg q15, show ((if ((v1 * v2) / ((A 0) v5)) < 0 then v4 else (if ((v1 * v2) / ((A 0) v5)) < (128 : Int32) then (if ((((v1 * v2) / ((A 0) v5)) * ((A 0) v5)) + ((A 2) v5)) < ((v1 + (1 : Int32)) * v2) then v4 else (if 0 < ((A 6) ((v5 * (128 : Int32)) + ((v1 * v2) / ((A 0) v5)))) then (if v3 < 0 then ((((v1 * v2) / ((A 0) v5)) * ((A 0) v5)) + ((A 2) v5)) else (if ((((v1 * v2) / ((A 0) v5)) * ((A 0) v5)) + ((A 2) v5)) < v4 then ((((v1 * v2) / ((A 0) v5)) * ((A 0) v5)) + ((A 2) v5)) else v4)) else v4)) else v4)) : Int32) = v4 from Eq.trans (if_neg q6) <| Eq.trans (if_pos q7) <| Eq.trans (if_neg q10) <| Eq.trans (if_pos q13) <| Eq.trans (if_neg q14) <| if_neg q15] at J21; exact J21) | exact J21 | (simp only [if_neg q6, if_pos q7, if_neg q10, if_pos q13, if_neg q14, if_neg q15] at J21 ⊢; exact J21)
              · refine Wk.iload o_pickJob_114 rfl ?_
                refine Wk.istoreN o_pickJob_116 (Or.inr ⟨_, rfl, rfl⟩) (L' := [.val (.ref 0), .val (.int v1), .val (.int v2), .val (.int ((v5 * (128 : Int32)) + ((v1 * v2) / ((A 0) v5)))), .val (.int v4), .val (.int v5), .val (.int ((v1 * v2) / ((A 0) v5))), .val (.int ((((v1 * v2) / ((A 0) v5)) * ((A 0) v5)) + ((A 2) v5))), .val (.int ((v5 * (128 : Int32)) + ((v1 * v2) / ((A 0) v5))))]) rfl ?_
                refine Wk.iload o_pickJob_117 rfl ?_
                refine Wk.istore o_pickJob_119 (Or.inr ⟨_, rfl, rfl⟩) (L' := [.val (.ref 0), .val (.int v1), .val (.int v2), .val (.int ((v5 * (128 : Int32)) + ((v1 * v2) / ((A 0) v5)))), .val (.int ((((v1 * v2) / ((A 0) v5)) * ((A 0) v5)) + ((A 2) v5))), .val (.int v5), .val (.int ((v1 * v2) / ((A 0) v5))), .val (.int ((((v1 * v2) / ((A 0) v5)) * ((A 0) v5)) + ((A 2) v5))), .val (.int ((v5 * (128 : Int32)) + ((v1 * v2) / ((A 0) v5))))]) rfl ?_
                refine Wk.forget [false, false, false, false, false, false, false, true, true] (L' := [.val (.ref 0), .val (.int v1), .val (.int v2), .val (.int ((v5 * (128 : Int32)) + ((v1 * v2) / ((A 0) v5)))), .val (.int ((((v1 * v2) / ((A 0) v5)) * ((A 0) v5)) + ((A 2) v5))), .val (.int v5), .val (.int ((v1 * v2) / ((A 0) v5))), .unset, .unset]) rfl rfl ?_
                first | (rw [show ((if ((v1 * v2) / ((A 0) v5)) < 0 then v3 else (if ((v1 * v2) / ((A 0) v5)) < (128 : Int32) then (if ((((v1 * v2) / ((A 0) v5)) * ((A 0) v5)) + ((A 2) v5)) < ((v1 + (1 : Int32)) * v2) then v3 else (if 0 < ((A 6) ((v5 * (128 : Int32)) + ((v1 * v2) / ((A 0) v5)))) then (if v3 < 0 then ((v5 * (128 : Int32)) + ((v1 * v2) / ((A 0) v5))) else (if ((((v1 * v2) / ((A 0) v5)) * ((A 0) v5)) + ((A 2) v5)) < v4 then ((v5 * (128 : Int32)) + ((v1 * v2) / ((A 0) v5))) else v3)) else v3)) else v3)) : Int32) = ((v5 * (128 : Int32)) + ((v1 * v2) / ((A 0) v5))) from Eq.trans (if_neg q6) <| Eq.trans (if_pos q7) <| Eq.trans (if_neg q10) <| Eq.trans (if_pos q13) <| Eq.trans (if_neg q14) <| if_pos q15, show ((if ((v1 * v2) / ((A 0) v5)) < 0 then v4 else (if ((v1 * v2) / ((A 0) v5)) < (128 : Int32) then (if ((((v1 * v2) / ((A 0) v5)) * ((A 0) v5)) + ((A 2) v5)) < ((v1 + (1 : Int32)) * v2) then v4 else (if 0 < ((A 6) ((v5 * (128 : Int32)) + ((v1 * v2) / ((A 0) v5)))) then (if v3 < 0 then ((((v1 * v2) / ((A 0) v5)) * ((A 0) v5)) + ((A 2) v5)) else (if ((((v1 * v2) / ((A 0) v5)) * ((A 0) v5)) + ((A 2) v5)) < v4 then ((((v1 * v2) / ((A 0) v5)) * ((A 0) v5)) + ((A 2) v5)) else v4)) else v4)) else v4)) : Int32) = ((((v1 * v2) / ((A 0) v5)) * ((A 0) v5)) + ((A 2) v5)) from Eq.trans (if_neg q6) <| Eq.trans (if_pos q7) <| Eq.trans (if_neg q10) <| Eq.trans (if_pos q13) <| Eq.trans (if_neg q14) <| if_pos q15] at J21; exact J21) | exact J21 | (simp only [if_neg q6, if_pos q7, if_neg q10, if_pos q13, if_neg q14, if_pos q15] at J21 ⊢; exact J21)
          · refine Wk.goto o_pickJob_100 ?_
            refine Wk.forget [false, false, false, false, false, false, false, true, true] (L' := [.val (.ref 0), .val (.int v1), .val (.int v2), .val (.int v3), .val (.int v4), .val (.int v5), .val (.int ((v1 * v2) / ((A 0) v5))), .unset, .unset]) rfl rfl ?_
            first | (rw [show ((if ((v1 * v2) / ((A 0) v5)) < 0 then v3 else (if ((v1 * v2) / ((A 0) v5)) < (128 : Int32) then (if ((((v1 * v2) / ((A 0) v5)) * ((A 0) v5)) + ((A 2) v5)) < ((v1 + (1 : Int32)) * v2) then v3 else (if 0 < ((A 6) ((v5 * (128 : Int32)) + ((v1 * v2) / ((A 0) v5)))) then (if v3 < 0 then ((v5 * (128 : Int32)) + ((v1 * v2) / ((A 0) v5))) else (if ((((v1 * v2) / ((A 0) v5)) * ((A 0) v5)) + ((A 2) v5)) < v4 then ((v5 * (128 : Int32)) + ((v1 * v2) / ((A 0) v5))) else v3)) else v3)) else v3)) : Int32) = v3 from Eq.trans (if_neg q6) <| Eq.trans (if_pos q7) <| Eq.trans (if_neg q10) <| if_neg q13, show ((if ((v1 * v2) / ((A 0) v5)) < 0 then v4 else (if ((v1 * v2) / ((A 0) v5)) < (128 : Int32) then (if ((((v1 * v2) / ((A 0) v5)) * ((A 0) v5)) + ((A 2) v5)) < ((v1 + (1 : Int32)) * v2) then v4 else (if 0 < ((A 6) ((v5 * (128 : Int32)) + ((v1 * v2) / ((A 0) v5)))) then (if v3 < 0 then ((((v1 * v2) / ((A 0) v5)) * ((A 0) v5)) + ((A 2) v5)) else (if ((((v1 * v2) / ((A 0) v5)) * ((A 0) v5)) + ((A 2) v5)) < v4 then ((((v1 * v2) / ((A 0) v5)) * ((A 0) v5)) + ((A 2) v5)) else v4)) else v4)) else v4)) : Int32) = v4 from Eq.trans (if_neg q6) <| Eq.trans (if_pos q7) <| Eq.trans (if_neg q10) <| if_neg q13] at J21; exact J21) | exact J21 | (simp only [if_neg q6, if_pos q7, if_neg q10, if_neg q13] at J21 ⊢; exact J21)
        · refine Wk.goto o_pickJob_76 ?_
          refine Wk.forget [false, false, false, false, false, false, false, true, false] (L' := [.val (.ref 0), .val (.int v1), .val (.int v2), .val (.int v3), .val (.int v4), .val (.int v5), .val (.int ((v1 * v2) / ((A 0) v5))), .unset, .unset]) rfl rfl ?_
          first | (rw [show ((if ((v1 * v2) / ((A 0) v5)) < 0 then v3 else (if ((v1 * v2) / ((A 0) v5)) < (128 : Int32) then (if ((((v1 * v2) / ((A 0) v5)) * ((A 0) v5)) + ((A 2) v5)) < ((v1 + (1 : Int32)) * v2) then v3 else (if 0 < ((A 6) ((v5 * (128 : Int32)) + ((v1 * v2) / ((A 0) v5)))) then (if v3 < 0 then ((v5 * (128 : Int32)) + ((v1 * v2) / ((A 0) v5))) else (if ((((v1 * v2) / ((A 0) v5)) * ((A 0) v5)) + ((A 2) v5)) < v4 then ((v5 * (128 : Int32)) + ((v1 * v2) / ((A 0) v5))) else v3)) else v3)) else v3)) : Int32) = v3 from Eq.trans (if_neg q6) <| Eq.trans (if_pos q7) <| if_pos q10, show ((if ((v1 * v2) / ((A 0) v5)) < 0 then v4 else (if ((v1 * v2) / ((A 0) v5)) < (128 : Int32) then (if ((((v1 * v2) / ((A 0) v5)) * ((A 0) v5)) + ((A 2) v5)) < ((v1 + (1 : Int32)) * v2) then v4 else (if 0 < ((A 6) ((v5 * (128 : Int32)) + ((v1 * v2) / ((A 0) v5)))) then (if v3 < 0 then ((((v1 * v2) / ((A 0) v5)) * ((A 0) v5)) + ((A 2) v5)) else (if ((((v1 * v2) / ((A 0) v5)) * ((A 0) v5)) + ((A 2) v5)) < v4 then ((((v1 * v2) / ((A 0) v5)) * ((A 0) v5)) + ((A 2) v5)) else v4)) else v4)) else v4)) : Int32) = v4 from Eq.trans (if_neg q6) <| Eq.trans (if_pos q7) <| if_pos q10] at J21; exact J21) | exact J21 | (simp only [if_neg q6, if_pos q7, if_pos q10] at J21 ⊢; exact J21)
      · refine Wk.goto o_pickJob_43 ?_
        first | (rw [show ((if ((v1 * v2) / ((A 0) v5)) < 0 then v3 else (if ((v1 * v2) / ((A 0) v5)) < (128 : Int32) then (if ((((v1 * v2) / ((A 0) v5)) * ((A 0) v5)) + ((A 2) v5)) < ((v1 + (1 : Int32)) * v2) then v3 else (if 0 < ((A 6) ((v5 * (128 : Int32)) + ((v1 * v2) / ((A 0) v5)))) then (if v3 < 0 then ((v5 * (128 : Int32)) + ((v1 * v2) / ((A 0) v5))) else (if ((((v1 * v2) / ((A 0) v5)) * ((A 0) v5)) + ((A 2) v5)) < v4 then ((v5 * (128 : Int32)) + ((v1 * v2) / ((A 0) v5))) else v3)) else v3)) else v3)) : Int32) = v3 from Eq.trans (if_neg q6) <| if_neg q7, show ((if ((v1 * v2) / ((A 0) v5)) < 0 then v4 else (if ((v1 * v2) / ((A 0) v5)) < (128 : Int32) then (if ((((v1 * v2) / ((A 0) v5)) * ((A 0) v5)) + ((A 2) v5)) < ((v1 + (1 : Int32)) * v2) then v4 else (if 0 < ((A 6) ((v5 * (128 : Int32)) + ((v1 * v2) / ((A 0) v5)))) then (if v3 < 0 then ((((v1 * v2) / ((A 0) v5)) * ((A 0) v5)) + ((A 2) v5)) else (if ((((v1 * v2) / ((A 0) v5)) * ((A 0) v5)) + ((A 2) v5)) < v4 then ((((v1 * v2) / ((A 0) v5)) * ((A 0) v5)) + ((A 2) v5)) else v4)) else v4)) else v4)) : Int32) = v4 from Eq.trans (if_neg q6) <| if_neg q7] at J21; exact J21) | exact J21 | (simp only [if_neg q6, if_neg q7] at J21 ⊢; exact J21)

theorem rt_pickJob (F : Nat → Int32) (G : Nat → Int64) (A : Nat → Int32 → Int32) (B : Nat → Int32 → Int64) (v0 : Int32) (r : Int32) (e : v0 = r) : some (Value.int v0) = some (.int r) ∧ (7, F, G, A, B) = (7, F, G, A, B) := by subst e; exact ⟨rfl, rfl⟩
def lp_pickJob : Nat → Nat → Int32 → Int32 → Int32 → Int32 → Int32 → (Nat → Int32) → (Nat → Int32 → Int32) → Option (Int32)
  | 0, _, _, _, _, _, _, _, _ => none
  | n + 1, tag, v1, v2, v3, v4, v5, F, A => if tag = 8 then (if v5 < (F 2) then (if (¬ v5 < 0) ∧ (v5 < (8 : Int32)) ∧ (¬ ((A 0) v5) = (0 : Int32)) ∧ (¬ ((v1 * v2) / ((A 0) v5)) < 0 → ((v1 * v2) / ((A 0) v5)) < (128 : Int32) → ¬ v5 < 0) ∧ (¬ ((v1 * v2) / ((A 0) v5)) < 0 → ((v1 * v2) / ((A 0) v5)) < (128 : Int32) → v5 < (8 : Int32)) ∧ (¬ ((v1 * v2) / ((A 0) v5)) < 0 → ((v1 * v2) / ((A 0) v5)) < (128 : Int32) → ¬ ((((v1 * v2) / ((A 0) v5)) * ((A 0) v5)) + ((A 2) v5)) < ((v1 + (1 : Int32)) * v2) → ¬ ((v5 * (128 : Int32)) + ((v1 * v2) / ((A 0) v5))) < 0) ∧ (¬ ((v1 * v2) / ((A 0) v5)) < 0 → ((v1 * v2) / ((A 0) v5)) < (128 : Int32) → ¬ ((((v1 * v2) / ((A 0) v5)) * ((A 0) v5)) + ((A 2) v5)) < ((v1 + (1 : Int32)) * v2) → ((v5 * (128 : Int32)) + ((v1 * v2) / ((A 0) v5))) < (1024 : Int32)) then lp_pickJob n 8 v1 v2 (if ((v1 * v2) / ((A 0) v5)) < 0 then v3 else (if ((v1 * v2) / ((A 0) v5)) < (128 : Int32) then (if ((((v1 * v2) / ((A 0) v5)) * ((A 0) v5)) + ((A 2) v5)) < ((v1 + (1 : Int32)) * v2) then v3 else (if 0 < ((A 6) ((v5 * (128 : Int32)) + ((v1 * v2) / ((A 0) v5)))) then (if v3 < 0 then ((v5 * (128 : Int32)) + ((v1 * v2) / ((A 0) v5))) else (if ((((v1 * v2) / ((A 0) v5)) * ((A 0) v5)) + ((A 2) v5)) < v4 then ((v5 * (128 : Int32)) + ((v1 * v2) / ((A 0) v5))) else v3)) else v3)) else v3)) (if ((v1 * v2) / ((A 0) v5)) < 0 then v4 else (if ((v1 * v2) / ((A 0) v5)) < (128 : Int32) then (if ((((v1 * v2) / ((A 0) v5)) * ((A 0) v5)) + ((A 2) v5)) < ((v1 + (1 : Int32)) * v2) then v4 else (if 0 < ((A 6) ((v5 * (128 : Int32)) + ((v1 * v2) / ((A 0) v5)))) then (if v3 < 0 then ((((v1 * v2) / ((A 0) v5)) * ((A 0) v5)) + ((A 2) v5)) else (if ((((v1 * v2) / ((A 0) v5)) * ((A 0) v5)) + ((A 2) v5)) < v4 then ((((v1 * v2) / ((A 0) v5)) * ((A 0) v5)) + ((A 2) v5)) else v4)) else v4)) else v4)) (v5 + (1 : Int32)) F A else none) else some (v3)) else none
theorem lp_pickJob_z (tag : Nat) (v1 : Int32) (v2 : Int32) (v3 : Int32) (v4 : Int32) (v5 : Int32) (F : Nat → Int32) (A : Nat → Int32 → Int32) : lp_pickJob 0 tag v1 v2 v3 v4 v5 F A = none := Eq.trans rfl rfl
theorem lp_pickJob_8 (n : Nat) (v1 : Int32) (v2 : Int32) (v3 : Int32) (v4 : Int32) (v5 : Int32) (F : Nat → Int32) (A : Nat → Int32 → Int32) : lp_pickJob (n + 1) 8 v1 v2 v3 v4 v5 F A = (if v5 < (F 2) then (if (¬ v5 < 0) ∧ (v5 < (8 : Int32)) ∧ (¬ ((A 0) v5) = (0 : Int32)) ∧ (¬ ((v1 * v2) / ((A 0) v5)) < 0 → ((v1 * v2) / ((A 0) v5)) < (128 : Int32) → ¬ v5 < 0) ∧ (¬ ((v1 * v2) / ((A 0) v5)) < 0 → ((v1 * v2) / ((A 0) v5)) < (128 : Int32) → v5 < (8 : Int32)) ∧ (¬ ((v1 * v2) / ((A 0) v5)) < 0 → ((v1 * v2) / ((A 0) v5)) < (128 : Int32) → ¬ ((((v1 * v2) / ((A 0) v5)) * ((A 0) v5)) + ((A 2) v5)) < ((v1 + (1 : Int32)) * v2) → ¬ ((v5 * (128 : Int32)) + ((v1 * v2) / ((A 0) v5))) < 0) ∧ (¬ ((v1 * v2) / ((A 0) v5)) < 0 → ((v1 * v2) / ((A 0) v5)) < (128 : Int32) → ¬ ((((v1 * v2) / ((A 0) v5)) * ((A 0) v5)) + ((A 2) v5)) < ((v1 + (1 : Int32)) * v2) → ((v5 * (128 : Int32)) + ((v1 * v2) / ((A 0) v5))) < (1024 : Int32)) then lp_pickJob n 8 v1 v2 (if ((v1 * v2) / ((A 0) v5)) < 0 then v3 else (if ((v1 * v2) / ((A 0) v5)) < (128 : Int32) then (if ((((v1 * v2) / ((A 0) v5)) * ((A 0) v5)) + ((A 2) v5)) < ((v1 + (1 : Int32)) * v2) then v3 else (if 0 < ((A 6) ((v5 * (128 : Int32)) + ((v1 * v2) / ((A 0) v5)))) then (if v3 < 0 then ((v5 * (128 : Int32)) + ((v1 * v2) / ((A 0) v5))) else (if ((((v1 * v2) / ((A 0) v5)) * ((A 0) v5)) + ((A 2) v5)) < v4 then ((v5 * (128 : Int32)) + ((v1 * v2) / ((A 0) v5))) else v3)) else v3)) else v3)) (if ((v1 * v2) / ((A 0) v5)) < 0 then v4 else (if ((v1 * v2) / ((A 0) v5)) < (128 : Int32) then (if ((((v1 * v2) / ((A 0) v5)) * ((A 0) v5)) + ((A 2) v5)) < ((v1 + (1 : Int32)) * v2) then v4 else (if 0 < ((A 6) ((v5 * (128 : Int32)) + ((v1 * v2) / ((A 0) v5)))) then (if v3 < 0 then ((((v1 * v2) / ((A 0) v5)) * ((A 0) v5)) + ((A 2) v5)) else (if ((((v1 * v2) / ((A 0) v5)) * ((A 0) v5)) + ((A 2) v5)) < v4 then ((((v1 * v2) / ((A 0) v5)) * ((A 0) v5)) + ((A 2) v5)) else v4)) else v4)) else v4)) (v5 + (1 : Int32)) F A else none) else some (v3)) := by
  rw [lp_pickJob, if_pos rfl]
set_option maxRecDepth 65536 in
set_option maxHeartbeats 4000000 in
theorem lpw_pickJob {l : Launch} {Z : State} {a0 : Array Value} (H : OK Z a0) (F : Nat → Int32) (G : Nat → Int64) (A : Nat → Int32 → Int32) (B : Nat → Int32 → Int64) : ∀ (n : Nat) (v1 : Int32) (v2 : Int32) (v3 : Int32) (v4 : Int32) (v5 : Int32) (r : Int32), (lp_pickJob n 8 v1 v2 v3 v4 v5 F A = some r → Wk l Z (MoC Z cdC) md_pickJob 8 [.val (.ref 0), .val (.int v1), .val (.int v2), .val (.int v3), .val (.int v4), .val (.int v5), .unset, .unset, .unset] [] (7, F, G, A, B) 0 0 (fun v w' => v = some (.int r) ∧ w' = (7, F, G, A, B))) := by
  intro n
  induction n with
  | zero =>
    intro v1 v2 v3 v4 v5  r
    exact (fun h => by rw [lp_pickJob_z] at h; cases h)
  | succ n ih =>
    intro v1 v2 v3 v4 v5  r
    refine fun h => ?_
    · rw [lp_pickJob_8] at h
      exact wp_pickJob_8 H F G A B v1 v2 v3 v4 v5 (fun q1 => (rt_pickJob _ _ _ _ _ r (Option.some.inj (ifn q1 h)))) (fun q1 => (gd (ifp q1 h)).1.1) (fun q1 => (gd (ifp q1 h)).1.2.1) (fun q1 => (gd (ifp q1 h)).1.2.2.1) (fun q1 q6 q7 => ((gd (ifp q1 h)).1.2.2.2.1) q6 q7) (fun q1 q6 q7 => ((gd (ifp q1 h)).1.2.2.2.2.1) q6 q7) (fun q1 q6 q7 q10 => ((gd (ifp q1 h)).1.2.2.2.2.2.1) q6 q7 q10) (fun q1 q6 q7 q10 => ((gd (ifp q1 h)).1.2.2.2.2.2.2) q6 q7 q10) (fun q1 => (ih _ _ _ _ _ _) (gd (ifp q1 h)).2)
def en_pickJob (F : Nat → Int32) (A : Nat → Int32 → Int32) (p1 : Int32) (p2 : Int32) : Option (Int32) := lp_pickJob 5000 8 p1 p2 (-1 : Int32) (0 : Int32) (0 : Int32) F A
theorem een_pickJob (F : Nat → Int32) (A : Nat → Int32 → Int32) (p1 : Int32) (p2 : Int32) : en_pickJob F A p1 p2 = lp_pickJob 5000 8 p1 p2 (-1 : Int32) (0 : Int32) (0 : Int32) F A := Eq.trans rfl rfl
def R_pickJob (F : Nat → Int32) (A : Nat → Int32 → Int32) (p1 : Int32) (p2 : Int32) : Int32 := (en_pickJob F A p1 p2).getD (0)
theorem eR_pickJob (F : Nat → Int32) (A : Nat → Int32 → Int32) (p1 : Int32) (p2 : Int32) : R_pickJob F A p1 p2 = (en_pickJob F A p1 p2).getD (0) := Eq.trans rfl rfl
set_option maxRecDepth 65536 in
set_option maxHeartbeats 4000000 in
theorem run_pickJob {l : Launch} {Z : State} {a0 : Array Value} (H : OK Z a0) (F : Nat → Int32) (G : Nat → Int64) (A : Nat → Int32 → Int32) (B : Nat → Int32 → Int64) (p1 : Int32) (p2 : Int32) (e1 : (en_pickJob F A p1 p2).isSome = true) :
    Wk l Z (MoC Z cdC) md_pickJob 0 [.val (.ref 0), .val (.int p1), .val (.int p2), .unset, .unset, .unset, .unset, .unset, .unset] [] (7, F, G, A, B) 0 0 (fun v w' => v = some (.int (R_pickJob F A p1 p2)) ∧ w' = (7, F, G, A, B)) := by
  obtain ⟨r, h⟩ := Option.isSome_iff_exists.mp e1
  have e : R_pickJob F A p1 p2 = r := (eR_pickJob F A p1 p2).trans (getD_some h)
  rw [e]
  rw [een_pickJob] at h
  exact wp_pickJob H F G A B p1 p2 ((lpw_pickJob H F G A B _ _ _ _ _ _ _) h)
set_option maxRecDepth 65536 in
set_option maxHeartbeats 4000000 in
theorem wp_fillFrame {l : Launch} {Z : State} {a0 : Array Value} (H : OK Z a0) (F : Nat → Int32) (G : Nat → Int64) (A : Nat → Int32 → Int32) (B : Nat → Int32 → Int64) (p1 : Int32) (p2 : Int32) {Q : Option Value → WO → Prop} (h1 : Wk l Z (MoC Z cdC) md_fillFrame 14 [.val (.ref 0), .val (.int p1), .val (.int p2), .val (.int ((p1 + (1 : Int32)) * p2)), .val (.int (p1 * p2)), .val (.int (0 : Int32)), .unset, .unset, .unset, .unset, .unset] [] (7, F, G, A, B) 0 0 Q) :
    Wk l Z (MoC Z cdC) md_fillFrame 0 [.val (.ref 0), .val (.int p1), .val (.int p2), .unset, .unset, .unset, .unset, .unset, .unset, .unset, .unset] [] (7, F, G, A, B) 0 0 Q := by
  refine Wk.iloadN o_fillFrame_0 rfl ?_
  refine Wk.iconst o_fillFrame_1 (z := (1 : Int32)) (by decide) ?_
  refine Wk.iadd o_fillFrame_2 ?_
  refine Wk.iloadN o_fillFrame_3 rfl ?_
  refine Wk.imul o_fillFrame_4 ?_
  refine Wk.istoreN o_fillFrame_5 (Or.inl rfl) (L' := [.val (.ref 0), .val (.int p1), .val (.int p2), .val (.int ((p1 + (1 : Int32)) * p2)), .unset, .unset, .unset, .unset, .unset, .unset, .unset]) rfl ?_
  refine Wk.iloadN o_fillFrame_6 rfl ?_
  refine Wk.iloadN o_fillFrame_7 rfl ?_
  refine Wk.imul o_fillFrame_8 ?_
  refine Wk.istore o_fillFrame_9 (Or.inl rfl) (L' := [.val (.ref 0), .val (.int p1), .val (.int p2), .val (.int ((p1 + (1 : Int32)) * p2)), .val (.int (p1 * p2)), .unset, .unset, .unset, .unset, .unset, .unset]) rfl ?_
  refine Wk.iconst o_fillFrame_11 (z := (0 : Int32)) (by decide) ?_
  refine Wk.istore o_fillFrame_12 (Or.inl rfl) (L' := [.val (.ref 0), .val (.int p1), .val (.int p2), .val (.int ((p1 + (1 : Int32)) * p2)), .val (.int (p1 * p2)), .val (.int (0 : Int32)), .unset, .unset, .unset, .unset, .unset]) rfl ?_
  exact h1

set_option maxRecDepth 65536 in
set_option maxHeartbeats 4000000 in
theorem wp_fillFrame_14 {l : Launch} {Z : State} {a0 : Array Value} (H : OK Z a0) (F : Nat → Int32) (G : Nat → Int64) (A : Nat → Int32 → Int32) (B : Nat → Int32 → Int64) (v1 : Int32) (v2 : Int32) (v3 : Int32) (v4 : Int32) (v5 : Int32) {Q : Option Value → WO → Prop} (h2 : ¬ v5 < v2 → Q none (7, F, G, A, B)) (h4 : v5 < v2 → ¬ v4 < v3 → Q none (7, F, G, A, B)) (s5 : v5 < v2 → v4 < v3 → (en_pickJob F A v1 v2).isSome = true) (s7 : v5 < v2 → v4 < v3 → ¬ (R_pickJob F A v1 v2) < 0 → (R_pickJob F A v1 v2) < (1024 : Int32)) (h10 : v5 < v2 → v4 < v3 → ¬ (R_pickJob F A v1 v2) < 0 → Wk l Z (MoC Z cdC) md_fillFrame 86 [.val (.ref 0), .val (.int v1), .val (.int v2), .val (.int v3), .val (.int v4), .val (.int v5), .val (.int (R_pickJob F A v1 v2)), .val (.int (if (v3 - v4) < ((A 6) (R_pickJob F A v1 v2)) then (v3 - v4) else ((A 6) (R_pickJob F A v1 v2)))), .val (.int ((R_pickJob F A v1 v2) / (128 : Int32))), .val (.int ((R_pickJob F A v1 v2) % (128 : Int32))), .val (.int v4)] [] (7, F, G, A, B) 0 0 Q) (h11 : v5 < v2 → v4 < v3 → (R_pickJob F A v1 v2) < 0 → Q none (7, F, G, A, B)) :
    Wk l Z (MoC Z cdC) md_fillFrame 14 [.val (.ref 0), .val (.int v1), .val (.int v2), .val (.int v3), .val (.int v4), .val (.int v5), .unset, .unset, .unset, .unset, .unset] [] (7, F, G, A, B) 0 0 Q := by
  refine Wk.iload o_fillFrame_14 rfl ?_
  refine Wk.iloadN o_fillFrame_16 rfl ?_
  refine Wk.icmp_ge o_fillFrame_17 (fun q1 => ?_) (fun q1 => ?_)
  · exact Wk.ret mrC rfl o_fillFrame_153 rfl (by decide) (by decide) (h2 q1)
  · refine Wk.iload o_fillFrame_20 rfl ?_
    refine Wk.iloadN o_fillFrame_22 rfl ?_
    refine Wk.icmp_ge o_fillFrame_23 (fun q3 => ?_) (fun q3 => ?_)
    · exact Wk.ret mrC rfl o_fillFrame_153 rfl (by decide) (by decide) (h4 q1 q3)
    · refine Wk.aloadN o_fillFrame_26 rfl ?_
      refine Wk.iloadN o_fillFrame_27 rfl ?_
      refine Wk.iloadN o_fillFrame_28 rfl ?_
      refine Wk.callF [.int v1, .int v2] [] (H.w 133 rfl) (cv_pickJob H) o_fillFrame_29 (run_pickJob H F G A B v1 v2 (s5 q1 q3)) (wt := 0) (cu' := 0) (su' := 0) (by decide) rfl rfl rfl rfl rfl rfl rfl ?_
      refine Wk.istore o_fillFrame_32 (Or.inl rfl) (L' := [.val (.ref 0), .val (.int v1), .val (.int v2), .val (.int v3), .val (.int v4), .val (.int v5), .val (.int (R_pickJob F A v1 v2)), .unset, .unset, .unset, .unset]) rfl ?_
      refine Wk.iload o_fillFrame_34 rfl ?_
      refine Wk.if_ge o_fillFrame_36 (fun q6 => ?_) (fun q6 => ?_)
      · refine Wk.aloadN o_fillFrame_42 rfl ?_
        refine Wk.getA (mA_rem) (by decide) (i' := 7) rfl (wf_rem H) o_fillFrame_43 ?_
        refine Wk.iload o_fillFrame_46 rfl ?_
        refine Wk.iaload (mA_rem) (by decide) (i' := 7) rfl q6 (s7 q1 q3 q6) o_fillFrame_48 (y := ((A 6) (R_pickJob F A v1 v2))) rfl ?_
        refine Wk.istore o_fillFrame_49 (Or.inl rfl) (L' := [.val (.ref 0), .val (.int v1), .val (.int v2), .val (.int v3), .val (.int v4), .val (.int v5), .val (.int (R_pickJob F A v1 v2)), .val (.int ((A 6) (R_pickJob F A v1 v2))), .unset, .unset, .unset]) rfl ?_
        refine Wk.iloadN o_fillFrame_51 rfl ?_
        refine Wk.iload o_fillFrame_52 rfl ?_
        refine Wk.isub o_fillFrame_54 ?_
        refine Wk.iload o_fillFrame_55 rfl ?_
        have J9 : Wk l Z (MoC Z cdC) md_fillFrame 66 [.val (.ref 0), .val (.int v1), .val (.int v2), .val (.int v3), .val (.int v4), .val (.int v5), .val (.int (R_pickJob F A v1 v2)), .val (.int (if (v3 - v4) < ((A 6) (R_pickJob F A v1 v2)) then (v3 - v4) else ((A 6) (R_pickJob F A v1 v2)))), .unset, .unset, .unset] [] (7, F, G, A, B) 0 0 Q := by
          refine Wk.iload o_fillFrame_66 rfl ?_
          refine Wk.sipush o_fillFrame_68 (z := (128 : Int32)) (by decide) ?_
          refine Wk.idiv o_fillFrame_71 (by decide) ?_
          refine Wk.istore o_fillFrame_72 (Or.inl rfl) (L' := [.val (.ref 0), .val (.int v1), .val (.int v2), .val (.int v3), .val (.int v4), .val (.int v5), .val (.int (R_pickJob F A v1 v2)), .val (.int (if (v3 - v4) < ((A 6) (R_pickJob F A v1 v2)) then (v3 - v4) else ((A 6) (R_pickJob F A v1 v2)))), .val (.int ((R_pickJob F A v1 v2) / (128 : Int32))), .unset, .unset]) rfl ?_
          refine Wk.iload o_fillFrame_74 rfl ?_
          refine Wk.sipush o_fillFrame_76 (z := (128 : Int32)) (by decide) ?_
          refine Wk.irem o_fillFrame_79 (by decide) ?_
          refine Wk.istore o_fillFrame_80 (Or.inl rfl) (L' := [.val (.ref 0), .val (.int v1), .val (.int v2), .val (.int v3), .val (.int v4), .val (.int v5), .val (.int (R_pickJob F A v1 v2)), .val (.int (if (v3 - v4) < ((A 6) (R_pickJob F A v1 v2)) then (v3 - v4) else ((A 6) (R_pickJob F A v1 v2)))), .val (.int ((R_pickJob F A v1 v2) / (128 : Int32))), .val (.int ((R_pickJob F A v1 v2) % (128 : Int32))), .unset]) rfl ?_
          refine Wk.iload o_fillFrame_82 rfl ?_
          refine Wk.istore o_fillFrame_84 (Or.inl rfl) (L' := [.val (.ref 0), .val (.int v1), .val (.int v2), .val (.int v3), .val (.int v4), .val (.int v5), .val (.int (R_pickJob F A v1 v2)), .val (.int (if (v3 - v4) < ((A 6) (R_pickJob F A v1 v2)) then (v3 - v4) else ((A 6) (R_pickJob F A v1 v2)))), .val (.int ((R_pickJob F A v1 v2) / (128 : Int32))), .val (.int ((R_pickJob F A v1 v2) % (128 : Int32))), .val (.int v4)]) rfl ?_
          exact (h10 q1 q3 q6)
        refine Wk.icmp_ge o_fillFrame_57 (fun q8 => ?_) (fun q8 => ?_)
        · first | (rw [show ((if (v3 - v4) < ((A 6) (R_pickJob F A v1 v2)) then (v3 - v4) else ((A 6) (R_pickJob F A v1 v2))) : Int32) = ((A 6) (R_pickJob F A v1 v2)) from if_neg q8] at J9; exact J9) | exact J9 | (simp only [if_neg q8] at J9 ⊢; exact J9)
        · refine Wk.iloadN o_fillFrame_60 rfl ?_
          refine Wk.iload o_fillFrame_61 rfl ?_
          refine Wk.isub o_fillFrame_63 ?_
          refine Wk.istore o_fillFrame_64 (Or.inr ⟨_, rfl, rfl⟩) (L' := [.val (.ref 0), .val (.int v1), .val (.int v2), .val (.int v3), .val (.int v4), .val (.int v5), .val (.int (R_pickJob F A v1 v2)), .val (.int (v3 - v4)), .unset, .unset, .unset]) rfl ?_
          first | (rw [show ((if (v3 - v4) < ((A 6) (R_pickJob F A v1 v2)) then (v3 - v4) else ((A 6) (R_pickJob F A v1 v2))) : Int32) = (v3 - v4) from if_pos q8] at J9; exact J9) | exact J9 | (simp only [if_pos q8] at J9 ⊢; exact J9)
      · refine Wk.goto o_fillFrame_39 ?_
        exact Wk.ret mrC rfl o_fillFrame_153 rfl (by decide) (by decide) (h11 q1 q3 q6)

set_option maxRecDepth 65536 in
set_option maxHeartbeats 4000000 in
theorem wp_fillFrame_86 {l : Launch} {Z : State} {a0 : Array Value} (H : OK Z a0) (F : Nat → Int32) (G : Nat → Int64) (A : Nat → Int32 → Int32) (B : Nat → Int32 → Int64) (v1 : Int32) (v2 : Int32) (v3 : Int32) (v4 : Int32) (v5 : Int32) (v6 : Int32) (v7 : Int32) (v8 : Int32) (v9 : Int32) (v10 : Int32) {Q : Option Value → WO → Prop} (s2 : ¬ v10 < (v4 + v7) → ¬ v6 < 0) (s3 : ¬ v10 < (v4 + v7) → v6 < (1024 : Int32)) (h4 : ¬ v10 < (v4 + v7) → Wk l Z (MoC Z cdC) md_fillFrame 14 [.val (.ref 0), .val (.int v1), .val (.int v2), .val (.int v3), .val (.int (v4 + v7)), .val (.int (v5 + (1 : Int32))), .unset, .unset, .unset, .unset, .unset] [] (7, F, G, (ups A 6 (ups (A 6) v6 (((A 6) v6) - v7))), B) 0 0 Q) (s6 : v10 < (v4 + v7) → ¬ v10 < (128 : Int32) → ¬ v6 < 0) (s7 : v10 < (v4 + v7) → ¬ v10 < (128 : Int32) → v6 < (1024 : Int32)) (h8 : v10 < (v4 + v7) → ¬ v10 < (128 : Int32) → Wk l Z (MoC Z cdC) md_fillFrame 14 [.val (.ref 0), .val (.int v1), .val (.int v2), .val (.int v3), .val (.int (v4 + v7)), .val (.int (v5 + (1 : Int32))), .unset, .unset, .unset, .unset, .unset] [] (7, F, G, (ups A 6 (ups (A 6) v6 (((A 6) v6) - v7))), B) 0 0 Q) (s9 : v10 < (v4 + v7) → v10 < (128 : Int32) → ¬ v10 < 0) (h10 : v10 < (v4 + v7) → v10 < (128 : Int32) → Wk l Z (MoC Z cdC) md_fillFrame 86 [.val (.ref 0), .val (.int v1), .val (.int v2), .val (.int v3), .val (.int v4), .val (.int v5), .val (.int v6), .val (.int v7), .val (.int v8), .val (.int v9), .val (.int (v10 + (1 : Int32)))] [] (7, F, G, (ups (ups A 4 (ups (A 4) v10 v8)) 5 (ups (A 5) v10 v9)), B) 0 0 Q) :
    Wk l Z (MoC Z cdC) md_fillFrame 86 [.val (.ref 0), .val (.int v1), .val (.int v2), .val (.int v3), .val (.int v4), .val (.int v5), .val (.int v6), .val (.int v7), .val (.int v8), .val (.int v9), .val (.int v10)] [] (7, F, G, A, B) 0 0 Q := by
  refine Wk.iload o_fillFrame_86 rfl ?_
  refine Wk.iload o_fillFrame_88 rfl ?_
  refine Wk.iload o_fillFrame_90 rfl ?_
  refine Wk.iadd o_fillFrame_92 ?_
  refine Wk.icmp_ge o_fillFrame_93 (fun q1 => ?_) (fun q1 => ?_)
  · refine Wk.aloadN o_fillFrame_128 rfl ?_
    refine Wk.getA (mA_rem) (by decide) (i' := 7) rfl (wf_rem H) o_fillFrame_129 ?_
    refine Wk.iload o_fillFrame_132 rfl ?_
    refine Wk.dup2 o_fillFrame_134 rfl rfl ?_
    refine Wk.iaload (mA_rem) (by decide) (i' := 7) rfl (s2 q1) (s3 q1) o_fillFrame_135 (y := ((A 6) v6)) rfl ?_
    refine Wk.iload o_fillFrame_136 rfl ?_
    refine Wk.isub o_fillFrame_138 ?_
    refine Wk.iastore (coC H) (f := (A 6)) (mA_rem) rfl (by decide) (i' := 7) rfl (s2 q1) (s3 q1) o_fillFrame_139 ?_
    refine Wk.iload o_fillFrame_140 rfl ?_
    refine Wk.iload o_fillFrame_142 rfl ?_
    refine Wk.iadd o_fillFrame_144 ?_
    refine Wk.istore o_fillFrame_145 (Or.inr ⟨_, rfl, rfl⟩) (L' := [.val (.ref 0), .val (.int v1), .val (.int v2), .val (.int v3), .val (.int (v4 + v7)), .val (.int v5), .val (.int v6), .val (.int v7), .val (.int v8), .val (.int v9), .val (.int v10)]) rfl ?_
    refine Wk.iinc o_fillFrame_147 rfl (z := (v5 + (1 : Int32))) rfl (L' := [.val (.ref 0), .val (.int v1), .val (.int v2), .val (.int v3), .val (.int (v4 + v7)), .val (.int (v5 + (1 : Int32))), .val (.int v6), .val (.int v7), .val (.int v8), .val (.int v9), .val (.int v10)]) rfl ?_
    refine Wk.goto o_fillFrame_150 ?_
    refine Wk.forget [false, false, false, false, false, false, true, true, true, true, true] (L' := [.val (.ref 0), .val (.int v1), .val (.int v2), .val (.int v3), .val (.int (v4 + v7)), .val (.int (v5 + (1 : Int32))), .unset, .unset, .unset, .unset, .unset]) rfl rfl ?_
    exact (h4 q1)
  · refine Wk.iload o_fillFrame_96 rfl ?_
    refine Wk.sipush o_fillFrame_98 (z := (128 : Int32)) (by decide) ?_
    refine Wk.icmp_ge o_fillFrame_101 (fun q5 => ?_) (fun q5 => ?_)
    · refine Wk.aloadN o_fillFrame_128 rfl ?_
      refine Wk.getA (mA_rem) (by decide) (i' := 7) rfl (wf_rem H) o_fillFrame_129 ?_
      refine Wk.iload o_fillFrame_132 rfl ?_
      refine Wk.dup2 o_fillFrame_134 rfl rfl ?_
      refine Wk.iaload (mA_rem) (by decide) (i' := 7) rfl (s6 q1 q5) (s7 q1 q5) o_fillFrame_135 (y := ((A 6) v6)) rfl ?_
      refine Wk.iload o_fillFrame_136 rfl ?_
      refine Wk.isub o_fillFrame_138 ?_
      refine Wk.iastore (coC H) (f := (A 6)) (mA_rem) rfl (by decide) (i' := 7) rfl (s6 q1 q5) (s7 q1 q5) o_fillFrame_139 ?_
      refine Wk.iload o_fillFrame_140 rfl ?_
      refine Wk.iload o_fillFrame_142 rfl ?_
      refine Wk.iadd o_fillFrame_144 ?_
      refine Wk.istore o_fillFrame_145 (Or.inr ⟨_, rfl, rfl⟩) (L' := [.val (.ref 0), .val (.int v1), .val (.int v2), .val (.int v3), .val (.int (v4 + v7)), .val (.int v5), .val (.int v6), .val (.int v7), .val (.int v8), .val (.int v9), .val (.int v10)]) rfl ?_
      refine Wk.iinc o_fillFrame_147 rfl (z := (v5 + (1 : Int32))) rfl (L' := [.val (.ref 0), .val (.int v1), .val (.int v2), .val (.int v3), .val (.int (v4 + v7)), .val (.int (v5 + (1 : Int32))), .val (.int v6), .val (.int v7), .val (.int v8), .val (.int v9), .val (.int v10)]) rfl ?_
      refine Wk.goto o_fillFrame_150 ?_
      refine Wk.forget [false, false, false, false, false, false, true, true, true, true, true] (L' := [.val (.ref 0), .val (.int v1), .val (.int v2), .val (.int v3), .val (.int (v4 + v7)), .val (.int (v5 + (1 : Int32))), .unset, .unset, .unset, .unset, .unset]) rfl rfl ?_
      exact (h8 q1 q5)
    · refine Wk.aloadN o_fillFrame_104 rfl ?_
      refine Wk.getA (mA_tickTask) (by decide) (i' := 5) rfl (wf_tickTask H) o_fillFrame_105 ?_
      refine Wk.iload o_fillFrame_108 rfl ?_
      refine Wk.iload o_fillFrame_110 rfl ?_
      refine Wk.iastore (coC H) (f := (A 4)) (mA_tickTask) rfl (by decide) (i' := 5) rfl (s9 q1 q5) q5 o_fillFrame_112 ?_
      refine Wk.aloadN o_fillFrame_113 rfl ?_
      refine Wk.getA (mA_tickJob) (by decide) (i' := 6) rfl (wf_tickJob H) o_fillFrame_114 ?_
      refine Wk.iload o_fillFrame_117 rfl ?_
      refine Wk.iload o_fillFrame_119 rfl ?_
      refine Wk.iastore (coC H) (f := (A 5)) (mA_tickJob) rfl (by decide) (i' := 6) rfl (s9 q1 q5) q5 o_fillFrame_121 ?_
      refine Wk.iinc o_fillFrame_122 rfl (z := (v10 + (1 : Int32))) rfl (L' := [.val (.ref 0), .val (.int v1), .val (.int v2), .val (.int v3), .val (.int v4), .val (.int v5), .val (.int v6), .val (.int v7), .val (.int v8), .val (.int v9), .val (.int (v10 + (1 : Int32)))]) rfl ?_
      refine Wk.goto o_fillFrame_125 ?_
      exact (h10 q1 q5)

theorem rt_fillFrame (F : Nat → Int32) (G : Nat → Int64) (B : Nat → Int32 → Int64) (v0 : Int32) (xA : Nat → Int32 → Int32) (r : Int32 × (Nat → Int32 → Int32)) (e : (v0, xA) = r) : (none : Option Value) = none ∧ (7, F, G, xA, B) = (7, F, G, r.2, B) := by subst e; exact ⟨rfl, rfl⟩
def lp_fillFrame : Nat → Nat → Int32 → Int32 → Int32 → Int32 → Int32 → Int32 → Int32 → Int32 → Int32 → Int32 → (Nat → Int32) → (Nat → Int32 → Int32) → Option (Int32 × (Nat → Int32 → Int32))
  | 0, _, _, _, _, _, _, _, _, _, _, _, _, _ => none
  | n + 1, tag, v1, v2, v3, v4, v5, v6, v7, v8, v9, v10, F, A => if tag = 14 then (if v5 < v2 then (if v4 < v3 then (if ((en_pickJob F A v1 v2).isSome = true) then (if (R_pickJob F A v1 v2) < 0 then some ((0 : Int32), A) else (if ((R_pickJob F A v1 v2) < (1024 : Int32)) then lp_fillFrame n 86 v1 v2 v3 v4 v5 (R_pickJob F A v1 v2) (if (v3 - v4) < ((A 6) (R_pickJob F A v1 v2)) then (v3 - v4) else ((A 6) (R_pickJob F A v1 v2))) ((R_pickJob F A v1 v2) / (128 : Int32)) ((R_pickJob F A v1 v2) % (128 : Int32)) v4 F A else none)) else none) else some ((0 : Int32), A)) else some ((0 : Int32), A)) else if tag = 86 then (if v10 < (v4 + v7) then (if v10 < (128 : Int32) then (if (¬ v10 < 0) then lp_fillFrame n 86 v1 v2 v3 v4 v5 v6 v7 v8 v9 (v10 + (1 : Int32)) F (ups (ups A 4 (ups (A 4) v10 v8)) 5 (ups (A 5) v10 v9)) else none) else (if (¬ v6 < 0) ∧ (v6 < (1024 : Int32)) then lp_fillFrame n 14 v1 v2 v3 (v4 + v7) (v5 + (1 : Int32)) 0 0 0 0 0 F (ups A 6 (ups (A 6) v6 (((A 6) v6) - v7))) else none)) else (if (¬ v6 < 0) ∧ (v6 < (1024 : Int32)) then lp_fillFrame n 14 v1 v2 v3 (v4 + v7) (v5 + (1 : Int32)) 0 0 0 0 0 F (ups A 6 (ups (A 6) v6 (((A 6) v6) - v7))) else none)) else none
theorem lp_fillFrame_z (tag : Nat) (v1 : Int32) (v2 : Int32) (v3 : Int32) (v4 : Int32) (v5 : Int32) (v6 : Int32) (v7 : Int32) (v8 : Int32) (v9 : Int32) (v10 : Int32) (F : Nat → Int32) (A : Nat → Int32 → Int32) : lp_fillFrame 0 tag v1 v2 v3 v4 v5 v6 v7 v8 v9 v10 F A = none := Eq.trans rfl rfl
theorem lp_fillFrame_14 (n : Nat) (v1 : Int32) (v2 : Int32) (v3 : Int32) (v4 : Int32) (v5 : Int32) (v6 : Int32) (v7 : Int32) (v8 : Int32) (v9 : Int32) (v10 : Int32) (F : Nat → Int32) (A : Nat → Int32 → Int32) : lp_fillFrame (n + 1) 14 v1 v2 v3 v4 v5 v6 v7 v8 v9 v10 F A = (if v5 < v2 then (if v4 < v3 then (if ((en_pickJob F A v1 v2).isSome = true) then (if (R_pickJob F A v1 v2) < 0 then some ((0 : Int32), A) else (if ((R_pickJob F A v1 v2) < (1024 : Int32)) then lp_fillFrame n 86 v1 v2 v3 v4 v5 (R_pickJob F A v1 v2) (if (v3 - v4) < ((A 6) (R_pickJob F A v1 v2)) then (v3 - v4) else ((A 6) (R_pickJob F A v1 v2))) ((R_pickJob F A v1 v2) / (128 : Int32)) ((R_pickJob F A v1 v2) % (128 : Int32)) v4 F A else none)) else none) else some ((0 : Int32), A)) else some ((0 : Int32), A)) := by
  rw [lp_fillFrame, if_pos rfl]
theorem lp_fillFrame_86 (n : Nat) (v1 : Int32) (v2 : Int32) (v3 : Int32) (v4 : Int32) (v5 : Int32) (v6 : Int32) (v7 : Int32) (v8 : Int32) (v9 : Int32) (v10 : Int32) (F : Nat → Int32) (A : Nat → Int32 → Int32) : lp_fillFrame (n + 1) 86 v1 v2 v3 v4 v5 v6 v7 v8 v9 v10 F A = (if v10 < (v4 + v7) then (if v10 < (128 : Int32) then (if (¬ v10 < 0) then lp_fillFrame n 86 v1 v2 v3 v4 v5 v6 v7 v8 v9 (v10 + (1 : Int32)) F (ups (ups A 4 (ups (A 4) v10 v8)) 5 (ups (A 5) v10 v9)) else none) else (if (¬ v6 < 0) ∧ (v6 < (1024 : Int32)) then lp_fillFrame n 14 v1 v2 v3 (v4 + v7) (v5 + (1 : Int32)) 0 0 0 0 0 F (ups A 6 (ups (A 6) v6 (((A 6) v6) - v7))) else none)) else (if (¬ v6 < 0) ∧ (v6 < (1024 : Int32)) then lp_fillFrame n 14 v1 v2 v3 (v4 + v7) (v5 + (1 : Int32)) 0 0 0 0 0 F (ups A 6 (ups (A 6) v6 (((A 6) v6) - v7))) else none)) := by
  rw [lp_fillFrame, if_neg (by decide), if_pos rfl]
set_option maxRecDepth 65536 in
set_option maxHeartbeats 4000000 in
theorem lpw_fillFrame {l : Launch} {Z : State} {a0 : Array Value} (H : OK Z a0) (F : Nat → Int32) (G : Nat → Int64) (B : Nat → Int32 → Int64) : ∀ (n : Nat) (v1 : Int32) (v2 : Int32) (v3 : Int32) (v4 : Int32) (v5 : Int32) (v6 : Int32) (v7 : Int32) (v8 : Int32) (v9 : Int32) (v10 : Int32) (A : Nat → Int32 → Int32) (r : Int32 × (Nat → Int32 → Int32)), (lp_fillFrame n 14 v1 v2 v3 v4 v5 v6 v7 v8 v9 v10 F A = some r → Wk l Z (MoC Z cdC) md_fillFrame 14 [.val (.ref 0), .val (.int v1), .val (.int v2), .val (.int v3), .val (.int v4), .val (.int v5), .unset, .unset, .unset, .unset, .unset] [] (7, F, G, A, B) 0 0 (fun v w' => v = none ∧ w' = (7, F, G, r.2, B))) ∧ (lp_fillFrame n 86 v1 v2 v3 v4 v5 v6 v7 v8 v9 v10 F A = some r → Wk l Z (MoC Z cdC) md_fillFrame 86 [.val (.ref 0), .val (.int v1), .val (.int v2), .val (.int v3), .val (.int v4), .val (.int v5), .val (.int v6), .val (.int v7), .val (.int v8), .val (.int v9), .val (.int v10)] [] (7, F, G, A, B) 0 0 (fun v w' => v = none ∧ w' = (7, F, G, r.2, B))) := by
  intro n
  induction n with
  | zero =>
    intro v1 v2 v3 v4 v5 v6 v7 v8 v9 v10 A r
    exact ⟨(fun h => by rw [lp_fillFrame_z] at h; cases h), (fun h => by rw [lp_fillFrame_z] at h; cases h)⟩
  | succ n ih =>
    intro v1 v2 v3 v4 v5 v6 v7 v8 v9 v10 A r
    refine ⟨fun h => ?_, fun h => ?_⟩
    · rw [lp_fillFrame_14] at h
      exact wp_fillFrame_14 H F G A B v1 v2 v3 v4 v5 (fun q1 => (rt_fillFrame _ _ _ _ _ r (Option.some.inj (ifn q1 h)))) (fun q1 q3 => (rt_fillFrame _ _ _ _ _ r (Option.some.inj (ifn q3 (ifp q1 h))))) (fun q1 q3 => (gd (ifp q3 (ifp q1 h))).1) (fun q1 q3 q6 => (gd (ifn q6 (gd (ifp q3 (ifp q1 h))).2)).1) (fun q1 q3 q6 => (ih _ _ _ _ _ _ _ _ _ _ _ _).2 (gd (ifn q6 (gd (ifp q3 (ifp q1 h))).2)).2) (fun q1 q3 q6 => (rt_fillFrame _ _ _ _ _ r (Option.some.inj (ifp q6 (gd (ifp q3 (ifp q1 h))).2))))
    · rw [lp_fillFrame_86] at h
      exact wp_fillFrame_86 H F G A B v1 v2 v3 v4 v5 v6 v7 v8 v9 v10 (fun q1 => (gd (ifn q1 h)).1.1) (fun q1 => (gd (ifn q1 h)).1.2) (fun q1 => (ih _ _ _ _ _ _ _ _ _ _ _ _).1 (gd (ifn q1 h)).2) (fun q1 q5 => (gd (ifn q5 (ifp q1 h))).1.1) (fun q1 q5 => (gd (ifn q5 (ifp q1 h))).1.2) (fun q1 q5 => (ih _ _ _ _ _ _ _ _ _ _ _ _).1 (gd (ifn q5 (ifp q1 h))).2) (fun q1 q5 => (gd (ifp q5 (ifp q1 h))).1) (fun q1 q5 => (ih _ _ _ _ _ _ _ _ _ _ _ _).2 (gd (ifp q5 (ifp q1 h))).2)
def en_fillFrame (F : Nat → Int32) (A : Nat → Int32 → Int32) (p1 : Int32) (p2 : Int32) : Option (Int32 × (Nat → Int32 → Int32)) := lp_fillFrame 5000 14 p1 p2 ((p1 + (1 : Int32)) * p2) (p1 * p2) (0 : Int32) 0 0 0 0 0 F A
theorem een_fillFrame (F : Nat → Int32) (A : Nat → Int32 → Int32) (p1 : Int32) (p2 : Int32) : en_fillFrame F A p1 p2 = lp_fillFrame 5000 14 p1 p2 ((p1 + (1 : Int32)) * p2) (p1 * p2) (0 : Int32) 0 0 0 0 0 F A := Eq.trans rfl rfl
def R_fillFrame (F : Nat → Int32) (A : Nat → Int32 → Int32) (p1 : Int32) (p2 : Int32) : Int32 × (Nat → Int32 → Int32) := (en_fillFrame F A p1 p2).getD (0, (fun _ _ => 0))
theorem eR_fillFrame (F : Nat → Int32) (A : Nat → Int32 → Int32) (p1 : Int32) (p2 : Int32) : R_fillFrame F A p1 p2 = (en_fillFrame F A p1 p2).getD (0, (fun _ _ => 0)) := Eq.trans rfl rfl
set_option maxRecDepth 65536 in
set_option maxHeartbeats 4000000 in
theorem run_fillFrame {l : Launch} {Z : State} {a0 : Array Value} (H : OK Z a0) (F : Nat → Int32) (G : Nat → Int64) (A : Nat → Int32 → Int32) (B : Nat → Int32 → Int64) (p1 : Int32) (p2 : Int32) (e1 : (en_fillFrame F A p1 p2).isSome = true) :
    Wk l Z (MoC Z cdC) md_fillFrame 0 [.val (.ref 0), .val (.int p1), .val (.int p2), .unset, .unset, .unset, .unset, .unset, .unset, .unset, .unset] [] (7, F, G, A, B) 0 0 (fun v w' => v = none ∧ w' = (7, F, G, (R_fillFrame F A p1 p2).2, B)) := by
  obtain ⟨r, h⟩ := Option.isSome_iff_exists.mp e1
  have e : R_fillFrame F A p1 p2 = r := (eR_fillFrame F A p1 p2).trans (getD_some h)
  rw [e]
  rw [een_fillFrame] at h
  exact wp_fillFrame H F G A B p1 p2 ((lpw_fillFrame H F G B _ _ _ _ _ _ _ _ _ _ _ _ _).1 h)
set_option maxRecDepth 65536 in
set_option maxHeartbeats 4000000 in
theorem wp_findMiss {l : Launch} {Z : State} {a0 : Array Value} (H : OK Z a0) (F : Nat → Int32) (G : Nat → Int64) (A : Nat → Int32 → Int32) (B : Nat → Int32 → Int64) {Q : Option Value → WO → Prop} (h1 : Wk l Z (MoC Z cdC) md_findMiss 6 [.val (.ref 0), .val (.int (-1 : Int32)), .val (.int (0 : Int32)), .val (.int (0 : Int32)), .unset, .unset, .unset, .unset] [] (7, F, G, A, B) 0 0 Q) :
    Wk l Z (MoC Z cdC) md_findMiss 0 [.val (.ref 0), .unset, .unset, .unset, .unset, .unset, .unset, .unset] [] (7, F, G, A, B) 0 0 Q := by
  refine Wk.iconst o_findMiss_0 (z := (-1 : Int32)) (by decide) ?_
  refine Wk.istoreN o_findMiss_1 (Or.inl rfl) (L' := [.val (.ref 0), .val (.int (-1 : Int32)), .unset, .unset, .unset, .unset, .unset, .unset]) rfl ?_
  refine Wk.iconst o_findMiss_2 (z := (0 : Int32)) (by decide) ?_
  refine Wk.istoreN o_findMiss_3 (Or.inl rfl) (L' := [.val (.ref 0), .val (.int (-1 : Int32)), .val (.int (0 : Int32)), .unset, .unset, .unset, .unset, .unset]) rfl ?_
  refine Wk.iconst o_findMiss_4 (z := (0 : Int32)) (by decide) ?_
  refine Wk.istoreN o_findMiss_5 (Or.inl rfl) (L' := [.val (.ref 0), .val (.int (-1 : Int32)), .val (.int (0 : Int32)), .val (.int (0 : Int32)), .unset, .unset, .unset, .unset]) rfl ?_
  exact h1

set_option maxRecDepth 65536 in
set_option maxHeartbeats 4000000 in
theorem wp_findMiss_6 {l : Launch} {Z : State} {a0 : Array Value} (H : OK Z a0) (F : Nat → Int32) (G : Nat → Int64) (A : Nat → Int32 → Int32) (B : Nat → Int32 → Int64) (v1 : Int32) (v2 : Int32) (v3 : Int32) {Q : Option Value → WO → Prop} (h2 : ¬ v3 < (F 2) → Q (some (.int v1)) (7, F, G, A, B)) (s3 : v3 < (F 2) → ¬ v3 < 0) (s4 : v3 < (F 2) → v3 < (8 : Int32)) (s5 : v3 < (F 2) → ¬ ((A 0) v3) = (0 : Int32)) (h6 : v3 < (F 2) → Wk l Z (MoC Z cdC) md_findMiss 30 [.val (.ref 0), .val (.int v1), .val (.int v2), .val (.int v3), .val (.int ((F 3) / ((A 0) v3))), .val (.int (0 : Int32)), .unset, .unset] [] (7, F, G, A, B) 0 0 Q) :
    Wk l Z (MoC Z cdC) md_findMiss 6 [.val (.ref 0), .val (.int v1), .val (.int v2), .val (.int v3), .unset, .unset, .unset, .unset] [] (7, F, G, A, B) 0 0 Q := by
  refine Wk.iloadN o_findMiss_6 rfl ?_
  refine Wk.aloadN o_findMiss_7 rfl ?_
  refine Wk.getI (mI_count) (wf_count H) o_findMiss_8 (x := (F 2)) rfl ?_
  refine Wk.icmp_ge o_findMiss_11 (fun q1 => ?_) (fun q1 => ?_)
  · refine Wk.iloadN o_findMiss_114 rfl ?_
    exact Wk.ireturn mrC rfl o_findMiss_115 rfl (by decide) (by decide) (h2 q1)
  · refine Wk.aloadN o_findMiss_14 rfl ?_
    refine Wk.getI (mI_hyper) (wf_hyper H) o_findMiss_15 (x := (F 3)) rfl ?_
    refine Wk.aloadN o_findMiss_18 rfl ?_
    refine Wk.getA (mA_per) (by decide) (i' := 1) rfl (wf_per H) o_findMiss_19 ?_
    refine Wk.iloadN o_findMiss_22 rfl ?_
    refine Wk.iaload (mA_per) (by decide) (i' := 1) rfl (s3 q1) (s4 q1) o_findMiss_23 (y := ((A 0) v3)) rfl ?_
    refine Wk.idiv o_findMiss_24 (s5 q1) ?_
    refine Wk.istore o_findMiss_25 (Or.inl rfl) (L' := [.val (.ref 0), .val (.int v1), .val (.int v2), .val (.int v3), .val (.int ((F 3) / ((A 0) v3))), .unset, .unset, .unset]) rfl ?_
    refine Wk.iconst o_findMiss_27 (z := (0 : Int32)) (by decide) ?_
    refine Wk.istore o_findMiss_28 (Or.inl rfl) (L' := [.val (.ref 0), .val (.int v1), .val (.int v2), .val (.int v3), .val (.int ((F 3) / ((A 0) v3))), .val (.int (0 : Int32)), .unset, .unset]) rfl ?_
    exact (h6 q1)

set_option maxRecDepth 65536 in
set_option maxHeartbeats 4000000 in
theorem wp_findMiss_30 {l : Launch} {Z : State} {a0 : Array Value} (H : OK Z a0) (F : Nat → Int32) (G : Nat → Int64) (A : Nat → Int32 → Int32) (B : Nat → Int32 → Int64) (v1 : Int32) (v2 : Int32) (v3 : Int32) (v4 : Int32) (v5 : Int32) {Q : Option Value → WO → Prop} (h2 : ¬ v5 < v4 → Wk l Z (MoC Z cdC) md_findMiss 6 [.val (.ref 0), .val (.int v1), .val (.int v2), .val (.int (v3 + (1 : Int32))), .unset, .unset, .unset, .unset] [] (7, F, G, A, B) 0 0 Q) (h4 : v5 < v4 → ¬ v5 < (128 : Int32) → Wk l Z (MoC Z cdC) md_findMiss 6 [.val (.ref 0), .val (.int v1), .val (.int v2), .val (.int (v3 + (1 : Int32))), .unset, .unset, .unset, .unset] [] (7, F, G, A, B) 0 0 Q) (s5 : v5 < v4 → v5 < (128 : Int32) → ¬ ((v3 * (128 : Int32)) + v5) < 0) (s6 : v5 < v4 → v5 < (128 : Int32) → ((v3 * (128 : Int32)) + v5) < (1024 : Int32)) (s8 : v5 < v4 → v5 < (128 : Int32) → 0 < ((A 6) ((v3 * (128 : Int32)) + v5)) → ¬ v3 < 0) (s9 : v5 < v4 → v5 < (128 : Int32) → 0 < ((A 6) ((v3 * (128 : Int32)) + v5)) → v3 < (8 : Int32)) (h15 : v5 < v4 → v5 < (128 : Int32) → Wk l Z (MoC Z cdC) md_findMiss 30 [.val (.ref 0), .val (.int (if 0 < ((A 6) ((v3 * (128 : Int32)) + v5)) then (if v1 < 0 then ((v3 * (128 : Int32)) + v5) else (if ((v5 * ((A 0) v3)) + ((A 2) v3)) < v2 then ((v3 * (128 : Int32)) + v5) else v1)) else v1)), .val (.int (if 0 < ((A 6) ((v3 * (128 : Int32)) + v5)) then (if v1 < 0 then ((v5 * ((A 0) v3)) + ((A 2) v3)) else (if ((v5 * ((A 0) v3)) + ((A 2) v3)) < v2 then ((v5 * ((A 0) v3)) + ((A 2) v3)) else v2)) else v2)), .val (.int v3), .val (.int v4), .val (.int (v5 + (1 : Int32))), .unset, .unset] [] (7, F, G, A, B) 0 0 Q) :
    Wk l Z (MoC Z cdC) md_findMiss 30 [.val (.ref 0), .val (.int v1), .val (.int v2), .val (.int v3), .val (.int v4), .val (.int v5), .unset, .unset] [] (7, F, G, A, B) 0 0 Q := by
  refine Wk.iload o_findMiss_30 rfl ?_
  refine Wk.iload o_findMiss_32 rfl ?_
  refine Wk.icmp_ge o_findMiss_34 (fun q1 => ?_) (fun q1 => ?_)
  · refine Wk.iinc o_findMiss_108 rfl (z := (v3 + (1 : Int32))) rfl (L' := [.val (.ref 0), .val (.int v1), .val (.int v2), .val (.int (v3 + (1 : Int32))), .val (.int v4), .val (.int v5), .unset, .unset]) rfl ?_
    refine Wk.goto o_findMiss_111 ?_
    refine Wk.forget [false, false, false, false, true, true, false, false] (L' := [.val (.ref 0), .val (.int v1), .val (.int v2), .val (.int (v3 + (1 : Int32))), .unset, .unset, .unset, .unset]) rfl rfl ?_
    exact (h2 q1)
  · refine Wk.iload o_findMiss_37 rfl ?_
    refine Wk.sipush o_findMiss_39 (z := (128 : Int32)) (by decide) ?_
    refine Wk.icmp_ge o_findMiss_42 (fun q3 => ?_) (fun q3 => ?_)
    · refine Wk.iinc o_findMiss_108 rfl (z := (v3 + (1 : Int32))) rfl (L' := [.val (.ref 0), .val (.int v1), .val (.int v2), .val (.int (v3 + (1 : Int32))), .val (.int v4), .val (.int v5), .unset, .unset]) rfl ?_
      refine Wk.goto o_findMiss_111 ?_
      refine Wk.forget [false, false, false, false, true, true, false, false] (L' := [.val (.ref 0), .val (.int v1), .val (.int v2), .val (.int (v3 + (1 : Int32))), .unset, .unset, .unset, .unset]) rfl rfl ?_
      exact (h4 q1 q3)
    · refine Wk.iloadN o_findMiss_45 rfl ?_
      refine Wk.sipush o_findMiss_46 (z := (128 : Int32)) (by decide) ?_
      refine Wk.imul o_findMiss_49 ?_
      refine Wk.iload o_findMiss_50 rfl ?_
      refine Wk.iadd o_findMiss_52 ?_
      refine Wk.istore o_findMiss_53 (Or.inl rfl) (L' := [.val (.ref 0), .val (.int v1), .val (.int v2), .val (.int v3), .val (.int v4), .val (.int v5), .val (.int ((v3 * (128 : Int32)) + v5)), .unset]) rfl ?_
      refine Wk.aloadN o_findMiss_55 rfl ?_
      refine Wk.getA (mA_rem) (by decide) (i' := 7) rfl (wf_rem H) o_findMiss_56 ?_
      refine Wk.iload o_findMiss_59 rfl ?_
      refine Wk.iaload (mA_rem) (by decide) (i' := 7) rfl (s5 q1 q3) (s6 q1 q3) o_findMiss_61 (y := ((A 6) ((v3 * (128 : Int32)) + v5))) rfl ?_
      have J14 : Wk l Z (MoC Z cdC) md_findMiss 102 [.val (.ref 0), .val (.int (if 0 < ((A 6) ((v3 * (128 : Int32)) + v5)) then (if v1 < 0 then ((v3 * (128 : Int32)) + v5) else (if ((v5 * ((A 0) v3)) + ((A 2) v3)) < v2 then ((v3 * (128 : Int32)) + v5) else v1)) else v1)), .val (.int (if 0 < ((A 6) ((v3 * (128 : Int32)) + v5)) then (if v1 < 0 then ((v5 * ((A 0) v3)) + ((A 2) v3)) else (if ((v5 * ((A 0) v3)) + ((A 2) v3)) < v2 then ((v5 * ((A 0) v3)) + ((A 2) v3)) else v2)) else v2)), .val (.int v3), .val (.int v4), .val (.int v5), .val (.int ((v3 * (128 : Int32)) + v5)), .unset] [] (7, F, G, A, B) 0 0 Q := by
        refine Wk.iinc o_findMiss_102 rfl (z := (v5 + (1 : Int32))) rfl (L' := [.val (.ref 0), .val (.int (if 0 < ((A 6) ((v3 * (128 : Int32)) + v5)) then (if v1 < 0 then ((v3 * (128 : Int32)) + v5) else (if ((v5 * ((A 0) v3)) + ((A 2) v3)) < v2 then ((v3 * (128 : Int32)) + v5) else v1)) else v1)), .val (.int (if 0 < ((A 6) ((v3 * (128 : Int32)) + v5)) then (if v1 < 0 then ((v5 * ((A 0) v3)) + ((A 2) v3)) else (if ((v5 * ((A 0) v3)) + ((A 2) v3)) < v2 then ((v5 * ((A 0) v3)) + ((A 2) v3)) else v2)) else v2)), .val (.int v3), .val (.int v4), .val (.int (v5 + (1 : Int32))), .val (.int ((v3 * (128 : Int32)) + v5)), .unset]) rfl ?_
        refine Wk.goto o_findMiss_105 ?_
        refine Wk.forget [false, false, false, false, false, false, true, false] (L' := [.val (.ref 0), .val (.int (if 0 < ((A 6) ((v3 * (128 : Int32)) + v5)) then (if v1 < 0 then ((v3 * (128 : Int32)) + v5) else (if ((v5 * ((A 0) v3)) + ((A 2) v3)) < v2 then ((v3 * (128 : Int32)) + v5) else v1)) else v1)), .val (.int (if 0 < ((A 6) ((v3 * (128 : Int32)) + v5)) then (if v1 < 0 then ((v5 * ((A 0) v3)) + ((A 2) v3)) else (if ((v5 * ((A 0) v3)) + ((A 2) v3)) < v2 then ((v5 * ((A 0) v3)) + ((A 2) v3)) else v2)) else v2)), .val (.int v3), .val (.int v4), .val (.int (v5 + (1 : Int32))), .unset, .unset]) rfl rfl ?_
        exact (h15 q1 q3)
      refine Wk.if_gt o_findMiss_62 (fun q7 => ?_) (fun q7 => ?_)
      · refine Wk.iload o_findMiss_68 rfl ?_
        refine Wk.aloadN o_findMiss_70 rfl ?_
        refine Wk.getA (mA_per) (by decide) (i' := 1) rfl (wf_per H) o_findMiss_71 ?_
        refine Wk.iloadN o_findMiss_74 rfl ?_
        refine Wk.iaload (mA_per) (by decide) (i' := 1) rfl (s8 q1 q3 q7) (s9 q1 q3 q7) o_findMiss_75 (y := ((A 0) v3)) rfl ?_
        refine Wk.imul o_findMiss_76 ?_
        refine Wk.aloadN o_findMiss_77 rfl ?_
        refine Wk.getA (mA_dl) (by decide) (i' := 3) rfl (wf_dl H) o_findMiss_78 ?_
        refine Wk.iloadN o_findMiss_81 rfl ?_
        refine Wk.iaload (mA_dl) (by decide) (i' := 3) rfl (s8 q1 q3 q7) (s9 q1 q3 q7) o_findMiss_82 (y := ((A 2) v3)) rfl ?_
        refine Wk.iadd o_findMiss_83 ?_
        refine Wk.istore o_findMiss_84 (Or.inl rfl) (L' := [.val (.ref 0), .val (.int v1), .val (.int v2), .val (.int v3), .val (.int v4), .val (.int v5), .val (.int ((v3 * (128 : Int32)) + v5)), .val (.int ((v5 * ((A 0) v3)) + ((A 2) v3)))]) rfl ?_
        refine Wk.iloadN o_findMiss_86 rfl ?_
        refine Wk.if_lt o_findMiss_87 (fun q10 => ?_) (fun q10 => ?_)
        · refine Wk.iload o_findMiss_96 rfl ?_
          refine Wk.istoreN o_findMiss_98 (Or.inr ⟨_, rfl, rfl⟩) (L' := [.val (.ref 0), .val (.int ((v3 * (128 : Int32)) + v5)), .val (.int v2), .val (.int v3), .val (.int v4), .val (.int v5), .val (.int ((v3 * (128 : Int32)) + v5)), .val (.int ((v5 * ((A 0) v3)) + ((A 2) v3)))]) rfl ?_
          refine Wk.iload o_findMiss_99 rfl ?_
          refine Wk.istoreN o_findMiss_101 (Or.inr ⟨_, rfl, rfl⟩) (L' := [.val (.ref 0), .val (.int ((v3 * (128 : Int32)) + v5)), .val (.int ((v5 * ((A 0) v3)) + ((A 2) v3))), .val (.int v3), .val (.int v4), .val (.int v5), .val (.int ((v3 * (128 : Int32)) + v5)), .val (.int ((v5 * ((A 0) v3)) + ((A 2) v3)))]) rfl ?_
          refine Wk.forget [false, false, false, false, false, false, false, true] (L' := [.val (.ref 0), .val (.int ((v3 * (128 : Int32)) + v5)), .val (.int ((v5 * ((A 0) v3)) + ((A 2) v3))), .val (.int v3), .val (.int v4), .val (.int v5), .val (.int ((v3 * (128 : Int32)) + v5)), .unset]) rfl rfl ?_
          first | (rw [show ((if 0 < ((A 6) ((v3 * (128 : Int32)) + v5)) then (if v1 < 0 then ((v3 * (128 : Int32)) + v5) else (if ((v5 * ((A 0) v3)) + ((A 2) v3)) < v2 then ((v3 * (128 : Int32)) + v5) else v1)) else v1) : Int32) = ((v3 * (128 : Int32)) + v5) from Eq.trans (if_pos q7) <| if_pos q10, show ((if 0 < ((A 6) ((v3 * (128 : Int32)) + v5)) then (if v1 < 0 then ((v5 * ((A 0) v3)) + ((A 2) v3)) else (if ((v5 * ((A 0) v3)) + ((A 2) v3)) < v2 then ((v5 * ((A 0) v3)) + ((A 2) v3)) else v2)) else v2) : Int32) = ((v5 * ((A 0) v3)) + ((A 2) v3)) from Eq.trans (if_pos q7) <| if_pos q10] at J14; exact J14) | exact J14 | (simp only [if_pos q7, if_pos q10] at J14 ⊢; exact J14)
        · refine Wk.iload o_findMiss_90 rfl ?_
          refine Wk.iloadN o_findMiss_92 rfl ?_
          refine Wk.icmp_ge o_findMiss_93 (fun q11 => ?_) (fun q11 => ?_)
          · refine Wk.forget [false, false, false, false, false, false, false, true] (L' := [.val (.ref 0), .val (.int v1), .val (.int v2), .val (.int v3), .val (.int v4), .val (.int v5), .val (.int ((v3 * (128 : Int32)) + v5)), .unset]) rfl rfl ?_
            first | (rw [show ((if 0 < ((A 6) ((v3 * (128 : Int32)) + v5)) then (if v1 < 0 then ((v3 * (128 : Int32)) + v5) else (if ((v5 * ((A 0) v3)) + ((A 2) v3)) < v2 then ((v3 * (128 : Int32)) + v5) else v1)) else v1) : Int32) = v1 from Eq.trans (if_pos q7) <| Eq.trans (if_neg q10) <| if_neg q11, show ((if 0 < ((A 6) ((v3 * (128 : Int32)) + v5)) then (if v1 < 0 then ((v5 * ((A 0) v3)) + ((A 2) v3)) else (if ((v5 * ((A 0) v3)) + ((A 2) v3)) < v2 then ((v5 * ((A 0) v3)) + ((A 2) v3)) else v2)) else v2) : Int32) = v2 from Eq.trans (if_pos q7) <| Eq.trans (if_neg q10) <| if_neg q11] at J14; exact J14) | exact J14 | (simp only [if_pos q7, if_neg q10, if_neg q11] at J14 ⊢; exact J14)
          · refine Wk.iload o_findMiss_96 rfl ?_
            refine Wk.istoreN o_findMiss_98 (Or.inr ⟨_, rfl, rfl⟩) (L' := [.val (.ref 0), .val (.int ((v3 * (128 : Int32)) + v5)), .val (.int v2), .val (.int v3), .val (.int v4), .val (.int v5), .val (.int ((v3 * (128 : Int32)) + v5)), .val (.int ((v5 * ((A 0) v3)) + ((A 2) v3)))]) rfl ?_
            refine Wk.iload o_findMiss_99 rfl ?_
            refine Wk.istoreN o_findMiss_101 (Or.inr ⟨_, rfl, rfl⟩) (L' := [.val (.ref 0), .val (.int ((v3 * (128 : Int32)) + v5)), .val (.int ((v5 * ((A 0) v3)) + ((A 2) v3))), .val (.int v3), .val (.int v4), .val (.int v5), .val (.int ((v3 * (128 : Int32)) + v5)), .val (.int ((v5 * ((A 0) v3)) + ((A 2) v3)))]) rfl ?_
            refine Wk.forget [false, false, false, false, false, false, false, true] (L' := [.val (.ref 0), .val (.int ((v3 * (128 : Int32)) + v5)), .val (.int ((v5 * ((A 0) v3)) + ((A 2) v3))), .val (.int v3), .val (.int v4), .val (.int v5), .val (.int ((v3 * (128 : Int32)) + v5)), .unset]) rfl rfl ?_
            first | (rw [show ((if 0 < ((A 6) ((v3 * (128 : Int32)) + v5)) then (if v1 < 0 then ((v3 * (128 : Int32)) + v5) else (if ((v5 * ((A 0) v3)) + ((A 2) v3)) < v2 then ((v3 * (128 : Int32)) + v5) else v1)) else v1) : Int32) = ((v3 * (128 : Int32)) + v5) from Eq.trans (if_pos q7) <| Eq.trans (if_neg q10) <| if_pos q11, show ((if 0 < ((A 6) ((v3 * (128 : Int32)) + v5)) then (if v1 < 0 then ((v5 * ((A 0) v3)) + ((A 2) v3)) else (if ((v5 * ((A 0) v3)) + ((A 2) v3)) < v2 then ((v5 * ((A 0) v3)) + ((A 2) v3)) else v2)) else v2) : Int32) = ((v5 * ((A 0) v3)) + ((A 2) v3)) from Eq.trans (if_pos q7) <| Eq.trans (if_neg q10) <| if_pos q11] at J14; exact J14) | exact J14 | (simp only [if_pos q7, if_neg q10, if_pos q11] at J14 ⊢; exact J14)
      · refine Wk.goto o_findMiss_65 ?_
        first | (rw [show ((if 0 < ((A 6) ((v3 * (128 : Int32)) + v5)) then (if v1 < 0 then ((v3 * (128 : Int32)) + v5) else (if ((v5 * ((A 0) v3)) + ((A 2) v3)) < v2 then ((v3 * (128 : Int32)) + v5) else v1)) else v1) : Int32) = v1 from if_neg q7, show ((if 0 < ((A 6) ((v3 * (128 : Int32)) + v5)) then (if v1 < 0 then ((v5 * ((A 0) v3)) + ((A 2) v3)) else (if ((v5 * ((A 0) v3)) + ((A 2) v3)) < v2 then ((v5 * ((A 0) v3)) + ((A 2) v3)) else v2)) else v2) : Int32) = v2 from if_neg q7] at J14; exact J14) | exact J14 | (simp only [if_neg q7] at J14 ⊢; exact J14)

theorem rt_findMiss (F : Nat → Int32) (G : Nat → Int64) (A : Nat → Int32 → Int32) (B : Nat → Int32 → Int64) (v0 : Int32) (r : Int32) (e : v0 = r) : some (Value.int v0) = some (.int r) ∧ (7, F, G, A, B) = (7, F, G, A, B) := by subst e; exact ⟨rfl, rfl⟩
def lp_findMiss : Nat → Nat → Int32 → Int32 → Int32 → Int32 → Int32 → (Nat → Int32) → (Nat → Int32 → Int32) → Option (Int32)
  | 0, _, _, _, _, _, _, _, _ => none
  | n + 1, tag, v1, v2, v3, v4, v5, F, A => if tag = 6 then (if v3 < (F 2) then (if (¬ v3 < 0) ∧ (v3 < (8 : Int32)) ∧ (¬ ((A 0) v3) = (0 : Int32)) then lp_findMiss n 30 v1 v2 v3 ((F 3) / ((A 0) v3)) (0 : Int32) F A else none) else some (v1)) else if tag = 30 then (if v5 < v4 then (if v5 < (128 : Int32) then (if (¬ ((v3 * (128 : Int32)) + v5) < 0) ∧ (((v3 * (128 : Int32)) + v5) < (1024 : Int32)) ∧ (0 < ((A 6) ((v3 * (128 : Int32)) + v5)) → ¬ v3 < 0) ∧ (0 < ((A 6) ((v3 * (128 : Int32)) + v5)) → v3 < (8 : Int32)) then lp_findMiss n 30 (if 0 < ((A 6) ((v3 * (128 : Int32)) + v5)) then (if v1 < 0 then ((v3 * (128 : Int32)) + v5) else (if ((v5 * ((A 0) v3)) + ((A 2) v3)) < v2 then ((v3 * (128 : Int32)) + v5) else v1)) else v1) (if 0 < ((A 6) ((v3 * (128 : Int32)) + v5)) then (if v1 < 0 then ((v5 * ((A 0) v3)) + ((A 2) v3)) else (if ((v5 * ((A 0) v3)) + ((A 2) v3)) < v2 then ((v5 * ((A 0) v3)) + ((A 2) v3)) else v2)) else v2) v3 v4 (v5 + (1 : Int32)) F A else none) else lp_findMiss n 6 v1 v2 (v3 + (1 : Int32)) 0 0 F A) else lp_findMiss n 6 v1 v2 (v3 + (1 : Int32)) 0 0 F A) else none
theorem lp_findMiss_z (tag : Nat) (v1 : Int32) (v2 : Int32) (v3 : Int32) (v4 : Int32) (v5 : Int32) (F : Nat → Int32) (A : Nat → Int32 → Int32) : lp_findMiss 0 tag v1 v2 v3 v4 v5 F A = none := Eq.trans rfl rfl
theorem lp_findMiss_6 (n : Nat) (v1 : Int32) (v2 : Int32) (v3 : Int32) (v4 : Int32) (v5 : Int32) (F : Nat → Int32) (A : Nat → Int32 → Int32) : lp_findMiss (n + 1) 6 v1 v2 v3 v4 v5 F A = (if v3 < (F 2) then (if (¬ v3 < 0) ∧ (v3 < (8 : Int32)) ∧ (¬ ((A 0) v3) = (0 : Int32)) then lp_findMiss n 30 v1 v2 v3 ((F 3) / ((A 0) v3)) (0 : Int32) F A else none) else some (v1)) := by
  rw [lp_findMiss, if_pos rfl]
theorem lp_findMiss_30 (n : Nat) (v1 : Int32) (v2 : Int32) (v3 : Int32) (v4 : Int32) (v5 : Int32) (F : Nat → Int32) (A : Nat → Int32 → Int32) : lp_findMiss (n + 1) 30 v1 v2 v3 v4 v5 F A = (if v5 < v4 then (if v5 < (128 : Int32) then (if (¬ ((v3 * (128 : Int32)) + v5) < 0) ∧ (((v3 * (128 : Int32)) + v5) < (1024 : Int32)) ∧ (0 < ((A 6) ((v3 * (128 : Int32)) + v5)) → ¬ v3 < 0) ∧ (0 < ((A 6) ((v3 * (128 : Int32)) + v5)) → v3 < (8 : Int32)) then lp_findMiss n 30 (if 0 < ((A 6) ((v3 * (128 : Int32)) + v5)) then (if v1 < 0 then ((v3 * (128 : Int32)) + v5) else (if ((v5 * ((A 0) v3)) + ((A 2) v3)) < v2 then ((v3 * (128 : Int32)) + v5) else v1)) else v1) (if 0 < ((A 6) ((v3 * (128 : Int32)) + v5)) then (if v1 < 0 then ((v5 * ((A 0) v3)) + ((A 2) v3)) else (if ((v5 * ((A 0) v3)) + ((A 2) v3)) < v2 then ((v5 * ((A 0) v3)) + ((A 2) v3)) else v2)) else v2) v3 v4 (v5 + (1 : Int32)) F A else none) else lp_findMiss n 6 v1 v2 (v3 + (1 : Int32)) 0 0 F A) else lp_findMiss n 6 v1 v2 (v3 + (1 : Int32)) 0 0 F A) := by
  rw [lp_findMiss, if_neg (by decide), if_pos rfl]
set_option maxRecDepth 65536 in
set_option maxHeartbeats 4000000 in
theorem lpw_findMiss {l : Launch} {Z : State} {a0 : Array Value} (H : OK Z a0) (F : Nat → Int32) (G : Nat → Int64) (A : Nat → Int32 → Int32) (B : Nat → Int32 → Int64) : ∀ (n : Nat) (v1 : Int32) (v2 : Int32) (v3 : Int32) (v4 : Int32) (v5 : Int32) (r : Int32), (lp_findMiss n 6 v1 v2 v3 v4 v5 F A = some r → Wk l Z (MoC Z cdC) md_findMiss 6 [.val (.ref 0), .val (.int v1), .val (.int v2), .val (.int v3), .unset, .unset, .unset, .unset] [] (7, F, G, A, B) 0 0 (fun v w' => v = some (.int r) ∧ w' = (7, F, G, A, B))) ∧ (lp_findMiss n 30 v1 v2 v3 v4 v5 F A = some r → Wk l Z (MoC Z cdC) md_findMiss 30 [.val (.ref 0), .val (.int v1), .val (.int v2), .val (.int v3), .val (.int v4), .val (.int v5), .unset, .unset] [] (7, F, G, A, B) 0 0 (fun v w' => v = some (.int r) ∧ w' = (7, F, G, A, B))) := by
  intro n
  induction n with
  | zero =>
    intro v1 v2 v3 v4 v5  r
    exact ⟨(fun h => by rw [lp_findMiss_z] at h; cases h), (fun h => by rw [lp_findMiss_z] at h; cases h)⟩
  | succ n ih =>
    intro v1 v2 v3 v4 v5  r
    refine ⟨fun h => ?_, fun h => ?_⟩
    · rw [lp_findMiss_6] at h
      exact wp_findMiss_6 H F G A B v1 v2 v3 (fun q1 => (rt_findMiss _ _ _ _ _ r (Option.some.inj (ifn q1 h)))) (fun q1 => (gd (ifp q1 h)).1.1) (fun q1 => (gd (ifp q1 h)).1.2.1) (fun q1 => (gd (ifp q1 h)).1.2.2) (fun q1 => (ih _ _ _ _ _ _).2 (gd (ifp q1 h)).2)
    · rw [lp_findMiss_30] at h
      exact wp_findMiss_30 H F G A B v1 v2 v3 v4 v5 (fun q1 => (ih _ _ _ _ _ _).1 (ifn q1 h)) (fun q1 q3 => (ih _ _ _ _ _ _).1 (ifn q3 (ifp q1 h))) (fun q1 q3 => (gd (ifp q3 (ifp q1 h))).1.1) (fun q1 q3 => (gd (ifp q3 (ifp q1 h))).1.2.1) (fun q1 q3 q7 => ((gd (ifp q3 (ifp q1 h))).1.2.2.1) q7) (fun q1 q3 q7 => ((gd (ifp q3 (ifp q1 h))).1.2.2.2) q7) (fun q1 q3 => (ih _ _ _ _ _ _).2 (gd (ifp q3 (ifp q1 h))).2)
def en_findMiss (F : Nat → Int32) (A : Nat → Int32 → Int32) : Option (Int32) := lp_findMiss 5000 6 (-1 : Int32) (0 : Int32) (0 : Int32) 0 0 F A
theorem een_findMiss (F : Nat → Int32) (A : Nat → Int32 → Int32) : en_findMiss F A  = lp_findMiss 5000 6 (-1 : Int32) (0 : Int32) (0 : Int32) 0 0 F A := Eq.trans rfl rfl
def R_findMiss (F : Nat → Int32) (A : Nat → Int32 → Int32) : Int32 := (en_findMiss F A ).getD (0)
theorem eR_findMiss (F : Nat → Int32) (A : Nat → Int32 → Int32) : R_findMiss F A  = (en_findMiss F A ).getD (0) := Eq.trans rfl rfl
set_option maxRecDepth 65536 in
set_option maxHeartbeats 4000000 in
theorem run_findMiss {l : Launch} {Z : State} {a0 : Array Value} (H : OK Z a0) (F : Nat → Int32) (G : Nat → Int64) (A : Nat → Int32 → Int32) (B : Nat → Int32 → Int64) (e1 : (en_findMiss F A ).isSome = true) :
    Wk l Z (MoC Z cdC) md_findMiss 0 [.val (.ref 0), .unset, .unset, .unset, .unset, .unset, .unset, .unset] [] (7, F, G, A, B) 0 0 (fun v w' => v = some (.int (R_findMiss F A )) ∧ w' = (7, F, G, A, B)) := by
  obtain ⟨r, h⟩ := Option.isSome_iff_exists.mp e1
  have e : R_findMiss F A  = r := (eR_findMiss F A ).trans (getD_some h)
  rw [e]
  rw [een_findMiss] at h
  exact wp_findMiss H F G A B  ((lpw_findMiss H F G A B _ _ _ _ _ _ _).1 h)
set_option maxRecDepth 65536 in
set_option maxHeartbeats 4000000 in
theorem wp_build {l : Launch} {Z : State} {a0 : Array Value} (H : OK Z a0) (F : Nat → Int32) (G : Nat → Int64) (A : Nat → Int32 → Int32) (B : Nat → Int32 → Int64) (p1 : Int32) {Q : Option Value → WO → Prop} (s2 : ¬ (F 2) = 0 → (en_dividesHyper F p1).isSome = true) (s4 : ¬ (F 2) = 0 → ¬ (R_dividesHyper F p1) = 0 → (en_deadlinesOk F A p1).isSome = true) (s6 : ¬ (F 2) = 0 → ¬ (R_dividesHyper F p1) = 0 → ¬ (R_deadlinesOk F A p1) = 0 → (en_initJobs F A ).isSome = true) (h7 : ¬ (F 2) = 0 → ¬ (R_dividesHyper F p1) = 0 → ¬ (R_deadlinesOk F A p1) = 0 → Wk l Z (MoC Z cdC) md_build 38 [.val (.ref 0), .val (.int p1), .val (.int (0 : Int32)), .unset] [] (7, F, G, (R_initJobs F A ).2, B) 0 0 Q) (h8 : ¬ (F 2) = 0 → ¬ (R_dividesHyper F p1) = 0 → (R_deadlinesOk F A p1) = 0 → Q (some (.int (-6 : Int32))) (7, F, G, A, B)) (h9 : ¬ (F 2) = 0 → (R_dividesHyper F p1) = 0 → Q (some (.int (-5 : Int32))) (7, F, G, A, B)) (h10 : (F 2) = 0 → Q (some (.int (-4 : Int32))) (7, F, G, A, B)) :
    Wk l Z (MoC Z cdC) md_build 0 [.val (.ref 0), .val (.int p1), .unset, .unset] [] (7, F, G, A, B) 0 0 Q := by
  refine Wk.aloadN o_build_0 rfl ?_
  refine Wk.getI (mI_count) (wf_count H) o_build_1 (x := (F 2)) rfl ?_
  refine Wk.if_ne o_build_4 (fun q1 => ?_) (fun q1 => ?_)
  · refine Wk.aloadN o_build_10 rfl ?_
    refine Wk.iloadN o_build_11 rfl ?_
    refine Wk.callF [.int p1] [] (H.w 110 rfl) (cv_dividesHyper H) o_build_12 (run_dividesHyper H F G A B p1 (s2 q1)) (wt := 0) (cu' := 0) (su' := 0) (by decide) rfl rfl rfl rfl rfl rfl rfl ?_
    refine Wk.if_ne o_build_15 (fun q3 => ?_) (fun q3 => ?_)
    · refine Wk.aloadN o_build_21 rfl ?_
      refine Wk.iloadN o_build_22 rfl ?_
      refine Wk.callF [.int p1] [] (H.w 114 rfl) (cv_deadlinesOk H) o_build_23 (run_deadlinesOk H F G A B p1 (s4 q1 q3)) (wt := 0) (cu' := 0) (su' := 0) (by decide) rfl rfl rfl rfl rfl rfl rfl ?_
      refine Wk.if_ne o_build_26 (fun q5 => ?_) (fun q5 => ?_)
      · refine Wk.aloadN o_build_32 rfl ?_
        refine Wk.callU [] [] (H.w 125 rfl) (cv_initJobs H) o_build_33 (run_initJobs H F G A B (s6 q1 q3 q5)) (wt := 0) (cu' := 0) (su' := 0) (by decide) rfl rfl rfl rfl rfl rfl rfl ?_
        refine Wk.iconst o_build_36 (z := (0 : Int32)) (by decide) ?_
        refine Wk.istoreN o_build_37 (Or.inl rfl) (L' := [.val (.ref 0), .val (.int p1), .val (.int (0 : Int32)), .unset]) rfl ?_
        exact (h7 q1 q3 q5)
      · refine Wk.bipush o_build_29 (z := (-6 : Int32)) (by decide) ?_
        exact Wk.ireturn mrC rfl o_build_31 rfl (by decide) (by decide) (h8 q1 q3 q5)
    · refine Wk.bipush o_build_18 (z := (-5 : Int32)) (by decide) ?_
      exact Wk.ireturn mrC rfl o_build_20 rfl (by decide) (by decide) (h9 q1 q3)
  · refine Wk.bipush o_build_7 (z := (-4 : Int32)) (by decide) ?_
    exact Wk.ireturn mrC rfl o_build_9 rfl (by decide) (by decide) (h10 q1)

set_option maxRecDepth 65536 in
set_option maxHeartbeats 4000000 in
theorem wp_build_38 {l : Launch} {Z : State} {a0 : Array Value} (H : OK Z a0) (F : Nat → Int32) (G : Nat → Int64) (A : Nat → Int32 → Int32) (B : Nat → Int32 → Int64) (v1 : Int32) (v2 : Int32) {Q : Option Value → WO → Prop} (s2 : ¬ v2 < (128 : Int32) → ¬ v1 = (0 : Int32)) (h3 : ¬ v2 < (128 : Int32) → Wk l Z (MoC Z cdC) md_build 74 [.val (.ref 0), .val (.int v1), .val (.int ((F 3) / v1)), .val (.int (0 : Int32))] [] (7, F, G, A, B) 0 0 Q) (s4 : v2 < (128 : Int32) → ¬ v2 < 0) (h5 : v2 < (128 : Int32) → Wk l Z (MoC Z cdC) md_build 38 [.val (.ref 0), .val (.int v1), .val (.int (v2 + (1 : Int32))), .unset] [] (7, F, G, (ups (ups A 4 (ups (A 4) v2 (-1 : Int32))) 5 (ups (A 5) v2 (-1 : Int32))), B) 0 0 Q) :
    Wk l Z (MoC Z cdC) md_build 38 [.val (.ref 0), .val (.int v1), .val (.int v2), .unset] [] (7, F, G, A, B) 0 0 Q := by
  refine Wk.iloadN o_build_38 rfl ?_
  refine Wk.sipush o_build_39 (z := (128 : Int32)) (by decide) ?_
  refine Wk.icmp_ge o_build_42 (fun q1 => ?_) (fun q1 => ?_)
  · refine Wk.aloadN o_build_65 rfl ?_
    refine Wk.getI (mI_hyper) (wf_hyper H) o_build_66 (x := (F 3)) rfl ?_
    refine Wk.iloadN o_build_69 rfl ?_
    refine Wk.idiv o_build_70 (s2 q1) ?_
    refine Wk.istoreN o_build_71 (Or.inr ⟨_, rfl, rfl⟩) (L' := [.val (.ref 0), .val (.int v1), .val (.int ((F 3) / v1)), .unset]) rfl ?_
    refine Wk.iconst o_build_72 (z := (0 : Int32)) (by decide) ?_
    refine Wk.istoreN o_build_73 (Or.inl rfl) (L' := [.val (.ref 0), .val (.int v1), .val (.int ((F 3) / v1)), .val (.int (0 : Int32))]) rfl ?_
    exact (h3 q1)
  · refine Wk.aloadN o_build_45 rfl ?_
    refine Wk.getA (mA_tickTask) (by decide) (i' := 5) rfl (wf_tickTask H) o_build_46 ?_
    refine Wk.iloadN o_build_49 rfl ?_
    refine Wk.iconst o_build_50 (z := (-1 : Int32)) (by decide) ?_
    refine Wk.iastore (coC H) (f := (A 4)) (mA_tickTask) rfl (by decide) (i' := 5) rfl (s4 q1) q1 o_build_51 ?_
    refine Wk.aloadN o_build_52 rfl ?_
    refine Wk.getA (mA_tickJob) (by decide) (i' := 6) rfl (wf_tickJob H) o_build_53 ?_
    refine Wk.iloadN o_build_56 rfl ?_
    refine Wk.iconst o_build_57 (z := (-1 : Int32)) (by decide) ?_
    refine Wk.iastore (coC H) (f := (A 5)) (mA_tickJob) rfl (by decide) (i' := 6) rfl (s4 q1) q1 o_build_58 ?_
    refine Wk.iinc o_build_59 rfl (z := (v2 + (1 : Int32))) rfl (L' := [.val (.ref 0), .val (.int v1), .val (.int (v2 + (1 : Int32))), .unset]) rfl ?_
    refine Wk.goto o_build_62 ?_
    exact (h5 q1)

set_option maxRecDepth 65536 in
set_option maxHeartbeats 4000000 in
theorem wp_build_74 {l : Launch} {Z : State} {a0 : Array Value} (H : OK Z a0) (F : Nat → Int32) (G : Nat → Int64) (A : Nat → Int32 → Int32) (B : Nat → Int32 → Int64) (v1 : Int32) (v2 : Int32) (v3 : Int32) {Q : Option Value → WO → Prop} (s2 : ¬ v3 < v2 → (en_findMiss F A ).isSome = true) (s3 : ¬ v3 < v2 → (en_resetDispatcher F A ).isSome = true) (h5 : ¬ v3 < v2 → (R_findMiss F A ) < 0 → Q (some (.int (0 : Int32))) (7, (ups (ups (ups (R_resetDispatcher F A ).2.1 4 (1 : Int32)) 5 v1) 6 (-1 : Int32)), G, (R_resetDispatcher F A ).2.2, B)) (h6 : ¬ v3 < v2 → ¬ (R_findMiss F A ) < 0 → Q (some (.int (-7 : Int32))) (7, (ups (ups (ups (R_resetDispatcher F A ).2.1 4 (0 : Int32)) 5 (0 : Int32)) 6 (R_findMiss F A )), G, (R_resetDispatcher F A ).2.2, B)) (s7 : v3 < v2 → (en_fillFrame F A v3 v1).isSome = true) (h8 : v3 < v2 → Wk l Z (MoC Z cdC) md_build 74 [.val (.ref 0), .val (.int v1), .val (.int v2), .val (.int (v3 + (1 : Int32)))] [] (7, F, G, (R_fillFrame F A v3 v1).2, B) 0 0 Q) :
    Wk l Z (MoC Z cdC) md_build 74 [.val (.ref 0), .val (.int v1), .val (.int v2), .val (.int v3)] [] (7, F, G, A, B) 0 0 Q := by
  refine Wk.iloadN o_build_74 rfl ?_
  refine Wk.iloadN o_build_75 rfl ?_
  refine Wk.icmp_ge o_build_76 (fun q1 => ?_) (fun q1 => ?_)
  · refine Wk.aloadN o_build_91 rfl ?_
    refine Wk.callF [] [] (H.w 137 rfl) (cv_findMiss H) o_build_92 (run_findMiss H F G A B (s2 q1)) (wt := 0) (cu' := 0) (su' := 0) (by decide) rfl rfl rfl rfl rfl rfl rfl ?_
    refine Wk.istoreN o_build_95 (Or.inr ⟨_, rfl, rfl⟩) (L' := [.val (.ref 0), .val (.int v1), .val (.int v2), .val (.int (R_findMiss F A ))]) rfl ?_
    refine Wk.aloadN o_build_96 rfl ?_
    refine Wk.callU [] [] (H.w 98 rfl) (cv_resetDispatcher H) o_build_97 (run_resetDispatcher H F G A B (s3 q1)) (wt := 0) (cu' := 0) (su' := 0) (by decide) rfl rfl rfl rfl rfl rfl rfl ?_
    refine Wk.iloadN o_build_100 rfl ?_
    refine Wk.if_lt o_build_101 (fun q4 => ?_) (fun q4 => ?_)
    · refine Wk.aloadN o_build_122 rfl ?_
      refine Wk.iconst o_build_123 (z := (1 : Int32)) (by decide) ?_
      refine Wk.putZ (coC H) (y := (1 : Int32)) (by decide) (mI_present) (wf_present H) (Or.inl (wy_present H)) o_build_124 ?_
      refine Wk.aloadN o_build_127 rfl ?_
      refine Wk.iloadN o_build_128 rfl ?_
      refine Wk.putI (coC H) (mI_frame) (wf_frame H) (Or.inl (wy_frame H)) o_build_129 ?_
      refine Wk.aloadN o_build_132 rfl ?_
      refine Wk.iconst o_build_133 (z := (-1 : Int32)) (by decide) ?_
      refine Wk.putI (coC H) (mI_miss) (wf_miss H) (Or.inl (wy_miss H)) o_build_134 ?_
      refine Wk.iconst o_build_137 (z := (0 : Int32)) (by decide) ?_
      exact Wk.ireturn mrC rfl o_build_138 rfl (by decide) (by decide) (h5 q1 q4)
    · refine Wk.aloadN o_build_104 rfl ?_
      refine Wk.iconst o_build_105 (z := (0 : Int32)) (by decide) ?_
      refine Wk.putZ (coC H) (y := (0 : Int32)) (by decide) (mI_present) (wf_present H) (Or.inl (wy_present H)) o_build_106 ?_
      refine Wk.aloadN o_build_109 rfl ?_
      refine Wk.iconst o_build_110 (z := (0 : Int32)) (by decide) ?_
      refine Wk.putI (coC H) (mI_frame) (wf_frame H) (Or.inl (wy_frame H)) o_build_111 ?_
      refine Wk.aloadN o_build_114 rfl ?_
      refine Wk.iloadN o_build_115 rfl ?_
      refine Wk.putI (coC H) (mI_miss) (wf_miss H) (Or.inl (wy_miss H)) o_build_116 ?_
      refine Wk.bipush o_build_119 (z := (-7 : Int32)) (by decide) ?_
      exact Wk.ireturn mrC rfl o_build_121 rfl (by decide) (by decide) (h6 q1 q4)
  · refine Wk.aloadN o_build_79 rfl ?_
    refine Wk.iloadN o_build_80 rfl ?_
    refine Wk.iloadN o_build_81 rfl ?_
    refine Wk.callU [.int v3, .int v1] [] (H.w 129 rfl) (cv_fillFrame H) o_build_82 (run_fillFrame H F G A B v3 v1 (s7 q1)) (wt := 0) (cu' := 0) (su' := 0) (by decide) rfl rfl rfl rfl rfl rfl rfl ?_
    refine Wk.iinc o_build_85 rfl (z := (v3 + (1 : Int32))) rfl (L' := [.val (.ref 0), .val (.int v1), .val (.int v2), .val (.int (v3 + (1 : Int32)))]) rfl ?_
    refine Wk.goto o_build_88 ?_
    exact (h8 q1)

theorem rt_build (G : Nat → Int64) (B : Nat → Int32 → Int64) (v0 : Int32) (xF : Nat → Int32) (xA : Nat → Int32 → Int32) (r : Int32 × (Nat → Int32) × (Nat → Int32 → Int32)) (e : (v0, xF, xA) = r) : some (Value.int v0) = some (.int r.1) ∧ (7, xF, G, xA, B) = (7, r.2.1, G, r.2.2, B) := by subst e; exact ⟨rfl, rfl⟩
def lp_build : Nat → Nat → Int32 → Int32 → Int32 → (Nat → Int32) → (Nat → Int32 → Int32) → Option (Int32 × (Nat → Int32) × (Nat → Int32 → Int32))
  | 0, _, _, _, _, _, _ => none
  | n + 1, tag, v1, v2, v3, F, A => if tag = 38 then (if v2 < (128 : Int32) then (if (¬ v2 < 0) then lp_build n 38 v1 (v2 + (1 : Int32)) 0 F (ups (ups A 4 (ups (A 4) v2 (-1 : Int32))) 5 (ups (A 5) v2 (-1 : Int32))) else none) else (if (¬ v1 = (0 : Int32)) then lp_build n 74 v1 ((F 3) / v1) (0 : Int32) F A else none)) else if tag = 74 then (if v3 < v2 then (if ((en_fillFrame F A v3 v1).isSome = true) then lp_build n 74 v1 v2 (v3 + (1 : Int32)) F (R_fillFrame F A v3 v1).2 else none) else (if ((en_findMiss F A ).isSome = true) ∧ ((en_resetDispatcher F A ).isSome = true) then (if (R_findMiss F A ) < 0 then some ((0 : Int32), (ups (ups (ups (R_resetDispatcher F A ).2.1 4 (1 : Int32)) 5 v1) 6 (-1 : Int32)), (R_resetDispatcher F A ).2.2) else some ((-7 : Int32), (ups (ups (ups (R_resetDispatcher F A ).2.1 4 (0 : Int32)) 5 (0 : Int32)) 6 (R_findMiss F A )), (R_resetDispatcher F A ).2.2)) else none)) else none
theorem lp_build_z (tag : Nat) (v1 : Int32) (v2 : Int32) (v3 : Int32) (F : Nat → Int32) (A : Nat → Int32 → Int32) : lp_build 0 tag v1 v2 v3 F A = none := Eq.trans rfl rfl
theorem lp_build_38 (n : Nat) (v1 : Int32) (v2 : Int32) (v3 : Int32) (F : Nat → Int32) (A : Nat → Int32 → Int32) : lp_build (n + 1) 38 v1 v2 v3 F A = (if v2 < (128 : Int32) then (if (¬ v2 < 0) then lp_build n 38 v1 (v2 + (1 : Int32)) 0 F (ups (ups A 4 (ups (A 4) v2 (-1 : Int32))) 5 (ups (A 5) v2 (-1 : Int32))) else none) else (if (¬ v1 = (0 : Int32)) then lp_build n 74 v1 ((F 3) / v1) (0 : Int32) F A else none)) := by
  rw [lp_build, if_pos rfl]
theorem lp_build_74 (n : Nat) (v1 : Int32) (v2 : Int32) (v3 : Int32) (F : Nat → Int32) (A : Nat → Int32 → Int32) : lp_build (n + 1) 74 v1 v2 v3 F A = (if v3 < v2 then (if ((en_fillFrame F A v3 v1).isSome = true) then lp_build n 74 v1 v2 (v3 + (1 : Int32)) F (R_fillFrame F A v3 v1).2 else none) else (if ((en_findMiss F A ).isSome = true) ∧ ((en_resetDispatcher F A ).isSome = true) then (if (R_findMiss F A ) < 0 then some ((0 : Int32), (ups (ups (ups (R_resetDispatcher F A ).2.1 4 (1 : Int32)) 5 v1) 6 (-1 : Int32)), (R_resetDispatcher F A ).2.2) else some ((-7 : Int32), (ups (ups (ups (R_resetDispatcher F A ).2.1 4 (0 : Int32)) 5 (0 : Int32)) 6 (R_findMiss F A )), (R_resetDispatcher F A ).2.2)) else none)) := by
  rw [lp_build, if_neg (by decide), if_pos rfl]
set_option maxRecDepth 65536 in
set_option maxHeartbeats 4000000 in
theorem lpw_build {l : Launch} {Z : State} {a0 : Array Value} (H : OK Z a0) (G : Nat → Int64) (B : Nat → Int32 → Int64) : ∀ (n : Nat) (v1 : Int32) (v2 : Int32) (v3 : Int32) (F : Nat → Int32) (A : Nat → Int32 → Int32) (r : Int32 × (Nat → Int32) × (Nat → Int32 → Int32)), (lp_build n 38 v1 v2 v3 F A = some r → Wk l Z (MoC Z cdC) md_build 38 [.val (.ref 0), .val (.int v1), .val (.int v2), .unset] [] (7, F, G, A, B) 0 0 (fun v w' => v = some (.int r.1) ∧ w' = (7, r.2.1, G, r.2.2, B))) ∧ (lp_build n 74 v1 v2 v3 F A = some r → Wk l Z (MoC Z cdC) md_build 74 [.val (.ref 0), .val (.int v1), .val (.int v2), .val (.int v3)] [] (7, F, G, A, B) 0 0 (fun v w' => v = some (.int r.1) ∧ w' = (7, r.2.1, G, r.2.2, B))) := by
  intro n
  induction n with
  | zero =>
    intro v1 v2 v3 F A r
    exact ⟨(fun h => by rw [lp_build_z] at h; cases h), (fun h => by rw [lp_build_z] at h; cases h)⟩
  | succ n ih =>
    intro v1 v2 v3 F A r
    refine ⟨fun h => ?_, fun h => ?_⟩
    · rw [lp_build_38] at h
      exact wp_build_38 H F G A B v1 v2 (fun q1 => (gd (ifn q1 h)).1) (fun q1 => (ih _ _ _ _ _ _).2 (gd (ifn q1 h)).2) (fun q1 => (gd (ifp q1 h)).1) (fun q1 => (ih _ _ _ _ _ _).1 (gd (ifp q1 h)).2)
    · rw [lp_build_74] at h
      exact wp_build_74 H F G A B v1 v2 v3 (fun q1 => (gd (ifn q1 h)).1.1) (fun q1 => (gd (ifn q1 h)).1.2) (fun q1 q4 => (rt_build _ _ _ _ _ r (Option.some.inj (ifp q4 (gd (ifn q1 h)).2)))) (fun q1 q4 => (rt_build _ _ _ _ _ r (Option.some.inj (ifn q4 (gd (ifn q1 h)).2)))) (fun q1 => (gd (ifp q1 h)).1) (fun q1 => (ih _ _ _ _ _ _).2 (gd (ifp q1 h)).2)
def en_build (F : Nat → Int32) (A : Nat → Int32 → Int32) (p1 : Int32) : Option (Int32 × (Nat → Int32) × (Nat → Int32 → Int32)) := (if (F 2) = 0 then some ((-4 : Int32), F, A) else (if ((en_dividesHyper F p1).isSome = true) then (if (R_dividesHyper F p1) = 0 then some ((-5 : Int32), F, A) else (if ((en_deadlinesOk F A p1).isSome = true) then (if (R_deadlinesOk F A p1) = 0 then some ((-6 : Int32), F, A) else (if ((en_initJobs F A ).isSome = true) then lp_build 5000 38 p1 (0 : Int32) 0 F (R_initJobs F A ).2 else none)) else none)) else none))
theorem een_build (F : Nat → Int32) (A : Nat → Int32 → Int32) (p1 : Int32) : en_build F A p1 = (if (F 2) = 0 then some ((-4 : Int32), F, A) else (if ((en_dividesHyper F p1).isSome = true) then (if (R_dividesHyper F p1) = 0 then some ((-5 : Int32), F, A) else (if ((en_deadlinesOk F A p1).isSome = true) then (if (R_deadlinesOk F A p1) = 0 then some ((-6 : Int32), F, A) else (if ((en_initJobs F A ).isSome = true) then lp_build 5000 38 p1 (0 : Int32) 0 F (R_initJobs F A ).2 else none)) else none)) else none)) := Eq.trans rfl rfl
def R_build (F : Nat → Int32) (A : Nat → Int32 → Int32) (p1 : Int32) : Int32 × (Nat → Int32) × (Nat → Int32 → Int32) := (en_build F A p1).getD (0, (fun _ => 0), (fun _ _ => 0))
theorem eR_build (F : Nat → Int32) (A : Nat → Int32 → Int32) (p1 : Int32) : R_build F A p1 = (en_build F A p1).getD (0, (fun _ => 0), (fun _ _ => 0)) := Eq.trans rfl rfl
set_option maxRecDepth 65536 in
set_option maxHeartbeats 4000000 in
theorem run_build {l : Launch} {Z : State} {a0 : Array Value} (H : OK Z a0) (F : Nat → Int32) (G : Nat → Int64) (A : Nat → Int32 → Int32) (B : Nat → Int32 → Int64) (p1 : Int32) (e1 : (en_build F A p1).isSome = true) :
    Wk l Z (MoC Z cdC) md_build 0 [.val (.ref 0), .val (.int p1), .unset, .unset] [] (7, F, G, A, B) 0 0 (fun v w' => v = some (.int (R_build F A p1).1) ∧ w' = (7, (R_build F A p1).2.1, G, (R_build F A p1).2.2, B)) := by
  obtain ⟨r, h⟩ := Option.isSome_iff_exists.mp e1
  have e : R_build F A p1 = r := (eR_build F A p1).trans (getD_some h)
  rw [e]
  rw [een_build] at h
  exact wp_build H F G A B p1 (fun q1 => (gd (ifn q1 h)).1) (fun q1 q3 => (gd (ifn q3 (gd (ifn q1 h)).2)).1) (fun q1 q3 q5 => (gd (ifn q5 (gd (ifn q3 (gd (ifn q1 h)).2)).2)).1) (fun q1 q3 q5 => (lpw_build H G B _ _ _ _ _ _ _).1 (gd (ifn q5 (gd (ifn q3 (gd (ifn q1 h)).2)).2)).2) (fun q1 q3 q5 => (rt_build _ _ _ _ _ r (Option.some.inj (ifp q5 (gd (ifn q3 (gd (ifn q1 h)).2)).2)))) (fun q1 q3 => (rt_build _ _ _ _ _ r (Option.some.inj (ifp q3 (gd (ifn q1 h)).2)))) (fun q1 => (rt_build _ _ _ _ _ r (Option.some.inj (ifp q1 h))))
set_option maxRecDepth 65536 in
set_option maxHeartbeats 4000000 in
theorem wp_L_fld {l : Launch} {Z : State} {a0 : Array Value} (H : OK Z a0) (sl : Int32) (sv : Int32 → Int32) (ws : List WO) (p1 : Int64) (p2 : Int32) {Q : Option Value → WL → Prop} (h1 : Q (some (.int (((XT.ushrL p1 ((8 : Int32) * p2)) &&& (255 : Int64)).toInt32))) (sl, sv, ws)) :
    Wk l Z (MoL Z cdC "CyclicExecutiveL6" true) md_L_fld 0 [.val (.long p1), .second, .val (.int p2)] [] (sl, sv, ws) 0 0 Q := by
  refine Wk.lloadN o_L_fld_0 rfl ?_
  refine Wk.bipush o_L_fld_1 (z := (8 : Int32)) (by decide) ?_
  refine Wk.iloadN o_L_fld_3 rfl ?_
  refine Wk.imul o_L_fld_4 ?_
  refine Wk.lushr o_L_fld_5 ?_
  refine Wk.ldc2 o_L_fld_6 (z := (255 : Int64)) (H.w 124 rfl) ?_
  refine Wk.land o_L_fld_9 ?_
  refine Wk.l2i o_L_fld_10 ?_
  exact Wk.ireturn mrL rfl o_L_fld_11 rfl (by decide) (by decide) h1
def f_L_fld (p1 : Int64) (p2 : Int32) : Int32 := (((XT.ushrL p1 ((8 : Int32) * p2)) &&& (255 : Int64)).toInt32)
theorem e_L_fld (p1 : Int64) (p2 : Int32) : f_L_fld p1 p2 = (((XT.ushrL p1 ((8 : Int32) * p2)) &&& (255 : Int64)).toInt32) := Eq.trans rfl rfl
theorem run_L_fld {l : Launch} {Z : State} {a0 : Array Value} (H : OK Z a0) (sl : Int32) (sv : Int32 → Int32) (ws : List WO) (p1 : Int64) (p2 : Int32) :
    Wk l Z (MoL Z cdC "CyclicExecutiveL6" true) md_L_fld 0 [.val (.long p1), .second, .val (.int p2)] [] (sl, sv, ws) 0 0 (fun v w2 => v = some (.int (f_L_fld p1 p2)) ∧ w2 = (sl, sv, ws)) :=
  wp_L_fld H sl sv ws p1 p2 ⟨rfl, rfl⟩
set_option maxRecDepth 65536 in
set_option maxHeartbeats 4000000 in
theorem wp_getMiss {l : Launch} {Z : State} {a0 : Array Value} (H : OK Z a0) (F : Nat → Int32) (G : Nat → Int64) (A : Nat → Int32 → Int32) (B : Nat → Int32 → Int64) {Q : Option Value → WO → Prop} (h1 : Q (some (.int (F 6))) (7, F, G, A, B)) :
    Wk l Z (MoC Z cdC) md_getMiss 0 [.val (.ref 0)] [] (7, F, G, A, B) 0 0 Q := by
  refine Wk.aloadN o_getMiss_0 rfl ?_
  refine Wk.getI (mI_miss) (wf_miss H) o_getMiss_1 (x := (F 6)) rfl ?_
  exact Wk.ireturn mrC rfl o_getMiss_4 rfl (by decide) (by decide) h1

def f_getMiss (F : Nat → Int32) : Int32 := (F 6)
theorem e_getMiss (F : Nat → Int32) : f_getMiss F = (F 6) := Eq.trans rfl rfl
theorem run_getMiss {l : Launch} {Z : State} {a0 : Array Value} (H : OK Z a0) (F : Nat → Int32) (G : Nat → Int64) (A : Nat → Int32 → Int32) (B : Nat → Int32 → Int64) :
    Wk l Z (MoC Z cdC) md_getMiss 0 [.val (.ref 0)] [] (7, F, G, A, B) 0 0 (fun v w' => v = some (.int (f_getMiss F)) ∧ w' = (7, F, G, A, B)) :=
  wp_getMiss H F G A B ⟨rfl, rfl⟩
set_option maxRecDepth 65536 in
set_option maxHeartbeats 4000000 in
theorem wp_run {l : Launch} {Z : State} {a0 : Array Value} (H : OK Z a0) (F : Nat → Int32) (G : Nat → Int64) (A : Nat → Int32 → Int32) (B : Nat → Int32 → Int64) (p1 : Int32) {Q : Option Value → WO → Prop} (h2 : (F 4) = 0 → Q (some (.int (0 : Int32))) (7, F, G, A, B)) (h4 : ¬ (F 4) = 0 → p1 < (1 : Int32) → Q (some (.int (0 : Int32))) (7, F, G, A, B)) (h8 : ¬ (F 4) = 0 → ¬ p1 < (1 : Int32) → ¬ (F 3) < (1 : Int32) → Wk l Z (MoC Z cdC) md_run 39 [.val (.ref 0), .unset, .val (.int (if p1 < (4096 : Int32) then p1 else (4096 : Int32))), .val (.int (0 : Int32)), .unset] [] (7, F, G, A, B) 0 0 Q) (h9 : ¬ (F 4) = 0 → ¬ p1 < (1 : Int32) → (F 3) < (1 : Int32) → Q (some (.int (0 : Int32))) (7, F, G, A, B)) :
    Wk l Z (MoC Z cdC) md_run 0 [.val (.ref 0), .val (.int p1), .unset, .unset, .unset] [] (7, F, G, A, B) 0 0 Q := by
  refine Wk.aloadN o_run_0 rfl ?_
  refine Wk.getI (mI_present) (wf_present H) o_run_1 (x := (F 4)) rfl ?_
  refine Wk.if_eq o_run_4 (fun q1 => ?_) (fun q1 => ?_)
  · refine Wk.iconst o_run_20 (z := (0 : Int32)) (by decide) ?_
    exact Wk.ireturn mrC rfl o_run_21 rfl (by decide) (by decide) (h2 q1)
  · refine Wk.iloadN o_run_7 rfl ?_
    refine Wk.iconst o_run_8 (z := (1 : Int32)) (by decide) ?_
    refine Wk.icmp_lt o_run_9 (fun q3 => ?_) (fun q3 => ?_)
    · refine Wk.iconst o_run_20 (z := (0 : Int32)) (by decide) ?_
      exact Wk.ireturn mrC rfl o_run_21 rfl (by decide) (by decide) (h4 q1 q3)
    · refine Wk.aloadN o_run_12 rfl ?_
      refine Wk.getI (mI_hyper) (wf_hyper H) o_run_13 (x := (F 3)) rfl ?_
      refine Wk.iconst o_run_16 (z := (1 : Int32)) (by decide) ?_
      refine Wk.icmp_ge o_run_17 (fun q5 => ?_) (fun q5 => ?_)
      · refine Wk.iloadN o_run_22 rfl ?_
        refine Wk.sipush o_run_23 (z := (4096 : Int32)) (by decide) ?_
        have J7 : Wk l Z (MoC Z cdC) md_run 36 [.val (.ref 0), .val (.int p1), .unset, .unset, .unset] [.int (if p1 < (4096 : Int32) then p1 else (4096 : Int32))] (7, F, G, A, B) 0 0 Q := by
          refine Wk.istoreN o_run_36 (Or.inl rfl) (L' := [.val (.ref 0), .val (.int p1), .val (.int (if p1 < (4096 : Int32) then p1 else (4096 : Int32))), .unset, .unset]) rfl ?_
          refine Wk.iconst o_run_37 (z := (0 : Int32)) (by decide) ?_
          refine Wk.istoreN o_run_38 (Or.inl rfl) (L' := [.val (.ref 0), .val (.int p1), .val (.int (if p1 < (4096 : Int32) then p1 else (4096 : Int32))), .val (.int (0 : Int32)), .unset]) rfl ?_
          refine Wk.forget [false, true, false, false, false] (L' := [.val (.ref 0), .unset, .val (.int (if p1 < (4096 : Int32) then p1 else (4096 : Int32))), .val (.int (0 : Int32)), .unset]) rfl rfl ?_
          exact (h8 q1 q3 q5)
        refine Wk.icmp_ge o_run_26 (fun q6 => ?_) (fun q6 => ?_)
        · refine Wk.sipush o_run_33 (z := (4096 : Int32)) (by decide) ?_
          first | (rw [show ((if p1 < (4096 : Int32) then p1 else (4096 : Int32)) : Int32) = (4096 : Int32) from if_neg q6] at J7; exact J7) | exact J7 | (simp only [if_neg q6] at J7 ⊢; exact J7)
        · refine Wk.iloadN o_run_29 rfl ?_
          refine Wk.goto o_run_30 ?_
          first | (rw [show ((if p1 < (4096 : Int32) then p1 else (4096 : Int32)) : Int32) = p1 from if_pos q6] at J7; exact J7) | exact J7 | (simp only [if_pos q6] at J7 ⊢; exact J7)
      · refine Wk.iconst o_run_20 (z := (0 : Int32)) (by decide) ?_
        exact Wk.ireturn mrC rfl o_run_21 rfl (by decide) (by decide) (h9 q1 q3 q5)

set_option maxRecDepth 65536 in
set_option maxHeartbeats 4000000 in
theorem wp_run_39 {l : Launch} {Z : State} {a0 : Array Value} (H : OK Z a0) (F : Nat → Int32) (G : Nat → Int64) (A : Nat → Int32 → Int32) (B : Nat → Int32 → Int64) (v2 : Int32) (v3 : Int32) {Q : Option Value → WO → Prop} (h2 : ¬ v3 < v2 → Q (some (.int v2)) (7, F, G, A, B)) (h10 : v3 < v2 → (F 8) < 0 → ((A 4) (0 : Int32)) < 0 → ((0 : Int32) + (1 : Int32)) < (F 3) → Wk l Z (MoC Z cdC) md_run 39 [.val (.ref 0), .unset, .val (.int v2), .val (.int (v3 + (1 : Int32))), .unset] [] (7, (ups (ups (ups F 8 (0 : Int32)) 7 ((F 7) + (1 : Int32))) 8 ((0 : Int32) + (1 : Int32))), G, A, B) 0 0 Q) (h11 : v3 < v2 → (F 8) < 0 → ((A 4) (0 : Int32)) < 0 → ¬ ((0 : Int32) + (1 : Int32)) < (F 3) → Wk l Z (MoC Z cdC) md_run 39 [.val (.ref 0), .unset, .val (.int v2), .val (.int (v3 + (1 : Int32))), .unset] [] (7, (ups (ups (ups (ups F 8 (0 : Int32)) 7 ((F 7) + (1 : Int32))) 8 ((0 : Int32) + (1 : Int32))) 8 (0 : Int32)), G, A, B) 0 0 Q) (h14 : v3 < v2 → (F 8) < 0 → ¬ ((A 4) (0 : Int32)) < 0 → ¬ ((A 4) (0 : Int32)) < (8 : Int32) → ((0 : Int32) + (1 : Int32)) < (F 3) → Wk l Z (MoC Z cdC) md_run 39 [.val (.ref 0), .unset, .val (.int v2), .val (.int (v3 + (1 : Int32))), .unset] [] (7, (ups (ups (ups F 8 (0 : Int32)) 7 ((F 7) + (1 : Int32))) 8 ((0 : Int32) + (1 : Int32))), G, A, B) 0 0 Q) (h15 : v3 < v2 → (F 8) < 0 → ¬ ((A 4) (0 : Int32)) < 0 → ¬ ((A 4) (0 : Int32)) < (8 : Int32) → ¬ ((0 : Int32) + (1 : Int32)) < (F 3) → Wk l Z (MoC Z cdC) md_run 39 [.val (.ref 0), .unset, .val (.int v2), .val (.int (v3 + (1 : Int32))), .unset] [] (7, (ups (ups (ups (ups F 8 (0 : Int32)) 7 ((F 7) + (1 : Int32))) 8 ((0 : Int32) + (1 : Int32))) 8 (0 : Int32)), G, A, B) 0 0 Q) (h17 : v3 < v2 → (F 8) < 0 → ¬ ((A 4) (0 : Int32)) < 0 → ((A 4) (0 : Int32)) < (8 : Int32) → ((0 : Int32) + (1 : Int32)) < (F 3) → Wk l Z (MoC Z cdC) md_run 39 [.val (.ref 0), .unset, .val (.int v2), .val (.int (v3 + (1 : Int32))), .unset] [] (7, (ups (ups (ups F 8 (0 : Int32)) 7 ((F 7) + (1 : Int32))) 8 ((0 : Int32) + (1 : Int32))), G, (ups A 3 (ups (A 3) ((A 4) (0 : Int32)) (((A 3) ((A 4) (0 : Int32))) + (1 : Int32)))), B) 0 0 Q) (h18 : v3 < v2 → (F 8) < 0 → ¬ ((A 4) (0 : Int32)) < 0 → ((A 4) (0 : Int32)) < (8 : Int32) → ¬ ((0 : Int32) + (1 : Int32)) < (F 3) → Wk l Z (MoC Z cdC) md_run 39 [.val (.ref 0), .unset, .val (.int v2), .val (.int (v3 + (1 : Int32))), .unset] [] (7, (ups (ups (ups (ups F 8 (0 : Int32)) 7 ((F 7) + (1 : Int32))) 8 ((0 : Int32) + (1 : Int32))) 8 (0 : Int32)), G, (ups A 3 (ups (A 3) ((A 4) (0 : Int32)) (((A 3) ((A 4) (0 : Int32))) + (1 : Int32)))), B) 0 0 Q) (h24 : v3 < v2 → ¬ (F 8) < 0 → ¬ (F 8) < (F 3) → ((A 4) (0 : Int32)) < 0 → ((0 : Int32) + (1 : Int32)) < (F 3) → Wk l Z (MoC Z cdC) md_run 39 [.val (.ref 0), .unset, .val (.int v2), .val (.int (v3 + (1 : Int32))), .unset] [] (7, (ups (ups (ups F 8 (0 : Int32)) 7 ((F 7) + (1 : Int32))) 8 ((0 : Int32) + (1 : Int32))), G, A, B) 0 0 Q) (h25 : v3 < v2 → ¬ (F 8) < 0 → ¬ (F 8) < (F 3) → ((A 4) (0 : Int32)) < 0 → ¬ ((0 : Int32) + (1 : Int32)) < (F 3) → Wk l Z (MoC Z cdC) md_run 39 [.val (.ref 0), .unset, .val (.int v2), .val (.int (v3 + (1 : Int32))), .unset] [] (7, (ups (ups (ups (ups F 8 (0 : Int32)) 7 ((F 7) + (1 : Int32))) 8 ((0 : Int32) + (1 : Int32))) 8 (0 : Int32)), G, A, B) 0 0 Q) (h28 : v3 < v2 → ¬ (F 8) < 0 → ¬ (F 8) < (F 3) → ¬ ((A 4) (0 : Int32)) < 0 → ¬ ((A 4) (0 : Int32)) < (8 : Int32) → ((0 : Int32) + (1 : Int32)) < (F 3) → Wk l Z (MoC Z cdC) md_run 39 [.val (.ref 0), .unset, .val (.int v2), .val (.int (v3 + (1 : Int32))), .unset] [] (7, (ups (ups (ups F 8 (0 : Int32)) 7 ((F 7) + (1 : Int32))) 8 ((0 : Int32) + (1 : Int32))), G, A, B) 0 0 Q) (h29 : v3 < v2 → ¬ (F 8) < 0 → ¬ (F 8) < (F 3) → ¬ ((A 4) (0 : Int32)) < 0 → ¬ ((A 4) (0 : Int32)) < (8 : Int32) → ¬ ((0 : Int32) + (1 : Int32)) < (F 3) → Wk l Z (MoC Z cdC) md_run 39 [.val (.ref 0), .unset, .val (.int v2), .val (.int (v3 + (1 : Int32))), .unset] [] (7, (ups (ups (ups (ups F 8 (0 : Int32)) 7 ((F 7) + (1 : Int32))) 8 ((0 : Int32) + (1 : Int32))) 8 (0 : Int32)), G, A, B) 0 0 Q) (h31 : v3 < v2 → ¬ (F 8) < 0 → ¬ (F 8) < (F 3) → ¬ ((A 4) (0 : Int32)) < 0 → ((A 4) (0 : Int32)) < (8 : Int32) → ((0 : Int32) + (1 : Int32)) < (F 3) → Wk l Z (MoC Z cdC) md_run 39 [.val (.ref 0), .unset, .val (.int v2), .val (.int (v3 + (1 : Int32))), .unset] [] (7, (ups (ups (ups F 8 (0 : Int32)) 7 ((F 7) + (1 : Int32))) 8 ((0 : Int32) + (1 : Int32))), G, (ups A 3 (ups (A 3) ((A 4) (0 : Int32)) (((A 3) ((A 4) (0 : Int32))) + (1 : Int32)))), B) 0 0 Q) (h32 : v3 < v2 → ¬ (F 8) < 0 → ¬ (F 8) < (F 3) → ¬ ((A 4) (0 : Int32)) < 0 → ((A 4) (0 : Int32)) < (8 : Int32) → ¬ ((0 : Int32) + (1 : Int32)) < (F 3) → Wk l Z (MoC Z cdC) md_run 39 [.val (.ref 0), .unset, .val (.int v2), .val (.int (v3 + (1 : Int32))), .unset] [] (7, (ups (ups (ups (ups F 8 (0 : Int32)) 7 ((F 7) + (1 : Int32))) 8 ((0 : Int32) + (1 : Int32))) 8 (0 : Int32)), G, (ups A 3 (ups (A 3) ((A 4) (0 : Int32)) (((A 3) ((A 4) (0 : Int32))) + (1 : Int32)))), B) 0 0 Q) (h37 : v3 < v2 → ¬ (F 8) < 0 → (F 8) < (F 3) → (F 8) < (128 : Int32) → ((A 4) (F 8)) < 0 → ((F 8) + (1 : Int32)) < (F 3) → Wk l Z (MoC Z cdC) md_run 39 [.val (.ref 0), .unset, .val (.int v2), .val (.int (v3 + (1 : Int32))), .unset] [] (7, (ups (ups F 7 ((F 7) + (1 : Int32))) 8 ((F 8) + (1 : Int32))), G, A, B) 0 0 Q) (h38 : v3 < v2 → ¬ (F 8) < 0 → (F 8) < (F 3) → (F 8) < (128 : Int32) → ((A 4) (F 8)) < 0 → ¬ ((F 8) + (1 : Int32)) < (F 3) → Wk l Z (MoC Z cdC) md_run 39 [.val (.ref 0), .unset, .val (.int v2), .val (.int (v3 + (1 : Int32))), .unset] [] (7, (ups (ups (ups F 7 ((F 7) + (1 : Int32))) 8 ((F 8) + (1 : Int32))) 8 (0 : Int32)), G, A, B) 0 0 Q) (h41 : v3 < v2 → ¬ (F 8) < 0 → (F 8) < (F 3) → (F 8) < (128 : Int32) → ¬ ((A 4) (F 8)) < 0 → ¬ ((A 4) (F 8)) < (8 : Int32) → ((F 8) + (1 : Int32)) < (F 3) → Wk l Z (MoC Z cdC) md_run 39 [.val (.ref 0), .unset, .val (.int v2), .val (.int (v3 + (1 : Int32))), .unset] [] (7, (ups (ups F 7 ((F 7) + (1 : Int32))) 8 ((F 8) + (1 : Int32))), G, A, B) 0 0 Q) (h42 : v3 < v2 → ¬ (F 8) < 0 → (F 8) < (F 3) → (F 8) < (128 : Int32) → ¬ ((A 4) (F 8)) < 0 → ¬ ((A 4) (F 8)) < (8 : Int32) → ¬ ((F 8) + (1 : Int32)) < (F 3) → Wk l Z (MoC Z cdC) md_run 39 [.val (.ref 0), .unset, .val (.int v2), .val (.int (v3 + (1 : Int32))), .unset] [] (7, (ups (ups (ups F 7 ((F 7) + (1 : Int32))) 8 ((F 8) + (1 : Int32))) 8 (0 : Int32)), G, A, B) 0 0 Q) (h44 : v3 < v2 → ¬ (F 8) < 0 → (F 8) < (F 3) → (F 8) < (128 : Int32) → ¬ ((A 4) (F 8)) < 0 → ((A 4) (F 8)) < (8 : Int32) → ((F 8) + (1 : Int32)) < (F 3) → Wk l Z (MoC Z cdC) md_run 39 [.val (.ref 0), .unset, .val (.int v2), .val (.int (v3 + (1 : Int32))), .unset] [] (7, (ups (ups F 7 ((F 7) + (1 : Int32))) 8 ((F 8) + (1 : Int32))), G, (ups A 3 (ups (A 3) ((A 4) (F 8)) (((A 3) ((A 4) (F 8))) + (1 : Int32)))), B) 0 0 Q) (h45 : v3 < v2 → ¬ (F 8) < 0 → (F 8) < (F 3) → (F 8) < (128 : Int32) → ¬ ((A 4) (F 8)) < 0 → ((A 4) (F 8)) < (8 : Int32) → ¬ ((F 8) + (1 : Int32)) < (F 3) → Wk l Z (MoC Z cdC) md_run 39 [.val (.ref 0), .unset, .val (.int v2), .val (.int (v3 + (1 : Int32))), .unset] [] (7, (ups (ups (ups F 7 ((F 7) + (1 : Int32))) 8 ((F 8) + (1 : Int32))) 8 (0 : Int32)), G, (ups A 3 (ups (A 3) ((A 4) (F 8)) (((A 3) ((A 4) (F 8))) + (1 : Int32)))), B) 0 0 Q) (h49 : v3 < v2 → ¬ (F 8) < 0 → (F 8) < (F 3) → ¬ (F 8) < (128 : Int32) → ((A 4) (0 : Int32)) < 0 → ((0 : Int32) + (1 : Int32)) < (F 3) → Wk l Z (MoC Z cdC) md_run 39 [.val (.ref 0), .unset, .val (.int v2), .val (.int (v3 + (1 : Int32))), .unset] [] (7, (ups (ups (ups F 8 (0 : Int32)) 7 ((F 7) + (1 : Int32))) 8 ((0 : Int32) + (1 : Int32))), G, A, B) 0 0 Q) (h50 : v3 < v2 → ¬ (F 8) < 0 → (F 8) < (F 3) → ¬ (F 8) < (128 : Int32) → ((A 4) (0 : Int32)) < 0 → ¬ ((0 : Int32) + (1 : Int32)) < (F 3) → Wk l Z (MoC Z cdC) md_run 39 [.val (.ref 0), .unset, .val (.int v2), .val (.int (v3 + (1 : Int32))), .unset] [] (7, (ups (ups (ups (ups F 8 (0 : Int32)) 7 ((F 7) + (1 : Int32))) 8 ((0 : Int32) + (1 : Int32))) 8 (0 : Int32)), G, A, B) 0 0 Q) (h53 : v3 < v2 → ¬ (F 8) < 0 → (F 8) < (F 3) → ¬ (F 8) < (128 : Int32) → ¬ ((A 4) (0 : Int32)) < 0 → ¬ ((A 4) (0 : Int32)) < (8 : Int32) → ((0 : Int32) + (1 : Int32)) < (F 3) → Wk l Z (MoC Z cdC) md_run 39 [.val (.ref 0), .unset, .val (.int v2), .val (.int (v3 + (1 : Int32))), .unset] [] (7, (ups (ups (ups F 8 (0 : Int32)) 7 ((F 7) + (1 : Int32))) 8 ((0 : Int32) + (1 : Int32))), G, A, B) 0 0 Q) (h54 : v3 < v2 → ¬ (F 8) < 0 → (F 8) < (F 3) → ¬ (F 8) < (128 : Int32) → ¬ ((A 4) (0 : Int32)) < 0 → ¬ ((A 4) (0 : Int32)) < (8 : Int32) → ¬ ((0 : Int32) + (1 : Int32)) < (F 3) → Wk l Z (MoC Z cdC) md_run 39 [.val (.ref 0), .unset, .val (.int v2), .val (.int (v3 + (1 : Int32))), .unset] [] (7, (ups (ups (ups (ups F 8 (0 : Int32)) 7 ((F 7) + (1 : Int32))) 8 ((0 : Int32) + (1 : Int32))) 8 (0 : Int32)), G, A, B) 0 0 Q) (h56 : v3 < v2 → ¬ (F 8) < 0 → (F 8) < (F 3) → ¬ (F 8) < (128 : Int32) → ¬ ((A 4) (0 : Int32)) < 0 → ((A 4) (0 : Int32)) < (8 : Int32) → ((0 : Int32) + (1 : Int32)) < (F 3) → Wk l Z (MoC Z cdC) md_run 39 [.val (.ref 0), .unset, .val (.int v2), .val (.int (v3 + (1 : Int32))), .unset] [] (7, (ups (ups (ups F 8 (0 : Int32)) 7 ((F 7) + (1 : Int32))) 8 ((0 : Int32) + (1 : Int32))), G, (ups A 3 (ups (A 3) ((A 4) (0 : Int32)) (((A 3) ((A 4) (0 : Int32))) + (1 : Int32)))), B) 0 0 Q) (h57 : v3 < v2 → ¬ (F 8) < 0 → (F 8) < (F 3) → ¬ (F 8) < (128 : Int32) → ¬ ((A 4) (0 : Int32)) < 0 → ((A 4) (0 : Int32)) < (8 : Int32) → ¬ ((0 : Int32) + (1 : Int32)) < (F 3) → Wk l Z (MoC Z cdC) md_run 39 [.val (.ref 0), .unset, .val (.int v2), .val (.int (v3 + (1 : Int32))), .unset] [] (7, (ups (ups (ups (ups F 8 (0 : Int32)) 7 ((F 7) + (1 : Int32))) 8 ((0 : Int32) + (1 : Int32))) 8 (0 : Int32)), G, (ups A 3 (ups (A 3) ((A 4) (0 : Int32)) (((A 3) ((A 4) (0 : Int32))) + (1 : Int32)))), B) 0 0 Q) :
    Wk l Z (MoC Z cdC) md_run 39 [.val (.ref 0), .unset, .val (.int v2), .val (.int v3), .unset] [] (7, F, G, A, B) 0 0 Q := by
  refine Wk.iloadN o_run_39 rfl ?_
  refine Wk.iloadN o_run_40 rfl ?_
  refine Wk.icmp_ge o_run_41 (fun q1 => ?_) (fun q1 => ?_)
  · refine Wk.iloadN o_run_153 rfl ?_
    exact Wk.ireturn mrC rfl o_run_154 rfl (by decide) (by decide) (h2 q1)
  · refine Wk.aloadN o_run_44 rfl ?_
    refine Wk.getI (mI_pos) (wf_pos H) o_run_45 (x := (F 8)) rfl ?_
    refine Wk.if_lt o_run_48 (fun q3 => ?_) (fun q3 => ?_)
    · refine Wk.aloadN o_run_72 rfl ?_
      refine Wk.iconst o_run_73 (z := (0 : Int32)) (by decide) ?_
      refine Wk.putI (coC H) (mI_pos) (wf_pos H) (Or.inl (wy_pos H)) o_run_74 ?_
      refine Wk.aloadN o_run_77 rfl ?_
      refine Wk.getA (mA_tickTask) (by decide) (i' := 5) rfl (wf_tickTask H) o_run_78 ?_
      refine Wk.aloadN o_run_81 rfl ?_
      refine Wk.getI (mI_pos) (wf_pos H) o_run_82 (x := (0 : Int32)) rfl ?_
      refine Wk.iaload (mA_tickTask) (by decide) (i' := 5) rfl (by decide) (by decide) o_run_85 (y := ((A 4) (0 : Int32))) rfl ?_
      refine Wk.istore o_run_86 (Or.inl rfl) (L' := [.val (.ref 0), .unset, .val (.int v2), .val (.int v3), .val (.int ((A 4) (0 : Int32)))]) rfl ?_
      refine Wk.iload o_run_88 rfl ?_
      refine Wk.if_lt o_run_90 (fun q7 => ?_) (fun q7 => ?_)
      · refine Wk.aloadN o_run_111 rfl ?_
        refine Wk.dup o_run_112 rfl ?_
        refine Wk.getI (mI_now) (wf_now H) o_run_113 (x := (F 7)) rfl ?_
        refine Wk.iconst o_run_116 (z := (1 : Int32)) (by decide) ?_
        refine Wk.iadd o_run_117 ?_
        refine Wk.putI (coC H) (mI_now) (wf_now H) (Or.inl (wy_now H)) o_run_118 ?_
        refine Wk.aloadN o_run_121 rfl ?_
        refine Wk.dup o_run_122 rfl ?_
        refine Wk.getI (mI_pos) (wf_pos H) o_run_123 (x := (0 : Int32)) rfl ?_
        refine Wk.iconst o_run_126 (z := (1 : Int32)) (by decide) ?_
        refine Wk.iadd o_run_127 ?_
        refine Wk.putI (coC H) (mI_pos) (wf_pos H) (Or.inl (wy_pos H)) o_run_128 ?_
        refine Wk.aloadN o_run_131 rfl ?_
        refine Wk.getI (mI_pos) (wf_pos H) o_run_132 (x := ((0 : Int32) + (1 : Int32))) rfl ?_
        refine Wk.aloadN o_run_135 rfl ?_
        refine Wk.getI (mI_hyper) (wf_hyper H) o_run_136 (x := (F 3)) rfl ?_
        refine Wk.icmp_lt o_run_139 (fun q9 => ?_) (fun q9 => ?_)
        · refine Wk.iinc o_run_147 rfl (z := (v3 + (1 : Int32))) rfl (L' := [.val (.ref 0), .unset, .val (.int v2), .val (.int (v3 + (1 : Int32))), .val (.int ((A 4) (0 : Int32)))]) rfl ?_
          refine Wk.goto o_run_150 ?_
          refine Wk.forget [false, false, false, false, true] (L' := [.val (.ref 0), .unset, .val (.int v2), .val (.int (v3 + (1 : Int32))), .unset]) rfl rfl ?_
          exact (h10 q1 q3 q7 q9)
        · refine Wk.aloadN o_run_142 rfl ?_
          refine Wk.iconst o_run_143 (z := (0 : Int32)) (by decide) ?_
          refine Wk.putI (coC H) (mI_pos) (wf_pos H) (Or.inl (wy_pos H)) o_run_144 ?_
          refine Wk.iinc o_run_147 rfl (z := (v3 + (1 : Int32))) rfl (L' := [.val (.ref 0), .unset, .val (.int v2), .val (.int (v3 + (1 : Int32))), .val (.int ((A 4) (0 : Int32)))]) rfl ?_
          refine Wk.goto o_run_150 ?_
          refine Wk.forget [false, false, false, false, true] (L' := [.val (.ref 0), .unset, .val (.int v2), .val (.int (v3 + (1 : Int32))), .unset]) rfl rfl ?_
          exact (h11 q1 q3 q7 q9)
      · refine Wk.iload o_run_93 rfl ?_
        refine Wk.bipush o_run_95 (z := (8 : Int32)) (by decide) ?_
        refine Wk.icmp_ge o_run_97 (fun q12 => ?_) (fun q12 => ?_)
        · refine Wk.aloadN o_run_111 rfl ?_
          refine Wk.dup o_run_112 rfl ?_
          refine Wk.getI (mI_now) (wf_now H) o_run_113 (x := (F 7)) rfl ?_
          refine Wk.iconst o_run_116 (z := (1 : Int32)) (by decide) ?_
          refine Wk.iadd o_run_117 ?_
          refine Wk.putI (coC H) (mI_now) (wf_now H) (Or.inl (wy_now H)) o_run_118 ?_
          refine Wk.aloadN o_run_121 rfl ?_
          refine Wk.dup o_run_122 rfl ?_
          refine Wk.getI (mI_pos) (wf_pos H) o_run_123 (x := (0 : Int32)) rfl ?_
          refine Wk.iconst o_run_126 (z := (1 : Int32)) (by decide) ?_
          refine Wk.iadd o_run_127 ?_
          refine Wk.putI (coC H) (mI_pos) (wf_pos H) (Or.inl (wy_pos H)) o_run_128 ?_
          refine Wk.aloadN o_run_131 rfl ?_
          refine Wk.getI (mI_pos) (wf_pos H) o_run_132 (x := ((0 : Int32) + (1 : Int32))) rfl ?_
          refine Wk.aloadN o_run_135 rfl ?_
          refine Wk.getI (mI_hyper) (wf_hyper H) o_run_136 (x := (F 3)) rfl ?_
          refine Wk.icmp_lt o_run_139 (fun q13 => ?_) (fun q13 => ?_)
          · refine Wk.iinc o_run_147 rfl (z := (v3 + (1 : Int32))) rfl (L' := [.val (.ref 0), .unset, .val (.int v2), .val (.int (v3 + (1 : Int32))), .val (.int ((A 4) (0 : Int32)))]) rfl ?_
            refine Wk.goto o_run_150 ?_
            refine Wk.forget [false, false, false, false, true] (L' := [.val (.ref 0), .unset, .val (.int v2), .val (.int (v3 + (1 : Int32))), .unset]) rfl rfl ?_
            exact (h14 q1 q3 q7 q12 q13)
          · refine Wk.aloadN o_run_142 rfl ?_
            refine Wk.iconst o_run_143 (z := (0 : Int32)) (by decide) ?_
            refine Wk.putI (coC H) (mI_pos) (wf_pos H) (Or.inl (wy_pos H)) o_run_144 ?_
            refine Wk.iinc o_run_147 rfl (z := (v3 + (1 : Int32))) rfl (L' := [.val (.ref 0), .unset, .val (.int v2), .val (.int (v3 + (1 : Int32))), .val (.int ((A 4) (0 : Int32)))]) rfl ?_
            refine Wk.goto o_run_150 ?_
            refine Wk.forget [false, false, false, false, true] (L' := [.val (.ref 0), .unset, .val (.int v2), .val (.int (v3 + (1 : Int32))), .unset]) rfl rfl ?_
            exact (h15 q1 q3 q7 q12 q13)
        · refine Wk.aloadN o_run_100 rfl ?_
          refine Wk.getA (mA_runCnt) (by decide) (i' := 4) rfl (wf_runCnt H) o_run_101 ?_
          refine Wk.iload o_run_104 rfl ?_
          refine Wk.dup2 o_run_106 rfl rfl ?_
          refine Wk.iaload (mA_runCnt) (by decide) (i' := 4) rfl q7 q12 o_run_107 (y := ((A 3) ((A 4) (0 : Int32)))) rfl ?_
          refine Wk.iconst o_run_108 (z := (1 : Int32)) (by decide) ?_
          refine Wk.iadd o_run_109 ?_
          refine Wk.iastore (coC H) (f := (A 3)) (mA_runCnt) rfl (by decide) (i' := 4) rfl q7 q12 o_run_110 ?_
          refine Wk.aloadN o_run_111 rfl ?_
          refine Wk.dup o_run_112 rfl ?_
          refine Wk.getI (mI_now) (wf_now H) o_run_113 (x := (F 7)) rfl ?_
          refine Wk.iconst o_run_116 (z := (1 : Int32)) (by decide) ?_
          refine Wk.iadd o_run_117 ?_
          refine Wk.putI (coC H) (mI_now) (wf_now H) (Or.inl (wy_now H)) o_run_118 ?_
          refine Wk.aloadN o_run_121 rfl ?_
          refine Wk.dup o_run_122 rfl ?_
          refine Wk.getI (mI_pos) (wf_pos H) o_run_123 (x := (0 : Int32)) rfl ?_
          refine Wk.iconst o_run_126 (z := (1 : Int32)) (by decide) ?_
          refine Wk.iadd o_run_127 ?_
          refine Wk.putI (coC H) (mI_pos) (wf_pos H) (Or.inl (wy_pos H)) o_run_128 ?_
          refine Wk.aloadN o_run_131 rfl ?_
          refine Wk.getI (mI_pos) (wf_pos H) o_run_132 (x := ((0 : Int32) + (1 : Int32))) rfl ?_
          refine Wk.aloadN o_run_135 rfl ?_
          refine Wk.getI (mI_hyper) (wf_hyper H) o_run_136 (x := (F 3)) rfl ?_
          refine Wk.icmp_lt o_run_139 (fun q16 => ?_) (fun q16 => ?_)
          · refine Wk.iinc o_run_147 rfl (z := (v3 + (1 : Int32))) rfl (L' := [.val (.ref 0), .unset, .val (.int v2), .val (.int (v3 + (1 : Int32))), .val (.int ((A 4) (0 : Int32)))]) rfl ?_
            refine Wk.goto o_run_150 ?_
            refine Wk.forget [false, false, false, false, true] (L' := [.val (.ref 0), .unset, .val (.int v2), .val (.int (v3 + (1 : Int32))), .unset]) rfl rfl ?_
            exact (h17 q1 q3 q7 q12 q16)
          · refine Wk.aloadN o_run_142 rfl ?_
            refine Wk.iconst o_run_143 (z := (0 : Int32)) (by decide) ?_
            refine Wk.putI (coC H) (mI_pos) (wf_pos H) (Or.inl (wy_pos H)) o_run_144 ?_
            refine Wk.iinc o_run_147 rfl (z := (v3 + (1 : Int32))) rfl (L' := [.val (.ref 0), .unset, .val (.int v2), .val (.int (v3 + (1 : Int32))), .val (.int ((A 4) (0 : Int32)))]) rfl ?_
            refine Wk.goto o_run_150 ?_
            refine Wk.forget [false, false, false, false, true] (L' := [.val (.ref 0), .unset, .val (.int v2), .val (.int (v3 + (1 : Int32))), .unset]) rfl rfl ?_
            exact (h18 q1 q3 q7 q12 q16)
    · refine Wk.aloadN o_run_51 rfl ?_
      refine Wk.getI (mI_pos) (wf_pos H) o_run_52 (x := (F 8)) rfl ?_
      refine Wk.aloadN o_run_55 rfl ?_
      refine Wk.getI (mI_hyper) (wf_hyper H) o_run_56 (x := (F 3)) rfl ?_
      refine Wk.icmp_ge o_run_59 (fun q19 => ?_) (fun q19 => ?_)
      · refine Wk.aloadN o_run_72 rfl ?_
        refine Wk.iconst o_run_73 (z := (0 : Int32)) (by decide) ?_
        refine Wk.putI (coC H) (mI_pos) (wf_pos H) (Or.inl (wy_pos H)) o_run_74 ?_
        refine Wk.aloadN o_run_77 rfl ?_
        refine Wk.getA (mA_tickTask) (by decide) (i' := 5) rfl (wf_tickTask H) o_run_78 ?_
        refine Wk.aloadN o_run_81 rfl ?_
        refine Wk.getI (mI_pos) (wf_pos H) o_run_82 (x := (0 : Int32)) rfl ?_
        refine Wk.iaload (mA_tickTask) (by decide) (i' := 5) rfl (by decide) (by decide) o_run_85 (y := ((A 4) (0 : Int32))) rfl ?_
        refine Wk.istore o_run_86 (Or.inl rfl) (L' := [.val (.ref 0), .unset, .val (.int v2), .val (.int v3), .val (.int ((A 4) (0 : Int32)))]) rfl ?_
        refine Wk.iload o_run_88 rfl ?_
        refine Wk.if_lt o_run_90 (fun q21 => ?_) (fun q21 => ?_)
        · refine Wk.aloadN o_run_111 rfl ?_
          refine Wk.dup o_run_112 rfl ?_
          refine Wk.getI (mI_now) (wf_now H) o_run_113 (x := (F 7)) rfl ?_
          refine Wk.iconst o_run_116 (z := (1 : Int32)) (by decide) ?_
          refine Wk.iadd o_run_117 ?_
          refine Wk.putI (coC H) (mI_now) (wf_now H) (Or.inl (wy_now H)) o_run_118 ?_
          refine Wk.aloadN o_run_121 rfl ?_
          refine Wk.dup o_run_122 rfl ?_
          refine Wk.getI (mI_pos) (wf_pos H) o_run_123 (x := (0 : Int32)) rfl ?_
          refine Wk.iconst o_run_126 (z := (1 : Int32)) (by decide) ?_
          refine Wk.iadd o_run_127 ?_
          refine Wk.putI (coC H) (mI_pos) (wf_pos H) (Or.inl (wy_pos H)) o_run_128 ?_
          refine Wk.aloadN o_run_131 rfl ?_
          refine Wk.getI (mI_pos) (wf_pos H) o_run_132 (x := ((0 : Int32) + (1 : Int32))) rfl ?_
          refine Wk.aloadN o_run_135 rfl ?_
          refine Wk.getI (mI_hyper) (wf_hyper H) o_run_136 (x := (F 3)) rfl ?_
          refine Wk.icmp_lt o_run_139 (fun q23 => ?_) (fun q23 => ?_)
          · refine Wk.iinc o_run_147 rfl (z := (v3 + (1 : Int32))) rfl (L' := [.val (.ref 0), .unset, .val (.int v2), .val (.int (v3 + (1 : Int32))), .val (.int ((A 4) (0 : Int32)))]) rfl ?_
            refine Wk.goto o_run_150 ?_
            refine Wk.forget [false, false, false, false, true] (L' := [.val (.ref 0), .unset, .val (.int v2), .val (.int (v3 + (1 : Int32))), .unset]) rfl rfl ?_
            exact (h24 q1 q3 q19 q21 q23)
          · refine Wk.aloadN o_run_142 rfl ?_
            refine Wk.iconst o_run_143 (z := (0 : Int32)) (by decide) ?_
            refine Wk.putI (coC H) (mI_pos) (wf_pos H) (Or.inl (wy_pos H)) o_run_144 ?_
            refine Wk.iinc o_run_147 rfl (z := (v3 + (1 : Int32))) rfl (L' := [.val (.ref 0), .unset, .val (.int v2), .val (.int (v3 + (1 : Int32))), .val (.int ((A 4) (0 : Int32)))]) rfl ?_
            refine Wk.goto o_run_150 ?_
            refine Wk.forget [false, false, false, false, true] (L' := [.val (.ref 0), .unset, .val (.int v2), .val (.int (v3 + (1 : Int32))), .unset]) rfl rfl ?_
            exact (h25 q1 q3 q19 q21 q23)
        · refine Wk.iload o_run_93 rfl ?_
          refine Wk.bipush o_run_95 (z := (8 : Int32)) (by decide) ?_
          refine Wk.icmp_ge o_run_97 (fun q26 => ?_) (fun q26 => ?_)
          · refine Wk.aloadN o_run_111 rfl ?_
            refine Wk.dup o_run_112 rfl ?_
            refine Wk.getI (mI_now) (wf_now H) o_run_113 (x := (F 7)) rfl ?_
            refine Wk.iconst o_run_116 (z := (1 : Int32)) (by decide) ?_
            refine Wk.iadd o_run_117 ?_
            refine Wk.putI (coC H) (mI_now) (wf_now H) (Or.inl (wy_now H)) o_run_118 ?_
            refine Wk.aloadN o_run_121 rfl ?_
            refine Wk.dup o_run_122 rfl ?_
            refine Wk.getI (mI_pos) (wf_pos H) o_run_123 (x := (0 : Int32)) rfl ?_
            refine Wk.iconst o_run_126 (z := (1 : Int32)) (by decide) ?_
            refine Wk.iadd o_run_127 ?_
            refine Wk.putI (coC H) (mI_pos) (wf_pos H) (Or.inl (wy_pos H)) o_run_128 ?_
            refine Wk.aloadN o_run_131 rfl ?_
            refine Wk.getI (mI_pos) (wf_pos H) o_run_132 (x := ((0 : Int32) + (1 : Int32))) rfl ?_
            refine Wk.aloadN o_run_135 rfl ?_
            refine Wk.getI (mI_hyper) (wf_hyper H) o_run_136 (x := (F 3)) rfl ?_
            refine Wk.icmp_lt o_run_139 (fun q27 => ?_) (fun q27 => ?_)
            · refine Wk.iinc o_run_147 rfl (z := (v3 + (1 : Int32))) rfl (L' := [.val (.ref 0), .unset, .val (.int v2), .val (.int (v3 + (1 : Int32))), .val (.int ((A 4) (0 : Int32)))]) rfl ?_
              refine Wk.goto o_run_150 ?_
              refine Wk.forget [false, false, false, false, true] (L' := [.val (.ref 0), .unset, .val (.int v2), .val (.int (v3 + (1 : Int32))), .unset]) rfl rfl ?_
              exact (h28 q1 q3 q19 q21 q26 q27)
            · refine Wk.aloadN o_run_142 rfl ?_
              refine Wk.iconst o_run_143 (z := (0 : Int32)) (by decide) ?_
              refine Wk.putI (coC H) (mI_pos) (wf_pos H) (Or.inl (wy_pos H)) o_run_144 ?_
              refine Wk.iinc o_run_147 rfl (z := (v3 + (1 : Int32))) rfl (L' := [.val (.ref 0), .unset, .val (.int v2), .val (.int (v3 + (1 : Int32))), .val (.int ((A 4) (0 : Int32)))]) rfl ?_
              refine Wk.goto o_run_150 ?_
              refine Wk.forget [false, false, false, false, true] (L' := [.val (.ref 0), .unset, .val (.int v2), .val (.int (v3 + (1 : Int32))), .unset]) rfl rfl ?_
              exact (h29 q1 q3 q19 q21 q26 q27)
          · refine Wk.aloadN o_run_100 rfl ?_
            refine Wk.getA (mA_runCnt) (by decide) (i' := 4) rfl (wf_runCnt H) o_run_101 ?_
            refine Wk.iload o_run_104 rfl ?_
            refine Wk.dup2 o_run_106 rfl rfl ?_
            refine Wk.iaload (mA_runCnt) (by decide) (i' := 4) rfl q21 q26 o_run_107 (y := ((A 3) ((A 4) (0 : Int32)))) rfl ?_
            refine Wk.iconst o_run_108 (z := (1 : Int32)) (by decide) ?_
            refine Wk.iadd o_run_109 ?_
            refine Wk.iastore (coC H) (f := (A 3)) (mA_runCnt) rfl (by decide) (i' := 4) rfl q21 q26 o_run_110 ?_
            refine Wk.aloadN o_run_111 rfl ?_
            refine Wk.dup o_run_112 rfl ?_
            refine Wk.getI (mI_now) (wf_now H) o_run_113 (x := (F 7)) rfl ?_
            refine Wk.iconst o_run_116 (z := (1 : Int32)) (by decide) ?_
            refine Wk.iadd o_run_117 ?_
            refine Wk.putI (coC H) (mI_now) (wf_now H) (Or.inl (wy_now H)) o_run_118 ?_
            refine Wk.aloadN o_run_121 rfl ?_
            refine Wk.dup o_run_122 rfl ?_
            refine Wk.getI (mI_pos) (wf_pos H) o_run_123 (x := (0 : Int32)) rfl ?_
            refine Wk.iconst o_run_126 (z := (1 : Int32)) (by decide) ?_
            refine Wk.iadd o_run_127 ?_
            refine Wk.putI (coC H) (mI_pos) (wf_pos H) (Or.inl (wy_pos H)) o_run_128 ?_
            refine Wk.aloadN o_run_131 rfl ?_
            refine Wk.getI (mI_pos) (wf_pos H) o_run_132 (x := ((0 : Int32) + (1 : Int32))) rfl ?_
            refine Wk.aloadN o_run_135 rfl ?_
            refine Wk.getI (mI_hyper) (wf_hyper H) o_run_136 (x := (F 3)) rfl ?_
            refine Wk.icmp_lt o_run_139 (fun q30 => ?_) (fun q30 => ?_)
            · refine Wk.iinc o_run_147 rfl (z := (v3 + (1 : Int32))) rfl (L' := [.val (.ref 0), .unset, .val (.int v2), .val (.int (v3 + (1 : Int32))), .val (.int ((A 4) (0 : Int32)))]) rfl ?_
              refine Wk.goto o_run_150 ?_
              refine Wk.forget [false, false, false, false, true] (L' := [.val (.ref 0), .unset, .val (.int v2), .val (.int (v3 + (1 : Int32))), .unset]) rfl rfl ?_
              exact (h31 q1 q3 q19 q21 q26 q30)
            · refine Wk.aloadN o_run_142 rfl ?_
              refine Wk.iconst o_run_143 (z := (0 : Int32)) (by decide) ?_
              refine Wk.putI (coC H) (mI_pos) (wf_pos H) (Or.inl (wy_pos H)) o_run_144 ?_
              refine Wk.iinc o_run_147 rfl (z := (v3 + (1 : Int32))) rfl (L' := [.val (.ref 0), .unset, .val (.int v2), .val (.int (v3 + (1 : Int32))), .val (.int ((A 4) (0 : Int32)))]) rfl ?_
              refine Wk.goto o_run_150 ?_
              refine Wk.forget [false, false, false, false, true] (L' := [.val (.ref 0), .unset, .val (.int v2), .val (.int (v3 + (1 : Int32))), .unset]) rfl rfl ?_
              exact (h32 q1 q3 q19 q21 q26 q30)
      · refine Wk.aloadN o_run_62 rfl ?_
        refine Wk.getI (mI_pos) (wf_pos H) o_run_63 (x := (F 8)) rfl ?_
        refine Wk.sipush o_run_66 (z := (128 : Int32)) (by decide) ?_
        refine Wk.icmp_lt o_run_69 (fun q33 => ?_) (fun q33 => ?_)
        · refine Wk.aloadN o_run_77 rfl ?_
          refine Wk.getA (mA_tickTask) (by decide) (i' := 5) rfl (wf_tickTask H) o_run_78 ?_
          refine Wk.aloadN o_run_81 rfl ?_
          refine Wk.getI (mI_pos) (wf_pos H) o_run_82 (x := (F 8)) rfl ?_
          refine Wk.iaload (mA_tickTask) (by decide) (i' := 5) rfl q3 q33 o_run_85 (y := ((A 4) (F 8))) rfl ?_
          refine Wk.istore o_run_86 (Or.inl rfl) (L' := [.val (.ref 0), .unset, .val (.int v2), .val (.int v3), .val (.int ((A 4) (F 8)))]) rfl ?_
          refine Wk.iload o_run_88 rfl ?_
          refine Wk.if_lt o_run_90 (fun q34 => ?_) (fun q34 => ?_)
          · refine Wk.aloadN o_run_111 rfl ?_
            refine Wk.dup o_run_112 rfl ?_
            refine Wk.getI (mI_now) (wf_now H) o_run_113 (x := (F 7)) rfl ?_
            refine Wk.iconst o_run_116 (z := (1 : Int32)) (by decide) ?_
            refine Wk.iadd o_run_117 ?_
            refine Wk.putI (coC H) (mI_now) (wf_now H) (Or.inl (wy_now H)) o_run_118 ?_
            refine Wk.aloadN o_run_121 rfl ?_
            refine Wk.dup o_run_122 rfl ?_
            refine Wk.getI (mI_pos) (wf_pos H) o_run_123 (x := (F 8)) rfl ?_
            refine Wk.iconst o_run_126 (z := (1 : Int32)) (by decide) ?_
            refine Wk.iadd o_run_127 ?_
            refine Wk.putI (coC H) (mI_pos) (wf_pos H) (Or.inl (wy_pos H)) o_run_128 ?_
            refine Wk.aloadN o_run_131 rfl ?_
            refine Wk.getI (mI_pos) (wf_pos H) o_run_132 (x := ((F 8) + (1 : Int32))) rfl ?_
            refine Wk.aloadN o_run_135 rfl ?_
            refine Wk.getI (mI_hyper) (wf_hyper H) o_run_136 (x := (F 3)) rfl ?_
            refine Wk.icmp_lt o_run_139 (fun q36 => ?_) (fun q36 => ?_)
            · refine Wk.iinc o_run_147 rfl (z := (v3 + (1 : Int32))) rfl (L' := [.val (.ref 0), .unset, .val (.int v2), .val (.int (v3 + (1 : Int32))), .val (.int ((A 4) (F 8)))]) rfl ?_
              refine Wk.goto o_run_150 ?_
              refine Wk.forget [false, false, false, false, true] (L' := [.val (.ref 0), .unset, .val (.int v2), .val (.int (v3 + (1 : Int32))), .unset]) rfl rfl ?_
              exact (h37 q1 q3 q19 q33 q34 q36)
            · refine Wk.aloadN o_run_142 rfl ?_
              refine Wk.iconst o_run_143 (z := (0 : Int32)) (by decide) ?_
              refine Wk.putI (coC H) (mI_pos) (wf_pos H) (Or.inl (wy_pos H)) o_run_144 ?_
              refine Wk.iinc o_run_147 rfl (z := (v3 + (1 : Int32))) rfl (L' := [.val (.ref 0), .unset, .val (.int v2), .val (.int (v3 + (1 : Int32))), .val (.int ((A 4) (F 8)))]) rfl ?_
              refine Wk.goto o_run_150 ?_
              refine Wk.forget [false, false, false, false, true] (L' := [.val (.ref 0), .unset, .val (.int v2), .val (.int (v3 + (1 : Int32))), .unset]) rfl rfl ?_
              exact (h38 q1 q3 q19 q33 q34 q36)
          · refine Wk.iload o_run_93 rfl ?_
            refine Wk.bipush o_run_95 (z := (8 : Int32)) (by decide) ?_
            refine Wk.icmp_ge o_run_97 (fun q39 => ?_) (fun q39 => ?_)
            · refine Wk.aloadN o_run_111 rfl ?_
              refine Wk.dup o_run_112 rfl ?_
              refine Wk.getI (mI_now) (wf_now H) o_run_113 (x := (F 7)) rfl ?_
              refine Wk.iconst o_run_116 (z := (1 : Int32)) (by decide) ?_
              refine Wk.iadd o_run_117 ?_
              refine Wk.putI (coC H) (mI_now) (wf_now H) (Or.inl (wy_now H)) o_run_118 ?_
              refine Wk.aloadN o_run_121 rfl ?_
              refine Wk.dup o_run_122 rfl ?_
              refine Wk.getI (mI_pos) (wf_pos H) o_run_123 (x := (F 8)) rfl ?_
              refine Wk.iconst o_run_126 (z := (1 : Int32)) (by decide) ?_
              refine Wk.iadd o_run_127 ?_
              refine Wk.putI (coC H) (mI_pos) (wf_pos H) (Or.inl (wy_pos H)) o_run_128 ?_
              refine Wk.aloadN o_run_131 rfl ?_
              refine Wk.getI (mI_pos) (wf_pos H) o_run_132 (x := ((F 8) + (1 : Int32))) rfl ?_
              refine Wk.aloadN o_run_135 rfl ?_
              refine Wk.getI (mI_hyper) (wf_hyper H) o_run_136 (x := (F 3)) rfl ?_
              refine Wk.icmp_lt o_run_139 (fun q40 => ?_) (fun q40 => ?_)
              · refine Wk.iinc o_run_147 rfl (z := (v3 + (1 : Int32))) rfl (L' := [.val (.ref 0), .unset, .val (.int v2), .val (.int (v3 + (1 : Int32))), .val (.int ((A 4) (F 8)))]) rfl ?_
                refine Wk.goto o_run_150 ?_
                refine Wk.forget [false, false, false, false, true] (L' := [.val (.ref 0), .unset, .val (.int v2), .val (.int (v3 + (1 : Int32))), .unset]) rfl rfl ?_
                exact (h41 q1 q3 q19 q33 q34 q39 q40)
              · refine Wk.aloadN o_run_142 rfl ?_
                refine Wk.iconst o_run_143 (z := (0 : Int32)) (by decide) ?_
                refine Wk.putI (coC H) (mI_pos) (wf_pos H) (Or.inl (wy_pos H)) o_run_144 ?_
                refine Wk.iinc o_run_147 rfl (z := (v3 + (1 : Int32))) rfl (L' := [.val (.ref 0), .unset, .val (.int v2), .val (.int (v3 + (1 : Int32))), .val (.int ((A 4) (F 8)))]) rfl ?_
                refine Wk.goto o_run_150 ?_
                refine Wk.forget [false, false, false, false, true] (L' := [.val (.ref 0), .unset, .val (.int v2), .val (.int (v3 + (1 : Int32))), .unset]) rfl rfl ?_
                exact (h42 q1 q3 q19 q33 q34 q39 q40)
            · refine Wk.aloadN o_run_100 rfl ?_
              refine Wk.getA (mA_runCnt) (by decide) (i' := 4) rfl (wf_runCnt H) o_run_101 ?_
              refine Wk.iload o_run_104 rfl ?_
              refine Wk.dup2 o_run_106 rfl rfl ?_
              refine Wk.iaload (mA_runCnt) (by decide) (i' := 4) rfl q34 q39 o_run_107 (y := ((A 3) ((A 4) (F 8)))) rfl ?_
              refine Wk.iconst o_run_108 (z := (1 : Int32)) (by decide) ?_
              refine Wk.iadd o_run_109 ?_
              refine Wk.iastore (coC H) (f := (A 3)) (mA_runCnt) rfl (by decide) (i' := 4) rfl q34 q39 o_run_110 ?_
              refine Wk.aloadN o_run_111 rfl ?_
              refine Wk.dup o_run_112 rfl ?_
              refine Wk.getI (mI_now) (wf_now H) o_run_113 (x := (F 7)) rfl ?_
              refine Wk.iconst o_run_116 (z := (1 : Int32)) (by decide) ?_
              refine Wk.iadd o_run_117 ?_
              refine Wk.putI (coC H) (mI_now) (wf_now H) (Or.inl (wy_now H)) o_run_118 ?_
              refine Wk.aloadN o_run_121 rfl ?_
              refine Wk.dup o_run_122 rfl ?_
              refine Wk.getI (mI_pos) (wf_pos H) o_run_123 (x := (F 8)) rfl ?_
              refine Wk.iconst o_run_126 (z := (1 : Int32)) (by decide) ?_
              refine Wk.iadd o_run_127 ?_
              refine Wk.putI (coC H) (mI_pos) (wf_pos H) (Or.inl (wy_pos H)) o_run_128 ?_
              refine Wk.aloadN o_run_131 rfl ?_
              refine Wk.getI (mI_pos) (wf_pos H) o_run_132 (x := ((F 8) + (1 : Int32))) rfl ?_
              refine Wk.aloadN o_run_135 rfl ?_
              refine Wk.getI (mI_hyper) (wf_hyper H) o_run_136 (x := (F 3)) rfl ?_
              refine Wk.icmp_lt o_run_139 (fun q43 => ?_) (fun q43 => ?_)
              · refine Wk.iinc o_run_147 rfl (z := (v3 + (1 : Int32))) rfl (L' := [.val (.ref 0), .unset, .val (.int v2), .val (.int (v3 + (1 : Int32))), .val (.int ((A 4) (F 8)))]) rfl ?_
                refine Wk.goto o_run_150 ?_
                refine Wk.forget [false, false, false, false, true] (L' := [.val (.ref 0), .unset, .val (.int v2), .val (.int (v3 + (1 : Int32))), .unset]) rfl rfl ?_
                exact (h44 q1 q3 q19 q33 q34 q39 q43)
              · refine Wk.aloadN o_run_142 rfl ?_
                refine Wk.iconst o_run_143 (z := (0 : Int32)) (by decide) ?_
                refine Wk.putI (coC H) (mI_pos) (wf_pos H) (Or.inl (wy_pos H)) o_run_144 ?_
                refine Wk.iinc o_run_147 rfl (z := (v3 + (1 : Int32))) rfl (L' := [.val (.ref 0), .unset, .val (.int v2), .val (.int (v3 + (1 : Int32))), .val (.int ((A 4) (F 8)))]) rfl ?_
                refine Wk.goto o_run_150 ?_
                refine Wk.forget [false, false, false, false, true] (L' := [.val (.ref 0), .unset, .val (.int v2), .val (.int (v3 + (1 : Int32))), .unset]) rfl rfl ?_
                exact (h45 q1 q3 q19 q33 q34 q39 q43)
        · refine Wk.aloadN o_run_72 rfl ?_
          refine Wk.iconst o_run_73 (z := (0 : Int32)) (by decide) ?_
          refine Wk.putI (coC H) (mI_pos) (wf_pos H) (Or.inl (wy_pos H)) o_run_74 ?_
          refine Wk.aloadN o_run_77 rfl ?_
          refine Wk.getA (mA_tickTask) (by decide) (i' := 5) rfl (wf_tickTask H) o_run_78 ?_
          refine Wk.aloadN o_run_81 rfl ?_
          refine Wk.getI (mI_pos) (wf_pos H) o_run_82 (x := (0 : Int32)) rfl ?_
          refine Wk.iaload (mA_tickTask) (by decide) (i' := 5) rfl (by decide) (by decide) o_run_85 (y := ((A 4) (0 : Int32))) rfl ?_
          refine Wk.istore o_run_86 (Or.inl rfl) (L' := [.val (.ref 0), .unset, .val (.int v2), .val (.int v3), .val (.int ((A 4) (0 : Int32)))]) rfl ?_
          refine Wk.iload o_run_88 rfl ?_
          refine Wk.if_lt o_run_90 (fun q46 => ?_) (fun q46 => ?_)
          · refine Wk.aloadN o_run_111 rfl ?_
            refine Wk.dup o_run_112 rfl ?_
            refine Wk.getI (mI_now) (wf_now H) o_run_113 (x := (F 7)) rfl ?_
            refine Wk.iconst o_run_116 (z := (1 : Int32)) (by decide) ?_
            refine Wk.iadd o_run_117 ?_
            refine Wk.putI (coC H) (mI_now) (wf_now H) (Or.inl (wy_now H)) o_run_118 ?_
            refine Wk.aloadN o_run_121 rfl ?_
            refine Wk.dup o_run_122 rfl ?_
            refine Wk.getI (mI_pos) (wf_pos H) o_run_123 (x := (0 : Int32)) rfl ?_
            refine Wk.iconst o_run_126 (z := (1 : Int32)) (by decide) ?_
            refine Wk.iadd o_run_127 ?_
            refine Wk.putI (coC H) (mI_pos) (wf_pos H) (Or.inl (wy_pos H)) o_run_128 ?_
            refine Wk.aloadN o_run_131 rfl ?_
            refine Wk.getI (mI_pos) (wf_pos H) o_run_132 (x := ((0 : Int32) + (1 : Int32))) rfl ?_
            refine Wk.aloadN o_run_135 rfl ?_
            refine Wk.getI (mI_hyper) (wf_hyper H) o_run_136 (x := (F 3)) rfl ?_
            refine Wk.icmp_lt o_run_139 (fun q48 => ?_) (fun q48 => ?_)
            · refine Wk.iinc o_run_147 rfl (z := (v3 + (1 : Int32))) rfl (L' := [.val (.ref 0), .unset, .val (.int v2), .val (.int (v3 + (1 : Int32))), .val (.int ((A 4) (0 : Int32)))]) rfl ?_
              refine Wk.goto o_run_150 ?_
              refine Wk.forget [false, false, false, false, true] (L' := [.val (.ref 0), .unset, .val (.int v2), .val (.int (v3 + (1 : Int32))), .unset]) rfl rfl ?_
              exact (h49 q1 q3 q19 q33 q46 q48)
            · refine Wk.aloadN o_run_142 rfl ?_
              refine Wk.iconst o_run_143 (z := (0 : Int32)) (by decide) ?_
              refine Wk.putI (coC H) (mI_pos) (wf_pos H) (Or.inl (wy_pos H)) o_run_144 ?_
              refine Wk.iinc o_run_147 rfl (z := (v3 + (1 : Int32))) rfl (L' := [.val (.ref 0), .unset, .val (.int v2), .val (.int (v3 + (1 : Int32))), .val (.int ((A 4) (0 : Int32)))]) rfl ?_
              refine Wk.goto o_run_150 ?_
              refine Wk.forget [false, false, false, false, true] (L' := [.val (.ref 0), .unset, .val (.int v2), .val (.int (v3 + (1 : Int32))), .unset]) rfl rfl ?_
              exact (h50 q1 q3 q19 q33 q46 q48)
          · refine Wk.iload o_run_93 rfl ?_
            refine Wk.bipush o_run_95 (z := (8 : Int32)) (by decide) ?_
            refine Wk.icmp_ge o_run_97 (fun q51 => ?_) (fun q51 => ?_)
            · refine Wk.aloadN o_run_111 rfl ?_
              refine Wk.dup o_run_112 rfl ?_
              refine Wk.getI (mI_now) (wf_now H) o_run_113 (x := (F 7)) rfl ?_
              refine Wk.iconst o_run_116 (z := (1 : Int32)) (by decide) ?_
              refine Wk.iadd o_run_117 ?_
              refine Wk.putI (coC H) (mI_now) (wf_now H) (Or.inl (wy_now H)) o_run_118 ?_
              refine Wk.aloadN o_run_121 rfl ?_
              refine Wk.dup o_run_122 rfl ?_
              refine Wk.getI (mI_pos) (wf_pos H) o_run_123 (x := (0 : Int32)) rfl ?_
              refine Wk.iconst o_run_126 (z := (1 : Int32)) (by decide) ?_
              refine Wk.iadd o_run_127 ?_
              refine Wk.putI (coC H) (mI_pos) (wf_pos H) (Or.inl (wy_pos H)) o_run_128 ?_
              refine Wk.aloadN o_run_131 rfl ?_
              refine Wk.getI (mI_pos) (wf_pos H) o_run_132 (x := ((0 : Int32) + (1 : Int32))) rfl ?_
              refine Wk.aloadN o_run_135 rfl ?_
              refine Wk.getI (mI_hyper) (wf_hyper H) o_run_136 (x := (F 3)) rfl ?_
              refine Wk.icmp_lt o_run_139 (fun q52 => ?_) (fun q52 => ?_)
              · refine Wk.iinc o_run_147 rfl (z := (v3 + (1 : Int32))) rfl (L' := [.val (.ref 0), .unset, .val (.int v2), .val (.int (v3 + (1 : Int32))), .val (.int ((A 4) (0 : Int32)))]) rfl ?_
                refine Wk.goto o_run_150 ?_
                refine Wk.forget [false, false, false, false, true] (L' := [.val (.ref 0), .unset, .val (.int v2), .val (.int (v3 + (1 : Int32))), .unset]) rfl rfl ?_
                exact (h53 q1 q3 q19 q33 q46 q51 q52)
              · refine Wk.aloadN o_run_142 rfl ?_
                refine Wk.iconst o_run_143 (z := (0 : Int32)) (by decide) ?_
                refine Wk.putI (coC H) (mI_pos) (wf_pos H) (Or.inl (wy_pos H)) o_run_144 ?_
                refine Wk.iinc o_run_147 rfl (z := (v3 + (1 : Int32))) rfl (L' := [.val (.ref 0), .unset, .val (.int v2), .val (.int (v3 + (1 : Int32))), .val (.int ((A 4) (0 : Int32)))]) rfl ?_
                refine Wk.goto o_run_150 ?_
                refine Wk.forget [false, false, false, false, true] (L' := [.val (.ref 0), .unset, .val (.int v2), .val (.int (v3 + (1 : Int32))), .unset]) rfl rfl ?_
                exact (h54 q1 q3 q19 q33 q46 q51 q52)
            · refine Wk.aloadN o_run_100 rfl ?_
              refine Wk.getA (mA_runCnt) (by decide) (i' := 4) rfl (wf_runCnt H) o_run_101 ?_
              refine Wk.iload o_run_104 rfl ?_
              refine Wk.dup2 o_run_106 rfl rfl ?_
              refine Wk.iaload (mA_runCnt) (by decide) (i' := 4) rfl q46 q51 o_run_107 (y := ((A 3) ((A 4) (0 : Int32)))) rfl ?_
              refine Wk.iconst o_run_108 (z := (1 : Int32)) (by decide) ?_
              refine Wk.iadd o_run_109 ?_
              refine Wk.iastore (coC H) (f := (A 3)) (mA_runCnt) rfl (by decide) (i' := 4) rfl q46 q51 o_run_110 ?_
              refine Wk.aloadN o_run_111 rfl ?_
              refine Wk.dup o_run_112 rfl ?_
              refine Wk.getI (mI_now) (wf_now H) o_run_113 (x := (F 7)) rfl ?_
              refine Wk.iconst o_run_116 (z := (1 : Int32)) (by decide) ?_
              refine Wk.iadd o_run_117 ?_
              refine Wk.putI (coC H) (mI_now) (wf_now H) (Or.inl (wy_now H)) o_run_118 ?_
              refine Wk.aloadN o_run_121 rfl ?_
              refine Wk.dup o_run_122 rfl ?_
              refine Wk.getI (mI_pos) (wf_pos H) o_run_123 (x := (0 : Int32)) rfl ?_
              refine Wk.iconst o_run_126 (z := (1 : Int32)) (by decide) ?_
              refine Wk.iadd o_run_127 ?_
              refine Wk.putI (coC H) (mI_pos) (wf_pos H) (Or.inl (wy_pos H)) o_run_128 ?_
              refine Wk.aloadN o_run_131 rfl ?_
              refine Wk.getI (mI_pos) (wf_pos H) o_run_132 (x := ((0 : Int32) + (1 : Int32))) rfl ?_
              refine Wk.aloadN o_run_135 rfl ?_
              refine Wk.getI (mI_hyper) (wf_hyper H) o_run_136 (x := (F 3)) rfl ?_
              refine Wk.icmp_lt o_run_139 (fun q55 => ?_) (fun q55 => ?_)
              · refine Wk.iinc o_run_147 rfl (z := (v3 + (1 : Int32))) rfl (L' := [.val (.ref 0), .unset, .val (.int v2), .val (.int (v3 + (1 : Int32))), .val (.int ((A 4) (0 : Int32)))]) rfl ?_
                refine Wk.goto o_run_150 ?_
                refine Wk.forget [false, false, false, false, true] (L' := [.val (.ref 0), .unset, .val (.int v2), .val (.int (v3 + (1 : Int32))), .unset]) rfl rfl ?_
                exact (h56 q1 q3 q19 q33 q46 q51 q55)
              · refine Wk.aloadN o_run_142 rfl ?_
                refine Wk.iconst o_run_143 (z := (0 : Int32)) (by decide) ?_
                refine Wk.putI (coC H) (mI_pos) (wf_pos H) (Or.inl (wy_pos H)) o_run_144 ?_
                refine Wk.iinc o_run_147 rfl (z := (v3 + (1 : Int32))) rfl (L' := [.val (.ref 0), .unset, .val (.int v2), .val (.int (v3 + (1 : Int32))), .val (.int ((A 4) (0 : Int32)))]) rfl ?_
                refine Wk.goto o_run_150 ?_
                refine Wk.forget [false, false, false, false, true] (L' := [.val (.ref 0), .unset, .val (.int v2), .val (.int (v3 + (1 : Int32))), .unset]) rfl rfl ?_
                exact (h57 q1 q3 q19 q33 q46 q51 q55)

theorem rt_run (G : Nat → Int64) (B : Nat → Int32 → Int64) (v0 : Int32) (xF : Nat → Int32) (xA : Nat → Int32 → Int32) (r : Int32 × (Nat → Int32) × (Nat → Int32 → Int32)) (e : (v0, xF, xA) = r) : some (Value.int v0) = some (.int r.1) ∧ (7, xF, G, xA, B) = (7, r.2.1, G, r.2.2, B) := by subst e; exact ⟨rfl, rfl⟩
def lp_run : Nat → Nat → Int32 → Int32 → (Nat → Int32) → (Nat → Int32 → Int32) → Option (Int32 × (Nat → Int32) × (Nat → Int32 → Int32))
  | 0, _, _, _, _, _ => none
  | n + 1, tag, v2, v3, F, A => if tag = 39 then (if v3 < v2 then (if (F 8) < 0 then (if ((A 4) (0 : Int32)) < 0 then (if ((0 : Int32) + (1 : Int32)) < (F 3) then lp_run n 39 v2 (v3 + (1 : Int32)) (ups (ups (ups F 8 (0 : Int32)) 7 ((F 7) + (1 : Int32))) 8 ((0 : Int32) + (1 : Int32))) A else lp_run n 39 v2 (v3 + (1 : Int32)) (ups (ups (ups (ups F 8 (0 : Int32)) 7 ((F 7) + (1 : Int32))) 8 ((0 : Int32) + (1 : Int32))) 8 (0 : Int32)) A) else (if ((A 4) (0 : Int32)) < (8 : Int32) then (if ((0 : Int32) + (1 : Int32)) < (F 3) then lp_run n 39 v2 (v3 + (1 : Int32)) (ups (ups (ups F 8 (0 : Int32)) 7 ((F 7) + (1 : Int32))) 8 ((0 : Int32) + (1 : Int32))) (ups A 3 (ups (A 3) ((A 4) (0 : Int32)) (((A 3) ((A 4) (0 : Int32))) + (1 : Int32)))) else lp_run n 39 v2 (v3 + (1 : Int32)) (ups (ups (ups (ups F 8 (0 : Int32)) 7 ((F 7) + (1 : Int32))) 8 ((0 : Int32) + (1 : Int32))) 8 (0 : Int32)) (ups A 3 (ups (A 3) ((A 4) (0 : Int32)) (((A 3) ((A 4) (0 : Int32))) + (1 : Int32))))) else (if ((0 : Int32) + (1 : Int32)) < (F 3) then lp_run n 39 v2 (v3 + (1 : Int32)) (ups (ups (ups F 8 (0 : Int32)) 7 ((F 7) + (1 : Int32))) 8 ((0 : Int32) + (1 : Int32))) A else lp_run n 39 v2 (v3 + (1 : Int32)) (ups (ups (ups (ups F 8 (0 : Int32)) 7 ((F 7) + (1 : Int32))) 8 ((0 : Int32) + (1 : Int32))) 8 (0 : Int32)) A))) else (if (F 8) < (F 3) then (if (F 8) < (128 : Int32) then (if ((A 4) (F 8)) < 0 then (if ((F 8) + (1 : Int32)) < (F 3) then lp_run n 39 v2 (v3 + (1 : Int32)) (ups (ups F 7 ((F 7) + (1 : Int32))) 8 ((F 8) + (1 : Int32))) A else lp_run n 39 v2 (v3 + (1 : Int32)) (ups (ups (ups F 7 ((F 7) + (1 : Int32))) 8 ((F 8) + (1 : Int32))) 8 (0 : Int32)) A) else (if ((A 4) (F 8)) < (8 : Int32) then (if ((F 8) + (1 : Int32)) < (F 3) then lp_run n 39 v2 (v3 + (1 : Int32)) (ups (ups F 7 ((F 7) + (1 : Int32))) 8 ((F 8) + (1 : Int32))) (ups A 3 (ups (A 3) ((A 4) (F 8)) (((A 3) ((A 4) (F 8))) + (1 : Int32)))) else lp_run n 39 v2 (v3 + (1 : Int32)) (ups (ups (ups F 7 ((F 7) + (1 : Int32))) 8 ((F 8) + (1 : Int32))) 8 (0 : Int32)) (ups A 3 (ups (A 3) ((A 4) (F 8)) (((A 3) ((A 4) (F 8))) + (1 : Int32))))) else (if ((F 8) + (1 : Int32)) < (F 3) then lp_run n 39 v2 (v3 + (1 : Int32)) (ups (ups F 7 ((F 7) + (1 : Int32))) 8 ((F 8) + (1 : Int32))) A else lp_run n 39 v2 (v3 + (1 : Int32)) (ups (ups (ups F 7 ((F 7) + (1 : Int32))) 8 ((F 8) + (1 : Int32))) 8 (0 : Int32)) A))) else (if ((A 4) (0 : Int32)) < 0 then (if ((0 : Int32) + (1 : Int32)) < (F 3) then lp_run n 39 v2 (v3 + (1 : Int32)) (ups (ups (ups F 8 (0 : Int32)) 7 ((F 7) + (1 : Int32))) 8 ((0 : Int32) + (1 : Int32))) A else lp_run n 39 v2 (v3 + (1 : Int32)) (ups (ups (ups (ups F 8 (0 : Int32)) 7 ((F 7) + (1 : Int32))) 8 ((0 : Int32) + (1 : Int32))) 8 (0 : Int32)) A) else (if ((A 4) (0 : Int32)) < (8 : Int32) then (if ((0 : Int32) + (1 : Int32)) < (F 3) then lp_run n 39 v2 (v3 + (1 : Int32)) (ups (ups (ups F 8 (0 : Int32)) 7 ((F 7) + (1 : Int32))) 8 ((0 : Int32) + (1 : Int32))) (ups A 3 (ups (A 3) ((A 4) (0 : Int32)) (((A 3) ((A 4) (0 : Int32))) + (1 : Int32)))) else lp_run n 39 v2 (v3 + (1 : Int32)) (ups (ups (ups (ups F 8 (0 : Int32)) 7 ((F 7) + (1 : Int32))) 8 ((0 : Int32) + (1 : Int32))) 8 (0 : Int32)) (ups A 3 (ups (A 3) ((A 4) (0 : Int32)) (((A 3) ((A 4) (0 : Int32))) + (1 : Int32))))) else (if ((0 : Int32) + (1 : Int32)) < (F 3) then lp_run n 39 v2 (v3 + (1 : Int32)) (ups (ups (ups F 8 (0 : Int32)) 7 ((F 7) + (1 : Int32))) 8 ((0 : Int32) + (1 : Int32))) A else lp_run n 39 v2 (v3 + (1 : Int32)) (ups (ups (ups (ups F 8 (0 : Int32)) 7 ((F 7) + (1 : Int32))) 8 ((0 : Int32) + (1 : Int32))) 8 (0 : Int32)) A)))) else (if ((A 4) (0 : Int32)) < 0 then (if ((0 : Int32) + (1 : Int32)) < (F 3) then lp_run n 39 v2 (v3 + (1 : Int32)) (ups (ups (ups F 8 (0 : Int32)) 7 ((F 7) + (1 : Int32))) 8 ((0 : Int32) + (1 : Int32))) A else lp_run n 39 v2 (v3 + (1 : Int32)) (ups (ups (ups (ups F 8 (0 : Int32)) 7 ((F 7) + (1 : Int32))) 8 ((0 : Int32) + (1 : Int32))) 8 (0 : Int32)) A) else (if ((A 4) (0 : Int32)) < (8 : Int32) then (if ((0 : Int32) + (1 : Int32)) < (F 3) then lp_run n 39 v2 (v3 + (1 : Int32)) (ups (ups (ups F 8 (0 : Int32)) 7 ((F 7) + (1 : Int32))) 8 ((0 : Int32) + (1 : Int32))) (ups A 3 (ups (A 3) ((A 4) (0 : Int32)) (((A 3) ((A 4) (0 : Int32))) + (1 : Int32)))) else lp_run n 39 v2 (v3 + (1 : Int32)) (ups (ups (ups (ups F 8 (0 : Int32)) 7 ((F 7) + (1 : Int32))) 8 ((0 : Int32) + (1 : Int32))) 8 (0 : Int32)) (ups A 3 (ups (A 3) ((A 4) (0 : Int32)) (((A 3) ((A 4) (0 : Int32))) + (1 : Int32))))) else (if ((0 : Int32) + (1 : Int32)) < (F 3) then lp_run n 39 v2 (v3 + (1 : Int32)) (ups (ups (ups F 8 (0 : Int32)) 7 ((F 7) + (1 : Int32))) 8 ((0 : Int32) + (1 : Int32))) A else lp_run n 39 v2 (v3 + (1 : Int32)) (ups (ups (ups (ups F 8 (0 : Int32)) 7 ((F 7) + (1 : Int32))) 8 ((0 : Int32) + (1 : Int32))) 8 (0 : Int32)) A))))) else some (v2, F, A)) else none
theorem lp_run_z (tag : Nat) (v2 : Int32) (v3 : Int32) (F : Nat → Int32) (A : Nat → Int32 → Int32) : lp_run 0 tag v2 v3 F A = none := Eq.trans rfl rfl
theorem lp_run_39 (n : Nat) (v2 : Int32) (v3 : Int32) (F : Nat → Int32) (A : Nat → Int32 → Int32) : lp_run (n + 1) 39 v2 v3 F A = (if v3 < v2 then (if (F 8) < 0 then (if ((A 4) (0 : Int32)) < 0 then (if ((0 : Int32) + (1 : Int32)) < (F 3) then lp_run n 39 v2 (v3 + (1 : Int32)) (ups (ups (ups F 8 (0 : Int32)) 7 ((F 7) + (1 : Int32))) 8 ((0 : Int32) + (1 : Int32))) A else lp_run n 39 v2 (v3 + (1 : Int32)) (ups (ups (ups (ups F 8 (0 : Int32)) 7 ((F 7) + (1 : Int32))) 8 ((0 : Int32) + (1 : Int32))) 8 (0 : Int32)) A) else (if ((A 4) (0 : Int32)) < (8 : Int32) then (if ((0 : Int32) + (1 : Int32)) < (F 3) then lp_run n 39 v2 (v3 + (1 : Int32)) (ups (ups (ups F 8 (0 : Int32)) 7 ((F 7) + (1 : Int32))) 8 ((0 : Int32) + (1 : Int32))) (ups A 3 (ups (A 3) ((A 4) (0 : Int32)) (((A 3) ((A 4) (0 : Int32))) + (1 : Int32)))) else lp_run n 39 v2 (v3 + (1 : Int32)) (ups (ups (ups (ups F 8 (0 : Int32)) 7 ((F 7) + (1 : Int32))) 8 ((0 : Int32) + (1 : Int32))) 8 (0 : Int32)) (ups A 3 (ups (A 3) ((A 4) (0 : Int32)) (((A 3) ((A 4) (0 : Int32))) + (1 : Int32))))) else (if ((0 : Int32) + (1 : Int32)) < (F 3) then lp_run n 39 v2 (v3 + (1 : Int32)) (ups (ups (ups F 8 (0 : Int32)) 7 ((F 7) + (1 : Int32))) 8 ((0 : Int32) + (1 : Int32))) A else lp_run n 39 v2 (v3 + (1 : Int32)) (ups (ups (ups (ups F 8 (0 : Int32)) 7 ((F 7) + (1 : Int32))) 8 ((0 : Int32) + (1 : Int32))) 8 (0 : Int32)) A))) else (if (F 8) < (F 3) then (if (F 8) < (128 : Int32) then (if ((A 4) (F 8)) < 0 then (if ((F 8) + (1 : Int32)) < (F 3) then lp_run n 39 v2 (v3 + (1 : Int32)) (ups (ups F 7 ((F 7) + (1 : Int32))) 8 ((F 8) + (1 : Int32))) A else lp_run n 39 v2 (v3 + (1 : Int32)) (ups (ups (ups F 7 ((F 7) + (1 : Int32))) 8 ((F 8) + (1 : Int32))) 8 (0 : Int32)) A) else (if ((A 4) (F 8)) < (8 : Int32) then (if ((F 8) + (1 : Int32)) < (F 3) then lp_run n 39 v2 (v3 + (1 : Int32)) (ups (ups F 7 ((F 7) + (1 : Int32))) 8 ((F 8) + (1 : Int32))) (ups A 3 (ups (A 3) ((A 4) (F 8)) (((A 3) ((A 4) (F 8))) + (1 : Int32)))) else lp_run n 39 v2 (v3 + (1 : Int32)) (ups (ups (ups F 7 ((F 7) + (1 : Int32))) 8 ((F 8) + (1 : Int32))) 8 (0 : Int32)) (ups A 3 (ups (A 3) ((A 4) (F 8)) (((A 3) ((A 4) (F 8))) + (1 : Int32))))) else (if ((F 8) + (1 : Int32)) < (F 3) then lp_run n 39 v2 (v3 + (1 : Int32)) (ups (ups F 7 ((F 7) + (1 : Int32))) 8 ((F 8) + (1 : Int32))) A else lp_run n 39 v2 (v3 + (1 : Int32)) (ups (ups (ups F 7 ((F 7) + (1 : Int32))) 8 ((F 8) + (1 : Int32))) 8 (0 : Int32)) A))) else (if ((A 4) (0 : Int32)) < 0 then (if ((0 : Int32) + (1 : Int32)) < (F 3) then lp_run n 39 v2 (v3 + (1 : Int32)) (ups (ups (ups F 8 (0 : Int32)) 7 ((F 7) + (1 : Int32))) 8 ((0 : Int32) + (1 : Int32))) A else lp_run n 39 v2 (v3 + (1 : Int32)) (ups (ups (ups (ups F 8 (0 : Int32)) 7 ((F 7) + (1 : Int32))) 8 ((0 : Int32) + (1 : Int32))) 8 (0 : Int32)) A) else (if ((A 4) (0 : Int32)) < (8 : Int32) then (if ((0 : Int32) + (1 : Int32)) < (F 3) then lp_run n 39 v2 (v3 + (1 : Int32)) (ups (ups (ups F 8 (0 : Int32)) 7 ((F 7) + (1 : Int32))) 8 ((0 : Int32) + (1 : Int32))) (ups A 3 (ups (A 3) ((A 4) (0 : Int32)) (((A 3) ((A 4) (0 : Int32))) + (1 : Int32)))) else lp_run n 39 v2 (v3 + (1 : Int32)) (ups (ups (ups (ups F 8 (0 : Int32)) 7 ((F 7) + (1 : Int32))) 8 ((0 : Int32) + (1 : Int32))) 8 (0 : Int32)) (ups A 3 (ups (A 3) ((A 4) (0 : Int32)) (((A 3) ((A 4) (0 : Int32))) + (1 : Int32))))) else (if ((0 : Int32) + (1 : Int32)) < (F 3) then lp_run n 39 v2 (v3 + (1 : Int32)) (ups (ups (ups F 8 (0 : Int32)) 7 ((F 7) + (1 : Int32))) 8 ((0 : Int32) + (1 : Int32))) A else lp_run n 39 v2 (v3 + (1 : Int32)) (ups (ups (ups (ups F 8 (0 : Int32)) 7 ((F 7) + (1 : Int32))) 8 ((0 : Int32) + (1 : Int32))) 8 (0 : Int32)) A)))) else (if ((A 4) (0 : Int32)) < 0 then (if ((0 : Int32) + (1 : Int32)) < (F 3) then lp_run n 39 v2 (v3 + (1 : Int32)) (ups (ups (ups F 8 (0 : Int32)) 7 ((F 7) + (1 : Int32))) 8 ((0 : Int32) + (1 : Int32))) A else lp_run n 39 v2 (v3 + (1 : Int32)) (ups (ups (ups (ups F 8 (0 : Int32)) 7 ((F 7) + (1 : Int32))) 8 ((0 : Int32) + (1 : Int32))) 8 (0 : Int32)) A) else (if ((A 4) (0 : Int32)) < (8 : Int32) then (if ((0 : Int32) + (1 : Int32)) < (F 3) then lp_run n 39 v2 (v3 + (1 : Int32)) (ups (ups (ups F 8 (0 : Int32)) 7 ((F 7) + (1 : Int32))) 8 ((0 : Int32) + (1 : Int32))) (ups A 3 (ups (A 3) ((A 4) (0 : Int32)) (((A 3) ((A 4) (0 : Int32))) + (1 : Int32)))) else lp_run n 39 v2 (v3 + (1 : Int32)) (ups (ups (ups (ups F 8 (0 : Int32)) 7 ((F 7) + (1 : Int32))) 8 ((0 : Int32) + (1 : Int32))) 8 (0 : Int32)) (ups A 3 (ups (A 3) ((A 4) (0 : Int32)) (((A 3) ((A 4) (0 : Int32))) + (1 : Int32))))) else (if ((0 : Int32) + (1 : Int32)) < (F 3) then lp_run n 39 v2 (v3 + (1 : Int32)) (ups (ups (ups F 8 (0 : Int32)) 7 ((F 7) + (1 : Int32))) 8 ((0 : Int32) + (1 : Int32))) A else lp_run n 39 v2 (v3 + (1 : Int32)) (ups (ups (ups (ups F 8 (0 : Int32)) 7 ((F 7) + (1 : Int32))) 8 ((0 : Int32) + (1 : Int32))) 8 (0 : Int32)) A))))) else some (v2, F, A)) := by
  rw [lp_run, if_pos rfl]
set_option maxRecDepth 65536 in
set_option maxHeartbeats 4000000 in
theorem lpw_run {l : Launch} {Z : State} {a0 : Array Value} (H : OK Z a0) (G : Nat → Int64) (B : Nat → Int32 → Int64) : ∀ (n : Nat) (v2 : Int32) (v3 : Int32) (F : Nat → Int32) (A : Nat → Int32 → Int32) (r : Int32 × (Nat → Int32) × (Nat → Int32 → Int32)), (lp_run n 39 v2 v3 F A = some r → Wk l Z (MoC Z cdC) md_run 39 [.val (.ref 0), .unset, .val (.int v2), .val (.int v3), .unset] [] (7, F, G, A, B) 0 0 (fun v w' => v = some (.int r.1) ∧ w' = (7, r.2.1, G, r.2.2, B))) := by
  intro n
  induction n with
  | zero =>
    intro v2 v3 F A r
    exact (fun h => by rw [lp_run_z] at h; cases h)
  | succ n ih =>
    intro v2 v3 F A r
    refine fun h => ?_
    · rw [lp_run_39] at h
      exact wp_run_39 H F G A B v2 v3 (fun q1 => (rt_run _ _ _ _ _ r (Option.some.inj (ifn q1 h)))) (fun q1 q3 q7 q9 => (ih _ _ _ _ _) (ifp q9 (ifp q7 (ifp q3 (ifp q1 h))))) (fun q1 q3 q7 q9 => (ih _ _ _ _ _) (ifn q9 (ifp q7 (ifp q3 (ifp q1 h))))) (fun q1 q3 q7 q12 q13 => (ih _ _ _ _ _) (ifp q13 (ifn q12 (ifn q7 (ifp q3 (ifp q1 h)))))) (fun q1 q3 q7 q12 q13 => (ih _ _ _ _ _) (ifn q13 (ifn q12 (ifn q7 (ifp q3 (ifp q1 h)))))) (fun q1 q3 q7 q12 q16 => (ih _ _ _ _ _) (ifp q16 (ifp q12 (ifn q7 (ifp q3 (ifp q1 h)))))) (fun q1 q3 q7 q12 q16 => (ih _ _ _ _ _) (ifn q16 (ifp q12 (ifn q7 (ifp q3 (ifp q1 h)))))) (fun q1 q3 q19 q21 q23 => (ih _ _ _ _ _) (ifp q23 (ifp q21 (ifn q19 (ifn q3 (ifp q1 h)))))) (fun q1 q3 q19 q21 q23 => (ih _ _ _ _ _) (ifn q23 (ifp q21 (ifn q19 (ifn q3 (ifp q1 h)))))) (fun q1 q3 q19 q21 q26 q27 => (ih _ _ _ _ _) (ifp q27 (ifn q26 (ifn q21 (ifn q19 (ifn q3 (ifp q1 h))))))) (fun q1 q3 q19 q21 q26 q27 => (ih _ _ _ _ _) (ifn q27 (ifn q26 (ifn q21 (ifn q19 (ifn q3 (ifp q1 h))))))) (fun q1 q3 q19 q21 q26 q30 => (ih _ _ _ _ _) (ifp q30 (ifp q26 (ifn q21 (ifn q19 (ifn q3 (ifp q1 h))))))) (fun q1 q3 q19 q21 q26 q30 => (ih _ _ _ _ _) (ifn q30 (ifp q26 (ifn q21 (ifn q19 (ifn q3 (ifp q1 h))))))) (fun q1 q3 q19 q33 q34 q36 => (ih _ _ _ _ _) (ifp q36 (ifp q34 (ifp q33 (ifp q19 (ifn q3 (ifp q1 h))))))) (fun q1 q3 q19 q33 q34 q36 => (ih _ _ _ _ _) (ifn q36 (ifp q34 (ifp q33 (ifp q19 (ifn q3 (ifp q1 h))))))) (fun q1 q3 q19 q33 q34 q39 q40 => (ih _ _ _ _ _) (ifp q40 (ifn q39 (ifn q34 (ifp q33 (ifp q19 (ifn q3 (ifp q1 h)))))))) (fun q1 q3 q19 q33 q34 q39 q40 => (ih _ _ _ _ _) (ifn q40 (ifn q39 (ifn q34 (ifp q33 (ifp q19 (ifn q3 (ifp q1 h)))))))) (fun q1 q3 q19 q33 q34 q39 q43 => (ih _ _ _ _ _) (ifp q43 (ifp q39 (ifn q34 (ifp q33 (ifp q19 (ifn q3 (ifp q1 h)))))))) (fun q1 q3 q19 q33 q34 q39 q43 => (ih _ _ _ _ _) (ifn q43 (ifp q39 (ifn q34 (ifp q33 (ifp q19 (ifn q3 (ifp q1 h)))))))) (fun q1 q3 q19 q33 q46 q48 => (ih _ _ _ _ _) (ifp q48 (ifp q46 (ifn q33 (ifp q19 (ifn q3 (ifp q1 h))))))) (fun q1 q3 q19 q33 q46 q48 => (ih _ _ _ _ _) (ifn q48 (ifp q46 (ifn q33 (ifp q19 (ifn q3 (ifp q1 h))))))) (fun q1 q3 q19 q33 q46 q51 q52 => (ih _ _ _ _ _) (ifp q52 (ifn q51 (ifn q46 (ifn q33 (ifp q19 (ifn q3 (ifp q1 h)))))))) (fun q1 q3 q19 q33 q46 q51 q52 => (ih _ _ _ _ _) (ifn q52 (ifn q51 (ifn q46 (ifn q33 (ifp q19 (ifn q3 (ifp q1 h)))))))) (fun q1 q3 q19 q33 q46 q51 q55 => (ih _ _ _ _ _) (ifp q55 (ifp q51 (ifn q46 (ifn q33 (ifp q19 (ifn q3 (ifp q1 h)))))))) (fun q1 q3 q19 q33 q46 q51 q55 => (ih _ _ _ _ _) (ifn q55 (ifp q51 (ifn q46 (ifn q33 (ifp q19 (ifn q3 (ifp q1 h))))))))
def en_run (F : Nat → Int32) (A : Nat → Int32 → Int32) (p1 : Int32) : Option (Int32 × (Nat → Int32) × (Nat → Int32 → Int32)) := (if (F 4) = 0 then some ((0 : Int32), F, A) else (if p1 < (1 : Int32) then some ((0 : Int32), F, A) else (if (F 3) < (1 : Int32) then some ((0 : Int32), F, A) else lp_run 5000 39 (if p1 < (4096 : Int32) then p1 else (4096 : Int32)) (0 : Int32) F A)))
theorem een_run (F : Nat → Int32) (A : Nat → Int32 → Int32) (p1 : Int32) : en_run F A p1 = (if (F 4) = 0 then some ((0 : Int32), F, A) else (if p1 < (1 : Int32) then some ((0 : Int32), F, A) else (if (F 3) < (1 : Int32) then some ((0 : Int32), F, A) else lp_run 5000 39 (if p1 < (4096 : Int32) then p1 else (4096 : Int32)) (0 : Int32) F A))) := Eq.trans rfl rfl
def R_run (F : Nat → Int32) (A : Nat → Int32 → Int32) (p1 : Int32) : Int32 × (Nat → Int32) × (Nat → Int32 → Int32) := (en_run F A p1).getD (0, (fun _ => 0), (fun _ _ => 0))
theorem eR_run (F : Nat → Int32) (A : Nat → Int32 → Int32) (p1 : Int32) : R_run F A p1 = (en_run F A p1).getD (0, (fun _ => 0), (fun _ _ => 0)) := Eq.trans rfl rfl
set_option maxRecDepth 65536 in
set_option maxHeartbeats 4000000 in
theorem run_run {l : Launch} {Z : State} {a0 : Array Value} (H : OK Z a0) (F : Nat → Int32) (G : Nat → Int64) (A : Nat → Int32 → Int32) (B : Nat → Int32 → Int64) (p1 : Int32) (e1 : (en_run F A p1).isSome = true) :
    Wk l Z (MoC Z cdC) md_run 0 [.val (.ref 0), .val (.int p1), .unset, .unset, .unset] [] (7, F, G, A, B) 0 0 (fun v w' => v = some (.int (R_run F A p1).1) ∧ w' = (7, (R_run F A p1).2.1, G, (R_run F A p1).2.2, B)) := by
  obtain ⟨r, h⟩ := Option.isSome_iff_exists.mp e1
  have e : R_run F A p1 = r := (eR_run F A p1).trans (getD_some h)
  rw [e]
  rw [een_run] at h
  exact wp_run H F G A B p1 (fun q1 => (rt_run _ _ _ _ _ r (Option.some.inj (ifp q1 h)))) (fun q1 q3 => (rt_run _ _ _ _ _ r (Option.some.inj (ifp q3 (ifn q1 h))))) (fun q1 q3 q5 => (lpw_run H G B _ _ _ _ _ _) (ifn q5 (ifn q3 (ifn q1 h)))) (fun q1 q3 q5 => (rt_run _ _ _ _ _ r (Option.some.inj (ifp q5 (ifn q3 (ifn q1 h))))))
set_option maxRecDepth 65536 in
set_option maxHeartbeats 4000000 in
theorem wp_getTaskCount {l : Launch} {Z : State} {a0 : Array Value} (H : OK Z a0) (F : Nat → Int32) (G : Nat → Int64) (A : Nat → Int32 → Int32) (B : Nat → Int32 → Int64) {Q : Option Value → WO → Prop} (h1 : Q (some (.int (F 2))) (7, F, G, A, B)) :
    Wk l Z (MoC Z cdC) md_getTaskCount 0 [.val (.ref 0)] [] (7, F, G, A, B) 0 0 Q := by
  refine Wk.aloadN o_getTaskCount_0 rfl ?_
  refine Wk.getI (mI_count) (wf_count H) o_getTaskCount_1 (x := (F 2)) rfl ?_
  exact Wk.ireturn mrC rfl o_getTaskCount_4 rfl (by decide) (by decide) h1

def f_getTaskCount (F : Nat → Int32) : Int32 := (F 2)
theorem e_getTaskCount (F : Nat → Int32) : f_getTaskCount F = (F 2) := Eq.trans rfl rfl
theorem run_getTaskCount {l : Launch} {Z : State} {a0 : Array Value} (H : OK Z a0) (F : Nat → Int32) (G : Nat → Int64) (A : Nat → Int32 → Int32) (B : Nat → Int32 → Int64) :
    Wk l Z (MoC Z cdC) md_getTaskCount 0 [.val (.ref 0)] [] (7, F, G, A, B) 0 0 (fun v w' => v = some (.int (f_getTaskCount F)) ∧ w' = (7, F, G, A, B)) :=
  wp_getTaskCount H F G A B ⟨rfl, rfl⟩
set_option maxRecDepth 65536 in
set_option maxHeartbeats 4000000 in
theorem wp_getHyperperiod {l : Launch} {Z : State} {a0 : Array Value} (H : OK Z a0) (F : Nat → Int32) (G : Nat → Int64) (A : Nat → Int32 → Int32) (B : Nat → Int32 → Int64) {Q : Option Value → WO → Prop} (h3 : Q (some (.int (if (F 2) = 0 then (0 : Int32) else (F 3)))) (7, F, G, A, B)) :
    Wk l Z (MoC Z cdC) md_getHyperperiod 0 [.val (.ref 0)] [] (7, F, G, A, B) 0 0 Q := by
  refine Wk.aloadN o_getHyperperiod_0 rfl ?_
  refine Wk.getI (mI_count) (wf_count H) o_getHyperperiod_1 (x := (F 2)) rfl ?_
  have J2 : Wk l Z (MoC Z cdC) md_getHyperperiod 15 [.val (.ref 0)] [.int (if (F 2) = 0 then (0 : Int32) else (F 3))] (7, F, G, A, B) 0 0 Q := by
    exact Wk.ireturn mrC rfl o_getHyperperiod_15 rfl (by decide) (by decide) h3
  refine Wk.if_ne o_getHyperperiod_4 (fun q1 => ?_) (fun q1 => ?_)
  · refine Wk.aloadN o_getHyperperiod_11 rfl ?_
    refine Wk.getI (mI_hyper) (wf_hyper H) o_getHyperperiod_12 (x := (F 3)) rfl ?_
    first | (rw [show ((if (F 2) = 0 then (0 : Int32) else (F 3)) : Int32) = (F 3) from if_neg q1] at J2; exact J2) | exact J2 | (simp only [if_neg q1] at J2 ⊢; exact J2)
  · refine Wk.iconst o_getHyperperiod_7 (z := (0 : Int32)) (by decide) ?_
    refine Wk.goto o_getHyperperiod_8 ?_
    first | (rw [show ((if (F 2) = 0 then (0 : Int32) else (F 3)) : Int32) = (0 : Int32) from if_pos q1] at J2; exact J2) | exact J2 | (simp only [if_pos q1] at J2 ⊢; exact J2)

def f_getHyperperiod (F : Nat → Int32) : Int32 := (if (F 2) = 0 then (0 : Int32) else (F 3))
theorem e_getHyperperiod (F : Nat → Int32) : f_getHyperperiod F = (if (F 2) = 0 then (0 : Int32) else (F 3)) := Eq.trans rfl rfl
theorem run_getHyperperiod {l : Launch} {Z : State} {a0 : Array Value} (H : OK Z a0) (F : Nat → Int32) (G : Nat → Int64) (A : Nat → Int32 → Int32) (B : Nat → Int32 → Int64) :
    Wk l Z (MoC Z cdC) md_getHyperperiod 0 [.val (.ref 0)] [] (7, F, G, A, B) 0 0 (fun v w' => v = some (.int (f_getHyperperiod F)) ∧ w' = (7, F, G, A, B)) :=
  wp_getHyperperiod H F G A B ⟨rfl, rfl⟩
set_option maxRecDepth 65536 in
set_option maxHeartbeats 4000000 in
theorem wp_getFrame {l : Launch} {Z : State} {a0 : Array Value} (H : OK Z a0) (F : Nat → Int32) (G : Nat → Int64) (A : Nat → Int32 → Int32) (B : Nat → Int32 → Int64) {Q : Option Value → WO → Prop} (h3 : Q (some (.int (if (F 4) = 0 then (0 : Int32) else (F 5)))) (7, F, G, A, B)) :
    Wk l Z (MoC Z cdC) md_getFrame 0 [.val (.ref 0)] [] (7, F, G, A, B) 0 0 Q := by
  refine Wk.aloadN o_getFrame_0 rfl ?_
  refine Wk.getI (mI_present) (wf_present H) o_getFrame_1 (x := (F 4)) rfl ?_
  have J2 : Wk l Z (MoC Z cdC) md_getFrame 15 [.val (.ref 0)] [.int (if (F 4) = 0 then (0 : Int32) else (F 5))] (7, F, G, A, B) 0 0 Q := by
    exact Wk.ireturn mrC rfl o_getFrame_15 rfl (by decide) (by decide) h3
  refine Wk.if_eq o_getFrame_4 (fun q1 => ?_) (fun q1 => ?_)
  · refine Wk.iconst o_getFrame_14 (z := (0 : Int32)) (by decide) ?_
    first | (rw [show ((if (F 4) = 0 then (0 : Int32) else (F 5)) : Int32) = (0 : Int32) from if_pos q1] at J2; exact J2) | exact J2 | (simp only [if_pos q1] at J2 ⊢; exact J2)
  · refine Wk.aloadN o_getFrame_7 rfl ?_
    refine Wk.getI (mI_frame) (wf_frame H) o_getFrame_8 (x := (F 5)) rfl ?_
    refine Wk.goto o_getFrame_11 ?_
    first | (rw [show ((if (F 4) = 0 then (0 : Int32) else (F 5)) : Int32) = (F 5) from if_neg q1] at J2; exact J2) | exact J2 | (simp only [if_neg q1] at J2 ⊢; exact J2)

def f_getFrame (F : Nat → Int32) : Int32 := (if (F 4) = 0 then (0 : Int32) else (F 5))
theorem e_getFrame (F : Nat → Int32) : f_getFrame F = (if (F 4) = 0 then (0 : Int32) else (F 5)) := Eq.trans rfl rfl
theorem run_getFrame {l : Launch} {Z : State} {a0 : Array Value} (H : OK Z a0) (F : Nat → Int32) (G : Nat → Int64) (A : Nat → Int32 → Int32) (B : Nat → Int32 → Int64) :
    Wk l Z (MoC Z cdC) md_getFrame 0 [.val (.ref 0)] [] (7, F, G, A, B) 0 0 (fun v w' => v = some (.int (f_getFrame F)) ∧ w' = (7, F, G, A, B)) :=
  wp_getFrame H F G A B ⟨rfl, rfl⟩
set_option maxRecDepth 65536 in
set_option maxHeartbeats 4000000 in
theorem wp_getNow {l : Launch} {Z : State} {a0 : Array Value} (H : OK Z a0) (F : Nat → Int32) (G : Nat → Int64) (A : Nat → Int32 → Int32) (B : Nat → Int32 → Int64) {Q : Option Value → WO → Prop} (h1 : Q (some (.int (F 7))) (7, F, G, A, B)) :
    Wk l Z (MoC Z cdC) md_getNow 0 [.val (.ref 0)] [] (7, F, G, A, B) 0 0 Q := by
  refine Wk.aloadN o_getNow_0 rfl ?_
  refine Wk.getI (mI_now) (wf_now H) o_getNow_1 (x := (F 7)) rfl ?_
  exact Wk.ireturn mrC rfl o_getNow_4 rfl (by decide) (by decide) h1

def f_getNow (F : Nat → Int32) : Int32 := (F 7)
theorem e_getNow (F : Nat → Int32) : f_getNow F = (F 7) := Eq.trans rfl rfl
theorem run_getNow {l : Launch} {Z : State} {a0 : Array Value} (H : OK Z a0) (F : Nat → Int32) (G : Nat → Int64) (A : Nat → Int32 → Int32) (B : Nat → Int32 → Int64) :
    Wk l Z (MoC Z cdC) md_getNow 0 [.val (.ref 0)] [] (7, F, G, A, B) 0 0 (fun v w' => v = some (.int (f_getNow F)) ∧ w' = (7, F, G, A, B)) :=
  wp_getNow H F G A B ⟨rfl, rfl⟩
set_option maxRecDepth 65536 in
set_option maxHeartbeats 4000000 in
theorem wp_getRunTicks {l : Launch} {Z : State} {a0 : Array Value} (H : OK Z a0) (F : Nat → Int32) (G : Nat → Int64) (A : Nat → Int32 → Int32) (B : Nat → Int32 → Int64) (p1 : Int32) {Q : Option Value → WO → Prop} (h2 : p1 < 0 → Q (some (.int (-1 : Int32))) (7, F, G, A, B)) (s4 : ¬ p1 < 0 → p1 < (F 2) → p1 < (8 : Int32)) (h5 : ¬ p1 < 0 → p1 < (F 2) → Q (some (.int ((A 3) p1))) (7, F, G, A, B)) (h6 : ¬ p1 < 0 → ¬ p1 < (F 2) → Q (some (.int (-1 : Int32))) (7, F, G, A, B)) :
    Wk l Z (MoC Z cdC) md_getRunTicks 0 [.val (.ref 0), .val (.int p1)] [] (7, F, G, A, B) 0 0 Q := by
  refine Wk.iloadN o_getRunTicks_0 rfl ?_
  refine Wk.if_lt o_getRunTicks_1 (fun q1 => ?_) (fun q1 => ?_)
  · refine Wk.iconst o_getRunTicks_12 (z := (-1 : Int32)) (by decide) ?_
    exact Wk.ireturn mrC rfl o_getRunTicks_13 rfl (by decide) (by decide) (h2 q1)
  · refine Wk.iloadN o_getRunTicks_4 rfl ?_
    refine Wk.aloadN o_getRunTicks_5 rfl ?_
    refine Wk.getI (mI_count) (wf_count H) o_getRunTicks_6 (x := (F 2)) rfl ?_
    refine Wk.icmp_lt o_getRunTicks_9 (fun q3 => ?_) (fun q3 => ?_)
    · refine Wk.aloadN o_getRunTicks_14 rfl ?_
      refine Wk.getA (mA_runCnt) (by decide) (i' := 4) rfl (wf_runCnt H) o_getRunTicks_15 ?_
      refine Wk.iloadN o_getRunTicks_18 rfl ?_
      refine Wk.iaload (mA_runCnt) (by decide) (i' := 4) rfl q1 (s4 q1 q3) o_getRunTicks_19 (y := ((A 3) p1)) rfl ?_
      exact Wk.ireturn mrC rfl o_getRunTicks_20 rfl (by decide) (by decide) (h5 q1 q3)
    · refine Wk.iconst o_getRunTicks_12 (z := (-1 : Int32)) (by decide) ?_
      exact Wk.ireturn mrC rfl o_getRunTicks_13 rfl (by decide) (by decide) (h6 q1 q3)

theorem rt_getRunTicks (F : Nat → Int32) (G : Nat → Int64) (A : Nat → Int32 → Int32) (B : Nat → Int32 → Int64) (v0 : Int32) (r : Int32) (e : v0 = r) : some (Value.int v0) = some (.int r) ∧ (7, F, G, A, B) = (7, F, G, A, B) := by subst e; exact ⟨rfl, rfl⟩
def en_getRunTicks (F : Nat → Int32) (A : Nat → Int32 → Int32) (p1 : Int32) : Option (Int32) := (if p1 < 0 then some ((-1 : Int32)) else (if p1 < (F 2) then (if (p1 < (8 : Int32)) then some (((A 3) p1)) else none) else some ((-1 : Int32))))
theorem een_getRunTicks (F : Nat → Int32) (A : Nat → Int32 → Int32) (p1 : Int32) : en_getRunTicks F A p1 = (if p1 < 0 then some ((-1 : Int32)) else (if p1 < (F 2) then (if (p1 < (8 : Int32)) then some (((A 3) p1)) else none) else some ((-1 : Int32)))) := Eq.trans rfl rfl
def R_getRunTicks (F : Nat → Int32) (A : Nat → Int32 → Int32) (p1 : Int32) : Int32 := (en_getRunTicks F A p1).getD (0)
theorem eR_getRunTicks (F : Nat → Int32) (A : Nat → Int32 → Int32) (p1 : Int32) : R_getRunTicks F A p1 = (en_getRunTicks F A p1).getD (0) := Eq.trans rfl rfl
set_option maxRecDepth 65536 in
set_option maxHeartbeats 4000000 in
theorem run_getRunTicks {l : Launch} {Z : State} {a0 : Array Value} (H : OK Z a0) (F : Nat → Int32) (G : Nat → Int64) (A : Nat → Int32 → Int32) (B : Nat → Int32 → Int64) (p1 : Int32) (e1 : (en_getRunTicks F A p1).isSome = true) :
    Wk l Z (MoC Z cdC) md_getRunTicks 0 [.val (.ref 0), .val (.int p1)] [] (7, F, G, A, B) 0 0 (fun v w' => v = some (.int (R_getRunTicks F A p1)) ∧ w' = (7, F, G, A, B)) := by
  obtain ⟨r, h⟩ := Option.isSome_iff_exists.mp e1
  have e : R_getRunTicks F A p1 = r := (eR_getRunTicks F A p1).trans (getD_some h)
  rw [e]
  rw [een_getRunTicks] at h
  exact wp_getRunTicks H F G A B p1 (fun q1 => (rt_getRunTicks _ _ _ _ _ r (Option.some.inj (ifp q1 h)))) (fun q1 q3 => (gd (ifp q3 (ifn q1 h))).1) (fun q1 q3 => (rt_getRunTicks _ _ _ _ _ r (Option.some.inj (gd (ifp q3 (ifn q1 h))).2))) (fun q1 q3 => (rt_getRunTicks _ _ _ _ _ r (Option.some.inj (ifn q3 (ifn q1 h)))))
set_option maxRecDepth 65536 in
set_option maxHeartbeats 4000000 in
theorem wp_L_gcd {l : Launch} {Z : State} {a0 : Array Value} (H : OK Z a0) (sl : Int32) (sv : Int32 → Int32) (F1 : Nat → Int32) (G1 : Nat → Int64) (A1 : Nat → Int32 → Int32) (B1 : Nat → Int32 → Int64) (p1 : Int32) (p2 : Int32) {Q : Option Value → WL → Prop} (h1 : Wk l Z (MoL Z cdC "CyclicExecutiveL6" true) md_L_gcd 2 [.val (.int p1), .val (.int p2), .val (.int (0 : Int32)), .unset] [] (sl, sv, [(7, F1, G1, A1, B1)]) 0 0 Q) :
    Wk l Z (MoL Z cdC "CyclicExecutiveL6" true) md_L_gcd 0 [.val (.int p1), .val (.int p2), .unset, .unset] [] (sl, sv, [(7, F1, G1, A1, B1)]) 0 0 Q := by
  refine Wk.iconst o_L_gcd_0 (z := (0 : Int32)) (by decide) ?_
  refine Wk.istoreN o_L_gcd_1 (Or.inl rfl) (L' := [.val (.int p1), .val (.int p2), .val (.int (0 : Int32)), .unset]) rfl ?_
  exact h1

set_option maxRecDepth 65536 in
set_option maxHeartbeats 4000000 in
theorem wp_L_gcd_2 {l : Launch} {Z : State} {a0 : Array Value} (H : OK Z a0) (sl : Int32) (sv : Int32 → Int32) (F1 : Nat → Int32) (G1 : Nat → Int64) (A1 : Nat → Int32 → Int32) (B1 : Nat → Int32 → Int64) (v0 : Int32) (v1 : Int32) (v2 : Int32) {Q : Option Value → WL → Prop} (h2 : ¬ v2 < (40 : Int32) → Q (some (.int v0)) (sl, sv, [(7, F1, G1, A1, B1)])) (h4 : v2 < (40 : Int32) → v1 = 0 → Q (some (.int v0)) (sl, sv, [(7, F1, G1, A1, B1)])) (s5 : v2 < (40 : Int32) → ¬ v1 = 0 → ¬ v1 = (0 : Int32)) (h6 : v2 < (40 : Int32) → ¬ v1 = 0 → Wk l Z (MoL Z cdC "CyclicExecutiveL6" true) md_L_gcd 2 [.val (.int v1), .val (.int (v0 % v1)), .val (.int (v2 + (1 : Int32))), .unset] [] (sl, sv, [(7, F1, G1, A1, B1)]) 0 0 Q) :
    Wk l Z (MoL Z cdC "CyclicExecutiveL6" true) md_L_gcd 2 [.val (.int v0), .val (.int v1), .val (.int v2), .unset] [] (sl, sv, [(7, F1, G1, A1, B1)]) 0 0 Q := by
  refine Wk.iloadN o_L_gcd_2 rfl ?_
  refine Wk.bipush o_L_gcd_3 (z := (40 : Int32)) (by decide) ?_
  refine Wk.icmp_ge o_L_gcd_5 (fun q1 => ?_) (fun q1 => ?_)
  · refine Wk.iloadN o_L_gcd_26 rfl ?_
    exact Wk.ireturn mrL rfl o_L_gcd_27 rfl (by decide) (by decide) (h2 q1)
  · refine Wk.iloadN o_L_gcd_8 rfl ?_
    refine Wk.if_eq o_L_gcd_9 (fun q3 => ?_) (fun q3 => ?_)
    · refine Wk.iloadN o_L_gcd_26 rfl ?_
      exact Wk.ireturn mrL rfl o_L_gcd_27 rfl (by decide) (by decide) (h4 q1 q3)
    · refine Wk.iloadN o_L_gcd_12 rfl ?_
      refine Wk.iloadN o_L_gcd_13 rfl ?_
      refine Wk.irem o_L_gcd_14 (s5 q1 q3) ?_
      refine Wk.istoreN o_L_gcd_15 (Or.inl rfl) (L' := [.val (.int v0), .val (.int v1), .val (.int v2), .val (.int (v0 % v1))]) rfl ?_
      refine Wk.iloadN o_L_gcd_16 rfl ?_
      refine Wk.istoreN o_L_gcd_17 (Or.inr ⟨_, rfl, rfl⟩) (L' := [.val (.int v1), .val (.int v1), .val (.int v2), .val (.int (v0 % v1))]) rfl ?_
      refine Wk.iloadN o_L_gcd_18 rfl ?_
      refine Wk.istoreN o_L_gcd_19 (Or.inr ⟨_, rfl, rfl⟩) (L' := [.val (.int v1), .val (.int (v0 % v1)), .val (.int v2), .val (.int (v0 % v1))]) rfl ?_
      refine Wk.iinc o_L_gcd_20 rfl (z := (v2 + (1 : Int32))) rfl (L' := [.val (.int v1), .val (.int (v0 % v1)), .val (.int (v2 + (1 : Int32))), .val (.int (v0 % v1))]) rfl ?_
      refine Wk.goto o_L_gcd_23 ?_
      refine Wk.forget [false, false, false, true] (L' := [.val (.int v1), .val (.int (v0 % v1)), .val (.int (v2 + (1 : Int32))), .unset]) rfl rfl ?_
      exact (h6 q1 q3)

theorem rt_L_gcd (sl : Int32) (sv : Int32 → Int32) (F1 : Nat → Int32) (G1 : Nat → Int64) (A1 : Nat → Int32 → Int32) (B1 : Nat → Int32 → Int64) (v0 : Int32) (r : Int32) (e : v0 = r) : some (Value.int v0) = some (Value.int r) ∧ (sl, sv, [(7, F1, G1, A1, B1)]) = (sl, sv, [(7, F1, G1, A1, B1)]) := by subst e; exact ⟨rfl, rfl⟩
def lp_L_gcd : Nat → Nat → Int32 → Int32 → Int32 → Option (Int32)
  | 0, _, _, _, _ => none
  | n + 1, tag, v0, v1, v2 => if tag = 2 then (if v2 < (40 : Int32) then (if v1 = 0 then some (v0) else (if (¬ v1 = (0 : Int32)) then lp_L_gcd n 2 v1 (v0 % v1) (v2 + (1 : Int32)) else none)) else some (v0)) else none
theorem lp_L_gcd_z (tag : Nat) (v0 : Int32) (v1 : Int32) (v2 : Int32) : lp_L_gcd 0 tag  v0 v1 v2  = none := Eq.trans rfl rfl
theorem lp_L_gcd_2 (n : Nat) (v0 : Int32) (v1 : Int32) (v2 : Int32) : lp_L_gcd (n + 1) 2  v0 v1 v2  = (if v2 < (40 : Int32) then (if v1 = 0 then some (v0) else (if (¬ v1 = (0 : Int32)) then lp_L_gcd n 2 v1 (v0 % v1) (v2 + (1 : Int32)) else none)) else some (v0)) := by
  rw [lp_L_gcd, if_pos rfl]
set_option maxRecDepth 65536 in
set_option maxHeartbeats 4000000 in
theorem lpw_L_gcd {l : Launch} {Z : State} {a0 : Array Value} (H : OK Z a0) (sl : Int32) (sv : Int32 → Int32) (F1 : Nat → Int32) (G1 : Nat → Int64) (A1 : Nat → Int32 → Int32) (B1 : Nat → Int32 → Int64) : ∀ (n : Nat) (v0 : Int32) (v1 : Int32) (v2 : Int32) (r : Int32), (lp_L_gcd n 2  v0 v1 v2  = some r → Wk l Z (MoL Z cdC "CyclicExecutiveL6" true) md_L_gcd 2 [.val (.int v0), .val (.int v1), .val (.int v2), .unset] [] (sl, sv, [(7, F1, G1, A1, B1)]) 0 0 (fun v w' => v = some (.int r) ∧ w' = (sl, sv, [(7, F1, G1, A1, B1)]))) := by
  intro n
  induction n with
  | zero =>
    intro v0 v1 v2  r
    exact (fun h => by rw [lp_L_gcd_z] at h; cases h)
  | succ n ih =>
    intro v0 v1 v2  r
    refine fun h => ?_
    · rw [lp_L_gcd_2] at h
      exact wp_L_gcd_2 H sl sv F1 G1 A1 B1 v0 v1 v2 (fun q1 => (rt_L_gcd _ _ _ _ _ _ _ r (Option.some.inj (ifn q1 h)))) (fun q1 q3 => (rt_L_gcd _ _ _ _ _ _ _ r (Option.some.inj (ifp q3 (ifp q1 h))))) (fun q1 q3 => (gd (ifn q3 (ifp q1 h))).1) (fun q1 q3 => (ih _ _ _ _) (gd (ifn q3 (ifp q1 h))).2)
def en_L_gcd (p1 : Int32) (p2 : Int32) : Option (Int32) := lp_L_gcd 1000 2 p1 p2 (0 : Int32)
theorem een_L_gcd (p1 : Int32) (p2 : Int32) : en_L_gcd   p1 p2 = lp_L_gcd 1000 2 p1 p2 (0 : Int32) := Eq.trans rfl rfl
def R_L_gcd (p1 : Int32) (p2 : Int32) : Int32 := (en_L_gcd   p1 p2).getD (0)
theorem eR_L_gcd (p1 : Int32) (p2 : Int32) : R_L_gcd   p1 p2 = (en_L_gcd   p1 p2).getD (0) := Eq.trans rfl rfl
set_option maxRecDepth 65536 in
set_option maxHeartbeats 4000000 in
theorem run_L_gcd {l : Launch} {Z : State} {a0 : Array Value} (H : OK Z a0) (sl : Int32) (sv : Int32 → Int32) (F1 : Nat → Int32) (G1 : Nat → Int64) (A1 : Nat → Int32 → Int32) (B1 : Nat → Int32 → Int64) (p1 : Int32) (p2 : Int32) (e1 : (en_L_gcd   p1 p2).isSome = true) :
    Wk l Z (MoL Z cdC "CyclicExecutiveL6" true) md_L_gcd 0 [.val (.int p1), .val (.int p2), .unset, .unset] [] (sl, sv, [(7, F1, G1, A1, B1)]) 0 0 (fun v w' => v = some (.int (R_L_gcd   p1 p2)) ∧ w' = (sl, sv, [(7, F1, G1, A1, B1)])) := by
  obtain ⟨r, h⟩ := Option.isSome_iff_exists.mp e1
  have e : R_L_gcd   p1 p2 = r := (eR_L_gcd   p1 p2).trans (getD_some h)
  rw [e]
  rw [een_L_gcd] at h
  exact wp_L_gcd H sl sv F1 G1 A1 B1 p1 p2 ((lpw_L_gcd H sl sv _ _ _ _ _ _ _ _ _) h)
set_option maxRecDepth 65536 in
set_option maxHeartbeats 4000000 in
theorem wp_L_deadlineFails {l : Launch} {Z : State} {a0 : Array Value} (H : OK Z a0) (sl : Int32) (sv : Int32 → Int32) (F1 : Nat → Int32) (G1 : Nat → Int64) (A1 : Nat → Int32 → Int32) (B1 : Nat → Int32 → Int64) (p1 : Int32) (p2 : Int32) (p3 : Int64) (p4 : Int64) {Q : Option Value → WL → Prop} (h1 : Wk l Z (MoL Z cdC "CyclicExecutiveL6" true) md_L_deadlineFails 3 [.val (.int p1), .val (.int p2), .val (.long p3), .second, .val (.long p4), .second, .val (.int (0 : Int32)), .unset, .unset] [] (sl, sv, [(7, F1, G1, A1, B1)]) 0 0 Q) :
    Wk l Z (MoL Z cdC "CyclicExecutiveL6" true) md_L_deadlineFails 0 [.val (.int p1), .val (.int p2), .val (.long p3), .second, .val (.long p4), .second, .unset, .unset, .unset] [] (sl, sv, [(7, F1, G1, A1, B1)]) 0 0 Q := by
  refine Wk.iconst o_L_deadlineFails_0 (z := (0 : Int32)) (by decide) ?_
  refine Wk.istore o_L_deadlineFails_1 (Or.inl rfl) (L' := [.val (.int p1), .val (.int p2), .val (.long p3), .second, .val (.long p4), .second, .val (.int (0 : Int32)), .unset, .unset]) rfl ?_
  exact h1

set_option maxRecDepth 65536 in
set_option maxHeartbeats 4000000 in
theorem wp_L_deadlineFails_3 {l : Launch} {Z : State} {a0 : Array Value} (H : OK Z a0) (sl : Int32) (sv : Int32 → Int32) (F1 : Nat → Int32) (G1 : Nat → Int64) (A1 : Nat → Int32 → Int32) (B1 : Nat → Int32 → Int64) (v0 : Int32) (v1 : Int32) (w2 : Int64) (w4 : Int64) (v6 : Int32) {Q : Option Value → WL → Prop} (h2 : ¬ v6 < v1 → Q (some (.int (0 : Int32))) (sl, sv, [(7, F1, G1, A1, B1)])) (h4 : v6 < v1 → ¬ v6 < (8 : Int32) → Q (some (.int (0 : Int32))) (sl, sv, [(7, F1, G1, A1, B1)])) (s5 : v6 < v1 → v6 < (8 : Int32) → (en_L_gcd   v0 (f_L_fld w2 v6)).isSome = true) (h7 : v6 < v1 → v6 < (8 : Int32) → ¬ (f_L_fld w4 v6) < (((2 : Int32) * v0) - (R_L_gcd   v0 (f_L_fld w2 v6))) → Wk l Z (MoL Z cdC "CyclicExecutiveL6" true) md_L_deadlineFails 3 [.val (.int v0), .val (.int v1), .val (.long w2), .second, .val (.long w4), .second, .val (.int (v6 + (1 : Int32))), .unset, .unset] [] (sl, sv, [(7, F1, G1, A1, B1)]) 0 0 Q) (h8 : v6 < v1 → v6 < (8 : Int32) → (f_L_fld w4 v6) < (((2 : Int32) * v0) - (R_L_gcd   v0 (f_L_fld w2 v6))) → Q (some (.int (1 : Int32))) (sl, sv, [(7, F1, G1, A1, B1)])) :
    Wk l Z (MoL Z cdC "CyclicExecutiveL6" true) md_L_deadlineFails 3 [.val (.int v0), .val (.int v1), .val (.long w2), .second, .val (.long w4), .second, .val (.int v6), .unset, .unset] [] (sl, sv, [(7, F1, G1, A1, B1)]) 0 0 Q := by
  refine Wk.iload o_L_deadlineFails_3 rfl ?_
  refine Wk.iloadN o_L_deadlineFails_5 rfl ?_
  refine Wk.icmp_ge o_L_deadlineFails_6 (fun q1 => ?_) (fun q1 => ?_)
  · refine Wk.iconst o_L_deadlineFails_56 (z := (0 : Int32)) (by decide) ?_
    exact Wk.zreturn mrL rfl o_L_deadlineFails_57 rfl (by decide) (by decide) (y := (0 : Int32)) (by decide) (h2 q1)
  · refine Wk.iload o_L_deadlineFails_9 rfl ?_
    refine Wk.bipush o_L_deadlineFails_11 (z := (8 : Int32)) (by decide) ?_
    refine Wk.icmp_ge o_L_deadlineFails_13 (fun q3 => ?_) (fun q3 => ?_)
    · refine Wk.iconst o_L_deadlineFails_56 (z := (0 : Int32)) (by decide) ?_
      exact Wk.zreturn mrL rfl o_L_deadlineFails_57 rfl (by decide) (by decide) (y := (0 : Int32)) (by decide) (h4 q1 q3)
    · refine Wk.lloadN o_L_deadlineFails_16 rfl ?_
      refine Wk.iload o_L_deadlineFails_17 rfl ?_
      refine Wk.callSF mtL [.long w2, .int v6] [] (H.w 121 rfl) (cv_L_fld H) o_L_deadlineFails_19 (run_L_fld H sl sv [(7, F1, G1, A1, B1)] w2 v6) (wt := 0) (cu' := 0) (su' := 0) (by decide) rfl rfl rfl rfl rfl rfl ?_
      refine Wk.istore o_L_deadlineFails_22 (Or.inl rfl) (L' := [.val (.int v0), .val (.int v1), .val (.long w2), .second, .val (.long w4), .second, .val (.int v6), .val (.int (f_L_fld w2 v6)), .unset]) rfl ?_
      refine Wk.iloadN o_L_deadlineFails_24 rfl ?_
      refine Wk.iload o_L_deadlineFails_25 rfl ?_
      refine Wk.callSF mtL [.int v0, .int (f_L_fld w2 v6)] [] (H.w 102 rfl) (cv_L_gcd H) o_L_deadlineFails_27 (run_L_gcd H sl sv F1 G1 A1 B1 v0 (f_L_fld w2 v6) (s5 q1 q3)) (wt := 0) (cu' := 0) (su' := 0) (by decide) rfl rfl rfl rfl rfl rfl ?_
      refine Wk.istore o_L_deadlineFails_30 (Or.inl rfl) (L' := [.val (.int v0), .val (.int v1), .val (.long w2), .second, .val (.long w4), .second, .val (.int v6), .val (.int (f_L_fld w2 v6)), .val (.int (R_L_gcd   v0 (f_L_fld w2 v6)))]) rfl ?_
      refine Wk.iconst o_L_deadlineFails_32 (z := (2 : Int32)) (by decide) ?_
      refine Wk.iloadN o_L_deadlineFails_33 rfl ?_
      refine Wk.imul o_L_deadlineFails_34 ?_
      refine Wk.iload o_L_deadlineFails_35 rfl ?_
      refine Wk.isub o_L_deadlineFails_37 ?_
      refine Wk.lload o_L_deadlineFails_38 rfl ?_
      refine Wk.iload o_L_deadlineFails_40 rfl ?_
      refine Wk.callSF mtL [.long w4, .int v6] [.int (((2 : Int32) * v0) - (R_L_gcd   v0 (f_L_fld w2 v6)))] (H.w 121 rfl) (cv_L_fld H) o_L_deadlineFails_42 (run_L_fld H sl sv [(7, F1, G1, A1, B1)] w4 v6) (wt := 1) (cu' := 0) (su' := 0) (by decide) rfl rfl rfl rfl rfl rfl ?_
      refine Wk.icmp_le o_L_deadlineFails_45 (fun q6 => ?_) (fun q6 => ?_)
      · refine Wk.iinc o_L_deadlineFails_50 rfl (z := (v6 + (1 : Int32))) rfl (L' := [.val (.int v0), .val (.int v1), .val (.long w2), .second, .val (.long w4), .second, .val (.int (v6 + (1 : Int32))), .val (.int (f_L_fld w2 v6)), .val (.int (R_L_gcd   v0 (f_L_fld w2 v6)))]) rfl ?_
        refine Wk.goto o_L_deadlineFails_53 ?_
        refine Wk.forget [false, false, false, false, false, false, false, true, true] (L' := [.val (.int v0), .val (.int v1), .val (.long w2), .second, .val (.long w4), .second, .val (.int (v6 + (1 : Int32))), .unset, .unset]) rfl rfl ?_
        exact (h7 q1 q3 q6)
      · refine Wk.iconst o_L_deadlineFails_48 (z := (1 : Int32)) (by decide) ?_
        exact Wk.zreturn mrL rfl o_L_deadlineFails_49 rfl (by decide) (by decide) (y := (1 : Int32)) (by decide) (h8 q1 q3 q6)

theorem rt_L_deadlineFails (sl : Int32) (sv : Int32 → Int32) (F1 : Nat → Int32) (G1 : Nat → Int64) (A1 : Nat → Int32 → Int32) (B1 : Nat → Int32 → Int64) (v0 : Int32) (r : Int32) (e : v0 = r) : some (Value.int v0) = some (Value.int r) ∧ (sl, sv, [(7, F1, G1, A1, B1)]) = (sl, sv, [(7, F1, G1, A1, B1)]) := by subst e; exact ⟨rfl, rfl⟩
def lp_L_deadlineFails : Nat → Nat → Int32 → Int32 → Int64 → Int64 → Int32 → Option (Int32)
  | 0, _, _, _, _, _, _ => none
  | n + 1, tag, v0, v1, w2, w4, v6 => if tag = 3 then (if v6 < v1 then (if v6 < (8 : Int32) then (if ((en_L_gcd   v0 (f_L_fld w2 v6)).isSome = true) then (if (f_L_fld w4 v6) < (((2 : Int32) * v0) - (R_L_gcd   v0 (f_L_fld w2 v6))) then some ((1 : Int32)) else lp_L_deadlineFails n 3 v0 v1 w2 w4 (v6 + (1 : Int32))) else none) else some ((0 : Int32))) else some ((0 : Int32))) else none
theorem lp_L_deadlineFails_z (tag : Nat) (v0 : Int32) (v1 : Int32) (w2 : Int64) (w4 : Int64) (v6 : Int32) : lp_L_deadlineFails 0 tag  v0 v1 w2 w4 v6  = none := Eq.trans rfl rfl
theorem lp_L_deadlineFails_3 (n : Nat) (v0 : Int32) (v1 : Int32) (w2 : Int64) (w4 : Int64) (v6 : Int32) : lp_L_deadlineFails (n + 1) 3  v0 v1 w2 w4 v6  = (if v6 < v1 then (if v6 < (8 : Int32) then (if ((en_L_gcd   v0 (f_L_fld w2 v6)).isSome = true) then (if (f_L_fld w4 v6) < (((2 : Int32) * v0) - (R_L_gcd   v0 (f_L_fld w2 v6))) then some ((1 : Int32)) else lp_L_deadlineFails n 3 v0 v1 w2 w4 (v6 + (1 : Int32))) else none) else some ((0 : Int32))) else some ((0 : Int32))) := by
  rw [lp_L_deadlineFails, if_pos rfl]
set_option maxRecDepth 65536 in
set_option maxHeartbeats 4000000 in
theorem lpw_L_deadlineFails {l : Launch} {Z : State} {a0 : Array Value} (H : OK Z a0) (sl : Int32) (sv : Int32 → Int32) (F1 : Nat → Int32) (G1 : Nat → Int64) (A1 : Nat → Int32 → Int32) (B1 : Nat → Int32 → Int64) : ∀ (n : Nat) (v0 : Int32) (v1 : Int32) (w2 : Int64) (w4 : Int64) (v6 : Int32) (r : Int32), (lp_L_deadlineFails n 3  v0 v1 w2 w4 v6  = some r → Wk l Z (MoL Z cdC "CyclicExecutiveL6" true) md_L_deadlineFails 3 [.val (.int v0), .val (.int v1), .val (.long w2), .second, .val (.long w4), .second, .val (.int v6), .unset, .unset] [] (sl, sv, [(7, F1, G1, A1, B1)]) 0 0 (fun v w' => v = some (.int r) ∧ w' = (sl, sv, [(7, F1, G1, A1, B1)]))) := by
  intro n
  induction n with
  | zero =>
    intro v0 v1 w2 w4 v6  r
    exact (fun h => by rw [lp_L_deadlineFails_z] at h; cases h)
  | succ n ih =>
    intro v0 v1 w2 w4 v6  r
    refine fun h => ?_
    · rw [lp_L_deadlineFails_3] at h
      exact wp_L_deadlineFails_3 H sl sv F1 G1 A1 B1 v0 v1 w2 w4 v6 (fun q1 => (rt_L_deadlineFails _ _ _ _ _ _ _ r (Option.some.inj (ifn q1 h)))) (fun q1 q3 => (rt_L_deadlineFails _ _ _ _ _ _ _ r (Option.some.inj (ifn q3 (ifp q1 h))))) (fun q1 q3 => (gd (ifp q3 (ifp q1 h))).1) (fun q1 q3 q6 => (ih _ _ _ _ _ _) (ifn q6 (gd (ifp q3 (ifp q1 h))).2)) (fun q1 q3 q6 => (rt_L_deadlineFails _ _ _ _ _ _ _ r (Option.some.inj (ifp q6 (gd (ifp q3 (ifp q1 h))).2))))
def en_L_deadlineFails (p1 : Int32) (p2 : Int32) (p3 : Int64) (p4 : Int64) : Option (Int32) := lp_L_deadlineFails 1000 3 p1 p2 p3 p4 (0 : Int32)
theorem een_L_deadlineFails (p1 : Int32) (p2 : Int32) (p3 : Int64) (p4 : Int64) : en_L_deadlineFails   p1 p2 p3 p4 = lp_L_deadlineFails 1000 3 p1 p2 p3 p4 (0 : Int32) := Eq.trans rfl rfl
def R_L_deadlineFails (p1 : Int32) (p2 : Int32) (p3 : Int64) (p4 : Int64) : Int32 := (en_L_deadlineFails   p1 p2 p3 p4).getD (0)
theorem eR_L_deadlineFails (p1 : Int32) (p2 : Int32) (p3 : Int64) (p4 : Int64) : R_L_deadlineFails   p1 p2 p3 p4 = (en_L_deadlineFails   p1 p2 p3 p4).getD (0) := Eq.trans rfl rfl
set_option maxRecDepth 65536 in
set_option maxHeartbeats 4000000 in
theorem run_L_deadlineFails {l : Launch} {Z : State} {a0 : Array Value} (H : OK Z a0) (sl : Int32) (sv : Int32 → Int32) (F1 : Nat → Int32) (G1 : Nat → Int64) (A1 : Nat → Int32 → Int32) (B1 : Nat → Int32 → Int64) (p1 : Int32) (p2 : Int32) (p3 : Int64) (p4 : Int64) (e1 : (en_L_deadlineFails   p1 p2 p3 p4).isSome = true) :
    Wk l Z (MoL Z cdC "CyclicExecutiveL6" true) md_L_deadlineFails 0 [.val (.int p1), .val (.int p2), .val (.long p3), .second, .val (.long p4), .second, .unset, .unset, .unset] [] (sl, sv, [(7, F1, G1, A1, B1)]) 0 0 (fun v w' => v = some (.int (R_L_deadlineFails   p1 p2 p3 p4)) ∧ w' = (sl, sv, [(7, F1, G1, A1, B1)])) := by
  obtain ⟨r, h⟩ := Option.isSome_iff_exists.mp e1
  have e : R_L_deadlineFails   p1 p2 p3 p4 = r := (eR_L_deadlineFails   p1 p2 p3 p4).trans (getD_some h)
  rw [e]
  rw [een_L_deadlineFails] at h
  exact wp_L_deadlineFails H sl sv F1 G1 A1 B1 p1 p2 p3 p4 ((lpw_L_deadlineFails H sl sv _ _ _ _ _ _ _ _ _ _ _) h)
set_option maxRecDepth 65536 in
set_option maxHeartbeats 4000000 in
theorem wp_L_runsOk {l : Launch} {Z : State} {a0 : Array Value} (H : OK Z a0) (sl : Int32) (sv : Int32 → Int32) (F1 : Nat → Int32) (G1 : Nat → Int64) (A1 : Nat → Int32 → Int32) (B1 : Nat → Int32 → Int64) (p1 : Int32) (p2 : Int32) (p3 : Int32) (p4 : Int32) (p5 : Int64) (p6 : Int64) {Q : Option Value → WL → Prop} (h1 : Wk l Z (MoL Z cdC "CyclicExecutiveL6" true) md_L_runsOk 3 [.val (.ref 1), .val (.int p1), .val (.int p2), .val (.int p3), .val (.int p4), .val (.long p5), .second, .val (.long p6), .second, .val (.int (0 : Int32)), .unset, .unset, .unset, .unset, .unset] [] (sl, sv, [(7, F1, G1, A1, B1)]) 0 0 Q) :
    Wk l Z (MoL Z cdC "CyclicExecutiveL6" true) md_L_runsOk 0 [.val (.ref 1), .val (.int p1), .val (.int p2), .val (.int p3), .val (.int p4), .val (.long p5), .second, .val (.long p6), .second, .unset, .unset, .unset, .unset, .unset, .unset] [] (sl, sv, [(7, F1, G1, A1, B1)]) 0 0 Q := by
  refine Wk.iconst o_L_runsOk_0 (z := (0 : Int32)) (by decide) ?_
  refine Wk.istore o_L_runsOk_1 (Or.inl rfl) (L' := [.val (.ref 1), .val (.int p1), .val (.int p2), .val (.int p3), .val (.int p4), .val (.long p5), .second, .val (.long p6), .second, .val (.int (0 : Int32)), .unset, .unset, .unset, .unset, .unset]) rfl ?_
  exact h1

set_option maxRecDepth 65536 in
set_option maxHeartbeats 4000000 in
theorem wp_L_runsOk_3 {l : Launch} {Z : State} {a0 : Array Value} (H : OK Z a0) (sl : Int32) (sv : Int32 → Int32) (F1 : Nat → Int32) (G1 : Nat → Int64) (A1 : Nat → Int32 → Int32) (B1 : Nat → Int32 → Int64) (v1 : Int32) (v2 : Int32) (v3 : Int32) (v4 : Int32) (w5 : Int64) (w7 : Int64) (v9 : Int32) {Q : Option Value → WL → Prop} (s2 : ¬ v9 < v1 → (en_getRunTicks F1 A1 v1).isSome = true) (s4 : ¬ v9 < v1 → (R_getRunTicks F1 A1 v1) = (-1 : Int32) → (en_getRunTicks F1 A1 (-1 : Int32)).isSome = true) (h8 : ¬ v9 < v1 → Q (some (.int (nar .boolean (if (R_getRunTicks F1 A1 v1) = (-1 : Int32) then (if (R_getRunTicks F1 A1 (-1 : Int32)) = (-1 : Int32) then (1 : Int32) else (0 : Int32)) else (0 : Int32))))) (sl, sv, [(7, F1, G1, A1, B1)])) (s10 : v9 < v1 → ¬ v9 < (8 : Int32) → (en_getRunTicks F1 A1 v1).isSome = true) (s12 : v9 < v1 → ¬ v9 < (8 : Int32) → (R_getRunTicks F1 A1 v1) = (-1 : Int32) → (en_getRunTicks F1 A1 (-1 : Int32)).isSome = true) (h16 : v9 < v1 → ¬ v9 < (8 : Int32) → Q (some (.int (nar .boolean (if (R_getRunTicks F1 A1 v1) = (-1 : Int32) then (if (R_getRunTicks F1 A1 (-1 : Int32)) = (-1 : Int32) then (1 : Int32) else (0 : Int32)) else (0 : Int32))))) (sl, sv, [(7, F1, G1, A1, B1)])) (s17 : v9 < v1 → v9 < (8 : Int32) → (en_getRunTicks F1 A1 v9).isSome = true) (s19 : v9 < v1 → v9 < (8 : Int32) → ¬ v3 = 0 → ¬ (f_L_fld w5 v9) = (0 : Int32)) (s20 : v9 < v1 → v9 < (8 : Int32) → ¬ v3 = 0 → ¬ v2 = (0 : Int32)) (h24 : v9 < v1 → v9 < (8 : Int32) → ¬ v3 = 0 → (R_getRunTicks F1 A1 v9) < ((v4 / v2) * ((f_L_fld w7 v9) * (v2 / (f_L_fld w5 v9)))) → Q (some (.int (0 : Int32))) (sl, sv, [(7, F1, G1, A1, B1)])) (h26 : v9 < v1 → v9 < (8 : Int32) → ¬ v3 = 0 → ¬ (R_getRunTicks F1 A1 v9) < ((v4 / v2) * ((f_L_fld w7 v9) * (v2 / (f_L_fld w5 v9)))) → ¬ (((v4 / v2) * ((f_L_fld w7 v9) * (v2 / (f_L_fld w5 v9)))) + (if (v4 % v2) < ((f_L_fld w7 v9) * (v2 / (f_L_fld w5 v9))) then (v4 % v2) else ((f_L_fld w7 v9) * (v2 / (f_L_fld w5 v9))))) < (R_getRunTicks F1 A1 v9) → Wk l Z (MoL Z cdC "CyclicExecutiveL6" true) md_L_runsOk 3 [.val (.ref 1), .val (.int v1), .val (.int v2), .val (.int v3), .val (.int v4), .val (.long w5), .second, .val (.long w7), .second, .val (.int (v9 + (1 : Int32))), .unset, .unset, .unset, .unset, .unset] [] (sl, sv, [(7, F1, G1, A1, B1)]) 0 0 Q) (h27 : v9 < v1 → v9 < (8 : Int32) → ¬ v3 = 0 → ¬ (R_getRunTicks F1 A1 v9) < ((v4 / v2) * ((f_L_fld w7 v9) * (v2 / (f_L_fld w5 v9)))) → (((v4 / v2) * ((f_L_fld w7 v9) * (v2 / (f_L_fld w5 v9)))) + (if (v4 % v2) < ((f_L_fld w7 v9) * (v2 / (f_L_fld w5 v9))) then (v4 % v2) else ((f_L_fld w7 v9) * (v2 / (f_L_fld w5 v9))))) < (R_getRunTicks F1 A1 v9) → Q (some (.int (0 : Int32))) (sl, sv, [(7, F1, G1, A1, B1)])) (h29 : v9 < v1 → v9 < (8 : Int32) → v3 = 0 → (R_getRunTicks F1 A1 v9) = 0 → Wk l Z (MoL Z cdC "CyclicExecutiveL6" true) md_L_runsOk 3 [.val (.ref 1), .val (.int v1), .val (.int v2), .val (.int v3), .val (.int v4), .val (.long w5), .second, .val (.long w7), .second, .val (.int (v9 + (1 : Int32))), .unset, .unset, .unset, .unset, .unset] [] (sl, sv, [(7, F1, G1, A1, B1)]) 0 0 Q) (h30 : v9 < v1 → v9 < (8 : Int32) → v3 = 0 → ¬ (R_getRunTicks F1 A1 v9) = 0 → Q (some (.int (0 : Int32))) (sl, sv, [(7, F1, G1, A1, B1)])) :
    Wk l Z (MoL Z cdC "CyclicExecutiveL6" true) md_L_runsOk 3 [.val (.ref 1), .val (.int v1), .val (.int v2), .val (.int v3), .val (.int v4), .val (.long w5), .second, .val (.long w7), .second, .val (.int v9), .unset, .unset, .unset, .unset, .unset] [] (sl, sv, [(7, F1, G1, A1, B1)]) 0 0 Q := by
  refine Wk.iload o_L_runsOk_3 rfl ?_
  refine Wk.iloadN o_L_runsOk_5 rfl ?_
  refine Wk.icmp_ge o_L_runsOk_6 (fun q1 => ?_) (fun q1 => ?_)
  · refine Wk.aloadN o_L_runsOk_110 rfl ?_
    refine Wk.iloadN o_L_runsOk_111 rfl ?_
    refine Wk.callLF (coC H) [.int v1] 0 [] (i' := 1) (H.w 80 rfl) (cv_getRunTicks H) o_L_runsOk_112 (run_getRunTicks H F1 G1 A1 B1 v1 (s2 q1)) (wt := 0) (cu' := 0) (su' := 0) (by decide) trivial rfl rfl rfl rfl rfl rfl rfl rfl rfl rfl (ws' := [(7, F1, G1, A1, B1)]) rfl ?_
    refine Wk.iconst o_L_runsOk_115 (z := (-1 : Int32)) (by decide) ?_
    have J7 : Wk l Z (MoL Z cdC "CyclicExecutiveL6" true) md_L_runsOk 133 [.val (.ref 1), .val (.int v1), .val (.int v2), .val (.int v3), .val (.int v4), .val (.long w5), .second, .val (.long w7), .second, .val (.int v9), .unset, .unset, .unset, .unset, .unset] [.int (if (R_getRunTicks F1 A1 v1) = (-1 : Int32) then (if (R_getRunTicks F1 A1 (-1 : Int32)) = (-1 : Int32) then (1 : Int32) else (0 : Int32)) else (0 : Int32))] (sl, sv, [(7, F1, G1, A1, B1)]) 0 0 Q := by
      exact Wk.zreturn mrL rfl o_L_runsOk_133 rfl (by decide) (by decide) (y := (nar .boolean (if (R_getRunTicks F1 A1 v1) = (-1 : Int32) then (if (R_getRunTicks F1 A1 (-1 : Int32)) = (-1 : Int32) then (1 : Int32) else (0 : Int32)) else (0 : Int32)))) rfl (h8 q1)
    refine Wk.icmp_ne o_L_runsOk_116 (fun q3 => ?_) (fun q3 => ?_)
    · refine Wk.iconst o_L_runsOk_132 (z := (0 : Int32)) (by decide) ?_
      first | (rw [show ((if (R_getRunTicks F1 A1 v1) = (-1 : Int32) then (if (R_getRunTicks F1 A1 (-1 : Int32)) = (-1 : Int32) then (1 : Int32) else (0 : Int32)) else (0 : Int32)) : Int32) = (0 : Int32) from if_neg q3] at J7; exact J7) | exact J7 | (simp only [if_neg q3] at J7 ⊢; exact J7)
    · refine Wk.aloadN o_L_runsOk_119 rfl ?_
      refine Wk.iconst o_L_runsOk_120 (z := (-1 : Int32)) (by decide) ?_
      refine Wk.callLF (coC H) [.int (-1 : Int32)] 0 [] (i' := 1) (H.w 80 rfl) (cv_getRunTicks H) o_L_runsOk_121 (run_getRunTicks H F1 G1 A1 B1 (-1 : Int32) (s4 q1 q3)) (wt := 0) (cu' := 0) (su' := 0) (by decide) trivial rfl rfl rfl rfl rfl rfl rfl rfl rfl rfl (ws' := [(7, F1, G1, A1, B1)]) rfl ?_
      refine Wk.iconst o_L_runsOk_124 (z := (-1 : Int32)) (by decide) ?_
      refine Wk.icmp_ne o_L_runsOk_125 (fun q5 => ?_) (fun q5 => ?_)
      · refine Wk.iconst o_L_runsOk_132 (z := (0 : Int32)) (by decide) ?_
        first | (rw [show ((if (R_getRunTicks F1 A1 v1) = (-1 : Int32) then (if (R_getRunTicks F1 A1 (-1 : Int32)) = (-1 : Int32) then (1 : Int32) else (0 : Int32)) else (0 : Int32)) : Int32) = (0 : Int32) from Eq.trans (if_pos q3) <| if_neg q5] at J7; exact J7) | exact J7 | (simp only [if_pos q3, if_neg q5] at J7 ⊢; exact J7)
      · refine Wk.iconst o_L_runsOk_128 (z := (1 : Int32)) (by decide) ?_
        refine Wk.goto o_L_runsOk_129 ?_
        first | (rw [show ((if (R_getRunTicks F1 A1 v1) = (-1 : Int32) then (if (R_getRunTicks F1 A1 (-1 : Int32)) = (-1 : Int32) then (1 : Int32) else (0 : Int32)) else (0 : Int32)) : Int32) = (1 : Int32) from Eq.trans (if_pos q3) <| if_pos q5] at J7; exact J7) | exact J7 | (simp only [if_pos q3, if_pos q5] at J7 ⊢; exact J7)
  · refine Wk.iload o_L_runsOk_9 rfl ?_
    refine Wk.bipush o_L_runsOk_11 (z := (8 : Int32)) (by decide) ?_
    refine Wk.icmp_ge o_L_runsOk_13 (fun q9 => ?_) (fun q9 => ?_)
    · refine Wk.aloadN o_L_runsOk_110 rfl ?_
      refine Wk.iloadN o_L_runsOk_111 rfl ?_
      refine Wk.callLF (coC H) [.int v1] 0 [] (i' := 1) (H.w 80 rfl) (cv_getRunTicks H) o_L_runsOk_112 (run_getRunTicks H F1 G1 A1 B1 v1 (s10 q1 q9)) (wt := 0) (cu' := 0) (su' := 0) (by decide) trivial rfl rfl rfl rfl rfl rfl rfl rfl rfl rfl (ws' := [(7, F1, G1, A1, B1)]) rfl ?_
      refine Wk.iconst o_L_runsOk_115 (z := (-1 : Int32)) (by decide) ?_
      have J15 : Wk l Z (MoL Z cdC "CyclicExecutiveL6" true) md_L_runsOk 133 [.val (.ref 1), .val (.int v1), .val (.int v2), .val (.int v3), .val (.int v4), .val (.long w5), .second, .val (.long w7), .second, .val (.int v9), .unset, .unset, .unset, .unset, .unset] [.int (if (R_getRunTicks F1 A1 v1) = (-1 : Int32) then (if (R_getRunTicks F1 A1 (-1 : Int32)) = (-1 : Int32) then (1 : Int32) else (0 : Int32)) else (0 : Int32))] (sl, sv, [(7, F1, G1, A1, B1)]) 0 0 Q := by
        exact Wk.zreturn mrL rfl o_L_runsOk_133 rfl (by decide) (by decide) (y := (nar .boolean (if (R_getRunTicks F1 A1 v1) = (-1 : Int32) then (if (R_getRunTicks F1 A1 (-1 : Int32)) = (-1 : Int32) then (1 : Int32) else (0 : Int32)) else (0 : Int32)))) rfl (h16 q1 q9)
      refine Wk.icmp_ne o_L_runsOk_116 (fun q11 => ?_) (fun q11 => ?_)
      · refine Wk.iconst o_L_runsOk_132 (z := (0 : Int32)) (by decide) ?_
        first | (rw [show ((if (R_getRunTicks F1 A1 v1) = (-1 : Int32) then (if (R_getRunTicks F1 A1 (-1 : Int32)) = (-1 : Int32) then (1 : Int32) else (0 : Int32)) else (0 : Int32)) : Int32) = (0 : Int32) from if_neg q11] at J15; exact J15) | exact J15 | (simp only [if_neg q11] at J15 ⊢; exact J15)
      · refine Wk.aloadN o_L_runsOk_119 rfl ?_
        refine Wk.iconst o_L_runsOk_120 (z := (-1 : Int32)) (by decide) ?_
        refine Wk.callLF (coC H) [.int (-1 : Int32)] 0 [] (i' := 1) (H.w 80 rfl) (cv_getRunTicks H) o_L_runsOk_121 (run_getRunTicks H F1 G1 A1 B1 (-1 : Int32) (s12 q1 q9 q11)) (wt := 0) (cu' := 0) (su' := 0) (by decide) trivial rfl rfl rfl rfl rfl rfl rfl rfl rfl rfl (ws' := [(7, F1, G1, A1, B1)]) rfl ?_
        refine Wk.iconst o_L_runsOk_124 (z := (-1 : Int32)) (by decide) ?_
        refine Wk.icmp_ne o_L_runsOk_125 (fun q13 => ?_) (fun q13 => ?_)
        · refine Wk.iconst o_L_runsOk_132 (z := (0 : Int32)) (by decide) ?_
          first | (rw [show ((if (R_getRunTicks F1 A1 v1) = (-1 : Int32) then (if (R_getRunTicks F1 A1 (-1 : Int32)) = (-1 : Int32) then (1 : Int32) else (0 : Int32)) else (0 : Int32)) : Int32) = (0 : Int32) from Eq.trans (if_pos q11) <| if_neg q13] at J15; exact J15) | exact J15 | (simp only [if_pos q11, if_neg q13] at J15 ⊢; exact J15)
        · refine Wk.iconst o_L_runsOk_128 (z := (1 : Int32)) (by decide) ?_
          refine Wk.goto o_L_runsOk_129 ?_
          first | (rw [show ((if (R_getRunTicks F1 A1 v1) = (-1 : Int32) then (if (R_getRunTicks F1 A1 (-1 : Int32)) = (-1 : Int32) then (1 : Int32) else (0 : Int32)) else (0 : Int32)) : Int32) = (1 : Int32) from Eq.trans (if_pos q11) <| if_pos q13] at J15; exact J15) | exact J15 | (simp only [if_pos q11, if_pos q13] at J15 ⊢; exact J15)
    · refine Wk.aloadN o_L_runsOk_16 rfl ?_
      refine Wk.iload o_L_runsOk_17 rfl ?_
      refine Wk.callLF (coC H) [.int v9] 0 [] (i' := 1) (H.w 80 rfl) (cv_getRunTicks H) o_L_runsOk_19 (run_getRunTicks H F1 G1 A1 B1 v9 (s17 q1 q9)) (wt := 0) (cu' := 0) (su' := 0) (by decide) trivial rfl rfl rfl rfl rfl rfl rfl rfl rfl rfl (ws' := [(7, F1, G1, A1, B1)]) rfl ?_
      refine Wk.istore o_L_runsOk_22 (Or.inl rfl) (L' := [.val (.ref 1), .val (.int v1), .val (.int v2), .val (.int v3), .val (.int v4), .val (.long w5), .second, .val (.long w7), .second, .val (.int v9), .val (.int (R_getRunTicks F1 A1 v9)), .unset, .unset, .unset, .unset]) rfl ?_
      refine Wk.iloadN o_L_runsOk_24 rfl ?_
      refine Wk.if_ne o_L_runsOk_25 (fun q18 => ?_) (fun q18 => ?_)
      · refine Wk.lload o_L_runsOk_35 rfl ?_
        refine Wk.iload o_L_runsOk_37 rfl ?_
        refine Wk.callSF mtL [.long w7, .int v9] [] (H.w 121 rfl) (cv_L_fld H) o_L_runsOk_39 (run_L_fld H sl sv [(7, F1, G1, A1, B1)] w7 v9) (wt := 0) (cu' := 0) (su' := 0) (by decide) rfl rfl rfl rfl rfl rfl ?_
        refine Wk.iloadN o_L_runsOk_42 rfl ?_
        refine Wk.lload o_L_runsOk_43 rfl ?_
        refine Wk.iload o_L_runsOk_45 rfl ?_
        refine Wk.callSF mtL [.long w5, .int v9] [.int v2, .int (f_L_fld w7 v9)] (H.w 121 rfl) (cv_L_fld H) o_L_runsOk_47 (run_L_fld H sl sv [(7, F1, G1, A1, B1)] w5 v9) (wt := 2) (cu' := 0) (su' := 0) (by decide) rfl rfl rfl rfl rfl rfl ?_
        refine Wk.idiv o_L_runsOk_50 (s19 q1 q9 q18) ?_
        refine Wk.imul o_L_runsOk_51 ?_
        refine Wk.istore o_L_runsOk_52 (Or.inl rfl) (L' := [.val (.ref 1), .val (.int v1), .val (.int v2), .val (.int v3), .val (.int v4), .val (.long w5), .second, .val (.long w7), .second, .val (.int v9), .val (.int (R_getRunTicks F1 A1 v9)), .val (.int ((f_L_fld w7 v9) * (v2 / (f_L_fld w5 v9)))), .unset, .unset, .unset]) rfl ?_
        refine Wk.iload o_L_runsOk_54 rfl ?_
        refine Wk.iloadN o_L_runsOk_56 rfl ?_
        refine Wk.irem o_L_runsOk_57 (s20 q1 q9 q18) ?_
        refine Wk.istore o_L_runsOk_58 (Or.inl rfl) (L' := [.val (.ref 1), .val (.int v1), .val (.int v2), .val (.int v3), .val (.int v4), .val (.long w5), .second, .val (.long w7), .second, .val (.int v9), .val (.int (R_getRunTicks F1 A1 v9)), .val (.int ((f_L_fld w7 v9) * (v2 / (f_L_fld w5 v9)))), .val (.int (v4 % v2)), .unset, .unset]) rfl ?_
        refine Wk.iload o_L_runsOk_60 rfl ?_
        refine Wk.iloadN o_L_runsOk_62 rfl ?_
        refine Wk.idiv o_L_runsOk_63 (s20 q1 q9 q18) ?_
        refine Wk.iload o_L_runsOk_64 rfl ?_
        refine Wk.imul o_L_runsOk_66 ?_
        refine Wk.istore o_L_runsOk_67 (Or.inl rfl) (L' := [.val (.ref 1), .val (.int v1), .val (.int v2), .val (.int v3), .val (.int v4), .val (.long w5), .second, .val (.long w7), .second, .val (.int v9), .val (.int (R_getRunTicks F1 A1 v9)), .val (.int ((f_L_fld w7 v9) * (v2 / (f_L_fld w5 v9)))), .val (.int (v4 % v2)), .val (.int ((v4 / v2) * ((f_L_fld w7 v9) * (v2 / (f_L_fld w5 v9))))), .unset]) rfl ?_
        refine Wk.iload o_L_runsOk_69 rfl ?_
        refine Wk.iload o_L_runsOk_71 rfl ?_
        refine Wk.iload o_L_runsOk_73 rfl ?_
        have J22 : Wk l Z (MoL Z cdC "CyclicExecutiveL6" true) md_L_runsOk 85 [.val (.ref 1), .val (.int v1), .val (.int v2), .val (.int v3), .val (.int v4), .val (.long w5), .second, .val (.long w7), .second, .val (.int v9), .val (.int (R_getRunTicks F1 A1 v9)), .val (.int ((f_L_fld w7 v9) * (v2 / (f_L_fld w5 v9)))), .val (.int (v4 % v2)), .val (.int ((v4 / v2) * ((f_L_fld w7 v9) * (v2 / (f_L_fld w5 v9))))), .unset] [.int (if (v4 % v2) < ((f_L_fld w7 v9) * (v2 / (f_L_fld w5 v9))) then (v4 % v2) else ((f_L_fld w7 v9) * (v2 / (f_L_fld w5 v9)))), .int ((v4 / v2) * ((f_L_fld w7 v9) * (v2 / (f_L_fld w5 v9))))] (sl, sv, [(7, F1, G1, A1, B1)]) 0 0 Q := by
          refine Wk.iadd o_L_runsOk_85 ?_
          refine Wk.istore o_L_runsOk_86 (Or.inl rfl) (L' := [.val (.ref 1), .val (.int v1), .val (.int v2), .val (.int v3), .val (.int v4), .val (.long w5), .second, .val (.long w7), .second, .val (.int v9), .val (.int (R_getRunTicks F1 A1 v9)), .val (.int ((f_L_fld w7 v9) * (v2 / (f_L_fld w5 v9)))), .val (.int (v4 % v2)), .val (.int ((v4 / v2) * ((f_L_fld w7 v9) * (v2 / (f_L_fld w5 v9))))), .val (.int (((v4 / v2) * ((f_L_fld w7 v9) * (v2 / (f_L_fld w5 v9)))) + (if (v4 % v2) < ((f_L_fld w7 v9) * (v2 / (f_L_fld w5 v9))) then (v4 % v2) else ((f_L_fld w7 v9) * (v2 / (f_L_fld w5 v9))))))]) rfl ?_
          refine Wk.iload o_L_runsOk_88 rfl ?_
          refine Wk.iload o_L_runsOk_90 rfl ?_
          refine Wk.icmp_lt o_L_runsOk_92 (fun q23 => ?_) (fun q23 => ?_)
          · refine Wk.iconst o_L_runsOk_102 (z := (0 : Int32)) (by decide) ?_
            exact Wk.zreturn mrL rfl o_L_runsOk_103 rfl (by decide) (by decide) (y := (0 : Int32)) (by decide) (h24 q1 q9 q18 q23)
          · refine Wk.iload o_L_runsOk_95 rfl ?_
            refine Wk.iload o_L_runsOk_97 rfl ?_
            refine Wk.icmp_le o_L_runsOk_99 (fun q25 => ?_) (fun q25 => ?_)
            · refine Wk.iinc o_L_runsOk_104 rfl (z := (v9 + (1 : Int32))) rfl (L' := [.val (.ref 1), .val (.int v1), .val (.int v2), .val (.int v3), .val (.int v4), .val (.long w5), .second, .val (.long w7), .second, .val (.int (v9 + (1 : Int32))), .val (.int (R_getRunTicks F1 A1 v9)), .val (.int ((f_L_fld w7 v9) * (v2 / (f_L_fld w5 v9)))), .val (.int (v4 % v2)), .val (.int ((v4 / v2) * ((f_L_fld w7 v9) * (v2 / (f_L_fld w5 v9))))), .val (.int (((v4 / v2) * ((f_L_fld w7 v9) * (v2 / (f_L_fld w5 v9)))) + (if (v4 % v2) < ((f_L_fld w7 v9) * (v2 / (f_L_fld w5 v9))) then (v4 % v2) else ((f_L_fld w7 v9) * (v2 / (f_L_fld w5 v9))))))]) rfl ?_
              refine Wk.goto o_L_runsOk_107 ?_
              refine Wk.forget [false, false, false, false, false, false, false, false, false, false, true, true, true, true, true] (L' := [.val (.ref 1), .val (.int v1), .val (.int v2), .val (.int v3), .val (.int v4), .val (.long w5), .second, .val (.long w7), .second, .val (.int (v9 + (1 : Int32))), .unset, .unset, .unset, .unset, .unset]) rfl rfl ?_
              exact (h26 q1 q9 q18 q23 q25)
            · refine Wk.iconst o_L_runsOk_102 (z := (0 : Int32)) (by decide) ?_
              exact Wk.zreturn mrL rfl o_L_runsOk_103 rfl (by decide) (by decide) (y := (0 : Int32)) (by decide) (h27 q1 q9 q18 q23 q25)
        refine Wk.icmp_ge o_L_runsOk_75 (fun q21 => ?_) (fun q21 => ?_)
        · refine Wk.iload o_L_runsOk_83 rfl ?_
          first | (rw [show ((if (v4 % v2) < ((f_L_fld w7 v9) * (v2 / (f_L_fld w5 v9))) then (v4 % v2) else ((f_L_fld w7 v9) * (v2 / (f_L_fld w5 v9)))) : Int32) = ((f_L_fld w7 v9) * (v2 / (f_L_fld w5 v9))) from if_neg q21] at J22; exact J22) | exact J22 | (simp only [if_neg q21] at J22 ⊢; exact J22)
        · refine Wk.iload o_L_runsOk_78 rfl ?_
          refine Wk.goto o_L_runsOk_80 ?_
          first | (rw [show ((if (v4 % v2) < ((f_L_fld w7 v9) * (v2 / (f_L_fld w5 v9))) then (v4 % v2) else ((f_L_fld w7 v9) * (v2 / (f_L_fld w5 v9)))) : Int32) = (v4 % v2) from if_pos q21] at J22; exact J22) | exact J22 | (simp only [if_pos q21] at J22 ⊢; exact J22)
      · refine Wk.iload o_L_runsOk_28 rfl ?_
        refine Wk.if_eq o_L_runsOk_30 (fun q28 => ?_) (fun q28 => ?_)
        · refine Wk.iinc o_L_runsOk_104 rfl (z := (v9 + (1 : Int32))) rfl (L' := [.val (.ref 1), .val (.int v1), .val (.int v2), .val (.int v3), .val (.int v4), .val (.long w5), .second, .val (.long w7), .second, .val (.int (v9 + (1 : Int32))), .val (.int (R_getRunTicks F1 A1 v9)), .unset, .unset, .unset, .unset]) rfl ?_
          refine Wk.goto o_L_runsOk_107 ?_
          refine Wk.forget [false, false, false, false, false, false, false, false, false, false, true, false, false, false, false] (L' := [.val (.ref 1), .val (.int v1), .val (.int v2), .val (.int v3), .val (.int v4), .val (.long w5), .second, .val (.long w7), .second, .val (.int (v9 + (1 : Int32))), .unset, .unset, .unset, .unset, .unset]) rfl rfl ?_
          exact (h29 q1 q9 q18 q28)
        · refine Wk.iconst o_L_runsOk_33 (z := (0 : Int32)) (by decide) ?_
          exact Wk.zreturn mrL rfl o_L_runsOk_34 rfl (by decide) (by decide) (y := (0 : Int32)) (by decide) (h30 q1 q9 q18 q28)

theorem rt_L_runsOk (sl : Int32) (sv : Int32 → Int32) (F1 : Nat → Int32) (G1 : Nat → Int64) (A1 : Nat → Int32 → Int32) (B1 : Nat → Int32 → Int64) (v0 : Int32) (r : Int32) (e : v0 = r) : some (Value.int v0) = some (Value.int r) ∧ (sl, sv, [(7, F1, G1, A1, B1)]) = (sl, sv, [(7, F1, G1, A1, B1)]) := by subst e; exact ⟨rfl, rfl⟩
def lp_L_runsOk : Nat → Nat → Int32 → Int32 → Int32 → Int32 → Int64 → Int64 → Int32 → (Nat → Int32) → (Nat → Int32 → Int32) → Option (Int32)
  | 0, _, _, _, _, _, _, _, _, _, _ => none
  | n + 1, tag, v1, v2, v3, v4, w5, w7, v9, F1, A1 => if tag = 3 then (if v9 < v1 then (if v9 < (8 : Int32) then (if ((en_getRunTicks F1 A1 v9).isSome = true) then (if v3 = 0 then (if (R_getRunTicks F1 A1 v9) = 0 then lp_L_runsOk n 3 v1 v2 v3 v4 w5 w7 (v9 + (1 : Int32)) F1 A1 else some ((0 : Int32))) else (if (¬ (f_L_fld w5 v9) = (0 : Int32)) ∧ (¬ v2 = (0 : Int32)) then (if (R_getRunTicks F1 A1 v9) < ((v4 / v2) * ((f_L_fld w7 v9) * (v2 / (f_L_fld w5 v9)))) then some ((0 : Int32)) else (if (((v4 / v2) * ((f_L_fld w7 v9) * (v2 / (f_L_fld w5 v9)))) + (if (v4 % v2) < ((f_L_fld w7 v9) * (v2 / (f_L_fld w5 v9))) then (v4 % v2) else ((f_L_fld w7 v9) * (v2 / (f_L_fld w5 v9))))) < (R_getRunTicks F1 A1 v9) then some ((0 : Int32)) else lp_L_runsOk n 3 v1 v2 v3 v4 w5 w7 (v9 + (1 : Int32)) F1 A1)) else none)) else none) else (if ((en_getRunTicks F1 A1 v1).isSome = true) ∧ ((R_getRunTicks F1 A1 v1) = (-1 : Int32) → (en_getRunTicks F1 A1 (-1 : Int32)).isSome = true) then some ((nar .boolean (if (R_getRunTicks F1 A1 v1) = (-1 : Int32) then (if (R_getRunTicks F1 A1 (-1 : Int32)) = (-1 : Int32) then (1 : Int32) else (0 : Int32)) else (0 : Int32)))) else none)) else (if ((en_getRunTicks F1 A1 v1).isSome = true) ∧ ((R_getRunTicks F1 A1 v1) = (-1 : Int32) → (en_getRunTicks F1 A1 (-1 : Int32)).isSome = true) then some ((nar .boolean (if (R_getRunTicks F1 A1 v1) = (-1 : Int32) then (if (R_getRunTicks F1 A1 (-1 : Int32)) = (-1 : Int32) then (1 : Int32) else (0 : Int32)) else (0 : Int32)))) else none)) else none
theorem lp_L_runsOk_z (tag : Nat) (v1 : Int32) (v2 : Int32) (v3 : Int32) (v4 : Int32) (w5 : Int64) (w7 : Int64) (v9 : Int32) (F1 : Nat → Int32) (A1 : Nat → Int32 → Int32) : lp_L_runsOk 0 tag  v1 v2 v3 v4 w5 w7 v9 F1 A1 = none := Eq.trans rfl rfl
theorem lp_L_runsOk_3 (n : Nat) (v1 : Int32) (v2 : Int32) (v3 : Int32) (v4 : Int32) (w5 : Int64) (w7 : Int64) (v9 : Int32) (F1 : Nat → Int32) (A1 : Nat → Int32 → Int32) : lp_L_runsOk (n + 1) 3  v1 v2 v3 v4 w5 w7 v9 F1 A1 = (if v9 < v1 then (if v9 < (8 : Int32) then (if ((en_getRunTicks F1 A1 v9).isSome = true) then (if v3 = 0 then (if (R_getRunTicks F1 A1 v9) = 0 then lp_L_runsOk n 3 v1 v2 v3 v4 w5 w7 (v9 + (1 : Int32)) F1 A1 else some ((0 : Int32))) else (if (¬ (f_L_fld w5 v9) = (0 : Int32)) ∧ (¬ v2 = (0 : Int32)) then (if (R_getRunTicks F1 A1 v9) < ((v4 / v2) * ((f_L_fld w7 v9) * (v2 / (f_L_fld w5 v9)))) then some ((0 : Int32)) else (if (((v4 / v2) * ((f_L_fld w7 v9) * (v2 / (f_L_fld w5 v9)))) + (if (v4 % v2) < ((f_L_fld w7 v9) * (v2 / (f_L_fld w5 v9))) then (v4 % v2) else ((f_L_fld w7 v9) * (v2 / (f_L_fld w5 v9))))) < (R_getRunTicks F1 A1 v9) then some ((0 : Int32)) else lp_L_runsOk n 3 v1 v2 v3 v4 w5 w7 (v9 + (1 : Int32)) F1 A1)) else none)) else none) else (if ((en_getRunTicks F1 A1 v1).isSome = true) ∧ ((R_getRunTicks F1 A1 v1) = (-1 : Int32) → (en_getRunTicks F1 A1 (-1 : Int32)).isSome = true) then some ((nar .boolean (if (R_getRunTicks F1 A1 v1) = (-1 : Int32) then (if (R_getRunTicks F1 A1 (-1 : Int32)) = (-1 : Int32) then (1 : Int32) else (0 : Int32)) else (0 : Int32)))) else none)) else (if ((en_getRunTicks F1 A1 v1).isSome = true) ∧ ((R_getRunTicks F1 A1 v1) = (-1 : Int32) → (en_getRunTicks F1 A1 (-1 : Int32)).isSome = true) then some ((nar .boolean (if (R_getRunTicks F1 A1 v1) = (-1 : Int32) then (if (R_getRunTicks F1 A1 (-1 : Int32)) = (-1 : Int32) then (1 : Int32) else (0 : Int32)) else (0 : Int32)))) else none)) := by
  rw [lp_L_runsOk, if_pos rfl]
set_option maxRecDepth 65536 in
set_option maxHeartbeats 4000000 in
theorem lpw_L_runsOk {l : Launch} {Z : State} {a0 : Array Value} (H : OK Z a0) (sl : Int32) (sv : Int32 → Int32) (F1 : Nat → Int32) (G1 : Nat → Int64) (A1 : Nat → Int32 → Int32) (B1 : Nat → Int32 → Int64) : ∀ (n : Nat) (v1 : Int32) (v2 : Int32) (v3 : Int32) (v4 : Int32) (w5 : Int64) (w7 : Int64) (v9 : Int32) (r : Int32), (lp_L_runsOk n 3  v1 v2 v3 v4 w5 w7 v9 F1 A1 = some r → Wk l Z (MoL Z cdC "CyclicExecutiveL6" true) md_L_runsOk 3 [.val (.ref 1), .val (.int v1), .val (.int v2), .val (.int v3), .val (.int v4), .val (.long w5), .second, .val (.long w7), .second, .val (.int v9), .unset, .unset, .unset, .unset, .unset] [] (sl, sv, [(7, F1, G1, A1, B1)]) 0 0 (fun v w' => v = some (.int r) ∧ w' = (sl, sv, [(7, F1, G1, A1, B1)]))) := by
  intro n
  induction n with
  | zero =>
    intro v1 v2 v3 v4 w5 w7 v9  r
    exact (fun h => by rw [lp_L_runsOk_z] at h; cases h)
  | succ n ih =>
    intro v1 v2 v3 v4 w5 w7 v9  r
    refine fun h => ?_
    · rw [lp_L_runsOk_3] at h
      exact wp_L_runsOk_3 H sl sv F1 G1 A1 B1 v1 v2 v3 v4 w5 w7 v9 (fun q1 => (gd (ifn q1 h)).1.1) (fun q1 q3 => ((gd (ifn q1 h)).1.2) q3) (fun q1 => (rt_L_runsOk _ _ _ _ _ _ _ r (Option.some.inj (gd (ifn q1 h)).2))) (fun q1 q9 => (gd (ifn q9 (ifp q1 h))).1.1) (fun q1 q9 q11 => ((gd (ifn q9 (ifp q1 h))).1.2) q11) (fun q1 q9 => (rt_L_runsOk _ _ _ _ _ _ _ r (Option.some.inj (gd (ifn q9 (ifp q1 h))).2))) (fun q1 q9 => (gd (ifp q9 (ifp q1 h))).1) (fun q1 q9 q18 => (gd (ifn q18 (gd (ifp q9 (ifp q1 h))).2)).1.1) (fun q1 q9 q18 => (gd (ifn q18 (gd (ifp q9 (ifp q1 h))).2)).1.2) (fun q1 q9 q18 q23 => (rt_L_runsOk _ _ _ _ _ _ _ r (Option.some.inj (ifp q23 (gd (ifn q18 (gd (ifp q9 (ifp q1 h))).2)).2)))) (fun q1 q9 q18 q23 q25 => (ih _ _ _ _ _ _ _ _) (ifn q25 (ifn q23 (gd (ifn q18 (gd (ifp q9 (ifp q1 h))).2)).2))) (fun q1 q9 q18 q23 q25 => (rt_L_runsOk _ _ _ _ _ _ _ r (Option.some.inj (ifp q25 (ifn q23 (gd (ifn q18 (gd (ifp q9 (ifp q1 h))).2)).2))))) (fun q1 q9 q18 q28 => (ih _ _ _ _ _ _ _ _) (ifp q28 (ifp q18 (gd (ifp q9 (ifp q1 h))).2))) (fun q1 q9 q18 q28 => (rt_L_runsOk _ _ _ _ _ _ _ r (Option.some.inj (ifn q28 (ifp q18 (gd (ifp q9 (ifp q1 h))).2)))))
def en_L_runsOk (F1 : Nat → Int32) (A1 : Nat → Int32 → Int32) (p1 : Int32) (p2 : Int32) (p3 : Int32) (p4 : Int32) (p5 : Int64) (p6 : Int64) : Option (Int32) := lp_L_runsOk 1000 3 p1 p2 p3 p4 p5 p6 (0 : Int32) F1 A1
theorem een_L_runsOk (F1 : Nat → Int32) (A1 : Nat → Int32 → Int32) (p1 : Int32) (p2 : Int32) (p3 : Int32) (p4 : Int32) (p5 : Int64) (p6 : Int64) : en_L_runsOk  F1 A1 p1 p2 p3 p4 p5 p6 = lp_L_runsOk 1000 3 p1 p2 p3 p4 p5 p6 (0 : Int32) F1 A1 := Eq.trans rfl rfl
def R_L_runsOk (F1 : Nat → Int32) (A1 : Nat → Int32 → Int32) (p1 : Int32) (p2 : Int32) (p3 : Int32) (p4 : Int32) (p5 : Int64) (p6 : Int64) : Int32 := (en_L_runsOk  F1 A1 p1 p2 p3 p4 p5 p6).getD (0)
theorem eR_L_runsOk (F1 : Nat → Int32) (A1 : Nat → Int32 → Int32) (p1 : Int32) (p2 : Int32) (p3 : Int32) (p4 : Int32) (p5 : Int64) (p6 : Int64) : R_L_runsOk  F1 A1 p1 p2 p3 p4 p5 p6 = (en_L_runsOk  F1 A1 p1 p2 p3 p4 p5 p6).getD (0) := Eq.trans rfl rfl
set_option maxRecDepth 65536 in
set_option maxHeartbeats 4000000 in
theorem run_L_runsOk {l : Launch} {Z : State} {a0 : Array Value} (H : OK Z a0) (sl : Int32) (sv : Int32 → Int32) (F1 : Nat → Int32) (G1 : Nat → Int64) (A1 : Nat → Int32 → Int32) (B1 : Nat → Int32 → Int64) (p1 : Int32) (p2 : Int32) (p3 : Int32) (p4 : Int32) (p5 : Int64) (p6 : Int64) (e1 : (en_L_runsOk  F1 A1 p1 p2 p3 p4 p5 p6).isSome = true) :
    Wk l Z (MoL Z cdC "CyclicExecutiveL6" true) md_L_runsOk 0 [.val (.ref 1), .val (.int p1), .val (.int p2), .val (.int p3), .val (.int p4), .val (.long p5), .second, .val (.long p6), .second, .unset, .unset, .unset, .unset, .unset, .unset] [] (sl, sv, [(7, F1, G1, A1, B1)]) 0 0 (fun v w' => v = some (.int (R_L_runsOk  F1 A1 p1 p2 p3 p4 p5 p6)) ∧ w' = (sl, sv, [(7, F1, G1, A1, B1)])) := by
  obtain ⟨r, h⟩ := Option.isSome_iff_exists.mp e1
  have e : R_L_runsOk  F1 A1 p1 p2 p3 p4 p5 p6 = r := (eR_L_runsOk  F1 A1 p1 p2 p3 p4 p5 p6).trans (getD_some h)
  rw [e]
  rw [een_L_runsOk] at h
  exact wp_L_runsOk H sl sv F1 G1 A1 B1 p1 p2 p3 p4 p5 p6 ((lpw_L_runsOk H sl sv _ _ _ _ _ _ _ _ _ _ _ _ _) h)
set_option maxRecDepth 65536 in
set_option maxHeartbeats 4000000 in
theorem wp_L_law {l : Launch} {Z : State} {a0 : Array Value} (H : OK Z a0) (sl : Int32) (sv : Int32 → Int32) {Q : Option Value → WL → Prop} (h1 : Wk l Z (MoL Z cdC "CyclicExecutiveL6" true) md_L_law 11 [.val (.ref 0), .val (.ref 1), .unset, .unset, .unset, .unset, .unset, .unset, .unset, .unset, .unset, .unset, .unset, .unset, .unset, .unset, .unset, .unset, .unset, .unset, .unset, .unset, .unset, .unset] [] (sl, sv, [(7, (F_init (4 : Int32) (60 : Int32)), (fun _ => 0), (fun _ _ => 0), (fun _ _ => 0))]) 8 1328 Q) :
    Wk l Z (MoL Z cdC "CyclicExecutiveL6" true) md_L_law 0 [.val (.ref 0), .unset, .unset, .unset, .unset, .unset, .unset, .unset, .unset, .unset, .unset, .unset, .unset, .unset, .unset, .unset, .unset, .unset, .unset, .unset, .unset, .unset, .unset, .unset] [] (sl, sv, []) 0 0 Q := by
  refine Wk.newL (coC H) (kk := 16) (H.w 0 rfl) (H.w 1 rfl) (wz_C H) o_L_law_0 trivial (i' := 1) rfl (ws' := [(0, (fun _ => 0), (fun _ => 0), (fun _ _ => 0), (fun _ _ => 0))]) rfl (cu' := 1) rfl (su' := 16) rfl (by decide) (by decide) ?_
  refine Wk.dup o_L_law_3 rfl ?_
  refine Wk.iconst o_L_law_4 (z := (4 : Int32)) (by decide) ?_
  refine Wk.bipush o_L_law_5 (z := (60 : Int32)) (by decide) ?_
  refine Wk.ctorLU (coC H) [.int (4 : Int32), .int (60 : Int32)] 0 [.ref 1] (i' := 1) (H.w 3 rfl) (cv_init H) o_L_law_7 (run_init H (4 : Int32) (60 : Int32)) (wt := 1) (cu' := 8) (su' := 1328) (by decide) trivial rfl rfl rfl rfl rfl rfl rfl rfl rfl rfl (ws' := [(7, (F_init (4 : Int32) (60 : Int32)), (fun _ => 0), (fun _ _ => 0), (fun _ _ => 0))]) rfl ?_
  refine Wk.astoreN o_L_law_10 (Or.inl rfl) (L' := [.val (.ref 0), .val (.ref 1), .unset, .unset, .unset, .unset, .unset, .unset, .unset, .unset, .unset, .unset, .unset, .unset, .unset, .unset, .unset, .unset, .unset, .unset, .unset, .unset, .unset, .unset]) rfl ?_
  exact h1

set_option maxRecDepth 65536 in
set_option maxHeartbeats 4000000 in
theorem wp_L_law_11 {l : Launch} {Z : State} {a0 : Array Value} (H : OK Z a0) (sl : Int32) (sv : Int32 → Int32) (F1 : Nat → Int32) (G1 : Nat → Int64) (A1 : Nat → Int32 → Int32) (B1 : Nat → Int32 → Int64) {Q : Option Value → WL → Prop} (h1 : Wk l Z (MoL Z cdC "CyclicExecutiveL6" true) md_L_law 36 [.val (.ref 0), .val (.ref 1), .val (.int (0 : Int32)), .val (.int (0 : Int32)), .val (.int (0 : Int32)), .val (.int (0 : Int32)), .val (.int (-1 : Int32)), .val (.long (0 : Int64)), .second, .val (.long (0 : Int64)), .second, .val (.long (0 : Int64)), .second, .val (.int (0 : Int32)), .unset, .unset, .unset, .unset, .unset, .unset, .unset, .unset, .unset, .unset] [] (sl, sv, [(7, F1, G1, A1, B1)]) 8 1328 Q) :
    Wk l Z (MoL Z cdC "CyclicExecutiveL6" true) md_L_law 11 [.val (.ref 0), .val (.ref 1), .unset, .unset, .unset, .unset, .unset, .unset, .unset, .unset, .unset, .unset, .unset, .unset, .unset, .unset, .unset, .unset, .unset, .unset, .unset, .unset, .unset, .unset] [] (sl, sv, [(7, F1, G1, A1, B1)]) 8 1328 Q := by
  refine Wk.iconst o_L_law_11 (z := (0 : Int32)) (by decide) ?_
  refine Wk.istoreN o_L_law_12 (Or.inl rfl) (L' := [.val (.ref 0), .val (.ref 1), .val (.int (0 : Int32)), .unset, .unset, .unset, .unset, .unset, .unset, .unset, .unset, .unset, .unset, .unset, .unset, .unset, .unset, .unset, .unset, .unset, .unset, .unset, .unset, .unset]) rfl ?_
  refine Wk.iconst o_L_law_13 (z := (0 : Int32)) (by decide) ?_
  refine Wk.istoreN o_L_law_14 (Or.inl rfl) (L' := [.val (.ref 0), .val (.ref 1), .val (.int (0 : Int32)), .val (.int (0 : Int32)), .unset, .unset, .unset, .unset, .unset, .unset, .unset, .unset, .unset, .unset, .unset, .unset, .unset, .unset, .unset, .unset, .unset, .unset, .unset, .unset]) rfl ?_
  refine Wk.iconst o_L_law_15 (z := (0 : Int32)) (by decide) ?_
  refine Wk.istore o_L_law_16 (Or.inl rfl) (L' := [.val (.ref 0), .val (.ref 1), .val (.int (0 : Int32)), .val (.int (0 : Int32)), .val (.int (0 : Int32)), .unset, .unset, .unset, .unset, .unset, .unset, .unset, .unset, .unset, .unset, .unset, .unset, .unset, .unset, .unset, .unset, .unset, .unset, .unset]) rfl ?_
  refine Wk.iconst o_L_law_18 (z := (0 : Int32)) (by decide) ?_
  refine Wk.istore o_L_law_19 (Or.inl rfl) (L' := [.val (.ref 0), .val (.ref 1), .val (.int (0 : Int32)), .val (.int (0 : Int32)), .val (.int (0 : Int32)), .val (.int (0 : Int32)), .unset, .unset, .unset, .unset, .unset, .unset, .unset, .unset, .unset, .unset, .unset, .unset, .unset, .unset, .unset, .unset, .unset, .unset]) rfl ?_
  refine Wk.iconst o_L_law_21 (z := (-1 : Int32)) (by decide) ?_
  refine Wk.istore o_L_law_22 (Or.inl rfl) (L' := [.val (.ref 0), .val (.ref 1), .val (.int (0 : Int32)), .val (.int (0 : Int32)), .val (.int (0 : Int32)), .val (.int (0 : Int32)), .val (.int (-1 : Int32)), .unset, .unset, .unset, .unset, .unset, .unset, .unset, .unset, .unset, .unset, .unset, .unset, .unset, .unset, .unset, .unset, .unset]) rfl ?_
  refine Wk.lconst o_L_law_24 (z := (0 : Int64)) (by decide) ?_
  refine Wk.lstore o_L_law_25 (Or.inl rfl) (Or.inl rfl) (L' := [.val (.ref 0), .val (.ref 1), .val (.int (0 : Int32)), .val (.int (0 : Int32)), .val (.int (0 : Int32)), .val (.int (0 : Int32)), .val (.int (-1 : Int32)), .val (.long (0 : Int64)), .second, .unset, .unset, .unset, .unset, .unset, .unset, .unset, .unset, .unset, .unset, .unset, .unset, .unset, .unset, .unset]) rfl ?_
  refine Wk.lconst o_L_law_27 (z := (0 : Int64)) (by decide) ?_
  refine Wk.lstore o_L_law_28 (Or.inl rfl) (Or.inl rfl) (L' := [.val (.ref 0), .val (.ref 1), .val (.int (0 : Int32)), .val (.int (0 : Int32)), .val (.int (0 : Int32)), .val (.int (0 : Int32)), .val (.int (-1 : Int32)), .val (.long (0 : Int64)), .second, .val (.long (0 : Int64)), .second, .unset, .unset, .unset, .unset, .unset, .unset, .unset, .unset, .unset, .unset, .unset, .unset, .unset]) rfl ?_
  refine Wk.lconst o_L_law_30 (z := (0 : Int64)) (by decide) ?_
  refine Wk.lstore o_L_law_31 (Or.inl rfl) (Or.inl rfl) (L' := [.val (.ref 0), .val (.ref 1), .val (.int (0 : Int32)), .val (.int (0 : Int32)), .val (.int (0 : Int32)), .val (.int (0 : Int32)), .val (.int (-1 : Int32)), .val (.long (0 : Int64)), .second, .val (.long (0 : Int64)), .second, .val (.long (0 : Int64)), .second, .unset, .unset, .unset, .unset, .unset, .unset, .unset, .unset, .unset, .unset, .unset]) rfl ?_
  refine Wk.iconst o_L_law_33 (z := (0 : Int32)) (by decide) ?_
  refine Wk.istore o_L_law_34 (Or.inl rfl) (L' := [.val (.ref 0), .val (.ref 1), .val (.int (0 : Int32)), .val (.int (0 : Int32)), .val (.int (0 : Int32)), .val (.int (0 : Int32)), .val (.int (-1 : Int32)), .val (.long (0 : Int64)), .second, .val (.long (0 : Int64)), .second, .val (.long (0 : Int64)), .second, .val (.int (0 : Int32)), .unset, .unset, .unset, .unset, .unset, .unset, .unset, .unset, .unset, .unset]) rfl ?_
  exact h1

set_option maxRecDepth 65536 in
set_option maxHeartbeats 4000000 in
theorem wp_L_law_36 {l : Launch} {Z : State} {a0 : Array Value} (H : OK Z a0) (sl : Int32) (sv : Int32 → Int32) (F1 : Nat → Int32) (G1 : Nat → Int64) (A1 : Nat → Int32 → Int32) (B1 : Nat → Int32 → Int64) (v2 : Int32) (v3 : Int32) (v4 : Int32) (v5 : Int32) (v6 : Int32) (w7 : Int64) (w9 : Int64) (w11 : Int64) (v13 : Int32) {Q : Option Value → WL → Prop} (h2 : ¬ (v13 + (3 : Int32)) < sl → Q (some (.int (1 : Int32))) (sl, sv, [(7, F1, G1, A1, B1)])) (h4 : (v13 + (3 : Int32)) < sl → ¬ v13 < (400 : Int32) → Q (some (.int (1 : Int32))) (sl, sv, [(7, F1, G1, A1, B1)])) (s5 : (v13 + (3 : Int32)) < sl → v13 < (400 : Int32) → ¬ v13 < 0) (s6 : (v13 + (3 : Int32)) < sl → v13 < (400 : Int32) → v13 < sl) (s7 : (v13 + (3 : Int32)) < sl → v13 < (400 : Int32) → ¬ (v13 + (1 : Int32)) < 0) (s8 : (v13 + (3 : Int32)) < sl → v13 < (400 : Int32) → (v13 + (1 : Int32)) < sl) (s9 : (v13 + (3 : Int32)) < sl → v13 < (400 : Int32) → ¬ (v13 + (2 : Int32)) < 0) (s10 : (v13 + (3 : Int32)) < sl → v13 < (400 : Int32) → (v13 + (2 : Int32)) < sl) (s11 : (v13 + (3 : Int32)) < sl → v13 < (400 : Int32) → ¬ (v13 + (3 : Int32)) < 0) (s14 : (v13 + (3 : Int32)) < sl → v13 < (400 : Int32) → (1 : Int32) < ((sv v13) &&& (3 : Int32)) → ¬ ((sv v13) &&& (3 : Int32)) = (2 : Int32) → (en_run F1 A1 (((sv (v13 + (1 : Int32))) &&& (63 : Int32)) - (2 : Int32))).isSome = true) (h15 : (v13 + (3 : Int32)) < sl → v13 < (400 : Int32) → (1 : Int32) < ((sv v13) &&& (3 : Int32)) → ¬ ((sv v13) &&& (3 : Int32)) = (2 : Int32) → Wk l Z (MoL Z cdC "CyclicExecutiveL6" true) md_L_law 444 [.val (.ref 0), .val (.ref 1), .val (.int v2), .val (.int v3), .val (.int v4), .val (.int v5), .val (.int v6), .val (.long w7), .second, .val (.long w9), .second, .val (.long w11), .second, .val (.int v13), .unset, .unset, .unset, .unset, .val (.int (((sv (v13 + (1 : Int32))) &&& (63 : Int32)) - (2 : Int32))), .val (.int (R_run F1 A1 (((sv (v13 + (1 : Int32))) &&& (63 : Int32)) - (2 : Int32))).1), .unset, .unset, .unset, .unset] [] (sl, sv, [(7, (R_run F1 A1 (((sv (v13 + (1 : Int32))) &&& (63 : Int32)) - (2 : Int32))).2.1, G1, (R_run F1 A1 (((sv (v13 + (1 : Int32))) &&& (63 : Int32)) - (2 : Int32))).2.2, B1)]) 8 1328 Q) (s16 : (v13 + (3 : Int32)) < sl → v13 < (400 : Int32) → (1 : Int32) < ((sv v13) &&& (3 : Int32)) → ((sv v13) &&& (3 : Int32)) = (2 : Int32) → (en_build F1 A1 (((sv (v13 + (1 : Int32))) &&& (7 : Int32)) + (1 : Int32))).isSome = true) (h17 : (v13 + (3 : Int32)) < sl → v13 < (400 : Int32) → (1 : Int32) < ((sv v13) &&& (3 : Int32)) → ((sv v13) &&& (3 : Int32)) = (2 : Int32) → Wk l Z (MoL Z cdC "CyclicExecutiveL6" true) md_L_law 287 [.val (.ref 0), .val (.ref 1), .val (.int v2), .val (.int v3), .val (.int v4), .val (.int v5), .val (.int v6), .val (.long w7), .second, .val (.long w9), .second, .val (.long w11), .second, .val (.int v13), .unset, .unset, .unset, .unset, .val (.int (((sv (v13 + (1 : Int32))) &&& (7 : Int32)) + (1 : Int32))), .val (.int (R_build F1 A1 (((sv (v13 + (1 : Int32))) &&& (7 : Int32)) + (1 : Int32))).1), .unset, .unset, .unset, .unset] [] (sl, sv, [(7, (R_build F1 A1 (((sv (v13 + (1 : Int32))) &&& (7 : Int32)) + (1 : Int32))).2.1, G1, (R_build F1 A1 (((sv (v13 + (1 : Int32))) &&& (7 : Int32)) + (1 : Int32))).2.2, B1)]) 8 1328 Q) (s18 : (v13 + (3 : Int32)) < sl → v13 < (400 : Int32) → ¬ (1 : Int32) < ((sv v13) &&& (3 : Int32)) → (en_addTask F1 A1 (((sv (v13 + (1 : Int32))) &&& (7 : Int32)) + (1 : Int32)) (((sv (v13 + (2 : Int32))) &&& (3 : Int32)) + (1 : Int32)) ((((sv (v13 + (1 : Int32))) &&& (7 : Int32)) + (1 : Int32)) - ((sv (v13 + (3 : Int32))) &&& (1 : Int32)))).isSome = true) (h19 : (v13 + (3 : Int32)) < sl → v13 < (400 : Int32) → ¬ (1 : Int32) < ((sv v13) &&& (3 : Int32)) → Wk l Z (MoL Z cdC "CyclicExecutiveL6" true) md_L_law 129 [.val (.ref 0), .val (.ref 1), .val (.int v2), .val (.int v3), .val (.int v4), .val (.int v5), .val (.int v6), .val (.long w7), .second, .val (.long w9), .second, .val (.long w11), .second, .val (.int v13), .unset, .unset, .unset, .unset, .val (.int (((sv (v13 + (1 : Int32))) &&& (7 : Int32)) + (1 : Int32))), .val (.int (((sv (v13 + (2 : Int32))) &&& (3 : Int32)) + (1 : Int32))), .val (.int ((((sv (v13 + (1 : Int32))) &&& (7 : Int32)) + (1 : Int32)) - ((sv (v13 + (3 : Int32))) &&& (1 : Int32)))), .val (.int (R_addTask F1 A1 (((sv (v13 + (1 : Int32))) &&& (7 : Int32)) + (1 : Int32)) (((sv (v13 + (2 : Int32))) &&& (3 : Int32)) + (1 : Int32)) ((((sv (v13 + (1 : Int32))) &&& (7 : Int32)) + (1 : Int32)) - ((sv (v13 + (3 : Int32))) &&& (1 : Int32)))).1), .unset, .unset] [] (sl, sv, [(7, (R_addTask F1 A1 (((sv (v13 + (1 : Int32))) &&& (7 : Int32)) + (1 : Int32)) (((sv (v13 + (2 : Int32))) &&& (3 : Int32)) + (1 : Int32)) ((((sv (v13 + (1 : Int32))) &&& (7 : Int32)) + (1 : Int32)) - ((sv (v13 + (3 : Int32))) &&& (1 : Int32)))).2.1, G1, (R_addTask F1 A1 (((sv (v13 + (1 : Int32))) &&& (7 : Int32)) + (1 : Int32)) (((sv (v13 + (2 : Int32))) &&& (3 : Int32)) + (1 : Int32)) ((((sv (v13 + (1 : Int32))) &&& (7 : Int32)) + (1 : Int32)) - ((sv (v13 + (3 : Int32))) &&& (1 : Int32)))).2.2, B1)]) 8 1328 Q) :
    Wk l Z (MoL Z cdC "CyclicExecutiveL6" true) md_L_law 36 [.val (.ref 0), .val (.ref 1), .val (.int v2), .val (.int v3), .val (.int v4), .val (.int v5), .val (.int v6), .val (.long w7), .second, .val (.long w9), .second, .val (.long w11), .second, .val (.int v13), .unset, .unset, .unset, .unset, .unset, .unset, .unset, .unset, .unset, .unset] [] (sl, sv, [(7, F1, G1, A1, B1)]) 8 1328 Q := by
  refine Wk.iload o_L_law_36 rfl ?_
  refine Wk.iconst o_L_law_38 (z := (3 : Int32)) (by decide) ?_
  refine Wk.iadd o_L_law_39 ?_
  refine Wk.aloadN o_L_law_40 rfl ?_
  refine Wk.lenL o_L_law_41 ?_
  refine Wk.icmp_ge o_L_law_42 (fun q1 => ?_) (fun q1 => ?_)
  · refine Wk.iconst o_L_law_551 (z := (1 : Int32)) (by decide) ?_
    exact Wk.zreturn mrL rfl o_L_law_552 rfl (by decide) (by decide) (y := (1 : Int32)) (by decide) (h2 q1)
  · refine Wk.iload o_L_law_45 rfl ?_
    refine Wk.sipush o_L_law_47 (z := (400 : Int32)) (by decide) ?_
    refine Wk.icmp_ge o_L_law_50 (fun q3 => ?_) (fun q3 => ?_)
    · refine Wk.iconst o_L_law_551 (z := (1 : Int32)) (by decide) ?_
      exact Wk.zreturn mrL rfl o_L_law_552 rfl (by decide) (by decide) (y := (1 : Int32)) (by decide) (h4 q1 q3)
    · refine Wk.aloadN o_L_law_53 rfl ?_
      refine Wk.iload o_L_law_54 rfl ?_
      refine Wk.ialoadL (s5 q1 q3) (s6 q1 q3) o_L_law_56 ?_
      refine Wk.iconst o_L_law_57 (z := (3 : Int32)) (by decide) ?_
      refine Wk.iand o_L_law_58 ?_
      refine Wk.istore o_L_law_59 (Or.inl rfl) (L' := [.val (.ref 0), .val (.ref 1), .val (.int v2), .val (.int v3), .val (.int v4), .val (.int v5), .val (.int v6), .val (.long w7), .second, .val (.long w9), .second, .val (.long w11), .second, .val (.int v13), .val (.int ((sv v13) &&& (3 : Int32))), .unset, .unset, .unset, .unset, .unset, .unset, .unset, .unset, .unset]) rfl ?_
      refine Wk.aloadN o_L_law_61 rfl ?_
      refine Wk.iload o_L_law_62 rfl ?_
      refine Wk.iconst o_L_law_64 (z := (1 : Int32)) (by decide) ?_
      refine Wk.iadd o_L_law_65 ?_
      refine Wk.ialoadL (s7 q1 q3) (s8 q1 q3) o_L_law_66 ?_
      refine Wk.istore o_L_law_67 (Or.inl rfl) (L' := [.val (.ref 0), .val (.ref 1), .val (.int v2), .val (.int v3), .val (.int v4), .val (.int v5), .val (.int v6), .val (.long w7), .second, .val (.long w9), .second, .val (.long w11), .second, .val (.int v13), .val (.int ((sv v13) &&& (3 : Int32))), .val (.int (sv (v13 + (1 : Int32)))), .unset, .unset, .unset, .unset, .unset, .unset, .unset, .unset]) rfl ?_
      refine Wk.aloadN o_L_law_69 rfl ?_
      refine Wk.iload o_L_law_70 rfl ?_
      refine Wk.iconst o_L_law_72 (z := (2 : Int32)) (by decide) ?_
      refine Wk.iadd o_L_law_73 ?_
      refine Wk.ialoadL (s9 q1 q3) (s10 q1 q3) o_L_law_74 ?_
      refine Wk.istore o_L_law_75 (Or.inl rfl) (L' := [.val (.ref 0), .val (.ref 1), .val (.int v2), .val (.int v3), .val (.int v4), .val (.int v5), .val (.int v6), .val (.long w7), .second, .val (.long w9), .second, .val (.long w11), .second, .val (.int v13), .val (.int ((sv v13) &&& (3 : Int32))), .val (.int (sv (v13 + (1 : Int32)))), .val (.int (sv (v13 + (2 : Int32)))), .unset, .unset, .unset, .unset, .unset, .unset, .unset]) rfl ?_
      refine Wk.aloadN o_L_law_77 rfl ?_
      refine Wk.iload o_L_law_78 rfl ?_
      refine Wk.iconst o_L_law_80 (z := (3 : Int32)) (by decide) ?_
      refine Wk.iadd o_L_law_81 ?_
      refine Wk.ialoadL (s11 q1 q3) q1 o_L_law_82 ?_
      refine Wk.istore o_L_law_83 (Or.inl rfl) (L' := [.val (.ref 0), .val (.ref 1), .val (.int v2), .val (.int v3), .val (.int v4), .val (.int v5), .val (.int v6), .val (.long w7), .second, .val (.long w9), .second, .val (.long w11), .second, .val (.int v13), .val (.int ((sv v13) &&& (3 : Int32))), .val (.int (sv (v13 + (1 : Int32)))), .val (.int (sv (v13 + (2 : Int32)))), .val (.int (sv (v13 + (3 : Int32)))), .unset, .unset, .unset, .unset, .unset, .unset]) rfl ?_
      refine Wk.iload o_L_law_85 rfl ?_
      refine Wk.iconst o_L_law_87 (z := (1 : Int32)) (by decide) ?_
      refine Wk.icmp_gt o_L_law_88 (fun q12 => ?_) (fun q12 => ?_)
      · refine Wk.iload o_L_law_264 rfl ?_
        refine Wk.iconst o_L_law_266 (z := (2 : Int32)) (by decide) ?_
        refine Wk.icmp_ne o_L_law_267 (fun q13 => ?_) (fun q13 => ?_)
        · refine Wk.iload o_L_law_427 rfl ?_
          refine Wk.bipush o_L_law_429 (z := (63 : Int32)) (by decide) ?_
          refine Wk.iand o_L_law_431 ?_
          refine Wk.iconst o_L_law_432 (z := (2 : Int32)) (by decide) ?_
          refine Wk.isub o_L_law_433 ?_
          refine Wk.istore o_L_law_434 (Or.inl rfl) (L' := [.val (.ref 0), .val (.ref 1), .val (.int v2), .val (.int v3), .val (.int v4), .val (.int v5), .val (.int v6), .val (.long w7), .second, .val (.long w9), .second, .val (.long w11), .second, .val (.int v13), .val (.int ((sv v13) &&& (3 : Int32))), .val (.int (sv (v13 + (1 : Int32)))), .val (.int (sv (v13 + (2 : Int32)))), .val (.int (sv (v13 + (3 : Int32)))), .val (.int (((sv (v13 + (1 : Int32))) &&& (63 : Int32)) - (2 : Int32))), .unset, .unset, .unset, .unset, .unset]) rfl ?_
          refine Wk.aloadN o_L_law_436 rfl ?_
          refine Wk.iload o_L_law_437 rfl ?_
          refine Wk.callLF (coC H) [.int (((sv (v13 + (1 : Int32))) &&& (63 : Int32)) - (2 : Int32))] 0 [] (i' := 1) (H.w 46 rfl) (cv_run H) o_L_law_439 (run_run H F1 G1 A1 B1 (((sv (v13 + (1 : Int32))) &&& (63 : Int32)) - (2 : Int32)) (s14 q1 q3 q12 q13)) (wt := 0) (cu' := 8) (su' := 1328) (by decide) trivial rfl rfl rfl rfl rfl rfl rfl rfl rfl rfl (ws' := [(7, (R_run F1 A1 (((sv (v13 + (1 : Int32))) &&& (63 : Int32)) - (2 : Int32))).2.1, G1, (R_run F1 A1 (((sv (v13 + (1 : Int32))) &&& (63 : Int32)) - (2 : Int32))).2.2, B1)]) rfl ?_
          refine Wk.istore o_L_law_442 (Or.inl rfl) (L' := [.val (.ref 0), .val (.ref 1), .val (.int v2), .val (.int v3), .val (.int v4), .val (.int v5), .val (.int v6), .val (.long w7), .second, .val (.long w9), .second, .val (.long w11), .second, .val (.int v13), .val (.int ((sv v13) &&& (3 : Int32))), .val (.int (sv (v13 + (1 : Int32)))), .val (.int (sv (v13 + (2 : Int32)))), .val (.int (sv (v13 + (3 : Int32)))), .val (.int (((sv (v13 + (1 : Int32))) &&& (63 : Int32)) - (2 : Int32))), .val (.int (R_run F1 A1 (((sv (v13 + (1 : Int32))) &&& (63 : Int32)) - (2 : Int32))).1), .unset, .unset, .unset, .unset]) rfl ?_
          refine Wk.forget [false, false, false, false, false, false, false, false, false, false, false, false, false, false, true, true, true, true, false, false, false, false, false, false] (L' := [.val (.ref 0), .val (.ref 1), .val (.int v2), .val (.int v3), .val (.int v4), .val (.int v5), .val (.int v6), .val (.long w7), .second, .val (.long w9), .second, .val (.long w11), .second, .val (.int v13), .unset, .unset, .unset, .unset, .val (.int (((sv (v13 + (1 : Int32))) &&& (63 : Int32)) - (2 : Int32))), .val (.int (R_run F1 A1 (((sv (v13 + (1 : Int32))) &&& (63 : Int32)) - (2 : Int32))).1), .unset, .unset, .unset, .unset]) rfl rfl ?_
          exact (h15 q1 q3 q12 q13)
        · refine Wk.iload o_L_law_270 rfl ?_
          refine Wk.bipush o_L_law_272 (z := (7 : Int32)) (by decide) ?_
          refine Wk.iand o_L_law_274 ?_
          refine Wk.iconst o_L_law_275 (z := (1 : Int32)) (by decide) ?_
          refine Wk.iadd o_L_law_276 ?_
          refine Wk.istore o_L_law_277 (Or.inl rfl) (L' := [.val (.ref 0), .val (.ref 1), .val (.int v2), .val (.int v3), .val (.int v4), .val (.int v5), .val (.int v6), .val (.long w7), .second, .val (.long w9), .second, .val (.long w11), .second, .val (.int v13), .val (.int ((sv v13) &&& (3 : Int32))), .val (.int (sv (v13 + (1 : Int32)))), .val (.int (sv (v13 + (2 : Int32)))), .val (.int (sv (v13 + (3 : Int32)))), .val (.int (((sv (v13 + (1 : Int32))) &&& (7 : Int32)) + (1 : Int32))), .unset, .unset, .unset, .unset, .unset]) rfl ?_
          refine Wk.aloadN o_L_law_279 rfl ?_
          refine Wk.iload o_L_law_280 rfl ?_
          refine Wk.callLF (coC H) [.int (((sv (v13 + (1 : Int32))) &&& (7 : Int32)) + (1 : Int32))] 0 [] (i' := 1) (H.w 105 rfl) (cv_build H) o_L_law_282 (run_build H F1 G1 A1 B1 (((sv (v13 + (1 : Int32))) &&& (7 : Int32)) + (1 : Int32)) (s16 q1 q3 q12 q13)) (wt := 0) (cu' := 8) (su' := 1328) (by decide) trivial rfl rfl rfl rfl rfl rfl rfl rfl rfl rfl (ws' := [(7, (R_build F1 A1 (((sv (v13 + (1 : Int32))) &&& (7 : Int32)) + (1 : Int32))).2.1, G1, (R_build F1 A1 (((sv (v13 + (1 : Int32))) &&& (7 : Int32)) + (1 : Int32))).2.2, B1)]) rfl ?_
          refine Wk.istore o_L_law_285 (Or.inl rfl) (L' := [.val (.ref 0), .val (.ref 1), .val (.int v2), .val (.int v3), .val (.int v4), .val (.int v5), .val (.int v6), .val (.long w7), .second, .val (.long w9), .second, .val (.long w11), .second, .val (.int v13), .val (.int ((sv v13) &&& (3 : Int32))), .val (.int (sv (v13 + (1 : Int32)))), .val (.int (sv (v13 + (2 : Int32)))), .val (.int (sv (v13 + (3 : Int32)))), .val (.int (((sv (v13 + (1 : Int32))) &&& (7 : Int32)) + (1 : Int32))), .val (.int (R_build F1 A1 (((sv (v13 + (1 : Int32))) &&& (7 : Int32)) + (1 : Int32))).1), .unset, .unset, .unset, .unset]) rfl ?_
          refine Wk.forget [false, false, false, false, false, false, false, false, false, false, false, false, false, false, true, true, true, true, false, false, false, false, false, false] (L' := [.val (.ref 0), .val (.ref 1), .val (.int v2), .val (.int v3), .val (.int v4), .val (.int v5), .val (.int v6), .val (.long w7), .second, .val (.long w9), .second, .val (.long w11), .second, .val (.int v13), .unset, .unset, .unset, .unset, .val (.int (((sv (v13 + (1 : Int32))) &&& (7 : Int32)) + (1 : Int32))), .val (.int (R_build F1 A1 (((sv (v13 + (1 : Int32))) &&& (7 : Int32)) + (1 : Int32))).1), .unset, .unset, .unset, .unset]) rfl rfl ?_
          exact (h17 q1 q3 q12 q13)
      · refine Wk.iload o_L_law_91 rfl ?_
        refine Wk.bipush o_L_law_93 (z := (7 : Int32)) (by decide) ?_
        refine Wk.iand o_L_law_95 ?_
        refine Wk.iconst o_L_law_96 (z := (1 : Int32)) (by decide) ?_
        refine Wk.iadd o_L_law_97 ?_
        refine Wk.istore o_L_law_98 (Or.inl rfl) (L' := [.val (.ref 0), .val (.ref 1), .val (.int v2), .val (.int v3), .val (.int v4), .val (.int v5), .val (.int v6), .val (.long w7), .second, .val (.long w9), .second, .val (.long w11), .second, .val (.int v13), .val (.int ((sv v13) &&& (3 : Int32))), .val (.int (sv (v13 + (1 : Int32)))), .val (.int (sv (v13 + (2 : Int32)))), .val (.int (sv (v13 + (3 : Int32)))), .val (.int (((sv (v13 + (1 : Int32))) &&& (7 : Int32)) + (1 : Int32))), .unset, .unset, .unset, .unset, .unset]) rfl ?_
        refine Wk.iload o_L_law_100 rfl ?_
        refine Wk.iconst o_L_law_102 (z := (3 : Int32)) (by decide) ?_
        refine Wk.iand o_L_law_103 ?_
        refine Wk.iconst o_L_law_104 (z := (1 : Int32)) (by decide) ?_
        refine Wk.iadd o_L_law_105 ?_
        refine Wk.istore o_L_law_106 (Or.inl rfl) (L' := [.val (.ref 0), .val (.ref 1), .val (.int v2), .val (.int v3), .val (.int v4), .val (.int v5), .val (.int v6), .val (.long w7), .second, .val (.long w9), .second, .val (.long w11), .second, .val (.int v13), .val (.int ((sv v13) &&& (3 : Int32))), .val (.int (sv (v13 + (1 : Int32)))), .val (.int (sv (v13 + (2 : Int32)))), .val (.int (sv (v13 + (3 : Int32)))), .val (.int (((sv (v13 + (1 : Int32))) &&& (7 : Int32)) + (1 : Int32))), .val (.int (((sv (v13 + (2 : Int32))) &&& (3 : Int32)) + (1 : Int32))), .unset, .unset, .unset, .unset]) rfl ?_
        refine Wk.iload o_L_law_108 rfl ?_
        refine Wk.iload o_L_law_110 rfl ?_
        refine Wk.iconst o_L_law_112 (z := (1 : Int32)) (by decide) ?_
        refine Wk.iand o_L_law_113 ?_
        refine Wk.isub o_L_law_114 ?_
        refine Wk.istore o_L_law_115 (Or.inl rfl) (L' := [.val (.ref 0), .val (.ref 1), .val (.int v2), .val (.int v3), .val (.int v4), .val (.int v5), .val (.int v6), .val (.long w7), .second, .val (.long w9), .second, .val (.long w11), .second, .val (.int v13), .val (.int ((sv v13) &&& (3 : Int32))), .val (.int (sv (v13 + (1 : Int32)))), .val (.int (sv (v13 + (2 : Int32)))), .val (.int (sv (v13 + (3 : Int32)))), .val (.int (((sv (v13 + (1 : Int32))) &&& (7 : Int32)) + (1 : Int32))), .val (.int (((sv (v13 + (2 : Int32))) &&& (3 : Int32)) + (1 : Int32))), .val (.int ((((sv (v13 + (1 : Int32))) &&& (7 : Int32)) + (1 : Int32)) - ((sv (v13 + (3 : Int32))) &&& (1 : Int32)))), .unset, .unset, .unset]) rfl ?_
        refine Wk.aloadN o_L_law_117 rfl ?_
        refine Wk.iload o_L_law_118 rfl ?_
        refine Wk.iload o_L_law_120 rfl ?_
        refine Wk.iload o_L_law_122 rfl ?_
        refine Wk.callLF (coC H) [.int (((sv (v13 + (1 : Int32))) &&& (7 : Int32)) + (1 : Int32)), .int (((sv (v13 + (2 : Int32))) &&& (3 : Int32)) + (1 : Int32)), .int ((((sv (v13 + (1 : Int32))) &&& (7 : Int32)) + (1 : Int32)) - ((sv (v13 + (3 : Int32))) &&& (1 : Int32)))] 0 [] (i' := 1) (H.w 85 rfl) (cv_addTask H) o_L_law_124 (run_addTask H F1 G1 A1 B1 (((sv (v13 + (1 : Int32))) &&& (7 : Int32)) + (1 : Int32)) (((sv (v13 + (2 : Int32))) &&& (3 : Int32)) + (1 : Int32)) ((((sv (v13 + (1 : Int32))) &&& (7 : Int32)) + (1 : Int32)) - ((sv (v13 + (3 : Int32))) &&& (1 : Int32))) (s18 q1 q3 q12)) (wt := 0) (cu' := 8) (su' := 1328) (by decide) trivial rfl rfl rfl rfl rfl rfl rfl rfl rfl rfl (ws' := [(7, (R_addTask F1 A1 (((sv (v13 + (1 : Int32))) &&& (7 : Int32)) + (1 : Int32)) (((sv (v13 + (2 : Int32))) &&& (3 : Int32)) + (1 : Int32)) ((((sv (v13 + (1 : Int32))) &&& (7 : Int32)) + (1 : Int32)) - ((sv (v13 + (3 : Int32))) &&& (1 : Int32)))).2.1, G1, (R_addTask F1 A1 (((sv (v13 + (1 : Int32))) &&& (7 : Int32)) + (1 : Int32)) (((sv (v13 + (2 : Int32))) &&& (3 : Int32)) + (1 : Int32)) ((((sv (v13 + (1 : Int32))) &&& (7 : Int32)) + (1 : Int32)) - ((sv (v13 + (3 : Int32))) &&& (1 : Int32)))).2.2, B1)]) rfl ?_
        refine Wk.istore o_L_law_127 (Or.inl rfl) (L' := [.val (.ref 0), .val (.ref 1), .val (.int v2), .val (.int v3), .val (.int v4), .val (.int v5), .val (.int v6), .val (.long w7), .second, .val (.long w9), .second, .val (.long w11), .second, .val (.int v13), .val (.int ((sv v13) &&& (3 : Int32))), .val (.int (sv (v13 + (1 : Int32)))), .val (.int (sv (v13 + (2 : Int32)))), .val (.int (sv (v13 + (3 : Int32)))), .val (.int (((sv (v13 + (1 : Int32))) &&& (7 : Int32)) + (1 : Int32))), .val (.int (((sv (v13 + (2 : Int32))) &&& (3 : Int32)) + (1 : Int32))), .val (.int ((((sv (v13 + (1 : Int32))) &&& (7 : Int32)) + (1 : Int32)) - ((sv (v13 + (3 : Int32))) &&& (1 : Int32)))), .val (.int (R_addTask F1 A1 (((sv (v13 + (1 : Int32))) &&& (7 : Int32)) + (1 : Int32)) (((sv (v13 + (2 : Int32))) &&& (3 : Int32)) + (1 : Int32)) ((((sv (v13 + (1 : Int32))) &&& (7 : Int32)) + (1 : Int32)) - ((sv (v13 + (3 : Int32))) &&& (1 : Int32)))).1), .unset, .unset]) rfl ?_
        refine Wk.forget [false, false, false, false, false, false, false, false, false, false, false, false, false, false, true, true, true, true, false, false, false, false, false, false] (L' := [.val (.ref 0), .val (.ref 1), .val (.int v2), .val (.int v3), .val (.int v4), .val (.int v5), .val (.int v6), .val (.long w7), .second, .val (.long w9), .second, .val (.long w11), .second, .val (.int v13), .unset, .unset, .unset, .unset, .val (.int (((sv (v13 + (1 : Int32))) &&& (7 : Int32)) + (1 : Int32))), .val (.int (((sv (v13 + (2 : Int32))) &&& (3 : Int32)) + (1 : Int32))), .val (.int ((((sv (v13 + (1 : Int32))) &&& (7 : Int32)) + (1 : Int32)) - ((sv (v13 + (3 : Int32))) &&& (1 : Int32)))), .val (.int (R_addTask F1 A1 (((sv (v13 + (1 : Int32))) &&& (7 : Int32)) + (1 : Int32)) (((sv (v13 + (2 : Int32))) &&& (3 : Int32)) + (1 : Int32)) ((((sv (v13 + (1 : Int32))) &&& (7 : Int32)) + (1 : Int32)) - ((sv (v13 + (3 : Int32))) &&& (1 : Int32)))).1), .unset, .unset]) rfl rfl ?_
        exact (h19 q1 q3 q12)

set_option maxRecDepth 65536 in
set_option maxHeartbeats 4000000 in
theorem wp_L_law_287 {l : Launch} {Z : State} {a0 : Array Value} (H : OK Z a0) (sl : Int32) (sv : Int32 → Int32) (F1 : Nat → Int32) (G1 : Nat → Int64) (A1 : Nat → Int32 → Int32) (B1 : Nat → Int32 → Int64) (v2 : Int32) (v3 : Int32) (v4 : Int32) (v5 : Int32) (v6 : Int32) (w7 : Int64) (w9 : Int64) (w11 : Int64) (v13 : Int32) (v18 : Int32) (v19 : Int32) {Q : Option Value → WL → Prop} (h5 : ¬ v2 = 0 → v3 < v18 → v19 = (-5 : Int32) → ¬ (f_getTaskCount F1) = v2 → Q (some (.int (0 : Int32))) (sl, sv, [(7, F1, G1, A1, B1)])) (h7 : ¬ v2 = 0 → v3 < v18 → v19 = (-5 : Int32) → (f_getTaskCount F1) = v2 → ¬ (f_getHyperperiod F1) = v3 → Q (some (.int (0 : Int32))) (sl, sv, [(7, F1, G1, A1, B1)])) (h10 : ¬ v2 = 0 → v3 < v18 → v19 = (-5 : Int32) → (f_getTaskCount F1) = v2 → (f_getHyperperiod F1) = v3 → (f_getFrame F1) = v4 → ¬ (f_getNow F1) = v5 → Q (some (.int (0 : Int32))) (sl, sv, [(7, F1, G1, A1, B1)])) (s12 : ¬ v2 = 0 → v3 < v18 → v19 = (-5 : Int32) → (f_getTaskCount F1) = v2 → (f_getHyperperiod F1) = v3 → (f_getFrame F1) = v4 → (f_getNow F1) = v5 → (f_getMiss F1) = v6 → (en_L_runsOk  F1 A1 v2 v3 v4 v5 w7 w9).isSome = true) (h14 : ¬ v2 = 0 → v3 < v18 → v19 = (-5 : Int32) → (f_getTaskCount F1) = v2 → (f_getHyperperiod F1) = v3 → (f_getFrame F1) = v4 → (f_getNow F1) = v5 → (f_getMiss F1) = v6 → ¬ (R_L_runsOk  F1 A1 v2 v3 v4 v5 w7 w9) = 0 → Wk l Z (MoL Z cdC "CyclicExecutiveL6" true) md_L_law 36 [.val (.ref 0), .val (.ref 1), .val (.int v2), .val (.int v3), .val (.int v4), .val (.int v5), .val (.int v6), .val (.long w7), .second, .val (.long w9), .second, .val (.long w11), .second, .val (.int (v13 + (4 : Int32))), .unset, .unset, .unset, .unset, .unset, .unset, .unset, .unset, .unset, .unset] [] (sl, sv, [(7, F1, G1, A1, B1)]) 8 1328 Q) (h15 : ¬ v2 = 0 → v3 < v18 → v19 = (-5 : Int32) → (f_getTaskCount F1) = v2 → (f_getHyperperiod F1) = v3 → (f_getFrame F1) = v4 → (f_getNow F1) = v5 → (f_getMiss F1) = v6 → (R_L_runsOk  F1 A1 v2 v3 v4 v5 w7 w9) = 0 → Q (some (.int (0 : Int32))) (sl, sv, [(7, F1, G1, A1, B1)])) (h16 : ¬ v2 = 0 → v3 < v18 → v19 = (-5 : Int32) → (f_getTaskCount F1) = v2 → (f_getHyperperiod F1) = v3 → (f_getFrame F1) = v4 → (f_getNow F1) = v5 → ¬ (f_getMiss F1) = v6 → Q (some (.int (0 : Int32))) (sl, sv, [(7, F1, G1, A1, B1)])) (h17 : ¬ v2 = 0 → v3 < v18 → v19 = (-5 : Int32) → (f_getTaskCount F1) = v2 → (f_getHyperperiod F1) = v3 → ¬ (f_getFrame F1) = v4 → Q (some (.int (0 : Int32))) (sl, sv, [(7, F1, G1, A1, B1)])) (h18 : ¬ v2 = 0 → v3 < v18 → ¬ v19 = (-5 : Int32) → Q (some (.int (0 : Int32))) (sl, sv, [(7, F1, G1, A1, B1)])) (s19 : ¬ v2 = 0 → ¬ v3 < v18 → ¬ v18 = (0 : Int32)) (s21 : ¬ v2 = 0 → ¬ v3 < v18 → (v3 % v18) = 0 → (en_L_deadlineFails   v18 v2 w7 w11).isSome = true) (h25 : ¬ v2 = 0 → ¬ v3 < v18 → (v3 % v18) = 0 → (R_L_deadlineFails   v18 v2 w7 w11) = 0 → ¬ v19 = 0 → ¬ v19 = (-7 : Int32) → Q (some (.int (0 : Int32))) (sl, sv, [(7, F1, G1, A1, B1)])) (h27 : ¬ v2 = 0 → ¬ v3 < v18 → (v3 % v18) = 0 → (R_L_deadlineFails   v18 v2 w7 w11) = 0 → ¬ v19 = 0 → v19 = (-7 : Int32) → (f_getMiss F1) < 0 → Q (some (.int (0 : Int32))) (sl, sv, [(7, F1, G1, A1, B1)])) (s29 : ¬ v2 = 0 → ¬ v3 < v18 → (v3 % v18) = 0 → (R_L_deadlineFails   v18 v2 w7 w11) = 0 → ¬ v19 = 0 → v19 = (-7 : Int32) → ¬ (f_getMiss F1) < 0 → ((f_getMiss F1) / (128 : Int32)) < v2 → ¬ (f_L_fld w7 ((f_getMiss F1) / (128 : Int32))) = (0 : Int32)) (h32 : ¬ v2 = 0 → ¬ v3 < v18 → (v3 % v18) = 0 → (R_L_deadlineFails   v18 v2 w7 w11) = 0 → ¬ v19 = 0 → v19 = (-7 : Int32) → ¬ (f_getMiss F1) < 0 → ((f_getMiss F1) / (128 : Int32)) < v2 → ((f_getMiss F1) % (128 : Int32)) < (v3 / (f_L_fld w7 ((f_getMiss F1) / (128 : Int32)))) → ¬ (f_getTaskCount F1) = v2 → Q (some (.int (0 : Int32))) (sl, sv, [(7, F1, G1, A1, B1)])) (h34 : ¬ v2 = 0 → ¬ v3 < v18 → (v3 % v18) = 0 → (R_L_deadlineFails   v18 v2 w7 w11) = 0 → ¬ v19 = 0 → v19 = (-7 : Int32) → ¬ (f_getMiss F1) < 0 → ((f_getMiss F1) / (128 : Int32)) < v2 → ((f_getMiss F1) % (128 : Int32)) < (v3 / (f_L_fld w7 ((f_getMiss F1) / (128 : Int32)))) → (f_getTaskCount F1) = v2 → ¬ (f_getHyperperiod F1) = v3 → Q (some (.int (0 : Int32))) (sl, sv, [(7, F1, G1, A1, B1)])) (h37 : ¬ v2 = 0 → ¬ v3 < v18 → (v3 % v18) = 0 → (R_L_deadlineFails   v18 v2 w7 w11) = 0 → ¬ v19 = 0 → v19 = (-7 : Int32) → ¬ (f_getMiss F1) < 0 → ((f_getMiss F1) / (128 : Int32)) < v2 → ((f_getMiss F1) % (128 : Int32)) < (v3 / (f_L_fld w7 ((f_getMiss F1) / (128 : Int32)))) → (f_getTaskCount F1) = v2 → (f_getHyperperiod F1) = v3 → (f_getFrame F1) = (0 : Int32) → ¬ (f_getNow F1) = (0 : Int32) → Q (some (.int (0 : Int32))) (sl, sv, [(7, F1, G1, A1, B1)])) (s39 : ¬ v2 = 0 → ¬ v3 < v18 → (v3 % v18) = 0 → (R_L_deadlineFails   v18 v2 w7 w11) = 0 → ¬ v19 = 0 → v19 = (-7 : Int32) → ¬ (f_getMiss F1) < 0 → ((f_getMiss F1) / (128 : Int32)) < v2 → ((f_getMiss F1) % (128 : Int32)) < (v3 / (f_L_fld w7 ((f_getMiss F1) / (128 : Int32)))) → (f_getTaskCount F1) = v2 → (f_getHyperperiod F1) = v3 → (f_getFrame F1) = (0 : Int32) → (f_getNow F1) = (0 : Int32) → (f_getMiss F1) = (f_getMiss F1) → (en_L_runsOk  F1 A1 v2 v3 (0 : Int32) (0 : Int32) w7 w9).isSome = true) (h41 : ¬ v2 = 0 → ¬ v3 < v18 → (v3 % v18) = 0 → (R_L_deadlineFails   v18 v2 w7 w11) = 0 → ¬ v19 = 0 → v19 = (-7 : Int32) → ¬ (f_getMiss F1) < 0 → ((f_getMiss F1) / (128 : Int32)) < v2 → ((f_getMiss F1) % (128 : Int32)) < (v3 / (f_L_fld w7 ((f_getMiss F1) / (128 : Int32)))) → (f_getTaskCount F1) = v2 → (f_getHyperperiod F1) = v3 → (f_getFrame F1) = (0 : Int32) → (f_getNow F1) = (0 : Int32) → (f_getMiss F1) = (f_getMiss F1) → ¬ (R_L_runsOk  F1 A1 v2 v3 (0 : Int32) (0 : Int32) w7 w9) = 0 → Wk l Z (MoL Z cdC "CyclicExecutiveL6" true) md_L_law 36 [.val (.ref 0), .val (.ref 1), .val (.int v2), .val (.int v3), .val (.int (0 : Int32)), .val (.int (0 : Int32)), .val (.int (f_getMiss F1)), .val (.long w7), .second, .val (.long w9), .second, .val (.long w11), .second, .val (.int (v13 + (4 : Int32))), .unset, .unset, .unset, .unset, .unset, .unset, .unset, .unset, .unset, .unset] [] (sl, sv, [(7, F1, G1, A1, B1)]) 8 1328 Q) (h42 : ¬ v2 = 0 → ¬ v3 < v18 → (v3 % v18) = 0 → (R_L_deadlineFails   v18 v2 w7 w11) = 0 → ¬ v19 = 0 → v19 = (-7 : Int32) → ¬ (f_getMiss F1) < 0 → ((f_getMiss F1) / (128 : Int32)) < v2 → ((f_getMiss F1) % (128 : Int32)) < (v3 / (f_L_fld w7 ((f_getMiss F1) / (128 : Int32)))) → (f_getTaskCount F1) = v2 → (f_getHyperperiod F1) = v3 → (f_getFrame F1) = (0 : Int32) → (f_getNow F1) = (0 : Int32) → (f_getMiss F1) = (f_getMiss F1) → (R_L_runsOk  F1 A1 v2 v3 (0 : Int32) (0 : Int32) w7 w9) = 0 → Q (some (.int (0 : Int32))) (sl, sv, [(7, F1, G1, A1, B1)])) (h43 : ¬ v2 = 0 → ¬ v3 < v18 → (v3 % v18) = 0 → (R_L_deadlineFails   v18 v2 w7 w11) = 0 → ¬ v19 = 0 → v19 = (-7 : Int32) → ¬ (f_getMiss F1) < 0 → ((f_getMiss F1) / (128 : Int32)) < v2 → ((f_getMiss F1) % (128 : Int32)) < (v3 / (f_L_fld w7 ((f_getMiss F1) / (128 : Int32)))) → (f_getTaskCount F1) = v2 → (f_getHyperperiod F1) = v3 → (f_getFrame F1) = (0 : Int32) → (f_getNow F1) = (0 : Int32) → ¬ (f_getMiss F1) = (f_getMiss F1) → Q (some (.int (0 : Int32))) (sl, sv, [(7, F1, G1, A1, B1)])) (h44 : ¬ v2 = 0 → ¬ v3 < v18 → (v3 % v18) = 0 → (R_L_deadlineFails   v18 v2 w7 w11) = 0 → ¬ v19 = 0 → v19 = (-7 : Int32) → ¬ (f_getMiss F1) < 0 → ((f_getMiss F1) / (128 : Int32)) < v2 → ((f_getMiss F1) % (128 : Int32)) < (v3 / (f_L_fld w7 ((f_getMiss F1) / (128 : Int32)))) → (f_getTaskCount F1) = v2 → (f_getHyperperiod F1) = v3 → ¬ (f_getFrame F1) = (0 : Int32) → Q (some (.int (0 : Int32))) (sl, sv, [(7, F1, G1, A1, B1)])) (h45 : ¬ v2 = 0 → ¬ v3 < v18 → (v3 % v18) = 0 → (R_L_deadlineFails   v18 v2 w7 w11) = 0 → ¬ v19 = 0 → v19 = (-7 : Int32) → ¬ (f_getMiss F1) < 0 → ((f_getMiss F1) / (128 : Int32)) < v2 → ¬ ((f_getMiss F1) % (128 : Int32)) < (v3 / (f_L_fld w7 ((f_getMiss F1) / (128 : Int32)))) → Q (some (.int (0 : Int32))) (sl, sv, [(7, F1, G1, A1, B1)])) (h46 : ¬ v2 = 0 → ¬ v3 < v18 → (v3 % v18) = 0 → (R_L_deadlineFails   v18 v2 w7 w11) = 0 → ¬ v19 = 0 → v19 = (-7 : Int32) → ¬ (f_getMiss F1) < 0 → ¬ ((f_getMiss F1) / (128 : Int32)) < v2 → Q (some (.int (0 : Int32))) (sl, sv, [(7, F1, G1, A1, B1)])) (h48 : ¬ v2 = 0 → ¬ v3 < v18 → (v3 % v18) = 0 → (R_L_deadlineFails   v18 v2 w7 w11) = 0 → v19 = 0 → ¬ (f_getTaskCount F1) = v2 → Q (some (.int (0 : Int32))) (sl, sv, [(7, F1, G1, A1, B1)])) (h50 : ¬ v2 = 0 → ¬ v3 < v18 → (v3 % v18) = 0 → (R_L_deadlineFails   v18 v2 w7 w11) = 0 → v19 = 0 → (f_getTaskCount F1) = v2 → ¬ (f_getHyperperiod F1) = v3 → Q (some (.int (0 : Int32))) (sl, sv, [(7, F1, G1, A1, B1)])) (h53 : ¬ v2 = 0 → ¬ v3 < v18 → (v3 % v18) = 0 → (R_L_deadlineFails   v18 v2 w7 w11) = 0 → v19 = 0 → (f_getTaskCount F1) = v2 → (f_getHyperperiod F1) = v3 → (f_getFrame F1) = v18 → ¬ (f_getNow F1) = (0 : Int32) → Q (some (.int (0 : Int32))) (sl, sv, [(7, F1, G1, A1, B1)])) (s55 : ¬ v2 = 0 → ¬ v3 < v18 → (v3 % v18) = 0 → (R_L_deadlineFails   v18 v2 w7 w11) = 0 → v19 = 0 → (f_getTaskCount F1) = v2 → (f_getHyperperiod F1) = v3 → (f_getFrame F1) = v18 → (f_getNow F1) = (0 : Int32) → (f_getMiss F1) = (-1 : Int32) → (en_L_runsOk  F1 A1 v2 v3 v18 (0 : Int32) w7 w9).isSome = true) (h57 : ¬ v2 = 0 → ¬ v3 < v18 → (v3 % v18) = 0 → (R_L_deadlineFails   v18 v2 w7 w11) = 0 → v19 = 0 → (f_getTaskCount F1) = v2 → (f_getHyperperiod F1) = v3 → (f_getFrame F1) = v18 → (f_getNow F1) = (0 : Int32) → (f_getMiss F1) = (-1 : Int32) → ¬ (R_L_runsOk  F1 A1 v2 v3 v18 (0 : Int32) w7 w9) = 0 → Wk l Z (MoL Z cdC "CyclicExecutiveL6" true) md_L_law 36 [.val (.ref 0), .val (.ref 1), .val (.int v2), .val (.int v3), .val (.int v18), .val (.int (0 : Int32)), .val (.int (-1 : Int32)), .val (.long w7), .second, .val (.long w9), .second, .val (.long w11), .second, .val (.int (v13 + (4 : Int32))), .unset, .unset, .unset, .unset, .unset, .unset, .unset, .unset, .unset, .unset] [] (sl, sv, [(7, F1, G1, A1, B1)]) 8 1328 Q) (h58 : ¬ v2 = 0 → ¬ v3 < v18 → (v3 % v18) = 0 → (R_L_deadlineFails   v18 v2 w7 w11) = 0 → v19 = 0 → (f_getTaskCount F1) = v2 → (f_getHyperperiod F1) = v3 → (f_getFrame F1) = v18 → (f_getNow F1) = (0 : Int32) → (f_getMiss F1) = (-1 : Int32) → (R_L_runsOk  F1 A1 v2 v3 v18 (0 : Int32) w7 w9) = 0 → Q (some (.int (0 : Int32))) (sl, sv, [(7, F1, G1, A1, B1)])) (h59 : ¬ v2 = 0 → ¬ v3 < v18 → (v3 % v18) = 0 → (R_L_deadlineFails   v18 v2 w7 w11) = 0 → v19 = 0 → (f_getTaskCount F1) = v2 → (f_getHyperperiod F1) = v3 → (f_getFrame F1) = v18 → (f_getNow F1) = (0 : Int32) → ¬ (f_getMiss F1) = (-1 : Int32) → Q (some (.int (0 : Int32))) (sl, sv, [(7, F1, G1, A1, B1)])) (h60 : ¬ v2 = 0 → ¬ v3 < v18 → (v3 % v18) = 0 → (R_L_deadlineFails   v18 v2 w7 w11) = 0 → v19 = 0 → (f_getTaskCount F1) = v2 → (f_getHyperperiod F1) = v3 → ¬ (f_getFrame F1) = v18 → Q (some (.int (0 : Int32))) (sl, sv, [(7, F1, G1, A1, B1)])) (h63 : ¬ v2 = 0 → ¬ v3 < v18 → (v3 % v18) = 0 → ¬ (R_L_deadlineFails   v18 v2 w7 w11) = 0 → v19 = (-6 : Int32) → ¬ (f_getTaskCount F1) = v2 → Q (some (.int (0 : Int32))) (sl, sv, [(7, F1, G1, A1, B1)])) (h65 : ¬ v2 = 0 → ¬ v3 < v18 → (v3 % v18) = 0 → ¬ (R_L_deadlineFails   v18 v2 w7 w11) = 0 → v19 = (-6 : Int32) → (f_getTaskCount F1) = v2 → ¬ (f_getHyperperiod F1) = v3 → Q (some (.int (0 : Int32))) (sl, sv, [(7, F1, G1, A1, B1)])) (h68 : ¬ v2 = 0 → ¬ v3 < v18 → (v3 % v18) = 0 → ¬ (R_L_deadlineFails   v18 v2 w7 w11) = 0 → v19 = (-6 : Int32) → (f_getTaskCount F1) = v2 → (f_getHyperperiod F1) = v3 → (f_getFrame F1) = v4 → ¬ (f_getNow F1) = v5 → Q (some (.int (0 : Int32))) (sl, sv, [(7, F1, G1, A1, B1)])) (s70 : ¬ v2 = 0 → ¬ v3 < v18 → (v3 % v18) = 0 → ¬ (R_L_deadlineFails   v18 v2 w7 w11) = 0 → v19 = (-6 : Int32) → (f_getTaskCount F1) = v2 → (f_getHyperperiod F1) = v3 → (f_getFrame F1) = v4 → (f_getNow F1) = v5 → (f_getMiss F1) = v6 → (en_L_runsOk  F1 A1 v2 v3 v4 v5 w7 w9).isSome = true) (h72 : ¬ v2 = 0 → ¬ v3 < v18 → (v3 % v18) = 0 → ¬ (R_L_deadlineFails   v18 v2 w7 w11) = 0 → v19 = (-6 : Int32) → (f_getTaskCount F1) = v2 → (f_getHyperperiod F1) = v3 → (f_getFrame F1) = v4 → (f_getNow F1) = v5 → (f_getMiss F1) = v6 → ¬ (R_L_runsOk  F1 A1 v2 v3 v4 v5 w7 w9) = 0 → Wk l Z (MoL Z cdC "CyclicExecutiveL6" true) md_L_law 36 [.val (.ref 0), .val (.ref 1), .val (.int v2), .val (.int v3), .val (.int v4), .val (.int v5), .val (.int v6), .val (.long w7), .second, .val (.long w9), .second, .val (.long w11), .second, .val (.int (v13 + (4 : Int32))), .unset, .unset, .unset, .unset, .unset, .unset, .unset, .unset, .unset, .unset] [] (sl, sv, [(7, F1, G1, A1, B1)]) 8 1328 Q) (h73 : ¬ v2 = 0 → ¬ v3 < v18 → (v3 % v18) = 0 → ¬ (R_L_deadlineFails   v18 v2 w7 w11) = 0 → v19 = (-6 : Int32) → (f_getTaskCount F1) = v2 → (f_getHyperperiod F1) = v3 → (f_getFrame F1) = v4 → (f_getNow F1) = v5 → (f_getMiss F1) = v6 → (R_L_runsOk  F1 A1 v2 v3 v4 v5 w7 w9) = 0 → Q (some (.int (0 : Int32))) (sl, sv, [(7, F1, G1, A1, B1)])) (h74 : ¬ v2 = 0 → ¬ v3 < v18 → (v3 % v18) = 0 → ¬ (R_L_deadlineFails   v18 v2 w7 w11) = 0 → v19 = (-6 : Int32) → (f_getTaskCount F1) = v2 → (f_getHyperperiod F1) = v3 → (f_getFrame F1) = v4 → (f_getNow F1) = v5 → ¬ (f_getMiss F1) = v6 → Q (some (.int (0 : Int32))) (sl, sv, [(7, F1, G1, A1, B1)])) (h75 : ¬ v2 = 0 → ¬ v3 < v18 → (v3 % v18) = 0 → ¬ (R_L_deadlineFails   v18 v2 w7 w11) = 0 → v19 = (-6 : Int32) → (f_getTaskCount F1) = v2 → (f_getHyperperiod F1) = v3 → ¬ (f_getFrame F1) = v4 → Q (some (.int (0 : Int32))) (sl, sv, [(7, F1, G1, A1, B1)])) (h76 : ¬ v2 = 0 → ¬ v3 < v18 → (v3 % v18) = 0 → ¬ (R_L_deadlineFails   v18 v2 w7 w11) = 0 → ¬ v19 = (-6 : Int32) → Q (some (.int (0 : Int32))) (sl, sv, [(7, F1, G1, A1, B1)])) (h79 : ¬ v2 = 0 → ¬ v3 < v18 → ¬ (v3 % v18) = 0 → v19 = (-5 : Int32) → ¬ (f_getTaskCount F1) = v2 → Q (some (.int (0 : Int32))) (sl, sv, [(7, F1, G1, A1, B1)])) (h81 : ¬ v2 = 0 → ¬ v3 < v18 → ¬ (v3 % v18) = 0 → v19 = (-5 : Int32) → (f_getTaskCount F1) = v2 → ¬ (f_getHyperperiod F1) = v3 → Q (some (.int (0 : Int32))) (sl, sv, [(7, F1, G1, A1, B1)])) (h84 : ¬ v2 = 0 → ¬ v3 < v18 → ¬ (v3 % v18) = 0 → v19 = (-5 : Int32) → (f_getTaskCount F1) = v2 → (f_getHyperperiod F1) = v3 → (f_getFrame F1) = v4 → ¬ (f_getNow F1) = v5 → Q (some (.int (0 : Int32))) (sl, sv, [(7, F1, G1, A1, B1)])) (s86 : ¬ v2 = 0 → ¬ v3 < v18 → ¬ (v3 % v18) = 0 → v19 = (-5 : Int32) → (f_getTaskCount F1) = v2 → (f_getHyperperiod F1) = v3 → (f_getFrame F1) = v4 → (f_getNow F1) = v5 → (f_getMiss F1) = v6 → (en_L_runsOk  F1 A1 v2 v3 v4 v5 w7 w9).isSome = true) (h88 : ¬ v2 = 0 → ¬ v3 < v18 → ¬ (v3 % v18) = 0 → v19 = (-5 : Int32) → (f_getTaskCount F1) = v2 → (f_getHyperperiod F1) = v3 → (f_getFrame F1) = v4 → (f_getNow F1) = v5 → (f_getMiss F1) = v6 → ¬ (R_L_runsOk  F1 A1 v2 v3 v4 v5 w7 w9) = 0 → Wk l Z (MoL Z cdC "CyclicExecutiveL6" true) md_L_law 36 [.val (.ref 0), .val (.ref 1), .val (.int v2), .val (.int v3), .val (.int v4), .val (.int v5), .val (.int v6), .val (.long w7), .second, .val (.long w9), .second, .val (.long w11), .second, .val (.int (v13 + (4 : Int32))), .unset, .unset, .unset, .unset, .unset, .unset, .unset, .unset, .unset, .unset] [] (sl, sv, [(7, F1, G1, A1, B1)]) 8 1328 Q) (h89 : ¬ v2 = 0 → ¬ v3 < v18 → ¬ (v3 % v18) = 0 → v19 = (-5 : Int32) → (f_getTaskCount F1) = v2 → (f_getHyperperiod F1) = v3 → (f_getFrame F1) = v4 → (f_getNow F1) = v5 → (f_getMiss F1) = v6 → (R_L_runsOk  F1 A1 v2 v3 v4 v5 w7 w9) = 0 → Q (some (.int (0 : Int32))) (sl, sv, [(7, F1, G1, A1, B1)])) (h90 : ¬ v2 = 0 → ¬ v3 < v18 → ¬ (v3 % v18) = 0 → v19 = (-5 : Int32) → (f_getTaskCount F1) = v2 → (f_getHyperperiod F1) = v3 → (f_getFrame F1) = v4 → (f_getNow F1) = v5 → ¬ (f_getMiss F1) = v6 → Q (some (.int (0 : Int32))) (sl, sv, [(7, F1, G1, A1, B1)])) (h91 : ¬ v2 = 0 → ¬ v3 < v18 → ¬ (v3 % v18) = 0 → v19 = (-5 : Int32) → (f_getTaskCount F1) = v2 → (f_getHyperperiod F1) = v3 → ¬ (f_getFrame F1) = v4 → Q (some (.int (0 : Int32))) (sl, sv, [(7, F1, G1, A1, B1)])) (h92 : ¬ v2 = 0 → ¬ v3 < v18 → ¬ (v3 % v18) = 0 → ¬ v19 = (-5 : Int32) → Q (some (.int (0 : Int32))) (sl, sv, [(7, F1, G1, A1, B1)])) (h95 : v2 = 0 → v19 = (-4 : Int32) → ¬ (f_getTaskCount F1) = v2 → Q (some (.int (0 : Int32))) (sl, sv, [(7, F1, G1, A1, B1)])) (h97 : v2 = 0 → v19 = (-4 : Int32) → (f_getTaskCount F1) = v2 → ¬ (f_getHyperperiod F1) = v3 → Q (some (.int (0 : Int32))) (sl, sv, [(7, F1, G1, A1, B1)])) (h100 : v2 = 0 → v19 = (-4 : Int32) → (f_getTaskCount F1) = v2 → (f_getHyperperiod F1) = v3 → (f_getFrame F1) = v4 → ¬ (f_getNow F1) = v5 → Q (some (.int (0 : Int32))) (sl, sv, [(7, F1, G1, A1, B1)])) (s102 : v2 = 0 → v19 = (-4 : Int32) → (f_getTaskCount F1) = v2 → (f_getHyperperiod F1) = v3 → (f_getFrame F1) = v4 → (f_getNow F1) = v5 → (f_getMiss F1) = v6 → (en_L_runsOk  F1 A1 v2 v3 v4 v5 w7 w9).isSome = true) (h104 : v2 = 0 → v19 = (-4 : Int32) → (f_getTaskCount F1) = v2 → (f_getHyperperiod F1) = v3 → (f_getFrame F1) = v4 → (f_getNow F1) = v5 → (f_getMiss F1) = v6 → ¬ (R_L_runsOk  F1 A1 v2 v3 v4 v5 w7 w9) = 0 → Wk l Z (MoL Z cdC "CyclicExecutiveL6" true) md_L_law 36 [.val (.ref 0), .val (.ref 1), .val (.int v2), .val (.int v3), .val (.int v4), .val (.int v5), .val (.int v6), .val (.long w7), .second, .val (.long w9), .second, .val (.long w11), .second, .val (.int (v13 + (4 : Int32))), .unset, .unset, .unset, .unset, .unset, .unset, .unset, .unset, .unset, .unset] [] (sl, sv, [(7, F1, G1, A1, B1)]) 8 1328 Q) (h105 : v2 = 0 → v19 = (-4 : Int32) → (f_getTaskCount F1) = v2 → (f_getHyperperiod F1) = v3 → (f_getFrame F1) = v4 → (f_getNow F1) = v5 → (f_getMiss F1) = v6 → (R_L_runsOk  F1 A1 v2 v3 v4 v5 w7 w9) = 0 → Q (some (.int (0 : Int32))) (sl, sv, [(7, F1, G1, A1, B1)])) (h106 : v2 = 0 → v19 = (-4 : Int32) → (f_getTaskCount F1) = v2 → (f_getHyperperiod F1) = v3 → (f_getFrame F1) = v4 → (f_getNow F1) = v5 → ¬ (f_getMiss F1) = v6 → Q (some (.int (0 : Int32))) (sl, sv, [(7, F1, G1, A1, B1)])) (h107 : v2 = 0 → v19 = (-4 : Int32) → (f_getTaskCount F1) = v2 → (f_getHyperperiod F1) = v3 → ¬ (f_getFrame F1) = v4 → Q (some (.int (0 : Int32))) (sl, sv, [(7, F1, G1, A1, B1)])) (h108 : v2 = 0 → ¬ v19 = (-4 : Int32) → Q (some (.int (0 : Int32))) (sl, sv, [(7, F1, G1, A1, B1)])) :
    Wk l Z (MoL Z cdC "CyclicExecutiveL6" true) md_L_law 287 [.val (.ref 0), .val (.ref 1), .val (.int v2), .val (.int v3), .val (.int v4), .val (.int v5), .val (.int v6), .val (.long w7), .second, .val (.long w9), .second, .val (.long w11), .second, .val (.int v13), .unset, .unset, .unset, .unset, .val (.int v18), .val (.int v19), .unset, .unset, .unset, .unset] [] (sl, sv, [(7, F1, G1, A1, B1)]) 8 1328 Q := by
  refine Wk.iloadN o_L_law_287 rfl ?_
  refine Wk.if_ne o_L_law_288 (fun q1 => ?_) (fun q1 => ?_)
  · refine Wk.iload o_L_law_300 rfl ?_
    refine Wk.iloadN o_L_law_302 rfl ?_
    refine Wk.icmp_gt o_L_law_303 (fun q2 => ?_) (fun q2 => ?_)
    · refine Wk.iload o_L_law_313 rfl ?_
      refine Wk.bipush o_L_law_315 (z := (-5 : Int32)) (by decide) ?_
      refine Wk.icmp_eq o_L_law_317 (fun q3 => ?_) (fun q3 => ?_)
      · refine Wk.goto o_L_law_424 ?_
        refine Wk.aloadN o_L_law_479 rfl ?_
        refine Wk.callLF (coC H) [] 0 [] (i' := 1) (H.w 51 rfl) (cv_getTaskCount H) o_L_law_480 (run_getTaskCount H F1 G1 A1 B1) (wt := 0) (cu' := 8) (su' := 1328) (by decide) trivial rfl rfl rfl rfl rfl rfl rfl rfl rfl rfl (ws' := [(7, F1, G1, A1, B1)]) rfl ?_
        refine Wk.iloadN o_L_law_483 rfl ?_
        refine Wk.icmp_ne o_L_law_484 (fun q4 => ?_) (fun q4 => ?_)
        · refine Wk.iconst o_L_law_504 (z := (0 : Int32)) (by decide) ?_
          exact Wk.zreturn mrL rfl o_L_law_505 rfl (by decide) (by decide) (y := (0 : Int32)) (by decide) (h5 q1 q2 q3 q4)
        · refine Wk.aloadN o_L_law_487 rfl ?_
          refine Wk.callLF (coC H) [] 0 [] (i' := 1) (H.w 56 rfl) (cv_getHyperperiod H) o_L_law_488 (run_getHyperperiod H F1 G1 A1 B1) (wt := 0) (cu' := 8) (su' := 1328) (by decide) trivial rfl rfl rfl rfl rfl rfl rfl rfl rfl rfl (ws' := [(7, F1, G1, A1, B1)]) rfl ?_
          refine Wk.iloadN o_L_law_491 rfl ?_
          refine Wk.icmp_ne o_L_law_492 (fun q6 => ?_) (fun q6 => ?_)
          · refine Wk.iconst o_L_law_504 (z := (0 : Int32)) (by decide) ?_
            exact Wk.zreturn mrL rfl o_L_law_505 rfl (by decide) (by decide) (y := (0 : Int32)) (by decide) (h7 q1 q2 q3 q4 q6)
          · refine Wk.aloadN o_L_law_495 rfl ?_
            refine Wk.callLF (coC H) [] 0 [] (i' := 1) (H.w 61 rfl) (cv_getFrame H) o_L_law_496 (run_getFrame H F1 G1 A1 B1) (wt := 0) (cu' := 8) (su' := 1328) (by decide) trivial rfl rfl rfl rfl rfl rfl rfl rfl rfl rfl (ws' := [(7, F1, G1, A1, B1)]) rfl ?_
            refine Wk.iload o_L_law_499 rfl ?_
            refine Wk.icmp_eq o_L_law_501 (fun q8 => ?_) (fun q8 => ?_)
            · refine Wk.aloadN o_L_law_506 rfl ?_
              refine Wk.callLF (coC H) [] 0 [] (i' := 1) (H.w 66 rfl) (cv_getNow H) o_L_law_507 (run_getNow H F1 G1 A1 B1) (wt := 0) (cu' := 8) (su' := 1328) (by decide) trivial rfl rfl rfl rfl rfl rfl rfl rfl rfl rfl (ws' := [(7, F1, G1, A1, B1)]) rfl ?_
              refine Wk.iload o_L_law_510 rfl ?_
              refine Wk.icmp_ne o_L_law_512 (fun q9 => ?_) (fun q9 => ?_)
              · refine Wk.iconst o_L_law_524 (z := (0 : Int32)) (by decide) ?_
                exact Wk.zreturn mrL rfl o_L_law_525 rfl (by decide) (by decide) (y := (0 : Int32)) (by decide) (h10 q1 q2 q3 q4 q6 q8 q9)
              · refine Wk.aloadN o_L_law_515 rfl ?_
                refine Wk.callLF (coC H) [] 0 [] (i' := 1) (H.w 71 rfl) (cv_getMiss H) o_L_law_516 (run_getMiss H F1 G1 A1 B1) (wt := 0) (cu' := 8) (su' := 1328) (by decide) trivial rfl rfl rfl rfl rfl rfl rfl rfl rfl rfl (ws' := [(7, F1, G1, A1, B1)]) rfl ?_
                refine Wk.iload o_L_law_519 rfl ?_
                refine Wk.icmp_eq o_L_law_521 (fun q11 => ?_) (fun q11 => ?_)
                · refine Wk.aloadN o_L_law_526 rfl ?_
                  refine Wk.iloadN o_L_law_527 rfl ?_
                  refine Wk.iloadN o_L_law_528 rfl ?_
                  refine Wk.iload o_L_law_529 rfl ?_
                  refine Wk.iload o_L_law_531 rfl ?_
                  refine Wk.lload o_L_law_533 rfl ?_
                  refine Wk.lload o_L_law_535 rfl ?_
                  refine Wk.callSF mtL [.ref 1, .int v2, .int v3, .int v4, .int v5, .long w7, .long w9] [] (H.w 76 rfl) (cv_L_runsOk H) o_L_law_537 (run_L_runsOk H sl sv F1 G1 A1 B1 v2 v3 v4 v5 w7 w9 (s12 q1 q2 q3 q4 q6 q8 q9 q11)) (wt := 0) (cu' := 8) (su' := 1328) (by decide) rfl rfl (al_L_runsOk _ _ _ _ _ _ _) rfl rfl rfl ?_
                  refine Wk.if_ne o_L_law_540 (fun q13 => ?_) (fun q13 => ?_)
                  · refine Wk.iinc o_L_law_545 rfl (z := (v13 + (4 : Int32))) rfl (L' := [.val (.ref 0), .val (.ref 1), .val (.int v2), .val (.int v3), .val (.int v4), .val (.int v5), .val (.int v6), .val (.long w7), .second, .val (.long w9), .second, .val (.long w11), .second, .val (.int (v13 + (4 : Int32))), .unset, .unset, .unset, .unset, .val (.int v18), .val (.int v19), .unset, .unset, .unset, .unset]) rfl ?_
                    refine Wk.goto o_L_law_548 ?_
                    refine Wk.forget [false, false, false, false, false, false, false, false, false, false, false, false, false, false, false, false, false, false, true, true, false, false, false, false] (L' := [.val (.ref 0), .val (.ref 1), .val (.int v2), .val (.int v3), .val (.int v4), .val (.int v5), .val (.int v6), .val (.long w7), .second, .val (.long w9), .second, .val (.long w11), .second, .val (.int (v13 + (4 : Int32))), .unset, .unset, .unset, .unset, .unset, .unset, .unset, .unset, .unset, .unset]) rfl rfl ?_
                    exact (h14 q1 q2 q3 q4 q6 q8 q9 q11 q13)
                  · refine Wk.iconst o_L_law_543 (z := (0 : Int32)) (by decide) ?_
                    exact Wk.zreturn mrL rfl o_L_law_544 rfl (by decide) (by decide) (y := (0 : Int32)) (by decide) (h15 q1 q2 q3 q4 q6 q8 q9 q11 q13)
                · refine Wk.iconst o_L_law_524 (z := (0 : Int32)) (by decide) ?_
                  exact Wk.zreturn mrL rfl o_L_law_525 rfl (by decide) (by decide) (y := (0 : Int32)) (by decide) (h16 q1 q2 q3 q4 q6 q8 q9 q11)
            · refine Wk.iconst o_L_law_504 (z := (0 : Int32)) (by decide) ?_
              exact Wk.zreturn mrL rfl o_L_law_505 rfl (by decide) (by decide) (y := (0 : Int32)) (by decide) (h17 q1 q2 q3 q4 q6 q8)
      · refine Wk.iconst o_L_law_320 (z := (0 : Int32)) (by decide) ?_
        exact Wk.zreturn mrL rfl o_L_law_321 rfl (by decide) (by decide) (y := (0 : Int32)) (by decide) (h18 q1 q2 q3)
    · refine Wk.iloadN o_L_law_306 rfl ?_
      refine Wk.iload o_L_law_307 rfl ?_
      refine Wk.irem o_L_law_309 (s19 q1 q2) ?_
      refine Wk.if_eq o_L_law_310 (fun q20 => ?_) (fun q20 => ?_)
      · refine Wk.iload o_L_law_322 rfl ?_
        refine Wk.iloadN o_L_law_324 rfl ?_
        refine Wk.lload o_L_law_325 rfl ?_
        refine Wk.lload o_L_law_327 rfl ?_
        refine Wk.callSF mtL [.int v18, .int v2, .long w7, .long w11] [] (H.w 118 rfl) (cv_L_deadlineFails H) o_L_law_329 (run_L_deadlineFails H sl sv F1 G1 A1 B1 v18 v2 w7 w11 (s21 q1 q2 q20)) (wt := 0) (cu' := 8) (su' := 1328) (by decide) rfl rfl (al_L_deadlineFails _ _ _ _) rfl rfl rfl ?_
        refine Wk.if_eq o_L_law_332 (fun q22 => ?_) (fun q22 => ?_)
        · refine Wk.iload o_L_law_344 rfl ?_
          refine Wk.if_ne o_L_law_346 (fun q23 => ?_) (fun q23 => ?_)
          · refine Wk.iload o_L_law_362 rfl ?_
            refine Wk.bipush o_L_law_364 (z := (-7 : Int32)) (by decide) ?_
            refine Wk.icmp_ne o_L_law_366 (fun q24 => ?_) (fun q24 => ?_)
            · refine Wk.iconst o_L_law_422 (z := (0 : Int32)) (by decide) ?_
              exact Wk.zreturn mrL rfl o_L_law_423 rfl (by decide) (by decide) (y := (0 : Int32)) (by decide) (h25 q1 q2 q20 q22 q23 q24)
            · refine Wk.iconst o_L_law_369 (z := (0 : Int32)) (by decide) ?_
              refine Wk.istore o_L_law_370 (Or.inr ⟨_, rfl, rfl⟩) (L' := [.val (.ref 0), .val (.ref 1), .val (.int v2), .val (.int v3), .val (.int (0 : Int32)), .val (.int v5), .val (.int v6), .val (.long w7), .second, .val (.long w9), .second, .val (.long w11), .second, .val (.int v13), .unset, .unset, .unset, .unset, .val (.int v18), .val (.int v19), .unset, .unset, .unset, .unset]) rfl ?_
              refine Wk.iconst o_L_law_372 (z := (0 : Int32)) (by decide) ?_
              refine Wk.istore o_L_law_373 (Or.inr ⟨_, rfl, rfl⟩) (L' := [.val (.ref 0), .val (.ref 1), .val (.int v2), .val (.int v3), .val (.int (0 : Int32)), .val (.int (0 : Int32)), .val (.int v6), .val (.long w7), .second, .val (.long w9), .second, .val (.long w11), .second, .val (.int v13), .unset, .unset, .unset, .unset, .val (.int v18), .val (.int v19), .unset, .unset, .unset, .unset]) rfl ?_
              refine Wk.aloadN o_L_law_375 rfl ?_
              refine Wk.callLF (coC H) [] 0 [] (i' := 1) (H.w 71 rfl) (cv_getMiss H) o_L_law_376 (run_getMiss H F1 G1 A1 B1) (wt := 0) (cu' := 8) (su' := 1328) (by decide) trivial rfl rfl rfl rfl rfl rfl rfl rfl rfl rfl (ws' := [(7, F1, G1, A1, B1)]) rfl ?_
              refine Wk.istore o_L_law_379 (Or.inr ⟨_, rfl, rfl⟩) (L' := [.val (.ref 0), .val (.ref 1), .val (.int v2), .val (.int v3), .val (.int (0 : Int32)), .val (.int (0 : Int32)), .val (.int (f_getMiss F1)), .val (.long w7), .second, .val (.long w9), .second, .val (.long w11), .second, .val (.int v13), .unset, .unset, .unset, .unset, .val (.int v18), .val (.int v19), .unset, .unset, .unset, .unset]) rfl ?_
              refine Wk.iload o_L_law_381 rfl ?_
              refine Wk.if_lt o_L_law_383 (fun q26 => ?_) (fun q26 => ?_)
              · refine Wk.iconst o_L_law_396 (z := (0 : Int32)) (by decide) ?_
                exact Wk.zreturn mrL rfl o_L_law_397 rfl (by decide) (by decide) (y := (0 : Int32)) (by decide) (h27 q1 q2 q20 q22 q23 q24 q26)
              · refine Wk.iload o_L_law_386 rfl ?_
                refine Wk.sipush o_L_law_388 (z := (128 : Int32)) (by decide) ?_
                refine Wk.idiv o_L_law_391 (by decide) ?_
                refine Wk.iloadN o_L_law_392 rfl ?_
                refine Wk.icmp_lt o_L_law_393 (fun q28 => ?_) (fun q28 => ?_)
                · refine Wk.iload o_L_law_398 rfl ?_
                  refine Wk.sipush o_L_law_400 (z := (128 : Int32)) (by decide) ?_
                  refine Wk.irem o_L_law_403 (by decide) ?_
                  refine Wk.iloadN o_L_law_404 rfl ?_
                  refine Wk.lload o_L_law_405 rfl ?_
                  refine Wk.iload o_L_law_407 rfl ?_
                  refine Wk.sipush o_L_law_409 (z := (128 : Int32)) (by decide) ?_
                  refine Wk.idiv o_L_law_412 (by decide) ?_
                  refine Wk.callSF mtL [.long w7, .int ((f_getMiss F1) / (128 : Int32))] [.int v3, .int ((f_getMiss F1) % (128 : Int32))] (H.w 121 rfl) (cv_L_fld H) o_L_law_413 (run_L_fld H sl sv [(7, F1, G1, A1, B1)] w7 ((f_getMiss F1) / (128 : Int32))) (wt := 2) (cu' := 8) (su' := 1328) (by decide) rfl rfl rfl rfl rfl rfl ?_
                  refine Wk.idiv o_L_law_416 (s29 q1 q2 q20 q22 q23 q24 q26 q28) ?_
                  refine Wk.icmp_lt o_L_law_417 (fun q30 => ?_) (fun q30 => ?_)
                  · refine Wk.goto o_L_law_424 ?_
                    refine Wk.aloadN o_L_law_479 rfl ?_
                    refine Wk.callLF (coC H) [] 0 [] (i' := 1) (H.w 51 rfl) (cv_getTaskCount H) o_L_law_480 (run_getTaskCount H F1 G1 A1 B1) (wt := 0) (cu' := 8) (su' := 1328) (by decide) trivial rfl rfl rfl rfl rfl rfl rfl rfl rfl rfl (ws' := [(7, F1, G1, A1, B1)]) rfl ?_
                    refine Wk.iloadN o_L_law_483 rfl ?_
                    refine Wk.icmp_ne o_L_law_484 (fun q31 => ?_) (fun q31 => ?_)
                    · refine Wk.iconst o_L_law_504 (z := (0 : Int32)) (by decide) ?_
                      exact Wk.zreturn mrL rfl o_L_law_505 rfl (by decide) (by decide) (y := (0 : Int32)) (by decide) (h32 q1 q2 q20 q22 q23 q24 q26 q28 q30 q31)
                    · refine Wk.aloadN o_L_law_487 rfl ?_
                      refine Wk.callLF (coC H) [] 0 [] (i' := 1) (H.w 56 rfl) (cv_getHyperperiod H) o_L_law_488 (run_getHyperperiod H F1 G1 A1 B1) (wt := 0) (cu' := 8) (su' := 1328) (by decide) trivial rfl rfl rfl rfl rfl rfl rfl rfl rfl rfl (ws' := [(7, F1, G1, A1, B1)]) rfl ?_
                      refine Wk.iloadN o_L_law_491 rfl ?_
                      refine Wk.icmp_ne o_L_law_492 (fun q33 => ?_) (fun q33 => ?_)
                      · refine Wk.iconst o_L_law_504 (z := (0 : Int32)) (by decide) ?_
                        exact Wk.zreturn mrL rfl o_L_law_505 rfl (by decide) (by decide) (y := (0 : Int32)) (by decide) (h34 q1 q2 q20 q22 q23 q24 q26 q28 q30 q31 q33)
                      · refine Wk.aloadN o_L_law_495 rfl ?_
                        refine Wk.callLF (coC H) [] 0 [] (i' := 1) (H.w 61 rfl) (cv_getFrame H) o_L_law_496 (run_getFrame H F1 G1 A1 B1) (wt := 0) (cu' := 8) (su' := 1328) (by decide) trivial rfl rfl rfl rfl rfl rfl rfl rfl rfl rfl (ws' := [(7, F1, G1, A1, B1)]) rfl ?_
                        refine Wk.iload o_L_law_499 rfl ?_
                        refine Wk.icmp_eq o_L_law_501 (fun q35 => ?_) (fun q35 => ?_)
                        · refine Wk.aloadN o_L_law_506 rfl ?_
                          refine Wk.callLF (coC H) [] 0 [] (i' := 1) (H.w 66 rfl) (cv_getNow H) o_L_law_507 (run_getNow H F1 G1 A1 B1) (wt := 0) (cu' := 8) (su' := 1328) (by decide) trivial rfl rfl rfl rfl rfl rfl rfl rfl rfl rfl (ws' := [(7, F1, G1, A1, B1)]) rfl ?_
                          refine Wk.iload o_L_law_510 rfl ?_
                          refine Wk.icmp_ne o_L_law_512 (fun q36 => ?_) (fun q36 => ?_)
                          · refine Wk.iconst o_L_law_524 (z := (0 : Int32)) (by decide) ?_
                            exact Wk.zreturn mrL rfl o_L_law_525 rfl (by decide) (by decide) (y := (0 : Int32)) (by decide) (h37 q1 q2 q20 q22 q23 q24 q26 q28 q30 q31 q33 q35 q36)
                          · refine Wk.aloadN o_L_law_515 rfl ?_
                            refine Wk.callLF (coC H) [] 0 [] (i' := 1) (H.w 71 rfl) (cv_getMiss H) o_L_law_516 (run_getMiss H F1 G1 A1 B1) (wt := 0) (cu' := 8) (su' := 1328) (by decide) trivial rfl rfl rfl rfl rfl rfl rfl rfl rfl rfl (ws' := [(7, F1, G1, A1, B1)]) rfl ?_
                            refine Wk.iload o_L_law_519 rfl ?_
                            refine Wk.icmp_eq o_L_law_521 (fun q38 => ?_) (fun q38 => ?_)
                            · refine Wk.aloadN o_L_law_526 rfl ?_
                              refine Wk.iloadN o_L_law_527 rfl ?_
                              refine Wk.iloadN o_L_law_528 rfl ?_
                              refine Wk.iload o_L_law_529 rfl ?_
                              refine Wk.iload o_L_law_531 rfl ?_
                              refine Wk.lload o_L_law_533 rfl ?_
                              refine Wk.lload o_L_law_535 rfl ?_
                              refine Wk.callSF mtL [.ref 1, .int v2, .int v3, .int (0 : Int32), .int (0 : Int32), .long w7, .long w9] [] (H.w 76 rfl) (cv_L_runsOk H) o_L_law_537 (run_L_runsOk H sl sv F1 G1 A1 B1 v2 v3 (0 : Int32) (0 : Int32) w7 w9 (s39 q1 q2 q20 q22 q23 q24 q26 q28 q30 q31 q33 q35 q36 q38)) (wt := 0) (cu' := 8) (su' := 1328) (by decide) rfl rfl (al_L_runsOk _ _ _ _ _ _ _) rfl rfl rfl ?_
                              refine Wk.if_ne o_L_law_540 (fun q40 => ?_) (fun q40 => ?_)
                              · refine Wk.iinc o_L_law_545 rfl (z := (v13 + (4 : Int32))) rfl (L' := [.val (.ref 0), .val (.ref 1), .val (.int v2), .val (.int v3), .val (.int (0 : Int32)), .val (.int (0 : Int32)), .val (.int (f_getMiss F1)), .val (.long w7), .second, .val (.long w9), .second, .val (.long w11), .second, .val (.int (v13 + (4 : Int32))), .unset, .unset, .unset, .unset, .val (.int v18), .val (.int v19), .unset, .unset, .unset, .unset]) rfl ?_
                                refine Wk.goto o_L_law_548 ?_
                                refine Wk.forget [false, false, false, false, false, false, false, false, false, false, false, false, false, false, false, false, false, false, true, true, false, false, false, false] (L' := [.val (.ref 0), .val (.ref 1), .val (.int v2), .val (.int v3), .val (.int (0 : Int32)), .val (.int (0 : Int32)), .val (.int (f_getMiss F1)), .val (.long w7), .second, .val (.long w9), .second, .val (.long w11), .second, .val (.int (v13 + (4 : Int32))), .unset, .unset, .unset, .unset, .unset, .unset, .unset, .unset, .unset, .unset]) rfl rfl ?_
                                exact (h41 q1 q2 q20 q22 q23 q24 q26 q28 q30 q31 q33 q35 q36 q38 q40)
                              · refine Wk.iconst o_L_law_543 (z := (0 : Int32)) (by decide) ?_
                                exact Wk.zreturn mrL rfl o_L_law_544 rfl (by decide) (by decide) (y := (0 : Int32)) (by decide) (h42 q1 q2 q20 q22 q23 q24 q26 q28 q30 q31 q33 q35 q36 q38 q40)
                            · refine Wk.iconst o_L_law_524 (z := (0 : Int32)) (by decide) ?_
                              exact Wk.zreturn mrL rfl o_L_law_525 rfl (by decide) (by decide) (y := (0 : Int32)) (by decide) (h43 q1 q2 q20 q22 q23 q24 q26 q28 q30 q31 q33 q35 q36 q38)
                        · refine Wk.iconst o_L_law_504 (z := (0 : Int32)) (by decide) ?_
                          exact Wk.zreturn mrL rfl o_L_law_505 rfl (by decide) (by decide) (y := (0 : Int32)) (by decide) (h44 q1 q2 q20 q22 q23 q24 q26 q28 q30 q31 q33 q35)
                  · refine Wk.iconst o_L_law_420 (z := (0 : Int32)) (by decide) ?_
                    exact Wk.zreturn mrL rfl o_L_law_421 rfl (by decide) (by decide) (y := (0 : Int32)) (by decide) (h45 q1 q2 q20 q22 q23 q24 q26 q28 q30)
                · refine Wk.iconst o_L_law_396 (z := (0 : Int32)) (by decide) ?_
                  exact Wk.zreturn mrL rfl o_L_law_397 rfl (by decide) (by decide) (y := (0 : Int32)) (by decide) (h46 q1 q2 q20 q22 q23 q24 q26 q28)
          · refine Wk.iload o_L_law_349 rfl ?_
            refine Wk.istore o_L_law_351 (Or.inr ⟨_, rfl, rfl⟩) (L' := [.val (.ref 0), .val (.ref 1), .val (.int v2), .val (.int v3), .val (.int v18), .val (.int v5), .val (.int v6), .val (.long w7), .second, .val (.long w9), .second, .val (.long w11), .second, .val (.int v13), .unset, .unset, .unset, .unset, .val (.int v18), .val (.int v19), .unset, .unset, .unset, .unset]) rfl ?_
            refine Wk.iconst o_L_law_353 (z := (0 : Int32)) (by decide) ?_
            refine Wk.istore o_L_law_354 (Or.inr ⟨_, rfl, rfl⟩) (L' := [.val (.ref 0), .val (.ref 1), .val (.int v2), .val (.int v3), .val (.int v18), .val (.int (0 : Int32)), .val (.int v6), .val (.long w7), .second, .val (.long w9), .second, .val (.long w11), .second, .val (.int v13), .unset, .unset, .unset, .unset, .val (.int v18), .val (.int v19), .unset, .unset, .unset, .unset]) rfl ?_
            refine Wk.iconst o_L_law_356 (z := (-1 : Int32)) (by decide) ?_
            refine Wk.istore o_L_law_357 (Or.inr ⟨_, rfl, rfl⟩) (L' := [.val (.ref 0), .val (.ref 1), .val (.int v2), .val (.int v3), .val (.int v18), .val (.int (0 : Int32)), .val (.int (-1 : Int32)), .val (.long w7), .second, .val (.long w9), .second, .val (.long w11), .second, .val (.int v13), .unset, .unset, .unset, .unset, .val (.int v18), .val (.int v19), .unset, .unset, .unset, .unset]) rfl ?_
            refine Wk.goto o_L_law_359 ?_
            refine Wk.goto o_L_law_424 ?_
            refine Wk.aloadN o_L_law_479 rfl ?_
            refine Wk.callLF (coC H) [] 0 [] (i' := 1) (H.w 51 rfl) (cv_getTaskCount H) o_L_law_480 (run_getTaskCount H F1 G1 A1 B1) (wt := 0) (cu' := 8) (su' := 1328) (by decide) trivial rfl rfl rfl rfl rfl rfl rfl rfl rfl rfl (ws' := [(7, F1, G1, A1, B1)]) rfl ?_
            refine Wk.iloadN o_L_law_483 rfl ?_
            refine Wk.icmp_ne o_L_law_484 (fun q47 => ?_) (fun q47 => ?_)
            · refine Wk.iconst o_L_law_504 (z := (0 : Int32)) (by decide) ?_
              exact Wk.zreturn mrL rfl o_L_law_505 rfl (by decide) (by decide) (y := (0 : Int32)) (by decide) (h48 q1 q2 q20 q22 q23 q47)
            · refine Wk.aloadN o_L_law_487 rfl ?_
              refine Wk.callLF (coC H) [] 0 [] (i' := 1) (H.w 56 rfl) (cv_getHyperperiod H) o_L_law_488 (run_getHyperperiod H F1 G1 A1 B1) (wt := 0) (cu' := 8) (su' := 1328) (by decide) trivial rfl rfl rfl rfl rfl rfl rfl rfl rfl rfl (ws' := [(7, F1, G1, A1, B1)]) rfl ?_
              refine Wk.iloadN o_L_law_491 rfl ?_
              refine Wk.icmp_ne o_L_law_492 (fun q49 => ?_) (fun q49 => ?_)
              · refine Wk.iconst o_L_law_504 (z := (0 : Int32)) (by decide) ?_
                exact Wk.zreturn mrL rfl o_L_law_505 rfl (by decide) (by decide) (y := (0 : Int32)) (by decide) (h50 q1 q2 q20 q22 q23 q47 q49)
              · refine Wk.aloadN o_L_law_495 rfl ?_
                refine Wk.callLF (coC H) [] 0 [] (i' := 1) (H.w 61 rfl) (cv_getFrame H) o_L_law_496 (run_getFrame H F1 G1 A1 B1) (wt := 0) (cu' := 8) (su' := 1328) (by decide) trivial rfl rfl rfl rfl rfl rfl rfl rfl rfl rfl (ws' := [(7, F1, G1, A1, B1)]) rfl ?_
                refine Wk.iload o_L_law_499 rfl ?_
                refine Wk.icmp_eq o_L_law_501 (fun q51 => ?_) (fun q51 => ?_)
                · refine Wk.aloadN o_L_law_506 rfl ?_
                  refine Wk.callLF (coC H) [] 0 [] (i' := 1) (H.w 66 rfl) (cv_getNow H) o_L_law_507 (run_getNow H F1 G1 A1 B1) (wt := 0) (cu' := 8) (su' := 1328) (by decide) trivial rfl rfl rfl rfl rfl rfl rfl rfl rfl rfl (ws' := [(7, F1, G1, A1, B1)]) rfl ?_
                  refine Wk.iload o_L_law_510 rfl ?_
                  refine Wk.icmp_ne o_L_law_512 (fun q52 => ?_) (fun q52 => ?_)
                  · refine Wk.iconst o_L_law_524 (z := (0 : Int32)) (by decide) ?_
                    exact Wk.zreturn mrL rfl o_L_law_525 rfl (by decide) (by decide) (y := (0 : Int32)) (by decide) (h53 q1 q2 q20 q22 q23 q47 q49 q51 q52)
                  · refine Wk.aloadN o_L_law_515 rfl ?_
                    refine Wk.callLF (coC H) [] 0 [] (i' := 1) (H.w 71 rfl) (cv_getMiss H) o_L_law_516 (run_getMiss H F1 G1 A1 B1) (wt := 0) (cu' := 8) (su' := 1328) (by decide) trivial rfl rfl rfl rfl rfl rfl rfl rfl rfl rfl (ws' := [(7, F1, G1, A1, B1)]) rfl ?_
                    refine Wk.iload o_L_law_519 rfl ?_
                    refine Wk.icmp_eq o_L_law_521 (fun q54 => ?_) (fun q54 => ?_)
                    · refine Wk.aloadN o_L_law_526 rfl ?_
                      refine Wk.iloadN o_L_law_527 rfl ?_
                      refine Wk.iloadN o_L_law_528 rfl ?_
                      refine Wk.iload o_L_law_529 rfl ?_
                      refine Wk.iload o_L_law_531 rfl ?_
                      refine Wk.lload o_L_law_533 rfl ?_
                      refine Wk.lload o_L_law_535 rfl ?_
                      refine Wk.callSF mtL [.ref 1, .int v2, .int v3, .int v18, .int (0 : Int32), .long w7, .long w9] [] (H.w 76 rfl) (cv_L_runsOk H) o_L_law_537 (run_L_runsOk H sl sv F1 G1 A1 B1 v2 v3 v18 (0 : Int32) w7 w9 (s55 q1 q2 q20 q22 q23 q47 q49 q51 q52 q54)) (wt := 0) (cu' := 8) (su' := 1328) (by decide) rfl rfl (al_L_runsOk _ _ _ _ _ _ _) rfl rfl rfl ?_
                      refine Wk.if_ne o_L_law_540 (fun q56 => ?_) (fun q56 => ?_)
                      · refine Wk.iinc o_L_law_545 rfl (z := (v13 + (4 : Int32))) rfl (L' := [.val (.ref 0), .val (.ref 1), .val (.int v2), .val (.int v3), .val (.int v18), .val (.int (0 : Int32)), .val (.int (-1 : Int32)), .val (.long w7), .second, .val (.long w9), .second, .val (.long w11), .second, .val (.int (v13 + (4 : Int32))), .unset, .unset, .unset, .unset, .val (.int v18), .val (.int v19), .unset, .unset, .unset, .unset]) rfl ?_
                        refine Wk.goto o_L_law_548 ?_
                        refine Wk.forget [false, false, false, false, false, false, false, false, false, false, false, false, false, false, false, false, false, false, true, true, false, false, false, false] (L' := [.val (.ref 0), .val (.ref 1), .val (.int v2), .val (.int v3), .val (.int v18), .val (.int (0 : Int32)), .val (.int (-1 : Int32)), .val (.long w7), .second, .val (.long w9), .second, .val (.long w11), .second, .val (.int (v13 + (4 : Int32))), .unset, .unset, .unset, .unset, .unset, .unset, .unset, .unset, .unset, .unset]) rfl rfl ?_
                        exact (h57 q1 q2 q20 q22 q23 q47 q49 q51 q52 q54 q56)
                      · refine Wk.iconst o_L_law_543 (z := (0 : Int32)) (by decide) ?_
                        exact Wk.zreturn mrL rfl o_L_law_544 rfl (by decide) (by decide) (y := (0 : Int32)) (by decide) (h58 q1 q2 q20 q22 q23 q47 q49 q51 q52 q54 q56)
                    · refine Wk.iconst o_L_law_524 (z := (0 : Int32)) (by decide) ?_
                      exact Wk.zreturn mrL rfl o_L_law_525 rfl (by decide) (by decide) (y := (0 : Int32)) (by decide) (h59 q1 q2 q20 q22 q23 q47 q49 q51 q52 q54)
                · refine Wk.iconst o_L_law_504 (z := (0 : Int32)) (by decide) ?_
                  exact Wk.zreturn mrL rfl o_L_law_505 rfl (by decide) (by decide) (y := (0 : Int32)) (by decide) (h60 q1 q2 q20 q22 q23 q47 q49 q51)
        · refine Wk.iload o_L_law_335 rfl ?_
          refine Wk.bipush o_L_law_337 (z := (-6 : Int32)) (by decide) ?_
          refine Wk.icmp_eq o_L_law_339 (fun q61 => ?_) (fun q61 => ?_)
          · refine Wk.goto o_L_law_424 ?_
            refine Wk.aloadN o_L_law_479 rfl ?_
            refine Wk.callLF (coC H) [] 0 [] (i' := 1) (H.w 51 rfl) (cv_getTaskCount H) o_L_law_480 (run_getTaskCount H F1 G1 A1 B1) (wt := 0) (cu' := 8) (su' := 1328) (by decide) trivial rfl rfl rfl rfl rfl rfl rfl rfl rfl rfl (ws' := [(7, F1, G1, A1, B1)]) rfl ?_
            refine Wk.iloadN o_L_law_483 rfl ?_
            refine Wk.icmp_ne o_L_law_484 (fun q62 => ?_) (fun q62 => ?_)
            · refine Wk.iconst o_L_law_504 (z := (0 : Int32)) (by decide) ?_
              exact Wk.zreturn mrL rfl o_L_law_505 rfl (by decide) (by decide) (y := (0 : Int32)) (by decide) (h63 q1 q2 q20 q22 q61 q62)
            · refine Wk.aloadN o_L_law_487 rfl ?_
              refine Wk.callLF (coC H) [] 0 [] (i' := 1) (H.w 56 rfl) (cv_getHyperperiod H) o_L_law_488 (run_getHyperperiod H F1 G1 A1 B1) (wt := 0) (cu' := 8) (su' := 1328) (by decide) trivial rfl rfl rfl rfl rfl rfl rfl rfl rfl rfl (ws' := [(7, F1, G1, A1, B1)]) rfl ?_
              refine Wk.iloadN o_L_law_491 rfl ?_
              refine Wk.icmp_ne o_L_law_492 (fun q64 => ?_) (fun q64 => ?_)
              · refine Wk.iconst o_L_law_504 (z := (0 : Int32)) (by decide) ?_
                exact Wk.zreturn mrL rfl o_L_law_505 rfl (by decide) (by decide) (y := (0 : Int32)) (by decide) (h65 q1 q2 q20 q22 q61 q62 q64)
              · refine Wk.aloadN o_L_law_495 rfl ?_
                refine Wk.callLF (coC H) [] 0 [] (i' := 1) (H.w 61 rfl) (cv_getFrame H) o_L_law_496 (run_getFrame H F1 G1 A1 B1) (wt := 0) (cu' := 8) (su' := 1328) (by decide) trivial rfl rfl rfl rfl rfl rfl rfl rfl rfl rfl (ws' := [(7, F1, G1, A1, B1)]) rfl ?_
                refine Wk.iload o_L_law_499 rfl ?_
                refine Wk.icmp_eq o_L_law_501 (fun q66 => ?_) (fun q66 => ?_)
                · refine Wk.aloadN o_L_law_506 rfl ?_
                  refine Wk.callLF (coC H) [] 0 [] (i' := 1) (H.w 66 rfl) (cv_getNow H) o_L_law_507 (run_getNow H F1 G1 A1 B1) (wt := 0) (cu' := 8) (su' := 1328) (by decide) trivial rfl rfl rfl rfl rfl rfl rfl rfl rfl rfl (ws' := [(7, F1, G1, A1, B1)]) rfl ?_
                  refine Wk.iload o_L_law_510 rfl ?_
                  refine Wk.icmp_ne o_L_law_512 (fun q67 => ?_) (fun q67 => ?_)
                  · refine Wk.iconst o_L_law_524 (z := (0 : Int32)) (by decide) ?_
                    exact Wk.zreturn mrL rfl o_L_law_525 rfl (by decide) (by decide) (y := (0 : Int32)) (by decide) (h68 q1 q2 q20 q22 q61 q62 q64 q66 q67)
                  · refine Wk.aloadN o_L_law_515 rfl ?_
                    refine Wk.callLF (coC H) [] 0 [] (i' := 1) (H.w 71 rfl) (cv_getMiss H) o_L_law_516 (run_getMiss H F1 G1 A1 B1) (wt := 0) (cu' := 8) (su' := 1328) (by decide) trivial rfl rfl rfl rfl rfl rfl rfl rfl rfl rfl (ws' := [(7, F1, G1, A1, B1)]) rfl ?_
                    refine Wk.iload o_L_law_519 rfl ?_
                    refine Wk.icmp_eq o_L_law_521 (fun q69 => ?_) (fun q69 => ?_)
                    · refine Wk.aloadN o_L_law_526 rfl ?_
                      refine Wk.iloadN o_L_law_527 rfl ?_
                      refine Wk.iloadN o_L_law_528 rfl ?_
                      refine Wk.iload o_L_law_529 rfl ?_
                      refine Wk.iload o_L_law_531 rfl ?_
                      refine Wk.lload o_L_law_533 rfl ?_
                      refine Wk.lload o_L_law_535 rfl ?_
                      refine Wk.callSF mtL [.ref 1, .int v2, .int v3, .int v4, .int v5, .long w7, .long w9] [] (H.w 76 rfl) (cv_L_runsOk H) o_L_law_537 (run_L_runsOk H sl sv F1 G1 A1 B1 v2 v3 v4 v5 w7 w9 (s70 q1 q2 q20 q22 q61 q62 q64 q66 q67 q69)) (wt := 0) (cu' := 8) (su' := 1328) (by decide) rfl rfl (al_L_runsOk _ _ _ _ _ _ _) rfl rfl rfl ?_
                      refine Wk.if_ne o_L_law_540 (fun q71 => ?_) (fun q71 => ?_)
                      · refine Wk.iinc o_L_law_545 rfl (z := (v13 + (4 : Int32))) rfl (L' := [.val (.ref 0), .val (.ref 1), .val (.int v2), .val (.int v3), .val (.int v4), .val (.int v5), .val (.int v6), .val (.long w7), .second, .val (.long w9), .second, .val (.long w11), .second, .val (.int (v13 + (4 : Int32))), .unset, .unset, .unset, .unset, .val (.int v18), .val (.int v19), .unset, .unset, .unset, .unset]) rfl ?_
                        refine Wk.goto o_L_law_548 ?_
                        refine Wk.forget [false, false, false, false, false, false, false, false, false, false, false, false, false, false, false, false, false, false, true, true, false, false, false, false] (L' := [.val (.ref 0), .val (.ref 1), .val (.int v2), .val (.int v3), .val (.int v4), .val (.int v5), .val (.int v6), .val (.long w7), .second, .val (.long w9), .second, .val (.long w11), .second, .val (.int (v13 + (4 : Int32))), .unset, .unset, .unset, .unset, .unset, .unset, .unset, .unset, .unset, .unset]) rfl rfl ?_
                        exact (h72 q1 q2 q20 q22 q61 q62 q64 q66 q67 q69 q71)
                      · refine Wk.iconst o_L_law_543 (z := (0 : Int32)) (by decide) ?_
                        exact Wk.zreturn mrL rfl o_L_law_544 rfl (by decide) (by decide) (y := (0 : Int32)) (by decide) (h73 q1 q2 q20 q22 q61 q62 q64 q66 q67 q69 q71)
                    · refine Wk.iconst o_L_law_524 (z := (0 : Int32)) (by decide) ?_
                      exact Wk.zreturn mrL rfl o_L_law_525 rfl (by decide) (by decide) (y := (0 : Int32)) (by decide) (h74 q1 q2 q20 q22 q61 q62 q64 q66 q67 q69)
                · refine Wk.iconst o_L_law_504 (z := (0 : Int32)) (by decide) ?_
                  exact Wk.zreturn mrL rfl o_L_law_505 rfl (by decide) (by decide) (y := (0 : Int32)) (by decide) (h75 q1 q2 q20 q22 q61 q62 q64 q66)
          · refine Wk.iconst o_L_law_342 (z := (0 : Int32)) (by decide) ?_
            exact Wk.zreturn mrL rfl o_L_law_343 rfl (by decide) (by decide) (y := (0 : Int32)) (by decide) (h76 q1 q2 q20 q22 q61)
      · refine Wk.iload o_L_law_313 rfl ?_
        refine Wk.bipush o_L_law_315 (z := (-5 : Int32)) (by decide) ?_
        refine Wk.icmp_eq o_L_law_317 (fun q77 => ?_) (fun q77 => ?_)
        · refine Wk.goto o_L_law_424 ?_
          refine Wk.aloadN o_L_law_479 rfl ?_
          refine Wk.callLF (coC H) [] 0 [] (i' := 1) (H.w 51 rfl) (cv_getTaskCount H) o_L_law_480 (run_getTaskCount H F1 G1 A1 B1) (wt := 0) (cu' := 8) (su' := 1328) (by decide) trivial rfl rfl rfl rfl rfl rfl rfl rfl rfl rfl (ws' := [(7, F1, G1, A1, B1)]) rfl ?_
          refine Wk.iloadN o_L_law_483 rfl ?_
          refine Wk.icmp_ne o_L_law_484 (fun q78 => ?_) (fun q78 => ?_)
          · refine Wk.iconst o_L_law_504 (z := (0 : Int32)) (by decide) ?_
            exact Wk.zreturn mrL rfl o_L_law_505 rfl (by decide) (by decide) (y := (0 : Int32)) (by decide) (h79 q1 q2 q20 q77 q78)
          · refine Wk.aloadN o_L_law_487 rfl ?_
            refine Wk.callLF (coC H) [] 0 [] (i' := 1) (H.w 56 rfl) (cv_getHyperperiod H) o_L_law_488 (run_getHyperperiod H F1 G1 A1 B1) (wt := 0) (cu' := 8) (su' := 1328) (by decide) trivial rfl rfl rfl rfl rfl rfl rfl rfl rfl rfl (ws' := [(7, F1, G1, A1, B1)]) rfl ?_
            refine Wk.iloadN o_L_law_491 rfl ?_
            refine Wk.icmp_ne o_L_law_492 (fun q80 => ?_) (fun q80 => ?_)
            · refine Wk.iconst o_L_law_504 (z := (0 : Int32)) (by decide) ?_
              exact Wk.zreturn mrL rfl o_L_law_505 rfl (by decide) (by decide) (y := (0 : Int32)) (by decide) (h81 q1 q2 q20 q77 q78 q80)
            · refine Wk.aloadN o_L_law_495 rfl ?_
              refine Wk.callLF (coC H) [] 0 [] (i' := 1) (H.w 61 rfl) (cv_getFrame H) o_L_law_496 (run_getFrame H F1 G1 A1 B1) (wt := 0) (cu' := 8) (su' := 1328) (by decide) trivial rfl rfl rfl rfl rfl rfl rfl rfl rfl rfl (ws' := [(7, F1, G1, A1, B1)]) rfl ?_
              refine Wk.iload o_L_law_499 rfl ?_
              refine Wk.icmp_eq o_L_law_501 (fun q82 => ?_) (fun q82 => ?_)
              · refine Wk.aloadN o_L_law_506 rfl ?_
                refine Wk.callLF (coC H) [] 0 [] (i' := 1) (H.w 66 rfl) (cv_getNow H) o_L_law_507 (run_getNow H F1 G1 A1 B1) (wt := 0) (cu' := 8) (su' := 1328) (by decide) trivial rfl rfl rfl rfl rfl rfl rfl rfl rfl rfl (ws' := [(7, F1, G1, A1, B1)]) rfl ?_
                refine Wk.iload o_L_law_510 rfl ?_
                refine Wk.icmp_ne o_L_law_512 (fun q83 => ?_) (fun q83 => ?_)
                · refine Wk.iconst o_L_law_524 (z := (0 : Int32)) (by decide) ?_
                  exact Wk.zreturn mrL rfl o_L_law_525 rfl (by decide) (by decide) (y := (0 : Int32)) (by decide) (h84 q1 q2 q20 q77 q78 q80 q82 q83)
                · refine Wk.aloadN o_L_law_515 rfl ?_
                  refine Wk.callLF (coC H) [] 0 [] (i' := 1) (H.w 71 rfl) (cv_getMiss H) o_L_law_516 (run_getMiss H F1 G1 A1 B1) (wt := 0) (cu' := 8) (su' := 1328) (by decide) trivial rfl rfl rfl rfl rfl rfl rfl rfl rfl rfl (ws' := [(7, F1, G1, A1, B1)]) rfl ?_
                  refine Wk.iload o_L_law_519 rfl ?_
                  refine Wk.icmp_eq o_L_law_521 (fun q85 => ?_) (fun q85 => ?_)
                  · refine Wk.aloadN o_L_law_526 rfl ?_
                    refine Wk.iloadN o_L_law_527 rfl ?_
                    refine Wk.iloadN o_L_law_528 rfl ?_
                    refine Wk.iload o_L_law_529 rfl ?_
                    refine Wk.iload o_L_law_531 rfl ?_
                    refine Wk.lload o_L_law_533 rfl ?_
                    refine Wk.lload o_L_law_535 rfl ?_
                    refine Wk.callSF mtL [.ref 1, .int v2, .int v3, .int v4, .int v5, .long w7, .long w9] [] (H.w 76 rfl) (cv_L_runsOk H) o_L_law_537 (run_L_runsOk H sl sv F1 G1 A1 B1 v2 v3 v4 v5 w7 w9 (s86 q1 q2 q20 q77 q78 q80 q82 q83 q85)) (wt := 0) (cu' := 8) (su' := 1328) (by decide) rfl rfl (al_L_runsOk _ _ _ _ _ _ _) rfl rfl rfl ?_
                    refine Wk.if_ne o_L_law_540 (fun q87 => ?_) (fun q87 => ?_)
                    · refine Wk.iinc o_L_law_545 rfl (z := (v13 + (4 : Int32))) rfl (L' := [.val (.ref 0), .val (.ref 1), .val (.int v2), .val (.int v3), .val (.int v4), .val (.int v5), .val (.int v6), .val (.long w7), .second, .val (.long w9), .second, .val (.long w11), .second, .val (.int (v13 + (4 : Int32))), .unset, .unset, .unset, .unset, .val (.int v18), .val (.int v19), .unset, .unset, .unset, .unset]) rfl ?_
                      refine Wk.goto o_L_law_548 ?_
                      refine Wk.forget [false, false, false, false, false, false, false, false, false, false, false, false, false, false, false, false, false, false, true, true, false, false, false, false] (L' := [.val (.ref 0), .val (.ref 1), .val (.int v2), .val (.int v3), .val (.int v4), .val (.int v5), .val (.int v6), .val (.long w7), .second, .val (.long w9), .second, .val (.long w11), .second, .val (.int (v13 + (4 : Int32))), .unset, .unset, .unset, .unset, .unset, .unset, .unset, .unset, .unset, .unset]) rfl rfl ?_
                      exact (h88 q1 q2 q20 q77 q78 q80 q82 q83 q85 q87)
                    · refine Wk.iconst o_L_law_543 (z := (0 : Int32)) (by decide) ?_
                      exact Wk.zreturn mrL rfl o_L_law_544 rfl (by decide) (by decide) (y := (0 : Int32)) (by decide) (h89 q1 q2 q20 q77 q78 q80 q82 q83 q85 q87)
                  · refine Wk.iconst o_L_law_524 (z := (0 : Int32)) (by decide) ?_
                    exact Wk.zreturn mrL rfl o_L_law_525 rfl (by decide) (by decide) (y := (0 : Int32)) (by decide) (h90 q1 q2 q20 q77 q78 q80 q82 q83 q85)
              · refine Wk.iconst o_L_law_504 (z := (0 : Int32)) (by decide) ?_
                exact Wk.zreturn mrL rfl o_L_law_505 rfl (by decide) (by decide) (y := (0 : Int32)) (by decide) (h91 q1 q2 q20 q77 q78 q80 q82)
        · refine Wk.iconst o_L_law_320 (z := (0 : Int32)) (by decide) ?_
          exact Wk.zreturn mrL rfl o_L_law_321 rfl (by decide) (by decide) (y := (0 : Int32)) (by decide) (h92 q1 q2 q20 q77)
  · refine Wk.iload o_L_law_291 rfl ?_
    refine Wk.bipush o_L_law_293 (z := (-4 : Int32)) (by decide) ?_
    refine Wk.icmp_eq o_L_law_295 (fun q93 => ?_) (fun q93 => ?_)
    · refine Wk.goto o_L_law_424 ?_
      refine Wk.aloadN o_L_law_479 rfl ?_
      refine Wk.callLF (coC H) [] 0 [] (i' := 1) (H.w 51 rfl) (cv_getTaskCount H) o_L_law_480 (run_getTaskCount H F1 G1 A1 B1) (wt := 0) (cu' := 8) (su' := 1328) (by decide) trivial rfl rfl rfl rfl rfl rfl rfl rfl rfl rfl (ws' := [(7, F1, G1, A1, B1)]) rfl ?_
      refine Wk.iloadN o_L_law_483 rfl ?_
      refine Wk.icmp_ne o_L_law_484 (fun q94 => ?_) (fun q94 => ?_)
      · refine Wk.iconst o_L_law_504 (z := (0 : Int32)) (by decide) ?_
        exact Wk.zreturn mrL rfl o_L_law_505 rfl (by decide) (by decide) (y := (0 : Int32)) (by decide) (h95 q1 q93 q94)
      · refine Wk.aloadN o_L_law_487 rfl ?_
        refine Wk.callLF (coC H) [] 0 [] (i' := 1) (H.w 56 rfl) (cv_getHyperperiod H) o_L_law_488 (run_getHyperperiod H F1 G1 A1 B1) (wt := 0) (cu' := 8) (su' := 1328) (by decide) trivial rfl rfl rfl rfl rfl rfl rfl rfl rfl rfl (ws' := [(7, F1, G1, A1, B1)]) rfl ?_
        refine Wk.iloadN o_L_law_491 rfl ?_
        refine Wk.icmp_ne o_L_law_492 (fun q96 => ?_) (fun q96 => ?_)
        · refine Wk.iconst o_L_law_504 (z := (0 : Int32)) (by decide) ?_
          exact Wk.zreturn mrL rfl o_L_law_505 rfl (by decide) (by decide) (y := (0 : Int32)) (by decide) (h97 q1 q93 q94 q96)
        · refine Wk.aloadN o_L_law_495 rfl ?_
          refine Wk.callLF (coC H) [] 0 [] (i' := 1) (H.w 61 rfl) (cv_getFrame H) o_L_law_496 (run_getFrame H F1 G1 A1 B1) (wt := 0) (cu' := 8) (su' := 1328) (by decide) trivial rfl rfl rfl rfl rfl rfl rfl rfl rfl rfl (ws' := [(7, F1, G1, A1, B1)]) rfl ?_
          refine Wk.iload o_L_law_499 rfl ?_
          refine Wk.icmp_eq o_L_law_501 (fun q98 => ?_) (fun q98 => ?_)
          · refine Wk.aloadN o_L_law_506 rfl ?_
            refine Wk.callLF (coC H) [] 0 [] (i' := 1) (H.w 66 rfl) (cv_getNow H) o_L_law_507 (run_getNow H F1 G1 A1 B1) (wt := 0) (cu' := 8) (su' := 1328) (by decide) trivial rfl rfl rfl rfl rfl rfl rfl rfl rfl rfl (ws' := [(7, F1, G1, A1, B1)]) rfl ?_
            refine Wk.iload o_L_law_510 rfl ?_
            refine Wk.icmp_ne o_L_law_512 (fun q99 => ?_) (fun q99 => ?_)
            · refine Wk.iconst o_L_law_524 (z := (0 : Int32)) (by decide) ?_
              exact Wk.zreturn mrL rfl o_L_law_525 rfl (by decide) (by decide) (y := (0 : Int32)) (by decide) (h100 q1 q93 q94 q96 q98 q99)
            · refine Wk.aloadN o_L_law_515 rfl ?_
              refine Wk.callLF (coC H) [] 0 [] (i' := 1) (H.w 71 rfl) (cv_getMiss H) o_L_law_516 (run_getMiss H F1 G1 A1 B1) (wt := 0) (cu' := 8) (su' := 1328) (by decide) trivial rfl rfl rfl rfl rfl rfl rfl rfl rfl rfl (ws' := [(7, F1, G1, A1, B1)]) rfl ?_
              refine Wk.iload o_L_law_519 rfl ?_
              refine Wk.icmp_eq o_L_law_521 (fun q101 => ?_) (fun q101 => ?_)
              · refine Wk.aloadN o_L_law_526 rfl ?_
                refine Wk.iloadN o_L_law_527 rfl ?_
                refine Wk.iloadN o_L_law_528 rfl ?_
                refine Wk.iload o_L_law_529 rfl ?_
                refine Wk.iload o_L_law_531 rfl ?_
                refine Wk.lload o_L_law_533 rfl ?_
                refine Wk.lload o_L_law_535 rfl ?_
                refine Wk.callSF mtL [.ref 1, .int v2, .int v3, .int v4, .int v5, .long w7, .long w9] [] (H.w 76 rfl) (cv_L_runsOk H) o_L_law_537 (run_L_runsOk H sl sv F1 G1 A1 B1 v2 v3 v4 v5 w7 w9 (s102 q1 q93 q94 q96 q98 q99 q101)) (wt := 0) (cu' := 8) (su' := 1328) (by decide) rfl rfl (al_L_runsOk _ _ _ _ _ _ _) rfl rfl rfl ?_
                refine Wk.if_ne o_L_law_540 (fun q103 => ?_) (fun q103 => ?_)
                · refine Wk.iinc o_L_law_545 rfl (z := (v13 + (4 : Int32))) rfl (L' := [.val (.ref 0), .val (.ref 1), .val (.int v2), .val (.int v3), .val (.int v4), .val (.int v5), .val (.int v6), .val (.long w7), .second, .val (.long w9), .second, .val (.long w11), .second, .val (.int (v13 + (4 : Int32))), .unset, .unset, .unset, .unset, .val (.int v18), .val (.int v19), .unset, .unset, .unset, .unset]) rfl ?_
                  refine Wk.goto o_L_law_548 ?_
                  refine Wk.forget [false, false, false, false, false, false, false, false, false, false, false, false, false, false, false, false, false, false, true, true, false, false, false, false] (L' := [.val (.ref 0), .val (.ref 1), .val (.int v2), .val (.int v3), .val (.int v4), .val (.int v5), .val (.int v6), .val (.long w7), .second, .val (.long w9), .second, .val (.long w11), .second, .val (.int (v13 + (4 : Int32))), .unset, .unset, .unset, .unset, .unset, .unset, .unset, .unset, .unset, .unset]) rfl rfl ?_
                  exact (h104 q1 q93 q94 q96 q98 q99 q101 q103)
                · refine Wk.iconst o_L_law_543 (z := (0 : Int32)) (by decide) ?_
                  exact Wk.zreturn mrL rfl o_L_law_544 rfl (by decide) (by decide) (y := (0 : Int32)) (by decide) (h105 q1 q93 q94 q96 q98 q99 q101 q103)
              · refine Wk.iconst o_L_law_524 (z := (0 : Int32)) (by decide) ?_
                exact Wk.zreturn mrL rfl o_L_law_525 rfl (by decide) (by decide) (y := (0 : Int32)) (by decide) (h106 q1 q93 q94 q96 q98 q99 q101)
          · refine Wk.iconst o_L_law_504 (z := (0 : Int32)) (by decide) ?_
            exact Wk.zreturn mrL rfl o_L_law_505 rfl (by decide) (by decide) (y := (0 : Int32)) (by decide) (h107 q1 q93 q94 q96 q98)
    · refine Wk.iconst o_L_law_298 (z := (0 : Int32)) (by decide) ?_
      exact Wk.zreturn mrL rfl o_L_law_299 rfl (by decide) (by decide) (y := (0 : Int32)) (by decide) (h108 q1 q93)

set_option maxRecDepth 65536 in
set_option maxHeartbeats 4000000 in
theorem wp_L_law_444 {l : Launch} {Z : State} {a0 : Array Value} (H : OK Z a0) (sl : Int32) (sv : Int32 → Int32) (F1 : Nat → Int32) (G1 : Nat → Int64) (A1 : Nat → Int32 → Int32) (B1 : Nat → Int32 → Int64) (v2 : Int32) (v3 : Int32) (v4 : Int32) (v5 : Int32) (v6 : Int32) (w7 : Int64) (w9 : Int64) (w11 : Int64) (v13 : Int32) (v18 : Int32) (v19 : Int32) {Q : Option Value → WL → Prop} (h7 : v19 = (if v4 = 0 then (0 : Int32) else (if v18 < (1 : Int32) then (0 : Int32) else v18)) → ¬ (f_getTaskCount F1) = v2 → Q (some (.int (0 : Int32))) (sl, sv, [(7, F1, G1, A1, B1)])) (h9 : v19 = (if v4 = 0 then (0 : Int32) else (if v18 < (1 : Int32) then (0 : Int32) else v18)) → (f_getTaskCount F1) = v2 → ¬ (f_getHyperperiod F1) = v3 → Q (some (.int (0 : Int32))) (sl, sv, [(7, F1, G1, A1, B1)])) (h12 : v19 = (if v4 = 0 then (0 : Int32) else (if v18 < (1 : Int32) then (0 : Int32) else v18)) → (f_getTaskCount F1) = v2 → (f_getHyperperiod F1) = v3 → (f_getFrame F1) = v4 → ¬ (f_getNow F1) = (v5 + (if v4 = 0 then (0 : Int32) else (if v18 < (1 : Int32) then (0 : Int32) else v18))) → Q (some (.int (0 : Int32))) (sl, sv, [(7, F1, G1, A1, B1)])) (s14 : v19 = (if v4 = 0 then (0 : Int32) else (if v18 < (1 : Int32) then (0 : Int32) else v18)) → (f_getTaskCount F1) = v2 → (f_getHyperperiod F1) = v3 → (f_getFrame F1) = v4 → (f_getNow F1) = (v5 + (if v4 = 0 then (0 : Int32) else (if v18 < (1 : Int32) then (0 : Int32) else v18))) → (f_getMiss F1) = v6 → (en_L_runsOk  F1 A1 v2 v3 v4 (v5 + (if v4 = 0 then (0 : Int32) else (if v18 < (1 : Int32) then (0 : Int32) else v18))) w7 w9).isSome = true) (h16 : v19 = (if v4 = 0 then (0 : Int32) else (if v18 < (1 : Int32) then (0 : Int32) else v18)) → (f_getTaskCount F1) = v2 → (f_getHyperperiod F1) = v3 → (f_getFrame F1) = v4 → (f_getNow F1) = (v5 + (if v4 = 0 then (0 : Int32) else (if v18 < (1 : Int32) then (0 : Int32) else v18))) → (f_getMiss F1) = v6 → ¬ (R_L_runsOk  F1 A1 v2 v3 v4 (v5 + (if v4 = 0 then (0 : Int32) else (if v18 < (1 : Int32) then (0 : Int32) else v18))) w7 w9) = 0 → Wk l Z (MoL Z cdC "CyclicExecutiveL6" true) md_L_law 36 [.val (.ref 0), .val (.ref 1), .val (.int v2), .val (.int v3), .val (.int v4), .val (.int (v5 + (if v4 = 0 then (0 : Int32) else (if v18 < (1 : Int32) then (0 : Int32) else v18)))), .val (.int v6), .val (.long w7), .second, .val (.long w9), .second, .val (.long w11), .second, .val (.int (v13 + (4 : Int32))), .unset, .unset, .unset, .unset, .unset, .unset, .unset, .unset, .unset, .unset] [] (sl, sv, [(7, F1, G1, A1, B1)]) 8 1328 Q) (h17 : v19 = (if v4 = 0 then (0 : Int32) else (if v18 < (1 : Int32) then (0 : Int32) else v18)) → (f_getTaskCount F1) = v2 → (f_getHyperperiod F1) = v3 → (f_getFrame F1) = v4 → (f_getNow F1) = (v5 + (if v4 = 0 then (0 : Int32) else (if v18 < (1 : Int32) then (0 : Int32) else v18))) → (f_getMiss F1) = v6 → (R_L_runsOk  F1 A1 v2 v3 v4 (v5 + (if v4 = 0 then (0 : Int32) else (if v18 < (1 : Int32) then (0 : Int32) else v18))) w7 w9) = 0 → Q (some (.int (0 : Int32))) (sl, sv, [(7, F1, G1, A1, B1)])) (h18 : v19 = (if v4 = 0 then (0 : Int32) else (if v18 < (1 : Int32) then (0 : Int32) else v18)) → (f_getTaskCount F1) = v2 → (f_getHyperperiod F1) = v3 → (f_getFrame F1) = v4 → (f_getNow F1) = (v5 + (if v4 = 0 then (0 : Int32) else (if v18 < (1 : Int32) then (0 : Int32) else v18))) → ¬ (f_getMiss F1) = v6 → Q (some (.int (0 : Int32))) (sl, sv, [(7, F1, G1, A1, B1)])) (h19 : v19 = (if v4 = 0 then (0 : Int32) else (if v18 < (1 : Int32) then (0 : Int32) else v18)) → (f_getTaskCount F1) = v2 → (f_getHyperperiod F1) = v3 → ¬ (f_getFrame F1) = v4 → Q (some (.int (0 : Int32))) (sl, sv, [(7, F1, G1, A1, B1)])) (h20 : ¬ v19 = (if v4 = 0 then (0 : Int32) else (if v18 < (1 : Int32) then (0 : Int32) else v18)) → Q (some (.int (0 : Int32))) (sl, sv, [(7, F1, G1, A1, B1)])) :
    Wk l Z (MoL Z cdC "CyclicExecutiveL6" true) md_L_law 444 [.val (.ref 0), .val (.ref 1), .val (.int v2), .val (.int v3), .val (.int v4), .val (.int v5), .val (.int v6), .val (.long w7), .second, .val (.long w9), .second, .val (.long w11), .second, .val (.int v13), .unset, .unset, .unset, .unset, .val (.int v18), .val (.int v19), .unset, .unset, .unset, .unset] [] (sl, sv, [(7, F1, G1, A1, B1)]) 8 1328 Q := by
  refine Wk.iload o_L_law_444 rfl ?_
  have J4 : Wk l Z (MoL Z cdC "CyclicExecutiveL6" true) md_L_law 461 [.val (.ref 0), .val (.ref 1), .val (.int v2), .val (.int v3), .val (.int v4), .val (.int v5), .val (.int v6), .val (.long w7), .second, .val (.long w9), .second, .val (.long w11), .second, .val (.int v13), .unset, .unset, .unset, .unset, .val (.int v18), .val (.int v19), .unset, .unset, .unset, .unset] [.int (if v4 = 0 then (0 : Int32) else (if v18 < (1 : Int32) then (0 : Int32) else v18))] (sl, sv, [(7, F1, G1, A1, B1)]) 8 1328 Q := by
    refine Wk.istore o_L_law_461 (Or.inl rfl) (L' := [.val (.ref 0), .val (.ref 1), .val (.int v2), .val (.int v3), .val (.int v4), .val (.int v5), .val (.int v6), .val (.long w7), .second, .val (.long w9), .second, .val (.long w11), .second, .val (.int v13), .unset, .unset, .unset, .unset, .val (.int v18), .val (.int v19), .val (.int (if v4 = 0 then (0 : Int32) else (if v18 < (1 : Int32) then (0 : Int32) else v18))), .unset, .unset, .unset]) rfl ?_
    refine Wk.iload o_L_law_463 rfl ?_
    refine Wk.iload o_L_law_465 rfl ?_
    refine Wk.icmp_eq o_L_law_467 (fun q5 => ?_) (fun q5 => ?_)
    · refine Wk.iload o_L_law_472 rfl ?_
      refine Wk.iload o_L_law_474 rfl ?_
      refine Wk.iadd o_L_law_476 ?_
      refine Wk.istore o_L_law_477 (Or.inr ⟨_, rfl, rfl⟩) (L' := [.val (.ref 0), .val (.ref 1), .val (.int v2), .val (.int v3), .val (.int v4), .val (.int (v5 + (if v4 = 0 then (0 : Int32) else (if v18 < (1 : Int32) then (0 : Int32) else v18)))), .val (.int v6), .val (.long w7), .second, .val (.long w9), .second, .val (.long w11), .second, .val (.int v13), .unset, .unset, .unset, .unset, .val (.int v18), .val (.int v19), .val (.int (if v4 = 0 then (0 : Int32) else (if v18 < (1 : Int32) then (0 : Int32) else v18))), .unset, .unset, .unset]) rfl ?_
      refine Wk.aloadN o_L_law_479 rfl ?_
      refine Wk.callLF (coC H) [] 0 [] (i' := 1) (H.w 51 rfl) (cv_getTaskCount H) o_L_law_480 (run_getTaskCount H F1 G1 A1 B1) (wt := 0) (cu' := 8) (su' := 1328) (by decide) trivial rfl rfl rfl rfl rfl rfl rfl rfl rfl rfl (ws' := [(7, F1, G1, A1, B1)]) rfl ?_
      refine Wk.iloadN o_L_law_483 rfl ?_
      refine Wk.icmp_ne o_L_law_484 (fun q6 => ?_) (fun q6 => ?_)
      · refine Wk.iconst o_L_law_504 (z := (0 : Int32)) (by decide) ?_
        exact Wk.zreturn mrL rfl o_L_law_505 rfl (by decide) (by decide) (y := (0 : Int32)) (by decide) (h7 q5 q6)
      · refine Wk.aloadN o_L_law_487 rfl ?_
        refine Wk.callLF (coC H) [] 0 [] (i' := 1) (H.w 56 rfl) (cv_getHyperperiod H) o_L_law_488 (run_getHyperperiod H F1 G1 A1 B1) (wt := 0) (cu' := 8) (su' := 1328) (by decide) trivial rfl rfl rfl rfl rfl rfl rfl rfl rfl rfl (ws' := [(7, F1, G1, A1, B1)]) rfl ?_
        refine Wk.iloadN o_L_law_491 rfl ?_
        refine Wk.icmp_ne o_L_law_492 (fun q8 => ?_) (fun q8 => ?_)
        · refine Wk.iconst o_L_law_504 (z := (0 : Int32)) (by decide) ?_
          exact Wk.zreturn mrL rfl o_L_law_505 rfl (by decide) (by decide) (y := (0 : Int32)) (by decide) (h9 q5 q6 q8)
        · refine Wk.aloadN o_L_law_495 rfl ?_
          refine Wk.callLF (coC H) [] 0 [] (i' := 1) (H.w 61 rfl) (cv_getFrame H) o_L_law_496 (run_getFrame H F1 G1 A1 B1) (wt := 0) (cu' := 8) (su' := 1328) (by decide) trivial rfl rfl rfl rfl rfl rfl rfl rfl rfl rfl (ws' := [(7, F1, G1, A1, B1)]) rfl ?_
          refine Wk.iload o_L_law_499 rfl ?_
          refine Wk.icmp_eq o_L_law_501 (fun q10 => ?_) (fun q10 => ?_)
          · refine Wk.aloadN o_L_law_506 rfl ?_
            refine Wk.callLF (coC H) [] 0 [] (i' := 1) (H.w 66 rfl) (cv_getNow H) o_L_law_507 (run_getNow H F1 G1 A1 B1) (wt := 0) (cu' := 8) (su' := 1328) (by decide) trivial rfl rfl rfl rfl rfl rfl rfl rfl rfl rfl (ws' := [(7, F1, G1, A1, B1)]) rfl ?_
            refine Wk.iload o_L_law_510 rfl ?_
            refine Wk.icmp_ne o_L_law_512 (fun q11 => ?_) (fun q11 => ?_)
            · refine Wk.iconst o_L_law_524 (z := (0 : Int32)) (by decide) ?_
              exact Wk.zreturn mrL rfl o_L_law_525 rfl (by decide) (by decide) (y := (0 : Int32)) (by decide) (h12 q5 q6 q8 q10 q11)
            · refine Wk.aloadN o_L_law_515 rfl ?_
              refine Wk.callLF (coC H) [] 0 [] (i' := 1) (H.w 71 rfl) (cv_getMiss H) o_L_law_516 (run_getMiss H F1 G1 A1 B1) (wt := 0) (cu' := 8) (su' := 1328) (by decide) trivial rfl rfl rfl rfl rfl rfl rfl rfl rfl rfl (ws' := [(7, F1, G1, A1, B1)]) rfl ?_
              refine Wk.iload o_L_law_519 rfl ?_
              refine Wk.icmp_eq o_L_law_521 (fun q13 => ?_) (fun q13 => ?_)
              · refine Wk.aloadN o_L_law_526 rfl ?_
                refine Wk.iloadN o_L_law_527 rfl ?_
                refine Wk.iloadN o_L_law_528 rfl ?_
                refine Wk.iload o_L_law_529 rfl ?_
                refine Wk.iload o_L_law_531 rfl ?_
                refine Wk.lload o_L_law_533 rfl ?_
                refine Wk.lload o_L_law_535 rfl ?_
                refine Wk.callSF mtL [.ref 1, .int v2, .int v3, .int v4, .int (v5 + (if v4 = 0 then (0 : Int32) else (if v18 < (1 : Int32) then (0 : Int32) else v18))), .long w7, .long w9] [] (H.w 76 rfl) (cv_L_runsOk H) o_L_law_537 (run_L_runsOk H sl sv F1 G1 A1 B1 v2 v3 v4 (v5 + (if v4 = 0 then (0 : Int32) else (if v18 < (1 : Int32) then (0 : Int32) else v18))) w7 w9 (s14 q5 q6 q8 q10 q11 q13)) (wt := 0) (cu' := 8) (su' := 1328) (by decide) rfl rfl (al_L_runsOk _ _ _ _ _ _ _) rfl rfl rfl ?_
                refine Wk.if_ne o_L_law_540 (fun q15 => ?_) (fun q15 => ?_)
                · refine Wk.iinc o_L_law_545 rfl (z := (v13 + (4 : Int32))) rfl (L' := [.val (.ref 0), .val (.ref 1), .val (.int v2), .val (.int v3), .val (.int v4), .val (.int (v5 + (if v4 = 0 then (0 : Int32) else (if v18 < (1 : Int32) then (0 : Int32) else v18)))), .val (.int v6), .val (.long w7), .second, .val (.long w9), .second, .val (.long w11), .second, .val (.int (v13 + (4 : Int32))), .unset, .unset, .unset, .unset, .val (.int v18), .val (.int v19), .val (.int (if v4 = 0 then (0 : Int32) else (if v18 < (1 : Int32) then (0 : Int32) else v18))), .unset, .unset, .unset]) rfl ?_
                  refine Wk.goto o_L_law_548 ?_
                  refine Wk.forget [false, false, false, false, false, false, false, false, false, false, false, false, false, false, false, false, false, false, true, true, true, false, false, false] (L' := [.val (.ref 0), .val (.ref 1), .val (.int v2), .val (.int v3), .val (.int v4), .val (.int (v5 + (if v4 = 0 then (0 : Int32) else (if v18 < (1 : Int32) then (0 : Int32) else v18)))), .val (.int v6), .val (.long w7), .second, .val (.long w9), .second, .val (.long w11), .second, .val (.int (v13 + (4 : Int32))), .unset, .unset, .unset, .unset, .unset, .unset, .unset, .unset, .unset, .unset]) rfl rfl ?_
                  exact (h16 q5 q6 q8 q10 q11 q13 q15)
                · refine Wk.iconst o_L_law_543 (z := (0 : Int32)) (by decide) ?_
                  exact Wk.zreturn mrL rfl o_L_law_544 rfl (by decide) (by decide) (y := (0 : Int32)) (by decide) (h17 q5 q6 q8 q10 q11 q13 q15)
              · refine Wk.iconst o_L_law_524 (z := (0 : Int32)) (by decide) ?_
                exact Wk.zreturn mrL rfl o_L_law_525 rfl (by decide) (by decide) (y := (0 : Int32)) (by decide) (h18 q5 q6 q8 q10 q11 q13)
          · refine Wk.iconst o_L_law_504 (z := (0 : Int32)) (by decide) ?_
            exact Wk.zreturn mrL rfl o_L_law_505 rfl (by decide) (by decide) (y := (0 : Int32)) (by decide) (h19 q5 q6 q8 q10)
    · refine Wk.iconst o_L_law_470 (z := (0 : Int32)) (by decide) ?_
      exact Wk.zreturn mrL rfl o_L_law_471 rfl (by decide) (by decide) (y := (0 : Int32)) (by decide) (h20 q5)
  refine Wk.if_eq o_L_law_446 (fun q1 => ?_) (fun q1 => ?_)
  · refine Wk.iconst o_L_law_455 (z := (0 : Int32)) (by decide) ?_
    refine Wk.goto o_L_law_456 ?_
    first | (rw [show ((if v4 = 0 then (0 : Int32) else (if v18 < (1 : Int32) then (0 : Int32) else v18)) : Int32) = (0 : Int32) from if_pos q1] at J4; exact J4) | exact J4 | (simp only [if_pos q1] at J4 ⊢; exact J4)
  · refine Wk.iload o_L_law_449 rfl ?_
    refine Wk.iconst o_L_law_451 (z := (1 : Int32)) (by decide) ?_
    refine Wk.icmp_ge o_L_law_452 (fun q2 => ?_) (fun q2 => ?_)
    · refine Wk.iload o_L_law_459 rfl ?_
      first | (rw [show ((if v4 = 0 then (0 : Int32) else (if v18 < (1 : Int32) then (0 : Int32) else v18)) : Int32) = v18 from Eq.trans (if_neg q1) <| if_neg q2] at J4; exact J4) | exact J4 | (simp only [if_neg q1, if_neg q2] at J4 ⊢; exact J4)
    · refine Wk.iconst o_L_law_455 (z := (0 : Int32)) (by decide) ?_
      refine Wk.goto o_L_law_456 ?_
      first | (rw [show ((if v4 = 0 then (0 : Int32) else (if v18 < (1 : Int32) then (0 : Int32) else v18)) : Int32) = (0 : Int32) from Eq.trans (if_neg q1) <| if_pos q2] at J4; exact J4) | exact J4 | (simp only [if_neg q1, if_pos q2] at J4 ⊢; exact J4)

set_option maxRecDepth 65536 in
set_option maxHeartbeats 4000000 in
theorem wp_L_law_129 {l : Launch} {Z : State} {a0 : Array Value} (H : OK Z a0) (sl : Int32) (sv : Int32 → Int32) (F1 : Nat → Int32) (G1 : Nat → Int64) (A1 : Nat → Int32 → Int32) (B1 : Nat → Int32 → Int64) (v2 : Int32) (v3 : Int32) (v4 : Int32) (v5 : Int32) (v6 : Int32) (w7 : Int64) (w9 : Int64) (w11 : Int64) (v13 : Int32) (v18 : Int32) (v19 : Int32) (v20 : Int32) (v21 : Int32) {Q : Option Value → WL → Prop} (s2 : ¬ v3 = 0 → (en_L_gcd   v3 v18).isSome = true) (s3 : ¬ v3 = 0 → ¬ (R_L_gcd   v3 v18) = (0 : Int32)) (h17 : v21 = (if v20 < (1 : Int32) then (-1 : Int32) else (if v20 < v19 then (-1 : Int32) else (if v2 = (4 : Int32) then (-2 : Int32) else (if (60 : Int32) < (if v3 = 0 then v18 else ((v3 / (R_L_gcd   v3 v18)) * v18)) then (-3 : Int32) else v2)))) → ¬ (f_getTaskCount F1) = (if v21 < 0 then v2 else (v2 + (1 : Int32))) → Q (some (.int (0 : Int32))) (sl, sv, [(7, F1, G1, A1, B1)])) (h19 : v21 = (if v20 < (1 : Int32) then (-1 : Int32) else (if v20 < v19 then (-1 : Int32) else (if v2 = (4 : Int32) then (-2 : Int32) else (if (60 : Int32) < (if v3 = 0 then v18 else ((v3 / (R_L_gcd   v3 v18)) * v18)) then (-3 : Int32) else v2)))) → (f_getTaskCount F1) = (if v21 < 0 then v2 else (v2 + (1 : Int32))) → ¬ (f_getHyperperiod F1) = (if v21 < 0 then v3 else (if v3 = 0 then v18 else ((v3 / (R_L_gcd   v3 v18)) * v18))) → Q (some (.int (0 : Int32))) (sl, sv, [(7, F1, G1, A1, B1)])) (h22 : v21 = (if v20 < (1 : Int32) then (-1 : Int32) else (if v20 < v19 then (-1 : Int32) else (if v2 = (4 : Int32) then (-2 : Int32) else (if (60 : Int32) < (if v3 = 0 then v18 else ((v3 / (R_L_gcd   v3 v18)) * v18)) then (-3 : Int32) else v2)))) → (f_getTaskCount F1) = (if v21 < 0 then v2 else (v2 + (1 : Int32))) → (f_getHyperperiod F1) = (if v21 < 0 then v3 else (if v3 = 0 then v18 else ((v3 / (R_L_gcd   v3 v18)) * v18))) → (f_getFrame F1) = (if v21 < 0 then v4 else (0 : Int32)) → ¬ (f_getNow F1) = (if v21 < 0 then v5 else (0 : Int32)) → Q (some (.int (0 : Int32))) (sl, sv, [(7, F1, G1, A1, B1)])) (s24 : v21 = (if v20 < (1 : Int32) then (-1 : Int32) else (if v20 < v19 then (-1 : Int32) else (if v2 = (4 : Int32) then (-2 : Int32) else (if (60 : Int32) < (if v3 = 0 then v18 else ((v3 / (R_L_gcd   v3 v18)) * v18)) then (-3 : Int32) else v2)))) → (f_getTaskCount F1) = (if v21 < 0 then v2 else (v2 + (1 : Int32))) → (f_getHyperperiod F1) = (if v21 < 0 then v3 else (if v3 = 0 then v18 else ((v3 / (R_L_gcd   v3 v18)) * v18))) → (f_getFrame F1) = (if v21 < 0 then v4 else (0 : Int32)) → (f_getNow F1) = (if v21 < 0 then v5 else (0 : Int32)) → (f_getMiss F1) = (if v21 < 0 then v6 else (-1 : Int32)) → (en_L_runsOk  F1 A1 (if v21 < 0 then v2 else (v2 + (1 : Int32))) (if v21 < 0 then v3 else (if v3 = 0 then v18 else ((v3 / (R_L_gcd   v3 v18)) * v18))) (if v21 < 0 then v4 else (0 : Int32)) (if v21 < 0 then v5 else (0 : Int32)) (if v21 < 0 then w7 else (w7 ||| (((v18).toInt64) <<< (((8 : Int32) * v2).toInt64 &&& 63)))) (if v21 < 0 then w9 else (w9 ||| (((v19).toInt64) <<< (((8 : Int32) * v2).toInt64 &&& 63))))).isSome = true) (h26 : v21 = (if v20 < (1 : Int32) then (-1 : Int32) else (if v20 < v19 then (-1 : Int32) else (if v2 = (4 : Int32) then (-2 : Int32) else (if (60 : Int32) < (if v3 = 0 then v18 else ((v3 / (R_L_gcd   v3 v18)) * v18)) then (-3 : Int32) else v2)))) → (f_getTaskCount F1) = (if v21 < 0 then v2 else (v2 + (1 : Int32))) → (f_getHyperperiod F1) = (if v21 < 0 then v3 else (if v3 = 0 then v18 else ((v3 / (R_L_gcd   v3 v18)) * v18))) → (f_getFrame F1) = (if v21 < 0 then v4 else (0 : Int32)) → (f_getNow F1) = (if v21 < 0 then v5 else (0 : Int32)) → (f_getMiss F1) = (if v21 < 0 then v6 else (-1 : Int32)) → ¬ (R_L_runsOk  F1 A1 (if v21 < 0 then v2 else (v2 + (1 : Int32))) (if v21 < 0 then v3 else (if v3 = 0 then v18 else ((v3 / (R_L_gcd   v3 v18)) * v18))) (if v21 < 0 then v4 else (0 : Int32)) (if v21 < 0 then v5 else (0 : Int32)) (if v21 < 0 then w7 else (w7 ||| (((v18).toInt64) <<< (((8 : Int32) * v2).toInt64 &&& 63)))) (if v21 < 0 then w9 else (w9 ||| (((v19).toInt64) <<< (((8 : Int32) * v2).toInt64 &&& 63))))) = 0 → Wk l Z (MoL Z cdC "CyclicExecutiveL6" true) md_L_law 36 [.val (.ref 0), .val (.ref 1), .val (.int (if v21 < 0 then v2 else (v2 + (1 : Int32)))), .val (.int (if v21 < 0 then v3 else (if v3 = 0 then v18 else ((v3 / (R_L_gcd   v3 v18)) * v18)))), .val (.int (if v21 < 0 then v4 else (0 : Int32))), .val (.int (if v21 < 0 then v5 else (0 : Int32))), .val (.int (if v21 < 0 then v6 else (-1 : Int32))), .val (.long (if v21 < 0 then w7 else (w7 ||| (((v18).toInt64) <<< (((8 : Int32) * v2).toInt64 &&& 63))))), .second, .val (.long (if v21 < 0 then w9 else (w9 ||| (((v19).toInt64) <<< (((8 : Int32) * v2).toInt64 &&& 63))))), .second, .val (.long (if v21 < 0 then w11 else (w11 ||| (((v20).toInt64) <<< (((8 : Int32) * v2).toInt64 &&& 63))))), .second, .val (.int (v13 + (4 : Int32))), .unset, .unset, .unset, .unset, .unset, .unset, .unset, .unset, .unset, .unset] [] (sl, sv, [(7, F1, G1, A1, B1)]) 8 1328 Q) (h27 : v21 = (if v20 < (1 : Int32) then (-1 : Int32) else (if v20 < v19 then (-1 : Int32) else (if v2 = (4 : Int32) then (-2 : Int32) else (if (60 : Int32) < (if v3 = 0 then v18 else ((v3 / (R_L_gcd   v3 v18)) * v18)) then (-3 : Int32) else v2)))) → (f_getTaskCount F1) = (if v21 < 0 then v2 else (v2 + (1 : Int32))) → (f_getHyperperiod F1) = (if v21 < 0 then v3 else (if v3 = 0 then v18 else ((v3 / (R_L_gcd   v3 v18)) * v18))) → (f_getFrame F1) = (if v21 < 0 then v4 else (0 : Int32)) → (f_getNow F1) = (if v21 < 0 then v5 else (0 : Int32)) → (f_getMiss F1) = (if v21 < 0 then v6 else (-1 : Int32)) → (R_L_runsOk  F1 A1 (if v21 < 0 then v2 else (v2 + (1 : Int32))) (if v21 < 0 then v3 else (if v3 = 0 then v18 else ((v3 / (R_L_gcd   v3 v18)) * v18))) (if v21 < 0 then v4 else (0 : Int32)) (if v21 < 0 then v5 else (0 : Int32)) (if v21 < 0 then w7 else (w7 ||| (((v18).toInt64) <<< (((8 : Int32) * v2).toInt64 &&& 63)))) (if v21 < 0 then w9 else (w9 ||| (((v19).toInt64) <<< (((8 : Int32) * v2).toInt64 &&& 63))))) = 0 → Q (some (.int (0 : Int32))) (sl, sv, [(7, F1, G1, A1, B1)])) (h28 : v21 = (if v20 < (1 : Int32) then (-1 : Int32) else (if v20 < v19 then (-1 : Int32) else (if v2 = (4 : Int32) then (-2 : Int32) else (if (60 : Int32) < (if v3 = 0 then v18 else ((v3 / (R_L_gcd   v3 v18)) * v18)) then (-3 : Int32) else v2)))) → (f_getTaskCount F1) = (if v21 < 0 then v2 else (v2 + (1 : Int32))) → (f_getHyperperiod F1) = (if v21 < 0 then v3 else (if v3 = 0 then v18 else ((v3 / (R_L_gcd   v3 v18)) * v18))) → (f_getFrame F1) = (if v21 < 0 then v4 else (0 : Int32)) → (f_getNow F1) = (if v21 < 0 then v5 else (0 : Int32)) → ¬ (f_getMiss F1) = (if v21 < 0 then v6 else (-1 : Int32)) → Q (some (.int (0 : Int32))) (sl, sv, [(7, F1, G1, A1, B1)])) (h29 : v21 = (if v20 < (1 : Int32) then (-1 : Int32) else (if v20 < v19 then (-1 : Int32) else (if v2 = (4 : Int32) then (-2 : Int32) else (if (60 : Int32) < (if v3 = 0 then v18 else ((v3 / (R_L_gcd   v3 v18)) * v18)) then (-3 : Int32) else v2)))) → (f_getTaskCount F1) = (if v21 < 0 then v2 else (v2 + (1 : Int32))) → (f_getHyperperiod F1) = (if v21 < 0 then v3 else (if v3 = 0 then v18 else ((v3 / (R_L_gcd   v3 v18)) * v18))) → ¬ (f_getFrame F1) = (if v21 < 0 then v4 else (0 : Int32)) → Q (some (.int (0 : Int32))) (sl, sv, [(7, F1, G1, A1, B1)])) (h30 : ¬ v21 = (if v20 < (1 : Int32) then (-1 : Int32) else (if v20 < v19 then (-1 : Int32) else (if v2 = (4 : Int32) then (-2 : Int32) else (if (60 : Int32) < (if v3 = 0 then v18 else ((v3 / (R_L_gcd   v3 v18)) * v18)) then (-3 : Int32) else v2)))) → Q (some (.int (0 : Int32))) (sl, sv, [(7, F1, G1, A1, B1)])) :
    Wk l Z (MoL Z cdC "CyclicExecutiveL6" true) md_L_law 129 [.val (.ref 0), .val (.ref 1), .val (.int v2), .val (.int v3), .val (.int v4), .val (.int v5), .val (.int v6), .val (.long w7), .second, .val (.long w9), .second, .val (.long w11), .second, .val (.int v13), .unset, .unset, .unset, .unset, .val (.int v18), .val (.int v19), .val (.int v20), .val (.int v21), .unset, .unset] [] (sl, sv, [(7, F1, G1, A1, B1)]) 8 1328 Q := by
  refine Wk.iloadN o_L_law_129 rfl ?_
  have J4 : Wk l Z (MoL Z cdC "CyclicExecutiveL6" true) md_L_law 149 [.val (.ref 0), .val (.ref 1), .val (.int v2), .val (.int v3), .val (.int v4), .val (.int v5), .val (.int v6), .val (.long w7), .second, .val (.long w9), .second, .val (.long w11), .second, .val (.int v13), .unset, .unset, .unset, .unset, .val (.int v18), .val (.int v19), .val (.int v20), .val (.int v21), .unset, .unset] [.int (if v3 = 0 then v18 else ((v3 / (R_L_gcd   v3 v18)) * v18))] (sl, sv, [(7, F1, G1, A1, B1)]) 8 1328 Q := by
    refine Wk.istore o_L_law_149 (Or.inl rfl) (L' := [.val (.ref 0), .val (.ref 1), .val (.int v2), .val (.int v3), .val (.int v4), .val (.int v5), .val (.int v6), .val (.long w7), .second, .val (.long w9), .second, .val (.long w11), .second, .val (.int v13), .unset, .unset, .unset, .unset, .val (.int v18), .val (.int v19), .val (.int v20), .val (.int v21), .val (.int (if v3 = 0 then v18 else ((v3 / (R_L_gcd   v3 v18)) * v18))), .unset]) rfl ?_
    refine Wk.iload o_L_law_151 rfl ?_
    refine Wk.iconst o_L_law_153 (z := (1 : Int32)) (by decide) ?_
    have J12 : Wk l Z (MoL Z cdC "CyclicExecutiveL6" true) md_L_law 191 [.val (.ref 0), .val (.ref 1), .val (.int v2), .val (.int v3), .val (.int v4), .val (.int v5), .val (.int v6), .val (.long w7), .second, .val (.long w9), .second, .val (.long w11), .second, .val (.int v13), .unset, .unset, .unset, .unset, .val (.int v18), .val (.int v19), .val (.int v20), .val (.int v21), .val (.int (if v3 = 0 then v18 else ((v3 / (R_L_gcd   v3 v18)) * v18))), .unset] [.int (if v20 < (1 : Int32) then (-1 : Int32) else (if v20 < v19 then (-1 : Int32) else (if v2 = (4 : Int32) then (-2 : Int32) else (if (60 : Int32) < (if v3 = 0 then v18 else ((v3 / (R_L_gcd   v3 v18)) * v18)) then (-3 : Int32) else v2))))] (sl, sv, [(7, F1, G1, A1, B1)]) 8 1328 Q := by
      refine Wk.istore o_L_law_191 (Or.inl rfl) (L' := [.val (.ref 0), .val (.ref 1), .val (.int v2), .val (.int v3), .val (.int v4), .val (.int v5), .val (.int v6), .val (.long w7), .second, .val (.long w9), .second, .val (.long w11), .second, .val (.int v13), .unset, .unset, .unset, .unset, .val (.int v18), .val (.int v19), .val (.int v20), .val (.int v21), .val (.int (if v3 = 0 then v18 else ((v3 / (R_L_gcd   v3 v18)) * v18))), .val (.int (if v20 < (1 : Int32) then (-1 : Int32) else (if v20 < v19 then (-1 : Int32) else (if v2 = (4 : Int32) then (-2 : Int32) else (if (60 : Int32) < (if v3 = 0 then v18 else ((v3 / (R_L_gcd   v3 v18)) * v18)) then (-3 : Int32) else v2)))))]) rfl ?_
      refine Wk.iload o_L_law_193 rfl ?_
      refine Wk.iload o_L_law_195 rfl ?_
      refine Wk.icmp_eq o_L_law_197 (fun q13 => ?_) (fun q13 => ?_)
      · refine Wk.iload o_L_law_202 rfl ?_
        have J15 : Wk l Z (MoL Z cdC "CyclicExecutiveL6" true) md_L_law 261 [.val (.ref 0), .val (.ref 1), .val (.int (if v21 < 0 then v2 else (v2 + (1 : Int32)))), .val (.int (if v21 < 0 then v3 else (if v3 = 0 then v18 else ((v3 / (R_L_gcd   v3 v18)) * v18)))), .val (.int (if v21 < 0 then v4 else (0 : Int32))), .val (.int (if v21 < 0 then v5 else (0 : Int32))), .val (.int (if v21 < 0 then v6 else (-1 : Int32))), .val (.long (if v21 < 0 then w7 else (w7 ||| (((v18).toInt64) <<< (((8 : Int32) * v2).toInt64 &&& 63))))), .second, .val (.long (if v21 < 0 then w9 else (w9 ||| (((v19).toInt64) <<< (((8 : Int32) * v2).toInt64 &&& 63))))), .second, .val (.long (if v21 < 0 then w11 else (w11 ||| (((v20).toInt64) <<< (((8 : Int32) * v2).toInt64 &&& 63))))), .second, .val (.int v13), .unset, .unset, .unset, .unset, .val (.int v18), .val (.int v19), .val (.int v20), .val (.int v21), .val (.int (if v3 = 0 then v18 else ((v3 / (R_L_gcd   v3 v18)) * v18))), .val (.int (if v20 < (1 : Int32) then (-1 : Int32) else (if v20 < v19 then (-1 : Int32) else (if v2 = (4 : Int32) then (-2 : Int32) else (if (60 : Int32) < (if v3 = 0 then v18 else ((v3 / (R_L_gcd   v3 v18)) * v18)) then (-3 : Int32) else v2)))))] [] (sl, sv, [(7, F1, G1, A1, B1)]) 8 1328 Q := by
          refine Wk.goto o_L_law_261 ?_
          refine Wk.aloadN o_L_law_479 rfl ?_
          refine Wk.callLF (coC H) [] 0 [] (i' := 1) (H.w 51 rfl) (cv_getTaskCount H) o_L_law_480 (run_getTaskCount H F1 G1 A1 B1) (wt := 0) (cu' := 8) (su' := 1328) (by decide) trivial rfl rfl rfl rfl rfl rfl rfl rfl rfl rfl (ws' := [(7, F1, G1, A1, B1)]) rfl ?_
          refine Wk.iloadN o_L_law_483 rfl ?_
          refine Wk.icmp_ne o_L_law_484 (fun q16 => ?_) (fun q16 => ?_)
          · refine Wk.iconst o_L_law_504 (z := (0 : Int32)) (by decide) ?_
            exact Wk.zreturn mrL rfl o_L_law_505 rfl (by decide) (by decide) (y := (0 : Int32)) (by decide) (h17 q13 q16)
          · refine Wk.aloadN o_L_law_487 rfl ?_
            refine Wk.callLF (coC H) [] 0 [] (i' := 1) (H.w 56 rfl) (cv_getHyperperiod H) o_L_law_488 (run_getHyperperiod H F1 G1 A1 B1) (wt := 0) (cu' := 8) (su' := 1328) (by decide) trivial rfl rfl rfl rfl rfl rfl rfl rfl rfl rfl (ws' := [(7, F1, G1, A1, B1)]) rfl ?_
            refine Wk.iloadN o_L_law_491 rfl ?_
            refine Wk.icmp_ne o_L_law_492 (fun q18 => ?_) (fun q18 => ?_)
            · refine Wk.iconst o_L_law_504 (z := (0 : Int32)) (by decide) ?_
              exact Wk.zreturn mrL rfl o_L_law_505 rfl (by decide) (by decide) (y := (0 : Int32)) (by decide) (h19 q13 q16 q18)
            · refine Wk.aloadN o_L_law_495 rfl ?_
              refine Wk.callLF (coC H) [] 0 [] (i' := 1) (H.w 61 rfl) (cv_getFrame H) o_L_law_496 (run_getFrame H F1 G1 A1 B1) (wt := 0) (cu' := 8) (su' := 1328) (by decide) trivial rfl rfl rfl rfl rfl rfl rfl rfl rfl rfl (ws' := [(7, F1, G1, A1, B1)]) rfl ?_
              refine Wk.iload o_L_law_499 rfl ?_
              refine Wk.icmp_eq o_L_law_501 (fun q20 => ?_) (fun q20 => ?_)
              · refine Wk.aloadN o_L_law_506 rfl ?_
                refine Wk.callLF (coC H) [] 0 [] (i' := 1) (H.w 66 rfl) (cv_getNow H) o_L_law_507 (run_getNow H F1 G1 A1 B1) (wt := 0) (cu' := 8) (su' := 1328) (by decide) trivial rfl rfl rfl rfl rfl rfl rfl rfl rfl rfl (ws' := [(7, F1, G1, A1, B1)]) rfl ?_
                refine Wk.iload o_L_law_510 rfl ?_
                refine Wk.icmp_ne o_L_law_512 (fun q21 => ?_) (fun q21 => ?_)
                · refine Wk.iconst o_L_law_524 (z := (0 : Int32)) (by decide) ?_
                  exact Wk.zreturn mrL rfl o_L_law_525 rfl (by decide) (by decide) (y := (0 : Int32)) (by decide) (h22 q13 q16 q18 q20 q21)
                · refine Wk.aloadN o_L_law_515 rfl ?_
                  refine Wk.callLF (coC H) [] 0 [] (i' := 1) (H.w 71 rfl) (cv_getMiss H) o_L_law_516 (run_getMiss H F1 G1 A1 B1) (wt := 0) (cu' := 8) (su' := 1328) (by decide) trivial rfl rfl rfl rfl rfl rfl rfl rfl rfl rfl (ws' := [(7, F1, G1, A1, B1)]) rfl ?_
                  refine Wk.iload o_L_law_519 rfl ?_
                  refine Wk.icmp_eq o_L_law_521 (fun q23 => ?_) (fun q23 => ?_)
                  · refine Wk.aloadN o_L_law_526 rfl ?_
                    refine Wk.iloadN o_L_law_527 rfl ?_
                    refine Wk.iloadN o_L_law_528 rfl ?_
                    refine Wk.iload o_L_law_529 rfl ?_
                    refine Wk.iload o_L_law_531 rfl ?_
                    refine Wk.lload o_L_law_533 rfl ?_
                    refine Wk.lload o_L_law_535 rfl ?_
                    refine Wk.callSF mtL [.ref 1, .int (if v21 < 0 then v2 else (v2 + (1 : Int32))), .int (if v21 < 0 then v3 else (if v3 = 0 then v18 else ((v3 / (R_L_gcd   v3 v18)) * v18))), .int (if v21 < 0 then v4 else (0 : Int32)), .int (if v21 < 0 then v5 else (0 : Int32)), .long (if v21 < 0 then w7 else (w7 ||| (((v18).toInt64) <<< (((8 : Int32) * v2).toInt64 &&& 63)))), .long (if v21 < 0 then w9 else (w9 ||| (((v19).toInt64) <<< (((8 : Int32) * v2).toInt64 &&& 63))))] [] (H.w 76 rfl) (cv_L_runsOk H) o_L_law_537 (run_L_runsOk H sl sv F1 G1 A1 B1 (if v21 < 0 then v2 else (v2 + (1 : Int32))) (if v21 < 0 then v3 else (if v3 = 0 then v18 else ((v3 / (R_L_gcd   v3 v18)) * v18))) (if v21 < 0 then v4 else (0 : Int32)) (if v21 < 0 then v5 else (0 : Int32)) (if v21 < 0 then w7 else (w7 ||| (((v18).toInt64) <<< (((8 : Int32) * v2).toInt64 &&& 63)))) (if v21 < 0 then w9 else (w9 ||| (((v19).toInt64) <<< (((8 : Int32) * v2).toInt64 &&& 63)))) (s24 q13 q16 q18 q20 q21 q23)) (wt := 0) (cu' := 8) (su' := 1328) (by decide) rfl rfl (al_L_runsOk _ _ _ _ _ _ _) rfl rfl rfl ?_
                    refine Wk.if_ne o_L_law_540 (fun q25 => ?_) (fun q25 => ?_)
                    · refine Wk.iinc o_L_law_545 rfl (z := (v13 + (4 : Int32))) rfl (L' := [.val (.ref 0), .val (.ref 1), .val (.int (if v21 < 0 then v2 else (v2 + (1 : Int32)))), .val (.int (if v21 < 0 then v3 else (if v3 = 0 then v18 else ((v3 / (R_L_gcd   v3 v18)) * v18)))), .val (.int (if v21 < 0 then v4 else (0 : Int32))), .val (.int (if v21 < 0 then v5 else (0 : Int32))), .val (.int (if v21 < 0 then v6 else (-1 : Int32))), .val (.long (if v21 < 0 then w7 else (w7 ||| (((v18).toInt64) <<< (((8 : Int32) * v2).toInt64 &&& 63))))), .second, .val (.long (if v21 < 0 then w9 else (w9 ||| (((v19).toInt64) <<< (((8 : Int32) * v2).toInt64 &&& 63))))), .second, .val (.long (if v21 < 0 then w11 else (w11 ||| (((v20).toInt64) <<< (((8 : Int32) * v2).toInt64 &&& 63))))), .second, .val (.int (v13 + (4 : Int32))), .unset, .unset, .unset, .unset, .val (.int v18), .val (.int v19), .val (.int v20), .val (.int v21), .val (.int (if v3 = 0 then v18 else ((v3 / (R_L_gcd   v3 v18)) * v18))), .val (.int (if v20 < (1 : Int32) then (-1 : Int32) else (if v20 < v19 then (-1 : Int32) else (if v2 = (4 : Int32) then (-2 : Int32) else (if (60 : Int32) < (if v3 = 0 then v18 else ((v3 / (R_L_gcd   v3 v18)) * v18)) then (-3 : Int32) else v2)))))]) rfl ?_
                      refine Wk.goto o_L_law_548 ?_
                      refine Wk.forget [false, false, false, false, false, false, false, false, false, false, false, false, false, false, false, false, false, false, true, true, true, true, true, true] (L' := [.val (.ref 0), .val (.ref 1), .val (.int (if v21 < 0 then v2 else (v2 + (1 : Int32)))), .val (.int (if v21 < 0 then v3 else (if v3 = 0 then v18 else ((v3 / (R_L_gcd   v3 v18)) * v18)))), .val (.int (if v21 < 0 then v4 else (0 : Int32))), .val (.int (if v21 < 0 then v5 else (0 : Int32))), .val (.int (if v21 < 0 then v6 else (-1 : Int32))), .val (.long (if v21 < 0 then w7 else (w7 ||| (((v18).toInt64) <<< (((8 : Int32) * v2).toInt64 &&& 63))))), .second, .val (.long (if v21 < 0 then w9 else (w9 ||| (((v19).toInt64) <<< (((8 : Int32) * v2).toInt64 &&& 63))))), .second, .val (.long (if v21 < 0 then w11 else (w11 ||| (((v20).toInt64) <<< (((8 : Int32) * v2).toInt64 &&& 63))))), .second, .val (.int (v13 + (4 : Int32))), .unset, .unset, .unset, .unset, .unset, .unset, .unset, .unset, .unset, .unset]) rfl rfl ?_
                      exact (h26 q13 q16 q18 q20 q21 q23 q25)
                    · refine Wk.iconst o_L_law_543 (z := (0 : Int32)) (by decide) ?_
                      exact Wk.zreturn mrL rfl o_L_law_544 rfl (by decide) (by decide) (y := (0 : Int32)) (by decide) (h27 q13 q16 q18 q20 q21 q23 q25)
                  · refine Wk.iconst o_L_law_524 (z := (0 : Int32)) (by decide) ?_
                    exact Wk.zreturn mrL rfl o_L_law_525 rfl (by decide) (by decide) (y := (0 : Int32)) (by decide) (h28 q13 q16 q18 q20 q21 q23)
              · refine Wk.iconst o_L_law_504 (z := (0 : Int32)) (by decide) ?_
                exact Wk.zreturn mrL rfl o_L_law_505 rfl (by decide) (by decide) (y := (0 : Int32)) (by decide) (h29 q13 q16 q18 q20)
        refine Wk.if_lt o_L_law_204 (fun q14 => ?_) (fun q14 => ?_)
        · first | (rw [show ((if v21 < 0 then v2 else (v2 + (1 : Int32))) : Int32) = v2 from if_pos q14, show ((if v21 < 0 then v3 else (if v3 = 0 then v18 else ((v3 / (R_L_gcd   v3 v18)) * v18))) : Int32) = v3 from if_pos q14, show ((if v21 < 0 then v4 else (0 : Int32)) : Int32) = v4 from if_pos q14, show ((if v21 < 0 then v5 else (0 : Int32)) : Int32) = v5 from if_pos q14, show ((if v21 < 0 then v6 else (-1 : Int32)) : Int32) = v6 from if_pos q14, show ((if v21 < 0 then w7 else (w7 ||| (((v18).toInt64) <<< (((8 : Int32) * v2).toInt64 &&& 63)))) : Int64) = w7 from if_pos q14, show ((if v21 < 0 then w9 else (w9 ||| (((v19).toInt64) <<< (((8 : Int32) * v2).toInt64 &&& 63)))) : Int64) = w9 from if_pos q14, show ((if v21 < 0 then w11 else (w11 ||| (((v20).toInt64) <<< (((8 : Int32) * v2).toInt64 &&& 63)))) : Int64) = w11 from if_pos q14] at J15; exact J15) | exact J15 | (simp only [if_pos q14] at J15 ⊢; exact J15)
        · refine Wk.lload o_L_law_207 rfl ?_
          refine Wk.iload o_L_law_209 rfl ?_
          refine Wk.i2l o_L_law_211 ?_
          refine Wk.bipush o_L_law_212 (z := (8 : Int32)) (by decide) ?_
          refine Wk.iloadN o_L_law_214 rfl ?_
          refine Wk.imul o_L_law_215 ?_
          refine Wk.lshl o_L_law_216 ?_
          refine Wk.lor o_L_law_217 ?_
          refine Wk.forget [false, false, false, false, false, false, false, true, true, false, false, false, false, false, false, false, false, false, false, false, false, false, false, false] (L' := [.val (.ref 0), .val (.ref 1), .val (.int v2), .val (.int v3), .val (.int v4), .val (.int v5), .val (.int v6), .unset, .unset, .val (.long w9), .second, .val (.long w11), .second, .val (.int v13), .unset, .unset, .unset, .unset, .val (.int v18), .val (.int v19), .val (.int v20), .val (.int v21), .val (.int (if v3 = 0 then v18 else ((v3 / (R_L_gcd   v3 v18)) * v18))), .val (.int (if v20 < (1 : Int32) then (-1 : Int32) else (if v20 < v19 then (-1 : Int32) else (if v2 = (4 : Int32) then (-2 : Int32) else (if (60 : Int32) < (if v3 = 0 then v18 else ((v3 / (R_L_gcd   v3 v18)) * v18)) then (-3 : Int32) else v2)))))]) rfl rfl ?_
          refine Wk.lstore o_L_law_218 (Or.inl rfl) (Or.inl rfl) (L' := [.val (.ref 0), .val (.ref 1), .val (.int v2), .val (.int v3), .val (.int v4), .val (.int v5), .val (.int v6), .val (.long (w7 ||| (((v18).toInt64) <<< (((8 : Int32) * v2).toInt64 &&& 63)))), .second, .val (.long w9), .second, .val (.long w11), .second, .val (.int v13), .unset, .unset, .unset, .unset, .val (.int v18), .val (.int v19), .val (.int v20), .val (.int v21), .val (.int (if v3 = 0 then v18 else ((v3 / (R_L_gcd   v3 v18)) * v18))), .val (.int (if v20 < (1 : Int32) then (-1 : Int32) else (if v20 < v19 then (-1 : Int32) else (if v2 = (4 : Int32) then (-2 : Int32) else (if (60 : Int32) < (if v3 = 0 then v18 else ((v3 / (R_L_gcd   v3 v18)) * v18)) then (-3 : Int32) else v2)))))]) rfl ?_
          refine Wk.lload o_L_law_220 rfl ?_
          refine Wk.iload o_L_law_222 rfl ?_
          refine Wk.i2l o_L_law_224 ?_
          refine Wk.bipush o_L_law_225 (z := (8 : Int32)) (by decide) ?_
          refine Wk.iloadN o_L_law_227 rfl ?_
          refine Wk.imul o_L_law_228 ?_
          refine Wk.lshl o_L_law_229 ?_
          refine Wk.lor o_L_law_230 ?_
          refine Wk.forget [false, false, false, false, false, false, false, false, false, true, true, false, false, false, false, false, false, false, false, false, false, false, false, false] (L' := [.val (.ref 0), .val (.ref 1), .val (.int v2), .val (.int v3), .val (.int v4), .val (.int v5), .val (.int v6), .val (.long (w7 ||| (((v18).toInt64) <<< (((8 : Int32) * v2).toInt64 &&& 63)))), .second, .unset, .unset, .val (.long w11), .second, .val (.int v13), .unset, .unset, .unset, .unset, .val (.int v18), .val (.int v19), .val (.int v20), .val (.int v21), .val (.int (if v3 = 0 then v18 else ((v3 / (R_L_gcd   v3 v18)) * v18))), .val (.int (if v20 < (1 : Int32) then (-1 : Int32) else (if v20 < v19 then (-1 : Int32) else (if v2 = (4 : Int32) then (-2 : Int32) else (if (60 : Int32) < (if v3 = 0 then v18 else ((v3 / (R_L_gcd   v3 v18)) * v18)) then (-3 : Int32) else v2)))))]) rfl rfl ?_
          refine Wk.lstore o_L_law_231 (Or.inl rfl) (Or.inl rfl) (L' := [.val (.ref 0), .val (.ref 1), .val (.int v2), .val (.int v3), .val (.int v4), .val (.int v5), .val (.int v6), .val (.long (w7 ||| (((v18).toInt64) <<< (((8 : Int32) * v2).toInt64 &&& 63)))), .second, .val (.long (w9 ||| (((v19).toInt64) <<< (((8 : Int32) * v2).toInt64 &&& 63)))), .second, .val (.long w11), .second, .val (.int v13), .unset, .unset, .unset, .unset, .val (.int v18), .val (.int v19), .val (.int v20), .val (.int v21), .val (.int (if v3 = 0 then v18 else ((v3 / (R_L_gcd   v3 v18)) * v18))), .val (.int (if v20 < (1 : Int32) then (-1 : Int32) else (if v20 < v19 then (-1 : Int32) else (if v2 = (4 : Int32) then (-2 : Int32) else (if (60 : Int32) < (if v3 = 0 then v18 else ((v3 / (R_L_gcd   v3 v18)) * v18)) then (-3 : Int32) else v2)))))]) rfl ?_
          refine Wk.lload o_L_law_233 rfl ?_
          refine Wk.iload o_L_law_235 rfl ?_
          refine Wk.i2l o_L_law_237 ?_
          refine Wk.bipush o_L_law_238 (z := (8 : Int32)) (by decide) ?_
          refine Wk.iloadN o_L_law_240 rfl ?_
          refine Wk.imul o_L_law_241 ?_
          refine Wk.lshl o_L_law_242 ?_
          refine Wk.lor o_L_law_243 ?_
          refine Wk.forget [false, false, false, false, false, false, false, false, false, false, false, true, true, false, false, false, false, false, false, false, false, false, false, false] (L' := [.val (.ref 0), .val (.ref 1), .val (.int v2), .val (.int v3), .val (.int v4), .val (.int v5), .val (.int v6), .val (.long (w7 ||| (((v18).toInt64) <<< (((8 : Int32) * v2).toInt64 &&& 63)))), .second, .val (.long (w9 ||| (((v19).toInt64) <<< (((8 : Int32) * v2).toInt64 &&& 63)))), .second, .unset, .unset, .val (.int v13), .unset, .unset, .unset, .unset, .val (.int v18), .val (.int v19), .val (.int v20), .val (.int v21), .val (.int (if v3 = 0 then v18 else ((v3 / (R_L_gcd   v3 v18)) * v18))), .val (.int (if v20 < (1 : Int32) then (-1 : Int32) else (if v20 < v19 then (-1 : Int32) else (if v2 = (4 : Int32) then (-2 : Int32) else (if (60 : Int32) < (if v3 = 0 then v18 else ((v3 / (R_L_gcd   v3 v18)) * v18)) then (-3 : Int32) else v2)))))]) rfl rfl ?_
          refine Wk.lstore o_L_law_244 (Or.inl rfl) (Or.inl rfl) (L' := [.val (.ref 0), .val (.ref 1), .val (.int v2), .val (.int v3), .val (.int v4), .val (.int v5), .val (.int v6), .val (.long (w7 ||| (((v18).toInt64) <<< (((8 : Int32) * v2).toInt64 &&& 63)))), .second, .val (.long (w9 ||| (((v19).toInt64) <<< (((8 : Int32) * v2).toInt64 &&& 63)))), .second, .val (.long (w11 ||| (((v20).toInt64) <<< (((8 : Int32) * v2).toInt64 &&& 63)))), .second, .val (.int v13), .unset, .unset, .unset, .unset, .val (.int v18), .val (.int v19), .val (.int v20), .val (.int v21), .val (.int (if v3 = 0 then v18 else ((v3 / (R_L_gcd   v3 v18)) * v18))), .val (.int (if v20 < (1 : Int32) then (-1 : Int32) else (if v20 < v19 then (-1 : Int32) else (if v2 = (4 : Int32) then (-2 : Int32) else (if (60 : Int32) < (if v3 = 0 then v18 else ((v3 / (R_L_gcd   v3 v18)) * v18)) then (-3 : Int32) else v2)))))]) rfl ?_
          refine Wk.iinc o_L_law_246 rfl (z := (v2 + (1 : Int32))) rfl (L' := [.val (.ref 0), .val (.ref 1), .val (.int (v2 + (1 : Int32))), .val (.int v3), .val (.int v4), .val (.int v5), .val (.int v6), .val (.long (w7 ||| (((v18).toInt64) <<< (((8 : Int32) * v2).toInt64 &&& 63)))), .second, .val (.long (w9 ||| (((v19).toInt64) <<< (((8 : Int32) * v2).toInt64 &&& 63)))), .second, .val (.long (w11 ||| (((v20).toInt64) <<< (((8 : Int32) * v2).toInt64 &&& 63)))), .second, .val (.int v13), .unset, .unset, .unset, .unset, .val (.int v18), .val (.int v19), .val (.int v20), .val (.int v21), .val (.int (if v3 = 0 then v18 else ((v3 / (R_L_gcd   v3 v18)) * v18))), .val (.int (if v20 < (1 : Int32) then (-1 : Int32) else (if v20 < v19 then (-1 : Int32) else (if v2 = (4 : Int32) then (-2 : Int32) else (if (60 : Int32) < (if v3 = 0 then v18 else ((v3 / (R_L_gcd   v3 v18)) * v18)) then (-3 : Int32) else v2)))))]) rfl ?_
          refine Wk.iload o_L_law_249 rfl ?_
          refine Wk.istoreN o_L_law_251 (Or.inr ⟨_, rfl, rfl⟩) (L' := [.val (.ref 0), .val (.ref 1), .val (.int (v2 + (1 : Int32))), .val (.int (if v3 = 0 then v18 else ((v3 / (R_L_gcd   v3 v18)) * v18))), .val (.int v4), .val (.int v5), .val (.int v6), .val (.long (w7 ||| (((v18).toInt64) <<< (((8 : Int32) * v2).toInt64 &&& 63)))), .second, .val (.long (w9 ||| (((v19).toInt64) <<< (((8 : Int32) * v2).toInt64 &&& 63)))), .second, .val (.long (w11 ||| (((v20).toInt64) <<< (((8 : Int32) * v2).toInt64 &&& 63)))), .second, .val (.int v13), .unset, .unset, .unset, .unset, .val (.int v18), .val (.int v19), .val (.int v20), .val (.int v21), .val (.int (if v3 = 0 then v18 else ((v3 / (R_L_gcd   v3 v18)) * v18))), .val (.int (if v20 < (1 : Int32) then (-1 : Int32) else (if v20 < v19 then (-1 : Int32) else (if v2 = (4 : Int32) then (-2 : Int32) else (if (60 : Int32) < (if v3 = 0 then v18 else ((v3 / (R_L_gcd   v3 v18)) * v18)) then (-3 : Int32) else v2)))))]) rfl ?_
          refine Wk.iconst o_L_law_252 (z := (0 : Int32)) (by decide) ?_
          refine Wk.istore o_L_law_253 (Or.inr ⟨_, rfl, rfl⟩) (L' := [.val (.ref 0), .val (.ref 1), .val (.int (v2 + (1 : Int32))), .val (.int (if v3 = 0 then v18 else ((v3 / (R_L_gcd   v3 v18)) * v18))), .val (.int (0 : Int32)), .val (.int v5), .val (.int v6), .val (.long (w7 ||| (((v18).toInt64) <<< (((8 : Int32) * v2).toInt64 &&& 63)))), .second, .val (.long (w9 ||| (((v19).toInt64) <<< (((8 : Int32) * v2).toInt64 &&& 63)))), .second, .val (.long (w11 ||| (((v20).toInt64) <<< (((8 : Int32) * v2).toInt64 &&& 63)))), .second, .val (.int v13), .unset, .unset, .unset, .unset, .val (.int v18), .val (.int v19), .val (.int v20), .val (.int v21), .val (.int (if v3 = 0 then v18 else ((v3 / (R_L_gcd   v3 v18)) * v18))), .val (.int (if v20 < (1 : Int32) then (-1 : Int32) else (if v20 < v19 then (-1 : Int32) else (if v2 = (4 : Int32) then (-2 : Int32) else (if (60 : Int32) < (if v3 = 0 then v18 else ((v3 / (R_L_gcd   v3 v18)) * v18)) then (-3 : Int32) else v2)))))]) rfl ?_
          refine Wk.iconst o_L_law_255 (z := (0 : Int32)) (by decide) ?_
          refine Wk.istore o_L_law_256 (Or.inr ⟨_, rfl, rfl⟩) (L' := [.val (.ref 0), .val (.ref 1), .val (.int (v2 + (1 : Int32))), .val (.int (if v3 = 0 then v18 else ((v3 / (R_L_gcd   v3 v18)) * v18))), .val (.int (0 : Int32)), .val (.int (0 : Int32)), .val (.int v6), .val (.long (w7 ||| (((v18).toInt64) <<< (((8 : Int32) * v2).toInt64 &&& 63)))), .second, .val (.long (w9 ||| (((v19).toInt64) <<< (((8 : Int32) * v2).toInt64 &&& 63)))), .second, .val (.long (w11 ||| (((v20).toInt64) <<< (((8 : Int32) * v2).toInt64 &&& 63)))), .second, .val (.int v13), .unset, .unset, .unset, .unset, .val (.int v18), .val (.int v19), .val (.int v20), .val (.int v21), .val (.int (if v3 = 0 then v18 else ((v3 / (R_L_gcd   v3 v18)) * v18))), .val (.int (if v20 < (1 : Int32) then (-1 : Int32) else (if v20 < v19 then (-1 : Int32) else (if v2 = (4 : Int32) then (-2 : Int32) else (if (60 : Int32) < (if v3 = 0 then v18 else ((v3 / (R_L_gcd   v3 v18)) * v18)) then (-3 : Int32) else v2)))))]) rfl ?_
          refine Wk.iconst o_L_law_258 (z := (-1 : Int32)) (by decide) ?_
          refine Wk.istore o_L_law_259 (Or.inr ⟨_, rfl, rfl⟩) (L' := [.val (.ref 0), .val (.ref 1), .val (.int (v2 + (1 : Int32))), .val (.int (if v3 = 0 then v18 else ((v3 / (R_L_gcd   v3 v18)) * v18))), .val (.int (0 : Int32)), .val (.int (0 : Int32)), .val (.int (-1 : Int32)), .val (.long (w7 ||| (((v18).toInt64) <<< (((8 : Int32) * v2).toInt64 &&& 63)))), .second, .val (.long (w9 ||| (((v19).toInt64) <<< (((8 : Int32) * v2).toInt64 &&& 63)))), .second, .val (.long (w11 ||| (((v20).toInt64) <<< (((8 : Int32) * v2).toInt64 &&& 63)))), .second, .val (.int v13), .unset, .unset, .unset, .unset, .val (.int v18), .val (.int v19), .val (.int v20), .val (.int v21), .val (.int (if v3 = 0 then v18 else ((v3 / (R_L_gcd   v3 v18)) * v18))), .val (.int (if v20 < (1 : Int32) then (-1 : Int32) else (if v20 < v19 then (-1 : Int32) else (if v2 = (4 : Int32) then (-2 : Int32) else (if (60 : Int32) < (if v3 = 0 then v18 else ((v3 / (R_L_gcd   v3 v18)) * v18)) then (-3 : Int32) else v2)))))]) rfl ?_
          first | (rw [show ((if v21 < 0 then v2 else (v2 + (1 : Int32))) : Int32) = (v2 + (1 : Int32)) from if_neg q14, show ((if v21 < 0 then v3 else (if v3 = 0 then v18 else ((v3 / (R_L_gcd   v3 v18)) * v18))) : Int32) = (if v3 = 0 then v18 else ((v3 / (R_L_gcd   v3 v18)) * v18)) from if_neg q14, show ((if v21 < 0 then v4 else (0 : Int32)) : Int32) = (0 : Int32) from if_neg q14, show ((if v21 < 0 then v5 else (0 : Int32)) : Int32) = (0 : Int32) from if_neg q14, show ((if v21 < 0 then v6 else (-1 : Int32)) : Int32) = (-1 : Int32) from if_neg q14, show ((if v21 < 0 then w7 else (w7 ||| (((v18).toInt64) <<< (((8 : Int32) * v2).toInt64 &&& 63)))) : Int64) = (w7 ||| (((v18).toInt64) <<< (((8 : Int32) * v2).toInt64 &&& 63))) from if_neg q14, show ((if v21 < 0 then w9 else (w9 ||| (((v19).toInt64) <<< (((8 : Int32) * v2).toInt64 &&& 63)))) : Int64) = (w9 ||| (((v19).toInt64) <<< (((8 : Int32) * v2).toInt64 &&& 63))) from if_neg q14, show ((if v21 < 0 then w11 else (w11 ||| (((v20).toInt64) <<< (((8 : Int32) * v2).toInt64 &&& 63)))) : Int64) = (w11 ||| (((v20).toInt64) <<< (((8 : Int32) * v2).toInt64 &&& 63))) from if_neg q14] at J15; exact J15) | exact J15 | (simp only [if_neg q14] at J15 ⊢; exact J15)
      · refine Wk.iconst o_L_law_200 (z := (0 : Int32)) (by decide) ?_
        exact Wk.zreturn mrL rfl o_L_law_201 rfl (by decide) (by decide) (y := (0 : Int32)) (by decide) (h30 q13)
    refine Wk.icmp_lt o_L_law_154 (fun q5 => ?_) (fun q5 => ?_)
    · refine Wk.iconst o_L_law_164 (z := (-1 : Int32)) (by decide) ?_
      refine Wk.goto o_L_law_165 ?_
      first | (rw [show ((if v20 < (1 : Int32) then (-1 : Int32) else (if v20 < v19 then (-1 : Int32) else (if v2 = (4 : Int32) then (-2 : Int32) else (if (60 : Int32) < (if v3 = 0 then v18 else ((v3 / (R_L_gcd   v3 v18)) * v18)) then (-3 : Int32) else v2)))) : Int32) = (-1 : Int32) from if_pos q5] at J12; exact J12) | exact J12 | (simp only [if_pos q5] at J12 ⊢; exact J12)
    · refine Wk.iload o_L_law_157 rfl ?_
      refine Wk.iload o_L_law_159 rfl ?_
      refine Wk.icmp_le o_L_law_161 (fun q6 => ?_) (fun q6 => ?_)
      · refine Wk.iloadN o_L_law_168 rfl ?_
        refine Wk.iconst o_L_law_169 (z := (4 : Int32)) (by decide) ?_
        refine Wk.icmp_ne o_L_law_170 (fun q7 => ?_) (fun q7 => ?_)
        · refine Wk.iload o_L_law_178 rfl ?_
          refine Wk.bipush o_L_law_180 (z := (60 : Int32)) (by decide) ?_
          refine Wk.icmp_le o_L_law_182 (fun q8 => ?_) (fun q8 => ?_)
          · refine Wk.iloadN o_L_law_190 rfl ?_
            first | (rw [show ((if v20 < (1 : Int32) then (-1 : Int32) else (if v20 < v19 then (-1 : Int32) else (if v2 = (4 : Int32) then (-2 : Int32) else (if (60 : Int32) < (if v3 = 0 then v18 else ((v3 / (R_L_gcd   v3 v18)) * v18)) then (-3 : Int32) else v2)))) : Int32) = v2 from Eq.trans (if_neg q5) <| Eq.trans (if_neg q6) <| Eq.trans (if_neg q7) <| if_neg q8] at J12; exact J12) | exact J12 | (simp only [if_neg q5, if_neg q6, if_neg q7, if_neg q8] at J12 ⊢; exact J12)
          · refine Wk.bipush o_L_law_185 (z := (-3 : Int32)) (by decide) ?_
            refine Wk.goto o_L_law_187 ?_
            first | (rw [show ((if v20 < (1 : Int32) then (-1 : Int32) else (if v20 < v19 then (-1 : Int32) else (if v2 = (4 : Int32) then (-2 : Int32) else (if (60 : Int32) < (if v3 = 0 then v18 else ((v3 / (R_L_gcd   v3 v18)) * v18)) then (-3 : Int32) else v2)))) : Int32) = (-3 : Int32) from Eq.trans (if_neg q5) <| Eq.trans (if_neg q6) <| Eq.trans (if_neg q7) <| if_pos q8] at J12; exact J12) | exact J12 | (simp only [if_neg q5, if_neg q6, if_neg q7, if_pos q8] at J12 ⊢; exact J12)
        · refine Wk.bipush o_L_law_173 (z := (-2 : Int32)) (by decide) ?_
          refine Wk.goto o_L_law_175 ?_
          first | (rw [show ((if v20 < (1 : Int32) then (-1 : Int32) else (if v20 < v19 then (-1 : Int32) else (if v2 = (4 : Int32) then (-2 : Int32) else (if (60 : Int32) < (if v3 = 0 then v18 else ((v3 / (R_L_gcd   v3 v18)) * v18)) then (-3 : Int32) else v2)))) : Int32) = (-2 : Int32) from Eq.trans (if_neg q5) <| Eq.trans (if_neg q6) <| if_pos q7] at J12; exact J12) | exact J12 | (simp only [if_neg q5, if_neg q6, if_pos q7] at J12 ⊢; exact J12)
      · refine Wk.iconst o_L_law_164 (z := (-1 : Int32)) (by decide) ?_
        refine Wk.goto o_L_law_165 ?_
        first | (rw [show ((if v20 < (1 : Int32) then (-1 : Int32) else (if v20 < v19 then (-1 : Int32) else (if v2 = (4 : Int32) then (-2 : Int32) else (if (60 : Int32) < (if v3 = 0 then v18 else ((v3 / (R_L_gcd   v3 v18)) * v18)) then (-3 : Int32) else v2)))) : Int32) = (-1 : Int32) from Eq.trans (if_neg q5) <| if_pos q6] at J12; exact J12) | exact J12 | (simp only [if_neg q5, if_pos q6] at J12 ⊢; exact J12)
  refine Wk.if_ne o_L_law_130 (fun q1 => ?_) (fun q1 => ?_)
  · refine Wk.iloadN o_L_law_138 rfl ?_
    refine Wk.iloadN o_L_law_139 rfl ?_
    refine Wk.iload o_L_law_140 rfl ?_
    refine Wk.callSF mtL [.int v3, .int v18] [.int v3] (H.w 102 rfl) (cv_L_gcd H) o_L_law_142 (run_L_gcd H sl sv F1 G1 A1 B1 v3 v18 (s2 q1)) (wt := 1) (cu' := 8) (su' := 1328) (by decide) rfl rfl rfl rfl rfl rfl ?_
    refine Wk.idiv o_L_law_145 (s3 q1) ?_
    refine Wk.iload o_L_law_146 rfl ?_
    refine Wk.imul o_L_law_148 ?_
    first | (rw [show ((if v3 = 0 then v18 else ((v3 / (R_L_gcd   v3 v18)) * v18)) : Int32) = ((v3 / (R_L_gcd   v3 v18)) * v18) from if_neg q1] at J4; exact J4) | exact J4 | (simp only [if_neg q1] at J4 ⊢; exact J4)
  · refine Wk.iload o_L_law_133 rfl ?_
    refine Wk.goto o_L_law_135 ?_
    first | (rw [show ((if v3 = 0 then v18 else ((v3 / (R_L_gcd   v3 v18)) * v18)) : Int32) = v18 from if_pos q1] at J4; exact J4) | exact J4 | (simp only [if_pos q1] at J4 ⊢; exact J4)

theorem rt_law {v r : Int32} (e : v = r) : some (Value.int v) = some (Value.int r) := by rw [e]
def lp_L_law : Nat → Nat → (Int32) → (Int32 → Int32) → Int32 → Int32 → Int32 → Int32 → Int32 → Int64 → Int64 → Int64 → Int32 → Int32 → Int32 → Int32 → Int32 → (Nat → Int32) → (Nat → Int32 → Int32) → Option (Int32)
  | 0, _, _, _, _, _, _, _, _, _, _, _, _, _, _, _, _, _, _ => none
  | n + 1, tag, sl, sv, v2, v3, v4, v5, v6, w7, w9, w11, v13, v18, v19, v20, v21, F1, A1 => if tag = 11 then lp_L_law n 36 sl sv (0 : Int32) (0 : Int32) (0 : Int32) (0 : Int32) (-1 : Int32) (0 : Int64) (0 : Int64) (0 : Int64) (0 : Int32) 0 0 0 0 F1 A1 else if tag = 36 then (if (v13 + (3 : Int32)) < sl then (if v13 < (400 : Int32) then (if (¬ v13 < 0) ∧ (v13 < sl) ∧ (¬ (v13 + (1 : Int32)) < 0) ∧ ((v13 + (1 : Int32)) < sl) ∧ (¬ (v13 + (2 : Int32)) < 0) ∧ ((v13 + (2 : Int32)) < sl) ∧ (¬ (v13 + (3 : Int32)) < 0) then (if (1 : Int32) < ((sv v13) &&& (3 : Int32)) then (if ((sv v13) &&& (3 : Int32)) = (2 : Int32) then (if ((en_build F1 A1 (((sv (v13 + (1 : Int32))) &&& (7 : Int32)) + (1 : Int32))).isSome = true) then lp_L_law n 287 sl sv v2 v3 v4 v5 v6 w7 w9 w11 v13 (((sv (v13 + (1 : Int32))) &&& (7 : Int32)) + (1 : Int32)) (R_build F1 A1 (((sv (v13 + (1 : Int32))) &&& (7 : Int32)) + (1 : Int32))).1 0 0 (R_build F1 A1 (((sv (v13 + (1 : Int32))) &&& (7 : Int32)) + (1 : Int32))).2.1 (R_build F1 A1 (((sv (v13 + (1 : Int32))) &&& (7 : Int32)) + (1 : Int32))).2.2 else none) else (if ((en_run F1 A1 (((sv (v13 + (1 : Int32))) &&& (63 : Int32)) - (2 : Int32))).isSome = true) then lp_L_law n 444 sl sv v2 v3 v4 v5 v6 w7 w9 w11 v13 (((sv (v13 + (1 : Int32))) &&& (63 : Int32)) - (2 : Int32)) (R_run F1 A1 (((sv (v13 + (1 : Int32))) &&& (63 : Int32)) - (2 : Int32))).1 0 0 (R_run F1 A1 (((sv (v13 + (1 : Int32))) &&& (63 : Int32)) - (2 : Int32))).2.1 (R_run F1 A1 (((sv (v13 + (1 : Int32))) &&& (63 : Int32)) - (2 : Int32))).2.2 else none)) else (if ((en_addTask F1 A1 (((sv (v13 + (1 : Int32))) &&& (7 : Int32)) + (1 : Int32)) (((sv (v13 + (2 : Int32))) &&& (3 : Int32)) + (1 : Int32)) ((((sv (v13 + (1 : Int32))) &&& (7 : Int32)) + (1 : Int32)) - ((sv (v13 + (3 : Int32))) &&& (1 : Int32)))).isSome = true) then lp_L_law n 129 sl sv v2 v3 v4 v5 v6 w7 w9 w11 v13 (((sv (v13 + (1 : Int32))) &&& (7 : Int32)) + (1 : Int32)) (((sv (v13 + (2 : Int32))) &&& (3 : Int32)) + (1 : Int32)) ((((sv (v13 + (1 : Int32))) &&& (7 : Int32)) + (1 : Int32)) - ((sv (v13 + (3 : Int32))) &&& (1 : Int32))) (R_addTask F1 A1 (((sv (v13 + (1 : Int32))) &&& (7 : Int32)) + (1 : Int32)) (((sv (v13 + (2 : Int32))) &&& (3 : Int32)) + (1 : Int32)) ((((sv (v13 + (1 : Int32))) &&& (7 : Int32)) + (1 : Int32)) - ((sv (v13 + (3 : Int32))) &&& (1 : Int32)))).1 (R_addTask F1 A1 (((sv (v13 + (1 : Int32))) &&& (7 : Int32)) + (1 : Int32)) (((sv (v13 + (2 : Int32))) &&& (3 : Int32)) + (1 : Int32)) ((((sv (v13 + (1 : Int32))) &&& (7 : Int32)) + (1 : Int32)) - ((sv (v13 + (3 : Int32))) &&& (1 : Int32)))).2.1 (R_addTask F1 A1 (((sv (v13 + (1 : Int32))) &&& (7 : Int32)) + (1 : Int32)) (((sv (v13 + (2 : Int32))) &&& (3 : Int32)) + (1 : Int32)) ((((sv (v13 + (1 : Int32))) &&& (7 : Int32)) + (1 : Int32)) - ((sv (v13 + (3 : Int32))) &&& (1 : Int32)))).2.2 else none)) else none) else some ((1 : Int32))) else some ((1 : Int32))) else if tag = 287 then (if v2 = 0 then (if v19 = (-4 : Int32) then (if (f_getTaskCount F1) = v2 then (if (f_getHyperperiod F1) = v3 then (if (f_getFrame F1) = v4 then (if (f_getNow F1) = v5 then (if (f_getMiss F1) = v6 then (if ((en_L_runsOk  F1 A1 v2 v3 v4 v5 w7 w9).isSome = true) then (if (R_L_runsOk  F1 A1 v2 v3 v4 v5 w7 w9) = 0 then some ((0 : Int32)) else lp_L_law n 36 sl sv v2 v3 v4 v5 v6 w7 w9 w11 (v13 + (4 : Int32)) 0 0 0 0 F1 A1) else none) else some ((0 : Int32))) else some ((0 : Int32))) else some ((0 : Int32))) else some ((0 : Int32))) else some ((0 : Int32))) else some ((0 : Int32))) else (if v3 < v18 then (if v19 = (-5 : Int32) then (if (f_getTaskCount F1) = v2 then (if (f_getHyperperiod F1) = v3 then (if (f_getFrame F1) = v4 then (if (f_getNow F1) = v5 then (if (f_getMiss F1) = v6 then (if ((en_L_runsOk  F1 A1 v2 v3 v4 v5 w7 w9).isSome = true) then (if (R_L_runsOk  F1 A1 v2 v3 v4 v5 w7 w9) = 0 then some ((0 : Int32)) else lp_L_law n 36 sl sv v2 v3 v4 v5 v6 w7 w9 w11 (v13 + (4 : Int32)) 0 0 0 0 F1 A1) else none) else some ((0 : Int32))) else some ((0 : Int32))) else some ((0 : Int32))) else some ((0 : Int32))) else some ((0 : Int32))) else some ((0 : Int32))) else (if (¬ v18 = (0 : Int32)) then (if (v3 % v18) = 0 then (if ((en_L_deadlineFails   v18 v2 w7 w11).isSome = true) then (if (R_L_deadlineFails   v18 v2 w7 w11) = 0 then (if v19 = 0 then (if (f_getTaskCount F1) = v2 then (if (f_getHyperperiod F1) = v3 then (if (f_getFrame F1) = v18 then (if (f_getNow F1) = (0 : Int32) then (if (f_getMiss F1) = (-1 : Int32) then (if ((en_L_runsOk  F1 A1 v2 v3 v18 (0 : Int32) w7 w9).isSome = true) then (if (R_L_runsOk  F1 A1 v2 v3 v18 (0 : Int32) w7 w9) = 0 then some ((0 : Int32)) else lp_L_law n 36 sl sv v2 v3 v18 (0 : Int32) (-1 : Int32) w7 w9 w11 (v13 + (4 : Int32)) 0 0 0 0 F1 A1) else none) else some ((0 : Int32))) else some ((0 : Int32))) else some ((0 : Int32))) else some ((0 : Int32))) else some ((0 : Int32))) else (if v19 = (-7 : Int32) then (if (f_getMiss F1) < 0 then some ((0 : Int32)) else (if ((f_getMiss F1) / (128 : Int32)) < v2 then (if (¬ (f_L_fld w7 ((f_getMiss F1) / (128 : Int32))) = (0 : Int32)) then (if ((f_getMiss F1) % (128 : Int32)) < (v3 / (f_L_fld w7 ((f_getMiss F1) / (128 : Int32)))) then (if (f_getTaskCount F1) = v2 then (if (f_getHyperperiod F1) = v3 then (if (f_getFrame F1) = (0 : Int32) then (if (f_getNow F1) = (0 : Int32) then (if (f_getMiss F1) = (f_getMiss F1) then (if ((en_L_runsOk  F1 A1 v2 v3 (0 : Int32) (0 : Int32) w7 w9).isSome = true) then (if (R_L_runsOk  F1 A1 v2 v3 (0 : Int32) (0 : Int32) w7 w9) = 0 then some ((0 : Int32)) else lp_L_law n 36 sl sv v2 v3 (0 : Int32) (0 : Int32) (f_getMiss F1) w7 w9 w11 (v13 + (4 : Int32)) 0 0 0 0 F1 A1) else none) else some ((0 : Int32))) else some ((0 : Int32))) else some ((0 : Int32))) else some ((0 : Int32))) else some ((0 : Int32))) else some ((0 : Int32))) else none) else some ((0 : Int32)))) else some ((0 : Int32)))) else (if v19 = (-6 : Int32) then (if (f_getTaskCount F1) = v2 then (if (f_getHyperperiod F1) = v3 then (if (f_getFrame F1) = v4 then (if (f_getNow F1) = v5 then (if (f_getMiss F1) = v6 then (if ((en_L_runsOk  F1 A1 v2 v3 v4 v5 w7 w9).isSome = true) then (if (R_L_runsOk  F1 A1 v2 v3 v4 v5 w7 w9) = 0 then some ((0 : Int32)) else lp_L_law n 36 sl sv v2 v3 v4 v5 v6 w7 w9 w11 (v13 + (4 : Int32)) 0 0 0 0 F1 A1) else none) else some ((0 : Int32))) else some ((0 : Int32))) else some ((0 : Int32))) else some ((0 : Int32))) else some ((0 : Int32))) else some ((0 : Int32)))) else none) else (if v19 = (-5 : Int32) then (if (f_getTaskCount F1) = v2 then (if (f_getHyperperiod F1) = v3 then (if (f_getFrame F1) = v4 then (if (f_getNow F1) = v5 then (if (f_getMiss F1) = v6 then (if ((en_L_runsOk  F1 A1 v2 v3 v4 v5 w7 w9).isSome = true) then (if (R_L_runsOk  F1 A1 v2 v3 v4 v5 w7 w9) = 0 then some ((0 : Int32)) else lp_L_law n 36 sl sv v2 v3 v4 v5 v6 w7 w9 w11 (v13 + (4 : Int32)) 0 0 0 0 F1 A1) else none) else some ((0 : Int32))) else some ((0 : Int32))) else some ((0 : Int32))) else some ((0 : Int32))) else some ((0 : Int32))) else some ((0 : Int32)))) else none))) else if tag = 444 then (if v19 = (if v4 = 0 then (0 : Int32) else (if v18 < (1 : Int32) then (0 : Int32) else v18)) then (if (f_getTaskCount F1) = v2 then (if (f_getHyperperiod F1) = v3 then (if (f_getFrame F1) = v4 then (if (f_getNow F1) = (v5 + (if v4 = 0 then (0 : Int32) else (if v18 < (1 : Int32) then (0 : Int32) else v18))) then (if (f_getMiss F1) = v6 then (if ((en_L_runsOk  F1 A1 v2 v3 v4 (v5 + (if v4 = 0 then (0 : Int32) else (if v18 < (1 : Int32) then (0 : Int32) else v18))) w7 w9).isSome = true) then (if (R_L_runsOk  F1 A1 v2 v3 v4 (v5 + (if v4 = 0 then (0 : Int32) else (if v18 < (1 : Int32) then (0 : Int32) else v18))) w7 w9) = 0 then some ((0 : Int32)) else lp_L_law n 36 sl sv v2 v3 v4 (v5 + (if v4 = 0 then (0 : Int32) else (if v18 < (1 : Int32) then (0 : Int32) else v18))) v6 w7 w9 w11 (v13 + (4 : Int32)) 0 0 0 0 F1 A1) else none) else some ((0 : Int32))) else some ((0 : Int32))) else some ((0 : Int32))) else some ((0 : Int32))) else some ((0 : Int32))) else some ((0 : Int32))) else if tag = 129 then (if (¬ v3 = 0 → (en_L_gcd   v3 v18).isSome = true) ∧ (¬ v3 = 0 → ¬ (R_L_gcd   v3 v18) = (0 : Int32)) then (if v21 = (if v20 < (1 : Int32) then (-1 : Int32) else (if v20 < v19 then (-1 : Int32) else (if v2 = (4 : Int32) then (-2 : Int32) else (if (60 : Int32) < (if v3 = 0 then v18 else ((v3 / (R_L_gcd   v3 v18)) * v18)) then (-3 : Int32) else v2)))) then (if (f_getTaskCount F1) = (if v21 < 0 then v2 else (v2 + (1 : Int32))) then (if (f_getHyperperiod F1) = (if v21 < 0 then v3 else (if v3 = 0 then v18 else ((v3 / (R_L_gcd   v3 v18)) * v18))) then (if (f_getFrame F1) = (if v21 < 0 then v4 else (0 : Int32)) then (if (f_getNow F1) = (if v21 < 0 then v5 else (0 : Int32)) then (if (f_getMiss F1) = (if v21 < 0 then v6 else (-1 : Int32)) then (if ((en_L_runsOk  F1 A1 (if v21 < 0 then v2 else (v2 + (1 : Int32))) (if v21 < 0 then v3 else (if v3 = 0 then v18 else ((v3 / (R_L_gcd   v3 v18)) * v18))) (if v21 < 0 then v4 else (0 : Int32)) (if v21 < 0 then v5 else (0 : Int32)) (if v21 < 0 then w7 else (w7 ||| (((v18).toInt64) <<< (((8 : Int32) * v2).toInt64 &&& 63)))) (if v21 < 0 then w9 else (w9 ||| (((v19).toInt64) <<< (((8 : Int32) * v2).toInt64 &&& 63))))).isSome = true) then (if (R_L_runsOk  F1 A1 (if v21 < 0 then v2 else (v2 + (1 : Int32))) (if v21 < 0 then v3 else (if v3 = 0 then v18 else ((v3 / (R_L_gcd   v3 v18)) * v18))) (if v21 < 0 then v4 else (0 : Int32)) (if v21 < 0 then v5 else (0 : Int32)) (if v21 < 0 then w7 else (w7 ||| (((v18).toInt64) <<< (((8 : Int32) * v2).toInt64 &&& 63)))) (if v21 < 0 then w9 else (w9 ||| (((v19).toInt64) <<< (((8 : Int32) * v2).toInt64 &&& 63))))) = 0 then some ((0 : Int32)) else lp_L_law n 36 sl sv (if v21 < 0 then v2 else (v2 + (1 : Int32))) (if v21 < 0 then v3 else (if v3 = 0 then v18 else ((v3 / (R_L_gcd   v3 v18)) * v18))) (if v21 < 0 then v4 else (0 : Int32)) (if v21 < 0 then v5 else (0 : Int32)) (if v21 < 0 then v6 else (-1 : Int32)) (if v21 < 0 then w7 else (w7 ||| (((v18).toInt64) <<< (((8 : Int32) * v2).toInt64 &&& 63)))) (if v21 < 0 then w9 else (w9 ||| (((v19).toInt64) <<< (((8 : Int32) * v2).toInt64 &&& 63)))) (if v21 < 0 then w11 else (w11 ||| (((v20).toInt64) <<< (((8 : Int32) * v2).toInt64 &&& 63)))) (v13 + (4 : Int32)) 0 0 0 0 F1 A1) else none) else some ((0 : Int32))) else some ((0 : Int32))) else some ((0 : Int32))) else some ((0 : Int32))) else some ((0 : Int32))) else some ((0 : Int32))) else none) else none
theorem lp_L_law_z (tag : Nat) (sl : Int32) (sv : Int32 → Int32) (v2 : Int32) (v3 : Int32) (v4 : Int32) (v5 : Int32) (v6 : Int32) (w7 : Int64) (w9 : Int64) (w11 : Int64) (v13 : Int32) (v18 : Int32) (v19 : Int32) (v20 : Int32) (v21 : Int32) (F1 : Nat → Int32) (A1 : Nat → Int32 → Int32) : lp_L_law 0 tag sl sv v2 v3 v4 v5 v6 w7 w9 w11 v13 v18 v19 v20 v21 F1 A1 = none := Eq.trans rfl rfl
theorem lp_L_law_11 (n : Nat) (sl : Int32) (sv : Int32 → Int32) (v2 : Int32) (v3 : Int32) (v4 : Int32) (v5 : Int32) (v6 : Int32) (w7 : Int64) (w9 : Int64) (w11 : Int64) (v13 : Int32) (v18 : Int32) (v19 : Int32) (v20 : Int32) (v21 : Int32) (F1 : Nat → Int32) (A1 : Nat → Int32 → Int32) : lp_L_law (n + 1) 11 sl sv v2 v3 v4 v5 v6 w7 w9 w11 v13 v18 v19 v20 v21 F1 A1 = lp_L_law n 36 sl sv (0 : Int32) (0 : Int32) (0 : Int32) (0 : Int32) (-1 : Int32) (0 : Int64) (0 : Int64) (0 : Int64) (0 : Int32) 0 0 0 0 F1 A1 := by
  rw [lp_L_law, if_pos rfl]
theorem lp_L_law_36 (n : Nat) (sl : Int32) (sv : Int32 → Int32) (v2 : Int32) (v3 : Int32) (v4 : Int32) (v5 : Int32) (v6 : Int32) (w7 : Int64) (w9 : Int64) (w11 : Int64) (v13 : Int32) (v18 : Int32) (v19 : Int32) (v20 : Int32) (v21 : Int32) (F1 : Nat → Int32) (A1 : Nat → Int32 → Int32) : lp_L_law (n + 1) 36 sl sv v2 v3 v4 v5 v6 w7 w9 w11 v13 v18 v19 v20 v21 F1 A1 = (if (v13 + (3 : Int32)) < sl then (if v13 < (400 : Int32) then (if (¬ v13 < 0) ∧ (v13 < sl) ∧ (¬ (v13 + (1 : Int32)) < 0) ∧ ((v13 + (1 : Int32)) < sl) ∧ (¬ (v13 + (2 : Int32)) < 0) ∧ ((v13 + (2 : Int32)) < sl) ∧ (¬ (v13 + (3 : Int32)) < 0) then (if (1 : Int32) < ((sv v13) &&& (3 : Int32)) then (if ((sv v13) &&& (3 : Int32)) = (2 : Int32) then (if ((en_build F1 A1 (((sv (v13 + (1 : Int32))) &&& (7 : Int32)) + (1 : Int32))).isSome = true) then lp_L_law n 287 sl sv v2 v3 v4 v5 v6 w7 w9 w11 v13 (((sv (v13 + (1 : Int32))) &&& (7 : Int32)) + (1 : Int32)) (R_build F1 A1 (((sv (v13 + (1 : Int32))) &&& (7 : Int32)) + (1 : Int32))).1 0 0 (R_build F1 A1 (((sv (v13 + (1 : Int32))) &&& (7 : Int32)) + (1 : Int32))).2.1 (R_build F1 A1 (((sv (v13 + (1 : Int32))) &&& (7 : Int32)) + (1 : Int32))).2.2 else none) else (if ((en_run F1 A1 (((sv (v13 + (1 : Int32))) &&& (63 : Int32)) - (2 : Int32))).isSome = true) then lp_L_law n 444 sl sv v2 v3 v4 v5 v6 w7 w9 w11 v13 (((sv (v13 + (1 : Int32))) &&& (63 : Int32)) - (2 : Int32)) (R_run F1 A1 (((sv (v13 + (1 : Int32))) &&& (63 : Int32)) - (2 : Int32))).1 0 0 (R_run F1 A1 (((sv (v13 + (1 : Int32))) &&& (63 : Int32)) - (2 : Int32))).2.1 (R_run F1 A1 (((sv (v13 + (1 : Int32))) &&& (63 : Int32)) - (2 : Int32))).2.2 else none)) else (if ((en_addTask F1 A1 (((sv (v13 + (1 : Int32))) &&& (7 : Int32)) + (1 : Int32)) (((sv (v13 + (2 : Int32))) &&& (3 : Int32)) + (1 : Int32)) ((((sv (v13 + (1 : Int32))) &&& (7 : Int32)) + (1 : Int32)) - ((sv (v13 + (3 : Int32))) &&& (1 : Int32)))).isSome = true) then lp_L_law n 129 sl sv v2 v3 v4 v5 v6 w7 w9 w11 v13 (((sv (v13 + (1 : Int32))) &&& (7 : Int32)) + (1 : Int32)) (((sv (v13 + (2 : Int32))) &&& (3 : Int32)) + (1 : Int32)) ((((sv (v13 + (1 : Int32))) &&& (7 : Int32)) + (1 : Int32)) - ((sv (v13 + (3 : Int32))) &&& (1 : Int32))) (R_addTask F1 A1 (((sv (v13 + (1 : Int32))) &&& (7 : Int32)) + (1 : Int32)) (((sv (v13 + (2 : Int32))) &&& (3 : Int32)) + (1 : Int32)) ((((sv (v13 + (1 : Int32))) &&& (7 : Int32)) + (1 : Int32)) - ((sv (v13 + (3 : Int32))) &&& (1 : Int32)))).1 (R_addTask F1 A1 (((sv (v13 + (1 : Int32))) &&& (7 : Int32)) + (1 : Int32)) (((sv (v13 + (2 : Int32))) &&& (3 : Int32)) + (1 : Int32)) ((((sv (v13 + (1 : Int32))) &&& (7 : Int32)) + (1 : Int32)) - ((sv (v13 + (3 : Int32))) &&& (1 : Int32)))).2.1 (R_addTask F1 A1 (((sv (v13 + (1 : Int32))) &&& (7 : Int32)) + (1 : Int32)) (((sv (v13 + (2 : Int32))) &&& (3 : Int32)) + (1 : Int32)) ((((sv (v13 + (1 : Int32))) &&& (7 : Int32)) + (1 : Int32)) - ((sv (v13 + (3 : Int32))) &&& (1 : Int32)))).2.2 else none)) else none) else some ((1 : Int32))) else some ((1 : Int32))) := by
  rw [lp_L_law, if_neg (by decide), if_pos rfl]
theorem lp_L_law_287 (n : Nat) (sl : Int32) (sv : Int32 → Int32) (v2 : Int32) (v3 : Int32) (v4 : Int32) (v5 : Int32) (v6 : Int32) (w7 : Int64) (w9 : Int64) (w11 : Int64) (v13 : Int32) (v18 : Int32) (v19 : Int32) (v20 : Int32) (v21 : Int32) (F1 : Nat → Int32) (A1 : Nat → Int32 → Int32) : lp_L_law (n + 1) 287 sl sv v2 v3 v4 v5 v6 w7 w9 w11 v13 v18 v19 v20 v21 F1 A1 = (if v2 = 0 then (if v19 = (-4 : Int32) then (if (f_getTaskCount F1) = v2 then (if (f_getHyperperiod F1) = v3 then (if (f_getFrame F1) = v4 then (if (f_getNow F1) = v5 then (if (f_getMiss F1) = v6 then (if ((en_L_runsOk  F1 A1 v2 v3 v4 v5 w7 w9).isSome = true) then (if (R_L_runsOk  F1 A1 v2 v3 v4 v5 w7 w9) = 0 then some ((0 : Int32)) else lp_L_law n 36 sl sv v2 v3 v4 v5 v6 w7 w9 w11 (v13 + (4 : Int32)) 0 0 0 0 F1 A1) else none) else some ((0 : Int32))) else some ((0 : Int32))) else some ((0 : Int32))) else some ((0 : Int32))) else some ((0 : Int32))) else some ((0 : Int32))) else (if v3 < v18 then (if v19 = (-5 : Int32) then (if (f_getTaskCount F1) = v2 then (if (f_getHyperperiod F1) = v3 then (if (f_getFrame F1) = v4 then (if (f_getNow F1) = v5 then (if (f_getMiss F1) = v6 then (if ((en_L_runsOk  F1 A1 v2 v3 v4 v5 w7 w9).isSome = true) then (if (R_L_runsOk  F1 A1 v2 v3 v4 v5 w7 w9) = 0 then some ((0 : Int32)) else lp_L_law n 36 sl sv v2 v3 v4 v5 v6 w7 w9 w11 (v13 + (4 : Int32)) 0 0 0 0 F1 A1) else none) else some ((0 : Int32))) else some ((0 : Int32))) else some ((0 : Int32))) else some ((0 : Int32))) else some ((0 : Int32))) else some ((0 : Int32))) else (if (¬ v18 = (0 : Int32)) then (if (v3 % v18) = 0 then (if ((en_L_deadlineFails   v18 v2 w7 w11).isSome = true) then (if (R_L_deadlineFails   v18 v2 w7 w11) = 0 then (if v19 = 0 then (if (f_getTaskCount F1) = v2 then (if (f_getHyperperiod F1) = v3 then (if (f_getFrame F1) = v18 then (if (f_getNow F1) = (0 : Int32) then (if (f_getMiss F1) = (-1 : Int32) then (if ((en_L_runsOk  F1 A1 v2 v3 v18 (0 : Int32) w7 w9).isSome = true) then (if (R_L_runsOk  F1 A1 v2 v3 v18 (0 : Int32) w7 w9) = 0 then some ((0 : Int32)) else lp_L_law n 36 sl sv v2 v3 v18 (0 : Int32) (-1 : Int32) w7 w9 w11 (v13 + (4 : Int32)) 0 0 0 0 F1 A1) else none) else some ((0 : Int32))) else some ((0 : Int32))) else some ((0 : Int32))) else some ((0 : Int32))) else some ((0 : Int32))) else (if v19 = (-7 : Int32) then (if (f_getMiss F1) < 0 then some ((0 : Int32)) else (if ((f_getMiss F1) / (128 : Int32)) < v2 then (if (¬ (f_L_fld w7 ((f_getMiss F1) / (128 : Int32))) = (0 : Int32)) then (if ((f_getMiss F1) % (128 : Int32)) < (v3 / (f_L_fld w7 ((f_getMiss F1) / (128 : Int32)))) then (if (f_getTaskCount F1) = v2 then (if (f_getHyperperiod F1) = v3 then (if (f_getFrame F1) = (0 : Int32) then (if (f_getNow F1) = (0 : Int32) then (if (f_getMiss F1) = (f_getMiss F1) then (if ((en_L_runsOk  F1 A1 v2 v3 (0 : Int32) (0 : Int32) w7 w9).isSome = true) then (if (R_L_runsOk  F1 A1 v2 v3 (0 : Int32) (0 : Int32) w7 w9) = 0 then some ((0 : Int32)) else lp_L_law n 36 sl sv v2 v3 (0 : Int32) (0 : Int32) (f_getMiss F1) w7 w9 w11 (v13 + (4 : Int32)) 0 0 0 0 F1 A1) else none) else some ((0 : Int32))) else some ((0 : Int32))) else some ((0 : Int32))) else some ((0 : Int32))) else some ((0 : Int32))) else some ((0 : Int32))) else none) else some ((0 : Int32)))) else some ((0 : Int32)))) else (if v19 = (-6 : Int32) then (if (f_getTaskCount F1) = v2 then (if (f_getHyperperiod F1) = v3 then (if (f_getFrame F1) = v4 then (if (f_getNow F1) = v5 then (if (f_getMiss F1) = v6 then (if ((en_L_runsOk  F1 A1 v2 v3 v4 v5 w7 w9).isSome = true) then (if (R_L_runsOk  F1 A1 v2 v3 v4 v5 w7 w9) = 0 then some ((0 : Int32)) else lp_L_law n 36 sl sv v2 v3 v4 v5 v6 w7 w9 w11 (v13 + (4 : Int32)) 0 0 0 0 F1 A1) else none) else some ((0 : Int32))) else some ((0 : Int32))) else some ((0 : Int32))) else some ((0 : Int32))) else some ((0 : Int32))) else some ((0 : Int32)))) else none) else (if v19 = (-5 : Int32) then (if (f_getTaskCount F1) = v2 then (if (f_getHyperperiod F1) = v3 then (if (f_getFrame F1) = v4 then (if (f_getNow F1) = v5 then (if (f_getMiss F1) = v6 then (if ((en_L_runsOk  F1 A1 v2 v3 v4 v5 w7 w9).isSome = true) then (if (R_L_runsOk  F1 A1 v2 v3 v4 v5 w7 w9) = 0 then some ((0 : Int32)) else lp_L_law n 36 sl sv v2 v3 v4 v5 v6 w7 w9 w11 (v13 + (4 : Int32)) 0 0 0 0 F1 A1) else none) else some ((0 : Int32))) else some ((0 : Int32))) else some ((0 : Int32))) else some ((0 : Int32))) else some ((0 : Int32))) else some ((0 : Int32)))) else none))) := by
  rw [lp_L_law, if_neg (by decide), if_neg (by decide), if_pos rfl]
theorem lp_L_law_444 (n : Nat) (sl : Int32) (sv : Int32 → Int32) (v2 : Int32) (v3 : Int32) (v4 : Int32) (v5 : Int32) (v6 : Int32) (w7 : Int64) (w9 : Int64) (w11 : Int64) (v13 : Int32) (v18 : Int32) (v19 : Int32) (v20 : Int32) (v21 : Int32) (F1 : Nat → Int32) (A1 : Nat → Int32 → Int32) : lp_L_law (n + 1) 444 sl sv v2 v3 v4 v5 v6 w7 w9 w11 v13 v18 v19 v20 v21 F1 A1 = (if v19 = (if v4 = 0 then (0 : Int32) else (if v18 < (1 : Int32) then (0 : Int32) else v18)) then (if (f_getTaskCount F1) = v2 then (if (f_getHyperperiod F1) = v3 then (if (f_getFrame F1) = v4 then (if (f_getNow F1) = (v5 + (if v4 = 0 then (0 : Int32) else (if v18 < (1 : Int32) then (0 : Int32) else v18))) then (if (f_getMiss F1) = v6 then (if ((en_L_runsOk  F1 A1 v2 v3 v4 (v5 + (if v4 = 0 then (0 : Int32) else (if v18 < (1 : Int32) then (0 : Int32) else v18))) w7 w9).isSome = true) then (if (R_L_runsOk  F1 A1 v2 v3 v4 (v5 + (if v4 = 0 then (0 : Int32) else (if v18 < (1 : Int32) then (0 : Int32) else v18))) w7 w9) = 0 then some ((0 : Int32)) else lp_L_law n 36 sl sv v2 v3 v4 (v5 + (if v4 = 0 then (0 : Int32) else (if v18 < (1 : Int32) then (0 : Int32) else v18))) v6 w7 w9 w11 (v13 + (4 : Int32)) 0 0 0 0 F1 A1) else none) else some ((0 : Int32))) else some ((0 : Int32))) else some ((0 : Int32))) else some ((0 : Int32))) else some ((0 : Int32))) else some ((0 : Int32))) := by
  rw [lp_L_law, if_neg (by decide), if_neg (by decide), if_neg (by decide), if_pos rfl]
theorem lp_L_law_129 (n : Nat) (sl : Int32) (sv : Int32 → Int32) (v2 : Int32) (v3 : Int32) (v4 : Int32) (v5 : Int32) (v6 : Int32) (w7 : Int64) (w9 : Int64) (w11 : Int64) (v13 : Int32) (v18 : Int32) (v19 : Int32) (v20 : Int32) (v21 : Int32) (F1 : Nat → Int32) (A1 : Nat → Int32 → Int32) : lp_L_law (n + 1) 129 sl sv v2 v3 v4 v5 v6 w7 w9 w11 v13 v18 v19 v20 v21 F1 A1 = (if (¬ v3 = 0 → (en_L_gcd   v3 v18).isSome = true) ∧ (¬ v3 = 0 → ¬ (R_L_gcd   v3 v18) = (0 : Int32)) then (if v21 = (if v20 < (1 : Int32) then (-1 : Int32) else (if v20 < v19 then (-1 : Int32) else (if v2 = (4 : Int32) then (-2 : Int32) else (if (60 : Int32) < (if v3 = 0 then v18 else ((v3 / (R_L_gcd   v3 v18)) * v18)) then (-3 : Int32) else v2)))) then (if (f_getTaskCount F1) = (if v21 < 0 then v2 else (v2 + (1 : Int32))) then (if (f_getHyperperiod F1) = (if v21 < 0 then v3 else (if v3 = 0 then v18 else ((v3 / (R_L_gcd   v3 v18)) * v18))) then (if (f_getFrame F1) = (if v21 < 0 then v4 else (0 : Int32)) then (if (f_getNow F1) = (if v21 < 0 then v5 else (0 : Int32)) then (if (f_getMiss F1) = (if v21 < 0 then v6 else (-1 : Int32)) then (if ((en_L_runsOk  F1 A1 (if v21 < 0 then v2 else (v2 + (1 : Int32))) (if v21 < 0 then v3 else (if v3 = 0 then v18 else ((v3 / (R_L_gcd   v3 v18)) * v18))) (if v21 < 0 then v4 else (0 : Int32)) (if v21 < 0 then v5 else (0 : Int32)) (if v21 < 0 then w7 else (w7 ||| (((v18).toInt64) <<< (((8 : Int32) * v2).toInt64 &&& 63)))) (if v21 < 0 then w9 else (w9 ||| (((v19).toInt64) <<< (((8 : Int32) * v2).toInt64 &&& 63))))).isSome = true) then (if (R_L_runsOk  F1 A1 (if v21 < 0 then v2 else (v2 + (1 : Int32))) (if v21 < 0 then v3 else (if v3 = 0 then v18 else ((v3 / (R_L_gcd   v3 v18)) * v18))) (if v21 < 0 then v4 else (0 : Int32)) (if v21 < 0 then v5 else (0 : Int32)) (if v21 < 0 then w7 else (w7 ||| (((v18).toInt64) <<< (((8 : Int32) * v2).toInt64 &&& 63)))) (if v21 < 0 then w9 else (w9 ||| (((v19).toInt64) <<< (((8 : Int32) * v2).toInt64 &&& 63))))) = 0 then some ((0 : Int32)) else lp_L_law n 36 sl sv (if v21 < 0 then v2 else (v2 + (1 : Int32))) (if v21 < 0 then v3 else (if v3 = 0 then v18 else ((v3 / (R_L_gcd   v3 v18)) * v18))) (if v21 < 0 then v4 else (0 : Int32)) (if v21 < 0 then v5 else (0 : Int32)) (if v21 < 0 then v6 else (-1 : Int32)) (if v21 < 0 then w7 else (w7 ||| (((v18).toInt64) <<< (((8 : Int32) * v2).toInt64 &&& 63)))) (if v21 < 0 then w9 else (w9 ||| (((v19).toInt64) <<< (((8 : Int32) * v2).toInt64 &&& 63)))) (if v21 < 0 then w11 else (w11 ||| (((v20).toInt64) <<< (((8 : Int32) * v2).toInt64 &&& 63)))) (v13 + (4 : Int32)) 0 0 0 0 F1 A1) else none) else some ((0 : Int32))) else some ((0 : Int32))) else some ((0 : Int32))) else some ((0 : Int32))) else some ((0 : Int32))) else some ((0 : Int32))) else none) := by
  rw [lp_L_law, if_neg (by decide), if_neg (by decide), if_neg (by decide), if_neg (by decide), if_pos rfl]
set_option maxRecDepth 65536 in
set_option maxHeartbeats 4000000 in
theorem lpw_L_law {l : Launch} {Z : State} {a0 : Array Value} (H : OK Z a0) (sl : Int32) (sv : Int32 → Int32) (G1 : Nat → Int64) (B1 : Nat → Int32 → Int64) : ∀ (n : Nat) (v2 : Int32) (v3 : Int32) (v4 : Int32) (v5 : Int32) (v6 : Int32) (w7 : Int64) (w9 : Int64) (w11 : Int64) (v13 : Int32) (v18 : Int32) (v19 : Int32) (v20 : Int32) (v21 : Int32) (F1 : Nat → Int32) (A1 : Nat → Int32 → Int32) (r : Int32), (lp_L_law n 11 sl sv v2 v3 v4 v5 v6 w7 w9 w11 v13 v18 v19 v20 v21 F1 A1 = some r → Wk l Z (MoL Z cdC "CyclicExecutiveL6" true) md_L_law 11 [.val (.ref 0), .val (.ref 1), .unset, .unset, .unset, .unset, .unset, .unset, .unset, .unset, .unset, .unset, .unset, .unset, .unset, .unset, .unset, .unset, .unset, .unset, .unset, .unset, .unset, .unset] [] (sl, sv, [(7, F1, G1, A1, B1)]) 8 1328 (fun v _ => v = some (.int r))) ∧ (lp_L_law n 36 sl sv v2 v3 v4 v5 v6 w7 w9 w11 v13 v18 v19 v20 v21 F1 A1 = some r → Wk l Z (MoL Z cdC "CyclicExecutiveL6" true) md_L_law 36 [.val (.ref 0), .val (.ref 1), .val (.int v2), .val (.int v3), .val (.int v4), .val (.int v5), .val (.int v6), .val (.long w7), .second, .val (.long w9), .second, .val (.long w11), .second, .val (.int v13), .unset, .unset, .unset, .unset, .unset, .unset, .unset, .unset, .unset, .unset] [] (sl, sv, [(7, F1, G1, A1, B1)]) 8 1328 (fun v _ => v = some (.int r))) ∧ (lp_L_law n 287 sl sv v2 v3 v4 v5 v6 w7 w9 w11 v13 v18 v19 v20 v21 F1 A1 = some r → Wk l Z (MoL Z cdC "CyclicExecutiveL6" true) md_L_law 287 [.val (.ref 0), .val (.ref 1), .val (.int v2), .val (.int v3), .val (.int v4), .val (.int v5), .val (.int v6), .val (.long w7), .second, .val (.long w9), .second, .val (.long w11), .second, .val (.int v13), .unset, .unset, .unset, .unset, .val (.int v18), .val (.int v19), .unset, .unset, .unset, .unset] [] (sl, sv, [(7, F1, G1, A1, B1)]) 8 1328 (fun v _ => v = some (.int r))) ∧ (lp_L_law n 444 sl sv v2 v3 v4 v5 v6 w7 w9 w11 v13 v18 v19 v20 v21 F1 A1 = some r → Wk l Z (MoL Z cdC "CyclicExecutiveL6" true) md_L_law 444 [.val (.ref 0), .val (.ref 1), .val (.int v2), .val (.int v3), .val (.int v4), .val (.int v5), .val (.int v6), .val (.long w7), .second, .val (.long w9), .second, .val (.long w11), .second, .val (.int v13), .unset, .unset, .unset, .unset, .val (.int v18), .val (.int v19), .unset, .unset, .unset, .unset] [] (sl, sv, [(7, F1, G1, A1, B1)]) 8 1328 (fun v _ => v = some (.int r))) ∧ (lp_L_law n 129 sl sv v2 v3 v4 v5 v6 w7 w9 w11 v13 v18 v19 v20 v21 F1 A1 = some r → Wk l Z (MoL Z cdC "CyclicExecutiveL6" true) md_L_law 129 [.val (.ref 0), .val (.ref 1), .val (.int v2), .val (.int v3), .val (.int v4), .val (.int v5), .val (.int v6), .val (.long w7), .second, .val (.long w9), .second, .val (.long w11), .second, .val (.int v13), .unset, .unset, .unset, .unset, .val (.int v18), .val (.int v19), .val (.int v20), .val (.int v21), .unset, .unset] [] (sl, sv, [(7, F1, G1, A1, B1)]) 8 1328 (fun v _ => v = some (.int r))) := by
  intro n
  induction n with
  | zero =>
    intro v2 v3 v4 v5 v6 w7 w9 w11 v13 v18 v19 v20 v21 F1 A1 r
    exact ⟨(fun h => by rw [lp_L_law_z] at h; cases h), (fun h => by rw [lp_L_law_z] at h; cases h), (fun h => by rw [lp_L_law_z] at h; cases h), (fun h => by rw [lp_L_law_z] at h; cases h), (fun h => by rw [lp_L_law_z] at h; cases h)⟩
  | succ n ih =>
    intro v2 v3 v4 v5 v6 w7 w9 w11 v13 v18 v19 v20 v21 F1 A1 r
    refine ⟨fun h => ?_, fun h => ?_, fun h => ?_, fun h => ?_, fun h => ?_⟩
    · rw [lp_L_law_11] at h
      exact wp_L_law_11 H sl sv F1 G1 A1 B1  ((ih _ _ _ _ _ _ _ _ _ _ _ _ _ _ _ _).2.1 h)
    · rw [lp_L_law_36] at h
      exact wp_L_law_36 H sl sv F1 G1 A1 B1 v2 v3 v4 v5 v6 w7 w9 w11 v13 (fun q1 => (rt_law (Option.some.inj (ifn q1 h)))) (fun q1 q3 => (rt_law (Option.some.inj (ifn q3 (ifp q1 h))))) (fun q1 q3 => (gd (ifp q3 (ifp q1 h))).1.1) (fun q1 q3 => (gd (ifp q3 (ifp q1 h))).1.2.1) (fun q1 q3 => (gd (ifp q3 (ifp q1 h))).1.2.2.1) (fun q1 q3 => (gd (ifp q3 (ifp q1 h))).1.2.2.2.1) (fun q1 q3 => (gd (ifp q3 (ifp q1 h))).1.2.2.2.2.1) (fun q1 q3 => (gd (ifp q3 (ifp q1 h))).1.2.2.2.2.2.1) (fun q1 q3 => (gd (ifp q3 (ifp q1 h))).1.2.2.2.2.2.2) (fun q1 q3 q12 q13 => (gd (ifn q13 (ifp q12 (gd (ifp q3 (ifp q1 h))).2))).1) (fun q1 q3 q12 q13 => (ih _ _ _ _ _ _ _ _ _ _ _ _ _ _ _ _).2.2.2.1 (gd (ifn q13 (ifp q12 (gd (ifp q3 (ifp q1 h))).2))).2) (fun q1 q3 q12 q13 => (gd (ifp q13 (ifp q12 (gd (ifp q3 (ifp q1 h))).2))).1) (fun q1 q3 q12 q13 => (ih _ _ _ _ _ _ _ _ _ _ _ _ _ _ _ _).2.2.1 (gd (ifp q13 (ifp q12 (gd (ifp q3 (ifp q1 h))).2))).2) (fun q1 q3 q12 => (gd (ifn q12 (gd (ifp q3 (ifp q1 h))).2)).1) (fun q1 q3 q12 => (ih _ _ _ _ _ _ _ _ _ _ _ _ _ _ _ _).2.2.2.2 (gd (ifn q12 (gd (ifp q3 (ifp q1 h))).2)).2)
    · rw [lp_L_law_287] at h
      exact wp_L_law_287 H sl sv F1 G1 A1 B1 v2 v3 v4 v5 v6 w7 w9 w11 v13 v18 v19 (fun q1 q2 q3 q4 => (rt_law (Option.some.inj (ifn q4 (ifp q3 (ifp q2 (ifn q1 h))))))) (fun q1 q2 q3 q4 q6 => (rt_law (Option.some.inj (ifn q6 (ifp q4 (ifp q3 (ifp q2 (ifn q1 h)))))))) (fun q1 q2 q3 q4 q6 q8 q9 => (rt_law (Option.some.inj (ifn q9 (ifp q8 (ifp q6 (ifp q4 (ifp q3 (ifp q2 (ifn q1 h)))))))))) (fun q1 q2 q3 q4 q6 q8 q9 q11 => (gd (ifp q11 (ifp q9 (ifp q8 (ifp q6 (ifp q4 (ifp q3 (ifp q2 (ifn q1 h))))))))).1) (fun q1 q2 q3 q4 q6 q8 q9 q11 q13 => (ih _ _ _ _ _ _ _ _ _ _ _ _ _ _ _ _).2.1 (ifn q13 (gd (ifp q11 (ifp q9 (ifp q8 (ifp q6 (ifp q4 (ifp q3 (ifp q2 (ifn q1 h))))))))).2)) (fun q1 q2 q3 q4 q6 q8 q9 q11 q13 => (rt_law (Option.some.inj (ifp q13 (gd (ifp q11 (ifp q9 (ifp q8 (ifp q6 (ifp q4 (ifp q3 (ifp q2 (ifn q1 h))))))))).2)))) (fun q1 q2 q3 q4 q6 q8 q9 q11 => (rt_law (Option.some.inj (ifn q11 (ifp q9 (ifp q8 (ifp q6 (ifp q4 (ifp q3 (ifp q2 (ifn q1 h))))))))))) (fun q1 q2 q3 q4 q6 q8 => (rt_law (Option.some.inj (ifn q8 (ifp q6 (ifp q4 (ifp q3 (ifp q2 (ifn q1 h))))))))) (fun q1 q2 q3 => (rt_law (Option.some.inj (ifn q3 (ifp q2 (ifn q1 h)))))) (fun q1 q2 => (gd (ifn q2 (ifn q1 h))).1) (fun q1 q2 q20 => (gd (ifp q20 (gd (ifn q2 (ifn q1 h))).2)).1) (fun q1 q2 q20 q22 q23 q24 => (rt_law (Option.some.inj (ifn q24 (ifn q23 (ifp q22 (gd (ifp q20 (gd (ifn q2 (ifn q1 h))).2)).2)))))) (fun q1 q2 q20 q22 q23 q24 q26 => (rt_law (Option.some.inj (ifp q26 (ifp q24 (ifn q23 (ifp q22 (gd (ifp q20 (gd (ifn q2 (ifn q1 h))).2)).2))))))) (fun q1 q2 q20 q22 q23 q24 q26 q28 => (gd (ifp q28 (ifn q26 (ifp q24 (ifn q23 (ifp q22 (gd (ifp q20 (gd (ifn q2 (ifn q1 h))).2)).2)))))).1) (fun q1 q2 q20 q22 q23 q24 q26 q28 q30 q31 => (rt_law (Option.some.inj (ifn q31 (ifp q30 (gd (ifp q28 (ifn q26 (ifp q24 (ifn q23 (ifp q22 (gd (ifp q20 (gd (ifn q2 (ifn q1 h))).2)).2)))))).2))))) (fun q1 q2 q20 q22 q23 q24 q26 q28 q30 q31 q33 => (rt_law (Option.some.inj (ifn q33 (ifp q31 (ifp q30 (gd (ifp q28 (ifn q26 (ifp q24 (ifn q23 (ifp q22 (gd (ifp q20 (gd (ifn q2 (ifn q1 h))).2)).2)))))).2)))))) (fun q1 q2 q20 q22 q23 q24 q26 q28 q30 q31 q33 q35 q36 => (rt_law (Option.some.inj (ifn q36 (ifp q35 (ifp q33 (ifp q31 (ifp q30 (gd (ifp q28 (ifn q26 (ifp q24 (ifn q23 (ifp q22 (gd (ifp q20 (gd (ifn q2 (ifn q1 h))).2)).2)))))).2)))))))) (fun q1 q2 q20 q22 q23 q24 q26 q28 q30 q31 q33 q35 q36 q38 => (gd (ifp q38 (ifp q36 (ifp q35 (ifp q33 (ifp q31 (ifp q30 (gd (ifp q28 (ifn q26 (ifp q24 (ifn q23 (ifp q22 (gd (ifp q20 (gd (ifn q2 (ifn q1 h))).2)).2)))))).2))))))).1) (fun q1 q2 q20 q22 q23 q24 q26 q28 q30 q31 q33 q35 q36 q38 q40 => (ih _ _ _ _ _ _ _ _ _ _ _ _ _ _ _ _).2.1 (ifn q40 (gd (ifp q38 (ifp q36 (ifp q35 (ifp q33 (ifp q31 (ifp q30 (gd (ifp q28 (ifn q26 (ifp q24 (ifn q23 (ifp q22 (gd (ifp q20 (gd (ifn q2 (ifn q1 h))).2)).2)))))).2))))))).2)) (fun q1 q2 q20 q22 q23 q24 q26 q28 q30 q31 q33 q35 q36 q38 q40 => (rt_law (Option.some.inj (ifp q40 (gd (ifp q38 (ifp q36 (ifp q35 (ifp q33 (ifp q31 (ifp q30 (gd (ifp q28 (ifn q26 (ifp q24 (ifn q23 (ifp q22 (gd (ifp q20 (gd (ifn q2 (ifn q1 h))).2)).2)))))).2))))))).2)))) (fun q1 q2 q20 q22 q23 q24 q26 q28 q30 q31 q33 q35 q36 q38 => (rt_law (Option.some.inj (ifn q38 (ifp q36 (ifp q35 (ifp q33 (ifp q31 (ifp q30 (gd (ifp q28 (ifn q26 (ifp q24 (ifn q23 (ifp q22 (gd (ifp q20 (gd (ifn q2 (ifn q1 h))).2)).2)))))).2))))))))) (fun q1 q2 q20 q22 q23 q24 q26 q28 q30 q31 q33 q35 => (rt_law (Option.some.inj (ifn q35 (ifp q33 (ifp q31 (ifp q30 (gd (ifp q28 (ifn q26 (ifp q24 (ifn q23 (ifp q22 (gd (ifp q20 (gd (ifn q2 (ifn q1 h))).2)).2)))))).2))))))) (fun q1 q2 q20 q22 q23 q24 q26 q28 q30 => (rt_law (Option.some.inj (ifn q30 (gd (ifp q28 (ifn q26 (ifp q24 (ifn q23 (ifp q22 (gd (ifp q20 (gd (ifn q2 (ifn q1 h))).2)).2)))))).2)))) (fun q1 q2 q20 q22 q23 q24 q26 q28 => (rt_law (Option.some.inj (ifn q28 (ifn q26 (ifp q24 (ifn q23 (ifp q22 (gd (ifp q20 (gd (ifn q2 (ifn q1 h))).2)).2)))))))) (fun q1 q2 q20 q22 q23 q47 => (rt_law (Option.some.inj (ifn q47 (ifp q23 (ifp q22 (gd (ifp q20 (gd (ifn q2 (ifn q1 h))).2)).2)))))) (fun q1 q2 q20 q22 q23 q47 q49 => (rt_law (Option.some.inj (ifn q49 (ifp q47 (ifp q23 (ifp q22 (gd (ifp q20 (gd (ifn q2 (ifn q1 h))).2)).2))))))) (fun q1 q2 q20 q22 q23 q47 q49 q51 q52 => (rt_law (Option.some.inj (ifn q52 (ifp q51 (ifp q49 (ifp q47 (ifp q23 (ifp q22 (gd (ifp q20 (gd (ifn q2 (ifn q1 h))).2)).2))))))))) (fun q1 q2 q20 q22 q23 q47 q49 q51 q52 q54 => (gd (ifp q54 (ifp q52 (ifp q51 (ifp q49 (ifp q47 (ifp q23 (ifp q22 (gd (ifp q20 (gd (ifn q2 (ifn q1 h))).2)).2)))))))).1) (fun q1 q2 q20 q22 q23 q47 q49 q51 q52 q54 q56 => (ih _ _ _ _ _ _ _ _ _ _ _ _ _ _ _ _).2.1 (ifn q56 (gd (ifp q54 (ifp q52 (ifp q51 (ifp q49 (ifp q47 (ifp q23 (ifp q22 (gd (ifp q20 (gd (ifn q2 (ifn q1 h))).2)).2)))))))).2)) (fun q1 q2 q20 q22 q23 q47 q49 q51 q52 q54 q56 => (rt_law (Option.some.inj (ifp q56 (gd (ifp q54 (ifp q52 (ifp q51 (ifp q49 (ifp q47 (ifp q23 (ifp q22 (gd (ifp q20 (gd (ifn q2 (ifn q1 h))).2)).2)))))))).2)))) (fun q1 q2 q20 q22 q23 q47 q49 q51 q52 q54 => (rt_law (Option.some.inj (ifn q54 (ifp q52 (ifp q51 (ifp q49 (ifp q47 (ifp q23 (ifp q22 (gd (ifp q20 (gd (ifn q2 (ifn q1 h))).2)).2)))))))))) (fun q1 q2 q20 q22 q23 q47 q49 q51 => (rt_law (Option.some.inj (ifn q51 (ifp q49 (ifp q47 (ifp q23 (ifp q22 (gd (ifp q20 (gd (ifn q2 (ifn q1 h))).2)).2)))))))) (fun q1 q2 q20 q22 q61 q62 => (rt_law (Option.some.inj (ifn q62 (ifp q61 (ifn q22 (gd (ifp q20 (gd (ifn q2 (ifn q1 h))).2)).2)))))) (fun q1 q2 q20 q22 q61 q62 q64 => (rt_law (Option.some.inj (ifn q64 (ifp q62 (ifp q61 (ifn q22 (gd (ifp q20 (gd (ifn q2 (ifn q1 h))).2)).2))))))) (fun q1 q2 q20 q22 q61 q62 q64 q66 q67 => (rt_law (Option.some.inj (ifn q67 (ifp q66 (ifp q64 (ifp q62 (ifp q61 (ifn q22 (gd (ifp q20 (gd (ifn q2 (ifn q1 h))).2)).2))))))))) (fun q1 q2 q20 q22 q61 q62 q64 q66 q67 q69 => (gd (ifp q69 (ifp q67 (ifp q66 (ifp q64 (ifp q62 (ifp q61 (ifn q22 (gd (ifp q20 (gd (ifn q2 (ifn q1 h))).2)).2)))))))).1) (fun q1 q2 q20 q22 q61 q62 q64 q66 q67 q69 q71 => (ih _ _ _ _ _ _ _ _ _ _ _ _ _ _ _ _).2.1 (ifn q71 (gd (ifp q69 (ifp q67 (ifp q66 (ifp q64 (ifp q62 (ifp q61 (ifn q22 (gd (ifp q20 (gd (ifn q2 (ifn q1 h))).2)).2)))))))).2)) (fun q1 q2 q20 q22 q61 q62 q64 q66 q67 q69 q71 => (rt_law (Option.some.inj (ifp q71 (gd (ifp q69 (ifp q67 (ifp q66 (ifp q64 (ifp q62 (ifp q61 (ifn q22 (gd (ifp q20 (gd (ifn q2 (ifn q1 h))).2)).2)))))))).2)))) (fun q1 q2 q20 q22 q61 q62 q64 q66 q67 q69 => (rt_law (Option.some.inj (ifn q69 (ifp q67 (ifp q66 (ifp q64 (ifp q62 (ifp q61 (ifn q22 (gd (ifp q20 (gd (ifn q2 (ifn q1 h))).2)).2)))))))))) (fun q1 q2 q20 q22 q61 q62 q64 q66 => (rt_law (Option.some.inj (ifn q66 (ifp q64 (ifp q62 (ifp q61 (ifn q22 (gd (ifp q20 (gd (ifn q2 (ifn q1 h))).2)).2)))))))) (fun q1 q2 q20 q22 q61 => (rt_law (Option.some.inj (ifn q61 (ifn q22 (gd (ifp q20 (gd (ifn q2 (ifn q1 h))).2)).2))))) (fun q1 q2 q20 q77 q78 => (rt_law (Option.some.inj (ifn q78 (ifp q77 (ifn q20 (gd (ifn q2 (ifn q1 h))).2)))))) (fun q1 q2 q20 q77 q78 q80 => (rt_law (Option.some.inj (ifn q80 (ifp q78 (ifp q77 (ifn q20 (gd (ifn q2 (ifn q1 h))).2))))))) (fun q1 q2 q20 q77 q78 q80 q82 q83 => (rt_law (Option.some.inj (ifn q83 (ifp q82 (ifp q80 (ifp q78 (ifp q77 (ifn q20 (gd (ifn q2 (ifn q1 h))).2))))))))) (fun q1 q2 q20 q77 q78 q80 q82 q83 q85 => (gd (ifp q85 (ifp q83 (ifp q82 (ifp q80 (ifp q78 (ifp q77 (ifn q20 (gd (ifn q2 (ifn q1 h))).2)))))))).1) (fun q1 q2 q20 q77 q78 q80 q82 q83 q85 q87 => (ih _ _ _ _ _ _ _ _ _ _ _ _ _ _ _ _).2.1 (ifn q87 (gd (ifp q85 (ifp q83 (ifp q82 (ifp q80 (ifp q78 (ifp q77 (ifn q20 (gd (ifn q2 (ifn q1 h))).2)))))))).2)) (fun q1 q2 q20 q77 q78 q80 q82 q83 q85 q87 => (rt_law (Option.some.inj (ifp q87 (gd (ifp q85 (ifp q83 (ifp q82 (ifp q80 (ifp q78 (ifp q77 (ifn q20 (gd (ifn q2 (ifn q1 h))).2)))))))).2)))) (fun q1 q2 q20 q77 q78 q80 q82 q83 q85 => (rt_law (Option.some.inj (ifn q85 (ifp q83 (ifp q82 (ifp q80 (ifp q78 (ifp q77 (ifn q20 (gd (ifn q2 (ifn q1 h))).2)))))))))) (fun q1 q2 q20 q77 q78 q80 q82 => (rt_law (Option.some.inj (ifn q82 (ifp q80 (ifp q78 (ifp q77 (ifn q20 (gd (ifn q2 (ifn q1 h))).2)))))))) (fun q1 q2 q20 q77 => (rt_law (Option.some.inj (ifn q77 (ifn q20 (gd (ifn q2 (ifn q1 h))).2))))) (fun q1 q93 q94 => (rt_law (Option.some.inj (ifn q94 (ifp q93 (ifp q1 h)))))) (fun q1 q93 q94 q96 => (rt_law (Option.some.inj (ifn q96 (ifp q94 (ifp q93 (ifp q1 h))))))) (fun q1 q93 q94 q96 q98 q99 => (rt_law (Option.some.inj (ifn q99 (ifp q98 (ifp q96 (ifp q94 (ifp q93 (ifp q1 h))))))))) (fun q1 q93 q94 q96 q98 q99 q101 => (gd (ifp q101 (ifp q99 (ifp q98 (ifp q96 (ifp q94 (ifp q93 (ifp q1 h)))))))).1) (fun q1 q93 q94 q96 q98 q99 q101 q103 => (ih _ _ _ _ _ _ _ _ _ _ _ _ _ _ _ _).2.1 (ifn q103 (gd (ifp q101 (ifp q99 (ifp q98 (ifp q96 (ifp q94 (ifp q93 (ifp q1 h)))))))).2)) (fun q1 q93 q94 q96 q98 q99 q101 q103 => (rt_law (Option.some.inj (ifp q103 (gd (ifp q101 (ifp q99 (ifp q98 (ifp q96 (ifp q94 (ifp q93 (ifp q1 h)))))))).2)))) (fun q1 q93 q94 q96 q98 q99 q101 => (rt_law (Option.some.inj (ifn q101 (ifp q99 (ifp q98 (ifp q96 (ifp q94 (ifp q93 (ifp q1 h)))))))))) (fun q1 q93 q94 q96 q98 => (rt_law (Option.some.inj (ifn q98 (ifp q96 (ifp q94 (ifp q93 (ifp q1 h)))))))) (fun q1 q93 => (rt_law (Option.some.inj (ifn q93 (ifp q1 h)))))
    · rw [lp_L_law_444] at h
      exact wp_L_law_444 H sl sv F1 G1 A1 B1 v2 v3 v4 v5 v6 w7 w9 w11 v13 v18 v19 (fun q5 q6 => (rt_law (Option.some.inj (ifn q6 (ifp q5 h))))) (fun q5 q6 q8 => (rt_law (Option.some.inj (ifn q8 (ifp q6 (ifp q5 h)))))) (fun q5 q6 q8 q10 q11 => (rt_law (Option.some.inj (ifn q11 (ifp q10 (ifp q8 (ifp q6 (ifp q5 h)))))))) (fun q5 q6 q8 q10 q11 q13 => (gd (ifp q13 (ifp q11 (ifp q10 (ifp q8 (ifp q6 (ifp q5 h))))))).1) (fun q5 q6 q8 q10 q11 q13 q15 => (ih _ _ _ _ _ _ _ _ _ _ _ _ _ _ _ _).2.1 (ifn q15 (gd (ifp q13 (ifp q11 (ifp q10 (ifp q8 (ifp q6 (ifp q5 h))))))).2)) (fun q5 q6 q8 q10 q11 q13 q15 => (rt_law (Option.some.inj (ifp q15 (gd (ifp q13 (ifp q11 (ifp q10 (ifp q8 (ifp q6 (ifp q5 h))))))).2)))) (fun q5 q6 q8 q10 q11 q13 => (rt_law (Option.some.inj (ifn q13 (ifp q11 (ifp q10 (ifp q8 (ifp q6 (ifp q5 h))))))))) (fun q5 q6 q8 q10 => (rt_law (Option.some.inj (ifn q10 (ifp q8 (ifp q6 (ifp q5 h))))))) (fun q5 => (rt_law (Option.some.inj (ifn q5 h))))
    · rw [lp_L_law_129] at h
      exact wp_L_law_129 H sl sv F1 G1 A1 B1 v2 v3 v4 v5 v6 w7 w9 w11 v13 v18 v19 v20 v21 (fun q1 => ((gd h).1.1) q1) (fun q1 => ((gd h).1.2) q1) (fun q13 q16 => (rt_law (Option.some.inj (ifn q16 (ifp q13 (gd h).2))))) (fun q13 q16 q18 => (rt_law (Option.some.inj (ifn q18 (ifp q16 (ifp q13 (gd h).2)))))) (fun q13 q16 q18 q20 q21 => (rt_law (Option.some.inj (ifn q21 (ifp q20 (ifp q18 (ifp q16 (ifp q13 (gd h).2)))))))) (fun q13 q16 q18 q20 q21 q23 => (gd (ifp q23 (ifp q21 (ifp q20 (ifp q18 (ifp q16 (ifp q13 (gd h).2))))))).1) (fun q13 q16 q18 q20 q21 q23 q25 => (ih _ _ _ _ _ _ _ _ _ _ _ _ _ _ _ _).2.1 (ifn q25 (gd (ifp q23 (ifp q21 (ifp q20 (ifp q18 (ifp q16 (ifp q13 (gd h).2))))))).2)) (fun q13 q16 q18 q20 q21 q23 q25 => (rt_law (Option.some.inj (ifp q25 (gd (ifp q23 (ifp q21 (ifp q20 (ifp q18 (ifp q16 (ifp q13 (gd h).2))))))).2)))) (fun q13 q16 q18 q20 q21 q23 => (rt_law (Option.some.inj (ifn q23 (ifp q21 (ifp q20 (ifp q18 (ifp q16 (ifp q13 (gd h).2))))))))) (fun q13 q16 q18 q20 => (rt_law (Option.some.inj (ifn q20 (ifp q18 (ifp q16 (ifp q13 (gd h).2))))))) (fun q13 => (rt_law (Option.some.inj (ifn q13 (gd h).2))))
def en_L_law (sl : Int32) (sv : Int32 → Int32) : Option (Int32) := lp_L_law 4000 11 sl sv 0 0 0 0 0 0 0 0 0 0 0 0 0 (F_init (4 : Int32) (60 : Int32)) (fun _ _ => 0)
theorem een_L_law (sl : Int32) (sv : Int32 → Int32) : en_L_law sl sv   = lp_L_law 4000 11 sl sv 0 0 0 0 0 0 0 0 0 0 0 0 0 (F_init (4 : Int32) (60 : Int32)) (fun _ _ => 0) := Eq.trans rfl rfl
set_option maxRecDepth 65536 in
set_option maxHeartbeats 4000000 in
theorem run_law {l : Launch} {Z : State} {a0 : Array Value} (H : OK Z a0) (sl : Int32) (sv : Int32 → Int32) (h : en_L_law sl sv  = some 1) : Wk l Z (MoL Z cdC "CyclicExecutiveL6" true) md_L_law 0 [.val (.ref 0), .unset, .unset, .unset, .unset, .unset, .unset, .unset, .unset, .unset, .unset, .unset, .unset, .unset, .unset, .unset, .unset, .unset, .unset, .unset, .unset, .unset, .unset, .unset] [] (sl, sv, []) 0 0 (fun v _ => v = some (.int (1 : Int32))) := by
  rw [een_L_law] at h
  exact wp_L_law H sl sv  ((lpw_L_law H sl sv _ _ _ _ _ _ _ _ _ _ _ _ _ _ _ _ _ _ _).1 h)
def Ok {α : Type} (o : Option α) (P : α → Prop) : Prop := ∃ r, o = some r ∧ P r
theorem Ok.ret {α : Type} {r : α} {P : α → Prop} (h : P r) : Ok (some r) P := ⟨r, rfl, h⟩
theorem Ok.ift {α : Type} {c : Prop} [Decidable c] {x : Option α} {P : α → Prop} (h : c) (k : Ok x P) : Ok (if c then x else none) P := by rw [if_pos h]; exact k
theorem Ok.ite {α : Type} {c : Prop} [Decidable c] {x y : Option α} {P : α → Prop} (h : c → Ok x P) (k : ¬ c → Ok y P) : Ok (if c then x else y) P := by
  by_cases q : c
  · rw [if_pos q]; exact h q
  · rw [if_neg q]; exact k q
theorem Ok.mono {α : Type} {x : Option α} {P Q : α → Prop} (h : Ok x P) (k : ∀ r, P r → Q r) : Ok x Q := by
  obtain ⟨r, e, p⟩ := h; exact ⟨r, e, k r p⟩
theorem Ok.S {α : Type} {x : Option α} {P : α → Prop} (h : Ok x P) : x.isSome = true := by obtain ⟨r, e, p⟩ := h; rw [e]; rfl
theorem Ok.R {α : Type} {x : Option α} {R d : α} {P : α → Prop} (h : Ok x P) (e : R = x.getD d) : x.isSome = true ∧ P R := by
  obtain ⟨r, q, p⟩ := h; refine ⟨by rw [q]; rfl, ?_⟩; rw [e, q]; exact p
theorem fu_nxt {v c : Int32} {n : Nat} (h : v < c) (hn : c.toInt < v.toInt + ((n + 1 : Nat) : Int)) : c.toInt < (v + 1).toInt + (n : Int) := by
  rw [succ_toInt h]; omega
theorem fu_z {v c : Int32} (h : ¬ c < v) (hn : c.toInt < v.toInt + ((0 : Nat) : Int)) : False := by
  rw [lt_i] at h; omega
theorem ifS {α β : Type} {x : α} {a b : β} : (if (some x).isSome = true then a else b) = a := if_pos rfl
theorem r_of {α : Type} {R : α} {o : Option α} {d r : α} (e : R = o.getD d) (h : o = some r) : R = r := e.trans (getD_some h)
theorem toN (n : Nat) (h : n < 2147483648) : (Int32.ofNat n).toInt = n := Int32.toInt_ofNat_of_lt (by omega)
theorem mask_fin (p m : Int32) (k : Nat) (hk : k < 31) (hm : m.toBitVec.toNat = 2 ^ k - 1) : ∃ s : Fin (2 ^ k), p &&& m = Int32.ofNat s.1 := by
  have h := and_mask p m k hk hm
  have h3 : (2 ^ k : Nat) ≤ 2 ^ 30 := Nat.pow_le_pow_right (by decide) (by omega)
  have h4 : (2 ^ 30 : Nat) = 1073741824 := by decide
  have h5 : (0 : Int) < ((2 ^ k : Nat) : Int) := by have := Nat.two_pow_pos k; omega
  have h1 := Int.emod_nonneg p.toInt (Int.ne_of_gt h5)
  have h2 := Int.emod_lt_of_pos p.toInt h5
  refine ⟨⟨(p.toInt % ((2 ^ k : Nat) : Int)).toNat, by omega⟩, Int32.toInt_inj.mp ?_⟩
  show (p &&& m).toInt = (Int32.ofNat (p.toInt % ((2 ^ k : Nat) : Int)).toNat).toInt
  rw [h, toN _ (by omega)]; omega
theorem scan {σ : Type} (At : Int32 → σ → Prop) (Inv : Int32 → σ → Prop) (sl : Int32) (step : ∀ i s, Inv i s → (∀ j s', i.toInt < j.toInt → j.toInt ≤ sl.toInt → Inv j s' → At j s') → At i s) : ∀ i s, Inv i s → At i s := by
  have key : ∀ (n : Nat) (i : Int32) (s : σ), (sl.toInt - i.toInt).toNat ≤ n → Inv i s → At i s := by
    intro n
    induction n with
    | zero => exact fun i s hn hI => step i s hI fun j s' h1 h2 hJ => absurd h1 (by omega)
    | succ n ih => exact fun i s hn hI => step i s hI fun j s' h1 h2 hJ => ih j s' (by omega) hJ
  exact fun i s h => key _ i s (Nat.le_refl _) h
theorem adv (i sl c : Int32) (k : Nat) (hc : c.toInt = k) (hk : k ≤ 16) (h0 : ¬ i < 0) (h1 : ¬ 260 < i) : (i + c).toInt = i.toInt + k := by
  rw [lt_i] at h0 h1
  have z : (0 : Int32).toInt = 0 := by decide
  have z2 : (260 : Int32).toInt = 260 := by decide
  rw [z] at h0; rw [z2] at h1
  rw [add_toInt (by omega) (by omega), hc]
theorem nn_i {i : Int32} (h : ¬ i < 0) : 0 ≤ i.toInt := by
  rw [lt_i] at h; have z : (0 : Int32).toInt = 0 := by decide
  omega
theorem le_260 {i : Int32} (h : ¬ 260 < i) : i.toInt ≤ 260 := by
  rw [lt_i] at h; have z : (260 : Int32).toInt = 260 := by decide
  omega
theorem i_nn {i : Int32} (h : 0 ≤ i.toInt) : ¬ i < 0 := by
  rw [lt_i]; have z : (0 : Int32).toInt = 0 := by decide
  omega
theorem i_260 {i : Int32} (h : i.toInt ≤ 260) : ¬ 260 < i := by
  rw [lt_i]; have z : (260 : Int32).toInt = 260 := by decide
  omega
/-- i + b < sl, then on by c = b + 1 -/
theorem advS {i sl b c : Int32} (k : Nat) (hb : b.toInt = k) (hc : c.toInt = k + 1) (hk : k ≤ 15) (h0 : ¬ i < 0) (h1 : ¬ 260 < i) (hs : ¬ 260 < sl) (q : i + b < sl) : i.toInt < (i + c).toInt ∧ (i + c).toInt ≤ sl.toInt ∧ ¬ i + c < 0 ∧ ¬ 260 < i + c := by
  have e1 := adv i sl b k hb (by omega) h0 h1
  have e2 := adv i sl c (k + 1) (by rw [hc]; rfl) (by omega) h0 h1
  have a := nn_i h0
  have b' := le_260 hs
  have q' := lt_i.mp q
  refine ⟨by omega, by omega, i_nn (by omega), i_260 (by omega)⟩
theorem nI {a : Nat} (h : a < 2147483648) : (Int32.ofNat a).toInt = a := Int32.toInt_ofNat_of_lt (by omega)
theorem nlt {a b : Nat} (ha : a < 2147483648) (hb : b < 2147483648) : Int32.ofNat a < Int32.ofNat b ↔ a < b := by
  rw [lt_i, nI ha, nI hb]; omega
theorem nn {a : Nat} (ha : a < 2147483648) : ¬ Int32.ofNat a < 0 := by
  have z : (0 : Int32).toInt = 0 := by decide
  rw [lt_i, nI ha, z]; omega
theorem nj {a b : Nat} (ha : a < 2147483648) (hb : b < 2147483648) (h : Int32.ofNat a = Int32.ofNat b) : a = b := by
  have := congrArg Int32.toInt h; rw [nI ha, nI hb] at this; omega
theorem nadd (a b : Nat) : Int32.ofNat a + Int32.ofNat b = Int32.ofNat (a + b) := (Int32.ofNat_add a b).symm
theorem n1a (a : Nat) : Int32.ofNat a + 1 = Int32.ofNat (a + 1) := nadd a 1
theorem nmul (a b : Nat) : Int32.ofNat a * Int32.ofNat b = Int32.ofNat (a * b) := (Int32.ofNat_mul a b).symm
theorem ndiv {a b : Nat} (ha : a < 2147483648) (hb : b < 2147483648) : Int32.ofNat a / Int32.ofNat b = Int32.ofNat (a / b) := by
  have h : a / b ≤ a := Nat.div_le_self a b
  apply Int32.toInt_inj.mp
  rw [Int32.toInt_div, nI ha, nI hb, nI (by omega), Int.tdiv_eq_ediv_of_nonneg (by omega), ← Int.natCast_ediv]
  generalize a / b = q at *
  exact Int.bmod_eq_of_le (by omega) (by omega)
theorem nmod {a b : Nat} (ha : a < 2147483648) (hb : b < 2147483648) : Int32.ofNat a % Int32.ofNat b = Int32.ofNat (a % b) := by
  have h : a % b ≤ a := Nat.mod_le a b
  apply Int32.toInt_inj.mp
  rw [Int32.toInt_mod, nI ha, nI hb, nI (by omega), Int.tmod_eq_emod_of_nonneg (by omega), ← Int.natCast_emod]
theorem nsub {a b : Nat} (h : b ≤ a) : Int32.ofNat a - Int32.ofNat b = Int32.ofNat (a - b) := by
  have e : Int32.ofNat a = Int32.ofNat (a - b) + Int32.ofNat b := by rw [nadd]; congr 1; omega
  rw [e]; generalize Int32.ofNat (a - b) = x; generalize Int32.ofNat b = y; grind
theorem nz {a : Nat} (ha : a < 2147483648) : Int32.ofNat a = 0 ↔ a = 0 :=
  ⟨fun h => nj ha (by omega) h, fun h => by rw [h]; rfl⟩
theorem l_gc : ∀ (n a b g : Nat), a < 1000 → b < 1000 → b + g ≤ 64 → b < n → lp_gcd n 8 (Int32.ofNat a) (Int32.ofNat b) (Int32.ofNat g) = some (Int32.ofNat (Nat.gcd b a)) := by
  intro n
  induction n with
  | zero => exact fun a b g _ _ _ h => absurd h (by omega)
  | succ n ih =>
    intro a b g ha hb hg hn
    rw [lp_gcd_8]
    by_cases z : b = 0
    · subst z
      rw [if_pos (show Int32.ofNat 0 = 0 from rfl), ite_self, Nat.gcd_zero_left]
    · have bz : ¬ Int32.ofNat b = 0 := fun e => z ((nz (by omega)).1 e)
      rw [show (64 : Int32) = Int32.ofNat 64 from rfl, if_pos ((nlt (by omega) (by omega)).2 (by omega)), if_neg bz, if_pos bz, nmod (by omega) (by omega), n1a]
      have h := Nat.mod_lt a (show 0 < b by omega)
      rw [ih b (a % b) (g + 1) hb (by omega) (by omega) (by omega), Nat.gcd_rec b a]
theorem e_gc {a b : Nat} (ha : a < 1000) (hb : b ≤ 40) : en_gcd (Int32.ofNat a) (Int32.ofNat b) = some (Int32.ofNat (Nat.gcd b a)) := by
  rw [een_gcd]; exact l_gc 5000 a b 0 ha (by omega) (by omega) (by omega)
theorem l_gL : ∀ (n a b g : Nat), a < 1000 → b < 1000 → b + g ≤ 40 → b < n → lp_L_gcd n 2 (Int32.ofNat a) (Int32.ofNat b) (Int32.ofNat g) = some (Int32.ofNat (Nat.gcd b a)) := by
  intro n
  induction n with
  | zero => exact fun a b g _ _ _ h => absurd h (by omega)
  | succ n ih =>
    intro a b g ha hb hg hn
    rw [lp_L_gcd_2]
    by_cases z : b = 0
    · subst z
      rw [if_pos (show Int32.ofNat 0 = 0 from rfl), ite_self, Nat.gcd_zero_left]
    · have bz : ¬ Int32.ofNat b = 0 := fun e => z ((nz (by omega)).1 e)
      rw [show (40 : Int32) = Int32.ofNat 40 from rfl, if_pos ((nlt (by omega) (by omega)).2 (by omega)), if_neg bz, if_pos bz, nmod (by omega) (by omega), n1a]
      have h := Nat.mod_lt a (show 0 < b by omega)
      rw [ih b (a % b) (g + 1) hb (by omega) (by omega) (by omega), Nat.gcd_rec b a]
theorem e_gL {a b : Nat} (ha : a < 1000) (hb : b ≤ 40) : en_L_gcd (Int32.ofNat a) (Int32.ofNat b) = some (Int32.ofNat (Nat.gcd b a)) := by
  rw [een_L_gcd]; exact l_gL 1000 a b 0 ha (by omega) (by omega) (by omega)
/-- a / gcd * b -/
def lc (a b : Nat) : Nat := a / Nat.gcd b a * b
theorem lc_le {a b : Nat} (ha : a ≤ 60) (hb : b ≤ 8) : lc a b ≤ 480 := by
  have h : a / Nat.gcd b a ≤ a := Nat.div_le_self _ _
  exact Nat.le_trans (Nat.mul_le_mul (Nat.le_trans h ha) hb) (by omega)
theorem lc_pos {a b : Nat} (ha : 0 < a) (hb : 0 < b) : 0 < lc a b := by
  have g : 0 < Nat.gcd b a := Nat.gcd_pos_of_pos_left a hb
  have d : 0 < a / Nat.gcd b a := Nat.div_pos (Nat.le_of_dvd ha (Nat.gcd_dvd_right b a)) g
  exact Nat.mul_pos d hb
theorem lc_l {a b : Nat} : a ∣ lc a b := by
  rw [lc, Nat.div_mul_right_comm (Nat.gcd_dvd_right b a), Nat.mul_div_assoc a (Nat.gcd_dvd_left b a)]
  exact Nat.dvd_mul_right a _
theorem lc_r {a b : Nat} : b ∣ lc a b := Nat.dvd_mul_left b _
theorem e_lc {a b : Nat} (ha : a ≤ 60) (hb : b ≤ 8) (b0 : 0 < b) : en_lcm (Int32.ofNat a) (Int32.ofNat b) = some (Int32.ofNat (lc a b)) := by
  have g := e_gc (a := a) (b := b) (by omega) (by omega)
  have gp : 0 < Nat.gcd b a := Nat.gcd_pos_of_pos_left a b0
  have gl : Nat.gcd b a ≤ b := Nat.gcd_le_left a b0
  have gz : ¬ Int32.ofNat (Nat.gcd b a) = 0 := fun e => by have := (nz (by omega)).1 e; omega
  rw [een_lcm, g, ifS, r_of (eR_gcd _ _) g, if_neg gz, if_pos gz, ndiv (by omega) (by omega), nmul]; rfl
abbrev TK (A : Nat → Int32 → Int32) (c h : Nat) (p e d : Nat → Nat) : Prop := ∀ i : Nat, i < c → A 0 (Int32.ofNat i) = Int32.ofNat (p i) ∧ A 1 (Int32.ofNat i) = Int32.ofNat (e i) ∧ A 2 (Int32.ofNat i) = Int32.ofNat (d i) ∧ (1 ≤ p i ∧ p i ≤ 8) ∧ p i ∣ h ∧ (1 ≤ e i ∧ e i ≤ d i ∧ d i ≤ p i)
theorem tk_of {A A' : Nat → Int32 → Int32} {c h : Nat} {p e d : Nat → Nat} (t : TK A c h p e d) (a : ∀ j : Nat, j < 3 → A' j = A j) : TK A' c h p e d := by
  intro i hi
  rw [a 0 (by omega), a 1 (by omega), a 2 (by omega)]; exact t i hi
def sN (f : Nat → Nat) : Nat → Nat
  | 0 => 0
  | k + 1 => sN f k + f k
theorem sN_congr {f g : Nat → Nat} : ∀ k : Nat, (∀ i : Nat, i < k → f i = g i) → sN f k = sN g k
  | 0, _ => rfl
  | k + 1, h => by rw [sN, sN, sN_congr k (fun i hi => h i (by omega)), h k (by omega)]
theorem sN_upd {f g : Nat → Nat} : ∀ (k j : Nat), j < k → (∀ i : Nat, i < k → i ≠ j → g i = f i) → sN g k + f j = sN f k + g j
  | 0, j, h, _ => absurd h (by omega)
  | k + 1, j, h, e => by
    by_cases q : j = k
    · subst q; rw [sN, sN, sN_congr (f := g) (g := f) j (fun i hi => e i (by omega) (by omega))]; omega
    · rw [sN, sN, e k (by omega) (fun h => q h.symm)]
      have := sN_upd k j (by omega) (fun i hi hn => e i (by omega) hn); omega
theorem sN_k (a : Nat) : ∀ (k : Nat) (f : Nat → Nat), (∀ i : Nat, i < k → f i = a) → sN f k = a * k
  | 0, _, _ => rfl
  | k + 1, f, h => by rw [sN, sN_k a k f (fun i hi => h i (by omega)), h k (by omega), Nat.mul_succ]
def rr (A : Nat → Int32 → Int32) (x : Nat) : Nat := (A 6 (Int32.ofNat x)).toInt.toNat
def tc (A : Nat → Int32 → Int32) (i H : Nat) : Nat := sN (fun t => if A 4 (Int32.ofNat t) = Int32.ofNat i then 1 else 0) H
abbrev SB (A : Nat → Int32 → Int32) (c h : Nat) (p e : Nat → Nat) (i0 u : Nat) : Prop := ∀ i : Nat, i < c → tc A i h + sN (fun k => rr A (i * 128 + k)) (h / p i) = e i * (h / p i) + (if i = i0 then u else 0)
abbrev RN (A : Nat → Int32 → Int32) (c h : Nat) (p : Nat → Nat) : Prop := ∀ i : Nat, i < c → ∀ k : Nat, k < h / p i → 0 ≤ (A 6 (Int32.ofNat (i * 128 + k))).toInt ∧ (A 6 (Int32.ofNat (i * 128 + k))).toInt ≤ 8
abbrev TE (A : Nat → Int32 → Int32) (h s : Nat) : Prop := ∀ t : Nat, s ≤ t → t < h → A 4 (Int32.ofNat t) = -1
theorem jb {h p : Nat} (hh : h ≤ 60) : h / p ≤ 60 := Nat.le_trans (Nat.div_le_self h p) hh
/- initJobs -/
theorem l_ij {F : Nat → Int32} {c h : Nat} {p e d : Nat → Nat} (f2 : F 2 = Int32.ofNat c) (f3 : F 3 = Int32.ofNat h) (c4 : c ≤ 4) (h60 : h ≤ 60) : ∀ (n : Nat), (∀ (i : Nat) (a b : Int32) (A : Nat → Int32 → Int32), TK A c h p e d → i ≤ c → (∀ i' k' : Nat, i' < i → k' < h / p i' → A 6 (Int32.ofNat (i' * 128 + k')) = Int32.ofNat (e i')) → (4 - i) * 70 + 1 ≤ n → Ok (lp_initJobs n 2 (Int32.ofNat i) a b F A) (fun r => (∀ j : Nat, ¬ j = 6 → r.2 j = A j) ∧ ∀ i' k' : Nat, i' < c → k' < h / p i' → r.2 6 (Int32.ofNat (i' * 128 + k')) = Int32.ofNat (e i'))) ∧ (∀ (i k : Nat) (A : Nat → Int32 → Int32), TK A c h p e d → i < c → k ≤ h / p i → (∀ i' k' : Nat, i' < i → k' < h / p i' → A 6 (Int32.ofNat (i' * 128 + k')) = Int32.ofNat (e i')) → (∀ k' : Nat, k' < k → A 6 (Int32.ofNat (i * 128 + k')) = Int32.ofNat (e i)) → (3 - i) * 70 + 1 + (62 - k) ≤ n → Ok (lp_initJobs n 24 (Int32.ofNat i) (Int32.ofNat (h / p i)) (Int32.ofNat k) F A) (fun r => (∀ j : Nat, ¬ j = 6 → r.2 j = A j) ∧ ∀ i' k' : Nat, i' < c → k' < h / p i' → r.2 6 (Int32.ofNat (i' * 128 + k')) = Int32.ofNat (e i'))) := by
  intro n
  induction n with
  | zero => exact ⟨fun i a b A _ _ _ h => absurd h (by omega), fun i k A _ _ _ _ _ h => absurd h (by omega)⟩
  | succ n ih =>
    refine ⟨fun i a b A t ic dn hn => ?_, fun i k A t ic kj dn dk hn => ?_⟩
    · rw [lp_initJobs_2, f2, f3]
      by_cases q : i < c
      · have ti := t i q
        rw [if_pos ((nlt (by omega) (by omega)).2 q), ti.1, if_pos ⟨nn (by omega), by rw [show (8 : Int32) = Int32.ofNat 8 from rfl, nlt (by omega) (by omega)]; omega, fun z => by have := (nz (by omega)).1 z; omega⟩, ndiv (by omega) (by omega)]
        exact ih.2 i 0 A t q (Nat.zero_le _) dn (fun k' hk => absurd hk (by omega)) (by omega)
      · have : i = c := by omega
        subst this
        rw [if_neg (fun z => by have := (nlt (a := i) (b := i) (by omega) (by omega)).1 z; omega)]
        exact Ok.ret ⟨fun _ _ => rfl, dn⟩
    · have J := jb (p := p i) h60
      rw [lp_initJobs_24]
      by_cases q : k < h / p i
      · have ti := t i ic
        rw [if_pos ((nlt (by omega) (by omega)).2 q), show (128 : Int32) = Int32.ofNat 128 from rfl, if_pos ((nlt (by omega) (by omega)).2 (by omega)), nmul, nadd, if_pos ⟨nn (by omega), by rw [show (8 : Int32) = Int32.ofNat 8 from rfl, nlt (by omega) (by omega)]; omega, nn (by omega), by rw [show (1024 : Int32) = Int32.ofNat 1024 from rfl, nlt (by omega) (by omega)]; omega⟩, n1a, ti.2.1]
        refine (ih.2 i (k + 1) _ (tk_of t (fun j hj => ups_ne _ _ (by omega))) ic (by omega) (fun i' k' a b => ?_) (fun k' hk => ?_) (by omega)).mono fun r x => ⟨fun j hj => (x.1 j hj).trans (ups_ne _ _ hj), x.2⟩
        · have J' := jb (p := p i') h60
          rw [ups_at, ups_ne _ _ (fun z => by have := nj (by omega) (by omega) z; omega)]; exact dn i' k' a b
        · rw [ups_at]
          by_cases w : k' = k
          · subst w; exact ups_at _ _ _
          · rw [ups_ne _ _ (fun z => by have := nj (by omega) (by omega) z; omega)]; exact dk k' (by omega)
      · have : k = h / p i := by omega
        rw [if_neg (fun z => by have := (nlt (by omega) (by omega)).1 z; omega), n1a]
        refine ih.1 (i + 1) 0 0 A t (by omega) (fun i' k' a b => ?_) (by omega)
        by_cases w : i' = i
        · subst w; exact dk k' (by omega)
        · exact dn i' k' (by omega) b
theorem o_ij {F : Nat → Int32} {A : Nat → Int32 → Int32} {c h : Nat} {p e d : Nat → Nat} (f2 : F 2 = Int32.ofNat c) (f3 : F 3 = Int32.ofNat h) (c4 : c ≤ 4) (h60 : h ≤ 60) (t : TK A c h p e d) : Ok (en_initJobs F A) (fun r => (∀ j : Nat, ¬ j = 6 → r.2 j = A j) ∧ ∀ i' k' : Nat, i' < c → k' < h / p i' → r.2 6 (Int32.ofNat (i' * 128 + k')) = Int32.ofNat (e i')) := by
  rw [een_initJobs]
  exact (l_ij (d := d) f2 f3 c4 h60 5000).1 0 0 0 A t (by omega) (fun i' k' a _ => absurd a (by omega)) (by omega)
/- pickJob -/
abbrev VJ (A : Nat → Int32 → Int32) (c h : Nat) (p : Nat → Nat) (r : Int32) : Prop := r < 0 ∨ ∃ i k : Nat, i < c ∧ k < h / p i ∧ r = Int32.ofNat (i * 128 + k) ∧ 0 < A 6 r
theorem l_pj {F : Nat → Int32} {A : Nat → Int32 → Int32} {c h j f : Nat} {p e d : Nat → Nat} (f2 : F 2 = Int32.ofNat c) (c4 : c ≤ 4) (h60 : h ≤ 60) (t : TK A c h p e d) (jf : j * f < h) : ∀ (n i : Nat) (v3 v4 : Int32), i ≤ c → 4 < i + n → VJ A c h p v3 → Ok (lp_pickJob n 8 (Int32.ofNat j) (Int32.ofNat f) v3 v4 (Int32.ofNat i) F A) (VJ A c h p) := by
  intro n
  induction n with
  | zero => exact fun i v3 v4 h1 h2 => absurd h2 (by omega)
  | succ n ih =>
    intro i v3 v4 h1 h2 vj
    rw [lp_pickJob_8, f2]
    by_cases q : i < c
    · have ti := t i q
      have hd : j * f / p i < h / p i := Nat.div_lt_div_of_lt_of_dvd ti.2.2.2.2.1 jf
      have J := jb (p := p i) h60
      rw [if_pos ((nlt (by omega) (by omega)).2 q), ti.1, nmul, ndiv (by omega) (by omega)]
      generalize j * f / p i = k at *
      have i0 : ¬ Int32.ofNat i < 0 := nn (by omega)
      have i8 : Int32.ofNat i < 8 := by rw [show (8 : Int32) = Int32.ofNat 8 from rfl, nlt (by omega) (by omega)]; omega
      have ix : Int32.ofNat i * 128 + Int32.ofNat k = Int32.ofNat (i * 128 + k) := by rw [show (128 : Int32) = Int32.ofNat 128 from rfl, nmul, nadd]
      rw [ix]
      have x0 : ¬ Int32.ofNat (i * 128 + k) < 0 := nn (by omega)
      have x1 : Int32.ofNat (i * 128 + k) < 1024 := by rw [show (1024 : Int32) = Int32.ofNat 1024 from rfl, nlt (by omega) (by omega)]; omega
      refine Ok.ift ⟨i0, i8, fun z => by have := (nz (by omega)).1 z; omega, fun _ _ => i0, fun _ _ => i8, fun _ _ _ => x0, fun _ _ _ => x1⟩ ?_
      rw [n1a i]
      refine ih (i + 1) _ _ (by omega) (by omega) ?_
      have good : 0 < A 6 (Int32.ofNat (i * 128 + k)) → VJ A c h p (Int32.ofNat (i * 128 + k)) := fun z => Or.inr ⟨i, k, q, hd, rfl, z⟩
      clear ih
      repeat' split
      all_goals first | exact vj | (exact good (by assumption))
    · have : i = c := by omega
      subst this
      rw [if_neg (fun z => by have := (nlt (a := i) (b := i) (by omega) (by omega)).1 z; omega)]
      exact Ok.ret vj
theorem o_pj {F : Nat → Int32} {A : Nat → Int32 → Int32} {c h j f : Nat} {p e d : Nat → Nat} (f2 : F 2 = Int32.ofNat c) (c4 : c ≤ 4) (h60 : h ≤ 60) (t : TK A c h p e d) (jf : j * f < h) : Ok (en_pickJob F A (Int32.ofNat j) (Int32.ofNat f)) (VJ A c h p) := by
  rw [een_pickJob]
  exact l_pj f2 c4 h60 t jf 5000 0 (-1) 0 (by omega) (by omega) (Or.inl (by decide))
/- fillFrame -/
theorem tc_w {A : Nat → Int32 → Int32} {h t i : Nat} {y : Int32} (ht : t < h) (h60 : h ≤ 60) (e : A 4 (Int32.ofNat t) = -1) (i' : Nat) (c4 : i' < 8) (i4 : i < 8) : tc (ups (ups A 4 (ups (A 4) (Int32.ofNat t) (Int32.ofNat i))) 5 (ups (A 5) (Int32.ofNat t) y)) i' h = tc A i' h + (if i' = i then 1 else 0) := by
  have e4 : (ups (ups A 4 (ups (A 4) (Int32.ofNat t) (Int32.ofNat i))) 5 (ups (A 5) (Int32.ofNat t) y)) 4 = ups (A 4) (Int32.ofNat t) (Int32.ofNat i) := by
    rw [ups_ne _ _ (by decide), ups_at]
  have u := sN_upd (f := fun t => if A 4 (Int32.ofNat t) = Int32.ofNat i' then 1 else 0) (g := fun x => if ups (A 4) (Int32.ofNat t) (Int32.ofNat i) (Int32.ofNat x) = Int32.ofNat i' then 1 else 0) h t ht (fun x hx n => by rw [ups_ne _ _ (fun z => n (nj (by omega) (by omega) z))])
  have n1 : ¬ (-1 : Int32) = Int32.ofNat i' := fun z => by
    have := nn (a := i') (by omega); rw [← z] at this; exact this (by decide)
  rw [e, if_neg n1, ups_at] at u
  rw [tc, e4, tc]
  by_cases w : i' = i
  · rw [if_pos w]; rw [if_pos (by rw [w])] at u; omega
  · rw [if_neg w]; rw [if_neg (fun z => w (nj (by omega) (by omega) z).symm)] at u; omega
abbrev FI (A : Nat → Int32 → Int32) (c h : Nat) (p e d : Nat → Nat) (i0 u s : Nat) : Prop := TK A c h p e d ∧ SB A c h p e i0 u ∧ RN A c h p ∧ TE A h s
abbrev FP (A : Nat → Int32 → Int32) (c h : Nat) (p e d : Nat → Nat) (s : Nat) (r : Int32 × (Nat → Int32 → Int32)) : Prop := FI r.2 c h p e d 0 0 s ∧ ∀ j : Nat, j < 4 → r.2 j = A j
theorem sb_0 {A : Nat → Int32 → Int32} {c h : Nat} {p e : Nat → Nat} {i0 i1 : Nat} (b : SB A c h p e i0 0) : SB A c h p e i1 0 := fun i hi => by
  have := b i hi
  rw [ite_self] at this ⊢; exact this
theorem rr_eq {A : Nat → Int32 → Int32} {x : Nat} (h0 : 0 ≤ (A 6 (Int32.ofNat x)).toInt) : A 6 (Int32.ofNat x) = Int32.ofNat (rr A x) := by
  apply Int32.toInt_inj.mp
  have := (A 6 (Int32.ofNat x)).toInt_lt
  rw [nI (by rw [rr]; omega), rr]; omega
theorem l_ff {F : Nat → Int32} {c h j f : Nat} {p e d : Nat → Nat} (f2 : F 2 = Int32.ofNat c) (c4 : c ≤ 4) (h60 : h ≤ 60) (f8 : f ≤ 8) (jf : j * f < h) (je : (j + 1) * f ≤ h) : ∀ (n : Nat), (∀ (s g : Nat) (a b x y z : Int32) (A : Nat → Int32 → Int32), FI A c h p e d 0 0 s → s ≤ (j + 1) * f → g ≤ f → (8 - g) * 20 + 1 ≤ n → Ok (lp_fillFrame n 14 (Int32.ofNat j) (Int32.ofNat f) (Int32.ofNat ((j + 1) * f)) (Int32.ofNat s) (Int32.ofNat g) a b x y z F A) (FP A c h p e d ((j + 1) * f))) ∧ (∀ (s g i k w u : Nat) (y : Int32) (A : Nat → Int32 → Int32), FI A c h p e d i u (s + u) → i < c → k < h / p i → w ≤ rr A (i * 128 + k) → w ≤ 8 → s + w ≤ (j + 1) * f → g < f → u ≤ w → (7 - g) * 20 + 2 + (10 - u) ≤ n → Ok (lp_fillFrame n 86 (Int32.ofNat j) (Int32.ofNat f) (Int32.ofNat ((j + 1) * f)) (Int32.ofNat s) (Int32.ofNat g) (Int32.ofNat (i * 128 + k)) (Int32.ofNat w) (Int32.ofNat i) y (Int32.ofNat (s + u)) F A) (FP A c h p e d ((j + 1) * f))) := by
  intro n
  induction n with
  | zero => exact ⟨fun s g a b x y z A _ _ _ h => absurd h (by omega), fun s g i k w u y A _ _ _ _ _ _ _ _ h => absurd h (by omega)⟩
  | succ n ih =>
    refine ⟨fun s g a b x y z A fi hs hg hn => ?_, fun s g i k w u y A fi ic kj wr w8 sw gf uw hn => ?_⟩
    · rw [lp_fillFrame_14]
      have rid : FP A c h p e d ((j + 1) * f) (0, A) := ⟨⟨fi.1, fi.2.1, fi.2.2.1, fun t a b => fi.2.2.2 t (by omega) b⟩, fun _ _ => rfl⟩
      refine Ok.ite (fun q => Ok.ite (fun q2 => ?_) fun _ => Ok.ret rid) fun _ => Ok.ret rid
      rw [nlt (by omega) (by omega)] at q q2
      have s' := (o_pj f2 c4 h60 fi.1 jf).R (eR_pickJob F A (Int32.ofNat j) (Int32.ofNat f))
      refine Ok.ift s'.1 ?_
      have s2 : VJ A c h p (R_pickJob F A (Int32.ofNat j) (Int32.ofNat f)) := s'.2
      clear s'
      generalize R_pickJob F A (Int32.ofNat j) (Int32.ofNat f) = r at *
      refine Ok.ite (fun _ => Ok.ret rid) fun r0 => ?_
      obtain ⟨i, k, ic, kj, er, pos⟩ := s2.resolve_left r0
      have J := jb (p := p i) h60
      have rn := fi.2.2.1 i ic k kj
      have re := rr_eq (A := A) (x := i * 128 + k) rn.1
      have r8 : rr A (i * 128 + k) ≤ 8 := by rw [rr]; omega
      rw [er] at pos ⊢
      have r1 : 0 < rr A (i * 128 + k) := by
        rw [re] at pos; exact (nlt (a := 0) (by omega) (by omega)).1 pos
      refine Ok.ift (by rw [show (1024 : Int32) = Int32.ofNat 1024 from rfl, nlt (by omega) (by omega)]; omega) ?_
      have ew : (if Int32.ofNat ((j + 1) * f) - Int32.ofNat s < A 6 (Int32.ofNat (i * 128 + k)) then Int32.ofNat ((j + 1) * f) - Int32.ofNat s else A 6 (Int32.ofNat (i * 128 + k))) = Int32.ofNat (if (j + 1) * f - s < rr A (i * 128 + k) then (j + 1) * f - s else rr A (i * 128 + k)) := by
        rw [nsub hs, re]
        by_cases z : (j + 1) * f - s < rr A (i * 128 + k)
        · rw [if_pos z, if_pos ((nlt (by omega) (by omega)).2 z)]
        · rw [if_neg z, if_neg (fun y => z ((nlt (by omega) (by omega)).1 y))]
      have ed : Int32.ofNat (i * 128 + k) / 128 = Int32.ofNat i := by
        rw [show (128 : Int32) = Int32.ofNat 128 from rfl, ndiv (by omega) (by omega)]; congr 1; omega
      rw [ew, ed]
      have wl : (if (j + 1) * f - s < rr A (i * 128 + k) then (j + 1) * f - s else rr A (i * 128 + k)) ≤ rr A (i * 128 + k) ∧ s + (if (j + 1) * f - s < rr A (i * 128 + k) then (j + 1) * f - s else rr A (i * 128 + k)) ≤ (j + 1) * f := by
        split <;> omega
      generalize (if (j + 1) * f - s < rr A (i * 128 + k) then (j + 1) * f - s else rr A (i * 128 + k)) = w at *
      exact ih.2 s g i k w 0 _ A ⟨fi.1, sb_0 fi.2.1, fi.2.2.1, fi.2.2.2⟩ ic kj wl.1 (by omega) wl.2 q (by omega) (by omega)
    · have J := jb (p := p i) h60
      have rn := fi.2.2.1 i ic k kj
      have re := rr_eq (A := A) (x := i * 128 + k) rn.1
      have r8 : rr A (i * 128 + k) ≤ 8 := by rw [rr]; omega
      rw [lp_fillFrame_86, nadd s w]
      by_cases q : u < w
      · rw [if_pos ((nlt (by omega) (by omega)).2 (by omega)), show (128 : Int32) = Int32.ofNat 128 from rfl, if_pos ((nlt (by omega) (by omega)).2 (by omega)), if_pos (nn (by omega)), n1a]
        have te := fi.2.2.2 (s + u) (Nat.le_refl _) (by omega)
        have a6 : (ups (ups A 4 (ups (A 4) (Int32.ofNat (s + u)) (Int32.ofNat i))) 5 (ups (A 5) (Int32.ofNat (s + u)) y)) 6 = A 6 := by rw [ups_ne _ _ (by decide), ups_ne _ _ (by decide)]
        have a4 : (ups (ups A 4 (ups (A 4) (Int32.ofNat (s + u)) (Int32.ofNat i))) 5 (ups (A 5) (Int32.ofNat (s + u)) y)) 4 = ups (A 4) (Int32.ofNat (s + u)) (Int32.ofNat i) := by rw [ups_ne _ _ (by decide), ups_at]
        have tw := fun i' h' => tc_w (A := A) (t := s + u) (i := i) (y := y) (by omega) h60 te i' h' (by omega)
        have fa : ∀ j : Nat, j < 4 → (ups (ups A 4 (ups (A 4) (Int32.ofNat (s + u)) (Int32.ofNat i))) 5 (ups (A 5) (Int32.ofNat (s + u)) y)) j = A j := fun j hj => by rw [ups_ne _ _ (by omega), ups_ne _ _ (by omega)]
        generalize ups (ups A 4 (ups (A 4) (Int32.ofNat (s + u)) (Int32.ofNat i))) 5 (ups (A 5) (Int32.ofNat (s + u)) y) = A' at *
        have r' : ∀ x : Nat, rr A' x = rr A x := fun x => by rw [rr, rr, a6]
        refine (ih.2 s g i k w (u + 1) y A' ⟨tk_of fi.1 (fun j hj => fa j (by omega)), fun i' hi => ?_, fun i' hi k' hk => by rw [a6]; exact fi.2.2.1 i' hi k' hk, fun t a b => ?_⟩ ic kj (by rw [r']; exact wr) w8 sw gf (by omega) (by omega)).mono fun r x => ⟨x.1, fun j hj => (x.2 j hj).trans (fa j hj)⟩
        · have := fi.2.1 i' hi
          rw [tw i' (by omega), sN_congr (h / p i') (fun k' _ => r' (i' * 128 + k'))]
          by_cases z : i' = i
          · rw [if_pos z] at this ⊢; rw [if_pos z]; omega
          · rw [if_neg z] at this ⊢; rw [if_neg z]; omega
        · rw [a4, ups_ne _ _ (fun z => by have := nj (by omega) (by omega) z; omega)]
          exact fi.2.2.2 t (by omega) b
      · have : u = w := by omega
        subst this
        rw [if_neg (fun z => by have := (nlt (by omega) (by omega)).1 z; omega)]
        refine Ok.ift ⟨nn (by omega), by rw [show (1024 : Int32) = Int32.ofNat 1024 from rfl, nlt (by omega) (by omega)]; omega⟩ ?_
        rw [n1a, re, nsub wr]
        have a6 : (ups A 6 (ups (A 6) (Int32.ofNat (i * 128 + k)) (Int32.ofNat (rr A (i * 128 + k) - u)))) 6 = ups (A 6) (Int32.ofNat (i * 128 + k)) (Int32.ofNat (rr A (i * 128 + k) - u)) := ups_at _ _ _
        have fa : ∀ j : Nat, ¬ j = 6 → (ups A 6 (ups (A 6) (Int32.ofNat (i * 128 + k)) (Int32.ofNat (rr A (i * 128 + k) - u)))) j = A j := fun j hj => ups_ne _ _ hj
        generalize ups A 6 (ups (A 6) (Int32.ofNat (i * 128 + k)) (Int32.ofNat (rr A (i * 128 + k) - u))) = A' at *
        have r1 : rr A' (i * 128 + k) = rr A (i * 128 + k) - u := by
          rw [rr, a6, ups_at, nI (by omega)]; omega
        have r2 : ∀ x : Nat, x < 2000 → ¬ x = i * 128 + k → rr A' x = rr A x := fun x hx n => by
          rw [rr, rr, a6, ups_ne _ _ (fun z => n (nj (by omega) (by omega) z))]
        refine (ih.1 (s + u) (g + 1) 0 0 0 0 0 A' ⟨tk_of fi.1 (fun j hj => fa j (by omega)), fun i' hi => ?_, fun i' hi k' hk => ?_, fun t a b => ?_⟩ sw (by omega) (by omega)).mono fun r x => ⟨x.1, fun j hj => (x.2 j hj).trans (fa j (by omega))⟩
        · have := fi.2.1 i' hi
          have J' := jb (p := p i') h60
          have te : tc A' i' h = tc A i' h := by rw [tc, tc, fa 4 (by decide)]
          rw [te]
          by_cases z : i' = i
          · subst z
            rw [if_pos rfl] at this
            have up := sN_upd (f := fun k' => rr A (i' * 128 + k')) (g := fun k' => rr A' (i' * 128 + k')) (h / p i') k kj (fun x hx n => r2 _ (by omega) (by omega))
            rw [r1] at up
            rw [ite_self]; omega
          · rw [if_neg z] at this
            rw [sN_congr (h / p i') (fun k' hk => r2 (i' * 128 + k') (by omega) (by omega)), ite_self]; omega
        · have J' := jb (p := p i') h60
          by_cases z : i' * 128 + k' = i * 128 + k
          · rw [z, a6, ups_at, nI (by omega)]; omega
          · rw [a6, ups_ne _ _ (fun y => z (nj (by omega) (by omega) y))]; exact fi.2.2.1 i' hi k' hk
        · rw [fa 4 (by decide)]; exact fi.2.2.2 t a b
theorem o_ff {F : Nat → Int32} {A : Nat → Int32 → Int32} {c h j f : Nat} {p e d : Nat → Nat} (f2 : F 2 = Int32.ofNat c) (c4 : c ≤ 4) (h60 : h ≤ 60) (f8 : f ≤ 8) (jf : j * f < h) (je : (j + 1) * f ≤ h) (fi : FI A c h p e d 0 0 (j * f)) : Ok (en_fillFrame F A (Int32.ofNat j) (Int32.ofNat f)) (FP A c h p e d ((j + 1) * f)) := by
  rw [een_fillFrame, n1a, nmul, nmul]
  exact (l_ff f2 c4 h60 f8 jf je 5000).1 (j * f) 0 0 0 0 0 0 A fi (Nat.mul_le_mul_right f (by omega)) (by omega) (by omega)
abbrev FM (A : Nat → Int32 → Int32) (c h : Nat) (p : Nat → Nat) (i k : Nat) (v : Int32) : Prop := (v < 0 ∧ ∀ i' k' : Nat, i' < c → k' < h / p i' → (i' < i ∨ (i' = i ∧ k' < k)) → ¬ 0 < A 6 (Int32.ofNat (i' * 128 + k'))) ∨ ∃ i0 k0 : Nat, i0 < c ∧ k0 < h / p i0 ∧ v = Int32.ofNat (i0 * 128 + k0)
theorem l_fm {F : Nat → Int32} {A : Nat → Int32 → Int32} {c h : Nat} {p e d : Nat → Nat} (f2 : F 2 = Int32.ofNat c) (f3 : F 3 = Int32.ofNat h) (c4 : c ≤ 4) (h60 : h ≤ 60) (t : TK A c h p e d) : ∀ (n : Nat), (∀ (i : Nat) (v1 v2 a b : Int32), i ≤ c → FM A c h p i 0 v1 → (4 - i) * 70 + 1 ≤ n → Ok (lp_findMiss n 6 v1 v2 (Int32.ofNat i) a b F A) (FM A c h p c 0)) ∧ (∀ (i k : Nat) (v1 v2 : Int32), i < c → k ≤ h / p i → FM A c h p i k v1 → (3 - i) * 70 + 1 + (62 - k) ≤ n → Ok (lp_findMiss n 30 v1 v2 (Int32.ofNat i) (Int32.ofNat (h / p i)) (Int32.ofNat k) F A) (FM A c h p c 0)) := by
  intro n
  induction n with
  | zero => exact ⟨fun i v1 v2 a b _ _ h => absurd h (by omega), fun i k v1 v2 _ _ _ h => absurd h (by omega)⟩
  | succ n ih =>
    refine ⟨fun i v1 v2 a b ic fm hn => ?_, fun i k v1 v2 ic kj fm hn => ?_⟩
    · rw [lp_findMiss_6, f2, f3]
      by_cases q : i < c
      · have ti := t i q
        rw [if_pos ((nlt (by omega) (by omega)).2 q), ti.1, if_pos ⟨nn (by omega), by rw [show (8 : Int32) = Int32.ofNat 8 from rfl, nlt (by omega) (by omega)]; omega, fun z => by have := (nz (by omega)).1 z; omega⟩, ndiv (by omega) (by omega)]
        exact ih.2 i 0 v1 v2 q (Nat.zero_le _) fm (by omega)
      · have : i = c := by omega
        subst this
        rw [if_neg (fun z => by have := (nlt (a := i) (b := i) (by omega) (by omega)).1 z; omega)]
        exact Ok.ret fm
    · have J := jb (p := p i) h60
      rw [lp_findMiss_30]
      by_cases q : k < h / p i
      · have ti := t i ic
        have i0 : ¬ Int32.ofNat i < 0 := nn (by omega)
        have i8 : Int32.ofNat i < 8 := by rw [show (8 : Int32) = Int32.ofNat 8 from rfl, nlt (by omega) (by omega)]; omega
        rw [if_pos ((nlt (by omega) (by omega)).2 q), show (128 : Int32) = Int32.ofNat 128 from rfl, if_pos ((nlt (by omega) (by omega)).2 (by omega)), nmul i 128, nadd (i * 128) k, if_pos ⟨nn (by omega), by rw [show (1024 : Int32) = Int32.ofNat 1024 from rfl, nlt (by omega) (by omega)]; omega, fun _ => i0, fun _ => i8⟩, n1a k]
        refine ih.2 i (k + 1) _ _ ic (by omega) ?_ (by omega)
        have here : FM A c h p i (k + 1) (Int32.ofNat (i * 128 + k)) := Or.inr ⟨i, k, ic, q, rfl⟩
        have keep : (¬ v1 < 0 ∨ ¬ 0 < A 6 (Int32.ofNat (i * 128 + k))) → FM A c h p i (k + 1) v1 := fun z => by
          rcases fm with ⟨a, b⟩ | x
          · left
            refine ⟨a, fun i' k' h1 h2 h3 => ?_⟩
            by_cases w : i' = i ∧ k' = k
            · rw [w.1, w.2]; exact z.resolve_left (fun y => y a)
            · exact b i' k' h1 h2 (by omega)
          · exact Or.inr x
        by_cases z : 0 < A 6 (Int32.ofNat (i * 128 + k))
        · rw [if_pos z]
          by_cases w : v1 < 0
          · rw [if_pos w]; exact here
          · rw [if_neg w]; split
            · exact here
            · exact keep (Or.inl w)
        · rw [if_neg z]; exact keep (Or.inr z)
      · have : k = h / p i := by omega
        rw [if_neg (fun z => by have := (nlt (by omega) (by omega)).1 z; omega), n1a]
        refine ih.1 (i + 1) v1 v2 0 0 (by omega) ?_ (by omega)
        rcases fm with ⟨a, b⟩ | x
        · left
          refine ⟨a, fun i' k' h1 h2 h3 => b i' k' h1 h2 ?_⟩
          by_cases w : i' = i
          · right; refine ⟨w, ?_⟩; rw [this, ← w]; exact h2
          · left; omega
        · exact Or.inr x
theorem o_fm {F : Nat → Int32} {A : Nat → Int32 → Int32} {c h : Nat} {p e d : Nat → Nat} (f2 : F 2 = Int32.ofNat c) (f3 : F 3 = Int32.ofNat h) (c4 : c ≤ 4) (h60 : h ≤ 60) (t : TK A c h p e d) : Ok (en_findMiss F A) (FM A c h p c 0) := by
  rw [een_findMiss]
  exact (l_fm f2 f3 c4 h60 t 5000).1 0 (-1) 0 0 0 (by omega) (Or.inl ⟨by decide, fun i' k' _ _ h => absurd h (by omega)⟩) (by omega)
/- resetDispatcher -/
abbrev RD (F : Nat → Int32) (A : Nat → Int32 → Int32) (r : Int32 × (Nat → Int32) × (Nat → Int32 → Int32)) : Prop := r.2.1 = F ∧ (∀ j : Nat, ¬ j = 3 → r.2.2 j = A j) ∧ ∀ k : Nat, k < 8 → r.2.2 3 (Int32.ofNat k) = 0
theorem l_rd (F : Nat → Int32) : ∀ (n v : Nat) (A : Nat → Int32 → Int32), v ≤ 8 → 8 < v + n → (∀ k : Nat, k < v → A 3 (Int32.ofNat k) = 0) → Ok (lp_resetDispatcher n 12 (Int32.ofNat v) F A) (RD F A) := by
  intro n
  induction n with
  | zero => exact fun v A h1 h2 _ => absurd h2 (by omega)
  | succ n ih =>
    intro v A h1 h2 h3
    rw [lp_resetDispatcher_12, show (8 : Int32) = Int32.ofNat 8 from rfl]
    by_cases q : v < 8
    · rw [if_pos ((nlt (by omega) (by omega)).2 q), if_pos (nn (by omega)), n1a]
      refine (ih (v + 1) _ (by omega) (by omega) fun k hk => ?_).mono fun r x => ⟨x.1, fun j hj => (x.2.1 j hj).trans (ups_ne _ _ hj), x.2.2⟩
      rw [ups_at]
      by_cases w : k = v
      · subst w; exact ups_at _ _ _
      · rw [ups_ne _ _ (fun z => w (nj (by omega) (by omega) z))]; exact h3 k (by omega)
    · have : v = 8 := by omega
      subst this
      rw [if_neg (by decide)]
      exact Ok.ret ⟨rfl, fun _ _ => rfl, h3⟩
theorem o_rd (F : Nat → Int32) (A : Nat → Int32 → Int32) : Ok (en_resetDispatcher F A) (RD (ups (ups F 7 0) 8 0) A) := by
  rw [een_resetDispatcher]
  exact l_rd _ 5000 0 A (by omega) (by omega) (fun k hk => absurd hk (by omega))
/- build -/
abbrev BP (F : Nat → Int32) (A : Nat → Int32 → Int32) (c h f : Nat) (p e : Nat → Nat) (r : Int32 × (Nat → Int32) × (Nat → Int32 → Int32)) : Prop := (∀ j : Nat, j < 3 → r.2.2 j = A j) ∧ (∀ k : Nat, k < 8 → r.2.2 3 (Int32.ofNat k) = 0) ∧ ((r.1 = 0 ∧ r.2.1 = ups (ups (ups (ups (ups F 7 0) 8 0) 4 1) 5 (Int32.ofNat f)) 6 (-1) ∧ ∀ i : Nat, i < c → tc r.2.2 i h = e i * (h / p i)) ∨ (r.1 = -7 ∧ ∃ i k : Nat, i < c ∧ k < h / p i ∧ r.2.1 = ups (ups (ups (ups (ups F 7 0) 8 0) 4 0) 5 0) 6 (Int32.ofNat (i * 128 + k))))
theorem l_b2 {F : Nat → Int32} {c h f m : Nat} {p e d : Nat → Nat} (f2 : F 2 = Int32.ofNat c) (f3 : F 3 = Int32.ofNat h) (c4 : c ≤ 4) (h60 : h ≤ 60) (f1 : 1 ≤ f) (f8 : f ≤ 8) (hm : m * f = h) : ∀ (n j : Nat) (A : Nat → Int32 → Int32), FI A c h p e d 0 0 (j * f) → j ≤ m → m < j + n → Ok (lp_build n 74 (Int32.ofNat f) (Int32.ofNat m) (Int32.ofNat j) F A) (BP F A c h f p e) := by
  have m60 : m ≤ 60 := by
    have := Nat.le_mul_of_pos_right m f1; omega
  intro n
  induction n with
  | zero => exact fun j A _ h1 h2 => absurd h2 (by omega)
  | succ n ih =>
    intro j A fi h1 h2
    rw [lp_build_74]
    by_cases q : j < m
    · have je : (j + 1) * f ≤ h := by rw [← hm]; exact Nat.mul_le_mul_right f q
      have jf : j * f < h := by rw [Nat.add_mul] at je; omega
      rw [if_pos ((nlt (by omega) (by omega)).2 q), n1a]
      have s' := (o_ff f2 c4 h60 f8 jf je fi).R (eR_fillFrame F A (Int32.ofNat j) (Int32.ofNat f))
      refine Ok.ift s'.1 ?_
      have s2 : FP A c h p e d ((j + 1) * f) (R_fillFrame F A (Int32.ofNat j) (Int32.ofNat f)) := s'.2
      clear s'
      generalize R_fillFrame F A (Int32.ofNat j) (Int32.ofNat f) = r at *
      exact (ih (j + 1) r.2 s2.1 (by omega) (by omega)).mono fun x y => ⟨fun j hj => (y.1 j hj).trans (s2.2 j (by omega)), y.2⟩
    · have : j = m := by omega
      subst this
      rw [hm] at fi
      rw [if_neg (fun z => by have := (nlt (a := j) (b := j) (by omega) (by omega)).1 z; omega)]
      have a := (o_fm f2 f3 c4 h60 fi.1).R (eR_findMiss F A)
      have b := (o_rd F A).R (eR_resetDispatcher F A)
      refine Ok.ift ⟨a.1, b.1⟩ ?_
      have a2 : FM A c h p c 0 (R_findMiss F A) := a.2
      have b2 : RD (ups (ups F 7 0) 8 0) A (R_resetDispatcher F A) := b.2
      clear a b
      generalize R_findMiss F A = v at *
      generalize R_resetDispatcher F A = r at *
      have b21 := b2.1
      refine Ok.ite (fun v0 => Ok.ret ⟨fun j hj => b2.2.1 j (by omega), b2.2.2, Or.inl ⟨rfl, by dsimp only; rw [b21], fun i hi => ?_⟩⟩) fun v0 => Ok.ret ⟨fun j hj => b2.2.1 j (by omega), b2.2.2, Or.inr ⟨rfl, ?_⟩⟩
      · have al := (a2.resolve_right (fun ⟨i0, k0, x, y, z⟩ => by
          have J := jb (p := p i0) h60
          rw [z] at v0; exact nn (by omega) v0)).2
        have sb := fi.2.1 i hi
        rw [ite_self] at sb
        have z := sN_k 0 (h / p i) (fun k => rr A (i * 128 + k)) (fun k hk => by
          have x := al i k hi hk (Or.inl hi)
          have y := (fi.2.2.1 i hi k hk).1
          have z0 : (0 : Int32).toInt = 0 := by decide
          rw [lt_i] at x
          rw [rr]; omega)
        rw [Nat.zero_mul] at z
        have e4 : tc r.2.2 i h = tc A i h := by rw [tc, tc, b2.2.1 4 (by decide)]
        dsimp only; rw [e4]; omega
      · obtain ⟨i0, k0, x, y, z⟩ := a2.resolve_left (fun w => v0 w.1)
        exact ⟨i0, k0, x, y, by dsimp only; rw [b21, z]⟩
theorem l_b1 {F : Nat → Int32} {c h f m : Nat} {p e d : Nat → Nat} (f2 : F 2 = Int32.ofNat c) (f3 : F 3 = Int32.ofNat h) (c4 : c ≤ 4) (h60 : h ≤ 60) (f1 : 1 ≤ f) (f8 : f ≤ 8) (hm : m * f = h) : ∀ (n t : Nat) (w : Int32) (A : Nat → Int32 → Int32), TK A c h p e d → (∀ i' k' : Nat, i' < c → k' < h / p i' → A 6 (Int32.ofNat (i' * 128 + k')) = Int32.ofNat (e i')) → (∀ x : Nat, x < t → A 4 (Int32.ofNat x) = -1) → t ≤ 128 → 200 < t + n → Ok (lp_build n 38 (Int32.ofNat f) (Int32.ofNat t) w F A) (BP F A c h f p e) := by
  have m60 : m ≤ 60 := by
    have := Nat.le_mul_of_pos_right m f1; omega
  intro n
  induction n with
  | zero => exact fun t w A _ _ _ h1 h2 => absurd h2 (by omega)
  | succ n ih =>
    intro t w A tk a6 a4 h1 h2
    rw [lp_build_38, show (128 : Int32) = Int32.ofNat 128 from rfl]
    by_cases q : t < 128
    · rw [if_pos ((nlt (by omega) (by omega)).2 q), if_pos (nn (by omega)), n1a]
      refine (ih (t + 1) 0 _ (tk_of tk (fun j hj => by rw [ups_ne _ _ (by omega), ups_ne _ _ (by omega)])) (fun i' k' x y => by rw [ups_ne _ _ (by decide), ups_ne _ _ (by decide)]; exact a6 i' k' x y) (fun x hx => ?_) (by omega) (by omega)).mono fun r x => ⟨fun j hj => (x.1 j hj).trans (by rw [ups_ne _ _ (by omega), ups_ne _ _ (by omega)]), x.2⟩
      rw [ups_ne _ _ (by decide), ups_at]
      by_cases z : x = t
      · subst z; exact ups_at _ _ _
      · rw [ups_ne _ _ (fun y => z (nj (by omega) (by omega) y))]; exact a4 x (by omega)
    · have : t = 128 := by omega
      subst this
      rw [if_neg (fun z => by have := (nlt (a := 128) (b := 128) (by omega) (by omega)).1 z; omega), if_pos (fun z => by have := (nz (by omega)).1 z; omega), f3, ndiv (by omega) (by omega)]
      have em : h / f = m := by rw [← hm, Nat.mul_div_cancel m f1]
      rw [em]
      refine l_b2 f2 f3 c4 h60 f1 f8 hm n 0 A ⟨tk, fun i hi => ?_, fun i hi k hk => ?_, fun x a b => a4 x (by omega)⟩ (by omega) (by omega)
      · have t0 : tc A i h = 0 := by
          have := sN_k 0 h (fun t => if A 4 (Int32.ofNat t) = Int32.ofNat i then 1 else 0) (fun x hx => by
            rw [a4 x (by omega), if_neg]
            intro z
            have := nn (a := i) (by omega); rw [← z] at this; exact this (by decide))
          rw [Nat.zero_mul] at this; rw [tc]; exact this
        have ti := tk i hi
        have s := sN_k (e i) (h / p i) (fun k => rr A (i * 128 + k)) (fun k hk => by
          rw [rr, a6 i k hi hk, nI (by omega)]; omega)
        rw [ite_self, t0, s]; omega
      · have ti := tk i hi
        rw [a6 i k hi hk, nI (by omega)]; omega
theorem ups_ups {α β : Type} [DecidableEq α] (f : α → β) (i : α) (x y : β) : ups (ups f i x) i y = ups f i y := by
  funext j; unfold ups; split <;> rfl
def nx (h p : Int32) : Int32 := if p + 1 < h then p + 1 else 0
def tk (A : Nat → Int32 → Int32) (p : Int32) : Nat → Int32 → Int32 := if A 4 p < 0 then A else if A 4 p < 8 then ups A 3 (ups (A 3) (A 4 p) (A 3 (A 4 p) + 1)) else A
theorem run_st (n : Nat) (v2 v3 : Int32) (F : Nat → Int32) (A : Nat → Int32 → Int32) (q : v3 < v2) (h0 : ¬ F 8 < 0) (h1 : F 8 < F 3) (h2 : ¬ 60 < F 3) : lp_run (n + 1) 39 v2 v3 F A = lp_run n 39 v2 (v3 + 1) (ups (ups F 7 (F 7 + 1)) 8 (nx (F 3) (F 8))) (tk A (F 8)) := by
  rw [lp_run_39, if_pos q, if_neg h0, if_pos h1, if_pos (show F 8 < 128 by grind)]
  unfold nx tk
  by_cases a : A 4 (F 8) < 0
  · rw [if_pos a, if_pos a]
    by_cases b : F 8 + 1 < F 3
    · rw [if_pos b, if_pos b]
    · rw [if_neg b, if_neg b, ups_ups]
  · rw [if_neg a, if_neg a]
    by_cases c : A 4 (F 8) < 8
    · rw [if_pos c, if_pos c]
      by_cases b : F 8 + 1 < F 3
      · rw [if_pos b, if_pos b]
      · rw [if_neg b, if_neg b, ups_ups]
    · rw [if_neg c, if_neg c]
      by_cases b : F 8 + 1 < F 3
      · rw [if_pos b, if_pos b]
      · rw [if_neg b, if_neg b, ups_ups]
theorem o_dv {F : Nat → Int32} {c h f : Nat} (f2 : F 2 = Int32.ofNat c) (f3 : F 3 = Int32.ofNat h) (c0 : 0 < c) (c4 : c ≤ 4) (h60 : h ≤ 60) (f1 : 1 ≤ f) (f8 : f ≤ 8) : en_dividesHyper F (Int32.ofNat f) = some (if h < f then 0 else if h % f = 0 then 1 else 0) := by
  have fz : ¬ Int32.ofNat f = 0 := fun z => by have := (nz (by omega)).1 z; omega
  have cp : 0 < Int32.ofNat c := (nlt (a := 0) (by omega) (by omega)).2 c0
  have g1 : ¬ Int32.ofNat f < 1 := fun z => by have := (nlt (a := f) (b := 1) (by omega) (by omega)).1 z; omega
  rw [een_dividesHyper, if_pos (fun _ _ _ => fz), f2, f3, if_pos cp, if_neg g1, nmod (by omega) (by omega)]
  by_cases q : h < f
  · rw [if_pos ((nlt (by omega) (by omega)).2 q), if_pos q]; rfl
  · rw [if_neg (fun z => q ((nlt (by omega) (by omega)).1 z)), if_neg q]
    have hm : h % f ≤ h := Nat.mod_le h f
    by_cases w : h % f = 0
    · rw [if_pos ((nz (by omega)).2 w), if_pos w]; rfl
    · rw [if_neg (fun z => w ((nz (by omega)).1 z)), if_neg w]; rfl
abbrev FB (w : Int64) (c : Nat) (f : Nat → Nat) : Prop := (∀ k : Nat, k < c → f_L_fld w (Int32.ofNat k) = Int32.ofNat (f k)) ∧ ∀ x : Nat, 8 * c ≤ x → x < 64 → w.toBitVec.getLsbD x = false
theorem amt8 : ∀ k : Fin 8, (((8 : Int32) * Int32.ofNat k).toInt64.toUInt64 &&& Int64.toUInt64 63) = UInt64.ofNat (8 * k) := by decide +kernel
theorem fld_bit {w : Int64} {k : Nat} (hk : k < 8) (i : Nat) : (f_L_fld w (Int32.ofNat k)).toBitVec.getLsbD i = (decide (i < 8) && w.toBitVec.getLsbD (8 * k + i)) := by
  rw [e_L_fld, XT.ushrL, amt8 ⟨k, hk⟩]
  have e : ((w.toUInt64 >>> UInt64.ofNat (8 * k)).toInt64).toBitVec = w.toBitVec >>> (8 * k) := by
    rw [show ((w.toUInt64 >>> UInt64.ofNat (8 * k)).toInt64).toBitVec = (w.toUInt64 >>> UInt64.ofNat (8 * k)).toBitVec from rfl, UInt64.toBitVec_shiftRight]
    have : ((UInt64.ofNat (8 * k)).toBitVec % 64).toNat = 8 * k := by
      simp [BitVec.toNat_umod]; omega
    rw [BitVec.ushiftRight_eq', this]; rfl
  rw [Int64.toBitVec_toInt32, Int64.toBitVec_and, e, BitVec.signExtend_eq_setWidth_of_le _ (by decide), BitVec.getLsbD_setWidth, BitVec.getLsbD_and, BitVec.getLsbD_ushiftRight]
  have m : ((255 : Int64).toBitVec).getLsbD i = decide (i < 8) := by
    rw [show (255 : Int64).toBitVec = (BitVec.allOnes 8).setWidth 64 from by decide, BitVec.getLsbD_setWidth, BitVec.getLsbD_allOnes]
    by_cases q : i < 8
    · simp [q]; omega
    · simp [q]
  rw [m]
  by_cases q : i < 8
  · have : i < 32 := by omega
    simp [q, this]
  · simp [q]
theorem shl8 : ∀ (k : Fin 8) (v : Fin 9), ((Int32.ofNat v).toInt64 <<< (((8 : Int32) * Int32.ofNat k).toInt64 &&& 63)).toBitVec = (BitVec.ofNat 64 v) <<< (8 * k.1) := by decide +kernel
theorem v8b : ∀ (v : Fin 9) (i : Fin 64), (BitVec.ofNat 64 v).getLsbD i = (decide (i.1 < 8) && (Int32.ofNat v).toBitVec.getLsbD i) := by decide +kernel
theorem fb_add {w : Int64} {c : Nat} {f : Nat → Nat} (h : FB w c f) (c4 : c < 4) {v : Nat} (v8 : v ≤ 8) : FB (w ||| ((Int32.ofNat v).toInt64 <<< (((8 : Int32) * Int32.ofNat c).toInt64 &&& 63))) (c + 1) (fun k => if k = c then v else f k) := by
  have e := shl8 ⟨c, by omega⟩ ⟨v, by omega⟩
  refine ⟨fun k hk => ?_, fun x h1 h2 => ?_⟩
  · apply Int32.toBitVec_inj.mp
    apply BitVec.eq_of_getLsbD_eq
    intro i hi
    rw [fld_bit (by omega), Int64.toBitVec_or, e, BitVec.getLsbD_or, BitVec.getLsbD_shiftLeft]
    dsimp only
    by_cases q : k = c
    · subst q
      rw [if_pos rfl]
      by_cases i8 : i < 8
      · have z := h.2 (8 * k + i) (by omega) (by omega)
        have b := v8b ⟨v, by omega⟩ ⟨i, by omega⟩
        have : 8 * k + i - 8 * k = i := by omega
        rw [z, this, b]
        have a1 : 8 * k + i < 64 := by omega
        have a2 : ¬ 8 * k + i < 8 * k := by omega
        simp [i8, a1]
      · have y : (Int32.ofNat v).toBitVec.getLsbD i = false := by
          have : (Int32.ofNat v).toBitVec.toNat = v := by simp; omega
          rw [BitVec.getLsbD, this]
          exact Nat.testBit_lt_two_pow (Nat.lt_of_lt_of_le (show v < 2 ^ 4 by omega) (Nat.pow_le_pow_right (by decide) (by omega)))
        rw [y]; simp [i8]
    · rw [if_neg q, ← h.1 k (by omega), fld_bit (by omega)]
      by_cases i8 : i < 8
      · have a2 : 8 * k + i < 8 * c := by omega
        simp [a2]
      · simp [i8]
  · rw [Int64.toBitVec_or, e, BitVec.getLsbD_or, BitVec.getLsbD_shiftLeft, h.2 x (by omega) h2]
    have b := v8b ⟨v, by omega⟩ ⟨x - 8 * c, by omega⟩
    dsimp only at b ⊢
    rw [b]
    have : ¬ x - 8 * c < 8 := by omega
    simp [this]
theorem j_dl {F : Nat → Int32} {A : Nat → Int32 → Int32} {c h f : Nat} {p e d : Nat → Nat} {w2 w4 : Int64} (f2 : F 2 = Int32.ofNat c) (c4 : c ≤ 4) (f8 : f ≤ 8) (t : TK A c h p e d) (b2 : FB w2 c p) (b4 : FB w4 c d) : ∀ (k i n m : Nat), i + k = c → k < n → k < m → ∃ x y : Int32, lp_deadlinesOk n 2 (Int32.ofNat f) (Int32.ofNat i) F A = some x ∧ lp_L_deadlineFails m 3 (Int32.ofNat f) (Int32.ofNat c) w2 w4 (Int32.ofNat i) = some y ∧ ((x = 0 ∧ y = 1) ∨ (x = 1 ∧ y = 0)) := by
  intro k
  induction k with
  | zero =>
    intro i n m hi hn hm
    obtain ⟨n, rfl⟩ : ∃ z, n = z + 1 := ⟨n - 1, by omega⟩
    obtain ⟨m, rfl⟩ : ∃ z, m = z + 1 := ⟨m - 1, by omega⟩
    have : ¬ Int32.ofNat i < Int32.ofNat c := fun z => by have := (nlt (by omega) (by omega)).1 z; omega
    rw [lp_deadlinesOk_2, lp_L_deadlineFails_3, f2, if_neg this, if_neg this]
    exact ⟨1, 0, rfl, rfl, Or.inr ⟨rfl, rfl⟩⟩
  | succ k ih =>
    intro i n m hi hn hm
    obtain ⟨n, rfl⟩ : ∃ z, n = z + 1 := ⟨n - 1, by omega⟩
    obtain ⟨m, rfl⟩ : ∃ z, m = z + 1 := ⟨m - 1, by omega⟩
    have lt : Int32.ofNat i < Int32.ofNat c := (nlt (by omega) (by omega)).2 (by omega)
    have ti := t i (by omega)
    have g1 := e_gc (a := f) (b := p i) (by omega) (by omega)
    have g2 := e_gL (a := f) (b := p i) (by omega) (by omega)
    have i8 : Int32.ofNat i < 8 := by rw [show (8 : Int32) = Int32.ofNat 8 from rfl, nlt (by omega) (by omega)]; omega
    rw [lp_deadlinesOk_2, lp_L_deadlineFails_3, f2, if_pos lt, if_pos lt, if_pos i8, b2.1 i (by omega), b4.1 i (by omega), ti.1, ti.2.2.1, g1, g2, ifS, if_pos ⟨nn (by omega), i8, rfl⟩, r_of (eR_gcd _ _) g1, r_of (eR_L_gcd _ _) g2, n1a]
    by_cases q : Int32.ofNat (d i) < 2 * Int32.ofNat f - Int32.ofNat (Nat.gcd (p i) f)
    · rw [if_pos q, if_pos q]; exact ⟨0, 1, rfl, rfl, Or.inl ⟨rfl, rfl⟩⟩
    · rw [if_neg q, if_neg q]; exact ih (i + 1) n m (by omega) (by omega) (by omega)
/-- what build answers, with what the law reckons -/
theorem o_bd {F : Nat → Int32} {A : Nat → Int32 → Int32} {c h f : Nat} {p e d : Nat → Nat} {w2 w4 : Int64} (f2 : F 2 = Int32.ofNat c) (c4 : c ≤ 4) (c0 : 0 < c) (f3 : F 3 = Int32.ofNat h) (h60 : h ≤ 60) (f1 : 1 ≤ f) (f8 : f ≤ 8) (t : TK A c h p e d) (b2 : FB w2 c p) (b4 : FB w4 c d) : (h < f → en_build F A (Int32.ofNat f) = some (-5, F, A)) ∧ (¬ h < f → ¬ h % f = 0 → en_build F A (Int32.ofNat f) = some (-5, F, A)) ∧ (¬ h < f → h % f = 0 → (en_L_deadlineFails (Int32.ofNat f) (Int32.ofNat c) w2 w4 = some 1 ∧ en_build F A (Int32.ofNat f) = some (-6, F, A)) ∨ (en_L_deadlineFails (Int32.ofNat f) (Int32.ofNat c) w2 w4 = some 0 ∧ Ok (en_build F A (Int32.ofNat f)) (BP F A c h f p e))) := by
  have cz : ¬ F 2 = 0 := by rw [f2]; exact fun z => by have := (nz (by omega)).1 z; omega
  have dv := o_dv f2 f3 c0 c4 h60 f1 f8
  refine ⟨fun q => ?_, fun q w => ?_, fun q w => ?_⟩
  · rw [if_pos q] at dv
    rw [een_build, if_neg cz, dv, ifS, r_of (eR_dividesHyper F _) dv, if_pos rfl]
  · rw [if_neg q, if_neg w] at dv
    rw [een_build, if_neg cz, dv, ifS, r_of (eR_dividesHyper F _) dv, if_pos rfl]
  · rw [if_neg q, if_pos w] at dv
    rw [een_build, if_neg cz, dv, ifS, r_of (eR_dividesHyper F _) dv, if_neg (by decide), een_L_deadlineFails]
    obtain ⟨x, y, ex, ey, xy⟩ := j_dl (f := f) f2 c4 f8 t b2 b4 c 0 5000 1000 (by omega) (by omega) (by omega)
    have ex' : en_deadlinesOk F A (Int32.ofNat f) = some x := by rw [een_deadlinesOk]; exact ex
    have ey' : lp_L_deadlineFails 1000 3 (Int32.ofNat f) (Int32.ofNat c) w2 w4 0 = some y := ey
    rw [ex', ifS, r_of (eR_deadlinesOk F A _) ex', ey']
    rcases xy with ⟨rfl, rfl⟩ | ⟨rfl, rfl⟩
    · left; rw [if_pos rfl]; exact ⟨rfl, rfl⟩
    · right
      refine ⟨rfl, ?_⟩
      rw [if_neg (by decide)]
      have s' := (o_ij f2 f3 c4 h60 t).R (eR_initJobs F A)
      refine Ok.ift s'.1 ?_
      have s2 : (∀ j : Nat, ¬ j = 6 → (R_initJobs F A).2 j = A j) ∧ ∀ i' k' : Nat, i' < c → k' < h / p i' → (R_initJobs F A).2 6 (Int32.ofNat (i' * 128 + k')) = Int32.ofNat (e i') := s'.2
      clear s'
      generalize R_initJobs F A = r at *
      exact (l_b1 (m := h / f) f2 f3 c4 h60 f1 f8 (Nat.div_mul_cancel (Nat.dvd_of_mod_eq_zero w)) 5000 0 0 r.2 (tk_of t (fun j hj => s2.1 j (by omega))) s2.2 (fun x hx => absurd hx (by omega)) (by omega) (by omega)).mono fun r' z => ⟨fun j hj => (z.1 j hj).trans (s2.1 j (by omega)), z.2⟩
abbrev RI (F : Nat → Int32) (A : Nat → Int32 → Int32) (c h : Nat) (dm : Nat → Nat) (now : Nat) : Prop := F 7 = Int32.ofNat now ∧ F 8 = Int32.ofNat (now % h) ∧ ∀ i : Nat, i < c → A 3 (Int32.ofNat i) = Int32.ofNat (now / h * dm i + tc A i (now % h))
theorem tk_3 {A : Nat → Int32 → Int32} {x : Int32} {i : Nat} (i8 : i < 8) : tk A x 3 (Int32.ofNat i) = A 3 (Int32.ofNat i) + Int32.ofNat (if A 4 x = Int32.ofNat i then 1 else 0) := by
  have i0 : ¬ Int32.ofNat i < 0 := nn (by omega)
  have i1 : Int32.ofNat i < 8 := by rw [show (8 : Int32) = Int32.ofNat 8 from rfl, nlt (by omega) (by omega)]; omega
  rw [tk]
  by_cases e : A 4 x = Int32.ofNat i
  · rw [e, if_neg i0, if_pos i1, ups_at, ups_at, if_pos rfl]; rfl
  · rw [if_neg e]
    have z : A 3 (Int32.ofNat i) + Int32.ofNat 0 = A 3 (Int32.ofNat i) := Int32.add_zero _
    rw [z]
    by_cases p : A 4 x < 0
    · rw [if_pos p]
    · rw [if_neg p]
      by_cases q : A 4 x < 8
      · rw [if_pos q, ups_at, ups_ne _ _ (fun w => e w.symm)]
      · rw [if_neg q]
theorem tk_j {A : Nat → Int32 → Int32} {x : Int32} {j : Nat} (h : ¬ j = 3) : tk A x j = A j := by
  rw [tk]; split
  · rfl
  · split
    · exact ups_ne _ _ h
    · rfl
theorem nxt_now {h now : Nat} (h0 : 0 < h) : (now % h + 1 < h ∧ (now + 1) % h = now % h + 1 ∧ (now + 1) / h = now / h) ∨ (now % h + 1 = h ∧ (now + 1) % h = 0 ∧ (now + 1) / h = now / h + 1) := by
  have e := Nat.div_add_mod now h
  have l := Nat.mod_lt now h0
  by_cases q : now % h + 1 < h
  · left
    have e' : now + 1 = h * (now / h) + (now % h + 1) := by omega
    refine ⟨q, ?_, ?_⟩
    · rw [e', Nat.mul_add_mod, Nat.mod_eq_of_lt q]
    · have : (now + 1) / h = (h * (now / h) + (now % h + 1)) / h := by rw [← e']
      rw [this, Nat.mul_add_div h0, Nat.div_eq_of_lt q, Nat.add_zero]
  · right
    have e' : now + 1 = h * (now / h + 1) := by rw [Nat.mul_add]; omega
    refine ⟨by omega, ?_, ?_⟩
    · rw [e', Nat.mul_mod_right]
    · have : (now + 1) / h = (h * (now / h + 1)) / h := by rw [← e']
      rw [this, Nat.mul_div_cancel_left _ h0]
theorem nx_now {h now : Nat} (h0 : 0 < h) (h60 : h ≤ 60) : nx (Int32.ofNat h) (Int32.ofNat (now % h)) = Int32.ofNat ((now + 1) % h) := by
  have l := Nat.mod_lt now h0
  rw [nx, n1a]
  rcases nxt_now (now := now) h0 with ⟨a, b, _⟩ | ⟨a, b, _⟩
  · rw [if_pos ((nlt (by omega) (by omega)).2 a), b]
  · rw [if_neg (fun z => by have := (nlt (by omega) (by omega)).1 z; omega), b]; rfl
theorem l_run {c h : Nat} {dm : Nat → Nat} (c4 : c ≤ 4) (h0 : 0 < h) (h60 : h ≤ 60) : ∀ (k n v s now : Nat) (F : Nat → Int32) (A : Nat → Int32 → Int32), v + k = s → s < 1000 → k < n → F 3 = Int32.ofNat h → (∀ i : Nat, i < c → tc A i h = dm i) → RI F A c h dm now → Ok (lp_run n 39 (Int32.ofNat s) (Int32.ofNat v) F A) (fun r => r.1 = Int32.ofNat s ∧ (∀ j : Nat, ¬ j = 7 → ¬ j = 8 → r.2.1 j = F j) ∧ (∀ j : Nat, ¬ j = 3 → r.2.2 j = A j) ∧ RI r.2.1 r.2.2 c h dm (now + k)) := by
  intro k
  induction k with
  | zero =>
    intro n v s now F A hv hs hn f3 ht ri
    obtain ⟨n, rfl⟩ : ∃ z, n = z + 1 := ⟨n - 1, by omega⟩
    have e : v = s := by omega
    subst e
    rw [lp_run_39, if_neg (fun z => by have := (nlt (a := v) (b := v) (by omega) (by omega)).1 z; omega)]
    exact Ok.ret ⟨rfl, fun _ _ _ => rfl, fun _ _ => rfl, ri⟩
  | succ k ih =>
    intro n v s now F A hv hs hn f3 ht ri
    obtain ⟨n, rfl⟩ : ∃ z, n = z + 1 := ⟨n - 1, by omega⟩
    have l := Nat.mod_lt now h0
    rw [run_st n _ _ F A ((nlt (by omega) (by omega)).2 (by omega)) (by rw [ri.2.1]; exact nn (by omega)) (by rw [ri.2.1, f3, nlt (by omega) (by omega)]; exact l) (by rw [f3, show (60 : Int32) = Int32.ofNat 60 from rfl, nlt (by omega) (by omega)]; omega), n1a, ri.1, ri.2.1, f3, n1a, nx_now h0 h60]
    have e4 : tk A (Int32.ofNat (now % h)) 4 = A 4 := tk_j (by decide)
    have tce : ∀ i H : Nat, tc (tk A (Int32.ofNat (now % h))) i H = tc A i H := fun i H => by rw [tc, tc, e4]
    refine (ih n (v + 1) s (now + 1) _ _ (by omega) hs (by omega) ?_ (fun i hi => by rw [tce]; exact ht i hi) ⟨?_, ?_, fun i hi => ?_⟩).mono fun r x => ⟨x.1, fun j a b => (x.2.1 j a b).trans (by rw [ups_ne _ _ b, ups_ne _ _ a]), fun j a => (x.2.2.1 j a).trans (tk_j a), by rw [show now + (k + 1) = now + 1 + k by omega]; exact x.2.2.2⟩
    · rw [ups_ne _ _ (by decide), ups_ne _ _ (by decide)]; exact f3
    · rw [ups_ne _ _ (by decide), ups_at]
    · rw [ups_at]
    · rw [tk_3 (by omega), ri.2.2 i hi, nadd, tce]
      congr 1
      have hi' := ht i hi
      rcases nxt_now (now := now) h0 with ⟨a, b, e⟩ | ⟨a, b, e⟩
      · rw [b, e, tc, tc, sN]; omega
      · have : tc A i (now % h + 1) = tc A i (now % h) + (if A 4 (Int32.ofNat (now % h)) = Int32.ofNat i then 1 else 0) := rfl
        have z : tc A i 0 = 0 := rfl
        rw [a] at this
        rw [b, e, Nat.add_mul, z]; omega
theorem sN_le {f : Nat → Nat} : ∀ k : Nat, (∀ i : Nat, i < k → f i ≤ 1) → sN f k ≤ k
  | 0, _ => Nat.le_refl _
  | k + 1, h => by rw [sN]; have := sN_le k (fun i hi => h i (by omega)); have := h k (by omega); omega
theorem sN_mono {f : Nat → Nat} : ∀ (d a : Nat), sN f a ≤ sN f (a + d)
  | 0, _ => Nat.le_refl _
  | d + 1, a => by rw [show a + (d + 1) = (a + d) + 1 by omega, sN]; have := sN_mono (f := f) d a; omega
theorem tc_le (A : Nat → Int32 → Int32) (i H : Nat) : tc A i H ≤ H := sN_le H fun t _ => by split <;> omega
theorem tc_mono (A : Nat → Int32 → Int32) (i : Nat) {a b : Nat} (h : a ≤ b) : tc A i a ≤ tc A i b := by
  have := sN_mono (f := fun t => if A 4 (Int32.ofNat t) = Int32.ofNat i then 1 else 0) (b - a) a
  rw [show a + (b - a) = b by omega] at this; exact this
abbrev JP (F : Nat → Int32) (A : Nat → Int32 → Int32) (c h fr now : Nat) (p e : Nat → Nat) : Prop := (fr = 0 ∧ F 4 = 0 ∧ now = 0 ∧ ∀ k : Nat, k < 8 → A 3 (Int32.ofNat k) = 0) ∨ (0 < c ∧ 1 ≤ fr ∧ fr ≤ 8 ∧ F 4 = 1 ∧ F 5 = Int32.ofNat fr ∧ (∀ i : Nat, i < c → tc A i h = e i * (h / p i)) ∧ RI F A c h (fun i => e i * (h / p i)) now)
abbrev JC (F : Nat → Int32) (A : Nat → Int32 → Int32) (c h fr now : Nat) (ms : Int32) (w7 w9 w11 : Int64) (p e d : Nat → Nat) : Prop := (F 0 = 4 ∧ F 1 = 60) ∧ F 2 = Int32.ofNat c ∧ c ≤ 4 ∧ (c = 0 → h = 0) ∧ (0 < c → 0 < h ∧ F 3 = Int32.ofNat h) ∧ h ≤ 60 ∧ F 6 = ms ∧ F 7 = Int32.ofNat now ∧ JP F A c h fr now p e ∧ TK A c h p e d ∧ FB w7 c p ∧ FB w9 c e ∧ FB w11 c d
theorem e_rt {F : Nat → Int32} {A : Nat → Int32 → Int32} {c i : Nat} (f2 : F 2 = Int32.ofNat c) (c4 : c ≤ 4) (hi : i < c) : en_getRunTicks F A (Int32.ofNat i) = some (A 3 (Int32.ofNat i)) := by
  rw [een_getRunTicks, f2, if_neg (nn (by omega)), if_pos ((nlt (by omega) (by omega)).2 hi), if_pos]
  rw [show (8 : Int32) = Int32.ofNat 8 from rfl, nlt (by omega) (by omega)]; omega
theorem e_rtc {F : Nat → Int32} {A : Nat → Int32 → Int32} {c : Nat} (f2 : F 2 = Int32.ofNat c) (c4 : c ≤ 4) : en_getRunTicks F A (Int32.ofNat c) = some (-1) ∧ en_getRunTicks F A (-1) = some (-1) := by
  refine ⟨?_, ?_⟩
  · rw [een_getRunTicks, f2, if_neg (nn (by omega)), if_neg]
    intro z; have := (nlt (a := c) (b := c) (by omega) (by omega)).1 z; omega
  · rw [een_getRunTicks, if_pos (by decide)]
theorem cmp_rk {L T D M : Nat} (hL : L ≤ 100000000) (hD : D ≤ 480) (hM : M ≤ 60) (t1 : T ≤ M) (t2 : T ≤ D) : (if Int32.ofNat (L + T) < Int32.ofNat L then some (0 : Int32) else if (Int32.ofNat L + if Int32.ofNat M < Int32.ofNat D then Int32.ofNat M else Int32.ofNat D) < Int32.ofNat (L + T) then some 0 else some 1) = some 1 := by
  rw [if_neg (fun z => by have := (nlt (by omega) (by omega)).1 z; omega)]
  have em : (if Int32.ofNat M < Int32.ofNat D then Int32.ofNat M else Int32.ofNat D) = Int32.ofNat (if M < D then M else D) := by
    by_cases w : M < D
    · rw [if_pos w, if_pos ((nlt (by omega) (by omega)).2 w)]
    · rw [if_neg w, if_neg (fun z => w ((nlt (by omega) (by omega)).1 z))]
  rw [em, nadd, if_neg]
  intro z
  have := (nlt (by split <;> omega) (by omega)).1 z
  split at this <;> omega
theorem l_rk {F : Nat → Int32} {A : Nat → Int32 → Int32} {c h fr now : Nat} {ms : Int32} {w7 w9 w11 : Int64} {p e d : Nat → Nat} (j : JC F A c h fr now ms w7 w9 w11 p e d) (nb : now ≤ 100000) : ∀ (k i n : Nat), i + k = c → k < n → lp_L_runsOk n 3 (Int32.ofNat c) (Int32.ofNat h) (Int32.ofNat fr) (Int32.ofNat now) w7 w9 (Int32.ofNat i) F A = some 1 := by
  obtain ⟨_, f2, c4, ch, cp, h60, _, _, jp, tk, b7, b9, _⟩ := j
  intro k
  induction k with
  | zero =>
    intro i n hi hn
    obtain ⟨n, rfl⟩ : ∃ z, n = z + 1 := ⟨n - 1, by omega⟩
    have e : i = c := by omega
    subst e
    have r := e_rtc (A := A) f2 c4
    rw [lp_L_runsOk_3, if_neg (fun z => by have := (nlt (a := i) (b := i) (by omega) (by omega)).1 z; omega), if_pos ⟨by rw [r.1]; rfl, fun _ => by rw [r.2]; rfl⟩, r_of (eR_getRunTicks F A _) r.1, r_of (eR_getRunTicks F A _) r.2, if_pos rfl, if_pos rfl]
    rfl
  | succ k ih =>
    intro i n hi hn
    obtain ⟨n, rfl⟩ : ∃ z, n = z + 1 := ⟨n - 1, by omega⟩
    have ic : i < c := by omega
    have r := e_rt (A := A) f2 c4 ic
    have nx := ih (i + 1) n (by omega) (by omega)
    rw [lp_L_runsOk_3, if_pos ((nlt (by omega) (by omega)).2 ic), if_pos (by rw [show (8 : Int32) = Int32.ofNat 8 from rfl, nlt (by omega) (by omega)]; omega), r, ifS, r_of (eR_getRunTicks F A _) r, n1a, nx]
    rcases jp with ⟨z, _, _, a3⟩ | ⟨_, fr1, fr8, _, _, ht, ri⟩
    · subst z
      rw [if_pos (show Int32.ofNat 0 = 0 from rfl), a3 i (by omega), if_pos rfl]
    · have ti := tk i ic
      have h0 := (cp (by omega)).1
      have l := Nat.mod_lt now h0
      have J := jb (p := p i) h60
      have e8 : e i ≤ 8 := by omega
      have dq : e i * (h / p i) ≤ 480 := Nat.le_trans (Nat.mul_le_mul e8 J) (by omega)
      have q1 : now / h ≤ now := Nat.div_le_self now h
      have lo : now / h * (e i * (h / p i)) ≤ 100000 * 480 := Nat.mul_le_mul (by omega) dq
      rw [if_neg (fun z => by have := (nz (by omega)).1 z; omega), b7.1 i ic, b9.1 i ic, if_pos ⟨fun z => by have := (nz (by omega)).1 z; omega, fun z => by have := (nz (by omega)).1 z; omega⟩]
      have tl := tc_le A i (now % h)
      have tm := tc_mono A i (Nat.le_of_lt l)
      rw [ht i ic] at tm
      rw [ri.2.2 i ic]
      dsimp only
      rw [ndiv (a := now) (by omega) (by omega), ndiv (a := h) (by omega) (by omega), nmod (a := now) (by omega) (by omega), nmul (e i), nmul (now / h)]
      exact cmp_rk (by omega) (by omega) (by omega) tl tm
theorem o_rk {F : Nat → Int32} {A : Nat → Int32 → Int32} {c h fr now : Nat} {ms : Int32} {w7 w9 w11 : Int64} {p e d : Nat → Nat} (j : JC F A c h fr now ms w7 w9 w11 p e d) (nb : now ≤ 100000) : en_L_runsOk F A (Int32.ofNat c) (Int32.ofNat h) (Int32.ofNat fr) (Int32.ofNat now) w7 w9 = some 1 := by
  rw [een_L_runsOk]; exact l_rk j nb c 0 1000 (by omega) (by have := j.2.2.1; omega)
theorem gets {F : Nat → Int32} {A : Nat → Int32 → Int32} {c h fr now : Nat} {ms : Int32} {w7 w9 w11 : Int64} {p e d : Nat → Nat} (j : JC F A c h fr now ms w7 w9 w11 p e d) : f_getTaskCount F = Int32.ofNat c ∧ f_getHyperperiod F = Int32.ofNat h ∧ f_getFrame F = Int32.ofNat fr ∧ f_getNow F = Int32.ofNat now ∧ f_getMiss F = ms := by
  obtain ⟨_, f2, c4, ch, cp, h60, f6, f7, jp, tk, b7, b9, _⟩ := j
  refine ⟨by rw [e_getTaskCount, f2], ?_, ?_, by rw [e_getNow, f7], by rw [e_getMiss, f6]⟩
  · rw [e_getHyperperiod, f2]
    by_cases z : c = 0
    · rw [if_pos ((nz (by omega)).2 z), ch z]; rfl
    · rw [if_neg (fun y => z ((nz (by omega)).1 y)), (cp (by omega)).2]
  · rw [e_getFrame]
    rcases jp with ⟨z, f4, _, _⟩ | ⟨_, fr1, fr8, f4, f5, _, _⟩
    · rw [f4, if_pos rfl, z]; rfl
    · rw [f4, if_neg (by decide), f5]
def nhy (h p : Nat) : Nat := if h = 0 then p else lc h p
theorem nhy_le {h p : Nat} (hh : h ≤ 60) (hp : p ≤ 8) : nhy h p ≤ 480 := by
  rw [nhy]; split
  · omega
  · exact lc_le hh hp
theorem jc_add {F F' : Nat → Int32} {A A' : Nat → Int32 → Int32} {c h fr now : Nat} {ms : Int32} {w7 w9 w11 : Int64} {p e d : Nat → Nat} (j : JC F A c h fr now ms w7 w9 w11 p e d) {P E D : Nat} (c4 : c < 4) (p1 : 1 ≤ P) (p8 : P ≤ 8) (e1 : 1 ≤ E) (ed : E ≤ D) (dp : D ≤ P) (hy : nhy h P ≤ 60)
    (ef : F' = ups (ups (ups (ups (ups (ups (ups F 2 (Int32.ofNat (c + 1))) 3 (Int32.ofNat (nhy h P))) 4 0) 5 0) 6 (-1)) 7 0) 8 0) (ea : ∀ j : Nat, ¬ j = 3 → A' j = (ups (ups (ups A 0 (ups (A 0) (Int32.ofNat c) (Int32.ofNat P))) 1 (ups (A 1) (Int32.ofNat c) (Int32.ofNat E))) 2 (ups (A 2) (Int32.ofNat c) (Int32.ofNat D))) j) (e3 : ∀ k : Nat, k < 8 → A' 3 (Int32.ofNat k) = 0) :
    JC F' A' (c + 1) (nhy h P) 0 0 (-1) (w7 ||| ((Int32.ofNat P).toInt64 <<< (((8 : Int32) * Int32.ofNat c).toInt64 &&& 63))) (w9 ||| ((Int32.ofNat E).toInt64 <<< (((8 : Int32) * Int32.ofNat c).toInt64 &&& 63))) (w11 ||| ((Int32.ofNat D).toInt64 <<< (((8 : Int32) * Int32.ofNat c).toInt64 &&& 63))) (fun k => if k = c then P else p k) (fun k => if k = c then E else e k) (fun k => if k = c then D else d k) := by
  obtain ⟨⟨f0, f1⟩, f2, _, ch, cp, h60, f6, f7, jp, tk, b7, b9, b11⟩ := j
  have a0 : A' 0 = ups (A 0) (Int32.ofNat c) (Int32.ofNat P) := by rw [ea 0 (by decide), ups_ne _ _ (by decide), ups_ne _ _ (by decide), ups_at]
  have a1 : A' 1 = ups (A 1) (Int32.ofNat c) (Int32.ofNat E) := by rw [ea 1 (by decide), ups_ne _ _ (by decide), ups_at]
  have a2 : A' 2 = ups (A 2) (Int32.ofNat c) (Int32.ofNat D) := by rw [ea 2 (by decide), ups_at]
  have hp : 0 < nhy h P := by
    rw [nhy]; split
    · omega
    · exact lc_pos (by omega) (by omega)
  subst ef
  refine ⟨⟨by simp [ups, f0], by simp [ups, f1]⟩, by simp [ups], by omega, fun z => absurd z (by omega), fun _ => ⟨hp, by simp [ups]⟩, hy, by simp [ups], by simp [ups], Or.inl ⟨rfl, by simp [ups], rfl, e3⟩, fun i hi => ?_, fb_add b7 c4 p8, fb_add b9 c4 (by omega), fb_add b11 c4 (by omega)⟩
  rw [a0, a1, a2]
  by_cases q : i = c
  · subst q
    rw [ups_at, ups_at, ups_at]
    simp only [if_true]
    refine ⟨trivial, trivial, trivial, ⟨p1, p8⟩, ?_, e1, ed, dp⟩
    rw [nhy]; split
    · exact Nat.dvd_refl _
    · exact lc_r
  · have ne : ¬ Int32.ofNat i = Int32.ofNat c := fun z => q (nj (by omega) (by omega) z)
    have ti := tk i (by omega)
    rw [ups_ne _ _ ne, ups_ne _ _ ne, ups_ne _ _ ne]
    simp only [if_neg q]
    refine ⟨ti.1, ti.2.1, ti.2.2.1, ti.2.2.2.1, ?_, ti.2.2.2.2.2⟩
    have hz := (cp (by omega)).1
    rw [nhy, if_neg (by omega)]
    exact Nat.dvd_trans ti.2.2.2.2.1 lc_l
/-- what addTask answers -/
theorem o_add {F : Nat → Int32} {A : Nat → Int32 → Int32} {c h fr now : Nat} {ms : Int32} {w7 w9 w11 : Int64} {p e d : Nat → Nat} (j : JC F A c h fr now ms w7 w9 w11 p e d) {P E D : Nat} (p1 : 1 ≤ P) (p8 : P ≤ 8) (e1 : 1 ≤ E) (e8 : E ≤ 8) (dp : D ≤ P) : Ok (en_addTask F A (Int32.ofNat P) (Int32.ofNat E) (Int32.ofNat D)) (fun r => r.1 = (if Int32.ofNat D < 1 then (-1 : Int32) else (if Int32.ofNat D < Int32.ofNat E then (-1 : Int32) else (if Int32.ofNat c = 4 then (-2 : Int32) else (if 60 < Int32.ofNat (nhy h P) then (-3 : Int32) else Int32.ofNat c)))) ∧ (r.1 < 0 → r.2 = (F, A)) ∧ (¬ r.1 < 0 → JC r.2.1 r.2.2 (c + 1) (nhy h P) 0 0 (-1) (w7 ||| ((Int32.ofNat P).toInt64 <<< (((8 : Int32) * Int32.ofNat c).toInt64 &&& 63))) (w9 ||| ((Int32.ofNat E).toInt64 <<< (((8 : Int32) * Int32.ofNat c).toInt64 &&& 63))) (w11 ||| ((Int32.ofNat D).toInt64 <<< (((8 : Int32) * Int32.ofNat c).toInt64 &&& 63))) (fun k => if k = c then P else p k) (fun k => if k = c then E else e k) (fun k => if k = c then D else d k))) := by
  have f0 := j.1.1
  have f1 := j.1.2
  have f2 := j.2.1
  have c4 := j.2.2.1
  have ch := j.2.2.2.1
  have cp := j.2.2.2.2.1
  have h60 := j.2.2.2.2.2.1
  have bad : ∀ x : Int32, x < 0 → Ok (some (x, F, A)) (fun r => r.1 = x ∧ (r.1 < 0 → r.2 = (F, A)) ∧ (¬ r.1 < 0 → JC r.2.1 r.2.2 (c + 1) (nhy h P) 0 0 (-1) (w7 ||| ((Int32.ofNat P).toInt64 <<< (((8 : Int32) * Int32.ofNat c).toInt64 &&& 63))) (w9 ||| ((Int32.ofNat E).toInt64 <<< (((8 : Int32) * Int32.ofNat c).toInt64 &&& 63))) (w11 ||| ((Int32.ofNat D).toInt64 <<< (((8 : Int32) * Int32.ofNat c).toInt64 &&& 63))) (fun k => if k = c then P else p k) (fun k => if k = c then E else e k) (fun k => if k = c then D else d k))) :=
    fun x hx => Ok.ret ⟨rfl, fun _ => rfl, fun z => absurd hx z⟩
  have nl : ∀ a b : Nat, a < 2147483648 → b < 2147483648 → ¬ a < b → ¬ Int32.ofNat a < Int32.ofNat b := fun a b ha hb h z => h ((nlt ha hb).1 z)
  rw [een_addTask, if_neg (show ¬ Int32.ofNat P < 1 from nl P 1 (by omega) (by omega) (by omega)), if_neg (show ¬ 128 < Int32.ofNat P from nl 128 P (by omega) (by omega) (by omega))]
  by_cases q1 : Int32.ofNat D < 1
  · simp only [if_pos q1]; exact bad _ (by decide)
  simp only [if_neg q1]
  rw [if_neg (nl P D (by omega) (by omega) (by omega)), if_neg (show ¬ Int32.ofNat E < 1 from nl E 1 (by omega) (by omega) (by omega))]
  by_cases q2 : Int32.ofNat D < Int32.ofNat E
  · simp only [if_pos q2]; exact bad _ (by decide)
  simp only [if_neg q2]
  have ed : E ≤ D := by
    by_cases z : D < E
    · exact absurd ((nlt (by omega) (by omega)).2 z) q2
    · omega
  rw [f2, f0, f1]
  by_cases q3 : c = 4
  · have e : Int32.ofNat c = 4 := by rw [q3]; rfl
    simp only [if_pos e]
    rw [if_neg (show ¬ Int32.ofNat c < 4 by rw [e]; decide)]
    exact bad _ (by decide)
  have e : ¬ Int32.ofNat c = 4 := fun z => q3 (nj (a := c) (b := 4) (by omega) (by omega) z)
  simp only [if_neg e]
  rw [if_pos (show Int32.ofNat c < 4 from (nlt (a := c) (b := 4) (by omega) (by omega)).2 (by omega))]
  have lcm : en_lcm (if Int32.ofNat c = 0 then (1 : Int32) else F 3) (Int32.ofNat P) = some (Int32.ofNat (nhy h P)) := by
    by_cases z : c = 0
    · rw [if_pos ((nz (by omega)).2 z), nhy, if_pos (ch z)]
      have := e_lc (a := 1) (b := P) (by omega) p8 (by omega)
      rw [show Int32.ofNat 1 = 1 from rfl] at this
      rw [this, lc, Nat.gcd_one_right, Nat.div_self (by omega), Nat.one_mul]
    · have := cp (by omega)
      rw [if_neg (fun y => z ((nz (by omega)).1 y)), this.2, e_lc h60 p8 (by omega), nhy, if_neg (by omega)]
  have nb := nhy_le h60 p8
  rw [lcm, ifS, r_of (eR_lcm _ _) lcm, n1a]
  by_cases q4 : 60 < Int32.ofNat (nhy h P)
  · simp only [if_pos q4]; exact bad _ (by decide)
  simp only [if_neg q4]
  have hy : nhy h P ≤ 60 := by
    by_cases z : 60 < nhy h P
    · exact absurd ((nlt (a := 60) (by omega) (by omega)).2 z) q4
    · omega
  have s' := (o_rd (ups (ups (ups (ups (ups F 2 (Int32.ofNat (c + 1))) 3 (Int32.ofNat (nhy h P))) 4 0) 5 0) 6 (-1)) (ups (ups (ups A 0 (ups (A 0) (Int32.ofNat c) (Int32.ofNat P))) 1 (ups (A 1) (Int32.ofNat c) (Int32.ofNat E))) 2 (ups (A 2) (Int32.ofNat c) (Int32.ofNat D)))).R (eR_resetDispatcher _ _)
  have s1 := s'.1
  have s2 : RD _ _ (R_resetDispatcher (ups (ups (ups (ups (ups F 2 (Int32.ofNat (c + 1))) 3 (Int32.ofNat (nhy h P))) 4 0) 5 0) 6 (-1)) (ups (ups (ups A 0 (ups (A 0) (Int32.ofNat c) (Int32.ofNat P))) 1 (ups (A 1) (Int32.ofNat c) (Int32.ofNat E))) 2 (ups (A 2) (Int32.ofNat c) (Int32.ofNat D)))) := s'.2
  clear s'
  refine Ok.ift ⟨nn (by omega), (nlt (a := c) (b := 8) (by omega) (by omega)).2 (by omega), s1⟩ ?_
  generalize R_resetDispatcher (ups (ups (ups (ups (ups F 2 (Int32.ofNat (c + 1))) 3 (Int32.ofNat (nhy h P))) 4 0) 5 0) 6 (-1)) (ups (ups (ups A 0 (ups (A 0) (Int32.ofNat c) (Int32.ofNat P))) 1 (ups (A 1) (Int32.ofNat c) (Int32.ofNat E))) 2 (ups (A 2) (Int32.ofNat c) (Int32.ofNat D))) = r at *
  exact Ok.ret ⟨rfl, fun z => absurd z (nn (by omega)), fun _ => jc_add j (by omega) p1 p8 e1 ed dp hy s2.1 s2.2.1 s2.2.2⟩
theorem m129 {F : Nat → Int32} {A : Nat → Int32 → Int32} {c h fr now : Nat} {ms : Int32} {w7 w9 w11 : Int64} {p e d : Nat → Nat} (j : JC F A c h fr now ms w7 w9 w11 p e d) (nb : now ≤ 100000) {P E D : Nat} (p1 : 1 ≤ P) (p8 : P ≤ 8) (e1 : 1 ≤ E) (e8 : E ≤ 8) (dp : D ≤ P) {sl v13 : Int32} {sv : Int32 → Int32} {M : Nat}
    (go : ∀ (F : Nat → Int32) (A : Nat → Int32 → Int32) (c h fr now' : Nat) (ms : Int32) (w7 w9 w11 : Int64) (p e d : Nat → Nat), JC F A c h fr now' ms w7 w9 w11 p e d → now' ≤ now → ∀ m : Nat, M ≤ m → lp_L_law m 36 sl sv (Int32.ofNat c) (Int32.ofNat h) (Int32.ofNat fr) (Int32.ofNat now') ms w7 w9 w11 (v13 + 4) 0 0 0 0 F A = some 1) (n : Nat) (hn : M + 1 ≤ n) :
    (en_addTask F A (Int32.ofNat P) (Int32.ofNat E) (Int32.ofNat D)).isSome = true ∧ lp_L_law n 129 sl sv (Int32.ofNat c) (Int32.ofNat h) (Int32.ofNat fr) (Int32.ofNat now) ms w7 w9 w11 v13 (Int32.ofNat P) (Int32.ofNat E) (Int32.ofNat D) (R_addTask F A (Int32.ofNat P) (Int32.ofNat E) (Int32.ofNat D)).1 (R_addTask F A (Int32.ofNat P) (Int32.ofNat E) (Int32.ofNat D)).2.1 (R_addTask F A (Int32.ofNat P) (Int32.ofNat E) (Int32.ofNat D)).2.2 = some 1 := by
  obtain ⟨n, rfl⟩ : ∃ z, n = z + 1 := ⟨n - 1, by omega⟩
  have s' := (o_add j p1 p8 e1 e8 dp).R (eR_addTask F A _ _ _)
  refine ⟨s'.1, ?_⟩
  have s1 := s'.2.1
  have s2 := s'.2.2.1
  have s3 := s'.2.2.2
  clear s'
  have h60 := j.2.2.2.2.2.1
  have g := e_gL (a := h) (b := P) (by omega) (by omega)
  have gp : 0 < Nat.gcd P h := Nat.gcd_pos_of_pos_left h p1
  have gl : Nat.gcd P h ≤ P := Nat.gcd_le_left h p1
  have gz : ¬ Int32.ofNat (Nat.gcd P h) = 0 := fun e => by have := (nz (by omega)).1 e; omega
  have hy : (if Int32.ofNat h = 0 then Int32.ofNat P else Int32.ofNat h / Int32.ofNat (Nat.gcd P h) * Int32.ofNat P) = Int32.ofNat (nhy h P) := by
    by_cases z : h = 0
    · rw [if_pos ((nz (by omega)).2 z), nhy, if_pos z]
    · rw [if_neg (fun y => z ((nz (by omega)).1 y)), nhy, if_neg z, ndiv (by omega) (by omega), nmul]; rfl
  rw [lp_L_law_129, r_of (eR_L_gcd _ _) g, if_pos ⟨fun _ => by rw [g]; rfl, fun _ => gz⟩, hy]
  generalize R_addTask F A (Int32.ofNat P) (Int32.ofNat E) (Int32.ofNat D) = r at *
  refine (if_pos s1).trans ?_
  by_cases z : r.1 < 0
  · simp only [if_pos z]
    have e := s2 z
    have k := gets j
    have o := o_rk j nb
    rw [e]
    dsimp only
    rw [if_pos k.1, if_pos k.2.1, if_pos k.2.2.1, if_pos k.2.2.2.1, if_pos k.2.2.2.2, o, ifS, r_of (eR_L_runsOk _ _ _ _ _ _ _ _) o, if_neg (by decide)]
    exact go _ _ _ _ _ _ _ _ _ _ _ _ _ j (Nat.le_refl _) n (by omega)
  · simp only [if_neg z]
    have j' := s3 z
    have k := gets j'
    have o := o_rk j' (by omega)
    rw [n1a, if_pos k.1, if_pos k.2.1, if_pos (show f_getFrame r.2.1 = 0 from k.2.2.1), if_pos (show f_getNow r.2.1 = 0 from k.2.2.2.1), if_pos k.2.2.2.2]
    have o' : en_L_runsOk r.2.1 r.2.2 (Int32.ofNat (c + 1)) (Int32.ofNat (nhy h P)) 0 0 (w7 ||| ((Int32.ofNat P).toInt64 <<< (((8 : Int32) * Int32.ofNat c).toInt64 &&& 63))) (w9 ||| ((Int32.ofNat E).toInt64 <<< (((8 : Int32) * Int32.ofNat c).toInt64 &&& 63))) = some 1 := o
    rw [o', ifS, r_of (eR_L_runsOk _ _ _ _ _ _ _ _) o', if_neg (by decide)]
    exact go _ _ _ _ _ _ _ _ _ _ _ _ _ j' (by omega) n (by omega)
theorem m444 {F : Nat → Int32} {A : Nat → Int32 → Int32} {c h fr now : Nat} {ms : Int32} {w7 w9 w11 : Int64} {p e d : Nat → Nat} (j : JC F A c h fr now ms w7 w9 w11 p e d) (nb : now ≤ 50000) {s : Int32} (hs : s < 1 ∨ ∃ m : Nat, 1 ≤ m ∧ m ≤ 61 ∧ s = Int32.ofNat m) {sl v13 : Int32} {sv : Int32 → Int32} {M : Nat}
    (go : ∀ (F : Nat → Int32) (A : Nat → Int32 → Int32) (c h fr now' : Nat) (ms : Int32) (w7 w9 w11 : Int64) (p e d : Nat → Nat), JC F A c h fr now' ms w7 w9 w11 p e d → now' ≤ now + 61 → ∀ m : Nat, M ≤ m → lp_L_law m 36 sl sv (Int32.ofNat c) (Int32.ofNat h) (Int32.ofNat fr) (Int32.ofNat now') ms w7 w9 w11 (v13 + 4) 0 0 0 0 F A = some 1) (n : Nat) (hn : M + 1 ≤ n) :
    (en_run F A s).isSome = true ∧ lp_L_law n 444 sl sv (Int32.ofNat c) (Int32.ofNat h) (Int32.ofNat fr) (Int32.ofNat now) ms w7 w9 w11 v13 s (R_run F A s).1 0 0 (R_run F A s).2.1 (R_run F A s).2.2 = some 1 := by
  obtain ⟨n, rfl⟩ : ∃ z, n = z + 1 := ⟨n - 1, by omega⟩
  have fin : ∀ (r : Int32 × (Nat → Int32) × (Nat → Int32 → Int32)) (m : Nat), en_run F A s = some r → m ≤ 61 → (if Int32.ofNat fr = 0 then (0 : Int32) else (if s < 1 then (0 : Int32) else s)) = Int32.ofNat m → r.1 = Int32.ofNat m → JC r.2.1 r.2.2 c h fr (now + m) ms w7 w9 w11 p e d → (en_run F A s).isSome = true ∧ lp_L_law (n + 1) 444 sl sv (Int32.ofNat c) (Int32.ofNat h) (Int32.ofNat fr) (Int32.ofNat now) ms w7 w9 w11 v13 s (R_run F A s).1 0 0 (R_run F A s).2.1 (R_run F A s).2.2 = some 1 := by
    intro r m er hm ew r1 j'
    refine ⟨by rw [er]; rfl, ?_⟩
    rw [r_of (eR_run F A s) er, lp_L_law_444, ew, nadd]
    have k := gets j'
    have o := o_rk j' (by omega)
    rw [if_pos r1, if_pos k.1, if_pos k.2.1, if_pos k.2.2.1, if_pos k.2.2.2.1, if_pos k.2.2.2.2, o, ifS, r_of (eR_L_runsOk _ _ _ _ _ _ _ _) o, if_neg (by decide)]
    exact go _ _ _ _ _ _ _ _ _ _ _ _ _ j' (by omega) n (by omega)
  have j0 := j
  obtain ⟨f01, f2, c4, ch, cp, h60, f6, f7, jp, tk, b7, b9, b11⟩ := j
  rcases jp with ⟨z, f4, z2, a3⟩ | ⟨c0, fr1, fr8, f4, f5, ht, ri⟩
  · refine fin (0, F, A) 0 (by rw [een_run, if_pos f4]) (by omega) ?_ rfl j0
    rw [if_pos ((nz (by omega)).2 z)]; rfl
  · have nf : ¬ Int32.ofNat fr = 0 := fun y => by have := (nz (by omega)).1 y; omega
    have n4 : ¬ F 4 = 0 := by rw [f4]; decide
    by_cases q : s < 1
    · refine fin (0, F, A) 0 (by rw [een_run, if_neg n4, if_pos q]) (by omega) ?_ rfl j0
      rw [if_neg nf, if_pos q]; rfl
    · obtain ⟨m, m1, m61, em⟩ := hs.resolve_left q
      have hh := cp c0
      subst em
      have l := l_run (dm := fun i => e i * (h / p i)) c4 hh.1 h60 m 5000 0 m now F A (by omega) (by omega) (by omega) hh.2 ht ri
      obtain ⟨r, er, r1, rF, rA, r4⟩ := l
      refine fin r m ?_ m61 (by rw [if_neg nf, if_neg q]) r1 ?_
      · rw [een_run, if_neg n4, if_neg q, if_neg, if_pos]
        · exact er
        · exact (nlt (a := m) (b := 4096) (by omega) (by omega)).2 (by omega)
        · rw [hh.2]; intro y; have := (nlt (a := h) (b := 1) (by omega) (by omega)).1 y; omega
      · have e4 : r.2.2 4 = A 4 := rA 4 (by decide)
        have tce : ∀ i H : Nat, tc r.2.2 i H = tc A i H := fun i H => by rw [tc, tc, e4]
        refine ⟨⟨by rw [rF 0 (by decide) (by decide)]; exact f01.1, by rw [rF 1 (by decide) (by decide)]; exact f01.2⟩, by rw [rF 2 (by decide) (by decide)]; exact f2, c4, ch, fun _ => ⟨hh.1, by rw [rF 3 (by decide) (by decide)]; exact hh.2⟩, h60, by rw [rF 6 (by decide) (by decide)]; exact f6, r4.1, Or.inr ⟨c0, fr1, fr8, by rw [rF 4 (by decide) (by decide)]; exact f4, by rw [rF 5 (by decide) (by decide)]; exact f5, fun i hi => by rw [tce]; exact ht i hi, r4⟩, tk_of tk (fun j hj => rA j (by omega)), b7, b9, b11⟩
theorem m287 {F : Nat → Int32} {A : Nat → Int32 → Int32} {c h fr now : Nat} {ms : Int32} {w7 w9 w11 : Int64} {p e d : Nat → Nat} (j : JC F A c h fr now ms w7 w9 w11 p e d) (nb : now ≤ 50000) {f : Nat} (f1 : 1 ≤ f) (f8 : f ≤ 8) {sl v13 : Int32} {sv : Int32 → Int32} {M : Nat}
    (go : ∀ (F : Nat → Int32) (A : Nat → Int32 → Int32) (c h fr now' : Nat) (ms : Int32) (w7 w9 w11 : Int64) (p e d : Nat → Nat), JC F A c h fr now' ms w7 w9 w11 p e d → now' ≤ now + 61 → ∀ m : Nat, M ≤ m → lp_L_law m 36 sl sv (Int32.ofNat c) (Int32.ofNat h) (Int32.ofNat fr) (Int32.ofNat now') ms w7 w9 w11 (v13 + 4) 0 0 0 0 F A = some 1) (n : Nat) (hn : M + 1 ≤ n) :
    (en_build F A (Int32.ofNat f)).isSome = true ∧ lp_L_law n 287 sl sv (Int32.ofNat c) (Int32.ofNat h) (Int32.ofNat fr) (Int32.ofNat now) ms w7 w9 w11 v13 (Int32.ofNat f) (R_build F A (Int32.ofNat f)).1 0 0 (R_build F A (Int32.ofNat f)).2.1 (R_build F A (Int32.ofNat f)).2.2 = some 1 := by
  obtain ⟨n, rfl⟩ : ∃ z, n = z + 1 := ⟨n - 1, by omega⟩
  have j0 := j
  have k0 := gets j
  have o0 := o_rk j (by omega)
  have g0 := go _ _ _ _ _ _ _ _ _ _ _ _ _ j (by omega) n (by omega)
  obtain ⟨f01, f2, c4, ch, cp, h60, f6, f7, jp, tk, b7, b9, b11⟩ := j
  have fz : ¬ Int32.ofNat f = 0 := fun y => by have := (nz (by omega)).1 y; omega
  rw [lp_L_law_287]
  by_cases cz : c = 0
  · have c0 : Int32.ofNat c = 0 := (nz (by omega)).2 cz
    have b : en_build F A (Int32.ofNat f) = some (-4, F, A) := by rw [een_build, f2, if_pos c0]
    refine ⟨by rw [b]; rfl, ?_⟩
    rw [r_of (eR_build F A _) b]
    dsimp only
    refine (if_pos c0).trans ((if_pos rfl).trans ?_)
    rw [if_pos k0.1, if_pos k0.2.1, if_pos k0.2.2.1, if_pos k0.2.2.2.1, if_pos k0.2.2.2.2, o0, ifS, r_of (eR_L_runsOk _ _ _ _ _ _ _ _) o0, if_neg (by decide)]
    exact g0
  · have c0 : ¬ Int32.ofNat c = 0 := fun y => cz ((nz (by omega)).1 y)
    have hh := cp (by omega)
    obtain ⟨B1, B2, B3⟩ := o_bd (w2 := w7) (w4 := w11) f2 c4 (by omega) hh.2 h60 f1 f8 tk b7 b11
    rw [if_neg c0]
    by_cases q : h < f
    · have b := B1 q
      refine ⟨by rw [b]; rfl, ?_⟩
      rw [r_of (eR_build F A _) b, if_pos ((nlt (by omega) (by omega)).2 q)]
      dsimp only
      refine (if_pos rfl).trans ?_
      rw [if_pos k0.1, if_pos k0.2.1, if_pos k0.2.2.1, if_pos k0.2.2.2.1, if_pos k0.2.2.2.2, o0, ifS, r_of (eR_L_runsOk _ _ _ _ _ _ _ _) o0, if_neg (by decide)]
      exact g0
    · have ml : h % f ≤ h := Nat.mod_le h f
      rw [if_neg (fun y => q ((nlt (by omega) (by omega)).1 y)), if_pos fz, nmod (by omega) (by omega)]
      by_cases w : h % f = 0
      rotate_left
      · have b := B2 q w
        refine ⟨by rw [b]; rfl, ?_⟩
        rw [r_of (eR_build F A _) b, if_neg (fun y => w ((nz (by omega)).1 y))]
        dsimp only
        refine (if_pos rfl).trans ?_
        rw [if_pos k0.1, if_pos k0.2.1, if_pos k0.2.2.1, if_pos k0.2.2.2.1, if_pos k0.2.2.2.2, o0, ifS, r_of (eR_L_runsOk _ _ _ _ _ _ _ _) o0, if_neg (by decide)]
        exact g0
      · rw [if_pos ((nz (by omega)).2 w)]
        rcases B3 q w with ⟨df, b⟩ | ⟨df, b⟩
        · refine ⟨by rw [b]; rfl, ?_⟩
          rw [r_of (eR_build F A _) b, df, ifS, r_of (eR_L_deadlineFails _ _ _ _) df, if_neg (by decide)]
          dsimp only
          refine (if_pos rfl).trans ?_
          rw [if_pos k0.1, if_pos k0.2.1, if_pos k0.2.2.1, if_pos k0.2.2.2.1, if_pos k0.2.2.2.2, o0, ifS, r_of (eR_L_runsOk _ _ _ _ _ _ _ _) o0, if_neg (by decide)]
          exact g0
        · obtain ⟨r, b, ra, r3, rb⟩ := b
          refine ⟨by rw [b]; rfl, ?_⟩
          rw [r_of (eR_build F A _) b, df, ifS, r_of (eR_L_deadlineFails _ _ _ _) df, if_pos rfl]
          rcases rb with ⟨r0, rF, ht⟩ | ⟨r0, i, k, ic, kj, rF⟩
          · have j' : JC r.2.1 r.2.2 c h f 0 (-1) w7 w9 w11 p e d := by
              rw [rF]
              refine ⟨⟨by simp [ups, f01.1], by simp [ups, f01.2]⟩, by simp [ups, f2], c4, ch, fun _ => ⟨hh.1, by simp [ups, hh.2]⟩, h60, by simp [ups], by simp [ups], Or.inr ⟨by omega, f1, f8, by simp [ups], by simp [ups], ht, by simp [ups], by simp [ups], fun i hi => ?_⟩, tk_of tk ra, b7, b9, b11⟩
              rw [r3 i (by omega)]
              have : tc r.2.2 i 0 = 0 := rfl
              rw [Nat.zero_div, Nat.zero_mul, Nat.zero_mod, this]; rfl
            have k := gets j'
            have o : en_L_runsOk r.2.1 r.2.2 (Int32.ofNat c) (Int32.ofNat h) (Int32.ofNat f) 0 w7 w9 = some 1 := o_rk (now := 0) j' (by omega)
            rw [if_pos r0, if_pos k.1, if_pos k.2.1, if_pos k.2.2.1, if_pos (show f_getNow r.2.1 = 0 from k.2.2.2.1), if_pos k.2.2.2.2, o, ifS, r_of (eR_L_runsOk _ _ _ _ _ _ _ _) o, if_neg (by decide)]
            exact go _ _ _ _ _ _ _ _ _ _ _ _ _ j' (by omega) n (by omega)
          · have J := jb (p := p i) h60
            have ti := tk i ic
            have j' : JC r.2.1 r.2.2 c h 0 0 (Int32.ofNat (i * 128 + k)) w7 w9 w11 p e d := by
              rw [rF]
              exact ⟨⟨by simp [ups, f01.1], by simp [ups, f01.2]⟩, by simp [ups, f2], c4, ch, fun _ => ⟨hh.1, by simp [ups, hh.2]⟩, h60, by simp [ups], by simp [ups], Or.inl ⟨rfl, by simp [ups], rfl, r3⟩, tk_of tk ra, b7, b9, b11⟩
            have k' := gets j'
            have o : en_L_runsOk r.2.1 r.2.2 (Int32.ofNat c) (Int32.ofNat h) 0 0 w7 w9 = some 1 := o_rk (fr := 0) (now := 0) j' (by omega)
            have ed : Int32.ofNat (i * 128 + k) / 128 = Int32.ofNat i := by
              rw [show (128 : Int32) = Int32.ofNat 128 from rfl, ndiv (by omega) (by omega)]; congr 1; omega
            have em : Int32.ofNat (i * 128 + k) % 128 = Int32.ofNat k := by
              rw [show (128 : Int32) = Int32.ofNat 128 from rfl, nmod (by omega) (by omega)]; congr 1; omega
            have pz : ¬ Int32.ofNat (p i) = 0 := fun y => by have := (nz (by omega)).1 y; omega
            rw [k'.2.2.2.2, ed, em, b7.1 i ic, ndiv (by omega) (by omega)]
            rw [if_neg (by rw [r0]; decide), if_pos r0, if_neg (nn (by omega)), if_pos ((nlt (by omega) (by omega)).2 ic), if_pos pz, if_pos ((nlt (by omega) (by omega)).2 kj), if_pos k'.1, if_pos k'.2.1, if_pos (show f_getFrame r.2.1 = 0 from k'.2.2.1), if_pos (show f_getNow r.2.1 = 0 from k'.2.2.2.1), if_pos rfl, o, ifS, r_of (eR_L_runsOk _ _ _ _ _ _ _ _) o, if_neg (by decide)]
            exact go _ _ _ _ _ _ _ _ _ _ _ _ _ j' (by omega) n (by omega)
theorem law8 (sl : Int32) (sv : Int32 → Int32) (hs : ¬ 260 < sl) : en_L_law sl sv = some 1 := by
  have main : ∀ (t : Nat) (i : Int32) (F : Nat → Int32) (A : Nat → Int32 → Int32) (c h fr now : Nat) (ms : Int32) (w7 w9 w11 : Int64) (p e d : Nat → Nat), ¬ i < 0 → ¬ 260 < i → 260 ≤ i.toInt + 4 * (t : Int) → now + 61 * t ≤ 5000 → JC F A c h fr now ms w7 w9 w11 p e d → ∀ n : Nat, 3 * t + 2 ≤ n → lp_L_law n 36 sl sv (Int32.ofNat c) (Int32.ofNat h) (Int32.ofNat fr) (Int32.ofNat now) ms w7 w9 w11 i 0 0 0 0 F A = some 1 := by
    intro t
    induction t with
    | zero =>
      intro i F A c h fr now ms w7 w9 w11 p e d h0 h1 ht nb j n hn
      obtain ⟨k, rfl⟩ : ∃ k, n = k + 1 := ⟨n - 1, by omega⟩
      rw [lp_L_law_36, if_neg]
      intro q
      have e := adv i sl 3 3 (by decide) (by decide) h0 h1
      have := le_260 hs
      rw [lt_i] at q; omega
    | succ t ih =>
      intro i F A c h fr now ms w7 w9 w11 p e d h0 h1 ht nb j n hn
      obtain ⟨k, rfl⟩ : ∃ k, n = k + 1 := ⟨n - 1, by omega⟩
      rw [lp_L_law_36]
      by_cases q : i + 3 < sl
      rotate_left
      · rw [if_neg q]
      have bd : (¬ i < 0) ∧ (i < sl) ∧ (¬ (i + (1 : Int32)) < 0) ∧ ((i + (1 : Int32)) < sl) ∧ (¬ (i + (2 : Int32)) < 0) ∧ ((i + (2 : Int32)) < sl) ∧ (¬ (i + (3 : Int32)) < 0) := by
        clear ih j
        refine ⟨h0, ?_, ?_, ?_, ?_, ?_, ?_⟩ <;> grind
      rw [if_pos q, if_pos (show i < 400 by clear ih j; grind), if_pos bd]
      have a := advS (b := 3) (c := 4) 3 (by decide) (by decide) (by decide) h0 h1 hs q
      have e4 : (i + 4).toInt = i.toInt + 4 := adv i sl 4 4 (by decide) (by decide) h0 h1
      have go : ∀ (F : Nat → Int32) (A : Nat → Int32 → Int32) (c h fr now' : Nat) (ms : Int32) (w7 w9 w11 : Int64) (p e d : Nat → Nat), JC F A c h fr now' ms w7 w9 w11 p e d → now' ≤ now + 61 → ∀ m : Nat, 3 * t + 2 ≤ m → lp_L_law m 36 sl sv (Int32.ofNat c) (Int32.ofNat h) (Int32.ofNat fr) (Int32.ofNat now') ms w7 w9 w11 (i + 4) 0 0 0 0 F A = some 1 := by
        intro F A c h fr now' ms w7 w9 w11 p e d j hn m hm
        exact ih (i + 4) F A c h fr now' ms w7 w9 w11 p e d a.2.2.1 a.2.2.2 (by omega) (by omega) j m hm
      clear ih
      by_cases c1 : 1 < sv i &&& 3
      · rw [if_pos c1]
        by_cases c2 : sv i &&& 3 = 2
        · rw [if_pos c2]
          obtain ⟨x, hx⟩ := mask_fin (sv (i + 1)) 7 3 (by decide) (by decide)
          rw [hx, n1a]
          have r := m287 j (by omega) (f := x.1 + 1) (by omega) (by have := x.2; omega) go k (by omega)
          rw [if_pos r.1]; exact r.2
        · rw [if_neg c2]
          obtain ⟨x, hx⟩ := mask_fin (sv (i + 1)) 63 6 (by decide) (by decide)
          rw [hx]
          have xs := x.2
          have sh : Int32.ofNat x.1 - 2 < 1 ∨ ∃ m : Nat, 1 ≤ m ∧ m ≤ 61 ∧ Int32.ofNat x.1 - 2 = Int32.ofNat m := by
            by_cases z : x.1 < 3
            · left
              have : x.1 = 0 ∨ x.1 = 1 ∨ x.1 = 2 := by omega
              rcases this with e | e | e <;> rw [e] <;> decide
            · right; exact ⟨x.1 - 2, by omega, by omega, nsub (b := 2) (by omega)⟩
          have r := m444 j (by omega) sh go k (by omega)
          rw [if_pos r.1]; exact r.2
      · rw [if_neg c1]
        obtain ⟨x, hx⟩ := mask_fin (sv (i + 1)) 7 3 (by decide) (by decide)
        obtain ⟨y, hy⟩ := mask_fin (sv (i + 2)) 3 2 (by decide) (by decide)
        obtain ⟨z, hz⟩ := mask_fin (sv (i + 3)) 1 1 (by decide) (by decide)
        have xs := x.2
        have ys := y.2
        have zs := z.2
        rw [hx, hy, hz, n1a, n1a, nsub (by omega)]
        have r := m129 j (by omega) (P := x.1 + 1) (E := y.1 + 1) (D := x.1 + 1 - z.1) (by omega) (by omega) (by omega) (by omega) (by omega) (fun F A c h fr now' ms w7 w9 w11 p e d j hn => go F A c h fr now' ms w7 w9 w11 p e d j (by omega)) k (by omega)
        rw [if_pos r.1]; exact r.2
  have hi : JC (F_init 4 60) (fun _ _ => 0) 0 0 0 0 (-1) 0 0 0 (fun _ => 0) (fun _ => 0) (fun _ => 0) := by
    refine ⟨⟨?_, ?_⟩, ?_, by omega, fun _ => rfl, fun h => absurd h (by omega), by omega, ?_, ?_, Or.inl ⟨rfl, ?_, rfl, fun _ _ => rfl⟩, fun i hi => absurd hi (by omega), ⟨fun k hk => absurd hk (by omega), fun x _ _ => ?_⟩, ⟨fun k hk => absurd hk (by omega), fun x _ _ => ?_⟩, ⟨fun k hk => absurd hk (by omega), fun x _ _ => ?_⟩⟩
    · rw [F_init_0, e_clamp]; decide
    · rw [F_init_1, e_clamp]; decide
    · rw [F_init_2]; rfl
    · rw [F_init_6]
    · rw [F_init_7]; rfl
    · rw [F_init_4]
    · simp
    · simp
    · simp
  rw [een_L_law, show (4000 : Nat) = 3999 + 1 from rfl, lp_L_law_11]
  generalize F_init 4 60 = F at *
  exact main 65 0 F _ 0 0 0 0 (-1) 0 0 0 _ _ _ (by decide) (by decide) (by decide) (by omega) hi 3999 (by omega)
theorem law_ok {l : Launch} {Z : State} {a0 : Array Value} (H : OK Z a0) (sl : Int32) (sv : Int32 → Int32) (q2 : ¬ sl < 0) (q3 : ¬ 260 < sl) : Wk l Z (MoL Z cdC "CyclicExecutiveL6" true) md_L_law 0 [.val (.ref 0), .unset, .unset, .unset, .unset, .unset, .unset, .unset, .unset, .unset, .unset, .unset, .unset, .unset, .unset, .unset, .unset, .unset, .unset, .unset, .unset, .unset, .unset, .unset] [] (sl, sv, []) 0 0 (fun v _ => v = some (.int (1 : Int32))) :=
  run_law H sl sv (law8 sl sv q3)
set_option maxRecDepth 65536 in
set_option maxHeartbeats 40000000 in
theorem comes_1 {Post : Tables → Env → Array Value → State → Outcome → State → Prop} (hpost : ∀ tb e args s v u, (limb_1_1.after args s (.returned v) u = true ∧ limb_1_2.after args s (.returned v) u = true ∧ True) → FrameEnd s (.returned v) u (Jvm.fieldLocs frame_1_writes args s ++ Jvm.arrayLocs frame_1_arrays args s ++ Jvm.staticLocs frame_1_statics s) room_1.cells room_1.slots → Post tb e args s (.returned v) u) :
    ArmFor flags0 classFile x code maxLocals ret World_1 tables_1 room_1 Calls_1 rest_1 Pre_1 Post := by
  intro l hfl _ _ p e ha hc hk s m args below hf hA hF happ hP
  obtain ⟨hcalls, hrest, hpre⟩ := hP
  obtain ⟨-, -, -, hnamed, -, -, -, hat⟩ := (Spec.applies_iff hf).mp happ
  obtain ⟨hg, hn⟩ := and_e (Cond.before_iff.mp (show (Jvm.Cond.and given_1 narrow_1).before args s = true from hpre))
  obtain ⟨h1, h2⟩ := and_e hg
  obtain ⟨w0, rfl⟩ : ∃ w0 : Value, args = #[w0] := by
    have hs : args.size = 1 := by simpa [Cond.value, given_1] using h1
    obtain ⟨L⟩ := args
    match L, hs with
    | [w0], _ => exact ⟨w0, rfl⟩
  have hw : OK s #[w0] := fun d (hd : d ∈ tables_1) => atoms_spec (ws := Jvm.Cond.code x code maxLocals ret :: tables_1) hat d (List.mem_cons_of_mem _ hd)
  obtain ⟨na, nl⟩ := and_e hn
  obtain ⟨sa, ea⟩ := arr_v na
  obtain rfl : w0 = .ref sa := Option.some.inj ea
  obtain ⟨-, hr2⟩ := and_e (Cond.before_iff.mp (show rest_1_c.before #[.ref sa] s = true from hrest))
  obtain ⟨sl, sv, q1, q2, q3, q4⟩ := script_at na hr2 nl
  have rel0 : relL s cdC true (s.heap.size, sa) (sl, sv, []) s.heap := ⟨fun _ => ⟨q1, q2, q4⟩, fun i x q => (by simp at q), (by simp)⟩
  obtain ⟨n, o, h1, h2, h3, v, L, rfl, ⟨w', hv, hrel, hfrm, N, hsz, hnr⟩, hq⟩ := (law_ok hw sl sv q2 q3).met (M := MoL s cdC "CyclicExecutiveL6" true) (l := l) pn_CyclicExecutiveL6 rfl (en := (s.heap.size, sa)) rel0 [.ref 0] rfl rfl tables_1 p e ha hc hk s m _ below hf ((Spec.applies_iff_loose hf).mp happ).1 ⟨rfl, State.Warmed39.refl s, rfl⟩ trivial
  subst hv
  exact ⟨n, _, h1, h2, h3, hpost _ _ _ _ _ _ ⟨Cond.after_iff.mpr rfl, Cond.after_iff.mpr (eq_i res_at (Term.int_eval (1)) rfl), trivial⟩ ⟨hq.1, hq.2.1, (hq.2.2.sift fun y hy => Or.inr (N y hy)).mono (Nat.le_refl _) (Nat.le_refl _)⟩⟩
theorem main_1_1 : Claimed_1_1 := comes_1 fun _ _ _ _ _ _ h hF => ⟨h.1, hF⟩
theorem main_1_2 : Claimed_1_2 := comes_1 fun _ _ _ _ _ _ h hF => ⟨h.2.1, hF⟩
end Jvm.Pilot.@@N@@
namespace Jvm.Pilot.@@N@@
open Jvm Jvm.ClassFile Sem Op Lib Jvm.Free Jvm.Stand Jvm.Pilot.@@N@@.Jvm.D
/-! MADE BY PROGRAM (witnessworld.py) out of the Statement's table words and the real class files: 9 classes; the members and pool entries that the words name. The judged class is class 1, her method 5. -/
namespace start1
open Jvm.ClassFile
def u (s : String) : CpInfo := .utf8 (stringToUtf16 s)
/-- a pool by its gaps: so many unusable entries, then the entry; so many at the end -/
def gap : Nat → List CpInfo → List CpInfo
  | 0, r => r
  | n + 1, r => .unusable :: gap n r
def poolList (es : List (Nat × CpInfo)) (last : Nat) : List CpInfo := es.foldr (fun e r => gap e.1 (e.2 :: r)) (gap last [])
def pool (es : List (Nat × CpInfo)) (last : Nat) : Array CpInfo := ⟨poolList es last⟩
def fileOf (pool : Array CpInfo) (this : Nat) (attrs : Array Attribute := #[]) (ms : Array MethodInfo := #[]) (fl : Nat := 33) (sup : Nat := 0) (ifs : Array Nat := #[]) (fds : Array FieldInfo := #[]) : ClassFile where
  minorVersion := 0
  majorVersion := 65
  constantPool := pool
  accessFlags := fl
  thisClass := this
  superClass := sup
  interfaces := ifs
  fields := fds
  methods := ms
  attributes := attrs
def plain (name : String) (sup : Option ClassId) : Class where
  name := name
  kind := .ordinary
  loader := none
  accessFlags := 33
  super := sup
  interfaces := #[]
  cf := none
  fields := #[]
  methods := #[]
  instanceTypes := #[]
  staticTypes := #[]
  resolved := #[]
  callSites := []
  init := .initialized
  statics := none
  mirror := none

def pool0 : Array CpInfo := pool [(5, u "<init>"), (0, u "()V"), (1, .class_ 10), (1, u "java/lang/Object")] 113

def k0c0 : Code := { maxStack := 0, maxLocals := 1, code := object_method_1_code, exceptionTable := #[], attributes := #[] }
def k0m0 : Method := { name := "<init>", desc := "()V", sig := { parameters := [], returnType := none }, accessFlags := 1, code := some k0c0 }
/-- java/lang/Object -/
def k0 : Class := { plain "java/lang/Object" none with
  accessFlags := 33
  interfaces := #[]
  cf := some (fileOf pool0 8 #[] #[{ accessFlags := 1, nameIndex := 5, descriptorIndex := 6, attributes := #[] }] 33 0 #[] #[])
  fields := #[]
  methods := #[k0m0]
  instanceTypes := #[]
  staticTypes := #[]
  resolved := Array.replicate 124 none
  statics := none }

def pool1 : Array CpInfo := pool [(2, .class_ 4), (1, u "java/lang/Object"), (0, u "<init>"), (0, u "()V"), (0, .long 255), (1, .methodref 10 11), (0, .class_ 12), (0, .nameAndType 13 14), (0, u "CyclicExecutiveL6"), (0, u "fld"), (0, u "(JI)I"), (0, .methodref 10 16), (0, .nameAndType 17 18), (0, u "gcd"), (0, u "(II)I"), (0, .methodref 20 21), (0, .class_ 22), (0, .nameAndType 23 24), (0, u "CyclicExecutive"), (0, u "getRunTicks"), (0, u "(I)I"), (0, .methodref 20 26), (0, .nameAndType 5 27), (0, u "(II)V"), (0, .methodref 20 29), (0, .nameAndType 30 31), (0, u "addTask"), (0, u "(III)I"), (0, .methodref 20 33), (0, .nameAndType 34 24), (0, u "build"), (0, .methodref 10 36), (0, .nameAndType 37 38), (0, u "deadlineFails"), (0, u "(IIJJ)Z"), (0, .methodref 20 40), (0, .nameAndType 41 42), (0, u "getMiss"), (0, u "()I"), (0, .methodref 20 44), (0, .nameAndType 45 24), (0, u "run"), (0, .methodref 20 47), (0, .nameAndType 48 42), (0, u "getTaskCount"), (0, .methodref 20 50), (0, .nameAndType 51 42), (0, u "getHyperperiod"), (0, .methodref 20 53), (0, .nameAndType 54 42), (0, u "getFrame"), (0, .methodref 20 56), (0, .nameAndType 57 42), (0, u "getNow"), (0, .methodref 10 59), (0, .nameAndType 60 61), (0, u "runsOk"), (0, u "(LCyclicExecutive;IIIIJJ)Z"), (3, u "law"), (0, u "([I)Z")] 4

def k1m0 : Method := { name := "<init>", desc := "()V", sig := { parameters := [], returnType := none }, accessFlags := 1, code := none }
def k1c1 : Code := { maxStack := 2, maxLocals := 4, code := method_2_code, exceptionTable := #[], attributes := #[] }
def k1m1 : Method := { name := "gcd", desc := "(II)I", sig := { parameters := [.int, .int], returnType := some .int }, accessFlags := 10, code := some k1c1 }
def k1c2 : Code := { maxStack := 4, maxLocals := 3, code := method_3_code, exceptionTable := #[], attributes := #[] }
def k1m2 : Method := { name := "fld", desc := "(JI)I", sig := { parameters := [.long, .int], returnType := some .int }, accessFlags := 10, code := some k1c2 }
def k1c3 : Code := { maxStack := 4, maxLocals := 9, code := method_4_code, exceptionTable := #[], attributes := #[] }
def k1m3 : Method := { name := "deadlineFails", desc := "(IIJJ)Z", sig := { parameters := [.int, .int, .long, .long], returnType := some .boolean }, accessFlags := 10, code := some k1c3 }
def k1c4 : Code := { maxStack := 5, maxLocals := 15, code := method_5_code, exceptionTable := #[], attributes := #[] }
def k1m4 : Method := { name := "runsOk", desc := "(LCyclicExecutive;IIIIJJ)Z", sig := { parameters := [(.object "CyclicExecutive"), .int, .int, .int, .int, .long, .long], returnType := some .boolean }, accessFlags := 10, code := some k1c4 }
def k1c5 : Code := { maxStack := 9, maxLocals := 24, code := code, exceptionTable := #[], attributes := #[] }
def k1m5 : Method := { name := "law", desc := "([I)Z", sig := { parameters := [(.array .int)], returnType := some .boolean }, accessFlags := 9, code := some k1c5 }
/-- CyclicExecutiveL6 -/
def k1 : Class := { plain "CyclicExecutiveL6" (some 0) with
  accessFlags := 33
  interfaces := #[]
  cf := some (fileOf pool1 10 #[] #[{ accessFlags := 1, nameIndex := 5, descriptorIndex := 6, attributes := #[] }, { accessFlags := 10, nameIndex := 17, descriptorIndex := 18, attributes := #[] }, { accessFlags := 10, nameIndex := 13, descriptorIndex := 14, attributes := #[] }, { accessFlags := 10, nameIndex := 37, descriptorIndex := 38, attributes := #[] }, { accessFlags := 10, nameIndex := 60, descriptorIndex := 61, attributes := #[] }, { accessFlags := 9, nameIndex := 65, descriptorIndex := 66, attributes := #[] }] 33 2 #[] #[])
  fields := #[]
  methods := #[k1m0, k1m1, k1m2, k1m3, k1m4, k1m5]
  instanceTypes := #[]
  staticTypes := #[]
  resolved := Array.replicate 71 none
  statics := none }

def pool2 : Array CpInfo := pool [(1, .methodref 2 3), (0, .class_ 4), (0, .nameAndType 5 6), (0, u "java/lang/Object"), (0, u "<init>"), (0, u "()V"), (0, .fieldref 8 9), (0, .class_ 10), (0, .nameAndType 11 12), (0, u "CyclicExecutive"), (0, u "per"), (0, u "[I"), (0, .fieldref 8 14), (0, .nameAndType 15 12), (0, u "exe"), (0, .fieldref 8 17), (0, .nameAndType 18 12), (0, u "dl"), (0, .fieldref 8 20), (0, .nameAndType 21 12), (0, u "runCnt"), (0, .fieldref 8 23), (0, .nameAndType 24 12), (0, u "tickTask"), (0, .fieldref 8 26), (0, .nameAndType 27 12), (0, u "tickJob"), (0, .fieldref 8 29), (0, .nameAndType 30 12), (0, u "rem"), (0, .methodref 8 32), (0, .nameAndType 33 34), (0, u "clamp"), (0, u "(III)I"), (0, .fieldref 8 36), (0, .nameAndType 37 38), (0, u "maxTasks"), (0, u "I"), (0, .fieldref 8 40), (0, .nameAndType 41 38), (0, u "maxHyper"), (0, .fieldref 8 43), (0, .nameAndType 44 38), (0, u "count"), (0, .fieldref 8 46), (0, .nameAndType 47 38), (0, u "hyper"), (0, .fieldref 8 49), (0, .nameAndType 50 51), (0, u "present"), (0, u "Z"), (0, .fieldref 8 53), (0, .nameAndType 54 38), (0, u "frame"), (0, .fieldref 8 56), (0, .nameAndType 57 38), (0, u "miss"), (0, .fieldref 8 59), (0, .nameAndType 60 38), (0, u "now"), (0, .fieldref 8 62), (0, .nameAndType 63 38), (0, u "pos"), (0, .methodref 8 65), (0, .nameAndType 66 67), (0, u "gcd"), (0, u "(II)I"), (0, .methodref 8 69), (0, .nameAndType 70 67), (0, u "lcm"), (0, .methodref 8 72), (0, .nameAndType 73 6), (0, u "resetDispatcher"), (0, .methodref 8 75), (0, .nameAndType 76 77), (0, u "dividesHyper"), (0, u "(I)Z"), (3, u "()I"), (0, .methodref 8 83), (0, .nameAndType 84 77), (0, u "deadlinesOk"), (3, .methodref 8 89), (0, .nameAndType 90 6), (0, u "initJobs"), (0, .methodref 8 92), (0, .nameAndType 93 94), (0, u "fillFrame"), (0, u "(II)V"), (0, .methodref 8 96), (0, .nameAndType 97 81), (0, u "findMiss"), (0, .methodref 8 99), (0, .nameAndType 100 67), (0, u "pickJob"), (3, u "IDLE"), (2, u "BUILD_OK"), (1, u "ERR_ARG"), (0, u "ERR_FULL"), (1, u "ERR_HYPER"), (1, u "ERR_EMPTY"), (1, u "ERR_DIVIDE"), (1, u "ERR_DEADLINE"), (1, u "ERR_MISS"), (1, u "MAX_RUN"), (1, u "TASK_CAP"), (1, u "HYPER_CAP"), (1, u "JOB_SHIFT"), (3, u "addTask"), (0, u "getTaskCount"), (0, u "getHyperperiod"), (2, u "(I)I"), (0, u "build"), (0, u "getFrame"), (3, u "getMiss"), (0, u "run"), (0, u "getNow"), (0, u "getRunTicks")] 2

def k2c0 : Code := { maxStack := 5, maxLocals := 3, code := prog_1_method_1_code, exceptionTable := #[], attributes := #[] }
def k2m0 : Method := { name := "<init>", desc := "(II)V", sig := { parameters := [.int, .int], returnType := none }, accessFlags := 1, code := some k2c0 }
def k2c1 : Code := { maxStack := 2, maxLocals := 4, code := prog_1_method_2_code, exceptionTable := #[], attributes := #[] }
def k2m1 : Method := { name := "clamp", desc := "(III)I", sig := { parameters := [.int, .int, .int], returnType := some .int }, accessFlags := 2, code := some k2c1 }
def k2c2 : Code := { maxStack := 2, maxLocals := 7, code := prog_1_method_3_code, exceptionTable := #[], attributes := #[] }
def k2m2 : Method := { name := "gcd", desc := "(II)I", sig := { parameters := [.int, .int], returnType := some .int }, accessFlags := 2, code := some k2c2 }
def k2c3 : Code := { maxStack := 3, maxLocals := 4, code := prog_1_method_4_code, exceptionTable := #[], attributes := #[] }
def k2m3 : Method := { name := "lcm", desc := "(II)I", sig := { parameters := [.int, .int], returnType := some .int }, accessFlags := 2, code := some k2c3 }
def k2c4 : Code := { maxStack := 3, maxLocals := 2, code := prog_1_method_5_code, exceptionTable := #[], attributes := #[] }
def k2m4 : Method := { name := "resetDispatcher", desc := "()V", sig := { parameters := [], returnType := none }, accessFlags := 2, code := some k2c4 }
def k2c5 : Code := { maxStack := 3, maxLocals := 7, code := prog_1_method_6_code, exceptionTable := #[], attributes := #[] }
def k2m5 : Method := { name := "addTask", desc := "(III)I", sig := { parameters := [.int, .int, .int], returnType := some .int }, accessFlags := 1, code := some k2c5 }
def k2c6 : Code := { maxStack := 1, maxLocals := 1, code := prog_1_method_7_code, exceptionTable := #[], attributes := #[] }
def k2m6 : Method := { name := "getTaskCount", desc := "()I", sig := { parameters := [], returnType := some .int }, accessFlags := 1, code := some k2c6 }
def k2c7 : Code := { maxStack := 1, maxLocals := 1, code := prog_1_method_8_code, exceptionTable := #[], attributes := #[] }
def k2m7 : Method := { name := "getHyperperiod", desc := "()I", sig := { parameters := [], returnType := some .int }, accessFlags := 1, code := some k2c7 }
def k2c8 : Code := { maxStack := 2, maxLocals := 2, code := prog_1_method_9_code, exceptionTable := #[], attributes := #[] }
def k2m8 : Method := { name := "dividesHyper", desc := "(I)Z", sig := { parameters := [.int], returnType := some .boolean }, accessFlags := 2, code := some k2c8 }
def k2c9 : Code := { maxStack := 4, maxLocals := 4, code := prog_1_method_11_code, exceptionTable := #[], attributes := #[] }
def k2m9 : Method := { name := "deadlinesOk", desc := "(I)Z", sig := { parameters := [.int], returnType := some .boolean }, accessFlags := 2, code := some k2c9 }
def k2c10 : Code := { maxStack := 3, maxLocals := 4, code := prog_1_method_15_code, exceptionTable := #[], attributes := #[] }
def k2m10 : Method := { name := "build", desc := "(I)I", sig := { parameters := [.int], returnType := some .int }, accessFlags := 1, code := some k2c10 }
def k2c11 : Code := { maxStack := 4, maxLocals := 4, code := prog_1_method_16_code, exceptionTable := #[], attributes := #[] }
def k2m11 : Method := { name := "initJobs", desc := "()V", sig := { parameters := [], returnType := none }, accessFlags := 2, code := some k2c11 }
def k2c12 : Code := { maxStack := 4, maxLocals := 11, code := prog_1_method_17_code, exceptionTable := #[], attributes := #[] }
def k2m12 : Method := { name := "fillFrame", desc := "(II)V", sig := { parameters := [.int, .int], returnType := none }, accessFlags := 2, code := some k2c12 }
def k2c13 : Code := { maxStack := 3, maxLocals := 9, code := prog_1_method_18_code, exceptionTable := #[], attributes := #[] }
def k2m13 : Method := { name := "pickJob", desc := "(II)I", sig := { parameters := [.int, .int], returnType := some .int }, accessFlags := 2, code := some k2c13 }
def k2c14 : Code := { maxStack := 3, maxLocals := 8, code := prog_1_method_19_code, exceptionTable := #[], attributes := #[] }
def k2m14 : Method := { name := "findMiss", desc := "()I", sig := { parameters := [], returnType := some .int }, accessFlags := 2, code := some k2c14 }
def k2c15 : Code := { maxStack := 1, maxLocals := 1, code := prog_1_method_20_code, exceptionTable := #[], attributes := #[] }
def k2m15 : Method := { name := "getFrame", desc := "()I", sig := { parameters := [], returnType := some .int }, accessFlags := 1, code := some k2c15 }
def k2c16 : Code := { maxStack := 1, maxLocals := 1, code := prog_1_method_25_code, exceptionTable := #[], attributes := #[] }
def k2m16 : Method := { name := "getMiss", desc := "()I", sig := { parameters := [], returnType := some .int }, accessFlags := 1, code := some k2c16 }
def k2c17 : Code := { maxStack := 4, maxLocals := 5, code := prog_1_method_26_code, exceptionTable := #[], attributes := #[] }
def k2m17 : Method := { name := "run", desc := "(I)I", sig := { parameters := [.int], returnType := some .int }, accessFlags := 1, code := some k2c17 }
def k2c18 : Code := { maxStack := 1, maxLocals := 1, code := prog_1_method_27_code, exceptionTable := #[], attributes := #[] }
def k2m18 : Method := { name := "getNow", desc := "()I", sig := { parameters := [], returnType := some .int }, accessFlags := 1, code := some k2c18 }
def k2c19 : Code := { maxStack := 2, maxLocals := 2, code := prog_1_method_28_code, exceptionTable := #[], attributes := #[] }
def k2m19 : Method := { name := "getRunTicks", desc := "(I)I", sig := { parameters := [.int], returnType := some .int }, accessFlags := 1, code := some k2c19 }
/-- CyclicExecutive -/
def k2 : Class := { plain "CyclicExecutive" (some 0) with
  accessFlags := 49
  interfaces := #[]
  cf := some (fileOf pool2 8 #[] #[{ accessFlags := 1, nameIndex := 5, descriptorIndex := 94, attributes := #[] }, { accessFlags := 2, nameIndex := 33, descriptorIndex := 34, attributes := #[] }, { accessFlags := 2, nameIndex := 66, descriptorIndex := 67, attributes := #[] }, { accessFlags := 2, nameIndex := 70, descriptorIndex := 67, attributes := #[] }, { accessFlags := 2, nameIndex := 73, descriptorIndex := 6, attributes := #[] }, { accessFlags := 1, nameIndex := 132, descriptorIndex := 34, attributes := #[] }, { accessFlags := 1, nameIndex := 133, descriptorIndex := 81, attributes := #[] }, { accessFlags := 1, nameIndex := 134, descriptorIndex := 81, attributes := #[] }, { accessFlags := 2, nameIndex := 76, descriptorIndex := 77, attributes := #[] }, { accessFlags := 2, nameIndex := 84, descriptorIndex := 77, attributes := #[] }, { accessFlags := 1, nameIndex := 138, descriptorIndex := 137, attributes := #[] }, { accessFlags := 2, nameIndex := 90, descriptorIndex := 6, attributes := #[] }, { accessFlags := 2, nameIndex := 93, descriptorIndex := 94, attributes := #[] }, { accessFlags := 2, nameIndex := 100, descriptorIndex := 67, attributes := #[] }, { accessFlags := 2, nameIndex := 97, descriptorIndex := 81, attributes := #[] }, { accessFlags := 1, nameIndex := 139, descriptorIndex := 81, attributes := #[] }, { accessFlags := 1, nameIndex := 143, descriptorIndex := 81, attributes := #[] }, { accessFlags := 1, nameIndex := 144, descriptorIndex := 137, attributes := #[] }, { accessFlags := 1, nameIndex := 145, descriptorIndex := 81, attributes := #[] }, { accessFlags := 1, nameIndex := 146, descriptorIndex := 137, attributes := #[] }] 49 2 #[] #[{ accessFlags := 25, nameIndex := 104, descriptorIndex := 38, attributes := #[] }, { accessFlags := 25, nameIndex := 107, descriptorIndex := 38, attributes := #[] }, { accessFlags := 25, nameIndex := 109, descriptorIndex := 38, attributes := #[] }, { accessFlags := 25, nameIndex := 110, descriptorIndex := 38, attributes := #[] }, { accessFlags := 25, nameIndex := 112, descriptorIndex := 38, attributes := #[] }, { accessFlags := 25, nameIndex := 114, descriptorIndex := 38, attributes := #[] }, { accessFlags := 25, nameIndex := 116, descriptorIndex := 38, attributes := #[] }, { accessFlags := 25, nameIndex := 118, descriptorIndex := 38, attributes := #[] }, { accessFlags := 25, nameIndex := 120, descriptorIndex := 38, attributes := #[] }, { accessFlags := 25, nameIndex := 122, descriptorIndex := 38, attributes := #[] }, { accessFlags := 26, nameIndex := 124, descriptorIndex := 38, attributes := #[] }, { accessFlags := 26, nameIndex := 126, descriptorIndex := 38, attributes := #[] }, { accessFlags := 26, nameIndex := 128, descriptorIndex := 38, attributes := #[] }, { accessFlags := 2, nameIndex := 37, descriptorIndex := 38, attributes := #[] }, { accessFlags := 2, nameIndex := 41, descriptorIndex := 38, attributes := #[] }, { accessFlags := 2, nameIndex := 44, descriptorIndex := 38, attributes := #[] }, { accessFlags := 2, nameIndex := 47, descriptorIndex := 38, attributes := #[] }, { accessFlags := 18, nameIndex := 11, descriptorIndex := 12, attributes := #[] }, { accessFlags := 18, nameIndex := 15, descriptorIndex := 12, attributes := #[] }, { accessFlags := 18, nameIndex := 18, descriptorIndex := 12, attributes := #[] }, { accessFlags := 18, nameIndex := 21, descriptorIndex := 12, attributes := #[] }, { accessFlags := 2, nameIndex := 50, descriptorIndex := 51, attributes := #[] }, { accessFlags := 2, nameIndex := 54, descriptorIndex := 38, attributes := #[] }, { accessFlags := 18, nameIndex := 24, descriptorIndex := 12, attributes := #[] }, { accessFlags := 18, nameIndex := 27, descriptorIndex := 12, attributes := #[] }, { accessFlags := 18, nameIndex := 30, descriptorIndex := 12, attributes := #[] }, { accessFlags := 2, nameIndex := 57, descriptorIndex := 38, attributes := #[] }, { accessFlags := 2, nameIndex := 60, descriptorIndex := 38, attributes := #[] }, { accessFlags := 2, nameIndex := 63, descriptorIndex := 38, attributes := #[] }])
  fields := #[{ name := "IDLE", type := .int, accessFlags := 25, slot := 0, constantValue := 0 }, { name := "BUILD_OK", type := .int, accessFlags := 25, slot := 1, constantValue := 0 }, { name := "ERR_ARG", type := .int, accessFlags := 25, slot := 2, constantValue := 0 }, { name := "ERR_FULL", type := .int, accessFlags := 25, slot := 3, constantValue := 0 }, { name := "ERR_HYPER", type := .int, accessFlags := 25, slot := 4, constantValue := 0 }, { name := "ERR_EMPTY", type := .int, accessFlags := 25, slot := 5, constantValue := 0 }, { name := "ERR_DIVIDE", type := .int, accessFlags := 25, slot := 6, constantValue := 0 }, { name := "ERR_DEADLINE", type := .int, accessFlags := 25, slot := 7, constantValue := 0 }, { name := "ERR_MISS", type := .int, accessFlags := 25, slot := 8, constantValue := 0 }, { name := "MAX_RUN", type := .int, accessFlags := 25, slot := 9, constantValue := 0 }, { name := "TASK_CAP", type := .int, accessFlags := 26, slot := 10, constantValue := 0 }, { name := "HYPER_CAP", type := .int, accessFlags := 26, slot := 11, constantValue := 0 }, { name := "JOB_SHIFT", type := .int, accessFlags := 26, slot := 12, constantValue := 0 }, { name := "maxTasks", type := .int, accessFlags := 2, slot := 0, constantValue := 0 }, { name := "maxHyper", type := .int, accessFlags := 2, slot := 1, constantValue := 0 }, { name := "count", type := .int, accessFlags := 2, slot := 2, constantValue := 0 }, { name := "hyper", type := .int, accessFlags := 2, slot := 3, constantValue := 0 }, { name := "per", type := (.array .int), accessFlags := 18, slot := 4, constantValue := 0 }, { name := "exe", type := (.array .int), accessFlags := 18, slot := 5, constantValue := 0 }, { name := "dl", type := (.array .int), accessFlags := 18, slot := 6, constantValue := 0 }, { name := "runCnt", type := (.array .int), accessFlags := 18, slot := 7, constantValue := 0 }, { name := "present", type := .boolean, accessFlags := 2, slot := 8, constantValue := 0 }, { name := "frame", type := .int, accessFlags := 2, slot := 9, constantValue := 0 }, { name := "tickTask", type := (.array .int), accessFlags := 18, slot := 10, constantValue := 0 }, { name := "tickJob", type := (.array .int), accessFlags := 18, slot := 11, constantValue := 0 }, { name := "rem", type := (.array .int), accessFlags := 18, slot := 12, constantValue := 0 }, { name := "miss", type := .int, accessFlags := 2, slot := 13, constantValue := 0 }, { name := "now", type := .int, accessFlags := 2, slot := 14, constantValue := 0 }, { name := "pos", type := .int, accessFlags := 2, slot := 15, constantValue := 0 }]
  methods := #[k2m0, k2m1, k2m2, k2m3, k2m4, k2m5, k2m6, k2m7, k2m8, k2m9, k2m10, k2m11, k2m12, k2m13, k2m14, k2m15, k2m16, k2m17, k2m18, k2m19]
  instanceTypes := #[.int, .int, .int, .int, (.array .int), (.array .int), (.array .int), (.array .int), .boolean, .int, (.array .int), (.array .int), (.array .int), .int, .int, .int]
  staticTypes := #[.int, .int, .int, .int, .int, .int, .int, .int, .int, .int, .int, .int, .int]
  resolved := Array.replicate 149 none
  statics := none }

def pool3 : Array CpInfo := pool [(1, u "java/lang/Cloneable"), (0, .class_ 1), (0, u "java/lang/Object"), (0, .class_ 3)] 3

/-- java/lang/Cloneable -/
def k3 : Class := { plain "java/lang/Cloneable" (some 0) with
  accessFlags := 1537
  interfaces := #[]
  cf := some (fileOf pool3 2 #[] #[] 1537 4 #[] #[])
  fields := #[]
  methods := #[]
  instanceTypes := #[]
  staticTypes := #[]
  resolved := Array.replicate 8 none
  statics := none }

def pool4 : Array CpInfo := pool [(1, u "java/io/Serializable"), (0, .class_ 1), (0, u "java/lang/Object"), (0, .class_ 3)] 3

/-- java/io/Serializable -/
def k4 : Class := { plain "java/io/Serializable" (some 0) with
  accessFlags := 1537
  interfaces := #[]
  cf := some (fileOf pool4 2 #[] #[] 1537 4 #[] #[])
  fields := #[]
  methods := #[]
  instanceTypes := #[]
  staticTypes := #[]
  resolved := Array.replicate 8 none
  statics := none }

/-- the primitive byte -/
def k5 : Class := { plain "byte" none with kind := .primitive 'B', accessFlags := 0x411 }
/-- [B -/
def k6 : Class := { plain "[B" (some 0) with kind := .array 5 .byte, interfaces := #[3, 4], accessFlags := 1041 }

/-- the primitive int -/
def k7 : Class := { plain "int" none with kind := .primitive 'I', accessFlags := 0x411 }
/-- [I -/
def k8 : Class := { plain "[I" (some 0) with kind := .array 7 .int, interfaces := #[3, 4], accessFlags := 1041 }

def heap : Heap := #[{ cls := 8, slots := #[.int 0, .int 3, .int 0, .int 0, .int 2, .int 3, .int 0, .int 0, .int 7, .int 9, .int 0, .int 0], vm := .none }]
def classes : Array Class := #[k0, k1, k2, k3, k4, k5, k6, k7, k8]
def interned : List (Array UInt16 × Addr) := []
def slotsUsed : Nat := 12
def theMethod : MethodId := ⟨1, 5⟩
def args0 : Array Value := #[.ref 0]
def aboutOver (below : List Frame) : State where
  vm := { classes := classes, interned := interned.toArray }
  heap := heap
  slotsUsed := slotsUsed
  threads := #[{ frames := .invoking theMethod args0 :: below }]
def below0 : List Frame := [.native { method := ⟨0, 0⟩, args := #[] }]
def about1 : State := aboutOver below0
def p0 : Program := .bare "" "" ""
def e0 : Env := launch0.env 0 0 0
theorem w_frames : about1.frames = Frame.invoking theMethod args0 :: below0 := rfl
set_option maxRecDepth 65536 in
theorem w_args : argsFit about1.vm theMethod args0 = true := by decide +kernel
set_option maxRecDepth 65536 in
theorem w_heap : heapFits about1 = true := by decide +kernel
set_option maxRecDepth 65536 in
theorem w_runnable : about1.curStatus? = some .runnable := by decide +kernel
set_option maxRecDepth 65536 in
theorem w_alone : about1.alone = true := by decide +kernel
set_option maxRecDepth 65536 in
theorem w_named : about1.methodNamed? x = some theMethod := by decide +kernel
set_option maxRecDepth 65536 in
theorem w_hears : about1.hears theMethod below0 = true := by decide +kernel
set_option maxRecDepth 65536 in
theorem w_ripe : about1.ripe theMethod args0 below0 = true := by decide +kernel
theorem w_running : about1.status = .running := rfl
set_option maxRecDepth 65536 in
theorem w_room : about1.hasRoom e0.platform room_1 = true :=
  launch0.hasRoom_least _ room_1 (by decide +kernel) (by decide +kernel) (by decide +kernel) (by decide +kernel) (by decide +kernel) (by decide +kernel)
theorem allAtoms_all (ts : List Jvm.Cond) (a : Array Jvm.Value) (st : Jvm.State) : (allAtoms ts).before a st = ts.all (fun c => c.before a st) := by
  induction ts with
  | nil => rfl
  | cons c t ih =>
    show (Jvm.Cond.and c (allAtoms t)).before a st = _
    rw [Jvm.Cond.before_and, ih, List.all_cons]
def words1 : List Jvm.Cond := Jvm.Cond.code x code maxLocals ret :: tables_1
/-- a 'code' word, met by the world's own term for the bytes: nothing is compared byte by byte -/
theorem code_word {y : MethodName} {bytes : ByteArray} {mx : Nat} {rt : Option FieldType} {a : Array Value} {s : State} {m : MethodId} {meth : Method} {c : Code} (h1 : s.methodNamed? y = some m) (h2 : s.vm.method? m = some meth) (h3 : meth.code = some c) (h4 : c.code = bytes)
    (h5 : (c.maxLocals == mx && c.exceptionTable.isEmpty && decide (c.maxStack ≤ mostOperands) && decide (meth.sig.returnType = rt) && !meth.locks && decide (parseMethodDescriptor y.desc = some meth.sig)) = true) : (Jvm.Cond.code y bytes mx rt).before a s = true := by
  simp only [Bool.and_eq_true, beq_iff_eq, Bool.not_eq_true', decide_eq_true_eq] at h5
  obtain ⟨⟨⟨⟨⟨g1, g2⟩, g3⟩, g4⟩, g5⟩, g6⟩ := h5
  simp [Cond.before, Cond.holds, Cond.value, h1, h2, h3, h4, g1, g2, g3, g4, g5, g6]
def isCode : Jvm.Cond → Bool
  | .code _ _ _ _ => true
  | _ => false
theorem all_split {L : List Jvm.Cond} {P : Jvm.Cond → Bool} (h1 : L.all (fun c => isCode c || P c) = true) (h2 : ∀ c ∈ L.filter isCode, P c = true) : L.all P = true := by
  refine List.all_eq_true.mpr fun c hc => ?_
  have h := List.all_eq_true.mp h1 c hc
  rcases Bool.eq_false_or_eq_true (isCode c) with hi | hi
  · exact h2 c (List.mem_filter.mpr ⟨hc, hi⟩)
  · simpa [hi] using h
set_option maxRecDepth 65536 in
theorem w_c0 : (Jvm.Cond.code x code maxLocals ret).before args0 about1 = true := code_word (m := ⟨1, 5⟩) (meth := k1m5) (c := k1c5) (by decide +kernel) rfl rfl rfl (by decide +kernel)
set_option maxRecDepth 65536 in
theorem w_c1 : (Jvm.Cond.code ({ cls := "CyclicExecutive", name := "<init>", desc := "(II)V" } : Jvm.MethodName) prog_1_method_1_code (3 : Nat) (Option.none : Option Jvm.ClassFile.FieldType)).before args0 about1 = true := code_word (m := ⟨2, 0⟩) (meth := k2m0) (c := k2c0) (by decide +kernel) rfl rfl rfl (by decide +kernel)
set_option maxRecDepth 65536 in
theorem w_c2 : (Jvm.Cond.code ({ cls := "java/lang/Object", name := "<init>", desc := "()V" } : Jvm.MethodName) object_method_1_code (1 : Nat) (Option.none : Option Jvm.ClassFile.FieldType)).before args0 about1 = true := code_word (m := ⟨0, 0⟩) (meth := k0m0) (c := k0c0) (by decide +kernel) rfl rfl rfl (by decide +kernel)
set_option maxRecDepth 65536 in
theorem w_c3 : (Jvm.Cond.code ({ cls := "CyclicExecutive", name := "clamp", desc := "(III)I" } : Jvm.MethodName) prog_1_method_2_code (4 : Nat) (Option.some Jvm.ClassFile.FieldType.int)).before args0 about1 = true := code_word (m := ⟨2, 1⟩) (meth := k2m1) (c := k2c1) (by decide +kernel) rfl rfl rfl (by decide +kernel)
set_option maxRecDepth 65536 in
theorem w_c4 : (Jvm.Cond.code ({ cls := "CyclicExecutive", name := "run", desc := "(I)I" } : Jvm.MethodName) prog_1_method_26_code (5 : Nat) (Option.some Jvm.ClassFile.FieldType.int)).before args0 about1 = true := code_word (m := ⟨2, 17⟩) (meth := k2m17) (c := k2c17) (by decide +kernel) rfl rfl rfl (by decide +kernel)
set_option maxRecDepth 65536 in
theorem w_c5 : (Jvm.Cond.code ({ cls := "CyclicExecutive", name := "getTaskCount", desc := "()I" } : Jvm.MethodName) prog_1_method_7_code (1 : Nat) (Option.some Jvm.ClassFile.FieldType.int)).before args0 about1 = true := code_word (m := ⟨2, 6⟩) (meth := k2m6) (c := k2c6) (by decide +kernel) rfl rfl rfl (by decide +kernel)
set_option maxRecDepth 65536 in
theorem w_c6 : (Jvm.Cond.code ({ cls := "CyclicExecutive", name := "getHyperperiod", desc := "()I" } : Jvm.MethodName) prog_1_method_8_code (1 : Nat) (Option.some Jvm.ClassFile.FieldType.int)).before args0 about1 = true := code_word (m := ⟨2, 7⟩) (meth := k2m7) (c := k2c7) (by decide +kernel) rfl rfl rfl (by decide +kernel)
set_option maxRecDepth 65536 in
theorem w_c7 : (Jvm.Cond.code ({ cls := "CyclicExecutive", name := "getFrame", desc := "()I" } : Jvm.MethodName) prog_1_method_20_code (1 : Nat) (Option.some Jvm.ClassFile.FieldType.int)).before args0 about1 = true := code_word (m := ⟨2, 15⟩) (meth := k2m15) (c := k2c15) (by decide +kernel) rfl rfl rfl (by decide +kernel)
set_option maxRecDepth 65536 in
theorem w_c8 : (Jvm.Cond.code ({ cls := "CyclicExecutive", name := "getNow", desc := "()I" } : Jvm.MethodName) prog_1_method_27_code (1 : Nat) (Option.some Jvm.ClassFile.FieldType.int)).before args0 about1 = true := code_word (m := ⟨2, 18⟩) (meth := k2m18) (c := k2c18) (by decide +kernel) rfl rfl rfl (by decide +kernel)
set_option maxRecDepth 65536 in
theorem w_c9 : (Jvm.Cond.code ({ cls := "CyclicExecutive", name := "getMiss", desc := "()I" } : Jvm.MethodName) prog_1_method_25_code (1 : Nat) (Option.some Jvm.ClassFile.FieldType.int)).before args0 about1 = true := code_word (m := ⟨2, 16⟩) (meth := k2m16) (c := k2c16) (by decide +kernel) rfl rfl rfl (by decide +kernel)
set_option maxRecDepth 65536 in
theorem w_c10 : (Jvm.Cond.code ({ cls := "CyclicExecutiveL6", name := "runsOk", desc := "(LCyclicExecutive;IIIIJJ)Z" } : Jvm.MethodName) method_5_code (15 : Nat) (Option.some Jvm.ClassFile.FieldType.boolean)).before args0 about1 = true := code_word (m := ⟨1, 4⟩) (meth := k1m4) (c := k1c4) (by decide +kernel) rfl rfl rfl (by decide +kernel)
set_option maxRecDepth 65536 in
theorem w_c11 : (Jvm.Cond.code ({ cls := "CyclicExecutive", name := "getRunTicks", desc := "(I)I" } : Jvm.MethodName) prog_1_method_28_code (2 : Nat) (Option.some Jvm.ClassFile.FieldType.int)).before args0 about1 = true := code_word (m := ⟨2, 19⟩) (meth := k2m19) (c := k2c19) (by decide +kernel) rfl rfl rfl (by decide +kernel)
set_option maxRecDepth 65536 in
theorem w_c12 : (Jvm.Cond.code ({ cls := "CyclicExecutive", name := "addTask", desc := "(III)I" } : Jvm.MethodName) prog_1_method_6_code (7 : Nat) (Option.some Jvm.ClassFile.FieldType.int)).before args0 about1 = true := code_word (m := ⟨2, 5⟩) (meth := k2m5) (c := k2c5) (by decide +kernel) rfl rfl rfl (by decide +kernel)
set_option maxRecDepth 65536 in
theorem w_c13 : (Jvm.Cond.code ({ cls := "CyclicExecutive", name := "lcm", desc := "(II)I" } : Jvm.MethodName) prog_1_method_4_code (4 : Nat) (Option.some Jvm.ClassFile.FieldType.int)).before args0 about1 = true := code_word (m := ⟨2, 3⟩) (meth := k2m3) (c := k2c3) (by decide +kernel) rfl rfl rfl (by decide +kernel)
set_option maxRecDepth 65536 in
theorem w_c14 : (Jvm.Cond.code ({ cls := "CyclicExecutive", name := "gcd", desc := "(II)I" } : Jvm.MethodName) prog_1_method_3_code (7 : Nat) (Option.some Jvm.ClassFile.FieldType.int)).before args0 about1 = true := code_word (m := ⟨2, 2⟩) (meth := k2m2) (c := k2c2) (by decide +kernel) rfl rfl rfl (by decide +kernel)
set_option maxRecDepth 65536 in
theorem w_c15 : (Jvm.Cond.code ({ cls := "CyclicExecutive", name := "resetDispatcher", desc := "()V" } : Jvm.MethodName) prog_1_method_5_code (2 : Nat) (Option.none : Option Jvm.ClassFile.FieldType)).before args0 about1 = true := code_word (m := ⟨2, 4⟩) (meth := k2m4) (c := k2c4) (by decide +kernel) rfl rfl rfl (by decide +kernel)
set_option maxRecDepth 65536 in
theorem w_c16 : (Jvm.Cond.code ({ cls := "CyclicExecutiveL6", name := "gcd", desc := "(II)I" } : Jvm.MethodName) method_2_code (4 : Nat) (Option.some Jvm.ClassFile.FieldType.int)).before args0 about1 = true := code_word (m := ⟨1, 1⟩) (meth := k1m1) (c := k1c1) (by decide +kernel) rfl rfl rfl (by decide +kernel)
set_option maxRecDepth 65536 in
theorem w_c17 : (Jvm.Cond.code ({ cls := "CyclicExecutive", name := "build", desc := "(I)I" } : Jvm.MethodName) prog_1_method_15_code (4 : Nat) (Option.some Jvm.ClassFile.FieldType.int)).before args0 about1 = true := code_word (m := ⟨2, 10⟩) (meth := k2m10) (c := k2c10) (by decide +kernel) rfl rfl rfl (by decide +kernel)
set_option maxRecDepth 65536 in
theorem w_c18 : (Jvm.Cond.code ({ cls := "CyclicExecutive", name := "dividesHyper", desc := "(I)Z" } : Jvm.MethodName) prog_1_method_9_code (2 : Nat) (Option.some Jvm.ClassFile.FieldType.boolean)).before args0 about1 = true := code_word (m := ⟨2, 8⟩) (meth := k2m8) (c := k2c8) (by decide +kernel) rfl rfl rfl (by decide +kernel)
set_option maxRecDepth 65536 in
theorem w_c19 : (Jvm.Cond.code ({ cls := "CyclicExecutive", name := "deadlinesOk", desc := "(I)Z" } : Jvm.MethodName) prog_1_method_11_code (4 : Nat) (Option.some Jvm.ClassFile.FieldType.boolean)).before args0 about1 = true := code_word (m := ⟨2, 9⟩) (meth := k2m9) (c := k2c9) (by decide +kernel) rfl rfl rfl (by decide +kernel)
set_option maxRecDepth 65536 in
theorem w_c20 : (Jvm.Cond.code ({ cls := "CyclicExecutiveL6", name := "deadlineFails", desc := "(IIJJ)Z" } : Jvm.MethodName) method_4_code (9 : Nat) (Option.some Jvm.ClassFile.FieldType.boolean)).before args0 about1 = true := code_word (m := ⟨1, 3⟩) (meth := k1m3) (c := k1c3) (by decide +kernel) rfl rfl rfl (by decide +kernel)
set_option maxRecDepth 65536 in
theorem w_c21 : (Jvm.Cond.code ({ cls := "CyclicExecutiveL6", name := "fld", desc := "(JI)I" } : Jvm.MethodName) method_3_code (3 : Nat) (Option.some Jvm.ClassFile.FieldType.int)).before args0 about1 = true := code_word (m := ⟨1, 2⟩) (meth := k1m2) (c := k1c2) (by decide +kernel) rfl rfl rfl (by decide +kernel)
set_option maxRecDepth 65536 in
theorem w_c22 : (Jvm.Cond.code ({ cls := "CyclicExecutive", name := "initJobs", desc := "()V" } : Jvm.MethodName) prog_1_method_16_code (4 : Nat) (Option.none : Option Jvm.ClassFile.FieldType)).before args0 about1 = true := code_word (m := ⟨2, 11⟩) (meth := k2m11) (c := k2c11) (by decide +kernel) rfl rfl rfl (by decide +kernel)
set_option maxRecDepth 65536 in
theorem w_c23 : (Jvm.Cond.code ({ cls := "CyclicExecutive", name := "fillFrame", desc := "(II)V" } : Jvm.MethodName) prog_1_method_17_code (11 : Nat) (Option.none : Option Jvm.ClassFile.FieldType)).before args0 about1 = true := code_word (m := ⟨2, 12⟩) (meth := k2m12) (c := k2c12) (by decide +kernel) rfl rfl rfl (by decide +kernel)
set_option maxRecDepth 65536 in
theorem w_c24 : (Jvm.Cond.code ({ cls := "CyclicExecutive", name := "pickJob", desc := "(II)I" } : Jvm.MethodName) prog_1_method_18_code (9 : Nat) (Option.some Jvm.ClassFile.FieldType.int)).before args0 about1 = true := code_word (m := ⟨2, 13⟩) (meth := k2m13) (c := k2c13) (by decide +kernel) rfl rfl rfl (by decide +kernel)
set_option maxRecDepth 65536 in
theorem w_c25 : (Jvm.Cond.code ({ cls := "CyclicExecutive", name := "findMiss", desc := "()I" } : Jvm.MethodName) prog_1_method_19_code (8 : Nat) (Option.some Jvm.ClassFile.FieldType.int)).before args0 about1 = true := code_word (m := ⟨2, 14⟩) (meth := k2m14) (c := k2c14) (by decide +kernel) rfl rfl rfl (by decide +kernel)
def codes1 : List Jvm.Cond := [Jvm.Cond.code x code maxLocals ret, Jvm.Cond.code ({ cls := "CyclicExecutive", name := "<init>", desc := "(II)V" } : Jvm.MethodName) prog_1_method_1_code (3 : Nat) (Option.none : Option Jvm.ClassFile.FieldType), Jvm.Cond.code ({ cls := "java/lang/Object", name := "<init>", desc := "()V" } : Jvm.MethodName) object_method_1_code (1 : Nat) (Option.none : Option Jvm.ClassFile.FieldType), Jvm.Cond.code ({ cls := "CyclicExecutive", name := "clamp", desc := "(III)I" } : Jvm.MethodName) prog_1_method_2_code (4 : Nat) (Option.some Jvm.ClassFile.FieldType.int), Jvm.Cond.code ({ cls := "CyclicExecutive", name := "run", desc := "(I)I" } : Jvm.MethodName) prog_1_method_26_code (5 : Nat) (Option.some Jvm.ClassFile.FieldType.int), Jvm.Cond.code ({ cls := "CyclicExecutive", name := "getTaskCount", desc := "()I" } : Jvm.MethodName) prog_1_method_7_code (1 : Nat) (Option.some Jvm.ClassFile.FieldType.int), Jvm.Cond.code ({ cls := "CyclicExecutive", name := "getHyperperiod", desc := "()I" } : Jvm.MethodName) prog_1_method_8_code (1 : Nat) (Option.some Jvm.ClassFile.FieldType.int), Jvm.Cond.code ({ cls := "CyclicExecutive", name := "getFrame", desc := "()I" } : Jvm.MethodName) prog_1_method_20_code (1 : Nat) (Option.some Jvm.ClassFile.FieldType.int), Jvm.Cond.code ({ cls := "CyclicExecutive", name := "getNow", desc := "()I" } : Jvm.MethodName) prog_1_method_27_code (1 : Nat) (Option.some Jvm.ClassFile.FieldType.int), Jvm.Cond.code ({ cls := "CyclicExecutive", name := "getMiss", desc := "()I" } : Jvm.MethodName) prog_1_method_25_code (1 : Nat) (Option.some Jvm.ClassFile.FieldType.int), Jvm.Cond.code ({ cls := "CyclicExecutiveL6", name := "runsOk", desc := "(LCyclicExecutive;IIIIJJ)Z" } : Jvm.MethodName) method_5_code (15 : Nat) (Option.some Jvm.ClassFile.FieldType.boolean), Jvm.Cond.code ({ cls := "CyclicExecutive", name := "getRunTicks", desc := "(I)I" } : Jvm.MethodName) prog_1_method_28_code (2 : Nat) (Option.some Jvm.ClassFile.FieldType.int), Jvm.Cond.code ({ cls := "CyclicExecutive", name := "addTask", desc := "(III)I" } : Jvm.MethodName) prog_1_method_6_code (7 : Nat) (Option.some Jvm.ClassFile.FieldType.int), Jvm.Cond.code ({ cls := "CyclicExecutive", name := "lcm", desc := "(II)I" } : Jvm.MethodName) prog_1_method_4_code (4 : Nat) (Option.some Jvm.ClassFile.FieldType.int), Jvm.Cond.code ({ cls := "CyclicExecutive", name := "gcd", desc := "(II)I" } : Jvm.MethodName) prog_1_method_3_code (7 : Nat) (Option.some Jvm.ClassFile.FieldType.int), Jvm.Cond.code ({ cls := "CyclicExecutive", name := "resetDispatcher", desc := "()V" } : Jvm.MethodName) prog_1_method_5_code (2 : Nat) (Option.none : Option Jvm.ClassFile.FieldType), Jvm.Cond.code ({ cls := "CyclicExecutiveL6", name := "gcd", desc := "(II)I" } : Jvm.MethodName) method_2_code (4 : Nat) (Option.some Jvm.ClassFile.FieldType.int), Jvm.Cond.code ({ cls := "CyclicExecutive", name := "build", desc := "(I)I" } : Jvm.MethodName) prog_1_method_15_code (4 : Nat) (Option.some Jvm.ClassFile.FieldType.int), Jvm.Cond.code ({ cls := "CyclicExecutive", name := "dividesHyper", desc := "(I)Z" } : Jvm.MethodName) prog_1_method_9_code (2 : Nat) (Option.some Jvm.ClassFile.FieldType.boolean), Jvm.Cond.code ({ cls := "CyclicExecutive", name := "deadlinesOk", desc := "(I)Z" } : Jvm.MethodName) prog_1_method_11_code (4 : Nat) (Option.some Jvm.ClassFile.FieldType.boolean), Jvm.Cond.code ({ cls := "CyclicExecutiveL6", name := "deadlineFails", desc := "(IIJJ)Z" } : Jvm.MethodName) method_4_code (9 : Nat) (Option.some Jvm.ClassFile.FieldType.boolean), Jvm.Cond.code ({ cls := "CyclicExecutiveL6", name := "fld", desc := "(JI)I" } : Jvm.MethodName) method_3_code (3 : Nat) (Option.some Jvm.ClassFile.FieldType.int), Jvm.Cond.code ({ cls := "CyclicExecutive", name := "initJobs", desc := "()V" } : Jvm.MethodName) prog_1_method_16_code (4 : Nat) (Option.none : Option Jvm.ClassFile.FieldType), Jvm.Cond.code ({ cls := "CyclicExecutive", name := "fillFrame", desc := "(II)V" } : Jvm.MethodName) prog_1_method_17_code (11 : Nat) (Option.none : Option Jvm.ClassFile.FieldType), Jvm.Cond.code ({ cls := "CyclicExecutive", name := "pickJob", desc := "(II)I" } : Jvm.MethodName) prog_1_method_18_code (9 : Nat) (Option.some Jvm.ClassFile.FieldType.int), Jvm.Cond.code ({ cls := "CyclicExecutive", name := "findMiss", desc := "()I" } : Jvm.MethodName) prog_1_method_19_code (8 : Nat) (Option.some Jvm.ClassFile.FieldType.int)]
set_option maxRecDepth 65536 in
theorem codes_eq : words1.filter isCode = codes1 := rfl
theorem w_codes : ∀ c ∈ words1.filter isCode, c.before args0 about1 = true := by
  rw [codes_eq]
  intro c hc
  simp only [codes1, List.mem_cons, List.not_mem_nil, or_false] at hc
  rcases hc with rfl | rfl | rfl | rfl | rfl | rfl | rfl | rfl | rfl | rfl | rfl | rfl | rfl | rfl | rfl | rfl | rfl | rfl | rfl | rfl | rfl | rfl | rfl | rfl | rfl | rfl
  · exact w_c0
  · exact w_c1
  · exact w_c2
  · exact w_c3
  · exact w_c4
  · exact w_c5
  · exact w_c6
  · exact w_c7
  · exact w_c8
  · exact w_c9
  · exact w_c10
  · exact w_c11
  · exact w_c12
  · exact w_c13
  · exact w_c14
  · exact w_c15
  · exact w_c16
  · exact w_c17
  · exact w_c18
  · exact w_c19
  · exact w_c20
  · exact w_c21
  · exact w_c22
  · exact w_c23
  · exact w_c24
  · exact w_c25
set_option maxRecDepth 65536 in
theorem w_t1 : (words1.take 24).all (fun c => isCode c || c.before args0 about1) = true := by decide +kernel
set_option maxRecDepth 65536 in
theorem w_t2 : ((words1.drop 24).take 24).all (fun c => isCode c || c.before args0 about1) = true := by decide +kernel
set_option maxRecDepth 65536 in
theorem w_t3 : (((words1.drop 24).drop 24).take 24).all (fun c => isCode c || c.before args0 about1) = true := by decide +kernel
set_option maxRecDepth 65536 in
theorem w_t4 : ((((words1.drop 24).drop 24).drop 24).take 24).all (fun c => isCode c || c.before args0 about1) = true := by decide +kernel
set_option maxRecDepth 65536 in
theorem w_t5 : (((((words1.drop 24).drop 24).drop 24).drop 24).take 24).all (fun c => isCode c || c.before args0 about1) = true := by decide +kernel
set_option maxRecDepth 65536 in
theorem w_t6 : (((((words1.drop 24).drop 24).drop 24).drop 24).drop 24).all (fun c => isCode c || c.before args0 about1) = true := by decide +kernel
theorem w_tables : (allAtoms (Jvm.Cond.code x code maxLocals ret :: tables_1)).before args0 about1 = true := by
  rw [allAtoms_all]
  show words1.all (fun c => c.before args0 about1) = true
  refine all_split ?_ w_codes
  rw [← List.take_append_drop 24 words1, List.all_append, w_t1, ← List.take_append_drop 24 (words1.drop 24), List.all_append, w_t2, ← List.take_append_drop 24 ((words1.drop 24).drop 24), List.all_append, w_t3, ← List.take_append_drop 24 (((words1.drop 24).drop 24).drop 24), List.all_append, w_t4, ← List.take_append_drop 24 ((((words1.drop 24).drop 24).drop 24).drop 24), List.all_append, w_t5, w_t6]
  rfl
set_option maxRecDepth 65536 in
theorem w_rest : rest_1_c.before args0 about1 = true := by decide +kernel
set_option maxRecDepth 65536 in
theorem w_case : (Jvm.Cond.and given_1 narrow_1).before args0 about1 = true := by decide +kernel
theorem w_applies : (headSpec (Jvm.Cond.code x code maxLocals ret :: tables_1) room_1).applies x e0.platform about1 = true :=
  (Spec.applies_iff w_frames).mpr ⟨w_running, w_runnable, w_alone, w_named, w_hears, w_ripe, w_room, w_tables⟩
theorem atStart : AtStart classFile x code maxLocals ret World_1 tables_1 room_1 Calls_1 rest_1 Pre_1 launch0 p0 e0 about1 theMethod args0 below0 :=
  ⟨lists_1, trivial, launch0.admits_env _ _ _, launch0.least_env, fairChoices_fair.cas, fairChoices_fair.clock, w_frames, w_args, w_heap, w_applies, trivial, w_rest, w_case⟩
end start1
theorem witness_1 : WitnessClaimed_1 := ⟨start1.p0, start1.e0, start1.about1, start1.theMethod, start1.args0, start1.below0, start1.atStart⟩
end Jvm.Pilot.@@N@@
