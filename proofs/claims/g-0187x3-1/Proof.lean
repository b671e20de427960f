import JvmDerived
import JvmDerived.Pilot.@@N@@Statement
import JvmDerived.Pilot.@@N@@Code
set_option linter.unusedVariables false
set_option linter.unusedSimpArgs false
namespace Jvm.RoadKit
open Sem ClassFile Op Lib Jvm.Stand Jvm.Free Jvm.LawKit
section New
variable {p : Program} {l : Launch} {e : Env} {R : Room} {s : State} {m : MethodId} {args : Array Value} {below : List Frame} {meth : Method} {c : Code} {T : State} {locs : List Loc} {cells slots : Nat}
theorem retI (X : Stand p l e R s m args below meth c T locs cells slots) (hx : p.tables.exec = Jvm.exec) {pc : Nat} {Ls : Array Slot} {z : Int32} {rest : List Value} (hret : meth.sig.returnType = some .int) (hd : decode c.code pc = .ok (.ireturn, 1)) {fs : List Frame}
    (hl : ∀ (f : JFrame) (acts : List Action), f.method = m → f.locked = none → f.entered = [] → (doReturn e (T.setTop f) acts (some (.int z))).1 = T.setFrames fs) : Steps p.tables e below (T.setTop (mkF m pc Ls (.int z :: rest))) (T.setFrames fs) := by
  have hm' : T.vm.method? m = some meth := X.method'
  have hn : narrow .int (.int z) = .int z := rfl
  show Steps p.tables e below (T.setTop { method := m, pc := pc, locals := Ls, stack := _ :: rest, locked := none }) _
  jvm_step X.here [X.here.top, hx, hd, hm', hret, hn]
  first | (intro acts; rw [hl _ acts rfl rfl rfl]) | rw [hl _ _ rfl rfl rfl]
  exact Steps.refl _
end New
end Jvm.RoadKit
namespace Jvm.Own
open Jvm Jvm.ClassFile Sem Op Lib Jvm.Free Jvm.Stand Jvm.LawKit Jvm.RoadKit
/-! ## 1. Local variables: what the walk knows of them (L) and what they are (r) -/
def rv (ρ : Nat → Addr) : Value → Value
  | .ref k => .ref (ρ k)
  | .int x => .int x
  | .long x => .long x
  | .float x => .float x
  | .double x => .double x
  | .null => .null
  | .retAddr x => .retAddr x
def rs (ρ : Nat → Addr) : Slot → Slot
  | .val v => .val (rv ρ v)
  | .unset => .unset
  | .second => .second
theorem rv_cat (ρ : Nat → Addr) (v : Value) : (rv ρ v).category = v.category := by cases v <;> rfl
def WR (f : Nat → Option Slot) : Prop := (∀ i v, f i = some (.val v) → v.category = 2 → f (i + 1) = some .second) ∧ (∀ i, f i = some .second → ∃ j v, i = j + 1 ∧ f j = some (.val v) ∧ v.category = 2)
def up (f : Nat → Option Slot) (i : Nat) (x : Slot) : Nat → Option Slot := fun k => if k = i then some x else f k
def C1 (s : Option Slot) : Prop := s = some .unset ∨ ∃ w, s = some (.val w) ∧ w.category = 1
theorem C1.not2 {s : Option Slot} (h : C1 s) : s ≠ some .second ∧ ∀ v, s = some (.val v) → v.category ≠ 2 := by
  rcases h with rfl | ⟨w, rfl, h⟩
  · exact ⟨nofun, nofun⟩
  · exact ⟨nofun, fun v e q => by cases e; omega⟩
theorem up_at (f : Nat → Option Slot) (i : Nat) (x : Slot) : up f i x i = some x := by simp [up]
theorem up_ne (f : Nat → Option Slot) {i k : Nat} (x : Slot) (h : k ≠ i) : up f i x k = f k := by simp [up, h]
theorem WR.one {f : Nat → Option Slot} {i : Nat} {x : Slot} (h : WR f) (hi : C1 (f i)) (hx : C1 (some x)) : WR (up f i x) := by
  obtain ⟨n1, n2⟩ := hi.not2
  obtain ⟨m1, m2⟩ := hx.not2
  constructor
  · intro k v hk hv
    by_cases e : k = i
    · subst e; rw [up_at] at hk; exact absurd hv (m2 v hk)
    · rw [up_ne _ _ e] at hk
      have q := h.1 k v hk hv
      by_cases e2 : k + 1 = i
      · rw [e2] at q; exact absurd q n1
      · rw [up_ne _ _ e2]; exact q
  · intro k hk
    by_cases e : k = i
    · subst e; rw [up_at] at hk; exact absurd hk m1
    · rw [up_ne _ _ e] at hk
      obtain ⟨j, v, e1, e2, e3⟩ := h.2 k hk
      refine ⟨j, v, e1, ?_, e3⟩
      by_cases e4 : j = i
      · rw [e4] at e2; exact absurd e3 (n2 v e2)
      · rw [up_ne _ _ e4]; exact e2
theorem WR.clr {f : Nat → Option Slot} {j : Nat} {v : Value} (h : WR f) (hj : f j = some (.val v)) (hv : v.category = 2) : WR (up (up f j .unset) (j + 1) .unset) := by
  have q := h.1 j v hj hv
  constructor
  · intro k w hk hw
    by_cases e : k = j + 1
    · subst e; rw [up_at] at hk; cases hk
    · rw [up_ne _ _ e] at hk
      by_cases e2 : k = j
      · subst e2; rw [up_at] at hk; cases hk
      · rw [up_ne _ _ e2] at hk
        have q2 := h.1 k w hk hw
        by_cases e3 : k + 1 = j
        · rw [e3] at q2; rw [hj] at q2; cases q2
        · rw [up_ne _ _ (show k + 1 ≠ j + 1 by omega), up_ne _ _ e3]; exact q2
  · intro k hk
    by_cases e : k = j + 1
    · subst e; rw [up_at] at hk; cases hk
    · rw [up_ne _ _ e] at hk
      by_cases e2 : k = j
      · subst e2; rw [up_at] at hk; cases hk
      · rw [up_ne _ _ e2] at hk
        obtain ⟨i, w, e3, e4, e5⟩ := h.2 k hk
        refine ⟨i, w, e3, ?_, e5⟩
        by_cases e6 : i = j + 1
        · rw [e6, q] at e4; cases e4
        · rw [up_ne _ _ e6, up_ne _ _ (show i ≠ j by omega)]; exact e4
theorem WR.two {f : Nat → Option Slot} {i : Nat} {v : Value} (h : WR f) (h1 : C1 (f i)) (h2 : C1 (f (i + 1))) (hv : v.category = 2) : WR (up (up f i (.val v)) (i + 1) .second) := by
  obtain ⟨n1, n2⟩ := h1.not2
  obtain ⟨m1, m2⟩ := h2.not2
  constructor
  · intro k w hk hw
    by_cases e : k = i + 1
    · subst e; rw [up_at] at hk; cases hk
    · rw [up_ne _ _ e] at hk
      by_cases e2 : k = i
      · subst e2; exact up_at _ _ _
      · rw [up_ne _ _ e2] at hk
        have q := h.1 k w hk hw
        by_cases e3 : k + 1 = i
        · rw [e3] at q; exact absurd q n1
        · rw [up_ne _ _ (show k + 1 ≠ i + 1 by omega), up_ne _ _ e3]; exact q
  · intro k hk
    by_cases e : k = i + 1
    · exact ⟨i, v, e, by rw [up_ne _ _ (show i ≠ i + 1 by omega), up_at], hv⟩
    · rw [up_ne _ _ e] at hk
      by_cases e2 : k = i
      · subst e2; rw [up_at] at hk; cases hk
      · rw [up_ne _ _ e2] at hk
        obtain ⟨j, w, e3, e4, e5⟩ := h.2 k hk
        refine ⟨j, w, e3, ?_, e5⟩
        by_cases e6 : j = i + 1
        · rw [e6] at e4; exact absurd e5 (m2 w e4)
        · by_cases e7 : j = i
          · omega
          · rw [up_ne _ _ e6, up_ne _ _ e7]; exact e4
theorem up_arr {r : Array Slot} {i : Nat} (hi : i < r.size) (x : Slot) : (fun k => (r.setIfInBounds i x)[k]?) = up (fun k => r[k]?) i x := by
  funext k
  show (r.setIfInBounds i x)[k]? = _
  rw [Array.getElem?_setIfInBounds]
  by_cases e : i = k
  · subst e; simp [up, hi]
  · rw [if_neg e, up_ne _ _ (Ne.symm e)]
theorem up_lst {L : List Slot} {i : Nat} (hi : i < L.length) (x : Slot) : (fun k => (L.set i x)[k]?) = up (fun k => L[k]?) i x := by
  funext k
  show (L.set i x)[k]? = _
  rw [List.getElem?_set]
  by_cases e : i = k
  · subst e; simp [up, hi]
  · rw [if_neg e, up_ne _ _ (Ne.symm e)]
def SR (ρ : Nat → Addr) (L : List Slot) (r : Array Slot) : Prop :=
  r.size = L.length ∧ (∀ (i : Nat) (v : Value), L[i]? = some (.val v) → r[i]? = some (.val (rv ρ v))) ∧ (∀ (i : Nat), L[i]? = some .second → r[i]? = some .second) ∧ WR (fun k => L[k]?) ∧ WR (fun k => r[k]?)
theorem SR.get {ρ : Nat → Addr} {L : List Slot} {r : Array Slot} (h : SR ρ L r) {i : Nat} {v : Value} (e : L[i]? = some (.val v)) : r[i]? = some (.val (rv ρ v)) := h.2.1 i v e
/-- a store of one word over nothing or one word -/
theorem SR.st1 {ρ : Nat → Addr} {L : List Slot} {r : Array Slot} {i : Nat} {v : Value} (h : SR ρ L r) (ho : C1 L[i]?) (hv : v.category = 1) :
    ∃ r', storeLocals r i (rv ρ v) = some r' ∧ SR ρ (L.set i (.val v)) r' := by
  obtain ⟨h1, h2, h3, h4, h5⟩ := h
  have hi : i < L.length := by
    rcases ho with h | ⟨w, h, -⟩ <;> exact (List.getElem?_eq_some_iff.mp h).1
  have hir : i < r.size := by omega
  have hcv : (rv ρ v).category = 1 := by rw [rv_cat]; exact hv
  have hcx : C1 (some (Slot.val (rv ρ v))) := Or.inr ⟨_, rfl, hcv⟩
  obtain ⟨n1, n2⟩ := ho.not2
  have fin : ∀ r' : Array Slot, r'.size = r.size → WR (fun k => r'[k]?) → r'[i]? = some (.val (rv ρ v)) → (∀ k, k ≠ i → r'[k]? = r[k]? ∨ ∀ s, L[k]? = some s → s = .unset) → SR ρ (L.set i (.val v)) r' := by
    intro r' a1 a2 a3 a4
    refine ⟨by rw [a1, h1, List.length_set], ?_, ?_, by rw [up_lst hi]; exact h4.one ho (Or.inr ⟨v, rfl, hv⟩), a2⟩
    · intro k w hk
      rw [List.getElem?_set] at hk
      by_cases e : i = k
      · subst e; simp [hi] at hk; subst hk; exact a3
      · rw [if_neg e] at hk
        rcases a4 k (Ne.symm e) with q | q
        · rw [q]; exact h2 k w hk
        · cases q _ hk
    · intro k hk
      rw [List.getElem?_set] at hk
      by_cases e : i = k
      · subst e; simp [hi] at hk
      · rw [if_neg e] at hk
        rcases a4 k (Ne.symm e) with q | q
        · rw [q]; exact h3 k hk
        · cases q _ hk
  obtain ⟨q, hq⟩ : ∃ q, r[i]? = some q := ⟨_, Array.getElem?_eq_getElem hir⟩
  have plain : C1 (r[i]?) → ∃ r', storeLocals r i (rv ρ v) = some r' ∧ SR ρ (L.set i (.val v)) r' := by
    intro hC
    have hs : storeLocals r i (rv ρ v) = some (r.setIfInBounds i (.val (rv ρ v))) := by
      rcases hC with e | ⟨w, e, hw⟩
      · exact XS.store1 e (Or.inl rfl) hcv
      · exact XS.store1 e (Or.inr ⟨w, rfl, hw⟩) hcv
    refine ⟨_, hs, fin _ (by simp) (by rw [up_arr hir]; exact h5.one hC hcx) (by simp [hir]) ?_⟩
    intro k hk
    exact Or.inl (Array.getElem?_setIfInBounds_ne (Ne.symm hk))
  cases q with
  | unset => exact plain (Or.inl hq)
  | val w =>
    by_cases hw : w.category = 2
    · have q2 := h5.1 i w hq hw
      have hj : i + 1 < r.size := (Array.getElem?_eq_some_iff.mp q2).1
      have Lu : ∀ k, (k = i ∨ k = i + 1) → ∀ s, L[k]? = some s → s = .unset := by
        intro k hk s hs
        cases s with
        | unset => rfl
        | second =>
          rcases hk with rfl | rfl
          · exact absurd hs n1
          · obtain ⟨j, u, e1, e2, e3⟩ := h4.2 _ hs
            have : j = i := by omega
            subst this
            exact absurd e3 (n2 u e2)
        | val u =>
          rcases hk with rfl | rfl
          · have := h2 _ _ hs
            rw [hq] at this
            cases this
            rw [rv_cat] at hw
            exact absurd hw (n2 u hs)
          · have := h2 _ _ hs
            have q3 : r[i + 1]? = some .second := q2
            rw [q3] at this; cases this
      have hs : storeLocals r i (rv ρ v) = some ((r.setIfInBounds (i + 1) .unset).setIfInBounds i (.val (rv ρ v))) := by
        simp [storeLocals, storeSelf, setAt, hq, (Array.getElem?_eq_some_iff.mp hq).2, hw, hj, hir, hcv]
      refine ⟨_, hs, fin _ (by simp) ?_ (by simp [hir]) ?_⟩
      · have e : (fun k => ((r.setIfInBounds (i + 1) .unset).setIfInBounds i (.val (rv ρ v)))[k]?) = up (up (up (fun k => r[k]?) i .unset) (i + 1) .unset) i (.val (rv ρ v)) := by
          rw [up_arr (by simpa using hir), up_arr hj]
          funext k
          simp only [up]
          by_cases e : k = i
          · simp [e]
          · simp [e]
        rw [e]
        exact (h5.clr hq hw).one (Or.inl (by simp [up])) hcx
      · intro k hk
        by_cases e : k = i + 1
        · exact Or.inr (Lu k (Or.inr e))
        · left
          rw [Array.getElem?_setIfInBounds_ne (Ne.symm hk), Array.getElem?_setIfInBounds_ne (Ne.symm e)]
    · refine plain (Or.inr ⟨w, hq, ?_⟩)
      cases w <;> simp [Value.category] at hw ⊢
  | second =>
    obtain ⟨j, u, e1, e2, e3⟩ := h5.2 i hq
    subst e1
    have e2' : r[j]? = some (.val u) := e2
    have hj : j < r.size := by omega
    have Lu : ∀ s, L[j]? = some s → s = .unset := by
      intro s hs
      cases s with
      | unset => rfl
      | second => have := h3 _ hs; rw [e2'] at this; cases this
      | val w =>
        have := h2 _ _ hs
        rw [e2'] at this
        cases this
        rw [rv_cat] at e3
        exact absurd (h4.1 j w hs e3) n1
    have hs : storeLocals r (j + 1) (rv ρ v) = some ((r.setIfInBounds j .unset).setIfInBounds (j + 1) (.val (rv ρ v))) := by
      simp [storeLocals, storeSelf, setAt, hq, (Array.getElem?_eq_some_iff.mp hq).2, hj, hir, hcv]
    refine ⟨_, hs, fin _ (by simp) ?_ (by simp [hir]) ?_⟩
    · have e : (fun k => ((r.setIfInBounds j .unset).setIfInBounds (j + 1) (.val (rv ρ v)))[k]?) = up (up (up (fun k => r[k]?) j .unset) (j + 1) .unset) (j + 1) (.val (rv ρ v)) := by
        rw [up_arr (by simpa using hir), up_arr hj]
        funext k
        simp only [up]
        by_cases e : k = j + 1
        · simp [e]
        · simp [e]
      rw [e]
      exact (h5.clr e2 e3).one (Or.inl (by simp [up])) hcx
    · intro k hk
      by_cases e : k = j
      · subst e; exact Or.inr Lu
      · left
        rw [Array.getElem?_setIfInBounds_ne (Ne.symm hk), Array.getElem?_setIfInBounds_ne (Ne.symm e)]
end Jvm.Own

namespace Jvm.Own
open Jvm Jvm.ClassFile Sem Op Lib Jvm.Free Jvm.Stand Jvm.LawKit Jvm.RoadKit
theorem cat12 (w : Value) (h : ¬ w.category = 2) : w.category = 1 := by cases w <;> simp [Value.category] at h ⊢
theorem getset_ne {r : Array Slot} {i k : Nat} {x t : Slot} (h : r[k]? = some t) (ne : i ≠ k) (hk : k < (r.setIfInBounds i x).size) : (r.setIfInBounds i x)[k] = t := by
  have q : (r.setIfInBounds i x)[k]? = some t := by rw [Array.getElem?_setIfInBounds_ne ne]; exact h
  exact (Array.getElem?_eq_some_iff.mp q).2
/-- a store of two words over nothing or single words -/
theorem SR.st2 {ρ : Nat → Addr} {L : List Slot} {r : Array Slot} {i : Nat} {v : Value} (h : SR ρ L r) (ho : C1 L[i]?) (ho' : C1 L[i + 1]?) (hv : v.category = 2) :
    ∃ r', storeLocals r i (rv ρ v) = some r' ∧ SR ρ ((L.set i (.val v)).set (i + 1) .second) r' := by
  obtain ⟨h1, h2, h3, h4, h5⟩ := h
  have hi : i + 1 < L.length := by
    rcases ho' with h | ⟨w, h, -⟩ <;> exact (List.getElem?_eq_some_iff.mp h).1
  have hir1 : i + 1 < r.size := by omega
  have hir : i < r.size := by omega
  have hcv : (rv ρ v).category = 2 := by rw [rv_cat]; exact hv
  obtain ⟨n1, n2⟩ := ho.not2
  obtain ⟨m1, m2⟩ := ho'.not2
  have nr : ∀ w, r[i]? = some (.val w) → ∀ u, L[i]? = some (.val u) → w.category = 2 → False := by
    intro w hw u hu hc
    have := h2 _ _ hu
    rw [hw] at this; cases this
    rw [rv_cat] at hc
    exact n2 u hu hc
  have fin : ∀ r' : Array Slot, r'.size = r.size → WR (fun k => r'[k]?) → r'[i]? = some (.val (rv ρ v)) → r'[i + 1]? = some .second → (∀ k, k ≠ i → k ≠ i + 1 → r'[k]? = r[k]? ∨ ∀ s, L[k]? = some s → s = .unset) → SR ρ ((L.set i (.val v)).set (i + 1) .second) r' := by
    intro r' a1 a2 a3 a3' a4
    refine ⟨by rw [a1, h1]; simp, ?_, ?_, by rw [up_lst (by simpa using hi), up_lst (by omega)]; exact h4.two ho ho' hv, a2⟩
    · intro k w hk
      rw [List.getElem?_set] at hk
      by_cases e : i + 1 = k
      · subst e; simp [hi] at hk
      · rw [if_neg e, List.getElem?_set] at hk
        by_cases e2 : i = k
        · subst e2; simp [show i < L.length by omega] at hk; subst hk; exact a3
        · rw [if_neg e2] at hk
          rcases a4 k (Ne.symm e2) (Ne.symm e) with q | q
          · rw [q]; exact h2 k w hk
          · cases q _ hk
    · intro k hk
      rw [List.getElem?_set] at hk
      by_cases e : i + 1 = k
      · subst e; exact a3'
      · rw [if_neg e, List.getElem?_set] at hk
        by_cases e2 : i = k
        · subst e2; simp [show i < L.length by omega] at hk
        · rw [if_neg e2] at hk
          rcases a4 k (Ne.symm e2) (Ne.symm e) with q | q
          · rw [q]; exact h3 k hk
          · cases q _ hk
  have Lun2 : ∀ u, r[i + 1]? = some (.val u) → u.category = 2 → ∀ s, L[i + 2]? = some s → s = .unset := by
    intro u hu hc s hs
    have q2 : r[i + 2]? = some .second := h5.1 (i + 1) u hu hc
    cases s with
    | unset => rfl
    | second =>
      obtain ⟨j, w, e1, e2, e3⟩ := h4.2 _ hs
      have : j = i + 1 := by omega
      subst this
      exact absurd e3 (m2 w e2)
    | val w => have := h2 _ _ hs; rw [q2] at this; cases this
  obtain ⟨q, hq⟩ : ∃ q, r[i]? = some q := ⟨_, Array.getElem?_eq_getElem hir⟩
  obtain ⟨q1, hq1⟩ : ∃ q, r[i + 1]? = some q := ⟨_, Array.getElem?_eq_getElem hir1⟩
  have ne1 : i + 1 ≠ i := by omega
  cases q with
  | unset =>
    have hC : C1 (r[i]?) := Or.inl hq
    cases q1 with
    | unset =>
      refine ⟨(r.setIfInBounds i (.val (rv ρ v))).setIfInBounds (i + 1) .second, by simp [storeLocals, storeSelf, setAt, hq, (Array.getElem?_eq_some_iff.mp hq).2, hq1, (Array.getElem?_eq_some_iff.mp hq1).2, hir, hir1, hcv, Array.getElem?_setIfInBounds], fin _ (by simp) ?_ (by simp [hir, Array.getElem?_setIfInBounds]) (by simp [hir1]) ?_⟩
      · rw [up_arr (by simpa using hir1), up_arr hir]; exact h5.two hC (Or.inl hq1) hcv
      · intro k a b; left; rw [Array.getElem?_setIfInBounds_ne (Ne.symm b), Array.getElem?_setIfInBounds_ne (Ne.symm a)]
    | second => obtain ⟨j, w, e1, e2, e3⟩ := h5.2 _ hq1; have : j = i := by omega
                subst this; have e2' : r[j]? = some (.val w) := e2; rw [hq] at e2'; cases e2'
    | val u =>
      by_cases hu : u.category = 2
      · have q2 : r[i + 2]? = some .second := h5.1 (i + 1) u hq1 hu
        have hi2 : i + 2 < r.size := (Array.getElem?_eq_some_iff.mp q2).1
        refine ⟨((r.setIfInBounds i (.val (rv ρ v))).setIfInBounds (i + 2) .unset).setIfInBounds (i + 1) .second, by simp [storeLocals, storeSelf, setAt, hq, (Array.getElem?_eq_some_iff.mp hq).2, hq1, (Array.getElem?_eq_some_iff.mp hq1).2, hir, hir1, hi2, hcv, hu, Array.getElem?_setIfInBounds], fin _ (by simp) ?_ (by simp [hir, Array.getElem?_setIfInBounds]) (by simp [hir1]) ?_⟩
        · have e : (fun k => (((r.setIfInBounds i (.val (rv ρ v))).setIfInBounds (i + 2) .unset).setIfInBounds (i + 1) .second)[k]?) = up (up (up (up (fun k => r[k]?) (i + 1) .unset) (i + 2) .unset) i (.val (rv ρ v))) (i + 1) .second := by
            rw [up_arr (by simpa using hir1), up_arr (by simpa using hi2), up_arr hir]
            funext k
            simp only [up]
            by_cases e : k = i + 1
            · simp [e]
            · by_cases e2 : k = i
              · simp [e2]
              · simp [e, e2]
          rw [e]
          exact (h5.clr hq1 hu).two (Or.inl (by simp [up, hq] <;> omega)) (Or.inl (by simp [up] <;> omega)) hcv
        · intro k a b
          by_cases e : k = i + 2
          · subst e; exact Or.inr (Lun2 u hq1 hu)
          · left; rw [Array.getElem?_setIfInBounds_ne (Ne.symm b), Array.getElem?_setIfInBounds_ne (Ne.symm e), Array.getElem?_setIfInBounds_ne (Ne.symm a)]
      · refine ⟨(r.setIfInBounds i (.val (rv ρ v))).setIfInBounds (i + 1) .second, by simp [storeLocals, storeSelf, setAt, hq, (Array.getElem?_eq_some_iff.mp hq).2, hq1, (Array.getElem?_eq_some_iff.mp hq1).2, hir, hir1, hcv, hu, Array.getElem?_setIfInBounds], fin _ (by simp) ?_ (by simp [hir, Array.getElem?_setIfInBounds]) (by simp [hir1]) ?_⟩
        · rw [up_arr (by simpa using hir1), up_arr hir]; exact h5.two hC (Or.inr ⟨u, hq1, cat12 u hu⟩) hcv
        · intro k a b; left; rw [Array.getElem?_setIfInBounds_ne (Ne.symm b), Array.getElem?_setIfInBounds_ne (Ne.symm a)]
  | val w =>
    by_cases hw : w.category = 2
    · have q2 : r[i + 1]? = some .second := h5.1 i w hq hw
      have Lu : ∀ s, L[i]? = some s → s = .unset := by
        intro s hs
        cases s with
        | unset => rfl
        | second => exact absurd hs n1
        | val u => exact (nr w hq u hs hw).elim
      refine ⟨((r.setIfInBounds (i + 1) .unset).setIfInBounds i (.val (rv ρ v))).setIfInBounds (i + 1) .second, by simp [storeLocals, storeSelf, setAt, hq, (Array.getElem?_eq_some_iff.mp hq).2, hw, hir, hir1, hcv, Array.getElem?_setIfInBounds], fin _ (by simp) ?_ (by simp [hir, Array.getElem?_setIfInBounds]) (by simp [hir1]) ?_⟩
      · have e : (fun k => (((r.setIfInBounds (i + 1) .unset).setIfInBounds i (.val (rv ρ v))).setIfInBounds (i + 1) .second)[k]?) = up (up (up (up (fun k => r[k]?) i .unset) (i + 1) .unset) i (.val (rv ρ v))) (i + 1) .second := by
          rw [up_arr (by simpa using hir1), up_arr (by simpa using hir), up_arr hir1]
          funext k
          simp only [up]
          by_cases e : k = i + 1
          · simp [e]
          · by_cases e2 : k = i
            · simp [e2]
            · simp [e, e2]
        rw [e]
        exact (h5.clr hq hw).two (Or.inl (by simp [up] <;> omega)) (Or.inl (by simp [up] <;> omega)) hcv
      · intro k a b
        left; rw [Array.getElem?_setIfInBounds_ne (Ne.symm b), Array.getElem?_setIfInBounds_ne (Ne.symm a), Array.getElem?_setIfInBounds_ne (Ne.symm b)]
    · have hC : C1 (r[i]?) := Or.inr ⟨w, hq, cat12 w hw⟩
      cases q1 with
      | unset =>
        refine ⟨(r.setIfInBounds i (.val (rv ρ v))).setIfInBounds (i + 1) .second, by simp [storeLocals, storeSelf, setAt, hq, (Array.getElem?_eq_some_iff.mp hq).2, hq1, (Array.getElem?_eq_some_iff.mp hq1).2, hw, hir, hir1, hcv, Array.getElem?_setIfInBounds], fin _ (by simp) ?_ (by simp [hir, Array.getElem?_setIfInBounds]) (by simp [hir1]) ?_⟩
        · rw [up_arr (by simpa using hir1), up_arr hir]; exact h5.two hC (Or.inl hq1) hcv
        · intro k a b; left; rw [Array.getElem?_setIfInBounds_ne (Ne.symm b), Array.getElem?_setIfInBounds_ne (Ne.symm a)]
      | second => obtain ⟨j, u, e1, e2, e3⟩ := h5.2 _ hq1; have : j = i := by omega
                  subst this; have e2' : r[j]? = some (.val u) := e2; rw [hq] at e2'; cases e2'; exact absurd e3 hw
      | val u =>
        by_cases hu : u.category = 2
        · have q2 : r[i + 2]? = some .second := h5.1 (i + 1) u hq1 hu
          have hi2 : i + 2 < r.size := (Array.getElem?_eq_some_iff.mp q2).1
          refine ⟨((r.setIfInBounds i (.val (rv ρ v))).setIfInBounds (i + 2) .unset).setIfInBounds (i + 1) .second, by simp [storeLocals, storeSelf, setAt, hq, (Array.getElem?_eq_some_iff.mp hq).2, hq1, (Array.getElem?_eq_some_iff.mp hq1).2, hw, hir, hir1, hi2, hcv, hu, Array.getElem?_setIfInBounds], fin _ (by simp) ?_ (by simp [hir, Array.getElem?_setIfInBounds]) (by simp [hir1]) ?_⟩
          · have e : (fun k => (((r.setIfInBounds i (.val (rv ρ v))).setIfInBounds (i + 2) .unset).setIfInBounds (i + 1) .second)[k]?) = up (up (up (up (fun k => r[k]?) (i + 1) .unset) (i + 2) .unset) i (.val (rv ρ v))) (i + 1) .second := by
              rw [up_arr (by simpa using hir1), up_arr (by simpa using hi2), up_arr hir]
              funext k
              simp only [up]
              by_cases e : k = i + 1
              · simp [e]
              · by_cases e2 : k = i
                · simp [e2]
                · simp [e, e2]
            rw [e]
            exact (h5.clr hq1 hu).two (Or.inr ⟨w, by simp [up, hq] <;> omega, cat12 w hw⟩) (Or.inl (by simp [up] <;> omega)) hcv
          · intro k a b
            by_cases e : k = i + 2
            · subst e; exact Or.inr (Lun2 u hq1 hu)
            · left; rw [Array.getElem?_setIfInBounds_ne (Ne.symm b), Array.getElem?_setIfInBounds_ne (Ne.symm e), Array.getElem?_setIfInBounds_ne (Ne.symm a)]
        · refine ⟨(r.setIfInBounds i (.val (rv ρ v))).setIfInBounds (i + 1) .second, by simp [storeLocals, storeSelf, setAt, hq, (Array.getElem?_eq_some_iff.mp hq).2, hq1, (Array.getElem?_eq_some_iff.mp hq1).2, hw, hir, hir1, hcv, hu, Array.getElem?_setIfInBounds], fin _ (by simp) ?_ (by simp [hir, Array.getElem?_setIfInBounds]) (by simp [hir1]) ?_⟩
          · rw [up_arr (by simpa using hir1), up_arr hir]; exact h5.two hC (Or.inr ⟨u, hq1, cat12 u hu⟩) hcv
          · intro k a b; left; rw [Array.getElem?_setIfInBounds_ne (Ne.symm b), Array.getElem?_setIfInBounds_ne (Ne.symm a)]
  | second =>
    obtain ⟨j, y, e1, e2, e3⟩ := h5.2 i hq
    subst e1
    have e2' : r[j]? = some (.val y) := e2
    have hj : j < r.size := by omega
    have Lu : ∀ s, L[j]? = some s → s = .unset := by
      intro s hs
      cases s with
      | unset => rfl
      | second => have := h3 _ hs; rw [e2'] at this; cases this
      | val w =>
        have := h2 _ _ hs
        rw [e2'] at this
        cases this
        rw [rv_cat] at e3
        exact absurd (h4.1 j w hs e3) n1
    have W5 := h5.clr e2 e3
    cases q1 with
    | unset =>
      refine ⟨((r.setIfInBounds j .unset).setIfInBounds (j + 1) (.val (rv ρ v))).setIfInBounds (j + 1 + 1) .second, by simp [storeLocals, storeSelf, setAt, hq, (Array.getElem?_eq_some_iff.mp hq).2, hq1, (Array.getElem?_eq_some_iff.mp hq1).2, getset_ne hq1 (show j ≠ j + 1 + 1 by omega), hj, hir, hir1, hcv, Array.getElem?_setIfInBounds], fin _ (by simp) ?_ (by simp [hir, Array.getElem?_setIfInBounds]) (by simp [hir1]) ?_⟩
      · have e : (fun k => (((r.setIfInBounds j .unset).setIfInBounds (j + 1) (.val (rv ρ v))).setIfInBounds (j + 1 + 1) .second)[k]?) = up (up (up (up (fun k => r[k]?) j .unset) (j + 1) .unset) (j + 1) (.val (rv ρ v))) (j + 1 + 1) .second := by
          rw [up_arr (by simpa using hir1), up_arr (by simpa using hir), up_arr hj]
          funext k
          simp only [up]
          by_cases e : k = j + 1 + 1
          · simp [e]
          · by_cases e2 : k = j + 1
            · simp [e2]
            · simp [e, e2]
        rw [e]
        exact W5.two (Or.inl (by simp [up] <;> omega)) (Or.inl (by simp [up, hq1] <;> omega)) hcv
      · intro k a b
        by_cases e : k = j
        · subst e; exact Or.inr Lu
        · left; rw [Array.getElem?_setIfInBounds_ne (Ne.symm b), Array.getElem?_setIfInBounds_ne (Ne.symm a), Array.getElem?_setIfInBounds_ne (Ne.symm e)]
    | second => obtain ⟨k, w, f1, f2, f3⟩ := h5.2 _ hq1; have : k = j + 1 := by omega
                subst this; have f2' : r[j + 1]? = some (.val w) := f2; rw [hq] at f2'; cases f2'
    | val u =>
      by_cases hu : u.category = 2
      · have q2 : r[j + 1 + 2]? = some .second := h5.1 (j + 1 + 1) u hq1 hu
        have hi2 : j + 1 + 2 < r.size := (Array.getElem?_eq_some_iff.mp q2).1
        refine ⟨(((r.setIfInBounds j .unset).setIfInBounds (j + 1) (.val (rv ρ v))).setIfInBounds (j + 1 + 2) .unset).setIfInBounds (j + 1 + 1) .second, by simp [storeLocals, storeSelf, setAt, hq, (Array.getElem?_eq_some_iff.mp hq).2, hq1, (Array.getElem?_eq_some_iff.mp hq1).2, getset_ne hq1 (show j ≠ j + 1 + 1 by omega), hj, hir, hir1, hi2, hcv, hu, Array.getElem?_setIfInBounds], fin _ (by simp) ?_ (by simp [hir, Array.getElem?_setIfInBounds]) (by simp [hir1]) ?_⟩
        · have e : (fun k => ((((r.setIfInBounds j .unset).setIfInBounds (j + 1) (.val (rv ρ v))).setIfInBounds (j + 1 + 2) .unset).setIfInBounds (j + 1 + 1) .second)[k]?) = up (up (up (up (up (up (fun k => r[k]?) j .unset) (j + 1) .unset) (j + 1 + 1) .unset) (j + 1 + 1 + 1) .unset) (j + 1) (.val (rv ρ v))) (j + 1 + 1) .second := by
            rw [up_arr (by simpa using hir1), up_arr (by simpa using hi2), up_arr (by simpa using hir), up_arr hj]
            funext k
            simp only [up]
            by_cases e : k = j + 1 + 1
            · simp [e]
            · by_cases e2 : k = j + 1
              · simp [e2]
              · simp [e, e2]
          rw [e]
          exact (W5.clr (j := j + 1 + 1) (v := u) (by simp [up, hq1] <;> omega) hu).two (Or.inl (by simp [up] <;> omega)) (Or.inl (by simp [up] <;> omega)) hcv
        · intro k a b
          by_cases e : k = j
          · subst e; exact Or.inr Lu
          · by_cases e4 : k = j + 1 + 2
            · subst e4; exact Or.inr (Lun2 u hq1 hu)
            · left; rw [Array.getElem?_setIfInBounds_ne (Ne.symm b), Array.getElem?_setIfInBounds_ne (Ne.symm e4), Array.getElem?_setIfInBounds_ne (Ne.symm a), Array.getElem?_setIfInBounds_ne (Ne.symm e)]
      · refine ⟨((r.setIfInBounds j .unset).setIfInBounds (j + 1) (.val (rv ρ v))).setIfInBounds (j + 1 + 1) .second, by simp [storeLocals, storeSelf, setAt, hq, (Array.getElem?_eq_some_iff.mp hq).2, hq1, (Array.getElem?_eq_some_iff.mp hq1).2, getset_ne hq1 (show j ≠ j + 1 + 1 by omega), hj, hir, hir1, hcv, hu, Array.getElem?_setIfInBounds], fin _ (by simp) ?_ (by simp [hir, Array.getElem?_setIfInBounds]) (by simp [hir1]) ?_⟩
        · have e : (fun k => (((r.setIfInBounds j .unset).setIfInBounds (j + 1) (.val (rv ρ v))).setIfInBounds (j + 1 + 1) .second)[k]?) = up (up (up (up (fun k => r[k]?) j .unset) (j + 1) .unset) (j + 1) (.val (rv ρ v))) (j + 1 + 1) .second := by
            rw [up_arr (by simpa using hir1), up_arr (by simpa using hir), up_arr hj]
            funext k
            simp only [up]
            by_cases e : k = j + 1 + 1
            · simp [e]
            · by_cases e2 : k = j + 1
              · simp [e2]
              · simp [e, e2]
          rw [e]
          exact W5.two (Or.inl (by simp [up] <;> omega)) (Or.inr ⟨u, by simp [up, hq1] <;> omega, cat12 u hu⟩) hcv
        · intro k a b
          by_cases e : k = j
          · subst e; exact Or.inr Lu
          · left; rw [Array.getElem?_setIfInBounds_ne (Ne.symm b), Array.getElem?_setIfInBounds_ne (Ne.symm a), Array.getElem?_setIfInBounds_ne (Ne.symm e)]
/-- which lists of slots are laid out well -/
def wfL : List Slot → Bool
  | [] => true
  | .unset :: t => wfL t
  | .second :: _ => false
  | [.val v] => decide (v.category = 1)
  | .val v :: .second :: t => decide (v.category = 2) && wfL t
  | .val v :: .unset :: t => decide (v.category = 1) && wfL t
  | .val v :: .val u :: t => decide (v.category = 1) && wfL (.val u :: t)
/-- the walk forgets the variables that the mask marks -/
def fg : List Bool → List Slot → List Slot
  | true :: b, _ :: t => .unset :: fg b t
  | false :: b, s :: t => s :: fg b t
  | _, t => t
theorem WR.nil : WR (fun k => ([] : List Slot)[k]?) := ⟨fun i v h => by simp at h, fun i h => by simp at h⟩
theorem WR.cons1 {t : List Slot} {s : Slot} (h : WR (fun k => t[k]?)) (hs : C1 (some s)) : WR (fun k => (s :: t)[k]?) := by
  obtain ⟨n1, n2⟩ := hs.not2
  constructor
  · intro i v hi hv
    cases i with
    | zero => exact absurd hv (n2 v (by simpa using hi))
    | succ i => have := h.1 i v (by simpa using hi) hv; simpa using this
  · intro i hi
    cases i with
    | zero => exact absurd (by simpa using hi) n1
    | succ i => obtain ⟨j, v, e1, e2, e3⟩ := h.2 i (by simpa using hi); exact ⟨j + 1, v, by omega, by simpa using e2, e3⟩
theorem WR.cons2 {t : List Slot} {w : Value} (h : WR (fun k => t[k]?)) (hw : w.category = 2) : WR (fun k => (Slot.val w :: .second :: t)[k]?) := by
  constructor
  · intro i v hi hv
    match i with
    | 0 => simp
    | 1 => simp at hi
    | i + 2 => have := h.1 i v (by simpa using hi) hv; simpa using this
  · intro i hi
    match i with
    | 0 => simp at hi
    | 1 => exact ⟨0, w, rfl, by simp, hw⟩
    | i + 2 => obtain ⟨j, v, e1, e2, e3⟩ := h.2 i (by simpa using hi); exact ⟨j + 2, v, by omega, by simpa using e2, e3⟩
theorem WR.of_wfL : (L : List Slot) → wfL L = true → WR (fun k => L[k]?)
  | [], _ => WR.nil
  | .unset :: t, h => (WR.of_wfL t h).cons1 (Or.inl rfl)
  | .second :: _, h => by simp [wfL] at h
  | [.val v], h => WR.nil.cons1 (Or.inr ⟨v, rfl, by simpa [wfL] using h⟩)
  | .val v :: .second :: t, h => by simp [wfL] at h; exact (WR.of_wfL t h.2).cons2 h.1
  | .val v :: .unset :: t, h => by simp [wfL] at h; exact ((WR.of_wfL t h.2).cons1 (Or.inl rfl)).cons1 (Or.inr ⟨v, rfl, h.1⟩)
  | .val v :: .val u :: t, h => by
    have h' : decide (v.category = 1) = true ∧ wfL (.val u :: t) = true := by rw [wfL, Bool.and_eq_true] at h; exact h
    exact (WR.of_wfL (.val u :: t) h'.2).cons1 (Or.inr ⟨v, rfl, of_decide_eq_true h'.1⟩)
theorem fg_length : (b : List Bool) → (L : List Slot) → (fg b L).length = L.length
  | true :: b, _ :: t => by simp [fg, fg_length b t]
  | false :: b, s :: t => by simp [fg, fg_length b t]
  | [], t => by simp [fg]
  | true :: _, [] => by simp [fg]
  | false :: _, [] => by simp [fg]
theorem fg_get : (b : List Bool) → (L : List Slot) → ∀ (i : Nat) (s : Slot), (fg b L)[i]? = some s → s = .unset ∨ L[i]? = some s
  | true :: b, x :: t, i, s, h => by
    cases i with
    | zero => left; simpa [fg] using h.symm
    | succ i => have := fg_get b t i s (by simpa [fg] using h); simpa using this
  | false :: b, x :: t, i, s, h => by
    cases i with
    | zero => right; simpa [fg] using h
    | succ i => have := fg_get b t i s (by simpa [fg] using h); simpa using this
  | [], t, i, s, h => by right; simpa [fg] using h
  | true :: _, [], i, s, h => by right; simpa [fg] using h
  | false :: _, [], i, s, h => by right; simpa [fg] using h
theorem SR.forget {ρ : Nat → Addr} {L : List Slot} {r : Array Slot} (h : SR ρ L r) (b : List Bool) (hw : wfL (fg b L) = true) : SR ρ (fg b L) r := by
  obtain ⟨h1, h2, h3, h4, h5⟩ := h
  refine ⟨by rw [fg_length]; exact h1, fun i v hi => ?_, fun i hi => ?_, WR.of_wfL _ hw, h5⟩
  · rcases fg_get _ _ _ _ hi with e | e
    · cases e
    · exact h2 i v e
  · rcases fg_get _ _ _ _ hi with e | e
    · cases e
    · exact h3 i e
/-- at a method's entry -/
theorem a2l (ρ : Nat → Addr) (as : List Value) (mx : Nat) : argsToLocals (as.map (rv ρ)).toArray mx = (argsToLocals as.toArray mx).map (rs ρ) := by
  have key : ∀ (as : List Value) (acc : Array Slot), (as.map (rv ρ)).foldl (fun acc v => if v.category = 2 then (acc.push (.val v)).push .second else acc.push (.val v)) (acc.map (rs ρ)) = (as.foldl (fun acc v => if v.category = 2 then (acc.push (.val v)).push .second else acc.push (.val v)) acc).map (rs ρ) := by
    intro as
    induction as with
    | nil => intro acc; rfl
    | cons v t ih =>
      intro acc
      simp only [List.map_cons, List.foldl_cons, rv_cat]
      by_cases hv : v.category = 2
      · rw [if_pos hv, if_pos hv, ← ih]; simp [Array.map_push, rs]
      · rw [if_neg hv, if_neg hv, ← ih]; simp [Array.map_push, rs]
  have k0 := key as #[]
  simp only [Array.map_empty] at k0
  simp only [argsToLocals, List.foldl_toArray', List.size_toArray]
  simp only [k0, Array.map_append, Array.size_map, Array.map_replicate, rs]
theorem SR.entry (ρ : Nat → Addr) (as : List Value) (mx : Nat) {L : List Slot} (hL : (argsToLocals as.toArray mx).toList = L) (hw : wfL L = true) : SR ρ L (argsToLocals (as.map (rv ρ)).toArray mx) := by
  subst hL
  rw [a2l]
  have hW := WR.of_wfL _ hw
  generalize argsToLocals as.toArray mx = A at hW
  have g : ∀ i : Nat, (A.map (rs ρ))[i]? = (A.toList[i]?).map (rs ρ) := by intro i; simp
  refine ⟨by simp, fun i v hi => by rw [g, hi]; rfl, fun i hi => by rw [g, hi]; rfl, hW, ?_, ?_⟩
  · intro i v hi hv
    have hi' : (A.toList[i]?).map (rs ρ) = some (.val v) := by rw [← g]; exact hi
    cases hs : A.toList[i]? with
    | none => rw [hs] at hi'; cases hi'
    | some s =>
      rw [hs] at hi'
      cases s with
      | unset => cases hi'
      | second => cases hi'
      | val u =>
        cases hi'
        have := hW.1 i u hs (by rwa [rv_cat] at hv)
        show (A.map (rs ρ))[i + 1]? = _
        rw [g]
        have t : A.toList[i + 1]? = some .second := this
        rw [t]; rfl
  · intro i hi
    have hi' : (A.toList[i]?).map (rs ρ) = some .second := by rw [← g]; exact hi
    cases hs : A.toList[i]? with
    | none => rw [hs] at hi'; cases hi'
    | some s =>
      rw [hs] at hi'
      cases s with
      | unset => cases hi'
      | val u => cases hi'
      | second =>
        obtain ⟨j, v, e1, e2, e3⟩ := hW.2 i hs
        refine ⟨j, rv ρ v, e1, ?_, by rw [rv_cat]; exact e3⟩
        show (A.map (rs ρ))[j]? = _
        rw [g]
        have t : A.toList[j]? = some (.val v) := e2
        rw [t]; rfl
end Jvm.Own

namespace Jvm.Own
open Jvm Jvm.ClassFile Sem Op Lib Jvm.Free Jvm.Stand Jvm.LawKit Jvm.RoadKit
/-! ## 2. A method's data; what it means that a walk from a point of it comes to an end -/
/-- name, bytes, number of variables, what it returns, room, cells that it makes -/
abbrev MD : Type := MethodName × ByteArray × Nat × Option FieldType × Room × Nat
abbrev nmOf (md : MD) : MethodName := md.1
abbrev byOf (md : MD) : ByteArray := md.2.1
abbrev mxOf (md : MD) : Nat := md.2.2.1
abbrev rtOf (md : MD) : Option FieldType := md.2.2.2.1
abbrev rmOf (md : MD) : Room := md.2.2.2.2.1
abbrev exOf (md : MD) : Nat := md.2.2.2.2.2
/-- the class whose methods are walked; where the walk's references point; the first new address; what the heap holds; what a walk leaves alone -/
abbrev Mode (μ E : Type) : Type := String × (E → Nat → Addr) × (E → Nat) × (E → μ → Heap → Prop) × (E → Heap → Heap → Prop)
abbrev Mode.own {μ E : Type} (M : Mode μ E) : String := M.1
abbrev Mode.rho {μ E : Type} (M : Mode μ E) : E → Nat → Addr := M.2.1
abbrev Mode.lo {μ E : Type} (M : Mode μ E) : E → Nat := M.2.2.1
abbrev Mode.rel {μ E : Type} (M : Mode μ E) : E → μ → Heap → Prop := M.2.2.2.1
abbrev Mode.frm {μ E : Type} (M : Mode μ E) : E → Heap → Heap → Prop := M.2.2.2.2
def Kn (Z : State) (own : String) (md : MD) (p : Program) (s : State) (m : MethodId) (meth : Method) (c : Code) : Prop :=
  p.tables.exec = Jvm.exec ∧ Z.Warmed39 s.vm ∧ s.vm.findClass own = some m.cls ∧ meth.name = (nmOf md).name ∧ meth.sig.returnType = rtOf md ∧ meth.locks = false ∧ c.code = byOf md ∧ c.maxLocals = mxOf md
def Done {μ E : Type} (l : Launch) (M : Mode μ E) (md : MD) (Q : Option Value → μ → Prop) (en : E) (p : Program) (e : Env) (s : State) (m : MethodId) (args : Array Value) (below : List Frame) (meth : Method) (c : Code) (T : State) (g : JFrame) : Prop :=
  ∃ (T' : State) (locs' : List Loc) (su' : Nat) (v : Option Value) (w' : μ), Stand p l e (rmOf md) s m args below meth c T' locs' (exOf md) su' ∧ exOf md ≤ (rmOf md).cells ∧ su' ≤ (rmOf md).slots ∧ T'.heap.size = s.heap.size + exOf md ∧ Fr (M.lo en) locs' ∧ M.rel en w' T'.heap ∧ M.frm en T.heap T'.heap ∧
    (meth.sig.returnType = none → v = none) ∧ (∀ ρ x, v = some x → rv ρ x = x) ∧ Q v w' ∧
    ∀ fs, (∀ (f : JFrame) (acts : List Action), f.method = m → f.locked = none → f.entered = [] → (doReturn e (T'.setTop f) acts v).1 = T'.setFrames fs) → Steps p.tables e below (T.setTop g) (T'.setFrames fs)
/-- from the pc, with these variables and operands, over w, the walk returns with what Q says -/
def Wk {μ E : Type} (l : Launch) (Z : State) (M : Mode μ E) (md : MD) (pc : Nat) (L : List Slot) (S : List Value) (w : μ) (cu su : Nat) (Q : Option Value → μ → Prop) : Prop :=
  ∀ (en : E) (p : Program) (e : Env) (s : State) (m : MethodId) (args : Array Value) (below : List Frame) (meth : Method) (c : Code) (T : State) (locs : List Loc) (r : Array Slot),
    Stand p l e (rmOf md) s m args below meth c T locs cu su → Kn Z M.own md p s m meth c → T.heap.size = s.heap.size + cu → Fr (M.lo en) locs → M.rel en w T.heap → SR (M.rho en) L r →
    Done l M md Q en p e s m args below meth c T (mkF m pc r (S.map (rv (M.rho en))))
section Steps
variable {μ E : Type} {l : Launch} {Z : State} {M : Mode μ E} {md : MD} {pc pc' : Nat} {L L' : List Slot} {S : List Value} {w : μ} {cu su : Nat} {Q : Option Value → μ → Prop}
theorem Done.pre {en : E} {p : Program} {e : Env} {s : State} {m : MethodId} {args : Array Value} {below : List Frame} {meth : Method} {c : Code} {T T1 : State} {g g1 : JFrame} (h : Done l M md Q en p e s m args below meth c T1 g1) (hT : ∀ x, M.frm en T1.heap x → M.frm en T.heap x)
    (st : ∀ t, Steps p.tables e below (T1.setTop g1) t → Steps p.tables e below (T.setTop g) t) : Done l M md Q en p e s m args below meth c T g := by
  obtain ⟨T', locs', su', v, w', a1, a2, a3, a4, a5, a6, a7, a8, a9, a10, a11⟩ := h
  exact ⟨T', locs', su', v, w', a1, a2, a3, a4, a5, a6, hT _ a7, a8, a9, a10, fun fs hf => st _ (a11 fs hf)⟩
theorem Wk.mono {Q' : Option Value → μ → Prop} (h : Wk l Z M md pc L S w cu su Q) (hq : ∀ v w', Q v w' → Q' v w') : Wk l Z M md pc L S w cu su Q' := by
  intro en p e s m args below meth c T locs r X K hz hF hR hL
  obtain ⟨T', locs', su', v, w', a1, a2, a3, a4, a5, a6, a7, a8, a9, a10, a11⟩ := h en p e s m args below meth c T locs r X K hz hF hR hL
  exact ⟨T', locs', su', v, w', a1, a2, a3, a4, a5, a6, a7, a8, a9, hq _ _ a10, a11⟩
abbrev InsA (md : MD) (pc : Nat) (i : Instr) (n pc' : Nat) : Prop := decode (byOf md) pc = .ok (i, n) ∧ pc + n = pc'
abbrev InsB (md : MD) (pc : Nat) (i : Instr) (n pc' : Nat) (o : Int) (pt : Nat) : Prop := decode (byOf md) pc = .ok (i, n) ∧ pc + n = pc' ∧ 0 ≤ (pc : Int) + o ∧ ((pc : Int) + o).toNat = pt
theorem Kn.by {own : String} {p : Program} {s : State} {m : MethodId} {meth : Method} {c : Code} (K : Kn Z own md p s m meth c) : c.code = byOf md := K.2.2.2.2.2.2.1
theorem Wk.forget (b : List Bool) (hf : fg b L = L') (hw : wfL L' = true) (h : Wk l Z M md pc L' S w cu su Q) : Wk l Z M md pc L S w cu su Q :=
  fun en p e s m args below meth c T locs r X K hz hF hR hL => h en p e s m args below meth c T locs r X K hz hF hR (by subst hf; exact hL.forget b hw)
theorem Wk.iloadN {k : Fin 4} {v : Int32} (hd : InsA md pc (.iload_n k) 1 pc') (hl : L[k.val]? = some (.val (.int v))) (h : Wk l Z M md pc' L (.int v :: S) w cu su Q) : Wk l Z M md pc L (S) w cu su Q :=
  fun en p e s m args below meth c T locs r X K hz hF hR hL => by
  obtain ⟨hd, rfl⟩ := hd
  exact (h en p e s m args below meth c T locs r X K hz hF hR hL).pre (fun _ q => q) fun t k => XS.iloadN X.here K.1 rfl (hb K.by hd) (hL.get hl) k
theorem Wk.iload {k : Nat} {v : Int32} (hd : InsA md pc (.iload k) 2 pc') (hl : L[k]? = some (.val (.int v))) (h : Wk l Z M md pc' L (.int v :: S) w cu su Q) : Wk l Z M md pc L (S) w cu su Q :=
  fun en p e s m args below meth c T locs r X K hz hF hR hL => by
  obtain ⟨hd, rfl⟩ := hd
  exact (h en p e s m args below meth c T locs r X K hz hF hR hL).pre (fun _ q => q) fun t k => XS.iload X.here K.1 rfl (hb K.by hd) (hL.get hl) k
theorem Wk.lloadN {k : Fin 4} {v : Int64} (hd : InsA md pc (.lload_n k) 1 pc') (hl : L[k.val]? = some (.val (.long v))) (h : Wk l Z M md pc' L (.long v :: S) w cu su Q) : Wk l Z M md pc L (S) w cu su Q :=
  fun en p e s m args below meth c T locs r X K hz hF hR hL => by
  obtain ⟨hd, rfl⟩ := hd
  exact (h en p e s m args below meth c T locs r X K hz hF hR hL).pre (fun _ q => q) fun t k => XT.lloadN X.here K.1 rfl (hb K.by hd) (hL.get hl) k
theorem Wk.lload {k : Nat} {v : Int64} (hd : InsA md pc (.lload k) 2 pc') (hl : L[k]? = some (.val (.long v))) (h : Wk l Z M md pc' L (.long v :: S) w cu su Q) : Wk l Z M md pc L (S) w cu su Q :=
  fun en p e s m args below meth c T locs r X K hz hF hR hL => by
  obtain ⟨hd, rfl⟩ := hd
  exact (h en p e s m args below meth c T locs r X K hz hF hR hL).pre (fun _ q => q) fun t k => XT.lload X.here K.1 rfl (hb K.by hd) (hL.get hl) k
theorem Wk.aloadN {k : Fin 4} {v : Nat} (hd : InsA md pc (.aload_n k) 1 pc') (hl : L[k.val]? = some (.val (.ref v))) (h : Wk l Z M md pc' L (.ref v :: S) w cu su Q) : Wk l Z M md pc L (S) w cu su Q :=
  fun en p e s m args below meth c T locs r X K hz hF hR hL => by
  obtain ⟨hd, rfl⟩ := hd
  exact (h en p e s m args below meth c T locs r X K hz hF hR hL).pre (fun _ q => q) fun t k => XS.aloadN X.here K.1 rfl (hb K.by hd) (hL.get hl) rfl k
theorem Wk.aload {k : Nat} {v : Nat} (hd : InsA md pc (.aload k) 2 pc') (hl : L[k]? = some (.val (.ref v))) (h : Wk l Z M md pc' L (.ref v :: S) w cu su Q) : Wk l Z M md pc L (S) w cu su Q :=
  fun en p e s m args below meth c T locs r X K hz hF hR hL => by
  obtain ⟨hd, rfl⟩ := hd
  exact (h en p e s m args below meth c T locs r X K hz hF hR hL).pre (fun _ q => q) fun t k => XS.aload X.here K.1 rfl (hb K.by hd) (hL.get hl) rfl k
theorem Wk.iconst {i : Int} {z : Int32} (hd : InsA md pc (.iconst i) 1 pc') (hz' : Int32.ofInt i = z) (h : Wk l Z M md pc' L (.int z :: S) w cu su Q) : Wk l Z M md pc L (S) w cu su Q :=
  fun en p e s m args below meth c T locs r X K hz hF hR hL => by
  obtain ⟨hd, rfl⟩ := hd
  exact (h en p e s m args below meth c T locs r X K hz hF hR hL).pre (fun _ q => q) fun t k => XS.iconst X.here K.1 rfl (hb K.by hd) (by subst hz'; exact k)
theorem Wk.bipush {i : Int} {z : Int32} (hd : InsA md pc (.bipush i) 2 pc') (hz' : (Int8.ofInt i).toInt32 = z) (h : Wk l Z M md pc' L (.int z :: S) w cu su Q) : Wk l Z M md pc L (S) w cu su Q :=
  fun en p e s m args below meth c T locs r X K hz hF hR hL => by
  obtain ⟨hd, rfl⟩ := hd
  exact (h en p e s m args below meth c T locs r X K hz hF hR hL).pre (fun _ q => q) fun t k => XS.bipush X.here K.1 rfl (hb K.by hd) (by subst hz'; exact k)
theorem Wk.sipush {i : Int} {z : Int32} (hd : InsA md pc (.sipush i) 3 pc') (hz' : (Int16.ofInt i).toInt32 = z) (h : Wk l Z M md pc' L (.int z :: S) w cu su Q) : Wk l Z M md pc L (S) w cu su Q :=
  fun en p e s m args below meth c T locs r X K hz hF hR hL => by
  obtain ⟨hd, rfl⟩ := hd
  exact (h en p e s m args below meth c T locs r X K hz hF hR hL).pre (fun _ q => q) fun t k => XS.sipush X.here K.1 rfl (hb K.by hd) (by subst hz'; exact k)
theorem Wk.lconst {i : Fin 2} {z : Int64} (hd : InsA md pc (.lconst i) 1 pc') (hz' : Int64.ofNat i = z) (h : Wk l Z M md pc' L (.long z :: S) w cu su Q) : Wk l Z M md pc L (S) w cu su Q :=
  fun en p e s m args below meth c T locs r X K hz hF hR hL => by
  obtain ⟨hd, rfl⟩ := hd
  exact (h en p e s m args below meth c T locs r X K hz hF hR hL).pre (fun _ q => q) fun t k => XT.lconst X.here K.1 rfl (hb K.by hd) (by subst hz'; exact k)
theorem Wk.iadd {x y : Int32} (hd : InsA md pc (.iadd) 1 pc') (h : Wk l Z M md pc' L (.int (x + y) :: S) w cu su Q) : Wk l Z M md pc L (.int y :: .int x :: S) w cu su Q :=
  fun en p e s m args below meth c T locs r X K hz hF hR hL => by
  obtain ⟨hd, rfl⟩ := hd
  exact (h en p e s m args below meth c T locs r X K hz hF hR hL).pre (fun _ q => q) fun t k => XS.iadd X.here K.1 rfl (hb K.by hd) rfl k
theorem Wk.isub {x y : Int32} (hd : InsA md pc (.isub) 1 pc') (h : Wk l Z M md pc' L (.int (x - y) :: S) w cu su Q) : Wk l Z M md pc L (.int y :: .int x :: S) w cu su Q :=
  fun en p e s m args below meth c T locs r X K hz hF hR hL => by
  obtain ⟨hd, rfl⟩ := hd
  exact (h en p e s m args below meth c T locs r X K hz hF hR hL).pre (fun _ q => q) fun t k => XS.isub X.here K.1 rfl (hb K.by hd) rfl k
theorem Wk.imul {x y : Int32} (hd : InsA md pc (.imul) 1 pc') (h : Wk l Z M md pc' L (.int (x * y) :: S) w cu su Q) : Wk l Z M md pc L (.int y :: .int x :: S) w cu su Q :=
  fun en p e s m args below meth c T locs r X K hz hF hR hL => by
  obtain ⟨hd, rfl⟩ := hd
  exact (h en p e s m args below meth c T locs r X K hz hF hR hL).pre (fun _ q => q) fun t k => XS.imul X.here K.1 rfl (hb K.by hd) rfl k
theorem Wk.iand {x y : Int32} (hd : InsA md pc (.iand) 1 pc') (h : Wk l Z M md pc' L (.int (x &&& y) :: S) w cu su Q) : Wk l Z M md pc L (.int y :: .int x :: S) w cu su Q :=
  fun en p e s m args below meth c T locs r X K hz hF hR hL => by
  obtain ⟨hd, rfl⟩ := hd
  exact (h en p e s m args below meth c T locs r X K hz hF hR hL).pre (fun _ q => q) fun t k => XS.iand X.here K.1 rfl (hb K.by hd) rfl k
theorem Wk.ior {x y : Int32} (hd : InsA md pc (.ior) 1 pc') (h : Wk l Z M md pc' L (.int (x ||| y) :: S) w cu su Q) : Wk l Z M md pc L (.int y :: .int x :: S) w cu su Q :=
  fun en p e s m args below meth c T locs r X K hz hF hR hL => by
  obtain ⟨hd, rfl⟩ := hd
  exact (h en p e s m args below meth c T locs r X K hz hF hR hL).pre (fun _ q => q) fun t k => XT.ior X.here K.1 rfl (hb K.by hd) rfl k
theorem Wk.ixor {x y : Int32} (hd : InsA md pc (.ixor) 1 pc') (h : Wk l Z M md pc' L (.int (x ^^^ y) :: S) w cu su Q) : Wk l Z M md pc L (.int y :: .int x :: S) w cu su Q :=
  fun en p e s m args below meth c T locs r X K hz hF hR hL => by
  obtain ⟨hd, rfl⟩ := hd
  exact (h en p e s m args below meth c T locs r X K hz hF hR hL).pre (fun _ q => q) fun t k => XT.ixor X.here K.1 rfl (hb K.by hd) rfl k
theorem Wk.ishl {x y : Int32} (hd : InsA md pc (.ishl) 1 pc') (h : Wk l Z M md pc' L (.int (x <<< (y &&& 31)) :: S) w cu su Q) : Wk l Z M md pc L (.int y :: .int x :: S) w cu su Q :=
  fun en p e s m args below meth c T locs r X K hz hF hR hL => by
  obtain ⟨hd, rfl⟩ := hd
  exact (h en p e s m args below meth c T locs r X K hz hF hR hL).pre (fun _ q => q) fun t k => XT.ishl X.here K.1 rfl (hb K.by hd) rfl k
theorem Wk.ishr {x y : Int32} (hd : InsA md pc (.ishr) 1 pc') (h : Wk l Z M md pc' L (.int (x >>> (y &&& 31)) :: S) w cu su Q) : Wk l Z M md pc L (.int y :: .int x :: S) w cu su Q :=
  fun en p e s m args below meth c T locs r X K hz hF hR hL => by
  obtain ⟨hd, rfl⟩ := hd
  exact (h en p e s m args below meth c T locs r X K hz hF hR hL).pre (fun _ q => q) fun t k => XT.ishr X.here K.1 rfl (hb K.by hd) rfl k
theorem Wk.iushr {x y : Int32} (hd : InsA md pc (.iushr) 1 pc') (h : Wk l Z M md pc' L (.int (XT.ushr x y) :: S) w cu su Q) : Wk l Z M md pc L (.int y :: .int x :: S) w cu su Q :=
  fun en p e s m args below meth c T locs r X K hz hF hR hL => by
  obtain ⟨hd, rfl⟩ := hd
  exact (h en p e s m args below meth c T locs r X K hz hF hR hL).pre (fun _ q => q) fun t k => XT.iushr X.here K.1 rfl (hb K.by hd) rfl k
theorem Wk.ineg {x : Int32} (hd : InsA md pc (.ineg) 1 pc') (h : Wk l Z M md pc' L (.int (-x) :: S) w cu su Q) : Wk l Z M md pc L (.int x :: S) w cu su Q :=
  fun en p e s m args below meth c T locs r X K hz hF hR hL => by
  obtain ⟨hd, rfl⟩ := hd
  exact (h en p e s m args below meth c T locs r X K hz hF hR hL).pre (fun _ q => q) fun t k => XS.ineg X.here K.1 rfl (hb K.by hd) rfl k
theorem Wk.idiv {x y : Int32} (hd : InsA md pc (.idiv) 1 pc') (hy : y ≠ 0) (h : Wk l Z M md pc' L (.int (x / y) :: S) w cu su Q) : Wk l Z M md pc L (.int y :: .int x :: S) w cu su Q :=
  fun en p e s m args below meth c T locs r X K hz hF hR hL => by
  obtain ⟨hd, rfl⟩ := hd
  exact (h en p e s m args below meth c T locs r X K hz hF hR hL).pre (fun _ q => q) fun t k => XS.idiv X.here K.1 rfl (hb K.by hd) rfl hy k
theorem Wk.irem {x y : Int32} (hd : InsA md pc (.irem) 1 pc') (hy : y ≠ 0) (h : Wk l Z M md pc' L (.int (x % y) :: S) w cu su Q) : Wk l Z M md pc L (.int y :: .int x :: S) w cu su Q :=
  fun en p e s m args below meth c T locs r X K hz hF hR hL => by
  obtain ⟨hd, rfl⟩ := hd
  exact (h en p e s m args below meth c T locs r X K hz hF hR hL).pre (fun _ q => q) fun t k => Jvm.RoadKit.iremM X K.1 rfl (hb K.by hd) rfl hy k
theorem Wk.ladd {x y : Int64} (hd : InsA md pc (.ladd) 1 pc') (h : Wk l Z M md pc' L (.long (x + y) :: S) w cu su Q) : Wk l Z M md pc L (.long y :: .long x :: S) w cu su Q :=
  fun en p e s m args below meth c T locs r X K hz hF hR hL => by
  obtain ⟨hd, rfl⟩ := hd
  exact (h en p e s m args below meth c T locs r X K hz hF hR hL).pre (fun _ q => q) fun t k => XT.ladd X.here K.1 rfl (hb K.by hd) rfl k
theorem Wk.lsub {x y : Int64} (hd : InsA md pc (.lsub) 1 pc') (h : Wk l Z M md pc' L (.long (x - y) :: S) w cu su Q) : Wk l Z M md pc L (.long y :: .long x :: S) w cu su Q :=
  fun en p e s m args below meth c T locs r X K hz hF hR hL => by
  obtain ⟨hd, rfl⟩ := hd
  exact (h en p e s m args below meth c T locs r X K hz hF hR hL).pre (fun _ q => q) fun t k => XT.lsub X.here K.1 rfl (hb K.by hd) rfl k
theorem Wk.lmul {x y : Int64} (hd : InsA md pc (.lmul) 1 pc') (h : Wk l Z M md pc' L (.long (x * y) :: S) w cu su Q) : Wk l Z M md pc L (.long y :: .long x :: S) w cu su Q :=
  fun en p e s m args below meth c T locs r X K hz hF hR hL => by
  obtain ⟨hd, rfl⟩ := hd
  exact (h en p e s m args below meth c T locs r X K hz hF hR hL).pre (fun _ q => q) fun t k => XT.lmul X.here K.1 rfl (hb K.by hd) rfl k
theorem Wk.land {x y : Int64} (hd : InsA md pc (.land) 1 pc') (h : Wk l Z M md pc' L (.long (x &&& y) :: S) w cu su Q) : Wk l Z M md pc L (.long y :: .long x :: S) w cu su Q :=
  fun en p e s m args below meth c T locs r X K hz hF hR hL => by
  obtain ⟨hd, rfl⟩ := hd
  exact (h en p e s m args below meth c T locs r X K hz hF hR hL).pre (fun _ q => q) fun t k => XT.land X.here K.1 rfl (hb K.by hd) rfl k
theorem Wk.lor {x y : Int64} (hd : InsA md pc (.lor) 1 pc') (h : Wk l Z M md pc' L (.long (x ||| y) :: S) w cu su Q) : Wk l Z M md pc L (.long y :: .long x :: S) w cu su Q :=
  fun en p e s m args below meth c T locs r X K hz hF hR hL => by
  obtain ⟨hd, rfl⟩ := hd
  exact (h en p e s m args below meth c T locs r X K hz hF hR hL).pre (fun _ q => q) fun t k => XT.lor X.here K.1 rfl (hb K.by hd) rfl k
theorem Wk.lxor {x y : Int64} (hd : InsA md pc (.lxor) 1 pc') (h : Wk l Z M md pc' L (.long (x ^^^ y) :: S) w cu su Q) : Wk l Z M md pc L (.long y :: .long x :: S) w cu su Q :=
  fun en p e s m args below meth c T locs r X K hz hF hR hL => by
  obtain ⟨hd, rfl⟩ := hd
  exact (h en p e s m args below meth c T locs r X K hz hF hR hL).pre (fun _ q => q) fun t k => XT.lxor X.here K.1 rfl (hb K.by hd) rfl k
theorem Wk.ldiv {x y : Int64} (hd : InsA md pc (.ldiv) 1 pc') (hy : y ≠ 0) (h : Wk l Z M md pc' L (.long (x / y) :: S) w cu su Q) : Wk l Z M md pc L (.long y :: .long x :: S) w cu su Q :=
  fun en p e s m args below meth c T locs r X K hz hF hR hL => by
  obtain ⟨hd, rfl⟩ := hd
  exact (h en p e s m args below meth c T locs r X K hz hF hR hL).pre (fun _ q => q) fun t k => XT.ldiv X.here K.1 rfl (hb K.by hd) rfl hy k
theorem Wk.lrem {x y : Int64} (hd : InsA md pc (.lrem) 1 pc') (hy : y ≠ 0) (h : Wk l Z M md pc' L (.long (x - (x / y) * y) :: S) w cu su Q) : Wk l Z M md pc L (.long y :: .long x :: S) w cu su Q :=
  fun en p e s m args below meth c T locs r X K hz hF hR hL => by
  obtain ⟨hd, rfl⟩ := hd
  exact (h en p e s m args below meth c T locs r X K hz hF hR hL).pre (fun _ q => q) fun t k => XT.lrem X.here K.1 rfl (hb K.by hd) rfl hy k
theorem Wk.lshl {x : Int64} {y : Int32} (hd : InsA md pc (.lshl) 1 pc') (h : Wk l Z M md pc' L (.long (x <<< (y.toInt64 &&& 63)) :: S) w cu su Q) : Wk l Z M md pc L (.int y :: .long x :: S) w cu su Q :=
  fun en p e s m args below meth c T locs r X K hz hF hR hL => by
  obtain ⟨hd, rfl⟩ := hd
  exact (h en p e s m args below meth c T locs r X K hz hF hR hL).pre (fun _ q => q) fun t k => XT.lshl X.here K.1 rfl (hb K.by hd) rfl k
theorem Wk.lshr {x : Int64} {y : Int32} (hd : InsA md pc (.lshr) 1 pc') (h : Wk l Z M md pc' L (.long (x >>> (y.toInt64 &&& 63)) :: S) w cu su Q) : Wk l Z M md pc L (.int y :: .long x :: S) w cu su Q :=
  fun en p e s m args below meth c T locs r X K hz hF hR hL => by
  obtain ⟨hd, rfl⟩ := hd
  exact (h en p e s m args below meth c T locs r X K hz hF hR hL).pre (fun _ q => q) fun t k => XT.lshr X.here K.1 rfl (hb K.by hd) rfl k
theorem Wk.lushr {x : Int64} {y : Int32} (hd : InsA md pc (.lushr) 1 pc') (h : Wk l Z M md pc' L (.long (XT.ushrL x y) :: S) w cu su Q) : Wk l Z M md pc L (.int y :: .long x :: S) w cu su Q :=
  fun en p e s m args below meth c T locs r X K hz hF hR hL => by
  obtain ⟨hd, rfl⟩ := hd
  exact (h en p e s m args below meth c T locs r X K hz hF hR hL).pre (fun _ q => q) fun t k => XT.lushr X.here K.1 rfl (hb K.by hd) rfl k
theorem Wk.i2l {x : Int32} (hd : InsA md pc (.i2l) 1 pc') (h : Wk l Z M md pc' L (.long x.toInt64 :: S) w cu su Q) : Wk l Z M md pc L (.int x :: S) w cu su Q :=
  fun en p e s m args below meth c T locs r X K hz hF hR hL => by
  obtain ⟨hd, rfl⟩ := hd
  exact (h en p e s m args below meth c T locs r X K hz hF hR hL).pre (fun _ q => q) fun t k => XT.i2l X.here K.1 rfl (hb K.by hd) rfl k
theorem Wk.l2i {x : Int64} (hd : InsA md pc (.l2i) 1 pc') (h : Wk l Z M md pc' L (.int x.toInt32 :: S) w cu su Q) : Wk l Z M md pc L (.long x :: S) w cu su Q :=
  fun en p e s m args below meth c T locs r X K hz hF hR hL => by
  obtain ⟨hd, rfl⟩ := hd
  exact (h en p e s m args below meth c T locs r X K hz hF hR hL).pre (fun _ q => q) fun t k => XT.l2i X.here K.1 rfl (hb K.by hd) rfl k
theorem Wk.lcmp {x y : Int64} (hd : InsA md pc (.lcmp) 1 pc') (h : Wk l Z M md pc' L (.int (XT.cmpL x y) :: S) w cu su Q) : Wk l Z M md pc L (.long y :: .long x :: S) w cu su Q :=
  fun en p e s m args below meth c T locs r X K hz hF hR hL => by
  obtain ⟨hd, rfl⟩ := hd
  exact (h en p e s m args below meth c T locs r X K hz hF hR hL).pre (fun _ q => q) fun t k => XT.lcmp X.here K.1 rfl (hb K.by hd) rfl k
theorem Wk.dup {v : Value} (hd : InsA md pc (.dup) 1 pc') (hv : v.category = 1) (h : Wk l Z M md pc' L (v :: v :: S) w cu su Q) : Wk l Z M md pc L (v :: S) w cu su Q :=
  fun en p e s m args below meth c T locs r X K hz hF hR hL => by
  obtain ⟨hd, rfl⟩ := hd
  exact (h en p e s m args below meth c T locs r X K hz hF hR hL).pre (fun _ q => q) fun t k => XS.dup X.here K.1 rfl (hb K.by hd) rfl (by rw [rv_cat]; exact hv) k
theorem Wk.pop {v : Value} (hd : InsA md pc (.pop) 1 pc') (hv : v.category = 1) (h : Wk l Z M md pc' L (S) w cu su Q) : Wk l Z M md pc L (v :: S) w cu su Q :=
  fun en p e s m args below meth c T locs r X K hz hF hR hL => by
  obtain ⟨hd, rfl⟩ := hd
  exact (h en p e s m args below meth c T locs r X K hz hF hR hL).pre (fun _ q => q) fun t k => XT.pop X.here K.1 rfl (hb K.by hd) rfl (by rw [rv_cat]; exact hv) k
theorem Wk.dup2 {v u : Value} (hd : InsA md pc (.dup2) 1 pc') (hv : v.category = 1) (hu : u.category = 1) (h : Wk l Z M md pc' L (v :: u :: v :: u :: S) w cu su Q) : Wk l Z M md pc L (v :: u :: S) w cu su Q :=
  fun en p e s m args below meth c T locs r X K hz hF hR hL => by
  obtain ⟨hd, rfl⟩ := hd
  exact (h en p e s m args below meth c T locs r X K hz hF hR hL).pre (fun _ q => q) fun t k => XT.dup2 X.here K.1 rfl (hb K.by hd) rfl (by rw [rv_cat]; exact hv) (by rw [rv_cat]; exact hu) k
theorem Wk.dupX1 {v u : Value} (hd : InsA md pc (.dup_x1) 1 pc') (hv : v.category = 1) (hu : u.category = 1) (h : Wk l Z M md pc' L (v :: u :: v :: S) w cu su Q) : Wk l Z M md pc L (v :: u :: S) w cu su Q :=
  fun en p e s m args below meth c T locs r X K hz hF hR hL => by
  obtain ⟨hd, rfl⟩ := hd
  exact (h en p e s m args below meth c T locs r X K hz hF hR hL).pre (fun _ q => q) fun t k => XT.dupX1 X.here K.1 rfl (hb K.by hd) rfl (by rw [rv_cat]; exact hv) (by rw [rv_cat]; exact hu) k
theorem Wk.istoreN {k : Fin 4} {x : Int32} (hd : InsA md pc (.istore_n k) 1 pc') (ho : C1 L[k.val]?) (hl : L.set k.val (.val (.int x)) = L') (h : Wk l Z M md pc' L' S w cu su Q) : Wk l Z M md pc L (.int x :: S) w cu su Q :=
  fun en p e s m args below meth c T locs r X K hz hF hR hL => by
  obtain ⟨hd, rfl⟩ := hd
  obtain ⟨r', e1, hL2⟩ := hL.st1 (v := .int x) ho rfl
  subst hl
  exact (h en p e s m args below meth c T locs r' X K hz hF hR hL2).pre (fun _ q => q) fun t k => XS.istoreN X.here K.1 rfl (hb K.by hd) rfl e1 k
theorem Wk.istore {k : Nat} {x : Int32} (hd : InsA md pc (.istore k) 2 pc') (ho : C1 L[k]?) (hl : L.set k (.val (.int x)) = L') (h : Wk l Z M md pc' L' S w cu su Q) : Wk l Z M md pc L (.int x :: S) w cu su Q :=
  fun en p e s m args below meth c T locs r X K hz hF hR hL => by
  obtain ⟨hd, rfl⟩ := hd
  obtain ⟨r', e1, hL2⟩ := hL.st1 (v := .int x) ho rfl
  subst hl
  exact (h en p e s m args below meth c T locs r' X K hz hF hR hL2).pre (fun _ q => q) fun t k => XS.istore X.here K.1 rfl (hb K.by hd) rfl e1 k
theorem Wk.astoreN {k : Fin 4} {x : Nat} (hd : InsA md pc (.astore_n k) 1 pc') (ho : C1 L[k.val]?) (hl : L.set k.val (.val (.ref x)) = L') (h : Wk l Z M md pc' L' S w cu su Q) : Wk l Z M md pc L (.ref x :: S) w cu su Q :=
  fun en p e s m args below meth c T locs r X K hz hF hR hL => by
  obtain ⟨hd, rfl⟩ := hd
  obtain ⟨r', e1, hL2⟩ := hL.st1 (v := .ref x) ho rfl
  subst hl
  exact (h en p e s m args below meth c T locs r' X K hz hF hR hL2).pre (fun _ q => q) fun t k => XS.astoreN X.here K.1 rfl (hb K.by hd) rfl rfl e1 k
theorem Wk.astore {k : Nat} {x : Nat} (hd : InsA md pc (.astore k) 2 pc') (ho : C1 L[k]?) (hl : L.set k (.val (.ref x)) = L') (h : Wk l Z M md pc' L' S w cu su Q) : Wk l Z M md pc L (.ref x :: S) w cu su Q :=
  fun en p e s m args below meth c T locs r X K hz hF hR hL => by
  obtain ⟨hd, rfl⟩ := hd
  obtain ⟨r', e1, hL2⟩ := hL.st1 (v := .ref x) ho rfl
  subst hl
  exact (h en p e s m args below meth c T locs r' X K hz hF hR hL2).pre (fun _ q => q) fun t k => XS.astore X.here K.1 rfl (hb K.by hd) rfl rfl e1 k
theorem Wk.lstoreN {k : Fin 4} {x : Int64} (hd : InsA md pc (.lstore_n k) 1 pc') (ho : C1 L[k.val]?) (ho2 : C1 L[k.val + 1]?) (hl : (L.set k.val (.val (.long x))).set (k.val + 1) .second = L') (h : Wk l Z M md pc' L' S w cu su Q) : Wk l Z M md pc L (.long x :: S) w cu su Q :=
  fun en p e s m args below meth c T locs r X K hz hF hR hL => by
  obtain ⟨hd, rfl⟩ := hd
  obtain ⟨r', e1, hL2⟩ := hL.st2 (v := .long x) ho ho2 rfl
  subst hl
  exact (h en p e s m args below meth c T locs r' X K hz hF hR hL2).pre (fun _ q => q) fun t k => XT.lstoreN X.here K.1 rfl (hb K.by hd) rfl e1 k
theorem Wk.lstore {k : Nat} {x : Int64} (hd : InsA md pc (.lstore k) 2 pc') (ho : C1 L[k]?) (ho2 : C1 L[k + 1]?) (hl : (L.set k (.val (.long x))).set (k + 1) .second = L') (h : Wk l Z M md pc' L' S w cu su Q) : Wk l Z M md pc L (.long x :: S) w cu su Q :=
  fun en p e s m args below meth c T locs r X K hz hF hR hL => by
  obtain ⟨hd, rfl⟩ := hd
  obtain ⟨r', e1, hL2⟩ := hL.st2 (v := .long x) ho ho2 rfl
  subst hl
  exact (h en p e s m args below meth c T locs r' X K hz hF hR hL2).pre (fun _ q => q) fun t k => XT.lstore X.here K.1 rfl (hb K.by hd) rfl e1 k
theorem Wk.iinc {k : Nat} {cst : Int} {x z : Int32} (hd : InsA md pc (.iinc k cst) 3 pc') (hv : L[k]? = some (.val (.int x))) (hz' : x + Int32.ofInt cst = z) (hl : L.set k (.val (.int z)) = L') (h : Wk l Z M md pc' L' S w cu su Q) : Wk l Z M md pc L S w cu su Q :=
  fun en p e s m args below meth c T locs r X K hz hF hR hL => by
  obtain ⟨hd, rfl⟩ := hd
  obtain ⟨r', e1, hL2⟩ := hL.st1 (i := k) (v := .int z) (Or.inr ⟨_, hv, rfl⟩) rfl
  subst hl hz'
  exact (h en p e s m args below meth c T locs r' X K hz hF hR hL2).pre (fun _ q => q) fun t k => XS.iinc X.here K.1 rfl (hb K.by hd) (hL.get hv) e1 k
theorem Wk.goto {o : Int} {pt : Nat} (hd : InsB md pc (.goto o) 3 pc' o pt) (h : Wk l Z M md pt L S w cu su Q) : Wk l Z M md pc L S w cu su Q :=
  fun en p e s m args below meth c T locs r X K hz hF hR hL => by
  obtain ⟨hd, rfl, h3, h4⟩ := hd
  exact (h en p e s m args below meth c T locs r X K hz hF hR hL).pre (fun _ q => q) fun t k => XS.goto X.here K.1 rfl rfl (hb K.by hd) h3 h4 k
theorem Wk.icmp_lt {x y : Int32} {o : Int} {pt : Nat} (hd : InsB md pc (.if_icmp .lt o) 3 pc' o pt) (h1 : x < y → Wk l Z M md pt L S w cu su Q) (h2 : ¬ x < y → Wk l Z M md pc' L S w cu su Q) : Wk l Z M md pc L (.int y :: .int x :: S) w cu su Q :=
  fun en p e s m args below meth c T locs r X K hz hF hR hL => by
  obtain ⟨hd, rfl, h3, h4⟩ := hd
  by_cases q : x < y
  · exact (h1 q en p e s m args below meth c T locs r X K hz hF hR hL).pre (fun _ q => q) fun t k => XS.icmpYes X.here K.1 rfl rfl (hb K.by hd) rfl (tlt q).1 h3 h4 k
  · exact (h2 q en p e s m args below meth c T locs r X K hz hF hR hL).pre (fun _ q => q) fun t k => XS.icmpNo X.here K.1 rfl (hb K.by hd) rfl (flt q).1 k
theorem Wk.if_lt {x : Int32} {o : Int} {pt : Nat} (hd : InsB md pc (.ifCond .lt o) 3 pc' o pt) (h1 : x < 0 → Wk l Z M md pt L S w cu su Q) (h2 : ¬ x < 0 → Wk l Z M md pc' L S w cu su Q) : Wk l Z M md pc L (.int x :: S) w cu su Q :=
  fun en p e s m args below meth c T locs r X K hz hF hR hL => by
  obtain ⟨hd, rfl, h3, h4⟩ := hd
  by_cases q : x < 0
  · exact (h1 q en p e s m args below meth c T locs r X K hz hF hR hL).pre (fun _ q => q) fun t k => XS.ifYes X.here K.1 rfl rfl (hb K.by hd) rfl ((if0 _ _).trans (tlt q).1) h3 h4 k
  · exact (h2 q en p e s m args below meth c T locs r X K hz hF hR hL).pre (fun _ q => q) fun t k => XS.ifNo X.here K.1 rfl (hb K.by hd) rfl ((if0 _ _).trans (flt q).1) k
theorem Wk.icmp_ge {x y : Int32} {o : Int} {pt : Nat} (hd : InsB md pc (.if_icmp .ge o) 3 pc' o pt) (h1 : ¬ x < y → Wk l Z M md pt L S w cu su Q) (h2 : x < y → Wk l Z M md pc' L S w cu su Q) : Wk l Z M md pc L (.int y :: .int x :: S) w cu su Q :=
  fun en p e s m args below meth c T locs r X K hz hF hR hL => by
  obtain ⟨hd, rfl, h3, h4⟩ := hd
  by_cases q : x < y
  · exact (h2 q en p e s m args below meth c T locs r X K hz hF hR hL).pre (fun _ q => q) fun t k => XS.icmpNo X.here K.1 rfl (hb K.by hd) rfl (tlt q).2.1 k
  · exact (h1 q en p e s m args below meth c T locs r X K hz hF hR hL).pre (fun _ q => q) fun t k => XS.icmpYes X.here K.1 rfl rfl (hb K.by hd) rfl (flt q).2.1 h3 h4 k
theorem Wk.if_ge {x : Int32} {o : Int} {pt : Nat} (hd : InsB md pc (.ifCond .ge o) 3 pc' o pt) (h1 : ¬ x < 0 → Wk l Z M md pt L S w cu su Q) (h2 : x < 0 → Wk l Z M md pc' L S w cu su Q) : Wk l Z M md pc L (.int x :: S) w cu su Q :=
  fun en p e s m args below meth c T locs r X K hz hF hR hL => by
  obtain ⟨hd, rfl, h3, h4⟩ := hd
  by_cases q : x < 0
  · exact (h2 q en p e s m args below meth c T locs r X K hz hF hR hL).pre (fun _ q => q) fun t k => XS.ifNo X.here K.1 rfl (hb K.by hd) rfl ((if0 _ _).trans (tlt q).2.1) k
  · exact (h1 q en p e s m args below meth c T locs r X K hz hF hR hL).pre (fun _ q => q) fun t k => XS.ifYes X.here K.1 rfl rfl (hb K.by hd) rfl ((if0 _ _).trans (flt q).2.1) h3 h4 k
theorem Wk.icmp_gt {x y : Int32} {o : Int} {pt : Nat} (hd : InsB md pc (.if_icmp .gt o) 3 pc' o pt) (h1 : y < x → Wk l Z M md pt L S w cu su Q) (h2 : ¬ y < x → Wk l Z M md pc' L S w cu su Q) : Wk l Z M md pc L (.int y :: .int x :: S) w cu su Q :=
  fun en p e s m args below meth c T locs r X K hz hF hR hL => by
  obtain ⟨hd, rfl, h3, h4⟩ := hd
  by_cases q : y < x
  · exact (h1 q en p e s m args below meth c T locs r X K hz hF hR hL).pre (fun _ q => q) fun t k => XS.icmpYes X.here K.1 rfl rfl (hb K.by hd) rfl (tlt q).2.2.1 h3 h4 k
  · exact (h2 q en p e s m args below meth c T locs r X K hz hF hR hL).pre (fun _ q => q) fun t k => XS.icmpNo X.here K.1 rfl (hb K.by hd) rfl (flt q).2.2.1 k
theorem Wk.if_gt {x : Int32} {o : Int} {pt : Nat} (hd : InsB md pc (.ifCond .gt o) 3 pc' o pt) (h1 : 0 < x → Wk l Z M md pt L S w cu su Q) (h2 : ¬ 0 < x → Wk l Z M md pc' L S w cu su Q) : Wk l Z M md pc L (.int x :: S) w cu su Q :=
  fun en p e s m args below meth c T locs r X K hz hF hR hL => by
  obtain ⟨hd, rfl, h3, h4⟩ := hd
  by_cases q : 0 < x
  · exact (h1 q en p e s m args below meth c T locs r X K hz hF hR hL).pre (fun _ q => q) fun t k => XS.ifYes X.here K.1 rfl rfl (hb K.by hd) rfl ((if0 _ _).trans (tlt q).2.2.1) h3 h4 k
  · exact (h2 q en p e s m args below meth c T locs r X K hz hF hR hL).pre (fun _ q => q) fun t k => XS.ifNo X.here K.1 rfl (hb K.by hd) rfl ((if0 _ _).trans (flt q).2.2.1) k
theorem Wk.icmp_le {x y : Int32} {o : Int} {pt : Nat} (hd : InsB md pc (.if_icmp .le o) 3 pc' o pt) (h1 : ¬ y < x → Wk l Z M md pt L S w cu su Q) (h2 : y < x → Wk l Z M md pc' L S w cu su Q) : Wk l Z M md pc L (.int y :: .int x :: S) w cu su Q :=
  fun en p e s m args below meth c T locs r X K hz hF hR hL => by
  obtain ⟨hd, rfl, h3, h4⟩ := hd
  by_cases q : y < x
  · exact (h2 q en p e s m args below meth c T locs r X K hz hF hR hL).pre (fun _ q => q) fun t k => XS.icmpNo X.here K.1 rfl (hb K.by hd) rfl (tlt q).2.2.2 k
  · exact (h1 q en p e s m args below meth c T locs r X K hz hF hR hL).pre (fun _ q => q) fun t k => XS.icmpYes X.here K.1 rfl rfl (hb K.by hd) rfl (flt q).2.2.2 h3 h4 k
theorem Wk.if_le {x : Int32} {o : Int} {pt : Nat} (hd : InsB md pc (.ifCond .le o) 3 pc' o pt) (h1 : ¬ 0 < x → Wk l Z M md pt L S w cu su Q) (h2 : 0 < x → Wk l Z M md pc' L S w cu su Q) : Wk l Z M md pc L (.int x :: S) w cu su Q :=
  fun en p e s m args below meth c T locs r X K hz hF hR hL => by
  obtain ⟨hd, rfl, h3, h4⟩ := hd
  by_cases q : 0 < x
  · exact (h2 q en p e s m args below meth c T locs r X K hz hF hR hL).pre (fun _ q => q) fun t k => XS.ifNo X.here K.1 rfl (hb K.by hd) rfl ((if0 _ _).trans (tlt q).2.2.2) k
  · exact (h1 q en p e s m args below meth c T locs r X K hz hF hR hL).pre (fun _ q => q) fun t k => XS.ifYes X.here K.1 rfl rfl (hb K.by hd) rfl ((if0 _ _).trans (flt q).2.2.2) h3 h4 k
theorem Wk.icmp_eq {x y : Int32} {o : Int} {pt : Nat} (hd : InsB md pc (.if_icmp .eq o) 3 pc' o pt) (h1 : x = y → Wk l Z M md pt L S w cu su Q) (h2 : ¬ x = y → Wk l Z M md pc' L S w cu su Q) : Wk l Z M md pc L (.int y :: .int x :: S) w cu su Q :=
  fun en p e s m args below meth c T locs r X K hz hF hR hL => by
  obtain ⟨hd, rfl, h3, h4⟩ := hd
  by_cases q : x = y
  · exact (h1 q en p e s m args below meth c T locs r X K hz hF hR hL).pre (fun _ q => q) fun t k => XS.icmpYes X.here K.1 rfl rfl (hb K.by hd) rfl (teq q).1 h3 h4 k
  · exact (h2 q en p e s m args below meth c T locs r X K hz hF hR hL).pre (fun _ q => q) fun t k => XS.icmpNo X.here K.1 rfl (hb K.by hd) rfl (feq q).1 k
theorem Wk.if_eq {x : Int32} {o : Int} {pt : Nat} (hd : InsB md pc (.ifCond .eq o) 3 pc' o pt) (h1 : x = 0 → Wk l Z M md pt L S w cu su Q) (h2 : ¬ x = 0 → Wk l Z M md pc' L S w cu su Q) : Wk l Z M md pc L (.int x :: S) w cu su Q :=
  fun en p e s m args below meth c T locs r X K hz hF hR hL => by
  obtain ⟨hd, rfl, h3, h4⟩ := hd
  by_cases q : x = 0
  · exact (h1 q en p e s m args below meth c T locs r X K hz hF hR hL).pre (fun _ q => q) fun t k => XS.ifYes X.here K.1 rfl rfl (hb K.by hd) rfl ((if0 _ _).trans (teq q).1) h3 h4 k
  · exact (h2 q en p e s m args below meth c T locs r X K hz hF hR hL).pre (fun _ q => q) fun t k => XS.ifNo X.here K.1 rfl (hb K.by hd) rfl ((if0 _ _).trans (feq q).1) k
theorem Wk.icmp_ne {x y : Int32} {o : Int} {pt : Nat} (hd : InsB md pc (.if_icmp .ne o) 3 pc' o pt) (h1 : ¬ x = y → Wk l Z M md pt L S w cu su Q) (h2 : x = y → Wk l Z M md pc' L S w cu su Q) : Wk l Z M md pc L (.int y :: .int x :: S) w cu su Q :=
  fun en p e s m args below meth c T locs r X K hz hF hR hL => by
  obtain ⟨hd, rfl, h3, h4⟩ := hd
  by_cases q : x = y
  · exact (h2 q en p e s m args below meth c T locs r X K hz hF hR hL).pre (fun _ q => q) fun t k => XS.icmpNo X.here K.1 rfl (hb K.by hd) rfl (teq q).2 k
  · exact (h1 q en p e s m args below meth c T locs r X K hz hF hR hL).pre (fun _ q => q) fun t k => XS.icmpYes X.here K.1 rfl rfl (hb K.by hd) rfl (feq q).2 h3 h4 k
theorem Wk.if_ne {x : Int32} {o : Int} {pt : Nat} (hd : InsB md pc (.ifCond .ne o) 3 pc' o pt) (h1 : ¬ x = 0 → Wk l Z M md pt L S w cu su Q) (h2 : x = 0 → Wk l Z M md pc' L S w cu su Q) : Wk l Z M md pc L (.int x :: S) w cu su Q :=
  fun en p e s m args below meth c T locs r X K hz hF hR hL => by
  obtain ⟨hd, rfl, h3, h4⟩ := hd
  by_cases q : x = 0
  · exact (h2 q en p e s m args below meth c T locs r X K hz hF hR hL).pre (fun _ q => q) fun t k => XS.ifNo X.here K.1 rfl (hb K.by hd) rfl ((if0 _ _).trans (teq q).2) k
  · exact (h1 q en p e s m args below meth c T locs r X K hz hF hR hL).pre (fun _ q => q) fun t k => XS.ifYes X.here K.1 rfl rfl (hb K.by hd) rfl ((if0 _ _).trans (feq q).2) h3 h4 k
theorem Wk.tswIn {dflt low high o : Int} {offs : Array Int} {len pt : Nat} {x z : Int32} (hd : InsB md pc (.tableswitch dflt low high offs) len pc' o pt) (hx : x = z) (hin : ¬ (z.toInt < low ∨ z.toInt > high)) (hoff : offs[(z.toInt - low).toNat]? = some o) (h : Wk l Z M md pt L S w cu su Q) : Wk l Z M md pc L (.int x :: S) w cu su Q :=
  fun en p e s m args below meth c T locs r X K hz hF hR hL => by
  obtain ⟨hd, rfl, h3, h4⟩ := hd
  subst hx
  exact (h en p e s m args below meth c T locs r X K hz hF hR hL).pre (fun _ q => q) fun t k => XS.tswIn X.here K.1 rfl rfl (hb K.by hd) rfl hin hoff h3 h4 k
theorem Wk.tswOut {dflt low high : Int} {offs : Array Int} {len pt : Nat} {x : Int32} (hd : InsB md pc (.tableswitch dflt low high offs) len pc' dflt pt) (hout : x.toInt < low ∨ x.toInt > high) (h : Wk l Z M md pt L S w cu su Q) : Wk l Z M md pc L (.int x :: S) w cu su Q :=
  fun en p e s m args below meth c T locs r X K hz hF hR hL => by
  obtain ⟨hd, rfl, h3, h4⟩ := hd
  exact (h en p e s m args below meth c T locs r X K hz hF hR hL).pre (fun _ q => q) fun t k => XS.tswOut X.here K.1 rfl rfl (hb K.by hd) rfl hout h3 h4 k
theorem Wk.ldc {idx : Nat} {z : Int32} {a0 : Array Value} (hd : InsA md pc (.ldc idx) 2 pc') (wd : (Cond.constant M.own idx z).before a0 Z = true) (h : Wk l Z M md pc' L (.int z :: S) w cu su Q) : Wk l Z M md pc L S w cu su Q :=
  fun en p e s m args below meth c T locs r X K hz hF hR hL => by
  obtain ⟨hd, rfl⟩ := hd
  have hc : (Cond.constant M.own idx z).before args s = true := mvT K.2.1 wd
  exact (h en p e s m args below meth c T locs r X K hz hF hR hL).pre (fun _ q => q) fun t k => X.ldcInt K.1 K.2.2.1 hc (g := mkF m pc r (S.map (rv (M.rho en)))) rfl (hb K.by hd) t k
theorem Wk.ldcw {idx : Nat} {z : Int32} {a0 : Array Value} (hd : InsA md pc (.ldc_w idx) 3 pc') (wd : (Cond.constant M.own idx z).before a0 Z = true) (h : Wk l Z M md pc' L (.int z :: S) w cu su Q) : Wk l Z M md pc L S w cu su Q :=
  fun en p e s m args below meth c T locs r X K hz hF hR hL => by
  obtain ⟨hd, rfl⟩ := hd
  have hc : (Cond.constant M.own idx z).before args s = true := mvT K.2.1 wd
  exact (h en p e s m args below meth c T locs r X K hz hF hR hL).pre (fun _ q => q) fun t k => X.ldcwInt K.1 K.2.2.1 hc (g := mkF m pc r (S.map (rv (M.rho en)))) rfl (hb K.by hd) t k
theorem Wk.ldc2 {idx : Nat} {z : Int64} {a0 : Array Value} (hd : InsA md pc (.ldc2_w idx) 3 pc') (wd : (Cond.constantLong M.own idx z).before a0 Z = true) (h : Wk l Z M md pc' L (.long z :: S) w cu su Q) : Wk l Z M md pc L S w cu su Q :=
  fun en p e s m args below meth c T locs r X K hz hF hR hL => by
  obtain ⟨hd, rfl⟩ := hd
  have hc : (Cond.constantLong M.own idx z).before args s = true := mvT K.2.1 wd
  exact (h en p e s m args below meth c T locs r X K hz hF hR hL).pre (fun _ q => q) fun t k => X.ldc2Long K.1 K.2.2.1 hc (g := mkF m pc r (S.map (rv (M.rho en)))) rfl (hb K.by hd) t k
/-! returns -/
theorem Wk.ireturn {x : Int32} (hM : ∀ en h, M.frm en h h) (hret : rtOf md = some .int) (hd : InsA md pc .ireturn 1 pc') (hc : cu = exOf md) (hc2 : exOf md ≤ (rmOf md).cells) (hs : su ≤ (rmOf md).slots) (hq : Q (some (.int x)) w) : Wk l Z M md pc L (.int x :: S) w cu su Q :=
  fun en p e s m args below meth c T locs r X K hz hF hR hL => by
  subst hc
  have hr := K.2.2.2.2.1.trans hret
  exact ⟨T, locs, su, _, w, X, hc2, hs, hz, hF, hR, hM _ _, fun q => (by rw [hr] at q; cases q), fun ρ y e => (by cases e; rfl), hq, fun fs hf => retI X K.1 hr (hb K.by hd.1) hf⟩
theorem Wk.zreturn {x y : Int32} (hM : ∀ en h, M.frm en h h) (hret : rtOf md = some .boolean) (hd : InsA md pc .ireturn 1 pc') (hc : cu = exOf md) (hc2 : exOf md ≤ (rmOf md).cells) (hs : su ≤ (rmOf md).slots) (hy : nar .boolean x = y) (hq : Q (some (.int y)) w) : Wk l Z M md pc L (.int x :: S) w cu su Q :=
  fun en p e s m args below meth c T locs r X K hz hF hR hL => by
  subst hc hy
  have hr := K.2.2.2.2.1.trans hret
  exact ⟨T, locs, su, _, w, X, hc2, hs, hz, hF, hR, hM _ _, fun q => (by rw [hr] at q; cases q), fun ρ y e => (by cases e; rfl), hq, fun fs hf => retN X K.1 (t := .boolean) hr (by simp) (hb K.by hd.1) hf⟩
theorem Wk.lreturn {x : Int64} (hM : ∀ en h, M.frm en h h) (hret : rtOf md = some .long) (hd : InsA md pc .lreturn 1 pc') (hc : cu = exOf md) (hc2 : exOf md ≤ (rmOf md).cells) (hs : su ≤ (rmOf md).slots) (hq : Q (some (.long x)) w) : Wk l Z M md pc L [.long x] w cu su Q :=
  fun en p e s m args below meth c T locs r X K hz hF hR hL => by
  subst hc
  have hr := K.2.2.2.2.1.trans hret
  exact ⟨T, locs, su, _, w, X, hc2, hs, hz, hF, hR, hM _ _, fun q => (by rw [hr] at q; cases q), fun ρ y e => (by cases e; rfl), hq, fun fs hf => X.lreturnOut K.1 hr (hb K.by hd.1) hf⟩
theorem Wk.ret (hM : ∀ en h, M.frm en h h) (hret : rtOf md = none) (hd : InsA md pc .return_ 1 pc') (hc : cu = exOf md) (hc2 : exOf md ≤ (rmOf md).cells) (hs : su ≤ (rmOf md).slots) (hq : Q none w) : Wk l Z M md pc L [] w cu su Q :=
  fun en p e s m args below meth c T locs r X K hz hF hR hL => by
  subst hc
  have hr := K.2.2.2.2.1.trans hret
  exact ⟨T, locs, su, none, w, X, hc2, hs, hz, hF, hR, hM _ _, fun _ => rfl, fun ρ y e => (by cases e), hq, fun fs hf => X.returnOut K.1 hr (hb K.by hd.1) hf⟩
/-! a walk from the entry is a contract -/
theorem Wk.met (h : Wk l Z M md 0 L [] w 0 0 Q) (hp : plainName (nmOf md).cls = true) (ho : M.own = (nmOf md).cls) {en : E} {h0 : Heap} (hR : M.rel en w h0) (as : List Value) (hL : (argsToLocals as.toArray (mxOf md)).toList = L) (hw : wfL L = true) (ws : List Jvm.Cond) :
    MetFree l (nmOf md) (head1 (Jvm.Cond.code (nmOf md) (byOf md) (mxOf md) (rtOf md) :: ws) (rmOf md)) (fun a U => a = (as.map (rv (M.rho en))).toArray ∧ Z.Warmed39 U.vm ∧ U.heap = h0) (fun _ _ _ _ _ => True)
      (fun _ U o U' => ∃ v Lc, o = .returned v ∧ (∃ w', Q v w' ∧ M.rel en w' U'.heap ∧ M.frm en h0 U'.heap ∧ Fr (M.lo en) Lc ∧ U'.heap.size = h0.size + exOf md ∧ ∀ ρ x, v = some x → rv ρ x = x) ∧ FrameEnd U o U' Lc (rmOf md).cells (rmOf md).slots) := by
  refine MetFree.of_bodySF (plainFor_of_name hp) hisR ?_
  intro p e s m args below meth c s₁ Bd hml0 hP hK
  obtain ⟨rfl, hZ, hh⟩ := hP
  have hown : s.vm.findClass (nmOf md).cls = some m.cls := findClass_of_methodNamed Bd.named
  have hnm := (name_of_methodNamed Bd.named Bd.method).1
  have X0 : Stand p l e (rmOf md) s m (as.map (rv (M.rho en))).toArray below meth c s₁ [] 0 0 := Stand.of_body Bd
  have e0 : s₁.heap = s.heap := by rw [Bd.state]; rfl
  subst hh
  obtain ⟨T', locs', su', v, w', a1, a2, a3, a4, a5, a6, a7, a8, a9, a10, a11⟩ := h en p e s m _ below meth c s₁ [] _ X0 ⟨Bd.exec, hZ, by rw [ho]; exact hown, hnm, Bd.returns, BodyLoose.notSynchronized Bd, Bd.bytes, hml0⟩ (by rw [e0]; rfl) (Fr.nil _) (by rw [e0]; exact hR) (SR.entry (M.rho en) as (mxOf md) hL hw)
  obtain ⟨fs, hr, hrun, hended, hW, hsame⟩ := a1.leave (v := v) a8 (BodyLoose.notSynchronized Bd)
  rw [e0] at a7
  exact ⟨_, _, a11 fs hr, hrun, hended, v, locs', rfl, ⟨w', a10, a6, a7, a5, a4, a9⟩, ⟨_, rfl⟩, hW, hsame.mono a2 a3⟩
end Steps
end Jvm.Own

namespace Jvm.Own
open Jvm Jvm.ClassFile Sem Op Lib Jvm.Free Jvm.Stand Jvm.LawKit Jvm.RoadKit
/-! ## 3. One object of the project's class, with its arrays behind it -/
/-- how many arrays are made; the ints; the longs; the arrays of ints (and booleans); of longs -/
abbrev WO : Type := Nat × (Nat → Int32) × (Nat → Int64) × (Nat → Int32 → Int32) × (Nat → Int32 → Int64)
/-- the class; its fields of ints and booleans (number, name, descriptor); of longs; of arrays, in the order in which they are made -/
abbrev CD : Type := String × List (Nat × String × String) × List (Nat × String) × List (Nat × String × String × FieldType × Int32)
def ups {κ α : Type} [DecidableEq κ] (f : κ → α) (i : κ) (x : α) : κ → α := fun k => if k = i then x else f k
theorem ups_at {κ α : Type} [DecidableEq κ] (f : κ → α) (i : κ) (x : α) : ups f i x i = x := by simp [ups]
theorem ups_ne {κ α : Type} [DecidableEq κ] (f : κ → α) {i k : κ} (x : α) (h : k ≠ i) : ups f i x k = f k := by simp [ups, h]
def el : FieldType → Int32 → Int64 → Value
  | .long, _, j => .long j
  | _, i, _ => .int i
theorem el_int {ty : FieldType} (h : ty ≠ .long) (i : Int32) (j : Int64) : el ty i j = .int i := by cases ty <;> first | rfl | exact absurd rfl h
def AtA (Z : State) (h : Heap) (b : Addr) (ty : FieldType) (n : Int32) (f : Int32 → Int32) (g : Int32 → Int64) : Prop :=
  ∃ cl, Arr Z h b cl ty ∧ cl.slots.size = n.toNatClampNeg ∧ ∀ x : Int32, ¬ x < 0 → x < n → cl.slots[x.toNatClampNeg]? = some (el ty (f x) (g x))
def relC (Z : State) (cd : CD) (en : Nat × Nat) (w : WO) (h : Heap) : Prop :=
  en.2 ≤ en.1 ∧ Exa Z h en.1 cd.1 ∧ (∀ t ∈ cd.2.1, Fld Z h en.1 cd.1 t.2.1 t.2.2 (.int (w.2.1 t.1))) ∧ (∀ t ∈ cd.2.2.1, Fld Z h en.1 cd.1 t.2 "J" (.long (w.2.2.1 t.1))) ∧
  (∀ t ∈ cd.2.2.2, (t.1 < w.1 → Fld Z h en.1 cd.1 t.2.1 t.2.2.1 (.ref (en.1 + (t.1 + 1))) ∧ AtA Z h (en.1 + (t.1 + 1)) t.2.2.2.1 t.2.2.2.2 (w.2.2.2.1 t.1) (w.2.2.2.2 t.1)) ∧ (¬ t.1 < w.1 → Fld Z h en.1 cd.1 t.2.1 t.2.2.1 .null)) ∧
  (w.1 < cd.2.2.2.length → h.size = en.1 + 1 + w.1)
def frmC (cd : CD) (en : Nat × Nat) (h h' : Heap) : Prop := h.size ≤ h'.size ∧ ∀ (x : Nat) (c : Cell), h[x]? = some c → (x < en.1 ∨ en.1 + cd.2.2.2.length < x) → h'[x]? = some c
abbrev MoC (Z : State) (cd : CD) : Mode WO (Nat × Nat) := (cd.1, fun en k => en.1 + k, fun en => en.2, relC Z cd, frmC cd)
theorem nn {a b : Nat} (h : a ≠ b) : @Ne Addr a b := h
theorem frmC.refl (cd : CD) (en : Nat × Nat) (h : Heap) : frmC cd en h h := ⟨Nat.le_refl _, fun _ _ q _ => q⟩
theorem frmC.trans {cd : CD} {en : Nat × Nat} {h1 h2 h3 : Heap} (a : frmC cd en h1 h2) (b : frmC cd en h2 h3) : frmC cd en h1 h3 := ⟨Nat.le_trans a.1 b.1, fun x c q r => b.2 x c (a.2 x c q r) r⟩
theorem frmC.wr {cd : CD} {en : Nat × Nat} {h h' : Heap} {b : Nat} {sl : Nat} {v : Value} (W : Wr h h' b sl v) (h1 : en.1 ≤ b) (h2 : b ≤ en.1 + cd.2.2.2.length) : frmC cd en h h' := by
  refine ⟨Nat.le_of_eq W.size.symm, fun x c q r => ?_⟩
  obtain ⟨c', e1, -, -, -, e5, -⟩ := wr_at W q
  rw [← e5 (nn (by omega))]; exact e1
theorem frmC.ext {cd : CD} {en : Nat × Nat} {h h' : Heap} (E : Ext h h') : frmC cd en h h' := ⟨E.1, fun x c q _ => E.2 x c q⟩
def okC (cd : CD) : Prop :=
  (∀ t ∈ cd.2.1, ∀ t' ∈ cd.2.1, (t.1 = t'.1 → t = t') ∧ (t.1 ≠ t'.1 → t.2.1 ≠ t'.2.1)) ∧ (∀ t ∈ cd.2.2.1, ∀ t' ∈ cd.2.2.1, (t.1 = t'.1 → t = t') ∧ (t.1 ≠ t'.1 → t.2 ≠ t'.2)) ∧ (∀ t ∈ cd.2.2.2, ∀ t' ∈ cd.2.2.2, (t.1 = t'.1 → t = t') ∧ (t.1 ≠ t'.1 → t.2.1 ≠ t'.2.1)) ∧
  (∀ t ∈ cd.2.1, ∀ t' ∈ cd.2.2.1, t.2.1 ≠ t'.2) ∧ (∀ t ∈ cd.2.1, ∀ t' ∈ cd.2.2.2, t.2.1 ≠ t'.2.1) ∧ (∀ t ∈ cd.2.2.1, ∀ t' ∈ cd.2.2.2, t.2 ≠ t'.2.1) ∧
  (∀ t ∈ cd.2.1, parseFieldDescriptor t.2.2 = some .int ∨ parseFieldDescriptor t.2.2 = some .boolean) ∧
  (∀ t ∈ cd.2.2.2, parseFieldDescriptor t.2.2.1 = some (.array t.2.2.2.1) ∧ t.1 < cd.2.2.2.length ∧ (t.2.2.2.1 = .int ∨ t.2.2.2.1 = .boolean ∨ t.2.2.2.1 = .long) ∧ ¬ t.2.2.2.2 < 0)
/-- what the words say of the class -/
def CO (Z : State) (a0 : Array Value) (cd : CD) : Prop :=
  (∃ kk, (Cond.instantiable cd.1 kk).before a0 Z = true) ∧ (∀ t ∈ cd.2.1, Laid Z a0 cd.1 cd.1 t.2.1 t.2.2) ∧ (∀ t ∈ cd.2.2.1, Laid Z a0 cd.1 cd.1 t.2 "J") ∧ (∀ t ∈ cd.2.2.2, Laid Z a0 cd.1 cd.1 t.2.1 t.2.2.1) ∧ okC cd
theorem pJ : parseFieldDescriptor "J" = some .long := by decide +kernel
theorem snJ {Z : State} {a0 : Array Value} {C n n' d' : String} {t' : FieldType} (L : Laid Z a0 C C n "J") (L' : Laid Z a0 C C n' d') (hn : n ≠ n') (ht' : parseFieldDescriptor d' = some t') : Jvm.RoadKit.slotOf Z C n "J" ≠ Jvm.RoadKit.slotOf Z C n' d' := by
  have p := pJ
  generalize "J" = q at *
  exact slot_ne L L' hn p ht'
section Rel
variable {Z : State} {a0 : Array Value} {cd : CD} {en : Nat × Nat} {h h' : Heap} {k : Nat} {F : Nat → Int32} {G : Nat → Int64} {A : Nat → Int32 → Int32} {B : Nat → Int32 → Int64}
theorem pI (ok : CO Z a0 cd) {t : Nat × String × String} (ht : t ∈ cd.2.1) : ∃ ty, parseFieldDescriptor t.2.2 = some ty := by
  rcases ok.2.2.2.2.2.2.2.2.2.2.1 t ht with q | q <;> exact ⟨_, q⟩
theorem AtA.other {b b' : Addr} {ty : FieldType} {n : Int32} {f : Int32 → Int32} {g : Int32 → Int64} {sl : Nat} {v : Value} (W : Wr h h' b sl v) (H : AtA Z h b' ty n f g) (hne : b' ≠ b) : AtA Z h' b' ty n f g := by
  obtain ⟨cl, h1, h2, h3⟩ := H
  exact ⟨cl, h1.other W hne, h2, h3⟩
theorem AtA.ext {b' : Addr} {ty : FieldType} {n : Int32} {f : Int32 → Int32} {g : Int32 → Int64} (E : Ext h h') (H : AtA Z h b' ty n f g) : AtA Z h' b' ty n f g := by
  obtain ⟨cl, h1, h2, h3⟩ := H
  exact ⟨cl, h1.ext E, h2, h3⟩
theorem clamp_lt {x n : Int32} (h0 : ¬ x < 0) (h1 : x < n) : x.toNatClampNeg < n.toNatClampNeg := by
  simp only [Int32.lt_iff_toInt_lt, Int32.reduceToInt, Int32.toNatClampNeg] at *
  omega
theorem in_of {x n : Int32} {cl : Cell} (h2 : cl.slots.size = n.toNatClampNeg) (h0 : ¬ x < 0) (h1 : x < n) : ¬ (x < 0 ∨ cl.slots.size ≤ x.toNatClampNeg) := by
  have := clamp_lt h0 h1
  rintro (q | q)
  · exact h0 q
  · omega
theorem AtA.stI {b : Addr} {ty : FieldType} {n : Int32} {f : Int32 → Int32} {g : Int32 → Int64} {j x : Int32} (hty : ty ≠ .long) (h0 : ¬ j < 0) (h1 : j < n) (W : Wr h h' b j.toNatClampNeg (.int x)) (H : AtA Z h b ty n f g) : AtA Z h' b ty n (ups f j x) g := by
  obtain ⟨cl, g1, g2, g3⟩ := H
  refine ⟨_, g1.same W, by rw [sz_set]; exact g2, fun y y0 y1 => ?_⟩
  by_cases e : y = j
  · rw [get_hit (in_of g2 h0 h1) e, e, ups_at, el_int hty]
  · rw [get_miss h0 y0 e, ups_ne _ _ e]; exact g3 y y0 y1
theorem AtA.stJ {b : Addr} {n : Int32} {f : Int32 → Int32} {g : Int32 → Int64} {j : Int32} {x : Int64} (h0 : ¬ j < 0) (h1 : j < n) (W : Wr h h' b j.toNatClampNeg (.long x)) (H : AtA Z h b .long n f g) : AtA Z h' b .long n f (ups g j x) := by
  obtain ⟨cl, g1, g2, g3⟩ := H
  refine ⟨_, g1.same W, by rw [sz_set]; exact g2, fun y y0 y1 => ?_⟩
  by_cases e : y = j
  · rw [get_hit (in_of g2 h0 h1) e, e, ups_at]; rfl
  · rw [get_miss h0 y0 e, ups_ne _ _ e]; exact g3 y y0 y1
theorem relC.putI (ok : CO Z a0 cd) {i : Nat} {n d : String} {x : Int32} (hR : relC Z cd en (k, F, G, A, B) h) (ht : (i, n, d) ∈ cd.2.1) (W : Wr h h' en.1 (Jvm.RoadKit.slotOf Z cd.1 n d) (.int x)) : relC Z cd en (k, ups F i x, G, A, B) h' := by
  obtain ⟨r1, r2, r3, r4, r5, r6⟩ := hR
  obtain ⟨-, o2, o3, o4, q1, q2, q3, q4, q5, q6, q7, q8⟩ := ok
  obtain ⟨ty0, p0⟩ : ∃ ty, parseFieldDescriptor d = some ty := by rcases q7 _ ht with q | q <;> exact ⟨_, q⟩
  refine ⟨r1, r2.wr W, fun t m => ?_, fun t m => ?_, fun t m => ⟨fun hk => ?_, fun hk => ?_⟩, fun q => ?_⟩
  · obtain ⟨u1, u2⟩ := q1 _ m _ ht
    by_cases e : t.1 = i
    · have e2 := u1 e
      subst e2
      show Fld Z h' en.1 cd.1 n d (.int (ups F i x i))
      rw [ups_at]
      exact (r3 _ ht).same W
    · show Fld Z h' en.1 cd.1 _ _ (.int (ups F i x t.1))
      rw [ups_ne _ _ e]
      obtain ⟨ty1, p1⟩ : ∃ ty, parseFieldDescriptor t.2.2 = some ty := by rcases q7 _ m with q | q <;> exact ⟨_, q⟩
      have z0 := slot_ne (o2 _ m) (o2 _ ht) (u2 e) p1 p0
      exact (r3 t m).other W (Or.inr z0)
  · have e1 := o3 _ m
    have e2 := o2 _ ht
    have e3 := q4 _ ht _ m
    have e4 := snJ e1 e2 (Ne.symm e3) p0
    have e5 := r4 t m
    exact e5.other W (Or.inr e4)
  · obtain ⟨a1, a2⟩ := (r5 t m).1 hk
    have z0 := slot_ne (o4 _ m) (o2 _ ht) (Ne.symm (q5 _ ht _ m)) (q8 _ m).1 p0
    exact ⟨a1.other W (Or.inr z0), a2.other W (nn (by omega))⟩
  · have z0 := slot_ne (o4 _ m) (o2 _ ht) (Ne.symm (q5 _ ht _ m)) (q8 _ m).1 p0
    exact ((r5 t m).2 hk).other W (Or.inr z0)
  · rw [W.size]; exact r6 q
theorem relC.putJ (ok : CO Z a0 cd) {i : Nat} {n : String} {x : Int64} (hR : relC Z cd en (k, F, G, A, B) h) (ht : (i, n) ∈ cd.2.2.1) (W : Wr h h' en.1 (Jvm.RoadKit.slotOf Z cd.1 n "J") (.long x)) : relC Z cd en (k, F, ups G i x, A, B) h' := by
  obtain ⟨r1, r2, r3, r4, r5, r6⟩ := hR
  obtain ⟨-, o2, o3, o4, q1, q2, q3, q4, q5, q6, q7, q8⟩ := ok
  refine ⟨r1, r2.wr W, fun t m => ?_, fun t m => ?_, fun t m => ⟨fun hk => ?_, fun hk => ?_⟩, fun q => ?_⟩
  · obtain ⟨ty1, p1⟩ : ∃ ty, parseFieldDescriptor t.2.2 = some ty := by rcases q7 _ m with q | q <;> exact ⟨_, q⟩
    have z0 := Ne.symm (snJ (o3 _ ht) (o2 _ m) (Ne.symm (q4 _ m _ ht)) p1)
    exact (r3 t m).other W (Or.inr z0)
  · obtain ⟨u1, u2⟩ := q2 _ m _ ht
    by_cases e : t.1 = i
    · have e2 := u1 e
      subst e2
      show Fld Z h' en.1 cd.1 n "J" (.long (ups G i x i))
      rw [ups_at]
      exact (r4 _ ht).same W
    · show Fld Z h' en.1 cd.1 _ _ (.long (ups G i x t.1))
      rw [ups_ne _ _ e]
      have z0 := snJ (o3 _ m) (o3 _ ht) (u2 e) pJ
      exact (r4 t m).other W (Or.inr z0)
  · obtain ⟨a1, a2⟩ := (r5 t m).1 hk
    have z0 := Ne.symm (snJ (o3 _ ht) (o4 _ m) (q6 _ ht _ m) (q8 _ m).1)
    exact ⟨a1.other W (Or.inr z0), a2.other W (nn (by omega))⟩
  · have z0 := Ne.symm (snJ (o3 _ ht) (o4 _ m) (q6 _ ht _ m) (q8 _ m).1)
    exact ((r5 t m).2 hk).other W (Or.inr z0)
  · rw [W.size]; exact r6 q
theorem relC.stI (ok : CO Z a0 cd) {i : Nat} {n d : String} {ty : FieldType} {len j x : Int32} (hty : ty ≠ .long) (h0 : ¬ j < 0) (h1 : j < len) (hR : relC Z cd en (k, F, G, A, B) h) (ht : (i, n, d, ty, len) ∈ cd.2.2.2) (W : Wr h h' (en.1 + (i + 1)) j.toNatClampNeg (.int x)) : relC Z cd en (k, F, G, ups A i (ups (A i) j x), B) h' := by
  obtain ⟨r1, r2, r3, r4, r5, r6⟩ := hR
  obtain ⟨-, o2, o3, o4, q1, q2, q3, q4, q5, q6, q7, q8⟩ := ok
  refine ⟨r1, r2.wr W, fun t m => (r3 t m).other W (Or.inl (nn (by omega))), fun t m => (r4 t m).other W (Or.inl (nn (by omega))), fun t m => ⟨fun hk => ?_, fun hk => ((r5 t m).2 hk).other W (Or.inl (nn (by omega)))⟩, fun q => by rw [W.size]; exact r6 q⟩
  obtain ⟨a1, a2⟩ := (r5 t m).1 hk
  refine ⟨a1.other W (Or.inl (nn (by omega))), ?_⟩
  obtain ⟨u1, u2⟩ := q3 _ m _ ht
  show AtA Z h' _ _ _ (ups A i (ups (A i) j x) t.1) (B t.1)
  by_cases e : t.1 = i
  · have e2 := u1 e
    subst e2
    rw [ups_at]
    exact a2.stI hty h0 h1 W
  · rw [ups_ne _ _ e]
    exact a2.other W (nn (by omega))
theorem relC.stJ (ok : CO Z a0 cd) {i : Nat} {n d : String} {len j : Int32} {x : Int64} (h0 : ¬ j < 0) (h1 : j < len) (hR : relC Z cd en (k, F, G, A, B) h) (ht : (i, n, d, .long, len) ∈ cd.2.2.2) (W : Wr h h' (en.1 + (i + 1)) j.toNatClampNeg (.long x)) : relC Z cd en (k, F, G, A, ups B i (ups (B i) j x)) h' := by
  obtain ⟨r1, r2, r3, r4, r5, r6⟩ := hR
  obtain ⟨-, o2, o3, o4, q1, q2, q3, q4, q5, q6, q7, q8⟩ := ok
  refine ⟨r1, r2.wr W, fun t m => (r3 t m).other W (Or.inl (nn (by omega))), fun t m => (r4 t m).other W (Or.inl (nn (by omega))), fun t m => ⟨fun hk => ?_, fun hk => ((r5 t m).2 hk).other W (Or.inl (nn (by omega)))⟩, fun q => by rw [W.size]; exact r6 q⟩
  obtain ⟨a1, a2⟩ := (r5 t m).1 hk
  refine ⟨a1.other W (Or.inl (nn (by omega))), ?_⟩
  obtain ⟨u1, u2⟩ := q3 _ m _ ht
  show AtA Z h' _ _ _ (A t.1) (ups B i (ups (B i) j x) t.1)
  by_cases e : t.1 = i
  · have e2 := u1 e
    subst e2
    rw [ups_at]
    exact a2.stJ h0 h1 W
  · rw [ups_ne _ _ e]
    exact a2.other W (nn (by omega))
theorem relC.newA (ok : CO Z a0 cd) {h1 : Heap} {n d : String} {ty : FieldType} {len : Int32} {cA : ClassId} (hR : relC Z cd en (k, F, G, A, B) h) (ht : (k, n, d, ty, len) ∈ cd.2.2.2) (hA : A k = fun _ => 0) (hB : B k = fun _ => 0) (E : Ext h h1) (N : Arr Z h1 h.size (Jvm.RoadKit.newA cA ty len) ty) (W : Wr h1 h' en.1 (Jvm.RoadKit.slotOf Z cd.1 n d) (.ref h.size)) (hz : h'.size = h.size + 1) : relC Z cd en (k + 1, F, G, A, B) h' := by
  obtain ⟨r1, r2, r3, r4, r5, r6⟩ := hR
  obtain ⟨-, o2, o3, o4, q1, q2, q3, q4, q5, q6, q7, q8⟩ := ok
  have hsz : h.size = en.1 + 1 + k := r6 (q8 _ ht).2.1
  refine ⟨r1, (r2.ext E).wr W, fun t m => ?_, fun t m => ?_, fun t m => ⟨fun hk => ?_, fun hk => ?_⟩, fun q => ?_⟩
  · obtain ⟨ty1, p1⟩ : ∃ ty, parseFieldDescriptor t.2.2 = some ty := by rcases q7 _ m with q | q <;> exact ⟨_, q⟩
    have z0 := slot_ne (o2 _ m) (o4 _ ht) (q5 _ m _ ht) p1 (q8 _ ht).1
    exact ((r3 t m).ext E).other W (Or.inr z0)
  · have z0 := snJ (o3 _ m) (o4 _ ht) (q6 _ m _ ht) (q8 _ ht).1
    exact ((r4 t m).ext E).other W (Or.inr z0)
  · obtain ⟨u1, u2⟩ := q3 _ m _ ht
    by_cases e : t.1 = k
    · have e2 := u1 e
      subst e2
      have f0 := ((r5 _ ht).2 (Nat.lt_irrefl k)).ext E
      refine ⟨?_, ?_⟩
      · have := f0.same W
        rw [hsz] at this
        show Fld Z h' en.1 cd.1 n d (.ref (en.1 + (k + 1)))
        rw [show en.1 + (k + 1) = en.1 + 1 + k by omega]
        exact this
      · show AtA Z h' (en.1 + (k + 1)) ty len (A k) (B k)
        rw [hA, hB, show en.1 + (k + 1) = h.size by omega]
        refine AtA.other W ⟨_, N, sz_new _ _ _, fun x x0 x1 => ?_⟩ (nn (by omega))
        rw [get_new (in_of (cl := Jvm.RoadKit.newA cA ty len) (sz_new _ _ _) x0 x1 |> fun q => by rwa [sz_new] at q)]
        have o := (q8 _ ht).2.2.1
        rcases o with o | o | o <;> (have o' : ty = _ := o; subst o'; rfl)
    · obtain ⟨a1, a2⟩ := (r5 t m).1 (by show t.1 < k; have : t.1 < k + 1 := hk; omega)
      have z0 := slot_ne (o4 _ m) (o4 _ ht) (u2 e) (q8 _ m).1 (q8 _ ht).1
      exact ⟨(a1.ext E).other W (Or.inr z0), (a2.ext E).other W (nn (by omega))⟩
  · obtain ⟨u1, u2⟩ := q3 _ m _ ht
    have hk' : ¬ t.1 < k + 1 := hk
    have z0 := slot_ne (o4 _ m) (o4 _ ht) (u2 (by show t.1 ≠ k; omega)) (q8 _ m).1 (q8 _ ht).1
    exact (((r5 t m).2 (by show ¬ t.1 < k; omega)).ext E).other W (Or.inr z0)
  · show h'.size = en.1 + 1 + (k + 1)
    omega
end Rel
section StepsC
variable {l : Launch} {Z : State} {a0 : Array Value} {cd : CD} {md : MD} {pc pc' pc1 : Nat} {L L' : List Slot} {S : List Value} {k : Nat} {F : Nat → Int32} {G : Nat → Int64} {A : Nat → Int32 → Int32} {B : Nat → Int32 → Int64} {cu su cu' su' : Nat} {Q : Option Value → WO → Prop} {idx : Nat}
theorem Wk.getI {i : Nat} {n d : String} {x : Int32} (ht : (i, n, d) ∈ cd.2.1) (wl : (Cond.fieldLink cd.1 idx cd.1 n d).before a0 Z = true) (hd : InsA md pc (.getfield idx) 3 pc') (hx : F i = x) (h : Wk l Z (MoC Z cd) md pc' L (.int x :: S) (k, F, G, A, B) cu su Q) : Wk l Z (MoC Z cd) md pc L (.ref 0 :: S) (k, F, G, A, B) cu su Q :=
  fun en p e s m args below meth c T locs r X K hz hF hR hL => by
  obtain ⟨hd, rfl⟩ := hd
  subst hx
  obtain ⟨T1, X1, e1, st⟩ := getF X K.1 K.2.1 K.2.2.1 (host := "") (Or.inl wl) Via.refl rfl (hR.2.2.1 _ ht) (g := mkF m pc r (.ref en.1 :: S.map (rv ((MoC Z cd).rho en)))) rfl rfl (hb K.by hd)
  refine (h en p e s m args below meth c T1 locs r X1 K (by rw [e1]; exact hz) hF (by rw [e1]; exact hR) hL).pre (fun _ q => by rw [e1] at q; exact q) fun t q => st t q
theorem Wk.getJ {i : Nat} {n : String} {x : Int64} (ht : (i, n) ∈ cd.2.2.1) (wl : (Cond.fieldLink cd.1 idx cd.1 n "J").before a0 Z = true) (hd : InsA md pc (.getfield idx) 3 pc') (hx : G i = x) (h : Wk l Z (MoC Z cd) md pc' L (.long x :: S) (k, F, G, A, B) cu su Q) : Wk l Z (MoC Z cd) md pc L (.ref 0 :: S) (k, F, G, A, B) cu su Q :=
  fun en p e s m args below meth c T locs r X K hz hF hR hL => by
  obtain ⟨hd, rfl⟩ := hd
  subst hx
  obtain ⟨T1, X1, e1, st⟩ := getF X K.1 K.2.1 K.2.2.1 (host := "") (Or.inl wl) Via.refl rfl (hR.2.2.2.1 _ ht) (g := mkF m pc r (.ref en.1 :: S.map (rv ((MoC Z cd).rho en)))) rfl rfl (hb K.by hd)
  refine (h en p e s m args below meth c T1 locs r X1 K (by rw [e1]; exact hz) hF (by rw [e1]; exact hR) hL).pre (fun _ q => by rw [e1] at q; exact q) fun t q => st t q
theorem Wk.getA {i i' : Nat} {n d : String} {ty : FieldType} {len : Int32} (ht : (i, n, d, ty, len) ∈ cd.2.2.2) (hi : i < k) (hi' : i + 1 = i') (wl : (Cond.fieldLink cd.1 idx cd.1 n d).before a0 Z = true) (hd : InsA md pc (.getfield idx) 3 pc') (h : Wk l Z (MoC Z cd) md pc' L (.ref i' :: S) (k, F, G, A, B) cu su Q) : Wk l Z (MoC Z cd) md pc L (.ref 0 :: S) (k, F, G, A, B) cu su Q :=
  fun en p e s m args below meth c T locs r X K hz hF hR hL => by
  obtain ⟨hd, rfl⟩ := hd
  subst hi'
  obtain ⟨T1, X1, e1, st⟩ := getF X K.1 K.2.1 K.2.2.1 (host := "") (Or.inl wl) Via.refl rfl ((hR.2.2.2.2.1 _ ht).1 hi).1 (g := mkF m pc r (.ref en.1 :: S.map (rv ((MoC Z cd).rho en)))) rfl rfl (hb K.by hd)
  refine (h en p e s m args below meth c T1 locs r X1 K (by rw [e1]; exact hz) hF (by rw [e1]; exact hR) hL).pre (fun _ q => by rw [e1] at q; exact q) fun t q => st t q
theorem Wk.putI (ok : CO Z a0 cd) {i : Nat} {n : String} {x : Int32} (ht : (i, n, "I") ∈ cd.2.1) (wl : (Cond.fieldLink cd.1 idx cd.1 n "I").before a0 Z = true) (wy : (Cond.lays cd.1 cd.1 n "I").before a0 Z = true ∨ ((Cond.laysFinal cd.1 cd.1 n "I").before a0 Z = true ∧ (nmOf md).name = "<init>")) (hd : InsA md pc (.putfield idx) 3 pc') (h : Wk l Z (MoC Z cd) md pc' L S (k, ups F i x, G, A, B) cu su Q) : Wk l Z (MoC Z cd) md pc L (.int x :: .ref 0 :: S) (k, F, G, A, B) cu su Q :=
  fun en p e s m args below meth c T locs r X K hz hF hR hL => by
  obtain ⟨hd, rfl⟩ := hd
  obtain ⟨kk, wi⟩ := ok.1
  obtain ⟨T1, h1, X1, e1, W1, st⟩ := putF X K.1 K.2.1 K.2.2.1 (host := "") (Or.inl wl) Via.refl rfl (hR.2.2.1 _ ht) hR.2.1 (wy.imp id fun q => ⟨q.1, rfl, K.2.2.2.1.trans q.2⟩) wi (ty := .int) (v := .int x) (by decide +kernel) rfl rfl (g := mkF m pc r (.int x :: .ref en.1 :: S.map (rv ((MoC Z cd).rho en)))) rfl rfl (hb K.by hd)
  subst e1
  exact (h en p e s m args below meth c T1 _ r X1 K (by rw [W1.size]; exact hz) (Fr.snoc X1 hF hR.1) (relC.putI ok hR ht W1) hL).pre (fun _ q => (frmC.wr W1 (Nat.le_refl _) (Nat.le_add_right _ _)).trans q) fun t q => st t q
theorem Wk.putZ (ok : CO Z a0 cd) {i : Nat} {n : String} {x y : Int32} (hy : nar .boolean x = y) (ht : (i, n, "Z") ∈ cd.2.1) (wl : (Cond.fieldLink cd.1 idx cd.1 n "Z").before a0 Z = true) (wy : (Cond.lays cd.1 cd.1 n "Z").before a0 Z = true ∨ ((Cond.laysFinal cd.1 cd.1 n "Z").before a0 Z = true ∧ (nmOf md).name = "<init>")) (hd : InsA md pc (.putfield idx) 3 pc') (h : Wk l Z (MoC Z cd) md pc' L S (k, ups F i y, G, A, B) cu su Q) : Wk l Z (MoC Z cd) md pc L (.int x :: .ref 0 :: S) (k, F, G, A, B) cu su Q :=
  fun en p e s m args below meth c T locs r X K hz hF hR hL => by
  obtain ⟨hd, rfl⟩ := hd
  subst hy
  obtain ⟨kk, wi⟩ := ok.1
  obtain ⟨T1, h1, X1, e1, W1, st⟩ := putFN X K.1 K.2.1 K.2.2.1 wl Via.refl rfl (hR.2.2.1 _ ht) hR.2.1 (wy.imp id fun q => ⟨q.1, rfl, K.2.2.2.1.trans q.2⟩) wi (ty := .boolean) (v := .int x) (v' := .int (nar .boolean x)) (by decide +kernel) rfl (fits_nar_bool x) (g := mkF m pc r (.int x :: .ref en.1 :: S.map (rv ((MoC Z cd).rho en)))) rfl rfl (hb K.by hd)
  subst e1
  exact (h en p e s m args below meth c T1 _ r X1 K (by rw [W1.size]; exact hz) (Fr.snoc X1 hF hR.1) (relC.putI ok hR ht W1) hL).pre (fun _ q => (frmC.wr W1 (Nat.le_refl _) (Nat.le_add_right _ _)).trans q) fun t q => st t q
theorem Wk.putJ (ok : CO Z a0 cd) {i : Nat} {n : String} {x : Int64} (ht : (i, n) ∈ cd.2.2.1) (wl : (Cond.fieldLink cd.1 idx cd.1 n "J").before a0 Z = true) (wy : (Cond.lays cd.1 cd.1 n "J").before a0 Z = true ∨ ((Cond.laysFinal cd.1 cd.1 n "J").before a0 Z = true ∧ (nmOf md).name = "<init>")) (hd : InsA md pc (.putfield idx) 3 pc') (h : Wk l Z (MoC Z cd) md pc' L S (k, F, ups G i x, A, B) cu su Q) : Wk l Z (MoC Z cd) md pc L (.long x :: .ref 0 :: S) (k, F, G, A, B) cu su Q :=
  fun en p e s m args below meth c T locs r X K hz hF hR hL => by
  obtain ⟨hd, rfl⟩ := hd
  obtain ⟨kk, wi⟩ := ok.1
  obtain ⟨T1, h1, X1, e1, W1, st⟩ := putF X K.1 K.2.1 K.2.2.1 (host := "") (Or.inl wl) Via.refl rfl (hR.2.2.2.1 _ ht) hR.2.1 (wy.imp id fun q => ⟨q.1, rfl, K.2.2.2.1.trans q.2⟩) wi (ty := .long) (v := .long x) (by decide +kernel) rfl rfl (g := mkF m pc r (.long x :: .ref en.1 :: S.map (rv ((MoC Z cd).rho en)))) rfl rfl (hb K.by hd)
  subst e1
  exact (h en p e s m args below meth c T1 _ r X1 K (by rw [W1.size]; exact hz) (Fr.snoc X1 hF hR.1) (relC.putJ ok hR ht W1) hL).pre (fun _ q => (frmC.wr W1 (Nat.le_refl _) (Nat.le_add_right _ _)).trans q) fun t q => st t q
/-- an array is made and laid into its field at once -/
theorem Wk.newA (ok : CO Z a0 cd) {aty : ArrayType} {len : Int32} {n d : String} {ty : FieldType} {k' : Nat} (hty : newarray.typeOf aty = ty) (wa : (Cond.arrayClass (newarray.typeOf aty)).before a0 Z = true) (ht : (k, n, d, ty, len) ∈ cd.2.2.2) (wl : (Cond.fieldLink cd.1 idx cd.1 n d).before a0 Z = true)
    (wy : (Cond.lays cd.1 cd.1 n d).before a0 Z = true ∨ ((Cond.laysFinal cd.1 cd.1 n d).before a0 Z = true ∧ (nmOf md).name = "<init>")) (hd : InsA md pc (.newarray aty) 2 pc1) (hd2 : InsA md pc1 (.putfield idx) 3 pc') (hA : A k = fun _ => 0) (hB : B k = fun _ => 0) (hk : k + 1 = k') (hcu : cu + 1 = cu') (hsu : su + len.toNatClampNeg = su')
    (hcap : len.toNatClampNeg * 8 ≤ 536870912) (hc : cu' ≤ (rmOf md).cells) (hs : su' ≤ (rmOf md).slots) (h : Wk l Z (MoC Z cd) md pc' L S (k', F, G, A, B) cu' su' Q) : Wk l Z (MoC Z cd) md pc L (.int len :: .ref 0 :: S) (k, F, G, A, B) cu su Q :=
  fun en p e s m args below meth c T locs r X K hz hF hR hL => by
  obtain ⟨hd, rfl⟩ := hd
  obtain ⟨hd2, rfl⟩ := hd2
  subst hk hcu hsu hty
  obtain ⟨kk, wi⟩ := ok.1
  have p8 := ok.2.2.2.2.2.2.2.2.2.2.2 _ ht
  obtain ⟨T1, h1, cA, X1, e1, E1, N1, st1⟩ := newP X K.1 K.2.1 wa rfl (g := mkF m pc r (.int len :: .ref en.1 :: S.map (rv ((MoC Z cd).rho en)))) rfl (hb K.by hd) rfl p8.2.2.2 (cap := len.toNatClampNeg) (Nat.le_refl _) hcap hc hs
  subst e1
  obtain ⟨T2, h2, X2, e2, W2, st2⟩ := putF X1 K.1 K.2.1 K.2.2.1 (host := "") (Or.inl wl) Via.refl rfl (((hR.2.2.2.2.1 _ ht).2 (Nat.lt_irrefl k)).ext E1) (hR.2.1.ext E1) (wy.imp id fun q => ⟨q.1, rfl, K.2.2.2.1.trans q.2⟩) wi (v := .ref T.heap.size) p8.1 rfl rfl (g := mkF m (pc + 2) r (.ref T.heap.size :: .ref en.1 :: S.map (rv ((MoC Z cd).rho en)))) rfl rfl (hb K.by hd2)
  subst e2
  have z1 := X1.heapSize
  have z2 : (T.heap.size : Nat) < T1.heap.size := N1.lt
  have z3 := W2.size
  exact (h en p e s m args below meth c T2 _ r X2 K (by omega) (Fr.snoc X2 hF hR.1) (relC.newA ok hR ht hA hB E1 N1 W2 (by omega)) hL).pre (fun _ q => ((frmC.ext E1).trans (frmC.wr W2 (Nat.le_refl _) (Nat.le_add_right _ _))).trans q) fun t q => st1 t (st2 t q)
theorem relC.arr {en : Nat × Nat} {h : Heap} {i : Nat} {n d : String} {ty : FieldType} {len : Int32} (hR : relC Z cd en (k, F, G, A, B) h) (ht : (i, n, d, ty, len) ∈ cd.2.2.2) (hi : i < k) : AtA Z h (en.1 + (i + 1)) ty len (A i) (B i) := ((hR.2.2.2.2.1 _ ht).1 hi).2
theorem Wk.iaload {i i' : Nat} {n d : String} {len x : Int32} {y : Int32} (ht : (i, n, d, .int, len) ∈ cd.2.2.2) (hi : i < k) (hi' : i + 1 = i') (h0 : ¬ x < 0) (h1 : x < len) (hd : InsA md pc .iaload 1 pc') (hy : A i x = y) (h : Wk l Z (MoC Z cd) md pc' L (.int y :: S) (k, F, G, A, B) cu su Q) : Wk l Z (MoC Z cd) md pc L (.int x :: .ref i' :: S) (k, F, G, A, B) cu su Q :=
  fun en p e s m args below meth c T locs r X K hz hF hR hL => by
  obtain ⟨hd, rfl⟩ := hd
  subst hi' hy
  obtain ⟨cl, g1, g2, g3⟩ := relC.arr hR ht hi
  exact (h en p e s m args below meth c T locs r X K hz hF hR hL).pre (fun _ q => q) fun t q => X.iaload K.1 (j := x) (v := .int (A i x)) g1.1 (State.isArrayOf_alike K.2.1.alike g1.2.1) g1.2.2 (in_of g2 h0 h1) (g3 x h0 h1) (g := mkF m pc r (.int x :: .ref (en.1 + (i + 1)) :: S.map (rv ((MoC Z cd).rho en)))) rfl rfl (hb K.by hd) _ q
theorem Wk.baload {i i' : Nat} {n d : String} {len x : Int32} {y : Int32} (ht : (i, n, d, .boolean, len) ∈ cd.2.2.2) (hi : i < k) (hi' : i + 1 = i') (h0 : ¬ x < 0) (h1 : x < len) (hd : InsA md pc .baload 1 pc') (hy : A i x = y) (h : Wk l Z (MoC Z cd) md pc' L (.int y :: S) (k, F, G, A, B) cu su Q) : Wk l Z (MoC Z cd) md pc L (.int x :: .ref i' :: S) (k, F, G, A, B) cu su Q :=
  fun en p e s m args below meth c T locs r X K hz hF hR hL => by
  obtain ⟨hd, rfl⟩ := hd
  subst hi' hy
  obtain ⟨cl, g1, g2, g3⟩ := relC.arr hR ht hi
  exact (h en p e s m args below meth c T locs r X K hz hF hR hL).pre (fun _ q => q) fun t q => X.baloadBooleans K.1 (j := x) (v := .int (A i x)) g1.1 (State.isArrayOf_alike K.2.1.alike g1.2.1) g1.2.2 (in_of g2 h0 h1) (g3 x h0 h1) (g := mkF m pc r (.int x :: .ref (en.1 + (i + 1)) :: S.map (rv ((MoC Z cd).rho en)))) rfl rfl (hb K.by hd) _ q
theorem Wk.laload {i i' : Nat} {n d : String} {len x : Int32} {y : Int64} (ht : (i, n, d, .long, len) ∈ cd.2.2.2) (hi : i < k) (hi' : i + 1 = i') (h0 : ¬ x < 0) (h1 : x < len) (hd : InsA md pc .laload 1 pc') (hy : B i x = y) (h : Wk l Z (MoC Z cd) md pc' L (.long y :: S) (k, F, G, A, B) cu su Q) : Wk l Z (MoC Z cd) md pc L (.int x :: .ref i' :: S) (k, F, G, A, B) cu su Q :=
  fun en p e s m args below meth c T locs r X K hz hF hR hL => by
  obtain ⟨hd, rfl⟩ := hd
  subst hi' hy
  obtain ⟨cl, g1, g2, g3⟩ := relC.arr hR ht hi
  exact (h en p e s m args below meth c T locs r X K hz hF hR hL).pre (fun _ q => q) fun t q => X.laload K.1 (j := x) (v := .long (B i x)) g1.1 (State.isArrayOf_alike K.2.1.alike g1.2.1) g1.2.2 (in_of g2 h0 h1) (g3 x h0 h1) (g := mkF m pc r (.int x :: .ref (en.1 + (i + 1)) :: S.map (rv ((MoC Z cd).rho en)))) rfl rfl (hb K.by hd) _ q
theorem Wk.iastore (ok : CO Z a0 cd) {f : Int32 → Int32} {i i' : Nat} {n d : String} {len x v : Int32} (ht : (i, n, d, .int, len) ∈ cd.2.2.2) (hf : A i = f) (hi : i < k) (hi' : i + 1 = i') (h0 : ¬ x < 0) (h1 : x < len) (hd : InsA md pc .iastore 1 pc') (h : Wk l Z (MoC Z cd) md pc' L S (k, F, G, ups A i (ups f x v), B) cu su Q) : Wk l Z (MoC Z cd) md pc L (.int v :: .int x :: .ref i' :: S) (k, F, G, A, B) cu su Q :=
  fun en p e s m args below meth c T locs r X K hz hF hR hL => by
  obtain ⟨hd, rfl⟩ := hd
  subst hi' hf
  obtain ⟨cl, g1, g2, g3⟩ := relC.arr hR ht hi
  obtain ⟨T1, e1', X1, e1, W1, st⟩ := stI X K.1 K.2.1 rfl g1 (in_of g2 h0 h1) (g := mkF m pc r (.int v :: .int x :: .ref (en.1 + (i + 1)) :: S.map (rv ((MoC Z cd).rho en)))) rfl rfl (hb K.by hd)
  subst e1
  have p8 := (ok.2.2.2.2.2.2.2.2.2.2.2 _ ht).2.1
  exact (h en p e s m args below meth c T1 _ r X1 K (by rw [W1.size]; exact hz) (Fr.snoc X1 hF (Nat.le_trans hR.1 (Nat.le_add_right _ _))) (relC.stI ok (by decide) h0 h1 hR ht W1) hL).pre (fun _ q => (frmC.wr W1 (Nat.le_add_right _ _) (Nat.add_le_add_left (show i + 1 ≤ cd.2.2.2.length from p8) _)).trans q) fun t q => st t q
theorem Wk.bastore (ok : CO Z a0 cd) {f : Int32 → Int32} {i i' : Nat} {n d : String} {len x v v' : Int32} (hv : nar .boolean v = v') (ht : (i, n, d, .boolean, len) ∈ cd.2.2.2) (hf : A i = f) (hi : i < k) (hi' : i + 1 = i') (h0 : ¬ x < 0) (h1 : x < len) (hd : InsA md pc .bastore 1 pc') (h : Wk l Z (MoC Z cd) md pc' L S (k, F, G, ups A i (ups f x v'), B) cu su Q) : Wk l Z (MoC Z cd) md pc L (.int v :: .int x :: .ref i' :: S) (k, F, G, A, B) cu su Q :=
  fun en p e s m args below meth c T locs r X K hz hF hR hL => by
  obtain ⟨hd, rfl⟩ := hd
  subst hi' hv hf
  obtain ⟨cl, g1, g2, g3⟩ := relC.arr hR ht hi
  obtain ⟨T1, e1', X1, e1, W1, st⟩ := stZ X K.1 K.2.1 rfl g1 (in_of g2 h0 h1) (g := mkF m pc r (.int v :: .int x :: .ref (en.1 + (i + 1)) :: S.map (rv ((MoC Z cd).rho en)))) rfl rfl (hb K.by hd)
  subst e1
  have p8 := (ok.2.2.2.2.2.2.2.2.2.2.2 _ ht).2.1
  exact (h en p e s m args below meth c T1 _ r X1 K (by rw [W1.size]; exact hz) (Fr.snoc X1 hF (Nat.le_trans hR.1 (Nat.le_add_right _ _))) (relC.stI ok (by decide) h0 h1 hR ht W1) hL).pre (fun _ q => (frmC.wr W1 (Nat.le_add_right _ _) (Nat.add_le_add_left (show i + 1 ≤ cd.2.2.2.length from p8) _)).trans q) fun t q => st t q
theorem Wk.lastore (ok : CO Z a0 cd) {f : Int32 → Int64} {i i' : Nat} {n d : String} {len x : Int32} {v : Int64} (ht : (i, n, d, .long, len) ∈ cd.2.2.2) (hf : B i = f) (hi : i < k) (hi' : i + 1 = i') (h0 : ¬ x < 0) (h1 : x < len) (hd : InsA md pc .lastore 1 pc') (h : Wk l Z (MoC Z cd) md pc' L S (k, F, G, A, ups B i (ups f x v)) cu su Q) : Wk l Z (MoC Z cd) md pc L (.long v :: .int x :: .ref i' :: S) (k, F, G, A, B) cu su Q :=
  fun en p e s m args below meth c T locs r X K hz hF hR hL => by
  obtain ⟨hd, rfl⟩ := hd
  subst hi' hf
  obtain ⟨cl, g1, g2, g3⟩ := relC.arr hR ht hi
  obtain ⟨T1, e1', X1, e1, W1, st⟩ := stJ X K.1 K.2.1 rfl g1 (in_of g2 h0 h1) (g := mkF m pc r (.long v :: .int x :: .ref (en.1 + (i + 1)) :: S.map (rv ((MoC Z cd).rho en)))) rfl rfl (hb K.by hd)
  subst e1
  have p8 := (ok.2.2.2.2.2.2.2.2.2.2.2 _ ht).2.1
  exact (h en p e s m args below meth c T1 _ r X1 K (by rw [W1.size]; exact hz) (Fr.snoc X1 hF (Nat.le_trans hR.1 (Nat.le_add_right _ _))) (relC.stJ ok h0 h1 hR ht W1) hL).pre (fun _ q => (frmC.wr W1 (Nat.le_add_right _ _) (Nat.add_le_add_left (show i + 1 ≤ cd.2.2.2.length from p8) _)).trans q) fun t q => st t q
/-- Object.<init> -/
theorem Wk.initO {μ E : Type} {M : Mode μ E} {w : μ} {Q : Option Value → μ → Prop} {v : Nat} (w1 : (Cond.methodLink M.own idx Lib.objectInit).before a0 Z = true) (w2 : (Cond.instanceMethod Lib.objectInit).before a0 Z = true) (w3 : (Cond.code Lib.objectInit ⟨#[0xb1]⟩ 1 none).before a0 Z = true) (hd : InsA md pc (.invokespecial idx) 3 pc') (hl : L.length = mxOf md) (hf : 1 ≤ (rmOf md).frames) (hW : (S.map fun v => v.category).sum + 12 ≤ (rmOf md).locals)
    (h : Wk l Z M md pc' L S w cu su Q) : Wk l Z M md pc L (.ref v :: S) w cu su Q :=
  fun en p e s m args below meth c T locs r X K hz hF hR hL => by
  obtain ⟨hd, rfl⟩ := hd
  have cs : ∀ S : List Value, ((S.map (rv (M.rho en))).map fun v => v.category).sum = (S.map fun v => v.category).sum := fun S => by rw [List.map_map]; congr 1; exact List.map_congr_left fun v _ => rv_cat _ v
  obtain ⟨T1, X1, e1, st⟩ := Jvm.RoadKit.initO X K.1 K.2.1 K.2.2.1 w1 w2 w3 rfl (g := mkF m pc r (.ref (M.rho en v) :: S.map (rv (M.rho en)))) rfl (by show r.size = _; rw [hL.1, hl]; exact K.2.2.2.2.2.2.2.symm) rfl (hb K.by hd) hf (W := (S.map fun v => v.category).sum) (by show 2 * 0 + _ ≤ _; rw [cs]; omega) hW
  exact (h en p e s m args below meth c T1 locs r X1 K (by rw [e1]; exact hz) hF (by rw [e1]; exact hR) hL).pre (fun _ q => by rw [e1] at q; exact q) fun t q => st t q
end StepsC
end Jvm.Own

namespace Jvm.Own
open Jvm Jvm.ClassFile Sem Op Lib Jvm.Free Jvm.Stand Jvm.LawKit Jvm.RoadKit
/-! ## 4. Calls -/
def noRef : List Value → Bool
  | [] => true
  | .ref _ :: _ => false
  | _ :: t => noRef t
theorem noRef.map : (as : List Value) → noRef as = true → ∀ ρ, as.map (rv ρ) = as
  | [], _, _ => rfl
  | .ref _ :: _, h, _ => by cases h
  | .int _ :: t, h, ρ => by rw [List.map_cons, noRef.map t h ρ]; rfl
  | .long _ :: t, h, ρ => by rw [List.map_cons, noRef.map t h ρ]; rfl
  | .float _ :: t, h, ρ => by rw [List.map_cons, noRef.map t h ρ]; rfl
  | .double _ :: t, h, ρ => by rw [List.map_cons, noRef.map t h ρ]; rfl
  | .null :: t, h, ρ => by rw [List.map_cons, noRef.map t h ρ]; rfl
  | .retAddr _ :: t, h, ρ => by rw [List.map_cons, noRef.map t h ρ]; rfl
/-- what the words say of a callee: an instance method -/
def CalV (Z : State) (a0 : Array Value) (md : MD) (n : Nat) : Prop :=
  plainName (nmOf md).cls = true ∧ ((nmOf md).cls ≠ "java/lang/invoke/MethodHandle" ∧ (nmOf md).cls ≠ "java/lang/invoke/VarHandle") ∧ (∀ sig, parseMethodDescriptor (nmOf md).desc = some sig → n = sig.parameters.length) ∧
  (Cond.instanceMethod (nmOf md)).before a0 Z = true ∧ (Cond.code (nmOf md) (byOf md) (mxOf md) (rtOf md)).before a0 Z = true ∧ (Cond.initialized (nmOf md).cls).before a0 Z = true ∧
  (((Cond.declares (nmOf md)).before a0 Z = true ∧ (Cond.selects (nmOf md).cls (nmOf md) (nmOf md)).before a0 Z = true) ∨ ((Cond.privateMethod (nmOf md)).before a0 Z = true ∧ ∃ kk, (Cond.instantiable (nmOf md).cls kk).before a0 Z = true))
/-- a constructor -/
def CalI (Z : State) (a0 : Array Value) (md : MD) (n : Nat) : Prop :=
  plainName (nmOf md).cls = true ∧ ((nmOf md).cls ≠ "java/lang/invoke/MethodHandle" ∧ (nmOf md).cls ≠ "java/lang/invoke/VarHandle") ∧ (∀ sig, parseMethodDescriptor (nmOf md).desc = some sig → n = sig.parameters.length) ∧
  (Cond.instanceMethod (nmOf md)).before a0 Z = true ∧ (Cond.code (nmOf md) (byOf md) (mxOf md) (rtOf md)).before a0 Z = true ∧ (Cond.initialized (nmOf md).cls).before a0 Z = true ∧ (nmOf md).name = "<init>" ∧ rtOf md = none
/-- a static method -/
def CalS (Z : State) (a0 : Array Value) (md : MD) (n : Nat) : Prop :=
  plainName (nmOf md).cls = true ∧ ((nmOf md).cls ≠ "java/lang/invoke/MethodHandle" ∧ (nmOf md).cls ≠ "java/lang/invoke/VarHandle") ∧ (∀ sig, parseMethodDescriptor (nmOf md).desc = some sig → n = sig.parameters.length) ∧
  (Cond.static (nmOf md)).before a0 Z = true ∧ (Cond.code (nmOf md) (byOf md) (mxOf md) (rtOf md)).before a0 Z = true ∧ (Cond.initialized (nmOf md).cls).before a0 Z = true
/-- the figures of a call: the operands under it weigh wt -/
def Fits (md md' : MD) (wt cu su cu' su' : Nat) : Prop :=
  (rmOf md').frames + 1 ≤ (rmOf md).frames ∧ wt + (mxOf md' + 11) + (rmOf md').locals ≤ (rmOf md).locals ∧ cu + (rmOf md').cells = cu' ∧ su + (rmOf md').slots = su' ∧ cu' ≤ (rmOf md).cells ∧ su' ≤ (rmOf md).slots ∧ exOf md' = (rmOf md').cells
instance (md md' : MD) (wt cu su cu' su' : Nat) : Decidable (Fits md md' wt cu su cu' su') := by unfold Fits; infer_instance
section Core
variable {μ E : Type} {l : Launch} {Z : State} {a0 : Array Value} {M' : Mode μ E} {md md' : MD} {own : String} {p : Program} {e : Env} {s : State} {m : MethodId} {args : Array Value} {below : List Frame} {meth : Method} {c : Code} {T : State} {locs : List Loc} {cu su cu' su' wt pc idx : Nat} {as : List Value} {L' : List Slot} {w : μ} {Q' : Option Value → μ → Prop} {en : E} {a : Addr} {r : Array Slot} {rest : List Value}
theorem coreV (X : Stand p l e (rmOf md) s m args below meth c T locs cu su) (K : Kn Z own md p s m meth c) (hd : decode (byOf md) pc = .ok (.invokevirtual idx, 3)) (wl : (Cond.methodLink own idx (nmOf md')).before a0 Z = true) (cv : CalV Z a0 md' as.length) (hcal : Wk l Z M' md' 0 L' [] w 0 0 Q') (ho : M'.own = (nmOf md').cls) (hR : M'.rel en w T.heap) (hE : Exa Z T.heap a (nmOf md').cls) (ha : M'.rho en 0 = a)
    (hL : (argsToLocals (.ref 0 :: as).toArray (mxOf md')).toList = L') (hw : wfL L' = true) (ft : Fits md md' wt cu su cu' su') (hr : r.size = mxOf md) (hrest : (rest.map fun v => v.category).sum ≤ wt) :
    ∃ v T1 Lc w1, Stand p l e (rmOf md) s m args below meth c T1 (locs ++ Lc) cu' su' ∧ Q' v w1 ∧ M'.rel en w1 T1.heap ∧ M'.frm en T.heap T1.heap ∧ Fr (M'.lo en) Lc ∧ T1.heap.size = T.heap.size + exOf md' ∧ (∀ ρ x, v = some x → rv ρ x = x) ∧
      ∀ t, Steps p.tables e below (T1.setTop (mkF m (pc + 3) r (v.toList ++ rest))) t → Steps p.tables e below (T.setTop (mkF m pc r ((as.map (rv (M'.rho en))).reverse ++ .ref a :: rest))) t := by
  obtain ⟨v1, v2, v3, v4, v5, v6, v7⟩ := cv
  obtain ⟨f1, f2, f3, f4, f5, f6, f7⟩ := ft
  subst f3 f4 ha
  obtain ⟨hx, hZ, hown, -, -, -, hby, hml⟩ := K
  have bk := backOf (s := s) (args := args) (p := p) (e := e) (below := below) (len := 3) (W := wt) (R := rmOf md) (Q := fun v hh Lc => ∃ w', Q' v w' ∧ M'.rel en w' hh ∧ M'.frm en T.heap hh ∧ Fr (M'.lo en) Lc ∧ hh.size = T.heap.size + exOf md' ∧ ∀ ρ x, v = some x → rv ρ x = x) (hcal.met v1 ho hR (.ref 0 :: as) hL hw []) hZ v5 v6 f1 f2
  have hlen : ∀ sig, parseMethodDescriptor (nmOf md').desc = some sig → (as.map (rv (M'.rho en))).length = sig.parameters.length := fun sig q => by rw [List.length_map]; exact v3 sig q
  rcases v7 with ⟨d1, d2⟩ | ⟨d1, kk, d2⟩
  · obtain ⟨cq, kq, qa, qb, qc⟩ := isOf (T := T) hZ rfl hE
    obtain ⟨v, _, ⟨T1, L1, k1, n1⟩, -, X1, ⟨Lc, hQ, l1, y1, z1⟩, st⟩ := X.virtualBack hx (y := nmOf md') (z := nmOf md') hown (mvT hZ wl) (mvT hZ d1) (notFace_of_selects (args := #[]) (mvT hZ d2)) (mvT hZ d2) (mvT hZ v4) v2 bk qa qc (g := mkF m pc r ((as.map (rv (M'.rho en))).reverse ++ .ref (M'.rho en 0) :: rest)) rfl (hr.trans hml.symm) (Steps.refl _) (argsL := as.map (rv (M'.rho en))) (rest := rest) hlen rfl (by show 2 * 0 + _ ≤ _; omega) (hb hby hd) (fun _ _ => ⟨rfl, rfl, f5, f6⟩)
    dsimp only [Pt.U, Pt.locs, Pt.cells, Pt.slots] at X1 l1 y1 z1 st hQ
    subst l1 y1 z1
    obtain ⟨w1, q1, q2, q3, q4, q5, q6⟩ := hQ
    exact ⟨v, T1, Lc, w1, X1, q1, q2, q3, q4, q5, q6, fun t q => st.trans q⟩
  · obtain ⟨cc, kc, i1, i2, i3, i4, -⟩ := Cond.instantiable_spec (mvT (s := s) (args := #[]) hZ d2)
    have hni : kc.isInterface = false := by cases hq : kc.isInterface <;> simp [hq] at i4 ⊢
    have pv : s.PrivateAt (nmOf md') := Cond.privateMethod_at (mvP hZ d1 (args := #[]))
    have sel : (Cond.selects (nmOf md').cls (nmOf md') (nmOf md')).before args s = true := selects_self_of_private i1 i2 hni pv (mvT hZ v4) v2
    obtain ⟨cq, q7, q7'⟩ := hE.cell
    obtain ⟨v, _, ⟨T1, L1, k1, n1⟩, -, X1, ⟨Lc, hQ, l1, y1, z1⟩, st⟩ := X.privateBack hx (y := nmOf md') hown (mvT hZ wl) (mvT hZ v4) sel pv (mvT hZ v5) v2 bk (g := mkF m pc r ((as.map (rv (M'.rho en))).reverse ++ .ref (M'.rho en 0) :: rest)) rfl (hr.trans hml.symm) (Steps.refl _) (a := M'.rho en 0) q7 q7' (argsL := as.map (rv (M'.rho en))) (rest := rest) hlen rfl (by show 2 * 0 + _ ≤ _; omega) (hb hby hd) (fun _ _ => ⟨rfl, rfl, f5, f6⟩)
    dsimp only [Pt.U, Pt.locs, Pt.cells, Pt.slots] at X1 l1 y1 z1 st hQ
    subst l1 y1 z1
    obtain ⟨w1, q1, q2, q3, q4, q5, q6⟩ := hQ
    exact ⟨v, T1, Lc, w1, X1, q1, q2, q3, q4, q5, q6, fun t q => st.trans q⟩
theorem coreI (X : Stand p l e (rmOf md) s m args below meth c T locs cu su) (K : Kn Z own md p s m meth c) (hd : decode (byOf md) pc = .ok (.invokespecial idx, 3)) (wl : (Cond.methodLink own idx (nmOf md')).before a0 Z = true) (cv : CalI Z a0 md' as.length) (hcal : Wk l Z M' md' 0 L' [] w 0 0 Q') (ho : M'.own = (nmOf md').cls) (hR : M'.rel en w T.heap) (ha : M'.rho en 0 = a)
    (hL : (argsToLocals (.ref 0 :: as).toArray (mxOf md')).toList = L') (hw : wfL L' = true) (ft : Fits md md' wt cu su cu' su') (hr : r.size = mxOf md) (hrest : (rest.map fun v => v.category).sum ≤ wt) :
    ∃ v T1 Lc w1, Stand p l e (rmOf md) s m args below meth c T1 (locs ++ Lc) cu' su' ∧ Q' v w1 ∧ M'.rel en w1 T1.heap ∧ M'.frm en T.heap T1.heap ∧ Fr (M'.lo en) Lc ∧ T1.heap.size = T.heap.size + exOf md' ∧ (∀ ρ x, v = some x → rv ρ x = x) ∧
      ∀ t, Steps p.tables e below (T1.setTop (mkF m (pc + 3) r (v.toList ++ rest))) t → Steps p.tables e below (T.setTop (mkF m pc r ((as.map (rv (M'.rho en))).reverse ++ .ref a :: rest))) t := by
  obtain ⟨v1, v2, v3, v4, v5, v6, v7, v8⟩ := cv
  obtain ⟨f1, f2, f3, f4, f5, f6, f7⟩ := ft
  subst f3 f4 ha
  obtain ⟨hx, hZ, hown, -, -, -, hby, hml⟩ := K
  have bk := backOf (s := s) (args := args) (p := p) (e := e) (below := below) (len := 3) (W := wt) (R := rmOf md) (Q := fun v hh Lc => ∃ w', Q' v w' ∧ M'.rel en w' hh ∧ M'.frm en T.heap hh ∧ Fr (M'.lo en) Lc ∧ hh.size = T.heap.size + exOf md' ∧ ∀ ρ x, v = some x → rv ρ x = x) (hcal.met v1 ho hR (.ref 0 :: as) hL hw []) hZ v5 v6 f1 f2
  have hlen : ∀ sig, parseMethodDescriptor (nmOf md').desc = some sig → (as.map (rv (M'.rho en))).length = sig.parameters.length := fun sig q => by rw [List.length_map]; exact v3 sig q
  rw [v8] at v5
  obtain ⟨v, _, ⟨T1, L1, k1, n1⟩, -, X1, ⟨Lc, hQ, l1, y1, z1⟩, st⟩ := X.specialBack hx (y := nmOf md') v7 hown (mvT hZ wl) (mvT hZ v4) (mvT hZ v5) v2 bk (g := mkF m pc r ((as.map (rv (M'.rho en))).reverse ++ .ref (M'.rho en 0) :: rest)) rfl (hr.trans hml.symm) (Steps.refl _) (a := M'.rho en 0) (argsL := as.map (rv (M'.rho en))) (rest := rest) hlen rfl (by show 2 * 0 + _ ≤ _; omega) (hb hby hd) (fun _ _ => ⟨rfl, rfl, f5, f6⟩)
  dsimp only [Pt.U, Pt.locs, Pt.cells, Pt.slots] at X1 l1 y1 z1 st hQ
  subst l1 y1 z1
  obtain ⟨w1, q1, q2, q3, q4, q5, q6⟩ := hQ
  exact ⟨v, T1, Lc, w1, X1, q1, q2, q3, q4, q5, q6, fun t q => st.trans q⟩
theorem coreS (X : Stand p l e (rmOf md) s m args below meth c T locs cu su) (K : Kn Z own md p s m meth c) (hd : decode (byOf md) pc = .ok (.invokestatic idx, 3)) (wl : (Cond.methodLink own idx (nmOf md')).before a0 Z = true) (cv : CalS Z a0 md' as.length) (hcal : Wk l Z M' md' 0 L' [] w 0 0 Q') (ho : M'.own = (nmOf md').cls) (hR : M'.rel en w T.heap)
    (hL : (argsToLocals as.toArray (mxOf md')).toList = L') (hw : wfL L' = true) (ft : Fits md md' wt cu su cu' su') (hr : r.size = mxOf md) (hrest : (rest.map fun v => v.category).sum ≤ wt) :
    ∃ v T1 Lc w1, Stand p l e (rmOf md) s m args below meth c T1 (locs ++ Lc) cu' su' ∧ Q' v w1 ∧ M'.rel en w1 T1.heap ∧ M'.frm en T.heap T1.heap ∧ Fr (M'.lo en) Lc ∧ T1.heap.size = T.heap.size + exOf md' ∧ (∀ ρ x, v = some x → rv ρ x = x) ∧
      ∀ t, Steps p.tables e below (T1.setTop (mkF m (pc + 3) r (v.toList ++ rest))) t → Steps p.tables e below (T.setTop (mkF m pc r ((as.map (rv (M'.rho en))).reverse ++ rest))) t := by
  obtain ⟨v1, v2, v3, v4, v5, v6⟩ := cv
  obtain ⟨f1, f2, f3, f4, f5, f6, f7⟩ := ft
  subst f3 f4
  obtain ⟨hx, hZ, hown, -, -, -, hby, hml⟩ := K
  have bk := backOf (s := s) (args := args) (p := p) (e := e) (below := below) (len := 3) (W := wt) (R := rmOf md) (Q := fun v hh Lc => ∃ w', Q' v w' ∧ M'.rel en w' hh ∧ M'.frm en T.heap hh ∧ Fr (M'.lo en) Lc ∧ hh.size = T.heap.size + exOf md' ∧ ∀ ρ x, v = some x → rv ρ x = x) (hcal.met v1 ho hR as hL hw []) hZ v5 v6 f1 f2
  have hlen : ∀ sig, parseMethodDescriptor (nmOf md').desc = some sig → (as.map (rv (M'.rho en))).length = sig.parameters.length := fun sig q => by rw [List.length_map]; exact v3 sig q
  obtain ⟨v, _, ⟨T1, L1, k1, n1⟩, -, X1, ⟨Lc, hQ, l1, y1, z1⟩, st⟩ := Jvm.LawKit.callS X hx (y := nmOf md') hown (mvT hZ wl) (mvT hZ v4) (mvT hZ v6) (mvT hZ v5) v2 bk (g := mkF m pc r ((as.map (rv (M'.rho en))).reverse ++ rest)) rfl (hr.trans hml.symm) (argsL := as.map (rv (M'.rho en))) (rest := rest) hlen rfl (by show 2 * 0 + _ ≤ _; omega) (hb hby hd) (fun _ _ => ⟨rfl, rfl, f5, f6⟩)
  dsimp only [Pt.U, Pt.locs, Pt.cells, Pt.slots] at X1 l1 y1 z1 st hQ
  subst l1 y1 z1
  obtain ⟨w1, q1, q2, q3, q4, q5, q6⟩ := hQ
  exact ⟨v, T1, Lc, w1, X1, q1, q2, q3, q4, q5, q6, fun t q => st t q⟩
end Core
theorem cat_map (ρ : Nat → Addr) (S : List Value) : ((S.map (rv ρ)).map fun v => v.category).sum = (S.map fun v => v.category).sum := by
  rw [List.map_map]; congr 1; exact List.map_congr_left fun v _ => rv_cat _ v
theorem res_map {ρ : Nat → Addr} {v : Option Value} (h : ∀ ρ x, v = some x → rv ρ x = x) (S : List Value) : (v.toList ++ S).map (rv ρ) = v.toList ++ S.map (rv ρ) := by
  cases v with
  | none => rfl
  | some x => simp [h ρ x rfl]
section CallsC
variable {l : Launch} {Z : State} {a0 : Array Value} {cd : CD} {md md' : MD} {pc pc' wt idx : Nat} {L L' : List Slot} {S stk as : List Value} {w : WO} {cu su cu' su' : Nat} {Q Q' : Option Value → WO → Prop}
/-- a method of the same object -/
theorem Wk.callC (as : List Value) (S : List Value) (hs : stk = as.reverse ++ .ref 0 :: S) (wl : (Cond.methodLink cd.1 idx (nmOf md')).before a0 Z = true) (cv : CalV Z a0 md' as.length) (hc : (nmOf md').cls = cd.1) (nr : noRef as = true) (hcal : Wk l Z (MoC Z cd) md' 0 L' [] w 0 0 Q') (hL' : (argsToLocals (.ref 0 :: as).toArray (mxOf md')).toList = L') (hw : wfL L' = true) (hl : L.length = mxOf md)
    (hwt : (S.map fun v => v.category).sum = wt) (ft : Fits md md' wt cu su cu' su') (hd : InsA md pc (.invokevirtual idx) 3 pc') (h : ∀ v w', Q' v w' → Wk l Z (MoC Z cd) md pc' L (v.toList ++ S) w' cu' su' Q) : Wk l Z (MoC Z cd) md pc L stk w cu su Q :=
  fun en p e s m args below meth c T locs r X K hz hF hR hL => by
  obtain ⟨hd, rfl⟩ := hd
  subst hs
  obtain ⟨v, T1, Lc, w1, X1, q1, q2, q3, q4, q5, q6, st⟩ := coreV (M' := MoC Z cd) (en := en) (r := r) (rest := S.map (rv ((MoC Z cd).rho en))) X K hd wl cv hcal hc.symm hR (by rw [hc]; exact hR.2.1) rfl hL' hw ft (hL.1.trans hl) (by rw [cat_map]; omega)
  have f7 := ft.2.2.1
  have f8 := ft.2.2.2.2.2.2
  have em : (as.reverse ++ .ref 0 :: S).map (rv ((MoC Z cd).rho en)) = (as.map (rv ((MoC Z cd).rho en))).reverse ++ .ref ((MoC Z cd).rho en 0) :: S.map (rv ((MoC Z cd).rho en)) := by rw [List.map_append, List.map_reverse]; rfl
  have D := h v w1 q1 en p e s m args below meth c T1 _ r X1 K (by omega) (hF.app q4) q2 hL
  rw [res_map q6] at D
  rw [em]
  exact D.pre (fun _ q => frmC.trans q3 q) st
end CallsC
section CallsS
variable {μ E : Type} {l : Launch} {Z : State} {a0 : Array Value} {M : Mode μ E} {md md' : MD} {pc pc' wt idx : Nat} {L L' : List Slot} {S stk as : List Value} {w : μ} {cu su cu' su' : Nat} {Q Q' : Option Value → μ → Prop}
/-- a static method, in the same mode -/
theorem Wk.callS (hM : ∀ en h1 h2 h3, M.frm en h1 h2 → M.frm en h2 h3 → M.frm en h1 h3) (as : List Value) (S : List Value) (hs : stk = as.reverse ++ S) (wl : (Cond.methodLink M.own idx (nmOf md')).before a0 Z = true) (cv : CalS Z a0 md' as.length) (hc : (nmOf md').cls = M.own) (hcal : Wk l Z M md' 0 L' [] w 0 0 Q') (hL' : (argsToLocals as.toArray (mxOf md')).toList = L') (hw : wfL L' = true) (hl : L.length = mxOf md)
    (hwt : (S.map fun v => v.category).sum = wt) (ft : Fits md md' wt cu su cu' su') (hd : InsA md pc (.invokestatic idx) 3 pc') (h : ∀ v w', Q' v w' → Wk l Z M md pc' L (v.toList ++ S) w' cu' su' Q) : Wk l Z M md pc L stk w cu su Q :=
  fun en p e s m args below meth c T locs r X K hz hF hR hL => by
  obtain ⟨hd, rfl⟩ := hd
  subst hs
  obtain ⟨v, T1, Lc, w1, X1, q1, q2, q3, q4, q5, q6, st⟩ := coreS (M' := M) (en := en) (r := r) (rest := S.map (rv (M.rho en))) X K hd wl cv hcal hc.symm hR hL' hw ft (hL.1.trans hl) (by rw [cat_map]; omega)
  have f7 := ft.2.2.1
  have f8 := ft.2.2.2.2.2.2
  have em : (as.reverse ++ S).map (rv (M.rho en)) = (as.map (rv (M.rho en))).reverse ++ S.map (rv (M.rho en)) := by rw [List.map_append, List.map_reverse]
  have D := h v w1 q1 en p e s m args below meth c T1 _ r X1 K (by omega) (hF.app q4) q2 hL
  rw [res_map q6] at D
  rw [em]
  exact D.pre (fun _ q => hM _ _ _ _ q3 q) st
end CallsS
/-! ## 5. The law's own level: a script of ints (or none) and some objects, made one behind the other -/
abbrev WL : Type := Int32 × (Int32 → Int32) × List WO
def w0 : WO := (0, fun _ => 0, fun _ => 0, fun _ _ => 0, fun _ _ => 0)
def rhoL (cd : CD) (en : Nat × Nat) : Nat → Addr
  | 0 => en.2
  | i + 1 => en.1 + i * (cd.2.2.2.length + 1)
def relL (Z : State) (cd : CD) (sc : Bool) (en : Nat × Nat) (w : WL) (h : Heap) : Prop :=
  (sc = true → en.2 < en.1 ∧ ¬ w.1 < 0 ∧ AtA Z h en.2 .int w.1 w.2.1 (fun _ => 0)) ∧ (∀ i x, w.2.2[i]? = some x → relC Z cd (en.1 + i * (cd.2.2.2.length + 1), en.1) x h) ∧ h.size = en.1 + (w.2.2.map fun x => x.1 + 1).sum
abbrev MoL (Z : State) (cd : CD) (own : String) (sc : Bool) : Mode WL (Nat × Nat) := (own, rhoL cd, fun en => en.1, relL Z cd sc, fun _ _ _ => True)
def allK (n : Nat) : List WO → Prop
  | [] => True
  | x :: t => x.1 = n ∧ allK n t
theorem allK.get {n : Nat} : (ws : List WO) → allK n ws → ∀ (i : Nat) (x : WO), ws[i]? = some x → x.1 = n
  | [], _, i, x, h => by simp at h
  | y :: t, h, i, x, e => by
    cases i with
    | zero => simp at e; rw [← e]; exact h.1
    | succ i => exact allK.get t h.2 i x (by simpa using e)
theorem allK.sum {n : Nat} : {ws : List WO} → allK n ws → (ws.map fun x => x.1 + 1).sum = ws.length * (n + 1)
  | [], _ => by simp
  | y :: t, h => by rw [List.map_cons, List.sum_cons, allK.sum (ws := t) h.2, h.1, List.length_cons, Nat.add_mul]; omega
theorem sum_set : (ws : List WO) → (i : Nat) → (x y : WO) → ws[i]? = some x → ((ws.set i y).map fun x => x.1 + 1).sum + x.1 = (ws.map fun x => x.1 + 1).sum + y.1
  | [], i, x, y, h => by simp at h
  | z :: t, 0, x, y, h => by simp at h; subst h; simp; omega
  | z :: t, i + 1, x, y, h => by have := sum_set t i x y (by simpa using h); simp only [List.set_cons_succ, List.map_cons, List.sum_cons]; omega
section Keep
variable {Z : State} {cd : CD} {en : Nat × Nat} {h h' : Heap} {w : WO}
theorem Fld.cells {a : Addr} {C n d : String} {v : Value} (H : Fld Z h a C n d v) (q : ∀ c, h[a]? = some c → h'[a]? = some c) : Fld Z h' a C n d v := by
  obtain ⟨cell, cf, k, i, f, h1, r⟩ := H; exact ⟨cell, cf, k, i, f, q _ h1, r⟩
theorem Exa.cells {a : Addr} {C : String} (H : Exa Z h a C) (q : ∀ c, h[a]? = some c → h'[a]? = some c) : Exa Z h' a C := by
  obtain ⟨cell, k, h1, r⟩ := H; exact ⟨cell, k, q _ h1, r⟩
theorem AtA.cells {b : Addr} {ty : FieldType} {n : Int32} {f : Int32 → Int32} {g : Int32 → Int64} (H : AtA Z h b ty n f g) (q : ∀ c, h[b]? = some c → h'[b]? = some c) : AtA Z h' b ty n f g := by
  obtain ⟨cl, h1, r⟩ := H; exact ⟨cl, ⟨q _ h1.1, h1.2⟩, r⟩
theorem relC.cells (okA : ∀ t ∈ cd.2.2.2, t.1 < cd.2.2.2.length) (hR : relC Z cd en w h) (hk : w.1 = cd.2.2.2.length) (q : ∀ x c, en.1 ≤ x → x ≤ en.1 + cd.2.2.2.length → h[x]? = some c → h'[x]? = some c) : relC Z cd en w h' := by
  obtain ⟨r1, r2, r3, r4, r5, r6⟩ := hR
  have q0 := fun c => q en.1 c (Nat.le_refl _) (Nat.le_add_right _ _)
  refine ⟨r1, Exa.cells r2 q0, fun t m => Fld.cells (r3 t m) q0, fun t m => Fld.cells (r4 t m) q0, fun t m => ⟨fun k => ⟨Fld.cells ((r5 t m).1 k).1 q0, AtA.cells ((r5 t m).1 k).2 fun c => q _ c (Nat.le_add_right _ _) (by have := okA t m; omega)⟩, fun k => Fld.cells ((r5 t m).2 k) q0⟩, fun k => absurd k (by omega)⟩
end Keep
theorem apart {N i j n x : Nat} (hne : j ≠ i) (h1 : n + j * (N + 1) ≤ x) (h2 : x ≤ n + j * (N + 1) + N) : x < n + i * (N + 1) ∨ n + i * (N + 1) + N < x := by
  rcases Nat.lt_or_gt_of_ne hne with q | q
  · left
    have := Nat.mul_le_mul_right (N + 1) (show j + 1 ≤ i from q)
    rw [Nat.add_mul] at this
    omega
  · right
    have := Nat.mul_le_mul_right (N + 1) (show i + 1 ≤ j from q)
    rw [Nat.add_mul] at this
    omega
/-- one object's walk, seen from the law's level -/
theorem relL.step {Z : State} {cd : CD} {sc : Bool} {en : Nat × Nat} {sl : Int32} {sv : Int32 → Int32} {ws : List WO} {h h' : Heap} {i : Nat} {x y : WO} (okA : ∀ t ∈ cd.2.2.2, t.1 < cd.2.2.2.length) (hR : relL Z cd sc en (sl, sv, ws) h) (hi : ws[i]? = some x) (hoth : ∀ j z, ws[j]? = some z → j ≠ i → z.1 = cd.2.2.2.length)
    (hy : relC Z cd (en.1 + i * (cd.2.2.2.length + 1), en.1) y h') (hf : frmC cd (en.1 + i * (cd.2.2.2.length + 1), en.1) h h') (hz : h'.size + x.1 = h.size + y.1) : relL Z cd sc en (sl, sv, ws.set i y) h' := by
  obtain ⟨r1, r2, r3⟩ := hR
  refine ⟨fun q => ?_, fun j z hj => ?_, ?_⟩
  · obtain ⟨a1, a2, a3⟩ := r1 q
    refine ⟨a1, a2, AtA.cells a3 fun c hc => hf.2 _ c hc (Or.inl ?_)⟩
    show en.2 < en.1 + i * (cd.2.2.2.length + 1)
    omega
  · have hj' : (ws.set i y)[j]? = some z := hj
    rw [List.getElem?_set] at hj'
    by_cases e : i = j
    · subst e
      have : i < ws.length := (List.getElem?_eq_some_iff.mp hi).1
      simp [this] at hj'
      subst hj'
      exact hy
    · rw [if_neg e] at hj'
      exact relC.cells okA (r2 j z hj') (hoth j z hj' (Ne.symm e)) fun a c h1 h2 hc => hf.2 a c hc (apart (Ne.symm e) h1 h2)
  · have s1 := sum_set ws i x y hi
    have s2 : h.size = en.1 + (ws.map fun x => x.1 + 1).sum := r3
    show h'.size = en.1 + ((ws.set i y).map fun x => x.1 + 1).sum
    omega
section StepsL
variable {l : Launch} {Z : State} {a0 : Array Value} {cd : CD} {own : String} {sc : Bool} {md md' : MD} {pc pc' wt idx : Nat} {L L' : List Slot} {S stk as : List Value} {sl : Int32} {sv : Int32 → Int32} {ws ws' : List WO} {cu su cu' su' : Nat} {Q : Option Value → WL → Prop} {Q' : Option Value → WO → Prop}
theorem Wk.lenL (hd : InsA md pc .arraylength 1 pc') (h : Wk l Z (MoL Z cd own true) md pc' L (.int sl :: S) (sl, sv, ws) cu su Q) : Wk l Z (MoL Z cd own true) md pc L (.ref 0 :: S) (sl, sv, ws) cu su Q :=
  fun en p e s m args below meth c T locs r X K hz hF hR hL => by
  obtain ⟨hd, rfl⟩ := hd
  obtain ⟨a1, a2, cl, g1, g2, g3⟩ := hR.1 rfl
  have e1 : cl.slots.size.toInt32 = sl := by rw [g2]; exact (back32 a2).1
  refine (h en p e s m args below meth c T locs r X K hz hF hR hL).pre (fun _ q => q) fun t q => X.arraylength K.1 g1.1 (State.isArrayOf_alike K.2.1.alike g1.2.1) (g := mkF m pc r (.ref en.2 :: S.map (rv (rhoL cd en)))) rfl rfl (hb K.by hd) _ (by rw [e1]; exact q)
theorem Wk.ialoadL {x : Int32} (h0 : ¬ x < 0) (h1 : x < sl) (hd : InsA md pc .iaload 1 pc') (h : Wk l Z (MoL Z cd own true) md pc' L (.int (sv x) :: S) (sl, sv, ws) cu su Q) : Wk l Z (MoL Z cd own true) md pc L (.int x :: .ref 0 :: S) (sl, sv, ws) cu su Q :=
  fun en p e s m args below meth c T locs r X K hz hF hR hL => by
  obtain ⟨hd, rfl⟩ := hd
  obtain ⟨a1, a2, cl, g1, g2, g3⟩ := hR.1 rfl
  exact (h en p e s m args below meth c T locs r X K hz hF hR hL).pre (fun _ q => q) fun t q => X.iaload K.1 (j := x) (v := .int (sv x)) g1.1 (State.isArrayOf_alike K.2.1.alike g1.2.1) g1.2.2 (in_of g2 h0 h1) (g3 x h0 h1) (g := mkF m pc r (.int x :: .ref en.2 :: S.map (rv (rhoL cd en)))) rfl rfl (hb K.by hd) _ q
theorem Wk.newL (ok : CO Z a0 cd) {kk i' : Nat} (wc : (Cond.classLink own idx cd.1).before a0 Z = true) (wi : (Cond.instantiable cd.1 kk).before a0 Z = true) (wz : (Cond.initialized cd.1).before a0 Z = true) (hd : InsA md pc (.new idx) 3 pc') (hall : allK cd.2.2.2.length ws) (hi : ws.length + 1 = i') (hws : ws ++ [w0] = ws') (hcu : cu + 1 = cu') (hsu : su + kk = su') (hc : cu' ≤ (rmOf md).cells) (hs : su' ≤ (rmOf md).slots)
    (h : Wk l Z (MoL Z cd own sc) md pc' L (.ref i' :: S) (sl, sv, ws') cu' su' Q) : Wk l Z (MoL Z cd own sc) md pc L S (sl, sv, ws) cu su Q :=
  fun en p e s m args below meth c T locs r X K hz hF hR hL => by
  obtain ⟨hd, rfl⟩ := hd
  subst hi hws hcu hsu
  obtain ⟨T1, h1, X1, e1, E1, A1, D1, -, st⟩ := newO X K.1 K.2.1 K.2.2.1 wc wi wz rfl (g := mkF m pc r (S.map (rv (rhoL cd en)))) rfl (hb K.by hd) hc hs
  subst e1
  obtain ⟨r1, r2, r3⟩ := hR
  have r3' : T.heap.size = en.1 + (ws.map fun x => x.1 + 1).sum := r3
  have sm := hall.sum
  have z1 := X1.heapSize
  have z2 : (T.heap.size : Nat) < T1.heap.size := A1.lt
  have ea : T.heap.size = en.1 + ws.length * (cd.2.2.2.length + 1) := by rw [r3', sm]
  have okp := ok.2.2.2.2
  obtain ⟨q1, q2, q3, q4, q5, q6, q7, q8⟩ := okp
  have rel1 : relL Z cd sc en (sl, sv, ws ++ [w0]) T1.heap := by
    refine ⟨fun q => ⟨(r1 q).1, (r1 q).2.1, (r1 q).2.2.ext E1⟩, fun j z hj => ?_, ?_⟩
    · have hj' : (ws ++ [w0])[j]? = some z := hj
      by_cases e : j < ws.length
      · rw [List.getElem?_append_left e] at hj'
        exact relC.cells (fun t m => (q8 t m).2.1) (r2 j z hj') (allK.get _ hall _ _ hj') fun a c _ _ hc => E1.2 a c hc
      · have e2 : j = ws.length := by
          have := (List.getElem?_eq_some_iff.mp hj').1
          simp at this; omega
        subst e2
        simp at hj'
        subst hj'
        rw [← ea]
        refine ⟨by show en.1 ≤ T.heap.size; omega, A1, fun t m => ?_, fun t m => ?_, fun t m => ⟨fun k => absurd k (Nat.not_lt_zero _), fun _ => ?_⟩, fun _ => by show T1.heap.size = T.heap.size + 1 + 0; omega⟩
        · rcases q7 t m with q | q
          · exact D1 (ok.2.1 t m) q
          · exact D1 (ok.2.1 t m) q
        · exact D1 (ok.2.2.1 t m) pJ
        · exact D1 (ok.2.2.2.1 t m) (q8 t m).1
    · show T1.heap.size = en.1 + ((ws ++ [w0]).map fun x => x.1 + 1).sum
      rw [List.map_append, List.sum_append]
      show T1.heap.size = en.1 + ((ws.map fun x => x.1 + 1).sum + 1)
      omega
  refine (h en p e s m args below meth c T1 locs r X1 K (by omega) hF rel1 hL).pre (fun _ _ => trivial) fun t q => st t ?_
  rw [ea]
  exact q
theorem Wk.callLC (ok : CO Z a0 cd) (as : List Value) (i : Nat) (S : List Value) {i' : Nat} {x : WO} (hi' : i + 1 = i') (hs : stk = as.reverse ++ .ref i' :: S) (hx : ws[i]? = some x) (hoth : allK cd.2.2.2.length (ws.eraseIdx i)) (wl : (Cond.methodLink own idx (nmOf md')).before a0 Z = true) (cv : CalV Z a0 md' as.length) (hc : (nmOf md').cls = cd.1) (nr : noRef as = true) (hcal : Wk l Z (MoC Z cd) md' 0 L' [] x 0 0 Q') (hL' : (argsToLocals (.ref 0 :: as).toArray (mxOf md')).toList = L') (hw : wfL L' = true) (hl : L.length = mxOf md)
    (hwt : (S.map fun v => v.category).sum = wt) (ft : Fits md md' wt cu su cu' su') (hd : InsA md pc (.invokevirtual idx) 3 pc') (hk : ∀ v y, Q' v y → y.1 = x.1 + exOf md') (h : ∀ v y, Q' v y → Wk l Z (MoL Z cd own sc) md pc' L (v.toList ++ S) (sl, sv, ws.set i y) cu' su' Q) : Wk l Z (MoL Z cd own sc) md pc L stk (sl, sv, ws) cu su Q :=
  fun en p e s m args below meth c T locs r X K hz hF hR hL => by
  obtain ⟨hd, rfl⟩ := hd
  subst hs hi'
  have rx := hR.2.1 i x hx
  obtain ⟨v, T1, Lc, w1, X1, p1, p2, p3, p4, p5, p6, st⟩ := coreV (M' := MoC Z cd) (en := (en.1 + i * (cd.2.2.2.length + 1), en.1)) (r := r) (rest := S.map (rv (rhoL cd en))) X K hd wl cv hcal hc.symm rx (by rw [hc]; exact rx.2.1) rfl hL' hw ft (hL.1.trans hl) (by rw [cat_map]; omega)
  have f7 := ft.2.2.1
  have f8 := ft.2.2.2.2.2.2
  have em : (as.reverse ++ .ref (i + 1) :: S).map (rv (rhoL cd en)) = (as.map (rv ((MoC Z cd).rho (en.1 + i * (cd.2.2.2.length + 1), en.1)))).reverse ++ .ref ((MoC Z cd).rho (en.1 + i * (cd.2.2.2.length + 1), en.1) 0) :: S.map (rv (rhoL cd en)) := by
    rw [List.map_append, List.map_reverse, noRef.map as nr, noRef.map as nr]; rfl
  have oth : ∀ j z, ws[j]? = some z → j ≠ i → z.1 = cd.2.2.2.length := by
    intro j z hj hne
    by_cases e : j < i
    · exact allK.get _ hoth j z (by rw [List.getElem?_eraseIdx]; simp [e, hj])
    · refine allK.get _ hoth (j - 1) z ?_
      rw [List.getElem?_eraseIdx, if_neg (by omega), show j - 1 + 1 = j by omega]; exact hj
  have hkk := hk v w1 p1
  have okA : ∀ t ∈ cd.2.2.2, t.1 < cd.2.2.2.length := fun t m => (ok.2.2.2.2.2.2.2.2.2.2.2 t m).2.1
  have D := h v w1 p1 en p e s m args below meth c T1 _ r X1 K (by omega) (hF.app p4) (relL.step okA hR hx oth p2 p3 (by omega)) hL
  rw [res_map p6] at D
  show Done _ _ _ _ _ _ _ _ _ _ _ _ _ _ (mkF m pc r ((as.reverse ++ .ref (i + 1) :: S).map (rv (rhoL cd en))))
  rw [em]
  exact D.pre (fun _ _ => trivial) st
theorem Wk.ctorL (ok : CO Z a0 cd) (as : List Value) (i : Nat) (S : List Value) {i' : Nat} {x : WO} (hi' : i + 1 = i') (hs : stk = as.reverse ++ .ref i' :: S) (hx : ws[i]? = some x) (hoth : allK cd.2.2.2.length (ws.eraseIdx i)) (wl : (Cond.methodLink own idx (nmOf md')).before a0 Z = true) (cv : CalI Z a0 md' as.length) (hc : (nmOf md').cls = cd.1) (nr : noRef as = true) (hcal : Wk l Z (MoC Z cd) md' 0 L' [] x 0 0 Q') (hL' : (argsToLocals (.ref 0 :: as).toArray (mxOf md')).toList = L') (hw : wfL L' = true) (hl : L.length = mxOf md)
    (hwt : (S.map fun v => v.category).sum = wt) (ft : Fits md md' wt cu su cu' su') (hd : InsA md pc (.invokespecial idx) 3 pc') (hk : ∀ v y, Q' v y → y.1 = x.1 + exOf md') (h : ∀ v y, Q' v y → Wk l Z (MoL Z cd own sc) md pc' L (v.toList ++ S) (sl, sv, ws.set i y) cu' su' Q) : Wk l Z (MoL Z cd own sc) md pc L stk (sl, sv, ws) cu su Q :=
  fun en p e s m args below meth c T locs r X K hz hF hR hL => by
  obtain ⟨hd, rfl⟩ := hd
  subst hs hi'
  have rx := hR.2.1 i x hx
  obtain ⟨v, T1, Lc, w1, X1, p1, p2, p3, p4, p5, p6, st⟩ := coreI (M' := MoC Z cd) (en := (en.1 + i * (cd.2.2.2.length + 1), en.1)) (r := r) (rest := S.map (rv (rhoL cd en))) X K hd wl cv hcal hc.symm rx rfl hL' hw ft (hL.1.trans hl) (by rw [cat_map]; omega)
  have f7 := ft.2.2.1
  have f8 := ft.2.2.2.2.2.2
  have em : (as.reverse ++ .ref (i + 1) :: S).map (rv (rhoL cd en)) = (as.map (rv ((MoC Z cd).rho (en.1 + i * (cd.2.2.2.length + 1), en.1)))).reverse ++ .ref ((MoC Z cd).rho (en.1 + i * (cd.2.2.2.length + 1), en.1) 0) :: S.map (rv (rhoL cd en)) := by
    rw [List.map_append, List.map_reverse, noRef.map as nr, noRef.map as nr]; rfl
  have oth : ∀ j z, ws[j]? = some z → j ≠ i → z.1 = cd.2.2.2.length := by
    intro j z hj hne
    by_cases e : j < i
    · exact allK.get _ hoth j z (by rw [List.getElem?_eraseIdx]; simp [e, hj])
    · refine allK.get _ hoth (j - 1) z ?_
      rw [List.getElem?_eraseIdx, if_neg (by omega), show j - 1 + 1 = j by omega]; exact hj
  have hkk := hk v w1 p1
  have okA : ∀ t ∈ cd.2.2.2, t.1 < cd.2.2.2.length := fun t m => (ok.2.2.2.2.2.2.2.2.2.2.2 t m).2.1
  have D := h v w1 p1 en p e s m args below meth c T1 _ r X1 K (by omega) (hF.app p4) (relL.step okA hR hx oth p2 p3 (by omega)) hL
  rw [res_map p6] at D
  show Done _ _ _ _ _ _ _ _ _ _ _ _ _ _ (mkF m pc r ((as.reverse ++ .ref (i + 1) :: S).map (rv (rhoL cd en))))
  rw [em]
  exact D.pre (fun _ _ => trivial) st
end StepsL
end Jvm.Own

namespace Jvm.Own
open Jvm Jvm.ClassFile Sem Op Lib Jvm.Free Jvm.Stand Jvm.LawKit Jvm.RoadKit
/-- the class's list of fields, looked at -/
def okB (cd : CD) : Bool :=
  cd.2.1.all (fun (t : Nat × String × String) => cd.2.1.all fun t' => if t.1 = t'.1 then decide (t = t') else t.2.1 != t'.2.1) && cd.2.2.1.all (fun (t : Nat × String) => cd.2.2.1.all fun t' => if t.1 = t'.1 then decide (t = t') else t.2 != t'.2) && cd.2.2.2.all (fun (t : Nat × String × String × FieldType × Int32) => cd.2.2.2.all fun t' => if t.1 = t'.1 then decide (t = t') else t.2.1 != t'.2.1) &&
  cd.2.1.all (fun (t : Nat × String × String) => cd.2.2.1.all fun (t' : Nat × String) => t.2.1 != t'.2) && cd.2.1.all (fun (t : Nat × String × String) => cd.2.2.2.all fun (t' : Nat × String × String × FieldType × Int32) => t.2.1 != t'.2.1) && cd.2.2.1.all (fun (t : Nat × String) => cd.2.2.2.all fun (t' : Nat × String × String × FieldType × Int32) => t.2 != t'.2.1) &&
  cd.2.1.all (fun (t : Nat × String × String) => decide (parseFieldDescriptor t.2.2 = some .int) || decide (parseFieldDescriptor t.2.2 = some .boolean)) &&
  cd.2.2.2.all (fun (t : Nat × String × String × FieldType × Int32) => decide (parseFieldDescriptor t.2.2.1 = some (.array t.2.2.2.1)) && decide (t.1 < cd.2.2.2.length) && (decide (t.2.2.2.1 = .int) || decide (t.2.2.2.1 = .boolean) || decide (t.2.2.2.1 = .long)) && !decide (t.2.2.2.2 < 0))
theorem pair_of {α : Type} {L : List α} {f : α → Nat} {g : α → String} [DecidableEq α] (h : L.all (fun t => L.all fun t' => if f t = f t' then decide (t = t') else g t != g t') = true) : ∀ t ∈ L, ∀ t' ∈ L, (f t = f t' → t = t') ∧ (f t ≠ f t' → g t ≠ g t') := by
  intro t m t' m'
  have q := List.all_eq_true.mp (List.all_eq_true.mp h t m) t' m'
  constructor
  · intro e; rw [if_pos e] at q; exact of_decide_eq_true q
  · intro e; rw [if_neg e] at q; simpa using q
theorem apart_of {α β : Type} {L : List α} {L' : List β} {g : α → String} {g' : β → String} (h : L.all (fun t => L'.all fun t' => g t != g' t') = true) : ∀ t ∈ L, ∀ t' ∈ L', g t ≠ g' t' := by
  intro t m t' m'
  have q := List.all_eq_true.mp (List.all_eq_true.mp h t m) t' m'
  simpa using q
theorem okC.of {cd : CD} (h : okB cd = true) : okC cd := by
  unfold okB at h
  simp only [Bool.and_eq_true] at h
  obtain ⟨⟨⟨⟨⟨⟨⟨h1, h2⟩, h3⟩, h4⟩, h5⟩, h6⟩, h7⟩, h8⟩ := h
  refine ⟨pair_of (L := cd.2.1) (f := fun (t : Nat × String × String) => t.1) (g := fun (t : Nat × String × String) => t.2.1) h1, pair_of (L := cd.2.2.1) (f := fun (t : Nat × String) => t.1) (g := fun (t : Nat × String) => t.2) h2, pair_of (L := cd.2.2.2) (f := fun (t : Nat × String × String × FieldType × Int32) => t.1) (g := fun (t : Nat × String × String × FieldType × Int32) => t.2.1) h3, apart_of (L := cd.2.1) (L' := cd.2.2.1) (g := fun (t : Nat × String × String) => t.2.1) (g' := fun (t : Nat × String) => t.2) h4, apart_of (L := cd.2.1) (L' := cd.2.2.2) (g := fun (t : Nat × String × String) => t.2.1) (g' := fun (t : Nat × String × String × FieldType × Int32) => t.2.1) h5, apart_of (L := cd.2.2.1) (L' := cd.2.2.2) (g := fun (t : Nat × String) => t.2) (g' := fun (t : Nat × String × String × FieldType × Int32) => t.2.1) h6, fun t m => ?_, fun t m => ?_⟩
  · have q := List.all_eq_true.mp h7 t m
    simpa using q
  · have q := List.all_eq_true.mp h8 t m
    simp only [Bool.and_eq_true, Bool.or_eq_true, decide_eq_true_eq, Bool.not_eq_true', decide_eq_false_iff_not] at q
    exact ⟨q.1.1.1, q.1.1.2, by rcases q.1.2 with (a | a) | a <;> simp [a], q.2⟩
theorem nar1 : nar .boolean 1 = 1 := by decide
theorem nar0 : nar .boolean 0 = 0 := by decide
theorem nar_nar (x : Int32) : nar .boolean (nar .boolean x) = nar .boolean x := by
  show (x &&& 1) &&& 1 = x &&& 1
  rw [Int32.and_assoc]; rfl
theorem ne_toInt {x n : Int32} (q : ¬ x = n) : x.toInt ≠ n.toInt := fun h => q (Int32.toInt_inj.mp h)
/-! ## 6. The same calls where the callee's answer is known as a term -/
section FunC
variable {l : Launch} {Z : State} {a0 : Array Value} {cd : CD} {md md' : MD} {pc pc' wt idx : Nat} {L L' : List Slot} {S stk as : List Value} {w w1 : WO} {cu su cu' su' : Nat} {Q : Option Value → WO → Prop} {x : Value}
theorem Wk.callF (as : List Value) (S : List Value) (wl : (Cond.methodLink cd.1 idx (nmOf md')).before a0 Z = true) (cv : CalV Z a0 md' as.length) (hd : InsA md pc (.invokevirtual idx) 3 pc') (hcal : Wk l Z (MoC Z cd) md' 0 L' [] w 0 0 (fun v w' => v = some x ∧ w' = w1)) (ft : Fits md md' wt cu su cu' su') (hs : stk = as.reverse ++ .ref 0 :: S) (hc : (nmOf md').cls = cd.1) (nr : noRef as = true) (hL' : (argsToLocals (.ref 0 :: as).toArray (mxOf md')).toList = L') (hw : wfL L' = true) (hl : L.length = mxOf md)
    (hwt : (S.map fun v => v.category).sum = wt) (h : Wk l Z (MoC Z cd) md pc' L (x :: S) w1 cu' su' Q) : Wk l Z (MoC Z cd) md pc L stk w cu su Q :=
  Wk.callC as S hs wl cv hc nr hcal hL' hw hl hwt ft hd fun v w' q => by obtain ⟨rfl, rfl⟩ := q; exact h
theorem Wk.callU (as : List Value) (S : List Value) (wl : (Cond.methodLink cd.1 idx (nmOf md')).before a0 Z = true) (cv : CalV Z a0 md' as.length) (hd : InsA md pc (.invokevirtual idx) 3 pc') (hcal : Wk l Z (MoC Z cd) md' 0 L' [] w 0 0 (fun v w' => v = none ∧ w' = w1)) (ft : Fits md md' wt cu su cu' su') (hs : stk = as.reverse ++ .ref 0 :: S) (hc : (nmOf md').cls = cd.1) (nr : noRef as = true) (hL' : (argsToLocals (.ref 0 :: as).toArray (mxOf md')).toList = L') (hw : wfL L' = true) (hl : L.length = mxOf md)
    (hwt : (S.map fun v => v.category).sum = wt) (h : Wk l Z (MoC Z cd) md pc' L S w1 cu' su' Q) : Wk l Z (MoC Z cd) md pc L stk w cu su Q :=
  Wk.callC as S hs wl cv hc nr hcal hL' hw hl hwt ft hd fun v w' q => by obtain ⟨rfl, rfl⟩ := q; exact h
end FunC
section FunS
variable {μ E : Type} {l : Launch} {Z : State} {a0 : Array Value} {M : Mode μ E} {md md' : MD} {pc pc' wt idx : Nat} {L L' : List Slot} {S stk as : List Value} {w w1 : μ} {cu su cu' su' : Nat} {Q : Option Value → μ → Prop} {x : Value}
theorem Wk.callSF (hM : ∀ en h1 h2 h3, M.frm en h1 h2 → M.frm en h2 h3 → M.frm en h1 h3) (as : List Value) (S : List Value) (wl : (Cond.methodLink M.own idx (nmOf md')).before a0 Z = true) (cv : CalS Z a0 md' as.length) (hd : InsA md pc (.invokestatic idx) 3 pc') (hcal : Wk l Z M md' 0 L' [] w 0 0 (fun v w' => v = some x ∧ w' = w1)) (ft : Fits md md' wt cu su cu' su') (hs : stk = as.reverse ++ S) (hc : (nmOf md').cls = M.own) (hL' : (argsToLocals as.toArray (mxOf md')).toList = L') (hw : wfL L' = true) (hl : L.length = mxOf md)
    (hwt : (S.map fun v => v.category).sum = wt) (h : Wk l Z M md pc' L (x :: S) w1 cu' su' Q) : Wk l Z M md pc L stk w cu su Q :=
  Wk.callS hM as S hs wl cv hc hcal hL' hw hl hwt ft hd fun v w' q => by obtain ⟨rfl, rfl⟩ := q; exact h
theorem Wk.callSU (hM : ∀ en h1 h2 h3, M.frm en h1 h2 → M.frm en h2 h3 → M.frm en h1 h3) (as : List Value) (S : List Value) (wl : (Cond.methodLink M.own idx (nmOf md')).before a0 Z = true) (cv : CalS Z a0 md' as.length) (hd : InsA md pc (.invokestatic idx) 3 pc') (hcal : Wk l Z M md' 0 L' [] w 0 0 (fun v w' => v = none ∧ w' = w1)) (ft : Fits md md' wt cu su cu' su') (hs : stk = as.reverse ++ S) (hc : (nmOf md').cls = M.own) (hL' : (argsToLocals as.toArray (mxOf md')).toList = L') (hw : wfL L' = true) (hl : L.length = mxOf md)
    (hwt : (S.map fun v => v.category).sum = wt) (h : Wk l Z M md pc' L S w1 cu' su' Q) : Wk l Z M md pc L stk w cu su Q :=
  Wk.callS hM as S hs wl cv hc hcal hL' hw hl hwt ft hd fun v w' q => by obtain ⟨rfl, rfl⟩ := q; exact h
end FunS
section FunL
variable {l : Launch} {Z : State} {a0 : Array Value} {cd : CD} {own : String} {sc : Bool} {md md' : MD} {pc pc' wt idx : Nat} {L L' : List Slot} {S stk as : List Value} {sl : Int32} {sv : Int32 → Int32} {ws ws' : List WO} {cu su cu' su' : Nat} {Q : Option Value → WL → Prop} {v : Value} {y : WO}
theorem Wk.callLF (ok : CO Z a0 cd) (as : List Value) (i : Nat) (S : List Value) {i' : Nat} {x : WO} (wl : (Cond.methodLink own idx (nmOf md')).before a0 Z = true) (cv : CalV Z a0 md' as.length) (hd : InsA md pc (.invokevirtual idx) 3 pc') (hcal : Wk l Z (MoC Z cd) md' 0 L' [] x 0 0 (fun v' w' => v' = some v ∧ w' = y)) (ft : Fits md md' wt cu su cu' su') (hoth : allK cd.2.2.2.length (ws.eraseIdx i)) (hi' : i + 1 = i') (hs : stk = as.reverse ++ .ref i' :: S) (hx : ws[i]? = some x) (hc : (nmOf md').cls = cd.1) (nr : noRef as = true) (hL' : (argsToLocals (.ref 0 :: as).toArray (mxOf md')).toList = L') (hw : wfL L' = true) (hl : L.length = mxOf md)
    (hwt : (S.map fun v => v.category).sum = wt) (hk : y.1 = x.1 + exOf md') (hws : ws.set i y = ws') (h : Wk l Z (MoL Z cd own sc) md pc' L (v :: S) (sl, sv, ws') cu' su' Q) : Wk l Z (MoL Z cd own sc) md pc L stk (sl, sv, ws) cu su Q :=
  Wk.callLC ok as i S hi' hs hx hoth wl cv hc nr hcal hL' hw hl hwt ft hd (fun v' y' q => by obtain ⟨rfl, rfl⟩ := q; exact hk) fun v' y' q => by obtain ⟨rfl, rfl⟩ := q; subst hws; exact h
theorem Wk.callLU (ok : CO Z a0 cd) (as : List Value) (i : Nat) (S : List Value) {i' : Nat} {x : WO} (wl : (Cond.methodLink own idx (nmOf md')).before a0 Z = true) (cv : CalV Z a0 md' as.length) (hd : InsA md pc (.invokevirtual idx) 3 pc') (hcal : Wk l Z (MoC Z cd) md' 0 L' [] x 0 0 (fun v' w' => v' = none ∧ w' = y)) (ft : Fits md md' wt cu su cu' su') (hoth : allK cd.2.2.2.length (ws.eraseIdx i)) (hi' : i + 1 = i') (hs : stk = as.reverse ++ .ref i' :: S) (hx : ws[i]? = some x) (hc : (nmOf md').cls = cd.1) (nr : noRef as = true) (hL' : (argsToLocals (.ref 0 :: as).toArray (mxOf md')).toList = L') (hw : wfL L' = true) (hl : L.length = mxOf md)
    (hwt : (S.map fun v => v.category).sum = wt) (hk : y.1 = x.1 + exOf md') (hws : ws.set i y = ws') (h : Wk l Z (MoL Z cd own sc) md pc' L S (sl, sv, ws') cu' su' Q) : Wk l Z (MoL Z cd own sc) md pc L stk (sl, sv, ws) cu su Q :=
  Wk.callLC ok as i S hi' hs hx hoth wl cv hc nr hcal hL' hw hl hwt ft hd (fun v' y' q => by obtain ⟨rfl, rfl⟩ := q; exact hk) fun v' y' q => by obtain ⟨rfl, rfl⟩ := q; subst hws; exact h
theorem Wk.ctorLU (ok : CO Z a0 cd) (as : List Value) (i : Nat) (S : List Value) {i' : Nat} {x : WO} (wl : (Cond.methodLink own idx (nmOf md')).before a0 Z = true) (cv : CalI Z a0 md' as.length) (hd : InsA md pc (.invokespecial idx) 3 pc') (hcal : Wk l Z (MoC Z cd) md' 0 L' [] x 0 0 (fun v' w' => v' = none ∧ w' = y)) (ft : Fits md md' wt cu su cu' su') (hoth : allK cd.2.2.2.length (ws.eraseIdx i)) (hi' : i + 1 = i') (hs : stk = as.reverse ++ .ref i' :: S) (hx : ws[i]? = some x) (hc : (nmOf md').cls = cd.1) (nr : noRef as = true) (hL' : (argsToLocals (.ref 0 :: as).toArray (mxOf md')).toList = L') (hw : wfL L' = true) (hl : L.length = mxOf md)
    (hwt : (S.map fun v => v.category).sum = wt) (hk : y.1 = x.1 + exOf md') (hws : ws.set i y = ws') (h : Wk l Z (MoL Z cd own sc) md pc' L S (sl, sv, ws') cu' su' Q) : Wk l Z (MoL Z cd own sc) md pc L stk (sl, sv, ws) cu su Q :=
  Wk.ctorL ok as i S hi' hs hx hoth wl cv hc nr hcal hL' hw hl hwt ft hd (fun v' y' q => by obtain ⟨rfl, rfl⟩ := q; exact hk) fun v' y' q => by obtain ⟨rfl, rfl⟩ := q; subst hws; exact h
end FunL
end Jvm.Own

namespace Jvm.Own
open Jvm
/-! ## 7. Plain helpers -/
theorem lt_i {x y : Int32} : x < y ↔ x.toInt < y.toInt := Int32.lt_iff_toInt_lt
theorem add_toInt {x y : Int32} (h1 : -2147483648 ≤ x.toInt + y.toInt) (h2 : x.toInt + y.toInt < 2147483648) : (x + y).toInt = x.toInt + y.toInt := by
  rw [Int32.toInt_add]
  exact Int.bmod_eq_of_le (by omega) (by omega)
theorem sub_toInt {x y : Int32} (h1 : -2147483648 ≤ x.toInt - y.toInt) (h2 : x.toInt - y.toInt < 2147483648) : (x - y).toInt = x.toInt - y.toInt := by
  rw [Int32.toInt_sub]
  exact Int.bmod_eq_of_le (by omega) (by omega)
theorem succ_toInt {i n : Int32} (h : i < n) : (i + 1).toInt = i.toInt + 1 := by
  have h1 := lt_i.mp h
  have h2 := Int32.toInt_lt n
  have h3 := Int32.le_toInt i
  exact add_toInt (x := i) (y := 1) (by show -2147483648 ≤ i.toInt + 1; omega) (by show i.toInt + 1 < 2147483648; omega)
/-- a loop that counts up to n: backwards from its end -/
theorem loopUp {n : Int32} {P : Int32 → Prop} (hend : P n) (hstep : ∀ i, ¬ i < 0 → i < n → P (i + 1) → P i) : ∀ i, ¬ i < 0 → ¬ n < i → P i := by
  have key : ∀ (k : Nat) (i : Int32), ¬ i < 0 → ¬ n < i → (n.toInt - i.toInt).toNat = k → P i := by
    intro k
    induction k with
    | zero =>
      intro i h0 h1 hk
      have e : i = n := by
        rw [lt_i] at h1
        exact Int32.toInt_inj.mp (by omega)
      subst e; exact hend
    | succ k ih =>
      intro i h0 h1 hk
      rw [lt_i] at h1
      have hlt : i < n := lt_i.mpr (by omega)
      have hs := succ_toInt hlt
      have h0' : ¬ i.toInt < 0 := fun q => h0 (lt_i.mpr q)
      refine hstep i h0 hlt (ih (i + 1) ?_ ?_ ?_)
      · rw [lt_i, hs]; show ¬ i.toInt + 1 < 0; omega
      · rw [lt_i, hs]; omega
      · rw [hs]; omega
  exact fun i h0 h1 => key _ i h0 h1 rfl
/-- the first n places hold c -/
def fill {α : Type} (f : Int32 → α) (n : Int32) (c : α) : Int32 → α := fun x => if ¬ x < 0 ∧ x < n then c else f x
theorem fill_zero {α : Type} (f : Int32 → α) (c : α) : fill f 0 c = f := by
  funext x; exact if_neg fun q => q.1 q.2
theorem fill_succ {α : Type} (f : Int32 → α) (c : α) {i n : Int32} (h0 : ¬ i < 0) (h : i < n) : ups (fill f i c) i c = fill f (i + 1) c := by
  funext x
  have hs := succ_toInt h
  have h0' : ¬ i.toInt < 0 := fun q => h0 (lt_i.mpr q)
  unfold ups fill
  by_cases e : x = i
  · rw [if_pos e, if_pos]
    subst e
    exact ⟨h0, lt_i.mpr (by omega)⟩
  · rw [if_neg e]
    have e' : x.toInt ≠ i.toInt := fun q => e (Int32.toInt_inj.mp q)
    by_cases q : ¬ x < 0 ∧ x < i
    · rw [if_pos q, if_pos ⟨q.1, lt_i.mpr (by have := lt_i.mp q.2; omega)⟩]
    · rw [if_neg q, if_neg]
      rintro ⟨a, b⟩
      exact q ⟨a, lt_i.mpr (by have := lt_i.mp b; omega)⟩
theorem fill_in {α : Type} (f : Int32 → α) (c : α) {x n : Int32} (h0 : ¬ x < 0) (h : x < n) : fill f n c x = c := if_pos ⟨h0, h⟩
theorem ups_self {κ α : Type} [DecidableEq κ] (f : κ → α) (i : κ) : ups f i (f i) = f := by
  funext k; unfold ups; by_cases e : k = i
  · rw [if_pos e, e]
  · rw [if_neg e]
theorem ups_upd {κ α : Type} [DecidableEq κ] (f : κ → α) (i : κ) (x y : α) : ups (ups f i x) i y = ups f i y := by
  funext k; unfold ups; by_cases e : k = i
  · rw [if_pos e, if_pos e]
  · rw [if_neg e, if_neg e, if_neg e]
theorem ups_comm {κ α : Type} [DecidableEq κ] (f : κ → α) {i j : κ} (x y : α) (h : i ≠ j) : ups (ups f i x) j y = ups (ups f j y) i x := by
  funext k; unfold ups; by_cases e : k = i
  · have : k ≠ j := fun q => h (e.symm.trans q)
    rw [if_neg this, if_pos e, if_pos e]
  · by_cases e2 : k = j
    · rw [if_pos e2, if_neg e, if_pos e2]
    · rw [if_neg e2, if_neg e, if_neg e, if_neg e2]
end Jvm.Own

namespace Jvm.Own
open Jvm Jvm.Free
/-! ## 8. Bits -/
theorem toNat_toInt (x : Int32) : (x.toBitVec.toNat : Int) = x.toInt % 4294967296 := by
  have h1 : x.toInt = x.toBitVec.toInt := rfl
  rw [h1, BitVec.toInt_eq_toNat_bmod]
  have h2 := x.toBitVec.isLt
  have h3 := Int.bmod_emod (x := (x.toBitVec.toNat : Int)) (m := 2 ^ 32)
  have h4 : ((2 ^ 32 : Nat) : Int) = 4294967296 := rfl
  rw [h4] at h3
  rw [h3]; omega
theorem and_mask (x m : Int32) (k : Nat) (hk : k < 31) (hm : m.toBitVec.toNat = 2 ^ k - 1) : (x &&& m).toInt = x.toInt % ((2 ^ k : Nat) : Int) := by
  have h1 : (x &&& m).toInt = (x.toBitVec &&& m.toBitVec).toInt := rfl
  have h2 : (x.toBitVec &&& m.toBitVec).toNat = x.toBitVec.toNat % 2 ^ k := by rw [BitVec.toNat_and, hm, Nat.and_two_pow_sub_one_eq_mod]
  have h3 : (2 ^ k : Nat) ≤ 2 ^ 30 := Nat.pow_le_pow_right (by decide) (by omega)
  have h4 : x.toBitVec.toNat % 2 ^ k < 2 ^ k := Nat.mod_lt _ (Nat.two_pow_pos k)
  have h5 : (2 ^ k : Nat) ∣ 4294967296 := ⟨2 ^ (32 - k), by rw [← Nat.pow_add]; have : k + (32 - k) = 32 := by omega
                                                            rw [this]⟩
  rw [h1, BitVec.toInt_eq_toNat_of_lt (by rw [h2]; omega), h2, Int.natCast_emod, toNat_toInt]
  exact Int.emod_emod_of_dvd _ (Int.natCast_dvd_natCast.mpr h5)
theorem sar_toInt (x y : Int32) (k : Nat) (hy : y.toBitVec.smod 32#32 = BitVec.ofNat 32 k) (hk : k < 32) : (x >>> y).toInt = x.toInt / ((2 ^ k : Nat) : Int) := by
  have h1 : (x >>> y).toInt = (x.toBitVec.sshiftRight' (y.toBitVec.smod 32#32)).toInt := rfl
  rw [h1, hy, BitVec.sshiftRight_eq', BitVec.toInt_sshiftRight, BitVec.toNat_ofNat, Nat.mod_eq_of_lt (by omega), Int.shiftRight_eq_div_pow]
  rfl
theorem ushr_pos (x y : Int32) (k : Nat) (hy : (y &&& 31).toBitVec.toNat = k) (hx : ¬ x < 0) : (XT.ushr x y).toInt = x.toInt / ((2 ^ k : Nat) : Int) := by
  have hx' : 0 ≤ x.toInt := by rw [lt_i] at hx; have z : (0 : Int32).toInt = 0 := rfl; omega
  have h0 : (x.toBitVec.toNat : Int) = x.toInt := by rw [toNat_toInt]; have := Int32.toInt_lt x; omega
  have hy' : k < 32 := by
    rw [← hy]
    have : (y &&& 31).toBitVec.toNat = y.toBitVec.toNat % 2 ^ 5 := by
      show (y.toBitVec &&& 31#32).toNat = _
      rw [BitVec.toNat_and]; exact Nat.and_two_pow_sub_one_eq_mod _ 5
    omega
  have h1 : (XT.ushr x y).toBitVec = x.toBitVec >>> k := by
    show x.toBitVec >>> ((y &&& 31).toBitVec % 32#32) = _
    rw [BitVec.ushiftRight_eq', BitVec.toNat_umod, hy]
    show x.toBitVec >>> (k % 32) = _
    rw [Nat.mod_eq_of_lt hy']
  have h2 : (x.toBitVec >>> k).toNat = x.toBitVec.toNat / 2 ^ k := by rw [BitVec.toNat_ushiftRight, Nat.shiftRight_eq_div_pow]
  have h3 : (XT.ushr x y).toInt = (x.toBitVec >>> k).toInt := by rw [← h1]; rfl
  have h4 : x.toBitVec.toNat / 2 ^ k ≤ x.toBitVec.toNat := Nat.div_le_self _ _
  rw [h3, BitVec.toInt_eq_toNat_of_lt (by rw [h2]; have := Int32.toInt_lt x; omega), h2, Int.natCast_ediv, h0]
end Jvm.Own
namespace Jvm.Pilot.@@N@@
open Jvm Jvm.ClassFile Sem Op Lib Jvm.Free Jvm.Stand Jvm.LawKit Jvm.RoadKit Bundle Jvm.Own Jvm.Pilot.@@N@@.Jvm.D
def OK (Z : State) (a0 : Array Value) : Prop := ∀ d ∈ tables_1, d.before a0 Z = true
theorem OK.w {Z : State} {a0 : Array Value} (H : OK Z a0) (i : Nat) {d : Jvm.Cond} (h : tables_1[i]? = some d) : d.before a0 Z = true := H _ (List.mem_of_getElem? h)
abbrev cdC : CD := ("DominantShare", [(0, "userCount", "I"), (1, "freeCount", "I"), (2, "reserved", "I")], [(0, "seqCounter")], [(0, "capRes", "[I", .int, 3), (1, "usedRes", "[I", .int, 3), (2, "staged", "[I", .int, 3), (3, "userWeight", "[I", .int, 8), (4, "userCap", "[I", .int, 8), (5, "running", "[I", .int, 8), (6, "pendingCount", "[I", .int, 8), (7, "headSlot", "[I", .int, 8), (8, "domRes", "[I", .int, 8), (9, "alloc", "[I", .int, 24), (10, "slotState", "[I", .int, 32), (11, "slotUser", "[I", .int, 32), (12, "slotGang", "[I", .int, 32), (13, "slotDemand", "[I", .int, 96), (14, "slotSeq", "[J", .long, 32)])
theorem okcC : okC cdC := okC.of (by decide +kernel)
theorem mI_userCount : (0, "userCount", "I") ∈ cdC.2.1 := List.mem_of_getElem? (i := 0) rfl
theorem mI_freeCount : (1, "freeCount", "I") ∈ cdC.2.1 := List.mem_of_getElem? (i := 1) rfl
theorem mI_reserved : (2, "reserved", "I") ∈ cdC.2.1 := List.mem_of_getElem? (i := 2) rfl
theorem mJ_seqCounter : (0, "seqCounter") ∈ cdC.2.2.1 := List.mem_of_getElem? (i := 0) rfl
theorem mA_capRes : (0, "capRes", "[I", FieldType.int, (3 : Int32)) ∈ cdC.2.2.2 := List.mem_of_getElem? (i := 0) rfl
theorem mA_usedRes : (1, "usedRes", "[I", FieldType.int, (3 : Int32)) ∈ cdC.2.2.2 := List.mem_of_getElem? (i := 1) rfl
theorem mA_staged : (2, "staged", "[I", FieldType.int, (3 : Int32)) ∈ cdC.2.2.2 := List.mem_of_getElem? (i := 2) rfl
theorem mA_userWeight : (3, "userWeight", "[I", FieldType.int, (8 : Int32)) ∈ cdC.2.2.2 := List.mem_of_getElem? (i := 3) rfl
theorem mA_userCap : (4, "userCap", "[I", FieldType.int, (8 : Int32)) ∈ cdC.2.2.2 := List.mem_of_getElem? (i := 4) rfl
theorem mA_running : (5, "running", "[I", FieldType.int, (8 : Int32)) ∈ cdC.2.2.2 := List.mem_of_getElem? (i := 5) rfl
theorem mA_pendingCount : (6, "pendingCount", "[I", FieldType.int, (8 : Int32)) ∈ cdC.2.2.2 := List.mem_of_getElem? (i := 6) rfl
theorem mA_headSlot : (7, "headSlot", "[I", FieldType.int, (8 : Int32)) ∈ cdC.2.2.2 := List.mem_of_getElem? (i := 7) rfl
theorem mA_domRes : (8, "domRes", "[I", FieldType.int, (8 : Int32)) ∈ cdC.2.2.2 := List.mem_of_getElem? (i := 8) rfl
theorem mA_alloc : (9, "alloc", "[I", FieldType.int, (24 : Int32)) ∈ cdC.2.2.2 := List.mem_of_getElem? (i := 9) rfl
theorem mA_slotState : (10, "slotState", "[I", FieldType.int, (32 : Int32)) ∈ cdC.2.2.2 := List.mem_of_getElem? (i := 10) rfl
theorem mA_slotUser : (11, "slotUser", "[I", FieldType.int, (32 : Int32)) ∈ cdC.2.2.2 := List.mem_of_getElem? (i := 11) rfl
theorem mA_slotGang : (12, "slotGang", "[I", FieldType.int, (32 : Int32)) ∈ cdC.2.2.2 := List.mem_of_getElem? (i := 12) rfl
theorem mA_slotDemand : (13, "slotDemand", "[I", FieldType.int, (96 : Int32)) ∈ cdC.2.2.2 := List.mem_of_getElem? (i := 13) rfl
theorem mA_slotSeq : (14, "slotSeq", "[J", FieldType.long, (32 : Int32)) ∈ cdC.2.2.2 := List.mem_of_getElem? (i := 14) rfl
theorem wf_capRes {Z : State} {a0 : Array Value} (H : OK Z a0) : (Cond.fieldLink "DominantShare" 7 "DominantShare" "capRes" "[I").before a0 Z = true := H.w 10 rfl
theorem wf_usedRes {Z : State} {a0 : Array Value} (H : OK Z a0) : (Cond.fieldLink "DominantShare" 13 "DominantShare" "usedRes" "[I").before a0 Z = true := H.w 12 rfl
theorem wf_staged {Z : State} {a0 : Array Value} (H : OK Z a0) : (Cond.fieldLink "DominantShare" 16 "DominantShare" "staged" "[I").before a0 Z = true := H.w 14 rfl
theorem wf_userWeight {Z : State} {a0 : Array Value} (H : OK Z a0) : (Cond.fieldLink "DominantShare" 19 "DominantShare" "userWeight" "[I").before a0 Z = true := H.w 16 rfl
theorem wf_userCap {Z : State} {a0 : Array Value} (H : OK Z a0) : (Cond.fieldLink "DominantShare" 22 "DominantShare" "userCap" "[I").before a0 Z = true := H.w 18 rfl
theorem wf_running {Z : State} {a0 : Array Value} (H : OK Z a0) : (Cond.fieldLink "DominantShare" 25 "DominantShare" "running" "[I").before a0 Z = true := H.w 20 rfl
theorem wf_pendingCount {Z : State} {a0 : Array Value} (H : OK Z a0) : (Cond.fieldLink "DominantShare" 28 "DominantShare" "pendingCount" "[I").before a0 Z = true := H.w 22 rfl
theorem wf_headSlot {Z : State} {a0 : Array Value} (H : OK Z a0) : (Cond.fieldLink "DominantShare" 31 "DominantShare" "headSlot" "[I").before a0 Z = true := H.w 24 rfl
theorem wf_domRes {Z : State} {a0 : Array Value} (H : OK Z a0) : (Cond.fieldLink "DominantShare" 34 "DominantShare" "domRes" "[I").before a0 Z = true := H.w 26 rfl
theorem wf_alloc {Z : State} {a0 : Array Value} (H : OK Z a0) : (Cond.fieldLink "DominantShare" 37 "DominantShare" "alloc" "[I").before a0 Z = true := H.w 28 rfl
theorem wf_slotState {Z : State} {a0 : Array Value} (H : OK Z a0) : (Cond.fieldLink "DominantShare" 40 "DominantShare" "slotState" "[I").before a0 Z = true := H.w 30 rfl
theorem wf_slotUser {Z : State} {a0 : Array Value} (H : OK Z a0) : (Cond.fieldLink "DominantShare" 43 "DominantShare" "slotUser" "[I").before a0 Z = true := H.w 32 rfl
theorem wf_slotGang {Z : State} {a0 : Array Value} (H : OK Z a0) : (Cond.fieldLink "DominantShare" 46 "DominantShare" "slotGang" "[I").before a0 Z = true := H.w 34 rfl
theorem wf_slotDemand {Z : State} {a0 : Array Value} (H : OK Z a0) : (Cond.fieldLink "DominantShare" 49 "DominantShare" "slotDemand" "[I").before a0 Z = true := H.w 36 rfl
theorem wf_slotSeq {Z : State} {a0 : Array Value} (H : OK Z a0) : (Cond.fieldLink "DominantShare" 52 "DominantShare" "slotSeq" "[J").before a0 Z = true := H.w 39 rfl
theorem wf_userCount {Z : State} {a0 : Array Value} (H : OK Z a0) : (Cond.fieldLink "DominantShare" 61 "DominantShare" "userCount" "I").before a0 Z = true := H.w 46 rfl
theorem wf_freeCount {Z : State} {a0 : Array Value} (H : OK Z a0) : (Cond.fieldLink "DominantShare" 72 "DominantShare" "freeCount" "I").before a0 Z = true := H.w 60 rfl
theorem wf_seqCounter {Z : State} {a0 : Array Value} (H : OK Z a0) : (Cond.fieldLink "DominantShare" 75 "DominantShare" "seqCounter" "J").before a0 Z = true := H.w 62 rfl
theorem wf_reserved {Z : State} {a0 : Array Value} (H : OK Z a0) : (Cond.fieldLink "DominantShare" 79 "DominantShare" "reserved" "I").before a0 Z = true := H.w 64 rfl
theorem wy_capRes {Z : State} {a0 : Array Value} (H : OK Z a0) : (Cond.laysFinal "DominantShare" "DominantShare" "capRes" "[I").before a0 Z = true := H.w 11 rfl
theorem wy_usedRes {Z : State} {a0 : Array Value} (H : OK Z a0) : (Cond.laysFinal "DominantShare" "DominantShare" "usedRes" "[I").before a0 Z = true := H.w 13 rfl
theorem wy_staged {Z : State} {a0 : Array Value} (H : OK Z a0) : (Cond.laysFinal "DominantShare" "DominantShare" "staged" "[I").before a0 Z = true := H.w 15 rfl
theorem wy_userWeight {Z : State} {a0 : Array Value} (H : OK Z a0) : (Cond.laysFinal "DominantShare" "DominantShare" "userWeight" "[I").before a0 Z = true := H.w 17 rfl
theorem wy_userCap {Z : State} {a0 : Array Value} (H : OK Z a0) : (Cond.laysFinal "DominantShare" "DominantShare" "userCap" "[I").before a0 Z = true := H.w 19 rfl
theorem wy_running {Z : State} {a0 : Array Value} (H : OK Z a0) : (Cond.laysFinal "DominantShare" "DominantShare" "running" "[I").before a0 Z = true := H.w 21 rfl
theorem wy_pendingCount {Z : State} {a0 : Array Value} (H : OK Z a0) : (Cond.laysFinal "DominantShare" "DominantShare" "pendingCount" "[I").before a0 Z = true := H.w 23 rfl
theorem wy_headSlot {Z : State} {a0 : Array Value} (H : OK Z a0) : (Cond.laysFinal "DominantShare" "DominantShare" "headSlot" "[I").before a0 Z = true := H.w 25 rfl
theorem wy_domRes {Z : State} {a0 : Array Value} (H : OK Z a0) : (Cond.laysFinal "DominantShare" "DominantShare" "domRes" "[I").before a0 Z = true := H.w 27 rfl
theorem wy_alloc {Z : State} {a0 : Array Value} (H : OK Z a0) : (Cond.laysFinal "DominantShare" "DominantShare" "alloc" "[I").before a0 Z = true := H.w 29 rfl
theorem wy_slotState {Z : State} {a0 : Array Value} (H : OK Z a0) : (Cond.laysFinal "DominantShare" "DominantShare" "slotState" "[I").before a0 Z = true := H.w 31 rfl
theorem wy_slotUser {Z : State} {a0 : Array Value} (H : OK Z a0) : (Cond.laysFinal "DominantShare" "DominantShare" "slotUser" "[I").before a0 Z = true := H.w 33 rfl
theorem wy_slotGang {Z : State} {a0 : Array Value} (H : OK Z a0) : (Cond.laysFinal "DominantShare" "DominantShare" "slotGang" "[I").before a0 Z = true := H.w 35 rfl
theorem wy_slotDemand {Z : State} {a0 : Array Value} (H : OK Z a0) : (Cond.laysFinal "DominantShare" "DominantShare" "slotDemand" "[I").before a0 Z = true := H.w 37 rfl
theorem wy_slotSeq {Z : State} {a0 : Array Value} (H : OK Z a0) : (Cond.laysFinal "DominantShare" "DominantShare" "slotSeq" "[J").before a0 Z = true := H.w 40 rfl
theorem wy_userCount {Z : State} {a0 : Array Value} (H : OK Z a0) : (Cond.lays "DominantShare" "DominantShare" "userCount" "I").before a0 Z = true := H.w 47 rfl
theorem wy_freeCount {Z : State} {a0 : Array Value} (H : OK Z a0) : (Cond.lays "DominantShare" "DominantShare" "freeCount" "I").before a0 Z = true := H.w 61 rfl
theorem wy_seqCounter {Z : State} {a0 : Array Value} (H : OK Z a0) : (Cond.lays "DominantShare" "DominantShare" "seqCounter" "J").before a0 Z = true := H.w 63 rfl
theorem wy_reserved {Z : State} {a0 : Array Value} (H : OK Z a0) : (Cond.lays "DominantShare" "DominantShare" "reserved" "I").before a0 Z = true := H.w 65 rfl
theorem wa_int {Z : State} {a0 : Array Value} (H : OK Z a0) : (Cond.arrayClass (newarray.typeOf .int)).before a0 Z = true := H.w 9 rfl
theorem wa_long {Z : State} {a0 : Array Value} (H : OK Z a0) : (Cond.arrayClass (newarray.typeOf .long)).before a0 Z = true := H.w 38 rfl
theorem wz_C {Z : State} {a0 : Array Value} (H : OK Z a0) : (Cond.initialized "DominantShare").before a0 Z = true := H.w 2 rfl
theorem coC {Z : State} {a0 : Array Value} (H : OK Z a0) : CO Z a0 cdC := by
  refine ⟨⟨19, H.w 1 rfl⟩, ?_, ?_, ?_, okcC⟩
  · intro t m; simp only [cdC, List.mem_cons, List.not_mem_nil, or_false] at m
    rcases m with rfl | rfl | rfl
    · exact Or.inl (wy_userCount H)
    · exact Or.inl (wy_freeCount H)
    · exact Or.inl (wy_reserved H)
  · intro t m; simp only [cdC, List.mem_cons, List.not_mem_nil, or_false] at m
    rcases m with rfl
    · exact Or.inl (wy_seqCounter H)
  · intro t m; simp only [cdC, List.mem_cons, List.not_mem_nil, or_false] at m
    rcases m with rfl | rfl | rfl | rfl | rfl | rfl | rfl | rfl | rfl | rfl | rfl | rfl | rfl | rfl | rfl
    · exact Or.inr (wy_capRes H)
    · exact Or.inr (wy_usedRes H)
    · exact Or.inr (wy_staged H)
    · exact Or.inr (wy_userWeight H)
    · exact Or.inr (wy_userCap H)
    · exact Or.inr (wy_running H)
    · exact Or.inr (wy_pendingCount H)
    · exact Or.inr (wy_headSlot H)
    · exact Or.inr (wy_domRes H)
    · exact Or.inr (wy_alloc H)
    · exact Or.inr (wy_slotState H)
    · exact Or.inr (wy_slotUser H)
    · exact Or.inr (wy_slotGang H)
    · exact Or.inr (wy_slotDemand H)
    · exact Or.inr (wy_slotSeq H)
theorem mrC {Z : State} (en : Nat × Nat) (h : Heap) : (MoC Z cdC).frm en h h := frmC.refl _ _ _
theorem mtC {Z : State} (en : Nat × Nat) (h1 h2 h3 : Heap) (a : (MoC Z cdC).frm en h1 h2) (b : (MoC Z cdC).frm en h2 h3) : (MoC Z cdC).frm en h1 h3 := frmC.trans a b
theorem mrL {Z : State} (en : Nat × Nat) (h : Heap) : (MoL Z cdC "DominantShareL1" false).frm en h h := trivial
theorem mtL {Z : State} (en : Nat × Nat) (h1 h2 h3 : Heap) (a : (MoL Z cdC "DominantShareL1" false).frm en h1 h2) (b : (MoL Z cdC "DominantShareL1" false).frm en h2 h3) : (MoL Z cdC "DominantShareL1" false).frm en h1 h3 := trivial
theorem pn_DominantShare : plainName "DominantShare" = true := by first | (simp [plainName, overriddenIn]; done) | decide +kernel
theorem pn_DominantShareL1 : plainName "DominantShareL1" = true := by first | (simp [plainName, overriddenIn]; done) | decide +kernel
theorem pd___I : ∀ sig, parseMethodDescriptor "()I" = some sig → 0 = sig.parameters.length := fun sig h => by
  have q : parseMethodDescriptor "()I" = some ⟨[], some .int⟩ := by decide +kernel
  cases q.symm.trans h; rfl
theorem pd___V : ∀ sig, parseMethodDescriptor "()V" = some sig → 0 = sig.parameters.length := fun sig h => by
  have q : parseMethodDescriptor "()V" = some ⟨[], none⟩ := by decide +kernel
  cases q.symm.trans h; rfl
theorem pd__I_I : ∀ sig, parseMethodDescriptor "(I)I" = some sig → 1 = sig.parameters.length := fun sig h => by
  have q : parseMethodDescriptor "(I)I" = some ⟨[.int], some .int⟩ := by decide +kernel
  cases q.symm.trans h; rfl
theorem pd__I_V : ∀ sig, parseMethodDescriptor "(I)V" = some sig → 1 = sig.parameters.length := fun sig h => by
  have q : parseMethodDescriptor "(I)V" = some ⟨[.int], none⟩ := by decide +kernel
  cases q.symm.trans h; rfl
theorem pd__I_Z : ∀ sig, parseMethodDescriptor "(I)Z" = some sig → 1 = sig.parameters.length := fun sig h => by
  have q : parseMethodDescriptor "(I)Z" = some ⟨[.int], some .boolean⟩ := by decide +kernel
  cases q.symm.trans h; rfl
theorem pd__II_I : ∀ sig, parseMethodDescriptor "(II)I" = some sig → 2 = sig.parameters.length := fun sig h => by
  have q : parseMethodDescriptor "(II)I" = some ⟨[.int, .int], some .int⟩ := by decide +kernel
  cases q.symm.trans h; rfl
theorem pd__III_I : ∀ sig, parseMethodDescriptor "(III)I" = some sig → 3 = sig.parameters.length := fun sig h => by
  have q : parseMethodDescriptor "(III)I" = some ⟨[.int, .int, .int], some .int⟩ := by decide +kernel
  cases q.symm.trans h; rfl
theorem pd__IIII_V : ∀ sig, parseMethodDescriptor "(IIII)V" = some sig → 4 = sig.parameters.length := fun sig h => by
  have q : parseMethodDescriptor "(IIII)V" = some ⟨[.int, .int, .int, .int], none⟩ := by decide +kernel
  cases q.symm.trans h; rfl
theorem pd__IIIII_Z : ∀ sig, parseMethodDescriptor "(IIIII)Z" = some sig → 5 = sig.parameters.length := fun sig h => by
  have q : parseMethodDescriptor "(IIIII)Z" = some ⟨[.int, .int, .int, .int, .int], some .boolean⟩ := by decide +kernel
  cases q.symm.trans h; rfl
abbrev md_init : MD := (⟨"DominantShare", "<init>", "(IIII)V"⟩, prog_1_method_1_code, 6, none, { frames := 2, cells := 15, slots := 305, locals := 29 }, 15)
theorem cv_init {Z : State} {a0 : Array Value} (H : OK Z a0) : CalI Z a0 md_init 4 := ⟨pn_DominantShare, by decide, pd__IIII_V, H.w 4 rfl, H.w 5 rfl, H.w 2 rfl, rfl, rfl⟩
theorem o_init_0 : InsA md_init 0 (.aload_n 0) 1 1 := ⟨by decide +kernel, rfl⟩
theorem o_init_1 : InsA md_init 1 (.invokespecial 1) 3 4 := ⟨by decide +kernel, rfl⟩
theorem o_init_4 : InsA md_init 4 (.aload_n 0) 1 5 := ⟨by decide +kernel, rfl⟩
theorem o_init_5 : InsA md_init 5 (.iconst 3) 1 6 := ⟨by decide +kernel, rfl⟩
theorem o_init_6 : InsA md_init 6 (.newarray .int) 2 8 := ⟨by decide +kernel, rfl⟩
theorem o_init_8 : InsA md_init 8 (.putfield 7) 3 11 := ⟨by decide +kernel, rfl⟩
theorem o_init_11 : InsA md_init 11 (.aload_n 0) 1 12 := ⟨by decide +kernel, rfl⟩
theorem o_init_12 : InsA md_init 12 (.iconst 3) 1 13 := ⟨by decide +kernel, rfl⟩
theorem o_init_13 : InsA md_init 13 (.newarray .int) 2 15 := ⟨by decide +kernel, rfl⟩
theorem o_init_15 : InsA md_init 15 (.putfield 13) 3 18 := ⟨by decide +kernel, rfl⟩
theorem o_init_18 : InsA md_init 18 (.aload_n 0) 1 19 := ⟨by decide +kernel, rfl⟩
theorem o_init_19 : InsA md_init 19 (.iconst 3) 1 20 := ⟨by decide +kernel, rfl⟩
theorem o_init_20 : InsA md_init 20 (.newarray .int) 2 22 := ⟨by decide +kernel, rfl⟩
theorem o_init_22 : InsA md_init 22 (.putfield 16) 3 25 := ⟨by decide +kernel, rfl⟩
theorem o_init_25 : InsA md_init 25 (.aload_n 0) 1 26 := ⟨by decide +kernel, rfl⟩
theorem o_init_26 : InsA md_init 26 (.bipush 8) 2 28 := ⟨by decide +kernel, rfl⟩
theorem o_init_28 : InsA md_init 28 (.newarray .int) 2 30 := ⟨by decide +kernel, rfl⟩
theorem o_init_30 : InsA md_init 30 (.putfield 19) 3 33 := ⟨by decide +kernel, rfl⟩
theorem o_init_33 : InsA md_init 33 (.aload_n 0) 1 34 := ⟨by decide +kernel, rfl⟩
theorem o_init_34 : InsA md_init 34 (.bipush 8) 2 36 := ⟨by decide +kernel, rfl⟩
theorem o_init_36 : InsA md_init 36 (.newarray .int) 2 38 := ⟨by decide +kernel, rfl⟩
theorem o_init_38 : InsA md_init 38 (.putfield 22) 3 41 := ⟨by decide +kernel, rfl⟩
theorem o_init_41 : InsA md_init 41 (.aload_n 0) 1 42 := ⟨by decide +kernel, rfl⟩
theorem o_init_42 : InsA md_init 42 (.bipush 8) 2 44 := ⟨by decide +kernel, rfl⟩
theorem o_init_44 : InsA md_init 44 (.newarray .int) 2 46 := ⟨by decide +kernel, rfl⟩
theorem o_init_46 : InsA md_init 46 (.putfield 25) 3 49 := ⟨by decide +kernel, rfl⟩
theorem o_init_49 : InsA md_init 49 (.aload_n 0) 1 50 := ⟨by decide +kernel, rfl⟩
theorem o_init_50 : InsA md_init 50 (.bipush 8) 2 52 := ⟨by decide +kernel, rfl⟩
theorem o_init_52 : InsA md_init 52 (.newarray .int) 2 54 := ⟨by decide +kernel, rfl⟩
theorem o_init_54 : InsA md_init 54 (.putfield 28) 3 57 := ⟨by decide +kernel, rfl⟩
theorem o_init_57 : InsA md_init 57 (.aload_n 0) 1 58 := ⟨by decide +kernel, rfl⟩
theorem o_init_58 : InsA md_init 58 (.bipush 8) 2 60 := ⟨by decide +kernel, rfl⟩
theorem o_init_60 : InsA md_init 60 (.newarray .int) 2 62 := ⟨by decide +kernel, rfl⟩
theorem o_init_62 : InsA md_init 62 (.putfield 31) 3 65 := ⟨by decide +kernel, rfl⟩
theorem o_init_65 : InsA md_init 65 (.aload_n 0) 1 66 := ⟨by decide +kernel, rfl⟩
theorem o_init_66 : InsA md_init 66 (.bipush 8) 2 68 := ⟨by decide +kernel, rfl⟩
theorem o_init_68 : InsA md_init 68 (.newarray .int) 2 70 := ⟨by decide +kernel, rfl⟩
theorem o_init_70 : InsA md_init 70 (.putfield 34) 3 73 := ⟨by decide +kernel, rfl⟩
theorem o_init_73 : InsA md_init 73 (.aload_n 0) 1 74 := ⟨by decide +kernel, rfl⟩
theorem o_init_74 : InsA md_init 74 (.bipush 24) 2 76 := ⟨by decide +kernel, rfl⟩
theorem o_init_76 : InsA md_init 76 (.newarray .int) 2 78 := ⟨by decide +kernel, rfl⟩
theorem o_init_78 : InsA md_init 78 (.putfield 37) 3 81 := ⟨by decide +kernel, rfl⟩
theorem o_init_81 : InsA md_init 81 (.aload_n 0) 1 82 := ⟨by decide +kernel, rfl⟩
theorem o_init_82 : InsA md_init 82 (.bipush 32) 2 84 := ⟨by decide +kernel, rfl⟩
theorem o_init_84 : InsA md_init 84 (.newarray .int) 2 86 := ⟨by decide +kernel, rfl⟩
theorem o_init_86 : InsA md_init 86 (.putfield 40) 3 89 := ⟨by decide +kernel, rfl⟩
theorem o_init_89 : InsA md_init 89 (.aload_n 0) 1 90 := ⟨by decide +kernel, rfl⟩
theorem o_init_90 : InsA md_init 90 (.bipush 32) 2 92 := ⟨by decide +kernel, rfl⟩
theorem o_init_92 : InsA md_init 92 (.newarray .int) 2 94 := ⟨by decide +kernel, rfl⟩
theorem o_init_94 : InsA md_init 94 (.putfield 43) 3 97 := ⟨by decide +kernel, rfl⟩
theorem o_init_97 : InsA md_init 97 (.aload_n 0) 1 98 := ⟨by decide +kernel, rfl⟩
theorem o_init_98 : InsA md_init 98 (.bipush 32) 2 100 := ⟨by decide +kernel, rfl⟩
theorem o_init_100 : InsA md_init 100 (.newarray .int) 2 102 := ⟨by decide +kernel, rfl⟩
theorem o_init_102 : InsA md_init 102 (.putfield 46) 3 105 := ⟨by decide +kernel, rfl⟩
theorem o_init_105 : InsA md_init 105 (.aload_n 0) 1 106 := ⟨by decide +kernel, rfl⟩
theorem o_init_106 : InsA md_init 106 (.bipush 96) 2 108 := ⟨by decide +kernel, rfl⟩
theorem o_init_108 : InsA md_init 108 (.newarray .int) 2 110 := ⟨by decide +kernel, rfl⟩
theorem o_init_110 : InsA md_init 110 (.putfield 49) 3 113 := ⟨by decide +kernel, rfl⟩
theorem o_init_113 : InsA md_init 113 (.aload_n 0) 1 114 := ⟨by decide +kernel, rfl⟩
theorem o_init_114 : InsA md_init 114 (.bipush 32) 2 116 := ⟨by decide +kernel, rfl⟩
theorem o_init_116 : InsA md_init 116 (.newarray .long) 2 118 := ⟨by decide +kernel, rfl⟩
theorem o_init_118 : InsA md_init 118 (.putfield 52) 3 121 := ⟨by decide +kernel, rfl⟩
theorem o_init_121 : InsA md_init 121 (.aload_n 0) 1 122 := ⟨by decide +kernel, rfl⟩
theorem o_init_122 : InsA md_init 122 (.getfield 7) 3 125 := ⟨by decide +kernel, rfl⟩
theorem o_init_125 : InsA md_init 125 (.iconst 0) 1 126 := ⟨by decide +kernel, rfl⟩
theorem o_init_126 : InsA md_init 126 (.aload_n 0) 1 127 := ⟨by decide +kernel, rfl⟩
theorem o_init_127 : InsA md_init 127 (.iload_n 1) 1 128 := ⟨by decide +kernel, rfl⟩
theorem o_init_128 : InsA md_init 128 (.iconst 1) 1 129 := ⟨by decide +kernel, rfl⟩
theorem o_init_129 : InsA md_init 129 (.ldc 56) 2 131 := ⟨by decide +kernel, rfl⟩
theorem o_init_131 : InsA md_init 131 (.invokevirtual 57) 3 134 := ⟨by decide +kernel, rfl⟩
theorem o_init_134 : InsA md_init 134 (.iastore) 1 135 := ⟨by decide +kernel, rfl⟩
theorem o_init_135 : InsA md_init 135 (.aload_n 0) 1 136 := ⟨by decide +kernel, rfl⟩
theorem o_init_136 : InsA md_init 136 (.getfield 7) 3 139 := ⟨by decide +kernel, rfl⟩
theorem o_init_139 : InsA md_init 139 (.iconst 1) 1 140 := ⟨by decide +kernel, rfl⟩
theorem o_init_140 : InsA md_init 140 (.aload_n 0) 1 141 := ⟨by decide +kernel, rfl⟩
theorem o_init_141 : InsA md_init 141 (.iload_n 2) 1 142 := ⟨by decide +kernel, rfl⟩
theorem o_init_142 : InsA md_init 142 (.iconst 1) 1 143 := ⟨by decide +kernel, rfl⟩
theorem o_init_143 : InsA md_init 143 (.ldc 56) 2 145 := ⟨by decide +kernel, rfl⟩
theorem o_init_145 : InsA md_init 145 (.invokevirtual 57) 3 148 := ⟨by decide +kernel, rfl⟩
theorem o_init_148 : InsA md_init 148 (.iastore) 1 149 := ⟨by decide +kernel, rfl⟩
theorem o_init_149 : InsA md_init 149 (.aload_n 0) 1 150 := ⟨by decide +kernel, rfl⟩
theorem o_init_150 : InsA md_init 150 (.getfield 7) 3 153 := ⟨by decide +kernel, rfl⟩
theorem o_init_153 : InsA md_init 153 (.iconst 2) 1 154 := ⟨by decide +kernel, rfl⟩
theorem o_init_154 : InsA md_init 154 (.aload_n 0) 1 155 := ⟨by decide +kernel, rfl⟩
theorem o_init_155 : InsA md_init 155 (.iload_n 3) 1 156 := ⟨by decide +kernel, rfl⟩
theorem o_init_156 : InsA md_init 156 (.iconst 1) 1 157 := ⟨by decide +kernel, rfl⟩
theorem o_init_157 : InsA md_init 157 (.ldc 56) 2 159 := ⟨by decide +kernel, rfl⟩
theorem o_init_159 : InsA md_init 159 (.invokevirtual 57) 3 162 := ⟨by decide +kernel, rfl⟩
theorem o_init_162 : InsA md_init 162 (.iastore) 1 163 := ⟨by decide +kernel, rfl⟩
theorem o_init_163 : InsA md_init 163 (.aload_n 0) 1 164 := ⟨by decide +kernel, rfl⟩
theorem o_init_164 : InsA md_init 164 (.aload_n 0) 1 165 := ⟨by decide +kernel, rfl⟩
theorem o_init_165 : InsA md_init 165 (.iload 4) 2 167 := ⟨by decide +kernel, rfl⟩
theorem o_init_167 : InsA md_init 167 (.iconst 2) 1 168 := ⟨by decide +kernel, rfl⟩
theorem o_init_168 : InsA md_init 168 (.bipush 8) 2 170 := ⟨by decide +kernel, rfl⟩
theorem o_init_170 : InsA md_init 170 (.invokevirtual 57) 3 173 := ⟨by decide +kernel, rfl⟩
theorem o_init_173 : InsA md_init 173 (.putfield 61) 3 176 := ⟨by decide +kernel, rfl⟩
theorem o_init_176 : InsA md_init 176 (.iconst 0) 1 177 := ⟨by decide +kernel, rfl⟩
theorem o_init_177 : InsA md_init 177 (.istore 5) 2 179 := ⟨by decide +kernel, rfl⟩
theorem o_init_179 : InsA md_init 179 (.iload 5) 2 181 := ⟨by decide +kernel, rfl⟩
theorem o_init_181 : InsA md_init 181 (.bipush 8) 2 183 := ⟨by decide +kernel, rfl⟩
theorem o_init_183 : InsB md_init 183 (.if_icmp .ge 15) 3 186 (15) 198 := ⟨by decide +kernel, rfl, by decide, by decide⟩
theorem o_init_186 : InsA md_init 186 (.aload_n 0) 1 187 := ⟨by decide +kernel, rfl⟩
theorem o_init_187 : InsA md_init 187 (.iload 5) 2 189 := ⟨by decide +kernel, rfl⟩
theorem o_init_189 : InsA md_init 189 (.invokevirtual 65) 3 192 := ⟨by decide +kernel, rfl⟩
theorem o_init_192 : InsA md_init 192 (.iinc 5 1) 3 195 := ⟨by decide +kernel, rfl⟩
theorem o_init_195 : InsB md_init 195 (.goto (-16)) 3 198 (-16) 179 := ⟨by decide +kernel, rfl, by decide, by decide⟩
theorem o_init_198 : InsA md_init 198 (.iconst 0) 1 199 := ⟨by decide +kernel, rfl⟩
theorem o_init_199 : InsA md_init 199 (.istore 5) 2 201 := ⟨by decide +kernel, rfl⟩
theorem o_init_201 : InsA md_init 201 (.iload 5) 2 203 := ⟨by decide +kernel, rfl⟩
theorem o_init_203 : InsA md_init 203 (.bipush 32) 2 205 := ⟨by decide +kernel, rfl⟩
theorem o_init_205 : InsB md_init 205 (.if_icmp .ge 15) 3 208 (15) 220 := ⟨by decide +kernel, rfl, by decide, by decide⟩
theorem o_init_208 : InsA md_init 208 (.aload_n 0) 1 209 := ⟨by decide +kernel, rfl⟩
theorem o_init_209 : InsA md_init 209 (.iload 5) 2 211 := ⟨by decide +kernel, rfl⟩
theorem o_init_211 : InsA md_init 211 (.invokevirtual 69) 3 214 := ⟨by decide +kernel, rfl⟩
theorem o_init_214 : InsA md_init 214 (.iinc 5 1) 3 217 := ⟨by decide +kernel, rfl⟩
theorem o_init_217 : InsB md_init 217 (.goto (-16)) 3 220 (-16) 201 := ⟨by decide +kernel, rfl, by decide, by decide⟩
theorem o_init_220 : InsA md_init 220 (.iconst 0) 1 221 := ⟨by decide +kernel, rfl⟩
theorem o_init_221 : InsA md_init 221 (.istore 5) 2 223 := ⟨by decide +kernel, rfl⟩
theorem o_init_223 : InsA md_init 223 (.iload 5) 2 225 := ⟨by decide +kernel, rfl⟩
theorem o_init_225 : InsA md_init 225 (.iconst 3) 1 226 := ⟨by decide +kernel, rfl⟩
theorem o_init_226 : InsB md_init 226 (.if_icmp .ge 25) 3 229 (25) 251 := ⟨by decide +kernel, rfl, by decide, by decide⟩
theorem o_init_229 : InsA md_init 229 (.aload_n 0) 1 230 := ⟨by decide +kernel, rfl⟩
theorem o_init_230 : InsA md_init 230 (.getfield 13) 3 233 := ⟨by decide +kernel, rfl⟩
theorem o_init_233 : InsA md_init 233 (.iload 5) 2 235 := ⟨by decide +kernel, rfl⟩
theorem o_init_235 : InsA md_init 235 (.iconst 0) 1 236 := ⟨by decide +kernel, rfl⟩
theorem o_init_236 : InsA md_init 236 (.iastore) 1 237 := ⟨by decide +kernel, rfl⟩
theorem o_init_237 : InsA md_init 237 (.aload_n 0) 1 238 := ⟨by decide +kernel, rfl⟩
theorem o_init_238 : InsA md_init 238 (.getfield 16) 3 241 := ⟨by decide +kernel, rfl⟩
theorem o_init_241 : InsA md_init 241 (.iload 5) 2 243 := ⟨by decide +kernel, rfl⟩
theorem o_init_243 : InsA md_init 243 (.iconst 0) 1 244 := ⟨by decide +kernel, rfl⟩
theorem o_init_244 : InsA md_init 244 (.iastore) 1 245 := ⟨by decide +kernel, rfl⟩
theorem o_init_245 : InsA md_init 245 (.iinc 5 1) 3 248 := ⟨by decide +kernel, rfl⟩
theorem o_init_248 : InsB md_init 248 (.goto (-25)) 3 251 (-25) 223 := ⟨by decide +kernel, rfl, by decide, by decide⟩
theorem o_init_251 : InsA md_init 251 (.aload_n 0) 1 252 := ⟨by decide +kernel, rfl⟩
theorem o_init_252 : InsA md_init 252 (.bipush 32) 2 254 := ⟨by decide +kernel, rfl⟩
theorem o_init_254 : InsA md_init 254 (.putfield 72) 3 257 := ⟨by decide +kernel, rfl⟩
theorem o_init_257 : InsA md_init 257 (.aload_n 0) 1 258 := ⟨by decide +kernel, rfl⟩
theorem o_init_258 : InsA md_init 258 (.lconst 0) 1 259 := ⟨by decide +kernel, rfl⟩
theorem o_init_259 : InsA md_init 259 (.putfield 75) 3 262 := ⟨by decide +kernel, rfl⟩
theorem o_init_262 : InsA md_init 262 (.aload_n 0) 1 263 := ⟨by decide +kernel, rfl⟩
theorem o_init_263 : InsA md_init 263 (.iconst (-1)) 1 264 := ⟨by decide +kernel, rfl⟩
theorem o_init_264 : InsA md_init 264 (.putfield 79) 3 267 := ⟨by decide +kernel, rfl⟩
theorem o_init_267 : InsA md_init 267 (.return_) 1 268 := ⟨by decide +kernel, rfl⟩
abbrev md_clampInt : MD := (⟨"DominantShare", "clampInt", "(III)I"⟩, prog_1_method_18_code, 4, some .int, { frames := 0, cells := 0, slots := 0, locals := 0 }, 0)
theorem cv_clampInt {Z : State} {a0 : Array Value} (H : OK Z a0) : CalV Z a0 md_clampInt 3 := ⟨pn_DominantShare, by decide, pd__III_I, H.w 43 rfl, H.w 45 rfl, H.w 2 rfl, Or.inr ⟨H.w 44 rfl, 19, H.w 1 rfl⟩⟩
theorem o_clampInt_0 : InsA md_clampInt 0 (.iload_n 1) 1 1 := ⟨by decide +kernel, rfl⟩
theorem o_clampInt_1 : InsA md_clampInt 1 (.iload_n 2) 1 2 := ⟨by decide +kernel, rfl⟩
theorem o_clampInt_2 : InsB md_clampInt 2 (.if_icmp .ge 5) 3 5 (5) 7 := ⟨by decide +kernel, rfl, by decide, by decide⟩
theorem o_clampInt_5 : InsA md_clampInt 5 (.iload_n 2) 1 6 := ⟨by decide +kernel, rfl⟩
theorem o_clampInt_6 : InsA md_clampInt 6 (.ireturn) 1 7 := ⟨by decide +kernel, rfl⟩
theorem o_clampInt_7 : InsA md_clampInt 7 (.iload_n 1) 1 8 := ⟨by decide +kernel, rfl⟩
theorem o_clampInt_8 : InsA md_clampInt 8 (.iload_n 3) 1 9 := ⟨by decide +kernel, rfl⟩
theorem o_clampInt_9 : InsB md_clampInt 9 (.if_icmp .le 5) 3 12 (5) 14 := ⟨by decide +kernel, rfl, by decide, by decide⟩
theorem o_clampInt_12 : InsA md_clampInt 12 (.iload_n 3) 1 13 := ⟨by decide +kernel, rfl⟩
theorem o_clampInt_13 : InsA md_clampInt 13 (.ireturn) 1 14 := ⟨by decide +kernel, rfl⟩
theorem o_clampInt_14 : InsA md_clampInt 14 (.iload_n 1) 1 15 := ⟨by decide +kernel, rfl⟩
theorem o_clampInt_15 : InsA md_clampInt 15 (.ireturn) 1 16 := ⟨by decide +kernel, rfl⟩
abbrev md_resetUser : MD := (⟨"DominantShare", "resetUser", "(I)V"⟩, prog_1_method_31_code, 3, none, { frames := 1, cells := 0, slots := 0, locals := 15 }, 0)
theorem cv_resetUser {Z : State} {a0 : Array Value} (H : OK Z a0) : CalV Z a0 md_resetUser 1 := ⟨pn_DominantShare, by decide, pd__I_V, H.w 49 rfl, H.w 51 rfl, H.w 2 rfl, Or.inr ⟨H.w 50 rfl, 19, H.w 1 rfl⟩⟩
theorem o_resetUser_0 : InsA md_resetUser 0 (.aload_n 0) 1 1 := ⟨by decide +kernel, rfl⟩
theorem o_resetUser_1 : InsA md_resetUser 1 (.getfield 19) 3 4 := ⟨by decide +kernel, rfl⟩
theorem o_resetUser_4 : InsA md_resetUser 4 (.iload_n 1) 1 5 := ⟨by decide +kernel, rfl⟩
theorem o_resetUser_5 : InsA md_resetUser 5 (.iconst 1) 1 6 := ⟨by decide +kernel, rfl⟩
theorem o_resetUser_6 : InsA md_resetUser 6 (.iastore) 1 7 := ⟨by decide +kernel, rfl⟩
theorem o_resetUser_7 : InsA md_resetUser 7 (.aload_n 0) 1 8 := ⟨by decide +kernel, rfl⟩
theorem o_resetUser_8 : InsA md_resetUser 8 (.getfield 22) 3 11 := ⟨by decide +kernel, rfl⟩
theorem o_resetUser_11 : InsA md_resetUser 11 (.iload_n 1) 1 12 := ⟨by decide +kernel, rfl⟩
theorem o_resetUser_12 : InsA md_resetUser 12 (.bipush 32) 2 14 := ⟨by decide +kernel, rfl⟩
theorem o_resetUser_14 : InsA md_resetUser 14 (.iastore) 1 15 := ⟨by decide +kernel, rfl⟩
theorem o_resetUser_15 : InsA md_resetUser 15 (.aload_n 0) 1 16 := ⟨by decide +kernel, rfl⟩
theorem o_resetUser_16 : InsA md_resetUser 16 (.getfield 25) 3 19 := ⟨by decide +kernel, rfl⟩
theorem o_resetUser_19 : InsA md_resetUser 19 (.iload_n 1) 1 20 := ⟨by decide +kernel, rfl⟩
theorem o_resetUser_20 : InsA md_resetUser 20 (.iconst 0) 1 21 := ⟨by decide +kernel, rfl⟩
theorem o_resetUser_21 : InsA md_resetUser 21 (.iastore) 1 22 := ⟨by decide +kernel, rfl⟩
theorem o_resetUser_22 : InsA md_resetUser 22 (.aload_n 0) 1 23 := ⟨by decide +kernel, rfl⟩
theorem o_resetUser_23 : InsA md_resetUser 23 (.getfield 28) 3 26 := ⟨by decide +kernel, rfl⟩
theorem o_resetUser_26 : InsA md_resetUser 26 (.iload_n 1) 1 27 := ⟨by decide +kernel, rfl⟩
theorem o_resetUser_27 : InsA md_resetUser 27 (.iconst 0) 1 28 := ⟨by decide +kernel, rfl⟩
theorem o_resetUser_28 : InsA md_resetUser 28 (.iastore) 1 29 := ⟨by decide +kernel, rfl⟩
theorem o_resetUser_29 : InsA md_resetUser 29 (.aload_n 0) 1 30 := ⟨by decide +kernel, rfl⟩
theorem o_resetUser_30 : InsA md_resetUser 30 (.getfield 31) 3 33 := ⟨by decide +kernel, rfl⟩
theorem o_resetUser_33 : InsA md_resetUser 33 (.iload_n 1) 1 34 := ⟨by decide +kernel, rfl⟩
theorem o_resetUser_34 : InsA md_resetUser 34 (.iconst (-1)) 1 35 := ⟨by decide +kernel, rfl⟩
theorem o_resetUser_35 : InsA md_resetUser 35 (.iastore) 1 36 := ⟨by decide +kernel, rfl⟩
theorem o_resetUser_36 : InsA md_resetUser 36 (.aload_n 0) 1 37 := ⟨by decide +kernel, rfl⟩
theorem o_resetUser_37 : InsA md_resetUser 37 (.getfield 34) 3 40 := ⟨by decide +kernel, rfl⟩
theorem o_resetUser_40 : InsA md_resetUser 40 (.iload_n 1) 1 41 := ⟨by decide +kernel, rfl⟩
theorem o_resetUser_41 : InsA md_resetUser 41 (.iconst 0) 1 42 := ⟨by decide +kernel, rfl⟩
theorem o_resetUser_42 : InsA md_resetUser 42 (.iastore) 1 43 := ⟨by decide +kernel, rfl⟩
theorem o_resetUser_43 : InsA md_resetUser 43 (.iconst 0) 1 44 := ⟨by decide +kernel, rfl⟩
theorem o_resetUser_44 : InsA md_resetUser 44 (.istore_n 2) 1 45 := ⟨by decide +kernel, rfl⟩
theorem o_resetUser_45 : InsA md_resetUser 45 (.iload_n 2) 1 46 := ⟨by decide +kernel, rfl⟩
theorem o_resetUser_46 : InsA md_resetUser 46 (.iconst 3) 1 47 := ⟨by decide +kernel, rfl⟩
theorem o_resetUser_47 : InsB md_resetUser 47 (.if_icmp .ge 21) 3 50 (21) 68 := ⟨by decide +kernel, rfl, by decide, by decide⟩
theorem o_resetUser_50 : InsA md_resetUser 50 (.aload_n 0) 1 51 := ⟨by decide +kernel, rfl⟩
theorem o_resetUser_51 : InsA md_resetUser 51 (.getfield 37) 3 54 := ⟨by decide +kernel, rfl⟩
theorem o_resetUser_54 : InsA md_resetUser 54 (.aload_n 0) 1 55 := ⟨by decide +kernel, rfl⟩
theorem o_resetUser_55 : InsA md_resetUser 55 (.iload_n 1) 1 56 := ⟨by decide +kernel, rfl⟩
theorem o_resetUser_56 : InsA md_resetUser 56 (.iload_n 2) 1 57 := ⟨by decide +kernel, rfl⟩
theorem o_resetUser_57 : InsA md_resetUser 57 (.invokevirtual 144) 3 60 := ⟨by decide +kernel, rfl⟩
theorem o_resetUser_60 : InsA md_resetUser 60 (.iconst 0) 1 61 := ⟨by decide +kernel, rfl⟩
theorem o_resetUser_61 : InsA md_resetUser 61 (.iastore) 1 62 := ⟨by decide +kernel, rfl⟩
theorem o_resetUser_62 : InsA md_resetUser 62 (.iinc 2 1) 3 65 := ⟨by decide +kernel, rfl⟩
theorem o_resetUser_65 : InsB md_resetUser 65 (.goto (-20)) 3 68 (-20) 45 := ⟨by decide +kernel, rfl, by decide, by decide⟩
theorem o_resetUser_68 : InsA md_resetUser 68 (.return_) 1 69 := ⟨by decide +kernel, rfl⟩
abbrev md_allocIndex : MD := (⟨"DominantShare", "allocIndex", "(II)I"⟩, prog_1_method_26_code, 3, some .int, { frames := 0, cells := 0, slots := 0, locals := 0 }, 0)
theorem cv_allocIndex {Z : State} {a0 : Array Value} (H : OK Z a0) : CalV Z a0 md_allocIndex 2 := ⟨pn_DominantShare, by decide, pd__II_I, H.w 53 rfl, H.w 55 rfl, H.w 2 rfl, Or.inr ⟨H.w 54 rfl, 19, H.w 1 rfl⟩⟩
theorem o_allocIndex_0 : InsA md_allocIndex 0 (.iload_n 1) 1 1 := ⟨by decide +kernel, rfl⟩
theorem o_allocIndex_1 : InsA md_allocIndex 1 (.iconst 3) 1 2 := ⟨by decide +kernel, rfl⟩
theorem o_allocIndex_2 : InsA md_allocIndex 2 (.imul) 1 3 := ⟨by decide +kernel, rfl⟩
theorem o_allocIndex_3 : InsA md_allocIndex 3 (.iload_n 2) 1 4 := ⟨by decide +kernel, rfl⟩
theorem o_allocIndex_4 : InsA md_allocIndex 4 (.iadd) 1 5 := ⟨by decide +kernel, rfl⟩
theorem o_allocIndex_5 : InsA md_allocIndex 5 (.ireturn) 1 6 := ⟨by decide +kernel, rfl⟩
abbrev md_clearSlotFields : MD := (⟨"DominantShare", "clearSlotFields", "(I)V"⟩, prog_1_method_32_code, 3, none, { frames := 0, cells := 0, slots := 0, locals := 0 }, 0)
theorem cv_clearSlotFields {Z : State} {a0 : Array Value} (H : OK Z a0) : CalV Z a0 md_clearSlotFields 1 := ⟨pn_DominantShare, by decide, pd__I_V, H.w 57 rfl, H.w 59 rfl, H.w 2 rfl, Or.inr ⟨H.w 58 rfl, 19, H.w 1 rfl⟩⟩
theorem o_clearSlotFields_0 : InsA md_clearSlotFields 0 (.aload_n 0) 1 1 := ⟨by decide +kernel, rfl⟩
theorem o_clearSlotFields_1 : InsA md_clearSlotFields 1 (.getfield 40) 3 4 := ⟨by decide +kernel, rfl⟩
theorem o_clearSlotFields_4 : InsA md_clearSlotFields 4 (.iload_n 1) 1 5 := ⟨by decide +kernel, rfl⟩
theorem o_clearSlotFields_5 : InsA md_clearSlotFields 5 (.iconst 0) 1 6 := ⟨by decide +kernel, rfl⟩
theorem o_clearSlotFields_6 : InsA md_clearSlotFields 6 (.iastore) 1 7 := ⟨by decide +kernel, rfl⟩
theorem o_clearSlotFields_7 : InsA md_clearSlotFields 7 (.aload_n 0) 1 8 := ⟨by decide +kernel, rfl⟩
theorem o_clearSlotFields_8 : InsA md_clearSlotFields 8 (.getfield 43) 3 11 := ⟨by decide +kernel, rfl⟩
theorem o_clearSlotFields_11 : InsA md_clearSlotFields 11 (.iload_n 1) 1 12 := ⟨by decide +kernel, rfl⟩
theorem o_clearSlotFields_12 : InsA md_clearSlotFields 12 (.iconst (-1)) 1 13 := ⟨by decide +kernel, rfl⟩
theorem o_clearSlotFields_13 : InsA md_clearSlotFields 13 (.iastore) 1 14 := ⟨by decide +kernel, rfl⟩
theorem o_clearSlotFields_14 : InsA md_clearSlotFields 14 (.aload_n 0) 1 15 := ⟨by decide +kernel, rfl⟩
theorem o_clearSlotFields_15 : InsA md_clearSlotFields 15 (.getfield 46) 3 18 := ⟨by decide +kernel, rfl⟩
theorem o_clearSlotFields_18 : InsA md_clearSlotFields 18 (.iload_n 1) 1 19 := ⟨by decide +kernel, rfl⟩
theorem o_clearSlotFields_19 : InsA md_clearSlotFields 19 (.iconst 0) 1 20 := ⟨by decide +kernel, rfl⟩
theorem o_clearSlotFields_20 : InsA md_clearSlotFields 20 (.iastore) 1 21 := ⟨by decide +kernel, rfl⟩
theorem o_clearSlotFields_21 : InsA md_clearSlotFields 21 (.aload_n 0) 1 22 := ⟨by decide +kernel, rfl⟩
theorem o_clearSlotFields_22 : InsA md_clearSlotFields 22 (.getfield 52) 3 25 := ⟨by decide +kernel, rfl⟩
theorem o_clearSlotFields_25 : InsA md_clearSlotFields 25 (.iload_n 1) 1 26 := ⟨by decide +kernel, rfl⟩
theorem o_clearSlotFields_26 : InsA md_clearSlotFields 26 (.lconst 0) 1 27 := ⟨by decide +kernel, rfl⟩
theorem o_clearSlotFields_27 : InsA md_clearSlotFields 27 (.lastore) 1 28 := ⟨by decide +kernel, rfl⟩
theorem o_clearSlotFields_28 : InsA md_clearSlotFields 28 (.iconst 0) 1 29 := ⟨by decide +kernel, rfl⟩
theorem o_clearSlotFields_29 : InsA md_clearSlotFields 29 (.istore_n 2) 1 30 := ⟨by decide +kernel, rfl⟩
theorem o_clearSlotFields_30 : InsA md_clearSlotFields 30 (.iload_n 2) 1 31 := ⟨by decide +kernel, rfl⟩
theorem o_clearSlotFields_31 : InsA md_clearSlotFields 31 (.iconst 3) 1 32 := ⟨by decide +kernel, rfl⟩
theorem o_clearSlotFields_32 : InsB md_clearSlotFields 32 (.if_icmp .ge 20) 3 35 (20) 52 := ⟨by decide +kernel, rfl, by decide, by decide⟩
theorem o_clearSlotFields_35 : InsA md_clearSlotFields 35 (.aload_n 0) 1 36 := ⟨by decide +kernel, rfl⟩
theorem o_clearSlotFields_36 : InsA md_clearSlotFields 36 (.getfield 49) 3 39 := ⟨by decide +kernel, rfl⟩
theorem o_clearSlotFields_39 : InsA md_clearSlotFields 39 (.iload_n 1) 1 40 := ⟨by decide +kernel, rfl⟩
theorem o_clearSlotFields_40 : InsA md_clearSlotFields 40 (.iconst 3) 1 41 := ⟨by decide +kernel, rfl⟩
theorem o_clearSlotFields_41 : InsA md_clearSlotFields 41 (.imul) 1 42 := ⟨by decide +kernel, rfl⟩
theorem o_clearSlotFields_42 : InsA md_clearSlotFields 42 (.iload_n 2) 1 43 := ⟨by decide +kernel, rfl⟩
theorem o_clearSlotFields_43 : InsA md_clearSlotFields 43 (.iadd) 1 44 := ⟨by decide +kernel, rfl⟩
theorem o_clearSlotFields_44 : InsA md_clearSlotFields 44 (.iconst 0) 1 45 := ⟨by decide +kernel, rfl⟩
theorem o_clearSlotFields_45 : InsA md_clearSlotFields 45 (.iastore) 1 46 := ⟨by decide +kernel, rfl⟩
theorem o_clearSlotFields_46 : InsA md_clearSlotFields 46 (.iinc 2 1) 3 49 := ⟨by decide +kernel, rfl⟩
theorem o_clearSlotFields_49 : InsB md_clearSlotFields 49 (.goto (-19)) 3 52 (-19) 30 := ⟨by decide +kernel, rfl, by decide, by decide⟩
theorem o_clearSlotFields_52 : InsA md_clearSlotFields 52 (.return_) 1 53 := ⟨by decide +kernel, rfl⟩
abbrev md_L_clamp : MD := (⟨"DominantShareL1", "clamp", "(III)I"⟩, method_3_code, 3, some .int, { frames := 0, cells := 0, slots := 0, locals := 0 }, 0)
theorem cv_L_clamp {Z : State} {a0 : Array Value} (H : OK Z a0) : CalS Z a0 md_L_clamp 3 := ⟨pn_DominantShareL1, by decide, pd__III_I, H.w 67 rfl, H.w 69 rfl, H.w 68 rfl⟩
theorem o_L_clamp_0 : InsA md_L_clamp 0 (.iload_n 0) 1 1 := ⟨by decide +kernel, rfl⟩
theorem o_L_clamp_1 : InsA md_L_clamp 1 (.iload_n 1) 1 2 := ⟨by decide +kernel, rfl⟩
theorem o_L_clamp_2 : InsB md_L_clamp 2 (.if_icmp .ge 7) 3 5 (7) 9 := ⟨by decide +kernel, rfl, by decide, by decide⟩
theorem o_L_clamp_5 : InsA md_L_clamp 5 (.iload_n 1) 1 6 := ⟨by decide +kernel, rfl⟩
theorem o_L_clamp_6 : InsB md_L_clamp 6 (.goto 13) 3 9 (13) 19 := ⟨by decide +kernel, rfl, by decide, by decide⟩
theorem o_L_clamp_9 : InsA md_L_clamp 9 (.iload_n 0) 1 10 := ⟨by decide +kernel, rfl⟩
theorem o_L_clamp_10 : InsA md_L_clamp 10 (.iload_n 2) 1 11 := ⟨by decide +kernel, rfl⟩
theorem o_L_clamp_11 : InsB md_L_clamp 11 (.if_icmp .le 7) 3 14 (7) 18 := ⟨by decide +kernel, rfl, by decide, by decide⟩
theorem o_L_clamp_14 : InsA md_L_clamp 14 (.iload_n 2) 1 15 := ⟨by decide +kernel, rfl⟩
theorem o_L_clamp_15 : InsB md_L_clamp 15 (.goto 4) 3 18 (4) 19 := ⟨by decide +kernel, rfl, by decide, by decide⟩
theorem o_L_clamp_18 : InsA md_L_clamp 18 (.iload_n 0) 1 19 := ⟨by decide +kernel, rfl⟩
theorem o_L_clamp_19 : InsA md_L_clamp 19 (.ireturn) 1 20 := ⟨by decide +kernel, rfl⟩
abbrev md_capacity : MD := (⟨"DominantShare", "capacity", "(I)I"⟩, prog_1_method_14_code, 2, some .int, { frames := 1, cells := 0, slots := 0, locals := 13 }, 0)
theorem cv_capacity {Z : State} {a0 : Array Value} (H : OK Z a0) : CalV Z a0 md_capacity 1 := ⟨pn_DominantShare, by decide, pd__I_I, H.w 72 rfl, H.w 74 rfl, H.w 2 rfl, Or.inl ⟨H.w 71 rfl, H.w 73 rfl⟩⟩
theorem o_capacity_0 : InsA md_capacity 0 (.aload_n 0) 1 1 := ⟨by decide +kernel, rfl⟩
theorem o_capacity_1 : InsA md_capacity 1 (.iload_n 1) 1 2 := ⟨by decide +kernel, rfl⟩
theorem o_capacity_2 : InsA md_capacity 2 (.invokevirtual 141) 3 5 := ⟨by decide +kernel, rfl⟩
theorem o_capacity_5 : InsB md_capacity 5 (.ifCond .ne 5) 3 8 (5) 10 := ⟨by decide +kernel, rfl, by decide, by decide⟩
theorem o_capacity_8 : InsA md_capacity 8 (.iconst (-1)) 1 9 := ⟨by decide +kernel, rfl⟩
theorem o_capacity_9 : InsA md_capacity 9 (.ireturn) 1 10 := ⟨by decide +kernel, rfl⟩
theorem o_capacity_10 : InsA md_capacity 10 (.aload_n 0) 1 11 := ⟨by decide +kernel, rfl⟩
theorem o_capacity_11 : InsA md_capacity 11 (.getfield 7) 3 14 := ⟨by decide +kernel, rfl⟩
theorem o_capacity_14 : InsA md_capacity 14 (.iload_n 1) 1 15 := ⟨by decide +kernel, rfl⟩
theorem o_capacity_15 : InsA md_capacity 15 (.iaload) 1 16 := ⟨by decide +kernel, rfl⟩
theorem o_capacity_16 : InsA md_capacity 16 (.ireturn) 1 17 := ⟨by decide +kernel, rfl⟩
abbrev md_isResource : MD := (⟨"DominantShare", "isResource", "(I)Z"⟩, prog_1_method_21_code, 2, some .boolean, { frames := 0, cells := 0, slots := 0, locals := 0 }, 0)
theorem cv_isResource {Z : State} {a0 : Array Value} (H : OK Z a0) : CalV Z a0 md_isResource 1 := ⟨pn_DominantShare, by decide, pd__I_Z, H.w 76 rfl, H.w 78 rfl, H.w 2 rfl, Or.inr ⟨H.w 77 rfl, 19, H.w 1 rfl⟩⟩
theorem o_isResource_0 : InsA md_isResource 0 (.iload_n 1) 1 1 := ⟨by decide +kernel, rfl⟩
theorem o_isResource_1 : InsB md_isResource 1 (.ifCond .lt 12) 3 4 (12) 13 := ⟨by decide +kernel, rfl, by decide, by decide⟩
theorem o_isResource_4 : InsA md_isResource 4 (.iload_n 1) 1 5 := ⟨by decide +kernel, rfl⟩
theorem o_isResource_5 : InsA md_isResource 5 (.iconst 3) 1 6 := ⟨by decide +kernel, rfl⟩
theorem o_isResource_6 : InsB md_isResource 6 (.if_icmp .ge 7) 3 9 (7) 13 := ⟨by decide +kernel, rfl, by decide, by decide⟩
theorem o_isResource_9 : InsA md_isResource 9 (.iconst 1) 1 10 := ⟨by decide +kernel, rfl⟩
theorem o_isResource_10 : InsB md_isResource 10 (.goto 4) 3 13 (4) 14 := ⟨by decide +kernel, rfl, by decide, by decide⟩
theorem o_isResource_13 : InsA md_isResource 13 (.iconst 0) 1 14 := ⟨by decide +kernel, rfl⟩
theorem o_isResource_14 : InsA md_isResource 14 (.ireturn) 1 15 := ⟨by decide +kernel, rfl⟩
abbrev md_userStatus : MD := (⟨"DominantShare", "userStatus", "(I)I"⟩, prog_1_method_17_code, 2, some .int, { frames := 1, cells := 0, slots := 0, locals := 13 }, 0)
theorem cv_userStatus {Z : State} {a0 : Array Value} (H : OK Z a0) : CalV Z a0 md_userStatus 1 := ⟨pn_DominantShare, by decide, pd__I_I, H.w 82 rfl, H.w 84 rfl, H.w 2 rfl, Or.inl ⟨H.w 81 rfl, H.w 83 rfl⟩⟩
theorem o_userStatus_0 : InsA md_userStatus 0 (.aload_n 0) 1 1 := ⟨by decide +kernel, rfl⟩
theorem o_userStatus_1 : InsA md_userStatus 1 (.iload_n 1) 1 2 := ⟨by decide +kernel, rfl⟩
theorem o_userStatus_2 : InsA md_userStatus 2 (.invokevirtual 82) 3 5 := ⟨by decide +kernel, rfl⟩
theorem o_userStatus_5 : InsB md_userStatus 5 (.ifCond .ne 5) 3 8 (5) 10 := ⟨by decide +kernel, rfl, by decide, by decide⟩
theorem o_userStatus_8 : InsA md_userStatus 8 (.iconst (-1)) 1 9 := ⟨by decide +kernel, rfl⟩
theorem o_userStatus_9 : InsA md_userStatus 9 (.ireturn) 1 10 := ⟨by decide +kernel, rfl⟩
theorem o_userStatus_10 : InsA md_userStatus 10 (.aload_n 0) 1 11 := ⟨by decide +kernel, rfl⟩
theorem o_userStatus_11 : InsA md_userStatus 11 (.getfield 28) 3 14 := ⟨by decide +kernel, rfl⟩
theorem o_userStatus_14 : InsA md_userStatus 14 (.iload_n 1) 1 15 := ⟨by decide +kernel, rfl⟩
theorem o_userStatus_15 : InsA md_userStatus 15 (.iaload) 1 16 := ⟨by decide +kernel, rfl⟩
theorem o_userStatus_16 : InsB md_userStatus 16 (.ifCond .gt 5) 3 19 (5) 21 := ⟨by decide +kernel, rfl, by decide, by decide⟩
theorem o_userStatus_19 : InsA md_userStatus 19 (.iconst 0) 1 20 := ⟨by decide +kernel, rfl⟩
theorem o_userStatus_20 : InsA md_userStatus 20 (.ireturn) 1 21 := ⟨by decide +kernel, rfl⟩
theorem o_userStatus_21 : InsA md_userStatus 21 (.aload_n 0) 1 22 := ⟨by decide +kernel, rfl⟩
theorem o_userStatus_22 : InsA md_userStatus 22 (.getfield 25) 3 25 := ⟨by decide +kernel, rfl⟩
theorem o_userStatus_25 : InsA md_userStatus 25 (.iload_n 1) 1 26 := ⟨by decide +kernel, rfl⟩
theorem o_userStatus_26 : InsA md_userStatus 26 (.iaload) 1 27 := ⟨by decide +kernel, rfl⟩
theorem o_userStatus_27 : InsA md_userStatus 27 (.aload_n 0) 1 28 := ⟨by decide +kernel, rfl⟩
theorem o_userStatus_28 : InsA md_userStatus 28 (.getfield 22) 3 31 := ⟨by decide +kernel, rfl⟩
theorem o_userStatus_31 : InsA md_userStatus 31 (.iload_n 1) 1 32 := ⟨by decide +kernel, rfl⟩
theorem o_userStatus_32 : InsA md_userStatus 32 (.iaload) 1 33 := ⟨by decide +kernel, rfl⟩
theorem o_userStatus_33 : InsB md_userStatus 33 (.if_icmp .lt 5) 3 36 (5) 38 := ⟨by decide +kernel, rfl, by decide, by decide⟩
theorem o_userStatus_36 : InsA md_userStatus 36 (.iconst 1) 1 37 := ⟨by decide +kernel, rfl⟩
theorem o_userStatus_37 : InsA md_userStatus 37 (.ireturn) 1 38 := ⟨by decide +kernel, rfl⟩
theorem o_userStatus_38 : InsA md_userStatus 38 (.aload_n 0) 1 39 := ⟨by decide +kernel, rfl⟩
theorem o_userStatus_39 : InsA md_userStatus 39 (.iload_n 1) 1 40 := ⟨by decide +kernel, rfl⟩
theorem o_userStatus_40 : InsA md_userStatus 40 (.invokevirtual 151) 3 43 := ⟨by decide +kernel, rfl⟩
abbrev md_isUser : MD := (⟨"DominantShare", "isUser", "(I)Z"⟩, prog_1_method_19_code, 2, some .boolean, { frames := 0, cells := 0, slots := 0, locals := 0 }, 0)
theorem cv_isUser {Z : State} {a0 : Array Value} (H : OK Z a0) : CalV Z a0 md_isUser 1 := ⟨pn_DominantShare, by decide, pd__I_Z, H.w 86 rfl, H.w 88 rfl, H.w 2 rfl, Or.inr ⟨H.w 87 rfl, 19, H.w 1 rfl⟩⟩
theorem o_isUser_0 : InsA md_isUser 0 (.iload_n 1) 1 1 := ⟨by decide +kernel, rfl⟩
theorem o_isUser_1 : InsB md_isUser 1 (.ifCond .lt 21) 3 4 (21) 22 := ⟨by decide +kernel, rfl, by decide, by decide⟩
theorem o_isUser_4 : InsA md_isUser 4 (.iload_n 1) 1 5 := ⟨by decide +kernel, rfl⟩
theorem o_isUser_5 : InsA md_isUser 5 (.aload_n 0) 1 6 := ⟨by decide +kernel, rfl⟩
theorem o_isUser_6 : InsA md_isUser 6 (.getfield 61) 3 9 := ⟨by decide +kernel, rfl⟩
theorem o_isUser_9 : InsB md_isUser 9 (.if_icmp .ge 13) 3 12 (13) 22 := ⟨by decide +kernel, rfl, by decide, by decide⟩
theorem o_isUser_12 : InsA md_isUser 12 (.iload_n 1) 1 13 := ⟨by decide +kernel, rfl⟩
theorem o_isUser_13 : InsA md_isUser 13 (.bipush 8) 2 15 := ⟨by decide +kernel, rfl⟩
theorem o_isUser_15 : InsB md_isUser 15 (.if_icmp .ge 7) 3 18 (7) 22 := ⟨by decide +kernel, rfl, by decide, by decide⟩
theorem o_isUser_18 : InsA md_isUser 18 (.iconst 1) 1 19 := ⟨by decide +kernel, rfl⟩
theorem o_isUser_19 : InsB md_isUser 19 (.goto 4) 3 22 (4) 23 := ⟨by decide +kernel, rfl, by decide, by decide⟩
theorem o_isUser_22 : InsA md_isUser 22 (.iconst 0) 1 23 := ⟨by decide +kernel, rfl⟩
theorem o_isUser_23 : InsA md_isUser 23 (.ireturn) 1 24 := ⟨by decide +kernel, rfl⟩
abbrev md_used : MD := (⟨"DominantShare", "used", "(I)I"⟩, prog_1_method_13_code, 2, some .int, { frames := 1, cells := 0, slots := 0, locals := 13 }, 0)
theorem cv_used {Z : State} {a0 : Array Value} (H : OK Z a0) : CalV Z a0 md_used 1 := ⟨pn_DominantShare, by decide, pd__I_I, H.w 91 rfl, H.w 93 rfl, H.w 2 rfl, Or.inl ⟨H.w 90 rfl, H.w 92 rfl⟩⟩
theorem o_used_0 : InsA md_used 0 (.aload_n 0) 1 1 := ⟨by decide +kernel, rfl⟩
theorem o_used_1 : InsA md_used 1 (.iload_n 1) 1 2 := ⟨by decide +kernel, rfl⟩
theorem o_used_2 : InsA md_used 2 (.invokevirtual 141) 3 5 := ⟨by decide +kernel, rfl⟩
theorem o_used_5 : InsB md_used 5 (.ifCond .ne 5) 3 8 (5) 10 := ⟨by decide +kernel, rfl, by decide, by decide⟩
theorem o_used_8 : InsA md_used 8 (.iconst (-1)) 1 9 := ⟨by decide +kernel, rfl⟩
theorem o_used_9 : InsA md_used 9 (.ireturn) 1 10 := ⟨by decide +kernel, rfl⟩
theorem o_used_10 : InsA md_used 10 (.aload_n 0) 1 11 := ⟨by decide +kernel, rfl⟩
theorem o_used_11 : InsA md_used 11 (.getfield 13) 3 14 := ⟨by decide +kernel, rfl⟩
theorem o_used_14 : InsA md_used 14 (.iload_n 1) 1 15 := ⟨by decide +kernel, rfl⟩
theorem o_used_15 : InsA md_used 15 (.iaload) 1 16 := ⟨by decide +kernel, rfl⟩
theorem o_used_16 : InsA md_used 16 (.ireturn) 1 17 := ⟨by decide +kernel, rfl⟩
abbrev md_reservedTask : MD := (⟨"DominantShare", "reservedTask", "()I"⟩, prog_1_method_16_code, 1, some .int, { frames := 0, cells := 0, slots := 0, locals := 0 }, 0)
theorem cv_reservedTask {Z : State} {a0 : Array Value} (H : OK Z a0) : CalV Z a0 md_reservedTask 0 := ⟨pn_DominantShare, by decide, pd___I, H.w 96 rfl, H.w 98 rfl, H.w 2 rfl, Or.inl ⟨H.w 95 rfl, H.w 97 rfl⟩⟩
theorem o_reservedTask_0 : InsA md_reservedTask 0 (.aload_n 0) 1 1 := ⟨by decide +kernel, rfl⟩
theorem o_reservedTask_1 : InsA md_reservedTask 1 (.getfield 79) 3 4 := ⟨by decide +kernel, rfl⟩
theorem o_reservedTask_4 : InsA md_reservedTask 4 (.ireturn) 1 5 := ⟨by decide +kernel, rfl⟩
abbrev md_L_law : MD := (x, code, maxLocals, ret, room_1, 16)
theorem o_L_law_0 : InsA md_L_law 0 (.new 7) 3 3 := ⟨at_0, rfl⟩
theorem o_L_law_3 : InsA md_L_law 3 (.dup) 1 4 := ⟨at_3, rfl⟩
theorem o_L_law_4 : InsA md_L_law 4 (.iload_n 0) 1 5 := ⟨at_4, rfl⟩
theorem o_L_law_5 : InsA md_L_law 5 (.iload_n 1) 1 6 := ⟨at_5, rfl⟩
theorem o_L_law_6 : InsA md_L_law 6 (.iload_n 2) 1 7 := ⟨at_6, rfl⟩
theorem o_L_law_7 : InsA md_L_law 7 (.iload_n 3) 1 8 := ⟨at_7, rfl⟩
theorem o_L_law_8 : InsA md_L_law 8 (.invokespecial 9) 3 11 := ⟨at_8, rfl⟩
theorem o_L_law_11 : InsA md_L_law 11 (.astore 5) 2 13 := ⟨at_11, rfl⟩
theorem o_L_law_13 : InsA md_L_law 13 (.iload_n 3) 1 14 := ⟨at_13, rfl⟩
theorem o_L_law_14 : InsA md_L_law 14 (.iconst 2) 1 15 := ⟨at_14, rfl⟩
theorem o_L_law_15 : InsA md_L_law 15 (.bipush 8) 2 17 := ⟨at_15, rfl⟩
theorem o_L_law_17 : InsA md_L_law 17 (.invokestatic 12) 3 20 := ⟨at_17, rfl⟩
theorem o_L_law_20 : InsA md_L_law 20 (.istore 6) 2 22 := ⟨at_20, rfl⟩
theorem o_L_law_22 : InsA md_L_law 22 (.aload 5) 2 24 := ⟨at_22, rfl⟩
theorem o_L_law_24 : InsA md_L_law 24 (.iconst 0) 1 25 := ⟨at_24, rfl⟩
theorem o_L_law_25 : InsA md_L_law 25 (.invokevirtual 18) 3 28 := ⟨at_25, rfl⟩
theorem o_L_law_28 : InsA md_L_law 28 (.iload_n 0) 1 29 := ⟨at_28, rfl⟩
theorem o_L_law_29 : InsA md_L_law 29 (.iconst 1) 1 30 := ⟨at_29, rfl⟩
theorem o_L_law_30 : InsA md_L_law 30 (.ldc 22) 2 32 := ⟨at_30, rfl⟩
theorem o_L_law_32 : InsA md_L_law 32 (.invokestatic 12) 3 35 := ⟨at_32, rfl⟩
theorem o_L_law_35 : InsB md_L_law 35 (.if_icmp .eq 5) 3 38 (5) 40 := ⟨at_35, rfl, by decide, by decide⟩
theorem o_L_law_38 : InsA md_L_law 38 (.iconst 0) 1 39 := ⟨at_38, rfl⟩
theorem o_L_law_39 : InsA md_L_law 39 (.ireturn) 1 40 := ⟨at_39, rfl⟩
theorem o_L_law_40 : InsA md_L_law 40 (.aload 5) 2 42 := ⟨at_40, rfl⟩
theorem o_L_law_42 : InsA md_L_law 42 (.iconst 1) 1 43 := ⟨at_42, rfl⟩
theorem o_L_law_43 : InsA md_L_law 43 (.invokevirtual 18) 3 46 := ⟨at_43, rfl⟩
theorem o_L_law_46 : InsA md_L_law 46 (.iload_n 1) 1 47 := ⟨at_46, rfl⟩
theorem o_L_law_47 : InsA md_L_law 47 (.iconst 1) 1 48 := ⟨at_47, rfl⟩
theorem o_L_law_48 : InsA md_L_law 48 (.ldc 22) 2 50 := ⟨at_48, rfl⟩
theorem o_L_law_50 : InsA md_L_law 50 (.invokestatic 12) 3 53 := ⟨at_50, rfl⟩
theorem o_L_law_53 : InsB md_L_law 53 (.if_icmp .eq 5) 3 56 (5) 58 := ⟨at_53, rfl, by decide, by decide⟩
theorem o_L_law_56 : InsA md_L_law 56 (.iconst 0) 1 57 := ⟨at_56, rfl⟩
theorem o_L_law_57 : InsA md_L_law 57 (.ireturn) 1 58 := ⟨at_57, rfl⟩
theorem o_L_law_58 : InsA md_L_law 58 (.aload 5) 2 60 := ⟨at_58, rfl⟩
theorem o_L_law_60 : InsA md_L_law 60 (.iconst 2) 1 61 := ⟨at_60, rfl⟩
theorem o_L_law_61 : InsA md_L_law 61 (.invokevirtual 18) 3 64 := ⟨at_61, rfl⟩
theorem o_L_law_64 : InsA md_L_law 64 (.iload_n 2) 1 65 := ⟨at_64, rfl⟩
theorem o_L_law_65 : InsA md_L_law 65 (.iconst 1) 1 66 := ⟨at_65, rfl⟩
theorem o_L_law_66 : InsA md_L_law 66 (.ldc 22) 2 68 := ⟨at_66, rfl⟩
theorem o_L_law_68 : InsA md_L_law 68 (.invokestatic 12) 3 71 := ⟨at_68, rfl⟩
theorem o_L_law_71 : InsB md_L_law 71 (.if_icmp .eq 5) 3 74 (5) 76 := ⟨at_71, rfl, by decide, by decide⟩
theorem o_L_law_74 : InsA md_L_law 74 (.iconst 0) 1 75 := ⟨at_74, rfl⟩
theorem o_L_law_75 : InsA md_L_law 75 (.ireturn) 1 76 := ⟨at_75, rfl⟩
theorem o_L_law_76 : InsA md_L_law 76 (.aload 5) 2 78 := ⟨at_76, rfl⟩
theorem o_L_law_78 : InsA md_L_law 78 (.iload 4) 2 80 := ⟨at_78, rfl⟩
theorem o_L_law_80 : InsA md_L_law 80 (.invokevirtual 23) 3 83 := ⟨at_80, rfl⟩
theorem o_L_law_83 : InsA md_L_law 83 (.istore 7) 2 85 := ⟨at_83, rfl⟩
theorem o_L_law_85 : InsA md_L_law 85 (.iload 4) 2 87 := ⟨at_85, rfl⟩
theorem o_L_law_87 : InsB md_L_law 87 (.ifCond .lt 14) 3 90 (14) 101 := ⟨at_87, rfl, by decide, by decide⟩
theorem o_L_law_90 : InsA md_L_law 90 (.iload 4) 2 92 := ⟨at_90, rfl⟩
theorem o_L_law_92 : InsA md_L_law 92 (.iload 6) 2 94 := ⟨at_92, rfl⟩
theorem o_L_law_94 : InsB md_L_law 94 (.if_icmp .ge 7) 3 97 (7) 101 := ⟨at_94, rfl, by decide, by decide⟩
theorem o_L_law_97 : InsA md_L_law 97 (.iconst 0) 1 98 := ⟨at_97, rfl⟩
theorem o_L_law_98 : InsB md_L_law 98 (.goto 4) 3 101 (4) 102 := ⟨at_98, rfl, by decide, by decide⟩
theorem o_L_law_101 : InsA md_L_law 101 (.iconst (-1)) 1 102 := ⟨at_101, rfl⟩
theorem o_L_law_102 : InsA md_L_law 102 (.istore 8) 2 104 := ⟨at_102, rfl⟩
theorem o_L_law_104 : InsA md_L_law 104 (.iload 7) 2 106 := ⟨at_104, rfl⟩
theorem o_L_law_106 : InsA md_L_law 106 (.iload 8) 2 108 := ⟨at_106, rfl⟩
theorem o_L_law_108 : InsB md_L_law 108 (.if_icmp .eq 5) 3 111 (5) 113 := ⟨at_108, rfl, by decide, by decide⟩
theorem o_L_law_111 : InsA md_L_law 111 (.iconst 0) 1 112 := ⟨at_111, rfl⟩
theorem o_L_law_112 : InsA md_L_law 112 (.ireturn) 1 113 := ⟨at_112, rfl⟩
theorem o_L_law_113 : InsA md_L_law 113 (.aload 5) 2 115 := ⟨at_113, rfl⟩
theorem o_L_law_115 : InsA md_L_law 115 (.iload 4) 2 117 := ⟨at_115, rfl⟩
theorem o_L_law_117 : InsA md_L_law 117 (.invokevirtual 26) 3 120 := ⟨at_117, rfl⟩
theorem o_L_law_120 : InsA md_L_law 120 (.istore 9) 2 122 := ⟨at_120, rfl⟩
theorem o_L_law_122 : InsA md_L_law 122 (.iload 4) 2 124 := ⟨at_122, rfl⟩
theorem o_L_law_124 : InsB md_L_law 124 (.ifCond .lt 13) 3 127 (13) 137 := ⟨at_124, rfl, by decide, by decide⟩
theorem o_L_law_127 : InsA md_L_law 127 (.iload 4) 2 129 := ⟨at_127, rfl⟩
theorem o_L_law_129 : InsA md_L_law 129 (.iconst 2) 1 130 := ⟨at_129, rfl⟩
theorem o_L_law_130 : InsB md_L_law 130 (.if_icmp .gt 7) 3 133 (7) 137 := ⟨at_130, rfl, by decide, by decide⟩
theorem o_L_law_133 : InsA md_L_law 133 (.iconst 0) 1 134 := ⟨at_133, rfl⟩
theorem o_L_law_134 : InsB md_L_law 134 (.goto 4) 3 137 (4) 138 := ⟨at_134, rfl, by decide, by decide⟩
theorem o_L_law_137 : InsA md_L_law 137 (.iconst (-1)) 1 138 := ⟨at_137, rfl⟩
theorem o_L_law_138 : InsA md_L_law 138 (.istore 10) 2 140 := ⟨at_138, rfl⟩
theorem o_L_law_140 : InsA md_L_law 140 (.iload 9) 2 142 := ⟨at_140, rfl⟩
theorem o_L_law_142 : InsA md_L_law 142 (.iload 10) 2 144 := ⟨at_142, rfl⟩
theorem o_L_law_144 : InsB md_L_law 144 (.if_icmp .eq 5) 3 147 (5) 149 := ⟨at_144, rfl, by decide, by decide⟩
theorem o_L_law_147 : InsA md_L_law 147 (.iconst 0) 1 148 := ⟨at_147, rfl⟩
theorem o_L_law_148 : InsA md_L_law 148 (.ireturn) 1 149 := ⟨at_148, rfl⟩
theorem o_L_law_149 : InsA md_L_law 149 (.aload 5) 2 151 := ⟨at_149, rfl⟩
theorem o_L_law_151 : InsA md_L_law 151 (.invokevirtual 29) 3 154 := ⟨at_151, rfl⟩
theorem o_L_law_154 : InsA md_L_law 154 (.iconst (-1)) 1 155 := ⟨at_154, rfl⟩
theorem o_L_law_155 : InsB md_L_law 155 (.if_icmp .ne 7) 3 158 (7) 162 := ⟨at_155, rfl, by decide, by decide⟩
theorem o_L_law_158 : InsA md_L_law 158 (.iconst 1) 1 159 := ⟨at_158, rfl⟩
theorem o_L_law_159 : InsB md_L_law 159 (.goto 4) 3 162 (4) 163 := ⟨at_159, rfl, by decide, by decide⟩
theorem o_L_law_162 : InsA md_L_law 162 (.iconst 0) 1 163 := ⟨at_162, rfl⟩
theorem o_L_law_163 : InsA md_L_law 163 (.ireturn) 1 164 := ⟨at_163, rfl⟩
set_option maxRecDepth 65536 in
set_option maxHeartbeats 4000000 in
theorem wp_clampInt {l : Launch} {Z : State} {a0 : Array Value} (H : OK Z a0) (F : Nat → Int32) (G : Nat → Int64) (A : Nat → Int32 → Int32) (B : Nat → Int32 → Int64) (p1 : Int32) (p2 : Int32) (p3 : Int32) {Q : Option Value → WO → Prop} (h3 : ¬ p1 < p2 → ¬ p3 < p1 → Q (some (.int p1)) (15, F, G, A, B)) (h4 : ¬ p1 < p2 → p3 < p1 → Q (some (.int p3)) (15, F, G, A, B)) (h5 : p1 < p2 → Q (some (.int p2)) (15, F, G, A, B)) :
    Wk l Z (MoC Z cdC) md_clampInt 0 [.val (.ref 0), .val (.int p1), .val (.int p2), .val (.int p3)] [] (15, F, G, A, B) 0 0 Q := by
  refine Wk.iloadN o_clampInt_0 rfl ?_
  refine Wk.iloadN o_clampInt_1 rfl ?_
  refine Wk.icmp_ge o_clampInt_2 (fun q1 => ?_) (fun q1 => ?_)
  · refine Wk.iloadN o_clampInt_7 rfl ?_
    refine Wk.iloadN o_clampInt_8 rfl ?_
    refine Wk.icmp_le o_clampInt_9 (fun q2 => ?_) (fun q2 => ?_)
    · refine Wk.iloadN o_clampInt_14 rfl ?_
      exact Wk.ireturn mrC rfl o_clampInt_15 rfl (by decide) (by decide) (h3 q1 q2)
    · refine Wk.iloadN o_clampInt_12 rfl ?_
      exact Wk.ireturn mrC rfl o_clampInt_13 rfl (by decide) (by decide) (h4 q1 q2)
  · refine Wk.iloadN o_clampInt_5 rfl ?_
    exact Wk.ireturn mrC rfl o_clampInt_6 rfl (by decide) (by decide) (h5 q1)

def f_clampInt (p1 : Int32) (p2 : Int32) (p3 : Int32) : Int32 := (if p1 < p2 then p2 else (if p3 < p1 then p3 else p1))
theorem e_clampInt (p1 : Int32) (p2 : Int32) (p3 : Int32) : f_clampInt p1 p2 p3 = (if p1 < p2 then p2 else (if p3 < p1 then p3 else p1)) := Eq.trans rfl rfl
theorem run_clampInt {l : Launch} {Z : State} {a0 : Array Value} (H : OK Z a0) (F : Nat → Int32) (G : Nat → Int64) (A : Nat → Int32 → Int32) (B : Nat → Int32 → Int64) (p1 : Int32) (p2 : Int32) (p3 : Int32) :
    Wk l Z (MoC Z cdC) md_clampInt 0 [.val (.ref 0), .val (.int p1), .val (.int p2), .val (.int p3)] [] (15, F, G, A, B) 0 0 (fun v w' => v = some (.int (f_clampInt p1 p2 p3)) ∧ w' = (15, F, G, A, B)) :=
  wp_clampInt H F G A B p1 p2 p3 (fun q1 q2 => ⟨by simp only [e_clampInt, if_neg q1, if_neg q2], rfl⟩) (fun q1 q2 => ⟨by simp only [e_clampInt, if_neg q1, if_pos q2], rfl⟩) (fun q1 => ⟨by simp only [e_clampInt, if_pos q1], rfl⟩)
set_option maxRecDepth 65536 in
set_option maxHeartbeats 4000000 in
theorem wp_allocIndex {l : Launch} {Z : State} {a0 : Array Value} (H : OK Z a0) (F : Nat → Int32) (G : Nat → Int64) (A : Nat → Int32 → Int32) (B : Nat → Int32 → Int64) (p1 : Int32) (p2 : Int32) {Q : Option Value → WO → Prop} (h1 : Q (some (.int ((p1 * (3 : Int32)) + p2))) (15, F, G, A, B)) :
    Wk l Z (MoC Z cdC) md_allocIndex 0 [.val (.ref 0), .val (.int p1), .val (.int p2)] [] (15, F, G, A, B) 0 0 Q := by
  refine Wk.iloadN o_allocIndex_0 rfl ?_
  refine Wk.iconst o_allocIndex_1 (z := (3 : Int32)) (by decide) ?_
  refine Wk.imul o_allocIndex_2 ?_
  refine Wk.iloadN o_allocIndex_3 rfl ?_
  refine Wk.iadd o_allocIndex_4 ?_
  exact Wk.ireturn mrC rfl o_allocIndex_5 rfl (by decide) (by decide) h1

def f_allocIndex (p1 : Int32) (p2 : Int32) : Int32 := ((p1 * (3 : Int32)) + p2)
theorem e_allocIndex (p1 : Int32) (p2 : Int32) : f_allocIndex p1 p2 = ((p1 * (3 : Int32)) + p2) := Eq.trans rfl rfl
theorem run_allocIndex {l : Launch} {Z : State} {a0 : Array Value} (H : OK Z a0) (F : Nat → Int32) (G : Nat → Int64) (A : Nat → Int32 → Int32) (B : Nat → Int32 → Int64) (p1 : Int32) (p2 : Int32) :
    Wk l Z (MoC Z cdC) md_allocIndex 0 [.val (.ref 0), .val (.int p1), .val (.int p2)] [] (15, F, G, A, B) 0 0 (fun v w' => v = some (.int (f_allocIndex p1 p2)) ∧ w' = (15, F, G, A, B)) :=
  wp_allocIndex H F G A B p1 p2 ⟨rfl, rfl⟩
set_option maxRecDepth 65536 in
set_option maxHeartbeats 4000000 in
theorem wp_resetUser {l : Launch} {Z : State} {a0 : Array Value} (H : OK Z a0) (F : Nat → Int32) (G : Nat → Int64) (A : Nat → Int32 → Int32) (B : Nat → Int32 → Int64) (p1 : Int32) {Q : Option Value → WO → Prop} (s1 : ¬ p1 < 0) (s2 : p1 < (8 : Int32)) (h3 : Wk l Z (MoC Z cdC) md_resetUser 45 [.val (.ref 0), .val (.int p1), .val (.int (0 : Int32))] [] (15, F, G, (ups (ups (ups (ups (ups (ups A 3 (ups (A 3) p1 (1 : Int32))) 4 (ups (A 4) p1 (32 : Int32))) 5 (ups (A 5) p1 (0 : Int32))) 6 (ups (A 6) p1 (0 : Int32))) 7 (ups (A 7) p1 (-1 : Int32))) 8 (ups (A 8) p1 (0 : Int32))), B) 0 0 Q) :
    Wk l Z (MoC Z cdC) md_resetUser 0 [.val (.ref 0), .val (.int p1), .unset] [] (15, F, G, A, B) 0 0 Q := by
  refine Wk.aloadN o_resetUser_0 rfl ?_
  refine Wk.getA (mA_userWeight) (by decide) (i' := 4) rfl (wf_userWeight H) o_resetUser_1 ?_
  refine Wk.iloadN o_resetUser_4 rfl ?_
  refine Wk.iconst o_resetUser_5 (z := (1 : Int32)) (by decide) ?_
  refine Wk.iastore (coC H) (f := (A 3)) (mA_userWeight) rfl (by decide) (i' := 4) rfl s1 s2 o_resetUser_6 ?_
  refine Wk.aloadN o_resetUser_7 rfl ?_
  refine Wk.getA (mA_userCap) (by decide) (i' := 5) rfl (wf_userCap H) o_resetUser_8 ?_
  refine Wk.iloadN o_resetUser_11 rfl ?_
  refine Wk.bipush o_resetUser_12 (z := (32 : Int32)) (by decide) ?_
  refine Wk.iastore (coC H) (f := (A 4)) (mA_userCap) rfl (by decide) (i' := 5) rfl s1 s2 o_resetUser_14 ?_
  refine Wk.aloadN o_resetUser_15 rfl ?_
  refine Wk.getA (mA_running) (by decide) (i' := 6) rfl (wf_running H) o_resetUser_16 ?_
  refine Wk.iloadN o_resetUser_19 rfl ?_
  refine Wk.iconst o_resetUser_20 (z := (0 : Int32)) (by decide) ?_
  refine Wk.iastore (coC H) (f := (A 5)) (mA_running) rfl (by decide) (i' := 6) rfl s1 s2 o_resetUser_21 ?_
  refine Wk.aloadN o_resetUser_22 rfl ?_
  refine Wk.getA (mA_pendingCount) (by decide) (i' := 7) rfl (wf_pendingCount H) o_resetUser_23 ?_
  refine Wk.iloadN o_resetUser_26 rfl ?_
  refine Wk.iconst o_resetUser_27 (z := (0 : Int32)) (by decide) ?_
  refine Wk.iastore (coC H) (f := (A 6)) (mA_pendingCount) rfl (by decide) (i' := 7) rfl s1 s2 o_resetUser_28 ?_
  refine Wk.aloadN o_resetUser_29 rfl ?_
  refine Wk.getA (mA_headSlot) (by decide) (i' := 8) rfl (wf_headSlot H) o_resetUser_30 ?_
  refine Wk.iloadN o_resetUser_33 rfl ?_
  refine Wk.iconst o_resetUser_34 (z := (-1 : Int32)) (by decide) ?_
  refine Wk.iastore (coC H) (f := (A 7)) (mA_headSlot) rfl (by decide) (i' := 8) rfl s1 s2 o_resetUser_35 ?_
  refine Wk.aloadN o_resetUser_36 rfl ?_
  refine Wk.getA (mA_domRes) (by decide) (i' := 9) rfl (wf_domRes H) o_resetUser_37 ?_
  refine Wk.iloadN o_resetUser_40 rfl ?_
  refine Wk.iconst o_resetUser_41 (z := (0 : Int32)) (by decide) ?_
  refine Wk.iastore (coC H) (f := (A 8)) (mA_domRes) rfl (by decide) (i' := 9) rfl s1 s2 o_resetUser_42 ?_
  refine Wk.iconst o_resetUser_43 (z := (0 : Int32)) (by decide) ?_
  refine Wk.istoreN o_resetUser_44 (Or.inl rfl) (L' := [.val (.ref 0), .val (.int p1), .val (.int (0 : Int32))]) rfl ?_
  exact h3

set_option maxRecDepth 65536 in
set_option maxHeartbeats 4000000 in
theorem wp_resetUser_45 {l : Launch} {Z : State} {a0 : Array Value} (H : OK Z a0) (F : Nat → Int32) (G : Nat → Int64) (A : Nat → Int32 → Int32) (B : Nat → Int32 → Int64) (v1 : Int32) (v2 : Int32) {Q : Option Value → WO → Prop} (h2 : ¬ v2 < (3 : Int32) → Q none (15, F, G, A, B)) (s3 : v2 < (3 : Int32) → ¬ (f_allocIndex v1 v2) < 0) (s4 : v2 < (3 : Int32) → (f_allocIndex v1 v2) < (24 : Int32)) (h5 : v2 < (3 : Int32) → Wk l Z (MoC Z cdC) md_resetUser 45 [.val (.ref 0), .val (.int v1), .val (.int (v2 + (1 : Int32)))] [] (15, F, G, (ups A 9 (ups (A 9) (f_allocIndex v1 v2) (0 : Int32))), B) 0 0 Q) :
    Wk l Z (MoC Z cdC) md_resetUser 45 [.val (.ref 0), .val (.int v1), .val (.int v2)] [] (15, F, G, A, B) 0 0 Q := by
  refine Wk.iloadN o_resetUser_45 rfl ?_
  refine Wk.iconst o_resetUser_46 (z := (3 : Int32)) (by decide) ?_
  refine Wk.icmp_ge o_resetUser_47 (fun q1 => ?_) (fun q1 => ?_)
  · exact Wk.ret mrC rfl o_resetUser_68 rfl (by decide) (by decide) (h2 q1)
  · refine Wk.aloadN o_resetUser_50 rfl ?_
    refine Wk.getA (mA_alloc) (by decide) (i' := 10) rfl (wf_alloc H) o_resetUser_51 ?_
    refine Wk.aloadN o_resetUser_54 rfl ?_
    refine Wk.iloadN o_resetUser_55 rfl ?_
    refine Wk.iloadN o_resetUser_56 rfl ?_
    refine Wk.callF [.int v1, .int v2] [.ref 10] (H.w 52 rfl) (cv_allocIndex H) o_resetUser_57 (run_allocIndex H F G A B v1 v2) (wt := 1) (cu' := 0) (su' := 0) (by decide) rfl rfl rfl rfl rfl rfl rfl ?_
    refine Wk.iconst o_resetUser_60 (z := (0 : Int32)) (by decide) ?_
    refine Wk.iastore (coC H) (f := (A 9)) (mA_alloc) rfl (by decide) (i' := 10) rfl (s3 q1) (s4 q1) o_resetUser_61 ?_
    refine Wk.iinc o_resetUser_62 rfl (z := (v2 + (1 : Int32))) rfl (L' := [.val (.ref 0), .val (.int v1), .val (.int (v2 + (1 : Int32)))]) rfl ?_
    refine Wk.goto o_resetUser_65 ?_
    exact (h5 q1)

theorem aix (p r : Int32) (h0 : ¬ p < 0) (h1 : p < 8) (r0 : ¬ r < 0) (r1 : r < 3) : ¬ f_allocIndex p r < 0 ∧ f_allocIndex p r < 24 := by
  rw [e_allocIndex]; grind
def w_rs (A : Nat → Int32 → Int32) (x : Int32) : Nat → Int32 → Int32 := ups A 9 (ups (A 9) x (0 : Int32))
def A_resetUser (A : Nat → Int32 → Int32) (p1 : Int32) : Nat → Int32 → Int32 := w_rs (w_rs (w_rs (ups (ups (ups (ups (ups (ups A 3 (ups (A 3) p1 (1 : Int32))) 4 (ups (A 4) p1 (32 : Int32))) 5 (ups (A 5) p1 (0 : Int32))) 6 (ups (A 6) p1 (0 : Int32))) 7 (ups (A 7) p1 (-1 : Int32))) 8 (ups (A 8) p1 (0 : Int32))) (f_allocIndex p1 (0 : Int32))) (f_allocIndex p1 ((0 : Int32) + (1 : Int32)))) (f_allocIndex p1 (((0 : Int32) + (1 : Int32)) + (1 : Int32)))
theorem eA_resetUser (A : Nat → Int32 → Int32) (p1 : Int32) : A_resetUser A p1 = w_rs (w_rs (w_rs (ups (ups (ups (ups (ups (ups A 3 (ups (A 3) p1 (1 : Int32))) 4 (ups (A 4) p1 (32 : Int32))) 5 (ups (A 5) p1 (0 : Int32))) 6 (ups (A 6) p1 (0 : Int32))) 7 (ups (A 7) p1 (-1 : Int32))) 8 (ups (A 8) p1 (0 : Int32))) (f_allocIndex p1 (0 : Int32))) (f_allocIndex p1 ((0 : Int32) + (1 : Int32)))) (f_allocIndex p1 (((0 : Int32) + (1 : Int32)) + (1 : Int32))) := Eq.trans rfl rfl
theorem run_resetUser {l : Launch} {Z : State} {a0 : Array Value} (H : OK Z a0) (F : Nat → Int32) (G : Nat → Int64) (A : Nat → Int32 → Int32) (B : Nat → Int32 → Int64) (p1 : Int32) (e1 : ¬ p1 < 0) (e2 : p1 < 8) : Wk l Z (MoC Z cdC) md_resetUser 0 [.val (.ref 0), .val (.int p1), .unset] [] (15, F, G, A, B) 0 0 (fun v w' => v = none ∧ w' = (15, F, G, (A_resetUser A p1), B)) := by
  refine wp_resetUser H F G A B p1 e1 e2 ?_
  refine wp_resetUser_45 H F G _ B p1 (0 : Int32) (fun h => absurd (by decide) h) (fun _ => (aix p1 (0 : Int32) e1 e2 (by decide) (by decide)).1) (fun _ => (aix p1 (0 : Int32) e1 e2 (by decide) (by decide)).2) (fun _ => ?_)
  refine wp_resetUser_45 H F G _ B p1 ((0 : Int32) + (1 : Int32)) (fun h => absurd (by decide) h) (fun _ => (aix p1 ((0 : Int32) + (1 : Int32)) e1 e2 (by decide) (by decide)).1) (fun _ => (aix p1 ((0 : Int32) + (1 : Int32)) e1 e2 (by decide) (by decide)).2) (fun _ => ?_)
  refine wp_resetUser_45 H F G _ B p1 (((0 : Int32) + (1 : Int32)) + (1 : Int32)) (fun h => absurd (by decide) h) (fun _ => (aix p1 (((0 : Int32) + (1 : Int32)) + (1 : Int32)) e1 e2 (by decide) (by decide)).1) (fun _ => (aix p1 (((0 : Int32) + (1 : Int32)) + (1 : Int32)) e1 e2 (by decide) (by decide)).2) (fun _ => ?_)
  exact wp_resetUser_45 H F G _ B p1 ((((0 : Int32) + (1 : Int32)) + (1 : Int32)) + (1 : Int32)) (fun _ => ⟨rfl, rfl⟩) (fun h => absurd h (by decide)) (fun h => absurd h (by decide)) (fun h => absurd h (by decide))
set_option maxRecDepth 65536 in
set_option maxHeartbeats 4000000 in
theorem wp_clearSlotFields {l : Launch} {Z : State} {a0 : Array Value} (H : OK Z a0) (F : Nat → Int32) (G : Nat → Int64) (A : Nat → Int32 → Int32) (B : Nat → Int32 → Int64) (p1 : Int32) {Q : Option Value → WO → Prop} (s1 : ¬ p1 < 0) (s2 : p1 < (32 : Int32)) (h3 : Wk l Z (MoC Z cdC) md_clearSlotFields 30 [.val (.ref 0), .val (.int p1), .val (.int (0 : Int32))] [] (15, F, G, (ups (ups (ups A 10 (ups (A 10) p1 (0 : Int32))) 11 (ups (A 11) p1 (-1 : Int32))) 12 (ups (A 12) p1 (0 : Int32))), (ups B 14 (ups (B 14) p1 (0 : Int64)))) 0 0 Q) :
    Wk l Z (MoC Z cdC) md_clearSlotFields 0 [.val (.ref 0), .val (.int p1), .unset] [] (15, F, G, A, B) 0 0 Q := by
  refine Wk.aloadN o_clearSlotFields_0 rfl ?_
  refine Wk.getA (mA_slotState) (by decide) (i' := 11) rfl (wf_slotState H) o_clearSlotFields_1 ?_
  refine Wk.iloadN o_clearSlotFields_4 rfl ?_
  refine Wk.iconst o_clearSlotFields_5 (z := (0 : Int32)) (by decide) ?_
  refine Wk.iastore (coC H) (f := (A 10)) (mA_slotState) rfl (by decide) (i' := 11) rfl s1 s2 o_clearSlotFields_6 ?_
  refine Wk.aloadN o_clearSlotFields_7 rfl ?_
  refine Wk.getA (mA_slotUser) (by decide) (i' := 12) rfl (wf_slotUser H) o_clearSlotFields_8 ?_
  refine Wk.iloadN o_clearSlotFields_11 rfl ?_
  refine Wk.iconst o_clearSlotFields_12 (z := (-1 : Int32)) (by decide) ?_
  refine Wk.iastore (coC H) (f := (A 11)) (mA_slotUser) rfl (by decide) (i' := 12) rfl s1 s2 o_clearSlotFields_13 ?_
  refine Wk.aloadN o_clearSlotFields_14 rfl ?_
  refine Wk.getA (mA_slotGang) (by decide) (i' := 13) rfl (wf_slotGang H) o_clearSlotFields_15 ?_
  refine Wk.iloadN o_clearSlotFields_18 rfl ?_
  refine Wk.iconst o_clearSlotFields_19 (z := (0 : Int32)) (by decide) ?_
  refine Wk.iastore (coC H) (f := (A 12)) (mA_slotGang) rfl (by decide) (i' := 13) rfl s1 s2 o_clearSlotFields_20 ?_
  refine Wk.aloadN o_clearSlotFields_21 rfl ?_
  refine Wk.getA (mA_slotSeq) (by decide) (i' := 15) rfl (wf_slotSeq H) o_clearSlotFields_22 ?_
  refine Wk.iloadN o_clearSlotFields_25 rfl ?_
  refine Wk.lconst o_clearSlotFields_26 (z := (0 : Int64)) (by decide) ?_
  refine Wk.lastore (coC H) (f := (B 14)) (mA_slotSeq) rfl (by decide) (i' := 15) rfl s1 s2 o_clearSlotFields_27 ?_
  refine Wk.iconst o_clearSlotFields_28 (z := (0 : Int32)) (by decide) ?_
  refine Wk.istoreN o_clearSlotFields_29 (Or.inl rfl) (L' := [.val (.ref 0), .val (.int p1), .val (.int (0 : Int32))]) rfl ?_
  exact h3

set_option maxRecDepth 65536 in
set_option maxHeartbeats 4000000 in
theorem wp_clearSlotFields_30 {l : Launch} {Z : State} {a0 : Array Value} (H : OK Z a0) (F : Nat → Int32) (G : Nat → Int64) (A : Nat → Int32 → Int32) (B : Nat → Int32 → Int64) (v1 : Int32) (v2 : Int32) {Q : Option Value → WO → Prop} (h2 : ¬ v2 < (3 : Int32) → Q none (15, F, G, A, B)) (s3 : v2 < (3 : Int32) → ¬ ((v1 * (3 : Int32)) + v2) < 0) (s4 : v2 < (3 : Int32) → ((v1 * (3 : Int32)) + v2) < (96 : Int32)) (h5 : v2 < (3 : Int32) → Wk l Z (MoC Z cdC) md_clearSlotFields 30 [.val (.ref 0), .val (.int v1), .val (.int (v2 + (1 : Int32)))] [] (15, F, G, (ups A 13 (ups (A 13) ((v1 * (3 : Int32)) + v2) (0 : Int32))), B) 0 0 Q) :
    Wk l Z (MoC Z cdC) md_clearSlotFields 30 [.val (.ref 0), .val (.int v1), .val (.int v2)] [] (15, F, G, A, B) 0 0 Q := by
  refine Wk.iloadN o_clearSlotFields_30 rfl ?_
  refine Wk.iconst o_clearSlotFields_31 (z := (3 : Int32)) (by decide) ?_
  refine Wk.icmp_ge o_clearSlotFields_32 (fun q1 => ?_) (fun q1 => ?_)
  · exact Wk.ret mrC rfl o_clearSlotFields_52 rfl (by decide) (by decide) (h2 q1)
  · refine Wk.aloadN o_clearSlotFields_35 rfl ?_
    refine Wk.getA (mA_slotDemand) (by decide) (i' := 14) rfl (wf_slotDemand H) o_clearSlotFields_36 ?_
    refine Wk.iloadN o_clearSlotFields_39 rfl ?_
    refine Wk.iconst o_clearSlotFields_40 (z := (3 : Int32)) (by decide) ?_
    refine Wk.imul o_clearSlotFields_41 ?_
    refine Wk.iloadN o_clearSlotFields_42 rfl ?_
    refine Wk.iadd o_clearSlotFields_43 ?_
    refine Wk.iconst o_clearSlotFields_44 (z := (0 : Int32)) (by decide) ?_
    refine Wk.iastore (coC H) (f := (A 13)) (mA_slotDemand) rfl (by decide) (i' := 14) rfl (s3 q1) (s4 q1) o_clearSlotFields_45 ?_
    refine Wk.iinc o_clearSlotFields_46 rfl (z := (v2 + (1 : Int32))) rfl (L' := [.val (.ref 0), .val (.int v1), .val (.int (v2 + (1 : Int32)))]) rfl ?_
    refine Wk.goto o_clearSlotFields_49 ?_
    exact (h5 q1)

theorem six (p r : Int32) (h0 : ¬ p < 0) (h1 : p < 32) (r0 : ¬ r < 0) (r1 : r < 3) : ¬ ((p * 3) + r) < 0 ∧ ((p * 3) + r) < 96 := by
  grind
def w_sd (A : Nat → Int32 → Int32) (x : Int32) : Nat → Int32 → Int32 := ups A 13 (ups (A 13) x (0 : Int32))
def A_clearSlotFields (A : Nat → Int32 → Int32) (p1 : Int32) : Nat → Int32 → Int32 := w_sd (w_sd (w_sd (ups (ups (ups A 10 (ups (A 10) p1 (0 : Int32))) 11 (ups (A 11) p1 (-1 : Int32))) 12 (ups (A 12) p1 (0 : Int32))) (p1 * 3 + (0 : Int32))) (p1 * 3 + ((0 : Int32) + (1 : Int32)))) (p1 * 3 + (((0 : Int32) + (1 : Int32)) + (1 : Int32)))
theorem eA_clearSlotFields (A : Nat → Int32 → Int32) (p1 : Int32) : A_clearSlotFields A p1 = w_sd (w_sd (w_sd (ups (ups (ups A 10 (ups (A 10) p1 (0 : Int32))) 11 (ups (A 11) p1 (-1 : Int32))) 12 (ups (A 12) p1 (0 : Int32))) (p1 * 3 + (0 : Int32))) (p1 * 3 + ((0 : Int32) + (1 : Int32)))) (p1 * 3 + (((0 : Int32) + (1 : Int32)) + (1 : Int32))) := Eq.trans rfl rfl
def B_clearSlotFields (B : Nat → Int32 → Int64) (p1 : Int32) : Nat → Int32 → Int64 := (ups B 14 (ups (B 14) p1 (0 : Int64)))
theorem eB_clearSlotFields (B : Nat → Int32 → Int64) (p1 : Int32) : B_clearSlotFields B p1 = (ups B 14 (ups (B 14) p1 (0 : Int64))) := Eq.trans rfl rfl
theorem run_clearSlotFields {l : Launch} {Z : State} {a0 : Array Value} (H : OK Z a0) (F : Nat → Int32) (G : Nat → Int64) (A : Nat → Int32 → Int32) (B : Nat → Int32 → Int64) (p1 : Int32) (e1 : ¬ p1 < 0) (e2 : p1 < 32) : Wk l Z (MoC Z cdC) md_clearSlotFields 0 [.val (.ref 0), .val (.int p1), .unset] [] (15, F, G, A, B) 0 0 (fun v w' => v = none ∧ w' = (15, F, G, (A_clearSlotFields A p1), (B_clearSlotFields B p1))) := by
  refine wp_clearSlotFields H F G A B p1 e1 e2 ?_
  refine wp_clearSlotFields_30 H F G _ _ p1 (0 : Int32) (fun h => absurd (by decide) h) (fun _ => (six p1 (0 : Int32) e1 e2 (by decide) (by decide)).1) (fun _ => (six p1 (0 : Int32) e1 e2 (by decide) (by decide)).2) (fun _ => ?_)
  refine wp_clearSlotFields_30 H F G _ _ p1 ((0 : Int32) + (1 : Int32)) (fun h => absurd (by decide) h) (fun _ => (six p1 ((0 : Int32) + (1 : Int32)) e1 e2 (by decide) (by decide)).1) (fun _ => (six p1 ((0 : Int32) + (1 : Int32)) e1 e2 (by decide) (by decide)).2) (fun _ => ?_)
  refine wp_clearSlotFields_30 H F G _ _ p1 (((0 : Int32) + (1 : Int32)) + (1 : Int32)) (fun h => absurd (by decide) h) (fun _ => (six p1 (((0 : Int32) + (1 : Int32)) + (1 : Int32)) e1 e2 (by decide) (by decide)).1) (fun _ => (six p1 (((0 : Int32) + (1 : Int32)) + (1 : Int32)) e1 e2 (by decide) (by decide)).2) (fun _ => ?_)
  exact wp_clearSlotFields_30 H F G _ _ p1 ((((0 : Int32) + (1 : Int32)) + (1 : Int32)) + (1 : Int32)) (fun _ => ⟨rfl, rfl⟩) (fun h => absurd h (by decide)) (fun h => absurd h (by decide)) (fun h => absurd h (by decide))
def itS {σ : Type} (f : σ → Int32 → σ) : Nat → Int32 → σ → σ
  | 0, _, s => s
  | n + 1, i, s => itS f n (i + 1) (f s i)
theorem itS_inv {σ : Type} (f : σ → Int32 → σ) (P : σ → Prop) (h : ∀ s i, P s → P (f s i)) : ∀ (n : Nat) (i : Int32) (s : σ), P s → P (itS f n i s)
  | 0, _, _, hs => hs
  | n + 1, i, s, hs => itS_inv f P h n (i + 1) (f s i) (h s i hs)
theorem itUp {σ : Type} (At : Int32 → σ → Prop) (f : σ → Int32 → σ) (n : Int32) (hs : ∀ i s, ¬ i < 0 → i < n → At (i + 1) (f s i) → At i s) :
    ∀ (k : Nat) (i : Int32) (s : σ), ¬ i < 0 → i.toInt + k = n.toInt → At n (itS f k i s) → At i s
  | 0, i, s, _, hk, h => by
    have e : i = n := Int32.toInt_inj.mp (by omega)
    subst e; exact h
  | k + 1, i, s, h0, hk, h => by
    have hlt : i < n := lt_i.mpr (by omega)
    have e := succ_toInt hlt
    refine hs i s h0 hlt (itUp At f n hs k (i + 1) (f s i) ?_ (by omega) h)
    have z : (0 : Int32).toInt = 0 := by decide
    rw [lt_i] at h0 ⊢; omega
set_option maxRecDepth 65536 in
set_option maxHeartbeats 4000000 in
theorem wp_init {l : Launch} {Z : State} {a0 : Array Value} (H : OK Z a0) (p1 : Int32) (p2 : Int32) (p3 : Int32) (p4 : Int32) {Q : Option Value → WO → Prop} (h1 : Wk l Z (MoC Z cdC) md_init 179 [.val (.ref 0), .unset, .unset, .unset, .unset, .val (.int (0 : Int32))] [] (15, (ups (fun _ => 0) 0 (f_clampInt p4 (2 : Int32) (8 : Int32))), (fun _ => 0), (ups (ups (ups (fun _ _ => 0) 0 (ups ((fun _ _ => 0) 0) (0 : Int32) (f_clampInt p1 (1 : Int32) (1000000 : Int32)))) 0 (ups (ups ((fun _ _ => 0) 0) (0 : Int32) (f_clampInt p1 (1 : Int32) (1000000 : Int32))) (1 : Int32) (f_clampInt p2 (1 : Int32) (1000000 : Int32)))) 0 (ups (ups (ups ((fun _ _ => 0) 0) (0 : Int32) (f_clampInt p1 (1 : Int32) (1000000 : Int32))) (1 : Int32) (f_clampInt p2 (1 : Int32) (1000000 : Int32))) (2 : Int32) (f_clampInt p3 (1 : Int32) (1000000 : Int32)))), (fun _ _ => 0)) 15 305 Q) :
    Wk l Z (MoC Z cdC) md_init 0 [.val (.ref 0), .val (.int p1), .val (.int p2), .val (.int p3), .val (.int p4), .unset] [] (0, (fun _ => 0), (fun _ => 0), (fun _ _ => 0), (fun _ _ => 0)) 0 0 Q := by
  refine Wk.aloadN o_init_0 rfl ?_
  refine Wk.initO (H.w 6 rfl) (H.w 7 rfl) (H.w 8 rfl) o_init_1 rfl (by decide) (by decide) ?_
  refine Wk.aloadN o_init_4 rfl ?_
  refine Wk.iconst o_init_5 (z := (3 : Int32)) (by decide) ?_
  refine Wk.newA (coC H) (aty := .int) rfl (wa_int H) (mA_capRes) (wf_capRes H) (Or.inr ⟨wy_capRes H, rfl⟩) o_init_6 o_init_8 rfl rfl (k' := 1) rfl (cu' := 1) rfl (su' := 3) rfl (by decide) (by decide) (by decide) ?_
  refine Wk.aloadN o_init_11 rfl ?_
  refine Wk.iconst o_init_12 (z := (3 : Int32)) (by decide) ?_
  refine Wk.newA (coC H) (aty := .int) rfl (wa_int H) (mA_usedRes) (wf_usedRes H) (Or.inr ⟨wy_usedRes H, rfl⟩) o_init_13 o_init_15 rfl rfl (k' := 2) rfl (cu' := 2) rfl (su' := 6) rfl (by decide) (by decide) (by decide) ?_
  refine Wk.aloadN o_init_18 rfl ?_
  refine Wk.iconst o_init_19 (z := (3 : Int32)) (by decide) ?_
  refine Wk.newA (coC H) (aty := .int) rfl (wa_int H) (mA_staged) (wf_staged H) (Or.inr ⟨wy_staged H, rfl⟩) o_init_20 o_init_22 rfl rfl (k' := 3) rfl (cu' := 3) rfl (su' := 9) rfl (by decide) (by decide) (by decide) ?_
  refine Wk.aloadN o_init_25 rfl ?_
  refine Wk.bipush o_init_26 (z := (8 : Int32)) (by decide) ?_
  refine Wk.newA (coC H) (aty := .int) rfl (wa_int H) (mA_userWeight) (wf_userWeight H) (Or.inr ⟨wy_userWeight H, rfl⟩) o_init_28 o_init_30 rfl rfl (k' := 4) rfl (cu' := 4) rfl (su' := 17) rfl (by decide) (by decide) (by decide) ?_
  refine Wk.aloadN o_init_33 rfl ?_
  refine Wk.bipush o_init_34 (z := (8 : Int32)) (by decide) ?_
  refine Wk.newA (coC H) (aty := .int) rfl (wa_int H) (mA_userCap) (wf_userCap H) (Or.inr ⟨wy_userCap H, rfl⟩) o_init_36 o_init_38 rfl rfl (k' := 5) rfl (cu' := 5) rfl (su' := 25) rfl (by decide) (by decide) (by decide) ?_
  refine Wk.aloadN o_init_41 rfl ?_
  refine Wk.bipush o_init_42 (z := (8 : Int32)) (by decide) ?_
  refine Wk.newA (coC H) (aty := .int) rfl (wa_int H) (mA_running) (wf_running H) (Or.inr ⟨wy_running H, rfl⟩) o_init_44 o_init_46 rfl rfl (k' := 6) rfl (cu' := 6) rfl (su' := 33) rfl (by decide) (by decide) (by decide) ?_
  refine Wk.aloadN o_init_49 rfl ?_
  refine Wk.bipush o_init_50 (z := (8 : Int32)) (by decide) ?_
  refine Wk.newA (coC H) (aty := .int) rfl (wa_int H) (mA_pendingCount) (wf_pendingCount H) (Or.inr ⟨wy_pendingCount H, rfl⟩) o_init_52 o_init_54 rfl rfl (k' := 7) rfl (cu' := 7) rfl (su' := 41) rfl (by decide) (by decide) (by decide) ?_
  refine Wk.aloadN o_init_57 rfl ?_
  refine Wk.bipush o_init_58 (z := (8 : Int32)) (by decide) ?_
  refine Wk.newA (coC H) (aty := .int) rfl (wa_int H) (mA_headSlot) (wf_headSlot H) (Or.inr ⟨wy_headSlot H, rfl⟩) o_init_60 o_init_62 rfl rfl (k' := 8) rfl (cu' := 8) rfl (su' := 49) rfl (by decide) (by decide) (by decide) ?_
  refine Wk.aloadN o_init_65 rfl ?_
  refine Wk.bipush o_init_66 (z := (8 : Int32)) (by decide) ?_
  refine Wk.newA (coC H) (aty := .int) rfl (wa_int H) (mA_domRes) (wf_domRes H) (Or.inr ⟨wy_domRes H, rfl⟩) o_init_68 o_init_70 rfl rfl (k' := 9) rfl (cu' := 9) rfl (su' := 57) rfl (by decide) (by decide) (by decide) ?_
  refine Wk.aloadN o_init_73 rfl ?_
  refine Wk.bipush o_init_74 (z := (24 : Int32)) (by decide) ?_
  refine Wk.newA (coC H) (aty := .int) rfl (wa_int H) (mA_alloc) (wf_alloc H) (Or.inr ⟨wy_alloc H, rfl⟩) o_init_76 o_init_78 rfl rfl (k' := 10) rfl (cu' := 10) rfl (su' := 81) rfl (by decide) (by decide) (by decide) ?_
  refine Wk.aloadN o_init_81 rfl ?_
  refine Wk.bipush o_init_82 (z := (32 : Int32)) (by decide) ?_
  refine Wk.newA (coC H) (aty := .int) rfl (wa_int H) (mA_slotState) (wf_slotState H) (Or.inr ⟨wy_slotState H, rfl⟩) o_init_84 o_init_86 rfl rfl (k' := 11) rfl (cu' := 11) rfl (su' := 113) rfl (by decide) (by decide) (by decide) ?_
  refine Wk.aloadN o_init_89 rfl ?_
  refine Wk.bipush o_init_90 (z := (32 : Int32)) (by decide) ?_
  refine Wk.newA (coC H) (aty := .int) rfl (wa_int H) (mA_slotUser) (wf_slotUser H) (Or.inr ⟨wy_slotUser H, rfl⟩) o_init_92 o_init_94 rfl rfl (k' := 12) rfl (cu' := 12) rfl (su' := 145) rfl (by decide) (by decide) (by decide) ?_
  refine Wk.aloadN o_init_97 rfl ?_
  refine Wk.bipush o_init_98 (z := (32 : Int32)) (by decide) ?_
  refine Wk.newA (coC H) (aty := .int) rfl (wa_int H) (mA_slotGang) (wf_slotGang H) (Or.inr ⟨wy_slotGang H, rfl⟩) o_init_100 o_init_102 rfl rfl (k' := 13) rfl (cu' := 13) rfl (su' := 177) rfl (by decide) (by decide) (by decide) ?_
  refine Wk.aloadN o_init_105 rfl ?_
  refine Wk.bipush o_init_106 (z := (96 : Int32)) (by decide) ?_
  refine Wk.newA (coC H) (aty := .int) rfl (wa_int H) (mA_slotDemand) (wf_slotDemand H) (Or.inr ⟨wy_slotDemand H, rfl⟩) o_init_108 o_init_110 rfl rfl (k' := 14) rfl (cu' := 14) rfl (su' := 273) rfl (by decide) (by decide) (by decide) ?_
  refine Wk.aloadN o_init_113 rfl ?_
  refine Wk.bipush o_init_114 (z := (32 : Int32)) (by decide) ?_
  refine Wk.newA (coC H) (aty := .long) rfl (wa_long H) (mA_slotSeq) (wf_slotSeq H) (Or.inr ⟨wy_slotSeq H, rfl⟩) o_init_116 o_init_118 rfl rfl (k' := 15) rfl (cu' := 15) rfl (su' := 305) rfl (by decide) (by decide) (by decide) ?_
  refine Wk.aloadN o_init_121 rfl ?_
  refine Wk.getA (mA_capRes) (by decide) (i' := 1) rfl (wf_capRes H) o_init_122 ?_
  refine Wk.iconst o_init_125 (z := (0 : Int32)) (by decide) ?_
  refine Wk.aloadN o_init_126 rfl ?_
  refine Wk.iloadN o_init_127 rfl ?_
  refine Wk.iconst o_init_128 (z := (1 : Int32)) (by decide) ?_
  refine Wk.ldc o_init_129 (z := (1000000 : Int32)) (H.w 41 rfl) ?_
  refine Wk.callF [.int p1, .int (1 : Int32), .int (1000000 : Int32)] [.int (0 : Int32), .ref 1] (H.w 42 rfl) (cv_clampInt H) o_init_131 (run_clampInt H (fun _ => 0) (fun _ => 0) (fun _ _ => 0) (fun _ _ => 0) p1 (1 : Int32) (1000000 : Int32)) (wt := 2) (cu' := 15) (su' := 305) (by decide) rfl rfl rfl rfl rfl rfl rfl ?_
  refine Wk.iastore (coC H) (f := ((fun _ _ => 0) 0)) (mA_capRes) rfl (by decide) (i' := 1) rfl (by decide) (by decide) o_init_134 ?_
  refine Wk.aloadN o_init_135 rfl ?_
  refine Wk.getA (mA_capRes) (by decide) (i' := 1) rfl (wf_capRes H) o_init_136 ?_
  refine Wk.iconst o_init_139 (z := (1 : Int32)) (by decide) ?_
  refine Wk.aloadN o_init_140 rfl ?_
  refine Wk.iloadN o_init_141 rfl ?_
  refine Wk.iconst o_init_142 (z := (1 : Int32)) (by decide) ?_
  refine Wk.ldc o_init_143 (z := (1000000 : Int32)) (H.w 41 rfl) ?_
  refine Wk.callF [.int p2, .int (1 : Int32), .int (1000000 : Int32)] [.int (1 : Int32), .ref 1] (H.w 42 rfl) (cv_clampInt H) o_init_145 (run_clampInt H (fun _ => 0) (fun _ => 0) (ups (fun _ _ => 0) 0 (ups ((fun _ _ => 0) 0) (0 : Int32) (f_clampInt p1 (1 : Int32) (1000000 : Int32)))) (fun _ _ => 0) p2 (1 : Int32) (1000000 : Int32)) (wt := 2) (cu' := 15) (su' := 305) (by decide) rfl rfl rfl rfl rfl rfl rfl ?_
  refine Wk.iastore (coC H) (f := (ups ((fun _ _ => 0) 0) (0 : Int32) (f_clampInt p1 (1 : Int32) (1000000 : Int32)))) (mA_capRes) rfl (by decide) (i' := 1) rfl (by decide) (by decide) o_init_148 ?_
  refine Wk.aloadN o_init_149 rfl ?_
  refine Wk.getA (mA_capRes) (by decide) (i' := 1) rfl (wf_capRes H) o_init_150 ?_
  refine Wk.iconst o_init_153 (z := (2 : Int32)) (by decide) ?_
  refine Wk.aloadN o_init_154 rfl ?_
  refine Wk.iloadN o_init_155 rfl ?_
  refine Wk.iconst o_init_156 (z := (1 : Int32)) (by decide) ?_
  refine Wk.ldc o_init_157 (z := (1000000 : Int32)) (H.w 41 rfl) ?_
  refine Wk.callF [.int p3, .int (1 : Int32), .int (1000000 : Int32)] [.int (2 : Int32), .ref 1] (H.w 42 rfl) (cv_clampInt H) o_init_159 (run_clampInt H (fun _ => 0) (fun _ => 0) (ups (ups (fun _ _ => 0) 0 (ups ((fun _ _ => 0) 0) (0 : Int32) (f_clampInt p1 (1 : Int32) (1000000 : Int32)))) 0 (ups (ups ((fun _ _ => 0) 0) (0 : Int32) (f_clampInt p1 (1 : Int32) (1000000 : Int32))) (1 : Int32) (f_clampInt p2 (1 : Int32) (1000000 : Int32)))) (fun _ _ => 0) p3 (1 : Int32) (1000000 : Int32)) (wt := 2) (cu' := 15) (su' := 305) (by decide) rfl rfl rfl rfl rfl rfl rfl ?_
  refine Wk.iastore (coC H) (f := (ups (ups ((fun _ _ => 0) 0) (0 : Int32) (f_clampInt p1 (1 : Int32) (1000000 : Int32))) (1 : Int32) (f_clampInt p2 (1 : Int32) (1000000 : Int32)))) (mA_capRes) rfl (by decide) (i' := 1) rfl (by decide) (by decide) o_init_162 ?_
  refine Wk.aloadN o_init_163 rfl ?_
  refine Wk.aloadN o_init_164 rfl ?_
  refine Wk.iload o_init_165 rfl ?_
  refine Wk.iconst o_init_167 (z := (2 : Int32)) (by decide) ?_
  refine Wk.bipush o_init_168 (z := (8 : Int32)) (by decide) ?_
  refine Wk.callF [.int p4, .int (2 : Int32), .int (8 : Int32)] [.ref 0] (H.w 42 rfl) (cv_clampInt H) o_init_170 (run_clampInt H (fun _ => 0) (fun _ => 0) (ups (ups (ups (fun _ _ => 0) 0 (ups ((fun _ _ => 0) 0) (0 : Int32) (f_clampInt p1 (1 : Int32) (1000000 : Int32)))) 0 (ups (ups ((fun _ _ => 0) 0) (0 : Int32) (f_clampInt p1 (1 : Int32) (1000000 : Int32))) (1 : Int32) (f_clampInt p2 (1 : Int32) (1000000 : Int32)))) 0 (ups (ups (ups ((fun _ _ => 0) 0) (0 : Int32) (f_clampInt p1 (1 : Int32) (1000000 : Int32))) (1 : Int32) (f_clampInt p2 (1 : Int32) (1000000 : Int32))) (2 : Int32) (f_clampInt p3 (1 : Int32) (1000000 : Int32)))) (fun _ _ => 0) p4 (2 : Int32) (8 : Int32)) (wt := 1) (cu' := 15) (su' := 305) (by decide) rfl rfl rfl rfl rfl rfl rfl ?_
  refine Wk.putI (coC H) (mI_userCount) (wf_userCount H) (Or.inl (wy_userCount H)) o_init_173 ?_
  refine Wk.iconst o_init_176 (z := (0 : Int32)) (by decide) ?_
  refine Wk.istore o_init_177 (Or.inl rfl) (L' := [.val (.ref 0), .val (.int p1), .val (.int p2), .val (.int p3), .val (.int p4), .val (.int (0 : Int32))]) rfl ?_
  refine Wk.forget [false, true, true, true, true, false] (L' := [.val (.ref 0), .unset, .unset, .unset, .unset, .val (.int (0 : Int32))]) rfl rfl ?_
  exact h1

set_option maxRecDepth 65536 in
set_option maxHeartbeats 4000000 in
theorem wp_init_179 {l : Launch} {Z : State} {a0 : Array Value} (H : OK Z a0) (F : Nat → Int32) (G : Nat → Int64) (A : Nat → Int32 → Int32) (B : Nat → Int32 → Int64) (v5 : Int32) {Q : Option Value → WO → Prop} (h2 : ¬ v5 < (8 : Int32) → Wk l Z (MoC Z cdC) md_init 201 [.val (.ref 0), .unset, .unset, .unset, .unset, .val (.int (0 : Int32))] [] (15, F, G, A, B) 15 305 Q) (s3 : v5 < (8 : Int32) → ¬ v5 < 0) (h4 : v5 < (8 : Int32) → Wk l Z (MoC Z cdC) md_init 179 [.val (.ref 0), .unset, .unset, .unset, .unset, .val (.int (v5 + (1 : Int32)))] [] (15, F, G, (A_resetUser A v5), B) 15 305 Q) :
    Wk l Z (MoC Z cdC) md_init 179 [.val (.ref 0), .unset, .unset, .unset, .unset, .val (.int v5)] [] (15, F, G, A, B) 15 305 Q := by
  refine Wk.iload o_init_179 rfl ?_
  refine Wk.bipush o_init_181 (z := (8 : Int32)) (by decide) ?_
  refine Wk.icmp_ge o_init_183 (fun q1 => ?_) (fun q1 => ?_)
  · refine Wk.iconst o_init_198 (z := (0 : Int32)) (by decide) ?_
    refine Wk.istore o_init_199 (Or.inr ⟨_, rfl, rfl⟩) (L' := [.val (.ref 0), .unset, .unset, .unset, .unset, .val (.int (0 : Int32))]) rfl ?_
    exact (h2 q1)
  · refine Wk.aloadN o_init_186 rfl ?_
    refine Wk.iload o_init_187 rfl ?_
    refine Wk.callU [.int v5] [] (H.w 48 rfl) (cv_resetUser H) o_init_189 (run_resetUser H F G A B v5 (s3 q1) q1) (wt := 0) (cu' := 15) (su' := 305) (by decide) rfl rfl rfl rfl rfl rfl rfl ?_
    refine Wk.iinc o_init_192 rfl (z := (v5 + (1 : Int32))) rfl (L' := [.val (.ref 0), .unset, .unset, .unset, .unset, .val (.int (v5 + (1 : Int32)))]) rfl ?_
    refine Wk.goto o_init_195 ?_
    exact (h4 q1)

set_option maxRecDepth 65536 in
set_option maxHeartbeats 4000000 in
theorem wp_init_201 {l : Launch} {Z : State} {a0 : Array Value} (H : OK Z a0) (F : Nat → Int32) (G : Nat → Int64) (A : Nat → Int32 → Int32) (B : Nat → Int32 → Int64) (v5 : Int32) {Q : Option Value → WO → Prop} (h2 : ¬ v5 < (32 : Int32) → Wk l Z (MoC Z cdC) md_init 223 [.val (.ref 0), .unset, .unset, .unset, .unset, .val (.int (0 : Int32))] [] (15, F, G, A, B) 15 305 Q) (s3 : v5 < (32 : Int32) → ¬ v5 < 0) (h4 : v5 < (32 : Int32) → Wk l Z (MoC Z cdC) md_init 201 [.val (.ref 0), .unset, .unset, .unset, .unset, .val (.int (v5 + (1 : Int32)))] [] (15, F, G, (A_clearSlotFields A v5), (B_clearSlotFields B v5)) 15 305 Q) :
    Wk l Z (MoC Z cdC) md_init 201 [.val (.ref 0), .unset, .unset, .unset, .unset, .val (.int v5)] [] (15, F, G, A, B) 15 305 Q := by
  refine Wk.iload o_init_201 rfl ?_
  refine Wk.bipush o_init_203 (z := (32 : Int32)) (by decide) ?_
  refine Wk.icmp_ge o_init_205 (fun q1 => ?_) (fun q1 => ?_)
  · refine Wk.iconst o_init_220 (z := (0 : Int32)) (by decide) ?_
    refine Wk.istore o_init_221 (Or.inr ⟨_, rfl, rfl⟩) (L' := [.val (.ref 0), .unset, .unset, .unset, .unset, .val (.int (0 : Int32))]) rfl ?_
    exact (h2 q1)
  · refine Wk.aloadN o_init_208 rfl ?_
    refine Wk.iload o_init_209 rfl ?_
    refine Wk.callU [.int v5] [] (H.w 56 rfl) (cv_clearSlotFields H) o_init_211 (run_clearSlotFields H F G A B v5 (s3 q1) q1) (wt := 0) (cu' := 15) (su' := 305) (by decide) rfl rfl rfl rfl rfl rfl rfl ?_
    refine Wk.iinc o_init_214 rfl (z := (v5 + (1 : Int32))) rfl (L' := [.val (.ref 0), .unset, .unset, .unset, .unset, .val (.int (v5 + (1 : Int32)))]) rfl ?_
    refine Wk.goto o_init_217 ?_
    exact (h4 q1)

set_option maxRecDepth 65536 in
set_option maxHeartbeats 4000000 in
theorem wp_init_223 {l : Launch} {Z : State} {a0 : Array Value} (H : OK Z a0) (F : Nat → Int32) (G : Nat → Int64) (A : Nat → Int32 → Int32) (B : Nat → Int32 → Int64) (v5 : Int32) {Q : Option Value → WO → Prop} (h2 : ¬ v5 < (3 : Int32) → Q none (15, (ups (ups F 1 (32 : Int32)) 2 (-1 : Int32)), (ups G 0 (0 : Int64)), A, B)) (s3 : v5 < (3 : Int32) → ¬ v5 < 0) (h4 : v5 < (3 : Int32) → Wk l Z (MoC Z cdC) md_init 223 [.val (.ref 0), .unset, .unset, .unset, .unset, .val (.int (v5 + (1 : Int32)))] [] (15, F, G, (ups (ups A 1 (ups (A 1) v5 (0 : Int32))) 2 (ups (A 2) v5 (0 : Int32))), B) 15 305 Q) :
    Wk l Z (MoC Z cdC) md_init 223 [.val (.ref 0), .unset, .unset, .unset, .unset, .val (.int v5)] [] (15, F, G, A, B) 15 305 Q := by
  refine Wk.iload o_init_223 rfl ?_
  refine Wk.iconst o_init_225 (z := (3 : Int32)) (by decide) ?_
  refine Wk.icmp_ge o_init_226 (fun q1 => ?_) (fun q1 => ?_)
  · refine Wk.aloadN o_init_251 rfl ?_
    refine Wk.bipush o_init_252 (z := (32 : Int32)) (by decide) ?_
    refine Wk.putI (coC H) (mI_freeCount) (wf_freeCount H) (Or.inl (wy_freeCount H)) o_init_254 ?_
    refine Wk.aloadN o_init_257 rfl ?_
    refine Wk.lconst o_init_258 (z := (0 : Int64)) (by decide) ?_
    refine Wk.putJ (coC H) (mJ_seqCounter) (wf_seqCounter H) (Or.inl (wy_seqCounter H)) o_init_259 ?_
    refine Wk.aloadN o_init_262 rfl ?_
    refine Wk.iconst o_init_263 (z := (-1 : Int32)) (by decide) ?_
    refine Wk.putI (coC H) (mI_reserved) (wf_reserved H) (Or.inl (wy_reserved H)) o_init_264 ?_
    exact Wk.ret mrC rfl o_init_267 rfl (by decide) (by decide) (h2 q1)
  · refine Wk.aloadN o_init_229 rfl ?_
    refine Wk.getA (mA_usedRes) (by decide) (i' := 2) rfl (wf_usedRes H) o_init_230 ?_
    refine Wk.iload o_init_233 rfl ?_
    refine Wk.iconst o_init_235 (z := (0 : Int32)) (by decide) ?_
    refine Wk.iastore (coC H) (f := (A 1)) (mA_usedRes) rfl (by decide) (i' := 2) rfl (s3 q1) q1 o_init_236 ?_
    refine Wk.aloadN o_init_237 rfl ?_
    refine Wk.getA (mA_staged) (by decide) (i' := 3) rfl (wf_staged H) o_init_238 ?_
    refine Wk.iload o_init_241 rfl ?_
    refine Wk.iconst o_init_243 (z := (0 : Int32)) (by decide) ?_
    refine Wk.iastore (coC H) (f := (A 2)) (mA_staged) rfl (by decide) (i' := 3) rfl (s3 q1) q1 o_init_244 ?_
    refine Wk.iinc o_init_245 rfl (z := (v5 + (1 : Int32))) rfl (L' := [.val (.ref 0), .unset, .unset, .unset, .unset, .val (.int (v5 + (1 : Int32)))]) rfl ?_
    refine Wk.goto o_init_248 ?_
    exact (h4 q1)

def w_us (A : Nat → Int32 → Int32) (i : Int32) : Nat → Int32 → Int32 := (ups (ups A 1 (ups (A 1) i (0 : Int32))) 2 (ups (A 2) i (0 : Int32)))
def f_csf (s : (Nat → Int32 → Int32) × (Nat → Int32 → Int64)) (i : Int32) : (Nat → Int32 → Int32) × (Nat → Int32 → Int64) := (A_clearSlotFields s.1 i, B_clearSlotFields s.2 i)
theorem lp_init_223 {l : Launch} {Z : State} {a0 : Array Value} (H : OK Z a0) (F : Nat → Int32) (G : Nat → Int64) (A : Nat → Int32 → Int32) (B : Nat → Int32 → Int64) {Q : Option Value → WO → Prop} (hx : Q none (15, (ups (ups F 1 (32 : Int32)) 2 (-1 : Int32)), (ups G 0 (0 : Int64)), itS w_us 3 0 A, B)) :
    Wk l Z (MoC Z cdC) md_init 223 [.val (.ref 0), .unset, .unset, .unset, .unset, .val (.int (0 : Int32))] [] (15, F, G, A, B) 15 305 Q := by
  refine itUp (fun i (s : Nat → Int32 → Int32) => Wk l Z (MoC Z cdC) md_init 223 [.val (.ref 0), .unset, .unset, .unset, .unset, .val (.int i)] [] (15, F, G, s, B) 15 305 Q) w_us 3 (fun i s h0 h1 ih => ?_) 3 0 A (by decide) (by decide) ?_
  · exact wp_init_223 H F G s B i (fun h => absurd h1 h) (fun _ => h0) (fun _ => ih)
  · exact wp_init_223 H F G _ _ 3 (fun _ => hx) (fun h => absurd h (by decide)) (fun h => absurd h (by decide))
theorem lp_init_201 {l : Launch} {Z : State} {a0 : Array Value} (H : OK Z a0) (F : Nat → Int32) (G : Nat → Int64) (A : Nat → Int32 → Int32) (B : Nat → Int32 → Int64) {Q : Option Value → WO → Prop} (hx : Wk l Z (MoC Z cdC) md_init 223 [.val (.ref 0), .unset, .unset, .unset, .unset, .val (.int (0 : Int32))] [] (15, F, G, (itS f_csf 32 0 (A, B)).1, (itS f_csf 32 0 (A, B)).2) 15 305 Q) :
    Wk l Z (MoC Z cdC) md_init 201 [.val (.ref 0), .unset, .unset, .unset, .unset, .val (.int (0 : Int32))] [] (15, F, G, A, B) 15 305 Q := by
  refine itUp (fun i (s : (Nat → Int32 → Int32) × (Nat → Int32 → Int64)) => Wk l Z (MoC Z cdC) md_init 201 [.val (.ref 0), .unset, .unset, .unset, .unset, .val (.int i)] [] (15, F, G, s.1, s.2) 15 305 Q) f_csf 32 (fun i s h0 h1 ih => ?_) 32 0 (A, B) (by decide) (by decide) ?_
  · exact wp_init_201 H F G s.1 s.2 i (fun h => absurd h1 h) (fun _ => h0) (fun _ => ih)
  · exact wp_init_201 H F G _ _ 32 (fun _ => hx) (fun h => absurd h (by decide)) (fun h => absurd h (by decide))
theorem lp_init_179 {l : Launch} {Z : State} {a0 : Array Value} (H : OK Z a0) (F : Nat → Int32) (G : Nat → Int64) (A : Nat → Int32 → Int32) (B : Nat → Int32 → Int64) {Q : Option Value → WO → Prop} (hx : Wk l Z (MoC Z cdC) md_init 201 [.val (.ref 0), .unset, .unset, .unset, .unset, .val (.int (0 : Int32))] [] (15, F, G, (itS A_resetUser 8 0 A), B) 15 305 Q) :
    Wk l Z (MoC Z cdC) md_init 179 [.val (.ref 0), .unset, .unset, .unset, .unset, .val (.int (0 : Int32))] [] (15, F, G, A, B) 15 305 Q := by
  refine itUp (fun i (s : Nat → Int32 → Int32) => Wk l Z (MoC Z cdC) md_init 179 [.val (.ref 0), .unset, .unset, .unset, .unset, .val (.int i)] [] (15, F, G, s, B) 15 305 Q) A_resetUser 8 (fun i s h0 h1 ih => ?_) 8 0 A (by decide) (by decide) ?_
  · exact wp_init_179 H F G s B i (fun h => absurd h1 h) (fun _ => h0) (fun _ => ih)
  · exact wp_init_179 H F G _ _ 8 (fun _ => hx) (fun h => absurd h (by decide)) (fun h => absurd h (by decide))
def A_in0 (p1 p2 p3 : Int32) : Nat → Int32 → Int32 := (ups (ups (ups (fun _ _ => 0) 0 (ups ((fun _ _ => 0 : Nat → Int32 → Int32) 0) (0 : Int32) (f_clampInt p1 (1 : Int32) (1000000 : Int32)))) 0 (ups (ups ((fun _ _ => 0 : Nat → Int32 → Int32) 0) (0 : Int32) (f_clampInt p1 (1 : Int32) (1000000 : Int32))) (1 : Int32) (f_clampInt p2 (1 : Int32) (1000000 : Int32)))) 0 (ups (ups (ups ((fun _ _ => 0 : Nat → Int32 → Int32) 0) (0 : Int32) (f_clampInt p1 (1 : Int32) (1000000 : Int32))) (1 : Int32) (f_clampInt p2 (1 : Int32) (1000000 : Int32))) (2 : Int32) (f_clampInt p3 (1 : Int32) (1000000 : Int32))))
theorem eA_in0 (p1 p2 p3 : Int32) : A_in0 p1 p2 p3 = (ups (ups (ups (fun _ _ => 0) 0 (ups ((fun _ _ => 0 : Nat → Int32 → Int32) 0) (0 : Int32) (f_clampInt p1 (1 : Int32) (1000000 : Int32)))) 0 (ups (ups ((fun _ _ => 0 : Nat → Int32 → Int32) 0) (0 : Int32) (f_clampInt p1 (1 : Int32) (1000000 : Int32))) (1 : Int32) (f_clampInt p2 (1 : Int32) (1000000 : Int32)))) 0 (ups (ups (ups ((fun _ _ => 0 : Nat → Int32 → Int32) 0) (0 : Int32) (f_clampInt p1 (1 : Int32) (1000000 : Int32))) (1 : Int32) (f_clampInt p2 (1 : Int32) (1000000 : Int32))) (2 : Int32) (f_clampInt p3 (1 : Int32) (1000000 : Int32)))) := Eq.trans rfl rfl
def F_init (p1 p2 p3 p4 : Int32) : Nat → Int32 := (ups (ups (ups (fun _ => 0) 0 (f_clampInt p4 (2 : Int32) (8 : Int32))) 1 (32 : Int32)) 2 (-1 : Int32))
theorem eF_init (p1 p2 p3 p4 : Int32) : F_init p1 p2 p3 p4 = (ups (ups (ups (fun _ => 0) 0 (f_clampInt p4 (2 : Int32) (8 : Int32))) 1 (32 : Int32)) 2 (-1 : Int32)) := Eq.trans rfl rfl
def G_init (p1 p2 p3 p4 : Int32) : Nat → Int64 := ups (fun _ => 0) 0 (0 : Int64)
def AB_init (p1 p2 p3 p4 : Int32) : (Nat → Int32 → Int32) × (Nat → Int32 → Int64) := itS f_csf 32 0 (itS A_resetUser 8 0 (A_in0 p1 p2 p3), fun _ _ => 0)
def A_init (p1 p2 p3 p4 : Int32) : Nat → Int32 → Int32 := itS w_us 3 0 (AB_init p1 p2 p3 p4).1
def B_init (p1 p2 p3 p4 : Int32) : Nat → Int32 → Int64 := (AB_init p1 p2 p3 p4).2
theorem run_init {l : Launch} {Z : State} {a0 : Array Value} (H : OK Z a0) (p1 p2 p3 p4 : Int32) : Wk l Z (MoC Z cdC) md_init 0 [.val (.ref 0), .val (.int p1), .val (.int p2), .val (.int p3), .val (.int p4), .unset] [] (0, (fun _ => 0), (fun _ => 0), (fun _ _ => 0), (fun _ _ => 0)) 0 0 (fun v w' => v = none ∧ w' = (15, (F_init p1 p2 p3 p4), (G_init p1 p2 p3 p4), (A_init p1 p2 p3 p4), (B_init p1 p2 p3 p4))) :=
  wp_init H p1 p2 p3 p4 (lp_init_179 H _ _ _ _ (lp_init_201 H _ _ _ _ (lp_init_223 H _ _ _ _ ⟨rfl, rfl⟩)))
theorem F_init_0 (p1 p2 p3 p4 : Int32) : F_init p1 p2 p3 p4 0 = (f_clampInt p4 (2 : Int32) (8 : Int32)) := Eq.trans rfl rfl
theorem F_init_1 (p1 p2 p3 p4 : Int32) : F_init p1 p2 p3 p4 1 = (32 : Int32) := Eq.trans rfl rfl
theorem F_init_2 (p1 p2 p3 p4 : Int32) : F_init p1 p2 p3 p4 2 = (-1 : Int32) := Eq.trans rfl rfl
set_option maxRecDepth 65536 in
set_option maxHeartbeats 4000000 in
theorem wp_L_clamp {l : Launch} {Z : State} {a0 : Array Value} (H : OK Z a0) (sl : Int32) (sv : Int32 → Int32) (ws : List WO) (p1 : Int32) (p2 : Int32) (p3 : Int32) {Q : Option Value → WL → Prop} (h5 : Q (some (.int (if p1 < p2 then p2 else (if p3 < p1 then p3 else p1)))) (sl, sv, ws)) :
    Wk l Z (MoL Z cdC "DominantShareL1" false) md_L_clamp 0 [.val (.int p1), .val (.int p2), .val (.int p3)] [] (sl, sv, ws) 0 0 Q := by
  refine Wk.iloadN o_L_clamp_0 rfl ?_
  refine Wk.iloadN o_L_clamp_1 rfl ?_
  have J4 : Wk l Z (MoL Z cdC "DominantShareL1" false) md_L_clamp 19 [.val (.int p1), .val (.int p2), .val (.int p3)] [.int (if p1 < p2 then p2 else (if p3 < p1 then p3 else p1))] (sl, sv, ws) 0 0 Q := by
    exact Wk.ireturn mrL rfl o_L_clamp_19 rfl (by decide) (by decide) h5
  refine Wk.icmp_ge o_L_clamp_2 (fun q1 => ?_) (fun q1 => ?_)
  · refine Wk.iloadN o_L_clamp_9 rfl ?_
    refine Wk.iloadN o_L_clamp_10 rfl ?_
    refine Wk.icmp_le o_L_clamp_11 (fun q2 => ?_) (fun q2 => ?_)
    · refine Wk.iloadN o_L_clamp_18 rfl ?_
      first | exact J4 | (simp only [if_neg q1, if_neg q2] at J4 ⊢; exact J4)
    · refine Wk.iloadN o_L_clamp_14 rfl ?_
      refine Wk.goto o_L_clamp_15 ?_
      first | exact J4 | (simp only [if_neg q1, if_pos q2] at J4 ⊢; exact J4)
  · refine Wk.iloadN o_L_clamp_5 rfl ?_
    refine Wk.goto o_L_clamp_6 ?_
    first | exact J4 | (simp only [if_pos q1] at J4 ⊢; exact J4)
def f_L_clamp (p1 : Int32) (p2 : Int32) (p3 : Int32) : Int32 := (if p1 < p2 then p2 else (if p3 < p1 then p3 else p1))
theorem e_L_clamp (p1 : Int32) (p2 : Int32) (p3 : Int32) : f_L_clamp p1 p2 p3 = (if p1 < p2 then p2 else (if p3 < p1 then p3 else p1)) := Eq.trans rfl rfl
theorem run_L_clamp {l : Launch} {Z : State} {a0 : Array Value} (H : OK Z a0) (sl : Int32) (sv : Int32 → Int32) (ws : List WO) (p1 : Int32) (p2 : Int32) (p3 : Int32) :
    Wk l Z (MoL Z cdC "DominantShareL1" false) md_L_clamp 0 [.val (.int p1), .val (.int p2), .val (.int p3)] [] (sl, sv, ws) 0 0 (fun v w2 => v = some (.int (f_L_clamp p1 p2 p3)) ∧ w2 = (sl, sv, ws)) :=
  wp_L_clamp H sl sv ws p1 p2 p3 ⟨rfl, rfl⟩
set_option maxRecDepth 65536 in
set_option maxHeartbeats 4000000 in
theorem wp_isResource {l : Launch} {Z : State} {a0 : Array Value} (H : OK Z a0) (F : Nat → Int32) (G : Nat → Int64) (A : Nat → Int32 → Int32) (B : Nat → Int32 → Int64) (p1 : Int32) {Q : Option Value → WO → Prop} (h5 : Q (some (.int (nar .boolean (if p1 < 0 then (0 : Int32) else (if p1 < (3 : Int32) then (1 : Int32) else (0 : Int32)))))) (15, F, G, A, B)) :
    Wk l Z (MoC Z cdC) md_isResource 0 [.val (.ref 0), .val (.int p1)] [] (15, F, G, A, B) 0 0 Q := by
  refine Wk.iloadN o_isResource_0 rfl ?_
  have J4 : Wk l Z (MoC Z cdC) md_isResource 14 [.val (.ref 0), .val (.int p1)] [.int (if p1 < 0 then (0 : Int32) else (if p1 < (3 : Int32) then (1 : Int32) else (0 : Int32)))] (15, F, G, A, B) 0 0 Q := by
    exact Wk.zreturn mrC rfl o_isResource_14 rfl (by decide) (by decide) (y := (nar .boolean (if p1 < 0 then (0 : Int32) else (if p1 < (3 : Int32) then (1 : Int32) else (0 : Int32))))) rfl h5
  refine Wk.if_lt o_isResource_1 (fun q1 => ?_) (fun q1 => ?_)
  · refine Wk.iconst o_isResource_13 (z := (0 : Int32)) (by decide) ?_
    first | exact J4 | (simp only [if_pos q1] at J4 ⊢; exact J4)
  · refine Wk.iloadN o_isResource_4 rfl ?_
    refine Wk.iconst o_isResource_5 (z := (3 : Int32)) (by decide) ?_
    refine Wk.icmp_ge o_isResource_6 (fun q2 => ?_) (fun q2 => ?_)
    · refine Wk.iconst o_isResource_13 (z := (0 : Int32)) (by decide) ?_
      first | exact J4 | (simp only [if_neg q1, if_neg q2] at J4 ⊢; exact J4)
    · refine Wk.iconst o_isResource_9 (z := (1 : Int32)) (by decide) ?_
      refine Wk.goto o_isResource_10 ?_
      first | exact J4 | (simp only [if_neg q1, if_pos q2] at J4 ⊢; exact J4)

def f_isResource (p1 : Int32) : Int32 := (nar .boolean (if p1 < 0 then (0 : Int32) else (if p1 < (3 : Int32) then (1 : Int32) else (0 : Int32))))
theorem e_isResource (p1 : Int32) : f_isResource p1 = (nar .boolean (if p1 < 0 then (0 : Int32) else (if p1 < (3 : Int32) then (1 : Int32) else (0 : Int32)))) := Eq.trans rfl rfl
theorem bz_isResource (p1 : Int32) : nar .boolean (f_isResource p1) = f_isResource p1 := by
  unfold f_isResource
  (repeat' split) <;> first | rfl | exact nar_nar _
theorem run_isResource {l : Launch} {Z : State} {a0 : Array Value} (H : OK Z a0) (F : Nat → Int32) (G : Nat → Int64) (A : Nat → Int32 → Int32) (B : Nat → Int32 → Int64) (p1 : Int32) :
    Wk l Z (MoC Z cdC) md_isResource 0 [.val (.ref 0), .val (.int p1)] [] (15, F, G, A, B) 0 0 (fun v w' => v = some (.int (f_isResource p1)) ∧ w' = (15, F, G, A, B)) :=
  wp_isResource H F G A B p1 ⟨rfl, rfl⟩
theorem isr (p : Int32) (h : ¬ f_isResource p = 0) : ¬ p < 0 ∧ p < 3 := by
  rw [e_isResource] at h
  by_cases a : p < 0
  · rw [if_pos a] at h; exact absurd nar0 h
  · rw [if_neg a] at h
    by_cases b : p < 3
    · exact ⟨a, b⟩
    · rw [if_neg b] at h; exact absurd nar0 h
set_option maxRecDepth 65536 in
set_option maxHeartbeats 4000000 in
theorem wp_capacity {l : Launch} {Z : State} {a0 : Array Value} (H : OK Z a0) (F : Nat → Int32) (G : Nat → Int64) (A : Nat → Int32 → Int32) (B : Nat → Int32 → Int64) (p1 : Int32) {Q : Option Value → WO → Prop} (s2 : ¬ (f_isResource p1) = 0 → ¬ p1 < 0) (s3 : ¬ (f_isResource p1) = 0 → p1 < (3 : Int32)) (h4 : ¬ (f_isResource p1) = 0 → Q (some (.int ((A 0) p1))) (15, F, G, A, B)) (h5 : (f_isResource p1) = 0 → Q (some (.int (-1 : Int32))) (15, F, G, A, B)) :
    Wk l Z (MoC Z cdC) md_capacity 0 [.val (.ref 0), .val (.int p1)] [] (15, F, G, A, B) 0 0 Q := by
  refine Wk.aloadN o_capacity_0 rfl ?_
  refine Wk.iloadN o_capacity_1 rfl ?_
  refine Wk.callF [.int p1] [] (H.w 75 rfl) (cv_isResource H) o_capacity_2 (run_isResource H F G A B p1) (wt := 0) (cu' := 0) (su' := 0) (by decide) rfl rfl rfl rfl rfl rfl rfl ?_
  refine Wk.if_ne o_capacity_5 (fun q1 => ?_) (fun q1 => ?_)
  · refine Wk.aloadN o_capacity_10 rfl ?_
    refine Wk.getA (mA_capRes) (by decide) (i' := 1) rfl (wf_capRes H) o_capacity_11 ?_
    refine Wk.iloadN o_capacity_14 rfl ?_
    refine Wk.iaload (mA_capRes) (by decide) (i' := 1) rfl (s2 q1) (s3 q1) o_capacity_15 (y := ((A 0) p1)) rfl ?_
    exact Wk.ireturn mrC rfl o_capacity_16 rfl (by decide) (by decide) (h4 q1)
  · refine Wk.iconst o_capacity_8 (z := (-1 : Int32)) (by decide) ?_
    exact Wk.ireturn mrC rfl o_capacity_9 rfl (by decide) (by decide) (h5 q1)

def f_capacity (A : Nat → Int32 → Int32) (p1 : Int32) : Int32 := (if (f_isResource p1) = 0 then (-1 : Int32) else ((A 0) p1))
theorem e_capacity (A : Nat → Int32 → Int32) (p1 : Int32) : f_capacity A p1 = (if (f_isResource p1) = 0 then (-1 : Int32) else ((A 0) p1)) := Eq.trans rfl rfl
theorem run_capacity {l : Launch} {Z : State} {a0 : Array Value} (H : OK Z a0) (F : Nat → Int32) (G : Nat → Int64) (A : Nat → Int32 → Int32) (B : Nat → Int32 → Int64) (p1 : Int32) :
    Wk l Z (MoC Z cdC) md_capacity 0 [.val (.ref 0), .val (.int p1)] [] (15, F, G, A, B) 0 0 (fun v w' => v = some (.int (f_capacity A p1)) ∧ w' = (15, F, G, A, B)) :=
  wp_capacity H F G A B p1 (by intros; first | exact (isr p1 (by assumption)).1 | exact (isr p1 (by assumption)).2) (by intros; first | exact (isr p1 (by assumption)).1 | exact (isr p1 (by assumption)).2) (fun q1 => ⟨by simp only [e_capacity, if_neg q1], rfl⟩) (fun q1 => ⟨by simp only [e_capacity, if_pos q1], rfl⟩)
set_option maxRecDepth 65536 in
set_option maxHeartbeats 4000000 in
theorem wp_isUser {l : Launch} {Z : State} {a0 : Array Value} (H : OK Z a0) (F : Nat → Int32) (G : Nat → Int64) (A : Nat → Int32 → Int32) (B : Nat → Int32 → Int64) (p1 : Int32) {Q : Option Value → WO → Prop} (h7 : Q (some (.int (nar .boolean (if p1 < 0 then (0 : Int32) else (if p1 < (F 0) then (if p1 < (8 : Int32) then (1 : Int32) else (0 : Int32)) else (0 : Int32)))))) (15, F, G, A, B)) :
    Wk l Z (MoC Z cdC) md_isUser 0 [.val (.ref 0), .val (.int p1)] [] (15, F, G, A, B) 0 0 Q := by
  refine Wk.iloadN o_isUser_0 rfl ?_
  have J6 : Wk l Z (MoC Z cdC) md_isUser 23 [.val (.ref 0), .val (.int p1)] [.int (if p1 < 0 then (0 : Int32) else (if p1 < (F 0) then (if p1 < (8 : Int32) then (1 : Int32) else (0 : Int32)) else (0 : Int32)))] (15, F, G, A, B) 0 0 Q := by
    exact Wk.zreturn mrC rfl o_isUser_23 rfl (by decide) (by decide) (y := (nar .boolean (if p1 < 0 then (0 : Int32) else (if p1 < (F 0) then (if p1 < (8 : Int32) then (1 : Int32) else (0 : Int32)) else (0 : Int32))))) rfl h7
  refine Wk.if_lt o_isUser_1 (fun q1 => ?_) (fun q1 => ?_)
  · refine Wk.iconst o_isUser_22 (z := (0 : Int32)) (by decide) ?_
    first | exact J6 | (simp only [if_pos q1] at J6 ⊢; exact J6)
  · refine Wk.iloadN o_isUser_4 rfl ?_
    refine Wk.aloadN o_isUser_5 rfl ?_
    refine Wk.getI (mI_userCount) (wf_userCount H) o_isUser_6 (x := (F 0)) rfl ?_
    refine Wk.icmp_ge o_isUser_9 (fun q2 => ?_) (fun q2 => ?_)
    · refine Wk.iconst o_isUser_22 (z := (0 : Int32)) (by decide) ?_
      first | exact J6 | (simp only [if_neg q1, if_neg q2] at J6 ⊢; exact J6)
    · refine Wk.iloadN o_isUser_12 rfl ?_
      refine Wk.bipush o_isUser_13 (z := (8 : Int32)) (by decide) ?_
      refine Wk.icmp_ge o_isUser_15 (fun q3 => ?_) (fun q3 => ?_)
      · refine Wk.iconst o_isUser_22 (z := (0 : Int32)) (by decide) ?_
        first | exact J6 | (simp only [if_neg q1, if_pos q2, if_neg q3] at J6 ⊢; exact J6)
      · refine Wk.iconst o_isUser_18 (z := (1 : Int32)) (by decide) ?_
        refine Wk.goto o_isUser_19 ?_
        first | exact J6 | (simp only [if_neg q1, if_pos q2, if_pos q3] at J6 ⊢; exact J6)

def f_isUser (F : Nat → Int32) (p1 : Int32) : Int32 := (nar .boolean (if p1 < 0 then (0 : Int32) else (if p1 < (F 0) then (if p1 < (8 : Int32) then (1 : Int32) else (0 : Int32)) else (0 : Int32))))
theorem e_isUser (F : Nat → Int32) (p1 : Int32) : f_isUser F p1 = (nar .boolean (if p1 < 0 then (0 : Int32) else (if p1 < (F 0) then (if p1 < (8 : Int32) then (1 : Int32) else (0 : Int32)) else (0 : Int32)))) := Eq.trans rfl rfl
theorem bz_isUser (F : Nat → Int32) (p1 : Int32) : nar .boolean (f_isUser F p1) = f_isUser F p1 := by
  unfold f_isUser
  (repeat' split) <;> first | rfl | exact nar_nar _
theorem run_isUser {l : Launch} {Z : State} {a0 : Array Value} (H : OK Z a0) (F : Nat → Int32) (G : Nat → Int64) (A : Nat → Int32 → Int32) (B : Nat → Int32 → Int64) (p1 : Int32) :
    Wk l Z (MoC Z cdC) md_isUser 0 [.val (.ref 0), .val (.int p1)] [] (15, F, G, A, B) 0 0 (fun v w' => v = some (.int (f_isUser F p1)) ∧ w' = (15, F, G, A, B)) :=
  wp_isUser H F G A B p1 ⟨rfl, rfl⟩
theorem isu (F : Nat → Int32) (p : Int32) (h : ¬ f_isUser F p = 0) : ¬ p < 0 ∧ p < F 0 ∧ p < 8 := by
  rw [e_isUser] at h
  by_cases a : p < 0
  · rw [if_pos a] at h; exact absurd nar0 h
  · rw [if_neg a] at h
    by_cases b : p < F 0
    · rw [if_pos b] at h
      by_cases c : p < 8
      · exact ⟨a, b, c⟩
      · rw [if_neg c] at h; exact absurd nar0 h
    · rw [if_neg b] at h; exact absurd nar0 h
set_option maxRecDepth 65536 in
set_option maxHeartbeats 4000000 in
theorem wp_userStatus {l : Launch} {Z : State} {a0 : Array Value} (H : OK Z a0) (F : Nat → Int32) (G : Nat → Int64) (A : Nat → Int32 → Int32) (B : Nat → Int32 → Int64) (p1 : Int32) {Q : Option Value → WO → Prop} (s2 : ¬ (f_isUser F p1) = 0 → ¬ p1 < 0) (s3 : ¬ (f_isUser F p1) = 0 → p1 < (8 : Int32)) (s5 : ¬ (f_isUser F p1) = 0 → 0 < ((A 6) p1) → ¬ p1 < 0) (s6 : ¬ (f_isUser F p1) = 0 → 0 < ((A 6) p1) → p1 < (8 : Int32)) (h8 : ¬ (f_isUser F p1) = 0 → 0 < ((A 6) p1) → ((A 5) p1) < ((A 4) p1) → False) (h9 : ¬ (f_isUser F p1) = 0 → 0 < ((A 6) p1) → ¬ ((A 5) p1) < ((A 4) p1) → Q (some (.int (1 : Int32))) (15, F, G, A, B)) (h10 : ¬ (f_isUser F p1) = 0 → ¬ 0 < ((A 6) p1) → Q (some (.int (0 : Int32))) (15, F, G, A, B)) (h11 : (f_isUser F p1) = 0 → Q (some (.int (-1 : Int32))) (15, F, G, A, B)) :
    Wk l Z (MoC Z cdC) md_userStatus 0 [.val (.ref 0), .val (.int p1)] [] (15, F, G, A, B) 0 0 Q := by
  refine Wk.aloadN o_userStatus_0 rfl ?_
  refine Wk.iloadN o_userStatus_1 rfl ?_
  refine Wk.callF [.int p1] [] (H.w 85 rfl) (cv_isUser H) o_userStatus_2 (run_isUser H F G A B p1) (wt := 0) (cu' := 0) (su' := 0) (by decide) rfl rfl rfl rfl rfl rfl rfl ?_
  refine Wk.if_ne o_userStatus_5 (fun q1 => ?_) (fun q1 => ?_)
  · refine Wk.aloadN o_userStatus_10 rfl ?_
    refine Wk.getA (mA_pendingCount) (by decide) (i' := 7) rfl (wf_pendingCount H) o_userStatus_11 ?_
    refine Wk.iloadN o_userStatus_14 rfl ?_
    refine Wk.iaload (mA_pendingCount) (by decide) (i' := 7) rfl (s2 q1) (s3 q1) o_userStatus_15 (y := ((A 6) p1)) rfl ?_
    refine Wk.if_gt o_userStatus_16 (fun q4 => ?_) (fun q4 => ?_)
    · refine Wk.aloadN o_userStatus_21 rfl ?_
      refine Wk.getA (mA_running) (by decide) (i' := 6) rfl (wf_running H) o_userStatus_22 ?_
      refine Wk.iloadN o_userStatus_25 rfl ?_
      refine Wk.iaload (mA_running) (by decide) (i' := 6) rfl (s5 q1 q4) (s6 q1 q4) o_userStatus_26 (y := ((A 5) p1)) rfl ?_
      refine Wk.aloadN o_userStatus_27 rfl ?_
      refine Wk.getA (mA_userCap) (by decide) (i' := 5) rfl (wf_userCap H) o_userStatus_28 ?_
      refine Wk.iloadN o_userStatus_31 rfl ?_
      refine Wk.iaload (mA_userCap) (by decide) (i' := 5) rfl (s5 q1 q4) (s6 q1 q4) o_userStatus_32 (y := ((A 4) p1)) rfl ?_
      refine Wk.icmp_lt o_userStatus_33 (fun q7 => ?_) (fun q7 => ?_)
      · refine Wk.aloadN o_userStatus_38 rfl ?_
        refine Wk.iloadN o_userStatus_39 rfl ?_
        exact False.elim (h8 q1 q4 q7)
      · refine Wk.iconst o_userStatus_36 (z := (1 : Int32)) (by decide) ?_
        exact Wk.ireturn mrC rfl o_userStatus_37 rfl (by decide) (by decide) (h9 q1 q4 q7)
    · refine Wk.iconst o_userStatus_19 (z := (0 : Int32)) (by decide) ?_
      exact Wk.ireturn mrC rfl o_userStatus_20 rfl (by decide) (by decide) (h10 q1 q4)
  · refine Wk.iconst o_userStatus_8 (z := (-1 : Int32)) (by decide) ?_
    exact Wk.ireturn mrC rfl o_userStatus_9 rfl (by decide) (by decide) (h11 q1)

def f_userStatus (F : Nat → Int32) (A : Nat → Int32 → Int32) (p1 : Int32) : Int32 := (if (f_isUser F p1) = 0 then (-1 : Int32) else (if 0 < ((A 6) p1) then (1 : Int32) else (0 : Int32)))
theorem e_userStatus (F : Nat → Int32) (A : Nat → Int32 → Int32) (p1 : Int32) : f_userStatus F A p1 = (if (f_isUser F p1) = 0 then (-1 : Int32) else (if 0 < ((A 6) p1) then (1 : Int32) else (0 : Int32))) := Eq.trans rfl rfl
theorem run_userStatus {l : Launch} {Z : State} {a0 : Array Value} (H : OK Z a0) (F : Nat → Int32) (G : Nat → Int64) (A : Nat → Int32 → Int32) (B : Nat → Int32 → Int64) (p1 : Int32) (e1 : ¬ 0 < ((A 6) p1)) :
    Wk l Z (MoC Z cdC) md_userStatus 0 [.val (.ref 0), .val (.int p1)] [] (15, F, G, A, B) 0 0 (fun v w' => v = some (.int (f_userStatus F A p1)) ∧ w' = (15, F, G, A, B)) :=
  wp_userStatus H F G A B p1 (by intros; first | exact (isu F p1 (by assumption)).1 | exact (isu F p1 (by assumption)).2.2 | (exfalso; contradiction)) (by intros; first | exact (isu F p1 (by assumption)).1 | exact (isu F p1 (by assumption)).2.2 | (exfalso; contradiction)) (by intros; first | exact (isu F p1 (by assumption)).1 | exact (isu F p1 (by assumption)).2.2 | (exfalso; contradiction)) (by intros; first | exact (isu F p1 (by assumption)).1 | exact (isu F p1 (by assumption)).2.2 | (exfalso; contradiction)) (by intros; first | exact (isu F p1 (by assumption)).1 | exact (isu F p1 (by assumption)).2.2 | (exfalso; contradiction)) (fun q1 q4 q7 => ⟨by simp only [e_userStatus, if_neg q1, if_pos q4, if_neg q7], rfl⟩) (fun q1 q4 => ⟨by simp only [e_userStatus, if_neg q1, if_neg q4], rfl⟩) (fun q1 => ⟨by simp only [e_userStatus, if_pos q1], rfl⟩)
set_option maxRecDepth 65536 in
set_option maxHeartbeats 4000000 in
theorem wp_used {l : Launch} {Z : State} {a0 : Array Value} (H : OK Z a0) (F : Nat → Int32) (G : Nat → Int64) (A : Nat → Int32 → Int32) (B : Nat → Int32 → Int64) (p1 : Int32) {Q : Option Value → WO → Prop} (s2 : ¬ (f_isResource p1) = 0 → ¬ p1 < 0) (s3 : ¬ (f_isResource p1) = 0 → p1 < (3 : Int32)) (h4 : ¬ (f_isResource p1) = 0 → Q (some (.int ((A 1) p1))) (15, F, G, A, B)) (h5 : (f_isResource p1) = 0 → Q (some (.int (-1 : Int32))) (15, F, G, A, B)) :
    Wk l Z (MoC Z cdC) md_used 0 [.val (.ref 0), .val (.int p1)] [] (15, F, G, A, B) 0 0 Q := by
  refine Wk.aloadN o_used_0 rfl ?_
  refine Wk.iloadN o_used_1 rfl ?_
  refine Wk.callF [.int p1] [] (H.w 75 rfl) (cv_isResource H) o_used_2 (run_isResource H F G A B p1) (wt := 0) (cu' := 0) (su' := 0) (by decide) rfl rfl rfl rfl rfl rfl rfl ?_
  refine Wk.if_ne o_used_5 (fun q1 => ?_) (fun q1 => ?_)
  · refine Wk.aloadN o_used_10 rfl ?_
    refine Wk.getA (mA_usedRes) (by decide) (i' := 2) rfl (wf_usedRes H) o_used_11 ?_
    refine Wk.iloadN o_used_14 rfl ?_
    refine Wk.iaload (mA_usedRes) (by decide) (i' := 2) rfl (s2 q1) (s3 q1) o_used_15 (y := ((A 1) p1)) rfl ?_
    exact Wk.ireturn mrC rfl o_used_16 rfl (by decide) (by decide) (h4 q1)
  · refine Wk.iconst o_used_8 (z := (-1 : Int32)) (by decide) ?_
    exact Wk.ireturn mrC rfl o_used_9 rfl (by decide) (by decide) (h5 q1)

def f_used (A : Nat → Int32 → Int32) (p1 : Int32) : Int32 := (if (f_isResource p1) = 0 then (-1 : Int32) else ((A 1) p1))
theorem e_used (A : Nat → Int32 → Int32) (p1 : Int32) : f_used A p1 = (if (f_isResource p1) = 0 then (-1 : Int32) else ((A 1) p1)) := Eq.trans rfl rfl
theorem run_used {l : Launch} {Z : State} {a0 : Array Value} (H : OK Z a0) (F : Nat → Int32) (G : Nat → Int64) (A : Nat → Int32 → Int32) (B : Nat → Int32 → Int64) (p1 : Int32) :
    Wk l Z (MoC Z cdC) md_used 0 [.val (.ref 0), .val (.int p1)] [] (15, F, G, A, B) 0 0 (fun v w' => v = some (.int (f_used A p1)) ∧ w' = (15, F, G, A, B)) :=
  wp_used H F G A B p1 (by intros; first | exact (isr p1 (by assumption)).1 | exact (isr p1 (by assumption)).2) (by intros; first | exact (isr p1 (by assumption)).1 | exact (isr p1 (by assumption)).2) (fun q1 => ⟨by simp only [e_used, if_neg q1], rfl⟩) (fun q1 => ⟨by simp only [e_used, if_pos q1], rfl⟩)
set_option maxRecDepth 65536 in
set_option maxHeartbeats 4000000 in
theorem wp_reservedTask {l : Launch} {Z : State} {a0 : Array Value} (H : OK Z a0) (F : Nat → Int32) (G : Nat → Int64) (A : Nat → Int32 → Int32) (B : Nat → Int32 → Int64) {Q : Option Value → WO → Prop} (h1 : Q (some (.int (F 2))) (15, F, G, A, B)) :
    Wk l Z (MoC Z cdC) md_reservedTask 0 [.val (.ref 0)] [] (15, F, G, A, B) 0 0 Q := by
  refine Wk.aloadN o_reservedTask_0 rfl ?_
  refine Wk.getI (mI_reserved) (wf_reserved H) o_reservedTask_1 (x := (F 2)) rfl ?_
  exact Wk.ireturn mrC rfl o_reservedTask_4 rfl (by decide) (by decide) h1

def f_reservedTask (F : Nat → Int32) : Int32 := (F 2)
theorem e_reservedTask (F : Nat → Int32) : f_reservedTask F = (F 2) := Eq.trans rfl rfl
theorem run_reservedTask {l : Launch} {Z : State} {a0 : Array Value} (H : OK Z a0) (F : Nat → Int32) (G : Nat → Int64) (A : Nat → Int32 → Int32) (B : Nat → Int32 → Int64) :
    Wk l Z (MoC Z cdC) md_reservedTask 0 [.val (.ref 0)] [] (15, F, G, A, B) 0 0 (fun v w' => v = some (.int (f_reservedTask F)) ∧ w' = (15, F, G, A, B)) :=
  wp_reservedTask H F G A B ⟨rfl, rfl⟩
set_option maxRecDepth 65536 in
set_option maxHeartbeats 4000000 in
theorem wp_L_law {l : Launch} {Z : State} {a0 : Array Value} (H : OK Z a0) (sl : Int32) (sv : Int32 → Int32) (p1 : Int32) (p2 : Int32) (p3 : Int32) (p4 : Int32) (p5 : Int32) {Q : Option Value → WL → Prop} (h2 : (f_capacity (A_init p1 p2 p3 p4) (0 : Int32)) = (f_L_clamp p1 (1 : Int32) (1000000 : Int32))) (h4 : (f_capacity (A_init p1 p2 p3 p4) (1 : Int32)) = (f_L_clamp p2 (1 : Int32) (1000000 : Int32))) (h6 : (f_capacity (A_init p1 p2 p3 p4) (2 : Int32)) = (f_L_clamp p3 (1 : Int32) (1000000 : Int32))) (s7 : ¬ 0 < (((A_init p1 p2 p3 p4) 6) p5)) (h13 : (f_userStatus (F_init p1 p2 p3 p4) (A_init p1 p2 p3 p4) p5) = (if p5 < 0 then (-1 : Int32) else (if p5 < (f_L_clamp p4 (2 : Int32) (8 : Int32)) then (0 : Int32) else (-1 : Int32)))) (h19 : (f_used (A_init p1 p2 p3 p4) p5) = (if p5 < 0 then (-1 : Int32) else (if (2 : Int32) < p5 then (-1 : Int32) else (0 : Int32)))) (h21 : (f_reservedTask (F_init p1 p2 p3 p4)) = (-1 : Int32)) (h22 : Q (some (.int (1 : Int32))) (sl, sv, [(15, (F_init p1 p2 p3 p4), (G_init p1 p2 p3 p4), (A_init p1 p2 p3 p4), (B_init p1 p2 p3 p4))])) :
    Wk l Z (MoL Z cdC "DominantShareL1" false) md_L_law 0 [.val (.int p1), .val (.int p2), .val (.int p3), .val (.int p4), .val (.int p5), .unset, .unset, .unset, .unset, .unset, .unset] [] (sl, sv, []) 0 0 Q := by
  refine Wk.newL (coC H) (kk := 19) (H.w 0 rfl) (H.w 1 rfl) (wz_C H) o_L_law_0 trivial (i' := 1) rfl (ws' := [(0, (fun _ => 0), (fun _ => 0), (fun _ _ => 0), (fun _ _ => 0))]) rfl (cu' := 1) rfl (su' := 19) rfl (by decide) (by decide) ?_
  refine Wk.dup o_L_law_3 rfl ?_
  refine Wk.iloadN o_L_law_4 rfl ?_
  refine Wk.iloadN o_L_law_5 rfl ?_
  refine Wk.iloadN o_L_law_6 rfl ?_
  refine Wk.iloadN o_L_law_7 rfl ?_
  refine Wk.ctorLU (coC H) [.int p1, .int p2, .int p3, .int p4] 0 [.ref 1] (i' := 1) (H.w 3 rfl) (cv_init H) o_L_law_8 (run_init H p1 p2 p3 p4) (wt := 1) (cu' := 16) (su' := 324) (by decide) trivial rfl rfl rfl rfl rfl rfl rfl rfl rfl rfl (ws' := [(15, (F_init p1 p2 p3 p4), (G_init p1 p2 p3 p4), (A_init p1 p2 p3 p4), (B_init p1 p2 p3 p4))]) rfl ?_
  refine Wk.astore o_L_law_11 (Or.inl rfl) (L' := [.val (.int p1), .val (.int p2), .val (.int p3), .val (.int p4), .val (.int p5), .val (.ref 1), .unset, .unset, .unset, .unset, .unset]) rfl ?_
  refine Wk.iloadN o_L_law_13 rfl ?_
  refine Wk.iconst o_L_law_14 (z := (2 : Int32)) (by decide) ?_
  refine Wk.bipush o_L_law_15 (z := (8 : Int32)) (by decide) ?_
  refine Wk.callSF mtL [.int p4, .int (2 : Int32), .int (8 : Int32)] [] (H.w 66 rfl) (cv_L_clamp H) o_L_law_17 (run_L_clamp H sl sv [(15, (F_init p1 p2 p3 p4), (G_init p1 p2 p3 p4), (A_init p1 p2 p3 p4), (B_init p1 p2 p3 p4))] p4 (2 : Int32) (8 : Int32)) (wt := 0) (cu' := 16) (su' := 324) (by decide) rfl rfl rfl rfl rfl rfl ?_
  refine Wk.istore o_L_law_20 (Or.inl rfl) (L' := [.val (.int p1), .val (.int p2), .val (.int p3), .val (.int p4), .val (.int p5), .val (.ref 1), .val (.int (f_L_clamp p4 (2 : Int32) (8 : Int32))), .unset, .unset, .unset, .unset]) rfl ?_
  refine Wk.aload o_L_law_22 rfl ?_
  refine Wk.iconst o_L_law_24 (z := (0 : Int32)) (by decide) ?_
  refine Wk.callLF (coC H) [.int (0 : Int32)] 0 [] (i' := 1) (H.w 70 rfl) (cv_capacity H) o_L_law_25 (run_capacity H (F_init p1 p2 p3 p4) (G_init p1 p2 p3 p4) (A_init p1 p2 p3 p4) (B_init p1 p2 p3 p4) (0 : Int32)) (wt := 0) (cu' := 16) (su' := 324) (by decide) trivial rfl rfl rfl rfl rfl rfl rfl rfl rfl rfl (ws' := [(15, (F_init p1 p2 p3 p4), (G_init p1 p2 p3 p4), (A_init p1 p2 p3 p4), (B_init p1 p2 p3 p4))]) rfl ?_
  refine Wk.iloadN o_L_law_28 rfl ?_
  refine Wk.iconst o_L_law_29 (z := (1 : Int32)) (by decide) ?_
  refine Wk.ldc o_L_law_30 (z := (1000000 : Int32)) (H.w 79 rfl) ?_
  refine Wk.callSF mtL [.int p1, .int (1 : Int32), .int (1000000 : Int32)] [.int (f_capacity (A_init p1 p2 p3 p4) (0 : Int32))] (H.w 66 rfl) (cv_L_clamp H) o_L_law_32 (run_L_clamp H sl sv [(15, (F_init p1 p2 p3 p4), (G_init p1 p2 p3 p4), (A_init p1 p2 p3 p4), (B_init p1 p2 p3 p4))] p1 (1 : Int32) (1000000 : Int32)) (wt := 1) (cu' := 16) (su' := 324) (by decide) rfl rfl rfl rfl rfl rfl ?_
  refine Wk.icmp_eq o_L_law_35 (fun q1 => ?_) (fun q => absurd h2 q)
  refine Wk.aload o_L_law_40 rfl ?_
  refine Wk.iconst o_L_law_42 (z := (1 : Int32)) (by decide) ?_
  refine Wk.callLF (coC H) [.int (1 : Int32)] 0 [] (i' := 1) (H.w 70 rfl) (cv_capacity H) o_L_law_43 (run_capacity H (F_init p1 p2 p3 p4) (G_init p1 p2 p3 p4) (A_init p1 p2 p3 p4) (B_init p1 p2 p3 p4) (1 : Int32)) (wt := 0) (cu' := 16) (su' := 324) (by decide) trivial rfl rfl rfl rfl rfl rfl rfl rfl rfl rfl (ws' := [(15, (F_init p1 p2 p3 p4), (G_init p1 p2 p3 p4), (A_init p1 p2 p3 p4), (B_init p1 p2 p3 p4))]) rfl ?_
  refine Wk.iloadN o_L_law_46 rfl ?_
  refine Wk.iconst o_L_law_47 (z := (1 : Int32)) (by decide) ?_
  refine Wk.ldc o_L_law_48 (z := (1000000 : Int32)) (H.w 79 rfl) ?_
  refine Wk.callSF mtL [.int p2, .int (1 : Int32), .int (1000000 : Int32)] [.int (f_capacity (A_init p1 p2 p3 p4) (1 : Int32))] (H.w 66 rfl) (cv_L_clamp H) o_L_law_50 (run_L_clamp H sl sv [(15, (F_init p1 p2 p3 p4), (G_init p1 p2 p3 p4), (A_init p1 p2 p3 p4), (B_init p1 p2 p3 p4))] p2 (1 : Int32) (1000000 : Int32)) (wt := 1) (cu' := 16) (su' := 324) (by decide) rfl rfl rfl rfl rfl rfl ?_
  refine Wk.icmp_eq o_L_law_53 (fun q3 => ?_) (fun q => absurd h4 q)
  refine Wk.aload o_L_law_58 rfl ?_
  refine Wk.iconst o_L_law_60 (z := (2 : Int32)) (by decide) ?_
  refine Wk.callLF (coC H) [.int (2 : Int32)] 0 [] (i' := 1) (H.w 70 rfl) (cv_capacity H) o_L_law_61 (run_capacity H (F_init p1 p2 p3 p4) (G_init p1 p2 p3 p4) (A_init p1 p2 p3 p4) (B_init p1 p2 p3 p4) (2 : Int32)) (wt := 0) (cu' := 16) (su' := 324) (by decide) trivial rfl rfl rfl rfl rfl rfl rfl rfl rfl rfl (ws' := [(15, (F_init p1 p2 p3 p4), (G_init p1 p2 p3 p4), (A_init p1 p2 p3 p4), (B_init p1 p2 p3 p4))]) rfl ?_
  refine Wk.iloadN o_L_law_64 rfl ?_
  refine Wk.iconst o_L_law_65 (z := (1 : Int32)) (by decide) ?_
  refine Wk.ldc o_L_law_66 (z := (1000000 : Int32)) (H.w 79 rfl) ?_
  refine Wk.callSF mtL [.int p3, .int (1 : Int32), .int (1000000 : Int32)] [.int (f_capacity (A_init p1 p2 p3 p4) (2 : Int32))] (H.w 66 rfl) (cv_L_clamp H) o_L_law_68 (run_L_clamp H sl sv [(15, (F_init p1 p2 p3 p4), (G_init p1 p2 p3 p4), (A_init p1 p2 p3 p4), (B_init p1 p2 p3 p4))] p3 (1 : Int32) (1000000 : Int32)) (wt := 1) (cu' := 16) (su' := 324) (by decide) rfl rfl rfl rfl rfl rfl ?_
  refine Wk.icmp_eq o_L_law_71 (fun q5 => ?_) (fun q => absurd h6 q)
  refine Wk.aload o_L_law_76 rfl ?_
  refine Wk.iload o_L_law_78 rfl ?_
  refine Wk.callLF (coC H) [.int p5] 0 [] (i' := 1) (H.w 80 rfl) (cv_userStatus H) o_L_law_80 (run_userStatus H (F_init p1 p2 p3 p4) (G_init p1 p2 p3 p4) (A_init p1 p2 p3 p4) (B_init p1 p2 p3 p4) p5 s7) (wt := 0) (cu' := 16) (su' := 324) (by decide) trivial rfl rfl rfl rfl rfl rfl rfl rfl rfl rfl (ws' := [(15, (F_init p1 p2 p3 p4), (G_init p1 p2 p3 p4), (A_init p1 p2 p3 p4), (B_init p1 p2 p3 p4))]) rfl ?_
  refine Wk.istore o_L_law_83 (Or.inl rfl) (L' := [.val (.int p1), .val (.int p2), .val (.int p3), .val (.int p4), .val (.int p5), .val (.ref 1), .val (.int (f_L_clamp p4 (2 : Int32) (8 : Int32))), .val (.int (f_userStatus (F_init p1 p2 p3 p4) (A_init p1 p2 p3 p4) p5)), .unset, .unset, .unset]) rfl ?_
  refine Wk.iload o_L_law_85 rfl ?_
  have J11 : Wk l Z (MoL Z cdC "DominantShareL1" false) md_L_law 102 [.val (.int p1), .val (.int p2), .val (.int p3), .val (.int p4), .val (.int p5), .val (.ref 1), .val (.int (f_L_clamp p4 (2 : Int32) (8 : Int32))), .val (.int (f_userStatus (F_init p1 p2 p3 p4) (A_init p1 p2 p3 p4) p5)), .unset, .unset, .unset] [.int (if p5 < 0 then (-1 : Int32) else (if p5 < (f_L_clamp p4 (2 : Int32) (8 : Int32)) then (0 : Int32) else (-1 : Int32)))] (sl, sv, [(15, (F_init p1 p2 p3 p4), (G_init p1 p2 p3 p4), (A_init p1 p2 p3 p4), (B_init p1 p2 p3 p4))]) 16 324 Q := by
    refine Wk.istore o_L_law_102 (Or.inl rfl) (L' := [.val (.int p1), .val (.int p2), .val (.int p3), .val (.int p4), .val (.int p5), .val (.ref 1), .val (.int (f_L_clamp p4 (2 : Int32) (8 : Int32))), .val (.int (f_userStatus (F_init p1 p2 p3 p4) (A_init p1 p2 p3 p4) p5)), .val (.int (if p5 < 0 then (-1 : Int32) else (if p5 < (f_L_clamp p4 (2 : Int32) (8 : Int32)) then (0 : Int32) else (-1 : Int32)))), .unset, .unset]) rfl ?_
    refine Wk.iload o_L_law_104 rfl ?_
    refine Wk.iload o_L_law_106 rfl ?_
    refine Wk.icmp_eq o_L_law_108 (fun q12 => ?_) (fun q => absurd h13 q)
    refine Wk.aload o_L_law_113 rfl ?_
    refine Wk.iload o_L_law_115 rfl ?_
    refine Wk.callLF (coC H) [.int p5] 0 [] (i' := 1) (H.w 89 rfl) (cv_used H) o_L_law_117 (run_used H (F_init p1 p2 p3 p4) (G_init p1 p2 p3 p4) (A_init p1 p2 p3 p4) (B_init p1 p2 p3 p4) p5) (wt := 0) (cu' := 16) (su' := 324) (by decide) trivial rfl rfl rfl rfl rfl rfl rfl rfl rfl rfl (ws' := [(15, (F_init p1 p2 p3 p4), (G_init p1 p2 p3 p4), (A_init p1 p2 p3 p4), (B_init p1 p2 p3 p4))]) rfl ?_
    refine Wk.istore o_L_law_120 (Or.inl rfl) (L' := [.val (.int p1), .val (.int p2), .val (.int p3), .val (.int p4), .val (.int p5), .val (.ref 1), .val (.int (f_L_clamp p4 (2 : Int32) (8 : Int32))), .val (.int (f_userStatus (F_init p1 p2 p3 p4) (A_init p1 p2 p3 p4) p5)), .val (.int (if p5 < 0 then (-1 : Int32) else (if p5 < (f_L_clamp p4 (2 : Int32) (8 : Int32)) then (0 : Int32) else (-1 : Int32)))), .val (.int (f_used (A_init p1 p2 p3 p4) p5)), .unset]) rfl ?_
    refine Wk.iload o_L_law_122 rfl ?_
    have J17 : Wk l Z (MoL Z cdC "DominantShareL1" false) md_L_law 138 [.val (.int p1), .val (.int p2), .val (.int p3), .val (.int p4), .val (.int p5), .val (.ref 1), .val (.int (f_L_clamp p4 (2 : Int32) (8 : Int32))), .val (.int (f_userStatus (F_init p1 p2 p3 p4) (A_init p1 p2 p3 p4) p5)), .val (.int (if p5 < 0 then (-1 : Int32) else (if p5 < (f_L_clamp p4 (2 : Int32) (8 : Int32)) then (0 : Int32) else (-1 : Int32)))), .val (.int (f_used (A_init p1 p2 p3 p4) p5)), .unset] [.int (if p5 < 0 then (-1 : Int32) else (if (2 : Int32) < p5 then (-1 : Int32) else (0 : Int32)))] (sl, sv, [(15, (F_init p1 p2 p3 p4), (G_init p1 p2 p3 p4), (A_init p1 p2 p3 p4), (B_init p1 p2 p3 p4))]) 16 324 Q := by
      refine Wk.istore o_L_law_138 (Or.inl rfl) (L' := [.val (.int p1), .val (.int p2), .val (.int p3), .val (.int p4), .val (.int p5), .val (.ref 1), .val (.int (f_L_clamp p4 (2 : Int32) (8 : Int32))), .val (.int (f_userStatus (F_init p1 p2 p3 p4) (A_init p1 p2 p3 p4) p5)), .val (.int (if p5 < 0 then (-1 : Int32) else (if p5 < (f_L_clamp p4 (2 : Int32) (8 : Int32)) then (0 : Int32) else (-1 : Int32)))), .val (.int (f_used (A_init p1 p2 p3 p4) p5)), .val (.int (if p5 < 0 then (-1 : Int32) else (if (2 : Int32) < p5 then (-1 : Int32) else (0 : Int32))))]) rfl ?_
      refine Wk.iload o_L_law_140 rfl ?_
      refine Wk.iload o_L_law_142 rfl ?_
      refine Wk.icmp_eq o_L_law_144 (fun q18 => ?_) (fun q => absurd h19 q)
      refine Wk.aload o_L_law_149 rfl ?_
      refine Wk.callLF (coC H) [] 0 [] (i' := 1) (H.w 94 rfl) (cv_reservedTask H) o_L_law_151 (run_reservedTask H (F_init p1 p2 p3 p4) (G_init p1 p2 p3 p4) (A_init p1 p2 p3 p4) (B_init p1 p2 p3 p4)) (wt := 0) (cu' := 16) (su' := 324) (by decide) trivial rfl rfl rfl rfl rfl rfl rfl rfl rfl rfl (ws' := [(15, (F_init p1 p2 p3 p4), (G_init p1 p2 p3 p4), (A_init p1 p2 p3 p4), (B_init p1 p2 p3 p4))]) rfl ?_
      refine Wk.iconst o_L_law_154 (z := (-1 : Int32)) (by decide) ?_
      refine Wk.icmp_ne o_L_law_155 (fun q => absurd h21 q) (fun q20 => ?_)
      refine Wk.iconst o_L_law_158 (z := (1 : Int32)) (by decide) ?_
      refine Wk.goto o_L_law_159 ?_
      exact Wk.zreturn mrL rfl o_L_law_163 rfl (by decide) (by decide) (y := (1 : Int32)) (by decide) h22
    refine Wk.if_lt o_L_law_124 (fun q14 => ?_) (fun q14 => ?_)
    · refine Wk.iconst o_L_law_137 (z := (-1 : Int32)) (by decide) ?_
      first | exact J17 | (simp only [if_pos q14] at J17 ⊢; exact J17)
    · refine Wk.iload o_L_law_127 rfl ?_
      refine Wk.iconst o_L_law_129 (z := (2 : Int32)) (by decide) ?_
      refine Wk.icmp_gt o_L_law_130 (fun q15 => ?_) (fun q15 => ?_)
      · refine Wk.iconst o_L_law_137 (z := (-1 : Int32)) (by decide) ?_
        first | exact J17 | (simp only [if_neg q14, if_pos q15] at J17 ⊢; exact J17)
      · refine Wk.iconst o_L_law_133 (z := (0 : Int32)) (by decide) ?_
        refine Wk.goto o_L_law_134 ?_
        first | exact J17 | (simp only [if_neg q14, if_neg q15] at J17 ⊢; exact J17)
  refine Wk.if_lt o_L_law_87 (fun q8 => ?_) (fun q8 => ?_)
  · refine Wk.iconst o_L_law_101 (z := (-1 : Int32)) (by decide) ?_
    first | exact J11 | (simp only [if_pos q8] at J11 ⊢; exact J11)
  · refine Wk.iload o_L_law_90 rfl ?_
    refine Wk.iload o_L_law_92 rfl ?_
    refine Wk.icmp_ge o_L_law_94 (fun q9 => ?_) (fun q9 => ?_)
    · refine Wk.iconst o_L_law_101 (z := (-1 : Int32)) (by decide) ?_
      first | exact J11 | (simp only [if_neg q8, if_neg q9] at J11 ⊢; exact J11)
    · refine Wk.iconst o_L_law_97 (z := (0 : Int32)) (by decide) ?_
      refine Wk.goto o_L_law_98 ?_
      first | exact J11 | (simp only [if_neg q8, if_pos q9] at J11 ⊢; exact J11)
theorem upsz {α : Type} [DecidableEq α] {β : Type} (c : β) (i : α) : ups (fun _ => c) i c = fun _ => c := by
  funext j; unfold ups; split <;> rfl
theorem rs_ne (s : Nat → Int32 → Int32) (i : Int32) (j : Nat) (h : j < 3) : A_resetUser s i j = s j := by
  rw [eA_resetUser]; unfold w_rs ups
  have : j = 0 ∨ j = 1 ∨ j = 2 := by omega
  rcases this with rfl | rfl | rfl <;> simp
theorem rs_6 (s : Nat → Int32 → Int32) (i : Int32) (h : s 6 = fun _ => 0) : A_resetUser s i 6 = fun _ => 0 := by
  rw [eA_resetUser]; unfold w_rs
  have e : ∀ (t : Nat → Int32 → Int32) (a b : Nat) (v : Int32 → Int32), b ≠ a → ups t a v b = t b := fun t a b v h => ups_ne _ _ h
  rw [e _ 9 6 _ (by decide), e _ 9 6 _ (by decide), e _ 9 6 _ (by decide), e _ 8 6 _ (by decide), e _ 7 6 _ (by decide), ups_at, h, upsz]
theorem cs_ne (s : Nat → Int32 → Int32) (i : Int32) (j : Nat) (h : j < 10) : A_clearSlotFields s i j = s j := by
  rw [eA_clearSlotFields]; unfold w_sd
  have e : ∀ (t : Nat → Int32 → Int32) (a : Nat) (v : Int32 → Int32), 10 ≤ a → ups t a v j = t j := fun t a v h => ups_ne _ _ (by omega)
  rw [e _ 13 _ (by decide), e _ 13 _ (by decide), e _ 13 _ (by decide), e _ 12 _ (by decide), e _ 11 _ (by decide), e _ 10 _ (by decide)]
theorem us_0 (s : Nat → Int32 → Int32) (i : Int32) (j : Nat) (h : j ≠ 1) (h' : j ≠ 2) : w_us s i j = s j := by
  unfold w_us; rw [ups_ne _ _ h', ups_ne _ _ h]
theorem us_1 (s : Nat → Int32 → Int32) (i : Int32) (h : s 1 = fun _ => 0) : w_us s i 1 = fun _ => 0 := by
  unfold w_us; rw [ups_ne _ _ (by decide), ups_at, h, upsz]
def PA (c : Int32 → Int32) (s : Nat → Int32 → Int32) : Prop := s 0 = c ∧ s 1 = (fun _ => 0) ∧ s 6 = fun _ => 0
theorem PA_rs (c : Int32 → Int32) (s : Nat → Int32 → Int32) (i : Int32) (h : PA c s) : PA c (A_resetUser s i) :=
  ⟨(rs_ne s i 0 (by decide)).trans h.1, (rs_ne s i 1 (by decide)).trans h.2.1, rs_6 s i h.2.2⟩
theorem PA_cs (c : Int32 → Int32) (s : Nat → Int32 → Int32) (i : Int32) (h : PA c s) : PA c (A_clearSlotFields s i) :=
  ⟨(cs_ne s i 0 (by decide)).trans h.1, (cs_ne s i 1 (by decide)).trans h.2.1, (cs_ne s i 6 (by decide)).trans h.2.2⟩
theorem PA_us (c : Int32 → Int32) (s : Nat → Int32 → Int32) (i : Int32) (h : PA c s) : PA c (w_us s i) :=
  ⟨(us_0 s i 0 (by decide) (by decide)).trans h.1, us_1 s i h.2.1, (us_0 s i 6 (by decide) (by decide)).trans h.2.2⟩
theorem PA_rsn (c : Int32 → Int32) (n : Nat) (i : Int32) (s : Nat → Int32 → Int32) (h : PA c s) : PA c (itS A_resetUser n i s) :=
  itS_inv A_resetUser (PA c) (PA_rs c) n i s h
theorem PA_csn (c : Int32 → Int32) (n : Nat) (i : Int32) (s : (Nat → Int32 → Int32) × (Nat → Int32 → Int64)) (h : PA c s.1) : PA c (itS f_csf n i s).1 :=
  itS_inv f_csf (fun s => PA c s.1) (fun s i h => PA_cs c s.1 i h) n i s h
theorem PA_usn (c : Int32 → Int32) (n : Nat) (i : Int32) (s : Nat → Int32 → Int32) (h : PA c s) : PA c (itS w_us n i s) :=
  itS_inv w_us (PA c) (PA_us c) n i s h
theorem PA_0 (p1 p2 p3 : Int32) : PA (A_in0 p1 p2 p3 0) (A_in0 p1 p2 p3) := by
  refine ⟨rfl, ?_, ?_⟩ <;> rw [eA_in0] <;> funext x <;> simp [ups]
theorem ai (p1 p2 p3 p4 : Int32) : PA (A_in0 p1 p2 p3 0) (A_init p1 p2 p3 p4) := by
  unfold A_init AB_init
  exact PA_usn _ _ _ _ (PA_csn _ _ _ _ (PA_rsn _ _ _ _ (PA_0 p1 p2 p3)))
set_option maxRecDepth 65536 in
set_option maxHeartbeats 4000000 in
theorem own_h2 (p1 : Int32) (p2 : Int32) (p3 : Int32) (p4 : Int32) (p5 : Int32) : (f_capacity (A_init p1 p2 p3 p4) (0 : Int32)) = (f_L_clamp p1 (1 : Int32) (1000000 : Int32)) := by
  rw [e_capacity, (ai p1 p2 p3 p4).1, eA_in0, e_L_clamp, if_neg (by decide)]; simp [ups, e_clampInt]
set_option maxRecDepth 65536 in
set_option maxHeartbeats 4000000 in
theorem own_h4 (p1 : Int32) (p2 : Int32) (p3 : Int32) (p4 : Int32) (p5 : Int32) : (f_capacity (A_init p1 p2 p3 p4) (1 : Int32)) = (f_L_clamp p2 (1 : Int32) (1000000 : Int32)) := by
  rw [e_capacity, (ai p1 p2 p3 p4).1, eA_in0, e_L_clamp, if_neg (by decide)]; simp [ups, e_clampInt]
set_option maxRecDepth 65536 in
set_option maxHeartbeats 4000000 in
theorem own_h6 (p1 : Int32) (p2 : Int32) (p3 : Int32) (p4 : Int32) (p5 : Int32) : (f_capacity (A_init p1 p2 p3 p4) (2 : Int32)) = (f_L_clamp p3 (1 : Int32) (1000000 : Int32)) := by
  rw [e_capacity, (ai p1 p2 p3 p4).1, eA_in0, e_L_clamp, if_neg (by decide)]; simp [ups, e_clampInt]
set_option maxRecDepth 65536 in
set_option maxHeartbeats 4000000 in
theorem own_s7 (p1 : Int32) (p2 : Int32) (p3 : Int32) (p4 : Int32) (p5 : Int32) : ¬ 0 < (((A_init p1 p2 p3 p4) 6) p5) := by
  rw [(ai p1 p2 p3 p4).2.2]; show ¬ (0 : Int32) < 0; decide
set_option maxRecDepth 65536 in
set_option maxHeartbeats 4000000 in
theorem own_h13 (p1 : Int32) (p2 : Int32) (p3 : Int32) (p4 : Int32) (p5 : Int32) : (f_userStatus (F_init p1 p2 p3 p4) (A_init p1 p2 p3 p4) p5) = (if p5 < 0 then (-1 : Int32) else (if p5 < (f_L_clamp p4 (2 : Int32) (8 : Int32)) then (0 : Int32) else (-1 : Int32))) := by
  rw [e_userStatus, (ai p1 p2 p3 p4).2.2, e_isUser, F_init_0, e_L_clamp, e_clampInt]
  by_cases a : p5 < 0 <;> simp [a, nar0, nar1]
  by_cases b : p5 < (if p4 < 2 then 2 else if 8 < p4 then 8 else p4)
  · have c : p5 < 8 := by grind
    simp [b, c, nar0, nar1]
  · simp [b, nar0]
set_option maxRecDepth 65536 in
set_option maxHeartbeats 4000000 in
theorem own_h19 (p1 : Int32) (p2 : Int32) (p3 : Int32) (p4 : Int32) (p5 : Int32) : (f_used (A_init p1 p2 p3 p4) p5) = (if p5 < 0 then (-1 : Int32) else (if (2 : Int32) < p5 then (-1 : Int32) else (0 : Int32))) := by
  rw [e_used, (ai p1 p2 p3 p4).2.1, e_isResource]
  by_cases a : p5 < 0 <;> simp [a, nar0, nar1]
  by_cases b : p5 < 3
  · have c : ¬ 2 < p5 := by grind
    simp [b, c, nar0, nar1]
  · have c : 2 < p5 := by grind
    simp [b, c, nar0]
set_option maxRecDepth 65536 in
set_option maxHeartbeats 4000000 in
theorem own_h21 (p1 : Int32) (p2 : Int32) (p3 : Int32) (p4 : Int32) (p5 : Int32) : (f_reservedTask (F_init p1 p2 p3 p4)) = (-1 : Int32) := by
  rw [e_reservedTask, F_init_2]
theorem law_ok {l : Launch} {Z : State} {a0 : Array Value} (H : OK Z a0) (p1 : Int32) (p2 : Int32) (p3 : Int32) (p4 : Int32) (p5 : Int32) :
    Wk l Z (MoL Z cdC "DominantShareL1" false) md_L_law 0 [.val (.int p1), .val (.int p2), .val (.int p3), .val (.int p4), .val (.int p5), .unset, .unset, .unset, .unset, .unset, .unset] [] (0, (fun _ => 0), []) 0 0 (fun v _ => v = some (.int 1)) :=
  wp_L_law H 0 (fun _ => 0) p1 p2 p3 p4 p5 (own_h2 p1 p2 p3 p4 p5) (own_h4 p1 p2 p3 p4 p5) (own_h6 p1 p2 p3 p4 p5) (own_s7 p1 p2 p3 p4 p5) (own_h13 p1 p2 p3 p4 p5) (own_h19 p1 p2 p3 p4 p5) (own_h21 p1 p2 p3 p4 p5) rfl
set_option maxRecDepth 65536 in
set_option maxHeartbeats 40000000 in
theorem comes_1 {Post : Tables → Env → Array Value → State → Outcome → State → Prop} (hpost : ∀ tb e args s v u, (limb_1_1.after args s (.returned v) u = true ∧ limb_1_2.after args s (.returned v) u = true ∧ True) → FrameEnd s (.returned v) u (Jvm.fieldLocs frame_1_writes args s ++ Jvm.arrayLocs frame_1_arrays args s ++ Jvm.staticLocs frame_1_statics s) room_1.cells room_1.slots → Post tb e args s (.returned v) u) :
    ArmFor flags0 classFile x code maxLocals ret World_1 tables_1 room_1 Calls_1 rest_1 Pre_1 Post := by
  intro l hfl _ _ p e ha hc hk s m args below hf hA hF happ hP
  obtain ⟨hcalls, hrest, hpre⟩ := hP
  obtain ⟨-, -, -, hnamed, -, -, -, hat⟩ := (Spec.applies_iff hf).mp happ
  obtain ⟨hg, hn⟩ := and_e (Cond.before_iff.mp (show (Jvm.Cond.and given_1 narrow_1).before args s = true from hpre))
  obtain ⟨h1, h2⟩ := and_e hg
  obtain ⟨w0, w1, w2, w3, w4, rfl⟩ : ∃ w0 w1 w2 w3 w4 : Value, args = #[w0, w1, w2, w3, w4] := by
    have hs : args.size = 5 := by simpa [Cond.value, given_1] using h1
    obtain ⟨L⟩ := args
    match L, hs with
    | [w0, w1, w2, w3, w4], _ => exact ⟨w0, w1, w2, w3, w4, rfl⟩
  have hw : OK s #[w0, w1, w2, w3, w4] := fun d (hd : d ∈ tables_1) => atoms_spec (ws := Jvm.Cond.code x code maxLocals ret :: tables_1) hat d (List.mem_cons_of_mem _ hd)
  obtain ⟨g0, r0⟩ := and_e h2
  obtain ⟨g1, r1⟩ := and_e r0
  obtain ⟨g2, r2⟩ := and_e r1
  obtain ⟨g3, r3⟩ := and_e r2
  have g4 := r3
  obtain ⟨i0, e0⟩ := is_v g0
  obtain rfl : w0 = (.int i0) := Option.some.inj e0
  obtain ⟨i1, e1⟩ := is_v g1
  obtain rfl : w1 = (.int i1) := Option.some.inj e1
  obtain ⟨i2, e2⟩ := is_v g2
  obtain rfl : w2 = (.int i2) := Option.some.inj e2
  obtain ⟨i3, e3⟩ := is_v g3
  obtain rfl : w3 = (.int i3) := Option.some.inj e3
  obtain ⟨i4, e4⟩ := is_v g4
  obtain rfl : w4 = (.int i4) := Option.some.inj e4
  have rel0 : relL s cdC false (s.heap.size, 0) (0, (fun _ => 0), []) s.heap := ⟨fun q => (by cases q), fun i x q => (by simp at q), (by simp)⟩
  obtain ⟨n, o, h1, h2, h3, v, L, rfl, ⟨w', hv, hrel, hfrm, N, hsz, hnr⟩, hq⟩ := (law_ok hw i0 i1 i2 i3 i4).met (M := MoL s cdC "DominantShareL1" false) (l := l) pn_DominantShareL1 rfl (en := (s.heap.size, 0)) rel0 [.int i0, .int i1, .int i2, .int i3, .int i4] rfl rfl tables_1 p e ha hc hk s m _ below hf ((Spec.applies_iff_loose hf).mp happ).1 ⟨rfl, State.Warmed39.refl s, rfl⟩ trivial
  subst hv
  exact ⟨n, _, h1, h2, h3, hpost _ _ _ _ _ _ ⟨Cond.after_iff.mpr rfl, Cond.after_iff.mpr (eq_i res_at (Term.int_eval (1)) rfl), trivial⟩ ⟨hq.1, hq.2.1, (hq.2.2.sift fun y hy => Or.inr (N y hy)).mono (Nat.le_refl _) (Nat.le_refl _)⟩⟩
theorem main_1_1 : Claimed_1_1 := comes_1 fun _ _ _ _ _ _ h hF => ⟨h.1, hF⟩
theorem main_1_2 : Claimed_1_2 := comes_1 fun _ _ _ _ _ _ h hF => ⟨h.2.1, hF⟩
end Jvm.Pilot.@@N@@
namespace Jvm.Pilot.@@N@@
open Jvm Jvm.ClassFile Sem Op Lib Jvm.Free Jvm.Stand Jvm.Pilot.@@N@@.Jvm.D
/-! MADE BY PROGRAM (witnessworld.py) out of the Statement's table words and the real class files: 11 classes; the members and pool entries that the words name. The judged class is class 1, her method 1. -/
namespace start1
open Jvm.ClassFile
def u (s : String) : CpInfo := .utf8 (stringToUtf16 s)
/-- a pool by its gaps: so many unusable entries, then the entry; so many at the end -/
def gap : Nat → List CpInfo → List CpInfo
  | 0, r => r
  | n + 1, r => .unusable :: gap n r
def poolList (es : List (Nat × CpInfo)) (last : Nat) : List CpInfo := es.foldr (fun e r => gap e.1 (e.2 :: r)) (gap last [])
def pool (es : List (Nat × CpInfo)) (last : Nat) : Array CpInfo := ⟨poolList es last⟩
def fileOf (pool : Array CpInfo) (this : Nat) (attrs : Array Attribute := #[]) (ms : Array MethodInfo := #[]) (fl : Nat := 33) (sup : Nat := 0) (ifs : Array Nat := #[]) (fds : Array FieldInfo := #[]) : ClassFile where
  minorVersion := 0
  majorVersion := 65
  constantPool := pool
  accessFlags := fl
  thisClass := this
  superClass := sup
  interfaces := ifs
  fields := fds
  methods := ms
  attributes := attrs
def plain (name : String) (sup : Option ClassId) : Class where
  name := name
  kind := .ordinary
  loader := none
  accessFlags := 33
  super := sup
  interfaces := #[]
  cf := none
  fields := #[]
  methods := #[]
  instanceTypes := #[]
  staticTypes := #[]
  resolved := #[]
  callSites := []
  init := .initialized
  statics := none
  mirror := none

def pool0 : Array CpInfo := pool [(5, u "<init>"), (0, u "()V"), (1, .class_ 10), (1, u "java/lang/Object")] 113

def k0c0 : Code := { maxStack := 0, maxLocals := 1, code := object_method_1_code, exceptionTable := #[], attributes := #[] }
def k0m0 : Method := { name := "<init>", desc := "()V", sig := { parameters := [], returnType := none }, accessFlags := 1, code := some k0c0 }
/-- java/lang/Object -/
def k0 : Class := { plain "java/lang/Object" none with
  accessFlags := 33
  interfaces := #[]
  cf := some (fileOf pool0 8 #[] #[{ accessFlags := 1, nameIndex := 5, descriptorIndex := 6, attributes := #[] }] 33 0 #[] #[])
  fields := #[]
  methods := #[k0m0]
  instanceTypes := #[]
  staticTypes := #[]
  resolved := Array.replicate 124 none
  statics := none }

def pool1 : Array CpInfo := pool [(2, .class_ 4), (1, u "java/lang/Object"), (0, u "<init>"), (0, u "()V"), (0, .class_ 8), (0, u "DominantShare"), (0, .methodref 7 10), (0, .nameAndType 5 11), (0, u "(IIII)V"), (0, .methodref 13 14), (0, .class_ 15), (0, .nameAndType 16 17), (0, u "DominantShareL1"), (0, u "clamp"), (0, u "(III)I"), (0, .methodref 7 19), (0, .nameAndType 20 21), (0, u "capacity"), (0, u "(I)I"), (0, .integer 1000000), (0, .methodref 7 24), (0, .nameAndType 25 21), (0, u "userStatus"), (0, .methodref 7 27), (0, .nameAndType 28 21), (0, u "used"), (0, .methodref 7 30), (0, .nameAndType 31 32), (0, u "reservedTask"), (0, u "()I"), (2, u "law"), (0, u "(IIIII)Z")] 3

def k1m0 : Method := { name := "<init>", desc := "()V", sig := { parameters := [], returnType := none }, accessFlags := 1, code := none }
def k1c1 : Code := { maxStack := 6, maxLocals := 11, code := code, exceptionTable := #[], attributes := #[] }
def k1m1 : Method := { name := "law", desc := "(IIIII)Z", sig := { parameters := [.int, .int, .int, .int, .int], returnType := some .boolean }, accessFlags := 9, code := some k1c1 }
def k1c2 : Code := { maxStack := 2, maxLocals := 3, code := method_3_code, exceptionTable := #[], attributes := #[] }
def k1m2 : Method := { name := "clamp", desc := "(III)I", sig := { parameters := [.int, .int, .int], returnType := some .int }, accessFlags := 10, code := some k1c2 }
/-- DominantShareL1 -/
def k1 : Class := { plain "DominantShareL1" (some 0) with
  accessFlags := 49
  interfaces := #[]
  cf := some (fileOf pool1 13 #[] #[{ accessFlags := 1, nameIndex := 5, descriptorIndex := 6, attributes := #[] }, { accessFlags := 9, nameIndex := 35, descriptorIndex := 36, attributes := #[] }, { accessFlags := 10, nameIndex := 16, descriptorIndex := 17, attributes := #[] }] 49 2 #[] #[])
  fields := #[]
  methods := #[k1m0, k1m1, k1m2]
  instanceTypes := #[]
  staticTypes := #[]
  resolved := Array.replicate 40 none
  statics := none }

def pool2 : Array CpInfo := pool [(1, .methodref 2 3), (0, .class_ 4), (0, .nameAndType 5 6), (0, u "java/lang/Object"), (0, u "<init>"), (0, u "()V"), (0, .fieldref 8 9), (0, .class_ 10), (0, .nameAndType 11 12), (0, u "DominantShare"), (0, u "capRes"), (0, u "[I"), (0, .fieldref 8 14), (0, .nameAndType 15 12), (0, u "usedRes"), (0, .fieldref 8 17), (0, .nameAndType 18 12), (0, u "staged"), (0, .fieldref 8 20), (0, .nameAndType 21 12), (0, u "userWeight"), (0, .fieldref 8 23), (0, .nameAndType 24 12), (0, u "userCap"), (0, .fieldref 8 26), (0, .nameAndType 27 12), (0, u "running"), (0, .fieldref 8 29), (0, .nameAndType 30 12), (0, u "pendingCount"), (0, .fieldref 8 32), (0, .nameAndType 33 12), (0, u "headSlot"), (0, .fieldref 8 35), (0, .nameAndType 36 12), (0, u "domRes"), (0, .fieldref 8 38), (0, .nameAndType 39 12), (0, u "alloc"), (0, .fieldref 8 41), (0, .nameAndType 42 12), (0, u "slotState"), (0, .fieldref 8 44), (0, .nameAndType 45 12), (0, u "slotUser"), (0, .fieldref 8 47), (0, .nameAndType 48 12), (0, u "slotGang"), (0, .fieldref 8 50), (0, .nameAndType 51 12), (0, u "slotDemand"), (0, .fieldref 8 53), (0, .nameAndType 54 55), (0, u "slotSeq"), (0, u "[J"), (0, .integer 1000000), (0, .methodref 8 58), (0, .nameAndType 59 60), (0, u "clampInt"), (0, u "(III)I"), (0, .fieldref 8 62), (0, .nameAndType 63 64), (0, u "userCount"), (0, u "I"), (0, .methodref 8 66), (0, .nameAndType 67 68), (0, u "resetUser"), (0, u "(I)V"), (0, .methodref 8 70), (0, .nameAndType 71 68), (0, u "clearSlotFields"), (0, .fieldref 8 73), (0, .nameAndType 74 64), (0, u "freeCount"), (0, .fieldref 8 76), (0, .nameAndType 77 78), (0, u "seqCounter"), (0, u "J"), (0, .fieldref 8 80), (0, .nameAndType 81 64), (0, u "reserved"), (0, .methodref 8 83), (0, .nameAndType 84 85), (0, u "isUser"), (0, u "(I)Z"), (25, u "()I"), (29, .methodref 8 142), (0, .nameAndType 143 85), (0, u "isResource"), (0, .methodref 8 145), (0, .nameAndType 146 147), (0, u "allocIndex"), (0, u "(II)I"), (19, u "(I)I"), (22, u "RESOURCES"), (2, u "TASKS"), (1, u "FREE"), (1, u "PENDING"), (1, u "RUNNING"), (1, u "IDLE"), (0, u "CAPPED"), (0, u "WAITING"), (0, u "FITS"), (0, u "ERR_USER"), (1, u "ERR_GANG"), (1, u "ERR_ZERO"), (1, u "ERR_NEVER"), (1, u "ERR_FULL"), (1, u "BAD"), (0, u "(IIII)V"), (14, u "used"), (0, u "capacity"), (1, u "reservedTask"), (0, u "userStatus")] 2

def k2c0 : Code := { maxStack := 6, maxLocals := 6, code := prog_1_method_1_code, exceptionTable := #[], attributes := #[] }
def k2m0 : Method := { name := "<init>", desc := "(IIII)V", sig := { parameters := [.int, .int, .int, .int], returnType := none }, accessFlags := 1, code := some k2c0 }
def k2c1 : Code := { maxStack := 2, maxLocals := 2, code := prog_1_method_13_code, exceptionTable := #[], attributes := #[] }
def k2m1 : Method := { name := "used", desc := "(I)I", sig := { parameters := [.int], returnType := some .int }, accessFlags := 1, code := some k2c1 }
def k2c2 : Code := { maxStack := 2, maxLocals := 2, code := prog_1_method_14_code, exceptionTable := #[], attributes := #[] }
def k2m2 : Method := { name := "capacity", desc := "(I)I", sig := { parameters := [.int], returnType := some .int }, accessFlags := 1, code := some k2c2 }
def k2c3 : Code := { maxStack := 1, maxLocals := 1, code := prog_1_method_16_code, exceptionTable := #[], attributes := #[] }
def k2m3 : Method := { name := "reservedTask", desc := "()I", sig := { parameters := [], returnType := some .int }, accessFlags := 1, code := some k2c3 }
def k2c4 : Code := { maxStack := 3, maxLocals := 2, code := prog_1_method_17_code, exceptionTable := #[], attributes := #[] }
def k2m4 : Method := { name := "userStatus", desc := "(I)I", sig := { parameters := [.int], returnType := some .int }, accessFlags := 1, code := some k2c4 }
def k2c5 : Code := { maxStack := 2, maxLocals := 4, code := prog_1_method_18_code, exceptionTable := #[], attributes := #[] }
def k2m5 : Method := { name := "clampInt", desc := "(III)I", sig := { parameters := [.int, .int, .int], returnType := some .int }, accessFlags := 2, code := some k2c5 }
def k2c6 : Code := { maxStack := 2, maxLocals := 2, code := prog_1_method_19_code, exceptionTable := #[], attributes := #[] }
def k2m6 : Method := { name := "isUser", desc := "(I)Z", sig := { parameters := [.int], returnType := some .boolean }, accessFlags := 2, code := some k2c6 }
def k2c7 : Code := { maxStack := 2, maxLocals := 2, code := prog_1_method_21_code, exceptionTable := #[], attributes := #[] }
def k2m7 : Method := { name := "isResource", desc := "(I)Z", sig := { parameters := [.int], returnType := some .boolean }, accessFlags := 2, code := some k2c7 }
def k2c8 : Code := { maxStack := 2, maxLocals := 3, code := prog_1_method_26_code, exceptionTable := #[], attributes := #[] }
def k2m8 : Method := { name := "allocIndex", desc := "(II)I", sig := { parameters := [.int, .int], returnType := some .int }, accessFlags := 2, code := some k2c8 }
def k2c9 : Code := { maxStack := 4, maxLocals := 3, code := prog_1_method_31_code, exceptionTable := #[], attributes := #[] }
def k2m9 : Method := { name := "resetUser", desc := "(I)V", sig := { parameters := [.int], returnType := none }, accessFlags := 2, code := some k2c9 }
def k2c10 : Code := { maxStack := 4, maxLocals := 3, code := prog_1_method_32_code, exceptionTable := #[], attributes := #[] }
def k2m10 : Method := { name := "clearSlotFields", desc := "(I)V", sig := { parameters := [.int], returnType := none }, accessFlags := 2, code := some k2c10 }
/-- DominantShare -/
def k2 : Class := { plain "DominantShare" (some 0) with
  accessFlags := 49
  interfaces := #[]
  cf := some (fileOf pool2 8 #[] #[{ accessFlags := 1, nameIndex := 5, descriptorIndex := 216, attributes := #[] }, { accessFlags := 1, nameIndex := 231, descriptorIndex := 167, attributes := #[] }, { accessFlags := 1, nameIndex := 232, descriptorIndex := 167, attributes := #[] }, { accessFlags := 1, nameIndex := 234, descriptorIndex := 111, attributes := #[] }, { accessFlags := 1, nameIndex := 235, descriptorIndex := 167, attributes := #[] }, { accessFlags := 2, nameIndex := 59, descriptorIndex := 60, attributes := #[] }, { accessFlags := 2, nameIndex := 84, descriptorIndex := 85, attributes := #[] }, { accessFlags := 2, nameIndex := 143, descriptorIndex := 85, attributes := #[] }, { accessFlags := 2, nameIndex := 146, descriptorIndex := 147, attributes := #[] }, { accessFlags := 2, nameIndex := 67, descriptorIndex := 68, attributes := #[] }, { accessFlags := 2, nameIndex := 71, descriptorIndex := 68, attributes := #[] }] 49 2 #[] #[{ accessFlags := 25, nameIndex := 190, descriptorIndex := 64, attributes := #[] }, { accessFlags := 25, nameIndex := 193, descriptorIndex := 64, attributes := #[] }, { accessFlags := 25, nameIndex := 195, descriptorIndex := 64, attributes := #[] }, { accessFlags := 25, nameIndex := 197, descriptorIndex := 64, attributes := #[] }, { accessFlags := 25, nameIndex := 199, descriptorIndex := 64, attributes := #[] }, { accessFlags := 25, nameIndex := 201, descriptorIndex := 64, attributes := #[] }, { accessFlags := 25, nameIndex := 202, descriptorIndex := 64, attributes := #[] }, { accessFlags := 25, nameIndex := 203, descriptorIndex := 64, attributes := #[] }, { accessFlags := 25, nameIndex := 204, descriptorIndex := 64, attributes := #[] }, { accessFlags := 25, nameIndex := 205, descriptorIndex := 64, attributes := #[] }, { accessFlags := 25, nameIndex := 207, descriptorIndex := 64, attributes := #[] }, { accessFlags := 25, nameIndex := 209, descriptorIndex := 64, attributes := #[] }, { accessFlags := 25, nameIndex := 211, descriptorIndex := 64, attributes := #[] }, { accessFlags := 25, nameIndex := 213, descriptorIndex := 64, attributes := #[] }, { accessFlags := 25, nameIndex := 215, descriptorIndex := 64, attributes := #[] }, { accessFlags := 18, nameIndex := 11, descriptorIndex := 12, attributes := #[] }, { accessFlags := 18, nameIndex := 15, descriptorIndex := 12, attributes := #[] }, { accessFlags := 18, nameIndex := 18, descriptorIndex := 12, attributes := #[] }, { accessFlags := 18, nameIndex := 21, descriptorIndex := 12, attributes := #[] }, { accessFlags := 18, nameIndex := 24, descriptorIndex := 12, attributes := #[] }, { accessFlags := 18, nameIndex := 27, descriptorIndex := 12, attributes := #[] }, { accessFlags := 18, nameIndex := 30, descriptorIndex := 12, attributes := #[] }, { accessFlags := 18, nameIndex := 33, descriptorIndex := 12, attributes := #[] }, { accessFlags := 18, nameIndex := 36, descriptorIndex := 12, attributes := #[] }, { accessFlags := 18, nameIndex := 39, descriptorIndex := 12, attributes := #[] }, { accessFlags := 18, nameIndex := 42, descriptorIndex := 12, attributes := #[] }, { accessFlags := 18, nameIndex := 45, descriptorIndex := 12, attributes := #[] }, { accessFlags := 18, nameIndex := 48, descriptorIndex := 12, attributes := #[] }, { accessFlags := 18, nameIndex := 51, descriptorIndex := 12, attributes := #[] }, { accessFlags := 18, nameIndex := 54, descriptorIndex := 55, attributes := #[] }, { accessFlags := 2, nameIndex := 63, descriptorIndex := 64, attributes := #[] }, { accessFlags := 2, nameIndex := 74, descriptorIndex := 64, attributes := #[] }, { accessFlags := 2, nameIndex := 77, descriptorIndex := 78, attributes := #[] }, { accessFlags := 2, nameIndex := 81, descriptorIndex := 64, attributes := #[] }])
  fields := #[{ name := "RESOURCES", type := .int, accessFlags := 25, slot := 0, constantValue := 0 }, { name := "TASKS", type := .int, accessFlags := 25, slot := 1, constantValue := 0 }, { name := "FREE", type := .int, accessFlags := 25, slot := 2, constantValue := 0 }, { name := "PENDING", type := .int, accessFlags := 25, slot := 3, constantValue := 0 }, { name := "RUNNING", type := .int, accessFlags := 25, slot := 4, constantValue := 0 }, { name := "IDLE", type := .int, accessFlags := 25, slot := 5, constantValue := 0 }, { name := "CAPPED", type := .int, accessFlags := 25, slot := 6, constantValue := 0 }, { name := "WAITING", type := .int, accessFlags := 25, slot := 7, constantValue := 0 }, { name := "FITS", type := .int, accessFlags := 25, slot := 8, constantValue := 0 }, { name := "ERR_USER", type := .int, accessFlags := 25, slot := 9, constantValue := 0 }, { name := "ERR_GANG", type := .int, accessFlags := 25, slot := 10, constantValue := 0 }, { name := "ERR_ZERO", type := .int, accessFlags := 25, slot := 11, constantValue := 0 }, { name := "ERR_NEVER", type := .int, accessFlags := 25, slot := 12, constantValue := 0 }, { name := "ERR_FULL", type := .int, accessFlags := 25, slot := 13, constantValue := 0 }, { name := "BAD", type := .int, accessFlags := 25, slot := 14, constantValue := 0 }, { name := "capRes", type := (.array .int), accessFlags := 18, slot := 0, constantValue := 0 }, { name := "usedRes", type := (.array .int), accessFlags := 18, slot := 1, constantValue := 0 }, { name := "staged", type := (.array .int), accessFlags := 18, slot := 2, constantValue := 0 }, { name := "userWeight", type := (.array .int), accessFlags := 18, slot := 3, constantValue := 0 }, { name := "userCap", type := (.array .int), accessFlags := 18, slot := 4, constantValue := 0 }, { name := "running", type := (.array .int), accessFlags := 18, slot := 5, constantValue := 0 }, { name := "pendingCount", type := (.array .int), accessFlags := 18, slot := 6, constantValue := 0 }, { name := "headSlot", type := (.array .int), accessFlags := 18, slot := 7, constantValue := 0 }, { name := "domRes", type := (.array .int), accessFlags := 18, slot := 8, constantValue := 0 }, { name := "alloc", type := (.array .int), accessFlags := 18, slot := 9, constantValue := 0 }, { name := "slotState", type := (.array .int), accessFlags := 18, slot := 10, constantValue := 0 }, { name := "slotUser", type := (.array .int), accessFlags := 18, slot := 11, constantValue := 0 }, { name := "slotGang", type := (.array .int), accessFlags := 18, slot := 12, constantValue := 0 }, { name := "slotDemand", type := (.array .int), accessFlags := 18, slot := 13, constantValue := 0 }, { name := "slotSeq", type := (.array .long), accessFlags := 18, slot := 14, constantValue := 0 }, { name := "userCount", type := .int, accessFlags := 2, slot := 15, constantValue := 0 }, { name := "freeCount", type := .int, accessFlags := 2, slot := 16, constantValue := 0 }, { name := "seqCounter", type := .long, accessFlags := 2, slot := 17, constantValue := 0 }, { name := "reserved", type := .int, accessFlags := 2, slot := 18, constantValue := 0 }]
  methods := #[k2m0, k2m1, k2m2, k2m3, k2m4, k2m5, k2m6, k2m7, k2m8, k2m9, k2m10]
  instanceTypes := #[(.array .int), (.array .int), (.array .int), (.array .int), (.array .int), (.array .int), (.array .int), (.array .int), (.array .int), (.array .int), (.array .int), (.array .int), (.array .int), (.array .int), (.array .long), .int, .int, .long, .int]
  staticTypes := #[.int, .int, .int, .int, .int, .int, .int, .int, .int, .int, .int, .int, .int, .int, .int]
  resolved := Array.replicate 238 none
  statics := none }

def pool3 : Array CpInfo := pool [(1, u "java/lang/Cloneable"), (0, .class_ 1), (0, u "java/lang/Object"), (0, .class_ 3)] 3

/-- java/lang/Cloneable -/
def k3 : Class := { plain "java/lang/Cloneable" (some 0) with
  accessFlags := 1537
  interfaces := #[]
  cf := some (fileOf pool3 2 #[] #[] 1537 4 #[] #[])
  fields := #[]
  methods := #[]
  instanceTypes := #[]
  staticTypes := #[]
  resolved := Array.replicate 8 none
  statics := none }

def pool4 : Array CpInfo := pool [(1, u "java/io/Serializable"), (0, .class_ 1), (0, u "java/lang/Object"), (0, .class_ 3)] 3

/-- java/io/Serializable -/
def k4 : Class := { plain "java/io/Serializable" (some 0) with
  accessFlags := 1537
  interfaces := #[]
  cf := some (fileOf pool4 2 #[] #[] 1537 4 #[] #[])
  fields := #[]
  methods := #[]
  instanceTypes := #[]
  staticTypes := #[]
  resolved := Array.replicate 8 none
  statics := none }

/-- the primitive byte -/
def k5 : Class := { plain "byte" none with kind := .primitive 'B', accessFlags := 0x411 }
/-- [B -/
def k6 : Class := { plain "[B" (some 0) with kind := .array 5 .byte, interfaces := #[3, 4], accessFlags := 1041 }

/-- the primitive int -/
def k7 : Class := { plain "int" none with kind := .primitive 'I', accessFlags := 0x411 }
/-- [I -/
def k8 : Class := { plain "[I" (some 0) with kind := .array 7 .int, interfaces := #[3, 4], accessFlags := 1041 }

/-- the primitive long -/
def k9 : Class := { plain "long" none with kind := .primitive 'J', accessFlags := 0x411 }
/-- [J -/
def k10 : Class := { plain "[J" (some 0) with kind := .array 9 .long, interfaces := #[3, 4], accessFlags := 1041 }

def heap : Heap := #[]
def classes : Array Class := #[k0, k1, k2, k3, k4, k5, k6, k7, k8, k9, k10]
def interned : List (Array UInt16 × Addr) := []
def slotsUsed : Nat := 0
def theMethod : MethodId := ⟨1, 1⟩
def args0 : Array Value := #[.int 3, .int 2, .int 1, .int 4, .int 1]
def aboutOver (below : List Frame) : State where
  vm := { classes := classes, interned := interned.toArray }
  heap := heap
  slotsUsed := slotsUsed
  threads := #[{ frames := .invoking theMethod args0 :: below }]
def below0 : List Frame := [.native { method := ⟨0, 0⟩, args := #[] }]
def about1 : State := aboutOver below0
def p0 : Program := .bare "" "" ""
def e0 : Env := launch0.env 0 0 0
theorem w_frames : about1.frames = Frame.invoking theMethod args0 :: below0 := rfl
set_option maxRecDepth 65536 in
theorem w_args : argsFit about1.vm theMethod args0 = true := by decide +kernel
set_option maxRecDepth 65536 in
theorem w_heap : heapFits about1 = true := by decide +kernel
set_option maxRecDepth 65536 in
theorem w_runnable : about1.curStatus? = some .runnable := by decide +kernel
set_option maxRecDepth 65536 in
theorem w_alone : about1.alone = true := by decide +kernel
set_option maxRecDepth 65536 in
theorem w_named : about1.methodNamed? x = some theMethod := by decide +kernel
set_option maxRecDepth 65536 in
theorem w_hears : about1.hears theMethod below0 = true := by decide +kernel
set_option maxRecDepth 65536 in
theorem w_ripe : about1.ripe theMethod args0 below0 = true := by decide +kernel
theorem w_running : about1.status = .running := rfl
set_option maxRecDepth 65536 in
theorem w_room : about1.hasRoom e0.platform room_1 = true :=
  launch0.hasRoom_least _ room_1 (by decide +kernel) (by decide +kernel) (by decide +kernel) (by decide +kernel) (by decide +kernel) (by decide +kernel)
theorem allAtoms_all (ts : List Jvm.Cond) (a : Array Jvm.Value) (st : Jvm.State) : (allAtoms ts).before a st = ts.all (fun c => c.before a st) := by
  induction ts with
  | nil => rfl
  | cons c t ih =>
    show (Jvm.Cond.and c (allAtoms t)).before a st = _
    rw [Jvm.Cond.before_and, ih, List.all_cons]
def words1 : List Jvm.Cond := Jvm.Cond.code x code maxLocals ret :: tables_1
/-- a 'code' word, met by the world's own term for the bytes: nothing is compared byte by byte -/
theorem code_word {y : MethodName} {bytes : ByteArray} {mx : Nat} {rt : Option FieldType} {a : Array Value} {s : State} {m : MethodId} {meth : Method} {c : Code} (h1 : s.methodNamed? y = some m) (h2 : s.vm.method? m = some meth) (h3 : meth.code = some c) (h4 : c.code = bytes)
    (h5 : (c.maxLocals == mx && c.exceptionTable.isEmpty && decide (c.maxStack ≤ mostOperands) && decide (meth.sig.returnType = rt) && !meth.locks && decide (parseMethodDescriptor y.desc = some meth.sig)) = true) : (Jvm.Cond.code y bytes mx rt).before a s = true := by
  simp only [Bool.and_eq_true, beq_iff_eq, Bool.not_eq_true', decide_eq_true_eq] at h5
  obtain ⟨⟨⟨⟨⟨g1, g2⟩, g3⟩, g4⟩, g5⟩, g6⟩ := h5
  simp [Cond.before, Cond.holds, Cond.value, h1, h2, h3, h4, g1, g2, g3, g4, g5, g6]
def isCode : Jvm.Cond → Bool
  | .code _ _ _ _ => true
  | _ => false
theorem all_split {L : List Jvm.Cond} {P : Jvm.Cond → Bool} (h1 : L.all (fun c => isCode c || P c) = true) (h2 : ∀ c ∈ L.filter isCode, P c = true) : L.all P = true := by
  refine List.all_eq_true.mpr fun c hc => ?_
  have h := List.all_eq_true.mp h1 c hc
  rcases Bool.eq_false_or_eq_true (isCode c) with hi | hi
  · exact h2 c (List.mem_filter.mpr ⟨hc, hi⟩)
  · simpa [hi] using h
set_option maxRecDepth 65536 in
theorem w_c0 : (Jvm.Cond.code x code maxLocals ret).before args0 about1 = true := code_word (m := ⟨1, 1⟩) (meth := k1m1) (c := k1c1) (by decide +kernel) rfl rfl rfl (by decide +kernel)
set_option maxRecDepth 65536 in
theorem w_c1 : (Jvm.Cond.code ({ cls := "DominantShare", name := "<init>", desc := "(IIII)V" } : Jvm.MethodName) prog_1_method_1_code (6 : Nat) (Option.none : Option Jvm.ClassFile.FieldType)).before args0 about1 = true := code_word (m := ⟨2, 0⟩) (meth := k2m0) (c := k2c0) (by decide +kernel) rfl rfl rfl (by decide +kernel)
set_option maxRecDepth 65536 in
theorem w_c2 : (Jvm.Cond.code ({ cls := "java/lang/Object", name := "<init>", desc := "()V" } : Jvm.MethodName) object_method_1_code (1 : Nat) (Option.none : Option Jvm.ClassFile.FieldType)).before args0 about1 = true := code_word (m := ⟨0, 0⟩) (meth := k0m0) (c := k0c0) (by decide +kernel) rfl rfl rfl (by decide +kernel)
set_option maxRecDepth 65536 in
theorem w_c3 : (Jvm.Cond.code ({ cls := "DominantShare", name := "clampInt", desc := "(III)I" } : Jvm.MethodName) prog_1_method_18_code (4 : Nat) (Option.some Jvm.ClassFile.FieldType.int)).before args0 about1 = true := code_word (m := ⟨2, 5⟩) (meth := k2m5) (c := k2c5) (by decide +kernel) rfl rfl rfl (by decide +kernel)
set_option maxRecDepth 65536 in
theorem w_c4 : (Jvm.Cond.code ({ cls := "DominantShare", name := "resetUser", desc := "(I)V" } : Jvm.MethodName) prog_1_method_31_code (3 : Nat) (Option.none : Option Jvm.ClassFile.FieldType)).before args0 about1 = true := code_word (m := ⟨2, 9⟩) (meth := k2m9) (c := k2c9) (by decide +kernel) rfl rfl rfl (by decide +kernel)
set_option maxRecDepth 65536 in
theorem w_c5 : (Jvm.Cond.code ({ cls := "DominantShare", name := "allocIndex", desc := "(II)I" } : Jvm.MethodName) prog_1_method_26_code (3 : Nat) (Option.some Jvm.ClassFile.FieldType.int)).before args0 about1 = true := code_word (m := ⟨2, 8⟩) (meth := k2m8) (c := k2c8) (by decide +kernel) rfl rfl rfl (by decide +kernel)
set_option maxRecDepth 65536 in
theorem w_c6 : (Jvm.Cond.code ({ cls := "DominantShare", name := "clearSlotFields", desc := "(I)V" } : Jvm.MethodName) prog_1_method_32_code (3 : Nat) (Option.none : Option Jvm.ClassFile.FieldType)).before args0 about1 = true := code_word (m := ⟨2, 10⟩) (meth := k2m10) (c := k2c10) (by decide +kernel) rfl rfl rfl (by decide +kernel)
set_option maxRecDepth 65536 in
theorem w_c7 : (Jvm.Cond.code ({ cls := "DominantShareL1", name := "clamp", desc := "(III)I" } : Jvm.MethodName) method_3_code (3 : Nat) (Option.some Jvm.ClassFile.FieldType.int)).before args0 about1 = true := code_word (m := ⟨1, 2⟩) (meth := k1m2) (c := k1c2) (by decide +kernel) rfl rfl rfl (by decide +kernel)
set_option maxRecDepth 65536 in
theorem w_c8 : (Jvm.Cond.code ({ cls := "DominantShare", name := "capacity", desc := "(I)I" } : Jvm.MethodName) prog_1_method_14_code (2 : Nat) (Option.some Jvm.ClassFile.FieldType.int)).before args0 about1 = true := code_word (m := ⟨2, 2⟩) (meth := k2m2) (c := k2c2) (by decide +kernel) rfl rfl rfl (by decide +kernel)
set_option maxRecDepth 65536 in
theorem w_c9 : (Jvm.Cond.code ({ cls := "DominantShare", name := "isResource", desc := "(I)Z" } : Jvm.MethodName) prog_1_method_21_code (2 : Nat) (Option.some Jvm.ClassFile.FieldType.boolean)).before args0 about1 = true := code_word (m := ⟨2, 7⟩) (meth := k2m7) (c := k2c7) (by decide +kernel) rfl rfl rfl (by decide +kernel)
set_option maxRecDepth 65536 in
theorem w_c10 : (Jvm.Cond.code ({ cls := "DominantShare", name := "userStatus", desc := "(I)I" } : Jvm.MethodName) prog_1_method_17_code (2 : Nat) (Option.some Jvm.ClassFile.FieldType.int)).before args0 about1 = true := code_word (m := ⟨2, 4⟩) (meth := k2m4) (c := k2c4) (by decide +kernel) rfl rfl rfl (by decide +kernel)
set_option maxRecDepth 65536 in
theorem w_c11 : (Jvm.Cond.code ({ cls := "DominantShare", name := "isUser", desc := "(I)Z" } : Jvm.MethodName) prog_1_method_19_code (2 : Nat) (Option.some Jvm.ClassFile.FieldType.boolean)).before args0 about1 = true := code_word (m := ⟨2, 6⟩) (meth := k2m6) (c := k2c6) (by decide +kernel) rfl rfl rfl (by decide +kernel)
set_option maxRecDepth 65536 in
theorem w_c12 : (Jvm.Cond.code ({ cls := "DominantShare", name := "used", desc := "(I)I" } : Jvm.MethodName) prog_1_method_13_code (2 : Nat) (Option.some Jvm.ClassFile.FieldType.int)).before args0 about1 = true := code_word (m := ⟨2, 1⟩) (meth := k2m1) (c := k2c1) (by decide +kernel) rfl rfl rfl (by decide +kernel)
set_option maxRecDepth 65536 in
theorem w_c13 : (Jvm.Cond.code ({ cls := "DominantShare", name := "reservedTask", desc := "()I" } : Jvm.MethodName) prog_1_method_16_code (1 : Nat) (Option.some Jvm.ClassFile.FieldType.int)).before args0 about1 = true := code_word (m := ⟨2, 3⟩) (meth := k2m3) (c := k2c3) (by decide +kernel) rfl rfl rfl (by decide +kernel)
def codes1 : List Jvm.Cond := [Jvm.Cond.code x code maxLocals ret, Jvm.Cond.code ({ cls := "DominantShare", name := "<init>", desc := "(IIII)V" } : Jvm.MethodName) prog_1_method_1_code (6 : Nat) (Option.none : Option Jvm.ClassFile.FieldType), Jvm.Cond.code ({ cls := "java/lang/Object", name := "<init>", desc := "()V" } : Jvm.MethodName) object_method_1_code (1 : Nat) (Option.none : Option Jvm.ClassFile.FieldType), Jvm.Cond.code ({ cls := "DominantShare", name := "clampInt", desc := "(III)I" } : Jvm.MethodName) prog_1_method_18_code (4 : Nat) (Option.some Jvm.ClassFile.FieldType.int), Jvm.Cond.code ({ cls := "DominantShare", name := "resetUser", desc := "(I)V" } : Jvm.MethodName) prog_1_method_31_code (3 : Nat) (Option.none : Option Jvm.ClassFile.FieldType), Jvm.Cond.code ({ cls := "DominantShare", name := "allocIndex", desc := "(II)I" } : Jvm.MethodName) prog_1_method_26_code (3 : Nat) (Option.some Jvm.ClassFile.FieldType.int), Jvm.Cond.code ({ cls := "DominantShare", name := "clearSlotFields", desc := "(I)V" } : Jvm.MethodName) prog_1_method_32_code (3 : Nat) (Option.none : Option Jvm.ClassFile.FieldType), Jvm.Cond.code ({ cls := "DominantShareL1", name := "clamp", desc := "(III)I" } : Jvm.MethodName) method_3_code (3 : Nat) (Option.some Jvm.ClassFile.FieldType.int), Jvm.Cond.code ({ cls := "DominantShare", name := "capacity", desc := "(I)I" } : Jvm.MethodName) prog_1_method_14_code (2 : Nat) (Option.some Jvm.ClassFile.FieldType.int), Jvm.Cond.code ({ cls := "DominantShare", name := "isResource", desc := "(I)Z" } : Jvm.MethodName) prog_1_method_21_code (2 : Nat) (Option.some Jvm.ClassFile.FieldType.boolean), Jvm.Cond.code ({ cls := "DominantShare", name := "userStatus", desc := "(I)I" } : Jvm.MethodName) prog_1_method_17_code (2 : Nat) (Option.some Jvm.ClassFile.FieldType.int), Jvm.Cond.code ({ cls := "DominantShare", name := "isUser", desc := "(I)Z" } : Jvm.MethodName) prog_1_method_19_code (2 : Nat) (Option.some Jvm.ClassFile.FieldType.boolean), Jvm.Cond.code ({ cls := "DominantShare", name := "used", desc := "(I)I" } : Jvm.MethodName) prog_1_method_13_code (2 : Nat) (Option.some Jvm.ClassFile.FieldType.int), Jvm.Cond.code ({ cls := "DominantShare", name := "reservedTask", desc := "()I" } : Jvm.MethodName) prog_1_method_16_code (1 : Nat) (Option.some Jvm.ClassFile.FieldType.int)]
set_option maxRecDepth 65536 in
theorem codes_eq : words1.filter isCode = codes1 := rfl
theorem w_codes : ∀ c ∈ words1.filter isCode, c.before args0 about1 = true := by
  rw [codes_eq]
  intro c hc
  simp only [codes1, List.mem_cons, List.not_mem_nil, or_false] at hc
  rcases hc with rfl | rfl | rfl | rfl | rfl | rfl | rfl | rfl | rfl | rfl | rfl | rfl | rfl | rfl
  · exact w_c0
  · exact w_c1
  · exact w_c2
  · exact w_c3
  · exact w_c4
  · exact w_c5
  · exact w_c6
  · exact w_c7
  · exact w_c8
  · exact w_c9
  · exact w_c10
  · exact w_c11
  · exact w_c12
  · exact w_c13
set_option maxRecDepth 65536 in
theorem w_t1 : (words1.take 24).all (fun c => isCode c || c.before args0 about1) = true := by decide +kernel
set_option maxRecDepth 65536 in
theorem w_t2 : ((words1.drop 24).take 24).all (fun c => isCode c || c.before args0 about1) = true := by decide +kernel
set_option maxRecDepth 65536 in
theorem w_t3 : (((words1.drop 24).drop 24).take 24).all (fun c => isCode c || c.before args0 about1) = true := by decide +kernel
set_option maxRecDepth 65536 in
theorem w_t4 : ((((words1.drop 24).drop 24).drop 24).take 24).all (fun c => isCode c || c.before args0 about1) = true := by decide +kernel
set_option maxRecDepth 65536 in
theorem w_t5 : ((((words1.drop 24).drop 24).drop 24).drop 24).all (fun c => isCode c || c.before args0 about1) = true := by decide +kernel
theorem w_tables : (allAtoms (Jvm.Cond.code x code maxLocals ret :: tables_1)).before args0 about1 = true := by
  rw [allAtoms_all]
  show words1.all (fun c => c.before args0 about1) = true
  refine all_split ?_ w_codes
  rw [← List.take_append_drop 24 words1, List.all_append, w_t1, ← List.take_append_drop 24 (words1.drop 24), List.all_append, w_t2, ← List.take_append_drop 24 ((words1.drop 24).drop 24), List.all_append, w_t3, ← List.take_append_drop 24 (((words1.drop 24).drop 24).drop 24), List.all_append, w_t4, w_t5]
  rfl
set_option maxRecDepth 65536 in
theorem w_case : (Jvm.Cond.and given_1 narrow_1).before args0 about1 = true := by decide +kernel
theorem w_applies : (headSpec (Jvm.Cond.code x code maxLocals ret :: tables_1) room_1).applies x e0.platform about1 = true :=
  (Spec.applies_iff w_frames).mpr ⟨w_running, w_runnable, w_alone, w_named, w_hears, w_ripe, w_room, w_tables⟩
theorem atStart : AtStart classFile x code maxLocals ret World_1 tables_1 room_1 Calls_1 rest_1 Pre_1 launch0 p0 e0 about1 theMethod args0 below0 :=
  ⟨lists_1, trivial, launch0.admits_env _ _ _, launch0.least_env, fairChoices_fair.cas, fairChoices_fair.clock, w_frames, w_args, w_heap, w_applies, trivial, trivial, w_case⟩
end start1
theorem witness_1 : WitnessClaimed_1 := ⟨start1.p0, start1.e0, start1.about1, start1.theMethod, start1.args0, start1.below0, start1.atStart⟩
end Jvm.Pilot.@@N@@
