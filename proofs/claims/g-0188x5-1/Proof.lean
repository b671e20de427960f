import JvmDerived
import JvmDerived.Pilot.@@N@@Statement
import JvmDerived.Pilot.@@N@@Code
set_option linter.unusedVariables false
set_option linter.unusedSimpArgs false
namespace Jvm.RoadKit
open Sem ClassFile Op Lib Jvm.Stand Jvm.Free Jvm.LawKit
section New
variable {p : Program} {l : Launch} {e : Env} {R : Room} {s : State} {m : MethodId} {args : Array Value} {below : List Frame} {meth : Method} {c : Code} {T : State} {locs : List Loc} {cells slots : Nat}
theorem retI (X : Stand p l e R s m args below meth c T locs cells slots) (hx : p.tables.exec = Jvm.exec) {pc : Nat} {Ls : Array Slot} {z : Int32} {rest : List Value} (hret : meth.sig.returnType = some .int) (hd : decode c.code pc = .ok (.ireturn, 1)) {fs : List Frame}
    (hl : ∀ (f : JFrame) (acts : List Action), f.method = m → f.locked = none → f.entered = [] → (doReturn e (T.setTop f) acts (some (.int z))).1 = T.setFrames fs) : Steps p.tables e below (T.setTop (mkF m pc Ls (.int z :: rest))) (T.setFrames fs) := by
  have hm' : T.vm.method? m = some meth := X.method'
  have hn : narrow .int (.int z) = .int z := rfl
  show Steps p.tables e below (T.setTop { method := m, pc := pc, locals := Ls, stack := _ :: rest, locked := none }) _
  jvm_step X.here [X.here.top, hx, hd, hm', hret, hn]
  first | (intro acts; rw [hl _ acts rfl rfl rfl]) | rw [hl _ _ rfl rfl rfl]
  exact Steps.refl _
end New
end Jvm.RoadKit
namespace Jvm.Own
open Jvm Jvm.ClassFile Sem Op Lib Jvm.Free Jvm.Stand Jvm.LawKit Jvm.RoadKit
/-! ## 1. Local variables: what the walk knows of them (L) and what they are (r) -/
def rv (ρ : Nat → Addr) : Value → Value
  | .ref k => .ref (ρ k)
  | .int x => .int x
  | .long x => .long x
  | .float x => .float x
  | .double x => .double x
  | .null => .null
  | .retAddr x => .retAddr x
def rs (ρ : Nat → Addr) : Slot → Slot
  | .val v => .val (rv ρ v)
  | .unset => .unset
  | .second => .second
theorem rv_cat (ρ : Nat → Addr) (v : Value) : (rv ρ v).category = v.category := by cases v <;> rfl
def WR (f : Nat → Option Slot) : Prop := (∀ i v, f i = some (.val v) → v.category = 2 → f (i + 1) = some .second) ∧ (∀ i, f i = some .second → ∃ j v, i = j + 1 ∧ f j = some (.val v) ∧ v.category = 2)
def up (f : Nat → Option Slot) (i : Nat) (x : Slot) : Nat → Option Slot := fun k => if k = i then some x else f k
def C1 (s : Option Slot) : Prop := s = some .unset ∨ ∃ w, s = some (.val w) ∧ w.category = 1
theorem C1.not2 {s : Option Slot} (h : C1 s) : s ≠ some .second ∧ ∀ v, s = some (.val v) → v.category ≠ 2 := by
  rcases h with rfl | ⟨w, rfl, h⟩
  · exact ⟨nofun, nofun⟩
  · exact ⟨nofun, fun v e q => by cases e; omega⟩
theorem up_at (f : Nat → Option Slot) (i : Nat) (x : Slot) : up f i x i = some x := by simp [up]
theorem up_ne (f : Nat → Option Slot) {i k : Nat} (x : Slot) (h : k ≠ i) : up f i x k = f k := by simp [up, h]
theorem WR.one {f : Nat → Option Slot} {i : Nat} {x : Slot} (h : WR f) (hi : C1 (f i)) (hx : C1 (some x)) : WR (up f i x) := by
  obtain ⟨n1, n2⟩ := hi.not2
  obtain ⟨m1, m2⟩ := hx.not2
  constructor
  · intro k v hk hv
    by_cases e : k = i
    · subst e; rw [up_at] at hk; exact absurd hv (m2 v hk)
    · rw [up_ne _ _ e] at hk
      have q := h.1 k v hk hv
      by_cases e2 : k + 1 = i
      · rw [e2] at q; exact absurd q n1
      · rw [up_ne _ _ e2]; exact q
  · intro k hk
    by_cases e : k = i
    · subst e; rw [up_at] at hk; exact absurd hk m1
    · rw [up_ne _ _ e] at hk
      obtain ⟨j, v, e1, e2, e3⟩ := h.2 k hk
      refine ⟨j, v, e1, ?_, e3⟩
      by_cases e4 : j = i
      · rw [e4] at e2; exact absurd e3 (n2 v e2)
      · rw [up_ne _ _ e4]; exact e2
theorem WR.clr {f : Nat → Option Slot} {j : Nat} {v : Value} (h : WR f) (hj : f j = some (.val v)) (hv : v.category = 2) : WR (up (up f j .unset) (j + 1) .unset) := by
  have q := h.1 j v hj hv
  constructor
  · intro k w hk hw
    by_cases e : k = j + 1
    · subst e; rw [up_at] at hk; cases hk
    · rw [up_ne _ _ e] at hk
      by_cases e2 : k = j
      · subst e2; rw [up_at] at hk; cases hk
      · rw [up_ne _ _ e2] at hk
        have q2 := h.1 k w hk hw
        by_cases e3 : k + 1 = j
        · rw [e3] at q2; rw [hj] at q2; cases q2
        · rw [up_ne _ _ (show k + 1 ≠ j + 1 by omega), up_ne _ _ e3]; exact q2
  · intro k hk
    by_cases e : k = j + 1
    · subst e; rw [up_at] at hk; cases hk
    · rw [up_ne _ _ e] at hk
      by_cases e2 : k = j
      · subst e2; rw [up_at] at hk; cases hk
      · rw [up_ne _ _ e2] at hk
        obtain ⟨i, w, e3, e4, e5⟩ := h.2 k hk
        refine ⟨i, w, e3, ?_, e5⟩
        by_cases e6 : i = j + 1
        · rw [e6, q] at e4; cases e4
        · rw [up_ne _ _ e6, up_ne _ _ (show i ≠ j by omega)]; exact e4
theorem WR.two {f : Nat → Option Slot} {i : Nat} {v : Value} (h : WR f) (h1 : C1 (f i)) (h2 : C1 (f (i + 1))) (hv : v.category = 2) : WR (up (up f i (.val v)) (i + 1) .second) := by
  obtain ⟨n1, n2⟩ := h1.not2
  obtain ⟨m1, m2⟩ := h2.not2
  constructor
  · intro k w hk hw
    by_cases e : k = i + 1
    · subst e; rw [up_at] at hk; cases hk
    · rw [up_ne _ _ e] at hk
      by_cases e2 : k = i
      · subst e2; exact up_at _ _ _
      · rw [up_ne _ _ e2] at hk
        have q := h.1 k w hk hw
        by_cases e3 : k + 1 = i
        · rw [e3] at q; exact absurd q n1
        · rw [up_ne _ _ (show k + 1 ≠ i + 1 by omega), up_ne _ _ e3]; exact q
  · intro k hk
    by_cases e : k = i + 1
    · exact ⟨i, v, e, by rw [up_ne _ _ (show i ≠ i + 1 by omega), up_at], hv⟩
    · rw [up_ne _ _ e] at hk
      by_cases e2 : k = i
      · subst e2; rw [up_at] at hk; cases hk
      · rw [up_ne _ _ e2] at hk
        obtain ⟨j, w, e3, e4, e5⟩ := h.2 k hk
        refine ⟨j, w, e3, ?_, e5⟩
        by_cases e6 : j = i + 1
        · rw [e6] at e4; exact absurd e5 (m2 w e4)
        · by_cases e7 : j = i
          · omega
          · rw [up_ne _ _ e6, up_ne _ _ e7]; exact e4
theorem up_arr {r : Array Slot} {i : Nat} (hi : i < r.size) (x : Slot) : (fun k => (r.setIfInBounds i x)[k]?) = up (fun k => r[k]?) i x := by
  funext k
  show (r.setIfInBounds i x)[k]? = _
  rw [Array.getElem?_setIfInBounds]
  by_cases e : i = k
  · subst e; simp [up, hi]
  · rw [if_neg e, up_ne _ _ (Ne.symm e)]
theorem up_lst {L : List Slot} {i : Nat} (hi : i < L.length) (x : Slot) : (fun k => (L.set i x)[k]?) = up (fun k => L[k]?) i x := by
  funext k
  show (L.set i x)[k]? = _
  rw [List.getElem?_set]
  by_cases e : i = k
  · subst e; simp [up, hi]
  · rw [if_neg e, up_ne _ _ (Ne.symm e)]
def SR (ρ : Nat → Addr) (L : List Slot) (r : Array Slot) : Prop :=
  r.size = L.length ∧ (∀ (i : Nat) (v : Value), L[i]? = some (.val v) → r[i]? = some (.val (rv ρ v))) ∧ (∀ (i : Nat), L[i]? = some .second → r[i]? = some .second) ∧ WR (fun k => L[k]?) ∧ WR (fun k => r[k]?)
theorem SR.get {ρ : Nat → Addr} {L : List Slot} {r : Array Slot} (h : SR ρ L r) {i : Nat} {v : Value} (e : L[i]? = some (.val v)) : r[i]? = some (.val (rv ρ v)) := h.2.1 i v e
/-- a store of one word over nothing or one word -/
theorem SR.st1 {ρ : Nat → Addr} {L : List Slot} {r : Array Slot} {i : Nat} {v : Value} (h : SR ρ L r) (ho : C1 L[i]?) (hv : v.category = 1) :
    ∃ r', storeLocals r i (rv ρ v) = some r' ∧ SR ρ (L.set i (.val v)) r' := by
  obtain ⟨h1, h2, h3, h4, h5⟩ := h
  have hi : i < L.length := by
    rcases ho with h | ⟨w, h, -⟩ <;> exact (List.getElem?_eq_some_iff.mp h).1
  have hir : i < r.size := by omega
  have hcv : (rv ρ v).category = 1 := by rw [rv_cat]; exact hv
  have hcx : C1 (some (Slot.val (rv ρ v))) := Or.inr ⟨_, rfl, hcv⟩
  obtain ⟨n1, n2⟩ := ho.not2
  have fin : ∀ r' : Array Slot, r'.size = r.size → WR (fun k => r'[k]?) → r'[i]? = some (.val (rv ρ v)) → (∀ k, k ≠ i → r'[k]? = r[k]? ∨ ∀ s, L[k]? = some s → s = .unset) → SR ρ (L.set i (.val v)) r' := by
    intro r' a1 a2 a3 a4
    refine ⟨by rw [a1, h1, List.length_set], ?_, ?_, by rw [up_lst hi]; exact h4.one ho (Or.inr ⟨v, rfl, hv⟩), a2⟩
    · intro k w hk
      rw [List.getElem?_set] at hk
      by_cases e : i = k
      · subst e; simp [hi] at hk; subst hk; exact a3
      · rw [if_neg e] at hk
        rcases a4 k (Ne.symm e) with q | q
        · rw [q]; exact h2 k w hk
        · cases q _ hk
    · intro k hk
      rw [List.getElem?_set] at hk
      by_cases e : i = k
      · subst e; simp [hi] at hk
      · rw [if_neg e] at hk
        rcases a4 k (Ne.symm e) with q | q
        · rw [q]; exact h3 k hk
        · cases q _ hk
  obtain ⟨q, hq⟩ : ∃ q, r[i]? = some q := ⟨_, Array.getElem?_eq_getElem hir⟩
  have plain : C1 (r[i]?) → ∃ r', storeLocals r i (rv ρ v) = some r' ∧ SR ρ (L.set i (.val v)) r' := by
    intro hC
    have hs : storeLocals r i (rv ρ v) = some (r.setIfInBounds i (.val (rv ρ v))) := by
      rcases hC with e | ⟨w, e, hw⟩
      · exact XS.store1 e (Or.inl rfl) hcv
      · exact XS.store1 e (Or.inr ⟨w, rfl, hw⟩) hcv
    refine ⟨_, hs, fin _ (by simp) (by rw [up_arr hir]; exact h5.one hC hcx) (by simp [hir]) ?_⟩
    intro k hk
    exact Or.inl (Array.getElem?_setIfInBounds_ne (Ne.symm hk))
  cases q with
  | unset => exact plain (Or.inl hq)
  | val w =>
    by_cases hw : w.category = 2
    · have q2 := h5.1 i w hq hw
      have hj : i + 1 < r.size := (Array.getElem?_eq_some_iff.mp q2).1
      have Lu : ∀ k, (k = i ∨ k = i + 1) → ∀ s, L[k]? = some s → s = .unset := by
        intro k hk s hs
        cases s with
        | unset => rfl
        | second =>
          rcases hk with rfl | rfl
          · exact absurd hs n1
          · obtain ⟨j, u, e1, e2, e3⟩ := h4.2 _ hs
            have : j = i := by omega
            subst this
            exact absurd e3 (n2 u e2)
        | val u =>
          rcases hk with rfl | rfl
          · have := h2 _ _ hs
            rw [hq] at this
            cases this
            rw [rv_cat] at hw
            exact absurd hw (n2 u hs)
          · have := h2 _ _ hs
            have q3 : r[i + 1]? = some .second := q2
            rw [q3] at this; cases this
      have hs : storeLocals r i (rv ρ v) = some ((r.setIfInBounds (i + 1) .unset).setIfInBounds i (.val (rv ρ v))) := by
        simp [storeLocals, storeSelf, setAt, hq, (Array.getElem?_eq_some_iff.mp hq).2, hw, hj, hir, hcv]
      refine ⟨_, hs, fin _ (by simp) ?_ (by simp [hir]) ?_⟩
      · have e : (fun k => ((r.setIfInBounds (i + 1) .unset).setIfInBounds i (.val (rv ρ v)))[k]?) = up (up (up (fun k => r[k]?) i .unset) (i + 1) .unset) i (.val (rv ρ v)) := by
          rw [up_arr (by simpa using hir), up_arr hj]
          funext k
          simp only [up]
          by_cases e : k = i
          · simp [e]
          · simp [e]
        rw [e]
        exact (h5.clr hq hw).one (Or.inl (by simp [up])) hcx
      · intro k hk
        by_cases e : k = i + 1
        · exact Or.inr (Lu k (Or.inr e))
        · left
          rw [Array.getElem?_setIfInBounds_ne (Ne.symm hk), Array.getElem?_setIfInBounds_ne (Ne.symm e)]
    · refine plain (Or.inr ⟨w, hq, ?_⟩)
      cases w <;> simp [Value.category] at hw ⊢
  | second =>
    obtain ⟨j, u, e1, e2, e3⟩ := h5.2 i hq
    subst e1
    have e2' : r[j]? = some (.val u) := e2
    have hj : j < r.size := by omega
    have Lu : ∀ s, L[j]? = some s → s = .unset := by
      intro s hs
      cases s with
      | unset => rfl
      | second => have := h3 _ hs; rw [e2'] at this; cases this
      | val w =>
        have := h2 _ _ hs
        rw [e2'] at this
        cases this
        rw [rv_cat] at e3
        exact absurd (h4.1 j w hs e3) n1
    have hs : storeLocals r (j + 1) (rv ρ v) = some ((r.setIfInBounds j .unset).setIfInBounds (j + 1) (.val (rv ρ v))) := by
      simp [storeLocals, storeSelf, setAt, hq, (Array.getElem?_eq_some_iff.mp hq).2, hj, hir, hcv]
    refine ⟨_, hs, fin _ (by simp) ?_ (by simp [hir]) ?_⟩
    · have e : (fun k => ((r.setIfInBounds j .unset).setIfInBounds (j + 1) (.val (rv ρ v)))[k]?) = up (up (up (fun k => r[k]?) j .unset) (j + 1) .unset) (j + 1) (.val (rv ρ v)) := by
        rw [up_arr (by simpa using hir), up_arr hj]
        funext k
        simp only [up]
        by_cases e : k = j + 1
        · simp [e]
        · simp [e]
      rw [e]
      exact (h5.clr e2 e3).one (Or.inl (by simp [up])) hcx
    · intro k hk
      by_cases e : k = j
      · subst e; exact Or.inr Lu
      · left
        rw [Array.getElem?_setIfInBounds_ne (Ne.symm hk), Array.getElem?_setIfInBounds_ne (Ne.symm e)]
end Jvm.Own

namespace Jvm.Own
open Jvm Jvm.ClassFile Sem Op Lib Jvm.Free Jvm.Stand Jvm.LawKit Jvm.RoadKit
theorem cat12 (w : Value) (h : ¬ w.category = 2) : w.category = 1 := by cases w <;> simp [Value.category] at h ⊢
theorem getset_ne {r : Array Slot} {i k : Nat} {x t : Slot} (h : r[k]? = some t) (ne : i ≠ k) (hk : k < (r.setIfInBounds i x).size) : (r.setIfInBounds i x)[k] = t := by
  have q : (r.setIfInBounds i x)[k]? = some t := by rw [Array.getElem?_setIfInBounds_ne ne]; exact h
  exact (Array.getElem?_eq_some_iff.mp q).2
/-- a store of two words over nothing or single words -/
theorem SR.st2 {ρ : Nat → Addr} {L : List Slot} {r : Array Slot} {i : Nat} {v : Value} (h : SR ρ L r) (ho : C1 L[i]?) (ho' : C1 L[i + 1]?) (hv : v.category = 2) :
    ∃ r', storeLocals r i (rv ρ v) = some r' ∧ SR ρ ((L.set i (.val v)).set (i + 1) .second) r' := by
  obtain ⟨h1, h2, h3, h4, h5⟩ := h
  have hi : i + 1 < L.length := by
    rcases ho' with h | ⟨w, h, -⟩ <;> exact (List.getElem?_eq_some_iff.mp h).1
  have hir1 : i + 1 < r.size := by omega
  have hir : i < r.size := by omega
  have hcv : (rv ρ v).category = 2 := by rw [rv_cat]; exact hv
  obtain ⟨n1, n2⟩ := ho.not2
  obtain ⟨m1, m2⟩ := ho'.not2
  have nr : ∀ w, r[i]? = some (.val w) → ∀ u, L[i]? = some (.val u) → w.category = 2 → False := by
    intro w hw u hu hc
    have := h2 _ _ hu
    rw [hw] at this; cases this
    rw [rv_cat] at hc
    exact n2 u hu hc
  have fin : ∀ r' : Array Slot, r'.size = r.size → WR (fun k => r'[k]?) → r'[i]? = some (.val (rv ρ v)) → r'[i + 1]? = some .second → (∀ k, k ≠ i → k ≠ i + 1 → r'[k]? = r[k]? ∨ ∀ s, L[k]? = some s → s = .unset) → SR ρ ((L.set i (.val v)).set (i + 1) .second) r' := by
    intro r' a1 a2 a3 a3' a4
    refine ⟨by rw [a1, h1]; simp, ?_, ?_, by rw [up_lst (by simpa using hi), up_lst (by omega)]; exact h4.two ho ho' hv, a2⟩
    · intro k w hk
      rw [List.getElem?_set] at hk
      by_cases e : i + 1 = k
      · subst e; simp [hi] at hk
      · rw [if_neg e, List.getElem?_set] at hk
        by_cases e2 : i = k
        · subst e2; simp [show i < L.length by omega] at hk; subst hk; exact a3
        · rw [if_neg e2] at hk
          rcases a4 k (Ne.symm e2) (Ne.symm e) with q | q
          · rw [q]; exact h2 k w hk
          · cases q _ hk
    · intro k hk
      rw [List.getElem?_set] at hk
      by_cases e : i + 1 = k
      · subst e; exact a3'
      · rw [if_neg e, List.getElem?_set] at hk
        by_cases e2 : i = k
        · subst e2; simp [show i < L.length by omega] at hk
        · rw [if_neg e2] at hk
          rcases a4 k (Ne.symm e2) (Ne.symm e) with q | q
          · rw [q]; exact h3 k hk
          · cases q _ hk
  have Lun2 : ∀ u, r[i + 1]? = some (.val u) → u.category = 2 → ∀ s, L[i + 2]? = some s → s = .unset := by
    intro u hu hc s hs
    have q2 : r[i + 2]? = some .second := h5.1 (i + 1) u hu hc
    cases s with
    | unset => rfl
    | second =>
      obtain ⟨j, w, e1, e2, e3⟩ := h4.2 _ hs
      have : j = i + 1 := by omega
      subst this
      exact absurd e3 (m2 w e2)
    | val w => have := h2 _ _ hs; rw [q2] at this; cases this
  obtain ⟨q, hq⟩ : ∃ q, r[i]? = some q := ⟨_, Array.getElem?_eq_getElem hir⟩
  obtain ⟨q1, hq1⟩ : ∃ q, r[i + 1]? = some q := ⟨_, Array.getElem?_eq_getElem hir1⟩
  have ne1 : i + 1 ≠ i := by omega
  cases q with
  | unset =>
    have hC : C1 (r[i]?) := Or.inl hq
    cases q1 with
    | unset =>
      refine ⟨(r.setIfInBounds i (.val (rv ρ v))).setIfInBounds (i + 1) .second, by simp [storeLocals, storeSelf, setAt, hq, (Array.getElem?_eq_some_iff.mp hq).2, hq1, (Array.getElem?_eq_some_iff.mp hq1).2, hir, hir1, hcv, Array.getElem?_setIfInBounds], fin _ (by simp) ?_ (by simp [hir, Array.getElem?_setIfInBounds]) (by simp [hir1]) ?_⟩
      · rw [up_arr (by simpa using hir1), up_arr hir]; exact h5.two hC (Or.inl hq1) hcv
      · intro k a b; left; rw [Array.getElem?_setIfInBounds_ne (Ne.symm b), Array.getElem?_setIfInBounds_ne (Ne.symm a)]
    | second => obtain ⟨j, w, e1, e2, e3⟩ := h5.2 _ hq1; have : j = i := by omega
                subst this; have e2' : r[j]? = some (.val w) := e2; rw [hq] at e2'; cases e2'
    | val u =>
      by_cases hu : u.category = 2
      · have q2 : r[i + 2]? = some .second := h5.1 (i + 1) u hq1 hu
        have hi2 : i + 2 < r.size := (Array.getElem?_eq_some_iff.mp q2).1
        refine ⟨((r.setIfInBounds i (.val (rv ρ v))).setIfInBounds (i + 2) .unset).setIfInBounds (i + 1) .second, by simp [storeLocals, storeSelf, setAt, hq, (Array.getElem?_eq_some_iff.mp hq).2, hq1, (Array.getElem?_eq_some_iff.mp hq1).2, hir, hir1, hi2, hcv, hu, Array.getElem?_setIfInBounds], fin _ (by simp) ?_ (by simp [hir, Array.getElem?_setIfInBounds]) (by simp [hir1]) ?_⟩
        · have e : (fun k => (((r.setIfInBounds i (.val (rv ρ v))).setIfInBounds (i + 2) .unset).setIfInBounds (i + 1) .second)[k]?) = up (up (up (up (fun k => r[k]?) (i + 1) .unset) (i + 2) .unset) i (.val (rv ρ v))) (i + 1) .second := by
            rw [up_arr (by simpa using hir1), up_arr (by simpa using hi2), up_arr hir]
            funext k
            simp only [up]
            by_cases e : k = i + 1
            · simp [e]
            · by_cases e2 : k = i
              · simp [e2]
              · simp [e, e2]
          rw [e]
          exact (h5.clr hq1 hu).two (Or.inl (by simp [up, hq] <;> omega)) (Or.inl (by simp [up] <;> omega)) hcv
        · intro k a b
          by_cases e : k = i + 2
          · subst e; exact Or.inr (Lun2 u hq1 hu)
          · left; rw [Array.getElem?_setIfInBounds_ne (Ne.symm b), Array.getElem?_setIfInBounds_ne (Ne.symm e), Array.getElem?_setIfInBounds_ne (Ne.symm a)]
      · refine ⟨(r.setIfInBounds i (.val (rv ρ v))).setIfInBounds (i + 1) .second, by simp [storeLocals, storeSelf, setAt, hq, (Array.getElem?_eq_some_iff.mp hq).2, hq1, (Array.getElem?_eq_some_iff.mp hq1).2, hir, hir1, hcv, hu, Array.getElem?_setIfInBounds], fin _ (by simp) ?_ (by simp [hir, Array.getElem?_setIfInBounds]) (by simp [hir1]) ?_⟩
        · rw [up_arr (by simpa using hir1), up_arr hir]; exact h5.two hC (Or.inr ⟨u, hq1, cat12 u hu⟩) hcv
        · intro k a b; left; rw [Array.getElem?_setIfInBounds_ne (Ne.symm b), Array.getElem?_setIfInBounds_ne (Ne.symm a)]
  | val w =>
    by_cases hw : w.category = 2
    · have q2 : r[i + 1]? = some .second := h5.1 i w hq hw
      have Lu : ∀ s, L[i]? = some s → s = .unset := by
        intro s hs
        cases s with
        | unset => rfl
        | second => exact absurd hs n1
        | val u => exact (nr w hq u hs hw).elim
      refine ⟨((r.setIfInBounds (i + 1) .unset).setIfInBounds i (.val (rv ρ v))).setIfInBounds (i + 1) .second, by simp [storeLocals, storeSelf, setAt, hq, (Array.getElem?_eq_some_iff.mp hq).2, hw, hir, hir1, hcv, Array.getElem?_setIfInBounds], fin _ (by simp) ?_ (by simp [hir, Array.getElem?_setIfInBounds]) (by simp [hir1]) ?_⟩
      · have e : (fun k => (((r.setIfInBounds (i + 1) .unset).setIfInBounds i (.val (rv ρ v))).setIfInBounds (i + 1) .second)[k]?) = up (up (up (up (fun k => r[k]?) i .unset) (i + 1) .unset) i (.val (rv ρ v))) (i + 1) .second := by
          rw [up_arr (by simpa using hir1), up_arr (by simpa using hir), up_arr hir1]
          funext k
          simp only [up]
          by_cases e : k = i + 1
          · simp [e]
          · by_cases e2 : k = i
            · simp [e2]
            · simp [e, e2]
        rw [e]
        exact (h5.clr hq hw).two (Or.inl (by simp [up] <;> omega)) (Or.inl (by simp [up] <;> omega)) hcv
      · intro k a b
        left; rw [Array.getElem?_setIfInBounds_ne (Ne.symm b), Array.getElem?_setIfInBounds_ne (Ne.symm a), Array.getElem?_setIfInBounds_ne (Ne.symm b)]
    · have hC : C1 (r[i]?) := Or.inr ⟨w, hq, cat12 w hw⟩
      cases q1 with
      | unset =>
        refine ⟨(r.setIfInBounds i (.val (rv ρ v))).setIfInBounds (i + 1) .second, by simp [storeLocals, storeSelf, setAt, hq, (Array.getElem?_eq_some_iff.mp hq).2, hq1, (Array.getElem?_eq_some_iff.mp hq1).2, hw, hir, hir1, hcv, Array.getElem?_setIfInBounds], fin _ (by simp) ?_ (by simp [hir, Array.getElem?_setIfInBounds]) (by simp [hir1]) ?_⟩
        · rw [up_arr (by simpa using hir1), up_arr hir]; exact h5.two hC (Or.inl hq1) hcv
        · intro k a b; left; rw [Array.getElem?_setIfInBounds_ne (Ne.symm b), Array.getElem?_setIfInBounds_ne (Ne.symm a)]
      | second => obtain ⟨j, u, e1, e2, e3⟩ := h5.2 _ hq1; have : j = i := by omega
                  subst this; have e2' : r[j]? = some (.val u) := e2; rw [hq] at e2'; cases e2'; exact absurd e3 hw
      | val u =>
        by_cases hu : u.category = 2
        · have q2 : r[i + 2]? = some .second := h5.1 (i + 1) u hq1 hu
          have hi2 : i + 2 < r.size := (Array.getElem?_eq_some_iff.mp q2).1
          refine ⟨((r.setIfInBounds i (.val (rv ρ v))).setIfInBounds (i + 2) .unset).setIfInBounds (i + 1) .second, by simp [storeLocals, storeSelf, setAt, hq, (Array.getElem?_eq_some_iff.mp hq).2, hq1, (Array.getElem?_eq_some_iff.mp hq1).2, hw, hir, hir1, hi2, hcv, hu, Array.getElem?_setIfInBounds], fin _ (by simp) ?_ (by simp [hir, Array.getElem?_setIfInBounds]) (by simp [hir1]) ?_⟩
          · have e : (fun k => (((r.setIfInBounds i (.val (rv ρ v))).setIfInBounds (i + 2) .unset).setIfInBounds (i + 1) .second)[k]?) = up (up (up (up (fun k => r[k]?) (i + 1) .unset) (i + 2) .unset) i (.val (rv ρ v))) (i + 1) .second := by
              rw [up_arr (by simpa using hir1), up_arr (by simpa using hi2), up_arr hir]
              funext k
              simp only [up]
              by_cases e : k = i + 1
              · simp [e]
              · by_cases e2 : k = i
                · simp [e2]
                · simp [e, e2]
            rw [e]
            exact (h5.clr hq1 hu).two (Or.inr ⟨w, by simp [up, hq] <;> omega, cat12 w hw⟩) (Or.inl (by simp [up] <;> omega)) hcv
          · intro k a b
            by_cases e : k = i + 2
            · subst e; exact Or.inr (Lun2 u hq1 hu)
            · left; rw [Array.getElem?_setIfInBounds_ne (Ne.symm b), Array.getElem?_setIfInBounds_ne (Ne.symm e), Array.getElem?_setIfInBounds_ne (Ne.symm a)]
        · refine ⟨(r.setIfInBounds i (.val (rv ρ v))).setIfInBounds (i + 1) .second, by simp [storeLocals, storeSelf, setAt, hq, (Array.getElem?_eq_some_iff.mp hq).2, hq1, (Array.getElem?_eq_some_iff.mp hq1).2, hw, hir, hir1, hcv, hu, Array.getElem?_setIfInBounds], fin _ (by simp) ?_ (by simp [hir, Array.getElem?_setIfInBounds]) (by simp [hir1]) ?_⟩
          · rw [up_arr (by simpa using hir1), up_arr hir]; exact h5.two hC (Or.inr ⟨u, hq1, cat12 u hu⟩) hcv
          · intro k a b; left; rw [Array.getElem?_setIfInBounds_ne (Ne.symm b), Array.getElem?_setIfInBounds_ne (Ne.symm a)]
  | second =>
    obtain ⟨j, y, e1, e2, e3⟩ := h5.2 i hq
    subst e1
    have e2' : r[j]? = some (.val y) := e2
    have hj : j < r.size := by omega
    have Lu : ∀ s, L[j]? = some s → s = .unset := by
      intro s hs
      cases s with
      | unset => rfl
      | second => have := h3 _ hs; rw [e2'] at this; cases this
      | val w =>
        have := h2 _ _ hs
        rw [e2'] at this
        cases this
        rw [rv_cat] at e3
        exact absurd (h4.1 j w hs e3) n1
    have W5 := h5.clr e2 e3
    cases q1 with
    | unset =>
      refine ⟨((r.setIfInBounds j .unset).setIfInBounds (j + 1) (.val (rv ρ v))).setIfInBounds (j + 1 + 1) .second, by simp [storeLocals, storeSelf, setAt, hq, (Array.getElem?_eq_some_iff.mp hq).2, hq1, (Array.getElem?_eq_some_iff.mp hq1).2, getset_ne hq1 (show j ≠ j + 1 + 1 by omega), hj, hir, hir1, hcv, Array.getElem?_setIfInBounds], fin _ (by simp) ?_ (by simp [hir, Array.getElem?_setIfInBounds]) (by simp [hir1]) ?_⟩
      · have e : (fun k => (((r.setIfInBounds j .unset).setIfInBounds (j + 1) (.val (rv ρ v))).setIfInBounds (j + 1 + 1) .second)[k]?) = up (up (up (up (fun k => r[k]?) j .unset) (j + 1) .unset) (j + 1) (.val (rv ρ v))) (j + 1 + 1) .second := by
          rw [up_arr (by simpa using hir1), up_arr (by simpa using hir), up_arr hj]
          funext k
          simp only [up]
          by_cases e : k = j + 1 + 1
          · simp [e]
          · by_cases e2 : k = j + 1
            · simp [e2]
            · simp [e, e2]
        rw [e]
        exact W5.two (Or.inl (by simp [up] <;> omega)) (Or.inl (by simp [up, hq1] <;> omega)) hcv
      · intro k a b
        by_cases e : k = j
        · subst e; exact Or.inr Lu
        · left; rw [Array.getElem?_setIfInBounds_ne (Ne.symm b), Array.getElem?_setIfInBounds_ne (Ne.symm a), Array.getElem?_setIfInBounds_ne (Ne.symm e)]
    | second => obtain ⟨k, w, f1, f2, f3⟩ := h5.2 _ hq1; have : k = j + 1 := by omega
                subst this; have f2' : r[j + 1]? = some (.val w) := f2; rw [hq] at f2'; cases f2'
    | val u =>
      by_cases hu : u.category = 2
      · have q2 : r[j + 1 + 2]? = some .second := h5.1 (j + 1 + 1) u hq1 hu
        have hi2 : j + 1 + 2 < r.size := (Array.getElem?_eq_some_iff.mp q2).1
        refine ⟨(((r.setIfInBounds j .unset).setIfInBounds (j + 1) (.val (rv ρ v))).setIfInBounds (j + 1 + 2) .unset).setIfInBounds (j + 1 + 1) .second, by simp [storeLocals, storeSelf, setAt, hq, (Array.getElem?_eq_some_iff.mp hq).2, hq1, (Array.getElem?_eq_some_iff.mp hq1).2, getset_ne hq1 (show j ≠ j + 1 + 1 by omega), hj, hir, hir1, hi2, hcv, hu, Array.getElem?_setIfInBounds], fin _ (by simp) ?_ (by simp [hir, Array.getElem?_setIfInBounds]) (by simp [hir1]) ?_⟩
        · have e : (fun k => ((((r.setIfInBounds j .unset).setIfInBounds (j + 1) (.val (rv ρ v))).setIfInBounds (j + 1 + 2) .unset).setIfInBounds (j + 1 + 1) .second)[k]?) = up (up (up (up (up (up (fun k => r[k]?) j .unset) (j + 1) .unset) (j + 1 + 1) .unset) (j + 1 + 1 + 1) .unset) (j + 1) (.val (rv ρ v))) (j + 1 + 1) .second := by
            rw [up_arr (by simpa using hir1), up_arr (by simpa using hi2), up_arr (by simpa using hir), up_arr hj]
            funext k
            simp only [up]
            by_cases e : k = j + 1 + 1
            · simp [e]
            · by_cases e2 : k = j + 1
              · simp [e2]
              · simp [e, e2]
          rw [e]
          exact (W5.clr (j := j + 1 + 1) (v := u) (by simp [up, hq1] <;> omega) hu).two (Or.inl (by simp [up] <;> omega)) (Or.inl (by simp [up] <;> omega)) hcv
        · intro k a b
          by_cases e : k = j
          · subst e; exact Or.inr Lu
          · by_cases e4 : k = j + 1 + 2
            · subst e4; exact Or.inr (Lun2 u hq1 hu)
            · left; rw [Array.getElem?_setIfInBounds_ne (Ne.symm b), Array.getElem?_setIfInBounds_ne (Ne.symm e4), Array.getElem?_setIfInBounds_ne (Ne.symm a), Array.getElem?_setIfInBounds_ne (Ne.symm e)]
      · refine ⟨((r.setIfInBounds j .unset).setIfInBounds (j + 1) (.val (rv ρ v))).setIfInBounds (j + 1 + 1) .second, by simp [storeLocals, storeSelf, setAt, hq, (Array.getElem?_eq_some_iff.mp hq).2, hq1, (Array.getElem?_eq_some_iff.mp hq1).2, getset_ne hq1 (show j ≠ j + 1 + 1 by omega), hj, hir, hir1, hcv, hu, Array.getElem?_setIfInBounds], fin _ (by simp) ?_ (by simp [hir, Array.getElem?_setIfInBounds]) (by simp [hir1]) ?_⟩
        · have e : (fun k => (((r.setIfInBounds j .unset).setIfInBounds (j + 1) (.val (rv ρ v))).setIfInBounds (j + 1 + 1) .second)[k]?) = up (up (up (up (fun k => r[k]?) j .unset) (j + 1) .unset) (j + 1) (.val (rv ρ v))) (j + 1 + 1) .second := by
            rw [up_arr (by simpa using hir1), up_arr (by simpa using hir), up_arr hj]
            funext k
            simp only [up]
            by_cases e : k = j + 1 + 1
            · simp [e]
            · by_cases e2 : k = j + 1
              · simp [e2]
              · simp [e, e2]
          rw [e]
          exact W5.two (Or.inl (by simp [up] <;> omega)) (Or.inr ⟨u, by simp [up, hq1] <;> omega, cat12 u hu⟩) hcv
        · intro k a b
          by_cases e : k = j
          · subst e; exact Or.inr Lu
          · left; rw [Array.getElem?_setIfInBounds_ne (Ne.symm b), Array.getElem?_setIfInBounds_ne (Ne.symm a), Array.getElem?_setIfInBounds_ne (Ne.symm e)]
/-- which lists of slots are laid out well -/
def wfL : List Slot → Bool
  | [] => true
  | .unset :: t => wfL t
  | .second :: _ => false
  | [.val v] => decide (v.category = 1)
  | .val v :: .second :: t => decide (v.category = 2) && wfL t
  | .val v :: .unset :: t => decide (v.category = 1) && wfL t
  | .val v :: .val u :: t => decide (v.category = 1) && wfL (.val u :: t)
/-- the walk forgets the variables that the mask marks -/
def fg : List Bool → List Slot → List Slot
  | true :: b, _ :: t => .unset :: fg b t
  | false :: b, s :: t => s :: fg b t
  | _, t => t
theorem WR.nil : WR (fun k => ([] : List Slot)[k]?) := ⟨fun i v h => by simp at h, fun i h => by simp at h⟩
theorem WR.cons1 {t : List Slot} {s : Slot} (h : WR (fun k => t[k]?)) (hs : C1 (some s)) : WR (fun k => (s :: t)[k]?) := by
  obtain ⟨n1, n2⟩ := hs.not2
  constructor
  · intro i v hi hv
    cases i with
    | zero => exact absurd hv (n2 v (by simpa using hi))
    | succ i => have := h.1 i v (by simpa using hi) hv; simpa using this
  · intro i hi
    cases i with
    | zero => exact absurd (by simpa using hi) n1
    | succ i => obtain ⟨j, v, e1, e2, e3⟩ := h.2 i (by simpa using hi); exact ⟨j + 1, v, by omega, by simpa using e2, e3⟩
theorem WR.cons2 {t : List Slot} {w : Value} (h : WR (fun k => t[k]?)) (hw : w.category = 2) : WR (fun k => (Slot.val w :: .second :: t)[k]?) := by
  constructor
  · intro i v hi hv
    match i with
    | 0 => simp
    | 1 => simp at hi
    | i + 2 => have := h.1 i v (by simpa using hi) hv; simpa using this
  · intro i hi
    match i with
    | 0 => simp at hi
    | 1 => exact ⟨0, w, rfl, by simp, hw⟩
    | i + 2 => obtain ⟨j, v, e1, e2, e3⟩ := h.2 i (by simpa using hi); exact ⟨j + 2, v, by omega, by simpa using e2, e3⟩
theorem WR.of_wfL : (L : List Slot) → wfL L = true → WR (fun k => L[k]?)
  | [], _ => WR.nil
  | .unset :: t, h => (WR.of_wfL t h).cons1 (Or.inl rfl)
  | .second :: _, h => by simp [wfL] at h
  | [.val v], h => WR.nil.cons1 (Or.inr ⟨v, rfl, by simpa [wfL] using h⟩)
  | .val v :: .second :: t, h => by simp [wfL] at h; exact (WR.of_wfL t h.2).cons2 h.1
  | .val v :: .unset :: t, h => by simp [wfL] at h; exact ((WR.of_wfL t h.2).cons1 (Or.inl rfl)).cons1 (Or.inr ⟨v, rfl, h.1⟩)
  | .val v :: .val u :: t, h => by
    have h' : decide (v.category = 1) = true ∧ wfL (.val u :: t) = true := by rw [wfL, Bool.and_eq_true] at h; exact h
    exact (WR.of_wfL (.val u :: t) h'.2).cons1 (Or.inr ⟨v, rfl, of_decide_eq_true h'.1⟩)
theorem fg_length : (b : List Bool) → (L : List Slot) → (fg b L).length = L.length
  | true :: b, _ :: t => by simp [fg, fg_length b t]
  | false :: b, s :: t => by simp [fg, fg_length b t]
  | [], t => by simp [fg]
  | true :: _, [] => by simp [fg]
  | false :: _, [] => by simp [fg]
theorem fg_get : (b : List Bool) → (L : List Slot) → ∀ (i : Nat) (s : Slot), (fg b L)[i]? = some s → s = .unset ∨ L[i]? = some s
  | true :: b, x :: t, i, s, h => by
    cases i with
    | zero => left; simpa [fg] using h.symm
    | succ i => have := fg_get b t i s (by simpa [fg] using h); simpa using this
  | false :: b, x :: t, i, s, h => by
    cases i with
    | zero => right; simpa [fg] using h
    | succ i => have := fg_get b t i s (by simpa [fg] using h); simpa using this
  | [], t, i, s, h => by right; simpa [fg] using h
  | true :: _, [], i, s, h => by right; simpa [fg] using h
  | false :: _, [], i, s, h => by right; simpa [fg] using h
theorem SR.forget {ρ : Nat → Addr} {L : List Slot} {r : Array Slot} (h : SR ρ L r) (b : List Bool) (hw : wfL (fg b L) = true) : SR ρ (fg b L) r := by
  obtain ⟨h1, h2, h3, h4, h5⟩ := h
  refine ⟨by rw [fg_length]; exact h1, fun i v hi => ?_, fun i hi => ?_, WR.of_wfL _ hw, h5⟩
  · rcases fg_get _ _ _ _ hi with e | e
    · cases e
    · exact h2 i v e
  · rcases fg_get _ _ _ _ hi with e | e
    · cases e
    · exact h3 i e
/-- at a method's entry -/
theorem a2l (ρ : Nat → Addr) (as : List Value) (mx : Nat) : argsToLocals (as.map (rv ρ)).toArray mx = (argsToLocals as.toArray mx).map (rs ρ) := by
  have key : ∀ (as : List Value) (acc : Array Slot), (as.map (rv ρ)).foldl (fun acc v => if v.category = 2 then (acc.push (.val v)).push .second else acc.push (.val v)) (acc.map (rs ρ)) = (as.foldl (fun acc v => if v.category = 2 then (acc.push (.val v)).push .second else acc.push (.val v)) acc).map (rs ρ) := by
    intro as
    induction as with
    | nil => intro acc; rfl
    | cons v t ih =>
      intro acc
      simp only [List.map_cons, List.foldl_cons, rv_cat]
      by_cases hv : v.category = 2
      · rw [if_pos hv, if_pos hv, ← ih]; simp [Array.map_push, rs]
      · rw [if_neg hv, if_neg hv, ← ih]; simp [Array.map_push, rs]
  have k0 := key as #[]
  simp only [Array.map_empty] at k0
  simp only [argsToLocals, List.foldl_toArray', List.size_toArray]
  simp only [k0, Array.map_append, Array.size_map, Array.map_replicate, rs]
theorem SR.entry (ρ : Nat → Addr) (as : List Value) (mx : Nat) {L : List Slot} (hL : (argsToLocals as.toArray mx).toList = L) (hw : wfL L = true) : SR ρ L (argsToLocals (as.map (rv ρ)).toArray mx) := by
  subst hL
  rw [a2l]
  have hW := WR.of_wfL _ hw
  generalize argsToLocals as.toArray mx = A at hW
  have g : ∀ i : Nat, (A.map (rs ρ))[i]? = (A.toList[i]?).map (rs ρ) := by intro i; simp
  refine ⟨by simp, fun i v hi => by rw [g, hi]; rfl, fun i hi => by rw [g, hi]; rfl, hW, ?_, ?_⟩
  · intro i v hi hv
    have hi' : (A.toList[i]?).map (rs ρ) = some (.val v) := by rw [← g]; exact hi
    cases hs : A.toList[i]? with
    | none => rw [hs] at hi'; cases hi'
    | some s =>
      rw [hs] at hi'
      cases s with
      | unset => cases hi'
      | second => cases hi'
      | val u =>
        cases hi'
        have := hW.1 i u hs (by rwa [rv_cat] at hv)
        show (A.map (rs ρ))[i + 1]? = _
        rw [g]
        have t : A.toList[i + 1]? = some .second := this
        rw [t]; rfl
  · intro i hi
    have hi' : (A.toList[i]?).map (rs ρ) = some .second := by rw [← g]; exact hi
    cases hs : A.toList[i]? with
    | none => rw [hs] at hi'; cases hi'
    | some s =>
      rw [hs] at hi'
      cases s with
      | unset => cases hi'
      | val u => cases hi'
      | second =>
        obtain ⟨j, v, e1, e2, e3⟩ := hW.2 i hs
        refine ⟨j, rv ρ v, e1, ?_, by rw [rv_cat]; exact e3⟩
        show (A.map (rs ρ))[j]? = _
        rw [g]
        have t : A.toList[j]? = some (.val v) := e2
        rw [t]; rfl
end Jvm.Own

namespace Jvm.Own
open Jvm Jvm.ClassFile Sem Op Lib Jvm.Free Jvm.Stand Jvm.LawKit Jvm.RoadKit
/-! ## 2. A method's data; what it means that a walk from a point of it comes to an end -/
/-- name, bytes, number of variables, what it returns, room, cells that it makes -/
abbrev MD : Type := MethodName × ByteArray × Nat × Option FieldType × Room × Nat
abbrev nmOf (md : MD) : MethodName := md.1
abbrev byOf (md : MD) : ByteArray := md.2.1
abbrev mxOf (md : MD) : Nat := md.2.2.1
abbrev rtOf (md : MD) : Option FieldType := md.2.2.2.1
abbrev rmOf (md : MD) : Room := md.2.2.2.2.1
abbrev exOf (md : MD) : Nat := md.2.2.2.2.2
/-- the class whose methods are walked; where the walk's references point; the first new address; what the heap holds; what a walk leaves alone -/
abbrev Mode (μ E : Type) : Type := String × (E → Nat → Addr) × (E → Nat) × (E → μ → Heap → Prop) × (E → Heap → Heap → Prop)
abbrev Mode.own {μ E : Type} (M : Mode μ E) : String := M.1
abbrev Mode.rho {μ E : Type} (M : Mode μ E) : E → Nat → Addr := M.2.1
abbrev Mode.lo {μ E : Type} (M : Mode μ E) : E → Nat := M.2.2.1
abbrev Mode.rel {μ E : Type} (M : Mode μ E) : E → μ → Heap → Prop := M.2.2.2.1
abbrev Mode.frm {μ E : Type} (M : Mode μ E) : E → Heap → Heap → Prop := M.2.2.2.2
def Kn (Z : State) (own : String) (md : MD) (p : Program) (s : State) (m : MethodId) (meth : Method) (c : Code) : Prop :=
  p.tables.exec = Jvm.exec ∧ Z.Warmed39 s.vm ∧ s.vm.findClass own = some m.cls ∧ meth.name = (nmOf md).name ∧ meth.sig.returnType = rtOf md ∧ meth.locks = false ∧ c.code = byOf md ∧ c.maxLocals = mxOf md
def Done {μ E : Type} (l : Launch) (M : Mode μ E) (md : MD) (Q : Option Value → μ → Prop) (en : E) (p : Program) (e : Env) (s : State) (m : MethodId) (args : Array Value) (below : List Frame) (meth : Method) (c : Code) (T : State) (g : JFrame) : Prop :=
  ∃ (T' : State) (locs' : List Loc) (su' : Nat) (v : Option Value) (w' : μ), Stand p l e (rmOf md) s m args below meth c T' locs' (exOf md) su' ∧ exOf md ≤ (rmOf md).cells ∧ su' ≤ (rmOf md).slots ∧ T'.heap.size = s.heap.size + exOf md ∧ Fr (M.lo en) locs' ∧ M.rel en w' T'.heap ∧ M.frm en T.heap T'.heap ∧
    (meth.sig.returnType = none → v = none) ∧ (∀ ρ x, v = some x → rv ρ x = x) ∧ Q v w' ∧
    ∀ fs, (∀ (f : JFrame) (acts : List Action), f.method = m → f.locked = none → f.entered = [] → (doReturn e (T'.setTop f) acts v).1 = T'.setFrames fs) → Steps p.tables e below (T.setTop g) (T'.setFrames fs)
/-- from the pc, with these variables and operands, over w, the walk returns with what Q says -/
def Wk {μ E : Type} (l : Launch) (Z : State) (M : Mode μ E) (md : MD) (pc : Nat) (L : List Slot) (S : List Value) (w : μ) (cu su : Nat) (Q : Option Value → μ → Prop) : Prop :=
  ∀ (en : E) (p : Program) (e : Env) (s : State) (m : MethodId) (args : Array Value) (below : List Frame) (meth : Method) (c : Code) (T : State) (locs : List Loc) (r : Array Slot),
    Stand p l e (rmOf md) s m args below meth c T locs cu su → Kn Z M.own md p s m meth c → T.heap.size = s.heap.size + cu → Fr (M.lo en) locs → M.rel en w T.heap → SR (M.rho en) L r →
    Done l M md Q en p e s m args below meth c T (mkF m pc r (S.map (rv (M.rho en))))
section Steps
variable {μ E : Type} {l : Launch} {Z : State} {M : Mode μ E} {md : MD} {pc pc' : Nat} {L L' : List Slot} {S : List Value} {w : μ} {cu su : Nat} {Q : Option Value → μ → Prop}
theorem Done.pre {en : E} {p : Program} {e : Env} {s : State} {m : MethodId} {args : Array Value} {below : List Frame} {meth : Method} {c : Code} {T T1 : State} {g g1 : JFrame} (h : Done l M md Q en p e s m args below meth c T1 g1) (hT : ∀ x, M.frm en T1.heap x → M.frm en T.heap x)
    (st : ∀ t, Steps p.tables e below (T1.setTop g1) t → Steps p.tables e below (T.setTop g) t) : Done l M md Q en p e s m args below meth c T g := by
  obtain ⟨T', locs', su', v, w', a1, a2, a3, a4, a5, a6, a7, a8, a9, a10, a11⟩ := h
  exact ⟨T', locs', su', v, w', a1, a2, a3, a4, a5, a6, hT _ a7, a8, a9, a10, fun fs hf => st _ (a11 fs hf)⟩
theorem Wk.mono {Q' : Option Value → μ → Prop} (h : Wk l Z M md pc L S w cu su Q) (hq : ∀ v w', Q v w' → Q' v w') : Wk l Z M md pc L S w cu su Q' := by
  intro en p e s m args below meth c T locs r X K hz hF hR hL
  obtain ⟨T', locs', su', v, w', a1, a2, a3, a4, a5, a6, a7, a8, a9, a10, a11⟩ := h en p e s m args below meth c T locs r X K hz hF hR hL
  exact ⟨T', locs', su', v, w', a1, a2, a3, a4, a5, a6, a7, a8, a9, hq _ _ a10, a11⟩
abbrev InsA (md : MD) (pc : Nat) (i : Instr) (n pc' : Nat) : Prop := decode (byOf md) pc = .ok (i, n) ∧ pc + n = pc'
abbrev InsB (md : MD) (pc : Nat) (i : Instr) (n pc' : Nat) (o : Int) (pt : Nat) : Prop := decode (byOf md) pc = .ok (i, n) ∧ pc + n = pc' ∧ 0 ≤ (pc : Int) + o ∧ ((pc : Int) + o).toNat = pt
theorem Kn.by {own : String} {p : Program} {s : State} {m : MethodId} {meth : Method} {c : Code} (K : Kn Z own md p s m meth c) : c.code = byOf md := K.2.2.2.2.2.2.1
theorem Wk.forget (b : List Bool) (hf : fg b L = L') (hw : wfL L' = true) (h : Wk l Z M md pc L' S w cu su Q) : Wk l Z M md pc L S w cu su Q :=
  fun en p e s m args below meth c T locs r X K hz hF hR hL => h en p e s m args below meth c T locs r X K hz hF hR (by subst hf; exact hL.forget b hw)
theorem Wk.iloadN {k : Fin 4} {v : Int32} (hd : InsA md pc (.iload_n k) 1 pc') (hl : L[k.val]? = some (.val (.int v))) (h : Wk l Z M md pc' L (.int v :: S) w cu su Q) : Wk l Z M md pc L (S) w cu su Q :=
  fun en p e s m args below meth c T locs r X K hz hF hR hL => by
  obtain ⟨hd, rfl⟩ := hd
  exact (h en p e s m args below meth c T locs r X K hz hF hR hL).pre (fun _ q => q) fun t k => XS.iloadN X.here K.1 rfl (hb K.by hd) (hL.get hl) k
theorem Wk.iload {k : Nat} {v : Int32} (hd : InsA md pc (.iload k) 2 pc') (hl : L[k]? = some (.val (.int v))) (h : Wk l Z M md pc' L (.int v :: S) w cu su Q) : Wk l Z M md pc L (S) w cu su Q :=
  fun en p e s m args below meth c T locs r X K hz hF hR hL => by
  obtain ⟨hd, rfl⟩ := hd
  exact (h en p e s m args below meth c T locs r X K hz hF hR hL).pre (fun _ q => q) fun t k => XS.iload X.here K.1 rfl (hb K.by hd) (hL.get hl) k
theorem Wk.lloadN {k : Fin 4} {v : Int64} (hd : InsA md pc (.lload_n k) 1 pc') (hl : L[k.val]? = some (.val (.long v))) (h : Wk l Z M md pc' L (.long v :: S) w cu su Q) : Wk l Z M md pc L (S) w cu su Q :=
  fun en p e s m args below meth c T locs r X K hz hF hR hL => by
  obtain ⟨hd, rfl⟩ := hd
  exact (h en p e s m args below meth c T locs r X K hz hF hR hL).pre (fun _ q => q) fun t k => XT.lloadN X.here K.1 rfl (hb K.by hd) (hL.get hl) k
theorem Wk.lload {k : Nat} {v : Int64} (hd : InsA md pc (.lload k) 2 pc') (hl : L[k]? = some (.val (.long v))) (h : Wk l Z M md pc' L (.long v :: S) w cu su Q) : Wk l Z M md pc L (S) w cu su Q :=
  fun en p e s m args below meth c T locs r X K hz hF hR hL => by
  obtain ⟨hd, rfl⟩ := hd
  exact (h en p e s m args below meth c T locs r X K hz hF hR hL).pre (fun _ q => q) fun t k => XT.lload X.here K.1 rfl (hb K.by hd) (hL.get hl) k
theorem Wk.aloadN {k : Fin 4} {v : Nat} (hd : InsA md pc (.aload_n k) 1 pc') (hl : L[k.val]? = some (.val (.ref v))) (h : Wk l Z M md pc' L (.ref v :: S) w cu su Q) : Wk l Z M md pc L (S) w cu su Q :=
  fun en p e s m args below meth c T locs r X K hz hF hR hL => by
  obtain ⟨hd, rfl⟩ := hd
  exact (h en p e s m args below meth c T locs r X K hz hF hR hL).pre (fun _ q => q) fun t k => XS.aloadN X.here K.1 rfl (hb K.by hd) (hL.get hl) rfl k
theorem Wk.aload {k : Nat} {v : Nat} (hd : InsA md pc (.aload k) 2 pc') (hl : L[k]? = some (.val (.ref v))) (h : Wk l Z M md pc' L (.ref v :: S) w cu su Q) : Wk l Z M md pc L (S) w cu su Q :=
  fun en p e s m args below meth c T locs r X K hz hF hR hL => by
  obtain ⟨hd, rfl⟩ := hd
  exact (h en p e s m args below meth c T locs r X K hz hF hR hL).pre (fun _ q => q) fun t k => XS.aload X.here K.1 rfl (hb K.by hd) (hL.get hl) rfl k
theorem Wk.iconst {i : Int} {z : Int32} (hd : InsA md pc (.iconst i) 1 pc') (hz' : Int32.ofInt i = z) (h : Wk l Z M md pc' L (.int z :: S) w cu su Q) : Wk l Z M md pc L (S) w cu su Q :=
  fun en p e s m args below meth c T locs r X K hz hF hR hL => by
  obtain ⟨hd, rfl⟩ := hd
  exact (h en p e s m args below meth c T locs r X K hz hF hR hL).pre (fun _ q => q) fun t k => XS.iconst X.here K.1 rfl (hb K.by hd) (by subst hz'; exact k)
theorem Wk.bipush {i : Int} {z : Int32} (hd : InsA md pc (.bipush i) 2 pc') (hz' : (Int8.ofInt i).toInt32 = z) (h : Wk l Z M md pc' L (.int z :: S) w cu su Q) : Wk l Z M md pc L (S) w cu su Q :=
  fun en p e s m args below meth c T locs r X K hz hF hR hL => by
  obtain ⟨hd, rfl⟩ := hd
  exact (h en p e s m args below meth c T locs r X K hz hF hR hL).pre (fun _ q => q) fun t k => XS.bipush X.here K.1 rfl (hb K.by hd) (by subst hz'; exact k)
theorem Wk.sipush {i : Int} {z : Int32} (hd : InsA md pc (.sipush i) 3 pc') (hz' : (Int16.ofInt i).toInt32 = z) (h : Wk l Z M md pc' L (.int z :: S) w cu su Q) : Wk l Z M md pc L (S) w cu su Q :=
  fun en p e s m args below meth c T locs r X K hz hF hR hL => by
  obtain ⟨hd, rfl⟩ := hd
  exact (h en p e s m args below meth c T locs r X K hz hF hR hL).pre (fun _ q => q) fun t k => XS.sipush X.here K.1 rfl (hb K.by hd) (by subst hz'; exact k)
theorem Wk.lconst {i : Fin 2} {z : Int64} (hd : InsA md pc (.lconst i) 1 pc') (hz' : Int64.ofNat i = z) (h : Wk l Z M md pc' L (.long z :: S) w cu su Q) : Wk l Z M md pc L (S) w cu su Q :=
  fun en p e s m args below meth c T locs r X K hz hF hR hL => by
  obtain ⟨hd, rfl⟩ := hd
  exact (h en p e s m args below meth c T locs r X K hz hF hR hL).pre (fun _ q => q) fun t k => XT.lconst X.here K.1 rfl (hb K.by hd) (by subst hz'; exact k)
theorem Wk.iadd {x y : Int32} (hd : InsA md pc (.iadd) 1 pc') (h : Wk l Z M md pc' L (.int (x + y) :: S) w cu su Q) : Wk l Z M md pc L (.int y :: .int x :: S) w cu su Q :=
  fun en p e s m args below meth c T locs r X K hz hF hR hL => by
  obtain ⟨hd, rfl⟩ := hd
  exact (h en p e s m args below meth c T locs r X K hz hF hR hL).pre (fun _ q => q) fun t k => XS.iadd X.here K.1 rfl (hb K.by hd) rfl k
theorem Wk.isub {x y : Int32} (hd : InsA md pc (.isub) 1 pc') (h : Wk l Z M md pc' L (.int (x - y) :: S) w cu su Q) : Wk l Z M md pc L (.int y :: .int x :: S) w cu su Q :=
  fun en p e s m args below meth c T locs r X K hz hF hR hL => by
  obtain ⟨hd, rfl⟩ := hd
  exact (h en p e s m args below meth c T locs r X K hz hF hR hL).pre (fun _ q => q) fun t k => XS.isub X.here K.1 rfl (hb K.by hd) rfl k
theorem Wk.imul {x y : Int32} (hd : InsA md pc (.imul) 1 pc') (h : Wk l Z M md pc' L (.int (x * y) :: S) w cu su Q) : Wk l Z M md pc L (.int y :: .int x :: S) w cu su Q :=
  fun en p e s m args below meth c T locs r X K hz hF hR hL => by
  obtain ⟨hd, rfl⟩ := hd
  exact (h en p e s m args below meth c T locs r X K hz hF hR hL).pre (fun _ q => q) fun t k => XS.imul X.here K.1 rfl (hb K.by hd) rfl k
theorem Wk.iand {x y : Int32} (hd : InsA md pc (.iand) 1 pc') (h : Wk l Z M md pc' L (.int (x &&& y) :: S) w cu su Q) : Wk l Z M md pc L (.int y :: .int x :: S) w cu su Q :=
  fun en p e s m args below meth c T locs r X K hz hF hR hL => by
  obtain ⟨hd, rfl⟩ := hd
  exact (h en p e s m args below meth c T locs r X K hz hF hR hL).pre (fun _ q => q) fun t k => XS.iand X.here K.1 rfl (hb K.by hd) rfl k
theorem Wk.ior {x y : Int32} (hd : InsA md pc (.ior) 1 pc') (h : Wk l Z M md pc' L (.int (x ||| y) :: S) w cu su Q) : Wk l Z M md pc L (.int y :: .int x :: S) w cu su Q :=
  fun en p e s m args below meth c T locs r X K hz hF hR hL => by
  obtain ⟨hd, rfl⟩ := hd
  exact (h en p e s m args below meth c T locs r X K hz hF hR hL).pre (fun _ q => q) fun t k => XT.ior X.here K.1 rfl (hb K.by hd) rfl k
theorem Wk.ixor {x y : Int32} (hd : InsA md pc (.ixor) 1 pc') (h : Wk l Z M md pc' L (.int (x ^^^ y) :: S) w cu su Q) : Wk l Z M md pc L (.int y :: .int x :: S) w cu su Q :=
  fun en p e s m args below meth c T locs r X K hz hF hR hL => by
  obtain ⟨hd, rfl⟩ := hd
  exact (h en p e s m args below meth c T locs r X K hz hF hR hL).pre (fun _ q => q) fun t k => XT.ixor X.here K.1 rfl (hb K.by hd) rfl k
theorem Wk.ishl {x y : Int32} (hd : InsA md pc (.ishl) 1 pc') (h : Wk l Z M md pc' L (.int (x <<< (y &&& 31)) :: S) w cu su Q) : Wk l Z M md pc L (.int y :: .int x :: S) w cu su Q :=
  fun en p e s m args below meth c T locs r X K hz hF hR hL => by
  obtain ⟨hd, rfl⟩ := hd
  exact (h en p e s m args below meth c T locs r X K hz hF hR hL).pre (fun _ q => q) fun t k => XT.ishl X.here K.1 rfl (hb K.by hd) rfl k
theorem Wk.ishr {x y : Int32} (hd : InsA md pc (.ishr) 1 pc') (h : Wk l Z M md pc' L (.int (x >>> (y &&& 31)) :: S) w cu su Q) : Wk l Z M md pc L (.int y :: .int x :: S) w cu su Q :=
  fun en p e s m args below meth c T locs r X K hz hF hR hL => by
  obtain ⟨hd, rfl⟩ := hd
  exact (h en p e s m args below meth c T locs r X K hz hF hR hL).pre (fun _ q => q) fun t k => XT.ishr X.here K.1 rfl (hb K.by hd) rfl k
theorem Wk.iushr {x y : Int32} (hd : InsA md pc (.iushr) 1 pc') (h : Wk l Z M md pc' L (.int (XT.ushr x y) :: S) w cu su Q) : Wk l Z M md pc L (.int y :: .int x :: S) w cu su Q :=
  fun en p e s m args below meth c T locs r X K hz hF hR hL => by
  obtain ⟨hd, rfl⟩ := hd
  exact (h en p e s m args below meth c T locs r X K hz hF hR hL).pre (fun _ q => q) fun t k => XT.iushr X.here K.1 rfl (hb K.by hd) rfl k
theorem Wk.ineg {x : Int32} (hd : InsA md pc (.ineg) 1 pc') (h : Wk l Z M md pc' L (.int (-x) :: S) w cu su Q) : Wk l Z M md pc L (.int x :: S) w cu su Q :=
  fun en p e s m args below meth c T locs r X K hz hF hR hL => by
  obtain ⟨hd, rfl⟩ := hd
  exact (h en p e s m args below meth c T locs r X K hz hF hR hL).pre (fun _ q => q) fun t k => XS.ineg X.here K.1 rfl (hb K.by hd) rfl k
theorem Wk.idiv {x y : Int32} (hd : InsA md pc (.idiv) 1 pc') (hy : y ≠ 0) (h : Wk l Z M md pc' L (.int (x / y) :: S) w cu su Q) : Wk l Z M md pc L (.int y :: .int x :: S) w cu su Q :=
  fun en p e s m args below meth c T locs r X K hz hF hR hL => by
  obtain ⟨hd, rfl⟩ := hd
  exact (h en p e s m args below meth c T locs r X K hz hF hR hL).pre (fun _ q => q) fun t k => XS.idiv X.here K.1 rfl (hb K.by hd) rfl hy k
theorem Wk.irem {x y : Int32} (hd : InsA md pc (.irem) 1 pc') (hy : y ≠ 0) (h : Wk l Z M md pc' L (.int (x % y) :: S) w cu su Q) : Wk l Z M md pc L (.int y :: .int x :: S) w cu su Q :=
  fun en p e s m args below meth c T locs r X K hz hF hR hL => by
  obtain ⟨hd, rfl⟩ := hd
  exact (h en p e s m args below meth c T locs r X K hz hF hR hL).pre (fun _ q => q) fun t k => Jvm.RoadKit.iremM X K.1 rfl (hb K.by hd) rfl hy k
theorem Wk.ladd {x y : Int64} (hd : InsA md pc (.ladd) 1 pc') (h : Wk l Z M md pc' L (.long (x + y) :: S) w cu su Q) : Wk l Z M md pc L (.long y :: .long x :: S) w cu su Q :=
  fun en p e s m args below meth c T locs r X K hz hF hR hL => by
  obtain ⟨hd, rfl⟩ := hd
  exact (h en p e s m args below meth c T locs r X K hz hF hR hL).pre (fun _ q => q) fun t k => XT.ladd X.here K.1 rfl (hb K.by hd) rfl k
theorem Wk.lsub {x y : Int64} (hd : InsA md pc (.lsub) 1 pc') (h : Wk l Z M md pc' L (.long (x - y) :: S) w cu su Q) : Wk l Z M md pc L (.long y :: .long x :: S) w cu su Q :=
  fun en p e s m args below meth c T locs r X K hz hF hR hL => by
  obtain ⟨hd, rfl⟩ := hd
  exact (h en p e s m args below meth c T locs r X K hz hF hR hL).pre (fun _ q => q) fun t k => XT.lsub X.here K.1 rfl (hb K.by hd) rfl k
theorem Wk.lmul {x y : Int64} (hd : InsA md pc (.lmul) 1 pc') (h : Wk l Z M md pc' L (.long (x * y) :: S) w cu su Q) : Wk l Z M md pc L (.long y :: .long x :: S) w cu su Q :=
  fun en p e s m args below meth c T locs r X K hz hF hR hL => by
  obtain ⟨hd, rfl⟩ := hd
  exact (h en p e s m args below meth c T locs r X K hz hF hR hL).pre (fun _ q => q) fun t k => XT.lmul X.here K.1 rfl (hb K.by hd) rfl k
theorem Wk.land {x y : Int64} (hd : InsA md pc (.land) 1 pc') (h : Wk l Z M md pc' L (.long (x &&& y) :: S) w cu su Q) : Wk l Z M md pc L (.long y :: .long x :: S) w cu su Q :=
  fun en p e s m args below meth c T locs r X K hz hF hR hL => by
  obtain ⟨hd, rfl⟩ := hd
  exact (h en p e s m args below meth c T locs r X K hz hF hR hL).pre (fun _ q => q) fun t k => XT.land X.here K.1 rfl (hb K.by hd) rfl k
theorem Wk.lor {x y : Int64} (hd : InsA md pc (.lor) 1 pc') (h : Wk l Z M md pc' L (.long (x ||| y) :: S) w cu su Q) : Wk l Z M md pc L (.long y :: .long x :: S) w cu su Q :=
  fun en p e s m args below meth c T locs r X K hz hF hR hL => by
  obtain ⟨hd, rfl⟩ := hd
  exact (h en p e s m args below meth c T locs r X K hz hF hR hL).pre (fun _ q => q) fun t k => XT.lor X.here K.1 rfl (hb K.by hd) rfl k
theorem Wk.lxor {x y : Int64} (hd : InsA md pc (.lxor) 1 pc') (h : Wk l Z M md pc' L (.long (x ^^^ y) :: S) w cu su Q) : Wk l Z M md pc L (.long y :: .long x :: S) w cu su Q :=
  fun en p e s m args below meth c T locs r X K hz hF hR hL => by
  obtain ⟨hd, rfl⟩ := hd
  exact (h en p e s m args below meth c T locs r X K hz hF hR hL).pre (fun _ q => q) fun t k => XT.lxor X.here K.1 rfl (hb K.by hd) rfl k
theorem Wk.ldiv {x y : Int64} (hd : InsA md pc (.ldiv) 1 pc') (hy : y ≠ 0) (h : Wk l Z M md pc' L (.long (x / y) :: S) w cu su Q) : Wk l Z M md pc L (.long y :: .long x :: S) w cu su Q :=
  fun en p e s m args below meth c T locs r X K hz hF hR hL => by
  obtain ⟨hd, rfl⟩ := hd
  exact (h en p e s m args below meth c T locs r X K hz hF hR hL).pre (fun _ q => q) fun t k => XT.ldiv X.here K.1 rfl (hb K.by hd) rfl hy k
theorem Wk.lrem {x y : Int64} (hd : InsA md pc (.lrem) 1 pc') (hy : y ≠ 0) (h : Wk l Z M md pc' L (.long (x - (x / y) * y) :: S) w cu su Q) : Wk l Z M md pc L (.long y :: .long x :: S) w cu su Q :=
  fun en p e s m args below meth c T locs r X K hz hF hR hL => by
  obtain ⟨hd, rfl⟩ := hd
  exact (h en p e s m args below meth c T locs r X K hz hF hR hL).pre (fun _ q => q) fun t k => XT.lrem X.here K.1 rfl (hb K.by hd) rfl hy k
theorem Wk.lshl {x : Int64} {y : Int32} (hd : InsA md pc (.lshl) 1 pc') (h : Wk l Z M md pc' L (.long (x <<< (y.toInt64 &&& 63)) :: S) w cu su Q) : Wk l Z M md pc L (.int y :: .long x :: S) w cu su Q :=
  fun en p e s m args below meth c T locs r X K hz hF hR hL => by
  obtain ⟨hd, rfl⟩ := hd
  exact (h en p e s m args below meth c T locs r X K hz hF hR hL).pre (fun _ q => q) fun t k => XT.lshl X.here K.1 rfl (hb K.by hd) rfl k
theorem Wk.lshr {x : Int64} {y : Int32} (hd : InsA md pc (.lshr) 1 pc') (h : Wk l Z M md pc' L (.long (x >>> (y.toInt64 &&& 63)) :: S) w cu su Q) : Wk l Z M md pc L (.int y :: .long x :: S) w cu su Q :=
  fun en p e s m args below meth c T locs r X K hz hF hR hL => by
  obtain ⟨hd, rfl⟩ := hd
  exact (h en p e s m args below meth c T locs r X K hz hF hR hL).pre (fun _ q => q) fun t k => XT.lshr X.here K.1 rfl (hb K.by hd) rfl k
theorem Wk.lushr {x : Int64} {y : Int32} (hd : InsA md pc (.lushr) 1 pc') (h : Wk l Z M md pc' L (.long (XT.ushrL x y) :: S) w cu su Q) : Wk l Z M md pc L (.int y :: .long x :: S) w cu su Q :=
  fun en p e s m args below meth c T locs r X K hz hF hR hL => by
  obtain ⟨hd, rfl⟩ := hd
  exact (h en p e s m args below meth c T locs r X K hz hF hR hL).pre (fun _ q => q) fun t k => XT.lushr X.here K.1 rfl (hb K.by hd) rfl k
theorem Wk.i2l {x : Int32} (hd : InsA md pc (.i2l) 1 pc') (h : Wk l Z M md pc' L (.long x.toInt64 :: S) w cu su Q) : Wk l Z M md pc L (.int x :: S) w cu su Q :=
  fun en p e s m args below meth c T locs r X K hz hF hR hL => by
  obtain ⟨hd, rfl⟩ := hd
  exact (h en p e s m args below meth c T locs r X K hz hF hR hL).pre (fun _ q => q) fun t k => XT.i2l X.here K.1 rfl (hb K.by hd) rfl k
theorem Wk.l2i {x : Int64} (hd : InsA md pc (.l2i) 1 pc') (h : Wk l Z M md pc' L (.int x.toInt32 :: S) w cu su Q) : Wk l Z M md pc L (.long x :: S) w cu su Q :=
  fun en p e s m args below meth c T locs r X K hz hF hR hL => by
  obtain ⟨hd, rfl⟩ := hd
  exact (h en p e s m args below meth c T locs r X K hz hF hR hL).pre (fun _ q => q) fun t k => XT.l2i X.here K.1 rfl (hb K.by hd) rfl k
theorem Wk.lcmp {x y : Int64} (hd : InsA md pc (.lcmp) 1 pc') (h : Wk l Z M md pc' L (.int (XT.cmpL x y) :: S) w cu su Q) : Wk l Z M md pc L (.long y :: .long x :: S) w cu su Q :=
  fun en p e s m args below meth c T locs r X K hz hF hR hL => by
  obtain ⟨hd, rfl⟩ := hd
  exact (h en p e s m args below meth c T locs r X K hz hF hR hL).pre (fun _ q => q) fun t k => XT.lcmp X.here K.1 rfl (hb K.by hd) rfl k
theorem Wk.dup {v : Value} (hd : InsA md pc (.dup) 1 pc') (hv : v.category = 1) (h : Wk l Z M md pc' L (v :: v :: S) w cu su Q) : Wk l Z M md pc L (v :: S) w cu su Q :=
  fun en p e s m args below meth c T locs r X K hz hF hR hL => by
  obtain ⟨hd, rfl⟩ := hd
  exact (h en p e s m args below meth c T locs r X K hz hF hR hL).pre (fun _ q => q) fun t k => XS.dup X.here K.1 rfl (hb K.by hd) rfl (by rw [rv_cat]; exact hv) k
theorem Wk.pop {v : Value} (hd : InsA md pc (.pop) 1 pc') (hv : v.category = 1) (h : Wk l Z M md pc' L (S) w cu su Q) : Wk l Z M md pc L (v :: S) w cu su Q :=
  fun en p e s m args below meth c T locs r X K hz hF hR hL => by
  obtain ⟨hd, rfl⟩ := hd
  exact (h en p e s m args below meth c T locs r X K hz hF hR hL).pre (fun _ q => q) fun t k => XT.pop X.here K.1 rfl (hb K.by hd) rfl (by rw [rv_cat]; exact hv) k
theorem Wk.dup2 {v u : Value} (hd : InsA md pc (.dup2) 1 pc') (hv : v.category = 1) (hu : u.category = 1) (h : Wk l Z M md pc' L (v :: u :: v :: u :: S) w cu su Q) : Wk l Z M md pc L (v :: u :: S) w cu su Q :=
  fun en p e s m args below meth c T locs r X K hz hF hR hL => by
  obtain ⟨hd, rfl⟩ := hd
  exact (h en p e s m args below meth c T locs r X K hz hF hR hL).pre (fun _ q => q) fun t k => XT.dup2 X.here K.1 rfl (hb K.by hd) rfl (by rw [rv_cat]; exact hv) (by rw [rv_cat]; exact hu) k
theorem Wk.dupX1 {v u : Value} (hd : InsA md pc (.dup_x1) 1 pc') (hv : v.category = 1) (hu : u.category = 1) (h : Wk l Z M md pc' L (v :: u :: v :: S) w cu su Q) : Wk l Z M md pc L (v :: u :: S) w cu su Q :=
  fun en p e s m args below meth c T locs r X K hz hF hR hL => by
  obtain ⟨hd, rfl⟩ := hd
  exact (h en p e s m args below meth c T locs r X K hz hF hR hL).pre (fun _ q => q) fun t k => XT.dupX1 X.here K.1 rfl (hb K.by hd) rfl (by rw [rv_cat]; exact hv) (by rw [rv_cat]; exact hu) k
theorem Wk.istoreN {k : Fin 4} {x : Int32} (hd : InsA md pc (.istore_n k) 1 pc') (ho : C1 L[k.val]?) (hl : L.set k.val (.val (.int x)) = L') (h : Wk l Z M md pc' L' S w cu su Q) : Wk l Z M md pc L (.int x :: S) w cu su Q :=
  fun en p e s m args below meth c T locs r X K hz hF hR hL => by
  obtain ⟨hd, rfl⟩ := hd
  obtain ⟨r', e1, hL2⟩ := hL.st1 (v := .int x) ho rfl
  subst hl
  exact (h en p e s m args below meth c T locs r' X K hz hF hR hL2).pre (fun _ q => q) fun t k => XS.istoreN X.here K.1 rfl (hb K.by hd) rfl e1 k
theorem Wk.istore {k : Nat} {x : Int32} (hd : InsA md pc (.istore k) 2 pc') (ho : C1 L[k]?) (hl : L.set k (.val (.int x)) = L') (h : Wk l Z M md pc' L' S w cu su Q) : Wk l Z M md pc L (.int x :: S) w cu su Q :=
  fun en p e s m args below meth c T locs r X K hz hF hR hL => by
  obtain ⟨hd, rfl⟩ := hd
  obtain ⟨r', e1, hL2⟩ := hL.st1 (v := .int x) ho rfl
  subst hl
  exact (h en p e s m args below meth c T locs r' X K hz hF hR hL2).pre (fun _ q => q) fun t k => XS.istore X.here K.1 rfl (hb K.by hd) rfl e1 k
theorem Wk.astoreN {k : Fin 4} {x : Nat} (hd : InsA md pc (.astore_n k) 1 pc') (ho : C1 L[k.val]?) (hl : L.set k.val (.val (.ref x)) = L') (h : Wk l Z M md pc' L' S w cu su Q) : Wk l Z M md pc L (.ref x :: S) w cu su Q :=
  fun en p e s m args below meth c T locs r X K hz hF hR hL => by
  obtain ⟨hd, rfl⟩ := hd
  obtain ⟨r', e1, hL2⟩ := hL.st1 (v := .ref x) ho rfl
  subst hl
  exact (h en p e s m args below meth c T locs r' X K hz hF hR hL2).pre (fun _ q => q) fun t k => XS.astoreN X.here K.1 rfl (hb K.by hd) rfl rfl e1 k
theorem Wk.astore {k : Nat} {x : Nat} (hd : InsA md pc (.astore k) 2 pc') (ho : C1 L[k]?) (hl : L.set k (.val (.ref x)) = L') (h : Wk l Z M md pc' L' S w cu su Q) : Wk l Z M md pc L (.ref x :: S) w cu su Q :=
  fun en p e s m args below meth c T locs r X K hz hF hR hL => by
  obtain ⟨hd, rfl⟩ := hd
  obtain ⟨r', e1, hL2⟩ := hL.st1 (v := .ref x) ho rfl
  subst hl
  exact (h en p e s m args below meth c T locs r' X K hz hF hR hL2).pre (fun _ q => q) fun t k => XS.astore X.here K.1 rfl (hb K.by hd) rfl rfl e1 k
theorem Wk.lstoreN {k : Fin 4} {x : Int64} (hd : InsA md pc (.lstore_n k) 1 pc') (ho : C1 L[k.val]?) (ho2 : C1 L[k.val + 1]?) (hl : (L.set k.val (.val (.long x))).set (k.val + 1) .second = L') (h : Wk l Z M md pc' L' S w cu su Q) : Wk l Z M md pc L (.long x :: S) w cu su Q :=
  fun en p e s m args below meth c T locs r X K hz hF hR hL => by
  obtain ⟨hd, rfl⟩ := hd
  obtain ⟨r', e1, hL2⟩ := hL.st2 (v := .long x) ho ho2 rfl
  subst hl
  exact (h en p e s m args below meth c T locs r' X K hz hF hR hL2).pre (fun _ q => q) fun t k => XT.lstoreN X.here K.1 rfl (hb K.by hd) rfl e1 k
theorem Wk.lstore {k : Nat} {x : Int64} (hd : InsA md pc (.lstore k) 2 pc') (ho : C1 L[k]?) (ho2 : C1 L[k + 1]?) (hl : (L.set k (.val (.long x))).set (k + 1) .second = L') (h : Wk l Z M md pc' L' S w cu su Q) : Wk l Z M md pc L (.long x :: S) w cu su Q :=
  fun en p e s m args below meth c T locs r X K hz hF hR hL => by
  obtain ⟨hd, rfl⟩ := hd
  obtain ⟨r', e1, hL2⟩ := hL.st2 (v := .long x) ho ho2 rfl
  subst hl
  exact (h en p e s m args below meth c T locs r' X K hz hF hR hL2).pre (fun _ q => q) fun t k => XT.lstore X.here K.1 rfl (hb K.by hd) rfl e1 k
theorem Wk.iinc {k : Nat} {cst : Int} {x z : Int32} (hd : InsA md pc (.iinc k cst) 3 pc') (hv : L[k]? = some (.val (.int x))) (hz' : x + Int32.ofInt cst = z) (hl : L.set k (.val (.int z)) = L') (h : Wk l Z M md pc' L' S w cu su Q) : Wk l Z M md pc L S w cu su Q :=
  fun en p e s m args below meth c T locs r X K hz hF hR hL => by
  obtain ⟨hd, rfl⟩ := hd
  obtain ⟨r', e1, hL2⟩ := hL.st1 (i := k) (v := .int z) (Or.inr ⟨_, hv, rfl⟩) rfl
  subst hl hz'
  exact (h en p e s m args below meth c T locs r' X K hz hF hR hL2).pre (fun _ q => q) fun t k => XS.iinc X.here K.1 rfl (hb K.by hd) (hL.get hv) e1 k
theorem Wk.goto {o : Int} {pt : Nat} (hd : InsB md pc (.goto o) 3 pc' o pt) (h : Wk l Z M md pt L S w cu su Q) : Wk l Z M md pc L S w cu su Q :=
  fun en p e s m args below meth c T locs r X K hz hF hR hL => by
  obtain ⟨hd, rfl, h3, h4⟩ := hd
  exact (h en p e s m args below meth c T locs r X K hz hF hR hL).pre (fun _ q => q) fun t k => XS.goto X.here K.1 rfl rfl (hb K.by hd) h3 h4 k
theorem Wk.icmp_lt {x y : Int32} {o : Int} {pt : Nat} (hd : InsB md pc (.if_icmp .lt o) 3 pc' o pt) (h1 : x < y → Wk l Z M md pt L S w cu su Q) (h2 : ¬ x < y → Wk l Z M md pc' L S w cu su Q) : Wk l Z M md pc L (.int y :: .int x :: S) w cu su Q :=
  fun en p e s m args below meth c T locs r X K hz hF hR hL => by
  obtain ⟨hd, rfl, h3, h4⟩ := hd
  by_cases q : x < y
  · exact (h1 q en p e s m args below meth c T locs r X K hz hF hR hL).pre (fun _ q => q) fun t k => XS.icmpYes X.here K.1 rfl rfl (hb K.by hd) rfl (tlt q).1 h3 h4 k
  · exact (h2 q en p e s m args below meth c T locs r X K hz hF hR hL).pre (fun _ q => q) fun t k => XS.icmpNo X.here K.1 rfl (hb K.by hd) rfl (flt q).1 k
theorem Wk.if_lt {x : Int32} {o : Int} {pt : Nat} (hd : InsB md pc (.ifCond .lt o) 3 pc' o pt) (h1 : x < 0 → Wk l Z M md pt L S w cu su Q) (h2 : ¬ x < 0 → Wk l Z M md pc' L S w cu su Q) : Wk l Z M md pc L (.int x :: S) w cu su Q :=
  fun en p e s m args below meth c T locs r X K hz hF hR hL => by
  obtain ⟨hd, rfl, h3, h4⟩ := hd
  by_cases q : x < 0
  · exact (h1 q en p e s m args below meth c T locs r X K hz hF hR hL).pre (fun _ q => q) fun t k => XS.ifYes X.here K.1 rfl rfl (hb K.by hd) rfl ((if0 _ _).trans (tlt q).1) h3 h4 k
  · exact (h2 q en p e s m args below meth c T locs r X K hz hF hR hL).pre (fun _ q => q) fun t k => XS.ifNo X.here K.1 rfl (hb K.by hd) rfl ((if0 _ _).trans (flt q).1) k
theorem Wk.icmp_ge {x y : Int32} {o : Int} {pt : Nat} (hd : InsB md pc (.if_icmp .ge o) 3 pc' o pt) (h1 : ¬ x < y → Wk l Z M md pt L S w cu su Q) (h2 : x < y → Wk l Z M md pc' L S w cu su Q) : Wk l Z M md pc L (.int y :: .int x :: S) w cu su Q :=
  fun en p e s m args below meth c T locs r X K hz hF hR hL => by
  obtain ⟨hd, rfl, h3, h4⟩ := hd
  by_cases q : x < y
  · exact (h2 q en p e s m args below meth c T locs r X K hz hF hR hL).pre (fun _ q => q) fun t k => XS.icmpNo X.here K.1 rfl (hb K.by hd) rfl (tlt q).2.1 k
  · exact (h1 q en p e s m args below meth c T locs r X K hz hF hR hL).pre (fun _ q => q) fun t k => XS.icmpYes X.here K.1 rfl rfl (hb K.by hd) rfl (flt q).2.1 h3 h4 k
theorem Wk.if_ge {x : Int32} {o : Int} {pt : Nat} (hd : InsB md pc (.ifCond .ge o) 3 pc' o pt) (h1 : ¬ x < 0 → Wk l Z M md pt L S w cu su Q) (h2 : x < 0 → Wk l Z M md pc' L S w cu su Q) : Wk l Z M md pc L (.int x :: S) w cu su Q :=
  fun en p e s m args below meth c T locs r X K hz hF hR hL => by
  obtain ⟨hd, rfl, h3, h4⟩ := hd
  by_cases q : x < 0
  · exact (h2 q en p e s m args below meth c T locs r X K hz hF hR hL).pre (fun _ q => q) fun t k => XS.ifNo X.here K.1 rfl (hb K.by hd) rfl ((if0 _ _).trans (tlt q).2.1) k
  · exact (h1 q en p e s m args below meth c T locs r X K hz hF hR hL).pre (fun _ q => q) fun t k => XS.ifYes X.here K.1 rfl rfl (hb K.by hd) rfl ((if0 _ _).trans (flt q).2.1) h3 h4 k
theorem Wk.icmp_gt {x y : Int32} {o : Int} {pt : Nat} (hd : InsB md pc (.if_icmp .gt o) 3 pc' o pt) (h1 : y < x → Wk l Z M md pt L S w cu su Q) (h2 : ¬ y < x → Wk l Z M md pc' L S w cu su Q) : Wk l Z M md pc L (.int y :: .int x :: S) w cu su Q :=
  fun en p e s m args below meth c T locs r X K hz hF hR hL => by
  obtain ⟨hd, rfl, h3, h4⟩ := hd
  by_cases q : y < x
  · exact (h1 q en p e s m args below meth c T locs r X K hz hF hR hL).pre (fun _ q => q) fun t k => XS.icmpYes X.here K.1 rfl rfl (hb K.by hd) rfl (tlt q).2.2.1 h3 h4 k
  · exact (h2 q en p e s m args below meth c T locs r X K hz hF hR hL).pre (fun _ q => q) fun t k => XS.icmpNo X.here K.1 rfl (hb K.by hd) rfl (flt q).2.2.1 k
theorem Wk.if_gt {x : Int32} {o : Int} {pt : Nat} (hd : InsB md pc (.ifCond .gt o) 3 pc' o pt) (h1 : 0 < x → Wk l Z M md pt L S w cu su Q) (h2 : ¬ 0 < x → Wk l Z M md pc' L S w cu su Q) : Wk l Z M md pc L (.int x :: S) w cu su Q :=
  fun en p e s m args below meth c T locs r X K hz hF hR hL => by
  obtain ⟨hd, rfl, h3, h4⟩ := hd
  by_cases q : 0 < x
  · exact (h1 q en p e s m args below meth c T locs r X K hz hF hR hL).pre (fun _ q => q) fun t k => XS.ifYes X.here K.1 rfl rfl (hb K.by hd) rfl ((if0 _ _).trans (tlt q).2.2.1) h3 h4 k
  · exact (h2 q en p e s m args below meth c T locs r X K hz hF hR hL).pre (fun _ q => q) fun t k => XS.ifNo X.here K.1 rfl (hb K.by hd) rfl ((if0 _ _).trans (flt q).2.2.1) k
theorem Wk.icmp_le {x y : Int32} {o : Int} {pt : Nat} (hd : InsB md pc (.if_icmp .le o) 3 pc' o pt) (h1 : ¬ y < x → Wk l Z M md pt L S w cu su Q) (h2 : y < x → Wk l Z M md pc' L S w cu su Q) : Wk l Z M md pc L (.int y :: .int x :: S) w cu su Q :=
  fun en p e s m args below meth c T locs r X K hz hF hR hL => by
  obtain ⟨hd, rfl, h3, h4⟩ := hd
  by_cases q : y < x
  · exact (h2 q en p e s m args below meth c T locs r X K hz hF hR hL).pre (fun _ q => q) fun t k => XS.icmpNo X.here K.1 rfl (hb K.by hd) rfl (tlt q).2.2.2 k
  · exact (h1 q en p e s m args below meth c T locs r X K hz hF hR hL).pre (fun _ q => q) fun t k => XS.icmpYes X.here K.1 rfl rfl (hb K.by hd) rfl (flt q).2.2.2 h3 h4 k
theorem Wk.if_le {x : Int32} {o : Int} {pt : Nat} (hd : InsB md pc (.ifCond .le o) 3 pc' o pt) (h1 : ¬ 0 < x → Wk l Z M md pt L S w cu su Q) (h2 : 0 < x → Wk l Z M md pc' L S w cu su Q) : Wk l Z M md pc L (.int x :: S) w cu su Q :=
  fun en p e s m args below meth c T locs r X K hz hF hR hL => by
  obtain ⟨hd, rfl, h3, h4⟩ := hd
  by_cases q : 0 < x
  · exact (h2 q en p e s m args below meth c T locs r X K hz hF hR hL).pre (fun _ q => q) fun t k => XS.ifNo X.here K.1 rfl (hb K.by hd) rfl ((if0 _ _).trans (tlt q).2.2.2) k
  · exact (h1 q en p e s m args below meth c T locs r X K hz hF hR hL).pre (fun _ q => q) fun t k => XS.ifYes X.here K.1 rfl rfl (hb K.by hd) rfl ((if0 _ _).trans (flt q).2.2.2) h3 h4 k
theorem Wk.icmp_eq {x y : Int32} {o : Int} {pt : Nat} (hd : InsB md pc (.if_icmp .eq o) 3 pc' o pt) (h1 : x = y → Wk l Z M md pt L S w cu su Q) (h2 : ¬ x = y → Wk l Z M md pc' L S w cu su Q) : Wk l Z M md pc L (.int y :: .int x :: S) w cu su Q :=
  fun en p e s m args below meth c T locs r X K hz hF hR hL => by
  obtain ⟨hd, rfl, h3, h4⟩ := hd
  by_cases q : x = y
  · exact (h1 q en p e s m args below meth c T locs r X K hz hF hR hL).pre (fun _ q => q) fun t k => XS.icmpYes X.here K.1 rfl rfl (hb K.by hd) rfl (teq q).1 h3 h4 k
  · exact (h2 q en p e s m args below meth c T locs r X K hz hF hR hL).pre (fun _ q => q) fun t k => XS.icmpNo X.here K.1 rfl (hb K.by hd) rfl (feq q).1 k
theorem Wk.if_eq {x : Int32} {o : Int} {pt : Nat} (hd : InsB md pc (.ifCond .eq o) 3 pc' o pt) (h1 : x = 0 → Wk l Z M md pt L S w cu su Q) (h2 : ¬ x = 0 → Wk l Z M md pc' L S w cu su Q) : Wk l Z M md pc L (.int x :: S) w cu su Q :=
  fun en p e s m args below meth c T locs r X K hz hF hR hL => by
  obtain ⟨hd, rfl, h3, h4⟩ := hd
  by_cases q : x = 0
  · exact (h1 q en p e s m args below meth c T locs r X K hz hF hR hL).pre (fun _ q => q) fun t k => XS.ifYes X.here K.1 rfl rfl (hb K.by hd) rfl ((if0 _ _).trans (teq q).1) h3 h4 k
  · exact (h2 q en p e s m args below meth c T locs r X K hz hF hR hL).pre (fun _ q => q) fun t k => XS.ifNo X.here K.1 rfl (hb K.by hd) rfl ((if0 _ _).trans (feq q).1) k
theorem Wk.icmp_ne {x y : Int32} {o : Int} {pt : Nat} (hd : InsB md pc (.if_icmp .ne o) 3 pc' o pt) (h1 : ¬ x = y → Wk l Z M md pt L S w cu su Q) (h2 : x = y → Wk l Z M md pc' L S w cu su Q) : Wk l Z M md pc L (.int y :: .int x :: S) w cu su Q :=
  fun en p e s m args below meth c T locs r X K hz hF hR hL => by
  obtain ⟨hd, rfl, h3, h4⟩ := hd
  by_cases q : x = y
  · exact (h2 q en p e s m args below meth c T locs r X K hz hF hR hL).pre (fun _ q => q) fun t k => XS.icmpNo X.here K.1 rfl (hb K.by hd) rfl (teq q).2 k
  · exact (h1 q en p e s m args below meth c T locs r X K hz hF hR hL).pre (fun _ q => q) fun t k => XS.icmpYes X.here K.1 rfl rfl (hb K.by hd) rfl (feq q).2 h3 h4 k
theorem Wk.if_ne {x : Int32} {o : Int} {pt : Nat} (hd : InsB md pc (.ifCond .ne o) 3 pc' o pt) (h1 : ¬ x = 0 → Wk l Z M md pt L S w cu su Q) (h2 : x = 0 → Wk l Z M md pc' L S w cu su Q) : Wk l Z M md pc L (.int x :: S) w cu su Q :=
  fun en p e s m args below meth c T locs r X K hz hF hR hL => by
  obtain ⟨hd, rfl, h3, h4⟩ := hd
  by_cases q : x = 0
  · exact (h2 q en p e s m args below meth c T locs r X K hz hF hR hL).pre (fun _ q => q) fun t k => XS.ifNo X.here K.1 rfl (hb K.by hd) rfl ((if0 _ _).trans (teq q).2) k
  · exact (h1 q en p e s m args below meth c T locs r X K hz hF hR hL).pre (fun _ q => q) fun t k => XS.ifYes X.here K.1 rfl rfl (hb K.by hd) rfl ((if0 _ _).trans (feq q).2) h3 h4 k
theorem Wk.tswIn {dflt low high o : Int} {offs : Array Int} {len pt : Nat} {x z : Int32} (hd : InsB md pc (.tableswitch dflt low high offs) len pc' o pt) (hx : x = z) (hin : ¬ (z.toInt < low ∨ z.toInt > high)) (hoff : offs[(z.toInt - low).toNat]? = some o) (h : Wk l Z M md pt L S w cu su Q) : Wk l Z M md pc L (.int x :: S) w cu su Q :=
  fun en p e s m args below meth c T locs r X K hz hF hR hL => by
  obtain ⟨hd, rfl, h3, h4⟩ := hd
  subst hx
  exact (h en p e s m args below meth c T locs r X K hz hF hR hL).pre (fun _ q => q) fun t k => XS.tswIn X.here K.1 rfl rfl (hb K.by hd) rfl hin hoff h3 h4 k
theorem Wk.tswOut {dflt low high : Int} {offs : Array Int} {len pt : Nat} {x : Int32} (hd : InsB md pc (.tableswitch dflt low high offs) len pc' dflt pt) (hout : x.toInt < low ∨ x.toInt > high) (h : Wk l Z M md pt L S w cu su Q) : Wk l Z M md pc L (.int x :: S) w cu su Q :=
  fun en p e s m args below meth c T locs r X K hz hF hR hL => by
  obtain ⟨hd, rfl, h3, h4⟩ := hd
  exact (h en p e s m args below meth c T locs r X K hz hF hR hL).pre (fun _ q => q) fun t k => XS.tswOut X.here K.1 rfl rfl (hb K.by hd) rfl hout h3 h4 k
theorem Wk.ldc {idx : Nat} {z : Int32} {a0 : Array Value} (hd : InsA md pc (.ldc idx) 2 pc') (wd : (Cond.constant M.own idx z).before a0 Z = true) (h : Wk l Z M md pc' L (.int z :: S) w cu su Q) : Wk l Z M md pc L S w cu su Q :=
  fun en p e s m args below meth c T locs r X K hz hF hR hL => by
  obtain ⟨hd, rfl⟩ := hd
  have hc : (Cond.constant M.own idx z).before args s = true := mvT K.2.1 wd
  exact (h en p e s m args below meth c T locs r X K hz hF hR hL).pre (fun _ q => q) fun t k => X.ldcInt K.1 K.2.2.1 hc (g := mkF m pc r (S.map (rv (M.rho en)))) rfl (hb K.by hd) t k
theorem Wk.ldcw {idx : Nat} {z : Int32} {a0 : Array Value} (hd : InsA md pc (.ldc_w idx) 3 pc') (wd : (Cond.constant M.own idx z).before a0 Z = true) (h : Wk l Z M md pc' L (.int z :: S) w cu su Q) : Wk l Z M md pc L S w cu su Q :=
  fun en p e s m args below meth c T locs r X K hz hF hR hL => by
  obtain ⟨hd, rfl⟩ := hd
  have hc : (Cond.constant M.own idx z).before args s = true := mvT K.2.1 wd
  exact (h en p e s m args below meth c T locs r X K hz hF hR hL).pre (fun _ q => q) fun t k => X.ldcwInt K.1 K.2.2.1 hc (g := mkF m pc r (S.map (rv (M.rho en)))) rfl (hb K.by hd) t k
theorem Wk.ldc2 {idx : Nat} {z : Int64} {a0 : Array Value} (hd : InsA md pc (.ldc2_w idx) 3 pc') (wd : (Cond.constantLong M.own idx z).before a0 Z = true) (h : Wk l Z M md pc' L (.long z :: S) w cu su Q) : Wk l Z M md pc L S w cu su Q :=
  fun en p e s m args below meth c T locs r X K hz hF hR hL => by
  obtain ⟨hd, rfl⟩ := hd
  have hc : (Cond.constantLong M.own idx z).before args s = true := mvT K.2.1 wd
  exact (h en p e s m args below meth c T locs r X K hz hF hR hL).pre (fun _ q => q) fun t k => X.ldc2Long K.1 K.2.2.1 hc (g := mkF m pc r (S.map (rv (M.rho en)))) rfl (hb K.by hd) t k
/-! returns -/
theorem Wk.ireturn {x : Int32} (hM : ∀ en h, M.frm en h h) (hret : rtOf md = some .int) (hd : InsA md pc .ireturn 1 pc') (hc : cu = exOf md) (hc2 : exOf md ≤ (rmOf md).cells) (hs : su ≤ (rmOf md).slots) (hq : Q (some (.int x)) w) : Wk l Z M md pc L (.int x :: S) w cu su Q :=
  fun en p e s m args below meth c T locs r X K hz hF hR hL => by
  subst hc
  have hr := K.2.2.2.2.1.trans hret
  exact ⟨T, locs, su, _, w, X, hc2, hs, hz, hF, hR, hM _ _, fun q => (by rw [hr] at q; cases q), fun ρ y e => (by cases e; rfl), hq, fun fs hf => retI X K.1 hr (hb K.by hd.1) hf⟩
theorem Wk.zreturn {x y : Int32} (hM : ∀ en h, M.frm en h h) (hret : rtOf md = some .boolean) (hd : InsA md pc .ireturn 1 pc') (hc : cu = exOf md) (hc2 : exOf md ≤ (rmOf md).cells) (hs : su ≤ (rmOf md).slots) (hy : nar .boolean x = y) (hq : Q (some (.int y)) w) : Wk l Z M md pc L (.int x :: S) w cu su Q :=
  fun en p e s m args below meth c T locs r X K hz hF hR hL => by
  subst hc hy
  have hr := K.2.2.2.2.1.trans hret
  exact ⟨T, locs, su, _, w, X, hc2, hs, hz, hF, hR, hM _ _, fun q => (by rw [hr] at q; cases q), fun ρ y e => (by cases e; rfl), hq, fun fs hf => retN X K.1 (t := .boolean) hr (by simp) (hb K.by hd.1) hf⟩
theorem Wk.lreturn {x : Int64} (hM : ∀ en h, M.frm en h h) (hret : rtOf md = some .long) (hd : InsA md pc .lreturn 1 pc') (hc : cu = exOf md) (hc2 : exOf md ≤ (rmOf md).cells) (hs : su ≤ (rmOf md).slots) (hq : Q (some (.long x)) w) : Wk l Z M md pc L [.long x] w cu su Q :=
  fun en p e s m args below meth c T locs r X K hz hF hR hL => by
  subst hc
  have hr := K.2.2.2.2.1.trans hret
  exact ⟨T, locs, su, _, w, X, hc2, hs, hz, hF, hR, hM _ _, fun q => (by rw [hr] at q; cases q), fun ρ y e => (by cases e; rfl), hq, fun fs hf => X.lreturnOut K.1 hr (hb K.by hd.1) hf⟩
theorem Wk.ret (hM : ∀ en h, M.frm en h h) (hret : rtOf md = none) (hd : InsA md pc .return_ 1 pc') (hc : cu = exOf md) (hc2 : exOf md ≤ (rmOf md).cells) (hs : su ≤ (rmOf md).slots) (hq : Q none w) : Wk l Z M md pc L [] w cu su Q :=
  fun en p e s m args below meth c T locs r X K hz hF hR hL => by
  subst hc
  have hr := K.2.2.2.2.1.trans hret
  exact ⟨T, locs, su, none, w, X, hc2, hs, hz, hF, hR, hM _ _, fun _ => rfl, fun ρ y e => (by cases e), hq, fun fs hf => X.returnOut K.1 hr (hb K.by hd.1) hf⟩
/-! a walk from the entry is a contract -/
theorem Wk.met (h : Wk l Z M md 0 L [] w 0 0 Q) (hp : plainName (nmOf md).cls = true) (ho : M.own = (nmOf md).cls) {en : E} {h0 : Heap} (hR : M.rel en w h0) (as : List Value) (hL : (argsToLocals as.toArray (mxOf md)).toList = L) (hw : wfL L = true) (ws : List Jvm.Cond) :
    MetFree l (nmOf md) (head1 (Jvm.Cond.code (nmOf md) (byOf md) (mxOf md) (rtOf md) :: ws) (rmOf md)) (fun a U => a = (as.map (rv (M.rho en))).toArray ∧ Z.Warmed39 U.vm ∧ U.heap = h0) (fun _ _ _ _ _ => True)
      (fun _ U o U' => ∃ v Lc, o = .returned v ∧ (∃ w', Q v w' ∧ M.rel en w' U'.heap ∧ M.frm en h0 U'.heap ∧ Fr (M.lo en) Lc ∧ U'.heap.size = h0.size + exOf md ∧ ∀ ρ x, v = some x → rv ρ x = x) ∧ FrameEnd U o U' Lc (rmOf md).cells (rmOf md).slots) := by
  refine MetFree.of_bodySF (plainFor_of_name hp) hisR ?_
  intro p e s m args below meth c s₁ Bd hml0 hP hK
  obtain ⟨rfl, hZ, hh⟩ := hP
  have hown : s.vm.findClass (nmOf md).cls = some m.cls := findClass_of_methodNamed Bd.named
  have hnm := (name_of_methodNamed Bd.named Bd.method).1
  have X0 : Stand p l e (rmOf md) s m (as.map (rv (M.rho en))).toArray below meth c s₁ [] 0 0 := Stand.of_body Bd
  have e0 : s₁.heap = s.heap := by rw [Bd.state]; rfl
  subst hh
  obtain ⟨T', locs', su', v, w', a1, a2, a3, a4, a5, a6, a7, a8, a9, a10, a11⟩ := h en p e s m _ below meth c s₁ [] _ X0 ⟨Bd.exec, hZ, by rw [ho]; exact hown, hnm, Bd.returns, BodyLoose.notSynchronized Bd, Bd.bytes, hml0⟩ (by rw [e0]; rfl) (Fr.nil _) (by rw [e0]; exact hR) (SR.entry (M.rho en) as (mxOf md) hL hw)
  obtain ⟨fs, hr, hrun, hended, hW, hsame⟩ := a1.leave (v := v) a8 (BodyLoose.notSynchronized Bd)
  rw [e0] at a7
  exact ⟨_, _, a11 fs hr, hrun, hended, v, locs', rfl, ⟨w', a10, a6, a7, a5, a4, a9⟩, ⟨_, rfl⟩, hW, hsame.mono a2 a3⟩
end Steps
end Jvm.Own

namespace Jvm.Own
open Jvm Jvm.ClassFile Sem Op Lib Jvm.Free Jvm.Stand Jvm.LawKit Jvm.RoadKit
/-! ## 3. One object of the project's class, with its arrays behind it -/
/-- how many arrays are made; the ints; the longs; the arrays of ints (and booleans); of longs -/
abbrev WO : Type := Nat × (Nat → Int32) × (Nat → Int64) × (Nat → Int32 → Int32) × (Nat → Int32 → Int64)
/-- the class; its fields of ints and booleans (number, name, descriptor); of longs; of arrays, in the order in which they are made -/
abbrev CD : Type := String × List (Nat × String × String) × List (Nat × String) × List (Nat × String × String × FieldType × Int32)
def ups {κ α : Type} [DecidableEq κ] (f : κ → α) (i : κ) (x : α) : κ → α := fun k => if k = i then x else f k
theorem ups_at {κ α : Type} [DecidableEq κ] (f : κ → α) (i : κ) (x : α) : ups f i x i = x := by simp [ups]
theorem ups_ne {κ α : Type} [DecidableEq κ] (f : κ → α) {i k : κ} (x : α) (h : k ≠ i) : ups f i x k = f k := by simp [ups, h]
def el : FieldType → Int32 → Int64 → Value
  | .long, _, j => .long j
  | _, i, _ => .int i
theorem el_int {ty : FieldType} (h : ty ≠ .long) (i : Int32) (j : Int64) : el ty i j = .int i := by cases ty <;> first | rfl | exact absurd rfl h
def AtA (Z : State) (h : Heap) (b : Addr) (ty : FieldType) (n : Int32) (f : Int32 → Int32) (g : Int32 → Int64) : Prop :=
  ∃ cl, Arr Z h b cl ty ∧ cl.slots.size = n.toNatClampNeg ∧ ∀ x : Int32, ¬ x < 0 → x < n → cl.slots[x.toNatClampNeg]? = some (el ty (f x) (g x))
def relC (Z : State) (cd : CD) (en : Nat × Nat) (w : WO) (h : Heap) : Prop :=
  en.2 ≤ en.1 ∧ Exa Z h en.1 cd.1 ∧ (∀ t ∈ cd.2.1, Fld Z h en.1 cd.1 t.2.1 t.2.2 (.int (w.2.1 t.1))) ∧ (∀ t ∈ cd.2.2.1, Fld Z h en.1 cd.1 t.2 "J" (.long (w.2.2.1 t.1))) ∧
  (∀ t ∈ cd.2.2.2, (t.1 < w.1 → Fld Z h en.1 cd.1 t.2.1 t.2.2.1 (.ref (en.1 + (t.1 + 1))) ∧ AtA Z h (en.1 + (t.1 + 1)) t.2.2.2.1 t.2.2.2.2 (w.2.2.2.1 t.1) (w.2.2.2.2 t.1)) ∧ (¬ t.1 < w.1 → Fld Z h en.1 cd.1 t.2.1 t.2.2.1 .null)) ∧
  (w.1 < cd.2.2.2.length → h.size = en.1 + 1 + w.1)
def frmC (cd : CD) (en : Nat × Nat) (h h' : Heap) : Prop := h.size ≤ h'.size ∧ ∀ (x : Nat) (c : Cell), h[x]? = some c → (x < en.1 ∨ en.1 + cd.2.2.2.length < x) → h'[x]? = some c
abbrev MoC (Z : State) (cd : CD) : Mode WO (Nat × Nat) := (cd.1, fun en k => en.1 + k, fun en => en.2, relC Z cd, frmC cd)
theorem nn {a b : Nat} (h : a ≠ b) : @Ne Addr a b := h
theorem frmC.refl (cd : CD) (en : Nat × Nat) (h : Heap) : frmC cd en h h := ⟨Nat.le_refl _, fun _ _ q _ => q⟩
theorem frmC.trans {cd : CD} {en : Nat × Nat} {h1 h2 h3 : Heap} (a : frmC cd en h1 h2) (b : frmC cd en h2 h3) : frmC cd en h1 h3 := ⟨Nat.le_trans a.1 b.1, fun x c q r => b.2 x c (a.2 x c q r) r⟩
theorem frmC.wr {cd : CD} {en : Nat × Nat} {h h' : Heap} {b : Nat} {sl : Nat} {v : Value} (W : Wr h h' b sl v) (h1 : en.1 ≤ b) (h2 : b ≤ en.1 + cd.2.2.2.length) : frmC cd en h h' := by
  refine ⟨Nat.le_of_eq W.size.symm, fun x c q r => ?_⟩
  obtain ⟨c', e1, -, -, -, e5, -⟩ := wr_at W q
  rw [← e5 (nn (by omega))]; exact e1
theorem frmC.ext {cd : CD} {en : Nat × Nat} {h h' : Heap} (E : Ext h h') : frmC cd en h h' := ⟨E.1, fun x c q _ => E.2 x c q⟩
def okC (cd : CD) : Prop :=
  (∀ t ∈ cd.2.1, ∀ t' ∈ cd.2.1, (t.1 = t'.1 → t = t') ∧ (t.1 ≠ t'.1 → t.2.1 ≠ t'.2.1)) ∧ (∀ t ∈ cd.2.2.1, ∀ t' ∈ cd.2.2.1, (t.1 = t'.1 → t = t') ∧ (t.1 ≠ t'.1 → t.2 ≠ t'.2)) ∧ (∀ t ∈ cd.2.2.2, ∀ t' ∈ cd.2.2.2, (t.1 = t'.1 → t = t') ∧ (t.1 ≠ t'.1 → t.2.1 ≠ t'.2.1)) ∧
  (∀ t ∈ cd.2.1, ∀ t' ∈ cd.2.2.1, t.2.1 ≠ t'.2) ∧ (∀ t ∈ cd.2.1, ∀ t' ∈ cd.2.2.2, t.2.1 ≠ t'.2.1) ∧ (∀ t ∈ cd.2.2.1, ∀ t' ∈ cd.2.2.2, t.2 ≠ t'.2.1) ∧
  (∀ t ∈ cd.2.1, parseFieldDescriptor t.2.2 = some .int ∨ parseFieldDescriptor t.2.2 = some .boolean) ∧
  (∀ t ∈ cd.2.2.2, parseFieldDescriptor t.2.2.1 = some (.array t.2.2.2.1) ∧ t.1 < cd.2.2.2.length ∧ (t.2.2.2.1 = .int ∨ t.2.2.2.1 = .boolean ∨ t.2.2.2.1 = .long) ∧ ¬ t.2.2.2.2 < 0)
/-- what the words say of the class -/
def CO (Z : State) (a0 : Array Value) (cd : CD) : Prop :=
  (∃ kk, (Cond.instantiable cd.1 kk).before a0 Z = true) ∧ (∀ t ∈ cd.2.1, Laid Z a0 cd.1 cd.1 t.2.1 t.2.2) ∧ (∀ t ∈ cd.2.2.1, Laid Z a0 cd.1 cd.1 t.2 "J") ∧ (∀ t ∈ cd.2.2.2, Laid Z a0 cd.1 cd.1 t.2.1 t.2.2.1) ∧ okC cd
theorem pJ : parseFieldDescriptor "J" = some .long := by decide +kernel
theorem snJ {Z : State} {a0 : Array Value} {C n n' d' : String} {t' : FieldType} (L : Laid Z a0 C C n "J") (L' : Laid Z a0 C C n' d') (hn : n ≠ n') (ht' : parseFieldDescriptor d' = some t') : Jvm.RoadKit.slotOf Z C n "J" ≠ Jvm.RoadKit.slotOf Z C n' d' := by
  have p := pJ
  generalize "J" = q at *
  exact slot_ne L L' hn p ht'
section Rel
variable {Z : State} {a0 : Array Value} {cd : CD} {en : Nat × Nat} {h h' : Heap} {k : Nat} {F : Nat → Int32} {G : Nat → Int64} {A : Nat → Int32 → Int32} {B : Nat → Int32 → Int64}
theorem pI (ok : CO Z a0 cd) {t : Nat × String × String} (ht : t ∈ cd.2.1) : ∃ ty, parseFieldDescriptor t.2.2 = some ty := by
  rcases ok.2.2.2.2.2.2.2.2.2.2.1 t ht with q | q <;> exact ⟨_, q⟩
theorem AtA.other {b b' : Addr} {ty : FieldType} {n : Int32} {f : Int32 → Int32} {g : Int32 → Int64} {sl : Nat} {v : Value} (W : Wr h h' b sl v) (H : AtA Z h b' ty n f g) (hne : b' ≠ b) : AtA Z h' b' ty n f g := by
  obtain ⟨cl, h1, h2, h3⟩ := H
  exact ⟨cl, h1.other W hne, h2, h3⟩
theorem AtA.ext {b' : Addr} {ty : FieldType} {n : Int32} {f : Int32 → Int32} {g : Int32 → Int64} (E : Ext h h') (H : AtA Z h b' ty n f g) : AtA Z h' b' ty n f g := by
  obtain ⟨cl, h1, h2, h3⟩ := H
  exact ⟨cl, h1.ext E, h2, h3⟩
theorem clamp_lt {x n : Int32} (h0 : ¬ x < 0) (h1 : x < n) : x.toNatClampNeg < n.toNatClampNeg := by
  simp only [Int32.lt_iff_toInt_lt, Int32.reduceToInt, Int32.toNatClampNeg] at *
  omega
theorem in_of {x n : Int32} {cl : Cell} (h2 : cl.slots.size = n.toNatClampNeg) (h0 : ¬ x < 0) (h1 : x < n) : ¬ (x < 0 ∨ cl.slots.size ≤ x.toNatClampNeg) := by
  have := clamp_lt h0 h1
  rintro (q | q)
  · exact h0 q
  · omega
theorem AtA.stI {b : Addr} {ty : FieldType} {n : Int32} {f : Int32 → Int32} {g : Int32 → Int64} {j x : Int32} (hty : ty ≠ .long) (h0 : ¬ j < 0) (h1 : j < n) (W : Wr h h' b j.toNatClampNeg (.int x)) (H : AtA Z h b ty n f g) : AtA Z h' b ty n (ups f j x) g := by
  obtain ⟨cl, g1, g2, g3⟩ := H
  refine ⟨_, g1.same W, by rw [sz_set]; exact g2, fun y y0 y1 => ?_⟩
  by_cases e : y = j
  · rw [get_hit (in_of g2 h0 h1) e, e, ups_at, el_int hty]
  · rw [get_miss h0 y0 e, ups_ne _ _ e]; exact g3 y y0 y1
theorem AtA.stJ {b : Addr} {n : Int32} {f : Int32 → Int32} {g : Int32 → Int64} {j : Int32} {x : Int64} (h0 : ¬ j < 0) (h1 : j < n) (W : Wr h h' b j.toNatClampNeg (.long x)) (H : AtA Z h b .long n f g) : AtA Z h' b .long n f (ups g j x) := by
  obtain ⟨cl, g1, g2, g3⟩ := H
  refine ⟨_, g1.same W, by rw [sz_set]; exact g2, fun y y0 y1 => ?_⟩
  by_cases e : y = j
  · rw [get_hit (in_of g2 h0 h1) e, e, ups_at]; rfl
  · rw [get_miss h0 y0 e, ups_ne _ _ e]; exact g3 y y0 y1
theorem relC.putI (ok : CO Z a0 cd) {i : Nat} {n d : String} {x : Int32} (hR : relC Z cd en (k, F, G, A, B) h) (ht : (i, n, d) ∈ cd.2.1) (W : Wr h h' en.1 (Jvm.RoadKit.slotOf Z cd.1 n d) (.int x)) : relC Z cd en (k, ups F i x, G, A, B) h' := by
  obtain ⟨r1, r2, r3, r4, r5, r6⟩ := hR
  obtain ⟨-, o2, o3, o4, q1, q2, q3, q4, q5, q6, q7, q8⟩ := ok
  obtain ⟨ty0, p0⟩ : ∃ ty, parseFieldDescriptor d = some ty := by rcases q7 _ ht with q | q <;> exact ⟨_, q⟩
  refine ⟨r1, r2.wr W, fun t m => ?_, fun t m => ?_, fun t m => ⟨fun hk => ?_, fun hk => ?_⟩, fun q => ?_⟩
  · obtain ⟨u1, u2⟩ := q1 _ m _ ht
    by_cases e : t.1 = i
    · have e2 := u1 e
      subst e2
      show Fld Z h' en.1 cd.1 n d (.int (ups F i x i))
      rw [ups_at]
      exact (r3 _ ht).same W
    · show Fld Z h' en.1 cd.1 _ _ (.int (ups F i x t.1))
      rw [ups_ne _ _ e]
      obtain ⟨ty1, p1⟩ : ∃ ty, parseFieldDescriptor t.2.2 = some ty := by rcases q7 _ m with q | q <;> exact ⟨_, q⟩
      have z0 := slot_ne (o2 _ m) (o2 _ ht) (u2 e) p1 p0
      exact (r3 t m).other W (Or.inr z0)
  · have e1 := o3 _ m
    have e2 := o2 _ ht
    have e3 := q4 _ ht _ m
    have e4 := snJ e1 e2 (Ne.symm e3) p0
    have e5 := r4 t m
    exact e5.other W (Or.inr e4)
  · obtain ⟨a1, a2⟩ := (r5 t m).1 hk
    have z0 := slot_ne (o4 _ m) (o2 _ ht) (Ne.symm (q5 _ ht _ m)) (q8 _ m).1 p0
    exact ⟨a1.other W (Or.inr z0), a2.other W (nn (by omega))⟩
  · have z0 := slot_ne (o4 _ m) (o2 _ ht) (Ne.symm (q5 _ ht _ m)) (q8 _ m).1 p0
    exact ((r5 t m).2 hk).other W (Or.inr z0)
  · rw [W.size]; exact r6 q
theorem relC.putJ (ok : CO Z a0 cd) {i : Nat} {n : String} {x : Int64} (hR : relC Z cd en (k, F, G, A, B) h) (ht : (i, n) ∈ cd.2.2.1) (W : Wr h h' en.1 (Jvm.RoadKit.slotOf Z cd.1 n "J") (.long x)) : relC Z cd en (k, F, ups G i x, A, B) h' := by
  obtain ⟨r1, r2, r3, r4, r5, r6⟩ := hR
  obtain ⟨-, o2, o3, o4, q1, q2, q3, q4, q5, q6, q7, q8⟩ := ok
  refine ⟨r1, r2.wr W, fun t m => ?_, fun t m => ?_, fun t m => ⟨fun hk => ?_, fun hk => ?_⟩, fun q => ?_⟩
  · obtain ⟨ty1, p1⟩ : ∃ ty, parseFieldDescriptor t.2.2 = some ty := by rcases q7 _ m with q | q <;> exact ⟨_, q⟩
    have z0 := Ne.symm (snJ (o3 _ ht) (o2 _ m) (Ne.symm (q4 _ m _ ht)) p1)
    exact (r3 t m).other W (Or.inr z0)
  · obtain ⟨u1, u2⟩ := q2 _ m _ ht
    by_cases e : t.1 = i
    · have e2 := u1 e
      subst e2
      show Fld Z h' en.1 cd.1 n "J" (.long (ups G i x i))
      rw [ups_at]
      exact (r4 _ ht).same W
    · show Fld Z h' en.1 cd.1 _ _ (.long (ups G i x t.1))
      rw [ups_ne _ _ e]
      have z0 := snJ (o3 _ m) (o3 _ ht) (u2 e) pJ
      exact (r4 t m).other W (Or.inr z0)
  · obtain ⟨a1, a2⟩ := (r5 t m).1 hk
    have z0 := Ne.symm (snJ (o3 _ ht) (o4 _ m) (q6 _ ht _ m) (q8 _ m).1)
    exact ⟨a1.other W (Or.inr z0), a2.other W (nn (by omega))⟩
  · have z0 := Ne.symm (snJ (o3 _ ht) (o4 _ m) (q6 _ ht _ m) (q8 _ m).1)
    exact ((r5 t m).2 hk).other W (Or.inr z0)
  · rw [W.size]; exact r6 q
theorem relC.stI (ok : CO Z a0 cd) {i : Nat} {n d : String} {ty : FieldType} {len j x : Int32} (hty : ty ≠ .long) (h0 : ¬ j < 0) (h1 : j < len) (hR : relC Z cd en (k, F, G, A, B) h) (ht : (i, n, d, ty, len) ∈ cd.2.2.2) (W : Wr h h' (en.1 + (i + 1)) j.toNatClampNeg (.int x)) : relC Z cd en (k, F, G, ups A i (ups (A i) j x), B) h' := by
  obtain ⟨r1, r2, r3, r4, r5, r6⟩ := hR
  obtain ⟨-, o2, o3, o4, q1, q2, q3, q4, q5, q6, q7, q8⟩ := ok
  refine ⟨r1, r2.wr W, fun t m => (r3 t m).other W (Or.inl (nn (by omega))), fun t m => (r4 t m).other W (Or.inl (nn (by omega))), fun t m => ⟨fun hk => ?_, fun hk => ((r5 t m).2 hk).other W (Or.inl (nn (by omega)))⟩, fun q => by rw [W.size]; exact r6 q⟩
  obtain ⟨a1, a2⟩ := (r5 t m).1 hk
  refine ⟨a1.other W (Or.inl (nn (by omega))), ?_⟩
  obtain ⟨u1, u2⟩ := q3 _ m _ ht
  show AtA Z h' _ _ _ (ups A i (ups (A i) j x) t.1) (B t.1)
  by_cases e : t.1 = i
  · have e2 := u1 e
    subst e2
    rw [ups_at]
    exact a2.stI hty h0 h1 W
  · rw [ups_ne _ _ e]
    exact a2.other W (nn (by omega))
theorem relC.stJ (ok : CO Z a0 cd) {i : Nat} {n d : String} {len j : Int32} {x : Int64} (h0 : ¬ j < 0) (h1 : j < len) (hR : relC Z cd en (k, F, G, A, B) h) (ht : (i, n, d, .long, len) ∈ cd.2.2.2) (W : Wr h h' (en.1 + (i + 1)) j.toNatClampNeg (.long x)) : relC Z cd en (k, F, G, A, ups B i (ups (B i) j x)) h' := by
  obtain ⟨r1, r2, r3, r4, r5, r6⟩ := hR
  obtain ⟨-, o2, o3, o4, q1, q2, q3, q4, q5, q6, q7, q8⟩ := ok
  refine ⟨r1, r2.wr W, fun t m => (r3 t m).other W (Or.inl (nn (by omega))), fun t m => (r4 t m).other W (Or.inl (nn (by omega))), fun t m => ⟨fun hk => ?_, fun hk => ((r5 t m).2 hk).other W (Or.inl (nn (by omega)))⟩, fun q => by rw [W.size]; exact r6 q⟩
  obtain ⟨a1, a2⟩ := (r5 t m).1 hk
  refine ⟨a1.other W (Or.inl (nn (by omega))), ?_⟩
  obtain ⟨u1, u2⟩ := q3 _ m _ ht
  show AtA Z h' _ _ _ (A t.1) (ups B i (ups (B i) j x) t.1)
  by_cases e : t.1 = i
  · have e2 := u1 e
    subst e2
    rw [ups_at]
    exact a2.stJ h0 h1 W
  · rw [ups_ne _ _ e]
    exact a2.other W (nn (by omega))
theorem relC.newA (ok : CO Z a0 cd) {h1 : Heap} {n d : String} {ty : FieldType} {len : Int32} {cA : ClassId} (hR : relC Z cd en (k, F, G, A, B) h) (ht : (k, n, d, ty, len) ∈ cd.2.2.2) (hA : A k = fun _ => 0) (hB : B k = fun _ => 0) (E : Ext h h1) (N : Arr Z h1 h.size (Jvm.RoadKit.newA cA ty len) ty) (W : Wr h1 h' en.1 (Jvm.RoadKit.slotOf Z cd.1 n d) (.ref h.size)) (hz : h'.size = h.size + 1) : relC Z cd en (k + 1, F, G, A, B) h' := by
  obtain ⟨r1, r2, r3, r4, r5, r6⟩ := hR
  obtain ⟨-, o2, o3, o4, q1, q2, q3, q4, q5, q6, q7, q8⟩ := ok
  have hsz : h.size = en.1 + 1 + k := r6 (q8 _ ht).2.1
  refine ⟨r1, (r2.ext E).wr W, fun t m => ?_, fun t m => ?_, fun t m => ⟨fun hk => ?_, fun hk => ?_⟩, fun q => ?_⟩
  · obtain ⟨ty1, p1⟩ : ∃ ty, parseFieldDescriptor t.2.2 = some ty := by rcases q7 _ m with q | q <;> exact ⟨_, q⟩
    have z0 := slot_ne (o2 _ m) (o4 _ ht) (q5 _ m _ ht) p1 (q8 _ ht).1
    exact ((r3 t m).ext E).other W (Or.inr z0)
  · have z0 := snJ (o3 _ m) (o4 _ ht) (q6 _ m _ ht) (q8 _ ht).1
    exact ((r4 t m).ext E).other W (Or.inr z0)
  · obtain ⟨u1, u2⟩ := q3 _ m _ ht
    by_cases e : t.1 = k
    · have e2 := u1 e
      subst e2
      have f0 := ((r5 _ ht).2 (Nat.lt_irrefl k)).ext E
      refine ⟨?_, ?_⟩
      · have := f0.same W
        rw [hsz] at this
        show Fld Z h' en.1 cd.1 n d (.ref (en.1 + (k + 1)))
        rw [show en.1 + (k + 1) = en.1 + 1 + k by omega]
        exact this
      · show AtA Z h' (en.1 + (k + 1)) ty len (A k) (B k)
        rw [hA, hB, show en.1 + (k + 1) = h.size by omega]
        refine AtA.other W ⟨_, N, sz_new _ _ _, fun x x0 x1 => ?_⟩ (nn (by omega))
        rw [get_new (in_of (cl := Jvm.RoadKit.newA cA ty len) (sz_new _ _ _) x0 x1 |> fun q => by rwa [sz_new] at q)]
        have o := (q8 _ ht).2.2.1
        rcases o with o | o | o <;> (have o' : ty = _ := o; subst o'; rfl)
    · obtain ⟨a1, a2⟩ := (r5 t m).1 (by show t.1 < k; have : t.1 < k + 1 := hk; omega)
      have z0 := slot_ne (o4 _ m) (o4 _ ht) (u2 e) (q8 _ m).1 (q8 _ ht).1
      exact ⟨(a1.ext E).other W (Or.inr z0), (a2.ext E).other W (nn (by omega))⟩
  · obtain ⟨u1, u2⟩ := q3 _ m _ ht
    have hk' : ¬ t.1 < k + 1 := hk
    have z0 := slot_ne (o4 _ m) (o4 _ ht) (u2 (by show t.1 ≠ k; omega)) (q8 _ m).1 (q8 _ ht).1
    exact (((r5 t m).2 (by show ¬ t.1 < k; omega)).ext E).other W (Or.inr z0)
  · show h'.size = en.1 + 1 + (k + 1)
    omega
end Rel
section StepsC
variable {l : Launch} {Z : State} {a0 : Array Value} {cd : CD} {md : MD} {pc pc' pc1 : Nat} {L L' : List Slot} {S : List Value} {k : Nat} {F : Nat → Int32} {G : Nat → Int64} {A : Nat → Int32 → Int32} {B : Nat → Int32 → Int64} {cu su cu' su' : Nat} {Q : Option Value → WO → Prop} {idx : Nat}
theorem Wk.getI {i : Nat} {n d : String} {x : Int32} (ht : (i, n, d) ∈ cd.2.1) (wl : (Cond.fieldLink cd.1 idx cd.1 n d).before a0 Z = true) (hd : InsA md pc (.getfield idx) 3 pc') (hx : F i = x) (h : Wk l Z (MoC Z cd) md pc' L (.int x :: S) (k, F, G, A, B) cu su Q) : Wk l Z (MoC Z cd) md pc L (.ref 0 :: S) (k, F, G, A, B) cu su Q :=
  fun en p e s m args below meth c T locs r X K hz hF hR hL => by
  obtain ⟨hd, rfl⟩ := hd
  subst hx
  obtain ⟨T1, X1, e1, st⟩ := getF X K.1 K.2.1 K.2.2.1 (host := "") (Or.inl wl) Via.refl rfl (hR.2.2.1 _ ht) (g := mkF m pc r (.ref en.1 :: S.map (rv ((MoC Z cd).rho en)))) rfl rfl (hb K.by hd)
  refine (h en p e s m args below meth c T1 locs r X1 K (by rw [e1]; exact hz) hF (by rw [e1]; exact hR) hL).pre (fun _ q => by rw [e1] at q; exact q) fun t q => st t q
theorem Wk.getJ {i : Nat} {n : String} {x : Int64} (ht : (i, n) ∈ cd.2.2.1) (wl : (Cond.fieldLink cd.1 idx cd.1 n "J").before a0 Z = true) (hd : InsA md pc (.getfield idx) 3 pc') (hx : G i = x) (h : Wk l Z (MoC Z cd) md pc' L (.long x :: S) (k, F, G, A, B) cu su Q) : Wk l Z (MoC Z cd) md pc L (.ref 0 :: S) (k, F, G, A, B) cu su Q :=
  fun en p e s m args below meth c T locs r X K hz hF hR hL => by
  obtain ⟨hd, rfl⟩ := hd
  subst hx
  obtain ⟨T1, X1, e1, st⟩ := getF X K.1 K.2.1 K.2.2.1 (host := "") (Or.inl wl) Via.refl rfl (hR.2.2.2.1 _ ht) (g := mkF m pc r (.ref en.1 :: S.map (rv ((MoC Z cd).rho en)))) rfl rfl (hb K.by hd)
  refine (h en p e s m args below meth c T1 locs r X1 K (by rw [e1]; exact hz) hF (by rw [e1]; exact hR) hL).pre (fun _ q => by rw [e1] at q; exact q) fun t q => st t q
theorem Wk.getA {i i' : Nat} {n d : String} {ty : FieldType} {len : Int32} (ht : (i, n, d, ty, len) ∈ cd.2.2.2) (hi : i < k) (hi' : i + 1 = i') (wl : (Cond.fieldLink cd.1 idx cd.1 n d).before a0 Z = true) (hd : InsA md pc (.getfield idx) 3 pc') (h : Wk l Z (MoC Z cd) md pc' L (.ref i' :: S) (k, F, G, A, B) cu su Q) : Wk l Z (MoC Z cd) md pc L (.ref 0 :: S) (k, F, G, A, B) cu su Q :=
  fun en p e s m args below meth c T locs r X K hz hF hR hL => by
  obtain ⟨hd, rfl⟩ := hd
  subst hi'
  obtain ⟨T1, X1, e1, st⟩ := getF X K.1 K.2.1 K.2.2.1 (host := "") (Or.inl wl) Via.refl rfl ((hR.2.2.2.2.1 _ ht).1 hi).1 (g := mkF m pc r (.ref en.1 :: S.map (rv ((MoC Z cd).rho en)))) rfl rfl (hb K.by hd)
  refine (h en p e s m args below meth c T1 locs r X1 K (by rw [e1]; exact hz) hF (by rw [e1]; exact hR) hL).pre (fun _ q => by rw [e1] at q; exact q) fun t q => st t q
theorem Wk.putI (ok : CO Z a0 cd) {i : Nat} {n : String} {x : Int32} (ht : (i, n, "I") ∈ cd.2.1) (wl : (Cond.fieldLink cd.1 idx cd.1 n "I").before a0 Z = true) (wy : (Cond.lays cd.1 cd.1 n "I").before a0 Z = true ∨ ((Cond.laysFinal cd.1 cd.1 n "I").before a0 Z = true ∧ (nmOf md).name = "<init>")) (hd : InsA md pc (.putfield idx) 3 pc') (h : Wk l Z (MoC Z cd) md pc' L S (k, ups F i x, G, A, B) cu su Q) : Wk l Z (MoC Z cd) md pc L (.int x :: .ref 0 :: S) (k, F, G, A, B) cu su Q :=
  fun en p e s m args below meth c T locs r X K hz hF hR hL => by
  obtain ⟨hd, rfl⟩ := hd
  obtain ⟨kk, wi⟩ := ok.1
  obtain ⟨T1, h1, X1, e1, W1, st⟩ := putF X K.1 K.2.1 K.2.2.1 (host := "") (Or.inl wl) Via.refl rfl (hR.2.2.1 _ ht) hR.2.1 (wy.imp id fun q => ⟨q.1, rfl, K.2.2.2.1.trans q.2⟩) wi (ty := .int) (v := .int x) (by decide +kernel) rfl rfl (g := mkF m pc r (.int x :: .ref en.1 :: S.map (rv ((MoC Z cd).rho en)))) rfl rfl (hb K.by hd)
  subst e1
  exact (h en p e s m args below meth c T1 _ r X1 K (by rw [W1.size]; exact hz) (Fr.snoc X1 hF hR.1) (relC.putI ok hR ht W1) hL).pre (fun _ q => (frmC.wr W1 (Nat.le_refl _) (Nat.le_add_right _ _)).trans q) fun t q => st t q
theorem Wk.putZ (ok : CO Z a0 cd) {i : Nat} {n : String} {x y : Int32} (hy : nar .boolean x = y) (ht : (i, n, "Z") ∈ cd.2.1) (wl : (Cond.fieldLink cd.1 idx cd.1 n "Z").before a0 Z = true) (wy : (Cond.lays cd.1 cd.1 n "Z").before a0 Z = true ∨ ((Cond.laysFinal cd.1 cd.1 n "Z").before a0 Z = true ∧ (nmOf md).name = "<init>")) (hd : InsA md pc (.putfield idx) 3 pc') (h : Wk l Z (MoC Z cd) md pc' L S (k, ups F i y, G, A, B) cu su Q) : Wk l Z (MoC Z cd) md pc L (.int x :: .ref 0 :: S) (k, F, G, A, B) cu su Q :=
  fun en p e s m args below meth c T locs r X K hz hF hR hL => by
  obtain ⟨hd, rfl⟩ := hd
  subst hy
  obtain ⟨kk, wi⟩ := ok.1
  obtain ⟨T1, h1, X1, e1, W1, st⟩ := putFN X K.1 K.2.1 K.2.2.1 wl Via.refl rfl (hR.2.2.1 _ ht) hR.2.1 (wy.imp id fun q => ⟨q.1, rfl, K.2.2.2.1.trans q.2⟩) wi (ty := .boolean) (v := .int x) (v' := .int (nar .boolean x)) (by decide +kernel) rfl (fits_nar_bool x) (g := mkF m pc r (.int x :: .ref en.1 :: S.map (rv ((MoC Z cd).rho en)))) rfl rfl (hb K.by hd)
  subst e1
  exact (h en p e s m args below meth c T1 _ r X1 K (by rw [W1.size]; exact hz) (Fr.snoc X1 hF hR.1) (relC.putI ok hR ht W1) hL).pre (fun _ q => (frmC.wr W1 (Nat.le_refl _) (Nat.le_add_right _ _)).trans q) fun t q => st t q
theorem Wk.putJ (ok : CO Z a0 cd) {i : Nat} {n : String} {x : Int64} (ht : (i, n) ∈ cd.2.2.1) (wl : (Cond.fieldLink cd.1 idx cd.1 n "J").before a0 Z = true) (wy : (Cond.lays cd.1 cd.1 n "J").before a0 Z = true ∨ ((Cond.laysFinal cd.1 cd.1 n "J").before a0 Z = true ∧ (nmOf md).name = "<init>")) (hd : InsA md pc (.putfield idx) 3 pc') (h : Wk l Z (MoC Z cd) md pc' L S (k, F, ups G i x, A, B) cu su Q) : Wk l Z (MoC Z cd) md pc L (.long x :: .ref 0 :: S) (k, F, G, A, B) cu su Q :=
  fun en p e s m args below meth c T locs r X K hz hF hR hL => by
  obtain ⟨hd, rfl⟩ := hd
  obtain ⟨kk, wi⟩ := ok.1
  obtain ⟨T1, h1, X1, e1, W1, st⟩ := putF X K.1 K.2.1 K.2.2.1 (host := "") (Or.inl wl) Via.refl rfl (hR.2.2.2.1 _ ht) hR.2.1 (wy.imp id fun q => ⟨q.1, rfl, K.2.2.2.1.trans q.2⟩) wi (ty := .long) (v := .long x) (by decide +kernel) rfl rfl (g := mkF m pc r (.long x :: .ref en.1 :: S.map (rv ((MoC Z cd).rho en)))) rfl rfl (hb K.by hd)
  subst e1
  exact (h en p e s m args below meth c T1 _ r X1 K (by rw [W1.size]; exact hz) (Fr.snoc X1 hF hR.1) (relC.putJ ok hR ht W1) hL).pre (fun _ q => (frmC.wr W1 (Nat.le_refl _) (Nat.le_add_right _ _)).trans q) fun t q => st t q
/-- an array is made and laid into its field at once -/
theorem Wk.newA (ok : CO Z a0 cd) {aty : ArrayType} {len : Int32} {n d : String} {ty : FieldType} {k' : Nat} (hty : newarray.typeOf aty = ty) (wa : (Cond.arrayClass (newarray.typeOf aty)).before a0 Z = true) (ht : (k, n, d, ty, len) ∈ cd.2.2.2) (wl : (Cond.fieldLink cd.1 idx cd.1 n d).before a0 Z = true)
    (wy : (Cond.lays cd.1 cd.1 n d).before a0 Z = true ∨ ((Cond.laysFinal cd.1 cd.1 n d).before a0 Z = true ∧ (nmOf md).name = "<init>")) (hd : InsA md pc (.newarray aty) 2 pc1) (hd2 : InsA md pc1 (.putfield idx) 3 pc') (hA : A k = fun _ => 0) (hB : B k = fun _ => 0) (hk : k + 1 = k') (hcu : cu + 1 = cu') (hsu : su + len.toNatClampNeg = su')
    (hcap : len.toNatClampNeg * 8 ≤ 536870912) (hc : cu' ≤ (rmOf md).cells) (hs : su' ≤ (rmOf md).slots) (h : Wk l Z (MoC Z cd) md pc' L S (k', F, G, A, B) cu' su' Q) : Wk l Z (MoC Z cd) md pc L (.int len :: .ref 0 :: S) (k, F, G, A, B) cu su Q :=
  fun en p e s m args below meth c T locs r X K hz hF hR hL => by
  obtain ⟨hd, rfl⟩ := hd
  obtain ⟨hd2, rfl⟩ := hd2
  subst hk hcu hsu hty
  obtain ⟨kk, wi⟩ := ok.1
  have p8 := ok.2.2.2.2.2.2.2.2.2.2.2 _ ht
  obtain ⟨T1, h1, cA, X1, e1, E1, N1, st1⟩ := newP X K.1 K.2.1 wa rfl (g := mkF m pc r (.int len :: .ref en.1 :: S.map (rv ((MoC Z cd).rho en)))) rfl (hb K.by hd) rfl p8.2.2.2 (cap := len.toNatClampNeg) (Nat.le_refl _) hcap hc hs
  subst e1
  obtain ⟨T2, h2, X2, e2, W2, st2⟩ := putF X1 K.1 K.2.1 K.2.2.1 (host := "") (Or.inl wl) Via.refl rfl (((hR.2.2.2.2.1 _ ht).2 (Nat.lt_irrefl k)).ext E1) (hR.2.1.ext E1) (wy.imp id fun q => ⟨q.1, rfl, K.2.2.2.1.trans q.2⟩) wi (v := .ref T.heap.size) p8.1 rfl rfl (g := mkF m (pc + 2) r (.ref T.heap.size :: .ref en.1 :: S.map (rv ((MoC Z cd).rho en)))) rfl rfl (hb K.by hd2)
  subst e2
  have z1 := X1.heapSize
  have z2 : (T.heap.size : Nat) < T1.heap.size := N1.lt
  have z3 := W2.size
  exact (h en p e s m args below meth c T2 _ r X2 K (by omega) (Fr.snoc X2 hF hR.1) (relC.newA ok hR ht hA hB E1 N1 W2 (by omega)) hL).pre (fun _ q => ((frmC.ext E1).trans (frmC.wr W2 (Nat.le_refl _) (Nat.le_add_right _ _))).trans q) fun t q => st1 t (st2 t q)
theorem relC.arr {en : Nat × Nat} {h : Heap} {i : Nat} {n d : String} {ty : FieldType} {len : Int32} (hR : relC Z cd en (k, F, G, A, B) h) (ht : (i, n, d, ty, len) ∈ cd.2.2.2) (hi : i < k) : AtA Z h (en.1 + (i + 1)) ty len (A i) (B i) := ((hR.2.2.2.2.1 _ ht).1 hi).2
theorem Wk.iaload {i i' : Nat} {n d : String} {len x : Int32} {y : Int32} (ht : (i, n, d, .int, len) ∈ cd.2.2.2) (hi : i < k) (hi' : i + 1 = i') (h0 : ¬ x < 0) (h1 : x < len) (hd : InsA md pc .iaload 1 pc') (hy : A i x = y) (h : Wk l Z (MoC Z cd) md pc' L (.int y :: S) (k, F, G, A, B) cu su Q) : Wk l Z (MoC Z cd) md pc L (.int x :: .ref i' :: S) (k, F, G, A, B) cu su Q :=
  fun en p e s m args below meth c T locs r X K hz hF hR hL => by
  obtain ⟨hd, rfl⟩ := hd
  subst hi' hy
  obtain ⟨cl, g1, g2, g3⟩ := relC.arr hR ht hi
  exact (h en p e s m args below meth c T locs r X K hz hF hR hL).pre (fun _ q => q) fun t q => X.iaload K.1 (j := x) (v := .int (A i x)) g1.1 (State.isArrayOf_alike K.2.1.alike g1.2.1) g1.2.2 (in_of g2 h0 h1) (g3 x h0 h1) (g := mkF m pc r (.int x :: .ref (en.1 + (i + 1)) :: S.map (rv ((MoC Z cd).rho en)))) rfl rfl (hb K.by hd) _ q
theorem Wk.baload {i i' : Nat} {n d : String} {len x : Int32} {y : Int32} (ht : (i, n, d, .boolean, len) ∈ cd.2.2.2) (hi : i < k) (hi' : i + 1 = i') (h0 : ¬ x < 0) (h1 : x < len) (hd : InsA md pc .baload 1 pc') (hy : A i x = y) (h : Wk l Z (MoC Z cd) md pc' L (.int y :: S) (k, F, G, A, B) cu su Q) : Wk l Z (MoC Z cd) md pc L (.int x :: .ref i' :: S) (k, F, G, A, B) cu su Q :=
  fun en p e s m args below meth c T locs r X K hz hF hR hL => by
  obtain ⟨hd, rfl⟩ := hd
  subst hi' hy
  obtain ⟨cl, g1, g2, g3⟩ := relC.arr hR ht hi
  exact (h en p e s m args below meth c T locs r X K hz hF hR hL).pre (fun _ q => q) fun t q => X.baloadBooleans K.1 (j := x) (v := .int (A i x)) g1.1 (State.isArrayOf_alike K.2.1.alike g1.2.1) g1.2.2 (in_of g2 h0 h1) (g3 x h0 h1) (g := mkF m pc r (.int x :: .ref (en.1 + (i + 1)) :: S.map (rv ((MoC Z cd).rho en)))) rfl rfl (hb K.by hd) _ q
theorem Wk.laload {i i' : Nat} {n d : String} {len x : Int32} {y : Int64} (ht : (i, n, d, .long, len) ∈ cd.2.2.2) (hi : i < k) (hi' : i + 1 = i') (h0 : ¬ x < 0) (h1 : x < len) (hd : InsA md pc .laload 1 pc') (hy : B i x = y) (h : Wk l Z (MoC Z cd) md pc' L (.long y :: S) (k, F, G, A, B) cu su Q) : Wk l Z (MoC Z cd) md pc L (.int x :: .ref i' :: S) (k, F, G, A, B) cu su Q :=
  fun en p e s m args below meth c T locs r X K hz hF hR hL => by
  obtain ⟨hd, rfl⟩ := hd
  subst hi' hy
  obtain ⟨cl, g1, g2, g3⟩ := relC.arr hR ht hi
  exact (h en p e s m args below meth c T locs r X K hz hF hR hL).pre (fun _ q => q) fun t q => X.laload K.1 (j := x) (v := .long (B i x)) g1.1 (State.isArrayOf_alike K.2.1.alike g1.2.1) g1.2.2 (in_of g2 h0 h1) (g3 x h0 h1) (g := mkF m pc r (.int x :: .ref (en.1 + (i + 1)) :: S.map (rv ((MoC Z cd).rho en)))) rfl rfl (hb K.by hd) _ q
theorem Wk.iastore (ok : CO Z a0 cd) {f : Int32 → Int32} {i i' : Nat} {n d : String} {len x v : Int32} (ht : (i, n, d, .int, len) ∈ cd.2.2.2) (hf : A i = f) (hi : i < k) (hi' : i + 1 = i') (h0 : ¬ x < 0) (h1 : x < len) (hd : InsA md pc .iastore 1 pc') (h : Wk l Z (MoC Z cd) md pc' L S (k, F, G, ups A i (ups f x v), B) cu su Q) : Wk l Z (MoC Z cd) md pc L (.int v :: .int x :: .ref i' :: S) (k, F, G, A, B) cu su Q :=
  fun en p e s m args below meth c T locs r X K hz hF hR hL => by
  obtain ⟨hd, rfl⟩ := hd
  subst hi' hf
  obtain ⟨cl, g1, g2, g3⟩ := relC.arr hR ht hi
  obtain ⟨T1, e1', X1, e1, W1, st⟩ := stI X K.1 K.2.1 rfl g1 (in_of g2 h0 h1) (g := mkF m pc r (.int v :: .int x :: .ref (en.1 + (i + 1)) :: S.map (rv ((MoC Z cd).rho en)))) rfl rfl (hb K.by hd)
  subst e1
  have p8 := (ok.2.2.2.2.2.2.2.2.2.2.2 _ ht).2.1
  exact (h en p e s m args below meth c T1 _ r X1 K (by rw [W1.size]; exact hz) (Fr.snoc X1 hF (Nat.le_trans hR.1 (Nat.le_add_right _ _))) (relC.stI ok (by decide) h0 h1 hR ht W1) hL).pre (fun _ q => (frmC.wr W1 (Nat.le_add_right _ _) (Nat.add_le_add_left (show i + 1 ≤ cd.2.2.2.length from p8) _)).trans q) fun t q => st t q
theorem Wk.bastore (ok : CO Z a0 cd) {f : Int32 → Int32} {i i' : Nat} {n d : String} {len x v v' : Int32} (hv : nar .boolean v = v') (ht : (i, n, d, .boolean, len) ∈ cd.2.2.2) (hf : A i = f) (hi : i < k) (hi' : i + 1 = i') (h0 : ¬ x < 0) (h1 : x < len) (hd : InsA md pc .bastore 1 pc') (h : Wk l Z (MoC Z cd) md pc' L S (k, F, G, ups A i (ups f x v'), B) cu su Q) : Wk l Z (MoC Z cd) md pc L (.int v :: .int x :: .ref i' :: S) (k, F, G, A, B) cu su Q :=
  fun en p e s m args below meth c T locs r X K hz hF hR hL => by
  obtain ⟨hd, rfl⟩ := hd
  subst hi' hv hf
  obtain ⟨cl, g1, g2, g3⟩ := relC.arr hR ht hi
  obtain ⟨T1, e1', X1, e1, W1, st⟩ := stZ X K.1 K.2.1 rfl g1 (in_of g2 h0 h1) (g := mkF m pc r (.int v :: .int x :: .ref (en.1 + (i + 1)) :: S.map (rv ((MoC Z cd).rho en)))) rfl rfl (hb K.by hd)
  subst e1
  have p8 := (ok.2.2.2.2.2.2.2.2.2.2.2 _ ht).2.1
  exact (h en p e s m args below meth c T1 _ r X1 K (by rw [W1.size]; exact hz) (Fr.snoc X1 hF (Nat.le_trans hR.1 (Nat.le_add_right _ _))) (relC.stI ok (by decide) h0 h1 hR ht W1) hL).pre (fun _ q => (frmC.wr W1 (Nat.le_add_right _ _) (Nat.add_le_add_left (show i + 1 ≤ cd.2.2.2.length from p8) _)).trans q) fun t q => st t q
theorem Wk.lastore (ok : CO Z a0 cd) {f : Int32 → Int64} {i i' : Nat} {n d : String} {len x : Int32} {v : Int64} (ht : (i, n, d, .long, len) ∈ cd.2.2.2) (hf : B i = f) (hi : i < k) (hi' : i + 1 = i') (h0 : ¬ x < 0) (h1 : x < len) (hd : InsA md pc .lastore 1 pc') (h : Wk l Z (MoC Z cd) md pc' L S (k, F, G, A, ups B i (ups f x v)) cu su Q) : Wk l Z (MoC Z cd) md pc L (.long v :: .int x :: .ref i' :: S) (k, F, G, A, B) cu su Q :=
  fun en p e s m args below meth c T locs r X K hz hF hR hL => by
  obtain ⟨hd, rfl⟩ := hd
  subst hi' hf
  obtain ⟨cl, g1, g2, g3⟩ := relC.arr hR ht hi
  obtain ⟨T1, e1', X1, e1, W1, st⟩ := stJ X K.1 K.2.1 rfl g1 (in_of g2 h0 h1) (g := mkF m pc r (.long v :: .int x :: .ref (en.1 + (i + 1)) :: S.map (rv ((MoC Z cd).rho en)))) rfl rfl (hb K.by hd)
  subst e1
  have p8 := (ok.2.2.2.2.2.2.2.2.2.2.2 _ ht).2.1
  exact (h en p e s m args below meth c T1 _ r X1 K (by rw [W1.size]; exact hz) (Fr.snoc X1 hF (Nat.le_trans hR.1 (Nat.le_add_right _ _))) (relC.stJ ok h0 h1 hR ht W1) hL).pre (fun _ q => (frmC.wr W1 (Nat.le_add_right _ _) (Nat.add_le_add_left (show i + 1 ≤ cd.2.2.2.length from p8) _)).trans q) fun t q => st t q
/-- Object.<init> -/
theorem Wk.initO {μ E : Type} {M : Mode μ E} {w : μ} {Q : Option Value → μ → Prop} {v : Nat} (w1 : (Cond.methodLink M.own idx Lib.objectInit).before a0 Z = true) (w2 : (Cond.instanceMethod Lib.objectInit).before a0 Z = true) (w3 : (Cond.code Lib.objectInit ⟨#[0xb1]⟩ 1 none).before a0 Z = true) (hd : InsA md pc (.invokespecial idx) 3 pc') (hl : L.length = mxOf md) (hf : 1 ≤ (rmOf md).frames) (hW : (S.map fun v => v.category).sum + 12 ≤ (rmOf md).locals)
    (h : Wk l Z M md pc' L S w cu su Q) : Wk l Z M md pc L (.ref v :: S) w cu su Q :=
  fun en p e s m args below meth c T locs r X K hz hF hR hL => by
  obtain ⟨hd, rfl⟩ := hd
  have cs : ∀ S : List Value, ((S.map (rv (M.rho en))).map fun v => v.category).sum = (S.map fun v => v.category).sum := fun S => by rw [List.map_map]; congr 1; exact List.map_congr_left fun v _ => rv_cat _ v
  obtain ⟨T1, X1, e1, st⟩ := Jvm.RoadKit.initO X K.1 K.2.1 K.2.2.1 w1 w2 w3 rfl (g := mkF m pc r (.ref (M.rho en v) :: S.map (rv (M.rho en)))) rfl (by show r.size = _; rw [hL.1, hl]; exact K.2.2.2.2.2.2.2.symm) rfl (hb K.by hd) hf (W := (S.map fun v => v.category).sum) (by show 2 * 0 + _ ≤ _; rw [cs]; omega) hW
  exact (h en p e s m args below meth c T1 locs r X1 K (by rw [e1]; exact hz) hF (by rw [e1]; exact hR) hL).pre (fun _ q => by rw [e1] at q; exact q) fun t q => st t q
end StepsC
end Jvm.Own

namespace Jvm.Own
open Jvm Jvm.ClassFile Sem Op Lib Jvm.Free Jvm.Stand Jvm.LawKit Jvm.RoadKit
/-! ## 4. Calls -/
def noRef : List Value → Bool
  | [] => true
  | .ref _ :: _ => false
  | _ :: t => noRef t
theorem noRef.map : (as : List Value) → noRef as = true → ∀ ρ, as.map (rv ρ) = as
  | [], _, _ => rfl
  | .ref _ :: _, h, _ => by cases h
  | .int _ :: t, h, ρ => by rw [List.map_cons, noRef.map t h ρ]; rfl
  | .long _ :: t, h, ρ => by rw [List.map_cons, noRef.map t h ρ]; rfl
  | .float _ :: t, h, ρ => by rw [List.map_cons, noRef.map t h ρ]; rfl
  | .double _ :: t, h, ρ => by rw [List.map_cons, noRef.map t h ρ]; rfl
  | .null :: t, h, ρ => by rw [List.map_cons, noRef.map t h ρ]; rfl
  | .retAddr _ :: t, h, ρ => by rw [List.map_cons, noRef.map t h ρ]; rfl
/-- what the words say of a callee: an instance method -/
def CalV (Z : State) (a0 : Array Value) (md : MD) (n : Nat) : Prop :=
  plainName (nmOf md).cls = true ∧ ((nmOf md).cls ≠ "java/lang/invoke/MethodHandle" ∧ (nmOf md).cls ≠ "java/lang/invoke/VarHandle") ∧ (∀ sig, parseMethodDescriptor (nmOf md).desc = some sig → n = sig.parameters.length) ∧
  (Cond.instanceMethod (nmOf md)).before a0 Z = true ∧ (Cond.code (nmOf md) (byOf md) (mxOf md) (rtOf md)).before a0 Z = true ∧ (Cond.initialized (nmOf md).cls).before a0 Z = true ∧
  (((Cond.declares (nmOf md)).before a0 Z = true ∧ (Cond.selects (nmOf md).cls (nmOf md) (nmOf md)).before a0 Z = true) ∨ ((Cond.privateMethod (nmOf md)).before a0 Z = true ∧ ∃ kk, (Cond.instantiable (nmOf md).cls kk).before a0 Z = true))
/-- a constructor -/
def CalI (Z : State) (a0 : Array Value) (md : MD) (n : Nat) : Prop :=
  plainName (nmOf md).cls = true ∧ ((nmOf md).cls ≠ "java/lang/invoke/MethodHandle" ∧ (nmOf md).cls ≠ "java/lang/invoke/VarHandle") ∧ (∀ sig, parseMethodDescriptor (nmOf md).desc = some sig → n = sig.parameters.length) ∧
  (Cond.instanceMethod (nmOf md)).before a0 Z = true ∧ (Cond.code (nmOf md) (byOf md) (mxOf md) (rtOf md)).before a0 Z = true ∧ (Cond.initialized (nmOf md).cls).before a0 Z = true ∧ (nmOf md).name = "<init>" ∧ rtOf md = none
/-- a static method -/
def CalS (Z : State) (a0 : Array Value) (md : MD) (n : Nat) : Prop :=
  plainName (nmOf md).cls = true ∧ ((nmOf md).cls ≠ "java/lang/invoke/MethodHandle" ∧ (nmOf md).cls ≠ "java/lang/invoke/VarHandle") ∧ (∀ sig, parseMethodDescriptor (nmOf md).desc = some sig → n = sig.parameters.length) ∧
  (Cond.static (nmOf md)).before a0 Z = true ∧ (Cond.code (nmOf md) (byOf md) (mxOf md) (rtOf md)).before a0 Z = true ∧ (Cond.initialized (nmOf md).cls).before a0 Z = true
/-- the figures of a call: the operands under it weigh wt -/
def Fits (md md' : MD) (wt cu su cu' su' : Nat) : Prop :=
  (rmOf md').frames + 1 ≤ (rmOf md).frames ∧ wt + (mxOf md' + 11) + (rmOf md').locals ≤ (rmOf md).locals ∧ cu + (rmOf md').cells = cu' ∧ su + (rmOf md').slots = su' ∧ cu' ≤ (rmOf md).cells ∧ su' ≤ (rmOf md).slots ∧ exOf md' = (rmOf md').cells
instance (md md' : MD) (wt cu su cu' su' : Nat) : Decidable (Fits md md' wt cu su cu' su') := by unfold Fits; infer_instance
section Core
variable {μ E : Type} {l : Launch} {Z : State} {a0 : Array Value} {M' : Mode μ E} {md md' : MD} {own : String} {p : Program} {e : Env} {s : State} {m : MethodId} {args : Array Value} {below : List Frame} {meth : Method} {c : Code} {T : State} {locs : List Loc} {cu su cu' su' wt pc idx : Nat} {as : List Value} {L' : List Slot} {w : μ} {Q' : Option Value → μ → Prop} {en : E} {a : Addr} {r : Array Slot} {rest : List Value}
theorem coreV (X : Stand p l e (rmOf md) s m args below meth c T locs cu su) (K : Kn Z own md p s m meth c) (hd : decode (byOf md) pc = .ok (.invokevirtual idx, 3)) (wl : (Cond.methodLink own idx (nmOf md')).before a0 Z = true) (cv : CalV Z a0 md' as.length) (hcal : Wk l Z M' md' 0 L' [] w 0 0 Q') (ho : M'.own = (nmOf md').cls) (hR : M'.rel en w T.heap) (hE : Exa Z T.heap a (nmOf md').cls) (ha : M'.rho en 0 = a)
    (hL : (argsToLocals (.ref 0 :: as).toArray (mxOf md')).toList = L') (hw : wfL L' = true) (ft : Fits md md' wt cu su cu' su') (hr : r.size = mxOf md) (hrest : (rest.map fun v => v.category).sum ≤ wt) :
    ∃ v T1 Lc w1, Stand p l e (rmOf md) s m args below meth c T1 (locs ++ Lc) cu' su' ∧ Q' v w1 ∧ M'.rel en w1 T1.heap ∧ M'.frm en T.heap T1.heap ∧ Fr (M'.lo en) Lc ∧ T1.heap.size = T.heap.size + exOf md' ∧ (∀ ρ x, v = some x → rv ρ x = x) ∧
      ∀ t, Steps p.tables e below (T1.setTop (mkF m (pc + 3) r (v.toList ++ rest))) t → Steps p.tables e below (T.setTop (mkF m pc r ((as.map (rv (M'.rho en))).reverse ++ .ref a :: rest))) t := by
  obtain ⟨v1, v2, v3, v4, v5, v6, v7⟩ := cv
  obtain ⟨f1, f2, f3, f4, f5, f6, f7⟩ := ft
  subst f3 f4 ha
  obtain ⟨hx, hZ, hown, -, -, -, hby, hml⟩ := K
  have bk := backOf (s := s) (args := args) (p := p) (e := e) (below := below) (len := 3) (W := wt) (R := rmOf md) (Q := fun v hh Lc => ∃ w', Q' v w' ∧ M'.rel en w' hh ∧ M'.frm en T.heap hh ∧ Fr (M'.lo en) Lc ∧ hh.size = T.heap.size + exOf md' ∧ ∀ ρ x, v = some x → rv ρ x = x) (hcal.met v1 ho hR (.ref 0 :: as) hL hw []) hZ v5 v6 f1 f2
  have hlen : ∀ sig, parseMethodDescriptor (nmOf md').desc = some sig → (as.map (rv (M'.rho en))).length = sig.parameters.length := fun sig q => by rw [List.length_map]; exact v3 sig q
  rcases v7 with ⟨d1, d2⟩ | ⟨d1, kk, d2⟩
  · obtain ⟨cq, kq, qa, qb, qc⟩ := isOf (T := T) hZ rfl hE
    obtain ⟨v, _, ⟨T1, L1, k1, n1⟩, -, X1, ⟨Lc, hQ, l1, y1, z1⟩, st⟩ := X.virtualBack hx (y := nmOf md') (z := nmOf md') hown (mvT hZ wl) (mvT hZ d1) (notFace_of_selects (args := #[]) (mvT hZ d2)) (mvT hZ d2) (mvT hZ v4) v2 bk qa qc (g := mkF m pc r ((as.map (rv (M'.rho en))).reverse ++ .ref (M'.rho en 0) :: rest)) rfl (hr.trans hml.symm) (Steps.refl _) (argsL := as.map (rv (M'.rho en))) (rest := rest) hlen rfl (by show 2 * 0 + _ ≤ _; omega) (hb hby hd) (fun _ _ => ⟨rfl, rfl, f5, f6⟩)
    dsimp only [Pt.U, Pt.locs, Pt.cells, Pt.slots] at X1 l1 y1 z1 st hQ
    subst l1 y1 z1
    obtain ⟨w1, q1, q2, q3, q4, q5, q6⟩ := hQ
    exact ⟨v, T1, Lc, w1, X1, q1, q2, q3, q4, q5, q6, fun t q => st.trans q⟩
  · obtain ⟨cc, kc, i1, i2, i3, i4, -⟩ := Cond.instantiable_spec (mvT (s := s) (args := #[]) hZ d2)
    have hni : kc.isInterface = false := by cases hq : kc.isInterface <;> simp [hq] at i4 ⊢
    have pv : s.PrivateAt (nmOf md') := Cond.privateMethod_at (mvP hZ d1 (args := #[]))
    have sel : (Cond.selects (nmOf md').cls (nmOf md') (nmOf md')).before args s = true := selects_self_of_private i1 i2 hni pv (mvT hZ v4) v2
    obtain ⟨cq, q7, q7'⟩ := hE.cell
    obtain ⟨v, _, ⟨T1, L1, k1, n1⟩, -, X1, ⟨Lc, hQ, l1, y1, z1⟩, st⟩ := X.privateBack hx (y := nmOf md') hown (mvT hZ wl) (mvT hZ v4) sel pv (mvT hZ v5) v2 bk (g := mkF m pc r ((as.map (rv (M'.rho en))).reverse ++ .ref (M'.rho en 0) :: rest)) rfl (hr.trans hml.symm) (Steps.refl _) (a := M'.rho en 0) q7 q7' (argsL := as.map (rv (M'.rho en))) (rest := rest) hlen rfl (by show 2 * 0 + _ ≤ _; omega) (hb hby hd) (fun _ _ => ⟨rfl, rfl, f5, f6⟩)
    dsimp only [Pt.U, Pt.locs, Pt.cells, Pt.slots] at X1 l1 y1 z1 st hQ
    subst l1 y1 z1
    obtain ⟨w1, q1, q2, q3, q4, q5, q6⟩ := hQ
    exact ⟨v, T1, Lc, w1, X1, q1, q2, q3, q4, q5, q6, fun t q => st.trans q⟩
theorem coreI (X : Stand p l e (rmOf md) s m args below meth c T locs cu su) (K : Kn Z own md p s m meth c) (hd : decode (byOf md) pc = .ok (.invokespecial idx, 3)) (wl : (Cond.methodLink own idx (nmOf md')).before a0 Z = true) (cv : CalI Z a0 md' as.length) (hcal : Wk l Z M' md' 0 L' [] w 0 0 Q') (ho : M'.own = (nmOf md').cls) (hR : M'.rel en w T.heap) (ha : M'.rho en 0 = a)
    (hL : (argsToLocals (.ref 0 :: as).toArray (mxOf md')).toList = L') (hw : wfL L' = true) (ft : Fits md md' wt cu su cu' su') (hr : r.size = mxOf md) (hrest : (rest.map fun v => v.category).sum ≤ wt) :
    ∃ v T1 Lc w1, Stand p l e (rmOf md) s m args below meth c T1 (locs ++ Lc) cu' su' ∧ Q' v w1 ∧ M'.rel en w1 T1.heap ∧ M'.frm en T.heap T1.heap ∧ Fr (M'.lo en) Lc ∧ T1.heap.size = T.heap.size + exOf md' ∧ (∀ ρ x, v = some x → rv ρ x = x) ∧
      ∀ t, Steps p.tables e below (T1.setTop (mkF m (pc + 3) r (v.toList ++ rest))) t → Steps p.tables e below (T.setTop (mkF m pc r ((as.map (rv (M'.rho en))).reverse ++ .ref a :: rest))) t := by
  obtain ⟨v1, v2, v3, v4, v5, v6, v7, v8⟩ := cv
  obtain ⟨f1, f2, f3, f4, f5, f6, f7⟩ := ft
  subst f3 f4 ha
  obtain ⟨hx, hZ, hown, -, -, -, hby, hml⟩ := K
  have bk := backOf (s := s) (args := args) (p := p) (e := e) (below := below) (len := 3) (W := wt) (R := rmOf md) (Q := fun v hh Lc => ∃ w', Q' v w' ∧ M'.rel en w' hh ∧ M'.frm en T.heap hh ∧ Fr (M'.lo en) Lc ∧ hh.size = T.heap.size + exOf md' ∧ ∀ ρ x, v = some x → rv ρ x = x) (hcal.met v1 ho hR (.ref 0 :: as) hL hw []) hZ v5 v6 f1 f2
  have hlen : ∀ sig, parseMethodDescriptor (nmOf md').desc = some sig → (as.map (rv (M'.rho en))).length = sig.parameters.length := fun sig q => by rw [List.length_map]; exact v3 sig q
  rw [v8] at v5
  obtain ⟨v, _, ⟨T1, L1, k1, n1⟩, -, X1, ⟨Lc, hQ, l1, y1, z1⟩, st⟩ := X.specialBack hx (y := nmOf md') v7 hown (mvT hZ wl) (mvT hZ v4) (mvT hZ v5) v2 bk (g := mkF m pc r ((as.map (rv (M'.rho en))).reverse ++ .ref (M'.rho en 0) :: rest)) rfl (hr.trans hml.symm) (Steps.refl _) (a := M'.rho en 0) (argsL := as.map (rv (M'.rho en))) (rest := rest) hlen rfl (by show 2 * 0 + _ ≤ _; omega) (hb hby hd) (fun _ _ => ⟨rfl, rfl, f5, f6⟩)
  dsimp only [Pt.U, Pt.locs, Pt.cells, Pt.slots] at X1 l1 y1 z1 st hQ
  subst l1 y1 z1
  obtain ⟨w1, q1, q2, q3, q4, q5, q6⟩ := hQ
  exact ⟨v, T1, Lc, w1, X1, q1, q2, q3, q4, q5, q6, fun t q => st.trans q⟩
theorem coreS (X : Stand p l e (rmOf md) s m args below meth c T locs cu su) (K : Kn Z own md p s m meth c) (hd : decode (byOf md) pc = .ok (.invokestatic idx, 3)) (wl : (Cond.methodLink own idx (nmOf md')).before a0 Z = true) (cv : CalS Z a0 md' as.length) (hcal : Wk l Z M' md' 0 L' [] w 0 0 Q') (ho : M'.own = (nmOf md').cls) (hR : M'.rel en w T.heap)
    (hL : (argsToLocals as.toArray (mxOf md')).toList = L') (hw : wfL L' = true) (ft : Fits md md' wt cu su cu' su') (hr : r.size = mxOf md) (hrest : (rest.map fun v => v.category).sum ≤ wt) :
    ∃ v T1 Lc w1, Stand p l e (rmOf md) s m args below meth c T1 (locs ++ Lc) cu' su' ∧ Q' v w1 ∧ M'.rel en w1 T1.heap ∧ M'.frm en T.heap T1.heap ∧ Fr (M'.lo en) Lc ∧ T1.heap.size = T.heap.size + exOf md' ∧ (∀ ρ x, v = some x → rv ρ x = x) ∧
      ∀ t, Steps p.tables e below (T1.setTop (mkF m (pc + 3) r (v.toList ++ rest))) t → Steps p.tables e below (T.setTop (mkF m pc r ((as.map (rv (M'.rho en))).reverse ++ rest))) t := by
  obtain ⟨v1, v2, v3, v4, v5, v6⟩ := cv
  obtain ⟨f1, f2, f3, f4, f5, f6, f7⟩ := ft
  subst f3 f4
  obtain ⟨hx, hZ, hown, -, -, -, hby, hml⟩ := K
  have bk := backOf (s := s) (args := args) (p := p) (e := e) (below := below) (len := 3) (W := wt) (R := rmOf md) (Q := fun v hh Lc => ∃ w', Q' v w' ∧ M'.rel en w' hh ∧ M'.frm en T.heap hh ∧ Fr (M'.lo en) Lc ∧ hh.size = T.heap.size + exOf md' ∧ ∀ ρ x, v = some x → rv ρ x = x) (hcal.met v1 ho hR as hL hw []) hZ v5 v6 f1 f2
  have hlen : ∀ sig, parseMethodDescriptor (nmOf md').desc = some sig → (as.map (rv (M'.rho en))).length = sig.parameters.length := fun sig q => by rw [List.length_map]; exact v3 sig q
  obtain ⟨v, _, ⟨T1, L1, k1, n1⟩, -, X1, ⟨Lc, hQ, l1, y1, z1⟩, st⟩ := Jvm.LawKit.callS X hx (y := nmOf md') hown (mvT hZ wl) (mvT hZ v4) (mvT hZ v6) (mvT hZ v5) v2 bk (g := mkF m pc r ((as.map (rv (M'.rho en))).reverse ++ rest)) rfl (hr.trans hml.symm) (argsL := as.map (rv (M'.rho en))) (rest := rest) hlen rfl (by show 2 * 0 + _ ≤ _; omega) (hb hby hd) (fun _ _ => ⟨rfl, rfl, f5, f6⟩)
  dsimp only [Pt.U, Pt.locs, Pt.cells, Pt.slots] at X1 l1 y1 z1 st hQ
  subst l1 y1 z1
  obtain ⟨w1, q1, q2, q3, q4, q5, q6⟩ := hQ
  exact ⟨v, T1, Lc, w1, X1, q1, q2, q3, q4, q5, q6, fun t q => st t q⟩
end Core
theorem cat_map (ρ : Nat → Addr) (S : List Value) : ((S.map (rv ρ)).map fun v => v.category).sum = (S.map fun v => v.category).sum := by
  rw [List.map_map]; congr 1; exact List.map_congr_left fun v _ => rv_cat _ v
theorem res_map {ρ : Nat → Addr} {v : Option Value} (h : ∀ ρ x, v = some x → rv ρ x = x) (S : List Value) : (v.toList ++ S).map (rv ρ) = v.toList ++ S.map (rv ρ) := by
  cases v with
  | none => rfl
  | some x => simp [h ρ x rfl]
section CallsC
variable {l : Launch} {Z : State} {a0 : Array Value} {cd : CD} {md md' : MD} {pc pc' wt idx : Nat} {L L' : List Slot} {S stk as : List Value} {w : WO} {cu su cu' su' : Nat} {Q Q' : Option Value → WO → Prop}
/-- a method of the same object -/
theorem Wk.callC (as : List Value) (S : List Value) (hs : stk = as.reverse ++ .ref 0 :: S) (wl : (Cond.methodLink cd.1 idx (nmOf md')).before a0 Z = true) (cv : CalV Z a0 md' as.length) (hc : (nmOf md').cls = cd.1) (nr : noRef as = true) (hcal : Wk l Z (MoC Z cd) md' 0 L' [] w 0 0 Q') (hL' : (argsToLocals (.ref 0 :: as).toArray (mxOf md')).toList = L') (hw : wfL L' = true) (hl : L.length = mxOf md)
    (hwt : (S.map fun v => v.category).sum = wt) (ft : Fits md md' wt cu su cu' su') (hd : InsA md pc (.invokevirtual idx) 3 pc') (h : ∀ v w', Q' v w' → Wk l Z (MoC Z cd) md pc' L (v.toList ++ S) w' cu' su' Q) : Wk l Z (MoC Z cd) md pc L stk w cu su Q :=
  fun en p e s m args below meth c T locs r X K hz hF hR hL => by
  obtain ⟨hd, rfl⟩ := hd
  subst hs
  obtain ⟨v, T1, Lc, w1, X1, q1, q2, q3, q4, q5, q6, st⟩ := coreV (M' := MoC Z cd) (en := en) (r := r) (rest := S.map (rv ((MoC Z cd).rho en))) X K hd wl cv hcal hc.symm hR (by rw [hc]; exact hR.2.1) rfl hL' hw ft (hL.1.trans hl) (by rw [cat_map]; omega)
  have f7 := ft.2.2.1
  have f8 := ft.2.2.2.2.2.2
  have em : (as.reverse ++ .ref 0 :: S).map (rv ((MoC Z cd).rho en)) = (as.map (rv ((MoC Z cd).rho en))).reverse ++ .ref ((MoC Z cd).rho en 0) :: S.map (rv ((MoC Z cd).rho en)) := by rw [List.map_append, List.map_reverse]; rfl
  have D := h v w1 q1 en p e s m args below meth c T1 _ r X1 K (by omega) (hF.app q4) q2 hL
  rw [res_map q6] at D
  rw [em]
  exact D.pre (fun _ q => frmC.trans q3 q) st
end CallsC
section CallsS
variable {μ E : Type} {l : Launch} {Z : State} {a0 : Array Value} {M : Mode μ E} {md md' : MD} {pc pc' wt idx : Nat} {L L' : List Slot} {S stk as : List Value} {w : μ} {cu su cu' su' : Nat} {Q Q' : Option Value → μ → Prop}
/-- a static method, in the same mode -/
theorem Wk.callS (hM : ∀ en h1 h2 h3, M.frm en h1 h2 → M.frm en h2 h3 → M.frm en h1 h3) (as : List Value) (S : List Value) (hs : stk = as.reverse ++ S) (wl : (Cond.methodLink M.own idx (nmOf md')).before a0 Z = true) (cv : CalS Z a0 md' as.length) (hc : (nmOf md').cls = M.own) (hcal : Wk l Z M md' 0 L' [] w 0 0 Q') (hL' : (argsToLocals as.toArray (mxOf md')).toList = L') (hw : wfL L' = true) (hl : L.length = mxOf md)
    (hwt : (S.map fun v => v.category).sum = wt) (ft : Fits md md' wt cu su cu' su') (hd : InsA md pc (.invokestatic idx) 3 pc') (h : ∀ v w', Q' v w' → Wk l Z M md pc' L (v.toList ++ S) w' cu' su' Q) : Wk l Z M md pc L stk w cu su Q :=
  fun en p e s m args below meth c T locs r X K hz hF hR hL => by
  obtain ⟨hd, rfl⟩ := hd
  subst hs
  obtain ⟨v, T1, Lc, w1, X1, q1, q2, q3, q4, q5, q6, st⟩ := coreS (M' := M) (en := en) (r := r) (rest := S.map (rv (M.rho en))) X K hd wl cv hcal hc.symm hR hL' hw ft (hL.1.trans hl) (by rw [cat_map]; omega)
  have f7 := ft.2.2.1
  have f8 := ft.2.2.2.2.2.2
  have em : (as.reverse ++ S).map (rv (M.rho en)) = (as.map (rv (M.rho en))).reverse ++ S.map (rv (M.rho en)) := by rw [List.map_append, List.map_reverse]
  have D := h v w1 q1 en p e s m args below meth c T1 _ r X1 K (by omega) (hF.app q4) q2 hL
  rw [res_map q6] at D
  rw [em]
  exact D.pre (fun _ q => hM _ _ _ _ q3 q) st
end CallsS
/-! ## 5. The law's own level: a script of ints (or none) and some objects, made one behind the other -/
abbrev WL : Type := Int32 × (Int32 → Int32) × List WO
def w0 : WO := (0, fun _ => 0, fun _ => 0, fun _ _ => 0, fun _ _ => 0)
def rhoL (cd : CD) (en : Nat × Nat) : Nat → Addr
  | 0 => en.2
  | i + 1 => en.1 + i * (cd.2.2.2.length + 1)
def relL (Z : State) (cd : CD) (sc : Bool) (en : Nat × Nat) (w : WL) (h : Heap) : Prop :=
  (sc = true → en.2 < en.1 ∧ ¬ w.1 < 0 ∧ AtA Z h en.2 .int w.1 w.2.1 (fun _ => 0)) ∧ (∀ i x, w.2.2[i]? = some x → relC Z cd (en.1 + i * (cd.2.2.2.length + 1), en.1) x h) ∧ h.size = en.1 + (w.2.2.map fun x => x.1 + 1).sum
abbrev MoL (Z : State) (cd : CD) (own : String) (sc : Bool) : Mode WL (Nat × Nat) := (own, rhoL cd, fun en => en.1, relL Z cd sc, fun _ _ _ => True)
def allK (n : Nat) : List WO → Prop
  | [] => True
  | x :: t => x.1 = n ∧ allK n t
theorem allK.get {n : Nat} : (ws : List WO) → allK n ws → ∀ (i : Nat) (x : WO), ws[i]? = some x → x.1 = n
  | [], _, i, x, h => by simp at h
  | y :: t, h, i, x, e => by
    cases i with
    | zero => simp at e; rw [← e]; exact h.1
    | succ i => exact allK.get t h.2 i x (by simpa using e)
theorem allK.sum {n : Nat} : {ws : List WO} → allK n ws → (ws.map fun x => x.1 + 1).sum = ws.length * (n + 1)
  | [], _ => by simp
  | y :: t, h => by rw [List.map_cons, List.sum_cons, allK.sum (ws := t) h.2, h.1, List.length_cons, Nat.add_mul]; omega
theorem sum_set : (ws : List WO) → (i : Nat) → (x y : WO) → ws[i]? = some x → ((ws.set i y).map fun x => x.1 + 1).sum + x.1 = (ws.map fun x => x.1 + 1).sum + y.1
  | [], i, x, y, h => by simp at h
  | z :: t, 0, x, y, h => by simp at h; subst h; simp; omega
  | z :: t, i + 1, x, y, h => by have := sum_set t i x y (by simpa using h); simp only [List.set_cons_succ, List.map_cons, List.sum_cons]; omega
section Keep
variable {Z : State} {cd : CD} {en : Nat × Nat} {h h' : Heap} {w : WO}
theorem Fld.cells {a : Addr} {C n d : String} {v : Value} (H : Fld Z h a C n d v) (q : ∀ c, h[a]? = some c → h'[a]? = some c) : Fld Z h' a C n d v := by
  obtain ⟨cell, cf, k, i, f, h1, r⟩ := H; exact ⟨cell, cf, k, i, f, q _ h1, r⟩
theorem Exa.cells {a : Addr} {C : String} (H : Exa Z h a C) (q : ∀ c, h[a]? = some c → h'[a]? = some c) : Exa Z h' a C := by
  obtain ⟨cell, k, h1, r⟩ := H; exact ⟨cell, k, q _ h1, r⟩
theorem AtA.cells {b : Addr} {ty : FieldType} {n : Int32} {f : Int32 → Int32} {g : Int32 → Int64} (H : AtA Z h b ty n f g) (q : ∀ c, h[b]? = some c → h'[b]? = some c) : AtA Z h' b ty n f g := by
  obtain ⟨cl, h1, r⟩ := H; exact ⟨cl, ⟨q _ h1.1, h1.2⟩, r⟩
theorem relC.cells (okA : ∀ t ∈ cd.2.2.2, t.1 < cd.2.2.2.length) (hR : relC Z cd en w h) (hk : w.1 = cd.2.2.2.length) (q : ∀ x c, en.1 ≤ x → x ≤ en.1 + cd.2.2.2.length → h[x]? = some c → h'[x]? = some c) : relC Z cd en w h' := by
  obtain ⟨r1, r2, r3, r4, r5, r6⟩ := hR
  have q0 := fun c => q en.1 c (Nat.le_refl _) (Nat.le_add_right _ _)
  refine ⟨r1, Exa.cells r2 q0, fun t m => Fld.cells (r3 t m) q0, fun t m => Fld.cells (r4 t m) q0, fun t m => ⟨fun k => ⟨Fld.cells ((r5 t m).1 k).1 q0, AtA.cells ((r5 t m).1 k).2 fun c => q _ c (Nat.le_add_right _ _) (by have := okA t m; omega)⟩, fun k => Fld.cells ((r5 t m).2 k) q0⟩, fun k => absurd k (by omega)⟩
end Keep
theorem apart {N i j n x : Nat} (hne : j ≠ i) (h1 : n + j * (N + 1) ≤ x) (h2 : x ≤ n + j * (N + 1) + N) : x < n + i * (N + 1) ∨ n + i * (N + 1) + N < x := by
  rcases Nat.lt_or_gt_of_ne hne with q | q
  · left
    have := Nat.mul_le_mul_right (N + 1) (show j + 1 ≤ i from q)
    rw [Nat.add_mul] at this
    omega
  · right
    have := Nat.mul_le_mul_right (N + 1) (show i + 1 ≤ j from q)
    rw [Nat.add_mul] at this
    omega
/-- one object's walk, seen from the law's level -/
theorem relL.step {Z : State} {cd : CD} {sc : Bool} {en : Nat × Nat} {sl : Int32} {sv : Int32 → Int32} {ws : List WO} {h h' : Heap} {i : Nat} {x y : WO} (okA : ∀ t ∈ cd.2.2.2, t.1 < cd.2.2.2.length) (hR : relL Z cd sc en (sl, sv, ws) h) (hi : ws[i]? = some x) (hoth : ∀ j z, ws[j]? = some z → j ≠ i → z.1 = cd.2.2.2.length)
    (hy : relC Z cd (en.1 + i * (cd.2.2.2.length + 1), en.1) y h') (hf : frmC cd (en.1 + i * (cd.2.2.2.length + 1), en.1) h h') (hz : h'.size + x.1 = h.size + y.1) : relL Z cd sc en (sl, sv, ws.set i y) h' := by
  obtain ⟨r1, r2, r3⟩ := hR
  refine ⟨fun q => ?_, fun j z hj => ?_, ?_⟩
  · obtain ⟨a1, a2, a3⟩ := r1 q
    refine ⟨a1, a2, AtA.cells a3 fun c hc => hf.2 _ c hc (Or.inl ?_)⟩
    show en.2 < en.1 + i * (cd.2.2.2.length + 1)
    omega
  · have hj' : (ws.set i y)[j]? = some z := hj
    rw [List.getElem?_set] at hj'
    by_cases e : i = j
    · subst e
      have : i < ws.length := (List.getElem?_eq_some_iff.mp hi).1
      simp [this] at hj'
      subst hj'
      exact hy
    · rw [if_neg e] at hj'
      exact relC.cells okA (r2 j z hj') (hoth j z hj' (Ne.symm e)) fun a c h1 h2 hc => hf.2 a c hc (apart (Ne.symm e) h1 h2)
  · have s1 := sum_set ws i x y hi
    have s2 : h.size = en.1 + (ws.map fun x => x.1 + 1).sum := r3
    show h'.size = en.1 + ((ws.set i y).map fun x => x.1 + 1).sum
    omega
section StepsL
variable {l : Launch} {Z : State} {a0 : Array Value} {cd : CD} {own : String} {sc : Bool} {md md' : MD} {pc pc' wt idx : Nat} {L L' : List Slot} {S stk as : List Value} {sl : Int32} {sv : Int32 → Int32} {ws ws' : List WO} {cu su cu' su' : Nat} {Q : Option Value → WL → Prop} {Q' : Option Value → WO → Prop}
theorem Wk.lenL (hd : InsA md pc .arraylength 1 pc') (h : Wk l Z (MoL Z cd own true) md pc' L (.int sl :: S) (sl, sv, ws) cu su Q) : Wk l Z (MoL Z cd own true) md pc L (.ref 0 :: S) (sl, sv, ws) cu su Q :=
  fun en p e s m args below meth c T locs r X K hz hF hR hL => by
  obtain ⟨hd, rfl⟩ := hd
  obtain ⟨a1, a2, cl, g1, g2, g3⟩ := hR.1 rfl
  have e1 : cl.slots.size.toInt32 = sl := by rw [g2]; exact (back32 a2).1
  refine (h en p e s m args below meth c T locs r X K hz hF hR hL).pre (fun _ q => q) fun t q => X.arraylength K.1 g1.1 (State.isArrayOf_alike K.2.1.alike g1.2.1) (g := mkF m pc r (.ref en.2 :: S.map (rv (rhoL cd en)))) rfl rfl (hb K.by hd) _ (by rw [e1]; exact q)
theorem Wk.ialoadL {x : Int32} (h0 : ¬ x < 0) (h1 : x < sl) (hd : InsA md pc .iaload 1 pc') (h : Wk l Z (MoL Z cd own true) md pc' L (.int (sv x) :: S) (sl, sv, ws) cu su Q) : Wk l Z (MoL Z cd own true) md pc L (.int x :: .ref 0 :: S) (sl, sv, ws) cu su Q :=
  fun en p e s m args below meth c T locs r X K hz hF hR hL => by
  obtain ⟨hd, rfl⟩ := hd
  obtain ⟨a1, a2, cl, g1, g2, g3⟩ := hR.1 rfl
  exact (h en p e s m args below meth c T locs r X K hz hF hR hL).pre (fun _ q => q) fun t q => X.iaload K.1 (j := x) (v := .int (sv x)) g1.1 (State.isArrayOf_alike K.2.1.alike g1.2.1) g1.2.2 (in_of g2 h0 h1) (g3 x h0 h1) (g := mkF m pc r (.int x :: .ref en.2 :: S.map (rv (rhoL cd en)))) rfl rfl (hb K.by hd) _ q
theorem Wk.newL (ok : CO Z a0 cd) {kk i' : Nat} (wc : (Cond.classLink own idx cd.1).before a0 Z = true) (wi : (Cond.instantiable cd.1 kk).before a0 Z = true) (wz : (Cond.initialized cd.1).before a0 Z = true) (hd : InsA md pc (.new idx) 3 pc') (hall : allK cd.2.2.2.length ws) (hi : ws.length + 1 = i') (hws : ws ++ [w0] = ws') (hcu : cu + 1 = cu') (hsu : su + kk = su') (hc : cu' ≤ (rmOf md).cells) (hs : su' ≤ (rmOf md).slots)
    (h : Wk l Z (MoL Z cd own sc) md pc' L (.ref i' :: S) (sl, sv, ws') cu' su' Q) : Wk l Z (MoL Z cd own sc) md pc L S (sl, sv, ws) cu su Q :=
  fun en p e s m args below meth c T locs r X K hz hF hR hL => by
  obtain ⟨hd, rfl⟩ := hd
  subst hi hws hcu hsu
  obtain ⟨T1, h1, X1, e1, E1, A1, D1, -, st⟩ := newO X K.1 K.2.1 K.2.2.1 wc wi wz rfl (g := mkF m pc r (S.map (rv (rhoL cd en)))) rfl (hb K.by hd) hc hs
  subst e1
  obtain ⟨r1, r2, r3⟩ := hR
  have r3' : T.heap.size = en.1 + (ws.map fun x => x.1 + 1).sum := r3
  have sm := hall.sum
  have z1 := X1.heapSize
  have z2 : (T.heap.size : Nat) < T1.heap.size := A1.lt
  have ea : T.heap.size = en.1 + ws.length * (cd.2.2.2.length + 1) := by rw [r3', sm]
  have okp := ok.2.2.2.2
  obtain ⟨q1, q2, q3, q4, q5, q6, q7, q8⟩ := okp
  have rel1 : relL Z cd sc en (sl, sv, ws ++ [w0]) T1.heap := by
    refine ⟨fun q => ⟨(r1 q).1, (r1 q).2.1, (r1 q).2.2.ext E1⟩, fun j z hj => ?_, ?_⟩
    · have hj' : (ws ++ [w0])[j]? = some z := hj
      by_cases e : j < ws.length
      · rw [List.getElem?_append_left e] at hj'
        exact relC.cells (fun t m => (q8 t m).2.1) (r2 j z hj') (allK.get _ hall _ _ hj') fun a c _ _ hc => E1.2 a c hc
      · have e2 : j = ws.length := by
          have := (List.getElem?_eq_some_iff.mp hj').1
          simp at this; omega
        subst e2
        simp at hj'
        subst hj'
        rw [← ea]
        refine ⟨by show en.1 ≤ T.heap.size; omega, A1, fun t m => ?_, fun t m => ?_, fun t m => ⟨fun k => absurd k (Nat.not_lt_zero _), fun _ => ?_⟩, fun _ => by show T1.heap.size = T.heap.size + 1 + 0; omega⟩
        · rcases q7 t m with q | q
          · exact D1 (ok.2.1 t m) q
          · exact D1 (ok.2.1 t m) q
        · exact D1 (ok.2.2.1 t m) pJ
        · exact D1 (ok.2.2.2.1 t m) (q8 t m).1
    · show T1.heap.size = en.1 + ((ws ++ [w0]).map fun x => x.1 + 1).sum
      rw [List.map_append, List.sum_append]
      show T1.heap.size = en.1 + ((ws.map fun x => x.1 + 1).sum + 1)
      omega
  refine (h en p e s m args below meth c T1 locs r X1 K (by omega) hF rel1 hL).pre (fun _ _ => trivial) fun t q => st t ?_
  rw [ea]
  exact q
theorem Wk.callLC (ok : CO Z a0 cd) (as : List Value) (i : Nat) (S : List Value) {i' : Nat} {x : WO} (hi' : i + 1 = i') (hs : stk = as.reverse ++ .ref i' :: S) (hx : ws[i]? = some x) (hoth : allK cd.2.2.2.length (ws.eraseIdx i)) (wl : (Cond.methodLink own idx (nmOf md')).before a0 Z = true) (cv : CalV Z a0 md' as.length) (hc : (nmOf md').cls = cd.1) (nr : noRef as = true) (hcal : Wk l Z (MoC Z cd) md' 0 L' [] x 0 0 Q') (hL' : (argsToLocals (.ref 0 :: as).toArray (mxOf md')).toList = L') (hw : wfL L' = true) (hl : L.length = mxOf md)
    (hwt : (S.map fun v => v.category).sum = wt) (ft : Fits md md' wt cu su cu' su') (hd : InsA md pc (.invokevirtual idx) 3 pc') (hk : ∀ v y, Q' v y → y.1 = x.1 + exOf md') (h : ∀ v y, Q' v y → Wk l Z (MoL Z cd own sc) md pc' L (v.toList ++ S) (sl, sv, ws.set i y) cu' su' Q) : Wk l Z (MoL Z cd own sc) md pc L stk (sl, sv, ws) cu su Q :=
  fun en p e s m args below meth c T locs r X K hz hF hR hL => by
  obtain ⟨hd, rfl⟩ := hd
  subst hs hi'
  have rx := hR.2.1 i x hx
  obtain ⟨v, T1, Lc, w1, X1, p1, p2, p3, p4, p5, p6, st⟩ := coreV (M' := MoC Z cd) (en := (en.1 + i * (cd.2.2.2.length + 1), en.1)) (r := r) (rest := S.map (rv (rhoL cd en))) X K hd wl cv hcal hc.symm rx (by rw [hc]; exact rx.2.1) rfl hL' hw ft (hL.1.trans hl) (by rw [cat_map]; omega)
  have f7 := ft.2.2.1
  have f8 := ft.2.2.2.2.2.2
  have em : (as.reverse ++ .ref (i + 1) :: S).map (rv (rhoL cd en)) = (as.map (rv ((MoC Z cd).rho (en.1 + i * (cd.2.2.2.length + 1), en.1)))).reverse ++ .ref ((MoC Z cd).rho (en.1 + i * (cd.2.2.2.length + 1), en.1) 0) :: S.map (rv (rhoL cd en)) := by
    rw [List.map_append, List.map_reverse, noRef.map as nr, noRef.map as nr]; rfl
  have oth : ∀ j z, ws[j]? = some z → j ≠ i → z.1 = cd.2.2.2.length := by
    intro j z hj hne
    by_cases e : j < i
    · exact allK.get _ hoth j z (by rw [List.getElem?_eraseIdx]; simp [e, hj])
    · refine allK.get _ hoth (j - 1) z ?_
      rw [List.getElem?_eraseIdx, if_neg (by omega), show j - 1 + 1 = j by omega]; exact hj
  have hkk := hk v w1 p1
  have okA : ∀ t ∈ cd.2.2.2, t.1 < cd.2.2.2.length := fun t m => (ok.2.2.2.2.2.2.2.2.2.2.2 t m).2.1
  have D := h v w1 p1 en p e s m args below meth c T1 _ r X1 K (by omega) (hF.app p4) (relL.step okA hR hx oth p2 p3 (by omega)) hL
  rw [res_map p6] at D
  show Done _ _ _ _ _ _ _ _ _ _ _ _ _ _ (mkF m pc r ((as.reverse ++ .ref (i + 1) :: S).map (rv (rhoL cd en))))
  rw [em]
  exact D.pre (fun _ _ => trivial) st
theorem Wk.ctorL (ok : CO Z a0 cd) (as : List Value) (i : Nat) (S : List Value) {i' : Nat} {x : WO} (hi' : i + 1 = i') (hs : stk = as.reverse ++ .ref i' :: S) (hx : ws[i]? = some x) (hoth : allK cd.2.2.2.length (ws.eraseIdx i)) (wl : (Cond.methodLink own idx (nmOf md')).before a0 Z = true) (cv : CalI Z a0 md' as.length) (hc : (nmOf md').cls = cd.1) (nr : noRef as = true) (hcal : Wk l Z (MoC Z cd) md' 0 L' [] x 0 0 Q') (hL' : (argsToLocals (.ref 0 :: as).toArray (mxOf md')).toList = L') (hw : wfL L' = true) (hl : L.length = mxOf md)
    (hwt : (S.map fun v => v.category).sum = wt) (ft : Fits md md' wt cu su cu' su') (hd : InsA md pc (.invokespecial idx) 3 pc') (hk : ∀ v y, Q' v y → y.1 = x.1 + exOf md') (h : ∀ v y, Q' v y → Wk l Z (MoL Z cd own sc) md pc' L (v.toList ++ S) (sl, sv, ws.set i y) cu' su' Q) : Wk l Z (MoL Z cd own sc) md pc L stk (sl, sv, ws) cu su Q :=
  fun en p e s m args below meth c T locs r X K hz hF hR hL => by
  obtain ⟨hd, rfl⟩ := hd
  subst hs hi'
  have rx := hR.2.1 i x hx
  obtain ⟨v, T1, Lc, w1, X1, p1, p2, p3, p4, p5, p6, st⟩ := coreI (M' := MoC Z cd) (en := (en.1 + i * (cd.2.2.2.length + 1), en.1)) (r := r) (rest := S.map (rv (rhoL cd en))) X K hd wl cv hcal hc.symm rx rfl hL' hw ft (hL.1.trans hl) (by rw [cat_map]; omega)
  have f7 := ft.2.2.1
  have f8 := ft.2.2.2.2.2.2
  have em : (as.reverse ++ .ref (i + 1) :: S).map (rv (rhoL cd en)) = (as.map (rv ((MoC Z cd).rho (en.1 + i * (cd.2.2.2.length + 1), en.1)))).reverse ++ .ref ((MoC Z cd).rho (en.1 + i * (cd.2.2.2.length + 1), en.1) 0) :: S.map (rv (rhoL cd en)) := by
    rw [List.map_append, List.map_reverse, noRef.map as nr, noRef.map as nr]; rfl
  have oth : ∀ j z, ws[j]? = some z → j ≠ i → z.1 = cd.2.2.2.length := by
    intro j z hj hne
    by_cases e : j < i
    · exact allK.get _ hoth j z (by rw [List.getElem?_eraseIdx]; simp [e, hj])
    · refine allK.get _ hoth (j - 1) z ?_
      rw [List.getElem?_eraseIdx, if_neg (by omega), show j - 1 + 1 = j by omega]; exact hj
  have hkk := hk v w1 p1
  have okA : ∀ t ∈ cd.2.2.2, t.1 < cd.2.2.2.length := fun t m => (ok.2.2.2.2.2.2.2.2.2.2.2 t m).2.1
  have D := h v w1 p1 en p e s m args below meth c T1 _ r X1 K (by omega) (hF.app p4) (relL.step okA hR hx oth p2 p3 (by omega)) hL
  rw [res_map p6] at D
  show Done _ _ _ _ _ _ _ _ _ _ _ _ _ _ (mkF m pc r ((as.reverse ++ .ref (i + 1) :: S).map (rv (rhoL cd en))))
  rw [em]
  exact D.pre (fun _ _ => trivial) st
end StepsL
end Jvm.Own

namespace Jvm.Own
open Jvm Jvm.ClassFile Sem Op Lib Jvm.Free Jvm.Stand Jvm.LawKit Jvm.RoadKit
/-- the class's list of fields, looked at -/
def okB (cd : CD) : Bool :=
  cd.2.1.all (fun (t : Nat × String × String) => cd.2.1.all fun t' => if t.1 = t'.1 then decide (t = t') else t.2.1 != t'.2.1) && cd.2.2.1.all (fun (t : Nat × String) => cd.2.2.1.all fun t' => if t.1 = t'.1 then decide (t = t') else t.2 != t'.2) && cd.2.2.2.all (fun (t : Nat × String × String × FieldType × Int32) => cd.2.2.2.all fun t' => if t.1 = t'.1 then decide (t = t') else t.2.1 != t'.2.1) &&
  cd.2.1.all (fun (t : Nat × String × String) => cd.2.2.1.all fun (t' : Nat × String) => t.2.1 != t'.2) && cd.2.1.all (fun (t : Nat × String × String) => cd.2.2.2.all fun (t' : Nat × String × String × FieldType × Int32) => t.2.1 != t'.2.1) && cd.2.2.1.all (fun (t : Nat × String) => cd.2.2.2.all fun (t' : Nat × String × String × FieldType × Int32) => t.2 != t'.2.1) &&
  cd.2.1.all (fun (t : Nat × String × String) => decide (parseFieldDescriptor t.2.2 = some .int) || decide (parseFieldDescriptor t.2.2 = some .boolean)) &&
  cd.2.2.2.all (fun (t : Nat × String × String × FieldType × Int32) => decide (parseFieldDescriptor t.2.2.1 = some (.array t.2.2.2.1)) && decide (t.1 < cd.2.2.2.length) && (decide (t.2.2.2.1 = .int) || decide (t.2.2.2.1 = .boolean) || decide (t.2.2.2.1 = .long)) && !decide (t.2.2.2.2 < 0))
theorem pair_of {α : Type} {L : List α} {f : α → Nat} {g : α → String} [DecidableEq α] (h : L.all (fun t => L.all fun t' => if f t = f t' then decide (t = t') else g t != g t') = true) : ∀ t ∈ L, ∀ t' ∈ L, (f t = f t' → t = t') ∧ (f t ≠ f t' → g t ≠ g t') := by
  intro t m t' m'
  have q := List.all_eq_true.mp (List.all_eq_true.mp h t m) t' m'
  constructor
  · intro e; rw [if_pos e] at q; exact of_decide_eq_true q
  · intro e; rw [if_neg e] at q; simpa using q
theorem apart_of {α β : Type} {L : List α} {L' : List β} {g : α → String} {g' : β → String} (h : L.all (fun t => L'.all fun t' => g t != g' t') = true) : ∀ t ∈ L, ∀ t' ∈ L', g t ≠ g' t' := by
  intro t m t' m'
  have q := List.all_eq_true.mp (List.all_eq_true.mp h t m) t' m'
  simpa using q
theorem okC.of {cd : CD} (h : okB cd = true) : okC cd := by
  unfold okB at h
  simp only [Bool.and_eq_true] at h
  obtain ⟨⟨⟨⟨⟨⟨⟨h1, h2⟩, h3⟩, h4⟩, h5⟩, h6⟩, h7⟩, h8⟩ := h
  refine ⟨pair_of (L := cd.2.1) (f := fun (t : Nat × String × String) => t.1) (g := fun (t : Nat × String × String) => t.2.1) h1, pair_of (L := cd.2.2.1) (f := fun (t : Nat × String) => t.1) (g := fun (t : Nat × String) => t.2) h2, pair_of (L := cd.2.2.2) (f := fun (t : Nat × String × String × FieldType × Int32) => t.1) (g := fun (t : Nat × String × String × FieldType × Int32) => t.2.1) h3, apart_of (L := cd.2.1) (L' := cd.2.2.1) (g := fun (t : Nat × String × String) => t.2.1) (g' := fun (t : Nat × String) => t.2) h4, apart_of (L := cd.2.1) (L' := cd.2.2.2) (g := fun (t : Nat × String × String) => t.2.1) (g' := fun (t : Nat × String × String × FieldType × Int32) => t.2.1) h5, apart_of (L := cd.2.2.1) (L' := cd.2.2.2) (g := fun (t : Nat × String) => t.2) (g' := fun (t : Nat × String × String × FieldType × Int32) => t.2.1) h6, fun t m => ?_, fun t m => ?_⟩
  · have q := List.all_eq_true.mp h7 t m
    simpa using q
  · have q := List.all_eq_true.mp h8 t m
    simp only [Bool.and_eq_true, Bool.or_eq_true, decide_eq_true_eq, Bool.not_eq_true', decide_eq_false_iff_not] at q
    exact ⟨q.1.1.1, q.1.1.2, by rcases q.1.2 with (a | a) | a <;> simp [a], q.2⟩
theorem nar1 : nar .boolean 1 = 1 := by decide
theorem nar0 : nar .boolean 0 = 0 := by decide
theorem nar_nar (x : Int32) : nar .boolean (nar .boolean x) = nar .boolean x := by
  show (x &&& 1) &&& 1 = x &&& 1
  rw [Int32.and_assoc]; rfl
theorem ne_toInt {x n : Int32} (q : ¬ x = n) : x.toInt ≠ n.toInt := fun h => q (Int32.toInt_inj.mp h)
/-! ## 6. The same calls where the callee's answer is known as a term -/
section FunC
variable {l : Launch} {Z : State} {a0 : Array Value} {cd : CD} {md md' : MD} {pc pc' wt idx : Nat} {L L' : List Slot} {S stk as : List Value} {w w1 : WO} {cu su cu' su' : Nat} {Q : Option Value → WO → Prop} {x : Value}
theorem Wk.callF (as : List Value) (S : List Value) (wl : (Cond.methodLink cd.1 idx (nmOf md')).before a0 Z = true) (cv : CalV Z a0 md' as.length) (hd : InsA md pc (.invokevirtual idx) 3 pc') (hcal : Wk l Z (MoC Z cd) md' 0 L' [] w 0 0 (fun v w' => v = some x ∧ w' = w1)) (ft : Fits md md' wt cu su cu' su') (hs : stk = as.reverse ++ .ref 0 :: S) (hc : (nmOf md').cls = cd.1) (nr : noRef as = true) (hL' : (argsToLocals (.ref 0 :: as).toArray (mxOf md')).toList = L') (hw : wfL L' = true) (hl : L.length = mxOf md)
    (hwt : (S.map fun v => v.category).sum = wt) (h : Wk l Z (MoC Z cd) md pc' L (x :: S) w1 cu' su' Q) : Wk l Z (MoC Z cd) md pc L stk w cu su Q :=
  Wk.callC as S hs wl cv hc nr hcal hL' hw hl hwt ft hd fun v w' q => by obtain ⟨rfl, rfl⟩ := q; exact h
theorem Wk.callU (as : List Value) (S : List Value) (wl : (Cond.methodLink cd.1 idx (nmOf md')).before a0 Z = true) (cv : CalV Z a0 md' as.length) (hd : InsA md pc (.invokevirtual idx) 3 pc') (hcal : Wk l Z (MoC Z cd) md' 0 L' [] w 0 0 (fun v w' => v = none ∧ w' = w1)) (ft : Fits md md' wt cu su cu' su') (hs : stk = as.reverse ++ .ref 0 :: S) (hc : (nmOf md').cls = cd.1) (nr : noRef as = true) (hL' : (argsToLocals (.ref 0 :: as).toArray (mxOf md')).toList = L') (hw : wfL L' = true) (hl : L.length = mxOf md)
    (hwt : (S.map fun v => v.category).sum = wt) (h : Wk l Z (MoC Z cd) md pc' L S w1 cu' su' Q) : Wk l Z (MoC Z cd) md pc L stk w cu su Q :=
  Wk.callC as S hs wl cv hc nr hcal hL' hw hl hwt ft hd fun v w' q => by obtain ⟨rfl, rfl⟩ := q; exact h
end FunC
section FunS
variable {μ E : Type} {l : Launch} {Z : State} {a0 : Array Value} {M : Mode μ E} {md md' : MD} {pc pc' wt idx : Nat} {L L' : List Slot} {S stk as : List Value} {w w1 : μ} {cu su cu' su' : Nat} {Q : Option Value → μ → Prop} {x : Value}
theorem Wk.callSF (hM : ∀ en h1 h2 h3, M.frm en h1 h2 → M.frm en h2 h3 → M.frm en h1 h3) (as : List Value) (S : List Value) (wl : (Cond.methodLink M.own idx (nmOf md')).before a0 Z = true) (cv : CalS Z a0 md' as.length) (hd : InsA md pc (.invokestatic idx) 3 pc') (hcal : Wk l Z M md' 0 L' [] w 0 0 (fun v w' => v = some x ∧ w' = w1)) (ft : Fits md md' wt cu su cu' su') (hs : stk = as.reverse ++ S) (hc : (nmOf md').cls = M.own) (hL' : (argsToLocals as.toArray (mxOf md')).toList = L') (hw : wfL L' = true) (hl : L.length = mxOf md)
    (hwt : (S.map fun v => v.category).sum = wt) (h : Wk l Z M md pc' L (x :: S) w1 cu' su' Q) : Wk l Z M md pc L stk w cu su Q :=
  Wk.callS hM as S hs wl cv hc hcal hL' hw hl hwt ft hd fun v w' q => by obtain ⟨rfl, rfl⟩ := q; exact h
theorem Wk.callSU (hM : ∀ en h1 h2 h3, M.frm en h1 h2 → M.frm en h2 h3 → M.frm en h1 h3) (as : List Value) (S : List Value) (wl : (Cond.methodLink M.own idx (nmOf md')).before a0 Z = true) (cv : CalS Z a0 md' as.length) (hd : InsA md pc (.invokestatic idx) 3 pc') (hcal : Wk l Z M md' 0 L' [] w 0 0 (fun v w' => v = none ∧ w' = w1)) (ft : Fits md md' wt cu su cu' su') (hs : stk = as.reverse ++ S) (hc : (nmOf md').cls = M.own) (hL' : (argsToLocals as.toArray (mxOf md')).toList = L') (hw : wfL L' = true) (hl : L.length = mxOf md)
    (hwt : (S.map fun v => v.category).sum = wt) (h : Wk l Z M md pc' L S w1 cu' su' Q) : Wk l Z M md pc L stk w cu su Q :=
  Wk.callS hM as S hs wl cv hc hcal hL' hw hl hwt ft hd fun v w' q => by obtain ⟨rfl, rfl⟩ := q; exact h
end FunS
section FunL
variable {l : Launch} {Z : State} {a0 : Array Value} {cd : CD} {own : String} {sc : Bool} {md md' : MD} {pc pc' wt idx : Nat} {L L' : List Slot} {S stk as : List Value} {sl : Int32} {sv : Int32 → Int32} {ws ws' : List WO} {cu su cu' su' : Nat} {Q : Option Value → WL → Prop} {v : Value} {y : WO}
theorem Wk.callLF (ok : CO Z a0 cd) (as : List Value) (i : Nat) (S : List Value) {i' : Nat} {x : WO} (wl : (Cond.methodLink own idx (nmOf md')).before a0 Z = true) (cv : CalV Z a0 md' as.length) (hd : InsA md pc (.invokevirtual idx) 3 pc') (hcal : Wk l Z (MoC Z cd) md' 0 L' [] x 0 0 (fun v' w' => v' = some v ∧ w' = y)) (ft : Fits md md' wt cu su cu' su') (hoth : allK cd.2.2.2.length (ws.eraseIdx i)) (hi' : i + 1 = i') (hs : stk = as.reverse ++ .ref i' :: S) (hx : ws[i]? = some x) (hc : (nmOf md').cls = cd.1) (nr : noRef as = true) (hL' : (argsToLocals (.ref 0 :: as).toArray (mxOf md')).toList = L') (hw : wfL L' = true) (hl : L.length = mxOf md)
    (hwt : (S.map fun v => v.category).sum = wt) (hk : y.1 = x.1 + exOf md') (hws : ws.set i y = ws') (h : Wk l Z (MoL Z cd own sc) md pc' L (v :: S) (sl, sv, ws') cu' su' Q) : Wk l Z (MoL Z cd own sc) md pc L stk (sl, sv, ws) cu su Q :=
  Wk.callLC ok as i S hi' hs hx hoth wl cv hc nr hcal hL' hw hl hwt ft hd (fun v' y' q => by obtain ⟨rfl, rfl⟩ := q; exact hk) fun v' y' q => by obtain ⟨rfl, rfl⟩ := q; subst hws; exact h
theorem Wk.callLU (ok : CO Z a0 cd) (as : List Value) (i : Nat) (S : List Value) {i' : Nat} {x : WO} (wl : (Cond.methodLink own idx (nmOf md')).before a0 Z = true) (cv : CalV Z a0 md' as.length) (hd : InsA md pc (.invokevirtual idx) 3 pc') (hcal : Wk l Z (MoC Z cd) md' 0 L' [] x 0 0 (fun v' w' => v' = none ∧ w' = y)) (ft : Fits md md' wt cu su cu' su') (hoth : allK cd.2.2.2.length (ws.eraseIdx i)) (hi' : i + 1 = i') (hs : stk = as.reverse ++ .ref i' :: S) (hx : ws[i]? = some x) (hc : (nmOf md').cls = cd.1) (nr : noRef as = true) (hL' : (argsToLocals (.ref 0 :: as).toArray (mxOf md')).toList = L') (hw : wfL L' = true) (hl : L.length = mxOf md)
    (hwt : (S.map fun v => v.category).sum = wt) (hk : y.1 = x.1 + exOf md') (hws : ws.set i y = ws') (h : Wk l Z (MoL Z cd own sc) md pc' L S (sl, sv, ws') cu' su' Q) : Wk l Z (MoL Z cd own sc) md pc L stk (sl, sv, ws) cu su Q :=
  Wk.callLC ok as i S hi' hs hx hoth wl cv hc nr hcal hL' hw hl hwt ft hd (fun v' y' q => by obtain ⟨rfl, rfl⟩ := q; exact hk) fun v' y' q => by obtain ⟨rfl, rfl⟩ := q; subst hws; exact h
theorem Wk.ctorLU (ok : CO Z a0 cd) (as : List Value) (i : Nat) (S : List Value) {i' : Nat} {x : WO} (wl : (Cond.methodLink own idx (nmOf md')).before a0 Z = true) (cv : CalI Z a0 md' as.length) (hd : InsA md pc (.invokespecial idx) 3 pc') (hcal : Wk l Z (MoC Z cd) md' 0 L' [] x 0 0 (fun v' w' => v' = none ∧ w' = y)) (ft : Fits md md' wt cu su cu' su') (hoth : allK cd.2.2.2.length (ws.eraseIdx i)) (hi' : i + 1 = i') (hs : stk = as.reverse ++ .ref i' :: S) (hx : ws[i]? = some x) (hc : (nmOf md').cls = cd.1) (nr : noRef as = true) (hL' : (argsToLocals (.ref 0 :: as).toArray (mxOf md')).toList = L') (hw : wfL L' = true) (hl : L.length = mxOf md)
    (hwt : (S.map fun v => v.category).sum = wt) (hk : y.1 = x.1 + exOf md') (hws : ws.set i y = ws') (h : Wk l Z (MoL Z cd own sc) md pc' L S (sl, sv, ws') cu' su' Q) : Wk l Z (MoL Z cd own sc) md pc L stk (sl, sv, ws) cu su Q :=
  Wk.ctorL ok as i S hi' hs hx hoth wl cv hc nr hcal hL' hw hl hwt ft hd (fun v' y' q => by obtain ⟨rfl, rfl⟩ := q; exact hk) fun v' y' q => by obtain ⟨rfl, rfl⟩ := q; subst hws; exact h
end FunL
end Jvm.Own

namespace Jvm.Own
open Jvm
/-! ## 7. Plain helpers -/
theorem lt_i {x y : Int32} : x < y ↔ x.toInt < y.toInt := Int32.lt_iff_toInt_lt
theorem add_toInt {x y : Int32} (h1 : -2147483648 ≤ x.toInt + y.toInt) (h2 : x.toInt + y.toInt < 2147483648) : (x + y).toInt = x.toInt + y.toInt := by
  rw [Int32.toInt_add]
  exact Int.bmod_eq_of_le (by omega) (by omega)
theorem sub_toInt {x y : Int32} (h1 : -2147483648 ≤ x.toInt - y.toInt) (h2 : x.toInt - y.toInt < 2147483648) : (x - y).toInt = x.toInt - y.toInt := by
  rw [Int32.toInt_sub]
  exact Int.bmod_eq_of_le (by omega) (by omega)
theorem succ_toInt {i n : Int32} (h : i < n) : (i + 1).toInt = i.toInt + 1 := by
  have h1 := lt_i.mp h
  have h2 := Int32.toInt_lt n
  have h3 := Int32.le_toInt i
  exact add_toInt (x := i) (y := 1) (by show -2147483648 ≤ i.toInt + 1; omega) (by show i.toInt + 1 < 2147483648; omega)
/-- a loop that counts up to n: backwards from its end -/
theorem loopUp {n : Int32} {P : Int32 → Prop} (hend : P n) (hstep : ∀ i, ¬ i < 0 → i < n → P (i + 1) → P i) : ∀ i, ¬ i < 0 → ¬ n < i → P i := by
  have key : ∀ (k : Nat) (i : Int32), ¬ i < 0 → ¬ n < i → (n.toInt - i.toInt).toNat = k → P i := by
    intro k
    induction k with
    | zero =>
      intro i h0 h1 hk
      have e : i = n := by
        rw [lt_i] at h1
        exact Int32.toInt_inj.mp (by omega)
      subst e; exact hend
    | succ k ih =>
      intro i h0 h1 hk
      rw [lt_i] at h1
      have hlt : i < n := lt_i.mpr (by omega)
      have hs := succ_toInt hlt
      have h0' : ¬ i.toInt < 0 := fun q => h0 (lt_i.mpr q)
      refine hstep i h0 hlt (ih (i + 1) ?_ ?_ ?_)
      · rw [lt_i, hs]; show ¬ i.toInt + 1 < 0; omega
      · rw [lt_i, hs]; omega
      · rw [hs]; omega
  exact fun i h0 h1 => key _ i h0 h1 rfl
/-- the first n places hold c -/
def fill {α : Type} (f : Int32 → α) (n : Int32) (c : α) : Int32 → α := fun x => if ¬ x < 0 ∧ x < n then c else f x
theorem fill_zero {α : Type} (f : Int32 → α) (c : α) : fill f 0 c = f := by
  funext x; exact if_neg fun q => q.1 q.2
theorem fill_succ {α : Type} (f : Int32 → α) (c : α) {i n : Int32} (h0 : ¬ i < 0) (h : i < n) : ups (fill f i c) i c = fill f (i + 1) c := by
  funext x
  have hs := succ_toInt h
  have h0' : ¬ i.toInt < 0 := fun q => h0 (lt_i.mpr q)
  unfold ups fill
  by_cases e : x = i
  · rw [if_pos e, if_pos]
    subst e
    exact ⟨h0, lt_i.mpr (by omega)⟩
  · rw [if_neg e]
    have e' : x.toInt ≠ i.toInt := fun q => e (Int32.toInt_inj.mp q)
    by_cases q : ¬ x < 0 ∧ x < i
    · rw [if_pos q, if_pos ⟨q.1, lt_i.mpr (by have := lt_i.mp q.2; omega)⟩]
    · rw [if_neg q, if_neg]
      rintro ⟨a, b⟩
      exact q ⟨a, lt_i.mpr (by have := lt_i.mp b; omega)⟩
theorem fill_in {α : Type} (f : Int32 → α) (c : α) {x n : Int32} (h0 : ¬ x < 0) (h : x < n) : fill f n c x = c := if_pos ⟨h0, h⟩
theorem ups_self {κ α : Type} [DecidableEq κ] (f : κ → α) (i : κ) : ups f i (f i) = f := by
  funext k; unfold ups; by_cases e : k = i
  · rw [if_pos e, e]
  · rw [if_neg e]
theorem ups_upd {κ α : Type} [DecidableEq κ] (f : κ → α) (i : κ) (x y : α) : ups (ups f i x) i y = ups f i y := by
  funext k; unfold ups; by_cases e : k = i
  · rw [if_pos e, if_pos e]
  · rw [if_neg e, if_neg e, if_neg e]
theorem ups_comm {κ α : Type} [DecidableEq κ] (f : κ → α) {i j : κ} (x y : α) (h : i ≠ j) : ups (ups f i x) j y = ups (ups f j y) i x := by
  funext k; unfold ups; by_cases e : k = i
  · have : k ≠ j := fun q => h (e.symm.trans q)
    rw [if_neg this, if_pos e, if_pos e]
  · by_cases e2 : k = j
    · rw [if_pos e2, if_neg e, if_pos e2]
    · rw [if_neg e2, if_neg e, if_neg e, if_neg e2]
end Jvm.Own

namespace Jvm.Own
open Jvm Jvm.Free
/-! ## 8. Bits -/
theorem toNat_toInt (x : Int32) : (x.toBitVec.toNat : Int) = x.toInt % 4294967296 := by
  have h1 : x.toInt = x.toBitVec.toInt := rfl
  rw [h1, BitVec.toInt_eq_toNat_bmod]
  have h2 := x.toBitVec.isLt
  have h3 := Int.bmod_emod (x := (x.toBitVec.toNat : Int)) (m := 2 ^ 32)
  have h4 : ((2 ^ 32 : Nat) : Int) = 4294967296 := rfl
  rw [h4] at h3
  rw [h3]; omega
theorem and_mask (x m : Int32) (k : Nat) (hk : k < 31) (hm : m.toBitVec.toNat = 2 ^ k - 1) : (x &&& m).toInt = x.toInt % ((2 ^ k : Nat) : Int) := by
  have h1 : (x &&& m).toInt = (x.toBitVec &&& m.toBitVec).toInt := rfl
  have h2 : (x.toBitVec &&& m.toBitVec).toNat = x.toBitVec.toNat % 2 ^ k := by rw [BitVec.toNat_and, hm, Nat.and_two_pow_sub_one_eq_mod]
  have h3 : (2 ^ k : Nat) ≤ 2 ^ 30 := Nat.pow_le_pow_right (by decide) (by omega)
  have h4 : x.toBitVec.toNat % 2 ^ k < 2 ^ k := Nat.mod_lt _ (Nat.two_pow_pos k)
  have h5 : (2 ^ k : Nat) ∣ 4294967296 := ⟨2 ^ (32 - k), by rw [← Nat.pow_add]; have : k + (32 - k) = 32 := by omega
                                                            rw [this]⟩
  rw [h1, BitVec.toInt_eq_toNat_of_lt (by rw [h2]; omega), h2, Int.natCast_emod, toNat_toInt]
  exact Int.emod_emod_of_dvd _ (Int.natCast_dvd_natCast.mpr h5)
theorem sar_toInt (x y : Int32) (k : Nat) (hy : y.toBitVec.smod 32#32 = BitVec.ofNat 32 k) (hk : k < 32) : (x >>> y).toInt = x.toInt / ((2 ^ k : Nat) : Int) := by
  have h1 : (x >>> y).toInt = (x.toBitVec.sshiftRight' (y.toBitVec.smod 32#32)).toInt := rfl
  rw [h1, hy, BitVec.sshiftRight_eq', BitVec.toInt_sshiftRight, BitVec.toNat_ofNat, Nat.mod_eq_of_lt (by omega), Int.shiftRight_eq_div_pow]
  rfl
theorem ushr_pos (x y : Int32) (k : Nat) (hy : (y &&& 31).toBitVec.toNat = k) (hx : ¬ x < 0) : (XT.ushr x y).toInt = x.toInt / ((2 ^ k : Nat) : Int) := by
  have hx' : 0 ≤ x.toInt := by rw [lt_i] at hx; have z : (0 : Int32).toInt = 0 := rfl; omega
  have h0 : (x.toBitVec.toNat : Int) = x.toInt := by rw [toNat_toInt]; have := Int32.toInt_lt x; omega
  have hy' : k < 32 := by
    rw [← hy]
    have : (y &&& 31).toBitVec.toNat = y.toBitVec.toNat % 2 ^ 5 := by
      show (y.toBitVec &&& 31#32).toNat = _
      rw [BitVec.toNat_and]; exact Nat.and_two_pow_sub_one_eq_mod _ 5
    omega
  have h1 : (XT.ushr x y).toBitVec = x.toBitVec >>> k := by
    show x.toBitVec >>> ((y &&& 31).toBitVec % 32#32) = _
    rw [BitVec.ushiftRight_eq', BitVec.toNat_umod, hy]
    show x.toBitVec >>> (k % 32) = _
    rw [Nat.mod_eq_of_lt hy']
  have h2 : (x.toBitVec >>> k).toNat = x.toBitVec.toNat / 2 ^ k := by rw [BitVec.toNat_ushiftRight, Nat.shiftRight_eq_div_pow]
  have h3 : (XT.ushr x y).toInt = (x.toBitVec >>> k).toInt := by rw [← h1]; rfl
  have h4 : x.toBitVec.toNat / 2 ^ k ≤ x.toBitVec.toNat := Nat.div_le_self _ _
  rw [h3, BitVec.toInt_eq_toNat_of_lt (by rw [h2]; have := Int32.toInt_lt x; omega), h2, Int.natCast_ediv, h0]
end Jvm.Own
namespace Jvm.Pilot.@@N@@
open Jvm Jvm.ClassFile Sem Op Lib Jvm.Free Jvm.Stand Jvm.LawKit Jvm.RoadKit Bundle Jvm.Own Jvm.Pilot.@@N@@.Jvm.D
def OK (Z : State) (a0 : Array Value) : Prop := ∀ d ∈ tables_1, d.before a0 Z = true
theorem OK.w {Z : State} {a0 : Array Value} (H : OK Z a0) (i : Nat) {d : Jvm.Cond} (h : tables_1[i]? = some d) : d.before a0 Z = true := H _ (List.mem_of_getElem? h)
abbrev cdC : CD := ("AuctionCross", [(0, "cap", "I"), (1, "nAcc", "I"), (2, "ref", "I"), (3, "phase", "I"), (4, "seqCounter", "I"), (5, "lastPrice", "I"), (6, "lastVolume", "I")], [], [(0, "st", "[I", .int, 64), (1, "acct", "[I", .int, 64), (2, "sd", "[I", .int, 64), (3, "pr", "[I", .int, 64), (4, "rem", "[I", .int, 64), (5, "fil", "[I", .int, 64), (6, "sq", "[I", .int, 64), (7, "bought", "[I", .int, 16), (8, "sold", "[I", .int, 16), (9, "curD", "[I", .int, 257), (10, "curS", "[I", .int, 257)])
theorem okcC : okC cdC := okC.of (by decide +kernel)
theorem mI_cap : (0, "cap", "I") ∈ cdC.2.1 := List.mem_of_getElem? (i := 0) rfl
theorem mI_nAcc : (1, "nAcc", "I") ∈ cdC.2.1 := List.mem_of_getElem? (i := 1) rfl
theorem mI_ref : (2, "ref", "I") ∈ cdC.2.1 := List.mem_of_getElem? (i := 2) rfl
theorem mI_phase : (3, "phase", "I") ∈ cdC.2.1 := List.mem_of_getElem? (i := 3) rfl
theorem mI_seqCounter : (4, "seqCounter", "I") ∈ cdC.2.1 := List.mem_of_getElem? (i := 4) rfl
theorem mI_lastPrice : (5, "lastPrice", "I") ∈ cdC.2.1 := List.mem_of_getElem? (i := 5) rfl
theorem mI_lastVolume : (6, "lastVolume", "I") ∈ cdC.2.1 := List.mem_of_getElem? (i := 6) rfl
theorem mA_st : (0, "st", "[I", FieldType.int, (64 : Int32)) ∈ cdC.2.2.2 := List.mem_of_getElem? (i := 0) rfl
theorem mA_acct : (1, "acct", "[I", FieldType.int, (64 : Int32)) ∈ cdC.2.2.2 := List.mem_of_getElem? (i := 1) rfl
theorem mA_sd : (2, "sd", "[I", FieldType.int, (64 : Int32)) ∈ cdC.2.2.2 := List.mem_of_getElem? (i := 2) rfl
theorem mA_pr : (3, "pr", "[I", FieldType.int, (64 : Int32)) ∈ cdC.2.2.2 := List.mem_of_getElem? (i := 3) rfl
theorem mA_rem : (4, "rem", "[I", FieldType.int, (64 : Int32)) ∈ cdC.2.2.2 := List.mem_of_getElem? (i := 4) rfl
theorem mA_fil : (5, "fil", "[I", FieldType.int, (64 : Int32)) ∈ cdC.2.2.2 := List.mem_of_getElem? (i := 5) rfl
theorem mA_sq : (6, "sq", "[I", FieldType.int, (64 : Int32)) ∈ cdC.2.2.2 := List.mem_of_getElem? (i := 6) rfl
theorem mA_bought : (7, "bought", "[I", FieldType.int, (16 : Int32)) ∈ cdC.2.2.2 := List.mem_of_getElem? (i := 7) rfl
theorem mA_sold : (8, "sold", "[I", FieldType.int, (16 : Int32)) ∈ cdC.2.2.2 := List.mem_of_getElem? (i := 8) rfl
theorem mA_curD : (9, "curD", "[I", FieldType.int, (257 : Int32)) ∈ cdC.2.2.2 := List.mem_of_getElem? (i := 9) rfl
theorem mA_curS : (10, "curS", "[I", FieldType.int, (257 : Int32)) ∈ cdC.2.2.2 := List.mem_of_getElem? (i := 10) rfl
theorem wf_st {Z : State} {a0 : Array Value} (H : OK Z a0) : (Cond.fieldLink "AuctionCross" 7 "AuctionCross" "st" "[I").before a0 Z = true := H.w 10 rfl
theorem wf_acct {Z : State} {a0 : Array Value} (H : OK Z a0) : (Cond.fieldLink "AuctionCross" 13 "AuctionCross" "acct" "[I").before a0 Z = true := H.w 12 rfl
theorem wf_sd {Z : State} {a0 : Array Value} (H : OK Z a0) : (Cond.fieldLink "AuctionCross" 16 "AuctionCross" "sd" "[I").before a0 Z = true := H.w 14 rfl
theorem wf_pr {Z : State} {a0 : Array Value} (H : OK Z a0) : (Cond.fieldLink "AuctionCross" 19 "AuctionCross" "pr" "[I").before a0 Z = true := H.w 16 rfl
theorem wf_rem {Z : State} {a0 : Array Value} (H : OK Z a0) : (Cond.fieldLink "AuctionCross" 22 "AuctionCross" "rem" "[I").before a0 Z = true := H.w 18 rfl
theorem wf_fil {Z : State} {a0 : Array Value} (H : OK Z a0) : (Cond.fieldLink "AuctionCross" 25 "AuctionCross" "fil" "[I").before a0 Z = true := H.w 20 rfl
theorem wf_sq {Z : State} {a0 : Array Value} (H : OK Z a0) : (Cond.fieldLink "AuctionCross" 28 "AuctionCross" "sq" "[I").before a0 Z = true := H.w 22 rfl
theorem wf_bought {Z : State} {a0 : Array Value} (H : OK Z a0) : (Cond.fieldLink "AuctionCross" 31 "AuctionCross" "bought" "[I").before a0 Z = true := H.w 24 rfl
theorem wf_sold {Z : State} {a0 : Array Value} (H : OK Z a0) : (Cond.fieldLink "AuctionCross" 34 "AuctionCross" "sold" "[I").before a0 Z = true := H.w 26 rfl
theorem wf_curD {Z : State} {a0 : Array Value} (H : OK Z a0) : (Cond.fieldLink "AuctionCross" 37 "AuctionCross" "curD" "[I").before a0 Z = true := H.w 28 rfl
theorem wf_curS {Z : State} {a0 : Array Value} (H : OK Z a0) : (Cond.fieldLink "AuctionCross" 40 "AuctionCross" "curS" "[I").before a0 Z = true := H.w 30 rfl
theorem wf_cap {Z : State} {a0 : Array Value} (H : OK Z a0) : (Cond.fieldLink "AuctionCross" 47 "AuctionCross" "cap" "I").before a0 Z = true := H.w 36 rfl
theorem wf_nAcc {Z : State} {a0 : Array Value} (H : OK Z a0) : (Cond.fieldLink "AuctionCross" 51 "AuctionCross" "nAcc" "I").before a0 Z = true := H.w 38 rfl
theorem wf_ref {Z : State} {a0 : Array Value} (H : OK Z a0) : (Cond.fieldLink "AuctionCross" 54 "AuctionCross" "ref" "I").before a0 Z = true := H.w 40 rfl
theorem wf_phase {Z : State} {a0 : Array Value} (H : OK Z a0) : (Cond.fieldLink "AuctionCross" 57 "AuctionCross" "phase" "I").before a0 Z = true := H.w 42 rfl
theorem wf_seqCounter {Z : State} {a0 : Array Value} (H : OK Z a0) : (Cond.fieldLink "AuctionCross" 60 "AuctionCross" "seqCounter" "I").before a0 Z = true := H.w 44 rfl
theorem wf_lastPrice {Z : State} {a0 : Array Value} (H : OK Z a0) : (Cond.fieldLink "AuctionCross" 63 "AuctionCross" "lastPrice" "I").before a0 Z = true := H.w 46 rfl
theorem wf_lastVolume {Z : State} {a0 : Array Value} (H : OK Z a0) : (Cond.fieldLink "AuctionCross" 66 "AuctionCross" "lastVolume" "I").before a0 Z = true := H.w 48 rfl
theorem wy_st {Z : State} {a0 : Array Value} (H : OK Z a0) : (Cond.lays "AuctionCross" "AuctionCross" "st" "[I").before a0 Z = true := H.w 11 rfl
theorem wy_acct {Z : State} {a0 : Array Value} (H : OK Z a0) : (Cond.lays "AuctionCross" "AuctionCross" "acct" "[I").before a0 Z = true := H.w 13 rfl
theorem wy_sd {Z : State} {a0 : Array Value} (H : OK Z a0) : (Cond.lays "AuctionCross" "AuctionCross" "sd" "[I").before a0 Z = true := H.w 15 rfl
theorem wy_pr {Z : State} {a0 : Array Value} (H : OK Z a0) : (Cond.lays "AuctionCross" "AuctionCross" "pr" "[I").before a0 Z = true := H.w 17 rfl
theorem wy_rem {Z : State} {a0 : Array Value} (H : OK Z a0) : (Cond.lays "AuctionCross" "AuctionCross" "rem" "[I").before a0 Z = true := H.w 19 rfl
theorem wy_fil {Z : State} {a0 : Array Value} (H : OK Z a0) : (Cond.lays "AuctionCross" "AuctionCross" "fil" "[I").before a0 Z = true := H.w 21 rfl
theorem wy_sq {Z : State} {a0 : Array Value} (H : OK Z a0) : (Cond.lays "AuctionCross" "AuctionCross" "sq" "[I").before a0 Z = true := H.w 23 rfl
theorem wy_bought {Z : State} {a0 : Array Value} (H : OK Z a0) : (Cond.lays "AuctionCross" "AuctionCross" "bought" "[I").before a0 Z = true := H.w 25 rfl
theorem wy_sold {Z : State} {a0 : Array Value} (H : OK Z a0) : (Cond.lays "AuctionCross" "AuctionCross" "sold" "[I").before a0 Z = true := H.w 27 rfl
theorem wy_curD {Z : State} {a0 : Array Value} (H : OK Z a0) : (Cond.lays "AuctionCross" "AuctionCross" "curD" "[I").before a0 Z = true := H.w 29 rfl
theorem wy_curS {Z : State} {a0 : Array Value} (H : OK Z a0) : (Cond.lays "AuctionCross" "AuctionCross" "curS" "[I").before a0 Z = true := H.w 31 rfl
theorem wy_cap {Z : State} {a0 : Array Value} (H : OK Z a0) : (Cond.lays "AuctionCross" "AuctionCross" "cap" "I").before a0 Z = true := H.w 37 rfl
theorem wy_nAcc {Z : State} {a0 : Array Value} (H : OK Z a0) : (Cond.lays "AuctionCross" "AuctionCross" "nAcc" "I").before a0 Z = true := H.w 39 rfl
theorem wy_ref {Z : State} {a0 : Array Value} (H : OK Z a0) : (Cond.lays "AuctionCross" "AuctionCross" "ref" "I").before a0 Z = true := H.w 41 rfl
theorem wy_phase {Z : State} {a0 : Array Value} (H : OK Z a0) : (Cond.lays "AuctionCross" "AuctionCross" "phase" "I").before a0 Z = true := H.w 43 rfl
theorem wy_seqCounter {Z : State} {a0 : Array Value} (H : OK Z a0) : (Cond.lays "AuctionCross" "AuctionCross" "seqCounter" "I").before a0 Z = true := H.w 45 rfl
theorem wy_lastPrice {Z : State} {a0 : Array Value} (H : OK Z a0) : (Cond.lays "AuctionCross" "AuctionCross" "lastPrice" "I").before a0 Z = true := H.w 47 rfl
theorem wy_lastVolume {Z : State} {a0 : Array Value} (H : OK Z a0) : (Cond.lays "AuctionCross" "AuctionCross" "lastVolume" "I").before a0 Z = true := H.w 49 rfl
theorem wa_int {Z : State} {a0 : Array Value} (H : OK Z a0) : (Cond.arrayClass (newarray.typeOf .int)).before a0 Z = true := H.w 9 rfl
theorem wz_C {Z : State} {a0 : Array Value} (H : OK Z a0) : (Cond.initialized "AuctionCross").before a0 Z = true := H.w 2 rfl
theorem coC {Z : State} {a0 : Array Value} (H : OK Z a0) : CO Z a0 cdC := by
  refine ⟨⟨18, H.w 1 rfl⟩, ?_, ?_, ?_, okcC⟩
  · intro t m; simp only [cdC, List.mem_cons, List.not_mem_nil, or_false] at m
    rcases m with rfl | rfl | rfl | rfl | rfl | rfl | rfl
    · exact Or.inl (wy_cap H)
    · exact Or.inl (wy_nAcc H)
    · exact Or.inl (wy_ref H)
    · exact Or.inl (wy_phase H)
    · exact Or.inl (wy_seqCounter H)
    · exact Or.inl (wy_lastPrice H)
    · exact Or.inl (wy_lastVolume H)
  · intro t m; cases m
  · intro t m; simp only [cdC, List.mem_cons, List.not_mem_nil, or_false] at m
    rcases m with rfl | rfl | rfl | rfl | rfl | rfl | rfl | rfl | rfl | rfl | rfl
    · exact Or.inl (wy_st H)
    · exact Or.inl (wy_acct H)
    · exact Or.inl (wy_sd H)
    · exact Or.inl (wy_pr H)
    · exact Or.inl (wy_rem H)
    · exact Or.inl (wy_fil H)
    · exact Or.inl (wy_sq H)
    · exact Or.inl (wy_bought H)
    · exact Or.inl (wy_sold H)
    · exact Or.inl (wy_curD H)
    · exact Or.inl (wy_curS H)
theorem mrC {Z : State} (en : Nat × Nat) (h : Heap) : (MoC Z cdC).frm en h h := frmC.refl _ _ _
theorem mtC {Z : State} (en : Nat × Nat) (h1 h2 h3 : Heap) (a : (MoC Z cdC).frm en h1 h2) (b : (MoC Z cdC).frm en h2 h3) : (MoC Z cdC).frm en h1 h3 := frmC.trans a b
theorem mrL {Z : State} (en : Nat × Nat) (h : Heap) : (MoL Z cdC "AuctionCrossL3" false).frm en h h := trivial
theorem mtL {Z : State} (en : Nat × Nat) (h1 h2 h3 : Heap) (a : (MoL Z cdC "AuctionCrossL3" false).frm en h1 h2) (b : (MoL Z cdC "AuctionCrossL3" false).frm en h2 h3) : (MoL Z cdC "AuctionCrossL3" false).frm en h1 h3 := trivial
theorem pn_AuctionCross : plainName "AuctionCross" = true := by first | (simp [plainName, overriddenIn]; done) | decide +kernel
theorem pn_AuctionCrossL3 : plainName "AuctionCrossL3" = true := by first | (simp [plainName, overriddenIn]; done) | decide +kernel
theorem pd___I : ∀ sig, parseMethodDescriptor "()I" = some sig → 0 = sig.parameters.length := fun sig h => by
  have q : parseMethodDescriptor "()I" = some ⟨[], some .int⟩ := by decide +kernel
  cases q.symm.trans h; rfl
theorem pd___V : ∀ sig, parseMethodDescriptor "()V" = some sig → 0 = sig.parameters.length := fun sig h => by
  have q : parseMethodDescriptor "()V" = some ⟨[], none⟩ := by decide +kernel
  cases q.symm.trans h; rfl
theorem pd__I_I : ∀ sig, parseMethodDescriptor "(I)I" = some sig → 1 = sig.parameters.length := fun sig h => by
  have q : parseMethodDescriptor "(I)I" = some ⟨[.int], some .int⟩ := by decide +kernel
  cases q.symm.trans h; rfl
theorem pd__I_V : ∀ sig, parseMethodDescriptor "(I)V" = some sig → 1 = sig.parameters.length := fun sig h => by
  have q : parseMethodDescriptor "(I)V" = some ⟨[.int], none⟩ := by decide +kernel
  cases q.symm.trans h; rfl
theorem pd__II_I : ∀ sig, parseMethodDescriptor "(II)I" = some sig → 2 = sig.parameters.length := fun sig h => by
  have q : parseMethodDescriptor "(II)I" = some ⟨[.int, .int], some .int⟩ := by decide +kernel
  cases q.symm.trans h; rfl
theorem pd__II_V : ∀ sig, parseMethodDescriptor "(II)V" = some sig → 2 = sig.parameters.length := fun sig h => by
  have q : parseMethodDescriptor "(II)V" = some ⟨[.int, .int], none⟩ := by decide +kernel
  cases q.symm.trans h; rfl
theorem pd__III_I : ∀ sig, parseMethodDescriptor "(III)I" = some sig → 3 = sig.parameters.length := fun sig h => by
  have q : parseMethodDescriptor "(III)I" = some ⟨[.int, .int, .int], some .int⟩ := by decide +kernel
  cases q.symm.trans h; rfl
theorem pd__III_V : ∀ sig, parseMethodDescriptor "(III)V" = some sig → 3 = sig.parameters.length := fun sig h => by
  have q : parseMethodDescriptor "(III)V" = some ⟨[.int, .int, .int], none⟩ := by decide +kernel
  cases q.symm.trans h; rfl
theorem pd__III_Z : ∀ sig, parseMethodDescriptor "(III)Z" = some sig → 3 = sig.parameters.length := fun sig h => by
  have q : parseMethodDescriptor "(III)Z" = some ⟨[.int, .int, .int], some .boolean⟩ := by decide +kernel
  cases q.symm.trans h; rfl
theorem pd__IIII_I : ∀ sig, parseMethodDescriptor "(IIII)I" = some sig → 4 = sig.parameters.length := fun sig h => by
  have q : parseMethodDescriptor "(IIII)I" = some ⟨[.int, .int, .int, .int], some .int⟩ := by decide +kernel
  cases q.symm.trans h; rfl
theorem pd__IIIII_Z : ∀ sig, parseMethodDescriptor "(IIIII)Z" = some sig → 5 = sig.parameters.length := fun sig h => by
  have q : parseMethodDescriptor "(IIIII)Z" = some ⟨[.int, .int, .int, .int, .int], some .boolean⟩ := by decide +kernel
  cases q.symm.trans h; rfl
theorem pd__LAuctionCross_III_Z : ∀ sig, parseMethodDescriptor "(LAuctionCross;III)Z" = some sig → 4 = sig.parameters.length := fun sig h => by
  have q : parseMethodDescriptor "(LAuctionCross;III)Z" = some ⟨[(.object "AuctionCross"), .int, .int, .int], some .boolean⟩ := by decide +kernel
  cases q.symm.trans h; rfl
abbrev md_init : MD := (⟨"AuctionCross", "<init>", "(III)V"⟩, prog_1_method_1_code, 4, none, { frames := 1, cells := 11, slots := 994, locals := 16 }, 11)
theorem cv_init {Z : State} {a0 : Array Value} (H : OK Z a0) : CalI Z a0 md_init 3 := ⟨pn_AuctionCross, by decide, pd__III_V, H.w 4 rfl, H.w 5 rfl, H.w 2 rfl, rfl, rfl⟩
theorem o_init_0 : InsA md_init 0 (.aload_n 0) 1 1 := ⟨by decide +kernel, rfl⟩
theorem o_init_1 : InsA md_init 1 (.invokespecial 1) 3 4 := ⟨by decide +kernel, rfl⟩
theorem o_init_4 : InsA md_init 4 (.aload_n 0) 1 5 := ⟨by decide +kernel, rfl⟩
theorem o_init_5 : InsA md_init 5 (.bipush 64) 2 7 := ⟨by decide +kernel, rfl⟩
theorem o_init_7 : InsA md_init 7 (.newarray .int) 2 9 := ⟨by decide +kernel, rfl⟩
theorem o_init_9 : InsA md_init 9 (.putfield 7) 3 12 := ⟨by decide +kernel, rfl⟩
theorem o_init_12 : InsA md_init 12 (.aload_n 0) 1 13 := ⟨by decide +kernel, rfl⟩
theorem o_init_13 : InsA md_init 13 (.bipush 64) 2 15 := ⟨by decide +kernel, rfl⟩
theorem o_init_15 : InsA md_init 15 (.newarray .int) 2 17 := ⟨by decide +kernel, rfl⟩
theorem o_init_17 : InsA md_init 17 (.putfield 13) 3 20 := ⟨by decide +kernel, rfl⟩
theorem o_init_20 : InsA md_init 20 (.aload_n 0) 1 21 := ⟨by decide +kernel, rfl⟩
theorem o_init_21 : InsA md_init 21 (.bipush 64) 2 23 := ⟨by decide +kernel, rfl⟩
theorem o_init_23 : InsA md_init 23 (.newarray .int) 2 25 := ⟨by decide +kernel, rfl⟩
theorem o_init_25 : InsA md_init 25 (.putfield 16) 3 28 := ⟨by decide +kernel, rfl⟩
theorem o_init_28 : InsA md_init 28 (.aload_n 0) 1 29 := ⟨by decide +kernel, rfl⟩
theorem o_init_29 : InsA md_init 29 (.bipush 64) 2 31 := ⟨by decide +kernel, rfl⟩
theorem o_init_31 : InsA md_init 31 (.newarray .int) 2 33 := ⟨by decide +kernel, rfl⟩
theorem o_init_33 : InsA md_init 33 (.putfield 19) 3 36 := ⟨by decide +kernel, rfl⟩
theorem o_init_36 : InsA md_init 36 (.aload_n 0) 1 37 := ⟨by decide +kernel, rfl⟩
theorem o_init_37 : InsA md_init 37 (.bipush 64) 2 39 := ⟨by decide +kernel, rfl⟩
theorem o_init_39 : InsA md_init 39 (.newarray .int) 2 41 := ⟨by decide +kernel, rfl⟩
theorem o_init_41 : InsA md_init 41 (.putfield 22) 3 44 := ⟨by decide +kernel, rfl⟩
theorem o_init_44 : InsA md_init 44 (.aload_n 0) 1 45 := ⟨by decide +kernel, rfl⟩
theorem o_init_45 : InsA md_init 45 (.bipush 64) 2 47 := ⟨by decide +kernel, rfl⟩
theorem o_init_47 : InsA md_init 47 (.newarray .int) 2 49 := ⟨by decide +kernel, rfl⟩
theorem o_init_49 : InsA md_init 49 (.putfield 25) 3 52 := ⟨by decide +kernel, rfl⟩
theorem o_init_52 : InsA md_init 52 (.aload_n 0) 1 53 := ⟨by decide +kernel, rfl⟩
theorem o_init_53 : InsA md_init 53 (.bipush 64) 2 55 := ⟨by decide +kernel, rfl⟩
theorem o_init_55 : InsA md_init 55 (.newarray .int) 2 57 := ⟨by decide +kernel, rfl⟩
theorem o_init_57 : InsA md_init 57 (.putfield 28) 3 60 := ⟨by decide +kernel, rfl⟩
theorem o_init_60 : InsA md_init 60 (.aload_n 0) 1 61 := ⟨by decide +kernel, rfl⟩
theorem o_init_61 : InsA md_init 61 (.bipush 16) 2 63 := ⟨by decide +kernel, rfl⟩
theorem o_init_63 : InsA md_init 63 (.newarray .int) 2 65 := ⟨by decide +kernel, rfl⟩
theorem o_init_65 : InsA md_init 65 (.putfield 31) 3 68 := ⟨by decide +kernel, rfl⟩
theorem o_init_68 : InsA md_init 68 (.aload_n 0) 1 69 := ⟨by decide +kernel, rfl⟩
theorem o_init_69 : InsA md_init 69 (.bipush 16) 2 71 := ⟨by decide +kernel, rfl⟩
theorem o_init_71 : InsA md_init 71 (.newarray .int) 2 73 := ⟨by decide +kernel, rfl⟩
theorem o_init_73 : InsA md_init 73 (.putfield 34) 3 76 := ⟨by decide +kernel, rfl⟩
theorem o_init_76 : InsA md_init 76 (.aload_n 0) 1 77 := ⟨by decide +kernel, rfl⟩
theorem o_init_77 : InsA md_init 77 (.sipush 257) 3 80 := ⟨by decide +kernel, rfl⟩
theorem o_init_80 : InsA md_init 80 (.newarray .int) 2 82 := ⟨by decide +kernel, rfl⟩
theorem o_init_82 : InsA md_init 82 (.putfield 37) 3 85 := ⟨by decide +kernel, rfl⟩
theorem o_init_85 : InsA md_init 85 (.aload_n 0) 1 86 := ⟨by decide +kernel, rfl⟩
theorem o_init_86 : InsA md_init 86 (.sipush 257) 3 89 := ⟨by decide +kernel, rfl⟩
theorem o_init_89 : InsA md_init 89 (.newarray .int) 2 91 := ⟨by decide +kernel, rfl⟩
theorem o_init_91 : InsA md_init 91 (.putfield 40) 3 94 := ⟨by decide +kernel, rfl⟩
theorem o_init_94 : InsA md_init 94 (.aload_n 0) 1 95 := ⟨by decide +kernel, rfl⟩
theorem o_init_95 : InsA md_init 95 (.aload_n 0) 1 96 := ⟨by decide +kernel, rfl⟩
theorem o_init_96 : InsA md_init 96 (.iload_n 1) 1 97 := ⟨by decide +kernel, rfl⟩
theorem o_init_97 : InsA md_init 97 (.bipush 8) 2 99 := ⟨by decide +kernel, rfl⟩
theorem o_init_99 : InsA md_init 99 (.bipush 64) 2 101 := ⟨by decide +kernel, rfl⟩
theorem o_init_101 : InsA md_init 101 (.invokevirtual 43) 3 104 := ⟨by decide +kernel, rfl⟩
theorem o_init_104 : InsA md_init 104 (.putfield 47) 3 107 := ⟨by decide +kernel, rfl⟩
theorem o_init_107 : InsA md_init 107 (.aload_n 0) 1 108 := ⟨by decide +kernel, rfl⟩
theorem o_init_108 : InsA md_init 108 (.aload_n 0) 1 109 := ⟨by decide +kernel, rfl⟩
theorem o_init_109 : InsA md_init 109 (.iload_n 2) 1 110 := ⟨by decide +kernel, rfl⟩
theorem o_init_110 : InsA md_init 110 (.iconst 1) 1 111 := ⟨by decide +kernel, rfl⟩
theorem o_init_111 : InsA md_init 111 (.bipush 16) 2 113 := ⟨by decide +kernel, rfl⟩
theorem o_init_113 : InsA md_init 113 (.invokevirtual 43) 3 116 := ⟨by decide +kernel, rfl⟩
theorem o_init_116 : InsA md_init 116 (.putfield 51) 3 119 := ⟨by decide +kernel, rfl⟩
theorem o_init_119 : InsA md_init 119 (.aload_n 0) 1 120 := ⟨by decide +kernel, rfl⟩
theorem o_init_120 : InsA md_init 120 (.aload_n 0) 1 121 := ⟨by decide +kernel, rfl⟩
theorem o_init_121 : InsA md_init 121 (.iload_n 3) 1 122 := ⟨by decide +kernel, rfl⟩
theorem o_init_122 : InsA md_init 122 (.iconst 1) 1 123 := ⟨by decide +kernel, rfl⟩
theorem o_init_123 : InsA md_init 123 (.sipush 255) 3 126 := ⟨by decide +kernel, rfl⟩
theorem o_init_126 : InsA md_init 126 (.invokevirtual 43) 3 129 := ⟨by decide +kernel, rfl⟩
theorem o_init_129 : InsA md_init 129 (.putfield 54) 3 132 := ⟨by decide +kernel, rfl⟩
theorem o_init_132 : InsA md_init 132 (.aload_n 0) 1 133 := ⟨by decide +kernel, rfl⟩
theorem o_init_133 : InsA md_init 133 (.iconst 0) 1 134 := ⟨by decide +kernel, rfl⟩
theorem o_init_134 : InsA md_init 134 (.putfield 57) 3 137 := ⟨by decide +kernel, rfl⟩
theorem o_init_137 : InsA md_init 137 (.aload_n 0) 1 138 := ⟨by decide +kernel, rfl⟩
theorem o_init_138 : InsA md_init 138 (.iconst 1) 1 139 := ⟨by decide +kernel, rfl⟩
theorem o_init_139 : InsA md_init 139 (.putfield 60) 3 142 := ⟨by decide +kernel, rfl⟩
theorem o_init_142 : InsA md_init 142 (.aload_n 0) 1 143 := ⟨by decide +kernel, rfl⟩
theorem o_init_143 : InsA md_init 143 (.iconst 0) 1 144 := ⟨by decide +kernel, rfl⟩
theorem o_init_144 : InsA md_init 144 (.putfield 63) 3 147 := ⟨by decide +kernel, rfl⟩
theorem o_init_147 : InsA md_init 147 (.aload_n 0) 1 148 := ⟨by decide +kernel, rfl⟩
theorem o_init_148 : InsA md_init 148 (.iconst 0) 1 149 := ⟨by decide +kernel, rfl⟩
theorem o_init_149 : InsA md_init 149 (.putfield 66) 3 152 := ⟨by decide +kernel, rfl⟩
theorem o_init_152 : InsA md_init 152 (.return_) 1 153 := ⟨by decide +kernel, rfl⟩
abbrev md_clamp : MD := (⟨"AuctionCross", "clamp", "(III)I"⟩, prog_1_method_19_code, 4, some .int, { frames := 0, cells := 0, slots := 0, locals := 0 }, 0)
theorem cv_clamp {Z : State} {a0 : Array Value} (H : OK Z a0) : CalV Z a0 md_clamp 3 := ⟨pn_AuctionCross, by decide, pd__III_I, H.w 33 rfl, H.w 35 rfl, H.w 2 rfl, Or.inr ⟨H.w 34 rfl, 18, H.w 1 rfl⟩⟩
theorem o_clamp_0 : InsA md_clamp 0 (.iload_n 1) 1 1 := ⟨by decide +kernel, rfl⟩
theorem o_clamp_1 : InsA md_clamp 1 (.iload_n 2) 1 2 := ⟨by decide +kernel, rfl⟩
theorem o_clamp_2 : InsB md_clamp 2 (.if_icmp .ge 5) 3 5 (5) 7 := ⟨by decide +kernel, rfl, by decide, by decide⟩
theorem o_clamp_5 : InsA md_clamp 5 (.iload_n 2) 1 6 := ⟨by decide +kernel, rfl⟩
theorem o_clamp_6 : InsA md_clamp 6 (.ireturn) 1 7 := ⟨by decide +kernel, rfl⟩
theorem o_clamp_7 : InsA md_clamp 7 (.iload_n 1) 1 8 := ⟨by decide +kernel, rfl⟩
theorem o_clamp_8 : InsA md_clamp 8 (.iload_n 3) 1 9 := ⟨by decide +kernel, rfl⟩
theorem o_clamp_9 : InsB md_clamp 9 (.if_icmp .le 5) 3 12 (5) 14 := ⟨by decide +kernel, rfl, by decide, by decide⟩
theorem o_clamp_12 : InsA md_clamp 12 (.iload_n 3) 1 13 := ⟨by decide +kernel, rfl⟩
theorem o_clamp_13 : InsA md_clamp 13 (.ireturn) 1 14 := ⟨by decide +kernel, rfl⟩
theorem o_clamp_14 : InsA md_clamp 14 (.iload_n 1) 1 15 := ⟨by decide +kernel, rfl⟩
theorem o_clamp_15 : InsA md_clamp 15 (.ireturn) 1 16 := ⟨by decide +kernel, rfl⟩
abbrev md_L_err : MD := (⟨"AuctionCrossL3", "err", "(II)I"⟩, method_3_code, 2, some .int, { frames := 0, cells := 0, slots := 0, locals := 0 }, 0)
theorem cv_L_err {Z : State} {a0 : Array Value} (H : OK Z a0) : CalS Z a0 md_L_err 2 := ⟨pn_AuctionCrossL3, by decide, pd__II_I, H.w 51 rfl, H.w 53 rfl, H.w 52 rfl⟩
theorem o_L_err_0 : InsA md_L_err 0 (.iload_n 0) 1 1 := ⟨by decide +kernel, rfl⟩
theorem o_L_err_1 : InsB md_L_err 1 (.ifCond .lt 10) 3 4 (10) 11 := ⟨by decide +kernel, rfl, by decide, by decide⟩
theorem o_L_err_4 : InsA md_L_err 4 (.iload_n 0) 1 5 := ⟨by decide +kernel, rfl⟩
theorem o_L_err_5 : InsA md_L_err 5 (.sipush 255) 3 8 := ⟨by decide +kernel, rfl⟩
theorem o_L_err_8 : InsB md_L_err 8 (.if_icmp .le 6) 3 11 (6) 14 := ⟨by decide +kernel, rfl, by decide, by decide⟩
theorem o_L_err_11 : InsA md_L_err 11 (.bipush (-4)) 2 13 := ⟨by decide +kernel, rfl⟩
theorem o_L_err_13 : InsA md_L_err 13 (.ireturn) 1 14 := ⟨by decide +kernel, rfl⟩
theorem o_L_err_14 : InsA md_L_err 14 (.iload_n 1) 1 15 := ⟨by decide +kernel, rfl⟩
theorem o_L_err_15 : InsA md_L_err 15 (.iconst 1) 1 16 := ⟨by decide +kernel, rfl⟩
theorem o_L_err_16 : InsB md_L_err 16 (.if_icmp .lt 10) 3 19 (10) 26 := ⟨by decide +kernel, rfl, by decide, by decide⟩
theorem o_L_err_19 : InsA md_L_err 19 (.iload_n 1) 1 20 := ⟨by decide +kernel, rfl⟩
theorem o_L_err_20 : InsA md_L_err 20 (.sipush 1000) 3 23 := ⟨by decide +kernel, rfl⟩
theorem o_L_err_23 : InsB md_L_err 23 (.if_icmp .le 6) 3 26 (6) 29 := ⟨by decide +kernel, rfl, by decide, by decide⟩
theorem o_L_err_26 : InsA md_L_err 26 (.bipush (-5)) 2 28 := ⟨by decide +kernel, rfl⟩
theorem o_L_err_28 : InsA md_L_err 28 (.ireturn) 1 29 := ⟨by decide +kernel, rfl⟩
theorem o_L_err_29 : InsA md_L_err 29 (.iconst 0) 1 30 := ⟨by decide +kernel, rfl⟩
theorem o_L_err_30 : InsA md_L_err 30 (.ireturn) 1 31 := ⟨by decide +kernel, rfl⟩
abbrev md_submit : MD := (⟨"AuctionCross", "submit", "(IIII)I"⟩, prog_1_method_2_code, 6, some .int, { frames := 1, cells := 0, slots := 0, locals := 13 }, 0)
theorem al_submit (x0 : Int32) (x1 : Int32) (x2 : Int32) (x3 : Int32) : (argsToLocals [.ref 0, .int x0, .int x1, .int x2, .int x3].toArray (mxOf md_submit)).toList = [.val (.ref 0), .val (.int x0), .val (.int x1), .val (.int x2), .val (.int x3), .unset] := (Jvm.Sym.argsToLocals_toList _ _).trans rfl
theorem cv_submit {Z : State} {a0 : Array Value} (H : OK Z a0) : CalV Z a0 md_submit 4 := ⟨pn_AuctionCross, by decide, pd__IIII_I, H.w 56 rfl, H.w 58 rfl, H.w 2 rfl, Or.inl ⟨H.w 55 rfl, H.w 57 rfl⟩⟩
theorem o_submit_0 : InsA md_submit 0 (.aload_n 0) 1 1 := ⟨by decide +kernel, rfl⟩
theorem o_submit_1 : InsA md_submit 1 (.getfield 57) 3 4 := ⟨by decide +kernel, rfl⟩
theorem o_submit_4 : InsB md_submit 4 (.ifCond .eq 5) 3 7 (5) 9 := ⟨by decide +kernel, rfl, by decide, by decide⟩
theorem o_submit_7 : InsA md_submit 7 (.iconst (-1)) 1 8 := ⟨by decide +kernel, rfl⟩
theorem o_submit_8 : InsA md_submit 8 (.ireturn) 1 9 := ⟨by decide +kernel, rfl⟩
theorem o_submit_9 : InsA md_submit 9 (.iload_n 1) 1 10 := ⟨by decide +kernel, rfl⟩
theorem o_submit_10 : InsB md_submit 10 (.ifCond .lt 11) 3 13 (11) 21 := ⟨by decide +kernel, rfl, by decide, by decide⟩
theorem o_submit_13 : InsA md_submit 13 (.iload_n 1) 1 14 := ⟨by decide +kernel, rfl⟩
theorem o_submit_14 : InsA md_submit 14 (.aload_n 0) 1 15 := ⟨by decide +kernel, rfl⟩
theorem o_submit_15 : InsA md_submit 15 (.getfield 51) 3 18 := ⟨by decide +kernel, rfl⟩
theorem o_submit_18 : InsB md_submit 18 (.if_icmp .lt 6) 3 21 (6) 24 := ⟨by decide +kernel, rfl, by decide, by decide⟩
theorem o_submit_21 : InsA md_submit 21 (.bipush (-2)) 2 23 := ⟨by decide +kernel, rfl⟩
theorem o_submit_23 : InsA md_submit 23 (.ireturn) 1 24 := ⟨by decide +kernel, rfl⟩
theorem o_submit_24 : InsA md_submit 24 (.iload_n 2) 1 25 := ⟨by decide +kernel, rfl⟩
theorem o_submit_25 : InsB md_submit 25 (.ifCond .eq 11) 3 28 (11) 36 := ⟨by decide +kernel, rfl, by decide, by decide⟩
theorem o_submit_28 : InsA md_submit 28 (.iload_n 2) 1 29 := ⟨by decide +kernel, rfl⟩
theorem o_submit_29 : InsA md_submit 29 (.iconst 1) 1 30 := ⟨by decide +kernel, rfl⟩
theorem o_submit_30 : InsB md_submit 30 (.if_icmp .eq 6) 3 33 (6) 36 := ⟨by decide +kernel, rfl, by decide, by decide⟩
theorem o_submit_33 : InsA md_submit 33 (.bipush (-3)) 2 35 := ⟨by decide +kernel, rfl⟩
theorem o_submit_35 : InsA md_submit 35 (.ireturn) 1 36 := ⟨by decide +kernel, rfl⟩
theorem o_submit_36 : InsA md_submit 36 (.iload_n 3) 1 37 := ⟨by decide +kernel, rfl⟩
theorem o_submit_37 : InsB md_submit 37 (.ifCond .lt 10) 3 40 (10) 47 := ⟨by decide +kernel, rfl, by decide, by decide⟩
theorem o_submit_40 : InsA md_submit 40 (.iload_n 3) 1 41 := ⟨by decide +kernel, rfl⟩
theorem o_submit_41 : InsA md_submit 41 (.sipush 255) 3 44 := ⟨by decide +kernel, rfl⟩
theorem o_submit_44 : InsB md_submit 44 (.if_icmp .le 6) 3 47 (6) 50 := ⟨by decide +kernel, rfl, by decide, by decide⟩
theorem o_submit_47 : InsA md_submit 47 (.bipush (-4)) 2 49 := ⟨by decide +kernel, rfl⟩
theorem o_submit_49 : InsA md_submit 49 (.ireturn) 1 50 := ⟨by decide +kernel, rfl⟩
theorem o_submit_50 : InsA md_submit 50 (.iload 4) 2 52 := ⟨by decide +kernel, rfl⟩
theorem o_submit_52 : InsA md_submit 52 (.iconst 1) 1 53 := ⟨by decide +kernel, rfl⟩
theorem o_submit_53 : InsB md_submit 53 (.if_icmp .lt 11) 3 56 (11) 64 := ⟨by decide +kernel, rfl, by decide, by decide⟩
theorem o_submit_56 : InsA md_submit 56 (.iload 4) 2 58 := ⟨by decide +kernel, rfl⟩
theorem o_submit_58 : InsA md_submit 58 (.sipush 1000) 3 61 := ⟨by decide +kernel, rfl⟩
theorem o_submit_61 : InsB md_submit 61 (.if_icmp .le 6) 3 64 (6) 67 := ⟨by decide +kernel, rfl, by decide, by decide⟩
theorem o_submit_64 : InsA md_submit 64 (.bipush (-5)) 2 66 := ⟨by decide +kernel, rfl⟩
theorem o_submit_66 : InsA md_submit 66 (.ireturn) 1 67 := ⟨by decide +kernel, rfl⟩
theorem o_submit_67 : InsA md_submit 67 (.aload_n 0) 1 68 := ⟨by decide +kernel, rfl⟩
theorem o_submit_68 : InsA md_submit 68 (.invokevirtual 69) 3 71 := ⟨by decide +kernel, rfl⟩
theorem o_submit_71 : InsA md_submit 71 (.istore 5) 2 73 := ⟨by decide +kernel, rfl⟩
theorem o_submit_73 : InsA md_submit 73 (.iload 5) 2 75 := ⟨by decide +kernel, rfl⟩
theorem o_submit_75 : InsB md_submit 75 (.ifCond .ge 6) 3 78 (6) 81 := ⟨by decide +kernel, rfl, by decide, by decide⟩
theorem o_submit_78 : InsA md_submit 78 (.bipush (-6)) 2 80 := ⟨by decide +kernel, rfl⟩
theorem o_submit_80 : InsA md_submit 80 (.ireturn) 1 81 := ⟨by decide +kernel, rfl⟩
theorem o_submit_81 : InsA md_submit 81 (.aload_n 0) 1 82 := ⟨by decide +kernel, rfl⟩
theorem o_submit_82 : InsA md_submit 82 (.getfield 7) 3 85 := ⟨by decide +kernel, rfl⟩
theorem o_submit_85 : InsA md_submit 85 (.iload 5) 2 87 := ⟨by decide +kernel, rfl⟩
theorem o_submit_87 : InsA md_submit 87 (.iconst 1) 1 88 := ⟨by decide +kernel, rfl⟩
theorem o_submit_88 : InsA md_submit 88 (.iastore) 1 89 := ⟨by decide +kernel, rfl⟩
theorem o_submit_89 : InsA md_submit 89 (.aload_n 0) 1 90 := ⟨by decide +kernel, rfl⟩
theorem o_submit_90 : InsA md_submit 90 (.getfield 13) 3 93 := ⟨by decide +kernel, rfl⟩
theorem o_submit_93 : InsA md_submit 93 (.iload 5) 2 95 := ⟨by decide +kernel, rfl⟩
theorem o_submit_95 : InsA md_submit 95 (.iload_n 1) 1 96 := ⟨by decide +kernel, rfl⟩
theorem o_submit_96 : InsA md_submit 96 (.iastore) 1 97 := ⟨by decide +kernel, rfl⟩
theorem o_submit_97 : InsA md_submit 97 (.aload_n 0) 1 98 := ⟨by decide +kernel, rfl⟩
theorem o_submit_98 : InsA md_submit 98 (.getfield 16) 3 101 := ⟨by decide +kernel, rfl⟩
theorem o_submit_101 : InsA md_submit 101 (.iload 5) 2 103 := ⟨by decide +kernel, rfl⟩
theorem o_submit_103 : InsA md_submit 103 (.iload_n 2) 1 104 := ⟨by decide +kernel, rfl⟩
theorem o_submit_104 : InsA md_submit 104 (.iastore) 1 105 := ⟨by decide +kernel, rfl⟩
theorem o_submit_105 : InsA md_submit 105 (.aload_n 0) 1 106 := ⟨by decide +kernel, rfl⟩
theorem o_submit_106 : InsA md_submit 106 (.getfield 19) 3 109 := ⟨by decide +kernel, rfl⟩
theorem o_submit_109 : InsA md_submit 109 (.iload 5) 2 111 := ⟨by decide +kernel, rfl⟩
theorem o_submit_111 : InsA md_submit 111 (.iload_n 3) 1 112 := ⟨by decide +kernel, rfl⟩
theorem o_submit_112 : InsA md_submit 112 (.iastore) 1 113 := ⟨by decide +kernel, rfl⟩
theorem o_submit_113 : InsA md_submit 113 (.aload_n 0) 1 114 := ⟨by decide +kernel, rfl⟩
theorem o_submit_114 : InsA md_submit 114 (.getfield 22) 3 117 := ⟨by decide +kernel, rfl⟩
theorem o_submit_117 : InsA md_submit 117 (.iload 5) 2 119 := ⟨by decide +kernel, rfl⟩
theorem o_submit_119 : InsA md_submit 119 (.iload 4) 2 121 := ⟨by decide +kernel, rfl⟩
theorem o_submit_121 : InsA md_submit 121 (.iastore) 1 122 := ⟨by decide +kernel, rfl⟩
theorem o_submit_122 : InsA md_submit 122 (.aload_n 0) 1 123 := ⟨by decide +kernel, rfl⟩
theorem o_submit_123 : InsA md_submit 123 (.getfield 25) 3 126 := ⟨by decide +kernel, rfl⟩
theorem o_submit_126 : InsA md_submit 126 (.iload 5) 2 128 := ⟨by decide +kernel, rfl⟩
theorem o_submit_128 : InsA md_submit 128 (.iconst 0) 1 129 := ⟨by decide +kernel, rfl⟩
theorem o_submit_129 : InsA md_submit 129 (.iastore) 1 130 := ⟨by decide +kernel, rfl⟩
theorem o_submit_130 : InsA md_submit 130 (.aload_n 0) 1 131 := ⟨by decide +kernel, rfl⟩
theorem o_submit_131 : InsA md_submit 131 (.getfield 28) 3 134 := ⟨by decide +kernel, rfl⟩
theorem o_submit_134 : InsA md_submit 134 (.iload 5) 2 136 := ⟨by decide +kernel, rfl⟩
theorem o_submit_136 : InsA md_submit 136 (.aload_n 0) 1 137 := ⟨by decide +kernel, rfl⟩
theorem o_submit_137 : InsA md_submit 137 (.getfield 60) 3 140 := ⟨by decide +kernel, rfl⟩
theorem o_submit_140 : InsA md_submit 140 (.iastore) 1 141 := ⟨by decide +kernel, rfl⟩
theorem o_submit_141 : InsA md_submit 141 (.aload_n 0) 1 142 := ⟨by decide +kernel, rfl⟩
theorem o_submit_142 : InsA md_submit 142 (.dup) 1 143 := ⟨by decide +kernel, rfl⟩
theorem o_submit_143 : InsA md_submit 143 (.getfield 60) 3 146 := ⟨by decide +kernel, rfl⟩
theorem o_submit_146 : InsA md_submit 146 (.iconst 1) 1 147 := ⟨by decide +kernel, rfl⟩
theorem o_submit_147 : InsA md_submit 147 (.iadd) 1 148 := ⟨by decide +kernel, rfl⟩
theorem o_submit_148 : InsA md_submit 148 (.putfield 60) 3 151 := ⟨by decide +kernel, rfl⟩
theorem o_submit_151 : InsA md_submit 151 (.iload 5) 2 153 := ⟨by decide +kernel, rfl⟩
theorem o_submit_153 : InsA md_submit 153 (.ireturn) 1 154 := ⟨by decide +kernel, rfl⟩
abbrev md_findFree : MD := (⟨"AuctionCross", "findFree", "()I"⟩, prog_1_method_24_code, 2, some .int, { frames := 0, cells := 0, slots := 0, locals := 0 }, 0)
theorem cv_findFree {Z : State} {a0 : Array Value} (H : OK Z a0) : CalV Z a0 md_findFree 0 := ⟨pn_AuctionCross, by decide, pd___I, H.w 60 rfl, H.w 62 rfl, H.w 2 rfl, Or.inr ⟨H.w 61 rfl, 18, H.w 1 rfl⟩⟩
theorem o_findFree_0 : InsA md_findFree 0 (.iconst 0) 1 1 := ⟨by decide +kernel, rfl⟩
theorem o_findFree_1 : InsA md_findFree 1 (.istore_n 1) 1 2 := ⟨by decide +kernel, rfl⟩
theorem o_findFree_2 : InsA md_findFree 2 (.iload_n 1) 1 3 := ⟨by decide +kernel, rfl⟩
theorem o_findFree_3 : InsA md_findFree 3 (.aload_n 0) 1 4 := ⟨by decide +kernel, rfl⟩
theorem o_findFree_4 : InsA md_findFree 4 (.getfield 47) 3 7 := ⟨by decide +kernel, rfl⟩
theorem o_findFree_7 : InsB md_findFree 7 (.if_icmp .ge 20) 3 10 (20) 27 := ⟨by decide +kernel, rfl, by decide, by decide⟩
theorem o_findFree_10 : InsA md_findFree 10 (.aload_n 0) 1 11 := ⟨by decide +kernel, rfl⟩
theorem o_findFree_11 : InsA md_findFree 11 (.getfield 7) 3 14 := ⟨by decide +kernel, rfl⟩
theorem o_findFree_14 : InsA md_findFree 14 (.iload_n 1) 1 15 := ⟨by decide +kernel, rfl⟩
theorem o_findFree_15 : InsA md_findFree 15 (.iaload) 1 16 := ⟨by decide +kernel, rfl⟩
theorem o_findFree_16 : InsB md_findFree 16 (.ifCond .ne 5) 3 19 (5) 21 := ⟨by decide +kernel, rfl, by decide, by decide⟩
theorem o_findFree_19 : InsA md_findFree 19 (.iload_n 1) 1 20 := ⟨by decide +kernel, rfl⟩
theorem o_findFree_20 : InsA md_findFree 20 (.ireturn) 1 21 := ⟨by decide +kernel, rfl⟩
theorem o_findFree_21 : InsA md_findFree 21 (.iinc 1 1) 3 24 := ⟨by decide +kernel, rfl⟩
theorem o_findFree_24 : InsB md_findFree 24 (.goto (-22)) 3 27 (-22) 2 := ⟨by decide +kernel, rfl, by decide, by decide⟩
theorem o_findFree_27 : InsA md_findFree 27 (.iconst (-1)) 1 28 := ⟨by decide +kernel, rfl⟩
theorem o_findFree_28 : InsA md_findFree 28 (.ireturn) 1 29 := ⟨by decide +kernel, rfl⟩
abbrev md_indicativeVolume : MD := (⟨"AuctionCross", "indicativeVolume", "()I"⟩, prog_1_method_10_code, 1, some .int, { frames := 3, cells := 0, slots := 0, locals := 42 }, 0)
theorem cv_indicativeVolume {Z : State} {a0 : Array Value} (H : OK Z a0) : CalV Z a0 md_indicativeVolume 0 := ⟨pn_AuctionCross, by decide, pd___I, H.w 65 rfl, H.w 67 rfl, H.w 2 rfl, Or.inl ⟨H.w 64 rfl, H.w 66 rfl⟩⟩
theorem o_indicativeVolume_0 : InsA md_indicativeVolume 0 (.aload_n 0) 1 1 := ⟨by decide +kernel, rfl⟩
theorem o_indicativeVolume_1 : InsA md_indicativeVolume 1 (.invokevirtual 84) 3 4 := ⟨by decide +kernel, rfl⟩
theorem o_indicativeVolume_4 : InsA md_indicativeVolume 4 (.aload_n 0) 1 5 := ⟨by decide +kernel, rfl⟩
theorem o_indicativeVolume_5 : InsA md_indicativeVolume 5 (.invokevirtual 87) 3 8 := ⟨by decide +kernel, rfl⟩
theorem o_indicativeVolume_8 : InsA md_indicativeVolume 8 (.ireturn) 1 9 := ⟨by decide +kernel, rfl⟩
abbrev md_buildCurves : MD := (⟨"AuctionCross", "buildCurves", "()V"⟩, prog_1_method_27_code, 4, none, { frames := 1, cells := 0, slots := 0, locals := 14 }, 0)
theorem cv_buildCurves {Z : State} {a0 : Array Value} (H : OK Z a0) : CalV Z a0 md_buildCurves 0 := ⟨pn_AuctionCross, by decide, pd___V, H.w 69 rfl, H.w 71 rfl, H.w 2 rfl, Or.inr ⟨H.w 70 rfl, 18, H.w 1 rfl⟩⟩
theorem o_buildCurves_0 : InsA md_buildCurves 0 (.aload_n 0) 1 1 := ⟨by decide +kernel, rfl⟩
theorem o_buildCurves_1 : InsA md_buildCurves 1 (.invokevirtual 101) 3 4 := ⟨by decide +kernel, rfl⟩
theorem o_buildCurves_4 : InsA md_buildCurves 4 (.iconst 0) 1 5 := ⟨by decide +kernel, rfl⟩
theorem o_buildCurves_5 : InsA md_buildCurves 5 (.istore_n 1) 1 6 := ⟨by decide +kernel, rfl⟩
theorem o_buildCurves_6 : InsA md_buildCurves 6 (.iconst 0) 1 7 := ⟨by decide +kernel, rfl⟩
theorem o_buildCurves_7 : InsA md_buildCurves 7 (.istore_n 2) 1 8 := ⟨by decide +kernel, rfl⟩
theorem o_buildCurves_8 : InsA md_buildCurves 8 (.iload_n 2) 1 9 := ⟨by decide +kernel, rfl⟩
theorem o_buildCurves_9 : InsA md_buildCurves 9 (.aload_n 0) 1 10 := ⟨by decide +kernel, rfl⟩
theorem o_buildCurves_10 : InsA md_buildCurves 10 (.getfield 47) 3 13 := ⟨by decide +kernel, rfl⟩
theorem o_buildCurves_13 : InsB md_buildCurves 13 (.if_icmp .ge 101) 3 16 (101) 114 := ⟨by decide +kernel, rfl, by decide, by decide⟩
theorem o_buildCurves_16 : InsA md_buildCurves 16 (.aload_n 0) 1 17 := ⟨by decide +kernel, rfl⟩
theorem o_buildCurves_17 : InsA md_buildCurves 17 (.getfield 7) 3 20 := ⟨by decide +kernel, rfl⟩
theorem o_buildCurves_20 : InsA md_buildCurves 20 (.iload_n 2) 1 21 := ⟨by decide +kernel, rfl⟩
theorem o_buildCurves_21 : InsA md_buildCurves 21 (.iaload) 1 22 := ⟨by decide +kernel, rfl⟩
theorem o_buildCurves_22 : InsA md_buildCurves 22 (.iconst 1) 1 23 := ⟨by decide +kernel, rfl⟩
theorem o_buildCurves_23 : InsB md_buildCurves 23 (.if_icmp .eq 6) 3 26 (6) 29 := ⟨by decide +kernel, rfl, by decide, by decide⟩
theorem o_buildCurves_26 : InsB md_buildCurves 26 (.goto 82) 3 29 (82) 108 := ⟨by decide +kernel, rfl, by decide, by decide⟩
theorem o_buildCurves_29 : InsA md_buildCurves 29 (.aload_n 0) 1 30 := ⟨by decide +kernel, rfl⟩
theorem o_buildCurves_30 : InsA md_buildCurves 30 (.getfield 19) 3 33 := ⟨by decide +kernel, rfl⟩
theorem o_buildCurves_33 : InsA md_buildCurves 33 (.iload_n 2) 1 34 := ⟨by decide +kernel, rfl⟩
theorem o_buildCurves_34 : InsA md_buildCurves 34 (.iaload) 1 35 := ⟨by decide +kernel, rfl⟩
theorem o_buildCurves_35 : InsA md_buildCurves 35 (.istore_n 3) 1 36 := ⟨by decide +kernel, rfl⟩
theorem o_buildCurves_36 : InsA md_buildCurves 36 (.iload_n 3) 1 37 := ⟨by decide +kernel, rfl⟩
theorem o_buildCurves_37 : InsB md_buildCurves 37 (.ifCond .lt 71) 3 40 (71) 108 := ⟨by decide +kernel, rfl, by decide, by decide⟩
theorem o_buildCurves_40 : InsA md_buildCurves 40 (.iload_n 3) 1 41 := ⟨by decide +kernel, rfl⟩
theorem o_buildCurves_41 : InsA md_buildCurves 41 (.sipush 255) 3 44 := ⟨by decide +kernel, rfl⟩
theorem o_buildCurves_44 : InsB md_buildCurves 44 (.if_icmp .le 6) 3 47 (6) 50 := ⟨by decide +kernel, rfl, by decide, by decide⟩
theorem o_buildCurves_47 : InsB md_buildCurves 47 (.goto 61) 3 50 (61) 108 := ⟨by decide +kernel, rfl, by decide, by decide⟩
theorem o_buildCurves_50 : InsA md_buildCurves 50 (.aload_n 0) 1 51 := ⟨by decide +kernel, rfl⟩
theorem o_buildCurves_51 : InsA md_buildCurves 51 (.getfield 16) 3 54 := ⟨by decide +kernel, rfl⟩
theorem o_buildCurves_54 : InsA md_buildCurves 54 (.iload_n 2) 1 55 := ⟨by decide +kernel, rfl⟩
theorem o_buildCurves_55 : InsA md_buildCurves 55 (.iaload) 1 56 := ⟨by decide +kernel, rfl⟩
theorem o_buildCurves_56 : InsB md_buildCurves 56 (.ifCond .ne 37) 3 59 (37) 93 := ⟨by decide +kernel, rfl, by decide, by decide⟩
theorem o_buildCurves_59 : InsA md_buildCurves 59 (.iload_n 3) 1 60 := ⟨by decide +kernel, rfl⟩
theorem o_buildCurves_60 : InsB md_buildCurves 60 (.ifCond .ne 15) 3 63 (15) 75 := ⟨by decide +kernel, rfl, by decide, by decide⟩
theorem o_buildCurves_63 : InsA md_buildCurves 63 (.iload_n 1) 1 64 := ⟨by decide +kernel, rfl⟩
theorem o_buildCurves_64 : InsA md_buildCurves 64 (.aload_n 0) 1 65 := ⟨by decide +kernel, rfl⟩
theorem o_buildCurves_65 : InsA md_buildCurves 65 (.getfield 22) 3 68 := ⟨by decide +kernel, rfl⟩
theorem o_buildCurves_68 : InsA md_buildCurves 68 (.iload_n 2) 1 69 := ⟨by decide +kernel, rfl⟩
theorem o_buildCurves_69 : InsA md_buildCurves 69 (.iaload) 1 70 := ⟨by decide +kernel, rfl⟩
theorem o_buildCurves_70 : InsA md_buildCurves 70 (.iadd) 1 71 := ⟨by decide +kernel, rfl⟩
theorem o_buildCurves_71 : InsA md_buildCurves 71 (.istore_n 1) 1 72 := ⟨by decide +kernel, rfl⟩
theorem o_buildCurves_72 : InsB md_buildCurves 72 (.goto 36) 3 75 (36) 108 := ⟨by decide +kernel, rfl, by decide, by decide⟩
theorem o_buildCurves_75 : InsA md_buildCurves 75 (.aload_n 0) 1 76 := ⟨by decide +kernel, rfl⟩
theorem o_buildCurves_76 : InsA md_buildCurves 76 (.getfield 37) 3 79 := ⟨by decide +kernel, rfl⟩
theorem o_buildCurves_79 : InsA md_buildCurves 79 (.iload_n 3) 1 80 := ⟨by decide +kernel, rfl⟩
theorem o_buildCurves_80 : InsA md_buildCurves 80 (.dup2) 1 81 := ⟨by decide +kernel, rfl⟩
theorem o_buildCurves_81 : InsA md_buildCurves 81 (.iaload) 1 82 := ⟨by decide +kernel, rfl⟩
theorem o_buildCurves_82 : InsA md_buildCurves 82 (.aload_n 0) 1 83 := ⟨by decide +kernel, rfl⟩
theorem o_buildCurves_83 : InsA md_buildCurves 83 (.getfield 22) 3 86 := ⟨by decide +kernel, rfl⟩
theorem o_buildCurves_86 : InsA md_buildCurves 86 (.iload_n 2) 1 87 := ⟨by decide +kernel, rfl⟩
theorem o_buildCurves_87 : InsA md_buildCurves 87 (.iaload) 1 88 := ⟨by decide +kernel, rfl⟩
theorem o_buildCurves_88 : InsA md_buildCurves 88 (.iadd) 1 89 := ⟨by decide +kernel, rfl⟩
theorem o_buildCurves_89 : InsA md_buildCurves 89 (.iastore) 1 90 := ⟨by decide +kernel, rfl⟩
theorem o_buildCurves_90 : InsB md_buildCurves 90 (.goto 18) 3 93 (18) 108 := ⟨by decide +kernel, rfl, by decide, by decide⟩
theorem o_buildCurves_93 : InsA md_buildCurves 93 (.aload_n 0) 1 94 := ⟨by decide +kernel, rfl⟩
theorem o_buildCurves_94 : InsA md_buildCurves 94 (.getfield 40) 3 97 := ⟨by decide +kernel, rfl⟩
theorem o_buildCurves_97 : InsA md_buildCurves 97 (.iload_n 3) 1 98 := ⟨by decide +kernel, rfl⟩
theorem o_buildCurves_98 : InsA md_buildCurves 98 (.dup2) 1 99 := ⟨by decide +kernel, rfl⟩
theorem o_buildCurves_99 : InsA md_buildCurves 99 (.iaload) 1 100 := ⟨by decide +kernel, rfl⟩
theorem o_buildCurves_100 : InsA md_buildCurves 100 (.aload_n 0) 1 101 := ⟨by decide +kernel, rfl⟩
theorem o_buildCurves_101 : InsA md_buildCurves 101 (.getfield 22) 3 104 := ⟨by decide +kernel, rfl⟩
theorem o_buildCurves_104 : InsA md_buildCurves 104 (.iload_n 2) 1 105 := ⟨by decide +kernel, rfl⟩
theorem o_buildCurves_105 : InsA md_buildCurves 105 (.iaload) 1 106 := ⟨by decide +kernel, rfl⟩
theorem o_buildCurves_106 : InsA md_buildCurves 106 (.iadd) 1 107 := ⟨by decide +kernel, rfl⟩
theorem o_buildCurves_107 : InsA md_buildCurves 107 (.iastore) 1 108 := ⟨by decide +kernel, rfl⟩
theorem o_buildCurves_108 : InsA md_buildCurves 108 (.iinc 2 1) 3 111 := ⟨by decide +kernel, rfl⟩
theorem o_buildCurves_111 : InsB md_buildCurves 111 (.goto (-103)) 3 114 (-103) 8 := ⟨by decide +kernel, rfl, by decide, by decide⟩
theorem o_buildCurves_114 : InsA md_buildCurves 114 (.aload_n 0) 1 115 := ⟨by decide +kernel, rfl⟩
theorem o_buildCurves_115 : InsA md_buildCurves 115 (.iload_n 1) 1 116 := ⟨by decide +kernel, rfl⟩
theorem o_buildCurves_116 : InsA md_buildCurves 116 (.invokevirtual 104) 3 119 := ⟨by decide +kernel, rfl⟩
theorem o_buildCurves_119 : InsA md_buildCurves 119 (.return_) 1 120 := ⟨by decide +kernel, rfl⟩
abbrev md_clearCurves : MD := (⟨"AuctionCross", "clearCurves", "()V"⟩, prog_1_method_26_code, 2, none, { frames := 0, cells := 0, slots := 0, locals := 0 }, 0)
theorem cv_clearCurves {Z : State} {a0 : Array Value} (H : OK Z a0) : CalV Z a0 md_clearCurves 0 := ⟨pn_AuctionCross, by decide, pd___V, H.w 73 rfl, H.w 75 rfl, H.w 2 rfl, Or.inr ⟨H.w 74 rfl, 18, H.w 1 rfl⟩⟩
theorem o_clearCurves_0 : InsA md_clearCurves 0 (.iconst 0) 1 1 := ⟨by decide +kernel, rfl⟩
theorem o_clearCurves_1 : InsA md_clearCurves 1 (.istore_n 1) 1 2 := ⟨by decide +kernel, rfl⟩
theorem o_clearCurves_2 : InsA md_clearCurves 2 (.iload_n 1) 1 3 := ⟨by decide +kernel, rfl⟩
theorem o_clearCurves_3 : InsA md_clearCurves 3 (.sipush 256) 3 6 := ⟨by decide +kernel, rfl⟩
theorem o_clearCurves_6 : InsB md_clearCurves 6 (.if_icmp .gt 23) 3 9 (23) 29 := ⟨by decide +kernel, rfl, by decide, by decide⟩
theorem o_clearCurves_9 : InsA md_clearCurves 9 (.aload_n 0) 1 10 := ⟨by decide +kernel, rfl⟩
theorem o_clearCurves_10 : InsA md_clearCurves 10 (.getfield 37) 3 13 := ⟨by decide +kernel, rfl⟩
theorem o_clearCurves_13 : InsA md_clearCurves 13 (.iload_n 1) 1 14 := ⟨by decide +kernel, rfl⟩
theorem o_clearCurves_14 : InsA md_clearCurves 14 (.iconst 0) 1 15 := ⟨by decide +kernel, rfl⟩
theorem o_clearCurves_15 : InsA md_clearCurves 15 (.iastore) 1 16 := ⟨by decide +kernel, rfl⟩
theorem o_clearCurves_16 : InsA md_clearCurves 16 (.aload_n 0) 1 17 := ⟨by decide +kernel, rfl⟩
theorem o_clearCurves_17 : InsA md_clearCurves 17 (.getfield 40) 3 20 := ⟨by decide +kernel, rfl⟩
theorem o_clearCurves_20 : InsA md_clearCurves 20 (.iload_n 1) 1 21 := ⟨by decide +kernel, rfl⟩
theorem o_clearCurves_21 : InsA md_clearCurves 21 (.iconst 0) 1 22 := ⟨by decide +kernel, rfl⟩
theorem o_clearCurves_22 : InsA md_clearCurves 22 (.iastore) 1 23 := ⟨by decide +kernel, rfl⟩
theorem o_clearCurves_23 : InsA md_clearCurves 23 (.iinc 1 1) 3 26 := ⟨by decide +kernel, rfl⟩
theorem o_clearCurves_26 : InsB md_clearCurves 26 (.goto (-24)) 3 29 (-24) 2 := ⟨by decide +kernel, rfl, by decide, by decide⟩
theorem o_clearCurves_29 : InsA md_clearCurves 29 (.return_) 1 30 := ⟨by decide +kernel, rfl⟩
abbrev md_accumulate : MD := (⟨"AuctionCross", "accumulate", "(I)V"⟩, prog_1_method_28_code, 3, none, { frames := 0, cells := 0, slots := 0, locals := 0 }, 0)
theorem cv_accumulate {Z : State} {a0 : Array Value} (H : OK Z a0) : CalV Z a0 md_accumulate 1 := ⟨pn_AuctionCross, by decide, pd__I_V, H.w 77 rfl, H.w 79 rfl, H.w 2 rfl, Or.inr ⟨H.w 78 rfl, 18, H.w 1 rfl⟩⟩
theorem o_accumulate_0 : InsA md_accumulate 0 (.sipush 255) 3 3 := ⟨by decide +kernel, rfl⟩
theorem o_accumulate_3 : InsA md_accumulate 3 (.istore_n 2) 1 4 := ⟨by decide +kernel, rfl⟩
theorem o_accumulate_4 : InsA md_accumulate 4 (.iload_n 2) 1 5 := ⟨by decide +kernel, rfl⟩
theorem o_accumulate_5 : InsA md_accumulate 5 (.iconst 1) 1 6 := ⟨by decide +kernel, rfl⟩
theorem o_accumulate_6 : InsB md_accumulate 6 (.if_icmp .lt 26) 3 9 (26) 32 := ⟨by decide +kernel, rfl, by decide, by decide⟩
theorem o_accumulate_9 : InsA md_accumulate 9 (.aload_n 0) 1 10 := ⟨by decide +kernel, rfl⟩
theorem o_accumulate_10 : InsA md_accumulate 10 (.getfield 37) 3 13 := ⟨by decide +kernel, rfl⟩
theorem o_accumulate_13 : InsA md_accumulate 13 (.iload_n 2) 1 14 := ⟨by decide +kernel, rfl⟩
theorem o_accumulate_14 : InsA md_accumulate 14 (.dup2) 1 15 := ⟨by decide +kernel, rfl⟩
theorem o_accumulate_15 : InsA md_accumulate 15 (.iaload) 1 16 := ⟨by decide +kernel, rfl⟩
theorem o_accumulate_16 : InsA md_accumulate 16 (.aload_n 0) 1 17 := ⟨by decide +kernel, rfl⟩
theorem o_accumulate_17 : InsA md_accumulate 17 (.getfield 37) 3 20 := ⟨by decide +kernel, rfl⟩
theorem o_accumulate_20 : InsA md_accumulate 20 (.iload_n 2) 1 21 := ⟨by decide +kernel, rfl⟩
theorem o_accumulate_21 : InsA md_accumulate 21 (.iconst 1) 1 22 := ⟨by decide +kernel, rfl⟩
theorem o_accumulate_22 : InsA md_accumulate 22 (.iadd) 1 23 := ⟨by decide +kernel, rfl⟩
theorem o_accumulate_23 : InsA md_accumulate 23 (.iaload) 1 24 := ⟨by decide +kernel, rfl⟩
theorem o_accumulate_24 : InsA md_accumulate 24 (.iadd) 1 25 := ⟨by decide +kernel, rfl⟩
theorem o_accumulate_25 : InsA md_accumulate 25 (.iastore) 1 26 := ⟨by decide +kernel, rfl⟩
theorem o_accumulate_26 : InsA md_accumulate 26 (.iinc 2 (-1)) 3 29 := ⟨by decide +kernel, rfl⟩
theorem o_accumulate_29 : InsB md_accumulate 29 (.goto (-25)) 3 32 (-25) 4 := ⟨by decide +kernel, rfl, by decide, by decide⟩
theorem o_accumulate_32 : InsA md_accumulate 32 (.iconst 1) 1 33 := ⟨by decide +kernel, rfl⟩
theorem o_accumulate_33 : InsA md_accumulate 33 (.istore_n 2) 1 34 := ⟨by decide +kernel, rfl⟩
theorem o_accumulate_34 : InsA md_accumulate 34 (.iload_n 2) 1 35 := ⟨by decide +kernel, rfl⟩
theorem o_accumulate_35 : InsA md_accumulate 35 (.sipush 255) 3 38 := ⟨by decide +kernel, rfl⟩
theorem o_accumulate_38 : InsB md_accumulate 38 (.if_icmp .gt 36) 3 41 (36) 74 := ⟨by decide +kernel, rfl, by decide, by decide⟩
theorem o_accumulate_41 : InsA md_accumulate 41 (.aload_n 0) 1 42 := ⟨by decide +kernel, rfl⟩
theorem o_accumulate_42 : InsA md_accumulate 42 (.getfield 37) 3 45 := ⟨by decide +kernel, rfl⟩
theorem o_accumulate_45 : InsA md_accumulate 45 (.iload_n 2) 1 46 := ⟨by decide +kernel, rfl⟩
theorem o_accumulate_46 : InsA md_accumulate 46 (.dup2) 1 47 := ⟨by decide +kernel, rfl⟩
theorem o_accumulate_47 : InsA md_accumulate 47 (.iaload) 1 48 := ⟨by decide +kernel, rfl⟩
theorem o_accumulate_48 : InsA md_accumulate 48 (.iload_n 1) 1 49 := ⟨by decide +kernel, rfl⟩
theorem o_accumulate_49 : InsA md_accumulate 49 (.iadd) 1 50 := ⟨by decide +kernel, rfl⟩
theorem o_accumulate_50 : InsA md_accumulate 50 (.iastore) 1 51 := ⟨by decide +kernel, rfl⟩
theorem o_accumulate_51 : InsA md_accumulate 51 (.aload_n 0) 1 52 := ⟨by decide +kernel, rfl⟩
theorem o_accumulate_52 : InsA md_accumulate 52 (.getfield 40) 3 55 := ⟨by decide +kernel, rfl⟩
theorem o_accumulate_55 : InsA md_accumulate 55 (.iload_n 2) 1 56 := ⟨by decide +kernel, rfl⟩
theorem o_accumulate_56 : InsA md_accumulate 56 (.dup2) 1 57 := ⟨by decide +kernel, rfl⟩
theorem o_accumulate_57 : InsA md_accumulate 57 (.iaload) 1 58 := ⟨by decide +kernel, rfl⟩
theorem o_accumulate_58 : InsA md_accumulate 58 (.aload_n 0) 1 59 := ⟨by decide +kernel, rfl⟩
theorem o_accumulate_59 : InsA md_accumulate 59 (.getfield 40) 3 62 := ⟨by decide +kernel, rfl⟩
theorem o_accumulate_62 : InsA md_accumulate 62 (.iload_n 2) 1 63 := ⟨by decide +kernel, rfl⟩
theorem o_accumulate_63 : InsA md_accumulate 63 (.iconst 1) 1 64 := ⟨by decide +kernel, rfl⟩
theorem o_accumulate_64 : InsA md_accumulate 64 (.isub) 1 65 := ⟨by decide +kernel, rfl⟩
theorem o_accumulate_65 : InsA md_accumulate 65 (.iaload) 1 66 := ⟨by decide +kernel, rfl⟩
theorem o_accumulate_66 : InsA md_accumulate 66 (.iadd) 1 67 := ⟨by decide +kernel, rfl⟩
theorem o_accumulate_67 : InsA md_accumulate 67 (.iastore) 1 68 := ⟨by decide +kernel, rfl⟩
theorem o_accumulate_68 : InsA md_accumulate 68 (.iinc 2 1) 3 71 := ⟨by decide +kernel, rfl⟩
theorem o_accumulate_71 : InsB md_accumulate 71 (.goto (-37)) 3 74 (-37) 34 := ⟨by decide +kernel, rfl, by decide, by decide⟩
theorem o_accumulate_74 : InsA md_accumulate 74 (.return_) 1 75 := ⟨by decide +kernel, rfl⟩
abbrev md_maxVolume : MD := (⟨"AuctionCross", "maxVolume", "()I"⟩, prog_1_method_31_code, 4, some .int, { frames := 2, cells := 0, slots := 0, locals := 27 }, 0)
theorem cv_maxVolume {Z : State} {a0 : Array Value} (H : OK Z a0) : CalV Z a0 md_maxVolume 0 := ⟨pn_AuctionCross, by decide, pd___I, H.w 81 rfl, H.w 83 rfl, H.w 2 rfl, Or.inr ⟨H.w 82 rfl, 18, H.w 1 rfl⟩⟩
theorem o_maxVolume_0 : InsA md_maxVolume 0 (.iconst 0) 1 1 := ⟨by decide +kernel, rfl⟩
theorem o_maxVolume_1 : InsA md_maxVolume 1 (.istore_n 1) 1 2 := ⟨by decide +kernel, rfl⟩
theorem o_maxVolume_2 : InsA md_maxVolume 2 (.iconst 1) 1 3 := ⟨by decide +kernel, rfl⟩
theorem o_maxVolume_3 : InsA md_maxVolume 3 (.istore_n 2) 1 4 := ⟨by decide +kernel, rfl⟩
theorem o_maxVolume_4 : InsA md_maxVolume 4 (.iload_n 2) 1 5 := ⟨by decide +kernel, rfl⟩
theorem o_maxVolume_5 : InsA md_maxVolume 5 (.sipush 255) 3 8 := ⟨by decide +kernel, rfl⟩
theorem o_maxVolume_8 : InsB md_maxVolume 8 (.if_icmp .gt 22) 3 11 (22) 30 := ⟨by decide +kernel, rfl, by decide, by decide⟩
theorem o_maxVolume_11 : InsA md_maxVolume 11 (.aload_n 0) 1 12 := ⟨by decide +kernel, rfl⟩
theorem o_maxVolume_12 : InsA md_maxVolume 12 (.iload_n 2) 1 13 := ⟨by decide +kernel, rfl⟩
theorem o_maxVolume_13 : InsA md_maxVolume 13 (.invokevirtual 111) 3 16 := ⟨by decide +kernel, rfl⟩
theorem o_maxVolume_16 : InsA md_maxVolume 16 (.istore_n 3) 1 17 := ⟨by decide +kernel, rfl⟩
theorem o_maxVolume_17 : InsA md_maxVolume 17 (.iload_n 3) 1 18 := ⟨by decide +kernel, rfl⟩
theorem o_maxVolume_18 : InsA md_maxVolume 18 (.iload_n 1) 1 19 := ⟨by decide +kernel, rfl⟩
theorem o_maxVolume_19 : InsB md_maxVolume 19 (.if_icmp .le 5) 3 22 (5) 24 := ⟨by decide +kernel, rfl, by decide, by decide⟩
theorem o_maxVolume_22 : InsA md_maxVolume 22 (.iload_n 3) 1 23 := ⟨by decide +kernel, rfl⟩
theorem o_maxVolume_23 : InsA md_maxVolume 23 (.istore_n 1) 1 24 := ⟨by decide +kernel, rfl⟩
theorem o_maxVolume_24 : InsA md_maxVolume 24 (.iinc 2 1) 3 27 := ⟨by decide +kernel, rfl⟩
theorem o_maxVolume_27 : InsB md_maxVolume 27 (.goto (-23)) 3 30 (-23) 4 := ⟨by decide +kernel, rfl, by decide, by decide⟩
theorem o_maxVolume_30 : InsA md_maxVolume 30 (.iload_n 1) 1 31 := ⟨by decide +kernel, rfl⟩
theorem o_maxVolume_31 : InsA md_maxVolume 31 (.ireturn) 1 32 := ⟨by decide +kernel, rfl⟩
abbrev md_vol : MD := (⟨"AuctionCross", "vol", "(I)I"⟩, prog_1_method_29_code, 2, some .int, { frames := 1, cells := 0, slots := 0, locals := 14 }, 0)
theorem cv_vol {Z : State} {a0 : Array Value} (H : OK Z a0) : CalV Z a0 md_vol 1 := ⟨pn_AuctionCross, by decide, pd__I_I, H.w 85 rfl, H.w 87 rfl, H.w 2 rfl, Or.inr ⟨H.w 86 rfl, 18, H.w 1 rfl⟩⟩
theorem o_vol_0 : InsA md_vol 0 (.aload_n 0) 1 1 := ⟨by decide +kernel, rfl⟩
theorem o_vol_1 : InsA md_vol 1 (.aload_n 0) 1 2 := ⟨by decide +kernel, rfl⟩
theorem o_vol_2 : InsA md_vol 2 (.getfield 37) 3 5 := ⟨by decide +kernel, rfl⟩
theorem o_vol_5 : InsA md_vol 5 (.iload_n 1) 1 6 := ⟨by decide +kernel, rfl⟩
theorem o_vol_6 : InsA md_vol 6 (.iaload) 1 7 := ⟨by decide +kernel, rfl⟩
theorem o_vol_7 : InsA md_vol 7 (.aload_n 0) 1 8 := ⟨by decide +kernel, rfl⟩
theorem o_vol_8 : InsA md_vol 8 (.getfield 40) 3 11 := ⟨by decide +kernel, rfl⟩
theorem o_vol_11 : InsA md_vol 11 (.iload_n 1) 1 12 := ⟨by decide +kernel, rfl⟩
theorem o_vol_12 : InsA md_vol 12 (.iaload) 1 13 := ⟨by decide +kernel, rfl⟩
theorem o_vol_13 : InsA md_vol 13 (.invokevirtual 107) 3 16 := ⟨by decide +kernel, rfl⟩
theorem o_vol_16 : InsA md_vol 16 (.ireturn) 1 17 := ⟨by decide +kernel, rfl⟩
abbrev md_min : MD := (⟨"AuctionCross", "min", "(II)I"⟩, prog_1_method_21_code, 3, some .int, { frames := 0, cells := 0, slots := 0, locals := 0 }, 0)
theorem cv_min {Z : State} {a0 : Array Value} (H : OK Z a0) : CalV Z a0 md_min 2 := ⟨pn_AuctionCross, by decide, pd__II_I, H.w 89 rfl, H.w 91 rfl, H.w 2 rfl, Or.inr ⟨H.w 90 rfl, 18, H.w 1 rfl⟩⟩
theorem o_min_0 : InsA md_min 0 (.iload_n 1) 1 1 := ⟨by decide +kernel, rfl⟩
theorem o_min_1 : InsA md_min 1 (.iload_n 2) 1 2 := ⟨by decide +kernel, rfl⟩
theorem o_min_2 : InsB md_min 2 (.if_icmp .ge 7) 3 5 (7) 9 := ⟨by decide +kernel, rfl, by decide, by decide⟩
theorem o_min_5 : InsA md_min 5 (.iload_n 1) 1 6 := ⟨by decide +kernel, rfl⟩
theorem o_min_6 : InsB md_min 6 (.goto 4) 3 9 (4) 10 := ⟨by decide +kernel, rfl, by decide, by decide⟩
theorem o_min_9 : InsA md_min 9 (.iload_n 2) 1 10 := ⟨by decide +kernel, rfl⟩
theorem o_min_10 : InsA md_min 10 (.ireturn) 1 11 := ⟨by decide +kernel, rfl⟩
abbrev md_indicativePrice : MD := (⟨"AuctionCross", "indicativePrice", "()I"⟩, prog_1_method_9_code, 2, some .int, { frames := 5, cells := 0, slots := 0, locals := 80 }, 0)
theorem cv_indicativePrice {Z : State} {a0 : Array Value} (H : OK Z a0) : CalV Z a0 md_indicativePrice 0 := ⟨pn_AuctionCross, by decide, pd___I, H.w 94 rfl, H.w 96 rfl, H.w 2 rfl, Or.inl ⟨H.w 93 rfl, H.w 95 rfl⟩⟩
theorem o_indicativePrice_0 : InsA md_indicativePrice 0 (.aload_n 0) 1 1 := ⟨by decide +kernel, rfl⟩
theorem o_indicativePrice_1 : InsA md_indicativePrice 1 (.invokevirtual 84) 3 4 := ⟨by decide +kernel, rfl⟩
theorem o_indicativePrice_4 : InsA md_indicativePrice 4 (.aload_n 0) 1 5 := ⟨by decide +kernel, rfl⟩
theorem o_indicativePrice_5 : InsA md_indicativePrice 5 (.invokevirtual 87) 3 8 := ⟨by decide +kernel, rfl⟩
theorem o_indicativePrice_8 : InsA md_indicativePrice 8 (.istore_n 1) 1 9 := ⟨by decide +kernel, rfl⟩
theorem o_indicativePrice_9 : InsA md_indicativePrice 9 (.iload_n 1) 1 10 := ⟨by decide +kernel, rfl⟩
theorem o_indicativePrice_10 : InsB md_indicativePrice 10 (.ifCond .ne 5) 3 13 (5) 15 := ⟨by decide +kernel, rfl, by decide, by decide⟩
theorem o_indicativePrice_13 : InsA md_indicativePrice 13 (.iconst 0) 1 14 := ⟨by decide +kernel, rfl⟩
theorem o_indicativePrice_14 : InsA md_indicativePrice 14 (.ireturn) 1 15 := ⟨by decide +kernel, rfl⟩
theorem o_indicativePrice_15 : InsA md_indicativePrice 15 (.aload_n 0) 1 16 := ⟨by decide +kernel, rfl⟩
theorem o_indicativePrice_16 : InsA md_indicativePrice 16 (.iload_n 1) 1 17 := ⟨by decide +kernel, rfl⟩
theorem o_indicativePrice_17 : InsA md_indicativePrice 17 (.invokevirtual 90) 3 20 := ⟨by decide +kernel, rfl⟩
theorem o_indicativePrice_20 : InsA md_indicativePrice 20 (.ireturn) 1 21 := ⟨by decide +kernel, rfl⟩
abbrev md_choosePrice : MD := (⟨"AuctionCross", "choosePrice", "(I)I"⟩, prog_1_method_34_code, 9, some .int, { frames := 4, cells := 0, slots := 0, locals := 60 }, 0)
theorem cv_choosePrice {Z : State} {a0 : Array Value} (H : OK Z a0) : CalV Z a0 md_choosePrice 1 := ⟨pn_AuctionCross, by decide, pd__I_I, H.w 98 rfl, H.w 100 rfl, H.w 2 rfl, Or.inr ⟨H.w 99 rfl, 18, H.w 1 rfl⟩⟩
theorem o_choosePrice_0 : InsA md_choosePrice 0 (.aload_n 0) 1 1 := ⟨by decide +kernel, rfl⟩
theorem o_choosePrice_1 : InsA md_choosePrice 1 (.iload_n 1) 1 2 := ⟨by decide +kernel, rfl⟩
theorem o_choosePrice_2 : InsA md_choosePrice 2 (.invokevirtual 120) 3 5 := ⟨by decide +kernel, rfl⟩
theorem o_choosePrice_5 : InsA md_choosePrice 5 (.istore_n 2) 1 6 := ⟨by decide +kernel, rfl⟩
theorem o_choosePrice_6 : InsA md_choosePrice 6 (.iconst 0) 1 7 := ⟨by decide +kernel, rfl⟩
theorem o_choosePrice_7 : InsA md_choosePrice 7 (.istore_n 3) 1 8 := ⟨by decide +kernel, rfl⟩
theorem o_choosePrice_8 : InsA md_choosePrice 8 (.iconst 0) 1 9 := ⟨by decide +kernel, rfl⟩
theorem o_choosePrice_9 : InsA md_choosePrice 9 (.istore 4) 2 11 := ⟨by decide +kernel, rfl⟩
theorem o_choosePrice_11 : InsA md_choosePrice 11 (.iconst 0) 1 12 := ⟨by decide +kernel, rfl⟩
theorem o_choosePrice_12 : InsA md_choosePrice 12 (.istore 5) 2 14 := ⟨by decide +kernel, rfl⟩
theorem o_choosePrice_14 : InsA md_choosePrice 14 (.iconst 0) 1 15 := ⟨by decide +kernel, rfl⟩
theorem o_choosePrice_15 : InsA md_choosePrice 15 (.istore 6) 2 17 := ⟨by decide +kernel, rfl⟩
theorem o_choosePrice_17 : InsA md_choosePrice 17 (.iconst 1) 1 18 := ⟨by decide +kernel, rfl⟩
theorem o_choosePrice_18 : InsA md_choosePrice 18 (.istore 7) 2 20 := ⟨by decide +kernel, rfl⟩
theorem o_choosePrice_20 : InsA md_choosePrice 20 (.iload 7) 2 22 := ⟨by decide +kernel, rfl⟩
theorem o_choosePrice_22 : InsA md_choosePrice 22 (.sipush 255) 3 25 := ⟨by decide +kernel, rfl⟩
theorem o_choosePrice_25 : InsB md_choosePrice 25 (.if_icmp .gt 62) 3 28 (62) 87 := ⟨by decide +kernel, rfl, by decide, by decide⟩
theorem o_choosePrice_28 : InsA md_choosePrice 28 (.aload_n 0) 1 29 := ⟨by decide +kernel, rfl⟩
theorem o_choosePrice_29 : InsA md_choosePrice 29 (.iload 7) 2 31 := ⟨by decide +kernel, rfl⟩
theorem o_choosePrice_31 : InsA md_choosePrice 31 (.iload_n 1) 1 32 := ⟨by decide +kernel, rfl⟩
theorem o_choosePrice_32 : InsA md_choosePrice 32 (.iload_n 2) 1 33 := ⟨by decide +kernel, rfl⟩
theorem o_choosePrice_33 : InsA md_choosePrice 33 (.invokevirtual 123) 3 36 := ⟨by decide +kernel, rfl⟩
theorem o_choosePrice_36 : InsB md_choosePrice 36 (.ifCond .ne 6) 3 39 (6) 42 := ⟨by decide +kernel, rfl, by decide, by decide⟩
theorem o_choosePrice_39 : InsB md_choosePrice 39 (.goto 42) 3 42 (42) 81 := ⟨by decide +kernel, rfl, by decide, by decide⟩
theorem o_choosePrice_42 : InsA md_choosePrice 42 (.aload_n 0) 1 43 := ⟨by decide +kernel, rfl⟩
theorem o_choosePrice_43 : InsA md_choosePrice 43 (.iload 7) 2 45 := ⟨by decide +kernel, rfl⟩
theorem o_choosePrice_45 : InsA md_choosePrice 45 (.invokevirtual 114) 3 48 := ⟨by decide +kernel, rfl⟩
theorem o_choosePrice_48 : InsA md_choosePrice 48 (.istore 8) 2 50 := ⟨by decide +kernel, rfl⟩
theorem o_choosePrice_50 : InsA md_choosePrice 50 (.iload 8) 2 52 := ⟨by decide +kernel, rfl⟩
theorem o_choosePrice_52 : InsB md_choosePrice 52 (.ifCond .le 8) 3 55 (8) 60 := ⟨by decide +kernel, rfl, by decide, by decide⟩
theorem o_choosePrice_55 : InsA md_choosePrice 55 (.iconst 1) 1 56 := ⟨by decide +kernel, rfl⟩
theorem o_choosePrice_56 : InsA md_choosePrice 56 (.istore_n 3) 1 57 := ⟨by decide +kernel, rfl⟩
theorem o_choosePrice_57 : InsB md_choosePrice 57 (.goto 11) 3 60 (11) 68 := ⟨by decide +kernel, rfl, by decide, by decide⟩
theorem o_choosePrice_60 : InsA md_choosePrice 60 (.iload 8) 2 62 := ⟨by decide +kernel, rfl⟩
theorem o_choosePrice_62 : InsB md_choosePrice 62 (.ifCond .ge 6) 3 65 (6) 68 := ⟨by decide +kernel, rfl, by decide, by decide⟩
theorem o_choosePrice_65 : InsA md_choosePrice 65 (.iconst 1) 1 66 := ⟨by decide +kernel, rfl⟩
theorem o_choosePrice_66 : InsA md_choosePrice 66 (.istore 4) 2 68 := ⟨by decide +kernel, rfl⟩
theorem o_choosePrice_68 : InsA md_choosePrice 68 (.iload 5) 2 70 := ⟨by decide +kernel, rfl⟩
theorem o_choosePrice_70 : InsB md_choosePrice 70 (.ifCond .ne 7) 3 73 (7) 77 := ⟨by decide +kernel, rfl, by decide, by decide⟩
theorem o_choosePrice_73 : InsA md_choosePrice 73 (.iload 7) 2 75 := ⟨by decide +kernel, rfl⟩
theorem o_choosePrice_75 : InsA md_choosePrice 75 (.istore 5) 2 77 := ⟨by decide +kernel, rfl⟩
theorem o_choosePrice_77 : InsA md_choosePrice 77 (.iload 7) 2 79 := ⟨by decide +kernel, rfl⟩
theorem o_choosePrice_79 : InsA md_choosePrice 79 (.istore 6) 2 81 := ⟨by decide +kernel, rfl⟩
theorem o_choosePrice_81 : InsA md_choosePrice 81 (.iinc 7 1) 3 84 := ⟨by decide +kernel, rfl⟩
theorem o_choosePrice_84 : InsB md_choosePrice 84 (.goto (-64)) 3 87 (-64) 20 := ⟨by decide +kernel, rfl, by decide, by decide⟩
theorem o_choosePrice_87 : InsA md_choosePrice 87 (.iload_n 2) 1 88 := ⟨by decide +kernel, rfl⟩
theorem o_choosePrice_88 : InsB md_choosePrice 88 (.ifCond .le 15) 3 91 (15) 103 := ⟨by decide +kernel, rfl, by decide, by decide⟩
theorem o_choosePrice_91 : InsA md_choosePrice 91 (.iload_n 3) 1 92 := ⟨by decide +kernel, rfl⟩
theorem o_choosePrice_92 : InsB md_choosePrice 92 (.ifCond .eq 11) 3 95 (11) 103 := ⟨by decide +kernel, rfl, by decide, by decide⟩
theorem o_choosePrice_95 : InsA md_choosePrice 95 (.iload 4) 2 97 := ⟨by decide +kernel, rfl⟩
theorem o_choosePrice_97 : InsB md_choosePrice 97 (.ifCond .ne 6) 3 100 (6) 103 := ⟨by decide +kernel, rfl, by decide, by decide⟩
theorem o_choosePrice_100 : InsA md_choosePrice 100 (.iload 6) 2 102 := ⟨by decide +kernel, rfl⟩
theorem o_choosePrice_102 : InsA md_choosePrice 102 (.ireturn) 1 103 := ⟨by decide +kernel, rfl⟩
theorem o_choosePrice_103 : InsA md_choosePrice 103 (.iload_n 2) 1 104 := ⟨by decide +kernel, rfl⟩
theorem o_choosePrice_104 : InsB md_choosePrice 104 (.ifCond .le 15) 3 107 (15) 119 := ⟨by decide +kernel, rfl, by decide, by decide⟩
theorem o_choosePrice_107 : InsA md_choosePrice 107 (.iload 4) 2 109 := ⟨by decide +kernel, rfl⟩
theorem o_choosePrice_109 : InsB md_choosePrice 109 (.ifCond .eq 10) 3 112 (10) 119 := ⟨by decide +kernel, rfl, by decide, by decide⟩
theorem o_choosePrice_112 : InsA md_choosePrice 112 (.iload_n 3) 1 113 := ⟨by decide +kernel, rfl⟩
theorem o_choosePrice_113 : InsB md_choosePrice 113 (.ifCond .ne 6) 3 116 (6) 119 := ⟨by decide +kernel, rfl, by decide, by decide⟩
theorem o_choosePrice_116 : InsA md_choosePrice 116 (.iload 5) 2 118 := ⟨by decide +kernel, rfl⟩
theorem o_choosePrice_118 : InsA md_choosePrice 118 (.ireturn) 1 119 := ⟨by decide +kernel, rfl⟩
theorem o_choosePrice_119 : InsA md_choosePrice 119 (.aload_n 0) 1 120 := ⟨by decide +kernel, rfl⟩
theorem o_choosePrice_120 : InsA md_choosePrice 120 (.iload_n 1) 1 121 := ⟨by decide +kernel, rfl⟩
theorem o_choosePrice_121 : InsA md_choosePrice 121 (.iload_n 2) 1 122 := ⟨by decide +kernel, rfl⟩
theorem o_choosePrice_122 : InsA md_choosePrice 122 (.invokevirtual 127) 3 125 := ⟨by decide +kernel, rfl⟩
theorem o_choosePrice_125 : InsA md_choosePrice 125 (.ireturn) 1 126 := ⟨by decide +kernel, rfl⟩
abbrev md_leastSurplus : MD := (⟨"AuctionCross", "leastSurplus", "(I)I"⟩, prog_1_method_32_code, 5, some .int, { frames := 2, cells := 0, slots := 0, locals := 27 }, 0)
theorem cv_leastSurplus {Z : State} {a0 : Array Value} (H : OK Z a0) : CalV Z a0 md_leastSurplus 1 := ⟨pn_AuctionCross, by decide, pd__I_I, H.w 102 rfl, H.w 104 rfl, H.w 2 rfl, Or.inr ⟨H.w 103 rfl, 18, H.w 1 rfl⟩⟩
theorem o_leastSurplus_0 : InsA md_leastSurplus 0 (.iconst (-1)) 1 1 := ⟨by decide +kernel, rfl⟩
theorem o_leastSurplus_1 : InsA md_leastSurplus 1 (.istore_n 2) 1 2 := ⟨by decide +kernel, rfl⟩
theorem o_leastSurplus_2 : InsA md_leastSurplus 2 (.iconst 1) 1 3 := ⟨by decide +kernel, rfl⟩
theorem o_leastSurplus_3 : InsA md_leastSurplus 3 (.istore_n 3) 1 4 := ⟨by decide +kernel, rfl⟩
theorem o_leastSurplus_4 : InsA md_leastSurplus 4 (.iload_n 3) 1 5 := ⟨by decide +kernel, rfl⟩
theorem o_leastSurplus_5 : InsA md_leastSurplus 5 (.sipush 255) 3 8 := ⟨by decide +kernel, rfl⟩
theorem o_leastSurplus_8 : InsB md_leastSurplus 8 (.if_icmp .gt 45) 3 11 (45) 53 := ⟨by decide +kernel, rfl, by decide, by decide⟩
theorem o_leastSurplus_11 : InsA md_leastSurplus 11 (.aload_n 0) 1 12 := ⟨by decide +kernel, rfl⟩
theorem o_leastSurplus_12 : InsA md_leastSurplus 12 (.iload_n 3) 1 13 := ⟨by decide +kernel, rfl⟩
theorem o_leastSurplus_13 : InsA md_leastSurplus 13 (.invokevirtual 111) 3 16 := ⟨by decide +kernel, rfl⟩
theorem o_leastSurplus_16 : InsA md_leastSurplus 16 (.iload_n 1) 1 17 := ⟨by decide +kernel, rfl⟩
theorem o_leastSurplus_17 : InsB md_leastSurplus 17 (.if_icmp .eq 6) 3 20 (6) 23 := ⟨by decide +kernel, rfl, by decide, by decide⟩
theorem o_leastSurplus_20 : InsB md_leastSurplus 20 (.goto 27) 3 23 (27) 47 := ⟨by decide +kernel, rfl, by decide, by decide⟩
theorem o_leastSurplus_23 : InsA md_leastSurplus 23 (.aload_n 0) 1 24 := ⟨by decide +kernel, rfl⟩
theorem o_leastSurplus_24 : InsA md_leastSurplus 24 (.aload_n 0) 1 25 := ⟨by decide +kernel, rfl⟩
theorem o_leastSurplus_25 : InsA md_leastSurplus 25 (.iload_n 3) 1 26 := ⟨by decide +kernel, rfl⟩
theorem o_leastSurplus_26 : InsA md_leastSurplus 26 (.invokevirtual 114) 3 29 := ⟨by decide +kernel, rfl⟩
theorem o_leastSurplus_29 : InsA md_leastSurplus 29 (.invokevirtual 117) 3 32 := ⟨by decide +kernel, rfl⟩
theorem o_leastSurplus_32 : InsA md_leastSurplus 32 (.istore 4) 2 34 := ⟨by decide +kernel, rfl⟩
theorem o_leastSurplus_34 : InsA md_leastSurplus 34 (.iload_n 2) 1 35 := ⟨by decide +kernel, rfl⟩
theorem o_leastSurplus_35 : InsB md_leastSurplus 35 (.ifCond .lt 9) 3 38 (9) 44 := ⟨by decide +kernel, rfl, by decide, by decide⟩
theorem o_leastSurplus_38 : InsA md_leastSurplus 38 (.iload 4) 2 40 := ⟨by decide +kernel, rfl⟩
theorem o_leastSurplus_40 : InsA md_leastSurplus 40 (.iload_n 2) 1 41 := ⟨by decide +kernel, rfl⟩
theorem o_leastSurplus_41 : InsB md_leastSurplus 41 (.if_icmp .ge 6) 3 44 (6) 47 := ⟨by decide +kernel, rfl, by decide, by decide⟩
theorem o_leastSurplus_44 : InsA md_leastSurplus 44 (.iload 4) 2 46 := ⟨by decide +kernel, rfl⟩
theorem o_leastSurplus_46 : InsA md_leastSurplus 46 (.istore_n 2) 1 47 := ⟨by decide +kernel, rfl⟩
theorem o_leastSurplus_47 : InsA md_leastSurplus 47 (.iinc 3 1) 3 50 := ⟨by decide +kernel, rfl⟩
theorem o_leastSurplus_50 : InsB md_leastSurplus 50 (.goto (-46)) 3 53 (-46) 4 := ⟨by decide +kernel, rfl, by decide, by decide⟩
theorem o_leastSurplus_53 : InsA md_leastSurplus 53 (.iload_n 2) 1 54 := ⟨by decide +kernel, rfl⟩
theorem o_leastSurplus_54 : InsA md_leastSurplus 54 (.ireturn) 1 55 := ⟨by decide +kernel, rfl⟩
abbrev md_surplus : MD := (⟨"AuctionCross", "surplus", "(I)I"⟩, prog_1_method_30_code, 2, some .int, { frames := 0, cells := 0, slots := 0, locals := 0 }, 0)
theorem cv_surplus {Z : State} {a0 : Array Value} (H : OK Z a0) : CalV Z a0 md_surplus 1 := ⟨pn_AuctionCross, by decide, pd__I_I, H.w 106 rfl, H.w 108 rfl, H.w 2 rfl, Or.inr ⟨H.w 107 rfl, 18, H.w 1 rfl⟩⟩
theorem o_surplus_0 : InsA md_surplus 0 (.aload_n 0) 1 1 := ⟨by decide +kernel, rfl⟩
theorem o_surplus_1 : InsA md_surplus 1 (.getfield 37) 3 4 := ⟨by decide +kernel, rfl⟩
theorem o_surplus_4 : InsA md_surplus 4 (.iload_n 1) 1 5 := ⟨by decide +kernel, rfl⟩
theorem o_surplus_5 : InsA md_surplus 5 (.iaload) 1 6 := ⟨by decide +kernel, rfl⟩
theorem o_surplus_6 : InsA md_surplus 6 (.aload_n 0) 1 7 := ⟨by decide +kernel, rfl⟩
theorem o_surplus_7 : InsA md_surplus 7 (.getfield 40) 3 10 := ⟨by decide +kernel, rfl⟩
theorem o_surplus_10 : InsA md_surplus 10 (.iload_n 1) 1 11 := ⟨by decide +kernel, rfl⟩
theorem o_surplus_11 : InsA md_surplus 11 (.iaload) 1 12 := ⟨by decide +kernel, rfl⟩
theorem o_surplus_12 : InsA md_surplus 12 (.isub) 1 13 := ⟨by decide +kernel, rfl⟩
theorem o_surplus_13 : InsA md_surplus 13 (.ireturn) 1 14 := ⟨by decide +kernel, rfl⟩
abbrev md_abs : MD := (⟨"AuctionCross", "abs", "(I)I"⟩, prog_1_method_20_code, 2, some .int, { frames := 0, cells := 0, slots := 0, locals := 0 }, 0)
theorem cv_abs {Z : State} {a0 : Array Value} (H : OK Z a0) : CalV Z a0 md_abs 1 := ⟨pn_AuctionCross, by decide, pd__I_I, H.w 110 rfl, H.w 112 rfl, H.w 2 rfl, Or.inr ⟨H.w 111 rfl, 18, H.w 1 rfl⟩⟩
theorem o_abs_0 : InsA md_abs 0 (.iload_n 1) 1 1 := ⟨by decide +kernel, rfl⟩
theorem o_abs_1 : InsB md_abs 1 (.ifCond .ge 8) 3 4 (8) 9 := ⟨by decide +kernel, rfl, by decide, by decide⟩
theorem o_abs_4 : InsA md_abs 4 (.iload_n 1) 1 5 := ⟨by decide +kernel, rfl⟩
theorem o_abs_5 : InsA md_abs 5 (.ineg) 1 6 := ⟨by decide +kernel, rfl⟩
theorem o_abs_6 : InsB md_abs 6 (.goto 4) 3 9 (4) 10 := ⟨by decide +kernel, rfl, by decide, by decide⟩
theorem o_abs_9 : InsA md_abs 9 (.iload_n 1) 1 10 := ⟨by decide +kernel, rfl⟩
theorem o_abs_10 : InsA md_abs 10 (.ireturn) 1 11 := ⟨by decide +kernel, rfl⟩
abbrev md_inFinalSet : MD := (⟨"AuctionCross", "inFinalSet", "(III)Z"⟩, prog_1_method_33_code, 4, some .boolean, { frames := 2, cells := 0, slots := 0, locals := 27 }, 0)
theorem cv_inFinalSet {Z : State} {a0 : Array Value} (H : OK Z a0) : CalV Z a0 md_inFinalSet 3 := ⟨pn_AuctionCross, by decide, pd__III_Z, H.w 114 rfl, H.w 116 rfl, H.w 2 rfl, Or.inr ⟨H.w 115 rfl, 18, H.w 1 rfl⟩⟩
theorem o_inFinalSet_0 : InsA md_inFinalSet 0 (.aload_n 0) 1 1 := ⟨by decide +kernel, rfl⟩
theorem o_inFinalSet_1 : InsA md_inFinalSet 1 (.iload_n 1) 1 2 := ⟨by decide +kernel, rfl⟩
theorem o_inFinalSet_2 : InsA md_inFinalSet 2 (.invokevirtual 111) 3 5 := ⟨by decide +kernel, rfl⟩
theorem o_inFinalSet_5 : InsA md_inFinalSet 5 (.iload_n 2) 1 6 := ⟨by decide +kernel, rfl⟩
theorem o_inFinalSet_6 : InsB md_inFinalSet 6 (.if_icmp .ne 20) 3 9 (20) 26 := ⟨by decide +kernel, rfl, by decide, by decide⟩
theorem o_inFinalSet_9 : InsA md_inFinalSet 9 (.aload_n 0) 1 10 := ⟨by decide +kernel, rfl⟩
theorem o_inFinalSet_10 : InsA md_inFinalSet 10 (.aload_n 0) 1 11 := ⟨by decide +kernel, rfl⟩
theorem o_inFinalSet_11 : InsA md_inFinalSet 11 (.iload_n 1) 1 12 := ⟨by decide +kernel, rfl⟩
theorem o_inFinalSet_12 : InsA md_inFinalSet 12 (.invokevirtual 114) 3 15 := ⟨by decide +kernel, rfl⟩
theorem o_inFinalSet_15 : InsA md_inFinalSet 15 (.invokevirtual 117) 3 18 := ⟨by decide +kernel, rfl⟩
theorem o_inFinalSet_18 : InsA md_inFinalSet 18 (.iload_n 3) 1 19 := ⟨by decide +kernel, rfl⟩
theorem o_inFinalSet_19 : InsB md_inFinalSet 19 (.if_icmp .ne 7) 3 22 (7) 26 := ⟨by decide +kernel, rfl, by decide, by decide⟩
theorem o_inFinalSet_22 : InsA md_inFinalSet 22 (.iconst 1) 1 23 := ⟨by decide +kernel, rfl⟩
theorem o_inFinalSet_23 : InsB md_inFinalSet 23 (.goto 4) 3 26 (4) 27 := ⟨by decide +kernel, rfl, by decide, by decide⟩
theorem o_inFinalSet_26 : InsA md_inFinalSet 26 (.iconst 0) 1 27 := ⟨by decide +kernel, rfl⟩
theorem o_inFinalSet_27 : InsA md_inFinalSet 27 (.ireturn) 1 28 := ⟨by decide +kernel, rfl⟩
abbrev md_uncross : MD := (⟨"AuctionCross", "uncross", "()I"⟩, prog_1_method_11_code, 3, some .int, { frames := 5, cells := 0, slots := 0, locals := 80 }, 0)
theorem cv_uncross {Z : State} {a0 : Array Value} (H : OK Z a0) : CalV Z a0 md_uncross 0 := ⟨pn_AuctionCross, by decide, pd___I, H.w 119 rfl, H.w 121 rfl, H.w 2 rfl, Or.inl ⟨H.w 118 rfl, H.w 120 rfl⟩⟩
theorem o_uncross_0 : InsA md_uncross 0 (.aload_n 0) 1 1 := ⟨by decide +kernel, rfl⟩
theorem o_uncross_1 : InsA md_uncross 1 (.getfield 57) 3 4 := ⟨by decide +kernel, rfl⟩
theorem o_uncross_4 : InsB md_uncross 4 (.ifCond .eq 5) 3 7 (5) 9 := ⟨by decide +kernel, rfl, by decide, by decide⟩
theorem o_uncross_7 : InsA md_uncross 7 (.iconst (-1)) 1 8 := ⟨by decide +kernel, rfl⟩
theorem o_uncross_8 : InsA md_uncross 8 (.ireturn) 1 9 := ⟨by decide +kernel, rfl⟩
theorem o_uncross_9 : InsA md_uncross 9 (.aload_n 0) 1 10 := ⟨by decide +kernel, rfl⟩
theorem o_uncross_10 : InsA md_uncross 10 (.invokevirtual 84) 3 13 := ⟨by decide +kernel, rfl⟩
theorem o_uncross_13 : InsA md_uncross 13 (.aload_n 0) 1 14 := ⟨by decide +kernel, rfl⟩
theorem o_uncross_14 : InsA md_uncross 14 (.invokevirtual 87) 3 17 := ⟨by decide +kernel, rfl⟩
theorem o_uncross_17 : InsA md_uncross 17 (.istore_n 1) 1 18 := ⟨by decide +kernel, rfl⟩
theorem o_uncross_18 : InsA md_uncross 18 (.iload_n 1) 1 19 := ⟨by decide +kernel, rfl⟩
theorem o_uncross_19 : InsB md_uncross 19 (.ifCond .le 35) 3 22 (35) 54 := ⟨by decide +kernel, rfl, by decide, by decide⟩
theorem o_uncross_22 : InsA md_uncross 22 (.aload_n 0) 1 23 := ⟨by decide +kernel, rfl⟩
theorem o_uncross_23 : InsA md_uncross 23 (.iload_n 1) 1 24 := ⟨by decide +kernel, rfl⟩
theorem o_uncross_24 : InsA md_uncross 24 (.invokevirtual 90) 3 27 := ⟨by decide +kernel, rfl⟩
theorem o_uncross_27 : InsA md_uncross 27 (.istore_n 2) 1 28 := ⟨by decide +kernel, rfl⟩
theorem o_uncross_28 : InsA md_uncross 28 (.aload_n 0) 1 29 := ⟨by decide +kernel, rfl⟩
theorem o_uncross_29 : InsA md_uncross 29 (.iconst 0) 1 30 := ⟨by decide +kernel, rfl⟩
theorem o_uncross_30 : InsA md_uncross 30 (.iload_n 2) 1 31 := ⟨by decide +kernel, rfl⟩
theorem o_uncross_31 : InsA md_uncross 31 (.iload_n 1) 1 32 := ⟨by decide +kernel, rfl⟩
theorem o_uncross_32 : InsA md_uncross 32 (.invokevirtual 94) 3 35 := ⟨by decide +kernel, rfl⟩
theorem o_uncross_35 : InsA md_uncross 35 (.aload_n 0) 1 36 := ⟨by decide +kernel, rfl⟩
theorem o_uncross_36 : InsA md_uncross 36 (.iconst 1) 1 37 := ⟨by decide +kernel, rfl⟩
theorem o_uncross_37 : InsA md_uncross 37 (.iload_n 2) 1 38 := ⟨by decide +kernel, rfl⟩
theorem o_uncross_38 : InsA md_uncross 38 (.iload_n 1) 1 39 := ⟨by decide +kernel, rfl⟩
theorem o_uncross_39 : InsA md_uncross 39 (.invokevirtual 94) 3 42 := ⟨by decide +kernel, rfl⟩
theorem o_uncross_42 : InsA md_uncross 42 (.aload_n 0) 1 43 := ⟨by decide +kernel, rfl⟩
theorem o_uncross_43 : InsA md_uncross 43 (.invokevirtual 98) 3 46 := ⟨by decide +kernel, rfl⟩
theorem o_uncross_46 : InsA md_uncross 46 (.aload_n 0) 1 47 := ⟨by decide +kernel, rfl⟩
theorem o_uncross_47 : InsA md_uncross 47 (.iload_n 2) 1 48 := ⟨by decide +kernel, rfl⟩
theorem o_uncross_48 : InsA md_uncross 48 (.putfield 63) 3 51 := ⟨by decide +kernel, rfl⟩
theorem o_uncross_51 : InsB md_uncross 51 (.goto 8) 3 54 (8) 59 := ⟨by decide +kernel, rfl, by decide, by decide⟩
theorem o_uncross_54 : InsA md_uncross 54 (.aload_n 0) 1 55 := ⟨by decide +kernel, rfl⟩
theorem o_uncross_55 : InsA md_uncross 55 (.iconst 0) 1 56 := ⟨by decide +kernel, rfl⟩
theorem o_uncross_56 : InsA md_uncross 56 (.putfield 63) 3 59 := ⟨by decide +kernel, rfl⟩
theorem o_uncross_59 : InsA md_uncross 59 (.aload_n 0) 1 60 := ⟨by decide +kernel, rfl⟩
theorem o_uncross_60 : InsA md_uncross 60 (.iload_n 1) 1 61 := ⟨by decide +kernel, rfl⟩
theorem o_uncross_61 : InsA md_uncross 61 (.putfield 66) 3 64 := ⟨by decide +kernel, rfl⟩
theorem o_uncross_64 : InsA md_uncross 64 (.aload_n 0) 1 65 := ⟨by decide +kernel, rfl⟩
theorem o_uncross_65 : InsA md_uncross 65 (.iconst 1) 1 66 := ⟨by decide +kernel, rfl⟩
theorem o_uncross_66 : InsA md_uncross 66 (.putfield 57) 3 69 := ⟨by decide +kernel, rfl⟩
theorem o_uncross_69 : InsA md_uncross 69 (.iload_n 1) 1 70 := ⟨by decide +kernel, rfl⟩
theorem o_uncross_70 : InsA md_uncross 70 (.ireturn) 1 71 := ⟨by decide +kernel, rfl⟩
abbrev md_allocateSide : MD := (⟨"AuctionCross", "allocateSide", "(III)V"⟩, prog_1_method_40_code, 8, none, { frames := 2, cells := 0, slots := 0, locals := 31 }, 0)
theorem cv_allocateSide {Z : State} {a0 : Array Value} (H : OK Z a0) : CalV Z a0 md_allocateSide 3 := ⟨pn_AuctionCross, by decide, pd__III_V, H.w 123 rfl, H.w 125 rfl, H.w 2 rfl, Or.inr ⟨H.w 124 rfl, 18, H.w 1 rfl⟩⟩
theorem o_allocateSide_0 : InsA md_allocateSide 0 (.iload_n 3) 1 1 := ⟨by decide +kernel, rfl⟩
theorem o_allocateSide_1 : InsA md_allocateSide 1 (.istore 4) 2 3 := ⟨by decide +kernel, rfl⟩
theorem o_allocateSide_3 : InsA md_allocateSide 3 (.iconst 0) 1 4 := ⟨by decide +kernel, rfl⟩
theorem o_allocateSide_4 : InsA md_allocateSide 4 (.istore 5) 2 6 := ⟨by decide +kernel, rfl⟩
theorem o_allocateSide_6 : InsA md_allocateSide 6 (.iload 5) 2 8 := ⟨by decide +kernel, rfl⟩
theorem o_allocateSide_8 : InsA md_allocateSide 8 (.bipush 64) 2 10 := ⟨by decide +kernel, rfl⟩
theorem o_allocateSide_10 : InsB md_allocateSide 10 (.if_icmp .ge 82) 3 13 (82) 92 := ⟨by decide +kernel, rfl, by decide, by decide⟩
theorem o_allocateSide_13 : InsA md_allocateSide 13 (.iload 4) 2 15 := ⟨by decide +kernel, rfl⟩
theorem o_allocateSide_15 : InsB md_allocateSide 15 (.ifCond .le 77) 3 18 (77) 92 := ⟨by decide +kernel, rfl, by decide, by decide⟩
theorem o_allocateSide_18 : InsA md_allocateSide 18 (.aload_n 0) 1 19 := ⟨by decide +kernel, rfl⟩
theorem o_allocateSide_19 : InsA md_allocateSide 19 (.iload_n 1) 1 20 := ⟨by decide +kernel, rfl⟩
theorem o_allocateSide_20 : InsA md_allocateSide 20 (.iload_n 2) 1 21 := ⟨by decide +kernel, rfl⟩
theorem o_allocateSide_21 : InsA md_allocateSide 21 (.invokevirtual 140) 3 24 := ⟨by decide +kernel, rfl⟩
theorem o_allocateSide_24 : InsA md_allocateSide 24 (.istore 6) 2 26 := ⟨by decide +kernel, rfl⟩
theorem o_allocateSide_26 : InsA md_allocateSide 26 (.iload 6) 2 28 := ⟨by decide +kernel, rfl⟩
theorem o_allocateSide_28 : InsB md_allocateSide 28 (.ifCond .ge 4) 3 31 (4) 32 := ⟨by decide +kernel, rfl, by decide, by decide⟩
theorem o_allocateSide_31 : InsA md_allocateSide 31 (.return_) 1 32 := ⟨by decide +kernel, rfl⟩
theorem o_allocateSide_32 : InsA md_allocateSide 32 (.aload_n 0) 1 33 := ⟨by decide +kernel, rfl⟩
theorem o_allocateSide_33 : InsA md_allocateSide 33 (.aload_n 0) 1 34 := ⟨by decide +kernel, rfl⟩
theorem o_allocateSide_34 : InsA md_allocateSide 34 (.getfield 22) 3 37 := ⟨by decide +kernel, rfl⟩
theorem o_allocateSide_37 : InsA md_allocateSide 37 (.iload 6) 2 39 := ⟨by decide +kernel, rfl⟩
theorem o_allocateSide_39 : InsA md_allocateSide 39 (.iaload) 1 40 := ⟨by decide +kernel, rfl⟩
theorem o_allocateSide_40 : InsA md_allocateSide 40 (.iload 4) 2 42 := ⟨by decide +kernel, rfl⟩
theorem o_allocateSide_42 : InsA md_allocateSide 42 (.invokevirtual 107) 3 45 := ⟨by decide +kernel, rfl⟩
theorem o_allocateSide_45 : InsA md_allocateSide 45 (.istore 7) 2 47 := ⟨by decide +kernel, rfl⟩
theorem o_allocateSide_47 : InsA md_allocateSide 47 (.aload_n 0) 1 48 := ⟨by decide +kernel, rfl⟩
theorem o_allocateSide_48 : InsA md_allocateSide 48 (.getfield 22) 3 51 := ⟨by decide +kernel, rfl⟩
theorem o_allocateSide_51 : InsA md_allocateSide 51 (.iload 6) 2 53 := ⟨by decide +kernel, rfl⟩
theorem o_allocateSide_53 : InsA md_allocateSide 53 (.dup2) 1 54 := ⟨by decide +kernel, rfl⟩
theorem o_allocateSide_54 : InsA md_allocateSide 54 (.iaload) 1 55 := ⟨by decide +kernel, rfl⟩
theorem o_allocateSide_55 : InsA md_allocateSide 55 (.iload 7) 2 57 := ⟨by decide +kernel, rfl⟩
theorem o_allocateSide_57 : InsA md_allocateSide 57 (.isub) 1 58 := ⟨by decide +kernel, rfl⟩
theorem o_allocateSide_58 : InsA md_allocateSide 58 (.iastore) 1 59 := ⟨by decide +kernel, rfl⟩
theorem o_allocateSide_59 : InsA md_allocateSide 59 (.aload_n 0) 1 60 := ⟨by decide +kernel, rfl⟩
theorem o_allocateSide_60 : InsA md_allocateSide 60 (.getfield 25) 3 63 := ⟨by decide +kernel, rfl⟩
theorem o_allocateSide_63 : InsA md_allocateSide 63 (.iload 6) 2 65 := ⟨by decide +kernel, rfl⟩
theorem o_allocateSide_65 : InsA md_allocateSide 65 (.dup2) 1 66 := ⟨by decide +kernel, rfl⟩
theorem o_allocateSide_66 : InsA md_allocateSide 66 (.iaload) 1 67 := ⟨by decide +kernel, rfl⟩
theorem o_allocateSide_67 : InsA md_allocateSide 67 (.iload 7) 2 69 := ⟨by decide +kernel, rfl⟩
theorem o_allocateSide_69 : InsA md_allocateSide 69 (.iadd) 1 70 := ⟨by decide +kernel, rfl⟩
theorem o_allocateSide_70 : InsA md_allocateSide 70 (.iastore) 1 71 := ⟨by decide +kernel, rfl⟩
theorem o_allocateSide_71 : InsA md_allocateSide 71 (.iload 4) 2 73 := ⟨by decide +kernel, rfl⟩
theorem o_allocateSide_73 : InsA md_allocateSide 73 (.iload 7) 2 75 := ⟨by decide +kernel, rfl⟩
theorem o_allocateSide_75 : InsA md_allocateSide 75 (.isub) 1 76 := ⟨by decide +kernel, rfl⟩
theorem o_allocateSide_76 : InsA md_allocateSide 76 (.istore 4) 2 78 := ⟨by decide +kernel, rfl⟩
theorem o_allocateSide_78 : InsA md_allocateSide 78 (.aload_n 0) 1 79 := ⟨by decide +kernel, rfl⟩
theorem o_allocateSide_79 : InsA md_allocateSide 79 (.iload 6) 2 81 := ⟨by decide +kernel, rfl⟩
theorem o_allocateSide_81 : InsA md_allocateSide 81 (.iload 7) 2 83 := ⟨by decide +kernel, rfl⟩
theorem o_allocateSide_83 : InsA md_allocateSide 83 (.invokevirtual 143) 3 86 := ⟨by decide +kernel, rfl⟩
theorem o_allocateSide_86 : InsA md_allocateSide 86 (.iinc 5 1) 3 89 := ⟨by decide +kernel, rfl⟩
theorem o_allocateSide_89 : InsB md_allocateSide 89 (.goto (-83)) 3 92 (-83) 6 := ⟨by decide +kernel, rfl, by decide, by decide⟩
theorem o_allocateSide_92 : InsA md_allocateSide 92 (.return_) 1 93 := ⟨by decide +kernel, rfl⟩
abbrev md_bestEligible : MD := (⟨"AuctionCross", "bestEligible", "(II)I"⟩, prog_1_method_39_code, 5, some .int, { frames := 1, cells := 0, slots := 0, locals := 15 }, 0)
theorem cv_bestEligible {Z : State} {a0 : Array Value} (H : OK Z a0) : CalV Z a0 md_bestEligible 2 := ⟨pn_AuctionCross, by decide, pd__II_I, H.w 127 rfl, H.w 129 rfl, H.w 2 rfl, Or.inr ⟨H.w 128 rfl, 18, H.w 1 rfl⟩⟩
theorem o_bestEligible_0 : InsA md_bestEligible 0 (.iconst (-1)) 1 1 := ⟨by decide +kernel, rfl⟩
theorem o_bestEligible_1 : InsA md_bestEligible 1 (.istore_n 3) 1 2 := ⟨by decide +kernel, rfl⟩
theorem o_bestEligible_2 : InsA md_bestEligible 2 (.iconst 0) 1 3 := ⟨by decide +kernel, rfl⟩
theorem o_bestEligible_3 : InsA md_bestEligible 3 (.istore 4) 2 5 := ⟨by decide +kernel, rfl⟩
theorem o_bestEligible_5 : InsA md_bestEligible 5 (.iload 4) 2 7 := ⟨by decide +kernel, rfl⟩
theorem o_bestEligible_7 : InsA md_bestEligible 7 (.aload_n 0) 1 8 := ⟨by decide +kernel, rfl⟩
theorem o_bestEligible_8 : InsA md_bestEligible 8 (.getfield 47) 3 11 := ⟨by decide +kernel, rfl⟩
theorem o_bestEligible_11 : InsB md_bestEligible 11 (.if_icmp .ge 40) 3 14 (40) 51 := ⟨by decide +kernel, rfl, by decide, by decide⟩
theorem o_bestEligible_14 : InsA md_bestEligible 14 (.aload_n 0) 1 15 := ⟨by decide +kernel, rfl⟩
theorem o_bestEligible_15 : InsA md_bestEligible 15 (.iload 4) 2 17 := ⟨by decide +kernel, rfl⟩
theorem o_bestEligible_17 : InsA md_bestEligible 17 (.iload_n 1) 1 18 := ⟨by decide +kernel, rfl⟩
theorem o_bestEligible_18 : InsA md_bestEligible 18 (.iload_n 2) 1 19 := ⟨by decide +kernel, rfl⟩
theorem o_bestEligible_19 : InsA md_bestEligible 19 (.invokevirtual 133) 3 22 := ⟨by decide +kernel, rfl⟩
theorem o_bestEligible_22 : InsB md_bestEligible 22 (.ifCond .ne 6) 3 25 (6) 28 := ⟨by decide +kernel, rfl, by decide, by decide⟩
theorem o_bestEligible_25 : InsB md_bestEligible 25 (.goto 20) 3 28 (20) 45 := ⟨by decide +kernel, rfl, by decide, by decide⟩
theorem o_bestEligible_28 : InsA md_bestEligible 28 (.iload_n 3) 1 29 := ⟨by decide +kernel, rfl⟩
theorem o_bestEligible_29 : InsB md_bestEligible 29 (.ifCond .lt 13) 3 32 (13) 42 := ⟨by decide +kernel, rfl, by decide, by decide⟩
theorem o_bestEligible_32 : InsA md_bestEligible 32 (.aload_n 0) 1 33 := ⟨by decide +kernel, rfl⟩
theorem o_bestEligible_33 : InsA md_bestEligible 33 (.iload 4) 2 35 := ⟨by decide +kernel, rfl⟩
theorem o_bestEligible_35 : InsA md_bestEligible 35 (.iload_n 3) 1 36 := ⟨by decide +kernel, rfl⟩
theorem o_bestEligible_36 : InsA md_bestEligible 36 (.invokevirtual 136) 3 39 := ⟨by decide +kernel, rfl⟩
theorem o_bestEligible_42 : InsA md_bestEligible 42 (.iload 4) 2 44 := ⟨by decide +kernel, rfl⟩
theorem o_bestEligible_44 : InsA md_bestEligible 44 (.istore_n 3) 1 45 := ⟨by decide +kernel, rfl⟩
theorem o_bestEligible_45 : InsA md_bestEligible 45 (.iinc 4 1) 3 48 := ⟨by decide +kernel, rfl⟩
theorem o_bestEligible_48 : InsB md_bestEligible 48 (.goto (-43)) 3 51 (-43) 5 := ⟨by decide +kernel, rfl, by decide, by decide⟩
theorem o_bestEligible_51 : InsA md_bestEligible 51 (.iload_n 3) 1 52 := ⟨by decide +kernel, rfl⟩
theorem o_bestEligible_52 : InsA md_bestEligible 52 (.ireturn) 1 53 := ⟨by decide +kernel, rfl⟩
abbrev md_eligible : MD := (⟨"AuctionCross", "eligible", "(III)Z"⟩, prog_1_method_36_code, 4, some .boolean, { frames := 0, cells := 0, slots := 0, locals := 0 }, 0)
theorem cv_eligible {Z : State} {a0 : Array Value} (H : OK Z a0) : CalV Z a0 md_eligible 3 := ⟨pn_AuctionCross, by decide, pd__III_Z, H.w 131 rfl, H.w 133 rfl, H.w 2 rfl, Or.inr ⟨H.w 132 rfl, 18, H.w 1 rfl⟩⟩
theorem o_eligible_0 : InsA md_eligible 0 (.aload_n 0) 1 1 := ⟨by decide +kernel, rfl⟩
theorem o_eligible_1 : InsA md_eligible 1 (.getfield 7) 3 4 := ⟨by decide +kernel, rfl⟩
theorem o_eligible_4 : InsA md_eligible 4 (.iload_n 1) 1 5 := ⟨by decide +kernel, rfl⟩
theorem o_eligible_5 : InsA md_eligible 5 (.iaload) 1 6 := ⟨by decide +kernel, rfl⟩
theorem o_eligible_6 : InsA md_eligible 6 (.iconst 1) 1 7 := ⟨by decide +kernel, rfl⟩
theorem o_eligible_7 : InsB md_eligible 7 (.if_icmp .ne 22) 3 10 (22) 29 := ⟨by decide +kernel, rfl, by decide, by decide⟩
theorem o_eligible_10 : InsA md_eligible 10 (.aload_n 0) 1 11 := ⟨by decide +kernel, rfl⟩
theorem o_eligible_11 : InsA md_eligible 11 (.getfield 16) 3 14 := ⟨by decide +kernel, rfl⟩
theorem o_eligible_14 : InsA md_eligible 14 (.iload_n 1) 1 15 := ⟨by decide +kernel, rfl⟩
theorem o_eligible_15 : InsA md_eligible 15 (.iaload) 1 16 := ⟨by decide +kernel, rfl⟩
theorem o_eligible_16 : InsA md_eligible 16 (.iload_n 2) 1 17 := ⟨by decide +kernel, rfl⟩
theorem o_eligible_17 : InsB md_eligible 17 (.if_icmp .ne 12) 3 20 (12) 29 := ⟨by decide +kernel, rfl, by decide, by decide⟩
theorem o_eligible_20 : InsA md_eligible 20 (.aload_n 0) 1 21 := ⟨by decide +kernel, rfl⟩
theorem o_eligible_21 : InsA md_eligible 21 (.getfield 22) 3 24 := ⟨by decide +kernel, rfl⟩
theorem o_eligible_24 : InsA md_eligible 24 (.iload_n 1) 1 25 := ⟨by decide +kernel, rfl⟩
theorem o_eligible_25 : InsA md_eligible 25 (.iaload) 1 26 := ⟨by decide +kernel, rfl⟩
theorem o_eligible_26 : InsB md_eligible 26 (.ifCond .gt 5) 3 29 (5) 31 := ⟨by decide +kernel, rfl, by decide, by decide⟩
theorem o_eligible_29 : InsA md_eligible 29 (.iconst 0) 1 30 := ⟨by decide +kernel, rfl⟩
theorem o_eligible_30 : InsA md_eligible 30 (.ireturn) 1 31 := ⟨by decide +kernel, rfl⟩
theorem o_eligible_31 : InsA md_eligible 31 (.aload_n 0) 1 32 := ⟨by decide +kernel, rfl⟩
theorem o_eligible_32 : InsA md_eligible 32 (.getfield 19) 3 35 := ⟨by decide +kernel, rfl⟩
theorem o_eligible_35 : InsA md_eligible 35 (.iload_n 1) 1 36 := ⟨by decide +kernel, rfl⟩
theorem o_eligible_36 : InsA md_eligible 36 (.iaload) 1 37 := ⟨by decide +kernel, rfl⟩
theorem o_eligible_37 : InsB md_eligible 37 (.ifCond .ne 5) 3 40 (5) 42 := ⟨by decide +kernel, rfl, by decide, by decide⟩
theorem o_eligible_40 : InsA md_eligible 40 (.iconst 1) 1 41 := ⟨by decide +kernel, rfl⟩
theorem o_eligible_41 : InsA md_eligible 41 (.ireturn) 1 42 := ⟨by decide +kernel, rfl⟩
theorem o_eligible_42 : InsA md_eligible 42 (.iload_n 2) 1 43 := ⟨by decide +kernel, rfl⟩
theorem o_eligible_43 : InsB md_eligible 43 (.ifCond .ne 21) 3 46 (21) 64 := ⟨by decide +kernel, rfl, by decide, by decide⟩
theorem o_eligible_46 : InsA md_eligible 46 (.aload_n 0) 1 47 := ⟨by decide +kernel, rfl⟩
theorem o_eligible_47 : InsA md_eligible 47 (.getfield 19) 3 50 := ⟨by decide +kernel, rfl⟩
theorem o_eligible_50 : InsA md_eligible 50 (.iload_n 1) 1 51 := ⟨by decide +kernel, rfl⟩
theorem o_eligible_51 : InsA md_eligible 51 (.iaload) 1 52 := ⟨by decide +kernel, rfl⟩
theorem o_eligible_52 : InsA md_eligible 52 (.iload_n 3) 1 53 := ⟨by decide +kernel, rfl⟩
theorem o_eligible_53 : InsB md_eligible 53 (.if_icmp .lt 7) 3 56 (7) 60 := ⟨by decide +kernel, rfl, by decide, by decide⟩
theorem o_eligible_56 : InsA md_eligible 56 (.iconst 1) 1 57 := ⟨by decide +kernel, rfl⟩
theorem o_eligible_57 : InsB md_eligible 57 (.goto 22) 3 60 (22) 79 := ⟨by decide +kernel, rfl, by decide, by decide⟩
theorem o_eligible_60 : InsA md_eligible 60 (.iconst 0) 1 61 := ⟨by decide +kernel, rfl⟩
theorem o_eligible_61 : InsB md_eligible 61 (.goto 18) 3 64 (18) 79 := ⟨by decide +kernel, rfl, by decide, by decide⟩
theorem o_eligible_64 : InsA md_eligible 64 (.aload_n 0) 1 65 := ⟨by decide +kernel, rfl⟩
theorem o_eligible_65 : InsA md_eligible 65 (.getfield 19) 3 68 := ⟨by decide +kernel, rfl⟩
theorem o_eligible_68 : InsA md_eligible 68 (.iload_n 1) 1 69 := ⟨by decide +kernel, rfl⟩
theorem o_eligible_69 : InsA md_eligible 69 (.iaload) 1 70 := ⟨by decide +kernel, rfl⟩
theorem o_eligible_70 : InsA md_eligible 70 (.iload_n 3) 1 71 := ⟨by decide +kernel, rfl⟩
theorem o_eligible_71 : InsB md_eligible 71 (.if_icmp .gt 7) 3 74 (7) 78 := ⟨by decide +kernel, rfl, by decide, by decide⟩
theorem o_eligible_74 : InsA md_eligible 74 (.iconst 1) 1 75 := ⟨by decide +kernel, rfl⟩
theorem o_eligible_75 : InsB md_eligible 75 (.goto 4) 3 78 (4) 79 := ⟨by decide +kernel, rfl, by decide, by decide⟩
theorem o_eligible_78 : InsA md_eligible 78 (.iconst 0) 1 79 := ⟨by decide +kernel, rfl⟩
theorem o_eligible_79 : InsA md_eligible 79 (.ireturn) 1 80 := ⟨by decide +kernel, rfl⟩
abbrev md_creditAccount : MD := (⟨"AuctionCross", "creditAccount", "(II)V"⟩, prog_1_method_41_code, 4, none, { frames := 0, cells := 0, slots := 0, locals := 0 }, 0)
theorem cv_creditAccount {Z : State} {a0 : Array Value} (H : OK Z a0) : CalV Z a0 md_creditAccount 2 := ⟨pn_AuctionCross, by decide, pd__II_V, H.w 135 rfl, H.w 137 rfl, H.w 2 rfl, Or.inr ⟨H.w 136 rfl, 18, H.w 1 rfl⟩⟩
theorem o_creditAccount_0 : InsA md_creditAccount 0 (.aload_n 0) 1 1 := ⟨by decide +kernel, rfl⟩
theorem o_creditAccount_1 : InsA md_creditAccount 1 (.getfield 13) 3 4 := ⟨by decide +kernel, rfl⟩
theorem o_creditAccount_4 : InsA md_creditAccount 4 (.iload_n 1) 1 5 := ⟨by decide +kernel, rfl⟩
theorem o_creditAccount_5 : InsA md_creditAccount 5 (.iaload) 1 6 := ⟨by decide +kernel, rfl⟩
theorem o_creditAccount_6 : InsA md_creditAccount 6 (.istore_n 3) 1 7 := ⟨by decide +kernel, rfl⟩
theorem o_creditAccount_7 : InsA md_creditAccount 7 (.iload_n 3) 1 8 := ⟨by decide +kernel, rfl⟩
theorem o_creditAccount_8 : InsB md_creditAccount 8 (.ifCond .lt 9) 3 11 (9) 17 := ⟨by decide +kernel, rfl, by decide, by decide⟩
theorem o_creditAccount_11 : InsA md_creditAccount 11 (.iload_n 3) 1 12 := ⟨by decide +kernel, rfl⟩
theorem o_creditAccount_12 : InsA md_creditAccount 12 (.bipush 16) 2 14 := ⟨by decide +kernel, rfl⟩
theorem o_creditAccount_14 : InsB md_creditAccount 14 (.if_icmp .lt 4) 3 17 (4) 18 := ⟨by decide +kernel, rfl, by decide, by decide⟩
theorem o_creditAccount_17 : InsA md_creditAccount 17 (.return_) 1 18 := ⟨by decide +kernel, rfl⟩
theorem o_creditAccount_18 : InsA md_creditAccount 18 (.aload_n 0) 1 19 := ⟨by decide +kernel, rfl⟩
theorem o_creditAccount_19 : InsA md_creditAccount 19 (.getfield 16) 3 22 := ⟨by decide +kernel, rfl⟩
theorem o_creditAccount_22 : InsA md_creditAccount 22 (.iload_n 1) 1 23 := ⟨by decide +kernel, rfl⟩
theorem o_creditAccount_23 : InsA md_creditAccount 23 (.iaload) 1 24 := ⟨by decide +kernel, rfl⟩
theorem o_creditAccount_24 : InsB md_creditAccount 24 (.ifCond .ne 16) 3 27 (16) 40 := ⟨by decide +kernel, rfl, by decide, by decide⟩
theorem o_creditAccount_27 : InsA md_creditAccount 27 (.aload_n 0) 1 28 := ⟨by decide +kernel, rfl⟩
theorem o_creditAccount_28 : InsA md_creditAccount 28 (.getfield 31) 3 31 := ⟨by decide +kernel, rfl⟩
theorem o_creditAccount_31 : InsA md_creditAccount 31 (.iload_n 3) 1 32 := ⟨by decide +kernel, rfl⟩
theorem o_creditAccount_32 : InsA md_creditAccount 32 (.dup2) 1 33 := ⟨by decide +kernel, rfl⟩
theorem o_creditAccount_33 : InsA md_creditAccount 33 (.iaload) 1 34 := ⟨by decide +kernel, rfl⟩
theorem o_creditAccount_34 : InsA md_creditAccount 34 (.iload_n 2) 1 35 := ⟨by decide +kernel, rfl⟩
theorem o_creditAccount_35 : InsA md_creditAccount 35 (.iadd) 1 36 := ⟨by decide +kernel, rfl⟩
theorem o_creditAccount_36 : InsA md_creditAccount 36 (.iastore) 1 37 := ⟨by decide +kernel, rfl⟩
theorem o_creditAccount_37 : InsB md_creditAccount 37 (.goto 13) 3 40 (13) 50 := ⟨by decide +kernel, rfl, by decide, by decide⟩
theorem o_creditAccount_40 : InsA md_creditAccount 40 (.aload_n 0) 1 41 := ⟨by decide +kernel, rfl⟩
theorem o_creditAccount_41 : InsA md_creditAccount 41 (.getfield 34) 3 44 := ⟨by decide +kernel, rfl⟩
theorem o_creditAccount_44 : InsA md_creditAccount 44 (.iload_n 3) 1 45 := ⟨by decide +kernel, rfl⟩
theorem o_creditAccount_45 : InsA md_creditAccount 45 (.dup2) 1 46 := ⟨by decide +kernel, rfl⟩
theorem o_creditAccount_46 : InsA md_creditAccount 46 (.iaload) 1 47 := ⟨by decide +kernel, rfl⟩
theorem o_creditAccount_47 : InsA md_creditAccount 47 (.iload_n 2) 1 48 := ⟨by decide +kernel, rfl⟩
theorem o_creditAccount_48 : InsA md_creditAccount 48 (.iadd) 1 49 := ⟨by decide +kernel, rfl⟩
theorem o_creditAccount_49 : InsA md_creditAccount 49 (.iastore) 1 50 := ⟨by decide +kernel, rfl⟩
theorem o_creditAccount_50 : InsA md_creditAccount 50 (.return_) 1 51 := ⟨by decide +kernel, rfl⟩
abbrev md_markDone : MD := (⟨"AuctionCross", "markDone", "()V"⟩, prog_1_method_42_code, 2, none, { frames := 0, cells := 0, slots := 0, locals := 0 }, 0)
theorem cv_markDone {Z : State} {a0 : Array Value} (H : OK Z a0) : CalV Z a0 md_markDone 0 := ⟨pn_AuctionCross, by decide, pd___V, H.w 139 rfl, H.w 141 rfl, H.w 2 rfl, Or.inr ⟨H.w 140 rfl, 18, H.w 1 rfl⟩⟩
theorem o_markDone_0 : InsA md_markDone 0 (.iconst 0) 1 1 := ⟨by decide +kernel, rfl⟩
theorem o_markDone_1 : InsA md_markDone 1 (.istore_n 1) 1 2 := ⟨by decide +kernel, rfl⟩
theorem o_markDone_2 : InsA md_markDone 2 (.iload_n 1) 1 3 := ⟨by decide +kernel, rfl⟩
theorem o_markDone_3 : InsA md_markDone 3 (.aload_n 0) 1 4 := ⟨by decide +kernel, rfl⟩
theorem o_markDone_4 : InsA md_markDone 4 (.getfield 47) 3 7 := ⟨by decide +kernel, rfl⟩
theorem o_markDone_7 : InsB md_markDone 7 (.if_icmp .ge 35) 3 10 (35) 42 := ⟨by decide +kernel, rfl, by decide, by decide⟩
theorem o_markDone_10 : InsA md_markDone 10 (.aload_n 0) 1 11 := ⟨by decide +kernel, rfl⟩
theorem o_markDone_11 : InsA md_markDone 11 (.getfield 7) 3 14 := ⟨by decide +kernel, rfl⟩
theorem o_markDone_14 : InsA md_markDone 14 (.iload_n 1) 1 15 := ⟨by decide +kernel, rfl⟩
theorem o_markDone_15 : InsA md_markDone 15 (.iaload) 1 16 := ⟨by decide +kernel, rfl⟩
theorem o_markDone_16 : InsA md_markDone 16 (.iconst 1) 1 17 := ⟨by decide +kernel, rfl⟩
theorem o_markDone_17 : InsB md_markDone 17 (.if_icmp .ne 19) 3 20 (19) 36 := ⟨by decide +kernel, rfl, by decide, by decide⟩
theorem o_markDone_20 : InsA md_markDone 20 (.aload_n 0) 1 21 := ⟨by decide +kernel, rfl⟩
theorem o_markDone_21 : InsA md_markDone 21 (.getfield 22) 3 24 := ⟨by decide +kernel, rfl⟩
theorem o_markDone_24 : InsA md_markDone 24 (.iload_n 1) 1 25 := ⟨by decide +kernel, rfl⟩
theorem o_markDone_25 : InsA md_markDone 25 (.iaload) 1 26 := ⟨by decide +kernel, rfl⟩
theorem o_markDone_26 : InsB md_markDone 26 (.ifCond .ne 10) 3 29 (10) 36 := ⟨by decide +kernel, rfl, by decide, by decide⟩
theorem o_markDone_29 : InsA md_markDone 29 (.aload_n 0) 1 30 := ⟨by decide +kernel, rfl⟩
theorem o_markDone_30 : InsA md_markDone 30 (.getfield 7) 3 33 := ⟨by decide +kernel, rfl⟩
theorem o_markDone_33 : InsA md_markDone 33 (.iload_n 1) 1 34 := ⟨by decide +kernel, rfl⟩
theorem o_markDone_34 : InsA md_markDone 34 (.iconst 2) 1 35 := ⟨by decide +kernel, rfl⟩
theorem o_markDone_35 : InsA md_markDone 35 (.iastore) 1 36 := ⟨by decide +kernel, rfl⟩
theorem o_markDone_36 : InsA md_markDone 36 (.iinc 1 1) 3 39 := ⟨by decide +kernel, rfl⟩
theorem o_markDone_39 : InsB md_markDone 39 (.goto (-37)) 3 42 (-37) 2 := ⟨by decide +kernel, rfl, by decide, by decide⟩
theorem o_markDone_42 : InsA md_markDone 42 (.return_) 1 43 := ⟨by decide +kernel, rfl⟩
abbrev md_getLastPrice : MD := (⟨"AuctionCross", "getLastPrice", "()I"⟩, prog_1_method_14_code, 1, some .int, { frames := 0, cells := 0, slots := 0, locals := 0 }, 0)
theorem cv_getLastPrice {Z : State} {a0 : Array Value} (H : OK Z a0) : CalV Z a0 md_getLastPrice 0 := ⟨pn_AuctionCross, by decide, pd___I, H.w 144 rfl, H.w 146 rfl, H.w 2 rfl, Or.inl ⟨H.w 143 rfl, H.w 145 rfl⟩⟩
theorem o_getLastPrice_0 : InsA md_getLastPrice 0 (.aload_n 0) 1 1 := ⟨by decide +kernel, rfl⟩
theorem o_getLastPrice_1 : InsA md_getLastPrice 1 (.getfield 63) 3 4 := ⟨by decide +kernel, rfl⟩
theorem o_getLastPrice_4 : InsA md_getLastPrice 4 (.ireturn) 1 5 := ⟨by decide +kernel, rfl⟩
abbrev md_getLastVolume : MD := (⟨"AuctionCross", "getLastVolume", "()I"⟩, prog_1_method_15_code, 1, some .int, { frames := 0, cells := 0, slots := 0, locals := 0 }, 0)
theorem cv_getLastVolume {Z : State} {a0 : Array Value} (H : OK Z a0) : CalV Z a0 md_getLastVolume 0 := ⟨pn_AuctionCross, by decide, pd___I, H.w 149 rfl, H.w 151 rfl, H.w 2 rfl, Or.inl ⟨H.w 148 rfl, H.w 150 rfl⟩⟩
theorem o_getLastVolume_0 : InsA md_getLastVolume 0 (.aload_n 0) 1 1 := ⟨by decide +kernel, rfl⟩
theorem o_getLastVolume_1 : InsA md_getLastVolume 1 (.getfield 66) 3 4 := ⟨by decide +kernel, rfl⟩
theorem o_getLastVolume_4 : InsA md_getLastVolume 4 (.ireturn) 1 5 := ⟨by decide +kernel, rfl⟩
abbrev md_getPhase : MD := (⟨"AuctionCross", "getPhase", "()I"⟩, prog_1_method_13_code, 1, some .int, { frames := 0, cells := 0, slots := 0, locals := 0 }, 0)
theorem cv_getPhase {Z : State} {a0 : Array Value} (H : OK Z a0) : CalV Z a0 md_getPhase 0 := ⟨pn_AuctionCross, by decide, pd___I, H.w 154 rfl, H.w 156 rfl, H.w 2 rfl, Or.inl ⟨H.w 153 rfl, H.w 155 rfl⟩⟩
theorem o_getPhase_0 : InsA md_getPhase 0 (.aload_n 0) 1 1 := ⟨by decide +kernel, rfl⟩
theorem o_getPhase_1 : InsA md_getPhase 1 (.getfield 57) 3 4 := ⟨by decide +kernel, rfl⟩
theorem o_getPhase_4 : InsA md_getPhase 4 (.ireturn) 1 5 := ⟨by decide +kernel, rfl⟩
abbrev md_accountBought : MD := (⟨"AuctionCross", "accountBought", "(I)I"⟩, prog_1_method_17_code, 2, some .int, { frames := 0, cells := 0, slots := 0, locals := 0 }, 0)
theorem cv_accountBought {Z : State} {a0 : Array Value} (H : OK Z a0) : CalV Z a0 md_accountBought 1 := ⟨pn_AuctionCross, by decide, pd__I_I, H.w 159 rfl, H.w 161 rfl, H.w 2 rfl, Or.inl ⟨H.w 158 rfl, H.w 160 rfl⟩⟩
theorem o_accountBought_0 : InsA md_accountBought 0 (.iload_n 1) 1 1 := ⟨by decide +kernel, rfl⟩
theorem o_accountBought_1 : InsB md_accountBought 1 (.ifCond .lt 11) 3 4 (11) 12 := ⟨by decide +kernel, rfl, by decide, by decide⟩
theorem o_accountBought_4 : InsA md_accountBought 4 (.iload_n 1) 1 5 := ⟨by decide +kernel, rfl⟩
theorem o_accountBought_5 : InsA md_accountBought 5 (.aload_n 0) 1 6 := ⟨by decide +kernel, rfl⟩
theorem o_accountBought_6 : InsA md_accountBought 6 (.getfield 51) 3 9 := ⟨by decide +kernel, rfl⟩
theorem o_accountBought_9 : InsB md_accountBought 9 (.if_icmp .lt 5) 3 12 (5) 14 := ⟨by decide +kernel, rfl, by decide, by decide⟩
theorem o_accountBought_12 : InsA md_accountBought 12 (.iconst (-1)) 1 13 := ⟨by decide +kernel, rfl⟩
theorem o_accountBought_13 : InsA md_accountBought 13 (.ireturn) 1 14 := ⟨by decide +kernel, rfl⟩
theorem o_accountBought_14 : InsA md_accountBought 14 (.aload_n 0) 1 15 := ⟨by decide +kernel, rfl⟩
theorem o_accountBought_15 : InsA md_accountBought 15 (.getfield 31) 3 18 := ⟨by decide +kernel, rfl⟩
theorem o_accountBought_18 : InsA md_accountBought 18 (.iload_n 1) 1 19 := ⟨by decide +kernel, rfl⟩
theorem o_accountBought_19 : InsA md_accountBought 19 (.iaload) 1 20 := ⟨by decide +kernel, rfl⟩
theorem o_accountBought_20 : InsA md_accountBought 20 (.ireturn) 1 21 := ⟨by decide +kernel, rfl⟩
abbrev md_accountSold : MD := (⟨"AuctionCross", "accountSold", "(I)I"⟩, prog_1_method_18_code, 2, some .int, { frames := 0, cells := 0, slots := 0, locals := 0 }, 0)
theorem cv_accountSold {Z : State} {a0 : Array Value} (H : OK Z a0) : CalV Z a0 md_accountSold 1 := ⟨pn_AuctionCross, by decide, pd__I_I, H.w 164 rfl, H.w 166 rfl, H.w 2 rfl, Or.inl ⟨H.w 163 rfl, H.w 165 rfl⟩⟩
theorem o_accountSold_0 : InsA md_accountSold 0 (.iload_n 1) 1 1 := ⟨by decide +kernel, rfl⟩
theorem o_accountSold_1 : InsB md_accountSold 1 (.ifCond .lt 11) 3 4 (11) 12 := ⟨by decide +kernel, rfl, by decide, by decide⟩
theorem o_accountSold_4 : InsA md_accountSold 4 (.iload_n 1) 1 5 := ⟨by decide +kernel, rfl⟩
theorem o_accountSold_5 : InsA md_accountSold 5 (.aload_n 0) 1 6 := ⟨by decide +kernel, rfl⟩
theorem o_accountSold_6 : InsA md_accountSold 6 (.getfield 51) 3 9 := ⟨by decide +kernel, rfl⟩
theorem o_accountSold_9 : InsB md_accountSold 9 (.if_icmp .lt 5) 3 12 (5) 14 := ⟨by decide +kernel, rfl, by decide, by decide⟩
theorem o_accountSold_12 : InsA md_accountSold 12 (.iconst (-1)) 1 13 := ⟨by decide +kernel, rfl⟩
theorem o_accountSold_13 : InsA md_accountSold 13 (.ireturn) 1 14 := ⟨by decide +kernel, rfl⟩
theorem o_accountSold_14 : InsA md_accountSold 14 (.aload_n 0) 1 15 := ⟨by decide +kernel, rfl⟩
theorem o_accountSold_15 : InsA md_accountSold 15 (.getfield 34) 3 18 := ⟨by decide +kernel, rfl⟩
theorem o_accountSold_18 : InsA md_accountSold 18 (.iload_n 1) 1 19 := ⟨by decide +kernel, rfl⟩
theorem o_accountSold_19 : InsA md_accountSold 19 (.iaload) 1 20 := ⟨by decide +kernel, rfl⟩
theorem o_accountSold_20 : InsA md_accountSold 20 (.ireturn) 1 21 := ⟨by decide +kernel, rfl⟩
abbrev md_L_slot : MD := (⟨"AuctionCrossL3", "slot", "(LAuctionCross;III)Z"⟩, method_4_code, 5, some .boolean, { frames := 1, cells := 0, slots := 0, locals := 14 }, 0)
theorem cv_L_slot {Z : State} {a0 : Array Value} (H : OK Z a0) : CalS Z a0 md_L_slot 4 := ⟨pn_AuctionCrossL3, by decide, pd__LAuctionCross_III_Z, H.w 168 rfl, H.w 169 rfl, H.w 52 rfl⟩
theorem o_L_slot_0 : InsA md_L_slot 0 (.iload_n 2) 1 1 := ⟨by decide +kernel, rfl⟩
theorem o_L_slot_1 : InsB md_L_slot 1 (.ifCond .ne 7) 3 4 (7) 8 := ⟨by decide +kernel, rfl, by decide, by decide⟩
theorem o_L_slot_4 : InsA md_L_slot 4 (.iconst 2) 1 5 := ⟨by decide +kernel, rfl⟩
theorem o_L_slot_5 : InsB md_L_slot 5 (.goto 4) 3 8 (4) 9 := ⟨by decide +kernel, rfl, by decide, by decide⟩
theorem o_L_slot_8 : InsA md_L_slot 8 (.iconst 1) 1 9 := ⟨by decide +kernel, rfl⟩
theorem o_L_slot_9 : InsA md_L_slot 9 (.istore 4) 2 11 := ⟨by decide +kernel, rfl⟩
theorem o_L_slot_11 : InsA md_L_slot 11 (.aload_n 0) 1 12 := ⟨by decide +kernel, rfl⟩
theorem o_L_slot_12 : InsA md_L_slot 12 (.iload_n 1) 1 13 := ⟨by decide +kernel, rfl⟩
theorem o_L_slot_13 : InsA md_L_slot 13 (.iconst 0) 1 14 := ⟨by decide +kernel, rfl⟩
theorem o_L_slot_14 : InsA md_L_slot 14 (.invokevirtual 58) 3 17 := ⟨by decide +kernel, rfl⟩
theorem o_L_slot_17 : InsA md_L_slot 17 (.iload 4) 2 19 := ⟨by decide +kernel, rfl⟩
theorem o_L_slot_19 : InsB md_L_slot 19 (.if_icmp .eq 5) 3 22 (5) 24 := ⟨by decide +kernel, rfl, by decide, by decide⟩
theorem o_L_slot_22 : InsA md_L_slot 22 (.iconst 0) 1 23 := ⟨by decide +kernel, rfl⟩
theorem o_L_slot_23 : InsA md_L_slot 23 (.ireturn) 1 24 := ⟨by decide +kernel, rfl⟩
theorem o_L_slot_24 : InsA md_L_slot 24 (.aload_n 0) 1 25 := ⟨by decide +kernel, rfl⟩
theorem o_L_slot_25 : InsA md_L_slot 25 (.iload_n 1) 1 26 := ⟨by decide +kernel, rfl⟩
theorem o_L_slot_26 : InsA md_L_slot 26 (.iconst 4) 1 27 := ⟨by decide +kernel, rfl⟩
theorem o_L_slot_27 : InsA md_L_slot 27 (.invokevirtual 58) 3 30 := ⟨by decide +kernel, rfl⟩
theorem o_L_slot_30 : InsA md_L_slot 30 (.iload_n 2) 1 31 := ⟨by decide +kernel, rfl⟩
theorem o_L_slot_31 : InsB md_L_slot 31 (.if_icmp .eq 5) 3 34 (5) 36 := ⟨by decide +kernel, rfl, by decide, by decide⟩
theorem o_L_slot_34 : InsA md_L_slot 34 (.iconst 0) 1 35 := ⟨by decide +kernel, rfl⟩
theorem o_L_slot_35 : InsA md_L_slot 35 (.ireturn) 1 36 := ⟨by decide +kernel, rfl⟩
theorem o_L_slot_36 : InsA md_L_slot 36 (.aload_n 0) 1 37 := ⟨by decide +kernel, rfl⟩
theorem o_L_slot_37 : InsA md_L_slot 37 (.iload_n 1) 1 38 := ⟨by decide +kernel, rfl⟩
theorem o_L_slot_38 : InsA md_L_slot 38 (.iconst 5) 1 39 := ⟨by decide +kernel, rfl⟩
theorem o_L_slot_39 : InsA md_L_slot 39 (.invokevirtual 58) 3 42 := ⟨by decide +kernel, rfl⟩
theorem o_L_slot_42 : InsA md_L_slot 42 (.iload_n 3) 1 43 := ⟨by decide +kernel, rfl⟩
theorem o_L_slot_43 : InsB md_L_slot 43 (.if_icmp .ne 7) 3 46 (7) 50 := ⟨by decide +kernel, rfl, by decide, by decide⟩
theorem o_L_slot_46 : InsA md_L_slot 46 (.iconst 1) 1 47 := ⟨by decide +kernel, rfl⟩
theorem o_L_slot_47 : InsB md_L_slot 47 (.goto 4) 3 50 (4) 51 := ⟨by decide +kernel, rfl, by decide, by decide⟩
theorem o_L_slot_50 : InsA md_L_slot 50 (.iconst 0) 1 51 := ⟨by decide +kernel, rfl⟩
theorem o_L_slot_51 : InsA md_L_slot 51 (.ireturn) 1 52 := ⟨by decide +kernel, rfl⟩
abbrev md_orderField : MD := (⟨"AuctionCross", "orderField", "(II)I"⟩, prog_1_method_16_code, 3, some .int, { frames := 0, cells := 0, slots := 0, locals := 0 }, 0)
theorem cv_orderField {Z : State} {a0 : Array Value} (H : OK Z a0) : CalV Z a0 md_orderField 2 := ⟨pn_AuctionCross, by decide, pd__II_I, H.w 172 rfl, H.w 174 rfl, H.w 2 rfl, Or.inl ⟨H.w 171 rfl, H.w 173 rfl⟩⟩
theorem o_orderField_0 : InsA md_orderField 0 (.iload_n 1) 1 1 := ⟨by decide +kernel, rfl⟩
theorem o_orderField_1 : InsB md_orderField 1 (.ifCond .lt 21) 3 4 (21) 22 := ⟨by decide +kernel, rfl, by decide, by decide⟩
theorem o_orderField_4 : InsA md_orderField 4 (.iload_n 1) 1 5 := ⟨by decide +kernel, rfl⟩
theorem o_orderField_5 : InsA md_orderField 5 (.aload_n 0) 1 6 := ⟨by decide +kernel, rfl⟩
theorem o_orderField_6 : InsA md_orderField 6 (.getfield 47) 3 9 := ⟨by decide +kernel, rfl⟩
theorem o_orderField_9 : InsB md_orderField 9 (.if_icmp .ge 13) 3 12 (13) 22 := ⟨by decide +kernel, rfl, by decide, by decide⟩
theorem o_orderField_12 : InsA md_orderField 12 (.iload_n 2) 1 13 := ⟨by decide +kernel, rfl⟩
theorem o_orderField_13 : InsB md_orderField 13 (.ifCond .lt 9) 3 16 (9) 22 := ⟨by decide +kernel, rfl, by decide, by decide⟩
theorem o_orderField_16 : InsA md_orderField 16 (.iload_n 2) 1 17 := ⟨by decide +kernel, rfl⟩
theorem o_orderField_17 : InsA md_orderField 17 (.bipush 6) 2 19 := ⟨by decide +kernel, rfl⟩
theorem o_orderField_19 : InsB md_orderField 19 (.if_icmp .le 5) 3 22 (5) 24 := ⟨by decide +kernel, rfl, by decide, by decide⟩
theorem o_orderField_22 : InsA md_orderField 22 (.iconst (-1)) 1 23 := ⟨by decide +kernel, rfl⟩
theorem o_orderField_23 : InsA md_orderField 23 (.ireturn) 1 24 := ⟨by decide +kernel, rfl⟩
theorem o_orderField_24 : InsA md_orderField 24 (.iload_n 2) 1 25 := ⟨by decide +kernel, rfl⟩
theorem o_orderField_25 : InsB md_orderField 25 (.ifCond .ne 10) 3 28 (10) 35 := ⟨by decide +kernel, rfl, by decide, by decide⟩
theorem o_orderField_28 : InsA md_orderField 28 (.aload_n 0) 1 29 := ⟨by decide +kernel, rfl⟩
theorem o_orderField_29 : InsA md_orderField 29 (.getfield 7) 3 32 := ⟨by decide +kernel, rfl⟩
theorem o_orderField_32 : InsA md_orderField 32 (.iload_n 1) 1 33 := ⟨by decide +kernel, rfl⟩
theorem o_orderField_33 : InsA md_orderField 33 (.iaload) 1 34 := ⟨by decide +kernel, rfl⟩
theorem o_orderField_34 : InsA md_orderField 34 (.ireturn) 1 35 := ⟨by decide +kernel, rfl⟩
theorem o_orderField_35 : InsA md_orderField 35 (.iload_n 2) 1 36 := ⟨by decide +kernel, rfl⟩
theorem o_orderField_36 : InsA md_orderField 36 (.iconst 1) 1 37 := ⟨by decide +kernel, rfl⟩
theorem o_orderField_37 : InsB md_orderField 37 (.if_icmp .ne 10) 3 40 (10) 47 := ⟨by decide +kernel, rfl, by decide, by decide⟩
theorem o_orderField_40 : InsA md_orderField 40 (.aload_n 0) 1 41 := ⟨by decide +kernel, rfl⟩
theorem o_orderField_41 : InsA md_orderField 41 (.getfield 13) 3 44 := ⟨by decide +kernel, rfl⟩
theorem o_orderField_44 : InsA md_orderField 44 (.iload_n 1) 1 45 := ⟨by decide +kernel, rfl⟩
theorem o_orderField_45 : InsA md_orderField 45 (.iaload) 1 46 := ⟨by decide +kernel, rfl⟩
theorem o_orderField_46 : InsA md_orderField 46 (.ireturn) 1 47 := ⟨by decide +kernel, rfl⟩
theorem o_orderField_47 : InsA md_orderField 47 (.iload_n 2) 1 48 := ⟨by decide +kernel, rfl⟩
theorem o_orderField_48 : InsA md_orderField 48 (.iconst 2) 1 49 := ⟨by decide +kernel, rfl⟩
theorem o_orderField_49 : InsB md_orderField 49 (.if_icmp .ne 10) 3 52 (10) 59 := ⟨by decide +kernel, rfl, by decide, by decide⟩
theorem o_orderField_52 : InsA md_orderField 52 (.aload_n 0) 1 53 := ⟨by decide +kernel, rfl⟩
theorem o_orderField_53 : InsA md_orderField 53 (.getfield 16) 3 56 := ⟨by decide +kernel, rfl⟩
theorem o_orderField_56 : InsA md_orderField 56 (.iload_n 1) 1 57 := ⟨by decide +kernel, rfl⟩
theorem o_orderField_57 : InsA md_orderField 57 (.iaload) 1 58 := ⟨by decide +kernel, rfl⟩
theorem o_orderField_58 : InsA md_orderField 58 (.ireturn) 1 59 := ⟨by decide +kernel, rfl⟩
theorem o_orderField_59 : InsA md_orderField 59 (.iload_n 2) 1 60 := ⟨by decide +kernel, rfl⟩
theorem o_orderField_60 : InsA md_orderField 60 (.iconst 3) 1 61 := ⟨by decide +kernel, rfl⟩
theorem o_orderField_61 : InsB md_orderField 61 (.if_icmp .ne 10) 3 64 (10) 71 := ⟨by decide +kernel, rfl, by decide, by decide⟩
theorem o_orderField_64 : InsA md_orderField 64 (.aload_n 0) 1 65 := ⟨by decide +kernel, rfl⟩
theorem o_orderField_65 : InsA md_orderField 65 (.getfield 19) 3 68 := ⟨by decide +kernel, rfl⟩
theorem o_orderField_68 : InsA md_orderField 68 (.iload_n 1) 1 69 := ⟨by decide +kernel, rfl⟩
theorem o_orderField_69 : InsA md_orderField 69 (.iaload) 1 70 := ⟨by decide +kernel, rfl⟩
theorem o_orderField_70 : InsA md_orderField 70 (.ireturn) 1 71 := ⟨by decide +kernel, rfl⟩
theorem o_orderField_71 : InsA md_orderField 71 (.iload_n 2) 1 72 := ⟨by decide +kernel, rfl⟩
theorem o_orderField_72 : InsA md_orderField 72 (.iconst 4) 1 73 := ⟨by decide +kernel, rfl⟩
theorem o_orderField_73 : InsB md_orderField 73 (.if_icmp .ne 10) 3 76 (10) 83 := ⟨by decide +kernel, rfl, by decide, by decide⟩
theorem o_orderField_76 : InsA md_orderField 76 (.aload_n 0) 1 77 := ⟨by decide +kernel, rfl⟩
theorem o_orderField_77 : InsA md_orderField 77 (.getfield 22) 3 80 := ⟨by decide +kernel, rfl⟩
theorem o_orderField_80 : InsA md_orderField 80 (.iload_n 1) 1 81 := ⟨by decide +kernel, rfl⟩
theorem o_orderField_81 : InsA md_orderField 81 (.iaload) 1 82 := ⟨by decide +kernel, rfl⟩
theorem o_orderField_82 : InsA md_orderField 82 (.ireturn) 1 83 := ⟨by decide +kernel, rfl⟩
theorem o_orderField_83 : InsA md_orderField 83 (.iload_n 2) 1 84 := ⟨by decide +kernel, rfl⟩
theorem o_orderField_84 : InsA md_orderField 84 (.iconst 5) 1 85 := ⟨by decide +kernel, rfl⟩
theorem o_orderField_85 : InsB md_orderField 85 (.if_icmp .ne 10) 3 88 (10) 95 := ⟨by decide +kernel, rfl, by decide, by decide⟩
theorem o_orderField_88 : InsA md_orderField 88 (.aload_n 0) 1 89 := ⟨by decide +kernel, rfl⟩
theorem o_orderField_89 : InsA md_orderField 89 (.getfield 25) 3 92 := ⟨by decide +kernel, rfl⟩
theorem o_orderField_92 : InsA md_orderField 92 (.iload_n 1) 1 93 := ⟨by decide +kernel, rfl⟩
theorem o_orderField_93 : InsA md_orderField 93 (.iaload) 1 94 := ⟨by decide +kernel, rfl⟩
theorem o_orderField_94 : InsA md_orderField 94 (.ireturn) 1 95 := ⟨by decide +kernel, rfl⟩
theorem o_orderField_95 : InsA md_orderField 95 (.aload_n 0) 1 96 := ⟨by decide +kernel, rfl⟩
theorem o_orderField_96 : InsA md_orderField 96 (.getfield 28) 3 99 := ⟨by decide +kernel, rfl⟩
theorem o_orderField_99 : InsA md_orderField 99 (.iload_n 1) 1 100 := ⟨by decide +kernel, rfl⟩
theorem o_orderField_100 : InsA md_orderField 100 (.iaload) 1 101 := ⟨by decide +kernel, rfl⟩
theorem o_orderField_101 : InsA md_orderField 101 (.ireturn) 1 102 := ⟨by decide +kernel, rfl⟩
abbrev md_reopen : MD := (⟨"AuctionCross", "reopen", "()I"⟩, prog_1_method_12_code, 2, some .int, { frames := 1, cells := 0, slots := 0, locals := 13 }, 0)
theorem cv_reopen {Z : State} {a0 : Array Value} (H : OK Z a0) : CalV Z a0 md_reopen 0 := ⟨pn_AuctionCross, by decide, pd___I, H.w 177 rfl, H.w 179 rfl, H.w 2 rfl, Or.inl ⟨H.w 176 rfl, H.w 178 rfl⟩⟩
theorem o_reopen_0 : InsA md_reopen 0 (.aload_n 0) 1 1 := ⟨by decide +kernel, rfl⟩
theorem o_reopen_1 : InsA md_reopen 1 (.getfield 57) 3 4 := ⟨by decide +kernel, rfl⟩
theorem o_reopen_4 : InsA md_reopen 4 (.iconst 1) 1 5 := ⟨by decide +kernel, rfl⟩
theorem o_reopen_5 : InsB md_reopen 5 (.if_icmp .eq 5) 3 8 (5) 10 := ⟨by decide +kernel, rfl, by decide, by decide⟩
theorem o_reopen_8 : InsA md_reopen 8 (.iconst (-1)) 1 9 := ⟨by decide +kernel, rfl⟩
theorem o_reopen_9 : InsA md_reopen 9 (.ireturn) 1 10 := ⟨by decide +kernel, rfl⟩
theorem o_reopen_10 : InsA md_reopen 10 (.iconst 0) 1 11 := ⟨by decide +kernel, rfl⟩
theorem o_reopen_11 : InsA md_reopen 11 (.istore_n 1) 1 12 := ⟨by decide +kernel, rfl⟩
theorem o_reopen_12 : InsA md_reopen 12 (.iload_n 1) 1 13 := ⟨by decide +kernel, rfl⟩
theorem o_reopen_13 : InsA md_reopen 13 (.aload_n 0) 1 14 := ⟨by decide +kernel, rfl⟩
theorem o_reopen_14 : InsA md_reopen 14 (.getfield 47) 3 17 := ⟨by decide +kernel, rfl⟩
theorem o_reopen_17 : InsB md_reopen 17 (.if_icmp .ge 44) 3 20 (44) 61 := ⟨by decide +kernel, rfl, by decide, by decide⟩
theorem o_reopen_20 : InsA md_reopen 20 (.aload_n 0) 1 21 := ⟨by decide +kernel, rfl⟩
theorem o_reopen_21 : InsA md_reopen 21 (.getfield 7) 3 24 := ⟨by decide +kernel, rfl⟩
theorem o_reopen_24 : InsA md_reopen 24 (.iload_n 1) 1 25 := ⟨by decide +kernel, rfl⟩
theorem o_reopen_25 : InsA md_reopen 25 (.iaload) 1 26 := ⟨by decide +kernel, rfl⟩
theorem o_reopen_26 : InsA md_reopen 26 (.iconst 2) 1 27 := ⟨by decide +kernel, rfl⟩
theorem o_reopen_27 : InsB md_reopen 27 (.if_icmp .ne 11) 3 30 (11) 38 := ⟨by decide +kernel, rfl, by decide, by decide⟩
theorem o_reopen_30 : InsA md_reopen 30 (.aload_n 0) 1 31 := ⟨by decide +kernel, rfl⟩
theorem o_reopen_31 : InsA md_reopen 31 (.iload_n 1) 1 32 := ⟨by decide +kernel, rfl⟩
theorem o_reopen_32 : InsA md_reopen 32 (.invokevirtual 77) 3 35 := ⟨by decide +kernel, rfl⟩
theorem o_reopen_35 : InsB md_reopen 35 (.goto 20) 3 38 (20) 55 := ⟨by decide +kernel, rfl, by decide, by decide⟩
theorem o_reopen_38 : InsA md_reopen 38 (.aload_n 0) 1 39 := ⟨by decide +kernel, rfl⟩
theorem o_reopen_39 : InsA md_reopen 39 (.getfield 7) 3 42 := ⟨by decide +kernel, rfl⟩
theorem o_reopen_42 : InsA md_reopen 42 (.iload_n 1) 1 43 := ⟨by decide +kernel, rfl⟩
theorem o_reopen_43 : InsA md_reopen 43 (.iaload) 1 44 := ⟨by decide +kernel, rfl⟩
theorem o_reopen_44 : InsA md_reopen 44 (.iconst 1) 1 45 := ⟨by decide +kernel, rfl⟩
theorem o_reopen_45 : InsB md_reopen 45 (.if_icmp .ne 10) 3 48 (10) 55 := ⟨by decide +kernel, rfl, by decide, by decide⟩
theorem o_reopen_48 : InsA md_reopen 48 (.aload_n 0) 1 49 := ⟨by decide +kernel, rfl⟩
theorem o_reopen_49 : InsA md_reopen 49 (.getfield 25) 3 52 := ⟨by decide +kernel, rfl⟩
theorem o_reopen_52 : InsA md_reopen 52 (.iload_n 1) 1 53 := ⟨by decide +kernel, rfl⟩
theorem o_reopen_53 : InsA md_reopen 53 (.iconst 0) 1 54 := ⟨by decide +kernel, rfl⟩
theorem o_reopen_54 : InsA md_reopen 54 (.iastore) 1 55 := ⟨by decide +kernel, rfl⟩
theorem o_reopen_55 : InsA md_reopen 55 (.iinc 1 1) 3 58 := ⟨by decide +kernel, rfl⟩
theorem o_reopen_58 : InsB md_reopen 58 (.goto (-46)) 3 61 (-46) 12 := ⟨by decide +kernel, rfl, by decide, by decide⟩
theorem o_reopen_61 : InsA md_reopen 61 (.iconst 0) 1 62 := ⟨by decide +kernel, rfl⟩
theorem o_reopen_62 : InsA md_reopen 62 (.istore_n 1) 1 63 := ⟨by decide +kernel, rfl⟩
theorem o_reopen_63 : InsA md_reopen 63 (.iload_n 1) 1 64 := ⟨by decide +kernel, rfl⟩
theorem o_reopen_64 : InsA md_reopen 64 (.bipush 16) 2 66 := ⟨by decide +kernel, rfl⟩
theorem o_reopen_66 : InsB md_reopen 66 (.if_icmp .ge 23) 3 69 (23) 89 := ⟨by decide +kernel, rfl, by decide, by decide⟩
theorem o_reopen_69 : InsA md_reopen 69 (.aload_n 0) 1 70 := ⟨by decide +kernel, rfl⟩
theorem o_reopen_70 : InsA md_reopen 70 (.getfield 31) 3 73 := ⟨by decide +kernel, rfl⟩
theorem o_reopen_73 : InsA md_reopen 73 (.iload_n 1) 1 74 := ⟨by decide +kernel, rfl⟩
theorem o_reopen_74 : InsA md_reopen 74 (.iconst 0) 1 75 := ⟨by decide +kernel, rfl⟩
theorem o_reopen_75 : InsA md_reopen 75 (.iastore) 1 76 := ⟨by decide +kernel, rfl⟩
theorem o_reopen_76 : InsA md_reopen 76 (.aload_n 0) 1 77 := ⟨by decide +kernel, rfl⟩
theorem o_reopen_77 : InsA md_reopen 77 (.getfield 34) 3 80 := ⟨by decide +kernel, rfl⟩
theorem o_reopen_80 : InsA md_reopen 80 (.iload_n 1) 1 81 := ⟨by decide +kernel, rfl⟩
theorem o_reopen_81 : InsA md_reopen 81 (.iconst 0) 1 82 := ⟨by decide +kernel, rfl⟩
theorem o_reopen_82 : InsA md_reopen 82 (.iastore) 1 83 := ⟨by decide +kernel, rfl⟩
theorem o_reopen_83 : InsA md_reopen 83 (.iinc 1 1) 3 86 := ⟨by decide +kernel, rfl⟩
theorem o_reopen_86 : InsB md_reopen 86 (.goto (-23)) 3 89 (-23) 63 := ⟨by decide +kernel, rfl, by decide, by decide⟩
theorem o_reopen_89 : InsA md_reopen 89 (.aload_n 0) 1 90 := ⟨by decide +kernel, rfl⟩
theorem o_reopen_90 : InsA md_reopen 90 (.getfield 66) 3 93 := ⟨by decide +kernel, rfl⟩
theorem o_reopen_93 : InsB md_reopen 93 (.ifCond .le 11) 3 96 (11) 104 := ⟨by decide +kernel, rfl, by decide, by decide⟩
theorem o_reopen_96 : InsA md_reopen 96 (.aload_n 0) 1 97 := ⟨by decide +kernel, rfl⟩
theorem o_reopen_97 : InsA md_reopen 97 (.aload_n 0) 1 98 := ⟨by decide +kernel, rfl⟩
theorem o_reopen_98 : InsA md_reopen 98 (.getfield 63) 3 101 := ⟨by decide +kernel, rfl⟩
theorem o_reopen_101 : InsA md_reopen 101 (.putfield 54) 3 104 := ⟨by decide +kernel, rfl⟩
theorem o_reopen_104 : InsA md_reopen 104 (.aload_n 0) 1 105 := ⟨by decide +kernel, rfl⟩
theorem o_reopen_105 : InsA md_reopen 105 (.iconst 0) 1 106 := ⟨by decide +kernel, rfl⟩
theorem o_reopen_106 : InsA md_reopen 106 (.putfield 63) 3 109 := ⟨by decide +kernel, rfl⟩
theorem o_reopen_109 : InsA md_reopen 109 (.aload_n 0) 1 110 := ⟨by decide +kernel, rfl⟩
theorem o_reopen_110 : InsA md_reopen 110 (.iconst 0) 1 111 := ⟨by decide +kernel, rfl⟩
theorem o_reopen_111 : InsA md_reopen 111 (.putfield 66) 3 114 := ⟨by decide +kernel, rfl⟩
theorem o_reopen_114 : InsA md_reopen 114 (.aload_n 0) 1 115 := ⟨by decide +kernel, rfl⟩
theorem o_reopen_115 : InsA md_reopen 115 (.iconst 0) 1 116 := ⟨by decide +kernel, rfl⟩
theorem o_reopen_116 : InsA md_reopen 116 (.putfield 57) 3 119 := ⟨by decide +kernel, rfl⟩
theorem o_reopen_119 : InsA md_reopen 119 (.iconst 0) 1 120 := ⟨by decide +kernel, rfl⟩
theorem o_reopen_120 : InsA md_reopen 120 (.ireturn) 1 121 := ⟨by decide +kernel, rfl⟩
abbrev md_clearSlot : MD := (⟨"AuctionCross", "clearSlot", "(I)V"⟩, prog_1_method_25_code, 2, none, { frames := 0, cells := 0, slots := 0, locals := 0 }, 0)
theorem cv_clearSlot {Z : State} {a0 : Array Value} (H : OK Z a0) : CalV Z a0 md_clearSlot 1 := ⟨pn_AuctionCross, by decide, pd__I_V, H.w 181 rfl, H.w 183 rfl, H.w 2 rfl, Or.inr ⟨H.w 182 rfl, 18, H.w 1 rfl⟩⟩
theorem o_clearSlot_0 : InsA md_clearSlot 0 (.aload_n 0) 1 1 := ⟨by decide +kernel, rfl⟩
theorem o_clearSlot_1 : InsA md_clearSlot 1 (.getfield 7) 3 4 := ⟨by decide +kernel, rfl⟩
theorem o_clearSlot_4 : InsA md_clearSlot 4 (.iload_n 1) 1 5 := ⟨by decide +kernel, rfl⟩
theorem o_clearSlot_5 : InsA md_clearSlot 5 (.iconst 0) 1 6 := ⟨by decide +kernel, rfl⟩
theorem o_clearSlot_6 : InsA md_clearSlot 6 (.iastore) 1 7 := ⟨by decide +kernel, rfl⟩
theorem o_clearSlot_7 : InsA md_clearSlot 7 (.aload_n 0) 1 8 := ⟨by decide +kernel, rfl⟩
theorem o_clearSlot_8 : InsA md_clearSlot 8 (.getfield 13) 3 11 := ⟨by decide +kernel, rfl⟩
theorem o_clearSlot_11 : InsA md_clearSlot 11 (.iload_n 1) 1 12 := ⟨by decide +kernel, rfl⟩
theorem o_clearSlot_12 : InsA md_clearSlot 12 (.iconst 0) 1 13 := ⟨by decide +kernel, rfl⟩
theorem o_clearSlot_13 : InsA md_clearSlot 13 (.iastore) 1 14 := ⟨by decide +kernel, rfl⟩
theorem o_clearSlot_14 : InsA md_clearSlot 14 (.aload_n 0) 1 15 := ⟨by decide +kernel, rfl⟩
theorem o_clearSlot_15 : InsA md_clearSlot 15 (.getfield 16) 3 18 := ⟨by decide +kernel, rfl⟩
theorem o_clearSlot_18 : InsA md_clearSlot 18 (.iload_n 1) 1 19 := ⟨by decide +kernel, rfl⟩
theorem o_clearSlot_19 : InsA md_clearSlot 19 (.iconst 0) 1 20 := ⟨by decide +kernel, rfl⟩
theorem o_clearSlot_20 : InsA md_clearSlot 20 (.iastore) 1 21 := ⟨by decide +kernel, rfl⟩
theorem o_clearSlot_21 : InsA md_clearSlot 21 (.aload_n 0) 1 22 := ⟨by decide +kernel, rfl⟩
theorem o_clearSlot_22 : InsA md_clearSlot 22 (.getfield 19) 3 25 := ⟨by decide +kernel, rfl⟩
theorem o_clearSlot_25 : InsA md_clearSlot 25 (.iload_n 1) 1 26 := ⟨by decide +kernel, rfl⟩
theorem o_clearSlot_26 : InsA md_clearSlot 26 (.iconst 0) 1 27 := ⟨by decide +kernel, rfl⟩
theorem o_clearSlot_27 : InsA md_clearSlot 27 (.iastore) 1 28 := ⟨by decide +kernel, rfl⟩
theorem o_clearSlot_28 : InsA md_clearSlot 28 (.aload_n 0) 1 29 := ⟨by decide +kernel, rfl⟩
theorem o_clearSlot_29 : InsA md_clearSlot 29 (.getfield 22) 3 32 := ⟨by decide +kernel, rfl⟩
theorem o_clearSlot_32 : InsA md_clearSlot 32 (.iload_n 1) 1 33 := ⟨by decide +kernel, rfl⟩
theorem o_clearSlot_33 : InsA md_clearSlot 33 (.iconst 0) 1 34 := ⟨by decide +kernel, rfl⟩
theorem o_clearSlot_34 : InsA md_clearSlot 34 (.iastore) 1 35 := ⟨by decide +kernel, rfl⟩
theorem o_clearSlot_35 : InsA md_clearSlot 35 (.aload_n 0) 1 36 := ⟨by decide +kernel, rfl⟩
theorem o_clearSlot_36 : InsA md_clearSlot 36 (.getfield 25) 3 39 := ⟨by decide +kernel, rfl⟩
theorem o_clearSlot_39 : InsA md_clearSlot 39 (.iload_n 1) 1 40 := ⟨by decide +kernel, rfl⟩
theorem o_clearSlot_40 : InsA md_clearSlot 40 (.iconst 0) 1 41 := ⟨by decide +kernel, rfl⟩
theorem o_clearSlot_41 : InsA md_clearSlot 41 (.iastore) 1 42 := ⟨by decide +kernel, rfl⟩
theorem o_clearSlot_42 : InsA md_clearSlot 42 (.aload_n 0) 1 43 := ⟨by decide +kernel, rfl⟩
theorem o_clearSlot_43 : InsA md_clearSlot 43 (.getfield 28) 3 46 := ⟨by decide +kernel, rfl⟩
theorem o_clearSlot_46 : InsA md_clearSlot 46 (.iload_n 1) 1 47 := ⟨by decide +kernel, rfl⟩
theorem o_clearSlot_47 : InsA md_clearSlot 47 (.iconst 0) 1 48 := ⟨by decide +kernel, rfl⟩
theorem o_clearSlot_48 : InsA md_clearSlot 48 (.iastore) 1 49 := ⟨by decide +kernel, rfl⟩
theorem o_clearSlot_49 : InsA md_clearSlot 49 (.return_) 1 50 := ⟨by decide +kernel, rfl⟩
abbrev md_getReference : MD := (⟨"AuctionCross", "getReference", "()I"⟩, prog_1_method_6_code, 1, some .int, { frames := 0, cells := 0, slots := 0, locals := 0 }, 0)
theorem cv_getReference {Z : State} {a0 : Array Value} (H : OK Z a0) : CalV Z a0 md_getReference 0 := ⟨pn_AuctionCross, by decide, pd___I, H.w 186 rfl, H.w 188 rfl, H.w 2 rfl, Or.inl ⟨H.w 185 rfl, H.w 187 rfl⟩⟩
theorem o_getReference_0 : InsA md_getReference 0 (.aload_n 0) 1 1 := ⟨by decide +kernel, rfl⟩
theorem o_getReference_1 : InsA md_getReference 1 (.getfield 54) 3 4 := ⟨by decide +kernel, rfl⟩
theorem o_getReference_4 : InsA md_getReference 4 (.ireturn) 1 5 := ⟨by decide +kernel, rfl⟩
abbrev md_nearestToRef : MD := (⟨"AuctionCross", "nearestToRef", "(II)I"⟩, prog_1_method_35_code, 7, some .int, { frames := 3, cells := 0, slots := 0, locals := 42 }, 0)
theorem cv_nearestToRef {Z : State} {a0 : Array Value} (H : OK Z a0) : CalV Z a0 md_nearestToRef 2 := ⟨pn_AuctionCross, by decide, pd__II_I, H.w 190 rfl, H.w 192 rfl, H.w 2 rfl, Or.inr ⟨H.w 191 rfl, 18, H.w 1 rfl⟩⟩
theorem o_nearestToRef_0 : InsA md_nearestToRef 0 (.iconst 0) 1 1 := ⟨by decide +kernel, rfl⟩
theorem o_nearestToRef_1 : InsA md_nearestToRef 1 (.istore_n 3) 1 2 := ⟨by decide +kernel, rfl⟩
theorem o_nearestToRef_2 : InsA md_nearestToRef 2 (.iconst (-1)) 1 3 := ⟨by decide +kernel, rfl⟩
theorem o_nearestToRef_3 : InsA md_nearestToRef 3 (.istore 4) 2 5 := ⟨by decide +kernel, rfl⟩
theorem o_nearestToRef_5 : InsA md_nearestToRef 5 (.iconst 1) 1 6 := ⟨by decide +kernel, rfl⟩
theorem o_nearestToRef_6 : InsA md_nearestToRef 6 (.istore 5) 2 8 := ⟨by decide +kernel, rfl⟩
theorem o_nearestToRef_8 : InsA md_nearestToRef 8 (.iload 5) 2 10 := ⟨by decide +kernel, rfl⟩
theorem o_nearestToRef_10 : InsA md_nearestToRef 10 (.sipush 255) 3 13 := ⟨by decide +kernel, rfl⟩
theorem o_nearestToRef_13 : InsB md_nearestToRef 13 (.if_icmp .gt 55) 3 16 (55) 68 := ⟨by decide +kernel, rfl, by decide, by decide⟩
theorem o_nearestToRef_16 : InsA md_nearestToRef 16 (.aload_n 0) 1 17 := ⟨by decide +kernel, rfl⟩
theorem o_nearestToRef_17 : InsA md_nearestToRef 17 (.iload 5) 2 19 := ⟨by decide +kernel, rfl⟩
theorem o_nearestToRef_19 : InsA md_nearestToRef 19 (.iload_n 1) 1 20 := ⟨by decide +kernel, rfl⟩
theorem o_nearestToRef_20 : InsA md_nearestToRef 20 (.iload_n 2) 1 21 := ⟨by decide +kernel, rfl⟩
theorem o_nearestToRef_21 : InsA md_nearestToRef 21 (.invokevirtual 123) 3 24 := ⟨by decide +kernel, rfl⟩
theorem o_nearestToRef_24 : InsB md_nearestToRef 24 (.ifCond .ne 6) 3 27 (6) 30 := ⟨by decide +kernel, rfl, by decide, by decide⟩
theorem o_nearestToRef_27 : InsB md_nearestToRef 27 (.goto 35) 3 30 (35) 62 := ⟨by decide +kernel, rfl, by decide, by decide⟩
theorem o_nearestToRef_30 : InsA md_nearestToRef 30 (.aload_n 0) 1 31 := ⟨by decide +kernel, rfl⟩
theorem o_nearestToRef_31 : InsA md_nearestToRef 31 (.iload 5) 2 33 := ⟨by decide +kernel, rfl⟩
theorem o_nearestToRef_33 : InsA md_nearestToRef 33 (.aload_n 0) 1 34 := ⟨by decide +kernel, rfl⟩
theorem o_nearestToRef_34 : InsA md_nearestToRef 34 (.getfield 54) 3 37 := ⟨by decide +kernel, rfl⟩
theorem o_nearestToRef_37 : InsA md_nearestToRef 37 (.isub) 1 38 := ⟨by decide +kernel, rfl⟩
theorem o_nearestToRef_38 : InsA md_nearestToRef 38 (.invokevirtual 117) 3 41 := ⟨by decide +kernel, rfl⟩
theorem o_nearestToRef_41 : InsA md_nearestToRef 41 (.istore 6) 2 43 := ⟨by decide +kernel, rfl⟩
theorem o_nearestToRef_43 : InsA md_nearestToRef 43 (.iload 4) 2 45 := ⟨by decide +kernel, rfl⟩
theorem o_nearestToRef_45 : InsB md_nearestToRef 45 (.ifCond .lt 10) 3 48 (10) 55 := ⟨by decide +kernel, rfl, by decide, by decide⟩
theorem o_nearestToRef_48 : InsA md_nearestToRef 48 (.iload 6) 2 50 := ⟨by decide +kernel, rfl⟩
theorem o_nearestToRef_50 : InsA md_nearestToRef 50 (.iload 4) 2 52 := ⟨by decide +kernel, rfl⟩
theorem o_nearestToRef_52 : InsB md_nearestToRef 52 (.if_icmp .ge 10) 3 55 (10) 62 := ⟨by decide +kernel, rfl, by decide, by decide⟩
theorem o_nearestToRef_55 : InsA md_nearestToRef 55 (.iload 6) 2 57 := ⟨by decide +kernel, rfl⟩
theorem o_nearestToRef_57 : InsA md_nearestToRef 57 (.istore 4) 2 59 := ⟨by decide +kernel, rfl⟩
theorem o_nearestToRef_59 : InsA md_nearestToRef 59 (.iload 5) 2 61 := ⟨by decide +kernel, rfl⟩
theorem o_nearestToRef_61 : InsA md_nearestToRef 61 (.istore_n 3) 1 62 := ⟨by decide +kernel, rfl⟩
theorem o_nearestToRef_62 : InsA md_nearestToRef 62 (.iinc 5 1) 3 65 := ⟨by decide +kernel, rfl⟩
theorem o_nearestToRef_65 : InsB md_nearestToRef 65 (.goto (-57)) 3 68 (-57) 8 := ⟨by decide +kernel, rfl, by decide, by decide⟩
theorem o_nearestToRef_68 : InsA md_nearestToRef 68 (.iload_n 3) 1 69 := ⟨by decide +kernel, rfl⟩
theorem o_nearestToRef_69 : InsA md_nearestToRef 69 (.ireturn) 1 70 := ⟨by decide +kernel, rfl⟩
abbrev md_L_law : MD := (x, code, maxLocals, ret, room_1, 12)
theorem o_L_law_0 : InsA md_L_law 0 (.new 7) 3 3 := ⟨at_0, rfl⟩
theorem o_L_law_3 : InsA md_L_law 3 (.dup) 1 4 := ⟨at_3, rfl⟩
theorem o_L_law_4 : InsA md_L_law 4 (.bipush 8) 2 6 := ⟨at_4, rfl⟩
theorem o_L_law_6 : InsA md_L_law 6 (.iconst 2) 1 7 := ⟨at_6, rfl⟩
theorem o_L_law_7 : InsA md_L_law 7 (.iload 4) 2 9 := ⟨at_7, rfl⟩
theorem o_L_law_9 : InsA md_L_law 9 (.invokespecial 9) 3 12 := ⟨at_9, rfl⟩
theorem o_L_law_12 : InsA md_L_law 12 (.astore 5) 2 14 := ⟨at_12, rfl⟩
theorem o_L_law_14 : InsA md_L_law 14 (.iload 4) 2 16 := ⟨at_14, rfl⟩
theorem o_L_law_16 : InsA md_L_law 16 (.iconst 1) 1 17 := ⟨at_16, rfl⟩
theorem o_L_law_17 : InsB md_L_law 17 (.if_icmp .ge 7) 3 20 (7) 24 := ⟨at_17, rfl, by decide, by decide⟩
theorem o_L_law_20 : InsA md_L_law 20 (.iconst 1) 1 21 := ⟨at_20, rfl⟩
theorem o_L_law_21 : InsB md_L_law 21 (.goto 19) 3 24 (19) 40 := ⟨at_21, rfl, by decide, by decide⟩
theorem o_L_law_24 : InsA md_L_law 24 (.iload 4) 2 26 := ⟨at_24, rfl⟩
theorem o_L_law_26 : InsA md_L_law 26 (.sipush 255) 3 29 := ⟨at_26, rfl⟩
theorem o_L_law_29 : InsB md_L_law 29 (.if_icmp .le 9) 3 32 (9) 38 := ⟨at_29, rfl, by decide, by decide⟩
theorem o_L_law_32 : InsA md_L_law 32 (.sipush 255) 3 35 := ⟨at_32, rfl⟩
theorem o_L_law_35 : InsB md_L_law 35 (.goto 5) 3 38 (5) 40 := ⟨at_35, rfl, by decide, by decide⟩
theorem o_L_law_38 : InsA md_L_law 38 (.iload 4) 2 40 := ⟨at_38, rfl⟩
theorem o_L_law_40 : InsA md_L_law 40 (.istore 6) 2 42 := ⟨at_40, rfl⟩
theorem o_L_law_42 : InsA md_L_law 42 (.iload_n 0) 1 43 := ⟨at_42, rfl⟩
theorem o_L_law_43 : InsA md_L_law 43 (.iload_n 1) 1 44 := ⟨at_43, rfl⟩
theorem o_L_law_44 : InsA md_L_law 44 (.invokestatic 12) 3 47 := ⟨at_44, rfl⟩
theorem o_L_law_47 : InsA md_L_law 47 (.istore 7) 2 49 := ⟨at_47, rfl⟩
theorem o_L_law_49 : InsA md_L_law 49 (.iload_n 2) 1 50 := ⟨at_49, rfl⟩
theorem o_L_law_50 : InsA md_L_law 50 (.iload_n 3) 1 51 := ⟨at_50, rfl⟩
theorem o_L_law_51 : InsA md_L_law 51 (.invokestatic 12) 3 54 := ⟨at_51, rfl⟩
theorem o_L_law_54 : InsA md_L_law 54 (.istore 8) 2 56 := ⟨at_54, rfl⟩
theorem o_L_law_56 : InsA md_L_law 56 (.iload 7) 2 58 := ⟨at_56, rfl⟩
theorem o_L_law_58 : InsB md_L_law 58 (.ifCond .ne 7) 3 61 (7) 65 := ⟨at_58, rfl, by decide, by decide⟩
theorem o_L_law_61 : InsA md_L_law 61 (.iconst 1) 1 62 := ⟨at_61, rfl⟩
theorem o_L_law_62 : InsB md_L_law 62 (.goto 4) 3 65 (4) 66 := ⟨at_62, rfl, by decide, by decide⟩
theorem o_L_law_65 : InsA md_L_law 65 (.iconst 0) 1 66 := ⟨at_65, rfl⟩
theorem o_L_law_66 : InsA md_L_law 66 (.istore 9) 2 68 := ⟨at_66, rfl⟩
theorem o_L_law_68 : InsA md_L_law 68 (.iload 8) 2 70 := ⟨at_68, rfl⟩
theorem o_L_law_70 : InsB md_L_law 70 (.ifCond .ne 7) 3 73 (7) 77 := ⟨at_70, rfl, by decide, by decide⟩
theorem o_L_law_73 : InsA md_L_law 73 (.iconst 1) 1 74 := ⟨at_73, rfl⟩
theorem o_L_law_74 : InsB md_L_law 74 (.goto 4) 3 77 (4) 78 := ⟨at_74, rfl, by decide, by decide⟩
theorem o_L_law_77 : InsA md_L_law 77 (.iconst 0) 1 78 := ⟨at_77, rfl⟩
theorem o_L_law_78 : InsA md_L_law 78 (.istore 10) 2 80 := ⟨at_78, rfl⟩
theorem o_L_law_80 : InsA md_L_law 80 (.aload 5) 2 82 := ⟨at_80, rfl⟩
theorem o_L_law_82 : InsA md_L_law 82 (.iconst 0) 1 83 := ⟨at_82, rfl⟩
theorem o_L_law_83 : InsA md_L_law 83 (.iconst 0) 1 84 := ⟨at_83, rfl⟩
theorem o_L_law_84 : InsA md_L_law 84 (.iload_n 0) 1 85 := ⟨at_84, rfl⟩
theorem o_L_law_85 : InsA md_L_law 85 (.iload_n 1) 1 86 := ⟨at_85, rfl⟩
theorem o_L_law_86 : InsA md_L_law 86 (.invokevirtual 18) 3 89 := ⟨at_86, rfl⟩
theorem o_L_law_89 : InsA md_L_law 89 (.istore 11) 2 91 := ⟨at_89, rfl⟩
theorem o_L_law_91 : InsA md_L_law 91 (.aload 5) 2 93 := ⟨at_91, rfl⟩
theorem o_L_law_93 : InsA md_L_law 93 (.iconst 1) 1 94 := ⟨at_93, rfl⟩
theorem o_L_law_94 : InsA md_L_law 94 (.iconst 1) 1 95 := ⟨at_94, rfl⟩
theorem o_L_law_95 : InsA md_L_law 95 (.iload_n 2) 1 96 := ⟨at_95, rfl⟩
theorem o_L_law_96 : InsA md_L_law 96 (.iload_n 3) 1 97 := ⟨at_96, rfl⟩
theorem o_L_law_97 : InsA md_L_law 97 (.invokevirtual 18) 3 100 := ⟨at_97, rfl⟩
theorem o_L_law_100 : InsA md_L_law 100 (.istore 12) 2 102 := ⟨at_100, rfl⟩
theorem o_L_law_102 : InsA md_L_law 102 (.iload 11) 2 104 := ⟨at_102, rfl⟩
theorem o_L_law_104 : InsA md_L_law 104 (.iload 9) 2 106 := ⟨at_104, rfl⟩
theorem o_L_law_106 : InsB md_L_law 106 (.ifCond .eq 7) 3 109 (7) 113 := ⟨at_106, rfl, by decide, by decide⟩
theorem o_L_law_109 : InsA md_L_law 109 (.iconst 0) 1 110 := ⟨at_109, rfl⟩
theorem o_L_law_110 : InsB md_L_law 110 (.goto 5) 3 113 (5) 115 := ⟨at_110, rfl, by decide, by decide⟩
theorem o_L_law_113 : InsA md_L_law 113 (.iload 7) 2 115 := ⟨at_113, rfl⟩
theorem o_L_law_115 : InsB md_L_law 115 (.if_icmp .eq 5) 3 118 (5) 120 := ⟨at_115, rfl, by decide, by decide⟩
theorem o_L_law_118 : InsA md_L_law 118 (.iconst 0) 1 119 := ⟨at_118, rfl⟩
theorem o_L_law_119 : InsA md_L_law 119 (.ireturn) 1 120 := ⟨at_119, rfl⟩
theorem o_L_law_120 : InsA md_L_law 120 (.iload 9) 2 122 := ⟨at_120, rfl⟩
theorem o_L_law_122 : InsB md_L_law 122 (.ifCond .eq 7) 3 125 (7) 129 := ⟨at_122, rfl, by decide, by decide⟩
theorem o_L_law_125 : InsA md_L_law 125 (.iconst 1) 1 126 := ⟨at_125, rfl⟩
theorem o_L_law_126 : InsB md_L_law 126 (.goto 4) 3 129 (4) 130 := ⟨at_126, rfl, by decide, by decide⟩
theorem o_L_law_129 : InsA md_L_law 129 (.iconst 0) 1 130 := ⟨at_129, rfl⟩
theorem o_L_law_130 : InsA md_L_law 130 (.istore 13) 2 132 := ⟨at_130, rfl⟩
theorem o_L_law_132 : InsA md_L_law 132 (.iload 12) 2 134 := ⟨at_132, rfl⟩
theorem o_L_law_134 : InsA md_L_law 134 (.iload 10) 2 136 := ⟨at_134, rfl⟩
theorem o_L_law_136 : InsB md_L_law 136 (.ifCond .eq 8) 3 139 (8) 144 := ⟨at_136, rfl, by decide, by decide⟩
theorem o_L_law_139 : InsA md_L_law 139 (.iload 13) 2 141 := ⟨at_139, rfl⟩
theorem o_L_law_141 : InsB md_L_law 141 (.goto 5) 3 144 (5) 146 := ⟨at_141, rfl, by decide, by decide⟩
theorem o_L_law_144 : InsA md_L_law 144 (.iload 8) 2 146 := ⟨at_144, rfl⟩
theorem o_L_law_146 : InsB md_L_law 146 (.if_icmp .eq 5) 3 149 (5) 151 := ⟨at_146, rfl, by decide, by decide⟩
theorem o_L_law_149 : InsA md_L_law 149 (.iconst 0) 1 150 := ⟨at_149, rfl⟩
theorem o_L_law_150 : InsA md_L_law 150 (.ireturn) 1 151 := ⟨at_150, rfl⟩
theorem o_L_law_151 : InsA md_L_law 151 (.iload_n 0) 1 152 := ⟨at_151, rfl⟩
theorem o_L_law_152 : InsB md_L_law 152 (.ifCond .ne 9) 3 155 (9) 161 := ⟨at_152, rfl, by decide, by decide⟩
theorem o_L_law_155 : InsA md_L_law 155 (.sipush 255) 3 158 := ⟨at_155, rfl⟩
theorem o_L_law_158 : InsB md_L_law 158 (.goto 4) 3 161 (4) 162 := ⟨at_158, rfl, by decide, by decide⟩
theorem o_L_law_161 : InsA md_L_law 161 (.iload_n 0) 1 162 := ⟨at_161, rfl⟩
theorem o_L_law_162 : InsA md_L_law 162 (.istore 14) 2 164 := ⟨at_162, rfl⟩
theorem o_L_law_164 : InsA md_L_law 164 (.iload_n 2) 1 165 := ⟨at_164, rfl⟩
theorem o_L_law_165 : InsB md_L_law 165 (.ifCond .ne 7) 3 168 (7) 172 := ⟨at_165, rfl, by decide, by decide⟩
theorem o_L_law_168 : InsA md_L_law 168 (.iconst 1) 1 169 := ⟨at_168, rfl⟩
theorem o_L_law_169 : InsB md_L_law 169 (.goto 4) 3 172 (4) 173 := ⟨at_169, rfl, by decide, by decide⟩
theorem o_L_law_172 : InsA md_L_law 172 (.iload_n 2) 1 173 := ⟨at_172, rfl⟩
theorem o_L_law_173 : InsA md_L_law 173 (.istore 15) 2 175 := ⟨at_173, rfl⟩
theorem o_L_law_175 : InsA md_L_law 175 (.iconst 0) 1 176 := ⟨at_175, rfl⟩
theorem o_L_law_176 : InsA md_L_law 176 (.istore 16) 2 178 := ⟨at_176, rfl⟩
theorem o_L_law_178 : InsA md_L_law 178 (.iconst 0) 1 179 := ⟨at_178, rfl⟩
theorem o_L_law_179 : InsA md_L_law 179 (.istore 17) 2 181 := ⟨at_179, rfl⟩
theorem o_L_law_181 : InsA md_L_law 181 (.iload 9) 2 183 := ⟨at_181, rfl⟩
theorem o_L_law_183 : InsB md_L_law 183 (.ifCond .eq 79) 3 186 (79) 262 := ⟨at_183, rfl, by decide, by decide⟩
theorem o_L_law_186 : InsA md_L_law 186 (.iload 10) 2 188 := ⟨at_186, rfl⟩
theorem o_L_law_188 : InsB md_L_law 188 (.ifCond .eq 74) 3 191 (74) 262 := ⟨at_188, rfl, by decide, by decide⟩
theorem o_L_law_191 : InsA md_L_law 191 (.iload 15) 2 193 := ⟨at_191, rfl⟩
theorem o_L_law_193 : InsA md_L_law 193 (.iload 14) 2 195 := ⟨at_193, rfl⟩
theorem o_L_law_195 : InsB md_L_law 195 (.if_icmp .gt 67) 3 198 (67) 262 := ⟨at_195, rfl, by decide, by decide⟩
theorem o_L_law_198 : InsA md_L_law 198 (.iload_n 1) 1 199 := ⟨at_198, rfl⟩
theorem o_L_law_199 : InsA md_L_law 199 (.iload_n 3) 1 200 := ⟨at_199, rfl⟩
theorem o_L_law_200 : InsB md_L_law 200 (.if_icmp .ge 7) 3 203 (7) 207 := ⟨at_200, rfl, by decide, by decide⟩
theorem o_L_law_203 : InsA md_L_law 203 (.iload_n 1) 1 204 := ⟨at_203, rfl⟩
theorem o_L_law_204 : InsB md_L_law 204 (.goto 4) 3 207 (4) 208 := ⟨at_204, rfl, by decide, by decide⟩
theorem o_L_law_207 : InsA md_L_law 207 (.iload_n 3) 1 208 := ⟨at_207, rfl⟩
theorem o_L_law_208 : InsA md_L_law 208 (.istore 16) 2 210 := ⟨at_208, rfl⟩
theorem o_L_law_210 : InsA md_L_law 210 (.iload_n 1) 1 211 := ⟨at_210, rfl⟩
theorem o_L_law_211 : InsA md_L_law 211 (.iload_n 3) 1 212 := ⟨at_211, rfl⟩
theorem o_L_law_212 : InsB md_L_law 212 (.if_icmp .le 10) 3 215 (10) 222 := ⟨at_212, rfl, by decide, by decide⟩
theorem o_L_law_215 : InsA md_L_law 215 (.iload 14) 2 217 := ⟨at_215, rfl⟩
theorem o_L_law_217 : InsA md_L_law 217 (.istore 17) 2 219 := ⟨at_217, rfl⟩
theorem o_L_law_219 : InsB md_L_law 219 (.goto 43) 3 222 (43) 262 := ⟨at_219, rfl, by decide, by decide⟩
theorem o_L_law_222 : InsA md_L_law 222 (.iload_n 1) 1 223 := ⟨at_222, rfl⟩
theorem o_L_law_223 : InsA md_L_law 223 (.iload_n 3) 1 224 := ⟨at_223, rfl⟩
theorem o_L_law_224 : InsB md_L_law 224 (.if_icmp .ge 10) 3 227 (10) 234 := ⟨at_224, rfl, by decide, by decide⟩
theorem o_L_law_227 : InsA md_L_law 227 (.iload 15) 2 229 := ⟨at_227, rfl⟩
theorem o_L_law_229 : InsA md_L_law 229 (.istore 17) 2 231 := ⟨at_229, rfl⟩
theorem o_L_law_231 : InsB md_L_law 231 (.goto 31) 3 234 (31) 262 := ⟨at_231, rfl, by decide, by decide⟩
theorem o_L_law_234 : InsA md_L_law 234 (.iload 6) 2 236 := ⟨at_234, rfl⟩
theorem o_L_law_236 : InsA md_L_law 236 (.iload 15) 2 238 := ⟨at_236, rfl⟩
theorem o_L_law_238 : InsB md_L_law 238 (.if_icmp .ge 8) 3 241 (8) 246 := ⟨at_238, rfl, by decide, by decide⟩
theorem o_L_law_241 : InsA md_L_law 241 (.iload 15) 2 243 := ⟨at_241, rfl⟩
theorem o_L_law_243 : InsB md_L_law 243 (.goto 17) 3 246 (17) 260 := ⟨at_243, rfl, by decide, by decide⟩
theorem o_L_law_246 : InsA md_L_law 246 (.iload 6) 2 248 := ⟨at_246, rfl⟩
theorem o_L_law_248 : InsA md_L_law 248 (.iload 14) 2 250 := ⟨at_248, rfl⟩
theorem o_L_law_250 : InsB md_L_law 250 (.if_icmp .le 8) 3 253 (8) 258 := ⟨at_250, rfl, by decide, by decide⟩
theorem o_L_law_253 : InsA md_L_law 253 (.iload 14) 2 255 := ⟨at_253, rfl⟩
theorem o_L_law_255 : InsB md_L_law 255 (.goto 5) 3 258 (5) 260 := ⟨at_255, rfl, by decide, by decide⟩
theorem o_L_law_258 : InsA md_L_law 258 (.iload 6) 2 260 := ⟨at_258, rfl⟩
theorem o_L_law_260 : InsA md_L_law 260 (.istore 17) 2 262 := ⟨at_260, rfl⟩
theorem o_L_law_262 : InsA md_L_law 262 (.aload 5) 2 264 := ⟨at_262, rfl⟩
theorem o_L_law_264 : InsA md_L_law 264 (.invokevirtual 22) 3 267 := ⟨at_264, rfl⟩
theorem o_L_law_267 : InsA md_L_law 267 (.iload 16) 2 269 := ⟨at_267, rfl⟩
theorem o_L_law_269 : InsB md_L_law 269 (.if_icmp .eq 5) 3 272 (5) 274 := ⟨at_269, rfl, by decide, by decide⟩
theorem o_L_law_272 : InsA md_L_law 272 (.iconst 0) 1 273 := ⟨at_272, rfl⟩
theorem o_L_law_273 : InsA md_L_law 273 (.ireturn) 1 274 := ⟨at_273, rfl⟩
theorem o_L_law_274 : InsA md_L_law 274 (.aload 5) 2 276 := ⟨at_274, rfl⟩
theorem o_L_law_276 : InsA md_L_law 276 (.invokevirtual 26) 3 279 := ⟨at_276, rfl⟩
theorem o_L_law_279 : InsA md_L_law 279 (.iload 17) 2 281 := ⟨at_279, rfl⟩
theorem o_L_law_281 : InsB md_L_law 281 (.if_icmp .eq 5) 3 284 (5) 286 := ⟨at_281, rfl, by decide, by decide⟩
theorem o_L_law_284 : InsA md_L_law 284 (.iconst 0) 1 285 := ⟨at_284, rfl⟩
theorem o_L_law_285 : InsA md_L_law 285 (.ireturn) 1 286 := ⟨at_285, rfl⟩
theorem o_L_law_286 : InsA md_L_law 286 (.aload 5) 2 288 := ⟨at_286, rfl⟩
theorem o_L_law_288 : InsA md_L_law 288 (.invokevirtual 29) 3 291 := ⟨at_288, rfl⟩
theorem o_L_law_291 : InsA md_L_law 291 (.iload 16) 2 293 := ⟨at_291, rfl⟩
theorem o_L_law_293 : InsB md_L_law 293 (.if_icmp .eq 5) 3 296 (5) 298 := ⟨at_293, rfl, by decide, by decide⟩
theorem o_L_law_296 : InsA md_L_law 296 (.iconst 0) 1 297 := ⟨at_296, rfl⟩
theorem o_L_law_297 : InsA md_L_law 297 (.ireturn) 1 298 := ⟨at_297, rfl⟩
theorem o_L_law_298 : InsA md_L_law 298 (.aload 5) 2 300 := ⟨at_298, rfl⟩
theorem o_L_law_300 : InsA md_L_law 300 (.invokevirtual 32) 3 303 := ⟨at_300, rfl⟩
theorem o_L_law_303 : InsA md_L_law 303 (.iload 17) 2 305 := ⟨at_303, rfl⟩
theorem o_L_law_305 : InsB md_L_law 305 (.if_icmp .ne 13) 3 308 (13) 318 := ⟨at_305, rfl, by decide, by decide⟩
theorem o_L_law_308 : InsA md_L_law 308 (.aload 5) 2 310 := ⟨at_308, rfl⟩
theorem o_L_law_310 : InsA md_L_law 310 (.invokevirtual 35) 3 313 := ⟨at_310, rfl⟩
theorem o_L_law_313 : InsA md_L_law 313 (.iload 16) 2 315 := ⟨at_313, rfl⟩
theorem o_L_law_315 : InsB md_L_law 315 (.if_icmp .eq 5) 3 318 (5) 320 := ⟨at_315, rfl, by decide, by decide⟩
theorem o_L_law_318 : InsA md_L_law 318 (.iconst 0) 1 319 := ⟨at_318, rfl⟩
theorem o_L_law_319 : InsA md_L_law 319 (.ireturn) 1 320 := ⟨at_319, rfl⟩
theorem o_L_law_320 : InsA md_L_law 320 (.aload 5) 2 322 := ⟨at_320, rfl⟩
theorem o_L_law_322 : InsA md_L_law 322 (.invokevirtual 38) 3 325 := ⟨at_322, rfl⟩
theorem o_L_law_325 : InsA md_L_law 325 (.iconst 1) 1 326 := ⟨at_325, rfl⟩
theorem o_L_law_326 : InsB md_L_law 326 (.if_icmp .eq 5) 3 329 (5) 331 := ⟨at_326, rfl, by decide, by decide⟩
theorem o_L_law_329 : InsA md_L_law 329 (.iconst 0) 1 330 := ⟨at_329, rfl⟩
theorem o_L_law_330 : InsA md_L_law 330 (.ireturn) 1 331 := ⟨at_330, rfl⟩
theorem o_L_law_331 : InsA md_L_law 331 (.aload 5) 2 333 := ⟨at_331, rfl⟩
theorem o_L_law_333 : InsA md_L_law 333 (.iconst 0) 1 334 := ⟨at_333, rfl⟩
theorem o_L_law_334 : InsA md_L_law 334 (.invokevirtual 41) 3 337 := ⟨at_334, rfl⟩
theorem o_L_law_337 : InsA md_L_law 337 (.iload 16) 2 339 := ⟨at_337, rfl⟩
theorem o_L_law_339 : InsB md_L_law 339 (.if_icmp .ne 14) 3 342 (14) 353 := ⟨at_339, rfl, by decide, by decide⟩
theorem o_L_law_342 : InsA md_L_law 342 (.aload 5) 2 344 := ⟨at_342, rfl⟩
theorem o_L_law_344 : InsA md_L_law 344 (.iconst 1) 1 345 := ⟨at_344, rfl⟩
theorem o_L_law_345 : InsA md_L_law 345 (.invokevirtual 45) 3 348 := ⟨at_345, rfl⟩
theorem o_L_law_348 : InsA md_L_law 348 (.iload 16) 2 350 := ⟨at_348, rfl⟩
theorem o_L_law_350 : InsB md_L_law 350 (.if_icmp .eq 5) 3 353 (5) 355 := ⟨at_350, rfl, by decide, by decide⟩
theorem o_L_law_353 : InsA md_L_law 353 (.iconst 0) 1 354 := ⟨at_353, rfl⟩
theorem o_L_law_354 : InsA md_L_law 354 (.ireturn) 1 355 := ⟨at_354, rfl⟩
theorem o_L_law_355 : InsA md_L_law 355 (.iload 9) 2 357 := ⟨at_355, rfl⟩
theorem o_L_law_357 : InsB md_L_law 357 (.ifCond .eq 20) 3 360 (20) 377 := ⟨at_357, rfl, by decide, by decide⟩
theorem o_L_law_360 : InsA md_L_law 360 (.aload 5) 2 362 := ⟨at_360, rfl⟩
theorem o_L_law_362 : InsA md_L_law 362 (.iconst 0) 1 363 := ⟨at_362, rfl⟩
theorem o_L_law_363 : InsA md_L_law 363 (.iload_n 1) 1 364 := ⟨at_363, rfl⟩
theorem o_L_law_364 : InsA md_L_law 364 (.iload 16) 2 366 := ⟨at_364, rfl⟩
theorem o_L_law_366 : InsA md_L_law 366 (.isub) 1 367 := ⟨at_366, rfl⟩
theorem o_L_law_367 : InsA md_L_law 367 (.iload 16) 2 369 := ⟨at_367, rfl⟩
theorem o_L_law_369 : InsA md_L_law 369 (.invokestatic 48) 3 372 := ⟨at_369, rfl⟩
theorem o_L_law_372 : InsB md_L_law 372 (.ifCond .ne 5) 3 375 (5) 377 := ⟨at_372, rfl, by decide, by decide⟩
theorem o_L_law_375 : InsA md_L_law 375 (.iconst 0) 1 376 := ⟨at_375, rfl⟩
theorem o_L_law_376 : InsA md_L_law 376 (.ireturn) 1 377 := ⟨at_376, rfl⟩
theorem o_L_law_377 : InsA md_L_law 377 (.iload 10) 2 379 := ⟨at_377, rfl⟩
theorem o_L_law_379 : InsB md_L_law 379 (.ifCond .eq 21) 3 382 (21) 400 := ⟨at_379, rfl, by decide, by decide⟩
theorem o_L_law_382 : InsA md_L_law 382 (.aload 5) 2 384 := ⟨at_382, rfl⟩
theorem o_L_law_384 : InsA md_L_law 384 (.iload 13) 2 386 := ⟨at_384, rfl⟩
theorem o_L_law_386 : InsA md_L_law 386 (.iload_n 3) 1 387 := ⟨at_386, rfl⟩
theorem o_L_law_387 : InsA md_L_law 387 (.iload 16) 2 389 := ⟨at_387, rfl⟩
theorem o_L_law_389 : InsA md_L_law 389 (.isub) 1 390 := ⟨at_389, rfl⟩
theorem o_L_law_390 : InsA md_L_law 390 (.iload 16) 2 392 := ⟨at_390, rfl⟩
theorem o_L_law_392 : InsA md_L_law 392 (.invokestatic 48) 3 395 := ⟨at_392, rfl⟩
theorem o_L_law_395 : InsB md_L_law 395 (.ifCond .ne 5) 3 398 (5) 400 := ⟨at_395, rfl, by decide, by decide⟩
theorem o_L_law_398 : InsA md_L_law 398 (.iconst 0) 1 399 := ⟨at_398, rfl⟩
theorem o_L_law_399 : InsA md_L_law 399 (.ireturn) 1 400 := ⟨at_399, rfl⟩
theorem o_L_law_400 : InsA md_L_law 400 (.aload 5) 2 402 := ⟨at_400, rfl⟩
theorem o_L_law_402 : InsA md_L_law 402 (.invokevirtual 52) 3 405 := ⟨at_402, rfl⟩
theorem o_L_law_405 : InsB md_L_law 405 (.ifCond .eq 5) 3 408 (5) 410 := ⟨at_405, rfl, by decide, by decide⟩
theorem o_L_law_408 : InsA md_L_law 408 (.iconst 0) 1 409 := ⟨at_408, rfl⟩
theorem o_L_law_409 : InsA md_L_law 409 (.ireturn) 1 410 := ⟨at_409, rfl⟩
theorem o_L_law_410 : InsA md_L_law 410 (.aload 5) 2 412 := ⟨at_410, rfl⟩
theorem o_L_law_412 : InsA md_L_law 412 (.invokevirtual 55) 3 415 := ⟨at_412, rfl⟩
theorem o_L_law_415 : InsA md_L_law 415 (.iload 16) 2 417 := ⟨at_415, rfl⟩
theorem o_L_law_417 : InsB md_L_law 417 (.ifCond .le 8) 3 420 (8) 425 := ⟨at_417, rfl, by decide, by decide⟩
theorem o_L_law_420 : InsA md_L_law 420 (.iload 17) 2 422 := ⟨at_420, rfl⟩
theorem o_L_law_422 : InsB md_L_law 422 (.goto 5) 3 425 (5) 427 := ⟨at_422, rfl, by decide, by decide⟩
theorem o_L_law_425 : InsA md_L_law 425 (.iload 6) 2 427 := ⟨at_425, rfl⟩
theorem o_L_law_427 : InsB md_L_law 427 (.if_icmp .eq 5) 3 430 (5) 432 := ⟨at_427, rfl, by decide, by decide⟩
theorem o_L_law_430 : InsA md_L_law 430 (.iconst 0) 1 431 := ⟨at_430, rfl⟩
theorem o_L_law_431 : InsA md_L_law 431 (.ireturn) 1 432 := ⟨at_431, rfl⟩
theorem o_L_law_432 : InsA md_L_law 432 (.aload 5) 2 434 := ⟨at_432, rfl⟩
theorem o_L_law_434 : InsA md_L_law 434 (.iconst 0) 1 435 := ⟨at_434, rfl⟩
theorem o_L_law_435 : InsA md_L_law 435 (.invokevirtual 41) 3 438 := ⟨at_435, rfl⟩
theorem o_L_law_438 : InsB md_L_law 438 (.ifCond .ne 15) 3 441 (15) 453 := ⟨at_438, rfl, by decide, by decide⟩
theorem o_L_law_441 : InsA md_L_law 441 (.aload 5) 2 443 := ⟨at_441, rfl⟩
theorem o_L_law_443 : InsA md_L_law 443 (.invokevirtual 35) 3 446 := ⟨at_443, rfl⟩
theorem o_L_law_446 : InsB md_L_law 446 (.ifCond .ne 7) 3 449 (7) 453 := ⟨at_446, rfl, by decide, by decide⟩
theorem o_L_law_449 : InsA md_L_law 449 (.iconst 1) 1 450 := ⟨at_449, rfl⟩
theorem o_L_law_450 : InsB md_L_law 450 (.goto 4) 3 453 (4) 454 := ⟨at_450, rfl, by decide, by decide⟩
theorem o_L_law_453 : InsA md_L_law 453 (.iconst 0) 1 454 := ⟨at_453, rfl⟩
theorem o_L_law_454 : InsA md_L_law 454 (.ireturn) 1 455 := ⟨at_454, rfl⟩
theorem gd {c : Prop} [Decidable c] {α : Type} {x : Option α} {r : α} (h : (if c then x else none) = some r) : c ∧ x = some r := by
  by_cases q : c
  · rw [if_pos q] at h; exact ⟨q, h⟩
  · rw [if_neg q] at h; cases h
theorem ifp {c : Prop} [Decidable c] {α : Type} {x y z : α} (q : c) (h : (if c then x else y) = z) : x = z := by rw [if_pos q] at h; exact h
theorem ifn {c : Prop} [Decidable c] {α : Type} {x y z : α} (q : ¬ c) (h : (if c then x else y) = z) : y = z := by rw [if_neg q] at h; exact h
theorem getD_some {α : Type} {o : Option α} {d r : α} (h : o = some r) : o.getD d = r := by rw [h]; rfl
set_option maxRecDepth 65536 in
set_option maxHeartbeats 4000000 in
theorem wp_clamp {l : Launch} {Z : State} {a0 : Array Value} (H : OK Z a0) (F : Nat → Int32) (G : Nat → Int64) (A : Nat → Int32 → Int32) (B : Nat → Int32 → Int64) (p1 : Int32) (p2 : Int32) (p3 : Int32) {Q : Option Value → WO → Prop} (h3 : ¬ p1 < p2 → ¬ p3 < p1 → Q (some (.int p1)) (11, F, G, A, B)) (h4 : ¬ p1 < p2 → p3 < p1 → Q (some (.int p3)) (11, F, G, A, B)) (h5 : p1 < p2 → Q (some (.int p2)) (11, F, G, A, B)) :
    Wk l Z (MoC Z cdC) md_clamp 0 [.val (.ref 0), .val (.int p1), .val (.int p2), .val (.int p3)] [] (11, F, G, A, B) 0 0 Q := by
  refine Wk.iloadN o_clamp_0 rfl ?_
  refine Wk.iloadN o_clamp_1 rfl ?_
  refine Wk.icmp_ge o_clamp_2 (fun q1 => ?_) (fun q1 => ?_)
  · refine Wk.iloadN o_clamp_7 rfl ?_
    refine Wk.iloadN o_clamp_8 rfl ?_
    refine Wk.icmp_le o_clamp_9 (fun q2 => ?_) (fun q2 => ?_)
    · refine Wk.iloadN o_clamp_14 rfl ?_
      exact Wk.ireturn mrC rfl o_clamp_15 rfl (by decide) (by decide) (h3 q1 q2)
    · refine Wk.iloadN o_clamp_12 rfl ?_
      exact Wk.ireturn mrC rfl o_clamp_13 rfl (by decide) (by decide) (h4 q1 q2)
  · refine Wk.iloadN o_clamp_5 rfl ?_
    exact Wk.ireturn mrC rfl o_clamp_6 rfl (by decide) (by decide) (h5 q1)

def f_clamp (p1 : Int32) (p2 : Int32) (p3 : Int32) : Int32 := (if p1 < p2 then p2 else (if p3 < p1 then p3 else p1))
theorem e_clamp (p1 : Int32) (p2 : Int32) (p3 : Int32) : f_clamp p1 p2 p3 = (if p1 < p2 then p2 else (if p3 < p1 then p3 else p1)) := Eq.trans rfl rfl
theorem run_clamp {l : Launch} {Z : State} {a0 : Array Value} (H : OK Z a0) (F : Nat → Int32) (G : Nat → Int64) (A : Nat → Int32 → Int32) (B : Nat → Int32 → Int64) (p1 : Int32) (p2 : Int32) (p3 : Int32) :
    Wk l Z (MoC Z cdC) md_clamp 0 [.val (.ref 0), .val (.int p1), .val (.int p2), .val (.int p3)] [] (11, F, G, A, B) 0 0 (fun v w' => v = some (.int (f_clamp p1 p2 p3)) ∧ w' = (11, F, G, A, B)) :=
  wp_clamp H F G A B p1 p2 p3 (fun q1 q2 => ⟨by simp only [e_clamp, if_neg q1, if_neg q2], rfl⟩) (fun q1 q2 => ⟨by simp only [e_clamp, if_neg q1, if_pos q2], rfl⟩) (fun q1 => ⟨by simp only [e_clamp, if_pos q1], rfl⟩)
set_option maxRecDepth 65536 in
set_option maxHeartbeats 4000000 in
theorem wp_init {l : Launch} {Z : State} {a0 : Array Value} (H : OK Z a0) (p1 : Int32) (p2 : Int32) (p3 : Int32) {Q : Option Value → WO → Prop} (h1 : Q none (11, (ups (ups (ups (ups (ups (ups (ups (fun _ => 0) 0 (f_clamp p1 (8 : Int32) (64 : Int32))) 1 (f_clamp p2 (1 : Int32) (16 : Int32))) 2 (f_clamp p3 (1 : Int32) (255 : Int32))) 3 (0 : Int32)) 4 (1 : Int32)) 5 (0 : Int32)) 6 (0 : Int32)), (fun _ => 0), (fun _ _ => 0), (fun _ _ => 0))) :
    Wk l Z (MoC Z cdC) md_init 0 [.val (.ref 0), .val (.int p1), .val (.int p2), .val (.int p3)] [] (0, (fun _ => 0), (fun _ => 0), (fun _ _ => 0), (fun _ _ => 0)) 0 0 Q := by
  refine Wk.aloadN o_init_0 rfl ?_
  refine Wk.initO (H.w 6 rfl) (H.w 7 rfl) (H.w 8 rfl) o_init_1 rfl (by decide) (by decide) ?_
  refine Wk.aloadN o_init_4 rfl ?_
  refine Wk.bipush o_init_5 (z := (64 : Int32)) (by decide) ?_
  refine Wk.newA (coC H) (aty := .int) rfl (wa_int H) (mA_st) (wf_st H) (Or.inl (wy_st H)) o_init_7 o_init_9 rfl rfl (k' := 1) rfl (cu' := 1) rfl (su' := 64) rfl (by decide) (by decide) (by decide) ?_
  refine Wk.aloadN o_init_12 rfl ?_
  refine Wk.bipush o_init_13 (z := (64 : Int32)) (by decide) ?_
  refine Wk.newA (coC H) (aty := .int) rfl (wa_int H) (mA_acct) (wf_acct H) (Or.inl (wy_acct H)) o_init_15 o_init_17 rfl rfl (k' := 2) rfl (cu' := 2) rfl (su' := 128) rfl (by decide) (by decide) (by decide) ?_
  refine Wk.aloadN o_init_20 rfl ?_
  refine Wk.bipush o_init_21 (z := (64 : Int32)) (by decide) ?_
  refine Wk.newA (coC H) (aty := .int) rfl (wa_int H) (mA_sd) (wf_sd H) (Or.inl (wy_sd H)) o_init_23 o_init_25 rfl rfl (k' := 3) rfl (cu' := 3) rfl (su' := 192) rfl (by decide) (by decide) (by decide) ?_
  refine Wk.aloadN o_init_28 rfl ?_
  refine Wk.bipush o_init_29 (z := (64 : Int32)) (by decide) ?_
  refine Wk.newA (coC H) (aty := .int) rfl (wa_int H) (mA_pr) (wf_pr H) (Or.inl (wy_pr H)) o_init_31 o_init_33 rfl rfl (k' := 4) rfl (cu' := 4) rfl (su' := 256) rfl (by decide) (by decide) (by decide) ?_
  refine Wk.aloadN o_init_36 rfl ?_
  refine Wk.bipush o_init_37 (z := (64 : Int32)) (by decide) ?_
  refine Wk.newA (coC H) (aty := .int) rfl (wa_int H) (mA_rem) (wf_rem H) (Or.inl (wy_rem H)) o_init_39 o_init_41 rfl rfl (k' := 5) rfl (cu' := 5) rfl (su' := 320) rfl (by decide) (by decide) (by decide) ?_
  refine Wk.aloadN o_init_44 rfl ?_
  refine Wk.bipush o_init_45 (z := (64 : Int32)) (by decide) ?_
  refine Wk.newA (coC H) (aty := .int) rfl (wa_int H) (mA_fil) (wf_fil H) (Or.inl (wy_fil H)) o_init_47 o_init_49 rfl rfl (k' := 6) rfl (cu' := 6) rfl (su' := 384) rfl (by decide) (by decide) (by decide) ?_
  refine Wk.aloadN o_init_52 rfl ?_
  refine Wk.bipush o_init_53 (z := (64 : Int32)) (by decide) ?_
  refine Wk.newA (coC H) (aty := .int) rfl (wa_int H) (mA_sq) (wf_sq H) (Or.inl (wy_sq H)) o_init_55 o_init_57 rfl rfl (k' := 7) rfl (cu' := 7) rfl (su' := 448) rfl (by decide) (by decide) (by decide) ?_
  refine Wk.aloadN o_init_60 rfl ?_
  refine Wk.bipush o_init_61 (z := (16 : Int32)) (by decide) ?_
  refine Wk.newA (coC H) (aty := .int) rfl (wa_int H) (mA_bought) (wf_bought H) (Or.inl (wy_bought H)) o_init_63 o_init_65 rfl rfl (k' := 8) rfl (cu' := 8) rfl (su' := 464) rfl (by decide) (by decide) (by decide) ?_
  refine Wk.aloadN o_init_68 rfl ?_
  refine Wk.bipush o_init_69 (z := (16 : Int32)) (by decide) ?_
  refine Wk.newA (coC H) (aty := .int) rfl (wa_int H) (mA_sold) (wf_sold H) (Or.inl (wy_sold H)) o_init_71 o_init_73 rfl rfl (k' := 9) rfl (cu' := 9) rfl (su' := 480) rfl (by decide) (by decide) (by decide) ?_
  refine Wk.aloadN o_init_76 rfl ?_
  refine Wk.sipush o_init_77 (z := (257 : Int32)) (by decide) ?_
  refine Wk.newA (coC H) (aty := .int) rfl (wa_int H) (mA_curD) (wf_curD H) (Or.inl (wy_curD H)) o_init_80 o_init_82 rfl rfl (k' := 10) rfl (cu' := 10) rfl (su' := 737) rfl (by decide) (by decide) (by decide) ?_
  refine Wk.aloadN o_init_85 rfl ?_
  refine Wk.sipush o_init_86 (z := (257 : Int32)) (by decide) ?_
  refine Wk.newA (coC H) (aty := .int) rfl (wa_int H) (mA_curS) (wf_curS H) (Or.inl (wy_curS H)) o_init_89 o_init_91 rfl rfl (k' := 11) rfl (cu' := 11) rfl (su' := 994) rfl (by decide) (by decide) (by decide) ?_
  refine Wk.aloadN o_init_94 rfl ?_
  refine Wk.aloadN o_init_95 rfl ?_
  refine Wk.iloadN o_init_96 rfl ?_
  refine Wk.bipush o_init_97 (z := (8 : Int32)) (by decide) ?_
  refine Wk.bipush o_init_99 (z := (64 : Int32)) (by decide) ?_
  refine Wk.callF [.int p1, .int (8 : Int32), .int (64 : Int32)] [.ref 0] (H.w 32 rfl) (cv_clamp H) o_init_101 (run_clamp H (fun _ => 0) (fun _ => 0) (fun _ _ => 0) (fun _ _ => 0) p1 (8 : Int32) (64 : Int32)) (wt := 1) (cu' := 11) (su' := 994) (by decide) rfl rfl rfl rfl rfl rfl rfl ?_
  refine Wk.putI (coC H) (mI_cap) (wf_cap H) (Or.inl (wy_cap H)) o_init_104 ?_
  refine Wk.aloadN o_init_107 rfl ?_
  refine Wk.aloadN o_init_108 rfl ?_
  refine Wk.iloadN o_init_109 rfl ?_
  refine Wk.iconst o_init_110 (z := (1 : Int32)) (by decide) ?_
  refine Wk.bipush o_init_111 (z := (16 : Int32)) (by decide) ?_
  refine Wk.callF [.int p2, .int (1 : Int32), .int (16 : Int32)] [.ref 0] (H.w 32 rfl) (cv_clamp H) o_init_113 (run_clamp H (ups (fun _ => 0) 0 (f_clamp p1 (8 : Int32) (64 : Int32))) (fun _ => 0) (fun _ _ => 0) (fun _ _ => 0) p2 (1 : Int32) (16 : Int32)) (wt := 1) (cu' := 11) (su' := 994) (by decide) rfl rfl rfl rfl rfl rfl rfl ?_
  refine Wk.putI (coC H) (mI_nAcc) (wf_nAcc H) (Or.inl (wy_nAcc H)) o_init_116 ?_
  refine Wk.aloadN o_init_119 rfl ?_
  refine Wk.aloadN o_init_120 rfl ?_
  refine Wk.iloadN o_init_121 rfl ?_
  refine Wk.iconst o_init_122 (z := (1 : Int32)) (by decide) ?_
  refine Wk.sipush o_init_123 (z := (255 : Int32)) (by decide) ?_
  refine Wk.callF [.int p3, .int (1 : Int32), .int (255 : Int32)] [.ref 0] (H.w 32 rfl) (cv_clamp H) o_init_126 (run_clamp H (ups (ups (fun _ => 0) 0 (f_clamp p1 (8 : Int32) (64 : Int32))) 1 (f_clamp p2 (1 : Int32) (16 : Int32))) (fun _ => 0) (fun _ _ => 0) (fun _ _ => 0) p3 (1 : Int32) (255 : Int32)) (wt := 1) (cu' := 11) (su' := 994) (by decide) rfl rfl rfl rfl rfl rfl rfl ?_
  refine Wk.putI (coC H) (mI_ref) (wf_ref H) (Or.inl (wy_ref H)) o_init_129 ?_
  refine Wk.aloadN o_init_132 rfl ?_
  refine Wk.iconst o_init_133 (z := (0 : Int32)) (by decide) ?_
  refine Wk.putI (coC H) (mI_phase) (wf_phase H) (Or.inl (wy_phase H)) o_init_134 ?_
  refine Wk.aloadN o_init_137 rfl ?_
  refine Wk.iconst o_init_138 (z := (1 : Int32)) (by decide) ?_
  refine Wk.putI (coC H) (mI_seqCounter) (wf_seqCounter H) (Or.inl (wy_seqCounter H)) o_init_139 ?_
  refine Wk.aloadN o_init_142 rfl ?_
  refine Wk.iconst o_init_143 (z := (0 : Int32)) (by decide) ?_
  refine Wk.putI (coC H) (mI_lastPrice) (wf_lastPrice H) (Or.inl (wy_lastPrice H)) o_init_144 ?_
  refine Wk.aloadN o_init_147 rfl ?_
  refine Wk.iconst o_init_148 (z := (0 : Int32)) (by decide) ?_
  refine Wk.putI (coC H) (mI_lastVolume) (wf_lastVolume H) (Or.inl (wy_lastVolume H)) o_init_149 ?_
  exact Wk.ret mrC rfl o_init_152 rfl (by decide) (by decide) h1

def F_init (p1 : Int32) (p2 : Int32) (p3 : Int32) : Nat → Int32 := (ups (ups (ups (ups (ups (ups (ups (fun _ => 0) 0 (f_clamp p1 (8 : Int32) (64 : Int32))) 1 (f_clamp p2 (1 : Int32) (16 : Int32))) 2 (f_clamp p3 (1 : Int32) (255 : Int32))) 3 (0 : Int32)) 4 (1 : Int32)) 5 (0 : Int32)) 6 (0 : Int32))
theorem eF_init (p1 : Int32) (p2 : Int32) (p3 : Int32) : F_init p1 p2 p3 = (ups (ups (ups (ups (ups (ups (ups (fun _ => 0) 0 (f_clamp p1 (8 : Int32) (64 : Int32))) 1 (f_clamp p2 (1 : Int32) (16 : Int32))) 2 (f_clamp p3 (1 : Int32) (255 : Int32))) 3 (0 : Int32)) 4 (1 : Int32)) 5 (0 : Int32)) 6 (0 : Int32)) := Eq.trans rfl rfl
theorem F_init_0 (p1 : Int32) (p2 : Int32) (p3 : Int32) : F_init p1 p2 p3 0 = (f_clamp p1 (8 : Int32) (64 : Int32)) := by
  exact Eq.trans rfl rfl
theorem F_init_1 (p1 : Int32) (p2 : Int32) (p3 : Int32) : F_init p1 p2 p3 1 = (f_clamp p2 (1 : Int32) (16 : Int32)) := by
  exact Eq.trans rfl rfl
theorem F_init_2 (p1 : Int32) (p2 : Int32) (p3 : Int32) : F_init p1 p2 p3 2 = (f_clamp p3 (1 : Int32) (255 : Int32)) := by
  exact Eq.trans rfl rfl
theorem F_init_3 (p1 : Int32) (p2 : Int32) (p3 : Int32) : F_init p1 p2 p3 3 = (0 : Int32) := by
  exact Eq.trans rfl rfl
theorem F_init_4 (p1 : Int32) (p2 : Int32) (p3 : Int32) : F_init p1 p2 p3 4 = (1 : Int32) := by
  exact Eq.trans rfl rfl
theorem F_init_5 (p1 : Int32) (p2 : Int32) (p3 : Int32) : F_init p1 p2 p3 5 = (0 : Int32) := by
  exact Eq.trans rfl rfl
theorem F_init_6 (p1 : Int32) (p2 : Int32) (p3 : Int32) : F_init p1 p2 p3 6 = (0 : Int32) := by
  exact Eq.trans rfl rfl
theorem run_init {l : Launch} {Z : State} {a0 : Array Value} (H : OK Z a0)  (p1 : Int32) (p2 : Int32) (p3 : Int32) :
    Wk l Z (MoC Z cdC) md_init 0 [.val (.ref 0), .val (.int p1), .val (.int p2), .val (.int p3)] [] (0, (fun _ => 0), (fun _ => 0), (fun _ _ => 0), (fun _ _ => 0)) 0 0 (fun v w' => v = none ∧ w' = (11, (F_init p1 p2 p3), (fun _ => 0), (fun _ _ => 0), (fun _ _ => 0))) :=
  wp_init H p1 p2 p3 ⟨rfl, rfl⟩
set_option maxRecDepth 65536 in
set_option maxHeartbeats 4000000 in
theorem wp_L_err {l : Launch} {Z : State} {a0 : Array Value} (H : OK Z a0) (sl : Int32) (sv : Int32 → Int32) (ws : List WO) (p1 : Int32) (p2 : Int32) {Q : Option Value → WL → Prop} (h2 : p1 < 0 → Q (some (.int (-4 : Int32))) (sl, sv, ws)) (h5 : ¬ p1 < 0 → ¬ (255 : Int32) < p1 → p2 < (1 : Int32) → Q (some (.int (-5 : Int32))) (sl, sv, ws)) (h7 : ¬ p1 < 0 → ¬ (255 : Int32) < p1 → ¬ p2 < (1 : Int32) → ¬ (1000 : Int32) < p2 → Q (some (.int (0 : Int32))) (sl, sv, ws)) (h8 : ¬ p1 < 0 → ¬ (255 : Int32) < p1 → ¬ p2 < (1 : Int32) → (1000 : Int32) < p2 → Q (some (.int (-5 : Int32))) (sl, sv, ws)) (h9 : ¬ p1 < 0 → (255 : Int32) < p1 → Q (some (.int (-4 : Int32))) (sl, sv, ws)) :
    Wk l Z (MoL Z cdC "AuctionCrossL3" false) md_L_err 0 [.val (.int p1), .val (.int p2)] [] (sl, sv, ws) 0 0 Q := by
  refine Wk.iloadN o_L_err_0 rfl ?_
  refine Wk.if_lt o_L_err_1 (fun q1 => ?_) (fun q1 => ?_)
  · refine Wk.bipush o_L_err_11 (z := (-4 : Int32)) (by decide) ?_
    exact Wk.ireturn mrL rfl o_L_err_13 rfl (by decide) (by decide) (h2 q1)
  · refine Wk.iloadN o_L_err_4 rfl ?_
    refine Wk.sipush o_L_err_5 (z := (255 : Int32)) (by decide) ?_
    refine Wk.icmp_le o_L_err_8 (fun q3 => ?_) (fun q3 => ?_)
    · refine Wk.iloadN o_L_err_14 rfl ?_
      refine Wk.iconst o_L_err_15 (z := (1 : Int32)) (by decide) ?_
      refine Wk.icmp_lt o_L_err_16 (fun q4 => ?_) (fun q4 => ?_)
      · refine Wk.bipush o_L_err_26 (z := (-5 : Int32)) (by decide) ?_
        exact Wk.ireturn mrL rfl o_L_err_28 rfl (by decide) (by decide) (h5 q1 q3 q4)
      · refine Wk.iloadN o_L_err_19 rfl ?_
        refine Wk.sipush o_L_err_20 (z := (1000 : Int32)) (by decide) ?_
        refine Wk.icmp_le o_L_err_23 (fun q6 => ?_) (fun q6 => ?_)
        · refine Wk.iconst o_L_err_29 (z := (0 : Int32)) (by decide) ?_
          exact Wk.ireturn mrL rfl o_L_err_30 rfl (by decide) (by decide) (h7 q1 q3 q4 q6)
        · refine Wk.bipush o_L_err_26 (z := (-5 : Int32)) (by decide) ?_
          exact Wk.ireturn mrL rfl o_L_err_28 rfl (by decide) (by decide) (h8 q1 q3 q4 q6)
    · refine Wk.bipush o_L_err_11 (z := (-4 : Int32)) (by decide) ?_
      exact Wk.ireturn mrL rfl o_L_err_13 rfl (by decide) (by decide) (h9 q1 q3)
def f_L_err (p1 : Int32) (p2 : Int32) : Int32 := (if p1 < 0 then (-4 : Int32) else (if (255 : Int32) < p1 then (-4 : Int32) else (if p2 < (1 : Int32) then (-5 : Int32) else (if (1000 : Int32) < p2 then (-5 : Int32) else (0 : Int32)))))
theorem e_L_err (p1 : Int32) (p2 : Int32) : f_L_err p1 p2 = (if p1 < 0 then (-4 : Int32) else (if (255 : Int32) < p1 then (-4 : Int32) else (if p2 < (1 : Int32) then (-5 : Int32) else (if (1000 : Int32) < p2 then (-5 : Int32) else (0 : Int32))))) := Eq.trans rfl rfl
theorem run_L_err {l : Launch} {Z : State} {a0 : Array Value} (H : OK Z a0) (sl : Int32) (sv : Int32 → Int32) (ws : List WO) (p1 : Int32) (p2 : Int32) :
    Wk l Z (MoL Z cdC "AuctionCrossL3" false) md_L_err 0 [.val (.int p1), .val (.int p2)] [] (sl, sv, ws) 0 0 (fun v w2 => v = some (.int (f_L_err p1 p2)) ∧ w2 = (sl, sv, ws)) :=
  wp_L_err H sl sv ws p1 p2 (fun q1 => ⟨by simp only [e_L_err, if_pos q1], rfl⟩) (fun q1 q3 q4 => ⟨by simp only [e_L_err, if_neg q1, if_neg q3, if_pos q4], rfl⟩) (fun q1 q3 q4 q6 => ⟨by simp only [e_L_err, if_neg q1, if_neg q3, if_neg q4, if_neg q6], rfl⟩) (fun q1 q3 q4 q6 => ⟨by simp only [e_L_err, if_neg q1, if_neg q3, if_neg q4, if_pos q6], rfl⟩) (fun q1 q3 => ⟨by simp only [e_L_err, if_neg q1, if_pos q3], rfl⟩)
set_option maxRecDepth 65536 in
set_option maxHeartbeats 4000000 in
theorem wp_findFree {l : Launch} {Z : State} {a0 : Array Value} (H : OK Z a0) (F : Nat → Int32) (G : Nat → Int64) (A : Nat → Int32 → Int32) (B : Nat → Int32 → Int64) {Q : Option Value → WO → Prop} (h1 : Wk l Z (MoC Z cdC) md_findFree 2 [.val (.ref 0), .val (.int (0 : Int32))] [] (11, F, G, A, B) 0 0 Q) :
    Wk l Z (MoC Z cdC) md_findFree 0 [.val (.ref 0), .unset] [] (11, F, G, A, B) 0 0 Q := by
  refine Wk.iconst o_findFree_0 (z := (0 : Int32)) (by decide) ?_
  refine Wk.istoreN o_findFree_1 (Or.inl rfl) (L' := [.val (.ref 0), .val (.int (0 : Int32))]) rfl ?_
  exact h1

set_option maxRecDepth 65536 in
set_option maxHeartbeats 4000000 in
theorem wp_findFree_2 {l : Launch} {Z : State} {a0 : Array Value} (H : OK Z a0) (F : Nat → Int32) (G : Nat → Int64) (A : Nat → Int32 → Int32) (B : Nat → Int32 → Int64) (v1 : Int32) {Q : Option Value → WO → Prop} (h2 : ¬ v1 < (F 0) → Q (some (.int (-1 : Int32))) (11, F, G, A, B)) (s3 : v1 < (F 0) → ¬ v1 < 0) (s4 : v1 < (F 0) → v1 < (64 : Int32)) (h6 : v1 < (F 0) → ¬ ((A 0) v1) = 0 → Wk l Z (MoC Z cdC) md_findFree 2 [.val (.ref 0), .val (.int (v1 + (1 : Int32)))] [] (11, F, G, A, B) 0 0 Q) (h7 : v1 < (F 0) → ((A 0) v1) = 0 → Q (some (.int v1)) (11, F, G, A, B)) :
    Wk l Z (MoC Z cdC) md_findFree 2 [.val (.ref 0), .val (.int v1)] [] (11, F, G, A, B) 0 0 Q := by
  refine Wk.iloadN o_findFree_2 rfl ?_
  refine Wk.aloadN o_findFree_3 rfl ?_
  refine Wk.getI (mI_cap) (wf_cap H) o_findFree_4 (x := (F 0)) rfl ?_
  refine Wk.icmp_ge o_findFree_7 (fun q1 => ?_) (fun q1 => ?_)
  · refine Wk.iconst o_findFree_27 (z := (-1 : Int32)) (by decide) ?_
    exact Wk.ireturn mrC rfl o_findFree_28 rfl (by decide) (by decide) (h2 q1)
  · refine Wk.aloadN o_findFree_10 rfl ?_
    refine Wk.getA (mA_st) (by decide) (i' := 1) rfl (wf_st H) o_findFree_11 ?_
    refine Wk.iloadN o_findFree_14 rfl ?_
    refine Wk.iaload (mA_st) (by decide) (i' := 1) rfl (s3 q1) (s4 q1) o_findFree_15 (y := ((A 0) v1)) rfl ?_
    refine Wk.if_ne o_findFree_16 (fun q5 => ?_) (fun q5 => ?_)
    · refine Wk.iinc o_findFree_21 rfl (z := (v1 + (1 : Int32))) rfl (L' := [.val (.ref 0), .val (.int (v1 + (1 : Int32)))]) rfl ?_
      refine Wk.goto o_findFree_24 ?_
      exact (h6 q1 q5)
    · refine Wk.iloadN o_findFree_19 rfl ?_
      exact Wk.ireturn mrC rfl o_findFree_20 rfl (by decide) (by decide) (h7 q1 q5)

theorem rt_findFree (F : Nat → Int32) (G : Nat → Int64) (A : Nat → Int32 → Int32) (B : Nat → Int32 → Int64) (v0 : Int32) (r : Int32) (e : v0 = r) : some (Value.int v0) = some (.int r) ∧ (11, F, G, A, B) = (11, F, G, A, B) := by subst e; exact ⟨rfl, rfl⟩
def lp_findFree : Nat → Nat → Int32 → (Nat → Int32) → (Nat → Int32 → Int32) → Option (Int32)
  | 0, _, _, _, _ => none
  | n + 1, tag, v1, F, A => if tag = 2 then (if v1 < (F 0) then (if (¬ v1 < 0) ∧ (v1 < (64 : Int32)) then (if ((A 0) v1) = 0 then some (v1) else lp_findFree n 2 (v1 + (1 : Int32)) F A) else none) else some ((-1 : Int32))) else none
theorem lp_findFree_z (tag : Nat) (v1 : Int32) (F : Nat → Int32) (A : Nat → Int32 → Int32) : lp_findFree 0 tag v1 F A = none := Eq.trans rfl rfl
theorem lp_findFree_2 (n : Nat) (v1 : Int32) (F : Nat → Int32) (A : Nat → Int32 → Int32) : lp_findFree (n + 1) 2 v1 F A = (if v1 < (F 0) then (if (¬ v1 < 0) ∧ (v1 < (64 : Int32)) then (if ((A 0) v1) = 0 then some (v1) else lp_findFree n 2 (v1 + (1 : Int32)) F A) else none) else some ((-1 : Int32))) := by
  rw [lp_findFree, if_pos rfl]
set_option maxRecDepth 65536 in
set_option maxHeartbeats 4000000 in
theorem lpw_findFree {l : Launch} {Z : State} {a0 : Array Value} (H : OK Z a0) (F : Nat → Int32) (G : Nat → Int64) (A : Nat → Int32 → Int32) (B : Nat → Int32 → Int64) : ∀ (n : Nat) (v1 : Int32) (r : Int32), (lp_findFree n 2 v1 F A = some r → Wk l Z (MoC Z cdC) md_findFree 2 [.val (.ref 0), .val (.int v1)] [] (11, F, G, A, B) 0 0 (fun v w' => v = some (.int r) ∧ w' = (11, F, G, A, B))) := by
  intro n
  induction n with
  | zero =>
    intro v1  r
    exact (fun h => by rw [lp_findFree_z] at h; cases h)
  | succ n ih =>
    intro v1  r
    refine fun h => ?_
    · rw [lp_findFree_2] at h
      exact wp_findFree_2 H F G A B v1 (fun q1 => (rt_findFree _ _ _ _ _ r (Option.some.inj (ifn q1 h)))) (fun q1 => (gd (ifp q1 h)).1.1) (fun q1 => (gd (ifp q1 h)).1.2) (fun q1 q5 => (ih _ _) (ifn q5 (gd (ifp q1 h)).2)) (fun q1 q5 => (rt_findFree _ _ _ _ _ r (Option.some.inj (ifp q5 (gd (ifp q1 h)).2))))
def en_findFree (F : Nat → Int32) (A : Nat → Int32 → Int32) : Option (Int32) := lp_findFree 1000 2 (0 : Int32) F A
theorem een_findFree (F : Nat → Int32) (A : Nat → Int32 → Int32) : en_findFree F A  = lp_findFree 1000 2 (0 : Int32) F A := Eq.trans rfl rfl
def R_findFree (F : Nat → Int32) (A : Nat → Int32 → Int32) : Int32 := (en_findFree F A ).getD (0)
theorem eR_findFree (F : Nat → Int32) (A : Nat → Int32 → Int32) : R_findFree F A  = (en_findFree F A ).getD (0) := Eq.trans rfl rfl
set_option maxRecDepth 65536 in
set_option maxHeartbeats 4000000 in
theorem run_findFree {l : Launch} {Z : State} {a0 : Array Value} (H : OK Z a0) (F : Nat → Int32) (G : Nat → Int64) (A : Nat → Int32 → Int32) (B : Nat → Int32 → Int64) (e1 : (en_findFree F A ).isSome = true) :
    Wk l Z (MoC Z cdC) md_findFree 0 [.val (.ref 0), .unset] [] (11, F, G, A, B) 0 0 (fun v w' => v = some (.int (R_findFree F A )) ∧ w' = (11, F, G, A, B)) := by
  obtain ⟨r, h⟩ := Option.isSome_iff_exists.mp e1
  have e : R_findFree F A  = r := (eR_findFree F A ).trans (getD_some h)
  rw [e]
  rw [een_findFree] at h
  exact wp_findFree H F G A B  ((lpw_findFree H F G A B _ _ _) h)
set_option maxRecDepth 65536 in
set_option maxHeartbeats 4000000 in
theorem wp_submit {l : Launch} {Z : State} {a0 : Array Value} (H : OK Z a0) (F : Nat → Int32) (G : Nat → Int64) (A : Nat → Int32 → Int32) (B : Nat → Int32 → Int64) (p1 : Int32) (p2 : Int32) (p3 : Int32) (p4 : Int32) {Q : Option Value → WO → Prop} (h3 : (F 3) = 0 → p1 < 0 → Q (some (.int (-2 : Int32))) (11, F, G, A, B)) (h7 : (F 3) = 0 → ¬ p1 < 0 → p1 < (F 1) → p2 = 0 → p3 < 0 → Q (some (.int (-4 : Int32))) (11, F, G, A, B)) (h10 : (F 3) = 0 → ¬ p1 < 0 → p1 < (F 1) → p2 = 0 → ¬ p3 < 0 → ¬ (255 : Int32) < p3 → p4 < (1 : Int32) → Q (some (.int (-5 : Int32))) (11, F, G, A, B)) (s12 : (F 3) = 0 → ¬ p1 < 0 → p1 < (F 1) → p2 = 0 → ¬ p3 < 0 → ¬ (255 : Int32) < p3 → ¬ p4 < (1 : Int32) → ¬ (1000 : Int32) < p4 → (en_findFree F A ).isSome = true) (s14 : (F 3) = 0 → ¬ p1 < 0 → p1 < (F 1) → p2 = 0 → ¬ p3 < 0 → ¬ (255 : Int32) < p3 → ¬ p4 < (1 : Int32) → ¬ (1000 : Int32) < p4 → ¬ (R_findFree F A ) < 0 → (R_findFree F A ) < (64 : Int32)) (h15 : (F 3) = 0 → ¬ p1 < 0 → p1 < (F 1) → p2 = 0 → ¬ p3 < 0 → ¬ (255 : Int32) < p3 → ¬ p4 < (1 : Int32) → ¬ (1000 : Int32) < p4 → ¬ (R_findFree F A ) < 0 → Q (some (.int (R_findFree F A ))) (11, (ups F 4 ((F 4) + (1 : Int32))), G, (ups (ups (ups (ups (ups (ups (ups A 0 (ups (A 0) (R_findFree F A ) (1 : Int32))) 1 (ups (A 1) (R_findFree F A ) p1)) 2 (ups (A 2) (R_findFree F A ) p2)) 3 (ups (A 3) (R_findFree F A ) p3)) 4 (ups (A 4) (R_findFree F A ) p4)) 5 (ups (A 5) (R_findFree F A ) (0 : Int32))) 6 (ups (A 6) (R_findFree F A ) (F 4))), B)) (h16 : (F 3) = 0 → ¬ p1 < 0 → p1 < (F 1) → p2 = 0 → ¬ p3 < 0 → ¬ (255 : Int32) < p3 → ¬ p4 < (1 : Int32) → ¬ (1000 : Int32) < p4 → (R_findFree F A ) < 0 → Q (some (.int (-6 : Int32))) (11, F, G, A, B)) (h17 : (F 3) = 0 → ¬ p1 < 0 → p1 < (F 1) → p2 = 0 → ¬ p3 < 0 → ¬ (255 : Int32) < p3 → ¬ p4 < (1 : Int32) → (1000 : Int32) < p4 → Q (some (.int (-5 : Int32))) (11, F, G, A, B)) (h18 : (F 3) = 0 → ¬ p1 < 0 → p1 < (F 1) → p2 = 0 → ¬ p3 < 0 → (255 : Int32) < p3 → Q (some (.int (-4 : Int32))) (11, F, G, A, B)) (h21 : (F 3) = 0 → ¬ p1 < 0 → p1 < (F 1) → ¬ p2 = 0 → p2 = (1 : Int32) → p3 < 0 → Q (some (.int (-4 : Int32))) (11, F, G, A, B)) (h24 : (F 3) = 0 → ¬ p1 < 0 → p1 < (F 1) → ¬ p2 = 0 → p2 = (1 : Int32) → ¬ p3 < 0 → ¬ (255 : Int32) < p3 → p4 < (1 : Int32) → Q (some (.int (-5 : Int32))) (11, F, G, A, B)) (s26 : (F 3) = 0 → ¬ p1 < 0 → p1 < (F 1) → ¬ p2 = 0 → p2 = (1 : Int32) → ¬ p3 < 0 → ¬ (255 : Int32) < p3 → ¬ p4 < (1 : Int32) → ¬ (1000 : Int32) < p4 → (en_findFree F A ).isSome = true) (s28 : (F 3) = 0 → ¬ p1 < 0 → p1 < (F 1) → ¬ p2 = 0 → p2 = (1 : Int32) → ¬ p3 < 0 → ¬ (255 : Int32) < p3 → ¬ p4 < (1 : Int32) → ¬ (1000 : Int32) < p4 → ¬ (R_findFree F A ) < 0 → (R_findFree F A ) < (64 : Int32)) (h29 : (F 3) = 0 → ¬ p1 < 0 → p1 < (F 1) → ¬ p2 = 0 → p2 = (1 : Int32) → ¬ p3 < 0 → ¬ (255 : Int32) < p3 → ¬ p4 < (1 : Int32) → ¬ (1000 : Int32) < p4 → ¬ (R_findFree F A ) < 0 → Q (some (.int (R_findFree F A ))) (11, (ups F 4 ((F 4) + (1 : Int32))), G, (ups (ups (ups (ups (ups (ups (ups A 0 (ups (A 0) (R_findFree F A ) (1 : Int32))) 1 (ups (A 1) (R_findFree F A ) p1)) 2 (ups (A 2) (R_findFree F A ) p2)) 3 (ups (A 3) (R_findFree F A ) p3)) 4 (ups (A 4) (R_findFree F A ) p4)) 5 (ups (A 5) (R_findFree F A ) (0 : Int32))) 6 (ups (A 6) (R_findFree F A ) (F 4))), B)) (h30 : (F 3) = 0 → ¬ p1 < 0 → p1 < (F 1) → ¬ p2 = 0 → p2 = (1 : Int32) → ¬ p3 < 0 → ¬ (255 : Int32) < p3 → ¬ p4 < (1 : Int32) → ¬ (1000 : Int32) < p4 → (R_findFree F A ) < 0 → Q (some (.int (-6 : Int32))) (11, F, G, A, B)) (h31 : (F 3) = 0 → ¬ p1 < 0 → p1 < (F 1) → ¬ p2 = 0 → p2 = (1 : Int32) → ¬ p3 < 0 → ¬ (255 : Int32) < p3 → ¬ p4 < (1 : Int32) → (1000 : Int32) < p4 → Q (some (.int (-5 : Int32))) (11, F, G, A, B)) (h32 : (F 3) = 0 → ¬ p1 < 0 → p1 < (F 1) → ¬ p2 = 0 → p2 = (1 : Int32) → ¬ p3 < 0 → (255 : Int32) < p3 → Q (some (.int (-4 : Int32))) (11, F, G, A, B)) (h33 : (F 3) = 0 → ¬ p1 < 0 → p1 < (F 1) → ¬ p2 = 0 → ¬ p2 = (1 : Int32) → Q (some (.int (-3 : Int32))) (11, F, G, A, B)) (h34 : (F 3) = 0 → ¬ p1 < 0 → ¬ p1 < (F 1) → Q (some (.int (-2 : Int32))) (11, F, G, A, B)) (h35 : ¬ (F 3) = 0 → Q (some (.int (-1 : Int32))) (11, F, G, A, B)) :
    Wk l Z (MoC Z cdC) md_submit 0 [.val (.ref 0), .val (.int p1), .val (.int p2), .val (.int p3), .val (.int p4), .unset] [] (11, F, G, A, B) 0 0 Q := by
  refine Wk.aloadN o_submit_0 rfl ?_
  refine Wk.getI (mI_phase) (wf_phase H) o_submit_1 (x := (F 3)) rfl ?_
  refine Wk.if_eq o_submit_4 (fun q1 => ?_) (fun q1 => ?_)
  · refine Wk.iloadN o_submit_9 rfl ?_
    refine Wk.if_lt o_submit_10 (fun q2 => ?_) (fun q2 => ?_)
    · refine Wk.bipush o_submit_21 (z := (-2 : Int32)) (by decide) ?_
      exact Wk.ireturn mrC rfl o_submit_23 rfl (by decide) (by decide) (h3 q1 q2)
    · refine Wk.iloadN o_submit_13 rfl ?_
      refine Wk.aloadN o_submit_14 rfl ?_
      refine Wk.getI (mI_nAcc) (wf_nAcc H) o_submit_15 (x := (F 1)) rfl ?_
      refine Wk.icmp_lt o_submit_18 (fun q4 => ?_) (fun q4 => ?_)
      · refine Wk.iloadN o_submit_24 rfl ?_
        refine Wk.if_eq o_submit_25 (fun q5 => ?_) (fun q5 => ?_)
        · refine Wk.iloadN o_submit_36 rfl ?_
          refine Wk.if_lt o_submit_37 (fun q6 => ?_) (fun q6 => ?_)
          · refine Wk.bipush o_submit_47 (z := (-4 : Int32)) (by decide) ?_
            exact Wk.ireturn mrC rfl o_submit_49 rfl (by decide) (by decide) (h7 q1 q2 q4 q5 q6)
          · refine Wk.iloadN o_submit_40 rfl ?_
            refine Wk.sipush o_submit_41 (z := (255 : Int32)) (by decide) ?_
            refine Wk.icmp_le o_submit_44 (fun q8 => ?_) (fun q8 => ?_)
            · refine Wk.iload o_submit_50 rfl ?_
              refine Wk.iconst o_submit_52 (z := (1 : Int32)) (by decide) ?_
              refine Wk.icmp_lt o_submit_53 (fun q9 => ?_) (fun q9 => ?_)
              · refine Wk.bipush o_submit_64 (z := (-5 : Int32)) (by decide) ?_
                exact Wk.ireturn mrC rfl o_submit_66 rfl (by decide) (by decide) (h10 q1 q2 q4 q5 q6 q8 q9)
              · refine Wk.iload o_submit_56 rfl ?_
                refine Wk.sipush o_submit_58 (z := (1000 : Int32)) (by decide) ?_
                refine Wk.icmp_le o_submit_61 (fun q11 => ?_) (fun q11 => ?_)
                · refine Wk.aloadN o_submit_67 rfl ?_
                  refine Wk.callF [] [] (H.w 59 rfl) (cv_findFree H) o_submit_68 (run_findFree H F G A B (s12 q1 q2 q4 q5 q6 q8 q9 q11)) (wt := 0) (cu' := 0) (su' := 0) (by decide) rfl rfl rfl rfl rfl rfl rfl ?_
                  refine Wk.istore o_submit_71 (Or.inl rfl) (L' := [.val (.ref 0), .val (.int p1), .val (.int p2), .val (.int p3), .val (.int p4), .val (.int (R_findFree F A ))]) rfl ?_
                  refine Wk.iload o_submit_73 rfl ?_
                  refine Wk.if_ge o_submit_75 (fun q13 => ?_) (fun q13 => ?_)
                  · refine Wk.aloadN o_submit_81 rfl ?_
                    refine Wk.getA (mA_st) (by decide) (i' := 1) rfl (wf_st H) o_submit_82 ?_
                    refine Wk.iload o_submit_85 rfl ?_
                    refine Wk.iconst o_submit_87 (z := (1 : Int32)) (by decide) ?_
                    refine Wk.iastore (coC H) (f := (A 0)) (mA_st) rfl (by decide) (i' := 1) rfl q13 (s14 q1 q2 q4 q5 q6 q8 q9 q11 q13) o_submit_88 ?_
                    refine Wk.aloadN o_submit_89 rfl ?_
                    refine Wk.getA (mA_acct) (by decide) (i' := 2) rfl (wf_acct H) o_submit_90 ?_
                    refine Wk.iload o_submit_93 rfl ?_
                    refine Wk.iloadN o_submit_95 rfl ?_
                    refine Wk.iastore (coC H) (f := (A 1)) (mA_acct) rfl (by decide) (i' := 2) rfl q13 (s14 q1 q2 q4 q5 q6 q8 q9 q11 q13) o_submit_96 ?_
                    refine Wk.aloadN o_submit_97 rfl ?_
                    refine Wk.getA (mA_sd) (by decide) (i' := 3) rfl (wf_sd H) o_submit_98 ?_
                    refine Wk.iload o_submit_101 rfl ?_
                    refine Wk.iloadN o_submit_103 rfl ?_
                    refine Wk.iastore (coC H) (f := (A 2)) (mA_sd) rfl (by decide) (i' := 3) rfl q13 (s14 q1 q2 q4 q5 q6 q8 q9 q11 q13) o_submit_104 ?_
                    refine Wk.aloadN o_submit_105 rfl ?_
                    refine Wk.getA (mA_pr) (by decide) (i' := 4) rfl (wf_pr H) o_submit_106 ?_
                    refine Wk.iload o_submit_109 rfl ?_
                    refine Wk.iloadN o_submit_111 rfl ?_
                    refine Wk.iastore (coC H) (f := (A 3)) (mA_pr) rfl (by decide) (i' := 4) rfl q13 (s14 q1 q2 q4 q5 q6 q8 q9 q11 q13) o_submit_112 ?_
                    refine Wk.aloadN o_submit_113 rfl ?_
                    refine Wk.getA (mA_rem) (by decide) (i' := 5) rfl (wf_rem H) o_submit_114 ?_
                    refine Wk.iload o_submit_117 rfl ?_
                    refine Wk.iload o_submit_119 rfl ?_
                    refine Wk.iastore (coC H) (f := (A 4)) (mA_rem) rfl (by decide) (i' := 5) rfl q13 (s14 q1 q2 q4 q5 q6 q8 q9 q11 q13) o_submit_121 ?_
                    refine Wk.aloadN o_submit_122 rfl ?_
                    refine Wk.getA (mA_fil) (by decide) (i' := 6) rfl (wf_fil H) o_submit_123 ?_
                    refine Wk.iload o_submit_126 rfl ?_
                    refine Wk.iconst o_submit_128 (z := (0 : Int32)) (by decide) ?_
                    refine Wk.iastore (coC H) (f := (A 5)) (mA_fil) rfl (by decide) (i' := 6) rfl q13 (s14 q1 q2 q4 q5 q6 q8 q9 q11 q13) o_submit_129 ?_
                    refine Wk.aloadN o_submit_130 rfl ?_
                    refine Wk.getA (mA_sq) (by decide) (i' := 7) rfl (wf_sq H) o_submit_131 ?_
                    refine Wk.iload o_submit_134 rfl ?_
                    refine Wk.aloadN o_submit_136 rfl ?_
                    refine Wk.getI (mI_seqCounter) (wf_seqCounter H) o_submit_137 (x := (F 4)) rfl ?_
                    refine Wk.iastore (coC H) (f := (A 6)) (mA_sq) rfl (by decide) (i' := 7) rfl q13 (s14 q1 q2 q4 q5 q6 q8 q9 q11 q13) o_submit_140 ?_
                    refine Wk.aloadN o_submit_141 rfl ?_
                    refine Wk.dup o_submit_142 rfl ?_
                    refine Wk.getI (mI_seqCounter) (wf_seqCounter H) o_submit_143 (x := (F 4)) rfl ?_
                    refine Wk.iconst o_submit_146 (z := (1 : Int32)) (by decide) ?_
                    refine Wk.iadd o_submit_147 ?_
                    refine Wk.putI (coC H) (mI_seqCounter) (wf_seqCounter H) (Or.inl (wy_seqCounter H)) o_submit_148 ?_
                    refine Wk.iload o_submit_151 rfl ?_
                    exact Wk.ireturn mrC rfl o_submit_153 rfl (by decide) (by decide) (h15 q1 q2 q4 q5 q6 q8 q9 q11 q13)
                  · refine Wk.bipush o_submit_78 (z := (-6 : Int32)) (by decide) ?_
                    exact Wk.ireturn mrC rfl o_submit_80 rfl (by decide) (by decide) (h16 q1 q2 q4 q5 q6 q8 q9 q11 q13)
                · refine Wk.bipush o_submit_64 (z := (-5 : Int32)) (by decide) ?_
                  exact Wk.ireturn mrC rfl o_submit_66 rfl (by decide) (by decide) (h17 q1 q2 q4 q5 q6 q8 q9 q11)
            · refine Wk.bipush o_submit_47 (z := (-4 : Int32)) (by decide) ?_
              exact Wk.ireturn mrC rfl o_submit_49 rfl (by decide) (by decide) (h18 q1 q2 q4 q5 q6 q8)
        · refine Wk.iloadN o_submit_28 rfl ?_
          refine Wk.iconst o_submit_29 (z := (1 : Int32)) (by decide) ?_
          refine Wk.icmp_eq o_submit_30 (fun q19 => ?_) (fun q19 => ?_)
          · refine Wk.iloadN o_submit_36 rfl ?_
            refine Wk.if_lt o_submit_37 (fun q20 => ?_) (fun q20 => ?_)
            · refine Wk.bipush o_submit_47 (z := (-4 : Int32)) (by decide) ?_
              exact Wk.ireturn mrC rfl o_submit_49 rfl (by decide) (by decide) (h21 q1 q2 q4 q5 q19 q20)
            · refine Wk.iloadN o_submit_40 rfl ?_
              refine Wk.sipush o_submit_41 (z := (255 : Int32)) (by decide) ?_
              refine Wk.icmp_le o_submit_44 (fun q22 => ?_) (fun q22 => ?_)
              · refine Wk.iload o_submit_50 rfl ?_
                refine Wk.iconst o_submit_52 (z := (1 : Int32)) (by decide) ?_
                refine Wk.icmp_lt o_submit_53 (fun q23 => ?_) (fun q23 => ?_)
                · refine Wk.bipush o_submit_64 (z := (-5 : Int32)) (by decide) ?_
                  exact Wk.ireturn mrC rfl o_submit_66 rfl (by decide) (by decide) (h24 q1 q2 q4 q5 q19 q20 q22 q23)
                · refine Wk.iload o_submit_56 rfl ?_
                  refine Wk.sipush o_submit_58 (z := (1000 : Int32)) (by decide) ?_
                  refine Wk.icmp_le o_submit_61 (fun q25 => ?_) (fun q25 => ?_)
                  · refine Wk.aloadN o_submit_67 rfl ?_
                    refine Wk.callF [] [] (H.w 59 rfl) (cv_findFree H) o_submit_68 (run_findFree H F G A B (s26 q1 q2 q4 q5 q19 q20 q22 q23 q25)) (wt := 0) (cu' := 0) (su' := 0) (by decide) rfl rfl rfl rfl rfl rfl rfl ?_
                    refine Wk.istore o_submit_71 (Or.inl rfl) (L' := [.val (.ref 0), .val (.int p1), .val (.int p2), .val (.int p3), .val (.int p4), .val (.int (R_findFree F A ))]) rfl ?_
                    refine Wk.iload o_submit_73 rfl ?_
                    refine Wk.if_ge o_submit_75 (fun q27 => ?_) (fun q27 => ?_)
                    · refine Wk.aloadN o_submit_81 rfl ?_
                      refine Wk.getA (mA_st) (by decide) (i' := 1) rfl (wf_st H) o_submit_82 ?_
                      refine Wk.iload o_submit_85 rfl ?_
                      refine Wk.iconst o_submit_87 (z := (1 : Int32)) (by decide) ?_
                      refine Wk.iastore (coC H) (f := (A 0)) (mA_st) rfl (by decide) (i' := 1) rfl q27 (s28 q1 q2 q4 q5 q19 q20 q22 q23 q25 q27) o_submit_88 ?_
                      refine Wk.aloadN o_submit_89 rfl ?_
                      refine Wk.getA (mA_acct) (by decide) (i' := 2) rfl (wf_acct H) o_submit_90 ?_
                      refine Wk.iload o_submit_93 rfl ?_
                      refine Wk.iloadN o_submit_95 rfl ?_
                      refine Wk.iastore (coC H) (f := (A 1)) (mA_acct) rfl (by decide) (i' := 2) rfl q27 (s28 q1 q2 q4 q5 q19 q20 q22 q23 q25 q27) o_submit_96 ?_
                      refine Wk.aloadN o_submit_97 rfl ?_
                      refine Wk.getA (mA_sd) (by decide) (i' := 3) rfl (wf_sd H) o_submit_98 ?_
                      refine Wk.iload o_submit_101 rfl ?_
                      refine Wk.iloadN o_submit_103 rfl ?_
                      refine Wk.iastore (coC H) (f := (A 2)) (mA_sd) rfl (by decide) (i' := 3) rfl q27 (s28 q1 q2 q4 q5 q19 q20 q22 q23 q25 q27) o_submit_104 ?_
                      refine Wk.aloadN o_submit_105 rfl ?_
                      refine Wk.getA (mA_pr) (by decide) (i' := 4) rfl (wf_pr H) o_submit_106 ?_
                      refine Wk.iload o_submit_109 rfl ?_
                      refine Wk.iloadN o_submit_111 rfl ?_
                      refine Wk.iastore (coC H) (f := (A 3)) (mA_pr) rfl (by decide) (i' := 4) rfl q27 (s28 q1 q2 q4 q5 q19 q20 q22 q23 q25 q27) o_submit_112 ?_
                      refine Wk.aloadN o_submit_113 rfl ?_
                      refine Wk.getA (mA_rem) (by decide) (i' := 5) rfl (wf_rem H) o_submit_114 ?_
                      refine Wk.iload o_submit_117 rfl ?_
                      refine Wk.iload o_submit_119 rfl ?_
                      refine Wk.iastore (coC H) (f := (A 4)) (mA_rem) rfl (by decide) (i' := 5) rfl q27 (s28 q1 q2 q4 q5 q19 q20 q22 q23 q25 q27) o_submit_121 ?_
                      refine Wk.aloadN o_submit_122 rfl ?_
                      refine Wk.getA (mA_fil) (by decide) (i' := 6) rfl (wf_fil H) o_submit_123 ?_
                      refine Wk.iload o_submit_126 rfl ?_
                      refine Wk.iconst o_submit_128 (z := (0 : Int32)) (by decide) ?_
                      refine Wk.iastore (coC H) (f := (A 5)) (mA_fil) rfl (by decide) (i' := 6) rfl q27 (s28 q1 q2 q4 q5 q19 q20 q22 q23 q25 q27) o_submit_129 ?_
                      refine Wk.aloadN o_submit_130 rfl ?_
                      refine Wk.getA (mA_sq) (by decide) (i' := 7) rfl (wf_sq H) o_submit_131 ?_
                      refine Wk.iload o_submit_134 rfl ?_
                      refine Wk.aloadN o_submit_136 rfl ?_
                      refine Wk.getI (mI_seqCounter) (wf_seqCounter H) o_submit_137 (x := (F 4)) rfl ?_
                      refine Wk.iastore (coC H) (f := (A 6)) (mA_sq) rfl (by decide) (i' := 7) rfl q27 (s28 q1 q2 q4 q5 q19 q20 q22 q23 q25 q27) o_submit_140 ?_
                      refine Wk.aloadN o_submit_141 rfl ?_
                      refine Wk.dup o_submit_142 rfl ?_
                      refine Wk.getI (mI_seqCounter) (wf_seqCounter H) o_submit_143 (x := (F 4)) rfl ?_
                      refine Wk.iconst o_submit_146 (z := (1 : Int32)) (by decide) ?_
                      refine Wk.iadd o_submit_147 ?_
                      refine Wk.putI (coC H) (mI_seqCounter) (wf_seqCounter H) (Or.inl (wy_seqCounter H)) o_submit_148 ?_
                      refine Wk.iload o_submit_151 rfl ?_
                      exact Wk.ireturn mrC rfl o_submit_153 rfl (by decide) (by decide) (h29 q1 q2 q4 q5 q19 q20 q22 q23 q25 q27)
                    · refine Wk.bipush o_submit_78 (z := (-6 : Int32)) (by decide) ?_
                      exact Wk.ireturn mrC rfl o_submit_80 rfl (by decide) (by decide) (h30 q1 q2 q4 q5 q19 q20 q22 q23 q25 q27)
                  · refine Wk.bipush o_submit_64 (z := (-5 : Int32)) (by decide) ?_
                    exact Wk.ireturn mrC rfl o_submit_66 rfl (by decide) (by decide) (h31 q1 q2 q4 q5 q19 q20 q22 q23 q25)
              · refine Wk.bipush o_submit_47 (z := (-4 : Int32)) (by decide) ?_
                exact Wk.ireturn mrC rfl o_submit_49 rfl (by decide) (by decide) (h32 q1 q2 q4 q5 q19 q20 q22)
          · refine Wk.bipush o_submit_33 (z := (-3 : Int32)) (by decide) ?_
            exact Wk.ireturn mrC rfl o_submit_35 rfl (by decide) (by decide) (h33 q1 q2 q4 q5 q19)
      · refine Wk.bipush o_submit_21 (z := (-2 : Int32)) (by decide) ?_
        exact Wk.ireturn mrC rfl o_submit_23 rfl (by decide) (by decide) (h34 q1 q2 q4)
  · refine Wk.iconst o_submit_7 (z := (-1 : Int32)) (by decide) ?_
    exact Wk.ireturn mrC rfl o_submit_8 rfl (by decide) (by decide) (h35 q1)

theorem rt_submit (G : Nat → Int64) (B : Nat → Int32 → Int64) (v0 : Int32) (xF : Nat → Int32) (xA : Nat → Int32 → Int32) (r : Int32 × (Nat → Int32) × (Nat → Int32 → Int32)) (e : (v0, xF, xA) = r) : some (Value.int v0) = some (.int r.1) ∧ (11, xF, G, xA, B) = (11, r.2.1, G, r.2.2, B) := by subst e; exact ⟨rfl, rfl⟩
def en_submit (F : Nat → Int32) (A : Nat → Int32 → Int32) (p1 : Int32) (p2 : Int32) (p3 : Int32) (p4 : Int32) : Option (Int32 × (Nat → Int32) × (Nat → Int32 → Int32)) := (if (F 3) = 0 then (if p1 < 0 then some ((-2 : Int32), F, A) else (if p1 < (F 1) then (if p2 = 0 then (if p3 < 0 then some ((-4 : Int32), F, A) else (if (255 : Int32) < p3 then some ((-4 : Int32), F, A) else (if p4 < (1 : Int32) then some ((-5 : Int32), F, A) else (if (1000 : Int32) < p4 then some ((-5 : Int32), F, A) else (if ((en_findFree F A ).isSome = true) then (if (R_findFree F A ) < 0 then some ((-6 : Int32), F, A) else (if ((R_findFree F A ) < (64 : Int32)) then some ((R_findFree F A ), (ups F 4 ((F 4) + (1 : Int32))), (ups (ups (ups (ups (ups (ups (ups A 0 (ups (A 0) (R_findFree F A ) (1 : Int32))) 1 (ups (A 1) (R_findFree F A ) p1)) 2 (ups (A 2) (R_findFree F A ) p2)) 3 (ups (A 3) (R_findFree F A ) p3)) 4 (ups (A 4) (R_findFree F A ) p4)) 5 (ups (A 5) (R_findFree F A ) (0 : Int32))) 6 (ups (A 6) (R_findFree F A ) (F 4)))) else none)) else none))))) else (if p2 = (1 : Int32) then (if p3 < 0 then some ((-4 : Int32), F, A) else (if (255 : Int32) < p3 then some ((-4 : Int32), F, A) else (if p4 < (1 : Int32) then some ((-5 : Int32), F, A) else (if (1000 : Int32) < p4 then some ((-5 : Int32), F, A) else (if ((en_findFree F A ).isSome = true) then (if (R_findFree F A ) < 0 then some ((-6 : Int32), F, A) else (if ((R_findFree F A ) < (64 : Int32)) then some ((R_findFree F A ), (ups F 4 ((F 4) + (1 : Int32))), (ups (ups (ups (ups (ups (ups (ups A 0 (ups (A 0) (R_findFree F A ) (1 : Int32))) 1 (ups (A 1) (R_findFree F A ) p1)) 2 (ups (A 2) (R_findFree F A ) p2)) 3 (ups (A 3) (R_findFree F A ) p3)) 4 (ups (A 4) (R_findFree F A ) p4)) 5 (ups (A 5) (R_findFree F A ) (0 : Int32))) 6 (ups (A 6) (R_findFree F A ) (F 4)))) else none)) else none))))) else some ((-3 : Int32), F, A))) else some ((-2 : Int32), F, A))) else some ((-1 : Int32), F, A))
theorem een_submit (F : Nat → Int32) (A : Nat → Int32 → Int32) (p1 : Int32) (p2 : Int32) (p3 : Int32) (p4 : Int32) : en_submit F A p1 p2 p3 p4 = (if (F 3) = 0 then (if p1 < 0 then some ((-2 : Int32), F, A) else (if p1 < (F 1) then (if p2 = 0 then (if p3 < 0 then some ((-4 : Int32), F, A) else (if (255 : Int32) < p3 then some ((-4 : Int32), F, A) else (if p4 < (1 : Int32) then some ((-5 : Int32), F, A) else (if (1000 : Int32) < p4 then some ((-5 : Int32), F, A) else (if ((en_findFree F A ).isSome = true) then (if (R_findFree F A ) < 0 then some ((-6 : Int32), F, A) else (if ((R_findFree F A ) < (64 : Int32)) then some ((R_findFree F A ), (ups F 4 ((F 4) + (1 : Int32))), (ups (ups (ups (ups (ups (ups (ups A 0 (ups (A 0) (R_findFree F A ) (1 : Int32))) 1 (ups (A 1) (R_findFree F A ) p1)) 2 (ups (A 2) (R_findFree F A ) p2)) 3 (ups (A 3) (R_findFree F A ) p3)) 4 (ups (A 4) (R_findFree F A ) p4)) 5 (ups (A 5) (R_findFree F A ) (0 : Int32))) 6 (ups (A 6) (R_findFree F A ) (F 4)))) else none)) else none))))) else (if p2 = (1 : Int32) then (if p3 < 0 then some ((-4 : Int32), F, A) else (if (255 : Int32) < p3 then some ((-4 : Int32), F, A) else (if p4 < (1 : Int32) then some ((-5 : Int32), F, A) else (if (1000 : Int32) < p4 then some ((-5 : Int32), F, A) else (if ((en_findFree F A ).isSome = true) then (if (R_findFree F A ) < 0 then some ((-6 : Int32), F, A) else (if ((R_findFree F A ) < (64 : Int32)) then some ((R_findFree F A ), (ups F 4 ((F 4) + (1 : Int32))), (ups (ups (ups (ups (ups (ups (ups A 0 (ups (A 0) (R_findFree F A ) (1 : Int32))) 1 (ups (A 1) (R_findFree F A ) p1)) 2 (ups (A 2) (R_findFree F A ) p2)) 3 (ups (A 3) (R_findFree F A ) p3)) 4 (ups (A 4) (R_findFree F A ) p4)) 5 (ups (A 5) (R_findFree F A ) (0 : Int32))) 6 (ups (A 6) (R_findFree F A ) (F 4)))) else none)) else none))))) else some ((-3 : Int32), F, A))) else some ((-2 : Int32), F, A))) else some ((-1 : Int32), F, A)) := Eq.trans rfl rfl
def R_submit (F : Nat → Int32) (A : Nat → Int32 → Int32) (p1 : Int32) (p2 : Int32) (p3 : Int32) (p4 : Int32) : Int32 × (Nat → Int32) × (Nat → Int32 → Int32) := (en_submit F A p1 p2 p3 p4).getD (0, (fun _ => 0), (fun _ _ => 0))
theorem eR_submit (F : Nat → Int32) (A : Nat → Int32 → Int32) (p1 : Int32) (p2 : Int32) (p3 : Int32) (p4 : Int32) : R_submit F A p1 p2 p3 p4 = (en_submit F A p1 p2 p3 p4).getD (0, (fun _ => 0), (fun _ _ => 0)) := Eq.trans rfl rfl
set_option maxRecDepth 65536 in
set_option maxHeartbeats 4000000 in
theorem run_submit {l : Launch} {Z : State} {a0 : Array Value} (H : OK Z a0) (F : Nat → Int32) (G : Nat → Int64) (A : Nat → Int32 → Int32) (B : Nat → Int32 → Int64) (p1 : Int32) (p2 : Int32) (p3 : Int32) (p4 : Int32) (e1 : (en_submit F A p1 p2 p3 p4).isSome = true) :
    Wk l Z (MoC Z cdC) md_submit 0 [.val (.ref 0), .val (.int p1), .val (.int p2), .val (.int p3), .val (.int p4), .unset] [] (11, F, G, A, B) 0 0 (fun v w' => v = some (.int (R_submit F A p1 p2 p3 p4).1) ∧ w' = (11, (R_submit F A p1 p2 p3 p4).2.1, G, (R_submit F A p1 p2 p3 p4).2.2, B)) := by
  obtain ⟨r, h⟩ := Option.isSome_iff_exists.mp e1
  have e : R_submit F A p1 p2 p3 p4 = r := (eR_submit F A p1 p2 p3 p4).trans (getD_some h)
  rw [e]
  rw [een_submit] at h
  exact wp_submit H F G A B p1 p2 p3 p4 (fun q1 q2 => (rt_submit _ _ _ _ _ r (Option.some.inj (ifp q2 (ifp q1 h))))) (fun q1 q2 q4 q5 q6 => (rt_submit _ _ _ _ _ r (Option.some.inj (ifp q6 (ifp q5 (ifp q4 (ifn q2 (ifp q1 h)))))))) (fun q1 q2 q4 q5 q6 q8 q9 => (rt_submit _ _ _ _ _ r (Option.some.inj (ifp q9 (ifn q8 (ifn q6 (ifp q5 (ifp q4 (ifn q2 (ifp q1 h)))))))))) (fun q1 q2 q4 q5 q6 q8 q9 q11 => (gd (ifn q11 (ifn q9 (ifn q8 (ifn q6 (ifp q5 (ifp q4 (ifn q2 (ifp q1 h))))))))).1) (fun q1 q2 q4 q5 q6 q8 q9 q11 q13 => (gd (ifn q13 (gd (ifn q11 (ifn q9 (ifn q8 (ifn q6 (ifp q5 (ifp q4 (ifn q2 (ifp q1 h))))))))).2)).1) (fun q1 q2 q4 q5 q6 q8 q9 q11 q13 => (rt_submit _ _ _ _ _ r (Option.some.inj (gd (ifn q13 (gd (ifn q11 (ifn q9 (ifn q8 (ifn q6 (ifp q5 (ifp q4 (ifn q2 (ifp q1 h))))))))).2)).2))) (fun q1 q2 q4 q5 q6 q8 q9 q11 q13 => (rt_submit _ _ _ _ _ r (Option.some.inj (ifp q13 (gd (ifn q11 (ifn q9 (ifn q8 (ifn q6 (ifp q5 (ifp q4 (ifn q2 (ifp q1 h))))))))).2)))) (fun q1 q2 q4 q5 q6 q8 q9 q11 => (rt_submit _ _ _ _ _ r (Option.some.inj (ifp q11 (ifn q9 (ifn q8 (ifn q6 (ifp q5 (ifp q4 (ifn q2 (ifp q1 h))))))))))) (fun q1 q2 q4 q5 q6 q8 => (rt_submit _ _ _ _ _ r (Option.some.inj (ifp q8 (ifn q6 (ifp q5 (ifp q4 (ifn q2 (ifp q1 h))))))))) (fun q1 q2 q4 q5 q19 q20 => (rt_submit _ _ _ _ _ r (Option.some.inj (ifp q20 (ifp q19 (ifn q5 (ifp q4 (ifn q2 (ifp q1 h))))))))) (fun q1 q2 q4 q5 q19 q20 q22 q23 => (rt_submit _ _ _ _ _ r (Option.some.inj (ifp q23 (ifn q22 (ifn q20 (ifp q19 (ifn q5 (ifp q4 (ifn q2 (ifp q1 h))))))))))) (fun q1 q2 q4 q5 q19 q20 q22 q23 q25 => (gd (ifn q25 (ifn q23 (ifn q22 (ifn q20 (ifp q19 (ifn q5 (ifp q4 (ifn q2 (ifp q1 h)))))))))).1) (fun q1 q2 q4 q5 q19 q20 q22 q23 q25 q27 => (gd (ifn q27 (gd (ifn q25 (ifn q23 (ifn q22 (ifn q20 (ifp q19 (ifn q5 (ifp q4 (ifn q2 (ifp q1 h)))))))))).2)).1) (fun q1 q2 q4 q5 q19 q20 q22 q23 q25 q27 => (rt_submit _ _ _ _ _ r (Option.some.inj (gd (ifn q27 (gd (ifn q25 (ifn q23 (ifn q22 (ifn q20 (ifp q19 (ifn q5 (ifp q4 (ifn q2 (ifp q1 h)))))))))).2)).2))) (fun q1 q2 q4 q5 q19 q20 q22 q23 q25 q27 => (rt_submit _ _ _ _ _ r (Option.some.inj (ifp q27 (gd (ifn q25 (ifn q23 (ifn q22 (ifn q20 (ifp q19 (ifn q5 (ifp q4 (ifn q2 (ifp q1 h)))))))))).2)))) (fun q1 q2 q4 q5 q19 q20 q22 q23 q25 => (rt_submit _ _ _ _ _ r (Option.some.inj (ifp q25 (ifn q23 (ifn q22 (ifn q20 (ifp q19 (ifn q5 (ifp q4 (ifn q2 (ifp q1 h)))))))))))) (fun q1 q2 q4 q5 q19 q20 q22 => (rt_submit _ _ _ _ _ r (Option.some.inj (ifp q22 (ifn q20 (ifp q19 (ifn q5 (ifp q4 (ifn q2 (ifp q1 h)))))))))) (fun q1 q2 q4 q5 q19 => (rt_submit _ _ _ _ _ r (Option.some.inj (ifn q19 (ifn q5 (ifp q4 (ifn q2 (ifp q1 h)))))))) (fun q1 q2 q4 => (rt_submit _ _ _ _ _ r (Option.some.inj (ifn q4 (ifn q2 (ifp q1 h)))))) (fun q1 => (rt_submit _ _ _ _ _ r (Option.some.inj (ifn q1 h))))
set_option maxRecDepth 65536 in
set_option maxHeartbeats 4000000 in
theorem wp_clearCurves {l : Launch} {Z : State} {a0 : Array Value} (H : OK Z a0) (F : Nat → Int32) (G : Nat → Int64) (A : Nat → Int32 → Int32) (B : Nat → Int32 → Int64) {Q : Option Value → WO → Prop} (h1 : Wk l Z (MoC Z cdC) md_clearCurves 2 [.val (.ref 0), .val (.int (0 : Int32))] [] (11, F, G, A, B) 0 0 Q) :
    Wk l Z (MoC Z cdC) md_clearCurves 0 [.val (.ref 0), .unset] [] (11, F, G, A, B) 0 0 Q := by
  refine Wk.iconst o_clearCurves_0 (z := (0 : Int32)) (by decide) ?_
  refine Wk.istoreN o_clearCurves_1 (Or.inl rfl) (L' := [.val (.ref 0), .val (.int (0 : Int32))]) rfl ?_
  exact h1

set_option maxRecDepth 65536 in
set_option maxHeartbeats 4000000 in
theorem wp_clearCurves_2 {l : Launch} {Z : State} {a0 : Array Value} (H : OK Z a0) (F : Nat → Int32) (G : Nat → Int64) (A : Nat → Int32 → Int32) (B : Nat → Int32 → Int64) (v1 : Int32) {Q : Option Value → WO → Prop} (h2 : (256 : Int32) < v1 → Q none (11, F, G, A, B)) (s3 : ¬ (256 : Int32) < v1 → ¬ v1 < 0) (s4 : ¬ (256 : Int32) < v1 → v1 < (257 : Int32)) (h5 : ¬ (256 : Int32) < v1 → Wk l Z (MoC Z cdC) md_clearCurves 2 [.val (.ref 0), .val (.int (v1 + (1 : Int32)))] [] (11, F, G, (ups (ups A 9 (ups (A 9) v1 (0 : Int32))) 10 (ups (A 10) v1 (0 : Int32))), B) 0 0 Q) :
    Wk l Z (MoC Z cdC) md_clearCurves 2 [.val (.ref 0), .val (.int v1)] [] (11, F, G, A, B) 0 0 Q := by
  refine Wk.iloadN o_clearCurves_2 rfl ?_
  refine Wk.sipush o_clearCurves_3 (z := (256 : Int32)) (by decide) ?_
  refine Wk.icmp_gt o_clearCurves_6 (fun q1 => ?_) (fun q1 => ?_)
  · exact Wk.ret mrC rfl o_clearCurves_29 rfl (by decide) (by decide) (h2 q1)
  · refine Wk.aloadN o_clearCurves_9 rfl ?_
    refine Wk.getA (mA_curD) (by decide) (i' := 10) rfl (wf_curD H) o_clearCurves_10 ?_
    refine Wk.iloadN o_clearCurves_13 rfl ?_
    refine Wk.iconst o_clearCurves_14 (z := (0 : Int32)) (by decide) ?_
    refine Wk.iastore (coC H) (f := (A 9)) (mA_curD) rfl (by decide) (i' := 10) rfl (s3 q1) (s4 q1) o_clearCurves_15 ?_
    refine Wk.aloadN o_clearCurves_16 rfl ?_
    refine Wk.getA (mA_curS) (by decide) (i' := 11) rfl (wf_curS H) o_clearCurves_17 ?_
    refine Wk.iloadN o_clearCurves_20 rfl ?_
    refine Wk.iconst o_clearCurves_21 (z := (0 : Int32)) (by decide) ?_
    refine Wk.iastore (coC H) (f := (A 10)) (mA_curS) rfl (by decide) (i' := 11) rfl (s3 q1) (s4 q1) o_clearCurves_22 ?_
    refine Wk.iinc o_clearCurves_23 rfl (z := (v1 + (1 : Int32))) rfl (L' := [.val (.ref 0), .val (.int (v1 + (1 : Int32)))]) rfl ?_
    refine Wk.goto o_clearCurves_26 ?_
    exact (h5 q1)

theorem rt_clearCurves (F : Nat → Int32) (G : Nat → Int64) (B : Nat → Int32 → Int64) (v0 : Int32) (xA : Nat → Int32 → Int32) (r : Int32 × (Nat → Int32 → Int32)) (e : (v0, xA) = r) : (none : Option Value) = none ∧ (11, F, G, xA, B) = (11, F, G, r.2, B) := by subst e; exact ⟨rfl, rfl⟩
def lp_clearCurves : Nat → Nat → Int32 → (Nat → Int32 → Int32) → Option (Int32 × (Nat → Int32 → Int32))
  | 0, _, _, _ => none
  | n + 1, tag, v1, A => if tag = 2 then (if (256 : Int32) < v1 then some ((0 : Int32), A) else (if (¬ v1 < 0) ∧ (v1 < (257 : Int32)) then lp_clearCurves n 2 (v1 + (1 : Int32)) (ups (ups A 9 (ups (A 9) v1 (0 : Int32))) 10 (ups (A 10) v1 (0 : Int32))) else none)) else none
theorem lp_clearCurves_z (tag : Nat) (v1 : Int32) (A : Nat → Int32 → Int32) : lp_clearCurves 0 tag v1 A = none := Eq.trans rfl rfl
theorem lp_clearCurves_2 (n : Nat) (v1 : Int32) (A : Nat → Int32 → Int32) : lp_clearCurves (n + 1) 2 v1 A = (if (256 : Int32) < v1 then some ((0 : Int32), A) else (if (¬ v1 < 0) ∧ (v1 < (257 : Int32)) then lp_clearCurves n 2 (v1 + (1 : Int32)) (ups (ups A 9 (ups (A 9) v1 (0 : Int32))) 10 (ups (A 10) v1 (0 : Int32))) else none)) := by
  rw [lp_clearCurves, if_pos rfl]
set_option maxRecDepth 65536 in
set_option maxHeartbeats 4000000 in
theorem lpw_clearCurves {l : Launch} {Z : State} {a0 : Array Value} (H : OK Z a0) (F : Nat → Int32) (G : Nat → Int64) (B : Nat → Int32 → Int64) : ∀ (n : Nat) (v1 : Int32) (A : Nat → Int32 → Int32) (r : Int32 × (Nat → Int32 → Int32)), (lp_clearCurves n 2 v1 A = some r → Wk l Z (MoC Z cdC) md_clearCurves 2 [.val (.ref 0), .val (.int v1)] [] (11, F, G, A, B) 0 0 (fun v w' => v = none ∧ w' = (11, F, G, r.2, B))) := by
  intro n
  induction n with
  | zero =>
    intro v1 A r
    exact (fun h => by rw [lp_clearCurves_z] at h; cases h)
  | succ n ih =>
    intro v1 A r
    refine fun h => ?_
    · rw [lp_clearCurves_2] at h
      exact wp_clearCurves_2 H F G A B v1 (fun q1 => (rt_clearCurves _ _ _ _ _ r (Option.some.inj (ifp q1 h)))) (fun q1 => (gd (ifn q1 h)).1.1) (fun q1 => (gd (ifn q1 h)).1.2) (fun q1 => (ih _ _ _) (gd (ifn q1 h)).2)
def en_clearCurves (A : Nat → Int32 → Int32) : Option (Int32 × (Nat → Int32 → Int32)) := lp_clearCurves 1000 2 (0 : Int32) A
theorem een_clearCurves (A : Nat → Int32 → Int32) : en_clearCurves A  = lp_clearCurves 1000 2 (0 : Int32) A := Eq.trans rfl rfl
def R_clearCurves (A : Nat → Int32 → Int32) : Int32 × (Nat → Int32 → Int32) := (en_clearCurves A ).getD (0, (fun _ _ => 0))
theorem eR_clearCurves (A : Nat → Int32 → Int32) : R_clearCurves A  = (en_clearCurves A ).getD (0, (fun _ _ => 0)) := Eq.trans rfl rfl
set_option maxRecDepth 65536 in
set_option maxHeartbeats 4000000 in
theorem run_clearCurves {l : Launch} {Z : State} {a0 : Array Value} (H : OK Z a0) (F : Nat → Int32) (G : Nat → Int64) (A : Nat → Int32 → Int32) (B : Nat → Int32 → Int64) (e1 : (en_clearCurves A ).isSome = true) :
    Wk l Z (MoC Z cdC) md_clearCurves 0 [.val (.ref 0), .unset] [] (11, F, G, A, B) 0 0 (fun v w' => v = none ∧ w' = (11, F, G, (R_clearCurves A ).2, B)) := by
  obtain ⟨r, h⟩ := Option.isSome_iff_exists.mp e1
  have e : R_clearCurves A  = r := (eR_clearCurves A ).trans (getD_some h)
  rw [e]
  rw [een_clearCurves] at h
  exact wp_clearCurves H F G A B  ((lpw_clearCurves H F G B _ _ _ _) h)
set_option maxRecDepth 65536 in
set_option maxHeartbeats 4000000 in
theorem wp_accumulate {l : Launch} {Z : State} {a0 : Array Value} (H : OK Z a0) (F : Nat → Int32) (G : Nat → Int64) (A : Nat → Int32 → Int32) (B : Nat → Int32 → Int64) (p1 : Int32) {Q : Option Value → WO → Prop} (h1 : Wk l Z (MoC Z cdC) md_accumulate 4 [.val (.ref 0), .val (.int p1), .val (.int (255 : Int32))] [] (11, F, G, A, B) 0 0 Q) :
    Wk l Z (MoC Z cdC) md_accumulate 0 [.val (.ref 0), .val (.int p1), .unset] [] (11, F, G, A, B) 0 0 Q := by
  refine Wk.sipush o_accumulate_0 (z := (255 : Int32)) (by decide) ?_
  refine Wk.istoreN o_accumulate_3 (Or.inl rfl) (L' := [.val (.ref 0), .val (.int p1), .val (.int (255 : Int32))]) rfl ?_
  exact h1

set_option maxRecDepth 65536 in
set_option maxHeartbeats 4000000 in
theorem wp_accumulate_4 {l : Launch} {Z : State} {a0 : Array Value} (H : OK Z a0) (F : Nat → Int32) (G : Nat → Int64) (A : Nat → Int32 → Int32) (B : Nat → Int32 → Int64) (v1 : Int32) (v2 : Int32) {Q : Option Value → WO → Prop} (h2 : v2 < (1 : Int32) → Wk l Z (MoC Z cdC) md_accumulate 34 [.val (.ref 0), .val (.int v1), .val (.int (1 : Int32))] [] (11, F, G, A, B) 0 0 Q) (s3 : ¬ v2 < (1 : Int32) → ¬ v2 < 0) (s4 : ¬ v2 < (1 : Int32) → v2 < (257 : Int32)) (s5 : ¬ v2 < (1 : Int32) → ¬ (v2 + (1 : Int32)) < 0) (s6 : ¬ v2 < (1 : Int32) → (v2 + (1 : Int32)) < (257 : Int32)) (h7 : ¬ v2 < (1 : Int32) → Wk l Z (MoC Z cdC) md_accumulate 4 [.val (.ref 0), .val (.int v1), .val (.int (v2 + (-1 : Int32)))] [] (11, F, G, (ups A 9 (ups (A 9) v2 (((A 9) v2) + ((A 9) (v2 + (1 : Int32)))))), B) 0 0 Q) :
    Wk l Z (MoC Z cdC) md_accumulate 4 [.val (.ref 0), .val (.int v1), .val (.int v2)] [] (11, F, G, A, B) 0 0 Q := by
  refine Wk.iloadN o_accumulate_4 rfl ?_
  refine Wk.iconst o_accumulate_5 (z := (1 : Int32)) (by decide) ?_
  refine Wk.icmp_lt o_accumulate_6 (fun q1 => ?_) (fun q1 => ?_)
  · refine Wk.iconst o_accumulate_32 (z := (1 : Int32)) (by decide) ?_
    refine Wk.istoreN o_accumulate_33 (Or.inr ⟨_, rfl, rfl⟩) (L' := [.val (.ref 0), .val (.int v1), .val (.int (1 : Int32))]) rfl ?_
    exact (h2 q1)
  · refine Wk.aloadN o_accumulate_9 rfl ?_
    refine Wk.getA (mA_curD) (by decide) (i' := 10) rfl (wf_curD H) o_accumulate_10 ?_
    refine Wk.iloadN o_accumulate_13 rfl ?_
    refine Wk.dup2 o_accumulate_14 rfl rfl ?_
    refine Wk.iaload (mA_curD) (by decide) (i' := 10) rfl (s3 q1) (s4 q1) o_accumulate_15 (y := ((A 9) v2)) rfl ?_
    refine Wk.aloadN o_accumulate_16 rfl ?_
    refine Wk.getA (mA_curD) (by decide) (i' := 10) rfl (wf_curD H) o_accumulate_17 ?_
    refine Wk.iloadN o_accumulate_20 rfl ?_
    refine Wk.iconst o_accumulate_21 (z := (1 : Int32)) (by decide) ?_
    refine Wk.iadd o_accumulate_22 ?_
    refine Wk.iaload (mA_curD) (by decide) (i' := 10) rfl (s5 q1) (s6 q1) o_accumulate_23 (y := ((A 9) (v2 + (1 : Int32)))) rfl ?_
    refine Wk.iadd o_accumulate_24 ?_
    refine Wk.iastore (coC H) (f := (A 9)) (mA_curD) rfl (by decide) (i' := 10) rfl (s3 q1) (s4 q1) o_accumulate_25 ?_
    refine Wk.iinc o_accumulate_26 rfl (z := (v2 + (-1 : Int32))) rfl (L' := [.val (.ref 0), .val (.int v1), .val (.int (v2 + (-1 : Int32)))]) rfl ?_
    refine Wk.goto o_accumulate_29 ?_
    exact (h7 q1)

set_option maxRecDepth 65536 in
set_option maxHeartbeats 4000000 in
theorem wp_accumulate_34 {l : Launch} {Z : State} {a0 : Array Value} (H : OK Z a0) (F : Nat → Int32) (G : Nat → Int64) (A : Nat → Int32 → Int32) (B : Nat → Int32 → Int64) (v1 : Int32) (v2 : Int32) {Q : Option Value → WO → Prop} (h2 : (255 : Int32) < v2 → Q none (11, F, G, A, B)) (s3 : ¬ (255 : Int32) < v2 → ¬ v2 < 0) (s4 : ¬ (255 : Int32) < v2 → v2 < (257 : Int32)) (s5 : ¬ (255 : Int32) < v2 → ¬ (v2 - (1 : Int32)) < 0) (s6 : ¬ (255 : Int32) < v2 → (v2 - (1 : Int32)) < (257 : Int32)) (h7 : ¬ (255 : Int32) < v2 → Wk l Z (MoC Z cdC) md_accumulate 34 [.val (.ref 0), .val (.int v1), .val (.int (v2 + (1 : Int32)))] [] (11, F, G, (ups (ups A 9 (ups (A 9) v2 (((A 9) v2) + v1))) 10 (ups (A 10) v2 (((A 10) v2) + ((A 10) (v2 - (1 : Int32)))))), B) 0 0 Q) :
    Wk l Z (MoC Z cdC) md_accumulate 34 [.val (.ref 0), .val (.int v1), .val (.int v2)] [] (11, F, G, A, B) 0 0 Q := by
  refine Wk.iloadN o_accumulate_34 rfl ?_
  refine Wk.sipush o_accumulate_35 (z := (255 : Int32)) (by decide) ?_
  refine Wk.icmp_gt o_accumulate_38 (fun q1 => ?_) (fun q1 => ?_)
  · exact Wk.ret mrC rfl o_accumulate_74 rfl (by decide) (by decide) (h2 q1)
  · refine Wk.aloadN o_accumulate_41 rfl ?_
    refine Wk.getA (mA_curD) (by decide) (i' := 10) rfl (wf_curD H) o_accumulate_42 ?_
    refine Wk.iloadN o_accumulate_45 rfl ?_
    refine Wk.dup2 o_accumulate_46 rfl rfl ?_
    refine Wk.iaload (mA_curD) (by decide) (i' := 10) rfl (s3 q1) (s4 q1) o_accumulate_47 (y := ((A 9) v2)) rfl ?_
    refine Wk.iloadN o_accumulate_48 rfl ?_
    refine Wk.iadd o_accumulate_49 ?_
    refine Wk.iastore (coC H) (f := (A 9)) (mA_curD) rfl (by decide) (i' := 10) rfl (s3 q1) (s4 q1) o_accumulate_50 ?_
    refine Wk.aloadN o_accumulate_51 rfl ?_
    refine Wk.getA (mA_curS) (by decide) (i' := 11) rfl (wf_curS H) o_accumulate_52 ?_
    refine Wk.iloadN o_accumulate_55 rfl ?_
    refine Wk.dup2 o_accumulate_56 rfl rfl ?_
    refine Wk.iaload (mA_curS) (by decide) (i' := 11) rfl (s3 q1) (s4 q1) o_accumulate_57 (y := ((A 10) v2)) rfl ?_
    refine Wk.aloadN o_accumulate_58 rfl ?_
    refine Wk.getA (mA_curS) (by decide) (i' := 11) rfl (wf_curS H) o_accumulate_59 ?_
    refine Wk.iloadN o_accumulate_62 rfl ?_
    refine Wk.iconst o_accumulate_63 (z := (1 : Int32)) (by decide) ?_
    refine Wk.isub o_accumulate_64 ?_
    refine Wk.iaload (mA_curS) (by decide) (i' := 11) rfl (s5 q1) (s6 q1) o_accumulate_65 (y := ((A 10) (v2 - (1 : Int32)))) rfl ?_
    refine Wk.iadd o_accumulate_66 ?_
    refine Wk.iastore (coC H) (f := (A 10)) (mA_curS) rfl (by decide) (i' := 11) rfl (s3 q1) (s4 q1) o_accumulate_67 ?_
    refine Wk.iinc o_accumulate_68 rfl (z := (v2 + (1 : Int32))) rfl (L' := [.val (.ref 0), .val (.int v1), .val (.int (v2 + (1 : Int32)))]) rfl ?_
    refine Wk.goto o_accumulate_71 ?_
    exact (h7 q1)

theorem rt_accumulate (F : Nat → Int32) (G : Nat → Int64) (B : Nat → Int32 → Int64) (v0 : Int32) (xA : Nat → Int32 → Int32) (r : Int32 × (Nat → Int32 → Int32)) (e : (v0, xA) = r) : (none : Option Value) = none ∧ (11, F, G, xA, B) = (11, F, G, r.2, B) := by subst e; exact ⟨rfl, rfl⟩
def lp_accumulate : Nat → Nat → Int32 → Int32 → (Nat → Int32 → Int32) → Option (Int32 × (Nat → Int32 → Int32))
  | 0, _, _, _, _ => none
  | n + 1, tag, v1, v2, A => if tag = 4 then (if v2 < (1 : Int32) then lp_accumulate n 34 v1 (1 : Int32) A else (if (¬ v2 < 0) ∧ (v2 < (257 : Int32)) ∧ (¬ (v2 + (1 : Int32)) < 0) ∧ ((v2 + (1 : Int32)) < (257 : Int32)) then lp_accumulate n 4 v1 (v2 + (-1 : Int32)) (ups A 9 (ups (A 9) v2 (((A 9) v2) + ((A 9) (v2 + (1 : Int32)))))) else none)) else if tag = 34 then (if (255 : Int32) < v2 then some ((0 : Int32), A) else (if (¬ v2 < 0) ∧ (v2 < (257 : Int32)) ∧ (¬ (v2 - (1 : Int32)) < 0) ∧ ((v2 - (1 : Int32)) < (257 : Int32)) then lp_accumulate n 34 v1 (v2 + (1 : Int32)) (ups (ups A 9 (ups (A 9) v2 (((A 9) v2) + v1))) 10 (ups (A 10) v2 (((A 10) v2) + ((A 10) (v2 - (1 : Int32)))))) else none)) else none
theorem lp_accumulate_z (tag : Nat) (v1 : Int32) (v2 : Int32) (A : Nat → Int32 → Int32) : lp_accumulate 0 tag v1 v2 A = none := Eq.trans rfl rfl
theorem lp_accumulate_4 (n : Nat) (v1 : Int32) (v2 : Int32) (A : Nat → Int32 → Int32) : lp_accumulate (n + 1) 4 v1 v2 A = (if v2 < (1 : Int32) then lp_accumulate n 34 v1 (1 : Int32) A else (if (¬ v2 < 0) ∧ (v2 < (257 : Int32)) ∧ (¬ (v2 + (1 : Int32)) < 0) ∧ ((v2 + (1 : Int32)) < (257 : Int32)) then lp_accumulate n 4 v1 (v2 + (-1 : Int32)) (ups A 9 (ups (A 9) v2 (((A 9) v2) + ((A 9) (v2 + (1 : Int32)))))) else none)) := by
  rw [lp_accumulate, if_pos rfl]
theorem lp_accumulate_34 (n : Nat) (v1 : Int32) (v2 : Int32) (A : Nat → Int32 → Int32) : lp_accumulate (n + 1) 34 v1 v2 A = (if (255 : Int32) < v2 then some ((0 : Int32), A) else (if (¬ v2 < 0) ∧ (v2 < (257 : Int32)) ∧ (¬ (v2 - (1 : Int32)) < 0) ∧ ((v2 - (1 : Int32)) < (257 : Int32)) then lp_accumulate n 34 v1 (v2 + (1 : Int32)) (ups (ups A 9 (ups (A 9) v2 (((A 9) v2) + v1))) 10 (ups (A 10) v2 (((A 10) v2) + ((A 10) (v2 - (1 : Int32)))))) else none)) := by
  rw [lp_accumulate, if_neg (by decide), if_pos rfl]
set_option maxRecDepth 65536 in
set_option maxHeartbeats 4000000 in
theorem lpw_accumulate {l : Launch} {Z : State} {a0 : Array Value} (H : OK Z a0) (F : Nat → Int32) (G : Nat → Int64) (B : Nat → Int32 → Int64) : ∀ (n : Nat) (v1 : Int32) (v2 : Int32) (A : Nat → Int32 → Int32) (r : Int32 × (Nat → Int32 → Int32)), (lp_accumulate n 4 v1 v2 A = some r → Wk l Z (MoC Z cdC) md_accumulate 4 [.val (.ref 0), .val (.int v1), .val (.int v2)] [] (11, F, G, A, B) 0 0 (fun v w' => v = none ∧ w' = (11, F, G, r.2, B))) ∧ (lp_accumulate n 34 v1 v2 A = some r → Wk l Z (MoC Z cdC) md_accumulate 34 [.val (.ref 0), .val (.int v1), .val (.int v2)] [] (11, F, G, A, B) 0 0 (fun v w' => v = none ∧ w' = (11, F, G, r.2, B))) := by
  intro n
  induction n with
  | zero =>
    intro v1 v2 A r
    exact ⟨(fun h => by rw [lp_accumulate_z] at h; cases h), (fun h => by rw [lp_accumulate_z] at h; cases h)⟩
  | succ n ih =>
    intro v1 v2 A r
    refine ⟨fun h => ?_, fun h => ?_⟩
    · rw [lp_accumulate_4] at h
      exact wp_accumulate_4 H F G A B v1 v2 (fun q1 => (ih _ _ _ _).2 (ifp q1 h)) (fun q1 => (gd (ifn q1 h)).1.1) (fun q1 => (gd (ifn q1 h)).1.2.1) (fun q1 => (gd (ifn q1 h)).1.2.2.1) (fun q1 => (gd (ifn q1 h)).1.2.2.2) (fun q1 => (ih _ _ _ _).1 (gd (ifn q1 h)).2)
    · rw [lp_accumulate_34] at h
      exact wp_accumulate_34 H F G A B v1 v2 (fun q1 => (rt_accumulate _ _ _ _ _ r (Option.some.inj (ifp q1 h)))) (fun q1 => (gd (ifn q1 h)).1.1) (fun q1 => (gd (ifn q1 h)).1.2.1) (fun q1 => (gd (ifn q1 h)).1.2.2.1) (fun q1 => (gd (ifn q1 h)).1.2.2.2) (fun q1 => (ih _ _ _ _).2 (gd (ifn q1 h)).2)
def en_accumulate (A : Nat → Int32 → Int32) (p1 : Int32) : Option (Int32 × (Nat → Int32 → Int32)) := lp_accumulate 1000 4 p1 (255 : Int32) A
theorem een_accumulate (A : Nat → Int32 → Int32) (p1 : Int32) : en_accumulate A p1 = lp_accumulate 1000 4 p1 (255 : Int32) A := Eq.trans rfl rfl
def R_accumulate (A : Nat → Int32 → Int32) (p1 : Int32) : Int32 × (Nat → Int32 → Int32) := (en_accumulate A p1).getD (0, (fun _ _ => 0))
theorem eR_accumulate (A : Nat → Int32 → Int32) (p1 : Int32) : R_accumulate A p1 = (en_accumulate A p1).getD (0, (fun _ _ => 0)) := Eq.trans rfl rfl
set_option maxRecDepth 65536 in
set_option maxHeartbeats 4000000 in
theorem run_accumulate {l : Launch} {Z : State} {a0 : Array Value} (H : OK Z a0) (F : Nat → Int32) (G : Nat → Int64) (A : Nat → Int32 → Int32) (B : Nat → Int32 → Int64) (p1 : Int32) (e1 : (en_accumulate A p1).isSome = true) :
    Wk l Z (MoC Z cdC) md_accumulate 0 [.val (.ref 0), .val (.int p1), .unset] [] (11, F, G, A, B) 0 0 (fun v w' => v = none ∧ w' = (11, F, G, (R_accumulate A p1).2, B)) := by
  obtain ⟨r, h⟩ := Option.isSome_iff_exists.mp e1
  have e : R_accumulate A p1 = r := (eR_accumulate A p1).trans (getD_some h)
  rw [e]
  rw [een_accumulate] at h
  exact wp_accumulate H F G A B p1 ((lpw_accumulate H F G B _ _ _ _ _).1 h)
set_option maxRecDepth 65536 in
set_option maxHeartbeats 4000000 in
theorem wp_buildCurves {l : Launch} {Z : State} {a0 : Array Value} (H : OK Z a0) (F : Nat → Int32) (G : Nat → Int64) (A : Nat → Int32 → Int32) (B : Nat → Int32 → Int64) {Q : Option Value → WO → Prop} (s1 : (en_clearCurves A ).isSome = true) (h2 : Wk l Z (MoC Z cdC) md_buildCurves 8 [.val (.ref 0), .val (.int (0 : Int32)), .val (.int (0 : Int32)), .unset] [] (11, F, G, (R_clearCurves A ).2, B) 0 0 Q) :
    Wk l Z (MoC Z cdC) md_buildCurves 0 [.val (.ref 0), .unset, .unset, .unset] [] (11, F, G, A, B) 0 0 Q := by
  refine Wk.aloadN o_buildCurves_0 rfl ?_
  refine Wk.callU [] [] (H.w 72 rfl) (cv_clearCurves H) o_buildCurves_1 (run_clearCurves H F G A B s1) (wt := 0) (cu' := 0) (su' := 0) (by decide) rfl rfl rfl rfl rfl rfl rfl ?_
  refine Wk.iconst o_buildCurves_4 (z := (0 : Int32)) (by decide) ?_
  refine Wk.istoreN o_buildCurves_5 (Or.inl rfl) (L' := [.val (.ref 0), .val (.int (0 : Int32)), .unset, .unset]) rfl ?_
  refine Wk.iconst o_buildCurves_6 (z := (0 : Int32)) (by decide) ?_
  refine Wk.istoreN o_buildCurves_7 (Or.inl rfl) (L' := [.val (.ref 0), .val (.int (0 : Int32)), .val (.int (0 : Int32)), .unset]) rfl ?_
  exact h2

set_option maxRecDepth 65536 in
set_option maxHeartbeats 4000000 in
theorem wp_buildCurves_8 {l : Launch} {Z : State} {a0 : Array Value} (H : OK Z a0) (F : Nat → Int32) (G : Nat → Int64) (A : Nat → Int32 → Int32) (B : Nat → Int32 → Int64) (v1 : Int32) (v2 : Int32) {Q : Option Value → WO → Prop} (s2 : ¬ v2 < (F 0) → (en_accumulate A v1).isSome = true) (h3 : ¬ v2 < (F 0) → Q none (11, F, G, (R_accumulate A v1).2, B)) (s4 : v2 < (F 0) → ¬ v2 < 0) (s5 : v2 < (F 0) → v2 < (64 : Int32)) (s136 : v2 < (F 0) → ((A 0) v2) = (1 : Int32) → ¬ v2 < 0) (s137 : v2 < (F 0) → ((A 0) v2) = (1 : Int32) → v2 < (64 : Int32)) (h202 : v2 < (F 0) → ((A 0) v2) = (1 : Int32) → ((A 3) v2) < 0 → Wk l Z (MoC Z cdC) md_buildCurves 8 [.val (.ref 0), .val (.int v1), .val (.int (v2 + (1 : Int32))), .unset] [] (11, F, G, A, B) 0 0 Q) (s235 : v2 < (F 0) → ((A 0) v2) = (1 : Int32) → ¬ ((A 3) v2) < 0 → ¬ (255 : Int32) < ((A 3) v2) → ¬ v2 < 0) (s236 : v2 < (F 0) → ((A 0) v2) = (1 : Int32) → ¬ ((A 3) v2) < 0 → ¬ (255 : Int32) < ((A 3) v2) → v2 < (64 : Int32)) (s252 : v2 < (F 0) → ((A 0) v2) = (1 : Int32) → ¬ ((A 3) v2) < 0 → ¬ (255 : Int32) < ((A 3) v2) → ¬ ((A 2) v2) = 0 → ((A 3) v2) < (257 : Int32)) (s253 : v2 < (F 0) → ((A 0) v2) = (1 : Int32) → ¬ ((A 3) v2) < 0 → ¬ (255 : Int32) < ((A 3) v2) → ¬ ((A 2) v2) = 0 → ¬ v2 < 0) (s254 : v2 < (F 0) → ((A 0) v2) = (1 : Int32) → ¬ ((A 3) v2) < 0 → ¬ (255 : Int32) < ((A 3) v2) → ¬ ((A 2) v2) = 0 → v2 < (64 : Int32)) (h255 : v2 < (F 0) → ((A 0) v2) = (1 : Int32) → ¬ ((A 3) v2) < 0 → ¬ (255 : Int32) < ((A 3) v2) → ¬ ((A 2) v2) = 0 → Wk l Z (MoC Z cdC) md_buildCurves 8 [.val (.ref 0), .val (.int v1), .val (.int (v2 + (1 : Int32))), .unset] [] (11, F, G, (ups A 10 (ups (A 10) ((A 3) v2) (((A 10) ((A 3) v2)) + ((A 4) v2)))), B) 0 0 Q) (s262 : v2 < (F 0) → ((A 0) v2) = (1 : Int32) → ¬ ((A 3) v2) < 0 → ¬ (255 : Int32) < ((A 3) v2) → ((A 2) v2) = 0 → ¬ ((A 3) v2) = 0 → ((A 3) v2) < (257 : Int32)) (s263 : v2 < (F 0) → ((A 0) v2) = (1 : Int32) → ¬ ((A 3) v2) < 0 → ¬ (255 : Int32) < ((A 3) v2) → ((A 2) v2) = 0 → ¬ ((A 3) v2) = 0 → ¬ v2 < 0) (s264 : v2 < (F 0) → ((A 0) v2) = (1 : Int32) → ¬ ((A 3) v2) < 0 → ¬ (255 : Int32) < ((A 3) v2) → ((A 2) v2) = 0 → ¬ ((A 3) v2) = 0 → v2 < (64 : Int32)) (h265 : v2 < (F 0) → ((A 0) v2) = (1 : Int32) → ¬ ((A 3) v2) < 0 → ¬ (255 : Int32) < ((A 3) v2) → ((A 2) v2) = 0 → ¬ ((A 3) v2) = 0 → Wk l Z (MoC Z cdC) md_buildCurves 8 [.val (.ref 0), .val (.int v1), .val (.int (v2 + (1 : Int32))), .unset] [] (11, F, G, (ups A 9 (ups (A 9) ((A 3) v2) (((A 9) ((A 3) v2)) + ((A 4) v2)))), B) 0 0 Q) (s266 : v2 < (F 0) → ((A 0) v2) = (1 : Int32) → ¬ ((A 3) v2) < 0 → ¬ (255 : Int32) < ((A 3) v2) → ((A 2) v2) = 0 → ((A 3) v2) = 0 → ¬ v2 < 0) (s267 : v2 < (F 0) → ((A 0) v2) = (1 : Int32) → ¬ ((A 3) v2) < 0 → ¬ (255 : Int32) < ((A 3) v2) → ((A 2) v2) = 0 → ((A 3) v2) = 0 → v2 < (64 : Int32)) (h268 : v2 < (F 0) → ((A 0) v2) = (1 : Int32) → ¬ ((A 3) v2) < 0 → ¬ (255 : Int32) < ((A 3) v2) → ((A 2) v2) = 0 → ((A 3) v2) = 0 → Wk l Z (MoC Z cdC) md_buildCurves 8 [.val (.ref 0), .val (.int (v1 + ((A 4) v2))), .val (.int (v2 + (1 : Int32))), .unset] [] (11, F, G, A, B) 0 0 Q) (h269 : v2 < (F 0) → ((A 0) v2) = (1 : Int32) → ¬ ((A 3) v2) < 0 → (255 : Int32) < ((A 3) v2) → Wk l Z (MoC Z cdC) md_buildCurves 8 [.val (.ref 0), .val (.int v1), .val (.int (v2 + (1 : Int32))), .unset] [] (11, F, G, A, B) 0 0 Q) (h270 : v2 < (F 0) → ¬ ((A 0) v2) = (1 : Int32) → Wk l Z (MoC Z cdC) md_buildCurves 8 [.val (.ref 0), .val (.int v1), .val (.int (v2 + (1 : Int32))), .unset] [] (11, F, G, A, B) 0 0 Q) :
    Wk l Z (MoC Z cdC) md_buildCurves 8 [.val (.ref 0), .val (.int v1), .val (.int v2), .unset] [] (11, F, G, A, B) 0 0 Q := by
  refine Wk.iloadN o_buildCurves_8 rfl ?_
  refine Wk.aloadN o_buildCurves_9 rfl ?_
  refine Wk.getI (mI_cap) (wf_cap H) o_buildCurves_10 (x := (F 0)) rfl ?_
  refine Wk.icmp_ge o_buildCurves_13 (fun q1 => ?_) (fun q1 => ?_)
  · refine Wk.aloadN o_buildCurves_114 rfl ?_
    refine Wk.iloadN o_buildCurves_115 rfl ?_
    refine Wk.callU [.int v1] [] (H.w 76 rfl) (cv_accumulate H) o_buildCurves_116 (run_accumulate H F G A B v1 (s2 q1)) (wt := 0) (cu' := 0) (su' := 0) (by decide) rfl rfl rfl rfl rfl rfl rfl ?_
    exact Wk.ret mrC rfl o_buildCurves_119 rfl (by decide) (by decide) (h3 q1)
  · refine Wk.aloadN o_buildCurves_16 rfl ?_
    refine Wk.getA (mA_st) (by decide) (i' := 1) rfl (wf_st H) o_buildCurves_17 ?_
    refine Wk.iloadN o_buildCurves_20 rfl ?_
    refine Wk.iaload (mA_st) (by decide) (i' := 1) rfl (s4 q1) (s5 q1) o_buildCurves_21 (y := ((A 0) v2)) rfl ?_
    refine Wk.iconst o_buildCurves_22 (z := (1 : Int32)) (by decide) ?_
    refine Wk.icmp_eq o_buildCurves_23 (fun q6 => ?_) (fun q6 => ?_)
    · refine Wk.aloadN o_buildCurves_29 rfl ?_
      refine Wk.getA (mA_pr) (by decide) (i' := 4) rfl (wf_pr H) o_buildCurves_30 ?_
      refine Wk.iloadN o_buildCurves_33 rfl ?_
      refine Wk.iaload (mA_pr) (by decide) (i' := 4) rfl (s136 q1 q6) (s137 q1 q6) o_buildCurves_34 (y := ((A 3) v2)) rfl ?_
      refine Wk.istoreN o_buildCurves_35 (Or.inl rfl) (L' := [.val (.ref 0), .val (.int v1), .val (.int v2), .val (.int ((A 3) v2))]) rfl ?_
      refine Wk.iloadN o_buildCurves_36 rfl ?_
      refine Wk.if_lt o_buildCurves_37 (fun q138 => ?_) (fun q138 => ?_)
      · refine Wk.iinc o_buildCurves_108 rfl (z := (v2 + (1 : Int32))) rfl (L' := [.val (.ref 0), .val (.int v1), .val (.int (v2 + (1 : Int32))), .val (.int ((A 3) v2))]) rfl ?_
        refine Wk.goto o_buildCurves_111 ?_
        refine Wk.forget [false, false, false, true] (L' := [.val (.ref 0), .val (.int v1), .val (.int (v2 + (1 : Int32))), .unset]) rfl rfl ?_
        exact (h202 q1 q6 q138)
      · refine Wk.iloadN o_buildCurves_40 rfl ?_
        refine Wk.sipush o_buildCurves_41 (z := (255 : Int32)) (by decide) ?_
        refine Wk.icmp_le o_buildCurves_44 (fun q203 => ?_) (fun q203 => ?_)
        · refine Wk.aloadN o_buildCurves_50 rfl ?_
          refine Wk.getA (mA_sd) (by decide) (i' := 3) rfl (wf_sd H) o_buildCurves_51 ?_
          refine Wk.iloadN o_buildCurves_54 rfl ?_
          refine Wk.iaload (mA_sd) (by decide) (i' := 3) rfl (s235 q1 q6 q138 q203) (s236 q1 q6 q138 q203) o_buildCurves_55 (y := ((A 2) v2)) rfl ?_
          refine Wk.if_ne o_buildCurves_56 (fun q237 => ?_) (fun q237 => ?_)
          · refine Wk.aloadN o_buildCurves_93 rfl ?_
            refine Wk.getA (mA_curS) (by decide) (i' := 11) rfl (wf_curS H) o_buildCurves_94 ?_
            refine Wk.iloadN o_buildCurves_97 rfl ?_
            refine Wk.dup2 o_buildCurves_98 rfl rfl ?_
            refine Wk.iaload (mA_curS) (by decide) (i' := 11) rfl q138 (s252 q1 q6 q138 q203 q237) o_buildCurves_99 (y := ((A 10) ((A 3) v2))) rfl ?_
            refine Wk.aloadN o_buildCurves_100 rfl ?_
            refine Wk.getA (mA_rem) (by decide) (i' := 5) rfl (wf_rem H) o_buildCurves_101 ?_
            refine Wk.iloadN o_buildCurves_104 rfl ?_
            refine Wk.iaload (mA_rem) (by decide) (i' := 5) rfl (s253 q1 q6 q138 q203 q237) (s254 q1 q6 q138 q203 q237) o_buildCurves_105 (y := ((A 4) v2)) rfl ?_
            refine Wk.iadd o_buildCurves_106 ?_
            refine Wk.iastore (coC H) (f := (A 10)) (mA_curS) rfl (by decide) (i' := 11) rfl q138 (s252 q1 q6 q138 q203 q237) o_buildCurves_107 ?_
            refine Wk.iinc o_buildCurves_108 rfl (z := (v2 + (1 : Int32))) rfl (L' := [.val (.ref 0), .val (.int v1), .val (.int (v2 + (1 : Int32))), .val (.int ((A 3) v2))]) rfl ?_
            refine Wk.goto o_buildCurves_111 ?_
            refine Wk.forget [false, false, false, true] (L' := [.val (.ref 0), .val (.int v1), .val (.int (v2 + (1 : Int32))), .unset]) rfl rfl ?_
            exact (h255 q1 q6 q138 q203 q237)
          · refine Wk.iloadN o_buildCurves_59 rfl ?_
            refine Wk.if_ne o_buildCurves_60 (fun q256 => ?_) (fun q256 => ?_)
            · refine Wk.aloadN o_buildCurves_75 rfl ?_
              refine Wk.getA (mA_curD) (by decide) (i' := 10) rfl (wf_curD H) o_buildCurves_76 ?_
              refine Wk.iloadN o_buildCurves_79 rfl ?_
              refine Wk.dup2 o_buildCurves_80 rfl rfl ?_
              refine Wk.iaload (mA_curD) (by decide) (i' := 10) rfl q138 (s262 q1 q6 q138 q203 q237 q256) o_buildCurves_81 (y := ((A 9) ((A 3) v2))) rfl ?_
              refine Wk.aloadN o_buildCurves_82 rfl ?_
              refine Wk.getA (mA_rem) (by decide) (i' := 5) rfl (wf_rem H) o_buildCurves_83 ?_
              refine Wk.iloadN o_buildCurves_86 rfl ?_
              refine Wk.iaload (mA_rem) (by decide) (i' := 5) rfl (s263 q1 q6 q138 q203 q237 q256) (s264 q1 q6 q138 q203 q237 q256) o_buildCurves_87 (y := ((A 4) v2)) rfl ?_
              refine Wk.iadd o_buildCurves_88 ?_
              refine Wk.iastore (coC H) (f := (A 9)) (mA_curD) rfl (by decide) (i' := 10) rfl q138 (s262 q1 q6 q138 q203 q237 q256) o_buildCurves_89 ?_
              refine Wk.goto o_buildCurves_90 ?_
              refine Wk.iinc o_buildCurves_108 rfl (z := (v2 + (1 : Int32))) rfl (L' := [.val (.ref 0), .val (.int v1), .val (.int (v2 + (1 : Int32))), .val (.int ((A 3) v2))]) rfl ?_
              refine Wk.goto o_buildCurves_111 ?_
              refine Wk.forget [false, false, false, true] (L' := [.val (.ref 0), .val (.int v1), .val (.int (v2 + (1 : Int32))), .unset]) rfl rfl ?_
              exact (h265 q1 q6 q138 q203 q237 q256)
            · refine Wk.iloadN o_buildCurves_63 rfl ?_
              refine Wk.aloadN o_buildCurves_64 rfl ?_
              refine Wk.getA (mA_rem) (by decide) (i' := 5) rfl (wf_rem H) o_buildCurves_65 ?_
              refine Wk.iloadN o_buildCurves_68 rfl ?_
              refine Wk.iaload (mA_rem) (by decide) (i' := 5) rfl (s266 q1 q6 q138 q203 q237 q256) (s267 q1 q6 q138 q203 q237 q256) o_buildCurves_69 (y := ((A 4) v2)) rfl ?_
              refine Wk.iadd o_buildCurves_70 ?_
              refine Wk.istoreN o_buildCurves_71 (Or.inr ⟨_, rfl, rfl⟩) (L' := [.val (.ref 0), .val (.int (v1 + ((A 4) v2))), .val (.int v2), .val (.int ((A 3) v2))]) rfl ?_
              refine Wk.goto o_buildCurves_72 ?_
              refine Wk.iinc o_buildCurves_108 rfl (z := (v2 + (1 : Int32))) rfl (L' := [.val (.ref 0), .val (.int (v1 + ((A 4) v2))), .val (.int (v2 + (1 : Int32))), .val (.int ((A 3) v2))]) rfl ?_
              refine Wk.goto o_buildCurves_111 ?_
              refine Wk.forget [false, false, false, true] (L' := [.val (.ref 0), .val (.int (v1 + ((A 4) v2))), .val (.int (v2 + (1 : Int32))), .unset]) rfl rfl ?_
              exact (h268 q1 q6 q138 q203 q237 q256)
        · refine Wk.goto o_buildCurves_47 ?_
          refine Wk.iinc o_buildCurves_108 rfl (z := (v2 + (1 : Int32))) rfl (L' := [.val (.ref 0), .val (.int v1), .val (.int (v2 + (1 : Int32))), .val (.int ((A 3) v2))]) rfl ?_
          refine Wk.goto o_buildCurves_111 ?_
          refine Wk.forget [false, false, false, true] (L' := [.val (.ref 0), .val (.int v1), .val (.int (v2 + (1 : Int32))), .unset]) rfl rfl ?_
          exact (h269 q1 q6 q138 q203)
    · refine Wk.goto o_buildCurves_26 ?_
      refine Wk.iinc o_buildCurves_108 rfl (z := (v2 + (1 : Int32))) rfl (L' := [.val (.ref 0), .val (.int v1), .val (.int (v2 + (1 : Int32))), .unset]) rfl ?_
      refine Wk.goto o_buildCurves_111 ?_
      exact (h270 q1 q6)

theorem rt_buildCurves (F : Nat → Int32) (G : Nat → Int64) (B : Nat → Int32 → Int64) (v0 : Int32) (xA : Nat → Int32 → Int32) (r : Int32 × (Nat → Int32 → Int32)) (e : (v0, xA) = r) : (none : Option Value) = none ∧ (11, F, G, xA, B) = (11, F, G, r.2, B) := by subst e; exact ⟨rfl, rfl⟩
def lp_buildCurves : Nat → Nat → Int32 → Int32 → (Nat → Int32) → (Nat → Int32 → Int32) → Option (Int32 × (Nat → Int32 → Int32))
  | 0, _, _, _, _, _ => none
  | n + 1, tag, v1, v2, F, A => if tag = 8 then (if v2 < (F 0) then (if (¬ v2 < 0) ∧ (v2 < (64 : Int32)) then (if ((A 0) v2) = (1 : Int32) then (if (¬ v2 < 0) ∧ (v2 < (64 : Int32)) then (if ((A 3) v2) < 0 then lp_buildCurves n 8 v1 (v2 + (1 : Int32)) F A else (if (255 : Int32) < ((A 3) v2) then lp_buildCurves n 8 v1 (v2 + (1 : Int32)) F A else (if (¬ v2 < 0) ∧ (v2 < (64 : Int32)) then (if ((A 2) v2) = 0 then (if ((A 3) v2) = 0 then (if (¬ v2 < 0) ∧ (v2 < (64 : Int32)) then lp_buildCurves n 8 (v1 + ((A 4) v2)) (v2 + (1 : Int32)) F A else none) else (if (((A 3) v2) < (257 : Int32)) ∧ (¬ v2 < 0) ∧ (v2 < (64 : Int32)) then lp_buildCurves n 8 v1 (v2 + (1 : Int32)) F (ups A 9 (ups (A 9) ((A 3) v2) (((A 9) ((A 3) v2)) + ((A 4) v2)))) else none)) else (if (((A 3) v2) < (257 : Int32)) ∧ (¬ v2 < 0) ∧ (v2 < (64 : Int32)) then lp_buildCurves n 8 v1 (v2 + (1 : Int32)) F (ups A 10 (ups (A 10) ((A 3) v2) (((A 10) ((A 3) v2)) + ((A 4) v2)))) else none)) else none))) else none) else lp_buildCurves n 8 v1 (v2 + (1 : Int32)) F A) else none) else (if ((en_accumulate A v1).isSome = true) then some ((0 : Int32), (R_accumulate A v1).2) else none)) else none
theorem lp_buildCurves_z (tag : Nat) (v1 : Int32) (v2 : Int32) (F : Nat → Int32) (A : Nat → Int32 → Int32) : lp_buildCurves 0 tag v1 v2 F A = none := Eq.trans rfl rfl
theorem lp_buildCurves_8 (n : Nat) (v1 : Int32) (v2 : Int32) (F : Nat → Int32) (A : Nat → Int32 → Int32) : lp_buildCurves (n + 1) 8 v1 v2 F A = (if v2 < (F 0) then (if (¬ v2 < 0) ∧ (v2 < (64 : Int32)) then (if ((A 0) v2) = (1 : Int32) then (if (¬ v2 < 0) ∧ (v2 < (64 : Int32)) then (if ((A 3) v2) < 0 then lp_buildCurves n 8 v1 (v2 + (1 : Int32)) F A else (if (255 : Int32) < ((A 3) v2) then lp_buildCurves n 8 v1 (v2 + (1 : Int32)) F A else (if (¬ v2 < 0) ∧ (v2 < (64 : Int32)) then (if ((A 2) v2) = 0 then (if ((A 3) v2) = 0 then (if (¬ v2 < 0) ∧ (v2 < (64 : Int32)) then lp_buildCurves n 8 (v1 + ((A 4) v2)) (v2 + (1 : Int32)) F A else none) else (if (((A 3) v2) < (257 : Int32)) ∧ (¬ v2 < 0) ∧ (v2 < (64 : Int32)) then lp_buildCurves n 8 v1 (v2 + (1 : Int32)) F (ups A 9 (ups (A 9) ((A 3) v2) (((A 9) ((A 3) v2)) + ((A 4) v2)))) else none)) else (if (((A 3) v2) < (257 : Int32)) ∧ (¬ v2 < 0) ∧ (v2 < (64 : Int32)) then lp_buildCurves n 8 v1 (v2 + (1 : Int32)) F (ups A 10 (ups (A 10) ((A 3) v2) (((A 10) ((A 3) v2)) + ((A 4) v2)))) else none)) else none))) else none) else lp_buildCurves n 8 v1 (v2 + (1 : Int32)) F A) else none) else (if ((en_accumulate A v1).isSome = true) then some ((0 : Int32), (R_accumulate A v1).2) else none)) := by
  rw [lp_buildCurves, if_pos rfl]
set_option maxRecDepth 65536 in
set_option maxHeartbeats 4000000 in
theorem lpw_buildCurves {l : Launch} {Z : State} {a0 : Array Value} (H : OK Z a0) (F : Nat → Int32) (G : Nat → Int64) (B : Nat → Int32 → Int64) : ∀ (n : Nat) (v1 : Int32) (v2 : Int32) (A : Nat → Int32 → Int32) (r : Int32 × (Nat → Int32 → Int32)), (lp_buildCurves n 8 v1 v2 F A = some r → Wk l Z (MoC Z cdC) md_buildCurves 8 [.val (.ref 0), .val (.int v1), .val (.int v2), .unset] [] (11, F, G, A, B) 0 0 (fun v w' => v = none ∧ w' = (11, F, G, r.2, B))) := by
  intro n
  induction n with
  | zero =>
    intro v1 v2 A r
    exact (fun h => by rw [lp_buildCurves_z] at h; cases h)
  | succ n ih =>
    intro v1 v2 A r
    refine fun h => ?_
    · rw [lp_buildCurves_8] at h
      exact wp_buildCurves_8 H F G A B v1 v2 (fun q1 => (gd (ifn q1 h)).1) (fun q1 => (rt_buildCurves _ _ _ _ _ r (Option.some.inj (gd (ifn q1 h)).2))) (fun q1 => (gd (ifp q1 h)).1.1) (fun q1 => (gd (ifp q1 h)).1.2) (fun q1 q6 => (gd (ifp q6 (gd (ifp q1 h)).2)).1.1) (fun q1 q6 => (gd (ifp q6 (gd (ifp q1 h)).2)).1.2) (fun q1 q6 q138 => (ih _ _ _ _) (ifp q138 (gd (ifp q6 (gd (ifp q1 h)).2)).2)) (fun q1 q6 q138 q203 => (gd (ifn q203 (ifn q138 (gd (ifp q6 (gd (ifp q1 h)).2)).2))).1.1) (fun q1 q6 q138 q203 => (gd (ifn q203 (ifn q138 (gd (ifp q6 (gd (ifp q1 h)).2)).2))).1.2) (fun q1 q6 q138 q203 q237 => (gd (ifn q237 (gd (ifn q203 (ifn q138 (gd (ifp q6 (gd (ifp q1 h)).2)).2))).2)).1.1) (fun q1 q6 q138 q203 q237 => (gd (ifn q237 (gd (ifn q203 (ifn q138 (gd (ifp q6 (gd (ifp q1 h)).2)).2))).2)).1.2.1) (fun q1 q6 q138 q203 q237 => (gd (ifn q237 (gd (ifn q203 (ifn q138 (gd (ifp q6 (gd (ifp q1 h)).2)).2))).2)).1.2.2) (fun q1 q6 q138 q203 q237 => (ih _ _ _ _) (gd (ifn q237 (gd (ifn q203 (ifn q138 (gd (ifp q6 (gd (ifp q1 h)).2)).2))).2)).2) (fun q1 q6 q138 q203 q237 q256 => (gd (ifn q256 (ifp q237 (gd (ifn q203 (ifn q138 (gd (ifp q6 (gd (ifp q1 h)).2)).2))).2))).1.1) (fun q1 q6 q138 q203 q237 q256 => (gd (ifn q256 (ifp q237 (gd (ifn q203 (ifn q138 (gd (ifp q6 (gd (ifp q1 h)).2)).2))).2))).1.2.1) (fun q1 q6 q138 q203 q237 q256 => (gd (ifn q256 (ifp q237 (gd (ifn q203 (ifn q138 (gd (ifp q6 (gd (ifp q1 h)).2)).2))).2))).1.2.2) (fun q1 q6 q138 q203 q237 q256 => (ih _ _ _ _) (gd (ifn q256 (ifp q237 (gd (ifn q203 (ifn q138 (gd (ifp q6 (gd (ifp q1 h)).2)).2))).2))).2) (fun q1 q6 q138 q203 q237 q256 => (gd (ifp q256 (ifp q237 (gd (ifn q203 (ifn q138 (gd (ifp q6 (gd (ifp q1 h)).2)).2))).2))).1.1) (fun q1 q6 q138 q203 q237 q256 => (gd (ifp q256 (ifp q237 (gd (ifn q203 (ifn q138 (gd (ifp q6 (gd (ifp q1 h)).2)).2))).2))).1.2) (fun q1 q6 q138 q203 q237 q256 => (ih _ _ _ _) (gd (ifp q256 (ifp q237 (gd (ifn q203 (ifn q138 (gd (ifp q6 (gd (ifp q1 h)).2)).2))).2))).2) (fun q1 q6 q138 q203 => (ih _ _ _ _) (ifp q203 (ifn q138 (gd (ifp q6 (gd (ifp q1 h)).2)).2))) (fun q1 q6 => (ih _ _ _ _) (ifn q6 (gd (ifp q1 h)).2))
def en_buildCurves (F : Nat → Int32) (A : Nat → Int32 → Int32) : Option (Int32 × (Nat → Int32 → Int32)) := (if ((en_clearCurves A ).isSome = true) then lp_buildCurves 1000 8 (0 : Int32) (0 : Int32) F (R_clearCurves A ).2 else none)
theorem een_buildCurves (F : Nat → Int32) (A : Nat → Int32 → Int32) : en_buildCurves F A  = (if ((en_clearCurves A ).isSome = true) then lp_buildCurves 1000 8 (0 : Int32) (0 : Int32) F (R_clearCurves A ).2 else none) := Eq.trans rfl rfl
def R_buildCurves (F : Nat → Int32) (A : Nat → Int32 → Int32) : Int32 × (Nat → Int32 → Int32) := (en_buildCurves F A ).getD (0, (fun _ _ => 0))
theorem eR_buildCurves (F : Nat → Int32) (A : Nat → Int32 → Int32) : R_buildCurves F A  = (en_buildCurves F A ).getD (0, (fun _ _ => 0)) := Eq.trans rfl rfl
set_option maxRecDepth 65536 in
set_option maxHeartbeats 4000000 in
theorem run_buildCurves {l : Launch} {Z : State} {a0 : Array Value} (H : OK Z a0) (F : Nat → Int32) (G : Nat → Int64) (A : Nat → Int32 → Int32) (B : Nat → Int32 → Int64) (e1 : (en_buildCurves F A ).isSome = true) :
    Wk l Z (MoC Z cdC) md_buildCurves 0 [.val (.ref 0), .unset, .unset, .unset] [] (11, F, G, A, B) 0 0 (fun v w' => v = none ∧ w' = (11, F, G, (R_buildCurves F A ).2, B)) := by
  obtain ⟨r, h⟩ := Option.isSome_iff_exists.mp e1
  have e : R_buildCurves F A  = r := (eR_buildCurves F A ).trans (getD_some h)
  rw [e]
  rw [een_buildCurves] at h
  exact wp_buildCurves H F G A B  ((gd h).1) ((lpw_buildCurves H F G B _ _ _ _ _) (gd h).2)
set_option maxRecDepth 65536 in
set_option maxHeartbeats 4000000 in
theorem wp_min {l : Launch} {Z : State} {a0 : Array Value} (H : OK Z a0) (F : Nat → Int32) (G : Nat → Int64) (A : Nat → Int32 → Int32) (B : Nat → Int32 → Int64) (p1 : Int32) (p2 : Int32) {Q : Option Value → WO → Prop} (h3 : Q (some (.int (if p1 < p2 then p1 else p2))) (11, F, G, A, B)) :
    Wk l Z (MoC Z cdC) md_min 0 [.val (.ref 0), .val (.int p1), .val (.int p2)] [] (11, F, G, A, B) 0 0 Q := by
  refine Wk.iloadN o_min_0 rfl ?_
  refine Wk.iloadN o_min_1 rfl ?_
  have J2 : Wk l Z (MoC Z cdC) md_min 10 [.val (.ref 0), .val (.int p1), .val (.int p2)] [.int (if p1 < p2 then p1 else p2)] (11, F, G, A, B) 0 0 Q := by
    exact Wk.ireturn mrC rfl o_min_10 rfl (by decide) (by decide) h3
  refine Wk.icmp_ge o_min_2 (fun q1 => ?_) (fun q1 => ?_)
  · refine Wk.iloadN o_min_9 rfl ?_
    first | (rw [show ((if p1 < p2 then p1 else p2) : Int32) = p2 from if_neg q1] at J2; exact J2) | exact J2 | (simp only [if_neg q1] at J2 ⊢; exact J2)
  · refine Wk.iloadN o_min_5 rfl ?_
    refine Wk.goto o_min_6 ?_
    first | (rw [show ((if p1 < p2 then p1 else p2) : Int32) = p1 from if_pos q1] at J2; exact J2) | exact J2 | (simp only [if_pos q1] at J2 ⊢; exact J2)

def f_min (p1 : Int32) (p2 : Int32) : Int32 := (if p1 < p2 then p1 else p2)
theorem e_min (p1 : Int32) (p2 : Int32) : f_min p1 p2 = (if p1 < p2 then p1 else p2) := Eq.trans rfl rfl
theorem run_min {l : Launch} {Z : State} {a0 : Array Value} (H : OK Z a0) (F : Nat → Int32) (G : Nat → Int64) (A : Nat → Int32 → Int32) (B : Nat → Int32 → Int64) (p1 : Int32) (p2 : Int32) :
    Wk l Z (MoC Z cdC) md_min 0 [.val (.ref 0), .val (.int p1), .val (.int p2)] [] (11, F, G, A, B) 0 0 (fun v w' => v = some (.int (f_min p1 p2)) ∧ w' = (11, F, G, A, B)) :=
  wp_min H F G A B p1 p2 ⟨rfl, rfl⟩
set_option maxRecDepth 65536 in
set_option maxHeartbeats 4000000 in
theorem wp_vol {l : Launch} {Z : State} {a0 : Array Value} (H : OK Z a0) (F : Nat → Int32) (G : Nat → Int64) (A : Nat → Int32 → Int32) (B : Nat → Int32 → Int64) (p1 : Int32) {Q : Option Value → WO → Prop} (s1 : ¬ p1 < 0) (s2 : p1 < (257 : Int32)) (h3 : Q (some (.int (f_min ((A 9) p1) ((A 10) p1)))) (11, F, G, A, B)) :
    Wk l Z (MoC Z cdC) md_vol 0 [.val (.ref 0), .val (.int p1)] [] (11, F, G, A, B) 0 0 Q := by
  refine Wk.aloadN o_vol_0 rfl ?_
  refine Wk.aloadN o_vol_1 rfl ?_
  refine Wk.getA (mA_curD) (by decide) (i' := 10) rfl (wf_curD H) o_vol_2 ?_
  refine Wk.iloadN o_vol_5 rfl ?_
  refine Wk.iaload (mA_curD) (by decide) (i' := 10) rfl s1 s2 o_vol_6 (y := ((A 9) p1)) rfl ?_
  refine Wk.aloadN o_vol_7 rfl ?_
  refine Wk.getA (mA_curS) (by decide) (i' := 11) rfl (wf_curS H) o_vol_8 ?_
  refine Wk.iloadN o_vol_11 rfl ?_
  refine Wk.iaload (mA_curS) (by decide) (i' := 11) rfl s1 s2 o_vol_12 (y := ((A 10) p1)) rfl ?_
  refine Wk.callF [.int ((A 9) p1), .int ((A 10) p1)] [] (H.w 88 rfl) (cv_min H) o_vol_13 (run_min H F G A B ((A 9) p1) ((A 10) p1)) (wt := 0) (cu' := 0) (su' := 0) (by decide) rfl rfl rfl rfl rfl rfl rfl ?_
  exact Wk.ireturn mrC rfl o_vol_16 rfl (by decide) (by decide) h3

theorem rt_vol (F : Nat → Int32) (G : Nat → Int64) (A : Nat → Int32 → Int32) (B : Nat → Int32 → Int64) (v0 : Int32) (r : Int32) (e : v0 = r) : some (Value.int v0) = some (.int r) ∧ (11, F, G, A, B) = (11, F, G, A, B) := by subst e; exact ⟨rfl, rfl⟩
def en_vol (A : Nat → Int32 → Int32) (p1 : Int32) : Option (Int32) := (if (¬ p1 < 0) ∧ (p1 < (257 : Int32)) then some ((f_min ((A 9) p1) ((A 10) p1))) else none)
theorem een_vol (A : Nat → Int32 → Int32) (p1 : Int32) : en_vol A p1 = (if (¬ p1 < 0) ∧ (p1 < (257 : Int32)) then some ((f_min ((A 9) p1) ((A 10) p1))) else none) := Eq.trans rfl rfl
def R_vol (A : Nat → Int32 → Int32) (p1 : Int32) : Int32 := (en_vol A p1).getD (0)
theorem eR_vol (A : Nat → Int32 → Int32) (p1 : Int32) : R_vol A p1 = (en_vol A p1).getD (0) := Eq.trans rfl rfl
set_option maxRecDepth 65536 in
set_option maxHeartbeats 4000000 in
theorem run_vol {l : Launch} {Z : State} {a0 : Array Value} (H : OK Z a0) (F : Nat → Int32) (G : Nat → Int64) (A : Nat → Int32 → Int32) (B : Nat → Int32 → Int64) (p1 : Int32) (e1 : (en_vol A p1).isSome = true) :
    Wk l Z (MoC Z cdC) md_vol 0 [.val (.ref 0), .val (.int p1)] [] (11, F, G, A, B) 0 0 (fun v w' => v = some (.int (R_vol A p1)) ∧ w' = (11, F, G, A, B)) := by
  obtain ⟨r, h⟩ := Option.isSome_iff_exists.mp e1
  have e : R_vol A p1 = r := (eR_vol A p1).trans (getD_some h)
  rw [e]
  rw [een_vol] at h
  exact wp_vol H F G A B p1 ((gd h).1.1) ((gd h).1.2) ((rt_vol _ _ _ _ _ r (Option.some.inj (gd h).2)))
set_option maxRecDepth 65536 in
set_option maxHeartbeats 4000000 in
theorem wp_maxVolume {l : Launch} {Z : State} {a0 : Array Value} (H : OK Z a0) (F : Nat → Int32) (G : Nat → Int64) (A : Nat → Int32 → Int32) (B : Nat → Int32 → Int64) {Q : Option Value → WO → Prop} (h1 : Wk l Z (MoC Z cdC) md_maxVolume 4 [.val (.ref 0), .val (.int (0 : Int32)), .val (.int (1 : Int32)), .unset] [] (11, F, G, A, B) 0 0 Q) :
    Wk l Z (MoC Z cdC) md_maxVolume 0 [.val (.ref 0), .unset, .unset, .unset] [] (11, F, G, A, B) 0 0 Q := by
  refine Wk.iconst o_maxVolume_0 (z := (0 : Int32)) (by decide) ?_
  refine Wk.istoreN o_maxVolume_1 (Or.inl rfl) (L' := [.val (.ref 0), .val (.int (0 : Int32)), .unset, .unset]) rfl ?_
  refine Wk.iconst o_maxVolume_2 (z := (1 : Int32)) (by decide) ?_
  refine Wk.istoreN o_maxVolume_3 (Or.inl rfl) (L' := [.val (.ref 0), .val (.int (0 : Int32)), .val (.int (1 : Int32)), .unset]) rfl ?_
  exact h1

set_option maxRecDepth 65536 in
set_option maxHeartbeats 4000000 in
theorem wp_maxVolume_4 {l : Launch} {Z : State} {a0 : Array Value} (H : OK Z a0) (F : Nat → Int32) (G : Nat → Int64) (A : Nat → Int32 → Int32) (B : Nat → Int32 → Int64) (v1 : Int32) (v2 : Int32) {Q : Option Value → WO → Prop} (h2 : (255 : Int32) < v2 → Q (some (.int v1)) (11, F, G, A, B)) (s3 : ¬ (255 : Int32) < v2 → (en_vol A v2).isSome = true) (h6 : ¬ (255 : Int32) < v2 → Wk l Z (MoC Z cdC) md_maxVolume 4 [.val (.ref 0), .val (.int (if v1 < (R_vol A v2) then (R_vol A v2) else v1)), .val (.int (v2 + (1 : Int32))), .unset] [] (11, F, G, A, B) 0 0 Q) :
    Wk l Z (MoC Z cdC) md_maxVolume 4 [.val (.ref 0), .val (.int v1), .val (.int v2), .unset] [] (11, F, G, A, B) 0 0 Q := by
  refine Wk.iloadN o_maxVolume_4 rfl ?_
  refine Wk.sipush o_maxVolume_5 (z := (255 : Int32)) (by decide) ?_
  refine Wk.icmp_gt o_maxVolume_8 (fun q1 => ?_) (fun q1 => ?_)
  · refine Wk.iloadN o_maxVolume_30 rfl ?_
    exact Wk.ireturn mrC rfl o_maxVolume_31 rfl (by decide) (by decide) (h2 q1)
  · refine Wk.aloadN o_maxVolume_11 rfl ?_
    refine Wk.iloadN o_maxVolume_12 rfl ?_
    refine Wk.callF [.int v2] [] (H.w 84 rfl) (cv_vol H) o_maxVolume_13 (run_vol H F G A B v2 (s3 q1)) (wt := 0) (cu' := 0) (su' := 0) (by decide) rfl rfl rfl rfl rfl rfl rfl ?_
    refine Wk.istoreN o_maxVolume_16 (Or.inl rfl) (L' := [.val (.ref 0), .val (.int v1), .val (.int v2), .val (.int (R_vol A v2))]) rfl ?_
    refine Wk.iloadN o_maxVolume_17 rfl ?_
    refine Wk.iloadN o_maxVolume_18 rfl ?_
    have J5 : Wk l Z (MoC Z cdC) md_maxVolume 24 [.val (.ref 0), .val (.int (if v1 < (R_vol A v2) then (R_vol A v2) else v1)), .val (.int v2), .val (.int (R_vol A v2))] [] (11, F, G, A, B) 0 0 Q := by
      refine Wk.iinc o_maxVolume_24 rfl (z := (v2 + (1 : Int32))) rfl (L' := [.val (.ref 0), .val (.int (if v1 < (R_vol A v2) then (R_vol A v2) else v1)), .val (.int (v2 + (1 : Int32))), .val (.int (R_vol A v2))]) rfl ?_
      refine Wk.goto o_maxVolume_27 ?_
      refine Wk.forget [false, false, false, true] (L' := [.val (.ref 0), .val (.int (if v1 < (R_vol A v2) then (R_vol A v2) else v1)), .val (.int (v2 + (1 : Int32))), .unset]) rfl rfl ?_
      exact (h6 q1)
    refine Wk.icmp_le o_maxVolume_19 (fun q4 => ?_) (fun q4 => ?_)
    · first | (rw [show ((if v1 < (R_vol A v2) then (R_vol A v2) else v1) : Int32) = v1 from if_neg q4] at J5; exact J5) | exact J5 | (simp only [if_neg q4] at J5 ⊢; exact J5)
    · refine Wk.iloadN o_maxVolume_22 rfl ?_
      refine Wk.istoreN o_maxVolume_23 (Or.inr ⟨_, rfl, rfl⟩) (L' := [.val (.ref 0), .val (.int (R_vol A v2)), .val (.int v2), .val (.int (R_vol A v2))]) rfl ?_
      first | (rw [show ((if v1 < (R_vol A v2) then (R_vol A v2) else v1) : Int32) = (R_vol A v2) from if_pos q4] at J5; exact J5) | exact J5 | (simp only [if_pos q4] at J5 ⊢; exact J5)

theorem rt_maxVolume (F : Nat → Int32) (G : Nat → Int64) (A : Nat → Int32 → Int32) (B : Nat → Int32 → Int64) (v0 : Int32) (r : Int32) (e : v0 = r) : some (Value.int v0) = some (.int r) ∧ (11, F, G, A, B) = (11, F, G, A, B) := by subst e; exact ⟨rfl, rfl⟩
def lp_maxVolume : Nat → Nat → Int32 → Int32 → (Nat → Int32 → Int32) → Option (Int32)
  | 0, _, _, _, _ => none
  | n + 1, tag, v1, v2, A => if tag = 4 then (if (255 : Int32) < v2 then some (v1) else (if ((en_vol A v2).isSome = true) then lp_maxVolume n 4 (if v1 < (R_vol A v2) then (R_vol A v2) else v1) (v2 + (1 : Int32)) A else none)) else none
theorem lp_maxVolume_z (tag : Nat) (v1 : Int32) (v2 : Int32) (A : Nat → Int32 → Int32) : lp_maxVolume 0 tag v1 v2 A = none := Eq.trans rfl rfl
theorem lp_maxVolume_4 (n : Nat) (v1 : Int32) (v2 : Int32) (A : Nat → Int32 → Int32) : lp_maxVolume (n + 1) 4 v1 v2 A = (if (255 : Int32) < v2 then some (v1) else (if ((en_vol A v2).isSome = true) then lp_maxVolume n 4 (if v1 < (R_vol A v2) then (R_vol A v2) else v1) (v2 + (1 : Int32)) A else none)) := by
  rw [lp_maxVolume, if_pos rfl]
set_option maxRecDepth 65536 in
set_option maxHeartbeats 4000000 in
theorem lpw_maxVolume {l : Launch} {Z : State} {a0 : Array Value} (H : OK Z a0) (F : Nat → Int32) (G : Nat → Int64) (A : Nat → Int32 → Int32) (B : Nat → Int32 → Int64) : ∀ (n : Nat) (v1 : Int32) (v2 : Int32) (r : Int32), (lp_maxVolume n 4 v1 v2 A = some r → Wk l Z (MoC Z cdC) md_maxVolume 4 [.val (.ref 0), .val (.int v1), .val (.int v2), .unset] [] (11, F, G, A, B) 0 0 (fun v w' => v = some (.int r) ∧ w' = (11, F, G, A, B))) := by
  intro n
  induction n with
  | zero =>
    intro v1 v2  r
    exact (fun h => by rw [lp_maxVolume_z] at h; cases h)
  | succ n ih =>
    intro v1 v2  r
    refine fun h => ?_
    · rw [lp_maxVolume_4] at h
      exact wp_maxVolume_4 H F G A B v1 v2 (fun q1 => (rt_maxVolume _ _ _ _ _ r (Option.some.inj (ifp q1 h)))) (fun q1 => (gd (ifn q1 h)).1) (fun q1 => (ih _ _ _) (gd (ifn q1 h)).2)
def en_maxVolume (A : Nat → Int32 → Int32) : Option (Int32) := lp_maxVolume 1000 4 (0 : Int32) (1 : Int32) A
theorem een_maxVolume (A : Nat → Int32 → Int32) : en_maxVolume A  = lp_maxVolume 1000 4 (0 : Int32) (1 : Int32) A := Eq.trans rfl rfl
def R_maxVolume (A : Nat → Int32 → Int32) : Int32 := (en_maxVolume A ).getD (0)
theorem eR_maxVolume (A : Nat → Int32 → Int32) : R_maxVolume A  = (en_maxVolume A ).getD (0) := Eq.trans rfl rfl
set_option maxRecDepth 65536 in
set_option maxHeartbeats 4000000 in
theorem run_maxVolume {l : Launch} {Z : State} {a0 : Array Value} (H : OK Z a0) (F : Nat → Int32) (G : Nat → Int64) (A : Nat → Int32 → Int32) (B : Nat → Int32 → Int64) (e1 : (en_maxVolume A ).isSome = true) :
    Wk l Z (MoC Z cdC) md_maxVolume 0 [.val (.ref 0), .unset, .unset, .unset] [] (11, F, G, A, B) 0 0 (fun v w' => v = some (.int (R_maxVolume A )) ∧ w' = (11, F, G, A, B)) := by
  obtain ⟨r, h⟩ := Option.isSome_iff_exists.mp e1
  have e : R_maxVolume A  = r := (eR_maxVolume A ).trans (getD_some h)
  rw [e]
  rw [een_maxVolume] at h
  exact wp_maxVolume H F G A B  ((lpw_maxVolume H F G A B _ _ _ _) h)
set_option maxRecDepth 65536 in
set_option maxHeartbeats 4000000 in
theorem wp_indicativeVolume {l : Launch} {Z : State} {a0 : Array Value} (H : OK Z a0) (F : Nat → Int32) (G : Nat → Int64) (A : Nat → Int32 → Int32) (B : Nat → Int32 → Int64) {Q : Option Value → WO → Prop} (s1 : (en_buildCurves F A ).isSome = true) (s2 : (en_maxVolume (R_buildCurves F A ).2 ).isSome = true) (h3 : Q (some (.int (R_maxVolume (R_buildCurves F A ).2 ))) (11, F, G, (R_buildCurves F A ).2, B)) :
    Wk l Z (MoC Z cdC) md_indicativeVolume 0 [.val (.ref 0)] [] (11, F, G, A, B) 0 0 Q := by
  refine Wk.aloadN o_indicativeVolume_0 rfl ?_
  refine Wk.callU [] [] (H.w 68 rfl) (cv_buildCurves H) o_indicativeVolume_1 (run_buildCurves H F G A B s1) (wt := 0) (cu' := 0) (su' := 0) (by decide) rfl rfl rfl rfl rfl rfl rfl ?_
  refine Wk.aloadN o_indicativeVolume_4 rfl ?_
  refine Wk.callF [] [] (H.w 80 rfl) (cv_maxVolume H) o_indicativeVolume_5 (run_maxVolume H F G (R_buildCurves F A ).2 B s2) (wt := 0) (cu' := 0) (su' := 0) (by decide) rfl rfl rfl rfl rfl rfl rfl ?_
  exact Wk.ireturn mrC rfl o_indicativeVolume_8 rfl (by decide) (by decide) h3

theorem rt_indicativeVolume (F : Nat → Int32) (G : Nat → Int64) (B : Nat → Int32 → Int64) (v0 : Int32) (xA : Nat → Int32 → Int32) (r : Int32 × (Nat → Int32 → Int32)) (e : (v0, xA) = r) : some (Value.int v0) = some (.int r.1) ∧ (11, F, G, xA, B) = (11, F, G, r.2, B) := by subst e; exact ⟨rfl, rfl⟩
def en_indicativeVolume (F : Nat → Int32) (A : Nat → Int32 → Int32) : Option (Int32 × (Nat → Int32 → Int32)) := (if ((en_buildCurves F A ).isSome = true) ∧ ((en_maxVolume (R_buildCurves F A ).2 ).isSome = true) then some ((R_maxVolume (R_buildCurves F A ).2 ), (R_buildCurves F A ).2) else none)
theorem een_indicativeVolume (F : Nat → Int32) (A : Nat → Int32 → Int32) : en_indicativeVolume F A  = (if ((en_buildCurves F A ).isSome = true) ∧ ((en_maxVolume (R_buildCurves F A ).2 ).isSome = true) then some ((R_maxVolume (R_buildCurves F A ).2 ), (R_buildCurves F A ).2) else none) := Eq.trans rfl rfl
def R_indicativeVolume (F : Nat → Int32) (A : Nat → Int32 → Int32) : Int32 × (Nat → Int32 → Int32) := (en_indicativeVolume F A ).getD (0, (fun _ _ => 0))
theorem eR_indicativeVolume (F : Nat → Int32) (A : Nat → Int32 → Int32) : R_indicativeVolume F A  = (en_indicativeVolume F A ).getD (0, (fun _ _ => 0)) := Eq.trans rfl rfl
set_option maxRecDepth 65536 in
set_option maxHeartbeats 4000000 in
theorem run_indicativeVolume {l : Launch} {Z : State} {a0 : Array Value} (H : OK Z a0) (F : Nat → Int32) (G : Nat → Int64) (A : Nat → Int32 → Int32) (B : Nat → Int32 → Int64) (e1 : (en_indicativeVolume F A ).isSome = true) :
    Wk l Z (MoC Z cdC) md_indicativeVolume 0 [.val (.ref 0)] [] (11, F, G, A, B) 0 0 (fun v w' => v = some (.int (R_indicativeVolume F A ).1) ∧ w' = (11, F, G, (R_indicativeVolume F A ).2, B)) := by
  obtain ⟨r, h⟩ := Option.isSome_iff_exists.mp e1
  have e : R_indicativeVolume F A  = r := (eR_indicativeVolume F A ).trans (getD_some h)
  rw [e]
  rw [een_indicativeVolume] at h
  exact wp_indicativeVolume H F G A B  ((gd h).1.1) ((gd h).1.2) ((rt_indicativeVolume _ _ _ _ _ r (Option.some.inj (gd h).2)))
set_option maxRecDepth 65536 in
set_option maxHeartbeats 4000000 in
theorem wp_surplus {l : Launch} {Z : State} {a0 : Array Value} (H : OK Z a0) (F : Nat → Int32) (G : Nat → Int64) (A : Nat → Int32 → Int32) (B : Nat → Int32 → Int64) (p1 : Int32) {Q : Option Value → WO → Prop} (s1 : ¬ p1 < 0) (s2 : p1 < (257 : Int32)) (h3 : Q (some (.int (((A 9) p1) - ((A 10) p1)))) (11, F, G, A, B)) :
    Wk l Z (MoC Z cdC) md_surplus 0 [.val (.ref 0), .val (.int p1)] [] (11, F, G, A, B) 0 0 Q := by
  refine Wk.aloadN o_surplus_0 rfl ?_
  refine Wk.getA (mA_curD) (by decide) (i' := 10) rfl (wf_curD H) o_surplus_1 ?_
  refine Wk.iloadN o_surplus_4 rfl ?_
  refine Wk.iaload (mA_curD) (by decide) (i' := 10) rfl s1 s2 o_surplus_5 (y := ((A 9) p1)) rfl ?_
  refine Wk.aloadN o_surplus_6 rfl ?_
  refine Wk.getA (mA_curS) (by decide) (i' := 11) rfl (wf_curS H) o_surplus_7 ?_
  refine Wk.iloadN o_surplus_10 rfl ?_
  refine Wk.iaload (mA_curS) (by decide) (i' := 11) rfl s1 s2 o_surplus_11 (y := ((A 10) p1)) rfl ?_
  refine Wk.isub o_surplus_12 ?_
  exact Wk.ireturn mrC rfl o_surplus_13 rfl (by decide) (by decide) h3

theorem rt_surplus (F : Nat → Int32) (G : Nat → Int64) (A : Nat → Int32 → Int32) (B : Nat → Int32 → Int64) (v0 : Int32) (r : Int32) (e : v0 = r) : some (Value.int v0) = some (.int r) ∧ (11, F, G, A, B) = (11, F, G, A, B) := by subst e; exact ⟨rfl, rfl⟩
def en_surplus (A : Nat → Int32 → Int32) (p1 : Int32) : Option (Int32) := (if (¬ p1 < 0) ∧ (p1 < (257 : Int32)) then some ((((A 9) p1) - ((A 10) p1))) else none)
theorem een_surplus (A : Nat → Int32 → Int32) (p1 : Int32) : en_surplus A p1 = (if (¬ p1 < 0) ∧ (p1 < (257 : Int32)) then some ((((A 9) p1) - ((A 10) p1))) else none) := Eq.trans rfl rfl
def R_surplus (A : Nat → Int32 → Int32) (p1 : Int32) : Int32 := (en_surplus A p1).getD (0)
theorem eR_surplus (A : Nat → Int32 → Int32) (p1 : Int32) : R_surplus A p1 = (en_surplus A p1).getD (0) := Eq.trans rfl rfl
set_option maxRecDepth 65536 in
set_option maxHeartbeats 4000000 in
theorem run_surplus {l : Launch} {Z : State} {a0 : Array Value} (H : OK Z a0) (F : Nat → Int32) (G : Nat → Int64) (A : Nat → Int32 → Int32) (B : Nat → Int32 → Int64) (p1 : Int32) (e1 : (en_surplus A p1).isSome = true) :
    Wk l Z (MoC Z cdC) md_surplus 0 [.val (.ref 0), .val (.int p1)] [] (11, F, G, A, B) 0 0 (fun v w' => v = some (.int (R_surplus A p1)) ∧ w' = (11, F, G, A, B)) := by
  obtain ⟨r, h⟩ := Option.isSome_iff_exists.mp e1
  have e : R_surplus A p1 = r := (eR_surplus A p1).trans (getD_some h)
  rw [e]
  rw [een_surplus] at h
  exact wp_surplus H F G A B p1 ((gd h).1.1) ((gd h).1.2) ((rt_surplus _ _ _ _ _ r (Option.some.inj (gd h).2)))
set_option maxRecDepth 65536 in
set_option maxHeartbeats 4000000 in
theorem wp_abs {l : Launch} {Z : State} {a0 : Array Value} (H : OK Z a0) (F : Nat → Int32) (G : Nat → Int64) (A : Nat → Int32 → Int32) (B : Nat → Int32 → Int64) (p1 : Int32) {Q : Option Value → WO → Prop} (h3 : Q (some (.int (if p1 < 0 then (-p1) else p1))) (11, F, G, A, B)) :
    Wk l Z (MoC Z cdC) md_abs 0 [.val (.ref 0), .val (.int p1)] [] (11, F, G, A, B) 0 0 Q := by
  refine Wk.iloadN o_abs_0 rfl ?_
  have J2 : Wk l Z (MoC Z cdC) md_abs 10 [.val (.ref 0), .val (.int p1)] [.int (if p1 < 0 then (-p1) else p1)] (11, F, G, A, B) 0 0 Q := by
    exact Wk.ireturn mrC rfl o_abs_10 rfl (by decide) (by decide) h3
  refine Wk.if_ge o_abs_1 (fun q1 => ?_) (fun q1 => ?_)
  · refine Wk.iloadN o_abs_9 rfl ?_
    first | (rw [show ((if p1 < 0 then (-p1) else p1) : Int32) = p1 from if_neg q1] at J2; exact J2) | exact J2 | (simp only [if_neg q1] at J2 ⊢; exact J2)
  · refine Wk.iloadN o_abs_4 rfl ?_
    refine Wk.ineg o_abs_5 ?_
    refine Wk.goto o_abs_6 ?_
    first | (rw [show ((if p1 < 0 then (-p1) else p1) : Int32) = (-p1) from if_pos q1] at J2; exact J2) | exact J2 | (simp only [if_pos q1] at J2 ⊢; exact J2)

def f_abs (p1 : Int32) : Int32 := (if p1 < 0 then (-p1) else p1)
theorem e_abs (p1 : Int32) : f_abs p1 = (if p1 < 0 then (-p1) else p1) := Eq.trans rfl rfl
theorem run_abs {l : Launch} {Z : State} {a0 : Array Value} (H : OK Z a0) (F : Nat → Int32) (G : Nat → Int64) (A : Nat → Int32 → Int32) (B : Nat → Int32 → Int64) (p1 : Int32) :
    Wk l Z (MoC Z cdC) md_abs 0 [.val (.ref 0), .val (.int p1)] [] (11, F, G, A, B) 0 0 (fun v w' => v = some (.int (f_abs p1)) ∧ w' = (11, F, G, A, B)) :=
  wp_abs H F G A B p1 ⟨rfl, rfl⟩
set_option maxRecDepth 65536 in
set_option maxHeartbeats 4000000 in
theorem wp_leastSurplus {l : Launch} {Z : State} {a0 : Array Value} (H : OK Z a0) (F : Nat → Int32) (G : Nat → Int64) (A : Nat → Int32 → Int32) (B : Nat → Int32 → Int64) (p1 : Int32) {Q : Option Value → WO → Prop} (h1 : Wk l Z (MoC Z cdC) md_leastSurplus 4 [.val (.ref 0), .val (.int p1), .val (.int (-1 : Int32)), .val (.int (1 : Int32)), .unset] [] (11, F, G, A, B) 0 0 Q) :
    Wk l Z (MoC Z cdC) md_leastSurplus 0 [.val (.ref 0), .val (.int p1), .unset, .unset, .unset] [] (11, F, G, A, B) 0 0 Q := by
  refine Wk.iconst o_leastSurplus_0 (z := (-1 : Int32)) (by decide) ?_
  refine Wk.istoreN o_leastSurplus_1 (Or.inl rfl) (L' := [.val (.ref 0), .val (.int p1), .val (.int (-1 : Int32)), .unset, .unset]) rfl ?_
  refine Wk.iconst o_leastSurplus_2 (z := (1 : Int32)) (by decide) ?_
  refine Wk.istoreN o_leastSurplus_3 (Or.inl rfl) (L' := [.val (.ref 0), .val (.int p1), .val (.int (-1 : Int32)), .val (.int (1 : Int32)), .unset]) rfl ?_
  exact h1

set_option maxRecDepth 65536 in
set_option maxHeartbeats 4000000 in
theorem wp_leastSurplus_4 {l : Launch} {Z : State} {a0 : Array Value} (H : OK Z a0) (F : Nat → Int32) (G : Nat → Int64) (A : Nat → Int32 → Int32) (B : Nat → Int32 → Int64) (v1 : Int32) (v2 : Int32) (v3 : Int32) {Q : Option Value → WO → Prop} (h2 : (255 : Int32) < v3 → Q (some (.int v2)) (11, F, G, A, B)) (s3 : ¬ (255 : Int32) < v3 → (en_vol A v3).isSome = true) (s5 : ¬ (255 : Int32) < v3 → (R_vol A v3) = v1 → (en_surplus A v3).isSome = true) (h11 : ¬ (255 : Int32) < v3 → Wk l Z (MoC Z cdC) md_leastSurplus 4 [.val (.ref 0), .val (.int v1), .val (.int (if (R_vol A v3) = v1 then (if v2 < 0 then (f_abs (R_surplus A v3)) else (if (f_abs (R_surplus A v3)) < v2 then (f_abs (R_surplus A v3)) else v2)) else v2)), .val (.int (v3 + (1 : Int32))), .unset] [] (11, F, G, A, B) 0 0 Q) :
    Wk l Z (MoC Z cdC) md_leastSurplus 4 [.val (.ref 0), .val (.int v1), .val (.int v2), .val (.int v3), .unset] [] (11, F, G, A, B) 0 0 Q := by
  refine Wk.iloadN o_leastSurplus_4 rfl ?_
  refine Wk.sipush o_leastSurplus_5 (z := (255 : Int32)) (by decide) ?_
  refine Wk.icmp_gt o_leastSurplus_8 (fun q1 => ?_) (fun q1 => ?_)
  · refine Wk.iloadN o_leastSurplus_53 rfl ?_
    exact Wk.ireturn mrC rfl o_leastSurplus_54 rfl (by decide) (by decide) (h2 q1)
  · refine Wk.aloadN o_leastSurplus_11 rfl ?_
    refine Wk.iloadN o_leastSurplus_12 rfl ?_
    refine Wk.callF [.int v3] [] (H.w 84 rfl) (cv_vol H) o_leastSurplus_13 (run_vol H F G A B v3 (s3 q1)) (wt := 0) (cu' := 0) (su' := 0) (by decide) rfl rfl rfl rfl rfl rfl rfl ?_
    refine Wk.iloadN o_leastSurplus_16 rfl ?_
    have J10 : Wk l Z (MoC Z cdC) md_leastSurplus 47 [.val (.ref 0), .val (.int v1), .val (.int (if (R_vol A v3) = v1 then (if v2 < 0 then (f_abs (R_surplus A v3)) else (if (f_abs (R_surplus A v3)) < v2 then (f_abs (R_surplus A v3)) else v2)) else v2)), .val (.int v3), .unset] [] (11, F, G, A, B) 0 0 Q := by
      refine Wk.iinc o_leastSurplus_47 rfl (z := (v3 + (1 : Int32))) rfl (L' := [.val (.ref 0), .val (.int v1), .val (.int (if (R_vol A v3) = v1 then (if v2 < 0 then (f_abs (R_surplus A v3)) else (if (f_abs (R_surplus A v3)) < v2 then (f_abs (R_surplus A v3)) else v2)) else v2)), .val (.int (v3 + (1 : Int32))), .unset]) rfl ?_
      refine Wk.goto o_leastSurplus_50 ?_
      exact (h11 q1)
    refine Wk.icmp_eq o_leastSurplus_17 (fun q4 => ?_) (fun q4 => ?_)
    · refine Wk.aloadN o_leastSurplus_23 rfl ?_
      refine Wk.aloadN o_leastSurplus_24 rfl ?_
      refine Wk.iloadN o_leastSurplus_25 rfl ?_
      refine Wk.callF [.int v3] [.ref 0] (H.w 105 rfl) (cv_surplus H) o_leastSurplus_26 (run_surplus H F G A B v3 (s5 q1 q4)) (wt := 1) (cu' := 0) (su' := 0) (by decide) rfl rfl rfl rfl rfl rfl rfl ?_
      refine Wk.callF [.int (R_surplus A v3)] [] (H.w 109 rfl) (cv_abs H) o_leastSurplus_29 (run_abs H F G A B (R_surplus A v3)) (wt := 0) (cu' := 0) (su' := 0) (by decide) rfl rfl rfl rfl rfl rfl rfl ?_
      refine Wk.istore o_leastSurplus_32 (Or.inl rfl) (L' := [.val (.ref 0), .val (.int v1), .val (.int v2), .val (.int v3), .val (.int (f_abs (R_surplus A v3)))]) rfl ?_
      refine Wk.iloadN o_leastSurplus_34 rfl ?_
      refine Wk.if_lt o_leastSurplus_35 (fun q6 => ?_) (fun q6 => ?_)
      · refine Wk.iload o_leastSurplus_44 rfl ?_
        refine Wk.istoreN o_leastSurplus_46 (Or.inr ⟨_, rfl, rfl⟩) (L' := [.val (.ref 0), .val (.int v1), .val (.int (f_abs (R_surplus A v3))), .val (.int v3), .val (.int (f_abs (R_surplus A v3)))]) rfl ?_
        refine Wk.forget [false, false, false, false, true] (L' := [.val (.ref 0), .val (.int v1), .val (.int (f_abs (R_surplus A v3))), .val (.int v3), .unset]) rfl rfl ?_
        first | (rw [show ((if (R_vol A v3) = v1 then (if v2 < 0 then (f_abs (R_surplus A v3)) else (if (f_abs (R_surplus A v3)) < v2 then (f_abs (R_surplus A v3)) else v2)) else v2) : Int32) = (f_abs (R_surplus A v3)) from Eq.trans (if_pos q4) <| if_pos q6] at J10; exact J10) | exact J10 | (simp only [if_pos q4, if_pos q6] at J10 ⊢; exact J10)
      · refine Wk.iload o_leastSurplus_38 rfl ?_
        refine Wk.iloadN o_leastSurplus_40 rfl ?_
        refine Wk.icmp_ge o_leastSurplus_41 (fun q7 => ?_) (fun q7 => ?_)
        · refine Wk.forget [false, false, false, false, true] (L' := [.val (.ref 0), .val (.int v1), .val (.int v2), .val (.int v3), .unset]) rfl rfl ?_
          first | (rw [show ((if (R_vol A v3) = v1 then (if v2 < 0 then (f_abs (R_surplus A v3)) else (if (f_abs (R_surplus A v3)) < v2 then (f_abs (R_surplus A v3)) else v2)) else v2) : Int32) = v2 from Eq.trans (if_pos q4) <| Eq.trans (if_neg q6) <| if_neg q7] at J10; exact J10) | exact J10 | (simp only [if_pos q4, if_neg q6, if_neg q7] at J10 ⊢; exact J10)
        · refine Wk.iload o_leastSurplus_44 rfl ?_
          refine Wk.istoreN o_leastSurplus_46 (Or.inr ⟨_, rfl, rfl⟩) (L' := [.val (.ref 0), .val (.int v1), .val (.int (f_abs (R_surplus A v3))), .val (.int v3), .val (.int (f_abs (R_surplus A v3)))]) rfl ?_
          refine Wk.forget [false, false, false, false, true] (L' := [.val (.ref 0), .val (.int v1), .val (.int (f_abs (R_surplus A v3))), .val (.int v3), .unset]) rfl rfl ?_
          first | (rw [show ((if (R_vol A v3) = v1 then (if v2 < 0 then (f_abs (R_surplus A v3)) else (if (f_abs (R_surplus A v3)) < v2 then (f_abs (R_surplus A v3)) else v2)) else v2) : Int32) = (f_abs (R_surplus A v3)) from Eq.trans (if_pos q4) <| Eq.trans (if_neg q6) <| if_pos q7] at J10; exact J10) | exact J10 | (simp only [if_pos q4, if_neg q6, if_pos q7] at J10 ⊢; exact J10)
    · refine Wk.goto o_leastSurplus_20 ?_
      first | (rw [show ((if (R_vol A v3) = v1 then (if v2 < 0 then (f_abs (R_surplus A v3)) else (if (f_abs (R_surplus A v3)) < v2 then (f_abs (R_surplus A v3)) else v2)) else v2) : Int32) = v2 from if_neg q4] at J10; exact J10) | exact J10 | (simp only [if_neg q4] at J10 ⊢; exact J10)

theorem rt_leastSurplus (F : Nat → Int32) (G : Nat → Int64) (A : Nat → Int32 → Int32) (B : Nat → Int32 → Int64) (v0 : Int32) (r : Int32) (e : v0 = r) : some (Value.int v0) = some (.int r) ∧ (11, F, G, A, B) = (11, F, G, A, B) := by subst e; exact ⟨rfl, rfl⟩
def lp_leastSurplus : Nat → Nat → Int32 → Int32 → Int32 → (Nat → Int32 → Int32) → Option (Int32)
  | 0, _, _, _, _, _ => none
  | n + 1, tag, v1, v2, v3, A => if tag = 4 then (if (255 : Int32) < v3 then some (v2) else (if ((en_vol A v3).isSome = true) ∧ ((R_vol A v3) = v1 → (en_surplus A v3).isSome = true) then lp_leastSurplus n 4 v1 (if (R_vol A v3) = v1 then (if v2 < 0 then (f_abs (R_surplus A v3)) else (if (f_abs (R_surplus A v3)) < v2 then (f_abs (R_surplus A v3)) else v2)) else v2) (v3 + (1 : Int32)) A else none)) else none
theorem lp_leastSurplus_z (tag : Nat) (v1 : Int32) (v2 : Int32) (v3 : Int32) (A : Nat → Int32 → Int32) : lp_leastSurplus 0 tag v1 v2 v3 A = none := Eq.trans rfl rfl
theorem lp_leastSurplus_4 (n : Nat) (v1 : Int32) (v2 : Int32) (v3 : Int32) (A : Nat → Int32 → Int32) : lp_leastSurplus (n + 1) 4 v1 v2 v3 A = (if (255 : Int32) < v3 then some (v2) else (if ((en_vol A v3).isSome = true) ∧ ((R_vol A v3) = v1 → (en_surplus A v3).isSome = true) then lp_leastSurplus n 4 v1 (if (R_vol A v3) = v1 then (if v2 < 0 then (f_abs (R_surplus A v3)) else (if (f_abs (R_surplus A v3)) < v2 then (f_abs (R_surplus A v3)) else v2)) else v2) (v3 + (1 : Int32)) A else none)) := by
  rw [lp_leastSurplus, if_pos rfl]
set_option maxRecDepth 65536 in
set_option maxHeartbeats 4000000 in
theorem lpw_leastSurplus {l : Launch} {Z : State} {a0 : Array Value} (H : OK Z a0) (F : Nat → Int32) (G : Nat → Int64) (A : Nat → Int32 → Int32) (B : Nat → Int32 → Int64) : ∀ (n : Nat) (v1 : Int32) (v2 : Int32) (v3 : Int32) (r : Int32), (lp_leastSurplus n 4 v1 v2 v3 A = some r → Wk l Z (MoC Z cdC) md_leastSurplus 4 [.val (.ref 0), .val (.int v1), .val (.int v2), .val (.int v3), .unset] [] (11, F, G, A, B) 0 0 (fun v w' => v = some (.int r) ∧ w' = (11, F, G, A, B))) := by
  intro n
  induction n with
  | zero =>
    intro v1 v2 v3  r
    exact (fun h => by rw [lp_leastSurplus_z] at h; cases h)
  | succ n ih =>
    intro v1 v2 v3  r
    refine fun h => ?_
    · rw [lp_leastSurplus_4] at h
      exact wp_leastSurplus_4 H F G A B v1 v2 v3 (fun q1 => (rt_leastSurplus _ _ _ _ _ r (Option.some.inj (ifp q1 h)))) (fun q1 => (gd (ifn q1 h)).1.1) (fun q1 q4 => ((gd (ifn q1 h)).1.2) q4) (fun q1 => (ih _ _ _ _) (gd (ifn q1 h)).2)
def en_leastSurplus (A : Nat → Int32 → Int32) (p1 : Int32) : Option (Int32) := lp_leastSurplus 1000 4 p1 (-1 : Int32) (1 : Int32) A
theorem een_leastSurplus (A : Nat → Int32 → Int32) (p1 : Int32) : en_leastSurplus A p1 = lp_leastSurplus 1000 4 p1 (-1 : Int32) (1 : Int32) A := Eq.trans rfl rfl
def R_leastSurplus (A : Nat → Int32 → Int32) (p1 : Int32) : Int32 := (en_leastSurplus A p1).getD (0)
theorem eR_leastSurplus (A : Nat → Int32 → Int32) (p1 : Int32) : R_leastSurplus A p1 = (en_leastSurplus A p1).getD (0) := Eq.trans rfl rfl
set_option maxRecDepth 65536 in
set_option maxHeartbeats 4000000 in
theorem run_leastSurplus {l : Launch} {Z : State} {a0 : Array Value} (H : OK Z a0) (F : Nat → Int32) (G : Nat → Int64) (A : Nat → Int32 → Int32) (B : Nat → Int32 → Int64) (p1 : Int32) (e1 : (en_leastSurplus A p1).isSome = true) :
    Wk l Z (MoC Z cdC) md_leastSurplus 0 [.val (.ref 0), .val (.int p1), .unset, .unset, .unset] [] (11, F, G, A, B) 0 0 (fun v w' => v = some (.int (R_leastSurplus A p1)) ∧ w' = (11, F, G, A, B)) := by
  obtain ⟨r, h⟩ := Option.isSome_iff_exists.mp e1
  have e : R_leastSurplus A p1 = r := (eR_leastSurplus A p1).trans (getD_some h)
  rw [e]
  rw [een_leastSurplus] at h
  exact wp_leastSurplus H F G A B p1 ((lpw_leastSurplus H F G A B _ _ _ _ _) h)
set_option maxRecDepth 65536 in
set_option maxHeartbeats 4000000 in
theorem wp_inFinalSet {l : Launch} {Z : State} {a0 : Array Value} (H : OK Z a0) (F : Nat → Int32) (G : Nat → Int64) (A : Nat → Int32 → Int32) (B : Nat → Int32 → Int64) (p1 : Int32) (p2 : Int32) (p3 : Int32) {Q : Option Value → WO → Prop} (s1 : (en_vol A p1).isSome = true) (s3 : (R_vol A p1) = p2 → (en_surplus A p1).isSome = true) (h7 : Q (some (.int (nar .boolean (if (R_vol A p1) = p2 then (if (f_abs (R_surplus A p1)) = p3 then (1 : Int32) else (0 : Int32)) else (0 : Int32))))) (11, F, G, A, B)) :
    Wk l Z (MoC Z cdC) md_inFinalSet 0 [.val (.ref 0), .val (.int p1), .val (.int p2), .val (.int p3)] [] (11, F, G, A, B) 0 0 Q := by
  refine Wk.aloadN o_inFinalSet_0 rfl ?_
  refine Wk.iloadN o_inFinalSet_1 rfl ?_
  refine Wk.callF [.int p1] [] (H.w 84 rfl) (cv_vol H) o_inFinalSet_2 (run_vol H F G A B p1 s1) (wt := 0) (cu' := 0) (su' := 0) (by decide) rfl rfl rfl rfl rfl rfl rfl ?_
  refine Wk.iloadN o_inFinalSet_5 rfl ?_
  have J6 : Wk l Z (MoC Z cdC) md_inFinalSet 27 [.val (.ref 0), .val (.int p1), .val (.int p2), .val (.int p3)] [.int (if (R_vol A p1) = p2 then (if (f_abs (R_surplus A p1)) = p3 then (1 : Int32) else (0 : Int32)) else (0 : Int32))] (11, F, G, A, B) 0 0 Q := by
    exact Wk.zreturn mrC rfl o_inFinalSet_27 rfl (by decide) (by decide) (y := (nar .boolean (if (R_vol A p1) = p2 then (if (f_abs (R_surplus A p1)) = p3 then (1 : Int32) else (0 : Int32)) else (0 : Int32)))) rfl h7
  refine Wk.icmp_ne o_inFinalSet_6 (fun q2 => ?_) (fun q2 => ?_)
  · refine Wk.iconst o_inFinalSet_26 (z := (0 : Int32)) (by decide) ?_
    first | (rw [show ((if (R_vol A p1) = p2 then (if (f_abs (R_surplus A p1)) = p3 then (1 : Int32) else (0 : Int32)) else (0 : Int32)) : Int32) = (0 : Int32) from if_neg q2] at J6; exact J6) | exact J6 | (simp only [if_neg q2] at J6 ⊢; exact J6)
  · refine Wk.aloadN o_inFinalSet_9 rfl ?_
    refine Wk.aloadN o_inFinalSet_10 rfl ?_
    refine Wk.iloadN o_inFinalSet_11 rfl ?_
    refine Wk.callF [.int p1] [.ref 0] (H.w 105 rfl) (cv_surplus H) o_inFinalSet_12 (run_surplus H F G A B p1 (s3 q2)) (wt := 1) (cu' := 0) (su' := 0) (by decide) rfl rfl rfl rfl rfl rfl rfl ?_
    refine Wk.callF [.int (R_surplus A p1)] [] (H.w 109 rfl) (cv_abs H) o_inFinalSet_15 (run_abs H F G A B (R_surplus A p1)) (wt := 0) (cu' := 0) (su' := 0) (by decide) rfl rfl rfl rfl rfl rfl rfl ?_
    refine Wk.iloadN o_inFinalSet_18 rfl ?_
    refine Wk.icmp_ne o_inFinalSet_19 (fun q4 => ?_) (fun q4 => ?_)
    · refine Wk.iconst o_inFinalSet_26 (z := (0 : Int32)) (by decide) ?_
      first | (rw [show ((if (R_vol A p1) = p2 then (if (f_abs (R_surplus A p1)) = p3 then (1 : Int32) else (0 : Int32)) else (0 : Int32)) : Int32) = (0 : Int32) from Eq.trans (if_pos q2) <| if_neg q4] at J6; exact J6) | exact J6 | (simp only [if_pos q2, if_neg q4] at J6 ⊢; exact J6)
    · refine Wk.iconst o_inFinalSet_22 (z := (1 : Int32)) (by decide) ?_
      refine Wk.goto o_inFinalSet_23 ?_
      first | (rw [show ((if (R_vol A p1) = p2 then (if (f_abs (R_surplus A p1)) = p3 then (1 : Int32) else (0 : Int32)) else (0 : Int32)) : Int32) = (1 : Int32) from Eq.trans (if_pos q2) <| if_pos q4] at J6; exact J6) | exact J6 | (simp only [if_pos q2, if_pos q4] at J6 ⊢; exact J6)

theorem rt_inFinalSet (F : Nat → Int32) (G : Nat → Int64) (A : Nat → Int32 → Int32) (B : Nat → Int32 → Int64) (v0 : Int32) (r : Int32) (e : v0 = r) : some (Value.int v0) = some (.int r) ∧ (11, F, G, A, B) = (11, F, G, A, B) := by subst e; exact ⟨rfl, rfl⟩
def en_inFinalSet (A : Nat → Int32 → Int32) (p1 : Int32) (p2 : Int32) (p3 : Int32) : Option (Int32) := (if ((en_vol A p1).isSome = true) ∧ ((R_vol A p1) = p2 → (en_surplus A p1).isSome = true) then some ((nar .boolean (if (R_vol A p1) = p2 then (if (f_abs (R_surplus A p1)) = p3 then (1 : Int32) else (0 : Int32)) else (0 : Int32)))) else none)
theorem een_inFinalSet (A : Nat → Int32 → Int32) (p1 : Int32) (p2 : Int32) (p3 : Int32) : en_inFinalSet A p1 p2 p3 = (if ((en_vol A p1).isSome = true) ∧ ((R_vol A p1) = p2 → (en_surplus A p1).isSome = true) then some ((nar .boolean (if (R_vol A p1) = p2 then (if (f_abs (R_surplus A p1)) = p3 then (1 : Int32) else (0 : Int32)) else (0 : Int32)))) else none) := Eq.trans rfl rfl
def R_inFinalSet (A : Nat → Int32 → Int32) (p1 : Int32) (p2 : Int32) (p3 : Int32) : Int32 := (en_inFinalSet A p1 p2 p3).getD (0)
theorem eR_inFinalSet (A : Nat → Int32 → Int32) (p1 : Int32) (p2 : Int32) (p3 : Int32) : R_inFinalSet A p1 p2 p3 = (en_inFinalSet A p1 p2 p3).getD (0) := Eq.trans rfl rfl
set_option maxRecDepth 65536 in
set_option maxHeartbeats 4000000 in
theorem run_inFinalSet {l : Launch} {Z : State} {a0 : Array Value} (H : OK Z a0) (F : Nat → Int32) (G : Nat → Int64) (A : Nat → Int32 → Int32) (B : Nat → Int32 → Int64) (p1 : Int32) (p2 : Int32) (p3 : Int32) (e1 : (en_inFinalSet A p1 p2 p3).isSome = true) :
    Wk l Z (MoC Z cdC) md_inFinalSet 0 [.val (.ref 0), .val (.int p1), .val (.int p2), .val (.int p3)] [] (11, F, G, A, B) 0 0 (fun v w' => v = some (.int (R_inFinalSet A p1 p2 p3)) ∧ w' = (11, F, G, A, B)) := by
  obtain ⟨r, h⟩ := Option.isSome_iff_exists.mp e1
  have e : R_inFinalSet A p1 p2 p3 = r := (eR_inFinalSet A p1 p2 p3).trans (getD_some h)
  rw [e]
  rw [een_inFinalSet] at h
  exact wp_inFinalSet H F G A B p1 p2 p3 ((gd h).1.1) (fun q2 => ((gd h).1.2) q2) ((rt_inFinalSet _ _ _ _ _ r (Option.some.inj (gd h).2)))
set_option maxRecDepth 65536 in
set_option maxHeartbeats 4000000 in
theorem wp_nearestToRef {l : Launch} {Z : State} {a0 : Array Value} (H : OK Z a0) (F : Nat → Int32) (G : Nat → Int64) (A : Nat → Int32 → Int32) (B : Nat → Int32 → Int64) (p1 : Int32) (p2 : Int32) {Q : Option Value → WO → Prop} (h1 : Wk l Z (MoC Z cdC) md_nearestToRef 8 [.val (.ref 0), .val (.int p1), .val (.int p2), .val (.int (0 : Int32)), .val (.int (-1 : Int32)), .val (.int (1 : Int32)), .unset] [] (11, F, G, A, B) 0 0 Q) :
    Wk l Z (MoC Z cdC) md_nearestToRef 0 [.val (.ref 0), .val (.int p1), .val (.int p2), .unset, .unset, .unset, .unset] [] (11, F, G, A, B) 0 0 Q := by
  refine Wk.iconst o_nearestToRef_0 (z := (0 : Int32)) (by decide) ?_
  refine Wk.istoreN o_nearestToRef_1 (Or.inl rfl) (L' := [.val (.ref 0), .val (.int p1), .val (.int p2), .val (.int (0 : Int32)), .unset, .unset, .unset]) rfl ?_
  refine Wk.iconst o_nearestToRef_2 (z := (-1 : Int32)) (by decide) ?_
  refine Wk.istore o_nearestToRef_3 (Or.inl rfl) (L' := [.val (.ref 0), .val (.int p1), .val (.int p2), .val (.int (0 : Int32)), .val (.int (-1 : Int32)), .unset, .unset]) rfl ?_
  refine Wk.iconst o_nearestToRef_5 (z := (1 : Int32)) (by decide) ?_
  refine Wk.istore o_nearestToRef_6 (Or.inl rfl) (L' := [.val (.ref 0), .val (.int p1), .val (.int p2), .val (.int (0 : Int32)), .val (.int (-1 : Int32)), .val (.int (1 : Int32)), .unset]) rfl ?_
  exact h1

set_option maxRecDepth 65536 in
set_option maxHeartbeats 4000000 in
theorem wp_nearestToRef_8 {l : Launch} {Z : State} {a0 : Array Value} (H : OK Z a0) (F : Nat → Int32) (G : Nat → Int64) (A : Nat → Int32 → Int32) (B : Nat → Int32 → Int64) (v1 : Int32) (v2 : Int32) (v3 : Int32) (v4 : Int32) (v5 : Int32) {Q : Option Value → WO → Prop} (h2 : (255 : Int32) < v5 → Q (some (.int v3)) (11, F, G, A, B)) (s3 : ¬ (255 : Int32) < v5 → (en_inFinalSet A v5 v1 v2).isSome = true) (h10 : ¬ (255 : Int32) < v5 → Wk l Z (MoC Z cdC) md_nearestToRef 8 [.val (.ref 0), .val (.int v1), .val (.int v2), .val (.int (if (R_inFinalSet A v5 v1 v2) = 0 then v3 else (if v4 < 0 then v5 else (if (f_abs (v5 - (F 2))) < v4 then v5 else v3)))), .val (.int (if (R_inFinalSet A v5 v1 v2) = 0 then v4 else (if v4 < 0 then (f_abs (v5 - (F 2))) else (if (f_abs (v5 - (F 2))) < v4 then (f_abs (v5 - (F 2))) else v4)))), .val (.int (v5 + (1 : Int32))), .unset] [] (11, F, G, A, B) 0 0 Q) :
    Wk l Z (MoC Z cdC) md_nearestToRef 8 [.val (.ref 0), .val (.int v1), .val (.int v2), .val (.int v3), .val (.int v4), .val (.int v5), .unset] [] (11, F, G, A, B) 0 0 Q := by
  refine Wk.iload o_nearestToRef_8 rfl ?_
  refine Wk.sipush o_nearestToRef_10 (z := (255 : Int32)) (by decide) ?_
  refine Wk.icmp_gt o_nearestToRef_13 (fun q1 => ?_) (fun q1 => ?_)
  · refine Wk.iloadN o_nearestToRef_68 rfl ?_
    exact Wk.ireturn mrC rfl o_nearestToRef_69 rfl (by decide) (by decide) (h2 q1)
  · refine Wk.aloadN o_nearestToRef_16 rfl ?_
    refine Wk.iload o_nearestToRef_17 rfl ?_
    refine Wk.iloadN o_nearestToRef_19 rfl ?_
    refine Wk.iloadN o_nearestToRef_20 rfl ?_
    refine Wk.callF [.int v5, .int v1, .int v2] [] (H.w 113 rfl) (cv_inFinalSet H) o_nearestToRef_21 (run_inFinalSet H F G A B v5 v1 v2 (s3 q1)) (wt := 0) (cu' := 0) (su' := 0) (by decide) rfl rfl rfl rfl rfl rfl rfl ?_
    have J9 : Wk l Z (MoC Z cdC) md_nearestToRef 62 [.val (.ref 0), .val (.int v1), .val (.int v2), .val (.int (if (R_inFinalSet A v5 v1 v2) = 0 then v3 else (if v4 < 0 then v5 else (if (f_abs (v5 - (F 2))) < v4 then v5 else v3)))), .val (.int (if (R_inFinalSet A v5 v1 v2) = 0 then v4 else (if v4 < 0 then (f_abs (v5 - (F 2))) else (if (f_abs (v5 - (F 2))) < v4 then (f_abs (v5 - (F 2))) else v4)))), .val (.int v5), .unset] [] (11, F, G, A, B) 0 0 Q := by
      refine Wk.iinc o_nearestToRef_62 rfl (z := (v5 + (1 : Int32))) rfl (L' := [.val (.ref 0), .val (.int v1), .val (.int v2), .val (.int (if (R_inFinalSet A v5 v1 v2) = 0 then v3 else (if v4 < 0 then v5 else (if (f_abs (v5 - (F 2))) < v4 then v5 else v3)))), .val (.int (if (R_inFinalSet A v5 v1 v2) = 0 then v4 else (if v4 < 0 then (f_abs (v5 - (F 2))) else (if (f_abs (v5 - (F 2))) < v4 then (f_abs (v5 - (F 2))) else v4)))), .val (.int (v5 + (1 : Int32))), .unset]) rfl ?_
      refine Wk.goto o_nearestToRef_65 ?_
      exact (h10 q1)
    refine Wk.if_ne o_nearestToRef_24 (fun q4 => ?_) (fun q4 => ?_)
    · refine Wk.aloadN o_nearestToRef_30 rfl ?_
      refine Wk.iload o_nearestToRef_31 rfl ?_
      refine Wk.aloadN o_nearestToRef_33 rfl ?_
      refine Wk.getI (mI_ref) (wf_ref H) o_nearestToRef_34 (x := (F 2)) rfl ?_
      refine Wk.isub o_nearestToRef_37 ?_
      refine Wk.callF [.int (v5 - (F 2))] [] (H.w 109 rfl) (cv_abs H) o_nearestToRef_38 (run_abs H F G A B (v5 - (F 2))) (wt := 0) (cu' := 0) (su' := 0) (by decide) rfl rfl rfl rfl rfl rfl rfl ?_
      refine Wk.istore o_nearestToRef_41 (Or.inl rfl) (L' := [.val (.ref 0), .val (.int v1), .val (.int v2), .val (.int v3), .val (.int v4), .val (.int v5), .val (.int (f_abs (v5 - (F 2))))]) rfl ?_
      refine Wk.iload o_nearestToRef_43 rfl ?_
      refine Wk.if_lt o_nearestToRef_45 (fun q5 => ?_) (fun q5 => ?_)
      · refine Wk.iload o_nearestToRef_55 rfl ?_
        refine Wk.istore o_nearestToRef_57 (Or.inr ⟨_, rfl, rfl⟩) (L' := [.val (.ref 0), .val (.int v1), .val (.int v2), .val (.int v3), .val (.int (f_abs (v5 - (F 2)))), .val (.int v5), .val (.int (f_abs (v5 - (F 2))))]) rfl ?_
        refine Wk.iload o_nearestToRef_59 rfl ?_
        refine Wk.istoreN o_nearestToRef_61 (Or.inr ⟨_, rfl, rfl⟩) (L' := [.val (.ref 0), .val (.int v1), .val (.int v2), .val (.int v5), .val (.int (f_abs (v5 - (F 2)))), .val (.int v5), .val (.int (f_abs (v5 - (F 2))))]) rfl ?_
        refine Wk.forget [false, false, false, false, false, false, true] (L' := [.val (.ref 0), .val (.int v1), .val (.int v2), .val (.int v5), .val (.int (f_abs (v5 - (F 2)))), .val (.int v5), .unset]) rfl rfl ?_
        first | (rw [show ((if (R_inFinalSet A v5 v1 v2) = 0 then v3 else (if v4 < 0 then v5 else (if (f_abs (v5 - (F 2))) < v4 then v5 else v3))) : Int32) = v5 from Eq.trans (if_neg q4) <| if_pos q5, show ((if (R_inFinalSet A v5 v1 v2) = 0 then v4 else (if v4 < 0 then (f_abs (v5 - (F 2))) else (if (f_abs (v5 - (F 2))) < v4 then (f_abs (v5 - (F 2))) else v4))) : Int32) = (f_abs (v5 - (F 2))) from Eq.trans (if_neg q4) <| if_pos q5] at J9; exact J9) | exact J9 | (simp only [if_neg q4, if_pos q5] at J9 ⊢; exact J9)
      · refine Wk.iload o_nearestToRef_48 rfl ?_
        refine Wk.iload o_nearestToRef_50 rfl ?_
        refine Wk.icmp_ge o_nearestToRef_52 (fun q6 => ?_) (fun q6 => ?_)
        · refine Wk.forget [false, false, false, false, false, false, true] (L' := [.val (.ref 0), .val (.int v1), .val (.int v2), .val (.int v3), .val (.int v4), .val (.int v5), .unset]) rfl rfl ?_
          first | (rw [show ((if (R_inFinalSet A v5 v1 v2) = 0 then v3 else (if v4 < 0 then v5 else (if (f_abs (v5 - (F 2))) < v4 then v5 else v3))) : Int32) = v3 from Eq.trans (if_neg q4) <| Eq.trans (if_neg q5) <| if_neg q6, show ((if (R_inFinalSet A v5 v1 v2) = 0 then v4 else (if v4 < 0 then (f_abs (v5 - (F 2))) else (if (f_abs (v5 - (F 2))) < v4 then (f_abs (v5 - (F 2))) else v4))) : Int32) = v4 from Eq.trans (if_neg q4) <| Eq.trans (if_neg q5) <| if_neg q6] at J9; exact J9) | exact J9 | (simp only [if_neg q4, if_neg q5, if_neg q6] at J9 ⊢; exact J9)
        · refine Wk.iload o_nearestToRef_55 rfl ?_
          refine Wk.istore o_nearestToRef_57 (Or.inr ⟨_, rfl, rfl⟩) (L' := [.val (.ref 0), .val (.int v1), .val (.int v2), .val (.int v3), .val (.int (f_abs (v5 - (F 2)))), .val (.int v5), .val (.int (f_abs (v5 - (F 2))))]) rfl ?_
          refine Wk.iload o_nearestToRef_59 rfl ?_
          refine Wk.istoreN o_nearestToRef_61 (Or.inr ⟨_, rfl, rfl⟩) (L' := [.val (.ref 0), .val (.int v1), .val (.int v2), .val (.int v5), .val (.int (f_abs (v5 - (F 2)))), .val (.int v5), .val (.int (f_abs (v5 - (F 2))))]) rfl ?_
          refine Wk.forget [false, false, false, false, false, false, true] (L' := [.val (.ref 0), .val (.int v1), .val (.int v2), .val (.int v5), .val (.int (f_abs (v5 - (F 2)))), .val (.int v5), .unset]) rfl rfl ?_
          first | (rw [show ((if (R_inFinalSet A v5 v1 v2) = 0 then v3 else (if v4 < 0 then v5 else (if (f_abs (v5 - (F 2))) < v4 then v5 else v3))) : Int32) = v5 from Eq.trans (if_neg q4) <| Eq.trans (if_neg q5) <| if_pos q6, show ((if (R_inFinalSet A v5 v1 v2) = 0 then v4 else (if v4 < 0 then (f_abs (v5 - (F 2))) else (if (f_abs (v5 - (F 2))) < v4 then (f_abs (v5 - (F 2))) else v4))) : Int32) = (f_abs (v5 - (F 2))) from Eq.trans (if_neg q4) <| Eq.trans (if_neg q5) <| if_pos q6] at J9; exact J9) | exact J9 | (simp only [if_neg q4, if_neg q5, if_pos q6] at J9 ⊢; exact J9)
    · refine Wk.goto o_nearestToRef_27 ?_
      first | (rw [show ((if (R_inFinalSet A v5 v1 v2) = 0 then v3 else (if v4 < 0 then v5 else (if (f_abs (v5 - (F 2))) < v4 then v5 else v3))) : Int32) = v3 from if_pos q4, show ((if (R_inFinalSet A v5 v1 v2) = 0 then v4 else (if v4 < 0 then (f_abs (v5 - (F 2))) else (if (f_abs (v5 - (F 2))) < v4 then (f_abs (v5 - (F 2))) else v4))) : Int32) = v4 from if_pos q4] at J9; exact J9) | exact J9 | (simp only [if_pos q4] at J9 ⊢; exact J9)

theorem rt_nearestToRef (F : Nat → Int32) (G : Nat → Int64) (A : Nat → Int32 → Int32) (B : Nat → Int32 → Int64) (v0 : Int32) (r : Int32) (e : v0 = r) : some (Value.int v0) = some (.int r) ∧ (11, F, G, A, B) = (11, F, G, A, B) := by subst e; exact ⟨rfl, rfl⟩
def lp_nearestToRef : Nat → Nat → Int32 → Int32 → Int32 → Int32 → Int32 → (Nat → Int32) → (Nat → Int32 → Int32) → Option (Int32)
  | 0, _, _, _, _, _, _, _, _ => none
  | n + 1, tag, v1, v2, v3, v4, v5, F, A => if tag = 8 then (if (255 : Int32) < v5 then some (v3) else (if ((en_inFinalSet A v5 v1 v2).isSome = true) then lp_nearestToRef n 8 v1 v2 (if (R_inFinalSet A v5 v1 v2) = 0 then v3 else (if v4 < 0 then v5 else (if (f_abs (v5 - (F 2))) < v4 then v5 else v3))) (if (R_inFinalSet A v5 v1 v2) = 0 then v4 else (if v4 < 0 then (f_abs (v5 - (F 2))) else (if (f_abs (v5 - (F 2))) < v4 then (f_abs (v5 - (F 2))) else v4))) (v5 + (1 : Int32)) F A else none)) else none
theorem lp_nearestToRef_z (tag : Nat) (v1 : Int32) (v2 : Int32) (v3 : Int32) (v4 : Int32) (v5 : Int32) (F : Nat → Int32) (A : Nat → Int32 → Int32) : lp_nearestToRef 0 tag v1 v2 v3 v4 v5 F A = none := Eq.trans rfl rfl
theorem lp_nearestToRef_8 (n : Nat) (v1 : Int32) (v2 : Int32) (v3 : Int32) (v4 : Int32) (v5 : Int32) (F : Nat → Int32) (A : Nat → Int32 → Int32) : lp_nearestToRef (n + 1) 8 v1 v2 v3 v4 v5 F A = (if (255 : Int32) < v5 then some (v3) else (if ((en_inFinalSet A v5 v1 v2).isSome = true) then lp_nearestToRef n 8 v1 v2 (if (R_inFinalSet A v5 v1 v2) = 0 then v3 else (if v4 < 0 then v5 else (if (f_abs (v5 - (F 2))) < v4 then v5 else v3))) (if (R_inFinalSet A v5 v1 v2) = 0 then v4 else (if v4 < 0 then (f_abs (v5 - (F 2))) else (if (f_abs (v5 - (F 2))) < v4 then (f_abs (v5 - (F 2))) else v4))) (v5 + (1 : Int32)) F A else none)) := by
  rw [lp_nearestToRef, if_pos rfl]
set_option maxRecDepth 65536 in
set_option maxHeartbeats 4000000 in
theorem lpw_nearestToRef {l : Launch} {Z : State} {a0 : Array Value} (H : OK Z a0) (F : Nat → Int32) (G : Nat → Int64) (A : Nat → Int32 → Int32) (B : Nat → Int32 → Int64) : ∀ (n : Nat) (v1 : Int32) (v2 : Int32) (v3 : Int32) (v4 : Int32) (v5 : Int32) (r : Int32), (lp_nearestToRef n 8 v1 v2 v3 v4 v5 F A = some r → Wk l Z (MoC Z cdC) md_nearestToRef 8 [.val (.ref 0), .val (.int v1), .val (.int v2), .val (.int v3), .val (.int v4), .val (.int v5), .unset] [] (11, F, G, A, B) 0 0 (fun v w' => v = some (.int r) ∧ w' = (11, F, G, A, B))) := by
  intro n
  induction n with
  | zero =>
    intro v1 v2 v3 v4 v5  r
    exact (fun h => by rw [lp_nearestToRef_z] at h; cases h)
  | succ n ih =>
    intro v1 v2 v3 v4 v5  r
    refine fun h => ?_
    · rw [lp_nearestToRef_8] at h
      exact wp_nearestToRef_8 H F G A B v1 v2 v3 v4 v5 (fun q1 => (rt_nearestToRef _ _ _ _ _ r (Option.some.inj (ifp q1 h)))) (fun q1 => (gd (ifn q1 h)).1) (fun q1 => (ih _ _ _ _ _ _) (gd (ifn q1 h)).2)
def en_nearestToRef (F : Nat → Int32) (A : Nat → Int32 → Int32) (p1 : Int32) (p2 : Int32) : Option (Int32) := lp_nearestToRef 1000 8 p1 p2 (0 : Int32) (-1 : Int32) (1 : Int32) F A
theorem een_nearestToRef (F : Nat → Int32) (A : Nat → Int32 → Int32) (p1 : Int32) (p2 : Int32) : en_nearestToRef F A p1 p2 = lp_nearestToRef 1000 8 p1 p2 (0 : Int32) (-1 : Int32) (1 : Int32) F A := Eq.trans rfl rfl
def R_nearestToRef (F : Nat → Int32) (A : Nat → Int32 → Int32) (p1 : Int32) (p2 : Int32) : Int32 := (en_nearestToRef F A p1 p2).getD (0)
theorem eR_nearestToRef (F : Nat → Int32) (A : Nat → Int32 → Int32) (p1 : Int32) (p2 : Int32) : R_nearestToRef F A p1 p2 = (en_nearestToRef F A p1 p2).getD (0) := Eq.trans rfl rfl
set_option maxRecDepth 65536 in
set_option maxHeartbeats 4000000 in
theorem run_nearestToRef {l : Launch} {Z : State} {a0 : Array Value} (H : OK Z a0) (F : Nat → Int32) (G : Nat → Int64) (A : Nat → Int32 → Int32) (B : Nat → Int32 → Int64) (p1 : Int32) (p2 : Int32) (e1 : (en_nearestToRef F A p1 p2).isSome = true) :
    Wk l Z (MoC Z cdC) md_nearestToRef 0 [.val (.ref 0), .val (.int p1), .val (.int p2), .unset, .unset, .unset, .unset] [] (11, F, G, A, B) 0 0 (fun v w' => v = some (.int (R_nearestToRef F A p1 p2)) ∧ w' = (11, F, G, A, B)) := by
  obtain ⟨r, h⟩ := Option.isSome_iff_exists.mp e1
  have e : R_nearestToRef F A p1 p2 = r := (eR_nearestToRef F A p1 p2).trans (getD_some h)
  rw [e]
  rw [een_nearestToRef] at h
  exact wp_nearestToRef H F G A B p1 p2 ((lpw_nearestToRef H F G A B _ _ _ _ _ _ _) h)
set_option maxRecDepth 65536 in
set_option maxHeartbeats 4000000 in
theorem wp_choosePrice {l : Launch} {Z : State} {a0 : Array Value} (H : OK Z a0) (F : Nat → Int32) (G : Nat → Int64) (A : Nat → Int32 → Int32) (B : Nat → Int32 → Int64) (p1 : Int32) {Q : Option Value → WO → Prop} (s1 : (en_leastSurplus A p1).isSome = true) (h2 : Wk l Z (MoC Z cdC) md_choosePrice 20 [.val (.ref 0), .val (.int p1), .val (.int (R_leastSurplus A p1)), .val (.int (0 : Int32)), .val (.int (0 : Int32)), .val (.int (0 : Int32)), .val (.int (0 : Int32)), .val (.int (1 : Int32)), .unset] [] (11, F, G, A, B) 0 0 Q) :
    Wk l Z (MoC Z cdC) md_choosePrice 0 [.val (.ref 0), .val (.int p1), .unset, .unset, .unset, .unset, .unset, .unset, .unset] [] (11, F, G, A, B) 0 0 Q := by
  refine Wk.aloadN o_choosePrice_0 rfl ?_
  refine Wk.iloadN o_choosePrice_1 rfl ?_
  refine Wk.callF [.int p1] [] (H.w 101 rfl) (cv_leastSurplus H) o_choosePrice_2 (run_leastSurplus H F G A B p1 s1) (wt := 0) (cu' := 0) (su' := 0) (by decide) rfl rfl rfl rfl rfl rfl rfl ?_
  refine Wk.istoreN o_choosePrice_5 (Or.inl rfl) (L' := [.val (.ref 0), .val (.int p1), .val (.int (R_leastSurplus A p1)), .unset, .unset, .unset, .unset, .unset, .unset]) rfl ?_
  refine Wk.iconst o_choosePrice_6 (z := (0 : Int32)) (by decide) ?_
  refine Wk.istoreN o_choosePrice_7 (Or.inl rfl) (L' := [.val (.ref 0), .val (.int p1), .val (.int (R_leastSurplus A p1)), .val (.int (0 : Int32)), .unset, .unset, .unset, .unset, .unset]) rfl ?_
  refine Wk.iconst o_choosePrice_8 (z := (0 : Int32)) (by decide) ?_
  refine Wk.istore o_choosePrice_9 (Or.inl rfl) (L' := [.val (.ref 0), .val (.int p1), .val (.int (R_leastSurplus A p1)), .val (.int (0 : Int32)), .val (.int (0 : Int32)), .unset, .unset, .unset, .unset]) rfl ?_
  refine Wk.iconst o_choosePrice_11 (z := (0 : Int32)) (by decide) ?_
  refine Wk.istore o_choosePrice_12 (Or.inl rfl) (L' := [.val (.ref 0), .val (.int p1), .val (.int (R_leastSurplus A p1)), .val (.int (0 : Int32)), .val (.int (0 : Int32)), .val (.int (0 : Int32)), .unset, .unset, .unset]) rfl ?_
  refine Wk.iconst o_choosePrice_14 (z := (0 : Int32)) (by decide) ?_
  refine Wk.istore o_choosePrice_15 (Or.inl rfl) (L' := [.val (.ref 0), .val (.int p1), .val (.int (R_leastSurplus A p1)), .val (.int (0 : Int32)), .val (.int (0 : Int32)), .val (.int (0 : Int32)), .val (.int (0 : Int32)), .unset, .unset]) rfl ?_
  refine Wk.iconst o_choosePrice_17 (z := (1 : Int32)) (by decide) ?_
  refine Wk.istore o_choosePrice_18 (Or.inl rfl) (L' := [.val (.ref 0), .val (.int p1), .val (.int (R_leastSurplus A p1)), .val (.int (0 : Int32)), .val (.int (0 : Int32)), .val (.int (0 : Int32)), .val (.int (0 : Int32)), .val (.int (1 : Int32)), .unset]) rfl ?_
  exact h2

set_option maxRecDepth 65536 in
set_option maxHeartbeats 4000000 in
theorem wp_choosePrice_20 {l : Launch} {Z : State} {a0 : Array Value} (H : OK Z a0) (F : Nat → Int32) (G : Nat → Int64) (A : Nat → Int32 → Int32) (B : Nat → Int32 → Int64) (v1 : Int32) (v2 : Int32) (v3 : Int32) (v4 : Int32) (v5 : Int32) (v6 : Int32) (v7 : Int32) {Q : Option Value → WO → Prop} (s4 : (255 : Int32) < v7 → ¬ 0 < v2 → ¬ 0 < v2 → (en_nearestToRef F A v1 v2).isSome = true) (h5 : (255 : Int32) < v7 → ¬ 0 < v2 → ¬ 0 < v2 → Q (some (.int (R_nearestToRef F A v1 v2))) (11, F, G, A, B)) (s7 : (255 : Int32) < v7 → ¬ 0 < v2 → 0 < v2 → v4 = 0 → (en_nearestToRef F A v1 v2).isSome = true) (h8 : (255 : Int32) < v7 → ¬ 0 < v2 → 0 < v2 → v4 = 0 → Q (some (.int (R_nearestToRef F A v1 v2))) (11, F, G, A, B)) (s10 : (255 : Int32) < v7 → ¬ 0 < v2 → 0 < v2 → ¬ v4 = 0 → ¬ v3 = 0 → (en_nearestToRef F A v1 v2).isSome = true) (h11 : (255 : Int32) < v7 → ¬ 0 < v2 → 0 < v2 → ¬ v4 = 0 → ¬ v3 = 0 → Q (some (.int (R_nearestToRef F A v1 v2))) (11, F, G, A, B)) (h12 : (255 : Int32) < v7 → ¬ 0 < v2 → 0 < v2 → ¬ v4 = 0 → v3 = 0 → Q (some (.int v5)) (11, F, G, A, B)) (s15 : (255 : Int32) < v7 → 0 < v2 → v3 = 0 → ¬ 0 < v2 → (en_nearestToRef F A v1 v2).isSome = true) (h16 : (255 : Int32) < v7 → 0 < v2 → v3 = 0 → ¬ 0 < v2 → Q (some (.int (R_nearestToRef F A v1 v2))) (11, F, G, A, B)) (s18 : (255 : Int32) < v7 → 0 < v2 → v3 = 0 → 0 < v2 → v4 = 0 → (en_nearestToRef F A v1 v2).isSome = true) (h19 : (255 : Int32) < v7 → 0 < v2 → v3 = 0 → 0 < v2 → v4 = 0 → Q (some (.int (R_nearestToRef F A v1 v2))) (11, F, G, A, B)) (s21 : (255 : Int32) < v7 → 0 < v2 → v3 = 0 → 0 < v2 → ¬ v4 = 0 → ¬ v3 = 0 → (en_nearestToRef F A v1 v2).isSome = true) (h22 : (255 : Int32) < v7 → 0 < v2 → v3 = 0 → 0 < v2 → ¬ v4 = 0 → ¬ v3 = 0 → Q (some (.int (R_nearestToRef F A v1 v2))) (11, F, G, A, B)) (h23 : (255 : Int32) < v7 → 0 < v2 → v3 = 0 → 0 < v2 → ¬ v4 = 0 → v3 = 0 → Q (some (.int v5)) (11, F, G, A, B)) (s26 : (255 : Int32) < v7 → 0 < v2 → ¬ v3 = 0 → ¬ v4 = 0 → ¬ 0 < v2 → (en_nearestToRef F A v1 v2).isSome = true) (h27 : (255 : Int32) < v7 → 0 < v2 → ¬ v3 = 0 → ¬ v4 = 0 → ¬ 0 < v2 → Q (some (.int (R_nearestToRef F A v1 v2))) (11, F, G, A, B)) (s29 : (255 : Int32) < v7 → 0 < v2 → ¬ v3 = 0 → ¬ v4 = 0 → 0 < v2 → v4 = 0 → (en_nearestToRef F A v1 v2).isSome = true) (h30 : (255 : Int32) < v7 → 0 < v2 → ¬ v3 = 0 → ¬ v4 = 0 → 0 < v2 → v4 = 0 → Q (some (.int (R_nearestToRef F A v1 v2))) (11, F, G, A, B)) (s32 : (255 : Int32) < v7 → 0 < v2 → ¬ v3 = 0 → ¬ v4 = 0 → 0 < v2 → ¬ v4 = 0 → ¬ v3 = 0 → (en_nearestToRef F A v1 v2).isSome = true) (h33 : (255 : Int32) < v7 → 0 < v2 → ¬ v3 = 0 → ¬ v4 = 0 → 0 < v2 → ¬ v4 = 0 → ¬ v3 = 0 → Q (some (.int (R_nearestToRef F A v1 v2))) (11, F, G, A, B)) (h34 : (255 : Int32) < v7 → 0 < v2 → ¬ v3 = 0 → ¬ v4 = 0 → 0 < v2 → ¬ v4 = 0 → v3 = 0 → Q (some (.int v5)) (11, F, G, A, B)) (h35 : (255 : Int32) < v7 → 0 < v2 → ¬ v3 = 0 → v4 = 0 → Q (some (.int v6)) (11, F, G, A, B)) (s36 : ¬ (255 : Int32) < v7 → (en_inFinalSet A v7 v1 v2).isSome = true) (s38 : ¬ (255 : Int32) < v7 → ¬ (R_inFinalSet A v7 v1 v2) = 0 → (en_surplus A v7).isSome = true) (h46 : ¬ (255 : Int32) < v7 → Wk l Z (MoC Z cdC) md_choosePrice 20 [.val (.ref 0), .val (.int v1), .val (.int v2), .val (.int (if (R_inFinalSet A v7 v1 v2) = 0 then v3 else (if 0 < (R_surplus A v7) then (1 : Int32) else v3))), .val (.int (if (R_inFinalSet A v7 v1 v2) = 0 then v4 else (if 0 < (R_surplus A v7) then v4 else (if (R_surplus A v7) < 0 then (1 : Int32) else v4)))), .val (.int (if (R_inFinalSet A v7 v1 v2) = 0 then v5 else (if v5 = 0 then v7 else v5))), .val (.int (if (R_inFinalSet A v7 v1 v2) = 0 then v6 else v7)), .val (.int (v7 + (1 : Int32))), .unset] [] (11, F, G, A, B) 0 0 Q) :
    Wk l Z (MoC Z cdC) md_choosePrice 20 [.val (.ref 0), .val (.int v1), .val (.int v2), .val (.int v3), .val (.int v4), .val (.int v5), .val (.int v6), .val (.int v7), .unset] [] (11, F, G, A, B) 0 0 Q := by
  refine Wk.iload o_choosePrice_20 rfl ?_
  refine Wk.sipush o_choosePrice_22 (z := (255 : Int32)) (by decide) ?_
  refine Wk.icmp_gt o_choosePrice_25 (fun q1 => ?_) (fun q1 => ?_)
  · refine Wk.iloadN o_choosePrice_87 rfl ?_
    refine Wk.if_le o_choosePrice_88 (fun q2 => ?_) (fun q2 => ?_)
    · refine Wk.iloadN o_choosePrice_103 rfl ?_
      refine Wk.if_le o_choosePrice_104 (fun q3 => ?_) (fun q3 => ?_)
      · refine Wk.aloadN o_choosePrice_119 rfl ?_
        refine Wk.iloadN o_choosePrice_120 rfl ?_
        refine Wk.iloadN o_choosePrice_121 rfl ?_
        refine Wk.callF [.int v1, .int v2] [] (H.w 189 rfl) (cv_nearestToRef H) o_choosePrice_122 (run_nearestToRef H F G A B v1 v2 (s4 q1 q2 q3)) (wt := 0) (cu' := 0) (su' := 0) (by decide) rfl rfl rfl rfl rfl rfl rfl ?_
        exact Wk.ireturn mrC rfl o_choosePrice_125 rfl (by decide) (by decide) (h5 q1 q2 q3)
      · refine Wk.iload o_choosePrice_107 rfl ?_
        refine Wk.if_eq o_choosePrice_109 (fun q6 => ?_) (fun q6 => ?_)
        · refine Wk.aloadN o_choosePrice_119 rfl ?_
          refine Wk.iloadN o_choosePrice_120 rfl ?_
          refine Wk.iloadN o_choosePrice_121 rfl ?_
          refine Wk.callF [.int v1, .int v2] [] (H.w 189 rfl) (cv_nearestToRef H) o_choosePrice_122 (run_nearestToRef H F G A B v1 v2 (s7 q1 q2 q3 q6)) (wt := 0) (cu' := 0) (su' := 0) (by decide) rfl rfl rfl rfl rfl rfl rfl ?_
          exact Wk.ireturn mrC rfl o_choosePrice_125 rfl (by decide) (by decide) (h8 q1 q2 q3 q6)
        · refine Wk.iloadN o_choosePrice_112 rfl ?_
          refine Wk.if_ne o_choosePrice_113 (fun q9 => ?_) (fun q9 => ?_)
          · refine Wk.aloadN o_choosePrice_119 rfl ?_
            refine Wk.iloadN o_choosePrice_120 rfl ?_
            refine Wk.iloadN o_choosePrice_121 rfl ?_
            refine Wk.callF [.int v1, .int v2] [] (H.w 189 rfl) (cv_nearestToRef H) o_choosePrice_122 (run_nearestToRef H F G A B v1 v2 (s10 q1 q2 q3 q6 q9)) (wt := 0) (cu' := 0) (su' := 0) (by decide) rfl rfl rfl rfl rfl rfl rfl ?_
            exact Wk.ireturn mrC rfl o_choosePrice_125 rfl (by decide) (by decide) (h11 q1 q2 q3 q6 q9)
          · refine Wk.iload o_choosePrice_116 rfl ?_
            exact Wk.ireturn mrC rfl o_choosePrice_118 rfl (by decide) (by decide) (h12 q1 q2 q3 q6 q9)
    · refine Wk.iloadN o_choosePrice_91 rfl ?_
      refine Wk.if_eq o_choosePrice_92 (fun q13 => ?_) (fun q13 => ?_)
      · refine Wk.iloadN o_choosePrice_103 rfl ?_
        refine Wk.if_le o_choosePrice_104 (fun q14 => ?_) (fun q14 => ?_)
        · refine Wk.aloadN o_choosePrice_119 rfl ?_
          refine Wk.iloadN o_choosePrice_120 rfl ?_
          refine Wk.iloadN o_choosePrice_121 rfl ?_
          refine Wk.callF [.int v1, .int v2] [] (H.w 189 rfl) (cv_nearestToRef H) o_choosePrice_122 (run_nearestToRef H F G A B v1 v2 (s15 q1 q2 q13 q14)) (wt := 0) (cu' := 0) (su' := 0) (by decide) rfl rfl rfl rfl rfl rfl rfl ?_
          exact Wk.ireturn mrC rfl o_choosePrice_125 rfl (by decide) (by decide) (h16 q1 q2 q13 q14)
        · refine Wk.iload o_choosePrice_107 rfl ?_
          refine Wk.if_eq o_choosePrice_109 (fun q17 => ?_) (fun q17 => ?_)
          · refine Wk.aloadN o_choosePrice_119 rfl ?_
            refine Wk.iloadN o_choosePrice_120 rfl ?_
            refine Wk.iloadN o_choosePrice_121 rfl ?_
            refine Wk.callF [.int v1, .int v2] [] (H.w 189 rfl) (cv_nearestToRef H) o_choosePrice_122 (run_nearestToRef H F G A B v1 v2 (s18 q1 q2 q13 q14 q17)) (wt := 0) (cu' := 0) (su' := 0) (by decide) rfl rfl rfl rfl rfl rfl rfl ?_
            exact Wk.ireturn mrC rfl o_choosePrice_125 rfl (by decide) (by decide) (h19 q1 q2 q13 q14 q17)
          · refine Wk.iloadN o_choosePrice_112 rfl ?_
            refine Wk.if_ne o_choosePrice_113 (fun q20 => ?_) (fun q20 => ?_)
            · refine Wk.aloadN o_choosePrice_119 rfl ?_
              refine Wk.iloadN o_choosePrice_120 rfl ?_
              refine Wk.iloadN o_choosePrice_121 rfl ?_
              refine Wk.callF [.int v1, .int v2] [] (H.w 189 rfl) (cv_nearestToRef H) o_choosePrice_122 (run_nearestToRef H F G A B v1 v2 (s21 q1 q2 q13 q14 q17 q20)) (wt := 0) (cu' := 0) (su' := 0) (by decide) rfl rfl rfl rfl rfl rfl rfl ?_
              exact Wk.ireturn mrC rfl o_choosePrice_125 rfl (by decide) (by decide) (h22 q1 q2 q13 q14 q17 q20)
            · refine Wk.iload o_choosePrice_116 rfl ?_
              exact Wk.ireturn mrC rfl o_choosePrice_118 rfl (by decide) (by decide) (h23 q1 q2 q13 q14 q17 q20)
      · refine Wk.iload o_choosePrice_95 rfl ?_
        refine Wk.if_ne o_choosePrice_97 (fun q24 => ?_) (fun q24 => ?_)
        · refine Wk.iloadN o_choosePrice_103 rfl ?_
          refine Wk.if_le o_choosePrice_104 (fun q25 => ?_) (fun q25 => ?_)
          · refine Wk.aloadN o_choosePrice_119 rfl ?_
            refine Wk.iloadN o_choosePrice_120 rfl ?_
            refine Wk.iloadN o_choosePrice_121 rfl ?_
            refine Wk.callF [.int v1, .int v2] [] (H.w 189 rfl) (cv_nearestToRef H) o_choosePrice_122 (run_nearestToRef H F G A B v1 v2 (s26 q1 q2 q13 q24 q25)) (wt := 0) (cu' := 0) (su' := 0) (by decide) rfl rfl rfl rfl rfl rfl rfl ?_
            exact Wk.ireturn mrC rfl o_choosePrice_125 rfl (by decide) (by decide) (h27 q1 q2 q13 q24 q25)
          · refine Wk.iload o_choosePrice_107 rfl ?_
            refine Wk.if_eq o_choosePrice_109 (fun q28 => ?_) (fun q28 => ?_)
            · refine Wk.aloadN o_choosePrice_119 rfl ?_
              refine Wk.iloadN o_choosePrice_120 rfl ?_
              refine Wk.iloadN o_choosePrice_121 rfl ?_
              refine Wk.callF [.int v1, .int v2] [] (H.w 189 rfl) (cv_nearestToRef H) o_choosePrice_122 (run_nearestToRef H F G A B v1 v2 (s29 q1 q2 q13 q24 q25 q28)) (wt := 0) (cu' := 0) (su' := 0) (by decide) rfl rfl rfl rfl rfl rfl rfl ?_
              exact Wk.ireturn mrC rfl o_choosePrice_125 rfl (by decide) (by decide) (h30 q1 q2 q13 q24 q25 q28)
            · refine Wk.iloadN o_choosePrice_112 rfl ?_
              refine Wk.if_ne o_choosePrice_113 (fun q31 => ?_) (fun q31 => ?_)
              · refine Wk.aloadN o_choosePrice_119 rfl ?_
                refine Wk.iloadN o_choosePrice_120 rfl ?_
                refine Wk.iloadN o_choosePrice_121 rfl ?_
                refine Wk.callF [.int v1, .int v2] [] (H.w 189 rfl) (cv_nearestToRef H) o_choosePrice_122 (run_nearestToRef H F G A B v1 v2 (s32 q1 q2 q13 q24 q25 q28 q31)) (wt := 0) (cu' := 0) (su' := 0) (by decide) rfl rfl rfl rfl rfl rfl rfl ?_
                exact Wk.ireturn mrC rfl o_choosePrice_125 rfl (by decide) (by decide) (h33 q1 q2 q13 q24 q25 q28 q31)
              · refine Wk.iload o_choosePrice_116 rfl ?_
                exact Wk.ireturn mrC rfl o_choosePrice_118 rfl (by decide) (by decide) (h34 q1 q2 q13 q24 q25 q28 q31)
        · refine Wk.iload o_choosePrice_100 rfl ?_
          exact Wk.ireturn mrC rfl o_choosePrice_102 rfl (by decide) (by decide) (h35 q1 q2 q13 q24)
  · refine Wk.aloadN o_choosePrice_28 rfl ?_
    refine Wk.iload o_choosePrice_29 rfl ?_
    refine Wk.iloadN o_choosePrice_31 rfl ?_
    refine Wk.iloadN o_choosePrice_32 rfl ?_
    refine Wk.callF [.int v7, .int v1, .int v2] [] (H.w 113 rfl) (cv_inFinalSet H) o_choosePrice_33 (run_inFinalSet H F G A B v7 v1 v2 (s36 q1)) (wt := 0) (cu' := 0) (su' := 0) (by decide) rfl rfl rfl rfl rfl rfl rfl ?_
    have J45 : Wk l Z (MoC Z cdC) md_choosePrice 81 [.val (.ref 0), .val (.int v1), .val (.int v2), .val (.int (if (R_inFinalSet A v7 v1 v2) = 0 then v3 else (if 0 < (R_surplus A v7) then (1 : Int32) else v3))), .val (.int (if (R_inFinalSet A v7 v1 v2) = 0 then v4 else (if 0 < (R_surplus A v7) then v4 else (if (R_surplus A v7) < 0 then (1 : Int32) else v4)))), .val (.int (if (R_inFinalSet A v7 v1 v2) = 0 then v5 else (if v5 = 0 then v7 else v5))), .val (.int (if (R_inFinalSet A v7 v1 v2) = 0 then v6 else v7)), .val (.int v7), .unset] [] (11, F, G, A, B) 0 0 Q := by
      refine Wk.iinc o_choosePrice_81 rfl (z := (v7 + (1 : Int32))) rfl (L' := [.val (.ref 0), .val (.int v1), .val (.int v2), .val (.int (if (R_inFinalSet A v7 v1 v2) = 0 then v3 else (if 0 < (R_surplus A v7) then (1 : Int32) else v3))), .val (.int (if (R_inFinalSet A v7 v1 v2) = 0 then v4 else (if 0 < (R_surplus A v7) then v4 else (if (R_surplus A v7) < 0 then (1 : Int32) else v4)))), .val (.int (if (R_inFinalSet A v7 v1 v2) = 0 then v5 else (if v5 = 0 then v7 else v5))), .val (.int (if (R_inFinalSet A v7 v1 v2) = 0 then v6 else v7)), .val (.int (v7 + (1 : Int32))), .unset]) rfl ?_
      refine Wk.goto o_choosePrice_84 ?_
      exact (h46 q1)
    refine Wk.if_ne o_choosePrice_36 (fun q37 => ?_) (fun q37 => ?_)
    · refine Wk.aloadN o_choosePrice_42 rfl ?_
      refine Wk.iload o_choosePrice_43 rfl ?_
      refine Wk.callF [.int v7] [] (H.w 105 rfl) (cv_surplus H) o_choosePrice_45 (run_surplus H F G A B v7 (s38 q1 q37)) (wt := 0) (cu' := 0) (su' := 0) (by decide) rfl rfl rfl rfl rfl rfl rfl ?_
      refine Wk.istore o_choosePrice_48 (Or.inl rfl) (L' := [.val (.ref 0), .val (.int v1), .val (.int v2), .val (.int v3), .val (.int v4), .val (.int v5), .val (.int v6), .val (.int v7), .val (.int (R_surplus A v7))]) rfl ?_
      refine Wk.iload o_choosePrice_50 rfl ?_
      have J42 : Wk l Z (MoC Z cdC) md_choosePrice 68 [.val (.ref 0), .val (.int v1), .val (.int v2), .val (.int (if 0 < (R_surplus A v7) then (1 : Int32) else v3)), .val (.int (if 0 < (R_surplus A v7) then v4 else (if (R_surplus A v7) < 0 then (1 : Int32) else v4))), .val (.int v5), .val (.int v6), .val (.int v7), .val (.int (R_surplus A v7))] [] (11, F, G, A, B) 0 0 Q := by
        refine Wk.iload o_choosePrice_68 rfl ?_
        have J44 : Wk l Z (MoC Z cdC) md_choosePrice 77 [.val (.ref 0), .val (.int v1), .val (.int v2), .val (.int (if 0 < (R_surplus A v7) then (1 : Int32) else v3)), .val (.int (if 0 < (R_surplus A v7) then v4 else (if (R_surplus A v7) < 0 then (1 : Int32) else v4))), .val (.int (if v5 = 0 then v7 else v5)), .val (.int v6), .val (.int v7), .val (.int (R_surplus A v7))] [] (11, F, G, A, B) 0 0 Q := by
          refine Wk.iload o_choosePrice_77 rfl ?_
          refine Wk.istore o_choosePrice_79 (Or.inr ⟨_, rfl, rfl⟩) (L' := [.val (.ref 0), .val (.int v1), .val (.int v2), .val (.int (if 0 < (R_surplus A v7) then (1 : Int32) else v3)), .val (.int (if 0 < (R_surplus A v7) then v4 else (if (R_surplus A v7) < 0 then (1 : Int32) else v4))), .val (.int (if v5 = 0 then v7 else v5)), .val (.int v7), .val (.int v7), .val (.int (R_surplus A v7))]) rfl ?_
          refine Wk.forget [false, false, false, false, false, false, false, false, true] (L' := [.val (.ref 0), .val (.int v1), .val (.int v2), .val (.int (if 0 < (R_surplus A v7) then (1 : Int32) else v3)), .val (.int (if 0 < (R_surplus A v7) then v4 else (if (R_surplus A v7) < 0 then (1 : Int32) else v4))), .val (.int (if v5 = 0 then v7 else v5)), .val (.int v7), .val (.int v7), .unset]) rfl rfl ?_
          first | (rw [show ((if (R_inFinalSet A v7 v1 v2) = 0 then v3 else (if 0 < (R_surplus A v7) then (1 : Int32) else v3)) : Int32) = (if 0 < (R_surplus A v7) then (1 : Int32) else v3) from if_neg q37, show ((if (R_inFinalSet A v7 v1 v2) = 0 then v4 else (if 0 < (R_surplus A v7) then v4 else (if (R_surplus A v7) < 0 then (1 : Int32) else v4))) : Int32) = (if 0 < (R_surplus A v7) then v4 else (if (R_surplus A v7) < 0 then (1 : Int32) else v4)) from if_neg q37, show ((if (R_inFinalSet A v7 v1 v2) = 0 then v5 else (if v5 = 0 then v7 else v5)) : Int32) = (if v5 = 0 then v7 else v5) from if_neg q37, show ((if (R_inFinalSet A v7 v1 v2) = 0 then v6 else v7) : Int32) = v7 from if_neg q37] at J45; exact J45) | exact J45 | (simp only [if_neg q37] at J45 ⊢; exact J45)
        refine Wk.if_ne o_choosePrice_70 (fun q43 => ?_) (fun q43 => ?_)
        · first | (rw [show ((if v5 = 0 then v7 else v5) : Int32) = v5 from if_neg q43] at J44; exact J44) | exact J44 | (simp only [if_neg q43] at J44 ⊢; exact J44)
        · refine Wk.iload o_choosePrice_73 rfl ?_
          refine Wk.istore o_choosePrice_75 (Or.inr ⟨_, rfl, rfl⟩) (L' := [.val (.ref 0), .val (.int v1), .val (.int v2), .val (.int (if 0 < (R_surplus A v7) then (1 : Int32) else v3)), .val (.int (if 0 < (R_surplus A v7) then v4 else (if (R_surplus A v7) < 0 then (1 : Int32) else v4))), .val (.int v7), .val (.int v6), .val (.int v7), .val (.int (R_surplus A v7))]) rfl ?_
          first | (rw [show ((if v5 = 0 then v7 else v5) : Int32) = v7 from if_pos q43] at J44; exact J44) | exact J44 | (simp only [if_pos q43] at J44 ⊢; exact J44)
      refine Wk.if_le o_choosePrice_52 (fun q39 => ?_) (fun q39 => ?_)
      · refine Wk.iload o_choosePrice_60 rfl ?_
        refine Wk.if_ge o_choosePrice_62 (fun q40 => ?_) (fun q40 => ?_)
        · first | (rw [show ((if 0 < (R_surplus A v7) then (1 : Int32) else v3) : Int32) = v3 from if_neg q39, show ((if 0 < (R_surplus A v7) then v4 else (if (R_surplus A v7) < 0 then (1 : Int32) else v4)) : Int32) = v4 from Eq.trans (if_neg q39) <| if_neg q40] at J42; exact J42) | exact J42 | (simp only [if_neg q39, if_neg q40] at J42 ⊢; exact J42)
        · refine Wk.iconst o_choosePrice_65 (z := (1 : Int32)) (by decide) ?_
          refine Wk.istore o_choosePrice_66 (Or.inr ⟨_, rfl, rfl⟩) (L' := [.val (.ref 0), .val (.int v1), .val (.int v2), .val (.int v3), .val (.int (1 : Int32)), .val (.int v5), .val (.int v6), .val (.int v7), .val (.int (R_surplus A v7))]) rfl ?_
          first | (rw [show ((if 0 < (R_surplus A v7) then (1 : Int32) else v3) : Int32) = v3 from if_neg q39, show ((if 0 < (R_surplus A v7) then v4 else (if (R_surplus A v7) < 0 then (1 : Int32) else v4)) : Int32) = (1 : Int32) from Eq.trans (if_neg q39) <| if_pos q40] at J42; exact J42) | exact J42 | (simp only [if_neg q39, if_pos q40] at J42 ⊢; exact J42)
      · refine Wk.iconst o_choosePrice_55 (z := (1 : Int32)) (by decide) ?_
        refine Wk.istoreN o_choosePrice_56 (Or.inr ⟨_, rfl, rfl⟩) (L' := [.val (.ref 0), .val (.int v1), .val (.int v2), .val (.int (1 : Int32)), .val (.int v4), .val (.int v5), .val (.int v6), .val (.int v7), .val (.int (R_surplus A v7))]) rfl ?_
        refine Wk.goto o_choosePrice_57 ?_
        first | (rw [show ((if 0 < (R_surplus A v7) then (1 : Int32) else v3) : Int32) = (1 : Int32) from if_pos q39, show ((if 0 < (R_surplus A v7) then v4 else (if (R_surplus A v7) < 0 then (1 : Int32) else v4)) : Int32) = v4 from if_pos q39] at J42; exact J42) | exact J42 | (simp only [if_pos q39] at J42 ⊢; exact J42)
    · refine Wk.goto o_choosePrice_39 ?_
      first | (rw [show ((if (R_inFinalSet A v7 v1 v2) = 0 then v3 else (if 0 < (R_surplus A v7) then (1 : Int32) else v3)) : Int32) = v3 from if_pos q37, show ((if (R_inFinalSet A v7 v1 v2) = 0 then v4 else (if 0 < (R_surplus A v7) then v4 else (if (R_surplus A v7) < 0 then (1 : Int32) else v4))) : Int32) = v4 from if_pos q37, show ((if (R_inFinalSet A v7 v1 v2) = 0 then v5 else (if v5 = 0 then v7 else v5)) : Int32) = v5 from if_pos q37, show ((if (R_inFinalSet A v7 v1 v2) = 0 then v6 else v7) : Int32) = v6 from if_pos q37] at J45; exact J45) | exact J45 | (simp only [if_pos q37] at J45 ⊢; exact J45)

theorem rt_choosePrice (F : Nat → Int32) (G : Nat → Int64) (A : Nat → Int32 → Int32) (B : Nat → Int32 → Int64) (v0 : Int32) (r : Int32) (e : v0 = r) : some (Value.int v0) = some (.int r) ∧ (11, F, G, A, B) = (11, F, G, A, B) := by subst e; exact ⟨rfl, rfl⟩
def lp_choosePrice : Nat → Nat → Int32 → Int32 → Int32 → Int32 → Int32 → Int32 → Int32 → (Nat → Int32) → (Nat → Int32 → Int32) → Option (Int32)
  | 0, _, _, _, _, _, _, _, _, _, _ => none
  | n + 1, tag, v1, v2, v3, v4, v5, v6, v7, F, A => if tag = 20 then (if (255 : Int32) < v7 then (if 0 < v2 then (if v3 = 0 then (if 0 < v2 then (if v4 = 0 then (if ((en_nearestToRef F A v1 v2).isSome = true) then some ((R_nearestToRef F A v1 v2)) else none) else (if v3 = 0 then some (v5) else (if ((en_nearestToRef F A v1 v2).isSome = true) then some ((R_nearestToRef F A v1 v2)) else none))) else (if ((en_nearestToRef F A v1 v2).isSome = true) then some ((R_nearestToRef F A v1 v2)) else none)) else (if v4 = 0 then some (v6) else (if 0 < v2 then (if v4 = 0 then (if ((en_nearestToRef F A v1 v2).isSome = true) then some ((R_nearestToRef F A v1 v2)) else none) else (if v3 = 0 then some (v5) else (if ((en_nearestToRef F A v1 v2).isSome = true) then some ((R_nearestToRef F A v1 v2)) else none))) else (if ((en_nearestToRef F A v1 v2).isSome = true) then some ((R_nearestToRef F A v1 v2)) else none)))) else (if 0 < v2 then (if v4 = 0 then (if ((en_nearestToRef F A v1 v2).isSome = true) then some ((R_nearestToRef F A v1 v2)) else none) else (if v3 = 0 then some (v5) else (if ((en_nearestToRef F A v1 v2).isSome = true) then some ((R_nearestToRef F A v1 v2)) else none))) else (if ((en_nearestToRef F A v1 v2).isSome = true) then some ((R_nearestToRef F A v1 v2)) else none))) else (if ((en_inFinalSet A v7 v1 v2).isSome = true) ∧ (¬ (R_inFinalSet A v7 v1 v2) = 0 → (en_surplus A v7).isSome = true) then lp_choosePrice n 20 v1 v2 (if (R_inFinalSet A v7 v1 v2) = 0 then v3 else (if 0 < (R_surplus A v7) then (1 : Int32) else v3)) (if (R_inFinalSet A v7 v1 v2) = 0 then v4 else (if 0 < (R_surplus A v7) then v4 else (if (R_surplus A v7) < 0 then (1 : Int32) else v4))) (if (R_inFinalSet A v7 v1 v2) = 0 then v5 else (if v5 = 0 then v7 else v5)) (if (R_inFinalSet A v7 v1 v2) = 0 then v6 else v7) (v7 + (1 : Int32)) F A else none)) else none
theorem lp_choosePrice_z (tag : Nat) (v1 : Int32) (v2 : Int32) (v3 : Int32) (v4 : Int32) (v5 : Int32) (v6 : Int32) (v7 : Int32) (F : Nat → Int32) (A : Nat → Int32 → Int32) : lp_choosePrice 0 tag v1 v2 v3 v4 v5 v6 v7 F A = none := Eq.trans rfl rfl
theorem lp_choosePrice_20 (n : Nat) (v1 : Int32) (v2 : Int32) (v3 : Int32) (v4 : Int32) (v5 : Int32) (v6 : Int32) (v7 : Int32) (F : Nat → Int32) (A : Nat → Int32 → Int32) : lp_choosePrice (n + 1) 20 v1 v2 v3 v4 v5 v6 v7 F A = (if (255 : Int32) < v7 then (if 0 < v2 then (if v3 = 0 then (if 0 < v2 then (if v4 = 0 then (if ((en_nearestToRef F A v1 v2).isSome = true) then some ((R_nearestToRef F A v1 v2)) else none) else (if v3 = 0 then some (v5) else (if ((en_nearestToRef F A v1 v2).isSome = true) then some ((R_nearestToRef F A v1 v2)) else none))) else (if ((en_nearestToRef F A v1 v2).isSome = true) then some ((R_nearestToRef F A v1 v2)) else none)) else (if v4 = 0 then some (v6) else (if 0 < v2 then (if v4 = 0 then (if ((en_nearestToRef F A v1 v2).isSome = true) then some ((R_nearestToRef F A v1 v2)) else none) else (if v3 = 0 then some (v5) else (if ((en_nearestToRef F A v1 v2).isSome = true) then some ((R_nearestToRef F A v1 v2)) else none))) else (if ((en_nearestToRef F A v1 v2).isSome = true) then some ((R_nearestToRef F A v1 v2)) else none)))) else (if 0 < v2 then (if v4 = 0 then (if ((en_nearestToRef F A v1 v2).isSome = true) then some ((R_nearestToRef F A v1 v2)) else none) else (if v3 = 0 then some (v5) else (if ((en_nearestToRef F A v1 v2).isSome = true) then some ((R_nearestToRef F A v1 v2)) else none))) else (if ((en_nearestToRef F A v1 v2).isSome = true) then some ((R_nearestToRef F A v1 v2)) else none))) else (if ((en_inFinalSet A v7 v1 v2).isSome = true) ∧ (¬ (R_inFinalSet A v7 v1 v2) = 0 → (en_surplus A v7).isSome = true) then lp_choosePrice n 20 v1 v2 (if (R_inFinalSet A v7 v1 v2) = 0 then v3 else (if 0 < (R_surplus A v7) then (1 : Int32) else v3)) (if (R_inFinalSet A v7 v1 v2) = 0 then v4 else (if 0 < (R_surplus A v7) then v4 else (if (R_surplus A v7) < 0 then (1 : Int32) else v4))) (if (R_inFinalSet A v7 v1 v2) = 0 then v5 else (if v5 = 0 then v7 else v5)) (if (R_inFinalSet A v7 v1 v2) = 0 then v6 else v7) (v7 + (1 : Int32)) F A else none)) := by
  rw [lp_choosePrice, if_pos rfl]
set_option maxRecDepth 65536 in
set_option maxHeartbeats 4000000 in
theorem lpw_choosePrice {l : Launch} {Z : State} {a0 : Array Value} (H : OK Z a0) (F : Nat → Int32) (G : Nat → Int64) (A : Nat → Int32 → Int32) (B : Nat → Int32 → Int64) : ∀ (n : Nat) (v1 : Int32) (v2 : Int32) (v3 : Int32) (v4 : Int32) (v5 : Int32) (v6 : Int32) (v7 : Int32) (r : Int32), (lp_choosePrice n 20 v1 v2 v3 v4 v5 v6 v7 F A = some r → Wk l Z (MoC Z cdC) md_choosePrice 20 [.val (.ref 0), .val (.int v1), .val (.int v2), .val (.int v3), .val (.int v4), .val (.int v5), .val (.int v6), .val (.int v7), .unset] [] (11, F, G, A, B) 0 0 (fun v w' => v = some (.int r) ∧ w' = (11, F, G, A, B))) := by
  intro n
  induction n with
  | zero =>
    intro v1 v2 v3 v4 v5 v6 v7  r
    exact (fun h => by rw [lp_choosePrice_z] at h; cases h)
  | succ n ih =>
    intro v1 v2 v3 v4 v5 v6 v7  r
    refine fun h => ?_
    · rw [lp_choosePrice_20] at h
      exact wp_choosePrice_20 H F G A B v1 v2 v3 v4 v5 v6 v7 (fun q1 q2 q3 => (gd (ifn q3 (ifn q2 (ifp q1 h)))).1) (fun q1 q2 q3 => (rt_choosePrice _ _ _ _ _ r (Option.some.inj (gd (ifn q3 (ifn q2 (ifp q1 h)))).2))) (fun q1 q2 q3 q6 => (gd (ifp q6 (ifp q3 (ifn q2 (ifp q1 h))))).1) (fun q1 q2 q3 q6 => (rt_choosePrice _ _ _ _ _ r (Option.some.inj (gd (ifp q6 (ifp q3 (ifn q2 (ifp q1 h))))).2))) (fun q1 q2 q3 q6 q9 => (gd (ifn q9 (ifn q6 (ifp q3 (ifn q2 (ifp q1 h)))))).1) (fun q1 q2 q3 q6 q9 => (rt_choosePrice _ _ _ _ _ r (Option.some.inj (gd (ifn q9 (ifn q6 (ifp q3 (ifn q2 (ifp q1 h)))))).2))) (fun q1 q2 q3 q6 q9 => (rt_choosePrice _ _ _ _ _ r (Option.some.inj (ifp q9 (ifn q6 (ifp q3 (ifn q2 (ifp q1 h)))))))) (fun q1 q2 q13 q14 => (gd (ifn q14 (ifp q13 (ifp q2 (ifp q1 h))))).1) (fun q1 q2 q13 q14 => (rt_choosePrice _ _ _ _ _ r (Option.some.inj (gd (ifn q14 (ifp q13 (ifp q2 (ifp q1 h))))).2))) (fun q1 q2 q13 q14 q17 => (gd (ifp q17 (ifp q14 (ifp q13 (ifp q2 (ifp q1 h)))))).1) (fun q1 q2 q13 q14 q17 => (rt_choosePrice _ _ _ _ _ r (Option.some.inj (gd (ifp q17 (ifp q14 (ifp q13 (ifp q2 (ifp q1 h)))))).2))) (fun q1 q2 q13 q14 q17 q20 => (gd (ifn q20 (ifn q17 (ifp q14 (ifp q13 (ifp q2 (ifp q1 h))))))).1) (fun q1 q2 q13 q14 q17 q20 => (rt_choosePrice _ _ _ _ _ r (Option.some.inj (gd (ifn q20 (ifn q17 (ifp q14 (ifp q13 (ifp q2 (ifp q1 h))))))).2))) (fun q1 q2 q13 q14 q17 q20 => (rt_choosePrice _ _ _ _ _ r (Option.some.inj (ifp q20 (ifn q17 (ifp q14 (ifp q13 (ifp q2 (ifp q1 h))))))))) (fun q1 q2 q13 q24 q25 => (gd (ifn q25 (ifn q24 (ifn q13 (ifp q2 (ifp q1 h)))))).1) (fun q1 q2 q13 q24 q25 => (rt_choosePrice _ _ _ _ _ r (Option.some.inj (gd (ifn q25 (ifn q24 (ifn q13 (ifp q2 (ifp q1 h)))))).2))) (fun q1 q2 q13 q24 q25 q28 => (gd (ifp q28 (ifp q25 (ifn q24 (ifn q13 (ifp q2 (ifp q1 h))))))).1) (fun q1 q2 q13 q24 q25 q28 => (rt_choosePrice _ _ _ _ _ r (Option.some.inj (gd (ifp q28 (ifp q25 (ifn q24 (ifn q13 (ifp q2 (ifp q1 h))))))).2))) (fun q1 q2 q13 q24 q25 q28 q31 => (gd (ifn q31 (ifn q28 (ifp q25 (ifn q24 (ifn q13 (ifp q2 (ifp q1 h)))))))).1) (fun q1 q2 q13 q24 q25 q28 q31 => (rt_choosePrice _ _ _ _ _ r (Option.some.inj (gd (ifn q31 (ifn q28 (ifp q25 (ifn q24 (ifn q13 (ifp q2 (ifp q1 h)))))))).2))) (fun q1 q2 q13 q24 q25 q28 q31 => (rt_choosePrice _ _ _ _ _ r (Option.some.inj (ifp q31 (ifn q28 (ifp q25 (ifn q24 (ifn q13 (ifp q2 (ifp q1 h)))))))))) (fun q1 q2 q13 q24 => (rt_choosePrice _ _ _ _ _ r (Option.some.inj (ifp q24 (ifn q13 (ifp q2 (ifp q1 h))))))) (fun q1 => (gd (ifn q1 h)).1.1) (fun q1 q37 => ((gd (ifn q1 h)).1.2) q37) (fun q1 => (ih _ _ _ _ _ _ _ _) (gd (ifn q1 h)).2)
def en_choosePrice (F : Nat → Int32) (A : Nat → Int32 → Int32) (p1 : Int32) : Option (Int32) := (if ((en_leastSurplus A p1).isSome = true) then lp_choosePrice 1000 20 p1 (R_leastSurplus A p1) (0 : Int32) (0 : Int32) (0 : Int32) (0 : Int32) (1 : Int32) F A else none)
theorem een_choosePrice (F : Nat → Int32) (A : Nat → Int32 → Int32) (p1 : Int32) : en_choosePrice F A p1 = (if ((en_leastSurplus A p1).isSome = true) then lp_choosePrice 1000 20 p1 (R_leastSurplus A p1) (0 : Int32) (0 : Int32) (0 : Int32) (0 : Int32) (1 : Int32) F A else none) := Eq.trans rfl rfl
def R_choosePrice (F : Nat → Int32) (A : Nat → Int32 → Int32) (p1 : Int32) : Int32 := (en_choosePrice F A p1).getD (0)
theorem eR_choosePrice (F : Nat → Int32) (A : Nat → Int32 → Int32) (p1 : Int32) : R_choosePrice F A p1 = (en_choosePrice F A p1).getD (0) := Eq.trans rfl rfl
set_option maxRecDepth 65536 in
set_option maxHeartbeats 4000000 in
theorem run_choosePrice {l : Launch} {Z : State} {a0 : Array Value} (H : OK Z a0) (F : Nat → Int32) (G : Nat → Int64) (A : Nat → Int32 → Int32) (B : Nat → Int32 → Int64) (p1 : Int32) (e1 : (en_choosePrice F A p1).isSome = true) :
    Wk l Z (MoC Z cdC) md_choosePrice 0 [.val (.ref 0), .val (.int p1), .unset, .unset, .unset, .unset, .unset, .unset, .unset] [] (11, F, G, A, B) 0 0 (fun v w' => v = some (.int (R_choosePrice F A p1)) ∧ w' = (11, F, G, A, B)) := by
  obtain ⟨r, h⟩ := Option.isSome_iff_exists.mp e1
  have e : R_choosePrice F A p1 = r := (eR_choosePrice F A p1).trans (getD_some h)
  rw [e]
  rw [een_choosePrice] at h
  exact wp_choosePrice H F G A B p1 ((gd h).1) ((lpw_choosePrice H F G A B _ _ _ _ _ _ _ _ _) (gd h).2)
set_option maxRecDepth 65536 in
set_option maxHeartbeats 4000000 in
theorem wp_indicativePrice {l : Launch} {Z : State} {a0 : Array Value} (H : OK Z a0) (F : Nat → Int32) (G : Nat → Int64) (A : Nat → Int32 → Int32) (B : Nat → Int32 → Int64) {Q : Option Value → WO → Prop} (s1 : (en_buildCurves F A ).isSome = true) (s2 : (en_maxVolume (R_buildCurves F A ).2 ).isSome = true) (s4 : ¬ (R_maxVolume (R_buildCurves F A ).2 ) = 0 → (en_choosePrice F (R_buildCurves F A ).2 (R_maxVolume (R_buildCurves F A ).2 )).isSome = true) (h5 : ¬ (R_maxVolume (R_buildCurves F A ).2 ) = 0 → Q (some (.int (R_choosePrice F (R_buildCurves F A ).2 (R_maxVolume (R_buildCurves F A ).2 )))) (11, F, G, (R_buildCurves F A ).2, B)) (h6 : (R_maxVolume (R_buildCurves F A ).2 ) = 0 → Q (some (.int (0 : Int32))) (11, F, G, (R_buildCurves F A ).2, B)) :
    Wk l Z (MoC Z cdC) md_indicativePrice 0 [.val (.ref 0), .unset] [] (11, F, G, A, B) 0 0 Q := by
  refine Wk.aloadN o_indicativePrice_0 rfl ?_
  refine Wk.callU [] [] (H.w 68 rfl) (cv_buildCurves H) o_indicativePrice_1 (run_buildCurves H F G A B s1) (wt := 0) (cu' := 0) (su' := 0) (by decide) rfl rfl rfl rfl rfl rfl rfl ?_
  refine Wk.aloadN o_indicativePrice_4 rfl ?_
  refine Wk.callF [] [] (H.w 80 rfl) (cv_maxVolume H) o_indicativePrice_5 (run_maxVolume H F G (R_buildCurves F A ).2 B s2) (wt := 0) (cu' := 0) (su' := 0) (by decide) rfl rfl rfl rfl rfl rfl rfl ?_
  refine Wk.istoreN o_indicativePrice_8 (Or.inl rfl) (L' := [.val (.ref 0), .val (.int (R_maxVolume (R_buildCurves F A ).2 ))]) rfl ?_
  refine Wk.iloadN o_indicativePrice_9 rfl ?_
  refine Wk.if_ne o_indicativePrice_10 (fun q3 => ?_) (fun q3 => ?_)
  · refine Wk.aloadN o_indicativePrice_15 rfl ?_
    refine Wk.iloadN o_indicativePrice_16 rfl ?_
    refine Wk.callF [.int (R_maxVolume (R_buildCurves F A ).2 )] [] (H.w 97 rfl) (cv_choosePrice H) o_indicativePrice_17 (run_choosePrice H F G (R_buildCurves F A ).2 B (R_maxVolume (R_buildCurves F A ).2 ) (s4 q3)) (wt := 0) (cu' := 0) (su' := 0) (by decide) rfl rfl rfl rfl rfl rfl rfl ?_
    exact Wk.ireturn mrC rfl o_indicativePrice_20 rfl (by decide) (by decide) (h5 q3)
  · refine Wk.iconst o_indicativePrice_13 (z := (0 : Int32)) (by decide) ?_
    exact Wk.ireturn mrC rfl o_indicativePrice_14 rfl (by decide) (by decide) (h6 q3)

theorem rt_indicativePrice (F : Nat → Int32) (G : Nat → Int64) (B : Nat → Int32 → Int64) (v0 : Int32) (xA : Nat → Int32 → Int32) (r : Int32 × (Nat → Int32 → Int32)) (e : (v0, xA) = r) : some (Value.int v0) = some (.int r.1) ∧ (11, F, G, xA, B) = (11, F, G, r.2, B) := by subst e; exact ⟨rfl, rfl⟩
def en_indicativePrice (F : Nat → Int32) (A : Nat → Int32 → Int32) : Option (Int32 × (Nat → Int32 → Int32)) := (if ((en_buildCurves F A ).isSome = true) ∧ ((en_maxVolume (R_buildCurves F A ).2 ).isSome = true) then (if (R_maxVolume (R_buildCurves F A ).2 ) = 0 then some ((0 : Int32), (R_buildCurves F A ).2) else (if ((en_choosePrice F (R_buildCurves F A ).2 (R_maxVolume (R_buildCurves F A ).2 )).isSome = true) then some ((R_choosePrice F (R_buildCurves F A ).2 (R_maxVolume (R_buildCurves F A ).2 )), (R_buildCurves F A ).2) else none)) else none)
theorem een_indicativePrice (F : Nat → Int32) (A : Nat → Int32 → Int32) : en_indicativePrice F A  = (if ((en_buildCurves F A ).isSome = true) ∧ ((en_maxVolume (R_buildCurves F A ).2 ).isSome = true) then (if (R_maxVolume (R_buildCurves F A ).2 ) = 0 then some ((0 : Int32), (R_buildCurves F A ).2) else (if ((en_choosePrice F (R_buildCurves F A ).2 (R_maxVolume (R_buildCurves F A ).2 )).isSome = true) then some ((R_choosePrice F (R_buildCurves F A ).2 (R_maxVolume (R_buildCurves F A ).2 )), (R_buildCurves F A ).2) else none)) else none) := Eq.trans rfl rfl
def R_indicativePrice (F : Nat → Int32) (A : Nat → Int32 → Int32) : Int32 × (Nat → Int32 → Int32) := (en_indicativePrice F A ).getD (0, (fun _ _ => 0))
theorem eR_indicativePrice (F : Nat → Int32) (A : Nat → Int32 → Int32) : R_indicativePrice F A  = (en_indicativePrice F A ).getD (0, (fun _ _ => 0)) := Eq.trans rfl rfl
set_option maxRecDepth 65536 in
set_option maxHeartbeats 4000000 in
theorem run_indicativePrice {l : Launch} {Z : State} {a0 : Array Value} (H : OK Z a0) (F : Nat → Int32) (G : Nat → Int64) (A : Nat → Int32 → Int32) (B : Nat → Int32 → Int64) (e1 : (en_indicativePrice F A ).isSome = true) :
    Wk l Z (MoC Z cdC) md_indicativePrice 0 [.val (.ref 0), .unset] [] (11, F, G, A, B) 0 0 (fun v w' => v = some (.int (R_indicativePrice F A ).1) ∧ w' = (11, F, G, (R_indicativePrice F A ).2, B)) := by
  obtain ⟨r, h⟩ := Option.isSome_iff_exists.mp e1
  have e : R_indicativePrice F A  = r := (eR_indicativePrice F A ).trans (getD_some h)
  rw [e]
  rw [een_indicativePrice] at h
  exact wp_indicativePrice H F G A B  ((gd h).1.1) ((gd h).1.2) (fun q3 => (gd (ifn q3 (gd h).2)).1) (fun q3 => (rt_indicativePrice _ _ _ _ _ r (Option.some.inj (gd (ifn q3 (gd h).2)).2))) (fun q3 => (rt_indicativePrice _ _ _ _ _ r (Option.some.inj (ifp q3 (gd h).2))))
set_option maxRecDepth 65536 in
set_option maxHeartbeats 4000000 in
theorem wp_eligible {l : Launch} {Z : State} {a0 : Array Value} (H : OK Z a0) (F : Nat → Int32) (G : Nat → Int64) (A : Nat → Int32 → Int32) (B : Nat → Int32 → Int64) (p1 : Int32) (p2 : Int32) (p3 : Int32) {Q : Option Value → WO → Prop} (s1 : ¬ p1 < 0) (s2 : p1 < (64 : Int32)) (h4 : ¬ ((A 0) p1) = (1 : Int32) → Q (some (.int (0 : Int32))) (11, F, G, A, B)) (s5 : ((A 0) p1) = (1 : Int32) → ¬ p1 < 0) (s6 : ((A 0) p1) = (1 : Int32) → p1 < (64 : Int32)) (h8 : ((A 0) p1) = (1 : Int32) → ¬ ((A 2) p1) = p2 → Q (some (.int (0 : Int32))) (11, F, G, A, B)) (s9 : ((A 0) p1) = (1 : Int32) → ((A 2) p1) = p2 → ¬ p1 < 0) (s10 : ((A 0) p1) = (1 : Int32) → ((A 2) p1) = p2 → p1 < (64 : Int32)) (s12 : ((A 0) p1) = (1 : Int32) → ((A 2) p1) = p2 → 0 < ((A 4) p1) → ¬ p1 < 0) (s13 : ((A 0) p1) = (1 : Int32) → ((A 2) p1) = p2 → 0 < ((A 4) p1) → p1 < (64 : Int32)) (s16 : ((A 0) p1) = (1 : Int32) → ((A 2) p1) = p2 → 0 < ((A 4) p1) → ¬ ((A 3) p1) = 0 → ¬ p2 = 0 → ¬ p1 < 0) (s17 : ((A 0) p1) = (1 : Int32) → ((A 2) p1) = p2 → 0 < ((A 4) p1) → ¬ ((A 3) p1) = 0 → ¬ p2 = 0 → p1 < (64 : Int32)) (s20 : ((A 0) p1) = (1 : Int32) → ((A 2) p1) = p2 → 0 < ((A 4) p1) → ¬ ((A 3) p1) = 0 → p2 = 0 → ¬ p1 < 0) (s21 : ((A 0) p1) = (1 : Int32) → ((A 2) p1) = p2 → 0 < ((A 4) p1) → ¬ ((A 3) p1) = 0 → p2 = 0 → p1 < (64 : Int32)) (h25 : ((A 0) p1) = (1 : Int32) → ((A 2) p1) = p2 → 0 < ((A 4) p1) → ¬ ((A 3) p1) = 0 → Q (some (.int (nar .boolean (if p2 = 0 then (if ((A 3) p1) < p3 then (0 : Int32) else (1 : Int32)) else (if p3 < ((A 3) p1) then (0 : Int32) else (1 : Int32)))))) (11, F, G, A, B)) (h26 : ((A 0) p1) = (1 : Int32) → ((A 2) p1) = p2 → 0 < ((A 4) p1) → ((A 3) p1) = 0 → Q (some (.int (1 : Int32))) (11, F, G, A, B)) (h27 : ((A 0) p1) = (1 : Int32) → ((A 2) p1) = p2 → ¬ 0 < ((A 4) p1) → Q (some (.int (0 : Int32))) (11, F, G, A, B)) :
    Wk l Z (MoC Z cdC) md_eligible 0 [.val (.ref 0), .val (.int p1), .val (.int p2), .val (.int p3)] [] (11, F, G, A, B) 0 0 Q := by
  refine Wk.aloadN o_eligible_0 rfl ?_
  refine Wk.getA (mA_st) (by decide) (i' := 1) rfl (wf_st H) o_eligible_1 ?_
  refine Wk.iloadN o_eligible_4 rfl ?_
  refine Wk.iaload (mA_st) (by decide) (i' := 1) rfl s1 s2 o_eligible_5 (y := ((A 0) p1)) rfl ?_
  refine Wk.iconst o_eligible_6 (z := (1 : Int32)) (by decide) ?_
  refine Wk.icmp_ne o_eligible_7 (fun q3 => ?_) (fun q3 => ?_)
  · refine Wk.iconst o_eligible_29 (z := (0 : Int32)) (by decide) ?_
    exact Wk.zreturn mrC rfl o_eligible_30 rfl (by decide) (by decide) (y := (0 : Int32)) (by decide) (h4 q3)
  · refine Wk.aloadN o_eligible_10 rfl ?_
    refine Wk.getA (mA_sd) (by decide) (i' := 3) rfl (wf_sd H) o_eligible_11 ?_
    refine Wk.iloadN o_eligible_14 rfl ?_
    refine Wk.iaload (mA_sd) (by decide) (i' := 3) rfl (s5 q3) (s6 q3) o_eligible_15 (y := ((A 2) p1)) rfl ?_
    refine Wk.iloadN o_eligible_16 rfl ?_
    refine Wk.icmp_ne o_eligible_17 (fun q7 => ?_) (fun q7 => ?_)
    · refine Wk.iconst o_eligible_29 (z := (0 : Int32)) (by decide) ?_
      exact Wk.zreturn mrC rfl o_eligible_30 rfl (by decide) (by decide) (y := (0 : Int32)) (by decide) (h8 q3 q7)
    · refine Wk.aloadN o_eligible_20 rfl ?_
      refine Wk.getA (mA_rem) (by decide) (i' := 5) rfl (wf_rem H) o_eligible_21 ?_
      refine Wk.iloadN o_eligible_24 rfl ?_
      refine Wk.iaload (mA_rem) (by decide) (i' := 5) rfl (s9 q3 q7) (s10 q3 q7) o_eligible_25 (y := ((A 4) p1)) rfl ?_
      refine Wk.if_gt o_eligible_26 (fun q11 => ?_) (fun q11 => ?_)
      · refine Wk.aloadN o_eligible_31 rfl ?_
        refine Wk.getA (mA_pr) (by decide) (i' := 4) rfl (wf_pr H) o_eligible_32 ?_
        refine Wk.iloadN o_eligible_35 rfl ?_
        refine Wk.iaload (mA_pr) (by decide) (i' := 4) rfl (s12 q3 q7 q11) (s13 q3 q7 q11) o_eligible_36 (y := ((A 3) p1)) rfl ?_
        refine Wk.if_ne o_eligible_37 (fun q14 => ?_) (fun q14 => ?_)
        · refine Wk.iloadN o_eligible_42 rfl ?_
          have J24 : Wk l Z (MoC Z cdC) md_eligible 79 [.val (.ref 0), .val (.int p1), .val (.int p2), .val (.int p3)] [.int (if p2 = 0 then (if ((A 3) p1) < p3 then (0 : Int32) else (1 : Int32)) else (if p3 < ((A 3) p1) then (0 : Int32) else (1 : Int32)))] (11, F, G, A, B) 0 0 Q := by
            exact Wk.zreturn mrC rfl o_eligible_79 rfl (by decide) (by decide) (y := (nar .boolean (if p2 = 0 then (if ((A 3) p1) < p3 then (0 : Int32) else (1 : Int32)) else (if p3 < ((A 3) p1) then (0 : Int32) else (1 : Int32))))) rfl (h25 q3 q7 q11 q14)
          refine Wk.if_ne o_eligible_43 (fun q15 => ?_) (fun q15 => ?_)
          · refine Wk.aloadN o_eligible_64 rfl ?_
            refine Wk.getA (mA_pr) (by decide) (i' := 4) rfl (wf_pr H) o_eligible_65 ?_
            refine Wk.iloadN o_eligible_68 rfl ?_
            refine Wk.iaload (mA_pr) (by decide) (i' := 4) rfl (s16 q3 q7 q11 q14 q15) (s17 q3 q7 q11 q14 q15) o_eligible_69 (y := ((A 3) p1)) rfl ?_
            refine Wk.iloadN o_eligible_70 rfl ?_
            refine Wk.icmp_gt o_eligible_71 (fun q18 => ?_) (fun q18 => ?_)
            · refine Wk.iconst o_eligible_78 (z := (0 : Int32)) (by decide) ?_
              first | (rw [show ((if p2 = 0 then (if ((A 3) p1) < p3 then (0 : Int32) else (1 : Int32)) else (if p3 < ((A 3) p1) then (0 : Int32) else (1 : Int32))) : Int32) = (0 : Int32) from Eq.trans (if_neg q15) <| if_pos q18] at J24; exact J24) | exact J24 | (simp only [if_neg q15, if_pos q18] at J24 ⊢; exact J24)
            · refine Wk.iconst o_eligible_74 (z := (1 : Int32)) (by decide) ?_
              refine Wk.goto o_eligible_75 ?_
              first | (rw [show ((if p2 = 0 then (if ((A 3) p1) < p3 then (0 : Int32) else (1 : Int32)) else (if p3 < ((A 3) p1) then (0 : Int32) else (1 : Int32))) : Int32) = (1 : Int32) from Eq.trans (if_neg q15) <| if_neg q18] at J24; exact J24) | exact J24 | (simp only [if_neg q15, if_neg q18] at J24 ⊢; exact J24)
          · refine Wk.aloadN o_eligible_46 rfl ?_
            refine Wk.getA (mA_pr) (by decide) (i' := 4) rfl (wf_pr H) o_eligible_47 ?_
            refine Wk.iloadN o_eligible_50 rfl ?_
            refine Wk.iaload (mA_pr) (by decide) (i' := 4) rfl (s20 q3 q7 q11 q14 q15) (s21 q3 q7 q11 q14 q15) o_eligible_51 (y := ((A 3) p1)) rfl ?_
            refine Wk.iloadN o_eligible_52 rfl ?_
            refine Wk.icmp_lt o_eligible_53 (fun q22 => ?_) (fun q22 => ?_)
            · refine Wk.iconst o_eligible_60 (z := (0 : Int32)) (by decide) ?_
              refine Wk.goto o_eligible_61 ?_
              first | (rw [show ((if p2 = 0 then (if ((A 3) p1) < p3 then (0 : Int32) else (1 : Int32)) else (if p3 < ((A 3) p1) then (0 : Int32) else (1 : Int32))) : Int32) = (0 : Int32) from Eq.trans (if_pos q15) <| if_pos q22] at J24; exact J24) | exact J24 | (simp only [if_pos q15, if_pos q22] at J24 ⊢; exact J24)
            · refine Wk.iconst o_eligible_56 (z := (1 : Int32)) (by decide) ?_
              refine Wk.goto o_eligible_57 ?_
              first | (rw [show ((if p2 = 0 then (if ((A 3) p1) < p3 then (0 : Int32) else (1 : Int32)) else (if p3 < ((A 3) p1) then (0 : Int32) else (1 : Int32))) : Int32) = (1 : Int32) from Eq.trans (if_pos q15) <| if_neg q22] at J24; exact J24) | exact J24 | (simp only [if_pos q15, if_neg q22] at J24 ⊢; exact J24)
        · refine Wk.iconst o_eligible_40 (z := (1 : Int32)) (by decide) ?_
          exact Wk.zreturn mrC rfl o_eligible_41 rfl (by decide) (by decide) (y := (1 : Int32)) (by decide) (h26 q3 q7 q11 q14)
      · refine Wk.iconst o_eligible_29 (z := (0 : Int32)) (by decide) ?_
        exact Wk.zreturn mrC rfl o_eligible_30 rfl (by decide) (by decide) (y := (0 : Int32)) (by decide) (h27 q3 q7 q11)

theorem rt_eligible (F : Nat → Int32) (G : Nat → Int64) (A : Nat → Int32 → Int32) (B : Nat → Int32 → Int64) (v0 : Int32) (r : Int32) (e : v0 = r) : some (Value.int v0) = some (.int r) ∧ (11, F, G, A, B) = (11, F, G, A, B) := by subst e; exact ⟨rfl, rfl⟩
def en_eligible (A : Nat → Int32 → Int32) (p1 : Int32) (p2 : Int32) (p3 : Int32) : Option (Int32) := (if (¬ p1 < 0) ∧ (p1 < (64 : Int32)) then (if ((A 0) p1) = (1 : Int32) then (if (¬ p1 < 0) ∧ (p1 < (64 : Int32)) then (if ((A 2) p1) = p2 then (if (¬ p1 < 0) ∧ (p1 < (64 : Int32)) then (if 0 < ((A 4) p1) then (if (¬ p1 < 0) ∧ (p1 < (64 : Int32)) then (if ((A 3) p1) = 0 then some ((1 : Int32)) else (if (¬ p2 = 0 → ¬ p1 < 0) ∧ (¬ p2 = 0 → p1 < (64 : Int32)) ∧ (p2 = 0 → ¬ p1 < 0) ∧ (p2 = 0 → p1 < (64 : Int32)) then some ((nar .boolean (if p2 = 0 then (if ((A 3) p1) < p3 then (0 : Int32) else (1 : Int32)) else (if p3 < ((A 3) p1) then (0 : Int32) else (1 : Int32))))) else none)) else none) else some ((0 : Int32))) else none) else some ((0 : Int32))) else none) else some ((0 : Int32))) else none)
theorem een_eligible (A : Nat → Int32 → Int32) (p1 : Int32) (p2 : Int32) (p3 : Int32) : en_eligible A p1 p2 p3 = (if (¬ p1 < 0) ∧ (p1 < (64 : Int32)) then (if ((A 0) p1) = (1 : Int32) then (if (¬ p1 < 0) ∧ (p1 < (64 : Int32)) then (if ((A 2) p1) = p2 then (if (¬ p1 < 0) ∧ (p1 < (64 : Int32)) then (if 0 < ((A 4) p1) then (if (¬ p1 < 0) ∧ (p1 < (64 : Int32)) then (if ((A 3) p1) = 0 then some ((1 : Int32)) else (if (¬ p2 = 0 → ¬ p1 < 0) ∧ (¬ p2 = 0 → p1 < (64 : Int32)) ∧ (p2 = 0 → ¬ p1 < 0) ∧ (p2 = 0 → p1 < (64 : Int32)) then some ((nar .boolean (if p2 = 0 then (if ((A 3) p1) < p3 then (0 : Int32) else (1 : Int32)) else (if p3 < ((A 3) p1) then (0 : Int32) else (1 : Int32))))) else none)) else none) else some ((0 : Int32))) else none) else some ((0 : Int32))) else none) else some ((0 : Int32))) else none) := Eq.trans rfl rfl
def R_eligible (A : Nat → Int32 → Int32) (p1 : Int32) (p2 : Int32) (p3 : Int32) : Int32 := (en_eligible A p1 p2 p3).getD (0)
theorem eR_eligible (A : Nat → Int32 → Int32) (p1 : Int32) (p2 : Int32) (p3 : Int32) : R_eligible A p1 p2 p3 = (en_eligible A p1 p2 p3).getD (0) := Eq.trans rfl rfl
set_option maxRecDepth 65536 in
set_option maxHeartbeats 4000000 in
theorem run_eligible {l : Launch} {Z : State} {a0 : Array Value} (H : OK Z a0) (F : Nat → Int32) (G : Nat → Int64) (A : Nat → Int32 → Int32) (B : Nat → Int32 → Int64) (p1 : Int32) (p2 : Int32) (p3 : Int32) (e1 : (en_eligible A p1 p2 p3).isSome = true) :
    Wk l Z (MoC Z cdC) md_eligible 0 [.val (.ref 0), .val (.int p1), .val (.int p2), .val (.int p3)] [] (11, F, G, A, B) 0 0 (fun v w' => v = some (.int (R_eligible A p1 p2 p3)) ∧ w' = (11, F, G, A, B)) := by
  obtain ⟨r, h⟩ := Option.isSome_iff_exists.mp e1
  have e : R_eligible A p1 p2 p3 = r := (eR_eligible A p1 p2 p3).trans (getD_some h)
  rw [e]
  rw [een_eligible] at h
  exact wp_eligible H F G A B p1 p2 p3 ((gd h).1.1) ((gd h).1.2) (fun q3 => (rt_eligible _ _ _ _ _ r (Option.some.inj (ifn q3 (gd h).2)))) (fun q3 => (gd (ifp q3 (gd h).2)).1.1) (fun q3 => (gd (ifp q3 (gd h).2)).1.2) (fun q3 q7 => (rt_eligible _ _ _ _ _ r (Option.some.inj (ifn q7 (gd (ifp q3 (gd h).2)).2)))) (fun q3 q7 => (gd (ifp q7 (gd (ifp q3 (gd h).2)).2)).1.1) (fun q3 q7 => (gd (ifp q7 (gd (ifp q3 (gd h).2)).2)).1.2) (fun q3 q7 q11 => (gd (ifp q11 (gd (ifp q7 (gd (ifp q3 (gd h).2)).2)).2)).1.1) (fun q3 q7 q11 => (gd (ifp q11 (gd (ifp q7 (gd (ifp q3 (gd h).2)).2)).2)).1.2) (fun q3 q7 q11 q14 q15 => ((gd (ifn q14 (gd (ifp q11 (gd (ifp q7 (gd (ifp q3 (gd h).2)).2)).2)).2)).1.1) q15) (fun q3 q7 q11 q14 q15 => ((gd (ifn q14 (gd (ifp q11 (gd (ifp q7 (gd (ifp q3 (gd h).2)).2)).2)).2)).1.2.1) q15) (fun q3 q7 q11 q14 q15 => ((gd (ifn q14 (gd (ifp q11 (gd (ifp q7 (gd (ifp q3 (gd h).2)).2)).2)).2)).1.2.2.1) q15) (fun q3 q7 q11 q14 q15 => ((gd (ifn q14 (gd (ifp q11 (gd (ifp q7 (gd (ifp q3 (gd h).2)).2)).2)).2)).1.2.2.2) q15) (fun q3 q7 q11 q14 => (rt_eligible _ _ _ _ _ r (Option.some.inj (gd (ifn q14 (gd (ifp q11 (gd (ifp q7 (gd (ifp q3 (gd h).2)).2)).2)).2)).2))) (fun q3 q7 q11 q14 => (rt_eligible _ _ _ _ _ r (Option.some.inj (ifp q14 (gd (ifp q11 (gd (ifp q7 (gd (ifp q3 (gd h).2)).2)).2)).2)))) (fun q3 q7 q11 => (rt_eligible _ _ _ _ _ r (Option.some.inj (ifn q11 (gd (ifp q7 (gd (ifp q3 (gd h).2)).2)).2))))
set_option maxRecDepth 65536 in
set_option maxHeartbeats 4000000 in
theorem wp_bestEligible {l : Launch} {Z : State} {a0 : Array Value} (H : OK Z a0) (F : Nat → Int32) (G : Nat → Int64) (A : Nat → Int32 → Int32) (B : Nat → Int32 → Int64) (p1 : Int32) (p2 : Int32) {Q : Option Value → WO → Prop} (h1 : Wk l Z (MoC Z cdC) md_bestEligible 5 [.val (.ref 0), .val (.int p1), .val (.int p2), .val (.int (-1 : Int32)), .val (.int (0 : Int32))] [] (11, F, G, A, B) 0 0 Q) :
    Wk l Z (MoC Z cdC) md_bestEligible 0 [.val (.ref 0), .val (.int p1), .val (.int p2), .unset, .unset] [] (11, F, G, A, B) 0 0 Q := by
  refine Wk.iconst o_bestEligible_0 (z := (-1 : Int32)) (by decide) ?_
  refine Wk.istoreN o_bestEligible_1 (Or.inl rfl) (L' := [.val (.ref 0), .val (.int p1), .val (.int p2), .val (.int (-1 : Int32)), .unset]) rfl ?_
  refine Wk.iconst o_bestEligible_2 (z := (0 : Int32)) (by decide) ?_
  refine Wk.istore o_bestEligible_3 (Or.inl rfl) (L' := [.val (.ref 0), .val (.int p1), .val (.int p2), .val (.int (-1 : Int32)), .val (.int (0 : Int32))]) rfl ?_
  exact h1

set_option maxRecDepth 65536 in
set_option maxHeartbeats 4000000 in
theorem wp_bestEligible_5 {l : Launch} {Z : State} {a0 : Array Value} (H : OK Z a0) (F : Nat → Int32) (G : Nat → Int64) (A : Nat → Int32 → Int32) (B : Nat → Int32 → Int64) (v1 : Int32) (v2 : Int32) (v3 : Int32) (v4 : Int32) {Q : Option Value → WO → Prop} (h2 : ¬ v4 < (F 0) → Q (some (.int v3)) (11, F, G, A, B)) (s3 : v4 < (F 0) → (en_eligible A v4 v1 v2).isSome = true) (h6 : v4 < (F 0) → ¬ (R_eligible A v4 v1 v2) = 0 → v3 < 0 → Wk l Z (MoC Z cdC) md_bestEligible 5 [.val (.ref 0), .val (.int v1), .val (.int v2), .val (.int v4), .val (.int (v4 + (1 : Int32)))] [] (11, F, G, A, B) 0 0 Q) (h7 : v4 < (F 0) → ¬ (R_eligible A v4 v1 v2) = 0 → ¬ v3 < 0 → False) (h8 : v4 < (F 0) → (R_eligible A v4 v1 v2) = 0 → Wk l Z (MoC Z cdC) md_bestEligible 5 [.val (.ref 0), .val (.int v1), .val (.int v2), .val (.int v3), .val (.int (v4 + (1 : Int32)))] [] (11, F, G, A, B) 0 0 Q) :
    Wk l Z (MoC Z cdC) md_bestEligible 5 [.val (.ref 0), .val (.int v1), .val (.int v2), .val (.int v3), .val (.int v4)] [] (11, F, G, A, B) 0 0 Q := by
  refine Wk.iload o_bestEligible_5 rfl ?_
  refine Wk.aloadN o_bestEligible_7 rfl ?_
  refine Wk.getI (mI_cap) (wf_cap H) o_bestEligible_8 (x := (F 0)) rfl ?_
  refine Wk.icmp_ge o_bestEligible_11 (fun q1 => ?_) (fun q1 => ?_)
  · refine Wk.iloadN o_bestEligible_51 rfl ?_
    exact Wk.ireturn mrC rfl o_bestEligible_52 rfl (by decide) (by decide) (h2 q1)
  · refine Wk.aloadN o_bestEligible_14 rfl ?_
    refine Wk.iload o_bestEligible_15 rfl ?_
    refine Wk.iloadN o_bestEligible_17 rfl ?_
    refine Wk.iloadN o_bestEligible_18 rfl ?_
    refine Wk.callF [.int v4, .int v1, .int v2] [] (H.w 130 rfl) (cv_eligible H) o_bestEligible_19 (run_eligible H F G A B v4 v1 v2 (s3 q1)) (wt := 0) (cu' := 0) (su' := 0) (by decide) rfl rfl rfl rfl rfl rfl rfl ?_
    refine Wk.if_ne o_bestEligible_22 (fun q4 => ?_) (fun q4 => ?_)
    · refine Wk.iloadN o_bestEligible_28 rfl ?_
      refine Wk.if_lt o_bestEligible_29 (fun q5 => ?_) (fun q5 => ?_)
      · refine Wk.iload o_bestEligible_42 rfl ?_
        refine Wk.istoreN o_bestEligible_44 (Or.inr ⟨_, rfl, rfl⟩) (L' := [.val (.ref 0), .val (.int v1), .val (.int v2), .val (.int v4), .val (.int v4)]) rfl ?_
        refine Wk.iinc o_bestEligible_45 rfl (z := (v4 + (1 : Int32))) rfl (L' := [.val (.ref 0), .val (.int v1), .val (.int v2), .val (.int v4), .val (.int (v4 + (1 : Int32)))]) rfl ?_
        refine Wk.goto o_bestEligible_48 ?_
        exact (h6 q1 q4 q5)
      · refine Wk.aloadN o_bestEligible_32 rfl ?_
        refine Wk.iload o_bestEligible_33 rfl ?_
        refine Wk.iloadN o_bestEligible_35 rfl ?_
        exact False.elim (h7 q1 q4 q5)
    · refine Wk.goto o_bestEligible_25 ?_
      refine Wk.iinc o_bestEligible_45 rfl (z := (v4 + (1 : Int32))) rfl (L' := [.val (.ref 0), .val (.int v1), .val (.int v2), .val (.int v3), .val (.int (v4 + (1 : Int32)))]) rfl ?_
      refine Wk.goto o_bestEligible_48 ?_
      exact (h8 q1 q4)

theorem rt_bestEligible (F : Nat → Int32) (G : Nat → Int64) (A : Nat → Int32 → Int32) (B : Nat → Int32 → Int64) (v0 : Int32) (r : Int32) (e : v0 = r) : some (Value.int v0) = some (.int r) ∧ (11, F, G, A, B) = (11, F, G, A, B) := by subst e; exact ⟨rfl, rfl⟩
def lp_bestEligible : Nat → Nat → Int32 → Int32 → Int32 → Int32 → (Nat → Int32) → (Nat → Int32 → Int32) → Option (Int32)
  | 0, _, _, _, _, _, _, _ => none
  | n + 1, tag, v1, v2, v3, v4, F, A => if tag = 5 then (if v4 < (F 0) then (if ((en_eligible A v4 v1 v2).isSome = true) then (if (R_eligible A v4 v1 v2) = 0 then lp_bestEligible n 5 v1 v2 v3 (v4 + (1 : Int32)) F A else (if v3 < 0 then lp_bestEligible n 5 v1 v2 v4 (v4 + (1 : Int32)) F A else none)) else none) else some (v3)) else none
theorem lp_bestEligible_z (tag : Nat) (v1 : Int32) (v2 : Int32) (v3 : Int32) (v4 : Int32) (F : Nat → Int32) (A : Nat → Int32 → Int32) : lp_bestEligible 0 tag v1 v2 v3 v4 F A = none := Eq.trans rfl rfl
theorem lp_bestEligible_5 (n : Nat) (v1 : Int32) (v2 : Int32) (v3 : Int32) (v4 : Int32) (F : Nat → Int32) (A : Nat → Int32 → Int32) : lp_bestEligible (n + 1) 5 v1 v2 v3 v4 F A = (if v4 < (F 0) then (if ((en_eligible A v4 v1 v2).isSome = true) then (if (R_eligible A v4 v1 v2) = 0 then lp_bestEligible n 5 v1 v2 v3 (v4 + (1 : Int32)) F A else (if v3 < 0 then lp_bestEligible n 5 v1 v2 v4 (v4 + (1 : Int32)) F A else none)) else none) else some (v3)) := by
  rw [lp_bestEligible, if_pos rfl]
set_option maxRecDepth 65536 in
set_option maxHeartbeats 4000000 in
theorem lpw_bestEligible {l : Launch} {Z : State} {a0 : Array Value} (H : OK Z a0) (F : Nat → Int32) (G : Nat → Int64) (A : Nat → Int32 → Int32) (B : Nat → Int32 → Int64) : ∀ (n : Nat) (v1 : Int32) (v2 : Int32) (v3 : Int32) (v4 : Int32) (r : Int32), (lp_bestEligible n 5 v1 v2 v3 v4 F A = some r → Wk l Z (MoC Z cdC) md_bestEligible 5 [.val (.ref 0), .val (.int v1), .val (.int v2), .val (.int v3), .val (.int v4)] [] (11, F, G, A, B) 0 0 (fun v w' => v = some (.int r) ∧ w' = (11, F, G, A, B))) := by
  intro n
  induction n with
  | zero =>
    intro v1 v2 v3 v4  r
    exact (fun h => by rw [lp_bestEligible_z] at h; cases h)
  | succ n ih =>
    intro v1 v2 v3 v4  r
    refine fun h => ?_
    · rw [lp_bestEligible_5] at h
      exact wp_bestEligible_5 H F G A B v1 v2 v3 v4 (fun q1 => (rt_bestEligible _ _ _ _ _ r (Option.some.inj (ifn q1 h)))) (fun q1 => (gd (ifp q1 h)).1) (fun q1 q4 q5 => (ih _ _ _ _ _) (ifp q5 (ifn q4 (gd (ifp q1 h)).2))) (fun q1 q4 q5 => (by have e := (ifn q5 (ifn q4 (gd (ifp q1 h)).2)); cases e)) (fun q1 q4 => (ih _ _ _ _ _) (ifp q4 (gd (ifp q1 h)).2))
def en_bestEligible (F : Nat → Int32) (A : Nat → Int32 → Int32) (p1 : Int32) (p2 : Int32) : Option (Int32) := lp_bestEligible 1000 5 p1 p2 (-1 : Int32) (0 : Int32) F A
theorem een_bestEligible (F : Nat → Int32) (A : Nat → Int32 → Int32) (p1 : Int32) (p2 : Int32) : en_bestEligible F A p1 p2 = lp_bestEligible 1000 5 p1 p2 (-1 : Int32) (0 : Int32) F A := Eq.trans rfl rfl
def R_bestEligible (F : Nat → Int32) (A : Nat → Int32 → Int32) (p1 : Int32) (p2 : Int32) : Int32 := (en_bestEligible F A p1 p2).getD (0)
theorem eR_bestEligible (F : Nat → Int32) (A : Nat → Int32 → Int32) (p1 : Int32) (p2 : Int32) : R_bestEligible F A p1 p2 = (en_bestEligible F A p1 p2).getD (0) := Eq.trans rfl rfl
set_option maxRecDepth 65536 in
set_option maxHeartbeats 4000000 in
theorem run_bestEligible {l : Launch} {Z : State} {a0 : Array Value} (H : OK Z a0) (F : Nat → Int32) (G : Nat → Int64) (A : Nat → Int32 → Int32) (B : Nat → Int32 → Int64) (p1 : Int32) (p2 : Int32) (e1 : (en_bestEligible F A p1 p2).isSome = true) :
    Wk l Z (MoC Z cdC) md_bestEligible 0 [.val (.ref 0), .val (.int p1), .val (.int p2), .unset, .unset] [] (11, F, G, A, B) 0 0 (fun v w' => v = some (.int (R_bestEligible F A p1 p2)) ∧ w' = (11, F, G, A, B)) := by
  obtain ⟨r, h⟩ := Option.isSome_iff_exists.mp e1
  have e : R_bestEligible F A p1 p2 = r := (eR_bestEligible F A p1 p2).trans (getD_some h)
  rw [e]
  rw [een_bestEligible] at h
  exact wp_bestEligible H F G A B p1 p2 ((lpw_bestEligible H F G A B _ _ _ _ _ _) h)
set_option maxRecDepth 65536 in
set_option maxHeartbeats 4000000 in
theorem wp_creditAccount {l : Launch} {Z : State} {a0 : Array Value} (H : OK Z a0) (F : Nat → Int32) (G : Nat → Int64) (A : Nat → Int32 → Int32) (B : Nat → Int32 → Int64) (p1 : Int32) (p2 : Int32) {Q : Option Value → WO → Prop} (s1 : ¬ p1 < 0) (s2 : p1 < (64 : Int32)) (h4 : ((A 1) p1) < 0 → Q none (11, F, G, A, B)) (s6 : ¬ ((A 1) p1) < 0 → ((A 1) p1) < (16 : Int32) → ¬ p1 < 0) (s7 : ¬ ((A 1) p1) < 0 → ((A 1) p1) < (16 : Int32) → p1 < (64 : Int32)) (h9 : ¬ ((A 1) p1) < 0 → ((A 1) p1) < (16 : Int32) → ¬ ((A 2) p1) = 0 → Q none (11, F, G, (ups A 8 (ups (A 8) ((A 1) p1) (((A 8) ((A 1) p1)) + p2))), B)) (h10 : ¬ ((A 1) p1) < 0 → ((A 1) p1) < (16 : Int32) → ((A 2) p1) = 0 → Q none (11, F, G, (ups A 7 (ups (A 7) ((A 1) p1) (((A 7) ((A 1) p1)) + p2))), B)) (h11 : ¬ ((A 1) p1) < 0 → ¬ ((A 1) p1) < (16 : Int32) → Q none (11, F, G, A, B)) :
    Wk l Z (MoC Z cdC) md_creditAccount 0 [.val (.ref 0), .val (.int p1), .val (.int p2), .unset] [] (11, F, G, A, B) 0 0 Q := by
  refine Wk.aloadN o_creditAccount_0 rfl ?_
  refine Wk.getA (mA_acct) (by decide) (i' := 2) rfl (wf_acct H) o_creditAccount_1 ?_
  refine Wk.iloadN o_creditAccount_4 rfl ?_
  refine Wk.iaload (mA_acct) (by decide) (i' := 2) rfl s1 s2 o_creditAccount_5 (y := ((A 1) p1)) rfl ?_
  refine Wk.istoreN o_creditAccount_6 (Or.inl rfl) (L' := [.val (.ref 0), .val (.int p1), .val (.int p2), .val (.int ((A 1) p1))]) rfl ?_
  refine Wk.iloadN o_creditAccount_7 rfl ?_
  refine Wk.if_lt o_creditAccount_8 (fun q3 => ?_) (fun q3 => ?_)
  · exact Wk.ret mrC rfl o_creditAccount_17 rfl (by decide) (by decide) (h4 q3)
  · refine Wk.iloadN o_creditAccount_11 rfl ?_
    refine Wk.bipush o_creditAccount_12 (z := (16 : Int32)) (by decide) ?_
    refine Wk.icmp_lt o_creditAccount_14 (fun q5 => ?_) (fun q5 => ?_)
    · refine Wk.aloadN o_creditAccount_18 rfl ?_
      refine Wk.getA (mA_sd) (by decide) (i' := 3) rfl (wf_sd H) o_creditAccount_19 ?_
      refine Wk.iloadN o_creditAccount_22 rfl ?_
      refine Wk.iaload (mA_sd) (by decide) (i' := 3) rfl (s6 q3 q5) (s7 q3 q5) o_creditAccount_23 (y := ((A 2) p1)) rfl ?_
      refine Wk.if_ne o_creditAccount_24 (fun q8 => ?_) (fun q8 => ?_)
      · refine Wk.aloadN o_creditAccount_40 rfl ?_
        refine Wk.getA (mA_sold) (by decide) (i' := 9) rfl (wf_sold H) o_creditAccount_41 ?_
        refine Wk.iloadN o_creditAccount_44 rfl ?_
        refine Wk.dup2 o_creditAccount_45 rfl rfl ?_
        refine Wk.iaload (mA_sold) (by decide) (i' := 9) rfl q3 q5 o_creditAccount_46 (y := ((A 8) ((A 1) p1))) rfl ?_
        refine Wk.iloadN o_creditAccount_47 rfl ?_
        refine Wk.iadd o_creditAccount_48 ?_
        refine Wk.iastore (coC H) (f := (A 8)) (mA_sold) rfl (by decide) (i' := 9) rfl q3 q5 o_creditAccount_49 ?_
        exact Wk.ret mrC rfl o_creditAccount_50 rfl (by decide) (by decide) (h9 q3 q5 q8)
      · refine Wk.aloadN o_creditAccount_27 rfl ?_
        refine Wk.getA (mA_bought) (by decide) (i' := 8) rfl (wf_bought H) o_creditAccount_28 ?_
        refine Wk.iloadN o_creditAccount_31 rfl ?_
        refine Wk.dup2 o_creditAccount_32 rfl rfl ?_
        refine Wk.iaload (mA_bought) (by decide) (i' := 8) rfl q3 q5 o_creditAccount_33 (y := ((A 7) ((A 1) p1))) rfl ?_
        refine Wk.iloadN o_creditAccount_34 rfl ?_
        refine Wk.iadd o_creditAccount_35 ?_
        refine Wk.iastore (coC H) (f := (A 7)) (mA_bought) rfl (by decide) (i' := 8) rfl q3 q5 o_creditAccount_36 ?_
        refine Wk.goto o_creditAccount_37 ?_
        exact Wk.ret mrC rfl o_creditAccount_50 rfl (by decide) (by decide) (h10 q3 q5 q8)
    · exact Wk.ret mrC rfl o_creditAccount_17 rfl (by decide) (by decide) (h11 q3 q5)

theorem rt_creditAccount (F : Nat → Int32) (G : Nat → Int64) (B : Nat → Int32 → Int64) (v0 : Int32) (xA : Nat → Int32 → Int32) (r : Int32 × (Nat → Int32 → Int32)) (e : (v0, xA) = r) : (none : Option Value) = none ∧ (11, F, G, xA, B) = (11, F, G, r.2, B) := by subst e; exact ⟨rfl, rfl⟩
def en_creditAccount (A : Nat → Int32 → Int32) (p1 : Int32) (p2 : Int32) : Option (Int32 × (Nat → Int32 → Int32)) := (if (¬ p1 < 0) ∧ (p1 < (64 : Int32)) then (if ((A 1) p1) < 0 then some ((0 : Int32), A) else (if ((A 1) p1) < (16 : Int32) then (if (¬ p1 < 0) ∧ (p1 < (64 : Int32)) then (if ((A 2) p1) = 0 then some ((0 : Int32), (ups A 7 (ups (A 7) ((A 1) p1) (((A 7) ((A 1) p1)) + p2)))) else some ((0 : Int32), (ups A 8 (ups (A 8) ((A 1) p1) (((A 8) ((A 1) p1)) + p2))))) else none) else some ((0 : Int32), A))) else none)
theorem een_creditAccount (A : Nat → Int32 → Int32) (p1 : Int32) (p2 : Int32) : en_creditAccount A p1 p2 = (if (¬ p1 < 0) ∧ (p1 < (64 : Int32)) then (if ((A 1) p1) < 0 then some ((0 : Int32), A) else (if ((A 1) p1) < (16 : Int32) then (if (¬ p1 < 0) ∧ (p1 < (64 : Int32)) then (if ((A 2) p1) = 0 then some ((0 : Int32), (ups A 7 (ups (A 7) ((A 1) p1) (((A 7) ((A 1) p1)) + p2)))) else some ((0 : Int32), (ups A 8 (ups (A 8) ((A 1) p1) (((A 8) ((A 1) p1)) + p2))))) else none) else some ((0 : Int32), A))) else none) := Eq.trans rfl rfl
def R_creditAccount (A : Nat → Int32 → Int32) (p1 : Int32) (p2 : Int32) : Int32 × (Nat → Int32 → Int32) := (en_creditAccount A p1 p2).getD (0, (fun _ _ => 0))
theorem eR_creditAccount (A : Nat → Int32 → Int32) (p1 : Int32) (p2 : Int32) : R_creditAccount A p1 p2 = (en_creditAccount A p1 p2).getD (0, (fun _ _ => 0)) := Eq.trans rfl rfl
set_option maxRecDepth 65536 in
set_option maxHeartbeats 4000000 in
theorem run_creditAccount {l : Launch} {Z : State} {a0 : Array Value} (H : OK Z a0) (F : Nat → Int32) (G : Nat → Int64) (A : Nat → Int32 → Int32) (B : Nat → Int32 → Int64) (p1 : Int32) (p2 : Int32) (e1 : (en_creditAccount A p1 p2).isSome = true) :
    Wk l Z (MoC Z cdC) md_creditAccount 0 [.val (.ref 0), .val (.int p1), .val (.int p2), .unset] [] (11, F, G, A, B) 0 0 (fun v w' => v = none ∧ w' = (11, F, G, (R_creditAccount A p1 p2).2, B)) := by
  obtain ⟨r, h⟩ := Option.isSome_iff_exists.mp e1
  have e : R_creditAccount A p1 p2 = r := (eR_creditAccount A p1 p2).trans (getD_some h)
  rw [e]
  rw [een_creditAccount] at h
  exact wp_creditAccount H F G A B p1 p2 ((gd h).1.1) ((gd h).1.2) (fun q3 => (rt_creditAccount _ _ _ _ _ r (Option.some.inj (ifp q3 (gd h).2)))) (fun q3 q5 => (gd (ifp q5 (ifn q3 (gd h).2))).1.1) (fun q3 q5 => (gd (ifp q5 (ifn q3 (gd h).2))).1.2) (fun q3 q5 q8 => (rt_creditAccount _ _ _ _ _ r (Option.some.inj (ifn q8 (gd (ifp q5 (ifn q3 (gd h).2))).2)))) (fun q3 q5 q8 => (rt_creditAccount _ _ _ _ _ r (Option.some.inj (ifp q8 (gd (ifp q5 (ifn q3 (gd h).2))).2)))) (fun q3 q5 => (rt_creditAccount _ _ _ _ _ r (Option.some.inj (ifn q5 (ifn q3 (gd h).2)))))
set_option maxRecDepth 65536 in
set_option maxHeartbeats 4000000 in
theorem wp_allocateSide {l : Launch} {Z : State} {a0 : Array Value} (H : OK Z a0) (F : Nat → Int32) (G : Nat → Int64) (A : Nat → Int32 → Int32) (B : Nat → Int32 → Int64) (p1 : Int32) (p2 : Int32) (p3 : Int32) {Q : Option Value → WO → Prop} (h1 : Wk l Z (MoC Z cdC) md_allocateSide 6 [.val (.ref 0), .val (.int p1), .val (.int p2), .unset, .val (.int p3), .val (.int (0 : Int32)), .unset, .unset] [] (11, F, G, A, B) 0 0 Q) :
    Wk l Z (MoC Z cdC) md_allocateSide 0 [.val (.ref 0), .val (.int p1), .val (.int p2), .val (.int p3), .unset, .unset, .unset, .unset] [] (11, F, G, A, B) 0 0 Q := by
  refine Wk.iloadN o_allocateSide_0 rfl ?_
  refine Wk.istore o_allocateSide_1 (Or.inl rfl) (L' := [.val (.ref 0), .val (.int p1), .val (.int p2), .val (.int p3), .val (.int p3), .unset, .unset, .unset]) rfl ?_
  refine Wk.iconst o_allocateSide_3 (z := (0 : Int32)) (by decide) ?_
  refine Wk.istore o_allocateSide_4 (Or.inl rfl) (L' := [.val (.ref 0), .val (.int p1), .val (.int p2), .val (.int p3), .val (.int p3), .val (.int (0 : Int32)), .unset, .unset]) rfl ?_
  refine Wk.forget [false, false, false, true, false, false, false, false] (L' := [.val (.ref 0), .val (.int p1), .val (.int p2), .unset, .val (.int p3), .val (.int (0 : Int32)), .unset, .unset]) rfl rfl ?_
  exact h1

set_option maxRecDepth 65536 in
set_option maxHeartbeats 4000000 in
theorem wp_allocateSide_6 {l : Launch} {Z : State} {a0 : Array Value} (H : OK Z a0) (F : Nat → Int32) (G : Nat → Int64) (A : Nat → Int32 → Int32) (B : Nat → Int32 → Int64) (v1 : Int32) (v2 : Int32) (v4 : Int32) (v5 : Int32) {Q : Option Value → WO → Prop} (h2 : ¬ v5 < (64 : Int32) → Q none (11, F, G, A, B)) (h4 : v5 < (64 : Int32) → ¬ 0 < v4 → Q none (11, F, G, A, B)) (s5 : v5 < (64 : Int32) → 0 < v4 → (en_bestEligible F A v1 v2).isSome = true) (s7 : v5 < (64 : Int32) → 0 < v4 → ¬ (R_bestEligible F A v1 v2) < 0 → (R_bestEligible F A v1 v2) < (64 : Int32)) (s8 : v5 < (64 : Int32) → 0 < v4 → ¬ (R_bestEligible F A v1 v2) < 0 → (en_creditAccount (ups (ups A 4 (ups (A 4) (R_bestEligible F A v1 v2) (((A 4) (R_bestEligible F A v1 v2)) - (f_min ((A 4) (R_bestEligible F A v1 v2)) v4)))) 5 (ups (A 5) (R_bestEligible F A v1 v2) (((A 5) (R_bestEligible F A v1 v2)) + (f_min ((A 4) (R_bestEligible F A v1 v2)) v4)))) (R_bestEligible F A v1 v2) (f_min ((A 4) (R_bestEligible F A v1 v2)) v4)).isSome = true) (h9 : v5 < (64 : Int32) → 0 < v4 → ¬ (R_bestEligible F A v1 v2) < 0 → Wk l Z (MoC Z cdC) md_allocateSide 6 [.val (.ref 0), .val (.int v1), .val (.int v2), .unset, .val (.int (v4 - (f_min ((A 4) (R_bestEligible F A v1 v2)) v4))), .val (.int (v5 + (1 : Int32))), .unset, .unset] [] (11, F, G, (R_creditAccount (ups (ups A 4 (ups (A 4) (R_bestEligible F A v1 v2) (((A 4) (R_bestEligible F A v1 v2)) - (f_min ((A 4) (R_bestEligible F A v1 v2)) v4)))) 5 (ups (A 5) (R_bestEligible F A v1 v2) (((A 5) (R_bestEligible F A v1 v2)) + (f_min ((A 4) (R_bestEligible F A v1 v2)) v4)))) (R_bestEligible F A v1 v2) (f_min ((A 4) (R_bestEligible F A v1 v2)) v4)).2, B) 0 0 Q) (h10 : v5 < (64 : Int32) → 0 < v4 → (R_bestEligible F A v1 v2) < 0 → Q none (11, F, G, A, B)) :
    Wk l Z (MoC Z cdC) md_allocateSide 6 [.val (.ref 0), .val (.int v1), .val (.int v2), .unset, .val (.int v4), .val (.int v5), .unset, .unset] [] (11, F, G, A, B) 0 0 Q := by
  refine Wk.iload o_allocateSide_6 rfl ?_
  refine Wk.bipush o_allocateSide_8 (z := (64 : Int32)) (by decide) ?_
  refine Wk.icmp_ge o_allocateSide_10 (fun q1 => ?_) (fun q1 => ?_)
  · exact Wk.ret mrC rfl o_allocateSide_92 rfl (by decide) (by decide) (h2 q1)
  · refine Wk.iload o_allocateSide_13 rfl ?_
    refine Wk.if_le o_allocateSide_15 (fun q3 => ?_) (fun q3 => ?_)
    · exact Wk.ret mrC rfl o_allocateSide_92 rfl (by decide) (by decide) (h4 q1 q3)
    · refine Wk.aloadN o_allocateSide_18 rfl ?_
      refine Wk.iloadN o_allocateSide_19 rfl ?_
      refine Wk.iloadN o_allocateSide_20 rfl ?_
      refine Wk.callF [.int v1, .int v2] [] (H.w 126 rfl) (cv_bestEligible H) o_allocateSide_21 (run_bestEligible H F G A B v1 v2 (s5 q1 q3)) (wt := 0) (cu' := 0) (su' := 0) (by decide) rfl rfl rfl rfl rfl rfl rfl ?_
      refine Wk.istore o_allocateSide_24 (Or.inl rfl) (L' := [.val (.ref 0), .val (.int v1), .val (.int v2), .unset, .val (.int v4), .val (.int v5), .val (.int (R_bestEligible F A v1 v2)), .unset]) rfl ?_
      refine Wk.iload o_allocateSide_26 rfl ?_
      refine Wk.if_ge o_allocateSide_28 (fun q6 => ?_) (fun q6 => ?_)
      · refine Wk.aloadN o_allocateSide_32 rfl ?_
        refine Wk.aloadN o_allocateSide_33 rfl ?_
        refine Wk.getA (mA_rem) (by decide) (i' := 5) rfl (wf_rem H) o_allocateSide_34 ?_
        refine Wk.iload o_allocateSide_37 rfl ?_
        refine Wk.iaload (mA_rem) (by decide) (i' := 5) rfl q6 (s7 q1 q3 q6) o_allocateSide_39 (y := ((A 4) (R_bestEligible F A v1 v2))) rfl ?_
        refine Wk.iload o_allocateSide_40 rfl ?_
        refine Wk.callF [.int ((A 4) (R_bestEligible F A v1 v2)), .int v4] [] (H.w 88 rfl) (cv_min H) o_allocateSide_42 (run_min H F G A B ((A 4) (R_bestEligible F A v1 v2)) v4) (wt := 0) (cu' := 0) (su' := 0) (by decide) rfl rfl rfl rfl rfl rfl rfl ?_
        refine Wk.istore o_allocateSide_45 (Or.inl rfl) (L' := [.val (.ref 0), .val (.int v1), .val (.int v2), .unset, .val (.int v4), .val (.int v5), .val (.int (R_bestEligible F A v1 v2)), .val (.int (f_min ((A 4) (R_bestEligible F A v1 v2)) v4))]) rfl ?_
        refine Wk.aloadN o_allocateSide_47 rfl ?_
        refine Wk.getA (mA_rem) (by decide) (i' := 5) rfl (wf_rem H) o_allocateSide_48 ?_
        refine Wk.iload o_allocateSide_51 rfl ?_
        refine Wk.dup2 o_allocateSide_53 rfl rfl ?_
        refine Wk.iaload (mA_rem) (by decide) (i' := 5) rfl q6 (s7 q1 q3 q6) o_allocateSide_54 (y := ((A 4) (R_bestEligible F A v1 v2))) rfl ?_
        refine Wk.iload o_allocateSide_55 rfl ?_
        refine Wk.isub o_allocateSide_57 ?_
        refine Wk.iastore (coC H) (f := (A 4)) (mA_rem) rfl (by decide) (i' := 5) rfl q6 (s7 q1 q3 q6) o_allocateSide_58 ?_
        refine Wk.aloadN o_allocateSide_59 rfl ?_
        refine Wk.getA (mA_fil) (by decide) (i' := 6) rfl (wf_fil H) o_allocateSide_60 ?_
        refine Wk.iload o_allocateSide_63 rfl ?_
        refine Wk.dup2 o_allocateSide_65 rfl rfl ?_
        refine Wk.iaload (mA_fil) (by decide) (i' := 6) rfl q6 (s7 q1 q3 q6) o_allocateSide_66 (y := ((A 5) (R_bestEligible F A v1 v2))) rfl ?_
        refine Wk.iload o_allocateSide_67 rfl ?_
        refine Wk.iadd o_allocateSide_69 ?_
        refine Wk.iastore (coC H) (f := (A 5)) (mA_fil) rfl (by decide) (i' := 6) rfl q6 (s7 q1 q3 q6) o_allocateSide_70 ?_
        refine Wk.iload o_allocateSide_71 rfl ?_
        refine Wk.iload o_allocateSide_73 rfl ?_
        refine Wk.isub o_allocateSide_75 ?_
        refine Wk.istore o_allocateSide_76 (Or.inr ⟨_, rfl, rfl⟩) (L' := [.val (.ref 0), .val (.int v1), .val (.int v2), .unset, .val (.int (v4 - (f_min ((A 4) (R_bestEligible F A v1 v2)) v4))), .val (.int v5), .val (.int (R_bestEligible F A v1 v2)), .val (.int (f_min ((A 4) (R_bestEligible F A v1 v2)) v4))]) rfl ?_
        refine Wk.aloadN o_allocateSide_78 rfl ?_
        refine Wk.iload o_allocateSide_79 rfl ?_
        refine Wk.iload o_allocateSide_81 rfl ?_
        refine Wk.callU [.int (R_bestEligible F A v1 v2), .int (f_min ((A 4) (R_bestEligible F A v1 v2)) v4)] [] (H.w 134 rfl) (cv_creditAccount H) o_allocateSide_83 (run_creditAccount H F G (ups (ups A 4 (ups (A 4) (R_bestEligible F A v1 v2) (((A 4) (R_bestEligible F A v1 v2)) - (f_min ((A 4) (R_bestEligible F A v1 v2)) v4)))) 5 (ups (A 5) (R_bestEligible F A v1 v2) (((A 5) (R_bestEligible F A v1 v2)) + (f_min ((A 4) (R_bestEligible F A v1 v2)) v4)))) B (R_bestEligible F A v1 v2) (f_min ((A 4) (R_bestEligible F A v1 v2)) v4) (s8 q1 q3 q6)) (wt := 0) (cu' := 0) (su' := 0) (by decide) rfl rfl rfl rfl rfl rfl rfl ?_
        refine Wk.iinc o_allocateSide_86 rfl (z := (v5 + (1 : Int32))) rfl (L' := [.val (.ref 0), .val (.int v1), .val (.int v2), .unset, .val (.int (v4 - (f_min ((A 4) (R_bestEligible F A v1 v2)) v4))), .val (.int (v5 + (1 : Int32))), .val (.int (R_bestEligible F A v1 v2)), .val (.int (f_min ((A 4) (R_bestEligible F A v1 v2)) v4))]) rfl ?_
        refine Wk.goto o_allocateSide_89 ?_
        refine Wk.forget [false, false, false, false, false, false, true, true] (L' := [.val (.ref 0), .val (.int v1), .val (.int v2), .unset, .val (.int (v4 - (f_min ((A 4) (R_bestEligible F A v1 v2)) v4))), .val (.int (v5 + (1 : Int32))), .unset, .unset]) rfl rfl ?_
        exact (h9 q1 q3 q6)
      · exact Wk.ret mrC rfl o_allocateSide_31 rfl (by decide) (by decide) (h10 q1 q3 q6)

theorem rt_allocateSide (F : Nat → Int32) (G : Nat → Int64) (B : Nat → Int32 → Int64) (v0 : Int32) (xA : Nat → Int32 → Int32) (r : Int32 × (Nat → Int32 → Int32)) (e : (v0, xA) = r) : (none : Option Value) = none ∧ (11, F, G, xA, B) = (11, F, G, r.2, B) := by subst e; exact ⟨rfl, rfl⟩
def lp_allocateSide : Nat → Nat → Int32 → Int32 → Int32 → Int32 → (Nat → Int32) → (Nat → Int32 → Int32) → Option (Int32 × (Nat → Int32 → Int32))
  | 0, _, _, _, _, _, _, _ => none
  | n + 1, tag, v1, v2, v4, v5, F, A => if tag = 6 then (if v5 < (64 : Int32) then (if 0 < v4 then (if ((en_bestEligible F A v1 v2).isSome = true) then (if (R_bestEligible F A v1 v2) < 0 then some ((0 : Int32), A) else (if ((R_bestEligible F A v1 v2) < (64 : Int32)) ∧ ((en_creditAccount (ups (ups A 4 (ups (A 4) (R_bestEligible F A v1 v2) (((A 4) (R_bestEligible F A v1 v2)) - (f_min ((A 4) (R_bestEligible F A v1 v2)) v4)))) 5 (ups (A 5) (R_bestEligible F A v1 v2) (((A 5) (R_bestEligible F A v1 v2)) + (f_min ((A 4) (R_bestEligible F A v1 v2)) v4)))) (R_bestEligible F A v1 v2) (f_min ((A 4) (R_bestEligible F A v1 v2)) v4)).isSome = true) then lp_allocateSide n 6 v1 v2 (v4 - (f_min ((A 4) (R_bestEligible F A v1 v2)) v4)) (v5 + (1 : Int32)) F (R_creditAccount (ups (ups A 4 (ups (A 4) (R_bestEligible F A v1 v2) (((A 4) (R_bestEligible F A v1 v2)) - (f_min ((A 4) (R_bestEligible F A v1 v2)) v4)))) 5 (ups (A 5) (R_bestEligible F A v1 v2) (((A 5) (R_bestEligible F A v1 v2)) + (f_min ((A 4) (R_bestEligible F A v1 v2)) v4)))) (R_bestEligible F A v1 v2) (f_min ((A 4) (R_bestEligible F A v1 v2)) v4)).2 else none)) else none) else some ((0 : Int32), A)) else some ((0 : Int32), A)) else none
theorem lp_allocateSide_z (tag : Nat) (v1 : Int32) (v2 : Int32) (v4 : Int32) (v5 : Int32) (F : Nat → Int32) (A : Nat → Int32 → Int32) : lp_allocateSide 0 tag v1 v2 v4 v5 F A = none := Eq.trans rfl rfl
theorem lp_allocateSide_6 (n : Nat) (v1 : Int32) (v2 : Int32) (v4 : Int32) (v5 : Int32) (F : Nat → Int32) (A : Nat → Int32 → Int32) : lp_allocateSide (n + 1) 6 v1 v2 v4 v5 F A = (if v5 < (64 : Int32) then (if 0 < v4 then (if ((en_bestEligible F A v1 v2).isSome = true) then (if (R_bestEligible F A v1 v2) < 0 then some ((0 : Int32), A) else (if ((R_bestEligible F A v1 v2) < (64 : Int32)) ∧ ((en_creditAccount (ups (ups A 4 (ups (A 4) (R_bestEligible F A v1 v2) (((A 4) (R_bestEligible F A v1 v2)) - (f_min ((A 4) (R_bestEligible F A v1 v2)) v4)))) 5 (ups (A 5) (R_bestEligible F A v1 v2) (((A 5) (R_bestEligible F A v1 v2)) + (f_min ((A 4) (R_bestEligible F A v1 v2)) v4)))) (R_bestEligible F A v1 v2) (f_min ((A 4) (R_bestEligible F A v1 v2)) v4)).isSome = true) then lp_allocateSide n 6 v1 v2 (v4 - (f_min ((A 4) (R_bestEligible F A v1 v2)) v4)) (v5 + (1 : Int32)) F (R_creditAccount (ups (ups A 4 (ups (A 4) (R_bestEligible F A v1 v2) (((A 4) (R_bestEligible F A v1 v2)) - (f_min ((A 4) (R_bestEligible F A v1 v2)) v4)))) 5 (ups (A 5) (R_bestEligible F A v1 v2) (((A 5) (R_bestEligible F A v1 v2)) + (f_min ((A 4) (R_bestEligible F A v1 v2)) v4)))) (R_bestEligible F A v1 v2) (f_min ((A 4) (R_bestEligible F A v1 v2)) v4)).2 else none)) else none) else some ((0 : Int32), A)) else some ((0 : Int32), A)) := by
  rw [lp_allocateSide, if_pos rfl]
set_option maxRecDepth 65536 in
set_option maxHeartbeats 4000000 in
theorem lpw_allocateSide {l : Launch} {Z : State} {a0 : Array Value} (H : OK Z a0) (F : Nat → Int32) (G : Nat → Int64) (B : Nat → Int32 → Int64) : ∀ (n : Nat) (v1 : Int32) (v2 : Int32) (v4 : Int32) (v5 : Int32) (A : Nat → Int32 → Int32) (r : Int32 × (Nat → Int32 → Int32)), (lp_allocateSide n 6 v1 v2 v4 v5 F A = some r → Wk l Z (MoC Z cdC) md_allocateSide 6 [.val (.ref 0), .val (.int v1), .val (.int v2), .unset, .val (.int v4), .val (.int v5), .unset, .unset] [] (11, F, G, A, B) 0 0 (fun v w' => v = none ∧ w' = (11, F, G, r.2, B))) := by
  intro n
  induction n with
  | zero =>
    intro v1 v2 v4 v5 A r
    exact (fun h => by rw [lp_allocateSide_z] at h; cases h)
  | succ n ih =>
    intro v1 v2 v4 v5 A r
    refine fun h => ?_
    · rw [lp_allocateSide_6] at h
      exact wp_allocateSide_6 H F G A B v1 v2 v4 v5 (fun q1 => (rt_allocateSide _ _ _ _ _ r (Option.some.inj (ifn q1 h)))) (fun q1 q3 => (rt_allocateSide _ _ _ _ _ r (Option.some.inj (ifn q3 (ifp q1 h))))) (fun q1 q3 => (gd (ifp q3 (ifp q1 h))).1) (fun q1 q3 q6 => (gd (ifn q6 (gd (ifp q3 (ifp q1 h))).2)).1.1) (fun q1 q3 q6 => (gd (ifn q6 (gd (ifp q3 (ifp q1 h))).2)).1.2) (fun q1 q3 q6 => (ih _ _ _ _ _ _) (gd (ifn q6 (gd (ifp q3 (ifp q1 h))).2)).2) (fun q1 q3 q6 => (rt_allocateSide _ _ _ _ _ r (Option.some.inj (ifp q6 (gd (ifp q3 (ifp q1 h))).2))))
def en_allocateSide (F : Nat → Int32) (A : Nat → Int32 → Int32) (p1 : Int32) (p2 : Int32) (p3 : Int32) : Option (Int32 × (Nat → Int32 → Int32)) := lp_allocateSide 1000 6 p1 p2 p3 (0 : Int32) F A
theorem een_allocateSide (F : Nat → Int32) (A : Nat → Int32 → Int32) (p1 : Int32) (p2 : Int32) (p3 : Int32) : en_allocateSide F A p1 p2 p3 = lp_allocateSide 1000 6 p1 p2 p3 (0 : Int32) F A := Eq.trans rfl rfl
def R_allocateSide (F : Nat → Int32) (A : Nat → Int32 → Int32) (p1 : Int32) (p2 : Int32) (p3 : Int32) : Int32 × (Nat → Int32 → Int32) := (en_allocateSide F A p1 p2 p3).getD (0, (fun _ _ => 0))
theorem eR_allocateSide (F : Nat → Int32) (A : Nat → Int32 → Int32) (p1 : Int32) (p2 : Int32) (p3 : Int32) : R_allocateSide F A p1 p2 p3 = (en_allocateSide F A p1 p2 p3).getD (0, (fun _ _ => 0)) := Eq.trans rfl rfl
set_option maxRecDepth 65536 in
set_option maxHeartbeats 4000000 in
theorem run_allocateSide {l : Launch} {Z : State} {a0 : Array Value} (H : OK Z a0) (F : Nat → Int32) (G : Nat → Int64) (A : Nat → Int32 → Int32) (B : Nat → Int32 → Int64) (p1 : Int32) (p2 : Int32) (p3 : Int32) (e1 : (en_allocateSide F A p1 p2 p3).isSome = true) :
    Wk l Z (MoC Z cdC) md_allocateSide 0 [.val (.ref 0), .val (.int p1), .val (.int p2), .val (.int p3), .unset, .unset, .unset, .unset] [] (11, F, G, A, B) 0 0 (fun v w' => v = none ∧ w' = (11, F, G, (R_allocateSide F A p1 p2 p3).2, B)) := by
  obtain ⟨r, h⟩ := Option.isSome_iff_exists.mp e1
  have e : R_allocateSide F A p1 p2 p3 = r := (eR_allocateSide F A p1 p2 p3).trans (getD_some h)
  rw [e]
  rw [een_allocateSide] at h
  exact wp_allocateSide H F G A B p1 p2 p3 ((lpw_allocateSide H F G B _ _ _ _ _ _ _) h)
set_option maxRecDepth 65536 in
set_option maxHeartbeats 4000000 in
theorem wp_markDone {l : Launch} {Z : State} {a0 : Array Value} (H : OK Z a0) (F : Nat → Int32) (G : Nat → Int64) (A : Nat → Int32 → Int32) (B : Nat → Int32 → Int64) {Q : Option Value → WO → Prop} (h1 : Wk l Z (MoC Z cdC) md_markDone 2 [.val (.ref 0), .val (.int (0 : Int32))] [] (11, F, G, A, B) 0 0 Q) :
    Wk l Z (MoC Z cdC) md_markDone 0 [.val (.ref 0), .unset] [] (11, F, G, A, B) 0 0 Q := by
  refine Wk.iconst o_markDone_0 (z := (0 : Int32)) (by decide) ?_
  refine Wk.istoreN o_markDone_1 (Or.inl rfl) (L' := [.val (.ref 0), .val (.int (0 : Int32))]) rfl ?_
  exact h1

set_option maxRecDepth 65536 in
set_option maxHeartbeats 4000000 in
theorem wp_markDone_2 {l : Launch} {Z : State} {a0 : Array Value} (H : OK Z a0) (F : Nat → Int32) (G : Nat → Int64) (A : Nat → Int32 → Int32) (B : Nat → Int32 → Int64) (v1 : Int32) {Q : Option Value → WO → Prop} (h2 : ¬ v1 < (F 0) → Q none (11, F, G, A, B)) (s3 : v1 < (F 0) → ¬ v1 < 0) (s4 : v1 < (F 0) → v1 < (64 : Int32)) (h13 : v1 < (F 0) → ¬ ((A 0) v1) = (1 : Int32) → Wk l Z (MoC Z cdC) md_markDone 2 [.val (.ref 0), .val (.int (v1 + (1 : Int32)))] [] (11, F, G, A, B) 0 0 Q) (s14 : v1 < (F 0) → ((A 0) v1) = (1 : Int32) → ¬ v1 < 0) (s15 : v1 < (F 0) → ((A 0) v1) = (1 : Int32) → v1 < (64 : Int32)) (h19 : v1 < (F 0) → ((A 0) v1) = (1 : Int32) → ¬ ((A 4) v1) = 0 → Wk l Z (MoC Z cdC) md_markDone 2 [.val (.ref 0), .val (.int (v1 + (1 : Int32)))] [] (11, F, G, A, B) 0 0 Q) (s20 : v1 < (F 0) → ((A 0) v1) = (1 : Int32) → ((A 4) v1) = 0 → ¬ v1 < 0) (s21 : v1 < (F 0) → ((A 0) v1) = (1 : Int32) → ((A 4) v1) = 0 → v1 < (64 : Int32)) (h22 : v1 < (F 0) → ((A 0) v1) = (1 : Int32) → ((A 4) v1) = 0 → Wk l Z (MoC Z cdC) md_markDone 2 [.val (.ref 0), .val (.int (v1 + (1 : Int32)))] [] (11, F, G, (ups A 0 (ups (A 0) v1 (2 : Int32))), B) 0 0 Q) :
    Wk l Z (MoC Z cdC) md_markDone 2 [.val (.ref 0), .val (.int v1)] [] (11, F, G, A, B) 0 0 Q := by
  refine Wk.iloadN o_markDone_2 rfl ?_
  refine Wk.aloadN o_markDone_3 rfl ?_
  refine Wk.getI (mI_cap) (wf_cap H) o_markDone_4 (x := (F 0)) rfl ?_
  refine Wk.icmp_ge o_markDone_7 (fun q1 => ?_) (fun q1 => ?_)
  · exact Wk.ret mrC rfl o_markDone_42 rfl (by decide) (by decide) (h2 q1)
  · refine Wk.aloadN o_markDone_10 rfl ?_
    refine Wk.getA (mA_st) (by decide) (i' := 1) rfl (wf_st H) o_markDone_11 ?_
    refine Wk.iloadN o_markDone_14 rfl ?_
    refine Wk.iaload (mA_st) (by decide) (i' := 1) rfl (s3 q1) (s4 q1) o_markDone_15 (y := ((A 0) v1)) rfl ?_
    refine Wk.iconst o_markDone_16 (z := (1 : Int32)) (by decide) ?_
    refine Wk.icmp_ne o_markDone_17 (fun q5 => ?_) (fun q5 => ?_)
    · refine Wk.iinc o_markDone_36 rfl (z := (v1 + (1 : Int32))) rfl (L' := [.val (.ref 0), .val (.int (v1 + (1 : Int32)))]) rfl ?_
      refine Wk.goto o_markDone_39 ?_
      exact (h13 q1 q5)
    · refine Wk.aloadN o_markDone_20 rfl ?_
      refine Wk.getA (mA_rem) (by decide) (i' := 5) rfl (wf_rem H) o_markDone_21 ?_
      refine Wk.iloadN o_markDone_24 rfl ?_
      refine Wk.iaload (mA_rem) (by decide) (i' := 5) rfl (s14 q1 q5) (s15 q1 q5) o_markDone_25 (y := ((A 4) v1)) rfl ?_
      refine Wk.if_ne o_markDone_26 (fun q16 => ?_) (fun q16 => ?_)
      · refine Wk.iinc o_markDone_36 rfl (z := (v1 + (1 : Int32))) rfl (L' := [.val (.ref 0), .val (.int (v1 + (1 : Int32)))]) rfl ?_
        refine Wk.goto o_markDone_39 ?_
        exact (h19 q1 q5 q16)
      · refine Wk.aloadN o_markDone_29 rfl ?_
        refine Wk.getA (mA_st) (by decide) (i' := 1) rfl (wf_st H) o_markDone_30 ?_
        refine Wk.iloadN o_markDone_33 rfl ?_
        refine Wk.iconst o_markDone_34 (z := (2 : Int32)) (by decide) ?_
        refine Wk.iastore (coC H) (f := (A 0)) (mA_st) rfl (by decide) (i' := 1) rfl (s20 q1 q5 q16) (s21 q1 q5 q16) o_markDone_35 ?_
        refine Wk.iinc o_markDone_36 rfl (z := (v1 + (1 : Int32))) rfl (L' := [.val (.ref 0), .val (.int (v1 + (1 : Int32)))]) rfl ?_
        refine Wk.goto o_markDone_39 ?_
        exact (h22 q1 q5 q16)

theorem rt_markDone (F : Nat → Int32) (G : Nat → Int64) (B : Nat → Int32 → Int64) (v0 : Int32) (xA : Nat → Int32 → Int32) (r : Int32 × (Nat → Int32 → Int32)) (e : (v0, xA) = r) : (none : Option Value) = none ∧ (11, F, G, xA, B) = (11, F, G, r.2, B) := by subst e; exact ⟨rfl, rfl⟩
def lp_markDone : Nat → Nat → Int32 → (Nat → Int32) → (Nat → Int32 → Int32) → Option (Int32 × (Nat → Int32 → Int32))
  | 0, _, _, _, _ => none
  | n + 1, tag, v1, F, A => if tag = 2 then (if v1 < (F 0) then (if (¬ v1 < 0) ∧ (v1 < (64 : Int32)) then (if ((A 0) v1) = (1 : Int32) then (if (¬ v1 < 0) ∧ (v1 < (64 : Int32)) then (if ((A 4) v1) = 0 then (if (¬ v1 < 0) ∧ (v1 < (64 : Int32)) then lp_markDone n 2 (v1 + (1 : Int32)) F (ups A 0 (ups (A 0) v1 (2 : Int32))) else none) else lp_markDone n 2 (v1 + (1 : Int32)) F A) else none) else lp_markDone n 2 (v1 + (1 : Int32)) F A) else none) else some ((0 : Int32), A)) else none
theorem lp_markDone_z (tag : Nat) (v1 : Int32) (F : Nat → Int32) (A : Nat → Int32 → Int32) : lp_markDone 0 tag v1 F A = none := Eq.trans rfl rfl
theorem lp_markDone_2 (n : Nat) (v1 : Int32) (F : Nat → Int32) (A : Nat → Int32 → Int32) : lp_markDone (n + 1) 2 v1 F A = (if v1 < (F 0) then (if (¬ v1 < 0) ∧ (v1 < (64 : Int32)) then (if ((A 0) v1) = (1 : Int32) then (if (¬ v1 < 0) ∧ (v1 < (64 : Int32)) then (if ((A 4) v1) = 0 then (if (¬ v1 < 0) ∧ (v1 < (64 : Int32)) then lp_markDone n 2 (v1 + (1 : Int32)) F (ups A 0 (ups (A 0) v1 (2 : Int32))) else none) else lp_markDone n 2 (v1 + (1 : Int32)) F A) else none) else lp_markDone n 2 (v1 + (1 : Int32)) F A) else none) else some ((0 : Int32), A)) := by
  rw [lp_markDone, if_pos rfl]
set_option maxRecDepth 65536 in
set_option maxHeartbeats 4000000 in
theorem lpw_markDone {l : Launch} {Z : State} {a0 : Array Value} (H : OK Z a0) (F : Nat → Int32) (G : Nat → Int64) (B : Nat → Int32 → Int64) : ∀ (n : Nat) (v1 : Int32) (A : Nat → Int32 → Int32) (r : Int32 × (Nat → Int32 → Int32)), (lp_markDone n 2 v1 F A = some r → Wk l Z (MoC Z cdC) md_markDone 2 [.val (.ref 0), .val (.int v1)] [] (11, F, G, A, B) 0 0 (fun v w' => v = none ∧ w' = (11, F, G, r.2, B))) := by
  intro n
  induction n with
  | zero =>
    intro v1 A r
    exact (fun h => by rw [lp_markDone_z] at h; cases h)
  | succ n ih =>
    intro v1 A r
    refine fun h => ?_
    · rw [lp_markDone_2] at h
      exact wp_markDone_2 H F G A B v1 (fun q1 => (rt_markDone _ _ _ _ _ r (Option.some.inj (ifn q1 h)))) (fun q1 => (gd (ifp q1 h)).1.1) (fun q1 => (gd (ifp q1 h)).1.2) (fun q1 q5 => (ih _ _ _) (ifn q5 (gd (ifp q1 h)).2)) (fun q1 q5 => (gd (ifp q5 (gd (ifp q1 h)).2)).1.1) (fun q1 q5 => (gd (ifp q5 (gd (ifp q1 h)).2)).1.2) (fun q1 q5 q16 => (ih _ _ _) (ifn q16 (gd (ifp q5 (gd (ifp q1 h)).2)).2)) (fun q1 q5 q16 => (gd (ifp q16 (gd (ifp q5 (gd (ifp q1 h)).2)).2)).1.1) (fun q1 q5 q16 => (gd (ifp q16 (gd (ifp q5 (gd (ifp q1 h)).2)).2)).1.2) (fun q1 q5 q16 => (ih _ _ _) (gd (ifp q16 (gd (ifp q5 (gd (ifp q1 h)).2)).2)).2)
def en_markDone (F : Nat → Int32) (A : Nat → Int32 → Int32) : Option (Int32 × (Nat → Int32 → Int32)) := lp_markDone 1000 2 (0 : Int32) F A
theorem een_markDone (F : Nat → Int32) (A : Nat → Int32 → Int32) : en_markDone F A  = lp_markDone 1000 2 (0 : Int32) F A := Eq.trans rfl rfl
def R_markDone (F : Nat → Int32) (A : Nat → Int32 → Int32) : Int32 × (Nat → Int32 → Int32) := (en_markDone F A ).getD (0, (fun _ _ => 0))
theorem eR_markDone (F : Nat → Int32) (A : Nat → Int32 → Int32) : R_markDone F A  = (en_markDone F A ).getD (0, (fun _ _ => 0)) := Eq.trans rfl rfl
set_option maxRecDepth 65536 in
set_option maxHeartbeats 4000000 in
theorem run_markDone {l : Launch} {Z : State} {a0 : Array Value} (H : OK Z a0) (F : Nat → Int32) (G : Nat → Int64) (A : Nat → Int32 → Int32) (B : Nat → Int32 → Int64) (e1 : (en_markDone F A ).isSome = true) :
    Wk l Z (MoC Z cdC) md_markDone 0 [.val (.ref 0), .unset] [] (11, F, G, A, B) 0 0 (fun v w' => v = none ∧ w' = (11, F, G, (R_markDone F A ).2, B)) := by
  obtain ⟨r, h⟩ := Option.isSome_iff_exists.mp e1
  have e : R_markDone F A  = r := (eR_markDone F A ).trans (getD_some h)
  rw [e]
  rw [een_markDone] at h
  exact wp_markDone H F G A B  ((lpw_markDone H F G B _ _ _ _) h)
set_option maxRecDepth 65536 in
set_option maxHeartbeats 4000000 in
theorem wp_uncross {l : Launch} {Z : State} {a0 : Array Value} (H : OK Z a0) (F : Nat → Int32) (G : Nat → Int64) (A : Nat → Int32 → Int32) (B : Nat → Int32 → Int64) {Q : Option Value → WO → Prop} (s2 : (F 3) = 0 → (en_buildCurves F A ).isSome = true) (s3 : (F 3) = 0 → (en_maxVolume (R_buildCurves F A ).2 ).isSome = true) (h9 : (F 3) = 0 → ¬ 0 < (R_maxVolume (R_buildCurves F A ).2 ) → Q (some (.int (R_maxVolume (R_buildCurves F A ).2 ))) (11, (ups (ups (ups F 5 (0 : Int32)) 6 (R_maxVolume (R_buildCurves F A ).2 )) 3 (1 : Int32)), G, (R_buildCurves F A ).2, B)) (s10 : (F 3) = 0 → 0 < (R_maxVolume (R_buildCurves F A ).2 ) → (en_choosePrice F (R_buildCurves F A ).2 (R_maxVolume (R_buildCurves F A ).2 )).isSome = true) (s11 : (F 3) = 0 → 0 < (R_maxVolume (R_buildCurves F A ).2 ) → (en_allocateSide F (R_buildCurves F A ).2 (0 : Int32) (R_choosePrice F (R_buildCurves F A ).2 (R_maxVolume (R_buildCurves F A ).2 )) (R_maxVolume (R_buildCurves F A ).2 )).isSome = true) (s12 : (F 3) = 0 → 0 < (R_maxVolume (R_buildCurves F A ).2 ) → (en_allocateSide F (R_allocateSide F (R_buildCurves F A ).2 (0 : Int32) (R_choosePrice F (R_buildCurves F A ).2 (R_maxVolume (R_buildCurves F A ).2 )) (R_maxVolume (R_buildCurves F A ).2 )).2 (1 : Int32) (R_choosePrice F (R_buildCurves F A ).2 (R_maxVolume (R_buildCurves F A ).2 )) (R_maxVolume (R_buildCurves F A ).2 )).isSome = true) (s13 : (F 3) = 0 → 0 < (R_maxVolume (R_buildCurves F A ).2 ) → (en_markDone F (R_allocateSide F (R_allocateSide F (R_buildCurves F A ).2 (0 : Int32) (R_choosePrice F (R_buildCurves F A ).2 (R_maxVolume (R_buildCurves F A ).2 )) (R_maxVolume (R_buildCurves F A ).2 )).2 (1 : Int32) (R_choosePrice F (R_buildCurves F A ).2 (R_maxVolume (R_buildCurves F A ).2 )) (R_maxVolume (R_buildCurves F A ).2 )).2 ).isSome = true) (h14 : (F 3) = 0 → 0 < (R_maxVolume (R_buildCurves F A ).2 ) → Q (some (.int (R_maxVolume (R_buildCurves F A ).2 ))) (11, (ups (ups (ups F 5 (R_choosePrice F (R_buildCurves F A ).2 (R_maxVolume (R_buildCurves F A ).2 ))) 6 (R_maxVolume (R_buildCurves F A ).2 )) 3 (1 : Int32)), G, (R_markDone F (R_allocateSide F (R_allocateSide F (R_buildCurves F A ).2 (0 : Int32) (R_choosePrice F (R_buildCurves F A ).2 (R_maxVolume (R_buildCurves F A ).2 )) (R_maxVolume (R_buildCurves F A ).2 )).2 (1 : Int32) (R_choosePrice F (R_buildCurves F A ).2 (R_maxVolume (R_buildCurves F A ).2 )) (R_maxVolume (R_buildCurves F A ).2 )).2 ).2, B)) (h15 : ¬ (F 3) = 0 → Q (some (.int (-1 : Int32))) (11, F, G, A, B)) :
    Wk l Z (MoC Z cdC) md_uncross 0 [.val (.ref 0), .unset, .unset] [] (11, F, G, A, B) 0 0 Q := by
  refine Wk.aloadN o_uncross_0 rfl ?_
  refine Wk.getI (mI_phase) (wf_phase H) o_uncross_1 (x := (F 3)) rfl ?_
  refine Wk.if_eq o_uncross_4 (fun q1 => ?_) (fun q1 => ?_)
  · refine Wk.aloadN o_uncross_9 rfl ?_
    refine Wk.callU [] [] (H.w 68 rfl) (cv_buildCurves H) o_uncross_10 (run_buildCurves H F G A B (s2 q1)) (wt := 0) (cu' := 0) (su' := 0) (by decide) rfl rfl rfl rfl rfl rfl rfl ?_
    refine Wk.aloadN o_uncross_13 rfl ?_
    refine Wk.callF [] [] (H.w 80 rfl) (cv_maxVolume H) o_uncross_14 (run_maxVolume H F G (R_buildCurves F A ).2 B (s3 q1)) (wt := 0) (cu' := 0) (su' := 0) (by decide) rfl rfl rfl rfl rfl rfl rfl ?_
    refine Wk.istoreN o_uncross_17 (Or.inl rfl) (L' := [.val (.ref 0), .val (.int (R_maxVolume (R_buildCurves F A ).2 )), .unset]) rfl ?_
    refine Wk.iloadN o_uncross_18 rfl ?_
    refine Wk.if_le o_uncross_19 (fun q4 => ?_) (fun q4 => ?_)
    · refine Wk.aloadN o_uncross_54 rfl ?_
      refine Wk.iconst o_uncross_55 (z := (0 : Int32)) (by decide) ?_
      refine Wk.putI (coC H) (mI_lastPrice) (wf_lastPrice H) (Or.inl (wy_lastPrice H)) o_uncross_56 ?_
      refine Wk.aloadN o_uncross_59 rfl ?_
      refine Wk.iloadN o_uncross_60 rfl ?_
      refine Wk.putI (coC H) (mI_lastVolume) (wf_lastVolume H) (Or.inl (wy_lastVolume H)) o_uncross_61 ?_
      refine Wk.aloadN o_uncross_64 rfl ?_
      refine Wk.iconst o_uncross_65 (z := (1 : Int32)) (by decide) ?_
      refine Wk.putI (coC H) (mI_phase) (wf_phase H) (Or.inl (wy_phase H)) o_uncross_66 ?_
      refine Wk.iloadN o_uncross_69 rfl ?_
      exact Wk.ireturn mrC rfl o_uncross_70 rfl (by decide) (by decide) (h9 q1 q4)
    · refine Wk.aloadN o_uncross_22 rfl ?_
      refine Wk.iloadN o_uncross_23 rfl ?_
      refine Wk.callF [.int (R_maxVolume (R_buildCurves F A ).2 )] [] (H.w 97 rfl) (cv_choosePrice H) o_uncross_24 (run_choosePrice H F G (R_buildCurves F A ).2 B (R_maxVolume (R_buildCurves F A ).2 ) (s10 q1 q4)) (wt := 0) (cu' := 0) (su' := 0) (by decide) rfl rfl rfl rfl rfl rfl rfl ?_
      refine Wk.istoreN o_uncross_27 (Or.inl rfl) (L' := [.val (.ref 0), .val (.int (R_maxVolume (R_buildCurves F A ).2 )), .val (.int (R_choosePrice F (R_buildCurves F A ).2 (R_maxVolume (R_buildCurves F A ).2 )))]) rfl ?_
      refine Wk.aloadN o_uncross_28 rfl ?_
      refine Wk.iconst o_uncross_29 (z := (0 : Int32)) (by decide) ?_
      refine Wk.iloadN o_uncross_30 rfl ?_
      refine Wk.iloadN o_uncross_31 rfl ?_
      refine Wk.callU [.int (0 : Int32), .int (R_choosePrice F (R_buildCurves F A ).2 (R_maxVolume (R_buildCurves F A ).2 )), .int (R_maxVolume (R_buildCurves F A ).2 )] [] (H.w 122 rfl) (cv_allocateSide H) o_uncross_32 (run_allocateSide H F G (R_buildCurves F A ).2 B (0 : Int32) (R_choosePrice F (R_buildCurves F A ).2 (R_maxVolume (R_buildCurves F A ).2 )) (R_maxVolume (R_buildCurves F A ).2 ) (s11 q1 q4)) (wt := 0) (cu' := 0) (su' := 0) (by decide) rfl rfl rfl rfl rfl rfl rfl ?_
      refine Wk.aloadN o_uncross_35 rfl ?_
      refine Wk.iconst o_uncross_36 (z := (1 : Int32)) (by decide) ?_
      refine Wk.iloadN o_uncross_37 rfl ?_
      refine Wk.iloadN o_uncross_38 rfl ?_
      refine Wk.callU [.int (1 : Int32), .int (R_choosePrice F (R_buildCurves F A ).2 (R_maxVolume (R_buildCurves F A ).2 )), .int (R_maxVolume (R_buildCurves F A ).2 )] [] (H.w 122 rfl) (cv_allocateSide H) o_uncross_39 (run_allocateSide H F G (R_allocateSide F (R_buildCurves F A ).2 (0 : Int32) (R_choosePrice F (R_buildCurves F A ).2 (R_maxVolume (R_buildCurves F A ).2 )) (R_maxVolume (R_buildCurves F A ).2 )).2 B (1 : Int32) (R_choosePrice F (R_buildCurves F A ).2 (R_maxVolume (R_buildCurves F A ).2 )) (R_maxVolume (R_buildCurves F A ).2 ) (s12 q1 q4)) (wt := 0) (cu' := 0) (su' := 0) (by decide) rfl rfl rfl rfl rfl rfl rfl ?_
      refine Wk.aloadN o_uncross_42 rfl ?_
      refine Wk.callU [] [] (H.w 138 rfl) (cv_markDone H) o_uncross_43 (run_markDone H F G (R_allocateSide F (R_allocateSide F (R_buildCurves F A ).2 (0 : Int32) (R_choosePrice F (R_buildCurves F A ).2 (R_maxVolume (R_buildCurves F A ).2 )) (R_maxVolume (R_buildCurves F A ).2 )).2 (1 : Int32) (R_choosePrice F (R_buildCurves F A ).2 (R_maxVolume (R_buildCurves F A ).2 )) (R_maxVolume (R_buildCurves F A ).2 )).2 B (s13 q1 q4)) (wt := 0) (cu' := 0) (su' := 0) (by decide) rfl rfl rfl rfl rfl rfl rfl ?_
      refine Wk.aloadN o_uncross_46 rfl ?_
      refine Wk.iloadN o_uncross_47 rfl ?_
      refine Wk.putI (coC H) (mI_lastPrice) (wf_lastPrice H) (Or.inl (wy_lastPrice H)) o_uncross_48 ?_
      refine Wk.goto o_uncross_51 ?_
      refine Wk.aloadN o_uncross_59 rfl ?_
      refine Wk.iloadN o_uncross_60 rfl ?_
      refine Wk.putI (coC H) (mI_lastVolume) (wf_lastVolume H) (Or.inl (wy_lastVolume H)) o_uncross_61 ?_
      refine Wk.aloadN o_uncross_64 rfl ?_
      refine Wk.iconst o_uncross_65 (z := (1 : Int32)) (by decide) ?_
      refine Wk.putI (coC H) (mI_phase) (wf_phase H) (Or.inl (wy_phase H)) o_uncross_66 ?_
      refine Wk.iloadN o_uncross_69 rfl ?_
      exact Wk.ireturn mrC rfl o_uncross_70 rfl (by decide) (by decide) (h14 q1 q4)
  · refine Wk.iconst o_uncross_7 (z := (-1 : Int32)) (by decide) ?_
    exact Wk.ireturn mrC rfl o_uncross_8 rfl (by decide) (by decide) (h15 q1)

theorem rt_uncross (G : Nat → Int64) (B : Nat → Int32 → Int64) (v0 : Int32) (xF : Nat → Int32) (xA : Nat → Int32 → Int32) (r : Int32 × (Nat → Int32) × (Nat → Int32 → Int32)) (e : (v0, xF, xA) = r) : some (Value.int v0) = some (.int r.1) ∧ (11, xF, G, xA, B) = (11, r.2.1, G, r.2.2, B) := by subst e; exact ⟨rfl, rfl⟩
def en_uncross (F : Nat → Int32) (A : Nat → Int32 → Int32) : Option (Int32 × (Nat → Int32) × (Nat → Int32 → Int32)) := (if (F 3) = 0 then (if ((en_buildCurves F A ).isSome = true) ∧ ((en_maxVolume (R_buildCurves F A ).2 ).isSome = true) then (if 0 < (R_maxVolume (R_buildCurves F A ).2 ) then (if ((en_choosePrice F (R_buildCurves F A ).2 (R_maxVolume (R_buildCurves F A ).2 )).isSome = true) ∧ ((en_allocateSide F (R_buildCurves F A ).2 (0 : Int32) (R_choosePrice F (R_buildCurves F A ).2 (R_maxVolume (R_buildCurves F A ).2 )) (R_maxVolume (R_buildCurves F A ).2 )).isSome = true) ∧ ((en_allocateSide F (R_allocateSide F (R_buildCurves F A ).2 (0 : Int32) (R_choosePrice F (R_buildCurves F A ).2 (R_maxVolume (R_buildCurves F A ).2 )) (R_maxVolume (R_buildCurves F A ).2 )).2 (1 : Int32) (R_choosePrice F (R_buildCurves F A ).2 (R_maxVolume (R_buildCurves F A ).2 )) (R_maxVolume (R_buildCurves F A ).2 )).isSome = true) ∧ ((en_markDone F (R_allocateSide F (R_allocateSide F (R_buildCurves F A ).2 (0 : Int32) (R_choosePrice F (R_buildCurves F A ).2 (R_maxVolume (R_buildCurves F A ).2 )) (R_maxVolume (R_buildCurves F A ).2 )).2 (1 : Int32) (R_choosePrice F (R_buildCurves F A ).2 (R_maxVolume (R_buildCurves F A ).2 )) (R_maxVolume (R_buildCurves F A ).2 )).2 ).isSome = true) then some ((R_maxVolume (R_buildCurves F A ).2 ), (ups (ups (ups F 5 (R_choosePrice F (R_buildCurves F A ).2 (R_maxVolume (R_buildCurves F A ).2 ))) 6 (R_maxVolume (R_buildCurves F A ).2 )) 3 (1 : Int32)), (R_markDone F (R_allocateSide F (R_allocateSide F (R_buildCurves F A ).2 (0 : Int32) (R_choosePrice F (R_buildCurves F A ).2 (R_maxVolume (R_buildCurves F A ).2 )) (R_maxVolume (R_buildCurves F A ).2 )).2 (1 : Int32) (R_choosePrice F (R_buildCurves F A ).2 (R_maxVolume (R_buildCurves F A ).2 )) (R_maxVolume (R_buildCurves F A ).2 )).2 ).2) else none) else some ((R_maxVolume (R_buildCurves F A ).2 ), (ups (ups (ups F 5 (0 : Int32)) 6 (R_maxVolume (R_buildCurves F A ).2 )) 3 (1 : Int32)), (R_buildCurves F A ).2)) else none) else some ((-1 : Int32), F, A))
theorem een_uncross (F : Nat → Int32) (A : Nat → Int32 → Int32) : en_uncross F A  = (if (F 3) = 0 then (if ((en_buildCurves F A ).isSome = true) ∧ ((en_maxVolume (R_buildCurves F A ).2 ).isSome = true) then (if 0 < (R_maxVolume (R_buildCurves F A ).2 ) then (if ((en_choosePrice F (R_buildCurves F A ).2 (R_maxVolume (R_buildCurves F A ).2 )).isSome = true) ∧ ((en_allocateSide F (R_buildCurves F A ).2 (0 : Int32) (R_choosePrice F (R_buildCurves F A ).2 (R_maxVolume (R_buildCurves F A ).2 )) (R_maxVolume (R_buildCurves F A ).2 )).isSome = true) ∧ ((en_allocateSide F (R_allocateSide F (R_buildCurves F A ).2 (0 : Int32) (R_choosePrice F (R_buildCurves F A ).2 (R_maxVolume (R_buildCurves F A ).2 )) (R_maxVolume (R_buildCurves F A ).2 )).2 (1 : Int32) (R_choosePrice F (R_buildCurves F A ).2 (R_maxVolume (R_buildCurves F A ).2 )) (R_maxVolume (R_buildCurves F A ).2 )).isSome = true) ∧ ((en_markDone F (R_allocateSide F (R_allocateSide F (R_buildCurves F A ).2 (0 : Int32) (R_choosePrice F (R_buildCurves F A ).2 (R_maxVolume (R_buildCurves F A ).2 )) (R_maxVolume (R_buildCurves F A ).2 )).2 (1 : Int32) (R_choosePrice F (R_buildCurves F A ).2 (R_maxVolume (R_buildCurves F A ).2 )) (R_maxVolume (R_buildCurves F A ).2 )).2 ).isSome = true) then some ((R_maxVolume (R_buildCurves F A ).2 ), (ups (ups (ups F 5 (R_choosePrice F (R_buildCurves F A ).2 (R_maxVolume (R_buildCurves F A ).2 ))) 6 (R_maxVolume (R_buildCurves F A ).2 )) 3 (1 : Int32)), (R_markDone F (R_allocateSide F (R_allocateSide F (R_buildCurves F A ).2 (0 : Int32) (R_choosePrice F (R_buildCurves F A ).2 (R_maxVolume (R_buildCurves F A ).2 )) (R_maxVolume (R_buildCurves F A ).2 )).2 (1 : Int32) (R_choosePrice F (R_buildCurves F A ).2 (R_maxVolume (R_buildCurves F A ).2 )) (R_maxVolume (R_buildCurves F A ).2 )).2 ).2) else none) else some ((R_maxVolume (R_buildCurves F A ).2 ), (ups (ups (ups F 5 (0 : Int32)) 6 (R_maxVolume (R_buildCurves F A ).2 )) 3 (1 : Int32)), (R_buildCurves F A ).2)) else none) else some ((-1 : Int32), F, A)) := Eq.trans rfl rfl
def R_uncross (F : Nat → Int32) (A : Nat → Int32 → Int32) : Int32 × (Nat → Int32) × (Nat → Int32 → Int32) := (en_uncross F A ).getD (0, (fun _ => 0), (fun _ _ => 0))
theorem eR_uncross (F : Nat → Int32) (A : Nat → Int32 → Int32) : R_uncross F A  = (en_uncross F A ).getD (0, (fun _ => 0), (fun _ _ => 0)) := Eq.trans rfl rfl
set_option maxRecDepth 65536 in
set_option maxHeartbeats 4000000 in
theorem run_uncross {l : Launch} {Z : State} {a0 : Array Value} (H : OK Z a0) (F : Nat → Int32) (G : Nat → Int64) (A : Nat → Int32 → Int32) (B : Nat → Int32 → Int64) (e1 : (en_uncross F A ).isSome = true) :
    Wk l Z (MoC Z cdC) md_uncross 0 [.val (.ref 0), .unset, .unset] [] (11, F, G, A, B) 0 0 (fun v w' => v = some (.int (R_uncross F A ).1) ∧ w' = (11, (R_uncross F A ).2.1, G, (R_uncross F A ).2.2, B)) := by
  obtain ⟨r, h⟩ := Option.isSome_iff_exists.mp e1
  have e : R_uncross F A  = r := (eR_uncross F A ).trans (getD_some h)
  rw [e]
  rw [een_uncross] at h
  exact wp_uncross H F G A B  (fun q1 => (gd (ifp q1 h)).1.1) (fun q1 => (gd (ifp q1 h)).1.2) (fun q1 q4 => (rt_uncross _ _ _ _ _ r (Option.some.inj (ifn q4 (gd (ifp q1 h)).2)))) (fun q1 q4 => (gd (ifp q4 (gd (ifp q1 h)).2)).1.1) (fun q1 q4 => (gd (ifp q4 (gd (ifp q1 h)).2)).1.2.1) (fun q1 q4 => (gd (ifp q4 (gd (ifp q1 h)).2)).1.2.2.1) (fun q1 q4 => (gd (ifp q4 (gd (ifp q1 h)).2)).1.2.2.2) (fun q1 q4 => (rt_uncross _ _ _ _ _ r (Option.some.inj (gd (ifp q4 (gd (ifp q1 h)).2)).2))) (fun q1 => (rt_uncross _ _ _ _ _ r (Option.some.inj (ifn q1 h))))
set_option maxRecDepth 65536 in
set_option maxHeartbeats 4000000 in
theorem wp_getLastPrice {l : Launch} {Z : State} {a0 : Array Value} (H : OK Z a0) (F : Nat → Int32) (G : Nat → Int64) (A : Nat → Int32 → Int32) (B : Nat → Int32 → Int64) {Q : Option Value → WO → Prop} (h1 : Q (some (.int (F 5))) (11, F, G, A, B)) :
    Wk l Z (MoC Z cdC) md_getLastPrice 0 [.val (.ref 0)] [] (11, F, G, A, B) 0 0 Q := by
  refine Wk.aloadN o_getLastPrice_0 rfl ?_
  refine Wk.getI (mI_lastPrice) (wf_lastPrice H) o_getLastPrice_1 (x := (F 5)) rfl ?_
  exact Wk.ireturn mrC rfl o_getLastPrice_4 rfl (by decide) (by decide) h1

def f_getLastPrice (F : Nat → Int32) : Int32 := (F 5)
theorem e_getLastPrice (F : Nat → Int32) : f_getLastPrice F = (F 5) := Eq.trans rfl rfl
theorem run_getLastPrice {l : Launch} {Z : State} {a0 : Array Value} (H : OK Z a0) (F : Nat → Int32) (G : Nat → Int64) (A : Nat → Int32 → Int32) (B : Nat → Int32 → Int64) :
    Wk l Z (MoC Z cdC) md_getLastPrice 0 [.val (.ref 0)] [] (11, F, G, A, B) 0 0 (fun v w' => v = some (.int (f_getLastPrice F)) ∧ w' = (11, F, G, A, B)) :=
  wp_getLastPrice H F G A B ⟨rfl, rfl⟩
set_option maxRecDepth 65536 in
set_option maxHeartbeats 4000000 in
theorem wp_getLastVolume {l : Launch} {Z : State} {a0 : Array Value} (H : OK Z a0) (F : Nat → Int32) (G : Nat → Int64) (A : Nat → Int32 → Int32) (B : Nat → Int32 → Int64) {Q : Option Value → WO → Prop} (h1 : Q (some (.int (F 6))) (11, F, G, A, B)) :
    Wk l Z (MoC Z cdC) md_getLastVolume 0 [.val (.ref 0)] [] (11, F, G, A, B) 0 0 Q := by
  refine Wk.aloadN o_getLastVolume_0 rfl ?_
  refine Wk.getI (mI_lastVolume) (wf_lastVolume H) o_getLastVolume_1 (x := (F 6)) rfl ?_
  exact Wk.ireturn mrC rfl o_getLastVolume_4 rfl (by decide) (by decide) h1

def f_getLastVolume (F : Nat → Int32) : Int32 := (F 6)
theorem e_getLastVolume (F : Nat → Int32) : f_getLastVolume F = (F 6) := Eq.trans rfl rfl
theorem run_getLastVolume {l : Launch} {Z : State} {a0 : Array Value} (H : OK Z a0) (F : Nat → Int32) (G : Nat → Int64) (A : Nat → Int32 → Int32) (B : Nat → Int32 → Int64) :
    Wk l Z (MoC Z cdC) md_getLastVolume 0 [.val (.ref 0)] [] (11, F, G, A, B) 0 0 (fun v w' => v = some (.int (f_getLastVolume F)) ∧ w' = (11, F, G, A, B)) :=
  wp_getLastVolume H F G A B ⟨rfl, rfl⟩
set_option maxRecDepth 65536 in
set_option maxHeartbeats 4000000 in
theorem wp_getPhase {l : Launch} {Z : State} {a0 : Array Value} (H : OK Z a0) (F : Nat → Int32) (G : Nat → Int64) (A : Nat → Int32 → Int32) (B : Nat → Int32 → Int64) {Q : Option Value → WO → Prop} (h1 : Q (some (.int (F 3))) (11, F, G, A, B)) :
    Wk l Z (MoC Z cdC) md_getPhase 0 [.val (.ref 0)] [] (11, F, G, A, B) 0 0 Q := by
  refine Wk.aloadN o_getPhase_0 rfl ?_
  refine Wk.getI (mI_phase) (wf_phase H) o_getPhase_1 (x := (F 3)) rfl ?_
  exact Wk.ireturn mrC rfl o_getPhase_4 rfl (by decide) (by decide) h1

def f_getPhase (F : Nat → Int32) : Int32 := (F 3)
theorem e_getPhase (F : Nat → Int32) : f_getPhase F = (F 3) := Eq.trans rfl rfl
theorem run_getPhase {l : Launch} {Z : State} {a0 : Array Value} (H : OK Z a0) (F : Nat → Int32) (G : Nat → Int64) (A : Nat → Int32 → Int32) (B : Nat → Int32 → Int64) :
    Wk l Z (MoC Z cdC) md_getPhase 0 [.val (.ref 0)] [] (11, F, G, A, B) 0 0 (fun v w' => v = some (.int (f_getPhase F)) ∧ w' = (11, F, G, A, B)) :=
  wp_getPhase H F G A B ⟨rfl, rfl⟩
set_option maxRecDepth 65536 in
set_option maxHeartbeats 4000000 in
theorem wp_accountBought {l : Launch} {Z : State} {a0 : Array Value} (H : OK Z a0) (F : Nat → Int32) (G : Nat → Int64) (A : Nat → Int32 → Int32) (B : Nat → Int32 → Int64) (p1 : Int32) {Q : Option Value → WO → Prop} (h2 : p1 < 0 → Q (some (.int (-1 : Int32))) (11, F, G, A, B)) (s4 : ¬ p1 < 0 → p1 < (F 1) → p1 < (16 : Int32)) (h5 : ¬ p1 < 0 → p1 < (F 1) → Q (some (.int ((A 7) p1))) (11, F, G, A, B)) (h6 : ¬ p1 < 0 → ¬ p1 < (F 1) → Q (some (.int (-1 : Int32))) (11, F, G, A, B)) :
    Wk l Z (MoC Z cdC) md_accountBought 0 [.val (.ref 0), .val (.int p1)] [] (11, F, G, A, B) 0 0 Q := by
  refine Wk.iloadN o_accountBought_0 rfl ?_
  refine Wk.if_lt o_accountBought_1 (fun q1 => ?_) (fun q1 => ?_)
  · refine Wk.iconst o_accountBought_12 (z := (-1 : Int32)) (by decide) ?_
    exact Wk.ireturn mrC rfl o_accountBought_13 rfl (by decide) (by decide) (h2 q1)
  · refine Wk.iloadN o_accountBought_4 rfl ?_
    refine Wk.aloadN o_accountBought_5 rfl ?_
    refine Wk.getI (mI_nAcc) (wf_nAcc H) o_accountBought_6 (x := (F 1)) rfl ?_
    refine Wk.icmp_lt o_accountBought_9 (fun q3 => ?_) (fun q3 => ?_)
    · refine Wk.aloadN o_accountBought_14 rfl ?_
      refine Wk.getA (mA_bought) (by decide) (i' := 8) rfl (wf_bought H) o_accountBought_15 ?_
      refine Wk.iloadN o_accountBought_18 rfl ?_
      refine Wk.iaload (mA_bought) (by decide) (i' := 8) rfl q1 (s4 q1 q3) o_accountBought_19 (y := ((A 7) p1)) rfl ?_
      exact Wk.ireturn mrC rfl o_accountBought_20 rfl (by decide) (by decide) (h5 q1 q3)
    · refine Wk.iconst o_accountBought_12 (z := (-1 : Int32)) (by decide) ?_
      exact Wk.ireturn mrC rfl o_accountBought_13 rfl (by decide) (by decide) (h6 q1 q3)

theorem rt_accountBought (F : Nat → Int32) (G : Nat → Int64) (A : Nat → Int32 → Int32) (B : Nat → Int32 → Int64) (v0 : Int32) (r : Int32) (e : v0 = r) : some (Value.int v0) = some (.int r) ∧ (11, F, G, A, B) = (11, F, G, A, B) := by subst e; exact ⟨rfl, rfl⟩
def en_accountBought (F : Nat → Int32) (A : Nat → Int32 → Int32) (p1 : Int32) : Option (Int32) := (if p1 < 0 then some ((-1 : Int32)) else (if p1 < (F 1) then (if (p1 < (16 : Int32)) then some (((A 7) p1)) else none) else some ((-1 : Int32))))
theorem een_accountBought (F : Nat → Int32) (A : Nat → Int32 → Int32) (p1 : Int32) : en_accountBought F A p1 = (if p1 < 0 then some ((-1 : Int32)) else (if p1 < (F 1) then (if (p1 < (16 : Int32)) then some (((A 7) p1)) else none) else some ((-1 : Int32)))) := Eq.trans rfl rfl
def R_accountBought (F : Nat → Int32) (A : Nat → Int32 → Int32) (p1 : Int32) : Int32 := (en_accountBought F A p1).getD (0)
theorem eR_accountBought (F : Nat → Int32) (A : Nat → Int32 → Int32) (p1 : Int32) : R_accountBought F A p1 = (en_accountBought F A p1).getD (0) := Eq.trans rfl rfl
set_option maxRecDepth 65536 in
set_option maxHeartbeats 4000000 in
theorem run_accountBought {l : Launch} {Z : State} {a0 : Array Value} (H : OK Z a0) (F : Nat → Int32) (G : Nat → Int64) (A : Nat → Int32 → Int32) (B : Nat → Int32 → Int64) (p1 : Int32) (e1 : (en_accountBought F A p1).isSome = true) :
    Wk l Z (MoC Z cdC) md_accountBought 0 [.val (.ref 0), .val (.int p1)] [] (11, F, G, A, B) 0 0 (fun v w' => v = some (.int (R_accountBought F A p1)) ∧ w' = (11, F, G, A, B)) := by
  obtain ⟨r, h⟩ := Option.isSome_iff_exists.mp e1
  have e : R_accountBought F A p1 = r := (eR_accountBought F A p1).trans (getD_some h)
  rw [e]
  rw [een_accountBought] at h
  exact wp_accountBought H F G A B p1 (fun q1 => (rt_accountBought _ _ _ _ _ r (Option.some.inj (ifp q1 h)))) (fun q1 q3 => (gd (ifp q3 (ifn q1 h))).1) (fun q1 q3 => (rt_accountBought _ _ _ _ _ r (Option.some.inj (gd (ifp q3 (ifn q1 h))).2))) (fun q1 q3 => (rt_accountBought _ _ _ _ _ r (Option.some.inj (ifn q3 (ifn q1 h)))))
set_option maxRecDepth 65536 in
set_option maxHeartbeats 4000000 in
theorem wp_accountSold {l : Launch} {Z : State} {a0 : Array Value} (H : OK Z a0) (F : Nat → Int32) (G : Nat → Int64) (A : Nat → Int32 → Int32) (B : Nat → Int32 → Int64) (p1 : Int32) {Q : Option Value → WO → Prop} (h2 : p1 < 0 → Q (some (.int (-1 : Int32))) (11, F, G, A, B)) (s4 : ¬ p1 < 0 → p1 < (F 1) → p1 < (16 : Int32)) (h5 : ¬ p1 < 0 → p1 < (F 1) → Q (some (.int ((A 8) p1))) (11, F, G, A, B)) (h6 : ¬ p1 < 0 → ¬ p1 < (F 1) → Q (some (.int (-1 : Int32))) (11, F, G, A, B)) :
    Wk l Z (MoC Z cdC) md_accountSold 0 [.val (.ref 0), .val (.int p1)] [] (11, F, G, A, B) 0 0 Q := by
  refine Wk.iloadN o_accountSold_0 rfl ?_
  refine Wk.if_lt o_accountSold_1 (fun q1 => ?_) (fun q1 => ?_)
  · refine Wk.iconst o_accountSold_12 (z := (-1 : Int32)) (by decide) ?_
    exact Wk.ireturn mrC rfl o_accountSold_13 rfl (by decide) (by decide) (h2 q1)
  · refine Wk.iloadN o_accountSold_4 rfl ?_
    refine Wk.aloadN o_accountSold_5 rfl ?_
    refine Wk.getI (mI_nAcc) (wf_nAcc H) o_accountSold_6 (x := (F 1)) rfl ?_
    refine Wk.icmp_lt o_accountSold_9 (fun q3 => ?_) (fun q3 => ?_)
    · refine Wk.aloadN o_accountSold_14 rfl ?_
      refine Wk.getA (mA_sold) (by decide) (i' := 9) rfl (wf_sold H) o_accountSold_15 ?_
      refine Wk.iloadN o_accountSold_18 rfl ?_
      refine Wk.iaload (mA_sold) (by decide) (i' := 9) rfl q1 (s4 q1 q3) o_accountSold_19 (y := ((A 8) p1)) rfl ?_
      exact Wk.ireturn mrC rfl o_accountSold_20 rfl (by decide) (by decide) (h5 q1 q3)
    · refine Wk.iconst o_accountSold_12 (z := (-1 : Int32)) (by decide) ?_
      exact Wk.ireturn mrC rfl o_accountSold_13 rfl (by decide) (by decide) (h6 q1 q3)

theorem rt_accountSold (F : Nat → Int32) (G : Nat → Int64) (A : Nat → Int32 → Int32) (B : Nat → Int32 → Int64) (v0 : Int32) (r : Int32) (e : v0 = r) : some (Value.int v0) = some (.int r) ∧ (11, F, G, A, B) = (11, F, G, A, B) := by subst e; exact ⟨rfl, rfl⟩
def en_accountSold (F : Nat → Int32) (A : Nat → Int32 → Int32) (p1 : Int32) : Option (Int32) := (if p1 < 0 then some ((-1 : Int32)) else (if p1 < (F 1) then (if (p1 < (16 : Int32)) then some (((A 8) p1)) else none) else some ((-1 : Int32))))
theorem een_accountSold (F : Nat → Int32) (A : Nat → Int32 → Int32) (p1 : Int32) : en_accountSold F A p1 = (if p1 < 0 then some ((-1 : Int32)) else (if p1 < (F 1) then (if (p1 < (16 : Int32)) then some (((A 8) p1)) else none) else some ((-1 : Int32)))) := Eq.trans rfl rfl
def R_accountSold (F : Nat → Int32) (A : Nat → Int32 → Int32) (p1 : Int32) : Int32 := (en_accountSold F A p1).getD (0)
theorem eR_accountSold (F : Nat → Int32) (A : Nat → Int32 → Int32) (p1 : Int32) : R_accountSold F A p1 = (en_accountSold F A p1).getD (0) := Eq.trans rfl rfl
set_option maxRecDepth 65536 in
set_option maxHeartbeats 4000000 in
theorem run_accountSold {l : Launch} {Z : State} {a0 : Array Value} (H : OK Z a0) (F : Nat → Int32) (G : Nat → Int64) (A : Nat → Int32 → Int32) (B : Nat → Int32 → Int64) (p1 : Int32) (e1 : (en_accountSold F A p1).isSome = true) :
    Wk l Z (MoC Z cdC) md_accountSold 0 [.val (.ref 0), .val (.int p1)] [] (11, F, G, A, B) 0 0 (fun v w' => v = some (.int (R_accountSold F A p1)) ∧ w' = (11, F, G, A, B)) := by
  obtain ⟨r, h⟩ := Option.isSome_iff_exists.mp e1
  have e : R_accountSold F A p1 = r := (eR_accountSold F A p1).trans (getD_some h)
  rw [e]
  rw [een_accountSold] at h
  exact wp_accountSold H F G A B p1 (fun q1 => (rt_accountSold _ _ _ _ _ r (Option.some.inj (ifp q1 h)))) (fun q1 q3 => (gd (ifp q3 (ifn q1 h))).1) (fun q1 q3 => (rt_accountSold _ _ _ _ _ r (Option.some.inj (gd (ifp q3 (ifn q1 h))).2))) (fun q1 q3 => (rt_accountSold _ _ _ _ _ r (Option.some.inj (ifn q3 (ifn q1 h)))))
set_option maxRecDepth 65536 in
set_option maxHeartbeats 4000000 in
theorem wp_orderField {l : Launch} {Z : State} {a0 : Array Value} (H : OK Z a0) (F : Nat → Int32) (G : Nat → Int64) (A : Nat → Int32 → Int32) (B : Nat → Int32 → Int64) (p1 : Int32) (p2 : Int32) {Q : Option Value → WO → Prop} (h2 : p1 < 0 → Q (some (.int (-1 : Int32))) (11, F, G, A, B)) (h4 : ¬ p1 < 0 → ¬ p1 < (F 0) → Q (some (.int (-1 : Int32))) (11, F, G, A, B)) (h6 : ¬ p1 < 0 → p1 < (F 0) → p2 < 0 → Q (some (.int (-1 : Int32))) (11, F, G, A, B)) (s14 : ¬ p1 < 0 → p1 < (F 0) → ¬ p2 < 0 → ¬ (6 : Int32) < p2 → ¬ p2 = 0 → ¬ p2 = (1 : Int32) → ¬ p2 = (2 : Int32) → ¬ p2 = (3 : Int32) → ¬ p2 = (4 : Int32) → ¬ p2 = (5 : Int32) → p1 < (64 : Int32)) (h15 : ¬ p1 < 0 → p1 < (F 0) → ¬ p2 < 0 → ¬ (6 : Int32) < p2 → ¬ p2 = 0 → ¬ p2 = (1 : Int32) → ¬ p2 = (2 : Int32) → ¬ p2 = (3 : Int32) → ¬ p2 = (4 : Int32) → ¬ p2 = (5 : Int32) → Q (some (.int ((A 6) p1))) (11, F, G, A, B)) (s16 : ¬ p1 < 0 → p1 < (F 0) → ¬ p2 < 0 → ¬ (6 : Int32) < p2 → ¬ p2 = 0 → ¬ p2 = (1 : Int32) → ¬ p2 = (2 : Int32) → ¬ p2 = (3 : Int32) → ¬ p2 = (4 : Int32) → p2 = (5 : Int32) → p1 < (64 : Int32)) (h17 : ¬ p1 < 0 → p1 < (F 0) → ¬ p2 < 0 → ¬ (6 : Int32) < p2 → ¬ p2 = 0 → ¬ p2 = (1 : Int32) → ¬ p2 = (2 : Int32) → ¬ p2 = (3 : Int32) → ¬ p2 = (4 : Int32) → p2 = (5 : Int32) → Q (some (.int ((A 5) p1))) (11, F, G, A, B)) (s18 : ¬ p1 < 0 → p1 < (F 0) → ¬ p2 < 0 → ¬ (6 : Int32) < p2 → ¬ p2 = 0 → ¬ p2 = (1 : Int32) → ¬ p2 = (2 : Int32) → ¬ p2 = (3 : Int32) → p2 = (4 : Int32) → p1 < (64 : Int32)) (h19 : ¬ p1 < 0 → p1 < (F 0) → ¬ p2 < 0 → ¬ (6 : Int32) < p2 → ¬ p2 = 0 → ¬ p2 = (1 : Int32) → ¬ p2 = (2 : Int32) → ¬ p2 = (3 : Int32) → p2 = (4 : Int32) → Q (some (.int ((A 4) p1))) (11, F, G, A, B)) (s20 : ¬ p1 < 0 → p1 < (F 0) → ¬ p2 < 0 → ¬ (6 : Int32) < p2 → ¬ p2 = 0 → ¬ p2 = (1 : Int32) → ¬ p2 = (2 : Int32) → p2 = (3 : Int32) → p1 < (64 : Int32)) (h21 : ¬ p1 < 0 → p1 < (F 0) → ¬ p2 < 0 → ¬ (6 : Int32) < p2 → ¬ p2 = 0 → ¬ p2 = (1 : Int32) → ¬ p2 = (2 : Int32) → p2 = (3 : Int32) → Q (some (.int ((A 3) p1))) (11, F, G, A, B)) (s22 : ¬ p1 < 0 → p1 < (F 0) → ¬ p2 < 0 → ¬ (6 : Int32) < p2 → ¬ p2 = 0 → ¬ p2 = (1 : Int32) → p2 = (2 : Int32) → p1 < (64 : Int32)) (h23 : ¬ p1 < 0 → p1 < (F 0) → ¬ p2 < 0 → ¬ (6 : Int32) < p2 → ¬ p2 = 0 → ¬ p2 = (1 : Int32) → p2 = (2 : Int32) → Q (some (.int ((A 2) p1))) (11, F, G, A, B)) (s24 : ¬ p1 < 0 → p1 < (F 0) → ¬ p2 < 0 → ¬ (6 : Int32) < p2 → ¬ p2 = 0 → p2 = (1 : Int32) → p1 < (64 : Int32)) (h25 : ¬ p1 < 0 → p1 < (F 0) → ¬ p2 < 0 → ¬ (6 : Int32) < p2 → ¬ p2 = 0 → p2 = (1 : Int32) → Q (some (.int ((A 1) p1))) (11, F, G, A, B)) (s26 : ¬ p1 < 0 → p1 < (F 0) → ¬ p2 < 0 → ¬ (6 : Int32) < p2 → p2 = 0 → p1 < (64 : Int32)) (h27 : ¬ p1 < 0 → p1 < (F 0) → ¬ p2 < 0 → ¬ (6 : Int32) < p2 → p2 = 0 → Q (some (.int ((A 0) p1))) (11, F, G, A, B)) (h28 : ¬ p1 < 0 → p1 < (F 0) → ¬ p2 < 0 → (6 : Int32) < p2 → Q (some (.int (-1 : Int32))) (11, F, G, A, B)) :
    Wk l Z (MoC Z cdC) md_orderField 0 [.val (.ref 0), .val (.int p1), .val (.int p2)] [] (11, F, G, A, B) 0 0 Q := by
  refine Wk.iloadN o_orderField_0 rfl ?_
  refine Wk.if_lt o_orderField_1 (fun q1 => ?_) (fun q1 => ?_)
  · refine Wk.iconst o_orderField_22 (z := (-1 : Int32)) (by decide) ?_
    exact Wk.ireturn mrC rfl o_orderField_23 rfl (by decide) (by decide) (h2 q1)
  · refine Wk.iloadN o_orderField_4 rfl ?_
    refine Wk.aloadN o_orderField_5 rfl ?_
    refine Wk.getI (mI_cap) (wf_cap H) o_orderField_6 (x := (F 0)) rfl ?_
    refine Wk.icmp_ge o_orderField_9 (fun q3 => ?_) (fun q3 => ?_)
    · refine Wk.iconst o_orderField_22 (z := (-1 : Int32)) (by decide) ?_
      exact Wk.ireturn mrC rfl o_orderField_23 rfl (by decide) (by decide) (h4 q1 q3)
    · refine Wk.iloadN o_orderField_12 rfl ?_
      refine Wk.if_lt o_orderField_13 (fun q5 => ?_) (fun q5 => ?_)
      · refine Wk.iconst o_orderField_22 (z := (-1 : Int32)) (by decide) ?_
        exact Wk.ireturn mrC rfl o_orderField_23 rfl (by decide) (by decide) (h6 q1 q3 q5)
      · refine Wk.iloadN o_orderField_16 rfl ?_
        refine Wk.bipush o_orderField_17 (z := (6 : Int32)) (by decide) ?_
        refine Wk.icmp_le o_orderField_19 (fun q7 => ?_) (fun q7 => ?_)
        · refine Wk.iloadN o_orderField_24 rfl ?_
          refine Wk.if_ne o_orderField_25 (fun q8 => ?_) (fun q8 => ?_)
          · refine Wk.iloadN o_orderField_35 rfl ?_
            refine Wk.iconst o_orderField_36 (z := (1 : Int32)) (by decide) ?_
            refine Wk.icmp_ne o_orderField_37 (fun q9 => ?_) (fun q9 => ?_)
            · refine Wk.iloadN o_orderField_47 rfl ?_
              refine Wk.iconst o_orderField_48 (z := (2 : Int32)) (by decide) ?_
              refine Wk.icmp_ne o_orderField_49 (fun q10 => ?_) (fun q10 => ?_)
              · refine Wk.iloadN o_orderField_59 rfl ?_
                refine Wk.iconst o_orderField_60 (z := (3 : Int32)) (by decide) ?_
                refine Wk.icmp_ne o_orderField_61 (fun q11 => ?_) (fun q11 => ?_)
                · refine Wk.iloadN o_orderField_71 rfl ?_
                  refine Wk.iconst o_orderField_72 (z := (4 : Int32)) (by decide) ?_
                  refine Wk.icmp_ne o_orderField_73 (fun q12 => ?_) (fun q12 => ?_)
                  · refine Wk.iloadN o_orderField_83 rfl ?_
                    refine Wk.iconst o_orderField_84 (z := (5 : Int32)) (by decide) ?_
                    refine Wk.icmp_ne o_orderField_85 (fun q13 => ?_) (fun q13 => ?_)
                    · refine Wk.aloadN o_orderField_95 rfl ?_
                      refine Wk.getA (mA_sq) (by decide) (i' := 7) rfl (wf_sq H) o_orderField_96 ?_
                      refine Wk.iloadN o_orderField_99 rfl ?_
                      refine Wk.iaload (mA_sq) (by decide) (i' := 7) rfl q1 (s14 q1 q3 q5 q7 q8 q9 q10 q11 q12 q13) o_orderField_100 (y := ((A 6) p1)) rfl ?_
                      exact Wk.ireturn mrC rfl o_orderField_101 rfl (by decide) (by decide) (h15 q1 q3 q5 q7 q8 q9 q10 q11 q12 q13)
                    · refine Wk.aloadN o_orderField_88 rfl ?_
                      refine Wk.getA (mA_fil) (by decide) (i' := 6) rfl (wf_fil H) o_orderField_89 ?_
                      refine Wk.iloadN o_orderField_92 rfl ?_
                      refine Wk.iaload (mA_fil) (by decide) (i' := 6) rfl q1 (s16 q1 q3 q5 q7 q8 q9 q10 q11 q12 q13) o_orderField_93 (y := ((A 5) p1)) rfl ?_
                      exact Wk.ireturn mrC rfl o_orderField_94 rfl (by decide) (by decide) (h17 q1 q3 q5 q7 q8 q9 q10 q11 q12 q13)
                  · refine Wk.aloadN o_orderField_76 rfl ?_
                    refine Wk.getA (mA_rem) (by decide) (i' := 5) rfl (wf_rem H) o_orderField_77 ?_
                    refine Wk.iloadN o_orderField_80 rfl ?_
                    refine Wk.iaload (mA_rem) (by decide) (i' := 5) rfl q1 (s18 q1 q3 q5 q7 q8 q9 q10 q11 q12) o_orderField_81 (y := ((A 4) p1)) rfl ?_
                    exact Wk.ireturn mrC rfl o_orderField_82 rfl (by decide) (by decide) (h19 q1 q3 q5 q7 q8 q9 q10 q11 q12)
                · refine Wk.aloadN o_orderField_64 rfl ?_
                  refine Wk.getA (mA_pr) (by decide) (i' := 4) rfl (wf_pr H) o_orderField_65 ?_
                  refine Wk.iloadN o_orderField_68 rfl ?_
                  refine Wk.iaload (mA_pr) (by decide) (i' := 4) rfl q1 (s20 q1 q3 q5 q7 q8 q9 q10 q11) o_orderField_69 (y := ((A 3) p1)) rfl ?_
                  exact Wk.ireturn mrC rfl o_orderField_70 rfl (by decide) (by decide) (h21 q1 q3 q5 q7 q8 q9 q10 q11)
              · refine Wk.aloadN o_orderField_52 rfl ?_
                refine Wk.getA (mA_sd) (by decide) (i' := 3) rfl (wf_sd H) o_orderField_53 ?_
                refine Wk.iloadN o_orderField_56 rfl ?_
                refine Wk.iaload (mA_sd) (by decide) (i' := 3) rfl q1 (s22 q1 q3 q5 q7 q8 q9 q10) o_orderField_57 (y := ((A 2) p1)) rfl ?_
                exact Wk.ireturn mrC rfl o_orderField_58 rfl (by decide) (by decide) (h23 q1 q3 q5 q7 q8 q9 q10)
            · refine Wk.aloadN o_orderField_40 rfl ?_
              refine Wk.getA (mA_acct) (by decide) (i' := 2) rfl (wf_acct H) o_orderField_41 ?_
              refine Wk.iloadN o_orderField_44 rfl ?_
              refine Wk.iaload (mA_acct) (by decide) (i' := 2) rfl q1 (s24 q1 q3 q5 q7 q8 q9) o_orderField_45 (y := ((A 1) p1)) rfl ?_
              exact Wk.ireturn mrC rfl o_orderField_46 rfl (by decide) (by decide) (h25 q1 q3 q5 q7 q8 q9)
          · refine Wk.aloadN o_orderField_28 rfl ?_
            refine Wk.getA (mA_st) (by decide) (i' := 1) rfl (wf_st H) o_orderField_29 ?_
            refine Wk.iloadN o_orderField_32 rfl ?_
            refine Wk.iaload (mA_st) (by decide) (i' := 1) rfl q1 (s26 q1 q3 q5 q7 q8) o_orderField_33 (y := ((A 0) p1)) rfl ?_
            exact Wk.ireturn mrC rfl o_orderField_34 rfl (by decide) (by decide) (h27 q1 q3 q5 q7 q8)
        · refine Wk.iconst o_orderField_22 (z := (-1 : Int32)) (by decide) ?_
          exact Wk.ireturn mrC rfl o_orderField_23 rfl (by decide) (by decide) (h28 q1 q3 q5 q7)

theorem rt_orderField (F : Nat → Int32) (G : Nat → Int64) (A : Nat → Int32 → Int32) (B : Nat → Int32 → Int64) (v0 : Int32) (r : Int32) (e : v0 = r) : some (Value.int v0) = some (.int r) ∧ (11, F, G, A, B) = (11, F, G, A, B) := by subst e; exact ⟨rfl, rfl⟩
def en_orderField (F : Nat → Int32) (A : Nat → Int32 → Int32) (p1 : Int32) (p2 : Int32) : Option (Int32) := (if p1 < 0 then some ((-1 : Int32)) else (if p1 < (F 0) then (if p2 < 0 then some ((-1 : Int32)) else (if (6 : Int32) < p2 then some ((-1 : Int32)) else (if p2 = 0 then (if (p1 < (64 : Int32)) then some (((A 0) p1)) else none) else (if p2 = (1 : Int32) then (if (p1 < (64 : Int32)) then some (((A 1) p1)) else none) else (if p2 = (2 : Int32) then (if (p1 < (64 : Int32)) then some (((A 2) p1)) else none) else (if p2 = (3 : Int32) then (if (p1 < (64 : Int32)) then some (((A 3) p1)) else none) else (if p2 = (4 : Int32) then (if (p1 < (64 : Int32)) then some (((A 4) p1)) else none) else (if p2 = (5 : Int32) then (if (p1 < (64 : Int32)) then some (((A 5) p1)) else none) else (if (p1 < (64 : Int32)) then some (((A 6) p1)) else none))))))))) else some ((-1 : Int32))))
theorem een_orderField (F : Nat → Int32) (A : Nat → Int32 → Int32) (p1 : Int32) (p2 : Int32) : en_orderField F A p1 p2 = (if p1 < 0 then some ((-1 : Int32)) else (if p1 < (F 0) then (if p2 < 0 then some ((-1 : Int32)) else (if (6 : Int32) < p2 then some ((-1 : Int32)) else (if p2 = 0 then (if (p1 < (64 : Int32)) then some (((A 0) p1)) else none) else (if p2 = (1 : Int32) then (if (p1 < (64 : Int32)) then some (((A 1) p1)) else none) else (if p2 = (2 : Int32) then (if (p1 < (64 : Int32)) then some (((A 2) p1)) else none) else (if p2 = (3 : Int32) then (if (p1 < (64 : Int32)) then some (((A 3) p1)) else none) else (if p2 = (4 : Int32) then (if (p1 < (64 : Int32)) then some (((A 4) p1)) else none) else (if p2 = (5 : Int32) then (if (p1 < (64 : Int32)) then some (((A 5) p1)) else none) else (if (p1 < (64 : Int32)) then some (((A 6) p1)) else none))))))))) else some ((-1 : Int32)))) := Eq.trans rfl rfl
def R_orderField (F : Nat → Int32) (A : Nat → Int32 → Int32) (p1 : Int32) (p2 : Int32) : Int32 := (en_orderField F A p1 p2).getD (0)
theorem eR_orderField (F : Nat → Int32) (A : Nat → Int32 → Int32) (p1 : Int32) (p2 : Int32) : R_orderField F A p1 p2 = (en_orderField F A p1 p2).getD (0) := Eq.trans rfl rfl
set_option maxRecDepth 65536 in
set_option maxHeartbeats 4000000 in
theorem run_orderField {l : Launch} {Z : State} {a0 : Array Value} (H : OK Z a0) (F : Nat → Int32) (G : Nat → Int64) (A : Nat → Int32 → Int32) (B : Nat → Int32 → Int64) (p1 : Int32) (p2 : Int32) (e1 : (en_orderField F A p1 p2).isSome = true) :
    Wk l Z (MoC Z cdC) md_orderField 0 [.val (.ref 0), .val (.int p1), .val (.int p2)] [] (11, F, G, A, B) 0 0 (fun v w' => v = some (.int (R_orderField F A p1 p2)) ∧ w' = (11, F, G, A, B)) := by
  obtain ⟨r, h⟩ := Option.isSome_iff_exists.mp e1
  have e : R_orderField F A p1 p2 = r := (eR_orderField F A p1 p2).trans (getD_some h)
  rw [e]
  rw [een_orderField] at h
  exact wp_orderField H F G A B p1 p2 (fun q1 => (rt_orderField _ _ _ _ _ r (Option.some.inj (ifp q1 h)))) (fun q1 q3 => (rt_orderField _ _ _ _ _ r (Option.some.inj (ifn q3 (ifn q1 h))))) (fun q1 q3 q5 => (rt_orderField _ _ _ _ _ r (Option.some.inj (ifp q5 (ifp q3 (ifn q1 h)))))) (fun q1 q3 q5 q7 q8 q9 q10 q11 q12 q13 => (gd (ifn q13 (ifn q12 (ifn q11 (ifn q10 (ifn q9 (ifn q8 (ifn q7 (ifn q5 (ifp q3 (ifn q1 h))))))))))).1) (fun q1 q3 q5 q7 q8 q9 q10 q11 q12 q13 => (rt_orderField _ _ _ _ _ r (Option.some.inj (gd (ifn q13 (ifn q12 (ifn q11 (ifn q10 (ifn q9 (ifn q8 (ifn q7 (ifn q5 (ifp q3 (ifn q1 h))))))))))).2))) (fun q1 q3 q5 q7 q8 q9 q10 q11 q12 q13 => (gd (ifp q13 (ifn q12 (ifn q11 (ifn q10 (ifn q9 (ifn q8 (ifn q7 (ifn q5 (ifp q3 (ifn q1 h))))))))))).1) (fun q1 q3 q5 q7 q8 q9 q10 q11 q12 q13 => (rt_orderField _ _ _ _ _ r (Option.some.inj (gd (ifp q13 (ifn q12 (ifn q11 (ifn q10 (ifn q9 (ifn q8 (ifn q7 (ifn q5 (ifp q3 (ifn q1 h))))))))))).2))) (fun q1 q3 q5 q7 q8 q9 q10 q11 q12 => (gd (ifp q12 (ifn q11 (ifn q10 (ifn q9 (ifn q8 (ifn q7 (ifn q5 (ifp q3 (ifn q1 h)))))))))).1) (fun q1 q3 q5 q7 q8 q9 q10 q11 q12 => (rt_orderField _ _ _ _ _ r (Option.some.inj (gd (ifp q12 (ifn q11 (ifn q10 (ifn q9 (ifn q8 (ifn q7 (ifn q5 (ifp q3 (ifn q1 h)))))))))).2))) (fun q1 q3 q5 q7 q8 q9 q10 q11 => (gd (ifp q11 (ifn q10 (ifn q9 (ifn q8 (ifn q7 (ifn q5 (ifp q3 (ifn q1 h))))))))).1) (fun q1 q3 q5 q7 q8 q9 q10 q11 => (rt_orderField _ _ _ _ _ r (Option.some.inj (gd (ifp q11 (ifn q10 (ifn q9 (ifn q8 (ifn q7 (ifn q5 (ifp q3 (ifn q1 h))))))))).2))) (fun q1 q3 q5 q7 q8 q9 q10 => (gd (ifp q10 (ifn q9 (ifn q8 (ifn q7 (ifn q5 (ifp q3 (ifn q1 h)))))))).1) (fun q1 q3 q5 q7 q8 q9 q10 => (rt_orderField _ _ _ _ _ r (Option.some.inj (gd (ifp q10 (ifn q9 (ifn q8 (ifn q7 (ifn q5 (ifp q3 (ifn q1 h)))))))).2))) (fun q1 q3 q5 q7 q8 q9 => (gd (ifp q9 (ifn q8 (ifn q7 (ifn q5 (ifp q3 (ifn q1 h))))))).1) (fun q1 q3 q5 q7 q8 q9 => (rt_orderField _ _ _ _ _ r (Option.some.inj (gd (ifp q9 (ifn q8 (ifn q7 (ifn q5 (ifp q3 (ifn q1 h))))))).2))) (fun q1 q3 q5 q7 q8 => (gd (ifp q8 (ifn q7 (ifn q5 (ifp q3 (ifn q1 h)))))).1) (fun q1 q3 q5 q7 q8 => (rt_orderField _ _ _ _ _ r (Option.some.inj (gd (ifp q8 (ifn q7 (ifn q5 (ifp q3 (ifn q1 h)))))).2))) (fun q1 q3 q5 q7 => (rt_orderField _ _ _ _ _ r (Option.some.inj (ifp q7 (ifn q5 (ifp q3 (ifn q1 h)))))))
set_option maxRecDepth 65536 in
set_option maxHeartbeats 4000000 in
theorem wp_clearSlot {l : Launch} {Z : State} {a0 : Array Value} (H : OK Z a0) (F : Nat → Int32) (G : Nat → Int64) (A : Nat → Int32 → Int32) (B : Nat → Int32 → Int64) (p1 : Int32) {Q : Option Value → WO → Prop} (s1 : ¬ p1 < 0) (s2 : p1 < (64 : Int32)) (h3 : Q none (11, F, G, (ups (ups (ups (ups (ups (ups (ups A 0 (ups (A 0) p1 (0 : Int32))) 1 (ups (A 1) p1 (0 : Int32))) 2 (ups (A 2) p1 (0 : Int32))) 3 (ups (A 3) p1 (0 : Int32))) 4 (ups (A 4) p1 (0 : Int32))) 5 (ups (A 5) p1 (0 : Int32))) 6 (ups (A 6) p1 (0 : Int32))), B)) :
    Wk l Z (MoC Z cdC) md_clearSlot 0 [.val (.ref 0), .val (.int p1)] [] (11, F, G, A, B) 0 0 Q := by
  refine Wk.aloadN o_clearSlot_0 rfl ?_
  refine Wk.getA (mA_st) (by decide) (i' := 1) rfl (wf_st H) o_clearSlot_1 ?_
  refine Wk.iloadN o_clearSlot_4 rfl ?_
  refine Wk.iconst o_clearSlot_5 (z := (0 : Int32)) (by decide) ?_
  refine Wk.iastore (coC H) (f := (A 0)) (mA_st) rfl (by decide) (i' := 1) rfl s1 s2 o_clearSlot_6 ?_
  refine Wk.aloadN o_clearSlot_7 rfl ?_
  refine Wk.getA (mA_acct) (by decide) (i' := 2) rfl (wf_acct H) o_clearSlot_8 ?_
  refine Wk.iloadN o_clearSlot_11 rfl ?_
  refine Wk.iconst o_clearSlot_12 (z := (0 : Int32)) (by decide) ?_
  refine Wk.iastore (coC H) (f := (A 1)) (mA_acct) rfl (by decide) (i' := 2) rfl s1 s2 o_clearSlot_13 ?_
  refine Wk.aloadN o_clearSlot_14 rfl ?_
  refine Wk.getA (mA_sd) (by decide) (i' := 3) rfl (wf_sd H) o_clearSlot_15 ?_
  refine Wk.iloadN o_clearSlot_18 rfl ?_
  refine Wk.iconst o_clearSlot_19 (z := (0 : Int32)) (by decide) ?_
  refine Wk.iastore (coC H) (f := (A 2)) (mA_sd) rfl (by decide) (i' := 3) rfl s1 s2 o_clearSlot_20 ?_
  refine Wk.aloadN o_clearSlot_21 rfl ?_
  refine Wk.getA (mA_pr) (by decide) (i' := 4) rfl (wf_pr H) o_clearSlot_22 ?_
  refine Wk.iloadN o_clearSlot_25 rfl ?_
  refine Wk.iconst o_clearSlot_26 (z := (0 : Int32)) (by decide) ?_
  refine Wk.iastore (coC H) (f := (A 3)) (mA_pr) rfl (by decide) (i' := 4) rfl s1 s2 o_clearSlot_27 ?_
  refine Wk.aloadN o_clearSlot_28 rfl ?_
  refine Wk.getA (mA_rem) (by decide) (i' := 5) rfl (wf_rem H) o_clearSlot_29 ?_
  refine Wk.iloadN o_clearSlot_32 rfl ?_
  refine Wk.iconst o_clearSlot_33 (z := (0 : Int32)) (by decide) ?_
  refine Wk.iastore (coC H) (f := (A 4)) (mA_rem) rfl (by decide) (i' := 5) rfl s1 s2 o_clearSlot_34 ?_
  refine Wk.aloadN o_clearSlot_35 rfl ?_
  refine Wk.getA (mA_fil) (by decide) (i' := 6) rfl (wf_fil H) o_clearSlot_36 ?_
  refine Wk.iloadN o_clearSlot_39 rfl ?_
  refine Wk.iconst o_clearSlot_40 (z := (0 : Int32)) (by decide) ?_
  refine Wk.iastore (coC H) (f := (A 5)) (mA_fil) rfl (by decide) (i' := 6) rfl s1 s2 o_clearSlot_41 ?_
  refine Wk.aloadN o_clearSlot_42 rfl ?_
  refine Wk.getA (mA_sq) (by decide) (i' := 7) rfl (wf_sq H) o_clearSlot_43 ?_
  refine Wk.iloadN o_clearSlot_46 rfl ?_
  refine Wk.iconst o_clearSlot_47 (z := (0 : Int32)) (by decide) ?_
  refine Wk.iastore (coC H) (f := (A 6)) (mA_sq) rfl (by decide) (i' := 7) rfl s1 s2 o_clearSlot_48 ?_
  exact Wk.ret mrC rfl o_clearSlot_49 rfl (by decide) (by decide) h3

theorem rt_clearSlot (F : Nat → Int32) (G : Nat → Int64) (B : Nat → Int32 → Int64) (v0 : Int32) (xA : Nat → Int32 → Int32) (r : Int32 × (Nat → Int32 → Int32)) (e : (v0, xA) = r) : (none : Option Value) = none ∧ (11, F, G, xA, B) = (11, F, G, r.2, B) := by subst e; exact ⟨rfl, rfl⟩
def en_clearSlot (A : Nat → Int32 → Int32) (p1 : Int32) : Option (Int32 × (Nat → Int32 → Int32)) := (if (¬ p1 < 0) ∧ (p1 < (64 : Int32)) then some ((0 : Int32), (ups (ups (ups (ups (ups (ups (ups A 0 (ups (A 0) p1 (0 : Int32))) 1 (ups (A 1) p1 (0 : Int32))) 2 (ups (A 2) p1 (0 : Int32))) 3 (ups (A 3) p1 (0 : Int32))) 4 (ups (A 4) p1 (0 : Int32))) 5 (ups (A 5) p1 (0 : Int32))) 6 (ups (A 6) p1 (0 : Int32)))) else none)
theorem een_clearSlot (A : Nat → Int32 → Int32) (p1 : Int32) : en_clearSlot A p1 = (if (¬ p1 < 0) ∧ (p1 < (64 : Int32)) then some ((0 : Int32), (ups (ups (ups (ups (ups (ups (ups A 0 (ups (A 0) p1 (0 : Int32))) 1 (ups (A 1) p1 (0 : Int32))) 2 (ups (A 2) p1 (0 : Int32))) 3 (ups (A 3) p1 (0 : Int32))) 4 (ups (A 4) p1 (0 : Int32))) 5 (ups (A 5) p1 (0 : Int32))) 6 (ups (A 6) p1 (0 : Int32)))) else none) := Eq.trans rfl rfl
def R_clearSlot (A : Nat → Int32 → Int32) (p1 : Int32) : Int32 × (Nat → Int32 → Int32) := (en_clearSlot A p1).getD (0, (fun _ _ => 0))
theorem eR_clearSlot (A : Nat → Int32 → Int32) (p1 : Int32) : R_clearSlot A p1 = (en_clearSlot A p1).getD (0, (fun _ _ => 0)) := Eq.trans rfl rfl
set_option maxRecDepth 65536 in
set_option maxHeartbeats 4000000 in
theorem run_clearSlot {l : Launch} {Z : State} {a0 : Array Value} (H : OK Z a0) (F : Nat → Int32) (G : Nat → Int64) (A : Nat → Int32 → Int32) (B : Nat → Int32 → Int64) (p1 : Int32) (e1 : (en_clearSlot A p1).isSome = true) :
    Wk l Z (MoC Z cdC) md_clearSlot 0 [.val (.ref 0), .val (.int p1)] [] (11, F, G, A, B) 0 0 (fun v w' => v = none ∧ w' = (11, F, G, (R_clearSlot A p1).2, B)) := by
  obtain ⟨r, h⟩ := Option.isSome_iff_exists.mp e1
  have e : R_clearSlot A p1 = r := (eR_clearSlot A p1).trans (getD_some h)
  rw [e]
  rw [een_clearSlot] at h
  exact wp_clearSlot H F G A B p1 ((gd h).1.1) ((gd h).1.2) ((rt_clearSlot _ _ _ _ _ r (Option.some.inj (gd h).2)))
set_option maxRecDepth 65536 in
set_option maxHeartbeats 4000000 in
theorem wp_reopen {l : Launch} {Z : State} {a0 : Array Value} (H : OK Z a0) (F : Nat → Int32) (G : Nat → Int64) (A : Nat → Int32 → Int32) (B : Nat → Int32 → Int64) {Q : Option Value → WO → Prop} (h2 : (F 3) = (1 : Int32) → Wk l Z (MoC Z cdC) md_reopen 12 [.val (.ref 0), .val (.int (0 : Int32))] [] (11, F, G, A, B) 0 0 Q) (h3 : ¬ (F 3) = (1 : Int32) → Q (some (.int (-1 : Int32))) (11, F, G, A, B)) :
    Wk l Z (MoC Z cdC) md_reopen 0 [.val (.ref 0), .unset] [] (11, F, G, A, B) 0 0 Q := by
  refine Wk.aloadN o_reopen_0 rfl ?_
  refine Wk.getI (mI_phase) (wf_phase H) o_reopen_1 (x := (F 3)) rfl ?_
  refine Wk.iconst o_reopen_4 (z := (1 : Int32)) (by decide) ?_
  refine Wk.icmp_eq o_reopen_5 (fun q1 => ?_) (fun q1 => ?_)
  · refine Wk.iconst o_reopen_10 (z := (0 : Int32)) (by decide) ?_
    refine Wk.istoreN o_reopen_11 (Or.inl rfl) (L' := [.val (.ref 0), .val (.int (0 : Int32))]) rfl ?_
    exact (h2 q1)
  · refine Wk.iconst o_reopen_8 (z := (-1 : Int32)) (by decide) ?_
    exact Wk.ireturn mrC rfl o_reopen_9 rfl (by decide) (by decide) (h3 q1)

set_option maxRecDepth 65536 in
set_option maxHeartbeats 4000000 in
theorem wp_reopen_12 {l : Launch} {Z : State} {a0 : Array Value} (H : OK Z a0) (F : Nat → Int32) (G : Nat → Int64) (A : Nat → Int32 → Int32) (B : Nat → Int32 → Int64) (v1 : Int32) {Q : Option Value → WO → Prop} (h2 : ¬ v1 < (F 0) → Wk l Z (MoC Z cdC) md_reopen 63 [.val (.ref 0), .val (.int (0 : Int32))] [] (11, F, G, A, B) 0 0 Q) (s3 : v1 < (F 0) → ¬ v1 < 0) (s4 : v1 < (F 0) → v1 < (64 : Int32)) (s14 : v1 < (F 0) → ¬ ((A 0) v1) = (2 : Int32) → ¬ v1 < 0) (s15 : v1 < (F 0) → ¬ ((A 0) v1) = (2 : Int32) → v1 < (64 : Int32)) (h19 : v1 < (F 0) → ¬ ((A 0) v1) = (2 : Int32) → ¬ ((A 0) v1) = (1 : Int32) → Wk l Z (MoC Z cdC) md_reopen 12 [.val (.ref 0), .val (.int (v1 + (1 : Int32)))] [] (11, F, G, A, B) 0 0 Q) (s20 : v1 < (F 0) → ¬ ((A 0) v1) = (2 : Int32) → ((A 0) v1) = (1 : Int32) → ¬ v1 < 0) (s21 : v1 < (F 0) → ¬ ((A 0) v1) = (2 : Int32) → ((A 0) v1) = (1 : Int32) → v1 < (64 : Int32)) (h22 : v1 < (F 0) → ¬ ((A 0) v1) = (2 : Int32) → ((A 0) v1) = (1 : Int32) → Wk l Z (MoC Z cdC) md_reopen 12 [.val (.ref 0), .val (.int (v1 + (1 : Int32)))] [] (11, F, G, (ups A 5 (ups (A 5) v1 (0 : Int32))), B) 0 0 Q) (s23 : v1 < (F 0) → ((A 0) v1) = (2 : Int32) → (en_clearSlot A v1).isSome = true) (h24 : v1 < (F 0) → ((A 0) v1) = (2 : Int32) → Wk l Z (MoC Z cdC) md_reopen 12 [.val (.ref 0), .val (.int (v1 + (1 : Int32)))] [] (11, F, G, (R_clearSlot A v1).2, B) 0 0 Q) :
    Wk l Z (MoC Z cdC) md_reopen 12 [.val (.ref 0), .val (.int v1)] [] (11, F, G, A, B) 0 0 Q := by
  refine Wk.iloadN o_reopen_12 rfl ?_
  refine Wk.aloadN o_reopen_13 rfl ?_
  refine Wk.getI (mI_cap) (wf_cap H) o_reopen_14 (x := (F 0)) rfl ?_
  refine Wk.icmp_ge o_reopen_17 (fun q1 => ?_) (fun q1 => ?_)
  · refine Wk.iconst o_reopen_61 (z := (0 : Int32)) (by decide) ?_
    refine Wk.istoreN o_reopen_62 (Or.inr ⟨_, rfl, rfl⟩) (L' := [.val (.ref 0), .val (.int (0 : Int32))]) rfl ?_
    exact (h2 q1)
  · refine Wk.aloadN o_reopen_20 rfl ?_
    refine Wk.getA (mA_st) (by decide) (i' := 1) rfl (wf_st H) o_reopen_21 ?_
    refine Wk.iloadN o_reopen_24 rfl ?_
    refine Wk.iaload (mA_st) (by decide) (i' := 1) rfl (s3 q1) (s4 q1) o_reopen_25 (y := ((A 0) v1)) rfl ?_
    refine Wk.iconst o_reopen_26 (z := (2 : Int32)) (by decide) ?_
    refine Wk.icmp_ne o_reopen_27 (fun q5 => ?_) (fun q5 => ?_)
    · refine Wk.aloadN o_reopen_38 rfl ?_
      refine Wk.getA (mA_st) (by decide) (i' := 1) rfl (wf_st H) o_reopen_39 ?_
      refine Wk.iloadN o_reopen_42 rfl ?_
      refine Wk.iaload (mA_st) (by decide) (i' := 1) rfl (s14 q1 q5) (s15 q1 q5) o_reopen_43 (y := ((A 0) v1)) rfl ?_
      refine Wk.iconst o_reopen_44 (z := (1 : Int32)) (by decide) ?_
      refine Wk.icmp_ne o_reopen_45 (fun q16 => ?_) (fun q16 => ?_)
      · refine Wk.iinc o_reopen_55 rfl (z := (v1 + (1 : Int32))) rfl (L' := [.val (.ref 0), .val (.int (v1 + (1 : Int32)))]) rfl ?_
        refine Wk.goto o_reopen_58 ?_
        exact (h19 q1 q5 q16)
      · refine Wk.aloadN o_reopen_48 rfl ?_
        refine Wk.getA (mA_fil) (by decide) (i' := 6) rfl (wf_fil H) o_reopen_49 ?_
        refine Wk.iloadN o_reopen_52 rfl ?_
        refine Wk.iconst o_reopen_53 (z := (0 : Int32)) (by decide) ?_
        refine Wk.iastore (coC H) (f := (A 5)) (mA_fil) rfl (by decide) (i' := 6) rfl (s20 q1 q5 q16) (s21 q1 q5 q16) o_reopen_54 ?_
        refine Wk.iinc o_reopen_55 rfl (z := (v1 + (1 : Int32))) rfl (L' := [.val (.ref 0), .val (.int (v1 + (1 : Int32)))]) rfl ?_
        refine Wk.goto o_reopen_58 ?_
        exact (h22 q1 q5 q16)
    · refine Wk.aloadN o_reopen_30 rfl ?_
      refine Wk.iloadN o_reopen_31 rfl ?_
      refine Wk.callU [.int v1] [] (H.w 180 rfl) (cv_clearSlot H) o_reopen_32 (run_clearSlot H F G A B v1 (s23 q1 q5)) (wt := 0) (cu' := 0) (su' := 0) (by decide) rfl rfl rfl rfl rfl rfl rfl ?_
      refine Wk.goto o_reopen_35 ?_
      refine Wk.iinc o_reopen_55 rfl (z := (v1 + (1 : Int32))) rfl (L' := [.val (.ref 0), .val (.int (v1 + (1 : Int32)))]) rfl ?_
      refine Wk.goto o_reopen_58 ?_
      exact (h24 q1 q5)

set_option maxRecDepth 65536 in
set_option maxHeartbeats 4000000 in
theorem wp_reopen_63 {l : Launch} {Z : State} {a0 : Array Value} (H : OK Z a0) (F : Nat → Int32) (G : Nat → Int64) (A : Nat → Int32 → Int32) (B : Nat → Int32 → Int64) (v1 : Int32) {Q : Option Value → WO → Prop} (h3 : ¬ v1 < (16 : Int32) → ¬ 0 < (F 6) → Q (some (.int (0 : Int32))) (11, (ups (ups (ups F 5 (0 : Int32)) 6 (0 : Int32)) 3 (0 : Int32)), G, A, B)) (h4 : ¬ v1 < (16 : Int32) → 0 < (F 6) → Q (some (.int (0 : Int32))) (11, (ups (ups (ups (ups F 2 (F 5)) 5 (0 : Int32)) 6 (0 : Int32)) 3 (0 : Int32)), G, A, B)) (s5 : v1 < (16 : Int32) → ¬ v1 < 0) (h6 : v1 < (16 : Int32) → Wk l Z (MoC Z cdC) md_reopen 63 [.val (.ref 0), .val (.int (v1 + (1 : Int32)))] [] (11, F, G, (ups (ups A 7 (ups (A 7) v1 (0 : Int32))) 8 (ups (A 8) v1 (0 : Int32))), B) 0 0 Q) :
    Wk l Z (MoC Z cdC) md_reopen 63 [.val (.ref 0), .val (.int v1)] [] (11, F, G, A, B) 0 0 Q := by
  refine Wk.iloadN o_reopen_63 rfl ?_
  refine Wk.bipush o_reopen_64 (z := (16 : Int32)) (by decide) ?_
  refine Wk.icmp_ge o_reopen_66 (fun q1 => ?_) (fun q1 => ?_)
  · refine Wk.aloadN o_reopen_89 rfl ?_
    refine Wk.getI (mI_lastVolume) (wf_lastVolume H) o_reopen_90 (x := (F 6)) rfl ?_
    refine Wk.if_le o_reopen_93 (fun q2 => ?_) (fun q2 => ?_)
    · refine Wk.aloadN o_reopen_104 rfl ?_
      refine Wk.iconst o_reopen_105 (z := (0 : Int32)) (by decide) ?_
      refine Wk.putI (coC H) (mI_lastPrice) (wf_lastPrice H) (Or.inl (wy_lastPrice H)) o_reopen_106 ?_
      refine Wk.aloadN o_reopen_109 rfl ?_
      refine Wk.iconst o_reopen_110 (z := (0 : Int32)) (by decide) ?_
      refine Wk.putI (coC H) (mI_lastVolume) (wf_lastVolume H) (Or.inl (wy_lastVolume H)) o_reopen_111 ?_
      refine Wk.aloadN o_reopen_114 rfl ?_
      refine Wk.iconst o_reopen_115 (z := (0 : Int32)) (by decide) ?_
      refine Wk.putI (coC H) (mI_phase) (wf_phase H) (Or.inl (wy_phase H)) o_reopen_116 ?_
      refine Wk.iconst o_reopen_119 (z := (0 : Int32)) (by decide) ?_
      exact Wk.ireturn mrC rfl o_reopen_120 rfl (by decide) (by decide) (h3 q1 q2)
    · refine Wk.aloadN o_reopen_96 rfl ?_
      refine Wk.aloadN o_reopen_97 rfl ?_
      refine Wk.getI (mI_lastPrice) (wf_lastPrice H) o_reopen_98 (x := (F 5)) rfl ?_
      refine Wk.putI (coC H) (mI_ref) (wf_ref H) (Or.inl (wy_ref H)) o_reopen_101 ?_
      refine Wk.aloadN o_reopen_104 rfl ?_
      refine Wk.iconst o_reopen_105 (z := (0 : Int32)) (by decide) ?_
      refine Wk.putI (coC H) (mI_lastPrice) (wf_lastPrice H) (Or.inl (wy_lastPrice H)) o_reopen_106 ?_
      refine Wk.aloadN o_reopen_109 rfl ?_
      refine Wk.iconst o_reopen_110 (z := (0 : Int32)) (by decide) ?_
      refine Wk.putI (coC H) (mI_lastVolume) (wf_lastVolume H) (Or.inl (wy_lastVolume H)) o_reopen_111 ?_
      refine Wk.aloadN o_reopen_114 rfl ?_
      refine Wk.iconst o_reopen_115 (z := (0 : Int32)) (by decide) ?_
      refine Wk.putI (coC H) (mI_phase) (wf_phase H) (Or.inl (wy_phase H)) o_reopen_116 ?_
      refine Wk.iconst o_reopen_119 (z := (0 : Int32)) (by decide) ?_
      exact Wk.ireturn mrC rfl o_reopen_120 rfl (by decide) (by decide) (h4 q1 q2)
  · refine Wk.aloadN o_reopen_69 rfl ?_
    refine Wk.getA (mA_bought) (by decide) (i' := 8) rfl (wf_bought H) o_reopen_70 ?_
    refine Wk.iloadN o_reopen_73 rfl ?_
    refine Wk.iconst o_reopen_74 (z := (0 : Int32)) (by decide) ?_
    refine Wk.iastore (coC H) (f := (A 7)) (mA_bought) rfl (by decide) (i' := 8) rfl (s5 q1) q1 o_reopen_75 ?_
    refine Wk.aloadN o_reopen_76 rfl ?_
    refine Wk.getA (mA_sold) (by decide) (i' := 9) rfl (wf_sold H) o_reopen_77 ?_
    refine Wk.iloadN o_reopen_80 rfl ?_
    refine Wk.iconst o_reopen_81 (z := (0 : Int32)) (by decide) ?_
    refine Wk.iastore (coC H) (f := (A 8)) (mA_sold) rfl (by decide) (i' := 9) rfl (s5 q1) q1 o_reopen_82 ?_
    refine Wk.iinc o_reopen_83 rfl (z := (v1 + (1 : Int32))) rfl (L' := [.val (.ref 0), .val (.int (v1 + (1 : Int32)))]) rfl ?_
    refine Wk.goto o_reopen_86 ?_
    exact (h6 q1)

theorem rt_reopen (G : Nat → Int64) (B : Nat → Int32 → Int64) (v0 : Int32) (xF : Nat → Int32) (xA : Nat → Int32 → Int32) (r : Int32 × (Nat → Int32) × (Nat → Int32 → Int32)) (e : (v0, xF, xA) = r) : some (Value.int v0) = some (.int r.1) ∧ (11, xF, G, xA, B) = (11, r.2.1, G, r.2.2, B) := by subst e; exact ⟨rfl, rfl⟩
def lp_reopen : Nat → Nat → Int32 → (Nat → Int32) → (Nat → Int32 → Int32) → Option (Int32 × (Nat → Int32) × (Nat → Int32 → Int32))
  | 0, _, _, _, _ => none
  | n + 1, tag, v1, F, A => if tag = 12 then (if v1 < (F 0) then (if (¬ v1 < 0) ∧ (v1 < (64 : Int32)) then (if ((A 0) v1) = (2 : Int32) then (if ((en_clearSlot A v1).isSome = true) then lp_reopen n 12 (v1 + (1 : Int32)) F (R_clearSlot A v1).2 else none) else (if (¬ v1 < 0) ∧ (v1 < (64 : Int32)) then (if ((A 0) v1) = (1 : Int32) then (if (¬ v1 < 0) ∧ (v1 < (64 : Int32)) then lp_reopen n 12 (v1 + (1 : Int32)) F (ups A 5 (ups (A 5) v1 (0 : Int32))) else none) else lp_reopen n 12 (v1 + (1 : Int32)) F A) else none)) else none) else lp_reopen n 63 (0 : Int32) F A) else if tag = 63 then (if v1 < (16 : Int32) then (if (¬ v1 < 0) then lp_reopen n 63 (v1 + (1 : Int32)) F (ups (ups A 7 (ups (A 7) v1 (0 : Int32))) 8 (ups (A 8) v1 (0 : Int32))) else none) else (if 0 < (F 6) then some ((0 : Int32), (ups (ups (ups (ups F 2 (F 5)) 5 (0 : Int32)) 6 (0 : Int32)) 3 (0 : Int32)), A) else some ((0 : Int32), (ups (ups (ups F 5 (0 : Int32)) 6 (0 : Int32)) 3 (0 : Int32)), A))) else none
theorem lp_reopen_z (tag : Nat) (v1 : Int32) (F : Nat → Int32) (A : Nat → Int32 → Int32) : lp_reopen 0 tag v1 F A = none := Eq.trans rfl rfl
theorem lp_reopen_12 (n : Nat) (v1 : Int32) (F : Nat → Int32) (A : Nat → Int32 → Int32) : lp_reopen (n + 1) 12 v1 F A = (if v1 < (F 0) then (if (¬ v1 < 0) ∧ (v1 < (64 : Int32)) then (if ((A 0) v1) = (2 : Int32) then (if ((en_clearSlot A v1).isSome = true) then lp_reopen n 12 (v1 + (1 : Int32)) F (R_clearSlot A v1).2 else none) else (if (¬ v1 < 0) ∧ (v1 < (64 : Int32)) then (if ((A 0) v1) = (1 : Int32) then (if (¬ v1 < 0) ∧ (v1 < (64 : Int32)) then lp_reopen n 12 (v1 + (1 : Int32)) F (ups A 5 (ups (A 5) v1 (0 : Int32))) else none) else lp_reopen n 12 (v1 + (1 : Int32)) F A) else none)) else none) else lp_reopen n 63 (0 : Int32) F A) := by
  rw [lp_reopen, if_pos rfl]
theorem lp_reopen_63 (n : Nat) (v1 : Int32) (F : Nat → Int32) (A : Nat → Int32 → Int32) : lp_reopen (n + 1) 63 v1 F A = (if v1 < (16 : Int32) then (if (¬ v1 < 0) then lp_reopen n 63 (v1 + (1 : Int32)) F (ups (ups A 7 (ups (A 7) v1 (0 : Int32))) 8 (ups (A 8) v1 (0 : Int32))) else none) else (if 0 < (F 6) then some ((0 : Int32), (ups (ups (ups (ups F 2 (F 5)) 5 (0 : Int32)) 6 (0 : Int32)) 3 (0 : Int32)), A) else some ((0 : Int32), (ups (ups (ups F 5 (0 : Int32)) 6 (0 : Int32)) 3 (0 : Int32)), A))) := by
  rw [lp_reopen, if_neg (by decide), if_pos rfl]
set_option maxRecDepth 65536 in
set_option maxHeartbeats 4000000 in
theorem lpw_reopen {l : Launch} {Z : State} {a0 : Array Value} (H : OK Z a0) (G : Nat → Int64) (B : Nat → Int32 → Int64) : ∀ (n : Nat) (v1 : Int32) (F : Nat → Int32) (A : Nat → Int32 → Int32) (r : Int32 × (Nat → Int32) × (Nat → Int32 → Int32)), (lp_reopen n 12 v1 F A = some r → Wk l Z (MoC Z cdC) md_reopen 12 [.val (.ref 0), .val (.int v1)] [] (11, F, G, A, B) 0 0 (fun v w' => v = some (.int r.1) ∧ w' = (11, r.2.1, G, r.2.2, B))) ∧ (lp_reopen n 63 v1 F A = some r → Wk l Z (MoC Z cdC) md_reopen 63 [.val (.ref 0), .val (.int v1)] [] (11, F, G, A, B) 0 0 (fun v w' => v = some (.int r.1) ∧ w' = (11, r.2.1, G, r.2.2, B))) := by
  intro n
  induction n with
  | zero =>
    intro v1 F A r
    exact ⟨(fun h => by rw [lp_reopen_z] at h; cases h), (fun h => by rw [lp_reopen_z] at h; cases h)⟩
  | succ n ih =>
    intro v1 F A r
    refine ⟨fun h => ?_, fun h => ?_⟩
    · rw [lp_reopen_12] at h
      exact wp_reopen_12 H F G A B v1 (fun q1 => (ih _ _ _ _).2 (ifn q1 h)) (fun q1 => (gd (ifp q1 h)).1.1) (fun q1 => (gd (ifp q1 h)).1.2) (fun q1 q5 => (gd (ifn q5 (gd (ifp q1 h)).2)).1.1) (fun q1 q5 => (gd (ifn q5 (gd (ifp q1 h)).2)).1.2) (fun q1 q5 q16 => (ih _ _ _ _).1 (ifn q16 (gd (ifn q5 (gd (ifp q1 h)).2)).2)) (fun q1 q5 q16 => (gd (ifp q16 (gd (ifn q5 (gd (ifp q1 h)).2)).2)).1.1) (fun q1 q5 q16 => (gd (ifp q16 (gd (ifn q5 (gd (ifp q1 h)).2)).2)).1.2) (fun q1 q5 q16 => (ih _ _ _ _).1 (gd (ifp q16 (gd (ifn q5 (gd (ifp q1 h)).2)).2)).2) (fun q1 q5 => (gd (ifp q5 (gd (ifp q1 h)).2)).1) (fun q1 q5 => (ih _ _ _ _).1 (gd (ifp q5 (gd (ifp q1 h)).2)).2)
    · rw [lp_reopen_63] at h
      exact wp_reopen_63 H F G A B v1 (fun q1 q2 => (rt_reopen _ _ _ _ _ r (Option.some.inj (ifn q2 (ifn q1 h))))) (fun q1 q2 => (rt_reopen _ _ _ _ _ r (Option.some.inj (ifp q2 (ifn q1 h))))) (fun q1 => (gd (ifp q1 h)).1) (fun q1 => (ih _ _ _ _).2 (gd (ifp q1 h)).2)
def en_reopen (F : Nat → Int32) (A : Nat → Int32 → Int32) : Option (Int32 × (Nat → Int32) × (Nat → Int32 → Int32)) := (if (F 3) = (1 : Int32) then lp_reopen 1000 12 (0 : Int32) F A else some ((-1 : Int32), F, A))
theorem een_reopen (F : Nat → Int32) (A : Nat → Int32 → Int32) : en_reopen F A  = (if (F 3) = (1 : Int32) then lp_reopen 1000 12 (0 : Int32) F A else some ((-1 : Int32), F, A)) := Eq.trans rfl rfl
def R_reopen (F : Nat → Int32) (A : Nat → Int32 → Int32) : Int32 × (Nat → Int32) × (Nat → Int32 → Int32) := (en_reopen F A ).getD (0, (fun _ => 0), (fun _ _ => 0))
theorem eR_reopen (F : Nat → Int32) (A : Nat → Int32 → Int32) : R_reopen F A  = (en_reopen F A ).getD (0, (fun _ => 0), (fun _ _ => 0)) := Eq.trans rfl rfl
set_option maxRecDepth 65536 in
set_option maxHeartbeats 4000000 in
theorem run_reopen {l : Launch} {Z : State} {a0 : Array Value} (H : OK Z a0) (F : Nat → Int32) (G : Nat → Int64) (A : Nat → Int32 → Int32) (B : Nat → Int32 → Int64) (e1 : (en_reopen F A ).isSome = true) :
    Wk l Z (MoC Z cdC) md_reopen 0 [.val (.ref 0), .unset] [] (11, F, G, A, B) 0 0 (fun v w' => v = some (.int (R_reopen F A ).1) ∧ w' = (11, (R_reopen F A ).2.1, G, (R_reopen F A ).2.2, B)) := by
  obtain ⟨r, h⟩ := Option.isSome_iff_exists.mp e1
  have e : R_reopen F A  = r := (eR_reopen F A ).trans (getD_some h)
  rw [e]
  rw [een_reopen] at h
  exact wp_reopen H F G A B  (fun q1 => (lpw_reopen H G B _ _ _ _ _).1 (ifp q1 h)) (fun q1 => (rt_reopen _ _ _ _ _ r (Option.some.inj (ifn q1 h))))
set_option maxRecDepth 65536 in
set_option maxHeartbeats 4000000 in
theorem wp_getReference {l : Launch} {Z : State} {a0 : Array Value} (H : OK Z a0) (F : Nat → Int32) (G : Nat → Int64) (A : Nat → Int32 → Int32) (B : Nat → Int32 → Int64) {Q : Option Value → WO → Prop} (h1 : Q (some (.int (F 2))) (11, F, G, A, B)) :
    Wk l Z (MoC Z cdC) md_getReference 0 [.val (.ref 0)] [] (11, F, G, A, B) 0 0 Q := by
  refine Wk.aloadN o_getReference_0 rfl ?_
  refine Wk.getI (mI_ref) (wf_ref H) o_getReference_1 (x := (F 2)) rfl ?_
  exact Wk.ireturn mrC rfl o_getReference_4 rfl (by decide) (by decide) h1

def f_getReference (F : Nat → Int32) : Int32 := (F 2)
theorem e_getReference (F : Nat → Int32) : f_getReference F = (F 2) := Eq.trans rfl rfl
theorem run_getReference {l : Launch} {Z : State} {a0 : Array Value} (H : OK Z a0) (F : Nat → Int32) (G : Nat → Int64) (A : Nat → Int32 → Int32) (B : Nat → Int32 → Int64) :
    Wk l Z (MoC Z cdC) md_getReference 0 [.val (.ref 0)] [] (11, F, G, A, B) 0 0 (fun v w' => v = some (.int (f_getReference F)) ∧ w' = (11, F, G, A, B)) :=
  wp_getReference H F G A B ⟨rfl, rfl⟩
set_option maxRecDepth 65536 in
set_option maxHeartbeats 4000000 in
theorem wp_L_slot {l : Launch} {Z : State} {a0 : Array Value} (H : OK Z a0) (sl : Int32) (sv : Int32 → Int32) (F1 : Nat → Int32) (G1 : Nat → Int64) (A1 : Nat → Int32 → Int32) (B1 : Nat → Int32 → Int64) (p1 : Int32) (p2 : Int32) (p3 : Int32) {Q : Option Value → WL → Prop} (s3 : (en_orderField F1 A1 p1 (0 : Int32)).isSome = true) (s5 : (R_orderField F1 A1 p1 (0 : Int32)) = (if p2 = 0 then (2 : Int32) else (1 : Int32)) → (en_orderField F1 A1 p1 (4 : Int32)).isSome = true) (s7 : (R_orderField F1 A1 p1 (0 : Int32)) = (if p2 = 0 then (2 : Int32) else (1 : Int32)) → (R_orderField F1 A1 p1 (4 : Int32)) = p2 → (en_orderField F1 A1 p1 (5 : Int32)).isSome = true) (h10 : (R_orderField F1 A1 p1 (0 : Int32)) = (if p2 = 0 then (2 : Int32) else (1 : Int32)) → (R_orderField F1 A1 p1 (4 : Int32)) = p2 → Q (some (.int (nar .boolean (if (R_orderField F1 A1 p1 (5 : Int32)) = p3 then (1 : Int32) else (0 : Int32))))) (sl, sv, [(11, F1, G1, A1, B1)])) (h11 : (R_orderField F1 A1 p1 (0 : Int32)) = (if p2 = 0 then (2 : Int32) else (1 : Int32)) → ¬ (R_orderField F1 A1 p1 (4 : Int32)) = p2 → Q (some (.int (0 : Int32))) (sl, sv, [(11, F1, G1, A1, B1)])) (h12 : ¬ (R_orderField F1 A1 p1 (0 : Int32)) = (if p2 = 0 then (2 : Int32) else (1 : Int32)) → Q (some (.int (0 : Int32))) (sl, sv, [(11, F1, G1, A1, B1)])) :
    Wk l Z (MoL Z cdC "AuctionCrossL3" false) md_L_slot 0 [.val (.ref 1), .val (.int p1), .val (.int p2), .val (.int p3), .unset] [] (sl, sv, [(11, F1, G1, A1, B1)]) 0 0 Q := by
  refine Wk.iloadN o_L_slot_0 rfl ?_
  have J2 : Wk l Z (MoL Z cdC "AuctionCrossL3" false) md_L_slot 9 [.val (.ref 1), .val (.int p1), .val (.int p2), .val (.int p3), .unset] [.int (if p2 = 0 then (2 : Int32) else (1 : Int32))] (sl, sv, [(11, F1, G1, A1, B1)]) 0 0 Q := by
    refine Wk.istore o_L_slot_9 (Or.inl rfl) (L' := [.val (.ref 1), .val (.int p1), .val (.int p2), .val (.int p3), .val (.int (if p2 = 0 then (2 : Int32) else (1 : Int32)))]) rfl ?_
    refine Wk.aloadN o_L_slot_11 rfl ?_
    refine Wk.iloadN o_L_slot_12 rfl ?_
    refine Wk.iconst o_L_slot_13 (z := (0 : Int32)) (by decide) ?_
    refine Wk.callLF (coC H) [.int p1, .int (0 : Int32)] 0 [] (i' := 1) (H.w 170 rfl) (cv_orderField H) o_L_slot_14 (run_orderField H F1 G1 A1 B1 p1 (0 : Int32) s3) (wt := 0) (cu' := 0) (su' := 0) (by decide) trivial rfl rfl rfl rfl rfl rfl rfl rfl rfl rfl (ws' := [(11, F1, G1, A1, B1)]) rfl ?_
    refine Wk.iload o_L_slot_17 rfl ?_
    refine Wk.icmp_eq o_L_slot_19 (fun q4 => ?_) (fun q4 => ?_)
    · refine Wk.aloadN o_L_slot_24 rfl ?_
      refine Wk.iloadN o_L_slot_25 rfl ?_
      refine Wk.iconst o_L_slot_26 (z := (4 : Int32)) (by decide) ?_
      refine Wk.callLF (coC H) [.int p1, .int (4 : Int32)] 0 [] (i' := 1) (H.w 170 rfl) (cv_orderField H) o_L_slot_27 (run_orderField H F1 G1 A1 B1 p1 (4 : Int32) (s5 q4)) (wt := 0) (cu' := 0) (su' := 0) (by decide) trivial rfl rfl rfl rfl rfl rfl rfl rfl rfl rfl (ws' := [(11, F1, G1, A1, B1)]) rfl ?_
      refine Wk.iloadN o_L_slot_30 rfl ?_
      refine Wk.icmp_eq o_L_slot_31 (fun q6 => ?_) (fun q6 => ?_)
      · refine Wk.aloadN o_L_slot_36 rfl ?_
        refine Wk.iloadN o_L_slot_37 rfl ?_
        refine Wk.iconst o_L_slot_38 (z := (5 : Int32)) (by decide) ?_
        refine Wk.callLF (coC H) [.int p1, .int (5 : Int32)] 0 [] (i' := 1) (H.w 170 rfl) (cv_orderField H) o_L_slot_39 (run_orderField H F1 G1 A1 B1 p1 (5 : Int32) (s7 q4 q6)) (wt := 0) (cu' := 0) (su' := 0) (by decide) trivial rfl rfl rfl rfl rfl rfl rfl rfl rfl rfl (ws' := [(11, F1, G1, A1, B1)]) rfl ?_
        refine Wk.iloadN o_L_slot_42 rfl ?_
        have J9 : Wk l Z (MoL Z cdC "AuctionCrossL3" false) md_L_slot 51 [.val (.ref 1), .val (.int p1), .val (.int p2), .val (.int p3), .val (.int (if p2 = 0 then (2 : Int32) else (1 : Int32)))] [.int (if (R_orderField F1 A1 p1 (5 : Int32)) = p3 then (1 : Int32) else (0 : Int32))] (sl, sv, [(11, F1, G1, A1, B1)]) 0 0 Q := by
          exact Wk.zreturn mrL rfl o_L_slot_51 rfl (by decide) (by decide) (y := (nar .boolean (if (R_orderField F1 A1 p1 (5 : Int32)) = p3 then (1 : Int32) else (0 : Int32)))) rfl (h10 q4 q6)
        refine Wk.icmp_ne o_L_slot_43 (fun q8 => ?_) (fun q8 => ?_)
        · refine Wk.iconst o_L_slot_50 (z := (0 : Int32)) (by decide) ?_
          first | (rw [show ((if (R_orderField F1 A1 p1 (5 : Int32)) = p3 then (1 : Int32) else (0 : Int32)) : Int32) = (0 : Int32) from if_neg q8] at J9; exact J9) | exact J9 | (simp only [if_neg q8] at J9 ⊢; exact J9)
        · refine Wk.iconst o_L_slot_46 (z := (1 : Int32)) (by decide) ?_
          refine Wk.goto o_L_slot_47 ?_
          first | (rw [show ((if (R_orderField F1 A1 p1 (5 : Int32)) = p3 then (1 : Int32) else (0 : Int32)) : Int32) = (1 : Int32) from if_pos q8] at J9; exact J9) | exact J9 | (simp only [if_pos q8] at J9 ⊢; exact J9)
      · refine Wk.iconst o_L_slot_34 (z := (0 : Int32)) (by decide) ?_
        exact Wk.zreturn mrL rfl o_L_slot_35 rfl (by decide) (by decide) (y := (0 : Int32)) (by decide) (h11 q4 q6)
    · refine Wk.iconst o_L_slot_22 (z := (0 : Int32)) (by decide) ?_
      exact Wk.zreturn mrL rfl o_L_slot_23 rfl (by decide) (by decide) (y := (0 : Int32)) (by decide) (h12 q4)
  refine Wk.if_ne o_L_slot_1 (fun q1 => ?_) (fun q1 => ?_)
  · refine Wk.iconst o_L_slot_8 (z := (1 : Int32)) (by decide) ?_
    first | (rw [show ((if p2 = 0 then (2 : Int32) else (1 : Int32)) : Int32) = (1 : Int32) from if_neg q1] at J2; exact J2) | exact J2 | (simp only [if_neg q1] at J2 ⊢; exact J2)
  · refine Wk.iconst o_L_slot_4 (z := (2 : Int32)) (by decide) ?_
    refine Wk.goto o_L_slot_5 ?_
    first | (rw [show ((if p2 = 0 then (2 : Int32) else (1 : Int32)) : Int32) = (2 : Int32) from if_pos q1] at J2; exact J2) | exact J2 | (simp only [if_pos q1] at J2 ⊢; exact J2)

theorem rt_L_slot (sl : Int32) (sv : Int32 → Int32) (F1 : Nat → Int32) (G1 : Nat → Int64) (A1 : Nat → Int32 → Int32) (B1 : Nat → Int32 → Int64) (v0 : Int32) (r : Int32) (e : v0 = r) : some (Value.int v0) = some (Value.int r) ∧ (sl, sv, [(11, F1, G1, A1, B1)]) = (sl, sv, [(11, F1, G1, A1, B1)]) := by subst e; exact ⟨rfl, rfl⟩
def en_L_slot (F1 : Nat → Int32) (A1 : Nat → Int32 → Int32) (p1 : Int32) (p2 : Int32) (p3 : Int32) : Option (Int32) := (if ((en_orderField F1 A1 p1 (0 : Int32)).isSome = true) then (if (R_orderField F1 A1 p1 (0 : Int32)) = (if p2 = 0 then (2 : Int32) else (1 : Int32)) then (if ((en_orderField F1 A1 p1 (4 : Int32)).isSome = true) then (if (R_orderField F1 A1 p1 (4 : Int32)) = p2 then (if ((en_orderField F1 A1 p1 (5 : Int32)).isSome = true) then some ((nar .boolean (if (R_orderField F1 A1 p1 (5 : Int32)) = p3 then (1 : Int32) else (0 : Int32)))) else none) else some ((0 : Int32))) else none) else some ((0 : Int32))) else none)
theorem een_L_slot (F1 : Nat → Int32) (A1 : Nat → Int32 → Int32) (p1 : Int32) (p2 : Int32) (p3 : Int32) : en_L_slot  F1 A1 p1 p2 p3 = (if ((en_orderField F1 A1 p1 (0 : Int32)).isSome = true) then (if (R_orderField F1 A1 p1 (0 : Int32)) = (if p2 = 0 then (2 : Int32) else (1 : Int32)) then (if ((en_orderField F1 A1 p1 (4 : Int32)).isSome = true) then (if (R_orderField F1 A1 p1 (4 : Int32)) = p2 then (if ((en_orderField F1 A1 p1 (5 : Int32)).isSome = true) then some ((nar .boolean (if (R_orderField F1 A1 p1 (5 : Int32)) = p3 then (1 : Int32) else (0 : Int32)))) else none) else some ((0 : Int32))) else none) else some ((0 : Int32))) else none) := Eq.trans rfl rfl
def R_L_slot (F1 : Nat → Int32) (A1 : Nat → Int32 → Int32) (p1 : Int32) (p2 : Int32) (p3 : Int32) : Int32 := (en_L_slot  F1 A1 p1 p2 p3).getD (0)
theorem eR_L_slot (F1 : Nat → Int32) (A1 : Nat → Int32 → Int32) (p1 : Int32) (p2 : Int32) (p3 : Int32) : R_L_slot  F1 A1 p1 p2 p3 = (en_L_slot  F1 A1 p1 p2 p3).getD (0) := Eq.trans rfl rfl
set_option maxRecDepth 65536 in
set_option maxHeartbeats 4000000 in
theorem run_L_slot {l : Launch} {Z : State} {a0 : Array Value} (H : OK Z a0) (sl : Int32) (sv : Int32 → Int32) (F1 : Nat → Int32) (G1 : Nat → Int64) (A1 : Nat → Int32 → Int32) (B1 : Nat → Int32 → Int64) (p1 : Int32) (p2 : Int32) (p3 : Int32) (e1 : (en_L_slot  F1 A1 p1 p2 p3).isSome = true) :
    Wk l Z (MoL Z cdC "AuctionCrossL3" false) md_L_slot 0 [.val (.ref 1), .val (.int p1), .val (.int p2), .val (.int p3), .unset] [] (sl, sv, [(11, F1, G1, A1, B1)]) 0 0 (fun v w' => v = some (.int (R_L_slot  F1 A1 p1 p2 p3)) ∧ w' = (sl, sv, [(11, F1, G1, A1, B1)])) := by
  obtain ⟨r, h⟩ := Option.isSome_iff_exists.mp e1
  have e : R_L_slot  F1 A1 p1 p2 p3 = r := (eR_L_slot  F1 A1 p1 p2 p3).trans (getD_some h)
  rw [e]
  rw [een_L_slot] at h
  exact wp_L_slot H sl sv F1 G1 A1 B1 p1 p2 p3 ((gd h).1) (fun q4 => (gd (ifp q4 (gd h).2)).1) (fun q4 q6 => (gd (ifp q6 (gd (ifp q4 (gd h).2)).2)).1) (fun q4 q6 => (rt_L_slot _ _ _ _ _ _ _ r (Option.some.inj (gd (ifp q6 (gd (ifp q4 (gd h).2)).2)).2))) (fun q4 q6 => (rt_L_slot _ _ _ _ _ _ _ r (Option.some.inj (ifn q6 (gd (ifp q4 (gd h).2)).2)))) (fun q4 => (rt_L_slot _ _ _ _ _ _ _ r (Option.some.inj (ifn q4 (gd h).2))))
set_option maxRecDepth 65536 in
set_option maxHeartbeats 4000000 in
theorem wp_L_law {l : Launch} {Z : State} {a0 : Array Value} (H : OK Z a0) (sl : Int32) (sv : Int32 → Int32) (p1 : Int32) (p2 : Int32) (p3 : Int32) (p4 : Int32) (p5 : Int32) {Q : Option Value → WL → Prop} (h1 : Wk l Z (MoL Z cdC "AuctionCrossL3" false) md_L_law 14 [.val (.int p1), .val (.int p2), .val (.int p3), .val (.int p4), .val (.int p5), .val (.ref 1), .unset, .unset, .unset, .unset, .unset, .unset, .unset, .unset, .unset, .unset, .unset, .unset] [] (sl, sv, [(11, (F_init (8 : Int32) (2 : Int32) p5), (fun _ => 0), (fun _ _ => 0), (fun _ _ => 0))]) 12 1012 Q) :
    Wk l Z (MoL Z cdC "AuctionCrossL3" false) md_L_law 0 [.val (.int p1), .val (.int p2), .val (.int p3), .val (.int p4), .val (.int p5), .unset, .unset, .unset, .unset, .unset, .unset, .unset, .unset, .unset, .unset, .unset, .unset, .unset] [] (sl, sv, []) 0 0 Q := by
  refine Wk.newL (coC H) (kk := 18) (H.w 0 rfl) (H.w 1 rfl) (wz_C H) o_L_law_0 trivial (i' := 1) rfl (ws' := [(0, (fun _ => 0), (fun _ => 0), (fun _ _ => 0), (fun _ _ => 0))]) rfl (cu' := 1) rfl (su' := 18) rfl (by decide) (by decide) ?_
  refine Wk.dup o_L_law_3 rfl ?_
  refine Wk.bipush o_L_law_4 (z := (8 : Int32)) (by decide) ?_
  refine Wk.iconst o_L_law_6 (z := (2 : Int32)) (by decide) ?_
  refine Wk.iload o_L_law_7 rfl ?_
  refine Wk.ctorLU (coC H) [.int (8 : Int32), .int (2 : Int32), .int p5] 0 [.ref 1] (i' := 1) (H.w 3 rfl) (cv_init H) o_L_law_9 (run_init H (8 : Int32) (2 : Int32) p5) (wt := 1) (cu' := 12) (su' := 1012) (by decide) trivial rfl rfl rfl rfl rfl rfl rfl rfl rfl rfl (ws' := [(11, (F_init (8 : Int32) (2 : Int32) p5), (fun _ => 0), (fun _ _ => 0), (fun _ _ => 0))]) rfl ?_
  refine Wk.astore o_L_law_12 (Or.inl rfl) (L' := [.val (.int p1), .val (.int p2), .val (.int p3), .val (.int p4), .val (.int p5), .val (.ref 1), .unset, .unset, .unset, .unset, .unset, .unset, .unset, .unset, .unset, .unset, .unset, .unset]) rfl ?_
  exact h1

set_option maxRecDepth 65536 in
set_option maxHeartbeats 4000000 in
theorem wp_L_law_14 {l : Launch} {Z : State} {a0 : Array Value} (H : OK Z a0) (sl : Int32) (sv : Int32 → Int32) (F1 : Nat → Int32) (G1 : Nat → Int64) (A1 : Nat → Int32 → Int32) (B1 : Nat → Int32 → Int64) (v0 : Int32) (v1 : Int32) (v2 : Int32) (v3 : Int32) (v4 : Int32) {Q : Option Value → WL → Prop} (s9 : (en_submit F1 A1 (0 : Int32) (0 : Int32) v0 v1).isSome = true) (h10 : Wk l Z (MoL Z cdC "AuctionCrossL3" false) md_L_law 91 [.val (.int v0), .val (.int v1), .val (.int v2), .val (.int v3), .unset, .val (.ref 1), .val (.int (if v4 < (1 : Int32) then (1 : Int32) else (if (255 : Int32) < v4 then (255 : Int32) else v4))), .val (.int (f_L_err v0 v1)), .val (.int (f_L_err v2 v3)), .val (.int (if (f_L_err v0 v1) = 0 then (1 : Int32) else (0 : Int32))), .val (.int (if (f_L_err v2 v3) = 0 then (1 : Int32) else (0 : Int32))), .val (.int (R_submit F1 A1 (0 : Int32) (0 : Int32) v0 v1).1), .unset, .unset, .unset, .unset, .unset, .unset] [] (sl, sv, [(11, (R_submit F1 A1 (0 : Int32) (0 : Int32) v0 v1).2.1, G1, (R_submit F1 A1 (0 : Int32) (0 : Int32) v0 v1).2.2, B1)]) 12 1012 Q) :
    Wk l Z (MoL Z cdC "AuctionCrossL3" false) md_L_law 14 [.val (.int v0), .val (.int v1), .val (.int v2), .val (.int v3), .val (.int v4), .val (.ref 1), .unset, .unset, .unset, .unset, .unset, .unset, .unset, .unset, .unset, .unset, .unset, .unset] [] (sl, sv, [(11, F1, G1, A1, B1)]) 12 1012 Q := by
  refine Wk.iload o_L_law_14 rfl ?_
  refine Wk.iconst o_L_law_16 (z := (1 : Int32)) (by decide) ?_
  have J4 : Wk l Z (MoL Z cdC "AuctionCrossL3" false) md_L_law 40 [.val (.int v0), .val (.int v1), .val (.int v2), .val (.int v3), .val (.int v4), .val (.ref 1), .unset, .unset, .unset, .unset, .unset, .unset, .unset, .unset, .unset, .unset, .unset, .unset] [.int (if v4 < (1 : Int32) then (1 : Int32) else (if (255 : Int32) < v4 then (255 : Int32) else v4))] (sl, sv, [(11, F1, G1, A1, B1)]) 12 1012 Q := by
    refine Wk.istore o_L_law_40 (Or.inl rfl) (L' := [.val (.int v0), .val (.int v1), .val (.int v2), .val (.int v3), .val (.int v4), .val (.ref 1), .val (.int (if v4 < (1 : Int32) then (1 : Int32) else (if (255 : Int32) < v4 then (255 : Int32) else v4))), .unset, .unset, .unset, .unset, .unset, .unset, .unset, .unset, .unset, .unset, .unset]) rfl ?_
    refine Wk.iloadN o_L_law_42 rfl ?_
    refine Wk.iloadN o_L_law_43 rfl ?_
    refine Wk.callSF mtL [.int v0, .int v1] [] (H.w 50 rfl) (cv_L_err H) o_L_law_44 (run_L_err H sl sv [(11, F1, G1, A1, B1)] v0 v1) (wt := 0) (cu' := 12) (su' := 1012) (by decide) rfl rfl rfl rfl rfl rfl ?_
    refine Wk.istore o_L_law_47 (Or.inl rfl) (L' := [.val (.int v0), .val (.int v1), .val (.int v2), .val (.int v3), .val (.int v4), .val (.ref 1), .val (.int (if v4 < (1 : Int32) then (1 : Int32) else (if (255 : Int32) < v4 then (255 : Int32) else v4))), .val (.int (f_L_err v0 v1)), .unset, .unset, .unset, .unset, .unset, .unset, .unset, .unset, .unset, .unset]) rfl ?_
    refine Wk.iloadN o_L_law_49 rfl ?_
    refine Wk.iloadN o_L_law_50 rfl ?_
    refine Wk.callSF mtL [.int v2, .int v3] [] (H.w 50 rfl) (cv_L_err H) o_L_law_51 (run_L_err H sl sv [(11, F1, G1, A1, B1)] v2 v3) (wt := 0) (cu' := 12) (su' := 1012) (by decide) rfl rfl rfl rfl rfl rfl ?_
    refine Wk.istore o_L_law_54 (Or.inl rfl) (L' := [.val (.int v0), .val (.int v1), .val (.int v2), .val (.int v3), .val (.int v4), .val (.ref 1), .val (.int (if v4 < (1 : Int32) then (1 : Int32) else (if (255 : Int32) < v4 then (255 : Int32) else v4))), .val (.int (f_L_err v0 v1)), .val (.int (f_L_err v2 v3)), .unset, .unset, .unset, .unset, .unset, .unset, .unset, .unset, .unset]) rfl ?_
    refine Wk.iload o_L_law_56 rfl ?_
    have J6 : Wk l Z (MoL Z cdC "AuctionCrossL3" false) md_L_law 66 [.val (.int v0), .val (.int v1), .val (.int v2), .val (.int v3), .val (.int v4), .val (.ref 1), .val (.int (if v4 < (1 : Int32) then (1 : Int32) else (if (255 : Int32) < v4 then (255 : Int32) else v4))), .val (.int (f_L_err v0 v1)), .val (.int (f_L_err v2 v3)), .unset, .unset, .unset, .unset, .unset, .unset, .unset, .unset, .unset] [.int (if (f_L_err v0 v1) = 0 then (1 : Int32) else (0 : Int32))] (sl, sv, [(11, F1, G1, A1, B1)]) 12 1012 Q := by
      refine Wk.istore o_L_law_66 (Or.inl rfl) (L' := [.val (.int v0), .val (.int v1), .val (.int v2), .val (.int v3), .val (.int v4), .val (.ref 1), .val (.int (if v4 < (1 : Int32) then (1 : Int32) else (if (255 : Int32) < v4 then (255 : Int32) else v4))), .val (.int (f_L_err v0 v1)), .val (.int (f_L_err v2 v3)), .val (.int (if (f_L_err v0 v1) = 0 then (1 : Int32) else (0 : Int32))), .unset, .unset, .unset, .unset, .unset, .unset, .unset, .unset]) rfl ?_
      refine Wk.iload o_L_law_68 rfl ?_
      have J8 : Wk l Z (MoL Z cdC "AuctionCrossL3" false) md_L_law 78 [.val (.int v0), .val (.int v1), .val (.int v2), .val (.int v3), .val (.int v4), .val (.ref 1), .val (.int (if v4 < (1 : Int32) then (1 : Int32) else (if (255 : Int32) < v4 then (255 : Int32) else v4))), .val (.int (f_L_err v0 v1)), .val (.int (f_L_err v2 v3)), .val (.int (if (f_L_err v0 v1) = 0 then (1 : Int32) else (0 : Int32))), .unset, .unset, .unset, .unset, .unset, .unset, .unset, .unset] [.int (if (f_L_err v2 v3) = 0 then (1 : Int32) else (0 : Int32))] (sl, sv, [(11, F1, G1, A1, B1)]) 12 1012 Q := by
        refine Wk.istore o_L_law_78 (Or.inl rfl) (L' := [.val (.int v0), .val (.int v1), .val (.int v2), .val (.int v3), .val (.int v4), .val (.ref 1), .val (.int (if v4 < (1 : Int32) then (1 : Int32) else (if (255 : Int32) < v4 then (255 : Int32) else v4))), .val (.int (f_L_err v0 v1)), .val (.int (f_L_err v2 v3)), .val (.int (if (f_L_err v0 v1) = 0 then (1 : Int32) else (0 : Int32))), .val (.int (if (f_L_err v2 v3) = 0 then (1 : Int32) else (0 : Int32))), .unset, .unset, .unset, .unset, .unset, .unset, .unset]) rfl ?_
        refine Wk.aload o_L_law_80 rfl ?_
        refine Wk.iconst o_L_law_82 (z := (0 : Int32)) (by decide) ?_
        refine Wk.iconst o_L_law_83 (z := (0 : Int32)) (by decide) ?_
        refine Wk.iloadN o_L_law_84 rfl ?_
        refine Wk.iloadN o_L_law_85 rfl ?_
        refine Wk.callLF (coC H) [.int (0 : Int32), .int (0 : Int32), .int v0, .int v1] 0 [] (i' := 1) (H.w 54 rfl) (cv_submit H) o_L_law_86 (run_submit H F1 G1 A1 B1 (0 : Int32) (0 : Int32) v0 v1 s9) (wt := 0) (cu' := 12) (su' := 1012) (by decide) trivial rfl rfl rfl rfl rfl (al_submit _ _ _ _) rfl rfl rfl rfl (ws' := [(11, (R_submit F1 A1 (0 : Int32) (0 : Int32) v0 v1).2.1, G1, (R_submit F1 A1 (0 : Int32) (0 : Int32) v0 v1).2.2, B1)]) rfl ?_
        refine Wk.istore o_L_law_89 (Or.inl rfl) (L' := [.val (.int v0), .val (.int v1), .val (.int v2), .val (.int v3), .val (.int v4), .val (.ref 1), .val (.int (if v4 < (1 : Int32) then (1 : Int32) else (if (255 : Int32) < v4 then (255 : Int32) else v4))), .val (.int (f_L_err v0 v1)), .val (.int (f_L_err v2 v3)), .val (.int (if (f_L_err v0 v1) = 0 then (1 : Int32) else (0 : Int32))), .val (.int (if (f_L_err v2 v3) = 0 then (1 : Int32) else (0 : Int32))), .val (.int (R_submit F1 A1 (0 : Int32) (0 : Int32) v0 v1).1), .unset, .unset, .unset, .unset, .unset, .unset]) rfl ?_
        refine Wk.forget [false, false, false, false, true, false, false, false, false, false, false, false, false, false, false, false, false, false] (L' := [.val (.int v0), .val (.int v1), .val (.int v2), .val (.int v3), .unset, .val (.ref 1), .val (.int (if v4 < (1 : Int32) then (1 : Int32) else (if (255 : Int32) < v4 then (255 : Int32) else v4))), .val (.int (f_L_err v0 v1)), .val (.int (f_L_err v2 v3)), .val (.int (if (f_L_err v0 v1) = 0 then (1 : Int32) else (0 : Int32))), .val (.int (if (f_L_err v2 v3) = 0 then (1 : Int32) else (0 : Int32))), .val (.int (R_submit F1 A1 (0 : Int32) (0 : Int32) v0 v1).1), .unset, .unset, .unset, .unset, .unset, .unset]) rfl rfl ?_
        exact h10
      refine Wk.if_ne o_L_law_70 (fun q7 => ?_) (fun q7 => ?_)
      · refine Wk.iconst o_L_law_77 (z := (0 : Int32)) (by decide) ?_
        first | (rw [show ((if (f_L_err v2 v3) = 0 then (1 : Int32) else (0 : Int32)) : Int32) = (0 : Int32) from if_neg q7] at J8; exact J8) | exact J8 | (simp only [if_neg q7] at J8 ⊢; exact J8)
      · refine Wk.iconst o_L_law_73 (z := (1 : Int32)) (by decide) ?_
        refine Wk.goto o_L_law_74 ?_
        first | (rw [show ((if (f_L_err v2 v3) = 0 then (1 : Int32) else (0 : Int32)) : Int32) = (1 : Int32) from if_pos q7] at J8; exact J8) | exact J8 | (simp only [if_pos q7] at J8 ⊢; exact J8)
    refine Wk.if_ne o_L_law_58 (fun q5 => ?_) (fun q5 => ?_)
    · refine Wk.iconst o_L_law_65 (z := (0 : Int32)) (by decide) ?_
      first | (rw [show ((if (f_L_err v0 v1) = 0 then (1 : Int32) else (0 : Int32)) : Int32) = (0 : Int32) from if_neg q5] at J6; exact J6) | exact J6 | (simp only [if_neg q5] at J6 ⊢; exact J6)
    · refine Wk.iconst o_L_law_61 (z := (1 : Int32)) (by decide) ?_
      refine Wk.goto o_L_law_62 ?_
      first | (rw [show ((if (f_L_err v0 v1) = 0 then (1 : Int32) else (0 : Int32)) : Int32) = (1 : Int32) from if_pos q5] at J6; exact J6) | exact J6 | (simp only [if_pos q5] at J6 ⊢; exact J6)
  refine Wk.icmp_ge o_L_law_17 (fun q1 => ?_) (fun q1 => ?_)
  · refine Wk.iload o_L_law_24 rfl ?_
    refine Wk.sipush o_L_law_26 (z := (255 : Int32)) (by decide) ?_
    refine Wk.icmp_le o_L_law_29 (fun q2 => ?_) (fun q2 => ?_)
    · refine Wk.iload o_L_law_38 rfl ?_
      first | (rw [show ((if v4 < (1 : Int32) then (1 : Int32) else (if (255 : Int32) < v4 then (255 : Int32) else v4)) : Int32) = v4 from Eq.trans (if_neg q1) <| if_neg q2] at J4; exact J4) | exact J4 | (simp only [if_neg q1, if_neg q2] at J4 ⊢; exact J4)
    · refine Wk.sipush o_L_law_32 (z := (255 : Int32)) (by decide) ?_
      refine Wk.goto o_L_law_35 ?_
      first | (rw [show ((if v4 < (1 : Int32) then (1 : Int32) else (if (255 : Int32) < v4 then (255 : Int32) else v4)) : Int32) = (255 : Int32) from Eq.trans (if_neg q1) <| if_pos q2] at J4; exact J4) | exact J4 | (simp only [if_neg q1, if_pos q2] at J4 ⊢; exact J4)
  · refine Wk.iconst o_L_law_20 (z := (1 : Int32)) (by decide) ?_
    refine Wk.goto o_L_law_21 ?_
    first | (rw [show ((if v4 < (1 : Int32) then (1 : Int32) else (if (255 : Int32) < v4 then (255 : Int32) else v4)) : Int32) = (1 : Int32) from if_pos q1] at J4; exact J4) | exact J4 | (simp only [if_pos q1] at J4 ⊢; exact J4)

set_option maxRecDepth 65536 in
set_option maxHeartbeats 4000000 in
theorem wp_L_law_91 {l : Launch} {Z : State} {a0 : Array Value} (H : OK Z a0) (sl : Int32) (sv : Int32 → Int32) (F1 : Nat → Int32) (G1 : Nat → Int64) (A1 : Nat → Int32 → Int32) (B1 : Nat → Int32 → Int64) (v0 : Int32) (v1 : Int32) (v2 : Int32) (v3 : Int32) (v6 : Int32) (v7 : Int32) (v8 : Int32) (v9 : Int32) (v10 : Int32) (v11 : Int32) {Q : Option Value → WL → Prop} (s1 : (en_submit F1 A1 (1 : Int32) (1 : Int32) v2 v3).isSome = true) (h2 : Wk l Z (MoL Z cdC "AuctionCrossL3" false) md_L_law 102 [.val (.int v0), .val (.int v1), .val (.int v2), .val (.int v3), .unset, .val (.ref 1), .val (.int v6), .val (.int v7), .val (.int v8), .val (.int v9), .val (.int v10), .val (.int v11), .val (.int (R_submit F1 A1 (1 : Int32) (1 : Int32) v2 v3).1), .unset, .unset, .unset, .unset, .unset] [] (sl, sv, [(11, (R_submit F1 A1 (1 : Int32) (1 : Int32) v2 v3).2.1, G1, (R_submit F1 A1 (1 : Int32) (1 : Int32) v2 v3).2.2, B1)]) 12 1012 Q) :
    Wk l Z (MoL Z cdC "AuctionCrossL3" false) md_L_law 91 [.val (.int v0), .val (.int v1), .val (.int v2), .val (.int v3), .unset, .val (.ref 1), .val (.int v6), .val (.int v7), .val (.int v8), .val (.int v9), .val (.int v10), .val (.int v11), .unset, .unset, .unset, .unset, .unset, .unset] [] (sl, sv, [(11, F1, G1, A1, B1)]) 12 1012 Q := by
  refine Wk.aload o_L_law_91 rfl ?_
  refine Wk.iconst o_L_law_93 (z := (1 : Int32)) (by decide) ?_
  refine Wk.iconst o_L_law_94 (z := (1 : Int32)) (by decide) ?_
  refine Wk.iloadN o_L_law_95 rfl ?_
  refine Wk.iloadN o_L_law_96 rfl ?_
  refine Wk.callLF (coC H) [.int (1 : Int32), .int (1 : Int32), .int v2, .int v3] 0 [] (i' := 1) (H.w 54 rfl) (cv_submit H) o_L_law_97 (run_submit H F1 G1 A1 B1 (1 : Int32) (1 : Int32) v2 v3 s1) (wt := 0) (cu' := 12) (su' := 1012) (by decide) trivial rfl rfl rfl rfl rfl (al_submit _ _ _ _) rfl rfl rfl rfl (ws' := [(11, (R_submit F1 A1 (1 : Int32) (1 : Int32) v2 v3).2.1, G1, (R_submit F1 A1 (1 : Int32) (1 : Int32) v2 v3).2.2, B1)]) rfl ?_
  refine Wk.istore o_L_law_100 (Or.inl rfl) (L' := [.val (.int v0), .val (.int v1), .val (.int v2), .val (.int v3), .unset, .val (.ref 1), .val (.int v6), .val (.int v7), .val (.int v8), .val (.int v9), .val (.int v10), .val (.int v11), .val (.int (R_submit F1 A1 (1 : Int32) (1 : Int32) v2 v3).1), .unset, .unset, .unset, .unset, .unset]) rfl ?_
  exact h2

set_option maxRecDepth 65536 in
set_option maxHeartbeats 4000000 in
theorem wp_L_law_102 {l : Launch} {Z : State} {a0 : Array Value} (H : OK Z a0) (sl : Int32) (sv : Int32 → Int32) (F1 : Nat → Int32) (G1 : Nat → Int64) (A1 : Nat → Int32 → Int32) (B1 : Nat → Int32 → Int64) (v0 : Int32) (v1 : Int32) (v2 : Int32) (v3 : Int32) (v6 : Int32) (v7 : Int32) (v8 : Int32) (v9 : Int32) (v10 : Int32) (v11 : Int32) (v12 : Int32) {Q : Option Value → WL → Prop} (s29 : v11 = (if v9 = 0 then v7 else (0 : Int32)) → v12 = (if v10 = 0 then v8 else (if v9 = 0 then (0 : Int32) else (1 : Int32))) → (en_indicativeVolume F1 A1 ).isSome = true) (h31 : v11 = (if v9 = 0 then v7 else (0 : Int32)) → v12 = (if v10 = 0 then v8 else (if v9 = 0 then (0 : Int32) else (1 : Int32))) → (R_indicativeVolume F1 A1 ).1 = (if v9 = 0 then (0 : Int32) else (if v10 = 0 then (0 : Int32) else (if (if v0 = 0 then (255 : Int32) else v0) < (if v2 = 0 then (1 : Int32) else v2) then (0 : Int32) else (if v1 < v3 then v1 else v3)))) → Wk l Z (MoL Z cdC "AuctionCrossL3" false) md_L_law 274 [.unset, .val (.int v1), .unset, .val (.int v3), .unset, .val (.ref 1), .val (.int v6), .unset, .unset, .val (.int v9), .val (.int v10), .unset, .unset, .val (.int (if v9 = 0 then (0 : Int32) else (1 : Int32))), .unset, .unset, .val (.int (if v9 = 0 then (0 : Int32) else (if v10 = 0 then (0 : Int32) else (if (if v0 = 0 then (255 : Int32) else v0) < (if v2 = 0 then (1 : Int32) else v2) then (0 : Int32) else (if v1 < v3 then v1 else v3))))), .val (.int (if v9 = 0 then (0 : Int32) else (if v10 = 0 then (0 : Int32) else (if (if v0 = 0 then (255 : Int32) else v0) < (if v2 = 0 then (1 : Int32) else v2) then (0 : Int32) else (if v3 < v1 then (if v0 = 0 then (255 : Int32) else v0) else (if v1 < v3 then (if v2 = 0 then (1 : Int32) else v2) else (if v6 < (if v2 = 0 then (1 : Int32) else v2) then (if v2 = 0 then (1 : Int32) else v2) else (if (if v0 = 0 then (255 : Int32) else v0) < v6 then (if v0 = 0 then (255 : Int32) else v0) else v6))))))))] [] (sl, sv, [(11, F1, G1, (R_indicativeVolume F1 A1 ).2, B1)]) 12 1012 Q) (h32 : v11 = (if v9 = 0 then v7 else (0 : Int32)) → v12 = (if v10 = 0 then v8 else (if v9 = 0 then (0 : Int32) else (1 : Int32))) → ¬ (R_indicativeVolume F1 A1 ).1 = (if v9 = 0 then (0 : Int32) else (if v10 = 0 then (0 : Int32) else (if (if v0 = 0 then (255 : Int32) else v0) < (if v2 = 0 then (1 : Int32) else v2) then (0 : Int32) else (if v1 < v3 then v1 else v3)))) → Q (some (.int (0 : Int32))) (sl, sv, [(11, F1, G1, (R_indicativeVolume F1 A1 ).2, B1)])) (h33 : v11 = (if v9 = 0 then v7 else (0 : Int32)) → ¬ v12 = (if v10 = 0 then v8 else (if v9 = 0 then (0 : Int32) else (1 : Int32))) → Q (some (.int (0 : Int32))) (sl, sv, [(11, F1, G1, A1, B1)])) (h34 : ¬ v11 = (if v9 = 0 then v7 else (0 : Int32)) → Q (some (.int (0 : Int32))) (sl, sv, [(11, F1, G1, A1, B1)])) :
    Wk l Z (MoL Z cdC "AuctionCrossL3" false) md_L_law 102 [.val (.int v0), .val (.int v1), .val (.int v2), .val (.int v3), .unset, .val (.ref 1), .val (.int v6), .val (.int v7), .val (.int v8), .val (.int v9), .val (.int v10), .val (.int v11), .val (.int v12), .unset, .unset, .unset, .unset, .unset] [] (sl, sv, [(11, F1, G1, A1, B1)]) 12 1012 Q := by
  refine Wk.iload o_L_law_102 rfl ?_
  refine Wk.iload o_L_law_104 rfl ?_
  have J2 : Wk l Z (MoL Z cdC "AuctionCrossL3" false) md_L_law 115 [.val (.int v0), .val (.int v1), .val (.int v2), .val (.int v3), .unset, .val (.ref 1), .val (.int v6), .val (.int v7), .val (.int v8), .val (.int v9), .val (.int v10), .val (.int v11), .val (.int v12), .unset, .unset, .unset, .unset, .unset] [.int (if v9 = 0 then v7 else (0 : Int32)), .int v11] (sl, sv, [(11, F1, G1, A1, B1)]) 12 1012 Q := by
    refine Wk.icmp_eq o_L_law_115 (fun q3 => ?_) (fun q3 => ?_)
    · refine Wk.iload o_L_law_120 rfl ?_
      have J5 : Wk l Z (MoL Z cdC "AuctionCrossL3" false) md_L_law 130 [.val (.int v0), .val (.int v1), .val (.int v2), .val (.int v3), .unset, .val (.ref 1), .val (.int v6), .val (.int v7), .val (.int v8), .val (.int v9), .val (.int v10), .val (.int v11), .val (.int v12), .unset, .unset, .unset, .unset, .unset] [.int (if v9 = 0 then (0 : Int32) else (1 : Int32))] (sl, sv, [(11, F1, G1, A1, B1)]) 12 1012 Q := by
        refine Wk.istore o_L_law_130 (Or.inl rfl) (L' := [.val (.int v0), .val (.int v1), .val (.int v2), .val (.int v3), .unset, .val (.ref 1), .val (.int v6), .val (.int v7), .val (.int v8), .val (.int v9), .val (.int v10), .val (.int v11), .val (.int v12), .val (.int (if v9 = 0 then (0 : Int32) else (1 : Int32))), .unset, .unset, .unset, .unset]) rfl ?_
        refine Wk.iload o_L_law_132 rfl ?_
        refine Wk.iload o_L_law_134 rfl ?_
        have J7 : Wk l Z (MoL Z cdC "AuctionCrossL3" false) md_L_law 146 [.val (.int v0), .val (.int v1), .val (.int v2), .val (.int v3), .unset, .val (.ref 1), .val (.int v6), .val (.int v7), .val (.int v8), .val (.int v9), .val (.int v10), .val (.int v11), .val (.int v12), .val (.int (if v9 = 0 then (0 : Int32) else (1 : Int32))), .unset, .unset, .unset, .unset] [.int (if v10 = 0 then v8 else (if v9 = 0 then (0 : Int32) else (1 : Int32))), .int v12] (sl, sv, [(11, F1, G1, A1, B1)]) 12 1012 Q := by
          refine Wk.icmp_eq o_L_law_146 (fun q8 => ?_) (fun q8 => ?_)
          · refine Wk.iloadN o_L_law_151 rfl ?_
            have J10 : Wk l Z (MoL Z cdC "AuctionCrossL3" false) md_L_law 162 [.val (.int v0), .val (.int v1), .val (.int v2), .val (.int v3), .unset, .val (.ref 1), .val (.int v6), .val (.int v7), .val (.int v8), .val (.int v9), .val (.int v10), .val (.int v11), .val (.int v12), .val (.int (if v9 = 0 then (0 : Int32) else (1 : Int32))), .unset, .unset, .unset, .unset] [.int (if v0 = 0 then (255 : Int32) else v0)] (sl, sv, [(11, F1, G1, A1, B1)]) 12 1012 Q := by
              refine Wk.istore o_L_law_162 (Or.inl rfl) (L' := [.val (.int v0), .val (.int v1), .val (.int v2), .val (.int v3), .unset, .val (.ref 1), .val (.int v6), .val (.int v7), .val (.int v8), .val (.int v9), .val (.int v10), .val (.int v11), .val (.int v12), .val (.int (if v9 = 0 then (0 : Int32) else (1 : Int32))), .val (.int (if v0 = 0 then (255 : Int32) else v0)), .unset, .unset, .unset]) rfl ?_
              refine Wk.iloadN o_L_law_164 rfl ?_
              have J12 : Wk l Z (MoL Z cdC "AuctionCrossL3" false) md_L_law 173 [.val (.int v0), .val (.int v1), .val (.int v2), .val (.int v3), .unset, .val (.ref 1), .val (.int v6), .val (.int v7), .val (.int v8), .val (.int v9), .val (.int v10), .val (.int v11), .val (.int v12), .val (.int (if v9 = 0 then (0 : Int32) else (1 : Int32))), .val (.int (if v0 = 0 then (255 : Int32) else v0)), .unset, .unset, .unset] [.int (if v2 = 0 then (1 : Int32) else v2)] (sl, sv, [(11, F1, G1, A1, B1)]) 12 1012 Q := by
                refine Wk.istore o_L_law_173 (Or.inl rfl) (L' := [.val (.int v0), .val (.int v1), .val (.int v2), .val (.int v3), .unset, .val (.ref 1), .val (.int v6), .val (.int v7), .val (.int v8), .val (.int v9), .val (.int v10), .val (.int v11), .val (.int v12), .val (.int (if v9 = 0 then (0 : Int32) else (1 : Int32))), .val (.int (if v0 = 0 then (255 : Int32) else v0)), .val (.int (if v2 = 0 then (1 : Int32) else v2)), .unset, .unset]) rfl ?_
                refine Wk.iconst o_L_law_175 (z := (0 : Int32)) (by decide) ?_
                refine Wk.istore o_L_law_176 (Or.inl rfl) (L' := [.val (.int v0), .val (.int v1), .val (.int v2), .val (.int v3), .unset, .val (.ref 1), .val (.int v6), .val (.int v7), .val (.int v8), .val (.int v9), .val (.int v10), .val (.int v11), .val (.int v12), .val (.int (if v9 = 0 then (0 : Int32) else (1 : Int32))), .val (.int (if v0 = 0 then (255 : Int32) else v0)), .val (.int (if v2 = 0 then (1 : Int32) else v2)), .val (.int (0 : Int32)), .unset]) rfl ?_
                refine Wk.iconst o_L_law_178 (z := (0 : Int32)) (by decide) ?_
                refine Wk.istore o_L_law_179 (Or.inl rfl) (L' := [.val (.int v0), .val (.int v1), .val (.int v2), .val (.int v3), .unset, .val (.ref 1), .val (.int v6), .val (.int v7), .val (.int v8), .val (.int v9), .val (.int v10), .val (.int v11), .val (.int v12), .val (.int (if v9 = 0 then (0 : Int32) else (1 : Int32))), .val (.int (if v0 = 0 then (255 : Int32) else v0)), .val (.int (if v2 = 0 then (1 : Int32) else v2)), .val (.int (0 : Int32)), .val (.int (0 : Int32))]) rfl ?_
                refine Wk.iload o_L_law_181 rfl ?_
                have J28 : Wk l Z (MoL Z cdC "AuctionCrossL3" false) md_L_law 262 [.val (.int v0), .val (.int v1), .val (.int v2), .val (.int v3), .unset, .val (.ref 1), .val (.int v6), .val (.int v7), .val (.int v8), .val (.int v9), .val (.int v10), .val (.int v11), .val (.int v12), .val (.int (if v9 = 0 then (0 : Int32) else (1 : Int32))), .val (.int (if v0 = 0 then (255 : Int32) else v0)), .val (.int (if v2 = 0 then (1 : Int32) else v2)), .val (.int (if v9 = 0 then (0 : Int32) else (if v10 = 0 then (0 : Int32) else (if (if v0 = 0 then (255 : Int32) else v0) < (if v2 = 0 then (1 : Int32) else v2) then (0 : Int32) else (if v1 < v3 then v1 else v3))))), .val (.int (if v9 = 0 then (0 : Int32) else (if v10 = 0 then (0 : Int32) else (if (if v0 = 0 then (255 : Int32) else v0) < (if v2 = 0 then (1 : Int32) else v2) then (0 : Int32) else (if v3 < v1 then (if v0 = 0 then (255 : Int32) else v0) else (if v1 < v3 then (if v2 = 0 then (1 : Int32) else v2) else (if v6 < (if v2 = 0 then (1 : Int32) else v2) then (if v2 = 0 then (1 : Int32) else v2) else (if (if v0 = 0 then (255 : Int32) else v0) < v6 then (if v0 = 0 then (255 : Int32) else v0) else v6))))))))] [] (sl, sv, [(11, F1, G1, A1, B1)]) 12 1012 Q := by
                  refine Wk.aload o_L_law_262 rfl ?_
                  refine Wk.callLF (coC H) [] 0 [] (i' := 1) (H.w 63 rfl) (cv_indicativeVolume H) o_L_law_264 (run_indicativeVolume H F1 G1 A1 B1 (s29 q3 q8)) (wt := 0) (cu' := 12) (su' := 1012) (by decide) trivial rfl rfl rfl rfl rfl rfl rfl rfl rfl rfl (ws' := [(11, F1, G1, (R_indicativeVolume F1 A1 ).2, B1)]) rfl ?_
                  refine Wk.iload o_L_law_267 rfl ?_
                  refine Wk.icmp_eq o_L_law_269 (fun q30 => ?_) (fun q30 => ?_)
                  · refine Wk.forget [true, false, true, false, false, false, false, true, true, false, false, true, true, false, true, true, false, false] (L' := [.unset, .val (.int v1), .unset, .val (.int v3), .unset, .val (.ref 1), .val (.int v6), .unset, .unset, .val (.int v9), .val (.int v10), .unset, .unset, .val (.int (if v9 = 0 then (0 : Int32) else (1 : Int32))), .unset, .unset, .val (.int (if v9 = 0 then (0 : Int32) else (if v10 = 0 then (0 : Int32) else (if (if v0 = 0 then (255 : Int32) else v0) < (if v2 = 0 then (1 : Int32) else v2) then (0 : Int32) else (if v1 < v3 then v1 else v3))))), .val (.int (if v9 = 0 then (0 : Int32) else (if v10 = 0 then (0 : Int32) else (if (if v0 = 0 then (255 : Int32) else v0) < (if v2 = 0 then (1 : Int32) else v2) then (0 : Int32) else (if v3 < v1 then (if v0 = 0 then (255 : Int32) else v0) else (if v1 < v3 then (if v2 = 0 then (1 : Int32) else v2) else (if v6 < (if v2 = 0 then (1 : Int32) else v2) then (if v2 = 0 then (1 : Int32) else v2) else (if (if v0 = 0 then (255 : Int32) else v0) < v6 then (if v0 = 0 then (255 : Int32) else v0) else v6))))))))]) rfl rfl ?_
                    exact (h31 q3 q8 q30)
                  · refine Wk.iconst o_L_law_272 (z := (0 : Int32)) (by decide) ?_
                    exact Wk.zreturn mrL rfl o_L_law_273 rfl (by decide) (by decide) (y := (0 : Int32)) (by decide) (h32 q3 q8 q30)
                refine Wk.if_eq o_L_law_183 (fun q13 => ?_) (fun q13 => ?_)
                · first | (rw [show ((if v9 = 0 then (0 : Int32) else (if v10 = 0 then (0 : Int32) else (if (if v0 = 0 then (255 : Int32) else v0) < (if v2 = 0 then (1 : Int32) else v2) then (0 : Int32) else (if v1 < v3 then v1 else v3)))) : Int32) = (0 : Int32) from if_pos q13, show ((if v9 = 0 then (0 : Int32) else (if v10 = 0 then (0 : Int32) else (if (if v0 = 0 then (255 : Int32) else v0) < (if v2 = 0 then (1 : Int32) else v2) then (0 : Int32) else (if v3 < v1 then (if v0 = 0 then (255 : Int32) else v0) else (if v1 < v3 then (if v2 = 0 then (1 : Int32) else v2) else (if v6 < (if v2 = 0 then (1 : Int32) else v2) then (if v2 = 0 then (1 : Int32) else v2) else (if (if v0 = 0 then (255 : Int32) else v0) < v6 then (if v0 = 0 then (255 : Int32) else v0) else v6))))))) : Int32) = (0 : Int32) from if_pos q13] at J28; exact J28) | exact J28 | (simp only [if_pos q13] at J28 ⊢; exact J28)
                · refine Wk.iload o_L_law_186 rfl ?_
                  refine Wk.if_eq o_L_law_188 (fun q14 => ?_) (fun q14 => ?_)
                  · first | (rw [show ((if v9 = 0 then (0 : Int32) else (if v10 = 0 then (0 : Int32) else (if (if v0 = 0 then (255 : Int32) else v0) < (if v2 = 0 then (1 : Int32) else v2) then (0 : Int32) else (if v1 < v3 then v1 else v3)))) : Int32) = (0 : Int32) from Eq.trans (if_neg q13) <| if_pos q14, show ((if v9 = 0 then (0 : Int32) else (if v10 = 0 then (0 : Int32) else (if (if v0 = 0 then (255 : Int32) else v0) < (if v2 = 0 then (1 : Int32) else v2) then (0 : Int32) else (if v3 < v1 then (if v0 = 0 then (255 : Int32) else v0) else (if v1 < v3 then (if v2 = 0 then (1 : Int32) else v2) else (if v6 < (if v2 = 0 then (1 : Int32) else v2) then (if v2 = 0 then (1 : Int32) else v2) else (if (if v0 = 0 then (255 : Int32) else v0) < v6 then (if v0 = 0 then (255 : Int32) else v0) else v6))))))) : Int32) = (0 : Int32) from Eq.trans (if_neg q13) <| if_pos q14] at J28; exact J28) | exact J28 | (simp only [if_neg q13, if_pos q14] at J28 ⊢; exact J28)
                  · refine Wk.iload o_L_law_191 rfl ?_
                    refine Wk.iload o_L_law_193 rfl ?_
                    refine Wk.icmp_gt o_L_law_195 (fun q15 => ?_) (fun q15 => ?_)
                    · first | (rw [show ((if v9 = 0 then (0 : Int32) else (if v10 = 0 then (0 : Int32) else (if (if v0 = 0 then (255 : Int32) else v0) < (if v2 = 0 then (1 : Int32) else v2) then (0 : Int32) else (if v1 < v3 then v1 else v3)))) : Int32) = (0 : Int32) from Eq.trans (if_neg q13) <| Eq.trans (if_neg q14) <| if_pos q15, show ((if v9 = 0 then (0 : Int32) else (if v10 = 0 then (0 : Int32) else (if (if v0 = 0 then (255 : Int32) else v0) < (if v2 = 0 then (1 : Int32) else v2) then (0 : Int32) else (if v3 < v1 then (if v0 = 0 then (255 : Int32) else v0) else (if v1 < v3 then (if v2 = 0 then (1 : Int32) else v2) else (if v6 < (if v2 = 0 then (1 : Int32) else v2) then (if v2 = 0 then (1 : Int32) else v2) else (if (if v0 = 0 then (255 : Int32) else v0) < v6 then (if v0 = 0 then (255 : Int32) else v0) else v6))))))) : Int32) = (0 : Int32) from Eq.trans (if_neg q13) <| Eq.trans (if_neg q14) <| if_pos q15] at J28; exact J28) | exact J28 | (simp only [if_neg q13, if_neg q14, if_pos q15] at J28 ⊢; exact J28)
                    · refine Wk.iloadN o_L_law_198 rfl ?_
                      refine Wk.iloadN o_L_law_199 rfl ?_
                      have J17 : Wk l Z (MoL Z cdC "AuctionCrossL3" false) md_L_law 208 [.val (.int v0), .val (.int v1), .val (.int v2), .val (.int v3), .unset, .val (.ref 1), .val (.int v6), .val (.int v7), .val (.int v8), .val (.int v9), .val (.int v10), .val (.int v11), .val (.int v12), .val (.int (if v9 = 0 then (0 : Int32) else (1 : Int32))), .val (.int (if v0 = 0 then (255 : Int32) else v0)), .val (.int (if v2 = 0 then (1 : Int32) else v2)), .val (.int (0 : Int32)), .val (.int (0 : Int32))] [.int (if v1 < v3 then v1 else v3)] (sl, sv, [(11, F1, G1, A1, B1)]) 12 1012 Q := by
                        refine Wk.istore o_L_law_208 (Or.inr ⟨_, rfl, rfl⟩) (L' := [.val (.int v0), .val (.int v1), .val (.int v2), .val (.int v3), .unset, .val (.ref 1), .val (.int v6), .val (.int v7), .val (.int v8), .val (.int v9), .val (.int v10), .val (.int v11), .val (.int v12), .val (.int (if v9 = 0 then (0 : Int32) else (1 : Int32))), .val (.int (if v0 = 0 then (255 : Int32) else v0)), .val (.int (if v2 = 0 then (1 : Int32) else v2)), .val (.int (if v1 < v3 then v1 else v3)), .val (.int (0 : Int32))]) rfl ?_
                        refine Wk.iloadN o_L_law_210 rfl ?_
                        refine Wk.iloadN o_L_law_211 rfl ?_
                        refine Wk.icmp_le o_L_law_212 (fun q18 => ?_) (fun q18 => ?_)
                        · refine Wk.iloadN o_L_law_222 rfl ?_
                          refine Wk.iloadN o_L_law_223 rfl ?_
                          refine Wk.icmp_ge o_L_law_224 (fun q19 => ?_) (fun q19 => ?_)
                          · refine Wk.iload o_L_law_234 rfl ?_
                            refine Wk.iload o_L_law_236 rfl ?_
                            have J23 : Wk l Z (MoL Z cdC "AuctionCrossL3" false) md_L_law 260 [.val (.int v0), .val (.int v1), .val (.int v2), .val (.int v3), .unset, .val (.ref 1), .val (.int v6), .val (.int v7), .val (.int v8), .val (.int v9), .val (.int v10), .val (.int v11), .val (.int v12), .val (.int (if v9 = 0 then (0 : Int32) else (1 : Int32))), .val (.int (if v0 = 0 then (255 : Int32) else v0)), .val (.int (if v2 = 0 then (1 : Int32) else v2)), .val (.int (if v1 < v3 then v1 else v3)), .val (.int (0 : Int32))] [.int (if v6 < (if v2 = 0 then (1 : Int32) else v2) then (if v2 = 0 then (1 : Int32) else v2) else (if (if v0 = 0 then (255 : Int32) else v0) < v6 then (if v0 = 0 then (255 : Int32) else v0) else v6))] (sl, sv, [(11, F1, G1, A1, B1)]) 12 1012 Q := by
                              refine Wk.istore o_L_law_260 (Or.inr ⟨_, rfl, rfl⟩) (L' := [.val (.int v0), .val (.int v1), .val (.int v2), .val (.int v3), .unset, .val (.ref 1), .val (.int v6), .val (.int v7), .val (.int v8), .val (.int v9), .val (.int v10), .val (.int v11), .val (.int v12), .val (.int (if v9 = 0 then (0 : Int32) else (1 : Int32))), .val (.int (if v0 = 0 then (255 : Int32) else v0)), .val (.int (if v2 = 0 then (1 : Int32) else v2)), .val (.int (if v1 < v3 then v1 else v3)), .val (.int (if v6 < (if v2 = 0 then (1 : Int32) else v2) then (if v2 = 0 then (1 : Int32) else v2) else (if (if v0 = 0 then (255 : Int32) else v0) < v6 then (if v0 = 0 then (255 : Int32) else v0) else v6)))]) rfl ?_
                              first | (rw [show ((if v9 = 0 then (0 : Int32) else (if v10 = 0 then (0 : Int32) else (if (if v0 = 0 then (255 : Int32) else v0) < (if v2 = 0 then (1 : Int32) else v2) then (0 : Int32) else (if v1 < v3 then v1 else v3)))) : Int32) = (if v1 < v3 then v1 else v3) from Eq.trans (if_neg q13) <| Eq.trans (if_neg q14) <| if_neg q15, show ((if v9 = 0 then (0 : Int32) else (if v10 = 0 then (0 : Int32) else (if (if v0 = 0 then (255 : Int32) else v0) < (if v2 = 0 then (1 : Int32) else v2) then (0 : Int32) else (if v3 < v1 then (if v0 = 0 then (255 : Int32) else v0) else (if v1 < v3 then (if v2 = 0 then (1 : Int32) else v2) else (if v6 < (if v2 = 0 then (1 : Int32) else v2) then (if v2 = 0 then (1 : Int32) else v2) else (if (if v0 = 0 then (255 : Int32) else v0) < v6 then (if v0 = 0 then (255 : Int32) else v0) else v6))))))) : Int32) = (if v6 < (if v2 = 0 then (1 : Int32) else v2) then (if v2 = 0 then (1 : Int32) else v2) else (if (if v0 = 0 then (255 : Int32) else v0) < v6 then (if v0 = 0 then (255 : Int32) else v0) else v6)) from Eq.trans (if_neg q13) <| Eq.trans (if_neg q14) <| Eq.trans (if_neg q15) <| Eq.trans (if_neg q18) <| if_neg q19] at J28; exact J28) | exact J28 | (simp only [if_neg q13, if_neg q14, if_neg q15, if_neg q18, if_neg q19] at J28 ⊢; exact J28)
                            refine Wk.icmp_ge o_L_law_238 (fun q20 => ?_) (fun q20 => ?_)
                            · refine Wk.iload o_L_law_246 rfl ?_
                              refine Wk.iload o_L_law_248 rfl ?_
                              refine Wk.icmp_le o_L_law_250 (fun q21 => ?_) (fun q21 => ?_)
                              · refine Wk.iload o_L_law_258 rfl ?_
                                first | (rw [show ((if v6 < (if v2 = 0 then (1 : Int32) else v2) then (if v2 = 0 then (1 : Int32) else v2) else (if (if v0 = 0 then (255 : Int32) else v0) < v6 then (if v0 = 0 then (255 : Int32) else v0) else v6)) : Int32) = v6 from Eq.trans (if_neg q20) <| if_neg q21] at J23; exact J23) | exact J23 | (simp only [if_neg q20, if_neg q21] at J23 ⊢; exact J23)
                              · refine Wk.iload o_L_law_253 rfl ?_
                                refine Wk.goto o_L_law_255 ?_
                                first | (rw [show ((if v6 < (if v2 = 0 then (1 : Int32) else v2) then (if v2 = 0 then (1 : Int32) else v2) else (if (if v0 = 0 then (255 : Int32) else v0) < v6 then (if v0 = 0 then (255 : Int32) else v0) else v6)) : Int32) = (if v0 = 0 then (255 : Int32) else v0) from Eq.trans (if_neg q20) <| if_pos q21] at J23; exact J23) | exact J23 | (simp only [if_neg q20, if_pos q21] at J23 ⊢; exact J23)
                            · refine Wk.iload o_L_law_241 rfl ?_
                              refine Wk.goto o_L_law_243 ?_
                              first | (rw [show ((if v6 < (if v2 = 0 then (1 : Int32) else v2) then (if v2 = 0 then (1 : Int32) else v2) else (if (if v0 = 0 then (255 : Int32) else v0) < v6 then (if v0 = 0 then (255 : Int32) else v0) else v6)) : Int32) = (if v2 = 0 then (1 : Int32) else v2) from if_pos q20] at J23; exact J23) | exact J23 | (simp only [if_pos q20] at J23 ⊢; exact J23)
                          · refine Wk.iload o_L_law_227 rfl ?_
                            refine Wk.istore o_L_law_229 (Or.inr ⟨_, rfl, rfl⟩) (L' := [.val (.int v0), .val (.int v1), .val (.int v2), .val (.int v3), .unset, .val (.ref 1), .val (.int v6), .val (.int v7), .val (.int v8), .val (.int v9), .val (.int v10), .val (.int v11), .val (.int v12), .val (.int (if v9 = 0 then (0 : Int32) else (1 : Int32))), .val (.int (if v0 = 0 then (255 : Int32) else v0)), .val (.int (if v2 = 0 then (1 : Int32) else v2)), .val (.int (if v1 < v3 then v1 else v3)), .val (.int (if v2 = 0 then (1 : Int32) else v2))]) rfl ?_
                            refine Wk.goto o_L_law_231 ?_
                            first | (rw [show ((if v9 = 0 then (0 : Int32) else (if v10 = 0 then (0 : Int32) else (if (if v0 = 0 then (255 : Int32) else v0) < (if v2 = 0 then (1 : Int32) else v2) then (0 : Int32) else (if v1 < v3 then v1 else v3)))) : Int32) = (if v1 < v3 then v1 else v3) from Eq.trans (if_neg q13) <| Eq.trans (if_neg q14) <| if_neg q15, show ((if v9 = 0 then (0 : Int32) else (if v10 = 0 then (0 : Int32) else (if (if v0 = 0 then (255 : Int32) else v0) < (if v2 = 0 then (1 : Int32) else v2) then (0 : Int32) else (if v3 < v1 then (if v0 = 0 then (255 : Int32) else v0) else (if v1 < v3 then (if v2 = 0 then (1 : Int32) else v2) else (if v6 < (if v2 = 0 then (1 : Int32) else v2) then (if v2 = 0 then (1 : Int32) else v2) else (if (if v0 = 0 then (255 : Int32) else v0) < v6 then (if v0 = 0 then (255 : Int32) else v0) else v6))))))) : Int32) = (if v2 = 0 then (1 : Int32) else v2) from Eq.trans (if_neg q13) <| Eq.trans (if_neg q14) <| Eq.trans (if_neg q15) <| Eq.trans (if_neg q18) <| if_pos q19] at J28; exact J28) | exact J28 | (simp only [if_neg q13, if_neg q14, if_neg q15, if_neg q18, if_pos q19] at J28 ⊢; exact J28)
                        · refine Wk.iload o_L_law_215 rfl ?_
                          refine Wk.istore o_L_law_217 (Or.inr ⟨_, rfl, rfl⟩) (L' := [.val (.int v0), .val (.int v1), .val (.int v2), .val (.int v3), .unset, .val (.ref 1), .val (.int v6), .val (.int v7), .val (.int v8), .val (.int v9), .val (.int v10), .val (.int v11), .val (.int v12), .val (.int (if v9 = 0 then (0 : Int32) else (1 : Int32))), .val (.int (if v0 = 0 then (255 : Int32) else v0)), .val (.int (if v2 = 0 then (1 : Int32) else v2)), .val (.int (if v1 < v3 then v1 else v3)), .val (.int (if v0 = 0 then (255 : Int32) else v0))]) rfl ?_
                          refine Wk.goto o_L_law_219 ?_
                          first | (rw [show ((if v9 = 0 then (0 : Int32) else (if v10 = 0 then (0 : Int32) else (if (if v0 = 0 then (255 : Int32) else v0) < (if v2 = 0 then (1 : Int32) else v2) then (0 : Int32) else (if v1 < v3 then v1 else v3)))) : Int32) = (if v1 < v3 then v1 else v3) from Eq.trans (if_neg q13) <| Eq.trans (if_neg q14) <| if_neg q15, show ((if v9 = 0 then (0 : Int32) else (if v10 = 0 then (0 : Int32) else (if (if v0 = 0 then (255 : Int32) else v0) < (if v2 = 0 then (1 : Int32) else v2) then (0 : Int32) else (if v3 < v1 then (if v0 = 0 then (255 : Int32) else v0) else (if v1 < v3 then (if v2 = 0 then (1 : Int32) else v2) else (if v6 < (if v2 = 0 then (1 : Int32) else v2) then (if v2 = 0 then (1 : Int32) else v2) else (if (if v0 = 0 then (255 : Int32) else v0) < v6 then (if v0 = 0 then (255 : Int32) else v0) else v6))))))) : Int32) = (if v0 = 0 then (255 : Int32) else v0) from Eq.trans (if_neg q13) <| Eq.trans (if_neg q14) <| Eq.trans (if_neg q15) <| if_pos q18] at J28; exact J28) | exact J28 | (simp only [if_neg q13, if_neg q14, if_neg q15, if_pos q18] at J28 ⊢; exact J28)
                      refine Wk.icmp_ge o_L_law_200 (fun q16 => ?_) (fun q16 => ?_)
                      · refine Wk.iloadN o_L_law_207 rfl ?_
                        first | (rw [show ((if v1 < v3 then v1 else v3) : Int32) = v3 from if_neg q16] at J17; exact J17) | exact J17 | (simp only [if_neg q16] at J17 ⊢; exact J17)
                      · refine Wk.iloadN o_L_law_203 rfl ?_
                        refine Wk.goto o_L_law_204 ?_
                        first | (rw [show ((if v1 < v3 then v1 else v3) : Int32) = v1 from if_pos q16] at J17; exact J17) | exact J17 | (simp only [if_pos q16] at J17 ⊢; exact J17)
              refine Wk.if_ne o_L_law_165 (fun q11 => ?_) (fun q11 => ?_)
              · refine Wk.iloadN o_L_law_172 rfl ?_
                first | (rw [show ((if v2 = 0 then (1 : Int32) else v2) : Int32) = v2 from if_neg q11] at J12; exact J12) | exact J12 | (simp only [if_neg q11] at J12 ⊢; exact J12)
              · refine Wk.iconst o_L_law_168 (z := (1 : Int32)) (by decide) ?_
                refine Wk.goto o_L_law_169 ?_
                first | (rw [show ((if v2 = 0 then (1 : Int32) else v2) : Int32) = (1 : Int32) from if_pos q11] at J12; exact J12) | exact J12 | (simp only [if_pos q11] at J12 ⊢; exact J12)
            refine Wk.if_ne o_L_law_152 (fun q9 => ?_) (fun q9 => ?_)
            · refine Wk.iloadN o_L_law_161 rfl ?_
              first | (rw [show ((if v0 = 0 then (255 : Int32) else v0) : Int32) = v0 from if_neg q9] at J10; exact J10) | exact J10 | (simp only [if_neg q9] at J10 ⊢; exact J10)
            · refine Wk.sipush o_L_law_155 (z := (255 : Int32)) (by decide) ?_
              refine Wk.goto o_L_law_158 ?_
              first | (rw [show ((if v0 = 0 then (255 : Int32) else v0) : Int32) = (255 : Int32) from if_pos q9] at J10; exact J10) | exact J10 | (simp only [if_pos q9] at J10 ⊢; exact J10)
          · refine Wk.iconst o_L_law_149 (z := (0 : Int32)) (by decide) ?_
            exact Wk.zreturn mrL rfl o_L_law_150 rfl (by decide) (by decide) (y := (0 : Int32)) (by decide) (h33 q3 q8)
        refine Wk.if_eq o_L_law_136 (fun q6 => ?_) (fun q6 => ?_)
        · refine Wk.iload o_L_law_144 rfl ?_
          first | (rw [show ((if v10 = 0 then v8 else (if v9 = 0 then (0 : Int32) else (1 : Int32))) : Int32) = v8 from if_pos q6] at J7; exact J7) | exact J7 | (simp only [if_pos q6] at J7 ⊢; exact J7)
        · refine Wk.iload o_L_law_139 rfl ?_
          refine Wk.goto o_L_law_141 ?_
          first | (rw [show ((if v10 = 0 then v8 else (if v9 = 0 then (0 : Int32) else (1 : Int32))) : Int32) = (if v9 = 0 then (0 : Int32) else (1 : Int32)) from if_neg q6] at J7; exact J7) | exact J7 | (simp only [if_neg q6] at J7 ⊢; exact J7)
      refine Wk.if_eq o_L_law_122 (fun q4 => ?_) (fun q4 => ?_)
      · refine Wk.iconst o_L_law_129 (z := (0 : Int32)) (by decide) ?_
        first | (rw [show ((if v9 = 0 then (0 : Int32) else (1 : Int32)) : Int32) = (0 : Int32) from if_pos q4] at J5; exact J5) | exact J5 | (simp only [if_pos q4] at J5 ⊢; exact J5)
      · refine Wk.iconst o_L_law_125 (z := (1 : Int32)) (by decide) ?_
        refine Wk.goto o_L_law_126 ?_
        first | (rw [show ((if v9 = 0 then (0 : Int32) else (1 : Int32)) : Int32) = (1 : Int32) from if_neg q4] at J5; exact J5) | exact J5 | (simp only [if_neg q4] at J5 ⊢; exact J5)
    · refine Wk.iconst o_L_law_118 (z := (0 : Int32)) (by decide) ?_
      exact Wk.zreturn mrL rfl o_L_law_119 rfl (by decide) (by decide) (y := (0 : Int32)) (by decide) (h34 q3)
  refine Wk.if_eq o_L_law_106 (fun q1 => ?_) (fun q1 => ?_)
  · refine Wk.iload o_L_law_113 rfl ?_
    first | (rw [show ((if v9 = 0 then v7 else (0 : Int32)) : Int32) = v7 from if_pos q1] at J2; exact J2) | exact J2 | (simp only [if_pos q1] at J2 ⊢; exact J2)
  · refine Wk.iconst o_L_law_109 (z := (0 : Int32)) (by decide) ?_
    refine Wk.goto o_L_law_110 ?_
    first | (rw [show ((if v9 = 0 then v7 else (0 : Int32)) : Int32) = (0 : Int32) from if_neg q1] at J2; exact J2) | exact J2 | (simp only [if_neg q1] at J2 ⊢; exact J2)

set_option maxRecDepth 65536 in
set_option maxHeartbeats 4000000 in
theorem wp_L_law_274 {l : Launch} {Z : State} {a0 : Array Value} (H : OK Z a0) (sl : Int32) (sv : Int32 → Int32) (F1 : Nat → Int32) (G1 : Nat → Int64) (A1 : Nat → Int32 → Int32) (B1 : Nat → Int32 → Int64) (v1 : Int32) (v3 : Int32) (v6 : Int32) (v9 : Int32) (v10 : Int32) (v13 : Int32) (v16 : Int32) (v17 : Int32) {Q : Option Value → WL → Prop} (s1 : (en_indicativePrice F1 A1 ).isSome = true) (h3 : (R_indicativePrice F1 A1 ).1 = v17 → Wk l Z (MoL Z cdC "AuctionCrossL3" false) md_L_law 286 [.unset, .val (.int v1), .unset, .val (.int v3), .unset, .val (.ref 1), .val (.int v6), .unset, .unset, .val (.int v9), .val (.int v10), .unset, .unset, .val (.int v13), .unset, .unset, .val (.int v16), .val (.int v17)] [] (sl, sv, [(11, F1, G1, (R_indicativePrice F1 A1 ).2, B1)]) 12 1012 Q) (h4 : ¬ (R_indicativePrice F1 A1 ).1 = v17 → Q (some (.int (0 : Int32))) (sl, sv, [(11, F1, G1, (R_indicativePrice F1 A1 ).2, B1)])) :
    Wk l Z (MoL Z cdC "AuctionCrossL3" false) md_L_law 274 [.unset, .val (.int v1), .unset, .val (.int v3), .unset, .val (.ref 1), .val (.int v6), .unset, .unset, .val (.int v9), .val (.int v10), .unset, .unset, .val (.int v13), .unset, .unset, .val (.int v16), .val (.int v17)] [] (sl, sv, [(11, F1, G1, A1, B1)]) 12 1012 Q := by
  refine Wk.aload o_L_law_274 rfl ?_
  refine Wk.callLF (coC H) [] 0 [] (i' := 1) (H.w 92 rfl) (cv_indicativePrice H) o_L_law_276 (run_indicativePrice H F1 G1 A1 B1 s1) (wt := 0) (cu' := 12) (su' := 1012) (by decide) trivial rfl rfl rfl rfl rfl rfl rfl rfl rfl rfl (ws' := [(11, F1, G1, (R_indicativePrice F1 A1 ).2, B1)]) rfl ?_
  refine Wk.iload o_L_law_279 rfl ?_
  refine Wk.icmp_eq o_L_law_281 (fun q2 => ?_) (fun q2 => ?_)
  · exact (h3 q2)
  · refine Wk.iconst o_L_law_284 (z := (0 : Int32)) (by decide) ?_
    exact Wk.zreturn mrL rfl o_L_law_285 rfl (by decide) (by decide) (y := (0 : Int32)) (by decide) (h4 q2)

set_option maxRecDepth 65536 in
set_option maxHeartbeats 4000000 in
theorem wp_L_law_286 {l : Launch} {Z : State} {a0 : Array Value} (H : OK Z a0) (sl : Int32) (sv : Int32 → Int32) (F1 : Nat → Int32) (G1 : Nat → Int64) (A1 : Nat → Int32 → Int32) (B1 : Nat → Int32 → Int64) (v1 : Int32) (v3 : Int32) (v6 : Int32) (v9 : Int32) (v10 : Int32) (v13 : Int32) (v16 : Int32) (v17 : Int32) {Q : Option Value → WL → Prop} (s1 : (en_uncross F1 A1 ).isSome = true) (h3 : (R_uncross F1 A1 ).1 = v16 → Wk l Z (MoL Z cdC "AuctionCrossL3" false) md_L_law 298 [.unset, .val (.int v1), .unset, .val (.int v3), .unset, .val (.ref 1), .val (.int v6), .unset, .unset, .val (.int v9), .val (.int v10), .unset, .unset, .val (.int v13), .unset, .unset, .val (.int v16), .val (.int v17)] [] (sl, sv, [(11, (R_uncross F1 A1 ).2.1, G1, (R_uncross F1 A1 ).2.2, B1)]) 12 1012 Q) (h4 : ¬ (R_uncross F1 A1 ).1 = v16 → Q (some (.int (0 : Int32))) (sl, sv, [(11, (R_uncross F1 A1 ).2.1, G1, (R_uncross F1 A1 ).2.2, B1)])) :
    Wk l Z (MoL Z cdC "AuctionCrossL3" false) md_L_law 286 [.unset, .val (.int v1), .unset, .val (.int v3), .unset, .val (.ref 1), .val (.int v6), .unset, .unset, .val (.int v9), .val (.int v10), .unset, .unset, .val (.int v13), .unset, .unset, .val (.int v16), .val (.int v17)] [] (sl, sv, [(11, F1, G1, A1, B1)]) 12 1012 Q := by
  refine Wk.aload o_L_law_286 rfl ?_
  refine Wk.callLF (coC H) [] 0 [] (i' := 1) (H.w 117 rfl) (cv_uncross H) o_L_law_288 (run_uncross H F1 G1 A1 B1 s1) (wt := 0) (cu' := 12) (su' := 1012) (by decide) trivial rfl rfl rfl rfl rfl rfl rfl rfl rfl rfl (ws' := [(11, (R_uncross F1 A1 ).2.1, G1, (R_uncross F1 A1 ).2.2, B1)]) rfl ?_
  refine Wk.iload o_L_law_291 rfl ?_
  refine Wk.icmp_eq o_L_law_293 (fun q2 => ?_) (fun q2 => ?_)
  · exact (h3 q2)
  · refine Wk.iconst o_L_law_296 (z := (0 : Int32)) (by decide) ?_
    exact Wk.zreturn mrL rfl o_L_law_297 rfl (by decide) (by decide) (y := (0 : Int32)) (by decide) (h4 q2)

set_option maxRecDepth 65536 in
set_option maxHeartbeats 4000000 in
theorem wp_L_law_298 {l : Launch} {Z : State} {a0 : Array Value} (H : OK Z a0) (sl : Int32) (sv : Int32 → Int32) (F1 : Nat → Int32) (G1 : Nat → Int64) (A1 : Nat → Int32 → Int32) (B1 : Nat → Int32 → Int64) (v1 : Int32) (v3 : Int32) (v6 : Int32) (v9 : Int32) (v10 : Int32) (v13 : Int32) (v16 : Int32) (v17 : Int32) {Q : Option Value → WL → Prop} (h2 : ¬ (f_getLastPrice F1) = v17 → Q (some (.int (0 : Int32))) (sl, sv, [(11, F1, G1, A1, B1)])) (s5 : (f_getLastPrice F1) = v17 → (f_getLastVolume F1) = v16 → (f_getPhase F1) = (1 : Int32) → (en_accountBought F1 A1 (0 : Int32)).isSome = true) (h7 : (f_getLastPrice F1) = v17 → (f_getLastVolume F1) = v16 → (f_getPhase F1) = (1 : Int32) → ¬ (R_accountBought F1 A1 (0 : Int32)) = v16 → Q (some (.int (0 : Int32))) (sl, sv, [(11, F1, G1, A1, B1)])) (s8 : (f_getLastPrice F1) = v17 → (f_getLastVolume F1) = v16 → (f_getPhase F1) = (1 : Int32) → (R_accountBought F1 A1 (0 : Int32)) = v16 → (en_accountSold F1 A1 (1 : Int32)).isSome = true) (s12 : (f_getLastPrice F1) = v17 → (f_getLastVolume F1) = v16 → (f_getPhase F1) = (1 : Int32) → (R_accountBought F1 A1 (0 : Int32)) = v16 → (R_accountSold F1 A1 (1 : Int32)) = v16 → v9 = 0 → v10 = 0 → (en_reopen F1 A1 ).isSome = true) (h14 : (f_getLastPrice F1) = v17 → (f_getLastVolume F1) = v16 → (f_getPhase F1) = (1 : Int32) → (R_accountBought F1 A1 (0 : Int32)) = v16 → (R_accountSold F1 A1 (1 : Int32)) = v16 → v9 = 0 → v10 = 0 → (R_reopen F1 A1 ).1 = 0 → Wk l Z (MoL Z cdC "AuctionCrossL3" false) md_L_law 410 [.unset, .unset, .unset, .unset, .unset, .val (.ref 1), .val (.int v6), .unset, .unset, .unset, .unset, .unset, .unset, .unset, .unset, .unset, .val (.int v16), .val (.int v17)] [] (sl, sv, [(11, (R_reopen F1 A1 ).2.1, G1, (R_reopen F1 A1 ).2.2, B1)]) 12 1012 Q) (h15 : (f_getLastPrice F1) = v17 → (f_getLastVolume F1) = v16 → (f_getPhase F1) = (1 : Int32) → (R_accountBought F1 A1 (0 : Int32)) = v16 → (R_accountSold F1 A1 (1 : Int32)) = v16 → v9 = 0 → v10 = 0 → ¬ (R_reopen F1 A1 ).1 = 0 → Q (some (.int (0 : Int32))) (sl, sv, [(11, (R_reopen F1 A1 ).2.1, G1, (R_reopen F1 A1 ).2.2, B1)])) (s16 : (f_getLastPrice F1) = v17 → (f_getLastVolume F1) = v16 → (f_getPhase F1) = (1 : Int32) → (R_accountBought F1 A1 (0 : Int32)) = v16 → (R_accountSold F1 A1 (1 : Int32)) = v16 → v9 = 0 → ¬ v10 = 0 → (en_L_slot  F1 A1 v13 (v3 - v16) v16).isSome = true) (s18 : (f_getLastPrice F1) = v17 → (f_getLastVolume F1) = v16 → (f_getPhase F1) = (1 : Int32) → (R_accountBought F1 A1 (0 : Int32)) = v16 → (R_accountSold F1 A1 (1 : Int32)) = v16 → v9 = 0 → ¬ v10 = 0 → ¬ (R_L_slot  F1 A1 v13 (v3 - v16) v16) = 0 → (en_reopen F1 A1 ).isSome = true) (h20 : (f_getLastPrice F1) = v17 → (f_getLastVolume F1) = v16 → (f_getPhase F1) = (1 : Int32) → (R_accountBought F1 A1 (0 : Int32)) = v16 → (R_accountSold F1 A1 (1 : Int32)) = v16 → v9 = 0 → ¬ v10 = 0 → ¬ (R_L_slot  F1 A1 v13 (v3 - v16) v16) = 0 → (R_reopen F1 A1 ).1 = 0 → Wk l Z (MoL Z cdC "AuctionCrossL3" false) md_L_law 410 [.unset, .unset, .unset, .unset, .unset, .val (.ref 1), .val (.int v6), .unset, .unset, .unset, .unset, .unset, .unset, .unset, .unset, .unset, .val (.int v16), .val (.int v17)] [] (sl, sv, [(11, (R_reopen F1 A1 ).2.1, G1, (R_reopen F1 A1 ).2.2, B1)]) 12 1012 Q) (h21 : (f_getLastPrice F1) = v17 → (f_getLastVolume F1) = v16 → (f_getPhase F1) = (1 : Int32) → (R_accountBought F1 A1 (0 : Int32)) = v16 → (R_accountSold F1 A1 (1 : Int32)) = v16 → v9 = 0 → ¬ v10 = 0 → ¬ (R_L_slot  F1 A1 v13 (v3 - v16) v16) = 0 → ¬ (R_reopen F1 A1 ).1 = 0 → Q (some (.int (0 : Int32))) (sl, sv, [(11, (R_reopen F1 A1 ).2.1, G1, (R_reopen F1 A1 ).2.2, B1)])) (h22 : (f_getLastPrice F1) = v17 → (f_getLastVolume F1) = v16 → (f_getPhase F1) = (1 : Int32) → (R_accountBought F1 A1 (0 : Int32)) = v16 → (R_accountSold F1 A1 (1 : Int32)) = v16 → v9 = 0 → ¬ v10 = 0 → (R_L_slot  F1 A1 v13 (v3 - v16) v16) = 0 → Q (some (.int (0 : Int32))) (sl, sv, [(11, F1, G1, A1, B1)])) (s23 : (f_getLastPrice F1) = v17 → (f_getLastVolume F1) = v16 → (f_getPhase F1) = (1 : Int32) → (R_accountBought F1 A1 (0 : Int32)) = v16 → (R_accountSold F1 A1 (1 : Int32)) = v16 → ¬ v9 = 0 → (en_L_slot  F1 A1 (0 : Int32) (v1 - v16) v16).isSome = true) (s26 : (f_getLastPrice F1) = v17 → (f_getLastVolume F1) = v16 → (f_getPhase F1) = (1 : Int32) → (R_accountBought F1 A1 (0 : Int32)) = v16 → (R_accountSold F1 A1 (1 : Int32)) = v16 → ¬ v9 = 0 → ¬ (R_L_slot  F1 A1 (0 : Int32) (v1 - v16) v16) = 0 → v10 = 0 → (en_reopen F1 A1 ).isSome = true) (h28 : (f_getLastPrice F1) = v17 → (f_getLastVolume F1) = v16 → (f_getPhase F1) = (1 : Int32) → (R_accountBought F1 A1 (0 : Int32)) = v16 → (R_accountSold F1 A1 (1 : Int32)) = v16 → ¬ v9 = 0 → ¬ (R_L_slot  F1 A1 (0 : Int32) (v1 - v16) v16) = 0 → v10 = 0 → (R_reopen F1 A1 ).1 = 0 → Wk l Z (MoL Z cdC "AuctionCrossL3" false) md_L_law 410 [.unset, .unset, .unset, .unset, .unset, .val (.ref 1), .val (.int v6), .unset, .unset, .unset, .unset, .unset, .unset, .unset, .unset, .unset, .val (.int v16), .val (.int v17)] [] (sl, sv, [(11, (R_reopen F1 A1 ).2.1, G1, (R_reopen F1 A1 ).2.2, B1)]) 12 1012 Q) (h29 : (f_getLastPrice F1) = v17 → (f_getLastVolume F1) = v16 → (f_getPhase F1) = (1 : Int32) → (R_accountBought F1 A1 (0 : Int32)) = v16 → (R_accountSold F1 A1 (1 : Int32)) = v16 → ¬ v9 = 0 → ¬ (R_L_slot  F1 A1 (0 : Int32) (v1 - v16) v16) = 0 → v10 = 0 → ¬ (R_reopen F1 A1 ).1 = 0 → Q (some (.int (0 : Int32))) (sl, sv, [(11, (R_reopen F1 A1 ).2.1, G1, (R_reopen F1 A1 ).2.2, B1)])) (s30 : (f_getLastPrice F1) = v17 → (f_getLastVolume F1) = v16 → (f_getPhase F1) = (1 : Int32) → (R_accountBought F1 A1 (0 : Int32)) = v16 → (R_accountSold F1 A1 (1 : Int32)) = v16 → ¬ v9 = 0 → ¬ (R_L_slot  F1 A1 (0 : Int32) (v1 - v16) v16) = 0 → ¬ v10 = 0 → (en_L_slot  F1 A1 v13 (v3 - v16) v16).isSome = true) (s32 : (f_getLastPrice F1) = v17 → (f_getLastVolume F1) = v16 → (f_getPhase F1) = (1 : Int32) → (R_accountBought F1 A1 (0 : Int32)) = v16 → (R_accountSold F1 A1 (1 : Int32)) = v16 → ¬ v9 = 0 → ¬ (R_L_slot  F1 A1 (0 : Int32) (v1 - v16) v16) = 0 → ¬ v10 = 0 → ¬ (R_L_slot  F1 A1 v13 (v3 - v16) v16) = 0 → (en_reopen F1 A1 ).isSome = true) (h34 : (f_getLastPrice F1) = v17 → (f_getLastVolume F1) = v16 → (f_getPhase F1) = (1 : Int32) → (R_accountBought F1 A1 (0 : Int32)) = v16 → (R_accountSold F1 A1 (1 : Int32)) = v16 → ¬ v9 = 0 → ¬ (R_L_slot  F1 A1 (0 : Int32) (v1 - v16) v16) = 0 → ¬ v10 = 0 → ¬ (R_L_slot  F1 A1 v13 (v3 - v16) v16) = 0 → (R_reopen F1 A1 ).1 = 0 → Wk l Z (MoL Z cdC "AuctionCrossL3" false) md_L_law 410 [.unset, .unset, .unset, .unset, .unset, .val (.ref 1), .val (.int v6), .unset, .unset, .unset, .unset, .unset, .unset, .unset, .unset, .unset, .val (.int v16), .val (.int v17)] [] (sl, sv, [(11, (R_reopen F1 A1 ).2.1, G1, (R_reopen F1 A1 ).2.2, B1)]) 12 1012 Q) (h35 : (f_getLastPrice F1) = v17 → (f_getLastVolume F1) = v16 → (f_getPhase F1) = (1 : Int32) → (R_accountBought F1 A1 (0 : Int32)) = v16 → (R_accountSold F1 A1 (1 : Int32)) = v16 → ¬ v9 = 0 → ¬ (R_L_slot  F1 A1 (0 : Int32) (v1 - v16) v16) = 0 → ¬ v10 = 0 → ¬ (R_L_slot  F1 A1 v13 (v3 - v16) v16) = 0 → ¬ (R_reopen F1 A1 ).1 = 0 → Q (some (.int (0 : Int32))) (sl, sv, [(11, (R_reopen F1 A1 ).2.1, G1, (R_reopen F1 A1 ).2.2, B1)])) (h36 : (f_getLastPrice F1) = v17 → (f_getLastVolume F1) = v16 → (f_getPhase F1) = (1 : Int32) → (R_accountBought F1 A1 (0 : Int32)) = v16 → (R_accountSold F1 A1 (1 : Int32)) = v16 → ¬ v9 = 0 → ¬ (R_L_slot  F1 A1 (0 : Int32) (v1 - v16) v16) = 0 → ¬ v10 = 0 → (R_L_slot  F1 A1 v13 (v3 - v16) v16) = 0 → Q (some (.int (0 : Int32))) (sl, sv, [(11, F1, G1, A1, B1)])) (h37 : (f_getLastPrice F1) = v17 → (f_getLastVolume F1) = v16 → (f_getPhase F1) = (1 : Int32) → (R_accountBought F1 A1 (0 : Int32)) = v16 → (R_accountSold F1 A1 (1 : Int32)) = v16 → ¬ v9 = 0 → (R_L_slot  F1 A1 (0 : Int32) (v1 - v16) v16) = 0 → Q (some (.int (0 : Int32))) (sl, sv, [(11, F1, G1, A1, B1)])) (h38 : (f_getLastPrice F1) = v17 → (f_getLastVolume F1) = v16 → (f_getPhase F1) = (1 : Int32) → (R_accountBought F1 A1 (0 : Int32)) = v16 → ¬ (R_accountSold F1 A1 (1 : Int32)) = v16 → Q (some (.int (0 : Int32))) (sl, sv, [(11, F1, G1, A1, B1)])) (h39 : (f_getLastPrice F1) = v17 → (f_getLastVolume F1) = v16 → ¬ (f_getPhase F1) = (1 : Int32) → Q (some (.int (0 : Int32))) (sl, sv, [(11, F1, G1, A1, B1)])) (h40 : (f_getLastPrice F1) = v17 → ¬ (f_getLastVolume F1) = v16 → Q (some (.int (0 : Int32))) (sl, sv, [(11, F1, G1, A1, B1)])) :
    Wk l Z (MoL Z cdC "AuctionCrossL3" false) md_L_law 298 [.unset, .val (.int v1), .unset, .val (.int v3), .unset, .val (.ref 1), .val (.int v6), .unset, .unset, .val (.int v9), .val (.int v10), .unset, .unset, .val (.int v13), .unset, .unset, .val (.int v16), .val (.int v17)] [] (sl, sv, [(11, F1, G1, A1, B1)]) 12 1012 Q := by
  refine Wk.aload o_L_law_298 rfl ?_
  refine Wk.callLF (coC H) [] 0 [] (i' := 1) (H.w 142 rfl) (cv_getLastPrice H) o_L_law_300 (run_getLastPrice H F1 G1 A1 B1) (wt := 0) (cu' := 12) (su' := 1012) (by decide) trivial rfl rfl rfl rfl rfl rfl rfl rfl rfl rfl (ws' := [(11, F1, G1, A1, B1)]) rfl ?_
  refine Wk.iload o_L_law_303 rfl ?_
  refine Wk.icmp_ne o_L_law_305 (fun q1 => ?_) (fun q1 => ?_)
  · refine Wk.iconst o_L_law_318 (z := (0 : Int32)) (by decide) ?_
    exact Wk.zreturn mrL rfl o_L_law_319 rfl (by decide) (by decide) (y := (0 : Int32)) (by decide) (h2 q1)
  · refine Wk.aload o_L_law_308 rfl ?_
    refine Wk.callLF (coC H) [] 0 [] (i' := 1) (H.w 147 rfl) (cv_getLastVolume H) o_L_law_310 (run_getLastVolume H F1 G1 A1 B1) (wt := 0) (cu' := 12) (su' := 1012) (by decide) trivial rfl rfl rfl rfl rfl rfl rfl rfl rfl rfl (ws' := [(11, F1, G1, A1, B1)]) rfl ?_
    refine Wk.iload o_L_law_313 rfl ?_
    refine Wk.icmp_eq o_L_law_315 (fun q3 => ?_) (fun q3 => ?_)
    · refine Wk.aload o_L_law_320 rfl ?_
      refine Wk.callLF (coC H) [] 0 [] (i' := 1) (H.w 152 rfl) (cv_getPhase H) o_L_law_322 (run_getPhase H F1 G1 A1 B1) (wt := 0) (cu' := 12) (su' := 1012) (by decide) trivial rfl rfl rfl rfl rfl rfl rfl rfl rfl rfl (ws' := [(11, F1, G1, A1, B1)]) rfl ?_
      refine Wk.iconst o_L_law_325 (z := (1 : Int32)) (by decide) ?_
      refine Wk.icmp_eq o_L_law_326 (fun q4 => ?_) (fun q4 => ?_)
      · refine Wk.aload o_L_law_331 rfl ?_
        refine Wk.iconst o_L_law_333 (z := (0 : Int32)) (by decide) ?_
        refine Wk.callLF (coC H) [.int (0 : Int32)] 0 [] (i' := 1) (H.w 157 rfl) (cv_accountBought H) o_L_law_334 (run_accountBought H F1 G1 A1 B1 (0 : Int32) (s5 q1 q3 q4)) (wt := 0) (cu' := 12) (su' := 1012) (by decide) trivial rfl rfl rfl rfl rfl rfl rfl rfl rfl rfl (ws' := [(11, F1, G1, A1, B1)]) rfl ?_
        refine Wk.iload o_L_law_337 rfl ?_
        refine Wk.icmp_ne o_L_law_339 (fun q6 => ?_) (fun q6 => ?_)
        · refine Wk.iconst o_L_law_353 (z := (0 : Int32)) (by decide) ?_
          exact Wk.zreturn mrL rfl o_L_law_354 rfl (by decide) (by decide) (y := (0 : Int32)) (by decide) (h7 q1 q3 q4 q6)
        · refine Wk.aload o_L_law_342 rfl ?_
          refine Wk.iconst o_L_law_344 (z := (1 : Int32)) (by decide) ?_
          refine Wk.callLF (coC H) [.int (1 : Int32)] 0 [] (i' := 1) (H.w 162 rfl) (cv_accountSold H) o_L_law_345 (run_accountSold H F1 G1 A1 B1 (1 : Int32) (s8 q1 q3 q4 q6)) (wt := 0) (cu' := 12) (su' := 1012) (by decide) trivial rfl rfl rfl rfl rfl rfl rfl rfl rfl rfl (ws' := [(11, F1, G1, A1, B1)]) rfl ?_
          refine Wk.iload o_L_law_348 rfl ?_
          refine Wk.icmp_eq o_L_law_350 (fun q9 => ?_) (fun q9 => ?_)
          · refine Wk.iload o_L_law_355 rfl ?_
            refine Wk.if_eq o_L_law_357 (fun q10 => ?_) (fun q10 => ?_)
            · refine Wk.iload o_L_law_377 rfl ?_
              refine Wk.if_eq o_L_law_379 (fun q11 => ?_) (fun q11 => ?_)
              · refine Wk.aload o_L_law_400 rfl ?_
                refine Wk.callLF (coC H) [] 0 [] (i' := 1) (H.w 175 rfl) (cv_reopen H) o_L_law_402 (run_reopen H F1 G1 A1 B1 (s12 q1 q3 q4 q6 q9 q10 q11)) (wt := 0) (cu' := 12) (su' := 1012) (by decide) trivial rfl rfl rfl rfl rfl rfl rfl rfl rfl rfl (ws' := [(11, (R_reopen F1 A1 ).2.1, G1, (R_reopen F1 A1 ).2.2, B1)]) rfl ?_
                refine Wk.if_eq o_L_law_405 (fun q13 => ?_) (fun q13 => ?_)
                · refine Wk.forget [false, true, false, true, false, false, false, false, false, true, true, false, false, true, false, false, false, false] (L' := [.unset, .unset, .unset, .unset, .unset, .val (.ref 1), .val (.int v6), .unset, .unset, .unset, .unset, .unset, .unset, .unset, .unset, .unset, .val (.int v16), .val (.int v17)]) rfl rfl ?_
                  exact (h14 q1 q3 q4 q6 q9 q10 q11 q13)
                · refine Wk.iconst o_L_law_408 (z := (0 : Int32)) (by decide) ?_
                  exact Wk.zreturn mrL rfl o_L_law_409 rfl (by decide) (by decide) (y := (0 : Int32)) (by decide) (h15 q1 q3 q4 q6 q9 q10 q11 q13)
              · refine Wk.aload o_L_law_382 rfl ?_
                refine Wk.iload o_L_law_384 rfl ?_
                refine Wk.iloadN o_L_law_386 rfl ?_
                refine Wk.iload o_L_law_387 rfl ?_
                refine Wk.isub o_L_law_389 ?_
                refine Wk.iload o_L_law_390 rfl ?_
                refine Wk.callSF mtL [.ref 1, .int v13, .int (v3 - v16), .int v16] [] (H.w 167 rfl) (cv_L_slot H) o_L_law_392 (run_L_slot H sl sv F1 G1 A1 B1 v13 (v3 - v16) v16 (s16 q1 q3 q4 q6 q9 q10 q11)) (wt := 0) (cu' := 12) (su' := 1012) (by decide) rfl rfl rfl rfl rfl rfl ?_
                refine Wk.if_ne o_L_law_395 (fun q17 => ?_) (fun q17 => ?_)
                · refine Wk.aload o_L_law_400 rfl ?_
                  refine Wk.callLF (coC H) [] 0 [] (i' := 1) (H.w 175 rfl) (cv_reopen H) o_L_law_402 (run_reopen H F1 G1 A1 B1 (s18 q1 q3 q4 q6 q9 q10 q11 q17)) (wt := 0) (cu' := 12) (su' := 1012) (by decide) trivial rfl rfl rfl rfl rfl rfl rfl rfl rfl rfl (ws' := [(11, (R_reopen F1 A1 ).2.1, G1, (R_reopen F1 A1 ).2.2, B1)]) rfl ?_
                  refine Wk.if_eq o_L_law_405 (fun q19 => ?_) (fun q19 => ?_)
                  · refine Wk.forget [false, true, false, true, false, false, false, false, false, true, true, false, false, true, false, false, false, false] (L' := [.unset, .unset, .unset, .unset, .unset, .val (.ref 1), .val (.int v6), .unset, .unset, .unset, .unset, .unset, .unset, .unset, .unset, .unset, .val (.int v16), .val (.int v17)]) rfl rfl ?_
                    exact (h20 q1 q3 q4 q6 q9 q10 q11 q17 q19)
                  · refine Wk.iconst o_L_law_408 (z := (0 : Int32)) (by decide) ?_
                    exact Wk.zreturn mrL rfl o_L_law_409 rfl (by decide) (by decide) (y := (0 : Int32)) (by decide) (h21 q1 q3 q4 q6 q9 q10 q11 q17 q19)
                · refine Wk.iconst o_L_law_398 (z := (0 : Int32)) (by decide) ?_
                  exact Wk.zreturn mrL rfl o_L_law_399 rfl (by decide) (by decide) (y := (0 : Int32)) (by decide) (h22 q1 q3 q4 q6 q9 q10 q11 q17)
            · refine Wk.aload o_L_law_360 rfl ?_
              refine Wk.iconst o_L_law_362 (z := (0 : Int32)) (by decide) ?_
              refine Wk.iloadN o_L_law_363 rfl ?_
              refine Wk.iload o_L_law_364 rfl ?_
              refine Wk.isub o_L_law_366 ?_
              refine Wk.iload o_L_law_367 rfl ?_
              refine Wk.callSF mtL [.ref 1, .int (0 : Int32), .int (v1 - v16), .int v16] [] (H.w 167 rfl) (cv_L_slot H) o_L_law_369 (run_L_slot H sl sv F1 G1 A1 B1 (0 : Int32) (v1 - v16) v16 (s23 q1 q3 q4 q6 q9 q10)) (wt := 0) (cu' := 12) (su' := 1012) (by decide) rfl rfl rfl rfl rfl rfl ?_
              refine Wk.if_ne o_L_law_372 (fun q24 => ?_) (fun q24 => ?_)
              · refine Wk.iload o_L_law_377 rfl ?_
                refine Wk.if_eq o_L_law_379 (fun q25 => ?_) (fun q25 => ?_)
                · refine Wk.aload o_L_law_400 rfl ?_
                  refine Wk.callLF (coC H) [] 0 [] (i' := 1) (H.w 175 rfl) (cv_reopen H) o_L_law_402 (run_reopen H F1 G1 A1 B1 (s26 q1 q3 q4 q6 q9 q10 q24 q25)) (wt := 0) (cu' := 12) (su' := 1012) (by decide) trivial rfl rfl rfl rfl rfl rfl rfl rfl rfl rfl (ws' := [(11, (R_reopen F1 A1 ).2.1, G1, (R_reopen F1 A1 ).2.2, B1)]) rfl ?_
                  refine Wk.if_eq o_L_law_405 (fun q27 => ?_) (fun q27 => ?_)
                  · refine Wk.forget [false, true, false, true, false, false, false, false, false, true, true, false, false, true, false, false, false, false] (L' := [.unset, .unset, .unset, .unset, .unset, .val (.ref 1), .val (.int v6), .unset, .unset, .unset, .unset, .unset, .unset, .unset, .unset, .unset, .val (.int v16), .val (.int v17)]) rfl rfl ?_
                    exact (h28 q1 q3 q4 q6 q9 q10 q24 q25 q27)
                  · refine Wk.iconst o_L_law_408 (z := (0 : Int32)) (by decide) ?_
                    exact Wk.zreturn mrL rfl o_L_law_409 rfl (by decide) (by decide) (y := (0 : Int32)) (by decide) (h29 q1 q3 q4 q6 q9 q10 q24 q25 q27)
                · refine Wk.aload o_L_law_382 rfl ?_
                  refine Wk.iload o_L_law_384 rfl ?_
                  refine Wk.iloadN o_L_law_386 rfl ?_
                  refine Wk.iload o_L_law_387 rfl ?_
                  refine Wk.isub o_L_law_389 ?_
                  refine Wk.iload o_L_law_390 rfl ?_
                  refine Wk.callSF mtL [.ref 1, .int v13, .int (v3 - v16), .int v16] [] (H.w 167 rfl) (cv_L_slot H) o_L_law_392 (run_L_slot H sl sv F1 G1 A1 B1 v13 (v3 - v16) v16 (s30 q1 q3 q4 q6 q9 q10 q24 q25)) (wt := 0) (cu' := 12) (su' := 1012) (by decide) rfl rfl rfl rfl rfl rfl ?_
                  refine Wk.if_ne o_L_law_395 (fun q31 => ?_) (fun q31 => ?_)
                  · refine Wk.aload o_L_law_400 rfl ?_
                    refine Wk.callLF (coC H) [] 0 [] (i' := 1) (H.w 175 rfl) (cv_reopen H) o_L_law_402 (run_reopen H F1 G1 A1 B1 (s32 q1 q3 q4 q6 q9 q10 q24 q25 q31)) (wt := 0) (cu' := 12) (su' := 1012) (by decide) trivial rfl rfl rfl rfl rfl rfl rfl rfl rfl rfl (ws' := [(11, (R_reopen F1 A1 ).2.1, G1, (R_reopen F1 A1 ).2.2, B1)]) rfl ?_
                    refine Wk.if_eq o_L_law_405 (fun q33 => ?_) (fun q33 => ?_)
                    · refine Wk.forget [false, true, false, true, false, false, false, false, false, true, true, false, false, true, false, false, false, false] (L' := [.unset, .unset, .unset, .unset, .unset, .val (.ref 1), .val (.int v6), .unset, .unset, .unset, .unset, .unset, .unset, .unset, .unset, .unset, .val (.int v16), .val (.int v17)]) rfl rfl ?_
                      exact (h34 q1 q3 q4 q6 q9 q10 q24 q25 q31 q33)
                    · refine Wk.iconst o_L_law_408 (z := (0 : Int32)) (by decide) ?_
                      exact Wk.zreturn mrL rfl o_L_law_409 rfl (by decide) (by decide) (y := (0 : Int32)) (by decide) (h35 q1 q3 q4 q6 q9 q10 q24 q25 q31 q33)
                  · refine Wk.iconst o_L_law_398 (z := (0 : Int32)) (by decide) ?_
                    exact Wk.zreturn mrL rfl o_L_law_399 rfl (by decide) (by decide) (y := (0 : Int32)) (by decide) (h36 q1 q3 q4 q6 q9 q10 q24 q25 q31)
              · refine Wk.iconst o_L_law_375 (z := (0 : Int32)) (by decide) ?_
                exact Wk.zreturn mrL rfl o_L_law_376 rfl (by decide) (by decide) (y := (0 : Int32)) (by decide) (h37 q1 q3 q4 q6 q9 q10 q24)
          · refine Wk.iconst o_L_law_353 (z := (0 : Int32)) (by decide) ?_
            exact Wk.zreturn mrL rfl o_L_law_354 rfl (by decide) (by decide) (y := (0 : Int32)) (by decide) (h38 q1 q3 q4 q6 q9)
      · refine Wk.iconst o_L_law_329 (z := (0 : Int32)) (by decide) ?_
        exact Wk.zreturn mrL rfl o_L_law_330 rfl (by decide) (by decide) (y := (0 : Int32)) (by decide) (h39 q1 q3 q4)
    · refine Wk.iconst o_L_law_318 (z := (0 : Int32)) (by decide) ?_
      exact Wk.zreturn mrL rfl o_L_law_319 rfl (by decide) (by decide) (y := (0 : Int32)) (by decide) (h40 q1 q3)

set_option maxRecDepth 65536 in
set_option maxHeartbeats 4000000 in
theorem wp_L_law_410 {l : Launch} {Z : State} {a0 : Array Value} (H : OK Z a0) (sl : Int32) (sv : Int32 → Int32) (F1 : Nat → Int32) (G1 : Nat → Int64) (A1 : Nat → Int32 → Int32) (B1 : Nat → Int32 → Int64) (v6 : Int32) (v16 : Int32) (v17 : Int32) {Q : Option Value → WL → Prop} (s4 : (f_getReference F1) = (if 0 < v16 then v17 else v6) → (en_accountBought F1 A1 (0 : Int32)).isSome = true) (h9 : (f_getReference F1) = (if 0 < v16 then v17 else v6) → Q (some (.int (nar .boolean (if (R_accountBought F1 A1 (0 : Int32)) = 0 then (if (f_getLastVolume F1) = 0 then (1 : Int32) else (0 : Int32)) else (0 : Int32))))) (sl, sv, [(11, F1, G1, A1, B1)])) (h10 : ¬ (f_getReference F1) = (if 0 < v16 then v17 else v6) → Q (some (.int (0 : Int32))) (sl, sv, [(11, F1, G1, A1, B1)])) :
    Wk l Z (MoL Z cdC "AuctionCrossL3" false) md_L_law 410 [.unset, .unset, .unset, .unset, .unset, .val (.ref 1), .val (.int v6), .unset, .unset, .unset, .unset, .unset, .unset, .unset, .unset, .unset, .val (.int v16), .val (.int v17)] [] (sl, sv, [(11, F1, G1, A1, B1)]) 12 1012 Q := by
  refine Wk.aload o_L_law_410 rfl ?_
  refine Wk.callLF (coC H) [] 0 [] (i' := 1) (H.w 184 rfl) (cv_getReference H) o_L_law_412 (run_getReference H F1 G1 A1 B1) (wt := 0) (cu' := 12) (su' := 1012) (by decide) trivial rfl rfl rfl rfl rfl rfl rfl rfl rfl rfl (ws' := [(11, F1, G1, A1, B1)]) rfl ?_
  refine Wk.iload o_L_law_415 rfl ?_
  have J2 : Wk l Z (MoL Z cdC "AuctionCrossL3" false) md_L_law 427 [.unset, .unset, .unset, .unset, .unset, .val (.ref 1), .val (.int v6), .unset, .unset, .unset, .unset, .unset, .unset, .unset, .unset, .unset, .val (.int v16), .val (.int v17)] [.int (if 0 < v16 then v17 else v6), .int (f_getReference F1)] (sl, sv, [(11, F1, G1, A1, B1)]) 12 1012 Q := by
    refine Wk.icmp_eq o_L_law_427 (fun q3 => ?_) (fun q3 => ?_)
    · refine Wk.aload o_L_law_432 rfl ?_
      refine Wk.iconst o_L_law_434 (z := (0 : Int32)) (by decide) ?_
      refine Wk.callLF (coC H) [.int (0 : Int32)] 0 [] (i' := 1) (H.w 157 rfl) (cv_accountBought H) o_L_law_435 (run_accountBought H F1 G1 A1 B1 (0 : Int32) (s4 q3)) (wt := 0) (cu' := 12) (su' := 1012) (by decide) trivial rfl rfl rfl rfl rfl rfl rfl rfl rfl rfl (ws' := [(11, F1, G1, A1, B1)]) rfl ?_
      have J8 : Wk l Z (MoL Z cdC "AuctionCrossL3" false) md_L_law 454 [.unset, .unset, .unset, .unset, .unset, .val (.ref 1), .val (.int v6), .unset, .unset, .unset, .unset, .unset, .unset, .unset, .unset, .unset, .val (.int v16), .val (.int v17)] [.int (if (R_accountBought F1 A1 (0 : Int32)) = 0 then (if (f_getLastVolume F1) = 0 then (1 : Int32) else (0 : Int32)) else (0 : Int32))] (sl, sv, [(11, F1, G1, A1, B1)]) 12 1012 Q := by
        exact Wk.zreturn mrL rfl o_L_law_454 rfl (by decide) (by decide) (y := (nar .boolean (if (R_accountBought F1 A1 (0 : Int32)) = 0 then (if (f_getLastVolume F1) = 0 then (1 : Int32) else (0 : Int32)) else (0 : Int32)))) rfl (h9 q3)
      refine Wk.if_ne o_L_law_438 (fun q5 => ?_) (fun q5 => ?_)
      · refine Wk.iconst o_L_law_453 (z := (0 : Int32)) (by decide) ?_
        first | (rw [show ((if (R_accountBought F1 A1 (0 : Int32)) = 0 then (if (f_getLastVolume F1) = 0 then (1 : Int32) else (0 : Int32)) else (0 : Int32)) : Int32) = (0 : Int32) from if_neg q5] at J8; exact J8) | exact J8 | (simp only [if_neg q5] at J8 ⊢; exact J8)
      · refine Wk.aload o_L_law_441 rfl ?_
        refine Wk.callLF (coC H) [] 0 [] (i' := 1) (H.w 147 rfl) (cv_getLastVolume H) o_L_law_443 (run_getLastVolume H F1 G1 A1 B1) (wt := 0) (cu' := 12) (su' := 1012) (by decide) trivial rfl rfl rfl rfl rfl rfl rfl rfl rfl rfl (ws' := [(11, F1, G1, A1, B1)]) rfl ?_
        refine Wk.if_ne o_L_law_446 (fun q6 => ?_) (fun q6 => ?_)
        · refine Wk.iconst o_L_law_453 (z := (0 : Int32)) (by decide) ?_
          first | (rw [show ((if (R_accountBought F1 A1 (0 : Int32)) = 0 then (if (f_getLastVolume F1) = 0 then (1 : Int32) else (0 : Int32)) else (0 : Int32)) : Int32) = (0 : Int32) from Eq.trans (if_pos q5) <| if_neg q6] at J8; exact J8) | exact J8 | (simp only [if_pos q5, if_neg q6] at J8 ⊢; exact J8)
        · refine Wk.iconst o_L_law_449 (z := (1 : Int32)) (by decide) ?_
          refine Wk.goto o_L_law_450 ?_
          first | (rw [show ((if (R_accountBought F1 A1 (0 : Int32)) = 0 then (if (f_getLastVolume F1) = 0 then (1 : Int32) else (0 : Int32)) else (0 : Int32)) : Int32) = (1 : Int32) from Eq.trans (if_pos q5) <| if_pos q6] at J8; exact J8) | exact J8 | (simp only [if_pos q5, if_pos q6] at J8 ⊢; exact J8)
    · refine Wk.iconst o_L_law_430 (z := (0 : Int32)) (by decide) ?_
      exact Wk.zreturn mrL rfl o_L_law_431 rfl (by decide) (by decide) (y := (0 : Int32)) (by decide) (h10 q3)
  refine Wk.if_le o_L_law_417 (fun q1 => ?_) (fun q1 => ?_)
  · refine Wk.iload o_L_law_425 rfl ?_
    first | (rw [show ((if 0 < v16 then v17 else v6) : Int32) = v6 from if_neg q1] at J2; exact J2) | exact J2 | (simp only [if_neg q1] at J2 ⊢; exact J2)
  · refine Wk.iload o_L_law_420 rfl ?_
    refine Wk.goto o_L_law_422 ?_
    first | (rw [show ((if 0 < v16 then v17 else v6) : Int32) = v17 from if_pos q1] at J2; exact J2) | exact J2 | (simp only [if_pos q1] at J2 ⊢; exact J2)

theorem rt_law {v r : Int32} (e : v = r) : some (Value.int v) = some (Value.int r) := by rw [e]
def lp_L_law : Nat → Nat → Int32 → Int32 → Int32 → Int32 → Int32 → Int32 → Int32 → Int32 → Int32 → Int32 → Int32 → Int32 → Int32 → Int32 → Int32 → (Nat → Int32) → (Nat → Int32 → Int32) → Option (Int32)
  | 0, _, _, _, _, _, _, _, _, _, _, _, _, _, _, _, _, _, _ => none
  | n + 1, tag, v0, v1, v2, v3, v4, v6, v7, v8, v9, v10, v11, v12, v13, v16, v17, F1, A1 => if tag = 14 then (if ((en_submit F1 A1 (0 : Int32) (0 : Int32) v0 v1).isSome = true) then lp_L_law n 91 v0 v1 v2 v3 0 (if v4 < (1 : Int32) then (1 : Int32) else (if (255 : Int32) < v4 then (255 : Int32) else v4)) (f_L_err v0 v1) (f_L_err v2 v3) (if (f_L_err v0 v1) = 0 then (1 : Int32) else (0 : Int32)) (if (f_L_err v2 v3) = 0 then (1 : Int32) else (0 : Int32)) (R_submit F1 A1 (0 : Int32) (0 : Int32) v0 v1).1 0 0 0 0 (R_submit F1 A1 (0 : Int32) (0 : Int32) v0 v1).2.1 (R_submit F1 A1 (0 : Int32) (0 : Int32) v0 v1).2.2 else none) else if tag = 91 then (if ((en_submit F1 A1 (1 : Int32) (1 : Int32) v2 v3).isSome = true) then lp_L_law n 102 v0 v1 v2 v3 0 v6 v7 v8 v9 v10 v11 (R_submit F1 A1 (1 : Int32) (1 : Int32) v2 v3).1 0 0 0 (R_submit F1 A1 (1 : Int32) (1 : Int32) v2 v3).2.1 (R_submit F1 A1 (1 : Int32) (1 : Int32) v2 v3).2.2 else none) else if tag = 102 then (if v11 = (if v9 = 0 then v7 else (0 : Int32)) then (if v12 = (if v10 = 0 then v8 else (if v9 = 0 then (0 : Int32) else (1 : Int32))) then (if ((en_indicativeVolume F1 A1 ).isSome = true) then (if (R_indicativeVolume F1 A1 ).1 = (if v9 = 0 then (0 : Int32) else (if v10 = 0 then (0 : Int32) else (if (if v0 = 0 then (255 : Int32) else v0) < (if v2 = 0 then (1 : Int32) else v2) then (0 : Int32) else (if v1 < v3 then v1 else v3)))) then lp_L_law n 274 0 v1 0 v3 0 v6 0 0 v9 v10 0 0 (if v9 = 0 then (0 : Int32) else (1 : Int32)) (if v9 = 0 then (0 : Int32) else (if v10 = 0 then (0 : Int32) else (if (if v0 = 0 then (255 : Int32) else v0) < (if v2 = 0 then (1 : Int32) else v2) then (0 : Int32) else (if v1 < v3 then v1 else v3)))) (if v9 = 0 then (0 : Int32) else (if v10 = 0 then (0 : Int32) else (if (if v0 = 0 then (255 : Int32) else v0) < (if v2 = 0 then (1 : Int32) else v2) then (0 : Int32) else (if v3 < v1 then (if v0 = 0 then (255 : Int32) else v0) else (if v1 < v3 then (if v2 = 0 then (1 : Int32) else v2) else (if v6 < (if v2 = 0 then (1 : Int32) else v2) then (if v2 = 0 then (1 : Int32) else v2) else (if (if v0 = 0 then (255 : Int32) else v0) < v6 then (if v0 = 0 then (255 : Int32) else v0) else v6))))))) F1 (R_indicativeVolume F1 A1 ).2 else some ((0 : Int32))) else none) else some ((0 : Int32))) else some ((0 : Int32))) else if tag = 274 then (if ((en_indicativePrice F1 A1 ).isSome = true) then (if (R_indicativePrice F1 A1 ).1 = v17 then lp_L_law n 286 0 v1 0 v3 0 v6 0 0 v9 v10 0 0 v13 v16 v17 F1 (R_indicativePrice F1 A1 ).2 else some ((0 : Int32))) else none) else if tag = 286 then (if ((en_uncross F1 A1 ).isSome = true) then (if (R_uncross F1 A1 ).1 = v16 then lp_L_law n 298 0 v1 0 v3 0 v6 0 0 v9 v10 0 0 v13 v16 v17 (R_uncross F1 A1 ).2.1 (R_uncross F1 A1 ).2.2 else some ((0 : Int32))) else none) else if tag = 298 then (if (f_getLastPrice F1) = v17 then (if (f_getLastVolume F1) = v16 then (if (f_getPhase F1) = (1 : Int32) then (if ((en_accountBought F1 A1 (0 : Int32)).isSome = true) then (if (R_accountBought F1 A1 (0 : Int32)) = v16 then (if ((en_accountSold F1 A1 (1 : Int32)).isSome = true) then (if (R_accountSold F1 A1 (1 : Int32)) = v16 then (if v9 = 0 then (if v10 = 0 then (if ((en_reopen F1 A1 ).isSome = true) then (if (R_reopen F1 A1 ).1 = 0 then lp_L_law n 410 0 0 0 0 0 v6 0 0 0 0 0 0 0 v16 v17 (R_reopen F1 A1 ).2.1 (R_reopen F1 A1 ).2.2 else some ((0 : Int32))) else none) else (if ((en_L_slot  F1 A1 v13 (v3 - v16) v16).isSome = true) then (if (R_L_slot  F1 A1 v13 (v3 - v16) v16) = 0 then some ((0 : Int32)) else (if ((en_reopen F1 A1 ).isSome = true) then (if (R_reopen F1 A1 ).1 = 0 then lp_L_law n 410 0 0 0 0 0 v6 0 0 0 0 0 0 0 v16 v17 (R_reopen F1 A1 ).2.1 (R_reopen F1 A1 ).2.2 else some ((0 : Int32))) else none)) else none)) else (if ((en_L_slot  F1 A1 (0 : Int32) (v1 - v16) v16).isSome = true) then (if (R_L_slot  F1 A1 (0 : Int32) (v1 - v16) v16) = 0 then some ((0 : Int32)) else (if v10 = 0 then (if ((en_reopen F1 A1 ).isSome = true) then (if (R_reopen F1 A1 ).1 = 0 then lp_L_law n 410 0 0 0 0 0 v6 0 0 0 0 0 0 0 v16 v17 (R_reopen F1 A1 ).2.1 (R_reopen F1 A1 ).2.2 else some ((0 : Int32))) else none) else (if ((en_L_slot  F1 A1 v13 (v3 - v16) v16).isSome = true) then (if (R_L_slot  F1 A1 v13 (v3 - v16) v16) = 0 then some ((0 : Int32)) else (if ((en_reopen F1 A1 ).isSome = true) then (if (R_reopen F1 A1 ).1 = 0 then lp_L_law n 410 0 0 0 0 0 v6 0 0 0 0 0 0 0 v16 v17 (R_reopen F1 A1 ).2.1 (R_reopen F1 A1 ).2.2 else some ((0 : Int32))) else none)) else none))) else none)) else some ((0 : Int32))) else none) else some ((0 : Int32))) else none) else some ((0 : Int32))) else some ((0 : Int32))) else some ((0 : Int32))) else if tag = 410 then (if (f_getReference F1) = (if 0 < v16 then v17 else v6) then (if ((en_accountBought F1 A1 (0 : Int32)).isSome = true) then some ((nar .boolean (if (R_accountBought F1 A1 (0 : Int32)) = 0 then (if (f_getLastVolume F1) = 0 then (1 : Int32) else (0 : Int32)) else (0 : Int32)))) else none) else some ((0 : Int32))) else none
theorem lp_L_law_z (tag : Nat) (v0 : Int32) (v1 : Int32) (v2 : Int32) (v3 : Int32) (v4 : Int32) (v6 : Int32) (v7 : Int32) (v8 : Int32) (v9 : Int32) (v10 : Int32) (v11 : Int32) (v12 : Int32) (v13 : Int32) (v16 : Int32) (v17 : Int32) (F1 : Nat → Int32) (A1 : Nat → Int32 → Int32) : lp_L_law 0 tag  v0 v1 v2 v3 v4 v6 v7 v8 v9 v10 v11 v12 v13 v16 v17 F1 A1 = none := Eq.trans rfl rfl
theorem lp_L_law_14 (n : Nat) (v0 : Int32) (v1 : Int32) (v2 : Int32) (v3 : Int32) (v4 : Int32) (v6 : Int32) (v7 : Int32) (v8 : Int32) (v9 : Int32) (v10 : Int32) (v11 : Int32) (v12 : Int32) (v13 : Int32) (v16 : Int32) (v17 : Int32) (F1 : Nat → Int32) (A1 : Nat → Int32 → Int32) : lp_L_law (n + 1) 14  v0 v1 v2 v3 v4 v6 v7 v8 v9 v10 v11 v12 v13 v16 v17 F1 A1 = (if ((en_submit F1 A1 (0 : Int32) (0 : Int32) v0 v1).isSome = true) then lp_L_law n 91 v0 v1 v2 v3 0 (if v4 < (1 : Int32) then (1 : Int32) else (if (255 : Int32) < v4 then (255 : Int32) else v4)) (f_L_err v0 v1) (f_L_err v2 v3) (if (f_L_err v0 v1) = 0 then (1 : Int32) else (0 : Int32)) (if (f_L_err v2 v3) = 0 then (1 : Int32) else (0 : Int32)) (R_submit F1 A1 (0 : Int32) (0 : Int32) v0 v1).1 0 0 0 0 (R_submit F1 A1 (0 : Int32) (0 : Int32) v0 v1).2.1 (R_submit F1 A1 (0 : Int32) (0 : Int32) v0 v1).2.2 else none) := by
  rw [lp_L_law, if_pos rfl]
theorem lp_L_law_91 (n : Nat) (v0 : Int32) (v1 : Int32) (v2 : Int32) (v3 : Int32) (v4 : Int32) (v6 : Int32) (v7 : Int32) (v8 : Int32) (v9 : Int32) (v10 : Int32) (v11 : Int32) (v12 : Int32) (v13 : Int32) (v16 : Int32) (v17 : Int32) (F1 : Nat → Int32) (A1 : Nat → Int32 → Int32) : lp_L_law (n + 1) 91  v0 v1 v2 v3 v4 v6 v7 v8 v9 v10 v11 v12 v13 v16 v17 F1 A1 = (if ((en_submit F1 A1 (1 : Int32) (1 : Int32) v2 v3).isSome = true) then lp_L_law n 102 v0 v1 v2 v3 0 v6 v7 v8 v9 v10 v11 (R_submit F1 A1 (1 : Int32) (1 : Int32) v2 v3).1 0 0 0 (R_submit F1 A1 (1 : Int32) (1 : Int32) v2 v3).2.1 (R_submit F1 A1 (1 : Int32) (1 : Int32) v2 v3).2.2 else none) := by
  rw [lp_L_law, if_neg (by decide), if_pos rfl]
theorem lp_L_law_102 (n : Nat) (v0 : Int32) (v1 : Int32) (v2 : Int32) (v3 : Int32) (v4 : Int32) (v6 : Int32) (v7 : Int32) (v8 : Int32) (v9 : Int32) (v10 : Int32) (v11 : Int32) (v12 : Int32) (v13 : Int32) (v16 : Int32) (v17 : Int32) (F1 : Nat → Int32) (A1 : Nat → Int32 → Int32) : lp_L_law (n + 1) 102  v0 v1 v2 v3 v4 v6 v7 v8 v9 v10 v11 v12 v13 v16 v17 F1 A1 = (if v11 = (if v9 = 0 then v7 else (0 : Int32)) then (if v12 = (if v10 = 0 then v8 else (if v9 = 0 then (0 : Int32) else (1 : Int32))) then (if ((en_indicativeVolume F1 A1 ).isSome = true) then (if (R_indicativeVolume F1 A1 ).1 = (if v9 = 0 then (0 : Int32) else (if v10 = 0 then (0 : Int32) else (if (if v0 = 0 then (255 : Int32) else v0) < (if v2 = 0 then (1 : Int32) else v2) then (0 : Int32) else (if v1 < v3 then v1 else v3)))) then lp_L_law n 274 0 v1 0 v3 0 v6 0 0 v9 v10 0 0 (if v9 = 0 then (0 : Int32) else (1 : Int32)) (if v9 = 0 then (0 : Int32) else (if v10 = 0 then (0 : Int32) else (if (if v0 = 0 then (255 : Int32) else v0) < (if v2 = 0 then (1 : Int32) else v2) then (0 : Int32) else (if v1 < v3 then v1 else v3)))) (if v9 = 0 then (0 : Int32) else (if v10 = 0 then (0 : Int32) else (if (if v0 = 0 then (255 : Int32) else v0) < (if v2 = 0 then (1 : Int32) else v2) then (0 : Int32) else (if v3 < v1 then (if v0 = 0 then (255 : Int32) else v0) else (if v1 < v3 then (if v2 = 0 then (1 : Int32) else v2) else (if v6 < (if v2 = 0 then (1 : Int32) else v2) then (if v2 = 0 then (1 : Int32) else v2) else (if (if v0 = 0 then (255 : Int32) else v0) < v6 then (if v0 = 0 then (255 : Int32) else v0) else v6))))))) F1 (R_indicativeVolume F1 A1 ).2 else some ((0 : Int32))) else none) else some ((0 : Int32))) else some ((0 : Int32))) := by
  rw [lp_L_law, if_neg (by decide), if_neg (by decide), if_pos rfl]
theorem lp_L_law_274 (n : Nat) (v0 : Int32) (v1 : Int32) (v2 : Int32) (v3 : Int32) (v4 : Int32) (v6 : Int32) (v7 : Int32) (v8 : Int32) (v9 : Int32) (v10 : Int32) (v11 : Int32) (v12 : Int32) (v13 : Int32) (v16 : Int32) (v17 : Int32) (F1 : Nat → Int32) (A1 : Nat → Int32 → Int32) : lp_L_law (n + 1) 274  v0 v1 v2 v3 v4 v6 v7 v8 v9 v10 v11 v12 v13 v16 v17 F1 A1 = (if ((en_indicativePrice F1 A1 ).isSome = true) then (if (R_indicativePrice F1 A1 ).1 = v17 then lp_L_law n 286 0 v1 0 v3 0 v6 0 0 v9 v10 0 0 v13 v16 v17 F1 (R_indicativePrice F1 A1 ).2 else some ((0 : Int32))) else none) := by
  rw [lp_L_law, if_neg (by decide), if_neg (by decide), if_neg (by decide), if_pos rfl]
theorem lp_L_law_286 (n : Nat) (v0 : Int32) (v1 : Int32) (v2 : Int32) (v3 : Int32) (v4 : Int32) (v6 : Int32) (v7 : Int32) (v8 : Int32) (v9 : Int32) (v10 : Int32) (v11 : Int32) (v12 : Int32) (v13 : Int32) (v16 : Int32) (v17 : Int32) (F1 : Nat → Int32) (A1 : Nat → Int32 → Int32) : lp_L_law (n + 1) 286  v0 v1 v2 v3 v4 v6 v7 v8 v9 v10 v11 v12 v13 v16 v17 F1 A1 = (if ((en_uncross F1 A1 ).isSome = true) then (if (R_uncross F1 A1 ).1 = v16 then lp_L_law n 298 0 v1 0 v3 0 v6 0 0 v9 v10 0 0 v13 v16 v17 (R_uncross F1 A1 ).2.1 (R_uncross F1 A1 ).2.2 else some ((0 : Int32))) else none) := by
  rw [lp_L_law, if_neg (by decide), if_neg (by decide), if_neg (by decide), if_neg (by decide), if_pos rfl]
theorem lp_L_law_298 (n : Nat) (v0 : Int32) (v1 : Int32) (v2 : Int32) (v3 : Int32) (v4 : Int32) (v6 : Int32) (v7 : Int32) (v8 : Int32) (v9 : Int32) (v10 : Int32) (v11 : Int32) (v12 : Int32) (v13 : Int32) (v16 : Int32) (v17 : Int32) (F1 : Nat → Int32) (A1 : Nat → Int32 → Int32) : lp_L_law (n + 1) 298  v0 v1 v2 v3 v4 v6 v7 v8 v9 v10 v11 v12 v13 v16 v17 F1 A1 = (if (f_getLastPrice F1) = v17 then (if (f_getLastVolume F1) = v16 then (if (f_getPhase F1) = (1 : Int32) then (if ((en_accountBought F1 A1 (0 : Int32)).isSome = true) then (if (R_accountBought F1 A1 (0 : Int32)) = v16 then (if ((en_accountSold F1 A1 (1 : Int32)).isSome = true) then (if (R_accountSold F1 A1 (1 : Int32)) = v16 then (if v9 = 0 then (if v10 = 0 then (if ((en_reopen F1 A1 ).isSome = true) then (if (R_reopen F1 A1 ).1 = 0 then lp_L_law n 410 0 0 0 0 0 v6 0 0 0 0 0 0 0 v16 v17 (R_reopen F1 A1 ).2.1 (R_reopen F1 A1 ).2.2 else some ((0 : Int32))) else none) else (if ((en_L_slot  F1 A1 v13 (v3 - v16) v16).isSome = true) then (if (R_L_slot  F1 A1 v13 (v3 - v16) v16) = 0 then some ((0 : Int32)) else (if ((en_reopen F1 A1 ).isSome = true) then (if (R_reopen F1 A1 ).1 = 0 then lp_L_law n 410 0 0 0 0 0 v6 0 0 0 0 0 0 0 v16 v17 (R_reopen F1 A1 ).2.1 (R_reopen F1 A1 ).2.2 else some ((0 : Int32))) else none)) else none)) else (if ((en_L_slot  F1 A1 (0 : Int32) (v1 - v16) v16).isSome = true) then (if (R_L_slot  F1 A1 (0 : Int32) (v1 - v16) v16) = 0 then some ((0 : Int32)) else (if v10 = 0 then (if ((en_reopen F1 A1 ).isSome = true) then (if (R_reopen F1 A1 ).1 = 0 then lp_L_law n 410 0 0 0 0 0 v6 0 0 0 0 0 0 0 v16 v17 (R_reopen F1 A1 ).2.1 (R_reopen F1 A1 ).2.2 else some ((0 : Int32))) else none) else (if ((en_L_slot  F1 A1 v13 (v3 - v16) v16).isSome = true) then (if (R_L_slot  F1 A1 v13 (v3 - v16) v16) = 0 then some ((0 : Int32)) else (if ((en_reopen F1 A1 ).isSome = true) then (if (R_reopen F1 A1 ).1 = 0 then lp_L_law n 410 0 0 0 0 0 v6 0 0 0 0 0 0 0 v16 v17 (R_reopen F1 A1 ).2.1 (R_reopen F1 A1 ).2.2 else some ((0 : Int32))) else none)) else none))) else none)) else some ((0 : Int32))) else none) else some ((0 : Int32))) else none) else some ((0 : Int32))) else some ((0 : Int32))) else some ((0 : Int32))) := by
  rw [lp_L_law, if_neg (by decide), if_neg (by decide), if_neg (by decide), if_neg (by decide), if_neg (by decide), if_pos rfl]
theorem lp_L_law_410 (n : Nat) (v0 : Int32) (v1 : Int32) (v2 : Int32) (v3 : Int32) (v4 : Int32) (v6 : Int32) (v7 : Int32) (v8 : Int32) (v9 : Int32) (v10 : Int32) (v11 : Int32) (v12 : Int32) (v13 : Int32) (v16 : Int32) (v17 : Int32) (F1 : Nat → Int32) (A1 : Nat → Int32 → Int32) : lp_L_law (n + 1) 410  v0 v1 v2 v3 v4 v6 v7 v8 v9 v10 v11 v12 v13 v16 v17 F1 A1 = (if (f_getReference F1) = (if 0 < v16 then v17 else v6) then (if ((en_accountBought F1 A1 (0 : Int32)).isSome = true) then some ((nar .boolean (if (R_accountBought F1 A1 (0 : Int32)) = 0 then (if (f_getLastVolume F1) = 0 then (1 : Int32) else (0 : Int32)) else (0 : Int32)))) else none) else some ((0 : Int32))) := by
  rw [lp_L_law, if_neg (by decide), if_neg (by decide), if_neg (by decide), if_neg (by decide), if_neg (by decide), if_neg (by decide), if_pos rfl]
set_option maxRecDepth 65536 in
set_option maxHeartbeats 4000000 in
theorem lpw_L_law {l : Launch} {Z : State} {a0 : Array Value} (H : OK Z a0) (sl : Int32) (sv : Int32 → Int32) (G1 : Nat → Int64) (B1 : Nat → Int32 → Int64) : ∀ (n : Nat) (v0 : Int32) (v1 : Int32) (v2 : Int32) (v3 : Int32) (v4 : Int32) (v6 : Int32) (v7 : Int32) (v8 : Int32) (v9 : Int32) (v10 : Int32) (v11 : Int32) (v12 : Int32) (v13 : Int32) (v16 : Int32) (v17 : Int32) (F1 : Nat → Int32) (A1 : Nat → Int32 → Int32) (r : Int32), (lp_L_law n 14  v0 v1 v2 v3 v4 v6 v7 v8 v9 v10 v11 v12 v13 v16 v17 F1 A1 = some r → Wk l Z (MoL Z cdC "AuctionCrossL3" false) md_L_law 14 [.val (.int v0), .val (.int v1), .val (.int v2), .val (.int v3), .val (.int v4), .val (.ref 1), .unset, .unset, .unset, .unset, .unset, .unset, .unset, .unset, .unset, .unset, .unset, .unset] [] (sl, sv, [(11, F1, G1, A1, B1)]) 12 1012 (fun v _ => v = some (.int r))) ∧ (lp_L_law n 91  v0 v1 v2 v3 v4 v6 v7 v8 v9 v10 v11 v12 v13 v16 v17 F1 A1 = some r → Wk l Z (MoL Z cdC "AuctionCrossL3" false) md_L_law 91 [.val (.int v0), .val (.int v1), .val (.int v2), .val (.int v3), .unset, .val (.ref 1), .val (.int v6), .val (.int v7), .val (.int v8), .val (.int v9), .val (.int v10), .val (.int v11), .unset, .unset, .unset, .unset, .unset, .unset] [] (sl, sv, [(11, F1, G1, A1, B1)]) 12 1012 (fun v _ => v = some (.int r))) ∧ (lp_L_law n 102  v0 v1 v2 v3 v4 v6 v7 v8 v9 v10 v11 v12 v13 v16 v17 F1 A1 = some r → Wk l Z (MoL Z cdC "AuctionCrossL3" false) md_L_law 102 [.val (.int v0), .val (.int v1), .val (.int v2), .val (.int v3), .unset, .val (.ref 1), .val (.int v6), .val (.int v7), .val (.int v8), .val (.int v9), .val (.int v10), .val (.int v11), .val (.int v12), .unset, .unset, .unset, .unset, .unset] [] (sl, sv, [(11, F1, G1, A1, B1)]) 12 1012 (fun v _ => v = some (.int r))) ∧ (lp_L_law n 274  v0 v1 v2 v3 v4 v6 v7 v8 v9 v10 v11 v12 v13 v16 v17 F1 A1 = some r → Wk l Z (MoL Z cdC "AuctionCrossL3" false) md_L_law 274 [.unset, .val (.int v1), .unset, .val (.int v3), .unset, .val (.ref 1), .val (.int v6), .unset, .unset, .val (.int v9), .val (.int v10), .unset, .unset, .val (.int v13), .unset, .unset, .val (.int v16), .val (.int v17)] [] (sl, sv, [(11, F1, G1, A1, B1)]) 12 1012 (fun v _ => v = some (.int r))) ∧ (lp_L_law n 286  v0 v1 v2 v3 v4 v6 v7 v8 v9 v10 v11 v12 v13 v16 v17 F1 A1 = some r → Wk l Z (MoL Z cdC "AuctionCrossL3" false) md_L_law 286 [.unset, .val (.int v1), .unset, .val (.int v3), .unset, .val (.ref 1), .val (.int v6), .unset, .unset, .val (.int v9), .val (.int v10), .unset, .unset, .val (.int v13), .unset, .unset, .val (.int v16), .val (.int v17)] [] (sl, sv, [(11, F1, G1, A1, B1)]) 12 1012 (fun v _ => v = some (.int r))) ∧ (lp_L_law n 298  v0 v1 v2 v3 v4 v6 v7 v8 v9 v10 v11 v12 v13 v16 v17 F1 A1 = some r → Wk l Z (MoL Z cdC "AuctionCrossL3" false) md_L_law 298 [.unset, .val (.int v1), .unset, .val (.int v3), .unset, .val (.ref 1), .val (.int v6), .unset, .unset, .val (.int v9), .val (.int v10), .unset, .unset, .val (.int v13), .unset, .unset, .val (.int v16), .val (.int v17)] [] (sl, sv, [(11, F1, G1, A1, B1)]) 12 1012 (fun v _ => v = some (.int r))) ∧ (lp_L_law n 410  v0 v1 v2 v3 v4 v6 v7 v8 v9 v10 v11 v12 v13 v16 v17 F1 A1 = some r → Wk l Z (MoL Z cdC "AuctionCrossL3" false) md_L_law 410 [.unset, .unset, .unset, .unset, .unset, .val (.ref 1), .val (.int v6), .unset, .unset, .unset, .unset, .unset, .unset, .unset, .unset, .unset, .val (.int v16), .val (.int v17)] [] (sl, sv, [(11, F1, G1, A1, B1)]) 12 1012 (fun v _ => v = some (.int r))) := by
  intro n
  induction n with
  | zero =>
    intro v0 v1 v2 v3 v4 v6 v7 v8 v9 v10 v11 v12 v13 v16 v17 F1 A1 r
    exact ⟨(fun h => by rw [lp_L_law_z] at h; cases h), (fun h => by rw [lp_L_law_z] at h; cases h), (fun h => by rw [lp_L_law_z] at h; cases h), (fun h => by rw [lp_L_law_z] at h; cases h), (fun h => by rw [lp_L_law_z] at h; cases h), (fun h => by rw [lp_L_law_z] at h; cases h), (fun h => by rw [lp_L_law_z] at h; cases h)⟩
  | succ n ih =>
    intro v0 v1 v2 v3 v4 v6 v7 v8 v9 v10 v11 v12 v13 v16 v17 F1 A1 r
    refine ⟨fun h => ?_, fun h => ?_, fun h => ?_, fun h => ?_, fun h => ?_, fun h => ?_, fun h => ?_⟩
    · rw [lp_L_law_14] at h
      exact wp_L_law_14 H sl sv F1 G1 A1 B1 v0 v1 v2 v3 v4 ((gd h).1) ((ih _ _ _ _ _ _ _ _ _ _ _ _ _ _ _ _ _ _).2.1 (gd h).2)
    · rw [lp_L_law_91] at h
      exact wp_L_law_91 H sl sv F1 G1 A1 B1 v0 v1 v2 v3 v6 v7 v8 v9 v10 v11 ((gd h).1) ((ih _ _ _ _ _ _ _ _ _ _ _ _ _ _ _ _ _ _).2.2.1 (gd h).2)
    · rw [lp_L_law_102] at h
      exact wp_L_law_102 H sl sv F1 G1 A1 B1 v0 v1 v2 v3 v6 v7 v8 v9 v10 v11 v12 (fun q3 q8 => (gd (ifp q8 (ifp q3 h))).1) (fun q3 q8 q30 => (ih _ _ _ _ _ _ _ _ _ _ _ _ _ _ _ _ _ _).2.2.2.1 (ifp q30 (gd (ifp q8 (ifp q3 h))).2)) (fun q3 q8 q30 => (rt_law (Option.some.inj (ifn q30 (gd (ifp q8 (ifp q3 h))).2)))) (fun q3 q8 => (rt_law (Option.some.inj (ifn q8 (ifp q3 h))))) (fun q3 => (rt_law (Option.some.inj (ifn q3 h))))
    · rw [lp_L_law_274] at h
      exact wp_L_law_274 H sl sv F1 G1 A1 B1 v1 v3 v6 v9 v10 v13 v16 v17 ((gd h).1) (fun q2 => (ih _ _ _ _ _ _ _ _ _ _ _ _ _ _ _ _ _ _).2.2.2.2.1 (ifp q2 (gd h).2)) (fun q2 => (rt_law (Option.some.inj (ifn q2 (gd h).2))))
    · rw [lp_L_law_286] at h
      exact wp_L_law_286 H sl sv F1 G1 A1 B1 v1 v3 v6 v9 v10 v13 v16 v17 ((gd h).1) (fun q2 => (ih _ _ _ _ _ _ _ _ _ _ _ _ _ _ _ _ _ _).2.2.2.2.2.1 (ifp q2 (gd h).2)) (fun q2 => (rt_law (Option.some.inj (ifn q2 (gd h).2))))
    · rw [lp_L_law_298] at h
      exact wp_L_law_298 H sl sv F1 G1 A1 B1 v1 v3 v6 v9 v10 v13 v16 v17 (fun q1 => (rt_law (Option.some.inj (ifn q1 h)))) (fun q1 q3 q4 => (gd (ifp q4 (ifp q3 (ifp q1 h)))).1) (fun q1 q3 q4 q6 => (rt_law (Option.some.inj (ifn q6 (gd (ifp q4 (ifp q3 (ifp q1 h)))).2)))) (fun q1 q3 q4 q6 => (gd (ifp q6 (gd (ifp q4 (ifp q3 (ifp q1 h)))).2)).1) (fun q1 q3 q4 q6 q9 q10 q11 => (gd (ifp q11 (ifp q10 (ifp q9 (gd (ifp q6 (gd (ifp q4 (ifp q3 (ifp q1 h)))).2)).2)))).1) (fun q1 q3 q4 q6 q9 q10 q11 q13 => (ih _ _ _ _ _ _ _ _ _ _ _ _ _ _ _ _ _ _).2.2.2.2.2.2 (ifp q13 (gd (ifp q11 (ifp q10 (ifp q9 (gd (ifp q6 (gd (ifp q4 (ifp q3 (ifp q1 h)))).2)).2)))).2)) (fun q1 q3 q4 q6 q9 q10 q11 q13 => (rt_law (Option.some.inj (ifn q13 (gd (ifp q11 (ifp q10 (ifp q9 (gd (ifp q6 (gd (ifp q4 (ifp q3 (ifp q1 h)))).2)).2)))).2)))) (fun q1 q3 q4 q6 q9 q10 q11 => (gd (ifn q11 (ifp q10 (ifp q9 (gd (ifp q6 (gd (ifp q4 (ifp q3 (ifp q1 h)))).2)).2)))).1) (fun q1 q3 q4 q6 q9 q10 q11 q17 => (gd (ifn q17 (gd (ifn q11 (ifp q10 (ifp q9 (gd (ifp q6 (gd (ifp q4 (ifp q3 (ifp q1 h)))).2)).2)))).2)).1) (fun q1 q3 q4 q6 q9 q10 q11 q17 q19 => (ih _ _ _ _ _ _ _ _ _ _ _ _ _ _ _ _ _ _).2.2.2.2.2.2 (ifp q19 (gd (ifn q17 (gd (ifn q11 (ifp q10 (ifp q9 (gd (ifp q6 (gd (ifp q4 (ifp q3 (ifp q1 h)))).2)).2)))).2)).2)) (fun q1 q3 q4 q6 q9 q10 q11 q17 q19 => (rt_law (Option.some.inj (ifn q19 (gd (ifn q17 (gd (ifn q11 (ifp q10 (ifp q9 (gd (ifp q6 (gd (ifp q4 (ifp q3 (ifp q1 h)))).2)).2)))).2)).2)))) (fun q1 q3 q4 q6 q9 q10 q11 q17 => (rt_law (Option.some.inj (ifp q17 (gd (ifn q11 (ifp q10 (ifp q9 (gd (ifp q6 (gd (ifp q4 (ifp q3 (ifp q1 h)))).2)).2)))).2)))) (fun q1 q3 q4 q6 q9 q10 => (gd (ifn q10 (ifp q9 (gd (ifp q6 (gd (ifp q4 (ifp q3 (ifp q1 h)))).2)).2))).1) (fun q1 q3 q4 q6 q9 q10 q24 q25 => (gd (ifp q25 (ifn q24 (gd (ifn q10 (ifp q9 (gd (ifp q6 (gd (ifp q4 (ifp q3 (ifp q1 h)))).2)).2))).2))).1) (fun q1 q3 q4 q6 q9 q10 q24 q25 q27 => (ih _ _ _ _ _ _ _ _ _ _ _ _ _ _ _ _ _ _).2.2.2.2.2.2 (ifp q27 (gd (ifp q25 (ifn q24 (gd (ifn q10 (ifp q9 (gd (ifp q6 (gd (ifp q4 (ifp q3 (ifp q1 h)))).2)).2))).2))).2)) (fun q1 q3 q4 q6 q9 q10 q24 q25 q27 => (rt_law (Option.some.inj (ifn q27 (gd (ifp q25 (ifn q24 (gd (ifn q10 (ifp q9 (gd (ifp q6 (gd (ifp q4 (ifp q3 (ifp q1 h)))).2)).2))).2))).2)))) (fun q1 q3 q4 q6 q9 q10 q24 q25 => (gd (ifn q25 (ifn q24 (gd (ifn q10 (ifp q9 (gd (ifp q6 (gd (ifp q4 (ifp q3 (ifp q1 h)))).2)).2))).2))).1) (fun q1 q3 q4 q6 q9 q10 q24 q25 q31 => (gd (ifn q31 (gd (ifn q25 (ifn q24 (gd (ifn q10 (ifp q9 (gd (ifp q6 (gd (ifp q4 (ifp q3 (ifp q1 h)))).2)).2))).2))).2)).1) (fun q1 q3 q4 q6 q9 q10 q24 q25 q31 q33 => (ih _ _ _ _ _ _ _ _ _ _ _ _ _ _ _ _ _ _).2.2.2.2.2.2 (ifp q33 (gd (ifn q31 (gd (ifn q25 (ifn q24 (gd (ifn q10 (ifp q9 (gd (ifp q6 (gd (ifp q4 (ifp q3 (ifp q1 h)))).2)).2))).2))).2)).2)) (fun q1 q3 q4 q6 q9 q10 q24 q25 q31 q33 => (rt_law (Option.some.inj (ifn q33 (gd (ifn q31 (gd (ifn q25 (ifn q24 (gd (ifn q10 (ifp q9 (gd (ifp q6 (gd (ifp q4 (ifp q3 (ifp q1 h)))).2)).2))).2))).2)).2)))) (fun q1 q3 q4 q6 q9 q10 q24 q25 q31 => (rt_law (Option.some.inj (ifp q31 (gd (ifn q25 (ifn q24 (gd (ifn q10 (ifp q9 (gd (ifp q6 (gd (ifp q4 (ifp q3 (ifp q1 h)))).2)).2))).2))).2)))) (fun q1 q3 q4 q6 q9 q10 q24 => (rt_law (Option.some.inj (ifp q24 (gd (ifn q10 (ifp q9 (gd (ifp q6 (gd (ifp q4 (ifp q3 (ifp q1 h)))).2)).2))).2)))) (fun q1 q3 q4 q6 q9 => (rt_law (Option.some.inj (ifn q9 (gd (ifp q6 (gd (ifp q4 (ifp q3 (ifp q1 h)))).2)).2)))) (fun q1 q3 q4 => (rt_law (Option.some.inj (ifn q4 (ifp q3 (ifp q1 h)))))) (fun q1 q3 => (rt_law (Option.some.inj (ifn q3 (ifp q1 h)))))
    · rw [lp_L_law_410] at h
      exact wp_L_law_410 H sl sv F1 G1 A1 B1 v6 v16 v17 (fun q3 => (gd (ifp q3 h)).1) (fun q3 => (rt_law (Option.some.inj (gd (ifp q3 h)).2))) (fun q3 => (rt_law (Option.some.inj (ifn q3 h))))
def en_L_law (p1 : Int32) (p2 : Int32) (p3 : Int32) (p4 : Int32) (p5 : Int32) : Option (Int32) := lp_L_law 1000 14 p1 p2 p3 p4 p5 0 0 0 0 0 0 0 0 0 0 (F_init (8 : Int32) (2 : Int32) p5) (fun _ _ => 0)
theorem een_L_law (p1 : Int32) (p2 : Int32) (p3 : Int32) (p4 : Int32) (p5 : Int32) : en_L_law   p1 p2 p3 p4 p5 = lp_L_law 1000 14 p1 p2 p3 p4 p5 0 0 0 0 0 0 0 0 0 0 (F_init (8 : Int32) (2 : Int32) p5) (fun _ _ => 0) := Eq.trans rfl rfl
set_option maxRecDepth 65536 in
set_option maxHeartbeats 4000000 in
theorem run_law {l : Launch} {Z : State} {a0 : Array Value} (H : OK Z a0) (sl : Int32) (sv : Int32 → Int32) (p1 : Int32) (p2 : Int32) (p3 : Int32) (p4 : Int32) (p5 : Int32) (h : en_L_law  p1 p2 p3 p4 p5 = some 1) : Wk l Z (MoL Z cdC "AuctionCrossL3" false) md_L_law 0 [.val (.int p1), .val (.int p2), .val (.int p3), .val (.int p4), .val (.int p5), .unset, .unset, .unset, .unset, .unset, .unset, .unset, .unset, .unset, .unset, .unset, .unset, .unset] [] (sl, sv, []) 0 0 (fun v _ => v = some (.int (1 : Int32))) := by
  rw [een_L_law] at h
  exact wp_L_law H sl sv p1 p2 p3 p4 p5 ((lpw_L_law H sl sv _ _ _ _ _ _ _ _ _ _ _ _ _ _ _ _ _ _ _ _ _).1 h)
def Ok {α : Type} (o : Option α) (P : α → Prop) : Prop := ∃ r, o = some r ∧ P r
theorem Ok.ret {α : Type} {r : α} {P : α → Prop} (h : P r) : Ok (some r) P := ⟨r, rfl, h⟩
theorem Ok.ift {α : Type} {c : Prop} [Decidable c] {x : Option α} {P : α → Prop} (h : c) (k : Ok x P) : Ok (if c then x else none) P := by rw [if_pos h]; exact k
theorem Ok.ite {α : Type} {c : Prop} [Decidable c] {x y : Option α} {P : α → Prop} (h : c → Ok x P) (k : ¬ c → Ok y P) : Ok (if c then x else y) P := by
  by_cases q : c
  · rw [if_pos q]; exact h q
  · rw [if_neg q]; exact k q
theorem Ok.mono {α : Type} {x : Option α} {P Q : α → Prop} (h : Ok x P) (k : ∀ r, P r → Q r) : Ok x Q := by
  obtain ⟨r, e, p⟩ := h; exact ⟨r, e, k r p⟩
theorem Ok.S {α : Type} {x : Option α} {P : α → Prop} (h : Ok x P) : x.isSome = true := by obtain ⟨r, e, p⟩ := h; rw [e]; rfl
theorem Ok.R {α : Type} {x : Option α} {R d : α} {P : α → Prop} (h : Ok x P) (e : R = x.getD d) : x.isSome = true ∧ P R := by
  obtain ⟨r, q, p⟩ := h; refine ⟨by rw [q]; rfl, ?_⟩; rw [e, q]; exact p
theorem fu_nxt {v c : Int32} {n : Nat} (h : v < c) (hn : c.toInt < v.toInt + ((n + 1 : Nat) : Int)) : c.toInt < (v + 1).toInt + (n : Int) := by
  rw [succ_toInt h]; omega
theorem fu_z {v c : Int32} (h : ¬ c < v) (hn : c.toInt < v.toInt + ((0 : Nat) : Int)) : False := by
  rw [lt_i] at h; omega
theorem ifS {α β : Type} {x : α} {a b : β} : (if (some x).isSome = true then a else b) = a := if_pos rfl
theorem r_of {α : Type} {R : α} {o : Option α} {d r : α} (e : R = o.getD d) (h : o = some r) : R = r := e.trans (getD_some h)
theorem o_free (F : Nat → Int32) (A : Nat → Int32 → Int32) (f0 : F 0 = 8) : ∀ (n : Nat) (v : Int32), ¬ v < 0 → ¬ 8 < v → (8 : Int32).toInt < v.toInt + (n : Int) → Ok (lp_findFree n 2 v F A) (fun r => r = -1 ∨ (¬ r < 0 ∧ r < 8 ∧ A 0 r = 0)) := by
  intro n
  induction n with
  | zero => exact fun v _ h1 h2 => (fu_z h1 h2).elim
  | succ n ih =>
    intro v h0 h1 h2
    rw [lp_findFree_2, f0]
    refine Ok.ite (fun q => Ok.ift ⟨h0, by grind⟩ (Ok.ite (fun a => Ok.ret (Or.inr ⟨h0, q, a⟩)) fun _ => ih (v + 1) (by grind) (by grind) (fu_nxt q h2))) fun _ => Ok.ret (Or.inl rfl)
def N (A : Nat → Int32 → Int32) : Nat → Int32 → Int32 := ups (ups A 9 (fun _ => 0)) 10 (fun _ => 0)
def ZO (A : Nat → Int32 → Int32) : Prop := ∀ x : Int32, (x < 0 ∨ 256 < x) → A 9 x = 0 ∧ A 10 x = 0
theorem N_9 (A : Nat → Int32 → Int32) (f : Int32 → Int32) : N (ups A 9 f) = N A := by
  funext j x; simp only [N, ups]; grind
theorem N_10 (A : Nat → Int32 → Int32) (f : Int32 → Int32) : N (ups A 10 f) = N A := by
  funext j x; simp only [N, ups]; grind
theorem N_j {A A' : Nat → Int32 → Int32} (h : N A = N A') (j : Nat) (h9 : j ≠ 9) (h10 : j ≠ 10) : A j = A' j := by
  have := congrFun h j; simpa only [N, ups, h9, h10, if_false] using this
theorem ZO_9 {A : Nat → Int32 → Int32} (h : ZO A) (x y : Int32) (h0 : ¬ x < 0) (h1 : x < 257) : ZO (ups A 9 (ups (A 9) x y)) := by
  intro z hz; have := h z hz; have e : z ≠ x := fun q => by subst q; grind
  simp [ups, e, this]
theorem ZO_10 {A : Nat → Int32 → Int32} (h : ZO A) (x y : Int32) (h0 : ¬ x < 0) (h1 : x < 257) : ZO (ups A 10 (ups (A 10) x y)) := by
  intro z hz; have := h z hz; have e : z ≠ x := fun q => by subst q; grind
  simp [ups, e, this]
theorem ZO_N (A : Nat → Int32 → Int32) : ZO (N A) := by
  intro x _; simp [N, ups]
theorem l_cc : ∀ (n : Nat) (v : Int32) (A : Nat → Int32 → Int32), ¬ v < 0 → ¬ 257 < v → (257 : Int32).toInt < v.toInt + (n : Int) → (∀ x : Int32, (x < v ∨ 256 < x) → A 9 x = 0 ∧ A 10 x = 0) → lp_clearCurves n 2 v A = some (0, N A) := by
  intro n
  induction n with
  | zero => exact fun v A _ h1 h2 _ => (fu_z h1 h2).elim
  | succ n ih =>
    intro v A h0 h1 h2 h3
    rw [lp_clearCurves_2]
    by_cases q : 256 < v
    · rw [if_pos q]
      have e : A = N A := by
        funext j x
        have := h3 x (by grind)
        simp only [N, ups]
        by_cases a : j = 10
        · subst a; simp [this]
        · by_cases b : j = 9
          · subst b; simp [this]
          · simp [a, b]
      rw [← e]
    · rw [if_neg q, if_pos ⟨h0, by grind⟩, ih (v + 1) _ (by grind) (by grind) (fu_nxt (by grind) h2), N_10, N_9]
      intro x hx
      by_cases a : x = v
      · subst a; simp [ups]
      · have := h3 x (by grind)
        simp [ups, a, this]
theorem o_cc {A : Nat → Int32 → Int32} (h : ZO A) : en_clearCurves A = some (0, N A) := by
  rw [een_clearCurves]
  exact l_cc 1000 0 A (by decide) (by decide) (by decide) (fun x hx => h x (by grind))
abbrev CC (A : Nat → Int32 → Int32) : Int32 × (Nat → Int32 → Int32) → Prop := fun r => ZO r.2 ∧ N r.2 = N A
theorem dn {v : Int32} (h : ¬ v < 1) : (v + (-1)).toInt = v.toInt - 1 := by
  rw [lt_i] at h
  have z : (1 : Int32).toInt = 1 := by decide
  have z1 : (-1 : Int32).toInt = -1 := by decide
  have := v.toInt_lt
  rw [add_toInt (by omega) (by omega), z1]; omega
abbrev Cv (b X m s Y : Int32) (A : Nat → Int32 → Int32) : Prop := ∀ p : Int32, ¬ p < 1 → ¬ 255 < p → A 9 p = (if b < p then 0 else X) + m ∧ A 10 p = (if p < s then 0 else Y)
theorem z0 (x : Int32) : (0 : Int32) + x = x := by rw [Int32.zero_add]
theorem x0 (x : Int32) : x + (0 : Int32) = x := by rw [Int32.add_zero]
theorem g1 {v : Int32} (h : ¬ v < 1) : ¬ v < 0 := by grind
theorem g2 {v : Int32} (h : ¬ 255 < v) : v < 257 := by grind
theorem g3 {v : Int32} (h : ¬ v < 1) : ¬ v - 1 < 0 := by grind
theorem g4 {v : Int32} (h : ¬ v < 1) (h1 : ¬ 255 < v) : v - 1 < 257 := by grind
theorem g4' {v : Int32} (h : ¬ v < 1) (h1 : ¬ 255 < v) : ¬ 255 < v - 1 := by grind
theorem g5 {v p : Int32} (h : 255 < v) (h1 : ¬ 255 < p) : p < v := by grind
theorem g6 {v : Int32} (h : ¬ v < 1) (h1 : ¬ 255 < v) : ¬ v + 1 < 1 := by grind
theorem g7 {v : Int32} (h1 : ¬ 255 < v) : ¬ 256 < v + 1 := by grind
theorem g8 {v : Int32} (h1 : ¬ 255 < v) : v < 256 := by grind
theorem g9 {v : Int32} (h : ¬ v < 0) (h1 : ¬ 255 < v) : ¬ v + 1 < 0 := by grind
theorem g10 {v : Int32} (h1 : ¬ 255 < v) : v + 1 < 257 := by grind
theorem g11 {v : Int32} (h1 : ¬ 255 < v) : ¬ 256 < v := by grind
theorem g12 {v : Int32} (h : ¬ v < 1) : v - 1 < v := by grind
theorem g13 {v : Int32} (h : ¬ 255 < v) : v < v + 1 := by grind
theorem g14 {v z : Int32} (h : v < z) : ¬ z = v ∧ ¬ z < v := by grind
theorem g15 {v z : Int32} (h : z = v) : ¬ z < v ∧ ¬ v < z := by grind
theorem g16 {v z : Int32} (h : ¬ v < z) (k : ¬ z = v) : z < v := by grind
theorem g17 {v z : Int32} (w : z = v) (h : ¬ 255 < z) : v < z + 1 := by grind
theorem g18 {v z : Int32} (w : v < z) (h : ¬ 255 < z) : v < z + 1 := by grind
theorem g19 {v z : Int32} (w : ¬ z = v) (w2 : ¬ v < z) (h : ¬ 255 < z) : ¬ v < z + 1 := by grind
theorem g20 {v z : Int32} (w : ¬ z < 1) (w2 : v < 1) (h : ¬ v < 0) : v < z := by grind
theorem g21 {z : Int32} (w : z < 1) (h : ¬ z < 0) : z = 0 := by grind
theorem g22 {z : Int32} (w : ¬ z = 0) (h : ¬ z < 0) : 0 < z := by grind
theorem g23 {z b : Int32} (w : 255 < z) (h : ¬ 255 < b) : ¬ z = b ∧ b < z := by grind
theorem irr (z : Int32) : ¬ z < z := by grind
theorem us {α β : Type} [DecidableEq α] (f : α → β) (x : α) (y : β) : ups f x y x = y := by simp [ups]
theorem un {α β : Type} [DecidableEq α] (f : α → β) {x z : α} (y : β) (h : ¬ z = x) : ups f x y z = f z := by simp [ups, h]
theorem ltp {v z : Int32} (h : ¬ 255 < v) : z < v + 1 ↔ (z < v ∨ z = v) := by grind
theorem ltm {v z : Int32} (h : ¬ v < 1) : v + -1 < z ↔ (v < z ∨ z = v) := by grind
theorem ltm' {v z : Int32} (h : ¬ v < 1) : v - 1 < z ↔ ¬ z < v := by grind
theorem ac2_9 {A A' : Int32 → Int32} {b X m v : Int32} (h1 : ¬ 255 < v) (h : ∀ z : Int32, ¬ z < 1 → ¬ 255 < z → A z = if z < v then (if b < z then 0 else X) + m else (if b < z then 0 else X)) (e : A' = ups A v (A v + m)) :
    ∀ z : Int32, ¬ z < 1 → ¬ 255 < z → A' z = if z < v + 1 then (if b < z then 0 else X) + m else (if b < z then 0 else X) := by
  intro z a c
  subst e
  have := h z a c
  simp only [ltp h1]
  by_cases k : z = v
  · subst k; rw [us, this, if_neg (show ¬ z < z from irr z), if_pos (Or.inr rfl)]
  · rw [un _ _ k, this]; simp [k]
theorem ac2_10 {A A' : Int32 → Int32} {s Y v : Int32} (h0 : ¬ v < 1) (h1 : ¬ 255 < v) (h : ∀ z : Int32, ¬ z < 0 → ¬ 255 < z → A z = if z < v then (if z < s then 0 else Y) else (if z = s then Y else 0)) (e : A' = ups A v (A v + A (v - 1))) :
    ∀ z : Int32, ¬ z < 0 → ¬ 255 < z → A' z = if z < v + 1 then (if z < s then 0 else Y) else (if z = s then Y else 0) := by
  intro z a c
  subst e
  have := h z a c
  simp only [ltp h1]
  by_cases k : z = v
  · subst k
    have e2 := h (z - 1) (g3 h0) (g4' h0 h1)
    rw [if_neg (show ¬ z < z from irr z)] at this
    rw [if_pos (g12 h0)] at e2
    rw [us, this, if_pos (Or.inr rfl), e2]
    simp only [ltm' h0]
    by_cases w : s < z
    · rw [if_neg (g14 w).1, if_neg (fun h => h w), if_neg (g14 w).2, z0]
    · by_cases w2 : z = s
      · rw [if_pos w2, if_pos w, if_neg (g15 w2).1, x0]
      · rw [if_neg w2, if_pos w, if_pos (g16 w w2), x0]
  · rw [un _ _ k, this]; simp [k]
theorem l5_ac2 (b X s Y m : Int32) : ∀ (n : Nat) (v : Int32) (A : Nat → Int32 → Int32), ¬ v < 1 → ¬ 256 < v → (256 : Int32).toInt < v.toInt + (n : Int) → ZO A →
    (∀ z : Int32, ¬ z < 1 → ¬ 255 < z → A 9 z = if z < v then (if b < z then 0 else X) + m else (if b < z then 0 else X)) →
    (∀ z : Int32, ¬ z < 0 → ¬ 255 < z → A 10 z = if z < v then (if z < s then 0 else Y) else (if z = s then Y else 0)) →
    Ok (lp_accumulate n 34 m v A) (fun r => CC A r ∧ Cv b X m s Y r.2) := by
  intro n
  induction n with
  | zero => exact fun v A _ h1 h2 _ => (fu_z h1 h2).elim
  | succ n ih =>
    intro v A h0 h1 h2 h3 h4 h5
    rw [lp_accumulate_34]
    refine Ok.ite (fun q => Ok.ret ⟨⟨h3, rfl⟩, fun p a c => ⟨?_, ?_⟩⟩) fun q => Ok.ift ⟨g1 h0, g2 q, g3 h0, g4 h0 q⟩ ?_
    · refine (h4 p a c).trans (if_pos (g5 q c))
    · refine (h5 p (g1 a) c).trans (if_pos (g5 q c))
    have v0 : ¬ v < 0 := g1 h0
    have v1 : v < 257 := g2 q
    have z9 := ZO_9 h3 v (A 9 v + m) v0 v1
    have z10 := ZO_10 z9 v (A 10 v + A 10 (v - 1)) v0 v1
    have e10 : ups A 9 (ups (A 9) v (A 9 v + m)) 10 = A 10 := by simp [ups]
    rw [e10] at z10
    refine (ih (v + 1) _ (g6 h0 q) (g7 q) (fu_nxt (g8 q) h2) z10 (ac2_9 q h4 ?_) (ac2_10 h0 q h5 ?_)).mono fun r p => ⟨⟨p.1.1, by rw [p.1.2, N_10, N_9]⟩, p.2⟩
    · simp [ups]
    · simp [ups]
theorem ac1_9 {A A' : Int32 → Int32} {b X v : Int32} (hb : ¬ b < 1) (hb' : ¬ 255 < b) (h0 : ¬ v < 1) (h1 : ¬ 255 < v) (h : ∀ z : Int32, ¬ z < 1 → ¬ 256 < z → A z = if v < z then (if b < z then 0 else X) else (if z = b then X else 0)) (e : A' = ups A v (A v + A (v + 1))) :
    ∀ z : Int32, ¬ z < 1 → ¬ 256 < z → A' z = if v + -1 < z then (if b < z then 0 else X) else (if z = b then X else 0) := by
  intro z a c
  subst e
  have := h z a c
  simp only [ltm h0]
  by_cases k : z = v
  · subst k
    have e2 := h (z + 1) (g6 h0 h1) (g7 h1)
    rw [if_neg (show ¬ z < z from irr z)] at this
    rw [if_pos (g13 h1)] at e2
    rw [us, this, if_pos (Or.inr rfl), e2]
    by_cases w : z = b
    · rw [if_pos w, if_pos (g17 w h1), if_neg (g15 w).2, x0]
    · by_cases w2 : b < z
      · rw [if_neg w, if_pos (g18 w2 h1), if_pos w2, x0]
      · rw [if_neg w, if_neg (g19 w w2 h1), if_neg w2, z0]
  · rw [un _ _ k, this]; simp [k]
theorem l5_ac1 (b X s Y m : Int32) (hs : ¬ s < 0) (hb : ¬ b < 1) (hb' : ¬ 255 < b) : ∀ (n : Nat) (v : Int32) (A : Nat → Int32 → Int32), ¬ v < 0 → ¬ 255 < v → v.toInt + 300 < (n : Int) → ZO A →
    (∀ z : Int32, ¬ z < 1 → ¬ 256 < z → A 9 z = if v < z then (if b < z then 0 else X) else (if z = b then X else 0)) →
    (∀ z : Int32, ¬ z < 0 → ¬ 255 < z → A 10 z = if z = s then Y else 0) →
    Ok (lp_accumulate n 4 m v A) (fun r => CC A r ∧ Cv b X m s Y r.2) := by
  intro n
  induction n with
  | zero => intro v A h0 _ h2 _; rw [lt_i] at h0; have z : (0 : Int32).toInt = 0 := by decide
            omega
  | succ n ih =>
    intro v A h0 h1 h2 h3 h4 h5
    have h0' := h0
    rw [lt_i] at h0'
    have z : (0 : Int32).toInt = 0 := by decide
    have z1 : (1 : Int32).toInt = 1 := by decide
    have z2 : (256 : Int32).toInt = 256 := by decide
    rw [lp_accumulate_4]
    refine Ok.ite (fun q => l5_ac2 b X s Y m n 1 A (by decide) (by decide) (by omega) h3 ?_ ?_) fun q => Ok.ift ⟨h0, g2 h1, g9 h0 h1, g10 h1⟩ ?_
    · intro z a c; rw [h4 z a (g11 c), if_pos (g20 a q h0), if_neg a]
    · intro z a c; rw [h5 z a c]
      by_cases w : z < 1
      · have : z = 0 := g21 w a
        subst this
        rw [if_pos w]
        by_cases u : s = 0
        · rw [if_pos u.symm, if_neg (by rw [u]; decide)]
        · rw [if_neg (fun h => u h.symm), if_pos (g22 u hs)]
      · rw [if_neg w]
    have e := dn q
    have q' := q
    rw [lt_i] at q'
    refine (ih (v + -1) _ (by rw [lt_i]; omega) (by rw [lt_i] at h1 ⊢; omega) (by omega) (ZO_9 h3 _ _ h0 (g2 h1)) (ac1_9 hb hb' q h1 h4 ?_) ?_).mono fun r p => ⟨⟨p.1.1, by rw [p.1.2, N_9]⟩, p.2⟩
    · simp [ups]
    · intro z a c
      have := h5 z a c
      simpa [ups] using this
theorem o5_ac (b X s Y m : Int32) (hs : ¬ s < 0) (hb : ¬ b < 1) (hb' : ¬ 255 < b) (A : Nat → Int32 → Int32) (h : ZO A) (h9 : ∀ z : Int32, A 9 z = if z = b then X else 0) (h10 : ∀ z : Int32, A 10 z = if z = s then Y else 0) : Ok (en_accumulate A m) (fun r => CC A r ∧ Cv b X m s Y r.2) := by
  rw [een_accumulate]
  refine l5_ac1 b X s Y m hs hb hb' 1000 255 A (by decide) (by decide) (by decide) h (fun z a c => ?_) fun z _ _ => h10 z
  rw [h9 z]
  by_cases w : 255 < z
  · rw [if_pos w, if_neg (g23 w hb').1, if_pos (g23 w hb').2]
  · rw [if_neg w]
abbrev Dv (hi X lo Y : Int32) (A : Nat → Int32 → Int32) : Prop := ∀ p : Int32, ¬ p < 1 → ¬ 255 < p → A 9 p = (if hi < p then 0 else X) ∧ A 10 p = (if p < lo then 0 else Y)
theorem h_min {hi X lo Y p : Int32} (hx : ¬ X < 0) (hy : ¬ Y < 0) : f_min (if hi < p then 0 else X) (if p < lo then 0 else Y) = if hi < p ∨ p < lo then 0 else f_min X Y := by
  simp only [e_min]; grind
theorem v5 {hi X lo Y : Int32} {A : Nat → Int32 → Int32} (h : Dv hi X lo Y A) (hx : ¬ X < 0) (hy : ¬ Y < 0) {p : Int32} (h0 : ¬ p < 1) (h1 : ¬ 255 < p) : en_vol A p = some (if hi < p ∨ p < lo then 0 else f_min X Y) := by
  rw [een_vol, if_pos ⟨g1 h0, g2 h1⟩, (h p h0 h1).1, (h p h0 h1).2, h_min hx hy]
theorem s5 {hi X lo Y : Int32} {A : Nat → Int32 → Int32} (h : Dv hi X lo Y A) {p : Int32} (h0 : ¬ p < 1) (h1 : ¬ 255 < p) : en_surplus A p = some ((if hi < p then 0 else X) - (if p < lo then 0 else Y)) := by
  rw [een_surplus, if_pos ⟨g1 h0, g2 h1⟩, (h p h0 h1).1, (h p h0 h1).2]
theorem mvs {hi lo M v : Int32} (hM : ¬ M < 0) (h1 : ¬ 255 < v) : (if (if lo < v ∧ ¬ hi < lo then M else 0) < (if hi < v ∨ v < lo then 0 else M) then (if hi < v ∨ v < lo then 0 else M) else (if lo < v ∧ ¬ hi < lo then M else 0)) = (if lo < v + 1 ∧ ¬ hi < lo then M else 0) := by
  grind
theorem mve {hi lo M v : Int32} (h1 : 255 < v) (h : ¬ 255 < lo) : (if lo < v ∧ ¬ hi < lo then M else 0) = (if hi < lo then 0 else M) := by grind
theorem l5_mv {hi X lo Y : Int32} {A : Nat → Int32 → Int32} (h : Dv hi X lo Y A) (hx : ¬ X < 0) (hy : ¬ Y < 0) (hM : ¬ f_min X Y < 0) (hl : ¬ 255 < lo) : ∀ (n : Nat) (v : Int32), ¬ v < 1 → ¬ 256 < v → (256 : Int32).toInt < v.toInt + (n : Int) → lp_maxVolume n 4 (if lo < v ∧ ¬ hi < lo then f_min X Y else 0) v A = some (if hi < lo then 0 else f_min X Y) := by
  intro n
  induction n with
  | zero => exact fun v _ h1 h2 => (fu_z h1 h2).elim
  | succ n ih =>
    intro v h0 h1 h2
    rw [lp_maxVolume_4]
    by_cases q : 255 < v
    · rw [if_pos q, mve q hl]
    · rw [if_neg q, r_of (eR_vol A v) (v5 h hx hy h0 q), v5 h hx hy h0 q, ifS, mvs hM q]
      exact ih (v + 1) (g6 h0 q) (g7 q) (fu_nxt (g8 q) h2)
theorem g24 {v : Int32} (h : ¬ v < 1) : ¬ v < 1 ∧ ¬ (v < 1 ∧ True) := by grind
theorem o5_mv {hi X lo Y : Int32} {A : Nat → Int32 → Int32} (h : Dv hi X lo Y A) (hx : ¬ X < 0) (hy : ¬ Y < 0) (hl0 : ¬ lo < 1) (hl : ¬ 255 < lo) : en_maxVolume A = some (if hi < lo then 0 else f_min X Y) := by
  rw [een_maxVolume]
  have hM : ¬ f_min X Y < 0 := by rw [e_min]; grind
  have := l5_mv h hx hy hM hl 1000 1 (by decide) (by decide) (by decide)
  rwa [if_neg (fun k => hl0 k.1)] at this
theorem mpos {X Y : Int32} (hx : ¬ X < 1) (hy : ¬ Y < 1) : ¬ f_min X Y = 0 := by rw [e_min]; grind
theorem kpos {X Y : Int32} (hx : ¬ X < 1) (hy : ¬ Y < 1) (hx1 : ¬ 1000 < X) (hy1 : ¬ 1000 < Y) : ¬ f_abs (X - Y) < 0 := by rw [e_abs]; grind
theorem lss {lo : Int32} {v K : Int32} (hK : ¬ K < 0) (h1 : ¬ 255 < v) (r : ¬ v < lo) : (if (if lo < v then K else -1) < 0 then K else (if K < (if lo < v then K else -1) then K else (if lo < v then K else -1))) = (if lo < v + 1 then K else -1) := by
  grind
theorem lss' {hi lo : Int32} {v K : Int32} (h1 : ¬ 255 < v) (hh : ¬ hi < lo) (r : hi < v ∨ v < lo) : (if lo < v then K else -1) = (if lo < v + 1 then K else -1) := by
  grind
theorem inr {hi X lo Y : Int32} {v : Int32} (r : ¬ (hi < v ∨ v < lo)) : (if hi < v then 0 else X) - (if v < lo then 0 else Y) = X - Y := by
  rw [if_neg (fun h => r (Or.inl h)), if_neg (fun h => r (Or.inr h))]
theorem n1 : nar .boolean (1 : Int32) = 1 := by decide
theorem n0 : nar .boolean (0 : Int32) = 0 := by decide
abbrev clp (c lo hi : Int32) : Int32 := if c < lo then lo else (if hi < c then hi else c)
abbrev nrP (c lo hi v : Int32) : Int32 := if lo < v then (if hi < v then clp c lo hi else clp c lo (v - 1)) else 0
abbrev nrD (c lo hi v : Int32) : Int32 := if lo < v then f_abs (nrP c lo hi v - c) else -1
theorem nrs_o {hi lo : Int32} {c v : Int32} (r : hi < v ∨ v < lo) (h0 : ¬ v < 1) (h1 : ¬ 255 < v) (hl0 : ¬ lo < 1) (hh : ¬ hi < lo) : nrP c lo hi v = nrP c lo hi (v + 1) := by
  simp only [nrP, clp]; grind
theorem nrd_o {hi lo : Int32} {c v : Int32} (r : hi < v ∨ v < lo) (h0 : ¬ v < 1) (h1 : ¬ 255 < v) (hl0 : ¬ lo < 1) (hh : ¬ hi < lo) : nrD c lo hi v = nrD c lo hi (v + 1) := by
  simp only [nrD]; rw [nrs_o r h0 h1 hl0 hh]; grind
theorem w1 {c lo hi v : Int32} (r : ¬ (hi < v ∨ v < lo)) (h1 : ¬ 255 < v) : nrP c lo hi (v + 1) = clp c lo v := by
  have e : v + 1 - 1 = v := by grind
  rw [nrP, if_pos (by grind), e]
  by_cases q : hi < v + 1
  · have : hi = v := by grind
    rw [this, ite_self]
  · rw [if_neg q]
theorem w2 {c lo hi v : Int32} (r : ¬ (hi < v ∨ v < lo)) (h0 : ¬ v < 1) (h1 : ¬ 255 < v) (hl0 : ¬ lo < 1) (c0 : ¬ c < 1) (c1 : ¬ 255 < c) :
    (v = lo ∧ nrD c lo hi v = -1 ∧ clp c lo v = v) ∨ (lo < v ∧ c < v ∧ nrP c lo hi v = clp c lo v ∧ ¬ f_abs (v - c) < f_abs (clp c lo v - c)) ∨ (lo < v ∧ ¬ c < v ∧ nrP c lo hi v = v - 1 ∧ clp c lo v = v ∧ f_abs (v - c) < f_abs (v - 1 - c)) := by
  by_cases q : lo < v
  · right
    have e : nrP c lo hi v = clp c lo (v - 1) := by rw [nrP, if_pos q, if_neg (fun h => r (Or.inl h))]
    by_cases k : c < v
    · left
      refine ⟨q, k, ?_, ?_⟩
      · rw [e]; by_cases j : c < lo
        · rw [clp, clp, if_pos j, if_pos j]
        · rw [clp, clp, if_neg j, if_neg j, if_neg (by grind), if_neg (by grind)]
      · by_cases j : c < lo
        · rw [clp, if_pos j, e_abs, e_abs, if_neg (by grind), if_neg (by grind)]; grind
        · rw [clp, if_neg j, if_neg (by grind), e_abs, e_abs, if_neg (by grind), if_neg (by grind)]; grind
    · right
      refine ⟨q, k, ?_, ?_, ?_⟩
      · rw [e, clp, if_neg (by grind), if_pos (by grind)]
      · rw [clp, if_neg (by grind)]; grind
      · have e1 : -(v - 1 - c) = c - v + 1 := by grind
        have e2 : -(v - c) = c - v := by grind
        rw [e_abs, e_abs, if_pos (show v - 1 - c < 0 by grind), e1, e2]
        by_cases y : c = v
        · subst y; rw [if_neg (by grind)]; grind
        · rw [if_pos (by grind)]; grind
  · left
    have : v = lo := by grind
    refine ⟨this, by rw [nrD, if_neg q], ?_⟩
    rw [clp]; grind
theorem fap {x : Int32} (h : ¬ x < -1000) (h1 : ¬ 1000 < x) : ¬ f_abs x < 0 := by rw [e_abs]; grind
theorem w3 {c v lo : Int32} (h0 : ¬ v < 1) (h1 : ¬ 255 < v) (hl0 : ¬ lo < 1) (c0 : ¬ c < 1) (c1 : ¬ 255 < c) : ¬ f_abs (clp c lo v - c) < 0 := by
  rw [clp]; by_cases a : c < lo
  · rw [if_pos a]; rw [e_abs]; grind
  · rw [if_neg a]; by_cases b : v < c
    · rw [if_pos b, e_abs]; grind
    · rw [if_neg b, e_abs]; grind
theorem nrs_i {c v hi lo : Int32} (r : ¬ (hi < v ∨ v < lo)) (h0 : ¬ v < 1) (h1 : ¬ 255 < v) (hl0 : ¬ lo < 1) (c0 : ¬ c < 1) (c1 : ¬ 255 < c) :
    (if nrD c lo hi v < 0 then v else (if f_abs (v - c) < nrD c lo hi v then v else nrP c lo hi v)) = nrP c lo hi (v + 1) ∧ (if nrD c lo hi v < 0 then f_abs (v - c) else (if f_abs (v - c) < nrD c lo hi v then f_abs (v - c) else nrD c lo hi v)) = nrD c lo hi (v + 1) := by
  have e2 : nrD c lo hi (v + 1) = f_abs (clp c lo v - c) := by rw [nrD, if_pos (by grind), w1 r h1]
  rw [w1 r h1, e2]
  rcases w2 r h0 h1 hl0 c0 c1 with ⟨a, b, d⟩ | ⟨a, b, d, e⟩ | ⟨a, b, d, e, f⟩
  · rw [b, d]; exact ⟨if_pos (by decide), if_pos (by decide)⟩
  · have z : nrD c lo hi v = f_abs (clp c lo v - c) := by rw [nrD, if_pos a, d]
    rw [z, d, if_neg (w3 h0 h1 hl0 c0 c1), if_neg e, if_neg (w3 h0 h1 hl0 c0 c1), if_neg e]; exact ⟨rfl, rfl⟩
  · have z : nrD c lo hi v = f_abs (v - 1 - c) := by rw [nrD, if_pos a, d]
    have y : ¬ f_abs (v - 1 - c) < 0 := fap (by grind) (by grind)
    rw [z, e, if_neg y, if_pos f, if_neg y, if_pos f]; exact ⟨rfl, rfl⟩
theorem l5_ls {hi X lo Y : Int32} {A : Nat → Int32 → Int32} (h : Dv hi X lo Y A) (hx : ¬ X < 1) (hy : ¬ Y < 1) (hx1 : ¬ 1000 < X) (hy1 : ¬ 1000 < Y) (hl : ¬ 255 < lo) (hh : ¬ hi < lo) : ∀ (n : Nat) (v : Int32), ¬ v < 1 → ¬ 256 < v → (256 : Int32).toInt < v.toInt + (n : Int) → lp_leastSurplus n 4 (f_min X Y) (if lo < v then f_abs (X - Y) else -1) v A = some (f_abs (X - Y)) := by
  intro n
  induction n with
  | zero => exact fun v _ h1 h2 => (fu_z h1 h2).elim
  | succ n ih =>
    intro v h0 h1 h2
    rw [lp_leastSurplus_4]
    by_cases q : 255 < v
    · rw [if_pos q, if_pos (g5 q hl)]
    · have ev := v5 h (g1 hx) (g1 hy) h0 q
      have es := s5 h h0 q
      rw [if_neg q, r_of (eR_vol A v) ev, r_of (eR_surplus A v) es, if_pos ⟨by rw [ev]; rfl, fun _ => by rw [es]; rfl⟩]
      by_cases r : hi < v ∨ v < lo
      · rw [if_pos r, if_neg (fun k => mpos hx hy k.symm), lss' q hh r]
        exact ih (v + 1) (g6 h0 q) (g7 q) (fu_nxt (g8 q) h2)
      · rw [if_neg r, if_pos rfl, inr r, lss (kpos hx hy hx1 hy1) q (fun k => r (Or.inr k))]
        exact ih (v + 1) (g6 h0 q) (g7 q) (fu_nxt (g8 q) h2)
theorem o5_ls {hi X lo Y : Int32} {A : Nat → Int32 → Int32} (h : Dv hi X lo Y A) (hx : ¬ X < 1) (hy : ¬ Y < 1) (hx1 : ¬ 1000 < X) (hy1 : ¬ 1000 < Y) (hl0 : ¬ lo < 1) (hl : ¬ 255 < lo) (hh : ¬ hi < lo) : en_leastSurplus A (f_min X Y) = some (f_abs (X - Y)) := by
  rw [een_leastSurplus]
  have := l5_ls h hx hy hx1 hy1 hl hh 1000 1 (by decide) (by decide) (by decide)
  rwa [if_neg hl0] at this
theorem o5_fs {hi X lo Y : Int32} {A : Nat → Int32 → Int32} (h : Dv hi X lo Y A) (hx : ¬ X < 1) (hy : ¬ Y < 1) (hx1 : ¬ 1000 < X) (hy1 : ¬ 1000 < Y) {v : Int32} (h0 : ¬ v < 1) (h1 : ¬ 255 < v) : en_inFinalSet A v (f_min X Y) (f_abs (X - Y)) = some (if hi < v ∨ v < lo then 0 else 1) := by
  have ev := v5 h (g1 hx) (g1 hy) h0 h1
  have es := s5 h h0 h1
  rw [een_inFinalSet, r_of (eR_vol A v) ev, r_of (eR_surplus A v) es, if_pos ⟨by rw [ev]; rfl, fun _ => by rw [es]; rfl⟩]
  by_cases r : hi < v ∨ v < lo
  · rw [if_pos r, if_neg (fun k => mpos hx hy k.symm), if_pos r, n0]
  · rw [if_neg r, if_pos rfl, inr r, if_pos rfl, n1, if_neg r]
theorem l5_nr {hi X lo Y : Int32} {A : Nat → Int32 → Int32} (h : Dv hi X lo Y A) (hx : ¬ X < 1) (hy : ¬ Y < 1) (hx1 : ¬ 1000 < X) (hy1 : ¬ 1000 < Y) (hl0 : ¬ lo < 1) (hl : ¬ 255 < lo) (hh : ¬ hi < lo) (hh1 : ¬ 255 < hi) (F : Nat → Int32) (c0 : ¬ F 2 < 1) (c1 : ¬ 255 < F 2) : ∀ (n : Nat) (v : Int32), ¬ v < 1 → ¬ 256 < v → (256 : Int32).toInt < v.toInt + (n : Int) → lp_nearestToRef n 8 (f_min X Y) (f_abs (X - Y)) (nrP (F 2) lo hi v) (nrD (F 2) lo hi v) v F A = some (clp (F 2) lo hi) := by
  intro n
  induction n with
  | zero => exact fun v _ h1 h2 => (fu_z h1 h2).elim
  | succ n ih =>
    intro v h0 h1 h2
    rw [lp_nearestToRef_8]
    by_cases q : 255 < v
    · rw [if_pos q, nrP, if_pos (g5 q hl), if_pos (g5 q hh1)]
    · have ef := o5_fs h hx hy hx1 hy1 h0 q
      rw [if_neg q, r_of (eR_inFinalSet A v _ _) ef, ef, ifS]
      have go := ih (v + 1) (g6 h0 q) (g7 q) (fu_nxt (g8 q) h2)
      by_cases r : hi < v ∨ v < lo
      · rw [if_pos r, if_pos rfl, if_pos rfl, nrs_o r h0 q hl0 hh, nrd_o r h0 q hl0 hh]; exact go
      · rw [if_neg r]; simp only [show ¬ (1 : Int32) = 0 from by decide, if_false]; rw [(nrs_i r h0 q hl0 c0 c1).1, (nrs_i r h0 q hl0 c0 c1).2]; exact go
theorem o5_nr {hi X lo Y : Int32} {A : Nat → Int32 → Int32} (h : Dv hi X lo Y A) (hx : ¬ X < 1) (hy : ¬ Y < 1) (hx1 : ¬ 1000 < X) (hy1 : ¬ 1000 < Y) (hl0 : ¬ lo < 1) (hl : ¬ 255 < lo) (hh : ¬ hi < lo) (hh1 : ¬ 255 < hi) (F : Nat → Int32) (c0 : ¬ F 2 < 1) (c1 : ¬ 255 < F 2) : en_nearestToRef F A (f_min X Y) (f_abs (X - Y)) = some (clp (F 2) lo hi) := by
  rw [een_nearestToRef]
  have := l5_nr h hx hy hx1 hy1 hl0 hl hh hh1 F c0 c1 1000 1 (by decide) (by decide) (by decide)
  rwa [nrP, nrD, if_neg hl0, if_neg hl0] at this
abbrev cpL (lo v : Int32) : Int32 := if lo < v then lo else 0
abbrev cpH (lo hi v : Int32) : Int32 := if lo < v then (if hi < v then hi else v - 1) else 0
abbrev cpP (lo v d : Int32) : Int32 := if lo < v ∧ 0 < d then 1 else 0
abbrev cpN (lo v d : Int32) : Int32 := if lo < v ∧ d < 0 then 1 else 0
theorem cp_o {hi lo v d : Int32} (r : hi < v ∨ v < lo) (h0 : ¬ v < 1) (h1 : ¬ 255 < v) (hh : ¬ hi < lo) : cpL lo v = cpL lo (v + 1) ∧ cpH lo hi v = cpH lo hi (v + 1) ∧ cpP lo v d = cpP lo (v + 1) d ∧ cpN lo v d = cpN lo (v + 1) d := by
  have e : v + 1 - 1 = v := by grind
  have a : lo < v + 1 ↔ lo < v := by grind
  have b : lo < v → (hi < v ∧ hi < v + 1) := by grind
  simp only [cpL, cpH, cpP, cpN, e, a]
  refine ⟨trivial, ?_, trivial, trivial⟩
  by_cases k : lo < v
  · rw [if_pos k, if_pos k, if_pos (b k).1, if_pos (b k).2]
  · rw [if_neg k, if_neg k]
theorem cp_i {hi lo v d : Int32} (r : ¬ (hi < v ∨ v < lo)) (h0 : ¬ v < 1) (h1 : ¬ 255 < v) (hl0 : ¬ lo < 1) : (if cpL lo v = 0 then v else cpL lo v) = cpL lo (v + 1) ∧ v = cpH lo hi (v + 1) ∧ (if 0 < d then 1 else cpP lo v d) = cpP lo (v + 1) d ∧ (if 0 < d then cpN lo v d else (if d < 0 then 1 else cpN lo v d)) = cpN lo (v + 1) d := by
  have e : v + 1 - 1 = v := by grind
  have a : lo < v + 1 := by grind
  have b : hi < v + 1 → hi = v := by grind
  simp only [cpL, cpH, cpP, cpN, e, a, true_and, if_true]
  refine ⟨by grind, ?_, by grind, by grind⟩
  by_cases k : hi < v + 1
  · rw [if_pos k, b k]
  · rw [if_neg k]
abbrev prc (X Y c lo hi : Int32) : Int32 := if Y < X then hi else (if X < Y then lo else clp c lo hi)
theorem l5_cp {hi X lo Y : Int32} {A : Nat → Int32 → Int32} (h : Dv hi X lo Y A) (hx : ¬ X < 1) (hy : ¬ Y < 1) (hx1 : ¬ 1000 < X) (hy1 : ¬ 1000 < Y) (hl0 : ¬ lo < 1) (hl : ¬ 255 < lo) (hh : ¬ hi < lo) (hh1 : ¬ 255 < hi) (F : Nat → Int32) (c0 : ¬ F 2 < 1) (c1 : ¬ 255 < F 2) : ∀ (n : Nat) (v : Int32), ¬ v < 1 → ¬ 256 < v → (256 : Int32).toInt < v.toInt + (n : Int) → lp_choosePrice n 20 (f_min X Y) (f_abs (X - Y)) (cpP lo v (X - Y)) (cpN lo v (X - Y)) (cpL lo v) (cpH lo hi v) v F A = some (prc X Y (F 2) lo hi) := by
  intro n
  induction n with
  | zero => exact fun v _ h1 h2 => (fu_z h1 h2).elim
  | succ n ih =>
    intro v h0 h1 h2
    rw [lp_choosePrice_20]
    by_cases q : 255 < v
    · have en := o5_nr h hx hy hx1 hy1 hl0 hl hh hh1 F c0 c1
      rw [if_pos q, r_of (eR_nearestToRef F A _ _) en, en]
      have a : lo < v := g5 q hl
      have b : hi < v := g5 q hh1
      have d1 : 0 < X - Y ↔ Y < X := by clear ih en h; grind
      have d2 : X - Y < 0 ↔ X < Y := by clear ih en h; grind
      simp only [cpP, cpN, cpL, cpH, a, b, if_true, true_and, d1, d2, prc, Option.isSome_some]
      have d3 : 0 < f_abs (X - Y) ↔ (Y < X ∨ X < Y) := by rw [e_abs]; clear ih en h; grind
      simp only [d3]
      by_cases y : Y < X
      · have y' : ¬ X < Y := by clear ih en h; grind
        simp [y, y']
      · by_cases y' : X < Y
        · simp [y, y']
        · simp [y, y']
    · have ef := o5_fs h hx hy hx1 hy1 h0 q
      have es := s5 h h0 q
      rw [if_neg q, r_of (eR_inFinalSet A v _ _) ef, r_of (eR_surplus A v) es, if_pos ⟨by rw [ef]; rfl, fun _ => by rw [es]; rfl⟩]
      have go := ih (v + 1) (g6 h0 q) (g7 q) (fu_nxt (g8 q) h2)
      by_cases r : hi < v ∨ v < lo
      · obtain ⟨k1, k2, k3, k4⟩ := cp_o (d := X - Y) r h0 q hh
        rw [if_pos r]; simp only [if_true]; rw [k1, k2, k3, k4]; exact go
      · obtain ⟨k1, k2, k3, k4⟩ := cp_i (d := X - Y) r h0 q hl0
        rw [if_neg r, inr r]; simp only [show ¬ (1 : Int32) = 0 from by decide, if_false]; rw [k1, k3, k4]
        have k2' : lp_choosePrice n 20 (f_min X Y) (f_abs (X - Y)) (cpP lo (v + 1) (X - Y)) (cpN lo (v + 1) (X - Y)) (cpL lo (v + 1)) v (v + 1) F A = lp_choosePrice n 20 (f_min X Y) (f_abs (X - Y)) (cpP lo (v + 1) (X - Y)) (cpN lo (v + 1) (X - Y)) (cpL lo (v + 1)) (cpH lo hi (v + 1)) (v + 1) F A := by
          rw [← k2]
        rw [k2']; exact go
theorem o5_cp {hi X lo Y : Int32} {A : Nat → Int32 → Int32} (h : Dv hi X lo Y A) (hx : ¬ X < 1) (hy : ¬ Y < 1) (hx1 : ¬ 1000 < X) (hy1 : ¬ 1000 < Y) (hl0 : ¬ lo < 1) (hl : ¬ 255 < lo) (hh : ¬ hi < lo) (hh1 : ¬ 255 < hi) (F : Nat → Int32) (c0 : ¬ F 2 < 1) (c1 : ¬ 255 < F 2) : en_choosePrice F A (f_min X Y) = some (prc X Y (F 2) lo hi) := by
  have el := o5_ls h hx hy hx1 hy1 hl0 hl hh
  rw [een_choosePrice, r_of (eR_leastSurplus A _) el, el, ifS]
  have := l5_cp h hx hy hx1 hy1 hl0 hl hh hh1 F c0 c1 1000 1 (by decide) (by decide) (by decide)
  rwa [cpP, cpN, cpL, cpH, if_neg hl0, if_neg (fun k => hl0 k.1), if_neg (fun k => hl0 k.1), if_neg hl0] at this
abbrev SlB (A : Nat → Int32 → Int32) (i a d p q : Int32) : Prop := A 0 i = 1 ∧ A 1 i = a ∧ A 2 i = d ∧ A 3 i = p ∧ A 4 i = q ∧ A 5 i = 0
abbrev Fr (A : Nat → Int32 → Int32) (k : Int32) : Prop := ∀ i : Int32, ¬ i < k → i < 8 → A 0 i = 0
theorem err0 {p q : Int32} (h : f_L_err p q = 0) : ¬ p < 0 ∧ ¬ 255 < p ∧ ¬ q < 1 ∧ ¬ 1000 < q := by
  rw [e_L_err] at h
  by_cases a : p < 0
  · rw [if_pos a] at h; exact absurd h (by decide)
  rw [if_neg a] at h
  by_cases b : 255 < p
  · rw [if_pos b] at h; exact absurd h (by decide)
  rw [if_neg b] at h
  by_cases c : q < 1
  · rw [if_pos c] at h; exact absurd h (by decide)
  rw [if_neg c] at h
  by_cases d : 1000 < q
  · rw [if_pos d] at h; exact absurd h (by decide)
  exact ⟨a, b, c, d⟩
theorem sub_no {F : Nat → Int32} {A : Nat → Int32 → Int32} {a d p q : Int32} (f3 : F 3 = 0) (a0 : ¬ a < 0) (a1 : a < F 1) (hd : d = 0 ∨ d = 1) (h : ¬ f_L_err p q = 0) : en_submit F A a d p q = some (f_L_err p q, F, A) := by
  rw [een_submit, if_pos f3, if_neg a0, if_pos a1]
  rw [e_L_err] at h ⊢
  rcases hd with rfl | rfl
  · rw [if_pos rfl]
    by_cases a : p < 0
    · rw [if_pos a, if_pos a]
    rw [if_neg a, if_neg a]; rw [if_neg a] at h
    by_cases b : 255 < p
    · rw [if_pos b, if_pos b]
    rw [if_neg b, if_neg b]; rw [if_neg b] at h
    by_cases c : q < 1
    · rw [if_pos c, if_pos c]
    rw [if_neg c, if_neg c]; rw [if_neg c] at h
    by_cases d : 1000 < q
    · rw [if_pos d, if_pos d]
    rw [if_neg d] at h; exact absurd rfl h
  · rw [if_neg (by decide), if_pos rfl]
    by_cases a : p < 0
    · rw [if_pos a, if_pos a]
    rw [if_neg a, if_neg a]; rw [if_neg a] at h
    by_cases b : 255 < p
    · rw [if_pos b, if_pos b]
    rw [if_neg b, if_neg b]; rw [if_neg b] at h
    by_cases c : q < 1
    · rw [if_pos c, if_pos c]
    rw [if_neg c, if_neg c]; rw [if_neg c] at h
    by_cases d : 1000 < q
    · rw [if_pos d, if_pos d]
    rw [if_neg d] at h; exact absurd rfl h
def nA (A : Nat → Int32 → Int32) (i a d p q t : Int32) : Nat → Int32 → Int32 := ups (ups (ups (ups (ups (ups (ups A 0 (ups (A 0) i (1 : Int32))) 1 (ups (A 1) i a)) 2 (ups (A 2) i d)) 3 (ups (A 3) i p)) 4 (ups (A 4) i q)) 5 (ups (A 5) i (0 : Int32))) 6 (ups (A 6) i t)
theorem sub_yes {F : Nat → Int32} {A : Nat → Int32 → Int32} {a d p q i : Int32} (f3 : F 3 = 0) (a0 : ¬ a < 0) (a1 : a < F 1) (hd : d = 0 ∨ d = 1) (h : f_L_err p q = 0) (hi : en_findFree F A = some i) (i0 : ¬ i < 0) (i1 : i < 64) : en_submit F A a d p q = some (i, ups F 4 (F 4 + 1), nA A i a d p q (F 4)) := by
  obtain ⟨e1, e2, e3, e4⟩ := err0 h
  rw [een_submit, if_pos f3, if_neg a0, if_pos a1, r_of (eR_findFree F A) hi, hi]
  rcases hd with rfl | rfl
  · rw [if_pos rfl, if_neg e1, if_neg e2, if_neg e3, if_neg e4, ifS, if_neg i0, if_pos i1, nA]
  · rw [if_neg (by decide), if_pos rfl, if_neg e1, if_neg e2, if_neg e3, if_neg e4, ifS, if_neg i0, if_pos i1, nA]
theorem ff0 {F : Nat → Int32} {A : Nat → Int32 → Int32} (f0 : F 0 = 8) (h : A 0 0 = 0) : en_findFree F A = some 0 := by
  rw [een_findFree, lp_findFree_2, f0, if_pos (by decide), if_pos (by decide), if_pos h]
theorem ff1 {F : Nat → Int32} {A : Nat → Int32 → Int32} (f0 : F 0 = 8) (h : ¬ A 0 0 = 0) (h1 : A 0 1 = 0) : en_findFree F A = some 1 := by
  rw [een_findFree, lp_findFree_2, f0, if_pos (by decide), if_pos (by decide), if_neg h, show (0 : Int32) + 1 = 1 from by decide, lp_findFree_2, f0, if_pos (by decide), if_pos (by decide), if_pos h1]
theorem nA_sl (A : Nat → Int32 → Int32) (i a d p q t : Int32) : SlB (nA A i a d p q t) i a d p q := by
  refine ⟨?_, ?_, ?_, ?_, ?_, ?_⟩ <;> simp [nA, ups]
theorem nA_ne (A : Nat → Int32 → Int32) {i j : Int32} (a d p q t : Int32) (h : ¬ j = i) {k : Nat} : nA A i a d p q t k j = A k j := by
  simp only [nA, ups]; repeat' split
  all_goals simp_all [ups]
theorem nA_k (A : Nat → Int32 → Int32) (i j a d p q t : Int32) {k : Nat} (h : 6 < k) : nA A i a d p q t k j = A k j := by
  simp only [nA, ups]; repeat' split
  all_goals simp_all [ups]
theorem bt {F : Nat → Int32} (f0 : F 0 = 8) {m : Int32} {A : Nat → Int32 → Int32} {Q : (Nat → Int32 → Int32) → Prop} (ha : Ok (en_accumulate A m) (fun r => Q r.2)) : ∀ (n : Nat) (v : Int32), ¬ v < 0 → ¬ 8 < v → (8 : Int32).toInt < v.toInt + (n : Int) → Fr A v → Ok (lp_buildCurves n 8 m v F A) (fun r => Q r.2) := by
  intro n
  induction n with
  | zero => exact fun v _ h1 h2 => (fu_z h1 h2).elim
  | succ n ih =>
    intro v h0 h1 h2 h3
    rw [lp_buildCurves_8, f0]
    by_cases q : v < 8
    · rw [if_pos q, if_pos ⟨h0, by clear ih h3; grind⟩, h3 v (irr v) q, if_neg (by decide)]
      exact ih (v + 1) (by clear ih h3; grind) (by clear ih h3; grind) (fu_nxt q h2) (fun i a b => h3 i (by clear ih h3; grind) b)
    · have s := ha.R (eR_accumulate A m)
      rw [if_neg q, if_pos s.1]; refine Ok.ret ?_; dsimp only; exact s.2
theorem b_b {F : Nat → Int32} {A : Nat → Int32 → Int32} {v a p q : Int32} (f0 : F 0 = 8) (v0 : ¬ v < 0) (v1 : v < 8) (p0 : ¬ p < 0) (p1 : ¬ 255 < p) (h : SlB A v a 0 p q) (n : Nat) (m : Int32) : lp_buildCurves (n + 1) 8 m v F A = if p = 0 then lp_buildCurves n 8 (m + q) (v + 1) F A else lp_buildCurves n 8 m (v + 1) F (ups A 9 (ups (A 9) p (A 9 p + q))) := by
  obtain ⟨h0, h1, h2, h3, h4, h5⟩ := h
  have b : ¬ v < 0 ∧ v < 64 := ⟨v0, by grind⟩
  rw [lp_buildCurves_8, f0, h0, h2, h3, h4, if_pos v1, if_pos b, if_pos rfl, if_pos b, if_neg p0, if_neg p1, if_pos b, if_pos rfl, if_pos b, if_pos (show p < 257 ∧ ¬ v < 0 ∧ v < 64 from ⟨g2 p1, b⟩)]
theorem b_s {F : Nat → Int32} {A : Nat → Int32 → Int32} {v a p q : Int32} (f0 : F 0 = 8) (v0 : ¬ v < 0) (v1 : v < 8) (p0 : ¬ p < 0) (p1 : ¬ 255 < p) (h : SlB A v a 1 p q) (n : Nat) (m : Int32) : lp_buildCurves (n + 1) 8 m v F A = lp_buildCurves n 8 m (v + 1) F (ups A 10 (ups (A 10) p (A 10 p + q))) := by
  obtain ⟨h0, h1, h2, h3, h4, h5⟩ := h
  have b : ¬ v < 0 ∧ v < 64 := ⟨v0, by grind⟩
  rw [lp_buildCurves_8, f0, h0, h2, h3, h4, if_pos v1, if_pos b, if_pos rfl, if_pos b, if_neg p0, if_neg p1, if_pos b, if_neg (by decide), if_pos (show p < 257 ∧ ¬ v < 0 ∧ v < 64 from ⟨g2 p1, b⟩)]
theorem bc_eq (F : Nat → Int32) {A : Nat → Int32 → Int32} (h : ZO A) : en_buildCurves F A = lp_buildCurves 1000 8 0 0 F (N A) := by
  rw [een_buildCurves, r_of (eR_clearCurves A) (o_cc h), o_cc h, ifS]
abbrev hiO (b : Int32) : Int32 := if b = 0 then 255 else b
abbrev loO (s : Int32) : Int32 := if s = 0 then 1 else s
abbrev QQ (A : Nat → Int32 → Int32) (hi X lo Y : Int32) (r : Nat → Int32 → Int32) : Prop := ZO r ∧ N r = N A ∧ Dv hi X lo Y r
theorem lo_eq {s Y p : Int32} (h : ¬ p < 1) (hs : ¬ s < 0) : (if p < s then (0 : Int32) else Y) = (if p < loO s then 0 else Y) := by
  rw [loO]; by_cases k : s = 0
  · rw [if_pos k, if_neg h, k, if_neg (g1 h)]
  · rw [if_neg k]
theorem NN (A : Nat → Int32 → Int32) : N (N A) = N A := by
  funext j x; simp only [N, ups]; grind
theorem N9 (A : Nat → Int32 → Int32) (z : Int32) : N A 9 z = 0 := by simp [N, ups]
theorem N10 (A : Nat → Int32 → Int32) (z : Int32) : N A 10 z = 0 := by simp [N, ups]
theorem Nk (A : Nat → Int32 → Int32) {k : Nat} (h : k < 9) (z : Int32) : N A k z = A k z := by
  simp only [N, ups]; rw [if_neg (by omega), if_neg (by omega)]
theorem pt (f : Int32 → Int32) (h : ∀ z, f z = 0) (b X z : Int32) : ups f b (f b + X) z = if z = b then X else 0 := by
  simp only [ups, h, z0]
theorem pz (f : Int32 → Int32) (h : ∀ z, f z = 0) (b z : Int32) : f z = if z = b then 0 else 0 := by
  rw [h, ite_self]
theorem bld {F : Nat → Int32} (f0 : F 0 = 8) {A B : Nat → Int32 → Int32} (zo : ZO B) (hN : N B = N A) {b X m s Y : Int32} (hb : ¬ b < 1) (hb1 : ¬ 255 < b) (hs : ¬ s < 0) (h9 : ∀ z : Int32, B 9 z = if z = b then X else 0) (h10 : ∀ z : Int32, B 10 z = if z = s then Y else 0) {hi X' : Int32}
    (hD : ∀ p : Int32, ¬ p < 1 → ¬ 255 < p → (if b < p then 0 else X) + m = (if hi < p then 0 else X')) (n : Nat) (v : Int32) (v0 : ¬ v < 0) (v1 : ¬ 8 < v) (hn : (8 : Int32).toInt < v.toInt + (n : Int)) (fr : Fr B v) : Ok (lp_buildCurves n 8 m v F B) (fun r => QQ A hi X' (loO s) Y r.2) := by
  refine bt f0 (Q := QQ A hi X' (loO s) Y) ?_ n v v0 v1 hn fr
  refine (o5_ac b X s Y m hs hb hb1 B zo h9 h10).mono fun r h => ⟨h.1.1, h.1.2.trans hN, fun p a c => ?_⟩
  have := h.2 p a c
  rw [this.1, this.2, hD p a c]; exact ⟨rfl, lo_eq a hs⟩

theorem slN {A B : Nat → Int32 → Int32} (h : ∀ k : Nat, k < 9 → B k = A k) {i a d p q : Int32} (s : SlB A i a d p q) : SlB B i a d p q := by
  simp only [SlB]; rw [h 0 (by omega), h 1 (by omega), h 2 (by omega), h 3 (by omega), h 4 (by omega), h 5 (by omega)]; exact s
theorem N_k (A : Nat → Int32 → Int32) (k : Nat) (h : k < 9) : N A k = A k := by funext z; exact Nk A h z
theorem u9k (A : Nat → Int32 → Int32) (f : Int32 → Int32) (k : Nat) (h : k < 9) : ups A 9 f k = A k := ups_ne _ _ (by omega)
theorem u10k (A : Nat → Int32 → Int32) (f : Int32 → Int32) (k : Nat) (h : k < 9) : ups A 10 f k = A k := ups_ne _ _ (by omega)
theorem frN {A B : Nat → Int32 → Int32} (h : ∀ k : Nat, k < 9 → B k = A k) {v : Int32} (s : Fr A v) : Fr B v := by
  intro i a b; rw [h 0 (by omega)]; exact s i a b
theorem dM {X : Int32} (p : Int32) (h : ¬ 255 < p) : (if (1 : Int32) < p then (0 : Int32) else 0) + X = (if 255 < p then 0 else X) := by
  rw [ite_self, z0, if_neg h]
theorem dL {b X : Int32} (p : Int32) : (if b < p then (0 : Int32) else X) + 0 = (if b < p then 0 else X) := x0 _
theorem bN {F : Nat → Int32} (f0 : F 0 = 8) {A : Nat → Int32 → Int32} (zo : ZO A) (fr : Fr A 0) : Ok (en_buildCurves F A) (fun r => QQ A 255 0 1 0 r.2) := by
  rw [bc_eq F zo]
  exact bld f0 (ZO_N A) (NN A) (b := 1) (X := 0) (m := 0) (s := 0) (Y := 0) (by decide) (by decide) (by decide) (pz _ (N9 A) 1) (pz _ (N10 A) 0) (fun p a c => dM p c) 1000 0 (by decide) (by decide) (by decide) (frN (N_k A) fr)
theorem bS {F : Nat → Int32} (f0 : F 0 = 8) {A : Nat → Int32 → Int32} (zo : ZO A) {a s y : Int32} (p0 : ¬ s < 0) (p1 : ¬ 255 < s) (sl : SlB A 0 a 1 s y) (fr : Fr A 1) : Ok (en_buildCurves F A) (fun r => QQ A 255 0 (loO s) y r.2) := by
  rw [bc_eq F zo, b_s f0 (by decide) (by decide) p0 p1 (slN (N_k A) sl)]
  refine bld f0 (ZO_10 (ZO_N A) s _ p0 (g2 p1)) (by rw [N_10, NN]) (b := 1) (X := 0) (m := 0) (s := s) (Y := y) (by decide) (by decide) p0 (pz _ (fun z => ?_) 1) (fun z => ?_) (fun p a c => dM p c) 999 (0 + 1) (by decide) (by decide) (by decide) (frN (fun k h => (u10k _ _ k h).trans (N_k A k h)) fr)
  · rw [ups_ne _ _ (by decide)]; exact N9 A z
  · rw [ups_at]; exact pt _ (N10 A) s y z
theorem bB {F : Nat → Int32} (f0 : F 0 = 8) {A : Nat → Int32 → Int32} (zo : ZO A) {a b x : Int32} (p0 : ¬ b < 0) (p1 : ¬ 255 < b) (sl : SlB A 0 a 0 b x) (fr : Fr A 1) : Ok (en_buildCurves F A) (fun r => QQ A (hiO b) x 1 0 r.2) := by
  rw [bc_eq F zo, b_b f0 (by decide) (by decide) p0 p1 (slN (N_k A) sl)]
  by_cases k : b = 0
  · rw [if_pos k, z0, hiO, if_pos k]
    exact bld f0 (ZO_N A) (NN A) (b := 1) (X := 0) (m := x) (s := 0) (Y := 0) (by decide) (by decide) (by decide) (pz _ (N9 A) 1) (pz _ (N10 A) 0) (fun p a c => dM p c) 999 (0 + 1) (by decide) (by decide) (by decide) (frN (N_k A) fr)
  · rw [if_neg k, hiO, if_neg k]
    refine bld f0 (ZO_9 (ZO_N A) b _ p0 (g2 p1)) (by rw [N_9, NN]) (b := b) (X := x) (m := 0) (s := 0) (Y := 0) (fun h => k (g21 h p0)) p1 (by decide) (fun z => ?_) (pz _ (fun z => ?_) 0) (fun p a c => dL p) 999 (0 + 1) (by decide) (by decide) (by decide) (frN (fun k h => (u9k _ _ k h).trans (N_k A k h)) fr)
    · rw [ups_at]; exact pt _ (N9 A) b x z
    · rw [ups_ne _ _ (by decide)]; exact N10 A z
theorem bBS {F : Nat → Int32} (f0 : F 0 = 8) {A : Nat → Int32 → Int32} (zo : ZO A) {a b x a' s y : Int32} (p0 : ¬ b < 0) (p1 : ¬ 255 < b) (s0 : ¬ s < 0) (s1 : ¬ 255 < s) (sl : SlB A 0 a 0 b x) (sl' : SlB A 1 a' 1 s y) (fr : Fr A 2) : Ok (en_buildCurves F A) (fun r => QQ A (hiO b) x (loO s) y r.2) := by
  rw [bc_eq F zo, b_b f0 (by decide) (by decide) p0 p1 (slN (N_k A) sl)]
  by_cases k : b = 0
  · rw [if_pos k, z0, hiO, if_pos k, show (0 : Int32) + 1 = 1 from by decide, b_s f0 (by decide) (by decide) s0 s1 (slN (N_k A) sl')]
    refine bld f0 (ZO_10 (ZO_N A) s _ s0 (g2 s1)) (by rw [N_10, NN]) (b := 1) (X := 0) (m := x) (s := s) (Y := y) (by decide) (by decide) s0 (pz _ (fun z => ?_) 1) (fun z => ?_) (fun p a c => dM p c) 998 (1 + 1) (by decide) (by decide) (by decide) (frN (fun k h => (u10k _ _ k h).trans (N_k A k h)) fr)
    · rw [ups_ne _ _ (by decide)]; exact N9 A z
    · rw [ups_at]; exact pt _ (N10 A) s y z
  · rw [if_neg k, hiO, if_neg k, show (0 : Int32) + 1 = 1 from by decide, b_s (A := ups (N A) 9 (ups (N A 9) b (N A 9 b + x))) f0 (by decide) (by decide) s0 s1 (slN (fun k h => (u9k _ _ k h).trans (N_k A k h)) sl')]
    refine bld f0 (ZO_10 (ZO_9 (ZO_N A) b _ p0 (g2 p1)) s _ s0 (g2 s1)) (by rw [N_10, N_9, NN]) (b := b) (X := x) (m := 0) (s := s) (Y := y) (fun h => k (g21 h p0)) p1 s0 (fun z => ?_) (fun z => ?_) (fun p a c => dL p) 998 (1 + 1) (by decide) (by decide) (by decide) (frN (fun k h => (u10k _ _ k h).trans ((u9k _ _ k h).trans (N_k A k h))) fr)
    · rw [ups_ne _ _ (by decide), ups_at]; exact pt _ (N9 A) b x z
    · rw [ups_at]; refine pt _ (fun z => ?_) s y z
      rw [ups_ne _ _ (by decide)]; exact N10 A z

theorem el_b {A : Nat → Int32 → Int32} {v a b x P : Int32} (v0 : ¬ v < 0) (v1 : v < 64) (h : SlB A v a 0 b x) (hx : 0 < x) (hP : b = 0 ∨ ¬ b < P) : en_eligible A v 0 P = some 1 := by
  obtain ⟨h0, h1, h2, h3, h4, h5⟩ := h
  have b' : ¬ v < 0 ∧ v < 64 := ⟨v0, v1⟩
  rw [een_eligible, h0, h2, h3, h4, if_pos b', if_pos rfl, if_pos b', if_pos rfl, if_pos b', if_pos hx, if_pos b']
  by_cases k : b = 0
  · rw [if_pos k]
  · rw [if_neg k, if_pos ⟨fun h => absurd rfl h, fun h => absurd rfl h, fun _ => v0, fun _ => v1⟩, if_pos rfl, if_neg (hP.resolve_left k), n1]
theorem el_s {A : Nat → Int32 → Int32} {v a s y P : Int32} (v0 : ¬ v < 0) (v1 : v < 64) (h : SlB A v a 1 s y) (hx : 0 < y) (hP : s = 0 ∨ ¬ P < s) : en_eligible A v 1 P = some 1 := by
  obtain ⟨h0, h1, h2, h3, h4, h5⟩ := h
  have b' : ¬ v < 0 ∧ v < 64 := ⟨v0, v1⟩
  rw [een_eligible, h0, h2, h3, h4, if_pos b', if_pos rfl, if_pos b', if_pos rfl, if_pos b', if_pos hx, if_pos b']
  by_cases k : s = 0
  · rw [if_pos k]
  · rw [if_neg k, if_pos ⟨fun _ => v0, fun _ => v1, fun h => absurd h (by decide), fun h => absurd h (by decide)⟩, if_neg (by decide), if_neg (hP.resolve_left k), n1]
theorem el_f {A : Nat → Int32 → Int32} {v d P : Int32} (v0 : ¬ v < 0) (v1 : v < 64) (h : A 0 v = 0) : en_eligible A v d P = some 0 := by
  rw [een_eligible, h, if_pos ⟨v0, v1⟩, if_neg (by decide)]
theorem el_d {A : Nat → Int32 → Int32} {v d d' a p q P : Int32} (v0 : ¬ v < 0) (v1 : v < 64) (h : A 0 v = 1) (h2 : A 2 v = d') (hd : ¬ d' = d) : en_eligible A v d P = some 0 := by
  rw [een_eligible, h, h2, if_pos ⟨v0, v1⟩, if_pos rfl, if_pos ⟨v0, v1⟩, if_neg hd]
theorem be_t {F : Nat → Int32} (f0 : F 0 = 8) {A : Nat → Int32 → Int32} (d P k : Int32) : ∀ (n : Nat) (v : Int32), ¬ v < 0 → ¬ 8 < v → (8 : Int32).toInt < v.toInt + (n : Int) → (∀ i : Int32, ¬ i < v → i < 8 → en_eligible A i d P = some 0) → lp_bestEligible n 5 d P k v F A = some k := by
  intro n
  induction n with
  | zero => exact fun v _ h1 h2 => (fu_z h1 h2).elim
  | succ n ih =>
    intro v h0 h1 h2 h3
    rw [lp_bestEligible_5, f0]
    by_cases q : v < 8
    · rw [if_pos q, r_of (eR_eligible A v d P) (h3 v (irr v) q), h3 v (irr v) q, ifS, if_pos rfl]
      exact ih (v + 1) (by clear ih h3; grind) (by clear ih h3; grind) (fu_nxt q h2) (fun i a b => h3 i (by clear ih h3; grind) b)
    · rw [if_neg q]
theorem be_0 {F : Nat → Int32} (f0 : F 0 = 8) {A : Nat → Int32 → Int32} {d P : Int32} (h0 : en_eligible A 0 d P = some 1) (h : ∀ i : Int32, ¬ i < 1 → i < 8 → en_eligible A i d P = some 0) : en_bestEligible F A d P = some 0 := by
  rw [een_bestEligible, lp_bestEligible_5, f0, if_pos (by decide), r_of (eR_eligible A 0 d P) h0, h0, ifS, if_neg (by decide), if_pos (by decide), show (0 : Int32) + 1 = 1 from by decide]
  exact be_t f0 d P 0 999 1 (by decide) (by decide) (by decide) h
theorem be_1 {F : Nat → Int32} (f0 : F 0 = 8) {A : Nat → Int32 → Int32} {d P : Int32} (h0 : en_eligible A 0 d P = some 0) (h1 : en_eligible A 1 d P = some 1) (h : ∀ i : Int32, ¬ i < 2 → i < 8 → en_eligible A i d P = some 0) : en_bestEligible F A d P = some 1 := by
  rw [een_bestEligible, lp_bestEligible_5, f0, if_pos (by decide), r_of (eR_eligible A 0 d P) h0, h0, ifS, if_pos rfl, show (0 : Int32) + 1 = 1 from by decide, lp_bestEligible_5, f0, if_pos (by decide), r_of (eR_eligible A 1 d P) h1, h1, ifS, if_neg (by decide), if_pos (by decide), show (1 : Int32) + 1 = 2 from by decide]
  exact be_t f0 d P 1 998 2 (by decide) (by decide) (by decide) h
def fl (A : Nat → Int32 → Int32) (k q : Int32) : Nat → Int32 → Int32 := ups (ups A 4 (ups (A 4) k (A 4 k - q))) 5 (ups (A 5) k (A 5 k + q))
theorem al_1 {F : Nat → Int32} {A : Nat → Int32 → Int32} {d P m k : Int32} {B : Nat → Int32 → Int32} (hb : en_bestEligible F A d P = some k) (k0 : ¬ k < 0) (k1 : k < 64) (hm : 0 < m) (hq : f_min (A 4 k) m = m) (hc : en_creditAccount (fl A k m) k m = some (0, B)) : en_allocateSide F A d P m = some (0, B) := by
  rw [een_allocateSide, lp_allocateSide_6, if_pos (by decide), if_pos hm, r_of (eR_bestEligible F A d P) hb, hb, ifS, if_neg k0, hq]
  rw [fl] at hc
  rw [r_of (eR_creditAccount _ _ _) hc, hc, if_pos ⟨k1, rfl⟩, lp_allocateSide_6, if_pos (by decide), if_neg (by rw [Int32.sub_self]; decide)]
theorem cr_b {A : Nat → Int32 → Int32} {q : Int32} (h1 : A 1 0 = 0) (h2 : A 2 0 = 0) : en_creditAccount A 0 q = some (0, ups A 7 (ups (A 7) 0 (A 7 0 + q))) := by
  rw [een_creditAccount, h1, h2, if_pos (by decide), if_neg (by decide), if_pos (by decide), if_pos (by decide), if_pos rfl]
theorem cr_s {A : Nat → Int32 → Int32} {q : Int32} (h1 : A 1 1 = 1) (h2 : A 2 1 = 1) : en_creditAccount A 1 q = some (0, ups A 8 (ups (A 8) 1 (A 8 1 + q))) := by
  rw [een_creditAccount, h1, h2, if_pos (by decide), if_neg (by decide), if_pos (by decide), if_pos (by decide), if_neg (by decide)]
theorem l_md {F : Nat → Int32} (f0 : F 0 = 8) : ∀ (n : Nat) (v : Int32) (A B : Nat → Int32 → Int32), ¬ v < 0 → ¬ 8 < v → (8 : Int32).toInt < v.toInt + (n : Int) → (∀ j : Nat, ¬ j = 0 → A j = B j) → (∀ i : Int32, A 0 i = if i < v ∧ ¬ i < 0 ∧ B 0 i = 1 ∧ B 4 i = 0 then 2 else B 0 i) → Ok (lp_markDone n 2 v F A) (fun r => (∀ j : Nat, ¬ j = 0 → r.2 j = B j) ∧ ∀ i : Int32, ¬ i < 0 → i < 8 → r.2 0 i = if B 0 i = 1 ∧ B 4 i = 0 then 2 else B 0 i) := by
  intro n
  induction n with
  | zero => exact fun v A B _ h1 h2 => (fu_z h1 h2).elim
  | succ n ih =>
    intro v A B h0 h1 h2 h3 h4
    rw [lp_markDone_2, f0]
    by_cases q : v < 8
    · have b : ¬ v < 0 ∧ v < 64 := ⟨h0, by clear ih h3 h4; grind⟩
      have e := h4 v
      rw [if_neg (fun k => irr v k.1)] at e
      have w : ∀ i : Int32, i < v + 1 ↔ (i < v ∨ i = v) := by clear ih h3 h4; grind
      have go := fun A' => ih (v + 1) A' B (by clear ih h3 h4; grind) (by clear ih h3 h4; grind) (fu_nxt q h2)
      rw [if_pos q, if_pos b, e, h3 4 (by decide)]
      by_cases c : B 0 v = 1
      · rw [if_pos c, if_pos b]
        by_cases d : B 4 v = 0
        · rw [if_pos d, if_pos b]
          refine go _ (fun j hj => ?_) fun i => ?_
          · rw [ups_ne _ _ hj]; exact h3 j hj
          · rw [ups_at]; simp only [w]
            by_cases z : i = v
            · subst z; rw [ups_at, if_pos ⟨Or.inr rfl, h0, c, d⟩]
            · rw [ups_ne _ _ z, h4 i]; simp [z]
        · rw [if_neg d]
          refine go A h3 fun i => ?_
          simp only [w]
          by_cases z : i = v
          · subst z; rw [e, if_neg (fun k => d k.2.2.2)]
          · rw [h4 i]; simp [z]
      · rw [if_neg c]
        refine go A h3 fun i => ?_
        simp only [w]
        by_cases z : i = v
        · subst z; rw [e, if_neg (fun k => c k.2.2.1)]
        · rw [h4 i]; simp [z]
    · rw [if_neg q]
      refine Ok.ret ⟨h3, fun i a b => ?_⟩
      dsimp only
      rw [h4 i]
      have : i < v := by clear ih h3 h4; grind
      simp [this, a]
theorem o5_md {F : Nat → Int32} (f0 : F 0 = 8) (A : Nat → Int32 → Int32) : Ok (en_markDone F A) (fun r => (∀ j : Nat, ¬ j = 0 → r.2 j = A j) ∧ ∀ i : Int32, ¬ i < 0 → i < 8 → r.2 0 i = if A 0 i = 1 ∧ A 4 i = 0 then 2 else A 0 i) := by
  rw [een_markDone]
  refine l_md f0 1000 0 A A (by decide) (by decide) (by decide) (fun _ _ => rfl) fun i => ?_
  rw [if_neg (fun k => k.2.1 k.1)]
theorem prr {X Y c lo hi : Int32} (hh : ¬ hi < lo) : ¬ prc X Y c lo hi < lo ∧ ¬ hi < prc X Y c lo hi := by
  simp only [prc, clp]; grind
theorem el1 {b P : Int32} (h : ¬ hiO b < P) : b = 0 ∨ ¬ b < P := by
  by_cases k : b = 0
  · exact Or.inl k
  · rw [hiO, if_neg k] at h; exact Or.inr h
theorem el2 {s P : Int32} (h : ¬ P < loO s) : s = 0 ∨ ¬ P < s := by
  by_cases k : s = 0
  · exact Or.inl k
  · rw [loO, if_neg k] at h; exact Or.inr h
theorem mle {X Y : Int32} : f_min X (f_min X Y) = f_min X Y ∧ f_min Y (f_min X Y) = f_min X Y := by
  simp only [e_min]; grind
theorem mp {X Y : Int32} (hx : ¬ X < 1) (hy : ¬ Y < 1) : 0 < f_min X Y := by
  simp only [e_min]; grind
theorem p1 {X : Int32} (hx : ¬ X < 1) : 0 < X := by grind
theorem hiO_r {b : Int32} (h0 : ¬ b < 0) (h1 : ¬ 255 < b) : ¬ hiO b < 1 ∧ ¬ 255 < hiO b := by simp only [hiO]; grind
theorem loO_r {b : Int32} (h0 : ¬ b < 0) (h1 : ¬ 255 < b) : ¬ loO b < 1 ∧ ¬ 255 < loO b := by simp only [loO]; grind
abbrev Fi (F : Nat → Int32) (cr : Int32) : Prop := F 0 = 8 ∧ F 1 = 2 ∧ F 2 = cr ∧ F 3 = 0
abbrev Po (m p cr : Int32) (F : Nat → Int32) (A : Nat → Int32 → Int32) : Prop := (F 0 = 8 ∧ F 1 = 2 ∧ F 2 = cr ∧ F 3 = 1 ∧ F 5 = p ∧ F 6 = m) ∧ A 7 0 = m ∧ A 8 1 = m
abbrev So (A : Nat → Int32 → Int32) (i q m : Int32) : Prop := A 0 i = (if q - m = 0 then 2 else 1) ∧ A 4 i = q - m ∧ A 5 i = m
theorem QQk {A B : Nat → Int32 → Int32} {hi X lo Y : Int32} (h : QQ A hi X lo Y B) (k : Nat) (hk : k < 9) : B k = A k := N_j h.2.1 k (by omega) (by omega)
theorem two' {i : Int32} (h : ¬ i < 1) (h1 : ¬ i = 1) : ¬ i < 2 := by grind
theorem one0 {i : Int32} (h : ¬ i < 1) (h1 : i < 8) : ¬ i < 0 ∧ i < 64 := by grind
theorem two0 {i : Int32} (h : ¬ i < 2) (h1 : i < 8) : ¬ i < 0 ∧ i < 64 ∧ ¬ i = 0 ∧ ¬ i = 1 := by grind
theorem alB {F : Nat → Int32} (f0 : F 0 = 8) {B : Nat → Int32 → Int32} {b x s y P m : Int32} (sl : SlB B 0 0 0 b x) (sl' : SlB B 1 1 1 s y) (fr : Fr B 2) (hx : 0 < x) (hm : 0 < m) (hq : f_min x m = m) (hP : b = 0 ∨ ¬ b < P) :
    en_allocateSide F B 0 P m = some (0, ups (fl B 0 m) 7 (ups (fl B 0 m 7) 0 (fl B 0 m 7 0 + m))) := by
  refine al_1 (k := 0) (be_0 f0 (el_b (by decide) (by decide) sl hx hP) fun i a c => ?_) (by decide) (by decide) hm (by rw [sl.2.2.2.2.1]; exact hq) (cr_b ?_ ?_)
  · by_cases k : i = 1
    · subst k; exact el_d (a := 0) (p := 0) (q := 0) (by decide) (by decide) sl'.1 sl'.2.2.1 (by decide)
    · exact el_f (one0 a c).1 (one0 a c).2 (fr i (two' a k) c)
  · simp [fl, ups]; exact sl.2.1
  · simp [fl, ups]; exact sl.2.2.1
theorem alS {F : Nat → Int32} (f0 : F 0 = 8) {B : Nat → Int32 → Int32} {s y P m : Int32} (h0 : B 0 0 = 1) (h2 : B 2 0 = 0) (sl' : SlB B 1 1 1 s y) (fr : Fr B 2) (hx : 0 < y) (hm : 0 < m) (hq : f_min y m = m) (hP : s = 0 ∨ ¬ P < s) :
    en_allocateSide F B 1 P m = some (0, ups (fl B 1 m) 8 (ups (fl B 1 m 8) 1 (fl B 1 m 8 1 + m))) := by
  refine al_1 (k := 1) (be_1 f0 (el_d (a := 0) (p := 0) (q := 0) (by decide) (by decide) h0 h2 (by decide)) (el_s (by decide) (by decide) sl' hx hP) fun i a c => ?_) (by decide) (by decide) hm (by rw [sl'.2.2.2.2.1]; exact hq) (cr_s ?_ ?_)
  · exact el_f (two0 a c).1 (two0 a c).2.1 (fr i a c)
  · simp [fl, ups]; exact sl'.2.1
  · simp [fl, ups]; exact sl'.2.2.1
theorem fr_ups {A : Nat → Int32 → Int32} {v : Int32} (h : Fr A v) (B : Nat → Int32 → Int32) (e : B 0 = A 0) : Fr B v := by
  intro i a b; rw [e]; exact h i a b
theorem unc_no {F : Nat → Int32} {A : Nat → Int32 → Int32} {cr : Int32} (fi : Fi F cr) (zo : ZO A) {hi X lo Y : Int32} (hb : Ok (en_buildCurves F A) (fun r => QQ A hi X lo Y r.2)) (hX : ¬ X < 0) (hY : ¬ Y < 0) (hl0 : ¬ lo < 1) (hl : ¬ 255 < lo) (hz : (if hi < lo then 0 else f_min X Y) = 0) (a7 : A 7 0 = 0) (a8 : A 8 1 = 0) :
    Ok (en_uncross F A) (fun r => r.1 = 0 ∧ Po 0 0 cr r.2.1 r.2.2 ∧ ∀ k : Nat, k < 9 → r.2.2 k = A k) := by
  have sb := hb.R (eR_buildCurves F A)
  have s2 : QQ A hi X lo Y (R_buildCurves F A).2 := sb.2
  obtain ⟨f0, f1, f2, f3⟩ := fi
  rw [een_uncross, if_pos f3]
  generalize (R_buildCurves F A).2 = B at *
  have em := o5_mv s2.2.2 hX hY hl0 hl
  rw [hz] at em
  rw [r_of (eR_maxVolume B) em, em, if_pos ⟨sb.1, rfl⟩, if_neg (by decide)]
  refine Ok.ret ⟨rfl, ⟨?_, ?_, ?_⟩, QQk s2⟩
  · simp [ups, f0, f1, f2]
  · dsimp only; rw [QQk s2 7 (by omega)]; exact a7
  · dsimp only; rw [QQk s2 8 (by omega)]; exact a8
theorem unc_yes {F : Nat → Int32} {A : Nat → Int32 → Int32} {cr b x s y : Int32} (fi : Fi F cr) (c0 : ¬ cr < 1) (c1 : ¬ 255 < cr) (zo : ZO A) (b0 : ¬ b < 0) (b1 : ¬ 255 < b) (s0 : ¬ s < 0) (s1 : ¬ 255 < s) (hx : ¬ x < 1) (hx1 : ¬ 1000 < x) (hy : ¬ y < 1) (hy1 : ¬ 1000 < y) (sl : SlB A 0 0 0 b x) (sl' : SlB A 1 1 1 s y) (fr : Fr A 2) (hh : ¬ hiO b < loO s) (a7 : A 7 0 = 0) (a8 : A 8 1 = 0) :
    Ok (en_uncross F A) (fun r => r.1 = f_min x y ∧ Po (f_min x y) (prc x y cr (loO s) (hiO b)) cr r.2.1 r.2.2 ∧ So r.2.2 0 x (f_min x y) ∧ So r.2.2 1 y (f_min x y)) := by
  obtain ⟨f0, f1, f2, f3⟩ := fi
  have sb := (bBS f0 zo b0 b1 s0 s1 sl sl' fr).R (eR_buildCurves F A)
  have s2 : QQ A (hiO b) x (loO s) y (R_buildCurves F A).2 := sb.2
  rw [een_uncross, if_pos f3]
  generalize (R_buildCurves F A).2 = B at *
  have em := o5_mv s2.2.2 (g1 hx) (g1 hy) (loO_r s0 s1).1 (loO_r s0 s1).2
  rw [if_neg hh] at em
  have ec := o5_cp s2.2.2 hx hy hx1 hy1 (loO_r s0 s1).1 (loO_r s0 s1).2 hh (hiO_r b0 b1).2 F (by rw [f2]; exact c0) (by rw [f2]; exact c1)
  rw [f2] at ec
  have pr := prr (X := x) (Y := y) (c := cr) hh
  have hm := mp hx hy
  rw [r_of (eR_maxVolume B) em, em, if_pos ⟨sb.1, rfl⟩, if_pos hm, r_of (eR_choosePrice F B _) ec]
  generalize prc x y cr (loO s) (hiO b) = P at *
  have hq := (mle (X := x) (Y := y))
  generalize hM : f_min x y = M at *
  have k := fun k h => QQk s2 k h
  have slb := slN k sl
  have sls := slN k sl'
  have frb := frN k fr
  have a7' : B 7 0 = 0 := by rw [k 7 (by omega)]; exact a7
  have a8' : B 8 1 = 0 := by rw [k 8 (by omega)]; exact a8
  clear k
  have e1 := alB f0 slb sls frb (p1 hx) hm hq.1 (el1 pr.2)
  rw [r_of (eR_allocateSide F B _ _ _) e1]
  generalize hC : ups (fl B 0 M) 7 (ups (fl B 0 M 7) 0 (fl B 0 M 7 0 + M)) = C at *
  have C0 : C 0 = B 0 := by rw [← hC]; simp [ups, fl]
  have C1 : C 1 = B 1 := by rw [← hC]; simp [ups, fl]
  have C2 : C 2 = B 2 := by rw [← hC]; simp [ups, fl]
  have C3 : C 3 = B 3 := by rw [← hC]; simp [ups, fl]
  have C8 : C 8 = B 8 := by rw [← hC]; simp [ups, fl]
  have C4 : C 4 = ups (B 4) 0 (x - M) := by rw [← hC, ← slb.2.2.2.2.1]; simp [ups, fl]
  have C5 : C 5 = ups (B 5) 0 M := by
    rw [← hC]; simp [ups, fl, slb.2.2.2.2.2]
  have C7 : C 7 0 = M := by rw [← hC]; simp [ups, fl, a7']
  have n10 : ¬ (1 : Int32) = 0 := by decide
  have slc : SlB C 1 1 1 s y := by
    simp only [SlB]; rw [C0, C1, C2, C3, C4, C5, ups_ne _ _ n10, ups_ne _ _ n10]; exact sls
  have e2 := alS f0 (B := C) (by rw [C0]; exact slb.1) (by rw [C2]; exact slb.2.2.1) slc (fr_ups frb C C0) (p1 hy) hm hq.2 (el2 pr.1)
  dsimp only
  rw [r_of (eR_allocateSide F C _ _ _) e2]
  generalize hD : ups (fl C 1 M) 8 (ups (fl C 1 M 8) 1 (fl C 1 M 8 1 + M)) = D at *
  have D0 : D 0 = B 0 := by rw [← hD, ← C0]; simp [ups, fl]
  have D40 : D 4 0 = x - M := by rw [← hD]; simp [ups, fl, C4]
  have D41 : D 4 1 = y - M := by rw [← hD]; simp [ups, fl, slc.2.2.2.2.1]
  have D50 : D 5 0 = M := by rw [← hD]; simp [ups, fl, C5]
  have D51 : D 5 1 = M := by rw [← hD]; simp [ups, fl, slc.2.2.2.2.2]
  have D7 : D 7 0 = M := by rw [← hD]; simp [ups, fl, C7]
  have D8 : D 8 1 = M := by rw [← hD]; simp [ups, fl, C8, a8']
  have em := (o5_md f0 D).R (eR_markDone F D)
  dsimp only
  have m2 : (∀ j : Nat, ¬ j = 0 → (R_markDone F D).2 j = D j) ∧ ∀ i : Int32, ¬ i < 0 → i < 8 → (R_markDone F D).2 0 i = if D 0 i = 1 ∧ D 4 i = 0 then 2 else D 0 i := em.2
  have em1 := em.1
  generalize (R_markDone F D).2 = E at *
  clear em
  rw [e1, e2]
  refine Ok.ift ⟨by rw [ec]; rfl, rfl, rfl, em1⟩ (Ok.ret ⟨rfl, ⟨?_, ?_, ?_⟩, ⟨?_, ?_, ?_⟩, ⟨?_, ?_, ?_⟩⟩)
  · simp [ups, f0, f1, f2]
  · dsimp only; rw [m2.1 7 (by decide)]; exact D7
  · dsimp only; rw [m2.1 8 (by decide)]; exact D8
  · dsimp only; rw [m2.2 0 (by decide) (by decide), D0, slb.1, D40]; simp
  · dsimp only; rw [m2.1 4 (by decide)]; exact D40
  · dsimp only; rw [m2.1 5 (by decide)]; exact D50
  · dsimp only; rw [m2.2 1 (by decide) (by decide), D0, sls.1, D41]; simp
  · dsimp only; rw [m2.1 4 (by decide)]; exact D41
  · dsimp only; rw [m2.1 5 (by decide)]; exact D51
theorem of0 {F : Nat → Int32} {A : Nat → Int32 → Int32} (f0 : F 0 = 8) {i : Int32} (i0 : ¬ i < 0) (i1 : i < 8) : en_orderField F A i 0 = some (A 0 i) ∧ en_orderField F A i 4 = some (A 4 i) ∧ en_orderField F A i 5 = some (A 5 i) := by
  have i2 : i < 64 := by grind
  refine ⟨?_, ?_, ?_⟩
  · rw [een_orderField, f0, if_neg i0, if_pos i1, if_neg (by decide), if_neg (by decide), if_pos rfl, if_pos i2]
  · rw [een_orderField, f0, if_neg i0, if_pos i1, if_neg (by decide), if_neg (by decide), if_neg (by decide), if_neg (by decide), if_neg (by decide), if_neg (by decide), if_pos rfl, if_pos i2]
  · rw [een_orderField, f0, if_neg i0, if_pos i1, if_neg (by decide), if_neg (by decide), if_neg (by decide), if_neg (by decide), if_neg (by decide), if_neg (by decide), if_neg (by decide), if_pos rfl, if_pos i2]
theorem slo {F : Nat → Int32} {A : Nat → Int32 → Int32} (f0 : F 0 = 8) {i q m : Int32} (i0 : ¬ i < 0) (i1 : i < 8) (h : So A i q m) : en_L_slot F A i (q - m) m = some 1 := by
  obtain ⟨o0, o4, o5⟩ := of0 (A := A) f0 i0 i1
  rw [een_L_slot, r_of (eR_orderField F A i 0) o0, r_of (eR_orderField F A i 4) o4, r_of (eR_orderField F A i 5) o5, o0, o4, o5, ifS, ifS, ifS, if_pos h.1, if_pos h.2.1, if_pos h.2.2, n1]
theorem l_r63 {F : Nat → Int32} : ∀ (n : Nat) (v : Int32) (A : Nat → Int32 → Int32), ¬ v < 0 → ¬ 16 < v → (16 : Int32).toInt < v.toInt + (n : Int) → (0 < v → A 7 0 = 0) → Ok (lp_reopen n 63 v F A) (fun r => r.1 = 0 ∧ r.2.1 1 = F 1 ∧ r.2.1 2 = (if 0 < F 6 then F 5 else F 2) ∧ r.2.1 6 = 0 ∧ r.2.2 7 0 = 0) := by
  intro n
  induction n with
  | zero => exact fun v A _ h1 h2 => (fu_z h1 h2).elim
  | succ n ih =>
    intro v A h0 h1 h2 h3
    rw [lp_reopen_63]
    refine Ok.ite (fun q => Ok.ift h0 (ih (v + 1) _ (by clear ih; grind) (by clear ih; grind) (fu_nxt q h2) fun _ => ?_)) fun q => Ok.ite (fun k => ?_) fun k => ?_
    · rw [ups_ne _ _ (by decide), ups_at]
      by_cases e : (0 : Int32) = v
      · rw [← e, ups_at]
      · rw [ups_ne _ _ e]; exact h3 (by clear ih h3; grind)
    · have := h3 (by clear ih h3; grind)
      exact Ok.ret ⟨rfl, by simp [ups], by simp [ups, k], by simp [ups], this⟩
    · have := h3 (by clear ih h3; grind)
      exact Ok.ret ⟨rfl, by simp [ups], by simp [ups, k], by simp [ups], this⟩
theorem l_r12 {F : Nat → Int32} (f0 : F 0 = 8) : ∀ (n : Nat) (v : Int32) (A : Nat → Int32 → Int32), ¬ v < 0 → ¬ 8 < v → (60 : Int32).toInt < v.toInt + (n : Int) → Ok (lp_reopen n 12 v F A) (fun r => r.1 = 0 ∧ r.2.1 1 = F 1 ∧ r.2.1 2 = (if 0 < F 6 then F 5 else F 2) ∧ r.2.1 6 = 0 ∧ r.2.2 7 0 = 0) := by
  intro n
  induction n with
  | zero => exact fun v A h0 h1 h2 => (fu_z (show ¬ (60 : Int32) < v by grind) h2).elim
  | succ n ih =>
    intro v A h0 h1 h2
    rw [lp_reopen_12, f0]
    refine Ok.ite (fun q => ?_) fun q => l_r63 n 0 A (by decide) (by decide) ?_ (fun h => absurd h (by decide))
    · have b : ¬ v < 0 ∧ v < 64 := ⟨h0, by clear ih; grind⟩
      have go := fun A => ih (v + 1) A (by clear ih; grind) (by clear ih; grind) (fu_nxt (by clear ih; grind) h2)
      refine Ok.ift b (Ok.ite (fun _ => Ok.ift (by rw [een_clearSlot, if_pos b]; rfl) (go _)) fun _ => Ok.ift b (Ok.ite (fun _ => Ok.ift b (go _)) fun _ => go _))
    · have : v = 8 := by clear ih; grind
      subst this
      have z1 : (8 : Int32).toInt = 8 := by decide
      have z2 : (60 : Int32).toInt = 60 := by decide
      have z3 : (16 : Int32).toInt = 16 := by decide
      have z4 : (0 : Int32).toInt = 0 := by decide
      omega
theorem o5_re {F : Nat → Int32} (f0 : F 0 = 8) (f3 : F 3 = 1) (A : Nat → Int32 → Int32) : Ok (en_reopen F A) (fun r => r.1 = 0 ∧ r.2.1 1 = F 1 ∧ r.2.1 2 = (if 0 < F 6 then F 5 else F 2) ∧ r.2.1 6 = 0 ∧ r.2.2 7 0 = 0) := by
  rw [een_reopen, if_pos f3]; exact l_r12 f0 1000 0 A (by decide) (by decide) (by decide)
theorem t410 {F : Nat → Int32} {A : Nat → Int32 → Int32} {cr m p : Int32} (f1 : F 1 = 2) (f2 : F 2 = (if 0 < m then p else cr)) (f6 : F 6 = 0) (a7 : A 7 0 = 0) (n : Nat) : lp_L_law (n + 1) 410 0 0 0 0 0 cr 0 0 0 0 0 0 0 m p F A = some 1 := by
  have e : en_accountBought F A 0 = some 0 := by rw [een_accountBought, f1, if_neg (by decide), if_pos (by decide), if_pos (by decide), a7]
  rw [lp_L_law_410, e_getReference, if_pos f2, r_of (eR_accountBought F A 0) e, e, ifS, if_pos rfl, e_getLastVolume, if_pos f6, n1]
theorem t298 {F : Nat → Int32} {A : Nat → Int32 → Int32} {cr m p v1 v3 v9 v10 v13 : Int32} (h : Po m p cr F A) (hb : ¬ v9 = 0 → So A 0 v1 m) (hs : ¬ v10 = 0 → So A v13 v3 m) (w0 : ¬ v13 < 0) (w1 : v13 < 8) (n : Nat) : lp_L_law (n + 2) 298 0 v1 0 v3 0 cr 0 0 v9 v10 0 0 v13 m p F A = some 1 := by
  obtain ⟨⟨f0, f1, f2, f3, f5, f6⟩, a7, a8⟩ := h
  have eb : en_accountBought F A 0 = some m := by rw [een_accountBought, f1, if_neg (by decide), if_pos (by decide), if_pos (by decide), a7]
  have es : en_accountSold F A 1 = some m := by rw [een_accountSold, f1, if_neg (by decide), if_pos (by decide), if_pos (by decide), a8]
  have sr := (o5_re f0 f3 A).R (eR_reopen F A)
  have s2 : (R_reopen F A).1 = 0 ∧ (R_reopen F A).2.1 1 = F 1 ∧ (R_reopen F A).2.1 2 = (if 0 < F 6 then F 5 else F 2) ∧ (R_reopen F A).2.1 6 = 0 ∧ (R_reopen F A).2.2 7 0 = 0 := sr.2
  have s1 := sr.1
  rw [lp_L_law_298, e_getLastPrice, e_getLastVolume, e_getPhase, if_pos f5, if_pos f6, if_pos f3, r_of (eR_accountBought F A 0) eb, eb, ifS, if_pos rfl, r_of (eR_accountSold F A 1) es, es, ifS, if_pos rfl]
  have fin : lp_L_law (n + 1) 410 0 0 0 0 0 cr 0 0 0 0 0 0 0 m p (R_reopen F A).2.1 (R_reopen F A).2.2 = some 1 :=
    t410 (s2.2.1.trans f1) (s2.2.2.1.trans (by rw [f6, f5, f2])) s2.2.2.2.1 s2.2.2.2.2 n
  rw [fin, if_pos s1, if_pos s2.1]
  have q1 : (1 : Int32) = 0 ↔ False := by decide
  by_cases a : v9 = 0
  · rw [if_pos a]
    by_cases c : v10 = 0
    · rw [if_pos c]
    · have e := slo f0 w0 w1 (hs c)
      rw [if_neg c, r_of (eR_L_slot F A _ _ _) e, e, ifS, if_neg (by decide)]
  · have e := slo f0 (by decide) (by decide) (hb a)
    rw [if_neg a, r_of (eR_L_slot F A _ _ _) e, e, ifS, if_neg (by decide)]
    by_cases c : v10 = 0
    · rw [if_pos c]
    · have e := slo f0 w0 w1 (hs c)
      rw [if_neg c, r_of (eR_L_slot F A _ _ _) e, e, ifS, if_neg (by decide)]
theorem mid {F : Nat → Int32} {K : (Nat → Int32 → Int32) → Prop} {hi X lo Y cr M P v0 v1 v2 v3 v7 v8 v9 v10 v11 v12 : Int32} (fi : Fi F cr)
    (kb : ∀ A, K A → Ok (en_buildCurves F A) (fun r => QQ A hi X lo Y r.2)) (kk : ∀ A B, K A → ZO B → (∀ k : Nat, k < 9 → B k = A k) → K B)
    (hX : ¬ X < 0) (hY : ¬ Y < 0) (hl0 : ¬ lo < 1) (hl : ¬ 255 < lo) (hM : (if hi < lo then 0 else f_min X Y) = M)
    (hP : (M = 0 ∧ P = 0) ∨ (¬ M = 0 ∧ ∀ B, Dv hi X lo Y B → en_choosePrice F B M = some P))
    (unc : ∀ A, K A → Ok (en_uncross F A) (fun r => r.1 = M ∧ Po M P cr r.2.1 r.2.2 ∧ (¬ v9 = 0 → So r.2.2 0 v1 M) ∧ (¬ v10 = 0 → So r.2.2 (if v9 = 0 then 0 else 1) v3 M)))
    (h11 : v11 = (if v9 = 0 then v7 else 0)) (h12 : v12 = (if v10 = 0 then v8 else (if v9 = 0 then 0 else 1)))
    (eM : (if v9 = 0 then (0 : Int32) else (if v10 = 0 then (0 : Int32) else (if (if v0 = 0 then (255 : Int32) else v0) < (if v2 = 0 then (1 : Int32) else v2) then (0 : Int32) else (if v1 < v3 then v1 else v3)))) = M)
    (eP : (if v9 = 0 then (0 : Int32) else (if v10 = 0 then (0 : Int32) else (if (if v0 = 0 then (255 : Int32) else v0) < (if v2 = 0 then (1 : Int32) else v2) then (0 : Int32) else (if v3 < v1 then (if v0 = 0 then (255 : Int32) else v0) else (if v1 < v3 then (if v2 = 0 then (1 : Int32) else v2) else (if cr < (if v2 = 0 then (1 : Int32) else v2) then (if v2 = 0 then (1 : Int32) else v2) else (if (if v0 = 0 then (255 : Int32) else v0) < cr then (if v0 = 0 then (255 : Int32) else v0) else cr))))))) = P)
    (A : Nat → Int32 → Int32) (hk : K A) (n : Nat) : lp_L_law (n + 5) 102 v0 v1 v2 v3 0 cr v7 v8 v9 v10 v11 v12 0 0 0 F A = some 1 := by
  have bc : ∀ A, K A → (en_buildCurves F A).isSome = true ∧ QQ A hi X lo Y (R_buildCurves F A).2 := fun A h => (kb A h).R (eR_buildCurves F A)
  have mv : ∀ B, Dv hi X lo Y B → en_maxVolume B = some M := fun B h => by rw [o5_mv h hX hY hl0 hl, hM]
  have iv : ∀ A, K A → en_indicativeVolume F A = some (M, (R_buildCurves F A).2) := fun A h => by
    have m := mv _ (bc A h).2.2.2
    rw [een_indicativeVolume, r_of (eR_maxVolume _) m, m, if_pos ⟨(bc A h).1, rfl⟩]
  have ip : ∀ A, K A → en_indicativePrice F A = some (P, (R_buildCurves F A).2) := fun A h => by
    have m := mv _ (bc A h).2.2.2
    rw [een_indicativePrice, r_of (eR_maxVolume _) m, m, if_pos ⟨(bc A h).1, rfl⟩]
    rcases hP with ⟨a, b⟩ | ⟨a, b⟩
    · rw [if_pos a, b]
    · have c := b _ (bc A h).2.2.2
      rw [if_neg a, r_of (eR_choosePrice _ _ _) c, c, ifS]
  have nx : ∀ A, K A → K (R_buildCurves F A).2 := fun A h => kk A _ h (bc A h).2.1 (QQk (bc A h).2)
  rw [lp_L_law_102, if_pos h11, if_pos h12, r_of (eR_indicativeVolume F A) (iv A hk), iv A hk, ifS, eM, eP, if_pos rfl]
  have k1 := nx A hk
  dsimp only
  generalize (R_buildCurves F A).2 = B at *
  rw [lp_L_law_274, r_of (eR_indicativePrice F B) (ip B k1), ip B k1, ifS, if_pos rfl]
  have k2 := nx B k1
  dsimp only
  generalize (R_buildCurves F B).2 = C at *
  have u := (unc C k2).R (eR_uncross F C)
  have u2 : (R_uncross F C).1 = M ∧ Po M P cr (R_uncross F C).2.1 (R_uncross F C).2.2 ∧ (¬ v9 = 0 → So (R_uncross F C).2.2 0 v1 M) ∧ (¬ v10 = 0 → So (R_uncross F C).2.2 (if v9 = 0 then 0 else 1) v3 M) := u.2
  have u1 := u.1
  rw [lp_L_law_286, if_pos u1, if_pos u2.1]
  exact t298 u2.2.1 u2.2.2.1 u2.2.2.2 (by split <;> decide) (by split <;> decide) n
abbrev K5 (b x s y : Int32) (hb hs : Prop) (i : Int32) (v : Int32) (A : Nat → Int32 → Int32) : Prop := ZO A ∧ (hb → SlB A 0 0 0 b x) ∧ (hs → SlB A i 1 1 s y) ∧ Fr A v ∧ A 7 0 = 0 ∧ A 8 1 = 0
theorem K5k {b x s y i v : Int32} {hb hs : Prop} (A B : Nat → Int32 → Int32) (h : K5 b x s y hb hs i v A) (zo : ZO B) (k : ∀ k : Nat, k < 9 → B k = A k) : K5 b x s y hb hs i v B := by
  obtain ⟨h1, h2, h3, h4, h5, h6⟩ := h
  exact ⟨zo, fun e => slN k (h2 e), fun e => slN k (h3 e), frN k h4, by rw [k 7 (by omega)]; exact h5, by rw [k 8 (by omega)]; exact h6⟩
theorem soN {A B : Nat → Int32 → Int32} (k : ∀ k : Nat, k < 9 → B k = A k) {i a d p q : Int32} (s : SlB A i a d p q) (hq : ¬ q < 1) : So B i q 0 := by
  refine ⟨?_, ?_, ?_⟩
  · rw [k 0 (by omega), s.1, if_neg]; rw [Int32.sub_zero]; grind
  · rw [k 4 (by omega), s.2.2.2.2.1, Int32.sub_zero]
  · rw [k 5 (by omega), s.2.2.2.2.2]
theorem zoN {A : Nat → Int32 → Int32} (h : ZO A) (i a d p q t : Int32) : ZO (nA A i a d p q t) := by
  intro x hx; rw [nA_k A i x a d p q t (by decide), nA_k A i x a d p q t (by decide)]; exact h x hx
theorem ne01 {i : Int32} (h : ¬ i < 1) : ¬ i = 0 := by grind
theorem ne2 {i : Int32} (h : ¬ i < 2) : ¬ i = 0 ∧ ¬ i = 1 := by grind
theorem law5 (b x s y r : Int32) : en_L_law b x s y r = some 1 := by
  rw [een_L_law, lp_L_law_14]
  have f0 : F_init 8 2 r 0 = 8 := by rw [F_init_0, e_clamp]; decide
  have f1 : F_init 8 2 r 1 = 2 := by rw [F_init_1, e_clamp]; decide
  have f2 : F_init 8 2 r 2 = (if r < 1 then 1 else (if 255 < r then 255 else r)) := by rw [F_init_2, e_clamp]
  have f3 : F_init 8 2 r 3 = 0 := F_init_3 8 2 r
  generalize F_init 8 2 r = F at *
  have c0 : ¬ (if r < 1 then (1 : Int32) else (if 255 < r then 255 else r)) < 1 := by grind
  have c1 : ¬ 255 < (if r < 1 then (1 : Int32) else (if 255 < r then 255 else r)) := by grind
  generalize (if r < 1 then (1 : Int32) else (if 255 < r then 255 else r)) = cr at *
  have zz : ZO (fun _ _ => 0) := fun x _ => ⟨rfl, rfl⟩
  generalize hA : (fun (_ : Nat) (_ : Int32) => (0 : Int32)) = A0 at *
  have az : ∀ k z, A0 k z = 0 := fun k z => by rw [← hA]
  have a00 : ¬ (0 : Int32) < 0 := by decide
  have a1 : ¬ (1 : Int32) < 0 := by decide
  have lt0 : (0 : Int32) < F 1 := by rw [f1]; decide
  have lt1 : (1 : Int32) < F 1 := by rw [f1]; decide
  have one : ¬ (1 : Int32) = 0 := by decide
  by_cases hb : f_L_err b x = 0
  · obtain ⟨b0, b1, x0', x1⟩ := err0 hb
    have e1 := sub_yes (a := 0) (d := 0) f3 a00 lt0 (Or.inl rfl) hb (ff0 f0 (az 0 0)) a00 (by decide)
    rw [r_of (eR_submit F A0 _ _ _ _) e1, e1, ifS, lp_L_law_91]
    dsimp only
    have sl := nA_sl A0 0 0 0 b x (F 4)
    have ne := fun k (j : Int32) (h : ¬ j = 0) => nA_ne A0 (k := k) 0 0 b x (F 4) h
    have gt := fun k (j : Int32) h => nA_k A0 0 j 0 0 b x (F 4) (k := k) h
    have zo := zoN zz 0 0 0 b x (F 4)
    have g0 : ups F 4 (F 4 + 1) 0 = 8 := (ups_ne _ _ (by decide)).trans f0
    have g1' : ups F 4 (F 4 + 1) 1 = 2 := (ups_ne _ _ (by decide)).trans f1
    have g2' : ups F 4 (F 4 + 1) 2 = cr := (ups_ne _ _ (by decide)).trans f2
    have g3' : ups F 4 (F 4 + 1) 3 = 0 := (ups_ne _ _ (by decide)).trans f3
    generalize nA A0 0 0 0 b x (F 4) = A1 at *
    generalize ups F 4 (F 4 + 1) = G at *
    have lt1' : (1 : Int32) < G 1 := by rw [g1']; decide
    by_cases hs : f_L_err s y = 0
    · obtain ⟨s0, s1, y0, y1⟩ := err0 hs
      have e2 := sub_yes (a := 1) (d := 1) g3' a1 lt1' (Or.inr rfl) hs (ff1 g0 (by rw [sl.1]; decide) ((ne 0 1 one).trans (az 0 1))) a1 (by decide)
      rw [r_of (eR_submit G A1 _ _ _ _) e2, e2, ifS]
      dsimp only
      rw [hb, hs, if_pos rfl]
      have sl2 := nA_sl A1 1 1 1 s y (G 4)
      have ne' := fun k (j : Int32) (h : ¬ j = 1) => nA_ne A1 (k := k) 1 1 s y (G 4) h
      have gt' := fun k (j : Int32) h => nA_k A1 1 j 1 1 s y (G 4) (k := k) h
      have zo' := zoN zo 1 1 1 s y (G 4)
      have fi : Fi (ups G 4 (G 4 + 1)) cr := ⟨(ups_ne _ _ (by decide)).trans g0, (ups_ne _ _ (by decide)).trans g1', (ups_ne _ _ (by decide)).trans g2', (ups_ne _ _ (by decide)).trans g3'⟩
      generalize nA A1 1 1 1 s y (G 4) = A2 at *
      generalize ups G 4 (G 4 + 1) = H at *
      have z01 : ¬ (0 : Int32) = 1 := by decide
      have slb : SlB A2 0 0 0 b x := by
        simp only [SlB]; rw [ne' 0 0 z01, ne' 1 0 z01, ne' 2 0 z01, ne' 3 0 z01, ne' 4 0 z01, ne' 5 0 z01]; exact sl
      have k : K5 b x s y True True 1 2 A2 := ⟨zo', fun _ => slb, fun _ => sl2, fun i a c => by rw [ne' 0 i (ne2 a).2, ne 0 i (ne2 a).1, az], by rw [gt' 7 0 (by decide), gt 7 0 (by decide), az], by rw [gt' 8 1 (by decide), gt 8 1 (by decide), az]⟩
      by_cases hh : hiO b < loO s
      · refine mid (K := K5 b x s y True True 1 2) (M := 0) (P := 0) fi (fun A h => bBS fi.1 h.1 b0 b1 s0 s1 (h.2.1 trivial) (h.2.2.1 trivial) h.2.2.2.1) K5k (g1 x0') (g1 y0) (loO_r s0 s1).1 (loO_r s0 s1).2 (if_pos hh) (Or.inl ⟨rfl, rfl⟩) (fun A h => ?_) (by rw [if_neg one]) (by rw [if_neg one, if_neg one]) (by rw [if_neg one, if_neg one]; exact if_pos hh) (by rw [if_neg one, if_neg one]; exact if_pos hh) A2 k 993
        refine (unc_no fi h.1 (bBS fi.1 h.1 b0 b1 s0 s1 (h.2.1 trivial) (h.2.2.1 trivial) h.2.2.2.1) (g1 x0') (g1 y0) (loO_r s0 s1).1 (loO_r s0 s1).2 (if_pos hh) h.2.2.2.2.1 h.2.2.2.2.2).mono fun r q => ⟨q.1, q.2.1, fun _ => soN q.2.2 (h.2.1 trivial) x0', fun _ => ?_⟩
        rw [if_neg one]; exact soN q.2.2 (h.2.2.1 trivial) y0
      · refine mid (K := K5 b x s y True True 1 2) (M := f_min x y) (P := prc x y cr (loO s) (hiO b)) fi (fun A h => bBS fi.1 h.1 b0 b1 s0 s1 (h.2.1 trivial) (h.2.2.1 trivial) h.2.2.2.1) K5k (g1 x0') (g1 y0) (loO_r s0 s1).1 (loO_r s0 s1).2 (if_neg hh) (Or.inr ⟨mpos x0' y0, fun B hB => ?_⟩) (fun A h => ?_) (by rw [if_neg one]) (by rw [if_neg one, if_neg one]) (by rw [if_neg one, if_neg one, e_min]; exact if_neg hh) (by rw [if_neg one, if_neg one]; exact if_neg hh) A2 k 993
        · have ec := o5_cp hB x0' y0 x1 y1 (loO_r s0 s1).1 (loO_r s0 s1).2 hh (hiO_r b0 b1).2 H (by rw [fi.2.2.1]; exact c0) (by rw [fi.2.2.1]; exact c1)
          rw [fi.2.2.1] at ec; exact ec
        · refine (unc_yes fi c0 c1 h.1 b0 b1 s0 s1 x0' x1 y0 y1 (h.2.1 trivial) (h.2.2.1 trivial) h.2.2.2.1 hh h.2.2.2.2.1 h.2.2.2.2.2).mono fun r q => ⟨q.1, q.2.1, fun _ => q.2.2.1, fun _ => ?_⟩
          rw [if_neg one]; exact q.2.2.2
    · have e2 := sub_no (A := A1) (a := 1) (d := 1) g3' a1 lt1' (Or.inr rfl) hs
      rw [r_of (eR_submit G A1 _ _ _ _) e2, e2, ifS]
      dsimp only
      rw [hb, if_pos rfl, if_neg hs]
      have fi : Fi G cr := ⟨g0, g1', g2', g3'⟩
      have k : K5 b x s y True False 1 1 A1 := ⟨zo, fun _ => sl, fun h => h.elim, fun i a c => by rw [ne 0 i (ne01 a), az], by rw [gt 7 0 (by decide), az], by rw [gt 8 1 (by decide), az]⟩
      have hz : (if hiO b < 1 then 0 else f_min x 0) = 0 := by rw [if_neg (hiO_r b0 b1).1, e_min]; grind
      refine mid (K := K5 b x s y True False 1 1) (M := 0) (P := 0) fi (fun A h => bB fi.1 h.1 b0 b1 (h.2.1 trivial) h.2.2.2.1) K5k (g1 x0') (by decide) (by decide) (by decide) hz (Or.inl ⟨rfl, rfl⟩) (fun A h => ?_) (by rw [if_neg one]) (by rw [if_pos rfl]) (by rw [if_neg one, if_pos rfl]) (by rw [if_neg one, if_pos rfl]) A1 k 993
      exact (unc_no fi h.1 (bB fi.1 h.1 b0 b1 (h.2.1 trivial) h.2.2.2.1) (g1 x0') (by decide) (by decide) (by decide) hz h.2.2.2.2.1 h.2.2.2.2.2).mono fun r q => ⟨q.1, q.2.1, fun _ => soN q.2.2 (h.2.1 trivial) x0', fun h => absurd rfl h⟩
  · have e1 := sub_no (A := A0) (a := 0) (d := 0) f3 a00 lt0 (Or.inl rfl) hb
    rw [r_of (eR_submit F A0 _ _ _ _) e1, e1, ifS, lp_L_law_91]
    dsimp only
    by_cases hs : f_L_err s y = 0
    · obtain ⟨s0, s1, y0, y1⟩ := err0 hs
      have e2 := sub_yes (a := 1) (d := 1) f3 a1 lt1 (Or.inr rfl) hs (ff0 f0 (az 0 0)) a00 (by decide)
      rw [r_of (eR_submit F A0 _ _ _ _) e2, e2, ifS]
      dsimp only
      rw [hs, if_pos rfl, if_neg hb]
      have sl2 := nA_sl A0 0 1 1 s y (F 4)
      have ne' := fun k (j : Int32) (h : ¬ j = 0) => nA_ne A0 (k := k) 1 1 s y (F 4) h
      have gt' := fun k (j : Int32) h => nA_k A0 0 j 1 1 s y (F 4) (k := k) h
      have zo' := zoN zz 0 1 1 s y (F 4)
      have fi : Fi (ups F 4 (F 4 + 1)) cr := ⟨(ups_ne _ _ (by decide)).trans f0, (ups_ne _ _ (by decide)).trans f1, (ups_ne _ _ (by decide)).trans f2, (ups_ne _ _ (by decide)).trans f3⟩
      generalize nA A0 0 1 1 s y (F 4) = A2 at *
      generalize ups F 4 (F 4 + 1) = H at *
      have k : K5 b x s y False True 0 1 A2 := ⟨zo', fun h => h.elim, fun _ => sl2, fun i a c => by rw [ne' 0 i (ne01 a), az], by rw [gt' 7 0 (by decide), az], by rw [gt' 8 1 (by decide), az]⟩
      have hz : (if 255 < loO s then 0 else f_min 0 y) = 0 := by rw [if_neg (loO_r s0 s1).2, e_min]; grind
      refine mid (K := K5 b x s y False True 0 1) (M := 0) (P := 0) fi (fun A h => bS fi.1 h.1 s0 s1 (h.2.2.1 trivial) h.2.2.2.1) K5k (by decide) (g1 y0) (loO_r s0 s1).1 (loO_r s0 s1).2 hz (Or.inl ⟨rfl, rfl⟩) (fun A h => ?_) (by rw [if_pos rfl]) (by rw [if_neg one, if_pos rfl]) (by rw [if_pos rfl]) (by rw [if_pos rfl]) A2 k 993
      refine (unc_no fi h.1 (bS fi.1 h.1 s0 s1 (h.2.2.1 trivial) h.2.2.2.1) (by decide) (g1 y0) (loO_r s0 s1).1 (loO_r s0 s1).2 hz h.2.2.2.2.1 h.2.2.2.2.2).mono fun r q => ⟨q.1, q.2.1, fun h => absurd rfl h, fun _ => ?_⟩
      rw [if_pos rfl]; exact soN q.2.2 (h.2.2.1 trivial) y0
    · have e2 := sub_no (A := A0) (a := 1) (d := 1) f3 a1 lt1 (Or.inr rfl) hs
      rw [r_of (eR_submit F A0 _ _ _ _) e2, e2, ifS]
      dsimp only
      rw [if_neg hb, if_neg hs]
      have fi : Fi F cr := ⟨f0, f1, f2, f3⟩
      have k : K5 b x s y False False 0 0 A0 := ⟨zz, fun h => h.elim, fun h => h.elim, fun i a c => az 0 i, az 7 0, az 8 1⟩
      have hz : (if (255 : Int32) < 1 then 0 else f_min 0 0) = 0 := by rw [e_min]; decide
      refine mid (K := K5 b x s y False False 0 0) (M := 0) (P := 0) fi (fun A h => bN fi.1 h.1 h.2.2.2.1) K5k (by decide) (by decide) (by decide) (by decide) hz (Or.inl ⟨rfl, rfl⟩) (fun A h => ?_) (by rw [if_pos rfl]) (by rw [if_pos rfl]) (by rw [if_pos rfl]) (by rw [if_pos rfl]) A0 k 993
      exact (unc_no fi h.1 (bN fi.1 h.1 h.2.2.2.1) (by decide) (by decide) (by decide) (by decide) hz h.2.2.2.2.1 h.2.2.2.2.2).mono fun r q => ⟨q.1, q.2.1, fun h => absurd rfl h, fun h => absurd rfl h⟩
theorem law_ok {l : Launch} {Z : State} {a0 : Array Value} (H : OK Z a0) (p1 p2 p3 p4 p5 : Int32) : Wk l Z (MoL Z cdC "AuctionCrossL3" false) md_L_law 0 [.val (.int p1), .val (.int p2), .val (.int p3), .val (.int p4), .val (.int p5), .unset, .unset, .unset, .unset, .unset, .unset, .unset, .unset, .unset, .unset, .unset, .unset, .unset] [] (0, (fun _ => 0), []) 0 0 (fun v _ => v = some (.int 1)) :=
  run_law H 0 (fun _ => 0) p1 p2 p3 p4 p5 (law5 p1 p2 p3 p4 p5)
set_option maxRecDepth 65536 in
set_option maxHeartbeats 40000000 in
theorem comes_1 {Post : Tables → Env → Array Value → State → Outcome → State → Prop} (hpost : ∀ tb e args s v u, (limb_1_1.after args s (.returned v) u = true ∧ limb_1_2.after args s (.returned v) u = true ∧ True) → FrameEnd s (.returned v) u (Jvm.fieldLocs frame_1_writes args s ++ Jvm.arrayLocs frame_1_arrays args s ++ Jvm.staticLocs frame_1_statics s) room_1.cells room_1.slots → Post tb e args s (.returned v) u) :
    ArmFor flags0 classFile x code maxLocals ret World_1 tables_1 room_1 Calls_1 rest_1 Pre_1 Post := by
  intro l hfl _ _ p e ha hc hk s m args below hf hA hF happ hP
  obtain ⟨hcalls, hrest, hpre⟩ := hP
  obtain ⟨-, -, -, hnamed, -, -, -, hat⟩ := (Spec.applies_iff hf).mp happ
  obtain ⟨hg, hn⟩ := and_e (Cond.before_iff.mp (show (Jvm.Cond.and given_1 narrow_1).before args s = true from hpre))
  obtain ⟨h1, h2⟩ := and_e hg
  obtain ⟨w0, w1, w2, w3, w4, rfl⟩ : ∃ w0 w1 w2 w3 w4 : Value, args = #[w0, w1, w2, w3, w4] := by
    have hs : args.size = 5 := by simpa [Cond.value, given_1] using h1
    obtain ⟨L⟩ := args
    match L, hs with
    | [w0, w1, w2, w3, w4], _ => exact ⟨w0, w1, w2, w3, w4, rfl⟩
  have hw : OK s #[w0, w1, w2, w3, w4] := fun d (hd : d ∈ tables_1) => atoms_spec (ws := Jvm.Cond.code x code maxLocals ret :: tables_1) hat d (List.mem_cons_of_mem _ hd)
  obtain ⟨g0, r0⟩ := and_e h2
  obtain ⟨g1, r1⟩ := and_e r0
  obtain ⟨g2, r2⟩ := and_e r1
  obtain ⟨g3, r3⟩ := and_e r2
  have g4 := r3
  obtain ⟨i0, e0⟩ := is_v g0
  obtain rfl : w0 = (.int i0) := Option.some.inj e0
  obtain ⟨i1, e1⟩ := is_v g1
  obtain rfl : w1 = (.int i1) := Option.some.inj e1
  obtain ⟨i2, e2⟩ := is_v g2
  obtain rfl : w2 = (.int i2) := Option.some.inj e2
  obtain ⟨i3, e3⟩ := is_v g3
  obtain rfl : w3 = (.int i3) := Option.some.inj e3
  obtain ⟨i4, e4⟩ := is_v g4
  obtain rfl : w4 = (.int i4) := Option.some.inj e4
  have rel0 : relL s cdC false (s.heap.size, 0) (0, (fun _ => 0), []) s.heap := ⟨fun q => (by cases q), fun i x q => (by simp at q), (by simp)⟩
  obtain ⟨n, o, h1, h2, h3, v, L, rfl, ⟨w', hv, hrel, hfrm, N, hsz, hnr⟩, hq⟩ := (law_ok hw i0 i1 i2 i3 i4).met (M := MoL s cdC "AuctionCrossL3" false) (l := l) pn_AuctionCrossL3 rfl (en := (s.heap.size, 0)) rel0 [.int i0, .int i1, .int i2, .int i3, .int i4] rfl rfl tables_1 p e ha hc hk s m _ below hf ((Spec.applies_iff_loose hf).mp happ).1 ⟨rfl, State.Warmed39.refl s, rfl⟩ trivial
  subst hv
  exact ⟨n, _, h1, h2, h3, hpost _ _ _ _ _ _ ⟨Cond.after_iff.mpr rfl, Cond.after_iff.mpr (eq_i res_at (Term.int_eval (1)) rfl), trivial⟩ ⟨hq.1, hq.2.1, (hq.2.2.sift fun y hy => Or.inr (N y hy)).mono (Nat.le_refl _) (Nat.le_refl _)⟩⟩
theorem main_1_1 : Claimed_1_1 := comes_1 fun _ _ _ _ _ _ h hF => ⟨h.1, hF⟩
theorem main_1_2 : Claimed_1_2 := comes_1 fun _ _ _ _ _ _ h hF => ⟨h.2.1, hF⟩
end Jvm.Pilot.@@N@@
namespace Jvm.Pilot.@@N@@
open Jvm Jvm.ClassFile Sem Op Lib Jvm.Free Jvm.Stand Jvm.Pilot.@@N@@.Jvm.D
/-! MADE BY PROGRAM (witnessworld.py) out of the Statement's table words and the real class files: 9 classes; the members and pool entries that the words name. The judged class is class 1, her method 1. -/
namespace start1
open Jvm.ClassFile
def u (s : String) : CpInfo := .utf8 (stringToUtf16 s)
/-- a pool by its gaps: so many unusable entries, then the entry; so many at the end -/
def gap : Nat → List CpInfo → List CpInfo
  | 0, r => r
  | n + 1, r => .unusable :: gap n r
def poolList (es : List (Nat × CpInfo)) (last : Nat) : List CpInfo := es.foldr (fun e r => gap e.1 (e.2 :: r)) (gap last [])
def pool (es : List (Nat × CpInfo)) (last : Nat) : Array CpInfo := ⟨poolList es last⟩
def fileOf (pool : Array CpInfo) (this : Nat) (attrs : Array Attribute := #[]) (ms : Array MethodInfo := #[]) (fl : Nat := 33) (sup : Nat := 0) (ifs : Array Nat := #[]) (fds : Array FieldInfo := #[]) : ClassFile where
  minorVersion := 0
  majorVersion := 65
  constantPool := pool
  accessFlags := fl
  thisClass := this
  superClass := sup
  interfaces := ifs
  fields := fds
  methods := ms
  attributes := attrs
def plain (name : String) (sup : Option ClassId) : Class where
  name := name
  kind := .ordinary
  loader := none
  accessFlags := 33
  super := sup
  interfaces := #[]
  cf := none
  fields := #[]
  methods := #[]
  instanceTypes := #[]
  staticTypes := #[]
  resolved := #[]
  callSites := []
  init := .initialized
  statics := none
  mirror := none

def pool0 : Array CpInfo := pool [(5, u "<init>"), (0, u "()V"), (1, .class_ 10), (1, u "java/lang/Object")] 113

def k0c0 : Code := { maxStack := 0, maxLocals := 1, code := object_method_1_code, exceptionTable := #[], attributes := #[] }
def k0m0 : Method := { name := "<init>", desc := "()V", sig := { parameters := [], returnType := none }, accessFlags := 1, code := some k0c0 }
/-- java/lang/Object -/
def k0 : Class := { plain "java/lang/Object" none with
  accessFlags := 33
  interfaces := #[]
  cf := some (fileOf pool0 8 #[] #[{ accessFlags := 1, nameIndex := 5, descriptorIndex := 6, attributes := #[] }] 33 0 #[] #[])
  fields := #[]
  methods := #[k0m0]
  instanceTypes := #[]
  staticTypes := #[]
  resolved := Array.replicate 124 none
  statics := none }

def pool1 : Array CpInfo := pool [(2, .class_ 4), (1, u "java/lang/Object"), (0, u "<init>"), (0, u "()V"), (0, .class_ 8), (0, u "AuctionCross"), (0, .methodref 7 10), (0, .nameAndType 5 11), (0, u "(III)V"), (0, .methodref 13 14), (0, .class_ 15), (0, .nameAndType 16 17), (0, u "AuctionCrossL3"), (0, u "err"), (0, u "(II)I"), (0, .methodref 7 19), (0, .nameAndType 20 21), (0, u "submit"), (0, u "(IIII)I"), (0, .methodref 7 23), (0, .nameAndType 24 25), (0, u "indicativeVolume"), (0, u "()I"), (0, .methodref 7 27), (0, .nameAndType 28 25), (0, u "indicativePrice"), (0, .methodref 7 30), (0, .nameAndType 31 25), (0, u "uncross"), (0, .methodref 7 33), (0, .nameAndType 34 25), (0, u "getLastPrice"), (0, .methodref 7 36), (0, .nameAndType 37 25), (0, u "getLastVolume"), (0, .methodref 7 39), (0, .nameAndType 40 25), (0, u "getPhase"), (0, .methodref 7 42), (0, .nameAndType 43 44), (0, u "accountBought"), (0, u "(I)I"), (0, .methodref 7 46), (0, .nameAndType 47 44), (0, u "accountSold"), (0, .methodref 13 49), (0, .nameAndType 50 51), (0, u "slot"), (0, u "(LAuctionCross;III)Z"), (0, .methodref 7 53), (0, .nameAndType 54 25), (0, u "reopen"), (0, .methodref 7 56), (0, .nameAndType 57 25), (0, u "getReference"), (0, .methodref 7 59), (0, .nameAndType 60 17), (0, u "orderField"), (2, u "law"), (0, u "(IIIII)Z")] 3

def k1m0 : Method := { name := "<init>", desc := "()V", sig := { parameters := [], returnType := none }, accessFlags := 1, code := none }
def k1c1 : Code := { maxStack := 5, maxLocals := 18, code := code, exceptionTable := #[], attributes := #[] }
def k1m1 : Method := { name := "law", desc := "(IIIII)Z", sig := { parameters := [.int, .int, .int, .int, .int], returnType := some .boolean }, accessFlags := 9, code := some k1c1 }
def k1c2 : Code := { maxStack := 2, maxLocals := 2, code := method_3_code, exceptionTable := #[], attributes := #[] }
def k1m2 : Method := { name := "err", desc := "(II)I", sig := { parameters := [.int, .int], returnType := some .int }, accessFlags := 10, code := some k1c2 }
def k1c3 : Code := { maxStack := 3, maxLocals := 5, code := method_4_code, exceptionTable := #[], attributes := #[] }
def k1m3 : Method := { name := "slot", desc := "(LAuctionCross;III)Z", sig := { parameters := [(.object "AuctionCross"), .int, .int, .int], returnType := some .boolean }, accessFlags := 10, code := some k1c3 }
/-- AuctionCrossL3 -/
def k1 : Class := { plain "AuctionCrossL3" (some 0) with
  accessFlags := 49
  interfaces := #[]
  cf := some (fileOf pool1 13 #[] #[{ accessFlags := 1, nameIndex := 5, descriptorIndex := 6, attributes := #[] }, { accessFlags := 9, nameIndex := 63, descriptorIndex := 64, attributes := #[] }, { accessFlags := 10, nameIndex := 16, descriptorIndex := 17, attributes := #[] }, { accessFlags := 10, nameIndex := 50, descriptorIndex := 51, attributes := #[] }] 49 2 #[] #[])
  fields := #[]
  methods := #[k1m0, k1m1, k1m2, k1m3]
  instanceTypes := #[]
  staticTypes := #[]
  resolved := Array.replicate 68 none
  statics := none }

def pool2 : Array CpInfo := pool [(1, .methodref 2 3), (0, .class_ 4), (0, .nameAndType 5 6), (0, u "java/lang/Object"), (0, u "<init>"), (0, u "()V"), (0, .fieldref 8 9), (0, .class_ 10), (0, .nameAndType 11 12), (0, u "AuctionCross"), (0, u "st"), (0, u "[I"), (0, .fieldref 8 14), (0, .nameAndType 15 12), (0, u "acct"), (0, .fieldref 8 17), (0, .nameAndType 18 12), (0, u "sd"), (0, .fieldref 8 20), (0, .nameAndType 21 12), (0, u "pr"), (0, .fieldref 8 23), (0, .nameAndType 24 12), (0, u "rem"), (0, .fieldref 8 26), (0, .nameAndType 27 12), (0, u "fil"), (0, .fieldref 8 29), (0, .nameAndType 30 12), (0, u "sq"), (0, .fieldref 8 32), (0, .nameAndType 33 12), (0, u "bought"), (0, .fieldref 8 35), (0, .nameAndType 36 12), (0, u "sold"), (0, .fieldref 8 38), (0, .nameAndType 39 12), (0, u "curD"), (0, .fieldref 8 41), (0, .nameAndType 42 12), (0, u "curS"), (0, .methodref 8 44), (0, .nameAndType 45 46), (0, u "clamp"), (0, u "(III)I"), (0, .fieldref 8 48), (0, .nameAndType 49 50), (0, u "cap"), (0, u "I"), (0, .fieldref 8 52), (0, .nameAndType 53 50), (0, u "nAcc"), (0, .fieldref 8 55), (0, .nameAndType 56 50), (0, u "ref"), (0, .fieldref 8 58), (0, .nameAndType 59 50), (0, u "phase"), (0, .fieldref 8 61), (0, .nameAndType 62 50), (0, u "seqCounter"), (0, .fieldref 8 64), (0, .nameAndType 65 50), (0, u "lastPrice"), (0, .fieldref 8 67), (0, .nameAndType 68 50), (0, u "lastVolume"), (0, .methodref 8 70), (0, .nameAndType 71 72), (0, u "findFree"), (0, u "()I"), (4, .methodref 8 78), (0, .nameAndType 79 80), (0, u "clearSlot"), (0, u "(I)V"), (3, .methodref 8 85), (0, .nameAndType 86 6), (0, u "buildCurves"), (0, .methodref 8 88), (0, .nameAndType 89 72), (0, u "maxVolume"), (0, .methodref 8 91), (0, .nameAndType 92 93), (0, u "choosePrice"), (0, u "(I)I"), (0, .methodref 8 95), (0, .nameAndType 96 97), (0, u "allocateSide"), (0, u "(III)V"), (0, .methodref 8 99), (0, .nameAndType 100 6), (0, u "markDone"), (0, .methodref 8 102), (0, .nameAndType 103 6), (0, u "clearCurves"), (0, .methodref 8 105), (0, .nameAndType 106 80), (0, u "accumulate"), (0, .methodref 8 108), (0, .nameAndType 109 110), (0, u "min"), (0, u "(II)I"), (0, .methodref 8 112), (0, .nameAndType 113 93), (0, u "vol"), (0, .methodref 8 115), (0, .nameAndType 116 93), (0, u "surplus"), (0, .methodref 8 118), (0, .nameAndType 119 93), (0, u "abs"), (0, .methodref 8 121), (0, .nameAndType 122 93), (0, u "leastSurplus"), (0, .methodref 8 124), (0, .nameAndType 125 126), (0, u "inFinalSet"), (0, u "(III)Z"), (0, .methodref 8 128), (0, .nameAndType 129 110), (0, u "nearestToRef"), (3, .methodref 8 134), (0, .nameAndType 135 126), (0, u "eligible"), (4, .methodref 8 141), (0, .nameAndType 142 110), (0, u "bestEligible"), (0, .methodref 8 144), (0, .nameAndType 145 146), (0, u "creditAccount"), (0, u "(II)V"), (0, u "BUY"), (2, u "SELL"), (1, u "MARKET"), (0, u "MAX_PRICE"), (1, u "MAX_QTY"), (1, u "PHASE_CALL"), (0, u "PHASE_CLOSED"), (0, u "STATUS_FREE"), (0, u "STATUS_LIVE"), (0, u "STATUS_DONE"), (1, u "FIELD_STATUS"), (0, u "FIELD_ACCOUNT"), (0, u "FIELD_SIDE"), (0, u "FIELD_PRICE"), (1, u "FIELD_REMAINING"), (1, u "FIELD_FILLED"), (1, u "FIELD_SEQ"), (1, u "OK"), (0, u "ERR_PHASE"), (1, u "ERR_ACCOUNT"), (1, u "ERR_SIDE"), (1, u "ERR_PRICE"), (1, u "ERR_QTY"), (1, u "ERR_FULL"), (1, u "ERR_ID"), (3, u "submit"), (0, u "(IIII)I"), (4, u "getReference"), (2, u "indicativePrice"), (0, u "indicativeVolume"), (0, u "uncross"), (0, u "reopen"), (0, u "getPhase"), (0, u "getLastPrice"), (0, u "getLastVolume"), (0, u "orderField"), (0, u "accountBought"), (0, u "accountSold")] 2

def k2c0 : Code := { maxStack := 5, maxLocals := 4, code := prog_1_method_1_code, exceptionTable := #[], attributes := #[] }
def k2m0 : Method := { name := "<init>", desc := "(III)V", sig := { parameters := [.int, .int, .int], returnType := none }, accessFlags := 1, code := some k2c0 }
def k2c1 : Code := { maxStack := 3, maxLocals := 6, code := prog_1_method_2_code, exceptionTable := #[], attributes := #[] }
def k2m1 : Method := { name := "submit", desc := "(IIII)I", sig := { parameters := [.int, .int, .int, .int], returnType := some .int }, accessFlags := 1, code := some k2c1 }
def k2c2 : Code := { maxStack := 1, maxLocals := 1, code := prog_1_method_6_code, exceptionTable := #[], attributes := #[] }
def k2m2 : Method := { name := "getReference", desc := "()I", sig := { parameters := [], returnType := some .int }, accessFlags := 1, code := some k2c2 }
def k2c3 : Code := { maxStack := 2, maxLocals := 2, code := prog_1_method_9_code, exceptionTable := #[], attributes := #[] }
def k2m3 : Method := { name := "indicativePrice", desc := "()I", sig := { parameters := [], returnType := some .int }, accessFlags := 1, code := some k2c3 }
def k2c4 : Code := { maxStack := 1, maxLocals := 1, code := prog_1_method_10_code, exceptionTable := #[], attributes := #[] }
def k2m4 : Method := { name := "indicativeVolume", desc := "()I", sig := { parameters := [], returnType := some .int }, accessFlags := 1, code := some k2c4 }
def k2c5 : Code := { maxStack := 4, maxLocals := 3, code := prog_1_method_11_code, exceptionTable := #[], attributes := #[] }
def k2m5 : Method := { name := "uncross", desc := "()I", sig := { parameters := [], returnType := some .int }, accessFlags := 1, code := some k2c5 }
def k2c6 : Code := { maxStack := 3, maxLocals := 2, code := prog_1_method_12_code, exceptionTable := #[], attributes := #[] }
def k2m6 : Method := { name := "reopen", desc := "()I", sig := { parameters := [], returnType := some .int }, accessFlags := 1, code := some k2c6 }
def k2c7 : Code := { maxStack := 1, maxLocals := 1, code := prog_1_method_13_code, exceptionTable := #[], attributes := #[] }
def k2m7 : Method := { name := "getPhase", desc := "()I", sig := { parameters := [], returnType := some .int }, accessFlags := 1, code := some k2c7 }
def k2c8 : Code := { maxStack := 1, maxLocals := 1, code := prog_1_method_14_code, exceptionTable := #[], attributes := #[] }
def k2m8 : Method := { name := "getLastPrice", desc := "()I", sig := { parameters := [], returnType := some .int }, accessFlags := 1, code := some k2c8 }
def k2c9 : Code := { maxStack := 1, maxLocals := 1, code := prog_1_method_15_code, exceptionTable := #[], attributes := #[] }
def k2m9 : Method := { name := "getLastVolume", desc := "()I", sig := { parameters := [], returnType := some .int }, accessFlags := 1, code := some k2c9 }
def k2c10 : Code := { maxStack := 2, maxLocals := 3, code := prog_1_method_16_code, exceptionTable := #[], attributes := #[] }
def k2m10 : Method := { name := "orderField", desc := "(II)I", sig := { parameters := [.int, .int], returnType := some .int }, accessFlags := 1, code := some k2c10 }
def k2c11 : Code := { maxStack := 2, maxLocals := 2, code := prog_1_method_17_code, exceptionTable := #[], attributes := #[] }
def k2m11 : Method := { name := "accountBought", desc := "(I)I", sig := { parameters := [.int], returnType := some .int }, accessFlags := 1, code := some k2c11 }
def k2c12 : Code := { maxStack := 2, maxLocals := 2, code := prog_1_method_18_code, exceptionTable := #[], attributes := #[] }
def k2m12 : Method := { name := "accountSold", desc := "(I)I", sig := { parameters := [.int], returnType := some .int }, accessFlags := 1, code := some k2c12 }
def k2c13 : Code := { maxStack := 2, maxLocals := 4, code := prog_1_method_19_code, exceptionTable := #[], attributes := #[] }
def k2m13 : Method := { name := "clamp", desc := "(III)I", sig := { parameters := [.int, .int, .int], returnType := some .int }, accessFlags := 2, code := some k2c13 }
def k2c14 : Code := { maxStack := 1, maxLocals := 2, code := prog_1_method_20_code, exceptionTable := #[], attributes := #[] }
def k2m14 : Method := { name := "abs", desc := "(I)I", sig := { parameters := [.int], returnType := some .int }, accessFlags := 2, code := some k2c14 }
def k2c15 : Code := { maxStack := 2, maxLocals := 3, code := prog_1_method_21_code, exceptionTable := #[], attributes := #[] }
def k2m15 : Method := { name := "min", desc := "(II)I", sig := { parameters := [.int, .int], returnType := some .int }, accessFlags := 2, code := some k2c15 }
def k2c16 : Code := { maxStack := 2, maxLocals := 2, code := prog_1_method_24_code, exceptionTable := #[], attributes := #[] }
def k2m16 : Method := { name := "findFree", desc := "()I", sig := { parameters := [], returnType := some .int }, accessFlags := 2, code := some k2c16 }
def k2c17 : Code := { maxStack := 3, maxLocals := 2, code := prog_1_method_25_code, exceptionTable := #[], attributes := #[] }
def k2m17 : Method := { name := "clearSlot", desc := "(I)V", sig := { parameters := [.int], returnType := none }, accessFlags := 2, code := some k2c17 }
def k2c18 : Code := { maxStack := 3, maxLocals := 2, code := prog_1_method_26_code, exceptionTable := #[], attributes := #[] }
def k2m18 : Method := { name := "clearCurves", desc := "()V", sig := { parameters := [], returnType := none }, accessFlags := 2, code := some k2c18 }
def k2c19 : Code := { maxStack := 5, maxLocals := 4, code := prog_1_method_27_code, exceptionTable := #[], attributes := #[] }
def k2m19 : Method := { name := "buildCurves", desc := "()V", sig := { parameters := [], returnType := none }, accessFlags := 2, code := some k2c19 }
def k2c20 : Code := { maxStack := 6, maxLocals := 3, code := prog_1_method_28_code, exceptionTable := #[], attributes := #[] }
def k2m20 : Method := { name := "accumulate", desc := "(I)V", sig := { parameters := [.int], returnType := none }, accessFlags := 2, code := some k2c20 }
def k2c21 : Code := { maxStack := 4, maxLocals := 2, code := prog_1_method_29_code, exceptionTable := #[], attributes := #[] }
def k2m21 : Method := { name := "vol", desc := "(I)I", sig := { parameters := [.int], returnType := some .int }, accessFlags := 2, code := some k2c21 }
def k2c22 : Code := { maxStack := 3, maxLocals := 2, code := prog_1_method_30_code, exceptionTable := #[], attributes := #[] }
def k2m22 : Method := { name := "surplus", desc := "(I)I", sig := { parameters := [.int], returnType := some .int }, accessFlags := 2, code := some k2c22 }
def k2c23 : Code := { maxStack := 2, maxLocals := 4, code := prog_1_method_31_code, exceptionTable := #[], attributes := #[] }
def k2m23 : Method := { name := "maxVolume", desc := "()I", sig := { parameters := [], returnType := some .int }, accessFlags := 2, code := some k2c23 }
def k2c24 : Code := { maxStack := 3, maxLocals := 5, code := prog_1_method_32_code, exceptionTable := #[], attributes := #[] }
def k2m24 : Method := { name := "leastSurplus", desc := "(I)I", sig := { parameters := [.int], returnType := some .int }, accessFlags := 2, code := some k2c24 }
def k2c25 : Code := { maxStack := 3, maxLocals := 4, code := prog_1_method_33_code, exceptionTable := #[], attributes := #[] }
def k2m25 : Method := { name := "inFinalSet", desc := "(III)Z", sig := { parameters := [.int, .int, .int], returnType := some .boolean }, accessFlags := 2, code := some k2c25 }
def k2c26 : Code := { maxStack := 4, maxLocals := 9, code := prog_1_method_34_code, exceptionTable := #[], attributes := #[] }
def k2m26 : Method := { name := "choosePrice", desc := "(I)I", sig := { parameters := [.int], returnType := some .int }, accessFlags := 2, code := some k2c26 }
def k2c27 : Code := { maxStack := 4, maxLocals := 7, code := prog_1_method_35_code, exceptionTable := #[], attributes := #[] }
def k2m27 : Method := { name := "nearestToRef", desc := "(II)I", sig := { parameters := [.int, .int], returnType := some .int }, accessFlags := 2, code := some k2c27 }
def k2c28 : Code := { maxStack := 2, maxLocals := 4, code := prog_1_method_36_code, exceptionTable := #[], attributes := #[] }
def k2m28 : Method := { name := "eligible", desc := "(III)Z", sig := { parameters := [.int, .int, .int], returnType := some .boolean }, accessFlags := 2, code := some k2c28 }
def k2c29 : Code := { maxStack := 4, maxLocals := 5, code := prog_1_method_39_code, exceptionTable := #[], attributes := #[] }
def k2m29 : Method := { name := "bestEligible", desc := "(II)I", sig := { parameters := [.int, .int], returnType := some .int }, accessFlags := 2, code := some k2c29 }
def k2c30 : Code := { maxStack := 4, maxLocals := 8, code := prog_1_method_40_code, exceptionTable := #[], attributes := #[] }
def k2m30 : Method := { name := "allocateSide", desc := "(III)V", sig := { parameters := [.int, .int, .int], returnType := none }, accessFlags := 2, code := some k2c30 }
def k2c31 : Code := { maxStack := 4, maxLocals := 4, code := prog_1_method_41_code, exceptionTable := #[], attributes := #[] }
def k2m31 : Method := { name := "creditAccount", desc := "(II)V", sig := { parameters := [.int, .int], returnType := none }, accessFlags := 2, code := some k2c31 }
def k2c32 : Code := { maxStack := 3, maxLocals := 2, code := prog_1_method_42_code, exceptionTable := #[], attributes := #[] }
def k2m32 : Method := { name := "markDone", desc := "()V", sig := { parameters := [], returnType := none }, accessFlags := 2, code := some k2c32 }
/-- AuctionCross -/
def k2 : Class := { plain "AuctionCross" (some 0) with
  accessFlags := 49
  interfaces := #[]
  cf := some (fileOf pool2 8 #[] #[{ accessFlags := 1, nameIndex := 5, descriptorIndex := 97, attributes := #[] }, { accessFlags := 1, nameIndex := 191, descriptorIndex := 192, attributes := #[] }, { accessFlags := 1, nameIndex := 197, descriptorIndex := 72, attributes := #[] }, { accessFlags := 1, nameIndex := 200, descriptorIndex := 72, attributes := #[] }, { accessFlags := 1, nameIndex := 201, descriptorIndex := 72, attributes := #[] }, { accessFlags := 1, nameIndex := 202, descriptorIndex := 72, attributes := #[] }, { accessFlags := 1, nameIndex := 203, descriptorIndex := 72, attributes := #[] }, { accessFlags := 1, nameIndex := 204, descriptorIndex := 72, attributes := #[] }, { accessFlags := 1, nameIndex := 205, descriptorIndex := 72, attributes := #[] }, { accessFlags := 1, nameIndex := 206, descriptorIndex := 72, attributes := #[] }, { accessFlags := 1, nameIndex := 207, descriptorIndex := 110, attributes := #[] }, { accessFlags := 1, nameIndex := 208, descriptorIndex := 93, attributes := #[] }, { accessFlags := 1, nameIndex := 209, descriptorIndex := 93, attributes := #[] }, { accessFlags := 2, nameIndex := 45, descriptorIndex := 46, attributes := #[] }, { accessFlags := 2, nameIndex := 119, descriptorIndex := 93, attributes := #[] }, { accessFlags := 2, nameIndex := 109, descriptorIndex := 110, attributes := #[] }, { accessFlags := 2, nameIndex := 71, descriptorIndex := 72, attributes := #[] }, { accessFlags := 2, nameIndex := 79, descriptorIndex := 80, attributes := #[] }, { accessFlags := 2, nameIndex := 103, descriptorIndex := 6, attributes := #[] }, { accessFlags := 2, nameIndex := 86, descriptorIndex := 6, attributes := #[] }, { accessFlags := 2, nameIndex := 106, descriptorIndex := 80, attributes := #[] }, { accessFlags := 2, nameIndex := 113, descriptorIndex := 93, attributes := #[] }, { accessFlags := 2, nameIndex := 116, descriptorIndex := 93, attributes := #[] }, { accessFlags := 2, nameIndex := 89, descriptorIndex := 72, attributes := #[] }, { accessFlags := 2, nameIndex := 122, descriptorIndex := 93, attributes := #[] }, { accessFlags := 2, nameIndex := 125, descriptorIndex := 126, attributes := #[] }, { accessFlags := 2, nameIndex := 92, descriptorIndex := 93, attributes := #[] }, { accessFlags := 2, nameIndex := 129, descriptorIndex := 110, attributes := #[] }, { accessFlags := 2, nameIndex := 135, descriptorIndex := 126, attributes := #[] }, { accessFlags := 2, nameIndex := 142, descriptorIndex := 110, attributes := #[] }, { accessFlags := 2, nameIndex := 96, descriptorIndex := 97, attributes := #[] }, { accessFlags := 2, nameIndex := 145, descriptorIndex := 146, attributes := #[] }, { accessFlags := 2, nameIndex := 100, descriptorIndex := 6, attributes := #[] }] 49 2 #[] #[{ accessFlags := 25, nameIndex := 147, descriptorIndex := 50, attributes := #[] }, { accessFlags := 25, nameIndex := 150, descriptorIndex := 50, attributes := #[] }, { accessFlags := 25, nameIndex := 152, descriptorIndex := 50, attributes := #[] }, { accessFlags := 25, nameIndex := 153, descriptorIndex := 50, attributes := #[] }, { accessFlags := 25, nameIndex := 155, descriptorIndex := 50, attributes := #[] }, { accessFlags := 25, nameIndex := 157, descriptorIndex := 50, attributes := #[] }, { accessFlags := 25, nameIndex := 158, descriptorIndex := 50, attributes := #[] }, { accessFlags := 25, nameIndex := 159, descriptorIndex := 50, attributes := #[] }, { accessFlags := 25, nameIndex := 160, descriptorIndex := 50, attributes := #[] }, { accessFlags := 25, nameIndex := 161, descriptorIndex := 50, attributes := #[] }, { accessFlags := 25, nameIndex := 163, descriptorIndex := 50, attributes := #[] }, { accessFlags := 25, nameIndex := 164, descriptorIndex := 50, attributes := #[] }, { accessFlags := 25, nameIndex := 165, descriptorIndex := 50, attributes := #[] }, { accessFlags := 25, nameIndex := 166, descriptorIndex := 50, attributes := #[] }, { accessFlags := 25, nameIndex := 168, descriptorIndex := 50, attributes := #[] }, { accessFlags := 25, nameIndex := 170, descriptorIndex := 50, attributes := #[] }, { accessFlags := 25, nameIndex := 172, descriptorIndex := 50, attributes := #[] }, { accessFlags := 25, nameIndex := 174, descriptorIndex := 50, attributes := #[] }, { accessFlags := 25, nameIndex := 175, descriptorIndex := 50, attributes := #[] }, { accessFlags := 25, nameIndex := 177, descriptorIndex := 50, attributes := #[] }, { accessFlags := 25, nameIndex := 179, descriptorIndex := 50, attributes := #[] }, { accessFlags := 25, nameIndex := 181, descriptorIndex := 50, attributes := #[] }, { accessFlags := 25, nameIndex := 183, descriptorIndex := 50, attributes := #[] }, { accessFlags := 25, nameIndex := 185, descriptorIndex := 50, attributes := #[] }, { accessFlags := 25, nameIndex := 187, descriptorIndex := 50, attributes := #[] }, { accessFlags := 2, nameIndex := 49, descriptorIndex := 50, attributes := #[] }, { accessFlags := 2, nameIndex := 53, descriptorIndex := 50, attributes := #[] }, { accessFlags := 2, nameIndex := 56, descriptorIndex := 50, attributes := #[] }, { accessFlags := 2, nameIndex := 59, descriptorIndex := 50, attributes := #[] }, { accessFlags := 2, nameIndex := 62, descriptorIndex := 50, attributes := #[] }, { accessFlags := 2, nameIndex := 65, descriptorIndex := 50, attributes := #[] }, { accessFlags := 2, nameIndex := 68, descriptorIndex := 50, attributes := #[] }, { accessFlags := 2, nameIndex := 11, descriptorIndex := 12, attributes := #[] }, { accessFlags := 2, nameIndex := 15, descriptorIndex := 12, attributes := #[] }, { accessFlags := 2, nameIndex := 18, descriptorIndex := 12, attributes := #[] }, { accessFlags := 2, nameIndex := 21, descriptorIndex := 12, attributes := #[] }, { accessFlags := 2, nameIndex := 24, descriptorIndex := 12, attributes := #[] }, { accessFlags := 2, nameIndex := 27, descriptorIndex := 12, attributes := #[] }, { accessFlags := 2, nameIndex := 30, descriptorIndex := 12, attributes := #[] }, { accessFlags := 2, nameIndex := 33, descriptorIndex := 12, attributes := #[] }, { accessFlags := 2, nameIndex := 36, descriptorIndex := 12, attributes := #[] }, { accessFlags := 2, nameIndex := 39, descriptorIndex := 12, attributes := #[] }, { accessFlags := 2, nameIndex := 42, descriptorIndex := 12, attributes := #[] }])
  fields := #[{ name := "BUY", type := .int, accessFlags := 25, slot := 0, constantValue := 0 }, { name := "SELL", type := .int, accessFlags := 25, slot := 1, constantValue := 0 }, { name := "MARKET", type := .int, accessFlags := 25, slot := 2, constantValue := 0 }, { name := "MAX_PRICE", type := .int, accessFlags := 25, slot := 3, constantValue := 0 }, { name := "MAX_QTY", type := .int, accessFlags := 25, slot := 4, constantValue := 0 }, { name := "PHASE_CALL", type := .int, accessFlags := 25, slot := 5, constantValue := 0 }, { name := "PHASE_CLOSED", type := .int, accessFlags := 25, slot := 6, constantValue := 0 }, { name := "STATUS_FREE", type := .int, accessFlags := 25, slot := 7, constantValue := 0 }, { name := "STATUS_LIVE", type := .int, accessFlags := 25, slot := 8, constantValue := 0 }, { name := "STATUS_DONE", type := .int, accessFlags := 25, slot := 9, constantValue := 0 }, { name := "FIELD_STATUS", type := .int, accessFlags := 25, slot := 10, constantValue := 0 }, { name := "FIELD_ACCOUNT", type := .int, accessFlags := 25, slot := 11, constantValue := 0 }, { name := "FIELD_SIDE", type := .int, accessFlags := 25, slot := 12, constantValue := 0 }, { name := "FIELD_PRICE", type := .int, accessFlags := 25, slot := 13, constantValue := 0 }, { name := "FIELD_REMAINING", type := .int, accessFlags := 25, slot := 14, constantValue := 0 }, { name := "FIELD_FILLED", type := .int, accessFlags := 25, slot := 15, constantValue := 0 }, { name := "FIELD_SEQ", type := .int, accessFlags := 25, slot := 16, constantValue := 0 }, { name := "OK", type := .int, accessFlags := 25, slot := 17, constantValue := 0 }, { name := "ERR_PHASE", type := .int, accessFlags := 25, slot := 18, constantValue := 0 }, { name := "ERR_ACCOUNT", type := .int, accessFlags := 25, slot := 19, constantValue := 0 }, { name := "ERR_SIDE", type := .int, accessFlags := 25, slot := 20, constantValue := 0 }, { name := "ERR_PRICE", type := .int, accessFlags := 25, slot := 21, constantValue := 0 }, { name := "ERR_QTY", type := .int, accessFlags := 25, slot := 22, constantValue := 0 }, { name := "ERR_FULL", type := .int, accessFlags := 25, slot := 23, constantValue := 0 }, { name := "ERR_ID", type := .int, accessFlags := 25, slot := 24, constantValue := 0 }, { name := "cap", type := .int, accessFlags := 2, slot := 0, constantValue := 0 }, { name := "nAcc", type := .int, accessFlags := 2, slot := 1, constantValue := 0 }, { name := "ref", type := .int, accessFlags := 2, slot := 2, constantValue := 0 }, { name := "phase", type := .int, accessFlags := 2, slot := 3, constantValue := 0 }, { name := "seqCounter", type := .int, accessFlags := 2, slot := 4, constantValue := 0 }, { name := "lastPrice", type := .int, accessFlags := 2, slot := 5, constantValue := 0 }, { name := "lastVolume", type := .int, accessFlags := 2, slot := 6, constantValue := 0 }, { name := "st", type := (.array .int), accessFlags := 2, slot := 7, constantValue := 0 }, { name := "acct", type := (.array .int), accessFlags := 2, slot := 8, constantValue := 0 }, { name := "sd", type := (.array .int), accessFlags := 2, slot := 9, constantValue := 0 }, { name := "pr", type := (.array .int), accessFlags := 2, slot := 10, constantValue := 0 }, { name := "rem", type := (.array .int), accessFlags := 2, slot := 11, constantValue := 0 }, { name := "fil", type := (.array .int), accessFlags := 2, slot := 12, constantValue := 0 }, { name := "sq", type := (.array .int), accessFlags := 2, slot := 13, constantValue := 0 }, { name := "bought", type := (.array .int), accessFlags := 2, slot := 14, constantValue := 0 }, { name := "sold", type := (.array .int), accessFlags := 2, slot := 15, constantValue := 0 }, { name := "curD", type := (.array .int), accessFlags := 2, slot := 16, constantValue := 0 }, { name := "curS", type := (.array .int), accessFlags := 2, slot := 17, constantValue := 0 }]
  methods := #[k2m0, k2m1, k2m2, k2m3, k2m4, k2m5, k2m6, k2m7, k2m8, k2m9, k2m10, k2m11, k2m12, k2m13, k2m14, k2m15, k2m16, k2m17, k2m18, k2m19, k2m20, k2m21, k2m22, k2m23, k2m24, k2m25, k2m26, k2m27, k2m28, k2m29, k2m30, k2m31, k2m32]
  instanceTypes := #[.int, .int, .int, .int, .int, .int, .int, (.array .int), (.array .int), (.array .int), (.array .int), (.array .int), (.array .int), (.array .int), (.array .int), (.array .int), (.array .int), (.array .int)]
  staticTypes := #[.int, .int, .int, .int, .int, .int, .int, .int, .int, .int, .int, .int, .int, .int, .int, .int, .int, .int, .int, .int, .int, .int, .int, .int, .int]
  resolved := Array.replicate 212 none
  statics := none }

def pool3 : Array CpInfo := pool [(1, u "java/lang/Cloneable"), (0, .class_ 1), (0, u "java/lang/Object"), (0, .class_ 3)] 3

/-- java/lang/Cloneable -/
def k3 : Class := { plain "java/lang/Cloneable" (some 0) with
  accessFlags := 1537
  interfaces := #[]
  cf := some (fileOf pool3 2 #[] #[] 1537 4 #[] #[])
  fields := #[]
  methods := #[]
  instanceTypes := #[]
  staticTypes := #[]
  resolved := Array.replicate 8 none
  statics := none }

def pool4 : Array CpInfo := pool [(1, u "java/io/Serializable"), (0, .class_ 1), (0, u "java/lang/Object"), (0, .class_ 3)] 3

/-- java/io/Serializable -/
def k4 : Class := { plain "java/io/Serializable" (some 0) with
  accessFlags := 1537
  interfaces := #[]
  cf := some (fileOf pool4 2 #[] #[] 1537 4 #[] #[])
  fields := #[]
  methods := #[]
  instanceTypes := #[]
  staticTypes := #[]
  resolved := Array.replicate 8 none
  statics := none }

/-- the primitive byte -/
def k5 : Class := { plain "byte" none with kind := .primitive 'B', accessFlags := 0x411 }
/-- [B -/
def k6 : Class := { plain "[B" (some 0) with kind := .array 5 .byte, interfaces := #[3, 4], accessFlags := 1041 }

/-- the primitive int -/
def k7 : Class := { plain "int" none with kind := .primitive 'I', accessFlags := 0x411 }
/-- [I -/
def k8 : Class := { plain "[I" (some 0) with kind := .array 7 .int, interfaces := #[3, 4], accessFlags := 1041 }

def heap : Heap := #[]
def classes : Array Class := #[k0, k1, k2, k3, k4, k5, k6, k7, k8]
def interned : List (Array UInt16 × Addr) := []
def slotsUsed : Nat := 0
def theMethod : MethodId := ⟨1, 1⟩
def args0 : Array Value := #[.int 5, .int 6, .int 5, .int 7, .int 3]
def aboutOver (below : List Frame) : State where
  vm := { classes := classes, interned := interned.toArray }
  heap := heap
  slotsUsed := slotsUsed
  threads := #[{ frames := .invoking theMethod args0 :: below }]
def below0 : List Frame := [.native { method := ⟨0, 0⟩, args := #[] }]
def about1 : State := aboutOver below0
def p0 : Program := .bare "" "" ""
def e0 : Env := launch0.env 0 0 0
theorem w_frames : about1.frames = Frame.invoking theMethod args0 :: below0 := rfl
set_option maxRecDepth 65536 in
theorem w_args : argsFit about1.vm theMethod args0 = true := by decide +kernel
set_option maxRecDepth 65536 in
theorem w_heap : heapFits about1 = true := by decide +kernel
set_option maxRecDepth 65536 in
theorem w_runnable : about1.curStatus? = some .runnable := by decide +kernel
set_option maxRecDepth 65536 in
theorem w_alone : about1.alone = true := by decide +kernel
set_option maxRecDepth 65536 in
theorem w_named : about1.methodNamed? x = some theMethod := by decide +kernel
set_option maxRecDepth 65536 in
theorem w_hears : about1.hears theMethod below0 = true := by decide +kernel
set_option maxRecDepth 65536 in
theorem w_ripe : about1.ripe theMethod args0 below0 = true := by decide +kernel
theorem w_running : about1.status = .running := rfl
set_option maxRecDepth 65536 in
theorem w_room : about1.hasRoom e0.platform room_1 = true :=
  launch0.hasRoom_least _ room_1 (by decide +kernel) (by decide +kernel) (by decide +kernel) (by decide +kernel) (by decide +kernel) (by decide +kernel)
theorem allAtoms_all (ts : List Jvm.Cond) (a : Array Jvm.Value) (st : Jvm.State) : (allAtoms ts).before a st = ts.all (fun c => c.before a st) := by
  induction ts with
  | nil => rfl
  | cons c t ih =>
    show (Jvm.Cond.and c (allAtoms t)).before a st = _
    rw [Jvm.Cond.before_and, ih, List.all_cons]
def words1 : List Jvm.Cond := Jvm.Cond.code x code maxLocals ret :: tables_1
/-- a 'code' word, met by the world's own term for the bytes: nothing is compared byte by byte -/
theorem code_word {y : MethodName} {bytes : ByteArray} {mx : Nat} {rt : Option FieldType} {a : Array Value} {s : State} {m : MethodId} {meth : Method} {c : Code} (h1 : s.methodNamed? y = some m) (h2 : s.vm.method? m = some meth) (h3 : meth.code = some c) (h4 : c.code = bytes)
    (h5 : (c.maxLocals == mx && c.exceptionTable.isEmpty && decide (c.maxStack ≤ mostOperands) && decide (meth.sig.returnType = rt) && !meth.locks && decide (parseMethodDescriptor y.desc = some meth.sig)) = true) : (Jvm.Cond.code y bytes mx rt).before a s = true := by
  simp only [Bool.and_eq_true, beq_iff_eq, Bool.not_eq_true', decide_eq_true_eq] at h5
  obtain ⟨⟨⟨⟨⟨g1, g2⟩, g3⟩, g4⟩, g5⟩, g6⟩ := h5
  simp [Cond.before, Cond.holds, Cond.value, h1, h2, h3, h4, g1, g2, g3, g4, g5, g6]
def isCode : Jvm.Cond → Bool
  | .code _ _ _ _ => true
  | _ => false
theorem all_split {L : List Jvm.Cond} {P : Jvm.Cond → Bool} (h1 : L.all (fun c => isCode c || P c) = true) (h2 : ∀ c ∈ L.filter isCode, P c = true) : L.all P = true := by
  refine List.all_eq_true.mpr fun c hc => ?_
  have h := List.all_eq_true.mp h1 c hc
  rcases Bool.eq_false_or_eq_true (isCode c) with hi | hi
  · exact h2 c (List.mem_filter.mpr ⟨hc, hi⟩)
  · simpa [hi] using h
set_option maxRecDepth 65536 in
theorem w_c0 : (Jvm.Cond.code x code maxLocals ret).before args0 about1 = true := code_word (m := ⟨1, 1⟩) (meth := k1m1) (c := k1c1) (by decide +kernel) rfl rfl rfl (by decide +kernel)
set_option maxRecDepth 65536 in
theorem w_c1 : (Jvm.Cond.code ({ cls := "AuctionCross", name := "<init>", desc := "(III)V" } : Jvm.MethodName) prog_1_method_1_code (4 : Nat) (Option.none : Option Jvm.ClassFile.FieldType)).before args0 about1 = true := code_word (m := ⟨2, 0⟩) (meth := k2m0) (c := k2c0) (by decide +kernel) rfl rfl rfl (by decide +kernel)
set_option maxRecDepth 65536 in
theorem w_c2 : (Jvm.Cond.code ({ cls := "java/lang/Object", name := "<init>", desc := "()V" } : Jvm.MethodName) object_method_1_code (1 : Nat) (Option.none : Option Jvm.ClassFile.FieldType)).before args0 about1 = true := code_word (m := ⟨0, 0⟩) (meth := k0m0) (c := k0c0) (by decide +kernel) rfl rfl rfl (by decide +kernel)
set_option maxRecDepth 65536 in
theorem w_c3 : (Jvm.Cond.code ({ cls := "AuctionCross", name := "clamp", desc := "(III)I" } : Jvm.MethodName) prog_1_method_19_code (4 : Nat) (Option.some Jvm.ClassFile.FieldType.int)).before args0 about1 = true := code_word (m := ⟨2, 13⟩) (meth := k2m13) (c := k2c13) (by decide +kernel) rfl rfl rfl (by decide +kernel)
set_option maxRecDepth 65536 in
theorem w_c4 : (Jvm.Cond.code ({ cls := "AuctionCrossL3", name := "err", desc := "(II)I" } : Jvm.MethodName) method_3_code (2 : Nat) (Option.some Jvm.ClassFile.FieldType.int)).before args0 about1 = true := code_word (m := ⟨1, 2⟩) (meth := k1m2) (c := k1c2) (by decide +kernel) rfl rfl rfl (by decide +kernel)
set_option maxRecDepth 65536 in
theorem w_c5 : (Jvm.Cond.code ({ cls := "AuctionCross", name := "submit", desc := "(IIII)I" } : Jvm.MethodName) prog_1_method_2_code (6 : Nat) (Option.some Jvm.ClassFile.FieldType.int)).before args0 about1 = true := code_word (m := ⟨2, 1⟩) (meth := k2m1) (c := k2c1) (by decide +kernel) rfl rfl rfl (by decide +kernel)
set_option maxRecDepth 65536 in
theorem w_c6 : (Jvm.Cond.code ({ cls := "AuctionCross", name := "findFree", desc := "()I" } : Jvm.MethodName) prog_1_method_24_code (2 : Nat) (Option.some Jvm.ClassFile.FieldType.int)).before args0 about1 = true := code_word (m := ⟨2, 16⟩) (meth := k2m16) (c := k2c16) (by decide +kernel) rfl rfl rfl (by decide +kernel)
set_option maxRecDepth 65536 in
theorem w_c7 : (Jvm.Cond.code ({ cls := "AuctionCross", name := "indicativeVolume", desc := "()I" } : Jvm.MethodName) prog_1_method_10_code (1 : Nat) (Option.some Jvm.ClassFile.FieldType.int)).before args0 about1 = true := code_word (m := ⟨2, 4⟩) (meth := k2m4) (c := k2c4) (by decide +kernel) rfl rfl rfl (by decide +kernel)
set_option maxRecDepth 65536 in
theorem w_c8 : (Jvm.Cond.code ({ cls := "AuctionCross", name := "buildCurves", desc := "()V" } : Jvm.MethodName) prog_1_method_27_code (4 : Nat) (Option.none : Option Jvm.ClassFile.FieldType)).before args0 about1 = true := code_word (m := ⟨2, 19⟩) (meth := k2m19) (c := k2c19) (by decide +kernel) rfl rfl rfl (by decide +kernel)
set_option maxRecDepth 65536 in
theorem w_c9 : (Jvm.Cond.code ({ cls := "AuctionCross", name := "clearCurves", desc := "()V" } : Jvm.MethodName) prog_1_method_26_code (2 : Nat) (Option.none : Option Jvm.ClassFile.FieldType)).before args0 about1 = true := code_word (m := ⟨2, 18⟩) (meth := k2m18) (c := k2c18) (by decide +kernel) rfl rfl rfl (by decide +kernel)
set_option maxRecDepth 65536 in
theorem w_c10 : (Jvm.Cond.code ({ cls := "AuctionCross", name := "accumulate", desc := "(I)V" } : Jvm.MethodName) prog_1_method_28_code (3 : Nat) (Option.none : Option Jvm.ClassFile.FieldType)).before args0 about1 = true := code_word (m := ⟨2, 20⟩) (meth := k2m20) (c := k2c20) (by decide +kernel) rfl rfl rfl (by decide +kernel)
set_option maxRecDepth 65536 in
theorem w_c11 : (Jvm.Cond.code ({ cls := "AuctionCross", name := "maxVolume", desc := "()I" } : Jvm.MethodName) prog_1_method_31_code (4 : Nat) (Option.some Jvm.ClassFile.FieldType.int)).before args0 about1 = true := code_word (m := ⟨2, 23⟩) (meth := k2m23) (c := k2c23) (by decide +kernel) rfl rfl rfl (by decide +kernel)
set_option maxRecDepth 65536 in
theorem w_c12 : (Jvm.Cond.code ({ cls := "AuctionCross", name := "vol", desc := "(I)I" } : Jvm.MethodName) prog_1_method_29_code (2 : Nat) (Option.some Jvm.ClassFile.FieldType.int)).before args0 about1 = true := code_word (m := ⟨2, 21⟩) (meth := k2m21) (c := k2c21) (by decide +kernel) rfl rfl rfl (by decide +kernel)
set_option maxRecDepth 65536 in
theorem w_c13 : (Jvm.Cond.code ({ cls := "AuctionCross", name := "min", desc := "(II)I" } : Jvm.MethodName) prog_1_method_21_code (3 : Nat) (Option.some Jvm.ClassFile.FieldType.int)).before args0 about1 = true := code_word (m := ⟨2, 15⟩) (meth := k2m15) (c := k2c15) (by decide +kernel) rfl rfl rfl (by decide +kernel)
set_option maxRecDepth 65536 in
theorem w_c14 : (Jvm.Cond.code ({ cls := "AuctionCross", name := "indicativePrice", desc := "()I" } : Jvm.MethodName) prog_1_method_9_code (2 : Nat) (Option.some Jvm.ClassFile.FieldType.int)).before args0 about1 = true := code_word (m := ⟨2, 3⟩) (meth := k2m3) (c := k2c3) (by decide +kernel) rfl rfl rfl (by decide +kernel)
set_option maxRecDepth 65536 in
theorem w_c15 : (Jvm.Cond.code ({ cls := "AuctionCross", name := "choosePrice", desc := "(I)I" } : Jvm.MethodName) prog_1_method_34_code (9 : Nat) (Option.some Jvm.ClassFile.FieldType.int)).before args0 about1 = true := code_word (m := ⟨2, 26⟩) (meth := k2m26) (c := k2c26) (by decide +kernel) rfl rfl rfl (by decide +kernel)
set_option maxRecDepth 65536 in
theorem w_c16 : (Jvm.Cond.code ({ cls := "AuctionCross", name := "leastSurplus", desc := "(I)I" } : Jvm.MethodName) prog_1_method_32_code (5 : Nat) (Option.some Jvm.ClassFile.FieldType.int)).before args0 about1 = true := code_word (m := ⟨2, 24⟩) (meth := k2m24) (c := k2c24) (by decide +kernel) rfl rfl rfl (by decide +kernel)
set_option maxRecDepth 65536 in
theorem w_c17 : (Jvm.Cond.code ({ cls := "AuctionCross", name := "surplus", desc := "(I)I" } : Jvm.MethodName) prog_1_method_30_code (2 : Nat) (Option.some Jvm.ClassFile.FieldType.int)).before args0 about1 = true := code_word (m := ⟨2, 22⟩) (meth := k2m22) (c := k2c22) (by decide +kernel) rfl rfl rfl (by decide +kernel)
set_option maxRecDepth 65536 in
theorem w_c18 : (Jvm.Cond.code ({ cls := "AuctionCross", name := "abs", desc := "(I)I" } : Jvm.MethodName) prog_1_method_20_code (2 : Nat) (Option.some Jvm.ClassFile.FieldType.int)).before args0 about1 = true := code_word (m := ⟨2, 14⟩) (meth := k2m14) (c := k2c14) (by decide +kernel) rfl rfl rfl (by decide +kernel)
set_option maxRecDepth 65536 in
theorem w_c19 : (Jvm.Cond.code ({ cls := "AuctionCross", name := "inFinalSet", desc := "(III)Z" } : Jvm.MethodName) prog_1_method_33_code (4 : Nat) (Option.some Jvm.ClassFile.FieldType.boolean)).before args0 about1 = true := code_word (m := ⟨2, 25⟩) (meth := k2m25) (c := k2c25) (by decide +kernel) rfl rfl rfl (by decide +kernel)
set_option maxRecDepth 65536 in
theorem w_c20 : (Jvm.Cond.code ({ cls := "AuctionCross", name := "uncross", desc := "()I" } : Jvm.MethodName) prog_1_method_11_code (3 : Nat) (Option.some Jvm.ClassFile.FieldType.int)).before args0 about1 = true := code_word (m := ⟨2, 5⟩) (meth := k2m5) (c := k2c5) (by decide +kernel) rfl rfl rfl (by decide +kernel)
set_option maxRecDepth 65536 in
theorem w_c21 : (Jvm.Cond.code ({ cls := "AuctionCross", name := "allocateSide", desc := "(III)V" } : Jvm.MethodName) prog_1_method_40_code (8 : Nat) (Option.none : Option Jvm.ClassFile.FieldType)).before args0 about1 = true := code_word (m := ⟨2, 30⟩) (meth := k2m30) (c := k2c30) (by decide +kernel) rfl rfl rfl (by decide +kernel)
set_option maxRecDepth 65536 in
theorem w_c22 : (Jvm.Cond.code ({ cls := "AuctionCross", name := "bestEligible", desc := "(II)I" } : Jvm.MethodName) prog_1_method_39_code (5 : Nat) (Option.some Jvm.ClassFile.FieldType.int)).before args0 about1 = true := code_word (m := ⟨2, 29⟩) (meth := k2m29) (c := k2c29) (by decide +kernel) rfl rfl rfl (by decide +kernel)
set_option maxRecDepth 65536 in
theorem w_c23 : (Jvm.Cond.code ({ cls := "AuctionCross", name := "eligible", desc := "(III)Z" } : Jvm.MethodName) prog_1_method_36_code (4 : Nat) (Option.some Jvm.ClassFile.FieldType.boolean)).before args0 about1 = true := code_word (m := ⟨2, 28⟩) (meth := k2m28) (c := k2c28) (by decide +kernel) rfl rfl rfl (by decide +kernel)
set_option maxRecDepth 65536 in
theorem w_c24 : (Jvm.Cond.code ({ cls := "AuctionCross", name := "creditAccount", desc := "(II)V" } : Jvm.MethodName) prog_1_method_41_code (4 : Nat) (Option.none : Option Jvm.ClassFile.FieldType)).before args0 about1 = true := code_word (m := ⟨2, 31⟩) (meth := k2m31) (c := k2c31) (by decide +kernel) rfl rfl rfl (by decide +kernel)
set_option maxRecDepth 65536 in
theorem w_c25 : (Jvm.Cond.code ({ cls := "AuctionCross", name := "markDone", desc := "()V" } : Jvm.MethodName) prog_1_method_42_code (2 : Nat) (Option.none : Option Jvm.ClassFile.FieldType)).before args0 about1 = true := code_word (m := ⟨2, 32⟩) (meth := k2m32) (c := k2c32) (by decide +kernel) rfl rfl rfl (by decide +kernel)
set_option maxRecDepth 65536 in
theorem w_c26 : (Jvm.Cond.code ({ cls := "AuctionCross", name := "getLastPrice", desc := "()I" } : Jvm.MethodName) prog_1_method_14_code (1 : Nat) (Option.some Jvm.ClassFile.FieldType.int)).before args0 about1 = true := code_word (m := ⟨2, 8⟩) (meth := k2m8) (c := k2c8) (by decide +kernel) rfl rfl rfl (by decide +kernel)
set_option maxRecDepth 65536 in
theorem w_c27 : (Jvm.Cond.code ({ cls := "AuctionCross", name := "getLastVolume", desc := "()I" } : Jvm.MethodName) prog_1_method_15_code (1 : Nat) (Option.some Jvm.ClassFile.FieldType.int)).before args0 about1 = true := code_word (m := ⟨2, 9⟩) (meth := k2m9) (c := k2c9) (by decide +kernel) rfl rfl rfl (by decide +kernel)
set_option maxRecDepth 65536 in
theorem w_c28 : (Jvm.Cond.code ({ cls := "AuctionCross", name := "getPhase", desc := "()I" } : Jvm.MethodName) prog_1_method_13_code (1 : Nat) (Option.some Jvm.ClassFile.FieldType.int)).before args0 about1 = true := code_word (m := ⟨2, 7⟩) (meth := k2m7) (c := k2c7) (by decide +kernel) rfl rfl rfl (by decide +kernel)
set_option maxRecDepth 65536 in
theorem w_c29 : (Jvm.Cond.code ({ cls := "AuctionCross", name := "accountBought", desc := "(I)I" } : Jvm.MethodName) prog_1_method_17_code (2 : Nat) (Option.some Jvm.ClassFile.FieldType.int)).before args0 about1 = true := code_word (m := ⟨2, 11⟩) (meth := k2m11) (c := k2c11) (by decide +kernel) rfl rfl rfl (by decide +kernel)
set_option maxRecDepth 65536 in
theorem w_c30 : (Jvm.Cond.code ({ cls := "AuctionCross", name := "accountSold", desc := "(I)I" } : Jvm.MethodName) prog_1_method_18_code (2 : Nat) (Option.some Jvm.ClassFile.FieldType.int)).before args0 about1 = true := code_word (m := ⟨2, 12⟩) (meth := k2m12) (c := k2c12) (by decide +kernel) rfl rfl rfl (by decide +kernel)
set_option maxRecDepth 65536 in
theorem w_c31 : (Jvm.Cond.code ({ cls := "AuctionCrossL3", name := "slot", desc := "(LAuctionCross;III)Z" } : Jvm.MethodName) method_4_code (5 : Nat) (Option.some Jvm.ClassFile.FieldType.boolean)).before args0 about1 = true := code_word (m := ⟨1, 3⟩) (meth := k1m3) (c := k1c3) (by decide +kernel) rfl rfl rfl (by decide +kernel)
set_option maxRecDepth 65536 in
theorem w_c32 : (Jvm.Cond.code ({ cls := "AuctionCross", name := "orderField", desc := "(II)I" } : Jvm.MethodName) prog_1_method_16_code (3 : Nat) (Option.some Jvm.ClassFile.FieldType.int)).before args0 about1 = true := code_word (m := ⟨2, 10⟩) (meth := k2m10) (c := k2c10) (by decide +kernel) rfl rfl rfl (by decide +kernel)
set_option maxRecDepth 65536 in
theorem w_c33 : (Jvm.Cond.code ({ cls := "AuctionCross", name := "reopen", desc := "()I" } : Jvm.MethodName) prog_1_method_12_code (2 : Nat) (Option.some Jvm.ClassFile.FieldType.int)).before args0 about1 = true := code_word (m := ⟨2, 6⟩) (meth := k2m6) (c := k2c6) (by decide +kernel) rfl rfl rfl (by decide +kernel)
set_option maxRecDepth 65536 in
theorem w_c34 : (Jvm.Cond.code ({ cls := "AuctionCross", name := "clearSlot", desc := "(I)V" } : Jvm.MethodName) prog_1_method_25_code (2 : Nat) (Option.none : Option Jvm.ClassFile.FieldType)).before args0 about1 = true := code_word (m := ⟨2, 17⟩) (meth := k2m17) (c := k2c17) (by decide +kernel) rfl rfl rfl (by decide +kernel)
set_option maxRecDepth 65536 in
theorem w_c35 : (Jvm.Cond.code ({ cls := "AuctionCross", name := "getReference", desc := "()I" } : Jvm.MethodName) prog_1_method_6_code (1 : Nat) (Option.some Jvm.ClassFile.FieldType.int)).before args0 about1 = true := code_word (m := ⟨2, 2⟩) (meth := k2m2) (c := k2c2) (by decide +kernel) rfl rfl rfl (by decide +kernel)
set_option maxRecDepth 65536 in
theorem w_c36 : (Jvm.Cond.code ({ cls := "AuctionCross", name := "nearestToRef", desc := "(II)I" } : Jvm.MethodName) prog_1_method_35_code (7 : Nat) (Option.some Jvm.ClassFile.FieldType.int)).before args0 about1 = true := code_word (m := ⟨2, 27⟩) (meth := k2m27) (c := k2c27) (by decide +kernel) rfl rfl rfl (by decide +kernel)
def codes1 : List Jvm.Cond := [Jvm.Cond.code x code maxLocals ret, Jvm.Cond.code ({ cls := "AuctionCross", name := "<init>", desc := "(III)V" } : Jvm.MethodName) prog_1_method_1_code (4 : Nat) (Option.none : Option Jvm.ClassFile.FieldType), Jvm.Cond.code ({ cls := "java/lang/Object", name := "<init>", desc := "()V" } : Jvm.MethodName) object_method_1_code (1 : Nat) (Option.none : Option Jvm.ClassFile.FieldType), Jvm.Cond.code ({ cls := "AuctionCross", name := "clamp", desc := "(III)I" } : Jvm.MethodName) prog_1_method_19_code (4 : Nat) (Option.some Jvm.ClassFile.FieldType.int), Jvm.Cond.code ({ cls := "AuctionCrossL3", name := "err", desc := "(II)I" } : Jvm.MethodName) method_3_code (2 : Nat) (Option.some Jvm.ClassFile.FieldType.int), Jvm.Cond.code ({ cls := "AuctionCross", name := "submit", desc := "(IIII)I" } : Jvm.MethodName) prog_1_method_2_code (6 : Nat) (Option.some Jvm.ClassFile.FieldType.int), Jvm.Cond.code ({ cls := "AuctionCross", name := "findFree", desc := "()I" } : Jvm.MethodName) prog_1_method_24_code (2 : Nat) (Option.some Jvm.ClassFile.FieldType.int), Jvm.Cond.code ({ cls := "AuctionCross", name := "indicativeVolume", desc := "()I" } : Jvm.MethodName) prog_1_method_10_code (1 : Nat) (Option.some Jvm.ClassFile.FieldType.int), Jvm.Cond.code ({ cls := "AuctionCross", name := "buildCurves", desc := "()V" } : Jvm.MethodName) prog_1_method_27_code (4 : Nat) (Option.none : Option Jvm.ClassFile.FieldType), Jvm.Cond.code ({ cls := "AuctionCross", name := "clearCurves", desc := "()V" } : Jvm.MethodName) prog_1_method_26_code (2 : Nat) (Option.none : Option Jvm.ClassFile.FieldType), Jvm.Cond.code ({ cls := "AuctionCross", name := "accumulate", desc := "(I)V" } : Jvm.MethodName) prog_1_method_28_code (3 : Nat) (Option.none : Option Jvm.ClassFile.FieldType), Jvm.Cond.code ({ cls := "AuctionCross", name := "maxVolume", desc := "()I" } : Jvm.MethodName) prog_1_method_31_code (4 : Nat) (Option.some Jvm.ClassFile.FieldType.int), Jvm.Cond.code ({ cls := "AuctionCross", name := "vol", desc := "(I)I" } : Jvm.MethodName) prog_1_method_29_code (2 : Nat) (Option.some Jvm.ClassFile.FieldType.int), Jvm.Cond.code ({ cls := "AuctionCross", name := "min", desc := "(II)I" } : Jvm.MethodName) prog_1_method_21_code (3 : Nat) (Option.some Jvm.ClassFile.FieldType.int), Jvm.Cond.code ({ cls := "AuctionCross", name := "indicativePrice", desc := "()I" } : Jvm.MethodName) prog_1_method_9_code (2 : Nat) (Option.some Jvm.ClassFile.FieldType.int), Jvm.Cond.code ({ cls := "AuctionCross", name := "choosePrice", desc := "(I)I" } : Jvm.MethodName) prog_1_method_34_code (9 : Nat) (Option.some Jvm.ClassFile.FieldType.int), Jvm.Cond.code ({ cls := "AuctionCross", name := "leastSurplus", desc := "(I)I" } : Jvm.MethodName) prog_1_method_32_code (5 : Nat) (Option.some Jvm.ClassFile.FieldType.int), Jvm.Cond.code ({ cls := "AuctionCross", name := "surplus", desc := "(I)I" } : Jvm.MethodName) prog_1_method_30_code (2 : Nat) (Option.some Jvm.ClassFile.FieldType.int), Jvm.Cond.code ({ cls := "AuctionCross", name := "abs", desc := "(I)I" } : Jvm.MethodName) prog_1_method_20_code (2 : Nat) (Option.some Jvm.ClassFile.FieldType.int), Jvm.Cond.code ({ cls := "AuctionCross", name := "inFinalSet", desc := "(III)Z" } : Jvm.MethodName) prog_1_method_33_code (4 : Nat) (Option.some Jvm.ClassFile.FieldType.boolean), Jvm.Cond.code ({ cls := "AuctionCross", name := "uncross", desc := "()I" } : Jvm.MethodName) prog_1_method_11_code (3 : Nat) (Option.some Jvm.ClassFile.FieldType.int), Jvm.Cond.code ({ cls := "AuctionCross", name := "allocateSide", desc := "(III)V" } : Jvm.MethodName) prog_1_method_40_code (8 : Nat) (Option.none : Option Jvm.ClassFile.FieldType), Jvm.Cond.code ({ cls := "AuctionCross", name := "bestEligible", desc := "(II)I" } : Jvm.MethodName) prog_1_method_39_code (5 : Nat) (Option.some Jvm.ClassFile.FieldType.int), Jvm.Cond.code ({ cls := "AuctionCross", name := "eligible", desc := "(III)Z" } : Jvm.MethodName) prog_1_method_36_code (4 : Nat) (Option.some Jvm.ClassFile.FieldType.boolean), Jvm.Cond.code ({ cls := "AuctionCross", name := "creditAccount", desc := "(II)V" } : Jvm.MethodName) prog_1_method_41_code (4 : Nat) (Option.none : Option Jvm.ClassFile.FieldType), Jvm.Cond.code ({ cls := "AuctionCross", name := "markDone", desc := "()V" } : Jvm.MethodName) prog_1_method_42_code (2 : Nat) (Option.none : Option Jvm.ClassFile.FieldType), Jvm.Cond.code ({ cls := "AuctionCross", name := "getLastPrice", desc := "()I" } : Jvm.MethodName) prog_1_method_14_code (1 : Nat) (Option.some Jvm.ClassFile.FieldType.int), Jvm.Cond.code ({ cls := "AuctionCross", name := "getLastVolume", desc := "()I" } : Jvm.MethodName) prog_1_method_15_code (1 : Nat) (Option.some Jvm.ClassFile.FieldType.int), Jvm.Cond.code ({ cls := "AuctionCross", name := "getPhase", desc := "()I" } : Jvm.MethodName) prog_1_method_13_code (1 : Nat) (Option.some Jvm.ClassFile.FieldType.int), Jvm.Cond.code ({ cls := "AuctionCross", name := "accountBought", desc := "(I)I" } : Jvm.MethodName) prog_1_method_17_code (2 : Nat) (Option.some Jvm.ClassFile.FieldType.int), Jvm.Cond.code ({ cls := "AuctionCross", name := "accountSold", desc := "(I)I" } : Jvm.MethodName) prog_1_method_18_code (2 : Nat) (Option.some Jvm.ClassFile.FieldType.int), Jvm.Cond.code ({ cls := "AuctionCrossL3", name := "slot", desc := "(LAuctionCross;III)Z" } : Jvm.MethodName) method_4_code (5 : Nat) (Option.some Jvm.ClassFile.FieldType.boolean), Jvm.Cond.code ({ cls := "AuctionCross", name := "orderField", desc := "(II)I" } : Jvm.MethodName) prog_1_method_16_code (3 : Nat) (Option.some Jvm.ClassFile.FieldType.int), Jvm.Cond.code ({ cls := "AuctionCross", name := "reopen", desc := "()I" } : Jvm.MethodName) prog_1_method_12_code (2 : Nat) (Option.some Jvm.ClassFile.FieldType.int), Jvm.Cond.code ({ cls := "AuctionCross", name := "clearSlot", desc := "(I)V" } : Jvm.MethodName) prog_1_method_25_code (2 : Nat) (Option.none : Option Jvm.ClassFile.FieldType), Jvm.Cond.code ({ cls := "AuctionCross", name := "getReference", desc := "()I" } : Jvm.MethodName) prog_1_method_6_code (1 : Nat) (Option.some Jvm.ClassFile.FieldType.int), Jvm.Cond.code ({ cls := "AuctionCross", name := "nearestToRef", desc := "(II)I" } : Jvm.MethodName) prog_1_method_35_code (7 : Nat) (Option.some Jvm.ClassFile.FieldType.int)]
set_option maxRecDepth 65536 in
theorem codes_eq : words1.filter isCode = codes1 := rfl
theorem w_codes : ∀ c ∈ words1.filter isCode, c.before args0 about1 = true := by
  rw [codes_eq]
  intro c hc
  simp only [codes1, List.mem_cons, List.not_mem_nil, or_false] at hc
  rcases hc with rfl | rfl | rfl | rfl | rfl | rfl | rfl | rfl | rfl | rfl | rfl | rfl | rfl | rfl | rfl | rfl | rfl | rfl | rfl | rfl | rfl | rfl | rfl | rfl | rfl | rfl | rfl | rfl | rfl | rfl | rfl | rfl | rfl | rfl | rfl | rfl | rfl
  · exact w_c0
  · exact w_c1
  · exact w_c2
  · exact w_c3
  · exact w_c4
  · exact w_c5
  · exact w_c6
  · exact w_c7
  · exact w_c8
  · exact w_c9
  · exact w_c10
  · exact w_c11
  · exact w_c12
  · exact w_c13
  · exact w_c14
  · exact w_c15
  · exact w_c16
  · exact w_c17
  · exact w_c18
  · exact w_c19
  · exact w_c20
  · exact w_c21
  · exact w_c22
  · exact w_c23
  · exact w_c24
  · exact w_c25
  · exact w_c26
  · exact w_c27
  · exact w_c28
  · exact w_c29
  · exact w_c30
  · exact w_c31
  · exact w_c32
  · exact w_c33
  · exact w_c34
  · exact w_c35
  · exact w_c36
set_option maxRecDepth 65536 in
theorem w_t1 : (words1.take 24).all (fun c => isCode c || c.before args0 about1) = true := by decide +kernel
set_option maxRecDepth 65536 in
theorem w_t2 : ((words1.drop 24).take 24).all (fun c => isCode c || c.before args0 about1) = true := by decide +kernel
set_option maxRecDepth 65536 in
theorem w_t3 : (((words1.drop 24).drop 24).take 24).all (fun c => isCode c || c.before args0 about1) = true := by decide +kernel
set_option maxRecDepth 65536 in
theorem w_t4 : ((((words1.drop 24).drop 24).drop 24).take 24).all (fun c => isCode c || c.before args0 about1) = true := by decide +kernel
set_option maxRecDepth 65536 in
theorem w_t5 : (((((words1.drop 24).drop 24).drop 24).drop 24).take 24).all (fun c => isCode c || c.before args0 about1) = true := by decide +kernel
set_option maxRecDepth 65536 in
theorem w_t6 : ((((((words1.drop 24).drop 24).drop 24).drop 24).drop 24).take 24).all (fun c => isCode c || c.before args0 about1) = true := by decide +kernel
set_option maxRecDepth 65536 in
theorem w_t7 : (((((((words1.drop 24).drop 24).drop 24).drop 24).drop 24).drop 24).take 24).all (fun c => isCode c || c.before args0 about1) = true := by decide +kernel
set_option maxRecDepth 65536 in
theorem w_t8 : ((((((((words1.drop 24).drop 24).drop 24).drop 24).drop 24).drop 24).drop 24).take 24).all (fun c => isCode c || c.before args0 about1) = true := by decide +kernel
set_option maxRecDepth 65536 in
theorem w_t9 : ((((((((words1.drop 24).drop 24).drop 24).drop 24).drop 24).drop 24).drop 24).drop 24).all (fun c => isCode c || c.before args0 about1) = true := by decide +kernel
theorem w_tables : (allAtoms (Jvm.Cond.code x code maxLocals ret :: tables_1)).before args0 about1 = true := by
  rw [allAtoms_all]
  show words1.all (fun c => c.before args0 about1) = true
  refine all_split ?_ w_codes
  rw [← List.take_append_drop 24 words1, List.all_append, w_t1, ← List.take_append_drop 24 (words1.drop 24), List.all_append, w_t2, ← List.take_append_drop 24 ((words1.drop 24).drop 24), List.all_append, w_t3, ← List.take_append_drop 24 (((words1.drop 24).drop 24).drop 24), List.all_append, w_t4, ← List.take_append_drop 24 ((((words1.drop 24).drop 24).drop 24).drop 24), List.all_append, w_t5, ← List.take_append_drop 24 (((((words1.drop 24).drop 24).drop 24).drop 24).drop 24), List.all_append, w_t6, ← List.take_append_drop 24 ((((((words1.drop 24).drop 24).drop 24).drop 24).drop 24).drop 24), List.all_append, w_t7, ← List.take_append_drop 24 (((((((words1.drop 24).drop 24).drop 24).drop 24).drop 24).drop 24).drop 24), List.all_append, w_t8, w_t9]
  rfl
set_option maxRecDepth 65536 in
theorem w_case : (Jvm.Cond.and given_1 narrow_1).before args0 about1 = true := by decide +kernel
theorem w_applies : (headSpec (Jvm.Cond.code x code maxLocals ret :: tables_1) room_1).applies x e0.platform about1 = true :=
  (Spec.applies_iff w_frames).mpr ⟨w_running, w_runnable, w_alone, w_named, w_hears, w_ripe, w_room, w_tables⟩
theorem atStart : AtStart classFile x code maxLocals ret World_1 tables_1 room_1 Calls_1 rest_1 Pre_1 launch0 p0 e0 about1 theMethod args0 below0 :=
  ⟨lists_1, trivial, launch0.admits_env _ _ _, launch0.least_env, fairChoices_fair.cas, fairChoices_fair.clock, w_frames, w_args, w_heap, w_applies, trivial, trivial, w_case⟩
end start1
theorem witness_1 : WitnessClaimed_1 := ⟨start1.p0, start1.e0, start1.about1, start1.theMethod, start1.args0, start1.below0, start1.atStart⟩
end Jvm.Pilot.@@N@@
