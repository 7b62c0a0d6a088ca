import JvmDerived
import JvmDerived.Pilot.@@N@@Statement
import JvmDerived.Pilot.@@N@@Code
set_option linter.unusedVariables false
set_option linter.unusedSimpArgs false
namespace Jvm.Pilot.@@N@@
open Jvm Jvm.ClassFile Sem Op Lib Jvm.Free Jvm.Stand Jvm.LawKit Jvm.RoadKit Bundle Jvm.Pilot.@@N@@.Jvm.D
/-! THE ABSTRACT MACHINE: a config (pc, locals, stack, contents) over numbered cells, and its steps over the library's laws (family of example/lawnew). -/
abbrev Sg := (Nat → Nat → Int32) × (Nat → Nat → Int64)
def gi (σ : Sg) (k i : Nat) : Int32 := σ.1 k i
def gj (σ : Sg) (k i : Nat) : Int64 := σ.2 k i
def si (σ : Sg) (k i : Nat) (v : Int32) : Sg := (fun k' i' => if k' = k ∧ i' = i then v else σ.1 k' i', σ.2)
def sj (σ : Sg) (k i : Nat) (v : Int64) : Sg := (σ.1, fun k' i' => if k' = k ∧ i' = i then v else σ.2 k' i')
def zs : Sg := (fun _ _ => 0, fun _ _ => 0)
theorem gi_si (σ : Sg) (k i k' i' : Nat) (v : Int32) : gi (si σ k i v) k' i' = if k' = k ∧ i' = i then v else gi σ k' i' := of_eq_true (eq_self _)
theorem gj_sj (σ : Sg) (k i k' i' : Nat) (v : Int64) : gj (sj σ k i v) k' i' = if k' = k ∧ i' = i then v else gj σ k' i' := of_eq_true (eq_self _)
theorem gi_sj (σ : Sg) (k i k' i' : Nat) (v : Int64) : gi (sj σ k i v) k' i' = gi σ k' i' := of_eq_true (eq_self _)
theorem gj_si (σ : Sg) (k i k' i' : Nat) (v : Int32) : gj (si σ k i v) k' i' = gj σ k' i' := of_eq_true (eq_self _)
theorem gi_zs (k i : Nat) : gi zs k i = 0 := of_eq_true (eq_self _)
theorem gj_zs (k i : Nat) : gj zs k i = 0 := of_eq_true (eq_self _)
def nx (i : Int32) : Nat := i.toInt.toNat
/-- a numbered cell: an object of the class with its first q arrays laid; an array of n places (its own, or one that is only read) -/
abbrev CD := Nat ⊕ (FieldType × Nat × Option (Nat → Int32))
abbrev FS := List (String × String × Nat)
def cv (A : Nat → Addr) : Value → Value
  | .ref k => .ref (A k)
  | v => v
def fv (σ : Sg) (k j q : Nat) : Nat → Value
  | 0 => .int (gi σ k j)
  | 1 => .long (gj σ k j)
  | r + 2 => if r < q then .ref (k + (r + 1)) else .null
def ae (σ : Sg) (k i : Nat) : FieldType → Value
  | .long => .long (gj σ k i)
  | _ => .int (gi σ k i)
def aeo (σ : Sg) (k i : Nat) (ty : FieldType) : Option (Nat → Int32) → Value
  | none => ae σ k i ty
  | some f => .int (f i)
def wrb : CD → Bool
  | .inl _ => true
  | .inr (_, _, o) => o.isNone
def CellOk (Z : State) (C : String) (fs : FS) (h : Heap) (A : Nat → Addr) (σ : Sg) (k : Nat) : CD → Prop
  | .inl q => Exa Z h (A k) C ∧ ∀ (j : Nat) (n d : String) (cd : Nat), fs[j]? = some (n, d, cd) → Fld Z h (A k) C n d (cv A (fv σ k j q cd))
  | .inr (ty, n, o) => ∃ c : Cell, Arr Z h (A k) c ty ∧ c.slots.size = n ∧ ∀ i, i < n → c.slots[i]? = some (aeo σ k i ty o)
def Wd (Z : State) (C : String) (fs : FS) (h : Heap) (A : Nat → Addr) (w : Nat → Option CD) (σ : Sg) : Prop :=
  (∀ k d, w k = some d → CellOk Z C fs h A σ k d) ∧ ∀ k k' d d', w k = some d → w k' = some d' → A k = A k' → k = k'
def Out (h0 h : Heap) (A : Nat → Addr) (w : Nat → Option CD) : Prop := h0.size ≤ h.size ∧ ∀ (b : Addr) (c : Cell), h0[b]? = some c → (∀ k d, w k = some d → wrb d = true → A k ≠ b) → h[b]? = some c
def Nw (n0 : Nat) (A : Nat → Addr) (w : Nat → Option CD) : Prop := ∀ k d, w k = some d → wrb d = true → n0 ≤ A k
theorem Out.refl (h : Heap) (A : Nat → Addr) (w : Nat → Option CD) : Out h h A w := ⟨Nat.le_refl _, fun _ _ q _ => q⟩
theorem cv_cat (A : Nat → Addr) (v : Value) : (cv A v).category = v.category := by cases v <;> rfl
/-! locals -/
def WP (rl : List Slot) : Prop := ∀ k, rl[k]? = some .second ↔ ∃ k', k = k' + 1 ∧ ∃ w : Value, rl[k']? = some (.val w) ∧ w.category = 2
def LsOk (A : Nat → Addr) (Ls rl : List Slot) : Prop := rl.length = Ls.length ∧ WP rl ∧ ∀ (k : Nat) (v : Value), Ls[k]? = some (.val v) → rl[k]? = some (.val (cv A v))
def cl1 (Ls : List Slot) : Nat → List Slot
  | 0 => Ls
  | k + 1 => match Ls[k]? with
    | some (.val u) => if u.category = 2 then Ls.set k .unset else Ls
    | _ => Ls
def st1 (Ls : List Slot) (k : Nat) (v : Value) : List Slot := (cl1 Ls k).set k (.val v)
def st2 (Ls : List Slot) (k : Nat) (v : Value) : List Slot := ((cl1 Ls k).set k (.val v)).set (k + 1) .second
def entX : List Value → List Slot
  | [] => []
  | v :: vs => if v.category = 2 then .val v :: .second :: entX vs else .val v :: entX vs
def entL (vs : List Value) (n : Nat) : List Slot := entX vs ++ List.replicate (n - (entX vs).length) .unset
theorem WP.unset (n : Nat) : WP (List.replicate n .unset) := fun k => by
  constructor
  · intro h; rw [List.getElem?_replicate] at h; split at h <;> cases h
  · rintro ⟨k', -, w, h, -⟩; rw [List.getElem?_replicate] at h; split at h <;> cases h
theorem WP.cons1 {l : List Slot} {v : Value} (h : WP l) (hv : v.category ≠ 2) : WP (.val v :: l) := fun k => by
  cases k with
  | zero => exact ⟨fun q => by simp at q, fun ⟨k', q, _⟩ => by omega⟩
  | succ k =>
    rw [List.getElem?_cons_succ, h k]
    constructor
    · rintro ⟨k', rfl, w, h1, h2⟩; exact ⟨k' + 1, rfl, w, by rw [List.getElem?_cons_succ]; exact h1, h2⟩
    · rintro ⟨k', e, w, h1, h2⟩
      cases k' with
      | zero => simp at h1; subst h1; exact absurd h2 hv
      | succ k' => exact ⟨k', by omega, w, by rw [List.getElem?_cons_succ] at h1; exact h1, h2⟩
theorem WP.cons2 {l : List Slot} {v : Value} (h : WP l) (hv : v.category = 2) : WP (.val v :: .second :: l) := fun k => by
  match k with
  | 0 => exact ⟨fun q => by simp at q, fun ⟨k', q, _⟩ => by omega⟩
  | 1 => exact ⟨fun _ => ⟨0, rfl, v, rfl, hv⟩, fun _ => rfl⟩
  | k + 2 =>
    rw [List.getElem?_cons_succ, List.getElem?_cons_succ, h k]
    constructor
    · rintro ⟨k', rfl, w, h1, h2⟩; exact ⟨k' + 2, rfl, w, by rw [List.getElem?_cons_succ, List.getElem?_cons_succ]; exact h1, h2⟩
    · rintro ⟨k', e, w, h1, h2⟩
      match k' with
      | 0 => omega
      | 1 => simp at h1
      | k' + 2 => exact ⟨k', by omega, w, by rw [List.getElem?_cons_succ, List.getElem?_cons_succ] at h1; exact h1, h2⟩
theorem entX_wp (vs : List Value) (n : Nat) : WP (entX vs ++ List.replicate n .unset) := by
  induction vs with
  | nil => exact WP.unset n
  | cons v vs ih =>
    by_cases hv : v.category = 2
    · simp only [entX, if_pos hv, List.cons_append]; exact ih.cons2 hv
    · simp only [entX, if_neg hv, List.cons_append]; exact ih.cons1 hv
theorem entX_map (A : Nat → Addr) (vs : List Value) : (entX (vs.map (cv A))).length = (entX vs).length ∧ ∀ (k : Nat) (v : Value) (r : List Slot) , (entX vs ++ r)[k]? = some (.val v) → (∀ j : Nat, r[j]? ≠ some (Slot.val v)) → (entX (vs.map (cv A)) ++ r)[k]? = some (.val (cv A v)) := by
  induction vs with
  | nil => exact ⟨rfl, fun k v r h q => absurd h (by simpa [entX] using q k)⟩
  | cons u vs ih =>
    have e : (cv A u).category = 2 ↔ u.category = 2 := by rw [cv_cat]
    by_cases hv : u.category = 2
    · simp only [List.map_cons, entX, if_pos hv, if_pos (e.mpr hv), List.cons_append, List.length_cons, ih.1, true_and]
      intro k v r h q
      match k with
      | 0 => simp at h ⊢; rw [h]
      | 1 => simp at h
      | k + 2 => rw [List.getElem?_cons_succ, List.getElem?_cons_succ] at h ⊢; exact ih.2 k v r h q
    · simp only [List.map_cons, entX, if_neg hv, if_neg (fun x => hv (e.mp x)), List.cons_append, List.length_cons, ih.1, true_and]
      intro k v r h q
      match k with
      | 0 => simp at h ⊢; rw [h]
      | k + 1 => rw [List.getElem?_cons_succ] at h ⊢; exact ih.2 k v r h q
theorem entL_ok (A : Nat → Addr) (vs : List Value) (n : Nat) : LsOk A (entL vs n) (entL (vs.map (cv A)) n) := by
  refine ⟨by simp only [entL, List.length_append, List.length_replicate, (entX_map A vs).1], entX_wp _ _, fun k v h => ?_⟩
  unfold entL at h ⊢
  rw [(entX_map A vs).1]
  exact (entX_map A vs).2 k v _ h fun j q => by rw [List.getElem?_replicate] at q; split at q <;> cases q
theorem entL_arr (vs : List Value) (n : Nat) : argsToLocals vs.toArray n = (entL vs n).toArray := by
  have key : ∀ (vs : List Value) (acc : Array Slot), vs.foldl (fun acc v => if v.category = 2 then (acc.push (.val v)).push .second else acc.push (.val v)) acc = acc ++ (entX vs).toArray := by
    intro vs
    induction vs with
    | nil => intro acc; simp [entX]
    | cons v vs ih =>
      intro acc
      rw [List.foldl_cons, ih]
      by_cases hv : v.category = 2
      · simp only [entX, if_pos hv]; apply Array.toList_inj.mp; simp
      · simp only [entX, if_neg hv]; apply Array.toList_inj.mp; simp
  unfold argsToLocals entL
  simp only [List.foldl_toArray', key]
  apply Array.toList_inj.mp; simp
theorem cl1_len (Ls : List Slot) (k : Nat) : (cl1 Ls k).length = Ls.length := by
  cases k with
  | zero => rfl
  | succ k => simp only [cl1]; split <;> first | rfl | (split <;> simp)
theorem cl1_val {Ls : List Slot} {k k2 : Nat} {v : Value} (h : (cl1 Ls k)[k2]? = some (.val v)) : Ls[k2]? = some (.val v) ∧ (k = k2 + 1 → v.category ≠ 2) := by
  cases k with
  | zero => exact ⟨h, fun q => by omega⟩
  | succ k =>
    simp only [cl1] at h
    split at h
    · rename_i u hu
      split at h
      · rename_i h2
        rw [List.getElem?_set] at h
        split at h
        · split at h <;> cases h
        · rename_i ne; exact ⟨h, fun q => by omega⟩
      · rename_i h2
        refine ⟨h, fun q => ?_⟩
        have : k = k2 := by omega
        subst this
        rw [hu] at h; cases h; exact h2
    · rename_i hno
      refine ⟨h, fun q => ?_⟩
      have : k = k2 := by omega
      subst this
      exact absurd h (hno v)
/-- what a store leaves at each place -/
theorem am_st1 {A : Nat → Addr} {Ls rl : List Slot} {k : Nat} {v : Value} (L : LsOk A Ls rl) (hk : k < Ls.length) (hv : v.category = 1) : ∃ rl' : List Slot, storeLocals rl.toArray k (cv A v) = some rl'.toArray ∧ LsOk A (st1 Ls k v) rl' := by
  obtain ⟨hl, hw, hc⟩ := L
  have hk' : k < rl.length := by omega
  have hcat : (cv A v).category = 1 := by rw [cv_cat]; exact hv
  have hr : rl[k]? = some rl[k] := List.getElem?_eq_getElem hk'
  have hlen : (st1 Ls k v).length = Ls.length := by simp [st1, cl1_len]
  have hclaim : ∀ (j : Nat) (u : Value), (st1 Ls k v)[j]? = some (.val u) → (j = k ∧ u = v) ∨ (j ≠ k ∧ Ls[j]? = some (.val u) ∧ (k = j + 1 → u.category ≠ 2)) := by
    intro j u h
    unfold st1 at h
    rw [List.getElem?_set] at h
    split at h
    · rename_i e; subst e
      split at h
      · cases h; exact Or.inl ⟨rfl, rfl⟩
      · cases h
    · rename_i ne
      exact Or.inr ⟨fun e => ne e.symm, cl1_val h⟩
  cases hs : rl[k] with
  | unset =>
    rw [hs] at hr
    refine ⟨rl.set k (.val (cv A v)), by simp [storeLocals, storeSelf, setAt, hr, hs, hcat, hk'], by simp [hlen, hl], fun j => ?_, fun j u h => ?_⟩
    · rw [List.getElem?_set]
      constructor
      · intro h
        split at h
        · first | cases h | (split at h <;> cases h)
        · obtain ⟨j', rfl, w, h1, h2⟩ := (hw j).mp h
          exact ⟨j', rfl, w, by rw [List.getElem?_set]; rw [if_neg (fun e => by subst e; rw [hr] at h1; cases h1)]; exact h1, h2⟩
      · rintro ⟨j', rfl, w, h1, h2⟩
        rw [List.getElem?_set] at h1
        split at h1
        · first | (cases h1; omega) | (split at h1 <;> first | (cases h1; omega) | cases h1)
        · rw [if_neg (fun e => by have := (hw (j' + 1)).mpr ⟨j', rfl, w, h1, h2⟩; rw [← e, hr] at this; cases this)]
          exact (hw (j' + 1)).mpr ⟨j', rfl, w, h1, h2⟩
    · rcases hclaim j u h with ⟨rfl, rfl⟩ | ⟨ne, h1, h2⟩
      · rw [List.getElem?_set]; simp [hk']
      · rw [List.getElem?_set, if_neg (fun e => ne e.symm)]; exact hc j u h1
  | second =>
    rw [hs] at hr
    obtain ⟨k', rfl, w0, hw1, hw2⟩ := (hw k).mp hr
    refine ⟨(rl.set k' .unset).set (k' + 1) (.val (cv A v)), by simp [storeLocals, storeSelf, setAt, hr, hs, hcat, hk', show k' < rl.length by omega], by simp [hlen, hl], fun j => ?_, fun j u h => ?_⟩
    · rw [List.getElem?_set, List.getElem?_set, List.length_set]
      constructor
      · intro h
        split at h
        · first | cases h | (split at h <;> cases h)
        · rename_i n1
          split at h
          · first | cases h | (split at h <;> cases h)
          · rename_i n2
            obtain ⟨j', rfl, w, h1, h2⟩ := (hw j).mp h
            refine ⟨j', rfl, w, ?_, h2⟩
            rw [List.getElem?_set, List.getElem?_set]
            rw [if_neg (fun e => by subst e; rw [hr] at h1; cases h1), if_neg (fun e => by omega)]; exact h1
      · rintro ⟨j', rfl, w, h1, h2⟩
        rw [List.getElem?_set, List.getElem?_set, List.length_set] at h1
        split at h1
        · first | (cases h1; omega) | (split at h1 <;> first | (cases h1; omega) | cases h1)
        · rename_i n1
          split at h1
          · first | cases h1 | (split at h1 <;> cases h1)
          · rename_i n2
            have q := (hw (j' + 1)).mpr ⟨j', rfl, w, h1, h2⟩
            rw [if_neg (fun e => by omega), if_neg (fun e => by
              have : rl[k']? = some .second := by rw [e]; exact q
              rw [hw1] at this; cases this)]
            exact q
    · rcases hclaim j u h with ⟨rfl, rfl⟩ | ⟨ne, h1, h2⟩
      · rw [List.getElem?_set]; simp [hk']
      · rw [List.getElem?_set, if_neg (fun e => ne e.symm), List.getElem?_set]
        by_cases e : k' = j
        · subst e
          have := hc k' u h1
          rw [hw1] at this; cases this
          rw [cv_cat] at hw2
          exact absurd hw2 (h2 rfl)
        · rw [if_neg e]; exact hc j u h1
  | val r =>
    rw [hs] at hr
    by_cases hr2 : r.category = 2
    · have hsec : rl[k + 1]? = some .second := (hw (k + 1)).mpr ⟨k, rfl, r, hr, hr2⟩
      have hk1 : k + 1 < rl.length := (List.getElem?_eq_some_iff.mp hsec).1
      refine ⟨(rl.set (k + 1) .unset).set k (.val (cv A v)), by simp [storeLocals, storeSelf, setAt, hr, hs, hr2, hcat, hk', hk1], by simp [hlen, hl], fun j => ?_, fun j u h => ?_⟩
      · rw [List.getElem?_set, List.getElem?_set, List.length_set]
        constructor
        · intro h
          split at h
          · first | cases h | (split at h <;> cases h)
          · rename_i n1
            split at h
            · first | cases h | (split at h <;> cases h)
            · rename_i n2
              obtain ⟨j', rfl, w, h1, h2⟩ := (hw j).mp h
              refine ⟨j', rfl, w, ?_, h2⟩
              rw [List.getElem?_set, List.getElem?_set]
              rw [if_neg (fun e => by omega), if_neg (fun e => by rw [← e, hsec] at h1; cases h1)]; exact h1
        · rintro ⟨j', rfl, w, h1, h2⟩
          rw [List.getElem?_set, List.getElem?_set, List.length_set] at h1
          split at h1
          · first | (cases h1; omega) | (split at h1 <;> first | (cases h1; omega) | cases h1)
          · rename_i n1
            split at h1
            · first | cases h1 | (split at h1 <;> cases h1)
            · rename_i n2
              have q := (hw (j' + 1)).mpr ⟨j', rfl, w, h1, h2⟩
              rw [if_neg (fun e => by rw [← e, hr] at q; cases q), if_neg (fun e => by omega)]
              exact q
      · rcases hclaim j u h with ⟨rfl, rfl⟩ | ⟨ne, h1, h2⟩
        · rw [List.getElem?_set]; simp [hk']
        · rw [List.getElem?_set, if_neg (fun e => ne e.symm), List.getElem?_set]
          by_cases e : k + 1 = j
          · subst e
            have := hc _ u h1
            rw [hsec] at this; cases this
          · rw [if_neg e]; exact hc j u h1
    · refine ⟨rl.set k (.val (cv A v)), by simp [storeLocals, storeSelf, setAt, hr, hs, hr2, hcat, hk'], by simp [hlen, hl], fun j => ?_, fun j u h => ?_⟩
      · rw [List.getElem?_set]
        constructor
        · intro h
          split at h
          · first | cases h | (split at h <;> cases h)
          · obtain ⟨j', rfl, w, h1, h2⟩ := (hw j).mp h
            exact ⟨j', rfl, w, by rw [List.getElem?_set]; rw [if_neg (fun e => by subst e; rw [hr] at h1; cases h1; exact hr2 h2)]; exact h1, h2⟩
        · rintro ⟨j', rfl, w, h1, h2⟩
          rw [List.getElem?_set] at h1
          split at h1
          · first | (cases h1; omega) | (split at h1 <;> first | (cases h1; omega) | cases h1)
          · rw [if_neg (fun e => by have := (hw (j' + 1)).mpr ⟨j', rfl, w, h1, h2⟩; rw [← e, hr] at this; cases this)]
            exact (hw (j' + 1)).mpr ⟨j', rfl, w, h1, h2⟩
      · rcases hclaim j u h with ⟨rfl, rfl⟩ | ⟨ne, h1, h2⟩
        · rw [List.getElem?_set]; simp [hk']
        · rw [List.getElem?_set, if_neg (fun e => ne e.symm)]; exact hc j u h1
theorem wp2 {rl rl' : List Slot} {k : Nat} {v : Value} (hw : WP rl) (hv : v.category = 2) (h0 : rl'[k]? = some (.val v)) (h1 : rl'[k + 1]? = some .second)
    (hj : ∀ j, j ≠ k → j ≠ k + 1 → (rl'[j]? = rl[j]? ∧ ¬ (j + 1 = k ∧ rl[k]? = some .second) ∧ ¬ (j = k + 2 ∧ ∃ u : Value, rl[k + 1]? = some (.val u) ∧ u.category = 2)) ∨ (rl'[j]? = some .unset ∧ ((j + 1 = k ∧ rl[k]? = some .second) ∨ (j = k + 2 ∧ ∃ u : Value, rl[k + 1]? = some (.val u) ∧ u.category = 2)))) : WP rl' := fun j => by
  constructor
  · intro h
    by_cases e1 : j = k
    · subst e1; rw [h0] at h; cases h
    by_cases e2 : j = k + 1
    · exact ⟨k, e2, v, h0, hv⟩
    rcases hj j e1 e2 with ⟨q, n1, n2⟩ | ⟨q, -⟩
    · rw [q] at h
      obtain ⟨j', rfl, w, a1, a2⟩ := (hw j).mp h
      refine ⟨j', rfl, w, ?_, a2⟩
      have d1 : j' ≠ k := fun e => e2 (by omega)
      have d2 : j' ≠ k + 1 := fun e => n2 ⟨by omega, w, by rw [← e]; exact a1, a2⟩
      rcases hj j' d1 d2 with ⟨q', -⟩ | ⟨-, ⟨z1, z2⟩ | ⟨z1, u, z2, z3⟩⟩
      · rw [q']; exact a1
      · exact absurd z1 e1
      · have := (hw (k + 2)).mpr ⟨k + 1, rfl, u, z2, z3⟩
        rw [← z1, a1] at this; cases this
    · rw [q] at h; cases h
  · rintro ⟨j', rfl, w, a1, a2⟩
    by_cases e1 : j' = k
    · subst e1; exact h1
    by_cases e2 : j' = k + 1
    · subst e2; rw [h1] at a1; cases a1
    rcases hj j' e1 e2 with ⟨q, n1, n2⟩ | ⟨q, -⟩
    · rw [q] at a1
      have s := (hw (j' + 1)).mpr ⟨j', rfl, w, a1, a2⟩
      have d1 : j' + 1 ≠ k := fun e => n1 ⟨e, by rw [← e]; exact s⟩
      have d2 : j' + 1 ≠ k + 1 := fun e => e1 (by omega)
      rcases hj (j' + 1) d1 d2 with ⟨q', -⟩ | ⟨-, ⟨z1, z2⟩ | ⟨z1, -⟩⟩
      · rw [q']; exact s
      · obtain ⟨k', y1, w', y2, y3⟩ := (hw k).mp z2
        have : k' = j' + 1 := by omega
        subst this
        rw [s] at y2; cases y2
      · exact absurd (by omega) e2
    · rw [q] at a1; cases a1
theorem am_st2 {A : Nat → Addr} {Ls rl : List Slot} {k : Nat} {v : Value} (L : LsOk A Ls rl) (hk : k + 1 < Ls.length) (hv : v.category = 2) : ∃ rl' : List Slot, storeLocals rl.toArray k (cv A v) = some rl'.toArray ∧ LsOk A (st2 Ls k v) rl' := by
  obtain ⟨hl, hw, hc⟩ := L
  have hk' : k < rl.length := by omega
  have hk1 : k + 1 < rl.length := by omega
  have hcat : (cv A v).category = 2 := by rw [cv_cat]; exact hv
  have hr : rl[k]? = some rl[k] := List.getElem?_eq_getElem hk'
  have hr1 : rl[k + 1]? = some rl[k + 1] := List.getElem?_eq_getElem hk1
  have hlen : (st2 Ls k v).length = Ls.length := by simp [st2, cl1_len]
  have fin : ∀ rl' : List Slot, rl'.length = rl.length → rl'[k]? = some (.val (cv A v)) → rl'[k + 1]? = some .second →
      (∀ j, j ≠ k → j ≠ k + 1 → (rl'[j]? = rl[j]? ∧ ¬ (j + 1 = k ∧ rl[k]? = some .second) ∧ ¬ (j = k + 2 ∧ ∃ u : Value, rl[k + 1]? = some (.val u) ∧ u.category = 2)) ∨ (rl'[j]? = some .unset ∧ ((j + 1 = k ∧ rl[k]? = some .second) ∨ (j = k + 2 ∧ ∃ u : Value, rl[k + 1]? = some (.val u) ∧ u.category = 2)))) → LsOk A (st2 Ls k v) rl' := by
    intro rl' e0 h0 h1 hj
    refine ⟨by omega, wp2 hw hcat h0 h1 hj, fun j u h => ?_⟩
    unfold st2 at h
    rw [List.getElem?_set] at h
    split at h
    · first | cases h | (split at h <;> cases h)
    · rename_i n2
      rw [List.getElem?_set] at h
      split at h
      · rename_i e; subst e
        split at h
        · cases h; exact h0
        · cases h
      · rename_i n1
        obtain ⟨a1, a2⟩ := cl1_val h
        have a3 := hc j u a1
        rcases hj j (fun e => n1 e.symm) (fun e => n2 e.symm) with ⟨q, -⟩ | ⟨-, ⟨z1, z2⟩ | ⟨z1, y, z2, z3⟩⟩
        · rw [q]; exact a3
        · obtain ⟨k', y1, w', y2, y3⟩ := (hw k).mp z2
          have : k' = j := by omega
          subst this
          rw [a3] at y2; cases y2
          rw [cv_cat] at y3
          exact absurd y3 (a2 y1)
        · have := (hw (k + 2)).mpr ⟨k + 1, rfl, y, z2, z3⟩
          rw [← z1, a3] at this; cases this
  by_cases c2 : ∃ u : Value, rl[k + 1]? = some (.val u) ∧ u.category = 2
  · obtain ⟨u, u1, u2⟩ := c2
    have hs1 : rl[k + 1] = .val u := by rw [u1] at hr1; exact (Option.some.inj hr1).symm
    have h3 : rl[k + 2]? = some .second := (hw (k + 2)).mpr ⟨k + 1, rfl, u, u1, u2⟩
    have hk2 : k + 2 < rl.length := (List.getElem?_eq_some_iff.mp h3).1
    cases hs : rl[k] with
    | unset =>
      rw [hs] at hr
      refine ⟨((rl.set k (.val (cv A v))).set (k + 2) .unset).set (k + 1) .second, by simp [storeLocals, storeSelf, setAt, hr, hs, hcat, hk', hk1, hk2, u1, u2, hs1], fin _ (by simp) (by simp [List.getElem?_set, hk']) (by simp [List.getElem?_set, hk1]) fun j n1 n2 => ?_⟩
      by_cases e : j = k + 2
      · subst e; exact Or.inr ⟨by simp [List.getElem?_set, hk2], Or.inr ⟨rfl, u, u1, u2⟩⟩
      · exact Or.inl ⟨by simp [List.getElem?_set, Ne.symm n1, Ne.symm n2, Ne.symm e], fun q => (by rw [hr] at q; cases q.2), fun q => e q.1⟩
    | second =>
      rw [hs] at hr
      obtain ⟨k', rfl, w0, hw1, hw2⟩ := (hw k).mp hr
      have ev : ∀ l1 : List Slot, l1.length = rl.length → l1[k' + 1 + 1]? = some (.val u) → storeSelf l1.toArray (k' + 1) (cv A v) = some (((l1.set (k' + 1) (.val (cv A v))).set (k' + 1 + 2) .unset).set (k' + 1 + 1) .second).toArray := by
        intro l1 e1 e2
        have a1 : k' + 1 < l1.length := by omega
        have a2 : k' + 1 + 1 < l1.length := by omega
        have a3 : k' + 1 + 2 < l1.length := by omega
        have a4 : l1[k' + 1 + 1] = .val u := by rw [List.getElem?_eq_getElem a2] at e2; exact Option.some.inj e2
        simp [storeSelf, setAt, hcat, a1, a2, a3, a4, u2]
      have hk0 : k' < rl.length := by omega
      refine ⟨(((rl.set k' .unset).set (k' + 1) (.val (cv A v))).set (k' + 1 + 2) .unset).set (k' + 1 + 1) .second, by
        simp only [storeLocals, List.getElem?_toArray, hr, Option.bind_eq_bind, Option.bind_some, setAt, List.size_toArray, Nat.add_sub_cancel, if_pos hk0, List.setIfInBounds_toArray]
        exact ev _ (by simp) (by rw [List.getElem?_set, if_neg (by omega)]; exact u1), fin _ (by simp) (by simp [List.getElem?_set, hk']) (by simp [List.getElem?_set, hk1]) fun j n1 n2 => ?_⟩
      by_cases e : j = k' + 1 + 2
      · subst e; exact Or.inr ⟨by simp [List.getElem?_set, hk2], Or.inr ⟨rfl, u, u1, u2⟩⟩
      by_cases e' : j = k'
      · subst e'; exact Or.inr ⟨by rw [List.getElem?_set, if_neg (by omega), List.getElem?_set, if_neg (by omega), List.getElem?_set, if_neg (by omega), List.getElem?_set, if_pos rfl, if_pos hk0], Or.inl ⟨rfl, hr⟩⟩
      · exact Or.inl ⟨by simp [List.getElem?_set, Ne.symm n1, Ne.symm n2, Ne.symm e, Ne.symm e'], fun q => e' (by omega), fun q => e q.1⟩
    | val r =>
      rw [hs] at hr
      have hr2 : r.category ≠ 2 := fun q => by
        have := (hw (k + 1)).mpr ⟨k, rfl, r, hr, q⟩
        rw [u1] at this; cases this
      refine ⟨((rl.set k (.val (cv A v))).set (k + 2) .unset).set (k + 1) .second, by simp [storeLocals, storeSelf, setAt, hr, hs, hcat, hk', hk1, hk2, u1, u2, hs1, hr2], fin _ (by simp) (by simp [List.getElem?_set, hk']) (by simp [List.getElem?_set, hk1]) fun j n1 n2 => ?_⟩
      by_cases e : j = k + 2
      · subst e; exact Or.inr ⟨by simp [List.getElem?_set, hk2], Or.inr ⟨rfl, u, u1, u2⟩⟩
      · exact Or.inl ⟨by simp [List.getElem?_set, Ne.symm n1, Ne.symm n2, Ne.symm e], fun q => (by rw [hr] at q; cases q.2), fun q => e q.1⟩
  · have hself : ∀ l1 : List Slot, l1.length = rl.length → (∀ u : Value, l1[k + 1]? = some (.val u) → u.category ≠ 2) → storeSelf l1.toArray k (cv A v) = some ((l1.set k (.val (cv A v))).set (k + 1) .second).toArray := by
      intro l1 e1 e2
      have a1 : k < l1.length := by omega
      have a2 : k + 1 < l1.length := by omega
      have a3 : l1[k + 1]? = some l1[k + 1] := List.getElem?_eq_getElem a2
      cases hq : l1[k + 1] with
      | unset => simp [storeSelf, setAt, hcat, a1, a2, hq]
      | second => simp [storeSelf, setAt, hcat, a1, a2, hq]
      | val y =>
        have : y.category ≠ 2 := e2 y (by rw [a3, hq])
        simp [storeSelf, setAt, hcat, a1, a2, hq, this]
    have hno : ∀ u : Value, rl[k + 1]? = some (.val u) → u.category ≠ 2 := fun u h1 h2 => c2 ⟨u, h1, h2⟩
    cases hs : rl[k] with
    | unset =>
      rw [hs] at hr
      refine ⟨(rl.set k (.val (cv A v))).set (k + 1) .second, by simp only [storeLocals, List.getElem?_toArray, hr, Option.bind_eq_bind, Option.bind_some]; exact hself rl rfl hno, fin _ (by simp) (by simp [List.getElem?_set, hk']) (by simp [List.getElem?_set, hk1]) fun j n1 n2 => ?_⟩
      exact Or.inl ⟨by simp [List.getElem?_set, Ne.symm n1, Ne.symm n2], fun q => (by rw [hr] at q; cases q.2), fun q => c2 q.2⟩
    | second =>
      rw [hs] at hr
      obtain ⟨k', rfl, w0, hw1, hw2⟩ := (hw k).mp hr
      have hk0 : k' < rl.length := by omega
      refine ⟨((rl.set k' .unset).set (k' + 1) (.val (cv A v))).set (k' + 1 + 1) .second, ?_, fin _ (by simp) (by simp [List.getElem?_set, hk']) (by simp [List.getElem?_set, hk1]) fun j n1 n2 => ?_⟩
      · have := hself (rl.set k' .unset) (by simp) (fun u h => hno u (by rw [List.getElem?_set, if_neg (by omega)] at h; exact h))
        simp only [storeLocals, List.getElem?_toArray, hr, Option.bind_eq_bind, Option.bind_some, setAt, List.size_toArray, Nat.add_sub_cancel, if_pos hk0, List.setIfInBounds_toArray]
        exact this
      · by_cases e' : j = k'
        · subst e'; exact Or.inr ⟨by rw [List.getElem?_set, if_neg (by omega), List.getElem?_set, if_neg (by omega), List.getElem?_set, if_pos rfl, if_pos hk0], Or.inl ⟨rfl, hr⟩⟩
        · exact Or.inl ⟨by simp [List.getElem?_set, Ne.symm n1, Ne.symm n2, Ne.symm e'], fun q => e' (by omega), fun q => c2 q.2⟩
    | val r =>
      rw [hs] at hr
      by_cases hr2 : r.category = 2
      · refine ⟨(rl.set k (.val (cv A v))).set (k + 1) .second, ?_, fin _ (by simp) (by simp [List.getElem?_set, hk']) (by simp [List.getElem?_set, hk1]) fun j n1 n2 => ?_⟩
        · have := hself (rl.set (k + 1) .unset) (by simp) (fun u h => by rw [List.getElem?_set, if_pos rfl] at h; split at h <;> cases h)
          simp only [storeLocals, List.getElem?_toArray, hr, Option.bind_eq_bind, Option.bind_some, if_pos hr2, setAt, List.size_toArray, if_pos hk1, List.setIfInBounds_toArray]
          rw [this]
          congr 2
          apply List.ext_getElem?
          intro j
          simp only [List.getElem?_set, List.length_set]
          by_cases e : k + 1 = j
          · simp [e]
          · simp [e]
        · exact Or.inl ⟨by simp [List.getElem?_set, Ne.symm n1, Ne.symm n2], fun q => (by rw [hr] at q; cases q.2), fun q => c2 q.2⟩
      · refine ⟨(rl.set k (.val (cv A v))).set (k + 1) .second, by simp only [storeLocals, List.getElem?_toArray, hr, Option.bind_eq_bind, Option.bind_some, if_neg hr2]; exact hself rl rfl hno, fin _ (by simp) (by simp [List.getElem?_set, hk']) (by simp [List.getElem?_set, hk1]) fun j n1 n2 => ?_⟩
        exact Or.inl ⟨by simp [List.getElem?_set, Ne.symm n1, Ne.symm n2], fun q => (by rw [hr] at q; cases q.2), fun q => c2 q.2⟩

def Cx (p : Program) (s : State) (m : MethodId) (meth : Method) (c : Code) (Z : State) (own : String) (bytes : ByteArray) (maxL : Nat) (ret : Option FieldType) (mn : String) : Prop :=
  p.tables.exec = Jvm.exec ∧ Z.Warmed39 s.vm ∧ c.code = bytes ∧ s.vm.findClass own = some m.cls ∧ c.maxLocals = maxL ∧ meth.sig.returnType = ret ∧ meth.locks = false ∧ meth.name = mn
def OkR (p : Program) (l : Launch) (e : Env) (R : Room) (s : State) (m : MethodId) (args : Array Value) (below : List Frame) (meth : Method) (c : Code) (Z : State) (C : String) (fs : FS) (n0 : Nat) (h0 : Heap) {α : Type} (F : α → Option Value → Heap → Prop) (A : Nat → Addr) (w : Nat → Option CD) (cells slots pc : Nat) (Ls : List Slot) (St : List Value) (σ : Sg) (t : Option α) : Prop :=
  ∀ x, t = some x → ∀ (T : State) (locs : List Loc) (rl : List Slot), Stand p l e R s m args below meth c T locs cells slots → Wd Z C fs T.heap A w σ → Out h0 T.heap A w → Nw n0 A w → Fr n0 locs → LsOk A Ls rl →
    ∃ (s₂ : State) (o : Outcome), Steps p.tables e below (T.setTop (mkF m pc rl.toArray (St.map (cv A)))) s₂ ∧ s₂.status = .running ∧ Ended s₂ below o ∧ ∃ (v : Option Value) (L : List Loc), o = .returned v ∧ (F x v s₂.heap ∧ Fr n0 L) ∧ FrameEnd s o s₂ L R.cells R.slots
def lkp {β : Type} : List (Nat × β) → Nat → Option β
  | [], _ => none
  | (a, b) :: r, k => if a = k then some b else lkp r k
theorem lkp_mem {β : Type} : ∀ {l : List (Nat × β)} {k : Nat} {b : β}, lkp l k = some b → (k, b) ∈ l
  | (a, b') :: r, k, b, h => by
    unfold lkp at h
    split at h
    · rename_i e; subst e; cases h; exact List.mem_cons_self
    · exact List.mem_cons_of_mem _ (lkp_mem h)
def ilen : Instr → Nat
  | .bipush _ => 2
  | .sipush _ => 3
  | .ldc _ => 2
  | .ldc2_w _ => 3
  | .iload _ => 2
  | .lload _ => 2
  | .aload _ => 2
  | .istore _ => 2
  | .lstore _ => 2
  | .astore _ => 2
  | .iinc _ _ => 3
  | .getfield _ => 3
  | .putfield _ => 3
  | .goto _ => 3
  | _ => 1
def npc (pc : Nat) : Instr → Nat
  | .goto o => ((pc : Int) + o).toNat
  | i => pc + ilen i
def jok (pc : Nat) : Instr → Bool
  | .goto o => decide (0 ≤ (pc : Int) + o)
  | _ => true
def ic : Int → Int32
  | .negSucc 0 => -1
  | k => Int32.ofInt k
theorem ic_eq (k : Int) : ic k = Int32.ofInt k := by
  unfold ic; split <;> rfl
theorem x_sipush {tb : Tables} [Ours tb] {e : Env} {below : List Frame} {T target : State} {m : MethodId} {c : Code} {g : JFrame} (h : At T m c below) (hx : tb.exec = Jvm.exec) (hg : g.method = m) {i : Int} (hd : decode c.code g.pc = .ok (.sipush i, 3))
    (hr : Steps tb e below (T.setTop { g with pc := g.pc + 3, stack := .int (Int16.ofInt i).toInt32 :: g.stack }) target) : Steps tb e below (T.setTop g) target := by
  subst hg
  jvm_step h [h.top, hx, hd]
  exact hr
def ev1 (w : Nat → Option CD) (fs : FS) (fl pfl : List (Nat × Nat)) (kI : List (Nat × Int32)) (kJ : List (Nat × Int64)) (i : Instr) (Ls : List Slot) (St : List Value) (σ : Sg) : Option (List Slot × List Value × Sg) :=
  match i with
  | .iadd => match St with
    | .int y :: .int x :: r => some (Ls, .int (x + y) :: r, σ)
    | _ => none
  | .isub => match St with
    | .int y :: .int x :: r => some (Ls, .int (x - y) :: r, σ)
    | _ => none
  | .imul => match St with
    | .int y :: .int x :: r => some (Ls, .int (x * y) :: r, σ)
    | _ => none
  | .iand => match St with
    | .int y :: .int x :: r => some (Ls, .int (x &&& y) :: r, σ)
    | _ => none
  | .ior => match St with
    | .int y :: .int x :: r => some (Ls, .int (x ||| y) :: r, σ)
    | _ => none
  | .ixor => match St with
    | .int y :: .int x :: r => some (Ls, .int (x ^^^ y) :: r, σ)
    | _ => none
  | .ishl => match St with
    | .int y :: .int x :: r => some (Ls, .int (x <<< (y &&& 31)) :: r, σ)
    | _ => none
  | .ishr => match St with
    | .int y :: .int x :: r => some (Ls, .int (x >>> (y &&& 31)) :: r, σ)
    | _ => none
  | .iushr => match St with
    | .int y :: .int x :: r => some (Ls, .int (XT.ushr x y) :: r, σ)
    | _ => none
  | .ladd => match St with
    | .long y :: .long x :: r => some (Ls, .long (x + y) :: r, σ)
    | _ => none
  | .lsub => match St with
    | .long y :: .long x :: r => some (Ls, .long (x - y) :: r, σ)
    | _ => none
  | .lmul => match St with
    | .long y :: .long x :: r => some (Ls, .long (x * y) :: r, σ)
    | _ => none
  | .land => match St with
    | .long y :: .long x :: r => some (Ls, .long (x &&& y) :: r, σ)
    | _ => none
  | .lor => match St with
    | .long y :: .long x :: r => some (Ls, .long (x ||| y) :: r, σ)
    | _ => none
  | .lxor => match St with
    | .long y :: .long x :: r => some (Ls, .long (x ^^^ y) :: r, σ)
    | _ => none
  | .lshl => match St with
    | .int y :: .long x :: r => some (Ls, .long (x <<< (y.toInt64 &&& 63)) :: r, σ)
    | _ => none
  | .lushr => match St with
    | .int y :: .long x :: r => some (Ls, .long (XT.ushrL x y) :: r, σ)
    | _ => none
  | .lshr => match St with
    | .int y :: .long x :: r => some (Ls, .long (x >>> (y.toInt64 &&& 63)) :: r, σ)
    | _ => none
  | .lcmp => match St with
    | .long y :: .long x :: r => some (Ls, .int (XT.cmpL x y) :: r, σ)
    | _ => none
  | .ineg => match St with
    | .int x :: r => some (Ls, .int (-x) :: r, σ)
    | _ => none
  | .lneg => match St with
    | .long x :: r => some (Ls, .long (-x) :: r, σ)
    | _ => none
  | .i2l => match St with
    | .int x :: r => some (Ls, .long (x.toInt64) :: r, σ)
    | _ => none
  | .l2i => match St with
    | .long x :: r => some (Ls, .int (x.toInt32) :: r, σ)
    | _ => none
  | .i2b => match St with
    | .int x :: r => some (Ls, .int (x.toInt8.toInt32) :: r, σ)
    | _ => none
  | .iconst k => some (Ls, .int (ic k) :: St, σ)
  | .bipush k => some (Ls, .int (Int8.ofInt k).toInt32 :: St, σ)
  | .sipush k => some (Ls, .int (Int16.ofInt k).toInt32 :: St, σ)
  | .lconst k => some (Ls, .long (Int64.ofNat k) :: St, σ)
  | .ldc i => match lkp kI i with
    | some v => some (Ls, .int v :: St, σ)
    | none => none
  | .ldc2_w i => match lkp kJ i with
    | some v => some (Ls, .long v :: St, σ)
    | none => none
  | .iload_n k => match Ls[k.val]? with
    | some (.val (.int v)) => some (Ls, .int v :: St, σ)
    | _ => none
  | .iload k => match Ls[k]? with
    | some (.val (.int v)) => some (Ls, .int v :: St, σ)
    | _ => none
  | .lload_n k => match Ls[k.val]? with
    | some (.val (.long v)) => some (Ls, .long v :: St, σ)
    | _ => none
  | .lload k => match Ls[k]? with
    | some (.val (.long v)) => some (Ls, .long v :: St, σ)
    | _ => none
  | .aload_n k => match Ls[k.val]? with
    | some (.val (.ref v)) => some (Ls, .ref v :: St, σ)
    | _ => none
  | .aload k => match Ls[k]? with
    | some (.val (.ref v)) => some (Ls, .ref v :: St, σ)
    | _ => none
  | .istore_n k => match St with
    | .int v :: r => if k.val < Ls.length then some (st1 Ls k.val (.int v), r, σ) else none
    | _ => none
  | .istore k => match St with
    | .int v :: r => if k < Ls.length then some (st1 Ls k (.int v), r, σ) else none
    | _ => none
  | .astore_n k => match St with
    | .ref v :: r => if k.val < Ls.length then some (st1 Ls k.val (.ref v), r, σ) else none
    | _ => none
  | .astore k => match St with
    | .ref v :: r => if k < Ls.length then some (st1 Ls k (.ref v), r, σ) else none
    | _ => none
  | .lstore_n k => match St with
    | .long v :: r => if k.val + 1 < Ls.length then some (st2 Ls k.val (.long v), r, σ) else none
    | _ => none
  | .lstore k => match St with
    | .long v :: r => if k + 1 < Ls.length then some (st2 Ls k (.long v), r, σ) else none
    | _ => none
  | .iinc k c => match Ls[k]? with
    | some (.val (.int v)) => if k < Ls.length then some (st1 Ls k (.int (v + ic c)), St, σ) else none
    | _ => none
  | .dup => match St with
    | .ref v :: r => some (Ls, .ref v :: .ref v :: r, σ)
    | .int v :: r => some (Ls, .int v :: .int v :: r, σ)
    | _ => none
  | .pop => match St with
    | .int v :: r => some (Ls, r, σ)
    | _ => none
  | .goto _ => some (Ls, St, σ)
  | .getfield i => match St with
    | .ref k :: r => match w k with
      | some (.inl q) => match lkp fl i with
        | some j => match fs[j]? with
          | some (_, _, cd) => some (Ls, fv σ k j q cd :: r, σ)
          | none => none
        | none => none
      | _ => none
    | _ => none
  | .putfield i => match St with
    | .int x :: .ref k :: r => match w k with
      | some (.inl _) => match lkp pfl i with
        | some j => match fs[j]? with
          | some (_, _, 0) => some (Ls, r, si σ k j x)
          | _ => none
        | none => none
      | _ => none
    | .long x :: .ref k :: r => match w k with
      | some (.inl _) => match lkp pfl i with
        | some j => match fs[j]? with
          | some (_, _, 1) => some (Ls, r, sj σ k j x)
          | _ => none
        | none => none
      | _ => none
    | _ => none
  | _ => none

def FsOk (Z : State) (a0 : Array Value) (C : String) (fs : FS) : Prop := ∀ (j : Nat) (n d : String) (cd : Nat), fs[j]? = some (n, d, cd) → Laid Z a0 C C n d ∧ (∃ ty, parseFieldDescriptor d = some ty ∧ (cd = 0 → ty = .int) ∧ (cd = 1 → ty = .long) ∧ (2 ≤ cd → ∃ t, ty = .array t)) ∧ ∀ (j' : Nat) (n' d' : String) (cd' : Nat), fs[j']? = some (n', d', cd') → n = n' → j = j'
def Lay1 (Z : State) (a0 : Array Value) (C own mn n d : String) : Prop := (Cond.lays C C n d).before a0 Z = true ∨ ((Cond.laysFinal C C n d).before a0 Z = true ∧ own = C ∧ mn = "<init>")
def Tab (Z : State) (a0 : Array Value) (C own mn : String) (fs : FS) (fl pfl : List (Nat × Nat)) (kI : List (Nat × Int32)) (kJ : List (Nat × Int64)) : Prop :=
  (∀ x ∈ fl, ∃ n d cd, fs[x.2]? = some (n, d, cd) ∧ (Cond.fieldLink own x.1 C n d).before a0 Z = true) ∧ (∀ x ∈ pfl, ∃ n d cd, fs[x.2]? = some (n, d, cd) ∧ (Cond.fieldLink own x.1 C n d).before a0 Z = true ∧ Lay1 Z a0 C own mn n d) ∧
  (∀ x ∈ kI, (Cond.constant own x.1 x.2).before a0 Z = true) ∧ ∀ x ∈ kJ, (Cond.constantLong own x.1 x.2).before a0 Z = true
section AM
variable {p : Program} {l : Launch} {e : Env} {R : Room} {s : State} {m : MethodId} {args : Array Value} {below : List Frame} {meth : Method} {c : Code} {Z : State} {a0 : Array Value} {C own : String} {bytes : ByteArray} {maxL : Nat} {ret : Option FieldType} {mn : String} {fs : FS} {fl pfl : List (Nat × Nat)} {kI : List (Nat × Int32)} {kJ : List (Nat × Int64)} {n0 kk : Nat} {h0 : Heap} {α : Type} {F : α → Option Value → Heap → Prop} {A : Nat → Addr} {w : Nat → Option CD} {cells slots pc : Nat} {Ls Ls' : List Slot} {St St' : List Value} {σ σ' : Sg} {t : Option α}
theorem am_ld {rl : List Slot} (L : LsOk A Ls rl) {k : Nat} {v : Value} (h : Ls[k]? = some (.val v)) : rl.toArray[k]? = some (.val (cv A v)) := by
  rw [List.getElem?_toArray]; exact L.2.2 k v h
theorem am_none (h : t = none) : OkR p l e R s m args below meth c Z C fs n0 h0 F A w cells slots pc Ls St σ t := fun x hx => by rw [h] at hx; cases hx
/-- one place of cell k is written -/
theorem Wd.write {h h' : Heap} {k sl : Nat} {v : Value} {d : CD} (W : Wd Z C fs h A w σ) (hk : w k = some d) (Q : Wr h h' (A k) sl v) (hσ : ∀ k', k' ≠ k → ∀ i, gi σ' k' i = gi σ k' i ∧ gj σ' k' i = gj σ k' i) (hok : CellOk Z C fs h' A σ' k d) : Wd Z C fs h' A w σ' := by
  refine ⟨fun k' d' hk' => ?_, W.2⟩
  by_cases ek : k' = k
  · subst ek; rw [hk] at hk'; cases hk'; exact hok
  · have ne : A k' ≠ A k := fun q => ek (W.2 _ _ _ _ hk' hk q)
    have := W.1 k' d' hk'
    rcases d' with q | ⟨ty, n, o⟩
    · refine ⟨this.1.wr Q, fun j n d cd hj => ?_⟩
      have e1 : fv σ' k' j q cd = fv σ k' j q cd := by
        match cd with
        | 0 => simp only [fv, (hσ k' ek j).1]
        | 1 => simp only [fv, (hσ k' ek j).2]
        | r + 2 => rfl
      rw [e1]
      exact (this.2 j n d cd hj).other Q (Or.inl ne)
    · obtain ⟨cl, a1, a2, a3⟩ := this
      refine ⟨cl, a1.other Q ne, a2, fun i hi => ?_⟩
      have e1 : aeo σ' k' i ty o = aeo σ k' i ty o := by
        cases o with
        | none => cases ty <;> simp only [aeo, ae, (hσ k' ek i).1, (hσ k' ek i).2]
        | some f => rfl
      rw [e1]; exact a3 i hi
theorem Out.write {h h' : Heap} {k sl : Nat} {v : Value} {d : CD} (O : Out h0 h A w) (hk : w k = some d) (hd : wrb d = true) (Q : Wr h h' (A k) sl v) : Out h0 h' A w := by
  refine ⟨by rw [Q.size]; exact O.1, fun b c hb hn => ?_⟩
  obtain ⟨cb, e1, -, -, -, e5, -⟩ := wr_at Q (O.2 b c hb hn)
  rw [← e5 (hn k d hk hd).symm]; exact e1
theorem si_off (σ : Sg) (k j : Nat) (x : Int32) : ∀ k', k' ≠ k → ∀ i, gi (si σ k j x) k' i = gi σ k' i ∧ gj (si σ k j x) k' i = gj σ k' i := fun k' ne i => ⟨by rw [gi_si, if_neg (fun q => ne q.1)], rfl⟩
theorem sj_off (σ : Sg) (k j : Nat) (x : Int64) : ∀ k', k' ≠ k → ∀ i, gi (sj σ k j x) k' i = gi σ k' i ∧ gj (sj σ k j x) k' i = gj σ k' i := fun k' ne i => ⟨rfl, by rw [gj_sj, if_neg (fun q => ne q.1)]⟩
theorem am_getf (hc : Cx p s m meth c Z own bytes maxL ret mn) {k q j i cd : Nat} {n d : String} (hk : w k = some (.inl q)) (hfs : fs[j]? = some (n, d, cd)) (wl : (Cond.fieldLink own i C n d).before a0 Z = true) (hd : decode bytes pc = .ok (.getfield i, 3))
    (κ : OkR p l e R s m args below meth c Z C fs n0 h0 F A w cells slots (pc + 3) Ls (fv σ k j q cd :: St) σ t) : OkR p l e R s m args below meth c Z C fs n0 h0 F A w cells slots pc Ls (.ref k :: St) σ t := by
  intro x hx T locs rl X W O N f L
  have Fd := (W.1 k _ hk).2 j n d cd hfs
  obtain ⟨T', X', e', st'⟩ := getF X hc.1 hc.2.1 hc.2.2.2.1 (host := "") (Or.inl wl) Via.refl rfl Fd (g := mkF m pc rl.toArray (.ref (A k) :: St.map (cv A))) rfl rfl (hb hc.2.2.1 hd)
  obtain ⟨s₂, o, st, r⟩ := κ x hx T' locs rl X' (by rw [e']; exact W) (by rw [e']; exact O) N f L
  exact ⟨s₂, o, st' _ st, r⟩
theorem am_putf (hc : Cx p s m meth c Z own bytes maxL ret mn) (hF : FsOk Z a0 C fs) (wi : (Cond.instantiable C kk).before a0 Z = true) {k q j i cd : Nat} {n d : String} {v : Value} (hk : w k = some (.inl q)) (hfs : fs[j]? = some (n, d, cd)) (wl : (Cond.fieldLink own i C n d).before a0 Z = true) (hL : Lay1 Z a0 C own mn n d) (hd : decode bytes pc = .ok (.putfield i, 3))
    (hv : (cd = 0 ∧ (∃ x, v = .int x) ∨ cd = 1 ∧ ∃ x, v = .long x)) (hfv : fv σ' k j q cd = v) (hcv : cv A v = v) (hσ : ∀ k', k' ≠ k → ∀ i, gi σ' k' i = gi σ k' i ∧ gj σ' k' i = gj σ k' i) (hσ2 : ∀ j', j' ≠ j → gi σ' k j' = gi σ k j' ∧ gj σ' k j' = gj σ k j')
    (κ : OkR p l e R s m args below meth c Z C fs n0 h0 F A w cells slots (pc + 3) Ls St σ' t) : OkR p l e R s m args below meth c Z C fs n0 h0 F A w cells slots pc Ls (v :: .ref k :: St) σ t := by
  intro x hx T locs rl X W O N f L
  have hO := W.1 k _ hk
  have Fd := hO.2 j n d cd hfs
  obtain ⟨hlaid, ⟨ty, hty, t0, t1, -⟩, hinj⟩ := hF j n d cd hfs
  have hn : narrow ty v = v ∧ fits ty v = true := by
    rcases hv with ⟨e, y, rfl⟩ | ⟨e, y, rfl⟩
    · rw [t0 e]; exact ⟨rfl, rfl⟩
    · rw [t1 e]; exact ⟨rfl, rfl⟩
  have hL' : (Cond.lays C C n d).before a0 Z = true ∨ ((Cond.laysFinal C C n d).before a0 Z = true ∧ own = C ∧ meth.name = "<init>") := hL.imp id fun q => ⟨q.1, q.2.1, hc.2.2.2.2.2.2.2.trans q.2.2⟩
  obtain ⟨T', h', X', e', Q, st'⟩ := putF X hc.1 hc.2.1 hc.2.2.2.1 (host := "") (Or.inl wl) Via.refl rfl Fd hO.1 hL' wi hty hn.1 hn.2 (g := mkF m pc rl.toArray (v :: .ref (A k) :: St.map (cv A))) rfl rfl (hb hc.2.2.1 hd)
  subst e'
  have W' : Wd Z C fs T'.heap A w σ' := by
    refine W.write hk Q hσ ⟨hO.1.wr Q, fun j' n' d' cd' hj' => ?_⟩
    by_cases ej : j' = j
    · subst ej
      rw [hfs] at hj'; cases hj'
      rw [hfv, hcv]
      exact Fd.same Q
    · obtain ⟨hlaid', ⟨ty', hty', -⟩, -⟩ := hF j' n' d' cd' hj'
      have e1 : fv σ' k j' q cd' = fv σ k j' q cd' := by
        match cd' with
        | 0 => simp only [fv, (hσ2 j' ej).1]
        | 1 => simp only [fv, (hσ2 j' ej).2]
        | r + 2 => rfl
      rw [e1]
      exact (hO.2 j' n' d' cd' hj').other Q (Or.inr (slot_ne hlaid' hlaid (fun q => ej (hinj _ _ _ _ hj' q.symm).symm) hty' hty))
  obtain ⟨s₂, o, st, r⟩ := κ x hx T' _ rl X' W' (O.write hk rfl Q) N (Fr.snoc X' f (N k _ hk rfl)) L
  have e2 : List.map (cv A) (v :: .ref k :: St) = v :: .ref (A k) :: St.map (cv A) := by rw [List.map_cons, List.map_cons, hcv]; rfl
  exact ⟨s₂, o, by rw [e2]; exact st' _ st, r⟩

set_option maxHeartbeats 4000000 in
theorem ev1_ok (hc : Cx p s m meth c Z own bytes maxL ret mn) (hT : Tab Z a0 C own mn fs fl pfl kI kJ) (hF : FsOk Z a0 C fs) (wi : (Cond.instantiable C kk).before a0 Z = true) {i : Instr} (hd : decode bytes pc = .ok (i, ilen i)) (hj : jok pc i = true) (hev : ev1 w fs fl pfl kI kJ i Ls St σ = some (Ls', St', σ'))
    (k : OkR p l e R s m args below meth c Z C fs n0 h0 F A w cells slots (npc pc i) Ls' St' σ' t) : OkR p l e R s m args below meth c Z C fs n0 h0 F A w cells slots pc Ls St σ t := by
  cases i
  case iadd =>
    simp only [ev1] at hev
    split at hev
    · cases hev
      intro x' hx T locs rl X W O N f L
      obtain ⟨s₂, o, st, r'⟩ := k x' hx T locs rl X W O N f L
      exact ⟨s₂, o, XS.iadd X.here hc.1 rfl (hb hc.2.2.1 hd) rfl st, r'⟩
    · cases hev
  case isub =>
    simp only [ev1] at hev
    split at hev
    · cases hev
      intro x' hx T locs rl X W O N f L
      obtain ⟨s₂, o, st, r'⟩ := k x' hx T locs rl X W O N f L
      exact ⟨s₂, o, XS.isub X.here hc.1 rfl (hb hc.2.2.1 hd) rfl st, r'⟩
    · cases hev
  case imul =>
    simp only [ev1] at hev
    split at hev
    · cases hev
      intro x' hx T locs rl X W O N f L
      obtain ⟨s₂, o, st, r'⟩ := k x' hx T locs rl X W O N f L
      exact ⟨s₂, o, XS.imul X.here hc.1 rfl (hb hc.2.2.1 hd) rfl st, r'⟩
    · cases hev
  case iand =>
    simp only [ev1] at hev
    split at hev
    · cases hev
      intro x' hx T locs rl X W O N f L
      obtain ⟨s₂, o, st, r'⟩ := k x' hx T locs rl X W O N f L
      exact ⟨s₂, o, XS.iand X.here hc.1 rfl (hb hc.2.2.1 hd) rfl st, r'⟩
    · cases hev
  case ior =>
    simp only [ev1] at hev
    split at hev
    · cases hev
      intro x' hx T locs rl X W O N f L
      obtain ⟨s₂, o, st, r'⟩ := k x' hx T locs rl X W O N f L
      exact ⟨s₂, o, XT.ior X.here hc.1 rfl (hb hc.2.2.1 hd) rfl st, r'⟩
    · cases hev
  case ixor =>
    simp only [ev1] at hev
    split at hev
    · cases hev
      intro x' hx T locs rl X W O N f L
      obtain ⟨s₂, o, st, r'⟩ := k x' hx T locs rl X W O N f L
      exact ⟨s₂, o, XT.ixor X.here hc.1 rfl (hb hc.2.2.1 hd) rfl st, r'⟩
    · cases hev
  case ishl =>
    simp only [ev1] at hev
    split at hev
    · cases hev
      intro x' hx T locs rl X W O N f L
      obtain ⟨s₂, o, st, r'⟩ := k x' hx T locs rl X W O N f L
      exact ⟨s₂, o, XT.ishl X.here hc.1 rfl (hb hc.2.2.1 hd) rfl st, r'⟩
    · cases hev
  case ishr =>
    simp only [ev1] at hev
    split at hev
    · cases hev
      intro x' hx T locs rl X W O N f L
      obtain ⟨s₂, o, st, r'⟩ := k x' hx T locs rl X W O N f L
      exact ⟨s₂, o, XT.ishr X.here hc.1 rfl (hb hc.2.2.1 hd) rfl st, r'⟩
    · cases hev
  case iushr =>
    simp only [ev1] at hev
    split at hev
    · cases hev
      intro x' hx T locs rl X W O N f L
      obtain ⟨s₂, o, st, r'⟩ := k x' hx T locs rl X W O N f L
      exact ⟨s₂, o, XT.iushr X.here hc.1 rfl (hb hc.2.2.1 hd) rfl st, r'⟩
    · cases hev
  case ladd =>
    simp only [ev1] at hev
    split at hev
    · cases hev
      intro x' hx T locs rl X W O N f L
      obtain ⟨s₂, o, st, r'⟩ := k x' hx T locs rl X W O N f L
      exact ⟨s₂, o, XT.ladd X.here hc.1 rfl (hb hc.2.2.1 hd) rfl st, r'⟩
    · cases hev
  case lsub =>
    simp only [ev1] at hev
    split at hev
    · cases hev
      intro x' hx T locs rl X W O N f L
      obtain ⟨s₂, o, st, r'⟩ := k x' hx T locs rl X W O N f L
      exact ⟨s₂, o, XT.lsub X.here hc.1 rfl (hb hc.2.2.1 hd) rfl st, r'⟩
    · cases hev
  case lmul =>
    simp only [ev1] at hev
    split at hev
    · cases hev
      intro x' hx T locs rl X W O N f L
      obtain ⟨s₂, o, st, r'⟩ := k x' hx T locs rl X W O N f L
      exact ⟨s₂, o, XT.lmul X.here hc.1 rfl (hb hc.2.2.1 hd) rfl st, r'⟩
    · cases hev
  case land =>
    simp only [ev1] at hev
    split at hev
    · cases hev
      intro x' hx T locs rl X W O N f L
      obtain ⟨s₂, o, st, r'⟩ := k x' hx T locs rl X W O N f L
      exact ⟨s₂, o, XT.land X.here hc.1 rfl (hb hc.2.2.1 hd) rfl st, r'⟩
    · cases hev
  case lor =>
    simp only [ev1] at hev
    split at hev
    · cases hev
      intro x' hx T locs rl X W O N f L
      obtain ⟨s₂, o, st, r'⟩ := k x' hx T locs rl X W O N f L
      exact ⟨s₂, o, XT.lor X.here hc.1 rfl (hb hc.2.2.1 hd) rfl st, r'⟩
    · cases hev
  case lxor =>
    simp only [ev1] at hev
    split at hev
    · cases hev
      intro x' hx T locs rl X W O N f L
      obtain ⟨s₂, o, st, r'⟩ := k x' hx T locs rl X W O N f L
      exact ⟨s₂, o, XT.lxor X.here hc.1 rfl (hb hc.2.2.1 hd) rfl st, r'⟩
    · cases hev
  case lshl =>
    simp only [ev1] at hev
    split at hev
    · cases hev
      intro x' hx T locs rl X W O N f L
      obtain ⟨s₂, o, st, r'⟩ := k x' hx T locs rl X W O N f L
      exact ⟨s₂, o, XT.lshl X.here hc.1 rfl (hb hc.2.2.1 hd) rfl st, r'⟩
    · cases hev
  case lushr =>
    simp only [ev1] at hev
    split at hev
    · cases hev
      intro x' hx T locs rl X W O N f L
      obtain ⟨s₂, o, st, r'⟩ := k x' hx T locs rl X W O N f L
      exact ⟨s₂, o, XT.lushr X.here hc.1 rfl (hb hc.2.2.1 hd) rfl st, r'⟩
    · cases hev
  case lshr =>
    simp only [ev1] at hev
    split at hev
    · cases hev
      intro x' hx T locs rl X W O N f L
      obtain ⟨s₂, o, st, r'⟩ := k x' hx T locs rl X W O N f L
      exact ⟨s₂, o, XT.lshr X.here hc.1 rfl (hb hc.2.2.1 hd) rfl st, r'⟩
    · cases hev
  case lcmp =>
    simp only [ev1] at hev
    split at hev
    · cases hev
      intro x' hx T locs rl X W O N f L
      obtain ⟨s₂, o, st, r'⟩ := k x' hx T locs rl X W O N f L
      exact ⟨s₂, o, XT.lcmp X.here hc.1 rfl (hb hc.2.2.1 hd) rfl st, r'⟩
    · cases hev
  case ineg =>
    simp only [ev1] at hev
    split at hev
    · cases hev
      intro x' hx T locs rl X W O N f L
      obtain ⟨s₂, o, st, r'⟩ := k x' hx T locs rl X W O N f L
      exact ⟨s₂, o, XS.ineg X.here hc.1 rfl (hb hc.2.2.1 hd) rfl st, r'⟩
    · cases hev
  case lneg =>
    simp only [ev1] at hev
    split at hev
    · cases hev
      intro x' hx T locs rl X W O N f L
      obtain ⟨s₂, o, st, r'⟩ := k x' hx T locs rl X W O N f L
      exact ⟨s₂, o, XT.lneg X.here hc.1 rfl (hb hc.2.2.1 hd) rfl st, r'⟩
    · cases hev
  case i2l =>
    simp only [ev1] at hev
    split at hev
    · cases hev
      intro x' hx T locs rl X W O N f L
      obtain ⟨s₂, o, st, r'⟩ := k x' hx T locs rl X W O N f L
      exact ⟨s₂, o, XT.i2l X.here hc.1 rfl (hb hc.2.2.1 hd) rfl st, r'⟩
    · cases hev
  case l2i =>
    simp only [ev1] at hev
    split at hev
    · cases hev
      intro x' hx T locs rl X W O N f L
      obtain ⟨s₂, o, st, r'⟩ := k x' hx T locs rl X W O N f L
      exact ⟨s₂, o, XT.l2i X.here hc.1 rfl (hb hc.2.2.1 hd) rfl st, r'⟩
    · cases hev
  case i2b =>
    simp only [ev1] at hev
    split at hev
    · cases hev
      intro x' hx T locs rl X W O N f L
      obtain ⟨s₂, o, st, r'⟩ := k x' hx T locs rl X W O N f L
      exact ⟨s₂, o, XT.i2b X.here hc.1 rfl (hb hc.2.2.1 hd) rfl st, r'⟩
    · cases hev
  case iconst k =>
    simp only [ev1] at hev
    cases hev
    · rw [ic_eq] at k
      intro x' hx T locs rl X W O N f L
      obtain ⟨s₂, o, st, r'⟩ := k x' hx T locs rl X W O N f L
      exact ⟨s₂, o, XS.iconst X.here hc.1 rfl (hb hc.2.2.1 hd) st, r'⟩
  case bipush k =>
    simp only [ev1] at hev
    cases hev
    · intro x' hx T locs rl X W O N f L
      obtain ⟨s₂, o, st, r'⟩ := k x' hx T locs rl X W O N f L
      exact ⟨s₂, o, XS.bipush X.here hc.1 rfl (hb hc.2.2.1 hd) st, r'⟩
  case sipush k =>
    simp only [ev1] at hev
    cases hev
    · intro x' hx T locs rl X W O N f L
      obtain ⟨s₂, o, st, r'⟩ := k x' hx T locs rl X W O N f L
      exact ⟨s₂, o, x_sipush X.here hc.1 rfl (hb hc.2.2.1 hd) st, r'⟩
  case lconst k =>
    simp only [ev1] at hev
    cases hev
    · intro x' hx T locs rl X W O N f L
      obtain ⟨s₂, o, st, r'⟩ := k x' hx T locs rl X W O N f L
      exact ⟨s₂, o, XT.lconst X.here hc.1 rfl (hb hc.2.2.1 hd) st, r'⟩
  case ldc i =>
    simp only [ev1] at hev
    split at hev
    · cases hev
      rename_i v hv
      intro x' hx T locs rl X W O N f L
      obtain ⟨s₂, o, st, r'⟩ := k x' hx T locs rl X W O N f L
      exact ⟨s₂, o, X.ldcI hc.1 hc.2.2.2.1 (mv hc.2.1 (hT.2.2.1 _ (lkp_mem hv))) rfl (hb hc.2.2.1 hd) st, r'⟩
    · cases hev
  case ldc2_w i =>
    simp only [ev1] at hev
    split at hev
    · cases hev
      rename_i v hv
      intro x' hx T locs rl X W O N f L
      obtain ⟨s₂, o, st, r'⟩ := k x' hx T locs rl X W O N f L
      exact ⟨s₂, o, X.ldc2J hc.1 hc.2.2.2.1 (mv hc.2.1 (hT.2.2.2 _ (lkp_mem hv))) rfl (hb hc.2.2.1 hd) st, r'⟩
    · cases hev
  case iload_n n =>
    simp only [ev1] at hev
    split at hev
    · cases hev
      rename_i v hv
      intro x' hx T locs rl X W O N f L
      obtain ⟨s₂, o, st, r'⟩ := k x' hx T locs rl X W O N f L
      exact ⟨s₂, o, XS.iloadN X.here hc.1 rfl (hb hc.2.2.1 hd) (am_ld L hv) st, r'⟩
    · cases hev
  case iload n =>
    simp only [ev1] at hev
    split at hev
    · cases hev
      rename_i v hv
      intro x' hx T locs rl X W O N f L
      obtain ⟨s₂, o, st, r'⟩ := k x' hx T locs rl X W O N f L
      exact ⟨s₂, o, XS.iload X.here hc.1 rfl (hb hc.2.2.1 hd) (am_ld L hv) st, r'⟩
    · cases hev
  case lload_n n =>
    simp only [ev1] at hev
    split at hev
    · cases hev
      rename_i v hv
      intro x' hx T locs rl X W O N f L
      obtain ⟨s₂, o, st, r'⟩ := k x' hx T locs rl X W O N f L
      exact ⟨s₂, o, XT.lloadN X.here hc.1 rfl (hb hc.2.2.1 hd) (am_ld L hv) st, r'⟩
    · cases hev
  case lload n =>
    simp only [ev1] at hev
    split at hev
    · cases hev
      rename_i v hv
      intro x' hx T locs rl X W O N f L
      obtain ⟨s₂, o, st, r'⟩ := k x' hx T locs rl X W O N f L
      exact ⟨s₂, o, XT.lload X.here hc.1 rfl (hb hc.2.2.1 hd) (am_ld L hv) st, r'⟩
    · cases hev
  case aload_n n =>
    simp only [ev1] at hev
    split at hev
    · cases hev
      rename_i v hv
      intro x' hx T locs rl X W O N f L
      obtain ⟨s₂, o, st, r'⟩ := k x' hx T locs rl X W O N f L
      exact ⟨s₂, o, XS.aloadN X.here hc.1 rfl (hb hc.2.2.1 hd) (am_ld L hv) rfl st, r'⟩
    · cases hev
  case aload n =>
    simp only [ev1] at hev
    split at hev
    · cases hev
      rename_i v hv
      intro x' hx T locs rl X W O N f L
      obtain ⟨s₂, o, st, r'⟩ := k x' hx T locs rl X W O N f L
      exact ⟨s₂, o, XS.aload X.here hc.1 rfl (hb hc.2.2.1 hd) (am_ld L hv) rfl st, r'⟩
    · cases hev
  case istore_n n =>
    simp only [ev1] at hev
    split at hev
    · split at hev
      · cases hev
        rename_i v hk
        intro x' hx T locs rl X W O N f L
        obtain ⟨rl', hst, L'⟩ := am_st1 (v := .int v) L hk rfl
        obtain ⟨s₂, o, st, r'⟩ := k x' hx T locs rl' X W O N f L'
        exact ⟨s₂, o, XS.istoreN X.here hc.1 rfl (hb hc.2.2.1 hd) rfl hst st, r'⟩
      · cases hev
    · cases hev
  case istore n =>
    simp only [ev1] at hev
    split at hev
    · split at hev
      · cases hev
        rename_i v hk
        intro x' hx T locs rl X W O N f L
        obtain ⟨rl', hst, L'⟩ := am_st1 (v := .int v) L hk rfl
        obtain ⟨s₂, o, st, r'⟩ := k x' hx T locs rl' X W O N f L'
        exact ⟨s₂, o, XS.istore X.here hc.1 rfl (hb hc.2.2.1 hd) rfl hst st, r'⟩
      · cases hev
    · cases hev
  case astore_n n =>
    simp only [ev1] at hev
    split at hev
    · split at hev
      · cases hev
        rename_i v hk
        intro x' hx T locs rl X W O N f L
        obtain ⟨rl', hst, L'⟩ := am_st1 (v := .ref v) L hk rfl
        obtain ⟨s₂, o, st, r'⟩ := k x' hx T locs rl' X W O N f L'
        exact ⟨s₂, o, XS.astoreN X.here hc.1 rfl (hb hc.2.2.1 hd) rfl rfl hst st, r'⟩
      · cases hev
    · cases hev
  case astore n =>
    simp only [ev1] at hev
    split at hev
    · split at hev
      · cases hev
        rename_i v hk
        intro x' hx T locs rl X W O N f L
        obtain ⟨rl', hst, L'⟩ := am_st1 (v := .ref v) L hk rfl
        obtain ⟨s₂, o, st, r'⟩ := k x' hx T locs rl' X W O N f L'
        exact ⟨s₂, o, XS.astore X.here hc.1 rfl (hb hc.2.2.1 hd) rfl rfl hst st, r'⟩
      · cases hev
    · cases hev
  case lstore_n n =>
    simp only [ev1] at hev
    split at hev
    · split at hev
      · cases hev
        rename_i v hk
        intro x' hx T locs rl X W O N f L
        obtain ⟨rl', hst, L'⟩ := am_st2 (v := .long v) L hk rfl
        obtain ⟨s₂, o, st, r'⟩ := k x' hx T locs rl' X W O N f L'
        exact ⟨s₂, o, XT.lstoreN X.here hc.1 rfl (hb hc.2.2.1 hd) rfl hst st, r'⟩
      · cases hev
    · cases hev
  case lstore n =>
    simp only [ev1] at hev
    split at hev
    · split at hev
      · cases hev
        rename_i v hk
        intro x' hx T locs rl X W O N f L
        obtain ⟨rl', hst, L'⟩ := am_st2 (v := .long v) L hk rfl
        obtain ⟨s₂, o, st, r'⟩ := k x' hx T locs rl' X W O N f L'
        exact ⟨s₂, o, XT.lstore X.here hc.1 rfl (hb hc.2.2.1 hd) rfl hst st, r'⟩
      · cases hev
    · cases hev
  case iinc n cst =>
    simp only [ev1] at hev
    split at hev
    · split at hev
      · cases hev
        rename_i v hv hk
        intro x' hx T locs rl X W O N f L
        obtain ⟨rl', hst, L'⟩ := am_st1 (v := .int (v + ic cst)) L hk rfl
        obtain ⟨s₂, o, st, r'⟩ := k x' hx T locs rl' X W O N f L'
        exact ⟨s₂, o, XS.iinc X.here hc.1 rfl (hb hc.2.2.1 hd) (am_ld L hv) (by rw [← ic_eq]; exact hst) st, r'⟩
      · cases hev
    · cases hev
  case dup =>
    simp only [ev1] at hev
    split at hev
    · cases hev
      intro x' hx T locs rl X W O N f L
      obtain ⟨s₂, o, st, r'⟩ := k x' hx T locs rl X W O N f L
      exact ⟨s₂, o, XS.dup X.here hc.1 rfl (hb hc.2.2.1 hd) rfl rfl st, r'⟩
    · cases hev
      intro x' hx T locs rl X W O N f L
      obtain ⟨s₂, o, st, r'⟩ := k x' hx T locs rl X W O N f L
      exact ⟨s₂, o, XS.dup X.here hc.1 rfl (hb hc.2.2.1 hd) rfl rfl st, r'⟩
    · cases hev
  case pop =>
    simp only [ev1] at hev
    split at hev
    · cases hev
      intro x' hx T locs rl X W O N f L
      obtain ⟨s₂, o, st, r'⟩ := k x' hx T locs rl X W O N f L
      exact ⟨s₂, o, XT.pop X.here hc.1 rfl (hb hc.2.2.1 hd) rfl rfl st, r'⟩
    · cases hev
  case goto off =>
    simp only [ev1] at hev
    cases hev
    · intro x' hx T locs rl X W O N f L
      obtain ⟨s₂, o, st, r'⟩ := k x' hx T locs rl X W O N f L
      exact ⟨s₂, o, XS.goto X.here hc.1 rfl (pc0 := pc) rfl (hb hc.2.2.1 hd) (of_decide_eq_true hj) rfl st, r'⟩
  case getfield i =>
    simp only [ev1] at hev
    split at hev
    · split at hev
      · rename_i q hq
        split at hev
        · rename_i j hj'
          split at hev
          · rename_i n d cd hfs
            cases hev
            obtain ⟨n', d', cd', h1, h2⟩ := hT.1 _ (lkp_mem hj')
            rw [hfs] at h1; cases h1
            exact am_getf hc hq hfs h2 hd k
          · cases hev
        · cases hev
      · cases hev
    · cases hev
  case putfield i =>
    simp only [ev1] at hev
    split at hev
    · split at hev
      · rename_i q hq
        split at hev
        · rename_i j hj'
          split at hev
          · rename_i n d hfs
            cases hev
            obtain ⟨n', d', cd', h1, h2, h3⟩ := hT.2.1 _ (lkp_mem hj')
            rw [hfs] at h1; cases h1
            exact am_putf hc hF wi hq hfs h2 h3 hd (Or.inl ⟨rfl, _, rfl⟩) (by simp [fv, gi_si]) rfl (si_off _ _ _ _) (fun j' ne => ⟨by rw [gi_si, if_neg (fun z => ne z.2)], rfl⟩) k
          · cases hev
        · cases hev
      · cases hev
    · split at hev
      · rename_i q hq
        split at hev
        · rename_i j hj'
          split at hev
          · rename_i n d hfs
            cases hev
            obtain ⟨n', d', cd', h1, h2, h3⟩ := hT.2.1 _ (lkp_mem hj')
            rw [hfs] at h1; cases h1
            exact am_putf hc hF wi hq hfs h2 h3 hd (Or.inr ⟨rfl, _, rfl⟩) (by simp [fv, gj_sj]) rfl (sj_off _ _ _ _) (fun j' ne => ⟨rfl, by rw [gj_sj, if_neg (fun z => ne z.2)]⟩) k
          · cases hev
        · cases hev
      · cases hev
    · cases hev
  all_goals (simp [ev1] at hev)
def evB (w : Nat → Option CD) (fs : FS) (fl pfl : List (Nat × Nat)) (kI : List (Nat × Int32)) (kJ : List (Nat × Int64)) : List Instr → List Slot → List Value → Sg → Option (List Slot × List Value × Sg)
  | [], Ls, St, σ => some (Ls, St, σ)
  | i :: is, Ls, St, σ => match ev1 w fs fl pfl kI kJ i Ls St σ with
    | some (Ls', St', σ') => evB w fs fl pfl kI kJ is Ls' St' σ'
    | none => none
def decB (code : ByteArray) : Nat → List Instr → Nat → Bool
  | pc, [], pc' => pc == pc'
  | pc, i :: is, pc' => decide (decode code pc = .ok (i, ilen i)) && jok pc i && decB code (npc pc i) is pc'
theorem am_blk {pc' : Nat} (is : List Instr) (hd : decB bytes pc is pc' = true) (hc : Cx p s m meth c Z own bytes maxL ret mn) (hT : Tab Z a0 C own mn fs fl pfl kI kJ) (hF : FsOk Z a0 C fs) (wi : (Cond.instantiable C kk).before a0 Z = true) (hev : evB w fs fl pfl kI kJ is Ls St σ = some (Ls', St', σ'))
    (k : OkR p l e R s m args below meth c Z C fs n0 h0 F A w cells slots pc' Ls' St' σ' t) : OkR p l e R s m args below meth c Z C fs n0 h0 F A w cells slots pc Ls St σ t := by
  induction is generalizing pc Ls St σ with
  | nil =>
    unfold evB at hev; cases hev
    unfold decB at hd
    have := eq_of_beq hd; subst this
    exact k
  | cons i is ih =>
    unfold evB at hev
    unfold decB at hd
    simp only [Bool.and_eq_true] at hd
    split at hev
    · rename_i L1 S1 σ1 h1
      exact ev1_ok hc hT hF wi (of_decide_eq_true hd.1.1) hd.1.2 h1 (ih hd.2 hev)
    · cases hev

def brk (code : ByteArray) (pc : Nat) (i : Instr) (o : Int) (pc1 : Nat) : Bool := decide (decode code pc = .ok (i, 3)) && decide (0 ≤ (pc : Int) + o) && decide (((pc : Int) + o).toNat = pc1)
theorem brk_spec {code : ByteArray} {pc : Nat} {i : Instr} {o : Int} {pc1 : Nat} (h : brk code pc i o pc1 = true) : decode code pc = .ok (i, 3) ∧ 0 ≤ (pc : Int) + o ∧ ((pc : Int) + o).toNat = pc1 := by
  simp only [brk, Bool.and_eq_true, decide_eq_true_eq] at h; exact ⟨h.1.1, h.1.2, h.2⟩
theorem am_icmpT {cd : ClassFile.Cond} {o : Int} {x y : Int32} {P : Prop} [Decidable P] {pc1 : Nat} {t1 t2 : Option α} (hY : P → if_icmp.holds cd x y = true) (hN : ¬ P → if_icmp.holds cd x y = false) (hd : brk bytes pc (.if_icmp cd o) o pc1 = true) (hc : Cx p s m meth c Z own bytes maxL ret mn)
    (k1 : P → OkR p l e R s m args below meth c Z C fs n0 h0 F A w cells slots pc1 Ls St σ t1) (k2 : ¬ P → OkR p l e R s m args below meth c Z C fs n0 h0 F A w cells slots (pc + 3) Ls St σ t2) : OkR p l e R s m args below meth c Z C fs n0 h0 F A w cells slots pc Ls (.int y :: .int x :: St) σ (if P then t1 else t2) := by
  obtain ⟨d1, d2, d3⟩ := brk_spec hd
  by_cases q : P
  · rw [if_pos q]
    intro x' hx T locs rl X W O N f L
    obtain ⟨s₂, o', st, r⟩ := k1 q x' hx T locs rl X W O N f L
    exact ⟨s₂, o', XS.icmpYes X.here hc.1 rfl (pc0 := pc) rfl (hb hc.2.2.1 d1) rfl (hY q) d2 d3 st, r⟩
  · rw [if_neg q]
    intro x' hx T locs rl X W O N f L
    obtain ⟨s₂, o', st, r⟩ := k2 q x' hx T locs rl X W O N f L
    exact ⟨s₂, o', XS.icmpNo X.here hc.1 rfl (hb hc.2.2.1 d1) rfl (hN q) st, r⟩
theorem am_icmpF {cd : ClassFile.Cond} {o : Int} {x y : Int32} {P : Prop} [Decidable P] {pc1 : Nat} {t1 t2 : Option α} (hY : ¬ P → if_icmp.holds cd x y = true) (hN : P → if_icmp.holds cd x y = false) (hd : brk bytes pc (.if_icmp cd o) o pc1 = true) (hc : Cx p s m meth c Z own bytes maxL ret mn)
    (k1 : P → OkR p l e R s m args below meth c Z C fs n0 h0 F A w cells slots (pc + 3) Ls St σ t1) (k2 : ¬ P → OkR p l e R s m args below meth c Z C fs n0 h0 F A w cells slots pc1 Ls St σ t2) : OkR p l e R s m args below meth c Z C fs n0 h0 F A w cells slots pc Ls (.int y :: .int x :: St) σ (if P then t1 else t2) := by
  obtain ⟨d1, d2, d3⟩ := brk_spec hd
  by_cases q : P
  · rw [if_pos q]
    intro x' hx T locs rl X W O N f L
    obtain ⟨s₂, o', st, r⟩ := k1 q x' hx T locs rl X W O N f L
    exact ⟨s₂, o', XS.icmpNo X.here hc.1 rfl (hb hc.2.2.1 d1) rfl (hN q) st, r⟩
  · rw [if_neg q]
    intro x' hx T locs rl X W O N f L
    obtain ⟨s₂, o', st, r⟩ := k2 q x' hx T locs rl X W O N f L
    exact ⟨s₂, o', XS.icmpYes X.here hc.1 rfl (pc0 := pc) rfl (hb hc.2.2.1 d1) rfl (hY q) d2 d3 st, r⟩
theorem am_ifT {cd : ClassFile.Cond} {o : Int} {x : Int32} {P : Prop} [Decidable P] {pc1 : Nat} {t1 t2 : Option α} (hY : P → ifCond.holds cd x = true) (hN : ¬ P → ifCond.holds cd x = false) (hd : brk bytes pc (.ifCond cd o) o pc1 = true) (hc : Cx p s m meth c Z own bytes maxL ret mn)
    (k1 : P → OkR p l e R s m args below meth c Z C fs n0 h0 F A w cells slots pc1 Ls St σ t1) (k2 : ¬ P → OkR p l e R s m args below meth c Z C fs n0 h0 F A w cells slots (pc + 3) Ls St σ t2) : OkR p l e R s m args below meth c Z C fs n0 h0 F A w cells slots pc Ls (.int x :: St) σ (if P then t1 else t2) := by
  obtain ⟨d1, d2, d3⟩ := brk_spec hd
  by_cases q : P
  · rw [if_pos q]
    intro x' hx T locs rl X W O N f L
    obtain ⟨s₂, o', st, r⟩ := k1 q x' hx T locs rl X W O N f L
    exact ⟨s₂, o', XS.ifYes X.here hc.1 rfl (pc0 := pc) rfl (hb hc.2.2.1 d1) rfl (hY q) d2 d3 st, r⟩
  · rw [if_neg q]
    intro x' hx T locs rl X W O N f L
    obtain ⟨s₂, o', st, r⟩ := k2 q x' hx T locs rl X W O N f L
    exact ⟨s₂, o', XS.ifNo X.here hc.1 rfl (hb hc.2.2.1 d1) rfl (hN q) st, r⟩
theorem am_ifF {cd : ClassFile.Cond} {o : Int} {x : Int32} {P : Prop} [Decidable P] {pc1 : Nat} {t1 t2 : Option α} (hY : ¬ P → ifCond.holds cd x = true) (hN : P → ifCond.holds cd x = false) (hd : brk bytes pc (.ifCond cd o) o pc1 = true) (hc : Cx p s m meth c Z own bytes maxL ret mn)
    (k1 : P → OkR p l e R s m args below meth c Z C fs n0 h0 F A w cells slots (pc + 3) Ls St σ t1) (k2 : ¬ P → OkR p l e R s m args below meth c Z C fs n0 h0 F A w cells slots pc1 Ls St σ t2) : OkR p l e R s m args below meth c Z C fs n0 h0 F A w cells slots pc Ls (.int x :: St) σ (if P then t1 else t2) := by
  obtain ⟨d1, d2, d3⟩ := brk_spec hd
  by_cases q : P
  · rw [if_pos q]
    intro x' hx T locs rl X W O N f L
    obtain ⟨s₂, o', st, r⟩ := k1 q x' hx T locs rl X W O N f L
    exact ⟨s₂, o', XS.ifNo X.here hc.1 rfl (hb hc.2.2.1 d1) rfl (hN q) st, r⟩
  · rw [if_neg q]
    intro x' hx T locs rl X W O N f L
    obtain ⟨s₂, o', st, r⟩ := k2 q x' hx T locs rl X W O N f L
    exact ⟨s₂, o', XS.ifYes X.here hc.1 rfl (pc0 := pc) rfl (hb hc.2.2.1 d1) rfl (hY q) d2 d3 st, r⟩
theorem am_icmp_lt {o : Int} {x y : Int32} {pc1 : Nat} {t1 t2 : Option α} (hd : brk bytes pc (.if_icmp .lt o) o pc1 = true) (hc : Cx p s m meth c Z own bytes maxL ret mn)
    (k1 : x < y → OkR p l e R s m args below meth c Z C fs n0 h0 F A w cells slots pc1 Ls St σ t1) (k2 : ¬ x < y → OkR p l e R s m args below meth c Z C fs n0 h0 F A w cells slots (pc + 3) Ls St σ t2) : OkR p l e R s m args below meth c Z C fs n0 h0 F A w cells slots pc Ls (.int y :: .int x :: St) σ (if x < y then t1 else t2) :=
  am_icmpT (fun h => (tlt h).1) (fun h => (flt h).1) hd hc k1 k2
theorem am_if_lt {o : Int} {x : Int32} {pc1 : Nat} {t1 t2 : Option α} (hd : brk bytes pc (.ifCond .lt o) o pc1 = true) (hc : Cx p s m meth c Z own bytes maxL ret mn)
    (k1 : x < 0 → OkR p l e R s m args below meth c Z C fs n0 h0 F A w cells slots pc1 Ls St σ t1) (k2 : ¬ x < 0 → OkR p l e R s m args below meth c Z C fs n0 h0 F A w cells slots (pc + 3) Ls St σ t2) : OkR p l e R s m args below meth c Z C fs n0 h0 F A w cells slots pc Ls (.int x :: St) σ (if x < 0 then t1 else t2) :=
  am_ifT (fun h => (if0 _ _).trans (tlt h).1) (fun h => (if0 _ _).trans (flt h).1) hd hc k1 k2
theorem am_icmp_ge {o : Int} {x y : Int32} {pc1 : Nat} {t1 t2 : Option α} (hd : brk bytes pc (.if_icmp .ge o) o pc1 = true) (hc : Cx p s m meth c Z own bytes maxL ret mn)
    (k1 : x < y → OkR p l e R s m args below meth c Z C fs n0 h0 F A w cells slots (pc + 3) Ls St σ t1) (k2 : ¬ x < y → OkR p l e R s m args below meth c Z C fs n0 h0 F A w cells slots pc1 Ls St σ t2) : OkR p l e R s m args below meth c Z C fs n0 h0 F A w cells slots pc Ls (.int y :: .int x :: St) σ (if x < y then t1 else t2) :=
  am_icmpF (fun h => (flt h).2.1) (fun h => (tlt h).2.1) hd hc k1 k2
theorem am_if_ge {o : Int} {x : Int32} {pc1 : Nat} {t1 t2 : Option α} (hd : brk bytes pc (.ifCond .ge o) o pc1 = true) (hc : Cx p s m meth c Z own bytes maxL ret mn)
    (k1 : x < 0 → OkR p l e R s m args below meth c Z C fs n0 h0 F A w cells slots (pc + 3) Ls St σ t1) (k2 : ¬ x < 0 → OkR p l e R s m args below meth c Z C fs n0 h0 F A w cells slots pc1 Ls St σ t2) : OkR p l e R s m args below meth c Z C fs n0 h0 F A w cells slots pc Ls (.int x :: St) σ (if x < 0 then t1 else t2) :=
  am_ifF (fun h => (if0 _ _).trans (flt h).2.1) (fun h => (if0 _ _).trans (tlt h).2.1) hd hc k1 k2
theorem am_icmp_gt {o : Int} {x y : Int32} {pc1 : Nat} {t1 t2 : Option α} (hd : brk bytes pc (.if_icmp .gt o) o pc1 = true) (hc : Cx p s m meth c Z own bytes maxL ret mn)
    (k1 : y < x → OkR p l e R s m args below meth c Z C fs n0 h0 F A w cells slots pc1 Ls St σ t1) (k2 : ¬ y < x → OkR p l e R s m args below meth c Z C fs n0 h0 F A w cells slots (pc + 3) Ls St σ t2) : OkR p l e R s m args below meth c Z C fs n0 h0 F A w cells slots pc Ls (.int y :: .int x :: St) σ (if y < x then t1 else t2) :=
  am_icmpT (fun h => (tlt h).2.2.1) (fun h => (flt h).2.2.1) hd hc k1 k2
theorem am_if_gt {o : Int} {x : Int32} {pc1 : Nat} {t1 t2 : Option α} (hd : brk bytes pc (.ifCond .gt o) o pc1 = true) (hc : Cx p s m meth c Z own bytes maxL ret mn)
    (k1 : 0 < x → OkR p l e R s m args below meth c Z C fs n0 h0 F A w cells slots pc1 Ls St σ t1) (k2 : ¬ 0 < x → OkR p l e R s m args below meth c Z C fs n0 h0 F A w cells slots (pc + 3) Ls St σ t2) : OkR p l e R s m args below meth c Z C fs n0 h0 F A w cells slots pc Ls (.int x :: St) σ (if 0 < x then t1 else t2) :=
  am_ifT (fun h => (if0 _ _).trans (tlt h).2.2.1) (fun h => (if0 _ _).trans (flt h).2.2.1) hd hc k1 k2
theorem am_icmp_le {o : Int} {x y : Int32} {pc1 : Nat} {t1 t2 : Option α} (hd : brk bytes pc (.if_icmp .le o) o pc1 = true) (hc : Cx p s m meth c Z own bytes maxL ret mn)
    (k1 : y < x → OkR p l e R s m args below meth c Z C fs n0 h0 F A w cells slots (pc + 3) Ls St σ t1) (k2 : ¬ y < x → OkR p l e R s m args below meth c Z C fs n0 h0 F A w cells slots pc1 Ls St σ t2) : OkR p l e R s m args below meth c Z C fs n0 h0 F A w cells slots pc Ls (.int y :: .int x :: St) σ (if y < x then t1 else t2) :=
  am_icmpF (fun h => (flt h).2.2.2) (fun h => (tlt h).2.2.2) hd hc k1 k2
theorem am_if_le {o : Int} {x : Int32} {pc1 : Nat} {t1 t2 : Option α} (hd : brk bytes pc (.ifCond .le o) o pc1 = true) (hc : Cx p s m meth c Z own bytes maxL ret mn)
    (k1 : 0 < x → OkR p l e R s m args below meth c Z C fs n0 h0 F A w cells slots (pc + 3) Ls St σ t1) (k2 : ¬ 0 < x → OkR p l e R s m args below meth c Z C fs n0 h0 F A w cells slots pc1 Ls St σ t2) : OkR p l e R s m args below meth c Z C fs n0 h0 F A w cells slots pc Ls (.int x :: St) σ (if 0 < x then t1 else t2) :=
  am_ifF (fun h => (if0 _ _).trans (flt h).2.2.2) (fun h => (if0 _ _).trans (tlt h).2.2.2) hd hc k1 k2
theorem am_icmp_eq {o : Int} {x y : Int32} {pc1 : Nat} {t1 t2 : Option α} (hd : brk bytes pc (.if_icmp .eq o) o pc1 = true) (hc : Cx p s m meth c Z own bytes maxL ret mn)
    (k1 : x = y → OkR p l e R s m args below meth c Z C fs n0 h0 F A w cells slots pc1 Ls St σ t1) (k2 : ¬ x = y → OkR p l e R s m args below meth c Z C fs n0 h0 F A w cells slots (pc + 3) Ls St σ t2) : OkR p l e R s m args below meth c Z C fs n0 h0 F A w cells slots pc Ls (.int y :: .int x :: St) σ (if x = y then t1 else t2) :=
  am_icmpT (fun h => (teq h).1) (fun h => (feq h).1) hd hc k1 k2
theorem am_if_eq {o : Int} {x : Int32} {pc1 : Nat} {t1 t2 : Option α} (hd : brk bytes pc (.ifCond .eq o) o pc1 = true) (hc : Cx p s m meth c Z own bytes maxL ret mn)
    (k1 : x = 0 → OkR p l e R s m args below meth c Z C fs n0 h0 F A w cells slots pc1 Ls St σ t1) (k2 : ¬ x = 0 → OkR p l e R s m args below meth c Z C fs n0 h0 F A w cells slots (pc + 3) Ls St σ t2) : OkR p l e R s m args below meth c Z C fs n0 h0 F A w cells slots pc Ls (.int x :: St) σ (if x = 0 then t1 else t2) :=
  am_ifT (fun h => (if0 _ _).trans (teq h).1) (fun h => (if0 _ _).trans (feq h).1) hd hc k1 k2
theorem am_icmp_ne {o : Int} {x y : Int32} {pc1 : Nat} {t1 t2 : Option α} (hd : brk bytes pc (.if_icmp .ne o) o pc1 = true) (hc : Cx p s m meth c Z own bytes maxL ret mn)
    (k1 : x = y → OkR p l e R s m args below meth c Z C fs n0 h0 F A w cells slots (pc + 3) Ls St σ t1) (k2 : ¬ x = y → OkR p l e R s m args below meth c Z C fs n0 h0 F A w cells slots pc1 Ls St σ t2) : OkR p l e R s m args below meth c Z C fs n0 h0 F A w cells slots pc Ls (.int y :: .int x :: St) σ (if x = y then t1 else t2) :=
  am_icmpF (fun h => (feq h).2) (fun h => (teq h).2) hd hc k1 k2
theorem am_if_ne {o : Int} {x : Int32} {pc1 : Nat} {t1 t2 : Option α} (hd : brk bytes pc (.ifCond .ne o) o pc1 = true) (hc : Cx p s m meth c Z own bytes maxL ret mn)
    (k1 : x = 0 → OkR p l e R s m args below meth c Z C fs n0 h0 F A w cells slots (pc + 3) Ls St σ t1) (k2 : ¬ x = 0 → OkR p l e R s m args below meth c Z C fs n0 h0 F A w cells slots pc1 Ls St σ t2) : OkR p l e R s m args below meth c Z C fs n0 h0 F A w cells slots pc Ls (.int x :: St) σ (if x = 0 then t1 else t2) :=
  am_ifF (fun h => (if0 _ _).trans (feq h).2) (fun h => (if0 _ _).trans (teq h).2) hd hc k1 k2

def inb (i : Int32) (n : Nat) : Bool := decide (0 ≤ i.toInt ∧ i.toInt < (n : Int))
theorem inb_iff {i : Int32} {n : Nat} : inb i n = true ↔ 0 ≤ i.toInt ∧ i.toInt < (n : Int) := by simp [inb]
theorem inb_of' {i : Int32} {n : Nat} (h : inb i n = true) : nx i < n ∧ i.toNatClampNeg = nx i ∧ ∀ c : Cell, c.slots.size = n → ¬ (i < 0 ∨ c.slots.size ≤ i.toNatClampNeg) := by
  obtain ⟨h1, h2⟩ := inb_iff.mp h
  have e : i.toNatClampNeg = nx i := rfl
  refine ⟨by unfold nx; omega, e, fun c hc => ?_⟩
  rw [hc, e]
  intro q
  rcases q with q | q
  · rw [Int32.lt_iff_toInt_lt] at q
    have : (0 : Int32).toInt = 0 := rfl
    omega
  · unfold nx at q; omega
theorem am_iaload {k n : Nat} {i : Int32} (hd : decode bytes pc = .ok (.iaload, 1)) (hc : Cx p s m meth c Z own bytes maxL ret mn) (hk : w k = some (.inr (.int, n, none)))
    (κ : inb i n = true → OkR p l e R s m args below meth c Z C fs n0 h0 F A w cells slots (pc + 1) Ls (.int (gi σ k (nx i)) :: St) σ t) : OkR p l e R s m args below meth c Z C fs n0 h0 F A w cells slots pc Ls (.int i :: .ref k :: St) σ (if inb i n = true then t else none) := by
  by_cases q : inb i n = true
  · rw [if_pos q]
    intro x hx T locs rl X W O N f L
    obtain ⟨q1, q2, q3⟩ := inb_of' q
    obtain ⟨cl, a1, a2, a3⟩ := W.1 k _ hk
    have hv : cl.slots[i.toNatClampNeg]? = some (.int (gi σ k (nx i))) := by rw [q2]; exact a3 _ q1
    obtain ⟨s₂, o', st, r⟩ := κ q x hx T locs rl X W O N f L
    exact ⟨s₂, o', X.iaload hc.1 a1.1 (State.isArrayOf_alike hc.2.1.alike a1.2.1) a1.2.2 (q3 cl a2) hv (g := mkF m pc rl.toArray (.int i :: .ref (A k) :: St.map (cv A))) rfl rfl (hb hc.2.2.1 hd) _ st, r⟩
  · rw [if_neg q]; exact am_none rfl
theorem am_iaload_k {k n : Nat} {i : Int32} (q : inb i n = true) (hd : decode bytes pc = .ok (.iaload, 1)) (hc : Cx p s m meth c Z own bytes maxL ret mn) (hk : w k = some (.inr (.int, n, none)))
    (κ : OkR p l e R s m args below meth c Z C fs n0 h0 F A w cells slots (pc + 1) Ls (.int (gi σ k (nx i)) :: St) σ t) : OkR p l e R s m args below meth c Z C fs n0 h0 F A w cells slots pc Ls (.int i :: .ref k :: St) σ t := by
  have := am_iaload hd hc hk fun _ => κ
  rw [if_pos q] at this; exact this
theorem am_ialoadC {k n : Nat} {i : Int32} {f0 : Nat → Int32} (hd : decode bytes pc = .ok (.iaload, 1)) (hc : Cx p s m meth c Z own bytes maxL ret mn) (hk : w k = some (.inr (.int, n, some f0)))
    (κ : inb i n = true → OkR p l e R s m args below meth c Z C fs n0 h0 F A w cells slots (pc + 1) Ls (.int (f0 (nx i)) :: St) σ t) : OkR p l e R s m args below meth c Z C fs n0 h0 F A w cells slots pc Ls (.int i :: .ref k :: St) σ (if inb i n = true then t else none) := by
  by_cases q : inb i n = true
  · rw [if_pos q]
    intro x hx T locs rl X W O N f L
    obtain ⟨q1, q2, q3⟩ := inb_of' q
    obtain ⟨cl, a1, a2, a3⟩ := W.1 k _ hk
    have hv : cl.slots[i.toNatClampNeg]? = some (.int (f0 (nx i))) := by rw [q2]; exact a3 _ q1
    obtain ⟨s₂, o', st, r⟩ := κ q x hx T locs rl X W O N f L
    exact ⟨s₂, o', X.iaload hc.1 a1.1 (State.isArrayOf_alike hc.2.1.alike a1.2.1) a1.2.2 (q3 cl a2) hv (g := mkF m pc rl.toArray (.int i :: .ref (A k) :: St.map (cv A))) rfl rfl (hb hc.2.2.1 hd) _ st, r⟩
  · rw [if_neg q]; exact am_none rfl
theorem am_ialoadC_k {k n : Nat} {i : Int32} {f0 : Nat → Int32} (q : inb i n = true) (hd : decode bytes pc = .ok (.iaload, 1)) (hc : Cx p s m meth c Z own bytes maxL ret mn) (hk : w k = some (.inr (.int, n, some f0)))
    (κ : OkR p l e R s m args below meth c Z C fs n0 h0 F A w cells slots (pc + 1) Ls (.int (f0 (nx i)) :: St) σ t) : OkR p l e R s m args below meth c Z C fs n0 h0 F A w cells slots pc Ls (.int i :: .ref k :: St) σ t := by
  have := am_ialoadC hd hc hk fun _ => κ
  rw [if_pos q] at this; exact this
theorem am_laload {k n : Nat} {i : Int32} (hd : decode bytes pc = .ok (.laload, 1)) (hc : Cx p s m meth c Z own bytes maxL ret mn) (hk : w k = some (.inr (.long, n, none)))
    (κ : inb i n = true → OkR p l e R s m args below meth c Z C fs n0 h0 F A w cells slots (pc + 1) Ls (.long (gj σ k (nx i)) :: St) σ t) : OkR p l e R s m args below meth c Z C fs n0 h0 F A w cells slots pc Ls (.int i :: .ref k :: St) σ (if inb i n = true then t else none) := by
  by_cases q : inb i n = true
  · rw [if_pos q]
    intro x hx T locs rl X W O N f L
    obtain ⟨q1, q2, q3⟩ := inb_of' q
    obtain ⟨cl, a1, a2, a3⟩ := W.1 k _ hk
    have hv : cl.slots[i.toNatClampNeg]? = some (.long (gj σ k (nx i))) := by rw [q2]; exact a3 _ q1
    obtain ⟨s₂, o', st, r⟩ := κ q x hx T locs rl X W O N f L
    exact ⟨s₂, o', X.laload hc.1 a1.1 (State.isArrayOf_alike hc.2.1.alike a1.2.1) a1.2.2 (q3 cl a2) hv (g := mkF m pc rl.toArray (.int i :: .ref (A k) :: St.map (cv A))) rfl rfl (hb hc.2.2.1 hd) _ st, r⟩
  · rw [if_neg q]; exact am_none rfl
theorem am_laload_k {k n : Nat} {i : Int32} (q : inb i n = true) (hd : decode bytes pc = .ok (.laload, 1)) (hc : Cx p s m meth c Z own bytes maxL ret mn) (hk : w k = some (.inr (.long, n, none)))
    (κ : OkR p l e R s m args below meth c Z C fs n0 h0 F A w cells slots (pc + 1) Ls (.long (gj σ k (nx i)) :: St) σ t) : OkR p l e R s m args below meth c Z C fs n0 h0 F A w cells slots pc Ls (.int i :: .ref k :: St) σ t := by
  have := am_laload hd hc hk fun _ => κ
  rw [if_pos q] at this; exact this
theorem am_baloadB {k n : Nat} {i : Int32} (hd : decode bytes pc = .ok (.baload, 1)) (hc : Cx p s m meth c Z own bytes maxL ret mn) (hk : w k = some (.inr (.byte, n, none)))
    (κ : inb i n = true → OkR p l e R s m args below meth c Z C fs n0 h0 F A w cells slots (pc + 1) Ls (.int (gi σ k (nx i)) :: St) σ t) : OkR p l e R s m args below meth c Z C fs n0 h0 F A w cells slots pc Ls (.int i :: .ref k :: St) σ (if inb i n = true then t else none) := by
  by_cases q : inb i n = true
  · rw [if_pos q]
    intro x hx T locs rl X W O N f L
    obtain ⟨q1, q2, q3⟩ := inb_of' q
    obtain ⟨cl, a1, a2, a3⟩ := W.1 k _ hk
    have hv : cl.slots[i.toNatClampNeg]? = some (.int (gi σ k (nx i))) := by rw [q2]; exact a3 _ q1
    obtain ⟨s₂, o', st, r⟩ := κ q x hx T locs rl X W O N f L
    exact ⟨s₂, o', X.baloadBytes hc.1 a1.1 (State.isArrayOf_alike hc.2.1.alike a1.2.1) a1.2.2 (q3 cl a2) hv (g := mkF m pc rl.toArray (.int i :: .ref (A k) :: St.map (cv A))) rfl rfl (hb hc.2.2.1 hd) _ st, r⟩
  · rw [if_neg q]; exact am_none rfl
theorem am_baloadB_k {k n : Nat} {i : Int32} (q : inb i n = true) (hd : decode bytes pc = .ok (.baload, 1)) (hc : Cx p s m meth c Z own bytes maxL ret mn) (hk : w k = some (.inr (.byte, n, none)))
    (κ : OkR p l e R s m args below meth c Z C fs n0 h0 F A w cells slots (pc + 1) Ls (.int (gi σ k (nx i)) :: St) σ t) : OkR p l e R s m args below meth c Z C fs n0 h0 F A w cells slots pc Ls (.int i :: .ref k :: St) σ t := by
  have := am_baloadB hd hc hk fun _ => κ
  rw [if_pos q] at this; exact this
theorem am_baloadZ {k n : Nat} {i : Int32} (hd : decode bytes pc = .ok (.baload, 1)) (hc : Cx p s m meth c Z own bytes maxL ret mn) (hk : w k = some (.inr (.boolean, n, none)))
    (κ : inb i n = true → OkR p l e R s m args below meth c Z C fs n0 h0 F A w cells slots (pc + 1) Ls (.int (gi σ k (nx i)) :: St) σ t) : OkR p l e R s m args below meth c Z C fs n0 h0 F A w cells slots pc Ls (.int i :: .ref k :: St) σ (if inb i n = true then t else none) := by
  by_cases q : inb i n = true
  · rw [if_pos q]
    intro x hx T locs rl X W O N f L
    obtain ⟨q1, q2, q3⟩ := inb_of' q
    obtain ⟨cl, a1, a2, a3⟩ := W.1 k _ hk
    have hv : cl.slots[i.toNatClampNeg]? = some (.int (gi σ k (nx i))) := by rw [q2]; exact a3 _ q1
    obtain ⟨s₂, o', st, r⟩ := κ q x hx T locs rl X W O N f L
    exact ⟨s₂, o', X.baloadBooleans hc.1 a1.1 (State.isArrayOf_alike hc.2.1.alike a1.2.1) a1.2.2 (q3 cl a2) hv (g := mkF m pc rl.toArray (.int i :: .ref (A k) :: St.map (cv A))) rfl rfl (hb hc.2.2.1 hd) _ st, r⟩
  · rw [if_neg q]; exact am_none rfl
theorem am_baloadZ_k {k n : Nat} {i : Int32} (q : inb i n = true) (hd : decode bytes pc = .ok (.baload, 1)) (hc : Cx p s m meth c Z own bytes maxL ret mn) (hk : w k = some (.inr (.boolean, n, none)))
    (κ : OkR p l e R s m args below meth c Z C fs n0 h0 F A w cells slots (pc + 1) Ls (.int (gi σ k (nx i)) :: St) σ t) : OkR p l e R s m args below meth c Z C fs n0 h0 F A w cells slots pc Ls (.int i :: .ref k :: St) σ t := by
  have := am_baloadZ hd hc hk fun _ => κ
  rw [if_pos q] at this; exact this
theorem am_iastore {k n : Nat} {i : Int32} {x y : Int32} (hy : x = y) (hd : decode bytes pc = .ok (.iastore, 1)) (hc : Cx p s m meth c Z own bytes maxL ret mn) (hk : w k = some (.inr (.int, n, none)))
    (κ : inb i n = true → OkR p l e R s m args below meth c Z C fs n0 h0 F A w cells slots (pc + 1) Ls St (si σ k (nx i) y) t) : OkR p l e R s m args below meth c Z C fs n0 h0 F A w cells slots pc Ls (.int x :: .int i :: .ref k :: St) σ (if inb i n = true then t else none) := by
  by_cases q : inb i n = true
  · rw [if_pos q]
    intro x' hx T locs rl X W O N f L
    obtain ⟨q1, q2, q3⟩ := inb_of' q
    obtain ⟨cl, a1, a2, a3⟩ := W.1 k _ hk
    obtain ⟨T', h', X', e', Q, st'⟩ := stI X hc.1 hc.2.1 rfl a1 (q3 cl a2) (g := mkF m pc rl.toArray (.int x :: .int i :: .ref (A k) :: St.map (cv A))) rfl rfl (hb hc.2.2.1 hd)
    subst e'
    have W' : Wd Z C fs T'.heap A w (si σ k (nx i) y) := by
      refine W.write hk Q (si_off _ _ _ _) ⟨_, a1.same Q, by rw [sz_set]; exact a2, fun j hj => ?_⟩
      subst hy
      simp only [Cell.setSlot, aeo, ae]
      rw [q2]
      by_cases ej : j = nx i
      · subst ej
        rw [Array.getElem?_setIfInBounds_self_of_lt (by omega)]
        simp [gi_si, gj_sj, nar]
      · rw [Array.getElem?_setIfInBounds_ne (Ne.symm ej)]
        rw [a3 j hj]
        simp [aeo, ae, gi_si, gj_sj, ej]
    obtain ⟨s₂, o', st, r⟩ := κ q x' hx T' _ rl X' W' (O.write hk rfl Q) N (Fr.snoc X' f (N k _ hk rfl)) L
    exact ⟨s₂, o', st' _ st, r⟩
  · rw [if_neg q]; exact am_none rfl
theorem am_iastore_k {k n : Nat} {i : Int32} {x y : Int32} (q : inb i n = true) (hy : x = y) (hd : decode bytes pc = .ok (.iastore, 1)) (hc : Cx p s m meth c Z own bytes maxL ret mn) (hk : w k = some (.inr (.int, n, none)))
    (κ : OkR p l e R s m args below meth c Z C fs n0 h0 F A w cells slots (pc + 1) Ls St (si σ k (nx i) y) t) : OkR p l e R s m args below meth c Z C fs n0 h0 F A w cells slots pc Ls (.int x :: .int i :: .ref k :: St) σ t := by
  have := am_iastore hy hd hc hk fun _ => κ
  rw [if_pos q] at this; exact this
theorem am_lastore {k n : Nat} {i : Int32} {x y : Int64} (hy : x = y) (hd : decode bytes pc = .ok (.lastore, 1)) (hc : Cx p s m meth c Z own bytes maxL ret mn) (hk : w k = some (.inr (.long, n, none)))
    (κ : inb i n = true → OkR p l e R s m args below meth c Z C fs n0 h0 F A w cells slots (pc + 1) Ls St (sj σ k (nx i) y) t) : OkR p l e R s m args below meth c Z C fs n0 h0 F A w cells slots pc Ls (.long x :: .int i :: .ref k :: St) σ (if inb i n = true then t else none) := by
  by_cases q : inb i n = true
  · rw [if_pos q]
    intro x' hx T locs rl X W O N f L
    obtain ⟨q1, q2, q3⟩ := inb_of' q
    obtain ⟨cl, a1, a2, a3⟩ := W.1 k _ hk
    obtain ⟨T', h', X', e', Q, st'⟩ := stJ X hc.1 hc.2.1 rfl a1 (q3 cl a2) (g := mkF m pc rl.toArray (.long x :: .int i :: .ref (A k) :: St.map (cv A))) rfl rfl (hb hc.2.2.1 hd)
    subst e'
    have W' : Wd Z C fs T'.heap A w (sj σ k (nx i) y) := by
      refine W.write hk Q (sj_off _ _ _ _) ⟨_, a1.same Q, by rw [sz_set]; exact a2, fun j hj => ?_⟩
      subst hy
      simp only [Cell.setSlot, aeo, ae]
      rw [q2]
      by_cases ej : j = nx i
      · subst ej
        rw [Array.getElem?_setIfInBounds_self_of_lt (by omega)]
        simp [gi_si, gj_sj, nar]
      · rw [Array.getElem?_setIfInBounds_ne (Ne.symm ej)]
        rw [a3 j hj]
        simp [aeo, ae, gi_si, gj_sj, ej]
    obtain ⟨s₂, o', st, r⟩ := κ q x' hx T' _ rl X' W' (O.write hk rfl Q) N (Fr.snoc X' f (N k _ hk rfl)) L
    exact ⟨s₂, o', st' _ st, r⟩
  · rw [if_neg q]; exact am_none rfl
theorem am_lastore_k {k n : Nat} {i : Int32} {x y : Int64} (q : inb i n = true) (hy : x = y) (hd : decode bytes pc = .ok (.lastore, 1)) (hc : Cx p s m meth c Z own bytes maxL ret mn) (hk : w k = some (.inr (.long, n, none)))
    (κ : OkR p l e R s m args below meth c Z C fs n0 h0 F A w cells slots (pc + 1) Ls St (sj σ k (nx i) y) t) : OkR p l e R s m args below meth c Z C fs n0 h0 F A w cells slots pc Ls (.long x :: .int i :: .ref k :: St) σ t := by
  have := am_lastore hy hd hc hk fun _ => κ
  rw [if_pos q] at this; exact this
theorem am_bastoreB {k n : Nat} {i : Int32} {x y : Int32} (hy : x.toInt8.toInt32 = y) (hd : decode bytes pc = .ok (.bastore, 1)) (hc : Cx p s m meth c Z own bytes maxL ret mn) (hk : w k = some (.inr (.byte, n, none)))
    (κ : inb i n = true → OkR p l e R s m args below meth c Z C fs n0 h0 F A w cells slots (pc + 1) Ls St (si σ k (nx i) y) t) : OkR p l e R s m args below meth c Z C fs n0 h0 F A w cells slots pc Ls (.int x :: .int i :: .ref k :: St) σ (if inb i n = true then t else none) := by
  by_cases q : inb i n = true
  · rw [if_pos q]
    intro x' hx T locs rl X W O N f L
    obtain ⟨q1, q2, q3⟩ := inb_of' q
    obtain ⟨cl, a1, a2, a3⟩ := W.1 k _ hk
    obtain ⟨T', h', X', e', Q, st'⟩ := stB X hc.1 hc.2.1 rfl a1 (q3 cl a2) (g := mkF m pc rl.toArray (.int x :: .int i :: .ref (A k) :: St.map (cv A))) rfl rfl (hb hc.2.2.1 hd)
    subst e'
    have W' : Wd Z C fs T'.heap A w (si σ k (nx i) y) := by
      refine W.write hk Q (si_off _ _ _ _) ⟨_, a1.same Q, by rw [sz_set]; exact a2, fun j hj => ?_⟩
      subst hy
      simp only [Cell.setSlot, aeo, ae]
      rw [q2]
      by_cases ej : j = nx i
      · subst ej
        rw [Array.getElem?_setIfInBounds_self_of_lt (by omega)]
        simp [gi_si, gj_sj, nar]
      · rw [Array.getElem?_setIfInBounds_ne (Ne.symm ej)]
        rw [a3 j hj]
        simp [aeo, ae, gi_si, gj_sj, ej]
    obtain ⟨s₂, o', st, r⟩ := κ q x' hx T' _ rl X' W' (O.write hk rfl Q) N (Fr.snoc X' f (N k _ hk rfl)) L
    exact ⟨s₂, o', st' _ st, r⟩
  · rw [if_neg q]; exact am_none rfl
theorem am_bastoreB_k {k n : Nat} {i : Int32} {x y : Int32} (q : inb i n = true) (hy : x.toInt8.toInt32 = y) (hd : decode bytes pc = .ok (.bastore, 1)) (hc : Cx p s m meth c Z own bytes maxL ret mn) (hk : w k = some (.inr (.byte, n, none)))
    (κ : OkR p l e R s m args below meth c Z C fs n0 h0 F A w cells slots (pc + 1) Ls St (si σ k (nx i) y) t) : OkR p l e R s m args below meth c Z C fs n0 h0 F A w cells slots pc Ls (.int x :: .int i :: .ref k :: St) σ t := by
  have := am_bastoreB hy hd hc hk fun _ => κ
  rw [if_pos q] at this; exact this
theorem am_bastoreZ {k n : Nat} {i : Int32} {x y : Int32} (hy : x &&& 1 = y) (hd : decode bytes pc = .ok (.bastore, 1)) (hc : Cx p s m meth c Z own bytes maxL ret mn) (hk : w k = some (.inr (.boolean, n, none)))
    (κ : inb i n = true → OkR p l e R s m args below meth c Z C fs n0 h0 F A w cells slots (pc + 1) Ls St (si σ k (nx i) y) t) : OkR p l e R s m args below meth c Z C fs n0 h0 F A w cells slots pc Ls (.int x :: .int i :: .ref k :: St) σ (if inb i n = true then t else none) := by
  by_cases q : inb i n = true
  · rw [if_pos q]
    intro x' hx T locs rl X W O N f L
    obtain ⟨q1, q2, q3⟩ := inb_of' q
    obtain ⟨cl, a1, a2, a3⟩ := W.1 k _ hk
    obtain ⟨T', h', X', e', Q, st'⟩ := stZ X hc.1 hc.2.1 rfl a1 (q3 cl a2) (g := mkF m pc rl.toArray (.int x :: .int i :: .ref (A k) :: St.map (cv A))) rfl rfl (hb hc.2.2.1 hd)
    subst e'
    have W' : Wd Z C fs T'.heap A w (si σ k (nx i) y) := by
      refine W.write hk Q (si_off _ _ _ _) ⟨_, a1.same Q, by rw [sz_set]; exact a2, fun j hj => ?_⟩
      subst hy
      simp only [Cell.setSlot, aeo, ae]
      rw [q2]
      by_cases ej : j = nx i
      · subst ej
        rw [Array.getElem?_setIfInBounds_self_of_lt (by omega)]
        simp [gi_si, gj_sj, nar]
      · rw [Array.getElem?_setIfInBounds_ne (Ne.symm ej)]
        rw [a3 j hj]
        simp [aeo, ae, gi_si, gj_sj, ej]
    obtain ⟨s₂, o', st, r⟩ := κ q x' hx T' _ rl X' W' (O.write hk rfl Q) N (Fr.snoc X' f (N k _ hk rfl)) L
    exact ⟨s₂, o', st' _ st, r⟩
  · rw [if_neg q]; exact am_none rfl
theorem am_bastoreZ_k {k n : Nat} {i : Int32} {x y : Int32} (q : inb i n = true) (hy : x &&& 1 = y) (hd : decode bytes pc = .ok (.bastore, 1)) (hc : Cx p s m meth c Z own bytes maxL ret mn) (hk : w k = some (.inr (.boolean, n, none)))
    (κ : OkR p l e R s m args below meth c Z C fs n0 h0 F A w cells slots (pc + 1) Ls St (si σ k (nx i) y) t) : OkR p l e R s m args below meth c Z C fs n0 h0 F A w cells slots pc Ls (.int x :: .int i :: .ref k :: St) σ t := by
  have := am_bastoreZ hy hd hc hk fun _ => κ
  rw [if_pos q] at this; exact this
theorem am_alen {k n : Nat} {ty : FieldType} {o : Option (Nat → Int32)} (hd : decode bytes pc = .ok (.arraylength, 1)) (hc : Cx p s m meth c Z own bytes maxL ret mn) (hk : w k = some (.inr (ty, n, o)))
    (κ : OkR p l e R s m args below meth c Z C fs n0 h0 F A w cells slots (pc + 1) Ls (.int n.toInt32 :: St) σ t) : OkR p l e R s m args below meth c Z C fs n0 h0 F A w cells slots pc Ls (.ref k :: St) σ t := by
  intro x hx T locs rl X W O N f L
  obtain ⟨cl, a1, a2, a3⟩ := W.1 k _ hk
  subst a2
  obtain ⟨s₂, o', st, r⟩ := κ x hx T locs rl X W O N f L
  exact ⟨s₂, o', X.arraylength hc.1 a1.1 (State.isArrayOf_alike hc.2.1.alike a1.2.1) (g := mkF m pc rl.toArray (.ref (A k) :: St.map (cv A))) rfl rfl (hb hc.2.2.1 hd) _ st, r⟩
theorem am_irem {x y : Int32} (hd : decode bytes pc = .ok (.irem, 1)) (hc : Cx p s m meth c Z own bytes maxL ret mn)
    (κ : y ≠ 0 → OkR p l e R s m args below meth c Z C fs n0 h0 F A w cells slots (pc + 1) Ls (.int (x % y) :: St) σ t) : OkR p l e R s m args below meth c Z C fs n0 h0 F A w cells slots pc Ls (.int y :: .int x :: St) σ (if y = 0 then none else t) := by
  by_cases q : y = 0
  · rw [if_pos q]; exact am_none rfl
  · rw [if_neg q]
    intro x' hx T locs rl X W O N f L
    obtain ⟨s₂, o', st, r⟩ := κ q x' hx T locs rl X W O N f L
    exact ⟨s₂, o', iremM X hc.1 rfl (hb hc.2.2.1 hd) rfl q st, r⟩
theorem am_idiv {x y : Int32} (hd : decode bytes pc = .ok (.idiv, 1)) (hc : Cx p s m meth c Z own bytes maxL ret mn)
    (κ : y ≠ 0 → OkR p l e R s m args below meth c Z C fs n0 h0 F A w cells slots (pc + 1) Ls (.int (x / y) :: St) σ t) : OkR p l e R s m args below meth c Z C fs n0 h0 F A w cells slots pc Ls (.int y :: .int x :: St) σ (if y = 0 then none else t) := by
  by_cases q : y = 0
  · rw [if_pos q]; exact am_none rfl
  · rw [if_neg q]
    intro x' hx T locs rl X W O N f L
    obtain ⟨s₂, o', st, r⟩ := κ q x' hx T locs rl X W O N f L
    exact ⟨s₂, o', XS.idiv X.here hc.1 rfl (hb hc.2.2.1 hd) rfl q st, r⟩
theorem am_retI {z : Int32} {a : α} (hd : decode bytes pc = .ok (.ireturn, 1)) (hc : Cx p s m meth c Z own bytes maxL (some .int) mn) (hcs : cells ≤ R.cells) (hsl : slots ≤ R.slots) (hF : ∀ h, Wd Z C fs h A w σ → Out h0 h A w → F a (some (.int z)) h) : OkR p l e R s m args below meth c Z C fs n0 h0 F A w cells slots pc Ls (.int z :: St) σ (some a) := by
  intro x' hx T locs rl X W O N f L
  cases hx
  obtain ⟨fs', hr, hrun, hended, hW, hsame⟩ := X.leave (v := some (.int z)) (fun h => by rw [hc.2.2.2.2.2.1] at h; cases h) hc.2.2.2.2.2.2.1
  exact ⟨_, _, retOut X hc.1 hc.2.2.2.2.2.1 rfl (Or.inl ⟨rfl, Or.inl rfl, z, rfl⟩) (hb hc.2.2.1 hd) hr, hrun, hended, _, locs, rfl, ⟨hF _ W O, f⟩, ⟨_, rfl⟩, hW, hsame.mono hcs hsl⟩
theorem am_retZ {z : Int32} {a : α} (hd : decode bytes pc = .ok (.ireturn, 1)) (hc : Cx p s m meth c Z own bytes maxL (some .boolean) mn) (hcs : cells ≤ R.cells) (hsl : slots ≤ R.slots) (hF : ∀ h, Wd Z C fs h A w σ → Out h0 h A w → F a (some (.int (z &&& 1))) h) : OkR p l e R s m args below meth c Z C fs n0 h0 F A w cells slots pc Ls (.int z :: St) σ (some a) := by
  intro x' hx T locs rl X W O N f L
  cases hx
  obtain ⟨fs', hr, hrun, hended, hW, hsame⟩ := X.leave (v := some (.int (z &&& 1))) (fun h => by rw [hc.2.2.2.2.2.1] at h; cases h) hc.2.2.2.2.2.2.1
  exact ⟨_, _, retN X hc.1 (t := .boolean) hc.2.2.2.2.2.1 (Or.inl rfl) (hb hc.2.2.1 hd) hr, hrun, hended, _, locs, rfl, ⟨hF _ W O, f⟩, ⟨_, rfl⟩, hW, hsame.mono hcs hsl⟩
theorem am_retJ {z : Int64} {a : α} (hd : decode bytes pc = .ok (.lreturn, 1)) (hc : Cx p s m meth c Z own bytes maxL (some .long) mn) (hcs : cells ≤ R.cells) (hsl : slots ≤ R.slots) (hF : ∀ h, Wd Z C fs h A w σ → Out h0 h A w → F a (some (.long z)) h) : OkR p l e R s m args below meth c Z C fs n0 h0 F A w cells slots pc Ls (.long z :: St) σ (some a) := by
  intro x' hx T locs rl X W O N f L
  cases hx
  obtain ⟨fs', hr, hrun, hended, hW, hsame⟩ := X.leave (v := some (.long z)) (fun h => by rw [hc.2.2.2.2.2.1] at h; cases h) hc.2.2.2.2.2.2.1
  exact ⟨_, _, retOut X hc.1 hc.2.2.2.2.2.1 rfl (Or.inr (Or.inl ⟨rfl, rfl, z, rfl⟩)) (hb hc.2.2.1 hd) hr, hrun, hended, _, locs, rfl, ⟨hF _ W O, f⟩, ⟨_, rfl⟩, hW, hsame.mono hcs hsl⟩
theorem am_retV {a : α} (hd : decode bytes pc = .ok (.return_, 1)) (hc : Cx p s m meth c Z own bytes maxL (none) mn) (hcs : cells ≤ R.cells) (hsl : slots ≤ R.slots) (hF : ∀ h, Wd Z C fs h A w σ → Out h0 h A w → F a (none) h) : OkR p l e R s m args below meth c Z C fs n0 h0 F A w cells slots pc Ls [] σ (some a) := by
  intro x' hx T locs rl X W O N f L
  cases hx
  obtain ⟨fs', hr, hrun, hended, hW, hsame⟩ := X.leave (v := none) (fun _ => rfl) hc.2.2.2.2.2.2.1
  exact ⟨_, _, X.returnOut hc.1 hc.2.2.2.2.2.1 (hb hc.2.2.1 hd) hr, hrun, hended, _, locs, rfl, ⟨hF _ W O, f⟩, ⟨_, rfl⟩, hW, hsame.mono hcs hsl⟩

def wkL : List Slot → List Slot → Prop
  | [], [] => True
  | .val v :: l, x :: l' => x = .val v ∧ wkL l l'
  | .unset :: l, _ :: l' => wkL l l'
  | .second :: l, _ :: l' => wkL l l'
  | _, _ => False
theorem wkL_ok : ∀ {l l' : List Slot}, wkL l l' → l.length = l'.length ∧ ∀ (k : Nat) (v : Value), l[k]? = some (.val v) → l'[k]? = some (.val v)
  | [], [], _ => ⟨rfl, fun k v h => by simp at h⟩
  | .val u :: l, x :: l', h => by
    obtain ⟨h1, h2⟩ := h
    obtain ⟨a, b⟩ := wkL_ok h2
    refine ⟨by simp [a], fun k v q => ?_⟩
    cases k with
    | zero => simp at q ⊢; rw [h1, q]
    | succ k => rw [List.getElem?_cons_succ] at q ⊢; exact b k v q
  | .unset :: l, x :: l', h => by
    obtain ⟨a, b⟩ := wkL_ok (show wkL l l' from h)
    refine ⟨by simp [a], fun k v q => ?_⟩
    cases k with
    | zero => simp at q
    | succ k => rw [List.getElem?_cons_succ] at q ⊢; exact b k v q
  | .second :: l, x :: l', h => by
    obtain ⟨a, b⟩ := wkL_ok (show wkL l l' from h)
    refine ⟨by simp [a], fun k v q => ?_⟩
    cases k with
    | zero => simp at q
    | succ k => rw [List.getElem?_cons_succ] at q ⊢; exact b k v q
theorem am_wk (h : wkL Ls' Ls) (κ : OkR p l e R s m args below meth c Z C fs n0 h0 F A w cells slots pc Ls' St σ t) : OkR p l e R s m args below meth c Z C fs n0 h0 F A w cells slots pc Ls St σ t := by
  intro x' hx T locs rl X W O N f L
  obtain ⟨a, b⟩ := wkL_ok h
  exact κ x' hx T locs rl X W O N f ⟨by rw [L.1, a], L.2.1, fun k v q => L.2.2 k v (b k v q)⟩

/-! calls -/
def FM (Z : State) (C : String) (fs : FS) (A : Nat → Addr) (w : Nat → Option CD) (h0 : Heap) (g : α → Option Value × Sg) : α → Option Value → Heap → Prop := fun x v h => v = (g x).1.map (cv A) ∧ Wd Z C fs h A w (g x).2 ∧ Out h0 h A w
def Con (l : Launch) (Z : State) (C : String) (fs : FS) (y : MethodName) (bytes : ByteArray) (maxL : Nat) (ret : Option FieldType) (rm : Room) (w : Nat → Option CD) (as : List Value) (σ : Sg) (v : Option Value) (σ' : Sg) : Prop :=
  ∀ (A : Nat → Addr) (n0 : Nat) (h : Heap) (ws : List Jvm.Cond), Wd Z C fs h A w σ → Nw n0 A w →
    MetFree l y (head1 (Jvm.Cond.code y bytes maxL ret :: ws) rm) (fun a U => a = (as.map (cv A)).toArray ∧ Z.Warmed39 U.vm ∧ U.heap = h) (fun _ _ _ _ _ => True) (fun _ U o U' => ∃ v' L, o = .returned v' ∧ ((v' = v.map (cv A) ∧ Wd Z C fs U'.heap A w σ' ∧ Out h U'.heap A w) ∧ Fr n0 L) ∧ FrameEnd U o U' L rm.cells rm.slots)
theorem am_met {y : MethodName} {rm : Room} {ws : List Jvm.Cond} {as : List Value} {h : Heap} {x : α} (pn : plainName y.cls = true) (ht : t = some x) (W : Wd Z C fs h A w σ) (N : Nw n0 A w)
    (H : ∀ (p : Program) (e : Env) (s : State) (m : MethodId) (below : List Frame) (meth : Method) (c : Code), Cx p s m meth c Z y.cls bytes maxL ret y.name → OkR p l e rm s m (as.map (cv A)).toArray below meth c Z C fs n0 h F A w 0 0 0 (entL as maxL) [] σ t) :
    MetFree l y (head1 (Jvm.Cond.code y bytes maxL ret :: ws) rm) (fun a U => a = (as.map (cv A)).toArray ∧ Z.Warmed39 U.vm ∧ U.heap = h) (fun _ _ _ _ _ => True) (fun _ U o U' => ∃ v L, o = .returned v ∧ (F x v U'.heap ∧ Fr n0 L) ∧ FrameEnd U o U' L rm.cells rm.slots) := by
  refine MetFree.of_bodySF (plainFor_of_name pn) hisR ?_
  intro p e s m args below meth c s₁ Bd hml0 hP hK
  obtain ⟨rfl, hZ, hh⟩ := hP
  have e0 : s₁.heap = h := by rw [← hh, Bd.state]; rfl
  obtain ⟨s₂, o, st, r⟩ := H p e s m below meth c ⟨Bd.exec, hZ, Bd.bytes, findClass_of_methodNamed Bd.named, hml0, Bd.returns, Bd.notSynchronized, (name_of_methodNamed Bd.named Bd.method).1⟩ x ht s₁ [] _ (Stand.of_body Bd) (by rw [e0]; exact W) (by rw [e0]; exact Out.refl _ _ _) N (Fr.nil n0) (entL_ok A as maxL)
  refine ⟨s₂, o, castTop ?_ st, r⟩
  simp only [entryFrame, mkF, List.map_nil, entL_arr]
theorem am_con {y : MethodName} {rm : Room} {as : List Value} {g : α → Option Value × Sg} (pn : plainName y.cls = true)
    (H : ∀ (p : Program) (e : Env) (s : State) (m : MethodId) (below : List Frame) (meth : Method) (c : Code) (A : Nat → Addr) (n0 : Nat) (h : Heap), Cx p s m meth c Z y.cls bytes maxL ret y.name → OkR p l e rm s m (as.map (cv A)).toArray below meth c Z C fs n0 h (FM Z C fs A w h g) A w 0 0 0 (entL as maxL) [] σ t) :
    ∀ x, t = some x → Con l Z C fs y bytes maxL ret rm w as σ (g x).1 (g x).2 :=
  fun x ht A n0 h ws W N => am_met pn ht W N fun p e s m below meth c hc => H p e s m below meth c A n0 h hc
def SubW (wc w : Nat → Option CD) : Prop := (∀ k d, wc k = some d → w k = some d) ∧ ∀ k d, w k = some d → wc k = some d ∨ wrb d = false
theorem SubW.refl (w : Nat → Option CD) : SubW w w := ⟨fun _ _ h => h, fun _ _ h => Or.inl h⟩
theorem SubW.wd {wc : Nat → Option CD} {h : Heap} (S : SubW wc w) (W : Wd Z C fs h A w σ) : Wd Z C fs h A wc σ := ⟨fun k d q => W.1 k d (S.1 k d q), fun k k' d d' q q' => W.2 k k' d d' (S.1 k d q) (S.1 k' d' q')⟩
theorem SubW.back {wc : Nat → Option CD} {h h' : Heap} (S : SubW wc w) (W : Wd Z C fs h A w σ) (W' : Wd Z C fs h' A wc σ') (O : Out h h' A wc) : Wd Z C fs h' A w σ' := by
  refine ⟨fun k d q => ?_, W.2⟩
  rcases S.2 k d q with z | z
  · exact W'.1 k d z
  · rcases d with q' | ⟨ty, n, o⟩
    · cases z
    · cases o with
      | none => cases z
      | some f =>
        obtain ⟨cl, a1, a2, a3⟩ := W.1 k _ q
        have := O.2 (A k) cl a1.1 fun k' d' q1 q2 e => by
          have := W.2 _ _ _ _ (S.1 _ _ q1) q e
          subst this
          have := S.1 _ _ q1
          rw [q] at this; cases this; cases q2
        exact ⟨cl, ⟨this, a1.2⟩, a2, a3⟩
theorem Out.trans' {wc : Nat → Option CD} {h h' : Heap} (S : SubW wc w) (O : Out h0 h A w) (O' : Out h h' A wc) : Out h0 h' A w := ⟨Nat.le_trans O.1 O'.1, fun b c q n => O'.2 b c (O.2 b c q n) fun k d q1 q2 => n k d (S.1 k d q1) q2⟩
def notMH (y : MethodName) : Prop := y.cls ≠ "java/lang/invoke/MethodHandle" ∧ y.cls ≠ "java/lang/invoke/VarHandle"
def LkP (Z : State) (a0 : Array Value) (own : String) (i : Nat) (y : MethodName) (b : ByteArray) (mL : Nat) (rt : Option FieldType) : Prop := (Cond.methodLink own i y).before a0 Z = true ∧ (Cond.instanceMethod y).before a0 Z = true ∧ (Cond.code y b mL rt).before a0 Z = true ∧ (Cond.initialized y.cls).before a0 Z = true ∧ notMH y ∧ (Cond.privateMethod y).before a0 Z = true
def LkV (Z : State) (a0 : Array Value) (own : String) (i : Nat) (y : MethodName) (b : ByteArray) (mL : Nat) (rt : Option FieldType) : Prop := (Cond.methodLink own i y).before a0 Z = true ∧ (Cond.instanceMethod y).before a0 Z = true ∧ (Cond.code y b mL rt).before a0 Z = true ∧ (Cond.initialized y.cls).before a0 Z = true ∧ notMH y ∧ (Cond.declares y).before a0 Z = true ∧ (Cond.selects y.cls y y).before a0 Z = true
def LkS (Z : State) (a0 : Array Value) (own : String) (i : Nat) (y : MethodName) (b : ByteArray) (mL : Nat) (rt : Option FieldType) : Prop := (Cond.methodLink own i y).before a0 Z = true ∧ (Cond.static y).before a0 Z = true ∧ (Cond.code y b mL rt).before a0 Z = true ∧ (Cond.initialized y.cls).before a0 Z = true ∧ notMH y
def arity (d : String) (n : Nat) : Bool := match parseMethodDescriptor d with
  | some sig => sig.parameters.length == n
  | none => true
theorem arity_ok {d : String} {n : Nat} {L : List Value} (h : arity d n = true) (hl : L.length = n) : ∀ sig, parseMethodDescriptor d = some sig → L.length = sig.parameters.length := fun sig q => by
  simp only [arity, q, beq_iff_eq] at h; omega
def catS (l : List Value) : Nat := (l.map fun v => v.category).sum
theorem catS_map (A : Nat → Addr) (l : List Value) : ((l.map (cv A)).map fun v => v.category).sum = catS l := by
  unfold catS; rw [List.map_map]; congr 1; apply List.map_congr_left; intro v _; exact cv_cat A v
theorem am_callP {y : MethodName} {b : ByteArray} {mL i : Nat} {rt : Option FieldType} {rm : Room} {wc : Nat → Option CD} {argsL rest : List Value} {β : Type} {g : β → Option Value × Sg} {u : Option β} {K : β → Option α} {W0 : Nat} {k q : Nat} (hk : wc k = some (.inl q)) (hl : LkP Z a0 own i y b mL rt) (hyc : y.cls = C) (wi : (Cond.instantiable C kk).before a0 Z = true) (hd : decode bytes pc = .ok (.invokevirtual i, 3)) (hc : Cx p s m meth c Z own bytes maxL ret mn) (hS : SubW wc w) (hst : St = argsL.reverse ++ .ref k :: rest) (har : arity y.desc argsL.length = true)
    (hcon : ∀ x, u = some x → Con l Z C fs y b mL rt rm wc (.ref k :: argsL) σ (g x).1 (g x).2) (hm : Ls.length = maxL) (hrm : rm.frames + 1 ≤ R.frames ∧ W0 + (mL + 11) + rm.locals ≤ R.locals ∧ catS rest ≤ W0 ∧ rm.cells = 0 ∧ rm.slots = 0 ∧ cells ≤ R.cells ∧ slots ≤ R.slots)
    (κ : ∀ x, u = some x → OkR p l e R s m args below meth c Z C fs n0 h0 F A w cells slots (pc + 3) Ls ((g x).1.toList ++ rest) (g x).2 (K x)) : OkR p l e R s m args below meth c Z C fs n0 h0 F A w cells slots pc Ls St σ (u.bind K) := by
  subst hst
  intro x' hx T locs rl X W O N f L
  obtain ⟨r1, r2, r3, r4, r5, r6, r7⟩ := hrm
  cases hu : u with
  | none => rw [hu] at hx; cases hx
  | some y0 =>
    rw [hu] at hx
    have hx' : K y0 = some x' := hx
    have Wc := hS.wd W
    have Nc : Nw n0 A wc := fun k d q1 q2 => N k d (hS.1 k d q1) q2
    have hM := hcon y0 hu A n0 T.heap [] Wc Nc
    have hB := backOf (h := T.heap) (Q := fun v h' L => (v = Option.map (cv A) (g y0).1 ∧ Wd Z C fs h' A wc (g y0).2 ∧ Out T.heap h' A wc) ∧ Fr n0 L) (W := W0) (R := R) (p := p) (e := e) (below := below) (s := s) (args := args) (len := 3) hM hc.2.1 hl.2.2.1 hl.2.2.2.1 r1 r2
    have hsz : (mkF m pc rl.toArray (List.map (cv A) (argsL.reverse ++ .ref k :: rest))).locals.size = c.maxLocals := by show rl.toArray.size = _; rw [List.size_toArray, L.1, hm, hc.2.2.2.2.1]
    obtain ⟨cc, kc, i1, i2, -, i4, -⟩ := Cond.instantiable_spec (mv (args := #[]) hc.2.1 wi)
    have hsel := selects_self_of_private (s := s) (args := args) (y := y) (by rw [hyc]; exact i1) i2 (Bool.or_eq_false_iff.mp i4).1 (Cond.privateMethod_at (mvP hc.2.1 hl.2.2.2.2.2 (args := #[]))) (mv hc.2.1 hl.2.1) hl.2.2.2.2.1
    obtain ⟨cl, q1, q2⟩ := (Wc.1 k _ hk).1.cell
    obtain ⟨v, _, ⟨T1, L1, k1, n1⟩, -, X1, ⟨Lc, hQ, l1, c1, s1⟩, st⟩ := X.privateBack hc.1 hc.2.2.2.1 (mv hc.2.1 hl.1) (mv hc.2.1 hl.2.1) hsel (Cond.privateMethod_at (mvP hc.2.1 hl.2.2.2.2.2 (args := #[]))) (mv hc.2.1 hl.2.2.1) hl.2.2.2.2.1 hB (g := mkF m pc rl.toArray (List.map (cv A) (argsL.reverse ++ .ref k :: rest))) rfl hsz (Steps.refl _) (a := A k) q1 q2 (argsL := argsL.map (cv A)) (rest := rest.map (cv A)) (arity_ok har (by simp)) (by simp [cv]) (by show 2 * 0 + _ ≤ W0; rw [catS_map]; omega) (hb hc.2.2.1 hd) (fun _ _ => ⟨by simp [cv], rfl, by dsimp only [Pt.cells]; omega, by dsimp only [Pt.slots]; omega⟩)
    dsimp only [Pt.U, Pt.locs, Pt.cells, Pt.slots] at X1 l1 c1 s1 st hQ
    obtain ⟨⟨v1, W1, O1⟩, N1⟩ := hQ
    rw [r4, Nat.add_zero] at c1
    rw [r5, Nat.add_zero] at s1
    subst l1 c1 s1
    obtain ⟨s₂, o', st2, r⟩ := κ y0 hu x' hx' T1 _ rl X1 (hS.back W W1 O1) (Out.trans' hS O O1) N (Fr.app f N1) L
    have ev : (g y0).1.map (cv A) = v := v1.symm
    have e3 : List.map (cv A) ((g y0).1.toList ++ rest) = v.toList ++ rest.map (cv A) := by rw [List.map_append, ← ev]; cases (g y0).1 <;> rfl
    rw [e3] at st2
    exact ⟨s₂, o', st.trans st2, r⟩
theorem am_callV {y : MethodName} {b : ByteArray} {mL i : Nat} {rt : Option FieldType} {rm : Room} {wc : Nat → Option CD} {argsL rest : List Value} {β : Type} {g : β → Option Value × Sg} {u : Option β} {K : β → Option α} {W0 : Nat} {k q : Nat} (hk : wc k = some (.inl q)) (hl : LkV Z a0 own i y b mL rt) (hyc : y.cls = C) (hd : decode bytes pc = .ok (.invokevirtual i, 3)) (hc : Cx p s m meth c Z own bytes maxL ret mn) (hS : SubW wc w) (hst : St = argsL.reverse ++ .ref k :: rest) (har : arity y.desc argsL.length = true)
    (hcon : ∀ x, u = some x → Con l Z C fs y b mL rt rm wc (.ref k :: argsL) σ (g x).1 (g x).2) (hm : Ls.length = maxL) (hrm : rm.frames + 1 ≤ R.frames ∧ W0 + (mL + 11) + rm.locals ≤ R.locals ∧ catS rest ≤ W0 ∧ rm.cells = 0 ∧ rm.slots = 0 ∧ cells ≤ R.cells ∧ slots ≤ R.slots)
    (κ : ∀ x, u = some x → OkR p l e R s m args below meth c Z C fs n0 h0 F A w cells slots (pc + 3) Ls ((g x).1.toList ++ rest) (g x).2 (K x)) : OkR p l e R s m args below meth c Z C fs n0 h0 F A w cells slots pc Ls St σ (u.bind K) := by
  subst hst
  intro x' hx T locs rl X W O N f L
  obtain ⟨r1, r2, r3, r4, r5, r6, r7⟩ := hrm
  cases hu : u with
  | none => rw [hu] at hx; cases hx
  | some y0 =>
    rw [hu] at hx
    have hx' : K y0 = some x' := hx
    have Wc := hS.wd W
    have Nc : Nw n0 A wc := fun k d q1 q2 => N k d (hS.1 k d q1) q2
    have hM := hcon y0 hu A n0 T.heap [] Wc Nc
    have hB := backOf (h := T.heap) (Q := fun v h' L => (v = Option.map (cv A) (g y0).1 ∧ Wd Z C fs h' A wc (g y0).2 ∧ Out T.heap h' A wc) ∧ Fr n0 L) (W := W0) (R := R) (p := p) (e := e) (below := below) (s := s) (args := args) (len := 3) hM hc.2.1 hl.2.2.1 hl.2.2.2.1 r1 r2
    have hsz : (mkF m pc rl.toArray (List.map (cv A) (argsL.reverse ++ .ref k :: rest))).locals.size = c.maxLocals := by show rl.toArray.size = _; rw [List.size_toArray, L.1, hm, hc.2.2.2.2.1]
    obtain ⟨cB, kB, q1, q2, q3⟩ := isOf (T := T) hc.2.1 rfl (Wc.1 k _ hk).1
    obtain ⟨v, _, ⟨T1, L1, k1, n1⟩, -, X1, ⟨Lc, hQ, l1, c1, s1⟩, st⟩ := X.virtualBack hc.1 (C := y.cls) (y := y) (z := y) hc.2.2.2.1 (mv hc.2.1 hl.1) (mv hc.2.1 hl.2.2.2.2.2.1) (notFace_of_selects (args := #[]) (mv hc.2.1 hl.2.2.2.2.2.2)) (mv hc.2.1 hl.2.2.2.2.2.2) (mv hc.2.1 hl.2.1) hl.2.2.2.2.1 hB (by rw [hyc]; exact q1) q3 (g := mkF m pc rl.toArray (List.map (cv A) (argsL.reverse ++ .ref k :: rest))) rfl hsz (Steps.refl _) (argsL := argsL.map (cv A)) (rest := rest.map (cv A)) (arity_ok har (by simp)) (by simp [cv]) (by show 2 * 0 + _ ≤ W0; rw [catS_map]; omega) (hb hc.2.2.1 hd) (fun _ _ => ⟨by simp [cv], rfl, by dsimp only [Pt.cells]; omega, by dsimp only [Pt.slots]; omega⟩)
    dsimp only [Pt.U, Pt.locs, Pt.cells, Pt.slots] at X1 l1 c1 s1 st hQ
    obtain ⟨⟨v1, W1, O1⟩, N1⟩ := hQ
    rw [r4, Nat.add_zero] at c1
    rw [r5, Nat.add_zero] at s1
    subst l1 c1 s1
    obtain ⟨s₂, o', st2, r⟩ := κ y0 hu x' hx' T1 _ rl X1 (hS.back W W1 O1) (Out.trans' hS O O1) N (Fr.app f N1) L
    have ev : (g y0).1.map (cv A) = v := v1.symm
    have e3 : List.map (cv A) ((g y0).1.toList ++ rest) = v.toList ++ rest.map (cv A) := by rw [List.map_append, ← ev]; cases (g y0).1 <;> rfl
    rw [e3] at st2
    exact ⟨s₂, o', st.trans st2, r⟩
theorem am_callS {y : MethodName} {b : ByteArray} {mL i : Nat} {rt : Option FieldType} {rm : Room} {wc : Nat → Option CD} {argsL rest : List Value} {β : Type} {g : β → Option Value × Sg} {u : Option β} {K : β → Option α} {W0 : Nat} (hl : LkS Z a0 own i y b mL rt) (hd : decode bytes pc = .ok (.invokestatic i, 3)) (hc : Cx p s m meth c Z own bytes maxL ret mn) (hS : SubW wc w) (hst : St = argsL.reverse ++ rest) (har : arity y.desc argsL.length = true)
    (hcon : ∀ x, u = some x → Con l Z C fs y b mL rt rm wc argsL σ (g x).1 (g x).2) (hm : Ls.length = maxL) (hrm : rm.frames + 1 ≤ R.frames ∧ W0 + (mL + 11) + rm.locals ≤ R.locals ∧ catS rest ≤ W0 ∧ rm.cells = 0 ∧ rm.slots = 0 ∧ cells ≤ R.cells ∧ slots ≤ R.slots)
    (κ : ∀ x, u = some x → OkR p l e R s m args below meth c Z C fs n0 h0 F A w cells slots (pc + 3) Ls ((g x).1.toList ++ rest) (g x).2 (K x)) : OkR p l e R s m args below meth c Z C fs n0 h0 F A w cells slots pc Ls St σ (u.bind K) := by
  subst hst
  intro x' hx T locs rl X W O N f L
  obtain ⟨r1, r2, r3, r4, r5, r6, r7⟩ := hrm
  cases hu : u with
  | none => rw [hu] at hx; cases hx
  | some y0 =>
    rw [hu] at hx
    have hx' : K y0 = some x' := hx
    have Wc := hS.wd W
    have Nc : Nw n0 A wc := fun k d q1 q2 => N k d (hS.1 k d q1) q2
    have hM := hcon y0 hu A n0 T.heap [] Wc Nc
    have hB := backOf (h := T.heap) (Q := fun v h' L => (v = Option.map (cv A) (g y0).1 ∧ Wd Z C fs h' A wc (g y0).2 ∧ Out T.heap h' A wc) ∧ Fr n0 L) (W := W0) (R := R) (p := p) (e := e) (below := below) (s := s) (args := args) (len := 3) hM hc.2.1 hl.2.2.1 hl.2.2.2.1 r1 r2
    have hsz : (mkF m pc rl.toArray (List.map (cv A) (argsL.reverse ++ rest))).locals.size = c.maxLocals := by show rl.toArray.size = _; rw [List.size_toArray, L.1, hm, hc.2.2.2.2.1]
    obtain ⟨v, _, ⟨T1, L1, k1, n1⟩, -, X1, ⟨Lc, hQ, l1, c1, s1⟩, st⟩ := Jvm.LawKit.callS X hc.1 (y := y) hc.2.2.2.1 (mv hc.2.1 hl.1) (mv hc.2.1 hl.2.1) (mv hc.2.1 hl.2.2.2.1) (mv hc.2.1 hl.2.2.1) hl.2.2.2.2 hB (g := mkF m pc rl.toArray (List.map (cv A) (argsL.reverse ++ rest))) rfl hsz (argsL := argsL.map (cv A)) (rest := rest.map (cv A)) (arity_ok har (by simp)) (by simp) (by show 2 * 0 + _ ≤ W0; rw [catS_map]; omega) (hb hc.2.2.1 hd) (fun _ _ => ⟨by simp [cv], rfl, by dsimp only [Pt.cells]; omega, by dsimp only [Pt.slots]; omega⟩)
    dsimp only [Pt.U, Pt.locs, Pt.cells, Pt.slots] at X1 l1 c1 s1 st hQ
    obtain ⟨⟨v1, W1, O1⟩, N1⟩ := hQ
    rw [r4, Nat.add_zero] at c1
    rw [r5, Nat.add_zero] at s1
    subst l1 c1 s1
    obtain ⟨s₂, o', st2, r⟩ := κ y0 hu x' hx' T1 _ rl X1 (hS.back W W1 O1) (Out.trans' hS O O1) N (Fr.app f N1) L
    have ev : (g y0).1.map (cv A) = v := v1.symm
    have e3 : List.map (cv A) ((g y0).1.toList ++ rest) = v.toList ++ rest.map (cv A) := by rw [List.map_append, ← ev]; cases (g y0).1 <;> rfl
    rw [e3] at st2
    exact ⟨s₂, o', st _ st2, r⟩

/-! making the object -/
def nrV (ok : Nat → Bool) : Value → Bool
  | .ref k => ok k
  | _ => true
def nrS (ok : Nat → Bool) : Slot → Bool
  | .val v => nrV ok v
  | _ => true
theorem nrV_cv {ok : Nat → Bool} {A' : Nat → Addr} (hA : ∀ k, ok k = true → A' k = A k) {v : Value} (h : nrV ok v = true) : cv A' v = cv A v := by
  cases v <;> first | rfl | (simp only [cv]; rw [hA _ h])
theorem nr_map {ok : Nat → Bool} {A' : Nat → Addr} (hA : ∀ k, ok k = true → A' k = A k) : ∀ {St : List Value}, St.all (nrV ok) = true → St.map (cv A') = St.map (cv A)
  | [], _ => rfl
  | v :: r, h => by
    rw [List.all_cons, Bool.and_eq_true] at h
    rw [List.map_cons, List.map_cons, nrV_cv hA h.1, nr_map hA h.2]
theorem nr_ls {ok : Nat → Bool} {A' : Nat → Addr} {rl : List Slot} (hA : ∀ k, ok k = true → A' k = A k) (h : Ls.all (nrS ok) = true) (L : LsOk A Ls rl) : LsOk A' Ls rl := by
  refine ⟨L.1, L.2.1, fun k v q => ?_⟩
  have := List.all_eq_true.mp h _ (List.mem_of_getElem? q)
  rw [nrV_cv hA this]; exact L.2.2 k v q
def wK (arrs : List (FieldType × Nat)) (a q : Nat) : Nat → Option CD
  | 0 => some (.inl q)
  | k + 1 => if k < a then (arrs[k]?).map fun x => .inr (x.1, x.2, none) else none
def AE (h0 : Heap) (A0 A : Nat → Addr) (a : Nat) : Prop := A 0 = A0 0 ∧ ∀ k, 1 ≤ k → k ≤ a → h0.size ≤ A k
def FI (Z : State) (C : String) (fs : FS) (arrs : List (FieldType × Nat)) (A0 : Nat → Addr) (h0 : Heap) : Sg → Option Value → Heap → Prop := fun σ v h => v = none ∧ ∃ A : Nat → Addr, AE h0 A0 A arrs.length ∧ Wd Z C fs h A (wK arrs arrs.length arrs.length) σ ∧ h0.size ≤ h.size ∧ ∀ (b : Addr) (c : Cell), h0[b]? = some c → b ≠ A0 0 → h[b]? = some c
theorem FI_of {arrs : List (FieldType × Nat)} {A0 : Nat → Addr} (hA : AE h0 A0 A arrs.length) (h : Heap) (W : Wd Z C fs h A (wK arrs arrs.length arrs.length) σ) (O : Out h0 h A (wK arrs arrs.length arrs.length)) : FI Z C fs arrs A0 h0 σ none h := by
  refine ⟨rfl, A, hA, W, O.1, fun b c q ne => O.2 b c q fun k d z1 z2 z3 => ?_⟩
  cases k with
  | zero => exact ne (z3.symm.trans hA.1)
  | succ k =>
    have : k < arrs.length := by simp only [wK] at z1; split at z1 <;> first | assumption | cases z1
    have := hA.2 (k + 1) (by omega) (by omega)
    have := (Array.getElem?_eq_some_iff.mp q).1
    have z3 : @Eq Nat _ _ := z3
    omega
theorem am_objinit {k i W0 : Nat} (hd : decode bytes pc = .ok (.invokespecial i, 3)) (hc : Cx p s m meth c Z own bytes maxL ret mn) (w1 : (Cond.methodLink own i Lib.objectInit).before a0 Z = true) (w2 : (Cond.instanceMethod Lib.objectInit).before a0 Z = true) (w3 : (Cond.code Lib.objectInit ⟨#[0xb1]⟩ 1 none).before a0 Z = true) (hm : Ls.length = maxL) (hR : 1 ≤ R.frames ∧ W0 + 12 ≤ R.locals ∧ catS St ≤ W0)
    (κ : OkR p l e R s m args below meth c Z C fs n0 h0 F A w cells slots (pc + 3) Ls St σ t) : OkR p l e R s m args below meth c Z C fs n0 h0 F A w cells slots pc Ls (.ref k :: St) σ t := by
  intro x' hx T locs rl X W O N f L
  obtain ⟨T', X', e', st⟩ := initO X hc.1 hc.2.1 hc.2.2.2.1 w1 w2 w3 rfl (g := mkF m pc rl.toArray (.ref (A k) :: St.map (cv A))) rfl (by show rl.toArray.size = _; rw [List.size_toArray, L.1, hm, hc.2.2.2.2.1]) rfl (hb hc.2.2.1 hd) hR.1 (W := W0) (by show 2 * 0 + _ ≤ W0; rw [catS_map]; omega) hR.2.1
  obtain ⟨s₂, o', st2, r⟩ := κ x' hx T' locs rl X' (by rw [e']; exact W) (by rw [e']; exact O) N f L
  exact ⟨s₂, o', st _ st2, r⟩
theorem am_newarr {arrs : List (FieldType × Nat)} {A0 : Nat → Addr} {a n : Nat} {aty : ArrayType} {i : Int32} (hd : decode bytes pc = .ok (.newarray aty, 2)) (hc : Cx p s m meth c Z own bytes maxL ret mn) (wa : (Cond.arrayClass (newarray.typeOf aty)).before a0 Z = true) (ha : arrs[a]? = some (newarray.typeOf aty, n)) (hi : i.toInt = (n : Int)) (hdef : defaultValue (newarray.typeOf aty) = ae zs (a + 1) 0 (newarray.typeOf aty)) (hnr : Ls.all (nrS fun k => k != a + 1) = true ∧ St.all (nrV fun k => k != a + 1) = true) (hAE : AE h0 A0 A a) (hn : n0 ≤ h0.size) (hR : n * 8 ≤ 536870912 ∧ cells + 1 ≤ R.cells ∧ slots + n ≤ R.slots)
    (κ : ∀ A' : Nat → Addr, AE h0 A0 A' (a + 1) → OkR p l e R s m args below meth c Z C fs n0 h0 F A' (wK arrs (a + 1) a) (cells + 1) (slots + n) (pc + 2) Ls (.ref (a + 1) :: St) zs t) : OkR p l e R s m args below meth c Z C fs n0 h0 F A (wK arrs a a) cells slots pc Ls (.int i :: St) zs t := by
  intro x' hx T locs rl X W O N f L
  have hnx : i.toNatClampNeg = n := by show i.toInt.toNat = n; omega
  obtain ⟨T', h', cA, X', e', E, Ar, st⟩ := newP X hc.1 hc.2.1 wa rfl (g := mkF m pc rl.toArray (.int i :: St.map (cv A))) rfl (hb hc.2.2.1 hd) rfl (fun q => by rw [Int32.lt_iff_toInt_lt] at q; have : (0 : Int32).toInt = 0 := rfl; omega) (cap := n) (by omega) hR.1 hR.2.1 hR.2.2
  subst e'
  obtain ⟨A', hA'⟩ : ∃ A' : Nat → Addr, A' = fun k => if k = a + 1 then T.heap.size else A k := ⟨_, rfl⟩
  have hA1 : A' (a + 1) = T.heap.size := by rw [hA']; simp
  have hA2 : ∀ k, (k != a + 1) = true → A' k = A k := fun k q => by rw [hA']; simp only []; rw [if_neg (by simpa using q)]
  have hA3 : ∀ k, k ≤ a → A' k = A k := fun k q => hA2 k (by simp; omega)
  have hlt : ∀ k d, wK arrs a a k = some d → A k < T.heap.size := fun k d q => by
    have := W.1 k d q
    rcases d with q' | ⟨ty, n', o⟩
    · exact this.1.lt
    · obtain ⟨cl, a1, -⟩ := this; exact a1.lt
  have hlow : ∀ k d, wK arrs a a k = some d → k ≤ a := fun k d q => by
    cases k with
    | zero => omega
    | succ k => simp only [wK] at q; split at q <;> first | omega | cases q
  have hold : ∀ k d, wK arrs (a + 1) a k = some d → k ≠ a + 1 → wK arrs a a k = some d := fun k d q ne => by
    cases k with
    | zero => exact q
    | succ k =>
      simp only [wK] at q ⊢
      split at q
      · rw [if_pos (by omega)]; exact q
      · cases q
  have W' : Wd Z C fs T'.heap A' (wK arrs (a + 1) a) zs := by
    refine ⟨fun k d q => ?_, fun k k' d d' q q' z => ?_⟩
    · by_cases ek : k = a + 1
      · subst ek
        simp only [wK, Nat.lt_succ_self, if_true, ha, Option.map_some, Option.some.injEq] at q
        subst q
        refine ⟨_, by rw [hA1]; exact Ar, by rw [sz_new]; exact hnx, fun j hj => ?_⟩
        have e1 : aeo zs (a + 1) j (newarray.typeOf aty) none = defaultValue (newarray.typeOf aty) := by rw [hdef]; cases aty <;> rfl
        rw [e1]
        simp [newA, hnx, hj]
      · have hq := hold k d q ek
        have := W.1 k d hq
        have ek' := hA3 k (hlow k d hq)
        rcases d with q' | ⟨ty, n', o⟩
        · refine ⟨by rw [ek']; exact this.1.ext E, fun j n d cd hj => ?_⟩
          have F := this.2 j n d cd hj
          rw [ek']
          have e1 : cv A' (fv zs k j q' cd) = cv A (fv zs k j q' cd) := by
            refine nrV_cv hA2 ?_
            match cd with
            | 0 => rfl
            | 1 => rfl
            | r + 2 =>
              cases k with
              | zero =>
                simp only [wK, Option.some.injEq, Sum.inl.injEq] at hq
                subst hq
                simp only [fv]
                split
                · simp [nrV]; omega
                · rfl
              | succ k => simp only [wK] at hq; split at hq <;> first | cases hq | (rw [Option.map_eq_some_iff] at hq; obtain ⟨_, -, z⟩ := hq; cases z)
          rw [e1]; exact F.ext E
        · obtain ⟨cl, a1, a2, a3⟩ := this
          exact ⟨cl, by rw [ek']; exact a1.ext E, a2, a3⟩
    · by_cases ek : k = a + 1 <;> by_cases ek2 : k' = a + 1
      · omega
      · subst ek
        have := hlt k' d' (hold k' d' q' ek2)
        rw [hA1, hA2 k' (by simpa using ek2)] at z
        have z : @Eq Nat _ _ := z
        have this : @LT.lt Nat _ _ _ := this
        omega
      · subst ek2
        have := hlt k d (hold k d q ek)
        rw [hA1, hA2 k (by simpa using ek)] at z
        have z : @Eq Nat _ _ := z
        have this : @LT.lt Nat _ _ _ := this
        omega
      · rw [hA2 k (by simpa using ek), hA2 k' (by simpa using ek2)] at z
        exact W.2 k k' d d' (hold k d q ek) (hold k' d' q' ek2) z
  have hin : ∀ k d, wK arrs a a k = some d → wK arrs (a + 1) a k = some d := fun k d q => by
    cases k with
    | zero => exact q
    | succ k =>
      simp only [wK] at q ⊢
      split at q
      · rw [if_pos (by omega)]; exact q
      · cases q
  have O' : Out h0 T'.heap A' (wK arrs (a + 1) a) := ⟨Nat.le_trans O.1 E.1, fun b c q z => E.2 _ _ (O.2 b c q fun k d q1 q2 => by
    rw [← hA3 k (hlow k d q1)]; exact z k d (hin k d q1) q2)⟩
  have N' : Nw n0 A' (wK arrs (a + 1) a) := fun k d q1 q2 => by
    by_cases ek : k = a + 1
    · subst ek; rw [hA1]; exact Nat.le_trans hn O.1
    · rw [hA2 k (by simpa using ek)]; exact N k d (hold k d q1 ek) q2
  have hAE' : AE h0 A0 A' (a + 1) := ⟨by rw [hA3 0 (by omega)]; exact hAE.1, fun k k1 k2 => by
    by_cases ek : k = a + 1
    · subst ek; rw [hA1]; exact O.1
    · rw [hA2 k (by simpa using ek)]; exact hAE.2 k k1 (by omega)⟩
  obtain ⟨s₂, o', st2, r⟩ := κ A' hAE' x' hx T' locs rl X' W' O' N' f (nr_ls hA2 hnr.1 L)
  have e2 : List.map (cv A') (.ref (a + 1) :: St) = .ref T.heap.size :: St.map (cv A) := by
    rw [List.map_cons, nr_map hA2 hnr.2]; simp only [cv]; rw [hA1]
  rw [e2] at st2
  exact ⟨s₂, o', st _ st2, r⟩
def uqc (cd j : Nat) : Nat → FS → Bool
  | _, [] => true
  | i, x :: r => (x.2.2 != cd || i == j) && uqc cd j (i + 1) r
theorem uqc_ok {cd j : Nat} : ∀ {fs : FS} {i : Nat}, uqc cd j i fs = true → ∀ j' x, fs[j']? = some x → x.2.2 = cd → i + j' = j
  | [], i, _, j', x, h, _ => by simp at h
  | y :: r, i, hu, j', x, h, e => by
    simp only [uqc, Bool.and_eq_true] at hu
    cases j' with
    | zero =>
      simp at h; subst h
      have := hu.1
      simp [e] at this; omega
    | succ j' =>
      rw [List.getElem?_cons_succ] at h
      have := uqc_ok hu.2 j' x h e
      omega
theorem am_putref {arrs : List (FieldType × Nat)} {a j i : Nat} {n d : String} (hd : decode bytes pc = .ok (.putfield i, 3)) (hc : Cx p s m meth c Z own bytes maxL ret mn) (hF : FsOk Z a0 C fs) (wi : (Cond.instantiable C kk).before a0 Z = true) (hfs : fs[j]? = some (n, d, a + 2)) (hu : uqc (a + 2) j 0 fs = true) (wl : (Cond.fieldLink own i C n d).before a0 Z = true) (hL : Lay1 Z a0 C own mn n d)
    (κ : OkR p l e R s m args below meth c Z C fs n0 h0 F A (wK arrs (a + 1) (a + 1)) cells slots (pc + 3) Ls St zs t) : OkR p l e R s m args below meth c Z C fs n0 h0 F A (wK arrs (a + 1) a) cells slots pc Ls (.ref (a + 1) :: .ref 0 :: St) zs t := by
  intro x' hx T locs rl X W O N f L
  have hk : wK arrs (a + 1) a 0 = some (.inl a) := rfl
  have hO := W.1 0 _ hk
  have Fd := hO.2 j n d (a + 2) hfs
  obtain ⟨hlaid, ⟨ty, hty, -, -, t2⟩, hinj⟩ := hF j n d (a + 2) hfs
  obtain ⟨ty', rfl⟩ := t2 (by omega)
  have hL' : (Cond.lays C C n d).before a0 Z = true ∨ ((Cond.laysFinal C C n d).before a0 Z = true ∧ own = C ∧ meth.name = "<init>") := hL.imp id fun q => ⟨q.1, q.2.1, hc.2.2.2.2.2.2.2.trans q.2.2⟩
  obtain ⟨T', h', X', e', Q, st'⟩ := putF X hc.1 hc.2.1 hc.2.2.2.1 (host := "") (Or.inl wl) Via.refl rfl Fd hO.1 hL' wi (v := .ref (A (a + 1))) hty rfl rfl (g := mkF m pc rl.toArray (.ref (A (a + 1)) :: .ref (A 0) :: St.map (cv A))) rfl rfl (hb hc.2.2.1 hd)
  subst e'
  have hsame : ∀ k d, wK arrs (a + 1) (a + 1) k = some d → k ≠ 0 → wK arrs (a + 1) a k = some d := fun k d q ne => by
    cases k with
    | zero => exact absurd rfl ne
    | succ k => exact q
  have hsame' : ∀ k d, wK arrs (a + 1) a k = some d → k ≠ 0 → wK arrs (a + 1) (a + 1) k = some d := fun k d q ne => by
    cases k with
    | zero => exact absurd rfl ne
    | succ k => exact q
  have W1 : Wd Z C fs T'.heap A (wK arrs (a + 1) (a + 1)) zs := by
    refine ⟨fun k d' q => ?_, fun k k' d d' q q' z => ?_⟩
    · by_cases ek : k = 0
      · subst ek
        simp only [wK, Option.some.injEq] at q
        subst q
        refine ⟨hO.1.wr Q, fun j' n' d' cd' hj' => ?_⟩
        by_cases ej : j' = j
        · subst ej
          rw [hfs] at hj'; cases hj'
          have e1 : cv A (fv zs 0 j' (a + 1) (a + 2)) = .ref (A (a + 1)) := by simp [fv, cv]
          rw [e1]
          exact Fd.same Q
        · obtain ⟨hlaid', ⟨ty', hty', -⟩, -⟩ := hF j' n' d' cd' hj'
          have e1 : fv zs 0 j' (a + 1) cd' = fv zs 0 j' a cd' := by
            match cd', hj' with
            | 0, _ => rfl
            | 1, _ => rfl
            | r + 2, hj' =>
              have : r ≠ a := fun e => ej (by subst e; have := uqc_ok hu j' _ hj' rfl; omega)
              simp only [fv]
              by_cases q : r < a
              · rw [if_pos q, if_pos (by omega)]
              · rw [if_neg q, if_neg (by omega)]
          rw [e1]
          exact (hO.2 j' n' d' cd' hj').other Q (Or.inr (slot_ne hlaid' hlaid (fun q => ej (hinj _ _ _ _ hj' q.symm).symm) hty' hty))
      · have hq := hsame k d' q ek
        have ne : A k ≠ A 0 := fun z => ek (W.2 _ _ _ _ hq hk z)
        have := W.1 k d' hq
        rcases d' with q' | ⟨ty, n', o⟩
        · cases k with
          | zero => exact absurd rfl ek
          | succ k => simp only [wK] at q; split at q <;> first | cases q | (rw [Option.map_eq_some_iff] at q; obtain ⟨_, -, z⟩ := q; cases z)
        · obtain ⟨cl, a1, a2, a3⟩ := this
          exact ⟨cl, a1.other Q ne, a2, a3⟩
    · by_cases e1 : k = 0 <;> by_cases e2 : k' = 0
      · omega
      · subst e1; exact W.2 _ _ _ _ hk (hsame k' d' q' e2) z
      · subst e2; exact W.2 _ _ _ _ (hsame k d q e1) hk z
      · exact W.2 _ _ _ _ (hsame k d q e1) (hsame k' d' q' e2) z
  have O1 := O.write hk rfl Q
  have O' : Out h0 T'.heap A (wK arrs (a + 1) (a + 1)) := ⟨O1.1, fun b c q z => O1.2 b c q fun k d q1 q2 => by
    by_cases ek : k = 0
    · subst ek; exact z 0 _ rfl rfl
    · exact z k d (hsame' k d q1 ek) q2⟩
  have N' : Nw n0 A (wK arrs (a + 1) (a + 1)) := fun k d q1 q2 => by
    by_cases ek : k = 0
    · subst ek; exact N 0 _ hk rfl
    · exact N k d (hsame k d q1 ek) q2
  obtain ⟨s₂, o', st2, r⟩ := κ x' hx T' _ rl X' W1 O' N' (Fr.snoc X' f (N 0 _ hk rfl)) L
  exact ⟨s₂, o', st' _ st2, r⟩
/-- the law's world before and after the object is made; w0: what it only reads -/
def wN (w0 : Nat → Option CD) : Nat → Option CD
  | 0 => some (.inl 0)
  | k + 1 => w0 (k + 1)
def wF (arrs : List (FieldType × Nat)) (w0 : Nat → Option CD) (k : Nat) : Option CD := if k ≤ arrs.length then wK arrs arrs.length arrs.length k else w0 k
def Rd (w0 : Nat → Option CD) (mm : Nat) : Prop := ∀ k d, w0 k = some d → wrb d = false ∧ mm < k
theorem am_new {nn i mm : Nat} (hd : decode bytes pc = .ok (.new i, 3)) (hc : Cx p s m meth c Z own bytes maxL ret mn) (hF : FsOk Z a0 C fs) (wl : (Cond.classLink own i C).before a0 Z = true) (wi : (Cond.instantiable C nn).before a0 Z = true) (wz : (Cond.initialized C).before a0 Z = true) (hw0 : Rd w mm) (hnr : Ls.all (nrS fun k => k != 0) = true ∧ St.all (nrV fun k => k != 0) = true) (hn : n0 ≤ h0.size) (hR : cells + 1 ≤ R.cells ∧ slots + nn ≤ R.slots)
    (κ : ∀ A' : Nat → Addr, (∀ k, k ≠ 0 → A' k = A k) → OkR p l e R s m args below meth c Z C fs n0 h0 F A' (wN w) (cells + 1) (slots + nn) (pc + 3) Ls (.ref 0 :: St) zs t) : OkR p l e R s m args below meth c Z C fs n0 h0 F A w cells slots pc Ls St σ t := by
  intro x' hx T locs rl X W O N f L
  obtain ⟨T', h', X', e', E, Ex, D, -, st⟩ := newO X hc.1 hc.2.1 hc.2.2.2.1 wl wi wz rfl (g := mkF m pc rl.toArray (St.map (cv A))) rfl (hb hc.2.2.1 hd) hR.1 hR.2
  subst e'
  obtain ⟨A', hA'⟩ : ∃ A' : Nat → Addr, A' = fun k => if k = 0 then T.heap.size else A k := ⟨_, rfl⟩
  have hA1 : A' 0 = T.heap.size := by rw [hA']; simp
  have hA2 : ∀ k, (k != 0) = true → A' k = A k := fun k q => by rw [hA']; simp only []; rw [if_neg (by simpa using q)]
  have hold : ∀ k d, wN w k = some d → k ≠ 0 → w k = some d := fun k d q ne => by
    cases k with
    | zero => exact absurd rfl ne
    | succ k => exact q
  have hlt : ∀ k d, w k = some d → A k < T.heap.size := fun k d q => by
    have := W.1 k d q
    rcases d with q' | ⟨ty, n', o⟩
    · exact this.1.lt
    · obtain ⟨cl, a1, -⟩ := this; exact a1.lt
  have W' : Wd Z C fs T'.heap A' (wN w) zs := by
    refine ⟨fun k d q => ?_, fun k k' d d' q q' z => ?_⟩
    · by_cases ek : k = 0
      · subst ek
        simp only [wN, Option.some.injEq] at q
        subst q
        rw [show CellOk Z C fs T'.heap A' zs 0 (.inl 0) = (Exa Z T'.heap (A' 0) C ∧ ∀ (j : Nat) (n d : String) (cd : Nat), fs[j]? = some (n, d, cd) → Fld Z T'.heap (A' 0) C n d (cv A' (fv zs 0 j 0 cd))) from rfl, hA1]
        refine ⟨Ex, fun j n d cd hj => ?_⟩
        obtain ⟨hlaid, ⟨ty, hty, t0, t1, t2⟩, -⟩ := hF j n d cd hj
        have := D hlaid hty
        match cd, t0, t1, t2 with
        | 0, t0, _, _ => have e := t0 rfl; subst e; exact this
        | 1, _, t1, _ => have e := t1 rfl; subst e; exact this
        | r + 2, _, _, t2 => obtain ⟨ty', rfl⟩ := t2 (by omega); exact this
      · have hq := hold k d q ek
        have := W.1 k d hq
        have e1 := hA2 k (by simpa using ek)
        rcases d with q' | ⟨ty, n', o⟩
        · have := (hw0 k _ hq).1; cases this
        · obtain ⟨cl, a1, a2, a3⟩ := this
          cases o with
          | none => have := (hw0 k _ hq).1; cases this
          | some f0 => exact ⟨cl, by rw [e1]; exact a1.ext E, a2, a3⟩
    · by_cases e1 : k = 0 <;> by_cases e2 : k' = 0
      · omega
      · subst e1
        have := hlt k' d' (hold k' d' q' e2)
        rw [hA1, hA2 k' (by simpa using e2)] at z
        have z : @Eq Nat _ _ := z
        have this : @LT.lt Nat _ _ _ := this
        omega
      · subst e2
        have := hlt k d (hold k d q e1)
        rw [hA1, hA2 k (by simpa using e1)] at z
        have z : @Eq Nat _ _ := z
        have this : @LT.lt Nat _ _ _ := this
        omega
      · rw [hA2 k (by simpa using e1), hA2 k' (by simpa using e2)] at z
        exact W.2 k k' d d' (hold k d q e1) (hold k' d' q' e2) z
  have O' : Out h0 T'.heap A' (wN w) := ⟨Nat.le_trans O.1 E.1, fun b c q z => E.2 _ _ (O.2 b c q fun k d q1 q2 => by have := (hw0 k d q1).1; rw [q2] at this; cases this)⟩
  have N' : Nw n0 A' (wN w) := fun k d q1 q2 => by
    by_cases ek : k = 0
    · subst ek; rw [hA1]; exact Nat.le_trans hn O.1
    · have := (hw0 k d (hold k d q1 ek)).1; rw [q2] at this; cases this
  obtain ⟨s₂, o', st2, r⟩ := κ A' (fun k q => hA2 k (by simpa using q)) x' hx T' locs rl X' W' O' N' f (nr_ls hA2 hnr.1 L)
  have e2 : List.map (cv A') (.ref 0 :: St) = .ref T.heap.size :: St.map (cv A) := by
    rw [List.map_cons, nr_map hA2 hnr.2]; simp only [cv]; rw [hA1]
  rw [e2] at st2
  exact ⟨s₂, o', st _ st2, r⟩
def ConI (l : Launch) (Z : State) (C : String) (fs : FS) (arrs : List (FieldType × Nat)) (y : MethodName) (bytes : ByteArray) (maxL : Nat) (rm : Room) (as : List Value) (σ' : Sg) : Prop :=
  ∀ (A : Nat → Addr) (n0 : Nat) (h : Heap) (ws : List Jvm.Cond), Wd Z C fs h A (wK arrs 0 0) zs → Nw n0 A (wK arrs 0 0) → n0 ≤ h.size →
    MetFree l y (head1 (Jvm.Cond.code y bytes maxL none :: ws) rm) (fun a U => a = ((.ref 0 :: as).map (cv A)).toArray ∧ Z.Warmed39 U.vm ∧ U.heap = h) (fun _ _ _ _ _ => True) (fun _ U o U' => ∃ v' L, o = .returned v' ∧ (FI Z C fs arrs A h σ' v' U'.heap ∧ Fr n0 L) ∧ FrameEnd U o U' L rm.cells rm.slots)
theorem am_conI {arrs : List (FieldType × Nat)} {y : MethodName} {rm : Room} {as : List Value} {t : Option Sg} (pn : plainName y.cls = true)
    (H : ∀ (p : Program) (e : Env) (s : State) (m : MethodId) (below : List Frame) (meth : Method) (c : Code) (A : Nat → Addr) (n0 : Nat) (h : Heap), n0 ≤ h.size → Cx p s m meth c Z y.cls bytes maxL none y.name → OkR p l e rm s m ((.ref 0 :: as).map (cv A)).toArray below meth c Z C fs n0 h (FI Z C fs arrs A h) A (wK arrs 0 0) 0 0 0 (entL (.ref 0 :: as) maxL) [] zs t) :
    ∀ x, t = some x → ConI l Z C fs arrs y bytes maxL rm as x :=
  fun x ht A n0 h ws W N hn => am_met pn ht W N fun p e s m below meth c hc => H p e s m below meth c A n0 h hn hc
def LkI (Z : State) (a0 : Array Value) (own : String) (i : Nat) (y : MethodName) (b : ByteArray) (mL : Nat) : Prop := (Cond.methodLink own i y).before a0 Z = true ∧ (Cond.instanceMethod y).before a0 Z = true ∧ (Cond.code y b mL none).before a0 Z = true ∧ (Cond.initialized y.cls).before a0 Z = true ∧ notMH y ∧ y.name = "<init>"
theorem am_ctor {arrs : List (FieldType × Nat)} {y : MethodName} {b : ByteArray} {mL i : Nat} {rm : Room} {argsL rest : List Value} {u : Option Sg} {K : Sg → Option α} {W0 : Nat} (hl : LkI Z a0 own i y b mL) (hd : decode bytes pc = .ok (.invokespecial i, 3)) (hc : Cx p s m meth c Z own bytes maxL ret mn) (hw0 : Rd w arrs.length) (hst : St = argsL.reverse ++ .ref 0 :: rest) (har : arity y.desc argsL.length = true)
    (hcon : ∀ x, u = some x → ConI l Z C fs arrs y b mL rm argsL x) (hnr : Ls.all (nrS fun k => k == 0 || decide (arrs.length < k)) = true ∧ rest.all (nrV fun k => k == 0 || decide (arrs.length < k)) = true) (hm : Ls.length = maxL) (hn : n0 ≤ h0.size) (hrm : rm.frames + 1 ≤ R.frames ∧ W0 + (mL + 11) + rm.locals ≤ R.locals ∧ catS rest ≤ W0 ∧ cells + rm.cells ≤ R.cells ∧ slots + rm.slots ≤ R.slots)
    (κ : ∀ (A' : Nat → Addr) (x : Sg), u = some x → OkR p l e R s m args below meth c Z C fs n0 h0 F A' (wF arrs w) (cells + rm.cells) (slots + rm.slots) (pc + 3) Ls rest x (K x)) : OkR p l e R s m args below meth c Z C fs n0 h0 F A (wN w) cells slots pc Ls St zs (u.bind K) := by
  subst hst
  intro x' hx T locs rl X W O N f L
  obtain ⟨r1, r2, r3, r4, r5⟩ := hrm
  cases hu : u with
  | none => rw [hu] at hx; cases hx
  | some y0 =>
    rw [hu] at hx
    have hx' : K y0 = some x' := hx
    have hS : SubW (wK arrs 0 0) (wN w) := by
      refine ⟨fun k d q => ?_, fun k d q => ?_⟩
      · cases k with
        | zero => exact q
        | succ k => simp only [wK] at q; split at q <;> first | omega | cases q
      · cases k with
        | zero => exact Or.inl q
        | succ k => exact Or.inr (hw0 _ _ q).1
    have hnT : n0 ≤ T.heap.size := Nat.le_trans hn O.1
    have hM := hcon y0 hu A n0 T.heap [] (hS.wd W) (fun k d q1 q2 => N k d (hS.1 k d q1) q2) hnT
    have hB := backOf (h := T.heap) (Q := fun v' h' L => FI Z C fs arrs A T.heap y0 v' h' ∧ Fr n0 L) (W := W0) (R := R) (p := p) (e := e) (below := below) (s := s) (args := args) (len := 3) hM hc.2.1 hl.2.2.1 hl.2.2.2.1 r1 r2
    have hsz : (mkF m pc rl.toArray (List.map (cv A) (argsL.reverse ++ .ref 0 :: rest))).locals.size = c.maxLocals := by show rl.toArray.size = _; rw [List.size_toArray, L.1, hm, hc.2.2.2.2.1]
    obtain ⟨v, _, ⟨T1, L1, k1, n1⟩, -, X1, ⟨Lc, hQ, l1, c1, s1⟩, st⟩ := X.specialBack hc.1 (y := y) hl.2.2.2.2.2 hc.2.2.2.1 (mv hc.2.1 hl.1) (mv hc.2.1 hl.2.1) (mv hc.2.1 hl.2.2.1) hl.2.2.2.2.1 hB (g := mkF m pc rl.toArray (List.map (cv A) (argsL.reverse ++ .ref 0 :: rest))) rfl hsz (Steps.refl _) (a := A 0) (argsL := argsL.map (cv A)) (rest := rest.map (cv A)) (arity_ok har (by simp)) (by simp [cv]) (by show 2 * 0 + _ ≤ W0; rw [catS_map]; omega) (hb hc.2.2.1 hd) (fun _ _ => ⟨by simp [cv], rfl, by dsimp only [Pt.cells]; omega, by dsimp only [Pt.slots]; omega⟩)
    dsimp only [Pt.U, Pt.locs, Pt.cells, Pt.slots] at X1 l1 c1 s1 st hQ
    subst l1 c1 s1
    obtain ⟨⟨rfl, B, hAE, W1, z1, z2⟩, N1⟩ := hQ
    obtain ⟨A', hA'⟩ : ∃ A' : Nat → Addr, A' = fun k => if k ≤ arrs.length then B k else A k := ⟨_, rfl⟩
    have hA1 : ∀ k, k ≤ arrs.length → A' k = B k := fun k q => by rw [hA']; simp only []; rw [if_pos q]
    have hA2 : ∀ k, arrs.length < k → A' k = A k := fun k q => by rw [hA']; simp only []; rw [if_neg (by omega)]
    have hA3 : ∀ k, (k == 0 || decide (arrs.length < k)) = true → A' k = A k := fun k q => by
      simp only [Bool.or_eq_true, beq_iff_eq, decide_eq_true_eq] at q
      rcases q with rfl | q
      · rw [hA1 0 (by omega)]; exact hAE.1
      · exact hA2 k q
    have hk0 : wN w 0 = some (.inl 0) := rfl
    have hconst : ∀ k d, arrs.length < k → w k = some d → wN w k = some d := fun k d q1 q2 => by
      cases k with
      | zero => omega
      | succ k => exact q2
    have hsmall : ∀ k d, wK arrs arrs.length arrs.length k = some d → k ≤ arrs.length := fun k d q => by
      cases k with
      | zero => omega
      | succ k => simp only [wK] at q; split at q <;> first | omega | cases q
    have hcell : ∀ k d, w k = some d → ∃ cl : Cell, T.heap[A k]? = some cl ∧ T1.heap[A k]? = some cl := fun k d q => by
      have hr := hw0 k d q
      have q' := hconst k d hr.2 q
      rcases d with q' | ⟨ty, n', o⟩
      · cases hr.1
      · obtain ⟨cl, a1, -⟩ := W.1 k _ q'
        exact ⟨cl, a1.1, z2 _ _ a1.1 fun e => by have := W.2 _ _ _ _ q' hk0 e; omega⟩
    have W' : Wd Z C fs T1.heap A' (wF arrs w) y0 := by
      refine ⟨fun k d q => ?_, fun k k' d d' q q' z => ?_⟩
      · unfold wF at q
        split at q
        · rename_i hle
          have := W1.1 k d q
          rcases d with q' | ⟨ty, n', o⟩
          · rw [show CellOk Z C fs T1.heap A' y0 k (.inl q') = (Exa Z T1.heap (A' k) C ∧ ∀ (j : Nat) (n d : String) (cd : Nat), fs[j]? = some (n, d, cd) → Fld Z T1.heap (A' k) C n d (cv A' (fv y0 k j q' cd))) from rfl, hA1 k hle]
            refine ⟨this.1, fun j n d cd hj => ?_⟩
            have e1 : cv A' (fv y0 k j q' cd) = cv B (fv y0 k j q' cd) := by
              refine nrV_cv (ok := fun k => decide (k ≤ arrs.length)) (fun k q => hA1 k (of_decide_eq_true q)) ?_
              match cd with
              | 0 => rfl
              | 1 => rfl
              | r + 2 =>
                cases k with
                | zero =>
                  simp only [wK, Option.some.injEq, Sum.inl.injEq] at q
                  subst q
                  simp only [fv]
                  split
                  · simp [nrV]; omega
                  · rfl
                | succ k => simp only [wK] at q; split at q <;> first | cases q | (rw [Option.map_eq_some_iff] at q; obtain ⟨_, -, z⟩ := q; cases z)
            rw [e1]; exact this.2 j n d cd hj
          · obtain ⟨cl, a1, a2, a3⟩ := this
            exact ⟨cl, by rw [hA1 k hle]; exact a1, a2, a3⟩
        · rename_i hle
          have hr := hw0 k d q
          obtain ⟨cl, b1, b2⟩ := hcell k d q
          have := W.1 k d (hconst k d hr.2 q)
          rcases d with q' | ⟨ty, n', o⟩
          · cases hr.1
          · obtain ⟨cl', a1, a2, a3⟩ := this
            cases o with
            | none => cases hr.1
            | some f0 =>
              have := a1.1
              rw [b1] at this; cases this
              exact ⟨cl, by rw [hA2 k hr.2]; exact ⟨b2, a1.2⟩, a2, a3⟩
      · have hlo : ∀ k d, wF arrs w k = some d → (k ≤ arrs.length ∧ wK arrs arrs.length arrs.length k = some d) ∨ (arrs.length < k ∧ w k = some d) := fun k d q => by
          unfold wF at q
          split at q
          · exact Or.inl ⟨by assumption, q⟩
          · exact Or.inr ⟨by omega, q⟩
        have hmix : ∀ (k k' : Nat) (d d' : CD), k ≤ arrs.length → arrs.length < k' → w k' = some d' → B k ≠ A k' := fun k k' d d' q1 q2 q3 e => by
          obtain ⟨cl, b1, -⟩ := hcell k' d' q3
          have hsz := (Array.getElem?_eq_some_iff.mp b1).1
          cases k with
          | zero =>
            have := W.2 _ _ _ _ hk0 (hconst k' d' q2 q3) (hAE.1.symm.trans e)
            omega
          | succ k =>
            have := hAE.2 (k + 1) (by omega) q1
            have e : @Eq Nat _ _ := e
            have hsz : @LT.lt Nat _ _ _ := hsz
            omega
        rcases hlo k d q with ⟨q1, q2⟩ | ⟨q1, q2⟩ <;> rcases hlo k' d' q' with ⟨q3, q4⟩ | ⟨q3, q4⟩
        · rw [hA1 k q1, hA1 k' q3] at z; exact W1.2 _ _ _ _ q2 q4 z
        · rw [hA1 k q1, hA2 k' q3] at z; exact absurd z (hmix k k' d d' q1 q3 q4)
        · rw [hA2 k q1, hA1 k' q3] at z; exact absurd z.symm (hmix k' k d' d q3 q1 q2)
        · rw [hA2 k q1, hA2 k' q3] at z; exact W.2 _ _ _ _ (hconst k d q1 q2) (hconst k' d' q3 q4) z
    have O' : Out h0 T1.heap A' (wF arrs w) := ⟨Nat.le_trans O.1 z1, fun b c q z => by
      have hb0 : A 0 ≠ b := fun e => z 0 (.inl arrs.length) rfl rfl (by rw [hA1 0 (by omega), hAE.1]; exact e)
      refine z2 b c (O.2 b c q fun k d q1 q2 => ?_) hb0.symm
      cases k with
      | zero => exact hb0
      | succ k => have := (hw0 _ _ (show w (k + 1) = some d from q1)).1; rw [q2] at this; cases this⟩
    have N' : Nw n0 A' (wF arrs w) := fun k d q1 q2 => by
      unfold wF at q1
      split at q1
      · rename_i hle
        rw [hA1 k hle]
        cases k with
        | zero => rw [hAE.1]; exact N 0 _ hk0 rfl
        | succ k => exact Nat.le_trans hnT (hAE.2 (k + 1) (by omega) hle)
      · have := (hw0 k d q1).1; rw [q2] at this; cases this
    obtain ⟨s₂, o', st2, r⟩ := κ A' y0 hu x' hx' T1 _ rl X1 W' O' N' (Fr.app f N1) (nr_ls hA3 hnr.1 L)
    rw [nr_map hA3 hnr.2] at st2
    exact ⟨s₂, o', st.trans st2, r⟩
end AM
section AM6
variable {p : Program} {l : Launch} {e : Env} {R : Room} {s : State} {m : MethodId} {args : Array Value} {below : List Frame} {meth : Method} {c : Code} {Z : State} {a0 : Array Value} {C own : String} {bytes : ByteArray} {maxL : Nat} {ret : Option FieldType} {mn : String} {fs : FS} {fl pfl : List (Nat × Nat)} {kI : List (Nat × Int32)} {kJ : List (Nat × Int64)} {n0 kk : Nat} {h0 : Heap} {α : Type} {F : α → Option Value → Heap → Prop} {A : Nat → Addr} {w : Nat → Option CD} {cells slots pc : Nat} {Ls Ls' : List Slot} {St St' : List Value} {σ σ' : Sg} {t : Option α}
def fI (r : Int32 × Sg) : Option Value × Sg := (some (.int r.1), r.2)
def fJ (r : Int64 × Sg) : Option Value × Sg := (some (.long r.1), r.2)
def fV (r : Sg) : Option Value × Sg := (none, r)
def FL (r : Int32 × Sg) (v : Option Value) (_ : Heap) : Prop := v = some (.int r.1)
theorem am_callP_I {y : MethodName} {b : ByteArray} {mL i : Nat} {rt : Option FieldType} {rm : Room} {wc : Nat → Option CD} {argsL rest : List Value} {u : Option (Int32 × Sg)} {K : (Int32 × Sg) → Option α} {W0 : Nat} {k q : Nat} (hk : wc k = some (.inl q)) (hl : LkP Z a0 own i y b mL rt) (hyc : y.cls = C) (wi : (Cond.instantiable C kk).before a0 Z = true) (hd : decode bytes pc = .ok (.invokevirtual i, 3)) (hc : Cx p s m meth c Z own bytes maxL ret mn) (hS : SubW wc w) (hst : St = argsL.reverse ++ .ref k :: rest) (har : arity y.desc argsL.length = true)
    (hcon : ∀ x, u = some x → Con l Z C fs y b mL rt rm wc (.ref k :: argsL) σ (fI x).1 (fI x).2) (hm : Ls.length = maxL) (hrm : rm.frames + 1 ≤ R.frames ∧ W0 + (mL + 11) + rm.locals ≤ R.locals ∧ catS rest ≤ W0 ∧ rm.cells = 0 ∧ rm.slots = 0 ∧ cells ≤ R.cells ∧ slots ≤ R.slots)
    (κ : ∀ x, u = some x → OkR p l e R s m args below meth c Z C fs n0 h0 F A w cells slots (pc + 3) Ls (.int x.1 :: rest) x.2 (K x)) : OkR p l e R s m args below meth c Z C fs n0 h0 F A w cells slots pc Ls St σ (u.bind K) :=
  am_callP (g := fI) hk hl hyc wi hd hc hS hst har hcon hm hrm κ
theorem am_callP_J {y : MethodName} {b : ByteArray} {mL i : Nat} {rt : Option FieldType} {rm : Room} {wc : Nat → Option CD} {argsL rest : List Value} {u : Option (Int64 × Sg)} {K : (Int64 × Sg) → Option α} {W0 : Nat} {k q : Nat} (hk : wc k = some (.inl q)) (hl : LkP Z a0 own i y b mL rt) (hyc : y.cls = C) (wi : (Cond.instantiable C kk).before a0 Z = true) (hd : decode bytes pc = .ok (.invokevirtual i, 3)) (hc : Cx p s m meth c Z own bytes maxL ret mn) (hS : SubW wc w) (hst : St = argsL.reverse ++ .ref k :: rest) (har : arity y.desc argsL.length = true)
    (hcon : ∀ x, u = some x → Con l Z C fs y b mL rt rm wc (.ref k :: argsL) σ (fJ x).1 (fJ x).2) (hm : Ls.length = maxL) (hrm : rm.frames + 1 ≤ R.frames ∧ W0 + (mL + 11) + rm.locals ≤ R.locals ∧ catS rest ≤ W0 ∧ rm.cells = 0 ∧ rm.slots = 0 ∧ cells ≤ R.cells ∧ slots ≤ R.slots)
    (κ : ∀ x, u = some x → OkR p l e R s m args below meth c Z C fs n0 h0 F A w cells slots (pc + 3) Ls (.long x.1 :: rest) x.2 (K x)) : OkR p l e R s m args below meth c Z C fs n0 h0 F A w cells slots pc Ls St σ (u.bind K) :=
  am_callP (g := fJ) hk hl hyc wi hd hc hS hst har hcon hm hrm κ
theorem am_callP_V {y : MethodName} {b : ByteArray} {mL i : Nat} {rt : Option FieldType} {rm : Room} {wc : Nat → Option CD} {argsL rest : List Value} {u : Option Sg} {K : Sg → Option α} {W0 : Nat} {k q : Nat} (hk : wc k = some (.inl q)) (hl : LkP Z a0 own i y b mL rt) (hyc : y.cls = C) (wi : (Cond.instantiable C kk).before a0 Z = true) (hd : decode bytes pc = .ok (.invokevirtual i, 3)) (hc : Cx p s m meth c Z own bytes maxL ret mn) (hS : SubW wc w) (hst : St = argsL.reverse ++ .ref k :: rest) (har : arity y.desc argsL.length = true)
    (hcon : ∀ x, u = some x → Con l Z C fs y b mL rt rm wc (.ref k :: argsL) σ (fV x).1 (fV x).2) (hm : Ls.length = maxL) (hrm : rm.frames + 1 ≤ R.frames ∧ W0 + (mL + 11) + rm.locals ≤ R.locals ∧ catS rest ≤ W0 ∧ rm.cells = 0 ∧ rm.slots = 0 ∧ cells ≤ R.cells ∧ slots ≤ R.slots)
    (κ : ∀ x, u = some x → OkR p l e R s m args below meth c Z C fs n0 h0 F A w cells slots (pc + 3) Ls (rest) x (K x)) : OkR p l e R s m args below meth c Z C fs n0 h0 F A w cells slots pc Ls St σ (u.bind K) :=
  am_callP (g := fV) hk hl hyc wi hd hc hS hst har hcon hm hrm κ
theorem am_callV_I {y : MethodName} {b : ByteArray} {mL i : Nat} {rt : Option FieldType} {rm : Room} {wc : Nat → Option CD} {argsL rest : List Value} {u : Option (Int32 × Sg)} {K : (Int32 × Sg) → Option α} {W0 : Nat} {k q : Nat} (hk : wc k = some (.inl q)) (hl : LkV Z a0 own i y b mL rt) (hyc : y.cls = C) (hd : decode bytes pc = .ok (.invokevirtual i, 3)) (hc : Cx p s m meth c Z own bytes maxL ret mn) (hS : SubW wc w) (hst : St = argsL.reverse ++ .ref k :: rest) (har : arity y.desc argsL.length = true)
    (hcon : ∀ x, u = some x → Con l Z C fs y b mL rt rm wc (.ref k :: argsL) σ (fI x).1 (fI x).2) (hm : Ls.length = maxL) (hrm : rm.frames + 1 ≤ R.frames ∧ W0 + (mL + 11) + rm.locals ≤ R.locals ∧ catS rest ≤ W0 ∧ rm.cells = 0 ∧ rm.slots = 0 ∧ cells ≤ R.cells ∧ slots ≤ R.slots)
    (κ : ∀ x, u = some x → OkR p l e R s m args below meth c Z C fs n0 h0 F A w cells slots (pc + 3) Ls (.int x.1 :: rest) x.2 (K x)) : OkR p l e R s m args below meth c Z C fs n0 h0 F A w cells slots pc Ls St σ (u.bind K) :=
  am_callV (g := fI) hk hl hyc hd hc hS hst har hcon hm hrm κ
theorem am_callV_J {y : MethodName} {b : ByteArray} {mL i : Nat} {rt : Option FieldType} {rm : Room} {wc : Nat → Option CD} {argsL rest : List Value} {u : Option (Int64 × Sg)} {K : (Int64 × Sg) → Option α} {W0 : Nat} {k q : Nat} (hk : wc k = some (.inl q)) (hl : LkV Z a0 own i y b mL rt) (hyc : y.cls = C) (hd : decode bytes pc = .ok (.invokevirtual i, 3)) (hc : Cx p s m meth c Z own bytes maxL ret mn) (hS : SubW wc w) (hst : St = argsL.reverse ++ .ref k :: rest) (har : arity y.desc argsL.length = true)
    (hcon : ∀ x, u = some x → Con l Z C fs y b mL rt rm wc (.ref k :: argsL) σ (fJ x).1 (fJ x).2) (hm : Ls.length = maxL) (hrm : rm.frames + 1 ≤ R.frames ∧ W0 + (mL + 11) + rm.locals ≤ R.locals ∧ catS rest ≤ W0 ∧ rm.cells = 0 ∧ rm.slots = 0 ∧ cells ≤ R.cells ∧ slots ≤ R.slots)
    (κ : ∀ x, u = some x → OkR p l e R s m args below meth c Z C fs n0 h0 F A w cells slots (pc + 3) Ls (.long x.1 :: rest) x.2 (K x)) : OkR p l e R s m args below meth c Z C fs n0 h0 F A w cells slots pc Ls St σ (u.bind K) :=
  am_callV (g := fJ) hk hl hyc hd hc hS hst har hcon hm hrm κ
theorem am_callV_V {y : MethodName} {b : ByteArray} {mL i : Nat} {rt : Option FieldType} {rm : Room} {wc : Nat → Option CD} {argsL rest : List Value} {u : Option Sg} {K : Sg → Option α} {W0 : Nat} {k q : Nat} (hk : wc k = some (.inl q)) (hl : LkV Z a0 own i y b mL rt) (hyc : y.cls = C) (hd : decode bytes pc = .ok (.invokevirtual i, 3)) (hc : Cx p s m meth c Z own bytes maxL ret mn) (hS : SubW wc w) (hst : St = argsL.reverse ++ .ref k :: rest) (har : arity y.desc argsL.length = true)
    (hcon : ∀ x, u = some x → Con l Z C fs y b mL rt rm wc (.ref k :: argsL) σ (fV x).1 (fV x).2) (hm : Ls.length = maxL) (hrm : rm.frames + 1 ≤ R.frames ∧ W0 + (mL + 11) + rm.locals ≤ R.locals ∧ catS rest ≤ W0 ∧ rm.cells = 0 ∧ rm.slots = 0 ∧ cells ≤ R.cells ∧ slots ≤ R.slots)
    (κ : ∀ x, u = some x → OkR p l e R s m args below meth c Z C fs n0 h0 F A w cells slots (pc + 3) Ls (rest) x (K x)) : OkR p l e R s m args below meth c Z C fs n0 h0 F A w cells slots pc Ls St σ (u.bind K) :=
  am_callV (g := fV) hk hl hyc hd hc hS hst har hcon hm hrm κ
theorem am_callS_I {y : MethodName} {b : ByteArray} {mL i : Nat} {rt : Option FieldType} {rm : Room} {wc : Nat → Option CD} {argsL rest : List Value} {u : Option (Int32 × Sg)} {K : (Int32 × Sg) → Option α} {W0 : Nat} (hl : LkS Z a0 own i y b mL rt) (hd : decode bytes pc = .ok (.invokestatic i, 3)) (hc : Cx p s m meth c Z own bytes maxL ret mn) (hS : SubW wc w) (hst : St = argsL.reverse ++ rest) (har : arity y.desc argsL.length = true)
    (hcon : ∀ x, u = some x → Con l Z C fs y b mL rt rm wc argsL σ (fI x).1 (fI x).2) (hm : Ls.length = maxL) (hrm : rm.frames + 1 ≤ R.frames ∧ W0 + (mL + 11) + rm.locals ≤ R.locals ∧ catS rest ≤ W0 ∧ rm.cells = 0 ∧ rm.slots = 0 ∧ cells ≤ R.cells ∧ slots ≤ R.slots)
    (κ : ∀ x, u = some x → OkR p l e R s m args below meth c Z C fs n0 h0 F A w cells slots (pc + 3) Ls (.int x.1 :: rest) x.2 (K x)) : OkR p l e R s m args below meth c Z C fs n0 h0 F A w cells slots pc Ls St σ (u.bind K) :=
  am_callS (g := fI) hl hd hc hS hst har hcon hm hrm κ
theorem am_callS_J {y : MethodName} {b : ByteArray} {mL i : Nat} {rt : Option FieldType} {rm : Room} {wc : Nat → Option CD} {argsL rest : List Value} {u : Option (Int64 × Sg)} {K : (Int64 × Sg) → Option α} {W0 : Nat} (hl : LkS Z a0 own i y b mL rt) (hd : decode bytes pc = .ok (.invokestatic i, 3)) (hc : Cx p s m meth c Z own bytes maxL ret mn) (hS : SubW wc w) (hst : St = argsL.reverse ++ rest) (har : arity y.desc argsL.length = true)
    (hcon : ∀ x, u = some x → Con l Z C fs y b mL rt rm wc argsL σ (fJ x).1 (fJ x).2) (hm : Ls.length = maxL) (hrm : rm.frames + 1 ≤ R.frames ∧ W0 + (mL + 11) + rm.locals ≤ R.locals ∧ catS rest ≤ W0 ∧ rm.cells = 0 ∧ rm.slots = 0 ∧ cells ≤ R.cells ∧ slots ≤ R.slots)
    (κ : ∀ x, u = some x → OkR p l e R s m args below meth c Z C fs n0 h0 F A w cells slots (pc + 3) Ls (.long x.1 :: rest) x.2 (K x)) : OkR p l e R s m args below meth c Z C fs n0 h0 F A w cells slots pc Ls St σ (u.bind K) :=
  am_callS (g := fJ) hl hd hc hS hst har hcon hm hrm κ
theorem am_callS_V {y : MethodName} {b : ByteArray} {mL i : Nat} {rt : Option FieldType} {rm : Room} {wc : Nat → Option CD} {argsL rest : List Value} {u : Option Sg} {K : Sg → Option α} {W0 : Nat} (hl : LkS Z a0 own i y b mL rt) (hd : decode bytes pc = .ok (.invokestatic i, 3)) (hc : Cx p s m meth c Z own bytes maxL ret mn) (hS : SubW wc w) (hst : St = argsL.reverse ++ rest) (har : arity y.desc argsL.length = true)
    (hcon : ∀ x, u = some x → Con l Z C fs y b mL rt rm wc argsL σ (fV x).1 (fV x).2) (hm : Ls.length = maxL) (hrm : rm.frames + 1 ≤ R.frames ∧ W0 + (mL + 11) + rm.locals ≤ R.locals ∧ catS rest ≤ W0 ∧ rm.cells = 0 ∧ rm.slots = 0 ∧ cells ≤ R.cells ∧ slots ≤ R.slots)
    (κ : ∀ x, u = some x → OkR p l e R s m args below meth c Z C fs n0 h0 F A w cells slots (pc + 3) Ls (rest) x (K x)) : OkR p l e R s m args below meth c Z C fs n0 h0 F A w cells slots pc Ls St σ (u.bind K) :=
  am_callS (g := fV) hl hd hc hS hst har hcon hm hrm κ
theorem am_tsw {x v : Int32} {vi dflt low high o : Int} {offs : Array Int} {len pcv : Nat} {t1 t2 : Option α} (hd : decode bytes pc = .ok (.tableswitch dflt low high offs, len)) (hin : ¬ (vi < low ∨ vi > high)) (hoff : offs[(vi - low).toNat]? = some o) (ho : 0 ≤ (pc : Int) + o) (hp : ((pc : Int) + o).toNat = pcv) (hv : v.toInt = vi) (hc : Cx p s m meth c Z own bytes maxL ret mn)
    (k1 : x = v → OkR p l e R s m args below meth c Z C fs n0 h0 F A w cells slots pcv Ls St σ t1) (k2 : x.toInt ≠ vi → OkR p l e R s m args below meth c Z C fs n0 h0 F A w cells slots pc Ls (.int x :: St) σ t2) : OkR p l e R s m args below meth c Z C fs n0 h0 F A w cells slots pc Ls (.int x :: St) σ (if x = v then t1 else t2) := by
  by_cases q : x = v
  · rw [if_pos q]
    intro x' hx T locs rl X W O N f L
    obtain ⟨s₂, o', st, r⟩ := k1 q x' hx T locs rl X W O N f L
    subst q
    subst hv
    exact ⟨s₂, o', XS.tswIn X.here hc.1 rfl (pc0 := pc) rfl (hb hc.2.2.1 hd) rfl hin hoff ho hp st, r⟩
  · rw [if_neg q]
    exact k2 fun e => q (Int32.toInt_inj.mp (e.trans hv.symm))
theorem am_tswD {x : Int32} {dflt low high : Int} {offs : Array Int} {len pcv : Nat} (hd : decode bytes pc = .ok (.tableswitch dflt low high offs, len)) (hout : x.toInt < low ∨ x.toInt > high) (ho : 0 ≤ (pc : Int) + dflt) (hp : ((pc : Int) + dflt).toNat = pcv) (hc : Cx p s m meth c Z own bytes maxL ret mn)
    (k1 : OkR p l e R s m args below meth c Z C fs n0 h0 F A w cells slots pcv Ls St σ t) : OkR p l e R s m args below meth c Z C fs n0 h0 F A w cells slots pc Ls (.int x :: St) σ t := by
  intro x' hx T locs rl X W O N f L
  obtain ⟨s₂, o', st, r⟩ := k1 x' hx T locs rl X W O N f L
  exact ⟨s₂, o', XS.tswOut X.here hc.1 rfl (pc0 := pc) rfl (hb hc.2.2.1 hd) rfl hout ho hp st, r⟩
theorem subF {arrs : List (FieldType × Nat)} {w0 : Nat → Option CD} (h : Rd w0 arrs.length) : SubW (wK arrs arrs.length arrs.length) (wF arrs w0) := by
  refine ⟨fun k d q => ?_, fun k d q => ?_⟩
  · unfold wF
    have : k ≤ arrs.length := by
      cases k with
      | zero => omega
      | succ k => simp only [wK] at q; split at q <;> first | omega | cases q
    rw [if_pos this]; exact q
  · unfold wF at q
    split at q
    · exact Or.inl q
    · exact Or.inr (h k d q).1
end AM6
def WH (a0 : Array Value) (Z : State) : Prop := ∀ d ∈ tables_1, d.before a0 Z = true
abbrev fsC : FS := [("codes", "[B", 2), ("lengths", "[I", 3), ("sigma", "[J", 4), ("depths", "[I", 5), ("nodeValue", "[J", 6), ("nodeStart", "[I", 7), ("stepVar", "[I", 8), ("stepLow", "[J", 9), ("stepHigh", "[J", 10), ("mux", "[J", 11), ("printCodes", "[B", 12), ("printLens", "[I", 13), ("capacity", "I", 0), ("state", "I", 0), ("elim", "I", 0), ("resid", "J", 1), ("stepCount", "I", 0)]
abbrev arrsC : List (FieldType × Nat) := [(.byte, 96), (.int, 3), (.long, 6), (.int, 3), (.long, 96), (.int, 96), (.int, 6), (.long, 6), (.long, 6), (.long, 64), (.byte, 2310), (.int, 6)]
abbrev wC : Nat → Option CD := wK arrsC 12 12
-- fields: 0:codes, 1:lengths, 2:sigma, 3:depths, 4:nodeValue, 5:nodeStart, 6:stepVar, 7:stepLow, 8:stepHigh, 9:mux, 10:printCodes, 11:printLens, 12:capacity, 13:state, 14:elim, 15:resid, 16:stepCount
def flC : List (Nat × Nat) := [(7, 0), (13, 1), (17, 2), (21, 3), (24, 4), (27, 5), (30, 6), (33, 7), (36, 8), (39, 9), (42, 10), (45, 11), (52, 12), (105, 14), (108, 15), (118, 13), (134, 16)]
def pflC : List (Nat × Nat) := [(7, 0), (13, 1), (17, 2), (21, 3), (24, 4), (27, 5), (30, 6), (33, 7), (36, 8), (39, 9), (42, 10), (45, 11), (52, 12), (105, 14), (108, 15), (118, 13), (134, 16)]
def kIC : List (Nat × Int32) := []
def kJC : List (Nat × Int64) := [(143, -6148914691236517206), (145, -3689348814741910324), (147, -1085102592571150096), (149, -71777214294589696), (151, -281470681808896), (153, -4294967296), (155, -1)]
def kIL : List (Nat × Int32) := []
def kJL : List (Nat × Int64) := [(69, -6148914691236517206), (71, -3689348814741910324), (73, -1085102592571150096), (75, -71777214294589696), (77, -281470681808896), (79, -4294967296)]
theorem pnC : plainName "BoolUnifierY" = true := by first | (simp [plainName, overriddenIn]; done) | decide +kernel
theorem pnL : plainName "BoolUnifierYL6" = true := by first | (simp [plainName, overriddenIn]; done) | decide +kernel
section Words
variable {a0 : Array Value} {Z : State}
theorem wiC (hw : WH a0 Z) : (Cond.instantiable "BoolUnifierY" 17).before a0 Z = true := hw _ (List.mem_of_getElem? (i := 1) rfl)
theorem wzC (hw : WH a0 Z) : (Cond.initialized "BoolUnifierY").before a0 Z = true := hw _ (List.mem_of_getElem? (i := 2) rfl)
theorem fsok_1 : ∀ (j j' : Nat) (x x' : String × String × Nat), fsC[j]? = some x → fsC[j']? = some x' → x.1 = x'.1 → j = j' := by
  have key : (fsC.map (·.1)).Nodup := by decide
  intro j j' x x' h h' e
  have h1 : (fsC.map (·.1))[j]? = some x.1 := by rw [List.getElem?_map, h]; rfl
  have h2 : (fsC.map (·.1))[j']? = some x.1 := by rw [List.getElem?_map, h', e]; rfl
  obtain ⟨b1, e1⟩ := List.getElem?_eq_some_iff.mp h1
  obtain ⟨b2, e2⟩ := List.getElem?_eq_some_iff.mp h2
  exact (List.getElem?_inj b1 key).mp (h1.trans h2.symm)
theorem fsokC (hw : WH a0 Z) : FsOk Z a0 "BoolUnifierY" fsC := by
  intro j n d cd h
  refine ⟨?_, ?_, fun j' n' d' cd' h' e => fsok_1 j j' _ _ h h' e⟩
  all_goals (have hm := List.mem_of_getElem? h; simp only [fsC, List.mem_cons, List.not_mem_nil, or_false, Prod.mk.injEq] at hm)
  · rcases hm with ⟨rfl, rfl, rfl⟩ | ⟨rfl, rfl, rfl⟩ | ⟨rfl, rfl, rfl⟩ | ⟨rfl, rfl, rfl⟩ | ⟨rfl, rfl, rfl⟩ | ⟨rfl, rfl, rfl⟩ | ⟨rfl, rfl, rfl⟩ | ⟨rfl, rfl, rfl⟩ | ⟨rfl, rfl, rfl⟩ | ⟨rfl, rfl, rfl⟩ | ⟨rfl, rfl, rfl⟩ | ⟨rfl, rfl, rfl⟩ | ⟨rfl, rfl, rfl⟩ | ⟨rfl, rfl, rfl⟩ | ⟨rfl, rfl, rfl⟩ | ⟨rfl, rfl, rfl⟩ | ⟨rfl, rfl, rfl⟩
    · exact Or.inl (hw _ (List.mem_of_getElem? (i := 11) rfl))
    · exact Or.inl (hw _ (List.mem_of_getElem? (i := 14) rfl))
    · exact Or.inl (hw _ (List.mem_of_getElem? (i := 17) rfl))
    · exact Or.inl (hw _ (List.mem_of_getElem? (i := 19) rfl))
    · exact Or.inl (hw _ (List.mem_of_getElem? (i := 21) rfl))
    · exact Or.inl (hw _ (List.mem_of_getElem? (i := 23) rfl))
    · exact Or.inl (hw _ (List.mem_of_getElem? (i := 25) rfl))
    · exact Or.inl (hw _ (List.mem_of_getElem? (i := 27) rfl))
    · exact Or.inl (hw _ (List.mem_of_getElem? (i := 29) rfl))
    · exact Or.inl (hw _ (List.mem_of_getElem? (i := 31) rfl))
    · exact Or.inl (hw _ (List.mem_of_getElem? (i := 33) rfl))
    · exact Or.inl (hw _ (List.mem_of_getElem? (i := 35) rfl))
    · exact Or.inl (hw _ (List.mem_of_getElem? (i := 41) rfl))
    · exact Or.inl (hw _ (List.mem_of_getElem? (i := 59) rfl))
    · exact Or.inl (hw _ (List.mem_of_getElem? (i := 61) rfl))
    · exact Or.inl (hw _ (List.mem_of_getElem? (i := 63) rfl))
    · exact Or.inl (hw _ (List.mem_of_getElem? (i := 65) rfl))
  · rcases hm with ⟨rfl, rfl, rfl⟩ | ⟨rfl, rfl, rfl⟩ | ⟨rfl, rfl, rfl⟩ | ⟨rfl, rfl, rfl⟩ | ⟨rfl, rfl, rfl⟩ | ⟨rfl, rfl, rfl⟩ | ⟨rfl, rfl, rfl⟩ | ⟨rfl, rfl, rfl⟩ | ⟨rfl, rfl, rfl⟩ | ⟨rfl, rfl, rfl⟩ | ⟨rfl, rfl, rfl⟩ | ⟨rfl, rfl, rfl⟩ | ⟨rfl, rfl, rfl⟩ | ⟨rfl, rfl, rfl⟩ | ⟨rfl, rfl, rfl⟩ | ⟨rfl, rfl, rfl⟩ | ⟨rfl, rfl, rfl⟩
    · exact ⟨.array .byte, by decide +kernel, fun q => absurd q (by decide), fun q => absurd q (by decide), fun _ => ⟨_, rfl⟩⟩
    · exact ⟨.array .int, by decide +kernel, fun q => absurd q (by decide), fun q => absurd q (by decide), fun _ => ⟨_, rfl⟩⟩
    · exact ⟨.array .long, by decide +kernel, fun q => absurd q (by decide), fun q => absurd q (by decide), fun _ => ⟨_, rfl⟩⟩
    · exact ⟨.array .int, by decide +kernel, fun q => absurd q (by decide), fun q => absurd q (by decide), fun _ => ⟨_, rfl⟩⟩
    · exact ⟨.array .long, by decide +kernel, fun q => absurd q (by decide), fun q => absurd q (by decide), fun _ => ⟨_, rfl⟩⟩
    · exact ⟨.array .int, by decide +kernel, fun q => absurd q (by decide), fun q => absurd q (by decide), fun _ => ⟨_, rfl⟩⟩
    · exact ⟨.array .int, by decide +kernel, fun q => absurd q (by decide), fun q => absurd q (by decide), fun _ => ⟨_, rfl⟩⟩
    · exact ⟨.array .long, by decide +kernel, fun q => absurd q (by decide), fun q => absurd q (by decide), fun _ => ⟨_, rfl⟩⟩
    · exact ⟨.array .long, by decide +kernel, fun q => absurd q (by decide), fun q => absurd q (by decide), fun _ => ⟨_, rfl⟩⟩
    · exact ⟨.array .long, by decide +kernel, fun q => absurd q (by decide), fun q => absurd q (by decide), fun _ => ⟨_, rfl⟩⟩
    · exact ⟨.array .byte, by decide +kernel, fun q => absurd q (by decide), fun q => absurd q (by decide), fun _ => ⟨_, rfl⟩⟩
    · exact ⟨.array .int, by decide +kernel, fun q => absurd q (by decide), fun q => absurd q (by decide), fun _ => ⟨_, rfl⟩⟩
    · exact ⟨.int, by decide +kernel, fun _ => rfl, fun q => absurd q (by decide), fun q => absurd q (by decide)⟩
    · exact ⟨.int, by decide +kernel, fun _ => rfl, fun q => absurd q (by decide), fun q => absurd q (by decide)⟩
    · exact ⟨.int, by decide +kernel, fun _ => rfl, fun q => absurd q (by decide), fun q => absurd q (by decide)⟩
    · exact ⟨.long, by decide +kernel, fun q => absurd q (by decide), fun _ => rfl, fun q => absurd q (by decide)⟩
    · exact ⟨.int, by decide +kernel, fun _ => rfl, fun q => absurd q (by decide), fun q => absurd q (by decide)⟩
theorem tabC (hw : WH a0 Z) (mn : String) : Tab Z a0 "BoolUnifierY" "BoolUnifierY" mn fsC flC pflC kIC kJC := by
  refine ⟨fun x hx => ?_, fun x hx => ?_, fun x hx => ?_, fun x hx => ?_⟩
  · simp only [flC, List.mem_cons, List.not_mem_nil, or_false] at hx
    rcases hx with rfl | rfl | rfl | rfl | rfl | rfl | rfl | rfl | rfl | rfl | rfl | rfl | rfl | rfl | rfl | rfl | rfl
    · exact ⟨_, _, _, rfl, hw _ (List.mem_of_getElem? (i := 10) rfl)⟩
    · exact ⟨_, _, _, rfl, hw _ (List.mem_of_getElem? (i := 13) rfl)⟩
    · exact ⟨_, _, _, rfl, hw _ (List.mem_of_getElem? (i := 16) rfl)⟩
    · exact ⟨_, _, _, rfl, hw _ (List.mem_of_getElem? (i := 18) rfl)⟩
    · exact ⟨_, _, _, rfl, hw _ (List.mem_of_getElem? (i := 20) rfl)⟩
    · exact ⟨_, _, _, rfl, hw _ (List.mem_of_getElem? (i := 22) rfl)⟩
    · exact ⟨_, _, _, rfl, hw _ (List.mem_of_getElem? (i := 24) rfl)⟩
    · exact ⟨_, _, _, rfl, hw _ (List.mem_of_getElem? (i := 26) rfl)⟩
    · exact ⟨_, _, _, rfl, hw _ (List.mem_of_getElem? (i := 28) rfl)⟩
    · exact ⟨_, _, _, rfl, hw _ (List.mem_of_getElem? (i := 30) rfl)⟩
    · exact ⟨_, _, _, rfl, hw _ (List.mem_of_getElem? (i := 32) rfl)⟩
    · exact ⟨_, _, _, rfl, hw _ (List.mem_of_getElem? (i := 34) rfl)⟩
    · exact ⟨_, _, _, rfl, hw _ (List.mem_of_getElem? (i := 40) rfl)⟩
    · exact ⟨_, _, _, rfl, hw _ (List.mem_of_getElem? (i := 60) rfl)⟩
    · exact ⟨_, _, _, rfl, hw _ (List.mem_of_getElem? (i := 62) rfl)⟩
    · exact ⟨_, _, _, rfl, hw _ (List.mem_of_getElem? (i := 58) rfl)⟩
    · exact ⟨_, _, _, rfl, hw _ (List.mem_of_getElem? (i := 64) rfl)⟩
  · simp only [pflC, List.mem_cons, List.not_mem_nil, or_false] at hx
    rcases hx with rfl | rfl | rfl | rfl | rfl | rfl | rfl | rfl | rfl | rfl | rfl | rfl | rfl | rfl | rfl | rfl | rfl
    · exact ⟨_, _, _, rfl, hw _ (List.mem_of_getElem? (i := 10) rfl), Or.inl (hw _ (List.mem_of_getElem? (i := 11) rfl))⟩
    · exact ⟨_, _, _, rfl, hw _ (List.mem_of_getElem? (i := 13) rfl), Or.inl (hw _ (List.mem_of_getElem? (i := 14) rfl))⟩
    · exact ⟨_, _, _, rfl, hw _ (List.mem_of_getElem? (i := 16) rfl), Or.inl (hw _ (List.mem_of_getElem? (i := 17) rfl))⟩
    · exact ⟨_, _, _, rfl, hw _ (List.mem_of_getElem? (i := 18) rfl), Or.inl (hw _ (List.mem_of_getElem? (i := 19) rfl))⟩
    · exact ⟨_, _, _, rfl, hw _ (List.mem_of_getElem? (i := 20) rfl), Or.inl (hw _ (List.mem_of_getElem? (i := 21) rfl))⟩
    · exact ⟨_, _, _, rfl, hw _ (List.mem_of_getElem? (i := 22) rfl), Or.inl (hw _ (List.mem_of_getElem? (i := 23) rfl))⟩
    · exact ⟨_, _, _, rfl, hw _ (List.mem_of_getElem? (i := 24) rfl), Or.inl (hw _ (List.mem_of_getElem? (i := 25) rfl))⟩
    · exact ⟨_, _, _, rfl, hw _ (List.mem_of_getElem? (i := 26) rfl), Or.inl (hw _ (List.mem_of_getElem? (i := 27) rfl))⟩
    · exact ⟨_, _, _, rfl, hw _ (List.mem_of_getElem? (i := 28) rfl), Or.inl (hw _ (List.mem_of_getElem? (i := 29) rfl))⟩
    · exact ⟨_, _, _, rfl, hw _ (List.mem_of_getElem? (i := 30) rfl), Or.inl (hw _ (List.mem_of_getElem? (i := 31) rfl))⟩
    · exact ⟨_, _, _, rfl, hw _ (List.mem_of_getElem? (i := 32) rfl), Or.inl (hw _ (List.mem_of_getElem? (i := 33) rfl))⟩
    · exact ⟨_, _, _, rfl, hw _ (List.mem_of_getElem? (i := 34) rfl), Or.inl (hw _ (List.mem_of_getElem? (i := 35) rfl))⟩
    · exact ⟨_, _, _, rfl, hw _ (List.mem_of_getElem? (i := 40) rfl), Or.inl (hw _ (List.mem_of_getElem? (i := 41) rfl))⟩
    · exact ⟨_, _, _, rfl, hw _ (List.mem_of_getElem? (i := 60) rfl), Or.inl (hw _ (List.mem_of_getElem? (i := 61) rfl))⟩
    · exact ⟨_, _, _, rfl, hw _ (List.mem_of_getElem? (i := 62) rfl), Or.inl (hw _ (List.mem_of_getElem? (i := 63) rfl))⟩
    · exact ⟨_, _, _, rfl, hw _ (List.mem_of_getElem? (i := 58) rfl), Or.inl (hw _ (List.mem_of_getElem? (i := 59) rfl))⟩
    · exact ⟨_, _, _, rfl, hw _ (List.mem_of_getElem? (i := 64) rfl), Or.inl (hw _ (List.mem_of_getElem? (i := 65) rfl))⟩
  · simp [kIC] at hx
  · simp only [kJC, List.mem_cons, List.not_mem_nil, or_false] at hx
    rcases hx with rfl | rfl | rfl | rfl | rfl | rfl | rfl
    · exact hw _ (List.mem_of_getElem? (i := 74) rfl)
    · exact hw _ (List.mem_of_getElem? (i := 75) rfl)
    · exact hw _ (List.mem_of_getElem? (i := 76) rfl)
    · exact hw _ (List.mem_of_getElem? (i := 77) rfl)
    · exact hw _ (List.mem_of_getElem? (i := 78) rfl)
    · exact hw _ (List.mem_of_getElem? (i := 79) rfl)
    · exact hw _ (List.mem_of_getElem? (i := 96) rfl)
theorem tabI (hw : WH a0 Z) : Tab Z a0 "BoolUnifierY" "BoolUnifierY" "<init>" fsC flC flC kIC kJC := by
  refine ⟨fun x hx => ?_, fun x hx => ?_, fun x hx => ?_, fun x hx => ?_⟩
  · simp only [flC, List.mem_cons, List.not_mem_nil, or_false] at hx
    rcases hx with rfl | rfl | rfl | rfl | rfl | rfl | rfl | rfl | rfl | rfl | rfl | rfl | rfl | rfl | rfl | rfl | rfl
    · exact ⟨_, _, _, rfl, hw _ (List.mem_of_getElem? (i := 10) rfl)⟩
    · exact ⟨_, _, _, rfl, hw _ (List.mem_of_getElem? (i := 13) rfl)⟩
    · exact ⟨_, _, _, rfl, hw _ (List.mem_of_getElem? (i := 16) rfl)⟩
    · exact ⟨_, _, _, rfl, hw _ (List.mem_of_getElem? (i := 18) rfl)⟩
    · exact ⟨_, _, _, rfl, hw _ (List.mem_of_getElem? (i := 20) rfl)⟩
    · exact ⟨_, _, _, rfl, hw _ (List.mem_of_getElem? (i := 22) rfl)⟩
    · exact ⟨_, _, _, rfl, hw _ (List.mem_of_getElem? (i := 24) rfl)⟩
    · exact ⟨_, _, _, rfl, hw _ (List.mem_of_getElem? (i := 26) rfl)⟩
    · exact ⟨_, _, _, rfl, hw _ (List.mem_of_getElem? (i := 28) rfl)⟩
    · exact ⟨_, _, _, rfl, hw _ (List.mem_of_getElem? (i := 30) rfl)⟩
    · exact ⟨_, _, _, rfl, hw _ (List.mem_of_getElem? (i := 32) rfl)⟩
    · exact ⟨_, _, _, rfl, hw _ (List.mem_of_getElem? (i := 34) rfl)⟩
    · exact ⟨_, _, _, rfl, hw _ (List.mem_of_getElem? (i := 40) rfl)⟩
    · exact ⟨_, _, _, rfl, hw _ (List.mem_of_getElem? (i := 60) rfl)⟩
    · exact ⟨_, _, _, rfl, hw _ (List.mem_of_getElem? (i := 62) rfl)⟩
    · exact ⟨_, _, _, rfl, hw _ (List.mem_of_getElem? (i := 58) rfl)⟩
    · exact ⟨_, _, _, rfl, hw _ (List.mem_of_getElem? (i := 64) rfl)⟩
  · simp only [flC, List.mem_cons, List.not_mem_nil, or_false] at hx
    rcases hx with rfl | rfl | rfl | rfl | rfl | rfl | rfl | rfl | rfl | rfl | rfl | rfl | rfl | rfl | rfl | rfl | rfl
    · exact ⟨_, _, _, rfl, hw _ (List.mem_of_getElem? (i := 10) rfl), Or.inl (hw _ (List.mem_of_getElem? (i := 11) rfl))⟩
    · exact ⟨_, _, _, rfl, hw _ (List.mem_of_getElem? (i := 13) rfl), Or.inl (hw _ (List.mem_of_getElem? (i := 14) rfl))⟩
    · exact ⟨_, _, _, rfl, hw _ (List.mem_of_getElem? (i := 16) rfl), Or.inl (hw _ (List.mem_of_getElem? (i := 17) rfl))⟩
    · exact ⟨_, _, _, rfl, hw _ (List.mem_of_getElem? (i := 18) rfl), Or.inl (hw _ (List.mem_of_getElem? (i := 19) rfl))⟩
    · exact ⟨_, _, _, rfl, hw _ (List.mem_of_getElem? (i := 20) rfl), Or.inl (hw _ (List.mem_of_getElem? (i := 21) rfl))⟩
    · exact ⟨_, _, _, rfl, hw _ (List.mem_of_getElem? (i := 22) rfl), Or.inl (hw _ (List.mem_of_getElem? (i := 23) rfl))⟩
    · exact ⟨_, _, _, rfl, hw _ (List.mem_of_getElem? (i := 24) rfl), Or.inl (hw _ (List.mem_of_getElem? (i := 25) rfl))⟩
    · exact ⟨_, _, _, rfl, hw _ (List.mem_of_getElem? (i := 26) rfl), Or.inl (hw _ (List.mem_of_getElem? (i := 27) rfl))⟩
    · exact ⟨_, _, _, rfl, hw _ (List.mem_of_getElem? (i := 28) rfl), Or.inl (hw _ (List.mem_of_getElem? (i := 29) rfl))⟩
    · exact ⟨_, _, _, rfl, hw _ (List.mem_of_getElem? (i := 30) rfl), Or.inl (hw _ (List.mem_of_getElem? (i := 31) rfl))⟩
    · exact ⟨_, _, _, rfl, hw _ (List.mem_of_getElem? (i := 32) rfl), Or.inl (hw _ (List.mem_of_getElem? (i := 33) rfl))⟩
    · exact ⟨_, _, _, rfl, hw _ (List.mem_of_getElem? (i := 34) rfl), Or.inl (hw _ (List.mem_of_getElem? (i := 35) rfl))⟩
    · exact ⟨_, _, _, rfl, hw _ (List.mem_of_getElem? (i := 40) rfl), Or.inl (hw _ (List.mem_of_getElem? (i := 41) rfl))⟩
    · exact ⟨_, _, _, rfl, hw _ (List.mem_of_getElem? (i := 60) rfl), Or.inl (hw _ (List.mem_of_getElem? (i := 61) rfl))⟩
    · exact ⟨_, _, _, rfl, hw _ (List.mem_of_getElem? (i := 62) rfl), Or.inl (hw _ (List.mem_of_getElem? (i := 63) rfl))⟩
    · exact ⟨_, _, _, rfl, hw _ (List.mem_of_getElem? (i := 58) rfl), Or.inl (hw _ (List.mem_of_getElem? (i := 59) rfl))⟩
    · exact ⟨_, _, _, rfl, hw _ (List.mem_of_getElem? (i := 64) rfl), Or.inl (hw _ (List.mem_of_getElem? (i := 65) rfl))⟩
  · simp [kIC] at hx
  · simp only [kJC, List.mem_cons, List.not_mem_nil, or_false] at hx
    rcases hx with rfl | rfl | rfl | rfl | rfl | rfl | rfl
    · exact hw _ (List.mem_of_getElem? (i := 74) rfl)
    · exact hw _ (List.mem_of_getElem? (i := 75) rfl)
    · exact hw _ (List.mem_of_getElem? (i := 76) rfl)
    · exact hw _ (List.mem_of_getElem? (i := 77) rfl)
    · exact hw _ (List.mem_of_getElem? (i := 78) rfl)
    · exact hw _ (List.mem_of_getElem? (i := 79) rfl)
    · exact hw _ (List.mem_of_getElem? (i := 96) rfl)
theorem tabL (hw : WH a0 Z) (mn : String) : Tab Z a0 "BoolUnifierY" "BoolUnifierYL6" mn fsC [] [] kIL kJL := by
  refine ⟨fun x hx => ?_, fun x hx => ?_, fun x hx => ?_, fun x hx => ?_⟩
  · cases hx
  · cases hx
  · simp [kIL] at hx
  · simp only [kJL, List.mem_cons, List.not_mem_nil, or_false] at hx
    rcases hx with rfl | rfl | rfl | rfl | rfl | rfl
    · exact hw _ (List.mem_of_getElem? (i := 164) rfl)
    · exact hw _ (List.mem_of_getElem? (i := 170) rfl)
    · exact hw _ (List.mem_of_getElem? (i := 171) rfl)
    · exact hw _ (List.mem_of_getElem? (i := 172) rfl)
    · exact hw _ (List.mem_of_getElem? (i := 173) rfl)
    · exact hw _ (List.mem_of_getElem? (i := 174) rfl)
theorem lk_L_9 (hw : WH a0 Z) : LkI Z a0 "BoolUnifierYL6" 9 (⟨"BoolUnifierY", "<init>", "(I)V"⟩ : MethodName) prog_1_method_1_code 2 := ⟨hw _ (List.mem_of_getElem? (i := 3) rfl), hw _ (List.mem_of_getElem? (i := 4) rfl), hw _ (List.mem_of_getElem? (i := 5) rfl), hw _ (List.mem_of_getElem? (i := 2) rfl), by unfold notMH; decide, rfl⟩
theorem lk_C_48 (hw : WH a0 Z) : LkP Z a0 "BoolUnifierY" 48 (⟨"BoolUnifierY", "clampCapacity", "(I)I"⟩ : MethodName) prog_1_method_18_code 2 (some .int) := ⟨hw _ (List.mem_of_getElem? (i := 36) rfl), hw _ (List.mem_of_getElem? (i := 37) rfl), hw _ (List.mem_of_getElem? (i := 39) rfl), hw _ (List.mem_of_getElem? (i := 2) rfl), by unfold notMH; decide, hw _ (List.mem_of_getElem? (i := 38) rfl)⟩
theorem lk_C_56 (hw : WH a0 Z) : LkP Z a0 "BoolUnifierY" 56 (⟨"BoolUnifierY", "clearAllSlots", "()V"⟩ : MethodName) prog_1_method_19_code 2 none := ⟨hw _ (List.mem_of_getElem? (i := 42) rfl), hw _ (List.mem_of_getElem? (i := 43) rfl), hw _ (List.mem_of_getElem? (i := 45) rfl), hw _ (List.mem_of_getElem? (i := 2) rfl), by unfold notMH; decide, hw _ (List.mem_of_getElem? (i := 44) rfl)⟩
theorem lk_C_86 (hw : WH a0 Z) : LkP Z a0 "BoolUnifierY" 86 (⟨"BoolUnifierY", "emptySlot", "(I)V"⟩ : MethodName) prog_1_method_20_code 2 none := ⟨hw _ (List.mem_of_getElem? (i := 46) rfl), hw _ (List.mem_of_getElem? (i := 47) rfl), hw _ (List.mem_of_getElem? (i := 49) rfl), hw _ (List.mem_of_getElem? (i := 2) rfl), by unfold notMH; decide, hw _ (List.mem_of_getElem? (i := 48) rfl)⟩
theorem lk_C_62 (hw : WH a0 Z) : LkP Z a0 "BoolUnifierY" 62 (⟨"BoolUnifierY", "validSlot", "(I)Z"⟩ : MethodName) prog_1_method_23_code 2 (some .boolean) := ⟨hw _ (List.mem_of_getElem? (i := 50) rfl), hw _ (List.mem_of_getElem? (i := 51) rfl), hw _ (List.mem_of_getElem? (i := 53) rfl), hw _ (List.mem_of_getElem? (i := 2) rfl), by unfold notMH; decide, hw _ (List.mem_of_getElem? (i := 52) rfl)⟩
theorem lk_C_59 (hw : WH a0 Z) : LkP Z a0 "BoolUnifierY" 59 (⟨"BoolUnifierY", "resetResults", "()V"⟩ : MethodName) prog_1_method_21_code 1 none := ⟨hw _ (List.mem_of_getElem? (i := 54) rfl), hw _ (List.mem_of_getElem? (i := 55) rfl), hw _ (List.mem_of_getElem? (i := 57) rfl), hw _ (List.mem_of_getElem? (i := 2) rfl), by unfold notMH; decide, hw _ (List.mem_of_getElem? (i := 56) rfl)⟩
theorem lk_C_112 (hw : WH a0 Z) : LkP Z a0 "BoolUnifierY" 112 (⟨"BoolUnifierY", "setIdentity", "()V"⟩ : MethodName) prog_1_method_22_code 2 none := ⟨hw _ (List.mem_of_getElem? (i := 66) rfl), hw _ (List.mem_of_getElem? (i := 67) rfl), hw _ (List.mem_of_getElem? (i := 69) rfl), hw _ (List.mem_of_getElem? (i := 2) rfl), by unfold notMH; decide, hw _ (List.mem_of_getElem? (i := 68) rfl)⟩
theorem lk_C_137 (hw : WH a0 Z) : LkP Z a0 "BoolUnifierY" 137 (⟨"BoolUnifierY", "varTable", "(I)J"⟩ : MethodName) prog_1_method_31_code 2 (some .long) := ⟨hw _ (List.mem_of_getElem? (i := 70) rfl), hw _ (List.mem_of_getElem? (i := 71) rfl), hw _ (List.mem_of_getElem? (i := 73) rfl), hw _ (List.mem_of_getElem? (i := 2) rfl), by unfold notMH; decide, hw _ (List.mem_of_getElem? (i := 72) rfl)⟩
theorem lk_C_121 (hw : WH a0 Z) : LkP Z a0 "BoolUnifierY" 121 (⟨"BoolUnifierY", "reprintAll", "()V"⟩ : MethodName) prog_1_method_51_code 2 none := ⟨hw _ (List.mem_of_getElem? (i := 80) rfl), hw _ (List.mem_of_getElem? (i := 81) rfl), hw _ (List.mem_of_getElem? (i := 83) rfl), hw _ (List.mem_of_getElem? (i := 2) rfl), by unfold notMH; decide, hw _ (List.mem_of_getElem? (i := 82) rfl)⟩
theorem lk_C_199 (hw : WH a0 Z) : LkP Z a0 "BoolUnifierY" 199 (⟨"BoolUnifierY", "printOne", "(I)V"⟩ : MethodName) prog_1_method_52_code 4 none := ⟨hw _ (List.mem_of_getElem? (i := 84) rfl), hw _ (List.mem_of_getElem? (i := 85) rfl), hw _ (List.mem_of_getElem? (i := 87) rfl), hw _ (List.mem_of_getElem? (i := 2) rfl), by unfold notMH; decide, hw _ (List.mem_of_getElem? (i := 86) rfl)⟩
theorem lk_C_124 (hw : WH a0 Z) : LkP Z a0 "BoolUnifierY" 124 (⟨"BoolUnifierY", "validVar", "(I)Z"⟩ : MethodName) prog_1_method_24_code 2 (some .boolean) := ⟨hw _ (List.mem_of_getElem? (i := 88) rfl), hw _ (List.mem_of_getElem? (i := 89) rfl), hw _ (List.mem_of_getElem? (i := 91) rfl), hw _ (List.mem_of_getElem? (i := 2) rfl), by unfold notMH; decide, hw _ (List.mem_of_getElem? (i := 90) rfl)⟩
theorem lk_C_202 (hw : WH a0 Z) : LkP Z a0 "BoolUnifierY" 202 (⟨"BoolUnifierY", "anf", "(J)J"⟩ : MethodName) prog_1_method_50_code 9 (some .long) := ⟨hw _ (List.mem_of_getElem? (i := 92) rfl), hw _ (List.mem_of_getElem? (i := 93) rfl), hw _ (List.mem_of_getElem? (i := 95) rfl), hw _ (List.mem_of_getElem? (i := 2) rfl), by unfold notMH; decide, hw _ (List.mem_of_getElem? (i := 94) rfl)⟩
theorem lk_C_208 (hw : WH a0 Z) : LkP Z a0 "BoolUnifierY" 208 (⟨"BoolUnifierY", "emitPolynomial", "(IJ)V"⟩ : MethodName) prog_1_method_53_code 6 none := ⟨hw _ (List.mem_of_getElem? (i := 97) rfl), hw _ (List.mem_of_getElem? (i := 98) rfl), hw _ (List.mem_of_getElem? (i := 100) rfl), hw _ (List.mem_of_getElem? (i := 2) rfl), by unfold notMH; decide, hw _ (List.mem_of_getElem? (i := 99) rfl)⟩
theorem lk_C_212 (hw : WH a0 Z) : LkP Z a0 "BoolUnifierY" 212 (⟨"BoolUnifierY", "emitMonomial", "(II)V"⟩ : MethodName) prog_1_method_54_code 5 none := ⟨hw _ (List.mem_of_getElem? (i := 101) rfl), hw _ (List.mem_of_getElem? (i := 102) rfl), hw _ (List.mem_of_getElem? (i := 104) rfl), hw _ (List.mem_of_getElem? (i := 2) rfl), by unfold notMH; decide, hw _ (List.mem_of_getElem? (i := 103) rfl)⟩
theorem lk_C_205 (hw : WH a0 Z) : LkP Z a0 "BoolUnifierY" 205 (⟨"BoolUnifierY", "emit", "(II)V"⟩ : MethodName) prog_1_method_56_code 5 none := ⟨hw _ (List.mem_of_getElem? (i := 105) rfl), hw _ (List.mem_of_getElem? (i := 106) rfl), hw _ (List.mem_of_getElem? (i := 108) rfl), hw _ (List.mem_of_getElem? (i := 2) rfl), by unfold notMH; decide, hw _ (List.mem_of_getElem? (i := 107) rfl)⟩
theorem lk_C_127 (hw : WH a0 Z) : LkP Z a0 "BoolUnifierY" 127 (⟨"BoolUnifierY", "printIndex", "(II)I"⟩ : MethodName) prog_1_method_55_code 3 (some .int) := ⟨hw _ (List.mem_of_getElem? (i := 109) rfl), hw _ (List.mem_of_getElem? (i := 110) rfl), hw _ (List.mem_of_getElem? (i := 112) rfl), hw _ (List.mem_of_getElem? (i := 2) rfl), by unfold notMH; decide, hw _ (List.mem_of_getElem? (i := 111) rfl)⟩
theorem lk_L_12 (hw : WH a0 Z) : LkS Z a0 "BoolUnifierYL6" 12 (⟨"BoolUnifierYL6", "check", "(LBoolUnifierY;IIIIJ)Z"⟩ : MethodName) method_3_code 10 (some .boolean) := ⟨hw _ (List.mem_of_getElem? (i := 113) rfl), hw _ (List.mem_of_getElem? (i := 114) rfl), hw _ (List.mem_of_getElem? (i := 116) rfl), hw _ (List.mem_of_getElem? (i := 115) rfl), by unfold notMH; decide⟩
theorem lk_L_40 (hw : WH a0 Z) : LkV Z a0 "BoolUnifierYL6" 40 (⟨"BoolUnifierY", "length", "(I)I"⟩ : MethodName) prog_1_method_5_code 2 (some .int) := ⟨hw _ (List.mem_of_getElem? (i := 117) rfl), hw _ (List.mem_of_getElem? (i := 119) rfl), hw _ (List.mem_of_getElem? (i := 121) rfl), hw _ (List.mem_of_getElem? (i := 2) rfl), by unfold notMH; decide, hw _ (List.mem_of_getElem? (i := 118) rfl), hw _ (List.mem_of_getElem? (i := 120) rfl)⟩
theorem lk_L_43 (hw : WH a0 Z) : LkV Z a0 "BoolUnifierYL6" 43 (⟨"BoolUnifierY", "depth", "(I)I"⟩ : MethodName) prog_1_method_7_code 2 (some .int) := ⟨hw _ (List.mem_of_getElem? (i := 122) rfl), hw _ (List.mem_of_getElem? (i := 124) rfl), hw _ (List.mem_of_getElem? (i := 126) rfl), hw _ (List.mem_of_getElem? (i := 2) rfl), by unfold notMH; decide, hw _ (List.mem_of_getElem? (i := 123) rfl), hw _ (List.mem_of_getElem? (i := 125) rfl)⟩
theorem lk_L_46 (hw : WH a0 Z) : LkV Z a0 "BoolUnifierYL6" 46 (⟨"BoolUnifierY", "termTable", "(I)J"⟩ : MethodName) prog_1_method_8_code 3 (some .long) := ⟨hw _ (List.mem_of_getElem? (i := 127) rfl), hw _ (List.mem_of_getElem? (i := 129) rfl), hw _ (List.mem_of_getElem? (i := 131) rfl), hw _ (List.mem_of_getElem? (i := 2) rfl), by unfold notMH; decide, hw _ (List.mem_of_getElem? (i := 128) rfl), hw _ (List.mem_of_getElem? (i := 130) rfl)⟩
theorem lk_C_90 (hw : WH a0 Z) : LkP Z a0 "BoolUnifierY" 90 (⟨"BoolUnifierY", "isComplete", "(I)Z"⟩ : MethodName) prog_1_method_30_code 2 (some .boolean) := ⟨hw _ (List.mem_of_getElem? (i := 132) rfl), hw _ (List.mem_of_getElem? (i := 133) rfl), hw _ (List.mem_of_getElem? (i := 135) rfl), hw _ (List.mem_of_getElem? (i := 2) rfl), by unfold notMH; decide, hw _ (List.mem_of_getElem? (i := 134) rfl)⟩
theorem lk_L_50 (hw : WH a0 Z) : LkV Z a0 "BoolUnifierYL6" 50 (⟨"BoolUnifierY", "status", "()I"⟩ : MethodName) prog_1_method_10_code 1 (some .int) := ⟨hw _ (List.mem_of_getElem? (i := 136) rfl), hw _ (List.mem_of_getElem? (i := 138) rfl), hw _ (List.mem_of_getElem? (i := 140) rfl), hw _ (List.mem_of_getElem? (i := 2) rfl), by unfold notMH; decide, hw _ (List.mem_of_getElem? (i := 137) rfl), hw _ (List.mem_of_getElem? (i := 139) rfl)⟩
theorem lk_L_54 (hw : WH a0 Z) : LkV Z a0 "BoolUnifierYL6" 54 (⟨"BoolUnifierY", "eliminated", "()I"⟩ : MethodName) prog_1_method_11_code 1 (some .int) := ⟨hw _ (List.mem_of_getElem? (i := 141) rfl), hw _ (List.mem_of_getElem? (i := 143) rfl), hw _ (List.mem_of_getElem? (i := 145) rfl), hw _ (List.mem_of_getElem? (i := 2) rfl), by unfold notMH; decide, hw _ (List.mem_of_getElem? (i := 142) rfl), hw _ (List.mem_of_getElem? (i := 144) rfl)⟩
theorem lk_L_36 (hw : WH a0 Z) : LkV Z a0 "BoolUnifierYL6" 36 (⟨"BoolUnifierY", "residue", "()J"⟩ : MethodName) prog_1_method_12_code 1 (some .long) := ⟨hw _ (List.mem_of_getElem? (i := 146) rfl), hw _ (List.mem_of_getElem? (i := 148) rfl), hw _ (List.mem_of_getElem? (i := 150) rfl), hw _ (List.mem_of_getElem? (i := 2) rfl), by unfold notMH; decide, hw _ (List.mem_of_getElem? (i := 147) rfl), hw _ (List.mem_of_getElem? (i := 149) rfl)⟩
theorem lk_L_57 (hw : WH a0 Z) : LkV Z a0 "BoolUnifierYL6" 57 (⟨"BoolUnifierY", "printLength", "(I)I"⟩ : MethodName) prog_1_method_14_code 2 (some .int) := ⟨hw _ (List.mem_of_getElem? (i := 151) rfl), hw _ (List.mem_of_getElem? (i := 153) rfl), hw _ (List.mem_of_getElem? (i := 155) rfl), hw _ (List.mem_of_getElem? (i := 2) rfl), by unfold notMH; decide, hw _ (List.mem_of_getElem? (i := 152) rfl), hw _ (List.mem_of_getElem? (i := 154) rfl)⟩
theorem lk_L_60 (hw : WH a0 Z) : LkV Z a0 "BoolUnifierYL6" 60 (⟨"BoolUnifierY", "unifierTable", "(I)J"⟩ : MethodName) prog_1_method_13_code 2 (some .long) := ⟨hw _ (List.mem_of_getElem? (i := 156) rfl), hw _ (List.mem_of_getElem? (i := 158) rfl), hw _ (List.mem_of_getElem? (i := 160) rfl), hw _ (List.mem_of_getElem? (i := 2) rfl), by unfold notMH; decide, hw _ (List.mem_of_getElem? (i := 157) rfl), hw _ (List.mem_of_getElem? (i := 159) rfl)⟩
theorem lk_L_63 (hw : WH a0 Z) : LkS Z a0 "BoolUnifierYL6" 63 (⟨"BoolUnifierYL6", "tx", "(I)J"⟩ : MethodName) method_4_code 1 (some .long) := ⟨hw _ (List.mem_of_getElem? (i := 161) rfl), hw _ (List.mem_of_getElem? (i := 162) rfl), hw _ (List.mem_of_getElem? (i := 163) rfl), hw _ (List.mem_of_getElem? (i := 115) rfl), by unfold notMH; decide⟩
theorem lk_L_66 (hw : WH a0 Z) : LkV Z a0 "BoolUnifierYL6" 66 (⟨"BoolUnifierY", "printCode", "(II)I"⟩ : MethodName) prog_1_method_15_code 4 (some .int) := ⟨hw _ (List.mem_of_getElem? (i := 165) rfl), hw _ (List.mem_of_getElem? (i := 167) rfl), hw _ (List.mem_of_getElem? (i := 169) rfl), hw _ (List.mem_of_getElem? (i := 2) rfl), by unfold notMH; decide, hw _ (List.mem_of_getElem? (i := 166) rfl), hw _ (List.mem_of_getElem? (i := 168) rfl)⟩
theorem lk_L_18 (hw : WH a0 Z) : LkV Z a0 "BoolUnifierYL6" 18 (⟨"BoolUnifierY", "push", "(II)I"⟩ : MethodName) prog_1_method_2_code 3 (some .int) := ⟨hw _ (List.mem_of_getElem? (i := 175) rfl), hw _ (List.mem_of_getElem? (i := 177) rfl), hw _ (List.mem_of_getElem? (i := 179) rfl), hw _ (List.mem_of_getElem? (i := 2) rfl), by unfold notMH; decide, hw _ (List.mem_of_getElem? (i := 176) rfl), hw _ (List.mem_of_getElem? (i := 178) rfl)⟩
theorem lk_C_66 (hw : WH a0 Z) : LkP Z a0 "BoolUnifierY" 66 (⟨"BoolUnifierY", "validCode", "(I)Z"⟩ : MethodName) prog_1_method_25_code 2 (some .boolean) := ⟨hw _ (List.mem_of_getElem? (i := 180) rfl), hw _ (List.mem_of_getElem? (i := 181) rfl), hw _ (List.mem_of_getElem? (i := 183) rfl), hw _ (List.mem_of_getElem? (i := 2) rfl), by unfold notMH; decide, hw _ (List.mem_of_getElem? (i := 182) rfl)⟩
theorem lk_C_69 (hw : WH a0 Z) : LkP Z a0 "BoolUnifierY" 69 (⟨"BoolUnifierY", "isUnary", "(I)Z"⟩ : MethodName) prog_1_method_27_code 2 (some .boolean) := ⟨hw _ (List.mem_of_getElem? (i := 184) rfl), hw _ (List.mem_of_getElem? (i := 185) rfl), hw _ (List.mem_of_getElem? (i := 187) rfl), hw _ (List.mem_of_getElem? (i := 2) rfl), by unfold notMH; decide, hw _ (List.mem_of_getElem? (i := 186) rfl)⟩
theorem lk_C_72 (hw : WH a0 Z) : LkP Z a0 "BoolUnifierY" 72 (⟨"BoolUnifierY", "isBinary", "(I)Z"⟩ : MethodName) prog_1_method_28_code 2 (some .boolean) := ⟨hw _ (List.mem_of_getElem? (i := 188) rfl), hw _ (List.mem_of_getElem? (i := 189) rfl), hw _ (List.mem_of_getElem? (i := 191) rfl), hw _ (List.mem_of_getElem? (i := 2) rfl), by unfold notMH; decide, hw _ (List.mem_of_getElem? (i := 190) rfl)⟩
theorem lk_C_75 (hw : WH a0 Z) : LkP Z a0 "BoolUnifierY" 75 (⟨"BoolUnifierY", "appendCode", "(II)V"⟩ : MethodName) prog_1_method_40_code 7 none := ⟨hw _ (List.mem_of_getElem? (i := 192) rfl), hw _ (List.mem_of_getElem? (i := 193) rfl), hw _ (List.mem_of_getElem? (i := 195) rfl), hw _ (List.mem_of_getElem? (i := 2) rfl), by unfold notMH; decide, hw _ (List.mem_of_getElem? (i := 194) rfl)⟩
theorem lk_C_79 (hw : WH a0 Z) : LkP Z a0 "BoolUnifierY" 79 (⟨"BoolUnifierY", "indexOf", "(II)I"⟩ : MethodName) prog_1_method_36_code 3 (some .int) := ⟨hw _ (List.mem_of_getElem? (i := 196) rfl), hw _ (List.mem_of_getElem? (i := 197) rfl), hw _ (List.mem_of_getElem? (i := 199) rfl), hw _ (List.mem_of_getElem? (i := 2) rfl), by unfold notMH; decide, hw _ (List.mem_of_getElem? (i := 198) rfl)⟩
theorem lk_C_140 (hw : WH a0 Z) : LkP Z a0 "BoolUnifierY" 140 (⟨"BoolUnifierY", "isLeaf", "(I)Z"⟩ : MethodName) prog_1_method_26_code 2 (some .boolean) := ⟨hw _ (List.mem_of_getElem? (i := 200) rfl), hw _ (List.mem_of_getElem? (i := 201) rfl), hw _ (List.mem_of_getElem? (i := 203) rfl), hw _ (List.mem_of_getElem? (i := 2) rfl), by unfold notMH; decide, hw _ (List.mem_of_getElem? (i := 202) rfl)⟩
theorem lk_C_157 (hw : WH a0 Z) : LkP Z a0 "BoolUnifierY" 157 (⟨"BoolUnifierY", "leafTable", "(I)J"⟩ : MethodName) prog_1_method_32_code 3 (some .long) := ⟨hw _ (List.mem_of_getElem? (i := 204) rfl), hw _ (List.mem_of_getElem? (i := 205) rfl), hw _ (List.mem_of_getElem? (i := 207) rfl), hw _ (List.mem_of_getElem? (i := 2) rfl), by unfold notMH; decide, hw _ (List.mem_of_getElem? (i := 206) rfl)⟩
theorem lk_C_160 (hw : WH a0 Z) : LkP Z a0 "BoolUnifierY" 160 (⟨"BoolUnifierY", "storeNode", "(IJI)V"⟩ : MethodName) prog_1_method_39_code 5 none := ⟨hw _ (List.mem_of_getElem? (i := 208) rfl), hw _ (List.mem_of_getElem? (i := 209) rfl), hw _ (List.mem_of_getElem? (i := 211) rfl), hw _ (List.mem_of_getElem? (i := 2) rfl), by unfold notMH; decide, hw _ (List.mem_of_getElem? (i := 210) rfl)⟩
theorem lk_C_83 (hw : WH a0 Z) : LkP Z a0 "BoolUnifierY" 83 (⟨"BoolUnifierY", "depthChange", "(I)I"⟩ : MethodName) prog_1_method_29_code 2 (some .int) := ⟨hw _ (List.mem_of_getElem? (i := 212) rfl), hw _ (List.mem_of_getElem? (i := 213) rfl), hw _ (List.mem_of_getElem? (i := 215) rfl), hw _ (List.mem_of_getElem? (i := 2) rfl), by unfold notMH; decide, hw _ (List.mem_of_getElem? (i := 214) rfl)⟩
theorem lk_L_22 (hw : WH a0 Z) : LkV Z a0 "BoolUnifierYL6" 22 (⟨"BoolUnifierY", "code", "(II)I"⟩ : MethodName) prog_1_method_6_code 4 (some .int) := ⟨hw _ (List.mem_of_getElem? (i := 216) rfl), hw _ (List.mem_of_getElem? (i := 218) rfl), hw _ (List.mem_of_getElem? (i := 220) rfl), hw _ (List.mem_of_getElem? (i := 2) rfl), by unfold notMH; decide, hw _ (List.mem_of_getElem? (i := 217) rfl), hw _ (List.mem_of_getElem? (i := 219) rfl)⟩
theorem lk_L_25 (hw : WH a0 Z) : LkV Z a0 "BoolUnifierYL6" 25 (⟨"BoolUnifierY", "undo", "(I)Z"⟩ : MethodName) prog_1_method_3_code 5 (some .boolean) := ⟨hw _ (List.mem_of_getElem? (i := 221) rfl), hw _ (List.mem_of_getElem? (i := 223) rfl), hw _ (List.mem_of_getElem? (i := 225) rfl), hw _ (List.mem_of_getElem? (i := 2) rfl), by unfold notMH; decide, hw _ (List.mem_of_getElem? (i := 222) rfl), hw _ (List.mem_of_getElem? (i := 224) rfl)⟩
theorem lk_L_32 (hw : WH a0 Z) : LkV Z a0 "BoolUnifierYL6" 32 (⟨"BoolUnifierY", "solve", "(I)I"⟩ : MethodName) prog_1_method_9_code 11 (some .int) := ⟨hw _ (List.mem_of_getElem? (i := 226) rfl), hw _ (List.mem_of_getElem? (i := 228) rfl), hw _ (List.mem_of_getElem? (i := 230) rfl), hw _ (List.mem_of_getElem? (i := 2) rfl), by unfold notMH; decide, hw _ (List.mem_of_getElem? (i := 227) rfl), hw _ (List.mem_of_getElem? (i := 229) rfl)⟩
theorem lk_L_29 (hw : WH a0 Z) : LkV Z a0 "BoolUnifierYL6" 29 (⟨"BoolUnifierY", "clear", "(I)Z"⟩ : MethodName) prog_1_method_4_code 2 (some .boolean) := ⟨hw _ (List.mem_of_getElem? (i := 231) rfl), hw _ (List.mem_of_getElem? (i := 233) rfl), hw _ (List.mem_of_getElem? (i := 235) rfl), hw _ (List.mem_of_getElem? (i := 2) rfl), by unfold notMH; decide, hw _ (List.mem_of_getElem? (i := 232) rfl), hw _ (List.mem_of_getElem? (i := 234) rfl)⟩
theorem lk_C_168 (hw : WH a0 Z) : LkP Z a0 "BoolUnifierY" 168 (⟨"BoolUnifierY", "appendBinary", "(IIII)V"⟩ : MethodName) prog_1_method_42_code 15 none := ⟨hw _ (List.mem_of_getElem? (i := 236) rfl), hw _ (List.mem_of_getElem? (i := 237) rfl), hw _ (List.mem_of_getElem? (i := 239) rfl), hw _ (List.mem_of_getElem? (i := 2) rfl), by unfold notMH; decide, hw _ (List.mem_of_getElem? (i := 238) rfl)⟩
theorem lk_C_172 (hw : WH a0 Z) : LkP Z a0 "BoolUnifierY" 172 (⟨"BoolUnifierY", "startAt", "(II)I"⟩ : MethodName) prog_1_method_38_code 4 (some .int) := ⟨hw _ (List.mem_of_getElem? (i := 240) rfl), hw _ (List.mem_of_getElem? (i := 241) rfl), hw _ (List.mem_of_getElem? (i := 243) rfl), hw _ (List.mem_of_getElem? (i := 2) rfl), by unfold notMH; decide, hw _ (List.mem_of_getElem? (i := 242) rfl)⟩
theorem lk_C_93 (hw : WH a0 Z) : LkP Z a0 "BoolUnifierY" 93 (⟨"BoolUnifierY", "valueAt", "(II)J"⟩ : MethodName) prog_1_method_37_code 4 (some .long) := ⟨hw _ (List.mem_of_getElem? (i := 244) rfl), hw _ (List.mem_of_getElem? (i := 245) rfl), hw _ (List.mem_of_getElem? (i := 247) rfl), hw _ (List.mem_of_getElem? (i := 2) rfl), by unfold notMH; decide, hw _ (List.mem_of_getElem? (i := 246) rfl)⟩
theorem lk_C_175 (hw : WH a0 Z) : LkP Z a0 "BoolUnifierY" 175 (⟨"BoolUnifierY", "combine", "(IJJ)J"⟩ : MethodName) prog_1_method_33_code 6 (some .long) := ⟨hw _ (List.mem_of_getElem? (i := 248) rfl), hw _ (List.mem_of_getElem? (i := 249) rfl), hw _ (List.mem_of_getElem? (i := 251) rfl), hw _ (List.mem_of_getElem? (i := 2) rfl), by unfold notMH; decide, hw _ (List.mem_of_getElem? (i := 250) rfl)⟩
theorem lk_C_164 (hw : WH a0 Z) : LkP Z a0 "BoolUnifierY" 164 (⟨"BoolUnifierY", "appendNot", "(III)V"⟩ : MethodName) prog_1_method_41_code 7 none := ⟨hw _ (List.mem_of_getElem? (i := 252) rfl), hw _ (List.mem_of_getElem? (i := 253) rfl), hw _ (List.mem_of_getElem? (i := 255) rfl), hw _ (List.mem_of_getElem? (i := 2) rfl), by unfold notMH; decide, hw _ (List.mem_of_getElem? (i := 254) rfl)⟩
theorem lk_C_97 (hw : WH a0 Z) : LkV Z a0 "BoolUnifierY" 97 (⟨"BoolUnifierY", "termTable", "(I)J"⟩ : MethodName) prog_1_method_8_code 3 (some .long) := ⟨hw _ (List.mem_of_getElem? (i := 256) rfl), hw _ (List.mem_of_getElem? (i := 129) rfl), hw _ (List.mem_of_getElem? (i := 131) rfl), hw _ (List.mem_of_getElem? (i := 2) rfl), by unfold notMH; decide, hw _ (List.mem_of_getElem? (i := 128) rfl), hw _ (List.mem_of_getElem? (i := 130) rfl)⟩
theorem lk_C_101 (hw : WH a0 Z) : LkP Z a0 "BoolUnifierY" 101 (⟨"BoolUnifierY", "eliminate", "(JI)J"⟩ : MethodName) prog_1_method_43_code 11 (some .long) := ⟨hw _ (List.mem_of_getElem? (i := 257) rfl), hw _ (List.mem_of_getElem? (i := 258) rfl), hw _ (List.mem_of_getElem? (i := 260) rfl), hw _ (List.mem_of_getElem? (i := 2) rfl), by unfold notMH; decide, hw _ (List.mem_of_getElem? (i := 259) rfl)⟩
theorem lk_C_179 (hw : WH a0 Z) : LkP Z a0 "BoolUnifierY" 179 (⟨"BoolUnifierY", "cofactorLow", "(JI)J"⟩ : MethodName) prog_1_method_34_code 9 (some .long) := ⟨hw _ (List.mem_of_getElem? (i := 261) rfl), hw _ (List.mem_of_getElem? (i := 262) rfl), hw _ (List.mem_of_getElem? (i := 264) rfl), hw _ (List.mem_of_getElem? (i := 2) rfl), by unfold notMH; decide, hw _ (List.mem_of_getElem? (i := 263) rfl)⟩
theorem lk_C_182 (hw : WH a0 Z) : LkP Z a0 "BoolUnifierY" 182 (⟨"BoolUnifierY", "cofactorHigh", "(JI)J"⟩ : MethodName) prog_1_method_35_code 9 (some .long) := ⟨hw _ (List.mem_of_getElem? (i := 265) rfl), hw _ (List.mem_of_getElem? (i := 266) rfl), hw _ (List.mem_of_getElem? (i := 268) rfl), hw _ (List.mem_of_getElem? (i := 2) rfl), by unfold notMH; decide, hw _ (List.mem_of_getElem? (i := 267) rfl)⟩
theorem lk_C_185 (hw : WH a0 Z) : LkP Z a0 "BoolUnifierY" 185 (⟨"BoolUnifierY", "recordStep", "(IJJ)V"⟩ : MethodName) prog_1_method_44_code 7 none := ⟨hw _ (List.mem_of_getElem? (i := 269) rfl), hw _ (List.mem_of_getElem? (i := 270) rfl), hw _ (List.mem_of_getElem? (i := 272) rfl), hw _ (List.mem_of_getElem? (i := 2) rfl), by unfold notMH; decide, hw _ (List.mem_of_getElem? (i := 271) rfl)⟩
theorem lk_C_115 (hw : WH a0 Z) : LkP Z a0 "BoolUnifierY" 115 (⟨"BoolUnifierY", "backSubstitute", "()V"⟩ : MethodName) prog_1_method_45_code 2 none := ⟨hw _ (List.mem_of_getElem? (i := 273) rfl), hw _ (List.mem_of_getElem? (i := 274) rfl), hw _ (List.mem_of_getElem? (i := 276) rfl), hw _ (List.mem_of_getElem? (i := 2) rfl), by unfold notMH; decide, hw _ (List.mem_of_getElem? (i := 275) rfl)⟩
theorem lk_C_189 (hw : WH a0 Z) : LkP Z a0 "BoolUnifierY" 189 (⟨"BoolUnifierY", "solveStep", "(I)V"⟩ : MethodName) prog_1_method_46_code 13 none := ⟨hw _ (List.mem_of_getElem? (i := 277) rfl), hw _ (List.mem_of_getElem? (i := 278) rfl), hw _ (List.mem_of_getElem? (i := 280) rfl), hw _ (List.mem_of_getElem? (i := 2) rfl), by unfold notMH; decide, hw _ (List.mem_of_getElem? (i := 279) rfl)⟩
theorem lk_C_130 (hw : WH a0 Z) : LkP Z a0 "BoolUnifierY" 130 (⟨"BoolUnifierY", "compose", "(J)J"⟩ : MethodName) prog_1_method_47_code 4 (some .long) := ⟨hw _ (List.mem_of_getElem? (i := 281) rfl), hw _ (List.mem_of_getElem? (i := 282) rfl), hw _ (List.mem_of_getElem? (i := 284) rfl), hw _ (List.mem_of_getElem? (i := 2) rfl), by unfold notMH; decide, hw _ (List.mem_of_getElem? (i := 283) rfl)⟩
theorem lk_C_192 (hw : WH a0 Z) : LkP Z a0 "BoolUnifierY" 192 (⟨"BoolUnifierY", "loadLeaves", "(J)V"⟩ : MethodName) prog_1_method_48_code 6 none := ⟨hw _ (List.mem_of_getElem? (i := 285) rfl), hw _ (List.mem_of_getElem? (i := 286) rfl), hw _ (List.mem_of_getElem? (i := 288) rfl), hw _ (List.mem_of_getElem? (i := 2) rfl), by unfold notMH; decide, hw _ (List.mem_of_getElem? (i := 287) rfl)⟩
theorem lk_C_196 (hw : WH a0 Z) : LkP Z a0 "BoolUnifierY" 196 (⟨"BoolUnifierY", "foldLevel", "(I)V"⟩ : MethodName) prog_1_method_49_code 10 none := ⟨hw _ (List.mem_of_getElem? (i := 289) rfl), hw _ (List.mem_of_getElem? (i := 290) rfl), hw _ (List.mem_of_getElem? (i := 292) rfl), hw _ (List.mem_of_getElem? (i := 2) rfl), by unfold notMH; decide, hw _ (List.mem_of_getElem? (i := 291) rfl)⟩
end Words
section Walk
variable {p : Program} {l : Launch} {e : Env} {s : State} {m : MethodId} {args : Array Value} {below : List Frame} {meth : Method} {c : Code} {Z : State} {a0 : Array Value} {n0 : Nat} {h0 : Heap} {A A0 : Nat → Addr} {w w0 : Nat → Option CD} {sn : Nat} {sf : Nat → Int32}
abbrev rm_c_clampCapacity : Room := { frames := 0, cells := 0, slots := 0, locals := 0 }
def c_clampCapacity (x1 : Int32) (σ : Sg) : Option (Int32 × Sg) :=
  if x1 < (8 : Int32) then (some ((8 : Int32), σ)) else (if (32 : Int32) < x1 then (some ((32 : Int32), σ)) else (some (x1, σ)))
set_option maxRecDepth 65536 in
set_option maxHeartbeats 4000000 in
theorem ok_c_clampCapacity (hw : WH a0 Z) (x1 : Int32) (σ : Sg) : ∀ x, c_clampCapacity x1 σ = some x → Con l Z "BoolUnifierY" fsC (⟨"BoolUnifierY", "clampCapacity", "(I)I"⟩ : MethodName) prog_1_method_18_code 2 (some .int) rm_c_clampCapacity wC [.ref 0, .int x1] σ (fI x).1 (fI x).2 := by
  refine am_con pnC ?_
  intro p e s m below meth c A n0 h0 hc
  have hT := tabC hw "clampCapacity"
  have hF := fsokC hw
  have wi := wiC hw
  unfold c_clampCapacity
  refine am_blk (pc' := 3) (Ls' := [.val (.ref 0), .val (.int x1)]) (St' := [.int (8 : Int32), .int x1]) (σ' := σ) [.iload_n 1, .bipush 8] (by decide +kernel) hc hT hF wi (by exact rfl) ?_
  refine am_icmp_ge (o := 6) (pc1 := 9) (by decide +kernel) hc (fun hq => ?_) (fun hq => ?_)
  · refine am_blk (pc' := 8) (Ls' := [.val (.ref 0), .val (.int x1)]) (St' := [.int (8 : Int32)]) (σ' := σ) [.bipush 8] (by decide +kernel) hc hT hF wi (by exact rfl) ?_
    exact am_retI (by decide +kernel) hc (by decide) (by decide) (fun h W O => ⟨rfl, W, O⟩)
  · refine am_blk (pc' := 12) (Ls' := [.val (.ref 0), .val (.int x1)]) (St' := [.int (32 : Int32), .int x1]) (σ' := σ) [.iload_n 1, .bipush 32] (by decide +kernel) hc hT hF wi (by exact rfl) ?_
    refine am_icmp_le (o := 6) (pc1 := 18) (by decide +kernel) hc (fun hq => ?_) (fun hq => ?_)
    · refine am_blk (pc' := 17) (Ls' := [.val (.ref 0), .val (.int x1)]) (St' := [.int (32 : Int32)]) (σ' := σ) [.bipush 32] (by decide +kernel) hc hT hF wi (by exact rfl) ?_
      exact am_retI (by decide +kernel) hc (by decide) (by decide) (fun h W O => ⟨rfl, W, O⟩)
    · refine am_blk (pc' := 19) (Ls' := [.val (.ref 0), .val (.int x1)]) (St' := [.int x1]) (σ' := σ) [.iload_n 1] (by decide +kernel) hc hT hF wi (by exact rfl) ?_
      exact am_retI (by decide +kernel) hc (by decide) (by decide) (fun h W O => ⟨rfl, W, O⟩)
abbrev rm_c_validSlot : Room := { frames := 0, cells := 0, slots := 0, locals := 0 }
def c_validSlot (x1 : Int32) (σ : Sg) : Option (Int32 × Sg) :=
  if x1 < 0 then (some ((0 : Int32), σ)) else (if (2 : Int32) < x1 then (some ((0 : Int32), σ)) else (some ((1 : Int32), σ)))
set_option maxRecDepth 65536 in
set_option maxHeartbeats 4000000 in
theorem ok_c_validSlot (hw : WH a0 Z) (x1 : Int32) (σ : Sg) : ∀ x, c_validSlot x1 σ = some x → Con l Z "BoolUnifierY" fsC (⟨"BoolUnifierY", "validSlot", "(I)Z"⟩ : MethodName) prog_1_method_23_code 2 (some .boolean) rm_c_validSlot wC [.ref 0, .int x1] σ (fI x).1 (fI x).2 := by
  refine am_con pnC ?_
  intro p e s m below meth c A n0 h0 hc
  have hT := tabC hw "validSlot"
  have hF := fsokC hw
  have wi := wiC hw
  unfold c_validSlot
  refine am_blk (pc' := 1) (Ls' := [.val (.ref 0), .val (.int x1)]) (St' := [.int x1]) (σ' := σ) [.iload_n 1] (by decide +kernel) hc hT hF wi (by exact rfl) ?_
  refine am_if_lt (o := 12) (pc1 := 13) (by decide +kernel) hc (fun hq => ?_) (fun hq => ?_)
  · refine am_blk (pc' := 14) (Ls' := [.val (.ref 0), .val (.int x1)]) (St' := [.int (0 : Int32)]) (σ' := σ) [.iconst 0] (by decide +kernel) hc hT hF wi (by exact rfl) ?_
    exact am_retZ (by decide +kernel) hc (by decide) (by decide) (fun h W O => ⟨rfl, W, O⟩)
  · refine am_blk (pc' := 6) (Ls' := [.val (.ref 0), .val (.int x1)]) (St' := [.int (2 : Int32), .int x1]) (σ' := σ) [.iload_n 1, .iconst 2] (by decide +kernel) hc hT hF wi (by exact rfl) ?_
    refine am_icmp_gt (o := 7) (pc1 := 13) (by decide +kernel) hc (fun hq => ?_) (fun hq => ?_)
    · refine am_blk (pc' := 14) (Ls' := [.val (.ref 0), .val (.int x1)]) (St' := [.int (0 : Int32)]) (σ' := σ) [.iconst 0] (by decide +kernel) hc hT hF wi (by exact rfl) ?_
      exact am_retZ (by decide +kernel) hc (by decide) (by decide) (fun h W O => ⟨rfl, W, O⟩)
    · refine am_blk (pc' := 14) (Ls' := [.val (.ref 0), .val (.int x1)]) (St' := [.int (1 : Int32)]) (σ' := σ) [.iconst 1, .goto 4] (by decide +kernel) hc hT hF wi (by exact rfl) ?_
      exact am_retZ (by decide +kernel) hc (by decide) (by decide) (fun h W O => ⟨rfl, W, O⟩)
abbrev rm_c_emptySlot : Room := { frames := 1, cells := 0, slots := 0, locals := 13 }
def c_emptySlot (x1 : Int32) (σ : Sg) : Option Sg :=
  (c_validSlot x1 σ).bind fun r1 => if r1.1 = 0 then (some r1.2) else (if inb x1 3 = true then (some (si (si r1.2 2 (nx x1) (0 : Int32)) 4 (nx x1) (0 : Int32))) else none)
set_option maxRecDepth 65536 in
set_option maxHeartbeats 4000000 in
theorem ok_c_emptySlot (hw : WH a0 Z) (x1 : Int32) (σ : Sg) : ∀ x, c_emptySlot x1 σ = some x → Con l Z "BoolUnifierY" fsC (⟨"BoolUnifierY", "emptySlot", "(I)V"⟩ : MethodName) prog_1_method_20_code 2 none rm_c_emptySlot wC [.ref 0, .int x1] σ (fV x).1 (fV x).2 := by
  refine am_con pnC ?_
  intro p e s m below meth c A n0 h0 hc
  have hT := tabC hw "emptySlot"
  have hF := fsokC hw
  have wi := wiC hw
  unfold c_emptySlot
  refine am_blk (pc' := 2) (Ls' := [.val (.ref 0), .val (.int x1)]) (St' := [.int x1, .ref 0]) (σ' := σ) [.aload_n 0, .iload_n 1] (by decide +kernel) hc hT hF wi (by exact rfl) ?_
  refine am_callP_I (W0 := 0) (argsL := [.int x1]) (rest := []) rfl (lk_C_62 hw) rfl wi (by decide +kernel) hc (SubW.refl _) rfl (by show arity "(I)Z" 1 = true; decide +kernel) (ok_c_validSlot hw x1 _) rfl ⟨by decide, by decide, Nat.le_of_eq rfl, rfl, rfl, by decide, by decide⟩ (fun r1 hr => ?_)
  refine am_if_ne (o := 4) (pc1 := 9) (by decide +kernel) hc (fun hq => ?_) (fun hq => ?_)
  · exact am_retV (by decide +kernel) hc (by decide) (by decide) (fun h W O => ⟨rfl, W, O⟩)
  · refine am_blk (pc' := 15) (Ls' := [.val (.ref 0), .val (.int x1)]) (St' := [.int (0 : Int32), .int x1, .ref 2]) (σ' := r1.2) [.aload_n 0, .getfield 13, .iload_n 1, .iconst 0] (by decide +kernel) hc hT hF wi (by exact rfl) ?_
    refine am_iastore (y := (0 : Int32)) rfl (by decide +kernel) hc rfl (fun hb0 => ?_)
    refine am_blk (pc' := 22) (Ls' := [.val (.ref 0), .val (.int x1)]) (St' := [.int (0 : Int32), .int x1, .ref 4]) (σ' := si r1.2 2 (nx x1) (0 : Int32)) [.aload_n 0, .getfield 21, .iload_n 1, .iconst 0] (by decide +kernel) hc hT hF wi (by exact rfl) ?_
    refine am_iastore_k hb0 (y := (0 : Int32)) rfl (by decide +kernel) hc rfl ?_
    exact am_retV (by decide +kernel) hc (by decide) (by decide) (fun h W O => ⟨rfl, W, O⟩)
abbrev rm_c_clearAllSlots : Room := { frames := 2, cells := 0, slots := 0, locals := 26 }
def c_clearAllSlots_2 : Nat → Int32 → Sg → Option Sg
  | 0, _, _ => none
  | fuel + 1, x1, σ =>
    if x1 < (3 : Int32) then ((c_emptySlot x1 σ).bind fun r1 => c_clearAllSlots_2 fuel (x1 + (1 : Int32)) r1) else (some σ)
set_option maxRecDepth 65536 in
set_option maxHeartbeats 4000000 in
theorem okc_c_clearAllSlots_2 (hw : WH a0 Z) (hc : Cx p s m meth c Z "BoolUnifierY" prog_1_method_19_code 2 none "clearAllSlots") : ∀ (fuel : Nat) (x1 : Int32) (σ : Sg), OkR p l e rm_c_clearAllSlots s m args below meth c Z "BoolUnifierY" fsC n0 h0 (FM Z "BoolUnifierY" fsC A wC h0 fV) A wC 0 0 2 [.val (.ref 0), .val (.int x1)] [] σ (c_clearAllSlots_2 fuel x1 σ) := by
  have hT := tabC hw "clearAllSlots"
  have hF := fsokC hw
  have wi := wiC hw
  intro fuel
  induction fuel with
  | zero => intro x1 σ; exact am_none rfl
  | succ fuel ih =>
    intro x1 σ
    rw [c_clearAllSlots_2]
    refine am_blk (pc' := 4) (Ls' := [.val (.ref 0), .val (.int x1)]) (St' := [.int (3 : Int32), .int x1]) (σ' := σ) [.iload_n 1, .iconst 3] (by decide +kernel) hc hT hF wi (by exact rfl) ?_
    refine am_icmp_ge (o := 14) (pc1 := 18) (by decide +kernel) hc (fun hq => ?_) (fun hq => ?_)
    · refine am_blk (pc' := 9) (Ls' := [.val (.ref 0), .val (.int x1)]) (St' := [.int x1, .ref 0]) (σ' := σ) [.aload_n 0, .iload_n 1] (by decide +kernel) hc hT hF wi (by exact rfl) ?_
      refine am_callP_V (W0 := 0) (argsL := [.int x1]) (rest := []) rfl (lk_C_86 hw) rfl wi (by decide +kernel) hc (SubW.refl _) rfl (by show arity "(I)V" 1 = true; decide +kernel) (ok_c_emptySlot hw x1 _) rfl ⟨by decide, by decide, Nat.le_of_eq rfl, rfl, rfl, by decide, by decide⟩ (fun r1 hr => ?_)
      refine am_blk (pc' := 2) (Ls' := [.val (.ref 0), .val (.int (x1 + (1 : Int32)))]) (St' := []) (σ' := r1) [.iinc 1 1, .goto (-13)] (by decide +kernel) hc hT hF wi (by exact rfl) ?_
      exact am_wk (Ls' := [.val (.ref 0), .val (.int (x1 + (1 : Int32)))]) (by simp [wkL]) (ih (x1 + (1 : Int32)) r1)
    · exact am_retV (by decide +kernel) hc (by decide) (by decide) (fun h W O => ⟨rfl, W, O⟩)
def c_clearAllSlots (σ : Sg) : Option Sg :=
  c_clearAllSlots_2 400 (0 : Int32) σ
set_option maxRecDepth 65536 in
set_option maxHeartbeats 4000000 in
theorem ok_c_clearAllSlots (hw : WH a0 Z) (σ : Sg) : ∀ x, c_clearAllSlots σ = some x → Con l Z "BoolUnifierY" fsC (⟨"BoolUnifierY", "clearAllSlots", "()V"⟩ : MethodName) prog_1_method_19_code 2 none rm_c_clearAllSlots wC [.ref 0] σ (fV x).1 (fV x).2 := by
  refine am_con pnC ?_
  intro p e s m below meth c A n0 h0 hc
  have hT := tabC hw "clearAllSlots"
  have hF := fsokC hw
  have wi := wiC hw
  unfold c_clearAllSlots
  refine am_blk (pc' := 2) (Ls' := [.val (.ref 0), .val (.int (0 : Int32))]) (St' := []) (σ' := σ) [.iconst 0, .istore_n 1] (by decide +kernel) hc hT hF wi (by exact rfl) ?_
  exact am_wk (Ls' := [.val (.ref 0), .val (.int (0 : Int32))]) (by simp [wkL]) (okc_c_clearAllSlots_2 hw hc 400 (0 : Int32) σ)
abbrev rm_c_varTable : Room := { frames := 0, cells := 0, slots := 0, locals := 0 }
def c_varTable (x1 : Int32) (σ : Sg) : Option (Int64 × Sg) :=
  if x1 = (0 : Int32) then (some ((-6148914691236517206 : Int64), σ)) else (if x1 = (1 : Int32) then (some ((-3689348814741910324 : Int64), σ)) else (if x1 = (2 : Int32) then (some ((-1085102592571150096 : Int64), σ)) else (if x1 = (3 : Int32) then (some ((-71777214294589696 : Int64), σ)) else (if x1 = (4 : Int32) then (some ((-281470681808896 : Int64), σ)) else (if x1 = (5 : Int32) then (some ((-4294967296 : Int64), σ)) else (some ((0 : Int64), σ)))))))
set_option maxRecDepth 65536 in
set_option maxHeartbeats 4000000 in
theorem ok_c_varTable (hw : WH a0 Z) (x1 : Int32) (σ : Sg) : ∀ x, c_varTable x1 σ = some x → Con l Z "BoolUnifierY" fsC (⟨"BoolUnifierY", "varTable", "(I)J"⟩ : MethodName) prog_1_method_31_code 2 (some .long) rm_c_varTable wC [.ref 0, .int x1] σ (fJ x).1 (fJ x).2 := by
  refine am_con pnC ?_
  intro p e s m below meth c A n0 h0 hc
  have hT := tabC hw "varTable"
  have hF := fsokC hw
  have wi := wiC hw
  unfold c_varTable
  refine am_blk (pc' := 1) (Ls' := [.val (.ref 0), .val (.int x1)]) (St' := [.int x1]) (σ' := σ) [.iload_n 1] (by decide +kernel) hc hT hF wi (by exact rfl) ?_
  refine am_tsw (dflt := 63) (low := 0) (high := 5) (offs := #[39, 43, 47, 51, 55, 59]) (len := 39) (v := 0) (vi := 0) (o := 39) (pcv := 40) (by decide +kernel) (by decide) rfl (by decide) (by decide) rfl hc (fun hq => ?_) (fun hq0 => ?_)
  · refine am_blk (pc' := 43) (Ls' := [.val (.ref 0), .val (.int x1)]) (St' := [.long (-6148914691236517206 : Int64)]) (σ' := σ) [.ldc2_w 143] (by decide +kernel) hc hT hF wi (by exact rfl) ?_
    exact am_retJ (by decide +kernel) hc (by decide) (by decide) (fun h W O => ⟨rfl, W, O⟩)
  refine am_tsw (dflt := 63) (low := 0) (high := 5) (offs := #[39, 43, 47, 51, 55, 59]) (len := 39) (v := 1) (vi := 1) (o := 43) (pcv := 44) (by decide +kernel) (by decide) rfl (by decide) (by decide) rfl hc (fun hq => ?_) (fun hq1 => ?_)
  · refine am_blk (pc' := 47) (Ls' := [.val (.ref 0), .val (.int x1)]) (St' := [.long (-3689348814741910324 : Int64)]) (σ' := σ) [.ldc2_w 145] (by decide +kernel) hc hT hF wi (by exact rfl) ?_
    exact am_retJ (by decide +kernel) hc (by decide) (by decide) (fun h W O => ⟨rfl, W, O⟩)
  refine am_tsw (dflt := 63) (low := 0) (high := 5) (offs := #[39, 43, 47, 51, 55, 59]) (len := 39) (v := 2) (vi := 2) (o := 47) (pcv := 48) (by decide +kernel) (by decide) rfl (by decide) (by decide) rfl hc (fun hq => ?_) (fun hq2 => ?_)
  · refine am_blk (pc' := 51) (Ls' := [.val (.ref 0), .val (.int x1)]) (St' := [.long (-1085102592571150096 : Int64)]) (σ' := σ) [.ldc2_w 147] (by decide +kernel) hc hT hF wi (by exact rfl) ?_
    exact am_retJ (by decide +kernel) hc (by decide) (by decide) (fun h W O => ⟨rfl, W, O⟩)
  refine am_tsw (dflt := 63) (low := 0) (high := 5) (offs := #[39, 43, 47, 51, 55, 59]) (len := 39) (v := 3) (vi := 3) (o := 51) (pcv := 52) (by decide +kernel) (by decide) rfl (by decide) (by decide) rfl hc (fun hq => ?_) (fun hq3 => ?_)
  · refine am_blk (pc' := 55) (Ls' := [.val (.ref 0), .val (.int x1)]) (St' := [.long (-71777214294589696 : Int64)]) (σ' := σ) [.ldc2_w 149] (by decide +kernel) hc hT hF wi (by exact rfl) ?_
    exact am_retJ (by decide +kernel) hc (by decide) (by decide) (fun h W O => ⟨rfl, W, O⟩)
  refine am_tsw (dflt := 63) (low := 0) (high := 5) (offs := #[39, 43, 47, 51, 55, 59]) (len := 39) (v := 4) (vi := 4) (o := 55) (pcv := 56) (by decide +kernel) (by decide) rfl (by decide) (by decide) rfl hc (fun hq => ?_) (fun hq4 => ?_)
  · refine am_blk (pc' := 59) (Ls' := [.val (.ref 0), .val (.int x1)]) (St' := [.long (-281470681808896 : Int64)]) (σ' := σ) [.ldc2_w 151] (by decide +kernel) hc hT hF wi (by exact rfl) ?_
    exact am_retJ (by decide +kernel) hc (by decide) (by decide) (fun h W O => ⟨rfl, W, O⟩)
  refine am_tsw (dflt := 63) (low := 0) (high := 5) (offs := #[39, 43, 47, 51, 55, 59]) (len := 39) (v := 5) (vi := 5) (o := 59) (pcv := 60) (by decide +kernel) (by decide) rfl (by decide) (by decide) rfl hc (fun hq => ?_) (fun hq5 => ?_)
  · refine am_blk (pc' := 63) (Ls' := [.val (.ref 0), .val (.int x1)]) (St' := [.long (-4294967296 : Int64)]) (σ' := σ) [.ldc2_w 153] (by decide +kernel) hc hT hF wi (by exact rfl) ?_
    exact am_retJ (by decide +kernel) hc (by decide) (by decide) (fun h W O => ⟨rfl, W, O⟩)
  refine am_tswD (dflt := 63) (low := 0) (high := 5) (offs := #[39, 43, 47, 51, 55, 59]) (len := 39) (pcv := 64) (by decide +kernel) (by omega) (by decide) (by decide) hc ?_
  refine am_blk (pc' := 65) (Ls' := [.val (.ref 0), .val (.int x1)]) (St' := [.long (0 : Int64)]) (σ' := σ) [.lconst 0] (by decide +kernel) hc hT hF wi (by exact rfl) ?_
  exact am_retJ (by decide +kernel) hc (by decide) (by decide) (fun h W O => ⟨rfl, W, O⟩)
abbrev rm_c_setIdentity : Room := { frames := 1, cells := 0, slots := 0, locals := 15 }
def c_setIdentity_2 : Nat → Int32 → Sg → Option Sg
  | 0, _, _ => none
  | fuel + 1, x1, σ =>
    if x1 < (6 : Int32) then ((c_varTable x1 σ).bind fun r1 => if inb x1 6 = true then (c_setIdentity_2 fuel (x1 + (1 : Int32)) (sj r1.2 3 (nx x1) r1.1)) else none) else (some σ)
set_option maxRecDepth 65536 in
set_option maxHeartbeats 4000000 in
theorem okc_c_setIdentity_2 (hw : WH a0 Z) (hc : Cx p s m meth c Z "BoolUnifierY" prog_1_method_22_code 2 none "setIdentity") : ∀ (fuel : Nat) (x1 : Int32) (σ : Sg), OkR p l e rm_c_setIdentity s m args below meth c Z "BoolUnifierY" fsC n0 h0 (FM Z "BoolUnifierY" fsC A wC h0 fV) A wC 0 0 2 [.val (.ref 0), .val (.int x1)] [] σ (c_setIdentity_2 fuel x1 σ) := by
  have hT := tabC hw "setIdentity"
  have hF := fsokC hw
  have wi := wiC hw
  intro fuel
  induction fuel with
  | zero => intro x1 σ; exact am_none rfl
  | succ fuel ih =>
    intro x1 σ
    rw [c_setIdentity_2]
    refine am_blk (pc' := 5) (Ls' := [.val (.ref 0), .val (.int x1)]) (St' := [.int (6 : Int32), .int x1]) (σ' := σ) [.iload_n 1, .bipush 6] (by decide +kernel) hc hT hF wi (by exact rfl) ?_
    refine am_icmp_ge (o := 20) (pc1 := 25) (by decide +kernel) hc (fun hq => ?_) (fun hq => ?_)
    · refine am_blk (pc' := 15) (Ls' := [.val (.ref 0), .val (.int x1)]) (St' := [.int x1, .ref 0, .int x1, .ref 3]) (σ' := σ) [.aload_n 0, .getfield 17, .iload_n 1, .aload_n 0, .iload_n 1] (by decide +kernel) hc hT hF wi (by exact rfl) ?_
      refine am_callP_J (W0 := 2) (argsL := [.int x1]) (rest := [.int x1, .ref 3]) rfl (lk_C_137 hw) rfl wi (by decide +kernel) hc (SubW.refl _) rfl (by show arity "(I)J" 1 = true; decide +kernel) (ok_c_varTable hw x1 _) rfl ⟨by decide, by decide, Nat.le_of_eq rfl, rfl, rfl, by decide, by decide⟩ (fun r1 hr => ?_)
      refine am_lastore (y := r1.1) rfl (by decide +kernel) hc rfl (fun hb0 => ?_)
      refine am_blk (pc' := 2) (Ls' := [.val (.ref 0), .val (.int (x1 + (1 : Int32)))]) (St' := []) (σ' := sj r1.2 3 (nx x1) r1.1) [.iinc 1 1, .goto (-20)] (by decide +kernel) hc hT hF wi (by exact rfl) ?_
      exact am_wk (Ls' := [.val (.ref 0), .val (.int (x1 + (1 : Int32)))]) (by simp [wkL]) (ih (x1 + (1 : Int32)) (sj r1.2 3 (nx x1) r1.1))
    · exact am_retV (by decide +kernel) hc (by decide) (by decide) (fun h W O => ⟨rfl, W, O⟩)
def c_setIdentity (σ : Sg) : Option Sg :=
  c_setIdentity_2 400 (0 : Int32) σ
set_option maxRecDepth 65536 in
set_option maxHeartbeats 4000000 in
theorem ok_c_setIdentity (hw : WH a0 Z) (σ : Sg) : ∀ x, c_setIdentity σ = some x → Con l Z "BoolUnifierY" fsC (⟨"BoolUnifierY", "setIdentity", "()V"⟩ : MethodName) prog_1_method_22_code 2 none rm_c_setIdentity wC [.ref 0] σ (fV x).1 (fV x).2 := by
  refine am_con pnC ?_
  intro p e s m below meth c A n0 h0 hc
  have hT := tabC hw "setIdentity"
  have hF := fsokC hw
  have wi := wiC hw
  unfold c_setIdentity
  refine am_blk (pc' := 2) (Ls' := [.val (.ref 0), .val (.int (0 : Int32))]) (St' := []) (σ' := σ) [.iconst 0, .istore_n 1] (by decide +kernel) hc hT hF wi (by exact rfl) ?_
  exact am_wk (Ls' := [.val (.ref 0), .val (.int (0 : Int32))]) (by simp [wkL]) (okc_c_setIdentity_2 hw hc 400 (0 : Int32) σ)
abbrev rm_c_validVar : Room := { frames := 0, cells := 0, slots := 0, locals := 0 }
def c_validVar (x1 : Int32) (σ : Sg) : Option (Int32 × Sg) :=
  if x1 < 0 then (some ((0 : Int32), σ)) else (if (5 : Int32) < x1 then (some ((0 : Int32), σ)) else (some ((1 : Int32), σ)))
set_option maxRecDepth 65536 in
set_option maxHeartbeats 4000000 in
theorem ok_c_validVar (hw : WH a0 Z) (x1 : Int32) (σ : Sg) : ∀ x, c_validVar x1 σ = some x → Con l Z "BoolUnifierY" fsC (⟨"BoolUnifierY", "validVar", "(I)Z"⟩ : MethodName) prog_1_method_24_code 2 (some .boolean) rm_c_validVar wC [.ref 0, .int x1] σ (fI x).1 (fI x).2 := by
  refine am_con pnC ?_
  intro p e s m below meth c A n0 h0 hc
  have hT := tabC hw "validVar"
  have hF := fsokC hw
  have wi := wiC hw
  unfold c_validVar
  refine am_blk (pc' := 1) (Ls' := [.val (.ref 0), .val (.int x1)]) (St' := [.int x1]) (σ' := σ) [.iload_n 1] (by decide +kernel) hc hT hF wi (by exact rfl) ?_
  refine am_if_lt (o := 12) (pc1 := 13) (by decide +kernel) hc (fun hq => ?_) (fun hq => ?_)
  · refine am_blk (pc' := 14) (Ls' := [.val (.ref 0), .val (.int x1)]) (St' := [.int (0 : Int32)]) (σ' := σ) [.iconst 0] (by decide +kernel) hc hT hF wi (by exact rfl) ?_
    exact am_retZ (by decide +kernel) hc (by decide) (by decide) (fun h W O => ⟨rfl, W, O⟩)
  · refine am_blk (pc' := 6) (Ls' := [.val (.ref 0), .val (.int x1)]) (St' := [.int (5 : Int32), .int x1]) (σ' := σ) [.iload_n 1, .iconst 5] (by decide +kernel) hc hT hF wi (by exact rfl) ?_
    refine am_icmp_gt (o := 7) (pc1 := 13) (by decide +kernel) hc (fun hq => ?_) (fun hq => ?_)
    · refine am_blk (pc' := 14) (Ls' := [.val (.ref 0), .val (.int x1)]) (St' := [.int (0 : Int32)]) (σ' := σ) [.iconst 0] (by decide +kernel) hc hT hF wi (by exact rfl) ?_
      exact am_retZ (by decide +kernel) hc (by decide) (by decide) (fun h W O => ⟨rfl, W, O⟩)
    · refine am_blk (pc' := 14) (Ls' := [.val (.ref 0), .val (.int x1)]) (St' := [.int (1 : Int32)]) (σ' := σ) [.iconst 1, .goto 4] (by decide +kernel) hc hT hF wi (by exact rfl) ?_
      exact am_retZ (by decide +kernel) hc (by decide) (by decide) (fun h W O => ⟨rfl, W, O⟩)
abbrev rm_c_anf : Room := { frames := 1, cells := 0, slots := 0, locals := 13 }
def c_anf_5 : Nat → Int64 → Int32 → Sg → Option (Int64 × Sg)
  | 0, _, _, _ => none
  | fuel + 1, y3, x5, σ =>
    if x5 < (6 : Int32) then ((c_varTable x5 σ).bind fun r1 => c_anf_5 fuel (y3 ^^^ ((y3 &&& (r1.1 ^^^ (-1 : Int64))) <<< (((1 : Int32) <<< (x5 &&& 31)).toInt64 &&& 63))) (x5 + (1 : Int32)) r1.2) else (some (y3, σ))
set_option maxRecDepth 65536 in
set_option maxHeartbeats 4000000 in
theorem okc_c_anf_5 (hw : WH a0 Z) (hc : Cx p s m meth c Z "BoolUnifierY" prog_1_method_50_code 9 (some .long) "anf") : ∀ (fuel : Nat) (y3 : Int64) (x5 : Int32) (σ : Sg), OkR p l e rm_c_anf s m args below meth c Z "BoolUnifierY" fsC n0 h0 (FM Z "BoolUnifierY" fsC A wC h0 fJ) A wC 0 0 5 [.val (.ref 0), .unset, .unset, .val (.long y3), .unset, .val (.int x5), .unset, .unset, .unset] [] σ (c_anf_5 fuel y3 x5 σ) := by
  have hT := tabC hw "anf"
  have hF := fsokC hw
  have wi := wiC hw
  intro fuel
  induction fuel with
  | zero => intro y3 x5 σ; exact am_none rfl
  | succ fuel ih =>
    intro y3 x5 σ
    rw [c_anf_5]
    refine am_blk (pc' := 9) (Ls' := [.val (.ref 0), .unset, .unset, .val (.long y3), .unset, .val (.int x5), .unset, .unset, .unset]) (St' := [.int (6 : Int32), .int x5]) (σ' := σ) [.iload 5, .bipush 6] (by decide +kernel) hc hT hF wi (by exact rfl) ?_
    refine am_icmp_ge (o := 37) (pc1 := 46) (by decide +kernel) hc (fun hq => ?_) (fun hq => ?_)
    · refine am_blk (pc' := 15) (Ls' := [.val (.ref 0), .unset, .unset, .val (.long y3), .unset, .val (.int x5), .unset, .unset, .unset]) (St' := [.int x5, .ref 0]) (σ' := σ) [.aload_n 0, .iload 5] (by decide +kernel) hc hT hF wi (by exact rfl) ?_
      refine am_callP_J (W0 := 0) (argsL := [.int x5]) (rest := []) rfl (lk_C_137 hw) rfl wi (by decide +kernel) hc (SubW.refl _) rfl (by show arity "(I)J" 1 = true; decide +kernel) (ok_c_varTable hw x5 _) rfl ⟨by decide, by decide, Nat.le_of_eq rfl, rfl, rfl, by decide, by decide⟩ (fun r1 hr => ?_)
      refine am_blk (pc' := 26) (Ls' := [.val (.ref 0), .unset, .unset, .val (.long y3), .unset, .val (.int x5), .val (.long r1.1), .second, .val (.int ((1 : Int32) <<< (x5 &&& 31)))]) (St' := []) (σ' := r1.2) [.lstore 6, .iconst 1, .iload 5, .ishl, .istore 8] (by decide +kernel) hc hT hF wi (by exact rfl) ?_
      refine am_blk (pc' := 40) (Ls' := [.val (.ref 0), .unset, .unset, .val (.long (y3 ^^^ ((y3 &&& (r1.1 ^^^ (-1 : Int64))) <<< (((1 : Int32) <<< (x5 &&& 31)).toInt64 &&& 63)))), .second, .val (.int x5), .val (.long r1.1), .second, .val (.int ((1 : Int32) <<< (x5 &&& 31)))]) (St' := []) (σ' := r1.2) [.lload_n 3, .lload_n 3, .lload 6, .ldc2_w 155, .lxor, .land, .iload 8, .lshl, .lxor, .lstore_n 3] (by decide +kernel) hc hT hF wi (by exact rfl) ?_
      refine am_blk (pc' := 5) (Ls' := [.val (.ref 0), .unset, .unset, .val (.long (y3 ^^^ ((y3 &&& (r1.1 ^^^ (-1 : Int64))) <<< (((1 : Int32) <<< (x5 &&& 31)).toInt64 &&& 63)))), .second, .val (.int (x5 + (1 : Int32))), .val (.long r1.1), .second, .val (.int ((1 : Int32) <<< (x5 &&& 31)))]) (St' := []) (σ' := r1.2) [.iinc 5 1, .goto (-38)] (by decide +kernel) hc hT hF wi (by exact rfl) ?_
      exact am_wk (Ls' := [.val (.ref 0), .unset, .unset, .val (.long (y3 ^^^ ((y3 &&& (r1.1 ^^^ (-1 : Int64))) <<< (((1 : Int32) <<< (x5 &&& 31)).toInt64 &&& 63)))), .unset, .val (.int (x5 + (1 : Int32))), .unset, .unset, .unset]) (by simp [wkL]) (ih (y3 ^^^ ((y3 &&& (r1.1 ^^^ (-1 : Int64))) <<< (((1 : Int32) <<< (x5 &&& 31)).toInt64 &&& 63))) (x5 + (1 : Int32)) r1.2)
    · refine am_blk (pc' := 47) (Ls' := [.val (.ref 0), .unset, .unset, .val (.long y3), .unset, .val (.int x5), .unset, .unset, .unset]) (St' := [.long y3]) (σ' := σ) [.lload_n 3] (by decide +kernel) hc hT hF wi (by exact rfl) ?_
      exact am_retJ (by decide +kernel) hc (by decide) (by decide) (fun h W O => ⟨rfl, W, O⟩)
def c_anf (y1 : Int64) (σ : Sg) : Option (Int64 × Sg) :=
  c_anf_5 400 y1 (0 : Int32) σ
set_option maxRecDepth 65536 in
set_option maxHeartbeats 4000000 in
theorem ok_c_anf (hw : WH a0 Z) (y1 : Int64) (σ : Sg) : ∀ x, c_anf y1 σ = some x → Con l Z "BoolUnifierY" fsC (⟨"BoolUnifierY", "anf", "(J)J"⟩ : MethodName) prog_1_method_50_code 9 (some .long) rm_c_anf wC [.ref 0, .long y1] σ (fJ x).1 (fJ x).2 := by
  refine am_con pnC ?_
  intro p e s m below meth c A n0 h0 hc
  have hT := tabC hw "anf"
  have hF := fsokC hw
  have wi := wiC hw
  unfold c_anf
  refine am_blk (pc' := 5) (Ls' := [.val (.ref 0), .val (.long y1), .second, .val (.long y1), .second, .val (.int (0 : Int32)), .unset, .unset, .unset]) (St' := []) (σ' := σ) [.lload_n 1, .lstore_n 3, .iconst 0, .istore 5] (by decide +kernel) hc hT hF wi (by exact rfl) ?_
  exact am_wk (Ls' := [.val (.ref 0), .unset, .unset, .val (.long y1), .unset, .val (.int (0 : Int32)), .unset, .unset, .unset]) (by simp [wkL]) (okc_c_anf_5 hw hc 400 y1 (0 : Int32) σ)
abbrev rm_c_printIndex : Room := { frames := 1, cells := 0, slots := 0, locals := 13 }
def c_printIndex (x1 : Int32) (x2 : Int32) (σ : Sg) : Option (Int32 × Sg) :=
  (c_validVar x1 σ).bind fun r1 => if r1.1 = 0 then (some ((-1 : Int32), r1.2)) else (if x2 < 0 then (some ((-1 : Int32), r1.2)) else (if x2 < (385 : Int32) then (some ((x1 * (385 : Int32)) + x2, r1.2)) else (some ((-1 : Int32), r1.2))))
set_option maxRecDepth 65536 in
set_option maxHeartbeats 4000000 in
theorem ok_c_printIndex (hw : WH a0 Z) (x1 : Int32) (x2 : Int32) (σ : Sg) : ∀ x, c_printIndex x1 x2 σ = some x → Con l Z "BoolUnifierY" fsC (⟨"BoolUnifierY", "printIndex", "(II)I"⟩ : MethodName) prog_1_method_55_code 3 (some .int) rm_c_printIndex wC [.ref 0, .int x1, .int x2] σ (fI x).1 (fI x).2 := by
  refine am_con pnC ?_
  intro p e s m below meth c A n0 h0 hc
  have hT := tabC hw "printIndex"
  have hF := fsokC hw
  have wi := wiC hw
  unfold c_printIndex
  refine am_blk (pc' := 2) (Ls' := [.val (.ref 0), .val (.int x1), .val (.int x2)]) (St' := [.int x1, .ref 0]) (σ' := σ) [.aload_n 0, .iload_n 1] (by decide +kernel) hc hT hF wi (by exact rfl) ?_
  refine am_callP_I (W0 := 0) (argsL := [.int x1]) (rest := []) rfl (lk_C_124 hw) rfl wi (by decide +kernel) hc (SubW.refl _) rfl (by show arity "(I)Z" 1 = true; decide +kernel) (ok_c_validVar hw x1 _) rfl ⟨by decide, by decide, Nat.le_of_eq rfl, rfl, rfl, by decide, by decide⟩ (fun r1 hr => ?_)
  refine am_if_ne (o := 5) (pc1 := 10) (by decide +kernel) hc (fun hq => ?_) (fun hq => ?_)
  · refine am_blk (pc' := 9) (Ls' := [.val (.ref 0), .val (.int x1), .val (.int x2)]) (St' := [.int (-1 : Int32)]) (σ' := r1.2) [.iconst (-1)] (by decide +kernel) hc hT hF wi (by exact rfl) ?_
    exact am_retI (by decide +kernel) hc (by decide) (by decide) (fun h W O => ⟨rfl, W, O⟩)
  · refine am_blk (pc' := 11) (Ls' := [.val (.ref 0), .val (.int x1), .val (.int x2)]) (St' := [.int x2]) (σ' := r1.2) [.iload_n 2] (by decide +kernel) hc hT hF wi (by exact rfl) ?_
    refine am_if_lt (o := 10) (pc1 := 21) (by decide +kernel) hc (fun hq => ?_) (fun hq => ?_)
    · refine am_blk (pc' := 22) (Ls' := [.val (.ref 0), .val (.int x1), .val (.int x2)]) (St' := [.int (-1 : Int32)]) (σ' := r1.2) [.iconst (-1)] (by decide +kernel) hc hT hF wi (by exact rfl) ?_
      exact am_retI (by decide +kernel) hc (by decide) (by decide) (fun h W O => ⟨rfl, W, O⟩)
    · refine am_blk (pc' := 18) (Ls' := [.val (.ref 0), .val (.int x1), .val (.int x2)]) (St' := [.int (385 : Int32), .int x2]) (σ' := r1.2) [.iload_n 2, .sipush 385] (by decide +kernel) hc hT hF wi (by exact rfl) ?_
      refine am_icmp_lt (o := 5) (pc1 := 23) (by decide +kernel) hc (fun hq => ?_) (fun hq => ?_)
      · refine am_blk (pc' := 30) (Ls' := [.val (.ref 0), .val (.int x1), .val (.int x2)]) (St' := [.int ((x1 * (385 : Int32)) + x2)]) (σ' := r1.2) [.iload_n 1, .sipush 385, .imul, .iload_n 2, .iadd] (by decide +kernel) hc hT hF wi (by exact rfl) ?_
        exact am_retI (by decide +kernel) hc (by decide) (by decide) (fun h W O => ⟨rfl, W, O⟩)
      · refine am_blk (pc' := 22) (Ls' := [.val (.ref 0), .val (.int x1), .val (.int x2)]) (St' := [.int (-1 : Int32)]) (σ' := r1.2) [.iconst (-1)] (by decide +kernel) hc hT hF wi (by exact rfl) ?_
        exact am_retI (by decide +kernel) hc (by decide) (by decide) (fun h W O => ⟨rfl, W, O⟩)
abbrev rm_c_emit : Room := { frames := 2, cells := 0, slots := 0, locals := 27 }
def c_emit (x1 : Int32) (x2 : Int32) (σ : Sg) : Option Sg :=
  (c_validVar x1 σ).bind fun r1 => if r1.1 = 0 then (some r1.2) else (if inb x1 6 = true then ((c_printIndex x1 (gi r1.2 12 (nx x1)) r1.2).bind fun r2 => if r2.1 < 0 then (some r2.2) else (if inb r2.1 2310 = true then (some (si (si r2.2 11 (nx r2.1) x2.toInt8.toInt32.toInt8.toInt32) 12 (nx x1) ((gi r1.2 12 (nx x1)) + (1 : Int32)))) else none)) else none)
set_option maxRecDepth 65536 in
set_option maxHeartbeats 4000000 in
theorem ok_c_emit (hw : WH a0 Z) (x1 : Int32) (x2 : Int32) (σ : Sg) : ∀ x, c_emit x1 x2 σ = some x → Con l Z "BoolUnifierY" fsC (⟨"BoolUnifierY", "emit", "(II)V"⟩ : MethodName) prog_1_method_56_code 5 none rm_c_emit wC [.ref 0, .int x1, .int x2] σ (fV x).1 (fV x).2 := by
  refine am_con pnC ?_
  intro p e s m below meth c A n0 h0 hc
  have hT := tabC hw "emit"
  have hF := fsokC hw
  have wi := wiC hw
  unfold c_emit
  refine am_blk (pc' := 2) (Ls' := [.val (.ref 0), .val (.int x1), .val (.int x2), .unset, .unset]) (St' := [.int x1, .ref 0]) (σ' := σ) [.aload_n 0, .iload_n 1] (by decide +kernel) hc hT hF wi (by exact rfl) ?_
  refine am_callP_I (W0 := 0) (argsL := [.int x1]) (rest := []) rfl (lk_C_124 hw) rfl wi (by decide +kernel) hc (SubW.refl _) rfl (by show arity "(I)Z" 1 = true; decide +kernel) (ok_c_validVar hw x1 _) rfl ⟨by decide, by decide, Nat.le_of_eq rfl, rfl, rfl, by decide, by decide⟩ (fun r1 hr => ?_)
  refine am_if_ne (o := 4) (pc1 := 9) (by decide +kernel) hc (fun hq => ?_) (fun hq => ?_)
  · exact am_retV (by decide +kernel) hc (by decide) (by decide) (fun h W O => ⟨rfl, W, O⟩)
  · refine am_blk (pc' := 14) (Ls' := [.val (.ref 0), .val (.int x1), .val (.int x2), .unset, .unset]) (St' := [.int x1, .ref 12]) (σ' := r1.2) [.aload_n 0, .getfield 45, .iload_n 1] (by decide +kernel) hc hT hF wi (by exact rfl) ?_
    refine am_iaload (by decide +kernel) hc rfl (fun hb0 => ?_)
    refine am_blk (pc' := 19) (Ls' := [.val (.ref 0), .val (.int x1), .val (.int x2), .val (.int (gi r1.2 12 (nx x1))), .unset]) (St' := [.int (gi r1.2 12 (nx x1)), .int x1, .ref 0]) (σ' := r1.2) [.istore_n 3, .aload_n 0, .iload_n 1, .iload_n 3] (by decide +kernel) hc hT hF wi (by exact rfl) ?_
    refine am_callP_I (W0 := 0) (argsL := [.int x1, .int (gi r1.2 12 (nx x1))]) (rest := []) rfl (lk_C_127 hw) rfl wi (by decide +kernel) hc (SubW.refl _) rfl (by show arity "(II)I" 2 = true; decide +kernel) (ok_c_printIndex hw x1 (gi r1.2 12 (nx x1)) _) rfl ⟨by decide, by decide, Nat.le_of_eq rfl, rfl, rfl, by decide, by decide⟩ (fun r2 hr => ?_)
    refine am_blk (pc' := 26) (Ls' := [.val (.ref 0), .val (.int x1), .val (.int x2), .val (.int (gi r1.2 12 (nx x1))), .val (.int r2.1)]) (St' := [.int r2.1]) (σ' := r2.2) [.istore 4, .iload 4] (by decide +kernel) hc hT hF wi (by exact rfl) ?_
    refine am_if_ge (o := 4) (pc1 := 30) (by decide +kernel) hc (fun hq => ?_) (fun hq => ?_)
    · exact am_retV (by decide +kernel) hc (by decide) (by decide) (fun h W O => ⟨rfl, W, O⟩)
    · refine am_blk (pc' := 38) (Ls' := [.val (.ref 0), .val (.int x1), .val (.int x2), .val (.int (gi r1.2 12 (nx x1))), .val (.int r2.1)]) (St' := [.int x2.toInt8.toInt32, .int r2.1, .ref 11]) (σ' := r2.2) [.aload_n 0, .getfield 42, .iload 4, .iload_n 2, .i2b] (by decide +kernel) hc hT hF wi (by exact rfl) ?_
      refine am_bastoreB (y := x2.toInt8.toInt32.toInt8.toInt32) rfl (by decide +kernel) hc rfl (fun hb1 => ?_)
      refine am_blk (pc' := 47) (Ls' := [.val (.ref 0), .val (.int x1), .val (.int x2), .val (.int (gi r1.2 12 (nx x1))), .val (.int r2.1)]) (St' := [.int ((gi r1.2 12 (nx x1)) + (1 : Int32)), .int x1, .ref 12]) (σ' := si r2.2 11 (nx r2.1) x2.toInt8.toInt32.toInt8.toInt32) [.aload_n 0, .getfield 45, .iload_n 1, .iload_n 3, .iconst 1, .iadd] (by decide +kernel) hc hT hF wi (by exact rfl) ?_
      refine am_iastore_k hb0 (y := ((gi r1.2 12 (nx x1)) + (1 : Int32))) rfl (by decide +kernel) hc rfl ?_
      exact am_retV (by decide +kernel) hc (by decide) (by decide) (fun h W O => ⟨rfl, W, O⟩)
abbrev rm_c_emitMonomial : Room := { frames := 3, cells := 0, slots := 0, locals := 43 }
def c_emitMonomial_55 (k16 : Int32 → Int32 → Int32 → Int32 → Sg → Option Sg) (x1 : Int32) (x2 : Int32) (x3 : Int32) (x4 : Int32) (σ : Sg) : Option Sg :=
  k16 x1 x2 x3 (x4 + (1 : Int32)) σ
set_option maxRecDepth 65536 in
set_option maxHeartbeats 4000000 in
theorem okc_c_emitMonomial_55 (hw : WH a0 Z) (hc : Cx p s m meth c Z "BoolUnifierY" prog_1_method_54_code 5 none "emitMonomial") (k16 : Int32 → Int32 → Int32 → Int32 → Sg → Option Sg) (hk16 : ∀ (x1 : Int32) (x2 : Int32) (x3 : Int32) (x4 : Int32) (σ : Sg), OkR p l e rm_c_emitMonomial s m args below meth c Z "BoolUnifierY" fsC n0 h0 (FM Z "BoolUnifierY" fsC A wC h0 fV) A wC 0 0 16 [.val (.ref 0), .val (.int x1), .val (.int x2), .val (.int x3), .val (.int x4)] [] σ (k16 x1 x2 x3 x4 σ)) (x1 : Int32) (x2 : Int32) (x3 : Int32) (x4 : Int32) (σ : Sg) : OkR p l e rm_c_emitMonomial s m args below meth c Z "BoolUnifierY" fsC n0 h0 (FM Z "BoolUnifierY" fsC A wC h0 fV) A wC 0 0 55 [.val (.ref 0), .val (.int x1), .val (.int x2), .val (.int x3), .val (.int x4)] [] σ (c_emitMonomial_55 k16 x1 x2 x3 x4 σ) := by
  have hT := tabC hw "emitMonomial"
  have hF := fsokC hw
  have wi := wiC hw
  unfold c_emitMonomial_55
  refine am_blk (pc' := 16) (Ls' := [.val (.ref 0), .val (.int x1), .val (.int x2), .val (.int x3), .val (.int (x4 + (1 : Int32)))]) (St' := []) (σ' := σ) [.iinc 4 1, .goto (-42)] (by decide +kernel) hc hT hF wi (by exact rfl) ?_
  exact am_wk (Ls' := [.val (.ref 0), .val (.int x1), .val (.int x2), .val (.int x3), .val (.int (x4 + (1 : Int32)))]) (by simp [wkL]) (hk16 x1 x2 x3 (x4 + (1 : Int32)) σ)
def c_emitMonomial_52 (k16 : Int32 → Int32 → Int32 → Int32 → Sg → Option Sg) (x1 : Int32) (x2 : Int32) (x3 : Int32) (x4 : Int32) (σ : Sg) : Option Sg :=
  c_emitMonomial_55 k16 x1 x2 (x3 + (1 : Int32)) x4 σ
set_option maxRecDepth 65536 in
set_option maxHeartbeats 4000000 in
theorem okc_c_emitMonomial_52 (hw : WH a0 Z) (hc : Cx p s m meth c Z "BoolUnifierY" prog_1_method_54_code 5 none "emitMonomial") (k16 : Int32 → Int32 → Int32 → Int32 → Sg → Option Sg) (hk16 : ∀ (x1 : Int32) (x2 : Int32) (x3 : Int32) (x4 : Int32) (σ : Sg), OkR p l e rm_c_emitMonomial s m args below meth c Z "BoolUnifierY" fsC n0 h0 (FM Z "BoolUnifierY" fsC A wC h0 fV) A wC 0 0 16 [.val (.ref 0), .val (.int x1), .val (.int x2), .val (.int x3), .val (.int x4)] [] σ (k16 x1 x2 x3 x4 σ)) (x1 : Int32) (x2 : Int32) (x3 : Int32) (x4 : Int32) (σ : Sg) : OkR p l e rm_c_emitMonomial s m args below meth c Z "BoolUnifierY" fsC n0 h0 (FM Z "BoolUnifierY" fsC A wC h0 fV) A wC 0 0 52 [.val (.ref 0), .val (.int x1), .val (.int x2), .val (.int x3), .val (.int x4)] [] σ (c_emitMonomial_52 k16 x1 x2 x3 x4 σ) := by
  have hT := tabC hw "emitMonomial"
  have hF := fsokC hw
  have wi := wiC hw
  unfold c_emitMonomial_52
  refine am_blk (pc' := 55) (Ls' := [.val (.ref 0), .val (.int x1), .val (.int x2), .val (.int (x3 + (1 : Int32))), .val (.int x4)]) (St' := []) (σ' := σ) [.iinc 3 1] (by decide +kernel) hc hT hF wi (by exact rfl) ?_
  exact am_wk (Ls' := [.val (.ref 0), .val (.int x1), .val (.int x2), .val (.int (x3 + (1 : Int32))), .val (.int x4)]) (by simp [wkL]) (okc_c_emitMonomial_55 hw hc k16 hk16 x1 x2 (x3 + (1 : Int32)) x4 σ)
def c_emitMonomial_16 : Nat → Int32 → Int32 → Int32 → Int32 → Sg → Option Sg
  | 0, _, _, _, _, _ => none
  | fuel + 1, x1, x2, x3, x4, σ =>
    if x4 < (6 : Int32) then (if ((x2 >>> (x4 &&& 31)) &&& (1 : Int32)) = 0 then (c_emitMonomial_55 (c_emitMonomial_16 fuel) x1 x2 x3 x4 σ) else ((c_emit x1 ((2 : Int32) + x4) σ).bind fun r1 => if 0 < x3 then ((c_emit x1 (9 : Int32) r1).bind fun r2 => c_emitMonomial_52 (c_emitMonomial_16 fuel) x1 x2 x3 x4 r2) else (c_emitMonomial_52 (c_emitMonomial_16 fuel) x1 x2 x3 x4 r1))) else (some σ)
set_option maxRecDepth 65536 in
set_option maxHeartbeats 4000000 in
theorem okc_c_emitMonomial_16 (hw : WH a0 Z) (hc : Cx p s m meth c Z "BoolUnifierY" prog_1_method_54_code 5 none "emitMonomial") : ∀ (fuel : Nat) (x1 : Int32) (x2 : Int32) (x3 : Int32) (x4 : Int32) (σ : Sg), OkR p l e rm_c_emitMonomial s m args below meth c Z "BoolUnifierY" fsC n0 h0 (FM Z "BoolUnifierY" fsC A wC h0 fV) A wC 0 0 16 [.val (.ref 0), .val (.int x1), .val (.int x2), .val (.int x3), .val (.int x4)] [] σ (c_emitMonomial_16 fuel x1 x2 x3 x4 σ) := by
  have hT := tabC hw "emitMonomial"
  have hF := fsokC hw
  have wi := wiC hw
  intro fuel
  induction fuel with
  | zero => intro x1 x2 x3 x4 σ; exact am_none rfl
  | succ fuel ih =>
    intro x1 x2 x3 x4 σ
    rw [c_emitMonomial_16]
    refine am_blk (pc' := 20) (Ls' := [.val (.ref 0), .val (.int x1), .val (.int x2), .val (.int x3), .val (.int x4)]) (St' := [.int (6 : Int32), .int x4]) (σ' := σ) [.iload 4, .bipush 6] (by decide +kernel) hc hT hF wi (by exact rfl) ?_
    refine am_icmp_ge (o := 41) (pc1 := 61) (by decide +kernel) hc (fun hq => ?_) (fun hq => ?_)
    · refine am_blk (pc' := 29) (Ls' := [.val (.ref 0), .val (.int x1), .val (.int x2), .val (.int x3), .val (.int x4)]) (St' := [.int ((x2 >>> (x4 &&& 31)) &&& (1 : Int32))]) (σ' := σ) [.iload_n 2, .iload 4, .ishr, .iconst 1, .iand] (by decide +kernel) hc hT hF wi (by exact rfl) ?_
      refine am_if_eq (o := 26) (pc1 := 55) (by decide +kernel) hc (fun hq => ?_) (fun hq => ?_)
      · exact am_wk (Ls' := [.val (.ref 0), .val (.int x1), .val (.int x2), .val (.int x3), .val (.int x4)]) (by simp [wkL]) (okc_c_emitMonomial_55 hw hc _ ih x1 x2 x3 x4 σ)
      · refine am_blk (pc' := 38) (Ls' := [.val (.ref 0), .val (.int x1), .val (.int x2), .val (.int x3), .val (.int x4)]) (St' := [.int ((2 : Int32) + x4), .int x1, .ref 0]) (σ' := σ) [.aload_n 0, .iload_n 1, .iconst 2, .iload 4, .iadd] (by decide +kernel) hc hT hF wi (by exact rfl) ?_
        refine am_callP_V (W0 := 0) (argsL := [.int x1, .int ((2 : Int32) + x4)]) (rest := []) rfl (lk_C_205 hw) rfl wi (by decide +kernel) hc (SubW.refl _) rfl (by show arity "(II)V" 2 = true; decide +kernel) (ok_c_emit hw x1 ((2 : Int32) + x4) _) rfl ⟨by decide, by decide, Nat.le_of_eq rfl, rfl, rfl, by decide, by decide⟩ (fun r1 hr => ?_)
        refine am_blk (pc' := 42) (Ls' := [.val (.ref 0), .val (.int x1), .val (.int x2), .val (.int x3), .val (.int x4)]) (St' := [.int x3]) (σ' := r1) [.iload_n 3] (by decide +kernel) hc hT hF wi (by exact rfl) ?_
        refine am_if_le (o := 10) (pc1 := 52) (by decide +kernel) hc (fun hq => ?_) (fun hq => ?_)
        · refine am_blk (pc' := 49) (Ls' := [.val (.ref 0), .val (.int x1), .val (.int x2), .val (.int x3), .val (.int x4)]) (St' := [.int (9 : Int32), .int x1, .ref 0]) (σ' := r1) [.aload_n 0, .iload_n 1, .bipush 9] (by decide +kernel) hc hT hF wi (by exact rfl) ?_
          refine am_callP_V (W0 := 0) (argsL := [.int x1, .int (9 : Int32)]) (rest := []) rfl (lk_C_205 hw) rfl wi (by decide +kernel) hc (SubW.refl _) rfl (by show arity "(II)V" 2 = true; decide +kernel) (ok_c_emit hw x1 (9 : Int32) _) rfl ⟨by decide, by decide, Nat.le_of_eq rfl, rfl, rfl, by decide, by decide⟩ (fun r2 hr => ?_)
          exact am_wk (Ls' := [.val (.ref 0), .val (.int x1), .val (.int x2), .val (.int x3), .val (.int x4)]) (by simp [wkL]) (okc_c_emitMonomial_52 hw hc _ ih x1 x2 x3 x4 r2)
        · exact am_wk (Ls' := [.val (.ref 0), .val (.int x1), .val (.int x2), .val (.int x3), .val (.int x4)]) (by simp [wkL]) (okc_c_emitMonomial_52 hw hc _ ih x1 x2 x3 x4 r1)
    · exact am_retV (by decide +kernel) hc (by decide) (by decide) (fun h W O => ⟨rfl, W, O⟩)
def c_emitMonomial (x1 : Int32) (x2 : Int32) (σ : Sg) : Option Sg :=
  if x2 = 0 then ((c_emit x1 (1 : Int32) σ).bind fun r1 => some r1) else (c_emitMonomial_16 400 x1 x2 (0 : Int32) (0 : Int32) σ)
set_option maxRecDepth 65536 in
set_option maxHeartbeats 4000000 in
theorem ok_c_emitMonomial (hw : WH a0 Z) (x1 : Int32) (x2 : Int32) (σ : Sg) : ∀ x, c_emitMonomial x1 x2 σ = some x → Con l Z "BoolUnifierY" fsC (⟨"BoolUnifierY", "emitMonomial", "(II)V"⟩ : MethodName) prog_1_method_54_code 5 none rm_c_emitMonomial wC [.ref 0, .int x1, .int x2] σ (fV x).1 (fV x).2 := by
  refine am_con pnC ?_
  intro p e s m below meth c A n0 h0 hc
  have hT := tabC hw "emitMonomial"
  have hF := fsokC hw
  have wi := wiC hw
  unfold c_emitMonomial
  refine am_blk (pc' := 1) (Ls' := [.val (.ref 0), .val (.int x1), .val (.int x2), .unset, .unset]) (St' := [.int x2]) (σ' := σ) [.iload_n 2] (by decide +kernel) hc hT hF wi (by exact rfl) ?_
  refine am_if_ne (o := 10) (pc1 := 11) (by decide +kernel) hc (fun hq => ?_) (fun hq => ?_)
  · refine am_blk (pc' := 7) (Ls' := [.val (.ref 0), .val (.int x1), .val (.int x2), .unset, .unset]) (St' := [.int (1 : Int32), .int x1, .ref 0]) (σ' := σ) [.aload_n 0, .iload_n 1, .iconst 1] (by decide +kernel) hc hT hF wi (by exact rfl) ?_
    refine am_callP_V (W0 := 0) (argsL := [.int x1, .int (1 : Int32)]) (rest := []) rfl (lk_C_205 hw) rfl wi (by decide +kernel) hc (SubW.refl _) rfl (by show arity "(II)V" 2 = true; decide +kernel) (ok_c_emit hw x1 (1 : Int32) _) rfl ⟨by decide, by decide, Nat.le_of_eq rfl, rfl, rfl, by decide, by decide⟩ (fun r1 hr => ?_)
    exact am_retV (by decide +kernel) hc (by decide) (by decide) (fun h W O => ⟨rfl, W, O⟩)
  · refine am_blk (pc' := 16) (Ls' := [.val (.ref 0), .val (.int x1), .val (.int x2), .val (.int (0 : Int32)), .val (.int (0 : Int32))]) (St' := []) (σ' := σ) [.iconst 0, .istore_n 3, .iconst 0, .istore 4] (by decide +kernel) hc hT hF wi (by exact rfl) ?_
    exact am_wk (Ls' := [.val (.ref 0), .val (.int x1), .val (.int x2), .val (.int (0 : Int32)), .val (.int (0 : Int32))]) (by simp [wkL]) (okc_c_emitMonomial_16 hw hc 400 x1 x2 (0 : Int32) (0 : Int32) σ)
abbrev rm_c_emitPolynomial : Room := { frames := 4, cells := 0, slots := 0, locals := 59 }
def c_emitPolynomial_46 (k6 : Int32 → Int64 → Int32 → Int32 → Sg → Option Sg) (x1 : Int32) (y2 : Int64) (x4 : Int32) (x5 : Int32) (σ : Sg) : Option Sg :=
  k6 x1 y2 x4 (x5 + (1 : Int32)) σ
set_option maxRecDepth 65536 in
set_option maxHeartbeats 4000000 in
theorem okc_c_emitPolynomial_46 (hw : WH a0 Z) (hc : Cx p s m meth c Z "BoolUnifierY" prog_1_method_53_code 6 none "emitPolynomial") (k6 : Int32 → Int64 → Int32 → Int32 → Sg → Option Sg) (hk6 : ∀ (x1 : Int32) (y2 : Int64) (x4 : Int32) (x5 : Int32) (σ : Sg), OkR p l e rm_c_emitPolynomial s m args below meth c Z "BoolUnifierY" fsC n0 h0 (FM Z "BoolUnifierY" fsC A wC h0 fV) A wC 0 0 6 [.val (.ref 0), .val (.int x1), .val (.long y2), .unset, .val (.int x4), .val (.int x5)] [] σ (k6 x1 y2 x4 x5 σ)) (x1 : Int32) (y2 : Int64) (x4 : Int32) (x5 : Int32) (σ : Sg) : OkR p l e rm_c_emitPolynomial s m args below meth c Z "BoolUnifierY" fsC n0 h0 (FM Z "BoolUnifierY" fsC A wC h0 fV) A wC 0 0 46 [.val (.ref 0), .val (.int x1), .val (.long y2), .unset, .val (.int x4), .val (.int x5)] [] σ (c_emitPolynomial_46 k6 x1 y2 x4 x5 σ) := by
  have hT := tabC hw "emitPolynomial"
  have hF := fsokC hw
  have wi := wiC hw
  unfold c_emitPolynomial_46
  refine am_blk (pc' := 6) (Ls' := [.val (.ref 0), .val (.int x1), .val (.long y2), .unset, .val (.int x4), .val (.int (x5 + (1 : Int32)))]) (St' := []) (σ' := σ) [.iinc 5 1, .goto (-43)] (by decide +kernel) hc hT hF wi (by exact rfl) ?_
  exact am_wk (Ls' := [.val (.ref 0), .val (.int x1), .val (.long y2), .unset, .val (.int x4), .val (.int (x5 + (1 : Int32)))]) (by simp [wkL]) (hk6 x1 y2 x4 (x5 + (1 : Int32)) σ)
def c_emitPolynomial_43 (k6 : Int32 → Int64 → Int32 → Int32 → Sg → Option Sg) (x1 : Int32) (y2 : Int64) (x5 : Int32) (σ : Sg) : Option Sg :=
  c_emitPolynomial_46 k6 x1 y2 (0 : Int32) x5 σ
set_option maxRecDepth 65536 in
set_option maxHeartbeats 4000000 in
theorem okc_c_emitPolynomial_43 (hw : WH a0 Z) (hc : Cx p s m meth c Z "BoolUnifierY" prog_1_method_53_code 6 none "emitPolynomial") (k6 : Int32 → Int64 → Int32 → Int32 → Sg → Option Sg) (hk6 : ∀ (x1 : Int32) (y2 : Int64) (x4 : Int32) (x5 : Int32) (σ : Sg), OkR p l e rm_c_emitPolynomial s m args below meth c Z "BoolUnifierY" fsC n0 h0 (FM Z "BoolUnifierY" fsC A wC h0 fV) A wC 0 0 6 [.val (.ref 0), .val (.int x1), .val (.long y2), .unset, .val (.int x4), .val (.int x5)] [] σ (k6 x1 y2 x4 x5 σ)) (x1 : Int32) (y2 : Int64) (x5 : Int32) (σ : Sg) : OkR p l e rm_c_emitPolynomial s m args below meth c Z "BoolUnifierY" fsC n0 h0 (FM Z "BoolUnifierY" fsC A wC h0 fV) A wC 0 0 43 [.val (.ref 0), .val (.int x1), .val (.long y2), .unset, .unset, .val (.int x5)] [] σ (c_emitPolynomial_43 k6 x1 y2 x5 σ) := by
  have hT := tabC hw "emitPolynomial"
  have hF := fsokC hw
  have wi := wiC hw
  unfold c_emitPolynomial_43
  refine am_blk (pc' := 46) (Ls' := [.val (.ref 0), .val (.int x1), .val (.long y2), .unset, .val (.int (0 : Int32)), .val (.int x5)]) (St' := []) (σ' := σ) [.iconst 0, .istore 4] (by decide +kernel) hc hT hF wi (by exact rfl) ?_
  exact am_wk (Ls' := [.val (.ref 0), .val (.int x1), .val (.long y2), .unset, .val (.int (0 : Int32)), .val (.int x5)]) (by simp [wkL]) (okc_c_emitPolynomial_46 hw hc k6 hk6 x1 y2 (0 : Int32) x5 σ)
def c_emitPolynomial_6 : Nat → Int32 → Int64 → Int32 → Int32 → Sg → Option Sg
  | 0, _, _, _, _, _ => none
  | fuel + 1, x1, y2, x4, x5, σ =>
    if x5 < (64 : Int32) then (if (XT.cmpL ((XT.ushrL y2 x5) &&& (1 : Int64)) (0 : Int64)) = 0 then (c_emitPolynomial_46 (c_emitPolynomial_6 fuel) x1 y2 x4 x5 σ) else ((c_emitMonomial x1 x5 σ).bind fun r1 => if x4 = 0 then ((c_emit x1 (11 : Int32) r1).bind fun r2 => c_emitPolynomial_43 (c_emitPolynomial_6 fuel) x1 y2 x5 r2) else (c_emitPolynomial_43 (c_emitPolynomial_6 fuel) x1 y2 x5 r1))) else (some σ)
set_option maxRecDepth 65536 in
set_option maxHeartbeats 4000000 in
theorem okc_c_emitPolynomial_6 (hw : WH a0 Z) (hc : Cx p s m meth c Z "BoolUnifierY" prog_1_method_53_code 6 none "emitPolynomial") : ∀ (fuel : Nat) (x1 : Int32) (y2 : Int64) (x4 : Int32) (x5 : Int32) (σ : Sg), OkR p l e rm_c_emitPolynomial s m args below meth c Z "BoolUnifierY" fsC n0 h0 (FM Z "BoolUnifierY" fsC A wC h0 fV) A wC 0 0 6 [.val (.ref 0), .val (.int x1), .val (.long y2), .unset, .val (.int x4), .val (.int x5)] [] σ (c_emitPolynomial_6 fuel x1 y2 x4 x5 σ) := by
  have hT := tabC hw "emitPolynomial"
  have hF := fsokC hw
  have wi := wiC hw
  intro fuel
  induction fuel with
  | zero => intro x1 y2 x4 x5 σ; exact am_none rfl
  | succ fuel ih =>
    intro x1 y2 x4 x5 σ
    rw [c_emitPolynomial_6]
    refine am_blk (pc' := 10) (Ls' := [.val (.ref 0), .val (.int x1), .val (.long y2), .unset, .val (.int x4), .val (.int x5)]) (St' := [.int (64 : Int32), .int x5]) (σ' := σ) [.iload 5, .bipush 64] (by decide +kernel) hc hT hF wi (by exact rfl) ?_
    refine am_icmp_ge (o := 42) (pc1 := 52) (by decide +kernel) hc (fun hq => ?_) (fun hq => ?_)
    · refine am_blk (pc' := 21) (Ls' := [.val (.ref 0), .val (.int x1), .val (.long y2), .unset, .val (.int x4), .val (.int x5)]) (St' := [.int (XT.cmpL ((XT.ushrL y2 x5) &&& (1 : Int64)) (0 : Int64))]) (σ' := σ) [.lload_n 2, .iload 5, .lushr, .lconst 1, .land, .lconst 0, .lcmp] (by decide +kernel) hc hT hF wi (by exact rfl) ?_
      refine am_if_eq (o := 25) (pc1 := 46) (by decide +kernel) hc (fun hq => ?_) (fun hq => ?_)
      · exact am_wk (Ls' := [.val (.ref 0), .val (.int x1), .val (.long y2), .unset, .val (.int x4), .val (.int x5)]) (by simp [wkL]) (okc_c_emitPolynomial_46 hw hc _ ih x1 y2 x4 x5 σ)
      · refine am_blk (pc' := 28) (Ls' := [.val (.ref 0), .val (.int x1), .val (.long y2), .unset, .val (.int x4), .val (.int x5)]) (St' := [.int x5, .int x1, .ref 0]) (σ' := σ) [.aload_n 0, .iload_n 1, .iload 5] (by decide +kernel) hc hT hF wi (by exact rfl) ?_
        refine am_callP_V (W0 := 0) (argsL := [.int x1, .int x5]) (rest := []) rfl (lk_C_212 hw) rfl wi (by decide +kernel) hc (SubW.refl _) rfl (by show arity "(II)V" 2 = true; decide +kernel) (ok_c_emitMonomial hw x1 x5 _) rfl ⟨by decide, by decide, Nat.le_of_eq rfl, rfl, rfl, by decide, by decide⟩ (fun r1 hr => ?_)
        refine am_blk (pc' := 33) (Ls' := [.val (.ref 0), .val (.int x1), .val (.long y2), .unset, .val (.int x4), .val (.int x5)]) (St' := [.int x4]) (σ' := r1) [.iload 4] (by decide +kernel) hc hT hF wi (by exact rfl) ?_
        refine am_if_ne (o := 10) (pc1 := 43) (by decide +kernel) hc (fun hq => ?_) (fun hq => ?_)
        · refine am_blk (pc' := 40) (Ls' := [.val (.ref 0), .val (.int x1), .val (.long y2), .unset, .val (.int x4), .val (.int x5)]) (St' := [.int (11 : Int32), .int x1, .ref 0]) (σ' := r1) [.aload_n 0, .iload_n 1, .bipush 11] (by decide +kernel) hc hT hF wi (by exact rfl) ?_
          refine am_callP_V (W0 := 0) (argsL := [.int x1, .int (11 : Int32)]) (rest := []) rfl (lk_C_205 hw) rfl wi (by decide +kernel) hc (SubW.refl _) rfl (by show arity "(II)V" 2 = true; decide +kernel) (ok_c_emit hw x1 (11 : Int32) _) rfl ⟨by decide, by decide, Nat.le_of_eq rfl, rfl, rfl, by decide, by decide⟩ (fun r2 hr => ?_)
          exact am_wk (Ls' := [.val (.ref 0), .val (.int x1), .val (.long y2), .unset, .unset, .val (.int x5)]) (by simp [wkL]) (okc_c_emitPolynomial_43 hw hc _ ih x1 y2 x5 r2)
        · exact am_wk (Ls' := [.val (.ref 0), .val (.int x1), .val (.long y2), .unset, .unset, .val (.int x5)]) (by simp [wkL]) (okc_c_emitPolynomial_43 hw hc _ ih x1 y2 x5 r1)
    · exact am_retV (by decide +kernel) hc (by decide) (by decide) (fun h W O => ⟨rfl, W, O⟩)
def c_emitPolynomial (x1 : Int32) (y2 : Int64) (σ : Sg) : Option Sg :=
  c_emitPolynomial_6 400 x1 y2 (1 : Int32) (0 : Int32) σ
set_option maxRecDepth 65536 in
set_option maxHeartbeats 4000000 in
theorem ok_c_emitPolynomial (hw : WH a0 Z) (x1 : Int32) (y2 : Int64) (σ : Sg) : ∀ x, c_emitPolynomial x1 y2 σ = some x → Con l Z "BoolUnifierY" fsC (⟨"BoolUnifierY", "emitPolynomial", "(IJ)V"⟩ : MethodName) prog_1_method_53_code 6 none rm_c_emitPolynomial wC [.ref 0, .int x1, .long y2] σ (fV x).1 (fV x).2 := by
  refine am_con pnC ?_
  intro p e s m below meth c A n0 h0 hc
  have hT := tabC hw "emitPolynomial"
  have hF := fsokC hw
  have wi := wiC hw
  unfold c_emitPolynomial
  refine am_blk (pc' := 6) (Ls' := [.val (.ref 0), .val (.int x1), .val (.long y2), .second, .val (.int (1 : Int32)), .val (.int (0 : Int32))]) (St' := []) (σ' := σ) [.iconst 1, .istore 4, .iconst 0, .istore 5] (by decide +kernel) hc hT hF wi (by exact rfl) ?_
  exact am_wk (Ls' := [.val (.ref 0), .val (.int x1), .val (.long y2), .unset, .val (.int (1 : Int32)), .val (.int (0 : Int32))]) (by simp [wkL]) (okc_c_emitPolynomial_6 hw hc 400 x1 y2 (1 : Int32) (0 : Int32) σ)
abbrev rm_c_printOne : Room := { frames := 5, cells := 0, slots := 0, locals := 76 }
def c_printOne (x1 : Int32) (σ : Sg) : Option Sg :=
  (c_validVar x1 σ).bind fun r1 => if r1.1 = 0 then (some r1.2) else (if inb x1 6 = true then ((c_anf (gj r1.2 3 (nx x1)) (si r1.2 12 (nx x1) (0 : Int32))).bind fun r2 => if (XT.cmpL r2.1 (0 : Int64)) = 0 then ((c_emit x1 (0 : Int32) r2.2).bind fun r3 => some r3) else ((c_emitPolynomial x1 r2.1 r2.2).bind fun r4 => some r4)) else none)
set_option maxRecDepth 65536 in
set_option maxHeartbeats 4000000 in
theorem ok_c_printOne (hw : WH a0 Z) (x1 : Int32) (σ : Sg) : ∀ x, c_printOne x1 σ = some x → Con l Z "BoolUnifierY" fsC (⟨"BoolUnifierY", "printOne", "(I)V"⟩ : MethodName) prog_1_method_52_code 4 none rm_c_printOne wC [.ref 0, .int x1] σ (fV x).1 (fV x).2 := by
  refine am_con pnC ?_
  intro p e s m below meth c A n0 h0 hc
  have hT := tabC hw "printOne"
  have hF := fsokC hw
  have wi := wiC hw
  unfold c_printOne
  refine am_blk (pc' := 2) (Ls' := [.val (.ref 0), .val (.int x1), .unset, .unset]) (St' := [.int x1, .ref 0]) (σ' := σ) [.aload_n 0, .iload_n 1] (by decide +kernel) hc hT hF wi (by exact rfl) ?_
  refine am_callP_I (W0 := 0) (argsL := [.int x1]) (rest := []) rfl (lk_C_124 hw) rfl wi (by decide +kernel) hc (SubW.refl _) rfl (by show arity "(I)Z" 1 = true; decide +kernel) (ok_c_validVar hw x1 _) rfl ⟨by decide, by decide, Nat.le_of_eq rfl, rfl, rfl, by decide, by decide⟩ (fun r1 hr => ?_)
  refine am_if_ne (o := 4) (pc1 := 9) (by decide +kernel) hc (fun hq => ?_) (fun hq => ?_)
  · exact am_retV (by decide +kernel) hc (by decide) (by decide) (fun h W O => ⟨rfl, W, O⟩)
  · refine am_blk (pc' := 15) (Ls' := [.val (.ref 0), .val (.int x1), .unset, .unset]) (St' := [.int (0 : Int32), .int x1, .ref 12]) (σ' := r1.2) [.aload_n 0, .getfield 45, .iload_n 1, .iconst 0] (by decide +kernel) hc hT hF wi (by exact rfl) ?_
    refine am_iastore (y := (0 : Int32)) rfl (by decide +kernel) hc rfl (fun hb0 => ?_)
    refine am_blk (pc' := 22) (Ls' := [.val (.ref 0), .val (.int x1), .unset, .unset]) (St' := [.int x1, .ref 3, .ref 0]) (σ' := si r1.2 12 (nx x1) (0 : Int32)) [.aload_n 0, .aload_n 0, .getfield 17, .iload_n 1] (by decide +kernel) hc hT hF wi (by exact rfl) ?_
    refine am_laload_k hb0 (by decide +kernel) hc rfl ?_
    refine am_callP_J (W0 := 0) (argsL := [.long (gj r1.2 3 (nx x1))]) (rest := []) rfl (lk_C_202 hw) rfl wi (by decide +kernel) hc (SubW.refl _) rfl (by show arity "(J)J" 1 = true; decide +kernel) (ok_c_anf hw (gj r1.2 3 (nx x1)) _) rfl ⟨by decide, by decide, Nat.le_of_eq rfl, rfl, rfl, by decide, by decide⟩ (fun r2 hr => ?_)
    refine am_blk (pc' := 30) (Ls' := [.val (.ref 0), .val (.int x1), .val (.long r2.1), .second]) (St' := [.int (XT.cmpL r2.1 (0 : Int64))]) (σ' := r2.2) [.lstore_n 2, .lload_n 2, .lconst 0, .lcmp] (by decide +kernel) hc hT hF wi (by exact rfl) ?_
    refine am_if_ne (o := 12) (pc1 := 42) (by decide +kernel) hc (fun hq => ?_) (fun hq => ?_)
    · refine am_blk (pc' := 36) (Ls' := [.val (.ref 0), .val (.int x1), .val (.long r2.1), .second]) (St' := [.int (0 : Int32), .int x1, .ref 0]) (σ' := r2.2) [.aload_n 0, .iload_n 1, .iconst 0] (by decide +kernel) hc hT hF wi (by exact rfl) ?_
      refine am_callP_V (W0 := 0) (argsL := [.int x1, .int (0 : Int32)]) (rest := []) rfl (lk_C_205 hw) rfl wi (by decide +kernel) hc (SubW.refl _) rfl (by show arity "(II)V" 2 = true; decide +kernel) (ok_c_emit hw x1 (0 : Int32) _) rfl ⟨by decide, by decide, Nat.le_of_eq rfl, rfl, rfl, by decide, by decide⟩ (fun r3 hr => ?_)
      refine am_blk (pc' := 48) (Ls' := [.val (.ref 0), .val (.int x1), .val (.long r2.1), .second]) (St' := []) (σ' := r3) [.goto 9] (by decide +kernel) hc hT hF wi (by exact rfl) ?_
      exact am_retV (by decide +kernel) hc (by decide) (by decide) (fun h W O => ⟨rfl, W, O⟩)
    · refine am_blk (pc' := 45) (Ls' := [.val (.ref 0), .val (.int x1), .val (.long r2.1), .second]) (St' := [.long r2.1, .int x1, .ref 0]) (σ' := r2.2) [.aload_n 0, .iload_n 1, .lload_n 2] (by decide +kernel) hc hT hF wi (by exact rfl) ?_
      refine am_callP_V (W0 := 0) (argsL := [.int x1, .long r2.1]) (rest := []) rfl (lk_C_208 hw) rfl wi (by decide +kernel) hc (SubW.refl _) rfl (by show arity "(IJ)V" 2 = true; decide +kernel) (ok_c_emitPolynomial hw x1 r2.1 _) rfl ⟨by decide, by decide, Nat.le_of_eq rfl, rfl, rfl, by decide, by decide⟩ (fun r4 hr => ?_)
      exact am_retV (by decide +kernel) hc (by decide) (by decide) (fun h W O => ⟨rfl, W, O⟩)
abbrev rm_c_reprintAll : Room := { frames := 6, cells := 0, slots := 0, locals := 91 }
def c_reprintAll_2 : Nat → Int32 → Sg → Option Sg
  | 0, _, _ => none
  | fuel + 1, x1, σ =>
    if x1 < (6 : Int32) then ((c_printOne x1 σ).bind fun r1 => c_reprintAll_2 fuel (x1 + (1 : Int32)) r1) else (some σ)
set_option maxRecDepth 65536 in
set_option maxHeartbeats 4000000 in
theorem okc_c_reprintAll_2 (hw : WH a0 Z) (hc : Cx p s m meth c Z "BoolUnifierY" prog_1_method_51_code 2 none "reprintAll") : ∀ (fuel : Nat) (x1 : Int32) (σ : Sg), OkR p l e rm_c_reprintAll s m args below meth c Z "BoolUnifierY" fsC n0 h0 (FM Z "BoolUnifierY" fsC A wC h0 fV) A wC 0 0 2 [.val (.ref 0), .val (.int x1)] [] σ (c_reprintAll_2 fuel x1 σ) := by
  have hT := tabC hw "reprintAll"
  have hF := fsokC hw
  have wi := wiC hw
  intro fuel
  induction fuel with
  | zero => intro x1 σ; exact am_none rfl
  | succ fuel ih =>
    intro x1 σ
    rw [c_reprintAll_2]
    refine am_blk (pc' := 5) (Ls' := [.val (.ref 0), .val (.int x1)]) (St' := [.int (6 : Int32), .int x1]) (σ' := σ) [.iload_n 1, .bipush 6] (by decide +kernel) hc hT hF wi (by exact rfl) ?_
    refine am_icmp_ge (o := 14) (pc1 := 19) (by decide +kernel) hc (fun hq => ?_) (fun hq => ?_)
    · refine am_blk (pc' := 10) (Ls' := [.val (.ref 0), .val (.int x1)]) (St' := [.int x1, .ref 0]) (σ' := σ) [.aload_n 0, .iload_n 1] (by decide +kernel) hc hT hF wi (by exact rfl) ?_
      refine am_callP_V (W0 := 0) (argsL := [.int x1]) (rest := []) rfl (lk_C_199 hw) rfl wi (by decide +kernel) hc (SubW.refl _) rfl (by show arity "(I)V" 1 = true; decide +kernel) (ok_c_printOne hw x1 _) rfl ⟨by decide, by decide, Nat.le_of_eq rfl, rfl, rfl, by decide, by decide⟩ (fun r1 hr => ?_)
      refine am_blk (pc' := 2) (Ls' := [.val (.ref 0), .val (.int (x1 + (1 : Int32)))]) (St' := []) (σ' := r1) [.iinc 1 1, .goto (-14)] (by decide +kernel) hc hT hF wi (by exact rfl) ?_
      exact am_wk (Ls' := [.val (.ref 0), .val (.int (x1 + (1 : Int32)))]) (by simp [wkL]) (ih (x1 + (1 : Int32)) r1)
    · exact am_retV (by decide +kernel) hc (by decide) (by decide) (fun h W O => ⟨rfl, W, O⟩)
def c_reprintAll (σ : Sg) : Option Sg :=
  c_reprintAll_2 400 (0 : Int32) σ
set_option maxRecDepth 65536 in
set_option maxHeartbeats 4000000 in
theorem ok_c_reprintAll (hw : WH a0 Z) (σ : Sg) : ∀ x, c_reprintAll σ = some x → Con l Z "BoolUnifierY" fsC (⟨"BoolUnifierY", "reprintAll", "()V"⟩ : MethodName) prog_1_method_51_code 2 none rm_c_reprintAll wC [.ref 0] σ (fV x).1 (fV x).2 := by
  refine am_con pnC ?_
  intro p e s m below meth c A n0 h0 hc
  have hT := tabC hw "reprintAll"
  have hF := fsokC hw
  have wi := wiC hw
  unfold c_reprintAll
  refine am_blk (pc' := 2) (Ls' := [.val (.ref 0), .val (.int (0 : Int32))]) (St' := []) (σ' := σ) [.iconst 0, .istore_n 1] (by decide +kernel) hc hT hF wi (by exact rfl) ?_
  exact am_wk (Ls' := [.val (.ref 0), .val (.int (0 : Int32))]) (by simp [wkL]) (okc_c_reprintAll_2 hw hc 400 (0 : Int32) σ)
abbrev rm_c_resetResults : Room := { frames := 7, cells := 0, slots := 0, locals := 104 }
def c_resetResults (σ : Sg) : Option Sg :=
  (c_setIdentity (si (sj (si (si σ 0 13 (0 : Int32)) 0 14 (0 : Int32)) 0 15 (0 : Int64)) 0 16 (0 : Int32))).bind fun r1 => (c_reprintAll r1).bind fun r2 => some r2
set_option maxRecDepth 65536 in
set_option maxHeartbeats 4000000 in
theorem ok_c_resetResults (hw : WH a0 Z) (σ : Sg) : ∀ x, c_resetResults σ = some x → Con l Z "BoolUnifierY" fsC (⟨"BoolUnifierY", "resetResults", "()V"⟩ : MethodName) prog_1_method_21_code 1 none rm_c_resetResults wC [.ref 0] σ (fV x).1 (fV x).2 := by
  refine am_con pnC ?_
  intro p e s m below meth c A n0 h0 hc
  have hT := tabC hw "resetResults"
  have hF := fsokC hw
  have wi := wiC hw
  unfold c_resetResults
  refine am_blk (pc' := 16) (Ls' := [.val (.ref 0)]) (St' := [.ref 0]) (σ' := sj (si (si σ 0 13 (0 : Int32)) 0 14 (0 : Int32)) 0 15 (0 : Int64)) [.aload_n 0, .iconst 0, .putfield 118, .aload_n 0, .iconst 0, .putfield 105, .aload_n 0, .lconst 0, .putfield 108, .aload_n 0] (by decide +kernel) hc hT hF wi (by exact rfl) ?_
  refine am_blk (pc' := 21) (Ls' := [.val (.ref 0)]) (St' := [.ref 0]) (σ' := si (sj (si (si σ 0 13 (0 : Int32)) 0 14 (0 : Int32)) 0 15 (0 : Int64)) 0 16 (0 : Int32)) [.iconst 0, .putfield 134, .aload_n 0] (by decide +kernel) hc hT hF wi (by exact rfl) ?_
  refine am_callP_V (W0 := 0) (argsL := []) (rest := []) rfl (lk_C_112 hw) rfl wi (by decide +kernel) hc (SubW.refl _) rfl (by show arity "()V" 0 = true; decide +kernel) (ok_c_setIdentity hw _) rfl ⟨by decide, by decide, Nat.le_of_eq rfl, rfl, rfl, by decide, by decide⟩ (fun r1 hr => ?_)
  refine am_blk (pc' := 25) (Ls' := [.val (.ref 0)]) (St' := [.ref 0]) (σ' := r1) [.aload_n 0] (by decide +kernel) hc hT hF wi (by exact rfl) ?_
  refine am_callP_V (W0 := 0) (argsL := []) (rest := []) rfl (lk_C_121 hw) rfl wi (by decide +kernel) hc (SubW.refl _) rfl (by show arity "()V" 0 = true; decide +kernel) (ok_c_reprintAll hw _) rfl ⟨by decide, by decide, Nat.le_of_eq rfl, rfl, rfl, by decide, by decide⟩ (fun r2 hr => ?_)
  exact am_retV (by decide +kernel) hc (by decide) (by decide) (fun h W O => ⟨rfl, W, O⟩)
abbrev rm_c_init : Room := { frames := 8, cells := 12, slots := 2698, locals := 116 }
def c_init (x1 : Int32) : Option Sg :=
  (c_clampCapacity x1 zs).bind fun r1 => (c_clearAllSlots (si r1.2 0 12 r1.1)).bind fun r2 => (c_resetResults r2).bind fun r3 => some r3
set_option maxRecDepth 65536 in
set_option maxHeartbeats 4000000 in
theorem ok_c_init (hw : WH a0 Z) (x1 : Int32) : ∀ x, c_init x1 = some x → ConI l Z "BoolUnifierY" fsC arrsC (⟨"BoolUnifierY", "<init>", "(I)V"⟩ : MethodName) prog_1_method_1_code 2 rm_c_init [.int x1] x := by
  refine am_conI pnC ?_
  intro p e s m below meth c A n0 h0 hn hc
  have hAE0 : AE h0 A A 0 := ⟨rfl, fun k q1 q2 => by omega⟩
  have hT := tabI hw
  have hF := fsokC hw
  have wi := wiC hw
  unfold c_init
  refine am_blk (pc' := 1) (Ls' := [.val (.ref 0), .val (.int x1)]) (St' := [.ref 0]) (σ' := zs) [.aload_n 0] (by decide +kernel) hc hT hF wi (by exact rfl) ?_
  refine am_objinit (W0 := 0) (by decide +kernel) hc (hw _ (List.mem_of_getElem? (i := 6) rfl)) (hw _ (List.mem_of_getElem? (i := 7) rfl)) (hw _ (List.mem_of_getElem? (i := 8) rfl)) rfl ⟨by decide, by decide, Nat.le_of_eq rfl⟩ ?_
  refine am_blk (pc' := 7) (Ls' := [.val (.ref 0), .val (.int x1)]) (St' := [.int (96 : Int32), .ref 0]) (σ' := zs) [.aload_n 0, .bipush 96] (by decide +kernel) hc hT hF wi (by exact rfl) ?_
  refine am_newarr (a := 0) (n := 96) (aty := .byte) (by decide +kernel) hc (hw _ (List.mem_of_getElem? (i := 9) rfl)) rfl (by decide) rfl ⟨rfl, rfl⟩ hAE0 hn ⟨by decide, by decide, by decide⟩ (fun A hAE1 => ?_)
  refine am_putref (a := 0) (j := 0) (by decide +kernel) hc hF wi rfl (by decide) (hw _ (List.mem_of_getElem? (i := 10) rfl)) (Or.inl (hw _ (List.mem_of_getElem? (i := 11) rfl))) ?_
  refine am_blk (pc' := 14) (Ls' := [.val (.ref 0), .val (.int x1)]) (St' := [.int (3 : Int32), .ref 0]) (σ' := zs) [.aload_n 0, .iconst 3] (by decide +kernel) hc hT hF wi (by exact rfl) ?_
  refine am_newarr (a := 1) (n := 3) (aty := .int) (by decide +kernel) hc (hw _ (List.mem_of_getElem? (i := 12) rfl)) rfl (by decide) rfl ⟨rfl, rfl⟩ hAE1 hn ⟨by decide, by decide, by decide⟩ (fun A hAE2 => ?_)
  refine am_putref (a := 1) (j := 1) (by decide +kernel) hc hF wi rfl (by decide) (hw _ (List.mem_of_getElem? (i := 13) rfl)) (Or.inl (hw _ (List.mem_of_getElem? (i := 14) rfl))) ?_
  refine am_blk (pc' := 22) (Ls' := [.val (.ref 0), .val (.int x1)]) (St' := [.int (6 : Int32), .ref 0]) (σ' := zs) [.aload_n 0, .bipush 6] (by decide +kernel) hc hT hF wi (by exact rfl) ?_
  refine am_newarr (a := 2) (n := 6) (aty := .long) (by decide +kernel) hc (hw _ (List.mem_of_getElem? (i := 15) rfl)) rfl (by decide) rfl ⟨rfl, rfl⟩ hAE2 hn ⟨by decide, by decide, by decide⟩ (fun A hAE3 => ?_)
  refine am_putref (a := 2) (j := 2) (by decide +kernel) hc hF wi rfl (by decide) (hw _ (List.mem_of_getElem? (i := 16) rfl)) (Or.inl (hw _ (List.mem_of_getElem? (i := 17) rfl))) ?_
  refine am_blk (pc' := 29) (Ls' := [.val (.ref 0), .val (.int x1)]) (St' := [.int (3 : Int32), .ref 0]) (σ' := zs) [.aload_n 0, .iconst 3] (by decide +kernel) hc hT hF wi (by exact rfl) ?_
  refine am_newarr (a := 3) (n := 3) (aty := .int) (by decide +kernel) hc (hw _ (List.mem_of_getElem? (i := 12) rfl)) rfl (by decide) rfl ⟨rfl, rfl⟩ hAE3 hn ⟨by decide, by decide, by decide⟩ (fun A hAE4 => ?_)
  refine am_putref (a := 3) (j := 3) (by decide +kernel) hc hF wi rfl (by decide) (hw _ (List.mem_of_getElem? (i := 18) rfl)) (Or.inl (hw _ (List.mem_of_getElem? (i := 19) rfl))) ?_
  refine am_blk (pc' := 37) (Ls' := [.val (.ref 0), .val (.int x1)]) (St' := [.int (96 : Int32), .ref 0]) (σ' := zs) [.aload_n 0, .bipush 96] (by decide +kernel) hc hT hF wi (by exact rfl) ?_
  refine am_newarr (a := 4) (n := 96) (aty := .long) (by decide +kernel) hc (hw _ (List.mem_of_getElem? (i := 15) rfl)) rfl (by decide) rfl ⟨rfl, rfl⟩ hAE4 hn ⟨by decide, by decide, by decide⟩ (fun A hAE5 => ?_)
  refine am_putref (a := 4) (j := 4) (by decide +kernel) hc hF wi rfl (by decide) (hw _ (List.mem_of_getElem? (i := 20) rfl)) (Or.inl (hw _ (List.mem_of_getElem? (i := 21) rfl))) ?_
  refine am_blk (pc' := 45) (Ls' := [.val (.ref 0), .val (.int x1)]) (St' := [.int (96 : Int32), .ref 0]) (σ' := zs) [.aload_n 0, .bipush 96] (by decide +kernel) hc hT hF wi (by exact rfl) ?_
  refine am_newarr (a := 5) (n := 96) (aty := .int) (by decide +kernel) hc (hw _ (List.mem_of_getElem? (i := 12) rfl)) rfl (by decide) rfl ⟨rfl, rfl⟩ hAE5 hn ⟨by decide, by decide, by decide⟩ (fun A hAE6 => ?_)
  refine am_putref (a := 5) (j := 5) (by decide +kernel) hc hF wi rfl (by decide) (hw _ (List.mem_of_getElem? (i := 22) rfl)) (Or.inl (hw _ (List.mem_of_getElem? (i := 23) rfl))) ?_
  refine am_blk (pc' := 53) (Ls' := [.val (.ref 0), .val (.int x1)]) (St' := [.int (6 : Int32), .ref 0]) (σ' := zs) [.aload_n 0, .bipush 6] (by decide +kernel) hc hT hF wi (by exact rfl) ?_
  refine am_newarr (a := 6) (n := 6) (aty := .int) (by decide +kernel) hc (hw _ (List.mem_of_getElem? (i := 12) rfl)) rfl (by decide) rfl ⟨rfl, rfl⟩ hAE6 hn ⟨by decide, by decide, by decide⟩ (fun A hAE7 => ?_)
  refine am_putref (a := 6) (j := 6) (by decide +kernel) hc hF wi rfl (by decide) (hw _ (List.mem_of_getElem? (i := 24) rfl)) (Or.inl (hw _ (List.mem_of_getElem? (i := 25) rfl))) ?_
  refine am_blk (pc' := 61) (Ls' := [.val (.ref 0), .val (.int x1)]) (St' := [.int (6 : Int32), .ref 0]) (σ' := zs) [.aload_n 0, .bipush 6] (by decide +kernel) hc hT hF wi (by exact rfl) ?_
  refine am_newarr (a := 7) (n := 6) (aty := .long) (by decide +kernel) hc (hw _ (List.mem_of_getElem? (i := 15) rfl)) rfl (by decide) rfl ⟨rfl, rfl⟩ hAE7 hn ⟨by decide, by decide, by decide⟩ (fun A hAE8 => ?_)
  refine am_putref (a := 7) (j := 7) (by decide +kernel) hc hF wi rfl (by decide) (hw _ (List.mem_of_getElem? (i := 26) rfl)) (Or.inl (hw _ (List.mem_of_getElem? (i := 27) rfl))) ?_
  refine am_blk (pc' := 69) (Ls' := [.val (.ref 0), .val (.int x1)]) (St' := [.int (6 : Int32), .ref 0]) (σ' := zs) [.aload_n 0, .bipush 6] (by decide +kernel) hc hT hF wi (by exact rfl) ?_
  refine am_newarr (a := 8) (n := 6) (aty := .long) (by decide +kernel) hc (hw _ (List.mem_of_getElem? (i := 15) rfl)) rfl (by decide) rfl ⟨rfl, rfl⟩ hAE8 hn ⟨by decide, by decide, by decide⟩ (fun A hAE9 => ?_)
  refine am_putref (a := 8) (j := 8) (by decide +kernel) hc hF wi rfl (by decide) (hw _ (List.mem_of_getElem? (i := 28) rfl)) (Or.inl (hw _ (List.mem_of_getElem? (i := 29) rfl))) ?_
  refine am_blk (pc' := 77) (Ls' := [.val (.ref 0), .val (.int x1)]) (St' := [.int (64 : Int32), .ref 0]) (σ' := zs) [.aload_n 0, .bipush 64] (by decide +kernel) hc hT hF wi (by exact rfl) ?_
  refine am_newarr (a := 9) (n := 64) (aty := .long) (by decide +kernel) hc (hw _ (List.mem_of_getElem? (i := 15) rfl)) rfl (by decide) rfl ⟨rfl, rfl⟩ hAE9 hn ⟨by decide, by decide, by decide⟩ (fun A hAE10 => ?_)
  refine am_putref (a := 9) (j := 9) (by decide +kernel) hc hF wi rfl (by decide) (hw _ (List.mem_of_getElem? (i := 30) rfl)) (Or.inl (hw _ (List.mem_of_getElem? (i := 31) rfl))) ?_
  refine am_blk (pc' := 86) (Ls' := [.val (.ref 0), .val (.int x1)]) (St' := [.int (2310 : Int32), .ref 0]) (σ' := zs) [.aload_n 0, .sipush 2310] (by decide +kernel) hc hT hF wi (by exact rfl) ?_
  refine am_newarr (a := 10) (n := 2310) (aty := .byte) (by decide +kernel) hc (hw _ (List.mem_of_getElem? (i := 9) rfl)) rfl (by decide) rfl ⟨rfl, rfl⟩ hAE10 hn ⟨by decide, by decide, by decide⟩ (fun A hAE11 => ?_)
  refine am_putref (a := 10) (j := 10) (by decide +kernel) hc hF wi rfl (by decide) (hw _ (List.mem_of_getElem? (i := 32) rfl)) (Or.inl (hw _ (List.mem_of_getElem? (i := 33) rfl))) ?_
  refine am_blk (pc' := 94) (Ls' := [.val (.ref 0), .val (.int x1)]) (St' := [.int (6 : Int32), .ref 0]) (σ' := zs) [.aload_n 0, .bipush 6] (by decide +kernel) hc hT hF wi (by exact rfl) ?_
  refine am_newarr (a := 11) (n := 6) (aty := .int) (by decide +kernel) hc (hw _ (List.mem_of_getElem? (i := 12) rfl)) rfl (by decide) rfl ⟨rfl, rfl⟩ hAE11 hn ⟨by decide, by decide, by decide⟩ (fun A hAE12 => ?_)
  refine am_putref (a := 11) (j := 11) (by decide +kernel) hc hF wi rfl (by decide) (hw _ (List.mem_of_getElem? (i := 34) rfl)) (Or.inl (hw _ (List.mem_of_getElem? (i := 35) rfl))) ?_
  refine am_blk (pc' := 102) (Ls' := [.val (.ref 0), .val (.int x1)]) (St' := [.int x1, .ref 0, .ref 0]) (σ' := zs) [.aload_n 0, .aload_n 0, .iload_n 1] (by decide +kernel) hc hT hF wi (by exact rfl) ?_
  refine am_callP_I (W0 := 1) (argsL := [.int x1]) (rest := [.ref 0]) rfl (lk_C_48 hw) rfl wi (by decide +kernel) hc (SubW.refl _) rfl (by show arity "(I)I" 1 = true; decide +kernel) (ok_c_clampCapacity hw x1 _) rfl ⟨by decide, by decide, Nat.le_of_eq rfl, rfl, rfl, by decide, by decide⟩ (fun r1 hr => ?_)
  refine am_blk (pc' := 109) (Ls' := [.val (.ref 0), .val (.int x1)]) (St' := [.ref 0]) (σ' := si r1.2 0 12 r1.1) [.putfield 52, .aload_n 0] (by decide +kernel) hc hT hF wi (by exact rfl) ?_
  refine am_callP_V (W0 := 0) (argsL := []) (rest := []) rfl (lk_C_56 hw) rfl wi (by decide +kernel) hc (SubW.refl _) rfl (by show arity "()V" 0 = true; decide +kernel) (ok_c_clearAllSlots hw _) rfl ⟨by decide, by decide, Nat.le_of_eq rfl, rfl, rfl, by decide, by decide⟩ (fun r2 hr => ?_)
  refine am_blk (pc' := 113) (Ls' := [.val (.ref 0), .val (.int x1)]) (St' := [.ref 0]) (σ' := r2) [.aload_n 0] (by decide +kernel) hc hT hF wi (by exact rfl) ?_
  refine am_callP_V (W0 := 0) (argsL := []) (rest := []) rfl (lk_C_59 hw) rfl wi (by decide +kernel) hc (SubW.refl _) rfl (by show arity "()V" 0 = true; decide +kernel) (ok_c_resetResults hw _) rfl ⟨by decide, by decide, Nat.le_of_eq rfl, rfl, rfl, by decide, by decide⟩ (fun r3 hr => ?_)
  exact am_retV (by decide +kernel) hc (by decide) (by decide) (fun h W O => FI_of hAE12 h W O)
abbrev rm_c_length : Room := { frames := 1, cells := 0, slots := 0, locals := 13 }
def c_length (x1 : Int32) (σ : Sg) : Option (Int32 × Sg) :=
  (c_validSlot x1 σ).bind fun r1 => if r1.1 = 0 then (some ((-1 : Int32), r1.2)) else (if inb x1 3 = true then (some (gi r1.2 2 (nx x1), r1.2)) else none)
set_option maxRecDepth 65536 in
set_option maxHeartbeats 4000000 in
theorem ok_c_length (hw : WH a0 Z) (x1 : Int32) (σ : Sg) : ∀ x, c_length x1 σ = some x → Con l Z "BoolUnifierY" fsC (⟨"BoolUnifierY", "length", "(I)I"⟩ : MethodName) prog_1_method_5_code 2 (some .int) rm_c_length wC [.ref 0, .int x1] σ (fI x).1 (fI x).2 := by
  refine am_con pnC ?_
  intro p e s m below meth c A n0 h0 hc
  have hT := tabC hw "length"
  have hF := fsokC hw
  have wi := wiC hw
  unfold c_length
  refine am_blk (pc' := 2) (Ls' := [.val (.ref 0), .val (.int x1)]) (St' := [.int x1, .ref 0]) (σ' := σ) [.aload_n 0, .iload_n 1] (by decide +kernel) hc hT hF wi (by exact rfl) ?_
  refine am_callP_I (W0 := 0) (argsL := [.int x1]) (rest := []) rfl (lk_C_62 hw) rfl wi (by decide +kernel) hc (SubW.refl _) rfl (by show arity "(I)Z" 1 = true; decide +kernel) (ok_c_validSlot hw x1 _) rfl ⟨by decide, by decide, Nat.le_of_eq rfl, rfl, rfl, by decide, by decide⟩ (fun r1 hr => ?_)
  refine am_if_ne (o := 5) (pc1 := 10) (by decide +kernel) hc (fun hq => ?_) (fun hq => ?_)
  · refine am_blk (pc' := 9) (Ls' := [.val (.ref 0), .val (.int x1)]) (St' := [.int (-1 : Int32)]) (σ' := r1.2) [.iconst (-1)] (by decide +kernel) hc hT hF wi (by exact rfl) ?_
    exact am_retI (by decide +kernel) hc (by decide) (by decide) (fun h W O => ⟨rfl, W, O⟩)
  · refine am_blk (pc' := 15) (Ls' := [.val (.ref 0), .val (.int x1)]) (St' := [.int x1, .ref 2]) (σ' := r1.2) [.aload_n 0, .getfield 13, .iload_n 1] (by decide +kernel) hc hT hF wi (by exact rfl) ?_
    refine am_iaload (by decide +kernel) hc rfl (fun hb0 => ?_)
    exact am_retI (by decide +kernel) hc (by decide) (by decide) (fun h W O => ⟨rfl, W, O⟩)
abbrev rm_c_depth : Room := { frames := 1, cells := 0, slots := 0, locals := 13 }
def c_depth (x1 : Int32) (σ : Sg) : Option (Int32 × Sg) :=
  (c_validSlot x1 σ).bind fun r1 => if r1.1 = 0 then (some ((-1 : Int32), r1.2)) else (if inb x1 3 = true then (some (gi r1.2 4 (nx x1), r1.2)) else none)
set_option maxRecDepth 65536 in
set_option maxHeartbeats 4000000 in
theorem ok_c_depth (hw : WH a0 Z) (x1 : Int32) (σ : Sg) : ∀ x, c_depth x1 σ = some x → Con l Z "BoolUnifierY" fsC (⟨"BoolUnifierY", "depth", "(I)I"⟩ : MethodName) prog_1_method_7_code 2 (some .int) rm_c_depth wC [.ref 0, .int x1] σ (fI x).1 (fI x).2 := by
  refine am_con pnC ?_
  intro p e s m below meth c A n0 h0 hc
  have hT := tabC hw "depth"
  have hF := fsokC hw
  have wi := wiC hw
  unfold c_depth
  refine am_blk (pc' := 2) (Ls' := [.val (.ref 0), .val (.int x1)]) (St' := [.int x1, .ref 0]) (σ' := σ) [.aload_n 0, .iload_n 1] (by decide +kernel) hc hT hF wi (by exact rfl) ?_
  refine am_callP_I (W0 := 0) (argsL := [.int x1]) (rest := []) rfl (lk_C_62 hw) rfl wi (by decide +kernel) hc (SubW.refl _) rfl (by show arity "(I)Z" 1 = true; decide +kernel) (ok_c_validSlot hw x1 _) rfl ⟨by decide, by decide, Nat.le_of_eq rfl, rfl, rfl, by decide, by decide⟩ (fun r1 hr => ?_)
  refine am_if_ne (o := 5) (pc1 := 10) (by decide +kernel) hc (fun hq => ?_) (fun hq => ?_)
  · refine am_blk (pc' := 9) (Ls' := [.val (.ref 0), .val (.int x1)]) (St' := [.int (-1 : Int32)]) (σ' := r1.2) [.iconst (-1)] (by decide +kernel) hc hT hF wi (by exact rfl) ?_
    exact am_retI (by decide +kernel) hc (by decide) (by decide) (fun h W O => ⟨rfl, W, O⟩)
  · refine am_blk (pc' := 15) (Ls' := [.val (.ref 0), .val (.int x1)]) (St' := [.int x1, .ref 4]) (σ' := r1.2) [.aload_n 0, .getfield 21, .iload_n 1] (by decide +kernel) hc hT hF wi (by exact rfl) ?_
    refine am_iaload (by decide +kernel) hc rfl (fun hb0 => ?_)
    exact am_retI (by decide +kernel) hc (by decide) (by decide) (fun h W O => ⟨rfl, W, O⟩)
abbrev rm_c_isComplete : Room := { frames := 1, cells := 0, slots := 0, locals := 13 }
def c_isComplete (x1 : Int32) (σ : Sg) : Option (Int32 × Sg) :=
  (c_validSlot x1 σ).bind fun r1 => if r1.1 = 0 then (some ((0 : Int32), r1.2)) else (if inb x1 3 = true then (if (gi r1.2 4 (nx x1)) = (1 : Int32) then (if 0 < (gi r1.2 2 (nx x1)) then (some ((1 : Int32), r1.2)) else (some ((0 : Int32), r1.2))) else (some ((0 : Int32), r1.2))) else none)
set_option maxRecDepth 65536 in
set_option maxHeartbeats 4000000 in
theorem ok_c_isComplete (hw : WH a0 Z) (x1 : Int32) (σ : Sg) : ∀ x, c_isComplete x1 σ = some x → Con l Z "BoolUnifierY" fsC (⟨"BoolUnifierY", "isComplete", "(I)Z"⟩ : MethodName) prog_1_method_30_code 2 (some .boolean) rm_c_isComplete wC [.ref 0, .int x1] σ (fI x).1 (fI x).2 := by
  refine am_con pnC ?_
  intro p e s m below meth c A n0 h0 hc
  have hT := tabC hw "isComplete"
  have hF := fsokC hw
  have wi := wiC hw
  unfold c_isComplete
  refine am_blk (pc' := 2) (Ls' := [.val (.ref 0), .val (.int x1)]) (St' := [.int x1, .ref 0]) (σ' := σ) [.aload_n 0, .iload_n 1] (by decide +kernel) hc hT hF wi (by exact rfl) ?_
  refine am_callP_I (W0 := 0) (argsL := [.int x1]) (rest := []) rfl (lk_C_62 hw) rfl wi (by decide +kernel) hc (SubW.refl _) rfl (by show arity "(I)Z" 1 = true; decide +kernel) (ok_c_validSlot hw x1 _) rfl ⟨by decide, by decide, Nat.le_of_eq rfl, rfl, rfl, by decide, by decide⟩ (fun r1 hr => ?_)
  refine am_if_ne (o := 5) (pc1 := 10) (by decide +kernel) hc (fun hq => ?_) (fun hq => ?_)
  · refine am_blk (pc' := 9) (Ls' := [.val (.ref 0), .val (.int x1)]) (St' := [.int (0 : Int32)]) (σ' := r1.2) [.iconst 0] (by decide +kernel) hc hT hF wi (by exact rfl) ?_
    exact am_retZ (by decide +kernel) hc (by decide) (by decide) (fun h W O => ⟨rfl, W, O⟩)
  · refine am_blk (pc' := 15) (Ls' := [.val (.ref 0), .val (.int x1)]) (St' := [.int x1, .ref 4]) (σ' := r1.2) [.aload_n 0, .getfield 21, .iload_n 1] (by decide +kernel) hc hT hF wi (by exact rfl) ?_
    refine am_iaload (by decide +kernel) hc rfl (fun hb0 => ?_)
    refine am_blk (pc' := 17) (Ls' := [.val (.ref 0), .val (.int x1)]) (St' := [.int (1 : Int32), .int (gi r1.2 4 (nx x1))]) (σ' := r1.2) [.iconst 1] (by decide +kernel) hc hT hF wi (by exact rfl) ?_
    refine am_icmp_ne (o := 16) (pc1 := 33) (by decide +kernel) hc (fun hq => ?_) (fun hq => ?_)
    · refine am_blk (pc' := 25) (Ls' := [.val (.ref 0), .val (.int x1)]) (St' := [.int x1, .ref 2]) (σ' := r1.2) [.aload_n 0, .getfield 13, .iload_n 1] (by decide +kernel) hc hT hF wi (by exact rfl) ?_
      refine am_iaload_k hb0 (by decide +kernel) hc rfl ?_
      refine am_if_le (o := 7) (pc1 := 33) (by decide +kernel) hc (fun hq => ?_) (fun hq => ?_)
      · refine am_blk (pc' := 34) (Ls' := [.val (.ref 0), .val (.int x1)]) (St' := [.int (1 : Int32)]) (σ' := r1.2) [.iconst 1, .goto 4] (by decide +kernel) hc hT hF wi (by exact rfl) ?_
        exact am_retZ (by decide +kernel) hc (by decide) (by decide) (fun h W O => ⟨rfl, W, O⟩)
      · refine am_blk (pc' := 34) (Ls' := [.val (.ref 0), .val (.int x1)]) (St' := [.int (0 : Int32)]) (σ' := r1.2) [.iconst 0] (by decide +kernel) hc hT hF wi (by exact rfl) ?_
        exact am_retZ (by decide +kernel) hc (by decide) (by decide) (fun h W O => ⟨rfl, W, O⟩)
    · refine am_blk (pc' := 34) (Ls' := [.val (.ref 0), .val (.int x1)]) (St' := [.int (0 : Int32)]) (σ' := r1.2) [.iconst 0] (by decide +kernel) hc hT hF wi (by exact rfl) ?_
      exact am_retZ (by decide +kernel) hc (by decide) (by decide) (fun h W O => ⟨rfl, W, O⟩)
abbrev rm_c_indexOf : Room := { frames := 1, cells := 0, slots := 0, locals := 13 }
def c_indexOf (x1 : Int32) (x2 : Int32) (σ : Sg) : Option (Int32 × Sg) :=
  (c_validSlot x1 σ).bind fun r1 => if r1.1 = 0 then (some ((-1 : Int32), r1.2)) else (if x2 < 0 then (some ((-1 : Int32), r1.2)) else (if x2 < (32 : Int32) then (some ((x1 <<< ((5 : Int32) &&& 31)) + x2, r1.2)) else (some ((-1 : Int32), r1.2))))
set_option maxRecDepth 65536 in
set_option maxHeartbeats 4000000 in
theorem ok_c_indexOf (hw : WH a0 Z) (x1 : Int32) (x2 : Int32) (σ : Sg) : ∀ x, c_indexOf x1 x2 σ = some x → Con l Z "BoolUnifierY" fsC (⟨"BoolUnifierY", "indexOf", "(II)I"⟩ : MethodName) prog_1_method_36_code 3 (some .int) rm_c_indexOf wC [.ref 0, .int x1, .int x2] σ (fI x).1 (fI x).2 := by
  refine am_con pnC ?_
  intro p e s m below meth c A n0 h0 hc
  have hT := tabC hw "indexOf"
  have hF := fsokC hw
  have wi := wiC hw
  unfold c_indexOf
  refine am_blk (pc' := 2) (Ls' := [.val (.ref 0), .val (.int x1), .val (.int x2)]) (St' := [.int x1, .ref 0]) (σ' := σ) [.aload_n 0, .iload_n 1] (by decide +kernel) hc hT hF wi (by exact rfl) ?_
  refine am_callP_I (W0 := 0) (argsL := [.int x1]) (rest := []) rfl (lk_C_62 hw) rfl wi (by decide +kernel) hc (SubW.refl _) rfl (by show arity "(I)Z" 1 = true; decide +kernel) (ok_c_validSlot hw x1 _) rfl ⟨by decide, by decide, Nat.le_of_eq rfl, rfl, rfl, by decide, by decide⟩ (fun r1 hr => ?_)
  refine am_if_ne (o := 5) (pc1 := 10) (by decide +kernel) hc (fun hq => ?_) (fun hq => ?_)
  · refine am_blk (pc' := 9) (Ls' := [.val (.ref 0), .val (.int x1), .val (.int x2)]) (St' := [.int (-1 : Int32)]) (σ' := r1.2) [.iconst (-1)] (by decide +kernel) hc hT hF wi (by exact rfl) ?_
    exact am_retI (by decide +kernel) hc (by decide) (by decide) (fun h W O => ⟨rfl, W, O⟩)
  · refine am_blk (pc' := 11) (Ls' := [.val (.ref 0), .val (.int x1), .val (.int x2)]) (St' := [.int x2]) (σ' := r1.2) [.iload_n 2] (by decide +kernel) hc hT hF wi (by exact rfl) ?_
    refine am_if_lt (o := 9) (pc1 := 20) (by decide +kernel) hc (fun hq => ?_) (fun hq => ?_)
    · refine am_blk (pc' := 21) (Ls' := [.val (.ref 0), .val (.int x1), .val (.int x2)]) (St' := [.int (-1 : Int32)]) (σ' := r1.2) [.iconst (-1)] (by decide +kernel) hc hT hF wi (by exact rfl) ?_
      exact am_retI (by decide +kernel) hc (by decide) (by decide) (fun h W O => ⟨rfl, W, O⟩)
    · refine am_blk (pc' := 17) (Ls' := [.val (.ref 0), .val (.int x1), .val (.int x2)]) (St' := [.int (32 : Int32), .int x2]) (σ' := r1.2) [.iload_n 2, .bipush 32] (by decide +kernel) hc hT hF wi (by exact rfl) ?_
      refine am_icmp_lt (o := 5) (pc1 := 22) (by decide +kernel) hc (fun hq => ?_) (fun hq => ?_)
      · refine am_blk (pc' := 27) (Ls' := [.val (.ref 0), .val (.int x1), .val (.int x2)]) (St' := [.int ((x1 <<< ((5 : Int32) &&& 31)) + x2)]) (σ' := r1.2) [.iload_n 1, .iconst 5, .ishl, .iload_n 2, .iadd] (by decide +kernel) hc hT hF wi (by exact rfl) ?_
        exact am_retI (by decide +kernel) hc (by decide) (by decide) (fun h W O => ⟨rfl, W, O⟩)
      · refine am_blk (pc' := 21) (Ls' := [.val (.ref 0), .val (.int x1), .val (.int x2)]) (St' := [.int (-1 : Int32)]) (σ' := r1.2) [.iconst (-1)] (by decide +kernel) hc hT hF wi (by exact rfl) ?_
        exact am_retI (by decide +kernel) hc (by decide) (by decide) (fun h W O => ⟨rfl, W, O⟩)
abbrev rm_c_valueAt : Room := { frames := 2, cells := 0, slots := 0, locals := 27 }
def c_valueAt (x1 : Int32) (x2 : Int32) (σ : Sg) : Option (Int64 × Sg) :=
  (c_indexOf x1 x2 σ).bind fun r1 => if r1.1 < 0 then (some ((0 : Int64), r1.2)) else (if inb r1.1 96 = true then (some (gj r1.2 5 (nx r1.1), r1.2)) else none)
set_option maxRecDepth 65536 in
set_option maxHeartbeats 4000000 in
theorem ok_c_valueAt (hw : WH a0 Z) (x1 : Int32) (x2 : Int32) (σ : Sg) : ∀ x, c_valueAt x1 x2 σ = some x → Con l Z "BoolUnifierY" fsC (⟨"BoolUnifierY", "valueAt", "(II)J"⟩ : MethodName) prog_1_method_37_code 4 (some .long) rm_c_valueAt wC [.ref 0, .int x1, .int x2] σ (fJ x).1 (fJ x).2 := by
  refine am_con pnC ?_
  intro p e s m below meth c A n0 h0 hc
  have hT := tabC hw "valueAt"
  have hF := fsokC hw
  have wi := wiC hw
  unfold c_valueAt
  refine am_blk (pc' := 3) (Ls' := [.val (.ref 0), .val (.int x1), .val (.int x2), .unset]) (St' := [.int x2, .int x1, .ref 0]) (σ' := σ) [.aload_n 0, .iload_n 1, .iload_n 2] (by decide +kernel) hc hT hF wi (by exact rfl) ?_
  refine am_callP_I (W0 := 0) (argsL := [.int x1, .int x2]) (rest := []) rfl (lk_C_79 hw) rfl wi (by decide +kernel) hc (SubW.refl _) rfl (by show arity "(II)I" 2 = true; decide +kernel) (ok_c_indexOf hw x1 x2 _) rfl ⟨by decide, by decide, Nat.le_of_eq rfl, rfl, rfl, by decide, by decide⟩ (fun r1 hr => ?_)
  refine am_blk (pc' := 8) (Ls' := [.val (.ref 0), .val (.int x1), .val (.int x2), .val (.int r1.1)]) (St' := [.int r1.1]) (σ' := r1.2) [.istore_n 3, .iload_n 3] (by decide +kernel) hc hT hF wi (by exact rfl) ?_
  refine am_if_ge (o := 5) (pc1 := 13) (by decide +kernel) hc (fun hq => ?_) (fun hq => ?_)
  · refine am_blk (pc' := 12) (Ls' := [.val (.ref 0), .val (.int x1), .val (.int x2), .val (.int r1.1)]) (St' := [.long (0 : Int64)]) (σ' := r1.2) [.lconst 0] (by decide +kernel) hc hT hF wi (by exact rfl) ?_
    exact am_retJ (by decide +kernel) hc (by decide) (by decide) (fun h W O => ⟨rfl, W, O⟩)
  · refine am_blk (pc' := 18) (Ls' := [.val (.ref 0), .val (.int x1), .val (.int x2), .val (.int r1.1)]) (St' := [.int r1.1, .ref 5]) (σ' := r1.2) [.aload_n 0, .getfield 24, .iload_n 3] (by decide +kernel) hc hT hF wi (by exact rfl) ?_
    refine am_laload (by decide +kernel) hc rfl (fun hb0 => ?_)
    exact am_retJ (by decide +kernel) hc (by decide) (by decide) (fun h W O => ⟨rfl, W, O⟩)
abbrev rm_c_termTable : Room := { frames := 3, cells := 0, slots := 0, locals := 42 }
def c_termTable (x1 : Int32) (σ : Sg) : Option (Int64 × Sg) :=
  (c_isComplete x1 σ).bind fun r1 => if r1.1 = 0 then (some ((0 : Int64), r1.2)) else (if inb x1 3 = true then ((c_valueAt x1 ((gi r1.2 2 (nx x1)) - (1 : Int32)) r1.2).bind fun r2 => some (r2.1, r2.2)) else none)
set_option maxRecDepth 65536 in
set_option maxHeartbeats 4000000 in
theorem ok_c_termTable (hw : WH a0 Z) (x1 : Int32) (σ : Sg) : ∀ x, c_termTable x1 σ = some x → Con l Z "BoolUnifierY" fsC (⟨"BoolUnifierY", "termTable", "(I)J"⟩ : MethodName) prog_1_method_8_code 3 (some .long) rm_c_termTable wC [.ref 0, .int x1] σ (fJ x).1 (fJ x).2 := by
  refine am_con pnC ?_
  intro p e s m below meth c A n0 h0 hc
  have hT := tabC hw "termTable"
  have hF := fsokC hw
  have wi := wiC hw
  unfold c_termTable
  refine am_blk (pc' := 2) (Ls' := [.val (.ref 0), .val (.int x1), .unset]) (St' := [.int x1, .ref 0]) (σ' := σ) [.aload_n 0, .iload_n 1] (by decide +kernel) hc hT hF wi (by exact rfl) ?_
  refine am_callP_I (W0 := 0) (argsL := [.int x1]) (rest := []) rfl (lk_C_90 hw) rfl wi (by decide +kernel) hc (SubW.refl _) rfl (by show arity "(I)Z" 1 = true; decide +kernel) (ok_c_isComplete hw x1 _) rfl ⟨by decide, by decide, Nat.le_of_eq rfl, rfl, rfl, by decide, by decide⟩ (fun r1 hr => ?_)
  refine am_if_ne (o := 5) (pc1 := 10) (by decide +kernel) hc (fun hq => ?_) (fun hq => ?_)
  · refine am_blk (pc' := 9) (Ls' := [.val (.ref 0), .val (.int x1), .unset]) (St' := [.long (0 : Int64)]) (σ' := r1.2) [.lconst 0] (by decide +kernel) hc hT hF wi (by exact rfl) ?_
    exact am_retJ (by decide +kernel) hc (by decide) (by decide) (fun h W O => ⟨rfl, W, O⟩)
  · refine am_blk (pc' := 15) (Ls' := [.val (.ref 0), .val (.int x1), .unset]) (St' := [.int x1, .ref 2]) (σ' := r1.2) [.aload_n 0, .getfield 13, .iload_n 1] (by decide +kernel) hc hT hF wi (by exact rfl) ?_
    refine am_iaload (by decide +kernel) hc rfl (fun hb0 => ?_)
    refine am_blk (pc' := 22) (Ls' := [.val (.ref 0), .val (.int x1), .val (.int ((gi r1.2 2 (nx x1)) - (1 : Int32)))]) (St' := [.int ((gi r1.2 2 (nx x1)) - (1 : Int32)), .int x1, .ref 0]) (σ' := r1.2) [.iconst 1, .isub, .istore_n 2, .aload_n 0, .iload_n 1, .iload_n 2] (by decide +kernel) hc hT hF wi (by exact rfl) ?_
    refine am_callP_J (W0 := 0) (argsL := [.int x1, .int ((gi r1.2 2 (nx x1)) - (1 : Int32))]) (rest := []) rfl (lk_C_93 hw) rfl wi (by decide +kernel) hc (SubW.refl _) rfl (by show arity "(II)J" 2 = true; decide +kernel) (ok_c_valueAt hw x1 ((gi r1.2 2 (nx x1)) - (1 : Int32)) _) rfl ⟨by decide, by decide, Nat.le_of_eq rfl, rfl, rfl, by decide, by decide⟩ (fun r2 hr => ?_)
    exact am_retJ (by decide +kernel) hc (by decide) (by decide) (fun h W O => ⟨rfl, W, O⟩)
abbrev rm_c_status : Room := { frames := 0, cells := 0, slots := 0, locals := 0 }
def c_status (σ : Sg) : Option (Int32 × Sg) :=
  some (gi σ 0 13, σ)
set_option maxRecDepth 65536 in
set_option maxHeartbeats 4000000 in
theorem ok_c_status (hw : WH a0 Z) (σ : Sg) : ∀ x, c_status σ = some x → Con l Z "BoolUnifierY" fsC (⟨"BoolUnifierY", "status", "()I"⟩ : MethodName) prog_1_method_10_code 1 (some .int) rm_c_status wC [.ref 0] σ (fI x).1 (fI x).2 := by
  refine am_con pnC ?_
  intro p e s m below meth c A n0 h0 hc
  have hT := tabC hw "status"
  have hF := fsokC hw
  have wi := wiC hw
  unfold c_status
  refine am_blk (pc' := 4) (Ls' := [.val (.ref 0)]) (St' := [.int (gi σ 0 13)]) (σ' := σ) [.aload_n 0, .getfield 118] (by decide +kernel) hc hT hF wi (by exact rfl) ?_
  exact am_retI (by decide +kernel) hc (by decide) (by decide) (fun h W O => ⟨rfl, W, O⟩)
abbrev rm_c_eliminated : Room := { frames := 0, cells := 0, slots := 0, locals := 0 }
def c_eliminated (σ : Sg) : Option (Int32 × Sg) :=
  some (gi σ 0 14, σ)
set_option maxRecDepth 65536 in
set_option maxHeartbeats 4000000 in
theorem ok_c_eliminated (hw : WH a0 Z) (σ : Sg) : ∀ x, c_eliminated σ = some x → Con l Z "BoolUnifierY" fsC (⟨"BoolUnifierY", "eliminated", "()I"⟩ : MethodName) prog_1_method_11_code 1 (some .int) rm_c_eliminated wC [.ref 0] σ (fI x).1 (fI x).2 := by
  refine am_con pnC ?_
  intro p e s m below meth c A n0 h0 hc
  have hT := tabC hw "eliminated"
  have hF := fsokC hw
  have wi := wiC hw
  unfold c_eliminated
  refine am_blk (pc' := 4) (Ls' := [.val (.ref 0)]) (St' := [.int (gi σ 0 14)]) (σ' := σ) [.aload_n 0, .getfield 105] (by decide +kernel) hc hT hF wi (by exact rfl) ?_
  exact am_retI (by decide +kernel) hc (by decide) (by decide) (fun h W O => ⟨rfl, W, O⟩)
abbrev rm_c_residue : Room := { frames := 0, cells := 0, slots := 0, locals := 0 }
def c_residue (σ : Sg) : Option (Int64 × Sg) :=
  some (gj σ 0 15, σ)
set_option maxRecDepth 65536 in
set_option maxHeartbeats 4000000 in
theorem ok_c_residue (hw : WH a0 Z) (σ : Sg) : ∀ x, c_residue σ = some x → Con l Z "BoolUnifierY" fsC (⟨"BoolUnifierY", "residue", "()J"⟩ : MethodName) prog_1_method_12_code 1 (some .long) rm_c_residue wC [.ref 0] σ (fJ x).1 (fJ x).2 := by
  refine am_con pnC ?_
  intro p e s m below meth c A n0 h0 hc
  have hT := tabC hw "residue"
  have hF := fsokC hw
  have wi := wiC hw
  unfold c_residue
  refine am_blk (pc' := 4) (Ls' := [.val (.ref 0)]) (St' := [.long (gj σ 0 15)]) (σ' := σ) [.aload_n 0, .getfield 108] (by decide +kernel) hc hT hF wi (by exact rfl) ?_
  exact am_retJ (by decide +kernel) hc (by decide) (by decide) (fun h W O => ⟨rfl, W, O⟩)
abbrev rm_c_printLength : Room := { frames := 1, cells := 0, slots := 0, locals := 13 }
def c_printLength (x1 : Int32) (σ : Sg) : Option (Int32 × Sg) :=
  (c_validVar x1 σ).bind fun r1 => if r1.1 = 0 then (some ((0 : Int32), r1.2)) else (if inb x1 6 = true then (some (gi r1.2 12 (nx x1), r1.2)) else none)
set_option maxRecDepth 65536 in
set_option maxHeartbeats 4000000 in
theorem ok_c_printLength (hw : WH a0 Z) (x1 : Int32) (σ : Sg) : ∀ x, c_printLength x1 σ = some x → Con l Z "BoolUnifierY" fsC (⟨"BoolUnifierY", "printLength", "(I)I"⟩ : MethodName) prog_1_method_14_code 2 (some .int) rm_c_printLength wC [.ref 0, .int x1] σ (fI x).1 (fI x).2 := by
  refine am_con pnC ?_
  intro p e s m below meth c A n0 h0 hc
  have hT := tabC hw "printLength"
  have hF := fsokC hw
  have wi := wiC hw
  unfold c_printLength
  refine am_blk (pc' := 2) (Ls' := [.val (.ref 0), .val (.int x1)]) (St' := [.int x1, .ref 0]) (σ' := σ) [.aload_n 0, .iload_n 1] (by decide +kernel) hc hT hF wi (by exact rfl) ?_
  refine am_callP_I (W0 := 0) (argsL := [.int x1]) (rest := []) rfl (lk_C_124 hw) rfl wi (by decide +kernel) hc (SubW.refl _) rfl (by show arity "(I)Z" 1 = true; decide +kernel) (ok_c_validVar hw x1 _) rfl ⟨by decide, by decide, Nat.le_of_eq rfl, rfl, rfl, by decide, by decide⟩ (fun r1 hr => ?_)
  refine am_if_ne (o := 5) (pc1 := 10) (by decide +kernel) hc (fun hq => ?_) (fun hq => ?_)
  · refine am_blk (pc' := 9) (Ls' := [.val (.ref 0), .val (.int x1)]) (St' := [.int (0 : Int32)]) (σ' := r1.2) [.iconst 0] (by decide +kernel) hc hT hF wi (by exact rfl) ?_
    exact am_retI (by decide +kernel) hc (by decide) (by decide) (fun h W O => ⟨rfl, W, O⟩)
  · refine am_blk (pc' := 15) (Ls' := [.val (.ref 0), .val (.int x1)]) (St' := [.int x1, .ref 12]) (σ' := r1.2) [.aload_n 0, .getfield 45, .iload_n 1] (by decide +kernel) hc hT hF wi (by exact rfl) ?_
    refine am_iaload (by decide +kernel) hc rfl (fun hb0 => ?_)
    exact am_retI (by decide +kernel) hc (by decide) (by decide) (fun h W O => ⟨rfl, W, O⟩)
abbrev rm_c_unifierTable : Room := { frames := 1, cells := 0, slots := 0, locals := 13 }
def c_unifierTable (x1 : Int32) (σ : Sg) : Option (Int64 × Sg) :=
  (c_validVar x1 σ).bind fun r1 => if r1.1 = 0 then (some ((0 : Int64), r1.2)) else (if inb x1 6 = true then (some (gj r1.2 3 (nx x1), r1.2)) else none)
set_option maxRecDepth 65536 in
set_option maxHeartbeats 4000000 in
theorem ok_c_unifierTable (hw : WH a0 Z) (x1 : Int32) (σ : Sg) : ∀ x, c_unifierTable x1 σ = some x → Con l Z "BoolUnifierY" fsC (⟨"BoolUnifierY", "unifierTable", "(I)J"⟩ : MethodName) prog_1_method_13_code 2 (some .long) rm_c_unifierTable wC [.ref 0, .int x1] σ (fJ x).1 (fJ x).2 := by
  refine am_con pnC ?_
  intro p e s m below meth c A n0 h0 hc
  have hT := tabC hw "unifierTable"
  have hF := fsokC hw
  have wi := wiC hw
  unfold c_unifierTable
  refine am_blk (pc' := 2) (Ls' := [.val (.ref 0), .val (.int x1)]) (St' := [.int x1, .ref 0]) (σ' := σ) [.aload_n 0, .iload_n 1] (by decide +kernel) hc hT hF wi (by exact rfl) ?_
  refine am_callP_I (W0 := 0) (argsL := [.int x1]) (rest := []) rfl (lk_C_124 hw) rfl wi (by decide +kernel) hc (SubW.refl _) rfl (by show arity "(I)Z" 1 = true; decide +kernel) (ok_c_validVar hw x1 _) rfl ⟨by decide, by decide, Nat.le_of_eq rfl, rfl, rfl, by decide, by decide⟩ (fun r1 hr => ?_)
  refine am_if_ne (o := 5) (pc1 := 10) (by decide +kernel) hc (fun hq => ?_) (fun hq => ?_)
  · refine am_blk (pc' := 9) (Ls' := [.val (.ref 0), .val (.int x1)]) (St' := [.long (0 : Int64)]) (σ' := r1.2) [.lconst 0] (by decide +kernel) hc hT hF wi (by exact rfl) ?_
    exact am_retJ (by decide +kernel) hc (by decide) (by decide) (fun h W O => ⟨rfl, W, O⟩)
  · refine am_blk (pc' := 15) (Ls' := [.val (.ref 0), .val (.int x1)]) (St' := [.int x1, .ref 3]) (σ' := r1.2) [.aload_n 0, .getfield 17, .iload_n 1] (by decide +kernel) hc hT hF wi (by exact rfl) ?_
    refine am_laload (by decide +kernel) hc rfl (fun hb0 => ?_)
    exact am_retJ (by decide +kernel) hc (by decide) (by decide) (fun h W O => ⟨rfl, W, O⟩)
abbrev rm_q_tx : Room := { frames := 0, cells := 0, slots := 0, locals := 0 }
def q_tx (x0 : Int32) (σ : Sg) : Option (Int64 × Sg) :=
  if x0 = 0 then (some ((-6148914691236517206 : Int64), σ)) else (if x0 = (1 : Int32) then (some ((-3689348814741910324 : Int64), σ)) else (if x0 = (2 : Int32) then (some ((-1085102592571150096 : Int64), σ)) else (if x0 = (3 : Int32) then (some ((-71777214294589696 : Int64), σ)) else (if x0 = (4 : Int32) then (some ((-281470681808896 : Int64), σ)) else (some ((-4294967296 : Int64), σ))))))
set_option maxRecDepth 65536 in
set_option maxHeartbeats 4000000 in
theorem ok_q_tx (hw : WH a0 Z) (x0 : Int32) (σ : Sg) : ∀ x, q_tx x0 σ = some x → Con l Z "BoolUnifierY" fsC (⟨"BoolUnifierYL6", "tx", "(I)J"⟩ : MethodName) method_4_code 1 (some .long) rm_q_tx w [.int x0] σ (fJ x).1 (fJ x).2 := by
  refine am_con pnL ?_
  intro p e s m below meth c A n0 h0 hc
  have hT := tabL hw "tx"
  have hF := fsokC hw
  have wi := wiC hw
  unfold q_tx
  refine am_blk (pc' := 1) (Ls' := [.val (.int x0)]) (St' := [.int x0]) (σ' := σ) [.iload_n 0] (by decide +kernel) hc hT hF wi (by exact rfl) ?_
  refine am_if_ne (o := 7) (pc1 := 8) (by decide +kernel) hc (fun hq => ?_) (fun hq => ?_)
  · refine am_blk (pc' := 7) (Ls' := [.val (.int x0)]) (St' := [.long (-6148914691236517206 : Int64)]) (σ' := σ) [.ldc2_w 69] (by decide +kernel) hc hT hF wi (by exact rfl) ?_
    exact am_retJ (by decide +kernel) hc (by decide) (by decide) (fun h W O => ⟨rfl, W, O⟩)
  · refine am_blk (pc' := 10) (Ls' := [.val (.int x0)]) (St' := [.int (1 : Int32), .int x0]) (σ' := σ) [.iload_n 0, .iconst 1] (by decide +kernel) hc hT hF wi (by exact rfl) ?_
    refine am_icmp_ne (o := 7) (pc1 := 17) (by decide +kernel) hc (fun hq => ?_) (fun hq => ?_)
    · refine am_blk (pc' := 16) (Ls' := [.val (.int x0)]) (St' := [.long (-3689348814741910324 : Int64)]) (σ' := σ) [.ldc2_w 71] (by decide +kernel) hc hT hF wi (by exact rfl) ?_
      exact am_retJ (by decide +kernel) hc (by decide) (by decide) (fun h W O => ⟨rfl, W, O⟩)
    · refine am_blk (pc' := 19) (Ls' := [.val (.int x0)]) (St' := [.int (2 : Int32), .int x0]) (σ' := σ) [.iload_n 0, .iconst 2] (by decide +kernel) hc hT hF wi (by exact rfl) ?_
      refine am_icmp_ne (o := 7) (pc1 := 26) (by decide +kernel) hc (fun hq => ?_) (fun hq => ?_)
      · refine am_blk (pc' := 25) (Ls' := [.val (.int x0)]) (St' := [.long (-1085102592571150096 : Int64)]) (σ' := σ) [.ldc2_w 73] (by decide +kernel) hc hT hF wi (by exact rfl) ?_
        exact am_retJ (by decide +kernel) hc (by decide) (by decide) (fun h W O => ⟨rfl, W, O⟩)
      · refine am_blk (pc' := 28) (Ls' := [.val (.int x0)]) (St' := [.int (3 : Int32), .int x0]) (σ' := σ) [.iload_n 0, .iconst 3] (by decide +kernel) hc hT hF wi (by exact rfl) ?_
        refine am_icmp_ne (o := 7) (pc1 := 35) (by decide +kernel) hc (fun hq => ?_) (fun hq => ?_)
        · refine am_blk (pc' := 34) (Ls' := [.val (.int x0)]) (St' := [.long (-71777214294589696 : Int64)]) (σ' := σ) [.ldc2_w 75] (by decide +kernel) hc hT hF wi (by exact rfl) ?_
          exact am_retJ (by decide +kernel) hc (by decide) (by decide) (fun h W O => ⟨rfl, W, O⟩)
        · refine am_blk (pc' := 37) (Ls' := [.val (.int x0)]) (St' := [.int (4 : Int32), .int x0]) (σ' := σ) [.iload_n 0, .iconst 4] (by decide +kernel) hc hT hF wi (by exact rfl) ?_
          refine am_icmp_ne (o := 7) (pc1 := 44) (by decide +kernel) hc (fun hq => ?_) (fun hq => ?_)
          · refine am_blk (pc' := 43) (Ls' := [.val (.int x0)]) (St' := [.long (-281470681808896 : Int64)]) (σ' := σ) [.ldc2_w 77] (by decide +kernel) hc hT hF wi (by exact rfl) ?_
            exact am_retJ (by decide +kernel) hc (by decide) (by decide) (fun h W O => ⟨rfl, W, O⟩)
          · refine am_blk (pc' := 47) (Ls' := [.val (.int x0)]) (St' := [.long (-4294967296 : Int64)]) (σ' := σ) [.ldc2_w 79] (by decide +kernel) hc hT hF wi (by exact rfl) ?_
            exact am_retJ (by decide +kernel) hc (by decide) (by decide) (fun h W O => ⟨rfl, W, O⟩)
abbrev rm_c_printCode : Room := { frames := 2, cells := 0, slots := 0, locals := 27 }
def c_printCode (x1 : Int32) (x2 : Int32) (σ : Sg) : Option (Int32 × Sg) :=
  (c_validVar x1 σ).bind fun r1 => if r1.1 = 0 then (some ((-1 : Int32), r1.2)) else (if x2 < 0 then (some ((-1 : Int32), r1.2)) else (if inb x1 6 = true then (if x2 < (gi r1.2 12 (nx x1)) then ((c_printIndex x1 x2 r1.2).bind fun r2 => if r2.1 < 0 then (some ((-1 : Int32), r2.2)) else (if inb r2.1 2310 = true then (some (gi r2.2 11 (nx r2.1), r2.2)) else none)) else (some ((-1 : Int32), r1.2))) else none))
set_option maxRecDepth 65536 in
set_option maxHeartbeats 4000000 in
theorem ok_c_printCode (hw : WH a0 Z) (x1 : Int32) (x2 : Int32) (σ : Sg) : ∀ x, c_printCode x1 x2 σ = some x → Con l Z "BoolUnifierY" fsC (⟨"BoolUnifierY", "printCode", "(II)I"⟩ : MethodName) prog_1_method_15_code 4 (some .int) rm_c_printCode wC [.ref 0, .int x1, .int x2] σ (fI x).1 (fI x).2 := by
  refine am_con pnC ?_
  intro p e s m below meth c A n0 h0 hc
  have hT := tabC hw "printCode"
  have hF := fsokC hw
  have wi := wiC hw
  unfold c_printCode
  refine am_blk (pc' := 2) (Ls' := [.val (.ref 0), .val (.int x1), .val (.int x2), .unset]) (St' := [.int x1, .ref 0]) (σ' := σ) [.aload_n 0, .iload_n 1] (by decide +kernel) hc hT hF wi (by exact rfl) ?_
  refine am_callP_I (W0 := 0) (argsL := [.int x1]) (rest := []) rfl (lk_C_124 hw) rfl wi (by decide +kernel) hc (SubW.refl _) rfl (by show arity "(I)Z" 1 = true; decide +kernel) (ok_c_validVar hw x1 _) rfl ⟨by decide, by decide, Nat.le_of_eq rfl, rfl, rfl, by decide, by decide⟩ (fun r1 hr => ?_)
  refine am_if_ne (o := 5) (pc1 := 10) (by decide +kernel) hc (fun hq => ?_) (fun hq => ?_)
  · refine am_blk (pc' := 9) (Ls' := [.val (.ref 0), .val (.int x1), .val (.int x2), .unset]) (St' := [.int (-1 : Int32)]) (σ' := r1.2) [.iconst (-1)] (by decide +kernel) hc hT hF wi (by exact rfl) ?_
    exact am_retI (by decide +kernel) hc (by decide) (by decide) (fun h W O => ⟨rfl, W, O⟩)
  · refine am_blk (pc' := 11) (Ls' := [.val (.ref 0), .val (.int x1), .val (.int x2), .unset]) (St' := [.int x2]) (σ' := r1.2) [.iload_n 2] (by decide +kernel) hc hT hF wi (by exact rfl) ?_
    refine am_if_lt (o := 13) (pc1 := 24) (by decide +kernel) hc (fun hq => ?_) (fun hq => ?_)
    · refine am_blk (pc' := 25) (Ls' := [.val (.ref 0), .val (.int x1), .val (.int x2), .unset]) (St' := [.int (-1 : Int32)]) (σ' := r1.2) [.iconst (-1)] (by decide +kernel) hc hT hF wi (by exact rfl) ?_
      exact am_retI (by decide +kernel) hc (by decide) (by decide) (fun h W O => ⟨rfl, W, O⟩)
    · refine am_blk (pc' := 20) (Ls' := [.val (.ref 0), .val (.int x1), .val (.int x2), .unset]) (St' := [.int x1, .ref 12, .int x2]) (σ' := r1.2) [.iload_n 2, .aload_n 0, .getfield 45, .iload_n 1] (by decide +kernel) hc hT hF wi (by exact rfl) ?_
      refine am_iaload (by decide +kernel) hc rfl (fun hb0 => ?_)
      refine am_icmp_lt (o := 5) (pc1 := 26) (by decide +kernel) hc (fun hq => ?_) (fun hq => ?_)
      · refine am_blk (pc' := 29) (Ls' := [.val (.ref 0), .val (.int x1), .val (.int x2), .unset]) (St' := [.int x2, .int x1, .ref 0]) (σ' := r1.2) [.aload_n 0, .iload_n 1, .iload_n 2] (by decide +kernel) hc hT hF wi (by exact rfl) ?_
        refine am_callP_I (W0 := 0) (argsL := [.int x1, .int x2]) (rest := []) rfl (lk_C_127 hw) rfl wi (by decide +kernel) hc (SubW.refl _) rfl (by show arity "(II)I" 2 = true; decide +kernel) (ok_c_printIndex hw x1 x2 _) rfl ⟨by decide, by decide, Nat.le_of_eq rfl, rfl, rfl, by decide, by decide⟩ (fun r2 hr => ?_)
        refine am_blk (pc' := 34) (Ls' := [.val (.ref 0), .val (.int x1), .val (.int x2), .val (.int r2.1)]) (St' := [.int r2.1]) (σ' := r2.2) [.istore_n 3, .iload_n 3] (by decide +kernel) hc hT hF wi (by exact rfl) ?_
        refine am_if_ge (o := 5) (pc1 := 39) (by decide +kernel) hc (fun hq => ?_) (fun hq => ?_)
        · refine am_blk (pc' := 38) (Ls' := [.val (.ref 0), .val (.int x1), .val (.int x2), .val (.int r2.1)]) (St' := [.int (-1 : Int32)]) (σ' := r2.2) [.iconst (-1)] (by decide +kernel) hc hT hF wi (by exact rfl) ?_
          exact am_retI (by decide +kernel) hc (by decide) (by decide) (fun h W O => ⟨rfl, W, O⟩)
        · refine am_blk (pc' := 44) (Ls' := [.val (.ref 0), .val (.int x1), .val (.int x2), .val (.int r2.1)]) (St' := [.int r2.1, .ref 11]) (σ' := r2.2) [.aload_n 0, .getfield 42, .iload_n 3] (by decide +kernel) hc hT hF wi (by exact rfl) ?_
          refine am_baloadB (by decide +kernel) hc rfl (fun hb1 => ?_)
          exact am_retI (by decide +kernel) hc (by decide) (by decide) (fun h W O => ⟨rfl, W, O⟩)
      · refine am_blk (pc' := 25) (Ls' := [.val (.ref 0), .val (.int x1), .val (.int x2), .unset]) (St' := [.int (-1 : Int32)]) (σ' := r1.2) [.iconst (-1)] (by decide +kernel) hc hT hF wi (by exact rfl) ?_
        exact am_retI (by decide +kernel) hc (by decide) (by decide) (fun h W O => ⟨rfl, W, O⟩)
abbrev rm_q_check : Room := { frames := 4, cells := 0, slots := 0, locals := 56 }
def q_check_78 (k3 : Int32 → Int32 → Int32 → Int32 → Int64 → Int32 → Sg → Option (Int32 × Sg)) (x1 : Int32) (x2 : Int32) (x3 : Int32) (x4 : Int32) (y5 : Int64) (x7 : Int32) (σ : Sg) : Option (Int32 × Sg) :=
  k3 x1 x2 x3 x4 y5 (x7 + (1 : Int32)) σ
set_option maxRecDepth 65536 in
set_option maxHeartbeats 4000000 in
theorem okc_q_check_78 (hw : WH a0 Z) (hc : Cx p s m meth c Z "BoolUnifierYL6" method_3_code 10 (some .boolean) "check") (k3 : Int32 → Int32 → Int32 → Int32 → Int64 → Int32 → Sg → Option (Int32 × Sg)) (hk3 : ∀ (x1 : Int32) (x2 : Int32) (x3 : Int32) (x4 : Int32) (y5 : Int64) (x7 : Int32) (σ : Sg), OkR p l e rm_q_check s m args below meth c Z "BoolUnifierY" fsC n0 h0 (FM Z "BoolUnifierY" fsC A wC h0 fI) A wC 0 0 3 [.val (.ref 0), .val (.int x1), .val (.int x2), .val (.int x3), .val (.int x4), .val (.long y5), .unset, .val (.int x7), .unset, .unset] [] σ (k3 x1 x2 x3 x4 y5 x7 σ)) (x1 : Int32) (x2 : Int32) (x3 : Int32) (x4 : Int32) (y5 : Int64) (x7 : Int32) (σ : Sg) : OkR p l e rm_q_check s m args below meth c Z "BoolUnifierY" fsC n0 h0 (FM Z "BoolUnifierY" fsC A wC h0 fI) A wC 0 0 78 [.val (.ref 0), .val (.int x1), .val (.int x2), .val (.int x3), .val (.int x4), .val (.long y5), .unset, .val (.int x7), .unset, .unset] [] σ (q_check_78 k3 x1 x2 x3 x4 y5 x7 σ) := by
  have hT := tabL hw "check"
  have hF := fsokC hw
  have wi := wiC hw
  unfold q_check_78
  refine am_blk (pc' := 3) (Ls' := [.val (.ref 0), .val (.int x1), .val (.int x2), .val (.int x3), .val (.int x4), .val (.long y5), .unset, .val (.int (x7 + (1 : Int32))), .unset, .unset]) (St' := []) (σ' := σ) [.iinc 7 1, .goto (-78)] (by decide +kernel) hc hT hF wi (by exact rfl) ?_
  exact am_wk (Ls' := [.val (.ref 0), .val (.int x1), .val (.int x2), .val (.int x3), .val (.int x4), .val (.long y5), .unset, .val (.int (x7 + (1 : Int32))), .unset, .unset]) (by simp [wkL]) (hk3 x1 x2 x3 x4 y5 (x7 + (1 : Int32)) σ)
def q_check_220 (k140 : Int32 → Int32 → Sg → Option (Int32 × Sg)) (x7 : Int32) (x8 : Int32) (σ : Sg) : Option (Int32 × Sg) :=
  k140 x7 (x8 + (1 : Int32)) σ
set_option maxRecDepth 65536 in
set_option maxHeartbeats 4000000 in
theorem okc_q_check_220 (hw : WH a0 Z) (hc : Cx p s m meth c Z "BoolUnifierYL6" method_3_code 10 (some .boolean) "check") (k140 : Int32 → Int32 → Sg → Option (Int32 × Sg)) (hk140 : ∀ (x7 : Int32) (x8 : Int32) (σ : Sg), OkR p l e rm_q_check s m args below meth c Z "BoolUnifierY" fsC n0 h0 (FM Z "BoolUnifierY" fsC A wC h0 fI) A wC 0 0 140 [.val (.ref 0), .unset, .unset, .unset, .unset, .unset, .unset, .val (.int x7), .val (.int x8), .unset] [] σ (k140 x7 x8 σ)) (x7 : Int32) (x8 : Int32) (σ : Sg) : OkR p l e rm_q_check s m args below meth c Z "BoolUnifierY" fsC n0 h0 (FM Z "BoolUnifierY" fsC A wC h0 fI) A wC 0 0 220 [.val (.ref 0), .unset, .unset, .unset, .unset, .unset, .unset, .val (.int x7), .val (.int x8), .unset] [] σ (q_check_220 k140 x7 x8 σ) := by
  have hT := tabL hw "check"
  have hF := fsokC hw
  have wi := wiC hw
  unfold q_check_220
  refine am_blk (pc' := 140) (Ls' := [.val (.ref 0), .unset, .unset, .unset, .unset, .unset, .unset, .val (.int x7), .val (.int (x8 + (1 : Int32))), .unset]) (St' := []) (σ' := σ) [.iinc 8 1, .goto (-83)] (by decide +kernel) hc hT hF wi (by exact rfl) ?_
  exact am_wk (Ls' := [.val (.ref 0), .unset, .unset, .unset, .unset, .unset, .unset, .val (.int x7), .val (.int (x8 + (1 : Int32))), .unset]) (by simp [wkL]) (hk140 x7 (x8 + (1 : Int32)) σ)
def q_check_140 : Nat → Int32 → Int32 → Sg → Option (Int32 × Sg)
  | 0, _, _, _ => none
  | fuel + 1, x7, x8, σ =>
    if x8 < (6 : Int32) then ((c_printLength x8 σ).bind fun r1 => if r1.1 < (1 : Int32) then (some ((0 : Int32), r1.2)) else (if (385 : Int32) < r1.1 then (some ((0 : Int32), r1.2)) else (if ((x7 >>> (x8 &&& 31)) &&& (1 : Int32)) = 0 then ((c_unifierTable x8 r1.2).bind fun r2 => (q_tx x8 r2.2).bind fun r3 => if (XT.cmpL r2.1 r3.1) = 0 then (if r1.1 = (1 : Int32) then ((c_printCode x8 (0 : Int32) r3.2).bind fun r4 => if r4.1 = ((2 : Int32) + x8) then (q_check_220 (q_check_140 fuel) x7 x8 r4.2) else (some ((0 : Int32), r4.2))) else (some ((0 : Int32), r3.2))) else (some ((0 : Int32), r3.2))) else (q_check_220 (q_check_140 fuel) x7 x8 r1.2)))) else ((c_unifierTable (6 : Int32) σ).bind fun r5 => if (XT.cmpL r5.1 (0 : Int64)) = 0 then (some ((1 : Int32), r5.2)) else (some ((0 : Int32), r5.2)))
set_option maxRecDepth 65536 in
set_option maxHeartbeats 4000000 in
theorem okc_q_check_140 (hw : WH a0 Z) (hc : Cx p s m meth c Z "BoolUnifierYL6" method_3_code 10 (some .boolean) "check") : ∀ (fuel : Nat) (x7 : Int32) (x8 : Int32) (σ : Sg), OkR p l e rm_q_check s m args below meth c Z "BoolUnifierY" fsC n0 h0 (FM Z "BoolUnifierY" fsC A wC h0 fI) A wC 0 0 140 [.val (.ref 0), .unset, .unset, .unset, .unset, .unset, .unset, .val (.int x7), .val (.int x8), .unset] [] σ (q_check_140 fuel x7 x8 σ) := by
  have hT := tabL hw "check"
  have hF := fsokC hw
  have wi := wiC hw
  intro fuel
  induction fuel with
  | zero => intro x7 x8 σ; exact am_none rfl
  | succ fuel ih =>
    intro x7 x8 σ
    rw [q_check_140]
    refine am_blk (pc' := 144) (Ls' := [.val (.ref 0), .unset, .unset, .unset, .unset, .unset, .unset, .val (.int x7), .val (.int x8), .unset]) (St' := [.int (6 : Int32), .int x8]) (σ' := σ) [.iload 8, .bipush 6] (by decide +kernel) hc hT hF wi (by exact rfl) ?_
    refine am_icmp_ge (o := 82) (pc1 := 226) (by decide +kernel) hc (fun hq => ?_) (fun hq => ?_)
    · refine am_blk (pc' := 150) (Ls' := [.val (.ref 0), .unset, .unset, .unset, .unset, .unset, .unset, .val (.int x7), .val (.int x8), .unset]) (St' := [.int x8, .ref 0]) (σ' := σ) [.aload_n 0, .iload 8] (by decide +kernel) hc hT hF wi (by exact rfl) ?_
      refine am_callV_I (W0 := 0) (argsL := [.int x8]) (rest := []) rfl (lk_L_57 hw) rfl (by decide +kernel) hc (SubW.refl _) rfl (by show arity "(I)I" 1 = true; decide +kernel) (ok_c_printLength hw x8 _) rfl ⟨by decide, by decide, Nat.le_of_eq rfl, rfl, rfl, by decide, by decide⟩ (fun r1 hr => ?_)
      refine am_blk (pc' := 158) (Ls' := [.val (.ref 0), .unset, .unset, .unset, .unset, .unset, .unset, .val (.int x7), .val (.int x8), .val (.int r1.1)]) (St' := [.int (1 : Int32), .int r1.1]) (σ' := r1.2) [.istore 9, .iload 9, .iconst 1] (by decide +kernel) hc hT hF wi (by exact rfl) ?_
      refine am_icmp_lt (o := 11) (pc1 := 169) (by decide +kernel) hc (fun hq => ?_) (fun hq => ?_)
      · refine am_blk (pc' := 170) (Ls' := [.val (.ref 0), .unset, .unset, .unset, .unset, .unset, .unset, .val (.int x7), .val (.int x8), .val (.int r1.1)]) (St' := [.int (0 : Int32)]) (σ' := r1.2) [.iconst 0] (by decide +kernel) hc hT hF wi (by exact rfl) ?_
        exact am_retZ (by decide +kernel) hc (by decide) (by decide) (fun h W O => ⟨rfl, W, O⟩)
      · refine am_blk (pc' := 166) (Ls' := [.val (.ref 0), .unset, .unset, .unset, .unset, .unset, .unset, .val (.int x7), .val (.int x8), .val (.int r1.1)]) (St' := [.int (385 : Int32), .int r1.1]) (σ' := r1.2) [.iload 9, .sipush 385] (by decide +kernel) hc hT hF wi (by exact rfl) ?_
        refine am_icmp_le (o := 5) (pc1 := 171) (by decide +kernel) hc (fun hq => ?_) (fun hq => ?_)
        · refine am_blk (pc' := 170) (Ls' := [.val (.ref 0), .unset, .unset, .unset, .unset, .unset, .unset, .val (.int x7), .val (.int x8), .val (.int r1.1)]) (St' := [.int (0 : Int32)]) (σ' := r1.2) [.iconst 0] (by decide +kernel) hc hT hF wi (by exact rfl) ?_
          exact am_retZ (by decide +kernel) hc (by decide) (by decide) (fun h W O => ⟨rfl, W, O⟩)
        · refine am_blk (pc' := 178) (Ls' := [.val (.ref 0), .unset, .unset, .unset, .unset, .unset, .unset, .val (.int x7), .val (.int x8), .val (.int r1.1)]) (St' := [.int ((x7 >>> (x8 &&& 31)) &&& (1 : Int32))]) (σ' := r1.2) [.iload 7, .iload 8, .ishr, .iconst 1, .iand] (by decide +kernel) hc hT hF wi (by exact rfl) ?_
          refine am_if_ne (o := 42) (pc1 := 220) (by decide +kernel) hc (fun hq => ?_) (fun hq => ?_)
          · refine am_blk (pc' := 184) (Ls' := [.val (.ref 0), .unset, .unset, .unset, .unset, .unset, .unset, .val (.int x7), .val (.int x8), .val (.int r1.1)]) (St' := [.int x8, .ref 0]) (σ' := r1.2) [.aload_n 0, .iload 8] (by decide +kernel) hc hT hF wi (by exact rfl) ?_
            refine am_callV_J (W0 := 0) (argsL := [.int x8]) (rest := []) rfl (lk_L_60 hw) rfl (by decide +kernel) hc (SubW.refl _) rfl (by show arity "(I)J" 1 = true; decide +kernel) (ok_c_unifierTable hw x8 _) rfl ⟨by decide, by decide, Nat.le_of_eq rfl, rfl, rfl, by decide, by decide⟩ (fun r2 hr => ?_)
            refine am_blk (pc' := 189) (Ls' := [.val (.ref 0), .unset, .unset, .unset, .unset, .unset, .unset, .val (.int x7), .val (.int x8), .val (.int r1.1)]) (St' := [.int x8, .long r2.1]) (σ' := r2.2) [.iload 8] (by decide +kernel) hc hT hF wi (by exact rfl) ?_
            refine am_callS_J (W0 := 2) (argsL := [.int x8]) (rest := [.long r2.1]) (lk_L_63 hw) (by decide +kernel) hc (SubW.refl _) rfl (by show arity "(I)J" 1 = true; decide +kernel) (ok_q_tx hw x8 _) rfl ⟨by decide, by decide, Nat.le_of_eq rfl, rfl, rfl, by decide, by decide⟩ (fun r3 hr => ?_)
            refine am_blk (pc' := 193) (Ls' := [.val (.ref 0), .unset, .unset, .unset, .unset, .unset, .unset, .val (.int x7), .val (.int x8), .val (.int r1.1)]) (St' := [.int (XT.cmpL r2.1 r3.1)]) (σ' := r3.2) [.lcmp] (by decide +kernel) hc hT hF wi (by exact rfl) ?_
            refine am_if_ne (o := 9) (pc1 := 202) (by decide +kernel) hc (fun hq => ?_) (fun hq => ?_)
            · refine am_blk (pc' := 199) (Ls' := [.val (.ref 0), .unset, .unset, .unset, .unset, .unset, .unset, .val (.int x7), .val (.int x8), .val (.int r1.1)]) (St' := [.int (1 : Int32), .int r1.1]) (σ' := r3.2) [.iload 9, .iconst 1] (by decide +kernel) hc hT hF wi (by exact rfl) ?_
              refine am_icmp_eq (o := 5) (pc1 := 204) (by decide +kernel) hc (fun hq => ?_) (fun hq => ?_)
              · refine am_blk (pc' := 208) (Ls' := [.val (.ref 0), .unset, .unset, .unset, .unset, .unset, .unset, .val (.int x7), .val (.int x8), .val (.int r1.1)]) (St' := [.int (0 : Int32), .int x8, .ref 0]) (σ' := r3.2) [.aload_n 0, .iload 8, .iconst 0] (by decide +kernel) hc hT hF wi (by exact rfl) ?_
                refine am_callV_I (W0 := 0) (argsL := [.int x8, .int (0 : Int32)]) (rest := []) rfl (lk_L_66 hw) rfl (by decide +kernel) hc (SubW.refl _) rfl (by show arity "(II)I" 2 = true; decide +kernel) (ok_c_printCode hw x8 (0 : Int32) _) rfl ⟨by decide, by decide, Nat.le_of_eq rfl, rfl, rfl, by decide, by decide⟩ (fun r4 hr => ?_)
                refine am_blk (pc' := 215) (Ls' := [.val (.ref 0), .unset, .unset, .unset, .unset, .unset, .unset, .val (.int x7), .val (.int x8), .val (.int r1.1)]) (St' := [.int ((2 : Int32) + x8), .int r4.1]) (σ' := r4.2) [.iconst 2, .iload 8, .iadd] (by decide +kernel) hc hT hF wi (by exact rfl) ?_
                refine am_icmp_eq (o := 5) (pc1 := 220) (by decide +kernel) hc (fun hq => ?_) (fun hq => ?_)
                · exact am_wk (Ls' := [.val (.ref 0), .unset, .unset, .unset, .unset, .unset, .unset, .val (.int x7), .val (.int x8), .unset]) (by simp [wkL]) (okc_q_check_220 hw hc _ ih x7 x8 r4.2)
                · refine am_blk (pc' := 219) (Ls' := [.val (.ref 0), .unset, .unset, .unset, .unset, .unset, .unset, .val (.int x7), .val (.int x8), .val (.int r1.1)]) (St' := [.int (0 : Int32)]) (σ' := r4.2) [.iconst 0] (by decide +kernel) hc hT hF wi (by exact rfl) ?_
                  exact am_retZ (by decide +kernel) hc (by decide) (by decide) (fun h W O => ⟨rfl, W, O⟩)
              · refine am_blk (pc' := 203) (Ls' := [.val (.ref 0), .unset, .unset, .unset, .unset, .unset, .unset, .val (.int x7), .val (.int x8), .val (.int r1.1)]) (St' := [.int (0 : Int32)]) (σ' := r3.2) [.iconst 0] (by decide +kernel) hc hT hF wi (by exact rfl) ?_
                exact am_retZ (by decide +kernel) hc (by decide) (by decide) (fun h W O => ⟨rfl, W, O⟩)
            · refine am_blk (pc' := 203) (Ls' := [.val (.ref 0), .unset, .unset, .unset, .unset, .unset, .unset, .val (.int x7), .val (.int x8), .val (.int r1.1)]) (St' := [.int (0 : Int32)]) (σ' := r3.2) [.iconst 0] (by decide +kernel) hc hT hF wi (by exact rfl) ?_
              exact am_retZ (by decide +kernel) hc (by decide) (by decide) (fun h W O => ⟨rfl, W, O⟩)
          · exact am_wk (Ls' := [.val (.ref 0), .unset, .unset, .unset, .unset, .unset, .unset, .val (.int x7), .val (.int x8), .unset]) (by simp [wkL]) (okc_q_check_220 hw hc _ ih x7 x8 r1.2)
    · refine am_blk (pc' := 229) (Ls' := [.val (.ref 0), .unset, .unset, .unset, .unset, .unset, .unset, .val (.int x7), .val (.int x8), .unset]) (St' := [.int (6 : Int32), .ref 0]) (σ' := σ) [.aload_n 0, .bipush 6] (by decide +kernel) hc hT hF wi (by exact rfl) ?_
      refine am_callV_J (W0 := 0) (argsL := [.int (6 : Int32)]) (rest := []) rfl (lk_L_60 hw) rfl (by decide +kernel) hc (SubW.refl _) rfl (by show arity "(I)J" 1 = true; decide +kernel) (ok_c_unifierTable hw (6 : Int32) _) rfl ⟨by decide, by decide, Nat.le_of_eq rfl, rfl, rfl, by decide, by decide⟩ (fun r5 hr => ?_)
      refine am_blk (pc' := 234) (Ls' := [.val (.ref 0), .unset, .unset, .unset, .unset, .unset, .unset, .val (.int x7), .val (.int x8), .unset]) (St' := [.int (XT.cmpL r5.1 (0 : Int64))]) (σ' := r5.2) [.lconst 0, .lcmp] (by decide +kernel) hc hT hF wi (by exact rfl) ?_
      refine am_if_ne (o := 7) (pc1 := 241) (by decide +kernel) hc (fun hq => ?_) (fun hq => ?_)
      · refine am_blk (pc' := 242) (Ls' := [.val (.ref 0), .unset, .unset, .unset, .unset, .unset, .unset, .val (.int x7), .val (.int x8), .unset]) (St' := [.int (1 : Int32)]) (σ' := r5.2) [.iconst 1, .goto 4] (by decide +kernel) hc hT hF wi (by exact rfl) ?_
        exact am_retZ (by decide +kernel) hc (by decide) (by decide) (fun h W O => ⟨rfl, W, O⟩)
      · refine am_blk (pc' := 242) (Ls' := [.val (.ref 0), .unset, .unset, .unset, .unset, .unset, .unset, .val (.int x7), .val (.int x8), .unset]) (St' := [.int (0 : Int32)]) (σ' := r5.2) [.iconst 0] (by decide +kernel) hc hT hF wi (by exact rfl) ?_
        exact am_retZ (by decide +kernel) hc (by decide) (by decide) (fun h W O => ⟨rfl, W, O⟩)
def q_check_135 (s0 : Int32) (σ : Sg) : Option (Int32 × Sg) :=
  q_check_140 400 s0 (0 : Int32) σ
set_option maxRecDepth 65536 in
set_option maxHeartbeats 4000000 in
theorem okc_q_check_135 (hw : WH a0 Z) (hc : Cx p s m meth c Z "BoolUnifierYL6" method_3_code 10 (some .boolean) "check") (s0 : Int32) (σ : Sg) : OkR p l e rm_q_check s m args below meth c Z "BoolUnifierY" fsC n0 h0 (FM Z "BoolUnifierY" fsC A wC h0 fI) A wC 0 0 135 [.val (.ref 0), .unset, .unset, .unset, .unset, .unset, .unset, .unset, .unset, .unset] [.int s0] σ (q_check_135 s0 σ) := by
  have hT := tabL hw "check"
  have hF := fsokC hw
  have wi := wiC hw
  unfold q_check_135
  refine am_blk (pc' := 140) (Ls' := [.val (.ref 0), .unset, .unset, .unset, .unset, .unset, .unset, .val (.int s0), .val (.int (0 : Int32)), .unset]) (St' := []) (σ' := σ) [.istore 7, .iconst 0, .istore 8] (by decide +kernel) hc hT hF wi (by exact rfl) ?_
  exact am_wk (Ls' := [.val (.ref 0), .unset, .unset, .unset, .unset, .unset, .unset, .val (.int s0), .val (.int (0 : Int32)), .unset]) (by simp [wkL]) (okc_q_check_140 hw hc 400 s0 (0 : Int32) σ)
def q_check_3 : Nat → Int32 → Int32 → Int32 → Int32 → Int64 → Int32 → Sg → Option (Int32 × Sg)
  | 0, _, _, _, _, _, _, _ => none
  | fuel + 1, x1, x2, x3, x4, y5, x7, σ =>
    if x7 < (3 : Int32) then ((c_length x7 σ).bind fun r1 => if r1.1 = ((x1 >>> (((8 : Int32) * x7) &&& 31)) &&& (255 : Int32)) then ((c_depth x7 r1.2).bind fun r2 => if r2.1 = ((x2 >>> (((8 : Int32) * x7) &&& 31)) &&& (255 : Int32)) then (if ((x2 >>> (((8 : Int32) * x7) &&& 31)) &&& (255 : Int32)) = (1 : Int32) then (q_check_78 (q_check_3 fuel) x1 x2 x3 x4 y5 x7 r2.2) else ((c_termTable x7 r2.2).bind fun r3 => if (XT.cmpL r3.1 (0 : Int64)) = 0 then (q_check_78 (q_check_3 fuel) x1 x2 x3 x4 y5 x7 r3.2) else (some ((0 : Int32), r3.2)))) else (some ((0 : Int32), r2.2))) else (some ((0 : Int32), r1.2))) else ((c_length (3 : Int32) σ).bind fun r4 => if r4.1 = (-1 : Int32) then ((c_status r4.2).bind fun r5 => if r5.1 = x3 then ((c_eliminated r5.2).bind fun r6 => if r6.1 = x4 then ((c_residue r6.2).bind fun r7 => if (XT.cmpL r7.1 y5) = 0 then (if x3 = (1 : Int32) then (q_check_135 x4 r7.2) else (q_check_135 (0 : Int32) r7.2)) else (some ((0 : Int32), r7.2))) else (some ((0 : Int32), r6.2))) else (some ((0 : Int32), r5.2))) else (some ((0 : Int32), r4.2)))
set_option maxRecDepth 65536 in
set_option maxHeartbeats 4000000 in
theorem okc_q_check_3 (hw : WH a0 Z) (hc : Cx p s m meth c Z "BoolUnifierYL6" method_3_code 10 (some .boolean) "check") : ∀ (fuel : Nat) (x1 : Int32) (x2 : Int32) (x3 : Int32) (x4 : Int32) (y5 : Int64) (x7 : Int32) (σ : Sg), OkR p l e rm_q_check s m args below meth c Z "BoolUnifierY" fsC n0 h0 (FM Z "BoolUnifierY" fsC A wC h0 fI) A wC 0 0 3 [.val (.ref 0), .val (.int x1), .val (.int x2), .val (.int x3), .val (.int x4), .val (.long y5), .unset, .val (.int x7), .unset, .unset] [] σ (q_check_3 fuel x1 x2 x3 x4 y5 x7 σ) := by
  have hT := tabL hw "check"
  have hF := fsokC hw
  have wi := wiC hw
  intro fuel
  induction fuel with
  | zero => intro x1 x2 x3 x4 y5 x7 σ; exact am_none rfl
  | succ fuel ih =>
    intro x1 x2 x3 x4 y5 x7 σ
    rw [q_check_3]
    refine am_blk (pc' := 6) (Ls' := [.val (.ref 0), .val (.int x1), .val (.int x2), .val (.int x3), .val (.int x4), .val (.long y5), .unset, .val (.int x7), .unset, .unset]) (St' := [.int (3 : Int32), .int x7]) (σ' := σ) [.iload 7, .iconst 3] (by decide +kernel) hc hT hF wi (by exact rfl) ?_
    refine am_icmp_ge (o := 78) (pc1 := 84) (by decide +kernel) hc (fun hq => ?_) (fun hq => ?_)
    · refine am_blk (pc' := 22) (Ls' := [.val (.ref 0), .val (.int x1), .val (.int x2), .val (.int x3), .val (.int x4), .val (.long y5), .unset, .val (.int x7), .val (.int ((x1 >>> (((8 : Int32) * x7) &&& 31)) &&& (255 : Int32))), .unset]) (St' := []) (σ' := σ) [.iload_n 1, .bipush 8, .iload 7, .imul, .ishr, .sipush 255, .iand, .istore 8] (by decide +kernel) hc hT hF wi (by exact rfl) ?_
      refine am_blk (pc' := 35) (Ls' := [.val (.ref 0), .val (.int x1), .val (.int x2), .val (.int x3), .val (.int x4), .val (.long y5), .unset, .val (.int x7), .val (.int ((x1 >>> (((8 : Int32) * x7) &&& 31)) &&& (255 : Int32))), .val (.int ((x2 >>> (((8 : Int32) * x7) &&& 31)) &&& (255 : Int32)))]) (St' := []) (σ' := σ) [.iload_n 2, .bipush 8, .iload 7, .imul, .ishr, .sipush 255, .iand, .istore 9] (by decide +kernel) hc hT hF wi (by exact rfl) ?_
      refine am_blk (pc' := 38) (Ls' := [.val (.ref 0), .val (.int x1), .val (.int x2), .val (.int x3), .val (.int x4), .val (.long y5), .unset, .val (.int x7), .val (.int ((x1 >>> (((8 : Int32) * x7) &&& 31)) &&& (255 : Int32))), .val (.int ((x2 >>> (((8 : Int32) * x7) &&& 31)) &&& (255 : Int32)))]) (St' := [.int x7, .ref 0]) (σ' := σ) [.aload_n 0, .iload 7] (by decide +kernel) hc hT hF wi (by exact rfl) ?_
      refine am_callV_I (W0 := 0) (argsL := [.int x7]) (rest := []) rfl (lk_L_40 hw) rfl (by decide +kernel) hc (SubW.refl _) rfl (by show arity "(I)I" 1 = true; decide +kernel) (ok_c_length hw x7 _) rfl ⟨by decide, by decide, Nat.le_of_eq rfl, rfl, rfl, by decide, by decide⟩ (fun r1 hr => ?_)
      refine am_blk (pc' := 43) (Ls' := [.val (.ref 0), .val (.int x1), .val (.int x2), .val (.int x3), .val (.int x4), .val (.long y5), .unset, .val (.int x7), .val (.int ((x1 >>> (((8 : Int32) * x7) &&& 31)) &&& (255 : Int32))), .val (.int ((x2 >>> (((8 : Int32) * x7) &&& 31)) &&& (255 : Int32)))]) (St' := [.int ((x1 >>> (((8 : Int32) * x7) &&& 31)) &&& (255 : Int32)), .int r1.1]) (σ' := r1.2) [.iload 8] (by decide +kernel) hc hT hF wi (by exact rfl) ?_
      refine am_icmp_ne (o := 14) (pc1 := 57) (by decide +kernel) hc (fun hq => ?_) (fun hq => ?_)
      · refine am_blk (pc' := 49) (Ls' := [.val (.ref 0), .val (.int x1), .val (.int x2), .val (.int x3), .val (.int x4), .val (.long y5), .unset, .val (.int x7), .val (.int ((x1 >>> (((8 : Int32) * x7) &&& 31)) &&& (255 : Int32))), .val (.int ((x2 >>> (((8 : Int32) * x7) &&& 31)) &&& (255 : Int32)))]) (St' := [.int x7, .ref 0]) (σ' := r1.2) [.aload_n 0, .iload 7] (by decide +kernel) hc hT hF wi (by exact rfl) ?_
        refine am_callV_I (W0 := 0) (argsL := [.int x7]) (rest := []) rfl (lk_L_43 hw) rfl (by decide +kernel) hc (SubW.refl _) rfl (by show arity "(I)I" 1 = true; decide +kernel) (ok_c_depth hw x7 _) rfl ⟨by decide, by decide, Nat.le_of_eq rfl, rfl, rfl, by decide, by decide⟩ (fun r2 hr => ?_)
        refine am_blk (pc' := 54) (Ls' := [.val (.ref 0), .val (.int x1), .val (.int x2), .val (.int x3), .val (.int x4), .val (.long y5), .unset, .val (.int x7), .val (.int ((x1 >>> (((8 : Int32) * x7) &&& 31)) &&& (255 : Int32))), .val (.int ((x2 >>> (((8 : Int32) * x7) &&& 31)) &&& (255 : Int32)))]) (St' := [.int ((x2 >>> (((8 : Int32) * x7) &&& 31)) &&& (255 : Int32)), .int r2.1]) (σ' := r2.2) [.iload 9] (by decide +kernel) hc hT hF wi (by exact rfl) ?_
        refine am_icmp_eq (o := 5) (pc1 := 59) (by decide +kernel) hc (fun hq => ?_) (fun hq => ?_)
        · refine am_blk (pc' := 62) (Ls' := [.val (.ref 0), .val (.int x1), .val (.int x2), .val (.int x3), .val (.int x4), .val (.long y5), .unset, .val (.int x7), .val (.int ((x1 >>> (((8 : Int32) * x7) &&& 31)) &&& (255 : Int32))), .val (.int ((x2 >>> (((8 : Int32) * x7) &&& 31)) &&& (255 : Int32)))]) (St' := [.int (1 : Int32), .int ((x2 >>> (((8 : Int32) * x7) &&& 31)) &&& (255 : Int32))]) (σ' := r2.2) [.iload 9, .iconst 1] (by decide +kernel) hc hT hF wi (by exact rfl) ?_
          refine am_icmp_eq (o := 16) (pc1 := 78) (by decide +kernel) hc (fun hq => ?_) (fun hq => ?_)
          · exact am_wk (Ls' := [.val (.ref 0), .val (.int x1), .val (.int x2), .val (.int x3), .val (.int x4), .val (.long y5), .unset, .val (.int x7), .unset, .unset]) (by simp [wkL]) (okc_q_check_78 hw hc _ ih x1 x2 x3 x4 y5 x7 r2.2)
          · refine am_blk (pc' := 68) (Ls' := [.val (.ref 0), .val (.int x1), .val (.int x2), .val (.int x3), .val (.int x4), .val (.long y5), .unset, .val (.int x7), .val (.int ((x1 >>> (((8 : Int32) * x7) &&& 31)) &&& (255 : Int32))), .val (.int ((x2 >>> (((8 : Int32) * x7) &&& 31)) &&& (255 : Int32)))]) (St' := [.int x7, .ref 0]) (σ' := r2.2) [.aload_n 0, .iload 7] (by decide +kernel) hc hT hF wi (by exact rfl) ?_
            refine am_callV_J (W0 := 0) (argsL := [.int x7]) (rest := []) rfl (lk_L_46 hw) rfl (by decide +kernel) hc (SubW.refl _) rfl (by show arity "(I)J" 1 = true; decide +kernel) (ok_c_termTable hw x7 _) rfl ⟨by decide, by decide, Nat.le_of_eq rfl, rfl, rfl, by decide, by decide⟩ (fun r3 hr => ?_)
            refine am_blk (pc' := 73) (Ls' := [.val (.ref 0), .val (.int x1), .val (.int x2), .val (.int x3), .val (.int x4), .val (.long y5), .unset, .val (.int x7), .val (.int ((x1 >>> (((8 : Int32) * x7) &&& 31)) &&& (255 : Int32))), .val (.int ((x2 >>> (((8 : Int32) * x7) &&& 31)) &&& (255 : Int32)))]) (St' := [.int (XT.cmpL r3.1 (0 : Int64))]) (σ' := r3.2) [.lconst 0, .lcmp] (by decide +kernel) hc hT hF wi (by exact rfl) ?_
            refine am_if_eq (o := 5) (pc1 := 78) (by decide +kernel) hc (fun hq => ?_) (fun hq => ?_)
            · exact am_wk (Ls' := [.val (.ref 0), .val (.int x1), .val (.int x2), .val (.int x3), .val (.int x4), .val (.long y5), .unset, .val (.int x7), .unset, .unset]) (by simp [wkL]) (okc_q_check_78 hw hc _ ih x1 x2 x3 x4 y5 x7 r3.2)
            · refine am_blk (pc' := 77) (Ls' := [.val (.ref 0), .val (.int x1), .val (.int x2), .val (.int x3), .val (.int x4), .val (.long y5), .unset, .val (.int x7), .val (.int ((x1 >>> (((8 : Int32) * x7) &&& 31)) &&& (255 : Int32))), .val (.int ((x2 >>> (((8 : Int32) * x7) &&& 31)) &&& (255 : Int32)))]) (St' := [.int (0 : Int32)]) (σ' := r3.2) [.iconst 0] (by decide +kernel) hc hT hF wi (by exact rfl) ?_
              exact am_retZ (by decide +kernel) hc (by decide) (by decide) (fun h W O => ⟨rfl, W, O⟩)
        · refine am_blk (pc' := 58) (Ls' := [.val (.ref 0), .val (.int x1), .val (.int x2), .val (.int x3), .val (.int x4), .val (.long y5), .unset, .val (.int x7), .val (.int ((x1 >>> (((8 : Int32) * x7) &&& 31)) &&& (255 : Int32))), .val (.int ((x2 >>> (((8 : Int32) * x7) &&& 31)) &&& (255 : Int32)))]) (St' := [.int (0 : Int32)]) (σ' := r2.2) [.iconst 0] (by decide +kernel) hc hT hF wi (by exact rfl) ?_
          exact am_retZ (by decide +kernel) hc (by decide) (by decide) (fun h W O => ⟨rfl, W, O⟩)
      · refine am_blk (pc' := 58) (Ls' := [.val (.ref 0), .val (.int x1), .val (.int x2), .val (.int x3), .val (.int x4), .val (.long y5), .unset, .val (.int x7), .val (.int ((x1 >>> (((8 : Int32) * x7) &&& 31)) &&& (255 : Int32))), .val (.int ((x2 >>> (((8 : Int32) * x7) &&& 31)) &&& (255 : Int32)))]) (St' := [.int (0 : Int32)]) (σ' := r1.2) [.iconst 0] (by decide +kernel) hc hT hF wi (by exact rfl) ?_
        exact am_retZ (by decide +kernel) hc (by decide) (by decide) (fun h W O => ⟨rfl, W, O⟩)
    · refine am_blk (pc' := 86) (Ls' := [.val (.ref 0), .val (.int x1), .val (.int x2), .val (.int x3), .val (.int x4), .val (.long y5), .unset, .val (.int x7), .unset, .unset]) (St' := [.int (3 : Int32), .ref 0]) (σ' := σ) [.aload_n 0, .iconst 3] (by decide +kernel) hc hT hF wi (by exact rfl) ?_
      refine am_callV_I (W0 := 0) (argsL := [.int (3 : Int32)]) (rest := []) rfl (lk_L_40 hw) rfl (by decide +kernel) hc (SubW.refl _) rfl (by show arity "(I)I" 1 = true; decide +kernel) (ok_c_length hw (3 : Int32) _) rfl ⟨by decide, by decide, Nat.le_of_eq rfl, rfl, rfl, by decide, by decide⟩ (fun r4 hr => ?_)
      refine am_blk (pc' := 90) (Ls' := [.val (.ref 0), .val (.int x1), .val (.int x2), .val (.int x3), .val (.int x4), .val (.long y5), .unset, .val (.int x7), .unset, .unset]) (St' := [.int (-1 : Int32), .int r4.1]) (σ' := r4.2) [.iconst (-1)] (by decide +kernel) hc hT hF wi (by exact rfl) ?_
      refine am_icmp_ne (o := 11) (pc1 := 101) (by decide +kernel) hc (fun hq => ?_) (fun hq => ?_)
      · refine am_blk (pc' := 94) (Ls' := [.val (.ref 0), .val (.int x1), .val (.int x2), .val (.int x3), .val (.int x4), .val (.long y5), .unset, .val (.int x7), .unset, .unset]) (St' := [.ref 0]) (σ' := r4.2) [.aload_n 0] (by decide +kernel) hc hT hF wi (by exact rfl) ?_
        refine am_callV_I (W0 := 0) (argsL := []) (rest := []) rfl (lk_L_50 hw) rfl (by decide +kernel) hc (SubW.refl _) rfl (by show arity "()I" 0 = true; decide +kernel) (ok_c_status hw _) rfl ⟨by decide, by decide, Nat.le_of_eq rfl, rfl, rfl, by decide, by decide⟩ (fun r5 hr => ?_)
        refine am_blk (pc' := 98) (Ls' := [.val (.ref 0), .val (.int x1), .val (.int x2), .val (.int x3), .val (.int x4), .val (.long y5), .unset, .val (.int x7), .unset, .unset]) (St' := [.int x3, .int r5.1]) (σ' := r5.2) [.iload_n 3] (by decide +kernel) hc hT hF wi (by exact rfl) ?_
        refine am_icmp_eq (o := 5) (pc1 := 103) (by decide +kernel) hc (fun hq => ?_) (fun hq => ?_)
        · refine am_blk (pc' := 104) (Ls' := [.val (.ref 0), .val (.int x1), .val (.int x2), .val (.int x3), .val (.int x4), .val (.long y5), .unset, .val (.int x7), .unset, .unset]) (St' := [.ref 0]) (σ' := r5.2) [.aload_n 0] (by decide +kernel) hc hT hF wi (by exact rfl) ?_
          refine am_callV_I (W0 := 0) (argsL := []) (rest := []) rfl (lk_L_54 hw) rfl (by decide +kernel) hc (SubW.refl _) rfl (by show arity "()I" 0 = true; decide +kernel) (ok_c_eliminated hw _) rfl ⟨by decide, by decide, Nat.le_of_eq rfl, rfl, rfl, by decide, by decide⟩ (fun r6 hr => ?_)
          refine am_blk (pc' := 109) (Ls' := [.val (.ref 0), .val (.int x1), .val (.int x2), .val (.int x3), .val (.int x4), .val (.long y5), .unset, .val (.int x7), .unset, .unset]) (St' := [.int x4, .int r6.1]) (σ' := r6.2) [.iload 4] (by decide +kernel) hc hT hF wi (by exact rfl) ?_
          refine am_icmp_ne (o := 13) (pc1 := 122) (by decide +kernel) hc (fun hq => ?_) (fun hq => ?_)
          · refine am_blk (pc' := 113) (Ls' := [.val (.ref 0), .val (.int x1), .val (.int x2), .val (.int x3), .val (.int x4), .val (.long y5), .unset, .val (.int x7), .unset, .unset]) (St' := [.ref 0]) (σ' := r6.2) [.aload_n 0] (by decide +kernel) hc hT hF wi (by exact rfl) ?_
            refine am_callV_J (W0 := 0) (argsL := []) (rest := []) rfl (lk_L_36 hw) rfl (by decide +kernel) hc (SubW.refl _) rfl (by show arity "()J" 0 = true; decide +kernel) (ok_c_residue hw _) rfl ⟨by decide, by decide, Nat.le_of_eq rfl, rfl, rfl, by decide, by decide⟩ (fun r7 hr => ?_)
            refine am_blk (pc' := 119) (Ls' := [.val (.ref 0), .val (.int x1), .val (.int x2), .val (.int x3), .val (.int x4), .val (.long y5), .unset, .val (.int x7), .unset, .unset]) (St' := [.int (XT.cmpL r7.1 y5)]) (σ' := r7.2) [.lload 5, .lcmp] (by decide +kernel) hc hT hF wi (by exact rfl) ?_
            refine am_if_eq (o := 5) (pc1 := 124) (by decide +kernel) hc (fun hq => ?_) (fun hq => ?_)
            · refine am_blk (pc' := 126) (Ls' := [.val (.ref 0), .val (.int x1), .val (.int x2), .val (.int x3), .val (.int x4), .val (.long y5), .unset, .val (.int x7), .unset, .unset]) (St' := [.int (1 : Int32), .int x3]) (σ' := r7.2) [.iload_n 3, .iconst 1] (by decide +kernel) hc hT hF wi (by exact rfl) ?_
              refine am_icmp_ne (o := 8) (pc1 := 134) (by decide +kernel) hc (fun hq => ?_) (fun hq => ?_)
              · refine am_blk (pc' := 135) (Ls' := [.val (.ref 0), .val (.int x1), .val (.int x2), .val (.int x3), .val (.int x4), .val (.long y5), .unset, .val (.int x7), .unset, .unset]) (St' := [.int x4]) (σ' := r7.2) [.iload 4, .goto 4] (by decide +kernel) hc hT hF wi (by exact rfl) ?_
                exact am_wk (Ls' := [.val (.ref 0), .unset, .unset, .unset, .unset, .unset, .unset, .unset, .unset, .unset]) (by simp [wkL]) (okc_q_check_135 hw hc x4 r7.2)
              · refine am_blk (pc' := 135) (Ls' := [.val (.ref 0), .val (.int x1), .val (.int x2), .val (.int x3), .val (.int x4), .val (.long y5), .unset, .val (.int x7), .unset, .unset]) (St' := [.int (0 : Int32)]) (σ' := r7.2) [.iconst 0] (by decide +kernel) hc hT hF wi (by exact rfl) ?_
                exact am_wk (Ls' := [.val (.ref 0), .unset, .unset, .unset, .unset, .unset, .unset, .unset, .unset, .unset]) (by simp [wkL]) (okc_q_check_135 hw hc (0 : Int32) r7.2)
            · refine am_blk (pc' := 123) (Ls' := [.val (.ref 0), .val (.int x1), .val (.int x2), .val (.int x3), .val (.int x4), .val (.long y5), .unset, .val (.int x7), .unset, .unset]) (St' := [.int (0 : Int32)]) (σ' := r7.2) [.iconst 0] (by decide +kernel) hc hT hF wi (by exact rfl) ?_
              exact am_retZ (by decide +kernel) hc (by decide) (by decide) (fun h W O => ⟨rfl, W, O⟩)
          · refine am_blk (pc' := 123) (Ls' := [.val (.ref 0), .val (.int x1), .val (.int x2), .val (.int x3), .val (.int x4), .val (.long y5), .unset, .val (.int x7), .unset, .unset]) (St' := [.int (0 : Int32)]) (σ' := r6.2) [.iconst 0] (by decide +kernel) hc hT hF wi (by exact rfl) ?_
            exact am_retZ (by decide +kernel) hc (by decide) (by decide) (fun h W O => ⟨rfl, W, O⟩)
        · refine am_blk (pc' := 102) (Ls' := [.val (.ref 0), .val (.int x1), .val (.int x2), .val (.int x3), .val (.int x4), .val (.long y5), .unset, .val (.int x7), .unset, .unset]) (St' := [.int (0 : Int32)]) (σ' := r5.2) [.iconst 0] (by decide +kernel) hc hT hF wi (by exact rfl) ?_
          exact am_retZ (by decide +kernel) hc (by decide) (by decide) (fun h W O => ⟨rfl, W, O⟩)
      · refine am_blk (pc' := 102) (Ls' := [.val (.ref 0), .val (.int x1), .val (.int x2), .val (.int x3), .val (.int x4), .val (.long y5), .unset, .val (.int x7), .unset, .unset]) (St' := [.int (0 : Int32)]) (σ' := r4.2) [.iconst 0] (by decide +kernel) hc hT hF wi (by exact rfl) ?_
        exact am_retZ (by decide +kernel) hc (by decide) (by decide) (fun h W O => ⟨rfl, W, O⟩)
def q_check (x1 : Int32) (x2 : Int32) (x3 : Int32) (x4 : Int32) (y5 : Int64) (σ : Sg) : Option (Int32 × Sg) :=
  q_check_3 400 x1 x2 x3 x4 y5 (0 : Int32) σ
set_option maxRecDepth 65536 in
set_option maxHeartbeats 4000000 in
theorem ok_q_check (hw : WH a0 Z) (x1 : Int32) (x2 : Int32) (x3 : Int32) (x4 : Int32) (y5 : Int64) (σ : Sg) : ∀ x, q_check x1 x2 x3 x4 y5 σ = some x → Con l Z "BoolUnifierY" fsC (⟨"BoolUnifierYL6", "check", "(LBoolUnifierY;IIIIJ)Z"⟩ : MethodName) method_3_code 10 (some .boolean) rm_q_check wC [.ref 0, .int x1, .int x2, .int x3, .int x4, .long y5] σ (fI x).1 (fI x).2 := by
  refine am_con pnL ?_
  intro p e s m below meth c A n0 h0 hc
  have hT := tabL hw "check"
  have hF := fsokC hw
  have wi := wiC hw
  unfold q_check
  refine am_blk (pc' := 3) (Ls' := [.val (.ref 0), .val (.int x1), .val (.int x2), .val (.int x3), .val (.int x4), .val (.long y5), .second, .val (.int (0 : Int32)), .unset, .unset]) (St' := []) (σ' := σ) [.iconst 0, .istore 7] (by decide +kernel) hc hT hF wi (by exact rfl) ?_
  exact am_wk (Ls' := [.val (.ref 0), .val (.int x1), .val (.int x2), .val (.int x3), .val (.int x4), .val (.long y5), .unset, .val (.int (0 : Int32)), .unset, .unset]) (by simp [wkL]) (okc_q_check_3 hw hc 400 x1 x2 x3 x4 y5 (0 : Int32) σ)
abbrev rm_c_validCode : Room := { frames := 0, cells := 0, slots := 0, locals := 0 }
def c_validCode (x1 : Int32) (σ : Sg) : Option (Int32 × Sg) :=
  if x1 < 0 then (some ((0 : Int32), σ)) else (if (13 : Int32) < x1 then (some ((0 : Int32), σ)) else (some ((1 : Int32), σ)))
set_option maxRecDepth 65536 in
set_option maxHeartbeats 4000000 in
theorem ok_c_validCode (hw : WH a0 Z) (x1 : Int32) (σ : Sg) : ∀ x, c_validCode x1 σ = some x → Con l Z "BoolUnifierY" fsC (⟨"BoolUnifierY", "validCode", "(I)Z"⟩ : MethodName) prog_1_method_25_code 2 (some .boolean) rm_c_validCode wC [.ref 0, .int x1] σ (fI x).1 (fI x).2 := by
  refine am_con pnC ?_
  intro p e s m below meth c A n0 h0 hc
  have hT := tabC hw "validCode"
  have hF := fsokC hw
  have wi := wiC hw
  unfold c_validCode
  refine am_blk (pc' := 1) (Ls' := [.val (.ref 0), .val (.int x1)]) (St' := [.int x1]) (σ' := σ) [.iload_n 1] (by decide +kernel) hc hT hF wi (by exact rfl) ?_
  refine am_if_lt (o := 13) (pc1 := 14) (by decide +kernel) hc (fun hq => ?_) (fun hq => ?_)
  · refine am_blk (pc' := 15) (Ls' := [.val (.ref 0), .val (.int x1)]) (St' := [.int (0 : Int32)]) (σ' := σ) [.iconst 0] (by decide +kernel) hc hT hF wi (by exact rfl) ?_
    exact am_retZ (by decide +kernel) hc (by decide) (by decide) (fun h W O => ⟨rfl, W, O⟩)
  · refine am_blk (pc' := 7) (Ls' := [.val (.ref 0), .val (.int x1)]) (St' := [.int (13 : Int32), .int x1]) (σ' := σ) [.iload_n 1, .bipush 13] (by decide +kernel) hc hT hF wi (by exact rfl) ?_
    refine am_icmp_gt (o := 7) (pc1 := 14) (by decide +kernel) hc (fun hq => ?_) (fun hq => ?_)
    · refine am_blk (pc' := 15) (Ls' := [.val (.ref 0), .val (.int x1)]) (St' := [.int (0 : Int32)]) (σ' := σ) [.iconst 0] (by decide +kernel) hc hT hF wi (by exact rfl) ?_
      exact am_retZ (by decide +kernel) hc (by decide) (by decide) (fun h W O => ⟨rfl, W, O⟩)
    · refine am_blk (pc' := 15) (Ls' := [.val (.ref 0), .val (.int x1)]) (St' := [.int (1 : Int32)]) (σ' := σ) [.iconst 1, .goto 4] (by decide +kernel) hc hT hF wi (by exact rfl) ?_
      exact am_retZ (by decide +kernel) hc (by decide) (by decide) (fun h W O => ⟨rfl, W, O⟩)
abbrev rm_c_isUnary : Room := { frames := 0, cells := 0, slots := 0, locals := 0 }
def c_isUnary (x1 : Int32) (σ : Sg) : Option (Int32 × Sg) :=
  if x1 = (8 : Int32) then (some ((1 : Int32), σ)) else (some ((0 : Int32), σ))
set_option maxRecDepth 65536 in
set_option maxHeartbeats 4000000 in
theorem ok_c_isUnary (hw : WH a0 Z) (x1 : Int32) (σ : Sg) : ∀ x, c_isUnary x1 σ = some x → Con l Z "BoolUnifierY" fsC (⟨"BoolUnifierY", "isUnary", "(I)Z"⟩ : MethodName) prog_1_method_27_code 2 (some .boolean) rm_c_isUnary wC [.ref 0, .int x1] σ (fI x).1 (fI x).2 := by
  refine am_con pnC ?_
  intro p e s m below meth c A n0 h0 hc
  have hT := tabC hw "isUnary"
  have hF := fsokC hw
  have wi := wiC hw
  unfold c_isUnary
  refine am_blk (pc' := 3) (Ls' := [.val (.ref 0), .val (.int x1)]) (St' := [.int (8 : Int32), .int x1]) (σ' := σ) [.iload_n 1, .bipush 8] (by decide +kernel) hc hT hF wi (by exact rfl) ?_
  refine am_icmp_ne (o := 7) (pc1 := 10) (by decide +kernel) hc (fun hq => ?_) (fun hq => ?_)
  · refine am_blk (pc' := 11) (Ls' := [.val (.ref 0), .val (.int x1)]) (St' := [.int (1 : Int32)]) (σ' := σ) [.iconst 1, .goto 4] (by decide +kernel) hc hT hF wi (by exact rfl) ?_
    exact am_retZ (by decide +kernel) hc (by decide) (by decide) (fun h W O => ⟨rfl, W, O⟩)
  · refine am_blk (pc' := 11) (Ls' := [.val (.ref 0), .val (.int x1)]) (St' := [.int (0 : Int32)]) (σ' := σ) [.iconst 0] (by decide +kernel) hc hT hF wi (by exact rfl) ?_
    exact am_retZ (by decide +kernel) hc (by decide) (by decide) (fun h W O => ⟨rfl, W, O⟩)
abbrev rm_c_isBinary : Room := { frames := 0, cells := 0, slots := 0, locals := 0 }
def c_isBinary (x1 : Int32) (σ : Sg) : Option (Int32 × Sg) :=
  if x1 < (9 : Int32) then (some ((0 : Int32), σ)) else (if (13 : Int32) < x1 then (some ((0 : Int32), σ)) else (some ((1 : Int32), σ)))
set_option maxRecDepth 65536 in
set_option maxHeartbeats 4000000 in
theorem ok_c_isBinary (hw : WH a0 Z) (x1 : Int32) (σ : Sg) : ∀ x, c_isBinary x1 σ = some x → Con l Z "BoolUnifierY" fsC (⟨"BoolUnifierY", "isBinary", "(I)Z"⟩ : MethodName) prog_1_method_28_code 2 (some .boolean) rm_c_isBinary wC [.ref 0, .int x1] σ (fI x).1 (fI x).2 := by
  refine am_con pnC ?_
  intro p e s m below meth c A n0 h0 hc
  have hT := tabC hw "isBinary"
  have hF := fsokC hw
  have wi := wiC hw
  unfold c_isBinary
  refine am_blk (pc' := 3) (Ls' := [.val (.ref 0), .val (.int x1)]) (St' := [.int (9 : Int32), .int x1]) (σ' := σ) [.iload_n 1, .bipush 9] (by decide +kernel) hc hT hF wi (by exact rfl) ?_
  refine am_icmp_lt (o := 13) (pc1 := 16) (by decide +kernel) hc (fun hq => ?_) (fun hq => ?_)
  · refine am_blk (pc' := 17) (Ls' := [.val (.ref 0), .val (.int x1)]) (St' := [.int (0 : Int32)]) (σ' := σ) [.iconst 0] (by decide +kernel) hc hT hF wi (by exact rfl) ?_
    exact am_retZ (by decide +kernel) hc (by decide) (by decide) (fun h W O => ⟨rfl, W, O⟩)
  · refine am_blk (pc' := 9) (Ls' := [.val (.ref 0), .val (.int x1)]) (St' := [.int (13 : Int32), .int x1]) (σ' := σ) [.iload_n 1, .bipush 13] (by decide +kernel) hc hT hF wi (by exact rfl) ?_
    refine am_icmp_gt (o := 7) (pc1 := 16) (by decide +kernel) hc (fun hq => ?_) (fun hq => ?_)
    · refine am_blk (pc' := 17) (Ls' := [.val (.ref 0), .val (.int x1)]) (St' := [.int (0 : Int32)]) (σ' := σ) [.iconst 0] (by decide +kernel) hc hT hF wi (by exact rfl) ?_
      exact am_retZ (by decide +kernel) hc (by decide) (by decide) (fun h W O => ⟨rfl, W, O⟩)
    · refine am_blk (pc' := 17) (Ls' := [.val (.ref 0), .val (.int x1)]) (St' := [.int (1 : Int32)]) (σ' := σ) [.iconst 1, .goto 4] (by decide +kernel) hc hT hF wi (by exact rfl) ?_
      exact am_retZ (by decide +kernel) hc (by decide) (by decide) (fun h W O => ⟨rfl, W, O⟩)
abbrev rm_c_isLeaf : Room := { frames := 0, cells := 0, slots := 0, locals := 0 }
def c_isLeaf (x1 : Int32) (σ : Sg) : Option (Int32 × Sg) :=
  if x1 < 0 then (some ((0 : Int32), σ)) else (if (7 : Int32) < x1 then (some ((0 : Int32), σ)) else (some ((1 : Int32), σ)))
set_option maxRecDepth 65536 in
set_option maxHeartbeats 4000000 in
theorem ok_c_isLeaf (hw : WH a0 Z) (x1 : Int32) (σ : Sg) : ∀ x, c_isLeaf x1 σ = some x → Con l Z "BoolUnifierY" fsC (⟨"BoolUnifierY", "isLeaf", "(I)Z"⟩ : MethodName) prog_1_method_26_code 2 (some .boolean) rm_c_isLeaf wC [.ref 0, .int x1] σ (fI x).1 (fI x).2 := by
  refine am_con pnC ?_
  intro p e s m below meth c A n0 h0 hc
  have hT := tabC hw "isLeaf"
  have hF := fsokC hw
  have wi := wiC hw
  unfold c_isLeaf
  refine am_blk (pc' := 1) (Ls' := [.val (.ref 0), .val (.int x1)]) (St' := [.int x1]) (σ' := σ) [.iload_n 1] (by decide +kernel) hc hT hF wi (by exact rfl) ?_
  refine am_if_lt (o := 13) (pc1 := 14) (by decide +kernel) hc (fun hq => ?_) (fun hq => ?_)
  · refine am_blk (pc' := 15) (Ls' := [.val (.ref 0), .val (.int x1)]) (St' := [.int (0 : Int32)]) (σ' := σ) [.iconst 0] (by decide +kernel) hc hT hF wi (by exact rfl) ?_
    exact am_retZ (by decide +kernel) hc (by decide) (by decide) (fun h W O => ⟨rfl, W, O⟩)
  · refine am_blk (pc' := 7) (Ls' := [.val (.ref 0), .val (.int x1)]) (St' := [.int (7 : Int32), .int x1]) (σ' := σ) [.iload_n 1, .bipush 7] (by decide +kernel) hc hT hF wi (by exact rfl) ?_
    refine am_icmp_gt (o := 7) (pc1 := 14) (by decide +kernel) hc (fun hq => ?_) (fun hq => ?_)
    · refine am_blk (pc' := 15) (Ls' := [.val (.ref 0), .val (.int x1)]) (St' := [.int (0 : Int32)]) (σ' := σ) [.iconst 0] (by decide +kernel) hc hT hF wi (by exact rfl) ?_
      exact am_retZ (by decide +kernel) hc (by decide) (by decide) (fun h W O => ⟨rfl, W, O⟩)
    · refine am_blk (pc' := 15) (Ls' := [.val (.ref 0), .val (.int x1)]) (St' := [.int (1 : Int32)]) (σ' := σ) [.iconst 1, .goto 4] (by decide +kernel) hc hT hF wi (by exact rfl) ?_
      exact am_retZ (by decide +kernel) hc (by decide) (by decide) (fun h W O => ⟨rfl, W, O⟩)
abbrev rm_c_leafTable : Room := { frames := 1, cells := 0, slots := 0, locals := 13 }
def c_leafTable (x1 : Int32) (σ : Sg) : Option (Int64 × Sg) :=
  if x1 = 0 then (some ((0 : Int64), σ)) else (if x1 = (1 : Int32) then (some ((-1 : Int64), σ)) else ((c_varTable (x1 - (2 : Int32)) σ).bind fun r1 => some (r1.1, r1.2)))
set_option maxRecDepth 65536 in
set_option maxHeartbeats 4000000 in
theorem ok_c_leafTable (hw : WH a0 Z) (x1 : Int32) (σ : Sg) : ∀ x, c_leafTable x1 σ = some x → Con l Z "BoolUnifierY" fsC (⟨"BoolUnifierY", "leafTable", "(I)J"⟩ : MethodName) prog_1_method_32_code 3 (some .long) rm_c_leafTable wC [.ref 0, .int x1] σ (fJ x).1 (fJ x).2 := by
  refine am_con pnC ?_
  intro p e s m below meth c A n0 h0 hc
  have hT := tabC hw "leafTable"
  have hF := fsokC hw
  have wi := wiC hw
  unfold c_leafTable
  refine am_blk (pc' := 1) (Ls' := [.val (.ref 0), .val (.int x1), .unset]) (St' := [.int x1]) (σ' := σ) [.iload_n 1] (by decide +kernel) hc hT hF wi (by exact rfl) ?_
  refine am_if_ne (o := 5) (pc1 := 6) (by decide +kernel) hc (fun hq => ?_) (fun hq => ?_)
  · refine am_blk (pc' := 5) (Ls' := [.val (.ref 0), .val (.int x1), .unset]) (St' := [.long (0 : Int64)]) (σ' := σ) [.lconst 0] (by decide +kernel) hc hT hF wi (by exact rfl) ?_
    exact am_retJ (by decide +kernel) hc (by decide) (by decide) (fun h W O => ⟨rfl, W, O⟩)
  · refine am_blk (pc' := 8) (Ls' := [.val (.ref 0), .val (.int x1), .unset]) (St' := [.int (1 : Int32), .int x1]) (σ' := σ) [.iload_n 1, .iconst 1] (by decide +kernel) hc hT hF wi (by exact rfl) ?_
    refine am_icmp_ne (o := 7) (pc1 := 15) (by decide +kernel) hc (fun hq => ?_) (fun hq => ?_)
    · refine am_blk (pc' := 14) (Ls' := [.val (.ref 0), .val (.int x1), .unset]) (St' := [.long (-1 : Int64)]) (σ' := σ) [.ldc2_w 155] (by decide +kernel) hc hT hF wi (by exact rfl) ?_
      exact am_retJ (by decide +kernel) hc (by decide) (by decide) (fun h W O => ⟨rfl, W, O⟩)
    · refine am_blk (pc' := 21) (Ls' := [.val (.ref 0), .val (.int x1), .val (.int (x1 - (2 : Int32)))]) (St' := [.int (x1 - (2 : Int32)), .ref 0]) (σ' := σ) [.iload_n 1, .iconst 2, .isub, .istore_n 2, .aload_n 0, .iload_n 2] (by decide +kernel) hc hT hF wi (by exact rfl) ?_
      refine am_callP_J (W0 := 0) (argsL := [.int (x1 - (2 : Int32))]) (rest := []) rfl (lk_C_137 hw) rfl wi (by decide +kernel) hc (SubW.refl _) rfl (by show arity "(I)J" 1 = true; decide +kernel) (ok_c_varTable hw (x1 - (2 : Int32)) _) rfl ⟨by decide, by decide, Nat.le_of_eq rfl, rfl, rfl, by decide, by decide⟩ (fun r1 hr => ?_)
      exact am_retJ (by decide +kernel) hc (by decide) (by decide) (fun h W O => ⟨rfl, W, O⟩)
abbrev rm_c_storeNode : Room := { frames := 0, cells := 0, slots := 0, locals := 0 }
def c_storeNode (x1 : Int32) (y2 : Int64) (x4 : Int32) (σ : Sg) : Option Sg :=
  if x1 < 0 then (some σ) else (if x1 < (96 : Int32) then (if inb x1 96 = true then (some (si (sj σ 5 (nx x1) y2) 6 (nx x1) x4)) else none) else (some σ))
set_option maxRecDepth 65536 in
set_option maxHeartbeats 4000000 in
theorem ok_c_storeNode (hw : WH a0 Z) (x1 : Int32) (y2 : Int64) (x4 : Int32) (σ : Sg) : ∀ x, c_storeNode x1 y2 x4 σ = some x → Con l Z "BoolUnifierY" fsC (⟨"BoolUnifierY", "storeNode", "(IJI)V"⟩ : MethodName) prog_1_method_39_code 5 none rm_c_storeNode wC [.ref 0, .int x1, .long y2, .int x4] σ (fV x).1 (fV x).2 := by
  refine am_con pnC ?_
  intro p e s m below meth c A n0 h0 hc
  have hT := tabC hw "storeNode"
  have hF := fsokC hw
  have wi := wiC hw
  unfold c_storeNode
  refine am_blk (pc' := 1) (Ls' := [.val (.ref 0), .val (.int x1), .val (.long y2), .second, .val (.int x4)]) (St' := [.int x1]) (σ' := σ) [.iload_n 1] (by decide +kernel) hc hT hF wi (by exact rfl) ?_
  refine am_if_lt (o := 9) (pc1 := 10) (by decide +kernel) hc (fun hq => ?_) (fun hq => ?_)
  · exact am_retV (by decide +kernel) hc (by decide) (by decide) (fun h W O => ⟨rfl, W, O⟩)
  · refine am_blk (pc' := 7) (Ls' := [.val (.ref 0), .val (.int x1), .val (.long y2), .second, .val (.int x4)]) (St' := [.int (96 : Int32), .int x1]) (σ' := σ) [.iload_n 1, .bipush 96] (by decide +kernel) hc hT hF wi (by exact rfl) ?_
    refine am_icmp_lt (o := 4) (pc1 := 11) (by decide +kernel) hc (fun hq => ?_) (fun hq => ?_)
    · refine am_blk (pc' := 17) (Ls' := [.val (.ref 0), .val (.int x1), .val (.long y2), .second, .val (.int x4)]) (St' := [.long y2, .int x1, .ref 5]) (σ' := σ) [.aload_n 0, .getfield 24, .iload_n 1, .lload_n 2] (by decide +kernel) hc hT hF wi (by exact rfl) ?_
      refine am_lastore (y := y2) rfl (by decide +kernel) hc rfl (fun hb0 => ?_)
      refine am_blk (pc' := 25) (Ls' := [.val (.ref 0), .val (.int x1), .val (.long y2), .second, .val (.int x4)]) (St' := [.int x4, .int x1, .ref 6]) (σ' := sj σ 5 (nx x1) y2) [.aload_n 0, .getfield 27, .iload_n 1, .iload 4] (by decide +kernel) hc hT hF wi (by exact rfl) ?_
      refine am_iastore_k hb0 (y := x4) rfl (by decide +kernel) hc rfl ?_
      exact am_retV (by decide +kernel) hc (by decide) (by decide) (fun h W O => ⟨rfl, W, O⟩)
    · exact am_retV (by decide +kernel) hc (by decide) (by decide) (fun h W O => ⟨rfl, W, O⟩)
abbrev rm_c_startAt : Room := { frames := 2, cells := 0, slots := 0, locals := 27 }
def c_startAt (x1 : Int32) (x2 : Int32) (σ : Sg) : Option (Int32 × Sg) :=
  (c_indexOf x1 x2 σ).bind fun r1 => if r1.1 < 0 then (some ((0 : Int32), r1.2)) else (if inb r1.1 96 = true then (some (gi r1.2 6 (nx r1.1), r1.2)) else none)
set_option maxRecDepth 65536 in
set_option maxHeartbeats 4000000 in
theorem ok_c_startAt (hw : WH a0 Z) (x1 : Int32) (x2 : Int32) (σ : Sg) : ∀ x, c_startAt x1 x2 σ = some x → Con l Z "BoolUnifierY" fsC (⟨"BoolUnifierY", "startAt", "(II)I"⟩ : MethodName) prog_1_method_38_code 4 (some .int) rm_c_startAt wC [.ref 0, .int x1, .int x2] σ (fI x).1 (fI x).2 := by
  refine am_con pnC ?_
  intro p e s m below meth c A n0 h0 hc
  have hT := tabC hw "startAt"
  have hF := fsokC hw
  have wi := wiC hw
  unfold c_startAt
  refine am_blk (pc' := 3) (Ls' := [.val (.ref 0), .val (.int x1), .val (.int x2), .unset]) (St' := [.int x2, .int x1, .ref 0]) (σ' := σ) [.aload_n 0, .iload_n 1, .iload_n 2] (by decide +kernel) hc hT hF wi (by exact rfl) ?_
  refine am_callP_I (W0 := 0) (argsL := [.int x1, .int x2]) (rest := []) rfl (lk_C_79 hw) rfl wi (by decide +kernel) hc (SubW.refl _) rfl (by show arity "(II)I" 2 = true; decide +kernel) (ok_c_indexOf hw x1 x2 _) rfl ⟨by decide, by decide, Nat.le_of_eq rfl, rfl, rfl, by decide, by decide⟩ (fun r1 hr => ?_)
  refine am_blk (pc' := 8) (Ls' := [.val (.ref 0), .val (.int x1), .val (.int x2), .val (.int r1.1)]) (St' := [.int r1.1]) (σ' := r1.2) [.istore_n 3, .iload_n 3] (by decide +kernel) hc hT hF wi (by exact rfl) ?_
  refine am_if_ge (o := 5) (pc1 := 13) (by decide +kernel) hc (fun hq => ?_) (fun hq => ?_)
  · refine am_blk (pc' := 12) (Ls' := [.val (.ref 0), .val (.int x1), .val (.int x2), .val (.int r1.1)]) (St' := [.int (0 : Int32)]) (σ' := r1.2) [.iconst 0] (by decide +kernel) hc hT hF wi (by exact rfl) ?_
    exact am_retI (by decide +kernel) hc (by decide) (by decide) (fun h W O => ⟨rfl, W, O⟩)
  · refine am_blk (pc' := 18) (Ls' := [.val (.ref 0), .val (.int x1), .val (.int x2), .val (.int r1.1)]) (St' := [.int r1.1, .ref 6]) (σ' := r1.2) [.aload_n 0, .getfield 27, .iload_n 3] (by decide +kernel) hc hT hF wi (by exact rfl) ?_
    refine am_iaload (by decide +kernel) hc rfl (fun hb0 => ?_)
    exact am_retI (by decide +kernel) hc (by decide) (by decide) (fun h W O => ⟨rfl, W, O⟩)
abbrev rm_c_appendNot : Room := { frames := 3, cells := 0, slots := 0, locals := 42 }
def c_appendNot (x1 : Int32) (x2 : Int32) (x3 : Int32) (σ : Sg) : Option Sg :=
  (c_valueAt x1 (x2 - (1 : Int32)) σ).bind fun r1 => (c_startAt x1 (x2 - (1 : Int32)) r1.2).bind fun r2 => (c_storeNode x3 (r1.1 ^^^ (-1 : Int64)) r2.1 r2.2).bind fun r3 => some r3
set_option maxRecDepth 65536 in
set_option maxHeartbeats 4000000 in
theorem ok_c_appendNot (hw : WH a0 Z) (x1 : Int32) (x2 : Int32) (x3 : Int32) (σ : Sg) : ∀ x, c_appendNot x1 x2 x3 σ = some x → Con l Z "BoolUnifierY" fsC (⟨"BoolUnifierY", "appendNot", "(III)V"⟩ : MethodName) prog_1_method_41_code 7 none rm_c_appendNot wC [.ref 0, .int x1, .int x2, .int x3] σ (fV x).1 (fV x).2 := by
  refine am_con pnC ?_
  intro p e s m below meth c A n0 h0 hc
  have hT := tabC hw "appendNot"
  have hF := fsokC hw
  have wi := wiC hw
  unfold c_appendNot
  refine am_blk (pc' := 5) (Ls' := [.val (.ref 0), .val (.int x1), .val (.int x2), .val (.int x3), .unset, .unset, .unset]) (St' := [.int (x2 - (1 : Int32)), .int x1, .ref 0]) (σ' := σ) [.aload_n 0, .iload_n 1, .iload_n 2, .iconst 1, .isub] (by decide +kernel) hc hT hF wi (by exact rfl) ?_
  refine am_callP_J (W0 := 0) (argsL := [.int x1, .int (x2 - (1 : Int32))]) (rest := []) rfl (lk_C_93 hw) rfl wi (by decide +kernel) hc (SubW.refl _) rfl (by show arity "(II)J" 2 = true; decide +kernel) (ok_c_valueAt hw x1 (x2 - (1 : Int32)) _) rfl ⟨by decide, by decide, Nat.le_of_eq rfl, rfl, rfl, by decide, by decide⟩ (fun r1 hr => ?_)
  refine am_blk (pc' := 15) (Ls' := [.val (.ref 0), .val (.int x1), .val (.int x2), .val (.int x3), .val (.long r1.1), .second, .unset]) (St' := [.int (x2 - (1 : Int32)), .int x1, .ref 0]) (σ' := r1.2) [.lstore 4, .aload_n 0, .iload_n 1, .iload_n 2, .iconst 1, .isub] (by decide +kernel) hc hT hF wi (by exact rfl) ?_
  refine am_callP_I (W0 := 0) (argsL := [.int x1, .int (x2 - (1 : Int32))]) (rest := []) rfl (lk_C_172 hw) rfl wi (by decide +kernel) hc (SubW.refl _) rfl (by show arity "(II)I" 2 = true; decide +kernel) (ok_c_startAt hw x1 (x2 - (1 : Int32)) _) rfl ⟨by decide, by decide, Nat.le_of_eq rfl, rfl, rfl, by decide, by decide⟩ (fun r2 hr => ?_)
  refine am_blk (pc' := 30) (Ls' := [.val (.ref 0), .val (.int x1), .val (.int x2), .val (.int x3), .val (.long r1.1), .second, .val (.int r2.1)]) (St' := [.int r2.1, .long (r1.1 ^^^ (-1 : Int64)), .int x3, .ref 0]) (σ' := r2.2) [.istore 6, .aload_n 0, .iload_n 3, .lload 4, .ldc2_w 155, .lxor, .iload 6] (by decide +kernel) hc hT hF wi (by exact rfl) ?_
  refine am_callP_V (W0 := 0) (argsL := [.int x3, .long (r1.1 ^^^ (-1 : Int64)), .int r2.1]) (rest := []) rfl (lk_C_160 hw) rfl wi (by decide +kernel) hc (SubW.refl _) rfl (by show arity "(IJI)V" 3 = true; decide +kernel) (ok_c_storeNode hw x3 (r1.1 ^^^ (-1 : Int64)) r2.1 _) rfl ⟨by decide, by decide, Nat.le_of_eq rfl, rfl, rfl, by decide, by decide⟩ (fun r3 hr => ?_)
  exact am_retV (by decide +kernel) hc (by decide) (by decide) (fun h W O => ⟨rfl, W, O⟩)
abbrev rm_c_combine : Room := { frames := 0, cells := 0, slots := 0, locals := 0 }
def c_combine (x1 : Int32) (y2 : Int64) (y4 : Int64) (σ : Sg) : Option (Int64 × Sg) :=
  if x1 = (9 : Int32) then (some (y2 &&& y4, σ)) else (if x1 = (10 : Int32) then (some (y2 ||| y4, σ)) else (if x1 = (11 : Int32) then (some (y2 ^^^ y4, σ)) else (if x1 = (12 : Int32) then (some ((y2 ^^^ y4) ^^^ (-1 : Int64), σ)) else (if x1 = (13 : Int32) then (some ((y2 ^^^ (-1 : Int64)) ||| y4, σ)) else (some ((0 : Int64), σ))))))
set_option maxRecDepth 65536 in
set_option maxHeartbeats 4000000 in
theorem ok_c_combine (hw : WH a0 Z) (x1 : Int32) (y2 : Int64) (y4 : Int64) (σ : Sg) : ∀ x, c_combine x1 y2 y4 σ = some x → Con l Z "BoolUnifierY" fsC (⟨"BoolUnifierY", "combine", "(IJJ)J"⟩ : MethodName) prog_1_method_33_code 6 (some .long) rm_c_combine wC [.ref 0, .int x1, .long y2, .long y4] σ (fJ x).1 (fJ x).2 := by
  refine am_con pnC ?_
  intro p e s m below meth c A n0 h0 hc
  have hT := tabC hw "combine"
  have hF := fsokC hw
  have wi := wiC hw
  unfold c_combine
  refine am_blk (pc' := 1) (Ls' := [.val (.ref 0), .val (.int x1), .val (.long y2), .second, .val (.long y4), .second]) (St' := [.int x1]) (σ' := σ) [.iload_n 1] (by decide +kernel) hc hT hF wi (by exact rfl) ?_
  refine am_tsw (dflt := 68) (low := 9) (high := 13) (offs := #[35, 40, 45, 50, 59]) (len := 35) (v := 9) (vi := 9) (o := 35) (pcv := 36) (by decide +kernel) (by decide) rfl (by decide) (by decide) rfl hc (fun hq => ?_) (fun hq9 => ?_)
  · refine am_blk (pc' := 40) (Ls' := [.val (.ref 0), .val (.int x1), .val (.long y2), .second, .val (.long y4), .second]) (St' := [.long (y2 &&& y4)]) (σ' := σ) [.lload_n 2, .lload 4, .land] (by decide +kernel) hc hT hF wi (by exact rfl) ?_
    exact am_retJ (by decide +kernel) hc (by decide) (by decide) (fun h W O => ⟨rfl, W, O⟩)
  refine am_tsw (dflt := 68) (low := 9) (high := 13) (offs := #[35, 40, 45, 50, 59]) (len := 35) (v := 10) (vi := 10) (o := 40) (pcv := 41) (by decide +kernel) (by decide) rfl (by decide) (by decide) rfl hc (fun hq => ?_) (fun hq10 => ?_)
  · refine am_blk (pc' := 45) (Ls' := [.val (.ref 0), .val (.int x1), .val (.long y2), .second, .val (.long y4), .second]) (St' := [.long (y2 ||| y4)]) (σ' := σ) [.lload_n 2, .lload 4, .lor] (by decide +kernel) hc hT hF wi (by exact rfl) ?_
    exact am_retJ (by decide +kernel) hc (by decide) (by decide) (fun h W O => ⟨rfl, W, O⟩)
  refine am_tsw (dflt := 68) (low := 9) (high := 13) (offs := #[35, 40, 45, 50, 59]) (len := 35) (v := 11) (vi := 11) (o := 45) (pcv := 46) (by decide +kernel) (by decide) rfl (by decide) (by decide) rfl hc (fun hq => ?_) (fun hq11 => ?_)
  · refine am_blk (pc' := 50) (Ls' := [.val (.ref 0), .val (.int x1), .val (.long y2), .second, .val (.long y4), .second]) (St' := [.long (y2 ^^^ y4)]) (σ' := σ) [.lload_n 2, .lload 4, .lxor] (by decide +kernel) hc hT hF wi (by exact rfl) ?_
    exact am_retJ (by decide +kernel) hc (by decide) (by decide) (fun h W O => ⟨rfl, W, O⟩)
  refine am_tsw (dflt := 68) (low := 9) (high := 13) (offs := #[35, 40, 45, 50, 59]) (len := 35) (v := 12) (vi := 12) (o := 50) (pcv := 51) (by decide +kernel) (by decide) rfl (by decide) (by decide) rfl hc (fun hq => ?_) (fun hq12 => ?_)
  · refine am_blk (pc' := 59) (Ls' := [.val (.ref 0), .val (.int x1), .val (.long y2), .second, .val (.long y4), .second]) (St' := [.long ((y2 ^^^ y4) ^^^ (-1 : Int64))]) (σ' := σ) [.lload_n 2, .lload 4, .lxor, .ldc2_w 155, .lxor] (by decide +kernel) hc hT hF wi (by exact rfl) ?_
    exact am_retJ (by decide +kernel) hc (by decide) (by decide) (fun h W O => ⟨rfl, W, O⟩)
  refine am_tsw (dflt := 68) (low := 9) (high := 13) (offs := #[35, 40, 45, 50, 59]) (len := 35) (v := 13) (vi := 13) (o := 59) (pcv := 60) (by decide +kernel) (by decide) rfl (by decide) (by decide) rfl hc (fun hq => ?_) (fun hq13 => ?_)
  · refine am_blk (pc' := 68) (Ls' := [.val (.ref 0), .val (.int x1), .val (.long y2), .second, .val (.long y4), .second]) (St' := [.long ((y2 ^^^ (-1 : Int64)) ||| y4)]) (σ' := σ) [.lload_n 2, .ldc2_w 155, .lxor, .lload 4, .lor] (by decide +kernel) hc hT hF wi (by exact rfl) ?_
    exact am_retJ (by decide +kernel) hc (by decide) (by decide) (fun h W O => ⟨rfl, W, O⟩)
  refine am_tswD (dflt := 68) (low := 9) (high := 13) (offs := #[35, 40, 45, 50, 59]) (len := 35) (pcv := 69) (by decide +kernel) (by omega) (by decide) (by decide) hc ?_
  refine am_blk (pc' := 70) (Ls' := [.val (.ref 0), .val (.int x1), .val (.long y2), .second, .val (.long y4), .second]) (St' := [.long (0 : Int64)]) (σ' := σ) [.lconst 0] (by decide +kernel) hc hT hF wi (by exact rfl) ?_
  exact am_retJ (by decide +kernel) hc (by decide) (by decide) (fun h W O => ⟨rfl, W, O⟩)
abbrev rm_c_appendBinary : Room := { frames := 3, cells := 0, slots := 0, locals := 42 }
def c_appendBinary (x1 : Int32) (x2 : Int32) (x3 : Int32) (x4 : Int32) (σ : Sg) : Option Sg :=
  (c_startAt x1 (x2 - (1 : Int32)) σ).bind fun r1 => (c_valueAt x1 (x2 - (1 : Int32)) r1.2).bind fun r2 => (c_valueAt x1 (r1.1 - (1 : Int32)) r2.2).bind fun r3 => (c_startAt x1 (r1.1 - (1 : Int32)) r3.2).bind fun r4 => (c_combine x4 r3.1 r2.1 r4.2).bind fun r5 => (c_storeNode x3 r5.1 r4.1 r5.2).bind fun r6 => some r6
set_option maxRecDepth 65536 in
set_option maxHeartbeats 4000000 in
theorem ok_c_appendBinary (hw : WH a0 Z) (x1 : Int32) (x2 : Int32) (x3 : Int32) (x4 : Int32) (σ : Sg) : ∀ x, c_appendBinary x1 x2 x3 x4 σ = some x → Con l Z "BoolUnifierY" fsC (⟨"BoolUnifierY", "appendBinary", "(IIII)V"⟩ : MethodName) prog_1_method_42_code 15 none rm_c_appendBinary wC [.ref 0, .int x1, .int x2, .int x3, .int x4] σ (fV x).1 (fV x).2 := by
  refine am_con pnC ?_
  intro p e s m below meth c A n0 h0 hc
  have hT := tabC hw "appendBinary"
  have hF := fsokC hw
  have wi := wiC hw
  unfold c_appendBinary
  refine am_blk (pc' := 9) (Ls' := [.val (.ref 0), .val (.int x1), .val (.int x2), .val (.int x3), .val (.int x4), .val (.int (x2 - (1 : Int32))), .unset, .unset, .unset, .unset, .unset, .unset, .unset, .unset, .unset]) (St' := [.int (x2 - (1 : Int32)), .int x1, .ref 0]) (σ' := σ) [.iload_n 2, .iconst 1, .isub, .istore 5, .aload_n 0, .iload_n 1, .iload 5] (by decide +kernel) hc hT hF wi (by exact rfl) ?_
  refine am_callP_I (W0 := 0) (argsL := [.int x1, .int (x2 - (1 : Int32))]) (rest := []) rfl (lk_C_172 hw) rfl wi (by decide +kernel) hc (SubW.refl _) rfl (by show arity "(II)I" 2 = true; decide +kernel) (ok_c_startAt hw x1 (x2 - (1 : Int32)) _) rfl ⟨by decide, by decide, Nat.le_of_eq rfl, rfl, rfl, by decide, by decide⟩ (fun r1 hr => ?_)
  refine am_blk (pc' := 24) (Ls' := [.val (.ref 0), .val (.int x1), .val (.int x2), .val (.int x3), .val (.int x4), .val (.int (x2 - (1 : Int32))), .val (.int r1.1), .val (.int (r1.1 - (1 : Int32))), .unset, .unset, .unset, .unset, .unset, .unset, .unset]) (St' := [.int (x2 - (1 : Int32)), .int x1, .ref 0]) (σ' := r1.2) [.istore 6, .iload 6, .iconst 1, .isub, .istore 7, .aload_n 0, .iload_n 1, .iload 5] (by decide +kernel) hc hT hF wi (by exact rfl) ?_
  refine am_callP_J (W0 := 0) (argsL := [.int x1, .int (x2 - (1 : Int32))]) (rest := []) rfl (lk_C_93 hw) rfl wi (by decide +kernel) hc (SubW.refl _) rfl (by show arity "(II)J" 2 = true; decide +kernel) (ok_c_valueAt hw x1 (x2 - (1 : Int32)) _) rfl ⟨by decide, by decide, Nat.le_of_eq rfl, rfl, rfl, by decide, by decide⟩ (fun r2 hr => ?_)
  refine am_blk (pc' := 33) (Ls' := [.val (.ref 0), .val (.int x1), .val (.int x2), .val (.int x3), .val (.int x4), .val (.int (x2 - (1 : Int32))), .val (.int r1.1), .val (.int (r1.1 - (1 : Int32))), .val (.long r2.1), .second, .unset, .unset, .unset, .unset, .unset]) (St' := [.int (r1.1 - (1 : Int32)), .int x1, .ref 0]) (σ' := r2.2) [.lstore 8, .aload_n 0, .iload_n 1, .iload 7] (by decide +kernel) hc hT hF wi (by exact rfl) ?_
  refine am_callP_J (W0 := 0) (argsL := [.int x1, .int (r1.1 - (1 : Int32))]) (rest := []) rfl (lk_C_93 hw) rfl wi (by decide +kernel) hc (SubW.refl _) rfl (by show arity "(II)J" 2 = true; decide +kernel) (ok_c_valueAt hw x1 (r1.1 - (1 : Int32)) _) rfl ⟨by decide, by decide, Nat.le_of_eq rfl, rfl, rfl, by decide, by decide⟩ (fun r3 hr => ?_)
  refine am_blk (pc' := 42) (Ls' := [.val (.ref 0), .val (.int x1), .val (.int x2), .val (.int x3), .val (.int x4), .val (.int (x2 - (1 : Int32))), .val (.int r1.1), .val (.int (r1.1 - (1 : Int32))), .val (.long r2.1), .second, .val (.long r3.1), .second, .unset, .unset, .unset]) (St' := [.int (r1.1 - (1 : Int32)), .int x1, .ref 0]) (σ' := r3.2) [.lstore 10, .aload_n 0, .iload_n 1, .iload 7] (by decide +kernel) hc hT hF wi (by exact rfl) ?_
  refine am_callP_I (W0 := 0) (argsL := [.int x1, .int (r1.1 - (1 : Int32))]) (rest := []) rfl (lk_C_172 hw) rfl wi (by decide +kernel) hc (SubW.refl _) rfl (by show arity "(II)I" 2 = true; decide +kernel) (ok_c_startAt hw x1 (r1.1 - (1 : Int32)) _) rfl ⟨by decide, by decide, Nat.le_of_eq rfl, rfl, rfl, by decide, by decide⟩ (fun r4 hr => ?_)
  refine am_blk (pc' := 54) (Ls' := [.val (.ref 0), .val (.int x1), .val (.int x2), .val (.int x3), .val (.int x4), .val (.int (x2 - (1 : Int32))), .val (.int r1.1), .val (.int (r1.1 - (1 : Int32))), .val (.long r2.1), .second, .val (.long r3.1), .second, .val (.int r4.1), .unset, .unset]) (St' := [.long r2.1, .long r3.1, .int x4, .ref 0]) (σ' := r4.2) [.istore 12, .aload_n 0, .iload 4, .lload 10, .lload 8] (by decide +kernel) hc hT hF wi (by exact rfl) ?_
  refine am_callP_J (W0 := 0) (argsL := [.int x4, .long r3.1, .long r2.1]) (rest := []) rfl (lk_C_175 hw) rfl wi (by decide +kernel) hc (SubW.refl _) rfl (by show arity "(IJJ)J" 3 = true; decide +kernel) (ok_c_combine hw x4 r3.1 r2.1 _) rfl ⟨by decide, by decide, Nat.le_of_eq rfl, rfl, rfl, by decide, by decide⟩ (fun r5 hr => ?_)
  refine am_blk (pc' := 65) (Ls' := [.val (.ref 0), .val (.int x1), .val (.int x2), .val (.int x3), .val (.int x4), .val (.int (x2 - (1 : Int32))), .val (.int r1.1), .val (.int (r1.1 - (1 : Int32))), .val (.long r2.1), .second, .val (.long r3.1), .second, .val (.int r4.1), .val (.long r5.1), .second]) (St' := [.int r4.1, .long r5.1, .int x3, .ref 0]) (σ' := r5.2) [.lstore 13, .aload_n 0, .iload_n 3, .lload 13, .iload 12] (by decide +kernel) hc hT hF wi (by exact rfl) ?_
  refine am_callP_V (W0 := 0) (argsL := [.int x3, .long r5.1, .int r4.1]) (rest := []) rfl (lk_C_160 hw) rfl wi (by decide +kernel) hc (SubW.refl _) rfl (by show arity "(IJI)V" 3 = true; decide +kernel) (ok_c_storeNode hw x3 r5.1 r4.1 _) rfl ⟨by decide, by decide, Nat.le_of_eq rfl, rfl, rfl, by decide, by decide⟩ (fun r6 hr => ?_)
  exact am_retV (by decide +kernel) hc (by decide) (by decide) (fun h W O => ⟨rfl, W, O⟩)
abbrev rm_c_depthChange : Room := { frames := 1, cells := 0, slots := 0, locals := 13 }
def c_depthChange (x1 : Int32) (σ : Sg) : Option (Int32 × Sg) :=
  (c_isLeaf x1 σ).bind fun r1 => if r1.1 = 0 then ((c_isBinary x1 r1.2).bind fun r2 => if r2.1 = 0 then (some ((0 : Int32), r2.2)) else (some ((-1 : Int32), r2.2))) else (some ((1 : Int32), r1.2))
set_option maxRecDepth 65536 in
set_option maxHeartbeats 4000000 in
theorem ok_c_depthChange (hw : WH a0 Z) (x1 : Int32) (σ : Sg) : ∀ x, c_depthChange x1 σ = some x → Con l Z "BoolUnifierY" fsC (⟨"BoolUnifierY", "depthChange", "(I)I"⟩ : MethodName) prog_1_method_29_code 2 (some .int) rm_c_depthChange wC [.ref 0, .int x1] σ (fI x).1 (fI x).2 := by
  refine am_con pnC ?_
  intro p e s m below meth c A n0 h0 hc
  have hT := tabC hw "depthChange"
  have hF := fsokC hw
  have wi := wiC hw
  unfold c_depthChange
  refine am_blk (pc' := 2) (Ls' := [.val (.ref 0), .val (.int x1)]) (St' := [.int x1, .ref 0]) (σ' := σ) [.aload_n 0, .iload_n 1] (by decide +kernel) hc hT hF wi (by exact rfl) ?_
  refine am_callP_I (W0 := 0) (argsL := [.int x1]) (rest := []) rfl (lk_C_140 hw) rfl wi (by decide +kernel) hc (SubW.refl _) rfl (by show arity "(I)Z" 1 = true; decide +kernel) (ok_c_isLeaf hw x1 _) rfl ⟨by decide, by decide, Nat.le_of_eq rfl, rfl, rfl, by decide, by decide⟩ (fun r1 hr => ?_)
  refine am_if_eq (o := 5) (pc1 := 10) (by decide +kernel) hc (fun hq => ?_) (fun hq => ?_)
  · refine am_blk (pc' := 12) (Ls' := [.val (.ref 0), .val (.int x1)]) (St' := [.int x1, .ref 0]) (σ' := r1.2) [.aload_n 0, .iload_n 1] (by decide +kernel) hc hT hF wi (by exact rfl) ?_
    refine am_callP_I (W0 := 0) (argsL := [.int x1]) (rest := []) rfl (lk_C_72 hw) rfl wi (by decide +kernel) hc (SubW.refl _) rfl (by show arity "(I)Z" 1 = true; decide +kernel) (ok_c_isBinary hw x1 _) rfl ⟨by decide, by decide, Nat.le_of_eq rfl, rfl, rfl, by decide, by decide⟩ (fun r2 hr => ?_)
    refine am_if_eq (o := 5) (pc1 := 20) (by decide +kernel) hc (fun hq => ?_) (fun hq => ?_)
    · refine am_blk (pc' := 21) (Ls' := [.val (.ref 0), .val (.int x1)]) (St' := [.int (0 : Int32)]) (σ' := r2.2) [.iconst 0] (by decide +kernel) hc hT hF wi (by exact rfl) ?_
      exact am_retI (by decide +kernel) hc (by decide) (by decide) (fun h W O => ⟨rfl, W, O⟩)
    · refine am_blk (pc' := 19) (Ls' := [.val (.ref 0), .val (.int x1)]) (St' := [.int (-1 : Int32)]) (σ' := r2.2) [.iconst (-1)] (by decide +kernel) hc hT hF wi (by exact rfl) ?_
      exact am_retI (by decide +kernel) hc (by decide) (by decide) (fun h W O => ⟨rfl, W, O⟩)
  · refine am_blk (pc' := 9) (Ls' := [.val (.ref 0), .val (.int x1)]) (St' := [.int (1 : Int32)]) (σ' := r1.2) [.iconst 1] (by decide +kernel) hc hT hF wi (by exact rfl) ?_
    exact am_retI (by decide +kernel) hc (by decide) (by decide) (fun h W O => ⟨rfl, W, O⟩)
abbrev rm_c_appendCode : Room := { frames := 4, cells := 0, slots := 0, locals := 68 }
def c_appendCode_85 (x1 : Int32) (x2 : Int32) (x3 : Int32) (σ : Sg) : Option Sg :=
  if inb x1 3 = true then ((c_depthChange x2 (si σ 2 (nx x1) (x3 + (1 : Int32)))).bind fun r1 => some (si r1.2 4 (nx x1) ((gi σ 4 (nx x1)) + r1.1))) else none
set_option maxRecDepth 65536 in
set_option maxHeartbeats 4000000 in
theorem okc_c_appendCode_85 (hw : WH a0 Z) (hc : Cx p s m meth c Z "BoolUnifierY" prog_1_method_40_code 7 none "appendCode") (x1 : Int32) (x2 : Int32) (x3 : Int32) (σ : Sg) : OkR p l e rm_c_appendCode s m args below meth c Z "BoolUnifierY" fsC n0 h0 (FM Z "BoolUnifierY" fsC A wC h0 fV) A wC 0 0 85 [.val (.ref 0), .val (.int x1), .val (.int x2), .val (.int x3), .unset, .unset, .unset] [] σ (c_appendCode_85 x1 x2 x3 σ) := by
  have hT := tabC hw "appendCode"
  have hF := fsokC hw
  have wi := wiC hw
  unfold c_appendCode_85
  refine am_blk (pc' := 93) (Ls' := [.val (.ref 0), .val (.int x1), .val (.int x2), .val (.int x3), .unset, .unset, .unset]) (St' := [.int (x3 + (1 : Int32)), .int x1, .ref 2]) (σ' := σ) [.aload_n 0, .getfield 13, .iload_n 1, .iload_n 3, .iconst 1, .iadd] (by decide +kernel) hc hT hF wi (by exact rfl) ?_
  refine am_iastore (y := (x3 + (1 : Int32))) rfl (by decide +kernel) hc rfl (fun hb0 => ?_)
  refine am_blk (pc' := 104) (Ls' := [.val (.ref 0), .val (.int x1), .val (.int x2), .val (.int x3), .unset, .unset, .unset]) (St' := [.int x1, .ref 4, .int x1, .ref 4]) (σ' := si σ 2 (nx x1) (x3 + (1 : Int32))) [.aload_n 0, .getfield 21, .iload_n 1, .aload_n 0, .getfield 21, .iload_n 1] (by decide +kernel) hc hT hF wi (by exact rfl) ?_
  refine am_iaload_k hb0 (by decide +kernel) hc rfl ?_
  refine am_blk (pc' := 107) (Ls' := [.val (.ref 0), .val (.int x1), .val (.int x2), .val (.int x3), .unset, .unset, .unset]) (St' := [.int x2, .ref 0, .int (gi σ 4 (nx x1)), .int x1, .ref 4]) (σ' := si σ 2 (nx x1) (x3 + (1 : Int32))) [.aload_n 0, .iload_n 2] (by decide +kernel) hc hT hF wi (by exact rfl) ?_
  refine am_callP_I (W0 := 3) (argsL := [.int x2]) (rest := [.int (gi σ 4 (nx x1)), .int x1, .ref 4]) rfl (lk_C_83 hw) rfl wi (by decide +kernel) hc (SubW.refl _) rfl (by show arity "(I)I" 1 = true; decide +kernel) (ok_c_depthChange hw x2 _) rfl ⟨by decide, by decide, Nat.le_of_eq rfl, rfl, rfl, by decide, by decide⟩ (fun r1 hr => ?_)
  refine am_blk (pc' := 111) (Ls' := [.val (.ref 0), .val (.int x1), .val (.int x2), .val (.int x3), .unset, .unset, .unset]) (St' := [.int ((gi σ 4 (nx x1)) + r1.1), .int x1, .ref 4]) (σ' := r1.2) [.iadd] (by decide +kernel) hc hT hF wi (by exact rfl) ?_
  refine am_iastore_k hb0 (y := ((gi σ 4 (nx x1)) + r1.1)) rfl (by decide +kernel) hc rfl ?_
  exact am_retV (by decide +kernel) hc (by decide) (by decide) (fun h W O => ⟨rfl, W, O⟩)
def c_appendCode (x1 : Int32) (x2 : Int32) (σ : Sg) : Option Sg :=
  if inb x1 3 = true then ((c_indexOf x1 (gi σ 2 (nx x1)) σ).bind fun r1 => if r1.1 < 0 then (some r1.2) else (if inb r1.1 96 = true then ((c_isLeaf x2 (si r1.2 1 (nx r1.1) x2.toInt8.toInt32.toInt8.toInt32)).bind fun r2 => if r2.1 = 0 then ((c_isUnary x2 r2.2).bind fun r3 => if r3.1 = 0 then ((c_appendBinary x1 (gi σ 2 (nx x1)) r1.1 x2 r3.2).bind fun r4 => c_appendCode_85 x1 x2 (gi σ 2 (nx x1)) r4) else ((c_appendNot x1 (gi σ 2 (nx x1)) r1.1 r3.2).bind fun r5 => c_appendCode_85 x1 x2 (gi σ 2 (nx x1)) r5)) else ((c_leafTable x2 r2.2).bind fun r6 => (c_storeNode r1.1 r6.1 (gi σ 2 (nx x1)) r6.2).bind fun r7 => c_appendCode_85 x1 x2 (gi σ 2 (nx x1)) r7)) else none)) else none
set_option maxRecDepth 65536 in
set_option maxHeartbeats 4000000 in
theorem ok_c_appendCode (hw : WH a0 Z) (x1 : Int32) (x2 : Int32) (σ : Sg) : ∀ x, c_appendCode x1 x2 σ = some x → Con l Z "BoolUnifierY" fsC (⟨"BoolUnifierY", "appendCode", "(II)V"⟩ : MethodName) prog_1_method_40_code 7 none rm_c_appendCode wC [.ref 0, .int x1, .int x2] σ (fV x).1 (fV x).2 := by
  refine am_con pnC ?_
  intro p e s m below meth c A n0 h0 hc
  have hT := tabC hw "appendCode"
  have hF := fsokC hw
  have wi := wiC hw
  unfold c_appendCode
  refine am_blk (pc' := 5) (Ls' := [.val (.ref 0), .val (.int x1), .val (.int x2), .unset, .unset, .unset, .unset]) (St' := [.int x1, .ref 2]) (σ' := σ) [.aload_n 0, .getfield 13, .iload_n 1] (by decide +kernel) hc hT hF wi (by exact rfl) ?_
  refine am_iaload (by decide +kernel) hc rfl (fun hb0 => ?_)
  refine am_blk (pc' := 10) (Ls' := [.val (.ref 0), .val (.int x1), .val (.int x2), .val (.int (gi σ 2 (nx x1))), .unset, .unset, .unset]) (St' := [.int (gi σ 2 (nx x1)), .int x1, .ref 0]) (σ' := σ) [.istore_n 3, .aload_n 0, .iload_n 1, .iload_n 3] (by decide +kernel) hc hT hF wi (by exact rfl) ?_
  refine am_callP_I (W0 := 0) (argsL := [.int x1, .int (gi σ 2 (nx x1))]) (rest := []) rfl (lk_C_79 hw) rfl wi (by decide +kernel) hc (SubW.refl _) rfl (by show arity "(II)I" 2 = true; decide +kernel) (ok_c_indexOf hw x1 (gi σ 2 (nx x1)) _) rfl ⟨by decide, by decide, Nat.le_of_eq rfl, rfl, rfl, by decide, by decide⟩ (fun r1 hr => ?_)
  refine am_blk (pc' := 17) (Ls' := [.val (.ref 0), .val (.int x1), .val (.int x2), .val (.int (gi σ 2 (nx x1))), .val (.int r1.1), .unset, .unset]) (St' := [.int r1.1]) (σ' := r1.2) [.istore 4, .iload 4] (by decide +kernel) hc hT hF wi (by exact rfl) ?_
  refine am_if_ge (o := 4) (pc1 := 21) (by decide +kernel) hc (fun hq => ?_) (fun hq => ?_)
  · exact am_retV (by decide +kernel) hc (by decide) (by decide) (fun h W O => ⟨rfl, W, O⟩)
  · refine am_blk (pc' := 29) (Ls' := [.val (.ref 0), .val (.int x1), .val (.int x2), .val (.int (gi σ 2 (nx x1))), .val (.int r1.1), .unset, .unset]) (St' := [.int x2.toInt8.toInt32, .int r1.1, .ref 1]) (σ' := r1.2) [.aload_n 0, .getfield 7, .iload 4, .iload_n 2, .i2b] (by decide +kernel) hc hT hF wi (by exact rfl) ?_
    refine am_bastoreB (y := x2.toInt8.toInt32.toInt8.toInt32) rfl (by decide +kernel) hc rfl (fun hb1 => ?_)
    refine am_blk (pc' := 32) (Ls' := [.val (.ref 0), .val (.int x1), .val (.int x2), .val (.int (gi σ 2 (nx x1))), .val (.int r1.1), .unset, .unset]) (St' := [.int x2, .ref 0]) (σ' := si r1.2 1 (nx r1.1) x2.toInt8.toInt32.toInt8.toInt32) [.aload_n 0, .iload_n 2] (by decide +kernel) hc hT hF wi (by exact rfl) ?_
    refine am_callP_I (W0 := 0) (argsL := [.int x2]) (rest := []) rfl (lk_C_140 hw) rfl wi (by decide +kernel) hc (SubW.refl _) rfl (by show arity "(I)Z" 1 = true; decide +kernel) (ok_c_isLeaf hw x2 _) rfl ⟨by decide, by decide, Nat.le_of_eq rfl, rfl, rfl, by decide, by decide⟩ (fun r2 hr => ?_)
    refine am_if_eq (o := 22) (pc1 := 57) (by decide +kernel) hc (fun hq => ?_) (fun hq => ?_)
    · refine am_blk (pc' := 59) (Ls' := [.val (.ref 0), .val (.int x1), .val (.int x2), .val (.int (gi σ 2 (nx x1))), .val (.int r1.1), .unset, .unset]) (St' := [.int x2, .ref 0]) (σ' := r2.2) [.aload_n 0, .iload_n 2] (by decide +kernel) hc hT hF wi (by exact rfl) ?_
      refine am_callP_I (W0 := 0) (argsL := [.int x2]) (rest := []) rfl (lk_C_69 hw) rfl wi (by decide +kernel) hc (SubW.refl _) rfl (by show arity "(I)Z" 1 = true; decide +kernel) (ok_c_isUnary hw x2 _) rfl ⟨by decide, by decide, Nat.le_of_eq rfl, rfl, rfl, by decide, by decide⟩ (fun r3 hr => ?_)
      refine am_if_eq (o := 14) (pc1 := 76) (by decide +kernel) hc (fun hq => ?_) (fun hq => ?_)
      · refine am_blk (pc' := 82) (Ls' := [.val (.ref 0), .val (.int x1), .val (.int x2), .val (.int (gi σ 2 (nx x1))), .val (.int r1.1), .unset, .unset]) (St' := [.int x2, .int r1.1, .int (gi σ 2 (nx x1)), .int x1, .ref 0]) (σ' := r3.2) [.aload_n 0, .iload_n 1, .iload_n 3, .iload 4, .iload_n 2] (by decide +kernel) hc hT hF wi (by exact rfl) ?_
        refine am_callP_V (W0 := 0) (argsL := [.int x1, .int (gi σ 2 (nx x1)), .int r1.1, .int x2]) (rest := []) rfl (lk_C_168 hw) rfl wi (by decide +kernel) hc (SubW.refl _) rfl (by show arity "(IIII)V" 4 = true; decide +kernel) (ok_c_appendBinary hw x1 (gi σ 2 (nx x1)) r1.1 x2 _) rfl ⟨by decide, by decide, Nat.le_of_eq rfl, rfl, rfl, by decide, by decide⟩ (fun r4 hr => ?_)
        exact am_wk (Ls' := [.val (.ref 0), .val (.int x1), .val (.int x2), .val (.int (gi σ 2 (nx x1))), .unset, .unset, .unset]) (by simp [wkL]) (okc_c_appendCode_85 hw hc x1 x2 (gi σ 2 (nx x1)) r4)
      · refine am_blk (pc' := 70) (Ls' := [.val (.ref 0), .val (.int x1), .val (.int x2), .val (.int (gi σ 2 (nx x1))), .val (.int r1.1), .unset, .unset]) (St' := [.int r1.1, .int (gi σ 2 (nx x1)), .int x1, .ref 0]) (σ' := r3.2) [.aload_n 0, .iload_n 1, .iload_n 3, .iload 4] (by decide +kernel) hc hT hF wi (by exact rfl) ?_
        refine am_callP_V (W0 := 0) (argsL := [.int x1, .int (gi σ 2 (nx x1)), .int r1.1]) (rest := []) rfl (lk_C_164 hw) rfl wi (by decide +kernel) hc (SubW.refl _) rfl (by show arity "(III)V" 3 = true; decide +kernel) (ok_c_appendNot hw x1 (gi σ 2 (nx x1)) r1.1 _) rfl ⟨by decide, by decide, Nat.le_of_eq rfl, rfl, rfl, by decide, by decide⟩ (fun r5 hr => ?_)
        refine am_blk (pc' := 85) (Ls' := [.val (.ref 0), .val (.int x1), .val (.int x2), .val (.int (gi σ 2 (nx x1))), .val (.int r1.1), .unset, .unset]) (St' := []) (σ' := r5) [.goto 12] (by decide +kernel) hc hT hF wi (by exact rfl) ?_
        exact am_wk (Ls' := [.val (.ref 0), .val (.int x1), .val (.int x2), .val (.int (gi σ 2 (nx x1))), .unset, .unset, .unset]) (by simp [wkL]) (okc_c_appendCode_85 hw hc x1 x2 (gi σ 2 (nx x1)) r5)
    · refine am_blk (pc' := 40) (Ls' := [.val (.ref 0), .val (.int x1), .val (.int x2), .val (.int (gi σ 2 (nx x1))), .val (.int r1.1), .unset, .unset]) (St' := [.int x2, .ref 0]) (σ' := r2.2) [.aload_n 0, .iload_n 2] (by decide +kernel) hc hT hF wi (by exact rfl) ?_
      refine am_callP_J (W0 := 0) (argsL := [.int x2]) (rest := []) rfl (lk_C_157 hw) rfl wi (by decide +kernel) hc (SubW.refl _) rfl (by show arity "(I)J" 1 = true; decide +kernel) (ok_c_leafTable hw x2 _) rfl ⟨by decide, by decide, Nat.le_of_eq rfl, rfl, rfl, by decide, by decide⟩ (fun r6 hr => ?_)
      refine am_blk (pc' := 51) (Ls' := [.val (.ref 0), .val (.int x1), .val (.int x2), .val (.int (gi σ 2 (nx x1))), .val (.int r1.1), .val (.long r6.1), .second]) (St' := [.int (gi σ 2 (nx x1)), .long r6.1, .int r1.1, .ref 0]) (σ' := r6.2) [.lstore 5, .aload_n 0, .iload 4, .lload 5, .iload_n 3] (by decide +kernel) hc hT hF wi (by exact rfl) ?_
      refine am_callP_V (W0 := 0) (argsL := [.int r1.1, .long r6.1, .int (gi σ 2 (nx x1))]) (rest := []) rfl (lk_C_160 hw) rfl wi (by decide +kernel) hc (SubW.refl _) rfl (by show arity "(IJI)V" 3 = true; decide +kernel) (ok_c_storeNode hw r1.1 r6.1 (gi σ 2 (nx x1)) _) rfl ⟨by decide, by decide, Nat.le_of_eq rfl, rfl, rfl, by decide, by decide⟩ (fun r7 hr => ?_)
      refine am_blk (pc' := 85) (Ls' := [.val (.ref 0), .val (.int x1), .val (.int x2), .val (.int (gi σ 2 (nx x1))), .val (.int r1.1), .val (.long r6.1), .second]) (St' := []) (σ' := r7) [.goto 31] (by decide +kernel) hc hT hF wi (by exact rfl) ?_
      exact am_wk (Ls' := [.val (.ref 0), .val (.int x1), .val (.int x2), .val (.int (gi σ 2 (nx x1))), .unset, .unset, .unset]) (by simp [wkL]) (okc_c_appendCode_85 hw hc x1 x2 (gi σ 2 (nx x1)) r7)
abbrev rm_c_push : Room := { frames := 5, cells := 0, slots := 0, locals := 86 }
def c_push_75 (x1 : Int32) (x2 : Int32) (σ : Sg) : Option (Int32 × Sg) :=
  (c_appendCode x1 x2 σ).bind fun r1 => if inb x1 3 = true then (some (gi r1 2 (nx x1), r1)) else none
set_option maxRecDepth 65536 in
set_option maxHeartbeats 4000000 in
theorem okc_c_push_75 (hw : WH a0 Z) (hc : Cx p s m meth c Z "BoolUnifierY" prog_1_method_2_code 3 (some .int) "push") (x1 : Int32) (x2 : Int32) (σ : Sg) : OkR p l e rm_c_push s m args below meth c Z "BoolUnifierY" fsC n0 h0 (FM Z "BoolUnifierY" fsC A wC h0 fI) A wC 0 0 75 [.val (.ref 0), .val (.int x1), .val (.int x2)] [] σ (c_push_75 x1 x2 σ) := by
  have hT := tabC hw "push"
  have hF := fsokC hw
  have wi := wiC hw
  unfold c_push_75
  refine am_blk (pc' := 78) (Ls' := [.val (.ref 0), .val (.int x1), .val (.int x2)]) (St' := [.int x2, .int x1, .ref 0]) (σ' := σ) [.aload_n 0, .iload_n 1, .iload_n 2] (by decide +kernel) hc hT hF wi (by exact rfl) ?_
  refine am_callP_V (W0 := 0) (argsL := [.int x1, .int x2]) (rest := []) rfl (lk_C_75 hw) rfl wi (by decide +kernel) hc (SubW.refl _) rfl (by show arity "(II)V" 2 = true; decide +kernel) (ok_c_appendCode hw x1 x2 _) rfl ⟨by decide, by decide, Nat.le_of_eq rfl, rfl, rfl, by decide, by decide⟩ (fun r1 hr => ?_)
  refine am_blk (pc' := 86) (Ls' := [.val (.ref 0), .val (.int x1), .val (.int x2)]) (St' := [.int x1, .ref 2]) (σ' := r1) [.aload_n 0, .getfield 13, .iload_n 1] (by decide +kernel) hc hT hF wi (by exact rfl) ?_
  refine am_iaload (by decide +kernel) hc rfl (fun hb0 => ?_)
  exact am_retI (by decide +kernel) hc (by decide) (by decide) (fun h W O => ⟨rfl, W, O⟩)
def c_push_55 (x1 : Int32) (x2 : Int32) (σ : Sg) : Option (Int32 × Sg) :=
  (c_isBinary x2 σ).bind fun r1 => if r1.1 = 0 then (c_push_75 x1 x2 r1.2) else (if inb x1 3 = true then (if (gi r1.2 4 (nx x1)) < (2 : Int32) then (some ((-1 : Int32), r1.2)) else (c_push_75 x1 x2 r1.2)) else none)
set_option maxRecDepth 65536 in
set_option maxHeartbeats 4000000 in
theorem okc_c_push_55 (hw : WH a0 Z) (hc : Cx p s m meth c Z "BoolUnifierY" prog_1_method_2_code 3 (some .int) "push") (x1 : Int32) (x2 : Int32) (σ : Sg) : OkR p l e rm_c_push s m args below meth c Z "BoolUnifierY" fsC n0 h0 (FM Z "BoolUnifierY" fsC A wC h0 fI) A wC 0 0 55 [.val (.ref 0), .val (.int x1), .val (.int x2)] [] σ (c_push_55 x1 x2 σ) := by
  have hT := tabC hw "push"
  have hF := fsokC hw
  have wi := wiC hw
  unfold c_push_55
  refine am_blk (pc' := 57) (Ls' := [.val (.ref 0), .val (.int x1), .val (.int x2)]) (St' := [.int x2, .ref 0]) (σ' := σ) [.aload_n 0, .iload_n 2] (by decide +kernel) hc hT hF wi (by exact rfl) ?_
  refine am_callP_I (W0 := 0) (argsL := [.int x2]) (rest := []) rfl (lk_C_72 hw) rfl wi (by decide +kernel) hc (SubW.refl _) rfl (by show arity "(I)Z" 1 = true; decide +kernel) (ok_c_isBinary hw x2 _) rfl ⟨by decide, by decide, Nat.le_of_eq rfl, rfl, rfl, by decide, by decide⟩ (fun r1 hr => ?_)
  refine am_if_eq (o := 15) (pc1 := 75) (by decide +kernel) hc (fun hq => ?_) (fun hq => ?_)
  · exact am_wk (Ls' := [.val (.ref 0), .val (.int x1), .val (.int x2)]) (by simp [wkL]) (okc_c_push_75 hw hc x1 x2 r1.2)
  · refine am_blk (pc' := 68) (Ls' := [.val (.ref 0), .val (.int x1), .val (.int x2)]) (St' := [.int x1, .ref 4]) (σ' := r1.2) [.aload_n 0, .getfield 21, .iload_n 1] (by decide +kernel) hc hT hF wi (by exact rfl) ?_
    refine am_iaload (by decide +kernel) hc rfl (fun hb0 => ?_)
    refine am_blk (pc' := 70) (Ls' := [.val (.ref 0), .val (.int x1), .val (.int x2)]) (St' := [.int (2 : Int32), .int (gi r1.2 4 (nx x1))]) (σ' := r1.2) [.iconst 2] (by decide +kernel) hc hT hF wi (by exact rfl) ?_
    refine am_icmp_ge (o := 5) (pc1 := 75) (by decide +kernel) hc (fun hq => ?_) (fun hq => ?_)
    · refine am_blk (pc' := 74) (Ls' := [.val (.ref 0), .val (.int x1), .val (.int x2)]) (St' := [.int (-1 : Int32)]) (σ' := r1.2) [.iconst (-1)] (by decide +kernel) hc hT hF wi (by exact rfl) ?_
      exact am_retI (by decide +kernel) hc (by decide) (by decide) (fun h W O => ⟨rfl, W, O⟩)
    · exact am_wk (Ls' := [.val (.ref 0), .val (.int x1), .val (.int x2)]) (by simp [wkL]) (okc_c_push_75 hw hc x1 x2 r1.2)
def c_push (x1 : Int32) (x2 : Int32) (σ : Sg) : Option (Int32 × Sg) :=
  (c_validSlot x1 σ).bind fun r1 => if r1.1 = 0 then (some ((-1 : Int32), r1.2)) else ((c_validCode x2 r1.2).bind fun r2 => if r2.1 = 0 then (some ((-1 : Int32), r2.2)) else (if inb x1 3 = true then (if (gi r2.2 2 (nx x1)) < (gi r2.2 0 12) then ((c_isUnary x2 r2.2).bind fun r3 => if r3.1 = 0 then (c_push_55 x1 x2 r3.2) else (if (gi r3.2 4 (nx x1)) < (1 : Int32) then (some ((-1 : Int32), r3.2)) else (c_push_55 x1 x2 r3.2))) else (some ((-1 : Int32), r2.2))) else none))
set_option maxRecDepth 65536 in
set_option maxHeartbeats 4000000 in
theorem ok_c_push (hw : WH a0 Z) (x1 : Int32) (x2 : Int32) (σ : Sg) : ∀ x, c_push x1 x2 σ = some x → Con l Z "BoolUnifierY" fsC (⟨"BoolUnifierY", "push", "(II)I"⟩ : MethodName) prog_1_method_2_code 3 (some .int) rm_c_push wC [.ref 0, .int x1, .int x2] σ (fI x).1 (fI x).2 := by
  refine am_con pnC ?_
  intro p e s m below meth c A n0 h0 hc
  have hT := tabC hw "push"
  have hF := fsokC hw
  have wi := wiC hw
  unfold c_push
  refine am_blk (pc' := 2) (Ls' := [.val (.ref 0), .val (.int x1), .val (.int x2)]) (St' := [.int x1, .ref 0]) (σ' := σ) [.aload_n 0, .iload_n 1] (by decide +kernel) hc hT hF wi (by exact rfl) ?_
  refine am_callP_I (W0 := 0) (argsL := [.int x1]) (rest := []) rfl (lk_C_62 hw) rfl wi (by decide +kernel) hc (SubW.refl _) rfl (by show arity "(I)Z" 1 = true; decide +kernel) (ok_c_validSlot hw x1 _) rfl ⟨by decide, by decide, Nat.le_of_eq rfl, rfl, rfl, by decide, by decide⟩ (fun r1 hr => ?_)
  refine am_if_ne (o := 5) (pc1 := 10) (by decide +kernel) hc (fun hq => ?_) (fun hq => ?_)
  · refine am_blk (pc' := 9) (Ls' := [.val (.ref 0), .val (.int x1), .val (.int x2)]) (St' := [.int (-1 : Int32)]) (σ' := r1.2) [.iconst (-1)] (by decide +kernel) hc hT hF wi (by exact rfl) ?_
    exact am_retI (by decide +kernel) hc (by decide) (by decide) (fun h W O => ⟨rfl, W, O⟩)
  · refine am_blk (pc' := 12) (Ls' := [.val (.ref 0), .val (.int x1), .val (.int x2)]) (St' := [.int x2, .ref 0]) (σ' := r1.2) [.aload_n 0, .iload_n 2] (by decide +kernel) hc hT hF wi (by exact rfl) ?_
    refine am_callP_I (W0 := 0) (argsL := [.int x2]) (rest := []) rfl (lk_C_66 hw) rfl wi (by decide +kernel) hc (SubW.refl _) rfl (by show arity "(I)Z" 1 = true; decide +kernel) (ok_c_validCode hw x2 _) rfl ⟨by decide, by decide, Nat.le_of_eq rfl, rfl, rfl, by decide, by decide⟩ (fun r2 hr => ?_)
    refine am_if_ne (o := 5) (pc1 := 20) (by decide +kernel) hc (fun hq => ?_) (fun hq => ?_)
    · refine am_blk (pc' := 19) (Ls' := [.val (.ref 0), .val (.int x1), .val (.int x2)]) (St' := [.int (-1 : Int32)]) (σ' := r2.2) [.iconst (-1)] (by decide +kernel) hc hT hF wi (by exact rfl) ?_
      exact am_retI (by decide +kernel) hc (by decide) (by decide) (fun h W O => ⟨rfl, W, O⟩)
    · refine am_blk (pc' := 25) (Ls' := [.val (.ref 0), .val (.int x1), .val (.int x2)]) (St' := [.int x1, .ref 2]) (σ' := r2.2) [.aload_n 0, .getfield 13, .iload_n 1] (by decide +kernel) hc hT hF wi (by exact rfl) ?_
      refine am_iaload (by decide +kernel) hc rfl (fun hb0 => ?_)
      refine am_blk (pc' := 30) (Ls' := [.val (.ref 0), .val (.int x1), .val (.int x2)]) (St' := [.int (gi r2.2 0 12), .int (gi r2.2 2 (nx x1))]) (σ' := r2.2) [.aload_n 0, .getfield 52] (by decide +kernel) hc hT hF wi (by exact rfl) ?_
      refine am_icmp_lt (o := 5) (pc1 := 35) (by decide +kernel) hc (fun hq => ?_) (fun hq => ?_)
      · refine am_blk (pc' := 37) (Ls' := [.val (.ref 0), .val (.int x1), .val (.int x2)]) (St' := [.int x2, .ref 0]) (σ' := r2.2) [.aload_n 0, .iload_n 2] (by decide +kernel) hc hT hF wi (by exact rfl) ?_
        refine am_callP_I (W0 := 0) (argsL := [.int x2]) (rest := []) rfl (lk_C_69 hw) rfl wi (by decide +kernel) hc (SubW.refl _) rfl (by show arity "(I)Z" 1 = true; decide +kernel) (ok_c_isUnary hw x2 _) rfl ⟨by decide, by decide, Nat.le_of_eq rfl, rfl, rfl, by decide, by decide⟩ (fun r3 hr => ?_)
        refine am_if_eq (o := 15) (pc1 := 55) (by decide +kernel) hc (fun hq => ?_) (fun hq => ?_)
        · exact am_wk (Ls' := [.val (.ref 0), .val (.int x1), .val (.int x2)]) (by simp [wkL]) (okc_c_push_55 hw hc x1 x2 r3.2)
        · refine am_blk (pc' := 48) (Ls' := [.val (.ref 0), .val (.int x1), .val (.int x2)]) (St' := [.int x1, .ref 4]) (σ' := r3.2) [.aload_n 0, .getfield 21, .iload_n 1] (by decide +kernel) hc hT hF wi (by exact rfl) ?_
          refine am_iaload_k hb0 (by decide +kernel) hc rfl ?_
          refine am_blk (pc' := 50) (Ls' := [.val (.ref 0), .val (.int x1), .val (.int x2)]) (St' := [.int (1 : Int32), .int (gi r3.2 4 (nx x1))]) (σ' := r3.2) [.iconst 1] (by decide +kernel) hc hT hF wi (by exact rfl) ?_
          refine am_icmp_ge (o := 5) (pc1 := 55) (by decide +kernel) hc (fun hq => ?_) (fun hq => ?_)
          · refine am_blk (pc' := 54) (Ls' := [.val (.ref 0), .val (.int x1), .val (.int x2)]) (St' := [.int (-1 : Int32)]) (σ' := r3.2) [.iconst (-1)] (by decide +kernel) hc hT hF wi (by exact rfl) ?_
            exact am_retI (by decide +kernel) hc (by decide) (by decide) (fun h W O => ⟨rfl, W, O⟩)
          · exact am_wk (Ls' := [.val (.ref 0), .val (.int x1), .val (.int x2)]) (by simp [wkL]) (okc_c_push_55 hw hc x1 x2 r3.2)
      · refine am_blk (pc' := 34) (Ls' := [.val (.ref 0), .val (.int x1), .val (.int x2)]) (St' := [.int (-1 : Int32)]) (σ' := r2.2) [.iconst (-1)] (by decide +kernel) hc hT hF wi (by exact rfl) ?_
        exact am_retI (by decide +kernel) hc (by decide) (by decide) (fun h W O => ⟨rfl, W, O⟩)
abbrev rm_c_code : Room := { frames := 2, cells := 0, slots := 0, locals := 27 }
def c_code (x1 : Int32) (x2 : Int32) (σ : Sg) : Option (Int32 × Sg) :=
  (c_validSlot x1 σ).bind fun r1 => if r1.1 = 0 then (some ((-1 : Int32), r1.2)) else (if x2 < 0 then (some ((-1 : Int32), r1.2)) else (if inb x1 3 = true then (if x2 < (gi r1.2 2 (nx x1)) then ((c_indexOf x1 x2 r1.2).bind fun r2 => if r2.1 < 0 then (some ((-1 : Int32), r2.2)) else (if inb r2.1 96 = true then (some (gi r2.2 1 (nx r2.1), r2.2)) else none)) else (some ((-1 : Int32), r1.2))) else none))
set_option maxRecDepth 65536 in
set_option maxHeartbeats 4000000 in
theorem ok_c_code (hw : WH a0 Z) (x1 : Int32) (x2 : Int32) (σ : Sg) : ∀ x, c_code x1 x2 σ = some x → Con l Z "BoolUnifierY" fsC (⟨"BoolUnifierY", "code", "(II)I"⟩ : MethodName) prog_1_method_6_code 4 (some .int) rm_c_code wC [.ref 0, .int x1, .int x2] σ (fI x).1 (fI x).2 := by
  refine am_con pnC ?_
  intro p e s m below meth c A n0 h0 hc
  have hT := tabC hw "code"
  have hF := fsokC hw
  have wi := wiC hw
  unfold c_code
  refine am_blk (pc' := 2) (Ls' := [.val (.ref 0), .val (.int x1), .val (.int x2), .unset]) (St' := [.int x1, .ref 0]) (σ' := σ) [.aload_n 0, .iload_n 1] (by decide +kernel) hc hT hF wi (by exact rfl) ?_
  refine am_callP_I (W0 := 0) (argsL := [.int x1]) (rest := []) rfl (lk_C_62 hw) rfl wi (by decide +kernel) hc (SubW.refl _) rfl (by show arity "(I)Z" 1 = true; decide +kernel) (ok_c_validSlot hw x1 _) rfl ⟨by decide, by decide, Nat.le_of_eq rfl, rfl, rfl, by decide, by decide⟩ (fun r1 hr => ?_)
  refine am_if_ne (o := 5) (pc1 := 10) (by decide +kernel) hc (fun hq => ?_) (fun hq => ?_)
  · refine am_blk (pc' := 9) (Ls' := [.val (.ref 0), .val (.int x1), .val (.int x2), .unset]) (St' := [.int (-1 : Int32)]) (σ' := r1.2) [.iconst (-1)] (by decide +kernel) hc hT hF wi (by exact rfl) ?_
    exact am_retI (by decide +kernel) hc (by decide) (by decide) (fun h W O => ⟨rfl, W, O⟩)
  · refine am_blk (pc' := 11) (Ls' := [.val (.ref 0), .val (.int x1), .val (.int x2), .unset]) (St' := [.int x2]) (σ' := r1.2) [.iload_n 2] (by decide +kernel) hc hT hF wi (by exact rfl) ?_
    refine am_if_lt (o := 13) (pc1 := 24) (by decide +kernel) hc (fun hq => ?_) (fun hq => ?_)
    · refine am_blk (pc' := 25) (Ls' := [.val (.ref 0), .val (.int x1), .val (.int x2), .unset]) (St' := [.int (-1 : Int32)]) (σ' := r1.2) [.iconst (-1)] (by decide +kernel) hc hT hF wi (by exact rfl) ?_
      exact am_retI (by decide +kernel) hc (by decide) (by decide) (fun h W O => ⟨rfl, W, O⟩)
    · refine am_blk (pc' := 20) (Ls' := [.val (.ref 0), .val (.int x1), .val (.int x2), .unset]) (St' := [.int x1, .ref 2, .int x2]) (σ' := r1.2) [.iload_n 2, .aload_n 0, .getfield 13, .iload_n 1] (by decide +kernel) hc hT hF wi (by exact rfl) ?_
      refine am_iaload (by decide +kernel) hc rfl (fun hb0 => ?_)
      refine am_icmp_lt (o := 5) (pc1 := 26) (by decide +kernel) hc (fun hq => ?_) (fun hq => ?_)
      · refine am_blk (pc' := 29) (Ls' := [.val (.ref 0), .val (.int x1), .val (.int x2), .unset]) (St' := [.int x2, .int x1, .ref 0]) (σ' := r1.2) [.aload_n 0, .iload_n 1, .iload_n 2] (by decide +kernel) hc hT hF wi (by exact rfl) ?_
        refine am_callP_I (W0 := 0) (argsL := [.int x1, .int x2]) (rest := []) rfl (lk_C_79 hw) rfl wi (by decide +kernel) hc (SubW.refl _) rfl (by show arity "(II)I" 2 = true; decide +kernel) (ok_c_indexOf hw x1 x2 _) rfl ⟨by decide, by decide, Nat.le_of_eq rfl, rfl, rfl, by decide, by decide⟩ (fun r2 hr => ?_)
        refine am_blk (pc' := 34) (Ls' := [.val (.ref 0), .val (.int x1), .val (.int x2), .val (.int r2.1)]) (St' := [.int r2.1]) (σ' := r2.2) [.istore_n 3, .iload_n 3] (by decide +kernel) hc hT hF wi (by exact rfl) ?_
        refine am_if_ge (o := 5) (pc1 := 39) (by decide +kernel) hc (fun hq => ?_) (fun hq => ?_)
        · refine am_blk (pc' := 38) (Ls' := [.val (.ref 0), .val (.int x1), .val (.int x2), .val (.int r2.1)]) (St' := [.int (-1 : Int32)]) (σ' := r2.2) [.iconst (-1)] (by decide +kernel) hc hT hF wi (by exact rfl) ?_
          exact am_retI (by decide +kernel) hc (by decide) (by decide) (fun h W O => ⟨rfl, W, O⟩)
        · refine am_blk (pc' := 44) (Ls' := [.val (.ref 0), .val (.int x1), .val (.int x2), .val (.int r2.1)]) (St' := [.int r2.1, .ref 1]) (σ' := r2.2) [.aload_n 0, .getfield 7, .iload_n 3] (by decide +kernel) hc hT hF wi (by exact rfl) ?_
          refine am_baloadB (by decide +kernel) hc rfl (fun hb1 => ?_)
          exact am_retI (by decide +kernel) hc (by decide) (by decide) (fun h W O => ⟨rfl, W, O⟩)
      · refine am_blk (pc' := 25) (Ls' := [.val (.ref 0), .val (.int x1), .val (.int x2), .unset]) (St' := [.int (-1 : Int32)]) (σ' := r1.2) [.iconst (-1)] (by decide +kernel) hc hT hF wi (by exact rfl) ?_
        exact am_retI (by decide +kernel) hc (by decide) (by decide) (fun h W O => ⟨rfl, W, O⟩)
abbrev rm_c_undo : Room := { frames := 2, cells := 0, slots := 0, locals := 29 }
def c_undo (x1 : Int32) (σ : Sg) : Option (Int32 × Sg) :=
  (c_validSlot x1 σ).bind fun r1 => if r1.1 = 0 then (some ((0 : Int32), r1.2)) else (if inb x1 3 = true then (if 0 < (gi r1.2 2 (nx x1)) then ((c_indexOf x1 ((gi r1.2 2 (nx x1)) - (1 : Int32)) r1.2).bind fun r2 => if r2.1 < 0 then (some ((0 : Int32), r2.2)) else (if inb r2.1 96 = true then ((c_depthChange (gi r2.2 1 (nx r2.1)) r2.2).bind fun r3 => some ((1 : Int32), si (si r3.2 4 (nx x1) ((gi r2.2 4 (nx x1)) - r3.1)) 2 (nx x1) ((gi r1.2 2 (nx x1)) - (1 : Int32)))) else none)) else (some ((0 : Int32), r1.2))) else none)
set_option maxRecDepth 65536 in
set_option maxHeartbeats 4000000 in
theorem ok_c_undo (hw : WH a0 Z) (x1 : Int32) (σ : Sg) : ∀ x, c_undo x1 σ = some x → Con l Z "BoolUnifierY" fsC (⟨"BoolUnifierY", "undo", "(I)Z"⟩ : MethodName) prog_1_method_3_code 5 (some .boolean) rm_c_undo wC [.ref 0, .int x1] σ (fI x).1 (fI x).2 := by
  refine am_con pnC ?_
  intro p e s m below meth c A n0 h0 hc
  have hT := tabC hw "undo"
  have hF := fsokC hw
  have wi := wiC hw
  unfold c_undo
  refine am_blk (pc' := 2) (Ls' := [.val (.ref 0), .val (.int x1), .unset, .unset, .unset]) (St' := [.int x1, .ref 0]) (σ' := σ) [.aload_n 0, .iload_n 1] (by decide +kernel) hc hT hF wi (by exact rfl) ?_
  refine am_callP_I (W0 := 0) (argsL := [.int x1]) (rest := []) rfl (lk_C_62 hw) rfl wi (by decide +kernel) hc (SubW.refl _) rfl (by show arity "(I)Z" 1 = true; decide +kernel) (ok_c_validSlot hw x1 _) rfl ⟨by decide, by decide, Nat.le_of_eq rfl, rfl, rfl, by decide, by decide⟩ (fun r1 hr => ?_)
  refine am_if_ne (o := 5) (pc1 := 10) (by decide +kernel) hc (fun hq => ?_) (fun hq => ?_)
  · refine am_blk (pc' := 9) (Ls' := [.val (.ref 0), .val (.int x1), .unset, .unset, .unset]) (St' := [.int (0 : Int32)]) (σ' := r1.2) [.iconst 0] (by decide +kernel) hc hT hF wi (by exact rfl) ?_
    exact am_retZ (by decide +kernel) hc (by decide) (by decide) (fun h W O => ⟨rfl, W, O⟩)
  · refine am_blk (pc' := 15) (Ls' := [.val (.ref 0), .val (.int x1), .unset, .unset, .unset]) (St' := [.int x1, .ref 2]) (σ' := r1.2) [.aload_n 0, .getfield 13, .iload_n 1] (by decide +kernel) hc hT hF wi (by exact rfl) ?_
    refine am_iaload (by decide +kernel) hc rfl (fun hb0 => ?_)
    refine am_blk (pc' := 18) (Ls' := [.val (.ref 0), .val (.int x1), .val (.int (gi r1.2 2 (nx x1))), .unset, .unset]) (St' := [.int (gi r1.2 2 (nx x1))]) (σ' := r1.2) [.istore_n 2, .iload_n 2] (by decide +kernel) hc hT hF wi (by exact rfl) ?_
    refine am_if_gt (o := 5) (pc1 := 23) (by decide +kernel) hc (fun hq => ?_) (fun hq => ?_)
    · refine am_blk (pc' := 28) (Ls' := [.val (.ref 0), .val (.int x1), .val (.int (gi r1.2 2 (nx x1))), .unset, .unset]) (St' := [.int ((gi r1.2 2 (nx x1)) - (1 : Int32)), .int x1, .ref 0]) (σ' := r1.2) [.aload_n 0, .iload_n 1, .iload_n 2, .iconst 1, .isub] (by decide +kernel) hc hT hF wi (by exact rfl) ?_
      refine am_callP_I (W0 := 0) (argsL := [.int x1, .int ((gi r1.2 2 (nx x1)) - (1 : Int32))]) (rest := []) rfl (lk_C_79 hw) rfl wi (by decide +kernel) hc (SubW.refl _) rfl (by show arity "(II)I" 2 = true; decide +kernel) (ok_c_indexOf hw x1 ((gi r1.2 2 (nx x1)) - (1 : Int32)) _) rfl ⟨by decide, by decide, Nat.le_of_eq rfl, rfl, rfl, by decide, by decide⟩ (fun r2 hr => ?_)
      refine am_blk (pc' := 33) (Ls' := [.val (.ref 0), .val (.int x1), .val (.int (gi r1.2 2 (nx x1))), .val (.int r2.1), .unset]) (St' := [.int r2.1]) (σ' := r2.2) [.istore_n 3, .iload_n 3] (by decide +kernel) hc hT hF wi (by exact rfl) ?_
      refine am_if_ge (o := 5) (pc1 := 38) (by decide +kernel) hc (fun hq => ?_) (fun hq => ?_)
      · refine am_blk (pc' := 37) (Ls' := [.val (.ref 0), .val (.int x1), .val (.int (gi r1.2 2 (nx x1))), .val (.int r2.1), .unset]) (St' := [.int (0 : Int32)]) (σ' := r2.2) [.iconst 0] (by decide +kernel) hc hT hF wi (by exact rfl) ?_
        exact am_retZ (by decide +kernel) hc (by decide) (by decide) (fun h W O => ⟨rfl, W, O⟩)
      · refine am_blk (pc' := 43) (Ls' := [.val (.ref 0), .val (.int x1), .val (.int (gi r1.2 2 (nx x1))), .val (.int r2.1), .unset]) (St' := [.int r2.1, .ref 1]) (σ' := r2.2) [.aload_n 0, .getfield 7, .iload_n 3] (by decide +kernel) hc hT hF wi (by exact rfl) ?_
        refine am_baloadB (by decide +kernel) hc rfl (fun hb1 => ?_)
        refine am_blk (pc' := 56) (Ls' := [.val (.ref 0), .val (.int x1), .val (.int (gi r1.2 2 (nx x1))), .val (.int r2.1), .val (.int (gi r2.2 1 (nx r2.1)))]) (St' := [.int x1, .ref 4, .int x1, .ref 4]) (σ' := r2.2) [.istore 4, .aload_n 0, .getfield 21, .iload_n 1, .aload_n 0, .getfield 21, .iload_n 1] (by decide +kernel) hc hT hF wi (by exact rfl) ?_
        refine am_iaload_k hb0 (by decide +kernel) hc rfl ?_
        refine am_blk (pc' := 60) (Ls' := [.val (.ref 0), .val (.int x1), .val (.int (gi r1.2 2 (nx x1))), .val (.int r2.1), .val (.int (gi r2.2 1 (nx r2.1)))]) (St' := [.int (gi r2.2 1 (nx r2.1)), .ref 0, .int (gi r2.2 4 (nx x1)), .int x1, .ref 4]) (σ' := r2.2) [.aload_n 0, .iload 4] (by decide +kernel) hc hT hF wi (by exact rfl) ?_
        refine am_callP_I (W0 := 3) (argsL := [.int (gi r2.2 1 (nx r2.1))]) (rest := [.int (gi r2.2 4 (nx x1)), .int x1, .ref 4]) rfl (lk_C_83 hw) rfl wi (by decide +kernel) hc (SubW.refl _) rfl (by show arity "(I)I" 1 = true; decide +kernel) (ok_c_depthChange hw (gi r2.2 1 (nx r2.1)) _) rfl ⟨by decide, by decide, Nat.le_of_eq rfl, rfl, rfl, by decide, by decide⟩ (fun r3 hr => ?_)
        refine am_blk (pc' := 64) (Ls' := [.val (.ref 0), .val (.int x1), .val (.int (gi r1.2 2 (nx x1))), .val (.int r2.1), .val (.int (gi r2.2 1 (nx r2.1)))]) (St' := [.int ((gi r2.2 4 (nx x1)) - r3.1), .int x1, .ref 4]) (σ' := r3.2) [.isub] (by decide +kernel) hc hT hF wi (by exact rfl) ?_
        refine am_iastore_k hb0 (y := ((gi r2.2 4 (nx x1)) - r3.1)) rfl (by decide +kernel) hc rfl ?_
        refine am_blk (pc' := 73) (Ls' := [.val (.ref 0), .val (.int x1), .val (.int (gi r1.2 2 (nx x1))), .val (.int r2.1), .val (.int (gi r2.2 1 (nx r2.1)))]) (St' := [.int ((gi r1.2 2 (nx x1)) - (1 : Int32)), .int x1, .ref 2]) (σ' := si r3.2 4 (nx x1) ((gi r2.2 4 (nx x1)) - r3.1)) [.aload_n 0, .getfield 13, .iload_n 1, .iload_n 2, .iconst 1, .isub] (by decide +kernel) hc hT hF wi (by exact rfl) ?_
        refine am_iastore_k hb0 (y := ((gi r1.2 2 (nx x1)) - (1 : Int32))) rfl (by decide +kernel) hc rfl ?_
        refine am_blk (pc' := 75) (Ls' := [.val (.ref 0), .val (.int x1), .val (.int (gi r1.2 2 (nx x1))), .val (.int r2.1), .val (.int (gi r2.2 1 (nx r2.1)))]) (St' := [.int (1 : Int32)]) (σ' := si (si r3.2 4 (nx x1) ((gi r2.2 4 (nx x1)) - r3.1)) 2 (nx x1) ((gi r1.2 2 (nx x1)) - (1 : Int32))) [.iconst 1] (by decide +kernel) hc hT hF wi (by exact rfl) ?_
        exact am_retZ (by decide +kernel) hc (by decide) (by decide) (fun h W O => ⟨rfl, W, O⟩)
    · refine am_blk (pc' := 22) (Ls' := [.val (.ref 0), .val (.int x1), .val (.int (gi r1.2 2 (nx x1))), .unset, .unset]) (St' := [.int (0 : Int32)]) (σ' := r1.2) [.iconst 0] (by decide +kernel) hc hT hF wi (by exact rfl) ?_
      exact am_retZ (by decide +kernel) hc (by decide) (by decide) (fun h W O => ⟨rfl, W, O⟩)
abbrev rm_c_clear : Room := { frames := 2, cells := 0, slots := 0, locals := 26 }
def c_clear (x1 : Int32) (σ : Sg) : Option (Int32 × Sg) :=
  (c_validSlot x1 σ).bind fun r1 => if r1.1 = 0 then (some ((0 : Int32), r1.2)) else ((c_emptySlot x1 r1.2).bind fun r2 => some ((1 : Int32), r2))
set_option maxRecDepth 65536 in
set_option maxHeartbeats 4000000 in
theorem ok_c_clear (hw : WH a0 Z) (x1 : Int32) (σ : Sg) : ∀ x, c_clear x1 σ = some x → Con l Z "BoolUnifierY" fsC (⟨"BoolUnifierY", "clear", "(I)Z"⟩ : MethodName) prog_1_method_4_code 2 (some .boolean) rm_c_clear wC [.ref 0, .int x1] σ (fI x).1 (fI x).2 := by
  refine am_con pnC ?_
  intro p e s m below meth c A n0 h0 hc
  have hT := tabC hw "clear"
  have hF := fsokC hw
  have wi := wiC hw
  unfold c_clear
  refine am_blk (pc' := 2) (Ls' := [.val (.ref 0), .val (.int x1)]) (St' := [.int x1, .ref 0]) (σ' := σ) [.aload_n 0, .iload_n 1] (by decide +kernel) hc hT hF wi (by exact rfl) ?_
  refine am_callP_I (W0 := 0) (argsL := [.int x1]) (rest := []) rfl (lk_C_62 hw) rfl wi (by decide +kernel) hc (SubW.refl _) rfl (by show arity "(I)Z" 1 = true; decide +kernel) (ok_c_validSlot hw x1 _) rfl ⟨by decide, by decide, Nat.le_of_eq rfl, rfl, rfl, by decide, by decide⟩ (fun r1 hr => ?_)
  refine am_if_ne (o := 5) (pc1 := 10) (by decide +kernel) hc (fun hq => ?_) (fun hq => ?_)
  · refine am_blk (pc' := 9) (Ls' := [.val (.ref 0), .val (.int x1)]) (St' := [.int (0 : Int32)]) (σ' := r1.2) [.iconst 0] (by decide +kernel) hc hT hF wi (by exact rfl) ?_
    exact am_retZ (by decide +kernel) hc (by decide) (by decide) (fun h W O => ⟨rfl, W, O⟩)
  · refine am_blk (pc' := 12) (Ls' := [.val (.ref 0), .val (.int x1)]) (St' := [.int x1, .ref 0]) (σ' := r1.2) [.aload_n 0, .iload_n 1] (by decide +kernel) hc hT hF wi (by exact rfl) ?_
    refine am_callP_V (W0 := 0) (argsL := [.int x1]) (rest := []) rfl (lk_C_86 hw) rfl wi (by decide +kernel) hc (SubW.refl _) rfl (by show arity "(I)V" 1 = true; decide +kernel) (ok_c_emptySlot hw x1 _) rfl ⟨by decide, by decide, Nat.le_of_eq rfl, rfl, rfl, by decide, by decide⟩ (fun r2 hr => ?_)
    refine am_blk (pc' := 16) (Ls' := [.val (.ref 0), .val (.int x1)]) (St' := [.int (1 : Int32)]) (σ' := r2) [.iconst 1] (by decide +kernel) hc hT hF wi (by exact rfl) ?_
    exact am_retZ (by decide +kernel) hc (by decide) (by decide) (fun h W O => ⟨rfl, W, O⟩)
abbrev rm_c_cofactorLow : Room := { frames := 1, cells := 0, slots := 0, locals := 13 }
def c_cofactorLow (y1 : Int64) (x3 : Int32) (σ : Sg) : Option (Int64 × Sg) :=
  (c_validVar x3 σ).bind fun r1 => if r1.1 = 0 then (some (y1, r1.2)) else ((c_varTable x3 r1.2).bind fun r2 => some ((y1 &&& (r2.1 ^^^ (-1 : Int64))) ||| ((y1 &&& (r2.1 ^^^ (-1 : Int64))) <<< (((1 : Int32) <<< (x3 &&& 31)).toInt64 &&& 63)), r2.2))
set_option maxRecDepth 65536 in
set_option maxHeartbeats 4000000 in
theorem ok_c_cofactorLow (hw : WH a0 Z) (y1 : Int64) (x3 : Int32) (σ : Sg) : ∀ x, c_cofactorLow y1 x3 σ = some x → Con l Z "BoolUnifierY" fsC (⟨"BoolUnifierY", "cofactorLow", "(JI)J"⟩ : MethodName) prog_1_method_34_code 9 (some .long) rm_c_cofactorLow wC [.ref 0, .long y1, .int x3] σ (fJ x).1 (fJ x).2 := by
  refine am_con pnC ?_
  intro p e s m below meth c A n0 h0 hc
  have hT := tabC hw "cofactorLow"
  have hF := fsokC hw
  have wi := wiC hw
  unfold c_cofactorLow
  refine am_blk (pc' := 2) (Ls' := [.val (.ref 0), .val (.long y1), .second, .val (.int x3), .unset, .unset, .unset, .unset, .unset]) (St' := [.int x3, .ref 0]) (σ' := σ) [.aload_n 0, .iload_n 3] (by decide +kernel) hc hT hF wi (by exact rfl) ?_
  refine am_callP_I (W0 := 0) (argsL := [.int x3]) (rest := []) rfl (lk_C_124 hw) rfl wi (by decide +kernel) hc (SubW.refl _) rfl (by show arity "(I)Z" 1 = true; decide +kernel) (ok_c_validVar hw x3 _) rfl ⟨by decide, by decide, Nat.le_of_eq rfl, rfl, rfl, by decide, by decide⟩ (fun r1 hr => ?_)
  refine am_if_ne (o := 5) (pc1 := 10) (by decide +kernel) hc (fun hq => ?_) (fun hq => ?_)
  · refine am_blk (pc' := 9) (Ls' := [.val (.ref 0), .val (.long y1), .second, .val (.int x3), .unset, .unset, .unset, .unset, .unset]) (St' := [.long y1]) (σ' := r1.2) [.lload_n 1] (by decide +kernel) hc hT hF wi (by exact rfl) ?_
    exact am_retJ (by decide +kernel) hc (by decide) (by decide) (fun h W O => ⟨rfl, W, O⟩)
  · refine am_blk (pc' := 12) (Ls' := [.val (.ref 0), .val (.long y1), .second, .val (.int x3), .unset, .unset, .unset, .unset, .unset]) (St' := [.int x3, .ref 0]) (σ' := r1.2) [.aload_n 0, .iload_n 3] (by decide +kernel) hc hT hF wi (by exact rfl) ?_
    refine am_callP_J (W0 := 0) (argsL := [.int x3]) (rest := []) rfl (lk_C_137 hw) rfl wi (by decide +kernel) hc (SubW.refl _) rfl (by show arity "(I)J" 1 = true; decide +kernel) (ok_c_varTable hw x3 _) rfl ⟨by decide, by decide, Nat.le_of_eq rfl, rfl, rfl, by decide, by decide⟩ (fun r2 hr => ?_)
    refine am_blk (pc' := 22) (Ls' := [.val (.ref 0), .val (.long y1), .second, .val (.int x3), .val (.long r2.1), .second, .val (.int ((1 : Int32) <<< (x3 &&& 31))), .unset, .unset]) (St' := []) (σ' := r2.2) [.lstore 4, .iconst 1, .iload_n 3, .ishl, .istore 6] (by decide +kernel) hc hT hF wi (by exact rfl) ?_
    refine am_blk (pc' := 32) (Ls' := [.val (.ref 0), .val (.long y1), .second, .val (.int x3), .val (.long r2.1), .second, .val (.int ((1 : Int32) <<< (x3 &&& 31))), .val (.long (y1 &&& (r2.1 ^^^ (-1 : Int64)))), .second]) (St' := []) (σ' := r2.2) [.lload_n 1, .lload 4, .ldc2_w 155, .lxor, .land, .lstore 7] (by decide +kernel) hc hT hF wi (by exact rfl) ?_
    refine am_blk (pc' := 40) (Ls' := [.val (.ref 0), .val (.long y1), .second, .val (.int x3), .val (.long r2.1), .second, .val (.int ((1 : Int32) <<< (x3 &&& 31))), .val (.long (y1 &&& (r2.1 ^^^ (-1 : Int64)))), .second]) (St' := [.long ((y1 &&& (r2.1 ^^^ (-1 : Int64))) ||| ((y1 &&& (r2.1 ^^^ (-1 : Int64))) <<< (((1 : Int32) <<< (x3 &&& 31)).toInt64 &&& 63)))]) (σ' := r2.2) [.lload 7, .lload 7, .iload 6, .lshl, .lor] (by decide +kernel) hc hT hF wi (by exact rfl) ?_
    exact am_retJ (by decide +kernel) hc (by decide) (by decide) (fun h W O => ⟨rfl, W, O⟩)
abbrev rm_c_cofactorHigh : Room := { frames := 1, cells := 0, slots := 0, locals := 13 }
def c_cofactorHigh (y1 : Int64) (x3 : Int32) (σ : Sg) : Option (Int64 × Sg) :=
  (c_validVar x3 σ).bind fun r1 => if r1.1 = 0 then (some (y1, r1.2)) else ((c_varTable x3 r1.2).bind fun r2 => some ((y1 &&& r2.1) ||| (XT.ushrL (y1 &&& r2.1) ((1 : Int32) <<< (x3 &&& 31))), r2.2))
set_option maxRecDepth 65536 in
set_option maxHeartbeats 4000000 in
theorem ok_c_cofactorHigh (hw : WH a0 Z) (y1 : Int64) (x3 : Int32) (σ : Sg) : ∀ x, c_cofactorHigh y1 x3 σ = some x → Con l Z "BoolUnifierY" fsC (⟨"BoolUnifierY", "cofactorHigh", "(JI)J"⟩ : MethodName) prog_1_method_35_code 9 (some .long) rm_c_cofactorHigh wC [.ref 0, .long y1, .int x3] σ (fJ x).1 (fJ x).2 := by
  refine am_con pnC ?_
  intro p e s m below meth c A n0 h0 hc
  have hT := tabC hw "cofactorHigh"
  have hF := fsokC hw
  have wi := wiC hw
  unfold c_cofactorHigh
  refine am_blk (pc' := 2) (Ls' := [.val (.ref 0), .val (.long y1), .second, .val (.int x3), .unset, .unset, .unset, .unset, .unset]) (St' := [.int x3, .ref 0]) (σ' := σ) [.aload_n 0, .iload_n 3] (by decide +kernel) hc hT hF wi (by exact rfl) ?_
  refine am_callP_I (W0 := 0) (argsL := [.int x3]) (rest := []) rfl (lk_C_124 hw) rfl wi (by decide +kernel) hc (SubW.refl _) rfl (by show arity "(I)Z" 1 = true; decide +kernel) (ok_c_validVar hw x3 _) rfl ⟨by decide, by decide, Nat.le_of_eq rfl, rfl, rfl, by decide, by decide⟩ (fun r1 hr => ?_)
  refine am_if_ne (o := 5) (pc1 := 10) (by decide +kernel) hc (fun hq => ?_) (fun hq => ?_)
  · refine am_blk (pc' := 9) (Ls' := [.val (.ref 0), .val (.long y1), .second, .val (.int x3), .unset, .unset, .unset, .unset, .unset]) (St' := [.long y1]) (σ' := r1.2) [.lload_n 1] (by decide +kernel) hc hT hF wi (by exact rfl) ?_
    exact am_retJ (by decide +kernel) hc (by decide) (by decide) (fun h W O => ⟨rfl, W, O⟩)
  · refine am_blk (pc' := 12) (Ls' := [.val (.ref 0), .val (.long y1), .second, .val (.int x3), .unset, .unset, .unset, .unset, .unset]) (St' := [.int x3, .ref 0]) (σ' := r1.2) [.aload_n 0, .iload_n 3] (by decide +kernel) hc hT hF wi (by exact rfl) ?_
    refine am_callP_J (W0 := 0) (argsL := [.int x3]) (rest := []) rfl (lk_C_137 hw) rfl wi (by decide +kernel) hc (SubW.refl _) rfl (by show arity "(I)J" 1 = true; decide +kernel) (ok_c_varTable hw x3 _) rfl ⟨by decide, by decide, Nat.le_of_eq rfl, rfl, rfl, by decide, by decide⟩ (fun r2 hr => ?_)
    refine am_blk (pc' := 22) (Ls' := [.val (.ref 0), .val (.long y1), .second, .val (.int x3), .val (.long r2.1), .second, .val (.int ((1 : Int32) <<< (x3 &&& 31))), .unset, .unset]) (St' := []) (σ' := r2.2) [.lstore 4, .iconst 1, .iload_n 3, .ishl, .istore 6] (by decide +kernel) hc hT hF wi (by exact rfl) ?_
    refine am_blk (pc' := 28) (Ls' := [.val (.ref 0), .val (.long y1), .second, .val (.int x3), .val (.long r2.1), .second, .val (.int ((1 : Int32) <<< (x3 &&& 31))), .val (.long (y1 &&& r2.1)), .second]) (St' := []) (σ' := r2.2) [.lload_n 1, .lload 4, .land, .lstore 7] (by decide +kernel) hc hT hF wi (by exact rfl) ?_
    refine am_blk (pc' := 36) (Ls' := [.val (.ref 0), .val (.long y1), .second, .val (.int x3), .val (.long r2.1), .second, .val (.int ((1 : Int32) <<< (x3 &&& 31))), .val (.long (y1 &&& r2.1)), .second]) (St' := [.long ((y1 &&& r2.1) ||| (XT.ushrL (y1 &&& r2.1) ((1 : Int32) <<< (x3 &&& 31))))]) (σ' := r2.2) [.lload 7, .lload 7, .iload 6, .lushr, .lor] (by decide +kernel) hc hT hF wi (by exact rfl) ?_
    exact am_retJ (by decide +kernel) hc (by decide) (by decide) (fun h W O => ⟨rfl, W, O⟩)
abbrev rm_c_recordStep : Room := { frames := 0, cells := 0, slots := 0, locals := 0 }
def c_recordStep (x1 : Int32) (y2 : Int64) (y4 : Int64) (σ : Sg) : Option Sg :=
  if (gi σ 0 16) < 0 then (some σ) else (if (gi σ 0 16) < (6 : Int32) then (if inb (gi σ 0 16) 6 = true then (some (si (sj (sj (si σ 7 (nx (gi σ 0 16)) x1) 8 (nx (gi σ 0 16)) y2) 9 (nx (gi σ 0 16)) y4) 0 16 ((gi σ 0 16) + (1 : Int32)))) else none) else (some σ))
set_option maxRecDepth 65536 in
set_option maxHeartbeats 4000000 in
theorem ok_c_recordStep (hw : WH a0 Z) (x1 : Int32) (y2 : Int64) (y4 : Int64) (σ : Sg) : ∀ x, c_recordStep x1 y2 y4 σ = some x → Con l Z "BoolUnifierY" fsC (⟨"BoolUnifierY", "recordStep", "(IJJ)V"⟩ : MethodName) prog_1_method_44_code 7 none rm_c_recordStep wC [.ref 0, .int x1, .long y2, .long y4] σ (fV x).1 (fV x).2 := by
  refine am_con pnC ?_
  intro p e s m below meth c A n0 h0 hc
  have hT := tabC hw "recordStep"
  have hF := fsokC hw
  have wi := wiC hw
  unfold c_recordStep
  refine am_blk (pc' := 8) (Ls' := [.val (.ref 0), .val (.int x1), .val (.long y2), .second, .val (.long y4), .second, .val (.int (gi σ 0 16))]) (St' := [.int (gi σ 0 16)]) (σ' := σ) [.aload_n 0, .getfield 134, .istore 6, .iload 6] (by decide +kernel) hc hT hF wi (by exact rfl) ?_
  refine am_if_lt (o := 10) (pc1 := 18) (by decide +kernel) hc (fun hq => ?_) (fun hq => ?_)
  · exact am_retV (by decide +kernel) hc (by decide) (by decide) (fun h W O => ⟨rfl, W, O⟩)
  · refine am_blk (pc' := 15) (Ls' := [.val (.ref 0), .val (.int x1), .val (.long y2), .second, .val (.long y4), .second, .val (.int (gi σ 0 16))]) (St' := [.int (6 : Int32), .int (gi σ 0 16)]) (σ' := σ) [.iload 6, .bipush 6] (by decide +kernel) hc hT hF wi (by exact rfl) ?_
    refine am_icmp_lt (o := 4) (pc1 := 19) (by decide +kernel) hc (fun hq => ?_) (fun hq => ?_)
    · refine am_blk (pc' := 26) (Ls' := [.val (.ref 0), .val (.int x1), .val (.long y2), .second, .val (.long y4), .second, .val (.int (gi σ 0 16))]) (St' := [.int x1, .int (gi σ 0 16), .ref 7]) (σ' := σ) [.aload_n 0, .getfield 30, .iload 6, .iload_n 1] (by decide +kernel) hc hT hF wi (by exact rfl) ?_
      refine am_iastore (y := x1) rfl (by decide +kernel) hc rfl (fun hb0 => ?_)
      refine am_blk (pc' := 34) (Ls' := [.val (.ref 0), .val (.int x1), .val (.long y2), .second, .val (.long y4), .second, .val (.int (gi σ 0 16))]) (St' := [.long y2, .int (gi σ 0 16), .ref 8]) (σ' := si σ 7 (nx (gi σ 0 16)) x1) [.aload_n 0, .getfield 33, .iload 6, .lload_n 2] (by decide +kernel) hc hT hF wi (by exact rfl) ?_
      refine am_lastore_k hb0 (y := y2) rfl (by decide +kernel) hc rfl ?_
      refine am_blk (pc' := 43) (Ls' := [.val (.ref 0), .val (.int x1), .val (.long y2), .second, .val (.long y4), .second, .val (.int (gi σ 0 16))]) (St' := [.long y4, .int (gi σ 0 16), .ref 9]) (σ' := sj (si σ 7 (nx (gi σ 0 16)) x1) 8 (nx (gi σ 0 16)) y2) [.aload_n 0, .getfield 36, .iload 6, .lload 4] (by decide +kernel) hc hT hF wi (by exact rfl) ?_
      refine am_lastore_k hb0 (y := y4) rfl (by decide +kernel) hc rfl ?_
      refine am_blk (pc' := 52) (Ls' := [.val (.ref 0), .val (.int x1), .val (.long y2), .second, .val (.long y4), .second, .val (.int (gi σ 0 16))]) (St' := []) (σ' := si (sj (sj (si σ 7 (nx (gi σ 0 16)) x1) 8 (nx (gi σ 0 16)) y2) 9 (nx (gi σ 0 16)) y4) 0 16 ((gi σ 0 16) + (1 : Int32))) [.aload_n 0, .iload 6, .iconst 1, .iadd, .putfield 134] (by decide +kernel) hc hT hF wi (by exact rfl) ?_
      exact am_retV (by decide +kernel) hc (by decide) (by decide) (fun h W O => ⟨rfl, W, O⟩)
    · exact am_retV (by decide +kernel) hc (by decide) (by decide) (fun h W O => ⟨rfl, W, O⟩)
abbrev rm_c_eliminate : Room := { frames := 2, cells := 0, slots := 0, locals := 33 }
def c_eliminate_64 (k11 : Int32 → Int64 → Int32 → Sg → Option (Int64 × Sg)) (x3 : Int32) (y4 : Int64) (x6 : Int32) (σ : Sg) : Option (Int64 × Sg) :=
  k11 x3 y4 (x6 + (1 : Int32)) σ
set_option maxRecDepth 65536 in
set_option maxHeartbeats 4000000 in
theorem okc_c_eliminate_64 (hw : WH a0 Z) (hc : Cx p s m meth c Z "BoolUnifierY" prog_1_method_43_code 11 (some .long) "eliminate") (k11 : Int32 → Int64 → Int32 → Sg → Option (Int64 × Sg)) (hk11 : ∀ (x3 : Int32) (y4 : Int64) (x6 : Int32) (σ : Sg), OkR p l e rm_c_eliminate s m args below meth c Z "BoolUnifierY" fsC n0 h0 (FM Z "BoolUnifierY" fsC A wC h0 fJ) A wC 0 0 11 [.val (.ref 0), .unset, .unset, .val (.int x3), .val (.long y4), .unset, .val (.int x6), .unset, .unset, .unset, .unset] [] σ (k11 x3 y4 x6 σ)) (x3 : Int32) (y4 : Int64) (x6 : Int32) (σ : Sg) : OkR p l e rm_c_eliminate s m args below meth c Z "BoolUnifierY" fsC n0 h0 (FM Z "BoolUnifierY" fsC A wC h0 fJ) A wC 0 0 64 [.val (.ref 0), .unset, .unset, .val (.int x3), .val (.long y4), .unset, .val (.int x6), .unset, .unset, .unset, .unset] [] σ (c_eliminate_64 k11 x3 y4 x6 σ) := by
  have hT := tabC hw "eliminate"
  have hF := fsokC hw
  have wi := wiC hw
  unfold c_eliminate_64
  refine am_blk (pc' := 11) (Ls' := [.val (.ref 0), .unset, .unset, .val (.int x3), .val (.long y4), .unset, .val (.int (x6 + (1 : Int32))), .unset, .unset, .unset, .unset]) (St' := []) (σ' := σ) [.iinc 6 1, .goto (-56)] (by decide +kernel) hc hT hF wi (by exact rfl) ?_
  exact am_wk (Ls' := [.val (.ref 0), .unset, .unset, .val (.int x3), .val (.long y4), .unset, .val (.int (x6 + (1 : Int32))), .unset, .unset, .unset, .unset]) (by simp [wkL]) (hk11 x3 y4 (x6 + (1 : Int32)) σ)
def c_eliminate_11 : Nat → Int32 → Int64 → Int32 → Sg → Option (Int64 × Sg)
  | 0, _, _, _, _ => none
  | fuel + 1, x3, y4, x6, σ =>
    if x6 < (6 : Int32) then (if ((x3 >>> (x6 &&& 31)) &&& (1 : Int32)) = 0 then (c_eliminate_64 (c_eliminate_11 fuel) x3 y4 x6 σ) else ((c_cofactorLow y4 x6 σ).bind fun r1 => (c_cofactorHigh y4 x6 r1.2).bind fun r2 => (c_recordStep x6 r1.1 r2.1 r2.2).bind fun r3 => c_eliminate_64 (c_eliminate_11 fuel) x3 (r1.1 &&& r2.1) x6 r3)) else (some (y4, σ))
set_option maxRecDepth 65536 in
set_option maxHeartbeats 4000000 in
theorem okc_c_eliminate_11 (hw : WH a0 Z) (hc : Cx p s m meth c Z "BoolUnifierY" prog_1_method_43_code 11 (some .long) "eliminate") : ∀ (fuel : Nat) (x3 : Int32) (y4 : Int64) (x6 : Int32) (σ : Sg), OkR p l e rm_c_eliminate s m args below meth c Z "BoolUnifierY" fsC n0 h0 (FM Z "BoolUnifierY" fsC A wC h0 fJ) A wC 0 0 11 [.val (.ref 0), .unset, .unset, .val (.int x3), .val (.long y4), .unset, .val (.int x6), .unset, .unset, .unset, .unset] [] σ (c_eliminate_11 fuel x3 y4 x6 σ) := by
  have hT := tabC hw "eliminate"
  have hF := fsokC hw
  have wi := wiC hw
  intro fuel
  induction fuel with
  | zero => intro x3 y4 x6 σ; exact am_none rfl
  | succ fuel ih =>
    intro x3 y4 x6 σ
    rw [c_eliminate_11]
    refine am_blk (pc' := 15) (Ls' := [.val (.ref 0), .unset, .unset, .val (.int x3), .val (.long y4), .unset, .val (.int x6), .unset, .unset, .unset, .unset]) (St' := [.int (6 : Int32), .int x6]) (σ' := σ) [.iload 6, .bipush 6] (by decide +kernel) hc hT hF wi (by exact rfl) ?_
    refine am_icmp_ge (o := 55) (pc1 := 70) (by decide +kernel) hc (fun hq => ?_) (fun hq => ?_)
    · refine am_blk (pc' := 24) (Ls' := [.val (.ref 0), .unset, .unset, .val (.int x3), .val (.long y4), .unset, .val (.int x6), .unset, .unset, .unset, .unset]) (St' := [.int ((x3 >>> (x6 &&& 31)) &&& (1 : Int32))]) (σ' := σ) [.iload_n 3, .iload 6, .ishr, .iconst 1, .iand] (by decide +kernel) hc hT hF wi (by exact rfl) ?_
      refine am_if_eq (o := 40) (pc1 := 64) (by decide +kernel) hc (fun hq => ?_) (fun hq => ?_)
      · exact am_wk (Ls' := [.val (.ref 0), .unset, .unset, .val (.int x3), .val (.long y4), .unset, .val (.int x6), .unset, .unset, .unset, .unset]) (by simp [wkL]) (okc_c_eliminate_64 hw hc _ ih x3 y4 x6 σ)
      · refine am_blk (pc' := 32) (Ls' := [.val (.ref 0), .unset, .unset, .val (.int x3), .val (.long y4), .unset, .val (.int x6), .unset, .unset, .unset, .unset]) (St' := [.int x6, .long y4, .ref 0]) (σ' := σ) [.aload_n 0, .lload 4, .iload 6] (by decide +kernel) hc hT hF wi (by exact rfl) ?_
        refine am_callP_J (W0 := 0) (argsL := [.long y4, .int x6]) (rest := []) rfl (lk_C_179 hw) rfl wi (by decide +kernel) hc (SubW.refl _) rfl (by show arity "(JI)J" 2 = true; decide +kernel) (ok_c_cofactorLow hw y4 x6 _) rfl ⟨by decide, by decide, Nat.le_of_eq rfl, rfl, rfl, by decide, by decide⟩ (fun r1 hr => ?_)
        refine am_blk (pc' := 42) (Ls' := [.val (.ref 0), .unset, .unset, .val (.int x3), .val (.long y4), .unset, .val (.int x6), .val (.long r1.1), .second, .unset, .unset]) (St' := [.int x6, .long y4, .ref 0]) (σ' := r1.2) [.lstore 7, .aload_n 0, .lload 4, .iload 6] (by decide +kernel) hc hT hF wi (by exact rfl) ?_
        refine am_callP_J (W0 := 0) (argsL := [.long y4, .int x6]) (rest := []) rfl (lk_C_182 hw) rfl wi (by decide +kernel) hc (SubW.refl _) rfl (by show arity "(JI)J" 2 = true; decide +kernel) (ok_c_cofactorHigh hw y4 x6 _) rfl ⟨by decide, by decide, Nat.le_of_eq rfl, rfl, rfl, by decide, by decide⟩ (fun r2 hr => ?_)
        refine am_blk (pc' := 54) (Ls' := [.val (.ref 0), .unset, .unset, .val (.int x3), .val (.long y4), .unset, .val (.int x6), .val (.long r1.1), .second, .val (.long r2.1), .second]) (St' := [.long r2.1, .long r1.1, .int x6, .ref 0]) (σ' := r2.2) [.lstore 9, .aload_n 0, .iload 6, .lload 7, .lload 9] (by decide +kernel) hc hT hF wi (by exact rfl) ?_
        refine am_callP_V (W0 := 0) (argsL := [.int x6, .long r1.1, .long r2.1]) (rest := []) rfl (lk_C_185 hw) rfl wi (by decide +kernel) hc (SubW.refl _) rfl (by show arity "(IJJ)V" 3 = true; decide +kernel) (ok_c_recordStep hw x6 r1.1 r2.1 _) rfl ⟨by decide, by decide, Nat.le_of_eq rfl, rfl, rfl, by decide, by decide⟩ (fun r3 hr => ?_)
        refine am_blk (pc' := 64) (Ls' := [.val (.ref 0), .unset, .unset, .val (.int x3), .val (.long (r1.1 &&& r2.1)), .second, .val (.int x6), .val (.long r1.1), .second, .val (.long r2.1), .second]) (St' := []) (σ' := r3) [.lload 7, .lload 9, .land, .lstore 4] (by decide +kernel) hc hT hF wi (by exact rfl) ?_
        exact am_wk (Ls' := [.val (.ref 0), .unset, .unset, .val (.int x3), .val (.long (r1.1 &&& r2.1)), .unset, .val (.int x6), .unset, .unset, .unset, .unset]) (by simp [wkL]) (okc_c_eliminate_64 hw hc _ ih x3 (r1.1 &&& r2.1) x6 r3)
    · refine am_blk (pc' := 72) (Ls' := [.val (.ref 0), .unset, .unset, .val (.int x3), .val (.long y4), .unset, .val (.int x6), .unset, .unset, .unset, .unset]) (St' := [.long y4]) (σ' := σ) [.lload 4] (by decide +kernel) hc hT hF wi (by exact rfl) ?_
      exact am_retJ (by decide +kernel) hc (by decide) (by decide) (fun h W O => ⟨rfl, W, O⟩)
def c_eliminate (y1 : Int64) (x3 : Int32) (σ : Sg) : Option (Int64 × Sg) :=
  c_eliminate_11 400 x3 y1 (0 : Int32) (si σ 0 16 (0 : Int32))
set_option maxRecDepth 65536 in
set_option maxHeartbeats 4000000 in
theorem ok_c_eliminate (hw : WH a0 Z) (y1 : Int64) (x3 : Int32) (σ : Sg) : ∀ x, c_eliminate y1 x3 σ = some x → Con l Z "BoolUnifierY" fsC (⟨"BoolUnifierY", "eliminate", "(JI)J"⟩ : MethodName) prog_1_method_43_code 11 (some .long) rm_c_eliminate wC [.ref 0, .long y1, .int x3] σ (fJ x).1 (fJ x).2 := by
  refine am_con pnC ?_
  intro p e s m below meth c A n0 h0 hc
  have hT := tabC hw "eliminate"
  have hF := fsokC hw
  have wi := wiC hw
  unfold c_eliminate
  refine am_blk (pc' := 11) (Ls' := [.val (.ref 0), .val (.long y1), .second, .val (.int x3), .val (.long y1), .second, .val (.int (0 : Int32)), .unset, .unset, .unset, .unset]) (St' := []) (σ' := si σ 0 16 (0 : Int32)) [.aload_n 0, .iconst 0, .putfield 134, .lload_n 1, .lstore 4, .iconst 0, .istore 6] (by decide +kernel) hc hT hF wi (by exact rfl) ?_
  exact am_wk (Ls' := [.val (.ref 0), .unset, .unset, .val (.int x3), .val (.long y1), .unset, .val (.int (0 : Int32)), .unset, .unset, .unset, .unset]) (by simp [wkL]) (okc_c_eliminate_11 hw hc 400 x3 y1 (0 : Int32) (si σ 0 16 (0 : Int32)))
abbrev rm_c_loadLeaves : Room := { frames := 0, cells := 0, slots := 0, locals := 0 }
def c_loadLeaves_2 : Nat → Int64 → Int32 → Sg → Option Sg
  | 0, _, _, _ => none
  | fuel + 1, y1, x3, σ =>
    if x3 < (64 : Int32) then (if inb x3 64 = true then (c_loadLeaves_2 fuel y1 (x3 + (1 : Int32)) (sj σ 10 (nx x3) (-((XT.ushrL y1 x3) &&& (1 : Int64))))) else none) else (some σ)
set_option maxRecDepth 65536 in
set_option maxHeartbeats 4000000 in
theorem okc_c_loadLeaves_2 (hw : WH a0 Z) (hc : Cx p s m meth c Z "BoolUnifierY" prog_1_method_48_code 6 none "loadLeaves") : ∀ (fuel : Nat) (y1 : Int64) (x3 : Int32) (σ : Sg), OkR p l e rm_c_loadLeaves s m args below meth c Z "BoolUnifierY" fsC n0 h0 (FM Z "BoolUnifierY" fsC A wC h0 fV) A wC 0 0 2 [.val (.ref 0), .val (.long y1), .unset, .val (.int x3), .unset, .unset] [] σ (c_loadLeaves_2 fuel y1 x3 σ) := by
  have hT := tabC hw "loadLeaves"
  have hF := fsokC hw
  have wi := wiC hw
  intro fuel
  induction fuel with
  | zero => intro y1 x3 σ; exact am_none rfl
  | succ fuel ih =>
    intro y1 x3 σ
    rw [c_loadLeaves_2]
    refine am_blk (pc' := 5) (Ls' := [.val (.ref 0), .val (.long y1), .unset, .val (.int x3), .unset, .unset]) (St' := [.int (64 : Int32), .int x3]) (σ' := σ) [.iload_n 3, .bipush 64] (by decide +kernel) hc hT hF wi (by exact rfl) ?_
    refine am_icmp_ge (o := 25) (pc1 := 30) (by decide +kernel) hc (fun hq => ?_) (fun hq => ?_)
    · refine am_blk (pc' := 15) (Ls' := [.val (.ref 0), .val (.long y1), .unset, .val (.int x3), .val (.long ((XT.ushrL y1 x3) &&& (1 : Int64))), .second]) (St' := []) (σ' := σ) [.lload_n 1, .iload_n 3, .lushr, .lconst 1, .land, .lstore 4] (by decide +kernel) hc hT hF wi (by exact rfl) ?_
      refine am_blk (pc' := 23) (Ls' := [.val (.ref 0), .val (.long y1), .unset, .val (.int x3), .val (.long ((XT.ushrL y1 x3) &&& (1 : Int64))), .second]) (St' := [.long (-((XT.ushrL y1 x3) &&& (1 : Int64))), .int x3, .ref 10]) (σ' := σ) [.aload_n 0, .getfield 39, .iload_n 3, .lload 4, .lneg] (by decide +kernel) hc hT hF wi (by exact rfl) ?_
      refine am_lastore (y := (-((XT.ushrL y1 x3) &&& (1 : Int64)))) rfl (by decide +kernel) hc rfl (fun hb0 => ?_)
      refine am_blk (pc' := 2) (Ls' := [.val (.ref 0), .val (.long y1), .unset, .val (.int (x3 + (1 : Int32))), .val (.long ((XT.ushrL y1 x3) &&& (1 : Int64))), .second]) (St' := []) (σ' := sj σ 10 (nx x3) (-((XT.ushrL y1 x3) &&& (1 : Int64)))) [.iinc 3 1, .goto (-25)] (by decide +kernel) hc hT hF wi (by exact rfl) ?_
      exact am_wk (Ls' := [.val (.ref 0), .val (.long y1), .unset, .val (.int (x3 + (1 : Int32))), .unset, .unset]) (by simp [wkL]) (ih y1 (x3 + (1 : Int32)) (sj σ 10 (nx x3) (-((XT.ushrL y1 x3) &&& (1 : Int64)))))
    · exact am_retV (by decide +kernel) hc (by decide) (by decide) (fun h W O => ⟨rfl, W, O⟩)
def c_loadLeaves (y1 : Int64) (σ : Sg) : Option Sg :=
  c_loadLeaves_2 400 y1 (0 : Int32) σ
set_option maxRecDepth 65536 in
set_option maxHeartbeats 4000000 in
theorem ok_c_loadLeaves (hw : WH a0 Z) (y1 : Int64) (σ : Sg) : ∀ x, c_loadLeaves y1 σ = some x → Con l Z "BoolUnifierY" fsC (⟨"BoolUnifierY", "loadLeaves", "(J)V"⟩ : MethodName) prog_1_method_48_code 6 none rm_c_loadLeaves wC [.ref 0, .long y1] σ (fV x).1 (fV x).2 := by
  refine am_con pnC ?_
  intro p e s m below meth c A n0 h0 hc
  have hT := tabC hw "loadLeaves"
  have hF := fsokC hw
  have wi := wiC hw
  unfold c_loadLeaves
  refine am_blk (pc' := 2) (Ls' := [.val (.ref 0), .val (.long y1), .second, .val (.int (0 : Int32)), .unset, .unset]) (St' := []) (σ' := σ) [.iconst 0, .istore_n 3] (by decide +kernel) hc hT hF wi (by exact rfl) ?_
  exact am_wk (Ls' := [.val (.ref 0), .val (.long y1), .unset, .val (.int (0 : Int32)), .unset, .unset]) (by simp [wkL]) (okc_c_loadLeaves_2 hw hc 400 y1 (0 : Int32) σ)
abbrev rm_c_foldLevel : Room := { frames := 1, cells := 0, slots := 0, locals := 13 }
def c_foldLevel_25 : Nat → Int64 → Int32 → Int32 → Sg → Option Sg
  | 0, _, _, _, _ => none
  | fuel + 1, y2, x4, x5, σ =>
    if x5 < x4 then (if x5 < (32 : Int32) then (if inb ((2 : Int32) * x5) 64 = true then (if inb (((2 : Int32) * x5) + (1 : Int32)) 64 = true then (if inb x5 64 = true then (c_foldLevel_25 fuel y2 x4 (x5 + (1 : Int32)) (sj σ 10 (nx x5) ((y2 &&& (gj σ 10 (nx (((2 : Int32) * x5) + (1 : Int32))))) ||| ((y2 ^^^ (-1 : Int64)) &&& (gj σ 10 (nx ((2 : Int32) * x5))))))) else none) else none) else none) else (some σ)) else (some σ)
set_option maxRecDepth 65536 in
set_option maxHeartbeats 4000000 in
theorem okc_c_foldLevel_25 (hw : WH a0 Z) (hc : Cx p s m meth c Z "BoolUnifierY" prog_1_method_49_code 10 none "foldLevel") : ∀ (fuel : Nat) (y2 : Int64) (x4 : Int32) (x5 : Int32) (σ : Sg), OkR p l e rm_c_foldLevel s m args below meth c Z "BoolUnifierY" fsC n0 h0 (FM Z "BoolUnifierY" fsC A wC h0 fV) A wC 0 0 25 [.val (.ref 0), .unset, .val (.long y2), .unset, .val (.int x4), .val (.int x5), .unset, .unset, .unset, .unset] [] σ (c_foldLevel_25 fuel y2 x4 x5 σ) := by
  have hT := tabC hw "foldLevel"
  have hF := fsokC hw
  have wi := wiC hw
  intro fuel
  induction fuel with
  | zero => intro y2 x4 x5 σ; exact am_none rfl
  | succ fuel ih =>
    intro y2 x4 x5 σ
    rw [c_foldLevel_25]
    refine am_blk (pc' := 29) (Ls' := [.val (.ref 0), .unset, .val (.long y2), .unset, .val (.int x4), .val (.int x5), .unset, .unset, .unset, .unset]) (St' := [.int x4, .int x5]) (σ' := σ) [.iload 5, .iload 4] (by decide +kernel) hc hT hF wi (by exact rfl) ?_
    refine am_icmp_ge (o := 60) (pc1 := 89) (by decide +kernel) hc (fun hq => ?_) (fun hq => ?_)
    · refine am_blk (pc' := 36) (Ls' := [.val (.ref 0), .unset, .val (.long y2), .unset, .val (.int x4), .val (.int x5), .unset, .unset, .unset, .unset]) (St' := [.int (32 : Int32), .int x5]) (σ' := σ) [.iload 5, .bipush 32] (by decide +kernel) hc hT hF wi (by exact rfl) ?_
      refine am_icmp_ge (o := 53) (pc1 := 89) (by decide +kernel) hc (fun hq => ?_) (fun hq => ?_)
      · refine am_blk (pc' := 47) (Ls' := [.val (.ref 0), .unset, .val (.long y2), .unset, .val (.int x4), .val (.int x5), .unset, .unset, .unset, .unset]) (St' := [.int ((2 : Int32) * x5), .ref 10]) (σ' := σ) [.aload_n 0, .getfield 39, .iconst 2, .iload 5, .imul] (by decide +kernel) hc hT hF wi (by exact rfl) ?_
        refine am_laload (by decide +kernel) hc rfl (fun hb0 => ?_)
        refine am_blk (pc' := 60) (Ls' := [.val (.ref 0), .unset, .val (.long y2), .unset, .val (.int x4), .val (.int x5), .val (.long (gj σ 10 (nx ((2 : Int32) * x5)))), .second, .unset, .unset]) (St' := [.int (((2 : Int32) * x5) + (1 : Int32)), .ref 10]) (σ' := σ) [.lstore 6, .aload_n 0, .getfield 39, .iconst 2, .iload 5, .imul, .iconst 1, .iadd] (by decide +kernel) hc hT hF wi (by exact rfl) ?_
        refine am_laload (by decide +kernel) hc rfl (fun hb1 => ?_)
        refine am_blk (pc' := 78) (Ls' := [.val (.ref 0), .unset, .val (.long y2), .unset, .val (.int x4), .val (.int x5), .val (.long (gj σ 10 (nx ((2 : Int32) * x5)))), .second, .val (.long (gj σ 10 (nx (((2 : Int32) * x5) + (1 : Int32))))), .second]) (St' := [.long (y2 ^^^ (-1 : Int64)), .long (y2 &&& (gj σ 10 (nx (((2 : Int32) * x5) + (1 : Int32))))), .int x5, .ref 10]) (σ' := σ) [.lstore 8, .aload_n 0, .getfield 39, .iload 5, .lload_n 2, .lload 8, .land, .lload_n 2, .ldc2_w 155, .lxor] (by decide +kernel) hc hT hF wi (by exact rfl) ?_
        refine am_blk (pc' := 82) (Ls' := [.val (.ref 0), .unset, .val (.long y2), .unset, .val (.int x4), .val (.int x5), .val (.long (gj σ 10 (nx ((2 : Int32) * x5)))), .second, .val (.long (gj σ 10 (nx (((2 : Int32) * x5) + (1 : Int32))))), .second]) (St' := [.long ((y2 &&& (gj σ 10 (nx (((2 : Int32) * x5) + (1 : Int32))))) ||| ((y2 ^^^ (-1 : Int64)) &&& (gj σ 10 (nx ((2 : Int32) * x5))))), .int x5, .ref 10]) (σ' := σ) [.lload 6, .land, .lor] (by decide +kernel) hc hT hF wi (by exact rfl) ?_
        refine am_lastore (y := ((y2 &&& (gj σ 10 (nx (((2 : Int32) * x5) + (1 : Int32))))) ||| ((y2 ^^^ (-1 : Int64)) &&& (gj σ 10 (nx ((2 : Int32) * x5)))))) rfl (by decide +kernel) hc rfl (fun hb2 => ?_)
        refine am_blk (pc' := 25) (Ls' := [.val (.ref 0), .unset, .val (.long y2), .unset, .val (.int x4), .val (.int (x5 + (1 : Int32))), .val (.long (gj σ 10 (nx ((2 : Int32) * x5)))), .second, .val (.long (gj σ 10 (nx (((2 : Int32) * x5) + (1 : Int32))))), .second]) (St' := []) (σ' := sj σ 10 (nx x5) ((y2 &&& (gj σ 10 (nx (((2 : Int32) * x5) + (1 : Int32))))) ||| ((y2 ^^^ (-1 : Int64)) &&& (gj σ 10 (nx ((2 : Int32) * x5)))))) [.iinc 5 1, .goto (-61)] (by decide +kernel) hc hT hF wi (by exact rfl) ?_
        exact am_wk (Ls' := [.val (.ref 0), .unset, .val (.long y2), .unset, .val (.int x4), .val (.int (x5 + (1 : Int32))), .unset, .unset, .unset, .unset]) (by simp [wkL]) (ih y2 x4 (x5 + (1 : Int32)) (sj σ 10 (nx x5) ((y2 &&& (gj σ 10 (nx (((2 : Int32) * x5) + (1 : Int32))))) ||| ((y2 ^^^ (-1 : Int64)) &&& (gj σ 10 (nx ((2 : Int32) * x5)))))))
      · exact am_retV (by decide +kernel) hc (by decide) (by decide) (fun h W O => ⟨rfl, W, O⟩)
    · exact am_retV (by decide +kernel) hc (by decide) (by decide) (fun h W O => ⟨rfl, W, O⟩)
def c_foldLevel (x1 : Int32) (σ : Sg) : Option Sg :=
  (c_validVar x1 σ).bind fun r1 => if r1.1 = 0 then (some r1.2) else (if inb x1 6 = true then (c_foldLevel_25 400 (gj r1.2 3 (nx x1)) ((32 : Int32) >>> (x1 &&& 31)) (0 : Int32) r1.2) else none)
set_option maxRecDepth 65536 in
set_option maxHeartbeats 4000000 in
theorem ok_c_foldLevel (hw : WH a0 Z) (x1 : Int32) (σ : Sg) : ∀ x, c_foldLevel x1 σ = some x → Con l Z "BoolUnifierY" fsC (⟨"BoolUnifierY", "foldLevel", "(I)V"⟩ : MethodName) prog_1_method_49_code 10 none rm_c_foldLevel wC [.ref 0, .int x1] σ (fV x).1 (fV x).2 := by
  refine am_con pnC ?_
  intro p e s m below meth c A n0 h0 hc
  have hT := tabC hw "foldLevel"
  have hF := fsokC hw
  have wi := wiC hw
  unfold c_foldLevel
  refine am_blk (pc' := 2) (Ls' := [.val (.ref 0), .val (.int x1), .unset, .unset, .unset, .unset, .unset, .unset, .unset, .unset]) (St' := [.int x1, .ref 0]) (σ' := σ) [.aload_n 0, .iload_n 1] (by decide +kernel) hc hT hF wi (by exact rfl) ?_
  refine am_callP_I (W0 := 0) (argsL := [.int x1]) (rest := []) rfl (lk_C_124 hw) rfl wi (by decide +kernel) hc (SubW.refl _) rfl (by show arity "(I)Z" 1 = true; decide +kernel) (ok_c_validVar hw x1 _) rfl ⟨by decide, by decide, Nat.le_of_eq rfl, rfl, rfl, by decide, by decide⟩ (fun r1 hr => ?_)
  refine am_if_ne (o := 4) (pc1 := 9) (by decide +kernel) hc (fun hq => ?_) (fun hq => ?_)
  · exact am_retV (by decide +kernel) hc (by decide) (by decide) (fun h W O => ⟨rfl, W, O⟩)
  · refine am_blk (pc' := 14) (Ls' := [.val (.ref 0), .val (.int x1), .unset, .unset, .unset, .unset, .unset, .unset, .unset, .unset]) (St' := [.int x1, .ref 3]) (σ' := r1.2) [.aload_n 0, .getfield 17, .iload_n 1] (by decide +kernel) hc hT hF wi (by exact rfl) ?_
    refine am_laload (by decide +kernel) hc rfl (fun hb0 => ?_)
    refine am_blk (pc' := 25) (Ls' := [.val (.ref 0), .val (.int x1), .val (.long (gj r1.2 3 (nx x1))), .second, .val (.int ((32 : Int32) >>> (x1 &&& 31))), .val (.int (0 : Int32)), .unset, .unset, .unset, .unset]) (St' := []) (σ' := r1.2) [.lstore_n 2, .bipush 32, .iload_n 1, .ishr, .istore 4, .iconst 0, .istore 5] (by decide +kernel) hc hT hF wi (by exact rfl) ?_
    exact am_wk (Ls' := [.val (.ref 0), .unset, .val (.long (gj r1.2 3 (nx x1))), .unset, .val (.int ((32 : Int32) >>> (x1 &&& 31))), .val (.int (0 : Int32)), .unset, .unset, .unset, .unset]) (by simp [wkL]) (okc_c_foldLevel_25 hw hc 400 (gj r1.2 3 (nx x1)) ((32 : Int32) >>> (x1 &&& 31)) (0 : Int32) r1.2)
abbrev rm_c_compose : Room := { frames := 2, cells := 0, slots := 0, locals := 34 }
def c_compose_7 : Nat → Int32 → Sg → Option (Int64 × Sg)
  | 0, _, _ => none
  | fuel + 1, x3, σ =>
    if x3 < (6 : Int32) then ((c_foldLevel x3 σ).bind fun r1 => c_compose_7 fuel (x3 + (1 : Int32)) r1) else (if inb (0 : Int32) 64 = true then (some (gj σ 10 (nx (0 : Int32)), σ)) else none)
set_option maxRecDepth 65536 in
set_option maxHeartbeats 4000000 in
theorem okc_c_compose_7 (hw : WH a0 Z) (hc : Cx p s m meth c Z "BoolUnifierY" prog_1_method_47_code 4 (some .long) "compose") : ∀ (fuel : Nat) (x3 : Int32) (σ : Sg), OkR p l e rm_c_compose s m args below meth c Z "BoolUnifierY" fsC n0 h0 (FM Z "BoolUnifierY" fsC A wC h0 fJ) A wC 0 0 7 [.val (.ref 0), .unset, .unset, .val (.int x3)] [] σ (c_compose_7 fuel x3 σ) := by
  have hT := tabC hw "compose"
  have hF := fsokC hw
  have wi := wiC hw
  intro fuel
  induction fuel with
  | zero => intro x3 σ; exact am_none rfl
  | succ fuel ih =>
    intro x3 σ
    rw [c_compose_7]
    refine am_blk (pc' := 10) (Ls' := [.val (.ref 0), .unset, .unset, .val (.int x3)]) (St' := [.int (6 : Int32), .int x3]) (σ' := σ) [.iload_n 3, .bipush 6] (by decide +kernel) hc hT hF wi (by exact rfl) ?_
    refine am_icmp_ge (o := 14) (pc1 := 24) (by decide +kernel) hc (fun hq => ?_) (fun hq => ?_)
    · refine am_blk (pc' := 15) (Ls' := [.val (.ref 0), .unset, .unset, .val (.int x3)]) (St' := [.int x3, .ref 0]) (σ' := σ) [.aload_n 0, .iload_n 3] (by decide +kernel) hc hT hF wi (by exact rfl) ?_
      refine am_callP_V (W0 := 0) (argsL := [.int x3]) (rest := []) rfl (lk_C_196 hw) rfl wi (by decide +kernel) hc (SubW.refl _) rfl (by show arity "(I)V" 1 = true; decide +kernel) (ok_c_foldLevel hw x3 _) rfl ⟨by decide, by decide, Nat.le_of_eq rfl, rfl, rfl, by decide, by decide⟩ (fun r1 hr => ?_)
      refine am_blk (pc' := 7) (Ls' := [.val (.ref 0), .unset, .unset, .val (.int (x3 + (1 : Int32)))]) (St' := []) (σ' := r1) [.iinc 3 1, .goto (-14)] (by decide +kernel) hc hT hF wi (by exact rfl) ?_
      exact am_wk (Ls' := [.val (.ref 0), .unset, .unset, .val (.int (x3 + (1 : Int32)))]) (by simp [wkL]) (ih (x3 + (1 : Int32)) r1)
    · refine am_blk (pc' := 29) (Ls' := [.val (.ref 0), .unset, .unset, .val (.int x3)]) (St' := [.int (0 : Int32), .ref 10]) (σ' := σ) [.aload_n 0, .getfield 39, .iconst 0] (by decide +kernel) hc hT hF wi (by exact rfl) ?_
      refine am_laload (by decide +kernel) hc rfl (fun hb0 => ?_)
      exact am_retJ (by decide +kernel) hc (by decide) (by decide) (fun h W O => ⟨rfl, W, O⟩)
def c_compose (y1 : Int64) (σ : Sg) : Option (Int64 × Sg) :=
  (c_loadLeaves y1 σ).bind fun r1 => c_compose_7 400 (0 : Int32) r1
set_option maxRecDepth 65536 in
set_option maxHeartbeats 4000000 in
theorem ok_c_compose (hw : WH a0 Z) (y1 : Int64) (σ : Sg) : ∀ x, c_compose y1 σ = some x → Con l Z "BoolUnifierY" fsC (⟨"BoolUnifierY", "compose", "(J)J"⟩ : MethodName) prog_1_method_47_code 4 (some .long) rm_c_compose wC [.ref 0, .long y1] σ (fJ x).1 (fJ x).2 := by
  refine am_con pnC ?_
  intro p e s m below meth c A n0 h0 hc
  have hT := tabC hw "compose"
  have hF := fsokC hw
  have wi := wiC hw
  unfold c_compose
  refine am_blk (pc' := 2) (Ls' := [.val (.ref 0), .val (.long y1), .second, .unset]) (St' := [.long y1, .ref 0]) (σ' := σ) [.aload_n 0, .lload_n 1] (by decide +kernel) hc hT hF wi (by exact rfl) ?_
  refine am_callP_V (W0 := 0) (argsL := [.long y1]) (rest := []) rfl (lk_C_192 hw) rfl wi (by decide +kernel) hc (SubW.refl _) rfl (by show arity "(J)V" 1 = true; decide +kernel) (ok_c_loadLeaves hw y1 _) rfl ⟨by decide, by decide, Nat.le_of_eq rfl, rfl, rfl, by decide, by decide⟩ (fun r1 hr => ?_)
  refine am_blk (pc' := 7) (Ls' := [.val (.ref 0), .val (.long y1), .second, .val (.int (0 : Int32))]) (St' := []) (σ' := r1) [.iconst 0, .istore_n 3] (by decide +kernel) hc hT hF wi (by exact rfl) ?_
  exact am_wk (Ls' := [.val (.ref 0), .unset, .unset, .val (.int (0 : Int32))]) (by simp [wkL]) (okc_c_compose_7 hw hc 400 (0 : Int32) r1)
abbrev rm_c_solveStep : Room := { frames := 3, cells := 0, slots := 0, locals := 49 }
def c_solveStep (x1 : Int32) (σ : Sg) : Option Sg :=
  if x1 < 0 then (some σ) else (if x1 < (6 : Int32) then (if inb x1 6 = true then ((c_validVar (gi σ 7 (nx x1)) σ).bind fun r1 => if r1.1 = 0 then (some r1.2) else ((c_varTable (gi σ 7 (nx x1)) r1.2).bind fun r2 => (c_compose ((gj r1.2 8 (nx x1)) ||| (r2.1 &&& ((gj r1.2 9 (nx x1)) ^^^ (-1 : Int64)))) r2.2).bind fun r3 => if inb (gi σ 7 (nx x1)) 6 = true then (some (sj r3.2 3 (nx (gi σ 7 (nx x1))) r3.1)) else none)) else none) else (some σ))
set_option maxRecDepth 65536 in
set_option maxHeartbeats 4000000 in
theorem ok_c_solveStep (hw : WH a0 Z) (x1 : Int32) (σ : Sg) : ∀ x, c_solveStep x1 σ = some x → Con l Z "BoolUnifierY" fsC (⟨"BoolUnifierY", "solveStep", "(I)V"⟩ : MethodName) prog_1_method_46_code 13 none rm_c_solveStep wC [.ref 0, .int x1] σ (fV x).1 (fV x).2 := by
  refine am_con pnC ?_
  intro p e s m below meth c A n0 h0 hc
  have hT := tabC hw "solveStep"
  have hF := fsokC hw
  have wi := wiC hw
  unfold c_solveStep
  refine am_blk (pc' := 1) (Ls' := [.val (.ref 0), .val (.int x1), .unset, .unset, .unset, .unset, .unset, .unset, .unset, .unset, .unset, .unset, .unset]) (St' := [.int x1]) (σ' := σ) [.iload_n 1] (by decide +kernel) hc hT hF wi (by exact rfl) ?_
  refine am_if_lt (o := 9) (pc1 := 10) (by decide +kernel) hc (fun hq => ?_) (fun hq => ?_)
  · exact am_retV (by decide +kernel) hc (by decide) (by decide) (fun h W O => ⟨rfl, W, O⟩)
  · refine am_blk (pc' := 7) (Ls' := [.val (.ref 0), .val (.int x1), .unset, .unset, .unset, .unset, .unset, .unset, .unset, .unset, .unset, .unset, .unset]) (St' := [.int (6 : Int32), .int x1]) (σ' := σ) [.iload_n 1, .bipush 6] (by decide +kernel) hc hT hF wi (by exact rfl) ?_
    refine am_icmp_lt (o := 4) (pc1 := 11) (by decide +kernel) hc (fun hq => ?_) (fun hq => ?_)
    · refine am_blk (pc' := 16) (Ls' := [.val (.ref 0), .val (.int x1), .unset, .unset, .unset, .unset, .unset, .unset, .unset, .unset, .unset, .unset, .unset]) (St' := [.int x1, .ref 7]) (σ' := σ) [.aload_n 0, .getfield 30, .iload_n 1] (by decide +kernel) hc hT hF wi (by exact rfl) ?_
      refine am_iaload (by decide +kernel) hc rfl (fun hb0 => ?_)
      refine am_blk (pc' := 20) (Ls' := [.val (.ref 0), .val (.int x1), .val (.int (gi σ 7 (nx x1))), .unset, .unset, .unset, .unset, .unset, .unset, .unset, .unset, .unset, .unset]) (St' := [.int (gi σ 7 (nx x1)), .ref 0]) (σ' := σ) [.istore_n 2, .aload_n 0, .iload_n 2] (by decide +kernel) hc hT hF wi (by exact rfl) ?_
      refine am_callP_I (W0 := 0) (argsL := [.int (gi σ 7 (nx x1))]) (rest := []) rfl (lk_C_124 hw) rfl wi (by decide +kernel) hc (SubW.refl _) rfl (by show arity "(I)Z" 1 = true; decide +kernel) (ok_c_validVar hw (gi σ 7 (nx x1)) _) rfl ⟨by decide, by decide, Nat.le_of_eq rfl, rfl, rfl, by decide, by decide⟩ (fun r1 hr => ?_)
      refine am_if_ne (o := 4) (pc1 := 27) (by decide +kernel) hc (fun hq => ?_) (fun hq => ?_)
      · exact am_retV (by decide +kernel) hc (by decide) (by decide) (fun h W O => ⟨rfl, W, O⟩)
      · refine am_blk (pc' := 32) (Ls' := [.val (.ref 0), .val (.int x1), .val (.int (gi σ 7 (nx x1))), .unset, .unset, .unset, .unset, .unset, .unset, .unset, .unset, .unset, .unset]) (St' := [.int x1, .ref 8]) (σ' := r1.2) [.aload_n 0, .getfield 33, .iload_n 1] (by decide +kernel) hc hT hF wi (by exact rfl) ?_
        refine am_laload_k hb0 (by decide +kernel) hc rfl ?_
        refine am_blk (pc' := 39) (Ls' := [.val (.ref 0), .val (.int x1), .val (.int (gi σ 7 (nx x1))), .val (.long (gj r1.2 8 (nx x1))), .second, .unset, .unset, .unset, .unset, .unset, .unset, .unset, .unset]) (St' := [.int x1, .ref 9]) (σ' := r1.2) [.lstore_n 3, .aload_n 0, .getfield 36, .iload_n 1] (by decide +kernel) hc hT hF wi (by exact rfl) ?_
        refine am_laload_k hb0 (by decide +kernel) hc rfl ?_
        refine am_blk (pc' := 44) (Ls' := [.val (.ref 0), .val (.int x1), .val (.int (gi σ 7 (nx x1))), .val (.long (gj r1.2 8 (nx x1))), .second, .val (.long (gj r1.2 9 (nx x1))), .second, .unset, .unset, .unset, .unset, .unset, .unset]) (St' := [.int (gi σ 7 (nx x1)), .ref 0]) (σ' := r1.2) [.lstore 5, .aload_n 0, .iload_n 2] (by decide +kernel) hc hT hF wi (by exact rfl) ?_
        refine am_callP_J (W0 := 0) (argsL := [.int (gi σ 7 (nx x1))]) (rest := []) rfl (lk_C_137 hw) rfl wi (by decide +kernel) hc (SubW.refl _) rfl (by show arity "(I)J" 1 = true; decide +kernel) (ok_c_varTable hw (gi σ 7 (nx x1)) _) rfl ⟨by decide, by decide, Nat.le_of_eq rfl, rfl, rfl, by decide, by decide⟩ (fun r2 hr => ?_)
        refine am_blk (pc' := 62) (Ls' := [.val (.ref 0), .val (.int x1), .val (.int (gi σ 7 (nx x1))), .val (.long (gj r1.2 8 (nx x1))), .second, .val (.long (gj r1.2 9 (nx x1))), .second, .val (.long r2.1), .second, .val (.long ((gj r1.2 8 (nx x1)) ||| (r2.1 &&& ((gj r1.2 9 (nx x1)) ^^^ (-1 : Int64))))), .second, .unset, .unset]) (St' := []) (σ' := r2.2) [.lstore 7, .lload_n 3, .lload 7, .lload 5, .ldc2_w 155, .lxor, .land, .lor, .lstore 9] (by decide +kernel) hc hT hF wi (by exact rfl) ?_
        refine am_blk (pc' := 65) (Ls' := [.val (.ref 0), .val (.int x1), .val (.int (gi σ 7 (nx x1))), .val (.long (gj r1.2 8 (nx x1))), .second, .val (.long (gj r1.2 9 (nx x1))), .second, .val (.long r2.1), .second, .val (.long ((gj r1.2 8 (nx x1)) ||| (r2.1 &&& ((gj r1.2 9 (nx x1)) ^^^ (-1 : Int64))))), .second, .unset, .unset]) (St' := [.long ((gj r1.2 8 (nx x1)) ||| (r2.1 &&& ((gj r1.2 9 (nx x1)) ^^^ (-1 : Int64)))), .ref 0]) (σ' := r2.2) [.aload_n 0, .lload 9] (by decide +kernel) hc hT hF wi (by exact rfl) ?_
        refine am_callP_J (W0 := 0) (argsL := [.long ((gj r1.2 8 (nx x1)) ||| (r2.1 &&& ((gj r1.2 9 (nx x1)) ^^^ (-1 : Int64))))]) (rest := []) rfl (lk_C_130 hw) rfl wi (by decide +kernel) hc (SubW.refl _) rfl (by show arity "(J)J" 1 = true; decide +kernel) (ok_c_compose hw ((gj r1.2 8 (nx x1)) ||| (r2.1 &&& ((gj r1.2 9 (nx x1)) ^^^ (-1 : Int64)))) _) rfl ⟨by decide, by decide, Nat.le_of_eq rfl, rfl, rfl, by decide, by decide⟩ (fun r3 hr => ?_)
        refine am_blk (pc' := 77) (Ls' := [.val (.ref 0), .val (.int x1), .val (.int (gi σ 7 (nx x1))), .val (.long (gj r1.2 8 (nx x1))), .second, .val (.long (gj r1.2 9 (nx x1))), .second, .val (.long r2.1), .second, .val (.long ((gj r1.2 8 (nx x1)) ||| (r2.1 &&& ((gj r1.2 9 (nx x1)) ^^^ (-1 : Int64))))), .second, .val (.long r3.1), .second]) (St' := [.long r3.1, .int (gi σ 7 (nx x1)), .ref 3]) (σ' := r3.2) [.lstore 11, .aload_n 0, .getfield 17, .iload_n 2, .lload 11] (by decide +kernel) hc hT hF wi (by exact rfl) ?_
        refine am_lastore (y := r3.1) rfl (by decide +kernel) hc rfl (fun hb1 => ?_)
        exact am_retV (by decide +kernel) hc (by decide) (by decide) (fun h W O => ⟨rfl, W, O⟩)
    · exact am_retV (by decide +kernel) hc (by decide) (by decide) (fun h W O => ⟨rfl, W, O⟩)
abbrev rm_c_backSubstitute : Room := { frames := 4, cells := 0, slots := 0, locals := 73 }
def c_backSubstitute_19 (k2 : Int32 → Sg → Option Sg) (x1 : Int32) (σ : Sg) : Option Sg :=
  k2 (x1 + (-1 : Int32)) σ
set_option maxRecDepth 65536 in
set_option maxHeartbeats 4000000 in
theorem okc_c_backSubstitute_19 (hw : WH a0 Z) (hc : Cx p s m meth c Z "BoolUnifierY" prog_1_method_45_code 2 none "backSubstitute") (k2 : Int32 → Sg → Option Sg) (hk2 : ∀ (x1 : Int32) (σ : Sg), OkR p l e rm_c_backSubstitute s m args below meth c Z "BoolUnifierY" fsC n0 h0 (FM Z "BoolUnifierY" fsC A wC h0 fV) A wC 0 0 2 [.val (.ref 0), .val (.int x1)] [] σ (k2 x1 σ)) (x1 : Int32) (σ : Sg) : OkR p l e rm_c_backSubstitute s m args below meth c Z "BoolUnifierY" fsC n0 h0 (FM Z "BoolUnifierY" fsC A wC h0 fV) A wC 0 0 19 [.val (.ref 0), .val (.int x1)] [] σ (c_backSubstitute_19 k2 x1 σ) := by
  have hT := tabC hw "backSubstitute"
  have hF := fsokC hw
  have wi := wiC hw
  unfold c_backSubstitute_19
  refine am_blk (pc' := 2) (Ls' := [.val (.ref 0), .val (.int (x1 + (-1 : Int32)))]) (St' := []) (σ' := σ) [.iinc 1 (-1), .goto (-20)] (by decide +kernel) hc hT hF wi (by exact rfl) ?_
  exact am_wk (Ls' := [.val (.ref 0), .val (.int (x1 + (-1 : Int32)))]) (by simp [wkL]) (hk2 (x1 + (-1 : Int32)) σ)
def c_backSubstitute_2 : Nat → Int32 → Sg → Option Sg
  | 0, _, _ => none
  | fuel + 1, x1, σ =>
    if x1 < 0 then (some σ) else (if x1 < (gi σ 0 16) then ((c_solveStep x1 σ).bind fun r1 => c_backSubstitute_19 (c_backSubstitute_2 fuel) x1 r1) else (c_backSubstitute_19 (c_backSubstitute_2 fuel) x1 σ))
set_option maxRecDepth 65536 in
set_option maxHeartbeats 4000000 in
theorem okc_c_backSubstitute_2 (hw : WH a0 Z) (hc : Cx p s m meth c Z "BoolUnifierY" prog_1_method_45_code 2 none "backSubstitute") : ∀ (fuel : Nat) (x1 : Int32) (σ : Sg), OkR p l e rm_c_backSubstitute s m args below meth c Z "BoolUnifierY" fsC n0 h0 (FM Z "BoolUnifierY" fsC A wC h0 fV) A wC 0 0 2 [.val (.ref 0), .val (.int x1)] [] σ (c_backSubstitute_2 fuel x1 σ) := by
  have hT := tabC hw "backSubstitute"
  have hF := fsokC hw
  have wi := wiC hw
  intro fuel
  induction fuel with
  | zero => intro x1 σ; exact am_none rfl
  | succ fuel ih =>
    intro x1 σ
    rw [c_backSubstitute_2]
    refine am_blk (pc' := 3) (Ls' := [.val (.ref 0), .val (.int x1)]) (St' := [.int x1]) (σ' := σ) [.iload_n 1] (by decide +kernel) hc hT hF wi (by exact rfl) ?_
    refine am_if_lt (o := 22) (pc1 := 25) (by decide +kernel) hc (fun hq => ?_) (fun hq => ?_)
    · exact am_retV (by decide +kernel) hc (by decide) (by decide) (fun h W O => ⟨rfl, W, O⟩)
    · refine am_blk (pc' := 11) (Ls' := [.val (.ref 0), .val (.int x1)]) (St' := [.int (gi σ 0 16), .int x1]) (σ' := σ) [.iload_n 1, .aload_n 0, .getfield 134] (by decide +kernel) hc hT hF wi (by exact rfl) ?_
      refine am_icmp_ge (o := 8) (pc1 := 19) (by decide +kernel) hc (fun hq => ?_) (fun hq => ?_)
      · refine am_blk (pc' := 16) (Ls' := [.val (.ref 0), .val (.int x1)]) (St' := [.int x1, .ref 0]) (σ' := σ) [.aload_n 0, .iload_n 1] (by decide +kernel) hc hT hF wi (by exact rfl) ?_
        refine am_callP_V (W0 := 0) (argsL := [.int x1]) (rest := []) rfl (lk_C_189 hw) rfl wi (by decide +kernel) hc (SubW.refl _) rfl (by show arity "(I)V" 1 = true; decide +kernel) (ok_c_solveStep hw x1 _) rfl ⟨by decide, by decide, Nat.le_of_eq rfl, rfl, rfl, by decide, by decide⟩ (fun r1 hr => ?_)
        exact am_wk (Ls' := [.val (.ref 0), .val (.int x1)]) (by simp [wkL]) (okc_c_backSubstitute_19 hw hc _ ih x1 r1)
      · exact am_wk (Ls' := [.val (.ref 0), .val (.int x1)]) (by simp [wkL]) (okc_c_backSubstitute_19 hw hc _ ih x1 σ)
def c_backSubstitute (σ : Sg) : Option Sg :=
  c_backSubstitute_2 400 (5 : Int32) σ
set_option maxRecDepth 65536 in
set_option maxHeartbeats 4000000 in
theorem ok_c_backSubstitute (hw : WH a0 Z) (σ : Sg) : ∀ x, c_backSubstitute σ = some x → Con l Z "BoolUnifierY" fsC (⟨"BoolUnifierY", "backSubstitute", "()V"⟩ : MethodName) prog_1_method_45_code 2 none rm_c_backSubstitute wC [.ref 0] σ (fV x).1 (fV x).2 := by
  refine am_con pnC ?_
  intro p e s m below meth c A n0 h0 hc
  have hT := tabC hw "backSubstitute"
  have hF := fsokC hw
  have wi := wiC hw
  unfold c_backSubstitute
  refine am_blk (pc' := 2) (Ls' := [.val (.ref 0), .val (.int (5 : Int32))]) (St' := []) (σ' := σ) [.iconst 5, .istore_n 1] (by decide +kernel) hc hT hF wi (by exact rfl) ?_
  exact am_wk (Ls' := [.val (.ref 0), .val (.int (5 : Int32))]) (by simp [wkL]) (okc_c_backSubstitute_2 hw hc 400 (5 : Int32) σ)
abbrev rm_c_solve : Room := { frames := 7, cells := 0, slots := 0, locals := 104 }
def c_solve_95 (σ : Sg) : Option (Int32 × Sg) :=
  (c_reprintAll σ).bind fun r1 => some (gi r1 0 13, r1)
set_option maxRecDepth 65536 in
set_option maxHeartbeats 4000000 in
theorem okc_c_solve_95 (hw : WH a0 Z) (hc : Cx p s m meth c Z "BoolUnifierY" prog_1_method_9_code 11 (some .int) "solve") (σ : Sg) : OkR p l e rm_c_solve s m args below meth c Z "BoolUnifierY" fsC n0 h0 (FM Z "BoolUnifierY" fsC A wC h0 fI) A wC 0 0 95 [.val (.ref 0), .unset, .unset, .unset, .unset, .unset, .unset, .unset, .unset, .unset, .unset] [] σ (c_solve_95 σ) := by
  have hT := tabC hw "solve"
  have hF := fsokC hw
  have wi := wiC hw
  unfold c_solve_95
  refine am_blk (pc' := 96) (Ls' := [.val (.ref 0), .unset, .unset, .unset, .unset, .unset, .unset, .unset, .unset, .unset, .unset]) (St' := [.ref 0]) (σ' := σ) [.aload_n 0] (by decide +kernel) hc hT hF wi (by exact rfl) ?_
  refine am_callP_V (W0 := 0) (argsL := []) (rest := []) rfl (lk_C_121 hw) rfl wi (by decide +kernel) hc (SubW.refl _) rfl (by show arity "()V" 0 = true; decide +kernel) (ok_c_reprintAll hw _) rfl ⟨by decide, by decide, Nat.le_of_eq rfl, rfl, rfl, by decide, by decide⟩ (fun r1 hr => ?_)
  refine am_blk (pc' := 103) (Ls' := [.val (.ref 0), .unset, .unset, .unset, .unset, .unset, .unset, .unset, .unset, .unset, .unset]) (St' := [.int (gi r1 0 13)]) (σ' := r1) [.aload_n 0, .getfield 118] (by decide +kernel) hc hT hF wi (by exact rfl) ?_
  exact am_retI (by decide +kernel) hc (by decide) (by decide) (fun h W O => ⟨rfl, W, O⟩)
def c_solve (x1 : Int32) (σ : Sg) : Option (Int32 × Sg) :=
  (c_isComplete (0 : Int32) σ).bind fun r1 => if r1.1 = 0 then (some ((-1 : Int32), r1.2)) else ((c_isComplete (1 : Int32) r1.2).bind fun r2 => if r2.1 = 0 then (some ((-1 : Int32), r2.2)) else ((c_termTable (0 : Int32) r2.2).bind fun r3 => (c_termTable (1 : Int32) r3.2).bind fun r4 => (c_eliminate (r3.1 ^^^ r4.1) (x1 &&& (63 : Int32)) r4.2).bind fun r5 => (c_setIdentity (sj (si r5.2 0 14 (x1 &&& (63 : Int32))) 0 15 r5.1)).bind fun r6 => if (XT.cmpL r5.1 (0 : Int64)) = 0 then ((c_backSubstitute r6).bind fun r7 => c_solve_95 (si r7 0 13 (1 : Int32))) else (c_solve_95 (si r6 0 13 (2 : Int32)))))
set_option maxRecDepth 65536 in
set_option maxHeartbeats 4000000 in
theorem ok_c_solve (hw : WH a0 Z) (x1 : Int32) (σ : Sg) : ∀ x, c_solve x1 σ = some x → Con l Z "BoolUnifierY" fsC (⟨"BoolUnifierY", "solve", "(I)I"⟩ : MethodName) prog_1_method_9_code 11 (some .int) rm_c_solve wC [.ref 0, .int x1] σ (fI x).1 (fI x).2 := by
  refine am_con pnC ?_
  intro p e s m below meth c A n0 h0 hc
  have hT := tabC hw "solve"
  have hF := fsokC hw
  have wi := wiC hw
  unfold c_solve
  refine am_blk (pc' := 2) (Ls' := [.val (.ref 0), .val (.int x1), .unset, .unset, .unset, .unset, .unset, .unset, .unset, .unset, .unset]) (St' := [.int (0 : Int32), .ref 0]) (σ' := σ) [.aload_n 0, .iconst 0] (by decide +kernel) hc hT hF wi (by exact rfl) ?_
  refine am_callP_I (W0 := 0) (argsL := [.int (0 : Int32)]) (rest := []) rfl (lk_C_90 hw) rfl wi (by decide +kernel) hc (SubW.refl _) rfl (by show arity "(I)Z" 1 = true; decide +kernel) (ok_c_isComplete hw (0 : Int32) _) rfl ⟨by decide, by decide, Nat.le_of_eq rfl, rfl, rfl, by decide, by decide⟩ (fun r1 hr => ?_)
  refine am_if_ne (o := 5) (pc1 := 10) (by decide +kernel) hc (fun hq => ?_) (fun hq => ?_)
  · refine am_blk (pc' := 9) (Ls' := [.val (.ref 0), .val (.int x1), .unset, .unset, .unset, .unset, .unset, .unset, .unset, .unset, .unset]) (St' := [.int (-1 : Int32)]) (σ' := r1.2) [.iconst (-1)] (by decide +kernel) hc hT hF wi (by exact rfl) ?_
    exact am_retI (by decide +kernel) hc (by decide) (by decide) (fun h W O => ⟨rfl, W, O⟩)
  · refine am_blk (pc' := 12) (Ls' := [.val (.ref 0), .val (.int x1), .unset, .unset, .unset, .unset, .unset, .unset, .unset, .unset, .unset]) (St' := [.int (1 : Int32), .ref 0]) (σ' := r1.2) [.aload_n 0, .iconst 1] (by decide +kernel) hc hT hF wi (by exact rfl) ?_
    refine am_callP_I (W0 := 0) (argsL := [.int (1 : Int32)]) (rest := []) rfl (lk_C_90 hw) rfl wi (by decide +kernel) hc (SubW.refl _) rfl (by show arity "(I)Z" 1 = true; decide +kernel) (ok_c_isComplete hw (1 : Int32) _) rfl ⟨by decide, by decide, Nat.le_of_eq rfl, rfl, rfl, by decide, by decide⟩ (fun r2 hr => ?_)
    refine am_if_ne (o := 5) (pc1 := 20) (by decide +kernel) hc (fun hq => ?_) (fun hq => ?_)
    · refine am_blk (pc' := 19) (Ls' := [.val (.ref 0), .val (.int x1), .unset, .unset, .unset, .unset, .unset, .unset, .unset, .unset, .unset]) (St' := [.int (-1 : Int32)]) (σ' := r2.2) [.iconst (-1)] (by decide +kernel) hc hT hF wi (by exact rfl) ?_
      exact am_retI (by decide +kernel) hc (by decide) (by decide) (fun h W O => ⟨rfl, W, O⟩)
    · refine am_blk (pc' := 22) (Ls' := [.val (.ref 0), .val (.int x1), .unset, .unset, .unset, .unset, .unset, .unset, .unset, .unset, .unset]) (St' := [.int (0 : Int32), .ref 0]) (σ' := r2.2) [.aload_n 0, .iconst 0] (by decide +kernel) hc hT hF wi (by exact rfl) ?_
      refine am_callV_J (W0 := 0) (argsL := [.int (0 : Int32)]) (rest := []) rfl (lk_C_97 hw) rfl (by decide +kernel) hc (SubW.refl _) rfl (by show arity "(I)J" 1 = true; decide +kernel) (ok_c_termTable hw (0 : Int32) _) rfl ⟨by decide, by decide, Nat.le_of_eq rfl, rfl, rfl, by decide, by decide⟩ (fun r3 hr => ?_)
      refine am_blk (pc' := 28) (Ls' := [.val (.ref 0), .val (.int x1), .val (.long r3.1), .second, .unset, .unset, .unset, .unset, .unset, .unset, .unset]) (St' := [.int (1 : Int32), .ref 0]) (σ' := r3.2) [.lstore_n 2, .aload_n 0, .iconst 1] (by decide +kernel) hc hT hF wi (by exact rfl) ?_
      refine am_callV_J (W0 := 0) (argsL := [.int (1 : Int32)]) (rest := []) rfl (lk_C_97 hw) rfl (by decide +kernel) hc (SubW.refl _) rfl (by show arity "(I)J" 1 = true; decide +kernel) (ok_c_termTable hw (1 : Int32) _) rfl ⟨by decide, by decide, Nat.le_of_eq rfl, rfl, rfl, by decide, by decide⟩ (fun r4 hr => ?_)
      refine am_blk (pc' := 39) (Ls' := [.val (.ref 0), .val (.int x1), .val (.long r3.1), .second, .val (.long r4.1), .second, .val (.long (r3.1 ^^^ r4.1)), .second, .unset, .unset, .unset]) (St' := []) (σ' := r4.2) [.lstore 4, .lload_n 2, .lload 4, .lxor, .lstore 6] (by decide +kernel) hc hT hF wi (by exact rfl) ?_
      refine am_blk (pc' := 45) (Ls' := [.val (.ref 0), .val (.int x1), .val (.long r3.1), .second, .val (.long r4.1), .second, .val (.long (r3.1 ^^^ r4.1)), .second, .val (.int (x1 &&& (63 : Int32))), .unset, .unset]) (St' := []) (σ' := r4.2) [.iload_n 1, .bipush 63, .iand, .istore 8] (by decide +kernel) hc hT hF wi (by exact rfl) ?_
      refine am_blk (pc' := 50) (Ls' := [.val (.ref 0), .val (.int x1), .val (.long r3.1), .second, .val (.long r4.1), .second, .val (.long (r3.1 ^^^ r4.1)), .second, .val (.int (x1 &&& (63 : Int32))), .unset, .unset]) (St' := [.int (x1 &&& (63 : Int32)), .long (r3.1 ^^^ r4.1), .ref 0]) (σ' := r4.2) [.aload_n 0, .lload 6, .iload 8] (by decide +kernel) hc hT hF wi (by exact rfl) ?_
      refine am_callP_J (W0 := 0) (argsL := [.long (r3.1 ^^^ r4.1), .int (x1 &&& (63 : Int32))]) (rest := []) rfl (lk_C_101 hw) rfl wi (by decide +kernel) hc (SubW.refl _) rfl (by show arity "(JI)J" 2 = true; decide +kernel) (ok_c_eliminate hw (r3.1 ^^^ r4.1) (x1 &&& (63 : Int32)) _) rfl ⟨by decide, by decide, Nat.le_of_eq rfl, rfl, rfl, by decide, by decide⟩ (fun r5 hr => ?_)
      refine am_blk (pc' := 68) (Ls' := [.val (.ref 0), .val (.int x1), .val (.long r3.1), .second, .val (.long r4.1), .second, .val (.long (r3.1 ^^^ r4.1)), .second, .val (.int (x1 &&& (63 : Int32))), .val (.long r5.1), .second]) (St' := [.ref 0]) (σ' := sj (si r5.2 0 14 (x1 &&& (63 : Int32))) 0 15 r5.1) [.lstore 9, .aload_n 0, .iload 8, .putfield 105, .aload_n 0, .lload 9, .putfield 108, .aload_n 0] (by decide +kernel) hc hT hF wi (by exact rfl) ?_
      refine am_callP_V (W0 := 0) (argsL := []) (rest := []) rfl (lk_C_112 hw) rfl wi (by decide +kernel) hc (SubW.refl _) rfl (by show arity "()V" 0 = true; decide +kernel) (ok_c_setIdentity hw _) rfl ⟨by decide, by decide, Nat.le_of_eq rfl, rfl, rfl, by decide, by decide⟩ (fun r6 hr => ?_)
      refine am_blk (pc' := 75) (Ls' := [.val (.ref 0), .val (.int x1), .val (.long r3.1), .second, .val (.long r4.1), .second, .val (.long (r3.1 ^^^ r4.1)), .second, .val (.int (x1 &&& (63 : Int32))), .val (.long r5.1), .second]) (St' := [.int (XT.cmpL r5.1 (0 : Int64))]) (σ' := r6) [.lload 9, .lconst 0, .lcmp] (by decide +kernel) hc hT hF wi (by exact rfl) ?_
      refine am_if_ne (o := 15) (pc1 := 90) (by decide +kernel) hc (fun hq => ?_) (fun hq => ?_)
      · refine am_blk (pc' := 79) (Ls' := [.val (.ref 0), .val (.int x1), .val (.long r3.1), .second, .val (.long r4.1), .second, .val (.long (r3.1 ^^^ r4.1)), .second, .val (.int (x1 &&& (63 : Int32))), .val (.long r5.1), .second]) (St' := [.ref 0]) (σ' := r6) [.aload_n 0] (by decide +kernel) hc hT hF wi (by exact rfl) ?_
        refine am_callP_V (W0 := 0) (argsL := []) (rest := []) rfl (lk_C_115 hw) rfl wi (by decide +kernel) hc (SubW.refl _) rfl (by show arity "()V" 0 = true; decide +kernel) (ok_c_backSubstitute hw _) rfl ⟨by decide, by decide, Nat.le_of_eq rfl, rfl, rfl, by decide, by decide⟩ (fun r7 hr => ?_)
        refine am_blk (pc' := 95) (Ls' := [.val (.ref 0), .val (.int x1), .val (.long r3.1), .second, .val (.long r4.1), .second, .val (.long (r3.1 ^^^ r4.1)), .second, .val (.int (x1 &&& (63 : Int32))), .val (.long r5.1), .second]) (St' := []) (σ' := si r7 0 13 (1 : Int32)) [.aload_n 0, .iconst 1, .putfield 118, .goto 8] (by decide +kernel) hc hT hF wi (by exact rfl) ?_
        exact am_wk (Ls' := [.val (.ref 0), .unset, .unset, .unset, .unset, .unset, .unset, .unset, .unset, .unset, .unset]) (by simp [wkL]) (okc_c_solve_95 hw hc (si r7 0 13 (1 : Int32)))
      · refine am_blk (pc' := 95) (Ls' := [.val (.ref 0), .val (.int x1), .val (.long r3.1), .second, .val (.long r4.1), .second, .val (.long (r3.1 ^^^ r4.1)), .second, .val (.int (x1 &&& (63 : Int32))), .val (.long r5.1), .second]) (St' := []) (σ' := si r6 0 13 (2 : Int32)) [.aload_n 0, .iconst 2, .putfield 118] (by decide +kernel) hc hT hF wi (by exact rfl) ?_
        exact am_wk (Ls' := [.val (.ref 0), .unset, .unset, .unset, .unset, .unset, .unset, .unset, .unset, .unset, .unset]) (by simp [wkL]) (okc_c_solve_95 hw hc (si r6 0 13 (2 : Int32)))
abbrev rm_q_law : Room := room_1
def q_law_632 (sn : Nat) (sf : Nat → Int32) (k88 : Int32 → Int32 → Int32 → Int32 → Int32 → Int32 → Int64 → Int32 → Sg → Option (Int32 × Sg)) (x1 : Int32) (x3 : Int32) (x5 : Int32) (x6 : Int32) (x7 : Int32) (x8 : Int32) (y9 : Int64) (x11 : Int32) (σ : Sg) : Option (Int32 × Sg) :=
  (q_check x5 x6 x7 x8 y9 σ).bind fun r1 => if r1.1 = 0 then (some ((0 : Int32), r1.2)) else (k88 x1 x3 x5 x6 x7 x8 y9 (x11 + (3 : Int32)) r1.2)
set_option maxRecDepth 65536 in
set_option maxHeartbeats 4000000 in
theorem okc_q_law_632 (hw : WH a0 Z) (hc : Cx p s m meth c Z "BoolUnifierYL6" code 21 (some .boolean) "law") (hw0 : Rd w0 12) (hsc : w0 99 = some (.inr (.int, sn, some sf))) (hn : n0 ≤ h0.size) (k88 : Int32 → Int32 → Int32 → Int32 → Int32 → Int32 → Int64 → Int32 → Sg → Option (Int32 × Sg)) (hk88 : ∀ (x1 : Int32) (x3 : Int32) (x5 : Int32) (x6 : Int32) (x7 : Int32) (x8 : Int32) (y9 : Int64) (x11 : Int32) (σ : Sg), OkR p l e rm_q_law s m args below meth c Z "BoolUnifierY" fsC n0 h0 FL A (wF arrsC w0) 13 2715 88 [.val (.ref 99), .val (.int x1), .unset, .val (.int x3), .val (.ref 0), .val (.int x5), .val (.int x6), .val (.int x7), .val (.int x8), .val (.long y9), .unset, .val (.int x11), .unset, .unset, .unset, .unset, .unset, .unset, .unset, .unset, .unset] [] σ (k88 x1 x3 x5 x6 x7 x8 y9 x11 σ)) (x1 : Int32) (x3 : Int32) (x5 : Int32) (x6 : Int32) (x7 : Int32) (x8 : Int32) (y9 : Int64) (x11 : Int32) (σ : Sg) : OkR p l e rm_q_law s m args below meth c Z "BoolUnifierY" fsC n0 h0 FL A (wF arrsC w0) 13 2715 632 [.val (.ref 99), .val (.int x1), .unset, .val (.int x3), .val (.ref 0), .val (.int x5), .val (.int x6), .val (.int x7), .val (.int x8), .val (.long y9), .unset, .val (.int x11), .unset, .unset, .unset, .unset, .unset, .unset, .unset, .unset, .unset] [] σ (q_law_632 sn sf k88 x1 x3 x5 x6 x7 x8 y9 x11 σ) := by
  have hT := tabL hw "law"
  have hF := fsokC hw
  have wi := wiC hw
  unfold q_law_632
  refine am_blk (pc' := 644) (Ls' := [.val (.ref 99), .val (.int x1), .unset, .val (.int x3), .val (.ref 0), .val (.int x5), .val (.int x6), .val (.int x7), .val (.int x8), .val (.long y9), .unset, .val (.int x11), .unset, .unset, .unset, .unset, .unset, .unset, .unset, .unset, .unset]) (St' := [.long y9, .int x8, .int x7, .int x6, .int x5, .ref 0]) (σ' := σ) [.aload 4, .iload 5, .iload 6, .iload 7, .iload 8, .lload 9] (by decide +kernel) hc hT hF wi (by exact rfl) ?_
  refine am_callS_I (W0 := 0) (argsL := [.ref 0, .int x5, .int x6, .int x7, .int x8, .long y9]) (rest := []) (lk_L_12 hw) (by decide +kernel) hc (subF hw0) rfl (by show arity "(LBoolUnifierY;IIIIJ)Z" 6 = true; decide +kernel) (ok_q_check hw x5 x6 x7 x8 y9 _) rfl ⟨by decide, by decide, Nat.le_of_eq rfl, rfl, rfl, by decide, by decide⟩ (fun r1 hr => ?_)
  refine am_if_ne (o := 5) (pc1 := 652) (by decide +kernel) hc (fun hq => ?_) (fun hq => ?_)
  · refine am_blk (pc' := 651) (Ls' := [.val (.ref 99), .val (.int x1), .unset, .val (.int x3), .val (.ref 0), .val (.int x5), .val (.int x6), .val (.int x7), .val (.int x8), .val (.long y9), .unset, .val (.int x11), .unset, .unset, .unset, .unset, .unset, .unset, .unset, .unset, .unset]) (St' := [.int (0 : Int32)]) (σ' := r1.2) [.iconst 0] (by decide +kernel) hc hT hF wi (by exact rfl) ?_
    exact am_retZ (by decide +kernel) hc (by decide) (by decide) (fun h W O => rfl)
  · refine am_blk (pc' := 88) (Ls' := [.val (.ref 99), .val (.int x1), .unset, .val (.int x3), .val (.ref 0), .val (.int x5), .val (.int x6), .val (.int x7), .val (.int x8), .val (.long y9), .unset, .val (.int (x11 + (3 : Int32))), .unset, .unset, .unset, .unset, .unset, .unset, .unset, .unset, .unset]) (St' := []) (σ' := r1.2) [.iinc 11 3, .goto (-567)] (by decide +kernel) hc hT hF wi (by exact rfl) ?_
    exact am_wk (Ls' := [.val (.ref 99), .val (.int x1), .unset, .val (.int x3), .val (.ref 0), .val (.int x5), .val (.int x6), .val (.int x7), .val (.int x8), .val (.long y9), .unset, .val (.int (x11 + (3 : Int32))), .unset, .unset, .unset, .unset, .unset, .unset, .unset, .unset, .unset]) (by simp [wkL]) (hk88 x1 x3 x5 x6 x7 x8 y9 (x11 + (3 : Int32)) r1.2)
def q_law_329 (sn : Nat) (sf : Nat → Int32) (k88 : Int32 → Int32 → Int32 → Int32 → Int32 → Int32 → Int64 → Int32 → Sg → Option (Int32 × Sg)) (x1 : Int32) (x3 : Int32) (x5 : Int32) (x6 : Int32) (x7 : Int32) (x8 : Int32) (y9 : Int64) (x11 : Int32) (σ : Sg) : Option (Int32 × Sg) :=
  q_law_632 sn sf k88 x1 x3 x5 x6 x7 x8 y9 x11 σ
set_option maxRecDepth 65536 in
set_option maxHeartbeats 4000000 in
theorem okc_q_law_329 (hw : WH a0 Z) (hc : Cx p s m meth c Z "BoolUnifierYL6" code 21 (some .boolean) "law") (hw0 : Rd w0 12) (hsc : w0 99 = some (.inr (.int, sn, some sf))) (hn : n0 ≤ h0.size) (k88 : Int32 → Int32 → Int32 → Int32 → Int32 → Int32 → Int64 → Int32 → Sg → Option (Int32 × Sg)) (hk88 : ∀ (x1 : Int32) (x3 : Int32) (x5 : Int32) (x6 : Int32) (x7 : Int32) (x8 : Int32) (y9 : Int64) (x11 : Int32) (σ : Sg), OkR p l e rm_q_law s m args below meth c Z "BoolUnifierY" fsC n0 h0 FL A (wF arrsC w0) 13 2715 88 [.val (.ref 99), .val (.int x1), .unset, .val (.int x3), .val (.ref 0), .val (.int x5), .val (.int x6), .val (.int x7), .val (.int x8), .val (.long y9), .unset, .val (.int x11), .unset, .unset, .unset, .unset, .unset, .unset, .unset, .unset, .unset] [] σ (k88 x1 x3 x5 x6 x7 x8 y9 x11 σ)) (x1 : Int32) (x3 : Int32) (x5 : Int32) (x6 : Int32) (x7 : Int32) (x8 : Int32) (y9 : Int64) (x11 : Int32) (σ : Sg) : OkR p l e rm_q_law s m args below meth c Z "BoolUnifierY" fsC n0 h0 FL A (wF arrsC w0) 13 2715 329 [.val (.ref 99), .val (.int x1), .unset, .val (.int x3), .val (.ref 0), .val (.int x5), .val (.int x6), .val (.int x7), .val (.int x8), .val (.long y9), .unset, .val (.int x11), .unset, .unset, .unset, .unset, .unset, .unset, .unset, .unset, .unset] [] σ (q_law_329 sn sf k88 x1 x3 x5 x6 x7 x8 y9 x11 σ) := by
  have hT := tabL hw "law"
  have hF := fsokC hw
  have wi := wiC hw
  unfold q_law_329
  refine am_blk (pc' := 632) (Ls' := [.val (.ref 99), .val (.int x1), .unset, .val (.int x3), .val (.ref 0), .val (.int x5), .val (.int x6), .val (.int x7), .val (.int x8), .val (.long y9), .unset, .val (.int x11), .unset, .unset, .unset, .unset, .unset, .unset, .unset, .unset, .unset]) (St' := []) (σ' := σ) [.goto 303] (by decide +kernel) hc hT hF wi (by exact rfl) ?_
  exact am_wk (Ls' := [.val (.ref 99), .val (.int x1), .unset, .val (.int x3), .val (.ref 0), .val (.int x5), .val (.int x6), .val (.int x7), .val (.int x8), .val (.long y9), .unset, .val (.int x11), .unset, .unset, .unset, .unset, .unset, .unset, .unset, .unset, .unset]) (by simp [wkL]) (okc_q_law_632 hw hc hw0 hsc hn k88 hk88 x1 x3 x5 x6 x7 x8 y9 x11 σ)
def q_law_245 (sn : Nat) (sf : Nat → Int32) (k88 : Int32 → Int32 → Int32 → Int32 → Int32 → Int32 → Int64 → Int32 → Sg → Option (Int32 × Sg)) (x1 : Int32) (x3 : Int32) (x5 : Int32) (x6 : Int32) (x7 : Int32) (x8 : Int32) (y9 : Int64) (x11 : Int32) (x13 : Int32) (x15 : Int32) (x16 : Int32) (x18 : Int32) (x19 : Int32) (s0 : Int32) (σ : Sg) : Option (Int32 × Sg) :=
  if s0 = 0 then (if x19 = (-1 : Int32) then (q_law_329 sn sf k88 x1 x3 x5 x6 x7 x8 y9 x11 σ) else (some ((0 : Int32), σ))) else (if x19 = (x16 + (1 : Int32)) then ((c_code x13 x16 σ).bind fun r1 => if r1.1 = x18 then (if (7 : Int32) < x18 then (if x18 < (9 : Int32) then (q_law_329 sn sf k88 x1 x3 (x5 + ((1 : Int32) <<< (x15 &&& 31))) x6 x7 x8 y9 x11 r1.2) else (q_law_329 sn sf k88 x1 x3 (x5 + ((1 : Int32) <<< (x15 &&& 31))) (x6 - ((1 : Int32) <<< (x15 &&& 31))) x7 x8 y9 x11 r1.2)) else (q_law_329 sn sf k88 x1 x3 (x5 + ((1 : Int32) <<< (x15 &&& 31))) (x6 + ((1 : Int32) <<< (x15 &&& 31))) x7 x8 y9 x11 r1.2)) else (some ((0 : Int32), r1.2))) else (some ((0 : Int32), σ)))
set_option maxRecDepth 65536 in
set_option maxHeartbeats 4000000 in
theorem okc_q_law_245 (hw : WH a0 Z) (hc : Cx p s m meth c Z "BoolUnifierYL6" code 21 (some .boolean) "law") (hw0 : Rd w0 12) (hsc : w0 99 = some (.inr (.int, sn, some sf))) (hn : n0 ≤ h0.size) (k88 : Int32 → Int32 → Int32 → Int32 → Int32 → Int32 → Int64 → Int32 → Sg → Option (Int32 × Sg)) (hk88 : ∀ (x1 : Int32) (x3 : Int32) (x5 : Int32) (x6 : Int32) (x7 : Int32) (x8 : Int32) (y9 : Int64) (x11 : Int32) (σ : Sg), OkR p l e rm_q_law s m args below meth c Z "BoolUnifierY" fsC n0 h0 FL A (wF arrsC w0) 13 2715 88 [.val (.ref 99), .val (.int x1), .unset, .val (.int x3), .val (.ref 0), .val (.int x5), .val (.int x6), .val (.int x7), .val (.int x8), .val (.long y9), .unset, .val (.int x11), .unset, .unset, .unset, .unset, .unset, .unset, .unset, .unset, .unset] [] σ (k88 x1 x3 x5 x6 x7 x8 y9 x11 σ)) (x1 : Int32) (x3 : Int32) (x5 : Int32) (x6 : Int32) (x7 : Int32) (x8 : Int32) (y9 : Int64) (x11 : Int32) (x13 : Int32) (x15 : Int32) (x16 : Int32) (x18 : Int32) (x19 : Int32) (s0 : Int32) (σ : Sg) : OkR p l e rm_q_law s m args below meth c Z "BoolUnifierY" fsC n0 h0 FL A (wF arrsC w0) 13 2715 245 [.val (.ref 99), .val (.int x1), .unset, .val (.int x3), .val (.ref 0), .val (.int x5), .val (.int x6), .val (.int x7), .val (.int x8), .val (.long y9), .unset, .val (.int x11), .unset, .val (.int x13), .unset, .val (.int x15), .val (.int x16), .unset, .val (.int x18), .val (.int x19), .unset] [.int s0] σ (q_law_245 sn sf k88 x1 x3 x5 x6 x7 x8 y9 x11 x13 x15 x16 x18 x19 s0 σ) := by
  have hT := tabL hw "law"
  have hF := fsokC hw
  have wi := wiC hw
  unfold q_law_245
  refine am_blk (pc' := 249) (Ls' := [.val (.ref 99), .val (.int x1), .unset, .val (.int x3), .val (.ref 0), .val (.int x5), .val (.int x6), .val (.int x7), .val (.int x8), .val (.long y9), .unset, .val (.int x11), .unset, .val (.int x13), .unset, .val (.int x15), .val (.int x16), .unset, .val (.int x18), .val (.int x19), .val (.int s0)]) (St' := [.int s0]) (σ' := σ) [.istore 20, .iload 20] (by decide +kernel) hc hT hF wi (by exact rfl) ?_
  refine am_if_ne (o := 11) (pc1 := 260) (by decide +kernel) hc (fun hq => ?_) (fun hq => ?_)
  · refine am_blk (pc' := 255) (Ls' := [.val (.ref 99), .val (.int x1), .unset, .val (.int x3), .val (.ref 0), .val (.int x5), .val (.int x6), .val (.int x7), .val (.int x8), .val (.long y9), .unset, .val (.int x11), .unset, .val (.int x13), .unset, .val (.int x15), .val (.int x16), .unset, .val (.int x18), .val (.int x19), .val (.int s0)]) (St' := [.int (-1 : Int32), .int x19]) (σ' := σ) [.iload 19, .iconst (-1)] (by decide +kernel) hc hT hF wi (by exact rfl) ?_
    refine am_icmp_eq (o := 74) (pc1 := 329) (by decide +kernel) hc (fun hq => ?_) (fun hq => ?_)
    · exact am_wk (Ls' := [.val (.ref 99), .val (.int x1), .unset, .val (.int x3), .val (.ref 0), .val (.int x5), .val (.int x6), .val (.int x7), .val (.int x8), .val (.long y9), .unset, .val (.int x11), .unset, .unset, .unset, .unset, .unset, .unset, .unset, .unset, .unset]) (by simp [wkL]) (okc_q_law_329 hw hc hw0 hsc hn k88 hk88 x1 x3 x5 x6 x7 x8 y9 x11 σ)
    · refine am_blk (pc' := 259) (Ls' := [.val (.ref 99), .val (.int x1), .unset, .val (.int x3), .val (.ref 0), .val (.int x5), .val (.int x6), .val (.int x7), .val (.int x8), .val (.long y9), .unset, .val (.int x11), .unset, .val (.int x13), .unset, .val (.int x15), .val (.int x16), .unset, .val (.int x18), .val (.int x19), .val (.int s0)]) (St' := [.int (0 : Int32)]) (σ' := σ) [.iconst 0] (by decide +kernel) hc hT hF wi (by exact rfl) ?_
      exact am_retZ (by decide +kernel) hc (by decide) (by decide) (fun h W O => rfl)
  · refine am_blk (pc' := 266) (Ls' := [.val (.ref 99), .val (.int x1), .unset, .val (.int x3), .val (.ref 0), .val (.int x5), .val (.int x6), .val (.int x7), .val (.int x8), .val (.long y9), .unset, .val (.int x11), .unset, .val (.int x13), .unset, .val (.int x15), .val (.int x16), .unset, .val (.int x18), .val (.int x19), .val (.int s0)]) (St' := [.int (x16 + (1 : Int32)), .int x19]) (σ' := σ) [.iload 19, .iload 16, .iconst 1, .iadd] (by decide +kernel) hc hT hF wi (by exact rfl) ?_
    refine am_icmp_ne (o := 17) (pc1 := 283) (by decide +kernel) hc (fun hq => ?_) (fun hq => ?_)
    · refine am_blk (pc' := 275) (Ls' := [.val (.ref 99), .val (.int x1), .unset, .val (.int x3), .val (.ref 0), .val (.int x5), .val (.int x6), .val (.int x7), .val (.int x8), .val (.long y9), .unset, .val (.int x11), .unset, .val (.int x13), .unset, .val (.int x15), .val (.int x16), .unset, .val (.int x18), .val (.int x19), .val (.int s0)]) (St' := [.int x16, .int x13, .ref 0]) (σ' := σ) [.aload 4, .iload 13, .iload 16] (by decide +kernel) hc hT hF wi (by exact rfl) ?_
      refine am_callV_I (W0 := 0) (argsL := [.int x13, .int x16]) (rest := []) rfl (lk_L_22 hw) rfl (by decide +kernel) hc (subF hw0) rfl (by show arity "(II)I" 2 = true; decide +kernel) (ok_c_code hw x13 x16 _) rfl ⟨by decide, by decide, Nat.le_of_eq rfl, rfl, rfl, by decide, by decide⟩ (fun r1 hr => ?_)
      refine am_blk (pc' := 280) (Ls' := [.val (.ref 99), .val (.int x1), .unset, .val (.int x3), .val (.ref 0), .val (.int x5), .val (.int x6), .val (.int x7), .val (.int x8), .val (.long y9), .unset, .val (.int x11), .unset, .val (.int x13), .unset, .val (.int x15), .val (.int x16), .unset, .val (.int x18), .val (.int x19), .val (.int s0)]) (St' := [.int x18, .int r1.1]) (σ' := r1.2) [.iload 18] (by decide +kernel) hc hT hF wi (by exact rfl) ?_
      refine am_icmp_eq (o := 5) (pc1 := 285) (by decide +kernel) hc (fun hq => ?_) (fun hq => ?_)
      · refine am_blk (pc' := 298) (Ls' := [.val (.ref 99), .val (.int x1), .unset, .val (.int x3), .val (.ref 0), .val (.int (x5 + ((1 : Int32) <<< (x15 &&& 31)))), .val (.int x6), .val (.int x7), .val (.int x8), .val (.long y9), .unset, .val (.int x11), .unset, .val (.int x13), .unset, .val (.int x15), .val (.int x16), .unset, .val (.int x18), .val (.int x19), .val (.int s0)]) (St' := [.int (7 : Int32), .int x18]) (σ' := r1.2) [.iload 5, .iconst 1, .iload 15, .ishl, .iadd, .istore 5, .iload 18, .bipush 7] (by decide +kernel) hc hT hF wi (by exact rfl) ?_
        refine am_icmp_gt (o := 15) (pc1 := 313) (by decide +kernel) hc (fun hq => ?_) (fun hq => ?_)
        · refine am_blk (pc' := 317) (Ls' := [.val (.ref 99), .val (.int x1), .unset, .val (.int x3), .val (.ref 0), .val (.int (x5 + ((1 : Int32) <<< (x15 &&& 31)))), .val (.int x6), .val (.int x7), .val (.int x8), .val (.long y9), .unset, .val (.int x11), .unset, .val (.int x13), .unset, .val (.int x15), .val (.int x16), .unset, .val (.int x18), .val (.int x19), .val (.int s0)]) (St' := [.int (9 : Int32), .int x18]) (σ' := r1.2) [.iload 18, .bipush 9] (by decide +kernel) hc hT hF wi (by exact rfl) ?_
          refine am_icmp_lt (o := 12) (pc1 := 329) (by decide +kernel) hc (fun hq => ?_) (fun hq => ?_)
          · exact am_wk (Ls' := [.val (.ref 99), .val (.int x1), .unset, .val (.int x3), .val (.ref 0), .val (.int (x5 + ((1 : Int32) <<< (x15 &&& 31)))), .val (.int x6), .val (.int x7), .val (.int x8), .val (.long y9), .unset, .val (.int x11), .unset, .unset, .unset, .unset, .unset, .unset, .unset, .unset, .unset]) (by simp [wkL]) (okc_q_law_329 hw hc hw0 hsc hn k88 hk88 x1 x3 (x5 + ((1 : Int32) <<< (x15 &&& 31))) x6 x7 x8 y9 x11 r1.2)
          · refine am_blk (pc' := 329) (Ls' := [.val (.ref 99), .val (.int x1), .unset, .val (.int x3), .val (.ref 0), .val (.int (x5 + ((1 : Int32) <<< (x15 &&& 31)))), .val (.int (x6 - ((1 : Int32) <<< (x15 &&& 31)))), .val (.int x7), .val (.int x8), .val (.long y9), .unset, .val (.int x11), .unset, .val (.int x13), .unset, .val (.int x15), .val (.int x16), .unset, .val (.int x18), .val (.int x19), .val (.int s0)]) (St' := []) (σ' := r1.2) [.iload 6, .iconst 1, .iload 15, .ishl, .isub, .istore 6] (by decide +kernel) hc hT hF wi (by exact rfl) ?_
            exact am_wk (Ls' := [.val (.ref 99), .val (.int x1), .unset, .val (.int x3), .val (.ref 0), .val (.int (x5 + ((1 : Int32) <<< (x15 &&& 31)))), .val (.int (x6 - ((1 : Int32) <<< (x15 &&& 31)))), .val (.int x7), .val (.int x8), .val (.long y9), .unset, .val (.int x11), .unset, .unset, .unset, .unset, .unset, .unset, .unset, .unset, .unset]) (by simp [wkL]) (okc_q_law_329 hw hc hw0 hsc hn k88 hk88 x1 x3 (x5 + ((1 : Int32) <<< (x15 &&& 31))) (x6 - ((1 : Int32) <<< (x15 &&& 31))) x7 x8 y9 x11 r1.2)
        · refine am_blk (pc' := 329) (Ls' := [.val (.ref 99), .val (.int x1), .unset, .val (.int x3), .val (.ref 0), .val (.int (x5 + ((1 : Int32) <<< (x15 &&& 31)))), .val (.int (x6 + ((1 : Int32) <<< (x15 &&& 31)))), .val (.int x7), .val (.int x8), .val (.long y9), .unset, .val (.int x11), .unset, .val (.int x13), .unset, .val (.int x15), .val (.int x16), .unset, .val (.int x18), .val (.int x19), .val (.int s0)]) (St' := []) (σ' := r1.2) [.iload 6, .iconst 1, .iload 15, .ishl, .iadd, .istore 6, .goto 19] (by decide +kernel) hc hT hF wi (by exact rfl) ?_
          exact am_wk (Ls' := [.val (.ref 99), .val (.int x1), .unset, .val (.int x3), .val (.ref 0), .val (.int (x5 + ((1 : Int32) <<< (x15 &&& 31)))), .val (.int (x6 + ((1 : Int32) <<< (x15 &&& 31)))), .val (.int x7), .val (.int x8), .val (.long y9), .unset, .val (.int x11), .unset, .unset, .unset, .unset, .unset, .unset, .unset, .unset, .unset]) (by simp [wkL]) (okc_q_law_329 hw hc hw0 hsc hn k88 hk88 x1 x3 (x5 + ((1 : Int32) <<< (x15 &&& 31))) (x6 + ((1 : Int32) <<< (x15 &&& 31))) x7 x8 y9 x11 r1.2)
      · refine am_blk (pc' := 284) (Ls' := [.val (.ref 99), .val (.int x1), .unset, .val (.int x3), .val (.ref 0), .val (.int x5), .val (.int x6), .val (.int x7), .val (.int x8), .val (.long y9), .unset, .val (.int x11), .unset, .val (.int x13), .unset, .val (.int x15), .val (.int x16), .unset, .val (.int x18), .val (.int x19), .val (.int s0)]) (St' := [.int (0 : Int32)]) (σ' := r1.2) [.iconst 0] (by decide +kernel) hc hT hF wi (by exact rfl) ?_
        exact am_retZ (by decide +kernel) hc (by decide) (by decide) (fun h W O => rfl)
    · refine am_blk (pc' := 284) (Ls' := [.val (.ref 99), .val (.int x1), .unset, .val (.int x3), .val (.ref 0), .val (.int x5), .val (.int x6), .val (.int x7), .val (.int x8), .val (.long y9), .unset, .val (.int x11), .unset, .val (.int x13), .unset, .val (.int x15), .val (.int x16), .unset, .val (.int x18), .val (.int x19), .val (.int s0)]) (St' := [.int (0 : Int32)]) (σ' := σ) [.iconst 0] (by decide +kernel) hc hT hF wi (by exact rfl) ?_
      exact am_retZ (by decide +kernel) hc (by decide) (by decide) (fun h W O => rfl)
def q_law_244 (sn : Nat) (sf : Nat → Int32) (k88 : Int32 → Int32 → Int32 → Int32 → Int32 → Int32 → Int64 → Int32 → Sg → Option (Int32 × Sg)) (x1 : Int32) (x3 : Int32) (x5 : Int32) (x6 : Int32) (x7 : Int32) (x8 : Int32) (y9 : Int64) (x11 : Int32) (x13 : Int32) (x15 : Int32) (x16 : Int32) (x18 : Int32) (x19 : Int32) (σ : Sg) : Option (Int32 × Sg) :=
  q_law_245 sn sf k88 x1 x3 x5 x6 x7 x8 y9 x11 x13 x15 x16 x18 x19 (0 : Int32) σ
set_option maxRecDepth 65536 in
set_option maxHeartbeats 4000000 in
theorem okc_q_law_244 (hw : WH a0 Z) (hc : Cx p s m meth c Z "BoolUnifierYL6" code 21 (some .boolean) "law") (hw0 : Rd w0 12) (hsc : w0 99 = some (.inr (.int, sn, some sf))) (hn : n0 ≤ h0.size) (k88 : Int32 → Int32 → Int32 → Int32 → Int32 → Int32 → Int64 → Int32 → Sg → Option (Int32 × Sg)) (hk88 : ∀ (x1 : Int32) (x3 : Int32) (x5 : Int32) (x6 : Int32) (x7 : Int32) (x8 : Int32) (y9 : Int64) (x11 : Int32) (σ : Sg), OkR p l e rm_q_law s m args below meth c Z "BoolUnifierY" fsC n0 h0 FL A (wF arrsC w0) 13 2715 88 [.val (.ref 99), .val (.int x1), .unset, .val (.int x3), .val (.ref 0), .val (.int x5), .val (.int x6), .val (.int x7), .val (.int x8), .val (.long y9), .unset, .val (.int x11), .unset, .unset, .unset, .unset, .unset, .unset, .unset, .unset, .unset] [] σ (k88 x1 x3 x5 x6 x7 x8 y9 x11 σ)) (x1 : Int32) (x3 : Int32) (x5 : Int32) (x6 : Int32) (x7 : Int32) (x8 : Int32) (y9 : Int64) (x11 : Int32) (x13 : Int32) (x15 : Int32) (x16 : Int32) (x18 : Int32) (x19 : Int32) (σ : Sg) : OkR p l e rm_q_law s m args below meth c Z "BoolUnifierY" fsC n0 h0 FL A (wF arrsC w0) 13 2715 244 [.val (.ref 99), .val (.int x1), .unset, .val (.int x3), .val (.ref 0), .val (.int x5), .val (.int x6), .val (.int x7), .val (.int x8), .val (.long y9), .unset, .val (.int x11), .unset, .val (.int x13), .unset, .val (.int x15), .val (.int x16), .unset, .val (.int x18), .val (.int x19), .unset] [] σ (q_law_244 sn sf k88 x1 x3 x5 x6 x7 x8 y9 x11 x13 x15 x16 x18 x19 σ) := by
  have hT := tabL hw "law"
  have hF := fsokC hw
  have wi := wiC hw
  unfold q_law_244
  refine am_blk (pc' := 245) (Ls' := [.val (.ref 99), .val (.int x1), .unset, .val (.int x3), .val (.ref 0), .val (.int x5), .val (.int x6), .val (.int x7), .val (.int x8), .val (.long y9), .unset, .val (.int x11), .unset, .val (.int x13), .unset, .val (.int x15), .val (.int x16), .unset, .val (.int x18), .val (.int x19), .unset]) (St' := [.int (0 : Int32)]) (σ' := σ) [.iconst 0] (by decide +kernel) hc hT hF wi (by exact rfl) ?_
  exact am_wk (Ls' := [.val (.ref 99), .val (.int x1), .unset, .val (.int x3), .val (.ref 0), .val (.int x5), .val (.int x6), .val (.int x7), .val (.int x8), .val (.long y9), .unset, .val (.int x11), .unset, .val (.int x13), .unset, .val (.int x15), .val (.int x16), .unset, .val (.int x18), .val (.int x19), .unset]) (by simp [wkL]) (okc_q_law_245 hw hc hw0 hsc hn k88 hk88 x1 x3 x5 x6 x7 x8 y9 x11 x13 x15 x16 x18 x19 (0 : Int32) σ)
def q_law_240 (sn : Nat) (sf : Nat → Int32) (k88 : Int32 → Int32 → Int32 → Int32 → Int32 → Int32 → Int64 → Int32 → Sg → Option (Int32 × Sg)) (x1 : Int32) (x3 : Int32) (x5 : Int32) (x6 : Int32) (x7 : Int32) (x8 : Int32) (y9 : Int64) (x11 : Int32) (x13 : Int32) (x15 : Int32) (x16 : Int32) (x18 : Int32) (x19 : Int32) (σ : Sg) : Option (Int32 × Sg) :=
  q_law_245 sn sf k88 x1 x3 x5 x6 x7 x8 y9 x11 x13 x15 x16 x18 x19 (1 : Int32) σ
set_option maxRecDepth 65536 in
set_option maxHeartbeats 4000000 in
theorem okc_q_law_240 (hw : WH a0 Z) (hc : Cx p s m meth c Z "BoolUnifierYL6" code 21 (some .boolean) "law") (hw0 : Rd w0 12) (hsc : w0 99 = some (.inr (.int, sn, some sf))) (hn : n0 ≤ h0.size) (k88 : Int32 → Int32 → Int32 → Int32 → Int32 → Int32 → Int64 → Int32 → Sg → Option (Int32 × Sg)) (hk88 : ∀ (x1 : Int32) (x3 : Int32) (x5 : Int32) (x6 : Int32) (x7 : Int32) (x8 : Int32) (y9 : Int64) (x11 : Int32) (σ : Sg), OkR p l e rm_q_law s m args below meth c Z "BoolUnifierY" fsC n0 h0 FL A (wF arrsC w0) 13 2715 88 [.val (.ref 99), .val (.int x1), .unset, .val (.int x3), .val (.ref 0), .val (.int x5), .val (.int x6), .val (.int x7), .val (.int x8), .val (.long y9), .unset, .val (.int x11), .unset, .unset, .unset, .unset, .unset, .unset, .unset, .unset, .unset] [] σ (k88 x1 x3 x5 x6 x7 x8 y9 x11 σ)) (x1 : Int32) (x3 : Int32) (x5 : Int32) (x6 : Int32) (x7 : Int32) (x8 : Int32) (y9 : Int64) (x11 : Int32) (x13 : Int32) (x15 : Int32) (x16 : Int32) (x18 : Int32) (x19 : Int32) (σ : Sg) : OkR p l e rm_q_law s m args below meth c Z "BoolUnifierY" fsC n0 h0 FL A (wF arrsC w0) 13 2715 240 [.val (.ref 99), .val (.int x1), .unset, .val (.int x3), .val (.ref 0), .val (.int x5), .val (.int x6), .val (.int x7), .val (.int x8), .val (.long y9), .unset, .val (.int x11), .unset, .val (.int x13), .unset, .val (.int x15), .val (.int x16), .unset, .val (.int x18), .val (.int x19), .unset] [] σ (q_law_240 sn sf k88 x1 x3 x5 x6 x7 x8 y9 x11 x13 x15 x16 x18 x19 σ) := by
  have hT := tabL hw "law"
  have hF := fsokC hw
  have wi := wiC hw
  unfold q_law_240
  refine am_blk (pc' := 245) (Ls' := [.val (.ref 99), .val (.int x1), .unset, .val (.int x3), .val (.ref 0), .val (.int x5), .val (.int x6), .val (.int x7), .val (.int x8), .val (.long y9), .unset, .val (.int x11), .unset, .val (.int x13), .unset, .val (.int x15), .val (.int x16), .unset, .val (.int x18), .val (.int x19), .unset]) (St' := [.int (1 : Int32)]) (σ' := σ) [.iconst 1, .goto 4] (by decide +kernel) hc hT hF wi (by exact rfl) ?_
  exact am_wk (Ls' := [.val (.ref 99), .val (.int x1), .unset, .val (.int x3), .val (.ref 0), .val (.int x5), .val (.int x6), .val (.int x7), .val (.int x8), .val (.long y9), .unset, .val (.int x11), .unset, .val (.int x13), .unset, .val (.int x15), .val (.int x16), .unset, .val (.int x18), .val (.int x19), .unset]) (by simp [wkL]) (okc_q_law_245 hw hc hw0 hsc hn k88 hk88 x1 x3 x5 x6 x7 x8 y9 x11 x13 x15 x16 x18 x19 (1 : Int32) σ)
def q_law_227 (sn : Nat) (sf : Nat → Int32) (k88 : Int32 → Int32 → Int32 → Int32 → Int32 → Int32 → Int64 → Int32 → Sg → Option (Int32 × Sg)) (x1 : Int32) (x3 : Int32) (x5 : Int32) (x6 : Int32) (x7 : Int32) (x8 : Int32) (y9 : Int64) (x11 : Int32) (x13 : Int32) (x15 : Int32) (x16 : Int32) (x17 : Int32) (x18 : Int32) (x19 : Int32) (σ : Sg) : Option (Int32 × Sg) :=
  if x18 < (9 : Int32) then (q_law_240 sn sf k88 x1 x3 x5 x6 x7 x8 y9 x11 x13 x15 x16 x18 x19 σ) else (if x17 < (2 : Int32) then (q_law_244 sn sf k88 x1 x3 x5 x6 x7 x8 y9 x11 x13 x15 x16 x18 x19 σ) else (q_law_240 sn sf k88 x1 x3 x5 x6 x7 x8 y9 x11 x13 x15 x16 x18 x19 σ))
set_option maxRecDepth 65536 in
set_option maxHeartbeats 4000000 in
theorem okc_q_law_227 (hw : WH a0 Z) (hc : Cx p s m meth c Z "BoolUnifierYL6" code 21 (some .boolean) "law") (hw0 : Rd w0 12) (hsc : w0 99 = some (.inr (.int, sn, some sf))) (hn : n0 ≤ h0.size) (k88 : Int32 → Int32 → Int32 → Int32 → Int32 → Int32 → Int64 → Int32 → Sg → Option (Int32 × Sg)) (hk88 : ∀ (x1 : Int32) (x3 : Int32) (x5 : Int32) (x6 : Int32) (x7 : Int32) (x8 : Int32) (y9 : Int64) (x11 : Int32) (σ : Sg), OkR p l e rm_q_law s m args below meth c Z "BoolUnifierY" fsC n0 h0 FL A (wF arrsC w0) 13 2715 88 [.val (.ref 99), .val (.int x1), .unset, .val (.int x3), .val (.ref 0), .val (.int x5), .val (.int x6), .val (.int x7), .val (.int x8), .val (.long y9), .unset, .val (.int x11), .unset, .unset, .unset, .unset, .unset, .unset, .unset, .unset, .unset] [] σ (k88 x1 x3 x5 x6 x7 x8 y9 x11 σ)) (x1 : Int32) (x3 : Int32) (x5 : Int32) (x6 : Int32) (x7 : Int32) (x8 : Int32) (y9 : Int64) (x11 : Int32) (x13 : Int32) (x15 : Int32) (x16 : Int32) (x17 : Int32) (x18 : Int32) (x19 : Int32) (σ : Sg) : OkR p l e rm_q_law s m args below meth c Z "BoolUnifierY" fsC n0 h0 FL A (wF arrsC w0) 13 2715 227 [.val (.ref 99), .val (.int x1), .unset, .val (.int x3), .val (.ref 0), .val (.int x5), .val (.int x6), .val (.int x7), .val (.int x8), .val (.long y9), .unset, .val (.int x11), .unset, .val (.int x13), .unset, .val (.int x15), .val (.int x16), .val (.int x17), .val (.int x18), .val (.int x19), .unset] [] σ (q_law_227 sn sf k88 x1 x3 x5 x6 x7 x8 y9 x11 x13 x15 x16 x17 x18 x19 σ) := by
  have hT := tabL hw "law"
  have hF := fsokC hw
  have wi := wiC hw
  unfold q_law_227
  refine am_blk (pc' := 231) (Ls' := [.val (.ref 99), .val (.int x1), .unset, .val (.int x3), .val (.ref 0), .val (.int x5), .val (.int x6), .val (.int x7), .val (.int x8), .val (.long y9), .unset, .val (.int x11), .unset, .val (.int x13), .unset, .val (.int x15), .val (.int x16), .val (.int x17), .val (.int x18), .val (.int x19), .unset]) (St' := [.int (9 : Int32), .int x18]) (σ' := σ) [.iload 18, .bipush 9] (by decide +kernel) hc hT hF wi (by exact rfl) ?_
  refine am_icmp_lt (o := 9) (pc1 := 240) (by decide +kernel) hc (fun hq => ?_) (fun hq => ?_)
  · exact am_wk (Ls' := [.val (.ref 99), .val (.int x1), .unset, .val (.int x3), .val (.ref 0), .val (.int x5), .val (.int x6), .val (.int x7), .val (.int x8), .val (.long y9), .unset, .val (.int x11), .unset, .val (.int x13), .unset, .val (.int x15), .val (.int x16), .unset, .val (.int x18), .val (.int x19), .unset]) (by simp [wkL]) (okc_q_law_240 hw hc hw0 hsc hn k88 hk88 x1 x3 x5 x6 x7 x8 y9 x11 x13 x15 x16 x18 x19 σ)
  · refine am_blk (pc' := 237) (Ls' := [.val (.ref 99), .val (.int x1), .unset, .val (.int x3), .val (.ref 0), .val (.int x5), .val (.int x6), .val (.int x7), .val (.int x8), .val (.long y9), .unset, .val (.int x11), .unset, .val (.int x13), .unset, .val (.int x15), .val (.int x16), .val (.int x17), .val (.int x18), .val (.int x19), .unset]) (St' := [.int (2 : Int32), .int x17]) (σ' := σ) [.iload 17, .iconst 2] (by decide +kernel) hc hT hF wi (by exact rfl) ?_
    refine am_icmp_lt (o := 7) (pc1 := 244) (by decide +kernel) hc (fun hq => ?_) (fun hq => ?_)
    · exact am_wk (Ls' := [.val (.ref 99), .val (.int x1), .unset, .val (.int x3), .val (.ref 0), .val (.int x5), .val (.int x6), .val (.int x7), .val (.int x8), .val (.long y9), .unset, .val (.int x11), .unset, .val (.int x13), .unset, .val (.int x15), .val (.int x16), .unset, .val (.int x18), .val (.int x19), .unset]) (by simp [wkL]) (okc_q_law_244 hw hc hw0 hsc hn k88 hk88 x1 x3 x5 x6 x7 x8 y9 x11 x13 x15 x16 x18 x19 σ)
    · exact am_wk (Ls' := [.val (.ref 99), .val (.int x1), .unset, .val (.int x3), .val (.ref 0), .val (.int x5), .val (.int x6), .val (.int x7), .val (.int x8), .val (.long y9), .unset, .val (.int x11), .unset, .val (.int x13), .unset, .val (.int x15), .val (.int x16), .unset, .val (.int x18), .val (.int x19), .unset]) (by simp [wkL]) (okc_q_law_240 hw hc hw0 hsc hn k88 hk88 x1 x3 x5 x6 x7 x8 y9 x11 x13 x15 x16 x18 x19 σ)
def q_law_449 (sn : Nat) (sf : Nat → Int32) (k88 : Int32 → Int32 → Int32 → Int32 → Int32 → Int32 → Int64 → Int32 → Sg → Option (Int32 × Sg)) (x1 : Int32) (x3 : Int32) (x5 : Int32) (x6 : Int32) (x7 : Int32) (x8 : Int32) (y9 : Int64) (x11 : Int32) (σ : Sg) : Option (Int32 × Sg) :=
  q_law_632 sn sf k88 x1 x3 x5 x6 x7 x8 y9 x11 σ
set_option maxRecDepth 65536 in
set_option maxHeartbeats 4000000 in
theorem okc_q_law_449 (hw : WH a0 Z) (hc : Cx p s m meth c Z "BoolUnifierYL6" code 21 (some .boolean) "law") (hw0 : Rd w0 12) (hsc : w0 99 = some (.inr (.int, sn, some sf))) (hn : n0 ≤ h0.size) (k88 : Int32 → Int32 → Int32 → Int32 → Int32 → Int32 → Int64 → Int32 → Sg → Option (Int32 × Sg)) (hk88 : ∀ (x1 : Int32) (x3 : Int32) (x5 : Int32) (x6 : Int32) (x7 : Int32) (x8 : Int32) (y9 : Int64) (x11 : Int32) (σ : Sg), OkR p l e rm_q_law s m args below meth c Z "BoolUnifierY" fsC n0 h0 FL A (wF arrsC w0) 13 2715 88 [.val (.ref 99), .val (.int x1), .unset, .val (.int x3), .val (.ref 0), .val (.int x5), .val (.int x6), .val (.int x7), .val (.int x8), .val (.long y9), .unset, .val (.int x11), .unset, .unset, .unset, .unset, .unset, .unset, .unset, .unset, .unset] [] σ (k88 x1 x3 x5 x6 x7 x8 y9 x11 σ)) (x1 : Int32) (x3 : Int32) (x5 : Int32) (x6 : Int32) (x7 : Int32) (x8 : Int32) (y9 : Int64) (x11 : Int32) (σ : Sg) : OkR p l e rm_q_law s m args below meth c Z "BoolUnifierY" fsC n0 h0 FL A (wF arrsC w0) 13 2715 449 [.val (.ref 99), .val (.int x1), .unset, .val (.int x3), .val (.ref 0), .val (.int x5), .val (.int x6), .val (.int x7), .val (.int x8), .val (.long y9), .unset, .val (.int x11), .unset, .unset, .unset, .unset, .unset, .unset, .unset, .unset, .unset] [] σ (q_law_449 sn sf k88 x1 x3 x5 x6 x7 x8 y9 x11 σ) := by
  have hT := tabL hw "law"
  have hF := fsokC hw
  have wi := wiC hw
  unfold q_law_449
  refine am_blk (pc' := 632) (Ls' := [.val (.ref 99), .val (.int x1), .unset, .val (.int x3), .val (.ref 0), .val (.int x5), .val (.int x6), .val (.int x7), .val (.int x8), .val (.long y9), .unset, .val (.int x11), .unset, .unset, .unset, .unset, .unset, .unset, .unset, .unset, .unset]) (St' := []) (σ' := σ) [.goto 183] (by decide +kernel) hc hT hF wi (by exact rfl) ?_
  exact am_wk (Ls' := [.val (.ref 99), .val (.int x1), .unset, .val (.int x3), .val (.ref 0), .val (.int x5), .val (.int x6), .val (.int x7), .val (.int x8), .val (.long y9), .unset, .val (.int x11), .unset, .unset, .unset, .unset, .unset, .unset, .unset, .unset, .unset]) (by simp [wkL]) (okc_q_law_632 hw hc hw0 hsc hn k88 hk88 x1 x3 x5 x6 x7 x8 y9 x11 σ)
def q_law_452 (sn : Nat) (sf : Nat → Int32) (k88 : Int32 → Int32 → Int32 → Int32 → Int32 → Int32 → Int64 → Int32 → Sg → Option (Int32 × Sg)) (x1 : Int32) (x3 : Int32) (x5 : Int32) (x6 : Int32) (x7 : Int32) (x8 : Int32) (y9 : Int64) (x11 : Int32) (x13 : Int32) (σ : Sg) : Option (Int32 × Sg) :=
  (c_undo x13 σ).bind fun r1 => if r1.1 = 0 then (q_law_632 sn sf k88 x1 x3 x5 x6 x7 x8 y9 x11 r1.2) else (some ((0 : Int32), r1.2))
set_option maxRecDepth 65536 in
set_option maxHeartbeats 4000000 in
theorem okc_q_law_452 (hw : WH a0 Z) (hc : Cx p s m meth c Z "BoolUnifierYL6" code 21 (some .boolean) "law") (hw0 : Rd w0 12) (hsc : w0 99 = some (.inr (.int, sn, some sf))) (hn : n0 ≤ h0.size) (k88 : Int32 → Int32 → Int32 → Int32 → Int32 → Int32 → Int64 → Int32 → Sg → Option (Int32 × Sg)) (hk88 : ∀ (x1 : Int32) (x3 : Int32) (x5 : Int32) (x6 : Int32) (x7 : Int32) (x8 : Int32) (y9 : Int64) (x11 : Int32) (σ : Sg), OkR p l e rm_q_law s m args below meth c Z "BoolUnifierY" fsC n0 h0 FL A (wF arrsC w0) 13 2715 88 [.val (.ref 99), .val (.int x1), .unset, .val (.int x3), .val (.ref 0), .val (.int x5), .val (.int x6), .val (.int x7), .val (.int x8), .val (.long y9), .unset, .val (.int x11), .unset, .unset, .unset, .unset, .unset, .unset, .unset, .unset, .unset] [] σ (k88 x1 x3 x5 x6 x7 x8 y9 x11 σ)) (x1 : Int32) (x3 : Int32) (x5 : Int32) (x6 : Int32) (x7 : Int32) (x8 : Int32) (y9 : Int64) (x11 : Int32) (x13 : Int32) (σ : Sg) : OkR p l e rm_q_law s m args below meth c Z "BoolUnifierY" fsC n0 h0 FL A (wF arrsC w0) 13 2715 452 [.val (.ref 99), .val (.int x1), .unset, .val (.int x3), .val (.ref 0), .val (.int x5), .val (.int x6), .val (.int x7), .val (.int x8), .val (.long y9), .unset, .val (.int x11), .unset, .val (.int x13), .unset, .unset, .unset, .unset, .unset, .unset, .unset] [] σ (q_law_452 sn sf k88 x1 x3 x5 x6 x7 x8 y9 x11 x13 σ) := by
  have hT := tabL hw "law"
  have hF := fsokC hw
  have wi := wiC hw
  unfold q_law_452
  refine am_blk (pc' := 456) (Ls' := [.val (.ref 99), .val (.int x1), .unset, .val (.int x3), .val (.ref 0), .val (.int x5), .val (.int x6), .val (.int x7), .val (.int x8), .val (.long y9), .unset, .val (.int x11), .unset, .val (.int x13), .unset, .unset, .unset, .unset, .unset, .unset, .unset]) (St' := [.int x13, .ref 0]) (σ' := σ) [.aload 4, .iload 13] (by decide +kernel) hc hT hF wi (by exact rfl) ?_
  refine am_callV_I (W0 := 0) (argsL := [.int x13]) (rest := []) rfl (lk_L_25 hw) rfl (by decide +kernel) hc (subF hw0) rfl (by show arity "(I)Z" 1 = true; decide +kernel) (ok_c_undo hw x13 _) rfl ⟨by decide, by decide, Nat.le_of_eq rfl, rfl, rfl, by decide, by decide⟩ (fun r1 hr => ?_)
  refine am_if_eq (o := 173) (pc1 := 632) (by decide +kernel) hc (fun hq => ?_) (fun hq => ?_)
  · exact am_wk (Ls' := [.val (.ref 99), .val (.int x1), .unset, .val (.int x3), .val (.ref 0), .val (.int x5), .val (.int x6), .val (.int x7), .val (.int x8), .val (.long y9), .unset, .val (.int x11), .unset, .unset, .unset, .unset, .unset, .unset, .unset, .unset, .unset]) (by simp [wkL]) (okc_q_law_632 hw hc hw0 hsc hn k88 hk88 x1 x3 x5 x6 x7 x8 y9 x11 r1.2)
  · refine am_blk (pc' := 463) (Ls' := [.val (.ref 99), .val (.int x1), .unset, .val (.int x3), .val (.ref 0), .val (.int x5), .val (.int x6), .val (.int x7), .val (.int x8), .val (.long y9), .unset, .val (.int x11), .unset, .val (.int x13), .unset, .unset, .unset, .unset, .unset, .unset, .unset]) (St' := [.int (0 : Int32)]) (σ' := r1.2) [.iconst 0] (by decide +kernel) hc hT hF wi (by exact rfl) ?_
    exact am_retZ (by decide +kernel) hc (by decide) (by decide) (fun h W O => rfl)
def q_law_529 (sn : Nat) (sf : Nat → Int32) (k88 : Int32 → Int32 → Int32 → Int32 → Int32 → Int32 → Int64 → Int32 → Sg → Option (Int32 × Sg)) (x1 : Int32) (x3 : Int32) (x5 : Int32) (x6 : Int32) (x7 : Int32) (x8 : Int32) (y9 : Int64) (x11 : Int32) (σ : Sg) : Option (Int32 × Sg) :=
  q_law_632 sn sf k88 x1 x3 x5 x6 x7 x8 y9 x11 σ
set_option maxRecDepth 65536 in
set_option maxHeartbeats 4000000 in
theorem okc_q_law_529 (hw : WH a0 Z) (hc : Cx p s m meth c Z "BoolUnifierYL6" code 21 (some .boolean) "law") (hw0 : Rd w0 12) (hsc : w0 99 = some (.inr (.int, sn, some sf))) (hn : n0 ≤ h0.size) (k88 : Int32 → Int32 → Int32 → Int32 → Int32 → Int32 → Int64 → Int32 → Sg → Option (Int32 × Sg)) (hk88 : ∀ (x1 : Int32) (x3 : Int32) (x5 : Int32) (x6 : Int32) (x7 : Int32) (x8 : Int32) (y9 : Int64) (x11 : Int32) (σ : Sg), OkR p l e rm_q_law s m args below meth c Z "BoolUnifierY" fsC n0 h0 FL A (wF arrsC w0) 13 2715 88 [.val (.ref 99), .val (.int x1), .unset, .val (.int x3), .val (.ref 0), .val (.int x5), .val (.int x6), .val (.int x7), .val (.int x8), .val (.long y9), .unset, .val (.int x11), .unset, .unset, .unset, .unset, .unset, .unset, .unset, .unset, .unset] [] σ (k88 x1 x3 x5 x6 x7 x8 y9 x11 σ)) (x1 : Int32) (x3 : Int32) (x5 : Int32) (x6 : Int32) (x7 : Int32) (x8 : Int32) (y9 : Int64) (x11 : Int32) (σ : Sg) : OkR p l e rm_q_law s m args below meth c Z "BoolUnifierY" fsC n0 h0 FL A (wF arrsC w0) 13 2715 529 [.val (.ref 99), .val (.int x1), .unset, .val (.int x3), .val (.ref 0), .val (.int x5), .val (.int x6), .val (.int x7), .val (.int x8), .val (.long y9), .unset, .val (.int x11), .unset, .unset, .unset, .unset, .unset, .unset, .unset, .unset, .unset] [] σ (q_law_529 sn sf k88 x1 x3 x5 x6 x7 x8 y9 x11 σ) := by
  have hT := tabL hw "law"
  have hF := fsokC hw
  have wi := wiC hw
  unfold q_law_529
  refine am_blk (pc' := 632) (Ls' := [.val (.ref 99), .val (.int x1), .unset, .val (.int x3), .val (.ref 0), .val (.int x5), .val (.int x6), .val (.int x7), .val (.int x8), .val (.long y9), .unset, .val (.int x11), .unset, .unset, .unset, .unset, .unset, .unset, .unset, .unset, .unset]) (St' := []) (σ' := σ) [.goto 103] (by decide +kernel) hc hT hF wi (by exact rfl) ?_
  exact am_wk (Ls' := [.val (.ref 99), .val (.int x1), .unset, .val (.int x3), .val (.ref 0), .val (.int x5), .val (.int x6), .val (.int x7), .val (.int x8), .val (.long y9), .unset, .val (.int x11), .unset, .unset, .unset, .unset, .unset, .unset, .unset, .unset, .unset]) (by simp [wkL]) (okc_q_law_632 hw hc hw0 hsc hn k88 hk88 x1 x3 x5 x6 x7 x8 y9 x11 σ)
def q_law_492 (sn : Nat) (sf : Nat → Int32) (k88 : Int32 → Int32 → Int32 → Int32 → Int32 → Int32 → Int64 → Int32 → Sg → Option (Int32 × Sg)) (x1 : Int32) (x3 : Int32) (x5 : Int32) (x6 : Int32) (x7 : Int32) (x8 : Int32) (y9 : Int64) (x11 : Int32) (x13 : Int32) (x15 : Int32) (s0 : Int32) (s1 : Int32) (σ : Sg) : Option (Int32 × Sg) :=
  if s1 = s0 then (if x13 < (3 : Int32) then (q_law_529 sn sf k88 x1 x3 (x5 &&& (((255 : Int32) <<< (x15 &&& 31)) ^^^ (-1 : Int32))) (x6 &&& (((255 : Int32) <<< (x15 &&& 31)) ^^^ (-1 : Int32))) x7 x8 y9 x11 σ) else (q_law_529 sn sf k88 x1 x3 x5 x6 x7 x8 y9 x11 σ)) else (some ((0 : Int32), σ))
set_option maxRecDepth 65536 in
set_option maxHeartbeats 4000000 in
theorem okc_q_law_492 (hw : WH a0 Z) (hc : Cx p s m meth c Z "BoolUnifierYL6" code 21 (some .boolean) "law") (hw0 : Rd w0 12) (hsc : w0 99 = some (.inr (.int, sn, some sf))) (hn : n0 ≤ h0.size) (k88 : Int32 → Int32 → Int32 → Int32 → Int32 → Int32 → Int64 → Int32 → Sg → Option (Int32 × Sg)) (hk88 : ∀ (x1 : Int32) (x3 : Int32) (x5 : Int32) (x6 : Int32) (x7 : Int32) (x8 : Int32) (y9 : Int64) (x11 : Int32) (σ : Sg), OkR p l e rm_q_law s m args below meth c Z "BoolUnifierY" fsC n0 h0 FL A (wF arrsC w0) 13 2715 88 [.val (.ref 99), .val (.int x1), .unset, .val (.int x3), .val (.ref 0), .val (.int x5), .val (.int x6), .val (.int x7), .val (.int x8), .val (.long y9), .unset, .val (.int x11), .unset, .unset, .unset, .unset, .unset, .unset, .unset, .unset, .unset] [] σ (k88 x1 x3 x5 x6 x7 x8 y9 x11 σ)) (x1 : Int32) (x3 : Int32) (x5 : Int32) (x6 : Int32) (x7 : Int32) (x8 : Int32) (y9 : Int64) (x11 : Int32) (x13 : Int32) (x15 : Int32) (s0 : Int32) (s1 : Int32) (σ : Sg) : OkR p l e rm_q_law s m args below meth c Z "BoolUnifierY" fsC n0 h0 FL A (wF arrsC w0) 13 2715 492 [.val (.ref 99), .val (.int x1), .unset, .val (.int x3), .val (.ref 0), .val (.int x5), .val (.int x6), .val (.int x7), .val (.int x8), .val (.long y9), .unset, .val (.int x11), .unset, .val (.int x13), .unset, .val (.int x15), .unset, .unset, .unset, .unset, .unset] [.int s0, .int s1] σ (q_law_492 sn sf k88 x1 x3 x5 x6 x7 x8 y9 x11 x13 x15 s0 s1 σ) := by
  have hT := tabL hw "law"
  have hF := fsokC hw
  have wi := wiC hw
  unfold q_law_492
  refine am_icmp_eq (o := 5) (pc1 := 497) (by decide +kernel) hc (fun hq => ?_) (fun hq => ?_)
  · refine am_blk (pc' := 500) (Ls' := [.val (.ref 99), .val (.int x1), .unset, .val (.int x3), .val (.ref 0), .val (.int x5), .val (.int x6), .val (.int x7), .val (.int x8), .val (.long y9), .unset, .val (.int x11), .unset, .val (.int x13), .unset, .val (.int x15), .unset, .unset, .unset, .unset, .unset]) (St' := [.int (3 : Int32), .int x13]) (σ' := σ) [.iload 13, .iconst 3] (by decide +kernel) hc hT hF wi (by exact rfl) ?_
    refine am_icmp_ge (o := 29) (pc1 := 529) (by decide +kernel) hc (fun hq => ?_) (fun hq => ?_)
    · refine am_blk (pc' := 516) (Ls' := [.val (.ref 99), .val (.int x1), .unset, .val (.int x3), .val (.ref 0), .val (.int (x5 &&& (((255 : Int32) <<< (x15 &&& 31)) ^^^ (-1 : Int32)))), .val (.int x6), .val (.int x7), .val (.int x8), .val (.long y9), .unset, .val (.int x11), .unset, .val (.int x13), .unset, .val (.int x15), .unset, .unset, .unset, .unset, .unset]) (St' := []) (σ' := σ) [.iload 5, .sipush 255, .iload 15, .ishl, .iconst (-1), .ixor, .iand, .istore 5] (by decide +kernel) hc hT hF wi (by exact rfl) ?_
      refine am_blk (pc' := 529) (Ls' := [.val (.ref 99), .val (.int x1), .unset, .val (.int x3), .val (.ref 0), .val (.int (x5 &&& (((255 : Int32) <<< (x15 &&& 31)) ^^^ (-1 : Int32)))), .val (.int (x6 &&& (((255 : Int32) <<< (x15 &&& 31)) ^^^ (-1 : Int32)))), .val (.int x7), .val (.int x8), .val (.long y9), .unset, .val (.int x11), .unset, .val (.int x13), .unset, .val (.int x15), .unset, .unset, .unset, .unset, .unset]) (St' := []) (σ' := σ) [.iload 6, .sipush 255, .iload 15, .ishl, .iconst (-1), .ixor, .iand, .istore 6] (by decide +kernel) hc hT hF wi (by exact rfl) ?_
      exact am_wk (Ls' := [.val (.ref 99), .val (.int x1), .unset, .val (.int x3), .val (.ref 0), .val (.int (x5 &&& (((255 : Int32) <<< (x15 &&& 31)) ^^^ (-1 : Int32)))), .val (.int (x6 &&& (((255 : Int32) <<< (x15 &&& 31)) ^^^ (-1 : Int32)))), .val (.int x7), .val (.int x8), .val (.long y9), .unset, .val (.int x11), .unset, .unset, .unset, .unset, .unset, .unset, .unset, .unset, .unset]) (by simp [wkL]) (okc_q_law_529 hw hc hw0 hsc hn k88 hk88 x1 x3 (x5 &&& (((255 : Int32) <<< (x15 &&& 31)) ^^^ (-1 : Int32))) (x6 &&& (((255 : Int32) <<< (x15 &&& 31)) ^^^ (-1 : Int32))) x7 x8 y9 x11 σ)
    · exact am_wk (Ls' := [.val (.ref 99), .val (.int x1), .unset, .val (.int x3), .val (.ref 0), .val (.int x5), .val (.int x6), .val (.int x7), .val (.int x8), .val (.long y9), .unset, .val (.int x11), .unset, .unset, .unset, .unset, .unset, .unset, .unset, .unset, .unset]) (by simp [wkL]) (okc_q_law_529 hw hc hw0 hsc hn k88 hk88 x1 x3 x5 x6 x7 x8 y9 x11 σ)
  · refine am_blk (pc' := 496) (Ls' := [.val (.ref 99), .val (.int x1), .unset, .val (.int x3), .val (.ref 0), .val (.int x5), .val (.int x6), .val (.int x7), .val (.int x8), .val (.long y9), .unset, .val (.int x11), .unset, .val (.int x13), .unset, .val (.int x15), .unset, .unset, .unset, .unset, .unset]) (St' := [.int (0 : Int32)]) (σ' := σ) [.iconst 0] (by decide +kernel) hc hT hF wi (by exact rfl) ?_
    exact am_retZ (by decide +kernel) hc (by decide) (by decide) (fun h W O => rfl)
def q_law_627 (sn : Nat) (sf : Nat → Int32) (k88 : Int32 → Int32 → Int32 → Int32 → Int32 → Int32 → Int64 → Int32 → Sg → Option (Int32 × Sg)) (x1 : Int32) (x3 : Int32) (x5 : Int32) (x6 : Int32) (x7 : Int32) (x8 : Int32) (y9 : Int64) (x11 : Int32) (s0 : Int32) (s1 : Int32) (σ : Sg) : Option (Int32 × Sg) :=
  if s1 = s0 then (q_law_632 sn sf k88 x1 x3 x5 x6 x7 x8 y9 x11 σ) else (some ((0 : Int32), σ))
set_option maxRecDepth 65536 in
set_option maxHeartbeats 4000000 in
theorem okc_q_law_627 (hw : WH a0 Z) (hc : Cx p s m meth c Z "BoolUnifierYL6" code 21 (some .boolean) "law") (hw0 : Rd w0 12) (hsc : w0 99 = some (.inr (.int, sn, some sf))) (hn : n0 ≤ h0.size) (k88 : Int32 → Int32 → Int32 → Int32 → Int32 → Int32 → Int64 → Int32 → Sg → Option (Int32 × Sg)) (hk88 : ∀ (x1 : Int32) (x3 : Int32) (x5 : Int32) (x6 : Int32) (x7 : Int32) (x8 : Int32) (y9 : Int64) (x11 : Int32) (σ : Sg), OkR p l e rm_q_law s m args below meth c Z "BoolUnifierY" fsC n0 h0 FL A (wF arrsC w0) 13 2715 88 [.val (.ref 99), .val (.int x1), .unset, .val (.int x3), .val (.ref 0), .val (.int x5), .val (.int x6), .val (.int x7), .val (.int x8), .val (.long y9), .unset, .val (.int x11), .unset, .unset, .unset, .unset, .unset, .unset, .unset, .unset, .unset] [] σ (k88 x1 x3 x5 x6 x7 x8 y9 x11 σ)) (x1 : Int32) (x3 : Int32) (x5 : Int32) (x6 : Int32) (x7 : Int32) (x8 : Int32) (y9 : Int64) (x11 : Int32) (s0 : Int32) (s1 : Int32) (σ : Sg) : OkR p l e rm_q_law s m args below meth c Z "BoolUnifierY" fsC n0 h0 FL A (wF arrsC w0) 13 2715 627 [.val (.ref 99), .val (.int x1), .unset, .val (.int x3), .val (.ref 0), .val (.int x5), .val (.int x6), .val (.int x7), .val (.int x8), .val (.long y9), .unset, .val (.int x11), .unset, .unset, .unset, .unset, .unset, .unset, .unset, .unset, .unset] [.int s0, .int s1] σ (q_law_627 sn sf k88 x1 x3 x5 x6 x7 x8 y9 x11 s0 s1 σ) := by
  have hT := tabL hw "law"
  have hF := fsokC hw
  have wi := wiC hw
  unfold q_law_627
  refine am_icmp_eq (o := 5) (pc1 := 632) (by decide +kernel) hc (fun hq => ?_) (fun hq => ?_)
  · exact am_wk (Ls' := [.val (.ref 99), .val (.int x1), .unset, .val (.int x3), .val (.ref 0), .val (.int x5), .val (.int x6), .val (.int x7), .val (.int x8), .val (.long y9), .unset, .val (.int x11), .unset, .unset, .unset, .unset, .unset, .unset, .unset, .unset, .unset]) (by simp [wkL]) (okc_q_law_632 hw hc hw0 hsc hn k88 hk88 x1 x3 x5 x6 x7 x8 y9 x11 σ)
  · refine am_blk (pc' := 631) (Ls' := [.val (.ref 99), .val (.int x1), .unset, .val (.int x3), .val (.ref 0), .val (.int x5), .val (.int x6), .val (.int x7), .val (.int x8), .val (.long y9), .unset, .val (.int x11), .unset, .unset, .unset, .unset, .unset, .unset, .unset, .unset, .unset]) (St' := [.int (0 : Int32)]) (σ' := σ) [.iconst 0] (by decide +kernel) hc hT hF wi (by exact rfl) ?_
    exact am_retZ (by decide +kernel) hc (by decide) (by decide) (fun h W O => rfl)
def q_law_615 (sn : Nat) (sf : Nat → Int32) (k88 : Int32 → Int32 → Int32 → Int32 → Int32 → Int32 → Int64 → Int32 → Sg → Option (Int32 × Sg)) (x1 : Int32) (x3 : Int32) (x5 : Int32) (x6 : Int32) (x7 : Int32) (x8 : Int32) (y9 : Int64) (x11 : Int32) (s0 : Int32) (σ : Sg) : Option (Int32 × Sg) :=
  if (XT.cmpL y9 (0 : Int64)) = 0 then (q_law_627 sn sf k88 x1 x3 x5 x6 x7 x8 y9 x11 (1 : Int32) s0 σ) else (q_law_627 sn sf k88 x1 x3 x5 x6 x7 x8 y9 x11 (0 : Int32) s0 σ)
set_option maxRecDepth 65536 in
set_option maxHeartbeats 4000000 in
theorem okc_q_law_615 (hw : WH a0 Z) (hc : Cx p s m meth c Z "BoolUnifierYL6" code 21 (some .boolean) "law") (hw0 : Rd w0 12) (hsc : w0 99 = some (.inr (.int, sn, some sf))) (hn : n0 ≤ h0.size) (k88 : Int32 → Int32 → Int32 → Int32 → Int32 → Int32 → Int64 → Int32 → Sg → Option (Int32 × Sg)) (hk88 : ∀ (x1 : Int32) (x3 : Int32) (x5 : Int32) (x6 : Int32) (x7 : Int32) (x8 : Int32) (y9 : Int64) (x11 : Int32) (σ : Sg), OkR p l e rm_q_law s m args below meth c Z "BoolUnifierY" fsC n0 h0 FL A (wF arrsC w0) 13 2715 88 [.val (.ref 99), .val (.int x1), .unset, .val (.int x3), .val (.ref 0), .val (.int x5), .val (.int x6), .val (.int x7), .val (.int x8), .val (.long y9), .unset, .val (.int x11), .unset, .unset, .unset, .unset, .unset, .unset, .unset, .unset, .unset] [] σ (k88 x1 x3 x5 x6 x7 x8 y9 x11 σ)) (x1 : Int32) (x3 : Int32) (x5 : Int32) (x6 : Int32) (x7 : Int32) (x8 : Int32) (y9 : Int64) (x11 : Int32) (s0 : Int32) (σ : Sg) : OkR p l e rm_q_law s m args below meth c Z "BoolUnifierY" fsC n0 h0 FL A (wF arrsC w0) 13 2715 615 [.val (.ref 99), .val (.int x1), .unset, .val (.int x3), .val (.ref 0), .val (.int x5), .val (.int x6), .val (.int x7), .val (.int x8), .val (.long y9), .unset, .val (.int x11), .unset, .unset, .unset, .unset, .unset, .unset, .unset, .unset, .unset] [.int s0] σ (q_law_615 sn sf k88 x1 x3 x5 x6 x7 x8 y9 x11 s0 σ) := by
  have hT := tabL hw "law"
  have hF := fsokC hw
  have wi := wiC hw
  unfold q_law_615
  refine am_blk (pc' := 619) (Ls' := [.val (.ref 99), .val (.int x1), .unset, .val (.int x3), .val (.ref 0), .val (.int x5), .val (.int x6), .val (.int x7), .val (.int x8), .val (.long y9), .unset, .val (.int x11), .unset, .unset, .unset, .unset, .unset, .unset, .unset, .unset, .unset]) (St' := [.int (XT.cmpL y9 (0 : Int64)), .int s0]) (σ' := σ) [.lload 9, .lconst 0, .lcmp] (by decide +kernel) hc hT hF wi (by exact rfl) ?_
  refine am_if_ne (o := 7) (pc1 := 626) (by decide +kernel) hc (fun hq => ?_) (fun hq => ?_)
  · refine am_blk (pc' := 627) (Ls' := [.val (.ref 99), .val (.int x1), .unset, .val (.int x3), .val (.ref 0), .val (.int x5), .val (.int x6), .val (.int x7), .val (.int x8), .val (.long y9), .unset, .val (.int x11), .unset, .unset, .unset, .unset, .unset, .unset, .unset, .unset, .unset]) (St' := [.int (1 : Int32), .int s0]) (σ' := σ) [.iconst 1, .goto 4] (by decide +kernel) hc hT hF wi (by exact rfl) ?_
    exact am_wk (Ls' := [.val (.ref 99), .val (.int x1), .unset, .val (.int x3), .val (.ref 0), .val (.int x5), .val (.int x6), .val (.int x7), .val (.int x8), .val (.long y9), .unset, .val (.int x11), .unset, .unset, .unset, .unset, .unset, .unset, .unset, .unset, .unset]) (by simp [wkL]) (okc_q_law_627 hw hc hw0 hsc hn k88 hk88 x1 x3 x5 x6 x7 x8 y9 x11 (1 : Int32) s0 σ)
  · refine am_blk (pc' := 627) (Ls' := [.val (.ref 99), .val (.int x1), .unset, .val (.int x3), .val (.ref 0), .val (.int x5), .val (.int x6), .val (.int x7), .val (.int x8), .val (.long y9), .unset, .val (.int x11), .unset, .unset, .unset, .unset, .unset, .unset, .unset, .unset, .unset]) (St' := [.int (0 : Int32), .int s0]) (σ' := σ) [.iconst 0] (by decide +kernel) hc hT hF wi (by exact rfl) ?_
    exact am_wk (Ls' := [.val (.ref 99), .val (.int x1), .unset, .val (.int x3), .val (.ref 0), .val (.int x5), .val (.int x6), .val (.int x7), .val (.int x8), .val (.long y9), .unset, .val (.int x11), .unset, .unset, .unset, .unset, .unset, .unset, .unset, .unset, .unset]) (by simp [wkL]) (okc_q_law_627 hw hc hw0 hsc hn k88 hk88 x1 x3 x5 x6 x7 x8 y9 x11 (0 : Int32) s0 σ)
def q_law_586 (sn : Nat) (sf : Nat → Int32) (k88 : Int32 → Int32 → Int32 → Int32 → Int32 → Int32 → Int64 → Int32 → Sg → Option (Int32 × Sg)) (x1 : Int32) (x3 : Int32) (x5 : Int32) (x6 : Int32) (x11 : Int32) (x14 : Int32) (x18 : Int32) (σ : Sg) : Option (Int32 × Sg) :=
  (c_residue σ).bind fun r1 => if x18 = (1 : Int32) then (q_law_615 sn sf k88 x1 x3 x5 x6 x18 (x14 &&& (63 : Int32)) r1.1 x11 (1 : Int32) r1.2) else (q_law_615 sn sf k88 x1 x3 x5 x6 x18 (x14 &&& (63 : Int32)) r1.1 x11 (0 : Int32) r1.2)
set_option maxRecDepth 65536 in
set_option maxHeartbeats 4000000 in
theorem okc_q_law_586 (hw : WH a0 Z) (hc : Cx p s m meth c Z "BoolUnifierYL6" code 21 (some .boolean) "law") (hw0 : Rd w0 12) (hsc : w0 99 = some (.inr (.int, sn, some sf))) (hn : n0 ≤ h0.size) (k88 : Int32 → Int32 → Int32 → Int32 → Int32 → Int32 → Int64 → Int32 → Sg → Option (Int32 × Sg)) (hk88 : ∀ (x1 : Int32) (x3 : Int32) (x5 : Int32) (x6 : Int32) (x7 : Int32) (x8 : Int32) (y9 : Int64) (x11 : Int32) (σ : Sg), OkR p l e rm_q_law s m args below meth c Z "BoolUnifierY" fsC n0 h0 FL A (wF arrsC w0) 13 2715 88 [.val (.ref 99), .val (.int x1), .unset, .val (.int x3), .val (.ref 0), .val (.int x5), .val (.int x6), .val (.int x7), .val (.int x8), .val (.long y9), .unset, .val (.int x11), .unset, .unset, .unset, .unset, .unset, .unset, .unset, .unset, .unset] [] σ (k88 x1 x3 x5 x6 x7 x8 y9 x11 σ)) (x1 : Int32) (x3 : Int32) (x5 : Int32) (x6 : Int32) (x11 : Int32) (x14 : Int32) (x18 : Int32) (σ : Sg) : OkR p l e rm_q_law s m args below meth c Z "BoolUnifierY" fsC n0 h0 FL A (wF arrsC w0) 13 2715 586 [.val (.ref 99), .val (.int x1), .unset, .val (.int x3), .val (.ref 0), .val (.int x5), .val (.int x6), .unset, .unset, .unset, .unset, .val (.int x11), .unset, .unset, .val (.int x14), .unset, .unset, .unset, .val (.int x18), .unset, .unset] [] σ (q_law_586 sn sf k88 x1 x3 x5 x6 x11 x14 x18 σ) := by
  have hT := tabL hw "law"
  have hF := fsokC hw
  have wi := wiC hw
  unfold q_law_586
  refine am_blk (pc' := 599) (Ls' := [.val (.ref 99), .val (.int x1), .unset, .val (.int x3), .val (.ref 0), .val (.int x5), .val (.int x6), .val (.int x18), .val (.int (x14 &&& (63 : Int32))), .unset, .unset, .val (.int x11), .unset, .unset, .val (.int x14), .unset, .unset, .unset, .val (.int x18), .unset, .unset]) (St' := [.ref 0]) (σ' := σ) [.iload 18, .istore 7, .iload 14, .bipush 63, .iand, .istore 8, .aload 4] (by decide +kernel) hc hT hF wi (by exact rfl) ?_
  refine am_callV_J (W0 := 0) (argsL := []) (rest := []) rfl (lk_L_36 hw) rfl (by decide +kernel) hc (subF hw0) rfl (by show arity "()J" 0 = true; decide +kernel) (ok_c_residue hw _) rfl ⟨by decide, by decide, Nat.le_of_eq rfl, rfl, rfl, by decide, by decide⟩ (fun r1 hr => ?_)
  refine am_blk (pc' := 607) (Ls' := [.val (.ref 99), .val (.int x1), .unset, .val (.int x3), .val (.ref 0), .val (.int x5), .val (.int x6), .val (.int x18), .val (.int (x14 &&& (63 : Int32))), .val (.long r1.1), .second, .val (.int x11), .unset, .unset, .val (.int x14), .unset, .unset, .unset, .val (.int x18), .unset, .unset]) (St' := [.int (1 : Int32), .int x18]) (σ' := r1.2) [.lstore 9, .iload 18, .iconst 1] (by decide +kernel) hc hT hF wi (by exact rfl) ?_
  refine am_icmp_ne (o := 7) (pc1 := 614) (by decide +kernel) hc (fun hq => ?_) (fun hq => ?_)
  · refine am_blk (pc' := 615) (Ls' := [.val (.ref 99), .val (.int x1), .unset, .val (.int x3), .val (.ref 0), .val (.int x5), .val (.int x6), .val (.int x18), .val (.int (x14 &&& (63 : Int32))), .val (.long r1.1), .second, .val (.int x11), .unset, .unset, .val (.int x14), .unset, .unset, .unset, .val (.int x18), .unset, .unset]) (St' := [.int (1 : Int32)]) (σ' := r1.2) [.iconst 1, .goto 4] (by decide +kernel) hc hT hF wi (by exact rfl) ?_
    exact am_wk (Ls' := [.val (.ref 99), .val (.int x1), .unset, .val (.int x3), .val (.ref 0), .val (.int x5), .val (.int x6), .val (.int x18), .val (.int (x14 &&& (63 : Int32))), .val (.long r1.1), .unset, .val (.int x11), .unset, .unset, .unset, .unset, .unset, .unset, .unset, .unset, .unset]) (by simp [wkL]) (okc_q_law_615 hw hc hw0 hsc hn k88 hk88 x1 x3 x5 x6 x18 (x14 &&& (63 : Int32)) r1.1 x11 (1 : Int32) r1.2)
  · refine am_blk (pc' := 615) (Ls' := [.val (.ref 99), .val (.int x1), .unset, .val (.int x3), .val (.ref 0), .val (.int x5), .val (.int x6), .val (.int x18), .val (.int (x14 &&& (63 : Int32))), .val (.long r1.1), .second, .val (.int x11), .unset, .unset, .val (.int x14), .unset, .unset, .unset, .val (.int x18), .unset, .unset]) (St' := [.int (0 : Int32)]) (σ' := r1.2) [.iconst 0] (by decide +kernel) hc hT hF wi (by exact rfl) ?_
    exact am_wk (Ls' := [.val (.ref 99), .val (.int x1), .unset, .val (.int x3), .val (.ref 0), .val (.int x5), .val (.int x6), .val (.int x18), .val (.int (x14 &&& (63 : Int32))), .val (.long r1.1), .unset, .val (.int x11), .unset, .unset, .unset, .unset, .unset, .unset, .unset, .unset, .unset]) (by simp [wkL]) (okc_q_law_615 hw hc hw0 hsc hn k88 hk88 x1 x3 x5 x6 x18 (x14 &&& (63 : Int32)) r1.1 x11 (0 : Int32) r1.2)
def q_law_564 (sn : Nat) (sf : Nat → Int32) (k88 : Int32 → Int32 → Int32 → Int32 → Int32 → Int32 → Int64 → Int32 → Sg → Option (Int32 × Sg)) (x1 : Int32) (x3 : Int32) (x5 : Int32) (x6 : Int32) (x7 : Int32) (x8 : Int32) (y9 : Int64) (x11 : Int32) (x18 : Int32) (σ : Sg) : Option (Int32 × Sg) :=
  if x18 = (-1 : Int32) then (q_law_632 sn sf k88 x1 x3 x5 x6 x7 x8 y9 x11 σ) else (some ((0 : Int32), σ))
set_option maxRecDepth 65536 in
set_option maxHeartbeats 4000000 in
theorem okc_q_law_564 (hw : WH a0 Z) (hc : Cx p s m meth c Z "BoolUnifierYL6" code 21 (some .boolean) "law") (hw0 : Rd w0 12) (hsc : w0 99 = some (.inr (.int, sn, some sf))) (hn : n0 ≤ h0.size) (k88 : Int32 → Int32 → Int32 → Int32 → Int32 → Int32 → Int64 → Int32 → Sg → Option (Int32 × Sg)) (hk88 : ∀ (x1 : Int32) (x3 : Int32) (x5 : Int32) (x6 : Int32) (x7 : Int32) (x8 : Int32) (y9 : Int64) (x11 : Int32) (σ : Sg), OkR p l e rm_q_law s m args below meth c Z "BoolUnifierY" fsC n0 h0 FL A (wF arrsC w0) 13 2715 88 [.val (.ref 99), .val (.int x1), .unset, .val (.int x3), .val (.ref 0), .val (.int x5), .val (.int x6), .val (.int x7), .val (.int x8), .val (.long y9), .unset, .val (.int x11), .unset, .unset, .unset, .unset, .unset, .unset, .unset, .unset, .unset] [] σ (k88 x1 x3 x5 x6 x7 x8 y9 x11 σ)) (x1 : Int32) (x3 : Int32) (x5 : Int32) (x6 : Int32) (x7 : Int32) (x8 : Int32) (y9 : Int64) (x11 : Int32) (x18 : Int32) (σ : Sg) : OkR p l e rm_q_law s m args below meth c Z "BoolUnifierY" fsC n0 h0 FL A (wF arrsC w0) 13 2715 564 [.val (.ref 99), .val (.int x1), .unset, .val (.int x3), .val (.ref 0), .val (.int x5), .val (.int x6), .val (.int x7), .val (.int x8), .val (.long y9), .unset, .val (.int x11), .unset, .unset, .unset, .unset, .unset, .unset, .val (.int x18), .unset, .unset] [] σ (q_law_564 sn sf k88 x1 x3 x5 x6 x7 x8 y9 x11 x18 σ) := by
  have hT := tabL hw "law"
  have hF := fsokC hw
  have wi := wiC hw
  unfold q_law_564
  refine am_blk (pc' := 567) (Ls' := [.val (.ref 99), .val (.int x1), .unset, .val (.int x3), .val (.ref 0), .val (.int x5), .val (.int x6), .val (.int x7), .val (.int x8), .val (.long y9), .unset, .val (.int x11), .unset, .unset, .unset, .unset, .unset, .unset, .val (.int x18), .unset, .unset]) (St' := [.int (-1 : Int32), .int x18]) (σ' := σ) [.iload 18, .iconst (-1)] (by decide +kernel) hc hT hF wi (by exact rfl) ?_
  refine am_icmp_eq (o := 65) (pc1 := 632) (by decide +kernel) hc (fun hq => ?_) (fun hq => ?_)
  · exact am_wk (Ls' := [.val (.ref 99), .val (.int x1), .unset, .val (.int x3), .val (.ref 0), .val (.int x5), .val (.int x6), .val (.int x7), .val (.int x8), .val (.long y9), .unset, .val (.int x11), .unset, .unset, .unset, .unset, .unset, .unset, .unset, .unset, .unset]) (by simp [wkL]) (okc_q_law_632 hw hc hw0 hsc hn k88 hk88 x1 x3 x5 x6 x7 x8 y9 x11 σ)
  · refine am_blk (pc' := 571) (Ls' := [.val (.ref 99), .val (.int x1), .unset, .val (.int x3), .val (.ref 0), .val (.int x5), .val (.int x6), .val (.int x7), .val (.int x8), .val (.long y9), .unset, .val (.int x11), .unset, .unset, .unset, .unset, .unset, .unset, .val (.int x18), .unset, .unset]) (St' := [.int (0 : Int32)]) (σ' := σ) [.iconst 0] (by decide +kernel) hc hT hF wi (by exact rfl) ?_
    exact am_retZ (by decide +kernel) hc (by decide) (by decide) (fun h W O => rfl)
def q_law_170 (sn : Nat) (sf : Nat → Int32) (k88 : Int32 → Int32 → Int32 → Int32 → Int32 → Int32 → Int64 → Int32 → Sg → Option (Int32 × Sg)) (x1 : Int32) (x3 : Int32) (x5 : Int32) (x6 : Int32) (x7 : Int32) (x8 : Int32) (y9 : Int64) (x11 : Int32) (x12 : Int32) (x13 : Int32) (x14 : Int32) (x15 : Int32) (x16 : Int32) (s0 : Int32) (σ : Sg) : Option (Int32 × Sg) :=
  if x12 < (4 : Int32) then ((c_push x13 (x14 &&& (15 : Int32)) σ).bind fun r1 => if x13 < (3 : Int32) then (if (13 : Int32) < (x14 &&& (15 : Int32)) then (q_law_244 sn sf k88 x1 x3 x5 x6 x7 x8 y9 x11 x13 x15 x16 (x14 &&& (15 : Int32)) r1.1 r1.2) else (if x16 < x3 then (if (x14 &&& (15 : Int32)) = (8 : Int32) then (if s0 = 0 then (q_law_244 sn sf k88 x1 x3 x5 x6 x7 x8 y9 x11 x13 x15 x16 (x14 &&& (15 : Int32)) r1.1 r1.2) else (q_law_227 sn sf k88 x1 x3 x5 x6 x7 x8 y9 x11 x13 x15 x16 s0 (x14 &&& (15 : Int32)) r1.1 r1.2)) else (q_law_227 sn sf k88 x1 x3 x5 x6 x7 x8 y9 x11 x13 x15 x16 s0 (x14 &&& (15 : Int32)) r1.1 r1.2)) else (q_law_244 sn sf k88 x1 x3 x5 x6 x7 x8 y9 x11 x13 x15 x16 (x14 &&& (15 : Int32)) r1.1 r1.2))) else (q_law_244 sn sf k88 x1 x3 x5 x6 x7 x8 y9 x11 x13 x15 x16 (x14 &&& (15 : Int32)) r1.1 r1.2)) else (if x12 = (4 : Int32) then (if x13 < (3 : Int32) then (if 0 < x16 then ((c_code x13 (x16 - (1 : Int32)) σ).bind fun r2 => if r2.1 < 0 then (some ((0 : Int32), r2.2)) else (if (13 : Int32) < r2.1 then (some ((0 : Int32), r2.2)) else ((c_undo x13 r2.2).bind fun r3 => if r3.1 = 0 then (some ((0 : Int32), r3.2)) else ((c_code x13 (x16 - (1 : Int32)) r3.2).bind fun r4 => if r4.1 = (-1 : Int32) then (if (7 : Int32) < r2.1 then (if r2.1 < (9 : Int32) then (q_law_449 sn sf k88 x1 x3 (x5 - ((1 : Int32) <<< (x15 &&& 31))) x6 x7 x8 y9 x11 r4.2) else (q_law_449 sn sf k88 x1 x3 (x5 - ((1 : Int32) <<< (x15 &&& 31))) (x6 + ((1 : Int32) <<< (x15 &&& 31))) x7 x8 y9 x11 r4.2)) else (q_law_449 sn sf k88 x1 x3 (x5 - ((1 : Int32) <<< (x15 &&& 31))) (x6 - ((1 : Int32) <<< (x15 &&& 31))) x7 x8 y9 x11 r4.2)) else (some ((0 : Int32), r4.2)))))) else (q_law_452 sn sf k88 x1 x3 x5 x6 x7 x8 y9 x11 x13 σ)) else (q_law_452 sn sf k88 x1 x3 x5 x6 x7 x8 y9 x11 x13 σ)) else (if x12 = (5 : Int32) then ((c_clear x13 σ).bind fun r5 => if x13 < (3 : Int32) then (q_law_492 sn sf k88 x1 x3 x5 x6 x7 x8 y9 x11 x13 x15 (1 : Int32) r5.1 r5.2) else (q_law_492 sn sf k88 x1 x3 x5 x6 x7 x8 y9 x11 x13 x15 (0 : Int32) r5.1 r5.2)) else ((c_solve x14 σ).bind fun r6 => if (x6 &&& (255 : Int32)) = (1 : Int32) then (if ((x6 >>> ((8 : Int32) &&& 31)) &&& (255 : Int32)) = (1 : Int32) then (if r6.1 = (1 : Int32) then (q_law_586 sn sf k88 x1 x3 x5 x6 x11 x14 r6.1 r6.2) else (if r6.1 = (2 : Int32) then (q_law_586 sn sf k88 x1 x3 x5 x6 x11 x14 r6.1 r6.2) else (some ((0 : Int32), r6.2)))) else (q_law_564 sn sf k88 x1 x3 x5 x6 x7 x8 y9 x11 r6.1 r6.2)) else (q_law_564 sn sf k88 x1 x3 x5 x6 x7 x8 y9 x11 r6.1 r6.2))))
set_option maxRecDepth 65536 in
set_option maxHeartbeats 4000000 in
theorem okc_q_law_170 (hw : WH a0 Z) (hc : Cx p s m meth c Z "BoolUnifierYL6" code 21 (some .boolean) "law") (hw0 : Rd w0 12) (hsc : w0 99 = some (.inr (.int, sn, some sf))) (hn : n0 ≤ h0.size) (k88 : Int32 → Int32 → Int32 → Int32 → Int32 → Int32 → Int64 → Int32 → Sg → Option (Int32 × Sg)) (hk88 : ∀ (x1 : Int32) (x3 : Int32) (x5 : Int32) (x6 : Int32) (x7 : Int32) (x8 : Int32) (y9 : Int64) (x11 : Int32) (σ : Sg), OkR p l e rm_q_law s m args below meth c Z "BoolUnifierY" fsC n0 h0 FL A (wF arrsC w0) 13 2715 88 [.val (.ref 99), .val (.int x1), .unset, .val (.int x3), .val (.ref 0), .val (.int x5), .val (.int x6), .val (.int x7), .val (.int x8), .val (.long y9), .unset, .val (.int x11), .unset, .unset, .unset, .unset, .unset, .unset, .unset, .unset, .unset] [] σ (k88 x1 x3 x5 x6 x7 x8 y9 x11 σ)) (x1 : Int32) (x3 : Int32) (x5 : Int32) (x6 : Int32) (x7 : Int32) (x8 : Int32) (y9 : Int64) (x11 : Int32) (x12 : Int32) (x13 : Int32) (x14 : Int32) (x15 : Int32) (x16 : Int32) (s0 : Int32) (σ : Sg) : OkR p l e rm_q_law s m args below meth c Z "BoolUnifierY" fsC n0 h0 FL A (wF arrsC w0) 13 2715 170 [.val (.ref 99), .val (.int x1), .unset, .val (.int x3), .val (.ref 0), .val (.int x5), .val (.int x6), .val (.int x7), .val (.int x8), .val (.long y9), .unset, .val (.int x11), .val (.int x12), .val (.int x13), .val (.int x14), .val (.int x15), .val (.int x16), .unset, .unset, .unset, .unset] [.int s0] σ (q_law_170 sn sf k88 x1 x3 x5 x6 x7 x8 y9 x11 x12 x13 x14 x15 x16 s0 σ) := by
  have hT := tabL hw "law"
  have hF := fsokC hw
  have wi := wiC hw
  unfold q_law_170
  refine am_blk (pc' := 175) (Ls' := [.val (.ref 99), .val (.int x1), .unset, .val (.int x3), .val (.ref 0), .val (.int x5), .val (.int x6), .val (.int x7), .val (.int x8), .val (.long y9), .unset, .val (.int x11), .val (.int x12), .val (.int x13), .val (.int x14), .val (.int x15), .val (.int x16), .val (.int s0), .unset, .unset, .unset]) (St' := [.int (4 : Int32), .int x12]) (σ' := σ) [.istore 17, .iload 12, .iconst 4] (by decide +kernel) hc hT hF wi (by exact rfl) ?_
  refine am_icmp_ge (o := 157) (pc1 := 332) (by decide +kernel) hc (fun hq => ?_) (fun hq => ?_)
  · refine am_blk (pc' := 191) (Ls' := [.val (.ref 99), .val (.int x1), .unset, .val (.int x3), .val (.ref 0), .val (.int x5), .val (.int x6), .val (.int x7), .val (.int x8), .val (.long y9), .unset, .val (.int x11), .val (.int x12), .val (.int x13), .val (.int x14), .val (.int x15), .val (.int x16), .val (.int s0), .val (.int (x14 &&& (15 : Int32))), .unset, .unset]) (St' := [.int (x14 &&& (15 : Int32)), .int x13, .ref 0]) (σ' := σ) [.iload 14, .bipush 15, .iand, .istore 18, .aload 4, .iload 13, .iload 18] (by decide +kernel) hc hT hF wi (by exact rfl) ?_
    refine am_callV_I (W0 := 0) (argsL := [.int x13, .int (x14 &&& (15 : Int32))]) (rest := []) rfl (lk_L_18 hw) rfl (by decide +kernel) hc (subF hw0) rfl (by show arity "(II)I" 2 = true; decide +kernel) (ok_c_push hw x13 (x14 &&& (15 : Int32)) _) rfl ⟨by decide, by decide, Nat.le_of_eq rfl, rfl, rfl, by decide, by decide⟩ (fun r1 hr => ?_)
    refine am_blk (pc' := 199) (Ls' := [.val (.ref 99), .val (.int x1), .unset, .val (.int x3), .val (.ref 0), .val (.int x5), .val (.int x6), .val (.int x7), .val (.int x8), .val (.long y9), .unset, .val (.int x11), .val (.int x12), .val (.int x13), .val (.int x14), .val (.int x15), .val (.int x16), .val (.int s0), .val (.int (x14 &&& (15 : Int32))), .val (.int r1.1), .unset]) (St' := [.int (3 : Int32), .int x13]) (σ' := r1.2) [.istore 19, .iload 13, .iconst 3] (by decide +kernel) hc hT hF wi (by exact rfl) ?_
    refine am_icmp_ge (o := 45) (pc1 := 244) (by decide +kernel) hc (fun hq => ?_) (fun hq => ?_)
    · refine am_blk (pc' := 206) (Ls' := [.val (.ref 99), .val (.int x1), .unset, .val (.int x3), .val (.ref 0), .val (.int x5), .val (.int x6), .val (.int x7), .val (.int x8), .val (.long y9), .unset, .val (.int x11), .val (.int x12), .val (.int x13), .val (.int x14), .val (.int x15), .val (.int x16), .val (.int s0), .val (.int (x14 &&& (15 : Int32))), .val (.int r1.1), .unset]) (St' := [.int (13 : Int32), .int (x14 &&& (15 : Int32))]) (σ' := r1.2) [.iload 18, .bipush 13] (by decide +kernel) hc hT hF wi (by exact rfl) ?_
      refine am_icmp_gt (o := 38) (pc1 := 244) (by decide +kernel) hc (fun hq => ?_) (fun hq => ?_)
      · exact am_wk (Ls' := [.val (.ref 99), .val (.int x1), .unset, .val (.int x3), .val (.ref 0), .val (.int x5), .val (.int x6), .val (.int x7), .val (.int x8), .val (.long y9), .unset, .val (.int x11), .unset, .val (.int x13), .unset, .val (.int x15), .val (.int x16), .unset, .val (.int (x14 &&& (15 : Int32))), .val (.int r1.1), .unset]) (by simp [wkL]) (okc_q_law_244 hw hc hw0 hsc hn k88 hk88 x1 x3 x5 x6 x7 x8 y9 x11 x13 x15 x16 (x14 &&& (15 : Int32)) r1.1 r1.2)
      · refine am_blk (pc' := 212) (Ls' := [.val (.ref 99), .val (.int x1), .unset, .val (.int x3), .val (.ref 0), .val (.int x5), .val (.int x6), .val (.int x7), .val (.int x8), .val (.long y9), .unset, .val (.int x11), .val (.int x12), .val (.int x13), .val (.int x14), .val (.int x15), .val (.int x16), .val (.int s0), .val (.int (x14 &&& (15 : Int32))), .val (.int r1.1), .unset]) (St' := [.int x3, .int x16]) (σ' := r1.2) [.iload 16, .iload_n 3] (by decide +kernel) hc hT hF wi (by exact rfl) ?_
        refine am_icmp_ge (o := 32) (pc1 := 244) (by decide +kernel) hc (fun hq => ?_) (fun hq => ?_)
        · refine am_blk (pc' := 219) (Ls' := [.val (.ref 99), .val (.int x1), .unset, .val (.int x3), .val (.ref 0), .val (.int x5), .val (.int x6), .val (.int x7), .val (.int x8), .val (.long y9), .unset, .val (.int x11), .val (.int x12), .val (.int x13), .val (.int x14), .val (.int x15), .val (.int x16), .val (.int s0), .val (.int (x14 &&& (15 : Int32))), .val (.int r1.1), .unset]) (St' := [.int (8 : Int32), .int (x14 &&& (15 : Int32))]) (σ' := r1.2) [.iload 18, .bipush 8] (by decide +kernel) hc hT hF wi (by exact rfl) ?_
          refine am_icmp_ne (o := 8) (pc1 := 227) (by decide +kernel) hc (fun hq => ?_) (fun hq => ?_)
          · refine am_blk (pc' := 224) (Ls' := [.val (.ref 99), .val (.int x1), .unset, .val (.int x3), .val (.ref 0), .val (.int x5), .val (.int x6), .val (.int x7), .val (.int x8), .val (.long y9), .unset, .val (.int x11), .val (.int x12), .val (.int x13), .val (.int x14), .val (.int x15), .val (.int x16), .val (.int s0), .val (.int (x14 &&& (15 : Int32))), .val (.int r1.1), .unset]) (St' := [.int s0]) (σ' := r1.2) [.iload 17] (by decide +kernel) hc hT hF wi (by exact rfl) ?_
            refine am_if_eq (o := 20) (pc1 := 244) (by decide +kernel) hc (fun hq => ?_) (fun hq => ?_)
            · exact am_wk (Ls' := [.val (.ref 99), .val (.int x1), .unset, .val (.int x3), .val (.ref 0), .val (.int x5), .val (.int x6), .val (.int x7), .val (.int x8), .val (.long y9), .unset, .val (.int x11), .unset, .val (.int x13), .unset, .val (.int x15), .val (.int x16), .unset, .val (.int (x14 &&& (15 : Int32))), .val (.int r1.1), .unset]) (by simp [wkL]) (okc_q_law_244 hw hc hw0 hsc hn k88 hk88 x1 x3 x5 x6 x7 x8 y9 x11 x13 x15 x16 (x14 &&& (15 : Int32)) r1.1 r1.2)
            · exact am_wk (Ls' := [.val (.ref 99), .val (.int x1), .unset, .val (.int x3), .val (.ref 0), .val (.int x5), .val (.int x6), .val (.int x7), .val (.int x8), .val (.long y9), .unset, .val (.int x11), .unset, .val (.int x13), .unset, .val (.int x15), .val (.int x16), .val (.int s0), .val (.int (x14 &&& (15 : Int32))), .val (.int r1.1), .unset]) (by simp [wkL]) (okc_q_law_227 hw hc hw0 hsc hn k88 hk88 x1 x3 x5 x6 x7 x8 y9 x11 x13 x15 x16 s0 (x14 &&& (15 : Int32)) r1.1 r1.2)
          · exact am_wk (Ls' := [.val (.ref 99), .val (.int x1), .unset, .val (.int x3), .val (.ref 0), .val (.int x5), .val (.int x6), .val (.int x7), .val (.int x8), .val (.long y9), .unset, .val (.int x11), .unset, .val (.int x13), .unset, .val (.int x15), .val (.int x16), .val (.int s0), .val (.int (x14 &&& (15 : Int32))), .val (.int r1.1), .unset]) (by simp [wkL]) (okc_q_law_227 hw hc hw0 hsc hn k88 hk88 x1 x3 x5 x6 x7 x8 y9 x11 x13 x15 x16 s0 (x14 &&& (15 : Int32)) r1.1 r1.2)
        · exact am_wk (Ls' := [.val (.ref 99), .val (.int x1), .unset, .val (.int x3), .val (.ref 0), .val (.int x5), .val (.int x6), .val (.int x7), .val (.int x8), .val (.long y9), .unset, .val (.int x11), .unset, .val (.int x13), .unset, .val (.int x15), .val (.int x16), .unset, .val (.int (x14 &&& (15 : Int32))), .val (.int r1.1), .unset]) (by simp [wkL]) (okc_q_law_244 hw hc hw0 hsc hn k88 hk88 x1 x3 x5 x6 x7 x8 y9 x11 x13 x15 x16 (x14 &&& (15 : Int32)) r1.1 r1.2)
    · exact am_wk (Ls' := [.val (.ref 99), .val (.int x1), .unset, .val (.int x3), .val (.ref 0), .val (.int x5), .val (.int x6), .val (.int x7), .val (.int x8), .val (.long y9), .unset, .val (.int x11), .unset, .val (.int x13), .unset, .val (.int x15), .val (.int x16), .unset, .val (.int (x14 &&& (15 : Int32))), .val (.int r1.1), .unset]) (by simp [wkL]) (okc_q_law_244 hw hc hw0 hsc hn k88 hk88 x1 x3 x5 x6 x7 x8 y9 x11 x13 x15 x16 (x14 &&& (15 : Int32)) r1.1 r1.2)
  · refine am_blk (pc' := 335) (Ls' := [.val (.ref 99), .val (.int x1), .unset, .val (.int x3), .val (.ref 0), .val (.int x5), .val (.int x6), .val (.int x7), .val (.int x8), .val (.long y9), .unset, .val (.int x11), .val (.int x12), .val (.int x13), .val (.int x14), .val (.int x15), .val (.int x16), .val (.int s0), .unset, .unset, .unset]) (St' := [.int (4 : Int32), .int x12]) (σ' := σ) [.iload 12, .iconst 4] (by decide +kernel) hc hT hF wi (by exact rfl) ?_
    refine am_icmp_ne (o := 129) (pc1 := 464) (by decide +kernel) hc (fun hq => ?_) (fun hq => ?_)
    · refine am_blk (pc' := 341) (Ls' := [.val (.ref 99), .val (.int x1), .unset, .val (.int x3), .val (.ref 0), .val (.int x5), .val (.int x6), .val (.int x7), .val (.int x8), .val (.long y9), .unset, .val (.int x11), .val (.int x12), .val (.int x13), .val (.int x14), .val (.int x15), .val (.int x16), .val (.int s0), .unset, .unset, .unset]) (St' := [.int (3 : Int32), .int x13]) (σ' := σ) [.iload 13, .iconst 3] (by decide +kernel) hc hT hF wi (by exact rfl) ?_
      refine am_icmp_ge (o := 111) (pc1 := 452) (by decide +kernel) hc (fun hq => ?_) (fun hq => ?_)
      · refine am_blk (pc' := 346) (Ls' := [.val (.ref 99), .val (.int x1), .unset, .val (.int x3), .val (.ref 0), .val (.int x5), .val (.int x6), .val (.int x7), .val (.int x8), .val (.long y9), .unset, .val (.int x11), .val (.int x12), .val (.int x13), .val (.int x14), .val (.int x15), .val (.int x16), .val (.int s0), .unset, .unset, .unset]) (St' := [.int x16]) (σ' := σ) [.iload 16] (by decide +kernel) hc hT hF wi (by exact rfl) ?_
        refine am_if_le (o := 106) (pc1 := 452) (by decide +kernel) hc (fun hq => ?_) (fun hq => ?_)
        · refine am_blk (pc' := 357) (Ls' := [.val (.ref 99), .val (.int x1), .unset, .val (.int x3), .val (.ref 0), .val (.int x5), .val (.int x6), .val (.int x7), .val (.int x8), .val (.long y9), .unset, .val (.int x11), .val (.int x12), .val (.int x13), .val (.int x14), .val (.int x15), .val (.int x16), .val (.int s0), .unset, .unset, .unset]) (St' := [.int (x16 - (1 : Int32)), .int x13, .ref 0]) (σ' := σ) [.aload 4, .iload 13, .iload 16, .iconst 1, .isub] (by decide +kernel) hc hT hF wi (by exact rfl) ?_
          refine am_callV_I (W0 := 0) (argsL := [.int x13, .int (x16 - (1 : Int32))]) (rest := []) rfl (lk_L_22 hw) rfl (by decide +kernel) hc (subF hw0) rfl (by show arity "(II)I" 2 = true; decide +kernel) (ok_c_code hw x13 (x16 - (1 : Int32)) _) rfl ⟨by decide, by decide, Nat.le_of_eq rfl, rfl, rfl, by decide, by decide⟩ (fun r2 hr => ?_)
          refine am_blk (pc' := 364) (Ls' := [.val (.ref 99), .val (.int x1), .unset, .val (.int x3), .val (.ref 0), .val (.int x5), .val (.int x6), .val (.int x7), .val (.int x8), .val (.long y9), .unset, .val (.int x11), .val (.int x12), .val (.int x13), .val (.int x14), .val (.int x15), .val (.int x16), .val (.int s0), .val (.int r2.1), .unset, .unset]) (St' := [.int r2.1]) (σ' := r2.2) [.istore 18, .iload 18] (by decide +kernel) hc hT hF wi (by exact rfl) ?_
          refine am_if_lt (o := 10) (pc1 := 374) (by decide +kernel) hc (fun hq => ?_) (fun hq => ?_)
          · refine am_blk (pc' := 375) (Ls' := [.val (.ref 99), .val (.int x1), .unset, .val (.int x3), .val (.ref 0), .val (.int x5), .val (.int x6), .val (.int x7), .val (.int x8), .val (.long y9), .unset, .val (.int x11), .val (.int x12), .val (.int x13), .val (.int x14), .val (.int x15), .val (.int x16), .val (.int s0), .val (.int r2.1), .unset, .unset]) (St' := [.int (0 : Int32)]) (σ' := r2.2) [.iconst 0] (by decide +kernel) hc hT hF wi (by exact rfl) ?_
            exact am_retZ (by decide +kernel) hc (by decide) (by decide) (fun h W O => rfl)
          · refine am_blk (pc' := 371) (Ls' := [.val (.ref 99), .val (.int x1), .unset, .val (.int x3), .val (.ref 0), .val (.int x5), .val (.int x6), .val (.int x7), .val (.int x8), .val (.long y9), .unset, .val (.int x11), .val (.int x12), .val (.int x13), .val (.int x14), .val (.int x15), .val (.int x16), .val (.int s0), .val (.int r2.1), .unset, .unset]) (St' := [.int (13 : Int32), .int r2.1]) (σ' := r2.2) [.iload 18, .bipush 13] (by decide +kernel) hc hT hF wi (by exact rfl) ?_
            refine am_icmp_le (o := 5) (pc1 := 376) (by decide +kernel) hc (fun hq => ?_) (fun hq => ?_)
            · refine am_blk (pc' := 375) (Ls' := [.val (.ref 99), .val (.int x1), .unset, .val (.int x3), .val (.ref 0), .val (.int x5), .val (.int x6), .val (.int x7), .val (.int x8), .val (.long y9), .unset, .val (.int x11), .val (.int x12), .val (.int x13), .val (.int x14), .val (.int x15), .val (.int x16), .val (.int s0), .val (.int r2.1), .unset, .unset]) (St' := [.int (0 : Int32)]) (σ' := r2.2) [.iconst 0] (by decide +kernel) hc hT hF wi (by exact rfl) ?_
              exact am_retZ (by decide +kernel) hc (by decide) (by decide) (fun h W O => rfl)
            · refine am_blk (pc' := 380) (Ls' := [.val (.ref 99), .val (.int x1), .unset, .val (.int x3), .val (.ref 0), .val (.int x5), .val (.int x6), .val (.int x7), .val (.int x8), .val (.long y9), .unset, .val (.int x11), .val (.int x12), .val (.int x13), .val (.int x14), .val (.int x15), .val (.int x16), .val (.int s0), .val (.int r2.1), .unset, .unset]) (St' := [.int x13, .ref 0]) (σ' := r2.2) [.aload 4, .iload 13] (by decide +kernel) hc hT hF wi (by exact rfl) ?_
              refine am_callV_I (W0 := 0) (argsL := [.int x13]) (rest := []) rfl (lk_L_25 hw) rfl (by decide +kernel) hc (subF hw0) rfl (by show arity "(I)Z" 1 = true; decide +kernel) (ok_c_undo hw x13 _) rfl ⟨by decide, by decide, Nat.le_of_eq rfl, rfl, rfl, by decide, by decide⟩ (fun r3 hr => ?_)
              refine am_if_ne (o := 5) (pc1 := 388) (by decide +kernel) hc (fun hq => ?_) (fun hq => ?_)
              · refine am_blk (pc' := 387) (Ls' := [.val (.ref 99), .val (.int x1), .unset, .val (.int x3), .val (.ref 0), .val (.int x5), .val (.int x6), .val (.int x7), .val (.int x8), .val (.long y9), .unset, .val (.int x11), .val (.int x12), .val (.int x13), .val (.int x14), .val (.int x15), .val (.int x16), .val (.int s0), .val (.int r2.1), .unset, .unset]) (St' := [.int (0 : Int32)]) (σ' := r3.2) [.iconst 0] (by decide +kernel) hc hT hF wi (by exact rfl) ?_
                exact am_retZ (by decide +kernel) hc (by decide) (by decide) (fun h W O => rfl)
              · refine am_blk (pc' := 396) (Ls' := [.val (.ref 99), .val (.int x1), .unset, .val (.int x3), .val (.ref 0), .val (.int x5), .val (.int x6), .val (.int x7), .val (.int x8), .val (.long y9), .unset, .val (.int x11), .val (.int x12), .val (.int x13), .val (.int x14), .val (.int x15), .val (.int x16), .val (.int s0), .val (.int r2.1), .unset, .unset]) (St' := [.int (x16 - (1 : Int32)), .int x13, .ref 0]) (σ' := r3.2) [.aload 4, .iload 13, .iload 16, .iconst 1, .isub] (by decide +kernel) hc hT hF wi (by exact rfl) ?_
                refine am_callV_I (W0 := 0) (argsL := [.int x13, .int (x16 - (1 : Int32))]) (rest := []) rfl (lk_L_22 hw) rfl (by decide +kernel) hc (subF hw0) rfl (by show arity "(II)I" 2 = true; decide +kernel) (ok_c_code hw x13 (x16 - (1 : Int32)) _) rfl ⟨by decide, by decide, Nat.le_of_eq rfl, rfl, rfl, by decide, by decide⟩ (fun r4 hr => ?_)
                refine am_blk (pc' := 400) (Ls' := [.val (.ref 99), .val (.int x1), .unset, .val (.int x3), .val (.ref 0), .val (.int x5), .val (.int x6), .val (.int x7), .val (.int x8), .val (.long y9), .unset, .val (.int x11), .val (.int x12), .val (.int x13), .val (.int x14), .val (.int x15), .val (.int x16), .val (.int s0), .val (.int r2.1), .unset, .unset]) (St' := [.int (-1 : Int32), .int r4.1]) (σ' := r4.2) [.iconst (-1)] (by decide +kernel) hc hT hF wi (by exact rfl) ?_
                refine am_icmp_eq (o := 5) (pc1 := 405) (by decide +kernel) hc (fun hq => ?_) (fun hq => ?_)
                · refine am_blk (pc' := 418) (Ls' := [.val (.ref 99), .val (.int x1), .unset, .val (.int x3), .val (.ref 0), .val (.int (x5 - ((1 : Int32) <<< (x15 &&& 31)))), .val (.int x6), .val (.int x7), .val (.int x8), .val (.long y9), .unset, .val (.int x11), .val (.int x12), .val (.int x13), .val (.int x14), .val (.int x15), .val (.int x16), .val (.int s0), .val (.int r2.1), .unset, .unset]) (St' := [.int (7 : Int32), .int r2.1]) (σ' := r4.2) [.iload 5, .iconst 1, .iload 15, .ishl, .isub, .istore 5, .iload 18, .bipush 7] (by decide +kernel) hc hT hF wi (by exact rfl) ?_
                  refine am_icmp_gt (o := 15) (pc1 := 433) (by decide +kernel) hc (fun hq => ?_) (fun hq => ?_)
                  · refine am_blk (pc' := 437) (Ls' := [.val (.ref 99), .val (.int x1), .unset, .val (.int x3), .val (.ref 0), .val (.int (x5 - ((1 : Int32) <<< (x15 &&& 31)))), .val (.int x6), .val (.int x7), .val (.int x8), .val (.long y9), .unset, .val (.int x11), .val (.int x12), .val (.int x13), .val (.int x14), .val (.int x15), .val (.int x16), .val (.int s0), .val (.int r2.1), .unset, .unset]) (St' := [.int (9 : Int32), .int r2.1]) (σ' := r4.2) [.iload 18, .bipush 9] (by decide +kernel) hc hT hF wi (by exact rfl) ?_
                    refine am_icmp_lt (o := 12) (pc1 := 449) (by decide +kernel) hc (fun hq => ?_) (fun hq => ?_)
                    · exact am_wk (Ls' := [.val (.ref 99), .val (.int x1), .unset, .val (.int x3), .val (.ref 0), .val (.int (x5 - ((1 : Int32) <<< (x15 &&& 31)))), .val (.int x6), .val (.int x7), .val (.int x8), .val (.long y9), .unset, .val (.int x11), .unset, .unset, .unset, .unset, .unset, .unset, .unset, .unset, .unset]) (by simp [wkL]) (okc_q_law_449 hw hc hw0 hsc hn k88 hk88 x1 x3 (x5 - ((1 : Int32) <<< (x15 &&& 31))) x6 x7 x8 y9 x11 r4.2)
                    · refine am_blk (pc' := 449) (Ls' := [.val (.ref 99), .val (.int x1), .unset, .val (.int x3), .val (.ref 0), .val (.int (x5 - ((1 : Int32) <<< (x15 &&& 31)))), .val (.int (x6 + ((1 : Int32) <<< (x15 &&& 31)))), .val (.int x7), .val (.int x8), .val (.long y9), .unset, .val (.int x11), .val (.int x12), .val (.int x13), .val (.int x14), .val (.int x15), .val (.int x16), .val (.int s0), .val (.int r2.1), .unset, .unset]) (St' := []) (σ' := r4.2) [.iload 6, .iconst 1, .iload 15, .ishl, .iadd, .istore 6] (by decide +kernel) hc hT hF wi (by exact rfl) ?_
                      exact am_wk (Ls' := [.val (.ref 99), .val (.int x1), .unset, .val (.int x3), .val (.ref 0), .val (.int (x5 - ((1 : Int32) <<< (x15 &&& 31)))), .val (.int (x6 + ((1 : Int32) <<< (x15 &&& 31)))), .val (.int x7), .val (.int x8), .val (.long y9), .unset, .val (.int x11), .unset, .unset, .unset, .unset, .unset, .unset, .unset, .unset, .unset]) (by simp [wkL]) (okc_q_law_449 hw hc hw0 hsc hn k88 hk88 x1 x3 (x5 - ((1 : Int32) <<< (x15 &&& 31))) (x6 + ((1 : Int32) <<< (x15 &&& 31))) x7 x8 y9 x11 r4.2)
                  · refine am_blk (pc' := 449) (Ls' := [.val (.ref 99), .val (.int x1), .unset, .val (.int x3), .val (.ref 0), .val (.int (x5 - ((1 : Int32) <<< (x15 &&& 31)))), .val (.int (x6 - ((1 : Int32) <<< (x15 &&& 31)))), .val (.int x7), .val (.int x8), .val (.long y9), .unset, .val (.int x11), .val (.int x12), .val (.int x13), .val (.int x14), .val (.int x15), .val (.int x16), .val (.int s0), .val (.int r2.1), .unset, .unset]) (St' := []) (σ' := r4.2) [.iload 6, .iconst 1, .iload 15, .ishl, .isub, .istore 6, .goto 19] (by decide +kernel) hc hT hF wi (by exact rfl) ?_
                    exact am_wk (Ls' := [.val (.ref 99), .val (.int x1), .unset, .val (.int x3), .val (.ref 0), .val (.int (x5 - ((1 : Int32) <<< (x15 &&& 31)))), .val (.int (x6 - ((1 : Int32) <<< (x15 &&& 31)))), .val (.int x7), .val (.int x8), .val (.long y9), .unset, .val (.int x11), .unset, .unset, .unset, .unset, .unset, .unset, .unset, .unset, .unset]) (by simp [wkL]) (okc_q_law_449 hw hc hw0 hsc hn k88 hk88 x1 x3 (x5 - ((1 : Int32) <<< (x15 &&& 31))) (x6 - ((1 : Int32) <<< (x15 &&& 31))) x7 x8 y9 x11 r4.2)
                · refine am_blk (pc' := 404) (Ls' := [.val (.ref 99), .val (.int x1), .unset, .val (.int x3), .val (.ref 0), .val (.int x5), .val (.int x6), .val (.int x7), .val (.int x8), .val (.long y9), .unset, .val (.int x11), .val (.int x12), .val (.int x13), .val (.int x14), .val (.int x15), .val (.int x16), .val (.int s0), .val (.int r2.1), .unset, .unset]) (St' := [.int (0 : Int32)]) (σ' := r4.2) [.iconst 0] (by decide +kernel) hc hT hF wi (by exact rfl) ?_
                  exact am_retZ (by decide +kernel) hc (by decide) (by decide) (fun h W O => rfl)
        · exact am_wk (Ls' := [.val (.ref 99), .val (.int x1), .unset, .val (.int x3), .val (.ref 0), .val (.int x5), .val (.int x6), .val (.int x7), .val (.int x8), .val (.long y9), .unset, .val (.int x11), .unset, .val (.int x13), .unset, .unset, .unset, .unset, .unset, .unset, .unset]) (by simp [wkL]) (okc_q_law_452 hw hc hw0 hsc hn k88 hk88 x1 x3 x5 x6 x7 x8 y9 x11 x13 σ)
      · exact am_wk (Ls' := [.val (.ref 99), .val (.int x1), .unset, .val (.int x3), .val (.ref 0), .val (.int x5), .val (.int x6), .val (.int x7), .val (.int x8), .val (.long y9), .unset, .val (.int x11), .unset, .val (.int x13), .unset, .unset, .unset, .unset, .unset, .unset, .unset]) (by simp [wkL]) (okc_q_law_452 hw hc hw0 hsc hn k88 hk88 x1 x3 x5 x6 x7 x8 y9 x11 x13 σ)
    · refine am_blk (pc' := 467) (Ls' := [.val (.ref 99), .val (.int x1), .unset, .val (.int x3), .val (.ref 0), .val (.int x5), .val (.int x6), .val (.int x7), .val (.int x8), .val (.long y9), .unset, .val (.int x11), .val (.int x12), .val (.int x13), .val (.int x14), .val (.int x15), .val (.int x16), .val (.int s0), .unset, .unset, .unset]) (St' := [.int (5 : Int32), .int x12]) (σ' := σ) [.iload 12, .iconst 5] (by decide +kernel) hc hT hF wi (by exact rfl) ?_
      refine am_icmp_ne (o := 65) (pc1 := 532) (by decide +kernel) hc (fun hq => ?_) (fun hq => ?_)
      · refine am_blk (pc' := 474) (Ls' := [.val (.ref 99), .val (.int x1), .unset, .val (.int x3), .val (.ref 0), .val (.int x5), .val (.int x6), .val (.int x7), .val (.int x8), .val (.long y9), .unset, .val (.int x11), .val (.int x12), .val (.int x13), .val (.int x14), .val (.int x15), .val (.int x16), .val (.int s0), .unset, .unset, .unset]) (St' := [.int x13, .ref 0]) (σ' := σ) [.aload 4, .iload 13] (by decide +kernel) hc hT hF wi (by exact rfl) ?_
        refine am_callV_I (W0 := 0) (argsL := [.int x13]) (rest := []) rfl (lk_L_29 hw) rfl (by decide +kernel) hc (subF hw0) rfl (by show arity "(I)Z" 1 = true; decide +kernel) (ok_c_clear hw x13 _) rfl ⟨by decide, by decide, Nat.le_of_eq rfl, rfl, rfl, by decide, by decide⟩ (fun r5 hr => ?_)
        refine am_blk (pc' := 484) (Ls' := [.val (.ref 99), .val (.int x1), .unset, .val (.int x3), .val (.ref 0), .val (.int x5), .val (.int x6), .val (.int x7), .val (.int x8), .val (.long y9), .unset, .val (.int x11), .val (.int x12), .val (.int x13), .val (.int x14), .val (.int x15), .val (.int x16), .val (.int s0), .val (.int r5.1), .unset, .unset]) (St' := [.int (3 : Int32), .int x13, .int r5.1]) (σ' := r5.2) [.istore 18, .iload 18, .iload 13, .iconst 3] (by decide +kernel) hc hT hF wi (by exact rfl) ?_
        refine am_icmp_ge (o := 7) (pc1 := 491) (by decide +kernel) hc (fun hq => ?_) (fun hq => ?_)
        · refine am_blk (pc' := 492) (Ls' := [.val (.ref 99), .val (.int x1), .unset, .val (.int x3), .val (.ref 0), .val (.int x5), .val (.int x6), .val (.int x7), .val (.int x8), .val (.long y9), .unset, .val (.int x11), .val (.int x12), .val (.int x13), .val (.int x14), .val (.int x15), .val (.int x16), .val (.int s0), .val (.int r5.1), .unset, .unset]) (St' := [.int (1 : Int32), .int r5.1]) (σ' := r5.2) [.iconst 1, .goto 4] (by decide +kernel) hc hT hF wi (by exact rfl) ?_
          exact am_wk (Ls' := [.val (.ref 99), .val (.int x1), .unset, .val (.int x3), .val (.ref 0), .val (.int x5), .val (.int x6), .val (.int x7), .val (.int x8), .val (.long y9), .unset, .val (.int x11), .unset, .val (.int x13), .unset, .val (.int x15), .unset, .unset, .unset, .unset, .unset]) (by simp [wkL]) (okc_q_law_492 hw hc hw0 hsc hn k88 hk88 x1 x3 x5 x6 x7 x8 y9 x11 x13 x15 (1 : Int32) r5.1 r5.2)
        · refine am_blk (pc' := 492) (Ls' := [.val (.ref 99), .val (.int x1), .unset, .val (.int x3), .val (.ref 0), .val (.int x5), .val (.int x6), .val (.int x7), .val (.int x8), .val (.long y9), .unset, .val (.int x11), .val (.int x12), .val (.int x13), .val (.int x14), .val (.int x15), .val (.int x16), .val (.int s0), .val (.int r5.1), .unset, .unset]) (St' := [.int (0 : Int32), .int r5.1]) (σ' := r5.2) [.iconst 0] (by decide +kernel) hc hT hF wi (by exact rfl) ?_
          exact am_wk (Ls' := [.val (.ref 99), .val (.int x1), .unset, .val (.int x3), .val (.ref 0), .val (.int x5), .val (.int x6), .val (.int x7), .val (.int x8), .val (.long y9), .unset, .val (.int x11), .unset, .val (.int x13), .unset, .val (.int x15), .unset, .unset, .unset, .unset, .unset]) (by simp [wkL]) (okc_q_law_492 hw hc hw0 hsc hn k88 hk88 x1 x3 x5 x6 x7 x8 y9 x11 x13 x15 (0 : Int32) r5.1 r5.2)
      · refine am_blk (pc' := 536) (Ls' := [.val (.ref 99), .val (.int x1), .unset, .val (.int x3), .val (.ref 0), .val (.int x5), .val (.int x6), .val (.int x7), .val (.int x8), .val (.long y9), .unset, .val (.int x11), .val (.int x12), .val (.int x13), .val (.int x14), .val (.int x15), .val (.int x16), .val (.int s0), .unset, .unset, .unset]) (St' := [.int x14, .ref 0]) (σ' := σ) [.aload 4, .iload 14] (by decide +kernel) hc hT hF wi (by exact rfl) ?_
        refine am_callV_I (W0 := 0) (argsL := [.int x14]) (rest := []) rfl (lk_L_32 hw) rfl (by decide +kernel) hc (subF hw0) rfl (by show arity "(I)I" 1 = true; decide +kernel) (ok_c_solve hw x14 _) rfl ⟨by decide, by decide, Nat.le_of_eq rfl, rfl, rfl, by decide, by decide⟩ (fun r6 hr => ?_)
        refine am_blk (pc' := 548) (Ls' := [.val (.ref 99), .val (.int x1), .unset, .val (.int x3), .val (.ref 0), .val (.int x5), .val (.int x6), .val (.int x7), .val (.int x8), .val (.long y9), .unset, .val (.int x11), .val (.int x12), .val (.int x13), .val (.int x14), .val (.int x15), .val (.int x16), .val (.int s0), .val (.int r6.1), .unset, .unset]) (St' := [.int (1 : Int32), .int (x6 &&& (255 : Int32))]) (σ' := r6.2) [.istore 18, .iload 6, .sipush 255, .iand, .iconst 1] (by decide +kernel) hc hT hF wi (by exact rfl) ?_
        refine am_icmp_ne (o := 16) (pc1 := 564) (by decide +kernel) hc (fun hq => ?_) (fun hq => ?_)
        · refine am_blk (pc' := 561) (Ls' := [.val (.ref 99), .val (.int x1), .unset, .val (.int x3), .val (.ref 0), .val (.int x5), .val (.int x6), .val (.int x7), .val (.int x8), .val (.long y9), .unset, .val (.int x11), .val (.int x12), .val (.int x13), .val (.int x14), .val (.int x15), .val (.int x16), .val (.int s0), .val (.int r6.1), .unset, .unset]) (St' := [.int (1 : Int32), .int ((x6 >>> ((8 : Int32) &&& 31)) &&& (255 : Int32))]) (σ' := r6.2) [.iload 6, .bipush 8, .ishr, .sipush 255, .iand, .iconst 1] (by decide +kernel) hc hT hF wi (by exact rfl) ?_
          refine am_icmp_eq (o := 11) (pc1 := 572) (by decide +kernel) hc (fun hq => ?_) (fun hq => ?_)
          · refine am_blk (pc' := 575) (Ls' := [.val (.ref 99), .val (.int x1), .unset, .val (.int x3), .val (.ref 0), .val (.int x5), .val (.int x6), .val (.int x7), .val (.int x8), .val (.long y9), .unset, .val (.int x11), .val (.int x12), .val (.int x13), .val (.int x14), .val (.int x15), .val (.int x16), .val (.int s0), .val (.int r6.1), .unset, .unset]) (St' := [.int (1 : Int32), .int r6.1]) (σ' := r6.2) [.iload 18, .iconst 1] (by decide +kernel) hc hT hF wi (by exact rfl) ?_
            refine am_icmp_eq (o := 11) (pc1 := 586) (by decide +kernel) hc (fun hq => ?_) (fun hq => ?_)
            · exact am_wk (Ls' := [.val (.ref 99), .val (.int x1), .unset, .val (.int x3), .val (.ref 0), .val (.int x5), .val (.int x6), .unset, .unset, .unset, .unset, .val (.int x11), .unset, .unset, .val (.int x14), .unset, .unset, .unset, .val (.int r6.1), .unset, .unset]) (by simp [wkL]) (okc_q_law_586 hw hc hw0 hsc hn k88 hk88 x1 x3 x5 x6 x11 x14 r6.1 r6.2)
            · refine am_blk (pc' := 581) (Ls' := [.val (.ref 99), .val (.int x1), .unset, .val (.int x3), .val (.ref 0), .val (.int x5), .val (.int x6), .val (.int x7), .val (.int x8), .val (.long y9), .unset, .val (.int x11), .val (.int x12), .val (.int x13), .val (.int x14), .val (.int x15), .val (.int x16), .val (.int s0), .val (.int r6.1), .unset, .unset]) (St' := [.int (2 : Int32), .int r6.1]) (σ' := r6.2) [.iload 18, .iconst 2] (by decide +kernel) hc hT hF wi (by exact rfl) ?_
              refine am_icmp_eq (o := 5) (pc1 := 586) (by decide +kernel) hc (fun hq => ?_) (fun hq => ?_)
              · exact am_wk (Ls' := [.val (.ref 99), .val (.int x1), .unset, .val (.int x3), .val (.ref 0), .val (.int x5), .val (.int x6), .unset, .unset, .unset, .unset, .val (.int x11), .unset, .unset, .val (.int x14), .unset, .unset, .unset, .val (.int r6.1), .unset, .unset]) (by simp [wkL]) (okc_q_law_586 hw hc hw0 hsc hn k88 hk88 x1 x3 x5 x6 x11 x14 r6.1 r6.2)
              · refine am_blk (pc' := 585) (Ls' := [.val (.ref 99), .val (.int x1), .unset, .val (.int x3), .val (.ref 0), .val (.int x5), .val (.int x6), .val (.int x7), .val (.int x8), .val (.long y9), .unset, .val (.int x11), .val (.int x12), .val (.int x13), .val (.int x14), .val (.int x15), .val (.int x16), .val (.int s0), .val (.int r6.1), .unset, .unset]) (St' := [.int (0 : Int32)]) (σ' := r6.2) [.iconst 0] (by decide +kernel) hc hT hF wi (by exact rfl) ?_
                exact am_retZ (by decide +kernel) hc (by decide) (by decide) (fun h W O => rfl)
          · exact am_wk (Ls' := [.val (.ref 99), .val (.int x1), .unset, .val (.int x3), .val (.ref 0), .val (.int x5), .val (.int x6), .val (.int x7), .val (.int x8), .val (.long y9), .unset, .val (.int x11), .unset, .unset, .unset, .unset, .unset, .unset, .val (.int r6.1), .unset, .unset]) (by simp [wkL]) (okc_q_law_564 hw hc hw0 hsc hn k88 hk88 x1 x3 x5 x6 x7 x8 y9 x11 r6.1 r6.2)
        · exact am_wk (Ls' := [.val (.ref 99), .val (.int x1), .unset, .val (.int x3), .val (.ref 0), .val (.int x5), .val (.int x6), .val (.int x7), .val (.int x8), .val (.long y9), .unset, .val (.int x11), .unset, .unset, .unset, .unset, .unset, .unset, .val (.int r6.1), .unset, .unset]) (by simp [wkL]) (okc_q_law_564 hw hc hw0 hsc hn k88 hk88 x1 x3 x5 x6 x7 x8 y9 x11 r6.1 r6.2)
def q_law_149 (sn : Nat) (sf : Nat → Int32) (k88 : Int32 → Int32 → Int32 → Int32 → Int32 → Int32 → Int64 → Int32 → Sg → Option (Int32 × Sg)) (x1 : Int32) (x3 : Int32) (x5 : Int32) (x6 : Int32) (x7 : Int32) (x8 : Int32) (y9 : Int64) (x11 : Int32) (x12 : Int32) (x13 : Int32) (x14 : Int32) (x15 : Int32) (s0 : Int32) (σ : Sg) : Option (Int32 × Sg) :=
  if x13 < (3 : Int32) then (q_law_170 sn sf k88 x1 x3 x5 x6 x7 x8 y9 x11 x12 x13 x14 x15 s0 ((x6 >>> (x15 &&& 31)) &&& (255 : Int32)) σ) else (q_law_170 sn sf k88 x1 x3 x5 x6 x7 x8 y9 x11 x12 x13 x14 x15 s0 (0 : Int32) σ)
set_option maxRecDepth 65536 in
set_option maxHeartbeats 4000000 in
theorem okc_q_law_149 (hw : WH a0 Z) (hc : Cx p s m meth c Z "BoolUnifierYL6" code 21 (some .boolean) "law") (hw0 : Rd w0 12) (hsc : w0 99 = some (.inr (.int, sn, some sf))) (hn : n0 ≤ h0.size) (k88 : Int32 → Int32 → Int32 → Int32 → Int32 → Int32 → Int64 → Int32 → Sg → Option (Int32 × Sg)) (hk88 : ∀ (x1 : Int32) (x3 : Int32) (x5 : Int32) (x6 : Int32) (x7 : Int32) (x8 : Int32) (y9 : Int64) (x11 : Int32) (σ : Sg), OkR p l e rm_q_law s m args below meth c Z "BoolUnifierY" fsC n0 h0 FL A (wF arrsC w0) 13 2715 88 [.val (.ref 99), .val (.int x1), .unset, .val (.int x3), .val (.ref 0), .val (.int x5), .val (.int x6), .val (.int x7), .val (.int x8), .val (.long y9), .unset, .val (.int x11), .unset, .unset, .unset, .unset, .unset, .unset, .unset, .unset, .unset] [] σ (k88 x1 x3 x5 x6 x7 x8 y9 x11 σ)) (x1 : Int32) (x3 : Int32) (x5 : Int32) (x6 : Int32) (x7 : Int32) (x8 : Int32) (y9 : Int64) (x11 : Int32) (x12 : Int32) (x13 : Int32) (x14 : Int32) (x15 : Int32) (s0 : Int32) (σ : Sg) : OkR p l e rm_q_law s m args below meth c Z "BoolUnifierY" fsC n0 h0 FL A (wF arrsC w0) 13 2715 149 [.val (.ref 99), .val (.int x1), .unset, .val (.int x3), .val (.ref 0), .val (.int x5), .val (.int x6), .val (.int x7), .val (.int x8), .val (.long y9), .unset, .val (.int x11), .val (.int x12), .val (.int x13), .val (.int x14), .val (.int x15), .unset, .unset, .unset, .unset, .unset] [.int s0] σ (q_law_149 sn sf k88 x1 x3 x5 x6 x7 x8 y9 x11 x12 x13 x14 x15 s0 σ) := by
  have hT := tabL hw "law"
  have hF := fsokC hw
  have wi := wiC hw
  unfold q_law_149
  refine am_blk (pc' := 154) (Ls' := [.val (.ref 99), .val (.int x1), .unset, .val (.int x3), .val (.ref 0), .val (.int x5), .val (.int x6), .val (.int x7), .val (.int x8), .val (.long y9), .unset, .val (.int x11), .val (.int x12), .val (.int x13), .val (.int x14), .val (.int x15), .val (.int s0), .unset, .unset, .unset, .unset]) (St' := [.int (3 : Int32), .int x13]) (σ' := σ) [.istore 16, .iload 13, .iconst 3] (by decide +kernel) hc hT hF wi (by exact rfl) ?_
  refine am_icmp_ge (o := 15) (pc1 := 169) (by decide +kernel) hc (fun hq => ?_) (fun hq => ?_)
  · refine am_blk (pc' := 170) (Ls' := [.val (.ref 99), .val (.int x1), .unset, .val (.int x3), .val (.ref 0), .val (.int x5), .val (.int x6), .val (.int x7), .val (.int x8), .val (.long y9), .unset, .val (.int x11), .val (.int x12), .val (.int x13), .val (.int x14), .val (.int x15), .val (.int s0), .unset, .unset, .unset, .unset]) (St' := [.int ((x6 >>> (x15 &&& 31)) &&& (255 : Int32))]) (σ' := σ) [.iload 6, .iload 15, .ishr, .sipush 255, .iand, .goto 4] (by decide +kernel) hc hT hF wi (by exact rfl) ?_
    exact am_wk (Ls' := [.val (.ref 99), .val (.int x1), .unset, .val (.int x3), .val (.ref 0), .val (.int x5), .val (.int x6), .val (.int x7), .val (.int x8), .val (.long y9), .unset, .val (.int x11), .val (.int x12), .val (.int x13), .val (.int x14), .val (.int x15), .val (.int s0), .unset, .unset, .unset, .unset]) (by simp [wkL]) (okc_q_law_170 hw hc hw0 hsc hn k88 hk88 x1 x3 x5 x6 x7 x8 y9 x11 x12 x13 x14 x15 s0 ((x6 >>> (x15 &&& 31)) &&& (255 : Int32)) σ)
  · refine am_blk (pc' := 170) (Ls' := [.val (.ref 99), .val (.int x1), .unset, .val (.int x3), .val (.ref 0), .val (.int x5), .val (.int x6), .val (.int x7), .val (.int x8), .val (.long y9), .unset, .val (.int x11), .val (.int x12), .val (.int x13), .val (.int x14), .val (.int x15), .val (.int s0), .unset, .unset, .unset, .unset]) (St' := [.int (0 : Int32)]) (σ' := σ) [.iconst 0] (by decide +kernel) hc hT hF wi (by exact rfl) ?_
    exact am_wk (Ls' := [.val (.ref 99), .val (.int x1), .unset, .val (.int x3), .val (.ref 0), .val (.int x5), .val (.int x6), .val (.int x7), .val (.int x8), .val (.long y9), .unset, .val (.int x11), .val (.int x12), .val (.int x13), .val (.int x14), .val (.int x15), .val (.int s0), .unset, .unset, .unset, .unset]) (by simp [wkL]) (okc_q_law_170 hw hc hw0 hsc hn k88 hk88 x1 x3 x5 x6 x7 x8 y9 x11 x12 x13 x14 x15 s0 (0 : Int32) σ)
def q_law_88 (sn : Nat) (sf : Nat → Int32) : Nat → Int32 → Int32 → Int32 → Int32 → Int32 → Int32 → Int64 → Int32 → Sg → Option (Int32 × Sg)
  | 0, _, _, _, _, _, _, _, _, _ => none
  | fuel + 1, x1, x3, x5, x6, x7, x8, y9, x11, σ =>
    if (x11 + (2 : Int32)) < x1 then (if inb x11 sn = true then (if inb (x11 + (1 : Int32)) sn = true then (if inb (x11 + (2 : Int32)) sn = true then (if ((sf (nx (x11 + (1 : Int32)))) &&& (3 : Int32)) < (3 : Int32) then (q_law_149 sn sf (q_law_88 sn sf fuel) x1 x3 x5 x6 x7 x8 y9 x11 ((sf (nx x11)) &&& (7 : Int32)) ((sf (nx (x11 + (1 : Int32)))) &&& (3 : Int32)) (sf (nx (x11 + (2 : Int32)))) ((8 : Int32) * ((sf (nx (x11 + (1 : Int32)))) &&& (3 : Int32))) ((x5 >>> (((8 : Int32) * ((sf (nx (x11 + (1 : Int32)))) &&& (3 : Int32))) &&& 31)) &&& (255 : Int32)) σ) else (q_law_149 sn sf (q_law_88 sn sf fuel) x1 x3 x5 x6 x7 x8 y9 x11 ((sf (nx x11)) &&& (7 : Int32)) ((sf (nx (x11 + (1 : Int32)))) &&& (3 : Int32)) (sf (nx (x11 + (2 : Int32)))) ((8 : Int32) * ((sf (nx (x11 + (1 : Int32)))) &&& (3 : Int32))) (0 : Int32) σ)) else none) else none) else none) else (some ((1 : Int32), σ))
set_option maxRecDepth 65536 in
set_option maxHeartbeats 4000000 in
theorem okc_q_law_88 (hw : WH a0 Z) (hc : Cx p s m meth c Z "BoolUnifierYL6" code 21 (some .boolean) "law") (hw0 : Rd w0 12) (hsc : w0 99 = some (.inr (.int, sn, some sf))) (hn : n0 ≤ h0.size) : ∀ (fuel : Nat) (x1 : Int32) (x3 : Int32) (x5 : Int32) (x6 : Int32) (x7 : Int32) (x8 : Int32) (y9 : Int64) (x11 : Int32) (σ : Sg), OkR p l e rm_q_law s m args below meth c Z "BoolUnifierY" fsC n0 h0 FL A (wF arrsC w0) 13 2715 88 [.val (.ref 99), .val (.int x1), .unset, .val (.int x3), .val (.ref 0), .val (.int x5), .val (.int x6), .val (.int x7), .val (.int x8), .val (.long y9), .unset, .val (.int x11), .unset, .unset, .unset, .unset, .unset, .unset, .unset, .unset, .unset] [] σ (q_law_88 sn sf fuel x1 x3 x5 x6 x7 x8 y9 x11 σ) := by
  have hT := tabL hw "law"
  have hF := fsokC hw
  have wi := wiC hw
  intro fuel
  induction fuel with
  | zero => intro x1 x3 x5 x6 x7 x8 y9 x11 σ; exact am_none rfl
  | succ fuel ih =>
    intro x1 x3 x5 x6 x7 x8 y9 x11 σ
    rw [q_law_88]
    refine am_blk (pc' := 93) (Ls' := [.val (.ref 99), .val (.int x1), .unset, .val (.int x3), .val (.ref 0), .val (.int x5), .val (.int x6), .val (.int x7), .val (.int x8), .val (.long y9), .unset, .val (.int x11), .unset, .unset, .unset, .unset, .unset, .unset, .unset, .unset, .unset]) (St' := [.int x1, .int (x11 + (2 : Int32))]) (σ' := σ) [.iload 11, .iconst 2, .iadd, .iload_n 1] (by decide +kernel) hc hT hF wi (by exact rfl) ?_
    refine am_icmp_ge (o := 565) (pc1 := 658) (by decide +kernel) hc (fun hq => ?_) (fun hq => ?_)
    · refine am_blk (pc' := 99) (Ls' := [.val (.ref 99), .val (.int x1), .unset, .val (.int x3), .val (.ref 0), .val (.int x5), .val (.int x6), .val (.int x7), .val (.int x8), .val (.long y9), .unset, .val (.int x11), .unset, .unset, .unset, .unset, .unset, .unset, .unset, .unset, .unset]) (St' := [.int x11, .ref 99]) (σ' := σ) [.aload_n 0, .iload 11] (by decide +kernel) hc hT hF wi (by exact rfl) ?_
      refine am_ialoadC (by decide +kernel) hc hsc (fun hb0 => ?_)
      refine am_blk (pc' := 110) (Ls' := [.val (.ref 99), .val (.int x1), .unset, .val (.int x3), .val (.ref 0), .val (.int x5), .val (.int x6), .val (.int x7), .val (.int x8), .val (.long y9), .unset, .val (.int x11), .val (.int ((sf (nx x11)) &&& (7 : Int32))), .unset, .unset, .unset, .unset, .unset, .unset, .unset, .unset]) (St' := [.int (x11 + (1 : Int32)), .ref 99]) (σ' := σ) [.bipush 7, .iand, .istore 12, .aload_n 0, .iload 11, .iconst 1, .iadd] (by decide +kernel) hc hT hF wi (by exact rfl) ?_
      refine am_ialoadC (by decide +kernel) hc hsc (fun hb1 => ?_)
      refine am_blk (pc' := 120) (Ls' := [.val (.ref 99), .val (.int x1), .unset, .val (.int x3), .val (.ref 0), .val (.int x5), .val (.int x6), .val (.int x7), .val (.int x8), .val (.long y9), .unset, .val (.int x11), .val (.int ((sf (nx x11)) &&& (7 : Int32))), .val (.int ((sf (nx (x11 + (1 : Int32)))) &&& (3 : Int32))), .unset, .unset, .unset, .unset, .unset, .unset, .unset]) (St' := [.int (x11 + (2 : Int32)), .ref 99]) (σ' := σ) [.iconst 3, .iand, .istore 13, .aload_n 0, .iload 11, .iconst 2, .iadd] (by decide +kernel) hc hT hF wi (by exact rfl) ?_
      refine am_ialoadC (by decide +kernel) hc hsc (fun hb2 => ?_)
      refine am_blk (pc' := 133) (Ls' := [.val (.ref 99), .val (.int x1), .unset, .val (.int x3), .val (.ref 0), .val (.int x5), .val (.int x6), .val (.int x7), .val (.int x8), .val (.long y9), .unset, .val (.int x11), .val (.int ((sf (nx x11)) &&& (7 : Int32))), .val (.int ((sf (nx (x11 + (1 : Int32)))) &&& (3 : Int32))), .val (.int (sf (nx (x11 + (2 : Int32))))), .val (.int ((8 : Int32) * ((sf (nx (x11 + (1 : Int32)))) &&& (3 : Int32)))), .unset, .unset, .unset, .unset, .unset]) (St' := [.int (3 : Int32), .int ((sf (nx (x11 + (1 : Int32)))) &&& (3 : Int32))]) (σ' := σ) [.istore 14, .bipush 8, .iload 13, .imul, .istore 15, .iload 13, .iconst 3] (by decide +kernel) hc hT hF wi (by exact rfl) ?_
      refine am_icmp_ge (o := 15) (pc1 := 148) (by decide +kernel) hc (fun hq => ?_) (fun hq => ?_)
      · refine am_blk (pc' := 149) (Ls' := [.val (.ref 99), .val (.int x1), .unset, .val (.int x3), .val (.ref 0), .val (.int x5), .val (.int x6), .val (.int x7), .val (.int x8), .val (.long y9), .unset, .val (.int x11), .val (.int ((sf (nx x11)) &&& (7 : Int32))), .val (.int ((sf (nx (x11 + (1 : Int32)))) &&& (3 : Int32))), .val (.int (sf (nx (x11 + (2 : Int32))))), .val (.int ((8 : Int32) * ((sf (nx (x11 + (1 : Int32)))) &&& (3 : Int32)))), .unset, .unset, .unset, .unset, .unset]) (St' := [.int ((x5 >>> (((8 : Int32) * ((sf (nx (x11 + (1 : Int32)))) &&& (3 : Int32))) &&& 31)) &&& (255 : Int32))]) (σ' := σ) [.iload 5, .iload 15, .ishr, .sipush 255, .iand, .goto 4] (by decide +kernel) hc hT hF wi (by exact rfl) ?_
        exact am_wk (Ls' := [.val (.ref 99), .val (.int x1), .unset, .val (.int x3), .val (.ref 0), .val (.int x5), .val (.int x6), .val (.int x7), .val (.int x8), .val (.long y9), .unset, .val (.int x11), .val (.int ((sf (nx x11)) &&& (7 : Int32))), .val (.int ((sf (nx (x11 + (1 : Int32)))) &&& (3 : Int32))), .val (.int (sf (nx (x11 + (2 : Int32))))), .val (.int ((8 : Int32) * ((sf (nx (x11 + (1 : Int32)))) &&& (3 : Int32)))), .unset, .unset, .unset, .unset, .unset]) (by simp [wkL]) (okc_q_law_149 hw hc hw0 hsc hn _ ih x1 x3 x5 x6 x7 x8 y9 x11 ((sf (nx x11)) &&& (7 : Int32)) ((sf (nx (x11 + (1 : Int32)))) &&& (3 : Int32)) (sf (nx (x11 + (2 : Int32)))) ((8 : Int32) * ((sf (nx (x11 + (1 : Int32)))) &&& (3 : Int32))) ((x5 >>> (((8 : Int32) * ((sf (nx (x11 + (1 : Int32)))) &&& (3 : Int32))) &&& 31)) &&& (255 : Int32)) σ)
      · refine am_blk (pc' := 149) (Ls' := [.val (.ref 99), .val (.int x1), .unset, .val (.int x3), .val (.ref 0), .val (.int x5), .val (.int x6), .val (.int x7), .val (.int x8), .val (.long y9), .unset, .val (.int x11), .val (.int ((sf (nx x11)) &&& (7 : Int32))), .val (.int ((sf (nx (x11 + (1 : Int32)))) &&& (3 : Int32))), .val (.int (sf (nx (x11 + (2 : Int32))))), .val (.int ((8 : Int32) * ((sf (nx (x11 + (1 : Int32)))) &&& (3 : Int32)))), .unset, .unset, .unset, .unset, .unset]) (St' := [.int (0 : Int32)]) (σ' := σ) [.iconst 0] (by decide +kernel) hc hT hF wi (by exact rfl) ?_
        exact am_wk (Ls' := [.val (.ref 99), .val (.int x1), .unset, .val (.int x3), .val (.ref 0), .val (.int x5), .val (.int x6), .val (.int x7), .val (.int x8), .val (.long y9), .unset, .val (.int x11), .val (.int ((sf (nx x11)) &&& (7 : Int32))), .val (.int ((sf (nx (x11 + (1 : Int32)))) &&& (3 : Int32))), .val (.int (sf (nx (x11 + (2 : Int32))))), .val (.int ((8 : Int32) * ((sf (nx (x11 + (1 : Int32)))) &&& (3 : Int32)))), .unset, .unset, .unset, .unset, .unset]) (by simp [wkL]) (okc_q_law_149 hw hc hw0 hsc hn _ ih x1 x3 x5 x6 x7 x8 y9 x11 ((sf (nx x11)) &&& (7 : Int32)) ((sf (nx (x11 + (1 : Int32)))) &&& (3 : Int32)) (sf (nx (x11 + (2 : Int32)))) ((8 : Int32) * ((sf (nx (x11 + (1 : Int32)))) &&& (3 : Int32))) (0 : Int32) σ)
    · refine am_blk (pc' := 659) (Ls' := [.val (.ref 99), .val (.int x1), .unset, .val (.int x3), .val (.ref 0), .val (.int x5), .val (.int x6), .val (.int x7), .val (.int x8), .val (.long y9), .unset, .val (.int x11), .unset, .unset, .unset, .unset, .unset, .unset, .unset, .unset, .unset]) (St' := [.int (1 : Int32)]) (σ' := σ) [.iconst 1] (by decide +kernel) hc hT hF wi (by exact rfl) ?_
      exact am_retZ (by decide +kernel) hc (by decide) (by decide) (fun h W O => rfl)
def q_law_39 (sn : Nat) (sf : Nat → Int32) (x1 : Int32) (x2 : Int32) (s0 : Int32) (σ : Sg) : Option (Int32 × Sg) :=
  (c_init x2).bind fun r1 => (q_check (0 : Int32) (0 : Int32) (0 : Int32) (0 : Int32) (0 : Int64) r1).bind fun r2 => if r2.1 = 0 then (some ((0 : Int32), r2.2)) else (q_law_88 sn sf 400 x1 s0 (0 : Int32) (0 : Int32) (0 : Int32) (0 : Int32) (0 : Int64) (1 : Int32) r2.2)
set_option maxRecDepth 65536 in
set_option maxHeartbeats 4000000 in
theorem okc_q_law_39 (hw : WH a0 Z) (hc : Cx p s m meth c Z "BoolUnifierYL6" code 21 (some .boolean) "law") (hw0 : Rd w0 12) (hsc : w0 99 = some (.inr (.int, sn, some sf))) (hn : n0 ≤ h0.size) (x1 : Int32) (x2 : Int32) (s0 : Int32) (σ : Sg) : OkR p l e rm_q_law s m args below meth c Z "BoolUnifierY" fsC n0 h0 FL A w0 0 0 39 [.val (.ref 99), .val (.int x1), .val (.int x2), .unset, .unset, .unset, .unset, .unset, .unset, .unset, .unset, .unset, .unset, .unset, .unset, .unset, .unset, .unset, .unset, .unset, .unset] [.int s0] σ (q_law_39 sn sf x1 x2 s0 σ) := by
  have hT := tabL hw "law"
  have hF := fsokC hw
  have wi := wiC hw
  unfold q_law_39
  refine am_blk (pc' := 40) (Ls' := [.val (.ref 99), .val (.int x1), .val (.int x2), .val (.int s0), .unset, .unset, .unset, .unset, .unset, .unset, .unset, .unset, .unset, .unset, .unset, .unset, .unset, .unset, .unset, .unset, .unset]) (St' := []) (σ' := σ) [.istore_n 3] (by decide +kernel) hc hT hF wi (by exact rfl) ?_
  refine am_new (mm := 12) (by decide +kernel) hc hF (hw _ (List.mem_of_getElem? (i := 0) rfl)) wi (wzC hw) hw0 ⟨rfl, rfl⟩ hn ⟨by decide, by decide⟩ (fun A hA => ?_)
  refine am_blk (pc' := 45) (Ls' := [.val (.ref 99), .val (.int x1), .val (.int x2), .val (.int s0), .unset, .unset, .unset, .unset, .unset, .unset, .unset, .unset, .unset, .unset, .unset, .unset, .unset, .unset, .unset, .unset, .unset]) (St' := [.int x2, .ref 0, .ref 0]) (σ' := zs) [.dup, .iload_n 2] (by decide +kernel) hc hT hF wi (by exact rfl) ?_
  refine am_ctor (arrs := arrsC) (W0 := 1) (argsL := [.int x2]) (rest := [.ref 0]) (lk_L_9 hw) (by decide +kernel) hc hw0 rfl (by show arity "(I)V" 1 = true; decide +kernel) (ok_c_init hw x2) ⟨rfl, rfl⟩ rfl hn ⟨by decide, by decide, Nat.le_of_eq rfl, by decide, by decide⟩ (fun A r1 hr => ?_)
  refine am_blk (pc' := 53) (Ls' := [.val (.ref 99), .val (.int x1), .val (.int x2), .val (.int s0), .val (.ref 0), .val (.int (0 : Int32)), .unset, .unset, .unset, .unset, .unset, .unset, .unset, .unset, .unset, .unset, .unset, .unset, .unset, .unset, .unset]) (St' := []) (σ' := r1) [.astore 4, .iconst 0, .istore 5] (by decide +kernel) hc hT hF wi (by exact rfl) ?_
  refine am_blk (pc' := 59) (Ls' := [.val (.ref 99), .val (.int x1), .val (.int x2), .val (.int s0), .val (.ref 0), .val (.int (0 : Int32)), .val (.int (0 : Int32)), .val (.int (0 : Int32)), .unset, .unset, .unset, .unset, .unset, .unset, .unset, .unset, .unset, .unset, .unset, .unset, .unset]) (St' := []) (σ' := r1) [.iconst 0, .istore 6, .iconst 0, .istore 7] (by decide +kernel) hc hT hF wi (by exact rfl) ?_
  refine am_blk (pc' := 65) (Ls' := [.val (.ref 99), .val (.int x1), .val (.int x2), .val (.int s0), .val (.ref 0), .val (.int (0 : Int32)), .val (.int (0 : Int32)), .val (.int (0 : Int32)), .val (.int (0 : Int32)), .val (.long (0 : Int64)), .second, .unset, .unset, .unset, .unset, .unset, .unset, .unset, .unset, .unset, .unset]) (St' := []) (σ' := r1) [.iconst 0, .istore 8, .lconst 0, .lstore 9] (by decide +kernel) hc hT hF wi (by exact rfl) ?_
  refine am_blk (pc' := 77) (Ls' := [.val (.ref 99), .val (.int x1), .val (.int x2), .val (.int s0), .val (.ref 0), .val (.int (0 : Int32)), .val (.int (0 : Int32)), .val (.int (0 : Int32)), .val (.int (0 : Int32)), .val (.long (0 : Int64)), .second, .unset, .unset, .unset, .unset, .unset, .unset, .unset, .unset, .unset, .unset]) (St' := [.long (0 : Int64), .int (0 : Int32), .int (0 : Int32), .int (0 : Int32), .int (0 : Int32), .ref 0]) (σ' := r1) [.aload 4, .iload 5, .iload 6, .iload 7, .iload 8, .lload 9] (by decide +kernel) hc hT hF wi (by exact rfl) ?_
  refine am_callS_I (W0 := 0) (argsL := [.ref 0, .int (0 : Int32), .int (0 : Int32), .int (0 : Int32), .int (0 : Int32), .long (0 : Int64)]) (rest := []) (lk_L_12 hw) (by decide +kernel) hc (subF hw0) rfl (by show arity "(LBoolUnifierY;IIIIJ)Z" 6 = true; decide +kernel) (ok_q_check hw (0 : Int32) (0 : Int32) (0 : Int32) (0 : Int32) (0 : Int64) _) rfl ⟨by decide, by decide, Nat.le_of_eq rfl, rfl, rfl, by decide, by decide⟩ (fun r2 hr => ?_)
  refine am_if_ne (o := 5) (pc1 := 85) (by decide +kernel) hc (fun hq => ?_) (fun hq => ?_)
  · refine am_blk (pc' := 84) (Ls' := [.val (.ref 99), .val (.int x1), .val (.int x2), .val (.int s0), .val (.ref 0), .val (.int (0 : Int32)), .val (.int (0 : Int32)), .val (.int (0 : Int32)), .val (.int (0 : Int32)), .val (.long (0 : Int64)), .second, .unset, .unset, .unset, .unset, .unset, .unset, .unset, .unset, .unset, .unset]) (St' := [.int (0 : Int32)]) (σ' := r2.2) [.iconst 0] (by decide +kernel) hc hT hF wi (by exact rfl) ?_
    exact am_retZ (by decide +kernel) hc (by decide) (by decide) (fun h W O => rfl)
  · refine am_blk (pc' := 88) (Ls' := [.val (.ref 99), .val (.int x1), .val (.int x2), .val (.int s0), .val (.ref 0), .val (.int (0 : Int32)), .val (.int (0 : Int32)), .val (.int (0 : Int32)), .val (.int (0 : Int32)), .val (.long (0 : Int64)), .second, .val (.int (1 : Int32)), .unset, .unset, .unset, .unset, .unset, .unset, .unset, .unset, .unset]) (St' := []) (σ' := r2.2) [.iconst 1, .istore 11] (by decide +kernel) hc hT hF wi (by exact rfl) ?_
    exact am_wk (Ls' := [.val (.ref 99), .val (.int x1), .unset, .val (.int s0), .val (.ref 0), .val (.int (0 : Int32)), .val (.int (0 : Int32)), .val (.int (0 : Int32)), .val (.int (0 : Int32)), .val (.long (0 : Int64)), .unset, .val (.int (1 : Int32)), .unset, .unset, .unset, .unset, .unset, .unset, .unset, .unset, .unset]) (by simp [wkL]) (okc_q_law_88 hw hc hw0 hsc hn 400 x1 s0 (0 : Int32) (0 : Int32) (0 : Int32) (0 : Int32) (0 : Int64) (1 : Int32) r2.2)
def q_law_15 (sn : Nat) (sf : Nat → Int32) (x1 : Int32) (s0 : Int32) (σ : Sg) : Option (Int32 × Sg) :=
  if s0 < (8 : Int32) then (q_law_39 sn sf x1 s0 (8 : Int32) σ) else (if (32 : Int32) < s0 then (q_law_39 sn sf x1 s0 (32 : Int32) σ) else (q_law_39 sn sf x1 s0 s0 σ))
set_option maxRecDepth 65536 in
set_option maxHeartbeats 4000000 in
theorem okc_q_law_15 (hw : WH a0 Z) (hc : Cx p s m meth c Z "BoolUnifierYL6" code 21 (some .boolean) "law") (hw0 : Rd w0 12) (hsc : w0 99 = some (.inr (.int, sn, some sf))) (hn : n0 ≤ h0.size) (x1 : Int32) (s0 : Int32) (σ : Sg) : OkR p l e rm_q_law s m args below meth c Z "BoolUnifierY" fsC n0 h0 FL A w0 0 0 15 [.val (.ref 99), .val (.int x1), .unset, .unset, .unset, .unset, .unset, .unset, .unset, .unset, .unset, .unset, .unset, .unset, .unset, .unset, .unset, .unset, .unset, .unset, .unset] [.int s0] σ (q_law_15 sn sf x1 s0 σ) := by
  have hT := tabL hw "law"
  have hF := fsokC hw
  have wi := wiC hw
  unfold q_law_15
  refine am_blk (pc' := 19) (Ls' := [.val (.ref 99), .val (.int x1), .val (.int s0), .unset, .unset, .unset, .unset, .unset, .unset, .unset, .unset, .unset, .unset, .unset, .unset, .unset, .unset, .unset, .unset, .unset, .unset]) (St' := [.int (8 : Int32), .int s0]) (σ' := σ) [.istore_n 2, .iload_n 2, .bipush 8] (by decide +kernel) hc hT hF wi (by exact rfl) ?_
  refine am_icmp_ge (o := 8) (pc1 := 27) (by decide +kernel) hc (fun hq => ?_) (fun hq => ?_)
  · refine am_blk (pc' := 39) (Ls' := [.val (.ref 99), .val (.int x1), .val (.int s0), .unset, .unset, .unset, .unset, .unset, .unset, .unset, .unset, .unset, .unset, .unset, .unset, .unset, .unset, .unset, .unset, .unset, .unset]) (St' := [.int (8 : Int32)]) (σ' := σ) [.bipush 8, .goto 15] (by decide +kernel) hc hT hF wi (by exact rfl) ?_
    exact am_wk (Ls' := [.val (.ref 99), .val (.int x1), .val (.int s0), .unset, .unset, .unset, .unset, .unset, .unset, .unset, .unset, .unset, .unset, .unset, .unset, .unset, .unset, .unset, .unset, .unset, .unset]) (by simp [wkL]) (okc_q_law_39 hw hc hw0 hsc hn x1 s0 (8 : Int32) σ)
  · refine am_blk (pc' := 30) (Ls' := [.val (.ref 99), .val (.int x1), .val (.int s0), .unset, .unset, .unset, .unset, .unset, .unset, .unset, .unset, .unset, .unset, .unset, .unset, .unset, .unset, .unset, .unset, .unset, .unset]) (St' := [.int (32 : Int32), .int s0]) (σ' := σ) [.iload_n 2, .bipush 32] (by decide +kernel) hc hT hF wi (by exact rfl) ?_
    refine am_icmp_le (o := 8) (pc1 := 38) (by decide +kernel) hc (fun hq => ?_) (fun hq => ?_)
    · refine am_blk (pc' := 39) (Ls' := [.val (.ref 99), .val (.int x1), .val (.int s0), .unset, .unset, .unset, .unset, .unset, .unset, .unset, .unset, .unset, .unset, .unset, .unset, .unset, .unset, .unset, .unset, .unset, .unset]) (St' := [.int (32 : Int32)]) (σ' := σ) [.bipush 32, .goto 4] (by decide +kernel) hc hT hF wi (by exact rfl) ?_
      exact am_wk (Ls' := [.val (.ref 99), .val (.int x1), .val (.int s0), .unset, .unset, .unset, .unset, .unset, .unset, .unset, .unset, .unset, .unset, .unset, .unset, .unset, .unset, .unset, .unset, .unset, .unset]) (by simp [wkL]) (okc_q_law_39 hw hc hw0 hsc hn x1 s0 (32 : Int32) σ)
    · refine am_blk (pc' := 39) (Ls' := [.val (.ref 99), .val (.int x1), .val (.int s0), .unset, .unset, .unset, .unset, .unset, .unset, .unset, .unset, .unset, .unset, .unset, .unset, .unset, .unset, .unset, .unset, .unset, .unset]) (St' := [.int s0]) (σ' := σ) [.iload_n 2] (by decide +kernel) hc hT hF wi (by exact rfl) ?_
      exact am_wk (Ls' := [.val (.ref 99), .val (.int x1), .val (.int s0), .unset, .unset, .unset, .unset, .unset, .unset, .unset, .unset, .unset, .unset, .unset, .unset, .unset, .unset, .unset, .unset, .unset, .unset]) (by simp [wkL]) (okc_q_law_39 hw hc hw0 hsc hn x1 s0 s0 σ)
def q_law (sn : Nat) (sf : Nat → Int32) : Option (Int32 × Sg) :=
  if 0 < sn.toInt32 then (if inb (0 : Int32) sn = true then (q_law_15 sn sf sn.toInt32 (sf (nx (0 : Int32))) zs) else none) else (q_law_15 sn sf sn.toInt32 (12 : Int32) zs)
set_option maxRecDepth 65536 in
set_option maxHeartbeats 4000000 in
theorem ok_q_law (hw : WH a0 Z) (hw0 : Rd w0 12) (hsc : w0 99 = some (.inr (.int, sn, some sf))) (hn : n0 ≤ h0.size) (hc : Cx p s m meth c Z "BoolUnifierYL6" code 21 (some .boolean) "law") : OkR p l e rm_q_law s m args below meth c Z "BoolUnifierY" fsC n0 h0 FL A w0 0 0 0 [.val (.ref 99), .unset, .unset, .unset, .unset, .unset, .unset, .unset, .unset, .unset, .unset, .unset, .unset, .unset, .unset, .unset, .unset, .unset, .unset, .unset, .unset] [] zs (q_law sn sf) := by
  have hT := tabL hw "law"
  have hF := fsokC hw
  have wi := wiC hw
  unfold q_law
  refine am_blk (pc' := 1) (Ls' := [.val (.ref 99), .unset, .unset, .unset, .unset, .unset, .unset, .unset, .unset, .unset, .unset, .unset, .unset, .unset, .unset, .unset, .unset, .unset, .unset, .unset, .unset]) (St' := [.ref 99]) (σ' := zs) [.aload_n 0] (by decide +kernel) hc hT hF wi (by exact rfl) ?_
  refine am_alen (by decide +kernel) hc hsc ?_
  refine am_blk (pc' := 4) (Ls' := [.val (.ref 99), .val (.int sn.toInt32), .unset, .unset, .unset, .unset, .unset, .unset, .unset, .unset, .unset, .unset, .unset, .unset, .unset, .unset, .unset, .unset, .unset, .unset, .unset]) (St' := [.int sn.toInt32]) (σ' := zs) [.istore_n 1, .iload_n 1] (by decide +kernel) hc hT hF wi (by exact rfl) ?_
  refine am_if_le (o := 9) (pc1 := 13) (by decide +kernel) hc (fun hq => ?_) (fun hq => ?_)
  · refine am_blk (pc' := 9) (Ls' := [.val (.ref 99), .val (.int sn.toInt32), .unset, .unset, .unset, .unset, .unset, .unset, .unset, .unset, .unset, .unset, .unset, .unset, .unset, .unset, .unset, .unset, .unset, .unset, .unset]) (St' := [.int (0 : Int32), .ref 99]) (σ' := zs) [.aload_n 0, .iconst 0] (by decide +kernel) hc hT hF wi (by exact rfl) ?_
    refine am_ialoadC (by decide +kernel) hc hsc (fun hb0 => ?_)
    refine am_blk (pc' := 15) (Ls' := [.val (.ref 99), .val (.int sn.toInt32), .unset, .unset, .unset, .unset, .unset, .unset, .unset, .unset, .unset, .unset, .unset, .unset, .unset, .unset, .unset, .unset, .unset, .unset, .unset]) (St' := [.int (sf (nx (0 : Int32)))]) (σ' := zs) [.goto 5] (by decide +kernel) hc hT hF wi (by exact rfl) ?_
    exact am_wk (Ls' := [.val (.ref 99), .val (.int sn.toInt32), .unset, .unset, .unset, .unset, .unset, .unset, .unset, .unset, .unset, .unset, .unset, .unset, .unset, .unset, .unset, .unset, .unset, .unset, .unset]) (by simp [wkL]) (okc_q_law_15 hw hc hw0 hsc hn sn.toInt32 (sf (nx (0 : Int32))) zs)
  · refine am_blk (pc' := 15) (Ls' := [.val (.ref 99), .val (.int sn.toInt32), .unset, .unset, .unset, .unset, .unset, .unset, .unset, .unset, .unset, .unset, .unset, .unset, .unset, .unset, .unset, .unset, .unset, .unset, .unset]) (St' := [.int (12 : Int32)]) (σ' := zs) [.bipush 12] (by decide +kernel) hc hT hF wi (by exact rfl) ?_
    exact am_wk (Ls' := [.val (.ref 99), .val (.int sn.toInt32), .unset, .unset, .unset, .unset, .unset, .unset, .unset, .unset, .unset, .unset, .unset, .unset, .unset, .unset, .unset, .unset, .unset, .unset, .unset]) (by simp [wkL]) (okc_q_law_15 hw hc hw0 hsc hn sn.toInt32 (12 : Int32) zs)
end Walk
/-! numbers -/
theorem ti_lt {x y : Int32} : x < y ↔ x.toInt < y.toInt := Int32.lt_iff_toInt_lt
theorem ti_eq {x y : Int32} : x = y ↔ x.toInt = y.toInt := Int32.toInt_inj.symm
theorem ti_lo (x : Int32) : -2147483648 ≤ x.toInt := Int32.le_toInt x
theorem ti_hi (x : Int32) : x.toInt ≤ 2147483647 := by have := Int32.toInt_lt x; omega
theorem ti_add {x y : Int32} (h1 : -2147483648 ≤ x.toInt + y.toInt) (h2 : x.toInt + y.toInt ≤ 2147483647) : (x + y).toInt = x.toInt + y.toInt := by
  rw [Int32.toInt_add]; exact Int.bmod_eq_of_le (by omega) (by omega)
theorem ti_sub {x y : Int32} (h1 : -2147483648 ≤ x.toInt - y.toInt) (h2 : x.toInt - y.toInt ≤ 2147483647) : (x - y).toInt = x.toInt - y.toInt := by
  rw [Int32.toInt_sub]; exact Int.bmod_eq_of_le (by omega) (by omega)
theorem ti_mul {x y : Int32} (h1 : -2147483648 ≤ x.toInt * y.toInt) (h2 : x.toInt * y.toInt ≤ 2147483647) : (x * y).toInt = x.toInt * y.toInt := by
  rw [Int32.toInt_mul]; exact Int.bmod_eq_of_le (by omega) (by omega)
theorem ti_add1 {x : Int32} (h : x.toInt < 2147483647) : (x + 1).toInt = x.toInt + 1 := by
  have := ti_lo x
  have e : (1 : Int32).toInt = 1 := rfl
  rw [ti_add (by omega) (by omega), e]
theorem inbT {i : Int32} {n : Nat} (h1 : 0 ≤ i.toInt) (h2 : i.toInt < (n : Int)) : inb i n = true := inb_iff.mpr ⟨h1, h2⟩
theorem nx_eq {i : Int32} {n : Nat} (h : i.toInt = (n : Int)) : nx i = n := by unfold nx; omega
theorem nx_lt {i : Int32} {n : Nat} (h1 : 0 ≤ i.toInt) (h2 : i.toInt < (n : Int)) : nx i < n := by unfold nx; omega
theorem ti_nat {q : Int32} (h : 0 ≤ q.toInt) : q.toBitVec.toNat = q.toInt.toNat := by
  have e : q.toInt = q.toBitVec.toInt := rfl
  rw [BitVec.toInt_eq_toNat_cond] at e
  have := q.toBitVec.isLt
  split at e <;> omega
theorem ti_ofNat {n : Nat} (h : n < 2147483648) : (Int32.ofNat n).toInt = (n : Int) := Int32.toInt_ofNat_of_lt h
theorem eq_ofNat {x : Int32} {n : Nat} (h : x.toInt = (n : Int)) : x = Int32.ofNat n := by
  have := ti_hi x
  rw [ti_eq, ti_ofNat (by omega)]; exact h
theorem nx_ofNat {n : Nat} (h : n < 2147483648) : nx (Int32.ofNat n) = n := nx_eq (ti_ofNat h)
theorem ofNat_nx {x : Int32} (h : 0 ≤ x.toInt) : Int32.ofNat (nx x) = x := by
  have := ti_hi x
  rw [ti_eq, ti_ofNat (by unfold nx; omega)]; unfold nx; omega
theorem ofNat_succ (n : Nat) : Int32.ofNat n + 1 = Int32.ofNat (n + 1) := by
  rw [Int32.ofNat_add]; rfl
theorem ofNat_lt {a b : Nat} (ha : a < 2147483648) (hb : b < 2147483648) : Int32.ofNat a < Int32.ofNat b ↔ a < b := by
  rw [ti_lt, ti_ofNat ha, ti_ofNat hb]; omega
theorem ti_shr {x q : Int32} {k : Nat} (hq : q.toInt = (k : Int)) (hk : k < 32) : (x >>> (q &&& 31)).toInt = x.toInt / ((2 ^ k : Nat) : Int) := c_ishr x q k (by rw [ti_nat (by omega)]; omega)
theorem ti_shl {x q : Int32} {k : Nat} (hq : q.toInt = (k : Int)) (hk : k < 32) (h1 : -2147483648 ≤ x.toInt * ((2 ^ k : Nat) : Int)) (h2 : x.toInt * ((2 ^ k : Nat) : Int) ≤ 2147483647) : (x <<< (q &&& 31)).toInt = x.toInt * ((2 ^ k : Nat) : Int) := by
  have a := c_ishl x q k (by rw [ti_nat (by omega)]; omega)
  have b := ti_lo (x <<< (q &&& 31))
  have c := ti_hi (x <<< (q &&& 31))
  generalize x.toInt * ((2 ^ k : Nat) : Int) = z at *
  omega
/-- a counted loop: an invariant goes through -/
theorem loop_inv {α : Type} (L : Nat → Int32 → Sg → Option α) (body : Int32 → Sg → Option Sg) (exit : Sg → Option α) (N : Nat) (hN : N < 2147483648)
    (hL : ∀ f i σ, L (f + 1) i σ = if i < Int32.ofNat N then (body i σ).bind (fun r => L f (i + 1) r) else exit σ) (Inv : Nat → Sg → Prop)
    (hb : ∀ i σ, i < N → Inv i σ → ∃ σ', body (Int32.ofNat i) σ = some σ' ∧ Inv (i + 1) σ') :
    ∀ (k i fuel : Nat) (σ : Sg), i + k = N → k < fuel → Inv i σ → ∃ σ', L fuel (Int32.ofNat i) σ = exit σ' ∧ Inv N σ' := by
  intro k
  induction k with
  | zero =>
    intro i fuel σ h1 h2 h3
    obtain ⟨f, rfl⟩ : ∃ f, fuel = f + 1 := ⟨fuel - 1, by omega⟩
    have : i = N := by omega
    subst this
    rw [hL, if_neg (by rw [ofNat_lt hN hN]; omega)]
    exact ⟨σ, rfl, h3⟩
  | succ k ih =>
    intro i fuel σ h1 h2 h3
    obtain ⟨f, rfl⟩ : ∃ f, fuel = f + 1 := ⟨fuel - 1, by omega⟩
    obtain ⟨σ1, q1, q2⟩ := hb i σ (by omega) h3
    rw [hL, if_pos (by rw [ofNat_lt (by omega) hN]; omega), q1, Option.bind_some, ofNat_succ]
    exact ih (i + 1) f σ1 (by omega) (by omega) q2
/-! bits of longs -/
/-- bit m of a table -/
def tbL (y : Int64) (m : Nat) : Bool := y.toBitVec.getLsbD m
theorem cmp0 (x y : Int64) : XT.cmpL x y = 0 ↔ x = y := by
  unfold XT.cmpL
  by_cases h : x = y
  · subst h; simp [Int64.lt_irrefl]
  · by_cases h2 : y < x
    · simp [h, h2]
    · simp [h, h2]
theorem shL_lit : ∀ k : Fin 64, ((Int32.ofNat k.1).toInt64.toUInt64 &&& Int64.toUInt64 63) = UInt64.ofNat k.1 := by decide +kernel
theorem ushrL_bv (y : Int64) {k : Nat} (h : k < 64) : (XT.ushrL y (Int32.ofNat k)).toBitVec = y.toBitVec >>> k := by
  unfold XT.ushrL
  rw [shL_lit ⟨k, h⟩]
  show (y.toUInt64 >>> UInt64.ofNat k).toBitVec = _
  rw [UInt64.toBitVec_shiftRight]
  have : ((UInt64.ofNat k).toBitVec % 64).toNat = k := by
    rw [BitVec.toNat_umod]
    show (UInt64.ofNat k).toNat % 64 = k
    rw [UInt64.toNat_ofNat']
    omega
  rw [BitVec.ushiftRight_eq', this]
  rfl
theorem bitL (y : Int64) {k : Nat} (h : k < 64) : (XT.ushrL y (Int32.ofNat k)) &&& 1 = 0 ↔ tbL y k = false := by
  rw [← Int64.toBitVec_inj, Int64.toBitVec_and, ushrL_bv y h]
  unfold tbL
  constructor
  · intro q
    have := congrArg (fun b => b.getLsbD 0) q
    simpa using this
  · intro q
    apply BitVec.eq_of_getLsbD_eq
    intro i hi
    rw [BitVec.getLsbD_and]
    by_cases e : i = 0
    · subst e; simp [q]
    · have : (1 : Int64).toBitVec.getLsbD i = false := by
        show (1#64).getLsbD i = false
        simp [BitVec.getLsbD_one, e]
      rw [this]; simp
theorem shl_lit : ∀ k : Fin 64, ((((Int32.ofNat k.1).toInt64 &&& 63 : Int64).toBitVec.smod 64)).toNat = k.1 := by decide +kernel
theorem shl_bv (y : Int64) {k : Nat} (h : k < 64) : (y <<< ((Int32.ofNat k).toInt64 &&& 63)).toBitVec = y.toBitVec <<< k := by
  rw [Int64.toBitVec_shiftLeft, BitVec.shiftLeft_eq', shl_lit ⟨k, h⟩]
theorem tbL_shl (y : Int64) {k t : Nat} (h : k < 64) (ht : t < 64) : tbL (y <<< ((Int32.ofNat k).toInt64 &&& 63)) t = (decide (k ≤ t) && tbL y (t - k)) := by
  unfold tbL
  rw [shl_bv y h, BitVec.getLsbD_shiftLeft]
  by_cases q : t < k
  · simp [q, show ¬ k ≤ t by omega]
  · simp [q, ht, show k ≤ t by omega]
theorem tbL_or (x y : Int64) (t : Nat) : tbL (x ||| y) t = (tbL x t || tbL y t) := by unfold tbL; rw [Int64.toBitVec_or, BitVec.getLsbD_or]
theorem tbL_and (x y : Int64) (t : Nat) : tbL (x &&& y) t = (tbL x t && tbL y t) := by unfold tbL; rw [Int64.toBitVec_and, BitVec.getLsbD_and]
theorem tbL_xor (x y : Int64) (t : Nat) : tbL (x ^^^ y) t = (tbL x t ^^ tbL y t) := by unfold tbL; rw [Int64.toBitVec_xor, BitVec.getLsbD_xor]
theorem tbL_neg1 {t : Nat} (h : t < 64) : tbL (-1) t = true := by
  have : ∀ t : Fin 64, tbL (-1) t.1 = true := by decide +kernel
  exact this ⟨t, h⟩
theorem tbL_zero (t : Nat) : tbL 0 t = false := by
  unfold tbL; show (0#64).getLsbD t = false; simp
theorem tbL_one (t : Nat) : tbL 1 t = decide (t = 0) := by
  unfold tbL; show (1#64).getLsbD t = _
  by_cases h : t = 0
  · subst h; rfl
  · simp [BitVec.getLsbD_one, h]
theorem tbL_ext {x y : Int64} (h : ∀ t, t < 64 → tbL x t = tbL y t) : x = y := by
  apply Int64.toBitVec_inj.mp
  apply BitVec.eq_of_getLsbD_eq
  intro t ht
  exact h t ht
/-! bits of ints -/
def tbI (m : Int32) (i : Nat) : Bool := m.toBitVec.getLsbD i
theorem shr_lit : ∀ k : Fin 32, (((Int32.ofNat k.1 &&& 31 : Int32).toBitVec.smod 32)).toNat = k.1 := by decide +kernel
theorem shr_bit (m : Int32) {i : Nat} (h : i < 32) : (m >>> (Int32.ofNat i &&& 31)) &&& 1 = 0 ↔ tbI m i = false := by
  have e : (m >>> (Int32.ofNat i &&& 31)).toBitVec = m.toBitVec.sshiftRight i := by
    rw [Int32.toBitVec_shiftRight, BitVec.sshiftRight_eq', shr_lit ⟨i, h⟩]
  rw [← Int32.toBitVec_inj, Int32.toBitVec_and, e]
  unfold tbI
  have e0 : (m.toBitVec.sshiftRight i).getLsbD 0 = m.toBitVec.getLsbD i := by
    rw [BitVec.getLsbD_sshiftRight]; simp [h]
  constructor
  · intro q
    have := congrArg (fun b => b.getLsbD 0) q
    rw [← e0]
    simpa using this
  · intro q
    apply BitVec.eq_of_getLsbD_eq
    intro t ht
    rw [BitVec.getLsbD_and]
    by_cases z : t = 0
    · subst z; rw [e0, q]; simp
    · have : (1 : Int32).toBitVec.getLsbD t = false := by
        show (1#32).getLsbD t = false
        simp [BitVec.getLsbD_one, z]
      rw [this]; simp
theorem tbI_bit {k i : Nat} (hk : k < 32) (hi : i < 32) : tbI ((1 : Int32) <<< (Int32.ofNat k &&& 31)) i = decide (i = k) := by
  have : ∀ (k i : Fin 32), tbI ((1 : Int32) <<< (Int32.ofNat k.1 &&& 31)) i.1 = decide (i.1 = k.1) := by decide +kernel
  exact this ⟨k, hk⟩ ⟨i, hi⟩
theorem tbI_or (x y : Int32) (t : Nat) : tbI (x ||| y) t = (tbI x t || tbI y t) := by unfold tbI; rw [Int32.toBitVec_or, BitVec.getLsbD_or]
theorem tbI_and (x y : Int32) (t : Nat) : tbI (x &&& y) t = (tbI x t && tbI y t) := by unfold tbI; rw [Int32.toBitVec_and, BitVec.getLsbD_and]
theorem tbI_xor (x y : Int32) (t : Nat) : tbI (x ^^^ y) t = (tbI x t ^^ tbI y t) := by unfold tbI; rw [Int32.toBitVec_xor, BitVec.getLsbD_xor]
theorem tbI_neg1 {t : Nat} (h : t < 32) : tbI (-1) t = true := by
  have : ∀ t : Fin 32, tbI (-1) t.1 = true := by decide +kernel
  exact this ⟨t, h⟩
theorem tbI_zero (t : Nat) : tbI 0 t = false := by
  unfold tbI; show (0#32).getLsbD t = false; simp
theorem tbI_ext {x y : Int32} (h : ∀ t, t < 32 → tbI x t = tbI y t) : x = y := by
  apply Int32.toBitVec_inj.mp
  apply BitVec.eq_of_getLsbD_eq
  intro t ht
  exact h t ht
theorem tbI_ne0 {x : Int32} (h : x ≠ 0) : ∃ t, t < 32 ∧ tbI x t = true := by
  apply Classical.byContradiction
  intro q
  apply h
  refine tbI_ext fun t ht => ?_
  rw [tbI_zero]
  cases e : tbI x t with
  | false => rfl
  | true => exact absurd ⟨t, ht, e⟩ q
/-! BoolUnifierY: printing -/
def Pr (σ : Sg) (v : Nat) (l : List Int32) : Prop := gi σ 12 v = Int32.ofNat l.length ∧ ∀ i (h : i < l.length), gi σ 11 (v * 385 + i) = l[i]
def FrP (v : Nat) (σ σ' : Sg) : Prop := (∀ k j, k ≠ 11 → k ≠ 12 → gi σ' k j = gi σ k j) ∧ (∀ k j, gj σ' k j = gj σ k j) ∧ (∀ j, j ≠ v → gi σ' 12 j = gi σ 12 j) ∧ (∀ j, ¬ (v * 385 ≤ j ∧ j < v * 385 + 385) → gi σ' 11 j = gi σ 11 j)
theorem FrP.refl (v : Nat) (σ : Sg) : FrP v σ σ := ⟨fun _ _ _ _ => rfl, fun _ _ => rfl, fun _ _ => rfl, fun _ _ => rfl⟩
theorem FrP.trans {v : Nat} {σ σ' σ'' : Sg} (a : FrP v σ σ') (b : FrP v σ' σ'') : FrP v σ σ'' := ⟨fun k j x y => (b.1 k j x y).trans (a.1 k j x y), fun k j => (b.2.1 k j).trans (a.2.1 k j), fun j x => (b.2.2.1 j x).trans (a.2.2.1 j x), fun j x => (b.2.2.2 j x).trans (a.2.2.2 j x)⟩
theorem p_vv (v : Int32) (σ : Sg) : c_validVar v σ = some (if v < 0 then 0 else if 5 < v then 0 else 1, σ) := by
  unfold c_validVar
  split
  · rfl
  · split <;> rfl
theorem vv_ok {v : Nat} (h : v ≤ 5) (σ : Sg) : c_validVar (Int32.ofNat v) σ = some (1, σ) := by
  have e0 : (0 : Int32).toInt = 0 := rfl
  have e5 : (5 : Int32).toInt = 5 := rfl
  have ev := ti_ofNat (n := v) (by omega)
  rw [p_vv, if_neg (by rw [ti_lt]; omega), if_neg (by rw [ti_lt]; omega)]
theorem p_pi {v : Nat} (h : v ≤ 5) {k : Nat} (hk : k < 385) (σ : Sg) : c_printIndex (Int32.ofNat v) (Int32.ofNat k) σ = some (Int32.ofNat (v * 385 + k), σ) := by
  have e0 : (0 : Int32).toInt = 0 := rfl
  have e385 : (385 : Int32).toInt = 385 := rfl
  have ev := ti_ofNat (n := v) (by omega)
  have ek := ti_ofNat (n := k) (by omega)
  unfold c_printIndex
  rw [vv_ok h, Option.bind_some, if_neg (show ¬ (1 : Int32) = 0 by decide), if_neg (by rw [ti_lt]; omega), if_pos (by rw [ti_lt]; omega)]
  congr 2
  refine eq_ofNat ?_
  have hm : (Int32.ofNat v * 385).toInt = (v : Int) * 385 := by rw [ti_mul (by rw [ev, e385]; omega) (by rw [ev, e385]; omega), ev, e385]
  rw [ti_add (by omega) (by omega), hm, ek]; omega
theorem p_emit {v : Nat} {c : Int32} {σ : Sg} {l : List Int32} (hv : v ≤ 5) (P : Pr σ v l) (hl : l.length < 385) (hc : c.toInt8.toInt32.toInt8.toInt32 = c) : ∃ σ', c_emit (Int32.ofNat v) c σ = some σ' ∧ Pr σ' v (l ++ [c]) ∧ FrP v σ σ' := by
  have e0 : (0 : Int32).toInt = 0 := rfl
  have ev := ti_ofNat (n := v) (by omega)
  have nv : nx (Int32.ofNat v) = v := nx_ofNat (by omega)
  have ei := ti_ofNat (n := v * 385 + l.length) (by omega)
  have ni : nx (Int32.ofNat (v * 385 + l.length)) = v * 385 + l.length := nx_ofNat (by omega)
  unfold c_emit
  rw [vv_ok hv, Option.bind_some, if_neg (show ¬ (1 : Int32) = 0 by decide), if_pos (inbT (by omega) (show (Int32.ofNat v).toInt < ((6 : Nat) : Int) by omega)), nv, P.1, p_pi hv hl, Option.bind_some, if_neg (show ¬ Int32.ofNat (v * 385 + l.length) < 0 by rw [ti_lt]; omega),
    if_pos (inbT (by omega) (show (Int32.ofNat (v * 385 + l.length)).toInt < ((2310 : Nat) : Int) by omega)), ni, hc, ofNat_succ]
  refine ⟨_, rfl, ⟨?_, fun i hi => ?_⟩, fun k j a b => ?_, fun k j => rfl, fun j a => ?_, fun j a => ?_⟩
  · rw [gi_si, if_pos ⟨rfl, rfl⟩, List.length_append]; rfl
  · rw [gi_si, if_neg (by simp), gi_si]
    rw [List.length_append] at hi
    by_cases e : i = l.length
    · subst e; simp
    · have hlt : i < l.length := by simp at hi; omega
      rw [if_neg (by omega), List.getElem_append_left hlt]
      exact P.2 i hlt
  · rw [gi_si, if_neg (fun q => b q.1), gi_si, if_neg (fun q => a q.1)]
  · rw [gi_si, if_neg (fun q => a q.2), gi_si, if_neg (by simp)]
  · rw [gi_si, if_neg (by simp), gi_si, if_neg (fun q => a (by omega))]
def monoF (m : Nat) : Nat → Nat → Bool → List Int32
  | 0, _, _ => []
  | k + 1, u, first => if m.testBit u then Int32.ofNat (2 + u) :: ((if first then [] else [9]) ++ monoF m k (u + 1) false) else monoF m k (u + 1) first
def mono (m : Nat) : List Int32 := if m = 0 then [1] else monoF m 6 0 true
def polyF (c : Nat → Bool) : Nat → Nat → Bool → List Int32
  | 0, _, _ => []
  | k + 1, m, first => if c m then mono m ++ ((if first then [] else [11]) ++ polyF c k (m + 1) false) else polyF c k (m + 1) first
theorem bit6 : ∀ (m : Fin 64) (u : Fin 6), (((Int32.ofNat m.1 >>> (Int32.ofNat u.1 &&& 31)) &&& (1 : Int32)) = 0) = (m.1.testBit u.1 = false) := by
  have : ∀ (m : Fin 64) (u : Fin 6), decide (((Int32.ofNat m.1 >>> (Int32.ofNat u.1 &&& 31)) &&& (1 : Int32)) = 0) = !(m.1.testBit u.1) := by decide +kernel
  intro m u
  have h := this m u
  by_cases q : m.1.testBit u.1 = true
  · rw [q] at h; simp at h; simp [q, h]
  · have q' : m.1.testBit u.1 = false := by simpa using q
    rw [q'] at h; simp at h; simp [q', h]
theorem code8 : ∀ u : Fin 14, (Int32.ofNat u.1).toInt8.toInt32.toInt8.toInt32 = Int32.ofNat u.1 := by decide +kernel
theorem p_mono_loop {v m : Nat} (hv : v ≤ 5) (hm : m < 64) (k : Nat) : ∀ (u fuel : Nat) (cnt : Int32) (σ : Sg) (l : List Int32), u + k = 6 → k < fuel → 0 ≤ cnt.toInt → cnt.toInt ≤ u → Pr σ v l → l.length + (monoF m k u (decide (cnt.toInt = 0))).length ≤ 385 →
    ∃ σ', c_emitMonomial_16 fuel (Int32.ofNat v) (Int32.ofNat m) cnt (Int32.ofNat u) σ = some σ' ∧ Pr σ' v (l ++ monoF m k u (decide (cnt.toInt = 0))) ∧ FrP v σ σ' := by
  have e6 : (6 : Int32).toInt = 6 := rfl
  have e0 : (0 : Int32).toInt = 0 := rfl
  have e2 : (2 : Int32).toInt = 2 := rfl
  have e1 : (1 : Int32).toInt = 1 := rfl
  induction k with
  | zero =>
    intro u fuel cnt σ l h1 h2 h3 h4 P hl
    obtain ⟨f, rfl⟩ : ∃ f, fuel = f + 1 := ⟨fuel - 1, by omega⟩
    have eu := ti_ofNat (n := u) (by omega)
    rw [c_emitMonomial_16, if_neg (by rw [ti_lt]; omega)]
    exact ⟨σ, rfl, by simpa [monoF] using P, FrP.refl v σ⟩
  | succ k ih =>
    intro u fuel cnt σ l h1 h2 h3 h4 P hl
    obtain ⟨f, rfl⟩ : ∃ f, fuel = f + 1 := ⟨fuel - 1, by omega⟩
    have eu := ti_ofNat (n := u) (by omega)
    rw [c_emitMonomial_16, if_pos (by rw [ti_lt]; omega)]
    have hb := bit6 ⟨m, hm⟩ ⟨u, by omega⟩
    simp only [] at hb
    unfold monoF at hl ⊢
    by_cases ht : m.testBit u = true
    · rw [if_neg (by rw [hb, ht]; simp)]
      simp only [ht, if_true] at hl ⊢
      have hcode : (2 : Int32) + Int32.ofNat u = Int32.ofNat (2 + u) := by refine eq_ofNat ?_; rw [ti_add (by omega) (by omega), e2, eu]; omega
      have hc8 := code8 ⟨2 + u, by omega⟩
      simp only [List.length_cons, List.length_append] at hl
      rw [hcode]
      obtain ⟨σ1, q1, P1, F1⟩ := p_emit hv P (by omega) hc8
      rw [q1, Option.bind_some]
      have hcn : (cnt + 1).toInt = cnt.toInt + 1 := ti_add1 (by omega)
      have hd : decide ((cnt + 1).toInt = 0) = false := decide_eq_false (by omega)
      by_cases hz : cnt.toInt = 0
      · rw [if_neg (by rw [ti_lt]; omega)]
        simp only [hz, decide_true, if_true, List.nil_append, List.length_nil] at hl ⊢
        unfold c_emitMonomial_52 c_emitMonomial_55
        rw [ofNat_succ]
        obtain ⟨σ2, q2, P2, F2⟩ := ih (u + 1) f (cnt + 1) σ1 (l ++ [Int32.ofNat (2 + u)]) (by omega) (by omega) (by omega) (by omega) P1 (by rw [hd]; simp; omega)
        rw [hd] at P2
        exact ⟨σ2, q2, by simpa using P2, F1.trans F2⟩
      · rw [if_pos (by rw [ti_lt]; omega)]
        simp only [hz, decide_false, Bool.false_eq_true, if_false, List.length_cons, List.length_nil] at hl ⊢
        obtain ⟨σ2, q2, P2, F2⟩ := p_emit (c := 9) hv P1 (by simp; omega) (by decide)
        rw [q2, Option.bind_some]
        unfold c_emitMonomial_52 c_emitMonomial_55
        rw [ofNat_succ]
        obtain ⟨σ3, q3, P3, F3⟩ := ih (u + 1) f (cnt + 1) σ2 (l ++ [Int32.ofNat (2 + u)] ++ [9]) (by omega) (by omega) (by omega) (by omega) P2 (by rw [hd]; simp; omega)
        rw [hd] at P3
        exact ⟨σ3, q3, by simpa using P3, (F1.trans F2).trans F3⟩
    · have ht' : m.testBit u = false := by simpa using ht
      rw [if_pos (by rw [hb]; exact ht')]
      simp only [ht', Bool.false_eq_true, if_false] at hl ⊢
      unfold c_emitMonomial_55
      rw [ofNat_succ]
      exact ih (u + 1) f cnt σ l (by omega) (by omega) h3 (by omega) P hl
theorem p_mono {v m : Nat} (hv : v ≤ 5) (hm : m < 64) {σ : Sg} {l : List Int32} (P : Pr σ v l) (hl : l.length + (mono m).length ≤ 385) : ∃ σ', c_emitMonomial (Int32.ofNat v) (Int32.ofNat m) σ = some σ' ∧ Pr σ' v (l ++ mono m) ∧ FrP v σ σ' := by
  unfold c_emitMonomial mono at *
  by_cases h : m = 0
  · subst h
    simp only [if_true] at hl ⊢
    rw [if_pos (show Int32.ofNat 0 = 0 from rfl)]
    obtain ⟨σ1, q1, P1, F1⟩ := p_emit (c := 1) hv P (by simp at hl; omega) (by decide)
    exact ⟨σ1, by rw [q1]; rfl, P1, F1⟩
  · rw [if_neg h] at hl ⊢
    have : ¬ Int32.ofNat m = 0 := by
      rw [ti_eq, ti_ofNat (by omega)]; have : (0 : Int32).toInt = 0 := rfl; omega
    rw [if_neg this]
    exact p_mono_loop hv hm 6 0 400 0 σ l rfl (by decide) (by decide) (by decide) P hl
def wtS : Nat → Nat
  | 0 => 0
  | m + 1 => wtS m + ((mono m).length + 1)
theorem wtS_mono {a b : Nat} (h : a ≤ b) : wtS a ≤ wtS b := by
  induction b with
  | zero => have : a = 0 := by omega
            subst this; exact Nat.le_refl _
  | succ b ih =>
    by_cases e : a = b + 1
    · subst e; exact Nat.le_refl _
    · have := ih (by omega)
      have w : wtS (b + 1) = wtS b + ((mono b).length + 1) := rfl
      omega
theorem wtS64 : wtS 64 = 386 := by decide +kernel
theorem p_poly_loop {v : Nat} (hv : v ≤ 5) (y : Int64) (k : Nat) : ∀ (m fuel : Nat) (fst : Int32) (σ : Sg) (l : List Int32), m + k = 64 → k < fuel → Pr σ v l → (fst = 0 → l.length + 1 ≤ wtS m) → (fst ≠ 0 → l = []) →
    ∃ σ', c_emitPolynomial_6 fuel (Int32.ofNat v) y fst (Int32.ofNat m) σ = some σ' ∧ Pr σ' v (l ++ polyF (tbL y) k m (decide (fst ≠ 0))) ∧ FrP v σ σ' ∧ (l ++ polyF (tbL y) k m (decide (fst ≠ 0))).length ≤ 385 := by
  have e64 : (64 : Int32).toInt = 64 := rfl
  induction k with
  | zero =>
    intro m fuel fst σ l h1 h2 P a b
    obtain ⟨f, rfl⟩ : ∃ f, fuel = f + 1 := ⟨fuel - 1, by omega⟩
    have em := ti_ofNat (n := m) (by omega)
    rw [c_emitPolynomial_6, if_neg (by rw [ti_lt]; omega)]
    refine ⟨σ, rfl, by simpa [polyF] using P, FrP.refl v σ, ?_⟩
    have hm : m = 64 := by omega
    subst hm
    simp only [polyF, List.append_nil]
    by_cases z : fst = 0
    · have := a z; rw [wtS64] at this; omega
    · rw [b z]; simp
  | succ k ih =>
    intro m fuel fst σ l h1 h2 P a b
    obtain ⟨f, rfl⟩ : ∃ f, fuel = f + 1 := ⟨fuel - 1, by omega⟩
    have em := ti_ofNat (n := m) (by omega)
    rw [c_emitPolynomial_6, if_pos (by rw [ti_lt]; omega)]
    unfold polyF
    have hcond : XT.cmpL (XT.ushrL y (Int32.ofNat m) &&& 1) 0 = 0 ↔ tbL y m = false := by rw [cmp0]; exact bitL y (by omega)
    have w1 : wtS (m + 1) = wtS m + ((mono m).length + 1) := rfl
    have w2 : wtS (m + 1) ≤ 386 := by rw [← wtS64]; exact wtS_mono (by omega)
    by_cases ht : tbL y m = true
    · rw [if_neg (by rw [hcond, ht]; simp)]
      simp only [ht, if_true]
      have hlen : l.length + (mono m).length ≤ 385 := by
        by_cases z : fst = 0
        · have := a z; omega
        · rw [b z]; simp; omega
      obtain ⟨σ1, q1, P1, F1⟩ := p_mono hv (by omega : m < 64) P hlen
      rw [q1, Option.bind_some]
      by_cases z : fst = 0
      · have az := a z
        rw [if_pos z]
        obtain ⟨σ2, q2, P2, F2⟩ := p_emit (c := 11) hv P1 (by simp; omega) (by decide)
        rw [q2, Option.bind_some]
        unfold c_emitPolynomial_43 c_emitPolynomial_46
        rw [ofNat_succ]
        obtain ⟨σ3, q3, P3, F3, L3⟩ := ih (m + 1) f 0 σ2 (l ++ mono m ++ [11]) (by omega) (by omega) P2 (fun _ => by simp; omega) (fun q => absurd rfl q)
        have hd : decide ((0 : Int32) ≠ 0) = false := by simp
        have hd2 : decide (fst ≠ 0) = false := by simp [z]
        rw [hd] at P3 L3
        rw [hd2]
        exact ⟨σ3, q3, by simpa using P3, (F1.trans F2).trans F3, by simpa using L3⟩
      · rw [if_neg z]
        unfold c_emitPolynomial_43 c_emitPolynomial_46
        rw [ofNat_succ]
        have bl := b z
        obtain ⟨σ3, q3, P3, F3, L3⟩ := ih (m + 1) f 0 σ1 (l ++ mono m) (by omega) (by omega) P1 (fun _ => by rw [bl]; simp; omega) (fun q => absurd rfl q)
        have hd : decide ((0 : Int32) ≠ 0) = false := by simp
        have hd2 : decide (fst ≠ 0) = true := by simp [z]
        rw [hd] at P3 L3
        rw [hd2]
        exact ⟨σ3, q3, by simpa using P3, F1.trans F3, by simpa using L3⟩
    · have ht' : tbL y m = false := by simpa using ht
      rw [if_pos (hcond.mpr ht')]
      simp only [ht', Bool.false_eq_true, if_false]
      unfold c_emitPolynomial_46
      rw [ofNat_succ]
      exact ih (m + 1) f fst σ l (by omega) (by omega) P (fun z => by have := a z; omega) b
/-! the tables of the variables, the normal form -/
def txV (v : Nat) : Int64 := if v = 0 then -6148914691236517206 else if v = 1 then -3689348814741910324 else if v = 2 then -1085102592571150096 else if v = 3 then -71777214294589696 else if v = 4 then -281470681808896 else if v = 5 then -4294967296 else 0
theorem p_vt {v : Nat} (h : v ≤ 5) (σ : Sg) : c_varTable (Int32.ofNat v) σ = some (txV v, σ) := by
  match v, h with
  | 0, _ => rfl
  | 1, _ => rfl
  | 2, _ => rfl
  | 3, _ => rfl
  | 4, _ => rfl
  | 5, _ => rfl
def anfS (y : Int64) (v : Nat) : Int64 := y ^^^ ((y &&& (txV v ^^^ -1)) <<< (((1 : Int32) <<< (Int32.ofNat v &&& 31)).toInt64 &&& 63))
def anfV (y : Int64) : Int64 := anfS (anfS (anfS (anfS (anfS (anfS y 0) 1) 2) 3) 4) 5
theorem p_anf (y : Int64) (σ : Sg) : c_anf y σ = some (anfV y, σ) := by
  have step : ∀ (f : Nat) (y : Int64) (v : Nat), v ≤ 5 → c_anf_5 (f + 1) y (Int32.ofNat v) σ = c_anf_5 f (anfS y v) (Int32.ofNat (v + 1)) σ := by
    intro f y v h
    have ev := ti_ofNat (n := v) (by omega)
    have e6 : (6 : Int32).toInt = 6 := rfl
    rw [c_anf_5, if_pos (by rw [ti_lt]; omega), p_vt h, Option.bind_some, ofNat_succ]
    rfl
  unfold c_anf
  rw [show (0 : Int32) = Int32.ofNat 0 from rfl, step 399 y 0 (by decide), step 398 _ 1 (by decide), step 397 _ 2 (by decide), step 396 _ 3 (by decide), step 395 _ 4 (by decide), step 394 _ 5 (by decide), c_anf_5, if_neg (by decide)]
  rfl
def prn (g : Int64) : List Int32 := if anfV g = 0 then [0] else polyF (tbL (anfV g)) 64 0 true
theorem p_printOne {v : Nat} (hv : v ≤ 5) (σ : Sg) : ∃ σ', c_printOne (Int32.ofNat v) σ = some σ' ∧ Pr σ' v (prn (gj σ 3 v)) ∧ FrP v σ σ' ∧ (prn (gj σ 3 v)).length ≤ 385 := by
  have ev := ti_ofNat (n := v) (by omega)
  have nv : nx (Int32.ofNat v) = v := nx_ofNat (by omega)
  have P0 : Pr (si σ 12 v 0) v [] := ⟨by simp [gi_si], fun i h => by simp at h⟩
  have F0 : FrP v σ (si σ 12 v 0) := ⟨fun k j a b => by rw [gi_si, if_neg (fun q => b q.1)], fun k j => rfl, fun j a => by rw [gi_si, if_neg (fun q => a q.2)], fun j a => by rw [gi_si, if_neg (by simp)]⟩
  unfold c_printOne prn
  rw [vv_ok hv, Option.bind_some, if_neg (show ¬ (1 : Int32) = 0 by decide), if_pos (inbT (by omega) (show (Int32.ofNat v).toInt < ((6 : Nat) : Int) by omega)), nv, p_anf, Option.bind_some]
  simp only [cmp0]
  by_cases h : anfV (gj σ 3 v) = 0
  · rw [if_pos h, if_pos h]
    obtain ⟨σ1, q1, P1, F1⟩ := p_emit (c := 0) hv P0 (by simp) (by decide)
    rw [q1, Option.bind_some]
    exact ⟨σ1, rfl, P1, F0.trans F1, by simp⟩
  · rw [if_neg h, if_neg h]
    obtain ⟨σ1, q1, P1, F1, L1⟩ := p_poly_loop hv (anfV (gj σ 3 v)) 64 0 400 1 (si σ 12 v 0) [] rfl (by decide) P0 (fun q => by cases q) (fun _ => rfl)
    unfold c_emitPolynomial
    rw [show c_emitPolynomial_6 400 (Int32.ofNat v) (anfV (gj σ 3 v)) 1 0 (si σ 12 v 0) = some σ1 from q1, Option.bind_some]
    have hd : decide ((1 : Int32) ≠ 0) = true := by decide
    rw [hd] at P1 L1
    exact ⟨σ1, rfl, by simpa using P1, F0.trans F1, by simpa using L1⟩
/-- every variable's table is printed; nothing else changes -/
def FrA (σ σ' : Sg) : Prop := (∀ k j, k ≠ 11 → k ≠ 12 → gi σ' k j = gi σ k j) ∧ (∀ k j, gj σ' k j = gj σ k j)
theorem Pr.other {σ σ' : Sg} {v u : Nat} {l : List Int32} (P : Pr σ u l) (F : FrP v σ σ') (ne : u ≠ v) (hl : l.length ≤ 385) : Pr σ' u l := by
  refine ⟨by rw [F.2.2.1 u ne]; exact P.1, fun i h => ?_⟩
  rw [F.2.2.2 _ (by
    intro q
    have h385 : i < 385 := by omega
    rcases Nat.lt_or_gt_of_ne ne with h1 | h1
    · have : u * 385 + 385 ≤ v * 385 := by omega
      omega
    · have : v * 385 + 385 ≤ u * 385 := by omega
      omega)]
  exact P.2 i h
theorem p_reprint (σ : Sg) : ∃ σ', c_reprintAll σ = some σ' ∧ FrA σ σ' ∧ ∀ v, v ≤ 5 → Pr σ' v (prn (gj σ 3 v)) ∧ (prn (gj σ 3 v)).length ≤ 385 := by
  have hL : ∀ f i s, c_reprintAll_2 (f + 1) i s = if i < Int32.ofNat 6 then (c_printOne i s).bind (fun r => c_reprintAll_2 f (i + 1) r) else (fun s => some s) s := fun f i s => rfl
  obtain ⟨σ', q, h1, h2⟩ := loop_inv c_reprintAll_2 c_printOne (fun s => some s) 6 (by decide) hL
    (fun i s => FrA σ s ∧ ∀ v, v < i → Pr s v (prn (gj σ 3 v)) ∧ (prn (gj σ 3 v)).length ≤ 385)
    (fun i s hi ⟨a, b⟩ => by
      obtain ⟨s', q, P, F, L⟩ := p_printOne (v := i) (by omega) s
      rw [a.2] at P L
      refine ⟨s', q, ⟨fun k j x y => (F.1 k j x y).trans (a.1 k j x y), fun k j => (F.2.1 k j).trans (a.2 k j)⟩, fun v hv => ?_⟩
      by_cases e : v = i
      · subst e; exact ⟨P, L⟩
      · obtain ⟨P', L'⟩ := b v (by omega)
        exact ⟨P'.other F e L', L'⟩)
    6 0 400 σ rfl (by decide) ⟨⟨fun _ _ _ _ => rfl, fun _ _ => rfl⟩, fun v h => by omega⟩
  exact ⟨σ', q, h1, fun v hv => h2 v (by omega)⟩
theorem p_setId (σ : Sg) : ∃ σ', c_setIdentity σ = some σ' ∧ (∀ k j, gi σ' k j = gi σ k j) ∧ (∀ k j, k ≠ 3 → gj σ' k j = gj σ k j) ∧ ∀ v, v ≤ 5 → gj σ' 3 v = txV v := by
  have hL : ∀ f i s, c_setIdentity_2 (f + 1) i s = if i < Int32.ofNat 6 then ((fun i s => (c_varTable i s).bind fun r1 => if inb i 6 = true then some (sj r1.2 3 (nx i) r1.1) else none) i s).bind (fun r => c_setIdentity_2 f (i + 1) r) else (fun s => some s) s := by
    intro f i s
    rw [c_setIdentity_2]
    congr 1
    show _ = ((c_varTable i s).bind fun r1 => if inb i 6 = true then some (sj r1.2 3 (nx i) r1.1) else none).bind fun r => c_setIdentity_2 f (i + 1) r
    cases c_varTable i s with
    | none => rfl
    | some r =>
      simp only [Option.bind_some]
      split <;> rfl
  obtain ⟨σ', q, h1, h2, h3⟩ := loop_inv c_setIdentity_2 _ (fun s => some s) 6 (by decide) hL
    (fun i s => (∀ k j, gi s k j = gi σ k j) ∧ (∀ k j, k ≠ 3 → gj s k j = gj σ k j) ∧ ∀ v, v < i → gj s 3 v = txV v)
    (fun i s hi ⟨a, b, c⟩ => by
      have ei := ti_ofNat (n := i) (by omega)
      refine ⟨sj s 3 i (txV i), ?_, fun k j => a k j, fun k j ne => ?_, fun v hv => ?_⟩
      · rw [p_vt (by omega), Option.bind_some, if_pos (inbT (by omega) (show (Int32.ofNat i).toInt < ((6 : Nat) : Int) by omega)), nx_ofNat (by omega)]
      · rw [gj_sj, if_neg (fun q => ne q.1)]; exact b k j ne
      · rw [gj_sj]
        by_cases e : v = i
        · rw [if_pos ⟨rfl, e⟩, e]
        · rw [if_neg (fun q => e q.2)]; exact c v (by omega))
    6 0 400 σ rfl (by decide) ⟨fun _ _ => rfl, fun _ _ _ => rfl, fun v h => by omega⟩
  exact ⟨σ', q, h1, h2, fun v hv => h3 v (by omega)⟩
theorem prn_tx : ∀ v : Fin 6, prn (txV v.1) = [Int32.ofNat (2 + v.1)] := by decide +kernel
/-! BoolUnifierY: a new one; the plain questions -/
theorem p_vs (x : Int32) (σ : Sg) : c_validSlot x σ = some (if x < 0 then 0 else if 2 < x then 0 else 1, σ) := by
  unfold c_validSlot
  split
  · rfl
  · split <;> rfl
def clc (x : Int32) : Int32 := if x < 8 then 8 else if 32 < x then 32 else x
theorem p_clc (x : Int32) (σ : Sg) : c_clampCapacity x σ = some (clc x, σ) := by
  unfold c_clampCapacity clc
  split
  · rfl
  · split <;> rfl
theorem p_es {s : Nat} (h : s ≤ 2) (σ : Sg) : c_emptySlot (Int32.ofNat s) σ = some (si (si σ 2 s 0) 4 s 0) := by
  have e0 : (0 : Int32).toInt = 0 := rfl
  have e2 : (2 : Int32).toInt = 2 := rfl
  have es := ti_ofNat (n := s) (by omega)
  unfold c_emptySlot
  rw [p_vs, Option.bind_some, if_neg (show ¬ (if Int32.ofNat s < 0 then (0 : Int32) else if 2 < Int32.ofNat s then 0 else 1) = 0 by rw [if_neg (by rw [ti_lt]; omega), if_neg (by rw [ti_lt]; omega)]; decide), if_pos (inbT (by omega) (show (Int32.ofNat s).toInt < ((3 : Nat) : Int) by omega)), nx_ofNat (by omega)]
theorem p_cas (σ : Sg) : c_clearAllSlots σ = some (si (si (si (si (si (si σ 2 0 0) 4 0 0) 2 1 0) 4 1 0) 2 2 0) 4 2 0) := by
  have e3 : (3 : Int32).toInt = 3 := rfl
  have step : ∀ (f s : Nat) (σ : Sg), s ≤ 2 → c_clearAllSlots_2 (f + 1) (Int32.ofNat s) σ = c_clearAllSlots_2 f (Int32.ofNat (s + 1)) (si (si σ 2 s 0) 4 s 0) := by
    intro f s σ h
    have es := ti_ofNat (n := s) (by omega)
    rw [c_clearAllSlots_2, if_pos (by rw [ti_lt]; omega), p_es h, Option.bind_some, ofNat_succ]
  unfold c_clearAllSlots
  rw [show (0 : Int32) = Int32.ofNat 0 from rfl, step 399 0 σ (by decide), step 398 1 _ (by decide), step 397 2 _ (by decide), c_clearAllSlots_2, if_neg (by decide)]
  rfl
def FreshU (σ : Sg) (c : Int32) : Prop := gi σ 0 12 = c ∧ gi σ 0 13 = 0 ∧ gi σ 0 14 = 0 ∧ gj σ 0 15 = 0 ∧ gi σ 0 16 = 0 ∧ (∀ j, gi σ 2 j = 0) ∧ (∀ j, gi σ 4 j = 0) ∧ ∀ v, v ≤ 5 → gj σ 3 v = txV v ∧ Pr σ v [Int32.ofNat (2 + v)]
theorem p_initU (c : Int32) : ∃ σ, c_init c = some σ ∧ FreshU σ (clc c) := by
  unfold c_init c_resetResults
  rw [p_clc, Option.bind_some, p_cas, Option.bind_some]
  simp only []
  obtain ⟨σ1, q1, a1, a2, a3⟩ := p_setId (si (sj (si (si (si (si (si (si (si (si (si zs 0 12 (clc c)) 2 0 0) 4 0 0) 2 1 0) 4 1 0) 2 2 0) 4 2 0) 0 13 (0 : Int32)) 0 14 (0 : Int32)) 0 15 (0 : Int64)) 0 16 (0 : Int32))
  obtain ⟨σ2, q2, b1, b2⟩ := p_reprint σ1
  rw [q1, Option.bind_some, q2, Option.bind_some, Option.bind_some]
  refine ⟨σ2, rfl, ?_⟩
  have g : ∀ k j, k ≠ 11 → k ≠ 12 → gi σ2 k j = _ := fun k j x y => (b1.1 k j x y).trans (a1 k j)
  refine ⟨?_, ?_, ?_, ?_, ?_, fun j => ?_, fun j => ?_, fun v hv => ⟨(b1.2 3 v).trans (a3 v hv), ?_⟩⟩
  · rw [g 0 12 (by decide) (by decide)]; simp [gi_si, gi_sj]
  · rw [g 0 13 (by decide) (by decide)]; simp [gi_si, gi_sj]
  · rw [g 0 14 (by decide) (by decide)]; simp [gi_si, gi_sj]
  · rw [b1.2, a2 0 15 (by decide)]; simp [gj_si, gj_sj]
  · rw [g 0 16 (by decide) (by decide)]; simp [gi_si, gi_sj]
  · rw [g 2 j (by decide) (by decide)]; simp [gi_si, gi_sj, gi_zs]
  · rw [g 4 j (by decide) (by decide)]; simp [gi_si, gi_sj, gi_zs]
  · have := (b2 v hv).1
    rw [a3 v hv, prn_tx ⟨v, by omega⟩] at this
    exact this
theorem p_ut (x : Int32) (σ : Sg) : c_unifierTable x σ = some (if x < 0 then 0 else if 5 < x then 0 else gj σ 3 (nx x), σ) := by
  unfold c_unifierTable
  rw [p_vv, Option.bind_some]
  by_cases a : x < 0
  · simp [a]
  · by_cases b : 5 < x
    · simp [a, b]
    · have a' := a
      have b' := b
      rw [ti_lt] at a' b'
      have e0 : (0 : Int32).toInt = 0 := rfl
      have e5 : (5 : Int32).toInt = 5 := rfl
      simp [a, b, inbT (show 0 ≤ x.toInt by omega) (show x.toInt < ((6 : Nat) : Int) by omega)]
theorem p_pl (x : Int32) (σ : Sg) : c_printLength x σ = some (if x < 0 then 0 else if 5 < x then 0 else gi σ 12 (nx x), σ) := by
  unfold c_printLength
  rw [p_vv, Option.bind_some]
  by_cases a : x < 0
  · simp [a]
  · by_cases b : 5 < x
    · simp [a, b]
    · have a' := a
      have b' := b
      rw [ti_lt] at a' b'
      have e0 : (0 : Int32).toInt = 0 := rfl
      have e5 : (5 : Int32).toInt = 5 := rfl
      simp [a, b, inbT (show 0 ≤ x.toInt by omega) (show x.toInt < ((6 : Nat) : Int) by omega)]
theorem p_len (x : Int32) (σ : Sg) : c_length x σ = some (if x < 0 then -1 else if 2 < x then -1 else gi σ 2 (nx x), σ) := by
  unfold c_length
  rw [p_vs, Option.bind_some]
  by_cases a : x < 0
  · simp [a]
  · by_cases b : 2 < x
    · simp [a, b]
    · have a' := a
      have b' := b
      rw [ti_lt] at a' b'
      have e0 : (0 : Int32).toInt = 0 := rfl
      have e2 : (2 : Int32).toInt = 2 := rfl
      simp [a, b, inbT (show 0 ≤ x.toInt by omega) (show x.toInt < ((3 : Nat) : Int) by omega)]
theorem p_dep (x : Int32) (σ : Sg) : c_depth x σ = some (if x < 0 then -1 else if 2 < x then -1 else gi σ 4 (nx x), σ) := by
  unfold c_depth
  rw [p_vs, Option.bind_some]
  by_cases a : x < 0
  · simp [a]
  · by_cases b : 2 < x
    · simp [a, b]
    · have a' := a
      have b' := b
      rw [ti_lt] at a' b'
      have e0 : (0 : Int32).toInt = 0 := rfl
      have e2 : (2 : Int32).toInt = 2 := rfl
      simp [a, b, inbT (show 0 ≤ x.toInt by omega) (show x.toInt < ((3 : Nat) : Int) by omega)]
theorem p_pc_out {x k : Int32} {σ : Sg} (h : x < 0 ∨ 5 < x) : c_printCode x k σ = some (-1, σ) := by
  unfold c_printCode
  rw [p_vv, Option.bind_some]
  by_cases a : x < 0
  · simp [a]
  · have b : 5 < x := h.resolve_left a
    simp [a, b]
theorem p_pc {v : Nat} {k : Int32} {σ : Sg} {l : List Int32} (hv : v ≤ 5) (P : Pr σ v l) (hl : l.length ≤ 385) : c_printCode (Int32.ofNat v) k σ = some (if k < 0 then -1 else (l[nx k]?).getD (-1), σ) := by
  have e0 : (0 : Int32).toInt = 0 := rfl
  have ev := ti_ofNat (n := v) (by omega)
  have nv : nx (Int32.ofNat v) = v := nx_ofNat (by omega)
  unfold c_printCode
  rw [vv_ok hv, Option.bind_some, if_neg (show ¬ (1 : Int32) = 0 by decide)]
  by_cases a : k < 0
  · simp [a]
  · simp only [a, if_false]
    rw [if_pos (inbT (by omega) (show (Int32.ofNat v).toInt < ((6 : Nat) : Int) by omega)), nv, P.1]
    have a' := a
    rw [ti_lt] at a'
    have ek : Int32.ofNat (nx k) = k := ofNat_nx (by omega)
    have el := ti_ofNat (n := l.length) (by omega)
    by_cases b : nx k < l.length
    · have hb : k < Int32.ofNat l.length := by rw [ti_lt, el]; unfold nx at b; omega
      rw [if_pos hb]
      conv => lhs; rw [← ek]
      rw [p_pi hv (by omega), Option.bind_some]
      have ei := ti_ofNat (n := v * 385 + nx k) (by omega)
      rw [if_neg (show ¬ Int32.ofNat (v * 385 + nx k) < 0 by rw [ti_lt]; omega), if_pos (inbT (by omega) (show (Int32.ofNat (v * 385 + nx k)).toInt < ((2310 : Nat) : Int) by omega)), nx_ofNat (by omega), P.2 _ b, List.getElem?_eq_getElem b]
      rfl
    · have hb : ¬ k < Int32.ofNat l.length := by rw [ti_lt, el]; unfold nx at b; omega
      rw [if_neg hb, List.getElem?_eq_none (by omega)]
      rfl
/-! BoolUnifierY: substitution -/
theorem andL1 (x : Int64) : x &&& 1 = if tbL x 0 = true then 1 else 0 := by
  refine tbL_ext fun t ht => ?_
  rw [tbL_and, tbL_one]
  by_cases c : tbL x 0 = true
  · rw [if_pos c, tbL_one]
    by_cases z : t = 0
    · subst z; rw [c]; rfl
    · rw [decide_eq_false z, Bool.and_false]
  · rw [if_neg c, tbL_zero]
    by_cases z : t = 0
    · subst z
      have c' : tbL x 0 = false := by simpa using c
      rw [c']; rfl
    · rw [decide_eq_false z, Bool.and_false]
theorem tbL_ush (y : Int64) {k : Nat} (t : Nat) (hk : k < 64) : tbL (XT.ushrL y (Int32.ofNat k)) t = tbL y (k + t) := by
  unfold tbL
  rw [ushrL_bv y hk, BitVec.getLsbD_ushiftRight]
theorem tbL_ge (y : Int64) {t : Nat} (h : 64 ≤ t) : tbL y t = false := by
  unfold tbL
  exact BitVec.getLsbD_of_ge _ _ h
theorem lnV (y : Int64) {i : Nat} (h : i < 64) : -((XT.ushrL y (Int32.ofNat i)) &&& 1) = if tbL y i = true then -1 else 0 := by
  rw [andL1, tbL_ush y 0 h, Nat.add_zero]
  by_cases c : tbL y i = true
  · rw [if_pos c, if_pos c]
  · rw [if_neg c, if_neg c]; decide
def mx (g : Int64) (S : Nat → Int64) : Nat → Nat → Int64
  | 0, i => if tbL g i = true then -1 else 0
  | v + 1, i => (S v &&& mx g S v (2 * i + 1)) ||| ((S v ^^^ (-1)) &&& mx g S v (2 * i))
def wS (S : Nat → Int64) (a : Nat) : Nat → Nat
  | 0 => 0
  | v + 1 => wS S a v + (if tbL (S v) a = true then 2 ^ v else 0)
theorem mx_bit (g : Int64) (S : Nat → Int64) {a : Nat} (ha : a < 64) (v : Nat) : ∀ i, tbL (mx g S v i) a = tbL g (i * 2 ^ v + wS S a v) := by
  have hb : ∀ s x1 x0 : Bool, ((s && x1) || ((s ^^ true) && x0)) = if s = true then x1 else x0 := by decide
  induction v with
  | zero =>
    intro i
    show tbL (if tbL g i = true then -1 else 0) a = tbL g (i * 2 ^ 0 + 0)
    rw [Nat.pow_zero, Nat.mul_one, Nat.add_zero]
    by_cases c : tbL g i = true
    · rw [if_pos c, tbL_neg1 ha, c]
    · have c' : tbL g i = false := by simpa using c
      rw [if_neg c, tbL_zero, c']
  | succ v ih =>
    intro i
    have e : i * 2 ^ (v + 1) = 2 * i * 2 ^ v := by rw [Nat.pow_succ, Nat.mul_comm (2 ^ v) 2, ← Nat.mul_assoc, Nat.mul_comm i 2]
    show tbL ((S v &&& mx g S v (2 * i + 1)) ||| ((S v ^^^ (-1)) &&& mx g S v (2 * i))) a = tbL g (i * 2 ^ (v + 1) + (wS S a v + (if tbL (S v) a = true then 2 ^ v else 0)))
    rw [tbL_or, tbL_and, tbL_and, tbL_xor, tbL_neg1 ha, ih, ih, hb, e]
    by_cases c : tbL (S v) a = true
    · rw [if_pos c, if_pos c, Nat.add_mul, Nat.one_mul]
      congr 1
      omega
    · rw [if_neg c, if_neg c, Nat.add_zero]
def mk6 (b0 b1 b2 b3 b4 b5 : Bool) : Nat := 0 + (if b0 = true then 1 else 0) + (if b1 = true then 2 else 0) + (if b2 = true then 4 else 0) + (if b3 = true then 8 else 0) + (if b4 = true then 16 else 0) + (if b5 = true then 32 else 0)
def ixS (σ : Sg) (a : Nat) : Nat := mk6 (tbL (gj σ 3 0) a) (tbL (gj σ 3 1) a) (tbL (gj σ 3 2) a) (tbL (gj σ 3 3) a) (tbL (gj σ 3 4) a) (tbL (gj σ 3 5) a)
theorem wS_ix (σ : Sg) (a : Nat) : wS (fun v => gj σ 3 v) a 6 = ixS σ a := rfl
theorem mk6_lt : ∀ b0 b1 b2 b3 b4 b5 : Bool, mk6 b0 b1 b2 b3 b4 b5 < 64 := by decide +kernel
theorem ixS_lt (σ : Sg) (a : Nat) : ixS σ a < 64 := mk6_lt _ _ _ _ _ _
theorem mk6_bit : ∀ b0 b1 b2 b3 b4 b5 : Bool, (mk6 b0 b1 b2 b3 b4 b5).testBit 0 = b0 ∧ (mk6 b0 b1 b2 b3 b4 b5).testBit 1 = b1 ∧ (mk6 b0 b1 b2 b3 b4 b5).testBit 2 = b2 ∧ (mk6 b0 b1 b2 b3 b4 b5).testBit 3 = b3 ∧ (mk6 b0 b1 b2 b3 b4 b5).testBit 4 = b4 ∧ (mk6 b0 b1 b2 b3 b4 b5).testBit 5 = b5 := by decide +kernel
def setb (i v : Nat) (t : Bool) : Nat := if t = true then (if i.testBit v = true then i else i + 2 ^ v) else (if i.testBit v = true then i - 2 ^ v else i)
theorem mk6_set : ∀ b0 b1 b2 b3 b4 b5 t : Bool, mk6 t b1 b2 b3 b4 b5 = setb (mk6 b0 b1 b2 b3 b4 b5) 0 t ∧ mk6 b0 t b2 b3 b4 b5 = setb (mk6 b0 b1 b2 b3 b4 b5) 1 t ∧ mk6 b0 b1 t b3 b4 b5 = setb (mk6 b0 b1 b2 b3 b4 b5) 2 t ∧ mk6 b0 b1 b2 t b4 b5 = setb (mk6 b0 b1 b2 b3 b4 b5) 3 t ∧ mk6 b0 b1 b2 b3 t b5 = setb (mk6 b0 b1 b2 b3 b4 b5) 4 t ∧ mk6 b0 b1 b2 b3 b4 t = setb (mk6 b0 b1 b2 b3 b4 b5) 5 t := by decide +kernel
theorem txb : ∀ (v : Fin 6) (i : Fin 64), tbL (txV v.1) i.1 = i.1.testBit v.1 := by decide +kernel
theorem txbN {v i : Nat} (hv : v ≤ 5) (hi : i < 64) : tbL (txV v) i = i.testBit v := txb ⟨v, by omega⟩ ⟨i, hi⟩
theorem ix_bit (σ : Sg) {v : Nat} (hv : v ≤ 5) (a : Nat) : (ixS σ a).testBit v = tbL (gj σ 3 v) a := by
  obtain ⟨h0, h1, h2, h3, h4, h5⟩ := mk6_bit (tbL (gj σ 3 0) a) (tbL (gj σ 3 1) a) (tbL (gj σ 3 2) a) (tbL (gj σ 3 3) a) (tbL (gj σ 3 4) a) (tbL (gj σ 3 5) a)
  match v, hv with
  | 0, _ => exact h0
  | 1, _ => exact h1
  | 2, _ => exact h2
  | 3, _ => exact h3
  | 4, _ => exact h4
  | 5, _ => exact h5
theorem ix_set (σ : Sg) {v : Nat} (hv : v ≤ 5) (t : Int64) (a : Nat) : ixS (sj σ 3 v t) a = setb (ixS σ a) v (tbL t a) := by
  obtain ⟨h0, h1, h2, h3, h4, h5⟩ := mk6_set (tbL (gj σ 3 0) a) (tbL (gj σ 3 1) a) (tbL (gj σ 3 2) a) (tbL (gj σ 3 3) a) (tbL (gj σ 3 4) a) (tbL (gj σ 3 5) a) (tbL t a)
  have hs : ∀ u, gj (sj σ 3 v t) 3 u = if u = v then t else gj σ 3 u := fun u => by
    rw [gj_sj]
    by_cases c : u = v
    · rw [if_pos ⟨rfl, c⟩, if_pos c]
    · rw [if_neg (fun q => c q.2), if_neg c]
  unfold ixS
  rw [hs, hs, hs, hs, hs, hs]
  match v, hv with
  | 0, _ => exact h0
  | 1, _ => exact h1
  | 2, _ => exact h2
  | 3, _ => exact h3
  | 4, _ => exact h4
  | 5, _ => exact h5
theorem ix_id0 : ∀ a : Fin 64, mk6 (a.1.testBit 0) (a.1.testBit 1) (a.1.testBit 2) (a.1.testBit 3) (a.1.testBit 4) (a.1.testBit 5) = a.1 := by decide +kernel
theorem ix_id {σ : Sg} (h : ∀ v, v ≤ 5 → gj σ 3 v = txV v) {a : Nat} (ha : a < 64) : ixS σ a = a := by
  unfold ixS
  rw [h 0 (by decide), h 1 (by decide), h 2 (by decide), h 3 (by decide), h 4 (by decide), h 5 (by decide), txbN (by decide) ha, txbN (by decide) ha, txbN (by decide) ha, txbN (by decide) ha, txbN (by decide) ha, txbN (by decide) ha]
  exact ix_id0 ⟨a, ha⟩
/-! cofactors -/
def cofL (f : Int64) (v : Nat) : Int64 := (f &&& (txV v ^^^ -1)) ||| ((f &&& (txV v ^^^ -1)) <<< (((1 : Int32) <<< (Int32.ofNat v &&& 31)).toInt64 &&& 63))
def cofH (f : Int64) (v : Nat) : Int64 := (f &&& txV v) ||| XT.ushrL (f &&& txV v) ((1 : Int32) <<< (Int32.ofNat v &&& 31))
theorem p_cofL {v : Nat} (hv : v ≤ 5) (f : Int64) (σ : Sg) : c_cofactorLow f (Int32.ofNat v) σ = some (cofL f v, σ) := by
  unfold c_cofactorLow
  rw [vv_ok hv, Option.bind_some, if_neg (show ¬ (1 : Int32) = 0 by decide), p_vt hv]
  rfl
theorem p_cofH {v : Nat} (hv : v ≤ 5) (f : Int64) (σ : Sg) : c_cofactorHigh f (Int32.ofNat v) σ = some (cofH f v, σ) := by
  unfold c_cofactorHigh
  rw [vv_ok hv, Option.bind_some, if_neg (show ¬ (1 : Int32) = 0 by decide), p_vt hv]
  rfl
theorem sh1 : ∀ v : Fin 6, (1 : Int32) <<< (Int32.ofNat v.1 &&& 31) = Int32.ofNat (2 ^ v.1) := by decide +kernel
theorem sh1N {v : Nat} (hv : v ≤ 5) : (1 : Int32) <<< (Int32.ofNat v &&& 31) = Int32.ofNat (2 ^ v) := sh1 ⟨v, by omega⟩
theorem cof_ar : ∀ (v : Fin 6) (i : Fin 64), 2 ^ v.1 < 64 ∧ (i.1.testBit v.1 = true → 2 ^ v.1 ≤ i.1 ∧ (i.1 - 2 ^ v.1).testBit v.1 = false ∧ (2 ^ v.1 + i.1 < 64 → (2 ^ v.1 + i.1).testBit v.1 = false)) ∧ (i.1.testBit v.1 = false → 2 ^ v.1 + i.1 < 64 ∧ (2 ^ v.1 + i.1).testBit v.1 = true ∧ (2 ^ v.1 ≤ i.1 → (i.1 - 2 ^ v.1).testBit v.1 = true)) := by decide +kernel
theorem cof_arN {v i : Nat} (hv : v ≤ 5) (hi : i < 64) : 2 ^ v < 64 ∧ (i.testBit v = true → 2 ^ v ≤ i ∧ (i - 2 ^ v).testBit v = false ∧ (2 ^ v + i < 64 → (2 ^ v + i).testBit v = false)) ∧ (i.testBit v = false → 2 ^ v + i < 64 ∧ (2 ^ v + i).testBit v = true ∧ (2 ^ v ≤ i → (i - 2 ^ v).testBit v = true)) := cof_ar ⟨v, by omega⟩ ⟨i, hi⟩
theorem cofL_bit (f : Int64) {v i : Nat} (hv : v ≤ 5) (hi : i < 64) : tbL (cofL f v) i = tbL f (setb i v false) := by
  obtain ⟨h64, hT, hF⟩ := cof_arN hv hi
  have hj : i - 2 ^ v < 64 := Nat.lt_of_le_of_lt (Nat.sub_le _ _) hi
  unfold cofL setb
  rw [sh1N hv, tbL_or, tbL_shl _ h64 hi, tbL_and, tbL_and, tbL_xor, tbL_xor, tbL_neg1 hi, tbL_neg1 hj, txbN hv hi, txbN hv hj, if_neg (show ¬ false = true by decide)]
  generalize hA : tbL f i = A
  generalize hB : tbL f (i - 2 ^ v) = B
  by_cases c : i.testBit v = true
  · obtain ⟨h1, h2, -⟩ := hT c
    rw [if_pos c, c, h2, decide_eq_true h1, hB]
    cases A <;> cases B <;> rfl
  · have c' : i.testBit v = false := by simpa using c
    obtain ⟨-, -, h3⟩ := hF c'
    rw [if_neg c, c', hA]
    by_cases d : 2 ^ v ≤ i
    · rw [h3 d, decide_eq_true d]
      cases A <;> cases B <;> rfl
    · rw [decide_eq_false d]
      cases A <;> rfl
theorem cofH_bit (f : Int64) {v i : Nat} (hv : v ≤ 5) (hi : i < 64) : tbL (cofH f v) i = tbL f (setb i v true) := by
  obtain ⟨h64, hT, hF⟩ := cof_arN hv hi
  unfold cofH setb
  rw [sh1N hv, tbL_or, tbL_ush _ _ h64, tbL_and, tbL_and, txbN hv hi, if_pos (show true = true from rfl)]
  by_cases c : i.testBit v = true
  · obtain ⟨-, -, h3⟩ := hT c
    rw [if_pos c, c]
    have z : tbL (txV v) (2 ^ v + i) = false := by
      by_cases d : 2 ^ v + i < 64
      · rw [txbN hv d]; exact h3 d
      · exact tbL_ge _ (by omega)
    rw [z, Bool.and_true, Bool.and_false, Bool.or_false]
  · have c' : i.testBit v = false := by simpa using c
    obtain ⟨h1, h2, -⟩ := hF c'
    rw [if_neg c, c', txbN hv h1, h2, Bool.and_false, Bool.and_true, Bool.false_or, Nat.add_comm]
theorem step_bit {f : Int64} {v b : Nat} (hv : v ≤ 5) (hb : b < 64) (h : tbL (cofL f v &&& cofH f v) b = false) : tbL f (setb b v (tbL (cofL f v ||| (txV v &&& (cofH f v ^^^ -1))) b)) = false := by
  rw [tbL_and, cofL_bit f hv hb, cofH_bit f hv hb] at h
  rw [tbL_or, tbL_and, tbL_xor, tbL_neg1 hb, cofL_bit f hv hb, cofH_bit f hv hb]
  generalize tbL (txV v) b = x
  have key : ∀ l u : Bool, l = tbL f (setb b v false) → u = tbL f (setb b v true) → tbL f (setb b v (l || (x && (u ^^ true)))) = false := by
    intro l u hl hu
    rw [← hl, ← hu] at h
    cases l with
    | true =>
      have hu' : u = false := by simpa using h
      have e : (true || (x && (u ^^ true))) = true := rfl
      rw [e, ← hu, hu']
    | false =>
      cases u with
      | true =>
        have e : (false || (x && (true ^^ true))) = false := by cases x <;> rfl
        rw [e, ← hl]
      | false =>
        cases x with
        | true =>
          have e : (false || (true && (false ^^ true))) = true := rfl
          rw [e, ← hu]
        | false =>
          have e : (false || (false && (false ^^ true))) = false := rfl
          rw [e, ← hl]
  exact key _ _ rfl rfl
/-! the walk of compose -/
def Fr10 (σ σ' : Sg) : Prop := (∀ k j, gi σ' k j = gi σ k j) ∧ ∀ k j, k ≠ 10 → gj σ' k j = gj σ k j
theorem Fr10.refl (σ : Sg) : Fr10 σ σ := ⟨fun _ _ => rfl, fun _ _ _ => rfl⟩
theorem Fr10.trans {σ σ' σ'' : Sg} (a : Fr10 σ σ') (b : Fr10 σ' σ'') : Fr10 σ σ'' := ⟨fun k j => (b.1 k j).trans (a.1 k j), fun k j h => (b.2 k j h).trans (a.2 k j h)⟩
theorem p_load_loop (y : Int64) (k : Nat) : ∀ (i fuel : Nat) (σ : Sg), i + k = 64 → k < fuel → ∃ σ', c_loadLeaves_2 fuel y (Int32.ofNat i) σ = some σ' ∧ Fr10 σ σ' ∧ (∀ j, i ≤ j → j < 64 → gj σ' 10 j = if tbL y j = true then -1 else 0) ∧ ∀ j, j < i → gj σ' 10 j = gj σ 10 j := by
  have e64 : (64 : Int32).toInt = 64 := rfl
  induction k with
  | zero =>
    intro i fuel σ h1 h2
    obtain ⟨f, rfl⟩ : ∃ f, fuel = f + 1 := ⟨fuel - 1, by omega⟩
    have ei := ti_ofNat (n := i) (by omega)
    rw [c_loadLeaves_2, if_neg (by rw [ti_lt]; omega)]
    exact ⟨σ, rfl, Fr10.refl σ, fun j a b => by omega, fun _ _ => rfl⟩
  | succ k ih =>
    intro i fuel σ h1 h2
    obtain ⟨f, rfl⟩ : ∃ f, fuel = f + 1 := ⟨fuel - 1, by omega⟩
    have ei := ti_ofNat (n := i) (by omega)
    rw [c_loadLeaves_2, if_pos (by rw [ti_lt]; omega), if_pos (inbT (by omega) (show (Int32.ofNat i).toInt < ((64 : Nat) : Int) by omega)), nx_ofNat (by omega), ofNat_succ, lnV y (by omega)]
    obtain ⟨σ', q, F, a, b⟩ := ih (i + 1) f (sj σ 10 i (if tbL y i = true then -1 else 0)) (by omega) (by omega)
    refine ⟨σ', q, ⟨fun k j => F.1 k j, fun k j ne => by rw [F.2 k j ne, gj_sj, if_neg (fun w => ne w.1)]⟩, fun j h3 h4 => ?_, fun j h3 => ?_⟩
    · by_cases c : j = i
      · subst c
        rw [b j (by omega), gj_sj, if_pos ⟨rfl, rfl⟩]
      · exact a j (by omega) h4
    · rw [b j (by omega), gj_sj, if_neg (fun w => by omega)]
theorem p_fold_loop (S : Int64) (n : Nat) (hn : n ≤ 32) (m : Nat → Int64) (k : Nat) : ∀ (i fuel : Nat) (σ : Sg), i + k = n → k < fuel → (∀ j, i ≤ j → gj σ 10 j = m j) → ∃ σ', c_foldLevel_25 fuel S (Int32.ofNat n) (Int32.ofNat i) σ = some σ' ∧ Fr10 σ σ' ∧ (∀ j, i ≤ j → j < n → gj σ' 10 j = (S &&& m (2 * j + 1)) ||| ((S ^^^ (-1)) &&& m (2 * j))) ∧ ∀ j, j < i → gj σ' 10 j = gj σ 10 j := by
  have e2 : (2 : Int32).toInt = 2 := rfl
  have e32 : (32 : Int32).toInt = 32 := rfl
  have en := ti_ofNat (n := n) (by omega)
  induction k with
  | zero =>
    intro i fuel σ h1 h2 hm
    obtain ⟨f, rfl⟩ : ∃ f, fuel = f + 1 := ⟨fuel - 1, by omega⟩
    have ei := ti_ofNat (n := i) (by omega)
    rw [c_foldLevel_25, if_neg (by rw [ti_lt]; omega)]
    exact ⟨σ, rfl, Fr10.refl σ, fun j a b => by omega, fun _ _ => rfl⟩
  | succ k ih =>
    intro i fuel σ h1 h2 hm
    obtain ⟨f, rfl⟩ : ∃ f, fuel = f + 1 := ⟨fuel - 1, by omega⟩
    have ei := ti_ofNat (n := i) (by omega)
    have d2 : (2 : Int32) * Int32.ofNat i = Int32.ofNat (2 * i) := by
      refine eq_ofNat ?_
      rw [ti_mul (by rw [e2, ei]; omega) (by rw [e2, ei]; omega), e2, ei]; omega
    have ed := ti_ofNat (n := 2 * i) (by omega)
    have ed1 := ti_ofNat (n := 2 * i + 1) (by omega)
    rw [c_foldLevel_25, if_pos (by rw [ti_lt]; omega), if_pos (by rw [ti_lt]; omega), d2, ofNat_succ, if_pos (inbT (by omega) (show (Int32.ofNat (2 * i)).toInt < ((64 : Nat) : Int) by omega)), if_pos (inbT (by omega) (show (Int32.ofNat (2 * i + 1)).toInt < ((64 : Nat) : Int) by omega)), if_pos (inbT (by omega) (show (Int32.ofNat i).toInt < ((64 : Nat) : Int) by omega)), nx_ofNat (n := i) (by omega), nx_ofNat (n := 2 * i) (by omega), nx_ofNat (n := 2 * i + 1) (by omega), ofNat_succ, hm (2 * i) (by omega), hm (2 * i + 1) (by omega)]
    obtain ⟨σ', q, F, a, b⟩ := ih (i + 1) f (sj σ 10 i ((S &&& m (2 * i + 1)) ||| ((S ^^^ (-1)) &&& m (2 * i)))) (by omega) (by omega) (fun j hj => by rw [gj_sj, if_neg (fun w => by omega)]; exact hm j (by omega))
    refine ⟨σ', q, ⟨fun k j => F.1 k j, fun k j ne => by rw [F.2 k j ne, gj_sj, if_neg (fun w => ne w.1)]⟩, fun j h3 h4 => ?_, fun j h3 => ?_⟩
    · by_cases c : j = i
      · subst c
        rw [b j (by omega), gj_sj, if_pos ⟨rfl, rfl⟩]
      · exact a j (by omega) h4
    · rw [b j (by omega), gj_sj, if_neg (fun w => by omega)]
theorem lvl : ∀ v : Fin 6, (32 : Int32) >>> (Int32.ofNat v.1 &&& 31) = Int32.ofNat (32 / 2 ^ v.1) ∧ 32 / 2 ^ v.1 ≤ 32 ∧ 64 / 2 ^ v.1 = 2 * (32 / 2 ^ v.1) ∧ 64 / 2 ^ (v.1 + 1) = 32 / 2 ^ v.1 := by decide +kernel
theorem p_comp_loop (g : Int64) (S : Nat → Int64) (k : Nat) : ∀ (v fuel : Nat) (σ : Sg), v + k = 6 → k < fuel → (∀ j, j < 64 / 2 ^ v → gj σ 10 j = mx g S v j) → (∀ u, u ≤ 5 → gj σ 3 u = S u) → ∃ σ', c_compose_7 fuel (Int32.ofNat v) σ = some (mx g S 6 0, σ') ∧ Fr10 σ σ' := by
  have e6 : (6 : Int32).toInt = 6 := rfl
  induction k with
  | zero =>
    intro v fuel σ h1 h2 hm hS
    obtain ⟨f, rfl⟩ : ∃ f, fuel = f + 1 := ⟨fuel - 1, by omega⟩
    have hv : v = 6 := by omega
    subst hv
    rw [c_compose_7, if_neg (by decide), if_pos (by decide), show nx (0 : Int32) = 0 from rfl, hm 0 (by decide)]
    exact ⟨σ, rfl, Fr10.refl σ⟩
  | succ k ih =>
    intro v fuel σ h1 h2 hm hS
    obtain ⟨f, rfl⟩ : ∃ f, fuel = f + 1 := ⟨fuel - 1, by omega⟩
    have ev := ti_ofNat (n := v) (by omega)
    obtain ⟨l1, l2, l3, l4⟩ := lvl ⟨v, by omega⟩
    simp only [] at l1 l2 l3 l4
    rw [l3] at hm
    obtain ⟨σ1, q1, F1, a, -⟩ := p_fold_loop (S v) (32 / 2 ^ v) l2 (fun j => gj σ 10 j) (32 / 2 ^ v) 0 400 σ (by omega) (by omega) (fun _ _ => rfl)
    have qf : c_foldLevel (Int32.ofNat v) σ = some σ1 := by
      unfold c_foldLevel
      rw [vv_ok (by omega), Option.bind_some, if_neg (show ¬ (1 : Int32) = 0 by decide), if_pos (inbT (by omega) (show (Int32.ofNat v).toInt < ((6 : Nat) : Int) by omega)), nx_ofNat (by omega), l1]
      simp only []
      rw [hS v (by omega)]
      exact q1
    obtain ⟨σ2, q2, F2⟩ := ih (v + 1) f σ1 (by omega) (by omega) (fun j hj => by
      rw [l4] at hj
      rw [a j (by omega) hj, hm (2 * j + 1) (by omega), hm (2 * j) (by omega)]
      rfl) (fun u hu => by rw [F1.2 3 u (by decide)]; exact hS u hu)
    refine ⟨σ2, ?_, F1.trans F2⟩
    rw [c_compose_7, if_pos (by rw [ti_lt]; omega), qf, Option.bind_some, ofNat_succ]
    exact q2
def cmpV (σ : Sg) (g : Int64) : Int64 := mx g (fun v => gj σ 3 v) 6 0
theorem cmp_bit (σ : Sg) (g : Int64) {a : Nat} (ha : a < 64) : tbL (cmpV σ g) a = tbL g (ixS σ a) := by
  unfold cmpV
  rw [mx_bit g _ ha, Nat.zero_mul, Nat.zero_add, wS_ix]
theorem p_comp (g : Int64) (σ : Sg) : ∃ σ', c_compose g σ = some (cmpV σ g, σ') ∧ Fr10 σ σ' := by
  obtain ⟨σ1, q1, F1, a, -⟩ := p_load_loop g 64 0 400 σ (by omega) (by omega)
  obtain ⟨σ2, q2, F2⟩ := p_comp_loop g (fun v => gj σ 3 v) 6 0 400 σ1 (by omega) (by omega) (fun j hj => a j (by omega) hj) (fun u _ => F1.2 3 u (by decide))
  refine ⟨σ2, ?_, F1.trans F2⟩
  unfold c_compose c_loadLeaves
  rw [show c_loadLeaves_2 400 g 0 σ = some σ1 from q1, Option.bind_some]
  exact q2
theorem cmpV_cg {σ τ : Sg} (h : ∀ v, v ≤ 5 → gj τ 3 v = gj σ 3 v) (g : Int64) : cmpV τ g = cmpV σ g := by
  refine tbL_ext fun t ht => ?_
  rw [cmp_bit τ g ht, cmp_bit σ g ht]
  unfold ixS
  rw [h 0 (by decide), h 1 (by decide), h 2 (by decide), h 3 (by decide), h 4 (by decide), h 5 (by decide)]
/-! elimination -/
def FrE (σ σ' : Sg) : Prop := (∀ k j, k ≠ 7 → ¬ (k = 0 ∧ j = 16) → gi σ' k j = gi σ k j) ∧ ∀ k j, k ≠ 8 → k ≠ 9 → gj σ' k j = gj σ k j
theorem FrE.refl (σ : Sg) : FrE σ σ := ⟨fun _ _ _ _ => rfl, fun _ _ _ _ => rfl⟩
theorem FrE.trans {σ σ' σ'' : Sg} (a : FrE σ σ') (b : FrE σ' σ'') : FrE σ σ'' := ⟨fun k j x y => (b.1 k j x y).trans (a.1 k j x y), fun k j x y => (b.2 k j x y).trans (a.2 k j x y)⟩
/-- what the steps hold -/
def Rec (σ : Sg) (fs : Nat → Int64) (vs : Nat → Nat) (n : Nat) : Prop := gi σ 0 16 = Int32.ofNat n ∧ ∀ i, i < n → gi σ 7 i = Int32.ofNat (vs i) ∧ gj σ 8 i = cofL (fs i) (vs i) ∧ gj σ 9 i = cofH (fs i) (vs i)
def mbit (mask : Int32) (u : Nat) : Prop := ¬ (mask >>> (Int32.ofNat u &&& 31)) &&& 1 = 0
def Lnk (mask : Int32) (fs : Nat → Int64) (vs : Nat → Nat) (n : Nat) : Prop := ∀ i, i < n → vs i ≤ 5 ∧ mbit mask (vs i) ∧ fs (i + 1) = cofL (fs i) (vs i) &&& cofH (fs i) (vs i)
theorem el_loop {mask : Int32} {f : Int64} (k : Nat) : ∀ (v fuel n : Nat) (fs : Nat → Int64) (vs : Nat → Nat) (σ : Sg), v + k = 6 → k < fuel → n ≤ v → fs 0 = f → Rec σ fs vs n → Lnk mask fs vs n →
    ∃ σ' n' fs' vs', c_eliminate_11 fuel mask (fs n) (Int32.ofNat v) σ = some (fs' n', σ') ∧ n' ≤ 6 ∧ fs' 0 = f ∧ Rec σ' fs' vs' n' ∧ Lnk mask fs' vs' n' ∧ FrE σ σ' := by
  have e6 : (6 : Int32).toInt = 6 := rfl
  have e0 : (0 : Int32).toInt = 0 := rfl
  induction k with
  | zero =>
    intro v fuel n fs vs σ h1 h2 h3 h4 R L
    obtain ⟨fu, rfl⟩ : ∃ f, fuel = f + 1 := ⟨fuel - 1, by omega⟩
    have ev := ti_ofNat (n := v) (by omega)
    rw [c_eliminate_11, if_neg (by rw [ti_lt]; omega)]
    exact ⟨σ, n, fs, vs, rfl, by omega, h4, R, L, FrE.refl σ⟩
  | succ k ih =>
    intro v fuel n fs vs σ h1 h2 h3 h4 R L
    obtain ⟨fu, rfl⟩ : ∃ f, fuel = f + 1 := ⟨fuel - 1, by omega⟩
    have ev := ti_ofNat (n := v) (by omega)
    have en := ti_ofNat (n := n) (by omega)
    rw [c_eliminate_11, if_pos (by rw [ti_lt]; omega)]
    unfold c_eliminate_64
    rw [ofNat_succ]
    by_cases c : (mask >>> (Int32.ofNat v &&& 31)) &&& 1 = 0
    · rw [if_pos c]
      exact ih (v + 1) fu n fs vs σ (by omega) (by omega) (by omega) h4 R L
    · rw [if_neg c, p_cofL (by omega), Option.bind_some]
      simp only []
      rw [p_cofH (by omega), Option.bind_some]
      simp only []
      have qr : c_recordStep (Int32.ofNat v) (cofL (fs n) v) (cofH (fs n) v) σ = some (si (sj (sj (si σ 7 n (Int32.ofNat v)) 8 n (cofL (fs n) v)) 9 n (cofH (fs n) v)) 0 16 (Int32.ofNat (n + 1))) := by
        unfold c_recordStep
        rw [R.1, if_neg (by rw [ti_lt]; omega), if_pos (by rw [ti_lt]; omega), if_pos (inbT (by omega) (show (Int32.ofNat n).toInt < ((6 : Nat) : Int) by omega)), nx_ofNat (by omega), ofNat_succ]
      rw [qr, Option.bind_some]
      obtain ⟨σ', n', fs', vs', q, a, b, R', L', F'⟩ := ih (v + 1) fu (n + 1) (fun i => if i ≤ n then fs i else cofL (fs n) v &&& cofH (fs n) v) (fun i => if i < n then vs i else v) (si (sj (sj (si σ 7 n (Int32.ofNat v)) 8 n (cofL (fs n) v)) 9 n (cofH (fs n) v)) 0 16 (Int32.ofNat (n + 1))) (by omega) (by omega) (by omega)
        (by rw [if_pos (Nat.zero_le n)]; exact h4)
        ⟨by rw [gi_si, if_pos ⟨rfl, rfl⟩], fun i hi => by
          simp only []
          rw [if_pos (show i ≤ n by omega)]
          by_cases d : i < n
          · obtain ⟨r1, r2, r3⟩ := R.2 i d
            rw [if_pos d, gi_si, if_neg (by simp), gi_sj, gi_sj, gi_si, if_neg (fun w => by omega), gj_si, gj_sj, if_neg (by simp), gj_sj, if_neg (fun w => by omega), gj_si, gj_si, gj_sj, if_neg (fun w => by omega), gj_sj, if_neg (by simp), gj_si]
            exact ⟨r1, r2, r3⟩
          · have : i = n := by omega
            subst this
            rw [if_neg d, gi_si, if_neg (by simp), gi_sj, gi_sj, gi_si, if_pos ⟨rfl, rfl⟩, gj_si, gj_sj, if_neg (by simp), gj_sj, if_pos ⟨rfl, rfl⟩, gj_si, gj_sj, if_pos ⟨rfl, rfl⟩]
            exact ⟨rfl, rfl, rfl⟩⟩
        (fun i hi => by
          simp only []
          rw [if_pos (show i ≤ n by omega)]
          by_cases d : i < n
          · rw [if_pos d, if_pos (show i + 1 ≤ n by omega)]
            exact L i d
          · have : i = n := by omega
            subst this
            rw [if_neg d, if_neg (show ¬ i + 1 ≤ i by omega)]
            exact ⟨by omega, c, rfl⟩)
      rw [if_neg (show ¬ n + 1 ≤ n by omega)] at q
      refine ⟨σ', n', fs', vs', q, a, b, R', L', ⟨fun k j x y => ?_, fun k j x y => ?_⟩⟩
      · rw [F'.1 k j x y, gi_si, if_neg y, gi_sj, gi_sj, gi_si, if_neg (fun w => x w.1)]
      · rw [F'.2 k j x y, gj_si, gj_sj, if_neg (fun w => y w.1), gj_sj, if_neg (fun w => x w.1), gj_si]
/-! going back -/
def FrB (σ σ' : Sg) : Prop := (∀ k j, gi σ' k j = gi σ k j) ∧ ∀ k j, k ≠ 3 → k ≠ 10 → gj σ' k j = gj σ k j
theorem FrB.trans {σ σ' σ'' : Sg} (a : FrB σ σ') (b : FrB σ' σ'') : FrB σ σ'' := ⟨fun k j => (b.1 k j).trans (a.1 k j), fun k j x y => (b.2 k j x y).trans (a.2 k j x y)⟩
theorem Rec.same {σ σ' : Sg} {fs : Nat → Int64} {vs : Nat → Nat} {n : Nat} (R : Rec σ fs vs n) (F : FrB σ σ') : Rec σ' fs vs n := by
  refine ⟨by rw [F.1]; exact R.1, fun i hi => ?_⟩
  rw [F.1, F.2 8 i (by decide) (by decide), F.2 9 i (by decide) (by decide)]
  exact R.2 i hi
theorem ss_v {σ : Sg} {fs : Nat → Int64} {vs : Nat → Nat} {n i : Nat} (R : Rec σ fs vs n) (hi : i < n) (hn : n ≤ 6) (hv : vs i ≤ 5) : ∃ s, c_solveStep (Int32.ofNat i) σ = some (sj s 3 (vs i) (cmpV σ (cofL (fs i) (vs i) ||| (txV (vs i) &&& (cofH (fs i) (vs i) ^^^ -1))))) ∧ Fr10 σ s := by
  have e0 : (0 : Int32).toInt = 0 := rfl
  have e6 : (6 : Int32).toInt = 6 := rfl
  have ei := ti_ofNat (n := i) (by omega)
  have ev := ti_ofNat (n := vs i) (by omega)
  obtain ⟨r1, r2, r3⟩ := R.2 i hi
  obtain ⟨s, q, F⟩ := p_comp (cofL (fs i) (vs i) ||| (txV (vs i) &&& (cofH (fs i) (vs i) ^^^ -1))) σ
  refine ⟨s, ?_, F⟩
  unfold c_solveStep
  rw [if_neg (by rw [ti_lt]; omega), if_pos (by rw [ti_lt]; omega), if_pos (inbT (by omega) (show (Int32.ofNat i).toInt < ((6 : Nat) : Int) by omega)), nx_ofNat (n := i) (by omega), r1, vv_ok hv, Option.bind_some, if_neg (show ¬ (1 : Int32) = 0 by decide), p_vt hv, Option.bind_some]
  simp only []
  rw [r2, r3, q, Option.bind_some, if_pos (inbT (by omega) (show (Int32.ofNat (vs i)).toInt < ((6 : Nat) : Int) by omega)), nx_ofNat (n := vs i) (by omega)]
theorem bk_loop {mask : Int32} {fs : Nat → Int64} {vs : Nat → Nat} {n : Nat} (hn : n ≤ 6) (L : Lnk mask fs vs n) (k : Nat) : ∀ (fuel : Nat) (x : Int32) (σ : Sg), x.toInt = (k : Int) - 1 → k ≤ 6 → k < fuel → Rec σ fs vs n → (∀ a, a < 64 → tbL (fs (min k n)) (ixS σ a) = false) →
    ∃ σ', c_backSubstitute_2 fuel x σ = some σ' ∧ (∀ a, a < 64 → tbL (fs 0) (ixS σ' a) = false) ∧ FrB σ σ' ∧ ∀ u, u ≤ 5 → ¬ mbit mask u → gj σ' 3 u = gj σ 3 u := by
  have e0 : (0 : Int32).toInt = 0 := rfl
  have en := ti_ofNat (n := n) (by omega)
  induction k with
  | zero =>
    intro fuel x σ h1 h2 h3 R hz
    obtain ⟨fu, rfl⟩ : ∃ f, fuel = f + 1 := ⟨fuel - 1, by omega⟩
    rw [c_backSubstitute_2, if_pos (by rw [ti_lt]; omega)]
    rw [Nat.zero_min] at hz
    exact ⟨σ, rfl, hz, ⟨fun _ _ => rfl, fun _ _ _ _ => rfl⟩, fun _ _ _ => rfl⟩
  | succ k ih =>
    intro fuel x σ h1 h2 h3 R hz
    obtain ⟨fu, rfl⟩ : ∃ f, fuel = f + 1 := ⟨fuel - 1, by omega⟩
    have em : (-1 : Int32).toInt = -1 := rfl
    have xk : x = Int32.ofNat k := eq_ofNat (by omega)
    have x1 : (x + -1).toInt = (k : Int) - 1 := by rw [ti_add (by omega) (by omega), em]; omega
    rw [c_backSubstitute_2, if_neg (by rw [ti_lt]; omega), R.1]
    unfold c_backSubstitute_19
    by_cases c : x < Int32.ofNat n
    · have c' := c
      rw [ti_lt, en] at c'
      have hk : k < n := by omega
      obtain ⟨hv, hb, hf⟩ := L k hk
      obtain ⟨s, q, F⟩ := ss_v R hk hn hv
      obtain ⟨T, hT⟩ : ∃ T, T = cmpV σ (cofL (fs k) (vs k) ||| (txV (vs k) &&& (cofH (fs k) (vs k) ^^^ -1))) := ⟨_, rfl⟩
      rw [← hT] at q
      have q' : c_solveStep x σ = some (sj s 3 (vs k) T) := by rw [xk]; exact q
      have FB : FrB σ (sj s 3 (vs k) T) := ⟨fun k j => F.1 k j, fun k' j a b => by rw [gj_sj, if_neg (fun w => a w.1)]; exact F.2 k' j b⟩
      have hs : ∀ a, ixS s a = ixS σ a := fun a => by
        unfold ixS
        rw [F.2 3 0 (by decide), F.2 3 1 (by decide), F.2 3 2 (by decide), F.2 3 3 (by decide), F.2 3 4 (by decide), F.2 3 5 (by decide)]
      obtain ⟨σ', r, z, F', U⟩ := ih fu (x + -1) (sj s 3 (vs k) T) x1 (by omega) (by omega) (R.same FB) (fun a ha => by
        have hza := hz a ha
        rw [show min (k + 1) n = k + 1 by omega, hf] at hza
        rw [show min k n = k by omega, ix_set s hv, hs, hT, cmp_bit σ _ ha]
        exact step_bit hv (ixS_lt σ a) hza)
      rw [if_pos c, q', Option.bind_some]
      exact ⟨σ', r, z, FB.trans F', fun u hu hm => by rw [U u hu hm, gj_sj, if_neg (fun w => hm (by rw [w.2]; exact hb)), F.2 3 u (by decide)]⟩
    · rw [if_neg c]
      rw [ti_lt, en] at c
      exact ih fu (x + -1) σ x1 (by omega) (by omega) R (fun a ha => by rw [show min k n = min (k + 1) n by omega]; exact hz a ha)
/-! the questions of a slot -/
def icV (σ : Sg) (s : Nat) : Int32 := if gi σ 4 s = 1 then (if 0 < gi σ 2 s then 1 else 0) else 0
theorem vs_ok {s : Nat} (h : s ≤ 2) (σ : Sg) : c_validSlot (Int32.ofNat s) σ = some (1, σ) := by
  have e0 : (0 : Int32).toInt = 0 := rfl
  have e2 : (2 : Int32).toInt = 2 := rfl
  have es := ti_ofNat (n := s) (by omega)
  rw [p_vs, if_neg (by rw [ti_lt]; omega), if_neg (by rw [ti_lt]; omega)]
theorem in3 {s : Nat} (h : s ≤ 2) : inb (Int32.ofNat s) 3 = true := by
  have es := ti_ofNat (n := s) (by omega)
  exact inbT (by omega) (show (Int32.ofNat s).toInt < ((3 : Nat) : Int) by omega)
theorem p_ic {s : Nat} (hs : s ≤ 2) (σ : Sg) : c_isComplete (Int32.ofNat s) σ = some (icV σ s, σ) := by
  unfold c_isComplete icV
  rw [vs_ok hs, Option.bind_some, if_neg (show ¬ (1 : Int32) = 0 by decide), if_pos (in3 hs), nx_ofNat (by omega)]
  simp only []
  by_cases a : gi σ 4 s = 1
  · rw [if_pos a, if_pos a]
    by_cases b : 0 < gi σ 2 s
    · rw [if_pos b, if_pos b]
    · rw [if_neg b, if_neg b]
  · rw [if_neg a, if_neg a]
theorem sl5 : ∀ s : Fin 3, Int32.ofNat s.1 <<< ((5 : Int32) &&& 31) = Int32.ofNat (32 * s.1) := by decide +kernel
theorem p_idx {s i : Nat} (hs : s ≤ 2) (hi : i < 32) (σ : Sg) : c_indexOf (Int32.ofNat s) (Int32.ofNat i) σ = some (Int32.ofNat (32 * s + i), σ) := by
  have e0 : (0 : Int32).toInt = 0 := rfl
  have e32 : (32 : Int32).toInt = 32 := rfl
  have ei := ti_ofNat (n := i) (by omega)
  have es := ti_ofNat (n := 32 * s) (by omega)
  have h5 := sl5 ⟨s, by omega⟩
  simp only [] at h5
  have ha : Int32.ofNat (32 * s) + Int32.ofNat i = Int32.ofNat (32 * s + i) := by
    refine eq_ofNat ?_
    rw [ti_add (by omega) (by omega), es, ei]; omega
  unfold c_indexOf
  rw [vs_ok hs, Option.bind_some, if_neg (show ¬ (1 : Int32) = 0 by decide), if_neg (by rw [ti_lt]; omega), if_pos (by rw [ti_lt]; omega), h5, ha]
theorem p_va {s i : Nat} (hs : s ≤ 2) (hi : i < 32) (σ : Sg) : c_valueAt (Int32.ofNat s) (Int32.ofNat i) σ = some (gj σ 5 (32 * s + i), σ) := by
  have e0 : (0 : Int32).toInt = 0 := rfl
  have ei := ti_ofNat (n := 32 * s + i) (by omega)
  unfold c_valueAt
  rw [p_idx hs hi, Option.bind_some, if_neg (show ¬ Int32.ofNat (32 * s + i) < 0 by rw [ti_lt]; omega), if_pos (show inb (Int32.ofNat (32 * s + i)) 96 = true from inbT (by omega) (show (Int32.ofNat (32 * s + i)).toInt < ((96 : Nat) : Int) by omega)), nx_ofNat (by omega)]
def ttV (σ : Sg) (s : Nat) : Int64 := if icV σ s = 0 then 0 else gj σ 5 (32 * s + (nx (gi σ 2 s) - 1))
theorem p_tt {s : Nat} (hs : s ≤ 2) {σ : Sg} (h0 : 0 ≤ (gi σ 2 s).toInt) (h32 : (gi σ 2 s).toInt ≤ 32) : c_termTable (Int32.ofNat s) σ = some (ttV σ s, σ) := by
  have e0 : (0 : Int32).toInt = 0 := rfl
  have e1 : (1 : Int32).toInt = 1 := rfl
  unfold c_termTable ttV
  rw [p_ic hs, Option.bind_some]
  by_cases c : icV σ s = 0
  · rw [if_pos c, if_pos c]
  · rw [if_neg c, if_neg c, if_pos (in3 hs), nx_ofNat (by omega)]
    simp only []
    have hp : 0 < gi σ 2 s := Classical.byContradiction fun q => c (by unfold icV; rw [if_neg q]; split <;> rfl)
    rw [ti_lt] at hp
    have hl : gi σ 2 s - 1 = Int32.ofNat (nx (gi σ 2 s) - 1) := by
      refine eq_ofNat ?_
      rw [ti_sub (by omega) (by omega), e1]
      unfold nx
      omega
    rw [hl, p_va hs (by unfold nx; omega)]
    rfl
/-! solving -/
def FrS (σ s : Sg) : Prop := (∀ k j, (k = 1 ∨ k = 2 ∨ k = 4 ∨ k = 6 ∨ (k = 0 ∧ j = 12)) → gi s k j = gi σ k j) ∧ ∀ j, gj s 5 j = gj σ 5 j
theorem p_solve {σ : Sg} (x : Int32) (hl : ∀ s, s ≤ 1 → 0 ≤ (gi σ 2 s).toInt ∧ (gi σ 2 s).toInt ≤ 32) : (c_solve x σ = some (-1, σ) ∧ (icV σ 0 = 0 ∨ icV σ 1 = 0)) ∨ (¬ icV σ 0 = 0 ∧ ¬ icV σ 1 = 0 ∧ ∃ r s, c_solve x σ = some (r, s) ∧ FrS σ s ∧ gi s 0 13 = r ∧ gi s 0 14 = x &&& 63 ∧ (∀ v, v ≤ 5 → Pr s v (prn (gj s 3 v)) ∧ (prn (gj s 3 v)).length ≤ 385) ∧
    ((r = 1 ∧ gj s 0 15 = 0 ∧ (∀ a, a < 64 → tbL (ttV σ 0) (ixS s a) = tbL (ttV σ 1) (ixS s a)) ∧ ∀ u, u ≤ 5 → ¬ mbit (x &&& 63) u → gj s 3 u = txV u) ∨ (r = 2 ∧ ¬ gj s 0 15 = 0 ∧ ∀ v, v ≤ 5 → gj s 3 v = txV v))) := by
  have i0 : c_isComplete 0 σ = some (icV σ 0, σ) := p_ic (s := 0) (by decide) σ
  have i1 : c_isComplete 1 σ = some (icV σ 1, σ) := p_ic (s := 1) (by decide) σ
  have t0 : c_termTable 0 σ = some (ttV σ 0, σ) := p_tt (s := 0) (by decide) (hl 0 (by decide)).1 (hl 0 (by decide)).2
  have t1 : c_termTable 1 σ = some (ttV σ 1, σ) := p_tt (s := 1) (by decide) (hl 1 (by decide)).1 (hl 1 (by decide)).2
  unfold c_solve
  rw [i0, Option.bind_some]
  simp only []
  by_cases c0 : icV σ 0 = 0
  · left; rw [if_pos c0]; exact ⟨rfl, Or.inl c0⟩
  · rw [if_neg c0, i1, Option.bind_some]
    simp only []
    by_cases c1 : icV σ 1 = 0
    · left; rw [if_pos c1]; exact ⟨rfl, Or.inr c1⟩
    · right
      refine ⟨c0, c1, ?_⟩
      rw [if_neg c1, t0, Option.bind_some]
      simp only []
      rw [t1, Option.bind_some]
      simp only []
      generalize ttV σ 0 = A
      generalize ttV σ 1 = B
      generalize x &&& 63 = m
      obtain ⟨s1, n, fs, vs, q1, hn, f0, R, L, F⟩ := el_loop (mask := m) (f := A ^^^ B) 6 0 400 0 (fun _ => A ^^^ B) (fun _ => 0) (si σ 0 16 0) (by omega) (by omega) (by omega) rfl ⟨by rw [gi_si, if_pos ⟨rfl, rfl⟩]; rfl, fun i hi => by omega⟩ (fun i hi => by omega)
      have qe : c_eliminate (A ^^^ B) m σ = some (fs n, s1) := q1
      rw [qe, Option.bind_some]
      simp only []
      obtain ⟨s2, q2, a1, a2, a3⟩ := p_setId (sj (si s1 0 14 m) 0 15 (fs n))
      rw [q2, Option.bind_some]
      unfold c_solve_95
      have fin : ∀ (s3 : Sg) (w : Int32), FrB s2 s3 → ∃ s4, (c_reprintAll (si s3 0 13 w)).bind (fun r1 => some (gi r1 0 13, r1)) = some (w, s4) ∧ FrS σ s4 ∧ gi s4 0 13 = w ∧ gi s4 0 14 = m ∧ (∀ v, v ≤ 5 → Pr s4 v (prn (gj s4 3 v)) ∧ (prn (gj s4 3 v)).length ≤ 385) ∧ gj s4 0 15 = fs n ∧ ∀ v, gj s4 3 v = gj s3 3 v := by
        intro s3 w F3
        obtain ⟨s4, q4, FA, hP⟩ := p_reprint (si s3 0 13 w)
        have h13 : gi s4 0 13 = w := by rw [FA.1 0 13 (by decide) (by decide), gi_si, if_pos ⟨rfl, rfl⟩]
        refine ⟨s4, by rw [q4, Option.bind_some, h13], ⟨fun k j h => ?_, fun j => ?_⟩, h13, ?_, fun v hv => ?_, ?_, fun v => ?_⟩
        · rw [FA.1 k j (by omega) (by omega), gi_si, if_neg (by omega), F3.1, a1, gi_sj, gi_si, if_neg (by omega), F.1 k j (by omega) (by omega), gi_si, if_neg (by omega)]
        · rw [FA.2, gj_si, F3.2 5 j (by decide) (by decide), a2 5 j (by decide), gj_sj, if_neg (by simp), gj_si, F.2 5 j (by decide) (by decide), gj_si]
        · rw [FA.1 0 14 (by decide) (by decide), gi_si, if_neg (by simp), F3.1, a1, gi_sj, gi_si, if_pos ⟨rfl, rfl⟩]
        · rw [FA.2]; exact hP v hv
        · rw [FA.2, gj_si, F3.2 0 15 (by decide) (by decide), a2 0 15 (by decide), gj_sj, if_pos ⟨rfl, rfl⟩]
        · rw [FA.2, gj_si]
      have hc : XT.cmpL (fs n) 0 = 0 ↔ fs n = 0 := cmp0 _ _
      by_cases z : fs n = 0
      · rw [if_pos (hc.mpr z)]
        have R2 : Rec s2 fs vs n := by
          refine ⟨by rw [a1, gi_sj, gi_si, if_neg (by simp)]; exact R.1, fun i hi => ?_⟩
          rw [a1, gi_sj, gi_si, if_neg (by simp), a2 8 i (by decide), gj_sj, if_neg (by simp), gj_si, a2 9 i (by decide), gj_sj, if_neg (by simp), gj_si]
          exact R.2 i hi
        obtain ⟨s3, q3, zz, F3, U⟩ := bk_loop hn L 6 400 5 s2 rfl (by omega) (by omega) R2 (fun a ha => by rw [show min 6 n = n by omega, z]; exact tbL_zero _)
        have qb : c_backSubstitute s2 = some s3 := q3
        rw [qb, Option.bind_some]
        obtain ⟨s4, q4, FS, h13, h14, hP, h15, h3⟩ := fin s3 1 F3
        refine ⟨1, s4, q4, FS, h13, h14, hP, Or.inl ⟨rfl, by rw [h15]; exact z, fun a ha => ?_, fun u hu hm => ?_⟩⟩
        · have h := zz a ha
          have hix : ixS s4 a = ixS s3 a := by
            unfold ixS
            rw [h3, h3, h3, h3, h3, h3]
          rw [f0, tbL_xor] at h
          rw [hix]
          generalize tbL A (ixS s3 a) = p at h ⊢
          generalize tbL B (ixS s3 a) = r at h ⊢
          cases p <;> cases r <;> first | rfl | (exact absurd h (by decide))
        · rw [h3, U u hu hm, a3 u hu]
      · rw [if_neg (fun q => z (hc.mp q))]
        obtain ⟨s4, q4, FS, h13, h14, hP, h15, h3⟩ := fin s2 2 ⟨fun _ _ => rfl, fun _ _ _ _ => rfl⟩
        exact ⟨2, s4, q4, FS, h13, h14, hP, Or.inr ⟨rfl, by rw [h15]; exact z, fun v hv => by rw [h3, a3 v hv]⟩⟩
/-! BoolUnifierY: the changes of a slot -/
def dcV (x : Int32) : Int32 := if (if x < 0 then (0 : Int32) else if 7 < x then 0 else 1) = 0 then (if (if x < 9 then (0 : Int32) else if 13 < x then 0 else 1) = 0 then 0 else -1) else 1
theorem p_leaf (x : Int32) (σ : Sg) : c_isLeaf x σ = some (if x < 0 then 0 else if 7 < x then 0 else 1, σ) := by
  unfold c_isLeaf
  split
  · rfl
  · split <;> rfl
theorem p_bin (x : Int32) (σ : Sg) : c_isBinary x σ = some (if x < 9 then 0 else if 13 < x then 0 else 1, σ) := by
  unfold c_isBinary
  split
  · rfl
  · split <;> rfl
theorem p_un (x : Int32) (σ : Sg) : c_isUnary x σ = some (if x = 8 then 1 else 0, σ) := by
  unfold c_isUnary
  split <;> rfl
theorem p_vc (x : Int32) (σ : Sg) : c_validCode x σ = some (if x < 0 then 0 else if 13 < x then 0 else 1, σ) := by
  unfold c_validCode
  split
  · rfl
  · split <;> rfl
theorem p_dc (x : Int32) (σ : Sg) : c_depthChange x σ = some (dcV x, σ) := by
  unfold c_depthChange dcV
  rw [p_leaf, Option.bind_some]
  simp only []
  by_cases a : (if x < 0 then (0 : Int32) else if 7 < x then 0 else 1) = 0
  · rw [if_pos a, if_pos a, p_bin, Option.bind_some]
    simp only []
    by_cases b : (if x < 9 then (0 : Int32) else if 13 < x then 0 else 1) = 0
    · rw [if_pos b, if_pos b]
    · rw [if_neg b, if_neg b]
  · rw [if_neg a, if_neg a]
def vaV (σ : Sg) (s : Nat) (x : Int32) : Int64 := if x < 0 then 0 else if x < 32 then gj σ 5 (32 * s + nx x) else 0
def stV (σ : Sg) (s : Nat) (x : Int32) : Int32 := if x < 0 then 0 else if x < 32 then gi σ 6 (32 * s + nx x) else 0
theorem p_ix {s : Nat} (hs : s ≤ 2) (x : Int32) (σ : Sg) : c_indexOf (Int32.ofNat s) x σ = some (if x < 0 then -1 else if x < 32 then Int32.ofNat (32 * s + nx x) else -1, σ) := by
  by_cases a : x < 0
  · unfold c_indexOf
    rw [vs_ok hs, Option.bind_some, if_neg (show ¬ (1 : Int32) = 0 by decide), if_pos a, if_pos a]
  · by_cases b : x < 32
    · have a' := a
      have b' := b
      rw [ti_lt] at a' b'
      have e0 : (0 : Int32).toInt = 0 := rfl
      have e32 : (32 : Int32).toInt = 32 := rfl
      have h := p_idx (i := nx x) hs (by unfold nx; omega) σ
      rw [ofNat_nx (by omega)] at h
      rw [h, if_neg a, if_pos b]
    · unfold c_indexOf
      rw [vs_ok hs, Option.bind_some, if_neg (show ¬ (1 : Int32) = 0 by decide), if_neg a, if_neg b, if_neg a, if_neg b]
theorem in96 {n : Nat} (h : n < 96) : inb (Int32.ofNat n) 96 = true ∧ ¬ Int32.ofNat n < 0 := by
  have e0 : (0 : Int32).toInt = 0 := rfl
  have en := ti_ofNat (n := n) (by omega)
  exact ⟨inbT (by omega) (show (Int32.ofNat n).toInt < ((96 : Nat) : Int) by omega), by rw [ti_lt]; omega⟩
theorem nx32 {x : Int32} (a : ¬ x < 0) (b : x < 32) : nx x < 32 := by
  have e0 : (0 : Int32).toInt = 0 := rfl
  have e32 : (32 : Int32).toInt = 32 := rfl
  rw [ti_lt] at a b
  unfold nx
  omega
theorem p_vaA {s : Nat} (hs : s ≤ 2) (x : Int32) (σ : Sg) : c_valueAt (Int32.ofNat s) x σ = some (vaV σ s x, σ) := by
  unfold c_valueAt vaV
  rw [p_ix hs, Option.bind_some]
  simp only []
  by_cases a : x < 0
  · rw [if_pos a, if_pos a, if_pos (show (-1 : Int32) < 0 by decide)]
  · rw [if_neg a, if_neg a]
    by_cases b : x < 32
    · have hn := nx32 a b
      obtain ⟨h1, h2⟩ := in96 (n := 32 * s + nx x) (by omega)
      rw [if_pos b, if_pos b, if_neg h2, if_pos h1, nx_ofNat (by omega)]
    · rw [if_neg b, if_neg b, if_pos (show (-1 : Int32) < 0 by decide)]
theorem p_stA {s : Nat} (hs : s ≤ 2) (x : Int32) (σ : Sg) : c_startAt (Int32.ofNat s) x σ = some (stV σ s x, σ) := by
  unfold c_startAt stV
  rw [p_ix hs, Option.bind_some]
  simp only []
  by_cases a : x < 0
  · rw [if_pos a, if_pos a, if_pos (show (-1 : Int32) < 0 by decide)]
  · rw [if_neg a, if_neg a]
    by_cases b : x < 32
    · have hn := nx32 a b
      obtain ⟨h1, h2⟩ := in96 (n := 32 * s + nx x) (by omega)
      rw [if_pos b, if_pos b, if_neg h2, if_pos h1, nx_ofNat (by omega)]
    · rw [if_neg b, if_neg b, if_pos (show (-1 : Int32) < 0 by decide)]
theorem p_stn {n : Nat} (h : n < 96) (y : Int64) (z : Int32) (σ : Sg) : c_storeNode (Int32.ofNat n) y z σ = some (si (sj σ 5 n y) 6 n z) := by
  have en := ti_ofNat (n := n) (by omega)
  have e96 : (96 : Int32).toInt = 96 := rfl
  obtain ⟨h1, h2⟩ := in96 h
  unfold c_storeNode
  rw [if_neg h2, if_pos (by rw [ti_lt]; omega), if_pos h1, nx_ofNat (by omega)]
def leafV (c : Nat) : Int64 := if c = 0 then 0 else if c = 1 then -1 else txV (c - 2)
theorem p_lt {c : Nat} (h : c ≤ 7) (σ : Sg) : c_leafTable (Int32.ofNat c) σ = some (leafV c, σ) := by
  match c, h with
  | 0, _ => rfl
  | 1, _ => rfl
  | 2, _ => rfl
  | 3, _ => rfl
  | 4, _ => rfl
  | 5, _ => rfl
  | 6, _ => rfl
  | 7, _ => rfl
def cbV (x : Int32) (a b : Int64) : Int64 := if x = 9 then a &&& b else if x = 10 then a ||| b else if x = 11 then a ^^^ b else if x = 12 then (a ^^^ b) ^^^ (-1) else if x = 13 then (a ^^^ (-1)) ||| b else 0
theorem p_cb (x : Int32) (a b : Int64) (σ : Sg) : c_combine x a b σ = some (cbV x a b, σ) := by
  unfold c_combine cbV
  split
  · rfl
  split
  · rfl
  split
  · rfl
  split
  · rfl
  split <;> rfl
/-- behind a push -/
def PS (σ : Sg) (s : Nat) (c : Int32) (L : Nat) (y : Int64) (z : Int32) : Sg := si (si (si (sj (si σ 1 (32 * s + L) c) 5 (32 * s + L) y) 6 (32 * s + L) z) 2 s (Int32.ofNat (L + 1))) 4 s (gi σ 4 s + dcV c)
theorem p_85 {s L : Nat} (hs : s ≤ 2) (c : Int32) (σ : Sg) (y : Int64) (z : Int32) : c_appendCode_85 (Int32.ofNat s) c (Int32.ofNat L) (si (sj (si σ 1 (32 * s + L) c) 5 (32 * s + L) y) 6 (32 * s + L) z) = some (PS σ s c L y z) := by
  unfold c_appendCode_85 PS
  rw [if_pos (in3 hs), p_dc, Option.bind_some, nx_ofNat (by omega), ofNat_succ, gi_si, if_neg (by simp), gi_sj, gi_si, if_neg (by simp)]
theorem kinds : ∀ c : Fin 14, (c.1 ≤ 7 → (if Int32.ofNat c.1 < 0 then (0 : Int32) else if 7 < Int32.ofNat c.1 then 0 else 1) = 1) ∧ (7 < c.1 → (if Int32.ofNat c.1 < 0 then (0 : Int32) else if 7 < Int32.ofNat c.1 then 0 else 1) = 0) ∧ (c.1 ≤ 8 → (if Int32.ofNat c.1 < 9 then (0 : Int32) else if 13 < Int32.ofNat c.1 then 0 else 1) = 0) ∧ (8 < c.1 → (if Int32.ofNat c.1 < 9 then (0 : Int32) else if 13 < Int32.ofNat c.1 then 0 else 1) = 1) ∧ (c.1 = 8 → (if Int32.ofNat c.1 = 8 then (1 : Int32) else 0) = 1) ∧ (c.1 ≠ 8 → (if Int32.ofNat c.1 = 8 then (1 : Int32) else 0) = 0) ∧ (if Int32.ofNat c.1 < 0 then (0 : Int32) else if 13 < Int32.ofNat c.1 then 0 else 1) = 1 := by decide +kernel
theorem p_app_leaf {s c L : Nat} (hs : s ≤ 2) (hc : c ≤ 7) {σ : Sg} (hL : gi σ 2 s = Int32.ofNat L) (h32 : L < 32) : c_appendCode (Int32.ofNat s) (Int32.ofNat c) σ = some (PS σ s (Int32.ofNat c) L (leafV c) (Int32.ofNat L)) := by
  obtain ⟨h1, h2⟩ := in96 (n := 32 * s + L) (by omega)
  obtain ⟨k1, -⟩ := kinds ⟨c, by omega⟩
  simp only [] at k1
  have h8 := code8 ⟨c, by omega⟩
  simp only [] at h8
  unfold c_appendCode
  rw [if_pos (in3 hs), nx_ofNat (n := s) (by omega), hL, p_idx hs h32, Option.bind_some, if_neg h2, if_pos h1, h8, p_leaf, k1 hc, Option.bind_some, if_neg (show ¬ (1 : Int32) = 0 by decide)]
  simp only []
  rw [p_lt hc, Option.bind_some]
  simp only []
  rw [p_stn (by omega), Option.bind_some, nx_ofNat (n := 32 * s + L) (by omega)]
  exact p_85 hs _ σ _ _
theorem p_app_bin {s c L : Nat} (hs : s ≤ 2) (hc : 9 ≤ c) (hc2 : c ≤ 13) {σ : Sg} (hL : gi σ 2 s = Int32.ofNat L) (h32 : L < 32) : c_appendCode (Int32.ofNat s) (Int32.ofNat c) σ = some (PS σ s (Int32.ofNat c) L (cbV (Int32.ofNat c) (vaV σ s (stV σ s (Int32.ofNat L - 1) - 1)) (vaV σ s (Int32.ofNat L - 1))) (stV σ s (stV σ s (Int32.ofNat L - 1) - 1))) := by
  obtain ⟨h1, h2⟩ := in96 (n := 32 * s + L) (by omega)
  obtain ⟨-, k2, -, -, -, k6, -⟩ := kinds ⟨c, by omega⟩
  simp only [] at k2 k6
  have h8 := code8 ⟨c, by omega⟩
  simp only [] at h8
  have va : ∀ x, vaV (si σ 1 (32 * s + L) (Int32.ofNat c)) s x = vaV σ s x := fun x => rfl
  have st : ∀ x, stV (si σ 1 (32 * s + L) (Int32.ofNat c)) s x = stV σ s x := fun x => by
    unfold stV
    rw [gi_si, if_neg (show ¬ (6 = 1 ∧ 32 * s + nx x = 32 * s + L) by simp)]
  unfold c_appendCode c_appendBinary
  rw [if_pos (in3 hs), nx_ofNat (n := s) (by omega), hL, p_idx hs h32, Option.bind_some, if_neg h2, if_pos h1, h8, p_leaf, k2 (by omega), Option.bind_some, if_pos rfl]
  simp only []
  rw [p_un, k6 (by omega), Option.bind_some, if_pos rfl]
  simp only []
  rw [nx_ofNat (n := 32 * s + L) (by omega), p_stA hs, Option.bind_some]
  simp only []
  rw [p_vaA hs, Option.bind_some]
  simp only []
  rw [p_vaA hs, Option.bind_some]
  simp only []
  rw [p_stA hs, Option.bind_some]
  simp only []
  rw [p_cb, Option.bind_some]
  simp only []
  rw [p_stn (by omega), Option.bind_some, Option.bind_some, va, va, st, st]
  exact p_85 hs _ σ _ _
theorem PS_gi2 (σ : Sg) (s : Nat) (c : Int32) (L : Nat) (y : Int64) (z : Int32) (t : Nat) : gi (PS σ s c L y z) 2 t = if t = s then Int32.ofNat (L + 1) else gi σ 2 t := by
  unfold PS
  rw [gi_si, if_neg (by simp), gi_si]
  by_cases e : t = s
  · rw [if_pos ⟨rfl, e⟩, if_pos e]
  · rw [if_neg (fun w => e w.2), gi_si, if_neg (by simp), gi_sj, gi_si, if_neg (by simp), if_neg e]
theorem PS_gi4 (σ : Sg) (s : Nat) (c : Int32) (L : Nat) (y : Int64) (z : Int32) (t : Nat) : gi (PS σ s c L y z) 4 t = if t = s then gi σ 4 s + dcV c else gi σ 4 t := by
  unfold PS
  rw [gi_si]
  by_cases e : t = s
  · rw [if_pos ⟨rfl, e⟩, if_pos e]
  · rw [if_neg (fun w => e w.2), gi_si, if_neg (by simp), gi_si, if_neg (by simp), gi_sj, gi_si, if_neg (by simp), if_neg e]
theorem PS_gi6 (σ : Sg) (s : Nat) (c : Int32) (L : Nat) (y : Int64) (z : Int32) (t : Nat) : gi (PS σ s c L y z) 6 t = if t = 32 * s + L then z else gi σ 6 t := by
  unfold PS
  rw [gi_si, if_neg (by simp), gi_si, if_neg (by simp), gi_si]
  by_cases e : t = 32 * s + L
  · rw [if_pos ⟨rfl, e⟩, if_pos e]
  · rw [if_neg (fun w => e w.2), gi_sj, gi_si, if_neg (by simp), if_neg e]
theorem PS_gi1 (σ : Sg) (s : Nat) (c : Int32) (L : Nat) (y : Int64) (z : Int32) (t : Nat) : gi (PS σ s c L y z) 1 t = if t = 32 * s + L then c else gi σ 1 t := by
  unfold PS
  rw [gi_si, if_neg (by simp), gi_si, if_neg (by simp), gi_si, if_neg (by simp), gi_sj, gi_si]
  by_cases e : t = 32 * s + L
  · rw [if_pos ⟨rfl, e⟩, if_pos e]
  · rw [if_neg (fun w => e w.2), if_neg e]
theorem PS_gi (σ : Sg) (s : Nat) (c : Int32) (L : Nat) (y : Int64) (z : Int32) (k t : Nat) (h1 : k ≠ 1) (h2 : k ≠ 2) (h4 : k ≠ 4) (h6 : k ≠ 6) : gi (PS σ s c L y z) k t = gi σ k t := by
  unfold PS
  rw [gi_si, if_neg (fun w => h4 w.1), gi_si, if_neg (fun w => h2 w.1), gi_si, if_neg (fun w => h6 w.1), gi_sj, gi_si, if_neg (fun w => h1 w.1)]
theorem PS_gj5 (σ : Sg) (s : Nat) (c : Int32) (L : Nat) (y : Int64) (z : Int32) (t : Nat) : gj (PS σ s c L y z) 5 t = if t = 32 * s + L then y else gj σ 5 t := by
  unfold PS
  rw [gj_si, gj_si, gj_si, gj_sj]
  by_cases e : t = 32 * s + L
  · rw [if_pos ⟨rfl, e⟩, if_pos e]
  · rw [if_neg (fun w => e w.2), gj_si, if_neg e]
theorem PS_gj (σ : Sg) (s : Nat) (c : Int32) (L : Nat) (y : Int64) (z : Int32) (k t : Nat) (h : k ≠ 5) : gj (PS σ s c L y z) k t = gj σ k t := by
  unfold PS
  rw [gj_si, gj_si, gj_si, gj_sj, if_neg (fun w => h w.1), gj_si]
theorem dcs : ∀ c : Fin 14, (c.1 ≤ 7 → dcV (Int32.ofNat c.1) = 1) ∧ (c.1 = 8 → dcV (Int32.ofNat c.1) = 0) ∧ (9 ≤ c.1 → dcV (Int32.ofNat c.1) = -1) := by decide +kernel
theorem p_app_un {s L : Nat} (hs : s ≤ 2) {σ : Sg} (hL : gi σ 2 s = Int32.ofNat L) (h32 : L < 32) : ∃ y z, c_appendCode (Int32.ofNat s) (Int32.ofNat 8) σ = some (PS σ s (Int32.ofNat 8) L y z) := by
  obtain ⟨h1, h2⟩ := in96 (n := 32 * s + L) (by omega)
  have k2 : (if Int32.ofNat 8 < 0 then (0 : Int32) else if 7 < Int32.ofNat 8 then 0 else 1) = 0 := by decide
  have k6 : (if Int32.ofNat 8 = 8 then (1 : Int32) else 0) = 1 := by decide
  have h8 := code8 ⟨8, by omega⟩
  simp only [] at h8
  unfold c_appendCode c_appendNot
  rw [if_pos (in3 hs), nx_ofNat (n := s) (by omega), hL, p_idx hs h32, Option.bind_some, if_neg h2, if_pos h1, h8, p_leaf, k2, Option.bind_some, if_pos rfl]
  simp only []
  rw [p_un, k6, Option.bind_some, if_neg (show ¬ (1 : Int32) = 0 by decide)]
  simp only []
  rw [nx_ofNat (n := 32 * s + L) (by omega), p_vaA hs, Option.bind_some]
  simp only []
  rw [p_stA hs, Option.bind_some]
  simp only []
  rw [p_stn (by omega), Option.bind_some, Option.bind_some]
  exact ⟨_, _, p_85 hs _ σ _ _⟩
theorem p_app_any {s c L : Nat} (hs : s ≤ 2) (hc : c ≤ 13) {σ : Sg} (hL : gi σ 2 s = Int32.ofNat L) (h32 : L < 32) : ∃ y z, c_appendCode (Int32.ofNat s) (Int32.ofNat c) σ = some (PS σ s (Int32.ofNat c) L y z) := by
  by_cases a : c ≤ 7
  · exact ⟨_, _, p_app_leaf hs a hL h32⟩
  · by_cases b : c = 8
    · subst b; exact p_app_un hs hL h32
    · exact ⟨_, _, p_app_bin hs (by omega) hc hL h32⟩
def okP (σ : Sg) (s c L cap : Nat) : Prop := L < cap ∧ ¬ (c = 8 ∧ gi σ 4 s < 1) ∧ ¬ (9 ≤ c ∧ gi σ 4 s < 2)
theorem p_push {s c L cap : Nat} (hs : s ≤ 2) (hc : c ≤ 13) {σ : Sg} (hL : gi σ 2 s = Int32.ofNat L) (hcap : gi σ 0 12 = Int32.ofNat cap) (hL2 : L ≤ 32) (hc32 : cap ≤ 32) : (okP σ s c L cap ∧ ∃ y z, c_push (Int32.ofNat s) (Int32.ofNat c) σ = some (Int32.ofNat (L + 1), PS σ s (Int32.ofNat c) L y z)) ∨ (¬ okP σ s c L cap ∧ c_push (Int32.ofNat s) (Int32.ofNat c) σ = some (-1, σ)) := by
  obtain ⟨k1, k2, k3, k4, k5, k6, k7⟩ := kinds ⟨c, by omega⟩
  simp only [] at k1 k2 k3 k4 k5 k6 k7
  have eL := ti_ofNat (n := L) (by omega)
  have ec := ti_ofNat (n := cap) (by omega)
  have l75 : L < cap → ∃ y z, c_push_75 (Int32.ofNat s) (Int32.ofNat c) σ = some (Int32.ofNat (L + 1), PS σ s (Int32.ofNat c) L y z) := by
    intro h
    obtain ⟨y, z, q⟩ := p_app_any hs hc hL (by omega)
    refine ⟨y, z, ?_⟩
    unfold c_push_75
    rw [q, Option.bind_some, if_pos (in3 hs), nx_ofNat (n := s) (by omega)]
    have : gi (PS σ s (Int32.ofNat c) L y z) 2 s = Int32.ofNat (L + 1) := by
      unfold PS
      rw [gi_si, if_neg (by simp), gi_si, if_pos ⟨rfl, rfl⟩]
    rw [this]
  have l55 : L < cap → (¬ (9 ≤ c ∧ gi σ 4 s < 2) ∧ ∃ y z, c_push_55 (Int32.ofNat s) (Int32.ofNat c) σ = some (Int32.ofNat (L + 1), PS σ s (Int32.ofNat c) L y z)) ∨ ((9 ≤ c ∧ gi σ 4 s < 2) ∧ c_push_55 (Int32.ofNat s) (Int32.ofNat c) σ = some (-1, σ)) := by
    intro h
    unfold c_push_55
    rw [p_bin, Option.bind_some]
    simp only []
    by_cases a : c ≤ 8
    · left
      rw [k3 a, if_pos rfl]
      exact ⟨by omega, l75 h⟩
    · rw [k4 (by omega), if_neg (show ¬ (1 : Int32) = 0 by decide), if_pos (in3 hs), nx_ofNat (n := s) (by omega)]
      by_cases b : gi σ 4 s < 2
      · right
        rw [if_pos b]
        exact ⟨⟨by omega, b⟩, rfl⟩
      · left
        rw [if_neg b]
        exact ⟨fun q => b q.2, l75 h⟩
  unfold c_push
  rw [vs_ok hs, Option.bind_some, if_neg (show ¬ (1 : Int32) = 0 by decide)]
  simp only []
  rw [p_vc, k7, Option.bind_some, if_neg (show ¬ (1 : Int32) = 0 by decide), if_pos (in3 hs), nx_ofNat (n := s) (by omega)]
  simp only []
  rw [hL, hcap]
  by_cases a : L < cap
  · rw [if_pos (show Int32.ofNat L < Int32.ofNat cap by rw [ti_lt]; omega), p_un, Option.bind_some]
    simp only []
    by_cases b : c = 8
    · rw [k5 b, if_neg (show ¬ (1 : Int32) = 0 by decide)]
      by_cases d : gi σ 4 s < 1
      · right
        rw [if_pos d]
        exact ⟨fun q => q.2.1 ⟨b, d⟩, rfl⟩
      · rw [if_neg d]
        rcases l55 a with ⟨h1, h2⟩ | ⟨h1, h2⟩
        · exact Or.inl ⟨⟨a, fun q => d q.2, h1⟩, h2⟩
        · exact Or.inr ⟨fun q => q.2.2 h1, h2⟩
    · rw [k6 b, if_pos rfl]
      rcases l55 a with ⟨h1, h2⟩ | ⟨h1, h2⟩
      · exact Or.inl ⟨⟨a, fun q => b q.1, h1⟩, h2⟩
      · exact Or.inr ⟨fun q => q.2.2 h1, h2⟩
  · right
    rw [if_neg (show ¬ Int32.ofNat L < Int32.ofNat cap by rw [ti_lt]; omega)]
    exact ⟨fun q => a q.1, rfl⟩
theorem p_push_bad {x c : Int32} (σ : Sg) (h : (x < 0 ∨ 2 < x) ∨ (c < 0 ∨ 13 < c)) : c_push x c σ = some (-1, σ) := by
  unfold c_push
  rw [p_vs, Option.bind_some]
  simp only []
  by_cases a : x < 0
  · rw [if_pos a, if_pos rfl]
  · rw [if_neg a]
    by_cases b : 2 < x
    · rw [if_pos b, if_pos rfl]
    · rw [if_neg b, if_neg (show ¬ (1 : Int32) = 0 by decide), p_vc, Option.bind_some]
      simp only []
      have h' : c < 0 ∨ 13 < c := h.resolve_left (fun q => q.elim a b)
      by_cases d : c < 0
      · rw [if_pos d, if_pos rfl]
      · rw [if_neg d, if_pos (h'.resolve_left d), if_pos rfl]
theorem p_undo {s L : Nat} (hs : s ≤ 2) {σ : Sg} (hL : gi σ 2 s = Int32.ofNat L) (hL2 : L ≤ 32) : c_undo (Int32.ofNat s) σ = some (if 0 < L then (1, si (si σ 4 s (gi σ 4 s - dcV (gi σ 1 (32 * s + (L - 1))))) 2 s (Int32.ofNat (L - 1))) else (0, σ)) := by
  have e0 : (0 : Int32).toInt = 0 := rfl
  have e1 : (1 : Int32).toInt = 1 := rfl
  have eL := ti_ofNat (n := L) (by omega)
  unfold c_undo
  rw [vs_ok hs, Option.bind_some, if_neg (show ¬ (1 : Int32) = 0 by decide), if_pos (in3 hs), nx_ofNat (n := s) (by omega)]
  simp only []
  rw [hL]
  by_cases a : 0 < L
  · have hl : Int32.ofNat L - 1 = Int32.ofNat (L - 1) := by
      refine eq_ofNat ?_
      rw [ti_sub (by omega) (by omega), e1, eL]; omega
    obtain ⟨h1, h2⟩ := in96 (n := 32 * s + (L - 1)) (by omega)
    rw [if_pos (show (0 : Int32) < Int32.ofNat L by rw [ti_lt]; omega), if_pos a, hl, p_idx hs (by omega), Option.bind_some, if_neg h2, if_pos h1, nx_ofNat (n := 32 * s + (L - 1)) (by omega)]
    simp only []
    rw [p_dc, Option.bind_some]
  · rw [if_neg (show ¬ (0 : Int32) < Int32.ofNat L by rw [ti_lt]; omega), if_neg a]
theorem p_undo_bad {x : Int32} (σ : Sg) (h : x < 0 ∨ 2 < x) : c_undo x σ = some (0, σ) := by
  unfold c_undo
  rw [p_vs, Option.bind_some]
  simp only []
  by_cases a : x < 0
  · rw [if_pos a, if_pos rfl]
  · rw [if_neg a, if_pos (h.resolve_left a), if_pos rfl]
theorem p_clear {s : Nat} (hs : s ≤ 2) (σ : Sg) : c_clear (Int32.ofNat s) σ = some (1, si (si σ 2 s 0) 4 s 0) := by
  unfold c_clear
  rw [vs_ok hs, Option.bind_some, if_neg (show ¬ (1 : Int32) = 0 by decide)]
  simp only []
  rw [p_es hs, Option.bind_some]
theorem p_clear_bad {x : Int32} (σ : Sg) (h : x < 0 ∨ 2 < x) : c_clear x σ = some (0, σ) := by
  unfold c_clear
  rw [p_vs, Option.bind_some]
  simp only []
  by_cases a : x < 0
  · rw [if_pos a, if_pos rfl]
  · rw [if_neg a, if_pos (h.resolve_left a), if_pos rfl]
/-! BoolUnifierY L6: the law's own account, packed -/
def pk (f : Nat → Nat) : Int32 := Int32.ofNat (f 0 + 256 * f 1 + 65536 * f 2)
def B40 (f : Nat → Nat) : Prop := ∀ s, s ≤ 2 → f s ≤ 40
theorem pk_ti {f : Nat → Nat} (h : B40 f) : (pk f).toInt = (f 0 : Int) + 256 * (f 1 : Int) + 65536 * (f 2 : Int) := by
  have h0 := h 0 (by decide)
  have h1 := h 1 (by decide)
  have h2 := h 2 (by decide)
  unfold pk
  rw [ti_ofNat (by omega)]
  omega
theorem and255 {x : Int32} (h : 0 ≤ x.toInt) : (x &&& 255).toInt = x.toInt % 256 := by
  have b := c_and x 255 (by decide)
  have b1 := b.1
  have e1 := ti_nat (q := x &&& 255) b1
  have e2 := ti_nat h
  have e3 : (x &&& 255).toBitVec.toNat = x.toBitVec.toNat % 256 := by
    show (x.toBitVec &&& (255 : Int32).toBitVec).toNat = _
    rw [BitVec.toNat_and]
    exact Nat.and_two_pow_sub_one_eq_mod _ 8
  omega
theorem m8 : ∀ s : Fin 3, (8 : Int32) * Int32.ofNat s.1 = Int32.ofNat (8 * s.1) := by decide +kernel
theorem m8N {s : Nat} (h : s ≤ 2) : (8 : Int32) * Int32.ofNat s = Int32.ofNat (8 * s) := m8 ⟨s, by omega⟩
theorem pk_get {f : Nat → Nat} (h : B40 f) {s : Nat} (hs : s ≤ 2) : (pk f >>> (((8 : Int32) * Int32.ofNat s) &&& 31)) &&& 255 = Int32.ofNat (f s) := by
  have h0 := h 0 (by decide)
  have h1 := h 1 (by decide)
  have h2 := h 2 (by decide)
  have e := pk_ti h
  have hsh : (pk f >>> (((8 : Int32) * Int32.ofNat s) &&& 31)).toInt = (pk f).toInt / ((2 ^ (8 * s) : Nat) : Int) := by
    rw [m8N hs]
    exact ti_shr (ti_ofNat (by omega)) (by omega)
  have hfs := h s hs
  rw [ti_eq, ti_ofNat (by omega)]
  match s, hs with
  | 0, _ =>
    rw [show ((2 ^ (8 * 0) : Nat) : Int) = 1 from rfl] at hsh
    rw [and255 (by rw [hsh]; omega), hsh, e]; omega
  | 1, _ =>
    rw [show ((2 ^ (8 * 1) : Nat) : Int) = 256 from rfl] at hsh
    rw [and255 (by rw [hsh]; omega), hsh, e]; omega
  | 2, _ =>
    rw [show ((2 ^ (8 * 2) : Nat) : Int) = 65536 from rfl] at hsh
    rw [and255 (by rw [hsh]; omega), hsh, e]; omega
theorem pk_get0 {f : Nat → Nat} (h : B40 f) : pk f &&& 255 = Int32.ofNat (f 0) := by
  have h0 := h 0 (by decide)
  have h1 := h 1 (by decide)
  have h2 := h 2 (by decide)
  have e := pk_ti h
  rw [ti_eq, ti_ofNat (by omega), and255 (by omega), e]
  omega
theorem pk_get1 {f : Nat → Nat} (h : B40 f) : (pk f >>> ((8 : Int32) &&& 31)) &&& 255 = Int32.ofNat (f 1) := by
  have := pk_get h (s := 1) (by decide)
  rw [show (8 : Int32) * Int32.ofNat 1 = 8 by decide] at this
  exact this
theorem s8 : ∀ s : Fin 3, (1 : Int32) <<< (((8 : Int32) * Int32.ofNat s.1) &&& 31) = Int32.ofNat (256 ^ s.1) := by decide +kernel
theorem pk_inc {f g : Nat → Nat} (hf : B40 f) (hg : B40 g) {s : Nat} (hs : s ≤ 2) (e : g s = f s + 1) (o : ∀ t, t ≠ s → g t = f t) : pk f + ((1 : Int32) <<< (((8 : Int32) * Int32.ofNat s) &&& 31)) = pk g := by
  have h0 := hf 0 (by decide)
  have h1 := hf 1 (by decide)
  have h2 := hf 2 (by decide)
  have ef := pk_ti hf
  have eg := pk_ti hg
  have h8 := s8 ⟨s, by omega⟩
  simp only [] at h8
  rw [h8, ti_eq, eg]
  match s, hs with
  | 0, _ =>
    have t1 := o 1 (by decide)
    have t2 := o 2 (by decide)
    have z : (Int32.ofNat (256 ^ 0)).toInt = 1 := rfl
    rw [ti_add (by omega) (by omega), z, ef, e, t1, t2]; omega
  | 1, _ =>
    have t1 := o 0 (by decide)
    have t2 := o 2 (by decide)
    have z : (Int32.ofNat (256 ^ 1)).toInt = 256 := rfl
    rw [ti_add (by omega) (by omega), z, ef, e, t1, t2]; omega
  | 2, _ =>
    have t1 := o 0 (by decide)
    have t2 := o 1 (by decide)
    have z : (Int32.ofNat (256 ^ 2)).toInt = 65536 := rfl
    rw [ti_add (by omega) (by omega), z, ef, e, t1, t2]; omega
theorem pk_dec {f g : Nat → Nat} (hf : B40 f) (hg : B40 g) {s : Nat} (hs : s ≤ 2) (e : f s = g s + 1) (o : ∀ t, t ≠ s → g t = f t) : pk f - ((1 : Int32) <<< (((8 : Int32) * Int32.ofNat s) &&& 31)) = pk g := by
  have := pk_inc hg hf hs e (fun t h => (o t h).symm)
  rw [← this, Int32.add_sub_cancel]
theorem tbI_nat {n t : Nat} (ht : t < 32) : tbI (Int32.ofNat n) t = n.testBit t := by
  unfold tbI
  show (BitVec.ofNat 32 n).getLsbD t = _
  rw [BitVec.getLsbD_ofNat, decide_eq_true ht, Bool.true_and]
theorem pk_bit {f : Nat → Nat} (h : B40 f) {t : Nat} (ht : t < 32) : tbI (pk f) t = if t < 8 then (f 0).testBit t else if t < 16 then (f 1).testBit (t - 8) else (f 2).testBit (t - 16) := by
  have h0 := h 0 (by decide)
  have h1 := h 1 (by decide)
  unfold pk
  rw [tbI_nat ht, show f 0 + 256 * f 1 + 65536 * f 2 = 2 ^ 8 * (2 ^ 8 * f 2 + f 1) + f 0 by omega, Nat.testBit_two_pow_mul_add _ (show f 0 < 2 ^ 8 by omega), Nat.testBit_two_pow_mul_add _ (show f 1 < 2 ^ 8 by omega)]
  by_cases a : t < 8
  · rw [if_pos a, if_pos a]
  · rw [if_neg a, if_neg a]
    by_cases b : t < 16
    · rw [if_pos b, if_pos (show t - 8 < 8 by omega)]
    · rw [if_neg b, if_neg (show ¬ t - 8 < 8 by omega), show t - 8 - 8 = t - 16 by omega]
theorem msk : ∀ (s : Fin 3) (t : Fin 32), tbI (((255 : Int32) <<< (((8 : Int32) * Int32.ofNat s.1) &&& 31)) ^^^ (-1 : Int32)) t.1 = !(decide (8 * s.1 ≤ t.1 ∧ t.1 < 8 * s.1 + 8)) := by decide +kernel
theorem pk_clr {f g : Nat → Nat} (hf : B40 f) (hg : B40 g) {s : Nat} (hs : s ≤ 2) (e : g s = 0) (o : ∀ t, t ≠ s → g t = f t) : pk f &&& (((255 : Int32) <<< (((8 : Int32) * Int32.ofNat s) &&& 31)) ^^^ (-1 : Int32)) = pk g := by
  refine tbI_ext fun t ht => ?_
  have hm := msk ⟨s, by omega⟩ ⟨t, ht⟩
  simp only [] at hm
  have h2 := hf 2 (by decide)
  have f2 : 24 ≤ t → (f 2).testBit (t - 16) = false := fun q => Nat.testBit_lt_two_pow (Nat.lt_of_lt_of_le (show f 2 < 2 ^ 8 by omega) (Nat.pow_le_pow_right (by decide) (by omega)))
  rw [tbI_and, hm, pk_bit hf ht, pk_bit hg ht]
  match s, hs with
  | 0, _ =>
    rw [o 1 (by decide), o 2 (by decide), e]
    by_cases a : t < 8
    · rw [if_pos a, if_pos a, decide_eq_true (by omega), Nat.zero_testBit]; simp
    · rw [if_neg a, if_neg a, decide_eq_false (by omega)]; simp
  | 1, _ =>
    rw [o 0 (by decide), o 2 (by decide), e]
    by_cases a : t < 8
    · rw [if_pos a, if_pos a, decide_eq_false (by omega)]; simp
    · rw [if_neg a, if_neg a]
      by_cases b : t < 16
      · rw [if_pos b, if_pos b, decide_eq_true (by omega), Nat.zero_testBit]; simp
      · rw [if_neg b, if_neg b, decide_eq_false (by omega)]; simp
  | 2, _ =>
    rw [o 0 (by decide), o 1 (by decide), e]
    by_cases a : t < 8
    · rw [if_pos a, if_pos a, decide_eq_false (by omega)]; simp
    · rw [if_neg a, if_neg a]
      by_cases b : t < 16
      · rw [if_pos b, if_pos b, decide_eq_false (by omega)]; simp
      · rw [if_neg b, if_neg b, Nat.zero_testBit]
        by_cases c : t < 24
        · rw [decide_eq_true (by omega)]; simp
        · rw [f2 (by omega)]; simp
/-! what is printed is never empty -/
theorem mono_pos : ∀ m : Fin 64, 1 ≤ (mono m.1).length := by decide +kernel
theorem poly_pos (c : Nat → Bool) (k : Nat) : ∀ (m : Nat) (b : Bool), m + k ≤ 64 → (∃ t, m ≤ t ∧ t < m + k ∧ c t = true) → 1 ≤ (polyF c k m b).length := by
  induction k with
  | zero => intro m b h ⟨t, h1, h2, h3⟩; omega
  | succ k ih =>
    intro m b h ⟨t, h1, h2, h3⟩
    unfold polyF
    by_cases hc : c m = true
    · rw [if_pos hc, List.length_append]
      have := mono_pos ⟨m, by omega⟩
      simp only [] at this
      omega
    · rw [if_neg hc]
      have ne : t ≠ m := fun q => hc (by rw [← q]; exact h3)
      exact ih (m + 1) b (by omega) ⟨t, by omega, by omega, h3⟩
theorem prn_pos (g : Int64) : 1 ≤ (prn g).length := by
  unfold prn
  by_cases h : anfV g = 0
  · rw [if_pos h]; exact Nat.le_refl _
  · rw [if_neg h]
    refine poly_pos _ 64 0 true (by omega) ?_
    apply Classical.byContradiction
    intro q
    apply h
    refine tbL_ext fun t ht => ?_
    rw [tbL_zero]
    cases e : tbL (anfV g) t with
    | false => rfl
    | true => exact absurd ⟨t, by omega, by omega, e⟩ q
/-! what holds between two turns -/
def dcI (c : Nat) : Int := if c ≤ 7 then 1 else if c = 8 then 0 else -1
theorem dc_ti {c : Nat} (h : c ≤ 13) : (dcV (Int32.ofNat c)).toInt = dcI c := by
  obtain ⟨h1, h2, h3⟩ := dcs ⟨c, by omega⟩
  simp only [] at h1 h2 h3
  unfold dcI
  by_cases a : c ≤ 7
  · rw [if_pos a, h1 a]; rfl
  · rw [if_neg a]
    by_cases b : c = 8
    · rw [if_pos b, h2 b]; rfl
    · rw [if_neg b, h3 (by omega)]; rfl
def SlotOk (σ : Sg) (s L D : Nat) : Prop := ∃ d : Nat → Nat, d 0 = 0 ∧ d L = D ∧ (∀ i, i ≤ L → d i ≤ i) ∧ ∀ i, i < L → ∃ c, c ≤ 13 ∧ gi σ 1 (32 * s + i) = Int32.ofNat c ∧ (d (i + 1) : Int) = d i + dcI c
def J8 (σ : Sg) (cap : Nat) (L D : Nat → Nat) (st el : Int32) (res : Int64) : Prop := gi σ 0 12 = Int32.ofNat cap ∧ (∀ s, s ≤ 2 → gi σ 2 s = Int32.ofNat (L s) ∧ gi σ 4 s = Int32.ofNat (D s) ∧ L s ≤ cap ∧ SlotOk σ s (L s) (D s)) ∧ gi σ 0 13 = st ∧ gi σ 0 14 = el ∧ gj σ 0 15 = res ∧ (∀ v, v ≤ 5 → Pr σ v (prn (gj σ 3 v)) ∧ (prn (gj σ 3 v)).length ≤ 385) ∧ ∀ v, v ≤ 5 → ¬ mbit (if st = 1 then el else 0) v → gj σ 3 v = txV v
theorem SlotOk.le {σ : Sg} {s L D : Nat} (h : SlotOk σ s L D) : D ≤ L := by
  obtain ⟨d, d0, d1, d2, d3⟩ := h
  rw [← d1]; exact d2 L (Nat.le_refl L)
theorem J8.bL {σ : Sg} {cap : Nat} {L D : Nat → Nat} {st el : Int32} {res : Int64} (hc : cap ≤ 32) (J : J8 σ cap L D st el res) : B40 L ∧ B40 D := by
  refine ⟨fun s hs => ?_, fun s hs => ?_⟩
  · have := (J.2.1 s hs).2.2.1; omega
  · have a := (J.2.1 s hs).2.2.1
    have b := (J.2.1 s hs).2.2.2.le
    omega
theorem ut_v {v : Nat} (h : v ≤ 5) (σ : Sg) : c_unifierTable (Int32.ofNat v) σ = some (gj σ 3 v, σ) := by
  have ev := ti_ofNat (n := v) (by omega)
  unfold c_unifierTable
  rw [vv_ok h, Option.bind_some, if_neg (show ¬ (1 : Int32) = 0 by decide), if_pos (inbT (by omega) (show (Int32.ofNat v).toInt < ((6 : Nat) : Int) by omega)), nx_ofNat (by omega)]
theorem p_qtx {v : Nat} (h : v ≤ 5) (σ : Sg) : q_tx (Int32.ofNat v) σ = some (txV v, σ) := by
  match v, h with
  | 0, _ => rfl
  | 1, _ => rfl
  | 2, _ => rfl
  | 3, _ => rfl
  | 4, _ => rfl
  | 5, _ => rfl
theorem k140 {σ : Sg} {m : Int32} (hP : ∀ v, v ≤ 5 → Pr σ v (prn (gj σ 3 v)) ∧ (prn (gj σ 3 v)).length ≤ 385) (hm : ∀ v, v ≤ 5 → ¬ mbit m v → gj σ 3 v = txV v) (k : Nat) : ∀ (v fuel : Nat), v + k = 6 → k < fuel → q_check_140 fuel m (Int32.ofNat v) σ = some (1, σ) := by
  have e6 : (6 : Int32).toInt = 6 := rfl
  have e0 : (0 : Int32).toInt = 0 := rfl
  have e1 : (1 : Int32).toInt = 1 := rfl
  have e2 : (2 : Int32).toInt = 2 := rfl
  have e5 : (5 : Int32).toInt = 5 := rfl
  have e385 : (385 : Int32).toInt = 385 := rfl
  induction k with
  | zero =>
    intro v fuel h1 h2
    obtain ⟨f, rfl⟩ : ∃ f, fuel = f + 1 := ⟨fuel - 1, by omega⟩
    have hv : v = 6 := by omega
    subst hv
    have hu : c_unifierTable 6 σ = some (0, σ) := by
      rw [p_ut, if_neg (by decide), if_pos (by decide)]
    rw [q_check_140, if_neg (by decide), hu, Option.bind_some, if_pos ((cmp0 _ _).mpr rfl)]
  | succ k ih =>
    intro v fuel h1 h2
    obtain ⟨f, rfl⟩ : ∃ f, fuel = f + 1 := ⟨fuel - 1, by omega⟩
    have ev := ti_ofNat (n := v) (by omega)
    obtain ⟨P, hl⟩ := hP v (by omega)
    have hpos := prn_pos (gj σ 3 v)
    have el := ti_ofNat (n := (prn (gj σ 3 v)).length) (by omega)
    have hpl : c_printLength (Int32.ofNat v) σ = some (Int32.ofNat (prn (gj σ 3 v)).length, σ) := by
      rw [p_pl, if_neg (by rw [ti_lt]; omega), if_neg (by rw [ti_lt]; omega), nx_ofNat (by omega), P.1]
    rw [q_check_140, if_pos (by rw [ti_lt]; omega), hpl, Option.bind_some, if_neg (show ¬ Int32.ofNat (prn (gj σ 3 v)).length < 1 by rw [ti_lt]; omega), if_neg (show ¬ 385 < Int32.ofNat (prn (gj σ 3 v)).length by rw [ti_lt]; omega)]
    unfold q_check_220
    simp only []
    rw [ofNat_succ]
    by_cases c : (m >>> (Int32.ofNat v &&& 31)) &&& 1 = 0
    · have hid := hm v (by omega) (fun q => q c)
      have htx := prn_tx ⟨v, by omega⟩
      simp only [] at htx
      have hpc := p_pc (k := 0) (v := v) (by omega) P hl
      rw [if_neg (show ¬ (0 : Int32) < 0 by decide), hid, htx, show (([Int32.ofNat (2 + v)])[nx (0 : Int32)]?).getD (-1) = Int32.ofNat (2 + v) from rfl] at hpc
      have hcode : (2 : Int32) + Int32.ofNat v = Int32.ofNat (2 + v) := by
        refine eq_ofNat ?_
        rw [ti_add (by omega) (by omega), e2, ev]; omega
      rw [if_pos c, ut_v (by omega), Option.bind_some]
      simp only []
      rw [p_qtx (by omega), Option.bind_some, hid, if_pos ((cmp0 _ _).mpr rfl), htx, if_pos (show Int32.ofNat [Int32.ofNat (2 + v)].length = 1 from rfl)]
      simp only []
      rw [hpc, Option.bind_some, hcode, if_pos rfl]
      exact ih (v + 1) f (by omega) (by omega)
    · rw [if_neg c]
      exact ih (v + 1) f (by omega) (by omega)
theorem chk8 {σ : Sg} {cap : Nat} (hc : cap ≤ 32) {L D : Nat → Nat} {st el : Int32} {res : Int64} (J : J8 σ cap L D st el res) : q_check (pk L) (pk D) st el res σ = some (1, σ) := by
  obtain ⟨bL, bD⟩ := J.bL hc
  obtain ⟨j12, js, j13, j14, j15, jP, jm⟩ := J
  have e0 : (0 : Int32).toInt = 0 := rfl
  have e1 : (1 : Int32).toInt = 1 := rfl
  have e2 : (2 : Int32).toInt = 2 := rfl
  have e3 : (3 : Int32).toInt = 3 := rfl
  have loop : ∀ k s fuel : Nat, s + k = 3 → k < fuel → q_check_3 fuel (pk L) (pk D) st el res (Int32.ofNat s) σ = some (1, σ) := by
    intro k
    induction k with
    | zero =>
      intro s fuel h1 h2
      obtain ⟨f, rfl⟩ : ∃ f, fuel = f + 1 := ⟨fuel - 1, by omega⟩
      have hs : s = 3 := by omega
      subst hs
      have k1 : c_length 3 σ = some (-1, σ) := by rw [p_len, if_neg (by decide), if_pos (by decide)]
      have k2 : c_status σ = some (st, σ) := by unfold c_status; rw [j13]
      have k3 : c_eliminated σ = some (el, σ) := by unfold c_eliminated; rw [j14]
      have k4 : c_residue σ = some (res, σ) := by unfold c_residue; rw [j15]
      rw [q_check_3, if_neg (by decide), k1, Option.bind_some, if_pos rfl]
      simp only []
      rw [k2, Option.bind_some, if_pos rfl]
      simp only []
      rw [k3, Option.bind_some, if_pos rfl]
      simp only []
      rw [k4, Option.bind_some, if_pos ((cmp0 _ _).mpr rfl)]
      unfold q_check_135
      by_cases c : st = 1
      · rw [if_pos c]
        rw [if_pos c] at jm
        exact k140 jP jm 6 0 400 (by omega) (by omega)
      · rw [if_neg c]
        rw [if_neg c] at jm
        exact k140 jP jm 6 0 400 (by omega) (by omega)
    | succ k ih =>
      intro s fuel h1 h2
      obtain ⟨f, rfl⟩ : ∃ f, fuel = f + 1 := ⟨fuel - 1, by omega⟩
      have es := ti_ofNat (n := s) (by omega)
      obtain ⟨g2, g4, hL, hS⟩ := js s (by omega)
      have hl40 := bL s (by omega)
      have hd40 := bD s (by omega)
      have k1 : c_length (Int32.ofNat s) σ = some (Int32.ofNat (L s), σ) := by
        rw [p_len, if_neg (by rw [ti_lt]; omega), if_neg (by rw [ti_lt]; omega), nx_ofNat (by omega), g2]
      have k2 : c_depth (Int32.ofNat s) σ = some (Int32.ofNat (D s), σ) := by
        rw [p_dep, if_neg (by rw [ti_lt]; omega), if_neg (by rw [ti_lt]; omega), nx_ofNat (by omega), g4]
      rw [q_check_3, if_pos (by rw [ti_lt]; omega), pk_get bL (by omega), pk_get bD (by omega), k1, Option.bind_some, if_pos rfl]
      simp only []
      rw [k2, Option.bind_some, if_pos rfl]
      unfold q_check_78
      simp only []
      rw [ofNat_succ]
      by_cases c : Int32.ofNat (D s) = 1
      · rw [if_pos c]
        exact ih (s + 1) f (by omega) (by omega)
      · have tt := p_tt (s := s) (by omega) (σ := σ) (by rw [g2, ti_ofNat (by omega)]; omega) (by rw [g2, ti_ofNat (by omega)]; omega)
        rw [show ttV σ s = 0 by unfold ttV icV; rw [g4, if_neg c, if_pos rfl]] at tt
        rw [if_neg c, tt, Option.bind_some, if_pos ((cmp0 _ _).mpr rfl)]
        exact ih (s + 1) f (by omega) (by omega)
  exact loop 3 0 400 (by omega) (by omega)
theorem p_code {s i L : Nat} (hs : s ≤ 2) (hi : i < 32) (hL2 : L ≤ 32) {σ : Sg} (hL : gi σ 2 s = Int32.ofNat L) : c_code (Int32.ofNat s) (Int32.ofNat i) σ = some (if i < L then gi σ 1 (32 * s + i) else -1, σ) := by
  have e0 : (0 : Int32).toInt = 0 := rfl
  have ei := ti_ofNat (n := i) (by omega)
  have eL := ti_ofNat (n := L) (by omega)
  obtain ⟨h1, h2⟩ := in96 (n := 32 * s + i) (by omega)
  unfold c_code
  rw [vs_ok hs, Option.bind_some, if_neg (show ¬ (1 : Int32) = 0 by decide), if_neg (by rw [ti_lt]; omega), if_pos (in3 hs), nx_ofNat (n := s) (by omega)]
  simp only []
  rw [hL]
  by_cases a : i < L
  · rw [if_pos (show Int32.ofNat i < Int32.ofNat L by rw [ti_lt]; omega), if_pos a, p_idx hs hi, Option.bind_some, if_neg h2, if_pos h1, nx_ofNat (n := 32 * s + i) (by omega)]
  · rw [if_neg (show ¬ Int32.ofNat i < Int32.ofNat L by rw [ti_lt]; omega), if_neg a]
theorem SlotOk.codes {σ τ : Sg} {s L D : Nat} (h : SlotOk σ s L D) (e : ∀ i, i < L → gi τ 1 (32 * s + i) = gi σ 1 (32 * s + i)) : SlotOk τ s L D := by
  obtain ⟨d, d0, d1, d2, d3⟩ := h
  refine ⟨d, d0, d1, d2, fun i hi => ?_⟩
  rw [e i hi]
  exact d3 i hi
def upd (f : Nat → Nat) (s x : Nat) : Nat → Nat := fun t => if t = s then x else f t
theorem upd_s (f : Nat → Nat) (s x : Nat) : upd f s x s = x := if_pos rfl
theorem upd_o (f : Nat → Nat) (s x : Nat) {t : Nat} (h : t ≠ s) : upd f s x t = f t := if_neg h
theorem Pr.gi {σ τ : Sg} {v : Nat} {l : List Int32} (P : Pr σ v l) (h : ∀ k j, k = 11 ∨ k = 12 → gi τ k j = gi σ k j) : Pr τ v l := ⟨by rw [h 12 v (Or.inr rfl)]; exact P.1, fun i hi => by rw [h 11 _ (Or.inl rfl)]; exact P.2 i hi⟩
/-- a slot changes -/
theorem J8.slot {σ τ : Sg} {cap : Nat} {L D : Nat → Nat} {st el : Int32} {res : Int64} (J : J8 σ cap L D st el res) (hcap : cap ≤ 32) {s l d : Nat} (hs : s ≤ 2) (hi : ∀ k j, k ≠ 1 → k ≠ 2 → k ≠ 4 → k ≠ 6 → gi τ k j = gi σ k j) (hj : ∀ k j, k ≠ 5 → gj τ k j = gj σ k j) (h2 : ∀ t, gi τ 2 t = if t = s then Int32.ofNat l else gi σ 2 t) (h4 : ∀ t, gi τ 4 t = if t = s then Int32.ofNat d else gi σ 4 t) (h1 : ∀ t i, t ≤ 2 → t ≠ s → i < 32 → gi τ 1 (32 * t + i) = gi σ 1 (32 * t + i)) (hl : l ≤ cap) (hS : SlotOk τ s l d) : J8 τ cap (upd L s l) (upd D s d) st el res := by
  obtain ⟨j12, js, j13, j14, j15, jP, jm⟩ := J
  refine ⟨?_, fun t ht => ?_, ?_, ?_, ?_, fun v hv => ?_, fun v hv hm => ?_⟩
  · rw [hi 0 12 (by decide) (by decide) (by decide) (by decide)]; exact j12
  · by_cases c : t = s
    · subst c
      rw [upd_s, upd_s, h2, h4, if_pos rfl, if_pos rfl]
      exact ⟨rfl, rfl, hl, hS⟩
    · obtain ⟨a, b, e, f⟩ := js t ht
      rw [upd_o _ _ _ c, upd_o _ _ _ c, h2, h4, if_neg c, if_neg c]
      exact ⟨a, b, e, f.codes fun i hlt => h1 t i ht c (by omega)⟩
  · rw [hi 0 13 (by decide) (by decide) (by decide) (by decide)]; exact j13
  · rw [hi 0 14 (by decide) (by decide) (by decide) (by decide)]; exact j14
  · rw [hj 0 15 (by decide)]; exact j15
  · rw [hj 3 v (by decide)]
    exact ⟨(jP v hv).1.gi fun k j hk => hi k j (by omega) (by omega) (by omega) (by omega), (jP v hv).2⟩
  · rw [hj 3 v (by decide)]; exact jm v hv hm
theorem ite_ex {α : Type} {c : Prop} [Decidable c] {a b : Option (Int32 × α)} (h1 : c → ∃ s, a = some (1, s)) (h2 : ¬ c → ∃ s, b = some (1, s)) : ∃ s, (if c then a else b) = some (1, s) := by
  by_cases h : c
  · rw [if_pos h]; exact h1 h
  · rw [if_neg h]; exact h2 h
theorem and_lt (x : Int32) {m : Int32} (hm : 0 ≤ m.toInt) : ∃ n : Nat, (n : Int) ≤ m.toInt ∧ x &&& m = Int32.ofNat n := by
  have h := c_and x m hm
  have h1 := h.1
  have h2 := h.2
  exact ⟨nx (x &&& m), by unfold nx; omega, (ofNat_nx h1).symm⟩
theorem law88 {sn : Nat} {sf : Nat → Int32} (hsn : sn ≤ 260) {cap : Nat} (h8 : 8 ≤ cap) (h32 : cap ≤ 32) (fuel : Nat) : ∀ (i : Nat) (σ : Sg) (L D : Nat → Nat) (st el : Int32) (res : Int64), i ≤ sn + 2 → sn + 3 ≤ i + 3 * fuel → J8 σ cap L D st el res → ∃ σ', q_law_88 sn sf fuel sn.toInt32 (Int32.ofNat cap) (pk L) (pk D) st el res (Int32.ofNat i) σ = some (1, σ') := by
  have e0 : (0 : Int32).toInt = 0 := rfl
  have e1 : (1 : Int32).toInt = 1 := rfl
  have e2 : (2 : Int32).toInt = 2 := rfl
  have e3 : (3 : Int32).toInt = 3 := rfl
  have e7 : (7 : Int32).toInt = 7 := rfl
  have e8 : (8 : Int32).toInt = 8 := rfl
  have e9 : (9 : Int32).toInt = 9 := rfl
  have e13 : (13 : Int32).toInt = 13 := rfl
  have e15 : (15 : Int32).toInt = 15 := rfl
  have ecap := ti_ofNat (n := cap) (by omega)
  induction fuel with
  | zero => intro i σ L D st el res h1 h2; omega
  | succ fuel ih =>
    intro i σ L D st el res h1 h2 J
    obtain ⟨bL, bD⟩ := J.bL h32
    have ei := ti_ofNat (n := i) (by omega)
    have esn : (sn.toInt32 : Int32).toInt = (sn : Int) := len_toInt (by omega)
    have hadd : ∀ (c : Int32) (m : Nat), c.toInt = (m : Int) → m ≤ 10 → (Int32.ofNat i + c) = Int32.ofNat (i + m) := fun c m hc hm => by
      refine eq_ofNat ?_
      rw [ti_add (by omega) (by omega), ei, hc]; omega
    have a1 := hadd 1 1 rfl (by decide)
    have a2 := hadd 2 2 rfl (by decide)
    have a3 := hadd 3 3 rfl (by decide)
    rw [q_law_88, a1, a2]
    by_cases hend : Int32.ofNat (i + 2) < sn.toInt32
    · rw [if_pos hend]
      have hle : i + 3 ≤ sn := by
        rw [ti_lt, esn, ti_ofNat (by omega)] at hend; omega
      have hin : ∀ m, m ≤ 2 → inb (Int32.ofNat (i + m)) sn = true := fun m hm => inbT (by rw [ti_ofNat (by omega)]; omega) (by rw [ti_ofNat (by omega)]; omega)
      have hin0 : inb (Int32.ofNat i) sn = true := hin 0 (by decide)
      rw [if_pos hin0, if_pos (hin 1 (by decide)), if_pos (hin 2 (by decide))]
      have next : ∀ (σ1 : Sg) (L D : Nat → Nat) (x5 x6 st el : Int32) (res : Int64), x5 = pk L → x6 = pk D → J8 σ1 cap L D st el res → ∃ σ', q_law_632 sn sf (q_law_88 sn sf fuel) sn.toInt32 (Int32.ofNat cap) x5 x6 st el res (Int32.ofNat i) σ1 = some (1, σ') := by
        intro σ1 L D x5 x6 st el res z5 z6 J1
        subst z5 z6
        unfold q_law_632
        rw [chk8 h32 J1, Option.bind_some, if_neg (show ¬ (1 : Int32) = 0 by decide), a3]
        exact ih (i + 3) σ1 L D st el res (by omega) (by omega) J1
      have stay : ∃ σ', q_law_632 sn sf (q_law_88 sn sf fuel) sn.toInt32 (Int32.ofNat cap) (pk L) (pk D) st el res (Int32.ofNat i) σ = some (1, σ') := next σ L D _ _ st el res rfl rfl J
      generalize sf (nx (Int32.ofNat i)) &&& 7 = op
      generalize sf (nx (Int32.ofNat (i + 2))) = arg
      obtain ⟨s, hs3, hs⟩ := and_lt (sf (nx (Int32.ofNat (i + 1)))) (m := 3) (by decide)
      obtain ⟨c, hc15, hc⟩ := and_lt arg (m := 15) (by decide)
      rw [hs]
      have es := ti_ofNat (n := s) (by omega)
      have ec := ti_ofNat (n := c) (by omega)
      -- a solving
      have hsolve : ∃ σ', ((c_solve arg σ).bind fun r6 => if (pk D &&& (255 : Int32)) = (1 : Int32) then (if ((pk D >>> ((8 : Int32) &&& 31)) &&& (255 : Int32)) = (1 : Int32) then (if r6.1 = (1 : Int32) then (q_law_586 sn sf (q_law_88 sn sf fuel) sn.toInt32 (Int32.ofNat cap) (pk L) (pk D) (Int32.ofNat i) arg r6.1 r6.2) else (if r6.1 = (2 : Int32) then (q_law_586 sn sf (q_law_88 sn sf fuel) sn.toInt32 (Int32.ofNat cap) (pk L) (pk D) (Int32.ofNat i) arg r6.1 r6.2) else (some ((0 : Int32), r6.2)))) else (q_law_564 sn sf (q_law_88 sn sf fuel) sn.toInt32 (Int32.ofNat cap) (pk L) (pk D) st el res (Int32.ofNat i) r6.1 r6.2)) else (q_law_564 sn sf (q_law_88 sn sf fuel) sn.toInt32 (Int32.ofNat cap) (pk L) (pk D) st el res (Int32.ofNat i) r6.1 r6.2)) = some (1, σ') := by
        obtain ⟨j12, js, j13, j14, j15, jP, jm⟩ := id J
        rw [pk_get0 bD, pk_get1 bD]
        have hic : ∀ t, t ≤ 2 → (icV σ t = 0 ↔ ¬ Int32.ofNat (D t) = 1) := by
          intro t ht
          obtain ⟨g2, g4, gL, gS⟩ := js t ht
          have gle := gS.le
          have eD := ti_ofNat (n := D t) (by omega)
          have eLt := ti_ofNat (n := L t) (by omega)
          unfold icV
          rw [g4, g2]
          by_cases q : Int32.ofNat (D t) = 1
          · have q' := q
            rw [ti_eq] at q'
            rw [if_pos q, if_pos (show (0 : Int32) < Int32.ofNat (L t) by rw [ti_lt]; omega)]
            exact ⟨fun z => absurd z (by decide), fun z => absurd q z⟩
          · rw [if_neg q]
            exact ⟨fun _ => q, fun _ => rfl⟩
        rcases p_solve (σ := σ) arg (fun t ht => by
          obtain ⟨g2, g4, gL, gS⟩ := js t (by omega)
          rw [g2, ti_ofNat (by omega)]; omega) with ⟨q, hno⟩ | ⟨n0, n1, r, s', q, FS, r13, r14, rP, hr⟩
        · rw [q, Option.bind_some]
          have no : q_law_564 sn sf (q_law_88 sn sf fuel) sn.toInt32 (Int32.ofNat cap) (pk L) (pk D) st el res (Int32.ofNat i) (-1) σ = q_law_632 sn sf (q_law_88 sn sf fuel) sn.toInt32 (Int32.ofNat cap) (pk L) (pk D) st el res (Int32.ofNat i) σ := by
            unfold q_law_564
            rw [if_pos rfl]
          simp only []
          rw [no]
          by_cases d0 : Int32.ofNat (D 0) = 1
          · rw [if_pos d0]
            by_cases d1 : Int32.ofNat (D 1) = 1
            · rcases hno with z | z
              · exact absurd d0 ((hic 0 (by decide)).mp z)
              · exact absurd d1 ((hic 1 (by decide)).mp z)
            · rw [if_neg d1]; exact stay
          · rw [if_neg d0]; exact stay
        · have d0 : Int32.ofNat (D 0) = 1 := Classical.byContradiction fun z => n0 ((hic 0 (by decide)).mpr z)
          have d1 : Int32.ofNat (D 1) = 1 := Classical.byContradiction fun z => n1 ((hic 1 (by decide)).mpr z)
          rw [q, Option.bind_some, if_pos d0, if_pos d1]
          have kr : c_residue s' = some (gj s' 0 15, s') := rfl
          have JS : ∀ hm : (∀ v, v ≤ 5 → ¬ mbit (if r = 1 then arg &&& 63 else 0) v → gj s' 3 v = txV v), J8 s' cap L D r (arg &&& 63) (gj s' 0 15) := fun hm => by
            refine ⟨by rw [FS.1 0 12 (by omega)]; exact j12, fun t ht => ?_, r13, r14, rfl, rP, hm⟩
            obtain ⟨g2, g4, gL, gS⟩ := js t ht
            rw [FS.1 2 t (by omega), FS.1 4 t (by omega)]
            exact ⟨g2, g4, gL, gS.codes fun i _ => FS.1 1 _ (by omega)⟩
          simp only []
          rcases hr with ⟨rfl, h15, -, hid⟩ | ⟨rfl, h15, hid⟩
          · rw [if_pos rfl]
            unfold q_law_586 q_law_615 q_law_627
            rw [kr, Option.bind_some, if_pos rfl, if_pos ((cmp0 _ _).mpr h15), if_pos rfl]
            exact next s' L D _ _ 1 _ _ rfl rfl (JS (by rw [if_pos rfl]; exact hid))
          · rw [if_neg (show ¬ (2 : Int32) = 1 by decide), if_pos rfl]
            unfold q_law_586 q_law_615 q_law_627
            rw [kr, Option.bind_some, if_neg (show ¬ (2 : Int32) = 1 by decide), if_neg (fun z => h15 ((cmp0 _ _).mp z)), if_pos rfl]
            exact next s' L D _ _ 2 _ _ rfl rfl (JS (fun v hv _ => hid v hv))
      by_cases hs2 : s ≤ 2
      · -- a slot that is one
        obtain ⟨g2, g4, gL, gS⟩ := J.2.1 s hs2
        have hl40 := bL s hs2
        have hd40 := bD s hs2
        have eL := ti_ofNat (n := L s) (by omega)
        have eD := ti_ofNat (n := D s) (by omega)
        have l3 : Int32.ofNat s < 3 := by rw [ti_lt]; omega
        rw [if_pos l3, pk_get bL hs2]
        unfold q_law_149
        rw [if_pos l3, pk_get bD hs2]
        unfold q_law_170
        rw [hc]
        refine ite_ex (fun _ => ?_) (fun _ => ?_)
        · -- push
          have ref : ∀ x18 : Int32, q_law_244 sn sf (q_law_88 sn sf fuel) sn.toInt32 (Int32.ofNat cap) (pk L) (pk D) st el res (Int32.ofNat i) (Int32.ofNat s) ((8 : Int32) * Int32.ofNat s) (Int32.ofNat (L s)) x18 (-1) σ = q_law_632 sn sf (q_law_88 sn sf fuel) sn.toInt32 (Int32.ofNat cap) (pk L) (pk D) st el res (Int32.ofNat i) σ := by
            intro x18
            unfold q_law_244 q_law_245 q_law_329
            rw [if_pos rfl, if_pos rfl]
          by_cases hc13 : c ≤ 13
          · have acc : ∀ y z, okP σ s c (L s) cap → ∃ σ', q_law_240 sn sf (q_law_88 sn sf fuel) sn.toInt32 (Int32.ofNat cap) (pk L) (pk D) st el res (Int32.ofNat i) (Int32.ofNat s) ((8 : Int32) * Int32.ofNat s) (Int32.ofNat (L s)) (Int32.ofNat c) (Int32.ofNat (L s + 1)) (PS σ s (Int32.ofNat c) (L s) y z) = some (1, σ') := by
              intro y z ok
              have hdep : 0 ≤ (D s : Int) + dcI c := by
                unfold dcI
                by_cases q : c ≤ 7
                · rw [if_pos q]; omega
                · rw [if_neg q]
                  by_cases q8 : c = 8
                  · rw [if_pos q8]; omega
                  · rw [if_neg q8]
                    have := ok.2.2
                    rw [g4, ti_lt] at this
                    omega
              have hdi : dcI c ≤ 1 ∧ -1 ≤ dcI c := by
                unfold dcI
                split
                · omega
                · split <;> omega
              have gle := gS.le
              obtain ⟨d', hd'⟩ : ∃ d' : Nat, (d' : Int) = D s + dcI c := ⟨((D s : Int) + dcI c).toNat, by omega⟩
              have hnew : gi σ 4 s + dcV (Int32.ofNat c) = Int32.ofNat d' := by
                refine eq_ofNat ?_
                have := dc_ti hc13
                rw [g4, ti_add (by omega) (by omega), eD, this, hd']
              have hSl : SlotOk (PS σ s (Int32.ofNat c) (L s) y z) s (L s + 1) d' := by
                obtain ⟨d, d0, d1, d2, d3⟩ := gS
                refine ⟨fun j => if j ≤ L s then d j else d', ?_, ?_, fun j hj => ?_, fun j hj => ?_⟩
                · simp only []; rw [if_pos (Nat.zero_le _)]; exact d0
                · simp only []; rw [if_neg (by omega)]
                · simp only []
                  by_cases q : j ≤ L s
                  · rw [if_pos q]; exact d2 j q
                  · rw [if_neg q]; omega
                · simp only []
                  rw [if_pos (show j ≤ L s by omega), PS_gi1]
                  by_cases q : j < L s
                  · rw [if_pos (show j + 1 ≤ L s by omega), if_neg (by omega)]
                    exact d3 j q
                  · have : j = L s := by omega
                    subst this
                    rw [if_neg (show ¬ L s + 1 ≤ L s by omega), if_pos rfl, d1]
                    exact ⟨c, hc13, rfl, hd'⟩
              have J' := J.slot (τ := PS σ s (Int32.ofNat c) (L s) y z) h32 (s := s) (l := L s + 1) (d := d') hs2 (fun k j h1 h2 h3 h4 => PS_gi _ _ _ _ _ _ k j h1 h2 h3 h4) (fun k j h => PS_gj _ _ _ _ _ _ k j h) (fun t => PS_gi2 _ _ _ _ _ _ t) (fun t => by rw [PS_gi4, hnew]) (fun t i' ht hne hlt => by rw [PS_gi1, if_neg (by have := ok.1; omega)]) ok.1 hSl
              obtain ⟨bL', bD'⟩ := J'.bL h32
              have inc5 := pk_inc bL bL' hs2 (upd_s L s (L s + 1)) (fun t ht => upd_o L s _ ht)
              have kc := p_code (s := s) (i := L s) (L := L s + 1) hs2 (by have := ok.1; omega) (by have := ok.1; omega) (σ := PS σ s (Int32.ofNat c) (L s) y z) (by rw [PS_gi2, if_pos rfl])
              rw [if_pos (by omega), PS_gi1, if_pos rfl] at kc
              unfold q_law_240 q_law_245 q_law_329
              rw [if_neg (show ¬ (1 : Int32) = 0 by decide), ofNat_succ, if_pos rfl, kc, Option.bind_some, if_pos rfl, inc5]
              simp only []
              by_cases q7 : c ≤ 7
              · rw [if_neg (show ¬ 7 < Int32.ofNat c by rw [ti_lt]; omega)]
                unfold dcI at hd'
                rw [if_pos q7] at hd'
                rw [pk_inc bD bD' hs2 (by rw [upd_s]; omega) (fun t ht => upd_o D s _ ht)]
                exact next _ _ _ _ _ st el res rfl rfl J'
              · rw [if_pos (show 7 < Int32.ofNat c by rw [ti_lt]; omega)]
                unfold dcI at hd'
                rw [if_neg q7] at hd'
                by_cases q8 : c = 8
                · rw [if_pos q8] at hd'
                  rw [if_pos (show Int32.ofNat c < 9 by rw [ti_lt]; omega)]
                  have hD : upd D s d' = D := by
                    funext t
                    by_cases w : t = s
                    · subst w; rw [upd_s]; omega
                    · exact upd_o D s _ w
                  rw [hD] at J'
                  exact next _ _ _ _ _ st el res rfl rfl J'
                · rw [if_neg q8] at hd'
                  rw [if_neg (show ¬ Int32.ofNat c < 9 by rw [ti_lt]; omega), pk_dec bD bD' hs2 (by rw [upd_s]; omega) (fun t ht => upd_o D s _ ht)]
                  exact next _ _ _ _ _ st el res rfl rfl J'
            rcases p_push hs2 hc13 g2 J.1 (by omega) h32 with ⟨ok, y, z, q⟩ | ⟨nok, q⟩
            · rw [q, Option.bind_some, if_pos l3, if_neg (show ¬ 13 < Int32.ofNat c by rw [ti_lt]; omega), if_pos (show Int32.ofNat (L s) < Int32.ofNat cap by rw [ti_lt]; have := ok.1; omega)]
              unfold q_law_227
              simp only []
              by_cases q8 : Int32.ofNat c = 8
              · rw [if_pos q8]
                rw [ti_eq] at q8
                have hD0 : ¬ Int32.ofNat (D s) = 0 := fun z0 => ok.2.1 ⟨by omega, by rw [g4, z0]; decide⟩
                rw [if_neg hD0, if_pos (show Int32.ofNat c < 9 by rw [ti_lt]; omega)]
                exact acc y z ok
              · rw [if_neg q8]
                by_cases q9 : Int32.ofNat c < 9
                · rw [if_pos q9]; exact acc y z ok
                · rw [if_neg q9]
                  rw [ti_lt] at q9
                  have h2D : ¬ Int32.ofNat (D s) < 2 := fun z0 => ok.2.2 ⟨by omega, by rw [g4]; exact z0⟩
                  rw [if_neg h2D]
                  exact acc y z ok
            · rw [q, Option.bind_some, if_pos l3, if_neg (show ¬ 13 < Int32.ofNat c by rw [ti_lt]; omega)]
              unfold q_law_227
              simp only []
              rw [ref]
              by_cases hlc : Int32.ofNat (L s) < Int32.ofNat cap
              · rw [if_pos hlc]
                rw [ti_lt] at hlc
                by_cases q8 : Int32.ofNat c = 8
                · rw [if_pos q8]
                  rw [ti_eq] at q8
                  by_cases z0 : Int32.ofNat (D s) = 0
                  · rw [if_pos z0]; exact stay
                  · exact absurd ⟨by omega, fun w => z0 (by have := w.2; rw [g4, ti_lt] at this; rw [ti_eq]; omega), fun w => by omega⟩ nok
                · rw [if_neg q8]
                  rw [ti_eq] at q8
                  by_cases q9 : Int32.ofNat c < 9
                  · rw [ti_lt] at q9
                    exact absurd ⟨by omega, fun w => by omega, fun w => by omega⟩ nok
                  · rw [if_neg q9]
                    by_cases z0 : Int32.ofNat (D s) < 2
                    · rw [if_pos z0]; exact stay
                    · exact absurd ⟨by omega, fun w => by omega, fun w => z0 (by have := w.2; rw [g4] at this; exact this)⟩ nok
              · rw [if_neg hlc]; exact stay
          · rw [p_push_bad σ (Or.inr (Or.inr (by rw [ti_lt]; omega))), Option.bind_some, if_pos l3, if_pos (show 13 < Int32.ofNat c by rw [ti_lt]; omega)]
            simp only []
            rw [ref]; exact stay
        refine ite_ex (fun _ => ?_) (fun _ => ?_)
        · -- undo
          rw [if_pos l3]
          by_cases p0 : 0 < L s
          · have lm : Int32.ofNat (L s) - 1 = Int32.ofNat (L s - 1) := by
              refine eq_ofNat ?_
              rw [ti_sub (by omega) (by omega), e1, eL]; omega
            obtain ⟨d, d0, d1, d2, d3⟩ := gS
            obtain ⟨cc, hcc, gcc, hd⟩ := d3 (L s - 1) (by omega)
            rw [show L s - 1 + 1 = L s by omega, d1] at hd
            have ecc := ti_ofNat (n := cc) (by omega)
            have kc := p_code (s := s) (i := L s - 1) (L := L s) hs2 (by omega) (by omega) g2
            rw [if_pos (by omega), gcc] at kc
            have ku := p_undo hs2 g2 (by omega)
            rw [if_pos p0, gcc] at ku
            have hnew : gi σ 4 s - dcV (Int32.ofNat cc) = Int32.ofNat (d (L s - 1)) := by
              have hdc := dc_ti hcc
              have b2 := d2 (L s - 1) (by omega)
              refine eq_ofNat ?_
              rw [g4, ti_sub (by omega) (by omega), eD, hdc]
              omega
            rw [hnew] at ku
            have J' := J.slot (τ := si (si σ 4 s (Int32.ofNat (d (L s - 1)))) 2 s (Int32.ofNat (L s - 1))) h32 (s := s) (l := L s - 1) (d := d (L s - 1)) hs2 (fun k j h1 h2 h3 h4 => by rw [gi_si, if_neg (fun w => h2 w.1), gi_si, if_neg (fun w => h3 w.1)]) (fun k j h => rfl) (fun t => by
              rw [gi_si]
              by_cases w : t = s
              · rw [if_pos ⟨rfl, w⟩, if_pos w]
              · rw [if_neg (fun z => w z.2), if_neg w, gi_si, if_neg (by simp)]) (fun t => by
              rw [gi_si, if_neg (by simp), gi_si]
              by_cases w : t = s
              · rw [if_pos ⟨rfl, w⟩, if_pos w]
              · rw [if_neg (fun z => w z.2), if_neg w]) (fun t i' ht hne hlt => by rw [gi_si, if_neg (by simp), gi_si, if_neg (by simp)]) (by omega) ⟨d, d0, rfl, fun j hj => d2 j (by omega), fun j hj => by rw [gi_si, if_neg (by simp), gi_si, if_neg (by simp)]; exact d3 j (by omega)⟩
            obtain ⟨bL', bD'⟩ := J'.bL h32
            have kc' := p_code (s := s) (i := L s - 1) (L := L s - 1) hs2 (by omega) (by omega) (σ := si (si σ 4 s (Int32.ofNat (d (L s - 1)))) 2 s (Int32.ofNat (L s - 1))) (by rw [gi_si, if_pos ⟨rfl, rfl⟩])
            rw [if_neg (by omega)] at kc'
            rw [if_pos (show (0 : Int32) < Int32.ofNat (L s) by rw [ti_lt]; omega), lm, kc, Option.bind_some, if_neg (show ¬ Int32.ofNat cc < 0 by rw [ti_lt]; omega), if_neg (show ¬ 13 < Int32.ofNat cc by rw [ti_lt]; omega)]
            simp only []
            rw [ku, Option.bind_some, if_neg (show ¬ (1 : Int32) = 0 by decide)]
            simp only []
            rw [kc', Option.bind_some, if_pos rfl, pk_dec bL bL' hs2 (by rw [upd_s]; omega) (fun t ht => upd_o L s _ ht)]
            unfold q_law_449
            simp only []
            by_cases q7 : cc ≤ 7
            · unfold dcI at hd
              rw [if_pos q7] at hd
              rw [if_neg (show ¬ 7 < Int32.ofNat cc by rw [ti_lt]; omega), pk_dec bD bD' hs2 (by rw [upd_s]; omega) (fun t ht => upd_o D s _ ht)]
              exact next _ _ _ _ _ st el res rfl rfl J'
            · unfold dcI at hd
              rw [if_neg q7] at hd
              rw [if_pos (show 7 < Int32.ofNat cc by rw [ti_lt]; omega)]
              by_cases q8 : cc = 8
              · rw [if_pos q8] at hd
                rw [if_pos (show Int32.ofNat cc < 9 by rw [ti_lt]; omega)]
                have hD : upd D s (d (L s - 1)) = D := by
                  funext t
                  by_cases w : t = s
                  · subst w; rw [upd_s]; omega
                  · exact upd_o D s _ w
                rw [hD] at J'
                exact next _ _ _ _ _ st el res rfl rfl J'
              · rw [if_neg q8] at hd
                rw [if_neg (show ¬ Int32.ofNat cc < 9 by rw [ti_lt]; omega), pk_inc bD bD' hs2 (by rw [upd_s]; omega) (fun t ht => upd_o D s _ ht)]
                exact next _ _ _ _ _ st el res rfl rfl J'
          · have ku := p_undo hs2 g2 (by omega)
            rw [if_neg p0] at ku
            rw [if_neg (show ¬ (0 : Int32) < Int32.ofNat (L s) by rw [ti_lt]; omega)]
            unfold q_law_452
            rw [ku, Option.bind_some, if_pos rfl]
            exact stay
        refine ite_ex (fun _ => ?_) (fun _ => ?_)
        · -- clear
          have J' := J.slot (τ := si (si σ 2 s 0) 4 s 0) h32 (s := s) (l := 0) (d := 0) hs2 (fun k j h1 h2 h3 h4 => by rw [gi_si, if_neg (fun w => h3 w.1), gi_si, if_neg (fun w => h2 w.1)]) (fun k j h => rfl) (fun t => by
              rw [gi_si, if_neg (by simp), gi_si]
              by_cases w : t = s
              · rw [if_pos ⟨rfl, w⟩, if_pos w]; rfl
              · rw [if_neg (fun z => w z.2), if_neg w]) (fun t => by
              rw [gi_si]
              by_cases w : t = s
              · rw [if_pos ⟨rfl, w⟩, if_pos w]; rfl
              · rw [if_neg (fun z => w z.2), if_neg w, gi_si, if_neg (by simp)]) (fun t i' ht hne hlt => by rw [gi_si, if_neg (by simp), gi_si, if_neg (by simp)]) (by omega) ⟨fun _ => 0, rfl, rfl, fun j _ => Nat.zero_le j, fun j hj => by omega⟩
          obtain ⟨bL', bD'⟩ := J'.bL h32
          rw [p_clear hs2, Option.bind_some, if_pos l3]
          unfold q_law_492 q_law_529
          rw [if_pos rfl, if_pos l3, pk_clr bL bL' hs2 (upd_s L s 0) (fun t ht => upd_o L s _ ht), pk_clr bD bD' hs2 (upd_s D s 0) (fun t ht => upd_o D s _ ht)]
          exact next _ _ _ _ _ st el res rfl rfl J'
        · exact hsolve
      · -- no such slot
        have l3 : ¬ Int32.ofNat s < 3 := by rw [ti_lt]; omega
        have g2 : 2 < Int32.ofNat s := by rw [ti_lt]; omega
        rw [if_neg l3]
        unfold q_law_149
        rw [if_neg l3]
        unfold q_law_170
        refine ite_ex (fun _ => ?_) (fun _ => ?_)
        · rw [p_push_bad σ (Or.inl (Or.inr g2)), Option.bind_some, if_neg l3]
          unfold q_law_244 q_law_245 q_law_329
          rw [if_pos rfl, if_pos rfl]
          exact stay
        refine ite_ex (fun _ => ?_) (fun _ => ?_)
        · rw [if_neg l3]
          unfold q_law_452
          rw [p_undo_bad σ (Or.inr g2), Option.bind_some, if_pos rfl]
          exact stay
        refine ite_ex (fun _ => ?_) (fun _ => ?_)
        · rw [p_clear_bad σ (Or.inr g2), Option.bind_some, if_neg l3]
          unfold q_law_492 q_law_529
          rw [if_pos rfl, if_neg l3]
          exact stay
        · exact hsolve
    · rw [if_neg hend]; exact ⟨σ, rfl⟩
theorem law_true (sn : Nat) (hsn : sn ≤ 260) (sf : Nat → Int32) : ∃ σ, q_law sn sf = some (1, σ) := by
  have e0 : (0 : Int32).toInt = 0 := rfl
  have e8 : (8 : Int32).toInt = 8 := rfl
  have e32 : (32 : Int32).toInt = 32 := rfl
  have l39 : ∀ (x cap : Int32), clc x = cap → ∃ σ', q_law_39 sn sf sn.toInt32 x cap zs = some (1, σ') := by
    intro x cp hcp
    obtain ⟨cap, h8, h32, ec⟩ : ∃ cap, 8 ≤ cap ∧ cap ≤ 32 ∧ clc x = Int32.ofNat cap := by
      unfold clc
      by_cases a : x < 8
      · rw [if_pos a]; exact ⟨8, by decide, by decide, rfl⟩
      · rw [if_neg a]
        by_cases b : 32 < x
        · rw [if_pos b]; exact ⟨32, by decide, by decide, rfl⟩
        · rw [if_neg b]
          rw [ti_lt] at a b
          exact ⟨nx x, by unfold nx; omega, by unfold nx; omega, (ofNat_nx (by omega)).symm⟩
    obtain ⟨σ, q, f12, f13, f14, f15, f16, f2, f4, fv⟩ := p_initU x
    have J : J8 σ cap (fun _ => 0) (fun _ => 0) 0 0 0 := by
      refine ⟨by rw [f12]; exact ec, fun s hs => ⟨f2 s, f4 s, Nat.zero_le _, fun _ => 0, rfl, rfl, fun j _ => Nat.zero_le j, fun j hj => absurd hj (Nat.not_lt_zero j)⟩, f13, f14, f15, fun v hv => ?_, fun v hv _ => (fv v hv).1⟩
      obtain ⟨g1, P⟩ := fv v hv
      have htx := prn_tx ⟨v, by omega⟩
      simp only [] at htx
      rw [g1, htx]
      exact ⟨P, by simp⟩
    have k1 := chk8 h32 J
    have z : pk (fun _ => 0) = 0 := rfl
    rw [z] at k1
    unfold q_law_39
    rw [q, Option.bind_some, k1, Option.bind_some, if_neg (show ¬ (1 : Int32) = 0 by decide), ← hcp, ec]
    have := law88 (sf := sf) hsn h8 h32 400 1 σ (fun _ => 0) (fun _ => 0) 0 0 0 (by omega) (by omega) J
    rw [z] at this
    exact this
  have l15 : ∀ x : Int32, ∃ σ', q_law_15 sn sf sn.toInt32 x zs = some (1, σ') := by
    intro x
    unfold q_law_15
    by_cases a : x < 8
    · rw [if_pos a]; exact l39 x 8 (by unfold clc; rw [if_pos a])
    · rw [if_neg a]
      by_cases b : 32 < x
      · rw [if_pos b]; exact l39 x 32 (by unfold clc; rw [if_neg a, if_pos b])
      · rw [if_neg b]; exact l39 x x (by unfold clc; rw [if_neg a, if_neg b])
  have esn : (sn.toInt32 : Int32).toInt = (sn : Int) := len_toInt (by omega)
  unfold q_law
  refine ite_ex (fun h => ?_) (fun _ => l15 _)
  rw [ti_lt, esn, e0] at h
  rw [if_pos (inbT (i := 0) (by decide) (by omega))]
  exact l15 _
set_option maxRecDepth 65536 in
set_option maxHeartbeats 40000000 in
theorem comes_1 {Post : Tables → Env → Array Value → State → Outcome → State → Prop} (hpost : ∀ tb e args s v u, (limb_1_1.after args s (.returned v) u = true ∧ limb_1_2.after args s (.returned v) u = true ∧ True) → FrameEnd s (.returned v) u (Jvm.fieldLocs frame_1_writes args s ++ Jvm.arrayLocs frame_1_arrays args s ++ Jvm.staticLocs frame_1_statics s) 40 5504 → Post tb e args s (.returned v) u) :
    ArmFor flags0 classFile x code maxLocals ret World_1 tables_1 room_1 Calls_1 rest_1 Pre_1 Post := by
  intro l hfl _ _ p e ha hc hk s m args below hf hA hF happ hP
  obtain ⟨hcalls, hrest, hpre⟩ := hP
  obtain ⟨-, -, -, hnamed, -, -, -, hat⟩ := (Spec.applies_iff hf).mp happ
  obtain ⟨hg, hn⟩ := and_e (Cond.before_iff.mp (show (Jvm.Cond.and given_1 narrow_1).before args s = true from hpre))
  obtain ⟨g0, g1⟩ := and_e hg
  obtain ⟨w0, rfl⟩ : ∃ w0 : Value, args = #[w0] := by
    have hs : args.size = 1 := by simpa [Cond.value, given_1] using g0
    obtain ⟨L⟩ := args
    match L, hs with
    | [w0], _ => exact ⟨w0, rfl⟩
  have hw : WH _ s := fun d (hd : d ∈ tables_1) => atoms_spec (ws := Jvm.Cond.code x code maxLocals ret :: tables_1) hat d (List.mem_cons_of_mem _ hd)
  have hfit : Fit s := fun {y c} hc i hi => by
    obtain ⟨ha, rfl⟩ := Array.getElem?_eq_some_iff.mp hc
    have q := List.all_eq_true.mp ((Array.all_eq_true_iff_forall_mem.mp hF) _ (Array.getElem_mem ha)) i (List.mem_range.mpr hi)
    simpa [Array.getElem?_eq_getElem hi] using q
  obtain ⟨n1, n2⟩ := and_e hn
  obtain ⟨ar, e0⟩ := arr_v n1
  obtain rfl : w0 = (.ref ar) := Option.some.inj e0
  obtain ⟨cl, Ar⟩ := Arr.start e0 n1
  have hlen : cl.slots.size ≤ 260 := by
    obtain ⟨z, z', y1, y2, y3, y4⟩ := cmp_v (Or.inr (Or.inr n2))
    have y5 : z' = .int 260 := (Option.some.inj y2).symm
    subst y5
    obtain ⟨z, rfl⟩ := y4
    have y6 := gotT (show (Cond.le (Jvm.Term.length (Jvm.Term.arg (0 : Nat))) (Jvm.Term.int (260 : Int32))).value _ s none s [] = some (decide (z ≤ (260 : Int32))) by simp [Cond.value, y1, y2]) n2
    obtain ⟨hs', hs2⟩ : cl.slots.size < 2 ^ 31 ∧ z = cl.slots.size.toInt32 := by
      have ha' := Ar.fin (Vm.Alike.refl _)
      simp only [Term.eval, e0, Option.bind_eq_bind, Option.bind_some, ha'] at y1
      have e0' : (#[Value.ref ar])[0]? = some (Value.ref ar) := rfl
      simp only [e0', ha', Option.bind_some] at y1
      split at y1
      · rename_i hlt; exact ⟨hlt, by cases y1; rfl⟩
      · cases y1
    rw [hs2, Int32.le_iff_toInt_le, len_toInt hs'] at y6
    have : (260 : Int32).toInt = 260 := rfl
    omega
  obtain ⟨sf, hsf⟩ : ∃ sf : Nat → Int32, ∀ i, i < cl.slots.size → cl.slots[i]? = some (.int (sf i)) := by
    refine ⟨fun i => match cl.slots[i]? with | some (.int z) => z | _ => 0, fun i hi => ?_⟩
    have hj : ¬ ((i.toInt32 : Int32) < 0 ∨ cl.slots.size ≤ i.toInt32.toNatClampNeg) := idx_in hi (by omega)
    have ei : i.toInt32.toNatClampNeg = i := by show i.toInt32.toInt.toNat = i; rw [len_toInt (by omega)]; rfl
    obtain ⟨v, v1, v2⟩ := elem_fit hfit Ar hj
    rw [ei] at v1
    obtain ⟨z, rfl⟩ := fit_I v2 (Or.inl rfl)
    simp only [v1]
  obtain ⟨w0, hw0⟩ : ∃ w0 : Nat → Option CD, w0 = fun k => if k = 99 then some (.inr (.int, cl.slots.size, some sf)) else none := ⟨_, rfl⟩
  have hsc : w0 99 = some (.inr (.int, cl.slots.size, some sf)) := by rw [hw0]; rfl
  have hw1 : ∀ k d, w0 k = some d → k = 99 ∧ d = .inr (.int, cl.slots.size, some sf) := fun k d q => by
    rw [hw0] at q
    simp only [] at q
    split at q
    · rename_i e; cases q; exact ⟨e, rfl⟩
    · cases q
  have hRd : Rd w0 12 := fun k d q => by obtain ⟨rfl, rfl⟩ := hw1 k d q; exact ⟨rfl, by decide⟩
  obtain ⟨σ', hlaw⟩ := law_true cl.slots.size hlen sf
  have hM := am_met (l := l) (ws := tables_1) (y := x) (bytes := code) (maxL := maxLocals) (ret := ret) (rm := room_1) (as := [.ref 99]) (A := fun _ => ar) (w := w0) (σ := zs) (h := s.heap) (n0 := s.heap.size) (F := FL) (C := "BoolUnifierY") (fs := fsC) (Z := s) (t := q_law cl.slots.size sf) pnL hlaw ⟨fun k d q => (by obtain ⟨rfl, rfl⟩ := hw1 k d q; exact ⟨cl, Ar, rfl, hsf⟩), fun k k' d d' q q' _ => (by rw [(hw1 k d q).1, (hw1 k' d' q').1])⟩ (fun k d q q' => (by obtain ⟨rfl, rfl⟩ := hw1 k d q; cases q')) (fun p e s' m below meth c hc => ok_q_law hw hRd hsc (Nat.le_refl _) hc)
  obtain ⟨n, o, h1, h2, h3, _, L, rfl, ⟨hv, N⟩, hq⟩ := hM p e ha hc hk s m _ below hf ((Spec.applies_iff_loose hf).mp happ).1 ⟨rfl, State.Warmed39.refl s, rfl⟩ trivial
  cases hv
  refine ⟨n, _, h1, h2, h3, hpost _ _ _ _ _ _ ⟨Cond.after_iff.mpr rfl, Cond.after_iff.mpr (eq_i res_at (Term.int_eval (1)) rfl), trivial⟩ ⟨hq.1, hq.2.1, (hq.2.2.sift fun y hy => Or.inr (N y hy)).mono (by decide) (by decide)⟩⟩
theorem main_1_1 : Claimed_1_1 := comes_1 fun _ _ _ _ _ _ h hF => ⟨h.1, hF⟩
theorem main_1_2 : Claimed_1_2 := comes_1 fun _ _ _ _ _ _ h hF => ⟨h.2.1, hF⟩
end Jvm.Pilot.@@N@@
namespace Jvm.Pilot.@@N@@
open Jvm Jvm.ClassFile Sem Op Lib Jvm.Free Jvm.Stand Jvm.Pilot.@@N@@.Jvm.D
/-! MADE BY PROGRAM (witnessworld.py) out of the Statement's table words and the real class files: 11 classes; the members and pool entries that the words name. The judged class is class 1, her method 1. -/
namespace start1
open Jvm.ClassFile
def u (s : String) : CpInfo := .utf8 (stringToUtf16 s)
/-- a pool by its gaps: so many unusable entries, then the entry; so many at the end -/
def gap : Nat → List CpInfo → List CpInfo
  | 0, r => r
  | n + 1, r => .unusable :: gap n r
def poolList (es : List (Nat × CpInfo)) (last : Nat) : List CpInfo := es.foldr (fun e r => gap e.1 (e.2 :: r)) (gap last [])
def pool (es : List (Nat × CpInfo)) (last : Nat) : Array CpInfo := ⟨poolList es last⟩
def fileOf (pool : Array CpInfo) (this : Nat) (attrs : Array Attribute := #[]) (ms : Array MethodInfo := #[]) (fl : Nat := 33) (sup : Nat := 0) (ifs : Array Nat := #[]) (fds : Array FieldInfo := #[]) : ClassFile where
  minorVersion := 0
  majorVersion := 65
  constantPool := pool
  accessFlags := fl
  thisClass := this
  superClass := sup
  interfaces := ifs
  fields := fds
  methods := ms
  attributes := attrs
def plain (name : String) (sup : Option ClassId) : Class where
  name := name
  kind := .ordinary
  loader := none
  accessFlags := 33
  super := sup
  interfaces := #[]
  cf := none
  fields := #[]
  methods := #[]
  instanceTypes := #[]
  staticTypes := #[]
  resolved := #[]
  callSites := []
  init := .initialized
  statics := none
  mirror := none

def pool0 : Array CpInfo := pool [(5, u "<init>"), (0, u "()V"), (1, .class_ 10), (1, u "java/lang/Object")] 113

def k0c0 : Code := { maxStack := 0, maxLocals := 1, code := object_method_1_code, exceptionTable := #[], attributes := #[] }
def k0m0 : Method := { name := "<init>", desc := "()V", sig := { parameters := [], returnType := none }, accessFlags := 1, code := some k0c0 }
/-- java/lang/Object -/
def k0 : Class := { plain "java/lang/Object" none with
  accessFlags := 33
  interfaces := #[]
  cf := some (fileOf pool0 8 #[] #[{ accessFlags := 1, nameIndex := 5, descriptorIndex := 6, attributes := #[] }] 33 0 #[] #[])
  fields := #[]
  methods := #[k0m0]
  instanceTypes := #[]
  staticTypes := #[]
  resolved := Array.replicate 124 none
  statics := none }

def pool1 : Array CpInfo := pool [(2, .class_ 4), (1, u "java/lang/Object"), (0, u "<init>"), (0, u "()V"), (0, .class_ 8), (0, u "BoolUnifierY"), (0, .methodref 7 10), (0, .nameAndType 5 11), (0, u "(I)V"), (0, .methodref 13 14), (0, .class_ 15), (0, .nameAndType 16 17), (0, u "BoolUnifierYL6"), (0, u "check"), (0, u "(LBoolUnifierY;IIIIJ)Z"), (0, .methodref 7 19), (0, .nameAndType 20 21), (0, u "push"), (0, u "(II)I"), (0, .methodref 7 23), (0, .nameAndType 24 21), (0, u "code"), (0, .methodref 7 26), (0, .nameAndType 27 28), (0, u "undo"), (0, u "(I)Z"), (0, .methodref 7 30), (0, .nameAndType 31 28), (0, u "clear"), (0, .methodref 7 33), (0, .nameAndType 34 35), (0, u "solve"), (0, u "(I)I"), (0, .methodref 7 37), (0, .nameAndType 38 39), (0, u "residue"), (0, u "()J"), (0, .methodref 7 41), (0, .nameAndType 42 35), (0, u "length"), (0, .methodref 7 44), (0, .nameAndType 45 35), (0, u "depth"), (0, .methodref 7 47), (0, .nameAndType 48 49), (0, u "termTable"), (0, u "(I)J"), (0, .methodref 7 51), (0, .nameAndType 52 53), (0, u "status"), (0, u "()I"), (0, .methodref 7 55), (0, .nameAndType 56 53), (0, u "eliminated"), (0, .methodref 7 58), (0, .nameAndType 59 35), (0, u "printLength"), (0, .methodref 7 61), (0, .nameAndType 62 49), (0, u "unifierTable"), (0, .methodref 13 64), (0, .nameAndType 65 49), (0, u "tx"), (0, .methodref 7 67), (0, .nameAndType 68 21), (0, u "printCode"), (0, .long 12297829382473034410), (1, .long 14757395258967641292), (1, .long 17361641481138401520), (1, .long 18374966859414961920), (1, .long 18446462603027742720), (1, .long 18446744069414584320), (3, u "law"), (0, u "([I)Z")] 5

def k1m0 : Method := { name := "<init>", desc := "()V", sig := { parameters := [], returnType := none }, accessFlags := 1, code := none }
def k1c1 : Code := { maxStack := 7, maxLocals := 21, code := code, exceptionTable := #[], attributes := #[] }
def k1m1 : Method := { name := "law", desc := "([I)Z", sig := { parameters := [(.array .int)], returnType := some .boolean }, accessFlags := 9, code := some k1c1 }
def k1c2 : Code := { maxStack := 4, maxLocals := 10, code := method_3_code, exceptionTable := #[], attributes := #[] }
def k1m2 : Method := { name := "check", desc := "(LBoolUnifierY;IIIIJ)Z", sig := { parameters := [(.object "BoolUnifierY"), .int, .int, .int, .int, .long], returnType := some .boolean }, accessFlags := 10, code := some k1c2 }
def k1c3 : Code := { maxStack := 2, maxLocals := 1, code := method_4_code, exceptionTable := #[], attributes := #[] }
def k1m3 : Method := { name := "tx", desc := "(I)J", sig := { parameters := [.int], returnType := some .long }, accessFlags := 10, code := some k1c3 }
/-- BoolUnifierYL6 -/
def k1 : Class := { plain "BoolUnifierYL6" (some 0) with
  accessFlags := 49
  interfaces := #[]
  cf := some (fileOf pool1 13 #[] #[{ accessFlags := 1, nameIndex := 5, descriptorIndex := 6, attributes := #[] }, { accessFlags := 9, nameIndex := 83, descriptorIndex := 84, attributes := #[] }, { accessFlags := 10, nameIndex := 16, descriptorIndex := 17, attributes := #[] }, { accessFlags := 10, nameIndex := 65, descriptorIndex := 49, attributes := #[] }] 49 2 #[] #[])
  fields := #[]
  methods := #[k1m0, k1m1, k1m2, k1m3]
  instanceTypes := #[]
  staticTypes := #[]
  resolved := Array.replicate 90 none
  statics := none }

def pool2 : Array CpInfo := pool [(1, .methodref 2 3), (0, .class_ 4), (0, .nameAndType 5 6), (0, u "java/lang/Object"), (0, u "<init>"), (0, u "()V"), (0, .fieldref 8 9), (0, .class_ 10), (0, .nameAndType 11 12), (0, u "BoolUnifierY"), (0, u "codes"), (0, u "[B"), (0, .fieldref 8 14), (0, .nameAndType 15 16), (0, u "lengths"), (0, u "[I"), (0, .fieldref 8 18), (0, .nameAndType 19 20), (0, u "sigma"), (0, u "[J"), (0, .fieldref 8 22), (0, .nameAndType 23 16), (0, u "depths"), (0, .fieldref 8 25), (0, .nameAndType 26 20), (0, u "nodeValue"), (0, .fieldref 8 28), (0, .nameAndType 29 16), (0, u "nodeStart"), (0, .fieldref 8 31), (0, .nameAndType 32 16), (0, u "stepVar"), (0, .fieldref 8 34), (0, .nameAndType 35 20), (0, u "stepLow"), (0, .fieldref 8 37), (0, .nameAndType 38 20), (0, u "stepHigh"), (0, .fieldref 8 40), (0, .nameAndType 41 20), (0, u "mux"), (0, .fieldref 8 43), (0, .nameAndType 44 12), (0, u "printCodes"), (0, .fieldref 8 46), (0, .nameAndType 47 16), (0, u "printLens"), (0, .methodref 8 49), (0, .nameAndType 50 51), (0, u "clampCapacity"), (0, u "(I)I"), (0, .fieldref 8 53), (0, .nameAndType 54 55), (0, u "capacity"), (0, u "I"), (0, .methodref 8 57), (0, .nameAndType 58 6), (0, u "clearAllSlots"), (0, .methodref 8 60), (0, .nameAndType 61 6), (0, u "resetResults"), (0, .methodref 8 63), (0, .nameAndType 64 65), (0, u "validSlot"), (0, u "(I)Z"), (0, .methodref 8 67), (0, .nameAndType 68 65), (0, u "validCode"), (0, .methodref 8 70), (0, .nameAndType 71 65), (0, u "isUnary"), (0, .methodref 8 73), (0, .nameAndType 74 65), (0, u "isBinary"), (0, .methodref 8 76), (0, .nameAndType 77 78), (0, u "appendCode"), (0, u "(II)V"), (0, .methodref 8 80), (0, .nameAndType 81 82), (0, u "indexOf"), (0, u "(II)I"), (0, .methodref 8 84), (0, .nameAndType 85 51), (0, u "depthChange"), (0, .methodref 8 87), (0, .nameAndType 88 89), (0, u "emptySlot"), (0, u "(I)V"), (0, .methodref 8 91), (0, .nameAndType 92 65), (0, u "isComplete"), (0, .methodref 8 94), (0, .nameAndType 95 96), (0, u "valueAt"), (0, u "(II)J"), (0, .methodref 8 98), (0, .nameAndType 99 100), (0, u "termTable"), (0, u "(I)J"), (0, .methodref 8 102), (0, .nameAndType 103 104), (0, u "eliminate"), (0, u "(JI)J"), (0, .fieldref 8 106), (0, .nameAndType 107 55), (0, u "elim"), (0, .fieldref 8 109), (0, .nameAndType 110 111), (0, u "resid"), (0, u "J"), (0, .methodref 8 113), (0, .nameAndType 114 6), (0, u "setIdentity"), (0, .methodref 8 116), (0, .nameAndType 117 6), (0, u "backSubstitute"), (0, .fieldref 8 119), (0, .nameAndType 120 55), (0, u "state"), (0, .methodref 8 122), (0, .nameAndType 123 6), (0, u "reprintAll"), (0, .methodref 8 125), (0, .nameAndType 126 65), (0, u "validVar"), (0, .methodref 8 128), (0, .nameAndType 129 82), (0, u "printIndex"), (0, .methodref 8 131), (0, .nameAndType 132 133), (0, u "compose"), (0, u "(J)J"), (0, .fieldref 8 135), (0, .nameAndType 136 55), (0, u "stepCount"), (0, .methodref 8 138), (0, .nameAndType 139 100), (0, u "varTable"), (0, .methodref 8 141), (0, .nameAndType 142 65), (0, u "isLeaf"), (0, .long 12297829382473034410), (1, .long 14757395258967641292), (1, .long 17361641481138401520), (1, .long 18374966859414961920), (1, .long 18446462603027742720), (1, .long 18446744069414584320), (1, .long 18446744073709551615), (1, .methodref 8 158), (0, .nameAndType 159 100), (0, u "leafTable"), (0, .methodref 8 161), (0, .nameAndType 162 163), (0, u "storeNode"), (0, u "(IJI)V"), (0, .methodref 8 165), (0, .nameAndType 166 167), (0, u "appendNot"), (0, u "(III)V"), (0, .methodref 8 169), (0, .nameAndType 170 171), (0, u "appendBinary"), (0, u "(IIII)V"), (0, .methodref 8 173), (0, .nameAndType 174 82), (0, u "startAt"), (0, .methodref 8 176), (0, .nameAndType 177 178), (0, u "combine"), (0, u "(IJJ)J"), (0, .methodref 8 180), (0, .nameAndType 181 104), (0, u "cofactorLow"), (0, .methodref 8 183), (0, .nameAndType 184 104), (0, u "cofactorHigh"), (0, .methodref 8 186), (0, .nameAndType 187 188), (0, u "recordStep"), (0, u "(IJJ)V"), (0, .methodref 8 190), (0, .nameAndType 191 89), (0, u "solveStep"), (0, .methodref 8 193), (0, .nameAndType 194 195), (0, u "loadLeaves"), (0, u "(J)V"), (0, .methodref 8 197), (0, .nameAndType 198 89), (0, u "foldLevel"), (0, .methodref 8 200), (0, .nameAndType 201 89), (0, u "printOne"), (0, .methodref 8 203), (0, .nameAndType 204 133), (0, u "anf"), (0, .methodref 8 206), (0, .nameAndType 207 78), (0, u "emit"), (0, .methodref 8 209), (0, .nameAndType 210 211), (0, u "emitPolynomial"), (0, u "(IJ)V"), (0, .methodref 8 213), (0, .nameAndType 214 78), (0, u "emitMonomial"), (0, u "ZERO"), (2, u "ONE"), (1, u "VAR0"), (1, u "VAR1"), (1, u "VAR2"), (1, u "VAR3"), (1, u "VAR4"), (1, u "VAR5"), (1, u "NOT"), (1, u "AND"), (1, u "OR"), (1, u "XOR"), (1, u "IFF"), (1, u "IMP"), (1, u "REFUSED"), (1, u "NONE"), (0, u "SOLVED"), (0, u "UNSOLVABLE"), (0, u "MIN_CAPACITY"), (0, u "MAX_CAPACITY"), (1, u "TABLE_X0"), (0, u "TABLE_X1"), (0, u "TABLE_X2"), (0, u "TABLE_X3"), (0, u "TABLE_X4"), (0, u "TABLE_X5"), (2, u "push"), (1, u "undo"), (0, u "clear"), (0, u "length"), (0, u "code"), (0, u "depth"), (0, u "solve"), (0, u "status"), (0, u "()I"), (0, u "eliminated"), (0, u "residue"), (0, u "()J"), (0, u "unifierTable"), (0, u "printLength"), (0, u "printCode")] 4

def k2c0 : Code := { maxStack := 3, maxLocals := 2, code := prog_1_method_1_code, exceptionTable := #[], attributes := #[] }
def k2m0 : Method := { name := "<init>", desc := "(I)V", sig := { parameters := [.int], returnType := none }, accessFlags := 1, code := some k2c0 }
def k2c1 : Code := { maxStack := 3, maxLocals := 3, code := prog_1_method_2_code, exceptionTable := #[], attributes := #[] }
def k2m1 : Method := { name := "push", desc := "(II)I", sig := { parameters := [.int, .int], returnType := some .int }, accessFlags := 1, code := some k2c1 }
def k2c2 : Code := { maxStack := 5, maxLocals := 5, code := prog_1_method_3_code, exceptionTable := #[], attributes := #[] }
def k2m2 : Method := { name := "undo", desc := "(I)Z", sig := { parameters := [.int], returnType := some .boolean }, accessFlags := 1, code := some k2c2 }
def k2c3 : Code := { maxStack := 2, maxLocals := 2, code := prog_1_method_4_code, exceptionTable := #[], attributes := #[] }
def k2m3 : Method := { name := "clear", desc := "(I)Z", sig := { parameters := [.int], returnType := some .boolean }, accessFlags := 1, code := some k2c3 }
def k2c4 : Code := { maxStack := 2, maxLocals := 2, code := prog_1_method_5_code, exceptionTable := #[], attributes := #[] }
def k2m4 : Method := { name := "length", desc := "(I)I", sig := { parameters := [.int], returnType := some .int }, accessFlags := 1, code := some k2c4 }
def k2c5 : Code := { maxStack := 3, maxLocals := 4, code := prog_1_method_6_code, exceptionTable := #[], attributes := #[] }
def k2m5 : Method := { name := "code", desc := "(II)I", sig := { parameters := [.int, .int], returnType := some .int }, accessFlags := 1, code := some k2c5 }
def k2c6 : Code := { maxStack := 2, maxLocals := 2, code := prog_1_method_7_code, exceptionTable := #[], attributes := #[] }
def k2m6 : Method := { name := "depth", desc := "(I)I", sig := { parameters := [.int], returnType := some .int }, accessFlags := 1, code := some k2c6 }
def k2c7 : Code := { maxStack := 3, maxLocals := 3, code := prog_1_method_8_code, exceptionTable := #[], attributes := #[] }
def k2m7 : Method := { name := "termTable", desc := "(I)J", sig := { parameters := [.int], returnType := some .long }, accessFlags := 1, code := some k2c7 }
def k2c8 : Code := { maxStack := 4, maxLocals := 11, code := prog_1_method_9_code, exceptionTable := #[], attributes := #[] }
def k2m8 : Method := { name := "solve", desc := "(I)I", sig := { parameters := [.int], returnType := some .int }, accessFlags := 1, code := some k2c8 }
def k2c9 : Code := { maxStack := 1, maxLocals := 1, code := prog_1_method_10_code, exceptionTable := #[], attributes := #[] }
def k2m9 : Method := { name := "status", desc := "()I", sig := { parameters := [], returnType := some .int }, accessFlags := 1, code := some k2c9 }
def k2c10 : Code := { maxStack := 1, maxLocals := 1, code := prog_1_method_11_code, exceptionTable := #[], attributes := #[] }
def k2m10 : Method := { name := "eliminated", desc := "()I", sig := { parameters := [], returnType := some .int }, accessFlags := 1, code := some k2c10 }
def k2c11 : Code := { maxStack := 2, maxLocals := 1, code := prog_1_method_12_code, exceptionTable := #[], attributes := #[] }
def k2m11 : Method := { name := "residue", desc := "()J", sig := { parameters := [], returnType := some .long }, accessFlags := 1, code := some k2c11 }
def k2c12 : Code := { maxStack := 2, maxLocals := 2, code := prog_1_method_13_code, exceptionTable := #[], attributes := #[] }
def k2m12 : Method := { name := "unifierTable", desc := "(I)J", sig := { parameters := [.int], returnType := some .long }, accessFlags := 1, code := some k2c12 }
def k2c13 : Code := { maxStack := 2, maxLocals := 2, code := prog_1_method_14_code, exceptionTable := #[], attributes := #[] }
def k2m13 : Method := { name := "printLength", desc := "(I)I", sig := { parameters := [.int], returnType := some .int }, accessFlags := 1, code := some k2c13 }
def k2c14 : Code := { maxStack := 3, maxLocals := 4, code := prog_1_method_15_code, exceptionTable := #[], attributes := #[] }
def k2m14 : Method := { name := "printCode", desc := "(II)I", sig := { parameters := [.int, .int], returnType := some .int }, accessFlags := 1, code := some k2c14 }
def k2c15 : Code := { maxStack := 2, maxLocals := 2, code := prog_1_method_18_code, exceptionTable := #[], attributes := #[] }
def k2m15 : Method := { name := "clampCapacity", desc := "(I)I", sig := { parameters := [.int], returnType := some .int }, accessFlags := 2, code := some k2c15 }
def k2c16 : Code := { maxStack := 2, maxLocals := 2, code := prog_1_method_19_code, exceptionTable := #[], attributes := #[] }
def k2m16 : Method := { name := "clearAllSlots", desc := "()V", sig := { parameters := [], returnType := none }, accessFlags := 2, code := some k2c16 }
def k2c17 : Code := { maxStack := 3, maxLocals := 2, code := prog_1_method_20_code, exceptionTable := #[], attributes := #[] }
def k2m17 : Method := { name := "emptySlot", desc := "(I)V", sig := { parameters := [.int], returnType := none }, accessFlags := 2, code := some k2c17 }
def k2c18 : Code := { maxStack := 3, maxLocals := 1, code := prog_1_method_21_code, exceptionTable := #[], attributes := #[] }
def k2m18 : Method := { name := "resetResults", desc := "()V", sig := { parameters := [], returnType := none }, accessFlags := 2, code := some k2c18 }
def k2c19 : Code := { maxStack := 4, maxLocals := 2, code := prog_1_method_22_code, exceptionTable := #[], attributes := #[] }
def k2m19 : Method := { name := "setIdentity", desc := "()V", sig := { parameters := [], returnType := none }, accessFlags := 2, code := some k2c19 }
def k2c20 : Code := { maxStack := 2, maxLocals := 2, code := prog_1_method_23_code, exceptionTable := #[], attributes := #[] }
def k2m20 : Method := { name := "validSlot", desc := "(I)Z", sig := { parameters := [.int], returnType := some .boolean }, accessFlags := 2, code := some k2c20 }
def k2c21 : Code := { maxStack := 2, maxLocals := 2, code := prog_1_method_24_code, exceptionTable := #[], attributes := #[] }
def k2m21 : Method := { name := "validVar", desc := "(I)Z", sig := { parameters := [.int], returnType := some .boolean }, accessFlags := 2, code := some k2c21 }
def k2c22 : Code := { maxStack := 2, maxLocals := 2, code := prog_1_method_25_code, exceptionTable := #[], attributes := #[] }
def k2m22 : Method := { name := "validCode", desc := "(I)Z", sig := { parameters := [.int], returnType := some .boolean }, accessFlags := 2, code := some k2c22 }
def k2c23 : Code := { maxStack := 2, maxLocals := 2, code := prog_1_method_26_code, exceptionTable := #[], attributes := #[] }
def k2m23 : Method := { name := "isLeaf", desc := "(I)Z", sig := { parameters := [.int], returnType := some .boolean }, accessFlags := 2, code := some k2c23 }
def k2c24 : Code := { maxStack := 2, maxLocals := 2, code := prog_1_method_27_code, exceptionTable := #[], attributes := #[] }
def k2m24 : Method := { name := "isUnary", desc := "(I)Z", sig := { parameters := [.int], returnType := some .boolean }, accessFlags := 2, code := some k2c24 }
def k2c25 : Code := { maxStack := 2, maxLocals := 2, code := prog_1_method_28_code, exceptionTable := #[], attributes := #[] }
def k2m25 : Method := { name := "isBinary", desc := "(I)Z", sig := { parameters := [.int], returnType := some .boolean }, accessFlags := 2, code := some k2c25 }
def k2c26 : Code := { maxStack := 2, maxLocals := 2, code := prog_1_method_29_code, exceptionTable := #[], attributes := #[] }
def k2m26 : Method := { name := "depthChange", desc := "(I)I", sig := { parameters := [.int], returnType := some .int }, accessFlags := 2, code := some k2c26 }
def k2c27 : Code := { maxStack := 2, maxLocals := 2, code := prog_1_method_30_code, exceptionTable := #[], attributes := #[] }
def k2m27 : Method := { name := "isComplete", desc := "(I)Z", sig := { parameters := [.int], returnType := some .boolean }, accessFlags := 2, code := some k2c27 }
def k2c28 : Code := { maxStack := 2, maxLocals := 2, code := prog_1_method_31_code, exceptionTable := #[], attributes := #[] }
def k2m28 : Method := { name := "varTable", desc := "(I)J", sig := { parameters := [.int], returnType := some .long }, accessFlags := 2, code := some k2c28 }
def k2c29 : Code := { maxStack := 2, maxLocals := 3, code := prog_1_method_32_code, exceptionTable := #[], attributes := #[] }
def k2m29 : Method := { name := "leafTable", desc := "(I)J", sig := { parameters := [.int], returnType := some .long }, accessFlags := 2, code := some k2c29 }
def k2c30 : Code := { maxStack := 4, maxLocals := 6, code := prog_1_method_33_code, exceptionTable := #[], attributes := #[] }
def k2m30 : Method := { name := "combine", desc := "(IJJ)J", sig := { parameters := [.int, .long, .long], returnType := some .long }, accessFlags := 2, code := some k2c30 }
def k2c31 : Code := { maxStack := 6, maxLocals := 9, code := prog_1_method_34_code, exceptionTable := #[], attributes := #[] }
def k2m31 : Method := { name := "cofactorLow", desc := "(JI)J", sig := { parameters := [.long, .int], returnType := some .long }, accessFlags := 2, code := some k2c31 }
def k2c32 : Code := { maxStack := 5, maxLocals := 9, code := prog_1_method_35_code, exceptionTable := #[], attributes := #[] }
def k2m32 : Method := { name := "cofactorHigh", desc := "(JI)J", sig := { parameters := [.long, .int], returnType := some .long }, accessFlags := 2, code := some k2c32 }
def k2c33 : Code := { maxStack := 2, maxLocals := 3, code := prog_1_method_36_code, exceptionTable := #[], attributes := #[] }
def k2m33 : Method := { name := "indexOf", desc := "(II)I", sig := { parameters := [.int, .int], returnType := some .int }, accessFlags := 2, code := some k2c33 }
def k2c34 : Code := { maxStack := 3, maxLocals := 4, code := prog_1_method_37_code, exceptionTable := #[], attributes := #[] }
def k2m34 : Method := { name := "valueAt", desc := "(II)J", sig := { parameters := [.int, .int], returnType := some .long }, accessFlags := 2, code := some k2c34 }
def k2c35 : Code := { maxStack := 3, maxLocals := 4, code := prog_1_method_38_code, exceptionTable := #[], attributes := #[] }
def k2m35 : Method := { name := "startAt", desc := "(II)I", sig := { parameters := [.int, .int], returnType := some .int }, accessFlags := 2, code := some k2c35 }
def k2c36 : Code := { maxStack := 4, maxLocals := 5, code := prog_1_method_39_code, exceptionTable := #[], attributes := #[] }
def k2m36 : Method := { name := "storeNode", desc := "(IJI)V", sig := { parameters := [.int, .long, .int], returnType := none }, accessFlags := 2, code := some k2c36 }
def k2c37 : Code := { maxStack := 5, maxLocals := 7, code := prog_1_method_40_code, exceptionTable := #[], attributes := #[] }
def k2m37 : Method := { name := "appendCode", desc := "(II)V", sig := { parameters := [.int, .int], returnType := none }, accessFlags := 2, code := some k2c37 }
def k2c38 : Code := { maxStack := 6, maxLocals := 7, code := prog_1_method_41_code, exceptionTable := #[], attributes := #[] }
def k2m38 : Method := { name := "appendNot", desc := "(III)V", sig := { parameters := [.int, .int, .int], returnType := none }, accessFlags := 2, code := some k2c38 }
def k2c39 : Code := { maxStack := 6, maxLocals := 15, code := prog_1_method_42_code, exceptionTable := #[], attributes := #[] }
def k2m39 : Method := { name := "appendBinary", desc := "(IIII)V", sig := { parameters := [.int, .int, .int, .int], returnType := none }, accessFlags := 2, code := some k2c39 }
def k2c40 : Code := { maxStack := 6, maxLocals := 11, code := prog_1_method_43_code, exceptionTable := #[], attributes := #[] }
def k2m40 : Method := { name := "eliminate", desc := "(JI)J", sig := { parameters := [.long, .int], returnType := some .long }, accessFlags := 2, code := some k2c40 }
def k2c41 : Code := { maxStack := 4, maxLocals := 7, code := prog_1_method_44_code, exceptionTable := #[], attributes := #[] }
def k2m41 : Method := { name := "recordStep", desc := "(IJJ)V", sig := { parameters := [.int, .long, .long], returnType := none }, accessFlags := 2, code := some k2c41 }
def k2c42 : Code := { maxStack := 2, maxLocals := 2, code := prog_1_method_45_code, exceptionTable := #[], attributes := #[] }
def k2m42 : Method := { name := "backSubstitute", desc := "()V", sig := { parameters := [], returnType := none }, accessFlags := 2, code := some k2c42 }
def k2c43 : Code := { maxStack := 8, maxLocals := 13, code := prog_1_method_46_code, exceptionTable := #[], attributes := #[] }
def k2m43 : Method := { name := "solveStep", desc := "(I)V", sig := { parameters := [.int], returnType := none }, accessFlags := 2, code := some k2c43 }
def k2c44 : Code := { maxStack := 3, maxLocals := 4, code := prog_1_method_47_code, exceptionTable := #[], attributes := #[] }
def k2m44 : Method := { name := "compose", desc := "(J)J", sig := { parameters := [.long], returnType := some .long }, accessFlags := 2, code := some k2c44 }
def k2c45 : Code := { maxStack := 4, maxLocals := 6, code := prog_1_method_48_code, exceptionTable := #[], attributes := #[] }
def k2m45 : Method := { name := "loadLeaves", desc := "(J)V", sig := { parameters := [.long], returnType := none }, accessFlags := 2, code := some k2c45 }
def k2c46 : Code := { maxStack := 8, maxLocals := 10, code := prog_1_method_49_code, exceptionTable := #[], attributes := #[] }
def k2m46 : Method := { name := "foldLevel", desc := "(I)V", sig := { parameters := [.int], returnType := none }, accessFlags := 2, code := some k2c46 }
def k2c47 : Code := { maxStack := 8, maxLocals := 9, code := prog_1_method_50_code, exceptionTable := #[], attributes := #[] }
def k2m47 : Method := { name := "anf", desc := "(J)J", sig := { parameters := [.long], returnType := some .long }, accessFlags := 2, code := some k2c47 }
def k2c48 : Code := { maxStack := 2, maxLocals := 2, code := prog_1_method_51_code, exceptionTable := #[], attributes := #[] }
def k2m48 : Method := { name := "reprintAll", desc := "()V", sig := { parameters := [], returnType := none }, accessFlags := 2, code := some k2c48 }
def k2c49 : Code := { maxStack := 4, maxLocals := 4, code := prog_1_method_52_code, exceptionTable := #[], attributes := #[] }
def k2m49 : Method := { name := "printOne", desc := "(I)V", sig := { parameters := [.int], returnType := none }, accessFlags := 2, code := some k2c49 }
def k2c50 : Code := { maxStack := 4, maxLocals := 6, code := prog_1_method_53_code, exceptionTable := #[], attributes := #[] }
def k2m50 : Method := { name := "emitPolynomial", desc := "(IJ)V", sig := { parameters := [.int, .long], returnType := none }, accessFlags := 2, code := some k2c50 }
def k2c51 : Code := { maxStack := 4, maxLocals := 5, code := prog_1_method_54_code, exceptionTable := #[], attributes := #[] }
def k2m51 : Method := { name := "emitMonomial", desc := "(II)V", sig := { parameters := [.int, .int], returnType := none }, accessFlags := 2, code := some k2c51 }
def k2c52 : Code := { maxStack := 2, maxLocals := 3, code := prog_1_method_55_code, exceptionTable := #[], attributes := #[] }
def k2m52 : Method := { name := "printIndex", desc := "(II)I", sig := { parameters := [.int, .int], returnType := some .int }, accessFlags := 2, code := some k2c52 }
def k2c53 : Code := { maxStack := 4, maxLocals := 5, code := prog_1_method_56_code, exceptionTable := #[], attributes := #[] }
def k2m53 : Method := { name := "emit", desc := "(II)V", sig := { parameters := [.int, .int], returnType := none }, accessFlags := 2, code := some k2c53 }
/-- BoolUnifierY -/
def k2 : Class := { plain "BoolUnifierY" (some 0) with
  accessFlags := 49
  interfaces := #[]
  cf := some (fileOf pool2 8 #[] #[{ accessFlags := 1, nameIndex := 5, descriptorIndex := 89, attributes := #[] }, { accessFlags := 1, nameIndex := 260, descriptorIndex := 82, attributes := #[] }, { accessFlags := 1, nameIndex := 262, descriptorIndex := 65, attributes := #[] }, { accessFlags := 1, nameIndex := 263, descriptorIndex := 65, attributes := #[] }, { accessFlags := 1, nameIndex := 264, descriptorIndex := 51, attributes := #[] }, { accessFlags := 1, nameIndex := 265, descriptorIndex := 82, attributes := #[] }, { accessFlags := 1, nameIndex := 266, descriptorIndex := 51, attributes := #[] }, { accessFlags := 1, nameIndex := 99, descriptorIndex := 100, attributes := #[] }, { accessFlags := 1, nameIndex := 267, descriptorIndex := 51, attributes := #[] }, { accessFlags := 1, nameIndex := 268, descriptorIndex := 269, attributes := #[] }, { accessFlags := 1, nameIndex := 270, descriptorIndex := 269, attributes := #[] }, { accessFlags := 1, nameIndex := 271, descriptorIndex := 272, attributes := #[] }, { accessFlags := 1, nameIndex := 273, descriptorIndex := 100, attributes := #[] }, { accessFlags := 1, nameIndex := 274, descriptorIndex := 51, attributes := #[] }, { accessFlags := 1, nameIndex := 275, descriptorIndex := 82, attributes := #[] }, { accessFlags := 2, nameIndex := 50, descriptorIndex := 51, attributes := #[] }, { accessFlags := 2, nameIndex := 58, descriptorIndex := 6, attributes := #[] }, { accessFlags := 2, nameIndex := 88, descriptorIndex := 89, attributes := #[] }, { accessFlags := 2, nameIndex := 61, descriptorIndex := 6, attributes := #[] }, { accessFlags := 2, nameIndex := 114, descriptorIndex := 6, attributes := #[] }, { accessFlags := 2, nameIndex := 64, descriptorIndex := 65, attributes := #[] }, { accessFlags := 2, nameIndex := 126, descriptorIndex := 65, attributes := #[] }, { accessFlags := 2, nameIndex := 68, descriptorIndex := 65, attributes := #[] }, { accessFlags := 2, nameIndex := 142, descriptorIndex := 65, attributes := #[] }, { accessFlags := 2, nameIndex := 71, descriptorIndex := 65, attributes := #[] }, { accessFlags := 2, nameIndex := 74, descriptorIndex := 65, attributes := #[] }, { accessFlags := 2, nameIndex := 85, descriptorIndex := 51, attributes := #[] }, { accessFlags := 2, nameIndex := 92, descriptorIndex := 65, attributes := #[] }, { accessFlags := 2, nameIndex := 139, descriptorIndex := 100, attributes := #[] }, { accessFlags := 2, nameIndex := 159, descriptorIndex := 100, attributes := #[] }, { accessFlags := 2, nameIndex := 177, descriptorIndex := 178, attributes := #[] }, { accessFlags := 2, nameIndex := 181, descriptorIndex := 104, attributes := #[] }, { accessFlags := 2, nameIndex := 184, descriptorIndex := 104, attributes := #[] }, { accessFlags := 2, nameIndex := 81, descriptorIndex := 82, attributes := #[] }, { accessFlags := 2, nameIndex := 95, descriptorIndex := 96, attributes := #[] }, { accessFlags := 2, nameIndex := 174, descriptorIndex := 82, attributes := #[] }, { accessFlags := 2, nameIndex := 162, descriptorIndex := 163, attributes := #[] }, { accessFlags := 2, nameIndex := 77, descriptorIndex := 78, attributes := #[] }, { accessFlags := 2, nameIndex := 166, descriptorIndex := 167, attributes := #[] }, { accessFlags := 2, nameIndex := 170, descriptorIndex := 171, attributes := #[] }, { accessFlags := 2, nameIndex := 103, descriptorIndex := 104, attributes := #[] }, { accessFlags := 2, nameIndex := 187, descriptorIndex := 188, attributes := #[] }, { accessFlags := 2, nameIndex := 117, descriptorIndex := 6, attributes := #[] }, { accessFlags := 2, nameIndex := 191, descriptorIndex := 89, attributes := #[] }, { accessFlags := 2, nameIndex := 132, descriptorIndex := 133, attributes := #[] }, { accessFlags := 2, nameIndex := 194, descriptorIndex := 195, attributes := #[] }, { accessFlags := 2, nameIndex := 198, descriptorIndex := 89, attributes := #[] }, { accessFlags := 2, nameIndex := 204, descriptorIndex := 133, attributes := #[] }, { accessFlags := 2, nameIndex := 123, descriptorIndex := 6, attributes := #[] }, { accessFlags := 2, nameIndex := 201, descriptorIndex := 89, attributes := #[] }, { accessFlags := 2, nameIndex := 210, descriptorIndex := 211, attributes := #[] }, { accessFlags := 2, nameIndex := 214, descriptorIndex := 78, attributes := #[] }, { accessFlags := 2, nameIndex := 129, descriptorIndex := 82, attributes := #[] }, { accessFlags := 2, nameIndex := 207, descriptorIndex := 78, attributes := #[] }] 49 2 #[] #[{ accessFlags := 25, nameIndex := 215, descriptorIndex := 55, attributes := #[] }, { accessFlags := 25, nameIndex := 218, descriptorIndex := 55, attributes := #[] }, { accessFlags := 25, nameIndex := 220, descriptorIndex := 55, attributes := #[] }, { accessFlags := 25, nameIndex := 222, descriptorIndex := 55, attributes := #[] }, { accessFlags := 25, nameIndex := 224, descriptorIndex := 55, attributes := #[] }, { accessFlags := 25, nameIndex := 226, descriptorIndex := 55, attributes := #[] }, { accessFlags := 25, nameIndex := 228, descriptorIndex := 55, attributes := #[] }, { accessFlags := 25, nameIndex := 230, descriptorIndex := 55, attributes := #[] }, { accessFlags := 25, nameIndex := 232, descriptorIndex := 55, attributes := #[] }, { accessFlags := 25, nameIndex := 234, descriptorIndex := 55, attributes := #[] }, { accessFlags := 25, nameIndex := 236, descriptorIndex := 55, attributes := #[] }, { accessFlags := 25, nameIndex := 238, descriptorIndex := 55, attributes := #[] }, { accessFlags := 25, nameIndex := 240, descriptorIndex := 55, attributes := #[] }, { accessFlags := 25, nameIndex := 242, descriptorIndex := 55, attributes := #[] }, { accessFlags := 25, nameIndex := 244, descriptorIndex := 55, attributes := #[] }, { accessFlags := 25, nameIndex := 246, descriptorIndex := 55, attributes := #[] }, { accessFlags := 25, nameIndex := 247, descriptorIndex := 55, attributes := #[] }, { accessFlags := 25, nameIndex := 248, descriptorIndex := 55, attributes := #[] }, { accessFlags := 25, nameIndex := 249, descriptorIndex := 55, attributes := #[] }, { accessFlags := 25, nameIndex := 250, descriptorIndex := 55, attributes := #[] }, { accessFlags := 25, nameIndex := 252, descriptorIndex := 111, attributes := #[] }, { accessFlags := 25, nameIndex := 253, descriptorIndex := 111, attributes := #[] }, { accessFlags := 25, nameIndex := 254, descriptorIndex := 111, attributes := #[] }, { accessFlags := 25, nameIndex := 255, descriptorIndex := 111, attributes := #[] }, { accessFlags := 25, nameIndex := 256, descriptorIndex := 111, attributes := #[] }, { accessFlags := 25, nameIndex := 257, descriptorIndex := 111, attributes := #[] }, { accessFlags := 2, nameIndex := 54, descriptorIndex := 55, attributes := #[] }, { accessFlags := 2, nameIndex := 11, descriptorIndex := 12, attributes := #[] }, { accessFlags := 2, nameIndex := 15, descriptorIndex := 16, attributes := #[] }, { accessFlags := 2, nameIndex := 19, descriptorIndex := 20, attributes := #[] }, { accessFlags := 2, nameIndex := 120, descriptorIndex := 55, attributes := #[] }, { accessFlags := 2, nameIndex := 107, descriptorIndex := 55, attributes := #[] }, { accessFlags := 2, nameIndex := 110, descriptorIndex := 111, attributes := #[] }, { accessFlags := 2, nameIndex := 23, descriptorIndex := 16, attributes := #[] }, { accessFlags := 2, nameIndex := 26, descriptorIndex := 20, attributes := #[] }, { accessFlags := 2, nameIndex := 29, descriptorIndex := 16, attributes := #[] }, { accessFlags := 2, nameIndex := 32, descriptorIndex := 16, attributes := #[] }, { accessFlags := 2, nameIndex := 35, descriptorIndex := 20, attributes := #[] }, { accessFlags := 2, nameIndex := 38, descriptorIndex := 20, attributes := #[] }, { accessFlags := 2, nameIndex := 136, descriptorIndex := 55, attributes := #[] }, { accessFlags := 2, nameIndex := 41, descriptorIndex := 20, attributes := #[] }, { accessFlags := 2, nameIndex := 44, descriptorIndex := 12, attributes := #[] }, { accessFlags := 2, nameIndex := 47, descriptorIndex := 16, attributes := #[] }])
  fields := #[{ name := "ZERO", type := .int, accessFlags := 25, slot := 0, constantValue := 0 }, { name := "ONE", type := .int, accessFlags := 25, slot := 1, constantValue := 0 }, { name := "VAR0", type := .int, accessFlags := 25, slot := 2, constantValue := 0 }, { name := "VAR1", type := .int, accessFlags := 25, slot := 3, constantValue := 0 }, { name := "VAR2", type := .int, accessFlags := 25, slot := 4, constantValue := 0 }, { name := "VAR3", type := .int, accessFlags := 25, slot := 5, constantValue := 0 }, { name := "VAR4", type := .int, accessFlags := 25, slot := 6, constantValue := 0 }, { name := "VAR5", type := .int, accessFlags := 25, slot := 7, constantValue := 0 }, { name := "NOT", type := .int, accessFlags := 25, slot := 8, constantValue := 0 }, { name := "AND", type := .int, accessFlags := 25, slot := 9, constantValue := 0 }, { name := "OR", type := .int, accessFlags := 25, slot := 10, constantValue := 0 }, { name := "XOR", type := .int, accessFlags := 25, slot := 11, constantValue := 0 }, { name := "IFF", type := .int, accessFlags := 25, slot := 12, constantValue := 0 }, { name := "IMP", type := .int, accessFlags := 25, slot := 13, constantValue := 0 }, { name := "REFUSED", type := .int, accessFlags := 25, slot := 14, constantValue := 0 }, { name := "NONE", type := .int, accessFlags := 25, slot := 15, constantValue := 0 }, { name := "SOLVED", type := .int, accessFlags := 25, slot := 16, constantValue := 0 }, { name := "UNSOLVABLE", type := .int, accessFlags := 25, slot := 17, constantValue := 0 }, { name := "MIN_CAPACITY", type := .int, accessFlags := 25, slot := 18, constantValue := 0 }, { name := "MAX_CAPACITY", type := .int, accessFlags := 25, slot := 19, constantValue := 0 }, { name := "TABLE_X0", type := .long, accessFlags := 25, slot := 20, constantValue := 0 }, { name := "TABLE_X1", type := .long, accessFlags := 25, slot := 21, constantValue := 0 }, { name := "TABLE_X2", type := .long, accessFlags := 25, slot := 22, constantValue := 0 }, { name := "TABLE_X3", type := .long, accessFlags := 25, slot := 23, constantValue := 0 }, { name := "TABLE_X4", type := .long, accessFlags := 25, slot := 24, constantValue := 0 }, { name := "TABLE_X5", type := .long, accessFlags := 25, slot := 25, constantValue := 0 }, { name := "capacity", type := .int, accessFlags := 2, slot := 0, constantValue := 0 }, { name := "codes", type := (.array .byte), accessFlags := 2, slot := 1, constantValue := 0 }, { name := "lengths", type := (.array .int), accessFlags := 2, slot := 2, constantValue := 0 }, { name := "sigma", type := (.array .long), accessFlags := 2, slot := 3, constantValue := 0 }, { name := "state", type := .int, accessFlags := 2, slot := 4, constantValue := 0 }, { name := "elim", type := .int, accessFlags := 2, slot := 5, constantValue := 0 }, { name := "resid", type := .long, accessFlags := 2, slot := 6, constantValue := 0 }, { name := "depths", type := (.array .int), accessFlags := 2, slot := 7, constantValue := 0 }, { name := "nodeValue", type := (.array .long), accessFlags := 2, slot := 8, constantValue := 0 }, { name := "nodeStart", type := (.array .int), accessFlags := 2, slot := 9, constantValue := 0 }, { name := "stepVar", type := (.array .int), accessFlags := 2, slot := 10, constantValue := 0 }, { name := "stepLow", type := (.array .long), accessFlags := 2, slot := 11, constantValue := 0 }, { name := "stepHigh", type := (.array .long), accessFlags := 2, slot := 12, constantValue := 0 }, { name := "stepCount", type := .int, accessFlags := 2, slot := 13, constantValue := 0 }, { name := "mux", type := (.array .long), accessFlags := 2, slot := 14, constantValue := 0 }, { name := "printCodes", type := (.array .byte), accessFlags := 2, slot := 15, constantValue := 0 }, { name := "printLens", type := (.array .int), accessFlags := 2, slot := 16, constantValue := 0 }]
  methods := #[k2m0, k2m1, k2m2, k2m3, k2m4, k2m5, k2m6, k2m7, k2m8, k2m9, k2m10, k2m11, k2m12, k2m13, k2m14, k2m15, k2m16, k2m17, k2m18, k2m19, k2m20, k2m21, k2m22, k2m23, k2m24, k2m25, k2m26, k2m27, k2m28, k2m29, k2m30, k2m31, k2m32, k2m33, k2m34, k2m35, k2m36, k2m37, k2m38, k2m39, k2m40, k2m41, k2m42, k2m43, k2m44, k2m45, k2m46, k2m47, k2m48, k2m49, k2m50, k2m51, k2m52, k2m53]
  instanceTypes := #[.int, (.array .byte), (.array .int), (.array .long), .int, .int, .long, (.array .int), (.array .long), (.array .int), (.array .int), (.array .long), (.array .long), .int, (.array .long), (.array .byte), (.array .int)]
  staticTypes := #[.int, .int, .int, .int, .int, .int, .int, .int, .int, .int, .int, .int, .int, .int, .int, .int, .int, .int, .int, .int, .long, .long, .long, .long, .long, .long]
  resolved := Array.replicate 280 none
  statics := none }

def pool3 : Array CpInfo := pool [(1, u "java/lang/Cloneable"), (0, .class_ 1), (0, u "java/lang/Object"), (0, .class_ 3)] 3

/-- java/lang/Cloneable -/
def k3 : Class := { plain "java/lang/Cloneable" (some 0) with
  accessFlags := 1537
  interfaces := #[]
  cf := some (fileOf pool3 2 #[] #[] 1537 4 #[] #[])
  fields := #[]
  methods := #[]
  instanceTypes := #[]
  staticTypes := #[]
  resolved := Array.replicate 8 none
  statics := none }

def pool4 : Array CpInfo := pool [(1, u "java/io/Serializable"), (0, .class_ 1), (0, u "java/lang/Object"), (0, .class_ 3)] 3

/-- java/io/Serializable -/
def k4 : Class := { plain "java/io/Serializable" (some 0) with
  accessFlags := 1537
  interfaces := #[]
  cf := some (fileOf pool4 2 #[] #[] 1537 4 #[] #[])
  fields := #[]
  methods := #[]
  instanceTypes := #[]
  staticTypes := #[]
  resolved := Array.replicate 8 none
  statics := none }

/-- the primitive byte -/
def k5 : Class := { plain "byte" none with kind := .primitive 'B', accessFlags := 0x411 }
/-- [B -/
def k6 : Class := { plain "[B" (some 0) with kind := .array 5 .byte, interfaces := #[3, 4], accessFlags := 1041 }

/-- the primitive int -/
def k7 : Class := { plain "int" none with kind := .primitive 'I', accessFlags := 0x411 }
/-- [I -/
def k8 : Class := { plain "[I" (some 0) with kind := .array 7 .int, interfaces := #[3, 4], accessFlags := 1041 }

/-- the primitive long -/
def k9 : Class := { plain "long" none with kind := .primitive 'J', accessFlags := 0x411 }
/-- [J -/
def k10 : Class := { plain "[J" (some 0) with kind := .array 9 .long, interfaces := #[3, 4], accessFlags := 1041 }

def heap : Heap := #[{ cls := 8, slots := #[.int 0, .int 3, .int 5, .int 1], vm := .none }]
def classes : Array Class := #[k0, k1, k2, k3, k4, k5, k6, k7, k8, k9, k10]
def interned : List (Array UInt16 × Addr) := []
def slotsUsed : Nat := 4
def theMethod : MethodId := ⟨1, 1⟩
def args0 : Array Value := #[.ref 0]
def aboutOver (below : List Frame) : State where
  vm := { classes := classes, interned := interned.toArray }
  heap := heap
  slotsUsed := slotsUsed
  threads := #[{ frames := .invoking theMethod args0 :: below }]
def below0 : List Frame := [.native { method := ⟨0, 0⟩, args := #[] }]
def about1 : State := aboutOver below0
def p0 : Program := .bare "" "" ""
def e0 : Env := launch0.env 0 0 0
theorem w_frames : about1.frames = Frame.invoking theMethod args0 :: below0 := rfl
set_option maxRecDepth 65536 in
theorem w_args : argsFit about1.vm theMethod args0 = true := by decide +kernel
set_option maxRecDepth 65536 in
theorem w_heap : heapFits about1 = true := by decide +kernel
set_option maxRecDepth 65536 in
theorem w_runnable : about1.curStatus? = some .runnable := by decide +kernel
set_option maxRecDepth 65536 in
theorem w_alone : about1.alone = true := by decide +kernel
set_option maxRecDepth 65536 in
theorem w_named : about1.methodNamed? x = some theMethod := by decide +kernel
set_option maxRecDepth 65536 in
theorem w_hears : about1.hears theMethod below0 = true := by decide +kernel
set_option maxRecDepth 65536 in
theorem w_ripe : about1.ripe theMethod args0 below0 = true := by decide +kernel
theorem w_running : about1.status = .running := rfl
set_option maxRecDepth 65536 in
theorem w_room : about1.hasRoom e0.platform room_1 = true :=
  launch0.hasRoom_least _ room_1 (by decide +kernel) (by decide +kernel) (by decide +kernel) (by decide +kernel) (by decide +kernel) (by decide +kernel)
theorem allAtoms_all (ts : List Jvm.Cond) (a : Array Jvm.Value) (st : Jvm.State) : (allAtoms ts).before a st = ts.all (fun c => c.before a st) := by
  induction ts with
  | nil => rfl
  | cons c t ih =>
    show (Jvm.Cond.and c (allAtoms t)).before a st = _
    rw [Jvm.Cond.before_and, ih, List.all_cons]
def words1 : List Jvm.Cond := Jvm.Cond.code x code maxLocals ret :: tables_1
/-- a 'code' word, met by the world's own term for the bytes: nothing is compared byte by byte -/
theorem code_word {y : MethodName} {bytes : ByteArray} {mx : Nat} {rt : Option FieldType} {a : Array Value} {s : State} {m : MethodId} {meth : Method} {c : Code} (h1 : s.methodNamed? y = some m) (h2 : s.vm.method? m = some meth) (h3 : meth.code = some c) (h4 : c.code = bytes)
    (h5 : (c.maxLocals == mx && c.exceptionTable.isEmpty && decide (c.maxStack ≤ mostOperands) && decide (meth.sig.returnType = rt) && !meth.locks && decide (parseMethodDescriptor y.desc = some meth.sig)) = true) : (Jvm.Cond.code y bytes mx rt).before a s = true := by
  simp only [Bool.and_eq_true, beq_iff_eq, Bool.not_eq_true', decide_eq_true_eq] at h5
  obtain ⟨⟨⟨⟨⟨g1, g2⟩, g3⟩, g4⟩, g5⟩, g6⟩ := h5
  simp [Cond.before, Cond.holds, Cond.value, h1, h2, h3, h4, g1, g2, g3, g4, g5, g6]
def isCode : Jvm.Cond → Bool
  | .code _ _ _ _ => true
  | _ => false
theorem all_split {L : List Jvm.Cond} {P : Jvm.Cond → Bool} (h1 : L.all (fun c => isCode c || P c) = true) (h2 : ∀ c ∈ L.filter isCode, P c = true) : L.all P = true := by
  refine List.all_eq_true.mpr fun c hc => ?_
  have h := List.all_eq_true.mp h1 c hc
  rcases Bool.eq_false_or_eq_true (isCode c) with hi | hi
  · exact h2 c (List.mem_filter.mpr ⟨hc, hi⟩)
  · simpa [hi] using h
set_option maxRecDepth 65536 in
theorem w_c0 : (Jvm.Cond.code x code maxLocals ret).before args0 about1 = true := code_word (m := ⟨1, 1⟩) (meth := k1m1) (c := k1c1) (by decide +kernel) rfl rfl rfl (by decide +kernel)
set_option maxRecDepth 65536 in
theorem w_c1 : (Jvm.Cond.code ({ cls := "BoolUnifierY", name := "<init>", desc := "(I)V" } : Jvm.MethodName) prog_1_method_1_code (2 : Nat) (Option.none : Option Jvm.ClassFile.FieldType)).before args0 about1 = true := code_word (m := ⟨2, 0⟩) (meth := k2m0) (c := k2c0) (by decide +kernel) rfl rfl rfl (by decide +kernel)
set_option maxRecDepth 65536 in
theorem w_c2 : (Jvm.Cond.code ({ cls := "java/lang/Object", name := "<init>", desc := "()V" } : Jvm.MethodName) object_method_1_code (1 : Nat) (Option.none : Option Jvm.ClassFile.FieldType)).before args0 about1 = true := code_word (m := ⟨0, 0⟩) (meth := k0m0) (c := k0c0) (by decide +kernel) rfl rfl rfl (by decide +kernel)
set_option maxRecDepth 65536 in
theorem w_c3 : (Jvm.Cond.code ({ cls := "BoolUnifierY", name := "clampCapacity", desc := "(I)I" } : Jvm.MethodName) prog_1_method_18_code (2 : Nat) (Option.some Jvm.ClassFile.FieldType.int)).before args0 about1 = true := code_word (m := ⟨2, 15⟩) (meth := k2m15) (c := k2c15) (by decide +kernel) rfl rfl rfl (by decide +kernel)
set_option maxRecDepth 65536 in
theorem w_c4 : (Jvm.Cond.code ({ cls := "BoolUnifierY", name := "clearAllSlots", desc := "()V" } : Jvm.MethodName) prog_1_method_19_code (2 : Nat) (Option.none : Option Jvm.ClassFile.FieldType)).before args0 about1 = true := code_word (m := ⟨2, 16⟩) (meth := k2m16) (c := k2c16) (by decide +kernel) rfl rfl rfl (by decide +kernel)
set_option maxRecDepth 65536 in
theorem w_c5 : (Jvm.Cond.code ({ cls := "BoolUnifierY", name := "emptySlot", desc := "(I)V" } : Jvm.MethodName) prog_1_method_20_code (2 : Nat) (Option.none : Option Jvm.ClassFile.FieldType)).before args0 about1 = true := code_word (m := ⟨2, 17⟩) (meth := k2m17) (c := k2c17) (by decide +kernel) rfl rfl rfl (by decide +kernel)
set_option maxRecDepth 65536 in
theorem w_c6 : (Jvm.Cond.code ({ cls := "BoolUnifierY", name := "validSlot", desc := "(I)Z" } : Jvm.MethodName) prog_1_method_23_code (2 : Nat) (Option.some Jvm.ClassFile.FieldType.boolean)).before args0 about1 = true := code_word (m := ⟨2, 20⟩) (meth := k2m20) (c := k2c20) (by decide +kernel) rfl rfl rfl (by decide +kernel)
set_option maxRecDepth 65536 in
theorem w_c7 : (Jvm.Cond.code ({ cls := "BoolUnifierY", name := "resetResults", desc := "()V" } : Jvm.MethodName) prog_1_method_21_code (1 : Nat) (Option.none : Option Jvm.ClassFile.FieldType)).before args0 about1 = true := code_word (m := ⟨2, 18⟩) (meth := k2m18) (c := k2c18) (by decide +kernel) rfl rfl rfl (by decide +kernel)
set_option maxRecDepth 65536 in
theorem w_c8 : (Jvm.Cond.code ({ cls := "BoolUnifierY", name := "setIdentity", desc := "()V" } : Jvm.MethodName) prog_1_method_22_code (2 : Nat) (Option.none : Option Jvm.ClassFile.FieldType)).before args0 about1 = true := code_word (m := ⟨2, 19⟩) (meth := k2m19) (c := k2c19) (by decide +kernel) rfl rfl rfl (by decide +kernel)
set_option maxRecDepth 65536 in
theorem w_c9 : (Jvm.Cond.code ({ cls := "BoolUnifierY", name := "varTable", desc := "(I)J" } : Jvm.MethodName) prog_1_method_31_code (2 : Nat) (Option.some Jvm.ClassFile.FieldType.long)).before args0 about1 = true := code_word (m := ⟨2, 28⟩) (meth := k2m28) (c := k2c28) (by decide +kernel) rfl rfl rfl (by decide +kernel)
set_option maxRecDepth 65536 in
theorem w_c10 : (Jvm.Cond.code ({ cls := "BoolUnifierY", name := "reprintAll", desc := "()V" } : Jvm.MethodName) prog_1_method_51_code (2 : Nat) (Option.none : Option Jvm.ClassFile.FieldType)).before args0 about1 = true := code_word (m := ⟨2, 48⟩) (meth := k2m48) (c := k2c48) (by decide +kernel) rfl rfl rfl (by decide +kernel)
set_option maxRecDepth 65536 in
theorem w_c11 : (Jvm.Cond.code ({ cls := "BoolUnifierY", name := "printOne", desc := "(I)V" } : Jvm.MethodName) prog_1_method_52_code (4 : Nat) (Option.none : Option Jvm.ClassFile.FieldType)).before args0 about1 = true := code_word (m := ⟨2, 49⟩) (meth := k2m49) (c := k2c49) (by decide +kernel) rfl rfl rfl (by decide +kernel)
set_option maxRecDepth 65536 in
theorem w_c12 : (Jvm.Cond.code ({ cls := "BoolUnifierY", name := "validVar", desc := "(I)Z" } : Jvm.MethodName) prog_1_method_24_code (2 : Nat) (Option.some Jvm.ClassFile.FieldType.boolean)).before args0 about1 = true := code_word (m := ⟨2, 21⟩) (meth := k2m21) (c := k2c21) (by decide +kernel) rfl rfl rfl (by decide +kernel)
set_option maxRecDepth 65536 in
theorem w_c13 : (Jvm.Cond.code ({ cls := "BoolUnifierY", name := "anf", desc := "(J)J" } : Jvm.MethodName) prog_1_method_50_code (9 : Nat) (Option.some Jvm.ClassFile.FieldType.long)).before args0 about1 = true := code_word (m := ⟨2, 47⟩) (meth := k2m47) (c := k2c47) (by decide +kernel) rfl rfl rfl (by decide +kernel)
set_option maxRecDepth 65536 in
theorem w_c14 : (Jvm.Cond.code ({ cls := "BoolUnifierY", name := "emitPolynomial", desc := "(IJ)V" } : Jvm.MethodName) prog_1_method_53_code (6 : Nat) (Option.none : Option Jvm.ClassFile.FieldType)).before args0 about1 = true := code_word (m := ⟨2, 50⟩) (meth := k2m50) (c := k2c50) (by decide +kernel) rfl rfl rfl (by decide +kernel)
set_option maxRecDepth 65536 in
theorem w_c15 : (Jvm.Cond.code ({ cls := "BoolUnifierY", name := "emitMonomial", desc := "(II)V" } : Jvm.MethodName) prog_1_method_54_code (5 : Nat) (Option.none : Option Jvm.ClassFile.FieldType)).before args0 about1 = true := code_word (m := ⟨2, 51⟩) (meth := k2m51) (c := k2c51) (by decide +kernel) rfl rfl rfl (by decide +kernel)
set_option maxRecDepth 65536 in
theorem w_c16 : (Jvm.Cond.code ({ cls := "BoolUnifierY", name := "emit", desc := "(II)V" } : Jvm.MethodName) prog_1_method_56_code (5 : Nat) (Option.none : Option Jvm.ClassFile.FieldType)).before args0 about1 = true := code_word (m := ⟨2, 53⟩) (meth := k2m53) (c := k2c53) (by decide +kernel) rfl rfl rfl (by decide +kernel)
set_option maxRecDepth 65536 in
theorem w_c17 : (Jvm.Cond.code ({ cls := "BoolUnifierY", name := "printIndex", desc := "(II)I" } : Jvm.MethodName) prog_1_method_55_code (3 : Nat) (Option.some Jvm.ClassFile.FieldType.int)).before args0 about1 = true := code_word (m := ⟨2, 52⟩) (meth := k2m52) (c := k2c52) (by decide +kernel) rfl rfl rfl (by decide +kernel)
set_option maxRecDepth 65536 in
theorem w_c18 : (Jvm.Cond.code ({ cls := "BoolUnifierYL6", name := "check", desc := "(LBoolUnifierY;IIIIJ)Z" } : Jvm.MethodName) method_3_code (10 : Nat) (Option.some Jvm.ClassFile.FieldType.boolean)).before args0 about1 = true := code_word (m := ⟨1, 2⟩) (meth := k1m2) (c := k1c2) (by decide +kernel) rfl rfl rfl (by decide +kernel)
set_option maxRecDepth 65536 in
theorem w_c19 : (Jvm.Cond.code ({ cls := "BoolUnifierY", name := "length", desc := "(I)I" } : Jvm.MethodName) prog_1_method_5_code (2 : Nat) (Option.some Jvm.ClassFile.FieldType.int)).before args0 about1 = true := code_word (m := ⟨2, 4⟩) (meth := k2m4) (c := k2c4) (by decide +kernel) rfl rfl rfl (by decide +kernel)
set_option maxRecDepth 65536 in
theorem w_c20 : (Jvm.Cond.code ({ cls := "BoolUnifierY", name := "depth", desc := "(I)I" } : Jvm.MethodName) prog_1_method_7_code (2 : Nat) (Option.some Jvm.ClassFile.FieldType.int)).before args0 about1 = true := code_word (m := ⟨2, 6⟩) (meth := k2m6) (c := k2c6) (by decide +kernel) rfl rfl rfl (by decide +kernel)
set_option maxRecDepth 65536 in
theorem w_c21 : (Jvm.Cond.code ({ cls := "BoolUnifierY", name := "termTable", desc := "(I)J" } : Jvm.MethodName) prog_1_method_8_code (3 : Nat) (Option.some Jvm.ClassFile.FieldType.long)).before args0 about1 = true := code_word (m := ⟨2, 7⟩) (meth := k2m7) (c := k2c7) (by decide +kernel) rfl rfl rfl (by decide +kernel)
set_option maxRecDepth 65536 in
theorem w_c22 : (Jvm.Cond.code ({ cls := "BoolUnifierY", name := "isComplete", desc := "(I)Z" } : Jvm.MethodName) prog_1_method_30_code (2 : Nat) (Option.some Jvm.ClassFile.FieldType.boolean)).before args0 about1 = true := code_word (m := ⟨2, 27⟩) (meth := k2m27) (c := k2c27) (by decide +kernel) rfl rfl rfl (by decide +kernel)
set_option maxRecDepth 65536 in
theorem w_c23 : (Jvm.Cond.code ({ cls := "BoolUnifierY", name := "status", desc := "()I" } : Jvm.MethodName) prog_1_method_10_code (1 : Nat) (Option.some Jvm.ClassFile.FieldType.int)).before args0 about1 = true := code_word (m := ⟨2, 9⟩) (meth := k2m9) (c := k2c9) (by decide +kernel) rfl rfl rfl (by decide +kernel)
set_option maxRecDepth 65536 in
theorem w_c24 : (Jvm.Cond.code ({ cls := "BoolUnifierY", name := "eliminated", desc := "()I" } : Jvm.MethodName) prog_1_method_11_code (1 : Nat) (Option.some Jvm.ClassFile.FieldType.int)).before args0 about1 = true := code_word (m := ⟨2, 10⟩) (meth := k2m10) (c := k2c10) (by decide +kernel) rfl rfl rfl (by decide +kernel)
set_option maxRecDepth 65536 in
theorem w_c25 : (Jvm.Cond.code ({ cls := "BoolUnifierY", name := "residue", desc := "()J" } : Jvm.MethodName) prog_1_method_12_code (1 : Nat) (Option.some Jvm.ClassFile.FieldType.long)).before args0 about1 = true := code_word (m := ⟨2, 11⟩) (meth := k2m11) (c := k2c11) (by decide +kernel) rfl rfl rfl (by decide +kernel)
set_option maxRecDepth 65536 in
theorem w_c26 : (Jvm.Cond.code ({ cls := "BoolUnifierY", name := "printLength", desc := "(I)I" } : Jvm.MethodName) prog_1_method_14_code (2 : Nat) (Option.some Jvm.ClassFile.FieldType.int)).before args0 about1 = true := code_word (m := ⟨2, 13⟩) (meth := k2m13) (c := k2c13) (by decide +kernel) rfl rfl rfl (by decide +kernel)
set_option maxRecDepth 65536 in
theorem w_c27 : (Jvm.Cond.code ({ cls := "BoolUnifierY", name := "unifierTable", desc := "(I)J" } : Jvm.MethodName) prog_1_method_13_code (2 : Nat) (Option.some Jvm.ClassFile.FieldType.long)).before args0 about1 = true := code_word (m := ⟨2, 12⟩) (meth := k2m12) (c := k2c12) (by decide +kernel) rfl rfl rfl (by decide +kernel)
set_option maxRecDepth 65536 in
theorem w_c28 : (Jvm.Cond.code ({ cls := "BoolUnifierYL6", name := "tx", desc := "(I)J" } : Jvm.MethodName) method_4_code (1 : Nat) (Option.some Jvm.ClassFile.FieldType.long)).before args0 about1 = true := code_word (m := ⟨1, 3⟩) (meth := k1m3) (c := k1c3) (by decide +kernel) rfl rfl rfl (by decide +kernel)
set_option maxRecDepth 65536 in
theorem w_c29 : (Jvm.Cond.code ({ cls := "BoolUnifierY", name := "printCode", desc := "(II)I" } : Jvm.MethodName) prog_1_method_15_code (4 : Nat) (Option.some Jvm.ClassFile.FieldType.int)).before args0 about1 = true := code_word (m := ⟨2, 14⟩) (meth := k2m14) (c := k2c14) (by decide +kernel) rfl rfl rfl (by decide +kernel)
set_option maxRecDepth 65536 in
theorem w_c30 : (Jvm.Cond.code ({ cls := "BoolUnifierY", name := "push", desc := "(II)I" } : Jvm.MethodName) prog_1_method_2_code (3 : Nat) (Option.some Jvm.ClassFile.FieldType.int)).before args0 about1 = true := code_word (m := ⟨2, 1⟩) (meth := k2m1) (c := k2c1) (by decide +kernel) rfl rfl rfl (by decide +kernel)
set_option maxRecDepth 65536 in
theorem w_c31 : (Jvm.Cond.code ({ cls := "BoolUnifierY", name := "validCode", desc := "(I)Z" } : Jvm.MethodName) prog_1_method_25_code (2 : Nat) (Option.some Jvm.ClassFile.FieldType.boolean)).before args0 about1 = true := code_word (m := ⟨2, 22⟩) (meth := k2m22) (c := k2c22) (by decide +kernel) rfl rfl rfl (by decide +kernel)
set_option maxRecDepth 65536 in
theorem w_c32 : (Jvm.Cond.code ({ cls := "BoolUnifierY", name := "isUnary", desc := "(I)Z" } : Jvm.MethodName) prog_1_method_27_code (2 : Nat) (Option.some Jvm.ClassFile.FieldType.boolean)).before args0 about1 = true := code_word (m := ⟨2, 24⟩) (meth := k2m24) (c := k2c24) (by decide +kernel) rfl rfl rfl (by decide +kernel)
set_option maxRecDepth 65536 in
theorem w_c33 : (Jvm.Cond.code ({ cls := "BoolUnifierY", name := "isBinary", desc := "(I)Z" } : Jvm.MethodName) prog_1_method_28_code (2 : Nat) (Option.some Jvm.ClassFile.FieldType.boolean)).before args0 about1 = true := code_word (m := ⟨2, 25⟩) (meth := k2m25) (c := k2c25) (by decide +kernel) rfl rfl rfl (by decide +kernel)
set_option maxRecDepth 65536 in
theorem w_c34 : (Jvm.Cond.code ({ cls := "BoolUnifierY", name := "appendCode", desc := "(II)V" } : Jvm.MethodName) prog_1_method_40_code (7 : Nat) (Option.none : Option Jvm.ClassFile.FieldType)).before args0 about1 = true := code_word (m := ⟨2, 37⟩) (meth := k2m37) (c := k2c37) (by decide +kernel) rfl rfl rfl (by decide +kernel)
set_option maxRecDepth 65536 in
theorem w_c35 : (Jvm.Cond.code ({ cls := "BoolUnifierY", name := "indexOf", desc := "(II)I" } : Jvm.MethodName) prog_1_method_36_code (3 : Nat) (Option.some Jvm.ClassFile.FieldType.int)).before args0 about1 = true := code_word (m := ⟨2, 33⟩) (meth := k2m33) (c := k2c33) (by decide +kernel) rfl rfl rfl (by decide +kernel)
set_option maxRecDepth 65536 in
theorem w_c36 : (Jvm.Cond.code ({ cls := "BoolUnifierY", name := "isLeaf", desc := "(I)Z" } : Jvm.MethodName) prog_1_method_26_code (2 : Nat) (Option.some Jvm.ClassFile.FieldType.boolean)).before args0 about1 = true := code_word (m := ⟨2, 23⟩) (meth := k2m23) (c := k2c23) (by decide +kernel) rfl rfl rfl (by decide +kernel)
set_option maxRecDepth 65536 in
theorem w_c37 : (Jvm.Cond.code ({ cls := "BoolUnifierY", name := "leafTable", desc := "(I)J" } : Jvm.MethodName) prog_1_method_32_code (3 : Nat) (Option.some Jvm.ClassFile.FieldType.long)).before args0 about1 = true := code_word (m := ⟨2, 29⟩) (meth := k2m29) (c := k2c29) (by decide +kernel) rfl rfl rfl (by decide +kernel)
set_option maxRecDepth 65536 in
theorem w_c38 : (Jvm.Cond.code ({ cls := "BoolUnifierY", name := "storeNode", desc := "(IJI)V" } : Jvm.MethodName) prog_1_method_39_code (5 : Nat) (Option.none : Option Jvm.ClassFile.FieldType)).before args0 about1 = true := code_word (m := ⟨2, 36⟩) (meth := k2m36) (c := k2c36) (by decide +kernel) rfl rfl rfl (by decide +kernel)
set_option maxRecDepth 65536 in
theorem w_c39 : (Jvm.Cond.code ({ cls := "BoolUnifierY", name := "depthChange", desc := "(I)I" } : Jvm.MethodName) prog_1_method_29_code (2 : Nat) (Option.some Jvm.ClassFile.FieldType.int)).before args0 about1 = true := code_word (m := ⟨2, 26⟩) (meth := k2m26) (c := k2c26) (by decide +kernel) rfl rfl rfl (by decide +kernel)
set_option maxRecDepth 65536 in
theorem w_c40 : (Jvm.Cond.code ({ cls := "BoolUnifierY", name := "code", desc := "(II)I" } : Jvm.MethodName) prog_1_method_6_code (4 : Nat) (Option.some Jvm.ClassFile.FieldType.int)).before args0 about1 = true := code_word (m := ⟨2, 5⟩) (meth := k2m5) (c := k2c5) (by decide +kernel) rfl rfl rfl (by decide +kernel)
set_option maxRecDepth 65536 in
theorem w_c41 : (Jvm.Cond.code ({ cls := "BoolUnifierY", name := "undo", desc := "(I)Z" } : Jvm.MethodName) prog_1_method_3_code (5 : Nat) (Option.some Jvm.ClassFile.FieldType.boolean)).before args0 about1 = true := code_word (m := ⟨2, 2⟩) (meth := k2m2) (c := k2c2) (by decide +kernel) rfl rfl rfl (by decide +kernel)
set_option maxRecDepth 65536 in
theorem w_c42 : (Jvm.Cond.code ({ cls := "BoolUnifierY", name := "solve", desc := "(I)I" } : Jvm.MethodName) prog_1_method_9_code (11 : Nat) (Option.some Jvm.ClassFile.FieldType.int)).before args0 about1 = true := code_word (m := ⟨2, 8⟩) (meth := k2m8) (c := k2c8) (by decide +kernel) rfl rfl rfl (by decide +kernel)
set_option maxRecDepth 65536 in
theorem w_c43 : (Jvm.Cond.code ({ cls := "BoolUnifierY", name := "clear", desc := "(I)Z" } : Jvm.MethodName) prog_1_method_4_code (2 : Nat) (Option.some Jvm.ClassFile.FieldType.boolean)).before args0 about1 = true := code_word (m := ⟨2, 3⟩) (meth := k2m3) (c := k2c3) (by decide +kernel) rfl rfl rfl (by decide +kernel)
set_option maxRecDepth 65536 in
theorem w_c44 : (Jvm.Cond.code ({ cls := "BoolUnifierY", name := "appendBinary", desc := "(IIII)V" } : Jvm.MethodName) prog_1_method_42_code (15 : Nat) (Option.none : Option Jvm.ClassFile.FieldType)).before args0 about1 = true := code_word (m := ⟨2, 39⟩) (meth := k2m39) (c := k2c39) (by decide +kernel) rfl rfl rfl (by decide +kernel)
set_option maxRecDepth 65536 in
theorem w_c45 : (Jvm.Cond.code ({ cls := "BoolUnifierY", name := "startAt", desc := "(II)I" } : Jvm.MethodName) prog_1_method_38_code (4 : Nat) (Option.some Jvm.ClassFile.FieldType.int)).before args0 about1 = true := code_word (m := ⟨2, 35⟩) (meth := k2m35) (c := k2c35) (by decide +kernel) rfl rfl rfl (by decide +kernel)
set_option maxRecDepth 65536 in
theorem w_c46 : (Jvm.Cond.code ({ cls := "BoolUnifierY", name := "valueAt", desc := "(II)J" } : Jvm.MethodName) prog_1_method_37_code (4 : Nat) (Option.some Jvm.ClassFile.FieldType.long)).before args0 about1 = true := code_word (m := ⟨2, 34⟩) (meth := k2m34) (c := k2c34) (by decide +kernel) rfl rfl rfl (by decide +kernel)
set_option maxRecDepth 65536 in
theorem w_c47 : (Jvm.Cond.code ({ cls := "BoolUnifierY", name := "combine", desc := "(IJJ)J" } : Jvm.MethodName) prog_1_method_33_code (6 : Nat) (Option.some Jvm.ClassFile.FieldType.long)).before args0 about1 = true := code_word (m := ⟨2, 30⟩) (meth := k2m30) (c := k2c30) (by decide +kernel) rfl rfl rfl (by decide +kernel)
set_option maxRecDepth 65536 in
theorem w_c48 : (Jvm.Cond.code ({ cls := "BoolUnifierY", name := "appendNot", desc := "(III)V" } : Jvm.MethodName) prog_1_method_41_code (7 : Nat) (Option.none : Option Jvm.ClassFile.FieldType)).before args0 about1 = true := code_word (m := ⟨2, 38⟩) (meth := k2m38) (c := k2c38) (by decide +kernel) rfl rfl rfl (by decide +kernel)
set_option maxRecDepth 65536 in
theorem w_c49 : (Jvm.Cond.code ({ cls := "BoolUnifierY", name := "eliminate", desc := "(JI)J" } : Jvm.MethodName) prog_1_method_43_code (11 : Nat) (Option.some Jvm.ClassFile.FieldType.long)).before args0 about1 = true := code_word (m := ⟨2, 40⟩) (meth := k2m40) (c := k2c40) (by decide +kernel) rfl rfl rfl (by decide +kernel)
set_option maxRecDepth 65536 in
theorem w_c50 : (Jvm.Cond.code ({ cls := "BoolUnifierY", name := "cofactorLow", desc := "(JI)J" } : Jvm.MethodName) prog_1_method_34_code (9 : Nat) (Option.some Jvm.ClassFile.FieldType.long)).before args0 about1 = true := code_word (m := ⟨2, 31⟩) (meth := k2m31) (c := k2c31) (by decide +kernel) rfl rfl rfl (by decide +kernel)
set_option maxRecDepth 65536 in
theorem w_c51 : (Jvm.Cond.code ({ cls := "BoolUnifierY", name := "cofactorHigh", desc := "(JI)J" } : Jvm.MethodName) prog_1_method_35_code (9 : Nat) (Option.some Jvm.ClassFile.FieldType.long)).before args0 about1 = true := code_word (m := ⟨2, 32⟩) (meth := k2m32) (c := k2c32) (by decide +kernel) rfl rfl rfl (by decide +kernel)
set_option maxRecDepth 65536 in
theorem w_c52 : (Jvm.Cond.code ({ cls := "BoolUnifierY", name := "recordStep", desc := "(IJJ)V" } : Jvm.MethodName) prog_1_method_44_code (7 : Nat) (Option.none : Option Jvm.ClassFile.FieldType)).before args0 about1 = true := code_word (m := ⟨2, 41⟩) (meth := k2m41) (c := k2c41) (by decide +kernel) rfl rfl rfl (by decide +kernel)
set_option maxRecDepth 65536 in
theorem w_c53 : (Jvm.Cond.code ({ cls := "BoolUnifierY", name := "backSubstitute", desc := "()V" } : Jvm.MethodName) prog_1_method_45_code (2 : Nat) (Option.none : Option Jvm.ClassFile.FieldType)).before args0 about1 = true := code_word (m := ⟨2, 42⟩) (meth := k2m42) (c := k2c42) (by decide +kernel) rfl rfl rfl (by decide +kernel)
set_option maxRecDepth 65536 in
theorem w_c54 : (Jvm.Cond.code ({ cls := "BoolUnifierY", name := "solveStep", desc := "(I)V" } : Jvm.MethodName) prog_1_method_46_code (13 : Nat) (Option.none : Option Jvm.ClassFile.FieldType)).before args0 about1 = true := code_word (m := ⟨2, 43⟩) (meth := k2m43) (c := k2c43) (by decide +kernel) rfl rfl rfl (by decide +kernel)
set_option maxRecDepth 65536 in
theorem w_c55 : (Jvm.Cond.code ({ cls := "BoolUnifierY", name := "compose", desc := "(J)J" } : Jvm.MethodName) prog_1_method_47_code (4 : Nat) (Option.some Jvm.ClassFile.FieldType.long)).before args0 about1 = true := code_word (m := ⟨2, 44⟩) (meth := k2m44) (c := k2c44) (by decide +kernel) rfl rfl rfl (by decide +kernel)
set_option maxRecDepth 65536 in
theorem w_c56 : (Jvm.Cond.code ({ cls := "BoolUnifierY", name := "loadLeaves", desc := "(J)V" } : Jvm.MethodName) prog_1_method_48_code (6 : Nat) (Option.none : Option Jvm.ClassFile.FieldType)).before args0 about1 = true := code_word (m := ⟨2, 45⟩) (meth := k2m45) (c := k2c45) (by decide +kernel) rfl rfl rfl (by decide +kernel)
set_option maxRecDepth 65536 in
theorem w_c57 : (Jvm.Cond.code ({ cls := "BoolUnifierY", name := "foldLevel", desc := "(I)V" } : Jvm.MethodName) prog_1_method_49_code (10 : Nat) (Option.none : Option Jvm.ClassFile.FieldType)).before args0 about1 = true := code_word (m := ⟨2, 46⟩) (meth := k2m46) (c := k2c46) (by decide +kernel) rfl rfl rfl (by decide +kernel)
def codes1 : List Jvm.Cond := [Jvm.Cond.code x code maxLocals ret, Jvm.Cond.code ({ cls := "BoolUnifierY", name := "<init>", desc := "(I)V" } : Jvm.MethodName) prog_1_method_1_code (2 : Nat) (Option.none : Option Jvm.ClassFile.FieldType), Jvm.Cond.code ({ cls := "java/lang/Object", name := "<init>", desc := "()V" } : Jvm.MethodName) object_method_1_code (1 : Nat) (Option.none : Option Jvm.ClassFile.FieldType), Jvm.Cond.code ({ cls := "BoolUnifierY", name := "clampCapacity", desc := "(I)I" } : Jvm.MethodName) prog_1_method_18_code (2 : Nat) (Option.some Jvm.ClassFile.FieldType.int), Jvm.Cond.code ({ cls := "BoolUnifierY", name := "clearAllSlots", desc := "()V" } : Jvm.MethodName) prog_1_method_19_code (2 : Nat) (Option.none : Option Jvm.ClassFile.FieldType), Jvm.Cond.code ({ cls := "BoolUnifierY", name := "emptySlot", desc := "(I)V" } : Jvm.MethodName) prog_1_method_20_code (2 : Nat) (Option.none : Option Jvm.ClassFile.FieldType), Jvm.Cond.code ({ cls := "BoolUnifierY", name := "validSlot", desc := "(I)Z" } : Jvm.MethodName) prog_1_method_23_code (2 : Nat) (Option.some Jvm.ClassFile.FieldType.boolean), Jvm.Cond.code ({ cls := "BoolUnifierY", name := "resetResults", desc := "()V" } : Jvm.MethodName) prog_1_method_21_code (1 : Nat) (Option.none : Option Jvm.ClassFile.FieldType), Jvm.Cond.code ({ cls := "BoolUnifierY", name := "setIdentity", desc := "()V" } : Jvm.MethodName) prog_1_method_22_code (2 : Nat) (Option.none : Option Jvm.ClassFile.FieldType), Jvm.Cond.code ({ cls := "BoolUnifierY", name := "varTable", desc := "(I)J" } : Jvm.MethodName) prog_1_method_31_code (2 : Nat) (Option.some Jvm.ClassFile.FieldType.long), Jvm.Cond.code ({ cls := "BoolUnifierY", name := "reprintAll", desc := "()V" } : Jvm.MethodName) prog_1_method_51_code (2 : Nat) (Option.none : Option Jvm.ClassFile.FieldType), Jvm.Cond.code ({ cls := "BoolUnifierY", name := "printOne", desc := "(I)V" } : Jvm.MethodName) prog_1_method_52_code (4 : Nat) (Option.none : Option Jvm.ClassFile.FieldType), Jvm.Cond.code ({ cls := "BoolUnifierY", name := "validVar", desc := "(I)Z" } : Jvm.MethodName) prog_1_method_24_code (2 : Nat) (Option.some Jvm.ClassFile.FieldType.boolean), Jvm.Cond.code ({ cls := "BoolUnifierY", name := "anf", desc := "(J)J" } : Jvm.MethodName) prog_1_method_50_code (9 : Nat) (Option.some Jvm.ClassFile.FieldType.long), Jvm.Cond.code ({ cls := "BoolUnifierY", name := "emitPolynomial", desc := "(IJ)V" } : Jvm.MethodName) prog_1_method_53_code (6 : Nat) (Option.none : Option Jvm.ClassFile.FieldType), Jvm.Cond.code ({ cls := "BoolUnifierY", name := "emitMonomial", desc := "(II)V" } : Jvm.MethodName) prog_1_method_54_code (5 : Nat) (Option.none : Option Jvm.ClassFile.FieldType), Jvm.Cond.code ({ cls := "BoolUnifierY", name := "emit", desc := "(II)V" } : Jvm.MethodName) prog_1_method_56_code (5 : Nat) (Option.none : Option Jvm.ClassFile.FieldType), Jvm.Cond.code ({ cls := "BoolUnifierY", name := "printIndex", desc := "(II)I" } : Jvm.MethodName) prog_1_method_55_code (3 : Nat) (Option.some Jvm.ClassFile.FieldType.int), Jvm.Cond.code ({ cls := "BoolUnifierYL6", name := "check", desc := "(LBoolUnifierY;IIIIJ)Z" } : Jvm.MethodName) method_3_code (10 : Nat) (Option.some Jvm.ClassFile.FieldType.boolean), Jvm.Cond.code ({ cls := "BoolUnifierY", name := "length", desc := "(I)I" } : Jvm.MethodName) prog_1_method_5_code (2 : Nat) (Option.some Jvm.ClassFile.FieldType.int), Jvm.Cond.code ({ cls := "BoolUnifierY", name := "depth", desc := "(I)I" } : Jvm.MethodName) prog_1_method_7_code (2 : Nat) (Option.some Jvm.ClassFile.FieldType.int), Jvm.Cond.code ({ cls := "BoolUnifierY", name := "termTable", desc := "(I)J" } : Jvm.MethodName) prog_1_method_8_code (3 : Nat) (Option.some Jvm.ClassFile.FieldType.long), Jvm.Cond.code ({ cls := "BoolUnifierY", name := "isComplete", desc := "(I)Z" } : Jvm.MethodName) prog_1_method_30_code (2 : Nat) (Option.some Jvm.ClassFile.FieldType.boolean), Jvm.Cond.code ({ cls := "BoolUnifierY", name := "status", desc := "()I" } : Jvm.MethodName) prog_1_method_10_code (1 : Nat) (Option.some Jvm.ClassFile.FieldType.int), Jvm.Cond.code ({ cls := "BoolUnifierY", name := "eliminated", desc := "()I" } : Jvm.MethodName) prog_1_method_11_code (1 : Nat) (Option.some Jvm.ClassFile.FieldType.int), Jvm.Cond.code ({ cls := "BoolUnifierY", name := "residue", desc := "()J" } : Jvm.MethodName) prog_1_method_12_code (1 : Nat) (Option.some Jvm.ClassFile.FieldType.long), Jvm.Cond.code ({ cls := "BoolUnifierY", name := "printLength", desc := "(I)I" } : Jvm.MethodName) prog_1_method_14_code (2 : Nat) (Option.some Jvm.ClassFile.FieldType.int), Jvm.Cond.code ({ cls := "BoolUnifierY", name := "unifierTable", desc := "(I)J" } : Jvm.MethodName) prog_1_method_13_code (2 : Nat) (Option.some Jvm.ClassFile.FieldType.long), Jvm.Cond.code ({ cls := "BoolUnifierYL6", name := "tx", desc := "(I)J" } : Jvm.MethodName) method_4_code (1 : Nat) (Option.some Jvm.ClassFile.FieldType.long), Jvm.Cond.code ({ cls := "BoolUnifierY", name := "printCode", desc := "(II)I" } : Jvm.MethodName) prog_1_method_15_code (4 : Nat) (Option.some Jvm.ClassFile.FieldType.int), Jvm.Cond.code ({ cls := "BoolUnifierY", name := "push", desc := "(II)I" } : Jvm.MethodName) prog_1_method_2_code (3 : Nat) (Option.some Jvm.ClassFile.FieldType.int), Jvm.Cond.code ({ cls := "BoolUnifierY", name := "validCode", desc := "(I)Z" } : Jvm.MethodName) prog_1_method_25_code (2 : Nat) (Option.some Jvm.ClassFile.FieldType.boolean), Jvm.Cond.code ({ cls := "BoolUnifierY", name := "isUnary", desc := "(I)Z" } : Jvm.MethodName) prog_1_method_27_code (2 : Nat) (Option.some Jvm.ClassFile.FieldType.boolean), Jvm.Cond.code ({ cls := "BoolUnifierY", name := "isBinary", desc := "(I)Z" } : Jvm.MethodName) prog_1_method_28_code (2 : Nat) (Option.some Jvm.ClassFile.FieldType.boolean), Jvm.Cond.code ({ cls := "BoolUnifierY", name := "appendCode", desc := "(II)V" } : Jvm.MethodName) prog_1_method_40_code (7 : Nat) (Option.none : Option Jvm.ClassFile.FieldType), Jvm.Cond.code ({ cls := "BoolUnifierY", name := "indexOf", desc := "(II)I" } : Jvm.MethodName) prog_1_method_36_code (3 : Nat) (Option.some Jvm.ClassFile.FieldType.int), Jvm.Cond.code ({ cls := "BoolUnifierY", name := "isLeaf", desc := "(I)Z" } : Jvm.MethodName) prog_1_method_26_code (2 : Nat) (Option.some Jvm.ClassFile.FieldType.boolean), Jvm.Cond.code ({ cls := "BoolUnifierY", name := "leafTable", desc := "(I)J" } : Jvm.MethodName) prog_1_method_32_code (3 : Nat) (Option.some Jvm.ClassFile.FieldType.long), Jvm.Cond.code ({ cls := "BoolUnifierY", name := "storeNode", desc := "(IJI)V" } : Jvm.MethodName) prog_1_method_39_code (5 : Nat) (Option.none : Option Jvm.ClassFile.FieldType), Jvm.Cond.code ({ cls := "BoolUnifierY", name := "depthChange", desc := "(I)I" } : Jvm.MethodName) prog_1_method_29_code (2 : Nat) (Option.some Jvm.ClassFile.FieldType.int), Jvm.Cond.code ({ cls := "BoolUnifierY", name := "code", desc := "(II)I" } : Jvm.MethodName) prog_1_method_6_code (4 : Nat) (Option.some Jvm.ClassFile.FieldType.int), Jvm.Cond.code ({ cls := "BoolUnifierY", name := "undo", desc := "(I)Z" } : Jvm.MethodName) prog_1_method_3_code (5 : Nat) (Option.some Jvm.ClassFile.FieldType.boolean), Jvm.Cond.code ({ cls := "BoolUnifierY", name := "solve", desc := "(I)I" } : Jvm.MethodName) prog_1_method_9_code (11 : Nat) (Option.some Jvm.ClassFile.FieldType.int), Jvm.Cond.code ({ cls := "BoolUnifierY", name := "clear", desc := "(I)Z" } : Jvm.MethodName) prog_1_method_4_code (2 : Nat) (Option.some Jvm.ClassFile.FieldType.boolean), Jvm.Cond.code ({ cls := "BoolUnifierY", name := "appendBinary", desc := "(IIII)V" } : Jvm.MethodName) prog_1_method_42_code (15 : Nat) (Option.none : Option Jvm.ClassFile.FieldType), Jvm.Cond.code ({ cls := "BoolUnifierY", name := "startAt", desc := "(II)I" } : Jvm.MethodName) prog_1_method_38_code (4 : Nat) (Option.some Jvm.ClassFile.FieldType.int), Jvm.Cond.code ({ cls := "BoolUnifierY", name := "valueAt", desc := "(II)J" } : Jvm.MethodName) prog_1_method_37_code (4 : Nat) (Option.some Jvm.ClassFile.FieldType.long), Jvm.Cond.code ({ cls := "BoolUnifierY", name := "combine", desc := "(IJJ)J" } : Jvm.MethodName) prog_1_method_33_code (6 : Nat) (Option.some Jvm.ClassFile.FieldType.long), Jvm.Cond.code ({ cls := "BoolUnifierY", name := "appendNot", desc := "(III)V" } : Jvm.MethodName) prog_1_method_41_code (7 : Nat) (Option.none : Option Jvm.ClassFile.FieldType), Jvm.Cond.code ({ cls := "BoolUnifierY", name := "eliminate", desc := "(JI)J" } : Jvm.MethodName) prog_1_method_43_code (11 : Nat) (Option.some Jvm.ClassFile.FieldType.long), Jvm.Cond.code ({ cls := "BoolUnifierY", name := "cofactorLow", desc := "(JI)J" } : Jvm.MethodName) prog_1_method_34_code (9 : Nat) (Option.some Jvm.ClassFile.FieldType.long), Jvm.Cond.code ({ cls := "BoolUnifierY", name := "cofactorHigh", desc := "(JI)J" } : Jvm.MethodName) prog_1_method_35_code (9 : Nat) (Option.some Jvm.ClassFile.FieldType.long), Jvm.Cond.code ({ cls := "BoolUnifierY", name := "recordStep", desc := "(IJJ)V" } : Jvm.MethodName) prog_1_method_44_code (7 : Nat) (Option.none : Option Jvm.ClassFile.FieldType), Jvm.Cond.code ({ cls := "BoolUnifierY", name := "backSubstitute", desc := "()V" } : Jvm.MethodName) prog_1_method_45_code (2 : Nat) (Option.none : Option Jvm.ClassFile.FieldType), Jvm.Cond.code ({ cls := "BoolUnifierY", name := "solveStep", desc := "(I)V" } : Jvm.MethodName) prog_1_method_46_code (13 : Nat) (Option.none : Option Jvm.ClassFile.FieldType), Jvm.Cond.code ({ cls := "BoolUnifierY", name := "compose", desc := "(J)J" } : Jvm.MethodName) prog_1_method_47_code (4 : Nat) (Option.some Jvm.ClassFile.FieldType.long), Jvm.Cond.code ({ cls := "BoolUnifierY", name := "loadLeaves", desc := "(J)V" } : Jvm.MethodName) prog_1_method_48_code (6 : Nat) (Option.none : Option Jvm.ClassFile.FieldType), Jvm.Cond.code ({ cls := "BoolUnifierY", name := "foldLevel", desc := "(I)V" } : Jvm.MethodName) prog_1_method_49_code (10 : Nat) (Option.none : Option Jvm.ClassFile.FieldType)]
set_option maxRecDepth 65536 in
theorem codes_eq : words1.filter isCode = codes1 := rfl
theorem w_codes : ∀ c ∈ words1.filter isCode, c.before args0 about1 = true := by
  rw [codes_eq]
  intro c hc
  simp only [codes1, List.mem_cons, List.not_mem_nil, or_false] at hc
  rcases hc with rfl | rfl | rfl | rfl | rfl | rfl | rfl | rfl | rfl | rfl | rfl | rfl | rfl | rfl | rfl | rfl | rfl | rfl | rfl | rfl | rfl | rfl | rfl | rfl | rfl | rfl | rfl | rfl | rfl | rfl | rfl | rfl | rfl | rfl | rfl | rfl | rfl | rfl | rfl | rfl | rfl | rfl | rfl | rfl | rfl | rfl | rfl | rfl | rfl | rfl | rfl | rfl | rfl | rfl | rfl | rfl | rfl | rfl
  · exact w_c0
  · exact w_c1
  · exact w_c2
  · exact w_c3
  · exact w_c4
  · exact w_c5
  · exact w_c6
  · exact w_c7
  · exact w_c8
  · exact w_c9
  · exact w_c10
  · exact w_c11
  · exact w_c12
  · exact w_c13
  · exact w_c14
  · exact w_c15
  · exact w_c16
  · exact w_c17
  · exact w_c18
  · exact w_c19
  · exact w_c20
  · exact w_c21
  · exact w_c22
  · exact w_c23
  · exact w_c24
  · exact w_c25
  · exact w_c26
  · exact w_c27
  · exact w_c28
  · exact w_c29
  · exact w_c30
  · exact w_c31
  · exact w_c32
  · exact w_c33
  · exact w_c34
  · exact w_c35
  · exact w_c36
  · exact w_c37
  · exact w_c38
  · exact w_c39
  · exact w_c40
  · exact w_c41
  · exact w_c42
  · exact w_c43
  · exact w_c44
  · exact w_c45
  · exact w_c46
  · exact w_c47
  · exact w_c48
  · exact w_c49
  · exact w_c50
  · exact w_c51
  · exact w_c52
  · exact w_c53
  · exact w_c54
  · exact w_c55
  · exact w_c56
  · exact w_c57
set_option maxRecDepth 65536 in
theorem w_t1 : (words1.take 24).all (fun c => isCode c || c.before args0 about1) = true := by decide +kernel
set_option maxRecDepth 65536 in
theorem w_t2 : ((words1.drop 24).take 24).all (fun c => isCode c || c.before args0 about1) = true := by decide +kernel
set_option maxRecDepth 65536 in
theorem w_t3 : (((words1.drop 24).drop 24).take 24).all (fun c => isCode c || c.before args0 about1) = true := by decide +kernel
set_option maxRecDepth 65536 in
theorem w_t4 : ((((words1.drop 24).drop 24).drop 24).take 24).all (fun c => isCode c || c.before args0 about1) = true := by decide +kernel
set_option maxRecDepth 65536 in
theorem w_t5 : (((((words1.drop 24).drop 24).drop 24).drop 24).take 24).all (fun c => isCode c || c.before args0 about1) = true := by decide +kernel
set_option maxRecDepth 65536 in
theorem w_t6 : ((((((words1.drop 24).drop 24).drop 24).drop 24).drop 24).take 24).all (fun c => isCode c || c.before args0 about1) = true := by decide +kernel
set_option maxRecDepth 65536 in
theorem w_t7 : (((((((words1.drop 24).drop 24).drop 24).drop 24).drop 24).drop 24).take 24).all (fun c => isCode c || c.before args0 about1) = true := by decide +kernel
set_option maxRecDepth 65536 in
theorem w_t8 : ((((((((words1.drop 24).drop 24).drop 24).drop 24).drop 24).drop 24).drop 24).take 24).all (fun c => isCode c || c.before args0 about1) = true := by decide +kernel
set_option maxRecDepth 65536 in
theorem w_t9 : (((((((((words1.drop 24).drop 24).drop 24).drop 24).drop 24).drop 24).drop 24).drop 24).take 24).all (fun c => isCode c || c.before args0 about1) = true := by decide +kernel
set_option maxRecDepth 65536 in
theorem w_t10 : ((((((((((words1.drop 24).drop 24).drop 24).drop 24).drop 24).drop 24).drop 24).drop 24).drop 24).take 24).all (fun c => isCode c || c.before args0 about1) = true := by decide +kernel
set_option maxRecDepth 65536 in
theorem w_t11 : (((((((((((words1.drop 24).drop 24).drop 24).drop 24).drop 24).drop 24).drop 24).drop 24).drop 24).drop 24).take 24).all (fun c => isCode c || c.before args0 about1) = true := by decide +kernel
set_option maxRecDepth 65536 in
theorem w_t12 : ((((((((((((words1.drop 24).drop 24).drop 24).drop 24).drop 24).drop 24).drop 24).drop 24).drop 24).drop 24).drop 24).take 24).all (fun c => isCode c || c.before args0 about1) = true := by decide +kernel
set_option maxRecDepth 65536 in
theorem w_t13 : ((((((((((((words1.drop 24).drop 24).drop 24).drop 24).drop 24).drop 24).drop 24).drop 24).drop 24).drop 24).drop 24).drop 24).all (fun c => isCode c || c.before args0 about1) = true := by decide +kernel
theorem w_tables : (allAtoms (Jvm.Cond.code x code maxLocals ret :: tables_1)).before args0 about1 = true := by
  rw [allAtoms_all]
  show words1.all (fun c => c.before args0 about1) = true
  refine all_split ?_ w_codes
  rw [← List.take_append_drop 24 words1, List.all_append, w_t1, ← List.take_append_drop 24 (words1.drop 24), List.all_append, w_t2, ← List.take_append_drop 24 ((words1.drop 24).drop 24), List.all_append, w_t3, ← List.take_append_drop 24 (((words1.drop 24).drop 24).drop 24), List.all_append, w_t4, ← List.take_append_drop 24 ((((words1.drop 24).drop 24).drop 24).drop 24), List.all_append, w_t5, ← List.take_append_drop 24 (((((words1.drop 24).drop 24).drop 24).drop 24).drop 24), List.all_append, w_t6, ← List.take_append_drop 24 ((((((words1.drop 24).drop 24).drop 24).drop 24).drop 24).drop 24), List.all_append, w_t7, ← List.take_append_drop 24 (((((((words1.drop 24).drop 24).drop 24).drop 24).drop 24).drop 24).drop 24), List.all_append, w_t8, ← List.take_append_drop 24 ((((((((words1.drop 24).drop 24).drop 24).drop 24).drop 24).drop 24).drop 24).drop 24), List.all_append, w_t9, ← List.take_append_drop 24 (((((((((words1.drop 24).drop 24).drop 24).drop 24).drop 24).drop 24).drop 24).drop 24).drop 24), List.all_append, w_t10, ← List.take_append_drop 24 ((((((((((words1.drop 24).drop 24).drop 24).drop 24).drop 24).drop 24).drop 24).drop 24).drop 24).drop 24), List.all_append, w_t11, ← List.take_append_drop 24 (((((((((((words1.drop 24).drop 24).drop 24).drop 24).drop 24).drop 24).drop 24).drop 24).drop 24).drop 24).drop 24), List.all_append, w_t12, w_t13]
  rfl
set_option maxRecDepth 65536 in
theorem w_rest : rest_1_c.before args0 about1 = true := by decide +kernel
set_option maxRecDepth 65536 in
theorem w_case : (Jvm.Cond.and given_1 narrow_1).before args0 about1 = true := by decide +kernel
theorem w_applies : (headSpec (Jvm.Cond.code x code maxLocals ret :: tables_1) room_1).applies x e0.platform about1 = true :=
  (Spec.applies_iff w_frames).mpr ⟨w_running, w_runnable, w_alone, w_named, w_hears, w_ripe, w_room, w_tables⟩
theorem atStart : AtStart classFile x code maxLocals ret World_1 tables_1 room_1 Calls_1 rest_1 Pre_1 launch0 p0 e0 about1 theMethod args0 below0 :=
  ⟨lists_1, trivial, launch0.admits_env _ _ _, launch0.least_env, fairChoices_fair.cas, fairChoices_fair.clock, w_frames, w_args, w_heap, w_applies, trivial, w_rest, w_case⟩
end start1
theorem witness_1 : WitnessClaimed_1 := ⟨start1.p0, start1.e0, start1.about1, start1.theMethod, start1.args0, start1.below0, start1.atStart⟩
end Jvm.Pilot.@@N@@
