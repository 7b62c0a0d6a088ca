import JvmDerived
import JvmDerived.Pilot.@@N@@Statement
import JvmDerived.Pilot.@@N@@Code
set_option linter.unusedVariables false
set_option linter.unusedSimpArgs false
namespace Jvm.Pilot.@@N@@
open Jvm Jvm.ClassFile Sem Op Lib Jvm.Free Jvm.Stand Jvm.LawKit Jvm.RoadKit Bundle Jvm.Pilot.@@N@@.Jvm.D
/-! THE ABSTRACT MACHINE: a config (pc, locals, stack, contents) over numbered cells, and its steps over the library's laws (family of example/lawnew). -/
abbrev Sg := (Nat → Nat → Int32) × (Nat → Nat → Int64)
def gi (σ : Sg) (k i : Nat) : Int32 := σ.1 k i
def gj (σ : Sg) (k i : Nat) : Int64 := σ.2 k i
def si (σ : Sg) (k i : Nat) (v : Int32) : Sg := (fun k' i' => if k' = k ∧ i' = i then v else σ.1 k' i', σ.2)
def sj (σ : Sg) (k i : Nat) (v : Int64) : Sg := (σ.1, fun k' i' => if k' = k ∧ i' = i then v else σ.2 k' i')
def zs : Sg := (fun _ _ => 0, fun _ _ => 0)
theorem gi_si (σ : Sg) (k i k' i' : Nat) (v : Int32) : gi (si σ k i v) k' i' = if k' = k ∧ i' = i then v else gi σ k' i' := of_eq_true (eq_self _)
theorem gj_sj (σ : Sg) (k i k' i' : Nat) (v : Int64) : gj (sj σ k i v) k' i' = if k' = k ∧ i' = i then v else gj σ k' i' := of_eq_true (eq_self _)
theorem gi_sj (σ : Sg) (k i k' i' : Nat) (v : Int64) : gi (sj σ k i v) k' i' = gi σ k' i' := of_eq_true (eq_self _)
theorem gj_si (σ : Sg) (k i k' i' : Nat) (v : Int32) : gj (si σ k i v) k' i' = gj σ k' i' := of_eq_true (eq_self _)
theorem gi_zs (k i : Nat) : gi zs k i = 0 := of_eq_true (eq_self _)
theorem gj_zs (k i : Nat) : gj zs k i = 0 := of_eq_true (eq_self _)
def nx (i : Int32) : Nat := i.toInt.toNat
/-- a numbered cell: an object of the class with its first q arrays laid; an array of n places (its own, or one that is only read) -/
abbrev CD := Nat ⊕ (FieldType × Nat × Option (Nat → Int32))
abbrev FS := List (String × String × Nat)
def cv (A : Nat → Addr) : Value → Value
  | .ref k => .ref (A k)
  | v => v
def fv (σ : Sg) (k j q : Nat) : Nat → Value
  | 0 => .int (gi σ k j)
  | 1 => .long (gj σ k j)
  | r + 2 => if r < q then .ref (k + (r + 1)) else .null
def ae (σ : Sg) (k i : Nat) : FieldType → Value
  | .long => .long (gj σ k i)
  | _ => .int (gi σ k i)
def aeo (σ : Sg) (k i : Nat) (ty : FieldType) : Option (Nat → Int32) → Value
  | none => ae σ k i ty
  | some f => .int (f i)
def wrb : CD → Bool
  | .inl _ => true
  | .inr (_, _, o) => o.isNone
def CellOk (Z : State) (C : String) (fs : FS) (h : Heap) (A : Nat → Addr) (σ : Sg) (k : Nat) : CD → Prop
  | .inl q => Exa Z h (A k) C ∧ ∀ (j : Nat) (n d : String) (cd : Nat), fs[j]? = some (n, d, cd) → Fld Z h (A k) C n d (cv A (fv σ k j q cd))
  | .inr (ty, n, o) => ∃ c : Cell, Arr Z h (A k) c ty ∧ c.slots.size = n ∧ ∀ i, i < n → c.slots[i]? = some (aeo σ k i ty o)
def Wd (Z : State) (C : String) (fs : FS) (h : Heap) (A : Nat → Addr) (w : Nat → Option CD) (σ : Sg) : Prop :=
  (∀ k d, w k = some d → CellOk Z C fs h A σ k d) ∧ ∀ k k' d d', w k = some d → w k' = some d' → A k = A k' → k = k'
def Out (h0 h : Heap) (A : Nat → Addr) (w : Nat → Option CD) : Prop := h0.size ≤ h.size ∧ ∀ (b : Addr) (c : Cell), h0[b]? = some c → (∀ k d, w k = some d → wrb d = true → A k ≠ b) → h[b]? = some c
def Nw (n0 : Nat) (A : Nat → Addr) (w : Nat → Option CD) : Prop := ∀ k d, w k = some d → wrb d = true → n0 ≤ A k
theorem Out.refl (h : Heap) (A : Nat → Addr) (w : Nat → Option CD) : Out h h A w := ⟨Nat.le_refl _, fun _ _ q _ => q⟩
theorem cv_cat (A : Nat → Addr) (v : Value) : (cv A v).category = v.category := by cases v <;> rfl
/-! locals -/
def WP (rl : List Slot) : Prop := ∀ k, rl[k]? = some .second ↔ ∃ k', k = k' + 1 ∧ ∃ w : Value, rl[k']? = some (.val w) ∧ w.category = 2
def LsOk (A : Nat → Addr) (Ls rl : List Slot) : Prop := rl.length = Ls.length ∧ WP rl ∧ ∀ (k : Nat) (v : Value), Ls[k]? = some (.val v) → rl[k]? = some (.val (cv A v))
def cl1 (Ls : List Slot) : Nat → List Slot
  | 0 => Ls
  | k + 1 => match Ls[k]? with
    | some (.val u) => if u.category = 2 then Ls.set k .unset else Ls
    | _ => Ls
def st1 (Ls : List Slot) (k : Nat) (v : Value) : List Slot := (cl1 Ls k).set k (.val v)
def st2 (Ls : List Slot) (k : Nat) (v : Value) : List Slot := ((cl1 Ls k).set k (.val v)).set (k + 1) .second
def entX : List Value → List Slot
  | [] => []
  | v :: vs => if v.category = 2 then .val v :: .second :: entX vs else .val v :: entX vs
def entL (vs : List Value) (n : Nat) : List Slot := entX vs ++ List.replicate (n - (entX vs).length) .unset
theorem WP.unset (n : Nat) : WP (List.replicate n .unset) := fun k => by
  constructor
  · intro h; rw [List.getElem?_replicate] at h; split at h <;> cases h
  · rintro ⟨k', -, w, h, -⟩; rw [List.getElem?_replicate] at h; split at h <;> cases h
theorem WP.cons1 {l : List Slot} {v : Value} (h : WP l) (hv : v.category ≠ 2) : WP (.val v :: l) := fun k => by
  cases k with
  | zero => exact ⟨fun q => by simp at q, fun ⟨k', q, _⟩ => by omega⟩
  | succ k =>
    rw [List.getElem?_cons_succ, h k]
    constructor
    · rintro ⟨k', rfl, w, h1, h2⟩; exact ⟨k' + 1, rfl, w, by rw [List.getElem?_cons_succ]; exact h1, h2⟩
    · rintro ⟨k', e, w, h1, h2⟩
      cases k' with
      | zero => simp at h1; subst h1; exact absurd h2 hv
      | succ k' => exact ⟨k', by omega, w, by rw [List.getElem?_cons_succ] at h1; exact h1, h2⟩
theorem WP.cons2 {l : List Slot} {v : Value} (h : WP l) (hv : v.category = 2) : WP (.val v :: .second :: l) := fun k => by
  match k with
  | 0 => exact ⟨fun q => by simp at q, fun ⟨k', q, _⟩ => by omega⟩
  | 1 => exact ⟨fun _ => ⟨0, rfl, v, rfl, hv⟩, fun _ => rfl⟩
  | k + 2 =>
    rw [List.getElem?_cons_succ, List.getElem?_cons_succ, h k]
    constructor
    · rintro ⟨k', rfl, w, h1, h2⟩; exact ⟨k' + 2, rfl, w, by rw [List.getElem?_cons_succ, List.getElem?_cons_succ]; exact h1, h2⟩
    · rintro ⟨k', e, w, h1, h2⟩
      match k' with
      | 0 => omega
      | 1 => simp at h1
      | k' + 2 => exact ⟨k', by omega, w, by rw [List.getElem?_cons_succ, List.getElem?_cons_succ] at h1; exact h1, h2⟩
theorem entX_wp (vs : List Value) (n : Nat) : WP (entX vs ++ List.replicate n .unset) := by
  induction vs with
  | nil => exact WP.unset n
  | cons v vs ih =>
    by_cases hv : v.category = 2
    · simp only [entX, if_pos hv, List.cons_append]; exact ih.cons2 hv
    · simp only [entX, if_neg hv, List.cons_append]; exact ih.cons1 hv
theorem entX_map (A : Nat → Addr) (vs : List Value) : (entX (vs.map (cv A))).length = (entX vs).length ∧ ∀ (k : Nat) (v : Value) (r : List Slot) , (entX vs ++ r)[k]? = some (.val v) → (∀ j : Nat, r[j]? ≠ some (Slot.val v)) → (entX (vs.map (cv A)) ++ r)[k]? = some (.val (cv A v)) := by
  induction vs with
  | nil => exact ⟨rfl, fun k v r h q => absurd h (by simpa [entX] using q k)⟩
  | cons u vs ih =>
    have e : (cv A u).category = 2 ↔ u.category = 2 := by rw [cv_cat]
    by_cases hv : u.category = 2
    · simp only [List.map_cons, entX, if_pos hv, if_pos (e.mpr hv), List.cons_append, List.length_cons, ih.1, true_and]
      intro k v r h q
      match k with
      | 0 => simp at h ⊢; rw [h]
      | 1 => simp at h
      | k + 2 => rw [List.getElem?_cons_succ, List.getElem?_cons_succ] at h ⊢; exact ih.2 k v r h q
    · simp only [List.map_cons, entX, if_neg hv, if_neg (fun x => hv (e.mp x)), List.cons_append, List.length_cons, ih.1, true_and]
      intro k v r h q
      match k with
      | 0 => simp at h ⊢; rw [h]
      | k + 1 => rw [List.getElem?_cons_succ] at h ⊢; exact ih.2 k v r h q
theorem entL_ok (A : Nat → Addr) (vs : List Value) (n : Nat) : LsOk A (entL vs n) (entL (vs.map (cv A)) n) := by
  refine ⟨by simp only [entL, List.length_append, List.length_replicate, (entX_map A vs).1], entX_wp _ _, fun k v h => ?_⟩
  unfold entL at h ⊢
  rw [(entX_map A vs).1]
  exact (entX_map A vs).2 k v _ h fun j q => by rw [List.getElem?_replicate] at q; split at q <;> cases q
theorem entL_arr (vs : List Value) (n : Nat) : argsToLocals vs.toArray n = (entL vs n).toArray := by
  have key : ∀ (vs : List Value) (acc : Array Slot), vs.foldl (fun acc v => if v.category = 2 then (acc.push (.val v)).push .second else acc.push (.val v)) acc = acc ++ (entX vs).toArray := by
    intro vs
    induction vs with
    | nil => intro acc; simp [entX]
    | cons v vs ih =>
      intro acc
      rw [List.foldl_cons, ih]
      by_cases hv : v.category = 2
      · simp only [entX, if_pos hv]; apply Array.toList_inj.mp; simp
      · simp only [entX, if_neg hv]; apply Array.toList_inj.mp; simp
  unfold argsToLocals entL
  simp only [List.foldl_toArray', key]
  apply Array.toList_inj.mp; simp
theorem cl1_len (Ls : List Slot) (k : Nat) : (cl1 Ls k).length = Ls.length := by
  cases k with
  | zero => rfl
  | succ k => simp only [cl1]; split <;> first | rfl | (split <;> simp)
theorem cl1_val {Ls : List Slot} {k k2 : Nat} {v : Value} (h : (cl1 Ls k)[k2]? = some (.val v)) : Ls[k2]? = some (.val v) ∧ (k = k2 + 1 → v.category ≠ 2) := by
  cases k with
  | zero => exact ⟨h, fun q => by omega⟩
  | succ k =>
    simp only [cl1] at h
    split at h
    · rename_i u hu
      split at h
      · rename_i h2
        rw [List.getElem?_set] at h
        split at h
        · split at h <;> cases h
        · rename_i ne; exact ⟨h, fun q => by omega⟩
      · rename_i h2
        refine ⟨h, fun q => ?_⟩
        have : k = k2 := by omega
        subst this
        rw [hu] at h; cases h; exact h2
    · rename_i hno
      refine ⟨h, fun q => ?_⟩
      have : k = k2 := by omega
      subst this
      exact absurd h (hno v)
/-- what a store leaves at each place -/
theorem am_st1 {A : Nat → Addr} {Ls rl : List Slot} {k : Nat} {v : Value} (L : LsOk A Ls rl) (hk : k < Ls.length) (hv : v.category = 1) : ∃ rl' : List Slot, storeLocals rl.toArray k (cv A v) = some rl'.toArray ∧ LsOk A (st1 Ls k v) rl' := by
  obtain ⟨hl, hw, hc⟩ := L
  have hk' : k < rl.length := by omega
  have hcat : (cv A v).category = 1 := by rw [cv_cat]; exact hv
  have hr : rl[k]? = some rl[k] := List.getElem?_eq_getElem hk'
  have hlen : (st1 Ls k v).length = Ls.length := by simp [st1, cl1_len]
  have hclaim : ∀ (j : Nat) (u : Value), (st1 Ls k v)[j]? = some (.val u) → (j = k ∧ u = v) ∨ (j ≠ k ∧ Ls[j]? = some (.val u) ∧ (k = j + 1 → u.category ≠ 2)) := by
    intro j u h
    unfold st1 at h
    rw [List.getElem?_set] at h
    split at h
    · rename_i e; subst e
      split at h
      · cases h; exact Or.inl ⟨rfl, rfl⟩
      · cases h
    · rename_i ne
      exact Or.inr ⟨fun e => ne e.symm, cl1_val h⟩
  cases hs : rl[k] with
  | unset =>
    rw [hs] at hr
    refine ⟨rl.set k (.val (cv A v)), by simp [storeLocals, storeSelf, setAt, hr, hs, hcat, hk'], by simp [hlen, hl], fun j => ?_, fun j u h => ?_⟩
    · rw [List.getElem?_set]
      constructor
      · intro h
        split at h
        · first | cases h | (split at h <;> cases h)
        · obtain ⟨j', rfl, w, h1, h2⟩ := (hw j).mp h
          exact ⟨j', rfl, w, by rw [List.getElem?_set]; rw [if_neg (fun e => by subst e; rw [hr] at h1; cases h1)]; exact h1, h2⟩
      · rintro ⟨j', rfl, w, h1, h2⟩
        rw [List.getElem?_set] at h1
        split at h1
        · first | (cases h1; omega) | (split at h1 <;> first | (cases h1; omega) | cases h1)
        · rw [if_neg (fun e => by have := (hw (j' + 1)).mpr ⟨j', rfl, w, h1, h2⟩; rw [← e, hr] at this; cases this)]
          exact (hw (j' + 1)).mpr ⟨j', rfl, w, h1, h2⟩
    · rcases hclaim j u h with ⟨rfl, rfl⟩ | ⟨ne, h1, h2⟩
      · rw [List.getElem?_set]; simp [hk']
      · rw [List.getElem?_set, if_neg (fun e => ne e.symm)]; exact hc j u h1
  | second =>
    rw [hs] at hr
    obtain ⟨k', rfl, w0, hw1, hw2⟩ := (hw k).mp hr
    refine ⟨(rl.set k' .unset).set (k' + 1) (.val (cv A v)), by simp [storeLocals, storeSelf, setAt, hr, hs, hcat, hk', show k' < rl.length by omega], by simp [hlen, hl], fun j => ?_, fun j u h => ?_⟩
    · rw [List.getElem?_set, List.getElem?_set, List.length_set]
      constructor
      · intro h
        split at h
        · first | cases h | (split at h <;> cases h)
        · rename_i n1
          split at h
          · first | cases h | (split at h <;> cases h)
          · rename_i n2
            obtain ⟨j', rfl, w, h1, h2⟩ := (hw j).mp h
            refine ⟨j', rfl, w, ?_, h2⟩
            rw [List.getElem?_set, List.getElem?_set]
            rw [if_neg (fun e => by subst e; rw [hr] at h1; cases h1), if_neg (fun e => by omega)]; exact h1
      · rintro ⟨j', rfl, w, h1, h2⟩
        rw [List.getElem?_set, List.getElem?_set, List.length_set] at h1
        split at h1
        · first | (cases h1; omega) | (split at h1 <;> first | (cases h1; omega) | cases h1)
        · rename_i n1
          split at h1
          · first | cases h1 | (split at h1 <;> cases h1)
          · rename_i n2
            have q := (hw (j' + 1)).mpr ⟨j', rfl, w, h1, h2⟩
            rw [if_neg (fun e => by omega), if_neg (fun e => by
              have : rl[k']? = some .second := by rw [e]; exact q
              rw [hw1] at this; cases this)]
            exact q
    · rcases hclaim j u h with ⟨rfl, rfl⟩ | ⟨ne, h1, h2⟩
      · rw [List.getElem?_set]; simp [hk']
      · rw [List.getElem?_set, if_neg (fun e => ne e.symm), List.getElem?_set]
        by_cases e : k' = j
        · subst e
          have := hc k' u h1
          rw [hw1] at this; cases this
          rw [cv_cat] at hw2
          exact absurd hw2 (h2 rfl)
        · rw [if_neg e]; exact hc j u h1
  | val r =>
    rw [hs] at hr
    by_cases hr2 : r.category = 2
    · have hsec : rl[k + 1]? = some .second := (hw (k + 1)).mpr ⟨k, rfl, r, hr, hr2⟩
      have hk1 : k + 1 < rl.length := (List.getElem?_eq_some_iff.mp hsec).1
      refine ⟨(rl.set (k + 1) .unset).set k (.val (cv A v)), by simp [storeLocals, storeSelf, setAt, hr, hs, hr2, hcat, hk', hk1], by simp [hlen, hl], fun j => ?_, fun j u h => ?_⟩
      · rw [List.getElem?_set, List.getElem?_set, List.length_set]
        constructor
        · intro h
          split at h
          · first | cases h | (split at h <;> cases h)
          · rename_i n1
            split at h
            · first | cases h | (split at h <;> cases h)
            · rename_i n2
              obtain ⟨j', rfl, w, h1, h2⟩ := (hw j).mp h
              refine ⟨j', rfl, w, ?_, h2⟩
              rw [List.getElem?_set, List.getElem?_set]
              rw [if_neg (fun e => by omega), if_neg (fun e => by rw [← e, hsec] at h1; cases h1)]; exact h1
        · rintro ⟨j', rfl, w, h1, h2⟩
          rw [List.getElem?_set, List.getElem?_set, List.length_set] at h1
          split at h1
          · first | (cases h1; omega) | (split at h1 <;> first | (cases h1; omega) | cases h1)
          · rename_i n1
            split at h1
            · first | cases h1 | (split at h1 <;> cases h1)
            · rename_i n2
              have q := (hw (j' + 1)).mpr ⟨j', rfl, w, h1, h2⟩
              rw [if_neg (fun e => by rw [← e, hr] at q; cases q), if_neg (fun e => by omega)]
              exact q
      · rcases hclaim j u h with ⟨rfl, rfl⟩ | ⟨ne, h1, h2⟩
        · rw [List.getElem?_set]; simp [hk']
        · rw [List.getElem?_set, if_neg (fun e => ne e.symm), List.getElem?_set]
          by_cases e : k + 1 = j
          · subst e
            have := hc _ u h1
            rw [hsec] at this; cases this
          · rw [if_neg e]; exact hc j u h1
    · refine ⟨rl.set k (.val (cv A v)), by simp [storeLocals, storeSelf, setAt, hr, hs, hr2, hcat, hk'], by simp [hlen, hl], fun j => ?_, fun j u h => ?_⟩
      · rw [List.getElem?_set]
        constructor
        · intro h
          split at h
          · first | cases h | (split at h <;> cases h)
          · obtain ⟨j', rfl, w, h1, h2⟩ := (hw j).mp h
            exact ⟨j', rfl, w, by rw [List.getElem?_set]; rw [if_neg (fun e => by subst e; rw [hr] at h1; cases h1; exact hr2 h2)]; exact h1, h2⟩
        · rintro ⟨j', rfl, w, h1, h2⟩
          rw [List.getElem?_set] at h1
          split at h1
          · first | (cases h1; omega) | (split at h1 <;> first | (cases h1; omega) | cases h1)
          · rw [if_neg (fun e => by have := (hw (j' + 1)).mpr ⟨j', rfl, w, h1, h2⟩; rw [← e, hr] at this; cases this)]
            exact (hw (j' + 1)).mpr ⟨j', rfl, w, h1, h2⟩
      · rcases hclaim j u h with ⟨rfl, rfl⟩ | ⟨ne, h1, h2⟩
        · rw [List.getElem?_set]; simp [hk']
        · rw [List.getElem?_set, if_neg (fun e => ne e.symm)]; exact hc j u h1
theorem wp2 {rl rl' : List Slot} {k : Nat} {v : Value} (hw : WP rl) (hv : v.category = 2) (h0 : rl'[k]? = some (.val v)) (h1 : rl'[k + 1]? = some .second)
    (hj : ∀ j, j ≠ k → j ≠ k + 1 → (rl'[j]? = rl[j]? ∧ ¬ (j + 1 = k ∧ rl[k]? = some .second) ∧ ¬ (j = k + 2 ∧ ∃ u : Value, rl[k + 1]? = some (.val u) ∧ u.category = 2)) ∨ (rl'[j]? = some .unset ∧ ((j + 1 = k ∧ rl[k]? = some .second) ∨ (j = k + 2 ∧ ∃ u : Value, rl[k + 1]? = some (.val u) ∧ u.category = 2)))) : WP rl' := fun j => by
  constructor
  · intro h
    by_cases e1 : j = k
    · subst e1; rw [h0] at h; cases h
    by_cases e2 : j = k + 1
    · exact ⟨k, e2, v, h0, hv⟩
    rcases hj j e1 e2 with ⟨q, n1, n2⟩ | ⟨q, -⟩
    · rw [q] at h
      obtain ⟨j', rfl, w, a1, a2⟩ := (hw j).mp h
      refine ⟨j', rfl, w, ?_, a2⟩
      have d1 : j' ≠ k := fun e => e2 (by omega)
      have d2 : j' ≠ k + 1 := fun e => n2 ⟨by omega, w, by rw [← e]; exact a1, a2⟩
      rcases hj j' d1 d2 with ⟨q', -⟩ | ⟨-, ⟨z1, z2⟩ | ⟨z1, u, z2, z3⟩⟩
      · rw [q']; exact a1
      · exact absurd z1 e1
      · have := (hw (k + 2)).mpr ⟨k + 1, rfl, u, z2, z3⟩
        rw [← z1, a1] at this; cases this
    · rw [q] at h; cases h
  · rintro ⟨j', rfl, w, a1, a2⟩
    by_cases e1 : j' = k
    · subst e1; exact h1
    by_cases e2 : j' = k + 1
    · subst e2; rw [h1] at a1; cases a1
    rcases hj j' e1 e2 with ⟨q, n1, n2⟩ | ⟨q, -⟩
    · rw [q] at a1
      have s := (hw (j' + 1)).mpr ⟨j', rfl, w, a1, a2⟩
      have d1 : j' + 1 ≠ k := fun e => n1 ⟨e, by rw [← e]; exact s⟩
      have d2 : j' + 1 ≠ k + 1 := fun e => e1 (by omega)
      rcases hj (j' + 1) d1 d2 with ⟨q', -⟩ | ⟨-, ⟨z1, z2⟩ | ⟨z1, -⟩⟩
      · rw [q']; exact s
      · obtain ⟨k', y1, w', y2, y3⟩ := (hw k).mp z2
        have : k' = j' + 1 := by omega
        subst this
        rw [s] at y2; cases y2
      · exact absurd (by omega) e2
    · rw [q] at a1; cases a1
theorem am_st2 {A : Nat → Addr} {Ls rl : List Slot} {k : Nat} {v : Value} (L : LsOk A Ls rl) (hk : k + 1 < Ls.length) (hv : v.category = 2) : ∃ rl' : List Slot, storeLocals rl.toArray k (cv A v) = some rl'.toArray ∧ LsOk A (st2 Ls k v) rl' := by
  obtain ⟨hl, hw, hc⟩ := L
  have hk' : k < rl.length := by omega
  have hk1 : k + 1 < rl.length := by omega
  have hcat : (cv A v).category = 2 := by rw [cv_cat]; exact hv
  have hr : rl[k]? = some rl[k] := List.getElem?_eq_getElem hk'
  have hr1 : rl[k + 1]? = some rl[k + 1] := List.getElem?_eq_getElem hk1
  have hlen : (st2 Ls k v).length = Ls.length := by simp [st2, cl1_len]
  have fin : ∀ rl' : List Slot, rl'.length = rl.length → rl'[k]? = some (.val (cv A v)) → rl'[k + 1]? = some .second →
      (∀ j, j ≠ k → j ≠ k + 1 → (rl'[j]? = rl[j]? ∧ ¬ (j + 1 = k ∧ rl[k]? = some .second) ∧ ¬ (j = k + 2 ∧ ∃ u : Value, rl[k + 1]? = some (.val u) ∧ u.category = 2)) ∨ (rl'[j]? = some .unset ∧ ((j + 1 = k ∧ rl[k]? = some .second) ∨ (j = k + 2 ∧ ∃ u : Value, rl[k + 1]? = some (.val u) ∧ u.category = 2)))) → LsOk A (st2 Ls k v) rl' := by
    intro rl' e0 h0 h1 hj
    refine ⟨by omega, wp2 hw hcat h0 h1 hj, fun j u h => ?_⟩
    unfold st2 at h
    rw [List.getElem?_set] at h
    split at h
    · first | cases h | (split at h <;> cases h)
    · rename_i n2
      rw [List.getElem?_set] at h
      split at h
      · rename_i e; subst e
        split at h
        · cases h; exact h0
        · cases h
      · rename_i n1
        obtain ⟨a1, a2⟩ := cl1_val h
        have a3 := hc j u a1
        rcases hj j (fun e => n1 e.symm) (fun e => n2 e.symm) with ⟨q, -⟩ | ⟨-, ⟨z1, z2⟩ | ⟨z1, y, z2, z3⟩⟩
        · rw [q]; exact a3
        · obtain ⟨k', y1, w', y2, y3⟩ := (hw k).mp z2
          have : k' = j := by omega
          subst this
          rw [a3] at y2; cases y2
          rw [cv_cat] at y3
          exact absurd y3 (a2 y1)
        · have := (hw (k + 2)).mpr ⟨k + 1, rfl, y, z2, z3⟩
          rw [← z1, a3] at this; cases this
  by_cases c2 : ∃ u : Value, rl[k + 1]? = some (.val u) ∧ u.category = 2
  · obtain ⟨u, u1, u2⟩ := c2
    have hs1 : rl[k + 1] = .val u := by rw [u1] at hr1; exact (Option.some.inj hr1).symm
    have h3 : rl[k + 2]? = some .second := (hw (k + 2)).mpr ⟨k + 1, rfl, u, u1, u2⟩
    have hk2 : k + 2 < rl.length := (List.getElem?_eq_some_iff.mp h3).1
    cases hs : rl[k] with
    | unset =>
      rw [hs] at hr
      refine ⟨((rl.set k (.val (cv A v))).set (k + 2) .unset).set (k + 1) .second, by simp [storeLocals, storeSelf, setAt, hr, hs, hcat, hk', hk1, hk2, u1, u2, hs1], fin _ (by simp) (by simp [List.getElem?_set, hk']) (by simp [List.getElem?_set, hk1]) fun j n1 n2 => ?_⟩
      by_cases e : j = k + 2
      · subst e; exact Or.inr ⟨by simp [List.getElem?_set, hk2], Or.inr ⟨rfl, u, u1, u2⟩⟩
      · exact Or.inl ⟨by simp [List.getElem?_set, Ne.symm n1, Ne.symm n2, Ne.symm e], fun q => (by rw [hr] at q; cases q.2), fun q => e q.1⟩
    | second =>
      rw [hs] at hr
      obtain ⟨k', rfl, w0, hw1, hw2⟩ := (hw k).mp hr
      have ev : ∀ l1 : List Slot, l1.length = rl.length → l1[k' + 1 + 1]? = some (.val u) → storeSelf l1.toArray (k' + 1) (cv A v) = some (((l1.set (k' + 1) (.val (cv A v))).set (k' + 1 + 2) .unset).set (k' + 1 + 1) .second).toArray := by
        intro l1 e1 e2
        have a1 : k' + 1 < l1.length := by omega
        have a2 : k' + 1 + 1 < l1.length := by omega
        have a3 : k' + 1 + 2 < l1.length := by omega
        have a4 : l1[k' + 1 + 1] = .val u := by rw [List.getElem?_eq_getElem a2] at e2; exact Option.some.inj e2
        simp [storeSelf, setAt, hcat, a1, a2, a3, a4, u2]
      have hk0 : k' < rl.length := by omega
      refine ⟨(((rl.set k' .unset).set (k' + 1) (.val (cv A v))).set (k' + 1 + 2) .unset).set (k' + 1 + 1) .second, by
        simp only [storeLocals, List.getElem?_toArray, hr, Option.bind_eq_bind, Option.bind_some, setAt, List.size_toArray, Nat.add_sub_cancel, if_pos hk0, List.setIfInBounds_toArray]
        exact ev _ (by simp) (by rw [List.getElem?_set, if_neg (by omega)]; exact u1), fin _ (by simp) (by simp [List.getElem?_set, hk']) (by simp [List.getElem?_set, hk1]) fun j n1 n2 => ?_⟩
      by_cases e : j = k' + 1 + 2
      · subst e; exact Or.inr ⟨by simp [List.getElem?_set, hk2], Or.inr ⟨rfl, u, u1, u2⟩⟩
      by_cases e' : j = k'
      · subst e'; exact Or.inr ⟨by rw [List.getElem?_set, if_neg (by omega), List.getElem?_set, if_neg (by omega), List.getElem?_set, if_neg (by omega), List.getElem?_set, if_pos rfl, if_pos hk0], Or.inl ⟨rfl, hr⟩⟩
      · exact Or.inl ⟨by simp [List.getElem?_set, Ne.symm n1, Ne.symm n2, Ne.symm e, Ne.symm e'], fun q => e' (by omega), fun q => e q.1⟩
    | val r =>
      rw [hs] at hr
      have hr2 : r.category ≠ 2 := fun q => by
        have := (hw (k + 1)).mpr ⟨k, rfl, r, hr, q⟩
        rw [u1] at this; cases this
      refine ⟨((rl.set k (.val (cv A v))).set (k + 2) .unset).set (k + 1) .second, by simp [storeLocals, storeSelf, setAt, hr, hs, hcat, hk', hk1, hk2, u1, u2, hs1, hr2], fin _ (by simp) (by simp [List.getElem?_set, hk']) (by simp [List.getElem?_set, hk1]) fun j n1 n2 => ?_⟩
      by_cases e : j = k + 2
      · subst e; exact Or.inr ⟨by simp [List.getElem?_set, hk2], Or.inr ⟨rfl, u, u1, u2⟩⟩
      · exact Or.inl ⟨by simp [List.getElem?_set, Ne.symm n1, Ne.symm n2, Ne.symm e], fun q => (by rw [hr] at q; cases q.2), fun q => e q.1⟩
  · have hself : ∀ l1 : List Slot, l1.length = rl.length → (∀ u : Value, l1[k + 1]? = some (.val u) → u.category ≠ 2) → storeSelf l1.toArray k (cv A v) = some ((l1.set k (.val (cv A v))).set (k + 1) .second).toArray := by
      intro l1 e1 e2
      have a1 : k < l1.length := by omega
      have a2 : k + 1 < l1.length := by omega
      have a3 : l1[k + 1]? = some l1[k + 1] := List.getElem?_eq_getElem a2
      cases hq : l1[k + 1] with
      | unset => simp [storeSelf, setAt, hcat, a1, a2, hq]
      | second => simp [storeSelf, setAt, hcat, a1, a2, hq]
      | val y =>
        have : y.category ≠ 2 := e2 y (by rw [a3, hq])
        simp [storeSelf, setAt, hcat, a1, a2, hq, this]
    have hno : ∀ u : Value, rl[k + 1]? = some (.val u) → u.category ≠ 2 := fun u h1 h2 => c2 ⟨u, h1, h2⟩
    cases hs : rl[k] with
    | unset =>
      rw [hs] at hr
      refine ⟨(rl.set k (.val (cv A v))).set (k + 1) .second, by simp only [storeLocals, List.getElem?_toArray, hr, Option.bind_eq_bind, Option.bind_some]; exact hself rl rfl hno, fin _ (by simp) (by simp [List.getElem?_set, hk']) (by simp [List.getElem?_set, hk1]) fun j n1 n2 => ?_⟩
      exact Or.inl ⟨by simp [List.getElem?_set, Ne.symm n1, Ne.symm n2], fun q => (by rw [hr] at q; cases q.2), fun q => c2 q.2⟩
    | second =>
      rw [hs] at hr
      obtain ⟨k', rfl, w0, hw1, hw2⟩ := (hw k).mp hr
      have hk0 : k' < rl.length := by omega
      refine ⟨((rl.set k' .unset).set (k' + 1) (.val (cv A v))).set (k' + 1 + 1) .second, ?_, fin _ (by simp) (by simp [List.getElem?_set, hk']) (by simp [List.getElem?_set, hk1]) fun j n1 n2 => ?_⟩
      · have := hself (rl.set k' .unset) (by simp) (fun u h => hno u (by rw [List.getElem?_set, if_neg (by omega)] at h; exact h))
        simp only [storeLocals, List.getElem?_toArray, hr, Option.bind_eq_bind, Option.bind_some, setAt, List.size_toArray, Nat.add_sub_cancel, if_pos hk0, List.setIfInBounds_toArray]
        exact this
      · by_cases e' : j = k'
        · subst e'; exact Or.inr ⟨by rw [List.getElem?_set, if_neg (by omega), List.getElem?_set, if_neg (by omega), List.getElem?_set, if_pos rfl, if_pos hk0], Or.inl ⟨rfl, hr⟩⟩
        · exact Or.inl ⟨by simp [List.getElem?_set, Ne.symm n1, Ne.symm n2, Ne.symm e'], fun q => e' (by omega), fun q => c2 q.2⟩
    | val r =>
      rw [hs] at hr
      by_cases hr2 : r.category = 2
      · refine ⟨(rl.set k (.val (cv A v))).set (k + 1) .second, ?_, fin _ (by simp) (by simp [List.getElem?_set, hk']) (by simp [List.getElem?_set, hk1]) fun j n1 n2 => ?_⟩
        · have := hself (rl.set (k + 1) .unset) (by simp) (fun u h => by rw [List.getElem?_set, if_pos rfl] at h; split at h <;> cases h)
          simp only [storeLocals, List.getElem?_toArray, hr, Option.bind_eq_bind, Option.bind_some, if_pos hr2, setAt, List.size_toArray, if_pos hk1, List.setIfInBounds_toArray]
          rw [this]
          congr 2
          apply List.ext_getElem?
          intro j
          simp only [List.getElem?_set, List.length_set]
          by_cases e : k + 1 = j
          · simp [e]
          · simp [e]
        · exact Or.inl ⟨by simp [List.getElem?_set, Ne.symm n1, Ne.symm n2], fun q => (by rw [hr] at q; cases q.2), fun q => c2 q.2⟩
      · refine ⟨(rl.set k (.val (cv A v))).set (k + 1) .second, by simp only [storeLocals, List.getElem?_toArray, hr, Option.bind_eq_bind, Option.bind_some, if_neg hr2]; exact hself rl rfl hno, fin _ (by simp) (by simp [List.getElem?_set, hk']) (by simp [List.getElem?_set, hk1]) fun j n1 n2 => ?_⟩
        exact Or.inl ⟨by simp [List.getElem?_set, Ne.symm n1, Ne.symm n2], fun q => (by rw [hr] at q; cases q.2), fun q => c2 q.2⟩

def Cx (p : Program) (s : State) (m : MethodId) (meth : Method) (c : Code) (Z : State) (own : String) (bytes : ByteArray) (maxL : Nat) (ret : Option FieldType) (mn : String) : Prop :=
  p.tables.exec = Jvm.exec ∧ Z.Warmed39 s.vm ∧ c.code = bytes ∧ s.vm.findClass own = some m.cls ∧ c.maxLocals = maxL ∧ meth.sig.returnType = ret ∧ meth.locks = false ∧ meth.name = mn
def OkR (p : Program) (l : Launch) (e : Env) (R : Room) (s : State) (m : MethodId) (args : Array Value) (below : List Frame) (meth : Method) (c : Code) (Z : State) (C : String) (fs : FS) (n0 : Nat) (h0 : Heap) {α : Type} (F : α → Option Value → Heap → Prop) (A : Nat → Addr) (w : Nat → Option CD) (cells slots pc : Nat) (Ls : List Slot) (St : List Value) (σ : Sg) (t : Option α) : Prop :=
  ∀ x, t = some x → ∀ (T : State) (locs : List Loc) (rl : List Slot), Stand p l e R s m args below meth c T locs cells slots → Wd Z C fs T.heap A w σ → Out h0 T.heap A w → Nw n0 A w → Fr n0 locs → LsOk A Ls rl →
    ∃ (s₂ : State) (o : Outcome), Steps p.tables e below (T.setTop (mkF m pc rl.toArray (St.map (cv A)))) s₂ ∧ s₂.status = .running ∧ Ended s₂ below o ∧ ∃ (v : Option Value) (L : List Loc), o = .returned v ∧ (F x v s₂.heap ∧ Fr n0 L) ∧ FrameEnd s o s₂ L R.cells R.slots
def lkp {β : Type} : List (Nat × β) → Nat → Option β
  | [], _ => none
  | (a, b) :: r, k => if a = k then some b else lkp r k
theorem lkp_mem {β : Type} : ∀ {l : List (Nat × β)} {k : Nat} {b : β}, lkp l k = some b → (k, b) ∈ l
  | (a, b') :: r, k, b, h => by
    unfold lkp at h
    split at h
    · rename_i e; subst e; cases h; exact List.mem_cons_self
    · exact List.mem_cons_of_mem _ (lkp_mem h)
def ilen : Instr → Nat
  | .bipush _ => 2
  | .sipush _ => 3
  | .ldc _ => 2
  | .ldc2_w _ => 3
  | .iload _ => 2
  | .lload _ => 2
  | .aload _ => 2
  | .istore _ => 2
  | .lstore _ => 2
  | .astore _ => 2
  | .iinc _ _ => 3
  | .getfield _ => 3
  | .putfield _ => 3
  | .goto _ => 3
  | _ => 1
def npc (pc : Nat) : Instr → Nat
  | .goto o => ((pc : Int) + o).toNat
  | i => pc + ilen i
def jok (pc : Nat) : Instr → Bool
  | .goto o => decide (0 ≤ (pc : Int) + o)
  | _ => true
def ic : Int → Int32
  | .negSucc 0 => -1
  | k => Int32.ofInt k
theorem ic_eq (k : Int) : ic k = Int32.ofInt k := by
  unfold ic; split <;> rfl
theorem x_sipush {tb : Tables} [Ours tb] {e : Env} {below : List Frame} {T target : State} {m : MethodId} {c : Code} {g : JFrame} (h : At T m c below) (hx : tb.exec = Jvm.exec) (hg : g.method = m) {i : Int} (hd : decode c.code g.pc = .ok (.sipush i, 3))
    (hr : Steps tb e below (T.setTop { g with pc := g.pc + 3, stack := .int (Int16.ofInt i).toInt32 :: g.stack }) target) : Steps tb e below (T.setTop g) target := by
  subst hg
  jvm_step h [h.top, hx, hd]
  exact hr
def ev1 (w : Nat → Option CD) (fs : FS) (fl pfl : List (Nat × Nat)) (kI : List (Nat × Int32)) (kJ : List (Nat × Int64)) (i : Instr) (Ls : List Slot) (St : List Value) (σ : Sg) : Option (List Slot × List Value × Sg) :=
  match i with
  | .iadd => match St with
    | .int y :: .int x :: r => some (Ls, .int (x + y) :: r, σ)
    | _ => none
  | .isub => match St with
    | .int y :: .int x :: r => some (Ls, .int (x - y) :: r, σ)
    | _ => none
  | .imul => match St with
    | .int y :: .int x :: r => some (Ls, .int (x * y) :: r, σ)
    | _ => none
  | .iand => match St with
    | .int y :: .int x :: r => some (Ls, .int (x &&& y) :: r, σ)
    | _ => none
  | .ior => match St with
    | .int y :: .int x :: r => some (Ls, .int (x ||| y) :: r, σ)
    | _ => none
  | .ixor => match St with
    | .int y :: .int x :: r => some (Ls, .int (x ^^^ y) :: r, σ)
    | _ => none
  | .ishl => match St with
    | .int y :: .int x :: r => some (Ls, .int (x <<< (y &&& 31)) :: r, σ)
    | _ => none
  | .ishr => match St with
    | .int y :: .int x :: r => some (Ls, .int (x >>> (y &&& 31)) :: r, σ)
    | _ => none
  | .iushr => match St with
    | .int y :: .int x :: r => some (Ls, .int (XT.ushr x y) :: r, σ)
    | _ => none
  | .ladd => match St with
    | .long y :: .long x :: r => some (Ls, .long (x + y) :: r, σ)
    | _ => none
  | .lsub => match St with
    | .long y :: .long x :: r => some (Ls, .long (x - y) :: r, σ)
    | _ => none
  | .lmul => match St with
    | .long y :: .long x :: r => some (Ls, .long (x * y) :: r, σ)
    | _ => none
  | .land => match St with
    | .long y :: .long x :: r => some (Ls, .long (x &&& y) :: r, σ)
    | _ => none
  | .lor => match St with
    | .long y :: .long x :: r => some (Ls, .long (x ||| y) :: r, σ)
    | _ => none
  | .lxor => match St with
    | .long y :: .long x :: r => some (Ls, .long (x ^^^ y) :: r, σ)
    | _ => none
  | .lshl => match St with
    | .int y :: .long x :: r => some (Ls, .long (x <<< (y.toInt64 &&& 63)) :: r, σ)
    | _ => none
  | .lushr => match St with
    | .int y :: .long x :: r => some (Ls, .long (XT.ushrL x y) :: r, σ)
    | _ => none
  | .lshr => match St with
    | .int y :: .long x :: r => some (Ls, .long (x >>> (y.toInt64 &&& 63)) :: r, σ)
    | _ => none
  | .lcmp => match St with
    | .long y :: .long x :: r => some (Ls, .int (XT.cmpL x y) :: r, σ)
    | _ => none
  | .ineg => match St with
    | .int x :: r => some (Ls, .int (-x) :: r, σ)
    | _ => none
  | .lneg => match St with
    | .long x :: r => some (Ls, .long (-x) :: r, σ)
    | _ => none
  | .i2l => match St with
    | .int x :: r => some (Ls, .long (x.toInt64) :: r, σ)
    | _ => none
  | .l2i => match St with
    | .long x :: r => some (Ls, .int (x.toInt32) :: r, σ)
    | _ => none
  | .i2b => match St with
    | .int x :: r => some (Ls, .int (x.toInt8.toInt32) :: r, σ)
    | _ => none
  | .iconst k => some (Ls, .int (ic k) :: St, σ)
  | .bipush k => some (Ls, .int (Int8.ofInt k).toInt32 :: St, σ)
  | .sipush k => some (Ls, .int (Int16.ofInt k).toInt32 :: St, σ)
  | .lconst k => some (Ls, .long (Int64.ofNat k) :: St, σ)
  | .ldc i => match lkp kI i with
    | some v => some (Ls, .int v :: St, σ)
    | none => none
  | .ldc2_w i => match lkp kJ i with
    | some v => some (Ls, .long v :: St, σ)
    | none => none
  | .iload_n k => match Ls[k.val]? with
    | some (.val (.int v)) => some (Ls, .int v :: St, σ)
    | _ => none
  | .iload k => match Ls[k]? with
    | some (.val (.int v)) => some (Ls, .int v :: St, σ)
    | _ => none
  | .lload_n k => match Ls[k.val]? with
    | some (.val (.long v)) => some (Ls, .long v :: St, σ)
    | _ => none
  | .lload k => match Ls[k]? with
    | some (.val (.long v)) => some (Ls, .long v :: St, σ)
    | _ => none
  | .aload_n k => match Ls[k.val]? with
    | some (.val (.ref v)) => some (Ls, .ref v :: St, σ)
    | _ => none
  | .aload k => match Ls[k]? with
    | some (.val (.ref v)) => some (Ls, .ref v :: St, σ)
    | _ => none
  | .istore_n k => match St with
    | .int v :: r => if k.val < Ls.length then some (st1 Ls k.val (.int v), r, σ) else none
    | _ => none
  | .istore k => match St with
    | .int v :: r => if k < Ls.length then some (st1 Ls k (.int v), r, σ) else none
    | _ => none
  | .astore_n k => match St with
    | .ref v :: r => if k.val < Ls.length then some (st1 Ls k.val (.ref v), r, σ) else none
    | _ => none
  | .astore k => match St with
    | .ref v :: r => if k < Ls.length then some (st1 Ls k (.ref v), r, σ) else none
    | _ => none
  | .lstore_n k => match St with
    | .long v :: r => if k.val + 1 < Ls.length then some (st2 Ls k.val (.long v), r, σ) else none
    | _ => none
  | .lstore k => match St with
    | .long v :: r => if k + 1 < Ls.length then some (st2 Ls k (.long v), r, σ) else none
    | _ => none
  | .iinc k c => match Ls[k]? with
    | some (.val (.int v)) => if k < Ls.length then some (st1 Ls k (.int (v + ic c)), St, σ) else none
    | _ => none
  | .dup => match St with
    | .ref v :: r => some (Ls, .ref v :: .ref v :: r, σ)
    | .int v :: r => some (Ls, .int v :: .int v :: r, σ)
    | _ => none
  | .pop => match St with
    | .int v :: r => some (Ls, r, σ)
    | _ => none
  | .goto _ => some (Ls, St, σ)
  | .getfield i => match St with
    | .ref k :: r => match w k with
      | some (.inl q) => match lkp fl i with
        | some j => match fs[j]? with
          | some (_, _, cd) => some (Ls, fv σ k j q cd :: r, σ)
          | none => none
        | none => none
      | _ => none
    | _ => none
  | .putfield i => match St with
    | .int x :: .ref k :: r => match w k with
      | some (.inl _) => match lkp pfl i with
        | some j => match fs[j]? with
          | some (_, _, 0) => some (Ls, r, si σ k j x)
          | _ => none
        | none => none
      | _ => none
    | .long x :: .ref k :: r => match w k with
      | some (.inl _) => match lkp pfl i with
        | some j => match fs[j]? with
          | some (_, _, 1) => some (Ls, r, sj σ k j x)
          | _ => none
        | none => none
      | _ => none
    | _ => none
  | _ => none

def FsOk (Z : State) (a0 : Array Value) (C : String) (fs : FS) : Prop := ∀ (j : Nat) (n d : String) (cd : Nat), fs[j]? = some (n, d, cd) → Laid Z a0 C C n d ∧ (∃ ty, parseFieldDescriptor d = some ty ∧ (cd = 0 → ty = .int) ∧ (cd = 1 → ty = .long) ∧ (2 ≤ cd → ∃ t, ty = .array t)) ∧ ∀ (j' : Nat) (n' d' : String) (cd' : Nat), fs[j']? = some (n', d', cd') → n = n' → j = j'
def Lay1 (Z : State) (a0 : Array Value) (C own mn n d : String) : Prop := (Cond.lays C C n d).before a0 Z = true ∨ ((Cond.laysFinal C C n d).before a0 Z = true ∧ own = C ∧ mn = "<init>")
def Tab (Z : State) (a0 : Array Value) (C own mn : String) (fs : FS) (fl pfl : List (Nat × Nat)) (kI : List (Nat × Int32)) (kJ : List (Nat × Int64)) : Prop :=
  (∀ x ∈ fl, ∃ n d cd, fs[x.2]? = some (n, d, cd) ∧ (Cond.fieldLink own x.1 C n d).before a0 Z = true) ∧ (∀ x ∈ pfl, ∃ n d cd, fs[x.2]? = some (n, d, cd) ∧ (Cond.fieldLink own x.1 C n d).before a0 Z = true ∧ Lay1 Z a0 C own mn n d) ∧
  (∀ x ∈ kI, (Cond.constant own x.1 x.2).before a0 Z = true) ∧ ∀ x ∈ kJ, (Cond.constantLong own x.1 x.2).before a0 Z = true
section AM
variable {p : Program} {l : Launch} {e : Env} {R : Room} {s : State} {m : MethodId} {args : Array Value} {below : List Frame} {meth : Method} {c : Code} {Z : State} {a0 : Array Value} {C own : String} {bytes : ByteArray} {maxL : Nat} {ret : Option FieldType} {mn : String} {fs : FS} {fl pfl : List (Nat × Nat)} {kI : List (Nat × Int32)} {kJ : List (Nat × Int64)} {n0 kk : Nat} {h0 : Heap} {α : Type} {F : α → Option Value → Heap → Prop} {A : Nat → Addr} {w : Nat → Option CD} {cells slots pc : Nat} {Ls Ls' : List Slot} {St St' : List Value} {σ σ' : Sg} {t : Option α}
theorem am_ld {rl : List Slot} (L : LsOk A Ls rl) {k : Nat} {v : Value} (h : Ls[k]? = some (.val v)) : rl.toArray[k]? = some (.val (cv A v)) := by
  rw [List.getElem?_toArray]; exact L.2.2 k v h
theorem am_none (h : t = none) : OkR p l e R s m args below meth c Z C fs n0 h0 F A w cells slots pc Ls St σ t := fun x hx => by rw [h] at hx; cases hx
/-- one place of cell k is written -/
theorem Wd.write {h h' : Heap} {k sl : Nat} {v : Value} {d : CD} (W : Wd Z C fs h A w σ) (hk : w k = some d) (Q : Wr h h' (A k) sl v) (hσ : ∀ k', k' ≠ k → ∀ i, gi σ' k' i = gi σ k' i ∧ gj σ' k' i = gj σ k' i) (hok : CellOk Z C fs h' A σ' k d) : Wd Z C fs h' A w σ' := by
  refine ⟨fun k' d' hk' => ?_, W.2⟩
  by_cases ek : k' = k
  · subst ek; rw [hk] at hk'; cases hk'; exact hok
  · have ne : A k' ≠ A k := fun q => ek (W.2 _ _ _ _ hk' hk q)
    have := W.1 k' d' hk'
    rcases d' with q | ⟨ty, n, o⟩
    · refine ⟨this.1.wr Q, fun j n d cd hj => ?_⟩
      have e1 : fv σ' k' j q cd = fv σ k' j q cd := by
        match cd with
        | 0 => simp only [fv, (hσ k' ek j).1]
        | 1 => simp only [fv, (hσ k' ek j).2]
        | r + 2 => rfl
      rw [e1]
      exact (this.2 j n d cd hj).other Q (Or.inl ne)
    · obtain ⟨cl, a1, a2, a3⟩ := this
      refine ⟨cl, a1.other Q ne, a2, fun i hi => ?_⟩
      have e1 : aeo σ' k' i ty o = aeo σ k' i ty o := by
        cases o with
        | none => cases ty <;> simp only [aeo, ae, (hσ k' ek i).1, (hσ k' ek i).2]
        | some f => rfl
      rw [e1]; exact a3 i hi
theorem Out.write {h h' : Heap} {k sl : Nat} {v : Value} {d : CD} (O : Out h0 h A w) (hk : w k = some d) (hd : wrb d = true) (Q : Wr h h' (A k) sl v) : Out h0 h' A w := by
  refine ⟨by rw [Q.size]; exact O.1, fun b c hb hn => ?_⟩
  obtain ⟨cb, e1, -, -, -, e5, -⟩ := wr_at Q (O.2 b c hb hn)
  rw [← e5 (hn k d hk hd).symm]; exact e1
theorem si_off (σ : Sg) (k j : Nat) (x : Int32) : ∀ k', k' ≠ k → ∀ i, gi (si σ k j x) k' i = gi σ k' i ∧ gj (si σ k j x) k' i = gj σ k' i := fun k' ne i => ⟨by rw [gi_si, if_neg (fun q => ne q.1)], rfl⟩
theorem sj_off (σ : Sg) (k j : Nat) (x : Int64) : ∀ k', k' ≠ k → ∀ i, gi (sj σ k j x) k' i = gi σ k' i ∧ gj (sj σ k j x) k' i = gj σ k' i := fun k' ne i => ⟨rfl, by rw [gj_sj, if_neg (fun q => ne q.1)]⟩
theorem am_getf (hc : Cx p s m meth c Z own bytes maxL ret mn) {k q j i cd : Nat} {n d : String} (hk : w k = some (.inl q)) (hfs : fs[j]? = some (n, d, cd)) (wl : (Cond.fieldLink own i C n d).before a0 Z = true) (hd : decode bytes pc = .ok (.getfield i, 3))
    (κ : OkR p l e R s m args below meth c Z C fs n0 h0 F A w cells slots (pc + 3) Ls (fv σ k j q cd :: St) σ t) : OkR p l e R s m args below meth c Z C fs n0 h0 F A w cells slots pc Ls (.ref k :: St) σ t := by
  intro x hx T locs rl X W O N f L
  have Fd := (W.1 k _ hk).2 j n d cd hfs
  obtain ⟨T', X', e', st'⟩ := getF X hc.1 hc.2.1 hc.2.2.2.1 (host := "") (Or.inl wl) Via.refl rfl Fd (g := mkF m pc rl.toArray (.ref (A k) :: St.map (cv A))) rfl rfl (hb hc.2.2.1 hd)
  obtain ⟨s₂, o, st, r⟩ := κ x hx T' locs rl X' (by rw [e']; exact W) (by rw [e']; exact O) N f L
  exact ⟨s₂, o, st' _ st, r⟩
theorem am_putf (hc : Cx p s m meth c Z own bytes maxL ret mn) (hF : FsOk Z a0 C fs) (wi : (Cond.instantiable C kk).before a0 Z = true) {k q j i cd : Nat} {n d : String} {v : Value} (hk : w k = some (.inl q)) (hfs : fs[j]? = some (n, d, cd)) (wl : (Cond.fieldLink own i C n d).before a0 Z = true) (hL : Lay1 Z a0 C own mn n d) (hd : decode bytes pc = .ok (.putfield i, 3))
    (hv : (cd = 0 ∧ (∃ x, v = .int x) ∨ cd = 1 ∧ ∃ x, v = .long x)) (hfv : fv σ' k j q cd = v) (hcv : cv A v = v) (hσ : ∀ k', k' ≠ k → ∀ i, gi σ' k' i = gi σ k' i ∧ gj σ' k' i = gj σ k' i) (hσ2 : ∀ j', j' ≠ j → gi σ' k j' = gi σ k j' ∧ gj σ' k j' = gj σ k j')
    (κ : OkR p l e R s m args below meth c Z C fs n0 h0 F A w cells slots (pc + 3) Ls St σ' t) : OkR p l e R s m args below meth c Z C fs n0 h0 F A w cells slots pc Ls (v :: .ref k :: St) σ t := by
  intro x hx T locs rl X W O N f L
  have hO := W.1 k _ hk
  have Fd := hO.2 j n d cd hfs
  obtain ⟨hlaid, ⟨ty, hty, t0, t1, -⟩, hinj⟩ := hF j n d cd hfs
  have hn : narrow ty v = v ∧ fits ty v = true := by
    rcases hv with ⟨e, y, rfl⟩ | ⟨e, y, rfl⟩
    · rw [t0 e]; exact ⟨rfl, rfl⟩
    · rw [t1 e]; exact ⟨rfl, rfl⟩
  have hL' : (Cond.lays C C n d).before a0 Z = true ∨ ((Cond.laysFinal C C n d).before a0 Z = true ∧ own = C ∧ meth.name = "<init>") := hL.imp id fun q => ⟨q.1, q.2.1, hc.2.2.2.2.2.2.2.trans q.2.2⟩
  obtain ⟨T', h', X', e', Q, st'⟩ := putF X hc.1 hc.2.1 hc.2.2.2.1 (host := "") (Or.inl wl) Via.refl rfl Fd hO.1 hL' wi hty hn.1 hn.2 (g := mkF m pc rl.toArray (v :: .ref (A k) :: St.map (cv A))) rfl rfl (hb hc.2.2.1 hd)
  subst e'
  have W' : Wd Z C fs T'.heap A w σ' := by
    refine W.write hk Q hσ ⟨hO.1.wr Q, fun j' n' d' cd' hj' => ?_⟩
    by_cases ej : j' = j
    · subst ej
      rw [hfs] at hj'; cases hj'
      rw [hfv, hcv]
      exact Fd.same Q
    · obtain ⟨hlaid', ⟨ty', hty', -⟩, -⟩ := hF j' n' d' cd' hj'
      have e1 : fv σ' k j' q cd' = fv σ k j' q cd' := by
        match cd' with
        | 0 => simp only [fv, (hσ2 j' ej).1]
        | 1 => simp only [fv, (hσ2 j' ej).2]
        | r + 2 => rfl
      rw [e1]
      exact (hO.2 j' n' d' cd' hj').other Q (Or.inr (slot_ne hlaid' hlaid (fun q => ej (hinj _ _ _ _ hj' q.symm).symm) hty' hty))
  obtain ⟨s₂, o, st, r⟩ := κ x hx T' _ rl X' W' (O.write hk rfl Q) N (Fr.snoc X' f (N k _ hk rfl)) L
  have e2 : List.map (cv A) (v :: .ref k :: St) = v :: .ref (A k) :: St.map (cv A) := by rw [List.map_cons, List.map_cons, hcv]; rfl
  exact ⟨s₂, o, by rw [e2]; exact st' _ st, r⟩

set_option maxHeartbeats 4000000 in
theorem ev1_ok (hc : Cx p s m meth c Z own bytes maxL ret mn) (hT : Tab Z a0 C own mn fs fl pfl kI kJ) (hF : FsOk Z a0 C fs) (wi : (Cond.instantiable C kk).before a0 Z = true) {i : Instr} (hd : decode bytes pc = .ok (i, ilen i)) (hj : jok pc i = true) (hev : ev1 w fs fl pfl kI kJ i Ls St σ = some (Ls', St', σ'))
    (k : OkR p l e R s m args below meth c Z C fs n0 h0 F A w cells slots (npc pc i) Ls' St' σ' t) : OkR p l e R s m args below meth c Z C fs n0 h0 F A w cells slots pc Ls St σ t := by
  cases i
  case iadd =>
    simp only [ev1] at hev
    split at hev
    · cases hev
      intro x' hx T locs rl X W O N f L
      obtain ⟨s₂, o, st, r'⟩ := k x' hx T locs rl X W O N f L
      exact ⟨s₂, o, XS.iadd X.here hc.1 rfl (hb hc.2.2.1 hd) rfl st, r'⟩
    · cases hev
  case isub =>
    simp only [ev1] at hev
    split at hev
    · cases hev
      intro x' hx T locs rl X W O N f L
      obtain ⟨s₂, o, st, r'⟩ := k x' hx T locs rl X W O N f L
      exact ⟨s₂, o, XS.isub X.here hc.1 rfl (hb hc.2.2.1 hd) rfl st, r'⟩
    · cases hev
  case imul =>
    simp only [ev1] at hev
    split at hev
    · cases hev
      intro x' hx T locs rl X W O N f L
      obtain ⟨s₂, o, st, r'⟩ := k x' hx T locs rl X W O N f L
      exact ⟨s₂, o, XS.imul X.here hc.1 rfl (hb hc.2.2.1 hd) rfl st, r'⟩
    · cases hev
  case iand =>
    simp only [ev1] at hev
    split at hev
    · cases hev
      intro x' hx T locs rl X W O N f L
      obtain ⟨s₂, o, st, r'⟩ := k x' hx T locs rl X W O N f L
      exact ⟨s₂, o, XS.iand X.here hc.1 rfl (hb hc.2.2.1 hd) rfl st, r'⟩
    · cases hev
  case ior =>
    simp only [ev1] at hev
    split at hev
    · cases hev
      intro x' hx T locs rl X W O N f L
      obtain ⟨s₂, o, st, r'⟩ := k x' hx T locs rl X W O N f L
      exact ⟨s₂, o, XT.ior X.here hc.1 rfl (hb hc.2.2.1 hd) rfl st, r'⟩
    · cases hev
  case ixor =>
    simp only [ev1] at hev
    split at hev
    · cases hev
      intro x' hx T locs rl X W O N f L
      obtain ⟨s₂, o, st, r'⟩ := k x' hx T locs rl X W O N f L
      exact ⟨s₂, o, XT.ixor X.here hc.1 rfl (hb hc.2.2.1 hd) rfl st, r'⟩
    · cases hev
  case ishl =>
    simp only [ev1] at hev
    split at hev
    · cases hev
      intro x' hx T locs rl X W O N f L
      obtain ⟨s₂, o, st, r'⟩ := k x' hx T locs rl X W O N f L
      exact ⟨s₂, o, XT.ishl X.here hc.1 rfl (hb hc.2.2.1 hd) rfl st, r'⟩
    · cases hev
  case ishr =>
    simp only [ev1] at hev
    split at hev
    · cases hev
      intro x' hx T locs rl X W O N f L
      obtain ⟨s₂, o, st, r'⟩ := k x' hx T locs rl X W O N f L
      exact ⟨s₂, o, XT.ishr X.here hc.1 rfl (hb hc.2.2.1 hd) rfl st, r'⟩
    · cases hev
  case iushr =>
    simp only [ev1] at hev
    split at hev
    · cases hev
      intro x' hx T locs rl X W O N f L
      obtain ⟨s₂, o, st, r'⟩ := k x' hx T locs rl X W O N f L
      exact ⟨s₂, o, XT.iushr X.here hc.1 rfl (hb hc.2.2.1 hd) rfl st, r'⟩
    · cases hev
  case ladd =>
    simp only [ev1] at hev
    split at hev
    · cases hev
      intro x' hx T locs rl X W O N f L
      obtain ⟨s₂, o, st, r'⟩ := k x' hx T locs rl X W O N f L
      exact ⟨s₂, o, XT.ladd X.here hc.1 rfl (hb hc.2.2.1 hd) rfl st, r'⟩
    · cases hev
  case lsub =>
    simp only [ev1] at hev
    split at hev
    · cases hev
      intro x' hx T locs rl X W O N f L
      obtain ⟨s₂, o, st, r'⟩ := k x' hx T locs rl X W O N f L
      exact ⟨s₂, o, XT.lsub X.here hc.1 rfl (hb hc.2.2.1 hd) rfl st, r'⟩
    · cases hev
  case lmul =>
    simp only [ev1] at hev
    split at hev
    · cases hev
      intro x' hx T locs rl X W O N f L
      obtain ⟨s₂, o, st, r'⟩ := k x' hx T locs rl X W O N f L
      exact ⟨s₂, o, XT.lmul X.here hc.1 rfl (hb hc.2.2.1 hd) rfl st, r'⟩
    · cases hev
  case land =>
    simp only [ev1] at hev
    split at hev
    · cases hev
      intro x' hx T locs rl X W O N f L
      obtain ⟨s₂, o, st, r'⟩ := k x' hx T locs rl X W O N f L
      exact ⟨s₂, o, XT.land X.here hc.1 rfl (hb hc.2.2.1 hd) rfl st, r'⟩
    · cases hev
  case lor =>
    simp only [ev1] at hev
    split at hev
    · cases hev
      intro x' hx T locs rl X W O N f L
      obtain ⟨s₂, o, st, r'⟩ := k x' hx T locs rl X W O N f L
      exact ⟨s₂, o, XT.lor X.here hc.1 rfl (hb hc.2.2.1 hd) rfl st, r'⟩
    · cases hev
  case lxor =>
    simp only [ev1] at hev
    split at hev
    · cases hev
      intro x' hx T locs rl X W O N f L
      obtain ⟨s₂, o, st, r'⟩ := k x' hx T locs rl X W O N f L
      exact ⟨s₂, o, XT.lxor X.here hc.1 rfl (hb hc.2.2.1 hd) rfl st, r'⟩
    · cases hev
  case lshl =>
    simp only [ev1] at hev
    split at hev
    · cases hev
      intro x' hx T locs rl X W O N f L
      obtain ⟨s₂, o, st, r'⟩ := k x' hx T locs rl X W O N f L
      exact ⟨s₂, o, XT.lshl X.here hc.1 rfl (hb hc.2.2.1 hd) rfl st, r'⟩
    · cases hev
  case lushr =>
    simp only [ev1] at hev
    split at hev
    · cases hev
      intro x' hx T locs rl X W O N f L
      obtain ⟨s₂, o, st, r'⟩ := k x' hx T locs rl X W O N f L
      exact ⟨s₂, o, XT.lushr X.here hc.1 rfl (hb hc.2.2.1 hd) rfl st, r'⟩
    · cases hev
  case lshr =>
    simp only [ev1] at hev
    split at hev
    · cases hev
      intro x' hx T locs rl X W O N f L
      obtain ⟨s₂, o, st, r'⟩ := k x' hx T locs rl X W O N f L
      exact ⟨s₂, o, XT.lshr X.here hc.1 rfl (hb hc.2.2.1 hd) rfl st, r'⟩
    · cases hev
  case lcmp =>
    simp only [ev1] at hev
    split at hev
    · cases hev
      intro x' hx T locs rl X W O N f L
      obtain ⟨s₂, o, st, r'⟩ := k x' hx T locs rl X W O N f L
      exact ⟨s₂, o, XT.lcmp X.here hc.1 rfl (hb hc.2.2.1 hd) rfl st, r'⟩
    · cases hev
  case ineg =>
    simp only [ev1] at hev
    split at hev
    · cases hev
      intro x' hx T locs rl X W O N f L
      obtain ⟨s₂, o, st, r'⟩ := k x' hx T locs rl X W O N f L
      exact ⟨s₂, o, XS.ineg X.here hc.1 rfl (hb hc.2.2.1 hd) rfl st, r'⟩
    · cases hev
  case lneg =>
    simp only [ev1] at hev
    split at hev
    · cases hev
      intro x' hx T locs rl X W O N f L
      obtain ⟨s₂, o, st, r'⟩ := k x' hx T locs rl X W O N f L
      exact ⟨s₂, o, XT.lneg X.here hc.1 rfl (hb hc.2.2.1 hd) rfl st, r'⟩
    · cases hev
  case i2l =>
    simp only [ev1] at hev
    split at hev
    · cases hev
      intro x' hx T locs rl X W O N f L
      obtain ⟨s₂, o, st, r'⟩ := k x' hx T locs rl X W O N f L
      exact ⟨s₂, o, XT.i2l X.here hc.1 rfl (hb hc.2.2.1 hd) rfl st, r'⟩
    · cases hev
  case l2i =>
    simp only [ev1] at hev
    split at hev
    · cases hev
      intro x' hx T locs rl X W O N f L
      obtain ⟨s₂, o, st, r'⟩ := k x' hx T locs rl X W O N f L
      exact ⟨s₂, o, XT.l2i X.here hc.1 rfl (hb hc.2.2.1 hd) rfl st, r'⟩
    · cases hev
  case i2b =>
    simp only [ev1] at hev
    split at hev
    · cases hev
      intro x' hx T locs rl X W O N f L
      obtain ⟨s₂, o, st, r'⟩ := k x' hx T locs rl X W O N f L
      exact ⟨s₂, o, XT.i2b X.here hc.1 rfl (hb hc.2.2.1 hd) rfl st, r'⟩
    · cases hev
  case iconst k =>
    simp only [ev1] at hev
    cases hev
    · rw [ic_eq] at k
      intro x' hx T locs rl X W O N f L
      obtain ⟨s₂, o, st, r'⟩ := k x' hx T locs rl X W O N f L
      exact ⟨s₂, o, XS.iconst X.here hc.1 rfl (hb hc.2.2.1 hd) st, r'⟩
  case bipush k =>
    simp only [ev1] at hev
    cases hev
    · intro x' hx T locs rl X W O N f L
      obtain ⟨s₂, o, st, r'⟩ := k x' hx T locs rl X W O N f L
      exact ⟨s₂, o, XS.bipush X.here hc.1 rfl (hb hc.2.2.1 hd) st, r'⟩
  case sipush k =>
    simp only [ev1] at hev
    cases hev
    · intro x' hx T locs rl X W O N f L
      obtain ⟨s₂, o, st, r'⟩ := k x' hx T locs rl X W O N f L
      exact ⟨s₂, o, x_sipush X.here hc.1 rfl (hb hc.2.2.1 hd) st, r'⟩
  case lconst k =>
    simp only [ev1] at hev
    cases hev
    · intro x' hx T locs rl X W O N f L
      obtain ⟨s₂, o, st, r'⟩ := k x' hx T locs rl X W O N f L
      exact ⟨s₂, o, XT.lconst X.here hc.1 rfl (hb hc.2.2.1 hd) st, r'⟩
  case ldc i =>
    simp only [ev1] at hev
    split at hev
    · cases hev
      rename_i v hv
      intro x' hx T locs rl X W O N f L
      obtain ⟨s₂, o, st, r'⟩ := k x' hx T locs rl X W O N f L
      exact ⟨s₂, o, X.ldcI hc.1 hc.2.2.2.1 (mv hc.2.1 (hT.2.2.1 _ (lkp_mem hv))) rfl (hb hc.2.2.1 hd) st, r'⟩
    · cases hev
  case ldc2_w i =>
    simp only [ev1] at hev
    split at hev
    · cases hev
      rename_i v hv
      intro x' hx T locs rl X W O N f L
      obtain ⟨s₂, o, st, r'⟩ := k x' hx T locs rl X W O N f L
      exact ⟨s₂, o, X.ldc2J hc.1 hc.2.2.2.1 (mv hc.2.1 (hT.2.2.2 _ (lkp_mem hv))) rfl (hb hc.2.2.1 hd) st, r'⟩
    · cases hev
  case iload_n n =>
    simp only [ev1] at hev
    split at hev
    · cases hev
      rename_i v hv
      intro x' hx T locs rl X W O N f L
      obtain ⟨s₂, o, st, r'⟩ := k x' hx T locs rl X W O N f L
      exact ⟨s₂, o, XS.iloadN X.here hc.1 rfl (hb hc.2.2.1 hd) (am_ld L hv) st, r'⟩
    · cases hev
  case iload n =>
    simp only [ev1] at hev
    split at hev
    · cases hev
      rename_i v hv
      intro x' hx T locs rl X W O N f L
      obtain ⟨s₂, o, st, r'⟩ := k x' hx T locs rl X W O N f L
      exact ⟨s₂, o, XS.iload X.here hc.1 rfl (hb hc.2.2.1 hd) (am_ld L hv) st, r'⟩
    · cases hev
  case lload_n n =>
    simp only [ev1] at hev
    split at hev
    · cases hev
      rename_i v hv
      intro x' hx T locs rl X W O N f L
      obtain ⟨s₂, o, st, r'⟩ := k x' hx T locs rl X W O N f L
      exact ⟨s₂, o, XT.lloadN X.here hc.1 rfl (hb hc.2.2.1 hd) (am_ld L hv) st, r'⟩
    · cases hev
  case lload n =>
    simp only [ev1] at hev
    split at hev
    · cases hev
      rename_i v hv
      intro x' hx T locs rl X W O N f L
      obtain ⟨s₂, o, st, r'⟩ := k x' hx T locs rl X W O N f L
      exact ⟨s₂, o, XT.lload X.here hc.1 rfl (hb hc.2.2.1 hd) (am_ld L hv) st, r'⟩
    · cases hev
  case aload_n n =>
    simp only [ev1] at hev
    split at hev
    · cases hev
      rename_i v hv
      intro x' hx T locs rl X W O N f L
      obtain ⟨s₂, o, st, r'⟩ := k x' hx T locs rl X W O N f L
      exact ⟨s₂, o, XS.aloadN X.here hc.1 rfl (hb hc.2.2.1 hd) (am_ld L hv) rfl st, r'⟩
    · cases hev
  case aload n =>
    simp only [ev1] at hev
    split at hev
    · cases hev
      rename_i v hv
      intro x' hx T locs rl X W O N f L
      obtain ⟨s₂, o, st, r'⟩ := k x' hx T locs rl X W O N f L
      exact ⟨s₂, o, XS.aload X.here hc.1 rfl (hb hc.2.2.1 hd) (am_ld L hv) rfl st, r'⟩
    · cases hev
  case istore_n n =>
    simp only [ev1] at hev
    split at hev
    · split at hev
      · cases hev
        rename_i v hk
        intro x' hx T locs rl X W O N f L
        obtain ⟨rl', hst, L'⟩ := am_st1 (v := .int v) L hk rfl
        obtain ⟨s₂, o, st, r'⟩ := k x' hx T locs rl' X W O N f L'
        exact ⟨s₂, o, XS.istoreN X.here hc.1 rfl (hb hc.2.2.1 hd) rfl hst st, r'⟩
      · cases hev
    · cases hev
  case istore n =>
    simp only [ev1] at hev
    split at hev
    · split at hev
      · cases hev
        rename_i v hk
        intro x' hx T locs rl X W O N f L
        obtain ⟨rl', hst, L'⟩ := am_st1 (v := .int v) L hk rfl
        obtain ⟨s₂, o, st, r'⟩ := k x' hx T locs rl' X W O N f L'
        exact ⟨s₂, o, XS.istore X.here hc.1 rfl (hb hc.2.2.1 hd) rfl hst st, r'⟩
      · cases hev
    · cases hev
  case astore_n n =>
    simp only [ev1] at hev
    split at hev
    · split at hev
      · cases hev
        rename_i v hk
        intro x' hx T locs rl X W O N f L
        obtain ⟨rl', hst, L'⟩ := am_st1 (v := .ref v) L hk rfl
        obtain ⟨s₂, o, st, r'⟩ := k x' hx T locs rl' X W O N f L'
        exact ⟨s₂, o, XS.astoreN X.here hc.1 rfl (hb hc.2.2.1 hd) rfl rfl hst st, r'⟩
      · cases hev
    · cases hev
  case astore n =>
    simp only [ev1] at hev
    split at hev
    · split at hev
      · cases hev
        rename_i v hk
        intro x' hx T locs rl X W O N f L
        obtain ⟨rl', hst, L'⟩ := am_st1 (v := .ref v) L hk rfl
        obtain ⟨s₂, o, st, r'⟩ := k x' hx T locs rl' X W O N f L'
        exact ⟨s₂, o, XS.astore X.here hc.1 rfl (hb hc.2.2.1 hd) rfl rfl hst st, r'⟩
      · cases hev
    · cases hev
  case lstore_n n =>
    simp only [ev1] at hev
    split at hev
    · split at hev
      · cases hev
        rename_i v hk
        intro x' hx T locs rl X W O N f L
        obtain ⟨rl', hst, L'⟩ := am_st2 (v := .long v) L hk rfl
        obtain ⟨s₂, o, st, r'⟩ := k x' hx T locs rl' X W O N f L'
        exact ⟨s₂, o, XT.lstoreN X.here hc.1 rfl (hb hc.2.2.1 hd) rfl hst st, r'⟩
      · cases hev
    · cases hev
  case lstore n =>
    simp only [ev1] at hev
    split at hev
    · split at hev
      · cases hev
        rename_i v hk
        intro x' hx T locs rl X W O N f L
        obtain ⟨rl', hst, L'⟩ := am_st2 (v := .long v) L hk rfl
        obtain ⟨s₂, o, st, r'⟩ := k x' hx T locs rl' X W O N f L'
        exact ⟨s₂, o, XT.lstore X.here hc.1 rfl (hb hc.2.2.1 hd) rfl hst st, r'⟩
      · cases hev
    · cases hev
  case iinc n cst =>
    simp only [ev1] at hev
    split at hev
    · split at hev
      · cases hev
        rename_i v hv hk
        intro x' hx T locs rl X W O N f L
        obtain ⟨rl', hst, L'⟩ := am_st1 (v := .int (v + ic cst)) L hk rfl
        obtain ⟨s₂, o, st, r'⟩ := k x' hx T locs rl' X W O N f L'
        exact ⟨s₂, o, XS.iinc X.here hc.1 rfl (hb hc.2.2.1 hd) (am_ld L hv) (by rw [← ic_eq]; exact hst) st, r'⟩
      · cases hev
    · cases hev
  case dup =>
    simp only [ev1] at hev
    split at hev
    · cases hev
      intro x' hx T locs rl X W O N f L
      obtain ⟨s₂, o, st, r'⟩ := k x' hx T locs rl X W O N f L
      exact ⟨s₂, o, XS.dup X.here hc.1 rfl (hb hc.2.2.1 hd) rfl rfl st, r'⟩
    · cases hev
      intro x' hx T locs rl X W O N f L
      obtain ⟨s₂, o, st, r'⟩ := k x' hx T locs rl X W O N f L
      exact ⟨s₂, o, XS.dup X.here hc.1 rfl (hb hc.2.2.1 hd) rfl rfl st, r'⟩
    · cases hev
  case pop =>
    simp only [ev1] at hev
    split at hev
    · cases hev
      intro x' hx T locs rl X W O N f L
      obtain ⟨s₂, o, st, r'⟩ := k x' hx T locs rl X W O N f L
      exact ⟨s₂, o, XT.pop X.here hc.1 rfl (hb hc.2.2.1 hd) rfl rfl st, r'⟩
    · cases hev
  case goto off =>
    simp only [ev1] at hev
    cases hev
    · intro x' hx T locs rl X W O N f L
      obtain ⟨s₂, o, st, r'⟩ := k x' hx T locs rl X W O N f L
      exact ⟨s₂, o, XS.goto X.here hc.1 rfl (pc0 := pc) rfl (hb hc.2.2.1 hd) (of_decide_eq_true hj) rfl st, r'⟩
  case getfield i =>
    simp only [ev1] at hev
    split at hev
    · split at hev
      · rename_i q hq
        split at hev
        · rename_i j hj'
          split at hev
          · rename_i n d cd hfs
            cases hev
            obtain ⟨n', d', cd', h1, h2⟩ := hT.1 _ (lkp_mem hj')
            rw [hfs] at h1; cases h1
            exact am_getf hc hq hfs h2 hd k
          · cases hev
        · cases hev
      · cases hev
    · cases hev
  case putfield i =>
    simp only [ev1] at hev
    split at hev
    · split at hev
      · rename_i q hq
        split at hev
        · rename_i j hj'
          split at hev
          · rename_i n d hfs
            cases hev
            obtain ⟨n', d', cd', h1, h2, h3⟩ := hT.2.1 _ (lkp_mem hj')
            rw [hfs] at h1; cases h1
            exact am_putf hc hF wi hq hfs h2 h3 hd (Or.inl ⟨rfl, _, rfl⟩) (by simp [fv, gi_si]) rfl (si_off _ _ _ _) (fun j' ne => ⟨by rw [gi_si, if_neg (fun z => ne z.2)], rfl⟩) k
          · cases hev
        · cases hev
      · cases hev
    · split at hev
      · rename_i q hq
        split at hev
        · rename_i j hj'
          split at hev
          · rename_i n d hfs
            cases hev
            obtain ⟨n', d', cd', h1, h2, h3⟩ := hT.2.1 _ (lkp_mem hj')
            rw [hfs] at h1; cases h1
            exact am_putf hc hF wi hq hfs h2 h3 hd (Or.inr ⟨rfl, _, rfl⟩) (by simp [fv, gj_sj]) rfl (sj_off _ _ _ _) (fun j' ne => ⟨rfl, by rw [gj_sj, if_neg (fun z => ne z.2)]⟩) k
          · cases hev
        · cases hev
      · cases hev
    · cases hev
  all_goals (simp [ev1] at hev)
def evB (w : Nat → Option CD) (fs : FS) (fl pfl : List (Nat × Nat)) (kI : List (Nat × Int32)) (kJ : List (Nat × Int64)) : List Instr → List Slot → List Value → Sg → Option (List Slot × List Value × Sg)
  | [], Ls, St, σ => some (Ls, St, σ)
  | i :: is, Ls, St, σ => match ev1 w fs fl pfl kI kJ i Ls St σ with
    | some (Ls', St', σ') => evB w fs fl pfl kI kJ is Ls' St' σ'
    | none => none
def decB (code : ByteArray) : Nat → List Instr → Nat → Bool
  | pc, [], pc' => pc == pc'
  | pc, i :: is, pc' => decide (decode code pc = .ok (i, ilen i)) && jok pc i && decB code (npc pc i) is pc'
theorem am_blk {pc' : Nat} (is : List Instr) (hd : decB bytes pc is pc' = true) (hc : Cx p s m meth c Z own bytes maxL ret mn) (hT : Tab Z a0 C own mn fs fl pfl kI kJ) (hF : FsOk Z a0 C fs) (wi : (Cond.instantiable C kk).before a0 Z = true) (hev : evB w fs fl pfl kI kJ is Ls St σ = some (Ls', St', σ'))
    (k : OkR p l e R s m args below meth c Z C fs n0 h0 F A w cells slots pc' Ls' St' σ' t) : OkR p l e R s m args below meth c Z C fs n0 h0 F A w cells slots pc Ls St σ t := by
  induction is generalizing pc Ls St σ with
  | nil =>
    unfold evB at hev; cases hev
    unfold decB at hd
    have := eq_of_beq hd; subst this
    exact k
  | cons i is ih =>
    unfold evB at hev
    unfold decB at hd
    simp only [Bool.and_eq_true] at hd
    split at hev
    · rename_i L1 S1 σ1 h1
      exact ev1_ok hc hT hF wi (of_decide_eq_true hd.1.1) hd.1.2 h1 (ih hd.2 hev)
    · cases hev

def brk (code : ByteArray) (pc : Nat) (i : Instr) (o : Int) (pc1 : Nat) : Bool := decide (decode code pc = .ok (i, 3)) && decide (0 ≤ (pc : Int) + o) && decide (((pc : Int) + o).toNat = pc1)
theorem brk_spec {code : ByteArray} {pc : Nat} {i : Instr} {o : Int} {pc1 : Nat} (h : brk code pc i o pc1 = true) : decode code pc = .ok (i, 3) ∧ 0 ≤ (pc : Int) + o ∧ ((pc : Int) + o).toNat = pc1 := by
  simp only [brk, Bool.and_eq_true, decide_eq_true_eq] at h; exact ⟨h.1.1, h.1.2, h.2⟩
theorem am_icmpT {cd : ClassFile.Cond} {o : Int} {x y : Int32} {P : Prop} [Decidable P] {pc1 : Nat} {t1 t2 : Option α} (hY : P → if_icmp.holds cd x y = true) (hN : ¬ P → if_icmp.holds cd x y = false) (hd : brk bytes pc (.if_icmp cd o) o pc1 = true) (hc : Cx p s m meth c Z own bytes maxL ret mn)
    (k1 : P → OkR p l e R s m args below meth c Z C fs n0 h0 F A w cells slots pc1 Ls St σ t1) (k2 : ¬ P → OkR p l e R s m args below meth c Z C fs n0 h0 F A w cells slots (pc + 3) Ls St σ t2) : OkR p l e R s m args below meth c Z C fs n0 h0 F A w cells slots pc Ls (.int y :: .int x :: St) σ (if P then t1 else t2) := by
  obtain ⟨d1, d2, d3⟩ := brk_spec hd
  by_cases q : P
  · rw [if_pos q]
    intro x' hx T locs rl X W O N f L
    obtain ⟨s₂, o', st, r⟩ := k1 q x' hx T locs rl X W O N f L
    exact ⟨s₂, o', XS.icmpYes X.here hc.1 rfl (pc0 := pc) rfl (hb hc.2.2.1 d1) rfl (hY q) d2 d3 st, r⟩
  · rw [if_neg q]
    intro x' hx T locs rl X W O N f L
    obtain ⟨s₂, o', st, r⟩ := k2 q x' hx T locs rl X W O N f L
    exact ⟨s₂, o', XS.icmpNo X.here hc.1 rfl (hb hc.2.2.1 d1) rfl (hN q) st, r⟩
theorem am_icmpF {cd : ClassFile.Cond} {o : Int} {x y : Int32} {P : Prop} [Decidable P] {pc1 : Nat} {t1 t2 : Option α} (hY : ¬ P → if_icmp.holds cd x y = true) (hN : P → if_icmp.holds cd x y = false) (hd : brk bytes pc (.if_icmp cd o) o pc1 = true) (hc : Cx p s m meth c Z own bytes maxL ret mn)
    (k1 : P → OkR p l e R s m args below meth c Z C fs n0 h0 F A w cells slots (pc + 3) Ls St σ t1) (k2 : ¬ P → OkR p l e R s m args below meth c Z C fs n0 h0 F A w cells slots pc1 Ls St σ t2) : OkR p l e R s m args below meth c Z C fs n0 h0 F A w cells slots pc Ls (.int y :: .int x :: St) σ (if P then t1 else t2) := by
  obtain ⟨d1, d2, d3⟩ := brk_spec hd
  by_cases q : P
  · rw [if_pos q]
    intro x' hx T locs rl X W O N f L
    obtain ⟨s₂, o', st, r⟩ := k1 q x' hx T locs rl X W O N f L
    exact ⟨s₂, o', XS.icmpNo X.here hc.1 rfl (hb hc.2.2.1 d1) rfl (hN q) st, r⟩
  · rw [if_neg q]
    intro x' hx T locs rl X W O N f L
    obtain ⟨s₂, o', st, r⟩ := k2 q x' hx T locs rl X W O N f L
    exact ⟨s₂, o', XS.icmpYes X.here hc.1 rfl (pc0 := pc) rfl (hb hc.2.2.1 d1) rfl (hY q) d2 d3 st, r⟩
theorem am_ifT {cd : ClassFile.Cond} {o : Int} {x : Int32} {P : Prop} [Decidable P] {pc1 : Nat} {t1 t2 : Option α} (hY : P → ifCond.holds cd x = true) (hN : ¬ P → ifCond.holds cd x = false) (hd : brk bytes pc (.ifCond cd o) o pc1 = true) (hc : Cx p s m meth c Z own bytes maxL ret mn)
    (k1 : P → OkR p l e R s m args below meth c Z C fs n0 h0 F A w cells slots pc1 Ls St σ t1) (k2 : ¬ P → OkR p l e R s m args below meth c Z C fs n0 h0 F A w cells slots (pc + 3) Ls St σ t2) : OkR p l e R s m args below meth c Z C fs n0 h0 F A w cells slots pc Ls (.int x :: St) σ (if P then t1 else t2) := by
  obtain ⟨d1, d2, d3⟩ := brk_spec hd
  by_cases q : P
  · rw [if_pos q]
    intro x' hx T locs rl X W O N f L
    obtain ⟨s₂, o', st, r⟩ := k1 q x' hx T locs rl X W O N f L
    exact ⟨s₂, o', XS.ifYes X.here hc.1 rfl (pc0 := pc) rfl (hb hc.2.2.1 d1) rfl (hY q) d2 d3 st, r⟩
  · rw [if_neg q]
    intro x' hx T locs rl X W O N f L
    obtain ⟨s₂, o', st, r⟩ := k2 q x' hx T locs rl X W O N f L
    exact ⟨s₂, o', XS.ifNo X.here hc.1 rfl (hb hc.2.2.1 d1) rfl (hN q) st, r⟩
theorem am_ifF {cd : ClassFile.Cond} {o : Int} {x : Int32} {P : Prop} [Decidable P] {pc1 : Nat} {t1 t2 : Option α} (hY : ¬ P → ifCond.holds cd x = true) (hN : P → ifCond.holds cd x = false) (hd : brk bytes pc (.ifCond cd o) o pc1 = true) (hc : Cx p s m meth c Z own bytes maxL ret mn)
    (k1 : P → OkR p l e R s m args below meth c Z C fs n0 h0 F A w cells slots (pc + 3) Ls St σ t1) (k2 : ¬ P → OkR p l e R s m args below meth c Z C fs n0 h0 F A w cells slots pc1 Ls St σ t2) : OkR p l e R s m args below meth c Z C fs n0 h0 F A w cells slots pc Ls (.int x :: St) σ (if P then t1 else t2) := by
  obtain ⟨d1, d2, d3⟩ := brk_spec hd
  by_cases q : P
  · rw [if_pos q]
    intro x' hx T locs rl X W O N f L
    obtain ⟨s₂, o', st, r⟩ := k1 q x' hx T locs rl X W O N f L
    exact ⟨s₂, o', XS.ifNo X.here hc.1 rfl (hb hc.2.2.1 d1) rfl (hN q) st, r⟩
  · rw [if_neg q]
    intro x' hx T locs rl X W O N f L
    obtain ⟨s₂, o', st, r⟩ := k2 q x' hx T locs rl X W O N f L
    exact ⟨s₂, o', XS.ifYes X.here hc.1 rfl (pc0 := pc) rfl (hb hc.2.2.1 d1) rfl (hY q) d2 d3 st, r⟩
theorem am_icmp_lt {o : Int} {x y : Int32} {pc1 : Nat} {t1 t2 : Option α} (hd : brk bytes pc (.if_icmp .lt o) o pc1 = true) (hc : Cx p s m meth c Z own bytes maxL ret mn)
    (k1 : x < y → OkR p l e R s m args below meth c Z C fs n0 h0 F A w cells slots pc1 Ls St σ t1) (k2 : ¬ x < y → OkR p l e R s m args below meth c Z C fs n0 h0 F A w cells slots (pc + 3) Ls St σ t2) : OkR p l e R s m args below meth c Z C fs n0 h0 F A w cells slots pc Ls (.int y :: .int x :: St) σ (if x < y then t1 else t2) :=
  am_icmpT (fun h => (tlt h).1) (fun h => (flt h).1) hd hc k1 k2
theorem am_if_lt {o : Int} {x : Int32} {pc1 : Nat} {t1 t2 : Option α} (hd : brk bytes pc (.ifCond .lt o) o pc1 = true) (hc : Cx p s m meth c Z own bytes maxL ret mn)
    (k1 : x < 0 → OkR p l e R s m args below meth c Z C fs n0 h0 F A w cells slots pc1 Ls St σ t1) (k2 : ¬ x < 0 → OkR p l e R s m args below meth c Z C fs n0 h0 F A w cells slots (pc + 3) Ls St σ t2) : OkR p l e R s m args below meth c Z C fs n0 h0 F A w cells slots pc Ls (.int x :: St) σ (if x < 0 then t1 else t2) :=
  am_ifT (fun h => (if0 _ _).trans (tlt h).1) (fun h => (if0 _ _).trans (flt h).1) hd hc k1 k2
theorem am_icmp_ge {o : Int} {x y : Int32} {pc1 : Nat} {t1 t2 : Option α} (hd : brk bytes pc (.if_icmp .ge o) o pc1 = true) (hc : Cx p s m meth c Z own bytes maxL ret mn)
    (k1 : x < y → OkR p l e R s m args below meth c Z C fs n0 h0 F A w cells slots (pc + 3) Ls St σ t1) (k2 : ¬ x < y → OkR p l e R s m args below meth c Z C fs n0 h0 F A w cells slots pc1 Ls St σ t2) : OkR p l e R s m args below meth c Z C fs n0 h0 F A w cells slots pc Ls (.int y :: .int x :: St) σ (if x < y then t1 else t2) :=
  am_icmpF (fun h => (flt h).2.1) (fun h => (tlt h).2.1) hd hc k1 k2
theorem am_if_ge {o : Int} {x : Int32} {pc1 : Nat} {t1 t2 : Option α} (hd : brk bytes pc (.ifCond .ge o) o pc1 = true) (hc : Cx p s m meth c Z own bytes maxL ret mn)
    (k1 : x < 0 → OkR p l e R s m args below meth c Z C fs n0 h0 F A w cells slots (pc + 3) Ls St σ t1) (k2 : ¬ x < 0 → OkR p l e R s m args below meth c Z C fs n0 h0 F A w cells slots pc1 Ls St σ t2) : OkR p l e R s m args below meth c Z C fs n0 h0 F A w cells slots pc Ls (.int x :: St) σ (if x < 0 then t1 else t2) :=
  am_ifF (fun h => (if0 _ _).trans (flt h).2.1) (fun h => (if0 _ _).trans (tlt h).2.1) hd hc k1 k2
theorem am_icmp_gt {o : Int} {x y : Int32} {pc1 : Nat} {t1 t2 : Option α} (hd : brk bytes pc (.if_icmp .gt o) o pc1 = true) (hc : Cx p s m meth c Z own bytes maxL ret mn)
    (k1 : y < x → OkR p l e R s m args below meth c Z C fs n0 h0 F A w cells slots pc1 Ls St σ t1) (k2 : ¬ y < x → OkR p l e R s m args below meth c Z C fs n0 h0 F A w cells slots (pc + 3) Ls St σ t2) : OkR p l e R s m args below meth c Z C fs n0 h0 F A w cells slots pc Ls (.int y :: .int x :: St) σ (if y < x then t1 else t2) :=
  am_icmpT (fun h => (tlt h).2.2.1) (fun h => (flt h).2.2.1) hd hc k1 k2
theorem am_if_gt {o : Int} {x : Int32} {pc1 : Nat} {t1 t2 : Option α} (hd : brk bytes pc (.ifCond .gt o) o pc1 = true) (hc : Cx p s m meth c Z own bytes maxL ret mn)
    (k1 : 0 < x → OkR p l e R s m args below meth c Z C fs n0 h0 F A w cells slots pc1 Ls St σ t1) (k2 : ¬ 0 < x → OkR p l e R s m args below meth c Z C fs n0 h0 F A w cells slots (pc + 3) Ls St σ t2) : OkR p l e R s m args below meth c Z C fs n0 h0 F A w cells slots pc Ls (.int x :: St) σ (if 0 < x then t1 else t2) :=
  am_ifT (fun h => (if0 _ _).trans (tlt h).2.2.1) (fun h => (if0 _ _).trans (flt h).2.2.1) hd hc k1 k2
theorem am_icmp_le {o : Int} {x y : Int32} {pc1 : Nat} {t1 t2 : Option α} (hd : brk bytes pc (.if_icmp .le o) o pc1 = true) (hc : Cx p s m meth c Z own bytes maxL ret mn)
    (k1 : y < x → OkR p l e R s m args below meth c Z C fs n0 h0 F A w cells slots (pc + 3) Ls St σ t1) (k2 : ¬ y < x → OkR p l e R s m args below meth c Z C fs n0 h0 F A w cells slots pc1 Ls St σ t2) : OkR p l e R s m args below meth c Z C fs n0 h0 F A w cells slots pc Ls (.int y :: .int x :: St) σ (if y < x then t1 else t2) :=
  am_icmpF (fun h => (flt h).2.2.2) (fun h => (tlt h).2.2.2) hd hc k1 k2
theorem am_if_le {o : Int} {x : Int32} {pc1 : Nat} {t1 t2 : Option α} (hd : brk bytes pc (.ifCond .le o) o pc1 = true) (hc : Cx p s m meth c Z own bytes maxL ret mn)
    (k1 : 0 < x → OkR p l e R s m args below meth c Z C fs n0 h0 F A w cells slots (pc + 3) Ls St σ t1) (k2 : ¬ 0 < x → OkR p l e R s m args below meth c Z C fs n0 h0 F A w cells slots pc1 Ls St σ t2) : OkR p l e R s m args below meth c Z C fs n0 h0 F A w cells slots pc Ls (.int x :: St) σ (if 0 < x then t1 else t2) :=
  am_ifF (fun h => (if0 _ _).trans (flt h).2.2.2) (fun h => (if0 _ _).trans (tlt h).2.2.2) hd hc k1 k2
theorem am_icmp_eq {o : Int} {x y : Int32} {pc1 : Nat} {t1 t2 : Option α} (hd : brk bytes pc (.if_icmp .eq o) o pc1 = true) (hc : Cx p s m meth c Z own bytes maxL ret mn)
    (k1 : x = y → OkR p l e R s m args below meth c Z C fs n0 h0 F A w cells slots pc1 Ls St σ t1) (k2 : ¬ x = y → OkR p l e R s m args below meth c Z C fs n0 h0 F A w cells slots (pc + 3) Ls St σ t2) : OkR p l e R s m args below meth c Z C fs n0 h0 F A w cells slots pc Ls (.int y :: .int x :: St) σ (if x = y then t1 else t2) :=
  am_icmpT (fun h => (teq h).1) (fun h => (feq h).1) hd hc k1 k2
theorem am_if_eq {o : Int} {x : Int32} {pc1 : Nat} {t1 t2 : Option α} (hd : brk bytes pc (.ifCond .eq o) o pc1 = true) (hc : Cx p s m meth c Z own bytes maxL ret mn)
    (k1 : x = 0 → OkR p l e R s m args below meth c Z C fs n0 h0 F A w cells slots pc1 Ls St σ t1) (k2 : ¬ x = 0 → OkR p l e R s m args below meth c Z C fs n0 h0 F A w cells slots (pc + 3) Ls St σ t2) : OkR p l e R s m args below meth c Z C fs n0 h0 F A w cells slots pc Ls (.int x :: St) σ (if x = 0 then t1 else t2) :=
  am_ifT (fun h => (if0 _ _).trans (teq h).1) (fun h => (if0 _ _).trans (feq h).1) hd hc k1 k2
theorem am_icmp_ne {o : Int} {x y : Int32} {pc1 : Nat} {t1 t2 : Option α} (hd : brk bytes pc (.if_icmp .ne o) o pc1 = true) (hc : Cx p s m meth c Z own bytes maxL ret mn)
    (k1 : x = y → OkR p l e R s m args below meth c Z C fs n0 h0 F A w cells slots (pc + 3) Ls St σ t1) (k2 : ¬ x = y → OkR p l e R s m args below meth c Z C fs n0 h0 F A w cells slots pc1 Ls St σ t2) : OkR p l e R s m args below meth c Z C fs n0 h0 F A w cells slots pc Ls (.int y :: .int x :: St) σ (if x = y then t1 else t2) :=
  am_icmpF (fun h => (feq h).2) (fun h => (teq h).2) hd hc k1 k2
theorem am_if_ne {o : Int} {x : Int32} {pc1 : Nat} {t1 t2 : Option α} (hd : brk bytes pc (.ifCond .ne o) o pc1 = true) (hc : Cx p s m meth c Z own bytes maxL ret mn)
    (k1 : x = 0 → OkR p l e R s m args below meth c Z C fs n0 h0 F A w cells slots (pc + 3) Ls St σ t1) (k2 : ¬ x = 0 → OkR p l e R s m args below meth c Z C fs n0 h0 F A w cells slots pc1 Ls St σ t2) : OkR p l e R s m args below meth c Z C fs n0 h0 F A w cells slots pc Ls (.int x :: St) σ (if x = 0 then t1 else t2) :=
  am_ifF (fun h => (if0 _ _).trans (feq h).2) (fun h => (if0 _ _).trans (teq h).2) hd hc k1 k2

def inb (i : Int32) (n : Nat) : Bool := decide (0 ≤ i.toInt ∧ i.toInt < (n : Int))
theorem inb_iff {i : Int32} {n : Nat} : inb i n = true ↔ 0 ≤ i.toInt ∧ i.toInt < (n : Int) := by simp [inb]
theorem inb_of' {i : Int32} {n : Nat} (h : inb i n = true) : nx i < n ∧ i.toNatClampNeg = nx i ∧ ∀ c : Cell, c.slots.size = n → ¬ (i < 0 ∨ c.slots.size ≤ i.toNatClampNeg) := by
  obtain ⟨h1, h2⟩ := inb_iff.mp h
  have e : i.toNatClampNeg = nx i := rfl
  refine ⟨by unfold nx; omega, e, fun c hc => ?_⟩
  rw [hc, e]
  intro q
  rcases q with q | q
  · rw [Int32.lt_iff_toInt_lt] at q
    have : (0 : Int32).toInt = 0 := rfl
    omega
  · unfold nx at q; omega
theorem am_iaload {k n : Nat} {i : Int32} (hd : decode bytes pc = .ok (.iaload, 1)) (hc : Cx p s m meth c Z own bytes maxL ret mn) (hk : w k = some (.inr (.int, n, none)))
    (κ : inb i n = true → OkR p l e R s m args below meth c Z C fs n0 h0 F A w cells slots (pc + 1) Ls (.int (gi σ k (nx i)) :: St) σ t) : OkR p l e R s m args below meth c Z C fs n0 h0 F A w cells slots pc Ls (.int i :: .ref k :: St) σ (if inb i n = true then t else none) := by
  by_cases q : inb i n = true
  · rw [if_pos q]
    intro x hx T locs rl X W O N f L
    obtain ⟨q1, q2, q3⟩ := inb_of' q
    obtain ⟨cl, a1, a2, a3⟩ := W.1 k _ hk
    have hv : cl.slots[i.toNatClampNeg]? = some (.int (gi σ k (nx i))) := by rw [q2]; exact a3 _ q1
    obtain ⟨s₂, o', st, r⟩ := κ q x hx T locs rl X W O N f L
    exact ⟨s₂, o', X.iaload hc.1 a1.1 (State.isArrayOf_alike hc.2.1.alike a1.2.1) a1.2.2 (q3 cl a2) hv (g := mkF m pc rl.toArray (.int i :: .ref (A k) :: St.map (cv A))) rfl rfl (hb hc.2.2.1 hd) _ st, r⟩
  · rw [if_neg q]; exact am_none rfl
theorem am_iaload_k {k n : Nat} {i : Int32} (q : inb i n = true) (hd : decode bytes pc = .ok (.iaload, 1)) (hc : Cx p s m meth c Z own bytes maxL ret mn) (hk : w k = some (.inr (.int, n, none)))
    (κ : OkR p l e R s m args below meth c Z C fs n0 h0 F A w cells slots (pc + 1) Ls (.int (gi σ k (nx i)) :: St) σ t) : OkR p l e R s m args below meth c Z C fs n0 h0 F A w cells slots pc Ls (.int i :: .ref k :: St) σ t := by
  have := am_iaload hd hc hk fun _ => κ
  rw [if_pos q] at this; exact this
theorem am_ialoadC {k n : Nat} {i : Int32} {f0 : Nat → Int32} (hd : decode bytes pc = .ok (.iaload, 1)) (hc : Cx p s m meth c Z own bytes maxL ret mn) (hk : w k = some (.inr (.int, n, some f0)))
    (κ : inb i n = true → OkR p l e R s m args below meth c Z C fs n0 h0 F A w cells slots (pc + 1) Ls (.int (f0 (nx i)) :: St) σ t) : OkR p l e R s m args below meth c Z C fs n0 h0 F A w cells slots pc Ls (.int i :: .ref k :: St) σ (if inb i n = true then t else none) := by
  by_cases q : inb i n = true
  · rw [if_pos q]
    intro x hx T locs rl X W O N f L
    obtain ⟨q1, q2, q3⟩ := inb_of' q
    obtain ⟨cl, a1, a2, a3⟩ := W.1 k _ hk
    have hv : cl.slots[i.toNatClampNeg]? = some (.int (f0 (nx i))) := by rw [q2]; exact a3 _ q1
    obtain ⟨s₂, o', st, r⟩ := κ q x hx T locs rl X W O N f L
    exact ⟨s₂, o', X.iaload hc.1 a1.1 (State.isArrayOf_alike hc.2.1.alike a1.2.1) a1.2.2 (q3 cl a2) hv (g := mkF m pc rl.toArray (.int i :: .ref (A k) :: St.map (cv A))) rfl rfl (hb hc.2.2.1 hd) _ st, r⟩
  · rw [if_neg q]; exact am_none rfl
theorem am_ialoadC_k {k n : Nat} {i : Int32} {f0 : Nat → Int32} (q : inb i n = true) (hd : decode bytes pc = .ok (.iaload, 1)) (hc : Cx p s m meth c Z own bytes maxL ret mn) (hk : w k = some (.inr (.int, n, some f0)))
    (κ : OkR p l e R s m args below meth c Z C fs n0 h0 F A w cells slots (pc + 1) Ls (.int (f0 (nx i)) :: St) σ t) : OkR p l e R s m args below meth c Z C fs n0 h0 F A w cells slots pc Ls (.int i :: .ref k :: St) σ t := by
  have := am_ialoadC hd hc hk fun _ => κ
  rw [if_pos q] at this; exact this
theorem am_laload {k n : Nat} {i : Int32} (hd : decode bytes pc = .ok (.laload, 1)) (hc : Cx p s m meth c Z own bytes maxL ret mn) (hk : w k = some (.inr (.long, n, none)))
    (κ : inb i n = true → OkR p l e R s m args below meth c Z C fs n0 h0 F A w cells slots (pc + 1) Ls (.long (gj σ k (nx i)) :: St) σ t) : OkR p l e R s m args below meth c Z C fs n0 h0 F A w cells slots pc Ls (.int i :: .ref k :: St) σ (if inb i n = true then t else none) := by
  by_cases q : inb i n = true
  · rw [if_pos q]
    intro x hx T locs rl X W O N f L
    obtain ⟨q1, q2, q3⟩ := inb_of' q
    obtain ⟨cl, a1, a2, a3⟩ := W.1 k _ hk
    have hv : cl.slots[i.toNatClampNeg]? = some (.long (gj σ k (nx i))) := by rw [q2]; exact a3 _ q1
    obtain ⟨s₂, o', st, r⟩ := κ q x hx T locs rl X W O N f L
    exact ⟨s₂, o', X.laload hc.1 a1.1 (State.isArrayOf_alike hc.2.1.alike a1.2.1) a1.2.2 (q3 cl a2) hv (g := mkF m pc rl.toArray (.int i :: .ref (A k) :: St.map (cv A))) rfl rfl (hb hc.2.2.1 hd) _ st, r⟩
  · rw [if_neg q]; exact am_none rfl
theorem am_laload_k {k n : Nat} {i : Int32} (q : inb i n = true) (hd : decode bytes pc = .ok (.laload, 1)) (hc : Cx p s m meth c Z own bytes maxL ret mn) (hk : w k = some (.inr (.long, n, none)))
    (κ : OkR p l e R s m args below meth c Z C fs n0 h0 F A w cells slots (pc + 1) Ls (.long (gj σ k (nx i)) :: St) σ t) : OkR p l e R s m args below meth c Z C fs n0 h0 F A w cells slots pc Ls (.int i :: .ref k :: St) σ t := by
  have := am_laload hd hc hk fun _ => κ
  rw [if_pos q] at this; exact this
theorem am_baloadB {k n : Nat} {i : Int32} (hd : decode bytes pc = .ok (.baload, 1)) (hc : Cx p s m meth c Z own bytes maxL ret mn) (hk : w k = some (.inr (.byte, n, none)))
    (κ : inb i n = true → OkR p l e R s m args below meth c Z C fs n0 h0 F A w cells slots (pc + 1) Ls (.int (gi σ k (nx i)) :: St) σ t) : OkR p l e R s m args below meth c Z C fs n0 h0 F A w cells slots pc Ls (.int i :: .ref k :: St) σ (if inb i n = true then t else none) := by
  by_cases q : inb i n = true
  · rw [if_pos q]
    intro x hx T locs rl X W O N f L
    obtain ⟨q1, q2, q3⟩ := inb_of' q
    obtain ⟨cl, a1, a2, a3⟩ := W.1 k _ hk
    have hv : cl.slots[i.toNatClampNeg]? = some (.int (gi σ k (nx i))) := by rw [q2]; exact a3 _ q1
    obtain ⟨s₂, o', st, r⟩ := κ q x hx T locs rl X W O N f L
    exact ⟨s₂, o', X.baloadBytes hc.1 a1.1 (State.isArrayOf_alike hc.2.1.alike a1.2.1) a1.2.2 (q3 cl a2) hv (g := mkF m pc rl.toArray (.int i :: .ref (A k) :: St.map (cv A))) rfl rfl (hb hc.2.2.1 hd) _ st, r⟩
  · rw [if_neg q]; exact am_none rfl
theorem am_baloadB_k {k n : Nat} {i : Int32} (q : inb i n = true) (hd : decode bytes pc = .ok (.baload, 1)) (hc : Cx p s m meth c Z own bytes maxL ret mn) (hk : w k = some (.inr (.byte, n, none)))
    (κ : OkR p l e R s m args below meth c Z C fs n0 h0 F A w cells slots (pc + 1) Ls (.int (gi σ k (nx i)) :: St) σ t) : OkR p l e R s m args below meth c Z C fs n0 h0 F A w cells slots pc Ls (.int i :: .ref k :: St) σ t := by
  have := am_baloadB hd hc hk fun _ => κ
  rw [if_pos q] at this; exact this
theorem am_baloadZ {k n : Nat} {i : Int32} (hd : decode bytes pc = .ok (.baload, 1)) (hc : Cx p s m meth c Z own bytes maxL ret mn) (hk : w k = some (.inr (.boolean, n, none)))
    (κ : inb i n = true → OkR p l e R s m args below meth c Z C fs n0 h0 F A w cells slots (pc + 1) Ls (.int (gi σ k (nx i)) :: St) σ t) : OkR p l e R s m args below meth c Z C fs n0 h0 F A w cells slots pc Ls (.int i :: .ref k :: St) σ (if inb i n = true then t else none) := by
  by_cases q : inb i n = true
  · rw [if_pos q]
    intro x hx T locs rl X W O N f L
    obtain ⟨q1, q2, q3⟩ := inb_of' q
    obtain ⟨cl, a1, a2, a3⟩ := W.1 k _ hk
    have hv : cl.slots[i.toNatClampNeg]? = some (.int (gi σ k (nx i))) := by rw [q2]; exact a3 _ q1
    obtain ⟨s₂, o', st, r⟩ := κ q x hx T locs rl X W O N f L
    exact ⟨s₂, o', X.baloadBooleans hc.1 a1.1 (State.isArrayOf_alike hc.2.1.alike a1.2.1) a1.2.2 (q3 cl a2) hv (g := mkF m pc rl.toArray (.int i :: .ref (A k) :: St.map (cv A))) rfl rfl (hb hc.2.2.1 hd) _ st, r⟩
  · rw [if_neg q]; exact am_none rfl
theorem am_baloadZ_k {k n : Nat} {i : Int32} (q : inb i n = true) (hd : decode bytes pc = .ok (.baload, 1)) (hc : Cx p s m meth c Z own bytes maxL ret mn) (hk : w k = some (.inr (.boolean, n, none)))
    (κ : OkR p l e R s m args below meth c Z C fs n0 h0 F A w cells slots (pc + 1) Ls (.int (gi σ k (nx i)) :: St) σ t) : OkR p l e R s m args below meth c Z C fs n0 h0 F A w cells slots pc Ls (.int i :: .ref k :: St) σ t := by
  have := am_baloadZ hd hc hk fun _ => κ
  rw [if_pos q] at this; exact this
theorem am_iastore {k n : Nat} {i : Int32} {x y : Int32} (hy : x = y) (hd : decode bytes pc = .ok (.iastore, 1)) (hc : Cx p s m meth c Z own bytes maxL ret mn) (hk : w k = some (.inr (.int, n, none)))
    (κ : inb i n = true → OkR p l e R s m args below meth c Z C fs n0 h0 F A w cells slots (pc + 1) Ls St (si σ k (nx i) y) t) : OkR p l e R s m args below meth c Z C fs n0 h0 F A w cells slots pc Ls (.int x :: .int i :: .ref k :: St) σ (if inb i n = true then t else none) := by
  by_cases q : inb i n = true
  · rw [if_pos q]
    intro x' hx T locs rl X W O N f L
    obtain ⟨q1, q2, q3⟩ := inb_of' q
    obtain ⟨cl, a1, a2, a3⟩ := W.1 k _ hk
    obtain ⟨T', h', X', e', Q, st'⟩ := stI X hc.1 hc.2.1 rfl a1 (q3 cl a2) (g := mkF m pc rl.toArray (.int x :: .int i :: .ref (A k) :: St.map (cv A))) rfl rfl (hb hc.2.2.1 hd)
    subst e'
    have W' : Wd Z C fs T'.heap A w (si σ k (nx i) y) := by
      refine W.write hk Q (si_off _ _ _ _) ⟨_, a1.same Q, by rw [sz_set]; exact a2, fun j hj => ?_⟩
      subst hy
      simp only [Cell.setSlot, aeo, ae]
      rw [q2]
      by_cases ej : j = nx i
      · subst ej
        rw [Array.getElem?_setIfInBounds_self_of_lt (by omega)]
        simp [gi_si, gj_sj, nar]
      · rw [Array.getElem?_setIfInBounds_ne (Ne.symm ej)]
        rw [a3 j hj]
        simp [aeo, ae, gi_si, gj_sj, ej]
    obtain ⟨s₂, o', st, r⟩ := κ q x' hx T' _ rl X' W' (O.write hk rfl Q) N (Fr.snoc X' f (N k _ hk rfl)) L
    exact ⟨s₂, o', st' _ st, r⟩
  · rw [if_neg q]; exact am_none rfl
theorem am_iastore_k {k n : Nat} {i : Int32} {x y : Int32} (q : inb i n = true) (hy : x = y) (hd : decode bytes pc = .ok (.iastore, 1)) (hc : Cx p s m meth c Z own bytes maxL ret mn) (hk : w k = some (.inr (.int, n, none)))
    (κ : OkR p l e R s m args below meth c Z C fs n0 h0 F A w cells slots (pc + 1) Ls St (si σ k (nx i) y) t) : OkR p l e R s m args below meth c Z C fs n0 h0 F A w cells slots pc Ls (.int x :: .int i :: .ref k :: St) σ t := by
  have := am_iastore hy hd hc hk fun _ => κ
  rw [if_pos q] at this; exact this
theorem am_lastore {k n : Nat} {i : Int32} {x y : Int64} (hy : x = y) (hd : decode bytes pc = .ok (.lastore, 1)) (hc : Cx p s m meth c Z own bytes maxL ret mn) (hk : w k = some (.inr (.long, n, none)))
    (κ : inb i n = true → OkR p l e R s m args below meth c Z C fs n0 h0 F A w cells slots (pc + 1) Ls St (sj σ k (nx i) y) t) : OkR p l e R s m args below meth c Z C fs n0 h0 F A w cells slots pc Ls (.long x :: .int i :: .ref k :: St) σ (if inb i n = true then t else none) := by
  by_cases q : inb i n = true
  · rw [if_pos q]
    intro x' hx T locs rl X W O N f L
    obtain ⟨q1, q2, q3⟩ := inb_of' q
    obtain ⟨cl, a1, a2, a3⟩ := W.1 k _ hk
    obtain ⟨T', h', X', e', Q, st'⟩ := stJ X hc.1 hc.2.1 rfl a1 (q3 cl a2) (g := mkF m pc rl.toArray (.long x :: .int i :: .ref (A k) :: St.map (cv A))) rfl rfl (hb hc.2.2.1 hd)
    subst e'
    have W' : Wd Z C fs T'.heap A w (sj σ k (nx i) y) := by
      refine W.write hk Q (sj_off _ _ _ _) ⟨_, a1.same Q, by rw [sz_set]; exact a2, fun j hj => ?_⟩
      subst hy
      simp only [Cell.setSlot, aeo, ae]
      rw [q2]
      by_cases ej : j = nx i
      · subst ej
        rw [Array.getElem?_setIfInBounds_self_of_lt (by omega)]
        simp [gi_si, gj_sj, nar]
      · rw [Array.getElem?_setIfInBounds_ne (Ne.symm ej)]
        rw [a3 j hj]
        simp [aeo, ae, gi_si, gj_sj, ej]
    obtain ⟨s₂, o', st, r⟩ := κ q x' hx T' _ rl X' W' (O.write hk rfl Q) N (Fr.snoc X' f (N k _ hk rfl)) L
    exact ⟨s₂, o', st' _ st, r⟩
  · rw [if_neg q]; exact am_none rfl
theorem am_lastore_k {k n : Nat} {i : Int32} {x y : Int64} (q : inb i n = true) (hy : x = y) (hd : decode bytes pc = .ok (.lastore, 1)) (hc : Cx p s m meth c Z own bytes maxL ret mn) (hk : w k = some (.inr (.long, n, none)))
    (κ : OkR p l e R s m args below meth c Z C fs n0 h0 F A w cells slots (pc + 1) Ls St (sj σ k (nx i) y) t) : OkR p l e R s m args below meth c Z C fs n0 h0 F A w cells slots pc Ls (.long x :: .int i :: .ref k :: St) σ t := by
  have := am_lastore hy hd hc hk fun _ => κ
  rw [if_pos q] at this; exact this
theorem am_bastoreB {k n : Nat} {i : Int32} {x y : Int32} (hy : x.toInt8.toInt32 = y) (hd : decode bytes pc = .ok (.bastore, 1)) (hc : Cx p s m meth c Z own bytes maxL ret mn) (hk : w k = some (.inr (.byte, n, none)))
    (κ : inb i n = true → OkR p l e R s m args below meth c Z C fs n0 h0 F A w cells slots (pc + 1) Ls St (si σ k (nx i) y) t) : OkR p l e R s m args below meth c Z C fs n0 h0 F A w cells slots pc Ls (.int x :: .int i :: .ref k :: St) σ (if inb i n = true then t else none) := by
  by_cases q : inb i n = true
  · rw [if_pos q]
    intro x' hx T locs rl X W O N f L
    obtain ⟨q1, q2, q3⟩ := inb_of' q
    obtain ⟨cl, a1, a2, a3⟩ := W.1 k _ hk
    obtain ⟨T', h', X', e', Q, st'⟩ := stB X hc.1 hc.2.1 rfl a1 (q3 cl a2) (g := mkF m pc rl.toArray (.int x :: .int i :: .ref (A k) :: St.map (cv A))) rfl rfl (hb hc.2.2.1 hd)
    subst e'
    have W' : Wd Z C fs T'.heap A w (si σ k (nx i) y) := by
      refine W.write hk Q (si_off _ _ _ _) ⟨_, a1.same Q, by rw [sz_set]; exact a2, fun j hj => ?_⟩
      subst hy
      simp only [Cell.setSlot, aeo, ae]
      rw [q2]
      by_cases ej : j = nx i
      · subst ej
        rw [Array.getElem?_setIfInBounds_self_of_lt (by omega)]
        simp [gi_si, gj_sj, nar]
      · rw [Array.getElem?_setIfInBounds_ne (Ne.symm ej)]
        rw [a3 j hj]
        simp [aeo, ae, gi_si, gj_sj, ej]
    obtain ⟨s₂, o', st, r⟩ := κ q x' hx T' _ rl X' W' (O.write hk rfl Q) N (Fr.snoc X' f (N k _ hk rfl)) L
    exact ⟨s₂, o', st' _ st, r⟩
  · rw [if_neg q]; exact am_none rfl
theorem am_bastoreB_k {k n : Nat} {i : Int32} {x y : Int32} (q : inb i n = true) (hy : x.toInt8.toInt32 = y) (hd : decode bytes pc = .ok (.bastore, 1)) (hc : Cx p s m meth c Z own bytes maxL ret mn) (hk : w k = some (.inr (.byte, n, none)))
    (κ : OkR p l e R s m args below meth c Z C fs n0 h0 F A w cells slots (pc + 1) Ls St (si σ k (nx i) y) t) : OkR p l e R s m args below meth c Z C fs n0 h0 F A w cells slots pc Ls (.int x :: .int i :: .ref k :: St) σ t := by
  have := am_bastoreB hy hd hc hk fun _ => κ
  rw [if_pos q] at this; exact this
theorem am_bastoreZ {k n : Nat} {i : Int32} {x y : Int32} (hy : x &&& 1 = y) (hd : decode bytes pc = .ok (.bastore, 1)) (hc : Cx p s m meth c Z own bytes maxL ret mn) (hk : w k = some (.inr (.boolean, n, none)))
    (κ : inb i n = true → OkR p l e R s m args below meth c Z C fs n0 h0 F A w cells slots (pc + 1) Ls St (si σ k (nx i) y) t) : OkR p l e R s m args below meth c Z C fs n0 h0 F A w cells slots pc Ls (.int x :: .int i :: .ref k :: St) σ (if inb i n = true then t else none) := by
  by_cases q : inb i n = true
  · rw [if_pos q]
    intro x' hx T locs rl X W O N f L
    obtain ⟨q1, q2, q3⟩ := inb_of' q
    obtain ⟨cl, a1, a2, a3⟩ := W.1 k _ hk
    obtain ⟨T', h', X', e', Q, st'⟩ := stZ X hc.1 hc.2.1 rfl a1 (q3 cl a2) (g := mkF m pc rl.toArray (.int x :: .int i :: .ref (A k) :: St.map (cv A))) rfl rfl (hb hc.2.2.1 hd)
    subst e'
    have W' : Wd Z C fs T'.heap A w (si σ k (nx i) y) := by
      refine W.write hk Q (si_off _ _ _ _) ⟨_, a1.same Q, by rw [sz_set]; exact a2, fun j hj => ?_⟩
      subst hy
      simp only [Cell.setSlot, aeo, ae]
      rw [q2]
      by_cases ej : j = nx i
      · subst ej
        rw [Array.getElem?_setIfInBounds_self_of_lt (by omega)]
        simp [gi_si, gj_sj, nar]
      · rw [Array.getElem?_setIfInBounds_ne (Ne.symm ej)]
        rw [a3 j hj]
        simp [aeo, ae, gi_si, gj_sj, ej]
    obtain ⟨s₂, o', st, r⟩ := κ q x' hx T' _ rl X' W' (O.write hk rfl Q) N (Fr.snoc X' f (N k _ hk rfl)) L
    exact ⟨s₂, o', st' _ st, r⟩
  · rw [if_neg q]; exact am_none rfl
theorem am_bastoreZ_k {k n : Nat} {i : Int32} {x y : Int32} (q : inb i n = true) (hy : x &&& 1 = y) (hd : decode bytes pc = .ok (.bastore, 1)) (hc : Cx p s m meth c Z own bytes maxL ret mn) (hk : w k = some (.inr (.boolean, n, none)))
    (κ : OkR p l e R s m args below meth c Z C fs n0 h0 F A w cells slots (pc + 1) Ls St (si σ k (nx i) y) t) : OkR p l e R s m args below meth c Z C fs n0 h0 F A w cells slots pc Ls (.int x :: .int i :: .ref k :: St) σ t := by
  have := am_bastoreZ hy hd hc hk fun _ => κ
  rw [if_pos q] at this; exact this
theorem am_alen {k n : Nat} {ty : FieldType} {o : Option (Nat → Int32)} (hd : decode bytes pc = .ok (.arraylength, 1)) (hc : Cx p s m meth c Z own bytes maxL ret mn) (hk : w k = some (.inr (ty, n, o)))
    (κ : OkR p l e R s m args below meth c Z C fs n0 h0 F A w cells slots (pc + 1) Ls (.int n.toInt32 :: St) σ t) : OkR p l e R s m args below meth c Z C fs n0 h0 F A w cells slots pc Ls (.ref k :: St) σ t := by
  intro x hx T locs rl X W O N f L
  obtain ⟨cl, a1, a2, a3⟩ := W.1 k _ hk
  subst a2
  obtain ⟨s₂, o', st, r⟩ := κ x hx T locs rl X W O N f L
  exact ⟨s₂, o', X.arraylength hc.1 a1.1 (State.isArrayOf_alike hc.2.1.alike a1.2.1) (g := mkF m pc rl.toArray (.ref (A k) :: St.map (cv A))) rfl rfl (hb hc.2.2.1 hd) _ st, r⟩
theorem am_irem {x y : Int32} (hd : decode bytes pc = .ok (.irem, 1)) (hc : Cx p s m meth c Z own bytes maxL ret mn)
    (κ : y ≠ 0 → OkR p l e R s m args below meth c Z C fs n0 h0 F A w cells slots (pc + 1) Ls (.int (x % y) :: St) σ t) : OkR p l e R s m args below meth c Z C fs n0 h0 F A w cells slots pc Ls (.int y :: .int x :: St) σ (if y = 0 then none else t) := by
  by_cases q : y = 0
  · rw [if_pos q]; exact am_none rfl
  · rw [if_neg q]
    intro x' hx T locs rl X W O N f L
    obtain ⟨s₂, o', st, r⟩ := κ q x' hx T locs rl X W O N f L
    exact ⟨s₂, o', iremM X hc.1 rfl (hb hc.2.2.1 hd) rfl q st, r⟩
theorem am_idiv {x y : Int32} (hd : decode bytes pc = .ok (.idiv, 1)) (hc : Cx p s m meth c Z own bytes maxL ret mn)
    (κ : y ≠ 0 → OkR p l e R s m args below meth c Z C fs n0 h0 F A w cells slots (pc + 1) Ls (.int (x / y) :: St) σ t) : OkR p l e R s m args below meth c Z C fs n0 h0 F A w cells slots pc Ls (.int y :: .int x :: St) σ (if y = 0 then none else t) := by
  by_cases q : y = 0
  · rw [if_pos q]; exact am_none rfl
  · rw [if_neg q]
    intro x' hx T locs rl X W O N f L
    obtain ⟨s₂, o', st, r⟩ := κ q x' hx T locs rl X W O N f L
    exact ⟨s₂, o', XS.idiv X.here hc.1 rfl (hb hc.2.2.1 hd) rfl q st, r⟩
theorem am_retI {z : Int32} {a : α} (hd : decode bytes pc = .ok (.ireturn, 1)) (hc : Cx p s m meth c Z own bytes maxL (some .int) mn) (hcs : cells ≤ R.cells) (hsl : slots ≤ R.slots) (hF : ∀ h, Wd Z C fs h A w σ → Out h0 h A w → F a (some (.int z)) h) : OkR p l e R s m args below meth c Z C fs n0 h0 F A w cells slots pc Ls (.int z :: St) σ (some a) := by
  intro x' hx T locs rl X W O N f L
  cases hx
  obtain ⟨fs', hr, hrun, hended, hW, hsame⟩ := X.leave (v := some (.int z)) (fun h => by rw [hc.2.2.2.2.2.1] at h; cases h) hc.2.2.2.2.2.2.1
  exact ⟨_, _, retOut X hc.1 hc.2.2.2.2.2.1 rfl (Or.inl ⟨rfl, Or.inl rfl, z, rfl⟩) (hb hc.2.2.1 hd) hr, hrun, hended, _, locs, rfl, ⟨hF _ W O, f⟩, ⟨_, rfl⟩, hW, hsame.mono hcs hsl⟩
theorem am_retZ {z : Int32} {a : α} (hd : decode bytes pc = .ok (.ireturn, 1)) (hc : Cx p s m meth c Z own bytes maxL (some .boolean) mn) (hcs : cells ≤ R.cells) (hsl : slots ≤ R.slots) (hF : ∀ h, Wd Z C fs h A w σ → Out h0 h A w → F a (some (.int (z &&& 1))) h) : OkR p l e R s m args below meth c Z C fs n0 h0 F A w cells slots pc Ls (.int z :: St) σ (some a) := by
  intro x' hx T locs rl X W O N f L
  cases hx
  obtain ⟨fs', hr, hrun, hended, hW, hsame⟩ := X.leave (v := some (.int (z &&& 1))) (fun h => by rw [hc.2.2.2.2.2.1] at h; cases h) hc.2.2.2.2.2.2.1
  exact ⟨_, _, retN X hc.1 (t := .boolean) hc.2.2.2.2.2.1 (Or.inl rfl) (hb hc.2.2.1 hd) hr, hrun, hended, _, locs, rfl, ⟨hF _ W O, f⟩, ⟨_, rfl⟩, hW, hsame.mono hcs hsl⟩
theorem am_retJ {z : Int64} {a : α} (hd : decode bytes pc = .ok (.lreturn, 1)) (hc : Cx p s m meth c Z own bytes maxL (some .long) mn) (hcs : cells ≤ R.cells) (hsl : slots ≤ R.slots) (hF : ∀ h, Wd Z C fs h A w σ → Out h0 h A w → F a (some (.long z)) h) : OkR p l e R s m args below meth c Z C fs n0 h0 F A w cells slots pc Ls (.long z :: St) σ (some a) := by
  intro x' hx T locs rl X W O N f L
  cases hx
  obtain ⟨fs', hr, hrun, hended, hW, hsame⟩ := X.leave (v := some (.long z)) (fun h => by rw [hc.2.2.2.2.2.1] at h; cases h) hc.2.2.2.2.2.2.1
  exact ⟨_, _, retOut X hc.1 hc.2.2.2.2.2.1 rfl (Or.inr (Or.inl ⟨rfl, rfl, z, rfl⟩)) (hb hc.2.2.1 hd) hr, hrun, hended, _, locs, rfl, ⟨hF _ W O, f⟩, ⟨_, rfl⟩, hW, hsame.mono hcs hsl⟩
theorem am_retV {a : α} (hd : decode bytes pc = .ok (.return_, 1)) (hc : Cx p s m meth c Z own bytes maxL (none) mn) (hcs : cells ≤ R.cells) (hsl : slots ≤ R.slots) (hF : ∀ h, Wd Z C fs h A w σ → Out h0 h A w → F a (none) h) : OkR p l e R s m args below meth c Z C fs n0 h0 F A w cells slots pc Ls [] σ (some a) := by
  intro x' hx T locs rl X W O N f L
  cases hx
  obtain ⟨fs', hr, hrun, hended, hW, hsame⟩ := X.leave (v := none) (fun _ => rfl) hc.2.2.2.2.2.2.1
  exact ⟨_, _, X.returnOut hc.1 hc.2.2.2.2.2.1 (hb hc.2.2.1 hd) hr, hrun, hended, _, locs, rfl, ⟨hF _ W O, f⟩, ⟨_, rfl⟩, hW, hsame.mono hcs hsl⟩

def wkL : List Slot → List Slot → Prop
  | [], [] => True
  | .val v :: l, x :: l' => x = .val v ∧ wkL l l'
  | .unset :: l, _ :: l' => wkL l l'
  | .second :: l, _ :: l' => wkL l l'
  | _, _ => False
theorem wkL_ok : ∀ {l l' : List Slot}, wkL l l' → l.length = l'.length ∧ ∀ (k : Nat) (v : Value), l[k]? = some (.val v) → l'[k]? = some (.val v)
  | [], [], _ => ⟨rfl, fun k v h => by simp at h⟩
  | .val u :: l, x :: l', h => by
    obtain ⟨h1, h2⟩ := h
    obtain ⟨a, b⟩ := wkL_ok h2
    refine ⟨by simp [a], fun k v q => ?_⟩
    cases k with
    | zero => simp at q ⊢; rw [h1, q]
    | succ k => rw [List.getElem?_cons_succ] at q ⊢; exact b k v q
  | .unset :: l, x :: l', h => by
    obtain ⟨a, b⟩ := wkL_ok (show wkL l l' from h)
    refine ⟨by simp [a], fun k v q => ?_⟩
    cases k with
    | zero => simp at q
    | succ k => rw [List.getElem?_cons_succ] at q ⊢; exact b k v q
  | .second :: l, x :: l', h => by
    obtain ⟨a, b⟩ := wkL_ok (show wkL l l' from h)
    refine ⟨by simp [a], fun k v q => ?_⟩
    cases k with
    | zero => simp at q
    | succ k => rw [List.getElem?_cons_succ] at q ⊢; exact b k v q
theorem am_wk (h : wkL Ls' Ls) (κ : OkR p l e R s m args below meth c Z C fs n0 h0 F A w cells slots pc Ls' St σ t) : OkR p l e R s m args below meth c Z C fs n0 h0 F A w cells slots pc Ls St σ t := by
  intro x' hx T locs rl X W O N f L
  obtain ⟨a, b⟩ := wkL_ok h
  exact κ x' hx T locs rl X W O N f ⟨by rw [L.1, a], L.2.1, fun k v q => L.2.2 k v (b k v q)⟩

/-! calls -/
def FM (Z : State) (C : String) (fs : FS) (A : Nat → Addr) (w : Nat → Option CD) (h0 : Heap) (g : α → Option Value × Sg) : α → Option Value → Heap → Prop := fun x v h => v = (g x).1.map (cv A) ∧ Wd Z C fs h A w (g x).2 ∧ Out h0 h A w
def Con (l : Launch) (Z : State) (C : String) (fs : FS) (y : MethodName) (bytes : ByteArray) (maxL : Nat) (ret : Option FieldType) (rm : Room) (w : Nat → Option CD) (as : List Value) (σ : Sg) (v : Option Value) (σ' : Sg) : Prop :=
  ∀ (A : Nat → Addr) (n0 : Nat) (h : Heap) (ws : List Jvm.Cond), Wd Z C fs h A w σ → Nw n0 A w →
    MetFree l y (head1 (Jvm.Cond.code y bytes maxL ret :: ws) rm) (fun a U => a = (as.map (cv A)).toArray ∧ Z.Warmed39 U.vm ∧ U.heap = h) (fun _ _ _ _ _ => True) (fun _ U o U' => ∃ v' L, o = .returned v' ∧ ((v' = v.map (cv A) ∧ Wd Z C fs U'.heap A w σ' ∧ Out h U'.heap A w) ∧ Fr n0 L) ∧ FrameEnd U o U' L rm.cells rm.slots)
theorem am_met {y : MethodName} {rm : Room} {ws : List Jvm.Cond} {as : List Value} {h : Heap} {x : α} (pn : plainName y.cls = true) (ht : t = some x) (W : Wd Z C fs h A w σ) (N : Nw n0 A w)
    (H : ∀ (p : Program) (e : Env) (s : State) (m : MethodId) (below : List Frame) (meth : Method) (c : Code), Cx p s m meth c Z y.cls bytes maxL ret y.name → OkR p l e rm s m (as.map (cv A)).toArray below meth c Z C fs n0 h F A w 0 0 0 (entL as maxL) [] σ t) :
    MetFree l y (head1 (Jvm.Cond.code y bytes maxL ret :: ws) rm) (fun a U => a = (as.map (cv A)).toArray ∧ Z.Warmed39 U.vm ∧ U.heap = h) (fun _ _ _ _ _ => True) (fun _ U o U' => ∃ v L, o = .returned v ∧ (F x v U'.heap ∧ Fr n0 L) ∧ FrameEnd U o U' L rm.cells rm.slots) := by
  refine MetFree.of_bodySF (plainFor_of_name pn) hisR ?_
  intro p e s m args below meth c s₁ Bd hml0 hP hK
  obtain ⟨rfl, hZ, hh⟩ := hP
  have e0 : s₁.heap = h := by rw [← hh, Bd.state]; rfl
  obtain ⟨s₂, o, st, r⟩ := H p e s m below meth c ⟨Bd.exec, hZ, Bd.bytes, findClass_of_methodNamed Bd.named, hml0, Bd.returns, Bd.notSynchronized, (name_of_methodNamed Bd.named Bd.method).1⟩ x ht s₁ [] _ (Stand.of_body Bd) (by rw [e0]; exact W) (by rw [e0]; exact Out.refl _ _ _) N (Fr.nil n0) (entL_ok A as maxL)
  refine ⟨s₂, o, castTop ?_ st, r⟩
  simp only [entryFrame, mkF, List.map_nil, entL_arr]
theorem am_con {y : MethodName} {rm : Room} {as : List Value} {g : α → Option Value × Sg} (pn : plainName y.cls = true)
    (H : ∀ (p : Program) (e : Env) (s : State) (m : MethodId) (below : List Frame) (meth : Method) (c : Code) (A : Nat → Addr) (n0 : Nat) (h : Heap), Cx p s m meth c Z y.cls bytes maxL ret y.name → OkR p l e rm s m (as.map (cv A)).toArray below meth c Z C fs n0 h (FM Z C fs A w h g) A w 0 0 0 (entL as maxL) [] σ t) :
    ∀ x, t = some x → Con l Z C fs y bytes maxL ret rm w as σ (g x).1 (g x).2 :=
  fun x ht A n0 h ws W N => am_met pn ht W N fun p e s m below meth c hc => H p e s m below meth c A n0 h hc
def SubW (wc w : Nat → Option CD) : Prop := (∀ k d, wc k = some d → w k = some d) ∧ ∀ k d, w k = some d → wc k = some d ∨ wrb d = false
theorem SubW.refl (w : Nat → Option CD) : SubW w w := ⟨fun _ _ h => h, fun _ _ h => Or.inl h⟩
theorem SubW.wd {wc : Nat → Option CD} {h : Heap} (S : SubW wc w) (W : Wd Z C fs h A w σ) : Wd Z C fs h A wc σ := ⟨fun k d q => W.1 k d (S.1 k d q), fun k k' d d' q q' => W.2 k k' d d' (S.1 k d q) (S.1 k' d' q')⟩
theorem SubW.back {wc : Nat → Option CD} {h h' : Heap} (S : SubW wc w) (W : Wd Z C fs h A w σ) (W' : Wd Z C fs h' A wc σ') (O : Out h h' A wc) : Wd Z C fs h' A w σ' := by
  refine ⟨fun k d q => ?_, W.2⟩
  rcases S.2 k d q with z | z
  · exact W'.1 k d z
  · rcases d with q' | ⟨ty, n, o⟩
    · cases z
    · cases o with
      | none => cases z
      | some f =>
        obtain ⟨cl, a1, a2, a3⟩ := W.1 k _ q
        have := O.2 (A k) cl a1.1 fun k' d' q1 q2 e => by
          have := W.2 _ _ _ _ (S.1 _ _ q1) q e
          subst this
          have := S.1 _ _ q1
          rw [q] at this; cases this; cases q2
        exact ⟨cl, ⟨this, a1.2⟩, a2, a3⟩
theorem Out.trans' {wc : Nat → Option CD} {h h' : Heap} (S : SubW wc w) (O : Out h0 h A w) (O' : Out h h' A wc) : Out h0 h' A w := ⟨Nat.le_trans O.1 O'.1, fun b c q n => O'.2 b c (O.2 b c q n) fun k d q1 q2 => n k d (S.1 k d q1) q2⟩
def notMH (y : MethodName) : Prop := y.cls ≠ "java/lang/invoke/MethodHandle" ∧ y.cls ≠ "java/lang/invoke/VarHandle"
def LkP (Z : State) (a0 : Array Value) (own : String) (i : Nat) (y : MethodName) (b : ByteArray) (mL : Nat) (rt : Option FieldType) : Prop := (Cond.methodLink own i y).before a0 Z = true ∧ (Cond.instanceMethod y).before a0 Z = true ∧ (Cond.code y b mL rt).before a0 Z = true ∧ (Cond.initialized y.cls).before a0 Z = true ∧ notMH y ∧ (Cond.privateMethod y).before a0 Z = true
def LkV (Z : State) (a0 : Array Value) (own : String) (i : Nat) (y : MethodName) (b : ByteArray) (mL : Nat) (rt : Option FieldType) : Prop := (Cond.methodLink own i y).before a0 Z = true ∧ (Cond.instanceMethod y).before a0 Z = true ∧ (Cond.code y b mL rt).before a0 Z = true ∧ (Cond.initialized y.cls).before a0 Z = true ∧ notMH y ∧ (Cond.declares y).before a0 Z = true ∧ (Cond.selects y.cls y y).before a0 Z = true
def LkS (Z : State) (a0 : Array Value) (own : String) (i : Nat) (y : MethodName) (b : ByteArray) (mL : Nat) (rt : Option FieldType) : Prop := (Cond.methodLink own i y).before a0 Z = true ∧ (Cond.static y).before a0 Z = true ∧ (Cond.code y b mL rt).before a0 Z = true ∧ (Cond.initialized y.cls).before a0 Z = true ∧ notMH y
def arity (d : String) (n : Nat) : Bool := match parseMethodDescriptor d with
  | some sig => sig.parameters.length == n
  | none => true
theorem arity_ok {d : String} {n : Nat} {L : List Value} (h : arity d n = true) (hl : L.length = n) : ∀ sig, parseMethodDescriptor d = some sig → L.length = sig.parameters.length := fun sig q => by
  simp only [arity, q, beq_iff_eq] at h; omega
def catS (l : List Value) : Nat := (l.map fun v => v.category).sum
theorem catS_map (A : Nat → Addr) (l : List Value) : ((l.map (cv A)).map fun v => v.category).sum = catS l := by
  unfold catS; rw [List.map_map]; congr 1; apply List.map_congr_left; intro v _; exact cv_cat A v
theorem am_callP {y : MethodName} {b : ByteArray} {mL i : Nat} {rt : Option FieldType} {rm : Room} {wc : Nat → Option CD} {argsL rest : List Value} {β : Type} {g : β → Option Value × Sg} {u : Option β} {K : β → Option α} {W0 : Nat} {k q : Nat} (hk : wc k = some (.inl q)) (hl : LkP Z a0 own i y b mL rt) (hyc : y.cls = C) (wi : (Cond.instantiable C kk).before a0 Z = true) (hd : decode bytes pc = .ok (.invokevirtual i, 3)) (hc : Cx p s m meth c Z own bytes maxL ret mn) (hS : SubW wc w) (hst : St = argsL.reverse ++ .ref k :: rest) (har : arity y.desc argsL.length = true)
    (hcon : ∀ x, u = some x → Con l Z C fs y b mL rt rm wc (.ref k :: argsL) σ (g x).1 (g x).2) (hm : Ls.length = maxL) (hrm : rm.frames + 1 ≤ R.frames ∧ W0 + (mL + 11) + rm.locals ≤ R.locals ∧ catS rest ≤ W0 ∧ rm.cells = 0 ∧ rm.slots = 0 ∧ cells ≤ R.cells ∧ slots ≤ R.slots)
    (κ : ∀ x, u = some x → OkR p l e R s m args below meth c Z C fs n0 h0 F A w cells slots (pc + 3) Ls ((g x).1.toList ++ rest) (g x).2 (K x)) : OkR p l e R s m args below meth c Z C fs n0 h0 F A w cells slots pc Ls St σ (u.bind K) := by
  subst hst
  intro x' hx T locs rl X W O N f L
  obtain ⟨r1, r2, r3, r4, r5, r6, r7⟩ := hrm
  cases hu : u with
  | none => rw [hu] at hx; cases hx
  | some y0 =>
    rw [hu] at hx
    have hx' : K y0 = some x' := hx
    have Wc := hS.wd W
    have Nc : Nw n0 A wc := fun k d q1 q2 => N k d (hS.1 k d q1) q2
    have hM := hcon y0 hu A n0 T.heap [] Wc Nc
    have hB := backOf (h := T.heap) (Q := fun v h' L => (v = Option.map (cv A) (g y0).1 ∧ Wd Z C fs h' A wc (g y0).2 ∧ Out T.heap h' A wc) ∧ Fr n0 L) (W := W0) (R := R) (p := p) (e := e) (below := below) (s := s) (args := args) (len := 3) hM hc.2.1 hl.2.2.1 hl.2.2.2.1 r1 r2
    have hsz : (mkF m pc rl.toArray (List.map (cv A) (argsL.reverse ++ .ref k :: rest))).locals.size = c.maxLocals := by show rl.toArray.size = _; rw [List.size_toArray, L.1, hm, hc.2.2.2.2.1]
    obtain ⟨cc, kc, i1, i2, -, i4, -⟩ := Cond.instantiable_spec (mv (args := #[]) hc.2.1 wi)
    have hsel := selects_self_of_private (s := s) (args := args) (y := y) (by rw [hyc]; exact i1) i2 (Bool.or_eq_false_iff.mp i4).1 (Cond.privateMethod_at (mvP hc.2.1 hl.2.2.2.2.2 (args := #[]))) (mv hc.2.1 hl.2.1) hl.2.2.2.2.1
    obtain ⟨cl, q1, q2⟩ := (Wc.1 k _ hk).1.cell
    obtain ⟨v, _, ⟨T1, L1, k1, n1⟩, -, X1, ⟨Lc, hQ, l1, c1, s1⟩, st⟩ := X.privateBack hc.1 hc.2.2.2.1 (mv hc.2.1 hl.1) (mv hc.2.1 hl.2.1) hsel (Cond.privateMethod_at (mvP hc.2.1 hl.2.2.2.2.2 (args := #[]))) (mv hc.2.1 hl.2.2.1) hl.2.2.2.2.1 hB (g := mkF m pc rl.toArray (List.map (cv A) (argsL.reverse ++ .ref k :: rest))) rfl hsz (Steps.refl _) (a := A k) q1 q2 (argsL := argsL.map (cv A)) (rest := rest.map (cv A)) (arity_ok har (by simp)) (by simp [cv]) (by show 2 * 0 + _ ≤ W0; rw [catS_map]; omega) (hb hc.2.2.1 hd) (fun _ _ => ⟨by simp [cv], rfl, by dsimp only [Pt.cells]; omega, by dsimp only [Pt.slots]; omega⟩)
    dsimp only [Pt.U, Pt.locs, Pt.cells, Pt.slots] at X1 l1 c1 s1 st hQ
    obtain ⟨⟨v1, W1, O1⟩, N1⟩ := hQ
    rw [r4, Nat.add_zero] at c1
    rw [r5, Nat.add_zero] at s1
    subst l1 c1 s1
    obtain ⟨s₂, o', st2, r⟩ := κ y0 hu x' hx' T1 _ rl X1 (hS.back W W1 O1) (Out.trans' hS O O1) N (Fr.app f N1) L
    have ev : (g y0).1.map (cv A) = v := v1.symm
    have e3 : List.map (cv A) ((g y0).1.toList ++ rest) = v.toList ++ rest.map (cv A) := by rw [List.map_append, ← ev]; cases (g y0).1 <;> rfl
    rw [e3] at st2
    exact ⟨s₂, o', st.trans st2, r⟩
theorem am_callV {y : MethodName} {b : ByteArray} {mL i : Nat} {rt : Option FieldType} {rm : Room} {wc : Nat → Option CD} {argsL rest : List Value} {β : Type} {g : β → Option Value × Sg} {u : Option β} {K : β → Option α} {W0 : Nat} {k q : Nat} (hk : wc k = some (.inl q)) (hl : LkV Z a0 own i y b mL rt) (hyc : y.cls = C) (hd : decode bytes pc = .ok (.invokevirtual i, 3)) (hc : Cx p s m meth c Z own bytes maxL ret mn) (hS : SubW wc w) (hst : St = argsL.reverse ++ .ref k :: rest) (har : arity y.desc argsL.length = true)
    (hcon : ∀ x, u = some x → Con l Z C fs y b mL rt rm wc (.ref k :: argsL) σ (g x).1 (g x).2) (hm : Ls.length = maxL) (hrm : rm.frames + 1 ≤ R.frames ∧ W0 + (mL + 11) + rm.locals ≤ R.locals ∧ catS rest ≤ W0 ∧ rm.cells = 0 ∧ rm.slots = 0 ∧ cells ≤ R.cells ∧ slots ≤ R.slots)
    (κ : ∀ x, u = some x → OkR p l e R s m args below meth c Z C fs n0 h0 F A w cells slots (pc + 3) Ls ((g x).1.toList ++ rest) (g x).2 (K x)) : OkR p l e R s m args below meth c Z C fs n0 h0 F A w cells slots pc Ls St σ (u.bind K) := by
  subst hst
  intro x' hx T locs rl X W O N f L
  obtain ⟨r1, r2, r3, r4, r5, r6, r7⟩ := hrm
  cases hu : u with
  | none => rw [hu] at hx; cases hx
  | some y0 =>
    rw [hu] at hx
    have hx' : K y0 = some x' := hx
    have Wc := hS.wd W
    have Nc : Nw n0 A wc := fun k d q1 q2 => N k d (hS.1 k d q1) q2
    have hM := hcon y0 hu A n0 T.heap [] Wc Nc
    have hB := backOf (h := T.heap) (Q := fun v h' L => (v = Option.map (cv A) (g y0).1 ∧ Wd Z C fs h' A wc (g y0).2 ∧ Out T.heap h' A wc) ∧ Fr n0 L) (W := W0) (R := R) (p := p) (e := e) (below := below) (s := s) (args := args) (len := 3) hM hc.2.1 hl.2.2.1 hl.2.2.2.1 r1 r2
    have hsz : (mkF m pc rl.toArray (List.map (cv A) (argsL.reverse ++ .ref k :: rest))).locals.size = c.maxLocals := by show rl.toArray.size = _; rw [List.size_toArray, L.1, hm, hc.2.2.2.2.1]
    obtain ⟨cB, kB, q1, q2, q3⟩ := isOf (T := T) hc.2.1 rfl (Wc.1 k _ hk).1
    obtain ⟨v, _, ⟨T1, L1, k1, n1⟩, -, X1, ⟨Lc, hQ, l1, c1, s1⟩, st⟩ := X.virtualBack hc.1 (C := y.cls) (y := y) (z := y) hc.2.2.2.1 (mv hc.2.1 hl.1) (mv hc.2.1 hl.2.2.2.2.2.1) (notFace_of_selects (args := #[]) (mv hc.2.1 hl.2.2.2.2.2.2)) (mv hc.2.1 hl.2.2.2.2.2.2) (mv hc.2.1 hl.2.1) hl.2.2.2.2.1 hB (by rw [hyc]; exact q1) q3 (g := mkF m pc rl.toArray (List.map (cv A) (argsL.reverse ++ .ref k :: rest))) rfl hsz (Steps.refl _) (argsL := argsL.map (cv A)) (rest := rest.map (cv A)) (arity_ok har (by simp)) (by simp [cv]) (by show 2 * 0 + _ ≤ W0; rw [catS_map]; omega) (hb hc.2.2.1 hd) (fun _ _ => ⟨by simp [cv], rfl, by dsimp only [Pt.cells]; omega, by dsimp only [Pt.slots]; omega⟩)
    dsimp only [Pt.U, Pt.locs, Pt.cells, Pt.slots] at X1 l1 c1 s1 st hQ
    obtain ⟨⟨v1, W1, O1⟩, N1⟩ := hQ
    rw [r4, Nat.add_zero] at c1
    rw [r5, Nat.add_zero] at s1
    subst l1 c1 s1
    obtain ⟨s₂, o', st2, r⟩ := κ y0 hu x' hx' T1 _ rl X1 (hS.back W W1 O1) (Out.trans' hS O O1) N (Fr.app f N1) L
    have ev : (g y0).1.map (cv A) = v := v1.symm
    have e3 : List.map (cv A) ((g y0).1.toList ++ rest) = v.toList ++ rest.map (cv A) := by rw [List.map_append, ← ev]; cases (g y0).1 <;> rfl
    rw [e3] at st2
    exact ⟨s₂, o', st.trans st2, r⟩
theorem am_callS {y : MethodName} {b : ByteArray} {mL i : Nat} {rt : Option FieldType} {rm : Room} {wc : Nat → Option CD} {argsL rest : List Value} {β : Type} {g : β → Option Value × Sg} {u : Option β} {K : β → Option α} {W0 : Nat} (hl : LkS Z a0 own i y b mL rt) (hd : decode bytes pc = .ok (.invokestatic i, 3)) (hc : Cx p s m meth c Z own bytes maxL ret mn) (hS : SubW wc w) (hst : St = argsL.reverse ++ rest) (har : arity y.desc argsL.length = true)
    (hcon : ∀ x, u = some x → Con l Z C fs y b mL rt rm wc argsL σ (g x).1 (g x).2) (hm : Ls.length = maxL) (hrm : rm.frames + 1 ≤ R.frames ∧ W0 + (mL + 11) + rm.locals ≤ R.locals ∧ catS rest ≤ W0 ∧ rm.cells = 0 ∧ rm.slots = 0 ∧ cells ≤ R.cells ∧ slots ≤ R.slots)
    (κ : ∀ x, u = some x → OkR p l e R s m args below meth c Z C fs n0 h0 F A w cells slots (pc + 3) Ls ((g x).1.toList ++ rest) (g x).2 (K x)) : OkR p l e R s m args below meth c Z C fs n0 h0 F A w cells slots pc Ls St σ (u.bind K) := by
  subst hst
  intro x' hx T locs rl X W O N f L
  obtain ⟨r1, r2, r3, r4, r5, r6, r7⟩ := hrm
  cases hu : u with
  | none => rw [hu] at hx; cases hx
  | some y0 =>
    rw [hu] at hx
    have hx' : K y0 = some x' := hx
    have Wc := hS.wd W
    have Nc : Nw n0 A wc := fun k d q1 q2 => N k d (hS.1 k d q1) q2
    have hM := hcon y0 hu A n0 T.heap [] Wc Nc
    have hB := backOf (h := T.heap) (Q := fun v h' L => (v = Option.map (cv A) (g y0).1 ∧ Wd Z C fs h' A wc (g y0).2 ∧ Out T.heap h' A wc) ∧ Fr n0 L) (W := W0) (R := R) (p := p) (e := e) (below := below) (s := s) (args := args) (len := 3) hM hc.2.1 hl.2.2.1 hl.2.2.2.1 r1 r2
    have hsz : (mkF m pc rl.toArray (List.map (cv A) (argsL.reverse ++ rest))).locals.size = c.maxLocals := by show rl.toArray.size = _; rw [List.size_toArray, L.1, hm, hc.2.2.2.2.1]
    obtain ⟨v, _, ⟨T1, L1, k1, n1⟩, -, X1, ⟨Lc, hQ, l1, c1, s1⟩, st⟩ := Jvm.LawKit.callS X hc.1 (y := y) hc.2.2.2.1 (mv hc.2.1 hl.1) (mv hc.2.1 hl.2.1) (mv hc.2.1 hl.2.2.2.1) (mv hc.2.1 hl.2.2.1) hl.2.2.2.2 hB (g := mkF m pc rl.toArray (List.map (cv A) (argsL.reverse ++ rest))) rfl hsz (argsL := argsL.map (cv A)) (rest := rest.map (cv A)) (arity_ok har (by simp)) (by simp) (by show 2 * 0 + _ ≤ W0; rw [catS_map]; omega) (hb hc.2.2.1 hd) (fun _ _ => ⟨by simp [cv], rfl, by dsimp only [Pt.cells]; omega, by dsimp only [Pt.slots]; omega⟩)
    dsimp only [Pt.U, Pt.locs, Pt.cells, Pt.slots] at X1 l1 c1 s1 st hQ
    obtain ⟨⟨v1, W1, O1⟩, N1⟩ := hQ
    rw [r4, Nat.add_zero] at c1
    rw [r5, Nat.add_zero] at s1
    subst l1 c1 s1
    obtain ⟨s₂, o', st2, r⟩ := κ y0 hu x' hx' T1 _ rl X1 (hS.back W W1 O1) (Out.trans' hS O O1) N (Fr.app f N1) L
    have ev : (g y0).1.map (cv A) = v := v1.symm
    have e3 : List.map (cv A) ((g y0).1.toList ++ rest) = v.toList ++ rest.map (cv A) := by rw [List.map_append, ← ev]; cases (g y0).1 <;> rfl
    rw [e3] at st2
    exact ⟨s₂, o', st _ st2, r⟩

/-! making the object -/
def nrV (ok : Nat → Bool) : Value → Bool
  | .ref k => ok k
  | _ => true
def nrS (ok : Nat → Bool) : Slot → Bool
  | .val v => nrV ok v
  | _ => true
theorem nrV_cv {ok : Nat → Bool} {A' : Nat → Addr} (hA : ∀ k, ok k = true → A' k = A k) {v : Value} (h : nrV ok v = true) : cv A' v = cv A v := by
  cases v <;> first | rfl | (simp only [cv]; rw [hA _ h])
theorem nr_map {ok : Nat → Bool} {A' : Nat → Addr} (hA : ∀ k, ok k = true → A' k = A k) : ∀ {St : List Value}, St.all (nrV ok) = true → St.map (cv A') = St.map (cv A)
  | [], _ => rfl
  | v :: r, h => by
    rw [List.all_cons, Bool.and_eq_true] at h
    rw [List.map_cons, List.map_cons, nrV_cv hA h.1, nr_map hA h.2]
theorem nr_ls {ok : Nat → Bool} {A' : Nat → Addr} {rl : List Slot} (hA : ∀ k, ok k = true → A' k = A k) (h : Ls.all (nrS ok) = true) (L : LsOk A Ls rl) : LsOk A' Ls rl := by
  refine ⟨L.1, L.2.1, fun k v q => ?_⟩
  have := List.all_eq_true.mp h _ (List.mem_of_getElem? q)
  rw [nrV_cv hA this]; exact L.2.2 k v q
def wK (arrs : List (FieldType × Nat)) (a q : Nat) : Nat → Option CD
  | 0 => some (.inl q)
  | k + 1 => if k < a then (arrs[k]?).map fun x => .inr (x.1, x.2, none) else none
def AE (h0 : Heap) (A0 A : Nat → Addr) (a : Nat) : Prop := A 0 = A0 0 ∧ ∀ k, 1 ≤ k → k ≤ a → h0.size ≤ A k
def FI (Z : State) (C : String) (fs : FS) (arrs : List (FieldType × Nat)) (A0 : Nat → Addr) (h0 : Heap) : Sg → Option Value → Heap → Prop := fun σ v h => v = none ∧ ∃ A : Nat → Addr, AE h0 A0 A arrs.length ∧ Wd Z C fs h A (wK arrs arrs.length arrs.length) σ ∧ h0.size ≤ h.size ∧ ∀ (b : Addr) (c : Cell), h0[b]? = some c → b ≠ A0 0 → h[b]? = some c
theorem FI_of {arrs : List (FieldType × Nat)} {A0 : Nat → Addr} (hA : AE h0 A0 A arrs.length) (h : Heap) (W : Wd Z C fs h A (wK arrs arrs.length arrs.length) σ) (O : Out h0 h A (wK arrs arrs.length arrs.length)) : FI Z C fs arrs A0 h0 σ none h := by
  refine ⟨rfl, A, hA, W, O.1, fun b c q ne => O.2 b c q fun k d z1 z2 z3 => ?_⟩
  cases k with
  | zero => exact ne (z3.symm.trans hA.1)
  | succ k =>
    have : k < arrs.length := by simp only [wK] at z1; split at z1 <;> first | assumption | cases z1
    have := hA.2 (k + 1) (by omega) (by omega)
    have := (Array.getElem?_eq_some_iff.mp q).1
    have z3 : @Eq Nat _ _ := z3
    omega
theorem am_objinit {k i W0 : Nat} (hd : decode bytes pc = .ok (.invokespecial i, 3)) (hc : Cx p s m meth c Z own bytes maxL ret mn) (w1 : (Cond.methodLink own i Lib.objectInit).before a0 Z = true) (w2 : (Cond.instanceMethod Lib.objectInit).before a0 Z = true) (w3 : (Cond.code Lib.objectInit ⟨#[0xb1]⟩ 1 none).before a0 Z = true) (hm : Ls.length = maxL) (hR : 1 ≤ R.frames ∧ W0 + 12 ≤ R.locals ∧ catS St ≤ W0)
    (κ : OkR p l e R s m args below meth c Z C fs n0 h0 F A w cells slots (pc + 3) Ls St σ t) : OkR p l e R s m args below meth c Z C fs n0 h0 F A w cells slots pc Ls (.ref k :: St) σ t := by
  intro x' hx T locs rl X W O N f L
  obtain ⟨T', X', e', st⟩ := initO X hc.1 hc.2.1 hc.2.2.2.1 w1 w2 w3 rfl (g := mkF m pc rl.toArray (.ref (A k) :: St.map (cv A))) rfl (by show rl.toArray.size = _; rw [List.size_toArray, L.1, hm, hc.2.2.2.2.1]) rfl (hb hc.2.2.1 hd) hR.1 (W := W0) (by show 2 * 0 + _ ≤ W0; rw [catS_map]; omega) hR.2.1
  obtain ⟨s₂, o', st2, r⟩ := κ x' hx T' locs rl X' (by rw [e']; exact W) (by rw [e']; exact O) N f L
  exact ⟨s₂, o', st _ st2, r⟩
theorem am_newarr {arrs : List (FieldType × Nat)} {A0 : Nat → Addr} {a n : Nat} {aty : ArrayType} {i : Int32} (hd : decode bytes pc = .ok (.newarray aty, 2)) (hc : Cx p s m meth c Z own bytes maxL ret mn) (wa : (Cond.arrayClass (newarray.typeOf aty)).before a0 Z = true) (ha : arrs[a]? = some (newarray.typeOf aty, n)) (hi : i.toInt = (n : Int)) (hdef : defaultValue (newarray.typeOf aty) = ae zs (a + 1) 0 (newarray.typeOf aty)) (hnr : Ls.all (nrS fun k => k != a + 1) = true ∧ St.all (nrV fun k => k != a + 1) = true) (hAE : AE h0 A0 A a) (hn : n0 ≤ h0.size) (hR : n * 8 ≤ 536870912 ∧ cells + 1 ≤ R.cells ∧ slots + n ≤ R.slots)
    (κ : ∀ A' : Nat → Addr, AE h0 A0 A' (a + 1) → OkR p l e R s m args below meth c Z C fs n0 h0 F A' (wK arrs (a + 1) a) (cells + 1) (slots + n) (pc + 2) Ls (.ref (a + 1) :: St) zs t) : OkR p l e R s m args below meth c Z C fs n0 h0 F A (wK arrs a a) cells slots pc Ls (.int i :: St) zs t := by
  intro x' hx T locs rl X W O N f L
  have hnx : i.toNatClampNeg = n := by show i.toInt.toNat = n; omega
  obtain ⟨T', h', cA, X', e', E, Ar, st⟩ := newP X hc.1 hc.2.1 wa rfl (g := mkF m pc rl.toArray (.int i :: St.map (cv A))) rfl (hb hc.2.2.1 hd) rfl (fun q => by rw [Int32.lt_iff_toInt_lt] at q; have : (0 : Int32).toInt = 0 := rfl; omega) (cap := n) (by omega) hR.1 hR.2.1 hR.2.2
  subst e'
  obtain ⟨A', hA'⟩ : ∃ A' : Nat → Addr, A' = fun k => if k = a + 1 then T.heap.size else A k := ⟨_, rfl⟩
  have hA1 : A' (a + 1) = T.heap.size := by rw [hA']; simp
  have hA2 : ∀ k, (k != a + 1) = true → A' k = A k := fun k q => by rw [hA']; simp only []; rw [if_neg (by simpa using q)]
  have hA3 : ∀ k, k ≤ a → A' k = A k := fun k q => hA2 k (by simp; omega)
  have hlt : ∀ k d, wK arrs a a k = some d → A k < T.heap.size := fun k d q => by
    have := W.1 k d q
    rcases d with q' | ⟨ty, n', o⟩
    · exact this.1.lt
    · obtain ⟨cl, a1, -⟩ := this; exact a1.lt
  have hlow : ∀ k d, wK arrs a a k = some d → k ≤ a := fun k d q => by
    cases k with
    | zero => omega
    | succ k => simp only [wK] at q; split at q <;> first | omega | cases q
  have hold : ∀ k d, wK arrs (a + 1) a k = some d → k ≠ a + 1 → wK arrs a a k = some d := fun k d q ne => by
    cases k with
    | zero => exact q
    | succ k =>
      simp only [wK] at q ⊢
      split at q
      · rw [if_pos (by omega)]; exact q
      · cases q
  have W' : Wd Z C fs T'.heap A' (wK arrs (a + 1) a) zs := by
    refine ⟨fun k d q => ?_, fun k k' d d' q q' z => ?_⟩
    · by_cases ek : k = a + 1
      · subst ek
        simp only [wK, Nat.lt_succ_self, if_true, ha, Option.map_some, Option.some.injEq] at q
        subst q
        refine ⟨_, by rw [hA1]; exact Ar, by rw [sz_new]; exact hnx, fun j hj => ?_⟩
        have e1 : aeo zs (a + 1) j (newarray.typeOf aty) none = defaultValue (newarray.typeOf aty) := by rw [hdef]; cases aty <;> rfl
        rw [e1]
        simp [newA, hnx, hj]
      · have hq := hold k d q ek
        have := W.1 k d hq
        have ek' := hA3 k (hlow k d hq)
        rcases d with q' | ⟨ty, n', o⟩
        · refine ⟨by rw [ek']; exact this.1.ext E, fun j n d cd hj => ?_⟩
          have F := this.2 j n d cd hj
          rw [ek']
          have e1 : cv A' (fv zs k j q' cd) = cv A (fv zs k j q' cd) := by
            refine nrV_cv hA2 ?_
            match cd with
            | 0 => rfl
            | 1 => rfl
            | r + 2 =>
              cases k with
              | zero =>
                simp only [wK, Option.some.injEq, Sum.inl.injEq] at hq
                subst hq
                simp only [fv]
                split
                · simp [nrV]; omega
                · rfl
              | succ k => simp only [wK] at hq; split at hq <;> first | cases hq | (rw [Option.map_eq_some_iff] at hq; obtain ⟨_, -, z⟩ := hq; cases z)
          rw [e1]; exact F.ext E
        · obtain ⟨cl, a1, a2, a3⟩ := this
          exact ⟨cl, by rw [ek']; exact a1.ext E, a2, a3⟩
    · by_cases ek : k = a + 1 <;> by_cases ek2 : k' = a + 1
      · omega
      · subst ek
        have := hlt k' d' (hold k' d' q' ek2)
        rw [hA1, hA2 k' (by simpa using ek2)] at z
        have z : @Eq Nat _ _ := z
        have this : @LT.lt Nat _ _ _ := this
        omega
      · subst ek2
        have := hlt k d (hold k d q ek)
        rw [hA1, hA2 k (by simpa using ek)] at z
        have z : @Eq Nat _ _ := z
        have this : @LT.lt Nat _ _ _ := this
        omega
      · rw [hA2 k (by simpa using ek), hA2 k' (by simpa using ek2)] at z
        exact W.2 k k' d d' (hold k d q ek) (hold k' d' q' ek2) z
  have hin : ∀ k d, wK arrs a a k = some d → wK arrs (a + 1) a k = some d := fun k d q => by
    cases k with
    | zero => exact q
    | succ k =>
      simp only [wK] at q ⊢
      split at q
      · rw [if_pos (by omega)]; exact q
      · cases q
  have O' : Out h0 T'.heap A' (wK arrs (a + 1) a) := ⟨Nat.le_trans O.1 E.1, fun b c q z => E.2 _ _ (O.2 b c q fun k d q1 q2 => by
    rw [← hA3 k (hlow k d q1)]; exact z k d (hin k d q1) q2)⟩
  have N' : Nw n0 A' (wK arrs (a + 1) a) := fun k d q1 q2 => by
    by_cases ek : k = a + 1
    · subst ek; rw [hA1]; exact Nat.le_trans hn O.1
    · rw [hA2 k (by simpa using ek)]; exact N k d (hold k d q1 ek) q2
  have hAE' : AE h0 A0 A' (a + 1) := ⟨by rw [hA3 0 (by omega)]; exact hAE.1, fun k k1 k2 => by
    by_cases ek : k = a + 1
    · subst ek; rw [hA1]; exact O.1
    · rw [hA2 k (by simpa using ek)]; exact hAE.2 k k1 (by omega)⟩
  obtain ⟨s₂, o', st2, r⟩ := κ A' hAE' x' hx T' locs rl X' W' O' N' f (nr_ls hA2 hnr.1 L)
  have e2 : List.map (cv A') (.ref (a + 1) :: St) = .ref T.heap.size :: St.map (cv A) := by
    rw [List.map_cons, nr_map hA2 hnr.2]; simp only [cv]; rw [hA1]
  rw [e2] at st2
  exact ⟨s₂, o', st _ st2, r⟩
def uqc (cd j : Nat) : Nat → FS → Bool
  | _, [] => true
  | i, x :: r => (x.2.2 != cd || i == j) && uqc cd j (i + 1) r
theorem uqc_ok {cd j : Nat} : ∀ {fs : FS} {i : Nat}, uqc cd j i fs = true → ∀ j' x, fs[j']? = some x → x.2.2 = cd → i + j' = j
  | [], i, _, j', x, h, _ => by simp at h
  | y :: r, i, hu, j', x, h, e => by
    simp only [uqc, Bool.and_eq_true] at hu
    cases j' with
    | zero =>
      simp at h; subst h
      have := hu.1
      simp [e] at this; omega
    | succ j' =>
      rw [List.getElem?_cons_succ] at h
      have := uqc_ok hu.2 j' x h e
      omega
theorem am_putref {arrs : List (FieldType × Nat)} {a j i : Nat} {n d : String} (hd : decode bytes pc = .ok (.putfield i, 3)) (hc : Cx p s m meth c Z own bytes maxL ret mn) (hF : FsOk Z a0 C fs) (wi : (Cond.instantiable C kk).before a0 Z = true) (hfs : fs[j]? = some (n, d, a + 2)) (hu : uqc (a + 2) j 0 fs = true) (wl : (Cond.fieldLink own i C n d).before a0 Z = true) (hL : Lay1 Z a0 C own mn n d)
    (κ : OkR p l e R s m args below meth c Z C fs n0 h0 F A (wK arrs (a + 1) (a + 1)) cells slots (pc + 3) Ls St zs t) : OkR p l e R s m args below meth c Z C fs n0 h0 F A (wK arrs (a + 1) a) cells slots pc Ls (.ref (a + 1) :: .ref 0 :: St) zs t := by
  intro x' hx T locs rl X W O N f L
  have hk : wK arrs (a + 1) a 0 = some (.inl a) := rfl
  have hO := W.1 0 _ hk
  have Fd := hO.2 j n d (a + 2) hfs
  obtain ⟨hlaid, ⟨ty, hty, -, -, t2⟩, hinj⟩ := hF j n d (a + 2) hfs
  obtain ⟨ty', rfl⟩ := t2 (by omega)
  have hL' : (Cond.lays C C n d).before a0 Z = true ∨ ((Cond.laysFinal C C n d).before a0 Z = true ∧ own = C ∧ meth.name = "<init>") := hL.imp id fun q => ⟨q.1, q.2.1, hc.2.2.2.2.2.2.2.trans q.2.2⟩
  obtain ⟨T', h', X', e', Q, st'⟩ := putF X hc.1 hc.2.1 hc.2.2.2.1 (host := "") (Or.inl wl) Via.refl rfl Fd hO.1 hL' wi (v := .ref (A (a + 1))) hty rfl rfl (g := mkF m pc rl.toArray (.ref (A (a + 1)) :: .ref (A 0) :: St.map (cv A))) rfl rfl (hb hc.2.2.1 hd)
  subst e'
  have hsame : ∀ k d, wK arrs (a + 1) (a + 1) k = some d → k ≠ 0 → wK arrs (a + 1) a k = some d := fun k d q ne => by
    cases k with
    | zero => exact absurd rfl ne
    | succ k => exact q
  have hsame' : ∀ k d, wK arrs (a + 1) a k = some d → k ≠ 0 → wK arrs (a + 1) (a + 1) k = some d := fun k d q ne => by
    cases k with
    | zero => exact absurd rfl ne
    | succ k => exact q
  have W1 : Wd Z C fs T'.heap A (wK arrs (a + 1) (a + 1)) zs := by
    refine ⟨fun k d' q => ?_, fun k k' d d' q q' z => ?_⟩
    · by_cases ek : k = 0
      · subst ek
        simp only [wK, Option.some.injEq] at q
        subst q
        refine ⟨hO.1.wr Q, fun j' n' d' cd' hj' => ?_⟩
        by_cases ej : j' = j
        · subst ej
          rw [hfs] at hj'; cases hj'
          have e1 : cv A (fv zs 0 j' (a + 1) (a + 2)) = .ref (A (a + 1)) := by simp [fv, cv]
          rw [e1]
          exact Fd.same Q
        · obtain ⟨hlaid', ⟨ty', hty', -⟩, -⟩ := hF j' n' d' cd' hj'
          have e1 : fv zs 0 j' (a + 1) cd' = fv zs 0 j' a cd' := by
            match cd', hj' with
            | 0, _ => rfl
            | 1, _ => rfl
            | r + 2, hj' =>
              have : r ≠ a := fun e => ej (by subst e; have := uqc_ok hu j' _ hj' rfl; omega)
              simp only [fv]
              by_cases q : r < a
              · rw [if_pos q, if_pos (by omega)]
              · rw [if_neg q, if_neg (by omega)]
          rw [e1]
          exact (hO.2 j' n' d' cd' hj').other Q (Or.inr (slot_ne hlaid' hlaid (fun q => ej (hinj _ _ _ _ hj' q.symm).symm) hty' hty))
      · have hq := hsame k d' q ek
        have ne : A k ≠ A 0 := fun z => ek (W.2 _ _ _ _ hq hk z)
        have := W.1 k d' hq
        rcases d' with q' | ⟨ty, n', o⟩
        · cases k with
          | zero => exact absurd rfl ek
          | succ k => simp only [wK] at q; split at q <;> first | cases q | (rw [Option.map_eq_some_iff] at q; obtain ⟨_, -, z⟩ := q; cases z)
        · obtain ⟨cl, a1, a2, a3⟩ := this
          exact ⟨cl, a1.other Q ne, a2, a3⟩
    · by_cases e1 : k = 0 <;> by_cases e2 : k' = 0
      · omega
      · subst e1; exact W.2 _ _ _ _ hk (hsame k' d' q' e2) z
      · subst e2; exact W.2 _ _ _ _ (hsame k d q e1) hk z
      · exact W.2 _ _ _ _ (hsame k d q e1) (hsame k' d' q' e2) z
  have O1 := O.write hk rfl Q
  have O' : Out h0 T'.heap A (wK arrs (a + 1) (a + 1)) := ⟨O1.1, fun b c q z => O1.2 b c q fun k d q1 q2 => by
    by_cases ek : k = 0
    · subst ek; exact z 0 _ rfl rfl
    · exact z k d (hsame' k d q1 ek) q2⟩
  have N' : Nw n0 A (wK arrs (a + 1) (a + 1)) := fun k d q1 q2 => by
    by_cases ek : k = 0
    · subst ek; exact N 0 _ hk rfl
    · exact N k d (hsame k d q1 ek) q2
  obtain ⟨s₂, o', st2, r⟩ := κ x' hx T' _ rl X' W1 O' N' (Fr.snoc X' f (N 0 _ hk rfl)) L
  exact ⟨s₂, o', st' _ st2, r⟩
/-- the law's world before and after the object is made; w0: what it only reads -/
def wN (w0 : Nat → Option CD) : Nat → Option CD
  | 0 => some (.inl 0)
  | k + 1 => w0 (k + 1)
def wF (arrs : List (FieldType × Nat)) (w0 : Nat → Option CD) (k : Nat) : Option CD := if k ≤ arrs.length then wK arrs arrs.length arrs.length k else w0 k
def Rd (w0 : Nat → Option CD) (mm : Nat) : Prop := ∀ k d, w0 k = some d → wrb d = false ∧ mm < k
theorem am_new {nn i mm : Nat} (hd : decode bytes pc = .ok (.new i, 3)) (hc : Cx p s m meth c Z own bytes maxL ret mn) (hF : FsOk Z a0 C fs) (wl : (Cond.classLink own i C).before a0 Z = true) (wi : (Cond.instantiable C nn).before a0 Z = true) (wz : (Cond.initialized C).before a0 Z = true) (hw0 : Rd w mm) (hnr : Ls.all (nrS fun k => k != 0) = true ∧ St.all (nrV fun k => k != 0) = true) (hn : n0 ≤ h0.size) (hR : cells + 1 ≤ R.cells ∧ slots + nn ≤ R.slots)
    (κ : ∀ A' : Nat → Addr, (∀ k, k ≠ 0 → A' k = A k) → OkR p l e R s m args below meth c Z C fs n0 h0 F A' (wN w) (cells + 1) (slots + nn) (pc + 3) Ls (.ref 0 :: St) zs t) : OkR p l e R s m args below meth c Z C fs n0 h0 F A w cells slots pc Ls St σ t := by
  intro x' hx T locs rl X W O N f L
  obtain ⟨T', h', X', e', E, Ex, D, -, st⟩ := newO X hc.1 hc.2.1 hc.2.2.2.1 wl wi wz rfl (g := mkF m pc rl.toArray (St.map (cv A))) rfl (hb hc.2.2.1 hd) hR.1 hR.2
  subst e'
  obtain ⟨A', hA'⟩ : ∃ A' : Nat → Addr, A' = fun k => if k = 0 then T.heap.size else A k := ⟨_, rfl⟩
  have hA1 : A' 0 = T.heap.size := by rw [hA']; simp
  have hA2 : ∀ k, (k != 0) = true → A' k = A k := fun k q => by rw [hA']; simp only []; rw [if_neg (by simpa using q)]
  have hold : ∀ k d, wN w k = some d → k ≠ 0 → w k = some d := fun k d q ne => by
    cases k with
    | zero => exact absurd rfl ne
    | succ k => exact q
  have hlt : ∀ k d, w k = some d → A k < T.heap.size := fun k d q => by
    have := W.1 k d q
    rcases d with q' | ⟨ty, n', o⟩
    · exact this.1.lt
    · obtain ⟨cl, a1, -⟩ := this; exact a1.lt
  have W' : Wd Z C fs T'.heap A' (wN w) zs := by
    refine ⟨fun k d q => ?_, fun k k' d d' q q' z => ?_⟩
    · by_cases ek : k = 0
      · subst ek
        simp only [wN, Option.some.injEq] at q
        subst q
        rw [show CellOk Z C fs T'.heap A' zs 0 (.inl 0) = (Exa Z T'.heap (A' 0) C ∧ ∀ (j : Nat) (n d : String) (cd : Nat), fs[j]? = some (n, d, cd) → Fld Z T'.heap (A' 0) C n d (cv A' (fv zs 0 j 0 cd))) from rfl, hA1]
        refine ⟨Ex, fun j n d cd hj => ?_⟩
        obtain ⟨hlaid, ⟨ty, hty, t0, t1, t2⟩, -⟩ := hF j n d cd hj
        have := D hlaid hty
        match cd, t0, t1, t2 with
        | 0, t0, _, _ => have e := t0 rfl; subst e; exact this
        | 1, _, t1, _ => have e := t1 rfl; subst e; exact this
        | r + 2, _, _, t2 => obtain ⟨ty', rfl⟩ := t2 (by omega); exact this
      · have hq := hold k d q ek
        have := W.1 k d hq
        have e1 := hA2 k (by simpa using ek)
        rcases d with q' | ⟨ty, n', o⟩
        · have := (hw0 k _ hq).1; cases this
        · obtain ⟨cl, a1, a2, a3⟩ := this
          cases o with
          | none => have := (hw0 k _ hq).1; cases this
          | some f0 => exact ⟨cl, by rw [e1]; exact a1.ext E, a2, a3⟩
    · by_cases e1 : k = 0 <;> by_cases e2 : k' = 0
      · omega
      · subst e1
        have := hlt k' d' (hold k' d' q' e2)
        rw [hA1, hA2 k' (by simpa using e2)] at z
        have z : @Eq Nat _ _ := z
        have this : @LT.lt Nat _ _ _ := this
        omega
      · subst e2
        have := hlt k d (hold k d q e1)
        rw [hA1, hA2 k (by simpa using e1)] at z
        have z : @Eq Nat _ _ := z
        have this : @LT.lt Nat _ _ _ := this
        omega
      · rw [hA2 k (by simpa using e1), hA2 k' (by simpa using e2)] at z
        exact W.2 k k' d d' (hold k d q e1) (hold k' d' q' e2) z
  have O' : Out h0 T'.heap A' (wN w) := ⟨Nat.le_trans O.1 E.1, fun b c q z => E.2 _ _ (O.2 b c q fun k d q1 q2 => by have := (hw0 k d q1).1; rw [q2] at this; cases this)⟩
  have N' : Nw n0 A' (wN w) := fun k d q1 q2 => by
    by_cases ek : k = 0
    · subst ek; rw [hA1]; exact Nat.le_trans hn O.1
    · have := (hw0 k d (hold k d q1 ek)).1; rw [q2] at this; cases this
  obtain ⟨s₂, o', st2, r⟩ := κ A' (fun k q => hA2 k (by simpa using q)) x' hx T' locs rl X' W' O' N' f (nr_ls hA2 hnr.1 L)
  have e2 : List.map (cv A') (.ref 0 :: St) = .ref T.heap.size :: St.map (cv A) := by
    rw [List.map_cons, nr_map hA2 hnr.2]; simp only [cv]; rw [hA1]
  rw [e2] at st2
  exact ⟨s₂, o', st _ st2, r⟩
def ConI (l : Launch) (Z : State) (C : String) (fs : FS) (arrs : List (FieldType × Nat)) (y : MethodName) (bytes : ByteArray) (maxL : Nat) (rm : Room) (as : List Value) (σ' : Sg) : Prop :=
  ∀ (A : Nat → Addr) (n0 : Nat) (h : Heap) (ws : List Jvm.Cond), Wd Z C fs h A (wK arrs 0 0) zs → Nw n0 A (wK arrs 0 0) → n0 ≤ h.size →
    MetFree l y (head1 (Jvm.Cond.code y bytes maxL none :: ws) rm) (fun a U => a = ((.ref 0 :: as).map (cv A)).toArray ∧ Z.Warmed39 U.vm ∧ U.heap = h) (fun _ _ _ _ _ => True) (fun _ U o U' => ∃ v' L, o = .returned v' ∧ (FI Z C fs arrs A h σ' v' U'.heap ∧ Fr n0 L) ∧ FrameEnd U o U' L rm.cells rm.slots)
theorem am_conI {arrs : List (FieldType × Nat)} {y : MethodName} {rm : Room} {as : List Value} {t : Option Sg} (pn : plainName y.cls = true)
    (H : ∀ (p : Program) (e : Env) (s : State) (m : MethodId) (below : List Frame) (meth : Method) (c : Code) (A : Nat → Addr) (n0 : Nat) (h : Heap), n0 ≤ h.size → Cx p s m meth c Z y.cls bytes maxL none y.name → OkR p l e rm s m ((.ref 0 :: as).map (cv A)).toArray below meth c Z C fs n0 h (FI Z C fs arrs A h) A (wK arrs 0 0) 0 0 0 (entL (.ref 0 :: as) maxL) [] zs t) :
    ∀ x, t = some x → ConI l Z C fs arrs y bytes maxL rm as x :=
  fun x ht A n0 h ws W N hn => am_met pn ht W N fun p e s m below meth c hc => H p e s m below meth c A n0 h hn hc
def LkI (Z : State) (a0 : Array Value) (own : String) (i : Nat) (y : MethodName) (b : ByteArray) (mL : Nat) : Prop := (Cond.methodLink own i y).before a0 Z = true ∧ (Cond.instanceMethod y).before a0 Z = true ∧ (Cond.code y b mL none).before a0 Z = true ∧ (Cond.initialized y.cls).before a0 Z = true ∧ notMH y ∧ y.name = "<init>"
theorem am_ctor {arrs : List (FieldType × Nat)} {y : MethodName} {b : ByteArray} {mL i : Nat} {rm : Room} {argsL rest : List Value} {u : Option Sg} {K : Sg → Option α} {W0 : Nat} (hl : LkI Z a0 own i y b mL) (hd : decode bytes pc = .ok (.invokespecial i, 3)) (hc : Cx p s m meth c Z own bytes maxL ret mn) (hw0 : Rd w arrs.length) (hst : St = argsL.reverse ++ .ref 0 :: rest) (har : arity y.desc argsL.length = true)
    (hcon : ∀ x, u = some x → ConI l Z C fs arrs y b mL rm argsL x) (hnr : Ls.all (nrS fun k => k == 0 || decide (arrs.length < k)) = true ∧ rest.all (nrV fun k => k == 0 || decide (arrs.length < k)) = true) (hm : Ls.length = maxL) (hn : n0 ≤ h0.size) (hrm : rm.frames + 1 ≤ R.frames ∧ W0 + (mL + 11) + rm.locals ≤ R.locals ∧ catS rest ≤ W0 ∧ cells + rm.cells ≤ R.cells ∧ slots + rm.slots ≤ R.slots)
    (κ : ∀ (A' : Nat → Addr) (x : Sg), u = some x → OkR p l e R s m args below meth c Z C fs n0 h0 F A' (wF arrs w) (cells + rm.cells) (slots + rm.slots) (pc + 3) Ls rest x (K x)) : OkR p l e R s m args below meth c Z C fs n0 h0 F A (wN w) cells slots pc Ls St zs (u.bind K) := by
  subst hst
  intro x' hx T locs rl X W O N f L
  obtain ⟨r1, r2, r3, r4, r5⟩ := hrm
  cases hu : u with
  | none => rw [hu] at hx; cases hx
  | some y0 =>
    rw [hu] at hx
    have hx' : K y0 = some x' := hx
    have hS : SubW (wK arrs 0 0) (wN w) := by
      refine ⟨fun k d q => ?_, fun k d q => ?_⟩
      · cases k with
        | zero => exact q
        | succ k => simp only [wK] at q; split at q <;> first | omega | cases q
      · cases k with
        | zero => exact Or.inl q
        | succ k => exact Or.inr (hw0 _ _ q).1
    have hnT : n0 ≤ T.heap.size := Nat.le_trans hn O.1
    have hM := hcon y0 hu A n0 T.heap [] (hS.wd W) (fun k d q1 q2 => N k d (hS.1 k d q1) q2) hnT
    have hB := backOf (h := T.heap) (Q := fun v' h' L => FI Z C fs arrs A T.heap y0 v' h' ∧ Fr n0 L) (W := W0) (R := R) (p := p) (e := e) (below := below) (s := s) (args := args) (len := 3) hM hc.2.1 hl.2.2.1 hl.2.2.2.1 r1 r2
    have hsz : (mkF m pc rl.toArray (List.map (cv A) (argsL.reverse ++ .ref 0 :: rest))).locals.size = c.maxLocals := by show rl.toArray.size = _; rw [List.size_toArray, L.1, hm, hc.2.2.2.2.1]
    obtain ⟨v, _, ⟨T1, L1, k1, n1⟩, -, X1, ⟨Lc, hQ, l1, c1, s1⟩, st⟩ := X.specialBack hc.1 (y := y) hl.2.2.2.2.2 hc.2.2.2.1 (mv hc.2.1 hl.1) (mv hc.2.1 hl.2.1) (mv hc.2.1 hl.2.2.1) hl.2.2.2.2.1 hB (g := mkF m pc rl.toArray (List.map (cv A) (argsL.reverse ++ .ref 0 :: rest))) rfl hsz (Steps.refl _) (a := A 0) (argsL := argsL.map (cv A)) (rest := rest.map (cv A)) (arity_ok har (by simp)) (by simp [cv]) (by show 2 * 0 + _ ≤ W0; rw [catS_map]; omega) (hb hc.2.2.1 hd) (fun _ _ => ⟨by simp [cv], rfl, by dsimp only [Pt.cells]; omega, by dsimp only [Pt.slots]; omega⟩)
    dsimp only [Pt.U, Pt.locs, Pt.cells, Pt.slots] at X1 l1 c1 s1 st hQ
    subst l1 c1 s1
    obtain ⟨⟨rfl, B, hAE, W1, z1, z2⟩, N1⟩ := hQ
    obtain ⟨A', hA'⟩ : ∃ A' : Nat → Addr, A' = fun k => if k ≤ arrs.length then B k else A k := ⟨_, rfl⟩
    have hA1 : ∀ k, k ≤ arrs.length → A' k = B k := fun k q => by rw [hA']; simp only []; rw [if_pos q]
    have hA2 : ∀ k, arrs.length < k → A' k = A k := fun k q => by rw [hA']; simp only []; rw [if_neg (by omega)]
    have hA3 : ∀ k, (k == 0 || decide (arrs.length < k)) = true → A' k = A k := fun k q => by
      simp only [Bool.or_eq_true, beq_iff_eq, decide_eq_true_eq] at q
      rcases q with rfl | q
      · rw [hA1 0 (by omega)]; exact hAE.1
      · exact hA2 k q
    have hk0 : wN w 0 = some (.inl 0) := rfl
    have hconst : ∀ k d, arrs.length < k → w k = some d → wN w k = some d := fun k d q1 q2 => by
      cases k with
      | zero => omega
      | succ k => exact q2
    have hsmall : ∀ k d, wK arrs arrs.length arrs.length k = some d → k ≤ arrs.length := fun k d q => by
      cases k with
      | zero => omega
      | succ k => simp only [wK] at q; split at q <;> first | omega | cases q
    have hcell : ∀ k d, w k = some d → ∃ cl : Cell, T.heap[A k]? = some cl ∧ T1.heap[A k]? = some cl := fun k d q => by
      have hr := hw0 k d q
      have q' := hconst k d hr.2 q
      rcases d with q' | ⟨ty, n', o⟩
      · cases hr.1
      · obtain ⟨cl, a1, -⟩ := W.1 k _ q'
        exact ⟨cl, a1.1, z2 _ _ a1.1 fun e => by have := W.2 _ _ _ _ q' hk0 e; omega⟩
    have W' : Wd Z C fs T1.heap A' (wF arrs w) y0 := by
      refine ⟨fun k d q => ?_, fun k k' d d' q q' z => ?_⟩
      · unfold wF at q
        split at q
        · rename_i hle
          have := W1.1 k d q
          rcases d with q' | ⟨ty, n', o⟩
          · rw [show CellOk Z C fs T1.heap A' y0 k (.inl q') = (Exa Z T1.heap (A' k) C ∧ ∀ (j : Nat) (n d : String) (cd : Nat), fs[j]? = some (n, d, cd) → Fld Z T1.heap (A' k) C n d (cv A' (fv y0 k j q' cd))) from rfl, hA1 k hle]
            refine ⟨this.1, fun j n d cd hj => ?_⟩
            have e1 : cv A' (fv y0 k j q' cd) = cv B (fv y0 k j q' cd) := by
              refine nrV_cv (ok := fun k => decide (k ≤ arrs.length)) (fun k q => hA1 k (of_decide_eq_true q)) ?_
              match cd with
              | 0 => rfl
              | 1 => rfl
              | r + 2 =>
                cases k with
                | zero =>
                  simp only [wK, Option.some.injEq, Sum.inl.injEq] at q
                  subst q
                  simp only [fv]
                  split
                  · simp [nrV]; omega
                  · rfl
                | succ k => simp only [wK] at q; split at q <;> first | cases q | (rw [Option.map_eq_some_iff] at q; obtain ⟨_, -, z⟩ := q; cases z)
            rw [e1]; exact this.2 j n d cd hj
          · obtain ⟨cl, a1, a2, a3⟩ := this
            exact ⟨cl, by rw [hA1 k hle]; exact a1, a2, a3⟩
        · rename_i hle
          have hr := hw0 k d q
          obtain ⟨cl, b1, b2⟩ := hcell k d q
          have := W.1 k d (hconst k d hr.2 q)
          rcases d with q' | ⟨ty, n', o⟩
          · cases hr.1
          · obtain ⟨cl', a1, a2, a3⟩ := this
            cases o with
            | none => cases hr.1
            | some f0 =>
              have := a1.1
              rw [b1] at this; cases this
              exact ⟨cl, by rw [hA2 k hr.2]; exact ⟨b2, a1.2⟩, a2, a3⟩
      · have hlo : ∀ k d, wF arrs w k = some d → (k ≤ arrs.length ∧ wK arrs arrs.length arrs.length k = some d) ∨ (arrs.length < k ∧ w k = some d) := fun k d q => by
          unfold wF at q
          split at q
          · exact Or.inl ⟨by assumption, q⟩
          · exact Or.inr ⟨by omega, q⟩
        have hmix : ∀ (k k' : Nat) (d d' : CD), k ≤ arrs.length → arrs.length < k' → w k' = some d' → B k ≠ A k' := fun k k' d d' q1 q2 q3 e => by
          obtain ⟨cl, b1, -⟩ := hcell k' d' q3
          have hsz := (Array.getElem?_eq_some_iff.mp b1).1
          cases k with
          | zero =>
            have := W.2 _ _ _ _ hk0 (hconst k' d' q2 q3) (hAE.1.symm.trans e)
            omega
          | succ k =>
            have := hAE.2 (k + 1) (by omega) q1
            have e : @Eq Nat _ _ := e
            have hsz : @LT.lt Nat _ _ _ := hsz
            omega
        rcases hlo k d q with ⟨q1, q2⟩ | ⟨q1, q2⟩ <;> rcases hlo k' d' q' with ⟨q3, q4⟩ | ⟨q3, q4⟩
        · rw [hA1 k q1, hA1 k' q3] at z; exact W1.2 _ _ _ _ q2 q4 z
        · rw [hA1 k q1, hA2 k' q3] at z; exact absurd z (hmix k k' d d' q1 q3 q4)
        · rw [hA2 k q1, hA1 k' q3] at z; exact absurd z.symm (hmix k' k d' d q3 q1 q2)
        · rw [hA2 k q1, hA2 k' q3] at z; exact W.2 _ _ _ _ (hconst k d q1 q2) (hconst k' d' q3 q4) z
    have O' : Out h0 T1.heap A' (wF arrs w) := ⟨Nat.le_trans O.1 z1, fun b c q z => by
      have hb0 : A 0 ≠ b := fun e => z 0 (.inl arrs.length) rfl rfl (by rw [hA1 0 (by omega), hAE.1]; exact e)
      refine z2 b c (O.2 b c q fun k d q1 q2 => ?_) hb0.symm
      cases k with
      | zero => exact hb0
      | succ k => have := (hw0 _ _ (show w (k + 1) = some d from q1)).1; rw [q2] at this; cases this⟩
    have N' : Nw n0 A' (wF arrs w) := fun k d q1 q2 => by
      unfold wF at q1
      split at q1
      · rename_i hle
        rw [hA1 k hle]
        cases k with
        | zero => rw [hAE.1]; exact N 0 _ hk0 rfl
        | succ k => exact Nat.le_trans hnT (hAE.2 (k + 1) (by omega) hle)
      · have := (hw0 k d q1).1; rw [q2] at this; cases this
    obtain ⟨s₂, o', st2, r⟩ := κ A' y0 hu x' hx' T1 _ rl X1 W' O' N' (Fr.app f N1) (nr_ls hA3 hnr.1 L)
    rw [nr_map hA3 hnr.2] at st2
    exact ⟨s₂, o', st.trans st2, r⟩
end AM
section AM6
variable {p : Program} {l : Launch} {e : Env} {R : Room} {s : State} {m : MethodId} {args : Array Value} {below : List Frame} {meth : Method} {c : Code} {Z : State} {a0 : Array Value} {C own : String} {bytes : ByteArray} {maxL : Nat} {ret : Option FieldType} {mn : String} {fs : FS} {fl pfl : List (Nat × Nat)} {kI : List (Nat × Int32)} {kJ : List (Nat × Int64)} {n0 kk : Nat} {h0 : Heap} {α : Type} {F : α → Option Value → Heap → Prop} {A : Nat → Addr} {w : Nat → Option CD} {cells slots pc : Nat} {Ls Ls' : List Slot} {St St' : List Value} {σ σ' : Sg} {t : Option α}
def fI (r : Int32 × Sg) : Option Value × Sg := (some (.int r.1), r.2)
def fJ (r : Int64 × Sg) : Option Value × Sg := (some (.long r.1), r.2)
def fV (r : Sg) : Option Value × Sg := (none, r)
def FL (r : Int32 × Sg) (v : Option Value) (_ : Heap) : Prop := v = some (.int r.1)
theorem am_callP_I {y : MethodName} {b : ByteArray} {mL i : Nat} {rt : Option FieldType} {rm : Room} {wc : Nat → Option CD} {argsL rest : List Value} {u : Option (Int32 × Sg)} {K : (Int32 × Sg) → Option α} {W0 : Nat} {k q : Nat} (hk : wc k = some (.inl q)) (hl : LkP Z a0 own i y b mL rt) (hyc : y.cls = C) (wi : (Cond.instantiable C kk).before a0 Z = true) (hd : decode bytes pc = .ok (.invokevirtual i, 3)) (hc : Cx p s m meth c Z own bytes maxL ret mn) (hS : SubW wc w) (hst : St = argsL.reverse ++ .ref k :: rest) (har : arity y.desc argsL.length = true)
    (hcon : ∀ x, u = some x → Con l Z C fs y b mL rt rm wc (.ref k :: argsL) σ (fI x).1 (fI x).2) (hm : Ls.length = maxL) (hrm : rm.frames + 1 ≤ R.frames ∧ W0 + (mL + 11) + rm.locals ≤ R.locals ∧ catS rest ≤ W0 ∧ rm.cells = 0 ∧ rm.slots = 0 ∧ cells ≤ R.cells ∧ slots ≤ R.slots)
    (κ : ∀ x, u = some x → OkR p l e R s m args below meth c Z C fs n0 h0 F A w cells slots (pc + 3) Ls (.int x.1 :: rest) x.2 (K x)) : OkR p l e R s m args below meth c Z C fs n0 h0 F A w cells slots pc Ls St σ (u.bind K) :=
  am_callP (g := fI) hk hl hyc wi hd hc hS hst har hcon hm hrm κ
theorem am_callP_J {y : MethodName} {b : ByteArray} {mL i : Nat} {rt : Option FieldType} {rm : Room} {wc : Nat → Option CD} {argsL rest : List Value} {u : Option (Int64 × Sg)} {K : (Int64 × Sg) → Option α} {W0 : Nat} {k q : Nat} (hk : wc k = some (.inl q)) (hl : LkP Z a0 own i y b mL rt) (hyc : y.cls = C) (wi : (Cond.instantiable C kk).before a0 Z = true) (hd : decode bytes pc = .ok (.invokevirtual i, 3)) (hc : Cx p s m meth c Z own bytes maxL ret mn) (hS : SubW wc w) (hst : St = argsL.reverse ++ .ref k :: rest) (har : arity y.desc argsL.length = true)
    (hcon : ∀ x, u = some x → Con l Z C fs y b mL rt rm wc (.ref k :: argsL) σ (fJ x).1 (fJ x).2) (hm : Ls.length = maxL) (hrm : rm.frames + 1 ≤ R.frames ∧ W0 + (mL + 11) + rm.locals ≤ R.locals ∧ catS rest ≤ W0 ∧ rm.cells = 0 ∧ rm.slots = 0 ∧ cells ≤ R.cells ∧ slots ≤ R.slots)
    (κ : ∀ x, u = some x → OkR p l e R s m args below meth c Z C fs n0 h0 F A w cells slots (pc + 3) Ls (.long x.1 :: rest) x.2 (K x)) : OkR p l e R s m args below meth c Z C fs n0 h0 F A w cells slots pc Ls St σ (u.bind K) :=
  am_callP (g := fJ) hk hl hyc wi hd hc hS hst har hcon hm hrm κ
theorem am_callP_V {y : MethodName} {b : ByteArray} {mL i : Nat} {rt : Option FieldType} {rm : Room} {wc : Nat → Option CD} {argsL rest : List Value} {u : Option Sg} {K : Sg → Option α} {W0 : Nat} {k q : Nat} (hk : wc k = some (.inl q)) (hl : LkP Z a0 own i y b mL rt) (hyc : y.cls = C) (wi : (Cond.instantiable C kk).before a0 Z = true) (hd : decode bytes pc = .ok (.invokevirtual i, 3)) (hc : Cx p s m meth c Z own bytes maxL ret mn) (hS : SubW wc w) (hst : St = argsL.reverse ++ .ref k :: rest) (har : arity y.desc argsL.length = true)
    (hcon : ∀ x, u = some x → Con l Z C fs y b mL rt rm wc (.ref k :: argsL) σ (fV x).1 (fV x).2) (hm : Ls.length = maxL) (hrm : rm.frames + 1 ≤ R.frames ∧ W0 + (mL + 11) + rm.locals ≤ R.locals ∧ catS rest ≤ W0 ∧ rm.cells = 0 ∧ rm.slots = 0 ∧ cells ≤ R.cells ∧ slots ≤ R.slots)
    (κ : ∀ x, u = some x → OkR p l e R s m args below meth c Z C fs n0 h0 F A w cells slots (pc + 3) Ls (rest) x (K x)) : OkR p l e R s m args below meth c Z C fs n0 h0 F A w cells slots pc Ls St σ (u.bind K) :=
  am_callP (g := fV) hk hl hyc wi hd hc hS hst har hcon hm hrm κ
theorem am_callV_I {y : MethodName} {b : ByteArray} {mL i : Nat} {rt : Option FieldType} {rm : Room} {wc : Nat → Option CD} {argsL rest : List Value} {u : Option (Int32 × Sg)} {K : (Int32 × Sg) → Option α} {W0 : Nat} {k q : Nat} (hk : wc k = some (.inl q)) (hl : LkV Z a0 own i y b mL rt) (hyc : y.cls = C) (hd : decode bytes pc = .ok (.invokevirtual i, 3)) (hc : Cx p s m meth c Z own bytes maxL ret mn) (hS : SubW wc w) (hst : St = argsL.reverse ++ .ref k :: rest) (har : arity y.desc argsL.length = true)
    (hcon : ∀ x, u = some x → Con l Z C fs y b mL rt rm wc (.ref k :: argsL) σ (fI x).1 (fI x).2) (hm : Ls.length = maxL) (hrm : rm.frames + 1 ≤ R.frames ∧ W0 + (mL + 11) + rm.locals ≤ R.locals ∧ catS rest ≤ W0 ∧ rm.cells = 0 ∧ rm.slots = 0 ∧ cells ≤ R.cells ∧ slots ≤ R.slots)
    (κ : ∀ x, u = some x → OkR p l e R s m args below meth c Z C fs n0 h0 F A w cells slots (pc + 3) Ls (.int x.1 :: rest) x.2 (K x)) : OkR p l e R s m args below meth c Z C fs n0 h0 F A w cells slots pc Ls St σ (u.bind K) :=
  am_callV (g := fI) hk hl hyc hd hc hS hst har hcon hm hrm κ
theorem am_callV_J {y : MethodName} {b : ByteArray} {mL i : Nat} {rt : Option FieldType} {rm : Room} {wc : Nat → Option CD} {argsL rest : List Value} {u : Option (Int64 × Sg)} {K : (Int64 × Sg) → Option α} {W0 : Nat} {k q : Nat} (hk : wc k = some (.inl q)) (hl : LkV Z a0 own i y b mL rt) (hyc : y.cls = C) (hd : decode bytes pc = .ok (.invokevirtual i, 3)) (hc : Cx p s m meth c Z own bytes maxL ret mn) (hS : SubW wc w) (hst : St = argsL.reverse ++ .ref k :: rest) (har : arity y.desc argsL.length = true)
    (hcon : ∀ x, u = some x → Con l Z C fs y b mL rt rm wc (.ref k :: argsL) σ (fJ x).1 (fJ x).2) (hm : Ls.length = maxL) (hrm : rm.frames + 1 ≤ R.frames ∧ W0 + (mL + 11) + rm.locals ≤ R.locals ∧ catS rest ≤ W0 ∧ rm.cells = 0 ∧ rm.slots = 0 ∧ cells ≤ R.cells ∧ slots ≤ R.slots)
    (κ : ∀ x, u = some x → OkR p l e R s m args below meth c Z C fs n0 h0 F A w cells slots (pc + 3) Ls (.long x.1 :: rest) x.2 (K x)) : OkR p l e R s m args below meth c Z C fs n0 h0 F A w cells slots pc Ls St σ (u.bind K) :=
  am_callV (g := fJ) hk hl hyc hd hc hS hst har hcon hm hrm κ
theorem am_callV_V {y : MethodName} {b : ByteArray} {mL i : Nat} {rt : Option FieldType} {rm : Room} {wc : Nat → Option CD} {argsL rest : List Value} {u : Option Sg} {K : Sg → Option α} {W0 : Nat} {k q : Nat} (hk : wc k = some (.inl q)) (hl : LkV Z a0 own i y b mL rt) (hyc : y.cls = C) (hd : decode bytes pc = .ok (.invokevirtual i, 3)) (hc : Cx p s m meth c Z own bytes maxL ret mn) (hS : SubW wc w) (hst : St = argsL.reverse ++ .ref k :: rest) (har : arity y.desc argsL.length = true)
    (hcon : ∀ x, u = some x → Con l Z C fs y b mL rt rm wc (.ref k :: argsL) σ (fV x).1 (fV x).2) (hm : Ls.length = maxL) (hrm : rm.frames + 1 ≤ R.frames ∧ W0 + (mL + 11) + rm.locals ≤ R.locals ∧ catS rest ≤ W0 ∧ rm.cells = 0 ∧ rm.slots = 0 ∧ cells ≤ R.cells ∧ slots ≤ R.slots)
    (κ : ∀ x, u = some x → OkR p l e R s m args below meth c Z C fs n0 h0 F A w cells slots (pc + 3) Ls (rest) x (K x)) : OkR p l e R s m args below meth c Z C fs n0 h0 F A w cells slots pc Ls St σ (u.bind K) :=
  am_callV (g := fV) hk hl hyc hd hc hS hst har hcon hm hrm κ
theorem am_callS_I {y : MethodName} {b : ByteArray} {mL i : Nat} {rt : Option FieldType} {rm : Room} {wc : Nat → Option CD} {argsL rest : List Value} {u : Option (Int32 × Sg)} {K : (Int32 × Sg) → Option α} {W0 : Nat} (hl : LkS Z a0 own i y b mL rt) (hd : decode bytes pc = .ok (.invokestatic i, 3)) (hc : Cx p s m meth c Z own bytes maxL ret mn) (hS : SubW wc w) (hst : St = argsL.reverse ++ rest) (har : arity y.desc argsL.length = true)
    (hcon : ∀ x, u = some x → Con l Z C fs y b mL rt rm wc argsL σ (fI x).1 (fI x).2) (hm : Ls.length = maxL) (hrm : rm.frames + 1 ≤ R.frames ∧ W0 + (mL + 11) + rm.locals ≤ R.locals ∧ catS rest ≤ W0 ∧ rm.cells = 0 ∧ rm.slots = 0 ∧ cells ≤ R.cells ∧ slots ≤ R.slots)
    (κ : ∀ x, u = some x → OkR p l e R s m args below meth c Z C fs n0 h0 F A w cells slots (pc + 3) Ls (.int x.1 :: rest) x.2 (K x)) : OkR p l e R s m args below meth c Z C fs n0 h0 F A w cells slots pc Ls St σ (u.bind K) :=
  am_callS (g := fI) hl hd hc hS hst har hcon hm hrm κ
theorem am_callS_J {y : MethodName} {b : ByteArray} {mL i : Nat} {rt : Option FieldType} {rm : Room} {wc : Nat → Option CD} {argsL rest : List Value} {u : Option (Int64 × Sg)} {K : (Int64 × Sg) → Option α} {W0 : Nat} (hl : LkS Z a0 own i y b mL rt) (hd : decode bytes pc = .ok (.invokestatic i, 3)) (hc : Cx p s m meth c Z own bytes maxL ret mn) (hS : SubW wc w) (hst : St = argsL.reverse ++ rest) (har : arity y.desc argsL.length = true)
    (hcon : ∀ x, u = some x → Con l Z C fs y b mL rt rm wc argsL σ (fJ x).1 (fJ x).2) (hm : Ls.length = maxL) (hrm : rm.frames + 1 ≤ R.frames ∧ W0 + (mL + 11) + rm.locals ≤ R.locals ∧ catS rest ≤ W0 ∧ rm.cells = 0 ∧ rm.slots = 0 ∧ cells ≤ R.cells ∧ slots ≤ R.slots)
    (κ : ∀ x, u = some x → OkR p l e R s m args below meth c Z C fs n0 h0 F A w cells slots (pc + 3) Ls (.long x.1 :: rest) x.2 (K x)) : OkR p l e R s m args below meth c Z C fs n0 h0 F A w cells slots pc Ls St σ (u.bind K) :=
  am_callS (g := fJ) hl hd hc hS hst har hcon hm hrm κ
theorem am_callS_V {y : MethodName} {b : ByteArray} {mL i : Nat} {rt : Option FieldType} {rm : Room} {wc : Nat → Option CD} {argsL rest : List Value} {u : Option Sg} {K : Sg → Option α} {W0 : Nat} (hl : LkS Z a0 own i y b mL rt) (hd : decode bytes pc = .ok (.invokestatic i, 3)) (hc : Cx p s m meth c Z own bytes maxL ret mn) (hS : SubW wc w) (hst : St = argsL.reverse ++ rest) (har : arity y.desc argsL.length = true)
    (hcon : ∀ x, u = some x → Con l Z C fs y b mL rt rm wc argsL σ (fV x).1 (fV x).2) (hm : Ls.length = maxL) (hrm : rm.frames + 1 ≤ R.frames ∧ W0 + (mL + 11) + rm.locals ≤ R.locals ∧ catS rest ≤ W0 ∧ rm.cells = 0 ∧ rm.slots = 0 ∧ cells ≤ R.cells ∧ slots ≤ R.slots)
    (κ : ∀ x, u = some x → OkR p l e R s m args below meth c Z C fs n0 h0 F A w cells slots (pc + 3) Ls (rest) x (K x)) : OkR p l e R s m args below meth c Z C fs n0 h0 F A w cells slots pc Ls St σ (u.bind K) :=
  am_callS (g := fV) hl hd hc hS hst har hcon hm hrm κ
theorem am_tsw {x v : Int32} {vi dflt low high o : Int} {offs : Array Int} {len pcv : Nat} {t1 t2 : Option α} (hd : decode bytes pc = .ok (.tableswitch dflt low high offs, len)) (hin : ¬ (vi < low ∨ vi > high)) (hoff : offs[(vi - low).toNat]? = some o) (ho : 0 ≤ (pc : Int) + o) (hp : ((pc : Int) + o).toNat = pcv) (hv : v.toInt = vi) (hc : Cx p s m meth c Z own bytes maxL ret mn)
    (k1 : x = v → OkR p l e R s m args below meth c Z C fs n0 h0 F A w cells slots pcv Ls St σ t1) (k2 : x.toInt ≠ vi → OkR p l e R s m args below meth c Z C fs n0 h0 F A w cells slots pc Ls (.int x :: St) σ t2) : OkR p l e R s m args below meth c Z C fs n0 h0 F A w cells slots pc Ls (.int x :: St) σ (if x = v then t1 else t2) := by
  by_cases q : x = v
  · rw [if_pos q]
    intro x' hx T locs rl X W O N f L
    obtain ⟨s₂, o', st, r⟩ := k1 q x' hx T locs rl X W O N f L
    subst q
    subst hv
    exact ⟨s₂, o', XS.tswIn X.here hc.1 rfl (pc0 := pc) rfl (hb hc.2.2.1 hd) rfl hin hoff ho hp st, r⟩
  · rw [if_neg q]
    exact k2 fun e => q (Int32.toInt_inj.mp (e.trans hv.symm))
theorem am_tswD {x : Int32} {dflt low high : Int} {offs : Array Int} {len pcv : Nat} (hd : decode bytes pc = .ok (.tableswitch dflt low high offs, len)) (hout : x.toInt < low ∨ x.toInt > high) (ho : 0 ≤ (pc : Int) + dflt) (hp : ((pc : Int) + dflt).toNat = pcv) (hc : Cx p s m meth c Z own bytes maxL ret mn)
    (k1 : OkR p l e R s m args below meth c Z C fs n0 h0 F A w cells slots pcv Ls St σ t) : OkR p l e R s m args below meth c Z C fs n0 h0 F A w cells slots pc Ls (.int x :: St) σ t := by
  intro x' hx T locs rl X W O N f L
  obtain ⟨s₂, o', st, r⟩ := k1 x' hx T locs rl X W O N f L
  exact ⟨s₂, o', XS.tswOut X.here hc.1 rfl (pc0 := pc) rfl (hb hc.2.2.1 hd) rfl hout ho hp st, r⟩
theorem subF {arrs : List (FieldType × Nat)} {w0 : Nat → Option CD} (h : Rd w0 arrs.length) : SubW (wK arrs arrs.length arrs.length) (wF arrs w0) := by
  refine ⟨fun k d q => ?_, fun k d q => ?_⟩
  · unfold wF
    have : k ≤ arrs.length := by
      cases k with
      | zero => omega
      | succ k => simp only [wK] at q; split at q <;> first | omega | cases q
    rw [if_pos this]; exact q
  · unfold wF at q
    split at q
    · exact Or.inl q
    · exact Or.inr (h k d q).1
end AM6
def WH (a0 : Array Value) (Z : State) : Prop := ∀ d ∈ tables_1, d.before a0 Z = true
abbrev fsC : FS := [("gateKind", "[I", 2), ("gateA", "[I", 3), ("gateB", "[I", 4), ("outputSignal", "[I", 5), ("marked", "[Z", 6), ("faultSig", "[I", 7), ("firstDetect", "[I", 8), ("detected", "[Z", 9), ("lane", "[J", 10), ("inputCount", "I", 0), ("gateCap", "I", 0), ("width", "I", 0), ("widthMask", "I", 0), ("gateCount", "I", 0), ("outputCount", "I", 0), ("seed", "I", 0), ("misrMask", "I", 0), ("patternCount", "I", 0), ("lfsr", "I", 0), ("golden", "I", 0)]
abbrev arrsC : List (FieldType × Nat) := [(.int, 32), (.int, 32), (.int, 32), (.int, 8), (.boolean, 40), (.int, 80), (.int, 80), (.boolean, 80), (.long, 40)]
abbrev wC : Nat → Option CD := wK arrsC 9 9
-- fields: 0:gateKind, 1:gateA, 2:gateB, 3:outputSignal, 4:marked, 5:faultSig, 6:firstDetect, 7:detected, 8:lane, 9:inputCount, 10:gateCap, 11:width, 12:widthMask, 13:gateCount, 14:outputCount, 15:seed, 16:misrMask, 17:patternCount, 18:lfsr, 19:golden
def flC : List (Nat × Nat) := [(7, 0), (13, 1), (16, 2), (19, 3), (22, 4), (26, 5), (29, 6), (32, 7), (35, 8), (43, 9), (47, 10), (50, 11), (53, 12), (56, 13), (59, 14), (63, 15), (66, 16), (72, 17), (89, 18), (112, 19)]
def pflC : List (Nat × Nat) := [(56, 13), (59, 14), (63, 15), (66, 16), (72, 17), (89, 18), (112, 19)]
def kIC : List (Nat × Int32) := [(62, 44257), (88, 65535), (170, 46080)]
def kJC : List (Nat × Int64) := [(161, -1)]
def kIL : List (Nat × Int32) := [(14, 65535), (15, 44257), (13, 46080)]
def kJL : List (Nat × Int64) := []
theorem pnC : plainName "LogicBist" = true := by first | (simp [plainName, overriddenIn]; done) | decide +kernel
theorem pnL : plainName "LogicBistL3" = true := by first | (simp [plainName, overriddenIn]; done) | decide +kernel
section Words
variable {a0 : Array Value} {Z : State}
theorem wiC (hw : WH a0 Z) : (Cond.instantiable "LogicBist" 20).before a0 Z = true := hw _ (List.mem_of_getElem? (i := 8) rfl)
theorem wzC (hw : WH a0 Z) : (Cond.initialized "LogicBist").before a0 Z = true := hw _ (List.mem_of_getElem? (i := 9) rfl)
theorem fsok_1 : ∀ (j j' : Nat) (x x' : String × String × Nat), fsC[j]? = some x → fsC[j']? = some x' → x.1 = x'.1 → j = j' := by
  have key : (fsC.map (·.1)).Nodup := by decide
  intro j j' x x' h h' e
  have h1 : (fsC.map (·.1))[j]? = some x.1 := by rw [List.getElem?_map, h]; rfl
  have h2 : (fsC.map (·.1))[j']? = some x.1 := by rw [List.getElem?_map, h', e]; rfl
  obtain ⟨b1, e1⟩ := List.getElem?_eq_some_iff.mp h1
  obtain ⟨b2, e2⟩ := List.getElem?_eq_some_iff.mp h2
  exact (List.getElem?_inj b1 key).mp (h1.trans h2.symm)
theorem fsokC (hw : WH a0 Z) : FsOk Z a0 "LogicBist" fsC := by
  intro j n d cd h
  refine ⟨?_, ?_, fun j' n' d' cd' h' e => fsok_1 j j' _ _ h h' e⟩
  all_goals (have hm := List.mem_of_getElem? h; simp only [fsC, List.mem_cons, List.not_mem_nil, or_false, Prod.mk.injEq] at hm)
  · rcases hm with ⟨rfl, rfl, rfl⟩ | ⟨rfl, rfl, rfl⟩ | ⟨rfl, rfl, rfl⟩ | ⟨rfl, rfl, rfl⟩ | ⟨rfl, rfl, rfl⟩ | ⟨rfl, rfl, rfl⟩ | ⟨rfl, rfl, rfl⟩ | ⟨rfl, rfl, rfl⟩ | ⟨rfl, rfl, rfl⟩ | ⟨rfl, rfl, rfl⟩ | ⟨rfl, rfl, rfl⟩ | ⟨rfl, rfl, rfl⟩ | ⟨rfl, rfl, rfl⟩ | ⟨rfl, rfl, rfl⟩ | ⟨rfl, rfl, rfl⟩ | ⟨rfl, rfl, rfl⟩ | ⟨rfl, rfl, rfl⟩ | ⟨rfl, rfl, rfl⟩ | ⟨rfl, rfl, rfl⟩ | ⟨rfl, rfl, rfl⟩
    · exact Or.inr (hw _ (List.mem_of_getElem? (i := 18) rfl))
    · exact Or.inr (hw _ (List.mem_of_getElem? (i := 20) rfl))
    · exact Or.inr (hw _ (List.mem_of_getElem? (i := 22) rfl))
    · exact Or.inr (hw _ (List.mem_of_getElem? (i := 24) rfl))
    · exact Or.inr (hw _ (List.mem_of_getElem? (i := 27) rfl))
    · exact Or.inr (hw _ (List.mem_of_getElem? (i := 29) rfl))
    · exact Or.inr (hw _ (List.mem_of_getElem? (i := 31) rfl))
    · exact Or.inr (hw _ (List.mem_of_getElem? (i := 33) rfl))
    · exact Or.inr (hw _ (List.mem_of_getElem? (i := 36) rfl))
    · exact Or.inr (hw _ (List.mem_of_getElem? (i := 42) rfl))
    · exact Or.inr (hw _ (List.mem_of_getElem? (i := 44) rfl))
    · exact Or.inr (hw _ (List.mem_of_getElem? (i := 46) rfl))
    · exact Or.inr (hw _ (List.mem_of_getElem? (i := 48) rfl))
    · exact Or.inl (hw _ (List.mem_of_getElem? (i := 50) rfl))
    · exact Or.inl (hw _ (List.mem_of_getElem? (i := 52) rfl))
    · exact Or.inl (hw _ (List.mem_of_getElem? (i := 55) rfl))
    · exact Or.inl (hw _ (List.mem_of_getElem? (i := 57) rfl))
    · exact Or.inl (hw _ (List.mem_of_getElem? (i := 63) rfl))
    · exact Or.inl (hw _ (List.mem_of_getElem? (i := 65) rfl))
    · exact Or.inl (hw _ (List.mem_of_getElem? (i := 67) rfl))
  · rcases hm with ⟨rfl, rfl, rfl⟩ | ⟨rfl, rfl, rfl⟩ | ⟨rfl, rfl, rfl⟩ | ⟨rfl, rfl, rfl⟩ | ⟨rfl, rfl, rfl⟩ | ⟨rfl, rfl, rfl⟩ | ⟨rfl, rfl, rfl⟩ | ⟨rfl, rfl, rfl⟩ | ⟨rfl, rfl, rfl⟩ | ⟨rfl, rfl, rfl⟩ | ⟨rfl, rfl, rfl⟩ | ⟨rfl, rfl, rfl⟩ | ⟨rfl, rfl, rfl⟩ | ⟨rfl, rfl, rfl⟩ | ⟨rfl, rfl, rfl⟩ | ⟨rfl, rfl, rfl⟩ | ⟨rfl, rfl, rfl⟩ | ⟨rfl, rfl, rfl⟩ | ⟨rfl, rfl, rfl⟩ | ⟨rfl, rfl, rfl⟩
    · exact ⟨.array .int, by decide +kernel, fun q => absurd q (by decide), fun q => absurd q (by decide), fun _ => ⟨_, rfl⟩⟩
    · exact ⟨.array .int, by decide +kernel, fun q => absurd q (by decide), fun q => absurd q (by decide), fun _ => ⟨_, rfl⟩⟩
    · exact ⟨.array .int, by decide +kernel, fun q => absurd q (by decide), fun q => absurd q (by decide), fun _ => ⟨_, rfl⟩⟩
    · exact ⟨.array .int, by decide +kernel, fun q => absurd q (by decide), fun q => absurd q (by decide), fun _ => ⟨_, rfl⟩⟩
    · exact ⟨.array .boolean, by decide +kernel, fun q => absurd q (by decide), fun q => absurd q (by decide), fun _ => ⟨_, rfl⟩⟩
    · exact ⟨.array .int, by decide +kernel, fun q => absurd q (by decide), fun q => absurd q (by decide), fun _ => ⟨_, rfl⟩⟩
    · exact ⟨.array .int, by decide +kernel, fun q => absurd q (by decide), fun q => absurd q (by decide), fun _ => ⟨_, rfl⟩⟩
    · exact ⟨.array .boolean, by decide +kernel, fun q => absurd q (by decide), fun q => absurd q (by decide), fun _ => ⟨_, rfl⟩⟩
    · exact ⟨.array .long, by decide +kernel, fun q => absurd q (by decide), fun q => absurd q (by decide), fun _ => ⟨_, rfl⟩⟩
    · exact ⟨.int, by decide +kernel, fun _ => rfl, fun q => absurd q (by decide), fun q => absurd q (by decide)⟩
    · exact ⟨.int, by decide +kernel, fun _ => rfl, fun q => absurd q (by decide), fun q => absurd q (by decide)⟩
    · exact ⟨.int, by decide +kernel, fun _ => rfl, fun q => absurd q (by decide), fun q => absurd q (by decide)⟩
    · exact ⟨.int, by decide +kernel, fun _ => rfl, fun q => absurd q (by decide), fun q => absurd q (by decide)⟩
    · exact ⟨.int, by decide +kernel, fun _ => rfl, fun q => absurd q (by decide), fun q => absurd q (by decide)⟩
    · exact ⟨.int, by decide +kernel, fun _ => rfl, fun q => absurd q (by decide), fun q => absurd q (by decide)⟩
    · exact ⟨.int, by decide +kernel, fun _ => rfl, fun q => absurd q (by decide), fun q => absurd q (by decide)⟩
    · exact ⟨.int, by decide +kernel, fun _ => rfl, fun q => absurd q (by decide), fun q => absurd q (by decide)⟩
    · exact ⟨.int, by decide +kernel, fun _ => rfl, fun q => absurd q (by decide), fun q => absurd q (by decide)⟩
    · exact ⟨.int, by decide +kernel, fun _ => rfl, fun q => absurd q (by decide), fun q => absurd q (by decide)⟩
    · exact ⟨.int, by decide +kernel, fun _ => rfl, fun q => absurd q (by decide), fun q => absurd q (by decide)⟩
theorem tabC (hw : WH a0 Z) (mn : String) : Tab Z a0 "LogicBist" "LogicBist" mn fsC flC pflC kIC kJC := by
  refine ⟨fun x hx => ?_, fun x hx => ?_, fun x hx => ?_, fun x hx => ?_⟩
  · simp only [flC, List.mem_cons, List.not_mem_nil, or_false] at hx
    rcases hx with rfl | rfl | rfl | rfl | rfl | rfl | rfl | rfl | rfl | rfl | rfl | rfl | rfl | rfl | rfl | rfl | rfl | rfl | rfl | rfl
    · exact ⟨_, _, _, rfl, hw _ (List.mem_of_getElem? (i := 17) rfl)⟩
    · exact ⟨_, _, _, rfl, hw _ (List.mem_of_getElem? (i := 19) rfl)⟩
    · exact ⟨_, _, _, rfl, hw _ (List.mem_of_getElem? (i := 21) rfl)⟩
    · exact ⟨_, _, _, rfl, hw _ (List.mem_of_getElem? (i := 23) rfl)⟩
    · exact ⟨_, _, _, rfl, hw _ (List.mem_of_getElem? (i := 26) rfl)⟩
    · exact ⟨_, _, _, rfl, hw _ (List.mem_of_getElem? (i := 28) rfl)⟩
    · exact ⟨_, _, _, rfl, hw _ (List.mem_of_getElem? (i := 30) rfl)⟩
    · exact ⟨_, _, _, rfl, hw _ (List.mem_of_getElem? (i := 32) rfl)⟩
    · exact ⟨_, _, _, rfl, hw _ (List.mem_of_getElem? (i := 35) rfl)⟩
    · exact ⟨_, _, _, rfl, hw _ (List.mem_of_getElem? (i := 41) rfl)⟩
    · exact ⟨_, _, _, rfl, hw _ (List.mem_of_getElem? (i := 43) rfl)⟩
    · exact ⟨_, _, _, rfl, hw _ (List.mem_of_getElem? (i := 45) rfl)⟩
    · exact ⟨_, _, _, rfl, hw _ (List.mem_of_getElem? (i := 47) rfl)⟩
    · exact ⟨_, _, _, rfl, hw _ (List.mem_of_getElem? (i := 49) rfl)⟩
    · exact ⟨_, _, _, rfl, hw _ (List.mem_of_getElem? (i := 51) rfl)⟩
    · exact ⟨_, _, _, rfl, hw _ (List.mem_of_getElem? (i := 54) rfl)⟩
    · exact ⟨_, _, _, rfl, hw _ (List.mem_of_getElem? (i := 56) rfl)⟩
    · exact ⟨_, _, _, rfl, hw _ (List.mem_of_getElem? (i := 62) rfl)⟩
    · exact ⟨_, _, _, rfl, hw _ (List.mem_of_getElem? (i := 64) rfl)⟩
    · exact ⟨_, _, _, rfl, hw _ (List.mem_of_getElem? (i := 66) rfl)⟩
  · simp only [pflC, List.mem_cons, List.not_mem_nil, or_false] at hx
    rcases hx with rfl | rfl | rfl | rfl | rfl | rfl | rfl
    · exact ⟨_, _, _, rfl, hw _ (List.mem_of_getElem? (i := 49) rfl), Or.inl (hw _ (List.mem_of_getElem? (i := 50) rfl))⟩
    · exact ⟨_, _, _, rfl, hw _ (List.mem_of_getElem? (i := 51) rfl), Or.inl (hw _ (List.mem_of_getElem? (i := 52) rfl))⟩
    · exact ⟨_, _, _, rfl, hw _ (List.mem_of_getElem? (i := 54) rfl), Or.inl (hw _ (List.mem_of_getElem? (i := 55) rfl))⟩
    · exact ⟨_, _, _, rfl, hw _ (List.mem_of_getElem? (i := 56) rfl), Or.inl (hw _ (List.mem_of_getElem? (i := 57) rfl))⟩
    · exact ⟨_, _, _, rfl, hw _ (List.mem_of_getElem? (i := 62) rfl), Or.inl (hw _ (List.mem_of_getElem? (i := 63) rfl))⟩
    · exact ⟨_, _, _, rfl, hw _ (List.mem_of_getElem? (i := 64) rfl), Or.inl (hw _ (List.mem_of_getElem? (i := 65) rfl))⟩
    · exact ⟨_, _, _, rfl, hw _ (List.mem_of_getElem? (i := 66) rfl), Or.inl (hw _ (List.mem_of_getElem? (i := 67) rfl))⟩
  · simp only [kIC, List.mem_cons, List.not_mem_nil, or_false] at hx
    rcases hx with rfl | rfl | rfl
    · exact hw _ (List.mem_of_getElem? (i := 53) rfl)
    · exact hw _ (List.mem_of_getElem? (i := 77) rfl)
    · exact hw _ (List.mem_of_getElem? (i := 179) rfl)
  · simp only [kJC, List.mem_cons, List.not_mem_nil, or_false] at hx
    rcases hx with rfl
    · exact hw _ (List.mem_of_getElem? (i := 130) rfl)
theorem tabI (hw : WH a0 Z) : Tab Z a0 "LogicBist" "LogicBist" "<init>" fsC flC flC kIC kJC := by
  refine ⟨fun x hx => ?_, fun x hx => ?_, fun x hx => ?_, fun x hx => ?_⟩
  · simp only [flC, List.mem_cons, List.not_mem_nil, or_false] at hx
    rcases hx with rfl | rfl | rfl | rfl | rfl | rfl | rfl | rfl | rfl | rfl | rfl | rfl | rfl | rfl | rfl | rfl | rfl | rfl | rfl | rfl
    · exact ⟨_, _, _, rfl, hw _ (List.mem_of_getElem? (i := 17) rfl)⟩
    · exact ⟨_, _, _, rfl, hw _ (List.mem_of_getElem? (i := 19) rfl)⟩
    · exact ⟨_, _, _, rfl, hw _ (List.mem_of_getElem? (i := 21) rfl)⟩
    · exact ⟨_, _, _, rfl, hw _ (List.mem_of_getElem? (i := 23) rfl)⟩
    · exact ⟨_, _, _, rfl, hw _ (List.mem_of_getElem? (i := 26) rfl)⟩
    · exact ⟨_, _, _, rfl, hw _ (List.mem_of_getElem? (i := 28) rfl)⟩
    · exact ⟨_, _, _, rfl, hw _ (List.mem_of_getElem? (i := 30) rfl)⟩
    · exact ⟨_, _, _, rfl, hw _ (List.mem_of_getElem? (i := 32) rfl)⟩
    · exact ⟨_, _, _, rfl, hw _ (List.mem_of_getElem? (i := 35) rfl)⟩
    · exact ⟨_, _, _, rfl, hw _ (List.mem_of_getElem? (i := 41) rfl)⟩
    · exact ⟨_, _, _, rfl, hw _ (List.mem_of_getElem? (i := 43) rfl)⟩
    · exact ⟨_, _, _, rfl, hw _ (List.mem_of_getElem? (i := 45) rfl)⟩
    · exact ⟨_, _, _, rfl, hw _ (List.mem_of_getElem? (i := 47) rfl)⟩
    · exact ⟨_, _, _, rfl, hw _ (List.mem_of_getElem? (i := 49) rfl)⟩
    · exact ⟨_, _, _, rfl, hw _ (List.mem_of_getElem? (i := 51) rfl)⟩
    · exact ⟨_, _, _, rfl, hw _ (List.mem_of_getElem? (i := 54) rfl)⟩
    · exact ⟨_, _, _, rfl, hw _ (List.mem_of_getElem? (i := 56) rfl)⟩
    · exact ⟨_, _, _, rfl, hw _ (List.mem_of_getElem? (i := 62) rfl)⟩
    · exact ⟨_, _, _, rfl, hw _ (List.mem_of_getElem? (i := 64) rfl)⟩
    · exact ⟨_, _, _, rfl, hw _ (List.mem_of_getElem? (i := 66) rfl)⟩
  · simp only [flC, List.mem_cons, List.not_mem_nil, or_false] at hx
    rcases hx with rfl | rfl | rfl | rfl | rfl | rfl | rfl | rfl | rfl | rfl | rfl | rfl | rfl | rfl | rfl | rfl | rfl | rfl | rfl | rfl
    · exact ⟨_, _, _, rfl, hw _ (List.mem_of_getElem? (i := 17) rfl), Or.inr ⟨hw _ (List.mem_of_getElem? (i := 18) rfl), rfl, rfl⟩⟩
    · exact ⟨_, _, _, rfl, hw _ (List.mem_of_getElem? (i := 19) rfl), Or.inr ⟨hw _ (List.mem_of_getElem? (i := 20) rfl), rfl, rfl⟩⟩
    · exact ⟨_, _, _, rfl, hw _ (List.mem_of_getElem? (i := 21) rfl), Or.inr ⟨hw _ (List.mem_of_getElem? (i := 22) rfl), rfl, rfl⟩⟩
    · exact ⟨_, _, _, rfl, hw _ (List.mem_of_getElem? (i := 23) rfl), Or.inr ⟨hw _ (List.mem_of_getElem? (i := 24) rfl), rfl, rfl⟩⟩
    · exact ⟨_, _, _, rfl, hw _ (List.mem_of_getElem? (i := 26) rfl), Or.inr ⟨hw _ (List.mem_of_getElem? (i := 27) rfl), rfl, rfl⟩⟩
    · exact ⟨_, _, _, rfl, hw _ (List.mem_of_getElem? (i := 28) rfl), Or.inr ⟨hw _ (List.mem_of_getElem? (i := 29) rfl), rfl, rfl⟩⟩
    · exact ⟨_, _, _, rfl, hw _ (List.mem_of_getElem? (i := 30) rfl), Or.inr ⟨hw _ (List.mem_of_getElem? (i := 31) rfl), rfl, rfl⟩⟩
    · exact ⟨_, _, _, rfl, hw _ (List.mem_of_getElem? (i := 32) rfl), Or.inr ⟨hw _ (List.mem_of_getElem? (i := 33) rfl), rfl, rfl⟩⟩
    · exact ⟨_, _, _, rfl, hw _ (List.mem_of_getElem? (i := 35) rfl), Or.inr ⟨hw _ (List.mem_of_getElem? (i := 36) rfl), rfl, rfl⟩⟩
    · exact ⟨_, _, _, rfl, hw _ (List.mem_of_getElem? (i := 41) rfl), Or.inr ⟨hw _ (List.mem_of_getElem? (i := 42) rfl), rfl, rfl⟩⟩
    · exact ⟨_, _, _, rfl, hw _ (List.mem_of_getElem? (i := 43) rfl), Or.inr ⟨hw _ (List.mem_of_getElem? (i := 44) rfl), rfl, rfl⟩⟩
    · exact ⟨_, _, _, rfl, hw _ (List.mem_of_getElem? (i := 45) rfl), Or.inr ⟨hw _ (List.mem_of_getElem? (i := 46) rfl), rfl, rfl⟩⟩
    · exact ⟨_, _, _, rfl, hw _ (List.mem_of_getElem? (i := 47) rfl), Or.inr ⟨hw _ (List.mem_of_getElem? (i := 48) rfl), rfl, rfl⟩⟩
    · exact ⟨_, _, _, rfl, hw _ (List.mem_of_getElem? (i := 49) rfl), Or.inl (hw _ (List.mem_of_getElem? (i := 50) rfl))⟩
    · exact ⟨_, _, _, rfl, hw _ (List.mem_of_getElem? (i := 51) rfl), Or.inl (hw _ (List.mem_of_getElem? (i := 52) rfl))⟩
    · exact ⟨_, _, _, rfl, hw _ (List.mem_of_getElem? (i := 54) rfl), Or.inl (hw _ (List.mem_of_getElem? (i := 55) rfl))⟩
    · exact ⟨_, _, _, rfl, hw _ (List.mem_of_getElem? (i := 56) rfl), Or.inl (hw _ (List.mem_of_getElem? (i := 57) rfl))⟩
    · exact ⟨_, _, _, rfl, hw _ (List.mem_of_getElem? (i := 62) rfl), Or.inl (hw _ (List.mem_of_getElem? (i := 63) rfl))⟩
    · exact ⟨_, _, _, rfl, hw _ (List.mem_of_getElem? (i := 64) rfl), Or.inl (hw _ (List.mem_of_getElem? (i := 65) rfl))⟩
    · exact ⟨_, _, _, rfl, hw _ (List.mem_of_getElem? (i := 66) rfl), Or.inl (hw _ (List.mem_of_getElem? (i := 67) rfl))⟩
  · simp only [kIC, List.mem_cons, List.not_mem_nil, or_false] at hx
    rcases hx with rfl | rfl | rfl
    · exact hw _ (List.mem_of_getElem? (i := 53) rfl)
    · exact hw _ (List.mem_of_getElem? (i := 77) rfl)
    · exact hw _ (List.mem_of_getElem? (i := 179) rfl)
  · simp only [kJC, List.mem_cons, List.not_mem_nil, or_false] at hx
    rcases hx with rfl
    · exact hw _ (List.mem_of_getElem? (i := 130) rfl)
theorem tabL (hw : WH a0 Z) (mn : String) : Tab Z a0 "LogicBist" "LogicBistL3" mn fsC [] [] kIL kJL := by
  refine ⟨fun x hx => ?_, fun x hx => ?_, fun x hx => ?_, fun x hx => ?_⟩
  · cases hx
  · cases hx
  · simp only [kIL, List.mem_cons, List.not_mem_nil, or_false] at hx
    rcases hx with rfl | rfl | rfl
    · exact hw _ (List.mem_of_getElem? (i := 0) rfl)
    · exact hw _ (List.mem_of_getElem? (i := 1) rfl)
    · exact hw _ (List.mem_of_getElem? (i := 6) rfl)
  · simp [kJL] at hx
theorem lk_L_16 (hw : WH a0 Z) : LkS Z a0 "LogicBistL3" 16 (⟨"LogicBistL3", "step", "(I)I"⟩ : MethodName) method_4_code 2 (some .int) := ⟨hw _ (List.mem_of_getElem? (i := 2) rfl), hw _ (List.mem_of_getElem? (i := 3) rfl), hw _ (List.mem_of_getElem? (i := 5) rfl), hw _ (List.mem_of_getElem? (i := 4) rfl), by unfold notMH; decide⟩
theorem lk_L_22 (hw : WH a0 Z) : LkI Z a0 "LogicBistL3" 22 (⟨"LogicBist", "<init>", "(III)V"⟩ : MethodName) prog_1_method_1_code 4 := ⟨hw _ (List.mem_of_getElem? (i := 10) rfl), hw _ (List.mem_of_getElem? (i := 11) rfl), hw _ (List.mem_of_getElem? (i := 12) rfl), hw _ (List.mem_of_getElem? (i := 9) rfl), by unfold notMH; decide, rfl⟩
theorem lk_C_39 (hw : WH a0 Z) : LkP Z a0 "LogicBist" 39 (⟨"LogicBist", "clamp", "(III)I"⟩ : MethodName) prog_1_method_44_code 4 (some .int) := ⟨hw _ (List.mem_of_getElem? (i := 37) rfl), hw _ (List.mem_of_getElem? (i := 38) rfl), hw _ (List.mem_of_getElem? (i := 40) rfl), hw _ (List.mem_of_getElem? (i := 9) rfl), by unfold notMH; decide, hw _ (List.mem_of_getElem? (i := 39) rfl)⟩
theorem lk_C_69 (hw : WH a0 Z) : LkP Z a0 "LogicBist" 69 (⟨"LogicBist", "clearSession", "()V"⟩ : MethodName) prog_1_method_18_code 2 none := ⟨hw _ (List.mem_of_getElem? (i := 58) rfl), hw _ (List.mem_of_getElem? (i := 59) rfl), hw _ (List.mem_of_getElem? (i := 61) rfl), hw _ (List.mem_of_getElem? (i := 9) rfl), by unfold notMH; decide, hw _ (List.mem_of_getElem? (i := 60) rfl)⟩
theorem lk_C_122 (hw : WH a0 Z) : LkP Z a0 "LogicBist" 122 (⟨"LogicBist", "resetFault", "(I)V"⟩ : MethodName) prog_1_method_19_code 2 none := ⟨hw _ (List.mem_of_getElem? (i := 68) rfl), hw _ (List.mem_of_getElem? (i := 69) rfl), hw _ (List.mem_of_getElem? (i := 71) rfl), hw _ (List.mem_of_getElem? (i := 9) rfl), by unfold notMH; decide, hw _ (List.mem_of_getElem? (i := 70) rfl)⟩
theorem lk_L_25 (hw : WH a0 Z) : LkV Z a0 "LogicBistL3" 25 (⟨"LogicBist", "setSeed", "(I)Z"⟩ : MethodName) prog_1_method_4_code 3 (some .boolean) := ⟨hw _ (List.mem_of_getElem? (i := 72) rfl), hw _ (List.mem_of_getElem? (i := 74) rfl), hw _ (List.mem_of_getElem? (i := 76) rfl), hw _ (List.mem_of_getElem? (i := 9) rfl), by unfold notMH; decide, hw _ (List.mem_of_getElem? (i := 73) rfl), hw _ (List.mem_of_getElem? (i := 75) rfl)⟩
theorem lk_L_29 (hw : WH a0 Z) : LkV Z a0 "LogicBistL3" 29 (⟨"LogicBist", "setMisrMask", "(I)Z"⟩ : MethodName) prog_1_method_5_code 2 (some .boolean) := ⟨hw _ (List.mem_of_getElem? (i := 78) rfl), hw _ (List.mem_of_getElem? (i := 80) rfl), hw _ (List.mem_of_getElem? (i := 82) rfl), hw _ (List.mem_of_getElem? (i := 9) rfl), by unfold notMH; decide, hw _ (List.mem_of_getElem? (i := 79) rfl), hw _ (List.mem_of_getElem? (i := 81) rfl)⟩
theorem lk_L_32 (hw : WH a0 Z) : LkV Z a0 "LogicBistL3" 32 (⟨"LogicBist", "addGate", "(III)I"⟩ : MethodName) prog_1_method_2_code 5 (some .int) := ⟨hw _ (List.mem_of_getElem? (i := 83) rfl), hw _ (List.mem_of_getElem? (i := 85) rfl), hw _ (List.mem_of_getElem? (i := 87) rfl), hw _ (List.mem_of_getElem? (i := 9) rfl), by unfold notMH; decide, hw _ (List.mem_of_getElem? (i := 84) rfl), hw _ (List.mem_of_getElem? (i := 86) rfl)⟩
theorem lk_C_75 (hw : WH a0 Z) : LkP Z a0 "LogicBist" 75 (⟨"LogicBist", "isGateKind", "(I)Z"⟩ : MethodName) prog_1_method_42_code 2 (some .boolean) := ⟨hw _ (List.mem_of_getElem? (i := 88) rfl), hw _ (List.mem_of_getElem? (i := 89) rfl), hw _ (List.mem_of_getElem? (i := 91) rfl), hw _ (List.mem_of_getElem? (i := 9) rfl), by unfold notMH; decide, hw _ (List.mem_of_getElem? (i := 90) rfl)⟩
theorem lk_C_79 (hw : WH a0 Z) : LkP Z a0 "LogicBist" 79 (⟨"LogicBist", "isSignal", "(I)Z"⟩ : MethodName) prog_1_method_40_code 2 (some .boolean) := ⟨hw _ (List.mem_of_getElem? (i := 92) rfl), hw _ (List.mem_of_getElem? (i := 93) rfl), hw _ (List.mem_of_getElem? (i := 95) rfl), hw _ (List.mem_of_getElem? (i := 9) rfl), by unfold notMH; decide, hw _ (List.mem_of_getElem? (i := 94) rfl)⟩
theorem lk_C_146 (hw : WH a0 Z) : LkP Z a0 "LogicBist" 146 (⟨"LogicBist", "signalCount", "()I"⟩ : MethodName) prog_1_method_32_code 1 (some .int) := ⟨hw _ (List.mem_of_getElem? (i := 96) rfl), hw _ (List.mem_of_getElem? (i := 97) rfl), hw _ (List.mem_of_getElem? (i := 99) rfl), hw _ (List.mem_of_getElem? (i := 9) rfl), by unfold notMH; decide, hw _ (List.mem_of_getElem? (i := 98) rfl)⟩
theorem lk_C_82 (hw : WH a0 Z) : LkP Z a0 "LogicBist" 82 (⟨"LogicBist", "isTwoOperand", "(I)Z"⟩ : MethodName) prog_1_method_43_code 2 (some .boolean) := ⟨hw _ (List.mem_of_getElem? (i := 100) rfl), hw _ (List.mem_of_getElem? (i := 101) rfl), hw _ (List.mem_of_getElem? (i := 103) rfl), hw _ (List.mem_of_getElem? (i := 9) rfl), by unfold notMH; decide, hw _ (List.mem_of_getElem? (i := 102) rfl)⟩
theorem lk_C_85 (hw : WH a0 Z) : LkP Z a0 "LogicBist" 85 (⟨"LogicBist", "appendGate", "(III)I"⟩ : MethodName) prog_1_method_20_code 6 (some .int) := ⟨hw _ (List.mem_of_getElem? (i := 104) rfl), hw _ (List.mem_of_getElem? (i := 105) rfl), hw _ (List.mem_of_getElem? (i := 107) rfl), hw _ (List.mem_of_getElem? (i := 9) rfl), by unfold notMH; decide, hw _ (List.mem_of_getElem? (i := 106) rfl)⟩
theorem lk_L_35 (hw : WH a0 Z) : LkV Z a0 "LogicBistL3" 35 (⟨"LogicBist", "markOutput", "(I)Z"⟩ : MethodName) prog_1_method_3_code 2 (some .boolean) := ⟨hw _ (List.mem_of_getElem? (i := 108) rfl), hw _ (List.mem_of_getElem? (i := 110) rfl), hw _ (List.mem_of_getElem? (i := 112) rfl), hw _ (List.mem_of_getElem? (i := 9) rfl), by unfold notMH; decide, hw _ (List.mem_of_getElem? (i := 109) rfl), hw _ (List.mem_of_getElem? (i := 111) rfl)⟩
theorem lk_L_38 (hw : WH a0 Z) : LkV Z a0 "LogicBistL3" 38 (⟨"LogicBist", "run", "(I)I"⟩ : MethodName) prog_1_method_6_code 3 (some .int) := ⟨hw _ (List.mem_of_getElem? (i := 113) rfl), hw _ (List.mem_of_getElem? (i := 115) rfl), hw _ (List.mem_of_getElem? (i := 117) rfl), hw _ (List.mem_of_getElem? (i := 9) rfl), by unfold notMH; decide, hw _ (List.mem_of_getElem? (i := 114) rfl), hw _ (List.mem_of_getElem? (i := 116) rfl)⟩
theorem lk_C_92 (hw : WH a0 Z) : LkP Z a0 "LogicBist" 92 (⟨"LogicBist", "applyPattern", "()V"⟩ : MethodName) prog_1_method_21_code 6 none := ⟨hw _ (List.mem_of_getElem? (i := 118) rfl), hw _ (List.mem_of_getElem? (i := 119) rfl), hw _ (List.mem_of_getElem? (i := 121) rfl), hw _ (List.mem_of_getElem? (i := 9) rfl), by unfold notMH; decide, hw _ (List.mem_of_getElem? (i := 120) rfl)⟩
theorem lk_C_95 (hw : WH a0 Z) : LkP Z a0 "LogicBist" 95 (⟨"LogicBist", "evaluateGroup", "(II)V"⟩ : MethodName) prog_1_method_23_code 7 none := ⟨hw _ (List.mem_of_getElem? (i := 122) rfl), hw _ (List.mem_of_getElem? (i := 123) rfl), hw _ (List.mem_of_getElem? (i := 125) rfl), hw _ (List.mem_of_getElem? (i := 9) rfl), by unfold notMH; decide, hw _ (List.mem_of_getElem? (i := 124) rfl)⟩
theorem lk_C_149 (hw : WH a0 Z) : LkP Z a0 "LogicBist" 149 (⟨"LogicBist", "inputLane", "(II)J"⟩ : MethodName) prog_1_method_24_code 3 (some .long) := ⟨hw _ (List.mem_of_getElem? (i := 126) rfl), hw _ (List.mem_of_getElem? (i := 127) rfl), hw _ (List.mem_of_getElem? (i := 129) rfl), hw _ (List.mem_of_getElem? (i := 9) rfl), by unfold notMH; decide, hw _ (List.mem_of_getElem? (i := 128) rfl)⟩
theorem lk_C_157 (hw : WH a0 Z) : LkP Z a0 "LogicBist" 157 (⟨"LogicBist", "forceLane", "(JII)J"⟩ : MethodName) prog_1_method_27_code 10 (some .long) := ⟨hw _ (List.mem_of_getElem? (i := 131) rfl), hw _ (List.mem_of_getElem? (i := 132) rfl), hw _ (List.mem_of_getElem? (i := 134) rfl), hw _ (List.mem_of_getElem? (i := 9) rfl), by unfold notMH; decide, hw _ (List.mem_of_getElem? (i := 133) rfl)⟩
theorem lk_C_153 (hw : WH a0 Z) : LkP Z a0 "LogicBist" 153 (⟨"LogicBist", "gateLane", "(I)J"⟩ : MethodName) prog_1_method_25_code 7 (some .long) := ⟨hw _ (List.mem_of_getElem? (i := 135) rfl), hw _ (List.mem_of_getElem? (i := 136) rfl), hw _ (List.mem_of_getElem? (i := 138) rfl), hw _ (List.mem_of_getElem? (i := 9) rfl), by unfold notMH; decide, hw _ (List.mem_of_getElem? (i := 137) rfl)⟩
theorem lk_C_163 (hw : WH a0 Z) : LkP Z a0 "LogicBist" 163 (⟨"LogicBist", "loadLane", "(I)J"⟩ : MethodName) prog_1_method_28_code 2 (some .long) := ⟨hw _ (List.mem_of_getElem? (i := 139) rfl), hw _ (List.mem_of_getElem? (i := 140) rfl), hw _ (List.mem_of_getElem? (i := 142) rfl), hw _ (List.mem_of_getElem? (i := 9) rfl), by unfold notMH; decide, hw _ (List.mem_of_getElem? (i := 141) rfl)⟩
theorem lk_C_166 (hw : WH a0 Z) : LkP Z a0 "LogicBist" 166 (⟨"LogicBist", "combine", "(IJJ)J"⟩ : MethodName) prog_1_method_26_code 6 (some .long) := ⟨hw _ (List.mem_of_getElem? (i := 143) rfl), hw _ (List.mem_of_getElem? (i := 144) rfl), hw _ (List.mem_of_getElem? (i := 146) rfl), hw _ (List.mem_of_getElem? (i := 9) rfl), by unfold notMH; decide, hw _ (List.mem_of_getElem? (i := 145) rfl)⟩
theorem lk_C_99 (hw : WH a0 Z) : LkP Z a0 "LogicBist" 99 (⟨"LogicBist", "outputWordAt", "(I)I"⟩ : MethodName) prog_1_method_29_code 6 (some .int) := ⟨hw _ (List.mem_of_getElem? (i := 147) rfl), hw _ (List.mem_of_getElem? (i := 148) rfl), hw _ (List.mem_of_getElem? (i := 150) rfl), hw _ (List.mem_of_getElem? (i := 9) rfl), by unfold notMH; decide, hw _ (List.mem_of_getElem? (i := 149) rfl)⟩
theorem lk_C_126 (hw : WH a0 Z) : LkP Z a0 "LogicBist" 126 (⟨"LogicBist", "misrStep", "(II)I"⟩ : MethodName) prog_1_method_30_code 6 (some .int) := ⟨hw _ (List.mem_of_getElem? (i := 151) rfl), hw _ (List.mem_of_getElem? (i := 152) rfl), hw _ (List.mem_of_getElem? (i := 154) rfl), hw _ (List.mem_of_getElem? (i := 9) rfl), by unfold notMH; decide, hw _ (List.mem_of_getElem? (i := 153) rfl)⟩
theorem lk_C_130 (hw : WH a0 Z) : LkP Z a0 "LogicBist" 130 (⟨"LogicBist", "groupCount", "()I"⟩ : MethodName) prog_1_method_34_code 1 (some .int) := ⟨hw _ (List.mem_of_getElem? (i := 155) rfl), hw _ (List.mem_of_getElem? (i := 156) rfl), hw _ (List.mem_of_getElem? (i := 158) rfl), hw _ (List.mem_of_getElem? (i := 9) rfl), by unfold notMH; decide, hw _ (List.mem_of_getElem? (i := 157) rfl)⟩
theorem lk_C_118 (hw : WH a0 Z) : LkP Z a0 "LogicBist" 118 (⟨"LogicBist", "faultCount", "()I"⟩ : MethodName) prog_1_method_33_code 1 (some .int) := ⟨hw _ (List.mem_of_getElem? (i := 159) rfl), hw _ (List.mem_of_getElem? (i := 160) rfl), hw _ (List.mem_of_getElem? (i := 162) rfl), hw _ (List.mem_of_getElem? (i := 9) rfl), by unfold notMH; decide, hw _ (List.mem_of_getElem? (i := 161) rfl)⟩
theorem lk_C_133 (hw : WH a0 Z) : LkP Z a0 "LogicBist" 133 (⟨"LogicBist", "recordGroup", "(III)V"⟩ : MethodName) prog_1_method_22_code 8 none := ⟨hw _ (List.mem_of_getElem? (i := 163) rfl), hw _ (List.mem_of_getElem? (i := 164) rfl), hw _ (List.mem_of_getElem? (i := 166) rfl), hw _ (List.mem_of_getElem? (i := 9) rfl), by unfold notMH; decide, hw _ (List.mem_of_getElem? (i := 165) rfl)⟩
theorem lk_C_140 (hw : WH a0 Z) : LkP Z a0 "LogicBist" 140 (⟨"LogicBist", "groupFirst", "(I)I"⟩ : MethodName) prog_1_method_35_code 2 (some .int) := ⟨hw _ (List.mem_of_getElem? (i := 167) rfl), hw _ (List.mem_of_getElem? (i := 168) rfl), hw _ (List.mem_of_getElem? (i := 170) rfl), hw _ (List.mem_of_getElem? (i := 9) rfl), by unfold notMH; decide, hw _ (List.mem_of_getElem? (i := 169) rfl)⟩
theorem lk_C_143 (hw : WH a0 Z) : LkP Z a0 "LogicBist" 143 (⟨"LogicBist", "groupEnd", "(I)I"⟩ : MethodName) prog_1_method_36_code 4 (some .int) := ⟨hw _ (List.mem_of_getElem? (i := 171) rfl), hw _ (List.mem_of_getElem? (i := 172) rfl), hw _ (List.mem_of_getElem? (i := 174) rfl), hw _ (List.mem_of_getElem? (i := 9) rfl), by unfold notMH; decide, hw _ (List.mem_of_getElem? (i := 173) rfl)⟩
theorem lk_C_137 (hw : WH a0 Z) : LkP Z a0 "LogicBist" 137 (⟨"LogicBist", "lfsrStep", "(I)I"⟩ : MethodName) prog_1_method_31_code 4 (some .int) := ⟨hw _ (List.mem_of_getElem? (i := 175) rfl), hw _ (List.mem_of_getElem? (i := 176) rfl), hw _ (List.mem_of_getElem? (i := 178) rfl), hw _ (List.mem_of_getElem? (i := 9) rfl), by unfold notMH; decide, hw _ (List.mem_of_getElem? (i := 177) rfl)⟩
theorem lk_L_41 (hw : WH a0 Z) : LkV Z a0 "LogicBistL3" 41 (⟨"LogicBist", "getPatternCount", "()I"⟩ : MethodName) prog_1_method_9_code 1 (some .int) := ⟨hw _ (List.mem_of_getElem? (i := 180) rfl), hw _ (List.mem_of_getElem? (i := 182) rfl), hw _ (List.mem_of_getElem? (i := 184) rfl), hw _ (List.mem_of_getElem? (i := 9) rfl), by unfold notMH; decide, hw _ (List.mem_of_getElem? (i := 181) rfl), hw _ (List.mem_of_getElem? (i := 183) rfl)⟩
theorem lk_L_45 (hw : WH a0 Z) : LkV Z a0 "LogicBistL3" 45 (⟨"LogicBist", "getLfsrState", "()I"⟩ : MethodName) prog_1_method_10_code 1 (some .int) := ⟨hw _ (List.mem_of_getElem? (i := 185) rfl), hw _ (List.mem_of_getElem? (i := 187) rfl), hw _ (List.mem_of_getElem? (i := 189) rfl), hw _ (List.mem_of_getElem? (i := 9) rfl), by unfold notMH; decide, hw _ (List.mem_of_getElem? (i := 186) rfl), hw _ (List.mem_of_getElem? (i := 188) rfl)⟩
theorem lk_L_48 (hw : WH a0 Z) : LkS Z a0 "LogicBistL3" 48 (⟨"LogicBistL3", "out", "(III)I"⟩ : MethodName) method_3_code 5 (some .int) := ⟨hw _ (List.mem_of_getElem? (i := 190) rfl), hw _ (List.mem_of_getElem? (i := 191) rfl), hw _ (List.mem_of_getElem? (i := 192) rfl), hw _ (List.mem_of_getElem? (i := 4) rfl), by unfold notMH; decide⟩
theorem lk_L_7 (hw : WH a0 Z) : LkS Z a0 "LogicBistL3" 7 (⟨"LogicBistL3", "gate", "(III)I"⟩ : MethodName) method_2_code 3 (some .int) := ⟨hw _ (List.mem_of_getElem? (i := 193) rfl), hw _ (List.mem_of_getElem? (i := 194) rfl), hw _ (List.mem_of_getElem? (i := 195) rfl), hw _ (List.mem_of_getElem? (i := 4) rfl), by unfold notMH; decide⟩
theorem lk_L_51 (hw : WH a0 Z) : LkV Z a0 "LogicBistL3" 51 (⟨"LogicBist", "getGoldenSignature", "()I"⟩ : MethodName) prog_1_method_11_code 1 (some .int) := ⟨hw _ (List.mem_of_getElem? (i := 196) rfl), hw _ (List.mem_of_getElem? (i := 198) rfl), hw _ (List.mem_of_getElem? (i := 200) rfl), hw _ (List.mem_of_getElem? (i := 9) rfl), by unfold notMH; decide, hw _ (List.mem_of_getElem? (i := 197) rfl), hw _ (List.mem_of_getElem? (i := 199) rfl)⟩
theorem lk_L_54 (hw : WH a0 Z) : LkV Z a0 "LogicBistL3" 54 (⟨"LogicBist", "getFaultSignature", "(I)I"⟩ : MethodName) prog_1_method_12_code 2 (some .int) := ⟨hw _ (List.mem_of_getElem? (i := 201) rfl), hw _ (List.mem_of_getElem? (i := 203) rfl), hw _ (List.mem_of_getElem? (i := 205) rfl), hw _ (List.mem_of_getElem? (i := 9) rfl), by unfold notMH; decide, hw _ (List.mem_of_getElem? (i := 202) rfl), hw _ (List.mem_of_getElem? (i := 204) rfl)⟩
theorem lk_C_103 (hw : WH a0 Z) : LkP Z a0 "LogicBist" 103 (⟨"LogicBist", "isFault", "(I)Z"⟩ : MethodName) prog_1_method_41_code 2 (some .boolean) := ⟨hw _ (List.mem_of_getElem? (i := 206) rfl), hw _ (List.mem_of_getElem? (i := 207) rfl), hw _ (List.mem_of_getElem? (i := 209) rfl), hw _ (List.mem_of_getElem? (i := 9) rfl), by unfold notMH; decide, hw _ (List.mem_of_getElem? (i := 208) rfl)⟩
theorem lk_L_57 (hw : WH a0 Z) : LkV Z a0 "LogicBistL3" 57 (⟨"LogicBist", "getFirstDetect", "(I)I"⟩ : MethodName) prog_1_method_13_code 2 (some .int) := ⟨hw _ (List.mem_of_getElem? (i := 210) rfl), hw _ (List.mem_of_getElem? (i := 212) rfl), hw _ (List.mem_of_getElem? (i := 214) rfl), hw _ (List.mem_of_getElem? (i := 9) rfl), by unfold notMH; decide, hw _ (List.mem_of_getElem? (i := 211) rfl), hw _ (List.mem_of_getElem? (i := 213) rfl)⟩
theorem lk_C_115 (hw : WH a0 Z) : LkP Z a0 "LogicBist" 115 (⟨"LogicBist", "firstDetectOf", "(I)I"⟩ : MethodName) prog_1_method_39_code 2 (some .int) := ⟨hw _ (List.mem_of_getElem? (i := 215) rfl), hw _ (List.mem_of_getElem? (i := 216) rfl), hw _ (List.mem_of_getElem? (i := 218) rfl), hw _ (List.mem_of_getElem? (i := 9) rfl), by unfold notMH; decide, hw _ (List.mem_of_getElem? (i := 217) rfl)⟩
theorem lk_L_60 (hw : WH a0 Z) : LkV Z a0 "LogicBistL3" 60 (⟨"LogicBist", "isAliased", "(I)Z"⟩ : MethodName) prog_1_method_14_code 2 (some .boolean) := ⟨hw _ (List.mem_of_getElem? (i := 219) rfl), hw _ (List.mem_of_getElem? (i := 221) rfl), hw _ (List.mem_of_getElem? (i := 223) rfl), hw _ (List.mem_of_getElem? (i := 9) rfl), by unfold notMH; decide, hw _ (List.mem_of_getElem? (i := 220) rfl), hw _ (List.mem_of_getElem? (i := 222) rfl)⟩
theorem lk_L_63 (hw : WH a0 Z) : LkV Z a0 "LogicBistL3" 63 (⟨"LogicBist", "getDetectedCount", "()I"⟩ : MethodName) prog_1_method_15_code 4 (some .int) := ⟨hw _ (List.mem_of_getElem? (i := 224) rfl), hw _ (List.mem_of_getElem? (i := 226) rfl), hw _ (List.mem_of_getElem? (i := 228) rfl), hw _ (List.mem_of_getElem? (i := 9) rfl), by unfold notMH; decide, hw _ (List.mem_of_getElem? (i := 225) rfl), hw _ (List.mem_of_getElem? (i := 227) rfl)⟩
theorem lk_L_66 (hw : WH a0 Z) : LkV Z a0 "LogicBistL3" 66 (⟨"LogicBist", "coverageAt", "(I)I"⟩ : MethodName) prog_1_method_16_code 6 (some .int) := ⟨hw _ (List.mem_of_getElem? (i := 229) rfl), hw _ (List.mem_of_getElem? (i := 231) rfl), hw _ (List.mem_of_getElem? (i := 233) rfl), hw _ (List.mem_of_getElem? (i := 9) rfl), by unfold notMH; decide, hw _ (List.mem_of_getElem? (i := 230) rfl), hw _ (List.mem_of_getElem? (i := 232) rfl)⟩
theorem lk_L_69 (hw : WH a0 Z) : LkV Z a0 "LogicBistL3" 69 (⟨"LogicBist", "getFaultCount", "()I"⟩ : MethodName) prog_1_method_17_code 1 (some .int) := ⟨hw _ (List.mem_of_getElem? (i := 234) rfl), hw _ (List.mem_of_getElem? (i := 236) rfl), hw _ (List.mem_of_getElem? (i := 238) rfl), hw _ (List.mem_of_getElem? (i := 9) rfl), by unfold notMH; decide, hw _ (List.mem_of_getElem? (i := 235) rfl), hw _ (List.mem_of_getElem? (i := 237) rfl)⟩
end Words
section Walk
variable {p : Program} {l : Launch} {e : Env} {s : State} {m : MethodId} {args : Array Value} {below : List Frame} {meth : Method} {c : Code} {Z : State} {a0 : Array Value} {n0 : Nat} {h0 : Heap} {A A0 : Nat → Addr} {w w0 : Nat → Option CD} {sn : Nat} {sf : Nat → Int32}
abbrev rm_q_step : Room := { frames := 0, cells := 0, slots := 0, locals := 0 }
def q_step (x0 : Int32) (σ : Sg) : Option (Int32 × Sg) :=
  if (x0 &&& (1 : Int32)) = (1 : Int32) then (some ((XT.ushr x0 (1 : Int32)) ^^^ (46080 : Int32), σ)) else (some (XT.ushr x0 (1 : Int32), σ))
set_option maxRecDepth 65536 in
set_option maxHeartbeats 4000000 in
theorem ok_q_step (hw : WH a0 Z) (x0 : Int32) (σ : Sg) : ∀ x, q_step x0 σ = some x → Con l Z "LogicBist" fsC (⟨"LogicBistL3", "step", "(I)I"⟩ : MethodName) method_4_code 2 (some .int) rm_q_step w [.int x0] σ (fI x).1 (fI x).2 := by
  refine am_con pnL ?_
  intro p e s m below meth c A n0 h0 hc
  have hT := tabL hw "step"
  have hF := fsokC hw
  have wi := wiC hw
  unfold q_step
  refine am_blk (pc' := 10) (Ls' := [.val (.int (XT.ushr x0 (1 : Int32))), .val (.int (x0 &&& (1 : Int32)))]) (St' := [.int (1 : Int32), .int (x0 &&& (1 : Int32))]) (σ' := σ) [.iload_n 0, .iconst 1, .iand, .istore_n 1, .iload_n 0, .iconst 1, .iushr, .istore_n 0, .iload_n 1, .iconst 1] (by decide +kernel) hc hT hF wi (by exact rfl) ?_
  refine am_icmp_ne (o := 8) (pc1 := 18) (by decide +kernel) hc (fun hq => ?_) (fun hq => ?_)
  · refine am_blk (pc' := 19) (Ls' := [.val (.int ((XT.ushr x0 (1 : Int32)) ^^^ (46080 : Int32))), .val (.int (x0 &&& (1 : Int32)))]) (St' := [.int ((XT.ushr x0 (1 : Int32)) ^^^ (46080 : Int32))]) (σ' := σ) [.iload_n 0, .ldc 13, .ixor, .istore_n 0, .iload_n 0] (by decide +kernel) hc hT hF wi (by exact rfl) ?_
    exact am_retI (by decide +kernel) hc (by decide) (by decide) (fun h W O => ⟨rfl, W, O⟩)
  · refine am_blk (pc' := 19) (Ls' := [.val (.int (XT.ushr x0 (1 : Int32))), .val (.int (x0 &&& (1 : Int32)))]) (St' := [.int (XT.ushr x0 (1 : Int32))]) (σ' := σ) [.iload_n 0] (by decide +kernel) hc hT hF wi (by exact rfl) ?_
    exact am_retI (by decide +kernel) hc (by decide) (by decide) (fun h W O => ⟨rfl, W, O⟩)
abbrev rm_c_clamp : Room := { frames := 0, cells := 0, slots := 0, locals := 0 }
def c_clamp (x1 : Int32) (x2 : Int32) (x3 : Int32) (σ : Sg) : Option (Int32 × Sg) :=
  if x1 < x2 then (some (x2, σ)) else (if x3 < x1 then (some (x3, σ)) else (some (x1, σ)))
set_option maxRecDepth 65536 in
set_option maxHeartbeats 4000000 in
theorem ok_c_clamp (hw : WH a0 Z) (x1 : Int32) (x2 : Int32) (x3 : Int32) (σ : Sg) : ∀ x, c_clamp x1 x2 x3 σ = some x → Con l Z "LogicBist" fsC (⟨"LogicBist", "clamp", "(III)I"⟩ : MethodName) prog_1_method_44_code 4 (some .int) rm_c_clamp wC [.ref 0, .int x1, .int x2, .int x3] σ (fI x).1 (fI x).2 := by
  refine am_con pnC ?_
  intro p e s m below meth c A n0 h0 hc
  have hT := tabC hw "clamp"
  have hF := fsokC hw
  have wi := wiC hw
  unfold c_clamp
  refine am_blk (pc' := 2) (Ls' := [.val (.ref 0), .val (.int x1), .val (.int x2), .val (.int x3)]) (St' := [.int x2, .int x1]) (σ' := σ) [.iload_n 1, .iload_n 2] (by decide +kernel) hc hT hF wi (by exact rfl) ?_
  refine am_icmp_ge (o := 5) (pc1 := 7) (by decide +kernel) hc (fun hq => ?_) (fun hq => ?_)
  · refine am_blk (pc' := 6) (Ls' := [.val (.ref 0), .val (.int x1), .val (.int x2), .val (.int x3)]) (St' := [.int x2]) (σ' := σ) [.iload_n 2] (by decide +kernel) hc hT hF wi (by exact rfl) ?_
    exact am_retI (by decide +kernel) hc (by decide) (by decide) (fun h W O => ⟨rfl, W, O⟩)
  · refine am_blk (pc' := 9) (Ls' := [.val (.ref 0), .val (.int x1), .val (.int x2), .val (.int x3)]) (St' := [.int x3, .int x1]) (σ' := σ) [.iload_n 1, .iload_n 3] (by decide +kernel) hc hT hF wi (by exact rfl) ?_
    refine am_icmp_le (o := 5) (pc1 := 14) (by decide +kernel) hc (fun hq => ?_) (fun hq => ?_)
    · refine am_blk (pc' := 13) (Ls' := [.val (.ref 0), .val (.int x1), .val (.int x2), .val (.int x3)]) (St' := [.int x3]) (σ' := σ) [.iload_n 3] (by decide +kernel) hc hT hF wi (by exact rfl) ?_
      exact am_retI (by decide +kernel) hc (by decide) (by decide) (fun h W O => ⟨rfl, W, O⟩)
    · refine am_blk (pc' := 15) (Ls' := [.val (.ref 0), .val (.int x1), .val (.int x2), .val (.int x3)]) (St' := [.int x1]) (σ' := σ) [.iload_n 1] (by decide +kernel) hc hT hF wi (by exact rfl) ?_
      exact am_retI (by decide +kernel) hc (by decide) (by decide) (fun h W O => ⟨rfl, W, O⟩)
abbrev rm_c_resetFault : Room := { frames := 0, cells := 0, slots := 0, locals := 0 }
def c_resetFault (x1 : Int32) (σ : Sg) : Option Sg :=
  if x1 < 0 then (some σ) else (if x1 < (80 : Int32) then (if inb x1 80 = true then (some (si (si (si σ 6 (nx x1) (0 : Int32)) 7 (nx x1) (-1 : Int32)) 8 (nx x1) (0 : Int32))) else none) else (some σ))
set_option maxRecDepth 65536 in
set_option maxHeartbeats 4000000 in
theorem ok_c_resetFault (hw : WH a0 Z) (x1 : Int32) (σ : Sg) : ∀ x, c_resetFault x1 σ = some x → Con l Z "LogicBist" fsC (⟨"LogicBist", "resetFault", "(I)V"⟩ : MethodName) prog_1_method_19_code 2 none rm_c_resetFault wC [.ref 0, .int x1] σ (fV x).1 (fV x).2 := by
  refine am_con pnC ?_
  intro p e s m below meth c A n0 h0 hc
  have hT := tabC hw "resetFault"
  have hF := fsokC hw
  have wi := wiC hw
  unfold c_resetFault
  refine am_blk (pc' := 1) (Ls' := [.val (.ref 0), .val (.int x1)]) (St' := [.int x1]) (σ' := σ) [.iload_n 1] (by decide +kernel) hc hT hF wi (by exact rfl) ?_
  refine am_if_lt (o := 9) (pc1 := 10) (by decide +kernel) hc (fun hq => ?_) (fun hq => ?_)
  · exact am_retV (by decide +kernel) hc (by decide) (by decide) (fun h W O => ⟨rfl, W, O⟩)
  · refine am_blk (pc' := 7) (Ls' := [.val (.ref 0), .val (.int x1)]) (St' := [.int (80 : Int32), .int x1]) (σ' := σ) [.iload_n 1, .bipush 80] (by decide +kernel) hc hT hF wi (by exact rfl) ?_
    refine am_icmp_lt (o := 4) (pc1 := 11) (by decide +kernel) hc (fun hq => ?_) (fun hq => ?_)
    · refine am_blk (pc' := 17) (Ls' := [.val (.ref 0), .val (.int x1)]) (St' := [.int (0 : Int32), .int x1, .ref 6]) (σ' := σ) [.aload_n 0, .getfield 26, .iload_n 1, .iconst 0] (by decide +kernel) hc hT hF wi (by exact rfl) ?_
      refine am_iastore (y := (0 : Int32)) rfl (by decide +kernel) hc rfl (fun hb0 => ?_)
      refine am_blk (pc' := 24) (Ls' := [.val (.ref 0), .val (.int x1)]) (St' := [.int (-1 : Int32), .int x1, .ref 7]) (σ' := si σ 6 (nx x1) (0 : Int32)) [.aload_n 0, .getfield 29, .iload_n 1, .iconst (-1)] (by decide +kernel) hc hT hF wi (by exact rfl) ?_
      refine am_iastore_k hb0 (y := (-1 : Int32)) rfl (by decide +kernel) hc rfl ?_
      refine am_blk (pc' := 31) (Ls' := [.val (.ref 0), .val (.int x1)]) (St' := [.int (0 : Int32), .int x1, .ref 8]) (σ' := si (si σ 6 (nx x1) (0 : Int32)) 7 (nx x1) (-1 : Int32)) [.aload_n 0, .getfield 32, .iload_n 1, .iconst 0] (by decide +kernel) hc hT hF wi (by exact rfl) ?_
      refine am_bastoreZ_k hb0 (y := (0 : Int32)) rfl (by decide +kernel) hc rfl ?_
      exact am_retV (by decide +kernel) hc (by decide) (by decide) (fun h W O => ⟨rfl, W, O⟩)
    · exact am_retV (by decide +kernel) hc (by decide) (by decide) (fun h W O => ⟨rfl, W, O⟩)
abbrev rm_c_clearSession : Room := { frames := 1, cells := 0, slots := 0, locals := 13 }
def c_clearSession_20 : Nat → Int32 → Sg → Option Sg
  | 0, _, _ => none
  | fuel + 1, x1, σ =>
    if x1 < (80 : Int32) then ((c_resetFault x1 σ).bind fun r1 => c_clearSession_20 fuel (x1 + (1 : Int32)) r1) else (some σ)
set_option maxRecDepth 65536 in
set_option maxHeartbeats 4000000 in
theorem okc_c_clearSession_20 (hw : WH a0 Z) (hc : Cx p s m meth c Z "LogicBist" prog_1_method_18_code 2 none "clearSession") : ∀ (fuel : Nat) (x1 : Int32) (σ : Sg), OkR p l e rm_c_clearSession s m args below meth c Z "LogicBist" fsC n0 h0 (FM Z "LogicBist" fsC A wC h0 fV) A wC 0 0 20 [.val (.ref 0), .val (.int x1)] [] σ (c_clearSession_20 fuel x1 σ) := by
  have hT := tabC hw "clearSession"
  have hF := fsokC hw
  have wi := wiC hw
  intro fuel
  induction fuel with
  | zero => intro x1 σ; exact am_none rfl
  | succ fuel ih =>
    intro x1 σ
    rw [c_clearSession_20]
    refine am_blk (pc' := 23) (Ls' := [.val (.ref 0), .val (.int x1)]) (St' := [.int (80 : Int32), .int x1]) (σ' := σ) [.iload_n 1, .bipush 80] (by decide +kernel) hc hT hF wi (by exact rfl) ?_
    refine am_icmp_ge (o := 14) (pc1 := 37) (by decide +kernel) hc (fun hq => ?_) (fun hq => ?_)
    · refine am_blk (pc' := 28) (Ls' := [.val (.ref 0), .val (.int x1)]) (St' := [.int x1, .ref 0]) (σ' := σ) [.aload_n 0, .iload_n 1] (by decide +kernel) hc hT hF wi (by exact rfl) ?_
      refine am_callP_V (W0 := 0) (argsL := [.int x1]) (rest := []) rfl (lk_C_122 hw) rfl wi (by decide +kernel) hc (SubW.refl _) rfl (by show arity "(I)V" 1 = true; decide +kernel) (ok_c_resetFault hw x1 _) rfl ⟨by decide, by decide, Nat.le_of_eq rfl, rfl, rfl, by decide, by decide⟩ (fun r1 hr => ?_)
      refine am_blk (pc' := 20) (Ls' := [.val (.ref 0), .val (.int (x1 + (1 : Int32)))]) (St' := []) (σ' := r1) [.iinc 1 1, .goto (-14)] (by decide +kernel) hc hT hF wi (by exact rfl) ?_
      exact am_wk (Ls' := [.val (.ref 0), .val (.int (x1 + (1 : Int32)))]) (by simp [wkL]) (ih (x1 + (1 : Int32)) r1)
    · exact am_retV (by decide +kernel) hc (by decide) (by decide) (fun h W O => ⟨rfl, W, O⟩)
def c_clearSession (σ : Sg) : Option Sg :=
  c_clearSession_20 400 (0 : Int32) (si (si (si σ 0 17 (0 : Int32)) 0 18 (gi σ 0 15)) 0 19 (0 : Int32))
set_option maxRecDepth 65536 in
set_option maxHeartbeats 4000000 in
theorem ok_c_clearSession (hw : WH a0 Z) (σ : Sg) : ∀ x, c_clearSession σ = some x → Con l Z "LogicBist" fsC (⟨"LogicBist", "clearSession", "()V"⟩ : MethodName) prog_1_method_18_code 2 none rm_c_clearSession wC [.ref 0] σ (fV x).1 (fV x).2 := by
  refine am_con pnC ?_
  intro p e s m below meth c A n0 h0 hc
  have hT := tabC hw "clearSession"
  have hF := fsokC hw
  have wi := wiC hw
  unfold c_clearSession
  refine am_blk (pc' := 20) (Ls' := [.val (.ref 0), .val (.int (0 : Int32))]) (St' := []) (σ' := si (si (si σ 0 17 (0 : Int32)) 0 18 (gi σ 0 15)) 0 19 (0 : Int32)) [.aload_n 0, .iconst 0, .putfield 72, .aload_n 0, .aload_n 0, .getfield 63, .putfield 89, .aload_n 0, .iconst 0, .putfield 112, .iconst 0, .istore_n 1] (by decide +kernel) hc hT hF wi (by exact rfl) ?_
  exact am_wk (Ls' := [.val (.ref 0), .val (.int (0 : Int32))]) (by simp [wkL]) (okc_c_clearSession_20 hw hc 400 (0 : Int32) (si (si (si σ 0 17 (0 : Int32)) 0 18 (gi σ 0 15)) 0 19 (0 : Int32)))
abbrev rm_c_init : Room := { frames := 2, cells := 9, slots := 424, locals := 26 }
def c_init (x1 : Int32) (x2 : Int32) (x3 : Int32) : Option Sg :=
  (c_clamp x1 (1 : Int32) (8 : Int32) zs).bind fun r1 => (c_clamp x2 (8 : Int32) (32 : Int32) (si r1.2 0 9 r1.1)).bind fun r2 => (c_clamp x3 (1 : Int32) (16 : Int32) (si r2.2 0 10 r2.1)).bind fun r3 => (c_clearSession (si (si (si (si (si (si r3.2 0 11 r3.1) 0 12 (((1 : Int32) <<< (r3.1 &&& 31)) - (1 : Int32))) 0 13 (0 : Int32)) 0 14 (0 : Int32)) 0 15 (44257 : Int32)) 0 16 (((1 : Int32) <<< (r3.1 &&& 31)) - (1 : Int32)))).bind fun r4 => some r4
set_option maxRecDepth 65536 in
set_option maxHeartbeats 4000000 in
theorem ok_c_init (hw : WH a0 Z) (x1 : Int32) (x2 : Int32) (x3 : Int32) : ∀ x, c_init x1 x2 x3 = some x → ConI l Z "LogicBist" fsC arrsC (⟨"LogicBist", "<init>", "(III)V"⟩ : MethodName) prog_1_method_1_code 4 rm_c_init [.int x1, .int x2, .int x3] x := by
  refine am_conI pnC ?_
  intro p e s m below meth c A n0 h0 hn hc
  have hAE0 : AE h0 A A 0 := ⟨rfl, fun k q1 q2 => by omega⟩
  have hT := tabI hw
  have hF := fsokC hw
  have wi := wiC hw
  unfold c_init
  refine am_blk (pc' := 1) (Ls' := [.val (.ref 0), .val (.int x1), .val (.int x2), .val (.int x3)]) (St' := [.ref 0]) (σ' := zs) [.aload_n 0] (by decide +kernel) hc hT hF wi (by exact rfl) ?_
  refine am_objinit (W0 := 0) (by decide +kernel) hc (hw _ (List.mem_of_getElem? (i := 13) rfl)) (hw _ (List.mem_of_getElem? (i := 14) rfl)) (hw _ (List.mem_of_getElem? (i := 15) rfl)) rfl ⟨by decide, by decide, Nat.le_of_eq rfl⟩ ?_
  refine am_blk (pc' := 7) (Ls' := [.val (.ref 0), .val (.int x1), .val (.int x2), .val (.int x3)]) (St' := [.int (32 : Int32), .ref 0]) (σ' := zs) [.aload_n 0, .bipush 32] (by decide +kernel) hc hT hF wi (by exact rfl) ?_
  refine am_newarr (a := 0) (n := 32) (aty := .int) (by decide +kernel) hc (hw _ (List.mem_of_getElem? (i := 16) rfl)) rfl (by decide) rfl ⟨rfl, rfl⟩ hAE0 hn ⟨by decide, by decide, by decide⟩ (fun A hAE1 => ?_)
  refine am_putref (a := 0) (j := 0) (by decide +kernel) hc hF wi rfl (by decide) (hw _ (List.mem_of_getElem? (i := 17) rfl)) (Or.inr ⟨(hw _ (List.mem_of_getElem? (i := 18) rfl)), rfl, rfl⟩) ?_
  refine am_blk (pc' := 15) (Ls' := [.val (.ref 0), .val (.int x1), .val (.int x2), .val (.int x3)]) (St' := [.int (32 : Int32), .ref 0]) (σ' := zs) [.aload_n 0, .bipush 32] (by decide +kernel) hc hT hF wi (by exact rfl) ?_
  refine am_newarr (a := 1) (n := 32) (aty := .int) (by decide +kernel) hc (hw _ (List.mem_of_getElem? (i := 16) rfl)) rfl (by decide) rfl ⟨rfl, rfl⟩ hAE1 hn ⟨by decide, by decide, by decide⟩ (fun A hAE2 => ?_)
  refine am_putref (a := 1) (j := 1) (by decide +kernel) hc hF wi rfl (by decide) (hw _ (List.mem_of_getElem? (i := 19) rfl)) (Or.inr ⟨(hw _ (List.mem_of_getElem? (i := 20) rfl)), rfl, rfl⟩) ?_
  refine am_blk (pc' := 23) (Ls' := [.val (.ref 0), .val (.int x1), .val (.int x2), .val (.int x3)]) (St' := [.int (32 : Int32), .ref 0]) (σ' := zs) [.aload_n 0, .bipush 32] (by decide +kernel) hc hT hF wi (by exact rfl) ?_
  refine am_newarr (a := 2) (n := 32) (aty := .int) (by decide +kernel) hc (hw _ (List.mem_of_getElem? (i := 16) rfl)) rfl (by decide) rfl ⟨rfl, rfl⟩ hAE2 hn ⟨by decide, by decide, by decide⟩ (fun A hAE3 => ?_)
  refine am_putref (a := 2) (j := 2) (by decide +kernel) hc hF wi rfl (by decide) (hw _ (List.mem_of_getElem? (i := 21) rfl)) (Or.inr ⟨(hw _ (List.mem_of_getElem? (i := 22) rfl)), rfl, rfl⟩) ?_
  refine am_blk (pc' := 31) (Ls' := [.val (.ref 0), .val (.int x1), .val (.int x2), .val (.int x3)]) (St' := [.int (8 : Int32), .ref 0]) (σ' := zs) [.aload_n 0, .bipush 8] (by decide +kernel) hc hT hF wi (by exact rfl) ?_
  refine am_newarr (a := 3) (n := 8) (aty := .int) (by decide +kernel) hc (hw _ (List.mem_of_getElem? (i := 16) rfl)) rfl (by decide) rfl ⟨rfl, rfl⟩ hAE3 hn ⟨by decide, by decide, by decide⟩ (fun A hAE4 => ?_)
  refine am_putref (a := 3) (j := 3) (by decide +kernel) hc hF wi rfl (by decide) (hw _ (List.mem_of_getElem? (i := 23) rfl)) (Or.inr ⟨(hw _ (List.mem_of_getElem? (i := 24) rfl)), rfl, rfl⟩) ?_
  refine am_blk (pc' := 39) (Ls' := [.val (.ref 0), .val (.int x1), .val (.int x2), .val (.int x3)]) (St' := [.int (40 : Int32), .ref 0]) (σ' := zs) [.aload_n 0, .bipush 40] (by decide +kernel) hc hT hF wi (by exact rfl) ?_
  refine am_newarr (a := 4) (n := 40) (aty := .boolean) (by decide +kernel) hc (hw _ (List.mem_of_getElem? (i := 25) rfl)) rfl (by decide) rfl ⟨rfl, rfl⟩ hAE4 hn ⟨by decide, by decide, by decide⟩ (fun A hAE5 => ?_)
  refine am_putref (a := 4) (j := 4) (by decide +kernel) hc hF wi rfl (by decide) (hw _ (List.mem_of_getElem? (i := 26) rfl)) (Or.inr ⟨(hw _ (List.mem_of_getElem? (i := 27) rfl)), rfl, rfl⟩) ?_
  refine am_blk (pc' := 47) (Ls' := [.val (.ref 0), .val (.int x1), .val (.int x2), .val (.int x3)]) (St' := [.int (80 : Int32), .ref 0]) (σ' := zs) [.aload_n 0, .bipush 80] (by decide +kernel) hc hT hF wi (by exact rfl) ?_
  refine am_newarr (a := 5) (n := 80) (aty := .int) (by decide +kernel) hc (hw _ (List.mem_of_getElem? (i := 16) rfl)) rfl (by decide) rfl ⟨rfl, rfl⟩ hAE5 hn ⟨by decide, by decide, by decide⟩ (fun A hAE6 => ?_)
  refine am_putref (a := 5) (j := 5) (by decide +kernel) hc hF wi rfl (by decide) (hw _ (List.mem_of_getElem? (i := 28) rfl)) (Or.inr ⟨(hw _ (List.mem_of_getElem? (i := 29) rfl)), rfl, rfl⟩) ?_
  refine am_blk (pc' := 55) (Ls' := [.val (.ref 0), .val (.int x1), .val (.int x2), .val (.int x3)]) (St' := [.int (80 : Int32), .ref 0]) (σ' := zs) [.aload_n 0, .bipush 80] (by decide +kernel) hc hT hF wi (by exact rfl) ?_
  refine am_newarr (a := 6) (n := 80) (aty := .int) (by decide +kernel) hc (hw _ (List.mem_of_getElem? (i := 16) rfl)) rfl (by decide) rfl ⟨rfl, rfl⟩ hAE6 hn ⟨by decide, by decide, by decide⟩ (fun A hAE7 => ?_)
  refine am_putref (a := 6) (j := 6) (by decide +kernel) hc hF wi rfl (by decide) (hw _ (List.mem_of_getElem? (i := 30) rfl)) (Or.inr ⟨(hw _ (List.mem_of_getElem? (i := 31) rfl)), rfl, rfl⟩) ?_
  refine am_blk (pc' := 63) (Ls' := [.val (.ref 0), .val (.int x1), .val (.int x2), .val (.int x3)]) (St' := [.int (80 : Int32), .ref 0]) (σ' := zs) [.aload_n 0, .bipush 80] (by decide +kernel) hc hT hF wi (by exact rfl) ?_
  refine am_newarr (a := 7) (n := 80) (aty := .boolean) (by decide +kernel) hc (hw _ (List.mem_of_getElem? (i := 25) rfl)) rfl (by decide) rfl ⟨rfl, rfl⟩ hAE7 hn ⟨by decide, by decide, by decide⟩ (fun A hAE8 => ?_)
  refine am_putref (a := 7) (j := 7) (by decide +kernel) hc hF wi rfl (by decide) (hw _ (List.mem_of_getElem? (i := 32) rfl)) (Or.inr ⟨(hw _ (List.mem_of_getElem? (i := 33) rfl)), rfl, rfl⟩) ?_
  refine am_blk (pc' := 71) (Ls' := [.val (.ref 0), .val (.int x1), .val (.int x2), .val (.int x3)]) (St' := [.int (40 : Int32), .ref 0]) (σ' := zs) [.aload_n 0, .bipush 40] (by decide +kernel) hc hT hF wi (by exact rfl) ?_
  refine am_newarr (a := 8) (n := 40) (aty := .long) (by decide +kernel) hc (hw _ (List.mem_of_getElem? (i := 34) rfl)) rfl (by decide) rfl ⟨rfl, rfl⟩ hAE8 hn ⟨by decide, by decide, by decide⟩ (fun A hAE9 => ?_)
  refine am_putref (a := 8) (j := 8) (by decide +kernel) hc hF wi rfl (by decide) (hw _ (List.mem_of_getElem? (i := 35) rfl)) (Or.inr ⟨(hw _ (List.mem_of_getElem? (i := 36) rfl)), rfl, rfl⟩) ?_
  refine am_blk (pc' := 82) (Ls' := [.val (.ref 0), .val (.int x1), .val (.int x2), .val (.int x3)]) (St' := [.int (8 : Int32), .int (1 : Int32), .int x1, .ref 0, .ref 0]) (σ' := zs) [.aload_n 0, .aload_n 0, .iload_n 1, .iconst 1, .bipush 8] (by decide +kernel) hc hT hF wi (by exact rfl) ?_
  refine am_callP_I (W0 := 1) (argsL := [.int x1, .int (1 : Int32), .int (8 : Int32)]) (rest := [.ref 0]) rfl (lk_C_39 hw) rfl wi (by decide +kernel) hc (SubW.refl _) rfl (by show arity "(III)I" 3 = true; decide +kernel) (ok_c_clamp hw x1 (1 : Int32) (8 : Int32) _) rfl ⟨by decide, by decide, Nat.le_of_eq rfl, rfl, rfl, by decide, by decide⟩ (fun r1 hr => ?_)
  refine am_blk (pc' := 95) (Ls' := [.val (.ref 0), .val (.int x1), .val (.int x2), .val (.int x3)]) (St' := [.int (32 : Int32), .int (8 : Int32), .int x2, .ref 0, .ref 0]) (σ' := si r1.2 0 9 r1.1) [.putfield 43, .aload_n 0, .aload_n 0, .iload_n 2, .bipush 8, .bipush 32] (by decide +kernel) hc hT hF wi (by exact rfl) ?_
  refine am_callP_I (W0 := 1) (argsL := [.int x2, .int (8 : Int32), .int (32 : Int32)]) (rest := [.ref 0]) rfl (lk_C_39 hw) rfl wi (by decide +kernel) hc (SubW.refl _) rfl (by show arity "(III)I" 3 = true; decide +kernel) (ok_c_clamp hw x2 (8 : Int32) (32 : Int32) _) rfl ⟨by decide, by decide, Nat.le_of_eq rfl, rfl, rfl, by decide, by decide⟩ (fun r2 hr => ?_)
  refine am_blk (pc' := 107) (Ls' := [.val (.ref 0), .val (.int x1), .val (.int x2), .val (.int x3)]) (St' := [.int (16 : Int32), .int (1 : Int32), .int x3, .ref 0, .ref 0]) (σ' := si r2.2 0 10 r2.1) [.putfield 47, .aload_n 0, .aload_n 0, .iload_n 3, .iconst 1, .bipush 16] (by decide +kernel) hc hT hF wi (by exact rfl) ?_
  refine am_callP_I (W0 := 1) (argsL := [.int x3, .int (1 : Int32), .int (16 : Int32)]) (rest := [.ref 0]) rfl (lk_C_39 hw) rfl wi (by decide +kernel) hc (SubW.refl _) rfl (by show arity "(III)I" 3 = true; decide +kernel) (ok_c_clamp hw x3 (1 : Int32) (16 : Int32) _) rfl ⟨by decide, by decide, Nat.le_of_eq rfl, rfl, rfl, by decide, by decide⟩ (fun r3 hr => ?_)
  refine am_blk (pc' := 150) (Ls' := [.val (.ref 0), .val (.int x1), .val (.int x2), .val (.int x3)]) (St' := [.ref 0]) (σ' := si (si (si (si (si (si r3.2 0 11 r3.1) 0 12 (((1 : Int32) <<< (r3.1 &&& 31)) - (1 : Int32))) 0 13 (0 : Int32)) 0 14 (0 : Int32)) 0 15 (44257 : Int32)) 0 16 (((1 : Int32) <<< (r3.1 &&& 31)) - (1 : Int32))) [.putfield 50, .aload_n 0, .iconst 1, .aload_n 0, .getfield 50, .ishl, .iconst 1, .isub, .putfield 53, .aload_n 0, .iconst 0, .putfield 56, .aload_n 0, .iconst 0, .putfield 59, .aload_n 0, .ldc 62, .putfield 63, .aload_n 0, .aload_n 0, .getfield 53, .putfield 66, .aload_n 0] (by decide +kernel) hc hT hF wi (by exact rfl) ?_
  refine am_callP_V (W0 := 0) (argsL := []) (rest := []) rfl (lk_C_69 hw) rfl wi (by decide +kernel) hc (SubW.refl _) rfl (by show arity "()V" 0 = true; decide +kernel) (ok_c_clearSession hw _) rfl ⟨by decide, by decide, Nat.le_of_eq rfl, rfl, rfl, by decide, by decide⟩ (fun r4 hr => ?_)
  exact am_retV (by decide +kernel) hc (by decide) (by decide) (fun h W O => FI_of hAE9 h W O)
abbrev rm_c_setSeed : Room := { frames := 0, cells := 0, slots := 0, locals := 0 }
def c_setSeed (x1 : Int32) (σ : Sg) : Option (Int32 × Sg) :=
  if 0 < (gi σ 0 17) then (some ((0 : Int32), σ)) else (if (x1 &&& (65535 : Int32)) = 0 then (some ((0 : Int32), σ)) else (some ((1 : Int32), si (si σ 0 15 (x1 &&& (65535 : Int32))) 0 18 (x1 &&& (65535 : Int32)))))
set_option maxRecDepth 65536 in
set_option maxHeartbeats 4000000 in
theorem ok_c_setSeed (hw : WH a0 Z) (x1 : Int32) (σ : Sg) : ∀ x, c_setSeed x1 σ = some x → Con l Z "LogicBist" fsC (⟨"LogicBist", "setSeed", "(I)Z"⟩ : MethodName) prog_1_method_4_code 3 (some .boolean) rm_c_setSeed wC [.ref 0, .int x1] σ (fI x).1 (fI x).2 := by
  refine am_con pnC ?_
  intro p e s m below meth c A n0 h0 hc
  have hT := tabC hw "setSeed"
  have hF := fsokC hw
  have wi := wiC hw
  unfold c_setSeed
  refine am_blk (pc' := 4) (Ls' := [.val (.ref 0), .val (.int x1), .unset]) (St' := [.int (gi σ 0 17)]) (σ' := σ) [.aload_n 0, .getfield 72] (by decide +kernel) hc hT hF wi (by exact rfl) ?_
  refine am_if_le (o := 5) (pc1 := 9) (by decide +kernel) hc (fun hq => ?_) (fun hq => ?_)
  · refine am_blk (pc' := 8) (Ls' := [.val (.ref 0), .val (.int x1), .unset]) (St' := [.int (0 : Int32)]) (σ' := σ) [.iconst 0] (by decide +kernel) hc hT hF wi (by exact rfl) ?_
    exact am_retZ (by decide +kernel) hc (by decide) (by decide) (fun h W O => ⟨rfl, W, O⟩)
  · refine am_blk (pc' := 15) (Ls' := [.val (.ref 0), .val (.int x1), .val (.int (x1 &&& (65535 : Int32)))]) (St' := [.int (x1 &&& (65535 : Int32))]) (σ' := σ) [.iload_n 1, .ldc 88, .iand, .istore_n 2, .iload_n 2] (by decide +kernel) hc hT hF wi (by exact rfl) ?_
    refine am_if_ne (o := 5) (pc1 := 20) (by decide +kernel) hc (fun hq => ?_) (fun hq => ?_)
    · refine am_blk (pc' := 19) (Ls' := [.val (.ref 0), .val (.int x1), .val (.int (x1 &&& (65535 : Int32)))]) (St' := [.int (0 : Int32)]) (σ' := σ) [.iconst 0] (by decide +kernel) hc hT hF wi (by exact rfl) ?_
      exact am_retZ (by decide +kernel) hc (by decide) (by decide) (fun h W O => ⟨rfl, W, O⟩)
    · refine am_blk (pc' := 31) (Ls' := [.val (.ref 0), .val (.int x1), .val (.int (x1 &&& (65535 : Int32)))]) (St' := [.int (1 : Int32)]) (σ' := si (si σ 0 15 (x1 &&& (65535 : Int32))) 0 18 (x1 &&& (65535 : Int32))) [.aload_n 0, .iload_n 2, .putfield 63, .aload_n 0, .iload_n 2, .putfield 89, .iconst 1] (by decide +kernel) hc hT hF wi (by exact rfl) ?_
      exact am_retZ (by decide +kernel) hc (by decide) (by decide) (fun h W O => ⟨rfl, W, O⟩)
abbrev rm_c_setMisrMask : Room := { frames := 0, cells := 0, slots := 0, locals := 0 }
def c_setMisrMask (x1 : Int32) (σ : Sg) : Option (Int32 × Sg) :=
  if 0 < (gi σ 0 17) then (some ((0 : Int32), σ)) else (some ((1 : Int32), si σ 0 16 (x1 &&& (gi σ 0 12))))
set_option maxRecDepth 65536 in
set_option maxHeartbeats 4000000 in
theorem ok_c_setMisrMask (hw : WH a0 Z) (x1 : Int32) (σ : Sg) : ∀ x, c_setMisrMask x1 σ = some x → Con l Z "LogicBist" fsC (⟨"LogicBist", "setMisrMask", "(I)Z"⟩ : MethodName) prog_1_method_5_code 2 (some .boolean) rm_c_setMisrMask wC [.ref 0, .int x1] σ (fI x).1 (fI x).2 := by
  refine am_con pnC ?_
  intro p e s m below meth c A n0 h0 hc
  have hT := tabC hw "setMisrMask"
  have hF := fsokC hw
  have wi := wiC hw
  unfold c_setMisrMask
  refine am_blk (pc' := 4) (Ls' := [.val (.ref 0), .val (.int x1)]) (St' := [.int (gi σ 0 17)]) (σ' := σ) [.aload_n 0, .getfield 72] (by decide +kernel) hc hT hF wi (by exact rfl) ?_
  refine am_if_le (o := 5) (pc1 := 9) (by decide +kernel) hc (fun hq => ?_) (fun hq => ?_)
  · refine am_blk (pc' := 8) (Ls' := [.val (.ref 0), .val (.int x1)]) (St' := [.int (0 : Int32)]) (σ' := σ) [.iconst 0] (by decide +kernel) hc hT hF wi (by exact rfl) ?_
    exact am_retZ (by decide +kernel) hc (by decide) (by decide) (fun h W O => ⟨rfl, W, O⟩)
  · refine am_blk (pc' := 20) (Ls' := [.val (.ref 0), .val (.int x1)]) (St' := [.int (1 : Int32)]) (σ' := si σ 0 16 (x1 &&& (gi σ 0 12))) [.aload_n 0, .iload_n 1, .aload_n 0, .getfield 53, .iand, .putfield 66, .iconst 1] (by decide +kernel) hc hT hF wi (by exact rfl) ?_
    exact am_retZ (by decide +kernel) hc (by decide) (by decide) (fun h W O => ⟨rfl, W, O⟩)
abbrev rm_c_isGateKind : Room := { frames := 0, cells := 0, slots := 0, locals := 0 }
def c_isGateKind (x1 : Int32) (σ : Sg) : Option (Int32 × Sg) :=
  if x1 < 0 then (some ((0 : Int32), σ)) else (if (7 : Int32) < x1 then (some ((0 : Int32), σ)) else (some ((1 : Int32), σ)))
set_option maxRecDepth 65536 in
set_option maxHeartbeats 4000000 in
theorem ok_c_isGateKind (hw : WH a0 Z) (x1 : Int32) (σ : Sg) : ∀ x, c_isGateKind x1 σ = some x → Con l Z "LogicBist" fsC (⟨"LogicBist", "isGateKind", "(I)Z"⟩ : MethodName) prog_1_method_42_code 2 (some .boolean) rm_c_isGateKind wC [.ref 0, .int x1] σ (fI x).1 (fI x).2 := by
  refine am_con pnC ?_
  intro p e s m below meth c A n0 h0 hc
  have hT := tabC hw "isGateKind"
  have hF := fsokC hw
  have wi := wiC hw
  unfold c_isGateKind
  refine am_blk (pc' := 1) (Ls' := [.val (.ref 0), .val (.int x1)]) (St' := [.int x1]) (σ' := σ) [.iload_n 1] (by decide +kernel) hc hT hF wi (by exact rfl) ?_
  refine am_if_lt (o := 13) (pc1 := 14) (by decide +kernel) hc (fun hq => ?_) (fun hq => ?_)
  · refine am_blk (pc' := 15) (Ls' := [.val (.ref 0), .val (.int x1)]) (St' := [.int (0 : Int32)]) (σ' := σ) [.iconst 0] (by decide +kernel) hc hT hF wi (by exact rfl) ?_
    exact am_retZ (by decide +kernel) hc (by decide) (by decide) (fun h W O => ⟨rfl, W, O⟩)
  · refine am_blk (pc' := 7) (Ls' := [.val (.ref 0), .val (.int x1)]) (St' := [.int (7 : Int32), .int x1]) (σ' := σ) [.iload_n 1, .bipush 7] (by decide +kernel) hc hT hF wi (by exact rfl) ?_
    refine am_icmp_gt (o := 7) (pc1 := 14) (by decide +kernel) hc (fun hq => ?_) (fun hq => ?_)
    · refine am_blk (pc' := 15) (Ls' := [.val (.ref 0), .val (.int x1)]) (St' := [.int (0 : Int32)]) (σ' := σ) [.iconst 0] (by decide +kernel) hc hT hF wi (by exact rfl) ?_
      exact am_retZ (by decide +kernel) hc (by decide) (by decide) (fun h W O => ⟨rfl, W, O⟩)
    · refine am_blk (pc' := 15) (Ls' := [.val (.ref 0), .val (.int x1)]) (St' := [.int (1 : Int32)]) (σ' := σ) [.iconst 1, .goto 4] (by decide +kernel) hc hT hF wi (by exact rfl) ?_
      exact am_retZ (by decide +kernel) hc (by decide) (by decide) (fun h W O => ⟨rfl, W, O⟩)
abbrev rm_c_signalCount : Room := { frames := 0, cells := 0, slots := 0, locals := 0 }
def c_signalCount (σ : Sg) : Option (Int32 × Sg) :=
  some ((gi σ 0 9) + (gi σ 0 13), σ)
set_option maxRecDepth 65536 in
set_option maxHeartbeats 4000000 in
theorem ok_c_signalCount (hw : WH a0 Z) (σ : Sg) : ∀ x, c_signalCount σ = some x → Con l Z "LogicBist" fsC (⟨"LogicBist", "signalCount", "()I"⟩ : MethodName) prog_1_method_32_code 1 (some .int) rm_c_signalCount wC [.ref 0] σ (fI x).1 (fI x).2 := by
  refine am_con pnC ?_
  intro p e s m below meth c A n0 h0 hc
  have hT := tabC hw "signalCount"
  have hF := fsokC hw
  have wi := wiC hw
  unfold c_signalCount
  refine am_blk (pc' := 9) (Ls' := [.val (.ref 0)]) (St' := [.int ((gi σ 0 9) + (gi σ 0 13))]) (σ' := σ) [.aload_n 0, .getfield 43, .aload_n 0, .getfield 56, .iadd] (by decide +kernel) hc hT hF wi (by exact rfl) ?_
  exact am_retI (by decide +kernel) hc (by decide) (by decide) (fun h W O => ⟨rfl, W, O⟩)
abbrev rm_c_isSignal : Room := { frames := 1, cells := 0, slots := 0, locals := 13 }
def c_isSignal (x1 : Int32) (σ : Sg) : Option (Int32 × Sg) :=
  if x1 < 0 then (some ((0 : Int32), σ)) else ((c_signalCount σ).bind fun r1 => if x1 < r1.1 then (some ((1 : Int32), r1.2)) else (some ((0 : Int32), r1.2)))
set_option maxRecDepth 65536 in
set_option maxHeartbeats 4000000 in
theorem ok_c_isSignal (hw : WH a0 Z) (x1 : Int32) (σ : Sg) : ∀ x, c_isSignal x1 σ = some x → Con l Z "LogicBist" fsC (⟨"LogicBist", "isSignal", "(I)Z"⟩ : MethodName) prog_1_method_40_code 2 (some .boolean) rm_c_isSignal wC [.ref 0, .int x1] σ (fI x).1 (fI x).2 := by
  refine am_con pnC ?_
  intro p e s m below meth c A n0 h0 hc
  have hT := tabC hw "isSignal"
  have hF := fsokC hw
  have wi := wiC hw
  unfold c_isSignal
  refine am_blk (pc' := 1) (Ls' := [.val (.ref 0), .val (.int x1)]) (St' := [.int x1]) (σ' := σ) [.iload_n 1] (by decide +kernel) hc hT hF wi (by exact rfl) ?_
  refine am_if_lt (o := 15) (pc1 := 16) (by decide +kernel) hc (fun hq => ?_) (fun hq => ?_)
  · refine am_blk (pc' := 17) (Ls' := [.val (.ref 0), .val (.int x1)]) (St' := [.int (0 : Int32)]) (σ' := σ) [.iconst 0] (by decide +kernel) hc hT hF wi (by exact rfl) ?_
    exact am_retZ (by decide +kernel) hc (by decide) (by decide) (fun h W O => ⟨rfl, W, O⟩)
  · refine am_blk (pc' := 6) (Ls' := [.val (.ref 0), .val (.int x1)]) (St' := [.ref 0, .int x1]) (σ' := σ) [.iload_n 1, .aload_n 0] (by decide +kernel) hc hT hF wi (by exact rfl) ?_
    refine am_callP_I (W0 := 1) (argsL := []) (rest := [.int x1]) rfl (lk_C_146 hw) rfl wi (by decide +kernel) hc (SubW.refl _) rfl (by show arity "()I" 0 = true; decide +kernel) (ok_c_signalCount hw _) rfl ⟨by decide, by decide, Nat.le_of_eq rfl, rfl, rfl, by decide, by decide⟩ (fun r1 hr => ?_)
    refine am_icmp_ge (o := 7) (pc1 := 16) (by decide +kernel) hc (fun hq => ?_) (fun hq => ?_)
    · refine am_blk (pc' := 17) (Ls' := [.val (.ref 0), .val (.int x1)]) (St' := [.int (1 : Int32)]) (σ' := r1.2) [.iconst 1, .goto 4] (by decide +kernel) hc hT hF wi (by exact rfl) ?_
      exact am_retZ (by decide +kernel) hc (by decide) (by decide) (fun h W O => ⟨rfl, W, O⟩)
    · refine am_blk (pc' := 17) (Ls' := [.val (.ref 0), .val (.int x1)]) (St' := [.int (0 : Int32)]) (σ' := r1.2) [.iconst 0] (by decide +kernel) hc hT hF wi (by exact rfl) ?_
      exact am_retZ (by decide +kernel) hc (by decide) (by decide) (fun h W O => ⟨rfl, W, O⟩)
abbrev rm_c_isTwoOperand : Room := { frames := 0, cells := 0, slots := 0, locals := 0 }
def c_isTwoOperand (x1 : Int32) (σ : Sg) : Option (Int32 × Sg) :=
  if x1 < 0 then (some ((0 : Int32), σ)) else (if (5 : Int32) < x1 then (some ((0 : Int32), σ)) else (some ((1 : Int32), σ)))
set_option maxRecDepth 65536 in
set_option maxHeartbeats 4000000 in
theorem ok_c_isTwoOperand (hw : WH a0 Z) (x1 : Int32) (σ : Sg) : ∀ x, c_isTwoOperand x1 σ = some x → Con l Z "LogicBist" fsC (⟨"LogicBist", "isTwoOperand", "(I)Z"⟩ : MethodName) prog_1_method_43_code 2 (some .boolean) rm_c_isTwoOperand wC [.ref 0, .int x1] σ (fI x).1 (fI x).2 := by
  refine am_con pnC ?_
  intro p e s m below meth c A n0 h0 hc
  have hT := tabC hw "isTwoOperand"
  have hF := fsokC hw
  have wi := wiC hw
  unfold c_isTwoOperand
  refine am_blk (pc' := 1) (Ls' := [.val (.ref 0), .val (.int x1)]) (St' := [.int x1]) (σ' := σ) [.iload_n 1] (by decide +kernel) hc hT hF wi (by exact rfl) ?_
  refine am_if_lt (o := 12) (pc1 := 13) (by decide +kernel) hc (fun hq => ?_) (fun hq => ?_)
  · refine am_blk (pc' := 14) (Ls' := [.val (.ref 0), .val (.int x1)]) (St' := [.int (0 : Int32)]) (σ' := σ) [.iconst 0] (by decide +kernel) hc hT hF wi (by exact rfl) ?_
    exact am_retZ (by decide +kernel) hc (by decide) (by decide) (fun h W O => ⟨rfl, W, O⟩)
  · refine am_blk (pc' := 6) (Ls' := [.val (.ref 0), .val (.int x1)]) (St' := [.int (5 : Int32), .int x1]) (σ' := σ) [.iload_n 1, .iconst 5] (by decide +kernel) hc hT hF wi (by exact rfl) ?_
    refine am_icmp_gt (o := 7) (pc1 := 13) (by decide +kernel) hc (fun hq => ?_) (fun hq => ?_)
    · refine am_blk (pc' := 14) (Ls' := [.val (.ref 0), .val (.int x1)]) (St' := [.int (0 : Int32)]) (σ' := σ) [.iconst 0] (by decide +kernel) hc hT hF wi (by exact rfl) ?_
      exact am_retZ (by decide +kernel) hc (by decide) (by decide) (fun h W O => ⟨rfl, W, O⟩)
    · refine am_blk (pc' := 14) (Ls' := [.val (.ref 0), .val (.int x1)]) (St' := [.int (1 : Int32)]) (σ' := σ) [.iconst 1, .goto 4] (by decide +kernel) hc hT hF wi (by exact rfl) ?_
      exact am_retZ (by decide +kernel) hc (by decide) (by decide) (fun h W O => ⟨rfl, W, O⟩)
abbrev rm_c_appendGate : Room := { frames := 1, cells := 0, slots := 0, locals := 13 }
def c_appendGate (x1 : Int32) (x2 : Int32) (x3 : Int32) (σ : Sg) : Option (Int32 × Sg) :=
  if (gi σ 0 13) < 0 then (some ((-1 : Int32), σ)) else (if (gi σ 0 13) < (32 : Int32) then (if inb (gi σ 0 13) 32 = true then ((c_resetFault ((2 : Int32) * ((gi σ 0 9) + (gi σ 0 13))) (si (si (si (si σ 1 (nx (gi σ 0 13)) x1) 2 (nx (gi σ 0 13)) x2) 3 (nx (gi σ 0 13)) x3) 0 13 ((gi σ 0 13) + (1 : Int32)))).bind fun r1 => (c_resetFault (((2 : Int32) * ((gi σ 0 9) + (gi σ 0 13))) + (1 : Int32)) r1).bind fun r2 => some ((gi σ 0 9) + (gi σ 0 13), r2)) else none) else (some ((-1 : Int32), σ)))
set_option maxRecDepth 65536 in
set_option maxHeartbeats 4000000 in
theorem ok_c_appendGate (hw : WH a0 Z) (x1 : Int32) (x2 : Int32) (x3 : Int32) (σ : Sg) : ∀ x, c_appendGate x1 x2 x3 σ = some x → Con l Z "LogicBist" fsC (⟨"LogicBist", "appendGate", "(III)I"⟩ : MethodName) prog_1_method_20_code 6 (some .int) rm_c_appendGate wC [.ref 0, .int x1, .int x2, .int x3] σ (fI x).1 (fI x).2 := by
  refine am_con pnC ?_
  intro p e s m below meth c A n0 h0 hc
  have hT := tabC hw "appendGate"
  have hF := fsokC hw
  have wi := wiC hw
  unfold c_appendGate
  refine am_blk (pc' := 8) (Ls' := [.val (.ref 0), .val (.int x1), .val (.int x2), .val (.int x3), .val (.int (gi σ 0 13)), .unset]) (St' := [.int (gi σ 0 13)]) (σ' := σ) [.aload_n 0, .getfield 56, .istore 4, .iload 4] (by decide +kernel) hc hT hF wi (by exact rfl) ?_
  refine am_if_lt (o := 10) (pc1 := 18) (by decide +kernel) hc (fun hq => ?_) (fun hq => ?_)
  · refine am_blk (pc' := 19) (Ls' := [.val (.ref 0), .val (.int x1), .val (.int x2), .val (.int x3), .val (.int (gi σ 0 13)), .unset]) (St' := [.int (-1 : Int32)]) (σ' := σ) [.iconst (-1)] (by decide +kernel) hc hT hF wi (by exact rfl) ?_
    exact am_retI (by decide +kernel) hc (by decide) (by decide) (fun h W O => ⟨rfl, W, O⟩)
  · refine am_blk (pc' := 15) (Ls' := [.val (.ref 0), .val (.int x1), .val (.int x2), .val (.int x3), .val (.int (gi σ 0 13)), .unset]) (St' := [.int (32 : Int32), .int (gi σ 0 13)]) (σ' := σ) [.iload 4, .bipush 32] (by decide +kernel) hc hT hF wi (by exact rfl) ?_
    refine am_icmp_lt (o := 5) (pc1 := 20) (by decide +kernel) hc (fun hq => ?_) (fun hq => ?_)
    · refine am_blk (pc' := 27) (Ls' := [.val (.ref 0), .val (.int x1), .val (.int x2), .val (.int x3), .val (.int (gi σ 0 13)), .unset]) (St' := [.int x1, .int (gi σ 0 13), .ref 1]) (σ' := σ) [.aload_n 0, .getfield 7, .iload 4, .iload_n 1] (by decide +kernel) hc hT hF wi (by exact rfl) ?_
      refine am_iastore (y := x1) rfl (by decide +kernel) hc rfl (fun hb0 => ?_)
      refine am_blk (pc' := 35) (Ls' := [.val (.ref 0), .val (.int x1), .val (.int x2), .val (.int x3), .val (.int (gi σ 0 13)), .unset]) (St' := [.int x2, .int (gi σ 0 13), .ref 2]) (σ' := si σ 1 (nx (gi σ 0 13)) x1) [.aload_n 0, .getfield 13, .iload 4, .iload_n 2] (by decide +kernel) hc hT hF wi (by exact rfl) ?_
      refine am_iastore_k hb0 (y := x2) rfl (by decide +kernel) hc rfl ?_
      refine am_blk (pc' := 43) (Ls' := [.val (.ref 0), .val (.int x1), .val (.int x2), .val (.int x3), .val (.int (gi σ 0 13)), .unset]) (St' := [.int x3, .int (gi σ 0 13), .ref 3]) (σ' := si (si σ 1 (nx (gi σ 0 13)) x1) 2 (nx (gi σ 0 13)) x2) [.aload_n 0, .getfield 16, .iload 4, .iload_n 3] (by decide +kernel) hc hT hF wi (by exact rfl) ?_
      refine am_iastore_k hb0 (y := x3) rfl (by decide +kernel) hc rfl ?_
      refine am_blk (pc' := 66) (Ls' := [.val (.ref 0), .val (.int x1), .val (.int x2), .val (.int x3), .val (.int (gi σ 0 13)), .val (.int ((gi σ 0 9) + (gi σ 0 13)))]) (St' := [.int ((2 : Int32) * ((gi σ 0 9) + (gi σ 0 13))), .ref 0]) (σ' := si (si (si (si σ 1 (nx (gi σ 0 13)) x1) 2 (nx (gi σ 0 13)) x2) 3 (nx (gi σ 0 13)) x3) 0 13 ((gi σ 0 13) + (1 : Int32))) [.aload_n 0, .iload 4, .iconst 1, .iadd, .putfield 56, .aload_n 0, .getfield 43, .iload 4, .iadd, .istore 5, .aload_n 0, .iconst 2, .iload 5, .imul] (by decide +kernel) hc hT hF wi (by exact rfl) ?_
      refine am_callP_V (W0 := 0) (argsL := [.int ((2 : Int32) * ((gi σ 0 9) + (gi σ 0 13)))]) (rest := []) rfl (lk_C_122 hw) rfl wi (by decide +kernel) hc (SubW.refl _) rfl (by show arity "(I)V" 1 = true; decide +kernel) (ok_c_resetFault hw ((2 : Int32) * ((gi σ 0 9) + (gi σ 0 13))) _) rfl ⟨by decide, by decide, Nat.le_of_eq rfl, rfl, rfl, by decide, by decide⟩ (fun r1 hr => ?_)
      refine am_blk (pc' := 76) (Ls' := [.val (.ref 0), .val (.int x1), .val (.int x2), .val (.int x3), .val (.int (gi σ 0 13)), .val (.int ((gi σ 0 9) + (gi σ 0 13)))]) (St' := [.int (((2 : Int32) * ((gi σ 0 9) + (gi σ 0 13))) + (1 : Int32)), .ref 0]) (σ' := r1) [.aload_n 0, .iconst 2, .iload 5, .imul, .iconst 1, .iadd] (by decide +kernel) hc hT hF wi (by exact rfl) ?_
      refine am_callP_V (W0 := 0) (argsL := [.int (((2 : Int32) * ((gi σ 0 9) + (gi σ 0 13))) + (1 : Int32))]) (rest := []) rfl (lk_C_122 hw) rfl wi (by decide +kernel) hc (SubW.refl _) rfl (by show arity "(I)V" 1 = true; decide +kernel) (ok_c_resetFault hw (((2 : Int32) * ((gi σ 0 9) + (gi σ 0 13))) + (1 : Int32)) _) rfl ⟨by decide, by decide, Nat.le_of_eq rfl, rfl, rfl, by decide, by decide⟩ (fun r2 hr => ?_)
      refine am_blk (pc' := 81) (Ls' := [.val (.ref 0), .val (.int x1), .val (.int x2), .val (.int x3), .val (.int (gi σ 0 13)), .val (.int ((gi σ 0 9) + (gi σ 0 13)))]) (St' := [.int ((gi σ 0 9) + (gi σ 0 13))]) (σ' := r2) [.iload 5] (by decide +kernel) hc hT hF wi (by exact rfl) ?_
      exact am_retI (by decide +kernel) hc (by decide) (by decide) (fun h W O => ⟨rfl, W, O⟩)
    · refine am_blk (pc' := 19) (Ls' := [.val (.ref 0), .val (.int x1), .val (.int x2), .val (.int x3), .val (.int (gi σ 0 13)), .unset]) (St' := [.int (-1 : Int32)]) (σ' := σ) [.iconst (-1)] (by decide +kernel) hc hT hF wi (by exact rfl) ?_
      exact am_retI (by decide +kernel) hc (by decide) (by decide) (fun h W O => ⟨rfl, W, O⟩)
abbrev rm_c_addGate : Room := { frames := 2, cells := 0, slots := 0, locals := 30 }
def c_addGate_77 (s0 : Int32) (s1 : Int32) (s2 : Int32) (σ : Sg) : Option (Int32 × Sg) :=
  (c_appendGate s2 s1 s0 σ).bind fun r1 => some (r1.1, r1.2)
set_option maxRecDepth 65536 in
set_option maxHeartbeats 4000000 in
theorem okc_c_addGate_77 (hw : WH a0 Z) (hc : Cx p s m meth c Z "LogicBist" prog_1_method_2_code 5 (some .int) "addGate") (s0 : Int32) (s1 : Int32) (s2 : Int32) (σ : Sg) : OkR p l e rm_c_addGate s m args below meth c Z "LogicBist" fsC n0 h0 (FM Z "LogicBist" fsC A wC h0 fI) A wC 0 0 77 [.unset, .unset, .unset, .unset, .unset] [.int s0, .int s1, .int s2, .ref 0] σ (c_addGate_77 s0 s1 s2 σ) := by
  have hT := tabC hw "addGate"
  have hF := fsokC hw
  have wi := wiC hw
  unfold c_addGate_77
  refine am_callP_I (W0 := 0) (argsL := [.int s2, .int s1, .int s0]) (rest := []) rfl (lk_C_85 hw) rfl wi (by decide +kernel) hc (SubW.refl _) rfl (by show arity "(III)I" 3 = true; decide +kernel) (ok_c_appendGate hw s2 s1 s0 _) rfl ⟨by decide, by decide, Nat.le_of_eq rfl, rfl, rfl, by decide, by decide⟩ (fun r1 hr => ?_)
  exact am_retI (by decide +kernel) hc (by decide) (by decide) (fun h W O => ⟨rfl, W, O⟩)
def c_addGate_64 (x1 : Int32) (x2 : Int32) (x3 : Int32) (x4 : Int32) (σ : Sg) : Option (Int32 × Sg) :=
  if x4 = 0 then (c_addGate_77 x2 x2 x1 σ) else (c_addGate_77 x3 x2 x1 σ)
set_option maxRecDepth 65536 in
set_option maxHeartbeats 4000000 in
theorem okc_c_addGate_64 (hw : WH a0 Z) (hc : Cx p s m meth c Z "LogicBist" prog_1_method_2_code 5 (some .int) "addGate") (x1 : Int32) (x2 : Int32) (x3 : Int32) (x4 : Int32) (σ : Sg) : OkR p l e rm_c_addGate s m args below meth c Z "LogicBist" fsC n0 h0 (FM Z "LogicBist" fsC A wC h0 fI) A wC 0 0 64 [.val (.ref 0), .val (.int x1), .val (.int x2), .val (.int x3), .val (.int x4)] [] σ (c_addGate_64 x1 x2 x3 x4 σ) := by
  have hT := tabC hw "addGate"
  have hF := fsokC hw
  have wi := wiC hw
  unfold c_addGate_64
  refine am_blk (pc' := 69) (Ls' := [.val (.ref 0), .val (.int x1), .val (.int x2), .val (.int x3), .val (.int x4)]) (St' := [.int x4, .int x2, .int x1, .ref 0]) (σ' := σ) [.aload_n 0, .iload_n 1, .iload_n 2, .iload 4] (by decide +kernel) hc hT hF wi (by exact rfl) ?_
  refine am_if_eq (o := 7) (pc1 := 76) (by decide +kernel) hc (fun hq => ?_) (fun hq => ?_)
  · refine am_blk (pc' := 77) (Ls' := [.val (.ref 0), .val (.int x1), .val (.int x2), .val (.int x3), .val (.int x4)]) (St' := [.int x2, .int x2, .int x1, .ref 0]) (σ' := σ) [.iload_n 2] (by decide +kernel) hc hT hF wi (by exact rfl) ?_
    exact am_wk (Ls' := [.unset, .unset, .unset, .unset, .unset]) (by simp [wkL]) (okc_c_addGate_77 hw hc x2 x2 x1 σ)
  · refine am_blk (pc' := 77) (Ls' := [.val (.ref 0), .val (.int x1), .val (.int x2), .val (.int x3), .val (.int x4)]) (St' := [.int x3, .int x2, .int x1, .ref 0]) (σ' := σ) [.iload_n 3, .goto 4] (by decide +kernel) hc hT hF wi (by exact rfl) ?_
    exact am_wk (Ls' := [.unset, .unset, .unset, .unset, .unset]) (by simp [wkL]) (okc_c_addGate_77 hw hc x3 x2 x1 σ)
def c_addGate (x1 : Int32) (x2 : Int32) (x3 : Int32) (σ : Sg) : Option (Int32 × Sg) :=
  if 0 < (gi σ 0 17) then (some ((-1 : Int32), σ)) else (if (gi σ 0 13) < (gi σ 0 10) then ((c_isGateKind x1 σ).bind fun r1 => if r1.1 = 0 then (some ((-1 : Int32), r1.2)) else ((c_isSignal x2 r1.2).bind fun r2 => if r2.1 = 0 then (some ((-1 : Int32), r2.2)) else ((c_isTwoOperand x1 r2.2).bind fun r3 => if r3.1 = 0 then (c_addGate_64 x1 x2 x3 r3.1 r3.2) else ((c_isSignal x3 r3.2).bind fun r4 => if r4.1 = 0 then (some ((-1 : Int32), r4.2)) else (c_addGate_64 x1 x2 x3 r3.1 r4.2))))) else (some ((-1 : Int32), σ)))
set_option maxRecDepth 65536 in
set_option maxHeartbeats 4000000 in
theorem ok_c_addGate (hw : WH a0 Z) (x1 : Int32) (x2 : Int32) (x3 : Int32) (σ : Sg) : ∀ x, c_addGate x1 x2 x3 σ = some x → Con l Z "LogicBist" fsC (⟨"LogicBist", "addGate", "(III)I"⟩ : MethodName) prog_1_method_2_code 5 (some .int) rm_c_addGate wC [.ref 0, .int x1, .int x2, .int x3] σ (fI x).1 (fI x).2 := by
  refine am_con pnC ?_
  intro p e s m below meth c A n0 h0 hc
  have hT := tabC hw "addGate"
  have hF := fsokC hw
  have wi := wiC hw
  unfold c_addGate
  refine am_blk (pc' := 4) (Ls' := [.val (.ref 0), .val (.int x1), .val (.int x2), .val (.int x3), .unset]) (St' := [.int (gi σ 0 17)]) (σ' := σ) [.aload_n 0, .getfield 72] (by decide +kernel) hc hT hF wi (by exact rfl) ?_
  refine am_if_le (o := 5) (pc1 := 9) (by decide +kernel) hc (fun hq => ?_) (fun hq => ?_)
  · refine am_blk (pc' := 8) (Ls' := [.val (.ref 0), .val (.int x1), .val (.int x2), .val (.int x3), .unset]) (St' := [.int (-1 : Int32)]) (σ' := σ) [.iconst (-1)] (by decide +kernel) hc hT hF wi (by exact rfl) ?_
    exact am_retI (by decide +kernel) hc (by decide) (by decide) (fun h W O => ⟨rfl, W, O⟩)
  · refine am_blk (pc' := 17) (Ls' := [.val (.ref 0), .val (.int x1), .val (.int x2), .val (.int x3), .unset]) (St' := [.int (gi σ 0 10), .int (gi σ 0 13)]) (σ' := σ) [.aload_n 0, .getfield 56, .aload_n 0, .getfield 47] (by decide +kernel) hc hT hF wi (by exact rfl) ?_
    refine am_icmp_lt (o := 5) (pc1 := 22) (by decide +kernel) hc (fun hq => ?_) (fun hq => ?_)
    · refine am_blk (pc' := 24) (Ls' := [.val (.ref 0), .val (.int x1), .val (.int x2), .val (.int x3), .unset]) (St' := [.int x1, .ref 0]) (σ' := σ) [.aload_n 0, .iload_n 1] (by decide +kernel) hc hT hF wi (by exact rfl) ?_
      refine am_callP_I (W0 := 0) (argsL := [.int x1]) (rest := []) rfl (lk_C_75 hw) rfl wi (by decide +kernel) hc (SubW.refl _) rfl (by show arity "(I)Z" 1 = true; decide +kernel) (ok_c_isGateKind hw x1 _) rfl ⟨by decide, by decide, Nat.le_of_eq rfl, rfl, rfl, by decide, by decide⟩ (fun r1 hr => ?_)
      refine am_if_ne (o := 5) (pc1 := 32) (by decide +kernel) hc (fun hq => ?_) (fun hq => ?_)
      · refine am_blk (pc' := 31) (Ls' := [.val (.ref 0), .val (.int x1), .val (.int x2), .val (.int x3), .unset]) (St' := [.int (-1 : Int32)]) (σ' := r1.2) [.iconst (-1)] (by decide +kernel) hc hT hF wi (by exact rfl) ?_
        exact am_retI (by decide +kernel) hc (by decide) (by decide) (fun h W O => ⟨rfl, W, O⟩)
      · refine am_blk (pc' := 34) (Ls' := [.val (.ref 0), .val (.int x1), .val (.int x2), .val (.int x3), .unset]) (St' := [.int x2, .ref 0]) (σ' := r1.2) [.aload_n 0, .iload_n 2] (by decide +kernel) hc hT hF wi (by exact rfl) ?_
        refine am_callP_I (W0 := 0) (argsL := [.int x2]) (rest := []) rfl (lk_C_79 hw) rfl wi (by decide +kernel) hc (SubW.refl _) rfl (by show arity "(I)Z" 1 = true; decide +kernel) (ok_c_isSignal hw x2 _) rfl ⟨by decide, by decide, Nat.le_of_eq rfl, rfl, rfl, by decide, by decide⟩ (fun r2 hr => ?_)
        refine am_if_ne (o := 5) (pc1 := 42) (by decide +kernel) hc (fun hq => ?_) (fun hq => ?_)
        · refine am_blk (pc' := 41) (Ls' := [.val (.ref 0), .val (.int x1), .val (.int x2), .val (.int x3), .unset]) (St' := [.int (-1 : Int32)]) (σ' := r2.2) [.iconst (-1)] (by decide +kernel) hc hT hF wi (by exact rfl) ?_
          exact am_retI (by decide +kernel) hc (by decide) (by decide) (fun h W O => ⟨rfl, W, O⟩)
        · refine am_blk (pc' := 44) (Ls' := [.val (.ref 0), .val (.int x1), .val (.int x2), .val (.int x3), .unset]) (St' := [.int x1, .ref 0]) (σ' := r2.2) [.aload_n 0, .iload_n 1] (by decide +kernel) hc hT hF wi (by exact rfl) ?_
          refine am_callP_I (W0 := 0) (argsL := [.int x1]) (rest := []) rfl (lk_C_82 hw) rfl wi (by decide +kernel) hc (SubW.refl _) rfl (by show arity "(I)Z" 1 = true; decide +kernel) (ok_c_isTwoOperand hw x1 _) rfl ⟨by decide, by decide, Nat.le_of_eq rfl, rfl, rfl, by decide, by decide⟩ (fun r3 hr => ?_)
          refine am_blk (pc' := 51) (Ls' := [.val (.ref 0), .val (.int x1), .val (.int x2), .val (.int x3), .val (.int r3.1)]) (St' := [.int r3.1]) (σ' := r3.2) [.istore 4, .iload 4] (by decide +kernel) hc hT hF wi (by exact rfl) ?_
          refine am_if_eq (o := 13) (pc1 := 64) (by decide +kernel) hc (fun hq => ?_) (fun hq => ?_)
          · exact am_wk (Ls' := [.val (.ref 0), .val (.int x1), .val (.int x2), .val (.int x3), .val (.int r3.1)]) (by simp [wkL]) (okc_c_addGate_64 hw hc x1 x2 x3 r3.1 r3.2)
          · refine am_blk (pc' := 56) (Ls' := [.val (.ref 0), .val (.int x1), .val (.int x2), .val (.int x3), .val (.int r3.1)]) (St' := [.int x3, .ref 0]) (σ' := r3.2) [.aload_n 0, .iload_n 3] (by decide +kernel) hc hT hF wi (by exact rfl) ?_
            refine am_callP_I (W0 := 0) (argsL := [.int x3]) (rest := []) rfl (lk_C_79 hw) rfl wi (by decide +kernel) hc (SubW.refl _) rfl (by show arity "(I)Z" 1 = true; decide +kernel) (ok_c_isSignal hw x3 _) rfl ⟨by decide, by decide, Nat.le_of_eq rfl, rfl, rfl, by decide, by decide⟩ (fun r4 hr => ?_)
            refine am_if_ne (o := 5) (pc1 := 64) (by decide +kernel) hc (fun hq => ?_) (fun hq => ?_)
            · refine am_blk (pc' := 63) (Ls' := [.val (.ref 0), .val (.int x1), .val (.int x2), .val (.int x3), .val (.int r3.1)]) (St' := [.int (-1 : Int32)]) (σ' := r4.2) [.iconst (-1)] (by decide +kernel) hc hT hF wi (by exact rfl) ?_
              exact am_retI (by decide +kernel) hc (by decide) (by decide) (fun h W O => ⟨rfl, W, O⟩)
            · exact am_wk (Ls' := [.val (.ref 0), .val (.int x1), .val (.int x2), .val (.int x3), .val (.int r3.1)]) (by simp [wkL]) (okc_c_addGate_64 hw hc x1 x2 x3 r3.1 r4.2)
    · refine am_blk (pc' := 21) (Ls' := [.val (.ref 0), .val (.int x1), .val (.int x2), .val (.int x3), .unset]) (St' := [.int (-1 : Int32)]) (σ' := σ) [.iconst (-1)] (by decide +kernel) hc hT hF wi (by exact rfl) ?_
      exact am_retI (by decide +kernel) hc (by decide) (by decide) (fun h W O => ⟨rfl, W, O⟩)
abbrev rm_c_markOutput : Room := { frames := 2, cells := 0, slots := 0, locals := 26 }
def c_markOutput (x1 : Int32) (σ : Sg) : Option (Int32 × Sg) :=
  if 0 < (gi σ 0 17) then (some ((0 : Int32), σ)) else (if (gi σ 0 14) < (8 : Int32) then ((c_isSignal x1 σ).bind fun r1 => if r1.1 = 0 then (some ((0 : Int32), r1.2)) else (if inb x1 40 = true then (if (gi r1.2 5 (nx x1)) = 0 then (if inb (gi r1.2 0 14) 8 = true then (some ((1 : Int32), si (si (si r1.2 5 (nx x1) (1 : Int32)) 4 (nx (gi r1.2 0 14)) x1) 0 14 ((gi r1.2 0 14) + (1 : Int32)))) else none) else (some ((0 : Int32), r1.2))) else none)) else (some ((0 : Int32), σ)))
set_option maxRecDepth 65536 in
set_option maxHeartbeats 4000000 in
theorem ok_c_markOutput (hw : WH a0 Z) (x1 : Int32) (σ : Sg) : ∀ x, c_markOutput x1 σ = some x → Con l Z "LogicBist" fsC (⟨"LogicBist", "markOutput", "(I)Z"⟩ : MethodName) prog_1_method_3_code 2 (some .boolean) rm_c_markOutput wC [.ref 0, .int x1] σ (fI x).1 (fI x).2 := by
  refine am_con pnC ?_
  intro p e s m below meth c A n0 h0 hc
  have hT := tabC hw "markOutput"
  have hF := fsokC hw
  have wi := wiC hw
  unfold c_markOutput
  refine am_blk (pc' := 4) (Ls' := [.val (.ref 0), .val (.int x1)]) (St' := [.int (gi σ 0 17)]) (σ' := σ) [.aload_n 0, .getfield 72] (by decide +kernel) hc hT hF wi (by exact rfl) ?_
  refine am_if_le (o := 5) (pc1 := 9) (by decide +kernel) hc (fun hq => ?_) (fun hq => ?_)
  · refine am_blk (pc' := 8) (Ls' := [.val (.ref 0), .val (.int x1)]) (St' := [.int (0 : Int32)]) (σ' := σ) [.iconst 0] (by decide +kernel) hc hT hF wi (by exact rfl) ?_
    exact am_retZ (by decide +kernel) hc (by decide) (by decide) (fun h W O => ⟨rfl, W, O⟩)
  · refine am_blk (pc' := 15) (Ls' := [.val (.ref 0), .val (.int x1)]) (St' := [.int (8 : Int32), .int (gi σ 0 14)]) (σ' := σ) [.aload_n 0, .getfield 59, .bipush 8] (by decide +kernel) hc hT hF wi (by exact rfl) ?_
    refine am_icmp_lt (o := 5) (pc1 := 20) (by decide +kernel) hc (fun hq => ?_) (fun hq => ?_)
    · refine am_blk (pc' := 22) (Ls' := [.val (.ref 0), .val (.int x1)]) (St' := [.int x1, .ref 0]) (σ' := σ) [.aload_n 0, .iload_n 1] (by decide +kernel) hc hT hF wi (by exact rfl) ?_
      refine am_callP_I (W0 := 0) (argsL := [.int x1]) (rest := []) rfl (lk_C_79 hw) rfl wi (by decide +kernel) hc (SubW.refl _) rfl (by show arity "(I)Z" 1 = true; decide +kernel) (ok_c_isSignal hw x1 _) rfl ⟨by decide, by decide, Nat.le_of_eq rfl, rfl, rfl, by decide, by decide⟩ (fun r1 hr => ?_)
      refine am_if_ne (o := 5) (pc1 := 30) (by decide +kernel) hc (fun hq => ?_) (fun hq => ?_)
      · refine am_blk (pc' := 29) (Ls' := [.val (.ref 0), .val (.int x1)]) (St' := [.int (0 : Int32)]) (σ' := r1.2) [.iconst 0] (by decide +kernel) hc hT hF wi (by exact rfl) ?_
        exact am_retZ (by decide +kernel) hc (by decide) (by decide) (fun h W O => ⟨rfl, W, O⟩)
      · refine am_blk (pc' := 35) (Ls' := [.val (.ref 0), .val (.int x1)]) (St' := [.int x1, .ref 5]) (σ' := r1.2) [.aload_n 0, .getfield 22, .iload_n 1] (by decide +kernel) hc hT hF wi (by exact rfl) ?_
        refine am_baloadZ (by decide +kernel) hc rfl (fun hb0 => ?_)
        refine am_if_eq (o := 5) (pc1 := 41) (by decide +kernel) hc (fun hq => ?_) (fun hq => ?_)
        · refine am_blk (pc' := 47) (Ls' := [.val (.ref 0), .val (.int x1)]) (St' := [.int (1 : Int32), .int x1, .ref 5]) (σ' := r1.2) [.aload_n 0, .getfield 22, .iload_n 1, .iconst 1] (by decide +kernel) hc hT hF wi (by exact rfl) ?_
          refine am_bastoreZ_k hb0 (y := (1 : Int32)) rfl (by decide +kernel) hc rfl ?_
          refine am_blk (pc' := 57) (Ls' := [.val (.ref 0), .val (.int x1)]) (St' := [.int x1, .int (gi r1.2 0 14), .ref 4]) (σ' := si r1.2 5 (nx x1) (1 : Int32)) [.aload_n 0, .getfield 19, .aload_n 0, .getfield 59, .iload_n 1] (by decide +kernel) hc hT hF wi (by exact rfl) ?_
          refine am_iastore (y := x1) rfl (by decide +kernel) hc rfl (fun hb1 => ?_)
          refine am_blk (pc' := 69) (Ls' := [.val (.ref 0), .val (.int x1)]) (St' := [.int (1 : Int32)]) (σ' := si (si (si r1.2 5 (nx x1) (1 : Int32)) 4 (nx (gi r1.2 0 14)) x1) 0 14 ((gi r1.2 0 14) + (1 : Int32))) [.aload_n 0, .dup, .getfield 59, .iconst 1, .iadd, .putfield 59, .iconst 1] (by decide +kernel) hc hT hF wi (by exact rfl) ?_
          exact am_retZ (by decide +kernel) hc (by decide) (by decide) (fun h W O => ⟨rfl, W, O⟩)
        · refine am_blk (pc' := 40) (Ls' := [.val (.ref 0), .val (.int x1)]) (St' := [.int (0 : Int32)]) (σ' := r1.2) [.iconst 0] (by decide +kernel) hc hT hF wi (by exact rfl) ?_
          exact am_retZ (by decide +kernel) hc (by decide) (by decide) (fun h W O => ⟨rfl, W, O⟩)
    · refine am_blk (pc' := 19) (Ls' := [.val (.ref 0), .val (.int x1)]) (St' := [.int (0 : Int32)]) (σ' := σ) [.iconst 0] (by decide +kernel) hc hT hF wi (by exact rfl) ?_
      exact am_retZ (by decide +kernel) hc (by decide) (by decide) (fun h W O => ⟨rfl, W, O⟩)
abbrev rm_c_inputLane : Room := { frames := 0, cells := 0, slots := 0, locals := 0 }
def c_inputLane (x1 : Int32) (x2 : Int32) (σ : Sg) : Option (Int64 × Sg) :=
  if x2 < 0 then (some ((0 : Int64), σ)) else (if (31 : Int32) < x2 then (some ((0 : Int64), σ)) else (if ((XT.ushr x1 x2) &&& (1 : Int32)) = 0 then (some ((0 : Int64), σ)) else (some ((-1 : Int64), σ))))
set_option maxRecDepth 65536 in
set_option maxHeartbeats 4000000 in
theorem ok_c_inputLane (hw : WH a0 Z) (x1 : Int32) (x2 : Int32) (σ : Sg) : ∀ x, c_inputLane x1 x2 σ = some x → Con l Z "LogicBist" fsC (⟨"LogicBist", "inputLane", "(II)J"⟩ : MethodName) prog_1_method_24_code 3 (some .long) rm_c_inputLane wC [.ref 0, .int x1, .int x2] σ (fJ x).1 (fJ x).2 := by
  refine am_con pnC ?_
  intro p e s m below meth c A n0 h0 hc
  have hT := tabC hw "inputLane"
  have hF := fsokC hw
  have wi := wiC hw
  unfold c_inputLane
  refine am_blk (pc' := 1) (Ls' := [.val (.ref 0), .val (.int x1), .val (.int x2)]) (St' := [.int x2]) (σ' := σ) [.iload_n 2] (by decide +kernel) hc hT hF wi (by exact rfl) ?_
  refine am_if_lt (o := 9) (pc1 := 10) (by decide +kernel) hc (fun hq => ?_) (fun hq => ?_)
  · refine am_blk (pc' := 11) (Ls' := [.val (.ref 0), .val (.int x1), .val (.int x2)]) (St' := [.long (0 : Int64)]) (σ' := σ) [.lconst 0] (by decide +kernel) hc hT hF wi (by exact rfl) ?_
    exact am_retJ (by decide +kernel) hc (by decide) (by decide) (fun h W O => ⟨rfl, W, O⟩)
  · refine am_blk (pc' := 7) (Ls' := [.val (.ref 0), .val (.int x1), .val (.int x2)]) (St' := [.int (31 : Int32), .int x2]) (σ' := σ) [.iload_n 2, .bipush 31] (by decide +kernel) hc hT hF wi (by exact rfl) ?_
    refine am_icmp_le (o := 5) (pc1 := 12) (by decide +kernel) hc (fun hq => ?_) (fun hq => ?_)
    · refine am_blk (pc' := 11) (Ls' := [.val (.ref 0), .val (.int x1), .val (.int x2)]) (St' := [.long (0 : Int64)]) (σ' := σ) [.lconst 0] (by decide +kernel) hc hT hF wi (by exact rfl) ?_
      exact am_retJ (by decide +kernel) hc (by decide) (by decide) (fun h W O => ⟨rfl, W, O⟩)
    · refine am_blk (pc' := 17) (Ls' := [.val (.ref 0), .val (.int x1), .val (.int x2)]) (St' := [.int ((XT.ushr x1 x2) &&& (1 : Int32))]) (σ' := σ) [.iload_n 1, .iload_n 2, .iushr, .iconst 1, .iand] (by decide +kernel) hc hT hF wi (by exact rfl) ?_
      refine am_if_eq (o := 7) (pc1 := 24) (by decide +kernel) hc (fun hq => ?_) (fun hq => ?_)
      · refine am_blk (pc' := 25) (Ls' := [.val (.ref 0), .val (.int x1), .val (.int x2)]) (St' := [.long (0 : Int64)]) (σ' := σ) [.lconst 0] (by decide +kernel) hc hT hF wi (by exact rfl) ?_
        exact am_retJ (by decide +kernel) hc (by decide) (by decide) (fun h W O => ⟨rfl, W, O⟩)
      · refine am_blk (pc' := 23) (Ls' := [.val (.ref 0), .val (.int x1), .val (.int x2)]) (St' := [.long (-1 : Int64)]) (σ' := σ) [.ldc2_w 161] (by decide +kernel) hc hT hF wi (by exact rfl) ?_
        exact am_retJ (by decide +kernel) hc (by decide) (by decide) (fun h W O => ⟨rfl, W, O⟩)
abbrev rm_c_loadLane : Room := { frames := 0, cells := 0, slots := 0, locals := 0 }
def c_loadLane (x1 : Int32) (σ : Sg) : Option (Int64 × Sg) :=
  if x1 < 0 then (some ((0 : Int64), σ)) else (if x1 < (40 : Int32) then (if inb x1 40 = true then (some (gj σ 9 (nx x1), σ)) else none) else (some ((0 : Int64), σ)))
set_option maxRecDepth 65536 in
set_option maxHeartbeats 4000000 in
theorem ok_c_loadLane (hw : WH a0 Z) (x1 : Int32) (σ : Sg) : ∀ x, c_loadLane x1 σ = some x → Con l Z "LogicBist" fsC (⟨"LogicBist", "loadLane", "(I)J"⟩ : MethodName) prog_1_method_28_code 2 (some .long) rm_c_loadLane wC [.ref 0, .int x1] σ (fJ x).1 (fJ x).2 := by
  refine am_con pnC ?_
  intro p e s m below meth c A n0 h0 hc
  have hT := tabC hw "loadLane"
  have hF := fsokC hw
  have wi := wiC hw
  unfold c_loadLane
  refine am_blk (pc' := 1) (Ls' := [.val (.ref 0), .val (.int x1)]) (St' := [.int x1]) (σ' := σ) [.iload_n 1] (by decide +kernel) hc hT hF wi (by exact rfl) ?_
  refine am_if_lt (o := 9) (pc1 := 10) (by decide +kernel) hc (fun hq => ?_) (fun hq => ?_)
  · refine am_blk (pc' := 11) (Ls' := [.val (.ref 0), .val (.int x1)]) (St' := [.long (0 : Int64)]) (σ' := σ) [.lconst 0] (by decide +kernel) hc hT hF wi (by exact rfl) ?_
    exact am_retJ (by decide +kernel) hc (by decide) (by decide) (fun h W O => ⟨rfl, W, O⟩)
  · refine am_blk (pc' := 7) (Ls' := [.val (.ref 0), .val (.int x1)]) (St' := [.int (40 : Int32), .int x1]) (σ' := σ) [.iload_n 1, .bipush 40] (by decide +kernel) hc hT hF wi (by exact rfl) ?_
    refine am_icmp_lt (o := 5) (pc1 := 12) (by decide +kernel) hc (fun hq => ?_) (fun hq => ?_)
    · refine am_blk (pc' := 17) (Ls' := [.val (.ref 0), .val (.int x1)]) (St' := [.int x1, .ref 9]) (σ' := σ) [.aload_n 0, .getfield 35, .iload_n 1] (by decide +kernel) hc hT hF wi (by exact rfl) ?_
      refine am_laload (by decide +kernel) hc rfl (fun hb0 => ?_)
      exact am_retJ (by decide +kernel) hc (by decide) (by decide) (fun h W O => ⟨rfl, W, O⟩)
    · refine am_blk (pc' := 11) (Ls' := [.val (.ref 0), .val (.int x1)]) (St' := [.long (0 : Int64)]) (σ' := σ) [.lconst 0] (by decide +kernel) hc hT hF wi (by exact rfl) ?_
      exact am_retJ (by decide +kernel) hc (by decide) (by decide) (fun h W O => ⟨rfl, W, O⟩)
abbrev rm_c_combine : Room := { frames := 0, cells := 0, slots := 0, locals := 0 }
def c_combine (x1 : Int32) (y2 : Int64) (y4 : Int64) (σ : Sg) : Option (Int64 × Sg) :=
  if x1 = 0 then (some (y2 &&& y4, σ)) else (if x1 = (1 : Int32) then (some (y2 ||| y4, σ)) else (if x1 = (2 : Int32) then (some ((y2 &&& y4) ^^^ (-1 : Int64), σ)) else (if x1 = (3 : Int32) then (some ((y2 ||| y4) ^^^ (-1 : Int64), σ)) else (if x1 = (4 : Int32) then (some (y2 ^^^ y4, σ)) else (if x1 = (5 : Int32) then (some ((y2 ^^^ y4) ^^^ (-1 : Int64), σ)) else (if x1 = (6 : Int32) then (some (y2 ^^^ (-1 : Int64), σ)) else (some (y2, σ))))))))
set_option maxRecDepth 65536 in
set_option maxHeartbeats 4000000 in
theorem ok_c_combine (hw : WH a0 Z) (x1 : Int32) (y2 : Int64) (y4 : Int64) (σ : Sg) : ∀ x, c_combine x1 y2 y4 σ = some x → Con l Z "LogicBist" fsC (⟨"LogicBist", "combine", "(IJJ)J"⟩ : MethodName) prog_1_method_26_code 6 (some .long) rm_c_combine wC [.ref 0, .int x1, .long y2, .long y4] σ (fJ x).1 (fJ x).2 := by
  refine am_con pnC ?_
  intro p e s m below meth c A n0 h0 hc
  have hT := tabC hw "combine"
  have hF := fsokC hw
  have wi := wiC hw
  unfold c_combine
  refine am_blk (pc' := 1) (Ls' := [.val (.ref 0), .val (.int x1), .val (.long y2), .second, .val (.long y4), .second]) (St' := [.int x1]) (σ' := σ) [.iload_n 1] (by decide +kernel) hc hT hF wi (by exact rfl) ?_
  refine am_if_ne (o := 8) (pc1 := 9) (by decide +kernel) hc (fun hq => ?_) (fun hq => ?_)
  · refine am_blk (pc' := 8) (Ls' := [.val (.ref 0), .val (.int x1), .val (.long y2), .second, .val (.long y4), .second]) (St' := [.long (y2 &&& y4)]) (σ' := σ) [.lload_n 2, .lload 4, .land] (by decide +kernel) hc hT hF wi (by exact rfl) ?_
    exact am_retJ (by decide +kernel) hc (by decide) (by decide) (fun h W O => ⟨rfl, W, O⟩)
  · refine am_blk (pc' := 11) (Ls' := [.val (.ref 0), .val (.int x1), .val (.long y2), .second, .val (.long y4), .second]) (St' := [.int (1 : Int32), .int x1]) (σ' := σ) [.iload_n 1, .iconst 1] (by decide +kernel) hc hT hF wi (by exact rfl) ?_
    refine am_icmp_ne (o := 8) (pc1 := 19) (by decide +kernel) hc (fun hq => ?_) (fun hq => ?_)
    · refine am_blk (pc' := 18) (Ls' := [.val (.ref 0), .val (.int x1), .val (.long y2), .second, .val (.long y4), .second]) (St' := [.long (y2 ||| y4)]) (σ' := σ) [.lload_n 2, .lload 4, .lor] (by decide +kernel) hc hT hF wi (by exact rfl) ?_
      exact am_retJ (by decide +kernel) hc (by decide) (by decide) (fun h W O => ⟨rfl, W, O⟩)
    · refine am_blk (pc' := 21) (Ls' := [.val (.ref 0), .val (.int x1), .val (.long y2), .second, .val (.long y4), .second]) (St' := [.int (2 : Int32), .int x1]) (σ' := σ) [.iload_n 1, .iconst 2] (by decide +kernel) hc hT hF wi (by exact rfl) ?_
      refine am_icmp_ne (o := 12) (pc1 := 33) (by decide +kernel) hc (fun hq => ?_) (fun hq => ?_)
      · refine am_blk (pc' := 32) (Ls' := [.val (.ref 0), .val (.int x1), .val (.long y2), .second, .val (.long y4), .second]) (St' := [.long ((y2 &&& y4) ^^^ (-1 : Int64))]) (σ' := σ) [.lload_n 2, .lload 4, .land, .ldc2_w 161, .lxor] (by decide +kernel) hc hT hF wi (by exact rfl) ?_
        exact am_retJ (by decide +kernel) hc (by decide) (by decide) (fun h W O => ⟨rfl, W, O⟩)
      · refine am_blk (pc' := 35) (Ls' := [.val (.ref 0), .val (.int x1), .val (.long y2), .second, .val (.long y4), .second]) (St' := [.int (3 : Int32), .int x1]) (σ' := σ) [.iload_n 1, .iconst 3] (by decide +kernel) hc hT hF wi (by exact rfl) ?_
        refine am_icmp_ne (o := 12) (pc1 := 47) (by decide +kernel) hc (fun hq => ?_) (fun hq => ?_)
        · refine am_blk (pc' := 46) (Ls' := [.val (.ref 0), .val (.int x1), .val (.long y2), .second, .val (.long y4), .second]) (St' := [.long ((y2 ||| y4) ^^^ (-1 : Int64))]) (σ' := σ) [.lload_n 2, .lload 4, .lor, .ldc2_w 161, .lxor] (by decide +kernel) hc hT hF wi (by exact rfl) ?_
          exact am_retJ (by decide +kernel) hc (by decide) (by decide) (fun h W O => ⟨rfl, W, O⟩)
        · refine am_blk (pc' := 49) (Ls' := [.val (.ref 0), .val (.int x1), .val (.long y2), .second, .val (.long y4), .second]) (St' := [.int (4 : Int32), .int x1]) (σ' := σ) [.iload_n 1, .iconst 4] (by decide +kernel) hc hT hF wi (by exact rfl) ?_
          refine am_icmp_ne (o := 8) (pc1 := 57) (by decide +kernel) hc (fun hq => ?_) (fun hq => ?_)
          · refine am_blk (pc' := 56) (Ls' := [.val (.ref 0), .val (.int x1), .val (.long y2), .second, .val (.long y4), .second]) (St' := [.long (y2 ^^^ y4)]) (σ' := σ) [.lload_n 2, .lload 4, .lxor] (by decide +kernel) hc hT hF wi (by exact rfl) ?_
            exact am_retJ (by decide +kernel) hc (by decide) (by decide) (fun h W O => ⟨rfl, W, O⟩)
          · refine am_blk (pc' := 59) (Ls' := [.val (.ref 0), .val (.int x1), .val (.long y2), .second, .val (.long y4), .second]) (St' := [.int (5 : Int32), .int x1]) (σ' := σ) [.iload_n 1, .iconst 5] (by decide +kernel) hc hT hF wi (by exact rfl) ?_
            refine am_icmp_ne (o := 12) (pc1 := 71) (by decide +kernel) hc (fun hq => ?_) (fun hq => ?_)
            · refine am_blk (pc' := 70) (Ls' := [.val (.ref 0), .val (.int x1), .val (.long y2), .second, .val (.long y4), .second]) (St' := [.long ((y2 ^^^ y4) ^^^ (-1 : Int64))]) (σ' := σ) [.lload_n 2, .lload 4, .lxor, .ldc2_w 161, .lxor] (by decide +kernel) hc hT hF wi (by exact rfl) ?_
              exact am_retJ (by decide +kernel) hc (by decide) (by decide) (fun h W O => ⟨rfl, W, O⟩)
            · refine am_blk (pc' := 74) (Ls' := [.val (.ref 0), .val (.int x1), .val (.long y2), .second, .val (.long y4), .second]) (St' := [.int (6 : Int32), .int x1]) (σ' := σ) [.iload_n 1, .bipush 6] (by decide +kernel) hc hT hF wi (by exact rfl) ?_
              refine am_icmp_ne (o := 9) (pc1 := 83) (by decide +kernel) hc (fun hq => ?_) (fun hq => ?_)
              · refine am_blk (pc' := 82) (Ls' := [.val (.ref 0), .val (.int x1), .val (.long y2), .second, .val (.long y4), .second]) (St' := [.long (y2 ^^^ (-1 : Int64))]) (σ' := σ) [.lload_n 2, .ldc2_w 161, .lxor] (by decide +kernel) hc hT hF wi (by exact rfl) ?_
                exact am_retJ (by decide +kernel) hc (by decide) (by decide) (fun h W O => ⟨rfl, W, O⟩)
              · refine am_blk (pc' := 84) (Ls' := [.val (.ref 0), .val (.int x1), .val (.long y2), .second, .val (.long y4), .second]) (St' := [.long y2]) (σ' := σ) [.lload_n 2] (by decide +kernel) hc hT hF wi (by exact rfl) ?_
                exact am_retJ (by decide +kernel) hc (by decide) (by decide) (fun h W O => ⟨rfl, W, O⟩)
abbrev rm_c_gateLane : Room := { frames := 1, cells := 0, slots := 0, locals := 17 }
def c_gateLane_53 (x2 : Int32) (y3 : Int64) (y5 : Int64) (σ : Sg) : Option (Int64 × Sg) :=
  (c_combine x2 y3 y5 σ).bind fun r1 => some (r1.1, r1.2)
set_option maxRecDepth 65536 in
set_option maxHeartbeats 4000000 in
theorem okc_c_gateLane_53 (hw : WH a0 Z) (hc : Cx p s m meth c Z "LogicBist" prog_1_method_25_code 7 (some .long) "gateLane") (x2 : Int32) (y3 : Int64) (y5 : Int64) (σ : Sg) : OkR p l e rm_c_gateLane s m args below meth c Z "LogicBist" fsC n0 h0 (FM Z "LogicBist" fsC A wC h0 fJ) A wC 0 0 53 [.val (.ref 0), .unset, .val (.int x2), .val (.long y3), .unset, .val (.long y5), .unset] [] σ (c_gateLane_53 x2 y3 y5 σ) := by
  have hT := tabC hw "gateLane"
  have hF := fsokC hw
  have wi := wiC hw
  unfold c_gateLane_53
  refine am_blk (pc' := 58) (Ls' := [.val (.ref 0), .unset, .val (.int x2), .val (.long y3), .unset, .val (.long y5), .unset]) (St' := [.long y5, .long y3, .int x2, .ref 0]) (σ' := σ) [.aload_n 0, .iload_n 2, .lload_n 3, .lload 5] (by decide +kernel) hc hT hF wi (by exact rfl) ?_
  refine am_callP_J (W0 := 0) (argsL := [.int x2, .long y3, .long y5]) (rest := []) rfl (lk_C_166 hw) rfl wi (by decide +kernel) hc (SubW.refl _) rfl (by show arity "(IJJ)J" 3 = true; decide +kernel) (ok_c_combine hw x2 y3 y5 _) rfl ⟨by decide, by decide, Nat.le_of_eq rfl, rfl, rfl, by decide, by decide⟩ (fun r1 hr => ?_)
  exact am_retJ (by decide +kernel) hc (by decide) (by decide) (fun h W O => ⟨rfl, W, O⟩)
def c_gateLane (x1 : Int32) (σ : Sg) : Option (Int64 × Sg) :=
  if x1 < 0 then (some ((0 : Int64), σ)) else (if x1 < (32 : Int32) then (if inb x1 32 = true then ((c_loadLane (gi σ 2 (nx x1)) σ).bind fun r1 => (c_isTwoOperand (gi σ 1 (nx x1)) r1.2).bind fun r2 => if r2.1 = 0 then (c_gateLane_53 (gi σ 1 (nx x1)) r1.1 (0 : Int64) r2.2) else ((c_loadLane (gi r2.2 3 (nx x1)) r2.2).bind fun r3 => c_gateLane_53 (gi σ 1 (nx x1)) r1.1 r3.1 r3.2)) else none) else (some ((0 : Int64), σ)))
set_option maxRecDepth 65536 in
set_option maxHeartbeats 4000000 in
theorem ok_c_gateLane (hw : WH a0 Z) (x1 : Int32) (σ : Sg) : ∀ x, c_gateLane x1 σ = some x → Con l Z "LogicBist" fsC (⟨"LogicBist", "gateLane", "(I)J"⟩ : MethodName) prog_1_method_25_code 7 (some .long) rm_c_gateLane wC [.ref 0, .int x1] σ (fJ x).1 (fJ x).2 := by
  refine am_con pnC ?_
  intro p e s m below meth c A n0 h0 hc
  have hT := tabC hw "gateLane"
  have hF := fsokC hw
  have wi := wiC hw
  unfold c_gateLane
  refine am_blk (pc' := 1) (Ls' := [.val (.ref 0), .val (.int x1), .unset, .unset, .unset, .unset, .unset]) (St' := [.int x1]) (σ' := σ) [.iload_n 1] (by decide +kernel) hc hT hF wi (by exact rfl) ?_
  refine am_if_lt (o := 9) (pc1 := 10) (by decide +kernel) hc (fun hq => ?_) (fun hq => ?_)
  · refine am_blk (pc' := 11) (Ls' := [.val (.ref 0), .val (.int x1), .unset, .unset, .unset, .unset, .unset]) (St' := [.long (0 : Int64)]) (σ' := σ) [.lconst 0] (by decide +kernel) hc hT hF wi (by exact rfl) ?_
    exact am_retJ (by decide +kernel) hc (by decide) (by decide) (fun h W O => ⟨rfl, W, O⟩)
  · refine am_blk (pc' := 7) (Ls' := [.val (.ref 0), .val (.int x1), .unset, .unset, .unset, .unset, .unset]) (St' := [.int (32 : Int32), .int x1]) (σ' := σ) [.iload_n 1, .bipush 32] (by decide +kernel) hc hT hF wi (by exact rfl) ?_
    refine am_icmp_lt (o := 5) (pc1 := 12) (by decide +kernel) hc (fun hq => ?_) (fun hq => ?_)
    · refine am_blk (pc' := 17) (Ls' := [.val (.ref 0), .val (.int x1), .unset, .unset, .unset, .unset, .unset]) (St' := [.int x1, .ref 1]) (σ' := σ) [.aload_n 0, .getfield 7, .iload_n 1] (by decide +kernel) hc hT hF wi (by exact rfl) ?_
      refine am_iaload (by decide +kernel) hc rfl (fun hb0 => ?_)
      refine am_blk (pc' := 25) (Ls' := [.val (.ref 0), .val (.int x1), .val (.int (gi σ 1 (nx x1))), .unset, .unset, .unset, .unset]) (St' := [.int x1, .ref 2, .ref 0]) (σ' := σ) [.istore_n 2, .aload_n 0, .aload_n 0, .getfield 13, .iload_n 1] (by decide +kernel) hc hT hF wi (by exact rfl) ?_
      refine am_iaload_k hb0 (by decide +kernel) hc rfl ?_
      refine am_callP_J (W0 := 0) (argsL := [.int (gi σ 2 (nx x1))]) (rest := []) rfl (lk_C_163 hw) rfl wi (by decide +kernel) hc (SubW.refl _) rfl (by show arity "(I)J" 1 = true; decide +kernel) (ok_c_loadLane hw (gi σ 2 (nx x1)) _) rfl ⟨by decide, by decide, Nat.le_of_eq rfl, rfl, rfl, by decide, by decide⟩ (fun r1 hr => ?_)
      refine am_blk (pc' := 35) (Ls' := [.val (.ref 0), .val (.int x1), .val (.int (gi σ 1 (nx x1))), .val (.long r1.1), .second, .val (.long (0 : Int64)), .second]) (St' := [.int (gi σ 1 (nx x1)), .ref 0]) (σ' := r1.2) [.lstore_n 3, .lconst 0, .lstore 5, .aload_n 0, .iload_n 2] (by decide +kernel) hc hT hF wi (by exact rfl) ?_
      refine am_callP_I (W0 := 0) (argsL := [.int (gi σ 1 (nx x1))]) (rest := []) rfl (lk_C_82 hw) rfl wi (by decide +kernel) hc (SubW.refl _) rfl (by show arity "(I)Z" 1 = true; decide +kernel) (ok_c_isTwoOperand hw (gi σ 1 (nx x1)) _) rfl ⟨by decide, by decide, Nat.le_of_eq rfl, rfl, rfl, by decide, by decide⟩ (fun r2 hr => ?_)
      refine am_if_eq (o := 15) (pc1 := 53) (by decide +kernel) hc (fun hq => ?_) (fun hq => ?_)
      · exact am_wk (Ls' := [.val (.ref 0), .unset, .val (.int (gi σ 1 (nx x1))), .val (.long r1.1), .unset, .val (.long (0 : Int64)), .unset]) (by simp [wkL]) (okc_c_gateLane_53 hw hc (gi σ 1 (nx x1)) r1.1 (0 : Int64) r2.2)
      · refine am_blk (pc' := 47) (Ls' := [.val (.ref 0), .val (.int x1), .val (.int (gi σ 1 (nx x1))), .val (.long r1.1), .second, .val (.long (0 : Int64)), .second]) (St' := [.int x1, .ref 3, .ref 0]) (σ' := r2.2) [.aload_n 0, .aload_n 0, .getfield 16, .iload_n 1] (by decide +kernel) hc hT hF wi (by exact rfl) ?_
        refine am_iaload_k hb0 (by decide +kernel) hc rfl ?_
        refine am_callP_J (W0 := 0) (argsL := [.int (gi r2.2 3 (nx x1))]) (rest := []) rfl (lk_C_163 hw) rfl wi (by decide +kernel) hc (SubW.refl _) rfl (by show arity "(I)J" 1 = true; decide +kernel) (ok_c_loadLane hw (gi r2.2 3 (nx x1)) _) rfl ⟨by decide, by decide, Nat.le_of_eq rfl, rfl, rfl, by decide, by decide⟩ (fun r3 hr => ?_)
        refine am_blk (pc' := 53) (Ls' := [.val (.ref 0), .val (.int x1), .val (.int (gi σ 1 (nx x1))), .val (.long r1.1), .second, .val (.long r3.1), .second]) (St' := []) (σ' := r3.2) [.lstore 5] (by decide +kernel) hc hT hF wi (by exact rfl) ?_
        exact am_wk (Ls' := [.val (.ref 0), .unset, .val (.int (gi σ 1 (nx x1))), .val (.long r1.1), .unset, .val (.long r3.1), .unset]) (by simp [wkL]) (okc_c_gateLane_53 hw hc (gi σ 1 (nx x1)) r1.1 r3.1 r3.2)
    · refine am_blk (pc' := 11) (Ls' := [.val (.ref 0), .val (.int x1), .unset, .unset, .unset, .unset, .unset]) (St' := [.long (0 : Int64)]) (σ' := σ) [.lconst 0] (by decide +kernel) hc hT hF wi (by exact rfl) ?_
      exact am_retJ (by decide +kernel) hc (by decide) (by decide) (fun h W O => ⟨rfl, W, O⟩)
abbrev rm_c_forceLane : Room := { frames := 0, cells := 0, slots := 0, locals := 0 }
def c_forceLane (y1 : Int64) (x3 : Int32) (x4 : Int32) (σ : Sg) : Option (Int64 × Sg) :=
  if x4 < 0 then (some (y1, σ)) else (if x3 < 0 then (some (y1, σ)) else (if (XT.ushr x3 (5 : Int32)) = x4 then (some ((y1 &&& (((1 : Int64) <<< (((x3 <<< ((1 : Int32) &&& 31)) &&& (63 : Int32)).toInt64 &&& 63)) ^^^ (-1 : Int64))) ||| ((1 : Int64) <<< ((((x3 <<< ((1 : Int32) &&& 31)) &&& (63 : Int32)) + (1 : Int32)).toInt64 &&& 63)), σ)) else (some (y1, σ))))
set_option maxRecDepth 65536 in
set_option maxHeartbeats 4000000 in
theorem ok_c_forceLane (hw : WH a0 Z) (y1 : Int64) (x3 : Int32) (x4 : Int32) (σ : Sg) : ∀ x, c_forceLane y1 x3 x4 σ = some x → Con l Z "LogicBist" fsC (⟨"LogicBist", "forceLane", "(JII)J"⟩ : MethodName) prog_1_method_27_code 10 (some .long) rm_c_forceLane wC [.ref 0, .long y1, .int x3, .int x4] σ (fJ x).1 (fJ x).2 := by
  refine am_con pnC ?_
  intro p e s m below meth c A n0 h0 hc
  have hT := tabC hw "forceLane"
  have hF := fsokC hw
  have wi := wiC hw
  unfold c_forceLane
  refine am_blk (pc' := 2) (Ls' := [.val (.ref 0), .val (.long y1), .second, .val (.int x3), .val (.int x4), .unset, .unset, .unset, .unset, .unset]) (St' := [.int x4]) (σ' := σ) [.iload 4] (by decide +kernel) hc hT hF wi (by exact rfl) ?_
  refine am_if_lt (o := 7) (pc1 := 9) (by decide +kernel) hc (fun hq => ?_) (fun hq => ?_)
  · refine am_blk (pc' := 10) (Ls' := [.val (.ref 0), .val (.long y1), .second, .val (.int x3), .val (.int x4), .unset, .unset, .unset, .unset, .unset]) (St' := [.long y1]) (σ' := σ) [.lload_n 1] (by decide +kernel) hc hT hF wi (by exact rfl) ?_
    exact am_retJ (by decide +kernel) hc (by decide) (by decide) (fun h W O => ⟨rfl, W, O⟩)
  · refine am_blk (pc' := 6) (Ls' := [.val (.ref 0), .val (.long y1), .second, .val (.int x3), .val (.int x4), .unset, .unset, .unset, .unset, .unset]) (St' := [.int x3]) (σ' := σ) [.iload_n 3] (by decide +kernel) hc hT hF wi (by exact rfl) ?_
    refine am_if_ge (o := 5) (pc1 := 11) (by decide +kernel) hc (fun hq => ?_) (fun hq => ?_)
    · refine am_blk (pc' := 10) (Ls' := [.val (.ref 0), .val (.long y1), .second, .val (.int x3), .val (.int x4), .unset, .unset, .unset, .unset, .unset]) (St' := [.long y1]) (σ' := σ) [.lload_n 1] (by decide +kernel) hc hT hF wi (by exact rfl) ?_
      exact am_retJ (by decide +kernel) hc (by decide) (by decide) (fun h W O => ⟨rfl, W, O⟩)
    · refine am_blk (pc' := 16) (Ls' := [.val (.ref 0), .val (.long y1), .second, .val (.int x3), .val (.int x4), .unset, .unset, .unset, .unset, .unset]) (St' := [.int x4, .int (XT.ushr x3 (5 : Int32))]) (σ' := σ) [.iload_n 3, .iconst 5, .iushr, .iload 4] (by decide +kernel) hc hT hF wi (by exact rfl) ?_
      refine am_icmp_eq (o := 5) (pc1 := 21) (by decide +kernel) hc (fun hq => ?_) (fun hq => ?_)
      · refine am_blk (pc' := 54) (Ls' := [.val (.ref 0), .val (.long y1), .second, .val (.int x3), .val (.int x4), .val (.int ((x3 <<< ((1 : Int32) &&& 31)) &&& (63 : Int32))), .val (.long ((1 : Int64) <<< (((x3 <<< ((1 : Int32) &&& 31)) &&& (63 : Int32)).toInt64 &&& 63))), .second, .val (.long ((1 : Int64) <<< ((((x3 <<< ((1 : Int32) &&& 31)) &&& (63 : Int32)) + (1 : Int32)).toInt64 &&& 63))), .second]) (St' := [.long ((y1 &&& (((1 : Int64) <<< (((x3 <<< ((1 : Int32) &&& 31)) &&& (63 : Int32)).toInt64 &&& 63)) ^^^ (-1 : Int64))) ||| ((1 : Int64) <<< ((((x3 <<< ((1 : Int32) &&& 31)) &&& (63 : Int32)) + (1 : Int32)).toInt64 &&& 63)))]) (σ' := σ) [.iload_n 3, .iconst 1, .ishl, .bipush 63, .iand, .istore 5, .lconst 1, .iload 5, .lshl, .lstore 6, .lconst 1, .iload 5, .iconst 1, .iadd, .lshl, .lstore 8, .lload_n 1, .lload 6, .ldc2_w 161, .lxor, .land, .lload 8, .lor] (by decide +kernel) hc hT hF wi (by exact rfl) ?_
        exact am_retJ (by decide +kernel) hc (by decide) (by decide) (fun h W O => ⟨rfl, W, O⟩)
      · refine am_blk (pc' := 20) (Ls' := [.val (.ref 0), .val (.long y1), .second, .val (.int x3), .val (.int x4), .unset, .unset, .unset, .unset, .unset]) (St' := [.long y1]) (σ' := σ) [.lload_n 1] (by decide +kernel) hc hT hF wi (by exact rfl) ?_
        exact am_retJ (by decide +kernel) hc (by decide) (by decide) (fun h W O => ⟨rfl, W, O⟩)
abbrev rm_c_evaluateGroup : Room := { frames := 2, cells := 0, slots := 0, locals := 35 }
def c_evaluateGroup_55 (k8 : Int32 → Int32 → Int32 → Int32 → Sg → Option Sg) (x1 : Int32) (x2 : Int32) (x3 : Int32) (x4 : Int32) (y5 : Int64) (σ : Sg) : Option Sg :=
  (c_forceLane y5 x4 x2 σ).bind fun r1 => if inb x4 40 = true then (k8 x1 x2 x3 (x4 + (1 : Int32)) (sj r1.2 9 (nx x4) r1.1)) else none
set_option maxRecDepth 65536 in
set_option maxHeartbeats 4000000 in
theorem okc_c_evaluateGroup_55 (hw : WH a0 Z) (hc : Cx p s m meth c Z "LogicBist" prog_1_method_23_code 7 none "evaluateGroup") (k8 : Int32 → Int32 → Int32 → Int32 → Sg → Option Sg) (hk8 : ∀ (x1 : Int32) (x2 : Int32) (x3 : Int32) (x4 : Int32) (σ : Sg), OkR p l e rm_c_evaluateGroup s m args below meth c Z "LogicBist" fsC n0 h0 (FM Z "LogicBist" fsC A wC h0 fV) A wC 0 0 8 [.val (.ref 0), .val (.int x1), .val (.int x2), .val (.int x3), .val (.int x4), .unset, .unset] [] σ (k8 x1 x2 x3 x4 σ)) (x1 : Int32) (x2 : Int32) (x3 : Int32) (x4 : Int32) (y5 : Int64) (σ : Sg) : OkR p l e rm_c_evaluateGroup s m args below meth c Z "LogicBist" fsC n0 h0 (FM Z "LogicBist" fsC A wC h0 fV) A wC 0 0 55 [.val (.ref 0), .val (.int x1), .val (.int x2), .val (.int x3), .val (.int x4), .val (.long y5), .unset] [] σ (c_evaluateGroup_55 k8 x1 x2 x3 x4 y5 σ) := by
  have hT := tabC hw "evaluateGroup"
  have hF := fsokC hw
  have wi := wiC hw
  unfold c_evaluateGroup_55
  refine am_blk (pc' := 67) (Ls' := [.val (.ref 0), .val (.int x1), .val (.int x2), .val (.int x3), .val (.int x4), .val (.long y5), .unset]) (St' := [.int x2, .int x4, .long y5, .ref 0, .int x4, .ref 9]) (σ' := σ) [.aload_n 0, .getfield 35, .iload 4, .aload_n 0, .lload 5, .iload 4, .iload_n 2] (by decide +kernel) hc hT hF wi (by exact rfl) ?_
  refine am_callP_J (W0 := 2) (argsL := [.long y5, .int x4, .int x2]) (rest := [.int x4, .ref 9]) rfl (lk_C_157 hw) rfl wi (by decide +kernel) hc (SubW.refl _) rfl (by show arity "(JII)J" 3 = true; decide +kernel) (ok_c_forceLane hw y5 x4 x2 _) rfl ⟨by decide, by decide, Nat.le_of_eq rfl, rfl, rfl, by decide, by decide⟩ (fun r1 hr => ?_)
  refine am_lastore (y := r1.1) rfl (by decide +kernel) hc rfl (fun hb0 => ?_)
  refine am_blk (pc' := 8) (Ls' := [.val (.ref 0), .val (.int x1), .val (.int x2), .val (.int x3), .val (.int (x4 + (1 : Int32))), .val (.long y5), .unset]) (St' := []) (σ' := sj r1.2 9 (nx x4) r1.1) [.iinc 4 1, .goto (-66)] (by decide +kernel) hc hT hF wi (by exact rfl) ?_
  exact am_wk (Ls' := [.val (.ref 0), .val (.int x1), .val (.int x2), .val (.int x3), .val (.int (x4 + (1 : Int32))), .unset, .unset]) (by simp [wkL]) (hk8 x1 x2 x3 (x4 + (1 : Int32)) (sj r1.2 9 (nx x4) r1.1))
def c_evaluateGroup_8 : Nat → Int32 → Int32 → Int32 → Int32 → Sg → Option Sg
  | 0, _, _, _, _, _ => none
  | fuel + 1, x1, x2, x3, x4, σ =>
    if x4 < x3 then (if x4 < (40 : Int32) then (if x4 < (gi σ 0 9) then ((c_inputLane x1 x4 σ).bind fun r1 => c_evaluateGroup_55 (c_evaluateGroup_8 fuel) x1 x2 x3 x4 r1.1 r1.2) else ((c_gateLane (x4 - (gi σ 0 9)) σ).bind fun r2 => c_evaluateGroup_55 (c_evaluateGroup_8 fuel) x1 x2 x3 x4 r2.1 r2.2)) else (some σ)) else (some σ)
set_option maxRecDepth 65536 in
set_option maxHeartbeats 4000000 in
theorem okc_c_evaluateGroup_8 (hw : WH a0 Z) (hc : Cx p s m meth c Z "LogicBist" prog_1_method_23_code 7 none "evaluateGroup") : ∀ (fuel : Nat) (x1 : Int32) (x2 : Int32) (x3 : Int32) (x4 : Int32) (σ : Sg), OkR p l e rm_c_evaluateGroup s m args below meth c Z "LogicBist" fsC n0 h0 (FM Z "LogicBist" fsC A wC h0 fV) A wC 0 0 8 [.val (.ref 0), .val (.int x1), .val (.int x2), .val (.int x3), .val (.int x4), .unset, .unset] [] σ (c_evaluateGroup_8 fuel x1 x2 x3 x4 σ) := by
  have hT := tabC hw "evaluateGroup"
  have hF := fsokC hw
  have wi := wiC hw
  intro fuel
  induction fuel with
  | zero => intro x1 x2 x3 x4 σ; exact am_none rfl
  | succ fuel ih =>
    intro x1 x2 x3 x4 σ
    rw [c_evaluateGroup_8]
    refine am_blk (pc' := 11) (Ls' := [.val (.ref 0), .val (.int x1), .val (.int x2), .val (.int x3), .val (.int x4), .unset, .unset]) (St' := [.int x3, .int x4]) (σ' := σ) [.iload 4, .iload_n 3] (by decide +kernel) hc hT hF wi (by exact rfl) ?_
    refine am_icmp_ge (o := 66) (pc1 := 77) (by decide +kernel) hc (fun hq => ?_) (fun hq => ?_)
    · refine am_blk (pc' := 18) (Ls' := [.val (.ref 0), .val (.int x1), .val (.int x2), .val (.int x3), .val (.int x4), .unset, .unset]) (St' := [.int (40 : Int32), .int x4]) (σ' := σ) [.iload 4, .bipush 40] (by decide +kernel) hc hT hF wi (by exact rfl) ?_
      refine am_icmp_ge (o := 59) (pc1 := 77) (by decide +kernel) hc (fun hq => ?_) (fun hq => ?_)
      · refine am_blk (pc' := 27) (Ls' := [.val (.ref 0), .val (.int x1), .val (.int x2), .val (.int x3), .val (.int x4), .unset, .unset]) (St' := [.int (gi σ 0 9), .int x4]) (σ' := σ) [.iload 4, .aload_n 0, .getfield 43] (by decide +kernel) hc hT hF wi (by exact rfl) ?_
        refine am_icmp_ge (o := 15) (pc1 := 42) (by decide +kernel) hc (fun hq => ?_) (fun hq => ?_)
        · refine am_blk (pc' := 34) (Ls' := [.val (.ref 0), .val (.int x1), .val (.int x2), .val (.int x3), .val (.int x4), .unset, .unset]) (St' := [.int x4, .int x1, .ref 0]) (σ' := σ) [.aload_n 0, .iload_n 1, .iload 4] (by decide +kernel) hc hT hF wi (by exact rfl) ?_
          refine am_callP_J (W0 := 0) (argsL := [.int x1, .int x4]) (rest := []) rfl (lk_C_149 hw) rfl wi (by decide +kernel) hc (SubW.refl _) rfl (by show arity "(II)J" 2 = true; decide +kernel) (ok_c_inputLane hw x1 x4 _) rfl ⟨by decide, by decide, Nat.le_of_eq rfl, rfl, rfl, by decide, by decide⟩ (fun r1 hr => ?_)
          refine am_blk (pc' := 55) (Ls' := [.val (.ref 0), .val (.int x1), .val (.int x2), .val (.int x3), .val (.int x4), .val (.long r1.1), .second]) (St' := []) (σ' := r1.2) [.lstore 5, .goto 16] (by decide +kernel) hc hT hF wi (by exact rfl) ?_
          exact am_wk (Ls' := [.val (.ref 0), .val (.int x1), .val (.int x2), .val (.int x3), .val (.int x4), .val (.long r1.1), .unset]) (by simp [wkL]) (okc_c_evaluateGroup_55 hw hc _ ih x1 x2 x3 x4 r1.1 r1.2)
        · refine am_blk (pc' := 50) (Ls' := [.val (.ref 0), .val (.int x1), .val (.int x2), .val (.int x3), .val (.int x4), .unset, .unset]) (St' := [.int (x4 - (gi σ 0 9)), .ref 0]) (σ' := σ) [.aload_n 0, .iload 4, .aload_n 0, .getfield 43, .isub] (by decide +kernel) hc hT hF wi (by exact rfl) ?_
          refine am_callP_J (W0 := 0) (argsL := [.int (x4 - (gi σ 0 9))]) (rest := []) rfl (lk_C_153 hw) rfl wi (by decide +kernel) hc (SubW.refl _) rfl (by show arity "(I)J" 1 = true; decide +kernel) (ok_c_gateLane hw (x4 - (gi σ 0 9)) _) rfl ⟨by decide, by decide, Nat.le_of_eq rfl, rfl, rfl, by decide, by decide⟩ (fun r2 hr => ?_)
          refine am_blk (pc' := 55) (Ls' := [.val (.ref 0), .val (.int x1), .val (.int x2), .val (.int x3), .val (.int x4), .val (.long r2.1), .second]) (St' := []) (σ' := r2.2) [.lstore 5] (by decide +kernel) hc hT hF wi (by exact rfl) ?_
          exact am_wk (Ls' := [.val (.ref 0), .val (.int x1), .val (.int x2), .val (.int x3), .val (.int x4), .val (.long r2.1), .unset]) (by simp [wkL]) (okc_c_evaluateGroup_55 hw hc _ ih x1 x2 x3 x4 r2.1 r2.2)
      · exact am_retV (by decide +kernel) hc (by decide) (by decide) (fun h W O => ⟨rfl, W, O⟩)
    · exact am_retV (by decide +kernel) hc (by decide) (by decide) (fun h W O => ⟨rfl, W, O⟩)
def c_evaluateGroup (x1 : Int32) (x2 : Int32) (σ : Sg) : Option Sg :=
  (c_signalCount σ).bind fun r1 => c_evaluateGroup_8 400 x1 x2 r1.1 (0 : Int32) r1.2
set_option maxRecDepth 65536 in
set_option maxHeartbeats 4000000 in
theorem ok_c_evaluateGroup (hw : WH a0 Z) (x1 : Int32) (x2 : Int32) (σ : Sg) : ∀ x, c_evaluateGroup x1 x2 σ = some x → Con l Z "LogicBist" fsC (⟨"LogicBist", "evaluateGroup", "(II)V"⟩ : MethodName) prog_1_method_23_code 7 none rm_c_evaluateGroup wC [.ref 0, .int x1, .int x2] σ (fV x).1 (fV x).2 := by
  refine am_con pnC ?_
  intro p e s m below meth c A n0 h0 hc
  have hT := tabC hw "evaluateGroup"
  have hF := fsokC hw
  have wi := wiC hw
  unfold c_evaluateGroup
  refine am_blk (pc' := 1) (Ls' := [.val (.ref 0), .val (.int x1), .val (.int x2), .unset, .unset, .unset, .unset]) (St' := [.ref 0]) (σ' := σ) [.aload_n 0] (by decide +kernel) hc hT hF wi (by exact rfl) ?_
  refine am_callP_I (W0 := 0) (argsL := []) (rest := []) rfl (lk_C_146 hw) rfl wi (by decide +kernel) hc (SubW.refl _) rfl (by show arity "()I" 0 = true; decide +kernel) (ok_c_signalCount hw _) rfl ⟨by decide, by decide, Nat.le_of_eq rfl, rfl, rfl, by decide, by decide⟩ (fun r1 hr => ?_)
  refine am_blk (pc' := 8) (Ls' := [.val (.ref 0), .val (.int x1), .val (.int x2), .val (.int r1.1), .val (.int (0 : Int32)), .unset, .unset]) (St' := []) (σ' := r1.2) [.istore_n 3, .iconst 0, .istore 4] (by decide +kernel) hc hT hF wi (by exact rfl) ?_
  exact am_wk (Ls' := [.val (.ref 0), .val (.int x1), .val (.int x2), .val (.int r1.1), .val (.int (0 : Int32)), .unset, .unset]) (by simp [wkL]) (okc_c_evaluateGroup_8 hw hc 400 x1 x2 r1.1 (0 : Int32) r1.2)
abbrev rm_c_outputWordAt : Room := { frames := 1, cells := 0, slots := 0, locals := 13 }
def c_outputWordAt_59 (k16 : Int32 → Int32 → Int32 → Sg → Option (Int32 × Sg)) (x1 : Int32) (x2 : Int32) (x3 : Int32) (σ : Sg) : Option (Int32 × Sg) :=
  k16 x1 x2 (x3 + (1 : Int32)) σ
set_option maxRecDepth 65536 in
set_option maxHeartbeats 4000000 in
theorem okc_c_outputWordAt_59 (hw : WH a0 Z) (hc : Cx p s m meth c Z "LogicBist" prog_1_method_29_code 6 (some .int) "outputWordAt") (k16 : Int32 → Int32 → Int32 → Sg → Option (Int32 × Sg)) (hk16 : ∀ (x1 : Int32) (x2 : Int32) (x3 : Int32) (σ : Sg), OkR p l e rm_c_outputWordAt s m args below meth c Z "LogicBist" fsC n0 h0 (FM Z "LogicBist" fsC A wC h0 fI) A wC 0 0 16 [.val (.ref 0), .val (.int x1), .val (.int x2), .val (.int x3), .unset, .unset] [] σ (k16 x1 x2 x3 σ)) (x1 : Int32) (x2 : Int32) (x3 : Int32) (σ : Sg) : OkR p l e rm_c_outputWordAt s m args below meth c Z "LogicBist" fsC n0 h0 (FM Z "LogicBist" fsC A wC h0 fI) A wC 0 0 59 [.val (.ref 0), .val (.int x1), .val (.int x2), .val (.int x3), .unset, .unset] [] σ (c_outputWordAt_59 k16 x1 x2 x3 σ) := by
  have hT := tabC hw "outputWordAt"
  have hF := fsokC hw
  have wi := wiC hw
  unfold c_outputWordAt_59
  refine am_blk (pc' := 16) (Ls' := [.val (.ref 0), .val (.int x1), .val (.int x2), .val (.int (x3 + (1 : Int32))), .unset, .unset]) (St' := []) (σ' := σ) [.iinc 3 1, .goto (-46)] (by decide +kernel) hc hT hF wi (by exact rfl) ?_
  exact am_wk (Ls' := [.val (.ref 0), .val (.int x1), .val (.int x2), .val (.int (x3 + (1 : Int32))), .unset, .unset]) (by simp [wkL]) (hk16 x1 x2 (x3 + (1 : Int32)) σ)
def c_outputWordAt_16 : Nat → Int32 → Int32 → Int32 → Sg → Option (Int32 × Sg)
  | 0, _, _, _, _ => none
  | fuel + 1, x1, x2, x3, σ =>
    if x3 < (gi σ 0 14) then (if x3 < (8 : Int32) then (if inb x3 8 = true then ((c_loadLane (gi σ 4 (nx x3)) σ).bind fun r1 => if (XT.cmpL ((XT.ushrL r1.1 x1) &&& (1 : Int64)) (0 : Int64)) = 0 then (c_outputWordAt_59 (c_outputWordAt_16 fuel) x1 x2 x3 r1.2) else (c_outputWordAt_59 (c_outputWordAt_16 fuel) x1 (x2 ||| ((1 : Int32) <<< (x3 &&& 31))) x3 r1.2)) else none) else (some (x2, σ))) else (some (x2, σ))
set_option maxRecDepth 65536 in
set_option maxHeartbeats 4000000 in
theorem okc_c_outputWordAt_16 (hw : WH a0 Z) (hc : Cx p s m meth c Z "LogicBist" prog_1_method_29_code 6 (some .int) "outputWordAt") : ∀ (fuel : Nat) (x1 : Int32) (x2 : Int32) (x3 : Int32) (σ : Sg), OkR p l e rm_c_outputWordAt s m args below meth c Z "LogicBist" fsC n0 h0 (FM Z "LogicBist" fsC A wC h0 fI) A wC 0 0 16 [.val (.ref 0), .val (.int x1), .val (.int x2), .val (.int x3), .unset, .unset] [] σ (c_outputWordAt_16 fuel x1 x2 x3 σ) := by
  have hT := tabC hw "outputWordAt"
  have hF := fsokC hw
  have wi := wiC hw
  intro fuel
  induction fuel with
  | zero => intro x1 x2 x3 σ; exact am_none rfl
  | succ fuel ih =>
    intro x1 x2 x3 σ
    rw [c_outputWordAt_16]
    refine am_blk (pc' := 21) (Ls' := [.val (.ref 0), .val (.int x1), .val (.int x2), .val (.int x3), .unset, .unset]) (St' := [.int (gi σ 0 14), .int x3]) (σ' := σ) [.iload_n 3, .aload_n 0, .getfield 59] (by decide +kernel) hc hT hF wi (by exact rfl) ?_
    refine am_icmp_ge (o := 44) (pc1 := 65) (by decide +kernel) hc (fun hq => ?_) (fun hq => ?_)
    · refine am_blk (pc' := 27) (Ls' := [.val (.ref 0), .val (.int x1), .val (.int x2), .val (.int x3), .unset, .unset]) (St' := [.int (8 : Int32), .int x3]) (σ' := σ) [.iload_n 3, .bipush 8] (by decide +kernel) hc hT hF wi (by exact rfl) ?_
      refine am_icmp_ge (o := 38) (pc1 := 65) (by decide +kernel) hc (fun hq => ?_) (fun hq => ?_)
      · refine am_blk (pc' := 36) (Ls' := [.val (.ref 0), .val (.int x1), .val (.int x2), .val (.int x3), .unset, .unset]) (St' := [.int x3, .ref 4, .ref 0]) (σ' := σ) [.aload_n 0, .aload_n 0, .getfield 19, .iload_n 3] (by decide +kernel) hc hT hF wi (by exact rfl) ?_
        refine am_iaload (by decide +kernel) hc rfl (fun hb0 => ?_)
        refine am_callP_J (W0 := 0) (argsL := [.int (gi σ 4 (nx x3))]) (rest := []) rfl (lk_C_163 hw) rfl wi (by decide +kernel) hc (SubW.refl _) rfl (by show arity "(I)J" 1 = true; decide +kernel) (ok_c_loadLane hw (gi σ 4 (nx x3)) _) rfl ⟨by decide, by decide, Nat.le_of_eq rfl, rfl, rfl, by decide, by decide⟩ (fun r1 hr => ?_)
        refine am_blk (pc' := 50) (Ls' := [.val (.ref 0), .val (.int x1), .val (.int x2), .val (.int x3), .val (.long r1.1), .second]) (St' := [.int (XT.cmpL ((XT.ushrL r1.1 x1) &&& (1 : Int64)) (0 : Int64))]) (σ' := r1.2) [.lstore 4, .lload 4, .iload_n 1, .lushr, .lconst 1, .land, .lconst 0, .lcmp] (by decide +kernel) hc hT hF wi (by exact rfl) ?_
        refine am_if_eq (o := 9) (pc1 := 59) (by decide +kernel) hc (fun hq => ?_) (fun hq => ?_)
        · exact am_wk (Ls' := [.val (.ref 0), .val (.int x1), .val (.int x2), .val (.int x3), .unset, .unset]) (by simp [wkL]) (okc_c_outputWordAt_59 hw hc _ ih x1 x2 x3 r1.2)
        · refine am_blk (pc' := 59) (Ls' := [.val (.ref 0), .val (.int x1), .val (.int (x2 ||| ((1 : Int32) <<< (x3 &&& 31)))), .val (.int x3), .val (.long r1.1), .second]) (St' := []) (σ' := r1.2) [.iload_n 2, .iconst 1, .iload_n 3, .ishl, .ior, .istore_n 2] (by decide +kernel) hc hT hF wi (by exact rfl) ?_
          exact am_wk (Ls' := [.val (.ref 0), .val (.int x1), .val (.int (x2 ||| ((1 : Int32) <<< (x3 &&& 31)))), .val (.int x3), .unset, .unset]) (by simp [wkL]) (okc_c_outputWordAt_59 hw hc _ ih x1 (x2 ||| ((1 : Int32) <<< (x3 &&& 31))) x3 r1.2)
      · refine am_blk (pc' := 66) (Ls' := [.val (.ref 0), .val (.int x1), .val (.int x2), .val (.int x3), .unset, .unset]) (St' := [.int x2]) (σ' := σ) [.iload_n 2] (by decide +kernel) hc hT hF wi (by exact rfl) ?_
        exact am_retI (by decide +kernel) hc (by decide) (by decide) (fun h W O => ⟨rfl, W, O⟩)
    · refine am_blk (pc' := 66) (Ls' := [.val (.ref 0), .val (.int x1), .val (.int x2), .val (.int x3), .unset, .unset]) (St' := [.int x2]) (σ' := σ) [.iload_n 2] (by decide +kernel) hc hT hF wi (by exact rfl) ?_
      exact am_retI (by decide +kernel) hc (by decide) (by decide) (fun h W O => ⟨rfl, W, O⟩)
def c_outputWordAt (x1 : Int32) (σ : Sg) : Option (Int32 × Sg) :=
  if x1 < 0 then (some ((0 : Int32), σ)) else (if (63 : Int32) < x1 then (some ((0 : Int32), σ)) else (c_outputWordAt_16 400 x1 (0 : Int32) (0 : Int32) σ))
set_option maxRecDepth 65536 in
set_option maxHeartbeats 4000000 in
theorem ok_c_outputWordAt (hw : WH a0 Z) (x1 : Int32) (σ : Sg) : ∀ x, c_outputWordAt x1 σ = some x → Con l Z "LogicBist" fsC (⟨"LogicBist", "outputWordAt", "(I)I"⟩ : MethodName) prog_1_method_29_code 6 (some .int) rm_c_outputWordAt wC [.ref 0, .int x1] σ (fI x).1 (fI x).2 := by
  refine am_con pnC ?_
  intro p e s m below meth c A n0 h0 hc
  have hT := tabC hw "outputWordAt"
  have hF := fsokC hw
  have wi := wiC hw
  unfold c_outputWordAt
  refine am_blk (pc' := 1) (Ls' := [.val (.ref 0), .val (.int x1), .unset, .unset, .unset, .unset]) (St' := [.int x1]) (σ' := σ) [.iload_n 1] (by decide +kernel) hc hT hF wi (by exact rfl) ?_
  refine am_if_lt (o := 9) (pc1 := 10) (by decide +kernel) hc (fun hq => ?_) (fun hq => ?_)
  · refine am_blk (pc' := 11) (Ls' := [.val (.ref 0), .val (.int x1), .unset, .unset, .unset, .unset]) (St' := [.int (0 : Int32)]) (σ' := σ) [.iconst 0] (by decide +kernel) hc hT hF wi (by exact rfl) ?_
    exact am_retI (by decide +kernel) hc (by decide) (by decide) (fun h W O => ⟨rfl, W, O⟩)
  · refine am_blk (pc' := 7) (Ls' := [.val (.ref 0), .val (.int x1), .unset, .unset, .unset, .unset]) (St' := [.int (63 : Int32), .int x1]) (σ' := σ) [.iload_n 1, .bipush 63] (by decide +kernel) hc hT hF wi (by exact rfl) ?_
    refine am_icmp_le (o := 5) (pc1 := 12) (by decide +kernel) hc (fun hq => ?_) (fun hq => ?_)
    · refine am_blk (pc' := 11) (Ls' := [.val (.ref 0), .val (.int x1), .unset, .unset, .unset, .unset]) (St' := [.int (0 : Int32)]) (σ' := σ) [.iconst 0] (by decide +kernel) hc hT hF wi (by exact rfl) ?_
      exact am_retI (by decide +kernel) hc (by decide) (by decide) (fun h W O => ⟨rfl, W, O⟩)
    · refine am_blk (pc' := 16) (Ls' := [.val (.ref 0), .val (.int x1), .val (.int (0 : Int32)), .val (.int (0 : Int32)), .unset, .unset]) (St' := []) (σ' := σ) [.iconst 0, .istore_n 2, .iconst 0, .istore_n 3] (by decide +kernel) hc hT hF wi (by exact rfl) ?_
      exact am_wk (Ls' := [.val (.ref 0), .val (.int x1), .val (.int (0 : Int32)), .val (.int (0 : Int32)), .unset, .unset]) (by simp [wkL]) (okc_c_outputWordAt_16 hw hc 400 x1 (0 : Int32) (0 : Int32) σ)
abbrev rm_c_misrStep : Room := { frames := 0, cells := 0, slots := 0, locals := 0 }
def c_misrStep_65 (k26 : Int32 → Int32 → Int32 → Sg → Option (Int32 × Sg)) (x2 : Int32) (x4 : Int32) (x5 : Int32) (σ : Sg) : Option (Int32 × Sg) :=
  k26 x2 x4 (x5 + (1 : Int32)) σ
set_option maxRecDepth 65536 in
set_option maxHeartbeats 4000000 in
theorem okc_c_misrStep_65 (hw : WH a0 Z) (hc : Cx p s m meth c Z "LogicBist" prog_1_method_30_code 6 (some .int) "misrStep") (k26 : Int32 → Int32 → Int32 → Sg → Option (Int32 × Sg)) (hk26 : ∀ (x2 : Int32) (x4 : Int32) (x5 : Int32) (σ : Sg), OkR p l e rm_c_misrStep s m args below meth c Z "LogicBist" fsC n0 h0 (FM Z "LogicBist" fsC A wC h0 fI) A wC 0 0 26 [.val (.ref 0), .unset, .val (.int x2), .unset, .val (.int x4), .val (.int x5)] [] σ (k26 x2 x4 x5 σ)) (x2 : Int32) (x4 : Int32) (x5 : Int32) (σ : Sg) : OkR p l e rm_c_misrStep s m args below meth c Z "LogicBist" fsC n0 h0 (FM Z "LogicBist" fsC A wC h0 fI) A wC 0 0 65 [.val (.ref 0), .unset, .val (.int x2), .unset, .val (.int x4), .val (.int x5)] [] σ (c_misrStep_65 k26 x2 x4 x5 σ) := by
  have hT := tabC hw "misrStep"
  have hF := fsokC hw
  have wi := wiC hw
  unfold c_misrStep_65
  refine am_blk (pc' := 26) (Ls' := [.val (.ref 0), .unset, .val (.int x2), .unset, .val (.int x4), .val (.int (x5 + (1 : Int32)))]) (St' := []) (σ' := σ) [.iinc 5 1, .goto (-42)] (by decide +kernel) hc hT hF wi (by exact rfl) ?_
  exact am_wk (Ls' := [.val (.ref 0), .unset, .val (.int x2), .unset, .val (.int x4), .val (.int (x5 + (1 : Int32)))]) (by simp [wkL]) (hk26 x2 x4 (x5 + (1 : Int32)) σ)
def c_misrStep_26 : Nat → Int32 → Int32 → Int32 → Sg → Option (Int32 × Sg)
  | 0, _, _, _, _ => none
  | fuel + 1, x2, x4, x5, σ =>
    if x5 < (gi σ 0 14) then (if x5 < (8 : Int32) then (if ((XT.ushr x2 x5) &&& (1 : Int32)) = 0 then (c_misrStep_65 (c_misrStep_26 fuel) x2 x4 x5 σ) else (if (gi σ 0 11) = 0 then none else (c_misrStep_65 (c_misrStep_26 fuel) x2 (x4 ^^^ ((1 : Int32) <<< ((x5 % (gi σ 0 11)) &&& 31))) x5 σ))) else (some (x4, σ))) else (some (x4, σ))
set_option maxRecDepth 65536 in
set_option maxHeartbeats 4000000 in
theorem okc_c_misrStep_26 (hw : WH a0 Z) (hc : Cx p s m meth c Z "LogicBist" prog_1_method_30_code 6 (some .int) "misrStep") : ∀ (fuel : Nat) (x2 : Int32) (x4 : Int32) (x5 : Int32) (σ : Sg), OkR p l e rm_c_misrStep s m args below meth c Z "LogicBist" fsC n0 h0 (FM Z "LogicBist" fsC A wC h0 fI) A wC 0 0 26 [.val (.ref 0), .unset, .val (.int x2), .unset, .val (.int x4), .val (.int x5)] [] σ (c_misrStep_26 fuel x2 x4 x5 σ) := by
  have hT := tabC hw "misrStep"
  have hF := fsokC hw
  have wi := wiC hw
  intro fuel
  induction fuel with
  | zero => intro x2 x4 x5 σ; exact am_none rfl
  | succ fuel ih =>
    intro x2 x4 x5 σ
    rw [c_misrStep_26]
    refine am_blk (pc' := 32) (Ls' := [.val (.ref 0), .unset, .val (.int x2), .unset, .val (.int x4), .val (.int x5)]) (St' := [.int (gi σ 0 14), .int x5]) (σ' := σ) [.iload 5, .aload_n 0, .getfield 59] (by decide +kernel) hc hT hF wi (by exact rfl) ?_
    refine am_icmp_ge (o := 39) (pc1 := 71) (by decide +kernel) hc (fun hq => ?_) (fun hq => ?_)
    · refine am_blk (pc' := 39) (Ls' := [.val (.ref 0), .unset, .val (.int x2), .unset, .val (.int x4), .val (.int x5)]) (St' := [.int (8 : Int32), .int x5]) (σ' := σ) [.iload 5, .bipush 8] (by decide +kernel) hc hT hF wi (by exact rfl) ?_
      refine am_icmp_ge (o := 32) (pc1 := 71) (by decide +kernel) hc (fun hq => ?_) (fun hq => ?_)
      · refine am_blk (pc' := 48) (Ls' := [.val (.ref 0), .unset, .val (.int x2), .unset, .val (.int x4), .val (.int x5)]) (St' := [.int ((XT.ushr x2 x5) &&& (1 : Int32))]) (σ' := σ) [.iload_n 2, .iload 5, .iushr, .iconst 1, .iand] (by decide +kernel) hc hT hF wi (by exact rfl) ?_
        refine am_if_eq (o := 17) (pc1 := 65) (by decide +kernel) hc (fun hq => ?_) (fun hq => ?_)
        · exact am_wk (Ls' := [.val (.ref 0), .unset, .val (.int x2), .unset, .val (.int x4), .val (.int x5)]) (by simp [wkL]) (okc_c_misrStep_65 hw hc _ ih x2 x4 x5 σ)
        · refine am_blk (pc' := 60) (Ls' := [.val (.ref 0), .unset, .val (.int x2), .unset, .val (.int x4), .val (.int x5)]) (St' := [.int (gi σ 0 11), .int x5, .int (1 : Int32), .int x4]) (σ' := σ) [.iload 4, .iconst 1, .iload 5, .aload_n 0, .getfield 50] (by decide +kernel) hc hT hF wi (by exact rfl) ?_
          refine am_irem (by decide +kernel) hc (fun hy => ?_)
          refine am_blk (pc' := 65) (Ls' := [.val (.ref 0), .unset, .val (.int x2), .unset, .val (.int (x4 ^^^ ((1 : Int32) <<< ((x5 % (gi σ 0 11)) &&& 31)))), .val (.int x5)]) (St' := []) (σ' := σ) [.ishl, .ixor, .istore 4] (by decide +kernel) hc hT hF wi (by exact rfl) ?_
          exact am_wk (Ls' := [.val (.ref 0), .unset, .val (.int x2), .unset, .val (.int (x4 ^^^ ((1 : Int32) <<< ((x5 % (gi σ 0 11)) &&& 31)))), .val (.int x5)]) (by simp [wkL]) (okc_c_misrStep_65 hw hc _ ih x2 (x4 ^^^ ((1 : Int32) <<< ((x5 % (gi σ 0 11)) &&& 31))) x5 σ)
      · refine am_blk (pc' := 73) (Ls' := [.val (.ref 0), .unset, .val (.int x2), .unset, .val (.int x4), .val (.int x5)]) (St' := [.int x4]) (σ' := σ) [.iload 4] (by decide +kernel) hc hT hF wi (by exact rfl) ?_
        exact am_retI (by decide +kernel) hc (by decide) (by decide) (fun h W O => ⟨rfl, W, O⟩)
    · refine am_blk (pc' := 73) (Ls' := [.val (.ref 0), .unset, .val (.int x2), .unset, .val (.int x4), .val (.int x5)]) (St' := [.int x4]) (σ' := σ) [.iload 4] (by decide +kernel) hc hT hF wi (by exact rfl) ?_
      exact am_retI (by decide +kernel) hc (by decide) (by decide) (fun h W O => ⟨rfl, W, O⟩)
def c_misrStep_23 (x2 : Int32) (x4 : Int32) (σ : Sg) : Option (Int32 × Sg) :=
  c_misrStep_26 400 x2 x4 (0 : Int32) σ
set_option maxRecDepth 65536 in
set_option maxHeartbeats 4000000 in
theorem okc_c_misrStep_23 (hw : WH a0 Z) (hc : Cx p s m meth c Z "LogicBist" prog_1_method_30_code 6 (some .int) "misrStep") (x2 : Int32) (x4 : Int32) (σ : Sg) : OkR p l e rm_c_misrStep s m args below meth c Z "LogicBist" fsC n0 h0 (FM Z "LogicBist" fsC A wC h0 fI) A wC 0 0 23 [.val (.ref 0), .unset, .val (.int x2), .unset, .val (.int x4), .unset] [] σ (c_misrStep_23 x2 x4 σ) := by
  have hT := tabC hw "misrStep"
  have hF := fsokC hw
  have wi := wiC hw
  unfold c_misrStep_23
  refine am_blk (pc' := 26) (Ls' := [.val (.ref 0), .unset, .val (.int x2), .unset, .val (.int x4), .val (.int (0 : Int32))]) (St' := []) (σ' := σ) [.iconst 0, .istore 5] (by decide +kernel) hc hT hF wi (by exact rfl) ?_
  exact am_wk (Ls' := [.val (.ref 0), .unset, .val (.int x2), .unset, .val (.int x4), .val (.int (0 : Int32))]) (by simp [wkL]) (okc_c_misrStep_26 hw hc 400 x2 x4 (0 : Int32) σ)
def c_misrStep (x1 : Int32) (x2 : Int32) (σ : Sg) : Option (Int32 × Sg) :=
  if (x1 &&& (1 : Int32)) = (1 : Int32) then (c_misrStep_23 x2 ((XT.ushr x1 (1 : Int32)) ^^^ (gi σ 0 16)) σ) else (c_misrStep_23 x2 (XT.ushr x1 (1 : Int32)) σ)
set_option maxRecDepth 65536 in
set_option maxHeartbeats 4000000 in
theorem ok_c_misrStep (hw : WH a0 Z) (x1 : Int32) (x2 : Int32) (σ : Sg) : ∀ x, c_misrStep x1 x2 σ = some x → Con l Z "LogicBist" fsC (⟨"LogicBist", "misrStep", "(II)I"⟩ : MethodName) prog_1_method_30_code 6 (some .int) rm_c_misrStep wC [.ref 0, .int x1, .int x2] σ (fI x).1 (fI x).2 := by
  refine am_con pnC ?_
  intro p e s m below meth c A n0 h0 hc
  have hT := tabC hw "misrStep"
  have hF := fsokC hw
  have wi := wiC hw
  unfold c_misrStep
  refine am_blk (pc' := 11) (Ls' := [.val (.ref 0), .val (.int x1), .val (.int x2), .val (.int (x1 &&& (1 : Int32))), .val (.int (XT.ushr x1 (1 : Int32))), .unset]) (St' := [.int (1 : Int32), .int (x1 &&& (1 : Int32))]) (σ' := σ) [.iload_n 1, .iconst 1, .iand, .istore_n 3, .iload_n 1, .iconst 1, .iushr, .istore 4, .iload_n 3, .iconst 1] (by decide +kernel) hc hT hF wi (by exact rfl) ?_
  refine am_icmp_ne (o := 12) (pc1 := 23) (by decide +kernel) hc (fun hq => ?_) (fun hq => ?_)
  · refine am_blk (pc' := 23) (Ls' := [.val (.ref 0), .val (.int x1), .val (.int x2), .val (.int (x1 &&& (1 : Int32))), .val (.int ((XT.ushr x1 (1 : Int32)) ^^^ (gi σ 0 16))), .unset]) (St' := []) (σ' := σ) [.iload 4, .aload_n 0, .getfield 66, .ixor, .istore 4] (by decide +kernel) hc hT hF wi (by exact rfl) ?_
    exact am_wk (Ls' := [.val (.ref 0), .unset, .val (.int x2), .unset, .val (.int ((XT.ushr x1 (1 : Int32)) ^^^ (gi σ 0 16))), .unset]) (by simp [wkL]) (okc_c_misrStep_23 hw hc x2 ((XT.ushr x1 (1 : Int32)) ^^^ (gi σ 0 16)) σ)
  · exact am_wk (Ls' := [.val (.ref 0), .unset, .val (.int x2), .unset, .val (.int (XT.ushr x1 (1 : Int32))), .unset]) (by simp [wkL]) (okc_c_misrStep_23 hw hc x2 (XT.ushr x1 (1 : Int32)) σ)
abbrev rm_c_faultCount : Room := { frames := 1, cells := 0, slots := 0, locals := 13 }
def c_faultCount (σ : Sg) : Option (Int32 × Sg) :=
  (c_signalCount σ).bind fun r1 => some ((2 : Int32) * r1.1, r1.2)
set_option maxRecDepth 65536 in
set_option maxHeartbeats 4000000 in
theorem ok_c_faultCount (hw : WH a0 Z) (σ : Sg) : ∀ x, c_faultCount σ = some x → Con l Z "LogicBist" fsC (⟨"LogicBist", "faultCount", "()I"⟩ : MethodName) prog_1_method_33_code 1 (some .int) rm_c_faultCount wC [.ref 0] σ (fI x).1 (fI x).2 := by
  refine am_con pnC ?_
  intro p e s m below meth c A n0 h0 hc
  have hT := tabC hw "faultCount"
  have hF := fsokC hw
  have wi := wiC hw
  unfold c_faultCount
  refine am_blk (pc' := 2) (Ls' := [.val (.ref 0)]) (St' := [.ref 0, .int (2 : Int32)]) (σ' := σ) [.iconst 2, .aload_n 0] (by decide +kernel) hc hT hF wi (by exact rfl) ?_
  refine am_callP_I (W0 := 1) (argsL := []) (rest := [.int (2 : Int32)]) rfl (lk_C_146 hw) rfl wi (by decide +kernel) hc (SubW.refl _) rfl (by show arity "()I" 0 = true; decide +kernel) (ok_c_signalCount hw _) rfl ⟨by decide, by decide, Nat.le_of_eq rfl, rfl, rfl, by decide, by decide⟩ (fun r1 hr => ?_)
  refine am_blk (pc' := 6) (Ls' := [.val (.ref 0)]) (St' := [.int ((2 : Int32) * r1.1)]) (σ' := r1.2) [.imul] (by decide +kernel) hc hT hF wi (by exact rfl) ?_
  exact am_retI (by decide +kernel) hc (by decide) (by decide) (fun h W O => ⟨rfl, W, O⟩)
abbrev rm_c_groupCount : Room := { frames := 2, cells := 0, slots := 0, locals := 25 }
def c_groupCount (σ : Sg) : Option (Int32 × Sg) :=
  (c_faultCount σ).bind fun r1 => some (XT.ushr (r1.1 + (63 : Int32)) (6 : Int32), r1.2)
set_option maxRecDepth 65536 in
set_option maxHeartbeats 4000000 in
theorem ok_c_groupCount (hw : WH a0 Z) (σ : Sg) : ∀ x, c_groupCount σ = some x → Con l Z "LogicBist" fsC (⟨"LogicBist", "groupCount", "()I"⟩ : MethodName) prog_1_method_34_code 1 (some .int) rm_c_groupCount wC [.ref 0] σ (fI x).1 (fI x).2 := by
  refine am_con pnC ?_
  intro p e s m below meth c A n0 h0 hc
  have hT := tabC hw "groupCount"
  have hF := fsokC hw
  have wi := wiC hw
  unfold c_groupCount
  refine am_blk (pc' := 1) (Ls' := [.val (.ref 0)]) (St' := [.ref 0]) (σ' := σ) [.aload_n 0] (by decide +kernel) hc hT hF wi (by exact rfl) ?_
  refine am_callP_I (W0 := 0) (argsL := []) (rest := []) rfl (lk_C_118 hw) rfl wi (by decide +kernel) hc (SubW.refl _) rfl (by show arity "()I" 0 = true; decide +kernel) (ok_c_faultCount hw _) rfl ⟨by decide, by decide, Nat.le_of_eq rfl, rfl, rfl, by decide, by decide⟩ (fun r1 hr => ?_)
  refine am_blk (pc' := 10) (Ls' := [.val (.ref 0)]) (St' := [.int (XT.ushr (r1.1 + (63 : Int32)) (6 : Int32))]) (σ' := r1.2) [.bipush 63, .iadd, .bipush 6, .iushr] (by decide +kernel) hc hT hF wi (by exact rfl) ?_
  exact am_retI (by decide +kernel) hc (by decide) (by decide) (fun h W O => ⟨rfl, W, O⟩)
abbrev rm_c_groupFirst : Room := { frames := 0, cells := 0, slots := 0, locals := 0 }
def c_groupFirst (x1 : Int32) (σ : Sg) : Option (Int32 × Sg) :=
  some (x1 <<< ((6 : Int32) &&& 31), σ)
set_option maxRecDepth 65536 in
set_option maxHeartbeats 4000000 in
theorem ok_c_groupFirst (hw : WH a0 Z) (x1 : Int32) (σ : Sg) : ∀ x, c_groupFirst x1 σ = some x → Con l Z "LogicBist" fsC (⟨"LogicBist", "groupFirst", "(I)I"⟩ : MethodName) prog_1_method_35_code 2 (some .int) rm_c_groupFirst wC [.ref 0, .int x1] σ (fI x).1 (fI x).2 := by
  refine am_con pnC ?_
  intro p e s m below meth c A n0 h0 hc
  have hT := tabC hw "groupFirst"
  have hF := fsokC hw
  have wi := wiC hw
  unfold c_groupFirst
  refine am_blk (pc' := 4) (Ls' := [.val (.ref 0), .val (.int x1)]) (St' := [.int (x1 <<< ((6 : Int32) &&& 31))]) (σ' := σ) [.iload_n 1, .bipush 6, .ishl] (by decide +kernel) hc hT hF wi (by exact rfl) ?_
  exact am_retI (by decide +kernel) hc (by decide) (by decide) (fun h W O => ⟨rfl, W, O⟩)
abbrev rm_c_groupEnd : Room := { frames := 2, cells := 0, slots := 0, locals := 25 }
def c_groupEnd (x1 : Int32) (σ : Sg) : Option (Int32 × Sg) :=
  (c_groupFirst x1 σ).bind fun r1 => (c_faultCount r1.2).bind fun r2 => if r2.1 < (r1.1 + (64 : Int32)) then (some (r2.1, r2.2)) else (some (r1.1 + (64 : Int32), r2.2))
set_option maxRecDepth 65536 in
set_option maxHeartbeats 4000000 in
theorem ok_c_groupEnd (hw : WH a0 Z) (x1 : Int32) (σ : Sg) : ∀ x, c_groupEnd x1 σ = some x → Con l Z "LogicBist" fsC (⟨"LogicBist", "groupEnd", "(I)I"⟩ : MethodName) prog_1_method_36_code 4 (some .int) rm_c_groupEnd wC [.ref 0, .int x1] σ (fI x).1 (fI x).2 := by
  refine am_con pnC ?_
  intro p e s m below meth c A n0 h0 hc
  have hT := tabC hw "groupEnd"
  have hF := fsokC hw
  have wi := wiC hw
  unfold c_groupEnd
  refine am_blk (pc' := 2) (Ls' := [.val (.ref 0), .val (.int x1), .unset, .unset]) (St' := [.int x1, .ref 0]) (σ' := σ) [.aload_n 0, .iload_n 1] (by decide +kernel) hc hT hF wi (by exact rfl) ?_
  refine am_callP_I (W0 := 0) (argsL := [.int x1]) (rest := []) rfl (lk_C_140 hw) rfl wi (by decide +kernel) hc (SubW.refl _) rfl (by show arity "(I)I" 1 = true; decide +kernel) (ok_c_groupFirst hw x1 _) rfl ⟨by decide, by decide, Nat.le_of_eq rfl, rfl, rfl, by decide, by decide⟩ (fun r1 hr => ?_)
  refine am_blk (pc' := 10) (Ls' := [.val (.ref 0), .val (.int x1), .val (.int (r1.1 + (64 : Int32))), .unset]) (St' := [.ref 0]) (σ' := r1.2) [.bipush 64, .iadd, .istore_n 2, .aload_n 0] (by decide +kernel) hc hT hF wi (by exact rfl) ?_
  refine am_callP_I (W0 := 0) (argsL := []) (rest := []) rfl (lk_C_118 hw) rfl wi (by decide +kernel) hc (SubW.refl _) rfl (by show arity "()I" 0 = true; decide +kernel) (ok_c_faultCount hw _) rfl ⟨by decide, by decide, Nat.le_of_eq rfl, rfl, rfl, by decide, by decide⟩ (fun r2 hr => ?_)
  refine am_blk (pc' := 16) (Ls' := [.val (.ref 0), .val (.int x1), .val (.int (r1.1 + (64 : Int32))), .val (.int r2.1)]) (St' := [.int r2.1, .int (r1.1 + (64 : Int32))]) (σ' := r2.2) [.istore_n 3, .iload_n 2, .iload_n 3] (by decide +kernel) hc hT hF wi (by exact rfl) ?_
  refine am_icmp_le (o := 5) (pc1 := 21) (by decide +kernel) hc (fun hq => ?_) (fun hq => ?_)
  · refine am_blk (pc' := 20) (Ls' := [.val (.ref 0), .val (.int x1), .val (.int (r1.1 + (64 : Int32))), .val (.int r2.1)]) (St' := [.int r2.1]) (σ' := r2.2) [.iload_n 3] (by decide +kernel) hc hT hF wi (by exact rfl) ?_
    exact am_retI (by decide +kernel) hc (by decide) (by decide) (fun h W O => ⟨rfl, W, O⟩)
  · refine am_blk (pc' := 22) (Ls' := [.val (.ref 0), .val (.int x1), .val (.int (r1.1 + (64 : Int32))), .val (.int r2.1)]) (St' := [.int (r1.1 + (64 : Int32))]) (σ' := r2.2) [.iload_n 2] (by decide +kernel) hc hT hF wi (by exact rfl) ?_
    exact am_retI (by decide +kernel) hc (by decide) (by decide) (fun h W O => ⟨rfl, W, O⟩)
abbrev rm_c_recordGroup : Room := { frames := 3, cells := 0, slots := 0, locals := 40 }
def c_recordGroup_103 (k18 : Int32 → Int32 → Int32 → Int32 → Int32 → Sg → Option Sg) (x2 : Int32) (x3 : Int32) (x4 : Int32) (x5 : Int32) (x6 : Int32) (σ : Sg) : Option Sg :=
  k18 x2 x3 x4 x5 (x6 + (1 : Int32)) σ
set_option maxRecDepth 65536 in
set_option maxHeartbeats 4000000 in
theorem okc_c_recordGroup_103 (hw : WH a0 Z) (hc : Cx p s m meth c Z "LogicBist" prog_1_method_22_code 8 none "recordGroup") (k18 : Int32 → Int32 → Int32 → Int32 → Int32 → Sg → Option Sg) (hk18 : ∀ (x2 : Int32) (x3 : Int32) (x4 : Int32) (x5 : Int32) (x6 : Int32) (σ : Sg), OkR p l e rm_c_recordGroup s m args below meth c Z "LogicBist" fsC n0 h0 (FM Z "LogicBist" fsC A wC h0 fV) A wC 0 0 18 [.val (.ref 0), .unset, .val (.int x2), .val (.int x3), .val (.int x4), .val (.int x5), .val (.int x6), .unset] [] σ (k18 x2 x3 x4 x5 x6 σ)) (x2 : Int32) (x3 : Int32) (x4 : Int32) (x5 : Int32) (x6 : Int32) (σ : Sg) : OkR p l e rm_c_recordGroup s m args below meth c Z "LogicBist" fsC n0 h0 (FM Z "LogicBist" fsC A wC h0 fV) A wC 0 0 103 [.val (.ref 0), .unset, .val (.int x2), .val (.int x3), .val (.int x4), .val (.int x5), .val (.int x6), .unset] [] σ (c_recordGroup_103 k18 x2 x3 x4 x5 x6 σ) := by
  have hT := tabC hw "recordGroup"
  have hF := fsokC hw
  have wi := wiC hw
  unfold c_recordGroup_103
  refine am_blk (pc' := 18) (Ls' := [.val (.ref 0), .unset, .val (.int x2), .val (.int x3), .val (.int x4), .val (.int x5), .val (.int (x6 + (1 : Int32))), .unset]) (St' := []) (σ' := σ) [.iinc 6 1, .goto (-88)] (by decide +kernel) hc hT hF wi (by exact rfl) ?_
  exact am_wk (Ls' := [.val (.ref 0), .unset, .val (.int x2), .val (.int x3), .val (.int x4), .val (.int x5), .val (.int (x6 + (1 : Int32))), .unset]) (by simp [wkL]) (hk18 x2 x3 x4 x5 (x6 + (1 : Int32)) σ)
def c_recordGroup_18 : Nat → Int32 → Int32 → Int32 → Int32 → Int32 → Sg → Option Sg
  | 0, _, _, _, _, _, _ => none
  | fuel + 1, x2, x3, x4, x5, x6, σ =>
    if x6 < x5 then (if x6 < (80 : Int32) then (if x6 < 0 then (c_recordGroup_103 (c_recordGroup_18 fuel) x2 x3 x4 x5 x6 σ) else ((c_outputWordAt (x6 - x4) σ).bind fun r1 => if inb x6 80 = true then ((c_misrStep (gi r1.2 6 (nx x6)) r1.1 r1.2).bind fun r2 => if r1.1 = x2 then (c_recordGroup_103 (c_recordGroup_18 fuel) x2 x3 x4 x5 x6 (si r2.2 6 (nx x6) r2.1)) else (if (gi r2.2 8 (nx x6)) = 0 then (c_recordGroup_103 (c_recordGroup_18 fuel) x2 x3 x4 x5 x6 (si (si (si r2.2 6 (nx x6) r2.1) 8 (nx x6) (1 : Int32)) 7 (nx x6) x3)) else (c_recordGroup_103 (c_recordGroup_18 fuel) x2 x3 x4 x5 x6 (si r2.2 6 (nx x6) r2.1)))) else none)) else (some σ)) else (some σ)
set_option maxRecDepth 65536 in
set_option maxHeartbeats 4000000 in
theorem okc_c_recordGroup_18 (hw : WH a0 Z) (hc : Cx p s m meth c Z "LogicBist" prog_1_method_22_code 8 none "recordGroup") : ∀ (fuel : Nat) (x2 : Int32) (x3 : Int32) (x4 : Int32) (x5 : Int32) (x6 : Int32) (σ : Sg), OkR p l e rm_c_recordGroup s m args below meth c Z "LogicBist" fsC n0 h0 (FM Z "LogicBist" fsC A wC h0 fV) A wC 0 0 18 [.val (.ref 0), .unset, .val (.int x2), .val (.int x3), .val (.int x4), .val (.int x5), .val (.int x6), .unset] [] σ (c_recordGroup_18 fuel x2 x3 x4 x5 x6 σ) := by
  have hT := tabC hw "recordGroup"
  have hF := fsokC hw
  have wi := wiC hw
  intro fuel
  induction fuel with
  | zero => intro x2 x3 x4 x5 x6 σ; exact am_none rfl
  | succ fuel ih =>
    intro x2 x3 x4 x5 x6 σ
    rw [c_recordGroup_18]
    refine am_blk (pc' := 22) (Ls' := [.val (.ref 0), .unset, .val (.int x2), .val (.int x3), .val (.int x4), .val (.int x5), .val (.int x6), .unset]) (St' := [.int x5, .int x6]) (σ' := σ) [.iload 6, .iload 5] (by decide +kernel) hc hT hF wi (by exact rfl) ?_
    refine am_icmp_ge (o := 87) (pc1 := 109) (by decide +kernel) hc (fun hq => ?_) (fun hq => ?_)
    · refine am_blk (pc' := 29) (Ls' := [.val (.ref 0), .unset, .val (.int x2), .val (.int x3), .val (.int x4), .val (.int x5), .val (.int x6), .unset]) (St' := [.int (80 : Int32), .int x6]) (σ' := σ) [.iload 6, .bipush 80] (by decide +kernel) hc hT hF wi (by exact rfl) ?_
      refine am_icmp_ge (o := 80) (pc1 := 109) (by decide +kernel) hc (fun hq => ?_) (fun hq => ?_)
      · refine am_blk (pc' := 34) (Ls' := [.val (.ref 0), .unset, .val (.int x2), .val (.int x3), .val (.int x4), .val (.int x5), .val (.int x6), .unset]) (St' := [.int x6]) (σ' := σ) [.iload 6] (by decide +kernel) hc hT hF wi (by exact rfl) ?_
        refine am_if_ge (o := 6) (pc1 := 40) (by decide +kernel) hc (fun hq => ?_) (fun hq => ?_)
        · refine am_blk (pc' := 103) (Ls' := [.val (.ref 0), .unset, .val (.int x2), .val (.int x3), .val (.int x4), .val (.int x5), .val (.int x6), .unset]) (St' := []) (σ' := σ) [.goto 66] (by decide +kernel) hc hT hF wi (by exact rfl) ?_
          exact am_wk (Ls' := [.val (.ref 0), .unset, .val (.int x2), .val (.int x3), .val (.int x4), .val (.int x5), .val (.int x6), .unset]) (by simp [wkL]) (okc_c_recordGroup_103 hw hc _ ih x2 x3 x4 x5 x6 σ)
        · refine am_blk (pc' := 46) (Ls' := [.val (.ref 0), .unset, .val (.int x2), .val (.int x3), .val (.int x4), .val (.int x5), .val (.int x6), .unset]) (St' := [.int (x6 - x4), .ref 0]) (σ' := σ) [.aload_n 0, .iload 6, .iload 4, .isub] (by decide +kernel) hc hT hF wi (by exact rfl) ?_
          refine am_callP_I (W0 := 0) (argsL := [.int (x6 - x4)]) (rest := []) rfl (lk_C_99 hw) rfl wi (by decide +kernel) hc (SubW.refl _) rfl (by show arity "(I)I" 1 = true; decide +kernel) (ok_c_outputWordAt hw (x6 - x4) _) rfl ⟨by decide, by decide, Nat.le_of_eq rfl, rfl, rfl, by decide, by decide⟩ (fun r1 hr => ?_)
          refine am_blk (pc' := 64) (Ls' := [.val (.ref 0), .unset, .val (.int x2), .val (.int x3), .val (.int x4), .val (.int x5), .val (.int x6), .val (.int r1.1)]) (St' := [.int x6, .ref 6, .ref 0, .int x6, .ref 6]) (σ' := r1.2) [.istore 7, .aload_n 0, .getfield 26, .iload 6, .aload_n 0, .aload_n 0, .getfield 26, .iload 6] (by decide +kernel) hc hT hF wi (by exact rfl) ?_
          refine am_iaload (by decide +kernel) hc rfl (fun hb0 => ?_)
          refine am_blk (pc' := 67) (Ls' := [.val (.ref 0), .unset, .val (.int x2), .val (.int x3), .val (.int x4), .val (.int x5), .val (.int x6), .val (.int r1.1)]) (St' := [.int r1.1, .int (gi r1.2 6 (nx x6)), .ref 0, .int x6, .ref 6]) (σ' := r1.2) [.iload 7] (by decide +kernel) hc hT hF wi (by exact rfl) ?_
          refine am_callP_I (W0 := 2) (argsL := [.int (gi r1.2 6 (nx x6)), .int r1.1]) (rest := [.int x6, .ref 6]) rfl (lk_C_126 hw) rfl wi (by decide +kernel) hc (SubW.refl _) rfl (by show arity "(II)I" 2 = true; decide +kernel) (ok_c_misrStep hw (gi r1.2 6 (nx x6)) r1.1 _) rfl ⟨by decide, by decide, Nat.le_of_eq rfl, rfl, rfl, by decide, by decide⟩ (fun r2 hr => ?_)
          refine am_iastore_k hb0 (y := r2.1) rfl (by decide +kernel) hc rfl ?_
          refine am_blk (pc' := 74) (Ls' := [.val (.ref 0), .unset, .val (.int x2), .val (.int x3), .val (.int x4), .val (.int x5), .val (.int x6), .val (.int r1.1)]) (St' := [.int x2, .int r1.1]) (σ' := si r2.2 6 (nx x6) r2.1) [.iload 7, .iload_n 2] (by decide +kernel) hc hT hF wi (by exact rfl) ?_
          refine am_icmp_eq (o := 29) (pc1 := 103) (by decide +kernel) hc (fun hq => ?_) (fun hq => ?_)
          · exact am_wk (Ls' := [.val (.ref 0), .unset, .val (.int x2), .val (.int x3), .val (.int x4), .val (.int x5), .val (.int x6), .unset]) (by simp [wkL]) (okc_c_recordGroup_103 hw hc _ ih x2 x3 x4 x5 x6 (si r2.2 6 (nx x6) r2.1))
          · refine am_blk (pc' := 83) (Ls' := [.val (.ref 0), .unset, .val (.int x2), .val (.int x3), .val (.int x4), .val (.int x5), .val (.int x6), .val (.int r1.1)]) (St' := [.int x6, .ref 8]) (σ' := si r2.2 6 (nx x6) r2.1) [.aload_n 0, .getfield 32, .iload 6] (by decide +kernel) hc hT hF wi (by exact rfl) ?_
            refine am_baloadZ_k hb0 (by decide +kernel) hc rfl ?_
            refine am_if_ne (o := 19) (pc1 := 103) (by decide +kernel) hc (fun hq => ?_) (fun hq => ?_)
            · refine am_blk (pc' := 94) (Ls' := [.val (.ref 0), .unset, .val (.int x2), .val (.int x3), .val (.int x4), .val (.int x5), .val (.int x6), .val (.int r1.1)]) (St' := [.int (1 : Int32), .int x6, .ref 8]) (σ' := si r2.2 6 (nx x6) r2.1) [.aload_n 0, .getfield 32, .iload 6, .iconst 1] (by decide +kernel) hc hT hF wi (by exact rfl) ?_
              refine am_bastoreZ_k hb0 (y := (1 : Int32)) rfl (by decide +kernel) hc rfl ?_
              refine am_blk (pc' := 102) (Ls' := [.val (.ref 0), .unset, .val (.int x2), .val (.int x3), .val (.int x4), .val (.int x5), .val (.int x6), .val (.int r1.1)]) (St' := [.int x3, .int x6, .ref 7]) (σ' := si (si r2.2 6 (nx x6) r2.1) 8 (nx x6) (1 : Int32)) [.aload_n 0, .getfield 29, .iload 6, .iload_n 3] (by decide +kernel) hc hT hF wi (by exact rfl) ?_
              refine am_iastore_k hb0 (y := x3) rfl (by decide +kernel) hc rfl ?_
              exact am_wk (Ls' := [.val (.ref 0), .unset, .val (.int x2), .val (.int x3), .val (.int x4), .val (.int x5), .val (.int x6), .unset]) (by simp [wkL]) (okc_c_recordGroup_103 hw hc _ ih x2 x3 x4 x5 x6 (si (si (si r2.2 6 (nx x6) r2.1) 8 (nx x6) (1 : Int32)) 7 (nx x6) x3))
            · exact am_wk (Ls' := [.val (.ref 0), .unset, .val (.int x2), .val (.int x3), .val (.int x4), .val (.int x5), .val (.int x6), .unset]) (by simp [wkL]) (okc_c_recordGroup_103 hw hc _ ih x2 x3 x4 x5 x6 (si r2.2 6 (nx x6) r2.1))
      · exact am_retV (by decide +kernel) hc (by decide) (by decide) (fun h W O => ⟨rfl, W, O⟩)
    · exact am_retV (by decide +kernel) hc (by decide) (by decide) (fun h W O => ⟨rfl, W, O⟩)
def c_recordGroup (x1 : Int32) (x2 : Int32) (x3 : Int32) (σ : Sg) : Option Sg :=
  (c_groupFirst x1 σ).bind fun r1 => (c_groupEnd x1 r1.2).bind fun r2 => c_recordGroup_18 400 x2 x3 r1.1 r2.1 r1.1 r2.2
set_option maxRecDepth 65536 in
set_option maxHeartbeats 4000000 in
theorem ok_c_recordGroup (hw : WH a0 Z) (x1 : Int32) (x2 : Int32) (x3 : Int32) (σ : Sg) : ∀ x, c_recordGroup x1 x2 x3 σ = some x → Con l Z "LogicBist" fsC (⟨"LogicBist", "recordGroup", "(III)V"⟩ : MethodName) prog_1_method_22_code 8 none rm_c_recordGroup wC [.ref 0, .int x1, .int x2, .int x3] σ (fV x).1 (fV x).2 := by
  refine am_con pnC ?_
  intro p e s m below meth c A n0 h0 hc
  have hT := tabC hw "recordGroup"
  have hF := fsokC hw
  have wi := wiC hw
  unfold c_recordGroup
  refine am_blk (pc' := 2) (Ls' := [.val (.ref 0), .val (.int x1), .val (.int x2), .val (.int x3), .unset, .unset, .unset, .unset]) (St' := [.int x1, .ref 0]) (σ' := σ) [.aload_n 0, .iload_n 1] (by decide +kernel) hc hT hF wi (by exact rfl) ?_
  refine am_callP_I (W0 := 0) (argsL := [.int x1]) (rest := []) rfl (lk_C_140 hw) rfl wi (by decide +kernel) hc (SubW.refl _) rfl (by show arity "(I)I" 1 = true; decide +kernel) (ok_c_groupFirst hw x1 _) rfl ⟨by decide, by decide, Nat.le_of_eq rfl, rfl, rfl, by decide, by decide⟩ (fun r1 hr => ?_)
  refine am_blk (pc' := 9) (Ls' := [.val (.ref 0), .val (.int x1), .val (.int x2), .val (.int x3), .val (.int r1.1), .unset, .unset, .unset]) (St' := [.int x1, .ref 0]) (σ' := r1.2) [.istore 4, .aload_n 0, .iload_n 1] (by decide +kernel) hc hT hF wi (by exact rfl) ?_
  refine am_callP_I (W0 := 0) (argsL := [.int x1]) (rest := []) rfl (lk_C_143 hw) rfl wi (by decide +kernel) hc (SubW.refl _) rfl (by show arity "(I)I" 1 = true; decide +kernel) (ok_c_groupEnd hw x1 _) rfl ⟨by decide, by decide, Nat.le_of_eq rfl, rfl, rfl, by decide, by decide⟩ (fun r2 hr => ?_)
  refine am_blk (pc' := 18) (Ls' := [.val (.ref 0), .val (.int x1), .val (.int x2), .val (.int x3), .val (.int r1.1), .val (.int r2.1), .val (.int r1.1), .unset]) (St' := []) (σ' := r2.2) [.istore 5, .iload 4, .istore 6] (by decide +kernel) hc hT hF wi (by exact rfl) ?_
  exact am_wk (Ls' := [.val (.ref 0), .unset, .val (.int x2), .val (.int x3), .val (.int r1.1), .val (.int r2.1), .val (.int r1.1), .unset]) (by simp [wkL]) (okc_c_recordGroup_18 hw hc 400 x2 x3 r1.1 r2.1 r1.1 r2.2)
abbrev rm_c_lfsrStep : Room := { frames := 0, cells := 0, slots := 0, locals := 0 }
def c_lfsrStep (x1 : Int32) (σ : Sg) : Option (Int32 × Sg) :=
  if (x1 &&& (1 : Int32)) = (1 : Int32) then (some ((XT.ushr x1 (1 : Int32)) ^^^ (46080 : Int32), σ)) else (some (XT.ushr x1 (1 : Int32), σ))
set_option maxRecDepth 65536 in
set_option maxHeartbeats 4000000 in
theorem ok_c_lfsrStep (hw : WH a0 Z) (x1 : Int32) (σ : Sg) : ∀ x, c_lfsrStep x1 σ = some x → Con l Z "LogicBist" fsC (⟨"LogicBist", "lfsrStep", "(I)I"⟩ : MethodName) prog_1_method_31_code 4 (some .int) rm_c_lfsrStep wC [.ref 0, .int x1] σ (fI x).1 (fI x).2 := by
  refine am_con pnC ?_
  intro p e s m below meth c A n0 h0 hc
  have hT := tabC hw "lfsrStep"
  have hF := fsokC hw
  have wi := wiC hw
  unfold c_lfsrStep
  refine am_blk (pc' := 10) (Ls' := [.val (.ref 0), .val (.int x1), .val (.int (x1 &&& (1 : Int32))), .val (.int (XT.ushr x1 (1 : Int32)))]) (St' := [.int (1 : Int32), .int (x1 &&& (1 : Int32))]) (σ' := σ) [.iload_n 1, .iconst 1, .iand, .istore_n 2, .iload_n 1, .iconst 1, .iushr, .istore_n 3, .iload_n 2, .iconst 1] (by decide +kernel) hc hT hF wi (by exact rfl) ?_
  refine am_icmp_ne (o := 8) (pc1 := 18) (by decide +kernel) hc (fun hq => ?_) (fun hq => ?_)
  · refine am_blk (pc' := 19) (Ls' := [.val (.ref 0), .val (.int x1), .val (.int (x1 &&& (1 : Int32))), .val (.int ((XT.ushr x1 (1 : Int32)) ^^^ (46080 : Int32)))]) (St' := [.int ((XT.ushr x1 (1 : Int32)) ^^^ (46080 : Int32))]) (σ' := σ) [.iload_n 3, .ldc 170, .ixor, .istore_n 3, .iload_n 3] (by decide +kernel) hc hT hF wi (by exact rfl) ?_
    exact am_retI (by decide +kernel) hc (by decide) (by decide) (fun h W O => ⟨rfl, W, O⟩)
  · refine am_blk (pc' := 19) (Ls' := [.val (.ref 0), .val (.int x1), .val (.int (x1 &&& (1 : Int32))), .val (.int (XT.ushr x1 (1 : Int32)))]) (St' := [.int (XT.ushr x1 (1 : Int32))]) (σ' := σ) [.iload_n 3] (by decide +kernel) hc hT hF wi (by exact rfl) ?_
    exact am_retI (by decide +kernel) hc (by decide) (by decide) (fun h W O => ⟨rfl, W, O⟩)
abbrev rm_c_applyPattern : Room := { frames := 4, cells := 0, slots := 0, locals := 59 }
def c_applyPattern_78 (x1 : Int32) (σ : Sg) : Option Sg :=
  (c_lfsrStep (gi σ 0 18) (si σ 0 17 (x1 + (1 : Int32)))).bind fun r1 => some (si r1.2 0 18 r1.1)
set_option maxRecDepth 65536 in
set_option maxHeartbeats 4000000 in
theorem okc_c_applyPattern_78 (hw : WH a0 Z) (hc : Cx p s m meth c Z "LogicBist" prog_1_method_21_code 6 none "applyPattern") (x1 : Int32) (σ : Sg) : OkR p l e rm_c_applyPattern s m args below meth c Z "LogicBist" fsC n0 h0 (FM Z "LogicBist" fsC A wC h0 fV) A wC 0 0 78 [.val (.ref 0), .val (.int x1), .unset, .unset, .unset, .unset] [] σ (c_applyPattern_78 x1 σ) := by
  have hT := tabC hw "applyPattern"
  have hF := fsokC hw
  have wi := wiC hw
  unfold c_applyPattern_78
  refine am_blk (pc' := 91) (Ls' := [.val (.ref 0), .val (.int x1), .unset, .unset, .unset, .unset]) (St' := [.int (gi σ 0 18), .ref 0, .ref 0]) (σ' := si σ 0 17 (x1 + (1 : Int32))) [.aload_n 0, .iload_n 1, .iconst 1, .iadd, .putfield 72, .aload_n 0, .aload_n 0, .aload_n 0, .getfield 89] (by decide +kernel) hc hT hF wi (by exact rfl) ?_
  refine am_callP_I (W0 := 1) (argsL := [.int (gi σ 0 18)]) (rest := [.ref 0]) rfl (lk_C_137 hw) rfl wi (by decide +kernel) hc (SubW.refl _) rfl (by show arity "(I)I" 1 = true; decide +kernel) (ok_c_lfsrStep hw (gi σ 0 18) _) rfl ⟨by decide, by decide, Nat.le_of_eq rfl, rfl, rfl, by decide, by decide⟩ (fun r1 hr => ?_)
  refine am_blk (pc' := 97) (Ls' := [.val (.ref 0), .val (.int x1), .unset, .unset, .unset, .unset]) (St' := []) (σ' := si r1.2 0 18 r1.1) [.putfield 89] (by decide +kernel) hc hT hF wi (by exact rfl) ?_
  exact am_retV (by decide +kernel) hc (by decide) (by decide) (fun h W O => ⟨rfl, W, O⟩)
def c_applyPattern_44 : Nat → Int32 → Int32 → Int32 → Int32 → Int32 → Sg → Option Sg
  | 0, _, _, _, _, _, _ => none
  | fuel + 1, x1, x2, x3, x4, x5, σ =>
    if x5 < x4 then (if x5 < (2 : Int32) then ((c_evaluateGroup x2 x5 σ).bind fun r1 => (c_recordGroup x5 x3 x1 r1).bind fun r2 => c_applyPattern_44 fuel x1 x2 x3 x4 (x5 + (1 : Int32)) r2) else (c_applyPattern_78 x1 σ)) else (c_applyPattern_78 x1 σ)
set_option maxRecDepth 65536 in
set_option maxHeartbeats 4000000 in
theorem okc_c_applyPattern_44 (hw : WH a0 Z) (hc : Cx p s m meth c Z "LogicBist" prog_1_method_21_code 6 none "applyPattern") : ∀ (fuel : Nat) (x1 : Int32) (x2 : Int32) (x3 : Int32) (x4 : Int32) (x5 : Int32) (σ : Sg), OkR p l e rm_c_applyPattern s m args below meth c Z "LogicBist" fsC n0 h0 (FM Z "LogicBist" fsC A wC h0 fV) A wC 0 0 44 [.val (.ref 0), .val (.int x1), .val (.int x2), .val (.int x3), .val (.int x4), .val (.int x5)] [] σ (c_applyPattern_44 fuel x1 x2 x3 x4 x5 σ) := by
  have hT := tabC hw "applyPattern"
  have hF := fsokC hw
  have wi := wiC hw
  intro fuel
  induction fuel with
  | zero => intro x1 x2 x3 x4 x5 σ; exact am_none rfl
  | succ fuel ih =>
    intro x1 x2 x3 x4 x5 σ
    rw [c_applyPattern_44]
    refine am_blk (pc' := 48) (Ls' := [.val (.ref 0), .val (.int x1), .val (.int x2), .val (.int x3), .val (.int x4), .val (.int x5)]) (St' := [.int x4, .int x5]) (σ' := σ) [.iload 5, .iload 4] (by decide +kernel) hc hT hF wi (by exact rfl) ?_
    refine am_icmp_ge (o := 30) (pc1 := 78) (by decide +kernel) hc (fun hq => ?_) (fun hq => ?_)
    · refine am_blk (pc' := 54) (Ls' := [.val (.ref 0), .val (.int x1), .val (.int x2), .val (.int x3), .val (.int x4), .val (.int x5)]) (St' := [.int (2 : Int32), .int x5]) (σ' := σ) [.iload 5, .iconst 2] (by decide +kernel) hc hT hF wi (by exact rfl) ?_
      refine am_icmp_ge (o := 24) (pc1 := 78) (by decide +kernel) hc (fun hq => ?_) (fun hq => ?_)
      · refine am_blk (pc' := 61) (Ls' := [.val (.ref 0), .val (.int x1), .val (.int x2), .val (.int x3), .val (.int x4), .val (.int x5)]) (St' := [.int x5, .int x2, .ref 0]) (σ' := σ) [.aload_n 0, .iload_n 2, .iload 5] (by decide +kernel) hc hT hF wi (by exact rfl) ?_
        refine am_callP_V (W0 := 0) (argsL := [.int x2, .int x5]) (rest := []) rfl (lk_C_95 hw) rfl wi (by decide +kernel) hc (SubW.refl _) rfl (by show arity "(II)V" 2 = true; decide +kernel) (ok_c_evaluateGroup hw x2 x5 _) rfl ⟨by decide, by decide, Nat.le_of_eq rfl, rfl, rfl, by decide, by decide⟩ (fun r1 hr => ?_)
        refine am_blk (pc' := 69) (Ls' := [.val (.ref 0), .val (.int x1), .val (.int x2), .val (.int x3), .val (.int x4), .val (.int x5)]) (St' := [.int x1, .int x3, .int x5, .ref 0]) (σ' := r1) [.aload_n 0, .iload 5, .iload_n 3, .iload_n 1] (by decide +kernel) hc hT hF wi (by exact rfl) ?_
        refine am_callP_V (W0 := 0) (argsL := [.int x5, .int x3, .int x1]) (rest := []) rfl (lk_C_133 hw) rfl wi (by decide +kernel) hc (SubW.refl _) rfl (by show arity "(III)V" 3 = true; decide +kernel) (ok_c_recordGroup hw x5 x3 x1 _) rfl ⟨by decide, by decide, Nat.le_of_eq rfl, rfl, rfl, by decide, by decide⟩ (fun r2 hr => ?_)
        refine am_blk (pc' := 44) (Ls' := [.val (.ref 0), .val (.int x1), .val (.int x2), .val (.int x3), .val (.int x4), .val (.int (x5 + (1 : Int32)))]) (St' := []) (σ' := r2) [.iinc 5 1, .goto (-31)] (by decide +kernel) hc hT hF wi (by exact rfl) ?_
        exact am_wk (Ls' := [.val (.ref 0), .val (.int x1), .val (.int x2), .val (.int x3), .val (.int x4), .val (.int (x5 + (1 : Int32)))]) (by simp [wkL]) (ih x1 x2 x3 x4 (x5 + (1 : Int32)) r2)
      · exact am_wk (Ls' := [.val (.ref 0), .val (.int x1), .unset, .unset, .unset, .unset]) (by simp [wkL]) (okc_c_applyPattern_78 hw hc x1 σ)
    · exact am_wk (Ls' := [.val (.ref 0), .val (.int x1), .unset, .unset, .unset, .unset]) (by simp [wkL]) (okc_c_applyPattern_78 hw hc x1 σ)
def c_applyPattern (σ : Sg) : Option Sg :=
  (c_evaluateGroup (gi σ 0 18) (-1 : Int32) σ).bind fun r1 => (c_outputWordAt (0 : Int32) r1).bind fun r2 => (c_misrStep (gi r2.2 0 19) r2.1 r2.2).bind fun r3 => (c_groupCount (si r3.2 0 19 r3.1)).bind fun r4 => c_applyPattern_44 400 (gi σ 0 17) (gi σ 0 18) r2.1 r4.1 (0 : Int32) r4.2
set_option maxRecDepth 65536 in
set_option maxHeartbeats 4000000 in
theorem ok_c_applyPattern (hw : WH a0 Z) (σ : Sg) : ∀ x, c_applyPattern σ = some x → Con l Z "LogicBist" fsC (⟨"LogicBist", "applyPattern", "()V"⟩ : MethodName) prog_1_method_21_code 6 none rm_c_applyPattern wC [.ref 0] σ (fV x).1 (fV x).2 := by
  refine am_con pnC ?_
  intro p e s m below meth c A n0 h0 hc
  have hT := tabC hw "applyPattern"
  have hF := fsokC hw
  have wi := wiC hw
  unfold c_applyPattern
  refine am_blk (pc' := 13) (Ls' := [.val (.ref 0), .val (.int (gi σ 0 17)), .val (.int (gi σ 0 18)), .unset, .unset, .unset]) (St' := [.int (-1 : Int32), .int (gi σ 0 18), .ref 0]) (σ' := σ) [.aload_n 0, .getfield 72, .istore_n 1, .aload_n 0, .getfield 89, .istore_n 2, .aload_n 0, .iload_n 2, .iconst (-1)] (by decide +kernel) hc hT hF wi (by exact rfl) ?_
  refine am_callP_V (W0 := 0) (argsL := [.int (gi σ 0 18), .int (-1 : Int32)]) (rest := []) rfl (lk_C_95 hw) rfl wi (by decide +kernel) hc (SubW.refl _) rfl (by show arity "(II)V" 2 = true; decide +kernel) (ok_c_evaluateGroup hw (gi σ 0 18) (-1 : Int32) _) rfl ⟨by decide, by decide, Nat.le_of_eq rfl, rfl, rfl, by decide, by decide⟩ (fun r1 hr => ?_)
  refine am_blk (pc' := 18) (Ls' := [.val (.ref 0), .val (.int (gi σ 0 17)), .val (.int (gi σ 0 18)), .unset, .unset, .unset]) (St' := [.int (0 : Int32), .ref 0]) (σ' := r1) [.aload_n 0, .iconst 0] (by decide +kernel) hc hT hF wi (by exact rfl) ?_
  refine am_callP_I (W0 := 0) (argsL := [.int (0 : Int32)]) (rest := []) rfl (lk_C_99 hw) rfl wi (by decide +kernel) hc (SubW.refl _) rfl (by show arity "(I)I" 1 = true; decide +kernel) (ok_c_outputWordAt hw (0 : Int32) _) rfl ⟨by decide, by decide, Nat.le_of_eq rfl, rfl, rfl, by decide, by decide⟩ (fun r2 hr => ?_)
  refine am_blk (pc' := 29) (Ls' := [.val (.ref 0), .val (.int (gi σ 0 17)), .val (.int (gi σ 0 18)), .val (.int r2.1), .unset, .unset]) (St' := [.int r2.1, .int (gi r2.2 0 19), .ref 0, .ref 0]) (σ' := r2.2) [.istore_n 3, .aload_n 0, .aload_n 0, .aload_n 0, .getfield 112, .iload_n 3] (by decide +kernel) hc hT hF wi (by exact rfl) ?_
  refine am_callP_I (W0 := 1) (argsL := [.int (gi r2.2 0 19), .int r2.1]) (rest := [.ref 0]) rfl (lk_C_126 hw) rfl wi (by decide +kernel) hc (SubW.refl _) rfl (by show arity "(II)I" 2 = true; decide +kernel) (ok_c_misrStep hw (gi r2.2 0 19) r2.1 _) rfl ⟨by decide, by decide, Nat.le_of_eq rfl, rfl, rfl, by decide, by decide⟩ (fun r3 hr => ?_)
  refine am_blk (pc' := 36) (Ls' := [.val (.ref 0), .val (.int (gi σ 0 17)), .val (.int (gi σ 0 18)), .val (.int r2.1), .unset, .unset]) (St' := [.ref 0]) (σ' := si r3.2 0 19 r3.1) [.putfield 112, .aload_n 0] (by decide +kernel) hc hT hF wi (by exact rfl) ?_
  refine am_callP_I (W0 := 0) (argsL := []) (rest := []) rfl (lk_C_130 hw) rfl wi (by decide +kernel) hc (SubW.refl _) rfl (by show arity "()I" 0 = true; decide +kernel) (ok_c_groupCount hw _) rfl ⟨by decide, by decide, Nat.le_of_eq rfl, rfl, rfl, by decide, by decide⟩ (fun r4 hr => ?_)
  refine am_blk (pc' := 44) (Ls' := [.val (.ref 0), .val (.int (gi σ 0 17)), .val (.int (gi σ 0 18)), .val (.int r2.1), .val (.int r4.1), .val (.int (0 : Int32))]) (St' := []) (σ' := r4.2) [.istore 4, .iconst 0, .istore 5] (by decide +kernel) hc hT hF wi (by exact rfl) ?_
  exact am_wk (Ls' := [.val (.ref 0), .val (.int (gi σ 0 17)), .val (.int (gi σ 0 18)), .val (.int r2.1), .val (.int r4.1), .val (.int (0 : Int32))]) (by simp [wkL]) (okc_c_applyPattern_44 hw hc 400 (gi σ 0 17) (gi σ 0 18) r2.1 r4.1 (0 : Int32) r4.2)
abbrev rm_c_run : Room := { frames := 5, cells := 0, slots := 0, locals := 76 }
def c_run_24 : Nat → Int32 → Int32 → Sg → Option (Int32 × Sg)
  | 0, _, _, _ => none
  | fuel + 1, x1, x2, σ =>
    if x2 < x1 then (if x2 < (64 : Int32) then ((c_applyPattern σ).bind fun r1 => c_run_24 fuel x1 (x2 + (1 : Int32)) r1) else (some (gi σ 0 17, σ))) else (some (gi σ 0 17, σ))
set_option maxRecDepth 65536 in
set_option maxHeartbeats 4000000 in
theorem okc_c_run_24 (hw : WH a0 Z) (hc : Cx p s m meth c Z "LogicBist" prog_1_method_6_code 3 (some .int) "run") : ∀ (fuel : Nat) (x1 : Int32) (x2 : Int32) (σ : Sg), OkR p l e rm_c_run s m args below meth c Z "LogicBist" fsC n0 h0 (FM Z "LogicBist" fsC A wC h0 fI) A wC 0 0 24 [.val (.ref 0), .val (.int x1), .val (.int x2)] [] σ (c_run_24 fuel x1 x2 σ) := by
  have hT := tabC hw "run"
  have hF := fsokC hw
  have wi := wiC hw
  intro fuel
  induction fuel with
  | zero => intro x1 x2 σ; exact am_none rfl
  | succ fuel ih =>
    intro x1 x2 σ
    rw [c_run_24]
    refine am_blk (pc' := 26) (Ls' := [.val (.ref 0), .val (.int x1), .val (.int x2)]) (St' := [.int x1, .int x2]) (σ' := σ) [.iload_n 2, .iload_n 1] (by decide +kernel) hc hT hF wi (by exact rfl) ?_
    refine am_icmp_ge (o := 19) (pc1 := 45) (by decide +kernel) hc (fun hq => ?_) (fun hq => ?_)
    · refine am_blk (pc' := 32) (Ls' := [.val (.ref 0), .val (.int x1), .val (.int x2)]) (St' := [.int (64 : Int32), .int x2]) (σ' := σ) [.iload_n 2, .bipush 64] (by decide +kernel) hc hT hF wi (by exact rfl) ?_
      refine am_icmp_ge (o := 13) (pc1 := 45) (by decide +kernel) hc (fun hq => ?_) (fun hq => ?_)
      · refine am_blk (pc' := 36) (Ls' := [.val (.ref 0), .val (.int x1), .val (.int x2)]) (St' := [.ref 0]) (σ' := σ) [.aload_n 0] (by decide +kernel) hc hT hF wi (by exact rfl) ?_
        refine am_callP_V (W0 := 0) (argsL := []) (rest := []) rfl (lk_C_92 hw) rfl wi (by decide +kernel) hc (SubW.refl _) rfl (by show arity "()V" 0 = true; decide +kernel) (ok_c_applyPattern hw _) rfl ⟨by decide, by decide, Nat.le_of_eq rfl, rfl, rfl, by decide, by decide⟩ (fun r1 hr => ?_)
        refine am_blk (pc' := 24) (Ls' := [.val (.ref 0), .val (.int x1), .val (.int (x2 + (1 : Int32)))]) (St' := []) (σ' := r1) [.iinc 2 1, .goto (-18)] (by decide +kernel) hc hT hF wi (by exact rfl) ?_
        exact am_wk (Ls' := [.val (.ref 0), .val (.int x1), .val (.int (x2 + (1 : Int32)))]) (by simp [wkL]) (ih x1 (x2 + (1 : Int32)) r1)
      · refine am_blk (pc' := 49) (Ls' := [.val (.ref 0), .val (.int x1), .val (.int x2)]) (St' := [.int (gi σ 0 17)]) (σ' := σ) [.aload_n 0, .getfield 72] (by decide +kernel) hc hT hF wi (by exact rfl) ?_
        exact am_retI (by decide +kernel) hc (by decide) (by decide) (fun h W O => ⟨rfl, W, O⟩)
    · refine am_blk (pc' := 49) (Ls' := [.val (.ref 0), .val (.int x1), .val (.int x2)]) (St' := [.int (gi σ 0 17)]) (σ' := σ) [.aload_n 0, .getfield 72] (by decide +kernel) hc hT hF wi (by exact rfl) ?_
      exact am_retI (by decide +kernel) hc (by decide) (by decide) (fun h W O => ⟨rfl, W, O⟩)
def c_run (x1 : Int32) (σ : Sg) : Option (Int32 × Sg) :=
  if x1 < (1 : Int32) then (some ((-1 : Int32), σ)) else (if (64 : Int32) < x1 then (some ((-1 : Int32), σ)) else (if (gi σ 0 14) = 0 then (some ((-1 : Int32), σ)) else (c_run_24 400 x1 (0 : Int32) σ)))
set_option maxRecDepth 65536 in
set_option maxHeartbeats 4000000 in
theorem ok_c_run (hw : WH a0 Z) (x1 : Int32) (σ : Sg) : ∀ x, c_run x1 σ = some x → Con l Z "LogicBist" fsC (⟨"LogicBist", "run", "(I)I"⟩ : MethodName) prog_1_method_6_code 3 (some .int) rm_c_run wC [.ref 0, .int x1] σ (fI x).1 (fI x).2 := by
  refine am_con pnC ?_
  intro p e s m below meth c A n0 h0 hc
  have hT := tabC hw "run"
  have hF := fsokC hw
  have wi := wiC hw
  unfold c_run
  refine am_blk (pc' := 2) (Ls' := [.val (.ref 0), .val (.int x1), .unset]) (St' := [.int (1 : Int32), .int x1]) (σ' := σ) [.iload_n 1, .iconst 1] (by decide +kernel) hc hT hF wi (by exact rfl) ?_
  refine am_icmp_lt (o := 9) (pc1 := 11) (by decide +kernel) hc (fun hq => ?_) (fun hq => ?_)
  · refine am_blk (pc' := 12) (Ls' := [.val (.ref 0), .val (.int x1), .unset]) (St' := [.int (-1 : Int32)]) (σ' := σ) [.iconst (-1)] (by decide +kernel) hc hT hF wi (by exact rfl) ?_
    exact am_retI (by decide +kernel) hc (by decide) (by decide) (fun h W O => ⟨rfl, W, O⟩)
  · refine am_blk (pc' := 8) (Ls' := [.val (.ref 0), .val (.int x1), .unset]) (St' := [.int (64 : Int32), .int x1]) (σ' := σ) [.iload_n 1, .bipush 64] (by decide +kernel) hc hT hF wi (by exact rfl) ?_
    refine am_icmp_le (o := 5) (pc1 := 13) (by decide +kernel) hc (fun hq => ?_) (fun hq => ?_)
    · refine am_blk (pc' := 12) (Ls' := [.val (.ref 0), .val (.int x1), .unset]) (St' := [.int (-1 : Int32)]) (σ' := σ) [.iconst (-1)] (by decide +kernel) hc hT hF wi (by exact rfl) ?_
      exact am_retI (by decide +kernel) hc (by decide) (by decide) (fun h W O => ⟨rfl, W, O⟩)
    · refine am_blk (pc' := 17) (Ls' := [.val (.ref 0), .val (.int x1), .unset]) (St' := [.int (gi σ 0 14)]) (σ' := σ) [.aload_n 0, .getfield 59] (by decide +kernel) hc hT hF wi (by exact rfl) ?_
      refine am_if_ne (o := 5) (pc1 := 22) (by decide +kernel) hc (fun hq => ?_) (fun hq => ?_)
      · refine am_blk (pc' := 21) (Ls' := [.val (.ref 0), .val (.int x1), .unset]) (St' := [.int (-1 : Int32)]) (σ' := σ) [.iconst (-1)] (by decide +kernel) hc hT hF wi (by exact rfl) ?_
        exact am_retI (by decide +kernel) hc (by decide) (by decide) (fun h W O => ⟨rfl, W, O⟩)
      · refine am_blk (pc' := 24) (Ls' := [.val (.ref 0), .val (.int x1), .val (.int (0 : Int32))]) (St' := []) (σ' := σ) [.iconst 0, .istore_n 2] (by decide +kernel) hc hT hF wi (by exact rfl) ?_
        exact am_wk (Ls' := [.val (.ref 0), .val (.int x1), .val (.int (0 : Int32))]) (by simp [wkL]) (okc_c_run_24 hw hc 400 x1 (0 : Int32) σ)
abbrev rm_c_getPatternCount : Room := { frames := 0, cells := 0, slots := 0, locals := 0 }
def c_getPatternCount (σ : Sg) : Option (Int32 × Sg) :=
  some (gi σ 0 17, σ)
set_option maxRecDepth 65536 in
set_option maxHeartbeats 4000000 in
theorem ok_c_getPatternCount (hw : WH a0 Z) (σ : Sg) : ∀ x, c_getPatternCount σ = some x → Con l Z "LogicBist" fsC (⟨"LogicBist", "getPatternCount", "()I"⟩ : MethodName) prog_1_method_9_code 1 (some .int) rm_c_getPatternCount wC [.ref 0] σ (fI x).1 (fI x).2 := by
  refine am_con pnC ?_
  intro p e s m below meth c A n0 h0 hc
  have hT := tabC hw "getPatternCount"
  have hF := fsokC hw
  have wi := wiC hw
  unfold c_getPatternCount
  refine am_blk (pc' := 4) (Ls' := [.val (.ref 0)]) (St' := [.int (gi σ 0 17)]) (σ' := σ) [.aload_n 0, .getfield 72] (by decide +kernel) hc hT hF wi (by exact rfl) ?_
  exact am_retI (by decide +kernel) hc (by decide) (by decide) (fun h W O => ⟨rfl, W, O⟩)
abbrev rm_c_getLfsrState : Room := { frames := 0, cells := 0, slots := 0, locals := 0 }
def c_getLfsrState (σ : Sg) : Option (Int32 × Sg) :=
  some (gi σ 0 18, σ)
set_option maxRecDepth 65536 in
set_option maxHeartbeats 4000000 in
theorem ok_c_getLfsrState (hw : WH a0 Z) (σ : Sg) : ∀ x, c_getLfsrState σ = some x → Con l Z "LogicBist" fsC (⟨"LogicBist", "getLfsrState", "()I"⟩ : MethodName) prog_1_method_10_code 1 (some .int) rm_c_getLfsrState wC [.ref 0] σ (fI x).1 (fI x).2 := by
  refine am_con pnC ?_
  intro p e s m below meth c A n0 h0 hc
  have hT := tabC hw "getLfsrState"
  have hF := fsokC hw
  have wi := wiC hw
  unfold c_getLfsrState
  refine am_blk (pc' := 4) (Ls' := [.val (.ref 0)]) (St' := [.int (gi σ 0 18)]) (σ' := σ) [.aload_n 0, .getfield 89] (by decide +kernel) hc hT hF wi (by exact rfl) ?_
  exact am_retI (by decide +kernel) hc (by decide) (by decide) (fun h W O => ⟨rfl, W, O⟩)
abbrev rm_q_gate : Room := { frames := 0, cells := 0, slots := 0, locals := 0 }
def q_gate (x0 : Int32) (x1 : Int32) (x2 : Int32) (σ : Sg) : Option (Int32 × Sg) :=
  if x0 = 0 then (some (x1 &&& x2, σ)) else (if x0 = (1 : Int32) then (some (x1 ||| x2, σ)) else (if x0 = (2 : Int32) then (some ((1 : Int32) - (x1 &&& x2), σ)) else (if x0 = (3 : Int32) then (some ((1 : Int32) - (x1 ||| x2), σ)) else (if x0 = (4 : Int32) then (some (x1 ^^^ x2, σ)) else (if x0 = (5 : Int32) then (some ((1 : Int32) - (x1 ^^^ x2), σ)) else (if x0 = (6 : Int32) then (some ((1 : Int32) - x1, σ)) else (some (x1, σ))))))))
set_option maxRecDepth 65536 in
set_option maxHeartbeats 4000000 in
theorem ok_q_gate (hw : WH a0 Z) (x0 : Int32) (x1 : Int32) (x2 : Int32) (σ : Sg) : ∀ x, q_gate x0 x1 x2 σ = some x → Con l Z "LogicBist" fsC (⟨"LogicBistL3", "gate", "(III)I"⟩ : MethodName) method_2_code 3 (some .int) rm_q_gate w [.int x0, .int x1, .int x2] σ (fI x).1 (fI x).2 := by
  refine am_con pnL ?_
  intro p e s m below meth c A n0 h0 hc
  have hT := tabL hw "gate"
  have hF := fsokC hw
  have wi := wiC hw
  unfold q_gate
  refine am_blk (pc' := 1) (Ls' := [.val (.int x0), .val (.int x1), .val (.int x2)]) (St' := [.int x0]) (σ' := σ) [.iload_n 0] (by decide +kernel) hc hT hF wi (by exact rfl) ?_
  refine am_if_ne (o := 7) (pc1 := 8) (by decide +kernel) hc (fun hq => ?_) (fun hq => ?_)
  · refine am_blk (pc' := 7) (Ls' := [.val (.int x0), .val (.int x1), .val (.int x2)]) (St' := [.int (x1 &&& x2)]) (σ' := σ) [.iload_n 1, .iload_n 2, .iand] (by decide +kernel) hc hT hF wi (by exact rfl) ?_
    exact am_retI (by decide +kernel) hc (by decide) (by decide) (fun h W O => ⟨rfl, W, O⟩)
  · refine am_blk (pc' := 10) (Ls' := [.val (.int x0), .val (.int x1), .val (.int x2)]) (St' := [.int (1 : Int32), .int x0]) (σ' := σ) [.iload_n 0, .iconst 1] (by decide +kernel) hc hT hF wi (by exact rfl) ?_
    refine am_icmp_ne (o := 7) (pc1 := 17) (by decide +kernel) hc (fun hq => ?_) (fun hq => ?_)
    · refine am_blk (pc' := 16) (Ls' := [.val (.int x0), .val (.int x1), .val (.int x2)]) (St' := [.int (x1 ||| x2)]) (σ' := σ) [.iload_n 1, .iload_n 2, .ior] (by decide +kernel) hc hT hF wi (by exact rfl) ?_
      exact am_retI (by decide +kernel) hc (by decide) (by decide) (fun h W O => ⟨rfl, W, O⟩)
    · refine am_blk (pc' := 19) (Ls' := [.val (.int x0), .val (.int x1), .val (.int x2)]) (St' := [.int (2 : Int32), .int x0]) (σ' := σ) [.iload_n 0, .iconst 2] (by decide +kernel) hc hT hF wi (by exact rfl) ?_
      refine am_icmp_ne (o := 9) (pc1 := 28) (by decide +kernel) hc (fun hq => ?_) (fun hq => ?_)
      · refine am_blk (pc' := 27) (Ls' := [.val (.int x0), .val (.int x1), .val (.int x2)]) (St' := [.int ((1 : Int32) - (x1 &&& x2))]) (σ' := σ) [.iconst 1, .iload_n 1, .iload_n 2, .iand, .isub] (by decide +kernel) hc hT hF wi (by exact rfl) ?_
        exact am_retI (by decide +kernel) hc (by decide) (by decide) (fun h W O => ⟨rfl, W, O⟩)
      · refine am_blk (pc' := 30) (Ls' := [.val (.int x0), .val (.int x1), .val (.int x2)]) (St' := [.int (3 : Int32), .int x0]) (σ' := σ) [.iload_n 0, .iconst 3] (by decide +kernel) hc hT hF wi (by exact rfl) ?_
        refine am_icmp_ne (o := 9) (pc1 := 39) (by decide +kernel) hc (fun hq => ?_) (fun hq => ?_)
        · refine am_blk (pc' := 38) (Ls' := [.val (.int x0), .val (.int x1), .val (.int x2)]) (St' := [.int ((1 : Int32) - (x1 ||| x2))]) (σ' := σ) [.iconst 1, .iload_n 1, .iload_n 2, .ior, .isub] (by decide +kernel) hc hT hF wi (by exact rfl) ?_
          exact am_retI (by decide +kernel) hc (by decide) (by decide) (fun h W O => ⟨rfl, W, O⟩)
        · refine am_blk (pc' := 41) (Ls' := [.val (.int x0), .val (.int x1), .val (.int x2)]) (St' := [.int (4 : Int32), .int x0]) (σ' := σ) [.iload_n 0, .iconst 4] (by decide +kernel) hc hT hF wi (by exact rfl) ?_
          refine am_icmp_ne (o := 7) (pc1 := 48) (by decide +kernel) hc (fun hq => ?_) (fun hq => ?_)
          · refine am_blk (pc' := 47) (Ls' := [.val (.int x0), .val (.int x1), .val (.int x2)]) (St' := [.int (x1 ^^^ x2)]) (σ' := σ) [.iload_n 1, .iload_n 2, .ixor] (by decide +kernel) hc hT hF wi (by exact rfl) ?_
            exact am_retI (by decide +kernel) hc (by decide) (by decide) (fun h W O => ⟨rfl, W, O⟩)
          · refine am_blk (pc' := 50) (Ls' := [.val (.int x0), .val (.int x1), .val (.int x2)]) (St' := [.int (5 : Int32), .int x0]) (σ' := σ) [.iload_n 0, .iconst 5] (by decide +kernel) hc hT hF wi (by exact rfl) ?_
            refine am_icmp_ne (o := 9) (pc1 := 59) (by decide +kernel) hc (fun hq => ?_) (fun hq => ?_)
            · refine am_blk (pc' := 58) (Ls' := [.val (.int x0), .val (.int x1), .val (.int x2)]) (St' := [.int ((1 : Int32) - (x1 ^^^ x2))]) (σ' := σ) [.iconst 1, .iload_n 1, .iload_n 2, .ixor, .isub] (by decide +kernel) hc hT hF wi (by exact rfl) ?_
              exact am_retI (by decide +kernel) hc (by decide) (by decide) (fun h W O => ⟨rfl, W, O⟩)
            · refine am_blk (pc' := 62) (Ls' := [.val (.int x0), .val (.int x1), .val (.int x2)]) (St' := [.int (6 : Int32), .int x0]) (σ' := σ) [.iload_n 0, .bipush 6] (by decide +kernel) hc hT hF wi (by exact rfl) ?_
              refine am_icmp_ne (o := 7) (pc1 := 69) (by decide +kernel) hc (fun hq => ?_) (fun hq => ?_)
              · refine am_blk (pc' := 68) (Ls' := [.val (.int x0), .val (.int x1), .val (.int x2)]) (St' := [.int ((1 : Int32) - x1)]) (σ' := σ) [.iconst 1, .iload_n 1, .isub] (by decide +kernel) hc hT hF wi (by exact rfl) ?_
                exact am_retI (by decide +kernel) hc (by decide) (by decide) (fun h W O => ⟨rfl, W, O⟩)
              · refine am_blk (pc' := 70) (Ls' := [.val (.int x0), .val (.int x1), .val (.int x2)]) (St' := [.int x1]) (σ' := σ) [.iload_n 1] (by decide +kernel) hc hT hF wi (by exact rfl) ?_
                exact am_retI (by decide +kernel) hc (by decide) (by decide) (fun h W O => ⟨rfl, W, O⟩)
abbrev rm_q_out : Room := { frames := 1, cells := 0, slots := 0, locals := 14 }
def q_out_47 (x2 : Int32) (σ : Sg) : Option (Int32 × Sg) :=
  some (x2 - (4 : Int32), σ)
set_option maxRecDepth 65536 in
set_option maxHeartbeats 4000000 in
theorem okc_q_out_47 (hw : WH a0 Z) (hc : Cx p s m meth c Z "LogicBistL3" method_3_code 5 (some .int) "out") (x2 : Int32) (σ : Sg) : OkR p l e rm_q_out s m args below meth c Z "LogicBist" fsC n0 h0 (FM Z "LogicBist" fsC A w h0 fI) A w 0 0 47 [.unset, .unset, .val (.int x2), .unset, .unset] [] σ (q_out_47 x2 σ) := by
  have hT := tabL hw "out"
  have hF := fsokC hw
  have wi := wiC hw
  unfold q_out_47
  refine am_blk (pc' := 50) (Ls' := [.unset, .unset, .val (.int x2), .unset, .unset]) (St' := [.int (x2 - (4 : Int32))]) (σ' := σ) [.iload_n 2, .iconst 4, .isub] (by decide +kernel) hc hT hF wi (by exact rfl) ?_
  exact am_retI (by decide +kernel) hc (by decide) (by decide) (fun h W O => ⟨rfl, W, O⟩)
def q_out_37 (x0 : Int32) (x2 : Int32) (x3 : Int32) (x4 : Int32) (σ : Sg) : Option (Int32 × Sg) :=
  if x2 = (4 : Int32) then (q_out_47 x2 σ) else (if x2 = (5 : Int32) then (q_out_47 x2 σ) else ((q_gate x0 x3 x4 σ).bind fun r1 => some (r1.1, r1.2)))
set_option maxRecDepth 65536 in
set_option maxHeartbeats 4000000 in
theorem okc_q_out_37 (hw : WH a0 Z) (hc : Cx p s m meth c Z "LogicBistL3" method_3_code 5 (some .int) "out") (x0 : Int32) (x2 : Int32) (x3 : Int32) (x4 : Int32) (σ : Sg) : OkR p l e rm_q_out s m args below meth c Z "LogicBist" fsC n0 h0 (FM Z "LogicBist" fsC A w h0 fI) A w 0 0 37 [.val (.int x0), .unset, .val (.int x2), .val (.int x3), .val (.int x4)] [] σ (q_out_37 x0 x2 x3 x4 σ) := by
  have hT := tabL hw "out"
  have hF := fsokC hw
  have wi := wiC hw
  unfold q_out_37
  refine am_blk (pc' := 39) (Ls' := [.val (.int x0), .unset, .val (.int x2), .val (.int x3), .val (.int x4)]) (St' := [.int (4 : Int32), .int x2]) (σ' := σ) [.iload_n 2, .iconst 4] (by decide +kernel) hc hT hF wi (by exact rfl) ?_
  refine am_icmp_eq (o := 8) (pc1 := 47) (by decide +kernel) hc (fun hq => ?_) (fun hq => ?_)
  · exact am_wk (Ls' := [.unset, .unset, .val (.int x2), .unset, .unset]) (by simp [wkL]) (okc_q_out_47 hw hc x2 σ)
  · refine am_blk (pc' := 44) (Ls' := [.val (.int x0), .unset, .val (.int x2), .val (.int x3), .val (.int x4)]) (St' := [.int (5 : Int32), .int x2]) (σ' := σ) [.iload_n 2, .iconst 5] (by decide +kernel) hc hT hF wi (by exact rfl) ?_
    refine am_icmp_ne (o := 7) (pc1 := 51) (by decide +kernel) hc (fun hq => ?_) (fun hq => ?_)
    · exact am_wk (Ls' := [.unset, .unset, .val (.int x2), .unset, .unset]) (by simp [wkL]) (okc_q_out_47 hw hc x2 σ)
    · refine am_blk (pc' := 55) (Ls' := [.val (.int x0), .unset, .val (.int x2), .val (.int x3), .val (.int x4)]) (St' := [.int x4, .int x3, .int x0]) (σ' := σ) [.iload_n 0, .iload_n 3, .iload 4] (by decide +kernel) hc hT hF wi (by exact rfl) ?_
      refine am_callS_I (W0 := 0) (argsL := [.int x0, .int x3, .int x4]) (rest := []) (lk_L_7 hw) (by decide +kernel) hc (SubW.refl _) rfl (by show arity "(III)I" 3 = true; decide +kernel) (ok_q_gate hw x0 x3 x4 _) rfl ⟨by decide, by decide, Nat.le_of_eq rfl, rfl, rfl, by decide, by decide⟩ (fun r1 hr => ?_)
      exact am_retI (by decide +kernel) hc (by decide) (by decide) (fun h W O => ⟨rfl, W, O⟩)
def q_out_32 (x0 : Int32) (x2 : Int32) (x3 : Int32) (σ : Sg) : Option (Int32 × Sg) :=
  q_out_37 x0 x2 x3 (x2 - (2 : Int32)) σ
set_option maxRecDepth 65536 in
set_option maxHeartbeats 4000000 in
theorem okc_q_out_32 (hw : WH a0 Z) (hc : Cx p s m meth c Z "LogicBistL3" method_3_code 5 (some .int) "out") (x0 : Int32) (x2 : Int32) (x3 : Int32) (σ : Sg) : OkR p l e rm_q_out s m args below meth c Z "LogicBist" fsC n0 h0 (FM Z "LogicBist" fsC A w h0 fI) A w 0 0 32 [.val (.int x0), .unset, .val (.int x2), .val (.int x3), .unset] [] σ (q_out_32 x0 x2 x3 σ) := by
  have hT := tabL hw "out"
  have hF := fsokC hw
  have wi := wiC hw
  unfold q_out_32
  refine am_blk (pc' := 37) (Ls' := [.val (.int x0), .unset, .val (.int x2), .val (.int x3), .val (.int (x2 - (2 : Int32)))]) (St' := []) (σ' := σ) [.iload_n 2, .iconst 2, .isub, .istore 4] (by decide +kernel) hc hT hF wi (by exact rfl) ?_
  exact am_wk (Ls' := [.val (.int x0), .unset, .val (.int x2), .val (.int x3), .val (.int (x2 - (2 : Int32)))]) (by simp [wkL]) (okc_q_out_37 hw hc x0 x2 x3 (x2 - (2 : Int32)) σ)
def q_out_22 (x0 : Int32) (x2 : Int32) (x3 : Int32) (x4 : Int32) (σ : Sg) : Option (Int32 × Sg) :=
  if x2 = (2 : Int32) then (q_out_32 x0 x2 x3 σ) else (if x2 = (3 : Int32) then (q_out_32 x0 x2 x3 σ) else (q_out_37 x0 x2 x3 x4 σ))
set_option maxRecDepth 65536 in
set_option maxHeartbeats 4000000 in
theorem okc_q_out_22 (hw : WH a0 Z) (hc : Cx p s m meth c Z "LogicBistL3" method_3_code 5 (some .int) "out") (x0 : Int32) (x2 : Int32) (x3 : Int32) (x4 : Int32) (σ : Sg) : OkR p l e rm_q_out s m args below meth c Z "LogicBist" fsC n0 h0 (FM Z "LogicBist" fsC A w h0 fI) A w 0 0 22 [.val (.int x0), .unset, .val (.int x2), .val (.int x3), .val (.int x4)] [] σ (q_out_22 x0 x2 x3 x4 σ) := by
  have hT := tabL hw "out"
  have hF := fsokC hw
  have wi := wiC hw
  unfold q_out_22
  refine am_blk (pc' := 24) (Ls' := [.val (.int x0), .unset, .val (.int x2), .val (.int x3), .val (.int x4)]) (St' := [.int (2 : Int32), .int x2]) (σ' := σ) [.iload_n 2, .iconst 2] (by decide +kernel) hc hT hF wi (by exact rfl) ?_
  refine am_icmp_eq (o := 8) (pc1 := 32) (by decide +kernel) hc (fun hq => ?_) (fun hq => ?_)
  · exact am_wk (Ls' := [.val (.int x0), .unset, .val (.int x2), .val (.int x3), .unset]) (by simp [wkL]) (okc_q_out_32 hw hc x0 x2 x3 σ)
  · refine am_blk (pc' := 29) (Ls' := [.val (.int x0), .unset, .val (.int x2), .val (.int x3), .val (.int x4)]) (St' := [.int (3 : Int32), .int x2]) (σ' := σ) [.iload_n 2, .iconst 3] (by decide +kernel) hc hT hF wi (by exact rfl) ?_
    refine am_icmp_ne (o := 8) (pc1 := 37) (by decide +kernel) hc (fun hq => ?_) (fun hq => ?_)
    · exact am_wk (Ls' := [.val (.int x0), .unset, .val (.int x2), .val (.int x3), .unset]) (by simp [wkL]) (okc_q_out_32 hw hc x0 x2 x3 σ)
    · exact am_wk (Ls' := [.val (.int x0), .unset, .val (.int x2), .val (.int x3), .val (.int x4)]) (by simp [wkL]) (okc_q_out_37 hw hc x0 x2 x3 x4 σ)
def q_out_20 (x0 : Int32) (x2 : Int32) (x4 : Int32) (σ : Sg) : Option (Int32 × Sg) :=
  q_out_22 x0 x2 x2 x4 σ
set_option maxRecDepth 65536 in
set_option maxHeartbeats 4000000 in
theorem okc_q_out_20 (hw : WH a0 Z) (hc : Cx p s m meth c Z "LogicBistL3" method_3_code 5 (some .int) "out") (x0 : Int32) (x2 : Int32) (x4 : Int32) (σ : Sg) : OkR p l e rm_q_out s m args below meth c Z "LogicBist" fsC n0 h0 (FM Z "LogicBist" fsC A w h0 fI) A w 0 0 20 [.val (.int x0), .unset, .val (.int x2), .unset, .val (.int x4)] [] σ (q_out_20 x0 x2 x4 σ) := by
  have hT := tabL hw "out"
  have hF := fsokC hw
  have wi := wiC hw
  unfold q_out_20
  refine am_blk (pc' := 22) (Ls' := [.val (.int x0), .unset, .val (.int x2), .val (.int x2), .val (.int x4)]) (St' := []) (σ' := σ) [.iload_n 2, .istore_n 3] (by decide +kernel) hc hT hF wi (by exact rfl) ?_
  exact am_wk (Ls' := [.val (.int x0), .unset, .val (.int x2), .val (.int x2), .val (.int x4)]) (by simp [wkL]) (okc_q_out_22 hw hc x0 x2 x2 x4 σ)
def q_out (x0 : Int32) (x1 : Int32) (x2 : Int32) (σ : Sg) : Option (Int32 × Sg) :=
  if x2 = 0 then (q_out_20 x0 x2 ((XT.ushr x1 (1 : Int32)) &&& (1 : Int32)) σ) else (if x2 = (1 : Int32) then (q_out_20 x0 x2 ((XT.ushr x1 (1 : Int32)) &&& (1 : Int32)) σ) else (q_out_22 x0 x2 (x1 &&& (1 : Int32)) ((XT.ushr x1 (1 : Int32)) &&& (1 : Int32)) σ))
set_option maxRecDepth 65536 in
set_option maxHeartbeats 4000000 in
theorem ok_q_out (hw : WH a0 Z) (x0 : Int32) (x1 : Int32) (x2 : Int32) (σ : Sg) : ∀ x, q_out x0 x1 x2 σ = some x → Con l Z "LogicBist" fsC (⟨"LogicBistL3", "out", "(III)I"⟩ : MethodName) method_3_code 5 (some .int) rm_q_out w [.int x0, .int x1, .int x2] σ (fI x).1 (fI x).2 := by
  refine am_con pnL ?_
  intro p e s m below meth c A n0 h0 hc
  have hT := tabL hw "out"
  have hF := fsokC hw
  have wi := wiC hw
  unfold q_out
  refine am_blk (pc' := 12) (Ls' := [.val (.int x0), .val (.int x1), .val (.int x2), .val (.int (x1 &&& (1 : Int32))), .val (.int ((XT.ushr x1 (1 : Int32)) &&& (1 : Int32)))]) (St' := [.int x2]) (σ' := σ) [.iload_n 1, .iconst 1, .iand, .istore_n 3, .iload_n 1, .iconst 1, .iushr, .iconst 1, .iand, .istore 4, .iload_n 2] (by decide +kernel) hc hT hF wi (by exact rfl) ?_
  refine am_if_eq (o := 8) (pc1 := 20) (by decide +kernel) hc (fun hq => ?_) (fun hq => ?_)
  · exact am_wk (Ls' := [.val (.int x0), .unset, .val (.int x2), .unset, .val (.int ((XT.ushr x1 (1 : Int32)) &&& (1 : Int32)))]) (by simp [wkL]) (okc_q_out_20 hw hc x0 x2 ((XT.ushr x1 (1 : Int32)) &&& (1 : Int32)) σ)
  · refine am_blk (pc' := 17) (Ls' := [.val (.int x0), .val (.int x1), .val (.int x2), .val (.int (x1 &&& (1 : Int32))), .val (.int ((XT.ushr x1 (1 : Int32)) &&& (1 : Int32)))]) (St' := [.int (1 : Int32), .int x2]) (σ' := σ) [.iload_n 2, .iconst 1] (by decide +kernel) hc hT hF wi (by exact rfl) ?_
    refine am_icmp_ne (o := 5) (pc1 := 22) (by decide +kernel) hc (fun hq => ?_) (fun hq => ?_)
    · exact am_wk (Ls' := [.val (.int x0), .unset, .val (.int x2), .unset, .val (.int ((XT.ushr x1 (1 : Int32)) &&& (1 : Int32)))]) (by simp [wkL]) (okc_q_out_20 hw hc x0 x2 ((XT.ushr x1 (1 : Int32)) &&& (1 : Int32)) σ)
    · exact am_wk (Ls' := [.val (.int x0), .unset, .val (.int x2), .val (.int (x1 &&& (1 : Int32))), .val (.int ((XT.ushr x1 (1 : Int32)) &&& (1 : Int32)))]) (by simp [wkL]) (okc_q_out_22 hw hc x0 x2 (x1 &&& (1 : Int32)) ((XT.ushr x1 (1 : Int32)) &&& (1 : Int32)) σ)
abbrev rm_c_getGoldenSignature : Room := { frames := 0, cells := 0, slots := 0, locals := 0 }
def c_getGoldenSignature (σ : Sg) : Option (Int32 × Sg) :=
  some (gi σ 0 19, σ)
set_option maxRecDepth 65536 in
set_option maxHeartbeats 4000000 in
theorem ok_c_getGoldenSignature (hw : WH a0 Z) (σ : Sg) : ∀ x, c_getGoldenSignature σ = some x → Con l Z "LogicBist" fsC (⟨"LogicBist", "getGoldenSignature", "()I"⟩ : MethodName) prog_1_method_11_code 1 (some .int) rm_c_getGoldenSignature wC [.ref 0] σ (fI x).1 (fI x).2 := by
  refine am_con pnC ?_
  intro p e s m below meth c A n0 h0 hc
  have hT := tabC hw "getGoldenSignature"
  have hF := fsokC hw
  have wi := wiC hw
  unfold c_getGoldenSignature
  refine am_blk (pc' := 4) (Ls' := [.val (.ref 0)]) (St' := [.int (gi σ 0 19)]) (σ' := σ) [.aload_n 0, .getfield 112] (by decide +kernel) hc hT hF wi (by exact rfl) ?_
  exact am_retI (by decide +kernel) hc (by decide) (by decide) (fun h W O => ⟨rfl, W, O⟩)
abbrev rm_c_isFault : Room := { frames := 2, cells := 0, slots := 0, locals := 26 }
def c_isFault (x1 : Int32) (σ : Sg) : Option (Int32 × Sg) :=
  if x1 < 0 then (some ((0 : Int32), σ)) else ((c_faultCount σ).bind fun r1 => if x1 < r1.1 then (some ((1 : Int32), r1.2)) else (some ((0 : Int32), r1.2)))
set_option maxRecDepth 65536 in
set_option maxHeartbeats 4000000 in
theorem ok_c_isFault (hw : WH a0 Z) (x1 : Int32) (σ : Sg) : ∀ x, c_isFault x1 σ = some x → Con l Z "LogicBist" fsC (⟨"LogicBist", "isFault", "(I)Z"⟩ : MethodName) prog_1_method_41_code 2 (some .boolean) rm_c_isFault wC [.ref 0, .int x1] σ (fI x).1 (fI x).2 := by
  refine am_con pnC ?_
  intro p e s m below meth c A n0 h0 hc
  have hT := tabC hw "isFault"
  have hF := fsokC hw
  have wi := wiC hw
  unfold c_isFault
  refine am_blk (pc' := 1) (Ls' := [.val (.ref 0), .val (.int x1)]) (St' := [.int x1]) (σ' := σ) [.iload_n 1] (by decide +kernel) hc hT hF wi (by exact rfl) ?_
  refine am_if_lt (o := 15) (pc1 := 16) (by decide +kernel) hc (fun hq => ?_) (fun hq => ?_)
  · refine am_blk (pc' := 17) (Ls' := [.val (.ref 0), .val (.int x1)]) (St' := [.int (0 : Int32)]) (σ' := σ) [.iconst 0] (by decide +kernel) hc hT hF wi (by exact rfl) ?_
    exact am_retZ (by decide +kernel) hc (by decide) (by decide) (fun h W O => ⟨rfl, W, O⟩)
  · refine am_blk (pc' := 6) (Ls' := [.val (.ref 0), .val (.int x1)]) (St' := [.ref 0, .int x1]) (σ' := σ) [.iload_n 1, .aload_n 0] (by decide +kernel) hc hT hF wi (by exact rfl) ?_
    refine am_callP_I (W0 := 1) (argsL := []) (rest := [.int x1]) rfl (lk_C_118 hw) rfl wi (by decide +kernel) hc (SubW.refl _) rfl (by show arity "()I" 0 = true; decide +kernel) (ok_c_faultCount hw _) rfl ⟨by decide, by decide, Nat.le_of_eq rfl, rfl, rfl, by decide, by decide⟩ (fun r1 hr => ?_)
    refine am_icmp_ge (o := 7) (pc1 := 16) (by decide +kernel) hc (fun hq => ?_) (fun hq => ?_)
    · refine am_blk (pc' := 17) (Ls' := [.val (.ref 0), .val (.int x1)]) (St' := [.int (1 : Int32)]) (σ' := r1.2) [.iconst 1, .goto 4] (by decide +kernel) hc hT hF wi (by exact rfl) ?_
      exact am_retZ (by decide +kernel) hc (by decide) (by decide) (fun h W O => ⟨rfl, W, O⟩)
    · refine am_blk (pc' := 17) (Ls' := [.val (.ref 0), .val (.int x1)]) (St' := [.int (0 : Int32)]) (σ' := r1.2) [.iconst 0] (by decide +kernel) hc hT hF wi (by exact rfl) ?_
      exact am_retZ (by decide +kernel) hc (by decide) (by decide) (fun h W O => ⟨rfl, W, O⟩)
abbrev rm_c_getFaultSignature : Room := { frames := 3, cells := 0, slots := 0, locals := 39 }
def c_getFaultSignature (x1 : Int32) (σ : Sg) : Option (Int32 × Sg) :=
  (c_isFault x1 σ).bind fun r1 => if r1.1 = 0 then (some ((-1 : Int32), r1.2)) else (if inb x1 80 = true then (some (gi r1.2 6 (nx x1), r1.2)) else none)
set_option maxRecDepth 65536 in
set_option maxHeartbeats 4000000 in
theorem ok_c_getFaultSignature (hw : WH a0 Z) (x1 : Int32) (σ : Sg) : ∀ x, c_getFaultSignature x1 σ = some x → Con l Z "LogicBist" fsC (⟨"LogicBist", "getFaultSignature", "(I)I"⟩ : MethodName) prog_1_method_12_code 2 (some .int) rm_c_getFaultSignature wC [.ref 0, .int x1] σ (fI x).1 (fI x).2 := by
  refine am_con pnC ?_
  intro p e s m below meth c A n0 h0 hc
  have hT := tabC hw "getFaultSignature"
  have hF := fsokC hw
  have wi := wiC hw
  unfold c_getFaultSignature
  refine am_blk (pc' := 2) (Ls' := [.val (.ref 0), .val (.int x1)]) (St' := [.int x1, .ref 0]) (σ' := σ) [.aload_n 0, .iload_n 1] (by decide +kernel) hc hT hF wi (by exact rfl) ?_
  refine am_callP_I (W0 := 0) (argsL := [.int x1]) (rest := []) rfl (lk_C_103 hw) rfl wi (by decide +kernel) hc (SubW.refl _) rfl (by show arity "(I)Z" 1 = true; decide +kernel) (ok_c_isFault hw x1 _) rfl ⟨by decide, by decide, Nat.le_of_eq rfl, rfl, rfl, by decide, by decide⟩ (fun r1 hr => ?_)
  refine am_if_ne (o := 5) (pc1 := 10) (by decide +kernel) hc (fun hq => ?_) (fun hq => ?_)
  · refine am_blk (pc' := 9) (Ls' := [.val (.ref 0), .val (.int x1)]) (St' := [.int (-1 : Int32)]) (σ' := r1.2) [.iconst (-1)] (by decide +kernel) hc hT hF wi (by exact rfl) ?_
    exact am_retI (by decide +kernel) hc (by decide) (by decide) (fun h W O => ⟨rfl, W, O⟩)
  · refine am_blk (pc' := 15) (Ls' := [.val (.ref 0), .val (.int x1)]) (St' := [.int x1, .ref 6]) (σ' := r1.2) [.aload_n 0, .getfield 26, .iload_n 1] (by decide +kernel) hc hT hF wi (by exact rfl) ?_
    refine am_iaload (by decide +kernel) hc rfl (fun hb0 => ?_)
    exact am_retI (by decide +kernel) hc (by decide) (by decide) (fun h W O => ⟨rfl, W, O⟩)
abbrev rm_c_firstDetectOf : Room := { frames := 0, cells := 0, slots := 0, locals := 0 }
def c_firstDetectOf (x1 : Int32) (σ : Sg) : Option (Int32 × Sg) :=
  if x1 < 0 then (some ((-1 : Int32), σ)) else (if x1 < (80 : Int32) then (if inb x1 80 = true then (if (gi σ 8 (nx x1)) = 0 then (some ((-1 : Int32), σ)) else (some (gi σ 7 (nx x1), σ))) else none) else (some ((-1 : Int32), σ)))
set_option maxRecDepth 65536 in
set_option maxHeartbeats 4000000 in
theorem ok_c_firstDetectOf (hw : WH a0 Z) (x1 : Int32) (σ : Sg) : ∀ x, c_firstDetectOf x1 σ = some x → Con l Z "LogicBist" fsC (⟨"LogicBist", "firstDetectOf", "(I)I"⟩ : MethodName) prog_1_method_39_code 2 (some .int) rm_c_firstDetectOf wC [.ref 0, .int x1] σ (fI x).1 (fI x).2 := by
  refine am_con pnC ?_
  intro p e s m below meth c A n0 h0 hc
  have hT := tabC hw "firstDetectOf"
  have hF := fsokC hw
  have wi := wiC hw
  unfold c_firstDetectOf
  refine am_blk (pc' := 1) (Ls' := [.val (.ref 0), .val (.int x1)]) (St' := [.int x1]) (σ' := σ) [.iload_n 1] (by decide +kernel) hc hT hF wi (by exact rfl) ?_
  refine am_if_lt (o := 9) (pc1 := 10) (by decide +kernel) hc (fun hq => ?_) (fun hq => ?_)
  · refine am_blk (pc' := 11) (Ls' := [.val (.ref 0), .val (.int x1)]) (St' := [.int (-1 : Int32)]) (σ' := σ) [.iconst (-1)] (by decide +kernel) hc hT hF wi (by exact rfl) ?_
    exact am_retI (by decide +kernel) hc (by decide) (by decide) (fun h W O => ⟨rfl, W, O⟩)
  · refine am_blk (pc' := 7) (Ls' := [.val (.ref 0), .val (.int x1)]) (St' := [.int (80 : Int32), .int x1]) (σ' := σ) [.iload_n 1, .bipush 80] (by decide +kernel) hc hT hF wi (by exact rfl) ?_
    refine am_icmp_lt (o := 5) (pc1 := 12) (by decide +kernel) hc (fun hq => ?_) (fun hq => ?_)
    · refine am_blk (pc' := 17) (Ls' := [.val (.ref 0), .val (.int x1)]) (St' := [.int x1, .ref 8]) (σ' := σ) [.aload_n 0, .getfield 32, .iload_n 1] (by decide +kernel) hc hT hF wi (by exact rfl) ?_
      refine am_baloadZ (by decide +kernel) hc rfl (fun hb0 => ?_)
      refine am_if_ne (o := 5) (pc1 := 23) (by decide +kernel) hc (fun hq => ?_) (fun hq => ?_)
      · refine am_blk (pc' := 22) (Ls' := [.val (.ref 0), .val (.int x1)]) (St' := [.int (-1 : Int32)]) (σ' := σ) [.iconst (-1)] (by decide +kernel) hc hT hF wi (by exact rfl) ?_
        exact am_retI (by decide +kernel) hc (by decide) (by decide) (fun h W O => ⟨rfl, W, O⟩)
      · refine am_blk (pc' := 28) (Ls' := [.val (.ref 0), .val (.int x1)]) (St' := [.int x1, .ref 7]) (σ' := σ) [.aload_n 0, .getfield 29, .iload_n 1] (by decide +kernel) hc hT hF wi (by exact rfl) ?_
        refine am_iaload_k hb0 (by decide +kernel) hc rfl ?_
        exact am_retI (by decide +kernel) hc (by decide) (by decide) (fun h W O => ⟨rfl, W, O⟩)
    · refine am_blk (pc' := 11) (Ls' := [.val (.ref 0), .val (.int x1)]) (St' := [.int (-1 : Int32)]) (σ' := σ) [.iconst (-1)] (by decide +kernel) hc hT hF wi (by exact rfl) ?_
      exact am_retI (by decide +kernel) hc (by decide) (by decide) (fun h W O => ⟨rfl, W, O⟩)
abbrev rm_c_getFirstDetect : Room := { frames := 3, cells := 0, slots := 0, locals := 39 }
def c_getFirstDetect (x1 : Int32) (σ : Sg) : Option (Int32 × Sg) :=
  (c_isFault x1 σ).bind fun r1 => if r1.1 = 0 then (some ((-2 : Int32), r1.2)) else ((c_firstDetectOf x1 r1.2).bind fun r2 => some (r2.1, r2.2))
set_option maxRecDepth 65536 in
set_option maxHeartbeats 4000000 in
theorem ok_c_getFirstDetect (hw : WH a0 Z) (x1 : Int32) (σ : Sg) : ∀ x, c_getFirstDetect x1 σ = some x → Con l Z "LogicBist" fsC (⟨"LogicBist", "getFirstDetect", "(I)I"⟩ : MethodName) prog_1_method_13_code 2 (some .int) rm_c_getFirstDetect wC [.ref 0, .int x1] σ (fI x).1 (fI x).2 := by
  refine am_con pnC ?_
  intro p e s m below meth c A n0 h0 hc
  have hT := tabC hw "getFirstDetect"
  have hF := fsokC hw
  have wi := wiC hw
  unfold c_getFirstDetect
  refine am_blk (pc' := 2) (Ls' := [.val (.ref 0), .val (.int x1)]) (St' := [.int x1, .ref 0]) (σ' := σ) [.aload_n 0, .iload_n 1] (by decide +kernel) hc hT hF wi (by exact rfl) ?_
  refine am_callP_I (W0 := 0) (argsL := [.int x1]) (rest := []) rfl (lk_C_103 hw) rfl wi (by decide +kernel) hc (SubW.refl _) rfl (by show arity "(I)Z" 1 = true; decide +kernel) (ok_c_isFault hw x1 _) rfl ⟨by decide, by decide, Nat.le_of_eq rfl, rfl, rfl, by decide, by decide⟩ (fun r1 hr => ?_)
  refine am_if_ne (o := 6) (pc1 := 11) (by decide +kernel) hc (fun hq => ?_) (fun hq => ?_)
  · refine am_blk (pc' := 10) (Ls' := [.val (.ref 0), .val (.int x1)]) (St' := [.int (-2 : Int32)]) (σ' := r1.2) [.bipush (-2)] (by decide +kernel) hc hT hF wi (by exact rfl) ?_
    exact am_retI (by decide +kernel) hc (by decide) (by decide) (fun h W O => ⟨rfl, W, O⟩)
  · refine am_blk (pc' := 13) (Ls' := [.val (.ref 0), .val (.int x1)]) (St' := [.int x1, .ref 0]) (σ' := r1.2) [.aload_n 0, .iload_n 1] (by decide +kernel) hc hT hF wi (by exact rfl) ?_
    refine am_callP_I (W0 := 0) (argsL := [.int x1]) (rest := []) rfl (lk_C_115 hw) rfl wi (by decide +kernel) hc (SubW.refl _) rfl (by show arity "(I)I" 1 = true; decide +kernel) (ok_c_firstDetectOf hw x1 _) rfl ⟨by decide, by decide, Nat.le_of_eq rfl, rfl, rfl, by decide, by decide⟩ (fun r2 hr => ?_)
    exact am_retI (by decide +kernel) hc (by decide) (by decide) (fun h W O => ⟨rfl, W, O⟩)
abbrev rm_c_isAliased : Room := { frames := 3, cells := 0, slots := 0, locals := 39 }
def c_isAliased (x1 : Int32) (σ : Sg) : Option (Int32 × Sg) :=
  (c_isFault x1 σ).bind fun r1 => if r1.1 = 0 then (some ((0 : Int32), r1.2)) else (if inb x1 80 = true then (if (gi r1.2 8 (nx x1)) = 0 then (some ((0 : Int32), r1.2)) else (if (gi r1.2 6 (nx x1)) = (gi r1.2 0 19) then (some ((1 : Int32), r1.2)) else (some ((0 : Int32), r1.2)))) else none)
set_option maxRecDepth 65536 in
set_option maxHeartbeats 4000000 in
theorem ok_c_isAliased (hw : WH a0 Z) (x1 : Int32) (σ : Sg) : ∀ x, c_isAliased x1 σ = some x → Con l Z "LogicBist" fsC (⟨"LogicBist", "isAliased", "(I)Z"⟩ : MethodName) prog_1_method_14_code 2 (some .boolean) rm_c_isAliased wC [.ref 0, .int x1] σ (fI x).1 (fI x).2 := by
  refine am_con pnC ?_
  intro p e s m below meth c A n0 h0 hc
  have hT := tabC hw "isAliased"
  have hF := fsokC hw
  have wi := wiC hw
  unfold c_isAliased
  refine am_blk (pc' := 2) (Ls' := [.val (.ref 0), .val (.int x1)]) (St' := [.int x1, .ref 0]) (σ' := σ) [.aload_n 0, .iload_n 1] (by decide +kernel) hc hT hF wi (by exact rfl) ?_
  refine am_callP_I (W0 := 0) (argsL := [.int x1]) (rest := []) rfl (lk_C_103 hw) rfl wi (by decide +kernel) hc (SubW.refl _) rfl (by show arity "(I)Z" 1 = true; decide +kernel) (ok_c_isFault hw x1 _) rfl ⟨by decide, by decide, Nat.le_of_eq rfl, rfl, rfl, by decide, by decide⟩ (fun r1 hr => ?_)
  refine am_if_ne (o := 5) (pc1 := 10) (by decide +kernel) hc (fun hq => ?_) (fun hq => ?_)
  · refine am_blk (pc' := 9) (Ls' := [.val (.ref 0), .val (.int x1)]) (St' := [.int (0 : Int32)]) (σ' := r1.2) [.iconst 0] (by decide +kernel) hc hT hF wi (by exact rfl) ?_
    exact am_retZ (by decide +kernel) hc (by decide) (by decide) (fun h W O => ⟨rfl, W, O⟩)
  · refine am_blk (pc' := 15) (Ls' := [.val (.ref 0), .val (.int x1)]) (St' := [.int x1, .ref 8]) (σ' := r1.2) [.aload_n 0, .getfield 32, .iload_n 1] (by decide +kernel) hc hT hF wi (by exact rfl) ?_
    refine am_baloadZ (by decide +kernel) hc rfl (fun hb0 => ?_)
    refine am_if_ne (o := 5) (pc1 := 21) (by decide +kernel) hc (fun hq => ?_) (fun hq => ?_)
    · refine am_blk (pc' := 20) (Ls' := [.val (.ref 0), .val (.int x1)]) (St' := [.int (0 : Int32)]) (σ' := r1.2) [.iconst 0] (by decide +kernel) hc hT hF wi (by exact rfl) ?_
      exact am_retZ (by decide +kernel) hc (by decide) (by decide) (fun h W O => ⟨rfl, W, O⟩)
    · refine am_blk (pc' := 26) (Ls' := [.val (.ref 0), .val (.int x1)]) (St' := [.int x1, .ref 6]) (σ' := r1.2) [.aload_n 0, .getfield 26, .iload_n 1] (by decide +kernel) hc hT hF wi (by exact rfl) ?_
      refine am_iaload_k hb0 (by decide +kernel) hc rfl ?_
      refine am_blk (pc' := 31) (Ls' := [.val (.ref 0), .val (.int x1)]) (St' := [.int (gi r1.2 0 19), .int (gi r1.2 6 (nx x1))]) (σ' := r1.2) [.aload_n 0, .getfield 112] (by decide +kernel) hc hT hF wi (by exact rfl) ?_
      refine am_icmp_ne (o := 7) (pc1 := 38) (by decide +kernel) hc (fun hq => ?_) (fun hq => ?_)
      · refine am_blk (pc' := 39) (Ls' := [.val (.ref 0), .val (.int x1)]) (St' := [.int (1 : Int32)]) (σ' := r1.2) [.iconst 1, .goto 4] (by decide +kernel) hc hT hF wi (by exact rfl) ?_
        exact am_retZ (by decide +kernel) hc (by decide) (by decide) (fun h W O => ⟨rfl, W, O⟩)
      · refine am_blk (pc' := 39) (Ls' := [.val (.ref 0), .val (.int x1)]) (St' := [.int (0 : Int32)]) (σ' := r1.2) [.iconst 0] (by decide +kernel) hc hT hF wi (by exact rfl) ?_
        exact am_retZ (by decide +kernel) hc (by decide) (by decide) (fun h W O => ⟨rfl, W, O⟩)
abbrev rm_c_getDetectedCount : Room := { frames := 2, cells := 0, slots := 0, locals := 25 }
def c_getDetectedCount_32 (k9 : Int32 → Int32 → Int32 → Sg → Option (Int32 × Sg)) (x1 : Int32) (x2 : Int32) (x3 : Int32) (σ : Sg) : Option (Int32 × Sg) :=
  k9 x1 x2 (x3 + (1 : Int32)) σ
set_option maxRecDepth 65536 in
set_option maxHeartbeats 4000000 in
theorem okc_c_getDetectedCount_32 (hw : WH a0 Z) (hc : Cx p s m meth c Z "LogicBist" prog_1_method_15_code 4 (some .int) "getDetectedCount") (k9 : Int32 → Int32 → Int32 → Sg → Option (Int32 × Sg)) (hk9 : ∀ (x1 : Int32) (x2 : Int32) (x3 : Int32) (σ : Sg), OkR p l e rm_c_getDetectedCount s m args below meth c Z "LogicBist" fsC n0 h0 (FM Z "LogicBist" fsC A wC h0 fI) A wC 0 0 9 [.val (.ref 0), .val (.int x1), .val (.int x2), .val (.int x3)] [] σ (k9 x1 x2 x3 σ)) (x1 : Int32) (x2 : Int32) (x3 : Int32) (σ : Sg) : OkR p l e rm_c_getDetectedCount s m args below meth c Z "LogicBist" fsC n0 h0 (FM Z "LogicBist" fsC A wC h0 fI) A wC 0 0 32 [.val (.ref 0), .val (.int x1), .val (.int x2), .val (.int x3)] [] σ (c_getDetectedCount_32 k9 x1 x2 x3 σ) := by
  have hT := tabC hw "getDetectedCount"
  have hF := fsokC hw
  have wi := wiC hw
  unfold c_getDetectedCount_32
  refine am_blk (pc' := 9) (Ls' := [.val (.ref 0), .val (.int x1), .val (.int x2), .val (.int (x3 + (1 : Int32)))]) (St' := []) (σ' := σ) [.iinc 3 1, .goto (-26)] (by decide +kernel) hc hT hF wi (by exact rfl) ?_
  exact am_wk (Ls' := [.val (.ref 0), .val (.int x1), .val (.int x2), .val (.int (x3 + (1 : Int32)))]) (by simp [wkL]) (hk9 x1 x2 (x3 + (1 : Int32)) σ)
def c_getDetectedCount_9 : Nat → Int32 → Int32 → Int32 → Sg → Option (Int32 × Sg)
  | 0, _, _, _, _ => none
  | fuel + 1, x1, x2, x3, σ =>
    if x3 < x1 then (if x3 < (80 : Int32) then (if inb x3 80 = true then (if (gi σ 8 (nx x3)) = 0 then (c_getDetectedCount_32 (c_getDetectedCount_9 fuel) x1 x2 x3 σ) else (c_getDetectedCount_32 (c_getDetectedCount_9 fuel) x1 (x2 + (1 : Int32)) x3 σ)) else none) else (some (x2, σ))) else (some (x2, σ))
set_option maxRecDepth 65536 in
set_option maxHeartbeats 4000000 in
theorem okc_c_getDetectedCount_9 (hw : WH a0 Z) (hc : Cx p s m meth c Z "LogicBist" prog_1_method_15_code 4 (some .int) "getDetectedCount") : ∀ (fuel : Nat) (x1 : Int32) (x2 : Int32) (x3 : Int32) (σ : Sg), OkR p l e rm_c_getDetectedCount s m args below meth c Z "LogicBist" fsC n0 h0 (FM Z "LogicBist" fsC A wC h0 fI) A wC 0 0 9 [.val (.ref 0), .val (.int x1), .val (.int x2), .val (.int x3)] [] σ (c_getDetectedCount_9 fuel x1 x2 x3 σ) := by
  have hT := tabC hw "getDetectedCount"
  have hF := fsokC hw
  have wi := wiC hw
  intro fuel
  induction fuel with
  | zero => intro x1 x2 x3 σ; exact am_none rfl
  | succ fuel ih =>
    intro x1 x2 x3 σ
    rw [c_getDetectedCount_9]
    refine am_blk (pc' := 11) (Ls' := [.val (.ref 0), .val (.int x1), .val (.int x2), .val (.int x3)]) (St' := [.int x1, .int x3]) (σ' := σ) [.iload_n 3, .iload_n 1] (by decide +kernel) hc hT hF wi (by exact rfl) ?_
    refine am_icmp_ge (o := 27) (pc1 := 38) (by decide +kernel) hc (fun hq => ?_) (fun hq => ?_)
    · refine am_blk (pc' := 17) (Ls' := [.val (.ref 0), .val (.int x1), .val (.int x2), .val (.int x3)]) (St' := [.int (80 : Int32), .int x3]) (σ' := σ) [.iload_n 3, .bipush 80] (by decide +kernel) hc hT hF wi (by exact rfl) ?_
      refine am_icmp_ge (o := 21) (pc1 := 38) (by decide +kernel) hc (fun hq => ?_) (fun hq => ?_)
      · refine am_blk (pc' := 25) (Ls' := [.val (.ref 0), .val (.int x1), .val (.int x2), .val (.int x3)]) (St' := [.int x3, .ref 8]) (σ' := σ) [.aload_n 0, .getfield 32, .iload_n 3] (by decide +kernel) hc hT hF wi (by exact rfl) ?_
        refine am_baloadZ (by decide +kernel) hc rfl (fun hb0 => ?_)
        refine am_if_eq (o := 6) (pc1 := 32) (by decide +kernel) hc (fun hq => ?_) (fun hq => ?_)
        · exact am_wk (Ls' := [.val (.ref 0), .val (.int x1), .val (.int x2), .val (.int x3)]) (by simp [wkL]) (okc_c_getDetectedCount_32 hw hc _ ih x1 x2 x3 σ)
        · refine am_blk (pc' := 32) (Ls' := [.val (.ref 0), .val (.int x1), .val (.int (x2 + (1 : Int32))), .val (.int x3)]) (St' := []) (σ' := σ) [.iinc 2 1] (by decide +kernel) hc hT hF wi (by exact rfl) ?_
          exact am_wk (Ls' := [.val (.ref 0), .val (.int x1), .val (.int (x2 + (1 : Int32))), .val (.int x3)]) (by simp [wkL]) (okc_c_getDetectedCount_32 hw hc _ ih x1 (x2 + (1 : Int32)) x3 σ)
      · refine am_blk (pc' := 39) (Ls' := [.val (.ref 0), .val (.int x1), .val (.int x2), .val (.int x3)]) (St' := [.int x2]) (σ' := σ) [.iload_n 2] (by decide +kernel) hc hT hF wi (by exact rfl) ?_
        exact am_retI (by decide +kernel) hc (by decide) (by decide) (fun h W O => ⟨rfl, W, O⟩)
    · refine am_blk (pc' := 39) (Ls' := [.val (.ref 0), .val (.int x1), .val (.int x2), .val (.int x3)]) (St' := [.int x2]) (σ' := σ) [.iload_n 2] (by decide +kernel) hc hT hF wi (by exact rfl) ?_
      exact am_retI (by decide +kernel) hc (by decide) (by decide) (fun h W O => ⟨rfl, W, O⟩)
def c_getDetectedCount (σ : Sg) : Option (Int32 × Sg) :=
  (c_faultCount σ).bind fun r1 => c_getDetectedCount_9 400 r1.1 (0 : Int32) (0 : Int32) r1.2
set_option maxRecDepth 65536 in
set_option maxHeartbeats 4000000 in
theorem ok_c_getDetectedCount (hw : WH a0 Z) (σ : Sg) : ∀ x, c_getDetectedCount σ = some x → Con l Z "LogicBist" fsC (⟨"LogicBist", "getDetectedCount", "()I"⟩ : MethodName) prog_1_method_15_code 4 (some .int) rm_c_getDetectedCount wC [.ref 0] σ (fI x).1 (fI x).2 := by
  refine am_con pnC ?_
  intro p e s m below meth c A n0 h0 hc
  have hT := tabC hw "getDetectedCount"
  have hF := fsokC hw
  have wi := wiC hw
  unfold c_getDetectedCount
  refine am_blk (pc' := 1) (Ls' := [.val (.ref 0), .unset, .unset, .unset]) (St' := [.ref 0]) (σ' := σ) [.aload_n 0] (by decide +kernel) hc hT hF wi (by exact rfl) ?_
  refine am_callP_I (W0 := 0) (argsL := []) (rest := []) rfl (lk_C_118 hw) rfl wi (by decide +kernel) hc (SubW.refl _) rfl (by show arity "()I" 0 = true; decide +kernel) (ok_c_faultCount hw _) rfl ⟨by decide, by decide, Nat.le_of_eq rfl, rfl, rfl, by decide, by decide⟩ (fun r1 hr => ?_)
  refine am_blk (pc' := 9) (Ls' := [.val (.ref 0), .val (.int r1.1), .val (.int (0 : Int32)), .val (.int (0 : Int32))]) (St' := []) (σ' := r1.2) [.istore_n 1, .iconst 0, .istore_n 2, .iconst 0, .istore_n 3] (by decide +kernel) hc hT hF wi (by exact rfl) ?_
  exact am_wk (Ls' := [.val (.ref 0), .val (.int r1.1), .val (.int (0 : Int32)), .val (.int (0 : Int32))]) (by simp [wkL]) (okc_c_getDetectedCount_9 hw hc 400 r1.1 (0 : Int32) (0 : Int32) r1.2)
abbrev rm_c_coverageAt : Room := { frames := 2, cells := 0, slots := 0, locals := 25 }
def c_coverageAt_51 (k16 : Int32 → Int32 → Int32 → Int32 → Sg → Option (Int32 × Sg)) (x1 : Int32) (x2 : Int32) (x3 : Int32) (x4 : Int32) (σ : Sg) : Option (Int32 × Sg) :=
  k16 x1 x2 x3 (x4 + (1 : Int32)) σ
set_option maxRecDepth 65536 in
set_option maxHeartbeats 4000000 in
theorem okc_c_coverageAt_51 (hw : WH a0 Z) (hc : Cx p s m meth c Z "LogicBist" prog_1_method_16_code 6 (some .int) "coverageAt") (k16 : Int32 → Int32 → Int32 → Int32 → Sg → Option (Int32 × Sg)) (hk16 : ∀ (x1 : Int32) (x2 : Int32) (x3 : Int32) (x4 : Int32) (σ : Sg), OkR p l e rm_c_coverageAt s m args below meth c Z "LogicBist" fsC n0 h0 (FM Z "LogicBist" fsC A wC h0 fI) A wC 0 0 16 [.val (.ref 0), .val (.int x1), .val (.int x2), .val (.int x3), .val (.int x4), .unset] [] σ (k16 x1 x2 x3 x4 σ)) (x1 : Int32) (x2 : Int32) (x3 : Int32) (x4 : Int32) (σ : Sg) : OkR p l e rm_c_coverageAt s m args below meth c Z "LogicBist" fsC n0 h0 (FM Z "LogicBist" fsC A wC h0 fI) A wC 0 0 51 [.val (.ref 0), .val (.int x1), .val (.int x2), .val (.int x3), .val (.int x4), .unset] [] σ (c_coverageAt_51 k16 x1 x2 x3 x4 σ) := by
  have hT := tabC hw "coverageAt"
  have hF := fsokC hw
  have wi := wiC hw
  unfold c_coverageAt_51
  refine am_blk (pc' := 16) (Ls' := [.val (.ref 0), .val (.int x1), .val (.int x2), .val (.int x3), .val (.int (x4 + (1 : Int32))), .unset]) (St' := []) (σ' := σ) [.iinc 4 1, .goto (-38)] (by decide +kernel) hc hT hF wi (by exact rfl) ?_
  exact am_wk (Ls' := [.val (.ref 0), .val (.int x1), .val (.int x2), .val (.int x3), .val (.int (x4 + (1 : Int32))), .unset]) (by simp [wkL]) (hk16 x1 x2 x3 (x4 + (1 : Int32)) σ)
def c_coverageAt_16 : Nat → Int32 → Int32 → Int32 → Int32 → Sg → Option (Int32 × Sg)
  | 0, _, _, _, _, _ => none
  | fuel + 1, x1, x2, x3, x4, σ =>
    if x4 < x2 then (if x4 < (80 : Int32) then ((c_firstDetectOf x4 σ).bind fun r1 => if r1.1 < 0 then (c_coverageAt_51 (c_coverageAt_16 fuel) x1 x2 x3 x4 r1.2) else (if x1 < r1.1 then (c_coverageAt_51 (c_coverageAt_16 fuel) x1 x2 x3 x4 r1.2) else (c_coverageAt_51 (c_coverageAt_16 fuel) x1 x2 (x3 + (1 : Int32)) x4 r1.2))) else (some (x3, σ))) else (some (x3, σ))
set_option maxRecDepth 65536 in
set_option maxHeartbeats 4000000 in
theorem okc_c_coverageAt_16 (hw : WH a0 Z) (hc : Cx p s m meth c Z "LogicBist" prog_1_method_16_code 6 (some .int) "coverageAt") : ∀ (fuel : Nat) (x1 : Int32) (x2 : Int32) (x3 : Int32) (x4 : Int32) (σ : Sg), OkR p l e rm_c_coverageAt s m args below meth c Z "LogicBist" fsC n0 h0 (FM Z "LogicBist" fsC A wC h0 fI) A wC 0 0 16 [.val (.ref 0), .val (.int x1), .val (.int x2), .val (.int x3), .val (.int x4), .unset] [] σ (c_coverageAt_16 fuel x1 x2 x3 x4 σ) := by
  have hT := tabC hw "coverageAt"
  have hF := fsokC hw
  have wi := wiC hw
  intro fuel
  induction fuel with
  | zero => intro x1 x2 x3 x4 σ; exact am_none rfl
  | succ fuel ih =>
    intro x1 x2 x3 x4 σ
    rw [c_coverageAt_16]
    refine am_blk (pc' := 19) (Ls' := [.val (.ref 0), .val (.int x1), .val (.int x2), .val (.int x3), .val (.int x4), .unset]) (St' := [.int x2, .int x4]) (σ' := σ) [.iload 4, .iload_n 2] (by decide +kernel) hc hT hF wi (by exact rfl) ?_
    refine am_icmp_ge (o := 38) (pc1 := 57) (by decide +kernel) hc (fun hq => ?_) (fun hq => ?_)
    · refine am_blk (pc' := 26) (Ls' := [.val (.ref 0), .val (.int x1), .val (.int x2), .val (.int x3), .val (.int x4), .unset]) (St' := [.int (80 : Int32), .int x4]) (σ' := σ) [.iload 4, .bipush 80] (by decide +kernel) hc hT hF wi (by exact rfl) ?_
      refine am_icmp_ge (o := 31) (pc1 := 57) (by decide +kernel) hc (fun hq => ?_) (fun hq => ?_)
      · refine am_blk (pc' := 32) (Ls' := [.val (.ref 0), .val (.int x1), .val (.int x2), .val (.int x3), .val (.int x4), .unset]) (St' := [.int x4, .ref 0]) (σ' := σ) [.aload_n 0, .iload 4] (by decide +kernel) hc hT hF wi (by exact rfl) ?_
        refine am_callP_I (W0 := 0) (argsL := [.int x4]) (rest := []) rfl (lk_C_115 hw) rfl wi (by decide +kernel) hc (SubW.refl _) rfl (by show arity "(I)I" 1 = true; decide +kernel) (ok_c_firstDetectOf hw x4 _) rfl ⟨by decide, by decide, Nat.le_of_eq rfl, rfl, rfl, by decide, by decide⟩ (fun r1 hr => ?_)
        refine am_blk (pc' := 39) (Ls' := [.val (.ref 0), .val (.int x1), .val (.int x2), .val (.int x3), .val (.int x4), .val (.int r1.1)]) (St' := [.int r1.1]) (σ' := r1.2) [.istore 5, .iload 5] (by decide +kernel) hc hT hF wi (by exact rfl) ?_
        refine am_if_lt (o := 12) (pc1 := 51) (by decide +kernel) hc (fun hq => ?_) (fun hq => ?_)
        · exact am_wk (Ls' := [.val (.ref 0), .val (.int x1), .val (.int x2), .val (.int x3), .val (.int x4), .unset]) (by simp [wkL]) (okc_c_coverageAt_51 hw hc _ ih x1 x2 x3 x4 r1.2)
        · refine am_blk (pc' := 45) (Ls' := [.val (.ref 0), .val (.int x1), .val (.int x2), .val (.int x3), .val (.int x4), .val (.int r1.1)]) (St' := [.int x1, .int r1.1]) (σ' := r1.2) [.iload 5, .iload_n 1] (by decide +kernel) hc hT hF wi (by exact rfl) ?_
          refine am_icmp_gt (o := 6) (pc1 := 51) (by decide +kernel) hc (fun hq => ?_) (fun hq => ?_)
          · exact am_wk (Ls' := [.val (.ref 0), .val (.int x1), .val (.int x2), .val (.int x3), .val (.int x4), .unset]) (by simp [wkL]) (okc_c_coverageAt_51 hw hc _ ih x1 x2 x3 x4 r1.2)
          · refine am_blk (pc' := 51) (Ls' := [.val (.ref 0), .val (.int x1), .val (.int x2), .val (.int (x3 + (1 : Int32))), .val (.int x4), .val (.int r1.1)]) (St' := []) (σ' := r1.2) [.iinc 3 1] (by decide +kernel) hc hT hF wi (by exact rfl) ?_
            exact am_wk (Ls' := [.val (.ref 0), .val (.int x1), .val (.int x2), .val (.int (x3 + (1 : Int32))), .val (.int x4), .unset]) (by simp [wkL]) (okc_c_coverageAt_51 hw hc _ ih x1 x2 (x3 + (1 : Int32)) x4 r1.2)
      · refine am_blk (pc' := 58) (Ls' := [.val (.ref 0), .val (.int x1), .val (.int x2), .val (.int x3), .val (.int x4), .unset]) (St' := [.int x3]) (σ' := σ) [.iload_n 3] (by decide +kernel) hc hT hF wi (by exact rfl) ?_
        exact am_retI (by decide +kernel) hc (by decide) (by decide) (fun h W O => ⟨rfl, W, O⟩)
    · refine am_blk (pc' := 58) (Ls' := [.val (.ref 0), .val (.int x1), .val (.int x2), .val (.int x3), .val (.int x4), .unset]) (St' := [.int x3]) (σ' := σ) [.iload_n 3] (by decide +kernel) hc hT hF wi (by exact rfl) ?_
      exact am_retI (by decide +kernel) hc (by decide) (by decide) (fun h W O => ⟨rfl, W, O⟩)
def c_coverageAt (x1 : Int32) (σ : Sg) : Option (Int32 × Sg) :=
  if x1 < 0 then (some ((0 : Int32), σ)) else ((c_faultCount σ).bind fun r1 => c_coverageAt_16 400 x1 r1.1 (0 : Int32) (0 : Int32) r1.2)
set_option maxRecDepth 65536 in
set_option maxHeartbeats 4000000 in
theorem ok_c_coverageAt (hw : WH a0 Z) (x1 : Int32) (σ : Sg) : ∀ x, c_coverageAt x1 σ = some x → Con l Z "LogicBist" fsC (⟨"LogicBist", "coverageAt", "(I)I"⟩ : MethodName) prog_1_method_16_code 6 (some .int) rm_c_coverageAt wC [.ref 0, .int x1] σ (fI x).1 (fI x).2 := by
  refine am_con pnC ?_
  intro p e s m below meth c A n0 h0 hc
  have hT := tabC hw "coverageAt"
  have hF := fsokC hw
  have wi := wiC hw
  unfold c_coverageAt
  refine am_blk (pc' := 1) (Ls' := [.val (.ref 0), .val (.int x1), .unset, .unset, .unset, .unset]) (St' := [.int x1]) (σ' := σ) [.iload_n 1] (by decide +kernel) hc hT hF wi (by exact rfl) ?_
  refine am_if_ge (o := 5) (pc1 := 6) (by decide +kernel) hc (fun hq => ?_) (fun hq => ?_)
  · refine am_blk (pc' := 5) (Ls' := [.val (.ref 0), .val (.int x1), .unset, .unset, .unset, .unset]) (St' := [.int (0 : Int32)]) (σ' := σ) [.iconst 0] (by decide +kernel) hc hT hF wi (by exact rfl) ?_
    exact am_retI (by decide +kernel) hc (by decide) (by decide) (fun h W O => ⟨rfl, W, O⟩)
  · refine am_blk (pc' := 7) (Ls' := [.val (.ref 0), .val (.int x1), .unset, .unset, .unset, .unset]) (St' := [.ref 0]) (σ' := σ) [.aload_n 0] (by decide +kernel) hc hT hF wi (by exact rfl) ?_
    refine am_callP_I (W0 := 0) (argsL := []) (rest := []) rfl (lk_C_118 hw) rfl wi (by decide +kernel) hc (SubW.refl _) rfl (by show arity "()I" 0 = true; decide +kernel) (ok_c_faultCount hw _) rfl ⟨by decide, by decide, Nat.le_of_eq rfl, rfl, rfl, by decide, by decide⟩ (fun r1 hr => ?_)
    refine am_blk (pc' := 16) (Ls' := [.val (.ref 0), .val (.int x1), .val (.int r1.1), .val (.int (0 : Int32)), .val (.int (0 : Int32)), .unset]) (St' := []) (σ' := r1.2) [.istore_n 2, .iconst 0, .istore_n 3, .iconst 0, .istore 4] (by decide +kernel) hc hT hF wi (by exact rfl) ?_
    exact am_wk (Ls' := [.val (.ref 0), .val (.int x1), .val (.int r1.1), .val (.int (0 : Int32)), .val (.int (0 : Int32)), .unset]) (by simp [wkL]) (okc_c_coverageAt_16 hw hc 400 x1 r1.1 (0 : Int32) (0 : Int32) r1.2)
abbrev rm_c_getFaultCount : Room := { frames := 2, cells := 0, slots := 0, locals := 25 }
def c_getFaultCount (σ : Sg) : Option (Int32 × Sg) :=
  (c_faultCount σ).bind fun r1 => some (r1.1, r1.2)
set_option maxRecDepth 65536 in
set_option maxHeartbeats 4000000 in
theorem ok_c_getFaultCount (hw : WH a0 Z) (σ : Sg) : ∀ x, c_getFaultCount σ = some x → Con l Z "LogicBist" fsC (⟨"LogicBist", "getFaultCount", "()I"⟩ : MethodName) prog_1_method_17_code 1 (some .int) rm_c_getFaultCount wC [.ref 0] σ (fI x).1 (fI x).2 := by
  refine am_con pnC ?_
  intro p e s m below meth c A n0 h0 hc
  have hT := tabC hw "getFaultCount"
  have hF := fsokC hw
  have wi := wiC hw
  unfold c_getFaultCount
  refine am_blk (pc' := 1) (Ls' := [.val (.ref 0)]) (St' := [.ref 0]) (σ' := σ) [.aload_n 0] (by decide +kernel) hc hT hF wi (by exact rfl) ?_
  refine am_callP_I (W0 := 0) (argsL := []) (rest := []) rfl (lk_C_118 hw) rfl wi (by decide +kernel) hc (SubW.refl _) rfl (by show arity "()I" 0 = true; decide +kernel) (ok_c_faultCount hw _) rfl ⟨by decide, by decide, Nat.le_of_eq rfl, rfl, rfl, by decide, by decide⟩ (fun r1 hr => ?_)
  exact am_retI (by decide +kernel) hc (by decide) (by decide) (fun h W O => ⟨rfl, W, O⟩)
abbrev rm_q_law : Room := room_1
def q_law_376 (k237 : Int32 → Int32 → Int32 → Int32 → Int32 → Int32 → Int32 → Int32 → Int32 → Int32 → Sg → Option (Int32 × Sg)) (x4 : Int32) (x6 : Int32) (x8 : Int32) (x9 : Int32) (x12 : Int32) (x13 : Int32) (x14 : Int32) (x15 : Int32) (x16 : Int32) (x17 : Int32) (s0 : Int32) (s1 : Int32) (σ : Sg) : Option (Int32 × Sg) :=
  if s1 = s0 then (k237 x4 x6 x8 x9 x12 x13 x14 x15 x16 (x17 + (1 : Int32)) σ) else (some ((0 : Int32), σ))
set_option maxRecDepth 65536 in
set_option maxHeartbeats 4000000 in
theorem okc_q_law_376 (hw : WH a0 Z) (hc : Cx p s m meth c Z "LogicBistL3" code 22 (some .boolean) "law") (hw0 : Rd w0 9) (hn : n0 ≤ h0.size) (k237 : Int32 → Int32 → Int32 → Int32 → Int32 → Int32 → Int32 → Int32 → Int32 → Int32 → Sg → Option (Int32 × Sg)) (hk237 : ∀ (x4 : Int32) (x6 : Int32) (x8 : Int32) (x9 : Int32) (x12 : Int32) (x13 : Int32) (x14 : Int32) (x15 : Int32) (x16 : Int32) (x17 : Int32) (σ : Sg), OkR p l e rm_q_law s m args below meth c Z "LogicBist" fsC n0 h0 FL A (wF arrsC w0) 10 444 237 [.unset, .unset, .unset, .unset, .val (.int x4), .unset, .val (.int x6), .unset, .val (.int x8), .val (.int x9), .unset, .val (.ref 0), .val (.int x12), .val (.int x13), .val (.int x14), .val (.int x15), .val (.int x16), .val (.int x17), .unset, .unset, .unset, .unset] [] σ (k237 x4 x6 x8 x9 x12 x13 x14 x15 x16 x17 σ)) (x4 : Int32) (x6 : Int32) (x8 : Int32) (x9 : Int32) (x12 : Int32) (x13 : Int32) (x14 : Int32) (x15 : Int32) (x16 : Int32) (x17 : Int32) (s0 : Int32) (s1 : Int32) (σ : Sg) : OkR p l e rm_q_law s m args below meth c Z "LogicBist" fsC n0 h0 FL A (wF arrsC w0) 10 444 376 [.unset, .unset, .unset, .unset, .val (.int x4), .unset, .val (.int x6), .unset, .val (.int x8), .val (.int x9), .unset, .val (.ref 0), .val (.int x12), .val (.int x13), .val (.int x14), .val (.int x15), .val (.int x16), .val (.int x17), .unset, .unset, .unset, .unset] [.int s0, .int s1] σ (q_law_376 k237 x4 x6 x8 x9 x12 x13 x14 x15 x16 x17 s0 s1 σ) := by
  have hT := tabL hw "law"
  have hF := fsokC hw
  have wi := wiC hw
  unfold q_law_376
  refine am_icmp_eq (o := 5) (pc1 := 381) (by decide +kernel) hc (fun hq => ?_) (fun hq => ?_)
  · refine am_blk (pc' := 237) (Ls' := [.unset, .unset, .unset, .unset, .val (.int x4), .unset, .val (.int x6), .unset, .val (.int x8), .val (.int x9), .unset, .val (.ref 0), .val (.int x12), .val (.int x13), .val (.int x14), .val (.int x15), .val (.int x16), .val (.int (x17 + (1 : Int32))), .unset, .unset, .unset, .unset]) (St' := []) (σ' := σ) [.iinc 17 1, .goto (-147)] (by decide +kernel) hc hT hF wi (by exact rfl) ?_
    exact am_wk (Ls' := [.unset, .unset, .unset, .unset, .val (.int x4), .unset, .val (.int x6), .unset, .val (.int x8), .val (.int x9), .unset, .val (.ref 0), .val (.int x12), .val (.int x13), .val (.int x14), .val (.int x15), .val (.int x16), .val (.int (x17 + (1 : Int32))), .unset, .unset, .unset, .unset]) (by simp [wkL]) (hk237 x4 x6 x8 x9 x12 x13 x14 x15 x16 (x17 + (1 : Int32)) σ)
  · refine am_blk (pc' := 380) (Ls' := [.unset, .unset, .unset, .unset, .val (.int x4), .unset, .val (.int x6), .unset, .val (.int x8), .val (.int x9), .unset, .val (.ref 0), .val (.int x12), .val (.int x13), .val (.int x14), .val (.int x15), .val (.int x16), .val (.int x17), .unset, .unset, .unset, .unset]) (St' := [.int (0 : Int32)]) (σ' := σ) [.iconst 0] (by decide +kernel) hc hT hF wi (by exact rfl) ?_
    exact am_retZ (by decide +kernel) hc (by decide) (by decide) (fun h W O => rfl)
def q_law_375 (k237 : Int32 → Int32 → Int32 → Int32 → Int32 → Int32 → Int32 → Int32 → Int32 → Int32 → Sg → Option (Int32 × Sg)) (x4 : Int32) (x6 : Int32) (x8 : Int32) (x9 : Int32) (x12 : Int32) (x13 : Int32) (x14 : Int32) (x15 : Int32) (x16 : Int32) (x17 : Int32) (s0 : Int32) (σ : Sg) : Option (Int32 × Sg) :=
  q_law_376 k237 x4 x6 x8 x9 x12 x13 x14 x15 x16 x17 (0 : Int32) s0 σ
set_option maxRecDepth 65536 in
set_option maxHeartbeats 4000000 in
theorem okc_q_law_375 (hw : WH a0 Z) (hc : Cx p s m meth c Z "LogicBistL3" code 22 (some .boolean) "law") (hw0 : Rd w0 9) (hn : n0 ≤ h0.size) (k237 : Int32 → Int32 → Int32 → Int32 → Int32 → Int32 → Int32 → Int32 → Int32 → Int32 → Sg → Option (Int32 × Sg)) (hk237 : ∀ (x4 : Int32) (x6 : Int32) (x8 : Int32) (x9 : Int32) (x12 : Int32) (x13 : Int32) (x14 : Int32) (x15 : Int32) (x16 : Int32) (x17 : Int32) (σ : Sg), OkR p l e rm_q_law s m args below meth c Z "LogicBist" fsC n0 h0 FL A (wF arrsC w0) 10 444 237 [.unset, .unset, .unset, .unset, .val (.int x4), .unset, .val (.int x6), .unset, .val (.int x8), .val (.int x9), .unset, .val (.ref 0), .val (.int x12), .val (.int x13), .val (.int x14), .val (.int x15), .val (.int x16), .val (.int x17), .unset, .unset, .unset, .unset] [] σ (k237 x4 x6 x8 x9 x12 x13 x14 x15 x16 x17 σ)) (x4 : Int32) (x6 : Int32) (x8 : Int32) (x9 : Int32) (x12 : Int32) (x13 : Int32) (x14 : Int32) (x15 : Int32) (x16 : Int32) (x17 : Int32) (s0 : Int32) (σ : Sg) : OkR p l e rm_q_law s m args below meth c Z "LogicBist" fsC n0 h0 FL A (wF arrsC w0) 10 444 375 [.unset, .unset, .unset, .unset, .val (.int x4), .unset, .val (.int x6), .unset, .val (.int x8), .val (.int x9), .unset, .val (.ref 0), .val (.int x12), .val (.int x13), .val (.int x14), .val (.int x15), .val (.int x16), .val (.int x17), .unset, .unset, .unset, .unset] [.int s0] σ (q_law_375 k237 x4 x6 x8 x9 x12 x13 x14 x15 x16 x17 s0 σ) := by
  have hT := tabL hw "law"
  have hF := fsokC hw
  have wi := wiC hw
  unfold q_law_375
  refine am_blk (pc' := 376) (Ls' := [.unset, .unset, .unset, .unset, .val (.int x4), .unset, .val (.int x6), .unset, .val (.int x8), .val (.int x9), .unset, .val (.ref 0), .val (.int x12), .val (.int x13), .val (.int x14), .val (.int x15), .val (.int x16), .val (.int x17), .unset, .unset, .unset, .unset]) (St' := [.int (0 : Int32), .int s0]) (σ' := σ) [.iconst 0] (by decide +kernel) hc hT hF wi (by exact rfl) ?_
  exact am_wk (Ls' := [.unset, .unset, .unset, .unset, .val (.int x4), .unset, .val (.int x6), .unset, .val (.int x8), .val (.int x9), .unset, .val (.ref 0), .val (.int x12), .val (.int x13), .val (.int x14), .val (.int x15), .val (.int x16), .val (.int x17), .unset, .unset, .unset, .unset]) (by simp [wkL]) (okc_q_law_376 hw hc hw0 hn k237 hk237 x4 x6 x8 x9 x12 x13 x14 x15 x16 x17 (0 : Int32) s0 σ)
def q_law_324 (k237 : Int32 → Int32 → Int32 → Int32 → Int32 → Int32 → Int32 → Int32 → Int32 → Int32 → Sg → Option (Int32 × Sg)) (x4 : Int32) (x6 : Int32) (x8 : Int32) (x9 : Int32) (x12 : Int32) (x13 : Int32) (x14 : Int32) (x15 : Int32) (x16 : Int32) (x17 : Int32) (x20 : Int32) (x21 : Int32) (σ : Sg) : Option (Int32 × Sg) :=
  (c_getFaultSignature x17 σ).bind fun r1 => if r1.1 = x20 then ((c_getFirstDetect x17 r1.2).bind fun r2 => if r2.1 = x21 then ((c_isAliased x17 r2.2).bind fun r3 => if x21 < 0 then (q_law_375 k237 x4 x6 x8 x9 x12 x13 x14 x15 x16 x17 r3.1 r3.2) else (if x20 = x14 then (q_law_376 k237 x4 x6 x8 x9 x12 x13 x14 x15 x16 x17 (1 : Int32) r3.1 r3.2) else (q_law_375 k237 x4 x6 x8 x9 x12 x13 x14 x15 x16 x17 r3.1 r3.2))) else (some ((0 : Int32), r2.2))) else (some ((0 : Int32), r1.2))
set_option maxRecDepth 65536 in
set_option maxHeartbeats 4000000 in
theorem okc_q_law_324 (hw : WH a0 Z) (hc : Cx p s m meth c Z "LogicBistL3" code 22 (some .boolean) "law") (hw0 : Rd w0 9) (hn : n0 ≤ h0.size) (k237 : Int32 → Int32 → Int32 → Int32 → Int32 → Int32 → Int32 → Int32 → Int32 → Int32 → Sg → Option (Int32 × Sg)) (hk237 : ∀ (x4 : Int32) (x6 : Int32) (x8 : Int32) (x9 : Int32) (x12 : Int32) (x13 : Int32) (x14 : Int32) (x15 : Int32) (x16 : Int32) (x17 : Int32) (σ : Sg), OkR p l e rm_q_law s m args below meth c Z "LogicBist" fsC n0 h0 FL A (wF arrsC w0) 10 444 237 [.unset, .unset, .unset, .unset, .val (.int x4), .unset, .val (.int x6), .unset, .val (.int x8), .val (.int x9), .unset, .val (.ref 0), .val (.int x12), .val (.int x13), .val (.int x14), .val (.int x15), .val (.int x16), .val (.int x17), .unset, .unset, .unset, .unset] [] σ (k237 x4 x6 x8 x9 x12 x13 x14 x15 x16 x17 σ)) (x4 : Int32) (x6 : Int32) (x8 : Int32) (x9 : Int32) (x12 : Int32) (x13 : Int32) (x14 : Int32) (x15 : Int32) (x16 : Int32) (x17 : Int32) (x20 : Int32) (x21 : Int32) (σ : Sg) : OkR p l e rm_q_law s m args below meth c Z "LogicBist" fsC n0 h0 FL A (wF arrsC w0) 10 444 324 [.unset, .unset, .unset, .unset, .val (.int x4), .unset, .val (.int x6), .unset, .val (.int x8), .val (.int x9), .unset, .val (.ref 0), .val (.int x12), .val (.int x13), .val (.int x14), .val (.int x15), .val (.int x16), .val (.int x17), .unset, .unset, .val (.int x20), .val (.int x21)] [] σ (q_law_324 k237 x4 x6 x8 x9 x12 x13 x14 x15 x16 x17 x20 x21 σ) := by
  have hT := tabL hw "law"
  have hF := fsokC hw
  have wi := wiC hw
  unfold q_law_324
  refine am_blk (pc' := 328) (Ls' := [.unset, .unset, .unset, .unset, .val (.int x4), .unset, .val (.int x6), .unset, .val (.int x8), .val (.int x9), .unset, .val (.ref 0), .val (.int x12), .val (.int x13), .val (.int x14), .val (.int x15), .val (.int x16), .val (.int x17), .unset, .unset, .val (.int x20), .val (.int x21)]) (St' := [.int x17, .ref 0]) (σ' := σ) [.aload 11, .iload 17] (by decide +kernel) hc hT hF wi (by exact rfl) ?_
  refine am_callV_I (W0 := 0) (argsL := [.int x17]) (rest := []) rfl (lk_L_54 hw) rfl (by decide +kernel) hc (subF hw0) rfl (by show arity "(I)I" 1 = true; decide +kernel) (ok_c_getFaultSignature hw x17 _) rfl ⟨by decide, by decide, Nat.le_of_eq rfl, rfl, rfl, by decide, by decide⟩ (fun r1 hr => ?_)
  refine am_blk (pc' := 333) (Ls' := [.unset, .unset, .unset, .unset, .val (.int x4), .unset, .val (.int x6), .unset, .val (.int x8), .val (.int x9), .unset, .val (.ref 0), .val (.int x12), .val (.int x13), .val (.int x14), .val (.int x15), .val (.int x16), .val (.int x17), .unset, .unset, .val (.int x20), .val (.int x21)]) (St' := [.int x20, .int r1.1]) (σ' := r1.2) [.iload 20] (by decide +kernel) hc hT hF wi (by exact rfl) ?_
  refine am_icmp_eq (o := 5) (pc1 := 338) (by decide +kernel) hc (fun hq => ?_) (fun hq => ?_)
  · refine am_blk (pc' := 342) (Ls' := [.unset, .unset, .unset, .unset, .val (.int x4), .unset, .val (.int x6), .unset, .val (.int x8), .val (.int x9), .unset, .val (.ref 0), .val (.int x12), .val (.int x13), .val (.int x14), .val (.int x15), .val (.int x16), .val (.int x17), .unset, .unset, .val (.int x20), .val (.int x21)]) (St' := [.int x17, .ref 0]) (σ' := r1.2) [.aload 11, .iload 17] (by decide +kernel) hc hT hF wi (by exact rfl) ?_
    refine am_callV_I (W0 := 0) (argsL := [.int x17]) (rest := []) rfl (lk_L_57 hw) rfl (by decide +kernel) hc (subF hw0) rfl (by show arity "(I)I" 1 = true; decide +kernel) (ok_c_getFirstDetect hw x17 _) rfl ⟨by decide, by decide, Nat.le_of_eq rfl, rfl, rfl, by decide, by decide⟩ (fun r2 hr => ?_)
    refine am_blk (pc' := 347) (Ls' := [.unset, .unset, .unset, .unset, .val (.int x4), .unset, .val (.int x6), .unset, .val (.int x8), .val (.int x9), .unset, .val (.ref 0), .val (.int x12), .val (.int x13), .val (.int x14), .val (.int x15), .val (.int x16), .val (.int x17), .unset, .unset, .val (.int x20), .val (.int x21)]) (St' := [.int x21, .int r2.1]) (σ' := r2.2) [.iload 21] (by decide +kernel) hc hT hF wi (by exact rfl) ?_
    refine am_icmp_eq (o := 5) (pc1 := 352) (by decide +kernel) hc (fun hq => ?_) (fun hq => ?_)
    · refine am_blk (pc' := 356) (Ls' := [.unset, .unset, .unset, .unset, .val (.int x4), .unset, .val (.int x6), .unset, .val (.int x8), .val (.int x9), .unset, .val (.ref 0), .val (.int x12), .val (.int x13), .val (.int x14), .val (.int x15), .val (.int x16), .val (.int x17), .unset, .unset, .val (.int x20), .val (.int x21)]) (St' := [.int x17, .ref 0]) (σ' := r2.2) [.aload 11, .iload 17] (by decide +kernel) hc hT hF wi (by exact rfl) ?_
      refine am_callV_I (W0 := 0) (argsL := [.int x17]) (rest := []) rfl (lk_L_60 hw) rfl (by decide +kernel) hc (subF hw0) rfl (by show arity "(I)Z" 1 = true; decide +kernel) (ok_c_isAliased hw x17 _) rfl ⟨by decide, by decide, Nat.le_of_eq rfl, rfl, rfl, by decide, by decide⟩ (fun r3 hr => ?_)
      refine am_blk (pc' := 361) (Ls' := [.unset, .unset, .unset, .unset, .val (.int x4), .unset, .val (.int x6), .unset, .val (.int x8), .val (.int x9), .unset, .val (.ref 0), .val (.int x12), .val (.int x13), .val (.int x14), .val (.int x15), .val (.int x16), .val (.int x17), .unset, .unset, .val (.int x20), .val (.int x21)]) (St' := [.int x21, .int r3.1]) (σ' := r3.2) [.iload 21] (by decide +kernel) hc hT hF wi (by exact rfl) ?_
      refine am_if_lt (o := 14) (pc1 := 375) (by decide +kernel) hc (fun hq => ?_) (fun hq => ?_)
      · exact am_wk (Ls' := [.unset, .unset, .unset, .unset, .val (.int x4), .unset, .val (.int x6), .unset, .val (.int x8), .val (.int x9), .unset, .val (.ref 0), .val (.int x12), .val (.int x13), .val (.int x14), .val (.int x15), .val (.int x16), .val (.int x17), .unset, .unset, .unset, .unset]) (by simp [wkL]) (okc_q_law_375 hw hc hw0 hn k237 hk237 x4 x6 x8 x9 x12 x13 x14 x15 x16 x17 r3.1 r3.2)
      · refine am_blk (pc' := 368) (Ls' := [.unset, .unset, .unset, .unset, .val (.int x4), .unset, .val (.int x6), .unset, .val (.int x8), .val (.int x9), .unset, .val (.ref 0), .val (.int x12), .val (.int x13), .val (.int x14), .val (.int x15), .val (.int x16), .val (.int x17), .unset, .unset, .val (.int x20), .val (.int x21)]) (St' := [.int x14, .int x20, .int r3.1]) (σ' := r3.2) [.iload 20, .iload 14] (by decide +kernel) hc hT hF wi (by exact rfl) ?_
        refine am_icmp_ne (o := 7) (pc1 := 375) (by decide +kernel) hc (fun hq => ?_) (fun hq => ?_)
        · refine am_blk (pc' := 376) (Ls' := [.unset, .unset, .unset, .unset, .val (.int x4), .unset, .val (.int x6), .unset, .val (.int x8), .val (.int x9), .unset, .val (.ref 0), .val (.int x12), .val (.int x13), .val (.int x14), .val (.int x15), .val (.int x16), .val (.int x17), .unset, .unset, .val (.int x20), .val (.int x21)]) (St' := [.int (1 : Int32), .int r3.1]) (σ' := r3.2) [.iconst 1, .goto 4] (by decide +kernel) hc hT hF wi (by exact rfl) ?_
          exact am_wk (Ls' := [.unset, .unset, .unset, .unset, .val (.int x4), .unset, .val (.int x6), .unset, .val (.int x8), .val (.int x9), .unset, .val (.ref 0), .val (.int x12), .val (.int x13), .val (.int x14), .val (.int x15), .val (.int x16), .val (.int x17), .unset, .unset, .unset, .unset]) (by simp [wkL]) (okc_q_law_376 hw hc hw0 hn k237 hk237 x4 x6 x8 x9 x12 x13 x14 x15 x16 x17 (1 : Int32) r3.1 r3.2)
        · exact am_wk (Ls' := [.unset, .unset, .unset, .unset, .val (.int x4), .unset, .val (.int x6), .unset, .val (.int x8), .val (.int x9), .unset, .val (.ref 0), .val (.int x12), .val (.int x13), .val (.int x14), .val (.int x15), .val (.int x16), .val (.int x17), .unset, .unset, .unset, .unset]) (by simp [wkL]) (okc_q_law_375 hw hc hw0 hn k237 hk237 x4 x6 x8 x9 x12 x13 x14 x15 x16 x17 r3.1 r3.2)
    · refine am_blk (pc' := 351) (Ls' := [.unset, .unset, .unset, .unset, .val (.int x4), .unset, .val (.int x6), .unset, .val (.int x8), .val (.int x9), .unset, .val (.ref 0), .val (.int x12), .val (.int x13), .val (.int x14), .val (.int x15), .val (.int x16), .val (.int x17), .unset, .unset, .val (.int x20), .val (.int x21)]) (St' := [.int (0 : Int32)]) (σ' := r2.2) [.iconst 0] (by decide +kernel) hc hT hF wi (by exact rfl) ?_
      exact am_retZ (by decide +kernel) hc (by decide) (by decide) (fun h W O => rfl)
  · refine am_blk (pc' := 337) (Ls' := [.unset, .unset, .unset, .unset, .val (.int x4), .unset, .val (.int x6), .unset, .val (.int x8), .val (.int x9), .unset, .val (.ref 0), .val (.int x12), .val (.int x13), .val (.int x14), .val (.int x15), .val (.int x16), .val (.int x17), .unset, .unset, .val (.int x20), .val (.int x21)]) (St' := [.int (0 : Int32)]) (σ' := r1.2) [.iconst 0] (by decide +kernel) hc hT hF wi (by exact rfl) ?_
    exact am_retZ (by decide +kernel) hc (by decide) (by decide) (fun h W O => rfl)
def q_law_316 (k237 : Int32 → Int32 → Int32 → Int32 → Int32 → Int32 → Int32 → Int32 → Int32 → Int32 → Sg → Option (Int32 × Sg)) (x4 : Int32) (x6 : Int32) (x8 : Int32) (x9 : Int32) (x12 : Int32) (x13 : Int32) (x14 : Int32) (x15 : Int32) (x16 : Int32) (x17 : Int32) (x20 : Int32) (x21 : Int32) (σ : Sg) : Option (Int32 × Sg) :=
  if x21 = 0 then (q_law_324 k237 x4 x6 x8 x9 x12 x13 x14 x15 (x16 + (1 : Int32)) x17 x20 x21 σ) else (q_law_324 k237 x4 x6 x8 x9 x12 x13 x14 x15 x16 x17 x20 x21 σ)
set_option maxRecDepth 65536 in
set_option maxHeartbeats 4000000 in
theorem okc_q_law_316 (hw : WH a0 Z) (hc : Cx p s m meth c Z "LogicBistL3" code 22 (some .boolean) "law") (hw0 : Rd w0 9) (hn : n0 ≤ h0.size) (k237 : Int32 → Int32 → Int32 → Int32 → Int32 → Int32 → Int32 → Int32 → Int32 → Int32 → Sg → Option (Int32 × Sg)) (hk237 : ∀ (x4 : Int32) (x6 : Int32) (x8 : Int32) (x9 : Int32) (x12 : Int32) (x13 : Int32) (x14 : Int32) (x15 : Int32) (x16 : Int32) (x17 : Int32) (σ : Sg), OkR p l e rm_q_law s m args below meth c Z "LogicBist" fsC n0 h0 FL A (wF arrsC w0) 10 444 237 [.unset, .unset, .unset, .unset, .val (.int x4), .unset, .val (.int x6), .unset, .val (.int x8), .val (.int x9), .unset, .val (.ref 0), .val (.int x12), .val (.int x13), .val (.int x14), .val (.int x15), .val (.int x16), .val (.int x17), .unset, .unset, .unset, .unset] [] σ (k237 x4 x6 x8 x9 x12 x13 x14 x15 x16 x17 σ)) (x4 : Int32) (x6 : Int32) (x8 : Int32) (x9 : Int32) (x12 : Int32) (x13 : Int32) (x14 : Int32) (x15 : Int32) (x16 : Int32) (x17 : Int32) (x20 : Int32) (x21 : Int32) (σ : Sg) : OkR p l e rm_q_law s m args below meth c Z "LogicBist" fsC n0 h0 FL A (wF arrsC w0) 10 444 316 [.unset, .unset, .unset, .unset, .val (.int x4), .unset, .val (.int x6), .unset, .val (.int x8), .val (.int x9), .unset, .val (.ref 0), .val (.int x12), .val (.int x13), .val (.int x14), .val (.int x15), .val (.int x16), .val (.int x17), .unset, .unset, .val (.int x20), .val (.int x21)] [] σ (q_law_316 k237 x4 x6 x8 x9 x12 x13 x14 x15 x16 x17 x20 x21 σ) := by
  have hT := tabL hw "law"
  have hF := fsokC hw
  have wi := wiC hw
  unfold q_law_316
  refine am_blk (pc' := 318) (Ls' := [.unset, .unset, .unset, .unset, .val (.int x4), .unset, .val (.int x6), .unset, .val (.int x8), .val (.int x9), .unset, .val (.ref 0), .val (.int x12), .val (.int x13), .val (.int x14), .val (.int x15), .val (.int x16), .val (.int x17), .unset, .unset, .val (.int x20), .val (.int x21)]) (St' := [.int x21]) (σ' := σ) [.iload 21] (by decide +kernel) hc hT hF wi (by exact rfl) ?_
  refine am_if_ne (o := 6) (pc1 := 324) (by decide +kernel) hc (fun hq => ?_) (fun hq => ?_)
  · refine am_blk (pc' := 324) (Ls' := [.unset, .unset, .unset, .unset, .val (.int x4), .unset, .val (.int x6), .unset, .val (.int x8), .val (.int x9), .unset, .val (.ref 0), .val (.int x12), .val (.int x13), .val (.int x14), .val (.int x15), .val (.int (x16 + (1 : Int32))), .val (.int x17), .unset, .unset, .val (.int x20), .val (.int x21)]) (St' := []) (σ' := σ) [.iinc 16 1] (by decide +kernel) hc hT hF wi (by exact rfl) ?_
    exact am_wk (Ls' := [.unset, .unset, .unset, .unset, .val (.int x4), .unset, .val (.int x6), .unset, .val (.int x8), .val (.int x9), .unset, .val (.ref 0), .val (.int x12), .val (.int x13), .val (.int x14), .val (.int x15), .val (.int (x16 + (1 : Int32))), .val (.int x17), .unset, .unset, .val (.int x20), .val (.int x21)]) (by simp [wkL]) (okc_q_law_324 hw hc hw0 hn k237 hk237 x4 x6 x8 x9 x12 x13 x14 x15 (x16 + (1 : Int32)) x17 x20 x21 σ)
  · exact am_wk (Ls' := [.unset, .unset, .unset, .unset, .val (.int x4), .unset, .val (.int x6), .unset, .val (.int x8), .val (.int x9), .unset, .val (.ref 0), .val (.int x12), .val (.int x13), .val (.int x14), .val (.int x15), .val (.int x16), .val (.int x17), .unset, .unset, .val (.int x20), .val (.int x21)]) (by simp [wkL]) (okc_q_law_324 hw hc hw0 hn k237 hk237 x4 x6 x8 x9 x12 x13 x14 x15 x16 x17 x20 x21 σ)
def q_law_306 (k237 : Int32 → Int32 → Int32 → Int32 → Int32 → Int32 → Int32 → Int32 → Int32 → Int32 → Sg → Option (Int32 × Sg)) (x4 : Int32) (x6 : Int32) (x8 : Int32) (x9 : Int32) (x12 : Int32) (x13 : Int32) (x14 : Int32) (x15 : Int32) (x16 : Int32) (x17 : Int32) (x20 : Int32) (s0 : Int32) (σ : Sg) : Option (Int32 × Sg) :=
  if s0 < 0 then (q_law_316 k237 x4 x6 x8 x9 x12 x13 x14 x15 x16 x17 x20 s0 σ) else (q_law_316 k237 x4 x6 x8 x9 x12 x13 x14 (x15 + (1 : Int32)) x16 x17 x20 s0 σ)
set_option maxRecDepth 65536 in
set_option maxHeartbeats 4000000 in
theorem okc_q_law_306 (hw : WH a0 Z) (hc : Cx p s m meth c Z "LogicBistL3" code 22 (some .boolean) "law") (hw0 : Rd w0 9) (hn : n0 ≤ h0.size) (k237 : Int32 → Int32 → Int32 → Int32 → Int32 → Int32 → Int32 → Int32 → Int32 → Int32 → Sg → Option (Int32 × Sg)) (hk237 : ∀ (x4 : Int32) (x6 : Int32) (x8 : Int32) (x9 : Int32) (x12 : Int32) (x13 : Int32) (x14 : Int32) (x15 : Int32) (x16 : Int32) (x17 : Int32) (σ : Sg), OkR p l e rm_q_law s m args below meth c Z "LogicBist" fsC n0 h0 FL A (wF arrsC w0) 10 444 237 [.unset, .unset, .unset, .unset, .val (.int x4), .unset, .val (.int x6), .unset, .val (.int x8), .val (.int x9), .unset, .val (.ref 0), .val (.int x12), .val (.int x13), .val (.int x14), .val (.int x15), .val (.int x16), .val (.int x17), .unset, .unset, .unset, .unset] [] σ (k237 x4 x6 x8 x9 x12 x13 x14 x15 x16 x17 σ)) (x4 : Int32) (x6 : Int32) (x8 : Int32) (x9 : Int32) (x12 : Int32) (x13 : Int32) (x14 : Int32) (x15 : Int32) (x16 : Int32) (x17 : Int32) (x20 : Int32) (s0 : Int32) (σ : Sg) : OkR p l e rm_q_law s m args below meth c Z "LogicBist" fsC n0 h0 FL A (wF arrsC w0) 10 444 306 [.unset, .unset, .unset, .unset, .val (.int x4), .unset, .val (.int x6), .unset, .val (.int x8), .val (.int x9), .unset, .val (.ref 0), .val (.int x12), .val (.int x13), .val (.int x14), .val (.int x15), .val (.int x16), .val (.int x17), .unset, .unset, .val (.int x20), .unset] [.int s0] σ (q_law_306 k237 x4 x6 x8 x9 x12 x13 x14 x15 x16 x17 x20 s0 σ) := by
  have hT := tabL hw "law"
  have hF := fsokC hw
  have wi := wiC hw
  unfold q_law_306
  refine am_blk (pc' := 310) (Ls' := [.unset, .unset, .unset, .unset, .val (.int x4), .unset, .val (.int x6), .unset, .val (.int x8), .val (.int x9), .unset, .val (.ref 0), .val (.int x12), .val (.int x13), .val (.int x14), .val (.int x15), .val (.int x16), .val (.int x17), .unset, .unset, .val (.int x20), .val (.int s0)]) (St' := [.int s0]) (σ' := σ) [.istore 21, .iload 21] (by decide +kernel) hc hT hF wi (by exact rfl) ?_
  refine am_if_lt (o := 6) (pc1 := 316) (by decide +kernel) hc (fun hq => ?_) (fun hq => ?_)
  · exact am_wk (Ls' := [.unset, .unset, .unset, .unset, .val (.int x4), .unset, .val (.int x6), .unset, .val (.int x8), .val (.int x9), .unset, .val (.ref 0), .val (.int x12), .val (.int x13), .val (.int x14), .val (.int x15), .val (.int x16), .val (.int x17), .unset, .unset, .val (.int x20), .val (.int s0)]) (by simp [wkL]) (okc_q_law_316 hw hc hw0 hn k237 hk237 x4 x6 x8 x9 x12 x13 x14 x15 x16 x17 x20 s0 σ)
  · refine am_blk (pc' := 316) (Ls' := [.unset, .unset, .unset, .unset, .val (.int x4), .unset, .val (.int x6), .unset, .val (.int x8), .val (.int x9), .unset, .val (.ref 0), .val (.int x12), .val (.int x13), .val (.int x14), .val (.int (x15 + (1 : Int32))), .val (.int x16), .val (.int x17), .unset, .unset, .val (.int x20), .val (.int s0)]) (St' := []) (σ' := σ) [.iinc 15 1] (by decide +kernel) hc hT hF wi (by exact rfl) ?_
    exact am_wk (Ls' := [.unset, .unset, .unset, .unset, .val (.int x4), .unset, .val (.int x6), .unset, .val (.int x8), .val (.int x9), .unset, .val (.ref 0), .val (.int x12), .val (.int x13), .val (.int x14), .val (.int (x15 + (1 : Int32))), .val (.int x16), .val (.int x17), .unset, .unset, .val (.int x20), .val (.int s0)]) (by simp [wkL]) (okc_q_law_316 hw hc hw0 hn k237 hk237 x4 x6 x8 x9 x12 x13 x14 (x15 + (1 : Int32)) x16 x17 x20 s0 σ)
def q_law_278 (k237 : Int32 → Int32 → Int32 → Int32 → Int32 → Int32 → Int32 → Int32 → Int32 → Int32 → Sg → Option (Int32 × Sg)) (x4 : Int32) (x6 : Int32) (x8 : Int32) (x9 : Int32) (x12 : Int32) (x13 : Int32) (x14 : Int32) (x15 : Int32) (x16 : Int32) (x17 : Int32) (x18 : Int32) (x19 : Int32) (s0 : Int32) (σ : Sg) : Option (Int32 × Sg) :=
  if x18 = x12 then (if x19 = x13 then (q_law_306 k237 x4 x6 x8 x9 x12 x13 x14 x15 x16 x17 (s0 ^^^ x19) (-1 : Int32) σ) else (q_law_306 k237 x4 x6 x8 x9 x12 x13 x14 x15 x16 x17 (s0 ^^^ x19) (1 : Int32) σ)) else (q_law_306 k237 x4 x6 x8 x9 x12 x13 x14 x15 x16 x17 (s0 ^^^ x19) (0 : Int32) σ)
set_option maxRecDepth 65536 in
set_option maxHeartbeats 4000000 in
theorem okc_q_law_278 (hw : WH a0 Z) (hc : Cx p s m meth c Z "LogicBistL3" code 22 (some .boolean) "law") (hw0 : Rd w0 9) (hn : n0 ≤ h0.size) (k237 : Int32 → Int32 → Int32 → Int32 → Int32 → Int32 → Int32 → Int32 → Int32 → Int32 → Sg → Option (Int32 × Sg)) (hk237 : ∀ (x4 : Int32) (x6 : Int32) (x8 : Int32) (x9 : Int32) (x12 : Int32) (x13 : Int32) (x14 : Int32) (x15 : Int32) (x16 : Int32) (x17 : Int32) (σ : Sg), OkR p l e rm_q_law s m args below meth c Z "LogicBist" fsC n0 h0 FL A (wF arrsC w0) 10 444 237 [.unset, .unset, .unset, .unset, .val (.int x4), .unset, .val (.int x6), .unset, .val (.int x8), .val (.int x9), .unset, .val (.ref 0), .val (.int x12), .val (.int x13), .val (.int x14), .val (.int x15), .val (.int x16), .val (.int x17), .unset, .unset, .unset, .unset] [] σ (k237 x4 x6 x8 x9 x12 x13 x14 x15 x16 x17 σ)) (x4 : Int32) (x6 : Int32) (x8 : Int32) (x9 : Int32) (x12 : Int32) (x13 : Int32) (x14 : Int32) (x15 : Int32) (x16 : Int32) (x17 : Int32) (x18 : Int32) (x19 : Int32) (s0 : Int32) (σ : Sg) : OkR p l e rm_q_law s m args below meth c Z "LogicBist" fsC n0 h0 FL A (wF arrsC w0) 10 444 278 [.unset, .unset, .unset, .unset, .val (.int x4), .unset, .val (.int x6), .unset, .val (.int x8), .val (.int x9), .unset, .val (.ref 0), .val (.int x12), .val (.int x13), .val (.int x14), .val (.int x15), .val (.int x16), .val (.int x17), .val (.int x18), .val (.int x19), .unset, .unset] [.int s0] σ (q_law_278 k237 x4 x6 x8 x9 x12 x13 x14 x15 x16 x17 x18 x19 s0 σ) := by
  have hT := tabL hw "law"
  have hF := fsokC hw
  have wi := wiC hw
  unfold q_law_278
  refine am_blk (pc' := 287) (Ls' := [.unset, .unset, .unset, .unset, .val (.int x4), .unset, .val (.int x6), .unset, .val (.int x8), .val (.int x9), .unset, .val (.ref 0), .val (.int x12), .val (.int x13), .val (.int x14), .val (.int x15), .val (.int x16), .val (.int x17), .val (.int x18), .val (.int x19), .val (.int (s0 ^^^ x19)), .unset]) (St' := [.int x12, .int x18]) (σ' := σ) [.iload 19, .ixor, .istore 20, .iload 18, .iload 12] (by decide +kernel) hc hT hF wi (by exact rfl) ?_
  refine am_icmp_eq (o := 7) (pc1 := 294) (by decide +kernel) hc (fun hq => ?_) (fun hq => ?_)
  · refine am_blk (pc' := 298) (Ls' := [.unset, .unset, .unset, .unset, .val (.int x4), .unset, .val (.int x6), .unset, .val (.int x8), .val (.int x9), .unset, .val (.ref 0), .val (.int x12), .val (.int x13), .val (.int x14), .val (.int x15), .val (.int x16), .val (.int x17), .val (.int x18), .val (.int x19), .val (.int (s0 ^^^ x19)), .unset]) (St' := [.int x13, .int x19]) (σ' := σ) [.iload 19, .iload 13] (by decide +kernel) hc hT hF wi (by exact rfl) ?_
    refine am_icmp_eq (o := 7) (pc1 := 305) (by decide +kernel) hc (fun hq => ?_) (fun hq => ?_)
    · refine am_blk (pc' := 306) (Ls' := [.unset, .unset, .unset, .unset, .val (.int x4), .unset, .val (.int x6), .unset, .val (.int x8), .val (.int x9), .unset, .val (.ref 0), .val (.int x12), .val (.int x13), .val (.int x14), .val (.int x15), .val (.int x16), .val (.int x17), .val (.int x18), .val (.int x19), .val (.int (s0 ^^^ x19)), .unset]) (St' := [.int (-1 : Int32)]) (σ' := σ) [.iconst (-1)] (by decide +kernel) hc hT hF wi (by exact rfl) ?_
      exact am_wk (Ls' := [.unset, .unset, .unset, .unset, .val (.int x4), .unset, .val (.int x6), .unset, .val (.int x8), .val (.int x9), .unset, .val (.ref 0), .val (.int x12), .val (.int x13), .val (.int x14), .val (.int x15), .val (.int x16), .val (.int x17), .unset, .unset, .val (.int (s0 ^^^ x19)), .unset]) (by simp [wkL]) (okc_q_law_306 hw hc hw0 hn k237 hk237 x4 x6 x8 x9 x12 x13 x14 x15 x16 x17 (s0 ^^^ x19) (-1 : Int32) σ)
    · refine am_blk (pc' := 306) (Ls' := [.unset, .unset, .unset, .unset, .val (.int x4), .unset, .val (.int x6), .unset, .val (.int x8), .val (.int x9), .unset, .val (.ref 0), .val (.int x12), .val (.int x13), .val (.int x14), .val (.int x15), .val (.int x16), .val (.int x17), .val (.int x18), .val (.int x19), .val (.int (s0 ^^^ x19)), .unset]) (St' := [.int (1 : Int32)]) (σ' := σ) [.iconst 1, .goto 4] (by decide +kernel) hc hT hF wi (by exact rfl) ?_
      exact am_wk (Ls' := [.unset, .unset, .unset, .unset, .val (.int x4), .unset, .val (.int x6), .unset, .val (.int x8), .val (.int x9), .unset, .val (.ref 0), .val (.int x12), .val (.int x13), .val (.int x14), .val (.int x15), .val (.int x16), .val (.int x17), .unset, .unset, .val (.int (s0 ^^^ x19)), .unset]) (by simp [wkL]) (okc_q_law_306 hw hc hw0 hn k237 hk237 x4 x6 x8 x9 x12 x13 x14 x15 x16 x17 (s0 ^^^ x19) (1 : Int32) σ)
  · refine am_blk (pc' := 306) (Ls' := [.unset, .unset, .unset, .unset, .val (.int x4), .unset, .val (.int x6), .unset, .val (.int x8), .val (.int x9), .unset, .val (.ref 0), .val (.int x12), .val (.int x13), .val (.int x14), .val (.int x15), .val (.int x16), .val (.int x17), .val (.int x18), .val (.int x19), .val (.int (s0 ^^^ x19)), .unset]) (St' := [.int (0 : Int32)]) (σ' := σ) [.iconst 0, .goto 15] (by decide +kernel) hc hT hF wi (by exact rfl) ?_
    exact am_wk (Ls' := [.unset, .unset, .unset, .unset, .val (.int x4), .unset, .val (.int x6), .unset, .val (.int x8), .val (.int x9), .unset, .val (.ref 0), .val (.int x12), .val (.int x13), .val (.int x14), .val (.int x15), .val (.int x16), .val (.int x17), .unset, .unset, .val (.int (s0 ^^^ x19)), .unset]) (by simp [wkL]) (okc_q_law_306 hw hc hw0 hn k237 hk237 x4 x6 x8 x9 x12 x13 x14 x15 x16 x17 (s0 ^^^ x19) (0 : Int32) σ)
def q_law_237 : Nat → Int32 → Int32 → Int32 → Int32 → Int32 → Int32 → Int32 → Int32 → Int32 → Int32 → Sg → Option (Int32 × Sg)
  | 0, _, _, _, _, _, _, _, _, _, _, _ => none
  | fuel + 1, x4, x6, x8, x9, x12, x13, x14, x15, x16, x17, σ =>
    if x17 < (6 : Int32) then ((q_out x4 x8 x17 σ).bind fun r1 => (q_out x4 x9 x17 r1.2).bind fun r2 => if r1.1 = (1 : Int32) then (q_law_278 (q_law_237 fuel) x4 x6 x8 x9 x12 x13 x14 x15 x16 x17 r1.1 r2.1 x6 r2.2) else (q_law_278 (q_law_237 fuel) x4 x6 x8 x9 x12 x13 x14 x15 x16 x17 r1.1 r2.1 (0 : Int32) r2.2)) else ((c_getDetectedCount σ).bind fun r3 => if r3.1 = x15 then ((c_coverageAt (0 : Int32) r3.2).bind fun r4 => if r4.1 = x16 then ((c_getFaultCount r4.2).bind fun r5 => if r5.1 = (6 : Int32) then (some ((1 : Int32), r5.2)) else (some ((0 : Int32), r5.2))) else (some ((0 : Int32), r4.2))) else (some ((0 : Int32), r3.2)))
set_option maxRecDepth 65536 in
set_option maxHeartbeats 4000000 in
theorem okc_q_law_237 (hw : WH a0 Z) (hc : Cx p s m meth c Z "LogicBistL3" code 22 (some .boolean) "law") (hw0 : Rd w0 9) (hn : n0 ≤ h0.size) : ∀ (fuel : Nat) (x4 : Int32) (x6 : Int32) (x8 : Int32) (x9 : Int32) (x12 : Int32) (x13 : Int32) (x14 : Int32) (x15 : Int32) (x16 : Int32) (x17 : Int32) (σ : Sg), OkR p l e rm_q_law s m args below meth c Z "LogicBist" fsC n0 h0 FL A (wF arrsC w0) 10 444 237 [.unset, .unset, .unset, .unset, .val (.int x4), .unset, .val (.int x6), .unset, .val (.int x8), .val (.int x9), .unset, .val (.ref 0), .val (.int x12), .val (.int x13), .val (.int x14), .val (.int x15), .val (.int x16), .val (.int x17), .unset, .unset, .unset, .unset] [] σ (q_law_237 fuel x4 x6 x8 x9 x12 x13 x14 x15 x16 x17 σ) := by
  have hT := tabL hw "law"
  have hF := fsokC hw
  have wi := wiC hw
  intro fuel
  induction fuel with
  | zero => intro x4 x6 x8 x9 x12 x13 x14 x15 x16 x17 σ; exact am_none rfl
  | succ fuel ih =>
    intro x4 x6 x8 x9 x12 x13 x14 x15 x16 x17 σ
    rw [q_law_237]
    refine am_blk (pc' := 241) (Ls' := [.unset, .unset, .unset, .unset, .val (.int x4), .unset, .val (.int x6), .unset, .val (.int x8), .val (.int x9), .unset, .val (.ref 0), .val (.int x12), .val (.int x13), .val (.int x14), .val (.int x15), .val (.int x16), .val (.int x17), .unset, .unset, .unset, .unset]) (St' := [.int (6 : Int32), .int x17]) (σ' := σ) [.iload 17, .bipush 6] (by decide +kernel) hc hT hF wi (by exact rfl) ?_
    refine am_icmp_ge (o := 146) (pc1 := 387) (by decide +kernel) hc (fun hq => ?_) (fun hq => ?_)
    · refine am_blk (pc' := 250) (Ls' := [.unset, .unset, .unset, .unset, .val (.int x4), .unset, .val (.int x6), .unset, .val (.int x8), .val (.int x9), .unset, .val (.ref 0), .val (.int x12), .val (.int x13), .val (.int x14), .val (.int x15), .val (.int x16), .val (.int x17), .unset, .unset, .unset, .unset]) (St' := [.int x17, .int x8, .int x4]) (σ' := σ) [.iload 4, .iload 8, .iload 17] (by decide +kernel) hc hT hF wi (by exact rfl) ?_
      refine am_callS_I (W0 := 0) (argsL := [.int x4, .int x8, .int x17]) (rest := []) (lk_L_48 hw) (by decide +kernel) hc (SubW.refl _) rfl (by show arity "(III)I" 3 = true; decide +kernel) (ok_q_out hw x4 x8 x17 _) rfl ⟨by decide, by decide, Nat.le_of_eq rfl, rfl, rfl, by decide, by decide⟩ (fun r1 hr => ?_)
      refine am_blk (pc' := 261) (Ls' := [.unset, .unset, .unset, .unset, .val (.int x4), .unset, .val (.int x6), .unset, .val (.int x8), .val (.int x9), .unset, .val (.ref 0), .val (.int x12), .val (.int x13), .val (.int x14), .val (.int x15), .val (.int x16), .val (.int x17), .val (.int r1.1), .unset, .unset, .unset]) (St' := [.int x17, .int x9, .int x4]) (σ' := r1.2) [.istore 18, .iload 4, .iload 9, .iload 17] (by decide +kernel) hc hT hF wi (by exact rfl) ?_
      refine am_callS_I (W0 := 0) (argsL := [.int x4, .int x9, .int x17]) (rest := []) (lk_L_48 hw) (by decide +kernel) hc (SubW.refl _) rfl (by show arity "(III)I" 3 = true; decide +kernel) (ok_q_out hw x4 x9 x17 _) rfl ⟨by decide, by decide, Nat.le_of_eq rfl, rfl, rfl, by decide, by decide⟩ (fun r2 hr => ?_)
      refine am_blk (pc' := 269) (Ls' := [.unset, .unset, .unset, .unset, .val (.int x4), .unset, .val (.int x6), .unset, .val (.int x8), .val (.int x9), .unset, .val (.ref 0), .val (.int x12), .val (.int x13), .val (.int x14), .val (.int x15), .val (.int x16), .val (.int x17), .val (.int r1.1), .val (.int r2.1), .unset, .unset]) (St' := [.int (1 : Int32), .int r1.1]) (σ' := r2.2) [.istore 19, .iload 18, .iconst 1] (by decide +kernel) hc hT hF wi (by exact rfl) ?_
      refine am_icmp_ne (o := 8) (pc1 := 277) (by decide +kernel) hc (fun hq => ?_) (fun hq => ?_)
      · refine am_blk (pc' := 278) (Ls' := [.unset, .unset, .unset, .unset, .val (.int x4), .unset, .val (.int x6), .unset, .val (.int x8), .val (.int x9), .unset, .val (.ref 0), .val (.int x12), .val (.int x13), .val (.int x14), .val (.int x15), .val (.int x16), .val (.int x17), .val (.int r1.1), .val (.int r2.1), .unset, .unset]) (St' := [.int x6]) (σ' := r2.2) [.iload 6, .goto 4] (by decide +kernel) hc hT hF wi (by exact rfl) ?_
        exact am_wk (Ls' := [.unset, .unset, .unset, .unset, .val (.int x4), .unset, .val (.int x6), .unset, .val (.int x8), .val (.int x9), .unset, .val (.ref 0), .val (.int x12), .val (.int x13), .val (.int x14), .val (.int x15), .val (.int x16), .val (.int x17), .val (.int r1.1), .val (.int r2.1), .unset, .unset]) (by simp [wkL]) (okc_q_law_278 hw hc hw0 hn _ ih x4 x6 x8 x9 x12 x13 x14 x15 x16 x17 r1.1 r2.1 x6 r2.2)
      · refine am_blk (pc' := 278) (Ls' := [.unset, .unset, .unset, .unset, .val (.int x4), .unset, .val (.int x6), .unset, .val (.int x8), .val (.int x9), .unset, .val (.ref 0), .val (.int x12), .val (.int x13), .val (.int x14), .val (.int x15), .val (.int x16), .val (.int x17), .val (.int r1.1), .val (.int r2.1), .unset, .unset]) (St' := [.int (0 : Int32)]) (σ' := r2.2) [.iconst 0] (by decide +kernel) hc hT hF wi (by exact rfl) ?_
        exact am_wk (Ls' := [.unset, .unset, .unset, .unset, .val (.int x4), .unset, .val (.int x6), .unset, .val (.int x8), .val (.int x9), .unset, .val (.ref 0), .val (.int x12), .val (.int x13), .val (.int x14), .val (.int x15), .val (.int x16), .val (.int x17), .val (.int r1.1), .val (.int r2.1), .unset, .unset]) (by simp [wkL]) (okc_q_law_278 hw hc hw0 hn _ ih x4 x6 x8 x9 x12 x13 x14 x15 x16 x17 r1.1 r2.1 (0 : Int32) r2.2)
    · refine am_blk (pc' := 389) (Ls' := [.unset, .unset, .unset, .unset, .val (.int x4), .unset, .val (.int x6), .unset, .val (.int x8), .val (.int x9), .unset, .val (.ref 0), .val (.int x12), .val (.int x13), .val (.int x14), .val (.int x15), .val (.int x16), .val (.int x17), .unset, .unset, .unset, .unset]) (St' := [.ref 0]) (σ' := σ) [.aload 11] (by decide +kernel) hc hT hF wi (by exact rfl) ?_
      refine am_callV_I (W0 := 0) (argsL := []) (rest := []) rfl (lk_L_63 hw) rfl (by decide +kernel) hc (subF hw0) rfl (by show arity "()I" 0 = true; decide +kernel) (ok_c_getDetectedCount hw _) rfl ⟨by decide, by decide, Nat.le_of_eq rfl, rfl, rfl, by decide, by decide⟩ (fun r3 hr => ?_)
      refine am_blk (pc' := 394) (Ls' := [.unset, .unset, .unset, .unset, .val (.int x4), .unset, .val (.int x6), .unset, .val (.int x8), .val (.int x9), .unset, .val (.ref 0), .val (.int x12), .val (.int x13), .val (.int x14), .val (.int x15), .val (.int x16), .val (.int x17), .unset, .unset, .unset, .unset]) (St' := [.int x15, .int r3.1]) (σ' := r3.2) [.iload 15] (by decide +kernel) hc hT hF wi (by exact rfl) ?_
      refine am_icmp_eq (o := 5) (pc1 := 399) (by decide +kernel) hc (fun hq => ?_) (fun hq => ?_)
      · refine am_blk (pc' := 402) (Ls' := [.unset, .unset, .unset, .unset, .val (.int x4), .unset, .val (.int x6), .unset, .val (.int x8), .val (.int x9), .unset, .val (.ref 0), .val (.int x12), .val (.int x13), .val (.int x14), .val (.int x15), .val (.int x16), .val (.int x17), .unset, .unset, .unset, .unset]) (St' := [.int (0 : Int32), .ref 0]) (σ' := r3.2) [.aload 11, .iconst 0] (by decide +kernel) hc hT hF wi (by exact rfl) ?_
        refine am_callV_I (W0 := 0) (argsL := [.int (0 : Int32)]) (rest := []) rfl (lk_L_66 hw) rfl (by decide +kernel) hc (subF hw0) rfl (by show arity "(I)I" 1 = true; decide +kernel) (ok_c_coverageAt hw (0 : Int32) _) rfl ⟨by decide, by decide, Nat.le_of_eq rfl, rfl, rfl, by decide, by decide⟩ (fun r4 hr => ?_)
        refine am_blk (pc' := 407) (Ls' := [.unset, .unset, .unset, .unset, .val (.int x4), .unset, .val (.int x6), .unset, .val (.int x8), .val (.int x9), .unset, .val (.ref 0), .val (.int x12), .val (.int x13), .val (.int x14), .val (.int x15), .val (.int x16), .val (.int x17), .unset, .unset, .unset, .unset]) (St' := [.int x16, .int r4.1]) (σ' := r4.2) [.iload 16] (by decide +kernel) hc hT hF wi (by exact rfl) ?_
        refine am_icmp_eq (o := 5) (pc1 := 412) (by decide +kernel) hc (fun hq => ?_) (fun hq => ?_)
        · refine am_blk (pc' := 414) (Ls' := [.unset, .unset, .unset, .unset, .val (.int x4), .unset, .val (.int x6), .unset, .val (.int x8), .val (.int x9), .unset, .val (.ref 0), .val (.int x12), .val (.int x13), .val (.int x14), .val (.int x15), .val (.int x16), .val (.int x17), .unset, .unset, .unset, .unset]) (St' := [.ref 0]) (σ' := r4.2) [.aload 11] (by decide +kernel) hc hT hF wi (by exact rfl) ?_
          refine am_callV_I (W0 := 0) (argsL := []) (rest := []) rfl (lk_L_69 hw) rfl (by decide +kernel) hc (subF hw0) rfl (by show arity "()I" 0 = true; decide +kernel) (ok_c_getFaultCount hw _) rfl ⟨by decide, by decide, Nat.le_of_eq rfl, rfl, rfl, by decide, by decide⟩ (fun r5 hr => ?_)
          refine am_blk (pc' := 419) (Ls' := [.unset, .unset, .unset, .unset, .val (.int x4), .unset, .val (.int x6), .unset, .val (.int x8), .val (.int x9), .unset, .val (.ref 0), .val (.int x12), .val (.int x13), .val (.int x14), .val (.int x15), .val (.int x16), .val (.int x17), .unset, .unset, .unset, .unset]) (St' := [.int (6 : Int32), .int r5.1]) (σ' := r5.2) [.bipush 6] (by decide +kernel) hc hT hF wi (by exact rfl) ?_
          refine am_icmp_eq (o := 5) (pc1 := 424) (by decide +kernel) hc (fun hq => ?_) (fun hq => ?_)
          · refine am_blk (pc' := 425) (Ls' := [.unset, .unset, .unset, .unset, .val (.int x4), .unset, .val (.int x6), .unset, .val (.int x8), .val (.int x9), .unset, .val (.ref 0), .val (.int x12), .val (.int x13), .val (.int x14), .val (.int x15), .val (.int x16), .val (.int x17), .unset, .unset, .unset, .unset]) (St' := [.int (1 : Int32)]) (σ' := r5.2) [.iconst 1] (by decide +kernel) hc hT hF wi (by exact rfl) ?_
            exact am_retZ (by decide +kernel) hc (by decide) (by decide) (fun h W O => rfl)
          · refine am_blk (pc' := 423) (Ls' := [.unset, .unset, .unset, .unset, .val (.int x4), .unset, .val (.int x6), .unset, .val (.int x8), .val (.int x9), .unset, .val (.ref 0), .val (.int x12), .val (.int x13), .val (.int x14), .val (.int x15), .val (.int x16), .val (.int x17), .unset, .unset, .unset, .unset]) (St' := [.int (0 : Int32)]) (σ' := r5.2) [.iconst 0] (by decide +kernel) hc hT hF wi (by exact rfl) ?_
            exact am_retZ (by decide +kernel) hc (by decide) (by decide) (fun h W O => rfl)
        · refine am_blk (pc' := 411) (Ls' := [.unset, .unset, .unset, .unset, .val (.int x4), .unset, .val (.int x6), .unset, .val (.int x8), .val (.int x9), .unset, .val (.ref 0), .val (.int x12), .val (.int x13), .val (.int x14), .val (.int x15), .val (.int x16), .val (.int x17), .unset, .unset, .unset, .unset]) (St' := [.int (0 : Int32)]) (σ' := r4.2) [.iconst 0] (by decide +kernel) hc hT hF wi (by exact rfl) ?_
          exact am_retZ (by decide +kernel) hc (by decide) (by decide) (fun h W O => rfl)
      · refine am_blk (pc' := 398) (Ls' := [.unset, .unset, .unset, .unset, .val (.int x4), .unset, .val (.int x6), .unset, .val (.int x8), .val (.int x9), .unset, .val (.ref 0), .val (.int x12), .val (.int x13), .val (.int x14), .val (.int x15), .val (.int x16), .val (.int x17), .unset, .unset, .unset, .unset]) (St' := [.int (0 : Int32)]) (σ' := r3.2) [.iconst 0] (by decide +kernel) hc hT hF wi (by exact rfl) ?_
        exact am_retZ (by decide +kernel) hc (by decide) (by decide) (fun h W O => rfl)
def q_law_211 (x4 : Int32) (x6 : Int32) (x8 : Int32) (x9 : Int32) (x12 : Int32) (x13 : Int32) (s0 : Int32) (σ : Sg) : Option (Int32 × Sg) :=
  (c_getGoldenSignature σ).bind fun r1 => if r1.1 = (s0 ^^^ x13) then (q_law_237 400 x4 x6 x8 x9 x12 x13 (s0 ^^^ x13) (0 : Int32) (0 : Int32) (0 : Int32) r1.2) else (some ((0 : Int32), r1.2))
set_option maxRecDepth 65536 in
set_option maxHeartbeats 4000000 in
theorem okc_q_law_211 (hw : WH a0 Z) (hc : Cx p s m meth c Z "LogicBistL3" code 22 (some .boolean) "law") (hw0 : Rd w0 9) (hn : n0 ≤ h0.size) (x4 : Int32) (x6 : Int32) (x8 : Int32) (x9 : Int32) (x12 : Int32) (x13 : Int32) (s0 : Int32) (σ : Sg) : OkR p l e rm_q_law s m args below meth c Z "LogicBist" fsC n0 h0 FL A (wF arrsC w0) 10 444 211 [.unset, .unset, .unset, .unset, .val (.int x4), .unset, .val (.int x6), .unset, .val (.int x8), .val (.int x9), .unset, .val (.ref 0), .val (.int x12), .val (.int x13), .unset, .unset, .unset, .unset, .unset, .unset, .unset, .unset] [.int s0] σ (q_law_211 x4 x6 x8 x9 x12 x13 s0 σ) := by
  have hT := tabL hw "law"
  have hF := fsokC hw
  have wi := wiC hw
  unfold q_law_211
  refine am_blk (pc' := 218) (Ls' := [.unset, .unset, .unset, .unset, .val (.int x4), .unset, .val (.int x6), .unset, .val (.int x8), .val (.int x9), .unset, .val (.ref 0), .val (.int x12), .val (.int x13), .val (.int (s0 ^^^ x13)), .unset, .unset, .unset, .unset, .unset, .unset, .unset]) (St' := [.ref 0]) (σ' := σ) [.iload 13, .ixor, .istore 14, .aload 11] (by decide +kernel) hc hT hF wi (by exact rfl) ?_
  refine am_callV_I (W0 := 0) (argsL := []) (rest := []) rfl (lk_L_51 hw) rfl (by decide +kernel) hc (subF hw0) rfl (by show arity "()I" 0 = true; decide +kernel) (ok_c_getGoldenSignature hw _) rfl ⟨by decide, by decide, Nat.le_of_eq rfl, rfl, rfl, by decide, by decide⟩ (fun r1 hr => ?_)
  refine am_blk (pc' := 223) (Ls' := [.unset, .unset, .unset, .unset, .val (.int x4), .unset, .val (.int x6), .unset, .val (.int x8), .val (.int x9), .unset, .val (.ref 0), .val (.int x12), .val (.int x13), .val (.int (s0 ^^^ x13)), .unset, .unset, .unset, .unset, .unset, .unset, .unset]) (St' := [.int (s0 ^^^ x13), .int r1.1]) (σ' := r1.2) [.iload 14] (by decide +kernel) hc hT hF wi (by exact rfl) ?_
  refine am_icmp_eq (o := 5) (pc1 := 228) (by decide +kernel) hc (fun hq => ?_) (fun hq => ?_)
  · refine am_blk (pc' := 237) (Ls' := [.unset, .unset, .unset, .unset, .val (.int x4), .unset, .val (.int x6), .unset, .val (.int x8), .val (.int x9), .unset, .val (.ref 0), .val (.int x12), .val (.int x13), .val (.int (s0 ^^^ x13)), .val (.int (0 : Int32)), .val (.int (0 : Int32)), .val (.int (0 : Int32)), .unset, .unset, .unset, .unset]) (St' := []) (σ' := r1.2) [.iconst 0, .istore 15, .iconst 0, .istore 16, .iconst 0, .istore 17] (by decide +kernel) hc hT hF wi (by exact rfl) ?_
    exact am_wk (Ls' := [.unset, .unset, .unset, .unset, .val (.int x4), .unset, .val (.int x6), .unset, .val (.int x8), .val (.int x9), .unset, .val (.ref 0), .val (.int x12), .val (.int x13), .val (.int (s0 ^^^ x13)), .val (.int (0 : Int32)), .val (.int (0 : Int32)), .val (.int (0 : Int32)), .unset, .unset, .unset, .unset]) (by simp [wkL]) (okc_q_law_237 hw hc hw0 hn 400 x4 x6 x8 x9 x12 x13 (s0 ^^^ x13) (0 : Int32) (0 : Int32) (0 : Int32) r1.2)
  · refine am_blk (pc' := 227) (Ls' := [.unset, .unset, .unset, .unset, .val (.int x4), .unset, .val (.int x6), .unset, .val (.int x8), .val (.int x9), .unset, .val (.ref 0), .val (.int x12), .val (.int x13), .val (.int (s0 ^^^ x13)), .unset, .unset, .unset, .unset, .unset, .unset, .unset]) (St' := [.int (0 : Int32)]) (σ' := r1.2) [.iconst 0] (by decide +kernel) hc hT hF wi (by exact rfl) ?_
    exact am_retZ (by decide +kernel) hc (by decide) (by decide) (fun h W O => rfl)
def q_law_102 (x3 : Int32) (x4 : Int32) (x6 : Int32) (x8 : Int32) (x9 : Int32) (x10 : Int32) (s0 : Int32) (s1 : Int32) (σ : Sg) : Option (Int32 × Sg) :=
  if s1 = s0 then ((c_setMisrMask x3 σ).bind fun r1 => if r1.1 = 0 then (some ((0 : Int32), r1.2)) else ((c_addGate x4 (0 : Int32) (1 : Int32) r1.2).bind fun r2 => if r2.1 = (2 : Int32) then ((c_markOutput (2 : Int32) r2.2).bind fun r3 => if r3.1 = 0 then (some ((0 : Int32), r3.2)) else ((c_run (2 : Int32) r3.2).bind fun r4 => if r4.1 = (2 : Int32) then ((c_getPatternCount r4.2).bind fun r5 => if r5.1 = (2 : Int32) then ((c_getLfsrState r5.2).bind fun r6 => if r6.1 = x10 then ((q_out x4 x8 (-1 : Int32) r6.2).bind fun r7 => (q_out x4 x9 (-1 : Int32) r7.2).bind fun r8 => if r7.1 = (1 : Int32) then (q_law_211 x4 x6 x8 x9 r7.1 r8.1 x6 r8.2) else (q_law_211 x4 x6 x8 x9 r7.1 r8.1 (0 : Int32) r8.2)) else (some ((0 : Int32), r6.2))) else (some ((0 : Int32), r5.2))) else (some ((0 : Int32), r4.2)))) else (some ((0 : Int32), r2.2)))) else (some ((0 : Int32), σ))
set_option maxRecDepth 65536 in
set_option maxHeartbeats 4000000 in
theorem okc_q_law_102 (hw : WH a0 Z) (hc : Cx p s m meth c Z "LogicBistL3" code 22 (some .boolean) "law") (hw0 : Rd w0 9) (hn : n0 ≤ h0.size) (x3 : Int32) (x4 : Int32) (x6 : Int32) (x8 : Int32) (x9 : Int32) (x10 : Int32) (s0 : Int32) (s1 : Int32) (σ : Sg) : OkR p l e rm_q_law s m args below meth c Z "LogicBist" fsC n0 h0 FL A (wF arrsC w0) 10 444 102 [.unset, .unset, .unset, .val (.int x3), .val (.int x4), .unset, .val (.int x6), .unset, .val (.int x8), .val (.int x9), .val (.int x10), .val (.ref 0), .unset, .unset, .unset, .unset, .unset, .unset, .unset, .unset, .unset, .unset] [.int s0, .int s1] σ (q_law_102 x3 x4 x6 x8 x9 x10 s0 s1 σ) := by
  have hT := tabL hw "law"
  have hF := fsokC hw
  have wi := wiC hw
  unfold q_law_102
  refine am_icmp_eq (o := 5) (pc1 := 107) (by decide +kernel) hc (fun hq => ?_) (fun hq => ?_)
  · refine am_blk (pc' := 110) (Ls' := [.unset, .unset, .unset, .val (.int x3), .val (.int x4), .unset, .val (.int x6), .unset, .val (.int x8), .val (.int x9), .val (.int x10), .val (.ref 0), .unset, .unset, .unset, .unset, .unset, .unset, .unset, .unset, .unset, .unset]) (St' := [.int x3, .ref 0]) (σ' := σ) [.aload 11, .iload_n 3] (by decide +kernel) hc hT hF wi (by exact rfl) ?_
    refine am_callV_I (W0 := 0) (argsL := [.int x3]) (rest := []) rfl (lk_L_29 hw) rfl (by decide +kernel) hc (subF hw0) rfl (by show arity "(I)Z" 1 = true; decide +kernel) (ok_c_setMisrMask hw x3 _) rfl ⟨by decide, by decide, Nat.le_of_eq rfl, rfl, rfl, by decide, by decide⟩ (fun r1 hr => ?_)
    refine am_if_ne (o := 5) (pc1 := 118) (by decide +kernel) hc (fun hq => ?_) (fun hq => ?_)
    · refine am_blk (pc' := 117) (Ls' := [.unset, .unset, .unset, .val (.int x3), .val (.int x4), .unset, .val (.int x6), .unset, .val (.int x8), .val (.int x9), .val (.int x10), .val (.ref 0), .unset, .unset, .unset, .unset, .unset, .unset, .unset, .unset, .unset, .unset]) (St' := [.int (0 : Int32)]) (σ' := r1.2) [.iconst 0] (by decide +kernel) hc hT hF wi (by exact rfl) ?_
      exact am_retZ (by decide +kernel) hc (by decide) (by decide) (fun h W O => rfl)
    · refine am_blk (pc' := 124) (Ls' := [.unset, .unset, .unset, .val (.int x3), .val (.int x4), .unset, .val (.int x6), .unset, .val (.int x8), .val (.int x9), .val (.int x10), .val (.ref 0), .unset, .unset, .unset, .unset, .unset, .unset, .unset, .unset, .unset, .unset]) (St' := [.int (1 : Int32), .int (0 : Int32), .int x4, .ref 0]) (σ' := r1.2) [.aload 11, .iload 4, .iconst 0, .iconst 1] (by decide +kernel) hc hT hF wi (by exact rfl) ?_
      refine am_callV_I (W0 := 0) (argsL := [.int x4, .int (0 : Int32), .int (1 : Int32)]) (rest := []) rfl (lk_L_32 hw) rfl (by decide +kernel) hc (subF hw0) rfl (by show arity "(III)I" 3 = true; decide +kernel) (ok_c_addGate hw x4 (0 : Int32) (1 : Int32) _) rfl ⟨by decide, by decide, Nat.le_of_eq rfl, rfl, rfl, by decide, by decide⟩ (fun r2 hr => ?_)
      refine am_blk (pc' := 128) (Ls' := [.unset, .unset, .unset, .val (.int x3), .val (.int x4), .unset, .val (.int x6), .unset, .val (.int x8), .val (.int x9), .val (.int x10), .val (.ref 0), .unset, .unset, .unset, .unset, .unset, .unset, .unset, .unset, .unset, .unset]) (St' := [.int (2 : Int32), .int r2.1]) (σ' := r2.2) [.iconst 2] (by decide +kernel) hc hT hF wi (by exact rfl) ?_
      refine am_icmp_eq (o := 5) (pc1 := 133) (by decide +kernel) hc (fun hq => ?_) (fun hq => ?_)
      · refine am_blk (pc' := 136) (Ls' := [.unset, .unset, .unset, .val (.int x3), .val (.int x4), .unset, .val (.int x6), .unset, .val (.int x8), .val (.int x9), .val (.int x10), .val (.ref 0), .unset, .unset, .unset, .unset, .unset, .unset, .unset, .unset, .unset, .unset]) (St' := [.int (2 : Int32), .ref 0]) (σ' := r2.2) [.aload 11, .iconst 2] (by decide +kernel) hc hT hF wi (by exact rfl) ?_
        refine am_callV_I (W0 := 0) (argsL := [.int (2 : Int32)]) (rest := []) rfl (lk_L_35 hw) rfl (by decide +kernel) hc (subF hw0) rfl (by show arity "(I)Z" 1 = true; decide +kernel) (ok_c_markOutput hw (2 : Int32) _) rfl ⟨by decide, by decide, Nat.le_of_eq rfl, rfl, rfl, by decide, by decide⟩ (fun r3 hr => ?_)
        refine am_if_ne (o := 5) (pc1 := 144) (by decide +kernel) hc (fun hq => ?_) (fun hq => ?_)
        · refine am_blk (pc' := 143) (Ls' := [.unset, .unset, .unset, .val (.int x3), .val (.int x4), .unset, .val (.int x6), .unset, .val (.int x8), .val (.int x9), .val (.int x10), .val (.ref 0), .unset, .unset, .unset, .unset, .unset, .unset, .unset, .unset, .unset, .unset]) (St' := [.int (0 : Int32)]) (σ' := r3.2) [.iconst 0] (by decide +kernel) hc hT hF wi (by exact rfl) ?_
          exact am_retZ (by decide +kernel) hc (by decide) (by decide) (fun h W O => rfl)
        · refine am_blk (pc' := 147) (Ls' := [.unset, .unset, .unset, .val (.int x3), .val (.int x4), .unset, .val (.int x6), .unset, .val (.int x8), .val (.int x9), .val (.int x10), .val (.ref 0), .unset, .unset, .unset, .unset, .unset, .unset, .unset, .unset, .unset, .unset]) (St' := [.int (2 : Int32), .ref 0]) (σ' := r3.2) [.aload 11, .iconst 2] (by decide +kernel) hc hT hF wi (by exact rfl) ?_
          refine am_callV_I (W0 := 0) (argsL := [.int (2 : Int32)]) (rest := []) rfl (lk_L_38 hw) rfl (by decide +kernel) hc (subF hw0) rfl (by show arity "(I)I" 1 = true; decide +kernel) (ok_c_run hw (2 : Int32) _) rfl ⟨by decide, by decide, Nat.le_of_eq rfl, rfl, rfl, by decide, by decide⟩ (fun r4 hr => ?_)
          refine am_blk (pc' := 151) (Ls' := [.unset, .unset, .unset, .val (.int x3), .val (.int x4), .unset, .val (.int x6), .unset, .val (.int x8), .val (.int x9), .val (.int x10), .val (.ref 0), .unset, .unset, .unset, .unset, .unset, .unset, .unset, .unset, .unset, .unset]) (St' := [.int (2 : Int32), .int r4.1]) (σ' := r4.2) [.iconst 2] (by decide +kernel) hc hT hF wi (by exact rfl) ?_
          refine am_icmp_eq (o := 5) (pc1 := 156) (by decide +kernel) hc (fun hq => ?_) (fun hq => ?_)
          · refine am_blk (pc' := 158) (Ls' := [.unset, .unset, .unset, .val (.int x3), .val (.int x4), .unset, .val (.int x6), .unset, .val (.int x8), .val (.int x9), .val (.int x10), .val (.ref 0), .unset, .unset, .unset, .unset, .unset, .unset, .unset, .unset, .unset, .unset]) (St' := [.ref 0]) (σ' := r4.2) [.aload 11] (by decide +kernel) hc hT hF wi (by exact rfl) ?_
            refine am_callV_I (W0 := 0) (argsL := []) (rest := []) rfl (lk_L_41 hw) rfl (by decide +kernel) hc (subF hw0) rfl (by show arity "()I" 0 = true; decide +kernel) (ok_c_getPatternCount hw _) rfl ⟨by decide, by decide, Nat.le_of_eq rfl, rfl, rfl, by decide, by decide⟩ (fun r5 hr => ?_)
            refine am_blk (pc' := 162) (Ls' := [.unset, .unset, .unset, .val (.int x3), .val (.int x4), .unset, .val (.int x6), .unset, .val (.int x8), .val (.int x9), .val (.int x10), .val (.ref 0), .unset, .unset, .unset, .unset, .unset, .unset, .unset, .unset, .unset, .unset]) (St' := [.int (2 : Int32), .int r5.1]) (σ' := r5.2) [.iconst 2] (by decide +kernel) hc hT hF wi (by exact rfl) ?_
            refine am_icmp_eq (o := 5) (pc1 := 167) (by decide +kernel) hc (fun hq => ?_) (fun hq => ?_)
            · refine am_blk (pc' := 169) (Ls' := [.unset, .unset, .unset, .val (.int x3), .val (.int x4), .unset, .val (.int x6), .unset, .val (.int x8), .val (.int x9), .val (.int x10), .val (.ref 0), .unset, .unset, .unset, .unset, .unset, .unset, .unset, .unset, .unset, .unset]) (St' := [.ref 0]) (σ' := r5.2) [.aload 11] (by decide +kernel) hc hT hF wi (by exact rfl) ?_
              refine am_callV_I (W0 := 0) (argsL := []) (rest := []) rfl (lk_L_45 hw) rfl (by decide +kernel) hc (subF hw0) rfl (by show arity "()I" 0 = true; decide +kernel) (ok_c_getLfsrState hw _) rfl ⟨by decide, by decide, Nat.le_of_eq rfl, rfl, rfl, by decide, by decide⟩ (fun r6 hr => ?_)
              refine am_blk (pc' := 174) (Ls' := [.unset, .unset, .unset, .val (.int x3), .val (.int x4), .unset, .val (.int x6), .unset, .val (.int x8), .val (.int x9), .val (.int x10), .val (.ref 0), .unset, .unset, .unset, .unset, .unset, .unset, .unset, .unset, .unset, .unset]) (St' := [.int x10, .int r6.1]) (σ' := r6.2) [.iload 10] (by decide +kernel) hc hT hF wi (by exact rfl) ?_
              refine am_icmp_eq (o := 5) (pc1 := 179) (by decide +kernel) hc (fun hq => ?_) (fun hq => ?_)
              · refine am_blk (pc' := 184) (Ls' := [.unset, .unset, .unset, .val (.int x3), .val (.int x4), .unset, .val (.int x6), .unset, .val (.int x8), .val (.int x9), .val (.int x10), .val (.ref 0), .unset, .unset, .unset, .unset, .unset, .unset, .unset, .unset, .unset, .unset]) (St' := [.int (-1 : Int32), .int x8, .int x4]) (σ' := r6.2) [.iload 4, .iload 8, .iconst (-1)] (by decide +kernel) hc hT hF wi (by exact rfl) ?_
                refine am_callS_I (W0 := 0) (argsL := [.int x4, .int x8, .int (-1 : Int32)]) (rest := []) (lk_L_48 hw) (by decide +kernel) hc (SubW.refl _) rfl (by show arity "(III)I" 3 = true; decide +kernel) (ok_q_out hw x4 x8 (-1 : Int32) _) rfl ⟨by decide, by decide, Nat.le_of_eq rfl, rfl, rfl, by decide, by decide⟩ (fun r7 hr => ?_)
                refine am_blk (pc' := 194) (Ls' := [.unset, .unset, .unset, .val (.int x3), .val (.int x4), .unset, .val (.int x6), .unset, .val (.int x8), .val (.int x9), .val (.int x10), .val (.ref 0), .val (.int r7.1), .unset, .unset, .unset, .unset, .unset, .unset, .unset, .unset, .unset]) (St' := [.int (-1 : Int32), .int x9, .int x4]) (σ' := r7.2) [.istore 12, .iload 4, .iload 9, .iconst (-1)] (by decide +kernel) hc hT hF wi (by exact rfl) ?_
                refine am_callS_I (W0 := 0) (argsL := [.int x4, .int x9, .int (-1 : Int32)]) (rest := []) (lk_L_48 hw) (by decide +kernel) hc (SubW.refl _) rfl (by show arity "(III)I" 3 = true; decide +kernel) (ok_q_out hw x4 x9 (-1 : Int32) _) rfl ⟨by decide, by decide, Nat.le_of_eq rfl, rfl, rfl, by decide, by decide⟩ (fun r8 hr => ?_)
                refine am_blk (pc' := 202) (Ls' := [.unset, .unset, .unset, .val (.int x3), .val (.int x4), .unset, .val (.int x6), .unset, .val (.int x8), .val (.int x9), .val (.int x10), .val (.ref 0), .val (.int r7.1), .val (.int r8.1), .unset, .unset, .unset, .unset, .unset, .unset, .unset, .unset]) (St' := [.int (1 : Int32), .int r7.1]) (σ' := r8.2) [.istore 13, .iload 12, .iconst 1] (by decide +kernel) hc hT hF wi (by exact rfl) ?_
                refine am_icmp_ne (o := 8) (pc1 := 210) (by decide +kernel) hc (fun hq => ?_) (fun hq => ?_)
                · refine am_blk (pc' := 211) (Ls' := [.unset, .unset, .unset, .val (.int x3), .val (.int x4), .unset, .val (.int x6), .unset, .val (.int x8), .val (.int x9), .val (.int x10), .val (.ref 0), .val (.int r7.1), .val (.int r8.1), .unset, .unset, .unset, .unset, .unset, .unset, .unset, .unset]) (St' := [.int x6]) (σ' := r8.2) [.iload 6, .goto 4] (by decide +kernel) hc hT hF wi (by exact rfl) ?_
                  exact am_wk (Ls' := [.unset, .unset, .unset, .unset, .val (.int x4), .unset, .val (.int x6), .unset, .val (.int x8), .val (.int x9), .unset, .val (.ref 0), .val (.int r7.1), .val (.int r8.1), .unset, .unset, .unset, .unset, .unset, .unset, .unset, .unset]) (by simp [wkL]) (okc_q_law_211 hw hc hw0 hn x4 x6 x8 x9 r7.1 r8.1 x6 r8.2)
                · refine am_blk (pc' := 211) (Ls' := [.unset, .unset, .unset, .val (.int x3), .val (.int x4), .unset, .val (.int x6), .unset, .val (.int x8), .val (.int x9), .val (.int x10), .val (.ref 0), .val (.int r7.1), .val (.int r8.1), .unset, .unset, .unset, .unset, .unset, .unset, .unset, .unset]) (St' := [.int (0 : Int32)]) (σ' := r8.2) [.iconst 0] (by decide +kernel) hc hT hF wi (by exact rfl) ?_
                  exact am_wk (Ls' := [.unset, .unset, .unset, .unset, .val (.int x4), .unset, .val (.int x6), .unset, .val (.int x8), .val (.int x9), .unset, .val (.ref 0), .val (.int r7.1), .val (.int r8.1), .unset, .unset, .unset, .unset, .unset, .unset, .unset, .unset]) (by simp [wkL]) (okc_q_law_211 hw hc hw0 hn x4 x6 x8 x9 r7.1 r8.1 (0 : Int32) r8.2)
              · refine am_blk (pc' := 178) (Ls' := [.unset, .unset, .unset, .val (.int x3), .val (.int x4), .unset, .val (.int x6), .unset, .val (.int x8), .val (.int x9), .val (.int x10), .val (.ref 0), .unset, .unset, .unset, .unset, .unset, .unset, .unset, .unset, .unset, .unset]) (St' := [.int (0 : Int32)]) (σ' := r6.2) [.iconst 0] (by decide +kernel) hc hT hF wi (by exact rfl) ?_
                exact am_retZ (by decide +kernel) hc (by decide) (by decide) (fun h W O => rfl)
            · refine am_blk (pc' := 166) (Ls' := [.unset, .unset, .unset, .val (.int x3), .val (.int x4), .unset, .val (.int x6), .unset, .val (.int x8), .val (.int x9), .val (.int x10), .val (.ref 0), .unset, .unset, .unset, .unset, .unset, .unset, .unset, .unset, .unset, .unset]) (St' := [.int (0 : Int32)]) (σ' := r5.2) [.iconst 0] (by decide +kernel) hc hT hF wi (by exact rfl) ?_
              exact am_retZ (by decide +kernel) hc (by decide) (by decide) (fun h W O => rfl)
          · refine am_blk (pc' := 155) (Ls' := [.unset, .unset, .unset, .val (.int x3), .val (.int x4), .unset, .val (.int x6), .unset, .val (.int x8), .val (.int x9), .val (.int x10), .val (.ref 0), .unset, .unset, .unset, .unset, .unset, .unset, .unset, .unset, .unset, .unset]) (St' := [.int (0 : Int32)]) (σ' := r4.2) [.iconst 0] (by decide +kernel) hc hT hF wi (by exact rfl) ?_
            exact am_retZ (by decide +kernel) hc (by decide) (by decide) (fun h W O => rfl)
      · refine am_blk (pc' := 132) (Ls' := [.unset, .unset, .unset, .val (.int x3), .val (.int x4), .unset, .val (.int x6), .unset, .val (.int x8), .val (.int x9), .val (.int x10), .val (.ref 0), .unset, .unset, .unset, .unset, .unset, .unset, .unset, .unset, .unset, .unset]) (St' := [.int (0 : Int32)]) (σ' := r2.2) [.iconst 0] (by decide +kernel) hc hT hF wi (by exact rfl) ?_
        exact am_retZ (by decide +kernel) hc (by decide) (by decide) (fun h W O => rfl)
  · refine am_blk (pc' := 106) (Ls' := [.unset, .unset, .unset, .val (.int x3), .val (.int x4), .unset, .val (.int x6), .unset, .val (.int x8), .val (.int x9), .val (.int x10), .val (.ref 0), .unset, .unset, .unset, .unset, .unset, .unset, .unset, .unset, .unset, .unset]) (St' := [.int (0 : Int32)]) (σ' := σ) [.iconst 0] (by decide +kernel) hc hT hF wi (by exact rfl) ?_
    exact am_retZ (by decide +kernel) hc (by decide) (by decide) (fun h W O => rfl)
def q_law_57 (x0 : Int32) (x2 : Int32) (x3 : Int32) (x4 : Int32) (x6 : Int32) (x7 : Int32) (s0 : Int32) (σ : Sg) : Option (Int32 × Sg) :=
  (q_step s0 σ).bind fun r1 => (q_step r1.1 r1.2).bind fun r2 => (c_init (2 : Int32) (8 : Int32) x2).bind fun r3 => (c_setSeed x0 r3).bind fun r4 => if x7 = 0 then (q_law_102 x3 x4 x6 s0 r1.1 r2.1 (0 : Int32) r4.1 r4.2) else (q_law_102 x3 x4 x6 s0 r1.1 r2.1 (1 : Int32) r4.1 r4.2)
set_option maxRecDepth 65536 in
set_option maxHeartbeats 4000000 in
theorem okc_q_law_57 (hw : WH a0 Z) (hc : Cx p s m meth c Z "LogicBistL3" code 22 (some .boolean) "law") (hw0 : Rd w0 9) (hn : n0 ≤ h0.size) (x0 : Int32) (x2 : Int32) (x3 : Int32) (x4 : Int32) (x6 : Int32) (x7 : Int32) (s0 : Int32) (σ : Sg) : OkR p l e rm_q_law s m args below meth c Z "LogicBist" fsC n0 h0 FL A w0 0 0 57 [.val (.int x0), .unset, .val (.int x2), .val (.int x3), .val (.int x4), .unset, .val (.int x6), .val (.int x7), .unset, .unset, .unset, .unset, .unset, .unset, .unset, .unset, .unset, .unset, .unset, .unset, .unset, .unset] [.int s0] σ (q_law_57 x0 x2 x3 x4 x6 x7 s0 σ) := by
  have hT := tabL hw "law"
  have hF := fsokC hw
  have wi := wiC hw
  unfold q_law_57
  refine am_blk (pc' := 61) (Ls' := [.val (.int x0), .unset, .val (.int x2), .val (.int x3), .val (.int x4), .unset, .val (.int x6), .val (.int x7), .val (.int s0), .unset, .unset, .unset, .unset, .unset, .unset, .unset, .unset, .unset, .unset, .unset, .unset, .unset]) (St' := [.int s0]) (σ' := σ) [.istore 8, .iload 8] (by decide +kernel) hc hT hF wi (by exact rfl) ?_
  refine am_callS_I (W0 := 0) (argsL := [.int s0]) (rest := []) (lk_L_16 hw) (by decide +kernel) hc (SubW.refl _) rfl (by show arity "(I)I" 1 = true; decide +kernel) (ok_q_step hw s0 _) rfl ⟨by decide, by decide, Nat.le_of_eq rfl, rfl, rfl, by decide, by decide⟩ (fun r1 hr => ?_)
  refine am_blk (pc' := 68) (Ls' := [.val (.int x0), .unset, .val (.int x2), .val (.int x3), .val (.int x4), .unset, .val (.int x6), .val (.int x7), .val (.int s0), .val (.int r1.1), .unset, .unset, .unset, .unset, .unset, .unset, .unset, .unset, .unset, .unset, .unset, .unset]) (St' := [.int r1.1]) (σ' := r1.2) [.istore 9, .iload 9] (by decide +kernel) hc hT hF wi (by exact rfl) ?_
  refine am_callS_I (W0 := 0) (argsL := [.int r1.1]) (rest := []) (lk_L_16 hw) (by decide +kernel) hc (SubW.refl _) rfl (by show arity "(I)I" 1 = true; decide +kernel) (ok_q_step hw r1.1 _) rfl ⟨by decide, by decide, Nat.le_of_eq rfl, rfl, rfl, by decide, by decide⟩ (fun r2 hr => ?_)
  refine am_blk (pc' := 73) (Ls' := [.val (.int x0), .unset, .val (.int x2), .val (.int x3), .val (.int x4), .unset, .val (.int x6), .val (.int x7), .val (.int s0), .val (.int r1.1), .val (.int r2.1), .unset, .unset, .unset, .unset, .unset, .unset, .unset, .unset, .unset, .unset, .unset]) (St' := []) (σ' := r2.2) [.istore 10] (by decide +kernel) hc hT hF wi (by exact rfl) ?_
  refine am_new (mm := 9) (by decide +kernel) hc hF (hw _ (List.mem_of_getElem? (i := 7) rfl)) wi (wzC hw) hw0 ⟨rfl, rfl⟩ hn ⟨by decide, by decide⟩ (fun A hA => ?_)
  refine am_blk (pc' := 81) (Ls' := [.val (.int x0), .unset, .val (.int x2), .val (.int x3), .val (.int x4), .unset, .val (.int x6), .val (.int x7), .val (.int s0), .val (.int r1.1), .val (.int r2.1), .unset, .unset, .unset, .unset, .unset, .unset, .unset, .unset, .unset, .unset, .unset]) (St' := [.int x2, .int (8 : Int32), .int (2 : Int32), .ref 0, .ref 0]) (σ' := zs) [.dup, .iconst 2, .bipush 8, .iload_n 2] (by decide +kernel) hc hT hF wi (by exact rfl) ?_
  refine am_ctor (arrs := arrsC) (W0 := 1) (argsL := [.int (2 : Int32), .int (8 : Int32), .int x2]) (rest := [.ref 0]) (lk_L_22 hw) (by decide +kernel) hc hw0 rfl (by show arity "(III)V" 3 = true; decide +kernel) (ok_c_init hw (2 : Int32) (8 : Int32) x2) ⟨rfl, rfl⟩ rfl hn ⟨by decide, by decide, Nat.le_of_eq rfl, by decide, by decide⟩ (fun A r3 hr => ?_)
  refine am_blk (pc' := 89) (Ls' := [.val (.int x0), .unset, .val (.int x2), .val (.int x3), .val (.int x4), .unset, .val (.int x6), .val (.int x7), .val (.int s0), .val (.int r1.1), .val (.int r2.1), .val (.ref 0), .unset, .unset, .unset, .unset, .unset, .unset, .unset, .unset, .unset, .unset]) (St' := [.int x0, .ref 0]) (σ' := r3) [.astore 11, .aload 11, .iload_n 0] (by decide +kernel) hc hT hF wi (by exact rfl) ?_
  refine am_callV_I (W0 := 0) (argsL := [.int x0]) (rest := []) rfl (lk_L_25 hw) rfl (by decide +kernel) hc (subF hw0) rfl (by show arity "(I)Z" 1 = true; decide +kernel) (ok_c_setSeed hw x0 _) rfl ⟨by decide, by decide, Nat.le_of_eq rfl, rfl, rfl, by decide, by decide⟩ (fun r4 hr => ?_)
  refine am_blk (pc' := 94) (Ls' := [.val (.int x0), .unset, .val (.int x2), .val (.int x3), .val (.int x4), .unset, .val (.int x6), .val (.int x7), .val (.int s0), .val (.int r1.1), .val (.int r2.1), .val (.ref 0), .unset, .unset, .unset, .unset, .unset, .unset, .unset, .unset, .unset, .unset]) (St' := [.int x7, .int r4.1]) (σ' := r4.2) [.iload 7] (by decide +kernel) hc hT hF wi (by exact rfl) ?_
  refine am_if_eq (o := 7) (pc1 := 101) (by decide +kernel) hc (fun hq => ?_) (fun hq => ?_)
  · refine am_blk (pc' := 102) (Ls' := [.val (.int x0), .unset, .val (.int x2), .val (.int x3), .val (.int x4), .unset, .val (.int x6), .val (.int x7), .val (.int s0), .val (.int r1.1), .val (.int r2.1), .val (.ref 0), .unset, .unset, .unset, .unset, .unset, .unset, .unset, .unset, .unset, .unset]) (St' := [.int (0 : Int32), .int r4.1]) (σ' := r4.2) [.iconst 0] (by decide +kernel) hc hT hF wi (by exact rfl) ?_
    exact am_wk (Ls' := [.unset, .unset, .unset, .val (.int x3), .val (.int x4), .unset, .val (.int x6), .unset, .val (.int s0), .val (.int r1.1), .val (.int r2.1), .val (.ref 0), .unset, .unset, .unset, .unset, .unset, .unset, .unset, .unset, .unset, .unset]) (by simp [wkL]) (okc_q_law_102 hw hc hw0 hn x3 x4 x6 s0 r1.1 r2.1 (0 : Int32) r4.1 r4.2)
  · refine am_blk (pc' := 102) (Ls' := [.val (.int x0), .unset, .val (.int x2), .val (.int x3), .val (.int x4), .unset, .val (.int x6), .val (.int x7), .val (.int s0), .val (.int r1.1), .val (.int r2.1), .val (.ref 0), .unset, .unset, .unset, .unset, .unset, .unset, .unset, .unset, .unset, .unset]) (St' := [.int (1 : Int32), .int r4.1]) (σ' := r4.2) [.iconst 1, .goto 4] (by decide +kernel) hc hT hF wi (by exact rfl) ?_
    exact am_wk (Ls' := [.unset, .unset, .unset, .val (.int x3), .val (.int x4), .unset, .val (.int x6), .unset, .val (.int s0), .val (.int r1.1), .val (.int r2.1), .val (.ref 0), .unset, .unset, .unset, .unset, .unset, .unset, .unset, .unset, .unset, .unset]) (by simp [wkL]) (okc_q_law_102 hw hc hw0 hn x3 x4 x6 s0 r1.1 r2.1 (1 : Int32) r4.1 r4.2)
def q_law_27 (x0 : Int32) (x2 : Int32) (x3 : Int32) (x4 : Int32) (s0 : Int32) (σ : Sg) : Option (Int32 × Sg) :=
  if (x0 &&& (65535 : Int32)) = 0 then (q_law_57 x0 x2 x3 x4 (x3 &&& (((1 : Int32) <<< (s0 &&& 31)) - (1 : Int32))) (x0 &&& (65535 : Int32)) (44257 : Int32) σ) else (q_law_57 x0 x2 x3 x4 (x3 &&& (((1 : Int32) <<< (s0 &&& 31)) - (1 : Int32))) (x0 &&& (65535 : Int32)) (x0 &&& (65535 : Int32)) σ)
set_option maxRecDepth 65536 in
set_option maxHeartbeats 4000000 in
theorem okc_q_law_27 (hw : WH a0 Z) (hc : Cx p s m meth c Z "LogicBistL3" code 22 (some .boolean) "law") (hw0 : Rd w0 9) (hn : n0 ≤ h0.size) (x0 : Int32) (x2 : Int32) (x3 : Int32) (x4 : Int32) (s0 : Int32) (σ : Sg) : OkR p l e rm_q_law s m args below meth c Z "LogicBist" fsC n0 h0 FL A w0 0 0 27 [.val (.int x0), .unset, .val (.int x2), .val (.int x3), .val (.int x4), .unset, .unset, .unset, .unset, .unset, .unset, .unset, .unset, .unset, .unset, .unset, .unset, .unset, .unset, .unset, .unset, .unset] [.int s0] σ (q_law_27 x0 x2 x3 x4 s0 σ) := by
  have hT := tabL hw "law"
  have hF := fsokC hw
  have wi := wiC hw
  unfold q_law_27
  refine am_blk (pc' := 47) (Ls' := [.val (.int x0), .unset, .val (.int x2), .val (.int x3), .val (.int x4), .val (.int s0), .val (.int (x3 &&& (((1 : Int32) <<< (s0 &&& 31)) - (1 : Int32)))), .val (.int (x0 &&& (65535 : Int32))), .unset, .unset, .unset, .unset, .unset, .unset, .unset, .unset, .unset, .unset, .unset, .unset, .unset, .unset]) (St' := [.int (x0 &&& (65535 : Int32))]) (σ' := σ) [.istore 5, .iload_n 3, .iconst 1, .iload 5, .ishl, .iconst 1, .isub, .iand, .istore 6, .iload_n 0, .ldc 14, .iand, .istore 7, .iload 7] (by decide +kernel) hc hT hF wi (by exact rfl) ?_
  refine am_if_ne (o := 8) (pc1 := 55) (by decide +kernel) hc (fun hq => ?_) (fun hq => ?_)
  · refine am_blk (pc' := 57) (Ls' := [.val (.int x0), .unset, .val (.int x2), .val (.int x3), .val (.int x4), .val (.int s0), .val (.int (x3 &&& (((1 : Int32) <<< (s0 &&& 31)) - (1 : Int32)))), .val (.int (x0 &&& (65535 : Int32))), .unset, .unset, .unset, .unset, .unset, .unset, .unset, .unset, .unset, .unset, .unset, .unset, .unset, .unset]) (St' := [.int (44257 : Int32)]) (σ' := σ) [.ldc 15, .goto 5] (by decide +kernel) hc hT hF wi (by exact rfl) ?_
    exact am_wk (Ls' := [.val (.int x0), .unset, .val (.int x2), .val (.int x3), .val (.int x4), .unset, .val (.int (x3 &&& (((1 : Int32) <<< (s0 &&& 31)) - (1 : Int32)))), .val (.int (x0 &&& (65535 : Int32))), .unset, .unset, .unset, .unset, .unset, .unset, .unset, .unset, .unset, .unset, .unset, .unset, .unset, .unset]) (by simp [wkL]) (okc_q_law_57 hw hc hw0 hn x0 x2 x3 x4 (x3 &&& (((1 : Int32) <<< (s0 &&& 31)) - (1 : Int32))) (x0 &&& (65535 : Int32)) (44257 : Int32) σ)
  · refine am_blk (pc' := 57) (Ls' := [.val (.int x0), .unset, .val (.int x2), .val (.int x3), .val (.int x4), .val (.int s0), .val (.int (x3 &&& (((1 : Int32) <<< (s0 &&& 31)) - (1 : Int32)))), .val (.int (x0 &&& (65535 : Int32))), .unset, .unset, .unset, .unset, .unset, .unset, .unset, .unset, .unset, .unset, .unset, .unset, .unset, .unset]) (St' := [.int (x0 &&& (65535 : Int32))]) (σ' := σ) [.iload 7] (by decide +kernel) hc hT hF wi (by exact rfl) ?_
    exact am_wk (Ls' := [.val (.int x0), .unset, .val (.int x2), .val (.int x3), .val (.int x4), .unset, .val (.int (x3 &&& (((1 : Int32) <<< (s0 &&& 31)) - (1 : Int32)))), .val (.int (x0 &&& (65535 : Int32))), .unset, .unset, .unset, .unset, .unset, .unset, .unset, .unset, .unset, .unset, .unset, .unset, .unset, .unset]) (by simp [wkL]) (okc_q_law_57 hw hc hw0 hn x0 x2 x3 x4 (x3 &&& (((1 : Int32) <<< (s0 &&& 31)) - (1 : Int32))) (x0 &&& (65535 : Int32)) (x0 &&& (65535 : Int32)) σ)
def q_law (x0 : Int32) (x1 : Int32) (x2 : Int32) (x3 : Int32) : Option (Int32 × Sg) :=
  if x2 < (1 : Int32) then (q_law_27 x0 x2 x3 (x1 &&& (7 : Int32)) (1 : Int32) zs) else (if (16 : Int32) < x2 then (q_law_27 x0 x2 x3 (x1 &&& (7 : Int32)) (16 : Int32) zs) else (q_law_27 x0 x2 x3 (x1 &&& (7 : Int32)) x2 zs))
set_option maxRecDepth 65536 in
set_option maxHeartbeats 4000000 in
theorem ok_q_law (hw : WH a0 Z) (hw0 : Rd w0 9) (hn : n0 ≤ h0.size) (hc : Cx p s m meth c Z "LogicBistL3" code 22 (some .boolean) "law") (x0 : Int32) (x1 : Int32) (x2 : Int32) (x3 : Int32) : OkR p l e rm_q_law s m args below meth c Z "LogicBist" fsC n0 h0 FL A w0 0 0 0 [.val (.int x0), .val (.int x1), .val (.int x2), .val (.int x3), .unset, .unset, .unset, .unset, .unset, .unset, .unset, .unset, .unset, .unset, .unset, .unset, .unset, .unset, .unset, .unset, .unset, .unset] [] zs (q_law x0 x1 x2 x3) := by
  have hT := tabL hw "law"
  have hF := fsokC hw
  have wi := wiC hw
  unfold q_law
  refine am_blk (pc' := 8) (Ls' := [.val (.int x0), .val (.int x1), .val (.int x2), .val (.int x3), .val (.int (x1 &&& (7 : Int32))), .unset, .unset, .unset, .unset, .unset, .unset, .unset, .unset, .unset, .unset, .unset, .unset, .unset, .unset, .unset, .unset, .unset]) (St' := [.int (1 : Int32), .int x2]) (σ' := zs) [.iload_n 1, .bipush 7, .iand, .istore 4, .iload_n 2, .iconst 1] (by decide +kernel) hc hT hF wi (by exact rfl) ?_
  refine am_icmp_ge (o := 7) (pc1 := 15) (by decide +kernel) hc (fun hq => ?_) (fun hq => ?_)
  · refine am_blk (pc' := 27) (Ls' := [.val (.int x0), .val (.int x1), .val (.int x2), .val (.int x3), .val (.int (x1 &&& (7 : Int32))), .unset, .unset, .unset, .unset, .unset, .unset, .unset, .unset, .unset, .unset, .unset, .unset, .unset, .unset, .unset, .unset, .unset]) (St' := [.int (1 : Int32)]) (σ' := zs) [.iconst 1, .goto 15] (by decide +kernel) hc hT hF wi (by exact rfl) ?_
    exact am_wk (Ls' := [.val (.int x0), .unset, .val (.int x2), .val (.int x3), .val (.int (x1 &&& (7 : Int32))), .unset, .unset, .unset, .unset, .unset, .unset, .unset, .unset, .unset, .unset, .unset, .unset, .unset, .unset, .unset, .unset, .unset]) (by simp [wkL]) (okc_q_law_27 hw hc hw0 hn x0 x2 x3 (x1 &&& (7 : Int32)) (1 : Int32) zs)
  · refine am_blk (pc' := 18) (Ls' := [.val (.int x0), .val (.int x1), .val (.int x2), .val (.int x3), .val (.int (x1 &&& (7 : Int32))), .unset, .unset, .unset, .unset, .unset, .unset, .unset, .unset, .unset, .unset, .unset, .unset, .unset, .unset, .unset, .unset, .unset]) (St' := [.int (16 : Int32), .int x2]) (σ' := zs) [.iload_n 2, .bipush 16] (by decide +kernel) hc hT hF wi (by exact rfl) ?_
    refine am_icmp_le (o := 8) (pc1 := 26) (by decide +kernel) hc (fun hq => ?_) (fun hq => ?_)
    · refine am_blk (pc' := 27) (Ls' := [.val (.int x0), .val (.int x1), .val (.int x2), .val (.int x3), .val (.int (x1 &&& (7 : Int32))), .unset, .unset, .unset, .unset, .unset, .unset, .unset, .unset, .unset, .unset, .unset, .unset, .unset, .unset, .unset, .unset, .unset]) (St' := [.int (16 : Int32)]) (σ' := zs) [.bipush 16, .goto 4] (by decide +kernel) hc hT hF wi (by exact rfl) ?_
      exact am_wk (Ls' := [.val (.int x0), .unset, .val (.int x2), .val (.int x3), .val (.int (x1 &&& (7 : Int32))), .unset, .unset, .unset, .unset, .unset, .unset, .unset, .unset, .unset, .unset, .unset, .unset, .unset, .unset, .unset, .unset, .unset]) (by simp [wkL]) (okc_q_law_27 hw hc hw0 hn x0 x2 x3 (x1 &&& (7 : Int32)) (16 : Int32) zs)
    · refine am_blk (pc' := 27) (Ls' := [.val (.int x0), .val (.int x1), .val (.int x2), .val (.int x3), .val (.int (x1 &&& (7 : Int32))), .unset, .unset, .unset, .unset, .unset, .unset, .unset, .unset, .unset, .unset, .unset, .unset, .unset, .unset, .unset, .unset, .unset]) (St' := [.int x2]) (σ' := zs) [.iload_n 2] (by decide +kernel) hc hT hF wi (by exact rfl) ?_
      exact am_wk (Ls' := [.val (.int x0), .unset, .val (.int x2), .val (.int x3), .val (.int (x1 &&& (7 : Int32))), .unset, .unset, .unset, .unset, .unset, .unset, .unset, .unset, .unset, .unset, .unset, .unset, .unset, .unset, .unset, .unset, .unset]) (by simp [wkL]) (okc_q_law_27 hw hc hw0 hn x0 x2 x3 (x1 &&& (7 : Int32)) x2 zs)
end Walk
/-! numbers -/
theorem ti_lt {x y : Int32} : x < y ↔ x.toInt < y.toInt := Int32.lt_iff_toInt_lt
theorem ti_eq {x y : Int32} : x = y ↔ x.toInt = y.toInt := Int32.toInt_inj.symm
theorem ti_lo (x : Int32) : -2147483648 ≤ x.toInt := Int32.le_toInt x
theorem ti_hi (x : Int32) : x.toInt ≤ 2147483647 := by have := Int32.toInt_lt x; omega
theorem ti_add {x y : Int32} (h1 : -2147483648 ≤ x.toInt + y.toInt) (h2 : x.toInt + y.toInt ≤ 2147483647) : (x + y).toInt = x.toInt + y.toInt := by
  rw [Int32.toInt_add]; exact Int.bmod_eq_of_le (by omega) (by omega)
theorem ti_sub {x y : Int32} (h1 : -2147483648 ≤ x.toInt - y.toInt) (h2 : x.toInt - y.toInt ≤ 2147483647) : (x - y).toInt = x.toInt - y.toInt := by
  rw [Int32.toInt_sub]; exact Int.bmod_eq_of_le (by omega) (by omega)
theorem ti_mul {x y : Int32} (h1 : -2147483648 ≤ x.toInt * y.toInt) (h2 : x.toInt * y.toInt ≤ 2147483647) : (x * y).toInt = x.toInt * y.toInt := by
  rw [Int32.toInt_mul]; exact Int.bmod_eq_of_le (by omega) (by omega)
theorem ti_add1 {x : Int32} (h : x.toInt < 2147483647) : (x + 1).toInt = x.toInt + 1 := by
  have := ti_lo x
  have e : (1 : Int32).toInt = 1 := rfl
  rw [ti_add (by omega) (by omega), e]
theorem inbT {i : Int32} {n : Nat} (h1 : 0 ≤ i.toInt) (h2 : i.toInt < (n : Int)) : inb i n = true := inb_iff.mpr ⟨h1, h2⟩
theorem nx_eq {i : Int32} {n : Nat} (h : i.toInt = (n : Int)) : nx i = n := by unfold nx; omega
theorem nx_lt {i : Int32} {n : Nat} (h1 : 0 ≤ i.toInt) (h2 : i.toInt < (n : Int)) : nx i < n := by unfold nx; omega
theorem ti_nat {q : Int32} (h : 0 ≤ q.toInt) : q.toBitVec.toNat = q.toInt.toNat := by
  have e : q.toInt = q.toBitVec.toInt := rfl
  rw [BitVec.toInt_eq_toNat_cond] at e
  have := q.toBitVec.isLt
  split at e <;> omega
theorem ti_ofNat {n : Nat} (h : n < 2147483648) : (Int32.ofNat n).toInt = (n : Int) := Int32.toInt_ofNat_of_lt h
theorem eq_ofNat {x : Int32} {n : Nat} (h : x.toInt = (n : Int)) : x = Int32.ofNat n := by
  have := ti_hi x
  rw [ti_eq, ti_ofNat (by omega)]; exact h
theorem nx_ofNat {n : Nat} (h : n < 2147483648) : nx (Int32.ofNat n) = n := nx_eq (ti_ofNat h)
theorem ofNat_nx {x : Int32} (h : 0 ≤ x.toInt) : Int32.ofNat (nx x) = x := by
  have := ti_hi x
  rw [ti_eq, ti_ofNat (by unfold nx; omega)]; unfold nx; omega
theorem ofNat_succ (n : Nat) : Int32.ofNat n + 1 = Int32.ofNat (n + 1) := by
  rw [Int32.ofNat_add]; rfl
theorem ofNat_lt {a b : Nat} (ha : a < 2147483648) (hb : b < 2147483648) : Int32.ofNat a < Int32.ofNat b ↔ a < b := by
  rw [ti_lt, ti_ofNat ha, ti_ofNat hb]; omega
theorem ti_shr {x q : Int32} {k : Nat} (hq : q.toInt = (k : Int)) (hk : k < 32) : (x >>> (q &&& 31)).toInt = x.toInt / ((2 ^ k : Nat) : Int) := c_ishr x q k (by rw [ti_nat (by omega)]; omega)
theorem ti_shl {x q : Int32} {k : Nat} (hq : q.toInt = (k : Int)) (hk : k < 32) (h1 : -2147483648 ≤ x.toInt * ((2 ^ k : Nat) : Int)) (h2 : x.toInt * ((2 ^ k : Nat) : Int) ≤ 2147483647) : (x <<< (q &&& 31)).toInt = x.toInt * ((2 ^ k : Nat) : Int) := by
  have a := c_ishl x q k (by rw [ti_nat (by omega)]; omega)
  have b := ti_lo (x <<< (q &&& 31))
  have c := ti_hi (x <<< (q &&& 31))
  generalize x.toInt * ((2 ^ k : Nat) : Int) = z at *
  omega
/-- a counted loop: an invariant goes through -/
theorem loop_inv {α : Type} (L : Nat → Int32 → Sg → Option α) (body : Int32 → Sg → Option Sg) (exit : Sg → Option α) (N : Nat) (hN : N < 2147483648)
    (hL : ∀ f i σ, L (f + 1) i σ = if i < Int32.ofNat N then (body i σ).bind (fun r => L f (i + 1) r) else exit σ) (Inv : Nat → Sg → Prop)
    (hb : ∀ i σ, i < N → Inv i σ → ∃ σ', body (Int32.ofNat i) σ = some σ' ∧ Inv (i + 1) σ') :
    ∀ (k i fuel : Nat) (σ : Sg), i + k = N → k < fuel → Inv i σ → ∃ σ', L fuel (Int32.ofNat i) σ = exit σ' ∧ Inv N σ' := by
  intro k
  induction k with
  | zero =>
    intro i fuel σ h1 h2 h3
    obtain ⟨f, rfl⟩ : ∃ f, fuel = f + 1 := ⟨fuel - 1, by omega⟩
    have : i = N := by omega
    subst this
    rw [hL, if_neg (by rw [ofNat_lt hN hN]; omega)]
    exact ⟨σ, rfl, h3⟩
  | succ k ih =>
    intro i fuel σ h1 h2 h3
    obtain ⟨f, rfl⟩ : ∃ f, fuel = f + 1 := ⟨fuel - 1, by omega⟩
    obtain ⟨σ1, q1, q2⟩ := hb i σ (by omega) h3
    rw [hL, if_pos (by rw [ofNat_lt (by omega) hN]; omega), q1, Option.bind_some, ofNat_succ]
    exact ih (i + 1) f σ1 (by omega) (by omega) q2
/-! bits of longs -/
/-- bit m of a table -/
def tbL (y : Int64) (m : Nat) : Bool := y.toBitVec.getLsbD m
theorem cmp0 (x y : Int64) : XT.cmpL x y = 0 ↔ x = y := by
  unfold XT.cmpL
  by_cases h : x = y
  · subst h; simp [Int64.lt_irrefl]
  · by_cases h2 : y < x
    · simp [h, h2]
    · simp [h, h2]
theorem shL_lit : ∀ k : Fin 64, ((Int32.ofNat k.1).toInt64.toUInt64 &&& Int64.toUInt64 63) = UInt64.ofNat k.1 := by decide +kernel
theorem ushrL_bv (y : Int64) {k : Nat} (h : k < 64) : (XT.ushrL y (Int32.ofNat k)).toBitVec = y.toBitVec >>> k := by
  unfold XT.ushrL
  rw [shL_lit ⟨k, h⟩]
  show (y.toUInt64 >>> UInt64.ofNat k).toBitVec = _
  rw [UInt64.toBitVec_shiftRight]
  have : ((UInt64.ofNat k).toBitVec % 64).toNat = k := by
    rw [BitVec.toNat_umod]
    show (UInt64.ofNat k).toNat % 64 = k
    rw [UInt64.toNat_ofNat']
    omega
  rw [BitVec.ushiftRight_eq', this]
  rfl
theorem bitL (y : Int64) {k : Nat} (h : k < 64) : (XT.ushrL y (Int32.ofNat k)) &&& 1 = 0 ↔ tbL y k = false := by
  rw [← Int64.toBitVec_inj, Int64.toBitVec_and, ushrL_bv y h]
  unfold tbL
  constructor
  · intro q
    have := congrArg (fun b => b.getLsbD 0) q
    simpa using this
  · intro q
    apply BitVec.eq_of_getLsbD_eq
    intro i hi
    rw [BitVec.getLsbD_and]
    by_cases e : i = 0
    · subst e; simp [q]
    · have : (1 : Int64).toBitVec.getLsbD i = false := by
        show (1#64).getLsbD i = false
        simp [BitVec.getLsbD_one, e]
      rw [this]; simp
theorem shl_lit : ∀ k : Fin 64, ((((Int32.ofNat k.1).toInt64 &&& 63 : Int64).toBitVec.smod 64)).toNat = k.1 := by decide +kernel
theorem shl_bv (y : Int64) {k : Nat} (h : k < 64) : (y <<< ((Int32.ofNat k).toInt64 &&& 63)).toBitVec = y.toBitVec <<< k := by
  rw [Int64.toBitVec_shiftLeft, BitVec.shiftLeft_eq', shl_lit ⟨k, h⟩]
theorem tbL_shl (y : Int64) {k t : Nat} (h : k < 64) (ht : t < 64) : tbL (y <<< ((Int32.ofNat k).toInt64 &&& 63)) t = (decide (k ≤ t) && tbL y (t - k)) := by
  unfold tbL
  rw [shl_bv y h, BitVec.getLsbD_shiftLeft]
  by_cases q : t < k
  · simp [q, show ¬ k ≤ t by omega]
  · simp [q, ht, show k ≤ t by omega]
theorem tbL_or (x y : Int64) (t : Nat) : tbL (x ||| y) t = (tbL x t || tbL y t) := by unfold tbL; rw [Int64.toBitVec_or, BitVec.getLsbD_or]
theorem tbL_and (x y : Int64) (t : Nat) : tbL (x &&& y) t = (tbL x t && tbL y t) := by unfold tbL; rw [Int64.toBitVec_and, BitVec.getLsbD_and]
theorem tbL_xor (x y : Int64) (t : Nat) : tbL (x ^^^ y) t = (tbL x t ^^ tbL y t) := by unfold tbL; rw [Int64.toBitVec_xor, BitVec.getLsbD_xor]
theorem tbL_neg1 {t : Nat} (h : t < 64) : tbL (-1) t = true := by
  have : ∀ t : Fin 64, tbL (-1) t.1 = true := by decide +kernel
  exact this ⟨t, h⟩
theorem tbL_zero (t : Nat) : tbL 0 t = false := by
  unfold tbL; show (0#64).getLsbD t = false; simp
theorem tbL_one (t : Nat) : tbL 1 t = decide (t = 0) := by
  unfold tbL; show (1#64).getLsbD t = _
  by_cases h : t = 0
  · subst h; rfl
  · simp [BitVec.getLsbD_one, h]
theorem tbL_ext {x y : Int64} (h : ∀ t, t < 64 → tbL x t = tbL y t) : x = y := by
  apply Int64.toBitVec_inj.mp
  apply BitVec.eq_of_getLsbD_eq
  intro t ht
  exact h t ht
/-! bits of ints -/
def tbI (m : Int32) (i : Nat) : Bool := m.toBitVec.getLsbD i
theorem shr_lit : ∀ k : Fin 32, (((Int32.ofNat k.1 &&& 31 : Int32).toBitVec.smod 32)).toNat = k.1 := by decide +kernel
theorem shr_bit (m : Int32) {i : Nat} (h : i < 32) : (m >>> (Int32.ofNat i &&& 31)) &&& 1 = 0 ↔ tbI m i = false := by
  have e : (m >>> (Int32.ofNat i &&& 31)).toBitVec = m.toBitVec.sshiftRight i := by
    rw [Int32.toBitVec_shiftRight, BitVec.sshiftRight_eq', shr_lit ⟨i, h⟩]
  rw [← Int32.toBitVec_inj, Int32.toBitVec_and, e]
  unfold tbI
  have e0 : (m.toBitVec.sshiftRight i).getLsbD 0 = m.toBitVec.getLsbD i := by
    rw [BitVec.getLsbD_sshiftRight]; simp [h]
  constructor
  · intro q
    have := congrArg (fun b => b.getLsbD 0) q
    rw [← e0]
    simpa using this
  · intro q
    apply BitVec.eq_of_getLsbD_eq
    intro t ht
    rw [BitVec.getLsbD_and]
    by_cases z : t = 0
    · subst z; rw [e0, q]; simp
    · have : (1 : Int32).toBitVec.getLsbD t = false := by
        show (1#32).getLsbD t = false
        simp [BitVec.getLsbD_one, z]
      rw [this]; simp
theorem tbI_bit {k i : Nat} (hk : k < 32) (hi : i < 32) : tbI ((1 : Int32) <<< (Int32.ofNat k &&& 31)) i = decide (i = k) := by
  have : ∀ (k i : Fin 32), tbI ((1 : Int32) <<< (Int32.ofNat k.1 &&& 31)) i.1 = decide (i.1 = k.1) := by decide +kernel
  exact this ⟨k, hk⟩ ⟨i, hi⟩
theorem tbI_or (x y : Int32) (t : Nat) : tbI (x ||| y) t = (tbI x t || tbI y t) := by unfold tbI; rw [Int32.toBitVec_or, BitVec.getLsbD_or]
theorem tbI_and (x y : Int32) (t : Nat) : tbI (x &&& y) t = (tbI x t && tbI y t) := by unfold tbI; rw [Int32.toBitVec_and, BitVec.getLsbD_and]
theorem tbI_xor (x y : Int32) (t : Nat) : tbI (x ^^^ y) t = (tbI x t ^^ tbI y t) := by unfold tbI; rw [Int32.toBitVec_xor, BitVec.getLsbD_xor]
theorem tbI_neg1 {t : Nat} (h : t < 32) : tbI (-1) t = true := by
  have : ∀ t : Fin 32, tbI (-1) t.1 = true := by decide +kernel
  exact this ⟨t, h⟩
theorem tbI_zero (t : Nat) : tbI 0 t = false := by
  unfold tbI; show (0#32).getLsbD t = false; simp
theorem tbI_ext {x y : Int32} (h : ∀ t, t < 32 → tbI x t = tbI y t) : x = y := by
  apply Int32.toBitVec_inj.mp
  apply BitVec.eq_of_getLsbD_eq
  intro t ht
  exact h t ht
theorem tbI_ne0 {x : Int32} (h : x ≠ 0) : ∃ t, t < 32 ∧ tbI x t = true := by
  apply Classical.byContradiction
  intro q
  apply h
  refine tbI_ext fun t ht => ?_
  rw [tbI_zero]
  cases e : tbI x t with
  | false => rfl
  | true => exact absurd ⟨t, ht, e⟩ q
def cl (x lo hi : Int32) : Int32 := if x < lo then lo else if hi < x then hi else x
theorem p_clamp (x lo hi : Int32) (σ : Sg) : c_clamp x lo hi σ = some (cl x lo hi, σ) := by
  unfold c_clamp cl; split
  · rfl
  · split <;> rfl
theorem cl_bd {x lo hi : Int32} (h : lo.toInt ≤ hi.toInt) : lo.toInt ≤ (cl x lo hi).toInt ∧ (cl x lo hi).toInt ≤ hi.toInt := by
  unfold cl
  split
  · omega
  · rename_i h1
    rw [ti_lt] at h1
    split
    · omega
    · rename_i h2
      rw [ti_lt] at h2
      omega
/-- what a session's clearing leaves -/
def Cleared (σ σ' : Sg) : Prop := (∀ k j, k ≠ 6 → k ≠ 7 → k ≠ 8 → gi σ' k j = gi σ k j) ∧ (∀ k j, gj σ' k j = gj σ k j) ∧ (∀ j, j < 80 → gi σ' 6 j = 0 ∧ gi σ' 7 j = -1 ∧ gi σ' 8 j = 0)
theorem p_reset {x : Int32} (σ : Sg) (h1 : 0 ≤ x.toInt) (h2 : x.toInt < 80) : c_resetFault x σ = some (si (si (si σ 6 (nx x) 0) 7 (nx x) (-1)) 8 (nx x) 0) := by
  unfold c_resetFault
  rw [if_neg (by rw [ti_lt]; simp; omega), if_pos (by rw [ti_lt]; simp; omega)]
  simp only [inbT h1 (show x.toInt < ((80 : Nat) : Int) from h2), if_true]
theorem p_clear_loop (k : Nat) : ∀ (fuel : Nat) (i : Int32) (σ : Sg), i.toInt + k = 80 → 0 ≤ i.toInt → k < fuel →
    ∃ σ', c_clearSession_20 fuel i σ = some σ' ∧ (∀ k j, k ≠ 6 → k ≠ 7 → k ≠ 8 → gi σ' k j = gi σ k j) ∧ (∀ k j, gj σ' k j = gj σ k j) ∧ (∀ j : Nat, i.toInt ≤ j → j < 80 → gi σ' 6 j = 0 ∧ gi σ' 7 j = -1 ∧ gi σ' 8 j = 0) ∧ ∀ k j : Nat, (j : Int) < i.toInt → gi σ' k j = gi σ k j := by
  induction k with
  | zero =>
    intro fuel i σ h1 h2 h3
    obtain ⟨f, rfl⟩ : ∃ f, fuel = f + 1 := ⟨fuel - 1, by omega⟩
    rw [c_clearSession_20, if_neg (by rw [ti_lt]; simp; omega)]
    exact ⟨σ, rfl, fun _ _ _ _ _ => rfl, fun _ _ => rfl, fun j a b => by omega, fun _ _ _ => rfl⟩
  | succ k ih =>
    intro fuel i σ h1 h2 h3
    obtain ⟨f, rfl⟩ : ∃ f, fuel = f + 1 := ⟨fuel - 1, by omega⟩
    rw [c_clearSession_20, if_pos (by rw [ti_lt]; simp; omega), p_reset σ h2 (by omega), Option.bind_some]
    have e1 : (i + 1).toInt = i.toInt + 1 := ti_add1 (by omega)
    obtain ⟨σ', q1, q2, q3, q4, q5⟩ := ih f (i + 1) (si (si (si σ 6 (nx i) 0) 7 (nx i) (-1)) 8 (nx i) 0) (by omega) (by omega) (by omega)
    have en : ((nx i : Nat) : Int) = i.toInt := by unfold nx; omega
    refine ⟨σ', q1, fun k j a b c => ?_, fun k j => ?_, fun j a b => ?_, fun k j a => ?_⟩
    · rw [q2 k j a b c]; simp [gi_si, a, b, c]
    · rw [q3]; rfl
    · by_cases e : (j : Int) = i.toInt
      · have ej : j = nx i := by omega
        rw [q5 6 j (by omega), q5 7 j (by omega), q5 8 j (by omega)]
        subst ej
        simp [gi_si]
      · exact q4 j (by omega) b
    · rw [q5 k j (by omega)]
      have ej : j ≠ nx i := by omega
      simp [gi_si, ej]
theorem p_clear (σ : Sg) : ∃ σ', c_clearSession σ = some σ' ∧ Cleared (si (si (si σ 0 17 0) 0 18 (gi σ 0 15)) 0 19 0) σ' := by
  obtain ⟨σ', q1, q2, q3, q4, -⟩ := p_clear_loop 80 400 0 (si (si (si σ 0 17 0) 0 18 (gi σ 0 15)) 0 19 0) rfl (by decide) (by decide)
  exact ⟨σ', q1, q2, q3, fun j h => q4 j (by simp) h⟩
/-- a new object -/
def Fresh (σ : Sg) (a b c : Int32) : Prop := gi σ 0 9 = cl a 1 8 ∧ gi σ 0 10 = cl b 8 32 ∧ gi σ 0 11 = cl c 1 16 ∧ gi σ 0 12 = (1 : Int32) <<< (cl c 1 16 &&& 31) - 1 ∧ gi σ 0 13 = 0 ∧ gi σ 0 14 = 0 ∧ gi σ 0 15 = 44257 ∧ gi σ 0 16 = (1 : Int32) <<< (cl c 1 16 &&& 31) - 1 ∧ gi σ 0 17 = 0 ∧ gi σ 0 18 = 44257 ∧ gi σ 0 19 = 0 ∧
  (∀ k j, 1 ≤ k → k ≤ 5 → gi σ k j = 0) ∧ (∀ k j, gj σ k j = 0) ∧ (∀ j, j < 80 → gi σ 6 j = 0 ∧ gi σ 7 j = -1 ∧ gi σ 8 j = 0)
theorem p_init (a b c : Int32) : ∃ σ, c_init a b c = some σ ∧ Fresh σ a b c := by
  unfold c_init
  simp only [p_clamp, Option.bind_some]
  obtain ⟨σ', q1, q2, q3, q4⟩ := p_clear (si (si (si (si (si (si (si (si zs 0 9 (cl a 1 8)) 0 10 (cl b 8 32)) 0 11 (cl c 1 16)) 0 12 (((1 : Int32) <<< ((cl c 1 16) &&& 31)) - (1 : Int32))) 0 13 (0 : Int32)) 0 14 (0 : Int32)) 0 15 (44257 : Int32)) 0 16 (((1 : Int32) <<< ((cl c 1 16) &&& 31)) - (1 : Int32)))
  rw [q1]
  refine ⟨σ', rfl, ?_⟩
  have z : ∀ j, gi σ' 0 j = _ := fun j => q2 0 j (by decide) (by decide) (by decide)
  refine ⟨?_, ?_, ?_, ?_, ?_, ?_, ?_, ?_, ?_, ?_, ?_, fun k j h1 h2 => ?_, fun k j => ?_, q4⟩
  any_goals (refine (z _).trans ?_; simp [gi_si])
  · rw [q2 k j (by omega) (by omega) (by omega)]; simp [gi_si, gi_zs, show k ≠ 0 by omega]
  · rw [q3]; rfl
/-! LogicBist: the plain questions -/
def sc (σ : Sg) : Int32 := gi σ 0 9 + gi σ 0 13
theorem p_fc {σ : Sg} : c_faultCount σ = some (2 * sc σ, σ) := rfl
theorem p_gfc {σ : Sg} : c_getFaultCount σ = some (2 * sc σ, σ) := rfl
theorem p_isF (x : Int32) (σ : Sg) : c_isFault x σ = some (if x < 0 then 0 else if x < 2 * sc σ then 1 else 0, σ) := by
  unfold c_isFault
  rw [p_fc]
  split
  · rfl
  · simp only [Option.bind_some]; split <;> rfl
/-! LogicBist: a session's steps, as far as bounds and detections go -/
/-- the figures are in their bounds -/
def LOk (σ : Sg) : Prop := 1 ≤ (gi σ 0 9).toInt ∧ (gi σ 0 9).toInt ≤ 8 ∧ 0 ≤ (gi σ 0 13).toInt ∧ (gi σ 0 13).toInt ≤ 32 ∧ 0 ≤ (gi σ 0 14).toInt ∧ (gi σ 0 14).toInt ≤ 8 ∧ 1 ≤ (gi σ 0 11).toInt ∧ (gi σ 0 11).toInt ≤ 16
theorem sc_ti {σ : Sg} (H : LOk σ) : (sc σ).toInt = (gi σ 0 9).toInt + (gi σ 0 13).toInt := by
  obtain ⟨a, b, c, d, -⟩ := H
  unfold sc
  exact ti_add (by omega) (by omega)
theorem p_lane (x : Int32) (σ : Sg) : ∃ y, c_loadLane x σ = some (y, σ) := by
  unfold c_loadLane
  by_cases a : x < 0
  · exact ⟨_, by rw [if_pos a]⟩
  · by_cases b : x < 40
    · rw [ti_lt] at a b
      have e0 : (0 : Int32).toInt = 0 := rfl
      have e40 : (40 : Int32).toInt = 40 := rfl
      exact ⟨_, by rw [if_neg (by rw [ti_lt]; exact a), if_pos (by rw [ti_lt]; exact b), if_pos (inbT (by omega) (show x.toInt < ((40 : Nat) : Int) by omega))]⟩
    · exact ⟨_, by rw [if_neg a, if_neg b]⟩
theorem p_comb (k : Int32) (a b : Int64) (σ : Sg) : ∃ y, c_combine k a b σ = some (y, σ) := by
  unfold c_combine
  split
  · exact ⟨_, rfl⟩
  split
  · exact ⟨_, rfl⟩
  split
  · exact ⟨_, rfl⟩
  split
  · exact ⟨_, rfl⟩
  split
  · exact ⟨_, rfl⟩
  split
  · exact ⟨_, rfl⟩
  split
  · exact ⟨_, rfl⟩
  · exact ⟨_, rfl⟩
theorem p_twoE (x : Int32) (σ : Sg) : ∃ z, c_isTwoOperand x σ = some (z, σ) := by
  unfold c_isTwoOperand
  split
  · exact ⟨_, rfl⟩
  split <;> exact ⟨_, rfl⟩
theorem p_gateLane (x : Int32) (σ : Sg) : ∃ y, c_gateLane x σ = some (y, σ) := by
  unfold c_gateLane
  by_cases a : x < 0
  · exact ⟨_, by rw [if_pos a]⟩
  · by_cases b : x < 32
    · rw [ti_lt] at a b
      have e0 : (0 : Int32).toInt = 0 := rfl
      have e32 : (32 : Int32).toInt = 32 := rfl
      rw [if_neg (by rw [ti_lt]; exact a), if_pos (by rw [ti_lt]; exact b), if_pos (inbT (by omega) (show x.toInt < ((32 : Nat) : Int) by omega))]
      obtain ⟨y1, q1⟩ := p_lane (gi σ 2 (nx x)) σ
      obtain ⟨z, q2⟩ := p_twoE (gi σ 1 (nx x)) σ
      obtain ⟨y3, q3⟩ := p_lane (gi σ 3 (nx x)) σ
      rw [q1, Option.bind_some]
      simp only []
      rw [q2, Option.bind_some]
      simp only []
      unfold c_gateLane_53
      split
      · obtain ⟨y, q⟩ := p_comb (gi σ 1 (nx x)) y1 0 σ
        exact ⟨y, by rw [q]; rfl⟩
      · rw [q3, Option.bind_some]
        obtain ⟨y, q⟩ := p_comb (gi σ 1 (nx x)) y1 y3 σ
        exact ⟨y, by simp only []; rw [q]; rfl⟩
    · exact ⟨_, by rw [if_neg a, if_neg b]⟩
theorem p_inLane (b x : Int32) (σ : Sg) : ∃ y, c_inputLane b x σ = some (y, σ) := by
  unfold c_inputLane
  split
  · exact ⟨_, rfl⟩
  split
  · exact ⟨_, rfl⟩
  split <;> exact ⟨_, rfl⟩
theorem p_force (y : Int64) (s g : Int32) (σ : Sg) : ∃ z, c_forceLane y s g σ = some (z, σ) := by
  unfold c_forceLane
  split
  · exact ⟨_, rfl⟩
  split
  · exact ⟨_, rfl⟩
  split <;> exact ⟨_, rfl⟩
/-- only lanes change -/
def OnlyL (σ σ' : Sg) : Prop := (∀ k j, gi σ' k j = gi σ k j) ∧ ∀ k j, k ≠ 9 → gj σ' k j = gj σ k j
theorem OnlyL.refl (σ : Sg) : OnlyL σ σ := ⟨fun _ _ => rfl, fun _ _ _ => rfl⟩
theorem OnlyL.trans {σ σ' σ'' : Sg} (a : OnlyL σ σ') (b : OnlyL σ' σ'') : OnlyL σ σ'' := ⟨fun k j => (b.1 k j).trans (a.1 k j), fun k j h => (b.2 k j h).trans (a.2 k j h)⟩
theorem p_eval_loop (k : Nat) : ∀ (fuel : Nat) (b g n s : Int32) (σ : Sg), s.toInt + k = 40 → 0 ≤ s.toInt → k < fuel → ∃ σ', c_evaluateGroup_8 fuel b g n s σ = some σ' ∧ OnlyL σ σ' := by
  have e40 : (40 : Int32).toInt = 40 := rfl
  induction k with
  | zero =>
    intro fuel b g n s σ h1 h2 h3
    obtain ⟨f, rfl⟩ : ∃ f, fuel = f + 1 := ⟨fuel - 1, by omega⟩
    rw [c_evaluateGroup_8]
    refine ⟨σ, ?_, OnlyL.refl σ⟩
    split
    · rw [if_neg (by rw [ti_lt]; omega)]
    · rfl
  | succ k ih =>
    intro fuel b g n s σ h1 h2 h3
    obtain ⟨f, rfl⟩ : ∃ f, fuel = f + 1 := ⟨fuel - 1, by omega⟩
    have e1 : (s + 1).toInt = s.toInt + 1 := ti_add1 (by omega)
    have key : ∀ y : Int64, ∃ σ', c_evaluateGroup_55 (c_evaluateGroup_8 f) b g n s y σ = some σ' ∧ OnlyL σ σ' := by
      intro y
      unfold c_evaluateGroup_55
      obtain ⟨z, q⟩ := p_force y s g σ
      rw [q, Option.bind_some, if_pos (inbT h2 (show s.toInt < ((40 : Nat) : Int) by omega))]
      obtain ⟨σ', q', O⟩ := ih f b g n (s + 1) (sj σ 9 (nx s) z) (by omega) (by omega) (by omega)
      exact ⟨σ', q', fun k j => O.1 k j, fun k j ne => by rw [O.2 k j ne, gj_sj, if_neg (fun w => ne w.1)]⟩
    rw [c_evaluateGroup_8]
    split
    · rw [if_pos (by rw [ti_lt]; omega)]
      split
      · obtain ⟨y, q⟩ := p_inLane b s σ
        rw [q, Option.bind_some]; exact key y
      · obtain ⟨y, q⟩ := p_gateLane (s - gi σ 0 9) σ
        rw [q, Option.bind_some]; exact key y
    · exact ⟨σ, rfl, OnlyL.refl σ⟩
theorem p_eval (b g : Int32) (σ : Sg) : ∃ σ', c_evaluateGroup b g σ = some σ' ∧ OnlyL σ σ' :=
  p_eval_loop 40 400 b g _ 0 σ rfl (by decide) (by decide)
theorem p_outw_loop (k : Nat) : ∀ (fuel : Nat) (x w j : Int32) (σ : Sg), j.toInt + k = 8 → 0 ≤ j.toInt → k < fuel → ∃ z, c_outputWordAt_16 fuel x w j σ = some (z, σ) := by
  have e8 : (8 : Int32).toInt = 8 := rfl
  induction k with
  | zero =>
    intro fuel x w j σ h1 h2 h3
    obtain ⟨f, rfl⟩ : ∃ f, fuel = f + 1 := ⟨fuel - 1, by omega⟩
    rw [c_outputWordAt_16]
    refine ⟨w, ?_⟩
    split
    · rw [if_neg (by rw [ti_lt]; omega)]
    · rfl
  | succ k ih =>
    intro fuel x w j σ h1 h2 h3
    obtain ⟨f, rfl⟩ : ∃ f, fuel = f + 1 := ⟨fuel - 1, by omega⟩
    have e1 : (j + 1).toInt = j.toInt + 1 := ti_add1 (by omega)
    rw [c_outputWordAt_16]
    split
    · rw [if_pos (by rw [ti_lt]; omega), if_pos (inbT h2 (show j.toInt < ((8 : Nat) : Int) by omega))]
      obtain ⟨y, q⟩ := p_lane (gi σ 4 (nx j)) σ
      rw [q, Option.bind_some]
      unfold c_outputWordAt_59
      split <;> exact ih f x _ (j + 1) σ (by omega) (by omega) (by omega)
    · exact ⟨w, rfl⟩
theorem p_outw (x : Int32) (σ : Sg) : ∃ z, c_outputWordAt x σ = some (z, σ) := by
  unfold c_outputWordAt
  split
  · exact ⟨_, rfl⟩
  split
  · exact ⟨_, rfl⟩
  · exact p_outw_loop 8 400 x 0 0 σ rfl (by decide) (by decide)
theorem p_misr_loop (k : Nat) : ∀ (fuel : Nat) (r x j : Int32) (σ : Sg), j.toInt + k = 8 → 0 ≤ j.toInt → k < fuel → gi σ 0 11 ≠ 0 → ∃ z, c_misrStep_26 fuel r x j σ = some (z, σ) := by
  have e8 : (8 : Int32).toInt = 8 := rfl
  induction k with
  | zero =>
    intro fuel r x j σ h1 h2 h3 hw
    obtain ⟨f, rfl⟩ : ∃ f, fuel = f + 1 := ⟨fuel - 1, by omega⟩
    rw [c_misrStep_26]
    refine ⟨x, ?_⟩
    split
    · rw [if_neg (by rw [ti_lt]; omega)]
    · rfl
  | succ k ih =>
    intro fuel r x j σ h1 h2 h3 hw
    obtain ⟨f, rfl⟩ : ∃ f, fuel = f + 1 := ⟨fuel - 1, by omega⟩
    have e1 : (j + 1).toInt = j.toInt + 1 := ti_add1 (by omega)
    rw [c_misrStep_26]
    split
    · rw [if_pos (by rw [ti_lt]; omega)]
      unfold c_misrStep_65
      split
      · exact ih f r x (j + 1) σ (by omega) (by omega) (by omega) hw
      · first | exact ih f r _ (j + 1) σ (by omega) (by omega) (by omega) hw | (rw [if_neg hw]; exact ih f r _ (j + 1) σ (by omega) (by omega) (by omega) hw)
    · exact ⟨x, rfl⟩
theorem p_misr (s r : Int32) (σ : Sg) (hw : gi σ 0 11 ≠ 0) : ∃ z, c_misrStep s r σ = some (z, σ) := by
  unfold c_misrStep c_misrStep_23
  split <;> exact p_misr_loop 8 400 r _ 0 σ rfl (by decide) (by decide) hw
/-- detections are noted with p; nothing else than the faults' records changes -/
def RecK (p : Int32) (σ σ' : Sg) : Prop := (∀ k j, k ≠ 6 → k ≠ 7 → k ≠ 8 → gi σ' k j = gi σ k j) ∧ ∀ f, (gi σ' 8 f = gi σ 8 f ∧ gi σ' 7 f = gi σ 7 f) ∨ (gi σ 8 f = 0 ∧ gi σ' 8 f = 1 ∧ gi σ' 7 f = p)
theorem RecK.refl (p : Int32) (σ : Sg) : RecK p σ σ := ⟨fun _ _ _ _ _ => rfl, fun _ => Or.inl ⟨rfl, rfl⟩⟩
theorem RecK.trans {p : Int32} {σ σ' σ'' : Sg} (a : RecK p σ σ') (b : RecK p σ' σ'') : RecK p σ σ'' := by
  refine ⟨fun k j x y z => (b.1 k j x y z).trans (a.1 k j x y z), fun f => ?_⟩
  rcases a.2 f with ⟨a1, a2⟩ | ⟨a1, a2, a3⟩
  · rcases b.2 f with ⟨b1, b2⟩ | ⟨b1, b2, b3⟩
    · exact Or.inl ⟨b1.trans a1, b2.trans a2⟩
    · exact Or.inr ⟨by rw [← a1]; exact b1, b2, b3⟩
  · rcases b.2 f with ⟨b1, b2⟩ | ⟨b1, b2, b3⟩
    · exact Or.inr ⟨a1, b1.trans a2, b2.trans a3⟩
    · rw [a2] at b1; exact absurd b1 (by decide)
theorem RecK.ofL {p : Int32} {σ σ' : Sg} (a : OnlyL σ σ') : RecK p σ σ' := ⟨fun k j _ _ _ => a.1 k j, fun f => Or.inl ⟨a.1 8 f, a.1 7 f⟩⟩
theorem p_rec_loop (k : Nat) : ∀ (fuel : Nat) (g p a e f : Int32) (σ : Sg), f.toInt + k = 80 → 0 ≤ f.toInt → k < fuel → gi σ 0 11 ≠ 0 → ∃ σ', c_recordGroup_18 fuel g p a e f σ = some σ' ∧ RecK p σ σ' := by
  have e80 : (80 : Int32).toInt = 80 := rfl
  have e0 : (0 : Int32).toInt = 0 := rfl
  induction k with
  | zero =>
    intro fuel g p a e f σ h1 h2 h3 hw
    obtain ⟨n, rfl⟩ : ∃ n, fuel = n + 1 := ⟨fuel - 1, by omega⟩
    rw [c_recordGroup_18]
    refine ⟨σ, ?_, RecK.refl p σ⟩
    split
    · rw [if_neg (by rw [ti_lt]; omega)]
    · rfl
  | succ k ih =>
    intro fuel g p a e f σ h1 h2 h3 hw
    obtain ⟨n, rfl⟩ : ∃ n, fuel = n + 1 := ⟨fuel - 1, by omega⟩
    have e1 : (f + 1).toInt = f.toInt + 1 := ti_add1 (by omega)
    rw [c_recordGroup_18]
    split
    · rw [if_pos (by rw [ti_lt]; omega), if_neg (by rw [ti_lt]; omega)]
      obtain ⟨r, q1⟩ := p_outw (f - a) σ
      rw [q1, Option.bind_some, if_pos (inbT h2 (show f.toInt < ((80 : Nat) : Int) by omega))]
      simp only []
      obtain ⟨z, q2⟩ := p_misr (gi σ 6 (nx f)) r σ hw
      rw [q2, Option.bind_some]
      simp only []
      unfold c_recordGroup_103
      have go : ∀ σ1 : Sg, RecK p σ σ1 → gi σ1 0 11 = gi σ 0 11 → ∃ σ', c_recordGroup_18 n g p a e (f + 1) σ1 = some σ' ∧ RecK p σ σ' := by
        intro σ1 K1 hw1
        obtain ⟨σ', q, K⟩ := ih n g p a e (f + 1) σ1 (by omega) (by omega) (by omega) (by rw [hw1]; exact hw)
        exact ⟨σ', q, K1.trans K⟩
      have K6 : RecK p σ (si σ 6 (nx f) z) := ⟨fun k j x _ _ => by rw [gi_si, if_neg (fun w => x w.1)], fun t => Or.inl ⟨by rw [gi_si, if_neg (by simp)], by rw [gi_si, if_neg (by simp)]⟩⟩
      split
      · exact go _ K6 (by rw [gi_si, if_neg (by simp)])
      · split
        · rename_i hz
          refine go _ ⟨fun k j x y w => by simp [gi_si, x, y, w], fun t => ?_⟩ (by simp [gi_si])
          by_cases et : t = nx f
          · subst et; exact Or.inr ⟨hz, by simp [gi_si], by simp [gi_si]⟩
          · exact Or.inl ⟨by simp [gi_si, et], by simp [gi_si, et]⟩
        · exact go _ K6 (by rw [gi_si, if_neg (by simp)])
    · exact ⟨σ, rfl, RecK.refl p σ⟩
theorem p_rec {x g p : Int32} {σ : Sg} (hx : x = 0 ∨ x = 1) (hw : gi σ 0 11 ≠ 0) : ∃ σ', c_recordGroup x g p σ = some σ' ∧ RecK p σ σ' := by
  have hg : ∀ {β : Type} (f : Int32 × Sg → Option β), (c_groupFirst x σ).bind f = f (x <<< ((6 : Int32) &&& 31), σ) := fun f => rfl
  have he : ∃ e, c_groupEnd x σ = some (e, σ) := by
    unfold c_groupEnd
    rw [hg, p_fc, Option.bind_some]
    by_cases h : 2 * sc σ < x <<< ((6 : Int32) &&& 31) + 64
    · exact ⟨_, if_pos h⟩
    · exact ⟨_, if_neg h⟩
  obtain ⟨e, he⟩ := he
  unfold c_recordGroup
  rw [hg]
  simp only []
  rw [he, Option.bind_some]
  have k0 : (0 : Int32) <<< ((6 : Int32) &&& 31) = 0 := by decide
  have k1 : (1 : Int32) <<< ((6 : Int32) &&& 31) = 64 := by decide
  have e64 : (64 : Int32).toInt = 64 := rfl
  have e00 : (0 : Int32).toInt = 0 := rfl
  rcases hx with rfl | rfl
  · simp only [k0]; exact p_rec_loop 80 400 g p 0 e 0 σ (by omega) (by omega) (by omega) hw
  · simp only [k1]; exact p_rec_loop 16 400 g p 64 e 64 σ (by omega) (by omega) (by omega) hw
def lstep (l : Int32) : Int32 := if l &&& 1 = 1 then XT.ushr l 1 ^^^ 46080 else XT.ushr l 1
theorem p_lfsr (l : Int32) (σ : Sg) : c_lfsrStep l σ = some (lstep l, σ) := by
  unfold c_lfsrStep lstep
  split <;> rfl
/-- one pattern: the count, the register and the detections -/
def PatK (σ σ' : Sg) : Prop := gi σ' 0 17 = gi σ 0 17 + 1 ∧ gi σ' 0 18 = lstep (gi σ 0 18) ∧ (∀ j, j ≠ 17 → j ≠ 18 → j ≠ 19 → gi σ' 0 j = gi σ 0 j) ∧ (∀ k j, 1 ≤ k → k ≤ 5 → gi σ' k j = gi σ k j) ∧ (∀ f, (gi σ' 8 f = gi σ 8 f ∧ gi σ' 7 f = gi σ 7 f) ∨ (gi σ 8 f = 0 ∧ gi σ' 8 f = 1 ∧ gi σ' 7 f = gi σ 0 17)) ∧ ∃ g s1, OnlyL σ s1 ∧ c_misrStep (gi σ 0 19) g s1 = some (gi σ' 0 19, s1)
theorem p_pat {σ : Sg} (hw : gi σ 0 11 ≠ 0) : ∃ σ', c_applyPattern σ = some σ' ∧ PatK σ σ' := by
  obtain ⟨σ1, q1, O1⟩ := p_eval (gi σ 0 18) (-1) σ
  obtain ⟨g, q2⟩ := p_outw 0 σ1
  obtain ⟨z, q3⟩ := p_misr (gi σ1 0 19) g σ1 (by rw [O1.1]; exact hw)
  unfold c_applyPattern
  rw [q1, Option.bind_some, q2, Option.bind_some]
  simp only []
  rw [q3, Option.bind_some]
  simp only []
  have hgc : ∃ n, c_groupCount (si σ1 0 19 z) = some (n, si σ1 0 19 z) := ⟨_, rfl⟩
  obtain ⟨n, q4⟩ := hgc
  rw [q4, Option.bind_some]
  simp only []
  -- a state behind the groups
  have fin : ∀ s : Sg, RecK (gi σ 0 17) (si σ1 0 19 z) s → ∃ σ', c_applyPattern_78 (gi σ 0 17) s = some σ' ∧ PatK σ σ' := by
    intro s K
    unfold c_applyPattern_78
    rw [p_lfsr, Option.bind_some]
    have k0 : ∀ j, j ≠ 19 → gi s 0 j = gi σ 0 j := fun j h => by rw [K.1 0 j (by decide) (by decide) (by decide), gi_si, if_neg (fun w => h w.2), O1.1]
    refine ⟨_, rfl, by simp [gi_si], by rw [gi_si, if_pos ⟨rfl, rfl⟩, k0 18 (by decide)], fun j a b c => by simp only [gi_si]; rw [if_neg (fun w => b w.2), if_neg (fun w => a w.2), k0 j c], fun k j a b => ?_, fun f => ?_, g, σ1, O1, ?_⟩
    · simp only [gi_si]
      rw [if_neg (by omega), if_neg (by omega), K.1 k j (by omega) (by omega) (by omega), gi_si, if_neg (by omega), O1.1]
    · have d8 : gi (si (si s 0 17 (gi σ 0 17 + 1)) 0 18 (lstep (gi s 0 18))) 8 f = gi s 8 f := by simp [gi_si]
      have d7 : gi (si (si s 0 17 (gi σ 0 17 + 1)) 0 18 (lstep (gi s 0 18))) 7 f = gi s 7 f := by simp [gi_si]
      have b8 : gi (si σ1 0 19 z) 8 f = gi σ 8 f := by rw [gi_si, if_neg (by simp), O1.1]
      have b7 : gi (si σ1 0 19 z) 7 f = gi σ 7 f := by rw [gi_si, if_neg (by simp), O1.1]
      rw [d8, d7]
      have := K.2 f
      rw [b8, b7] at this
      exact this
    · have d19 : gi (si (si s 0 17 (gi σ 0 17 + 1)) 0 18 (lstep (gi s 0 18))) 0 19 = z := by
        simp only [gi_si]
        rw [if_neg (by simp), if_neg (by simp), K.1 0 19 (by decide) (by decide) (by decide), gi_si, if_pos ⟨rfl, rfl⟩]
      rw [d19, ← O1.1 0 19]; exact q3
  have hw' : ∀ s : Sg, RecK (gi σ 0 17) (si σ1 0 19 z) s → gi s 0 11 ≠ 0 := fun s K => by rw [K.1 0 11 (by decide) (by decide) (by decide), gi_si, if_neg (by simp), O1.1]; exact hw
  have step : ∀ (x : Int32) (s : Sg), x = 0 ∨ x = 1 → RecK (gi σ 0 17) (si σ1 0 19 z) s → ∃ s1 s2, c_evaluateGroup (gi σ 0 18) x s = some s1 ∧ c_recordGroup x g (gi σ 0 17) s1 = some s2 ∧ RecK (gi σ 0 17) (si σ1 0 19 z) s2 := by
    intro x s hx K
    obtain ⟨s1, r1, O⟩ := p_eval (gi σ 0 18) x s
    obtain ⟨s2, r2, K2⟩ := p_rec (x := x) (g := g) (p := gi σ 0 17) (σ := s1) hx (by rw [O.1]; exact hw' s K)
    exact ⟨s1, s2, r1, r2, K.trans ((RecK.ofL O).trans K2)⟩
  have K0 := RecK.refl (gi σ 0 17) (si σ1 0 19 z)
  rw [c_applyPattern_44]
  split
  · rw [if_pos (by decide)]
    obtain ⟨s1, s2, r1, r2, K2⟩ := step 0 _ (Or.inl rfl) K0
    rw [r1, Option.bind_some, r2, Option.bind_some, c_applyPattern_44]
    split
    · rw [if_pos (by decide)]
      obtain ⟨s3, s4, r3, r4, K4⟩ := step (0 + 1) _ (Or.inr rfl) K2
      rw [r3, Option.bind_some, r4, Option.bind_some, c_applyPattern_44]
      split
      · rw [if_neg (by decide)]; exact fin _ K4
      · exact fin _ K4
    · exact fin _ K2
  · exact fin _ K0
def lsteps : Nat → Int32 → Int32
  | 0, l => l
  | n + 1, l => lsteps n (lstep l)
/-- k patterns -/
def RunK (k : Nat) (σ σ' : Sg) : Prop := gi σ' 0 17 = gi σ 0 17 + Int32.ofNat k ∧ gi σ' 0 18 = lsteps k (gi σ 0 18) ∧ (∀ j, j ≠ 17 → j ≠ 18 → j ≠ 19 → gi σ' 0 j = gi σ 0 j) ∧ (∀ k j, 1 ≤ k → k ≤ 5 → gi σ' k j = gi σ k j) ∧ ∀ f, (gi σ' 8 f = gi σ 8 f ∧ gi σ' 7 f = gi σ 7 f) ∨ (gi σ' 8 f = 1 ∧ ∃ t, t < k ∧ gi σ' 7 f = gi σ 0 17 + Int32.ofNat t)
theorem p_run_loop (k : Nat) : ∀ (fuel : Nat) (n i : Int32) (σ : Sg), i.toInt + k = n.toInt → 0 ≤ i.toInt → n.toInt ≤ 64 → k < fuel → gi σ 0 11 ≠ 0 → ∃ σ', c_run_24 fuel n i σ = some (gi σ' 0 17, σ') ∧ RunK k σ σ' ∧ ∀ Inv : Sg → Prop, (∀ a b, PatK a b → Inv a → Inv b) → Inv σ → Inv σ' := by
  have e64 : (64 : Int32).toInt = 64 := rfl
  induction k with
  | zero =>
    intro fuel n i σ h1 h2 h3 h4 hw
    obtain ⟨f, rfl⟩ : ∃ f, fuel = f + 1 := ⟨fuel - 1, by omega⟩
    rw [c_run_24, if_neg (by rw [ti_lt]; omega)]
    exact ⟨σ, rfl, ⟨by rw [show Int32.ofNat 0 = 0 from rfl, Int32.add_zero], rfl, fun _ _ _ _ => rfl, fun _ _ _ _ => rfl, fun f => Or.inl ⟨rfl, rfl⟩⟩, fun _ _ h => h⟩
  | succ k ih =>
    intro fuel n i σ h1 h2 h3 h4 hw
    obtain ⟨f, rfl⟩ : ∃ f, fuel = f + 1 := ⟨fuel - 1, by omega⟩
    have e1 : (i + 1).toInt = i.toInt + 1 := ti_add1 (by omega)
    obtain ⟨σ1, q1, PP⟩ := p_pat hw
    obtain ⟨P1, P2, P3, P4, P5, -⟩ := id PP
    rw [c_run_24, if_pos (by rw [ti_lt]; omega), if_pos (by rw [ti_lt]; omega), q1, Option.bind_some]
    obtain ⟨σ', q, ⟨R1, R2, R3, R4, R5⟩, RI⟩ := ih f n (i + 1) σ1 (by omega) (by omega) h3 (by omega) (by rw [P3 11 (by decide) (by decide) (by decide)]; exact hw)
    have hadd : ∀ t : Nat, gi σ 0 17 + 1 + Int32.ofNat t = gi σ 0 17 + Int32.ofNat (t + 1) := fun t => by
      rw [← ofNat_succ, Int32.add_assoc, Int32.add_comm 1]
    refine ⟨σ', q, ⟨by rw [R1, P1, hadd], by rw [R2, P2]; rfl, fun j a b c => (R3 j a b c).trans (P3 j a b c), fun k j a b => (R4 k j a b).trans (P4 k j a b), fun t => ?_⟩, fun Inv hs h => RI Inv hs (hs _ _ PP h)⟩
    rcases R5 t with ⟨a1, a2⟩ | ⟨a1, u, a2, a3⟩
    · rcases P5 t with ⟨b1, b2⟩ | ⟨b1, b2, b3⟩
      · exact Or.inl ⟨a1.trans b1, a2.trans b2⟩
      · exact Or.inr ⟨a1.trans b2, 0, by omega, by rw [a2, b3, show Int32.ofNat 0 = 0 from rfl, Int32.add_zero]⟩
    · exact Or.inr ⟨a1, u + 1, by omega, by rw [a3, P1, hadd]⟩
theorem p_run {n : Int32} {σ : Sg} (hw : gi σ 0 11 ≠ 0) : (c_run n σ = some (-1, σ) ∧ ¬ (1 ≤ n.toInt ∧ n.toInt ≤ 64 ∧ gi σ 0 14 ≠ 0)) ∨ (1 ≤ n.toInt ∧ n.toInt ≤ 64 ∧ gi σ 0 14 ≠ 0 ∧ ∃ σ', c_run n σ = some (gi σ' 0 17, σ') ∧ RunK (nx n) σ σ' ∧ ∀ Inv : Sg → Prop, (∀ a b, PatK a b → Inv a → Inv b) → Inv σ → Inv σ') := by
  have e1 : (1 : Int32).toInt = 1 := rfl
  have e64 : (64 : Int32).toInt = 64 := rfl
  unfold c_run
  by_cases a : n < 1
  · left; rw [if_pos a]; rw [ti_lt] at a; exact ⟨rfl, by omega⟩
  · rw [if_neg a]; rw [ti_lt] at a
    by_cases b : 64 < n
    · left; rw [if_pos b]; rw [ti_lt] at b; exact ⟨rfl, by omega⟩
    · rw [if_neg b]; rw [ti_lt] at b
      by_cases c : gi σ 0 14 = 0
      · left; rw [if_pos c]; exact ⟨rfl, fun q => q.2.2 c⟩
      · right
        rw [if_neg c]
        exact ⟨by omega, by omega, c, p_run_loop (nx n) 400 n 0 σ (by unfold nx; show (0 : Int) + _ = _; omega) (by decide) (by omega) (by unfold nx; omega) hw⟩
/-! counting -/
def cntF (P : Nat → Bool) : Nat → Nat
  | 0 => 0
  | n + 1 => cntF P n + (if P n = true then 1 else 0)
theorem cntF_le (P : Nat → Bool) (n : Nat) : cntF P n ≤ n := by
  induction n with
  | zero => exact Nat.le_refl _
  | succ n ih => unfold cntF; split <;> omega
theorem cntF_congr {P Q : Nat → Bool} {n : Nat} (h : ∀ i, i < n → P i = Q i) : cntF P n = cntF Q n := by
  induction n with
  | zero => rfl
  | succ n ih => unfold cntF; rw [ih fun i hi => h i (by omega), h n (by omega)]
theorem p_det_loop (k : Nat) : ∀ (fuel i : Nat) (N : Nat) (σ : Sg), i + k = N → N ≤ 80 → k < fuel →
    c_getDetectedCount_9 fuel (Int32.ofNat N) (Int32.ofNat (cntF (fun f => decide (gi σ 8 f ≠ 0)) i)) (Int32.ofNat i) σ = some (Int32.ofNat (cntF (fun f => decide (gi σ 8 f ≠ 0)) N), σ) := by
  induction k with
  | zero =>
    intro fuel i N σ h1 h2 h3
    obtain ⟨f, rfl⟩ : ∃ f, fuel = f + 1 := ⟨fuel - 1, by omega⟩
    have : i = N := by omega
    subst this
    rw [c_getDetectedCount_9, if_neg (by rw [ofNat_lt (by omega) (by omega)]; omega)]
  | succ k ih =>
    intro fuel i N σ h1 h2 h3
    obtain ⟨f, rfl⟩ : ∃ f, fuel = f + 1 := ⟨fuel - 1, by omega⟩
    have ei := ti_ofNat (n := i) (by omega)
    rw [c_getDetectedCount_9, if_pos (by rw [ofNat_lt (by omega) (by omega)]; omega), if_pos (by rw [show (80 : Int32) = Int32.ofNat 80 from rfl, ofNat_lt (by omega) (by omega)]; omega), if_pos (inbT (by omega) (show (Int32.ofNat i).toInt < ((80 : Nat) : Int) by omega)), nx_ofNat (by omega)]
    unfold c_getDetectedCount_32
    have := ih f (i + 1) N σ (by omega) h2 (by omega)
    by_cases hz : gi σ 8 i = 0
    · rw [if_pos hz, ofNat_succ]
      rw [show cntF (fun f => decide (gi σ 8 f ≠ 0)) (i + 1) = cntF (fun f => decide (gi σ 8 f ≠ 0)) i by simp [cntF, hz]] at this
      exact this
    · rw [if_neg hz, ofNat_succ, ofNat_succ]
      rw [show cntF (fun f => decide (gi σ 8 f ≠ 0)) (i + 1) = cntF (fun f => decide (gi σ 8 f ≠ 0)) i + 1 by simp [cntF, hz]] at this
      exact this
theorem sc2 {σ : Sg} (H : LOk σ) : 2 * sc σ = Int32.ofNat (2 * ((gi σ 0 9).toInt + (gi σ 0 13).toInt).toNat) := by
  have h := sc_ti H
  obtain ⟨a, b, c, d, -⟩ := H
  have e2 : (2 : Int32).toInt = 2 := rfl
  refine eq_ofNat ?_
  rw [ti_mul (by rw [e2, h]; omega) (by rw [e2, h]; omega), e2, h]
  omega
def scN (σ : Sg) : Nat := ((gi σ 0 9).toInt + (gi σ 0 13).toInt).toNat
theorem p_det {σ : Sg} (H : LOk σ) : c_getDetectedCount σ = some (Int32.ofNat (cntF (fun f => decide (gi σ 8 f ≠ 0)) (2 * scN σ)), σ) := by
  have hb : scN σ ≤ 40 := by obtain ⟨a, b, c, d, -⟩ := H; unfold scN; omega
  unfold c_getDetectedCount
  rw [p_fc, Option.bind_some]
  simp only []
  rw [sc2 H]
  exact p_det_loop (2 * scN σ) 400 0 (2 * scN σ) σ (by omega) (by omega) (by omega)
theorem p_fdo {f : Nat} (h : f < 80) (σ : Sg) : c_firstDetectOf (Int32.ofNat f) σ = some (if gi σ 8 f = 0 then -1 else gi σ 7 f, σ) := by
  have ef := ti_ofNat (n := f) (by omega)
  have e0 : (0 : Int32).toInt = 0 := rfl
  have e80 : (80 : Int32).toInt = 80 := rfl
  unfold c_firstDetectOf
  rw [if_neg (by rw [ti_lt]; omega), if_pos (by rw [ti_lt]; omega), if_pos (inbT (by omega) (show (Int32.ofNat f).toInt < ((80 : Nat) : Int) by omega)), nx_ofNat (by omega)]
  split <;> rfl
def cvB (σ : Sg) (p : Int32) (f : Nat) : Bool := decide (gi σ 8 f ≠ 0) && (decide (¬ gi σ 7 f < 0) && decide (¬ p < gi σ 7 f))
theorem p_cov_loop (p : Int32) (k : Nat) : ∀ (fuel i : Nat) (N : Nat) (σ : Sg), i + k = N → N ≤ 80 → k < fuel →
    c_coverageAt_16 fuel p (Int32.ofNat N) (Int32.ofNat (cntF (cvB σ p) i)) (Int32.ofNat i) σ = some (Int32.ofNat (cntF (cvB σ p) N), σ) := by
  induction k with
  | zero =>
    intro fuel i N σ h1 h2 h3
    obtain ⟨f, rfl⟩ : ∃ f, fuel = f + 1 := ⟨fuel - 1, by omega⟩
    have : i = N := by omega
    subst this
    rw [c_coverageAt_16, if_neg (by rw [ofNat_lt (by omega) (by omega)]; omega)]
  | succ k ih =>
    intro fuel i N σ h1 h2 h3
    obtain ⟨f, rfl⟩ : ∃ f, fuel = f + 1 := ⟨fuel - 1, by omega⟩
    rw [c_coverageAt_16, if_pos (by rw [ofNat_lt (by omega) (by omega)]; omega), if_pos (by rw [show (80 : Int32) = Int32.ofNat 80 from rfl, ofNat_lt (by omega) (by omega)]; omega), p_fdo (by omega), Option.bind_some]
    unfold c_coverageAt_51
    have := ih f (i + 1) N σ (by omega) h2 (by omega)
    simp only []
    by_cases hz : gi σ 8 i = 0
    · rw [if_pos hz, if_pos (by decide), ofNat_succ]
      rw [show cntF (cvB σ p) (i + 1) = cntF (cvB σ p) i by simp [cntF, cvB, hz]] at this
      exact this
    · rw [if_neg hz]
      by_cases h7 : gi σ 7 i < 0
      · rw [if_pos h7, ofNat_succ]
        rw [show cntF (cvB σ p) (i + 1) = cntF (cvB σ p) i by simp [cntF, cvB, hz, h7]] at this
        exact this
      · rw [if_neg h7]
        by_cases hp : p < gi σ 7 i
        · rw [if_pos hp, ofNat_succ]
          rw [show cntF (cvB σ p) (i + 1) = cntF (cvB σ p) i by simp [cntF, cvB, hz, h7, hp]] at this
          exact this
        · rw [if_neg hp, ofNat_succ, ofNat_succ]
          rw [show cntF (cvB σ p) (i + 1) = cntF (cvB σ p) i + 1 by simp [cntF, cvB, hz, h7, hp]] at this
          exact this
theorem p_cov {σ : Sg} (H : LOk σ) (p : Int32) : c_coverageAt p σ = some (if p < 0 then 0 else Int32.ofNat (cntF (cvB σ p) (2 * scN σ)), σ) := by
  have hb : scN σ ≤ 40 := by obtain ⟨a, b, c, d, -⟩ := H; unfold scN; omega
  unfold c_coverageAt
  by_cases a : p < 0
  · rw [if_pos a, if_pos a]
  · rw [if_neg a, if_neg a, p_fc, Option.bind_some]
    simp only []
    rw [sc2 H]
    exact p_cov_loop p (2 * scN σ) 400 0 (2 * scN σ) σ (by omega) (by omega) (by omega)
/-! LogicBist: the calls that change the netlist or the settings -/
theorem p_isS (x : Int32) (σ : Sg) : c_isSignal x σ = some (if x < 0 then 0 else if x < sc σ then 1 else 0, σ) := by
  unfold c_isSignal c_signalCount
  split
  · rfl
  · simp only [Option.bind_some]; unfold sc; split <;> rfl
theorem p_kind (x : Int32) (σ : Sg) : c_isGateKind x σ = some (if x < 0 then 0 else if 7 < x then 0 else 1, σ) := by
  unfold c_isGateKind
  split
  · rfl
  · split <;> rfl
theorem p_two (x : Int32) (σ : Sg) : c_isTwoOperand x σ = some (if x < 0 then 0 else if 5 < x then 0 else 1, σ) := by
  unfold c_isTwoOperand
  split
  · rfl
  · split <;> rfl
/-- faults' records: each as it was, or undetected -/
def RstK (σ σ' : Sg) : Prop := (∀ k j, k ≠ 6 → k ≠ 7 → k ≠ 8 → gi σ' k j = gi σ k j) ∧ ∀ f, (gi σ' 8 f = gi σ 8 f ∧ gi σ' 7 f = gi σ 7 f) ∨ gi σ' 8 f = 0
theorem RstK.trans {σ σ' σ'' : Sg} (a : RstK σ σ') (b : RstK σ' σ'') : RstK σ σ'' := by
  refine ⟨fun k j x y z => (b.1 k j x y z).trans (a.1 k j x y z), fun f => ?_⟩
  rcases b.2 f with ⟨b1, b2⟩ | b1
  · rcases a.2 f with ⟨a1, a2⟩ | a1
    · exact Or.inl ⟨b1.trans a1, b2.trans a2⟩
    · exact Or.inr (b1.trans a1)
  · exact Or.inr b1
theorem p_resetK (x : Int32) (σ : Sg) : ∃ σ', c_resetFault x σ = some σ' ∧ RstK σ σ' := by
  by_cases h1 : x < 0
  · exact ⟨σ, by unfold c_resetFault; rw [if_pos h1], fun _ _ _ _ _ => rfl, fun _ => Or.inl ⟨rfl, rfl⟩⟩
  by_cases h2 : x < 80
  · have e0 : (0 : Int32).toInt = 0 := rfl
    have e8 : (80 : Int32).toInt = 80 := rfl
    rw [ti_lt] at h1 h2
    refine ⟨_, p_reset σ (by omega) (by omega), fun k j a b c => by simp [gi_si, a, b, c], fun f => ?_⟩
    by_cases e : f = nx x
    · right; simp [gi_si, e]
    · left; simp [gi_si, e]
  · exact ⟨σ, by unfold c_resetFault; rw [if_neg h1, if_neg h2], fun _ _ _ _ _ => rfl, fun _ => Or.inl ⟨rfl, rfl⟩⟩
def okA (σ : Sg) (k a b : Int32) : Bool := decide (¬ 0 < gi σ 0 17 ∧ gi σ 0 13 < gi σ 0 10 ∧ ¬ k < 0 ∧ ¬ 7 < k ∧ ¬ a < 0 ∧ a < sc σ ∧ (¬ 5 < k → ¬ b < 0 ∧ b < sc σ))
theorem okA_iff {σ : Sg} {k a b : Int32} : okA σ k a b = true ↔ ¬ 0 < gi σ 0 17 ∧ gi σ 0 13 < gi σ 0 10 ∧ ¬ k < 0 ∧ ¬ 7 < k ∧ ¬ a < 0 ∧ a < sc σ ∧ (¬ 5 < k → ¬ b < 0 ∧ b < sc σ) := decide_eq_true_iff
/-- a gate more -/
def AddK (σ σ' : Sg) : Prop := gi σ' 0 13 = gi σ 0 13 + 1 ∧ (∀ j, j ≠ 13 → gi σ' 0 j = gi σ 0 j) ∧ (∀ j, gi σ' 4 j = gi σ 4 j ∧ gi σ' 5 j = gi σ 5 j) ∧ ∀ f, (gi σ' 8 f = gi σ 8 f ∧ gi σ' 7 f = gi σ 7 f) ∨ gi σ' 8 f = 0
theorem p_app {σ : Sg} (H : LOk σ) (h : (gi σ 0 13).toInt < 32) (a b c : Int32) : ∃ σ', c_appendGate a b c σ = some (sc σ, σ') ∧ AddK σ σ' := by
  have e0 : (0 : Int32).toInt = 0 := rfl
  have e32 : (32 : Int32).toInt = 32 := rfl
  have g0 := H.2.2.1
  unfold c_appendGate
  rw [if_neg (by rw [ti_lt]; omega), if_pos (by rw [ti_lt]; omega), if_pos (inbT (by omega) (show (gi σ 0 13).toInt < ((32 : Nat) : Int) by omega))]
  obtain ⟨σ1, q1, K1⟩ := p_resetK (2 * (gi σ 0 9 + gi σ 0 13)) (si (si (si (si σ 1 (nx (gi σ 0 13)) a) 2 (nx (gi σ 0 13)) b) 3 (nx (gi σ 0 13)) c) 0 13 (gi σ 0 13 + 1))
  obtain ⟨σ2, q2, K2⟩ := p_resetK (2 * (gi σ 0 9 + gi σ 0 13) + 1) σ1
  rw [q1, Option.bind_some, q2, Option.bind_some]
  have K := K1.trans K2
  refine ⟨σ2, rfl, ?_, fun j ne => ?_, fun j => ⟨?_, ?_⟩, fun f => ?_⟩
  · rw [K.1 0 13 (by decide) (by decide) (by decide)]; simp [gi_si]
  · rw [K.1 0 j (by decide) (by decide) (by decide)]; simp [gi_si, ne]
  · rw [K.1 4 j (by decide) (by decide) (by decide)]; simp [gi_si]
  · rw [K.1 5 j (by decide) (by decide) (by decide)]; simp [gi_si]
  · rcases K.2 f with ⟨a1, a2⟩ | a1
    · left; rw [a1, a2]; simp [gi_si]
    · exact Or.inr a1
theorem p_add {σ : Sg} (H : LOk σ) (h : (gi σ 0 10).toInt ≤ 32) (k a b : Int32) : (okA σ k a b = false ∧ c_addGate k a b σ = some (-1, σ)) ∨ (okA σ k a b = true ∧ ∃ σ', c_addGate k a b σ = some (sc σ, σ') ∧ AddK σ σ') := by
  cases hok : okA σ k a b with
  | false =>
    left
    refine ⟨rfl, ?_⟩
    have hn : ¬ (¬ 0 < gi σ 0 17 ∧ gi σ 0 13 < gi σ 0 10 ∧ ¬ k < 0 ∧ ¬ 7 < k ∧ ¬ a < 0 ∧ a < sc σ ∧ (¬ 5 < k → ¬ b < 0 ∧ b < sc σ)) := fun q => by rw [okA_iff.mpr q] at hok; cases hok
    unfold c_addGate
    simp only [p_kind, p_isS, p_two, Option.bind_some]
    by_cases h1 : 0 < gi σ 0 17
    · rw [if_pos h1]
    by_cases h2 : gi σ 0 13 < gi σ 0 10
    · by_cases h3 : k < 0
      · simp [h1, h2, h3]
      by_cases h4 : 7 < k
      · simp [h1, h2, h3, h4]
      by_cases h5 : a < 0
      · simp [h1, h2, h3, h4, h5]
      by_cases h6 : a < sc σ
      · by_cases h7 : 5 < k
        · exact absurd ⟨h1, h2, h3, h4, h5, h6, fun q => absurd h7 q⟩ hn
        · by_cases h8 : b < 0
          · simp [h1, h2, h3, h4, h5, h6, h7, h8]
          · by_cases h9 : b < sc σ
            · exact absurd ⟨h1, h2, h3, h4, h5, h6, fun _ => ⟨h8, h9⟩⟩ hn
            · simp [h1, h2, h3, h4, h5, h6, h7, h8, h9]
      · simp [h1, h2, h3, h4, h5, h6]
    · simp [h1, h2]
  | true =>
    right
    refine ⟨rfl, ?_⟩
    obtain ⟨h1, h2, h3, h4, h5, h6, h7⟩ := okA_iff.mp hok
    have hg : (gi σ 0 13).toInt < 32 := by rw [ti_lt] at h2; omega
    unfold c_addGate
    simp only [p_kind, p_isS, p_two, Option.bind_some]
    by_cases h8 : 5 < k
    · obtain ⟨σ', q, K⟩ := p_app H hg k a a
      refine ⟨σ', ?_, K⟩
      simp [h1, h2, h3, h4, h5, h6, h8, c_addGate_64, c_addGate_77, q]
    · obtain ⟨h9, h10⟩ := h7 h8
      obtain ⟨σ', q, K⟩ := p_app H hg k a b
      refine ⟨σ', ?_, K⟩
      simp [h1, h2, h3, h4, h5, h6, h8, h9, h10, c_addGate_64, c_addGate_77, q]
def okM (σ : Sg) (x : Int32) : Bool := decide (¬ 0 < gi σ 0 17 ∧ gi σ 0 14 < 8 ∧ ¬ x < 0 ∧ x < sc σ ∧ gi σ 5 (nx x) = 0)
theorem okM_iff {σ : Sg} {x : Int32} : okM σ x = true ↔ ¬ 0 < gi σ 0 17 ∧ gi σ 0 14 < 8 ∧ ¬ x < 0 ∧ x < sc σ ∧ gi σ 5 (nx x) = 0 := decide_eq_true_iff
theorem p_mark {σ : Sg} (H : LOk σ) (x : Int32) : c_markOutput x σ = some (if okM σ x = true then (1, si (si (si σ 5 (nx x) 1) 4 (nx (gi σ 0 14)) x) 0 14 (gi σ 0 14 + 1)) else (0, σ)) := by
  have hs := sc_ti H
  have e0 : (0 : Int32).toInt = 0 := rfl
  have e8 : (8 : Int32).toInt = 8 := rfl
  unfold c_markOutput
  simp only [p_isS, Option.bind_some]
  by_cases h1 : 0 < gi σ 0 17
  · rw [if_pos h1, if_neg (fun q => (okM_iff.mp q).1 h1)]
  by_cases h2 : gi σ 0 14 < 8
  · by_cases h3 : x < 0
    · rw [if_neg (fun q => (okM_iff.mp q).2.2.1 h3)]; simp [h1, h2, h3]
    by_cases h4 : x < sc σ
    · have h3' := h3
      have h4' := h4
      have h2' := h2
      rw [ti_lt] at h3' h4' h2'
      obtain ⟨a, b, c, d, e, f, -⟩ := H
      have hi : inb x 40 = true := inbT (by omega) (show x.toInt < ((40 : Nat) : Int) by omega)
      have ho : inb (gi σ 0 14) 8 = true := inbT (by omega) (show (gi σ 0 14).toInt < ((8 : Nat) : Int) by omega)
      by_cases h5 : gi σ 5 (nx x) = 0
      · rw [if_pos (okM_iff.mpr ⟨h1, h2, h3, h4, h5⟩)]; simp [h1, h2, h3, h4, h5, hi, ho]
      · rw [if_neg (fun q => h5 (okM_iff.mp q).2.2.2.2)]; simp [h1, h2, h3, h4, h5, hi]
    · rw [if_neg (fun q => h4 (okM_iff.mp q).2.2.2.1)]; simp [h1, h2, h3, h4]
  · rw [if_neg (fun q => h2 (okM_iff.mp q).2.1)]; simp [h1, h2]
theorem p_seed (x : Int32) (σ : Sg) : c_setSeed x σ = some (if 0 < gi σ 0 17 then (0, σ) else if x &&& 65535 = 0 then (0, σ) else (1, si (si σ 0 15 (x &&& 65535)) 0 18 (x &&& 65535))) := by
  unfold c_setSeed
  split
  · rfl
  · split <;> rfl
theorem p_mask (x : Int32) (σ : Sg) : c_setMisrMask x σ = some (if 0 < gi σ 0 17 then (0, σ) else (1, si σ 0 16 (x &&& gi σ 0 12))) := by
  unfold c_setMisrMask
  split <;> rfl
/-! LogicBist: one gate over two inputs, one output -/
def biI (b : Bool) : Int32 := if b = true then 1 else 0
def lnI (b : Bool) : Int64 := if b = true then -1 else 0
def comb (x : Int32) (a b : Int64) : Int64 := if x = 0 then a &&& b else if x = 1 then a ||| b else if x = 2 then (a &&& b) ^^^ (-1) else if x = 3 then (a ||| b) ^^^ (-1) else if x = 4 then a ^^^ b else if x = 5 then (a ^^^ b) ^^^ (-1) else if x = 6 then a ^^^ (-1) else a
theorem p_combV (x : Int32) (a b : Int64) (σ : Sg) : c_combine x a b σ = some (comb x a b, σ) := by
  unfold c_combine comb
  split
  · rfl
  split
  · rfl
  split
  · rfl
  split
  · rfl
  split
  · rfl
  split
  · rfl
  split <;> rfl
def frc (y : Int64) (s g : Int32) : Int64 := if g < 0 then y else if s < 0 then y else if XT.ushr s 5 = g then (y &&& (((1 : Int64) <<< (((s <<< ((1 : Int32) &&& 31)) &&& (63 : Int32)).toInt64 &&& 63)) ^^^ (-1 : Int64))) ||| ((1 : Int64) <<< ((((s <<< ((1 : Int32) &&& 31)) &&& (63 : Int32)) + (1 : Int32)).toInt64 &&& 63)) else y
theorem p_frc (y : Int64) (s g : Int32) (σ : Sg) : c_forceLane y s g σ = some (frc y s g, σ) := by
  unfold c_forceLane frc
  split
  · rfl
  split
  · rfl
  split <;> rfl
def St5 (σ : Sg) (K w m : Int32) : Prop := gi σ 0 9 = 2 ∧ gi σ 0 13 = 1 ∧ gi σ 0 14 = 1 ∧ gi σ 0 11 = w ∧ gi σ 0 16 = m ∧ gi σ 1 0 = K ∧ gi σ 2 0 = 0 ∧ (¬ 5 < K → gi σ 3 0 = 1) ∧ gi σ 4 0 = 2
theorem St5.same {σ σ' : Sg} {K w m : Int32} (S : St5 σ K w m) (h : ∀ k j, k ≠ 6 → k ≠ 7 → k ≠ 8 → (k = 0 → j ≠ 17 ∧ j ≠ 18 ∧ j ≠ 19) → gi σ' k j = gi σ k j) : St5 σ' K w m := by
  obtain ⟨a, b, c, d, e, f, g, i, j⟩ := S
  have z : ∀ j, j ≠ 17 → j ≠ 18 → j ≠ 19 → gi σ' 0 j = gi σ 0 j := fun j x y w => h 0 j (by decide) (by decide) (by decide) fun _ => ⟨x, y, w⟩
  have y : ∀ k j, 1 ≤ k → k ≤ 5 → gi σ' k j = gi σ k j := fun k j x y => h k j (by omega) (by omega) (by omega) fun q => by omega
  exact ⟨(z 9 (by decide) (by decide) (by decide)).trans a, (z 13 (by decide) (by decide) (by decide)).trans b, (z 14 (by decide) (by decide) (by decide)).trans c, (z 11 (by decide) (by decide) (by decide)).trans d, (z 16 (by decide) (by decide) (by decide)).trans e, (y 1 0 (by decide) (by decide)).trans f, (y 2 0 (by decide) (by decide)).trans g, fun q => (y 3 0 (by decide) (by decide)).trans (i q), (y 4 0 (by decide) (by decide)).trans j⟩
theorem p_laneV {n : Nat} (hn : n < 40) (σ : Sg) : c_loadLane (Int32.ofNat n) σ = some (gj σ 9 n, σ) := by
  have e := ti_ofNat (n := n) (by omega)
  have e0 : (0 : Int32).toInt = 0 := rfl
  have e40 : (40 : Int32).toInt = 40 := rfl
  unfold c_loadLane
  rw [if_neg (by rw [ti_lt]; omega), if_pos (by rw [ti_lt]; omega), if_pos (inbT (by omega) (show (Int32.ofNat n).toInt < ((40 : Nat) : Int) by omega)), nx_ofNat (by omega)]
theorem gl5 {σ : Sg} {K w m : Int32} (S : St5 σ K w m) (hK : 0 ≤ K.toInt) : c_gateLane 0 σ = some (comb K (gj σ 9 0) (if 5 < K then 0 else gj σ 9 1), σ) := by
  obtain ⟨a, b, c, d, e, f, g, i, j⟩ := S
  have n0 : nx (0 : Int32) = 0 := rfl
  have z0 : (0 : Int32).toInt = 0 := rfl
  have l0 : c_loadLane 0 σ = some (gj σ 9 0, σ) := p_laneV (n := 0) (by decide) σ
  have l1 : c_loadLane 1 σ = some (gj σ 9 1, σ) := p_laneV (n := 1) (by decide) σ
  have k0 : ¬ K < 0 := by rw [ti_lt]; omega
  unfold c_gateLane
  rw [if_neg (show ¬ (0 : Int32) < 0 by decide), if_pos (show (0 : Int32) < 32 by decide), if_pos (show inb (0 : Int32) 32 = true by decide), n0, f, g, l0, Option.bind_some]
  simp only []
  unfold c_isTwoOperand
  rw [if_neg k0]
  by_cases q : 5 < K
  · rw [if_pos q, if_pos q, Option.bind_some, if_pos rfl]
    unfold c_gateLane_53
    rw [p_combV]; rfl
  · rw [if_neg q, if_neg q, Option.bind_some, if_neg (show ¬ (1 : Int32) = 0 by decide), i q]
    simp only []
    rw [l1, Option.bind_some]
    unfold c_gateLane_53
    rw [p_combV]; rfl
theorem ev55 (k : Int32 → Int32 → Int32 → Int32 → Sg → Option Sg) (l g n s : Int32) (y : Int64) (σ : Sg) (h : inb s 40 = true) : c_evaluateGroup_55 k l g n s y σ = k l g n (s + 1) (sj σ 9 (nx s) (frc y s g)) := by
  unfold c_evaluateGroup_55
  rw [p_frc, Option.bind_some, if_pos h]
def bt (l : Int32) (s : Int32) : Bool := decide (¬ (XT.ushr l s &&& 1) = 0)
theorem p_inV {l s : Int32} (h0 : ¬ s < 0) (h1 : ¬ 31 < s) (σ : Sg) : c_inputLane l s σ = some (lnI (bt l s), σ) := by
  unfold c_inputLane
  rw [if_neg h0, if_neg h1]
  by_cases q : XT.ushr l s &&& 1 = 0
  · rw [if_pos q]; simp [lnI, bt, q]
  · rw [if_neg q]; simp [lnI, bt, q]
def L0 (b : Bool) (g : Int32) : Int64 := frc (lnI b) 0 g
def L1 (b : Bool) (g : Int32) : Int64 := frc (lnI b) 1 g
def L2 (K : Int32) (a b : Bool) (g : Int32) : Int64 := frc (comb K (L0 a g) (if 5 < K then 0 else L1 b g)) 2 g
theorem ev5 {σ : Sg} {K w m : Int32} (S : St5 σ K w m) (hK : 0 ≤ K.toInt) (l g : Int32) : c_evaluateGroup l g σ = some (sj (sj (sj σ 9 0 (L0 (bt l 0) g)) 9 1 (L1 (bt l 1) g)) 9 2 (L2 K (bt l 0) (bt l 1) g)) := by
  have n0 : nx (0 : Int32) = 0 := rfl
  have n1 : nx (1 : Int32) = 1 := rfl
  have n2 : nx (2 : Int32) = 2 := rfl
  have hsc : c_signalCount σ = some (3, σ) := by unfold c_signalCount; rw [S.1, S.2.1]; rfl
  unfold c_evaluateGroup
  rw [hsc, Option.bind_some]
  simp only []
  rw [c_evaluateGroup_8, if_pos (show (0 : Int32) < 3 by decide), if_pos (show (0 : Int32) < 40 by decide), S.1, if_pos (show (0 : Int32) < 2 by decide), p_inV (by decide) (by decide), Option.bind_some]
  simp only []
  rw [ev55 _ _ _ _ _ _ _ (by decide), show (0 : Int32) + 1 = 1 from rfl, n0]
  rw [c_evaluateGroup_8, if_pos (show (1 : Int32) < 3 by decide), if_pos (show (1 : Int32) < 40 by decide), gi_sj, S.1, if_pos (show (1 : Int32) < 2 by decide), p_inV (by decide) (by decide), Option.bind_some]
  simp only []
  rw [ev55 _ _ _ _ _ _ _ (by decide), show (1 : Int32) + 1 = 2 from rfl, n1]
  rw [c_evaluateGroup_8, if_pos (show (2 : Int32) < 3 by decide), if_pos (show (2 : Int32) < 40 by decide), gi_sj, gi_sj, S.1, if_neg (show ¬ (2 : Int32) < 2 by decide), show (2 : Int32) - 2 = 0 from rfl]
  rw [gl5 (σ := sj (sj σ 9 0 (frc (lnI (bt l 0)) 0 g)) 9 1 (frc (lnI (bt l 1)) 1 g)) (S.same fun k j _ _ _ _ => by rw [gi_sj, gi_sj]) hK, Option.bind_some]
  simp only []
  rw [ev55 _ _ _ _ _ _ _ (by decide), show (2 : Int32) + 1 = 3 from rfl, n2]
  rw [c_evaluateGroup_8, if_neg (show ¬ (3 : Int32) < 3 by decide)]
  simp [L0, L1, L2, gj_sj]
theorem bi_inj {a b : Bool} : biI a = biI b ↔ a = b := by cases a <;> cases b <;> decide
theorem ow5 {σ : Sg} {K w m : Int32} (S : St5 σ K w m) {k : Nat} (hk : k < 64) : c_outputWordAt (Int32.ofNat k) σ = some (biI (tbL (gj σ 9 2) k), σ) := by
  have e := ti_ofNat (n := k) (by omega)
  have e0 : (0 : Int32).toInt = 0 := rfl
  have e63 : (63 : Int32).toInt = 63 := rfl
  have n0 : nx (0 : Int32) = 0 := rfl
  have l2 : c_loadLane 2 σ = some (gj σ 9 2, σ) := p_laneV (n := 2) (by decide) σ
  unfold c_outputWordAt
  rw [if_neg (by rw [ti_lt]; omega), if_neg (by rw [ti_lt]; omega)]
  rw [c_outputWordAt_16, S.2.2.1, if_pos (show (0 : Int32) < 1 by decide), if_pos (show (0 : Int32) < 8 by decide), if_pos (show inb (0 : Int32) 8 = true by decide), n0, S.2.2.2.2.2.2.2.2, l2, Option.bind_some]
  have hb : XT.cmpL (XT.ushrL (gj σ 9 2) (Int32.ofNat k) &&& 1) 0 = 0 ↔ tbL (gj σ 9 2) k = false := by rw [cmp0]; exact bitL _ hk
  unfold c_outputWordAt_59
  cases ht : tbL (gj σ 9 2) k with
  | false =>
    rw [if_pos (hb.mpr ht)]
    simp only []
    rw [c_outputWordAt_16, S.2.2.1, if_neg (show ¬ (0 : Int32) + 1 < 1 by decide)]; rfl
  | true =>
    rw [if_neg (fun q => by rw [hb, ht] at q; cases q)]
    simp only []
    rw [c_outputWordAt_16, S.2.2.1, if_neg (show ¬ (0 : Int32) + 1 < 1 by decide), show (0 : Int32) ||| ((1 : Int32) <<< ((0 : Int32) &&& 31)) = 1 by decide]; rfl
def misr1 (s : Int32) (b : Bool) (m : Int32) : Int32 := if b = true then (if s &&& 1 = 1 then XT.ushr s 1 ^^^ m else XT.ushr s 1) ^^^ 1 else (if s &&& 1 = 1 then XT.ushr s 1 ^^^ m else XT.ushr s 1)
theorem zmod {w : Int32} : (0 : Int32) % w = 0 := by
  rw [ti_eq, Int32.toInt_mod]; show (0 : Int).tmod _ = 0; exact Int.zero_tmod _
theorem ms5 {σ : Sg} {K w m : Int32} (S : St5 σ K w m) (hw : w ≠ 0) (s : Int32) (b : Bool) : c_misrStep s (biI b) σ = some (misr1 s b m, σ) := by
  have key : ∀ x : Int32, c_misrStep_26 400 (biI b) x 0 σ = some (if b = true then x ^^^ 1 else x, σ) := by
    intro x
    rw [c_misrStep_26, S.2.2.1, if_pos (show (0 : Int32) < 1 by decide), if_pos (show (0 : Int32) < 8 by decide)]
    unfold c_misrStep_65
    cases b with
    | false =>
      rw [if_pos (show XT.ushr (biI false) 0 &&& 1 = 0 by decide), c_misrStep_26, S.2.2.1, if_neg (show ¬ (0 : Int32) + 1 < 1 by decide)]; rfl
    | true =>
      rw [if_neg (show ¬ XT.ushr (biI true) 0 &&& 1 = 0 by decide), S.2.2.2.1, if_neg hw, c_misrStep_26, S.2.2.1, if_neg (show ¬ (0 : Int32) + 1 < 1 by decide), zmod, show (1 : Int32) <<< ((0 : Int32) &&& 31) = 1 by decide]; rfl
  unfold c_misrStep c_misrStep_23 misr1
  rw [S.2.2.2.2.1]
  by_cases q : s &&& 1 = 1
  · rw [if_pos q, key]; simp only [q, if_true]
  · rw [if_neg q, key]; simp only [q, if_false]
/-- what the recording of the faults from f on leaves -/
def Rec5 (f : Nat) (p : Int32) (gb : Bool) (m : Int32) (σ σ' : Sg) : Prop := (∀ k j, k ≠ 6 → k ≠ 7 → k ≠ 8 → gi σ' k j = gi σ k j) ∧ (∀ k j, gj σ' k j = gj σ k j) ∧ (∀ k j, j < f → gi σ' k j = gi σ k j) ∧ ∀ j, f ≤ j → j < 6 → gi σ' 6 j = misr1 (gi σ 6 j) (tbL (gj σ 9 2) j) m ∧ gi σ' 8 j = (if tbL (gj σ 9 2) j = gb then gi σ 8 j else 1) ∧ gi σ' 7 j = (if tbL (gj σ 9 2) j = gb then gi σ 7 j else if gi σ 8 j = 0 then p else gi σ 7 j)
theorem rl5 {K w m : Int32} (hw : w ≠ 0) (p : Int32) (gb : Bool) (k : Nat) : ∀ (fuel f : Nat) (σ : Sg), f + k = 6 → k < fuel → St5 σ K w m → (∀ j, f ≤ j → j < 6 → gi σ 8 j = 0 ∨ gi σ 8 j = 1) → ∃ σ', c_recordGroup_18 fuel (biI gb) p 0 6 (Int32.ofNat f) σ = some σ' ∧ Rec5 f p gb m σ σ' := by
  have e6 : (6 : Int32).toInt = 6 := rfl
  have e0 : (0 : Int32).toInt = 0 := rfl
  have e80 : (80 : Int32).toInt = 80 := rfl
  induction k with
  | zero =>
    intro fuel f σ h1 h2 S hd
    obtain ⟨n, rfl⟩ : ∃ n, fuel = n + 1 := ⟨fuel - 1, by omega⟩
    have ef := ti_ofNat (n := f) (by omega)
    rw [c_recordGroup_18, if_neg (by rw [ti_lt]; omega)]
    exact ⟨σ, rfl, fun _ _ _ _ _ => rfl, fun _ _ => rfl, fun _ _ _ => rfl, fun j a b => by omega⟩
  | succ k ih =>
    intro fuel f σ h1 h2 S hd
    obtain ⟨n, rfl⟩ : ∃ n, fuel = n + 1 := ⟨fuel - 1, by omega⟩
    have ef := ti_ofNat (n := f) (by omega)
    rw [c_recordGroup_18, if_pos (by rw [ti_lt]; omega), if_pos (by rw [ti_lt]; omega), if_neg (by rw [ti_lt]; omega), Int32.sub_zero, ow5 S (by omega), Option.bind_some, if_pos (inbT (by omega) (show (Int32.ofNat f).toInt < ((80 : Nat) : Int) by omega)), nx_ofNat (by omega)]
    simp only []
    rw [ms5 S hw, Option.bind_some]
    simp only [bi_inj]
    unfold c_recordGroup_103
    rw [ofNat_succ]
    have go : ∀ σ1 : Sg, (∀ k j, k ≠ 6 → k ≠ 7 → k ≠ 8 → gi σ1 k j = gi σ k j) → (∀ k j, gj σ1 k j = gj σ k j) → (∀ k j, j ≠ f → gi σ1 k j = gi σ k j) → gi σ1 6 f = misr1 (gi σ 6 f) (tbL (gj σ 9 2) f) m → gi σ1 8 f = (if tbL (gj σ 9 2) f = gb then gi σ 8 f else 1) → gi σ1 7 f = (if tbL (gj σ 9 2) f = gb then gi σ 7 f else if gi σ 8 f = 0 then p else gi σ 7 f) →
        ∃ σ', c_recordGroup_18 n (biI gb) p 0 6 (Int32.ofNat (f + 1)) σ1 = some σ' ∧ Rec5 f p gb m σ σ' := by
      intro σ1 a1 a2 a3 a4 a5 a6
      obtain ⟨σ', q, r1, r2, r3, r4⟩ := ih n (f + 1) σ1 (by omega) (by omega) (S.same fun k j x y z _ => a1 k j x y z) (fun j x y => by rw [a3 8 j (by omega)]; exact hd j (by omega) y)
      refine ⟨σ', q, fun k j x y z => (r1 k j x y z).trans (a1 k j x y z), fun k j => (r2 k j).trans (a2 k j), fun k j x => (r3 k j (by omega)).trans (a3 k j (by omega)), fun j x y => ?_⟩
      by_cases e : j = f
      · subst e
        rw [r3 6 j (by omega), r3 8 j (by omega), r3 7 j (by omega)]
        exact ⟨a4, a5, a6⟩
      · have := r4 j (by omega) y
        rw [a2 9 2, a3 6 j e, a3 8 j e, a3 7 j e] at this
        exact this
    by_cases c : tbL (gj σ 9 2) f = gb
    · rw [if_pos c]
      exact go _ (fun k j x _ _ => by rw [gi_si, if_neg (fun w => x w.1)]) (fun _ _ => rfl) (fun k j x => by rw [gi_si, if_neg (fun w => x w.2)]) (by rw [gi_si, if_pos ⟨rfl, rfl⟩]) (by rw [if_pos c]; simp [gi_si]) (by rw [if_pos c]; simp [gi_si])
    · rw [if_neg c]
      by_cases d : gi σ 8 f = 0
      · rw [if_pos d]
        exact go _ (fun k j x y z => by simp [gi_si, x, y, z]) (fun _ _ => rfl) (fun k j x => by simp [gi_si, x]) (by simp [gi_si]) (by rw [if_neg c]; simp [gi_si]) (by rw [if_neg c, if_pos d]; simp [gi_si])
      · rw [if_neg d]
        have d1 : gi σ 8 f = 1 := (hd f (by omega) (by omega)).resolve_left d
        exact go _ (fun k j x _ _ => by rw [gi_si, if_neg (fun w => x w.1)]) (fun _ _ => rfl) (fun k j x => by rw [gi_si, if_neg (fun w => x w.2)]) (by rw [gi_si, if_pos ⟨rfl, rfl⟩]) (by rw [if_neg c]; simp [gi_si, d1]) (by rw [if_neg c, if_neg d]; simp [gi_si])
/-! LogicBist L3: one gate, two patterns -/
theorem rg5 {K w m : Int32} {σ : Sg} (S : St5 σ K w m) (hw : w ≠ 0) (p : Int32) (gb : Bool) (hd : ∀ j, j < 6 → gi σ 8 j = 0 ∨ gi σ 8 j = 1) : ∃ σ', c_recordGroup 0 (biI gb) p σ = some σ' ∧ Rec5 0 p gb m σ σ' := by
  have hg : ∀ {β : Type} (f : Int32 × Sg → Option β), (c_groupFirst 0 σ).bind f = f ((0 : Int32) <<< ((6 : Int32) &&& 31), σ) := fun f => rfl
  have k0 : (0 : Int32) <<< ((6 : Int32) &&& 31) = 0 := by decide
  have hf : 2 * sc σ = 6 := by unfold sc; rw [S.1, S.2.1]; decide
  have he : c_groupEnd 0 σ = some (6, σ) := by
    unfold c_groupEnd
    rw [hg, k0]
    simp only []
    rw [p_fc, Option.bind_some, hf]
    exact if_pos (show (6 : Int32) < 0 + 64 by decide)
  unfold c_recordGroup
  rw [hg, k0]
  simp only []
  rw [he, Option.bind_some]
  exact rl5 hw p gb 6 400 0 σ (by omega) (by omega) S (fun j _ h => hd j h)
def gB (K l : Int32) : Bool := tbL (L2 K (bt l 0) (bt l 1) (-1)) 0
def fB (K l : Int32) (j : Nat) : Bool := tbL (L2 K (bt l 0) (bt l 1) 0) j
/-- one pattern -/
def Pat5 (K m : Int32) (σ σ' : Sg) : Prop := (∀ k j, k ≠ 6 → k ≠ 7 → k ≠ 8 → (k = 0 → j ≠ 17 ∧ j ≠ 18 ∧ j ≠ 19) → gi σ' k j = gi σ k j) ∧ gi σ' 0 17 = gi σ 0 17 + 1 ∧ gi σ' 0 18 = lstep (gi σ 0 18) ∧ gi σ' 0 19 = misr1 (gi σ 0 19) (gB K (gi σ 0 18)) m ∧ ∀ j, j < 6 → gi σ' 6 j = misr1 (gi σ 6 j) (fB K (gi σ 0 18) j) m ∧ gi σ' 8 j = (if fB K (gi σ 0 18) j = gB K (gi σ 0 18) then gi σ 8 j else 1) ∧ gi σ' 7 j = (if fB K (gi σ 0 18) j = gB K (gi σ 0 18) then gi σ 7 j else if gi σ 8 j = 0 then gi σ 0 17 else gi σ 7 j)
theorem pt5 {K w m : Int32} {σ : Sg} (S : St5 σ K w m) (hK : 0 ≤ K.toInt) (hw : w ≠ 0) (hd : ∀ j, j < 6 → gi σ 8 j = 0 ∨ gi σ 8 j = 1) : ∃ σ', c_applyPattern σ = some σ' ∧ Pat5 K m σ σ' := by
  obtain ⟨s1, hs1⟩ : ∃ s1, s1 = sj (sj (sj σ 9 0 (L0 (bt (gi σ 0 18) 0) (-1))) 9 1 (L1 (bt (gi σ 0 18) 1) (-1))) 9 2 (L2 K (bt (gi σ 0 18) 0) (bt (gi σ 0 18) 1) (-1)) := ⟨_, rfl⟩
  have q1 : c_evaluateGroup (gi σ 0 18) (-1) σ = some s1 := by rw [hs1]; exact ev5 S hK _ _
  have g1 : ∀ k j, gi s1 k j = gi σ k j := fun k j => by rw [hs1, gi_sj, gi_sj, gi_sj]
  have j1 : gj s1 9 2 = L2 K (bt (gi σ 0 18) 0) (bt (gi σ 0 18) 1) (-1) := by rw [hs1, gj_sj, if_pos ⟨rfl, rfl⟩]
  have S1 : St5 s1 K w m := S.same fun k j _ _ _ _ => g1 k j
  have q2 : c_outputWordAt 0 s1 = some (biI (gB K (gi σ 0 18)), s1) := by
    have := ow5 S1 (k := 0) (by decide)
    rw [j1] at this
    exact this
  have q3 := ms5 S1 hw (gi s1 0 19) (gB K (gi σ 0 18))
  obtain ⟨z, hz⟩ : ∃ z, z = misr1 (gi s1 0 19) (gB K (gi σ 0 18)) m := ⟨_, rfl⟩
  rw [← hz] at q3
  obtain ⟨s2, hs2⟩ : ∃ s2, s2 = si s1 0 19 z := ⟨_, rfl⟩
  have g2 : ∀ k j, ¬ (k = 0 ∧ j = 19) → gi s2 k j = gi σ k j := fun k j h => by rw [hs2, gi_si, if_neg h, g1]
  have S2 : St5 s2 K w m := S.same fun k j _ _ _ h => g2 k j fun e => (h e.1).2.2 e.2
  have q4 : c_groupCount s2 = some (1, s2) := by
    unfold c_groupCount
    rw [p_fc, Option.bind_some]
    unfold sc
    rw [S2.1, S2.2.1]
    show some (XT.ushr (2 * ((2 : Int32) + 1) + 63) 6, s2) = _
    rw [show XT.ushr (2 * ((2 : Int32) + 1) + 63) 6 = 1 by decide]
  obtain ⟨s3, hs3⟩ : ∃ s3, s3 = sj (sj (sj s2 9 0 (L0 (bt (gi σ 0 18) 0) 0)) 9 1 (L1 (bt (gi σ 0 18) 1) 0)) 9 2 (L2 K (bt (gi σ 0 18) 0) (bt (gi σ 0 18) 1) 0) := ⟨_, rfl⟩
  have q5 : c_evaluateGroup (gi σ 0 18) 0 s2 = some s3 := by rw [hs3]; exact ev5 S2 hK _ _
  have g3 : ∀ k j, gi s3 k j = gi s2 k j := fun k j => by rw [hs3, gi_sj, gi_sj, gi_sj]
  have j3 : gj s3 9 2 = L2 K (bt (gi σ 0 18) 0) (bt (gi σ 0 18) 1) 0 := by rw [hs3, gj_sj, if_pos ⟨rfl, rfl⟩]
  have S3 : St5 s3 K w m := S2.same fun k j _ _ _ _ => g3 k j
  have g30 : ∀ k j, ¬ (k = 0 ∧ j = 19) → gi s3 k j = gi σ k j := fun k j h => (g3 k j).trans (g2 k j h)
  obtain ⟨s4, q6, r1, r2, -, r4⟩ := rg5 S3 hw (gi σ 0 17) (gB K (gi σ 0 18)) (fun j h => by rw [g30 8 j (by simp)]; exact hd j h)
  have q7 : c_applyPattern_78 (gi σ 0 17) s4 = some (si (si s4 0 17 (gi σ 0 17 + 1)) 0 18 (lstep (gi s4 0 18))) := by
    unfold c_applyPattern_78
    rw [p_lfsr, Option.bind_some]
  refine ⟨si (si s4 0 17 (gi σ 0 17 + 1)) 0 18 (lstep (gi s4 0 18)), ?_, ?_⟩
  · unfold c_applyPattern
    rw [q1, Option.bind_some, q2, Option.bind_some]
    simp only []
    rw [q3, Option.bind_some]
    simp only []
    rw [← hs2, q4, Option.bind_some]
    simp only []
    rw [c_applyPattern_44, if_pos (show (0 : Int32) < 1 by decide), if_pos (show (0 : Int32) < 2 by decide), q5, Option.bind_some, q6, Option.bind_some, c_applyPattern_44, if_neg (show ¬ (0 : Int32) + 1 < 1 by decide)]
    exact q7
  · have h4 : ∀ k j, k ≠ 6 → k ≠ 7 → k ≠ 8 → ¬ (k = 0 ∧ j = 19) → gi s4 k j = gi σ k j := fun k j x y z h => (r1 k j x y z).trans (g30 k j h)
    refine ⟨fun k j x y z h => ?_, ?_, ?_, ?_, fun j hj => ?_⟩
    · rw [gi_si, if_neg (fun e => (h e.1).2.1 e.2), gi_si, if_neg (fun e => (h e.1).1 e.2), h4 k j x y z (fun e => (h e.1).2.2 e.2)]
    · rw [gi_si, if_neg (by simp), gi_si, if_pos ⟨rfl, rfl⟩]
    · rw [gi_si, if_pos ⟨rfl, rfl⟩, h4 0 18 (by decide) (by decide) (by decide) (by simp)]
    · rw [gi_si, if_neg (by simp), gi_si, if_neg (by simp), r1 0 19 (by decide) (by decide) (by decide), g3, hs2, gi_si, if_pos ⟨rfl, rfl⟩, hz, g1]
    · have e : ∀ k, k ≠ 0 → gi (si (si s4 0 17 (gi σ 0 17 + 1)) 0 18 (lstep (gi s4 0 18))) k j = gi s4 k j := fun k hk => by rw [gi_si, if_neg (fun e => hk e.1), gi_si, if_neg (fun e => hk e.1)]
      have t := r4 j (by omega) hj
      rw [j3, g30 6 j (by simp), g30 8 j (by simp), g30 7 j (by simp)] at t
      rw [e 6 (by decide), e 8 (by decide), e 7 (by decide)]
      exact t
theorem run5 {K w m : Int32} {σ : Sg} (S : St5 σ K w m) (hK : 0 ≤ K.toInt) (hw : w ≠ 0) (hd : ∀ j, j < 6 → gi σ 8 j = 0 ∨ gi σ 8 j = 1) : ∃ σ1 σ2, c_run 2 σ = some (gi σ2 0 17, σ2) ∧ Pat5 K m σ σ1 ∧ Pat5 K m σ1 σ2 ∧ St5 σ2 K w m := by
  obtain ⟨σ1, q1, P1⟩ := pt5 S hK hw hd
  have S1 : St5 σ1 K w m := S.same P1.1
  obtain ⟨σ2, q2, P2⟩ := pt5 S1 hK hw (fun j hj => by
    rw [(P1.2.2.2.2 j hj).2.1]
    by_cases c : fB K (gi σ 0 18) j = gB K (gi σ 0 18)
    · rw [if_pos c]; exact hd j hj
    · rw [if_neg c]; exact Or.inr rfl)
  refine ⟨σ1, σ2, ?_, P1, P2, S1.same P2.1⟩
  unfold c_run
  rw [if_neg (show ¬ (2 : Int32) < 1 by decide), if_neg (show ¬ (64 : Int32) < 2 by decide), if_neg (show ¬ gi σ 0 14 = 0 by rw [S.2.2.1]; decide)]
  rw [c_run_24, if_pos (show (0 : Int32) < 2 by decide), if_pos (show (0 : Int32) < 64 by decide), q1, Option.bind_some, c_run_24, if_pos (show (0 : Int32) + 1 < 2 by decide), if_pos (show (0 : Int32) + 1 < 64 by decide), q2, Option.bind_some, c_run_24, if_neg (show ¬ (0 : Int32) + 1 + 1 < 2 by decide)]
theorem misr0 (b : Bool) (m : Int32) : misr1 0 b m = biI b := by
  unfold misr1 biI
  rw [if_neg (show ¬ (0 : Int32) &&& 1 = 1 by decide)]
  cases b <;> decide
theorem misr2 (a b : Bool) (m : Int32) : misr1 (biI a) b m = (if a = true then m else 0) ^^^ biI b := by
  have z : XT.ushr (biI true) 1 = 0 := by decide
  have z' : XT.ushr (biI false) 1 = 0 := by decide
  unfold misr1
  cases a with
  | true =>
    rw [if_pos (show biI true &&& 1 = 1 by decide), z, Int32.zero_xor]
    cases b with
    | false => show m = m ^^^ 0; rw [Int32.xor_zero]
    | true => show m ^^^ 1 = m ^^^ 1; rfl
  | false =>
    rw [if_neg (show ¬ biI false &&& 1 = 1 by decide), z']
    cases b with
    | false => show (0 : Int32) = 0 ^^^ 0; decide
    | true => show (0 : Int32) ^^^ 1 = 0 ^^^ 1; rfl
theorem and1 (x : Int32) : x &&& 1 = 0 ∨ x &&& 1 = 1 := by
  have h := c_and x 1 (by decide)
  have e1 : (1 : Int32).toInt = 1 := rfl
  have e0 : (0 : Int32).toInt = 0 := rfl
  have a := h.1
  have b := h.2
  rcases (show (x &&& 1).toInt = 0 ∨ (x &&& 1).toInt = 1 by omega) with q | q
  · exact Or.inl (ti_eq.mpr q)
  · exact Or.inr (ti_eq.mpr q)
theorem and1b (x : Int32) : x &&& 1 = biI (decide (¬ x &&& 1 = 0)) := by
  rcases and1 x with h | h <;> rw [h] <;> decide
theorem ushr0 (l : Int32) : XT.ushr l 0 = l := by
  unfold XT.ushr
  rw [show ((0 : Int32) &&& 31).toUInt32 = 0 by decide, UInt32.shiftRight_zero]
  rfl
theorem b0 (l : Int32) : l &&& 1 = biI (bt l 0) := by
  unfold bt
  rw [ushr0]
  exact and1b l
theorem b1 (l : Int32) : XT.ushr l 1 &&& 1 = biI (bt l 1) := and1b _
def gF (x a b : Int32) : Int32 := if x = 0 then a &&& b else if x = 1 then a ||| b else if x = 2 then 1 - (a &&& b) else if x = 3 then 1 - (a ||| b) else if x = 4 then a ^^^ b else if x = 5 then 1 - (a ^^^ b) else if x = 6 then 1 - a else a
theorem p_gate (x a b : Int32) (σ : Sg) : q_gate x a b σ = some (gF x a b, σ) := by
  unfold q_gate gF
  split
  · rfl
  split
  · rfl
  split
  · rfl
  split
  · rfl
  split
  · rfl
  split
  · rfl
  split <;> rfl
def oF (K a b f : Int32) : Int32 := if f = 4 ∨ f = 5 then f - 4 else gF K (if f = 0 ∨ f = 1 then f else a) (if f = 2 ∨ f = 3 then f - 2 else b)
theorem p_out (K l f : Int32) (σ : Sg) (hf : f = -1 ∨ f = 0 ∨ f = 1 ∨ f = 2 ∨ f = 3 ∨ f = 4 ∨ f = 5) : q_out K l f σ = some (oF K (l &&& 1) (XT.ushr l 1 &&& 1) f, σ) := by
  unfold q_out q_out_20 q_out_22 q_out_32 q_out_37 q_out_47 oF
  simp only [p_gate, Option.bind_some]
  rcases hf with rfl | rfl | rfl | rfl | rfl | rfl | rfl <;> simp +decide
theorem tabF : ∀ (K : Fin 8) (a b : Bool) (f : Fin 6), oF (Int32.ofNat K.1) (biI a) (biI b) (Int32.ofNat f.1) = biI (tbL (L2 (Int32.ofNat K.1) a b 0) f.1) := by decide +kernel
theorem tabG : ∀ (K : Fin 8) (a b : Bool), oF (Int32.ofNat K.1) (biI a) (biI b) (-1) = biI (tbL (L2 (Int32.ofNat K.1) a b (-1)) 0) := by decide +kernel
theorem po_f {k j : Nat} (hk : k < 8) (hj : j < 6) (l : Int32) (σ : Sg) : q_out (Int32.ofNat k) l (Int32.ofNat j) σ = some (biI (fB (Int32.ofNat k) l j), σ) := by
  have hf : ∀ f : Fin 6, Int32.ofNat f.1 = -1 ∨ Int32.ofNat f.1 = 0 ∨ Int32.ofNat f.1 = 1 ∨ Int32.ofNat f.1 = 2 ∨ Int32.ofNat f.1 = 3 ∨ Int32.ofNat f.1 = 4 ∨ Int32.ofNat f.1 = 5 := by decide +kernel
  rw [p_out _ _ _ _ (hf ⟨j, hj⟩), b0, b1]
  have := tabF ⟨k, hk⟩ (bt l 0) (bt l 1) ⟨j, hj⟩
  simp only [] at this
  rw [this]
  rfl
theorem po_g {k : Nat} (hk : k < 8) (l : Int32) (σ : Sg) : q_out (Int32.ofNat k) l (-1) σ = some (biI (gB (Int32.ofNat k) l), σ) := by
  rw [p_out _ _ _ _ (Or.inl rfl), b0, b1]
  have := tabG ⟨k, hk⟩ (bt l 0) (bt l 1)
  simp only [] at this
  rw [this]
  rfl
theorem bi1 {b : Bool} : biI b = 1 ↔ b = true := by cases b <;> decide
/-! the law's loop -/
theorem tl324 {kk : Int32 → Int32 → Int32 → Int32 → Int32 → Int32 → Int32 → Int32 → Int32 → Int32 → Sg → Option (Int32 × Sg)} {x4 x6 x8 x9 x12 x13 gs x15 x16 x20 v : Int32} {i : Nat} {σ : Sg} (hi : i < 6) (h6 : 2 * sc σ = 6) (hs : gi σ 6 i = x20) (hg : gi σ 0 19 = gs) (hv : (if gi σ 8 i = 0 then -1 else gi σ 7 i) = v) (hv0 : gi σ 8 i = 0 ↔ v < 0) :
    q_law_324 kk x4 x6 x8 x9 x12 x13 gs x15 x16 (Int32.ofNat i) x20 v σ = kk x4 x6 x8 x9 x12 x13 gs x15 x16 (Int32.ofNat (i + 1)) σ := by
  have ei := ti_ofNat (n := i) (by omega)
  have e0 : (0 : Int32).toInt = 0 := rfl
  have e6 : (6 : Int32).toInt = 6 := rfl
  have hin : inb (Int32.ofNat i) 80 = true := inbT (by omega) (show (Int32.ofNat i).toInt < ((80 : Nat) : Int) by omega)
  have f1 : c_isFault (Int32.ofNat i) σ = some (1, σ) := by
    rw [p_isF, h6, if_neg (by rw [ti_lt]; omega), if_pos (by rw [ti_lt]; omega)]
  have f2 : c_getFaultSignature (Int32.ofNat i) σ = some (x20, σ) := by
    unfold c_getFaultSignature
    rw [f1, Option.bind_some, if_neg (show ¬ (1 : Int32) = 0 by decide), if_pos hin, nx_ofNat (by omega), hs]
  have f3 : c_getFirstDetect (Int32.ofNat i) σ = some (v, σ) := by
    unfold c_getFirstDetect
    rw [f1, Option.bind_some, if_neg (show ¬ (1 : Int32) = 0 by decide), p_fdo (by omega) σ, hv, Option.bind_some]
  have f4 : c_isAliased (Int32.ofNat i) σ = some (if v < 0 then 0 else if x20 = gs then 1 else 0, σ) := by
    unfold c_isAliased
    rw [f1, Option.bind_some, if_neg (show ¬ (1 : Int32) = 0 by decide), if_pos hin, nx_ofNat (by omega), hs, hg]
    by_cases h : gi σ 8 i = 0
    · rw [if_pos h, if_pos (hv0.mp h)]
    · rw [if_neg h, if_neg (fun q => h (hv0.mpr q))]
      by_cases d : x20 = gs
      · rw [if_pos d, if_pos d]
      · rw [if_neg d, if_neg d]
  unfold q_law_324
  rw [f2, Option.bind_some, if_pos rfl, f3, Option.bind_some, if_pos rfl, f4, Option.bind_some]
  unfold q_law_375 q_law_376
  rw [← ofNat_succ]
  by_cases c : v < 0
  · rw [if_pos c, if_pos c, if_pos rfl]
  · rw [if_neg c, if_neg c]
    by_cases d : x20 = gs
    · rw [if_pos d, if_pos d, if_pos rfl]
    · rw [if_neg d, if_neg d, if_pos rfl]
theorem tl306 {kk : Int32 → Int32 → Int32 → Int32 → Int32 → Int32 → Int32 → Int32 → Int32 → Int32 → Sg → Option (Int32 × Sg)} {x4 x6 x8 x9 x12 x13 gs x20 v : Int32} {i : Nat} {σ : Sg} (hi : i < 6) (h6 : 2 * sc σ = 6) (hs : gi σ 6 i = x20) (hg : gi σ 0 19 = gs) (hv : (v = -1 ∧ gi σ 8 i = 0) ∨ (v = 0 ∧ gi σ 8 i = 1 ∧ gi σ 7 i = 0) ∨ (v = 1 ∧ gi σ 8 i = 1 ∧ gi σ 7 i = 1)) :
    q_law_306 kk x4 x6 x8 x9 x12 x13 gs (Int32.ofNat (cntF (fun f => decide (gi σ 8 f ≠ 0)) i)) (Int32.ofNat (cntF (cvB σ 0) i)) (Int32.ofNat i) x20 v σ = kk x4 x6 x8 x9 x12 x13 gs (Int32.ofNat (cntF (fun f => decide (gi σ 8 f ≠ 0)) (i + 1))) (Int32.ofNat (cntF (cvB σ 0) (i + 1))) (Int32.ofNat (i + 1)) σ := by
  unfold q_law_306 q_law_316
  rcases hv with ⟨rfl, h8⟩ | ⟨rfl, h8, h7⟩ | ⟨rfl, h8, h7⟩
  · rw [if_pos (show (-1 : Int32) < 0 by decide), if_neg (show ¬ (-1 : Int32) = 0 by decide), tl324 hi h6 hs hg (by rw [if_pos h8]) ⟨fun _ => by decide, fun _ => h8⟩]
    rw [show cntF (fun f => decide (gi σ 8 f ≠ 0)) (i + 1) = cntF (fun f => decide (gi σ 8 f ≠ 0)) i by simp [cntF, h8], show cntF (cvB σ 0) (i + 1) = cntF (cvB σ 0) i by simp [cntF, cvB, h8]]
  · have hz : ¬ gi σ 8 i = 0 := by rw [h8]; decide
    have hz7 : ¬ gi σ 7 i < 0 := by rw [h7]; decide
    have hp : ¬ 0 < gi σ 7 i := by rw [h7]; decide
    rw [if_neg (show ¬ (0 : Int32) < 0 by decide), if_pos (show (0 : Int32) = 0 from rfl), tl324 hi h6 hs hg (by rw [if_neg hz]; exact h7) ⟨fun q => absurd q hz, fun q => absurd q (by decide)⟩]
    rw [show cntF (fun f => decide (gi σ 8 f ≠ 0)) (i + 1) = cntF (fun f => decide (gi σ 8 f ≠ 0)) i + 1 by simp [cntF, hz], show cntF (cvB σ 0) (i + 1) = cntF (cvB σ 0) i + 1 by simp [cntF, cvB, hz, hz7, hp], ofNat_succ, ofNat_succ]
  · have hz : ¬ gi σ 8 i = 0 := by rw [h8]; decide
    have hz7 : ¬ gi σ 7 i < 0 := by rw [h7]; decide
    have hp : 0 < gi σ 7 i := by rw [h7]; decide
    rw [if_neg (show ¬ (1 : Int32) < 0 by decide), if_neg (show ¬ (1 : Int32) = 0 by decide), tl324 hi h6 hs hg (by rw [if_neg hz]; exact h7) ⟨fun q => absurd q hz, fun q => absurd q (by decide)⟩]
    rw [show cntF (fun f => decide (gi σ 8 f ≠ 0)) (i + 1) = cntF (fun f => decide (gi σ 8 f ≠ 0)) i + 1 by simp [cntF, hz], show cntF (cvB σ 0) (i + 1) = cntF (cvB σ 0) i by simp [cntF, cvB, hz, hz7, hp], ofNat_succ]
theorem lp5 {k0 : Nat} (hk0 : k0 < 8) {m l0 l1 gs : Int32} {σ : Sg} (H : LOk σ) (h3 : scN σ = 3) (h6 : 2 * sc σ = 6) (hg : gi σ 0 19 = gs)
    (hf : ∀ j, j < 6 → gi σ 6 j = ((if fB (Int32.ofNat k0) l0 j = true then m else 0) ^^^ biI (fB (Int32.ofNat k0) l1 j)) ∧ ((fB (Int32.ofNat k0) l0 j = gB (Int32.ofNat k0) l0 ∧ fB (Int32.ofNat k0) l1 j = gB (Int32.ofNat k0) l1 ∧ gi σ 8 j = 0) ∨ (¬ fB (Int32.ofNat k0) l0 j = gB (Int32.ofNat k0) l0 ∧ gi σ 8 j = 1 ∧ gi σ 7 j = 0) ∨ (fB (Int32.ofNat k0) l0 j = gB (Int32.ofNat k0) l0 ∧ ¬ fB (Int32.ofNat k0) l1 j = gB (Int32.ofNat k0) l1 ∧ gi σ 8 j = 1 ∧ gi σ 7 j = 1))) (k : Nat) :
    ∀ (fuel i : Nat), i + k = 6 → k < fuel → ∃ σ', q_law_237 fuel (Int32.ofNat k0) m l0 l1 (biI (gB (Int32.ofNat k0) l0)) (biI (gB (Int32.ofNat k0) l1)) gs (Int32.ofNat (cntF (fun f => decide (gi σ 8 f ≠ 0)) i)) (Int32.ofNat (cntF (cvB σ 0) i)) (Int32.ofNat i) σ = some (1, σ') := by
  have e6 : (6 : Int32).toInt = 6 := rfl
  induction k with
  | zero =>
    intro fuel i h1 h2
    obtain ⟨n, rfl⟩ : ∃ n, fuel = n + 1 := ⟨fuel - 1, by omega⟩
    have : i = 6 := by omega
    subst this
    have d1 := p_det H
    have d2 := p_cov H 0
    rw [h3] at d1 d2
    rw [if_neg (show ¬ (0 : Int32) < 0 by decide)] at d2
    have d3 : c_getFaultCount σ = some (6, σ) := by rw [p_gfc, h6]
    rw [q_law_237, if_neg (show ¬ Int32.ofNat 6 < 6 by decide), d1, Option.bind_some, if_pos rfl, d2, Option.bind_some, if_pos rfl, d3, Option.bind_some, if_pos rfl]
    exact ⟨σ, rfl⟩
  | succ k ih =>
    intro fuel i h1 h2
    obtain ⟨n, rfl⟩ : ∃ n, fuel = n + 1 := ⟨fuel - 1, by omega⟩
    have ei := ti_ofNat (n := i) (by omega)
    have fin : ∀ t : Int32, t = (if fB (Int32.ofNat k0) l0 i = true then m else 0) → ∃ σ', q_law_278 (q_law_237 n) (Int32.ofNat k0) m l0 l1 (biI (gB (Int32.ofNat k0) l0)) (biI (gB (Int32.ofNat k0) l1)) gs (Int32.ofNat (cntF (fun f => decide (gi σ 8 f ≠ 0)) i)) (Int32.ofNat (cntF (cvB σ 0) i)) (Int32.ofNat i) (biI (fB (Int32.ofNat k0) l0 i)) (biI (fB (Int32.ofNat k0) l1 i)) t σ = some (1, σ') := by
      intro t ht
      obtain ⟨a6, ac⟩ := hf i (by omega)
      rw [← ht] at a6
      unfold q_law_278
      rcases ac with ⟨c0, c1, c8⟩ | ⟨c0, c8, c7⟩ | ⟨c0, c1, c8, c7⟩
      · rw [if_pos (bi_inj.mpr c0), if_pos (bi_inj.mpr c1), tl306 (by omega) h6 a6 hg (Or.inl ⟨rfl, c8⟩)]
        exact ih n (i + 1) (by omega) (by omega)
      · rw [if_neg (fun q => c0 (bi_inj.mp q)), tl306 (by omega) h6 a6 hg (Or.inr (Or.inl ⟨rfl, c8, c7⟩))]
        exact ih n (i + 1) (by omega) (by omega)
      · rw [if_pos (bi_inj.mpr c0), if_neg (fun q => c1 (bi_inj.mp q)), tl306 (by omega) h6 a6 hg (Or.inr (Or.inr ⟨rfl, c8, c7⟩))]
        exact ih n (i + 1) (by omega) (by omega)
    rw [q_law_237, if_pos (by rw [ti_lt]; omega), po_f hk0 (by omega), Option.bind_some, po_f hk0 (by omega), Option.bind_some]
    by_cases t0 : fB (Int32.ofNat k0) l0 i = true
    · rw [if_pos (bi1.mpr t0)]
      exact fin m (by rw [if_pos t0])
    · rw [if_neg (fun q => t0 (bi1.mp q))]
      exact fin 0 (by rw [if_neg t0])
/-! the making -/
def T5 (a b c : Int32) (σ : Sg) : Sg := si (si (si (si (si (si (si (si (si (si σ 1 0 a) 2 0 b) 3 0 c) 0 13 1) 6 4 0) 7 4 (-1)) 8 4 0) 6 5 0) 7 5 (-1)) 8 5 0
theorem ap5 {σ : Sg} (h9 : gi σ 0 9 = 2) (h13 : gi σ 0 13 = 0) (a b c : Int32) : c_appendGate a b c σ = some (2, T5 a b c σ) := by
  have n0 : nx (0 : Int32) = 0 := rfl
  have n4 : nx (4 : Int32) = 4 := rfl
  have n5 : nx (5 : Int32) = 5 := rfl
  have z1 : (2 : Int32) * (2 + 0) = 4 := by decide
  have z2 : (4 : Int32) + 1 = 5 := by decide
  have z3 : (0 : Int32) + 1 = 1 := by decide
  have z4 : (2 : Int32) + 0 = 2 := by decide
  unfold c_appendGate T5
  rw [h13, h9, if_neg (show ¬ (0 : Int32) < 0 by decide), if_pos (show (0 : Int32) < 32 by decide), if_pos (show inb (0 : Int32) 32 = true by decide), z1, z2, z3, n0, p_reset (x := 4) _ (by decide) (by decide), Option.bind_some, p_reset (x := 5) _ (by decide) (by decide), Option.bind_some, n4, n5, z4]
theorem T5_at (a b c : Int32) (σ : Sg) (k j : Nat) (h : ¬ (k = 0 ∧ j = 13)) (h1 : k ≠ 1) (h2 : k ≠ 2) (h3 : k ≠ 3) (h6 : k ≠ 6) (h7 : k ≠ 7) (h8 : k ≠ 8) : gi (T5 a b c σ) k j = gi σ k j := by
  unfold T5
  rw [gi_si, if_neg (fun e => h8 e.1), gi_si, if_neg (fun e => h7 e.1), gi_si, if_neg (fun e => h6 e.1), gi_si, if_neg (fun e => h8 e.1), gi_si, if_neg (fun e => h7 e.1), gi_si, if_neg (fun e => h6 e.1), gi_si, if_neg h, gi_si, if_neg (fun e => h3 e.1), gi_si, if_neg (fun e => h2 e.1), gi_si, if_neg (fun e => h1 e.1)]
theorem T5_f (a b c : Int32) {σ : Sg} {j : Nat} (h : gi σ 6 j = 0 ∧ gi σ 7 j = -1 ∧ gi σ 8 j = 0) : gi (T5 a b c σ) 6 j = 0 ∧ gi (T5 a b c σ) 7 j = -1 ∧ gi (T5 a b c σ) 8 j = 0 := by
  obtain ⟨a6, a7, a8⟩ := h
  unfold T5
  refine ⟨?_, ?_, ?_⟩ <;> simp [gi_si, a6, a7, a8]
theorem ag5 {σ : Sg} {K : Int32} (hK : 0 ≤ K.toInt) (hK7 : K.toInt ≤ 7) (h9 : gi σ 0 9 = 2) (h10 : gi σ 0 10 = 8) (h13 : gi σ 0 13 = 0) (h17 : gi σ 0 17 = 0) : c_addGate K 0 1 σ = some (2, T5 K 0 (if 5 < K then 0 else 1) σ) := by
  have e0 : (0 : Int32).toInt = 0 := rfl
  have e7 : (7 : Int32).toInt = 7 := rfl
  have k0 : ¬ K < 0 := by rw [ti_lt]; omega
  have k7 : ¬ 7 < K := by rw [ti_lt]; omega
  have kk : c_isGateKind K σ = some (1, σ) := by rw [p_kind, if_neg k0, if_neg k7]
  have hsc : sc σ = 2 := by unfold sc; rw [h9, h13]; decide
  have s0 : c_isSignal 0 σ = some (1, σ) := by rw [p_isS, hsc, if_neg (show ¬ (0 : Int32) < 0 by decide), if_pos (show (0 : Int32) < 2 by decide)]
  have s1 : c_isSignal 1 σ = some (1, σ) := by rw [p_isS, hsc, if_neg (show ¬ (1 : Int32) < 0 by decide), if_pos (show (1 : Int32) < 2 by decide)]
  unfold c_addGate
  rw [h17, if_neg (show ¬ (0 : Int32) < 0 by decide), h13, h10, if_pos (show (0 : Int32) < 8 by decide), kk, Option.bind_some, if_neg (show ¬ (1 : Int32) = 0 by decide), s0, Option.bind_some, if_neg (show ¬ (1 : Int32) = 0 by decide)]
  by_cases q : 5 < K
  · have kt : c_isTwoOperand K σ = some (0, σ) := by rw [p_two, if_neg k0, if_pos q]
    rw [kt, Option.bind_some, if_pos rfl, if_pos q]
    unfold c_addGate_64 c_addGate_77
    rw [if_pos rfl, ap5 h9 h13, Option.bind_some]
  · have kt : c_isTwoOperand K σ = some (1, σ) := by rw [p_two, if_neg k0, if_neg q]
    rw [kt, Option.bind_some, if_neg (show ¬ (1 : Int32) = 0 by decide), s1, Option.bind_some, if_neg (show ¬ (1 : Int32) = 0 by decide), if_neg q]
    unfold c_addGate_64 c_addGate_77
    rw [if_neg (show ¬ (1 : Int32) = 0 by decide), ap5 h9 h13, Option.bind_some]
/-- behind the seed -/
def Ini5 (σ : Sg) (w wm l : Int32) : Prop := gi σ 0 9 = 2 ∧ gi σ 0 10 = 8 ∧ gi σ 0 11 = w ∧ gi σ 0 12 = wm ∧ gi σ 0 13 = 0 ∧ gi σ 0 14 = 0 ∧ gi σ 0 17 = 0 ∧ gi σ 0 18 = l ∧ gi σ 0 19 = 0 ∧ (∀ j, gi σ 5 j = 0) ∧ ∀ j, j < 6 → gi σ 6 j = 0 ∧ gi σ 7 j = -1 ∧ gi σ 8 j = 0
theorem l102 {σ : Sg} {w wm l0 x3 s : Int32} {k0 : Nat} (hk0 : k0 < 8) (A : Ini5 σ w wm l0) (hw1 : 1 ≤ w.toInt) (hw2 : w.toInt ≤ 16) : ∃ σ', q_law_102 x3 (Int32.ofNat k0) (x3 &&& wm) l0 (lstep l0) (lstep (lstep l0)) s s σ = some (1, σ') := by
  obtain ⟨a9, a10, a11, a12, a13, a14, a17, a18, a19, a5, af⟩ := A
  have e0 : (0 : Int32).toInt = 0 := rfl
  have e1 : (1 : Int32).toInt = 1 := rfl
  have e2 : (2 : Int32).toInt = 2 := rfl
  have eK := ti_ofNat (n := k0) (by omega)
  have hw : w ≠ 0 := fun q => by rw [q] at hw1; omega
  obtain ⟨s2, hs2⟩ : ∃ s2, s2 = si σ 0 16 (x3 &&& wm) := ⟨_, rfl⟩
  have g2 : ∀ k j, ¬ (k = 0 ∧ j = 16) → gi s2 k j = gi σ k j := fun k j h => by rw [hs2, gi_si, if_neg h]
  have m2 : gi s2 0 16 = x3 &&& wm := by rw [hs2, gi_si, if_pos ⟨rfl, rfl⟩]
  have q1 : c_setMisrMask x3 σ = some (1, s2) := by rw [p_mask, a17, if_neg (show ¬ (0 : Int32) < 0 by decide), hs2, a12]
  obtain ⟨s3, hs3⟩ : ∃ s3, s3 = T5 (Int32.ofNat k0) 0 (if 5 < Int32.ofNat k0 then 0 else 1) s2 := ⟨_, rfl⟩
  have q2 : c_addGate (Int32.ofNat k0) 0 1 s2 = some (2, s3) := by
    rw [hs3]
    exact ag5 (by omega) (by omega) (by rw [g2 0 9 (by simp)]; exact a9) (by rw [g2 0 10 (by simp)]; exact a10) (by rw [g2 0 13 (by simp)]; exact a13) (by rw [g2 0 17 (by simp)]; exact a17)
  have g3 : ∀ j, j ≠ 13 → j ≠ 16 → gi s3 0 j = gi σ 0 j := fun j x y => by
    rw [hs3, T5_at _ _ _ _ 0 j (fun e => x e.2) (by decide) (by decide) (by decide) (by decide) (by decide) (by decide), g2 0 j (fun e => y e.2)]
  have m3 : gi s3 0 16 = x3 &&& wm := by
    rw [hs3, T5_at _ _ _ _ 0 16 (by simp) (by decide) (by decide) (by decide) (by decide) (by decide) (by decide), m2]
  have g313 : gi s3 0 13 = 1 := by rw [hs3]; unfold T5; simp [gi_si]
  have g31 : gi s3 1 0 = Int32.ofNat k0 := by rw [hs3]; unfold T5; simp [gi_si]
  have g32 : gi s3 2 0 = 0 := by rw [hs3]; unfold T5; simp [gi_si]
  have g33 : gi s3 3 0 = (if 5 < Int32.ofNat k0 then 0 else 1) := by rw [hs3]; unfold T5; simp [gi_si]
  have g35 : ∀ j, gi s3 5 j = 0 := fun j => by
    rw [hs3, T5_at _ _ _ _ 5 j (by simp) (by decide) (by decide) (by decide) (by decide) (by decide) (by decide), g2 5 j (by simp)]; exact a5 j
  have f3 : ∀ j, j < 6 → gi s3 6 j = 0 ∧ gi s3 7 j = -1 ∧ gi s3 8 j = 0 := fun j hj => by
    rw [hs3]
    refine T5_f _ _ _ ?_
    rw [g2 6 j (by simp), g2 7 j (by simp), g2 8 j (by simp)]
    exact af j hj
  have H3 : LOk s3 := by
    unfold LOk
    rw [g3 9 (by decide) (by decide), g313, g3 14 (by decide) (by decide), g3 11 (by decide) (by decide), a9, a14, a11]
    exact ⟨by omega, by omega, by omega, by omega, by omega, by omega, hw1, hw2⟩
  have sc3 : sc s3 = 3 := by unfold sc; rw [g3 9 (by decide) (by decide), g313, a9]; decide
  obtain ⟨s4, hs4⟩ : ∃ s4, s4 = si (si (si s3 5 2 1) 4 0 2) 0 14 1 := ⟨_, rfl⟩
  have q3 : c_markOutput 2 s3 = some (1, s4) := by
    rw [p_mark H3, if_pos (okM_iff.mpr ⟨by rw [g3 17 (by decide) (by decide), a17]; decide, by rw [g3 14 (by decide) (by decide), a14]; decide, by decide, by rw [sc3]; decide, g35 _⟩), g3 14 (by decide) (by decide), a14, hs4]
    rfl
  have g4 : ∀ k j, k ≠ 5 → k ≠ 4 → ¬ (k = 0 ∧ j = 14) → gi s4 k j = gi s3 k j := fun k j x y z => by
    rw [hs4, gi_si, if_neg z, gi_si, if_neg (fun e => y e.1), gi_si, if_neg (fun e => x e.1)]
  have S4 : St5 s4 (Int32.ofNat k0) w (x3 &&& wm) := by
    refine ⟨?_, ?_, ?_, ?_, ?_, ?_, ?_, fun q => ?_, ?_⟩
    · rw [g4 0 9 (by decide) (by decide) (by simp), g3 9 (by decide) (by decide)]; exact a9
    · rw [g4 0 13 (by decide) (by decide) (by simp)]; exact g313
    · rw [hs4, gi_si, if_pos ⟨rfl, rfl⟩]
    · rw [g4 0 11 (by decide) (by decide) (by simp), g3 11 (by decide) (by decide)]; exact a11
    · rw [g4 0 16 (by decide) (by decide) (by simp)]; exact m3
    · rw [g4 1 0 (by decide) (by decide) (by simp)]; exact g31
    · rw [g4 2 0 (by decide) (by decide) (by simp)]; exact g32
    · rw [g4 3 0 (by decide) (by decide) (by simp), g33, if_neg q]
    · rw [hs4, gi_si, if_neg (by simp), gi_si, if_pos ⟨rfl, rfl⟩]
  have f4 : ∀ j, j < 6 → gi s4 6 j = 0 ∧ gi s4 7 j = -1 ∧ gi s4 8 j = 0 := fun j hj => by
    rw [g4 6 j (by decide) (by decide) (by simp), g4 7 j (by decide) (by decide) (by simp), g4 8 j (by decide) (by decide) (by simp)]
    exact f3 j hj
  have b17 : gi s4 0 17 = 0 := by rw [g4 0 17 (by decide) (by decide) (by simp), g3 17 (by decide) (by decide)]; exact a17
  have b18 : gi s4 0 18 = l0 := by rw [g4 0 18 (by decide) (by decide) (by simp), g3 18 (by decide) (by decide)]; exact a18
  have b19 : gi s4 0 19 = 0 := by rw [g4 0 19 (by decide) (by decide) (by simp), g3 19 (by decide) (by decide)]; exact a19
  obtain ⟨s5, s6, q4, ⟨-, u17, u18, u19, uf⟩, ⟨-, v17, v18, v19, vf⟩, S6⟩ := run5 S4 (by omega) hw (fun j hj => Or.inl (f4 j hj).2.2)
  rw [b17] at u17
  rw [b18] at u18 u19
  rw [b19, misr0] at u19
  rw [u17] at v17
  rw [u18] at v18 v19
  rw [u19, misr2] at v19
  have w17 : gi s6 0 17 = 2 := by rw [v17]; decide
  rw [w17] at q4
  have q5 : c_getPatternCount s6 = some (2, s6) := by unfold c_getPatternCount; rw [w17]
  have q6 : c_getLfsrState s6 = some (lstep (lstep l0), s6) := by unfold c_getLfsrState; rw [v18]
  have q7 : c_getGoldenSignature s6 = some ((if gB (Int32.ofNat k0) l0 = true then x3 &&& wm else 0) ^^^ biI (gB (Int32.ofNat k0) (lstep l0)), s6) := by unfold c_getGoldenSignature; rw [v19]
  have H6 : LOk s6 := by
    unfold LOk
    rw [S6.1, S6.2.1, S6.2.2.1, S6.2.2.2.1]
    exact ⟨by omega, by omega, by omega, by omega, by omega, by omega, hw1, hw2⟩
  have sn6 : scN s6 = 3 := by unfold scN; rw [S6.1, S6.2.1]; rfl
  have sc6 : 2 * sc s6 = 6 := by unfold sc; rw [S6.1, S6.2.1]; decide
  have hfin : ∀ j, j < 6 → gi s6 6 j = ((if fB (Int32.ofNat k0) l0 j = true then x3 &&& wm else 0) ^^^ biI (fB (Int32.ofNat k0) (lstep l0) j)) ∧ ((fB (Int32.ofNat k0) l0 j = gB (Int32.ofNat k0) l0 ∧ fB (Int32.ofNat k0) (lstep l0) j = gB (Int32.ofNat k0) (lstep l0) ∧ gi s6 8 j = 0) ∨ (¬ fB (Int32.ofNat k0) l0 j = gB (Int32.ofNat k0) l0 ∧ gi s6 8 j = 1 ∧ gi s6 7 j = 0) ∨ (fB (Int32.ofNat k0) l0 j = gB (Int32.ofNat k0) l0 ∧ ¬ fB (Int32.ofNat k0) (lstep l0) j = gB (Int32.ofNat k0) (lstep l0) ∧ gi s6 8 j = 1 ∧ gi s6 7 j = 1)) := by
    intro j hj
    obtain ⟨p6, p8, p7⟩ := uf j hj
    obtain ⟨r6, r8, r7⟩ := vf j hj
    obtain ⟨z6, z7, z8⟩ := f4 j hj
    rw [b18] at p6 p8 p7
    rw [z6, misr0] at p6
    rw [z8] at p8 p7
    rw [b17, z7, if_pos (show (0 : Int32) = 0 from rfl)] at p7
    rw [u18] at r6 r8 r7
    rw [u17] at r7
    rw [p6, misr2] at r6
    refine ⟨r6, ?_⟩
    by_cases c0 : fB (Int32.ofNat k0) l0 j = gB (Int32.ofNat k0) l0
    · rw [if_pos c0] at p8 p7
      by_cases c1 : fB (Int32.ofNat k0) (lstep l0) j = gB (Int32.ofNat k0) (lstep l0)
      · rw [if_pos c1] at r8
        exact Or.inl ⟨c0, c1, r8.trans p8⟩
      · rw [if_neg c1] at r8 r7
        rw [if_pos p8] at r7
        exact Or.inr (Or.inr ⟨c0, c1, r8, r7.trans (by decide)⟩)
    · rw [if_neg c0] at p8 p7
      refine Or.inr (Or.inl ⟨c0, ?_⟩)
      by_cases c1 : fB (Int32.ofNat k0) (lstep l0) j = gB (Int32.ofNat k0) (lstep l0)
      · rw [if_pos c1] at r8 r7
        exact ⟨r8.trans p8, r7.trans p7⟩
      · rw [if_neg c1] at r8 r7
        rw [if_neg (show ¬ gi s5 8 j = 0 by rw [p8]; decide)] at r7
        exact ⟨r8, r7.trans p7⟩
  have fin : ∀ t : Int32, t = (if gB (Int32.ofNat k0) l0 = true then x3 &&& wm else 0) → ∃ σ', q_law_211 (Int32.ofNat k0) (x3 &&& wm) l0 (lstep l0) (biI (gB (Int32.ofNat k0) l0)) (biI (gB (Int32.ofNat k0) (lstep l0))) t s6 = some (1, σ') := by
    intro t ht
    rw [← ht] at q7 v19
    unfold q_law_211
    rw [q7, Option.bind_some, if_pos rfl]
    exact lp5 hk0 H6 sn6 sc6 v19 hfin 6 400 0 (by omega) (by omega)
  unfold q_law_102
  rw [if_pos rfl, q1, Option.bind_some, if_neg (show ¬ (1 : Int32) = 0 by decide), q2, Option.bind_some, if_pos rfl, q3, Option.bind_some, if_neg (show ¬ (1 : Int32) = 0 by decide), q4, Option.bind_some, if_pos rfl, q5, Option.bind_some, if_pos rfl, q6, Option.bind_some, if_pos rfl, po_g hk0, Option.bind_some, po_g hk0, Option.bind_some]
  by_cases t0 : gB (Int32.ofNat k0) l0 = true
  · rw [if_pos (bi1.mpr t0)]
    exact fin _ (by rw [if_pos t0])
  · rw [if_neg (fun q => t0 (bi1.mp q))]
    exact fin _ (by rw [if_neg t0])
theorem p_qstep (l : Int32) (σ : Sg) : q_step l σ = some (lstep l, σ) := by
  unfold q_step lstep
  split <;> rfl
theorem law_true (x0 x1 x2 x3 : Int32) : ∃ σ, q_law x0 x1 x2 x3 = some (1, σ) := by
  have e0 : (0 : Int32).toInt = 0 := rfl
  have e1 : (1 : Int32).toInt = 1 := rfl
  have e7 : (7 : Int32).toInt = 7 := rfl
  have e16 : (16 : Int32).toInt = 16 := rfl
  have hl : q_law x0 x1 x2 x3 = q_law_27 x0 x2 x3 (x1 &&& 7) (cl x2 1 16) zs := by
    unfold q_law cl
    by_cases a : x2 < 1
    · rw [if_pos a, if_pos a]
    · rw [if_neg a, if_neg a]
      by_cases b : 16 < x2
      · rw [if_pos b, if_pos b]
      · rw [if_neg b, if_neg b]
  obtain ⟨k0, hk0, hK⟩ : ∃ k0, k0 < 8 ∧ x1 &&& 7 = Int32.ofNat k0 := by
    have h := c_and x1 7 (by decide)
    have h1 := h.1
    have h2 := h.2
    exact ⟨nx (x1 &&& 7), by unfold nx; omega, (ofNat_nx h1).symm⟩
  rw [hl, hK]
  have hb := cl_bd (x := x2) (lo := 1) (hi := 16) (by decide)
  obtain ⟨σ, qi, f9, f10, f11, f12, f13, f14, f15, f16, f17, f18, f19, fk, fj, ff⟩ := p_init 2 8 x2
  have c2 : cl 2 1 8 = 2 := by decide
  have c8 : cl 8 8 32 = 8 := by decide
  rw [c2] at f9
  rw [c8] at f10
  unfold q_law_27 q_law_57
  simp only [p_qstep, Option.bind_some]
  by_cases z : x0 &&& 65535 = 0
  · rw [if_pos z, qi, Option.bind_some, p_seed, f17, if_neg (show ¬ (0 : Int32) < 0 by decide), if_pos z, Option.bind_some, if_pos z]
    exact l102 hk0 ⟨f9, f10, f11, f12, f13, f14, f17, f18, f19, fun j => fk 5 j (by decide) (by decide), fun j hj => ff j (by omega)⟩ (by omega) (by omega)
  · rw [if_neg z, qi, Option.bind_some, p_seed, f17, if_neg (show ¬ (0 : Int32) < 0 by decide), if_neg z, Option.bind_some, if_neg z]
    refine l102 (w := cl x2 1 16) hk0 ⟨?_, ?_, ?_, ?_, ?_, ?_, ?_, ?_, ?_, fun j => ?_, fun j hj => ?_⟩ (by omega) (by omega)
    · rw [gi_si, if_neg (by simp), gi_si, if_neg (by simp)]; exact f9
    · rw [gi_si, if_neg (by simp), gi_si, if_neg (by simp)]; exact f10
    · rw [gi_si, if_neg (by simp), gi_si, if_neg (by simp)]; exact f11
    · rw [gi_si, if_neg (by simp), gi_si, if_neg (by simp)]; exact f12
    · rw [gi_si, if_neg (by simp), gi_si, if_neg (by simp)]; exact f13
    · rw [gi_si, if_neg (by simp), gi_si, if_neg (by simp)]; exact f14
    · rw [gi_si, if_neg (by simp), gi_si, if_neg (by simp)]; exact f17
    · rw [gi_si, if_pos ⟨rfl, rfl⟩]
    · rw [gi_si, if_neg (by simp), gi_si, if_neg (by simp)]; exact f19
    · rw [gi_si, if_neg (by simp), gi_si, if_neg (by simp)]; exact fk 5 j (by decide) (by decide)
    · rw [gi_si, if_neg (by simp), gi_si, if_neg (by simp), gi_si, if_neg (by simp), gi_si, if_neg (by simp), gi_si, if_neg (by simp), gi_si, if_neg (by simp)]
      exact ff j (by omega)
set_option maxRecDepth 65536 in
set_option maxHeartbeats 40000000 in
theorem comes_1 {Post : Tables → Env → Array Value → State → Outcome → State → Prop} (hpost : ∀ tb e args s v u, (limb_1_1.after args s (.returned v) u = true ∧ limb_1_2.after args s (.returned v) u = true ∧ True) → FrameEnd s (.returned v) u (Jvm.fieldLocs frame_1_writes args s ++ Jvm.arrayLocs frame_1_arrays args s ++ Jvm.staticLocs frame_1_statics s) 32 960 → Post tb e args s (.returned v) u) :
    ArmFor flags0 classFile x code maxLocals ret World_1 tables_1 room_1 Calls_1 rest_1 Pre_1 Post := by
  intro l hfl _ _ p e ha hc hk s m args below hf hA hF happ hP
  obtain ⟨hcalls, hrest, hpre⟩ := hP
  obtain ⟨-, -, -, hnamed, -, -, -, hat⟩ := (Spec.applies_iff hf).mp happ
  obtain ⟨hg, hn⟩ := and_e (Cond.before_iff.mp (show (Jvm.Cond.and given_1 narrow_1).before args s = true from hpre))
  obtain ⟨g0, g1⟩ := and_e hg
  obtain ⟨w0, w1, w2, w3, rfl⟩ : ∃ w0 w1 w2 w3 : Value, args = #[w0, w1, w2, w3] := by
    have hs : args.size = 4 := by simpa [Cond.value, given_1] using g0
    obtain ⟨L⟩ := args
    match L, hs with
    | [w0, w1, w2, w3], _ => exact ⟨w0, w1, w2, w3, rfl⟩
  have hw : WH _ s := fun d (hd : d ∈ tables_1) => atoms_spec (ws := Jvm.Cond.code x code maxLocals ret :: tables_1) hat d (List.mem_cons_of_mem _ hd)
  have hfit : Fit s := fun {y c} hc i hi => by
    obtain ⟨ha, rfl⟩ := Array.getElem?_eq_some_iff.mp hc
    have q := List.all_eq_true.mp ((Array.all_eq_true_iff_forall_mem.mp hF) _ (Array.getElem_mem ha)) i (List.mem_range.mpr hi)
    simpa [Array.getElem?_eq_getElem hi] using q
  obtain ⟨q0, r0⟩ := and_e g1
  obtain ⟨i0, e0⟩ := is_v q0
  obtain rfl : w0 = (.int i0) := Option.some.inj e0
  obtain ⟨q1, r1⟩ := and_e r0
  obtain ⟨i1, e1⟩ := is_v q1
  obtain rfl : w1 = (.int i1) := Option.some.inj e1
  obtain ⟨q2, r2⟩ := and_e r1
  obtain ⟨i2, e2⟩ := is_v q2
  obtain rfl : w2 = (.int i2) := Option.some.inj e2
  obtain ⟨i3, e3⟩ := is_v r2
  obtain rfl : w3 = (.int i3) := Option.some.inj e3
  obtain ⟨σ', hlaw⟩ := law_true i0 i1 i2 i3
  have hM := am_met (l := l) (ws := tables_1) (y := x) (bytes := code) (maxL := maxLocals) (ret := ret) (rm := room_1) (as := [.int i0, .int i1, .int i2, .int i3]) (A := fun _ => 0) (w := fun _ => none) (σ := zs) (h := s.heap) (n0 := s.heap.size) (F := FL) (C := "LogicBist") (fs := fsC) (Z := s) (t := q_law i0 i1 i2 i3) pnL hlaw ⟨fun k d q => (by cases q), fun k k' d d' q => (by cases q)⟩ (fun k d q => (by cases q)) (fun p e s' m below meth c hc => ok_q_law hw (fun k d q => (by cases q)) (Nat.le_refl _) hc i0 i1 i2 i3)
  obtain ⟨n, o, h1, h2, h3, _, L, rfl, ⟨hv, N⟩, hq⟩ := hM p e ha hc hk s m _ below hf ((Spec.applies_iff_loose hf).mp happ).1 ⟨rfl, State.Warmed39.refl s, rfl⟩ trivial
  cases hv
  refine ⟨n, _, h1, h2, h3, hpost _ _ _ _ _ _ ⟨Cond.after_iff.mpr rfl, Cond.after_iff.mpr (eq_i res_at (Term.int_eval (1)) rfl), trivial⟩ ⟨hq.1, hq.2.1, (hq.2.2.sift fun y hy => Or.inr (N y hy)).mono (by decide) (by decide)⟩⟩
theorem main_1_1 : Claimed_1_1 := comes_1 fun _ _ _ _ _ _ h hF => ⟨h.1, hF⟩
theorem main_1_2 : Claimed_1_2 := comes_1 fun _ _ _ _ _ _ h hF => ⟨h.2.1, hF⟩
end Jvm.Pilot.@@N@@
namespace Jvm.Pilot.@@N@@
open Jvm Jvm.ClassFile Sem Op Lib Jvm.Free Jvm.Stand Jvm.Pilot.@@N@@.Jvm.D
/-! MADE BY PROGRAM (witnessworld.py) out of the Statement's table words and the real class files: 13 classes; the members and pool entries that the words name. The judged class is class 1, her method 4. -/
namespace start1
open Jvm.ClassFile
def u (s : String) : CpInfo := .utf8 (stringToUtf16 s)
/-- a pool by its gaps: so many unusable entries, then the entry; so many at the end -/
def gap : Nat → List CpInfo → List CpInfo
  | 0, r => r
  | n + 1, r => .unusable :: gap n r
def poolList (es : List (Nat × CpInfo)) (last : Nat) : List CpInfo := es.foldr (fun e r => gap e.1 (e.2 :: r)) (gap last [])
def pool (es : List (Nat × CpInfo)) (last : Nat) : Array CpInfo := ⟨poolList es last⟩
def fileOf (pool : Array CpInfo) (this : Nat) (attrs : Array Attribute := #[]) (ms : Array MethodInfo := #[]) (fl : Nat := 33) (sup : Nat := 0) (ifs : Array Nat := #[]) (fds : Array FieldInfo := #[]) : ClassFile where
  minorVersion := 0
  majorVersion := 65
  constantPool := pool
  accessFlags := fl
  thisClass := this
  superClass := sup
  interfaces := ifs
  fields := fds
  methods := ms
  attributes := attrs
def plain (name : String) (sup : Option ClassId) : Class where
  name := name
  kind := .ordinary
  loader := none
  accessFlags := 33
  super := sup
  interfaces := #[]
  cf := none
  fields := #[]
  methods := #[]
  instanceTypes := #[]
  staticTypes := #[]
  resolved := #[]
  callSites := []
  init := .initialized
  statics := none
  mirror := none

def pool0 : Array CpInfo := pool [(5, u "<init>"), (0, u "()V"), (1, .class_ 10), (1, u "java/lang/Object")] 113

def k0c0 : Code := { maxStack := 0, maxLocals := 1, code := object_method_1_code, exceptionTable := #[], attributes := #[] }
def k0m0 : Method := { name := "<init>", desc := "()V", sig := { parameters := [], returnType := none }, accessFlags := 1, code := some k0c0 }
/-- java/lang/Object -/
def k0 : Class := { plain "java/lang/Object" none with
  accessFlags := 33
  interfaces := #[]
  cf := some (fileOf pool0 8 #[] #[{ accessFlags := 1, nameIndex := 5, descriptorIndex := 6, attributes := #[] }] 33 0 #[] #[])
  fields := #[]
  methods := #[k0m0]
  instanceTypes := #[]
  staticTypes := #[]
  resolved := Array.replicate 124 none
  statics := none }

def pool1 : Array CpInfo := pool [(2, .class_ 4), (1, u "java/lang/Object"), (0, u "<init>"), (0, u "()V"), (0, .methodref 8 9), (0, .class_ 10), (0, .nameAndType 11 12), (0, u "LogicBistL3"), (0, u "gate"), (0, u "(III)I"), (0, .integer 46080), (0, .integer 65535), (0, .integer 44257), (0, .methodref 8 17), (0, .nameAndType 18 19), (0, u "step"), (0, u "(I)I"), (0, .class_ 21), (0, u "LogicBist"), (0, .methodref 20 23), (0, .nameAndType 5 24), (0, u "(III)V"), (0, .methodref 20 26), (0, .nameAndType 27 28), (0, u "setSeed"), (0, u "(I)Z"), (0, .methodref 20 30), (0, .nameAndType 31 28), (0, u "setMisrMask"), (0, .methodref 20 33), (0, .nameAndType 34 12), (0, u "addGate"), (0, .methodref 20 36), (0, .nameAndType 37 28), (0, u "markOutput"), (0, .methodref 20 39), (0, .nameAndType 40 19), (0, u "run"), (0, .methodref 20 42), (0, .nameAndType 43 44), (0, u "getPatternCount"), (0, u "()I"), (0, .methodref 20 46), (0, .nameAndType 47 44), (0, u "getLfsrState"), (0, .methodref 8 49), (0, .nameAndType 50 12), (0, u "out"), (0, .methodref 20 52), (0, .nameAndType 53 44), (0, u "getGoldenSignature"), (0, .methodref 20 55), (0, .nameAndType 56 19), (0, u "getFaultSignature"), (0, .methodref 20 58), (0, .nameAndType 59 19), (0, u "getFirstDetect"), (0, .methodref 20 61), (0, .nameAndType 62 28), (0, u "isAliased"), (0, .methodref 20 64), (0, .nameAndType 65 44), (0, u "getDetectedCount"), (0, .methodref 20 67), (0, .nameAndType 68 19), (0, u "coverageAt"), (0, .methodref 20 70), (0, .nameAndType 71 44), (0, u "getFaultCount"), (3, u "law"), (0, u "(IIII)Z")] 2

def k1m0 : Method := { name := "<init>", desc := "()V", sig := { parameters := [], returnType := none }, accessFlags := 1, code := none }
def k1c1 : Code := { maxStack := 3, maxLocals := 3, code := method_2_code, exceptionTable := #[], attributes := #[] }
def k1m1 : Method := { name := "gate", desc := "(III)I", sig := { parameters := [.int, .int, .int], returnType := some .int }, accessFlags := 10, code := some k1c1 }
def k1c2 : Code := { maxStack := 3, maxLocals := 5, code := method_3_code, exceptionTable := #[], attributes := #[] }
def k1m2 : Method := { name := "out", desc := "(III)I", sig := { parameters := [.int, .int, .int], returnType := some .int }, accessFlags := 10, code := some k1c2 }
def k1c3 : Code := { maxStack := 2, maxLocals := 2, code := method_4_code, exceptionTable := #[], attributes := #[] }
def k1m3 : Method := { name := "step", desc := "(I)I", sig := { parameters := [.int], returnType := some .int }, accessFlags := 10, code := some k1c3 }
def k1c4 : Code := { maxStack := 5, maxLocals := 22, code := code, exceptionTable := #[], attributes := #[] }
def k1m4 : Method := { name := "law", desc := "(IIII)Z", sig := { parameters := [.int, .int, .int, .int], returnType := some .boolean }, accessFlags := 9, code := some k1c4 }
/-- LogicBistL3 -/
def k1 : Class := { plain "LogicBistL3" (some 0) with
  accessFlags := 33
  interfaces := #[]
  cf := some (fileOf pool1 8 #[] #[{ accessFlags := 1, nameIndex := 5, descriptorIndex := 6, attributes := #[] }, { accessFlags := 10, nameIndex := 11, descriptorIndex := 12, attributes := #[] }, { accessFlags := 10, nameIndex := 50, descriptorIndex := 12, attributes := #[] }, { accessFlags := 10, nameIndex := 18, descriptorIndex := 19, attributes := #[] }, { accessFlags := 9, nameIndex := 75, descriptorIndex := 76, attributes := #[] }] 33 2 #[] #[])
  fields := #[]
  methods := #[k1m0, k1m1, k1m2, k1m3, k1m4]
  instanceTypes := #[]
  staticTypes := #[]
  resolved := Array.replicate 79 none
  statics := none }

def pool2 : Array CpInfo := pool [(1, .methodref 2 3), (0, .class_ 4), (0, .nameAndType 5 6), (0, u "java/lang/Object"), (0, u "<init>"), (0, u "()V"), (0, .fieldref 8 9), (0, .class_ 10), (0, .nameAndType 11 12), (0, u "LogicBist"), (0, u "gateKind"), (0, u "[I"), (0, .fieldref 8 14), (0, .nameAndType 15 12), (0, u "gateA"), (0, .fieldref 8 17), (0, .nameAndType 18 12), (0, u "gateB"), (0, .fieldref 8 20), (0, .nameAndType 21 12), (0, u "outputSignal"), (0, .fieldref 8 23), (0, .nameAndType 24 25), (0, u "marked"), (0, u "[Z"), (0, .fieldref 8 27), (0, .nameAndType 28 12), (0, u "faultSig"), (0, .fieldref 8 30), (0, .nameAndType 31 12), (0, u "firstDetect"), (0, .fieldref 8 33), (0, .nameAndType 34 25), (0, u "detected"), (0, .fieldref 8 36), (0, .nameAndType 37 38), (0, u "lane"), (0, u "[J"), (0, .methodref 8 40), (0, .nameAndType 41 42), (0, u "clamp"), (0, u "(III)I"), (0, .fieldref 8 44), (0, .nameAndType 45 46), (0, u "inputCount"), (0, u "I"), (0, .fieldref 8 48), (0, .nameAndType 49 46), (0, u "gateCap"), (0, .fieldref 8 51), (0, .nameAndType 52 46), (0, u "width"), (0, .fieldref 8 54), (0, .nameAndType 55 46), (0, u "widthMask"), (0, .fieldref 8 57), (0, .nameAndType 58 46), (0, u "gateCount"), (0, .fieldref 8 60), (0, .nameAndType 61 46), (0, u "outputCount"), (0, .integer 44257), (0, .fieldref 8 64), (0, .nameAndType 65 46), (0, u "seed"), (0, .fieldref 8 67), (0, .nameAndType 68 46), (0, u "misrMask"), (0, .methodref 8 70), (0, .nameAndType 71 6), (0, u "clearSession"), (0, .fieldref 8 73), (0, .nameAndType 74 46), (0, u "patternCount"), (0, .methodref 8 76), (0, .nameAndType 77 78), (0, u "isGateKind"), (0, u "(I)Z"), (0, .methodref 8 80), (0, .nameAndType 81 78), (0, u "isSignal"), (0, .methodref 8 83), (0, .nameAndType 84 78), (0, u "isTwoOperand"), (0, .methodref 8 86), (0, .nameAndType 87 42), (0, u "appendGate"), (0, .integer 65535), (0, .fieldref 8 90), (0, .nameAndType 91 46), (0, u "lfsr"), (0, .methodref 8 93), (0, .nameAndType 94 6), (0, u "applyPattern"), (0, .methodref 8 96), (0, .nameAndType 97 98), (0, u "evaluateGroup"), (0, u "(II)V"), (0, .methodref 8 100), (0, .nameAndType 101 102), (0, u "outputWordAt"), (0, u "(I)I"), (0, .methodref 8 104), (0, .nameAndType 105 78), (0, u "isFault"), (6, .fieldref 8 113), (0, .nameAndType 114 46), (0, u "golden"), (0, .methodref 8 116), (0, .nameAndType 117 102), (0, u "firstDetectOf"), (0, .methodref 8 119), (0, .nameAndType 120 121), (0, u "faultCount"), (0, u "()I"), (0, .methodref 8 123), (0, .nameAndType 124 125), (0, u "resetFault"), (0, u "(I)V"), (0, .methodref 8 127), (0, .nameAndType 128 129), (0, u "misrStep"), (0, u "(II)I"), (0, .methodref 8 131), (0, .nameAndType 132 121), (0, u "groupCount"), (0, .methodref 8 134), (0, .nameAndType 135 136), (0, u "recordGroup"), (0, u "(III)V"), (0, .methodref 8 138), (0, .nameAndType 139 102), (0, u "lfsrStep"), (0, .methodref 8 141), (0, .nameAndType 142 102), (0, u "groupFirst"), (0, .methodref 8 144), (0, .nameAndType 145 102), (0, u "groupEnd"), (0, .methodref 8 147), (0, .nameAndType 148 121), (0, u "signalCount"), (0, .methodref 8 150), (0, .nameAndType 151 152), (0, u "inputLane"), (0, u "(II)J"), (0, .methodref 8 154), (0, .nameAndType 155 156), (0, u "gateLane"), (0, u "(I)J"), (0, .methodref 8 158), (0, .nameAndType 159 160), (0, u "forceLane"), (0, u "(JII)J"), (0, .long 18446744073709551615), (1, .methodref 8 164), (0, .nameAndType 165 156), (0, u "loadLane"), (0, .methodref 8 167), (0, .nameAndType 168 169), (0, u "combine"), (0, u "(IJJ)J"), (0, .integer 46080), (0, u "AND"), (2, u "OR"), (1, u "NAND"), (1, u "NOR"), (1, u "XOR"), (1, u "XNOR"), (1, u "NOT"), (1, u "BUF"), (1, u "LFSR_POLY"), (0, u "DEFAULT_SEED"), (0, u "MAX_OUTPUTS"), (1, u "MAX_RUN"), (1, u "NO_FAULT"), (1, u "REFUSED"), (0, u "UNDETECTED"), (0, u "BAD_FAULT"), (3, u "addGate"), (1, u "markOutput"), (0, u "setSeed"), (0, u "setMisrMask"), (0, u "run"), (2, u "getPatternCount"), (0, u "getLfsrState"), (0, u "getGoldenSignature"), (0, u "getFaultSignature"), (0, u "getFirstDetect"), (0, u "isAliased"), (0, u "getDetectedCount"), (0, u "coverageAt"), (0, u "getFaultCount")] 2

def k2c0 : Code := { maxStack := 5, maxLocals := 4, code := prog_1_method_1_code, exceptionTable := #[], attributes := #[] }
def k2m0 : Method := { name := "<init>", desc := "(III)V", sig := { parameters := [.int, .int, .int], returnType := none }, accessFlags := 1, code := some k2c0 }
def k2c1 : Code := { maxStack := 4, maxLocals := 5, code := prog_1_method_2_code, exceptionTable := #[], attributes := #[] }
def k2m1 : Method := { name := "addGate", desc := "(III)I", sig := { parameters := [.int, .int, .int], returnType := some .int }, accessFlags := 1, code := some k2c1 }
def k2c2 : Code := { maxStack := 3, maxLocals := 2, code := prog_1_method_3_code, exceptionTable := #[], attributes := #[] }
def k2m2 : Method := { name := "markOutput", desc := "(I)Z", sig := { parameters := [.int], returnType := some .boolean }, accessFlags := 1, code := some k2c2 }
def k2c3 : Code := { maxStack := 2, maxLocals := 3, code := prog_1_method_4_code, exceptionTable := #[], attributes := #[] }
def k2m3 : Method := { name := "setSeed", desc := "(I)Z", sig := { parameters := [.int], returnType := some .boolean }, accessFlags := 1, code := some k2c3 }
def k2c4 : Code := { maxStack := 3, maxLocals := 2, code := prog_1_method_5_code, exceptionTable := #[], attributes := #[] }
def k2m4 : Method := { name := "setMisrMask", desc := "(I)Z", sig := { parameters := [.int], returnType := some .boolean }, accessFlags := 1, code := some k2c4 }
def k2c5 : Code := { maxStack := 2, maxLocals := 3, code := prog_1_method_6_code, exceptionTable := #[], attributes := #[] }
def k2m5 : Method := { name := "run", desc := "(I)I", sig := { parameters := [.int], returnType := some .int }, accessFlags := 1, code := some k2c5 }
def k2c6 : Code := { maxStack := 1, maxLocals := 1, code := prog_1_method_9_code, exceptionTable := #[], attributes := #[] }
def k2m6 : Method := { name := "getPatternCount", desc := "()I", sig := { parameters := [], returnType := some .int }, accessFlags := 1, code := some k2c6 }
def k2c7 : Code := { maxStack := 1, maxLocals := 1, code := prog_1_method_10_code, exceptionTable := #[], attributes := #[] }
def k2m7 : Method := { name := "getLfsrState", desc := "()I", sig := { parameters := [], returnType := some .int }, accessFlags := 1, code := some k2c7 }
def k2c8 : Code := { maxStack := 1, maxLocals := 1, code := prog_1_method_11_code, exceptionTable := #[], attributes := #[] }
def k2m8 : Method := { name := "getGoldenSignature", desc := "()I", sig := { parameters := [], returnType := some .int }, accessFlags := 1, code := some k2c8 }
def k2c9 : Code := { maxStack := 2, maxLocals := 2, code := prog_1_method_12_code, exceptionTable := #[], attributes := #[] }
def k2m9 : Method := { name := "getFaultSignature", desc := "(I)I", sig := { parameters := [.int], returnType := some .int }, accessFlags := 1, code := some k2c9 }
def k2c10 : Code := { maxStack := 2, maxLocals := 2, code := prog_1_method_13_code, exceptionTable := #[], attributes := #[] }
def k2m10 : Method := { name := "getFirstDetect", desc := "(I)I", sig := { parameters := [.int], returnType := some .int }, accessFlags := 1, code := some k2c10 }
def k2c11 : Code := { maxStack := 2, maxLocals := 2, code := prog_1_method_14_code, exceptionTable := #[], attributes := #[] }
def k2m11 : Method := { name := "isAliased", desc := "(I)Z", sig := { parameters := [.int], returnType := some .boolean }, accessFlags := 1, code := some k2c11 }
def k2c12 : Code := { maxStack := 2, maxLocals := 4, code := prog_1_method_15_code, exceptionTable := #[], attributes := #[] }
def k2m12 : Method := { name := "getDetectedCount", desc := "()I", sig := { parameters := [], returnType := some .int }, accessFlags := 1, code := some k2c12 }
def k2c13 : Code := { maxStack := 2, maxLocals := 6, code := prog_1_method_16_code, exceptionTable := #[], attributes := #[] }
def k2m13 : Method := { name := "coverageAt", desc := "(I)I", sig := { parameters := [.int], returnType := some .int }, accessFlags := 1, code := some k2c13 }
def k2c14 : Code := { maxStack := 1, maxLocals := 1, code := prog_1_method_17_code, exceptionTable := #[], attributes := #[] }
def k2m14 : Method := { name := "getFaultCount", desc := "()I", sig := { parameters := [], returnType := some .int }, accessFlags := 1, code := some k2c14 }
def k2c15 : Code := { maxStack := 2, maxLocals := 2, code := prog_1_method_18_code, exceptionTable := #[], attributes := #[] }
def k2m15 : Method := { name := "clearSession", desc := "()V", sig := { parameters := [], returnType := none }, accessFlags := 2, code := some k2c15 }
def k2c16 : Code := { maxStack := 3, maxLocals := 2, code := prog_1_method_19_code, exceptionTable := #[], attributes := #[] }
def k2m16 : Method := { name := "resetFault", desc := "(I)V", sig := { parameters := [.int], returnType := none }, accessFlags := 2, code := some k2c16 }
def k2c17 : Code := { maxStack := 3, maxLocals := 6, code := prog_1_method_20_code, exceptionTable := #[], attributes := #[] }
def k2m17 : Method := { name := "appendGate", desc := "(III)I", sig := { parameters := [.int, .int, .int], returnType := some .int }, accessFlags := 2, code := some k2c17 }
def k2c18 : Code := { maxStack := 4, maxLocals := 6, code := prog_1_method_21_code, exceptionTable := #[], attributes := #[] }
def k2m18 : Method := { name := "applyPattern", desc := "()V", sig := { parameters := [], returnType := none }, accessFlags := 2, code := some k2c18 }
def k2c19 : Code := { maxStack := 5, maxLocals := 8, code := prog_1_method_22_code, exceptionTable := #[], attributes := #[] }
def k2m19 : Method := { name := "recordGroup", desc := "(III)V", sig := { parameters := [.int, .int, .int], returnType := none }, accessFlags := 2, code := some k2c19 }
def k2c20 : Code := { maxStack := 7, maxLocals := 7, code := prog_1_method_23_code, exceptionTable := #[], attributes := #[] }
def k2m20 : Method := { name := "evaluateGroup", desc := "(II)V", sig := { parameters := [.int, .int], returnType := none }, accessFlags := 2, code := some k2c20 }
def k2c21 : Code := { maxStack := 2, maxLocals := 3, code := prog_1_method_24_code, exceptionTable := #[], attributes := #[] }
def k2m21 : Method := { name := "inputLane", desc := "(II)J", sig := { parameters := [.int, .int], returnType := some .long }, accessFlags := 2, code := some k2c21 }
def k2c22 : Code := { maxStack := 6, maxLocals := 7, code := prog_1_method_25_code, exceptionTable := #[], attributes := #[] }
def k2m22 : Method := { name := "gateLane", desc := "(I)J", sig := { parameters := [.int], returnType := some .long }, accessFlags := 2, code := some k2c22 }
def k2c23 : Code := { maxStack := 4, maxLocals := 6, code := prog_1_method_26_code, exceptionTable := #[], attributes := #[] }
def k2m23 : Method := { name := "combine", desc := "(IJJ)J", sig := { parameters := [.int, .long, .long], returnType := some .long }, accessFlags := 2, code := some k2c23 }
def k2c24 : Code := { maxStack := 6, maxLocals := 10, code := prog_1_method_27_code, exceptionTable := #[], attributes := #[] }
def k2m24 : Method := { name := "forceLane", desc := "(JII)J", sig := { parameters := [.long, .int, .int], returnType := some .long }, accessFlags := 2, code := some k2c24 }
def k2c25 : Code := { maxStack := 2, maxLocals := 2, code := prog_1_method_28_code, exceptionTable := #[], attributes := #[] }
def k2m25 : Method := { name := "loadLane", desc := "(I)J", sig := { parameters := [.int], returnType := some .long }, accessFlags := 2, code := some k2c25 }
def k2c26 : Code := { maxStack := 4, maxLocals := 6, code := prog_1_method_29_code, exceptionTable := #[], attributes := #[] }
def k2m26 : Method := { name := "outputWordAt", desc := "(I)I", sig := { parameters := [.int], returnType := some .int }, accessFlags := 2, code := some k2c26 }
def k2c27 : Code := { maxStack := 4, maxLocals := 6, code := prog_1_method_30_code, exceptionTable := #[], attributes := #[] }
def k2m27 : Method := { name := "misrStep", desc := "(II)I", sig := { parameters := [.int, .int], returnType := some .int }, accessFlags := 2, code := some k2c27 }
def k2c28 : Code := { maxStack := 2, maxLocals := 4, code := prog_1_method_31_code, exceptionTable := #[], attributes := #[] }
def k2m28 : Method := { name := "lfsrStep", desc := "(I)I", sig := { parameters := [.int], returnType := some .int }, accessFlags := 2, code := some k2c28 }
def k2c29 : Code := { maxStack := 2, maxLocals := 1, code := prog_1_method_32_code, exceptionTable := #[], attributes := #[] }
def k2m29 : Method := { name := "signalCount", desc := "()I", sig := { parameters := [], returnType := some .int }, accessFlags := 2, code := some k2c29 }
def k2c30 : Code := { maxStack := 2, maxLocals := 1, code := prog_1_method_33_code, exceptionTable := #[], attributes := #[] }
def k2m30 : Method := { name := "faultCount", desc := "()I", sig := { parameters := [], returnType := some .int }, accessFlags := 2, code := some k2c30 }
def k2c31 : Code := { maxStack := 2, maxLocals := 1, code := prog_1_method_34_code, exceptionTable := #[], attributes := #[] }
def k2m31 : Method := { name := "groupCount", desc := "()I", sig := { parameters := [], returnType := some .int }, accessFlags := 2, code := some k2c31 }
def k2c32 : Code := { maxStack := 2, maxLocals := 2, code := prog_1_method_35_code, exceptionTable := #[], attributes := #[] }
def k2m32 : Method := { name := "groupFirst", desc := "(I)I", sig := { parameters := [.int], returnType := some .int }, accessFlags := 2, code := some k2c32 }
def k2c33 : Code := { maxStack := 2, maxLocals := 4, code := prog_1_method_36_code, exceptionTable := #[], attributes := #[] }
def k2m33 : Method := { name := "groupEnd", desc := "(I)I", sig := { parameters := [.int], returnType := some .int }, accessFlags := 2, code := some k2c33 }
def k2c34 : Code := { maxStack := 2, maxLocals := 2, code := prog_1_method_39_code, exceptionTable := #[], attributes := #[] }
def k2m34 : Method := { name := "firstDetectOf", desc := "(I)I", sig := { parameters := [.int], returnType := some .int }, accessFlags := 2, code := some k2c34 }
def k2c35 : Code := { maxStack := 2, maxLocals := 2, code := prog_1_method_40_code, exceptionTable := #[], attributes := #[] }
def k2m35 : Method := { name := "isSignal", desc := "(I)Z", sig := { parameters := [.int], returnType := some .boolean }, accessFlags := 2, code := some k2c35 }
def k2c36 : Code := { maxStack := 2, maxLocals := 2, code := prog_1_method_41_code, exceptionTable := #[], attributes := #[] }
def k2m36 : Method := { name := "isFault", desc := "(I)Z", sig := { parameters := [.int], returnType := some .boolean }, accessFlags := 2, code := some k2c36 }
def k2c37 : Code := { maxStack := 2, maxLocals := 2, code := prog_1_method_42_code, exceptionTable := #[], attributes := #[] }
def k2m37 : Method := { name := "isGateKind", desc := "(I)Z", sig := { parameters := [.int], returnType := some .boolean }, accessFlags := 2, code := some k2c37 }
def k2c38 : Code := { maxStack := 2, maxLocals := 2, code := prog_1_method_43_code, exceptionTable := #[], attributes := #[] }
def k2m38 : Method := { name := "isTwoOperand", desc := "(I)Z", sig := { parameters := [.int], returnType := some .boolean }, accessFlags := 2, code := some k2c38 }
def k2c39 : Code := { maxStack := 2, maxLocals := 4, code := prog_1_method_44_code, exceptionTable := #[], attributes := #[] }
def k2m39 : Method := { name := "clamp", desc := "(III)I", sig := { parameters := [.int, .int, .int], returnType := some .int }, accessFlags := 2, code := some k2c39 }
/-- LogicBist -/
def k2 : Class := { plain "LogicBist" (some 0) with
  accessFlags := 49
  interfaces := #[]
  cf := some (fileOf pool2 8 #[] #[{ accessFlags := 1, nameIndex := 5, descriptorIndex := 136, attributes := #[] }, { accessFlags := 1, nameIndex := 202, descriptorIndex := 42, attributes := #[] }, { accessFlags := 1, nameIndex := 204, descriptorIndex := 78, attributes := #[] }, { accessFlags := 1, nameIndex := 205, descriptorIndex := 78, attributes := #[] }, { accessFlags := 1, nameIndex := 206, descriptorIndex := 78, attributes := #[] }, { accessFlags := 1, nameIndex := 207, descriptorIndex := 102, attributes := #[] }, { accessFlags := 1, nameIndex := 210, descriptorIndex := 121, attributes := #[] }, { accessFlags := 1, nameIndex := 211, descriptorIndex := 121, attributes := #[] }, { accessFlags := 1, nameIndex := 212, descriptorIndex := 121, attributes := #[] }, { accessFlags := 1, nameIndex := 213, descriptorIndex := 102, attributes := #[] }, { accessFlags := 1, nameIndex := 214, descriptorIndex := 102, attributes := #[] }, { accessFlags := 1, nameIndex := 215, descriptorIndex := 78, attributes := #[] }, { accessFlags := 1, nameIndex := 216, descriptorIndex := 121, attributes := #[] }, { accessFlags := 1, nameIndex := 217, descriptorIndex := 102, attributes := #[] }, { accessFlags := 1, nameIndex := 218, descriptorIndex := 121, attributes := #[] }, { accessFlags := 2, nameIndex := 71, descriptorIndex := 6, attributes := #[] }, { accessFlags := 2, nameIndex := 124, descriptorIndex := 125, attributes := #[] }, { accessFlags := 2, nameIndex := 87, descriptorIndex := 42, attributes := #[] }, { accessFlags := 2, nameIndex := 94, descriptorIndex := 6, attributes := #[] }, { accessFlags := 2, nameIndex := 135, descriptorIndex := 136, attributes := #[] }, { accessFlags := 2, nameIndex := 97, descriptorIndex := 98, attributes := #[] }, { accessFlags := 2, nameIndex := 151, descriptorIndex := 152, attributes := #[] }, { accessFlags := 2, nameIndex := 155, descriptorIndex := 156, attributes := #[] }, { accessFlags := 2, nameIndex := 168, descriptorIndex := 169, attributes := #[] }, { accessFlags := 2, nameIndex := 159, descriptorIndex := 160, attributes := #[] }, { accessFlags := 2, nameIndex := 165, descriptorIndex := 156, attributes := #[] }, { accessFlags := 2, nameIndex := 101, descriptorIndex := 102, attributes := #[] }, { accessFlags := 2, nameIndex := 128, descriptorIndex := 129, attributes := #[] }, { accessFlags := 2, nameIndex := 139, descriptorIndex := 102, attributes := #[] }, { accessFlags := 2, nameIndex := 148, descriptorIndex := 121, attributes := #[] }, { accessFlags := 2, nameIndex := 120, descriptorIndex := 121, attributes := #[] }, { accessFlags := 2, nameIndex := 132, descriptorIndex := 121, attributes := #[] }, { accessFlags := 2, nameIndex := 142, descriptorIndex := 102, attributes := #[] }, { accessFlags := 2, nameIndex := 145, descriptorIndex := 102, attributes := #[] }, { accessFlags := 2, nameIndex := 117, descriptorIndex := 102, attributes := #[] }, { accessFlags := 2, nameIndex := 81, descriptorIndex := 78, attributes := #[] }, { accessFlags := 2, nameIndex := 105, descriptorIndex := 78, attributes := #[] }, { accessFlags := 2, nameIndex := 77, descriptorIndex := 78, attributes := #[] }, { accessFlags := 2, nameIndex := 84, descriptorIndex := 78, attributes := #[] }, { accessFlags := 2, nameIndex := 41, descriptorIndex := 42, attributes := #[] }] 49 2 #[] #[{ accessFlags := 25, nameIndex := 171, descriptorIndex := 46, attributes := #[] }, { accessFlags := 25, nameIndex := 174, descriptorIndex := 46, attributes := #[] }, { accessFlags := 25, nameIndex := 176, descriptorIndex := 46, attributes := #[] }, { accessFlags := 25, nameIndex := 178, descriptorIndex := 46, attributes := #[] }, { accessFlags := 25, nameIndex := 180, descriptorIndex := 46, attributes := #[] }, { accessFlags := 25, nameIndex := 182, descriptorIndex := 46, attributes := #[] }, { accessFlags := 25, nameIndex := 184, descriptorIndex := 46, attributes := #[] }, { accessFlags := 25, nameIndex := 186, descriptorIndex := 46, attributes := #[] }, { accessFlags := 25, nameIndex := 188, descriptorIndex := 46, attributes := #[] }, { accessFlags := 25, nameIndex := 189, descriptorIndex := 46, attributes := #[] }, { accessFlags := 25, nameIndex := 190, descriptorIndex := 46, attributes := #[] }, { accessFlags := 25, nameIndex := 192, descriptorIndex := 46, attributes := #[] }, { accessFlags := 25, nameIndex := 194, descriptorIndex := 46, attributes := #[] }, { accessFlags := 25, nameIndex := 196, descriptorIndex := 46, attributes := #[] }, { accessFlags := 25, nameIndex := 197, descriptorIndex := 46, attributes := #[] }, { accessFlags := 25, nameIndex := 198, descriptorIndex := 46, attributes := #[] }, { accessFlags := 18, nameIndex := 45, descriptorIndex := 46, attributes := #[] }, { accessFlags := 18, nameIndex := 49, descriptorIndex := 46, attributes := #[] }, { accessFlags := 18, nameIndex := 52, descriptorIndex := 46, attributes := #[] }, { accessFlags := 18, nameIndex := 55, descriptorIndex := 46, attributes := #[] }, { accessFlags := 2, nameIndex := 58, descriptorIndex := 46, attributes := #[] }, { accessFlags := 18, nameIndex := 11, descriptorIndex := 12, attributes := #[] }, { accessFlags := 18, nameIndex := 15, descriptorIndex := 12, attributes := #[] }, { accessFlags := 18, nameIndex := 18, descriptorIndex := 12, attributes := #[] }, { accessFlags := 2, nameIndex := 61, descriptorIndex := 46, attributes := #[] }, { accessFlags := 18, nameIndex := 21, descriptorIndex := 12, attributes := #[] }, { accessFlags := 18, nameIndex := 24, descriptorIndex := 25, attributes := #[] }, { accessFlags := 2, nameIndex := 65, descriptorIndex := 46, attributes := #[] }, { accessFlags := 2, nameIndex := 91, descriptorIndex := 46, attributes := #[] }, { accessFlags := 2, nameIndex := 68, descriptorIndex := 46, attributes := #[] }, { accessFlags := 2, nameIndex := 74, descriptorIndex := 46, attributes := #[] }, { accessFlags := 2, nameIndex := 114, descriptorIndex := 46, attributes := #[] }, { accessFlags := 18, nameIndex := 28, descriptorIndex := 12, attributes := #[] }, { accessFlags := 18, nameIndex := 31, descriptorIndex := 12, attributes := #[] }, { accessFlags := 18, nameIndex := 34, descriptorIndex := 25, attributes := #[] }, { accessFlags := 18, nameIndex := 37, descriptorIndex := 38, attributes := #[] }])
  fields := #[{ name := "AND", type := .int, accessFlags := 25, slot := 0, constantValue := 0 }, { name := "OR", type := .int, accessFlags := 25, slot := 1, constantValue := 0 }, { name := "NAND", type := .int, accessFlags := 25, slot := 2, constantValue := 0 }, { name := "NOR", type := .int, accessFlags := 25, slot := 3, constantValue := 0 }, { name := "XOR", type := .int, accessFlags := 25, slot := 4, constantValue := 0 }, { name := "XNOR", type := .int, accessFlags := 25, slot := 5, constantValue := 0 }, { name := "NOT", type := .int, accessFlags := 25, slot := 6, constantValue := 0 }, { name := "BUF", type := .int, accessFlags := 25, slot := 7, constantValue := 0 }, { name := "LFSR_POLY", type := .int, accessFlags := 25, slot := 8, constantValue := 0 }, { name := "DEFAULT_SEED", type := .int, accessFlags := 25, slot := 9, constantValue := 0 }, { name := "MAX_OUTPUTS", type := .int, accessFlags := 25, slot := 10, constantValue := 0 }, { name := "MAX_RUN", type := .int, accessFlags := 25, slot := 11, constantValue := 0 }, { name := "NO_FAULT", type := .int, accessFlags := 25, slot := 12, constantValue := 0 }, { name := "REFUSED", type := .int, accessFlags := 25, slot := 13, constantValue := 0 }, { name := "UNDETECTED", type := .int, accessFlags := 25, slot := 14, constantValue := 0 }, { name := "BAD_FAULT", type := .int, accessFlags := 25, slot := 15, constantValue := 0 }, { name := "inputCount", type := .int, accessFlags := 18, slot := 0, constantValue := 0 }, { name := "gateCap", type := .int, accessFlags := 18, slot := 1, constantValue := 0 }, { name := "width", type := .int, accessFlags := 18, slot := 2, constantValue := 0 }, { name := "widthMask", type := .int, accessFlags := 18, slot := 3, constantValue := 0 }, { name := "gateCount", type := .int, accessFlags := 2, slot := 4, constantValue := 0 }, { name := "gateKind", type := (.array .int), accessFlags := 18, slot := 5, constantValue := 0 }, { name := "gateA", type := (.array .int), accessFlags := 18, slot := 6, constantValue := 0 }, { name := "gateB", type := (.array .int), accessFlags := 18, slot := 7, constantValue := 0 }, { name := "outputCount", type := .int, accessFlags := 2, slot := 8, constantValue := 0 }, { name := "outputSignal", type := (.array .int), accessFlags := 18, slot := 9, constantValue := 0 }, { name := "marked", type := (.array .boolean), accessFlags := 18, slot := 10, constantValue := 0 }, { name := "seed", type := .int, accessFlags := 2, slot := 11, constantValue := 0 }, { name := "lfsr", type := .int, accessFlags := 2, slot := 12, constantValue := 0 }, { name := "misrMask", type := .int, accessFlags := 2, slot := 13, constantValue := 0 }, { name := "patternCount", type := .int, accessFlags := 2, slot := 14, constantValue := 0 }, { name := "golden", type := .int, accessFlags := 2, slot := 15, constantValue := 0 }, { name := "faultSig", type := (.array .int), accessFlags := 18, slot := 16, constantValue := 0 }, { name := "firstDetect", type := (.array .int), accessFlags := 18, slot := 17, constantValue := 0 }, { name := "detected", type := (.array .boolean), accessFlags := 18, slot := 18, constantValue := 0 }, { name := "lane", type := (.array .long), accessFlags := 18, slot := 19, constantValue := 0 }]
  methods := #[k2m0, k2m1, k2m2, k2m3, k2m4, k2m5, k2m6, k2m7, k2m8, k2m9, k2m10, k2m11, k2m12, k2m13, k2m14, k2m15, k2m16, k2m17, k2m18, k2m19, k2m20, k2m21, k2m22, k2m23, k2m24, k2m25, k2m26, k2m27, k2m28, k2m29, k2m30, k2m31, k2m32, k2m33, k2m34, k2m35, k2m36, k2m37, k2m38, k2m39]
  instanceTypes := #[.int, .int, .int, .int, .int, (.array .int), (.array .int), (.array .int), .int, (.array .int), (.array .boolean), .int, .int, .int, .int, .int, (.array .int), (.array .int), (.array .boolean), (.array .long)]
  staticTypes := #[.int, .int, .int, .int, .int, .int, .int, .int, .int, .int, .int, .int, .int, .int, .int, .int]
  resolved := Array.replicate 221 none
  statics := none }

def pool3 : Array CpInfo := pool [(1, u "java/lang/Cloneable"), (0, .class_ 1), (0, u "java/lang/Object"), (0, .class_ 3)] 3

/-- java/lang/Cloneable -/
def k3 : Class := { plain "java/lang/Cloneable" (some 0) with
  accessFlags := 1537
  interfaces := #[]
  cf := some (fileOf pool3 2 #[] #[] 1537 4 #[] #[])
  fields := #[]
  methods := #[]
  instanceTypes := #[]
  staticTypes := #[]
  resolved := Array.replicate 8 none
  statics := none }

def pool4 : Array CpInfo := pool [(1, u "java/io/Serializable"), (0, .class_ 1), (0, u "java/lang/Object"), (0, .class_ 3)] 3

/-- java/io/Serializable -/
def k4 : Class := { plain "java/io/Serializable" (some 0) with
  accessFlags := 1537
  interfaces := #[]
  cf := some (fileOf pool4 2 #[] #[] 1537 4 #[] #[])
  fields := #[]
  methods := #[]
  instanceTypes := #[]
  staticTypes := #[]
  resolved := Array.replicate 8 none
  statics := none }

/-- the primitive boolean -/
def k5 : Class := { plain "boolean" none with kind := .primitive 'Z', accessFlags := 0x411 }
/-- [Z -/
def k6 : Class := { plain "[Z" (some 0) with kind := .array 5 .boolean, interfaces := #[3, 4], accessFlags := 1041 }

/-- the primitive byte -/
def k7 : Class := { plain "byte" none with kind := .primitive 'B', accessFlags := 0x411 }
/-- [B -/
def k8 : Class := { plain "[B" (some 0) with kind := .array 7 .byte, interfaces := #[3, 4], accessFlags := 1041 }

/-- the primitive int -/
def k9 : Class := { plain "int" none with kind := .primitive 'I', accessFlags := 0x411 }
/-- [I -/
def k10 : Class := { plain "[I" (some 0) with kind := .array 9 .int, interfaces := #[3, 4], accessFlags := 1041 }

/-- the primitive long -/
def k11 : Class := { plain "long" none with kind := .primitive 'J', accessFlags := 0x411 }
/-- [J -/
def k12 : Class := { plain "[J" (some 0) with kind := .array 11 .long, interfaces := #[3, 4], accessFlags := 1041 }

def heap : Heap := #[]
def classes : Array Class := #[k0, k1, k2, k3, k4, k5, k6, k7, k8, k9, k10, k11, k12]
def interned : List (Array UInt16 × Addr) := []
def slotsUsed : Nat := 0
def theMethod : MethodId := ⟨1, 4⟩
def args0 : Array Value := #[.int 3, .int 3, .int 3, .int 3]
def aboutOver (below : List Frame) : State where
  vm := { classes := classes, interned := interned.toArray }
  heap := heap
  slotsUsed := slotsUsed
  threads := #[{ frames := .invoking theMethod args0 :: below }]
def below0 : List Frame := [.native { method := ⟨0, 0⟩, args := #[] }]
def about1 : State := aboutOver below0
def p0 : Program := .bare "" "" ""
def e0 : Env := launch0.env 0 0 0
theorem w_frames : about1.frames = Frame.invoking theMethod args0 :: below0 := rfl
set_option maxRecDepth 65536 in
theorem w_args : argsFit about1.vm theMethod args0 = true := by decide +kernel
set_option maxRecDepth 65536 in
theorem w_heap : heapFits about1 = true := by decide +kernel
set_option maxRecDepth 65536 in
theorem w_runnable : about1.curStatus? = some .runnable := by decide +kernel
set_option maxRecDepth 65536 in
theorem w_alone : about1.alone = true := by decide +kernel
set_option maxRecDepth 65536 in
theorem w_named : about1.methodNamed? x = some theMethod := by decide +kernel
set_option maxRecDepth 65536 in
theorem w_hears : about1.hears theMethod below0 = true := by decide +kernel
set_option maxRecDepth 65536 in
theorem w_ripe : about1.ripe theMethod args0 below0 = true := by decide +kernel
theorem w_running : about1.status = .running := rfl
set_option maxRecDepth 65536 in
theorem w_room : about1.hasRoom e0.platform room_1 = true :=
  launch0.hasRoom_least _ room_1 (by decide +kernel) (by decide +kernel) (by decide +kernel) (by decide +kernel) (by decide +kernel) (by decide +kernel)
theorem allAtoms_all (ts : List Jvm.Cond) (a : Array Jvm.Value) (st : Jvm.State) : (allAtoms ts).before a st = ts.all (fun c => c.before a st) := by
  induction ts with
  | nil => rfl
  | cons c t ih =>
    show (Jvm.Cond.and c (allAtoms t)).before a st = _
    rw [Jvm.Cond.before_and, ih, List.all_cons]
def words1 : List Jvm.Cond := Jvm.Cond.code x code maxLocals ret :: tables_1
/-- a 'code' word, met by the world's own term for the bytes: nothing is compared byte by byte -/
theorem code_word {y : MethodName} {bytes : ByteArray} {mx : Nat} {rt : Option FieldType} {a : Array Value} {s : State} {m : MethodId} {meth : Method} {c : Code} (h1 : s.methodNamed? y = some m) (h2 : s.vm.method? m = some meth) (h3 : meth.code = some c) (h4 : c.code = bytes)
    (h5 : (c.maxLocals == mx && c.exceptionTable.isEmpty && decide (c.maxStack ≤ mostOperands) && decide (meth.sig.returnType = rt) && !meth.locks && decide (parseMethodDescriptor y.desc = some meth.sig)) = true) : (Jvm.Cond.code y bytes mx rt).before a s = true := by
  simp only [Bool.and_eq_true, beq_iff_eq, Bool.not_eq_true', decide_eq_true_eq] at h5
  obtain ⟨⟨⟨⟨⟨g1, g2⟩, g3⟩, g4⟩, g5⟩, g6⟩ := h5
  simp [Cond.before, Cond.holds, Cond.value, h1, h2, h3, h4, g1, g2, g3, g4, g5, g6]
def isCode : Jvm.Cond → Bool
  | .code _ _ _ _ => true
  | _ => false
theorem all_split {L : List Jvm.Cond} {P : Jvm.Cond → Bool} (h1 : L.all (fun c => isCode c || P c) = true) (h2 : ∀ c ∈ L.filter isCode, P c = true) : L.all P = true := by
  refine List.all_eq_true.mpr fun c hc => ?_
  have h := List.all_eq_true.mp h1 c hc
  rcases Bool.eq_false_or_eq_true (isCode c) with hi | hi
  · exact h2 c (List.mem_filter.mpr ⟨hc, hi⟩)
  · simpa [hi] using h
set_option maxRecDepth 65536 in
theorem w_c0 : (Jvm.Cond.code x code maxLocals ret).before args0 about1 = true := code_word (m := ⟨1, 4⟩) (meth := k1m4) (c := k1c4) (by decide +kernel) rfl rfl rfl (by decide +kernel)
set_option maxRecDepth 65536 in
theorem w_c1 : (Jvm.Cond.code ({ cls := "LogicBistL3", name := "step", desc := "(I)I" } : Jvm.MethodName) method_4_code (2 : Nat) (Option.some Jvm.ClassFile.FieldType.int)).before args0 about1 = true := code_word (m := ⟨1, 3⟩) (meth := k1m3) (c := k1c3) (by decide +kernel) rfl rfl rfl (by decide +kernel)
set_option maxRecDepth 65536 in
theorem w_c2 : (Jvm.Cond.code ({ cls := "LogicBist", name := "<init>", desc := "(III)V" } : Jvm.MethodName) prog_1_method_1_code (4 : Nat) (Option.none : Option Jvm.ClassFile.FieldType)).before args0 about1 = true := code_word (m := ⟨2, 0⟩) (meth := k2m0) (c := k2c0) (by decide +kernel) rfl rfl rfl (by decide +kernel)
set_option maxRecDepth 65536 in
theorem w_c3 : (Jvm.Cond.code ({ cls := "java/lang/Object", name := "<init>", desc := "()V" } : Jvm.MethodName) object_method_1_code (1 : Nat) (Option.none : Option Jvm.ClassFile.FieldType)).before args0 about1 = true := code_word (m := ⟨0, 0⟩) (meth := k0m0) (c := k0c0) (by decide +kernel) rfl rfl rfl (by decide +kernel)
set_option maxRecDepth 65536 in
theorem w_c4 : (Jvm.Cond.code ({ cls := "LogicBist", name := "clamp", desc := "(III)I" } : Jvm.MethodName) prog_1_method_44_code (4 : Nat) (Option.some Jvm.ClassFile.FieldType.int)).before args0 about1 = true := code_word (m := ⟨2, 39⟩) (meth := k2m39) (c := k2c39) (by decide +kernel) rfl rfl rfl (by decide +kernel)
set_option maxRecDepth 65536 in
theorem w_c5 : (Jvm.Cond.code ({ cls := "LogicBist", name := "clearSession", desc := "()V" } : Jvm.MethodName) prog_1_method_18_code (2 : Nat) (Option.none : Option Jvm.ClassFile.FieldType)).before args0 about1 = true := code_word (m := ⟨2, 15⟩) (meth := k2m15) (c := k2c15) (by decide +kernel) rfl rfl rfl (by decide +kernel)
set_option maxRecDepth 65536 in
theorem w_c6 : (Jvm.Cond.code ({ cls := "LogicBist", name := "resetFault", desc := "(I)V" } : Jvm.MethodName) prog_1_method_19_code (2 : Nat) (Option.none : Option Jvm.ClassFile.FieldType)).before args0 about1 = true := code_word (m := ⟨2, 16⟩) (meth := k2m16) (c := k2c16) (by decide +kernel) rfl rfl rfl (by decide +kernel)
set_option maxRecDepth 65536 in
theorem w_c7 : (Jvm.Cond.code ({ cls := "LogicBist", name := "setSeed", desc := "(I)Z" } : Jvm.MethodName) prog_1_method_4_code (3 : Nat) (Option.some Jvm.ClassFile.FieldType.boolean)).before args0 about1 = true := code_word (m := ⟨2, 3⟩) (meth := k2m3) (c := k2c3) (by decide +kernel) rfl rfl rfl (by decide +kernel)
set_option maxRecDepth 65536 in
theorem w_c8 : (Jvm.Cond.code ({ cls := "LogicBist", name := "setMisrMask", desc := "(I)Z" } : Jvm.MethodName) prog_1_method_5_code (2 : Nat) (Option.some Jvm.ClassFile.FieldType.boolean)).before args0 about1 = true := code_word (m := ⟨2, 4⟩) (meth := k2m4) (c := k2c4) (by decide +kernel) rfl rfl rfl (by decide +kernel)
set_option maxRecDepth 65536 in
theorem w_c9 : (Jvm.Cond.code ({ cls := "LogicBist", name := "addGate", desc := "(III)I" } : Jvm.MethodName) prog_1_method_2_code (5 : Nat) (Option.some Jvm.ClassFile.FieldType.int)).before args0 about1 = true := code_word (m := ⟨2, 1⟩) (meth := k2m1) (c := k2c1) (by decide +kernel) rfl rfl rfl (by decide +kernel)
set_option maxRecDepth 65536 in
theorem w_c10 : (Jvm.Cond.code ({ cls := "LogicBist", name := "isGateKind", desc := "(I)Z" } : Jvm.MethodName) prog_1_method_42_code (2 : Nat) (Option.some Jvm.ClassFile.FieldType.boolean)).before args0 about1 = true := code_word (m := ⟨2, 37⟩) (meth := k2m37) (c := k2c37) (by decide +kernel) rfl rfl rfl (by decide +kernel)
set_option maxRecDepth 65536 in
theorem w_c11 : (Jvm.Cond.code ({ cls := "LogicBist", name := "isSignal", desc := "(I)Z" } : Jvm.MethodName) prog_1_method_40_code (2 : Nat) (Option.some Jvm.ClassFile.FieldType.boolean)).before args0 about1 = true := code_word (m := ⟨2, 35⟩) (meth := k2m35) (c := k2c35) (by decide +kernel) rfl rfl rfl (by decide +kernel)
set_option maxRecDepth 65536 in
theorem w_c12 : (Jvm.Cond.code ({ cls := "LogicBist", name := "signalCount", desc := "()I" } : Jvm.MethodName) prog_1_method_32_code (1 : Nat) (Option.some Jvm.ClassFile.FieldType.int)).before args0 about1 = true := code_word (m := ⟨2, 29⟩) (meth := k2m29) (c := k2c29) (by decide +kernel) rfl rfl rfl (by decide +kernel)
set_option maxRecDepth 65536 in
theorem w_c13 : (Jvm.Cond.code ({ cls := "LogicBist", name := "isTwoOperand", desc := "(I)Z" } : Jvm.MethodName) prog_1_method_43_code (2 : Nat) (Option.some Jvm.ClassFile.FieldType.boolean)).before args0 about1 = true := code_word (m := ⟨2, 38⟩) (meth := k2m38) (c := k2c38) (by decide +kernel) rfl rfl rfl (by decide +kernel)
set_option maxRecDepth 65536 in
theorem w_c14 : (Jvm.Cond.code ({ cls := "LogicBist", name := "appendGate", desc := "(III)I" } : Jvm.MethodName) prog_1_method_20_code (6 : Nat) (Option.some Jvm.ClassFile.FieldType.int)).before args0 about1 = true := code_word (m := ⟨2, 17⟩) (meth := k2m17) (c := k2c17) (by decide +kernel) rfl rfl rfl (by decide +kernel)
set_option maxRecDepth 65536 in
theorem w_c15 : (Jvm.Cond.code ({ cls := "LogicBist", name := "markOutput", desc := "(I)Z" } : Jvm.MethodName) prog_1_method_3_code (2 : Nat) (Option.some Jvm.ClassFile.FieldType.boolean)).before args0 about1 = true := code_word (m := ⟨2, 2⟩) (meth := k2m2) (c := k2c2) (by decide +kernel) rfl rfl rfl (by decide +kernel)
set_option maxRecDepth 65536 in
theorem w_c16 : (Jvm.Cond.code ({ cls := "LogicBist", name := "run", desc := "(I)I" } : Jvm.MethodName) prog_1_method_6_code (3 : Nat) (Option.some Jvm.ClassFile.FieldType.int)).before args0 about1 = true := code_word (m := ⟨2, 5⟩) (meth := k2m5) (c := k2c5) (by decide +kernel) rfl rfl rfl (by decide +kernel)
set_option maxRecDepth 65536 in
theorem w_c17 : (Jvm.Cond.code ({ cls := "LogicBist", name := "applyPattern", desc := "()V" } : Jvm.MethodName) prog_1_method_21_code (6 : Nat) (Option.none : Option Jvm.ClassFile.FieldType)).before args0 about1 = true := code_word (m := ⟨2, 18⟩) (meth := k2m18) (c := k2c18) (by decide +kernel) rfl rfl rfl (by decide +kernel)
set_option maxRecDepth 65536 in
theorem w_c18 : (Jvm.Cond.code ({ cls := "LogicBist", name := "evaluateGroup", desc := "(II)V" } : Jvm.MethodName) prog_1_method_23_code (7 : Nat) (Option.none : Option Jvm.ClassFile.FieldType)).before args0 about1 = true := code_word (m := ⟨2, 20⟩) (meth := k2m20) (c := k2c20) (by decide +kernel) rfl rfl rfl (by decide +kernel)
set_option maxRecDepth 65536 in
theorem w_c19 : (Jvm.Cond.code ({ cls := "LogicBist", name := "inputLane", desc := "(II)J" } : Jvm.MethodName) prog_1_method_24_code (3 : Nat) (Option.some Jvm.ClassFile.FieldType.long)).before args0 about1 = true := code_word (m := ⟨2, 21⟩) (meth := k2m21) (c := k2c21) (by decide +kernel) rfl rfl rfl (by decide +kernel)
set_option maxRecDepth 65536 in
theorem w_c20 : (Jvm.Cond.code ({ cls := "LogicBist", name := "forceLane", desc := "(JII)J" } : Jvm.MethodName) prog_1_method_27_code (10 : Nat) (Option.some Jvm.ClassFile.FieldType.long)).before args0 about1 = true := code_word (m := ⟨2, 24⟩) (meth := k2m24) (c := k2c24) (by decide +kernel) rfl rfl rfl (by decide +kernel)
set_option maxRecDepth 65536 in
theorem w_c21 : (Jvm.Cond.code ({ cls := "LogicBist", name := "gateLane", desc := "(I)J" } : Jvm.MethodName) prog_1_method_25_code (7 : Nat) (Option.some Jvm.ClassFile.FieldType.long)).before args0 about1 = true := code_word (m := ⟨2, 22⟩) (meth := k2m22) (c := k2c22) (by decide +kernel) rfl rfl rfl (by decide +kernel)
set_option maxRecDepth 65536 in
theorem w_c22 : (Jvm.Cond.code ({ cls := "LogicBist", name := "loadLane", desc := "(I)J" } : Jvm.MethodName) prog_1_method_28_code (2 : Nat) (Option.some Jvm.ClassFile.FieldType.long)).before args0 about1 = true := code_word (m := ⟨2, 25⟩) (meth := k2m25) (c := k2c25) (by decide +kernel) rfl rfl rfl (by decide +kernel)
set_option maxRecDepth 65536 in
theorem w_c23 : (Jvm.Cond.code ({ cls := "LogicBist", name := "combine", desc := "(IJJ)J" } : Jvm.MethodName) prog_1_method_26_code (6 : Nat) (Option.some Jvm.ClassFile.FieldType.long)).before args0 about1 = true := code_word (m := ⟨2, 23⟩) (meth := k2m23) (c := k2c23) (by decide +kernel) rfl rfl rfl (by decide +kernel)
set_option maxRecDepth 65536 in
theorem w_c24 : (Jvm.Cond.code ({ cls := "LogicBist", name := "outputWordAt", desc := "(I)I" } : Jvm.MethodName) prog_1_method_29_code (6 : Nat) (Option.some Jvm.ClassFile.FieldType.int)).before args0 about1 = true := code_word (m := ⟨2, 26⟩) (meth := k2m26) (c := k2c26) (by decide +kernel) rfl rfl rfl (by decide +kernel)
set_option maxRecDepth 65536 in
theorem w_c25 : (Jvm.Cond.code ({ cls := "LogicBist", name := "misrStep", desc := "(II)I" } : Jvm.MethodName) prog_1_method_30_code (6 : Nat) (Option.some Jvm.ClassFile.FieldType.int)).before args0 about1 = true := code_word (m := ⟨2, 27⟩) (meth := k2m27) (c := k2c27) (by decide +kernel) rfl rfl rfl (by decide +kernel)
set_option maxRecDepth 65536 in
theorem w_c26 : (Jvm.Cond.code ({ cls := "LogicBist", name := "groupCount", desc := "()I" } : Jvm.MethodName) prog_1_method_34_code (1 : Nat) (Option.some Jvm.ClassFile.FieldType.int)).before args0 about1 = true := code_word (m := ⟨2, 31⟩) (meth := k2m31) (c := k2c31) (by decide +kernel) rfl rfl rfl (by decide +kernel)
set_option maxRecDepth 65536 in
theorem w_c27 : (Jvm.Cond.code ({ cls := "LogicBist", name := "faultCount", desc := "()I" } : Jvm.MethodName) prog_1_method_33_code (1 : Nat) (Option.some Jvm.ClassFile.FieldType.int)).before args0 about1 = true := code_word (m := ⟨2, 30⟩) (meth := k2m30) (c := k2c30) (by decide +kernel) rfl rfl rfl (by decide +kernel)
set_option maxRecDepth 65536 in
theorem w_c28 : (Jvm.Cond.code ({ cls := "LogicBist", name := "recordGroup", desc := "(III)V" } : Jvm.MethodName) prog_1_method_22_code (8 : Nat) (Option.none : Option Jvm.ClassFile.FieldType)).before args0 about1 = true := code_word (m := ⟨2, 19⟩) (meth := k2m19) (c := k2c19) (by decide +kernel) rfl rfl rfl (by decide +kernel)
set_option maxRecDepth 65536 in
theorem w_c29 : (Jvm.Cond.code ({ cls := "LogicBist", name := "groupFirst", desc := "(I)I" } : Jvm.MethodName) prog_1_method_35_code (2 : Nat) (Option.some Jvm.ClassFile.FieldType.int)).before args0 about1 = true := code_word (m := ⟨2, 32⟩) (meth := k2m32) (c := k2c32) (by decide +kernel) rfl rfl rfl (by decide +kernel)
set_option maxRecDepth 65536 in
theorem w_c30 : (Jvm.Cond.code ({ cls := "LogicBist", name := "groupEnd", desc := "(I)I" } : Jvm.MethodName) prog_1_method_36_code (4 : Nat) (Option.some Jvm.ClassFile.FieldType.int)).before args0 about1 = true := code_word (m := ⟨2, 33⟩) (meth := k2m33) (c := k2c33) (by decide +kernel) rfl rfl rfl (by decide +kernel)
set_option maxRecDepth 65536 in
theorem w_c31 : (Jvm.Cond.code ({ cls := "LogicBist", name := "lfsrStep", desc := "(I)I" } : Jvm.MethodName) prog_1_method_31_code (4 : Nat) (Option.some Jvm.ClassFile.FieldType.int)).before args0 about1 = true := code_word (m := ⟨2, 28⟩) (meth := k2m28) (c := k2c28) (by decide +kernel) rfl rfl rfl (by decide +kernel)
set_option maxRecDepth 65536 in
theorem w_c32 : (Jvm.Cond.code ({ cls := "LogicBist", name := "getPatternCount", desc := "()I" } : Jvm.MethodName) prog_1_method_9_code (1 : Nat) (Option.some Jvm.ClassFile.FieldType.int)).before args0 about1 = true := code_word (m := ⟨2, 6⟩) (meth := k2m6) (c := k2c6) (by decide +kernel) rfl rfl rfl (by decide +kernel)
set_option maxRecDepth 65536 in
theorem w_c33 : (Jvm.Cond.code ({ cls := "LogicBist", name := "getLfsrState", desc := "()I" } : Jvm.MethodName) prog_1_method_10_code (1 : Nat) (Option.some Jvm.ClassFile.FieldType.int)).before args0 about1 = true := code_word (m := ⟨2, 7⟩) (meth := k2m7) (c := k2c7) (by decide +kernel) rfl rfl rfl (by decide +kernel)
set_option maxRecDepth 65536 in
theorem w_c34 : (Jvm.Cond.code ({ cls := "LogicBistL3", name := "out", desc := "(III)I" } : Jvm.MethodName) method_3_code (5 : Nat) (Option.some Jvm.ClassFile.FieldType.int)).before args0 about1 = true := code_word (m := ⟨1, 2⟩) (meth := k1m2) (c := k1c2) (by decide +kernel) rfl rfl rfl (by decide +kernel)
set_option maxRecDepth 65536 in
theorem w_c35 : (Jvm.Cond.code ({ cls := "LogicBistL3", name := "gate", desc := "(III)I" } : Jvm.MethodName) method_2_code (3 : Nat) (Option.some Jvm.ClassFile.FieldType.int)).before args0 about1 = true := code_word (m := ⟨1, 1⟩) (meth := k1m1) (c := k1c1) (by decide +kernel) rfl rfl rfl (by decide +kernel)
set_option maxRecDepth 65536 in
theorem w_c36 : (Jvm.Cond.code ({ cls := "LogicBist", name := "getGoldenSignature", desc := "()I" } : Jvm.MethodName) prog_1_method_11_code (1 : Nat) (Option.some Jvm.ClassFile.FieldType.int)).before args0 about1 = true := code_word (m := ⟨2, 8⟩) (meth := k2m8) (c := k2c8) (by decide +kernel) rfl rfl rfl (by decide +kernel)
set_option maxRecDepth 65536 in
theorem w_c37 : (Jvm.Cond.code ({ cls := "LogicBist", name := "getFaultSignature", desc := "(I)I" } : Jvm.MethodName) prog_1_method_12_code (2 : Nat) (Option.some Jvm.ClassFile.FieldType.int)).before args0 about1 = true := code_word (m := ⟨2, 9⟩) (meth := k2m9) (c := k2c9) (by decide +kernel) rfl rfl rfl (by decide +kernel)
set_option maxRecDepth 65536 in
theorem w_c38 : (Jvm.Cond.code ({ cls := "LogicBist", name := "isFault", desc := "(I)Z" } : Jvm.MethodName) prog_1_method_41_code (2 : Nat) (Option.some Jvm.ClassFile.FieldType.boolean)).before args0 about1 = true := code_word (m := ⟨2, 36⟩) (meth := k2m36) (c := k2c36) (by decide +kernel) rfl rfl rfl (by decide +kernel)
set_option maxRecDepth 65536 in
theorem w_c39 : (Jvm.Cond.code ({ cls := "LogicBist", name := "getFirstDetect", desc := "(I)I" } : Jvm.MethodName) prog_1_method_13_code (2 : Nat) (Option.some Jvm.ClassFile.FieldType.int)).before args0 about1 = true := code_word (m := ⟨2, 10⟩) (meth := k2m10) (c := k2c10) (by decide +kernel) rfl rfl rfl (by decide +kernel)
set_option maxRecDepth 65536 in
theorem w_c40 : (Jvm.Cond.code ({ cls := "LogicBist", name := "firstDetectOf", desc := "(I)I" } : Jvm.MethodName) prog_1_method_39_code (2 : Nat) (Option.some Jvm.ClassFile.FieldType.int)).before args0 about1 = true := code_word (m := ⟨2, 34⟩) (meth := k2m34) (c := k2c34) (by decide +kernel) rfl rfl rfl (by decide +kernel)
set_option maxRecDepth 65536 in
theorem w_c41 : (Jvm.Cond.code ({ cls := "LogicBist", name := "isAliased", desc := "(I)Z" } : Jvm.MethodName) prog_1_method_14_code (2 : Nat) (Option.some Jvm.ClassFile.FieldType.boolean)).before args0 about1 = true := code_word (m := ⟨2, 11⟩) (meth := k2m11) (c := k2c11) (by decide +kernel) rfl rfl rfl (by decide +kernel)
set_option maxRecDepth 65536 in
theorem w_c42 : (Jvm.Cond.code ({ cls := "LogicBist", name := "getDetectedCount", desc := "()I" } : Jvm.MethodName) prog_1_method_15_code (4 : Nat) (Option.some Jvm.ClassFile.FieldType.int)).before args0 about1 = true := code_word (m := ⟨2, 12⟩) (meth := k2m12) (c := k2c12) (by decide +kernel) rfl rfl rfl (by decide +kernel)
set_option maxRecDepth 65536 in
theorem w_c43 : (Jvm.Cond.code ({ cls := "LogicBist", name := "coverageAt", desc := "(I)I" } : Jvm.MethodName) prog_1_method_16_code (6 : Nat) (Option.some Jvm.ClassFile.FieldType.int)).before args0 about1 = true := code_word (m := ⟨2, 13⟩) (meth := k2m13) (c := k2c13) (by decide +kernel) rfl rfl rfl (by decide +kernel)
set_option maxRecDepth 65536 in
theorem w_c44 : (Jvm.Cond.code ({ cls := "LogicBist", name := "getFaultCount", desc := "()I" } : Jvm.MethodName) prog_1_method_17_code (1 : Nat) (Option.some Jvm.ClassFile.FieldType.int)).before args0 about1 = true := code_word (m := ⟨2, 14⟩) (meth := k2m14) (c := k2c14) (by decide +kernel) rfl rfl rfl (by decide +kernel)
def codes1 : List Jvm.Cond := [Jvm.Cond.code x code maxLocals ret, Jvm.Cond.code ({ cls := "LogicBistL3", name := "step", desc := "(I)I" } : Jvm.MethodName) method_4_code (2 : Nat) (Option.some Jvm.ClassFile.FieldType.int), Jvm.Cond.code ({ cls := "LogicBist", name := "<init>", desc := "(III)V" } : Jvm.MethodName) prog_1_method_1_code (4 : Nat) (Option.none : Option Jvm.ClassFile.FieldType), Jvm.Cond.code ({ cls := "java/lang/Object", name := "<init>", desc := "()V" } : Jvm.MethodName) object_method_1_code (1 : Nat) (Option.none : Option Jvm.ClassFile.FieldType), Jvm.Cond.code ({ cls := "LogicBist", name := "clamp", desc := "(III)I" } : Jvm.MethodName) prog_1_method_44_code (4 : Nat) (Option.some Jvm.ClassFile.FieldType.int), Jvm.Cond.code ({ cls := "LogicBist", name := "clearSession", desc := "()V" } : Jvm.MethodName) prog_1_method_18_code (2 : Nat) (Option.none : Option Jvm.ClassFile.FieldType), Jvm.Cond.code ({ cls := "LogicBist", name := "resetFault", desc := "(I)V" } : Jvm.MethodName) prog_1_method_19_code (2 : Nat) (Option.none : Option Jvm.ClassFile.FieldType), Jvm.Cond.code ({ cls := "LogicBist", name := "setSeed", desc := "(I)Z" } : Jvm.MethodName) prog_1_method_4_code (3 : Nat) (Option.some Jvm.ClassFile.FieldType.boolean), Jvm.Cond.code ({ cls := "LogicBist", name := "setMisrMask", desc := "(I)Z" } : Jvm.MethodName) prog_1_method_5_code (2 : Nat) (Option.some Jvm.ClassFile.FieldType.boolean), Jvm.Cond.code ({ cls := "LogicBist", name := "addGate", desc := "(III)I" } : Jvm.MethodName) prog_1_method_2_code (5 : Nat) (Option.some Jvm.ClassFile.FieldType.int), Jvm.Cond.code ({ cls := "LogicBist", name := "isGateKind", desc := "(I)Z" } : Jvm.MethodName) prog_1_method_42_code (2 : Nat) (Option.some Jvm.ClassFile.FieldType.boolean), Jvm.Cond.code ({ cls := "LogicBist", name := "isSignal", desc := "(I)Z" } : Jvm.MethodName) prog_1_method_40_code (2 : Nat) (Option.some Jvm.ClassFile.FieldType.boolean), Jvm.Cond.code ({ cls := "LogicBist", name := "signalCount", desc := "()I" } : Jvm.MethodName) prog_1_method_32_code (1 : Nat) (Option.some Jvm.ClassFile.FieldType.int), Jvm.Cond.code ({ cls := "LogicBist", name := "isTwoOperand", desc := "(I)Z" } : Jvm.MethodName) prog_1_method_43_code (2 : Nat) (Option.some Jvm.ClassFile.FieldType.boolean), Jvm.Cond.code ({ cls := "LogicBist", name := "appendGate", desc := "(III)I" } : Jvm.MethodName) prog_1_method_20_code (6 : Nat) (Option.some Jvm.ClassFile.FieldType.int), Jvm.Cond.code ({ cls := "LogicBist", name := "markOutput", desc := "(I)Z" } : Jvm.MethodName) prog_1_method_3_code (2 : Nat) (Option.some Jvm.ClassFile.FieldType.boolean), Jvm.Cond.code ({ cls := "LogicBist", name := "run", desc := "(I)I" } : Jvm.MethodName) prog_1_method_6_code (3 : Nat) (Option.some Jvm.ClassFile.FieldType.int), Jvm.Cond.code ({ cls := "LogicBist", name := "applyPattern", desc := "()V" } : Jvm.MethodName) prog_1_method_21_code (6 : Nat) (Option.none : Option Jvm.ClassFile.FieldType), Jvm.Cond.code ({ cls := "LogicBist", name := "evaluateGroup", desc := "(II)V" } : Jvm.MethodName) prog_1_method_23_code (7 : Nat) (Option.none : Option Jvm.ClassFile.FieldType), Jvm.Cond.code ({ cls := "LogicBist", name := "inputLane", desc := "(II)J" } : Jvm.MethodName) prog_1_method_24_code (3 : Nat) (Option.some Jvm.ClassFile.FieldType.long), Jvm.Cond.code ({ cls := "LogicBist", name := "forceLane", desc := "(JII)J" } : Jvm.MethodName) prog_1_method_27_code (10 : Nat) (Option.some Jvm.ClassFile.FieldType.long), Jvm.Cond.code ({ cls := "LogicBist", name := "gateLane", desc := "(I)J" } : Jvm.MethodName) prog_1_method_25_code (7 : Nat) (Option.some Jvm.ClassFile.FieldType.long), Jvm.Cond.code ({ cls := "LogicBist", name := "loadLane", desc := "(I)J" } : Jvm.MethodName) prog_1_method_28_code (2 : Nat) (Option.some Jvm.ClassFile.FieldType.long), Jvm.Cond.code ({ cls := "LogicBist", name := "combine", desc := "(IJJ)J" } : Jvm.MethodName) prog_1_method_26_code (6 : Nat) (Option.some Jvm.ClassFile.FieldType.long), Jvm.Cond.code ({ cls := "LogicBist", name := "outputWordAt", desc := "(I)I" } : Jvm.MethodName) prog_1_method_29_code (6 : Nat) (Option.some Jvm.ClassFile.FieldType.int), Jvm.Cond.code ({ cls := "LogicBist", name := "misrStep", desc := "(II)I" } : Jvm.MethodName) prog_1_method_30_code (6 : Nat) (Option.some Jvm.ClassFile.FieldType.int), Jvm.Cond.code ({ cls := "LogicBist", name := "groupCount", desc := "()I" } : Jvm.MethodName) prog_1_method_34_code (1 : Nat) (Option.some Jvm.ClassFile.FieldType.int), Jvm.Cond.code ({ cls := "LogicBist", name := "faultCount", desc := "()I" } : Jvm.MethodName) prog_1_method_33_code (1 : Nat) (Option.some Jvm.ClassFile.FieldType.int), Jvm.Cond.code ({ cls := "LogicBist", name := "recordGroup", desc := "(III)V" } : Jvm.MethodName) prog_1_method_22_code (8 : Nat) (Option.none : Option Jvm.ClassFile.FieldType), Jvm.Cond.code ({ cls := "LogicBist", name := "groupFirst", desc := "(I)I" } : Jvm.MethodName) prog_1_method_35_code (2 : Nat) (Option.some Jvm.ClassFile.FieldType.int), Jvm.Cond.code ({ cls := "LogicBist", name := "groupEnd", desc := "(I)I" } : Jvm.MethodName) prog_1_method_36_code (4 : Nat) (Option.some Jvm.ClassFile.FieldType.int), Jvm.Cond.code ({ cls := "LogicBist", name := "lfsrStep", desc := "(I)I" } : Jvm.MethodName) prog_1_method_31_code (4 : Nat) (Option.some Jvm.ClassFile.FieldType.int), Jvm.Cond.code ({ cls := "LogicBist", name := "getPatternCount", desc := "()I" } : Jvm.MethodName) prog_1_method_9_code (1 : Nat) (Option.some Jvm.ClassFile.FieldType.int), Jvm.Cond.code ({ cls := "LogicBist", name := "getLfsrState", desc := "()I" } : Jvm.MethodName) prog_1_method_10_code (1 : Nat) (Option.some Jvm.ClassFile.FieldType.int), Jvm.Cond.code ({ cls := "LogicBistL3", name := "out", desc := "(III)I" } : Jvm.MethodName) method_3_code (5 : Nat) (Option.some Jvm.ClassFile.FieldType.int), Jvm.Cond.code ({ cls := "LogicBistL3", name := "gate", desc := "(III)I" } : Jvm.MethodName) method_2_code (3 : Nat) (Option.some Jvm.ClassFile.FieldType.int), Jvm.Cond.code ({ cls := "LogicBist", name := "getGoldenSignature", desc := "()I" } : Jvm.MethodName) prog_1_method_11_code (1 : Nat) (Option.some Jvm.ClassFile.FieldType.int), Jvm.Cond.code ({ cls := "LogicBist", name := "getFaultSignature", desc := "(I)I" } : Jvm.MethodName) prog_1_method_12_code (2 : Nat) (Option.some Jvm.ClassFile.FieldType.int), Jvm.Cond.code ({ cls := "LogicBist", name := "isFault", desc := "(I)Z" } : Jvm.MethodName) prog_1_method_41_code (2 : Nat) (Option.some Jvm.ClassFile.FieldType.boolean), Jvm.Cond.code ({ cls := "LogicBist", name := "getFirstDetect", desc := "(I)I" } : Jvm.MethodName) prog_1_method_13_code (2 : Nat) (Option.some Jvm.ClassFile.FieldType.int), Jvm.Cond.code ({ cls := "LogicBist", name := "firstDetectOf", desc := "(I)I" } : Jvm.MethodName) prog_1_method_39_code (2 : Nat) (Option.some Jvm.ClassFile.FieldType.int), Jvm.Cond.code ({ cls := "LogicBist", name := "isAliased", desc := "(I)Z" } : Jvm.MethodName) prog_1_method_14_code (2 : Nat) (Option.some Jvm.ClassFile.FieldType.boolean), Jvm.Cond.code ({ cls := "LogicBist", name := "getDetectedCount", desc := "()I" } : Jvm.MethodName) prog_1_method_15_code (4 : Nat) (Option.some Jvm.ClassFile.FieldType.int), Jvm.Cond.code ({ cls := "LogicBist", name := "coverageAt", desc := "(I)I" } : Jvm.MethodName) prog_1_method_16_code (6 : Nat) (Option.some Jvm.ClassFile.FieldType.int), Jvm.Cond.code ({ cls := "LogicBist", name := "getFaultCount", desc := "()I" } : Jvm.MethodName) prog_1_method_17_code (1 : Nat) (Option.some Jvm.ClassFile.FieldType.int)]
set_option maxRecDepth 65536 in
theorem codes_eq : words1.filter isCode = codes1 := rfl
theorem w_codes : ∀ c ∈ words1.filter isCode, c.before args0 about1 = true := by
  rw [codes_eq]
  intro c hc
  simp only [codes1, List.mem_cons, List.not_mem_nil, or_false] at hc
  rcases hc with rfl | rfl | rfl | rfl | rfl | rfl | rfl | rfl | rfl | rfl | rfl | rfl | rfl | rfl | rfl | rfl | rfl | rfl | rfl | rfl | rfl | rfl | rfl | rfl | rfl | rfl | rfl | rfl | rfl | rfl | rfl | rfl | rfl | rfl | rfl | rfl | rfl | rfl | rfl | rfl | rfl | rfl | rfl | rfl | rfl
  · exact w_c0
  · exact w_c1
  · exact w_c2
  · exact w_c3
  · exact w_c4
  · exact w_c5
  · exact w_c6
  · exact w_c7
  · exact w_c8
  · exact w_c9
  · exact w_c10
  · exact w_c11
  · exact w_c12
  · exact w_c13
  · exact w_c14
  · exact w_c15
  · exact w_c16
  · exact w_c17
  · exact w_c18
  · exact w_c19
  · exact w_c20
  · exact w_c21
  · exact w_c22
  · exact w_c23
  · exact w_c24
  · exact w_c25
  · exact w_c26
  · exact w_c27
  · exact w_c28
  · exact w_c29
  · exact w_c30
  · exact w_c31
  · exact w_c32
  · exact w_c33
  · exact w_c34
  · exact w_c35
  · exact w_c36
  · exact w_c37
  · exact w_c38
  · exact w_c39
  · exact w_c40
  · exact w_c41
  · exact w_c42
  · exact w_c43
  · exact w_c44
set_option maxRecDepth 65536 in
theorem w_t1 : (words1.take 24).all (fun c => isCode c || c.before args0 about1) = true := by decide +kernel
set_option maxRecDepth 65536 in
theorem w_t2 : ((words1.drop 24).take 24).all (fun c => isCode c || c.before args0 about1) = true := by decide +kernel
set_option maxRecDepth 65536 in
theorem w_t3 : (((words1.drop 24).drop 24).take 24).all (fun c => isCode c || c.before args0 about1) = true := by decide +kernel
set_option maxRecDepth 65536 in
theorem w_t4 : ((((words1.drop 24).drop 24).drop 24).take 24).all (fun c => isCode c || c.before args0 about1) = true := by decide +kernel
set_option maxRecDepth 65536 in
theorem w_t5 : (((((words1.drop 24).drop 24).drop 24).drop 24).take 24).all (fun c => isCode c || c.before args0 about1) = true := by decide +kernel
set_option maxRecDepth 65536 in
theorem w_t6 : ((((((words1.drop 24).drop 24).drop 24).drop 24).drop 24).take 24).all (fun c => isCode c || c.before args0 about1) = true := by decide +kernel
set_option maxRecDepth 65536 in
theorem w_t7 : (((((((words1.drop 24).drop 24).drop 24).drop 24).drop 24).drop 24).take 24).all (fun c => isCode c || c.before args0 about1) = true := by decide +kernel
set_option maxRecDepth 65536 in
theorem w_t8 : ((((((((words1.drop 24).drop 24).drop 24).drop 24).drop 24).drop 24).drop 24).take 24).all (fun c => isCode c || c.before args0 about1) = true := by decide +kernel
set_option maxRecDepth 65536 in
theorem w_t9 : (((((((((words1.drop 24).drop 24).drop 24).drop 24).drop 24).drop 24).drop 24).drop 24).take 24).all (fun c => isCode c || c.before args0 about1) = true := by decide +kernel
set_option maxRecDepth 65536 in
theorem w_t10 : (((((((((words1.drop 24).drop 24).drop 24).drop 24).drop 24).drop 24).drop 24).drop 24).drop 24).all (fun c => isCode c || c.before args0 about1) = true := by decide +kernel
theorem w_tables : (allAtoms (Jvm.Cond.code x code maxLocals ret :: tables_1)).before args0 about1 = true := by
  rw [allAtoms_all]
  show words1.all (fun c => c.before args0 about1) = true
  refine all_split ?_ w_codes
  rw [← List.take_append_drop 24 words1, List.all_append, w_t1, ← List.take_append_drop 24 (words1.drop 24), List.all_append, w_t2, ← List.take_append_drop 24 ((words1.drop 24).drop 24), List.all_append, w_t3, ← List.take_append_drop 24 (((words1.drop 24).drop 24).drop 24), List.all_append, w_t4, ← List.take_append_drop 24 ((((words1.drop 24).drop 24).drop 24).drop 24), List.all_append, w_t5, ← List.take_append_drop 24 (((((words1.drop 24).drop 24).drop 24).drop 24).drop 24), List.all_append, w_t6, ← List.take_append_drop 24 ((((((words1.drop 24).drop 24).drop 24).drop 24).drop 24).drop 24), List.all_append, w_t7, ← List.take_append_drop 24 (((((((words1.drop 24).drop 24).drop 24).drop 24).drop 24).drop 24).drop 24), List.all_append, w_t8, ← List.take_append_drop 24 ((((((((words1.drop 24).drop 24).drop 24).drop 24).drop 24).drop 24).drop 24).drop 24), List.all_append, w_t9, w_t10]
  rfl
set_option maxRecDepth 65536 in
theorem w_case : (Jvm.Cond.and given_1 narrow_1).before args0 about1 = true := by decide +kernel
theorem w_applies : (headSpec (Jvm.Cond.code x code maxLocals ret :: tables_1) room_1).applies x e0.platform about1 = true :=
  (Spec.applies_iff w_frames).mpr ⟨w_running, w_runnable, w_alone, w_named, w_hears, w_ripe, w_room, w_tables⟩
theorem atStart : AtStart classFile x code maxLocals ret World_1 tables_1 room_1 Calls_1 rest_1 Pre_1 launch0 p0 e0 about1 theMethod args0 below0 :=
  ⟨lists_1, trivial, launch0.admits_env _ _ _, launch0.least_env, fairChoices_fair.cas, fairChoices_fair.clock, w_frames, w_args, w_heap, w_applies, trivial, trivial, w_case⟩
end start1
theorem witness_1 : WitnessClaimed_1 := ⟨start1.p0, start1.e0, start1.about1, start1.theMethod, start1.args0, start1.below0, start1.atStart⟩
end Jvm.Pilot.@@N@@
