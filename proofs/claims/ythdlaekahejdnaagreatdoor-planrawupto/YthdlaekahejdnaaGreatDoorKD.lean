import Derived.Test.YthdlaekahejdnaaGreatDoorKC
set_option linter.unusedVariables false
set_option linter.unusedSimpArgs false
/- Rules by which a program's ideal meaning is reckoned, step by step, from the head. -/
namespace Go.IL
open Go
set_option linter.unusedSimpArgs false

/-- Something hidden from simp: as an instance argument it is never entered. -/
class Hid (α : Type) where
  out : α
def bindO {α : Type} (o : Option α) [K : Hid (α → Prop)] : Prop := ∃ v, o = some v ∧ K.out v
theorem bindO_some {α : Type} (v : α) (K : α → Prop) : bindO (some v) (K := ⟨K⟩) = K v := by simp [bindO]
theorem bindO_none {α : Type} (K : α → Prop) : bindO none (K := ⟨K⟩) = False := by simp [bindO]
theorem bindO_if {α : Type} (c : Prop) [Decidable c] (o : Option α) (K : α → Prop) : bindO (if c then o else none) (K := ⟨K⟩) = (c ∧ bindO o (K := ⟨K⟩)) := by by_cases h : c <;> simp [bindO, h]
theorem bindO_bind {α β : Type} (o : Option α) (f : α → Option β) (K : β → Prop) : bindO (o.bind f) (K := ⟨K⟩) = bindO o (K := ⟨fun v => bindO (f v) (K := ⟨K⟩)⟩) := by
  cases o <;> simp [bindO]
theorem bindO_map {α β : Type} (o : Option α) (f : α → β) (K : β → Prop) : bindO (o.map f) (K := ⟨K⟩) = bindO o (K := ⟨fun v => K (f v)⟩) := by cases o <;> simp [bindO]
theorem bindO_elim {α : Type} {o : Option α} {v : α} {K : α → Prop} (h : o = some v) (hk : K v) : bindO o (K := ⟨K⟩) := ⟨v, h, hk⟩

def condO (v : V) [A : Hid Prop] [B : Hid Prop] : Prop := ∃ t, v = .val (.bool t) ∧ ((t = true → A.out) ∧ (t = false → B.out))
theorem condO_bool (b : Bool) (A B : Prop) : condO (.val (.bool b)) (A := ⟨A⟩) (B := ⟨B⟩) = ((b = true → A) ∧ (b = false → B)) := by simp [condO]
theorem condO_true (A B : Prop) : condO (.val (.bool true)) (A := ⟨A⟩) (B := ⟨B⟩) = A := by simp [condO]
theorem condO_false (A B : Prop) : condO (.val (.bool false)) (A := ⟨A⟩) (B := ⟨B⟩) = B := by simp [condO]
def guardO (v : V) (want : Bool) [A : Hid Prop] [B : Hid Prop] : Prop := ∃ x, yv v = some x ∧ (x = some want → A.out) ∧ (x ≠ some want → B.out)
theorem guardO_true (b : Bool) (A B : Prop) : guardO (.val (.bool b)) true (A := ⟨A⟩) (B := ⟨B⟩) = ((b = true → A) ∧ (b = false → B)) := by cases b <;> simp [guardO, yv]
theorem guardO_false (b : Bool) (A B : Prop) : guardO (.val (.bool b)) false (A := ⟨A⟩) (B := ⟨B⟩) = ((b = false → A) ∧ (b = true → B)) := by cases b <;> simp [guardO, yv]
theorem guardO_undef (w : Bool) (A B : Prop) : guardO (.val undef) w (A := ⟨A⟩) (B := ⟨B⟩) = B := by simp [guardO, yv, undef]
theorem guardO_tt (A B : Prop) : guardO (.val (.bool true)) true (A := ⟨A⟩) (B := ⟨B⟩) = A := by simp [guardO, yv]
theorem guardO_ff (A B : Prop) : guardO (.val (.bool false)) false (A := ⟨A⟩) (B := ⟨B⟩) = A := by simp [guardO, yv]
theorem guardO_tf (A B : Prop) : guardO (.val (.bool true)) false (A := ⟨A⟩) (B := ⟨B⟩) = B := by simp [guardO, yv]
theorem guardO_ft (A B : Prop) : guardO (.val (.bool false)) true (A := ⟨A⟩) (B := ⟨B⟩) = B := by simp [guardO, yv]

def zeroL (P : Program) (t : TypeId) : Option (List V) := (zeroI P t).bind fun z => if z.cells.all (·.oneCell') = true ∧ placesOk P t = true then some (z.cells.toList.map ofScalar) else none
def buildF (P : Program) (t : TypeId) (ps : List (Nat × V)) : Option (List V) := (zeroL P t).bind fun z => buildI P z (placesI P t) ps
def boxO (v : V) (H : Heap) [K : Hid (V → Heap → Prop)] : Prop := ∀ id, H id = .dead → v.shown = true ∧ K.out (.ptr id v.cells.length 0 0) (H.set id (.mem v.cells.length [v]))
theorem boxO_agg (cs : List V) (H : Heap) (K : V → Heap → Prop) : boxO (.agg cs) H (K := ⟨K⟩) = ∀ id, H id = .dead → K (.ptr id cs.length 0 0) (H.set id (.mem cs.length [.agg cs])) := by simp [boxO, V.shown, V.cells, V.one, Value.oneCell']
theorem boxO_str (l : List UInt8) (H : Heap) (K : V → Heap → Prop) : boxO (.str l) H (K := ⟨K⟩) = ∀ id, H id = .dead → K (.ptr id 1 0 0) (H.set id (.mem 1 [.str l])) := by simp [boxO, V.shown, V.cells, V.one, Value.oneCell']
theorem boxO_int (k : IntKind) (n : Int) (H : Heap) (K : V → Heap → Prop) : boxO (.val (.int k n)) H (K := ⟨K⟩) = ∀ id, H id = .dead → K (.ptr id 1 0 0) (H.set id (.mem 1 [.val (.int k n)])) := by simp [boxO, V.shown, V.cells, V.one, Value.oneCell']
theorem boxO_bool (b : Bool) (H : Heap) (K : V → Heap → Prop) : boxO (.val (.bool b)) H (K := ⟨K⟩) = ∀ id, H id = .dead → K (.ptr id 1 0 0) (H.set id (.mem 1 [.val (.bool b)])) := by simp [boxO, V.shown, V.cells, V.one, Value.oneCell']
theorem boxO_sl (xs : List V) (H : Heap) (K : V → Heap → Prop) : boxO (.sl xs) H (K := ⟨K⟩) = ∀ id, H id = .dead → K (.ptr id 1 0 0) (H.set id (.mem 1 [.sl xs])) := by simp [boxO, V.shown, V.cells, V.one, Value.oneCell']
theorem boxO_nil  (H : Heap) (K : V → Heap → Prop) : boxO (.nil) H (K := ⟨K⟩) = ∀ id, H id = .dead → K (.ptr id 1 0 0) (H.set id (.mem 1 [.nil])) := by simp [boxO, V.shown, V.cells, V.one, Value.oneCell']
theorem boxO_ptr (i e k j : Nat) (H : Heap) (K : V → Heap → Prop) : boxO (.ptr i e k j) H (K := ⟨K⟩) = ∀ id, H id = .dead → K (.ptr id 1 0 0) (H.set id (.mem 1 [.ptr i e k j])) := by simp [boxO, V.shown, V.cells, V.one, Value.oneCell']
theorem boxO_ar (i e k j : Nat) (H : Heap) (K : V → Heap → Prop) : boxO (.ar i e k j) H (K := ⟨K⟩) = ∀ id, H id = .dead → K (.ptr id 1 0 0) (H.set id (.mem 1 [.ar i e k j])) := by simp [boxO, V.shown, V.cells, V.one, Value.oneCell']
theorem boxO_fn (f : Nat) (cs : List V) (H : Heap) (K : V → Heap → Prop) : boxO (.fn f cs) H (K := ⟨K⟩) = ∀ id, H id = .dead → K (.ptr id 1 0 0) (H.set id (.mem 1 [.fn f cs])) := by simp [boxO, V.shown, V.cells, V.one, Value.oneCell']
def bsO (P : Program) (t : TypeId) (n : Nat) (parts : List (Nat × Operand)) (vs : List V) (H : Heap) [K : Hid (V → Heap → Prop)] : Prop :=
  ∀ id, H id = .dead → ∃ e, elI P t = some e ∧ (inOrder n 0 parts && zok P e && decide (n * szI P e ≤ 16777216) && ((frzAll H vs).1.all fun v => v.shown && v.cells.length == szI P e)) = true ∧
    K.out (.ar id (szI P e) 0 n) ((frzAll H vs).2.set id (.mem (szI P e) (frzAll H vs).1))
/-- A literal of a slice whose parts hold no slices. -/
def plainV : V → Bool
  | .nil | .ar .. => false
  | .agg cs => cs.all fun v => match v with | .nil | .ar .. => false | _ => true
  | _ => true
theorem frz1_plain {H : Heap} {v : V} (h : (match v with | .nil | .ar .. => false | _ => true) = true) : frz1 H v = (v, H) := by
  cases v <;> simp at h <;> rfl
theorem frzs_plain {H : Heap} : ∀ (cs : List V), (cs.all fun v => match v with | .nil | .ar .. => false | _ => true) = true → frzs H cs = (cs, H)
  | [], _ => rfl
  | v :: vs, h => by
    simp only [List.all_cons, Bool.and_eq_true] at h
    simp [frzs, frz1_plain h.1, frzs_plain vs h.2]
theorem frz_plain {H : Heap} {v : V} (h : plainV v = true) : frz H v = (v, H) := by
  cases v <;> simp [plainV] at h <;> try rfl
  rename_i cs
  simp only [frz]
  rw [frzs_plain cs (by simp only [List.all_eq_true]; intro x hx; have := h x hx; revert this; cases x <;> simp)]
theorem frzAll_plain {H : Heap} : ∀ (vs : List V), vs.all plainV = true → frzAll H vs = (vs, H)
  | [], _ => rfl
  | v :: vs, h => by
    simp only [List.all_cons, Bool.and_eq_true] at h
    simp [frzAll, frz_plain h.1, frzAll_plain vs h.2]

def itO (P : Program) (W0 : World) (f : Nat) (vs : List V) (H : Heap) [K : Hid (V → Heap → Prop)] : Prop := IT P W0 f vs H K.out
def callO (P : Program) (W0 : World) (q : Bool) (s : Option Sem1) (f : Nat) (vs : List V) (H : Heap) [K : Hid (V → Heap → Prop)] : Prop :=
  match s with
  | some s => bindO (s vs H) (K := ⟨fun v => K.out v H⟩)
  | none => if q then ∃ v, IT P W0 f vs H (fun v' H' => v' = v ∧ H' = H) ∧ K.out v H else IT P W0 f vs H K.out
theorem callO_some {P : Program} {W0 : World} {q : Bool} {s : Sem1} {f : Nat} {vs : List V} {H : Heap} {K : V → Heap → Prop} : callO P W0 q (some s) f vs H (K := ⟨K⟩) = bindO (s vs H) (K := ⟨fun v => K v H⟩) := by simp [callO]
theorem callO_none {P : Program} {W0 : World} {f : Nat} {vs : List V} {H : Heap} {K : V → Heap → Prop} : callO P W0 false none f vs H (K := ⟨K⟩) = itO P W0 f vs H (K := ⟨K⟩) := by simp [callO, itO]
theorem itO_eq {P : Program} {W0 : World} {f : Nat} {vs : List V} {H : Heap} {K : V → Heap → Prop} : itO P W0 f vs H (K := ⟨K⟩) = IT P W0 f vs H K := by simp [itO]
def fnO (P : Program) (W0 : World) (Φ : Env) (q : Bool) (g : V) (vs : List V) (H : Heap) [K : Hid (V → Heap → Prop)] : Prop :=
  match g with
  | .fn f cap => callO P W0 q (Φ.get f) f (vs ++ cap) H (K := K)
  | _ => False
theorem fnO_fn {P : Program} {W0 : World} {Φ : Env} {q : Bool} {f : Nat} {cap : List V} {vs : List V} {H : Heap} {K : V → Heap → Prop} : fnO P W0 Φ q (.fn f cap) vs H (K := ⟨K⟩) = callO P W0 q (Φ.get f) f (vs ++ cap) H (K := ⟨K⟩) := by simp [fnO]
def appO (P : Program) (H : Heap) (id : Nat) (t : TypeId) (x y : V) [K : Hid (V → Heap → Prop)] : Prop := appendI P H id t x y K.out
theorem appO_eq {P : Program} {H : Heap} {id : Nat} {t : TypeId} {x y : V} {K : V → Heap → Prop} : appO P H id t x y (K := ⟨K⟩) = appendI P H id t x y K := by simp [appO]

section
variable {P : Program} {W0 : World} {Φ : Env} {q : Quiet} {fr : Fr} {H : Heap} {K : V → Heap → Prop}
theorem stepS_move (x : Operand) : stepS P W0 Φ q (.move x) fr H K = K (evI fr x) H := rfl
theorem stepS_assign (x : Operand) : stepS P W0 Φ q (.assign x) fr H K = K (evI fr x) H := rfl
def pickV (c a b : V) : Option V := match c with | .val (.bool t) => some (if t then a else b) | _ => none
theorem stepS_pick (c a b : Operand) : stepS P W0 Φ q (.pick c a b) fr H K = bindO (pickV (evI fr c) (evI fr a) (evI fr b)) (K := ⟨fun v => K v H⟩) := by
  apply propext
  constructor
  · rintro ⟨t, h1, h2⟩
    rw [h1]
    exact ⟨_, rfl, h2⟩
  · rintro ⟨v, h1, h2⟩
    unfold pickV at h1
    split at h1
    · rename_i t ht; cases h1; exact ⟨t, ht, h2⟩
    · cases h1
theorem pickV_bool (t : Bool) (a b : V) : pickV (.val (.bool t)) a b = some (if t = true then a else b) := rfl
theorem alloc_iff (t : TypeId) (id : Nat) : opI P H id (evI fr) (.alloc t) K = bindO (zeroF P t) (K := ⟨fun p => K (.ptr id p.1 0 0) (H.set id (.mem p.1 [p.2]))⟩) := by
  apply propext
  unfold zeroF
  constructor
  · rintro ⟨z, h1, h2, h3⟩
    exact ⟨_, by rw [h1]; simp only [Option.bind_some]; rw [if_pos h2], h3⟩
  · rintro ⟨p, h1, h2⟩
    cases hz : zeroI P t with
    | none => rw [hz] at h1; cases h1
    | some z =>
      rw [hz] at h1
      simp only [Option.bind_some] at h1
      by_cases hc : z.cells.all (·.oneCell') = true
      · rw [if_pos hc] at h1; cases h1; exact ⟨z, hz, hc, h2⟩
      · rw [if_neg hc] at h1; cases h1
theorem stepS_alloc (t : TypeId) (hb : bldT P t = false) : stepS P W0 Φ q (.alloc t) fr H K = ∀ id, H id = .dead → bindO (zeroF P t) (K := ⟨fun p => K (.ptr id p.1 0 0) (H.set id (.mem p.1 [p.2]))⟩) := by
  show (∀ id, H id = .dead → (bldT P t = true → id % 4096 = t) → opI P H id (evI fr) (.alloc t) K) = _
  simp only [hb, alloc_iff, Bool.false_eq_true, false_implies, true_implies]
theorem stepS_allocB (t : TypeId) (hb : bldT P t = true) : stepS P W0 Φ q (.alloc t) fr H K = ∀ id, H id = .dead → id % 4096 = t → bindO (zeroF P t) (K := ⟨fun p => K (.ptr id p.1 0 0) (H.set id (.mem p.1 [p.2]))⟩) := by
  show (∀ id, H id = .dead → (bldT P t = true → id % 4096 = t) → opI P H id (evI fr) (.alloc t) K) = _
  simp only [hb, alloc_iff, true_implies]
theorem stepS_box (t : TypeId) (x : Operand) : stepS P W0 Φ q (.box t x) fr H K = boxO (evI fr x) H (K := ⟨K⟩) := rfl
theorem stepS_build (t : TypeId) (ps : Array (Nat × Operand)) : stepS P W0 Φ q (.build t ps) fr H K = bindO (buildF P t (ps.toList.map fun p => (p.1, evI fr p.2))) (K := ⟨fun cs => K (.agg cs) H⟩) := by
  apply propext
  unfold buildF zeroL
  constructor
  · rintro ⟨z, cs, h1, h2, h3, h4, h5⟩
    exact ⟨cs, by rw [h1]; simp only [Option.bind_some]; rw [if_pos ⟨h2, h3⟩]; exact h4, h5⟩
  · rintro ⟨cs, h1, h2⟩
    cases hz : zeroI P t with
    | none => rw [hz] at h1; cases h1
    | some z =>
      rw [hz] at h1
      simp only [Option.bind_some] at h1
      by_cases hc : z.cells.all (·.oneCell') = true ∧ placesOk P t = true
      · rw [if_pos hc] at h1; exact ⟨z, cs, hz, hc.1, hc.2, h1, h2⟩
      · rw [if_neg hc] at h1; cases h1
theorem stepS_buildSlice (t : TypeId) (n : Nat) (ps : Array (Nat × Operand)) : stepS P W0 Φ q (.buildSlice t n ps) fr H K = bsO P t n ps.toList (ps.toList.map fun p => evI fr p.2) H (K := ⟨K⟩) := rfl
theorem stepS_load (t : TypeId) (a : Operand) : stepS P W0 Φ q (.load t a) fr H K = bindO (loadI P H t (evI fr a)) (K := ⟨fun v => K v H⟩) := rfl
theorem stepS_store (t : TypeId) (a x : Operand) : stepS P W0 Φ q (.store t a x) fr H K = bindO (storeI P H t (evI fr a) (evI fr x)) (K := ⟨fun H' => K (.val undef) H'⟩) := rfl
def nilV (v : V) : Option V := match v with | .ptr i es k j => some (.ptr i es k j) | _ => none
theorem stepS_nilCheck (x : Operand) : stepS P W0 Φ q (.nilCheck x) fr H K = bindO (nilV (evI fr x)) (K := ⟨fun v => K v H⟩) := by
  apply propext
  constructor
  · rintro ⟨⟨i, es, k, j, h1⟩, h2⟩
    rw [h1] at h2 ⊢
    exact ⟨_, rfl, h2⟩
  · rintro ⟨v, h1, h2⟩
    unfold nilV at h1
    split at h1
    · rename_i i es k j he
      cases h1
      exact ⟨⟨i, es, k, j, he⟩, by rw [he]; exact h2⟩
    · cases h1
theorem stepS_binOp (op : BinOp) (t : TypeId) (x y : Operand) (r : TypeId) : stepS P W0 Φ q (.binOp op t x y r) fr H K = bindO (binX P op t x y (evI fr x) (evI fr y)) (K := ⟨fun v => K v H⟩) := rfl
theorem stepS_unOp (op : UnOp) (t : TypeId) (x : Operand) : stepS P W0 Φ q (.unOp op t x) fr H K = bindO (unI op (evI fr x)) (K := ⟨fun v => K v H⟩) := rfl
theorem stepS_convert (s d : TypeId) (x : Operand) : stepS P W0 Φ q (.convert s d x) fr H K = bindO (convX P H s d (evI fr x)) (K := ⟨fun v => K v H⟩) := rfl
theorem stepS_fieldAddr (s : TypeId) (x : Operand) (f : Nat) : stepS P W0 Φ q (.fieldAddr s x f) fr H K = bindO (fieldAddrI P s f (evI fr x)) (K := ⟨fun v => K v H⟩) := rfl
theorem stepS_field (s : TypeId) (x : Operand) (f : Nat) : stepS P W0 Φ q (.field s x f) fr H K = bindO (fieldI P s f (evI fr x)) (K := ⟨fun v => K v H⟩) := rfl
theorem stepS_indexAddr (t : TypeId) (x i : Operand) : stepS P W0 Φ q (.indexAddr t x i) fr H K = bindO (indexAddrI P t (evI fr x) (evI fr i)) (K := ⟨fun v => K v H⟩) := rfl
theorem stepS_index (t : TypeId) (x i : Operand) : stepS P W0 Φ q (.index t x i) fr H K = bindO (indexI P t (evI fr x) (evI fr i)) (K := ⟨fun v => K v H⟩) := rfl
theorem stepS_slice (t : TypeId) (x : Operand) (lo hi mx : Option Operand) : stepS P W0 Φ q (.slice t x lo hi mx) fr H K = bindO (sliceI P t (evI fr x) (lo.map (evI fr)) (hi.map (evI fr)) (mx.map (evI fr))) (K := ⟨fun v => K v H⟩) := rfl
def extV (v : V) (i : Nat) : Option V := match v with | .tup vs => vs[i]? | _ => none
theorem stepS_extract (x : Operand) (i : Nat) : stepS P W0 Φ q (.extract x i) fr H K = bindO (extV (evI fr x) i) (K := ⟨fun v => K v H⟩) := by
  apply propext
  constructor
  · rintro ⟨vs, v, h1, h2, h3⟩
    rw [h1]
    exact ⟨v, h2, h3⟩
  · rintro ⟨v, h1, h2⟩
    unfold extV at h1
    split at h1
    · rename_i vs he; exact ⟨vs, v, he, h1, h2⟩
    · cases h1
theorem stepS_makeFunc (f : Nat) (cap : Array Operand) : stepS P W0 Φ q (.makeFunc (.func f) #[] cap) fr H K = K (.fn f (cap.toList.map (evI fr))) H := by
  apply propext
  exact ⟨fun h => h.2, fun h => ⟨rfl, h⟩⟩
theorem stepS_len (x : Operand) (t : TypeId) : stepS P W0 Φ q (.call { callee := .builtin .len, args := #[x], argTypes := #[t] }) fr H K = bindO (lenI P t H (evI fr x)) (K := ⟨fun n => K (.int n) H⟩) := by
  apply propext
  constructor
  · rintro ⟨t', x', n, h1, h2, h3, h4⟩
    simp at h1 h2
    subst h1 h2
    exact ⟨n, h3, h4⟩
  · rintro ⟨n, h3, h4⟩
    exact ⟨t, x, n, rfl, rfl, h3, h4⟩
def minV (a b : V) : Option V := match a, b with | .val (.int k a), .val (.int k' b) => if k = k' then some (.val (.int k (min a b))) else none | _, _ => none
theorem stepS_min (x y : Operand) (ts : Array TypeId) : stepS P W0 Φ q (.call { callee := .builtin .min, args := #[x, y], argTypes := ts }) fr H K = bindO (minV (evI fr x) (evI fr y)) (K := ⟨fun n => K n H⟩) := by
  apply propext
  constructor
  · rintro ⟨x', y', k, a, b, h1, h2, h3, h4⟩
    simp at h1
    obtain ⟨rfl, rfl⟩ := h1
    rw [h2, h3]
    exact ⟨_, by simp [minV], h4⟩
  · rintro ⟨v, h1, h2⟩
    unfold minV at h1
    split at h1
    · rename_i k a k' b e1 e2
      split at h1
      · rename_i hk; subst hk; cases h1; exact ⟨x, y, k, a, b, rfl, e1, e2, h2⟩
      · cases h1
    · cases h1
def isSrc : Option TypeDesc → Bool | some (.slice _) | some .string => true | _ => false
theorem append_iff (x y : Operand) (t s : TypeId) (id : Nat) : opI P H id (evI fr) (.call { callee := .builtin .append, args := #[x, y], argTypes := #[t, s] }) K = (isSrc (P.underlying s) = true ∧ appO P H id t (evI fr x) (evI fr y) (K := ⟨K⟩)) := by
  apply propext
  constructor
  · rintro ⟨t', s', x', y', h1, h2, h3, h4⟩
    simp at h1 h2
    obtain ⟨rfl, rfl⟩ := h1
    obtain ⟨rfl, rfl⟩ := h2
    exact ⟨by unfold isSrc; exact h3, h4⟩
  · rintro ⟨h3, h4⟩
    exact ⟨t, s, x, y, rfl, rfl, by unfold isSrc at h3; exact h3, h4⟩
theorem stepS_append (x y : Operand) (t s : TypeId) (hs : isStr (P.underlying s) = false) : stepS P W0 Φ q (.call { callee := .builtin .append, args := #[x, y], argTypes := #[t, s] }) fr H K = ∀ id, H id = .dead → isSrc (P.underlying s) = true ∧ appO P H id t (evI fr x) (evI fr y) (K := ⟨K⟩) := by
  show (∀ id, H id = .dead → appTagP P t s (evI fr x) id → opI P H id (evI fr) (.call { callee := .builtin .append, args := #[x, y], argTypes := #[t, s] }) K) = _
  simp only [append_iff]
  apply propext
  refine forall_congr' fun id => forall_congr' fun hd => ?_
  exact ⟨fun h => h (fun e _ h2 => by rw [hs] at h2; cases h2), fun h _ => h⟩
/-- .. of a text: the new row bears its tag. -/
def tagA (x : V) (e id : Nat) : Prop := match x with | .nil => id % 4096 = e | .ar i _ _ _ => i % 4096 = e → id % 4096 = e | _ => True
theorem tagA_nil (e id : Nat) : tagA .nil e id = (id % 4096 = e) := rfl
theorem tagA_ar (i es off len e id : Nat) : tagA (.ar i es off len) e id = (i % 4096 = e → id % 4096 = e) := rfl
def tagE (e : Option TypeId) (x : V) (id : Nat) : Prop := match e with | some e => e < 4095 → tagA x e id | none => True
theorem tagE_some (e : TypeId) (x : V) (id : Nat) : tagE (some e) x id = (e < 4095 → tagA x e id) := rfl
theorem stepS_appendS (x y : Operand) (t s : TypeId) (hs : isStr (P.underlying s) = true) : stepS P W0 Φ q (.call { callee := .builtin .append, args := #[x, y], argTypes := #[t, s] }) fr H K = ∀ id, H id = .dead → tagE (elI P t) (evI fr x) id → isSrc (P.underlying s) = true ∧ appO P H id t (evI fr x) (evI fr y) (K := ⟨K⟩) := by
  show (∀ id, H id = .dead → appTagP P t s (evI fr x) id → opI P H id (evI fr) (.call { callee := .builtin .append, args := #[x, y], argTypes := #[t, s] }) K) = _
  simp only [append_iff]
  apply propext
  refine forall_congr' fun id => forall_congr' fun hd => ?_
  have : tagE (elI P t) (evI fr x) id ↔ appTagP P t s (evI fr x) id := by
    unfold tagE appTagP
    cases he : elI P t with
    | none => simp
    | some e =>
      constructor
      · intro h e' h1 _ h3; cases h1; exact h h3
      · intro h h3; exact h e rfl hs h3
  rw [this]
theorem stepS_call (g : Operand) (args : Array Operand) (ts : Array TypeId) : stepS P W0 Φ q (.call { callee := .value g, args := args, argTypes := ts }) fr H K = fnO P W0 Φ (quietO q g) (evI fr g) (args.toList.map (evI fr)) H (K := ⟨K⟩) := by
  simp only [stepS, fnO]
  cases hg : evI fr g <;> try rfl
  rename_i f cap
  simp only [callO]
  cases hs : Φ.get f with
  | some s => rfl
  | none => simp only [stepI, hg]

theorem stepS_makeMap (t : TypeId) : stepS P W0 Φ q (.makeMap t none) fr H K = ∀ id, H id = .dead → noIter H id → K (.mp id) (H.set id (.map [])) := rfl
theorem stepS_lookup (t : TypeId) (m k : Operand) (ok : Bool) : stepS P W0 Φ q (.lookup t m k ok) fr H K = bindO (lookI P H t (evI fr m) (evI fr k) ok) (K := ⟨fun v => K v H⟩) := rfl
/-- What a map holds, that may be written. -/
def mapOf (H : Heap) : V → Option (Nat × List (V × V))
  | .mp i => match H i with | .map kvs => some (i, kvs) | _ => none
  | _ => none
theorem mapOf_some {H : Heap} {v : V} {i : Nat} {kvs : List (V × V)} (h : mapOf H v = some (i, kvs)) : v = .mp i ∧ H i = .map kvs := by
  unfold mapOf at h
  split at h
  · split at h
    · cases h; exact ⟨rfl, by assumption⟩
    · cases h
  · cases h
theorem mapOf_mp (H : Heap) (i : Nat) : mapOf H (.mp i) = (match H i with | .map kvs => some (i, kvs) | _ => none) := by cases h : H i <;> simp [mapOf, h]
def updO (H : Heap) (eq : V → V → Option Bool) (k x : V) (i : Nat) (kvs : List (V × V)) [K : Hid (V → Heap → Prop)] : Prop :=
  bindO (findI eq k kvs) (K := ⟨fun r => noIter H i ∧ K.out (.val undef) (H.set i (.map (setKV kvs r k x)))⟩)
theorem updO_eq (eq : V → V → Option Bool) (k x : V) (i : Nat) (kvs : List (V × V)) : updO H eq k x i kvs (K := ⟨K⟩) = bindO (findI eq k kvs) (K := ⟨fun r => noIter H i ∧ K (.val undef) (H.set i (.map (setKV kvs r k x)))⟩) := rfl
theorem stepS_mapUpdate (t : TypeId) (m k x : Operand) : stepS P W0 Φ q (.mapUpdate t m k x) fr H K = bindO (mapK P t) (K := ⟨fun q => bindO (mapOf H (evI fr m)) (K := ⟨fun p => updO H (keyI P q.1) (evI fr k) (evI fr x) p.1 p.2 (K := ⟨K⟩)⟩)⟩) := by
  apply propext
  constructor
  · rintro ⟨q, i, kvs, r, h1, h2, h3, h4, h5, h6⟩
    exact ⟨q, h1, (i, kvs), by simp [mapOf, h2, h3], r, h4, h5, h6⟩
  · rintro ⟨q, h1, ⟨i, kvs⟩, h2, r, h4, h5, h6⟩
    obtain ⟨h2, h3⟩ := mapOf_some h2
    exact ⟨q, i, kvs, r, h1, h2, h3, h4, h5, h6⟩
theorem stepS_range (t : TypeId) (m : Operand) : stepS P W0 Φ q (.range t m) fr H K = ∀ id, H id = .dead → (mapI P t).isSome = true ∧ bindO (mapOf H (evI fr m)) (K := ⟨fun p => K (.it id) (H.set id (.iter p.1 (p.2, none)))⟩) := by
  apply propext
  refine forall_congr' fun id => forall_congr' fun hd => ?_
  constructor
  · rintro ⟨i, kvs, h1, h2, h3, h4⟩
    exact ⟨h1, (i, kvs), by simp [mapOf, h2, h3], h4⟩
  · rintro ⟨h1, ⟨i, kvs⟩, h2, h4⟩
    obtain ⟨h2, h3⟩ := mapOf_some h2
    exact ⟨i, kvs, h1, h2, h3, h4⟩
def iterOf (H : Heap) : V → Option (Nat × Nat × List (V × V) × Option (V × V))
  | .it i => match H i with | .iter m st => some (i, m, st) | _ => none
  | _ => none
theorem iterOf_some {H : Heap} {v : V} {i m : Nat} {st : List (V × V) × Option (V × V)} (h : iterOf H v = some (i, m, st)) : v = .it i ∧ H i = .iter m st := by
  unfold iterOf at h
  split at h
  · split at h
    · cases h; exact ⟨rfl, by assumption⟩
    · cases h
  · cases h
theorem iterOf_it (H : Heap) (i : Nat) : iterOf H (.it i) = (match H i with | .iter m st => some (i, m, st) | _ => none) := by cases h : H i <;> simp [iterOf, h]
/-- A step over a map: nothing is left; or whichever comes. -/
def nextO (H : Heap) (i m : Nat) (left : List (V × V)) [K : Hid (V → Heap → Prop)] : Prop :=
  (left = [] → K.out (.tup [.val (.bool false)]) (H.set i .dead)) ∧ ∀ j p, left[j]? = some p → K.out (.tup [.val (.bool true), p.1, p.2]) (H.set i (.iter m (left.eraseIdx j, some p)))
theorem nextO_eq (i m : Nat) (left : List (V × V)) : nextO H i m left (K := ⟨K⟩) = ((left = [] → K (.tup [.val (.bool false)]) (H.set i .dead)) ∧ ∀ j p, left[j]? = some p → K (.tup [.val (.bool true), p.1, p.2]) (H.set i (.iter m (left.eraseIdx j, some p)))) := rfl
theorem nextO_nil (i m : Nat) : nextO H i m [] (K := ⟨K⟩) = K (.tup [.val (.bool false)]) (H.set i .dead) := by simp [nextO]
theorem stepS_next (it : Operand) : stepS P W0 Φ q (.next it false) fr H K = bindO (iterOf H (evI fr it)) (K := ⟨fun p => nextO H p.1 p.2.1 p.2.2.1 (K := ⟨K⟩)⟩) := by
  apply propext
  constructor
  · rintro ⟨i, m, st, h1, h2, h3, h4⟩
    exact ⟨(i, m, st), by simp [iterOf, h1, h2], h3, h4⟩
  · rintro ⟨⟨i, m, st⟩, h1, h3, h4⟩
    obtain ⟨h1, h2⟩ := iterOf_some h1
    exact ⟨i, m, st, h1, h2, h3, h4⟩
theorem stepS_entry (it : Operand) : stepS P W0 Φ q (.entry it) fr H K = bindO (iterOf H (evI fr it)) (K := ⟨fun p => bindO p.2.2.2 (K := ⟨fun p => K (.tup [p.1, p.2]) H⟩)⟩) := by
  apply propext
  constructor
  · rintro ⟨i, m, st, p, h1, h2, h3, h4⟩
    exact ⟨(i, m, st), by simp [iterOf, h1, h2], p, h3, h4⟩
  · rintro ⟨⟨i, m, st⟩, h1, p, h3, h4⟩
    obtain ⟨h1, h2⟩ := iterOf_some h1
    exact ⟨i, m, st, p, h1, h2, h3, h4⟩
def rowOf (H : Heap) : V → Option (Nat × Nat × Nat × Nat × List V)
  | .ar i es off len => match H i with | .mem es' xs => if es' = es then some (i, es, off, len, xs) else none | _ => none
  | _ => none
theorem rowOf_ar (H : Heap) (i es off len : Nat) : rowOf H (.ar i es off len) = (match H i with | .mem es' xs => if es' = es then some (i, es, off, len, xs) else none | _ => none) := by cases h : H i <;> simp [rowOf, h]
theorem stepS_clear (x : Operand) (t : TypeId) : stepS P W0 Φ q (.call { callee := .builtin .clear, args := #[x], argTypes := #[t] }) fr H K =
    bindO (elI P t) (K := ⟨fun e => bindO (rowOf H (evI fr x)) (K := ⟨fun p => (zok P e = true ∧ p.2.1 = szI P e ∧ p.2.2.1 + p.2.2.2.1 ≤ p.2.2.2.2.length) ∧ K (.tup []) (H.set p.1 (.mem p.2.1 (scrub p.2.1 p.2.2.1 p.2.2.2.1 p.2.2.2.2)))⟩)⟩) := by
  apply propext
  constructor
  · rintro ⟨t', x', e, i, es, off, len, xs, h1, h2, h3, h4, h5, h6, h7⟩
    simp at h1 h2
    subst h1 h2
    simp only [Bool.and_eq_true, beq_iff_eq, decide_eq_true_eq] at h6
    exact ⟨e, h3, (i, es, off, len, xs), by simp [rowOf, h4, h5], ⟨h6.1.1, h6.1.2, h6.2⟩, h7⟩
  · rintro ⟨e, h3, ⟨i, es, off, len, xs⟩, h4, ⟨h5, h6, h8⟩, h7⟩
    unfold rowOf at h4
    split at h4
    · rename_i hv
      split at h4
      · rename_i hh
        split at h4
        · rename_i he
          subst he
          cases h4
          exact ⟨t, x, e, i, _, off, len, xs, rfl, rfl, h3, hv, hh, by simp only [Bool.and_eq_true, beq_iff_eq, decide_eq_true_eq]; exact ⟨⟨h5, h6⟩, h8⟩, h7⟩
        · cases h4
      · cases h4
    · cases h4

theorem stepS_sliceData (x : Operand) (ts : Array TypeId) : stepS P W0 Φ q (.call { callee := .builtin .unsafeSliceData, args := #[x], argTypes := ts }) fr H K = bindO (sdI (evI fr x)) (K := ⟨fun v => K v H⟩) := by
  apply propext
  constructor
  · rintro ⟨x', v, h1, h2, h3⟩
    simp at h1
    subst h1
    exact ⟨v, h2, h3⟩
  · rintro ⟨v, h2, h3⟩
    exact ⟨x, v, rfl, h2, h3⟩
theorem stepS_unsafeString (x y : Operand) (pt it : TypeId) : stepS P W0 Φ q (.call { callee := .builtin .unsafeString, args := #[x, y], argTypes := #[pt, it] }) fr H K = bindO (usI P H pt (evI fr x) (evI fr y)) (K := ⟨fun p => K (.str p.1) p.2⟩) := by
  apply propext
  constructor
  · rintro ⟨x', y', pt', it', p, h1, h2, h3, h4⟩
    simp at h1 h2
    obtain ⟨rfl, rfl⟩ := h1
    obtain ⟨rfl, rfl⟩ := h2
    exact ⟨p, h3, h4⟩
  · rintro ⟨p, h3, h4⟩
    exact ⟨x, y, pt, it, p, rfl, rfl, h3, h4⟩

theorem quietO_func (f : Nat) : quietO q (.func f) = q f := rfl
theorem quietO_tmp (t : Nat) : quietO q (.tmp t) = q 4294967295 := rfl
theorem evI_tmp (t : Nat) : evI fr (.tmp t) = fr t := rfl
theorem evI_func (f : Nat) : evI fr (.func f) = .fn f [] := rfl
theorem evI_int (k : IntKind) (n : Int) : evI fr (.const (.int k n)) = .val (.int k n) := rfl
theorem evI_bool (b : Bool) : evI fr (.const (.bool b)) = .val (.bool b) := rfl
theorem evI_str (b : Array UInt8) : evI fr (.const (.string ⟨b⟩)) = .str b.toList := rfl
theorem evI_nil : evI fr (.const (.slice none 0 0)) = .nil := rfl
theorem evI_null : evI fr (.const (.pointer none)) = .val (.pointer none) := rfl
theorem evI_nilIface : evI fr (.const .nilIface) = .val .nilIface := rfl
theorem put_same (d : Nat) (v : V) : put fr (some d) v d = v := by simp [put]
theorem put_ne (d : Nat) (v : V) (t : Nat) (h : (t = d) = False) : put fr (some d) v t = fr t := by simp [put, h]
theorem put_some (d : Nat) (v : V) (t : Nat) : put fr (some d) v t = if t = d then v else fr t := rfl
theorem put_none (v : V) : put fr none v = fr := rfl
theorem start_app (args : List V) (t : Nat) : start args t = (args[t]?).getD (.val undef) := rfl

variable {loud : Nat → Nat → Bool} {Q : EX → Fr → Heap → Prop}
theorem wpS_skip : wpS P W0 Φ loud .skip Q fr H = Q .normal fr H := rfl
theorem wpS_reg (id : Nat) (ops : List IOp) (d : Bool) : wpS P W0 Φ loud (.reg id ops d) Q fr H = SLS P W0 Φ (fun f => d && !loud id f) ops fr H (Q .normal) := rfl
theorem wpS_seq (a b : IC) : wpS P W0 Φ loud (.seq a b) Q fr H = wpS P W0 Φ loud a (fun e fr' H' => match e with | .normal => wpS P W0 Φ loud b Q fr' H' | .exit id => Q (.exit id) fr' H' | .ret => Q .ret fr' H') fr H := rfl
theorem wpS_cond (c : Operand) (a b : IC) : wpS P W0 Φ loud (.cond c a b) Q fr H = condO (evI fr c) (A := ⟨wpS P W0 Φ loud a Q fr H⟩) (B := ⟨wpS P W0 Φ loud b Q fr H⟩) := rfl
theorem wpS_block (id : Nat) (a : IC) : wpS P W0 Φ loud (.block id a) Q fr H = wpS P W0 Φ loud a (fun e fr' H' => match e with | .normal => Q .normal fr' H' | .exit i => if i = id then Q .normal fr' H' else Q (.exit i) fr' H' | .ret => Q .ret fr' H') fr H := rfl
theorem wpS_exit (id : Nat) : wpS P W0 Φ loud (.exit id) Q fr H = Q (.exit id) fr H := rfl
theorem wpS_ret : wpS P W0 Φ loud .ret Q fr H = Q .ret fr H := rfl
theorem wpS_loop {a : IC} (I : Nat → Fr → Heap → Prop) (n : Nat) (h0 : I n fr H) (h1 : ∀ n fr' H', I n fr' H' →
      wpS P W0 Φ loud a (fun e fr'' H'' => match e with | .normal => ∃ m, m < n ∧ I m fr'' H'' | .exit id => Q (.exit id) fr'' H'' | .ret => Q .ret fr'' H'') fr' H') : wpS P W0 Φ loud (.loop a) Q fr H := ⟨I, ⟨n, h0⟩, h1⟩
theorem SLS_nil {K : Fr → Heap → Prop} : SLS P W0 Φ q [] fr H K = K fr H := rfl
theorem SLS_cons {K : Fr → Heap → Prop} (o : IOp) (l : List IOp) : SLS P W0 Φ q (o :: l) fr H K = G1S P W0 Φ q o fr H fun fr' H' => SLS P W0 Φ q l fr' H' K := rfl
theorem G1S_none {K : Fr → Heap → Prop} (d : Option Nat) (o : Op) : G1S P W0 Φ q ⟨d, o, none⟩ fr H K = stepS P W0 Φ q o fr H fun v H' => K (put fr d v) H' := rfl
theorem G1S_some {K : Fr → Heap → Prop} (d : Option Nat) (o : Op) (s : Nat) (w : Bool) : G1S P W0 Φ q ⟨d, o, some (s, w)⟩ fr H K = guardO (fr s) w (A := ⟨stepS P W0 Φ q o fr H fun v H' => K (put fr d v) H'⟩) (B := ⟨K (put fr d (.val undef)) H⟩) := rfl
/-- Code that is looked at later. -/
def cutIC (c : IC) : IC := c
def wpO (P : Program) (W0 : World) (Φ : Env) (loud : Nat → Nat → Bool) (c : IC) (fr : Fr) (H : Heap) [Q : Hid (EX → Fr → Heap → Prop)] : Prop := wpS P W0 Φ loud c Q.out fr H
theorem wpS_cut (c : IC) : wpS P W0 Φ loud (cutIC c) Q fr H = wpO P W0 Φ loud c fr H (Q := ⟨Q⟩) := rfl
theorem wpS_loopc (c : IC) : wpS P W0 Φ loud (.loop c) Q fr H = wpO P W0 Φ loud (.loop c) fr H (Q := ⟨Q⟩) := rfl
theorem wpO_eq (c : IC) : wpO P W0 Φ loud c fr H (Q := ⟨Q⟩) = wpS P W0 Φ loud c Q fr H := rfl
theorem wpO_loop {a : IC} (I : Nat → Fr → Heap → Prop) (n : Nat) (h0 : I n fr H) (h1 : ∀ n fr' H', I n fr' H' →
      wpS P W0 Φ loud a (fun e fr'' H'' => match e with | .normal => ∃ m, m < n ∧ I m fr'' H'' | .exit id => Q (.exit id) fr'' H'' | .ret => Q .ret fr'' H'') fr' H') : wpO P W0 Φ loud (.loop a) fr H (Q := ⟨Q⟩) := ⟨I, ⟨n, h0⟩, h1⟩
/-- A loop that counts upward. -/
theorem wpO_up {a : IC} (N : Nat) (I : Nat → Fr → Heap → Prop) (i0 : Nat) (h0 : I i0 fr H) (h1 : ∀ i fr' H', I i fr' H' →
      wpS P W0 Φ loud a (fun e fr'' H'' => match e with | .normal => i < N ∧ I (i + 1) fr'' H'' | .exit id => Q (.exit id) fr'' H'' | .ret => Q .ret fr'' H'') fr' H') : wpO P W0 Φ loud (.loop a) fr H (Q := ⟨Q⟩) := by
  refine wpO_loop (fun n fr H => ∃ i, n = N - i ∧ I i fr H) (N - i0) ⟨i0, rfl, h0⟩ ?_
  rintro n fr' H' ⟨i, rfl, hi⟩
  refine wpS_mono a _ _ fr' H' ?_ (h1 i fr' H' hi)
  intro e fr'' H'' he
  cases e with
  | normal => exact ⟨N - (i + 1), by have := he.1; omega, i + 1, rfl, he.2⟩
  | exit id => exact he
  | ret => exact he
end
end Go.IL

/- Values reckoned; functions out of their bodies. -/
namespace Go.IL
open Go

section
variable {P : Program} {W0 : World} {Φ : Env}
theorem PureF.of {f : FuncId} {fn : Func} {ic : IC} {s : Sem1} (loud : Nat → Nat → Bool) (hΦ : Env.Ok P W0 Φ) (hm : P.follows .mixedOrders = true) (hf : P.funcs[f]? = some fn)
    (hic : fn.body.bind IC.of = some ic) (hname : (fn.name == "runtime.NumGoroutine") = false) (hok : fn.body.map (okCode P fn.ntmps loud) = some true) {rs : List ResultVar} (hrs : fn.results.toList = rs)
    (h : ∀ args H v, s args H = some v → args.length ≤ fn.ntmps ∧ wpS P W0 Φ loud ic (atEnd (RetP P rs H v)) (start args) H) : PureF P W0 f s := by
  cases hb : fn.body with
  | none => rw [hb] at hic; cases hic
  | some c =>
    rw [hb] at hic hok
    exact .of_body loud hΦ hm hf hb hic hname (by simpa using hok) hrs h
theorem IT.ofS {f : FuncId} {fn : Func} {ic : IC} {args : List V} {H : Heap} {R : V → Heap → Prop} (loud : Nat → Nat → Bool) (hΦ : Env.Ok P W0 Φ) (hm : P.follows .mixedOrders = true) (hf : P.funcs[f]? = some fn)
    (hic : fn.body.bind IC.of = some ic) (hname : (fn.name == "runtime.NumGoroutine") = false) (hok : fn.body.map (okCode P fn.ntmps loud) = some true) {rs : List ResultVar} (hrs : fn.results.toList = rs) (ha : args.length ≤ fn.ntmps)
    (h : wpS P W0 Φ loud ic (atEnd (Ret P rs R)) (start args) H) : IT P W0 f args H R := by
  cases hb : fn.body with
  | none => rw [hb] at hic; cases hic
  | some c =>
    rw [hb] at hic hok
    exact .of_bodyS loud hΦ hm hf hb hic hname (by simpa using hok) hrs ha h
theorem IT.ofS_raw {f : FuncId} {fn : Func} {ic : IC} {args : List V} {H : Heap} {R : V → Heap → Prop} (loud : Nat → Nat → Bool) (hΦ : Env.Ok P W0 Φ) (hm : P.follows .mixedOrders = true) (hf : P.funcs[f]? = some fn)
    (hic : fn.body.bind IC.of = some ic) (hname : (fn.name == "runtime.NumGoroutine") = false) (hok : fn.body.map (okCode P fn.ntmps loud) = some true) {rs : List ResultVar} (hrs : fn.results.toList = rs) (ha : args.length ≤ fn.ntmps)
    (h : wpS P W0 Φ loud ic (atEnd (RetRaw P rs R)) (start args) H) : IT P W0 f args H R := by
  cases hb : fn.body with
  | none => rw [hb] at hic; cases hic
  | some c =>
    rw [hb] at hic hok
    exact .of_bodyS_raw loud hΦ hm hf hb hic hname (by simpa using hok) hrs ha h

/-- The results as they are (RetX), frozen (RetF); the heap as it is. -/
def RetX (P : Program) (rs : List ResultVar) (R : V → Heap → Prop) (fr : Fr) (H : Heap) : Prop := bindO (resAll P H fr rs) (K := ⟨fun vs => R (mkRes vs) H⟩)
def RetF (P : Program) (rs : List ResultVar) (R : V → Heap → Prop) (fr : Fr) (H : Heap) : Prop := bindO (resAll P H fr rs) (K := ⟨fun vs => R (mkRes (frzAll H vs).1) (frzAll H vs).2⟩)
theorem RetX_eq (rs : List ResultVar) (R : V → Heap → Prop) (fr : Fr) (H : Heap) : RetX P rs R fr H = bindO (resAll P H fr rs) (K := ⟨fun vs => R (mkRes vs) H⟩) := rfl
theorem RetF_eq (rs : List ResultVar) (R : V → Heap → Prop) (fr : Fr) (H : Heap) : RetF P rs R fr H = bindO (resAll P H fr rs) (K := ⟨fun vs => R (mkRes (frzAll H vs).1) (frzAll H vs).2⟩) := rfl
theorem RetX.raw {rs : List ResultVar} {R : V → Heap → Prop} {fr : Fr} {H : Heap} (h : RetX P rs R fr H) : RetRaw P rs R fr H := by
  obtain ⟨vs, h1, h2⟩ := h
  exact ⟨vs, h1, H, fun _ => .inr rfl, h2⟩
theorem RetF.ret {rs : List ResultVar} {R : V → Heap → Prop} {fr : Fr} {H : Heap} (h : RetF P rs R fr H) : Ret P rs R fr H := by
  obtain ⟨vs, h1, h2⟩ := h
  exact ⟨vs, h1, _, fun _ => .inr rfl, h2⟩
theorem IT.ofS_x {f : FuncId} {fn : Func} {ic : IC} {args : List V} {H : Heap} {R : V → Heap → Prop} (loud : Nat → Nat → Bool) (hΦ : Env.Ok P W0 Φ) (hm : P.follows .mixedOrders = true) (hf : P.funcs[f]? = some fn)
    (hic : fn.body.bind IC.of = some ic) (hname : (fn.name == "runtime.NumGoroutine") = false) (hok : fn.body.map (okCode P fn.ntmps loud) = some true) {rs : List ResultVar} (hrs : fn.results.toList = rs) (ha : args.length ≤ fn.ntmps)
    (h : wpS P W0 Φ loud ic (atEnd (RetX P rs R)) (start args) H) : IT P W0 f args H R :=
  .ofS_raw loud hΦ hm hf hic hname hok hrs ha (wpS_mono _ _ _ _ _ (fun e fr' H' he => by
    cases e with
    | normal => exact RetX.raw he
    | exit id => exact he
    | ret => exact RetX.raw he) h)
theorem IT.ofS_f {f : FuncId} {fn : Func} {ic : IC} {args : List V} {H : Heap} {R : V → Heap → Prop} (loud : Nat → Nat → Bool) (hΦ : Env.Ok P W0 Φ) (hm : P.follows .mixedOrders = true) (hf : P.funcs[f]? = some fn)
    (hic : fn.body.bind IC.of = some ic) (hname : (fn.name == "runtime.NumGoroutine") = false) (hok : fn.body.map (okCode P fn.ntmps loud) = some true) {rs : List ResultVar} (hrs : fn.results.toList = rs) (ha : args.length ≤ fn.ntmps)
    (h : wpS P W0 Φ loud ic (atEnd (RetF P rs R)) (start args) H) : IT P W0 f args H R :=
  .ofS loud hΦ hm hf hic hname hok hrs ha (wpS_mono _ _ _ _ _ (fun e fr' H' he => by
    cases e with
    | normal => exact RetF.ret he
    | exit id => exact he
    | ret => exact RetF.ret he) h)

theorem binI_int (op : BinOp) (t : TypeId) (k k' : IntKind) (a b : Int) : binI P op t (.val (.int k a)) (.val (.int k' b)) = intBinI op k a k' b := rfl
theorem binI_str (op : BinOp) (t : TypeId) (a b : List UInt8) : binI P op t (.str a) (.str b) = strBinI op a b := rfl
theorem binI_agg (op : BinOp) (t : TypeId) (a b : List V) : binI P op t (.agg a) (.agg b) = (flatI P t).bind fun ks => (eqCells ks a b).bind (boolOf op) := rfl
theorem binI_bool (op : BinOp) (t : TypeId) (a b : Bool) : binI P op t (.val (.bool a)) (.val (.bool b)) = if isBool (P.underlying t) = true then boolOf op (a == b) else none := rfl
theorem binX_int (op : BinOp) (t : TypeId) (x y : Operand) (k k' : IntKind) (a b : Int) : binX P op t x y (.val (.int k a)) (.val (.int k' b)) = intBinI op k a k' b := rfl
theorem binX_str (op : BinOp) (t : TypeId) (x y : Operand) (a b : List UInt8) : binX P op t x y (.str a) (.str b) = strBinI op a b := rfl
theorem binX_agg (op : BinOp) (t : TypeId) (x y : Operand) (a b : List V) : binX P op t x y (.agg a) (.agg b) = (flatI P t).bind fun ks => (eqCells ks a b).bind (boolOf op) := rfl
theorem binX_bool (op : BinOp) (t : TypeId) (x y : Operand) (a b : Bool) : binX P op t x y (.val (.bool a)) (.val (.bool b)) = if isBool (P.underlying t) = true then boolOf op (a == b) else none := rfl
theorem binX_nil (op : BinOp) (t : TypeId) (x y : Operand) : binX P op t x y (.val .nilIface) (.val .nilIface) = if (isIface (P.underlying t) && (isConst x || isConst y)) = true then boolOf op true else none := rfl
theorem binX_ptrnil (op : BinOp) (t : TypeId) (x y : Operand) (i e k j : Nat) : binX P op t x y (.ptr i e k j) (.val (.pointer none)) = if isPtr (P.underlying t) = true then boolOf op false else none := rfl
theorem binX_nilptr (op : BinOp) (t : TypeId) (x y : Operand) : binX P op t x y (.val (.pointer none)) (.val (.pointer none)) = if isPtr (P.underlying t) = true then boolOf op true else none := rfl
theorem isConst_const (v : Value) : isConst (.const v) = true := rfl
theorem isConst_tmp (t : Nat) : isConst (.tmp t) = false := rfl
theorem boolOf_eql (r : Bool) : boolOf .eql r = some (.val (.bool r)) := rfl
theorem boolOf_neq (r : Bool) : boolOf .neq r = some (.val (.bool !r)) := rfl
theorem ib_add (k : IntKind) (a b : Int) : intBinI .add k a k b = some (.val (.int k (k.wrap (a + b)))) := by simp [intBinI]
theorem ib_sub (k : IntKind) (a b : Int) : intBinI .sub k a k b = some (.val (.int k (k.wrap (a - b)))) := by simp [intBinI]
theorem ib_mul (k : IntKind) (a b : Int) : intBinI .mul k a k b = some (.val (.int k (k.wrap (a * b)))) := by simp [intBinI]
theorem ib_eql (k : IntKind) (a b : Int) : intBinI .eql k a k b = some (.val (.bool (decide (a = b)))) := by simp [intBinI, V.bool]; rfl
theorem ib_neq (k : IntKind) (a b : Int) : intBinI .neq k a k b = some (.val (.bool (!decide (a = b)))) := by simp [intBinI, V.bool]; rfl
theorem ib_lss (k : IntKind) (a b : Int) : intBinI .lss k a k b = some (.val (.bool (decide (a < b)))) := by simp [intBinI, V.bool]
theorem ib_leq (k : IntKind) (a b : Int) : intBinI .leq k a k b = some (.val (.bool (decide (a ≤ b)))) := by simp [intBinI, V.bool]
theorem ib_gtr (k : IntKind) (a b : Int) : intBinI .gtr k a k b = some (.val (.bool (decide (b < a)))) := by simp [intBinI, V.bool]
theorem ib_geq (k : IntKind) (a b : Int) : intBinI .geq k a k b = some (.val (.bool (decide (b ≤ a)))) := by simp [intBinI, V.bool]
def orI (k : IntKind) (a b : Int) : Int := k.wrap (BitVec.ofInt k.bits a ||| BitVec.ofInt k.bits b).toNat
def andI (k : IntKind) (a b : Int) : Int := k.wrap (BitVec.ofInt k.bits a &&& BitVec.ofInt k.bits b).toNat
def xorI (k : IntKind) (a b : Int) : Int := k.wrap (BitVec.ofInt k.bits a ^^^ BitVec.ofInt k.bits b).toNat
theorem ib_or (k : IntKind) (a b : Int) : intBinI .or k a k b = some (.val (.int k (orI k a b))) := by simp [intBinI, orI]
theorem ib_and (k : IntKind) (a b : Int) : intBinI .and k a k b = some (.val (.int k (andI k a b))) := by simp [intBinI, andI]
theorem ib_xor (k : IntKind) (a b : Int) : intBinI .xor k a k b = some (.val (.int k (xorI k a b))) := by simp [intBinI, xorI]
theorem ib_shr (k k' : IntKind) (a b : Int) : intBinI .shr k a k' b = if 0 ≤ b then some (.val (.int k (a.fdiv (2 ^ min b.toNat k.bits)))) else none := rfl
theorem ib_quo (k : IntKind) (a b : Int) : intBinI .quo k a k b = if b ≠ 0 then some (.val (.int k (k.wrap (a.tdiv b)))) else none := by simp [intBinI]
theorem ib_rem (k : IntKind) (a b : Int) : intBinI .rem k a k b = if b ≠ 0 then some (.val (.int k (a.tmod b))) else none := by simp [intBinI]
theorem ib_shl (k k' : IntKind) (a b : Int) : intBinI .shl k a k' b = if 0 ≤ b then some (.val (.int k (k.wrap (a * 2 ^ min b.toNat k.bits)))) else none := rfl
theorem sb_add (a b : List UInt8) : strBinI .add a b = if a.length + b.length ≤ 4611686018427387904 then some (.str (a ++ b)) else none := rfl
theorem beq_dec (a b : List UInt8) : (a == b) = decide (a = b) := by by_cases h : a = b <;> simp [h]
theorem sb_eql (a b : List UInt8) : strBinI .eql a b = some (.val (.bool (decide (a = b)))) := by simp [strBinI, V.bool, beq_dec]
theorem sb_neq (a b : List UInt8) : strBinI .neq a b = some (.val (.bool (!decide (a = b)))) := by simp [strBinI, V.bool, beq_dec]
theorem sb_lss (a b : List UInt8) : strBinI .lss a b = some (.val (.bool (Op.bytesLess a b))) := rfl
theorem unI_not (b : Bool) : unI .not (.val (.bool b)) = some (.val (.bool !b)) := rfl
def intOf : Option TypeDesc → Option IntKind | some (.int k) => some k | _ => none
theorem intOf_int (k : IntKind) : intOf (some (.int k)) = some k := rfl
theorem convI_int (s d : TypeId) (k : IntKind) (n : Int) : convI P s d (.val (.int k n)) = (P.underlying s).bind fun _ => (intOf (P.underlying d)).map fun k' => .val (.int k' (k'.wrap n)) := by
  unfold convI
  cases P.underlying s with
  | none => rfl
  | some x => cases h : P.underlying d with
    | none => rfl
    | some y => cases y <;> simp [intOf]
theorem convX_none (H : Heap) (s d : TypeId) (x : V) (h : elI P s = none) : convX P H s d x = convI P s d x := by simp [convX, h]
theorem convX_ar (H : Heap) (s d : TypeId) (id es off len : Nat) : convX P H s d (.ar id es off len) = (elI P s).bind fun e => if (isU8 (P.underlying e) && isStr (P.underlying d)) = true then (srcI H (.ar id es off len)).bind fun xs => if xs.isEmpty = true then none else (u8sOf xs).map .str else none := by
  unfold convX
  cases elI P s with
  | none => simp [convI]
  | some e => simp [srcI]
theorem u8sOf_nil : u8sOf [] = some [] := rfl
theorem u8sOf_cons (n : Int) (vs : List V) : u8sOf (.val (.int .u8 n) :: vs) = if 0 ≤ n ∧ n < 256 then (u8sOf vs).map fun l => UInt8.ofNat n.toNat :: l else none := rfl
theorem isU8_u8 : isU8 (some (.int .u8)) = true := rfl
theorem isStr_slice (e : TypeId) : isStr (some (.slice e)) = false := rfl
theorem isStr_str : isStr (some .string) = true := rfl
theorem convI_str (s d : TypeId) (l : List UInt8) (h : P.underlying s = some .string) (h' : P.underlying d = some .string) : convI P s d (.str l) = some (.str l) := by simp [convI, h, h']
theorem lenI_str (t : TypeId) (H : Heap) (l : List UInt8) (h : P.underlying t = some .string) : lenI P t H (.str l) = some l.length := by simp [lenI, h]
theorem lenI_sl (t : TypeId) (H : Heap) (l : List V) (h : (elI P t).isSome = true) : lenI P t H (.sl l) = some l.length := by
  unfold elI at h; unfold lenI; split at h <;> simp_all
theorem lenI_nil (t : TypeId) (H : Heap) (h : (elI P t).isSome = true) : lenI P t H .nil = some 0 := by
  unfold elI at h; unfold lenI; split at h <;> simp_all
theorem lenI_ar (t : TypeId) (H : Heap) (i e o n : Nat) (h : (elI P t).isSome = true) : lenI P t H (.ar i e o n) = some n := by
  unfold elI at h; unfold lenI; split at h <;> simp_all
theorem lenI_cl (t : TypeId) (H : Heap) (i e o n : Nat) (h : (elI P t).isSome = true) : lenI P t H (.cl i e o n) = some n := by
  unfold elI at h; unfold lenI; split at h <;> simp_all

theorem natI_nat (k : IntKind) (n : Nat) : natI (.val (.int k (n : Int))) = some n := by simp [natI]
theorem natI_int (k : IntKind) (n : Int) : natI (.val (.int k n)) = if 0 ≤ n then some n.toNat else none := rfl
theorem indexI_str (t : TypeId) (l : List UInt8) (i : V) (h : P.underlying t = some .string) : indexI P t (.str l) i = (natI i).bind fun n => (l[n]?).map fun b => .val (.int .u8 b.toNat) := by simp [indexI, h]
theorem indexAddrI_sl (t : TypeId) (xs : List V) (i : V) : indexAddrI P t (.sl xs) i = (elI P t).bind fun e => (natI i).bind fun n => (xs[n]?).bind fun x => if x.cells.length = szI P e ∧ (P.info? e).isSome = true then some (.rp x.cells) else none := by
  unfold indexAddrI
  cases elI P t <;> simp
theorem indexAddrI_ar (t : TypeId) (id es off len : Nat) (i : V) : indexAddrI P t (.ar id es off len) i = (elI P t).bind fun e => (natI i).bind fun n => if n < len ∧ es = szI P e ∧ (P.info? e).isSome = true then some (.ptr id es (off + n) 0) else none := by
  unfold indexAddrI
  cases elI P t <;> simp
theorem indexAddrI_cl (t : TypeId) (id es off len : Nat) (i : V) : indexAddrI P t (.cl id es off len) i = (elI P t).bind fun e => (natI i).bind fun n => if n < len ∧ es = szI P e ∧ (P.info? e).isSome = true then some (.ptr id es (off + n) 0) else none := by
  unfold indexAddrI
  cases elI P t <;> simp
theorem indexAddrI_ptr (t : TypeId) (id es k j : Nat) (i : V) (h : elI P t = none) : indexAddrI P t (.ptr id es k j) i = (arrI P t).bind fun q => (natI i).bind fun m => if m < q.1 ∧ (P.info? q.2).isSome = true then some (.ptr id es k (j + m * szI P q.2)) else none := by
  unfold indexAddrI
  rw [h]
  cases arrI P t <;> rfl
theorem loadI_rp (t : TypeId) (H : Heap) (cs : List V) : loadI P H t (.rp cs) = partI P t cs 0 := rfl
theorem loadI_ptr (t : TypeId) (H : Heap) (id es k j : Nat) : loadI P H t (.ptr id es k j) = (match H id with
    | .mem es' xs => if es' = es then (xs[k]?).bind fun x => partI P t x.cells j else none
    | _ => none) := rfl
theorem partI_one (t : TypeId) (cs : List V) (j : Nat) (h : kindI P t = some false) : partI P t cs j = cs[j]? := by simp [partI, h]
theorem partI_agg (t : TypeId) (cs : List V) (j : Nat) (h : kindI P t = some true) : partI P t cs j = if j + szI P t ≤ cs.length then some (.agg ((cs.drop j).take (szI P t))) else none := by simp [partI, h]
theorem fieldAddrI_ptr (s : TypeId) (f : Nat) (id es k j : Nat) : fieldAddrI P s f (.ptr id es k j) = (fldI P s f).bind fun p => if szI P p.2 = 0 then none else some (.ptr id es k (j + p.1)) := by
  unfold fieldAddrI
  cases fldI P s f <;> simp
theorem fieldAddrI_rp (s : TypeId) (f : Nat) (cs : List V) : fieldAddrI P s f (.rp cs) = (fldI P s f).bind fun p => if szI P p.2 = 0 then none else some (.rp (cs.drop p.1)) := by
  unfold fieldAddrI
  cases fldI P s f <;> simp
theorem fieldI_agg (s : TypeId) (f : Nat) (cs : List V) : fieldI P s f (.agg cs) = (fldI P s f).bind fun p => partI P p.2 cs p.1 := by
  unfold fieldI
  cases fldI P s f <;> simp
theorem storeI_ptr (t : TypeId) (H : Heap) (id es k j : Nat) (v : V) : storeI P H t (.ptr id es k j) v = (match H id with
    | .mem es' xs => if es' = es then (xs[k]?).bind fun x =>
        if v.shown && v.cells.length == szI P t && decide (0 < szI P t) && decide (j + v.cells.length ≤ x.cells.length) then some (H.set id (.mem es (xs.set k (x.splice j v)))) else none
      else none
    | _ => none) := rfl
theorem sliceI_str (t : TypeId) (l : List UInt8) (lo hi : Option V) (h : P.underlying t = some .string) : sliceI P t (.str l) lo hi none = (bndI lo 0).bind fun a => (bndI hi l.length).bind fun b => if a ≤ b ∧ b ≤ l.length then some (.str ((l.take b).drop a)) else none := by simp [sliceI, h]
theorem sliceI_sl (t : TypeId) (xs : List V) (lo hi : Option V) : sliceI P t (.sl xs) lo hi none = (elI P t).bind fun e => (bndI lo 0).bind fun a => (bndI hi xs.length).bind fun b => if a ≤ b ∧ b ≤ xs.length ∧ fits (szI P e) xs = true ∧ (P.info? e).isSome = true then some (.sl ((xs.take b).drop a)) else none := by
  unfold sliceI elI
  split <;> simp_all
theorem sliceI_nil (t : TypeId) (lo hi : Option V) : sliceI P t .nil lo hi none = (elI P t).bind fun e => (bndI lo 0).bind fun a => (bndI hi 0).bind fun b => if a = 0 ∧ b = 0 ∧ (P.info? e).isSome = true then some .nil else none := by
  unfold sliceI elI
  split <;> simp_all
theorem sliceI_ar (t : TypeId) (id es off len : Nat) (lo hi : Option V) : sliceI P t (.ar id es off len) lo hi none = (elI P t).bind fun e => if es = szI P e ∧ (P.info? e).isSome = true then (bndI lo 0).bind fun a => (bndI hi len).bind fun b => if a ≤ b ∧ b ≤ len then some (.ar id es (off + a) (b - a)) else none else none := by
  unfold sliceI elI
  cases h : P.underlying t with
  | none => rfl
  | some d => cases d <;> rfl
theorem sliceI_nil3 (t : TypeId) (lo hi : Option V) (m : V) : sliceI P t .nil lo hi (some m) = (elI P t).bind fun e => (bndI lo 0).bind fun a => (bndI hi 0).bind fun b => (natI m).bind fun m => if a = 0 ∧ b = 0 ∧ m = 0 ∧ hi.isSome = true ∧ (P.info? e).isSome = true then some .nil else none := by
  unfold sliceI elI
  cases h : P.underlying t with
  | none => rfl
  | some d => cases d <;> rfl
theorem sliceI_ar3 (t : TypeId) (id es off len : Nat) (lo hi : Option V) (m : V) : sliceI P t (.ar id es off len) lo hi (some m) = (elI P t).bind fun e => if es = szI P e ∧ (P.info? e).isSome = true then (bndI lo 0).bind fun a => (bndI hi len).bind fun b => (natI m).bind fun m => if a ≤ b ∧ b = m ∧ m ≤ len ∧ hi.isSome = true then some (.cl id es (off + a) (b - a)) else none else none := by
  unfold sliceI elI
  cases h : P.underlying t with
  | none => rfl
  | some d => cases d <;> rfl
theorem eqCells_nil : eqCells [] [] [] = some true := rfl
theorem eqCells_cons (k : Nat) (ks : List Nat) (x y : V) (xs ys : List V) : eqCells (k :: ks) (x :: xs) (y :: ys) = (eqCell k x y).bind fun s => (eqCells ks xs ys).map fun r => s && r := rfl
theorem eqCell_int (k : IntKind) (a b : Int) : eqCell 0 (.val (.int k a)) (.val (.int k b)) = some (decide (a = b)) := by simp [eqCell]; rfl
theorem eqCell_str (a b : List UInt8) : eqCell 1 (.str a) (.str b) = some (decide (a = b)) := by simp [eqCell, beq_dec]
theorem eqCell_bool (a b : Bool) : eqCell 2 (.val (.bool a)) (.val (.bool b)) = some (decide (a = b)) := by cases a <;> cases b <;> rfl
theorem bndI_none (d : Nat) : bndI none d = some d := rfl
theorem bndI_some (v : V) (d : Nat) : bndI (some v) d = natI v := rfl
theorem extV_tup (vs : List V) (i : Nat) : extV (.tup vs) i = vs[i]? := rfl
theorem nilV_ptr (i es k j : Nat) : nilV (.ptr i es k j) = some (.ptr i es k j) := rfl

theorem bsO_eq (t : TypeId) (n : Nat) (ps : List (Nat × Operand)) (vs : List V) (H : Heap) (K : V → Heap → Prop) : bsO P t n ps vs H (K := ⟨K⟩) = ∀ id, H id = .dead → bindO (elI P t) (K := ⟨fun e => (inOrder n 0 ps = true ∧ zok P e = true ∧ n * szI P e ≤ 16777216 ∧ ((frzAll H vs).1.all fun v => v.shown && v.cells.length == szI P e) = true) ∧
    K (.ar id (szI P e) 0 n) ((frzAll H vs).2.set id (.mem (szI P e) (frzAll H vs).1))⟩) := by
  simp only [bsO, bindO, Bool.and_eq_true, decide_eq_true_eq, and_assoc]
theorem inOrder_nil (n k : Nat) : inOrder n k [] = (k == n) := by simp [inOrder]
theorem inOrder_cons (n k i : Nat) (x : Operand) (l : List (Nat × Operand)) : inOrder n k ((i, x) :: l) = (i == k && inOrder n (k + 1) l) := by simp [inOrder]
theorem bindO_buildF (t : TypeId) (ps : List (Nat × V)) (K : List V → Prop) : bindO (buildF P t ps) (K := ⟨K⟩) = bindO (zeroL P t) (K := ⟨fun z => bindO (buildI P z (placesI P t) ps) (K := ⟨K⟩)⟩) := by
  rw [buildF, bindO_bind]
theorem bindO_buildI_nil (z : List V) (pl : Nat → Option (Nat × TypeId)) (K : List V → Prop) : bindO (buildI P z pl []) (K := ⟨K⟩) = K z := by simp [buildI, bindO]
theorem bindO_buildI_cons (z : List V) (pl : Nat → Option (Nat × TypeId)) (i : Nat) (v : V) (l : List (Nat × V)) (K : List V → Prop) : bindO (buildI P z pl ((i, v) :: l)) (K := ⟨K⟩) =
    bindO (pl i) (K := ⟨fun p => (v.shown = true ∧ v.cells.length = szI P p.2 ∧ p.1 + v.cells.length ≤ z.length) ∧ bindO (buildI P (z.take p.1 ++ v.cells ++ z.drop (p.1 + v.cells.length)) pl l) (K := ⟨K⟩)⟩) := by
  simp only [buildI]
  cases h : pl i with
  | none => simp [bindO]
  | some p =>
    simp only [bindO_some]
    by_cases hc : (v.shown && v.cells.length == szI P p.2 && decide (p.1 + v.cells.length ≤ z.length)) = true
    · have hc2 := hc
      simp only [Bool.and_eq_true, beq_iff_eq, decide_eq_true_eq] at hc2
      rw [if_pos hc]
      exact propext ⟨fun h => ⟨⟨hc2.1.1, hc2.1.2, hc2.2⟩, h⟩, fun h => h.2⟩
    · have hc2 := hc
      simp only [Bool.and_eq_true, beq_iff_eq, decide_eq_true_eq] at hc2
      rw [if_neg hc]
      have : ¬ (v.shown = true ∧ v.cells.length = szI P p.2 ∧ p.1 + v.cells.length ≤ z.length) := fun h => hc2 ⟨⟨h.1, h.2.1⟩, h.2.2⟩
      simp [this, bindO_none]
theorem frz1_ar_eq (H : Heap) (id es off len : Nat) : frz1 H (.ar id es off len) = (match H id with
    | .mem es' xs => if es' = es ∧ off + len ≤ xs.length then (.sl ((xs.drop off).take len), H.set id .dead) else (.ar id es off len, H)
    | _ => (.ar id es off len, H)) := by
  rw [frz1]
  split <;> simp_all
theorem shown_str (l : List UInt8) : (V.str l).shown = true := by simp [V.shown, V.one]
theorem shown_int (k : IntKind) (n : Int) : (V.val (.int k n)).shown = true := by simp [V.shown, V.one, Value.oneCell']
theorem shown_bool (b : Bool) : (V.val (.bool b)).shown = true := by simp [V.shown, V.one, Value.oneCell']
theorem shown_sl (l : List V) : (V.sl l).shown = true := by simp [V.shown, V.one]
theorem shown_nil : V.nil.shown = true := by simp [V.shown, V.one]
theorem shown_ar (i e o n : Nat) : (V.ar i e o n).shown = true := by simp [V.shown, V.one]
theorem shown_ptr (i e o n : Nat) : (V.ptr i e o n).shown = true := by simp [V.shown, V.one]
theorem shown_rp (l : List V) : (V.rp l).shown = true := by simp [V.shown, V.one]
theorem shown_mp (i : Nat) : (V.mp i).shown = true := by simp [V.shown, V.one]
theorem shown_agg (l : List V) : (V.agg l).shown = true := by simp [V.shown]
theorem cells_agg (l : List V) : (V.agg l).cells = l := by simp [V.cells]
theorem cells_str (l : List UInt8) : (V.str l).cells = [.str l] := by simp [V.cells]
theorem cells_val (x : Value) : (V.val x).cells = [.val x] := by simp [V.cells]
theorem cells_sl (l : List V) : (V.sl l).cells = [.sl l] := by simp [V.cells]
theorem cells_nil : V.nil.cells = [.nil] := by simp [V.cells]
theorem cells_ar (i e o n : Nat) : (V.ar i e o n).cells = [.ar i e o n] := by simp [V.cells]
theorem cells_ptr (i e o n : Nat) : (V.ptr i e o n).cells = [.ptr i e o n] := by simp [V.cells]
theorem cells_rp (l : List V) : (V.rp l).cells = [.rp l] := by simp [V.cells]
theorem cells_mp (i : Nat) : (V.mp i).cells = [.mp i] := by simp [V.cells]
theorem splice_agg (cs : List V) (j : Nat) (v : V) : (V.agg cs).splice j v = .agg (cs.take j ++ v.cells ++ cs.drop (j + v.cells.length)) := by simp [V.splice]
theorem splice_str (l : List UInt8) (j : Nat) (v : V) : (V.str l).splice j v = v := by simp [V.splice]
theorem splice_val (l : Value) (j : Nat) (v : V) : (V.val l).splice j v = v := by simp [V.splice]
theorem splice_sl (l : List V) (j : Nat) (v : V) : (V.sl l).splice j v = v := by simp [V.splice]
theorem splice_nil (j : Nat) (v : V) : V.nil.splice j v = v := by simp [V.splice]
theorem splice_ar (i e o n : Nat) (j : Nat) (v : V) : (V.ar i e o n).splice j v = v := by simp [V.splice]
theorem splice_ptr (i e o n : Nat) (j : Nat) (v : V) : (V.ptr i e o n).splice j v = v := by simp [V.splice]
/-- Within an int's range. -/
theorem wrap64 {n : Int} (h : -9223372036854775808 ≤ n ∧ n < 9223372036854775808) : IntKind.i64.wrap n = n := by
  have := h.1; have := h.2
  simp [IntKind.wrap, IntKind.bits, IntKind.signed]
  omega
theorem wrapN (n : Nat) (h : n < 9223372036854775808) : IntKind.i64.wrap (n : Int) = n := wrap64 ⟨by omega, by omega⟩
def appTail (P : Program) (e : TypeId) (id : Nat) (x : V) (xs ys : List V) (H : Heap) (K : V → Heap → Prop) : Prop :=
  condO (.val (.bool ys.isEmpty)) (A := ⟨K x H⟩) (B := ⟨(fits (szI P e) ys = true ∧ (xs.length + ys.length) * (byI P e + 1) ≤ 1099511627776) ∧
    K (.ar id (szI P e) 0 (xs.length + ys.length)) ((kill H x).set id (.mem (szI P e) (xs ++ ys)))⟩)
theorem appO_own (H : Heap) (id : Nat) (t : TypeId) (x y : V) (K : V → Heap → Prop) (hx : ∀ i e o n, x ≠ .cl i e o n) : appO P H id t x y (K := ⟨K⟩) = bindO (elI P t) (K := ⟨fun e => bindO (srcI H y) (K := ⟨fun ys => bindO (own H (szI P e) x) (K := ⟨fun xs =>
    zok P e = true ∧ appTail P e id x xs ys H K⟩)⟩)⟩) := by
  rw [appO_eq]
  unfold appendI
  cases h1 : elI P t with
  | none => simp [bindO_none]
  | some e =>
    simp only [bindO_some]
    cases h2 : srcI H y with
    | none => simp [bindO_none]
    | some ys =>
      simp only [bindO_some]
      cases x
      case cl => exact (hx _ _ _ _ rfl).elim
      all_goals
        generalize hz : own H (szI P e) _ = z
        cases z with
        | none => simp [bindO_none]
        | some xs =>
          simp only [bindO_some, appTail, condO_bool]
          cases ys.isEmpty <;> simp
theorem appO_ar (H : Heap) (id : Nat) (t : TypeId) (i es o n : Nat) (y : V) (K : V → Heap → Prop) : appO P H id t (.ar i es o n) y (K := ⟨K⟩) = bindO (elI P t) (K := ⟨fun e => bindO (srcI H y) (K := ⟨fun ys => bindO (own H (szI P e) (.ar i es o n)) (K := ⟨fun xs =>
    zok P e = true ∧ appTail P e id (.ar i es o n) xs ys H K⟩)⟩)⟩) := appO_own H id t _ y K (by simp)
theorem appO_nil (H : Heap) (id : Nat) (t : TypeId) (y : V) (K : V → Heap → Prop) : appO P H id t .nil y (K := ⟨K⟩) = bindO (elI P t) (K := ⟨fun e => bindO (srcI H y) (K := ⟨fun ys => bindO (own H (szI P e) .nil) (K := ⟨fun xs =>
    zok P e = true ∧ appTail P e id .nil xs ys H K⟩)⟩)⟩) := appO_own H id t _ y K (by simp)
theorem appTail_eq (e : TypeId) (id : Nat) (x : V) (xs ys : List V) (H : Heap) (K : V → Heap → Prop) : appTail P e id x xs ys H K = condO (.val (.bool ys.isEmpty)) (A := ⟨K x H⟩) (B := ⟨(fits (szI P e) ys = true ∧ (xs.length + ys.length) * (byI P e + 1) ≤ 1099511627776) ∧
    K (.ar id (szI P e) 0 (xs.length + ys.length)) ((kill H x).set id (.mem (szI P e) (xs ++ ys)))⟩) := rfl
theorem srcI_str (H : Heap) (l : List UInt8) : srcI H (.str l) = some (l.map byteV) := rfl
theorem srcI_sl (H : Heap) (l : List V) : srcI H (.sl l) = some l := rfl
theorem srcI_nil (H : Heap) : srcI H .nil = some [] := rfl
theorem srcI_ar (H : Heap) (id es off len : Nat) : srcI H (.ar id es off len) = (match H id with
    | .mem es' xs => if es' = es ∧ off + len ≤ xs.length then some ((xs.drop off).take len) else none
    | _ => none) := by
  simp only [srcI, rd]; cases H id <;> rfl
theorem own_nil (H : Heap) (n : Nat) : own H n .nil = some [] := rfl
theorem own_ar (H : Heap) (n id es off len : Nat) : own H n (.ar id es off len) = (match H id with
    | .mem es' xs => if es' = es ∧ es = n ∧ off = 0 ∧ len = xs.length then some xs else none
    | _ => none) := by
  simp only [own]; cases H id <;> rfl
theorem kill_nil (H : Heap) : kill H .nil = H := rfl
theorem kill_ar (H : Heap) (id es off len : Nat) : kill H (.ar id es off len) = H.set id .dead := rfl
theorem fits_cons (n : Nat) (x : V) (xs : List V) : fits n (x :: xs) = (x.cells.length == n && fits n xs) := by simp [fits]
theorem fits_nil (n : Nat) : fits n [] = true := by simp [fits]
theorem isEmpty_cons {α : Type} (x : α) (xs : List α) : (x :: xs).isEmpty = false := rfl
theorem isEmpty_nil {α : Type} : ([] : List α).isEmpty = true := rfl
theorem isSrc_slice (e : TypeId) : isSrc (some (.slice e)) = true := rfl
theorem isSrc_string : isSrc (some .string) = true := rfl
theorem take_map_len {α β : Type} (f : α → β) (xs : List α) : (xs.map f).take xs.length = xs.map f := List.take_of_length_le (by simp)
theorem atEnd_ret (p : Fr → Heap → Prop) (fr : Fr) (H : Heap) : atEnd p .ret fr H = p fr H := by simp [atEnd]
theorem atEnd_normal (p : Fr → Heap → Prop) (fr : Fr) (H : Heap) : atEnd p .normal fr H = p fr H := by simp [atEnd]
theorem RetP_eq (rs : List ResultVar) (H0 : Heap) (v : V) (fr : Fr) (H : Heap) : RetP P rs H0 v fr H = bindO (resAll P H fr rs) (K := ⟨fun vs => mkRes (frzAll H vs).1 = v ∧ Keeps H0 (frzAll H vs).2⟩) := by simp [RetP, bindO]
theorem resAll_nil (H : Heap) (fr : Fr) : resAll P H fr [] = some [] := by simp [resAll]
theorem resAll_tmp (H : Heap) (fr : Fr) (t : Nat) (rs : List ResultVar) : resAll P H fr (.tmp t :: rs) = (resAll P H fr rs).map fun vs => fr t :: vs := by simp [resAll, resI]
theorem resAll_cell (H : Heap) (fr : Fr) (a : Nat) (t : TypeId) (rs : List ResultVar) : resAll P H fr (.cell a t :: rs) = (loadI P H t (fr a)).bind fun v => (resAll P H fr rs).map fun vs => v :: vs := by simp [resAll, resI]
theorem frzAll_nil (H : Heap) : frzAll H [] = ([], H) := by simp [frzAll]
theorem frzAll_cons (H : Heap) (v : V) (vs : List V) : frzAll H (v :: vs) = ((frz H v).1 :: (frzAll (frz H v).2 vs).1, (frzAll (frz H v).2 vs).2) := by simp [frzAll]
theorem frz_val (H : Heap) (x : Value) : frz H (.val x) = (.val x, H) := by simp [frz, frz1]
theorem frz_str (H : Heap) (x : List UInt8) : frz H (.str x) = (.str x, H) := by simp [frz, frz1]
theorem frz_sl (H : Heap) (x : List V) : frz H (.sl x) = (.sl x, H) := by simp [frz, frz1]
theorem frz_nil (H : Heap) : frz H .nil = (.sl [], H) := by simp [frz, frz1]
theorem frz_ptr (H : Heap) (i e k j : Nat) : frz H (.ptr i e k j) = (.ptr i e k j, H) := by simp [frz, frz1]
theorem frz_rp (H : Heap) (cs : List V) : frz H (.rp cs) = (.rp cs, H) := by simp [frz, frz1]
theorem frz_ar (H : Heap) (id es off len : Nat) : frz H (.ar id es off len) = frz1 H (.ar id es off len) := by simp [frz]
theorem frz1_ar (H : Heap) (id es off len : Nat) (xs : List V) (h : H id = .mem es xs) (hl : off + len ≤ xs.length) : frz1 H (.ar id es off len) = (.sl ((xs.drop off).take len), H.set id .dead) := by simp [frz1, h, hl]
theorem frz_agg (H : Heap) (cs : List V) : frz H (.agg cs) = (.agg (frzs H cs).1, (frzs H cs).2) := by simp [frz]
theorem frzs_nil (H : Heap) : frzs H [] = ([], H) := by simp [frzs]
theorem frzs_cons (H : Heap) (v : V) (vs : List V) : frzs H (v :: vs) = ((frz1 H v).1 :: (frzs (frz1 H v).2 vs).1, (frzs (frz1 H v).2 vs).2) := by simp [frzs]
theorem frz1_val (H : Heap) (x : Value) : frz1 H (.val x) = (.val x, H) := by simp [frz1]
theorem frz1_str (H : Heap) (x : List UInt8) : frz1 H (.str x) = (.str x, H) := by simp [frz1]
theorem frz1_sl (H : Heap) (x : List V) : frz1 H (.sl x) = (.sl x, H) := by simp [frz1]
theorem frz1_nil (H : Heap) : frz1 H .nil = (.sl [], H) := by simp [frz1]
theorem mkRes_one (v : V) : mkRes [v] = v := by simp [mkRes]
theorem mkRes_two (v u : V) (l : List V) : mkRes (v :: u :: l) = .tup (v :: u :: l) := by simp [mkRes]
theorem mkRes_nil : mkRes [] = .tup [] := by simp [mkRes]
theorem Keeps_refl (H : Heap) : Keeps H H = True := eq_true (Keeps.refl H)
theorem Keeps_set (H0 H : Heap) (i : Nat) (o : Obj) (h : H0 i = .dead) : Keeps H0 (H.set i o) = Keeps H0 H := by
  apply propext
  constructor
  · intro k j hj
    have hne : j ≠ i := fun e => hj (e ▸ h)
    have := k j hj
    rwa [Heap.set_ne _ _ hne] at this
  · intro k; exact k.set h
theorem set_mem_dead (H : Heap) (a b e : Nat) (xs : List V) : ((H.set a (.mem e xs)) b = .dead) = (b ≠ a ∧ a ≠ b ∧ H b = .dead) := by
  apply propext
  by_cases h : b = a
  · subst h; simp
  · simp [Heap.set_ne _ _ h, h, Ne.symm h]
theorem set_map_dead (H : Heap) (a b : Nat) (xs : List (V × V)) : ((H.set a (.map xs)) b = .dead) = (b ≠ a ∧ a ≠ b ∧ H b = .dead) := by
  apply propext
  by_cases h : b = a
  · subst h; simp
  · simp [Heap.set_ne _ _ h, h, Ne.symm h]
theorem set_at_ne (H : Heap) (a b : Nat) (o : Obj) (h : (b = a) = False) : (H.set a o) b = H b := Heap.set_ne _ _ (by simpa using h)
theorem set_at_live (H : Heap) (a b : Nat) (o : Obj) (h : H a = .dead) (h2 : (H b = .dead) = False) : (H.set a o) b = H b := Heap.set_ne _ _ (fun e => by subst e; simp [h] at h2)
theorem set_set_same (H : Heap) (a : Nat) (o o' : Obj) : (H.set a o).set a o' = H.set a o' := by
  funext j; simp only [Heap.set]; split <;> rfl
theorem set_dead_dead (H : Heap) (a : Nat) (h : H a = .dead) : H.set a .dead = H := by
  funext j; simp only [Heap.set]; split
  · rename_i e; rw [e, h]
  · rfl

theorem kvsI_mp (H : Heap) (i : Nat) : kvsI H (.mp i) = (match H i with | .map kvs => some kvs | _ => none) := by cases h : H i <;> simp [kvsI, h]
theorem kvsI_nil (H : Heap) : kvsI H (.val (.map none)) = some [] := rfl
def lookR (P : Program) (et : TypeId) (kvs : List (V × V)) (ok : Bool) : Option Nat → Option V
  | some i => (kvs[i]?).map fun p => okV ok p.2 true
  | none => (zeroF P et).map fun z => okV ok z.2 false
theorem lookI_eq (H : Heap) (t : TypeId) (m k : V) (ok : Bool) : lookI P H t m k ok = (mapK P t).bind fun q => (kvsI H m).bind fun kvs => (findI (keyI P q.1) k kvs).bind fun r => lookR P q.2 kvs ok r := by
  unfold lookI lookR
  cases mapK P t with
  | none => rfl
  | some q => cases kvsI H m with
    | none => rfl
    | some kvs => cases findI (keyI P q.1) k kvs with
      | none => rfl
      | some r => cases r <;> rfl
theorem lookR_some (et : TypeId) (kvs : List (V × V)) (ok : Bool) (i : Nat) : lookR P et kvs ok (some i) = (kvs[i]?).map fun p => okV ok p.2 true := rfl
theorem lookR_none (et : TypeId) (kvs : List (V × V)) (ok : Bool) : lookR P et kvs ok none = (zeroF P et).map fun z => okV ok z.2 false := rfl
theorem okV_true (v : V) (b : Bool) : okV true v b = .tup [v, .val (.bool b)] := rfl
theorem okV_false (v : V) (b : Bool) : okV false v b = v := rfl
theorem setKV_some (kvs : List (V × V)) (i : Nat) (k v : V) : setKV kvs (some i) k v = kvs.set i (k, v) := rfl
theorem setKV_none (kvs : List (V × V)) (k v : V) : setKV kvs none k v = kvs ++ [(k, v)] := rfl
theorem findI_nil (eq : V → V → Option Bool) (k : V) : findI eq k [] = some none := rfl
theorem noIter_set {H : Heap} {m a : Nat} {o : Obj} (h : noIter H m) (ho : ∀ st, o ≠ .iter m st) : noIter (H.set a o) m := by
  intro i st e
  by_cases hi : i = a
  · subst hi; rw [Heap.set_same] at e; exact ho st e
  · rw [Heap.set_ne _ _ hi] at e; exact h i st e
theorem noIter_mem (H : Heap) (m a e : Nat) (xs : List V) (h : noIter H m) : noIter (H.set a (.mem e xs)) m = True := eq_true (noIter_set h (by intro st e; cases e))
theorem noIter_map (H : Heap) (m a : Nat) (xs : List (V × V)) (h : noIter H m) : noIter (H.set a (.map xs)) m = True := eq_true (noIter_set h (by intro st e; cases e))
theorem noIter_dead (H : Heap) (m a : Nat) (h : noIter H m) : noIter (H.set a .dead) m = True := eq_true (noIter_set h (by intro st e; cases e))
theorem noIter_iter (H : Heap) (m m' a : Nat) (st : List (V × V) × Option (V × V)) (h : noIter H m) (hm : (m' = m) = False) : noIter (H.set a (.iter m' st)) m = True := eq_true (noIter_set h (by intro st e; cases e; simp at hm))
theorem set_iter_dead (H : Heap) (a b m : Nat) (st : List (V × V) × Option (V × V)) : ((H.set a (.iter m st)) b = .dead) = (b ≠ a ∧ a ≠ b ∧ H b = .dead) := by
  apply propext
  by_cases h : b = a
  · subst h; simp
  · simp [Heap.set_ne _ _ h, h, Ne.symm h]
theorem sdI_nil : sdI .nil = some (.val (.pointer none)) := rfl
theorem sdI_ar (i es off len : Nat) : sdI (.ar i es off len) = if 0 < len ∧ off = 0 then some (.ptr i es 0 0) else none := rfl
theorem usI_none (H : Heap) (pt : TypeId) (n : Int) : usI P H pt (.val (.pointer none)) (.val (.int .i64 n)) = if n = 0 then some ([], H) else none := rfl
theorem usI_ptr (H : Heap) (pt : TypeId) (i es k j : Nat) (n : Int) : usI P H pt (.ptr i es k j) (.val (.int .i64 n)) = (match H i with
    | .mem es' xs => (ptrElI P pt).bind fun e => if (es = 1 ∧ es' = 1 ∧ k = 0 ∧ j = 0) ∧ 0 < n ∧ n.toNat ≤ xs.length ∧ n.toNat ≤ 4611686018427387904 ∧ i % 4096 = e ∧ e < 4095 ∧ P.cellsOf e = 1 then (u8sOf (xs.take n.toNat)).map fun l => (l, H.set i .dead) else none
    | _ => none) := rfl
end
end Go.IL

/- The rules, as one set for simp. -/
namespace Go.IL
open Go
attribute [go_sem ↓] stepS_allocB stepS_appendS stepS_sliceData stepS_unsafeString stepS_makeMap stepS_lookup stepS_mapUpdate stepS_range stepS_next stepS_entry stepS_clear bindO_if bindO_bind bindO_map stepS_move stepS_assign stepS_pick stepS_alloc stepS_box stepS_build stepS_buildSlice stepS_load stepS_store stepS_nilCheck stepS_binOp stepS_unOp stepS_convert stepS_fieldAddr stepS_field stepS_indexAddr stepS_index stepS_slice stepS_extract stepS_makeFunc stepS_len stepS_min stepS_append stepS_call wpS_skip wpS_reg wpS_seq wpS_cond wpS_block wpS_exit wpS_ret wpS_cut wpS_loopc SLS_nil SLS_cons G1S_none G1S_some
attribute [go_sem] indexAddrI_ptr tagE_some quietO_func quietO_tmp eqCells_nil eqCells_cons eqCell_int eqCell_str eqCell_bool sliceI_ar RetX_eq RetF_eq isStr_slice tagA_nil tagA_ar sdI_nil sdI_ar usI_none usI_ptr mapOf_mp iterOf_it rowOf_ar updO_eq nextO_nil kvsI_mp kvsI_nil lookI_eq lookR_some lookR_none okV_true okV_false setKV_some setKV_none findI_nil noIter_mem noIter_map noIter_dead noIter_iter set_iter_dead bindO_some bindO_none bindO_if bindO_bind bindO_map condO_true condO_false guardO_tt guardO_ff guardO_tf guardO_ft guardO_undef boxO_agg boxO_str boxO_int boxO_bool boxO_sl boxO_nil boxO_ptr boxO_ar boxO_fn callO_none callO_some fnO_fn pickV_bool evI_tmp evI_func evI_int evI_bool evI_str evI_nil evI_null evI_nilIface put_same put_ne put_none start_app binX_int binX_str binX_agg binX_bool binX_nil binX_ptrnil binX_nilptr isConst_const isConst_tmp boolOf_eql boolOf_neq Bool.or_true Bool.true_or Bool.or_false Bool.false_or ib_add ib_sub ib_mul ib_eql ib_neq ib_lss ib_leq ib_gtr ib_geq ib_or ib_and ib_xor ib_shr ib_quo ib_rem ib_shl sb_add sb_eql sb_neq sb_lss unI_not lenI_str natI_int bndI_none bndI_some extV_tup nilV_ptr loadI_rp loadI_ptr storeI_ptr V.int V.bool List.getElem?_cons_zero List.getElem?_cons_succ List.getElem?_nil Option.getD_some Option.getD_none List.map_cons List.map_nil List.append_nil List.nil_append List.cons_append if_true if_false Bool.false_and Bool.true_and Bool.and_true Bool.and_false Bool.not_true Bool.not_false Bool.not_not decide_true decide_false decide_eq_true_eq decide_eq_false_iff_not Bool.not_eq_true' Bool.not_eq_false' Bool.and_eq_true Bool.or_eq_true Bool.decide_eq_true true_and and_true forall_const true_implies implies_true not_true_eq_false not_false_eq_true false_implies ne_eq Classical.not_not and_self Env.get Heap.set_same List.length_cons List.length_nil List.drop_succ_cons List.drop_zero List.take_succ_cons List.take_zero atEnd_ret atEnd_normal RetP_eq resAll_nil resAll_tmp resAll_cell frzAll_nil frzAll_cons frz_val frz_str frz_sl frz_nil frz_ptr frz_rp frz_ar frz_agg frzs_nil frzs_cons frz1_val frz1_str frz1_sl frz1_nil mkRes_one mkRes_two mkRes_nil Keeps_refl set_mem_dead set_map_dead Int.ofNat_lt Int.ofNat_le Int.natCast_inj Int.toNat_natCast Int.natCast_nonneg Int.cast_ofNat_Int appO_ar appO_nil appTail_eq srcI_str srcI_sl srcI_nil srcI_ar own_nil own_ar kill_nil kill_ar fits_cons fits_nil isEmpty_cons isEmpty_nil List.take_length List.length_map isSrc_slice isSrc_string take_map_len Option.map_none Nat.le_refl convX_none convX_ar u8sOf_nil u8sOf_cons isU8_u8 isStr_str set_at_ne set_at_live List.getElem?_map set_set_same and_imp bsO_eq inOrder_nil inOrder_cons bindO_buildF bindO_buildI_nil bindO_buildI_cons frz1_ar_eq shown_str shown_int shown_bool shown_sl shown_nil shown_ar shown_ptr shown_rp shown_mp shown_agg cells_agg cells_str cells_val cells_sl cells_nil cells_ar cells_ptr cells_rp cells_mp splice_agg splice_str splice_val splice_sl splice_nil splice_ar splice_ptr beq_self_eq_true Bool.and_self List.all_cons List.all_nil List.length_append List.set_cons_zero List.set_cons_succ Nat.zero_add Nat.add_zero indexAddrI_sl indexAddrI_ar partI_one partI_agg fieldAddrI_ptr fieldAddrI_rp fieldI_agg lenI_sl lenI_nil lenI_ar lenI_cl Option.isSome_some Option.bind_some Option.map_some sliceI_sl sliceI_nil sliceI_str sliceI_nil3 sliceI_ar3 convI_int convI_str intOf_int indexAddrI_cl indexI_str Keeps_set
attribute [go_sem low] condO_bool guardO_true guardO_false
attribute [go_sem low] nextO_eq
end Go.IL

/- What the program answers, as plain functions: texts, the table of lines. -/
namespace Go.Proofs.W
open Go Go.IL

abbrev Text := List UInt8

/-- A line of a configuration; a row of the table of what lines may be. -/
structure Line where
  head : Int
  name : Text
  leaf : Text
  value : Text
  deriving DecidableEq, Inhabited
structure Row where
  head : Int
  name : Text
  kind : Int
  lo : Int
  hi : Int
  choices : List Text
  dflt : Text
  cls : Int
  deriving DecidableEq, Inhabited

theorem find_at {α : Type} {p : α → Bool} : ∀ {l : List α} {i : Nat} {r : α}, (∀ j r, j < i → l[j]? = some r → p r = false) → l[i]? = some r → p r = true → l.find? p = some r
  | [], i, r, _, h, _ => by simp at h
  | a :: l, 0, r, _, h, hp => by simp at h; subst h; simp [hp]
  | a :: l, i + 1, r, hb, h, hp => by
    have h0 := hb 0 a (Nat.succ_pos i) rfl
    rw [List.find?_cons, h0]
    exact find_at (p := p) (l := l) (i := i) (fun j r hj hr => hb (j + 1) r (Nat.succ_lt_succ hj) (by simpa using hr)) (by simpa using h) hp
theorem find_none {α : Type} {p : α → Bool} {l : List α} (h : ∀ j r, j < l.length → l[j]? = some r → p r = false) : l.find? p = none := by
  rw [List.find?_eq_none]
  intro x hx
  obtain ⟨j, hj, rfl⟩ := List.mem_iff_getElem.1 hx
  rw [h j _ hj (List.getElem?_eq_getElem hj)]; simp
def intV (n : Int) : V := .val (.int .i64 n)
def boolV (b : Bool) : V := .val (.bool b)
def u8V (b : UInt8) : V := .val (.int .u8 b.toNat)
def strsV (l : List Text) : V := .sl (l.map .str)
def lineV (l : Line) : V := .agg [.val (.int .i64 l.head), .str l.name, .str l.leaf, .str l.value]
def linesV (l : List Line) : V := .sl (l.map lineV)
def rowV (r : Row) : V := .agg [.val (.int .i64 r.head), .str r.name, .val (.int .i64 r.kind), .val (.int .i64 r.lo), .val (.int .i64 r.hi), .sl (r.choices.map .str), .str r.dflt, .val (.int .i64 r.cls)]

def row0 : Row := ⟨0, [], 0, 0, 0, [], [], 0⟩
def table : List Row := [
  ⟨0, [114,111,117,116,101,114,45,105,100], 0, 0, 0, [], [], 6⟩,
  ⟨1, [99,111,115,116], 2, 0, 65535, [], [49], 2⟩,
  ⟨1, [116,121,112,101], 3, 0, 0, [[110,111,114,109,97,108], [115,116,117,98], [110,115,115,97]], [110,111,114,109,97,108], 3⟩,
  ⟨2, [97,100,100,114,101,115,115], 1, 0, 0, [], [], 4⟩,
  ⟨2, [97,114,101,97], 0, 0, 0, [], [], 5⟩,
  ⟨2, [97,117,116,104], 4, 0, 8, [], [], 3⟩,
  ⟨2, [99,111,115,116], 2, 1, 65535, [], [49,48], 2⟩,
  ⟨2, [100,101,97,100], 2, 1, 65535, [], [52,48], 3⟩,
  ⟨2, [104,101,108,108,111], 2, 1, 65535, [], [49,48], 3⟩,
  ⟨2, [110,101,116,119,111,114,107], 3, 0, 0, [[98,114,111,97,100,99,97,115,116], [112,111,105,110,116,45,116,111,45,112,111,105,110,116]], [98,114,111,97,100,99,97,115,116], 4⟩,
  ⟨2, [112,114,105,111,114,105,116,121], 2, 0, 255, [], [49], 1⟩,
  ⟨2, [114,101,116,114,97,110,115,109,105,116], 2, 1, 3600, [], [53], 0⟩]
@[go_sem] theorem table_len : table.length = 12 := rfl
def findRow (h : Int) (n : Text) : Option Row := table.find? fun r => decide (r.head = h) && decide (r.name = n)

def sTable : Sem1 := fun args _ => match args with
  | [] => some (.sl (table.map rowV))
  | _ => none
@[go_sem] theorem sTable_eq (H : Heap) : sTable [] H = some (.sl (table.map rowV)) := rfl
def sNumber : Sem1 := fun args _ => match args with
  | [.val (.int .i64 h), .str n, .val (.int .i64 lo), .val (.int .i64 hi), .str d, .val (.int .i64 c)] => some (rowV ⟨h, n, 2, lo, hi, [], d, c⟩)
  | _ => none
@[go_sem] theorem sNumber_eq (h : Int) (n : Text) (lo hi : Int) (d : Text) (c : Int) (H : Heap) : sNumber [.val (.int .i64 h), .str n, .val (.int .i64 lo), .val (.int .i64 hi), .str d, .val (.int .i64 c)] H =
  some (.agg [.val (.int .i64 h), .str n, .val (.int .i64 2), .val (.int .i64 lo), .val (.int .i64 hi), .sl [], .str d, .val (.int .i64 c)]) := rfl
def sFind : Sem1 := fun args _ => match args with
  | [.val (.int .i64 h), .str n] => some (.tup [rowV ((findRow h n).getD row0), .val (.bool (findRow h n).isSome)])
  | _ => none
@[go_sem] theorem sFind_eq (h : Int) (n : Text) (H : Heap) : sFind [.val (.int .i64 h), .str n] H = some (.tup [rowV ((findRow h n).getD row0), .val (.bool (findRow h n).isSome)]) := rfl
end Go.Proofs.W

/- Texts: words, numbers, addresses; what values may be. -/
namespace Go.Proofs.W
open Go Go.IL

def u8? (c : Int) : Option UInt8 := if 0 ≤ c ∧ c < 256 then some (UInt8.ofNat c.toNat) else none
@[go_sem] theorem u8?_nat (b : UInt8) : u8? (b.toNat : Int) = some b := by
  have := b.toNat_lt
  unfold u8?
  rw [if_pos (by omega)]
  simp
theorem u8?_some {c : Int} {b : UInt8} (h : u8? c = some b) : c = (b.toNat : Int) := by
  unfold u8? at h
  split at h
  · rename_i hc
    cases h
    obtain ⟨n, rfl⟩ := Int.eq_ofNat_of_zero_le hc.1
    have : n < 256 := by omega
    simp [Nat.mod_eq_of_lt this]
  · cases h
theorem byte_all {p : UInt8 → Bool} (h : ∀ n : Fin 256, p (UInt8.ofNat n.val) = true) (b : UInt8) : p b = true := by
  have := h ⟨b.toNat, b.toNat_lt⟩
  simpa using this

/-- Where a byte stands in a text. -/
def bIdx (l : Text) (c : UInt8) : Int := match l.findIdx? (fun b => decide (b = c)) with | some i => i | none => -1
def sIndexByte : Sem1 := fun args _ => match args with
  | [.str l, .val (.int .u8 c)] => (u8? c).map fun b => .val (.int .i64 (bIdx l b))
  | _ => none
@[go_sem] theorem sIndexByte_eq (l : Text) (c : Int) (H : Heap) : sIndexByte [.str l, .val (.int .u8 c)] H = (u8? c).map fun b => .val (.int .i64 (bIdx l b)) := rfl

def insideB (b : UInt8) : Bool := (decide (97 ≤ b ||| 32) && decide (b ||| 32 ≤ 122)) || (decide (48 ≤ b) && decide (b ≤ 57)) || decide (b = 46) || decide (b = 47) || decide (b = 45) || decide (b = 95)
def sInside : Sem1 := fun args _ => match args with
  | [.val (.int .u8 c)] => (u8? c).map fun b => .val (.bool (insideB b))
  | _ => none
@[go_sem] theorem sInside_eq (c : Int) (H : Heap) : sInside [.val (.int .u8 c)] H = (u8? c).map fun b => .val (.bool (insideB b)) := rfl

def wordLen (l : Text) : Nat := (l.takeWhile insideB).length
def big : Nat := 1073741824
def sWord : Sem1 := fun args _ => match args with
  | [.str l] => if l.length ≤ big then some (.val (.int .i64 (wordLen l))) else none
  | _ => none
@[go_sem] theorem sWord_eq (l : Text) (H : Heap) : sWord [.str l] H = if l.length ≤ big then some (.val (.int .i64 (wordLen l))) else none := rfl
def isWordB (l : Text) : Bool := decide (l ≠ []) && decide (l.length ≤ 31) && l.all insideB
def sTextBool (p : Text → Bool) : Sem1 := fun args _ => match args with
  | [.str l] => some (.val (.bool (p l)))
  | _ => none
@[go_sem] theorem sTextBool_eq (p : Text → Bool) (l : Text) (H : Heap) : sTextBool p [.str l] H = some (.val (.bool (p l))) := rfl

def sTextBig (p : Text → Bool) : Sem1 := fun args _ => match args with
  | [.str l] => if l.length ≤ big then some (.val (.bool (p l))) else none
  | _ => none
@[go_sem] theorem sTextBig_eq (p : Text → Bool) (l : Text) (H : Heap) : sTextBig p [.str l] H = if l.length ≤ big then some (.val (.bool (p l))) else none := rfl

/-- A number's digits. -/
def digB (b : UInt8) : Bool := decide (48 ≤ b) && decide (b ≤ 57)
def valB (l : Text) : Nat := l.foldl (fun n b => 10 * n + (b.toNat - 48)) 0
def decB (l : Text) : Option Nat := if (l ≠ [] ∧ l.length ≤ 9 ∧ l.all digB = true) ∧ (l.head? = some 48 → l.length = 1) then some (valB l) else none
def sDec : Sem1 := fun args _ => match args with
  | [.str l] => if l.length ≤ big then some (.tup [.val (.int .i64 ((decB l).getD 0 : Nat)), .val (.bool (decB l).isSome)]) else none
  | _ => none
@[go_sem] theorem sDec_eq (l : Text) (H : Heap) : sDec [.str l] H = if l.length ≤ big then some (.tup [.val (.int .i64 ((decB l).getD 0 : Nat)), .val (.bool (decB l).isSome)]) else none := rfl

/-- A text's parts, at a sign. -/
def partsB (c : UInt8) : Text → List Text
  | [] => [[]]
  | b :: l => if b = c then [] :: partsB c l else match partsB c l with
    | p :: ps => (b :: p) :: ps
    | [] => [[b]]
theorem partsB_ne (c : UInt8) : ∀ l, partsB c l ≠ []
  | [] => by simp [partsB]
  | b :: l => by
    unfold partsB
    split
    · simp
    · split <;> simp
def sParts : Sem1 := fun args _ => match args with
  | [.str l, .val (.int .u8 c)] => if l.length ≤ big then (u8? c).map fun b => strsV (partsB b l) else none
  | _ => none
@[go_sem] theorem sParts_eq (l : Text) (c : Int) (H : Heap) : sParts [.str l, .val (.int .u8 c)] H = if l.length ≤ big then (u8? c).map fun b => .sl ((partsB b l).map .str) else none := rfl

def part255 (l : Text) : Option Nat := (decB l).bind fun k => if k ≤ 255 then some k else none
def addrL : List Text → Nat → Option Nat
  | [], n => some n
  | w :: ws, n => (part255 w).bind fun k => addrL ws (256 * n + k)
def addrB (l : Text) : Option Nat := if (partsB 46 l).length = 4 then addrL (partsB 46 l) 0 else none
def sAddr : Sem1 := fun args _ => match args with
  | [.str l] => if l.length ≤ big then some (.tup [.val (.int .u32 ((addrB l).getD 0 : Nat)), .val (.bool (addrB l).isSome)]) else none
  | _ => none
@[go_sem] theorem sAddr_eq (l : Text) (H : Heap) : sAddr [.str l] H = if l.length ≤ big then some (.tup [.val (.int .u32 ((addrB l).getD 0 : Nat)), .val (.bool (addrB l).isSome)]) else none := rfl
def netB (l : Text) : Option (Nat × Nat) :=
  match partsB 47 l with
  | [a, n] => (addrB a).bind fun a => (decB n).bind fun n => if 1 ≤ n ∧ n ≤ 32 then some (a, n) else none
  | _ => none
def sNet : Sem1 := fun args _ => match args with
  | [.str l] => if l.length ≤ big then some (.tup [.val (.int .u32 ((netB l).getD (0, 0)).1), .val (.int .i64 ((netB l).getD (0, 0)).2), .val (.bool (netB l).isSome)]) else none
  | _ => none
@[go_sem] theorem sNet_eq (l : Text) (H : Heap) : sNet [.str l] H = if l.length ≤ big then some (.tup [.val (.int .u32 ((netB l).getD (0, 0)).1), .val (.int .i64 ((netB l).getD (0, 0)).2), .val (.bool (netB l).isSome)]) else none := rfl

/-- May a value be a row's? May a name be a head's? -/
def rightB (r : Row) (v : Text) : Bool :=
  if r.kind = 0 then (addrB v).isSome else if r.kind = 1 then (netB v).isSome
  else if r.kind = 2 then (match decB v with | some n => decide (r.lo ≤ n) && decide ((n : Int) ≤ r.hi) | none => false)
  else if r.kind = 3 then r.choices.any fun c => decide (c = v)
  else if r.kind = 4 then isWordB v && decide ((v.length : Int) ≤ r.hi) else false
def textsOf : List V → Option (List Text)
  | [] => some []
  | .str t :: vs => (textsOf vs).map fun ts => t :: ts
  | _ => none
@[go_sem] theorem textsOf_map : ∀ c : List Text, textsOf (c.map V.str) = some c
  | [] => rfl
  | l :: c => by simp [textsOf, textsOf_map c]
theorem textsOf_some : ∀ {vs : List V} {c : List Text}, textsOf vs = some c → vs = c.map V.str
  | [], c, h => by simp [textsOf] at h; subst h; rfl
  | v :: vs, c, h => by
    unfold textsOf at h
    split at h
    · rename_i e; cases e
    · rename_i t vs' e
      cases e
      simp only [Option.map_eq_some_iff] at h
      obtain ⟨ts, h1, rfl⟩ := h
      rw [textsOf_some h1]; rfl
    · cases h
def sRight : Sem1 := fun args _ => match args with
  | [.agg [.val (.int .i64 h), .str n, .val (.int .i64 k), .val (.int .i64 lo), .val (.int .i64 hi), .sl cs, .str d, .val (.int .i64 c)], .str v] =>
    if v.length ≤ big ∧ cs.length ≤ big then ((textsOf cs).map fun cs => .val (.bool (rightB ⟨h, n, k, lo, hi, cs, d, c⟩ v))) else none
  | _ => none
@[go_sem] theorem sRight_eq (h : Int) (n : Text) (k lo hi : Int) (cs : List V) (d : Text) (c : Int) (v : Text) (H : Heap) :
    sRight [.agg [.val (.int .i64 h), .str n, .val (.int .i64 k), .val (.int .i64 lo), .val (.int .i64 hi), .sl cs, .str d, .val (.int .i64 c)], .str v] H = if v.length ≤ big ∧ cs.length ≤ big then ((textsOf cs).map fun cs => .val (.bool (rightB ⟨h, n, k, lo, hi, cs, d, c⟩ v))) else none := rfl
def namedB (h : Int) (n : Text) : Bool :=
  if h = 0 then decide (n = []) else if h = 1 then (addrB n).isSome else if h = 2 then isWordB n && n.all fun b => decide (b ≠ 47) else false
def sNamed : Sem1 := fun args _ => match args with
  | [.val (.int .i64 h), .str n] => if n.length ≤ big then some (.val (.bool (namedB h n))) else none
  | _ => none
@[go_sem] theorem sNamed_eq (h : Int) (n : Text) (H : Heap) : sNamed [.val (.int .i64 h), .str n] H = if n.length ≤ big then some (.val (.bool (namedB h n))) else none := rfl

/-- A line that may be; the order of lines. -/
def lineOkB (l : Line) : Bool := match findRow l.head l.leaf with
  | some r => namedB l.head l.name && rightB r l.value
  | none => false
def Line.fits (l : Line) : Prop := l.name.length ≤ big ∧ l.leaf.length ≤ big ∧ l.value.length ≤ big
instance (l : Line) : Decidable l.fits := inferInstanceAs (Decidable (_ ∧ _ ∧ _))
def sLineOk : Sem1 := fun args _ => match args with
  | [.agg [.val (.int .i64 h), .str n, .str f, .str v]] => if (Line.mk h n f v).fits then some (.val (.bool (lineOkB ⟨h, n, f, v⟩))) else none
  | _ => none
@[go_sem] theorem sLineOk_eq (h : Int) (n f v : Text) (H : Heap) : sLineOk [.agg [.val (.int .i64 h), .str n, .str f, .str v]] H = if (Line.mk h n f v).fits then some (.val (.bool (lineOkB ⟨h, n, f, v⟩))) else none := rfl
def lessB (a b : Line) : Bool :=
  if a.head ≠ b.head then decide (a.head < b.head) else if a.name ≠ b.name then Op.bytesLess a.name b.name else Op.bytesLess a.leaf b.leaf
def sLess : Sem1 := fun args _ => match args with
  | [.agg [.val (.int .i64 h), .str n, .str f, .str v], .agg [.val (.int .i64 h'), .str n', .str f', .str v']] => some (.val (.bool (lessB ⟨h, n, f, v⟩ ⟨h', n', f', v'⟩)))
  | _ => none
@[go_sem] theorem sLess_eq (h : Int) (n f v : Text) (h' : Int) (n' f' v' : Text) (H : Heap) : sLess [.agg [.val (.int .i64 h), .str n, .str f, .str v], .agg [.val (.int .i64 h'), .str n', .str f', .str v']] H = some (.val (.bool (lessB ⟨h, n, f, v⟩ ⟨h', n', f', v'⟩))) := rfl
/-- In order, the one behind the other. -/
def sortedB : List Line → Bool
  | a :: b :: l => lessB a b && sortedB (b :: l)
  | _ => true
def rightsB (c : List Line) : Bool := c.all lineOkB && sortedB c && decide (c.length ≤ 64)
def confOk (c : List Line) : Prop := c.length ≤ big ∧ ∀ l ∈ c, l.fits
instance (c : List Line) : Decidable (confOk c) := inferInstanceAs (Decidable (_ ∧ _))
def lineOf : V → Option Line
  | .agg [.val (.int .i64 h), .str n, .str f, .str v] => some ⟨h, n, f, v⟩
  | _ => none
def linesOf : List V → Option (List Line)
  | [] => some []
  | v :: vs => (lineOf v).bind fun l => (linesOf vs).map fun ls => l :: ls
@[go_sem] theorem linesOf_map : ∀ c : List Line, linesOf (c.map lineV) = some c
  | [] => rfl
  | l :: c => by simp [linesOf, linesOf_map c, lineOf, lineV]
theorem linesOf_some : ∀ {vs : List V} {c : List Line}, linesOf vs = some c → vs = c.map lineV
  | [], c, h => by simp [linesOf] at h; subst h; rfl
  | v :: vs, c, h => by
    simp only [linesOf, Option.bind_eq_some_iff, Option.map_eq_some_iff] at h
    obtain ⟨l, h1, ls, h2, rfl⟩ := h
    rw [linesOf_some h2]
    unfold lineOf at h1
    split at h1
    · cases h1; rfl
    · cases h1
def confOf : V → Option (List Line)
  | .sl xs => linesOf xs
  | .nil => some []
  | _ => none
@[go_sem] theorem confOf_sl (xs : List V) : confOf (.sl xs) = linesOf xs := rfl
@[go_sem] theorem confOf_nil : confOf .nil = some [] := rfl
def sRights : Sem1 := fun args _ => match args with
  | [v] => (confOf v).bind fun c => if confOk c then some (.val (.bool (rightsB c))) else none
  | _ => none
@[go_sem] theorem sRights_eq (v : V) (H : Heap) : sRights [v] H = (confOf v).bind fun c => if confOk c then some (.val (.bool (rightsB c))) else none := rfl
/-- Three-way comparisons; the first that is no zero. -/
def cmp3 (lt eq : Bool) : Int := if lt then -1 else if eq then 0 else 1
def sCmpInt : Sem1 := fun args _ => match args with
  | [.val (.int .i64 a), .val (.int .i64 b)] => some (.val (.int .i64 (cmp3 (decide (a < b)) (decide (a = b)))))
  | _ => none
@[go_sem] theorem sCmpInt_eq (a b : Int) (H : Heap) : sCmpInt [.val (.int .i64 a), .val (.int .i64 b)] H = some (.val (.int .i64 (cmp3 (decide (a < b)) (decide (a = b))))) := rfl
def sCmpStr : Sem1 := fun args _ => match args with
  | [.str a, .str b] => some (.val (.int .i64 (cmp3 (Op.bytesLess a b) (decide (a = b)))))
  | _ => none
@[go_sem] theorem sCmpStr_eq (a b : Text) (H : Heap) : sCmpStr [.str a, .str b] H = some (.val (.int .i64 (cmp3 (Op.bytesLess a b) (decide (a = b))))) := rfl
def orL : List Int → Int
  | [] => 0
  | a :: l => if a = 0 then orL l else a
def intsOf : List V → Option (List Int)
  | [] => some []
  | .val (.int .i64 n) :: vs => (intsOf vs).map fun l => n :: l
  | _ => none
@[go_sem] theorem intsOf_nil : intsOf [] = some [] := rfl
@[go_sem] theorem intsOf_cons (n : Int) (vs : List V) : intsOf (.val (.int .i64 n) :: vs) = (intsOf vs).map fun l => n :: l := rfl
theorem intsOf_some : ∀ {vs : List V} {l : List Int}, intsOf vs = some l → vs = l.map fun n => .val (.int .i64 n)
  | [], l, h => by simp [intsOf] at h; subst h; rfl
  | v :: vs, l, h => by
    unfold intsOf at h
    split at h
    · rename_i e; cases e
    · rename_i n vs' e
      cases e
      simp only [Option.map_eq_some_iff] at h
      obtain ⟨l', h1, rfl⟩ := h
      rw [intsOf_some h1]; rfl
    · cases h
def ownInts (H : Heap) (id n : Nat) : Option (List Int) := match H id with
  | .mem 1 xs => if n = xs.length ∧ n ≤ big then intsOf xs else none
  | _ => none
def sOr : Sem1 := fun args H => match args with
  | [.ar id 1 0 n] => (ownInts H id n).map fun l => .val (.int .i64 (orL l))
  | _ => none
@[go_sem] theorem sOr_eq (id n : Nat) (H : Heap) : sOr [.ar id 1 0 n] H = (ownInts H id n).map fun l => .val (.int .i64 (orL l)) := rfl
@[go_sem] theorem ownInts_eq (H : Heap) (id n : Nat) : ownInts H id n = (match H id with
  | .mem 1 xs => if n = xs.length ∧ n ≤ big then intsOf xs else none
  | _ => none) := rfl
def orderB (a b : Line) : Int := orL [cmp3 (decide (a.head < b.head)) (decide (a.head = b.head)), cmp3 (Op.bytesLess a.name b.name) (decide (a.name = b.name)), cmp3 (Op.bytesLess a.leaf b.leaf) (decide (a.leaf = b.leaf))]
def sOrder : Sem1 := fun args _ => match args with
  | [.agg [.val (.int .i64 h), .str n, .str f, .str v], .agg [.val (.int .i64 h'), .str n', .str f', .str v']] => some (.val (.int .i64 (orderB ⟨h, n, f, v⟩ ⟨h', n', f', v'⟩)))
  | _ => none
@[go_sem] theorem sOrder_eq (h : Int) (n f v : Text) (h' : Int) (n' f' v' : Text) (H : Heap) : sOrder [.agg [.val (.int .i64 h), .str n, .str f, .str v], .agg [.val (.int .i64 h'), .str n', .str f', .str v']] H = some (.val (.int .i64 (orderB ⟨h, n, f, v⟩ ⟨h', n', f', v'⟩))) := rfl
/-- Of the library: what is asked of it. -/
def sSplit : Sem1 := fun args _ => match args with
  | [.str l, .str [c]] => if l.length ≤ big then some (strsV (partsB c l)) else none
  | _ => none
@[go_sem] theorem sSplit_eq (l : Text) (c : UInt8) (H : Heap) : sSplit [.str l, .str [c]] H = if l.length ≤ big then some (.sl ((partsB c l).map .str)) else none := rfl
def trimDig (l : Text) : Text := ((l.dropWhile digB).reverse.dropWhile digB).reverse
def digits : Text := [48, 49, 50, 51, 52, 53, 54, 55, 56, 57]
def sTrim : Sem1 := fun args _ => match args with
  | [.str l, .str [48, 49, 50, 51, 52, 53, 54, 55, 56, 57]] => if l.length ≤ big then some (.str (trimDig l)) else none
  | _ => none
@[go_sem] theorem sTrim_eq (l : Text) (H : Heap) : sTrim [.str l, .str [48, 49, 50, 51, 52, 53, 54, 55, 56, 57]] H = if l.length ≤ big then some (.str (trimDig l)) else none := rfl
def sAtoi : Sem1 := fun args _ => match args with
  | [.str l] => if l ≠ [] ∧ l.length ≤ 9 ∧ l.all digB = true then some (.tup [.val (.int .i64 (valB l : Nat)), .val .nilIface]) else none
  | _ => none
@[go_sem] theorem sAtoi_eq (l : Text) (H : Heap) : sAtoi [.str l] H = if l ≠ [] ∧ l.length ≤ 9 ∧ l.all digB = true then some (.tup [.val (.int .i64 (valB l : Nat)), .val .nilIface]) else none := rfl
def cutB (c : UInt8) (l : Text) : Text × Text × Bool := (l.takeWhile (fun b => decide (b ≠ c)), (l.dropWhile (fun b => decide (b ≠ c))).drop 1, l.any fun b => decide (b = c))
def sCut : Sem1 := fun args _ => match args with
  | [.str l, .str [c]] => if l.length ≤ big then some (.tup [.str (cutB c l).1, .str (cutB c l).2.1, .val (.bool (cutB c l).2.2)]) else none
  | _ => none
@[go_sem] theorem sCut_eq (l : Text) (c : UInt8) (H : Heap) : sCut [.str l, .str [c]] H = if l.length ≤ big then some (.tup [.str (cutB c l).1, .str (cutB c l).2.1, .val (.bool (cutB c l).2.2)]) else none := rfl
def sContains : Sem1 := fun args _ => match args with
  | [.str l, .str [c]] => if l.length ≤ big then some (.val (.bool (l.any fun b => decide (b = c)))) else none
  | _ => none
@[go_sem] theorem sContains_eq (l : Text) (c : UInt8) (H : Heap) : sContains [.str l, .str [c]] H = if l.length ≤ big then some (.val (.bool (l.any fun b => decide (b = c)))) else none := rfl
def sHas : Sem1 := fun args _ => match args with
  | [.sl xs, .str t] => if xs.length ≤ big then (textsOf xs).map fun l => .val (.bool (l.any fun c => decide (c = t))) else none
  | _ => none
@[go_sem] theorem sHas_eq (xs : List V) (t : Text) (H : Heap) : sHas [.sl xs, .str t] H = if xs.length ≤ big then (textsOf xs).map fun l => .val (.bool (l.any fun c => decide (c = t))) else none := rfl
end Go.Proofs.W
