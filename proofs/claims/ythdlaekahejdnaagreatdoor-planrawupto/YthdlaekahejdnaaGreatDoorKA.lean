import Derived.Calls
import Derived.Orders
import Derived.Laws.AppendOwn
import Derived.Laws.CopyRow
import Derived.Laws.StructEq
import Derived.Laws.Cells
set_option linter.unusedVariables false
set_option linter.unusedSimpArgs false
/- A small program logic over the kit's Code.wp: ideal values, ghost maps, what a world has to do with them. -/

namespace Go.IL
open Go

/-- Ideal values. 'sl': a slice whose cells never change: its elements; 'ar': a slice of an owned array (object id, cells an element, from which element, how many); 'cl': one without spare room;
'ptr': into an owned object (cells an element, element, cell in it); 'rp': to cells that never change. -/
inductive V where
  | junk
  | val (x : Value)
  | str (l : List UInt8)
  | sl (xs : List V)
  | nil
  | ar (id es off len : Nat)
  | cl (id es off len : Nat)
  | ptr (id es k j : Nat)
  | rp (cs : List V)
  | mp (id : Nat)
  | it (id : Nat)
  | fn (f : Nat) (cap : List V)
  | agg (cs : List V)
  | tup (vs : List V)
  deriving Inhabited

def V.cells : V → List V
  | .agg cs => cs
  | v => [v]
def V.int (n : Int) : V := .val (.int .i64 n)
def V.bool (b : Bool) : V := .val (.bool b)
/-- Is it surely the value of one cell? -/
def V.one : V → Bool
  | .junk | .agg _ | .tup _ => false
  | .val x => x.oneCell'
  | _ => true

/-- Which block an object is, how many cells that block has; which cells never change. -/
structure Ghost where
  loc : Nat → Option Nat
  sz : Nat → Nat
  imm : Nat → Nat → Option Value
  mono : Bool

inductive Rep (G : Ghost) : V → Value → Prop
  | junk {x : Value} : Rep G .junk x
  | val {x : Value} : Rep G (.val x) x
  | str {l : List UInt8} : Rep G (.str l) (.string ⟨l.toArray⟩)
  | nil : Rep G .nil (.slice none 0 0)
  | sl0 {a : Option Addr} {c : Nat} : Rep G (.sl []) (.slice a 0 c)
  | sl {es : Nat} {xs : List V} {b o c : Nat} (hc : xs.length ≤ c) (ys : Nat → Nat → Value) (hl : ∀ (i : Nat) x, xs[i]? = some x → x.cells.length = es)
      (hi : ∀ i j, i < xs.length → j < es → G.imm b (o + i * es + j) = some (ys i j))
      (hr : ∀ (i j : Nat) (x v : V), xs[i]? = some x → x.cells[j]? = some v → Rep G v (ys i j)) : Rep G (.sl xs) (.slice (some ⟨b, o, none⟩) xs.length c)
  | ar {id es off len b cap : Nat} (hl : G.loc id = some b) (hc : (off + cap) * es = G.sz id) (hn : len ≤ cap) :
      Rep G (.ar id es off len) (.slice (some ⟨b, off * es, none⟩) len cap)
  | ar0 {id es off b o : Nat} (hl : G.loc id = some b) : Rep G (.ar id es off 0) (.slice (some ⟨b, o, none⟩) 0 0)
  | cl {id es off len b : Nat} (hl : G.loc id = some b) : Rep G (.cl id es off len) (.slice (some ⟨b, off * es, none⟩) len len)
  | cl0 {id es off b o : Nat} (hl : G.loc id = some b) : Rep G (.cl id es off 0) (.slice (some ⟨b, o, none⟩) 0 0)
  | ptr {id es k j b : Nat} (hl : G.loc id = some b) : Rep G (.ptr id es k j) (.pointer (some ⟨b, k * es + j, none⟩))
  | rp {cs : List V} {b o : Nat} (ys : Nat → Value) (hi : ∀ j, j < cs.length → G.imm b (o + j) = some (ys j))
      (hr : ∀ (j : Nat) (v : V), cs[j]? = some v → Rep G v (ys j)) : Rep G (.rp cs) (.pointer (some ⟨b, o, none⟩))
  | mp {id b : Nat} (hl : G.loc id = some b) : Rep G (.mp id) (.map (some b))
  | it {id b : Nat} (hl : G.loc id = some b) : Rep G (.it id) (.pointer (some ⟨b, 0, none⟩))
  | fn {f : Nat} {cap : List V} (ys : Array Value) (hn : ys.size = cap.length) (hr : ∀ (j : Nat) (v : V) y, cap[j]? = some v → ys[j]? = some y → Rep G v y) :
      Rep G (.fn f cap) (.func (.func f) #[] ys)
  | agg {cs : List V} (ys : Array Value) (hn : ys.size = cs.length) (ho : ∀ (j : Nat) y, ys[j]? = some y → y.oneCell' = true)
      (hr : ∀ (j : Nat) (v : V) y, cs[j]? = some v → ys[j]? = some y → Rep G v y) : Rep G (.agg cs) (.agg ys)
  | tup {vs : List V} (ys : Array Value) (hn : ys.size = vs.length) (hr : ∀ (j : Nat) (v : V) y, vs[j]? = some v → ys[j]? = some y → Rep G v y) : Rep G (.tup vs) (.tuple ys)

/-- An object of the ideal heap: elements of so many cells each; a map's entries; an iterator's map, what is left, what came last. -/
inductive Obj where
  | dead
  | mem (es : Nat) (xs : List V)
  | map (kvs : List (V × V))
  | iter (m : Nat) (st : List (V × V) × Option (V × V))
  deriving Inhabited

abbrev Heap := Nat → Obj
def Heap.set (H : Heap) (i : Nat) (o : Obj) : Heap := fun j => if j = i then o else H j

structure Ghost.le (G G' : Ghost) : Prop where
  loc : ∀ i b, G.loc i = some b → G'.loc i = some b
  sz : ∀ i b, G.loc i = some b → G'.sz i = G.sz i
  imm : ∀ b o v, G.imm b o = some v → G'.imm b o = some v
  mono : G'.mono = G.mono

theorem Ghost.le_refl (G : Ghost) : G.le G := ⟨fun _ _ h => h, fun _ _ _ => rfl, fun _ _ _ h => h, rfl⟩
theorem Ghost.le_trans {G₁ G₂ G₃ : Ghost} (h : G₁.le G₂) (h' : G₂.le G₃) : G₁.le G₃ :=
  ⟨fun i b e => h'.loc _ _ (h.loc i b e), fun i b e => (h'.sz i b (h.loc i b e)).trans (h.sz i b e), fun b o v e => h'.imm _ _ _ (h.imm b o v e), h'.mono.trans h.mono⟩

theorem Rep.mono {G G' : Ghost} (hG : G.le G') {v : V} {x : Value} (h : Rep G v x) : Rep G' v x := by
  induction h with
  | junk => exact .junk
  | val => exact .val
  | str => exact .str
  | nil => exact .nil
  | sl0 => exact .sl0
  | sl hc ys hl hi _ ih => exact .sl hc ys hl (fun i j a b => hG.imm _ _ _ (hi i j a b)) ih
  | ar hl hc hn => exact .ar (hG.loc _ _ hl) (by rw [hG.sz _ _ hl]; exact hc) hn
  | ar0 hl => exact .ar0 (hG.loc _ _ hl)
  | cl hl => exact .cl (hG.loc _ _ hl)
  | cl0 hl => exact .cl0 (hG.loc _ _ hl)
  | ptr hl => exact .ptr (hG.loc _ _ hl)
  | rp ys hi _ ih => exact .rp ys (fun j a => hG.imm _ _ _ (hi j a)) ih
  | mp hl => exact .mp (hG.loc _ _ hl)
  | it hl => exact .it (hG.loc _ _ hl)
  | fn ys hn _ ih => exact .fn ys hn ih
  | agg ys hn ho _ ih => exact .agg ys hn ho ih
  | tup ys hn _ ih => exact .tup ys hn ih

/-- An object's number bears, but for 4095, its block's type. -/
def tagged (i T : Nat) : Prop := i % 4096 ≠ 4095 → T = i % 4096
/-- What an object's block holds. -/
def ObjAt (G : Ghost) (w : World) (i b : Nat) : Obj → Prop
  | .dead => True
  | .mem es xs => ∃ arr T, w.heap[b]? = some (.cells arr T (0, 0)) ∧ tagged i T ∧ arr.size = G.sz i ∧ xs.length * es ≤ arr.size ∧ (∀ (j : Nat) y, arr[j]? = some y → y.oneCell' = true) ∧
      (∀ (k : Nat) x, xs[k]? = some x → x.cells.length = es) ∧
      ∀ (k j : Nat) x v y, xs[k]? = some x → x.cells[j]? = some v → arr[k * es + j]? = some y → Rep G v y
  | .map kvs => ∃ es clock, w.heap[b]? = some (.map es clock) ∧ es.size = kvs.length ∧ (∀ (k : Nat) e, es[k]? = some e → e.born < clock) ∧
      (∀ (j k : Nat) e f, es[j]? = some e → es[k]? = some f → e.born = f.born → j = k) ∧
      ∀ (k : Nat) e p, es[k]? = some e → kvs[k]? = some p → Rep G p.1 e.key ∧ Rep G p.2 e.val
  | .iter m st => ∃ bm es clock seen, G.loc m = some bm ∧ w.heap[b]? = some (.mapIter (some bm) clock seen clock) ∧ w.heap[bm]? = some (.map es clock) ∧
      (∀ (k : Nat) e, es[k]? = some e → e.born < clock) ∧
      (∀ (j k : Nat) e f, es[j]? = some e → es[k]? = some f → e.born = f.born → j = k) ∧
      (es.toList.filter fun e => !seen.contains e.born).length = st.1.length ∧
      (∀ (k : Nat) e p, (es.toList.filter fun e => !seen.contains e.born)[k]? = some e → st.1[k]? = some p → Rep G p.1 e.key ∧ Rep G p.2 e.val) ∧
      ∀ p, st.2 = some p → ∃ e ∈ es.toList, seen.back? = some e.born ∧ Rep G p.1 e.key ∧ Rep G p.2 e.val

structure Sim (G : Ghost) (H : Heap) (nx : Nat) (w : World) : Prop where
  imm : ∀ b o v, G.imm b o = some v → w.cell? ⟨b, o, none⟩ = some v ∧ v.oneCell' = true
  lt : ∀ i b, G.loc i = some b → i < nx ∧ b < w.heap.size
  obj : ∀ i, H i ≠ .dead → ∃ b, G.loc i = some b ∧ (∀ o, G.imm b o = none) ∧ ObjAt G w i b (H i)
  inj : ∀ i j b, H i ≠ .dead → H j ≠ .dead → G.loc i = some b → G.loc j = some b → i = j
  itr : ∀ i m l j b, H i = .iter m l → H j ≠ .dead → G.loc m = some b → G.loc j = some b → j = m

/-- From one moment to a later one: what was known is known; nothing that isn't a live object's turned. -/
structure Ext (G : Ghost) (H : Heap) (w : World) (G' : Ghost) (H' : Heap) (w' : World) : Prop where
  le : G.le G'
  size : w.heap.size ≤ w'.heap.size
  new : ∀ i b, H' i ≠ .dead → G'.loc i = some b → (∃ j, H j ≠ .dead ∧ G.loc j = some b) ∨ w.heap.size ≤ b
  keep : ∀ b, b < w.heap.size → (∀ i, H i ≠ .dead → G.loc i ≠ some b) → w'.heap[b]? = w.heap[b]?
  stay : ∀ i b, G.loc i = some b → H i = .dead → H' i = .dead
  imm : ∀ b o v, G'.imm b o = some v → G.imm b o = some v ∨ (∃ j, H j ≠ .dead ∧ G.loc j = some b) ∨ w.heap.size ≤ b
  base : ∀ i b, G'.loc i = some b → (∃ j, G.loc j = some b) ∨ w.heap.size ≤ b
  os : w'.os = w.os
  out : w'.output = w.output
  tape : w'.tape = w.tape
  drawn : G.mono = true → w.drawn ≤ w'.drawn

theorem Ext.refl (G : Ghost) (H : Heap) (w : World) : Ext G H w G H w :=
  ⟨G.le_refl, Nat.le_refl _, fun i _ h e => .inl ⟨i, h, e⟩, fun _ _ _ => rfl, fun _ _ _ h => h, fun _ _ _ h => .inl h, fun i _ e => .inl ⟨i, e⟩, rfl, rfl, rfl, fun _ => Nat.le_refl _⟩
theorem Ext.trans {G₁ G₂ G₃ : Ghost} {H₁ H₂ H₃ : Heap} {w₁ w₂ w₃ : World} (h : Ext G₁ H₁ w₁ G₂ H₂ w₂) (h' : Ext G₂ H₂ w₂ G₃ H₃ w₃) : Ext G₁ H₁ w₁ G₃ H₃ w₃ where
  le := Ghost.le_trans h.le h'.le
  size := Nat.le_trans h.size h'.size
  new i b hi e := by
    rcases h'.new i b hi e with ⟨j, hj, e⟩ | e
    · exact h.new j b hj e
    · exact .inr (Nat.le_trans h.size e)
  keep b hb hn := by
    rw [h'.keep b (Nat.lt_of_lt_of_le hb h.size) ?_, h.keep b hb hn]
    intro i hi e
    rcases h.new i b hi e with ⟨j, hj, e⟩ | e
    · exact hn j hj e
    · omega
  stay i b e hd := h'.stay i b (h.le.loc i b e) (h.stay i b e hd)
  imm b o v e := by
    rcases h'.imm b o v e with e | ⟨j, hj, e⟩ | e
    · exact h.imm b o v e
    · exact .inr (h.new j b hj e)
    · exact .inr (.inr (Nat.le_trans h.size e))
  base i b e := by
    rcases h'.base i b e with ⟨j, e⟩ | e
    · exact h.base j b e
    · exact .inr (Nat.le_trans h.size e)
  os := h'.os.trans h.os
  out := h'.out.trans h.out
  tape := h'.tape.trans h.tape
  drawn hm := Nat.le_trans (h.drawn hm) (h'.drawn (h.le.mono.trans hm))

/-- The draw of an answer turns nothing. -/
theorem Sim.drawn {G : Ghost} {H : Heap} {nx : Nat} {w : World} (h : Sim G H nx w) (n : Nat) : Sim G H nx { w with drawn := n } :=
  ⟨h.imm, h.lt, h.obj, h.inj, h.itr⟩
theorem Ext.drew (G : Ghost) (H : Heap) (w : World) (n : Nat) (hn : w.drawn ≤ n) : Ext G H w G H { w with drawn := n } :=
  ⟨G.le_refl, Nat.le_refl _, fun i _ h e => .inl ⟨i, h, e⟩, fun _ _ _ => rfl, fun _ _ _ h => h, fun _ _ _ h => .inl h, fun i _ e => .inl ⟨i, e⟩, rfl, rfl, rfl, fun _ => hn⟩
/-- Forgetting beforehand, forgetting behind. -/
theorem Ext.forgot {G G' : Ghost} {H H₁ H' : Heap} {w w' : World} (h : Ext G H₁ w G' H' w') (hs : ∀ i, H₁ i = .dead ∨ H₁ i = H i) : Ext G H w G' H' w' where
  le := h.le
  size := h.size
  new i b hi e := by
    rcases h.new i b hi e with ⟨j, hj, e⟩ | e
    · rcases hs j with q | q
      · exact (hj q).elim
      · exact .inl ⟨j, by rwa [q] at hj, e⟩
    · exact .inr e
  keep b hb hn := h.keep b hb fun i hi => by
    rcases hs i with q | q
    · exact (hi q).elim
    · rw [q] at hi; exact hn i hi
  stay i b e hd := h.stay i b e (by rcases hs i with q | q; exact q; rw [q]; exact hd)
  imm b o v e := by
    rcases h.imm b o v e with e | ⟨j, hj, e⟩ | e
    · exact .inl e
    · rcases hs j with q | q
      · exact (hj q).elim
      · exact .inr (.inl ⟨j, by rwa [q] at hj, e⟩)
    · exact .inr (.inr e)
  base := h.base
  os := h.os
  out := h.out
  tape := h.tape
  drawn := h.drawn
theorem Ext.forget {G G' : Ghost} {H H' H'' : Heap} {w w' : World} (h : Ext G H w G' H' w') (hs : ∀ i, H'' i = .dead ∨ H'' i = H' i) : Ext G H w G' H'' w' where
  le := h.le
  size := h.size
  new i b hi e := h.new i b (by rcases hs i with q | q; exact (hi q).elim; rwa [q] at hi) e
  keep := h.keep
  stay i b e hd := by rcases hs i with q | q; exact q; rw [q]; exact h.stay i b e hd
  imm := h.imm
  base := h.base
  os := h.os
  out := h.out
  tape := h.tape
  drawn := h.drawn

/-- Objects that nobody wants any more are forgotten. -/
theorem Sim.forget {G : Ghost} {H H' : Heap} {nx : Nat} {w : World} (h : Sim G H nx w) (hs : ∀ i, H' i = .dead ∨ H' i = H i) : Sim G H' nx w where
  imm := h.imm
  lt := h.lt
  obj i hi := by
    rcases hs i with e | e
    · exact (hi e).elim
    · rw [e] at hi ⊢; exact h.obj i hi
  inj i j b hi hj := by
    refine h.inj i j b ?_ ?_
    · rcases hs i with e | e
      · exact (hi e).elim
      · rwa [e] at hi
    · rcases hs j with e | e
      · exact (hj e).elim
      · rwa [e] at hj
  itr i m l j b hi hj := by
    refine h.itr i m l j b ?_ ?_
    · rcases hs i with e | e
      · rw [e] at hi; cases hi
      · rwa [e] at hi
    · rcases hs j with e | e
      · exact (hj e).elim
      · rwa [e] at hj
theorem Sim.later {G : Ghost} {H : Heap} {nx nx' : Nat} {w : World} (h : Sim G H nx w) (hn : nx ≤ nx') : Sim G H nx' w :=
  ⟨h.imm, fun i b e => ⟨Nat.lt_of_lt_of_le (h.lt i b e).1 hn, (h.lt i b e).2⟩, h.obj, h.inj, h.itr⟩

@[simp] theorem Heap.set_same (H : Heap) (i : Nat) (o : Obj) : H.set i o i = o := by simp [Heap.set]
theorem Heap.set_ne (H : Heap) {i j : Nat} (o : Obj) (h : j ≠ i) : H.set i o j = H j := by simp [Heap.set, h]
end Go.IL

/- What an allocation, a store, an append in place, a freeze does to the tie between ideal heap and world. -/
namespace Go.IL
open Go

theorem ObjAt.mono {G G' : Ghost} {w w' : World} {i b : Nat} {o : Obj} (hG : G.le G') (hs : G'.sz i = G.sz i) (hb : w'.heap[b]? = w.heap[b]?)
    (hm : ∀ (m : Nat) st bm, o = .iter m st → G.loc m = some bm → w'.heap[bm]? = w.heap[bm]?) (h : ObjAt G w i b o) : ObjAt G' w' i b o := by
  cases o with
  | dead => trivial
  | mem es xs =>
    obtain ⟨arr, T, h1, ht, h2, h3, h3', h4, h5⟩ := h
    exact ⟨arr, T, hb.trans h1, ht, h2.trans hs.symm, h3, h3', h4, fun k j x v y a c d => (h5 k j x v y a c d).mono hG⟩
  | map kvs =>
    obtain ⟨es, cl, h1, h2, h3, h4, h5⟩ := h
    exact ⟨es, cl, hb.trans h1, h2, h3, h4, fun k e p a c => ⟨(h5 k e p a c).1.mono hG, (h5 k e p a c).2.mono hG⟩⟩
  | iter m st =>
    obtain ⟨bm, es, cl, seen, h0, h1, h2, h3, h4, h5, h6, h7⟩ := h
    exact ⟨bm, es, cl, seen, hG.loc _ _ h0, hb.trans h1, (hm m st bm rfl h0).trans h2, h3, h4, h5, fun k e p a c => ⟨(h6 k e p a c).1.mono hG, (h6 k e p a c).2.mono hG⟩,
      fun p hp => by obtain ⟨e, q1, q2, q3, q4⟩ := h7 p hp; exact ⟨e, q1, q2, q3.mono hG, q4.mono hG⟩⟩

def Ghost.put (G : Ghost) (id b n : Nat) : Ghost :=
  { G with loc := fun i => if i = id then some b else G.loc i, sz := fun i => if i = id then n else G.sz i }
theorem Ghost.le_put {G : Ghost} {id b n : Nat} (h : G.loc id = none) : G.le (G.put id b n) where
  loc i c e := by
    have : i ≠ id := fun x => by subst x; simp [h] at e
    simp [Ghost.put, this, e]
  sz i c e := by
    have : i ≠ id := fun x => by subst x; simp [h] at e
    simp [Ghost.put, this]
  imm _ _ _ e := e
  mono := rfl

theorem add_old (w : World) (o : Go.Obj) (b : Nat) (h : b < w.heap.size) : (w.alloc o).heap[b]? = w.heap[b]? := heap_alloc_old w o b h
theorem add_new (w : World) (o : Go.Obj) : (w.alloc o).heap[w.heap.size]? = some o := heap_alloc_new w o
theorem size_add (w : World) (o : Go.Obj) : (w.alloc o).heap.size = w.heap.size + 1 := by simp

theorem block_lt {w : World} {b : Nat} {o : Go.Obj} (h : w.heap[b]? = some o) : b < w.heap.size := (Array.getElem?_eq_some_iff.1 h).1
theorem cell_lt {w : World} {b o : Nat} {v : Value} (h : w.cell? ⟨b, o, none⟩ = some v) : b < w.heap.size := by
  unfold World.cell? at h
  split at h
  · rename_i c _ _ hc; exact block_lt hc
  · cases h
theorem cell_of_block {w w' : World} {b o : Nat} (h : w'.heap[b]? = w.heap[b]?) : w'.cell? ⟨b, o, none⟩ = w.cell? ⟨b, o, none⟩ := by simp [World.cell?, h]

/-- The iterator's map lies below the heap's size. -/
theorem iter_lt {G : Ghost} {w : World} {i b m : Nat} {st} (h : ObjAt G w i b (.iter m st)) {bm : Nat} (e : G.loc m = some bm) : bm < w.heap.size := by
  obtain ⟨bm', es, cl, seen, h0, h1, h2, _⟩ := h
  rw [h0] at e; cases e
  exact block_lt h2

theorem Sim.alloc {G : Ghost} {H : Heap} {nx : Nat} {w : World} (h : Sim G H nx w) {id n : Nat} (hid : G.loc id = none) (hlt : id < nx) (o : Go.Obj) (ob : Obj) (hit : ∀ m l, ob = .iter m l → H m ≠ .dead)
    (hob : ObjAt (G.put id w.heap.size n) (w.alloc o) id w.heap.size ob) :
    Sim (G.put id w.heap.size n) (H.set id ob) nx (w.alloc o) ∧ Ext G H w (G.put id w.heap.size n) (H.set id ob) (w.alloc o) := by
  have hle : G.le (G.put id w.heap.size n) := Ghost.le_put hid
  have hdead : H id = .dead := by
    cases hd : H id with
    | dead => rfl
    | _ => obtain ⟨b, e, _⟩ := h.obj id (by simp [hd]); simp [hid] at e
  have himm : ∀ b o v, G.imm b o = some v → b < w.heap.size := fun b o v e => cell_lt (h.imm b o v e).1
  refine ⟨⟨?_, ?_, ?_, ?_, ?_⟩, ⟨hle, by simp, ?_, ?_, ?_, fun _ _ _ h => .inl h, ?_, rfl, rfl, rfl, fun _ => Nat.le_refl _⟩⟩
  · intro b o' v e
    rw [cell_of_block (add_old w o b (himm _ _ _ e))]
    exact h.imm b o' v e
  · intro i b e
    by_cases hi : i = id
    · subst hi
      simp [Ghost.put] at e
      subst e
      exact ⟨hlt, by simp⟩
    · simp [Ghost.put, hi] at e
      have := h.lt i b e
      exact ⟨this.1, by rw [size_add]; omega⟩
  · intro i hi
    by_cases hii : i = id
    · subst hii
      refine ⟨w.heap.size, by simp [Ghost.put], ?_, by simpa using hob⟩
      intro o'
      cases hc : G.imm w.heap.size o' with
      | none => exact hc
      | some v => have := himm _ _ _ hc; omega
    · rw [Heap.set_ne _ _ hii] at hi ⊢
      obtain ⟨b, e, e2, e3⟩ := h.obj i hi
      refine ⟨b, by simp [Ghost.put, hii, e], e2, ?_⟩
      refine e3.mono hle (by simp [Ghost.put, hii]) (add_old w o b (h.lt i b e).2) ?_
      intro m left bm hh hm
      exact add_old w o bm (iter_lt (hh ▸ e3) hm)
  · intro i j b hi hj ei ej
    by_cases hii : i = id
    · by_cases hjj : j = id
      · rw [hii, hjj]
      · subst hii
        simp [Ghost.put] at ei
        simp [Ghost.put, hjj] at ej
        have := (h.lt j b ej).2
        omega
    · by_cases hjj : j = id
      · subst hjj
        simp [Ghost.put] at ej
        simp [Ghost.put, hii] at ei
        have := (h.lt i b ei).2
        omega
      · rw [Heap.set_ne _ _ hii] at hi
        rw [Heap.set_ne _ _ hjj] at hj
        simp [Ghost.put, hii] at ei
        simp [Ghost.put, hjj] at ej
        exact h.inj i j b hi hj ei ej
  · intro i m l j b hi hj em0 ej
    have hm : m ≠ id ∧ G.loc m = some b := by
      have hmi : m ≠ id := by
        rintro rfl
        by_cases hii : i = m
        · subst hii
          rw [Heap.set_same] at hi
          exact hit i l hi hdead
        · rw [Heap.set_ne _ _ hii] at hi
          obtain ⟨b', -, -, e3⟩ := h.obj i (by rw [hi]; simp)
          rw [hi] at e3
          obtain ⟨bm, -, -, -, h0, -⟩ := e3
          rw [hid] at h0; cases h0
      refine ⟨hmi, ?_⟩
      simpa [Ghost.put, hmi] using em0
    obtain ⟨hmi, em⟩ := hm
    have hblt := (h.lt m b em).2
    by_cases hjj : j = id
    · subst hjj
      simp [Ghost.put] at ej
      omega
    · rw [Heap.set_ne _ _ hjj] at hj
      simp [Ghost.put, hjj] at ej
      by_cases hii : i = id
      · subst hii
        rw [Heap.set_same] at hi
        exact h.inj j m b hj (hit m l hi) ej em
      · rw [Heap.set_ne _ _ hii] at hi
        exact h.itr i m l j b hi hj em ej
  · intro i b hi e
    by_cases hii : i = id
    · subst hii
      simp [Ghost.put] at e
      exact .inr (by omega)
    · simp [Ghost.put, hii] at e
      rw [Heap.set_ne _ _ hii] at hi
      exact .inl ⟨i, hi, e⟩
  · intro b hb _
    exact add_old w o b hb
  · intro i b e hd
    have hii : i ≠ id := fun x => by subst x; rw [hid] at e; cases e
    rw [Heap.set_ne _ _ hii]; exact hd
  · intro i b e
    by_cases hii : i = id
    · subst hii
      simp [Ghost.put] at e
      exact .inr (by omega)
    · simp [Ghost.put, hii] at e
      exact .inl ⟨i, e⟩

/-- One live object's block is written anew (a row of cells). -/
theorem Sim.write {G : Ghost} {H : Heap} {nx : Nat} {w : World} (h : Sim G H nx w) {id b es : Nat} {xs : List V} (hm : H id = .mem es xs) (hl : G.loc id = some b) (arr : Array Value) (ob : Obj) (hit : ∀ m l, ob ≠ .iter m l)
    (hob : ObjAt G (w.setRow b arr) id b ob) : Sim G (H.set id ob) nx (w.setRow b arr) ∧ Ext G H w G (H.set id ob) (w.setRow b arr) := by
  have hlive : H id ≠ .dead := by simp [hm]
  obtain ⟨b', e1, e2, e3⟩ := h.obj id hlive
  rw [hl] at e1; cases e1
  rw [hm] at e3
  obtain ⟨a0, T, hb, -⟩ := e3
  have hoth : ∀ k, k ≠ b → (w.setRow b arr).heap[k]? = w.heap[k]? := fun k hk => setRow_other w b k arr hk
  refine ⟨⟨?_, ?_, ?_, ?_, ?_⟩, ⟨G.le_refl, by simp, ?_, ?_, ?_, fun _ _ _ h => .inl h, fun i _ e => .inl ⟨i, e⟩, rfl, rfl, rfl, fun _ => Nat.le_refl _⟩⟩
  · intro c o v e
    have hne : c ≠ b := fun x => by subst x; rw [e2 o] at e; cases e
    rw [cell_of_block (hoth c hne)]
    exact h.imm c o v e
  · intro i c e
    have := h.lt i c e
    exact ⟨this.1, by simpa using this.2⟩
  · intro i hi
    by_cases hii : i = id
    · subst hii
      exact ⟨b, hl, e2, by simpa using hob⟩
    · rw [Heap.set_ne _ _ hii] at hi ⊢
      obtain ⟨c, f, f2, f3⟩ := h.obj i hi
      have hne : c ≠ b := fun x => hii (h.inj i id b hi hlive (x ▸ f) hl)
      refine ⟨c, f, f2, f3.mono G.le_refl rfl (hoth c hne) ?_⟩
      intro m left bm hh hmm
      obtain ⟨bm', es', cl, seen, g0, g1, g2, _⟩ := hh ▸ f3
      rw [g0] at hmm; cases hmm
      refine hoth bm ?_
      intro x; subst x; rw [hb] at g2; cases g2
  · intro i j c hi hj ei ej
    by_cases hii : i = id
    · by_cases hjj : j = id
      · rw [hii, hjj]
      · subst hii
        rw [Heap.set_ne _ _ hjj] at hj
        exact h.inj i j c hlive hj ei ej
    · rw [Heap.set_ne _ _ hii] at hi
      by_cases hjj : j = id
      · subst hjj; exact h.inj i j c hi hlive ei ej
      · rw [Heap.set_ne _ _ hjj] at hj; exact h.inj i j c hi hj ei ej
  · intro i m l j c hi hj em ej
    by_cases hii : i = id
    · subst hii; rw [Heap.set_same] at hi; exact (hit m l hi).elim
    · rw [Heap.set_ne _ _ hii] at hi
      by_cases hjj : j = id
      · subst hjj; exact h.itr i m l j c hi hlive em ej
      · rw [Heap.set_ne _ _ hjj] at hj; exact h.itr i m l j c hi hj em ej
  · intro i c hi e
    by_cases hii : i = id
    · subst hii; exact .inl ⟨i, hlive, e⟩
    · rw [Heap.set_ne _ _ hii] at hi; exact .inl ⟨i, hi, e⟩
  · intro c _ hn
    exact hoth c (fun x => hn id hlive (x ▸ hl))
  · intro i c e hd
    have hii : i ≠ id := fun x => by subst x; exact hlive hd
    rw [Heap.set_ne _ _ hii]; exact hd

/-- An object goes on under another number, at its block, which may be written anew. -/
theorem Sim.rehome {G : Ghost} {H : Heap} {nx : Nat} {w : World} (h : Sim G H nx w) {id id' b es : Nat} {xs : List V} (hm : H id = .mem es xs) (hl : G.loc id = some b) (hid : G.loc id' = none) (hlt : id' < nx)
    (arr : Array Value) (ob : Obj) (hit : ∀ m l, ob ≠ .iter m l) (hob : ObjAt (G.put id' b (G.sz id)) (w.setRow b arr) id' b ob) :
    Sim (G.put id' b (G.sz id)) ((H.set id .dead).set id' ob) nx (w.setRow b arr) ∧ Ext G H w (G.put id' b (G.sz id)) ((H.set id .dead).set id' ob) (w.setRow b arr) := by
  have hlive : H id ≠ .dead := by simp [hm]
  have hle : G.le (G.put id' b (G.sz id)) := Ghost.le_put hid
  have hne' : id' ≠ id := fun x => by subst x; rw [hid] at hl; cases hl
  obtain ⟨b', e1, e2, e3⟩ := h.obj id hlive
  rw [hl] at e1; cases e1
  rw [hm] at e3
  obtain ⟨a0, T, hb, -⟩ := e3
  have hoth : ∀ k, k ≠ b → (w.setRow b arr).heap[k]? = w.heap[k]? := fun k hk => setRow_other w b k arr hk
  have hblt := block_lt hb
  have old : ∀ i, i ≠ id' → ((H.set id .dead).set id' ob) i ≠ .dead → i ≠ id ∧ H i ≠ .dead ∧ ((H.set id .dead).set id' ob) i = H i := by
    intro i hi hd
    rw [Heap.set_ne _ _ hi] at hd ⊢
    by_cases hii : i = id
    · subst hii; simp at hd
    · rw [Heap.set_ne _ _ hii] at hd ⊢; exact ⟨hii, hd, rfl⟩
  refine ⟨⟨?_, ?_, ?_, ?_, ?_⟩, ⟨hle, by simp, ?_, ?_, ?_, fun _ _ _ h => .inl h, ?_, rfl, rfl, rfl, fun _ => Nat.le_refl _⟩⟩
  · intro c o v e
    have hne : c ≠ b := fun x => by subst x; have := e2 o; simp [Ghost.put, this] at e
    rw [cell_of_block (hoth c hne)]
    exact h.imm c o v e
  · intro i c e
    by_cases hii : i = id'
    · subst hii
      simp [Ghost.put] at e
      subst e
      exact ⟨hlt, by simpa using hblt⟩
    · simp [Ghost.put, hii] at e
      have := h.lt i c e
      exact ⟨this.1, by simpa using this.2⟩
  · intro i hi
    by_cases hii : i = id'
    · subst hii
      exact ⟨b, by simp [Ghost.put], e2, by simpa using hob⟩
    · obtain ⟨hi1, hi2, hi3⟩ := old i hii hi
      rw [hi3]
      obtain ⟨c, f, f2, f3⟩ := h.obj i hi2
      have hne : c ≠ b := fun x => hi1 (h.inj i id b hi2 hlive (x ▸ f) hl)
      refine ⟨c, by simp [Ghost.put, hii, f], f2, f3.mono hle (by simp [Ghost.put, hii]) (hoth c hne) ?_⟩
      intro m left bm hh hmm
      obtain ⟨bm', es', cl, seen, g0, g1, g2, _⟩ := hh ▸ f3
      rw [g0] at hmm; cases hmm
      refine hoth bm ?_
      intro x; subst x; rw [hb] at g2; cases g2
  · intro i j c hi hj ei ej
    by_cases hii : i = id'
    · by_cases hjj : j = id'
      · rw [hii, hjj]
      · obtain ⟨hj1, hj2, hj3⟩ := old j hjj hj
        subst hii
        simp [Ghost.put] at ei
        simp [Ghost.put, hjj] at ej
        subst ei
        exact (hj1 (h.inj j id b hj2 hlive ej hl)).elim
    · obtain ⟨hi1, hi2, hi3⟩ := old i hii hi
      simp [Ghost.put, hii] at ei
      by_cases hjj : j = id'
      · subst hjj
        simp [Ghost.put] at ej
        subst ej
        exact (hi1 (h.inj i id b hi2 hlive ei hl)).elim
      · obtain ⟨hj1, hj2, hj3⟩ := old j hjj hj
        simp [Ghost.put, hjj] at ej
        exact h.inj i j c hi2 hj2 ei ej
  · intro i m l j c hi hj em ej
    have hii : i ≠ id' := by
      rintro rfl; rw [Heap.set_same] at hi; exact hit m l hi
    obtain ⟨hi1, hi2, hi3⟩ := old i hii (by rw [hi]; simp)
    rw [hi3] at hi
    obtain ⟨b', -, -, f3⟩ := h.obj i hi2
    rw [hi] at f3
    obtain ⟨bm, es', cl, seen, g0, g1, g2, _⟩ := f3
    have hmi : m ≠ id' := by rintro rfl; rw [hid] at g0; cases g0
    simp [Ghost.put, hmi] at em
    rw [em] at g0; cases g0
    by_cases hjj : j = id'
    · subst hjj
      simp [Ghost.put] at ej
      subst ej
      rw [hb] at g2; cases g2
    · obtain ⟨hj1, hj2, hj3⟩ := old j hjj hj
      simp [Ghost.put, hjj] at ej
      exact h.itr i m l j c hi hj2 em ej
  · intro i c hi e
    by_cases hii : i = id'
    · subst hii
      simp [Ghost.put] at e
      subst e
      exact .inl ⟨id, hlive, hl⟩
    · simp [Ghost.put, hii] at e
      exact .inl ⟨i, (old i hii hi).2.1, e⟩
  · intro c _ hn
    exact hoth c (fun x => hn id hlive (x ▸ hl))
  · intro i c e hd
    have hii : i ≠ id' := fun x => by subst x; rw [hid] at e; cases e
    rw [Heap.set_ne _ _ hii]
    by_cases h2 : i = id
    · subst h2; simp
    · rw [Heap.set_ne _ _ h2]; exact hd
  · intro i c e
    by_cases hii : i = id'
    · subst hii
      simp [Ghost.put] at e
      subst e
      exact .inl ⟨id, hl⟩
    · simp [Ghost.put, hii] at e
      exact .inl ⟨i, e⟩

def Ghost.hold (G : Ghost) (b : Nat) (arr : Array Value) : Ghost := { G with imm := fun c o => if c = b then arr[o]? else G.imm c o }
theorem Ghost.le_hold {G : Ghost} {b : Nat} {arr : Array Value} (h : ∀ o, G.imm b o = none) : G.le (G.hold b arr) where
  loc _ _ e := e
  sz _ _ _ := rfl
  imm c o v e := by
    have hne : c ≠ b := fun x => by subst x; rw [h o] at e; cases e
    simp [Ghost.hold, hne, e]
  mono := rfl

/-- An owned row that will never be written any more. -/
theorem Sim.freeze {G : Ghost} {H : Heap} {nx : Nat} {w : World} (h : Sim G H nx w) {id b es : Nat} {xs : List V} (hm : H id = .mem es xs) (hl : G.loc id = some b) :
    ∃ G', Ext G H w G' (H.set id .dead) w ∧ Sim G' (H.set id .dead) nx w ∧ G'.loc = G.loc ∧ (∀ (i : Nat) x, xs[i]? = some x → x.cells.length = es) ∧
      ∀ (i j : Nat) x v, xs[i]? = some x → x.cells[j]? = some v → ∃ y, G'.imm b (i * es + j) = some y ∧ Rep G' v y := by
  have hlive : H id ≠ .dead := by simp [hm]
  obtain ⟨b', e1, e2, e3⟩ := h.obj id hlive
  rw [hl] at e1; cases e1
  rw [hm] at e3
  obtain ⟨arr, T, hb, -, h2, h3, h3', h4, h5⟩ := e3
  have hblt := block_lt hb
  have hle : G.le (G.hold b arr) := Ghost.le_hold e2
  refine ⟨G.hold b arr, ⟨hle, Nat.le_refl _, ?_, fun _ _ _ => rfl, ?_, ?_, fun i _ e => .inl ⟨i, e⟩, rfl, rfl, rfl, fun _ => Nat.le_refl _⟩, ⟨?_, h.lt, ?_, ?_, ?_⟩, rfl, h4, ?_⟩
  · intro i c hi e
    by_cases hii : i = id
    · subst hii; simp at hi
    · rw [Heap.set_ne _ _ hii] at hi; exact .inl ⟨i, hi, e⟩
  · intro i c e hd
    by_cases hii : i = id
    · subst hii; simp
    · rw [Heap.set_ne _ _ hii]; exact hd
  · intro c o v e
    by_cases hc : c = b
    · subst hc; exact .inr (.inl ⟨id, hlive, hl⟩)
    · simp [Ghost.hold, hc] at e; exact .inl e
  · intro c o v e
    by_cases hc : c = b
    · subst hc
      simp [Ghost.hold] at e
      refine ⟨?_, h3' o v e⟩
      simp [World.cell?, hb, e]
    · simp [Ghost.hold, hc] at e
      exact h.imm c o v e
  · intro i hi
    by_cases hii : i = id
    · subst hii; simp at hi
    · rw [Heap.set_ne _ _ hii] at hi ⊢
      obtain ⟨c, f, f2, f3⟩ := h.obj i hi
      have hne : c ≠ b := fun x => hii (h.inj i id b hi hlive (x ▸ f) hl)
      exact ⟨c, f, fun o => by simp [Ghost.hold, hne, f2 o], f3.mono hle rfl rfl (fun _ _ _ _ _ => rfl)⟩
  · intro i j c hi hj ei ej
    have hii : i ≠ id := fun x => by subst x; simp at hi
    have hjj : j ≠ id := fun x => by subst x; simp at hj
    rw [Heap.set_ne _ _ hii] at hi
    rw [Heap.set_ne _ _ hjj] at hj
    exact h.inj i j c hi hj ei ej
  · intro i m l j c hi hj em ej
    have hii : i ≠ id := fun x => by subst x; simp at hi
    have hjj : j ≠ id := fun x => by subst x; simp at hj
    rw [Heap.set_ne _ _ hii] at hi
    rw [Heap.set_ne _ _ hjj] at hj
    exact h.itr i m l j c hi hj em ej
  · intro i j x v hx hv
    have hi : i < xs.length := (List.getElem?_eq_some_iff.1 hx).1
    have hj : j < es := by rw [← h4 i x hx]; exact (List.getElem?_eq_some_iff.1 hv).1
    have hlt : i * es + j < arr.size := by
      have : (i + 1) * es ≤ xs.length * es := Nat.mul_le_mul_right _ hi
      rw [Nat.add_mul, Nat.one_mul] at this
      omega
    exact ⟨arr[i * es + j], by simp [Ghost.hold, hlt], (h5 i j x v _ hx hv (by simp [hlt])).mono hle⟩

/-- A block laid anew. -/
def setB (w : World) (b : Nat) (o : Go.Obj) : World := { w with heap := w.heap.setIfInBounds b o }
theorem setB_same {w : World} {b : Nat} {o o' : Go.Obj} (h : w.heap[b]? = some o') : (setB w b o).heap[b]? = some o := by
  have := (Array.getElem?_eq_some_iff.1 h).1
  simp [setB, this]
theorem setB_ne (w : World) {b c : Nat} (o : Go.Obj) (h : c ≠ b) : (setB w b o).heap[c]? = w.heap[c]? := by
  simp [setB, Array.getElem?_setIfInBounds, Ne.symm h]
theorem size_setB (w : World) (b : Nat) (o : Go.Obj) : (setB w b o).heap.size = w.heap.size := by simp [setB]
/-- A live object's block is laid anew. -/
theorem Sim.lay {G : Ghost} {H : Heap} {nx : Nat} {w : World} (h : Sim G H nx w) {id b : Nat} {oo : Go.Obj} (hlive : H id ≠ .dead) (hl : G.loc id = some b) (hb : w.heap[b]? = some oo) (o : Go.Obj) (ob : Obj)
    (hit : ∀ m l, ob = .iter m l → ∃ l', H id = .iter m l') (hno : ∀ i m l, i ≠ id → H i = .iter m l → G.loc m ≠ some b)
    (hob : ObjAt G (setB w b o) id b ob) : Sim G (H.set id ob) nx (setB w b o) ∧ Ext G H w G (H.set id ob) (setB w b o) := by
  obtain ⟨b', e1, e2, e3⟩ := h.obj id hlive
  rw [hl] at e1; cases e1
  have hoth : ∀ k, k ≠ b → (setB w b o).heap[k]? = w.heap[k]? := fun k hk => setB_ne w o hk
  refine ⟨⟨?_, ?_, ?_, ?_, ?_⟩, ⟨G.le_refl, by rw [size_setB]; exact Nat.le_refl _, ?_, ?_, ?_, fun _ _ _ h => .inl h, fun i _ e => .inl ⟨i, e⟩, rfl, rfl, rfl, fun _ => Nat.le_refl _⟩⟩
  · intro c o v e
    have hne : c ≠ b := fun x => by subst x; rw [e2 o] at e; cases e
    rw [cell_of_block (hoth c hne)]
    exact h.imm c o v e
  · intro i c e
    have := h.lt i c e
    exact ⟨this.1, by rw [size_setB]; exact this.2⟩
  · intro i hi
    by_cases hii : i = id
    · subst hii
      exact ⟨b, hl, e2, by simpa using hob⟩
    · rw [Heap.set_ne _ _ hii] at hi ⊢
      obtain ⟨c, f, f2, f3⟩ := h.obj i hi
      have hne : c ≠ b := fun x => hii (h.inj i id b hi hlive (x ▸ f) hl)
      refine ⟨c, f, f2, f3.mono G.le_refl rfl (hoth c hne) ?_⟩
      intro m st bm hh hmm
      refine hoth bm fun x => ?_
      subst x
      exact hno i m st hii hh hmm
  · intro i j c hi hj ei ej
    by_cases hii : i = id
    · by_cases hjj : j = id
      · rw [hii, hjj]
      · subst hii
        rw [Heap.set_ne _ _ hjj] at hj
        exact h.inj i j c hlive hj ei ej
    · rw [Heap.set_ne _ _ hii] at hi
      by_cases hjj : j = id
      · subst hjj; exact h.inj i j c hi hlive ei ej
      · rw [Heap.set_ne _ _ hjj] at hj; exact h.inj i j c hi hj ei ej
  · intro i m l j c hi hj em ej
    have hi' : ∃ l', H i = .iter m l' := by
      by_cases hii : i = id
      · subst hii; rw [Heap.set_same] at hi; exact hit m l hi
      · rw [Heap.set_ne _ _ hii] at hi; exact ⟨l, hi⟩
    obtain ⟨l', hi'⟩ := hi'
    by_cases hjj : j = id
    · subst hjj; exact h.itr i m l' j c hi' hlive em ej
    · rw [Heap.set_ne _ _ hjj] at hj; exact h.itr i m l' j c hi' hj em ej
  · intro i c hi e
    by_cases hii : i = id
    · subst hii; exact .inl ⟨i, hlive, e⟩
    · rw [Heap.set_ne _ _ hii] at hi; exact .inl ⟨i, hi, e⟩
  · intro c _ hn
    exact hoth c (fun x => hn id hlive (x ▸ hl))
  · intro i c e hd
    have hii : i ≠ id := fun x => by subst x; exact hlive hd
    rw [Heap.set_ne _ _ hii]; exact hd
end Go.IL

/- The ideal meaning of operations. -/
namespace Go.IL
open Go

section
variable (P : Program)
def szI (t : TypeId) : Nat := ((P.info? t).map (·.size)).getD 0
def byI (t : TypeId) : Nat := ((P.info? t).map (·.bytes)).getD 0
def descAgg : TypeDesc → Bool
  | .struct _ | .array _ _ => true
  | _ => false
/-- none: no such type; some true: a struct or an array. -/
def kindI (t : TypeId) : Option Bool := (P.underlying t).map descAgg
def zeroI (t : TypeId) : Option Value := (P.info? t).bind (·.zero)
def fldI (s : TypeId) (f : Nat) : Option (Nat × TypeId) :=
  match P.underlying s with
  | some (.struct fs) => (fs[f]?).map fun f => (f.offset, f.type)
  | _ => none
def elI (t : TypeId) : Option TypeId :=
  match P.underlying t with
  | some (.slice e) => some e
  | _ => none
def arrI (t : TypeId) : Option (Nat × TypeId) :=
  match P.underlying t with
  | some (.array n e) => some (n, e)
  | _ => none
def mapI (t : TypeId) : Option (TypeId × TypeId) :=
  match P.underlying t with
  | some (.map k e) => some (k, e)
  | _ => none
/-- What a field is: 0 an integer, 1 a string, 2 a bool. -/
def flatKind : Option TypeDesc → Option Nat
  | some (.int _) => some 0
  | some .string => some 1
  | some .bool => some 2
  | _ => none
def flatFields : Nat → List Field → Option (List Nat)
  | _, [] => some []
  | i, f :: fs => if f.offset = i ∧ f.name ≠ "_" then (flatKind (P.underlying f.type)).bind fun k => (flatFields (i + 1) fs).map fun l => k :: l else none
/-- A struct all of whose fields are integers, strings and bools, one cell each, in order. -/
def flatI (t : TypeId) : Option (List Nat) :=
  if P.stoodInHeld t || P.eqGuardType P.depth t then none else
  match P.underlying t with
  | some (.struct fs) => flatFields P 0 fs.toList
  | _ => none
end

def ofScalar : Value → V
  | .string s => .str s.data.toList
  | .slice none 0 0 => .nil
  | v => .val v
def ofVal : Value → V
  | .agg cs => .agg (cs.toList.map ofScalar)
  | v => ofScalar v

theorem rep_ofScalar (G : Ghost) (v : Value) : Rep G (ofScalar v) v := by
  unfold ofScalar
  split
  · rename_i s
    have : Rep G (.str s.data.toList) (.string ⟨s.data.toList.toArray⟩) := .str
    simpa using this
  · exact .nil
  · exact .val
theorem rep_ofVal (G : Ghost) (v : Value) (h : v.cells.all (·.oneCell') = true) : Rep G (ofVal v) v := by
  unfold ofVal
  split
  · rename_i cs
    refine .agg cs (by simp) (fun j y e => ?_) (fun j u y e e' => ?_)
    · have := Array.all_eq_true_iff_forall_mem.1 h y (by simpa [Value.cells] using Array.mem_of_getElem? e)
      exact this
    · simp at e
      obtain ⟨z, hz, rfl⟩ := e
      have : z = y := by rw [← Array.getElem?_toList] at e'; simpa [hz] using e'
      subst this
      exact rep_ofScalar G z
  · exact rep_ofScalar G v

/-- Of cells, the part that a variable of a type takes, from a place on. -/
def partI (P : Program) (t : TypeId) (cs : List V) (j : Nat) : Option V :=
  match kindI P t with
  | some true => if j + szI P t ≤ cs.length then some (.agg ((cs.drop j).take (szI P t))) else none
  | some false => cs[j]?
  | none => none
def loadI (P : Program) (H : Heap) (t : TypeId) : V → Option V
  | .ptr id es k j =>
    match H id with
    | .mem es' xs => if es' = es then (xs[k]?).bind fun x => partI P t x.cells j else none
    | _ => none
  | .rp cs => partI P t cs 0
  | _ => none
/-- Is it surely a value that has the cells that it shows? -/
def V.shown : V → Bool
  | .agg _ => true
  | v => v.one
def V.splice (x : V) (j : Nat) (v : V) : V :=
  match x with
  | .agg cs => .agg (cs.take j ++ v.cells ++ cs.drop (j + v.cells.length))
  | _ => v
def storeI (P : Program) (H : Heap) (t : TypeId) (a v : V) : Option Heap :=
  match a with
  | .ptr id es k j =>
    match H id with
    | .mem es' xs => if es' = es then (xs[k]?).bind fun x =>
        if v.shown && v.cells.length == szI P t && decide (0 < szI P t) && decide (j + v.cells.length ≤ x.cells.length) then some (H.set id (.mem es (xs.set k (x.splice j v)))) else none
      else none
    | _ => none
  | _ => none
def fieldAddrI (P : Program) (s : TypeId) (f : Nat) (x : V) : Option V :=
  match fldI P s f with
  | none => none
  | some (off, t) =>
    if szI P t = 0 then none else
    match x with
    | .ptr id es k j => some (.ptr id es k (j + off))
    | .rp cs => some (.rp (cs.drop off))
    | _ => none
def fieldI (P : Program) (s : TypeId) (f : Nat) (x : V) : Option V :=
  match fldI P s f, x with
  | some (off, t), .agg cs => partI P t cs off
  | _, _ => none
def natI : V → Option Nat
  | .val (.int _ n) => if 0 ≤ n then some n.toNat else none
  | _ => none
def indexAddrI (P : Program) (t : TypeId) (x i : V) : Option V :=
  match elI P t with
  | some e =>
    (match x with
    | .sl xs => (natI i).bind fun n => (xs[n]?).bind fun x => if x.cells.length = szI P e ∧ (P.info? e).isSome then some (.rp x.cells) else none
    | .ar id es off len | .cl id es off len => (natI i).bind fun n => if n < len ∧ es = szI P e ∧ (P.info? e).isSome then some (.ptr id es (off + n) 0) else none
    | _ => none)
  | none =>
    match arrI P t, x with
    | some (n, e), .ptr id es k j => (natI i).bind fun m => if m < n ∧ (P.info? e).isSome then some (.ptr id es k (j + m * szI P e)) else none
    | _, _ => none
def indexI (P : Program) (t : TypeId) (x i : V) : Option V :=
  match P.underlying t, x with
  | some .string, .str l => (natI i).bind fun n => (l[n]?).map fun b => .val (.int .u8 b.toNat)
  | some (.array len e), .agg cs => (natI i).bind fun n => if n < len ∧ (P.info? e).isSome then partI P e cs (n * szI P e) else none
  | _, _ => none
def intBinI (op : BinOp) (k : IntKind) (a : Int) (k' : IntKind) (b : Int) : Option V :=
  match op with
  | .shl => if 0 ≤ b then some (.val (.int k (k.wrap (a * 2 ^ min b.toNat k.bits)))) else none
  | .shr => if 0 ≤ b then some (.val (.int k (a.fdiv (2 ^ min b.toNat k.bits)))) else none
  | .add => if k = k' then some (.val (.int k (k.wrap (a + b)))) else none
  | .sub => if k = k' then some (.val (.int k (k.wrap (a - b)))) else none
  | .mul => if k = k' then some (.val (.int k (k.wrap (a * b)))) else none
  | .quo => if k = k' ∧ b ≠ 0 then some (.val (.int k (k.wrap (a.tdiv b)))) else none
  | .rem => if k = k' ∧ b ≠ 0 then some (.val (.int k (a.tmod b))) else none
  | .and => if k = k' then some (.val (.int k (k.wrap (BitVec.ofInt k.bits a &&& BitVec.ofInt k.bits b).toNat))) else none
  | .or => if k = k' then some (.val (.int k (k.wrap (BitVec.ofInt k.bits a ||| BitVec.ofInt k.bits b).toNat))) else none
  | .xor => if k = k' then some (.val (.int k (k.wrap (BitVec.ofInt k.bits a ^^^ BitVec.ofInt k.bits b).toNat))) else none
  | .andNot => if k = k' then some (.val (.int k (k.wrap (BitVec.ofInt k.bits a &&& ~~~BitVec.ofInt k.bits b).toNat))) else none
  | .eql => if k = k' then some (.bool (a == b)) else none
  | .neq => if k = k' then some (.bool (a != b)) else none
  | .lss => if k = k' then some (.bool (decide (a < b))) else none
  | .leq => if k = k' then some (.bool (decide (a ≤ b))) else none
  | .gtr => if k = k' then some (.bool (decide (b < a))) else none
  | .geq => if k = k' then some (.bool (decide (b ≤ a))) else none
def strBinI (op : BinOp) (a b : List UInt8) : Option V :=
  match op with
  | .add => if a.length + b.length ≤ 4611686018427387904 then some (.str (a ++ b)) else none
  | .eql => some (.bool (a == b))
  | .neq => some (.bool !(a == b))
  | .lss => some (.bool (Op.bytesLess a b))
  | .leq => some (.bool (Op.bytesLess a b || a == b))
  | .gtr => some (.bool !(Op.bytesLess a b || a == b))
  | .geq => some (.bool !(Op.bytesLess a b))
  | _ => none
/-- Are cells of integers, strings and bools the same? -/
def eqCell : Nat → V → V → Option Bool
  | 0, .val (.int k a), .val (.int k' b) => if k = k' then some (a == b) else none
  | 1, .str a, .str b => some (a == b)
  | 2, .val (.bool a), .val (.bool b) => some (a == b)
  | _, _, _ => none
def eqCells : List Nat → List V → List V → Option Bool
  | [], [], [] => some true
  | k :: ks, x :: xs, y :: ys => (eqCell k x y).bind fun s => (eqCells ks xs ys).map fun r => s && r
  | _, _, _ => none
def boolOf (op : BinOp) (r : Bool) : Option V :=
  match op with
  | .eql => some (.bool r)
  | .neq => some (.bool !r)
  | _ => none
def isPtr : Option TypeDesc → Bool
  | some (.pointer _) => true
  | _ => false
def isBool : Option TypeDesc → Bool
  | some .bool => true
  | _ => false
def binI (P : Program) (op : BinOp) (t : TypeId) (x y : V) : Option V :=
  match x, y with
  | .val (.int k a), .val (.int k' b) => intBinI op k a k' b
  | .str a, .str b => strBinI op a b
  | .val (.bool a), .val (.bool b) => if isBool (P.underlying t) then boolOf op (a == b) else none
  | .val (.pointer none), .val (.pointer none) => if isPtr (P.underlying t) then boolOf op true else none
  | .ptr _ _ _ _, .val (.pointer none) => if isPtr (P.underlying t) then boolOf op false else none
  | .val (.pointer none), .ptr _ _ _ _ => if isPtr (P.underlying t) then boolOf op false else none
  | .agg a, .agg b => (flatI P t).bind fun ks => (eqCells ks a b).bind (boolOf op)
  | _, _ => none
def isIface : Option TypeDesc → Bool
  | some (.interface _) => true
  | _ => false
def isConst : Operand → Bool
  | .const _ => true
  | _ => false
/-- .. told the operands: two nil values of an interface's type, one of them typed. -/
def binX (P : Program) (op : BinOp) (t : TypeId) (x y : Operand) (a b : V) : Option V :=
  match a, b with
  | .val .nilIface, .val .nilIface => if isIface (P.underlying t) && (isConst x || isConst y) then boolOf op true else none
  | _, _ => binI P op t a b
def unI (op : UnOp) (x : V) : Option V :=
  match op, x with
  | .not, .val (.bool b) => some (.bool !b)
  | .neg, .val (.int k n) => some (.val (.int k (k.wrap (0 - n))))
  | _, _ => none
def convI (P : Program) (src dst : TypeId) (x : V) : Option V :=
  match P.underlying src, P.underlying dst, x with
  | some _, some (.int k'), .val (.int _ n) => some (.val (.int k' (k'.wrap n)))
  | some .string, some .string, .str l => some (.str l)
  | _, _, _ => none
def bndI : Option V → Nat → Option Nat
  | none, d => some d
  | some v, _ => natI v
def fits (n : Nat) (xs : List V) : Bool := xs.all fun x => x.cells.length == n
def sliceI (P : Program) (t : TypeId) (x : V) (lo hi mx : Option V) : Option V :=
  match P.underlying t, x with
  | some .string, .str l =>
    if mx.isSome then none else
    (bndI lo 0).bind fun a => (bndI hi l.length).bind fun b => if a ≤ b ∧ b ≤ l.length then some (.str ((l.take b).drop a)) else none
  | some (.slice e), .sl xs =>
    if mx.isSome then none else
    (bndI lo 0).bind fun a => (bndI hi xs.length).bind fun b =>
      if a ≤ b ∧ b ≤ xs.length ∧ fits (szI P e) xs ∧ (P.info? e).isSome then some (.sl ((xs.take b).drop a)) else none
  | some (.slice e), .nil =>
    (bndI lo 0).bind fun a => (bndI hi 0).bind fun b =>
      match mx with
      | none => if a = 0 ∧ b = 0 ∧ (P.info? e).isSome then some .nil else none
      | some m => (natI m).bind fun m => if a = 0 ∧ b = 0 ∧ m = 0 ∧ hi.isSome ∧ (P.info? e).isSome then some .nil else none
  | some (.slice e), .ar id es off len =>
    if es = szI P e ∧ (P.info? e).isSome then
    (bndI lo 0).bind fun a => (bndI hi len).bind fun b =>
      match mx with
      | none => if a ≤ b ∧ b ≤ len then some (.ar id es (off + a) (b - a)) else none
      | some m => (natI m).bind fun m => if a ≤ b ∧ b = m ∧ m ≤ len ∧ hi.isSome then some (.cl id es (off + a) (b - a)) else none
    else none
  | some (.slice e), .cl id es off len =>
    if mx.isSome then none else
    if es = szI P e ∧ (P.info? e).isSome then
    (bndI lo 0).bind fun a => (bndI hi len).bind fun b => if a ≤ b ∧ b = len then some (.cl id es (off + a) (b - a)) else none
    else none
  | _, _ => none
def lenI (P : Program) (t : TypeId) (H : Heap) (x : V) : Option Nat :=
  match P.underlying t, x with
  | some .string, .str l => some l.length
  | some (.array n _), _ => some n
  | some (.slice _), .sl xs => some xs.length
  | some (.slice _), .nil => some 0
  | some (.slice _), .ar _ _ _ len => some len
  | some (.slice _), .cl _ _ _ len => some len
  | some (.map _ _), .mp id => match H id with | .map kvs => some kvs.length | _ => none
  | _, _ => none
/-- What a slice's elements are. -/
def rd (H : Heap) : V → Option (List V)
  | .sl xs => some xs
  | .nil => some []
  | .ar id es off len | .cl id es off len =>
    match H id with
    | .mem es' xs => if es' = es ∧ off + len ≤ xs.length then some ((xs.drop off).take len) else none
    | _ => none
  | _ => none
/-- .. of one that may be appended to. -/
def own (H : Heap) (n : Nat) : V → Option (List V)
  | .nil => some []
  | .ar id es off len =>
    match H id with
    | .mem es' xs => if es' = es ∧ es = n ∧ off = 0 ∧ len = xs.length then some xs else none
    | _ => none
  | _ => none
def kill (H : Heap) : V → Heap
  | .ar id _ _ _ => H.set id .dead
  | _ => H
/-- A value that is laid into a row: slices in it are never written any more. -/
def frz1 (H : Heap) : V → V × Heap
  | .nil => (.sl [], H)
  | .ar id es off len =>
    match H id with
    | .mem es' xs => if es' = es ∧ off + len ≤ xs.length then (.sl ((xs.drop off).take len), H.set id .dead) else (.ar id es off len, H)
    | _ => (.ar id es off len, H)
  | v => (v, H)
def frzs (H : Heap) : List V → List V × Heap
  | [] => ([], H)
  | v :: vs => ((frz1 H v).1 :: (frzs (frz1 H v).2 vs).1, (frzs (frz1 H v).2 vs).2)
def frz (H : Heap) : V → V × Heap
  | .agg cs => (.agg (frzs H cs).1, (frzs H cs).2)
  | v => frz1 H v
def frzAll (H : Heap) : List V → List V × Heap
  | [] => ([], H)
  | v :: vs => ((frz H v).1 :: (frzAll (frz H v).2 vs).1, (frzAll (frz H v).2 vs).2)
def byteV (b : UInt8) : V := .val (.int .u8 b.toNat)
def srcI (H : Heap) : V → Option (List V)
  | .str l => some (l.map byteV)
  | v => rd H v
def evI (fr : Nat → V) : Operand → V
  | .tmp t => fr t
  | .const v => ofScalar v
  | .global g => .val (.pointer (some ⟨g, 0, none⟩))
  | .func f => .fn f []
def buildI (P : Program) (zero : List V) (place : Nat → Option (Nat × TypeId)) : List (Nat × V) → Option (List V)
  | [] => some zero
  | (i, v) :: rest =>
    match place i with
    | none => none
    | some (off, t) =>
      if v.shown && v.cells.length == szI P t && decide (off + v.cells.length ≤ zero.length) then
        buildI P (zero.take off ++ v.cells ++ zero.drop (off + v.cells.length)) place rest
      else none
def placesI (P : Program) (t : TypeId) (i : Nat) : Option (Nat × TypeId) :=
  match P.underlying t with
  | some (.struct _) => fldI P t i
  | some (.array _ e) => some (i * szI P e, e)
  | _ => none
def placesOk (P : Program) (t : TypeId) : Bool :=
  match P.underlying t with
  | some (.array _ e) => (P.info? e).isSome
  | some (.struct fs) => fs.toList.all fun f => (P.info? f.type).isSome
  | _ => false
/-- The parts of a slice's literal: each place once, in order. -/
def inOrder (n : Nat) : Nat → List (Nat × Operand) → Bool
  | k, [] => k == n
  | k, (i, _) :: rest => i == k && inOrder n (k + 1) rest

/-- A type whose zero value has the cells that it should. -/
def zok (P : Program) (e : TypeId) : Bool :=
  match zeroI P e with
  | some z => z.cells.size == szI P e && z.cells.all (·.oneCell') && decide (0 < szI P e)
  | none => false
def appendI (P : Program) (H : Heap) (id : Nat) (t : TypeId) (x y : V) (K : V → Heap → Prop) : Prop :=
  match elI P t with
  | none => False
  | some e =>
    match srcI H y with
    | none => False
    | some ys =>
      match x with
      | .cl id' es off len =>
        (match rd H (.cl id' es off len) with
        | none => False
        | some xs => (!ys.isEmpty && fits (szI P e) ys && es == szI P e && zok P e && decide ((xs.length + ys.length) * (byI P e + 1) ≤ 1099511627776)) = true ∧
            K (.ar id (szI P e) 0 (xs.length + ys.length)) (H.set id (.mem (szI P e) (xs ++ ys))))
      | _ =>
        match own H (szI P e) x with
        | none => False
        | some xs => zok P e = true ∧ if ys.isEmpty then K x H else
            (fits (szI P e) ys && decide ((xs.length + ys.length) * (byI P e + 1) ≤ 1099511627776)) = true ∧
            K (.ar id (szI P e) 0 (xs.length + ys.length)) ((kill H x).set id (.mem (szI P e) (xs ++ ys)))

def isU8 : Option TypeDesc → Bool
  | some (.int .u8) => true
  | _ => false
def isStr : Option TypeDesc → Bool
  | some .string => true
  | _ => false
def u8sOf : List V → Option (List UInt8)
  | [] => some []
  | .val (.int .u8 n) :: vs => if 0 ≤ n ∧ n < 256 then (u8sOf vs).map fun l => UInt8.ofNat n.toNat :: l else none
  | _ => none
/-- Conversions; of bytes into a string, too: it reads the heap. -/
def convX (P : Program) (H : Heap) (s d : TypeId) (x : V) : Option V :=
  match elI P s with
  | none => convI P s d x
  | some e => if isU8 (P.underlying e) && isStr (P.underlying d) then (rd H x).bind fun xs => if xs.isEmpty then none else (u8sOf xs).map .str else none
/-- Which tag a new object bears: of a Builder; of bytes to which a text is appended; of others none. -/
def bldT (P : Program) (t : TypeId) : Bool := ((P.info? t).map fun i => i.str == "strings.Builder").getD false && decide (t < 4095)
def appTagN (P : Program) (t s : TypeId) (x : V) : Nat :=
  match elI P t with
  | some e => if (isStr (P.underlying s) && decide (e < 4095)) = true then (match x with | .nil => e | .ar i _ _ _ => if i % 4096 = e then e else 4095 | _ => 4095) else 4095
  | none => 4095
def tagN (P : Program) (ρ : Operand → V) : Op → Nat
  | .alloc t => if bldT P t = true then t else 4095
  | .call { callee := .builtin .append, args, argTypes } => match argTypes.toList, args.toList with | [t, s], [x, _] => appTagN P t s (ρ x) | _, _ => 4095
  | _ => 4095
def appTagP (P : Program) (t s : TypeId) (x : V) (id : Nat) : Prop :=
  ∀ e, elI P t = some e → isStr (P.underlying s) = true → e < 4095 → match x with | .nil => id % 4096 = e | .ar i _ _ _ => i % 4096 = e → id % 4096 = e | _ => True
def tagP (P : Program) (ρ : Operand → V) : Op → Nat → Prop
  | .alloc t, id => bldT P t = true → id % 4096 = t
  | .call { callee := .builtin .append, args, argTypes }, id => match argTypes.toList, args.toList with | [t, s], [x, _] => appTagP P t s (ρ x) id | _, _ => True
  | _, _ => True
theorem tagP_of {P : Program} {ρ : Operand → V} {o : Op} {id : Nat} (h : id % 4096 = tagN P ρ o) : tagP P ρ o id := by
  unfold tagN at h
  split at h
  · intro hb; rw [if_pos hb] at h; exact h
  · simp only [tagP]
    split at h
    · intro e he hs hlt
      unfold appTagN at h
      rw [he] at h
      simp only [hs, hlt, decide_true, Bool.and_self, if_true] at h
      split at h
      · exact h
      · intro hi; rw [if_pos hi] at h; exact h
      · trivial
    · trivial
  · unfold tagP
    split
    · simp_all
    · simp_all
    · trivial
theorem tagN_lt (P : Program) (ρ : Operand → V) (o : Op) : tagN P ρ o < 4096 := by
  unfold tagN
  split
  · split
    · rename_i h; unfold bldT at h; simp only [Bool.and_eq_true, decide_eq_true_eq] at h; exact Nat.lt_trans h.2 (by decide)
    · omega
  · split
    · unfold appTagN
      split
      · split
        · rename_i h
          simp only [Bool.and_eq_true, decide_eq_true_eq] at h
          have hlt := Nat.lt_trans h.2 (by decide : 4095 < 4096)
          split
          · exact hlt
          · split
            · exact hlt
            · decide
          · decide
        · omega
      · omega
    · omega
  · omega

/-- A type's zero value: its cells, as an ideal value. -/
def zeroF (P : Program) (t : TypeId) : Option (Nat × V) := (zeroI P t).bind fun z => if z.cells.all (·.oneCell') = true then some (z.cells.size, ofVal z) else none
/-- Maps: nobody goes over it; which key; where it is; what is there. -/
def noIter (H : Heap) (m : Nat) : Prop := ∀ i st, H i ≠ .iter m st
def keyI (P : Program) (kt : TypeId) : V → V → Option Bool :=
  match flatKind (P.underlying kt) with
  | some c => eqCell c
  | none => fun _ _ => none
def keyOk (P : Program) (kt : TypeId) : Bool := (flatKind (P.underlying kt)).isSome
def mapK (P : Program) (t : TypeId) : Option (TypeId × TypeId) := (mapI P t).bind fun q => if keyOk P q.1 = true then some q else none
def findI (eq : V → V → Option Bool) (k : V) : List (V × V) → Option (Option Nat)
  | [] => some none
  | p :: l => (eq k p.1).bind fun b => if b = true then some (some 0) else (findI eq k l).map fun r => r.map (· + 1)
def kvsI (H : Heap) : V → Option (List (V × V))
  | .mp id => match H id with | .map kvs => some kvs | _ => none
  | .val (.map none) => some []
  | _ => none
def okV (ok : Bool) (v : V) (there : Bool) : V := if ok = true then .tup [v, .val (.bool there)] else v
def lookI (P : Program) (H : Heap) (t : TypeId) (m k : V) (ok : Bool) : Option V :=
  (mapK P t).bind fun q => (kvsI H m).bind fun kvs => (findI (keyI P q.1) k kvs).bind fun r =>
    match r with
    | some i => (kvs[i]?).map fun p => okV ok p.2 true
    | none => (zeroF P q.2).map fun z => okV ok z.2 false
def setKV (kvs : List (V × V)) (r : Option Nat) (k v : V) : List (V × V) :=
  match r with
  | some i => kvs.set i (k, v)
  | none => kvs ++ [(k, v)]
def scrub (es off len : Nat) (xs : List V) : List V := xs.take off ++ List.replicate len (.agg (List.replicate es .junk)) ++ xs.drop (off + len)
/-- unsafe.SliceData, unsafe.String, of an owned row of bytes. -/
def sdI : V → Option V
  | .nil => some (.val (.pointer none))
  | .ar i es off len => if 0 < len ∧ off = 0 then some (.ptr i es 0 0) else none
  | _ => none
def ptrElI (P : Program) (t : TypeId) : Option TypeId := match P.underlying t with | some (.pointer e) => some e | _ => none
def usI (P : Program) (H : Heap) (pt : TypeId) (a y : V) : Option (List UInt8 × Heap) :=
  match a, y with
  | .val (.pointer none), .val (.int .i64 n) => if n = 0 then some ([], H) else none
  | .ptr i es k j, .val (.int .i64 n) =>
    match H i with
    | .mem es' xs => (ptrElI P pt).bind fun e => if (es = 1 ∧ es' = 1 ∧ k = 0 ∧ j = 0) ∧ 0 < n ∧ n.toNat ≤ xs.length ∧ n.toNat ≤ 4611686018427387904 ∧ i % 4096 = e ∧ e < 4095 ∧ P.cellsOf e = 1 then (u8sOf (xs.take n.toNat)).map fun l => (l, H.set i .dead) else none
    | _ => none
  | _, _ => none
/-- Operations on maps; the end of a row cleared. -/
def opE (P : Program) (H : Heap) (id : Nat) (ρ : Operand → V) (o : Op) (K : V → Heap → Prop) : Prop :=
  match o with
  | .makeMap _ none => noIter H id → K (.mp id) (H.set id (.map []))
  | .lookup t m k ok => ∃ v, lookI P H t (ρ m) (ρ k) ok = some v ∧ K v H
  | .mapUpdate t m k x => ∃ q i kvs r, mapK P t = some q ∧ ρ m = .mp i ∧ H i = .map kvs ∧ findI (keyI P q.1) (ρ k) kvs = some r ∧ noIter H i ∧ K (.val undef) (H.set i (.map (setKV kvs r (ρ k) (ρ x))))
  | .range t m => ∃ i kvs, (mapI P t).isSome = true ∧ ρ m = .mp i ∧ H i = .map kvs ∧ K (.it id) (H.set id (.iter i (kvs, none)))
  | .next it false => ∃ i m st, ρ it = .it i ∧ H i = .iter m st ∧ (st.1 = [] → K (.tup [.val (.bool false)]) (H.set i .dead)) ∧
      ∀ j p, st.1[j]? = some p → K (.tup [.val (.bool true), p.1, p.2]) (H.set i (.iter m (st.1.eraseIdx j, some p)))
  | .entry it => ∃ i m st p, ρ it = .it i ∧ H i = .iter m st ∧ st.2 = some p ∧ K (.tup [p.1, p.2]) H
  | .call { callee := .builtin .clear, args, argTypes } => ∃ t x e i es off len xs, argTypes.toList = [t] ∧ args.toList = [x] ∧ elI P t = some e ∧ ρ x = .ar i es off len ∧ H i = .mem es xs ∧
      (zok P e && es == szI P e && decide (off + len ≤ xs.length)) = true ∧ K (.tup []) (H.set i (.mem es (scrub es off len xs)))
  | .call { callee := .builtin .unsafeSliceData, args, .. } => ∃ x v, args.toList = [x] ∧ sdI (ρ x) = some v ∧ K v H
  | .call { callee := .builtin .unsafeString, args, argTypes } => ∃ x y pt it p, args.toList = [x, y] ∧ argTypes.toList = [pt, it] ∧ usI P H pt (ρ x) (ρ y) = some p ∧ K (.str p.1) p.2
  | _ => False
/-- The ideal meaning of an operation that is no call of a Go function. -/
def opI (P : Program) (H : Heap) (id : Nat) (ρ : Operand → V) (o : Op) (K : V → Heap → Prop) : Prop :=
  match o with
  | .move x | .assign x => K (ρ x) H
  | .pick c a b => ∃ t, ρ c = .val (.bool t) ∧ K (if t then ρ a else ρ b) H
  | .alloc t => ∃ z, zeroI P t = some z ∧ z.cells.all (·.oneCell') = true ∧ K (.ptr id z.cells.size 0 0) (H.set id (.mem z.cells.size [ofVal z]))
  | .box _ x => (ρ x).shown = true ∧ K (.ptr id (ρ x).cells.length 0 0) (H.set id (.mem (ρ x).cells.length [ρ x]))
  | .build t parts => ∃ z cs, zeroI P t = some z ∧ z.cells.all (·.oneCell') = true ∧ placesOk P t = true ∧ buildI P (z.cells.toList.map ofScalar) (placesI P t) (parts.toList.map fun p => (p.1, ρ p.2)) = some cs ∧ K (.agg cs) H
  | .buildSlice t n parts => ∃ e, elI P t = some e ∧ (inOrder n 0 parts.toList && zok P e && decide (n * szI P e ≤ 16777216) &&
      ((frzAll H (parts.toList.map fun p => ρ p.2)).1.all fun v => v.shown && v.cells.length == szI P e)) = true ∧
      K (.ar id (szI P e) 0 n) ((frzAll H (parts.toList.map fun p => ρ p.2)).2.set id (.mem (szI P e) (frzAll H (parts.toList.map fun p => ρ p.2)).1))
  | .load t a => ∃ v, loadI P H t (ρ a) = some v ∧ K v H
  | .store t a x => ∃ H', storeI P H t (ρ a) (ρ x) = some H' ∧ K (.val undef) H'
  | .nilCheck x => (∃ i es k j, ρ x = .ptr i es k j) ∧ K (ρ x) H
  | .binOp op t x y _ => ∃ v, binX P op t x y (ρ x) (ρ y) = some v ∧ K v H
  | .unOp op _ x => ∃ v, unI op (ρ x) = some v ∧ K v H
  | .convert s d x => ∃ v, convX P H s d (ρ x) = some v ∧ K v H
  | .fieldAddr s x f => ∃ v, fieldAddrI P s f (ρ x) = some v ∧ K v H
  | .field s x f => ∃ v, fieldI P s f (ρ x) = some v ∧ K v H
  | .indexAddr t x i => ∃ v, indexAddrI P t (ρ x) (ρ i) = some v ∧ K v H
  | .index t x i => ∃ v, indexI P t (ρ x) (ρ i) = some v ∧ K v H
  | .slice t x lo hi mx => ∃ v, sliceI P t (ρ x) (lo.map ρ) (hi.map ρ) (mx.map ρ) = some v ∧ K v H
  | .extract x i => ∃ vs v, ρ x = .tup vs ∧ vs[i]? = some v ∧ K v H
  | .makeFunc (.func f) first cap => first.isEmpty = true ∧ K (.fn f (cap.toList.map ρ)) H
  | .call { callee := .builtin .len, args, argTypes } => ∃ t x n, argTypes[0]? = some t ∧ args[0]? = some x ∧ lenI P t H (ρ x) = some n ∧ K (.int n) H
  | .call { callee := .builtin .append, args, argTypes } => ∃ t s x y, argTypes.toList = [t, s] ∧ args.toList = [x, y] ∧
      (match P.underlying s with | some (.slice _) | some .string => true | _ => false) = true ∧ appendI P H id t (ρ x) (ρ y) K
  | .call { callee := .builtin .min, args, .. } => ∃ x y k a b, args.toList = [x, y] ∧ ρ x = .val (.int k a) ∧ ρ y = .val (.int k b) ∧ K (.val (.int k (min a b))) H
  | o => opE P H id ρ o K
end Go.IL

/- The ideal meaning of operations is sound, part 1: those that write nothing. -/
namespace Go.IL
open Go

def Done (P : Program) (s : Sem Value) (G : Ghost) (H : Heap) (nx : Nat) (w : World) (id : Nat) (K : V → Heap → Prop) : Prop :=
  ∃ y w' G' v H', s.run P w = .ok y w' ∧ Ext G H w G' H' w' ∧ Sim G' H' nx w' ∧ Rep G' v y ∧ K v H' ∧ ∀ i, i ≠ id → G.loc i = none → G'.loc i = none

section
variable {P : Program} {G : Ghost} {H : Heap} {nx : Nat} {w : World} {id : Nat} {K : V → Heap → Prop}

theorem Done.pure {s : Sem Value} (hs : Sim G H nx w) {y : Value} {v : V} (h : s.run P w = .ok y w) (hr : Rep G v y) (hk : K v H) : Done P s G H nx w id K :=
  ⟨y, w, G, v, H, h, Ext.refl G H w, hs, hr, hk, fun _ _ e => e⟩

theorem info_of_sz {t : TypeId} (h : 0 < szI P t) : ∃ i, P.info? t = some i := by
  cases hi : P.info? t with
  | none => simp [szI, hi] at h
  | some i => exact ⟨i, rfl⟩
theorem run_sizeOf {t : TypeId} {i : TypeInfo} (h : P.info? t = some i) (w : World) : (sizeOf t).run P w = .ok (szI P t) w := by
  simp [sizeOf, typeInfo, h, szI]
theorem run_isAgg {t : TypeId} {b : Bool} (h : kindI P t = some b) (w : World) : (isAgg t).run P w = .ok b w := by
  unfold kindI at h
  cases hu : P.underlying t with
  | none => simp [hu] at h
  | some d =>
    simp [hu] at h
    subst h
    simp only [isAgg, Sem.run_bind, run_underlying hu, Result.andThen_ok]
    cases d <;> rfl
theorem info_of_underlying {t : TypeId} {d : TypeDesc} (h : P.underlying t = some d) : ∃ i, P.info? t = some i := by
  unfold Program.underlying at h
  cases hi : P.info? t with
  | none => simp [hi] at h
  | some i => exact ⟨i, rfl⟩
theorem info_of_kind {t : TypeId} {b : Bool} (h : kindI P t = some b) : ∃ i, P.info? t = some i := by
  unfold kindI at h
  cases hu : P.underlying t with
  | none => simp [hu] at h
  | some d => exact info_of_underlying hu

theorem range_get {n i a : Nat} (h : (List.range n)[i]? = some a) : i < n ∧ a = i := by
  obtain ⟨h1, h2⟩ := List.getElem?_eq_some_iff.1 h
  simp at h1 h2
  exact ⟨h1, h2.symm⟩
theorem addr_add (b o n : Nat) : (⟨b, o, none⟩ : Addr).add n = ⟨b, o + n, none⟩ := by
  unfold Addr.add; split <;> simp_all

/-- A part of cells that lie in memory is loaded. -/
theorem load_part {t : TypeId} {cs : List V} {j : Nat} {v : V} (hp : partI P t cs j = some v) (a : Addr)
    (hc : ∀ (i : Nat) u, cs[j + i]? = some u → ∃ y, w.cell? (a.add i) = some y ∧ y.oneCell' = true ∧ Rep G u y) :
    ∃ y, (loadVar t a).run P w = .ok y w ∧ Rep G v y := by
  unfold partI at hp
  cases hk : kindI P t with
  | none => simp [hk] at hp
  | some b =>
    obtain ⟨i, hi⟩ := info_of_kind hk
    cases b with
    | false =>
      simp only [hk] at hp
      obtain ⟨y, h1, h2, h3⟩ := hc 0 v (by simpa using hp)
      refine ⟨y, ?_, h3⟩
      simp only [loadVar, Sem.run_bind, run_isAgg hk, Result.andThen_ok]
      have h1' : w.cell? a = some y := by simpa [Addr.add] using h1
      simp [h1']
    | true =>
      simp only [hk] at hp
      split at hp
      · rename_i hle
        cases hp
        have hex : ∀ i, i < szI P t → ∃ y, w.cell? (a.add i) = some y ∧ y.oneCell' = true ∧ ∀ u, cs[j + i]? = some u → Rep G u y := by
          intro i hi
          obtain ⟨y, h1, h2, h3⟩ := hc i cs[j + i] (List.getElem?_eq_getElem (by omega))
          exact ⟨y, h1, h2, fun u hu => by rw [List.getElem?_eq_getElem (by omega)] at hu; cases hu; exact h3⟩
        let f : Nat → Value := fun i => if h : i < szI P t then (hex i h).choose else undef
        have hf : ∀ i, i < szI P t → w.cell? (a.add i) = some (f i) ∧ (f i).oneCell' = true ∧ ∀ u, cs[j + i]? = some u → Rep G u (f i) := by
          intro i h
          simp only [f, h, dif_pos]
          exact (hex i h).choose_spec
        refine ⟨.agg ((List.range (szI P t)).map f).toArray, ?_, ?_⟩
        · simp only [loadVar, Sem.run_bind, run_isAgg hk, Result.andThen_ok, if_true, run_sizeOf hi, run_loadCells w a (szI P t) f (fun i h => (hf i h).1)]
          rfl
        · refine .agg _ (by simp; omega) ?_ ?_
          · intro i y e
            simp at e
            obtain ⟨a', ha', rfl⟩ := e
            obtain ⟨hlt, rfl⟩ := range_get ha'
            exact (hf _ hlt).2.1
          · intro i u y e e'
            simp at e'
            obtain ⟨a', ha', rfl⟩ := e'
            obtain ⟨hlt, rfl⟩ := range_get ha'
            rw [List.getElem?_take, if_pos hlt, List.getElem?_drop] at e
            exact (hf _ hlt).2.2 u e
      · cases hp

theorem load_ok (hs : Sim G H nx w) {t : TypeId} {a v : V} {y : Value} (hl : loadI P H t a = some v) (ha : Rep G a y) : ∃ ad z, y = .pointer (some ad) ∧ (loadVar t ad).run P w = .ok z w ∧ Rep G v z := by
  cases a with
  | ptr oid es k j =>
    simp only [loadI] at hl
    cases hh : H oid with
    | mem es' xs =>
      simp only [hh] at hl
      split at hl
      · rename_i hes
        subst hes
        cases ha with
        | ptr hloc =>
          rename_i b
          obtain ⟨b', e1, e2, e3⟩ := hs.obj oid (by simp [hh])
          rw [hloc] at e1; cases e1
          rw [hh] at e3
          obtain ⟨arr, T, h1, -, h2, h3, h3', h4, h5⟩ := e3
          cases hx : xs[k]? with
          | none => simp [hx] at hl
          | some x =>
            simp [hx] at hl
            have hk' : k < xs.length := (List.getElem?_eq_some_iff.1 hx).1
            have hxl := h4 k x hx
            obtain ⟨z, hz, hr⟩ := load_part (P := P) (G := G) (w := w) hl ⟨b, k * es' + j, none⟩ (by
              intro i u hu
              have hlt : j + i < es' := by rw [← hxl]; exact (List.getElem?_eq_some_iff.1 hu).1
              have hlt2 : k * es' + (j + i) < arr.size := by
                have : (k + 1) * es' ≤ xs.length * es' := Nat.mul_le_mul_right _ hk'
                rw [Nat.add_mul, Nat.one_mul] at this
                omega
              have hg : arr[k * es' + (j + i)]? = some arr[k * es' + (j + i)] := Array.getElem?_eq_getElem hlt2
              refine ⟨arr[k * es' + (j + i)], ?_, h3' _ _ hg, h5 k (j + i) x u _ hx hu hg⟩
              simp [addr_add, World.cell?, h1, Nat.add_assoc, hlt2])
            exact ⟨_, z, rfl, hz, hr⟩
      · cases hl
    | _ => simp [hh] at hl
  | rp cs =>
    simp only [loadI] at hl
    cases ha with
    | rp ys hi hr =>
      rename_i b o
      obtain ⟨z, hz, hrz⟩ := load_part (P := P) (G := G) (w := w) hl ⟨b, o, none⟩ (by
        intro i u hu
        rw [Nat.zero_add] at hu
        have hlt := (List.getElem?_eq_some_iff.1 hu).1
        have := hs.imm _ _ _ (hi i hlt)
        exact ⟨ys i, by rw [addr_add]; exact this.1, this.2, hr i u hu⟩)
      exact ⟨_, z, rfl, hz, hrz⟩
  | _ => simp [loadI] at hl

theorem snd_load (hs : Sim G H nx w) {t : TypeId} {a v : V} {y : Value} (hl : loadI P H t a = some v) (ha : Rep G a y) (hk : K v H) : Done P (Instr.loadAt t y) G H nx w id K := by
  obtain ⟨ad, z, rfl, h1, h2⟩ := load_ok (P := P) hs hl ha
  exact Done.pure hs (by simp [Instr.loadAt, Instr.sureAddr, h1]) h2 hk

theorem asInt_nat {v : V} {y : Value} {n : Nat} (h : natI v = some n) (hr : Rep G v y) : ∃ k, y = .int k n := by
  unfold natI at h
  split at h
  · rename_i k m
    cases hr
    split at h
    · rename_i hm
      cases h
      exact ⟨k, by congr; omega⟩
    · cases h
  · cases h

theorem snd_fieldAddr (hs : Sim G H nx w) {s : TypeId} {f : Nat} {x v : V} {y : Value} (h : fieldAddrI P s f x = some v) (hr : Rep G x y) (hk : K v H) : Done P (Instr.fieldAt s y f) G H nx w id K := by
  unfold fieldAddrI at h
  cases hf : fldI P s f with
  | none => simp [hf] at h
  | some p =>
    obtain ⟨off, t⟩ := p
    simp only [hf] at h
    split at h
    · cases h
    · rename_i hsz
      unfold fldI at hf
      cases hu : P.underlying s with
      | none => simp [hu] at hf
      | some d =>
        cases d with
        | struct fs =>
          simp only [hu] at hf
          cases hfs : fs[f]? with
          | none => simp [hfs] at hf
          | some fd =>
            simp [hfs] at hf
            obtain ⟨rfl, rfl⟩ := hf
            obtain ⟨i, hi⟩ := info_of_sz (P := P) (t := fd.type) (by omega)
            cases x with
            | ptr oid es k j =>
              simp at h
              subst h
              cases hr with
              | ptr hl =>
                refine Done.pure hs (y := .pointer (some ⟨_, k * es + (j + fd.offset), none⟩)) ?_ (.ptr hl) hk
                simp [Instr.fieldAt, run_underlying hu, hfs, Instr.sureAddr, fieldPlace, run_sizeOf hi, hsz, addr_add, Nat.add_assoc]
            | rp cs =>
              simp at h
              subst h
              cases hr with
              | rp ys hi' hr' =>
                rename_i b o
                refine Done.pure hs (y := .pointer (some ⟨b, o + fd.offset, none⟩)) ?_ (.rp (fun j => ys (fd.offset + j)) ?_ ?_) hk
                · simp [Instr.fieldAt, run_underlying hu, hfs, Instr.sureAddr, fieldPlace, run_sizeOf hi, hsz, addr_add]
                · intro j hj
                  simp at hj
                  rw [Nat.add_assoc]
                  exact hi' _ (by omega)
                · intro j v hv
                  rw [List.getElem?_drop] at hv
                  exact hr' _ v hv
            | _ => simp at h
        | _ => simp [hu] at hf

theorem snd_part {t : TypeId} {cs : List V} {ys : Array Value} {off : Nat} {v : V} (h : partI P t cs off = some v) (hr : Rep G (.agg cs) (.agg ys)) :
    ∃ y, (part t ys off).run P w = .ok y w ∧ Rep G v y := by
  cases hr with
  | agg _ hn ho hr =>
  unfold partI at h
  cases hk : kindI P t with
  | none => simp [hk] at h
  | some b =>
    obtain ⟨i, hi⟩ := info_of_kind hk
    cases b with
    | false =>
      simp only [hk] at h
      have hlt : off < ys.size := by rw [hn]; exact (List.getElem?_eq_some_iff.1 h).1
      refine ⟨ys[off], ?_, hr off v _ h (by simp [hlt])⟩
      simp [part, run_isAgg hk, hlt]
    | true =>
      simp only [hk] at h
      split at h
      · rename_i hle
        cases h
        refine ⟨.agg (ys.extract off (off + szI P t)), by simp [part, run_isAgg hk, run_sizeOf hi], .agg _ (by simp; omega) ?_ ?_⟩
        · intro j y e
          rw [Array.getElem?_extract] at e
          split at e
          · exact ho _ y e
          · cases e
        · intro j u y e e'
          rw [Array.getElem?_extract] at e'
          split at e'
          · rename_i hj
            rw [List.getElem?_take] at e
            split at e
            · rw [List.getElem?_drop] at e
              exact hr _ u y e e'
            · cases e
          · cases e'
      · cases h

theorem snd_field (hs : Sim G H nx w) {s : TypeId} {f : Nat} {x v : V} {y : Value} (h : fieldI P s f x = some v) (hr : Rep G x y) (hk : K v H) : Done P (Instr.field s y f) G H nx w id K := by
  unfold fieldI at h
  split at h
  · rename_i off t cs hf
    cases hr with
    | agg ys hn ho hr =>
      unfold fldI at hf
      cases hu : P.underlying s with
      | none => simp [hu] at hf
      | some d =>
        cases d with
        | struct fs =>
          simp only [hu] at hf
          cases hfs : fs[f]? with
          | none => simp [hfs] at hf
          | some fd =>
            simp [hfs] at hf
            obtain ⟨rfl, rfl⟩ := hf
            obtain ⟨y, h1, h2⟩ := snd_part (P := P) (w := w) h (.agg ys hn ho hr)
            exact Done.pure hs (by simp [Instr.field, run_underlying hu, hfs, asAgg, h1]) h2 hk
        | _ => simp [hu] at hf
  · cases h
end
end Go.IL

/- The ideal meaning of operations is sound, part 2. -/
namespace Go.IL
open Go

section
variable {P : Program} {G : Ghost} {H : Heap} {nx : Nat} {w : World} {id : Nat} {K : V → Heap → Prop}

theorem el_of {t e : TypeId} (h : elI P t = some e) : P.underlying t = some (.slice e) := by
  unfold elI at h
  split at h
  · simp_all
  · cases h
theorem arr_of {t e : TypeId} {n : Nat} (h : arrI P t = some (n, e)) : P.underlying t = some (.array n e) := by
  unfold arrI at h
  split at h
  · simp_all
  · cases h

theorem snd_indexAddr (hs : Sim G H nx w) {t : TypeId} {x i v : V} {y z : Value} (h : indexAddrI P t x i = some v) (hx : Rep G x y) (hi : Rep G i z) (hk : K v H) :
    Done P (Instr.indexAt t y z) G H nx w id K := by
  unfold indexAddrI at h
  cases he : elI P t with
  | some e =>
    have hu := el_of he
    simp only [he] at h
    cases x with
    | sl xs =>
      simp only [] at h
      cases hn : natI i with
      | none => simp [hn] at h
      | some n =>
        obtain ⟨k, rfl⟩ := asInt_nat hn hi
        simp [hn] at h
        cases hxn : xs[n]? with
        | none => simp [hxn] at h
        | some x =>
          simp [hxn] at h
          obtain ⟨⟨hsz, hin⟩, rfl⟩ := h
          obtain ⟨inf, hinf⟩ := Option.isSome_iff_exists.1 hin
          have hlt := (List.getElem?_eq_some_iff.1 hxn).1
          cases hx with
          | sl0 => simp at hlt
          | sl hcap ys hl hi' hr =>
            rename_i es b o c
            have hes : es = szI P e := by rw [← hl n x hxn, hsz]
            subst hes
            refine Done.pure hs (y := .pointer (some ⟨b, o + n * szI P e, none⟩)) ?_ (.rp (fun j => ys n j) ?_ ?_) hk
            · simp [Instr.indexAt, run_underlying hu, asIntOf, run_sizeOf hinf, addr_add, hlt]
            · intro j hj
              exact hi' n j hlt (by omega)
            · intro j v hv
              exact hr n j x v hxn hv
    | ar oid es off len =>
      simp only [] at h
      cases hn : natI i with
      | none => simp [hn] at h
      | some n =>
        obtain ⟨k, rfl⟩ := asInt_nat hn hi
        simp [hn] at h
        obtain ⟨⟨hlt, rfl, hin⟩, rfl⟩ := h
        obtain ⟨inf, hinf⟩ := Option.isSome_iff_exists.1 hin
        cases hx with
        | ar hl hc hle =>
          rename_i b cap
          refine Done.pure hs (y := .pointer (some ⟨b, (off + n) * szI P e + 0, none⟩)) ?_ (.ptr hl) hk
          simp [Instr.indexAt, run_underlying hu, asIntOf, run_sizeOf hinf, addr_add, hlt, Nat.add_mul]
        | ar0 hl => omega
    | cl oid es off len =>
      simp only [] at h
      cases hn : natI i with
      | none => simp [hn] at h
      | some n =>
        obtain ⟨k, rfl⟩ := asInt_nat hn hi
        simp [hn] at h
        obtain ⟨⟨hlt, rfl, hin⟩, rfl⟩ := h
        obtain ⟨inf, hinf⟩ := Option.isSome_iff_exists.1 hin
        cases hx with
        | cl hl =>
          rename_i b
          refine Done.pure hs (y := .pointer (some ⟨b, (off + n) * szI P e + 0, none⟩)) ?_ (.ptr hl) hk
          simp [Instr.indexAt, run_underlying hu, asIntOf, run_sizeOf hinf, addr_add, hlt, Nat.add_mul]
        | cl0 hl => omega
    | _ => simp at h
  | none =>
    simp only [he] at h
    cases ha : arrI P t with
    | none => simp [ha] at h
    | some p =>
      obtain ⟨len, e⟩ := p
      have hu := arr_of ha
      cases x with
      | ptr oid es k j =>
        simp only [ha] at h
        cases hn : natI i with
        | none => simp [hn] at h
        | some n =>
          obtain ⟨k', rfl⟩ := asInt_nat hn hi
          simp [hn] at h
          obtain ⟨⟨hlt, hin⟩, rfl⟩ := h
          obtain ⟨inf, hinf⟩ := Option.isSome_iff_exists.1 hin
          cases hx with
          | ptr hl =>
            rename_i b
            refine Done.pure hs (y := .pointer (some ⟨b, k * es + (j + n * szI P e), none⟩)) ?_ (.ptr hl) hk
            simp [Instr.indexAt, run_underlying hu, asIntOf, Instr.sureAddr, run_sizeOf hinf, addr_add, hlt, Nat.add_assoc]
      | _ => simp [ha] at h

theorem snd_index (hs : Sim G H nx w) {t : TypeId} {x i v : V} {y z : Value} (h : indexI P t x i = some v) (hx : Rep G x y) (hi : Rep G i z) (hk : K v H) :
    Done P (Instr.index t y z) G H nx w id K := by
  unfold indexI at h
  split at h
  · rename_i l hu
    cases hx
    cases hn : natI i with
    | none => simp [hn] at h
    | some n =>
      obtain ⟨k, rfl⟩ := asInt_nat hn hi
      simp [hn] at h
      obtain ⟨b, hb, rfl⟩ := h
      have hlt := (List.getElem?_eq_some_iff.1 hb).1
      refine Done.pure hs (y := .int .u8 b.toNat) ?_ .val hk
      have : (⟨l.toArray⟩ : ByteArray)[n]? = some b := by
        show (if h : _ then some ((⟨l.toArray⟩ : ByteArray)[n]) else none) = some b
        rw [dif_pos (by show n < (⟨l.toArray⟩ : ByteArray).size; simpa [ByteArray.size] using hlt)]
        congr 1
        exact (List.getElem?_eq_some_iff.1 hb).2
      simp [Instr.index, run_underlying hu, asIntOf, this]
  · rename_i len e cs hu
    cases hn : natI i with
    | none => simp [hn] at h
    | some n =>
      obtain ⟨k, rfl⟩ := asInt_nat hn hi
      simp [hn] at h
      obtain ⟨⟨hlt, hin⟩, h⟩ := h
      obtain ⟨inf, hinf⟩ := Option.isSome_iff_exists.1 hin
      cases hx with
      | agg ys a1 a2 a3 =>
        obtain ⟨y, h1, h2⟩ := snd_part (P := P) (w := w) h (.agg ys a1 a2 a3)
        exact Done.pure hs (by simp [Instr.index, run_underlying hu, asIntOf, run_sizeOf hinf, hlt, h1]) h2 hk
  · cases h

theorem run_intBin {op : BinOp} {k k' : IntKind} {a b : Int} {v : V} (h : intBinI op k a k' b = some v) (t : TypeId) (w : World) :
    ∃ y, (binOp op t (.int k a) (.int k' b)).run P w = .ok y w ∧ v = .val y := by
  cases op <;> simp only [intBinI] at h
  all_goals (split at h)
  all_goals (first | (cases h; done) | skip)
  all_goals (rename_i hc)
  all_goals (first | (obtain ⟨rfl, hb⟩ := hc) | (subst hc) | skip)
  all_goals (cases h)
  all_goals (refine ⟨_, ?_, rfl⟩)
  all_goals (simp [binOp, Op.intArith, Op.intDiv, Op.intBits, Op.intCmp, Op.shift, *])
  all_goals (try (intro; omega))

theorem bytes_toList (l : List UInt8) : (⟨l.toArray⟩ : ByteArray).toList = l := by
  rw [ByteArray.toList_eq]

theorem run_strBin {op : BinOp} {a b : List UInt8} {v : V} (h : strBinI op a b = some v) (t : TypeId) (w : World) :
    ∃ y, (binOp op t (.string ⟨a.toArray⟩) (.string ⟨b.toArray⟩)).run P w = .ok y w ∧ Rep G v y := by
  cases op <;> simp only [strBinI] at h
  case add =>
    split at h
    · rename_i hc
      cases h
      refine ⟨.string ⟨(a ++ b).toArray⟩, ?_, .str⟩
      have hsz : ∀ l : List UInt8, (⟨l.toArray⟩ : ByteArray).size = l.length := fun l => by simp [ByteArray.size]
      have : ¬ (((⟨a.toArray⟩ : ByteArray).size + (⟨b.toArray⟩ : ByteArray).size : Nat) : Int) > IntKind.i64.max := by
        rw [hsz, hsz, IntKind.max_i64]; omega
      simp only [binOp, Op.stringOp]
      rw [if_neg this]
      have e : (⟨a.toArray⟩ : ByteArray) ++ ⟨b.toArray⟩ = ⟨(a ++ b).toArray⟩ := by
        apply ByteArray.ext
        simp
      rw [e]
      rfl
    · cases h
  all_goals (first | (cases h; done) | skip)
  all_goals (cases h; refine ⟨_, ?_, .val⟩; simp [binOp, Op.stringOp])

theorem rep_bool {b : Bool} {y : Value} (h : Rep G (.val (.bool b)) y) : y = .bool b := by cases h; rfl
theorem rep_int {k : IntKind} {n : Int} {y : Value} (h : Rep G (.val (.int k n)) y) : y = .int k n := by cases h; rfl
theorem rep_val {x y : Value} (h : Rep G (.val x) y) : y = x := by cases h; rfl
theorem rep_str {l : List UInt8} {y : Value} (h : Rep G (.str l) y) : y = .string ⟨l.toArray⟩ := by cases h; rfl
theorem rep_ptr {i es k j : Nat} {y : Value} (h : Rep G (.ptr i es k j) y) : ∃ b, y = .pointer (some ⟨b, k * es + j, none⟩) ∧ G.loc i = some b := by
  cases h with
  | ptr hl => exact ⟨_, rfl, hl⟩

theorem eqGuard_agg {op : BinOp} {t : TypeId} {x y : Operand} {a b : Array Value} (h : P.eqGuardType P.depth t = false) (w : World) :
    (eqGuard op t x y (.agg a) (.agg b)).run P w = .ok () w := by
  cases op <;> first | rfl | simp [eqGuard, h]

theorem run_eqCell {t : TypeId} {a b : V} {s : Bool} {k : Nat} (hty : flatKind (P.underlying t) = some k)
    (h : eqCell k a b = some s) {x y : Value} (hx : Rep G a x) (hy : Rep G b y) (d : Nat) (w : World) : (Op.equalIn (d + 1) t x y).run P w = .ok s w := by
  unfold flatKind at hty
  unfold eqCell at h
  split at hty <;> cases hty
  · rename_i k0 hu
    split at h
    · rename_i k n k' m _
      rw [rep_int hx, rep_int hy]
      split at h
      · rename_i hkk
        cases h
        simp [Op.equalIn, run_underlying hu, hkk]
      · cases h
    · rename_i e; cases e
    · rename_i e; cases e
    · cases h
  · rename_i hu
    split at h
    · rename_i e; cases e
    · rw [rep_str hx, rep_str hy]
      cases h
      simp [Op.equalIn, run_underlying hu, beq_toListBytes]
    · rename_i e; cases e
    · cases h
  · rename_i hu
    split at h
    · rename_i e; cases e
    · rename_i e; cases e
    · rw [rep_bool hx, rep_bool hy]
      cases h
      simp [Op.equalIn, run_underlying hu]
    · cases h

/-- Fields that are integers, strings and bools, one behind the other, against cells. -/
theorem run_eqFields (G : Ghost) (w : World) (d : Nat) (xs ys : Array Value) : ∀ (fs : List Field) (off : Nat) (ks : List Nat) (as bs : List V) (r : Bool),
    flatFields P off fs = some ks → xs.size = off + as.length → ys.size = xs.size → eqCells ks as bs = some r →
    (∀ (j : Nat) v y, as[j]? = some v → xs[off + j]? = some y → Rep G v y) → (∀ (j : Nat) v y, bs[j]? = some v → ys[off + j]? = some y → Rep G v y) →
    (Op.eqFields (d + 1) xs ys fs).run P w = .ok r w
  | [], off, ks, as, bs, r, hall, h1, h3, he, _, _ => by
    simp [flatFields] at hall
    subst hall
    cases as <;> cases bs <;> simp [eqCells] at he
    subst he; rfl
  | f :: fs, off, ks, as, bs, r, hall, h1, h3, he, hx, hy => by
    simp only [flatFields] at hall
    split at hall
    · rename_i hc
      obtain ⟨ho, hname⟩ := hc
      cases hty : flatKind (P.underlying f.type) with
      | none => simp [hty] at hall
      | some k =>
        simp only [hty, Option.bind_some, Option.map_eq_some_iff] at hall
        obtain ⟨ks', hrest, rfl⟩ := hall
        cases as with
        | nil => cases bs <;> simp [eqCells] at he
        | cons a as =>
          cases bs with
          | nil => simp [eqCells] at he
          | cons b bs =>
            have hlx : off < xs.size := by simp at h1; omega
            have hly : off < ys.size := by omega
            have rx := hx 0 a xs[off] (by simp) (by simp [hlx])
            have ry := hy 0 b ys[off] (by simp) (by simp [hly])
            have ih := fun r' he' => run_eqFields G w d xs ys fs (off + 1) ks' as bs r' hrest (by simp at h1 ⊢; omega) h3 he'
              (fun j v y hv hy' => hx (j + 1) v y (by simpa using hv) (by rw [← hy']; congr 1; omega))
              (fun j v y hv hy' => hy (j + 1) v y (by simpa using hv) (by rw [← hy']; congr 1; omega))
            have hpx : ∀ (z : Array Value) (hz : off < z.size), (part f.type z f.offset).run P w = .ok z[off] w := by
              intro z hz
              rw [ho]
              have hk : kindI P f.type = some false := by
                unfold kindI
                revert hty
                cases P.underlying f.type with
                | none => simp [flatKind]
                | some dd => cases dd <;> simp [descAgg, flatKind]
              simp [part, run_isAgg hk, hz]
            simp only [eqCells] at he
            cases hs : eqCell k a b with
            | none => simp [hs] at he
            | some s =>
              simp only [hs, Option.bind_some, Option.map_eq_some_iff] at he
              obtain ⟨r', hr', rfl⟩ := he
              have hq : (Op.equalIn (d + 1) f.type xs[off] ys[off]).run P w = .ok s w := run_eqCell hty hs rx ry d w
              rw [Op.eqFields, if_pos hname]
              simp only [Sem.run_bind, hpx xs hlx, hpx ys hly, Result.andThen_ok, hq]
              cases s with
              | true => simpa using ih r' hr'
              | false => simp
    · cases hall

theorem eqCells_len : ∀ {ks : List Nat} {as bs : List V} {r : Bool}, eqCells ks as bs = some r → as.length = bs.length
  | [], [], [], _, _ => rfl
  | [], _ :: _, _, _, h => by simp [eqCells] at h
  | [], [], _ :: _, _, h => by simp [eqCells] at h
  | _ :: _, [], _, _, h => by simp [eqCells] at h
  | _ :: _, _ :: _, [], _, h => by simp [eqCells] at h
  | k :: ks, a :: as, b :: bs, r, h => by
    simp only [eqCells, Option.bind_eq_some_iff, Option.map_eq_some_iff] at h
    obtain ⟨_, _, _, h, _⟩ := h
    simp [eqCells_len h]

theorem run_equal_flat {t : TypeId} {ks : List Nat} {as bs : List V} {r : Bool} {xs ys : Array Value} (hf : flatI P t = some ks) (he : eqCells ks as bs = some r)
    (hx : Rep G (.agg as) (.agg xs)) (hy : Rep G (.agg bs) (.agg ys)) (w : World) : (Op.equal t (.agg xs) (.agg ys)).run P w = .ok r w ∧ P.eqGuardType P.depth t = false := by
  unfold flatI at hf
  split at hf
  · cases hf
  · rename_i hc
    simp only [Bool.or_eq_true, not_or, Bool.not_eq_true] at hc
    split at hf
    · rename_i fs hu
      cases hx with
      | agg _ hn1 _ hr1 =>
        cases hy with
        | agg _ hn2 _ hr2 =>
          have hlen := eqCells_len he
          have hfo : P.fieldsOf t = fs := by simp [Program.fieldsOf, hu]
          refine ⟨?_, hc.2⟩
          rw [Op.equal, show Op.maxDepth = 9998 + 1 + 1 from rfl, run_equalIn_struct w (9998 + 1) t xs ys (by rw [hfo]; exact hu) hc.1, hfo]
          exact run_eqFields G w 9998 xs ys fs.toList 0 ks as bs r hf (by omega) (by omega) he (fun j v y a b => hr1 j v y a (by simpa using b)) (fun j v y a b => hr2 j v y a (by simpa using b))
    · cases hf

theorem equal_succ (t : TypeId) (x y : Value) : Op.equal t x y = Op.equalIn (9999 + 1) t x y := rfl
theorem run_equal_bool {t : TypeId} (hu : P.underlying t = some .bool) (a b : Bool) (w : World) : (Op.equal t (.bool a) (.bool b)).run P w = .ok (a == b) w := by
  rw [equal_succ]
  generalize 9999 = d
  simp [Op.equalIn, run_underlying hu]
theorem run_equal_ptr {t e : TypeId} (hu : P.underlying t = some (.pointer e)) (a b : Option Addr) (hab : a = none ∨ b = none) (w : World) :
    (Op.equal t (.pointer a) (.pointer b)).run P w = .ok (a.isNone && b.isNone) w := by
  rw [equal_succ]
  generalize 9999 = d
  rcases hab with rfl | rfl
  · simp [Op.equalIn, run_underlying hu]
  · cases a <;> simp [Op.equalIn, run_underlying hu]
theorem snd_bin (hs : Sim G H nx w) {op : BinOp} {t : TypeId} {x y : Operand} {a b v : V} {u z : Value} (h : binI P op t a b = some v) (ha : Rep G a u) (hb : Rep G b z) (hk : K v H) :
    Done P (do eqGuard op t x y u z; binOp op t u z) G H nx w id K := by
  unfold binI at h
  split at h
  · rename_i k n k' m
    rw [rep_int ha, rep_int hb]
    obtain ⟨y', h1, rfl⟩ := run_intBin (P := P) h t w
    exact Done.pure hs (y := y') (by rw [eqGuard_at_int]; exact h1) .val hk
  · rename_i l l'
    rw [rep_str ha, rep_str hb]
    obtain ⟨y', h1, h2⟩ := run_strBin (P := P) (G := G) h t w
    exact Done.pure hs (y := y') (by rw [eqGuard_at_string]; exact h1) h2 hk
  · rename_i p q
    rw [rep_bool ha, rep_bool hb]
    split at h
    · rename_i hbo
      have hu : P.underlying t = some .bool := by
        unfold isBool at hbo
        split at hbo
        · simp_all
        · cases hbo
      cases op <;> simp only [boolOf] at h
      case eql => cases h; exact Done.pure hs (by simp [eqGuard_at_bool, binOp, run_equal_bool hu]) .val hk
      case neq => cases h; exact Done.pure hs (by simp [eqGuard_at_bool, binOp, run_equal_bool hu]) .val hk
      all_goals cases h
    · cases h
  · rw [rep_val ha, rep_val hb]
    split at h
    · rename_i hbo
      obtain ⟨e, hu⟩ : ∃ e, P.underlying t = some (.pointer e) := by
        unfold isPtr at hbo
        split at hbo
        · exact ⟨_, by assumption⟩
        · cases hbo
      cases op <;> simp only [boolOf] at h
      case eql => cases h; exact Done.pure hs (by simp [eqGuard_at_pointer, binOp, run_equal_ptr hu]) .val hk
      case neq => cases h; exact Done.pure hs (by simp [eqGuard_at_pointer, binOp, run_equal_ptr hu]) .val hk
      all_goals cases h
    · cases h
  · obtain ⟨b', rfl, -⟩ := rep_ptr ha
    rw [rep_val hb]
    split at h
    · rename_i hbo
      obtain ⟨e, hu⟩ : ∃ e, P.underlying t = some (.pointer e) := by
        unfold isPtr at hbo
        split at hbo
        · exact ⟨_, by assumption⟩
        · cases hbo
      cases op <;> simp only [boolOf] at h
      case eql => cases h; exact Done.pure hs (by simp [eqGuard_at_pointer, binOp, run_equal_ptr hu]) .val hk
      case neq => cases h; exact Done.pure hs (by simp [eqGuard_at_pointer, binOp, run_equal_ptr hu]) .val hk
      all_goals cases h
    · cases h
  · obtain ⟨b', rfl, -⟩ := rep_ptr hb
    rw [rep_val ha]
    split at h
    · rename_i hbo
      obtain ⟨e, hu⟩ : ∃ e, P.underlying t = some (.pointer e) := by
        unfold isPtr at hbo
        split at hbo
        · exact ⟨_, by assumption⟩
        · cases hbo
      cases op <;> simp only [boolOf] at h
      case eql => cases h; exact Done.pure hs (by simp [eqGuard_at_pointer, binOp, run_equal_ptr hu]) .val hk
      case neq => cases h; exact Done.pure hs (by simp [eqGuard_at_pointer, binOp, run_equal_ptr hu]) .val hk
      all_goals cases h
    · cases h
  · rename_i as bs
    simp only [Option.bind_eq_some_iff] at h
    obtain ⟨ks, hf, r, he, h⟩ := h
    cases ha with
    | agg xs n1 o1 r1 =>
      cases hb with
      | agg ys n2 o2 r2 =>
        obtain ⟨hq, hg⟩ := run_equal_flat hf he (.agg xs n1 o1 r1) (.agg ys n2 o2 r2) w
        cases op <;> simp only [boolOf] at h
        case eql => cases h; exact Done.pure hs (by simp [eqGuard_agg hg, binOp, hq]) .val hk
        case neq => cases h; exact Done.pure hs (by simp [eqGuard_agg hg, binOp, hq]) .val hk
        all_goals cases h
  · cases h

theorem run_equal_nils {t : TypeId} {ms : Array (String × TypeId)} (hu : P.underlying t = some (.interface ms)) (w : World) : (Op.equal t .nilIface .nilIface).run P w = .ok true w := by
  rw [equal_succ]
  generalize 9999 = d
  simp [Op.equalIn, run_underlying hu]
theorem snd_binX (hs : Sim G H nx w) {op : BinOp} {t : TypeId} {x y : Operand} {a b v : V} {u z : Value} (h : binX P op t x y a b = some v) (ha : Rep G a u) (hb : Rep G b z) (hk : K v H) :
    Done P (do eqGuard op t x y u z; binOp op t u z) G H nx w id K := by
  unfold binX at h
  split at h
  · rw [rep_val ha, rep_val hb]
    split at h
    · rename_i hc
      rw [Bool.and_eq_true, Bool.or_eq_true] at hc
      obtain ⟨ms, hu⟩ : ∃ ms, P.underlying t = some (.interface ms) := by
        have := hc.1
        unfold isIface at this
        split at this
        · exact ⟨_, by assumption⟩
        · cases this
      have hg : eqGuard op t x y .nilIface .nilIface = pure () := by
        rcases hc.2 with h' | h'
        · cases x <;> simp [isConst] at h'
          cases op <;> rfl
        · cases y <;> simp [isConst] at h'
          cases op <;> cases x <;> rfl
      cases op <;> simp only [boolOf] at h
      case eql => cases h; exact Done.pure hs (by simp [hg, binOp, run_equal_nils hu]) .val hk
      case neq => cases h; exact Done.pure hs (by simp [hg, binOp, run_equal_nils hu]) .val hk
      all_goals cases h
    · cases h
  · exact snd_bin hs h ha hb hk
theorem snd_un (hs : Sim G H nx w) {op : UnOp} {a v : V} {u : Value} (h : unI op a = some v) (ha : Rep G a u) (hk : K v H) : Done P (Op.unary op u) G H nx w id K := by
  unfold unI at h
  split at h
  · rw [rep_bool ha]; cases h
    exact Done.pure hs (by simp [Op.unary]) .val hk
  · rw [rep_int ha]; cases h
    exact Done.pure hs (by simp [Op.unary, Op.intArith]) .val hk
  · cases h

theorem snd_conv (hs : Sim G H nx w) {s d : TypeId} {a v : V} {u : Value} (h : convI P s d a = some v) (ha : Rep G a u) (hk : K v H) : Done P (convert s d u) G H nx w id K := by
  unfold convI at h
  split at h
  · rename_i d1 k' k n h1 h2
    rw [rep_int ha]; cases h
    exact Done.pure hs (by simp [convert, run_underlying h1, run_underlying h2, Conv.intToInt]) .val hk
  · rename_i l h1 h2
    rw [rep_str ha]; cases h
    exact Done.pure hs (by simp [convert, run_underlying h1, run_underlying h2]) .str hk
  · cases h
end
end Go.IL

/- The ideal meaning of operations is sound, part 3. -/
namespace Go.IL
open Go

section
variable {P : Program} {G : Ghost} {H : Heap} {nx : Nat} {w : World} {id : Nat} {K : V → Heap → Prop}

theorem run_bound {b : Option V} {z : Option Value} {d n : Nat} (h : bndI b d = some n) (hr : ∀ v, b = some v → ∃ y, z = some y ∧ Rep G v y) (hz : b = none → z = none) :
    (z = none ∧ n = d) ∨ ∃ k, z = some (.int k n) := by
  cases b with
  | none => simp [bndI] at h; exact .inl ⟨hz rfl, h.symm⟩
  | some v =>
    simp [bndI] at h
    obtain ⟨y, rfl, hy⟩ := hr v rfl
    obtain ⟨k, rfl⟩ := asInt_nat h hy
    exact .inr ⟨k, rfl⟩
theorem run_sliceBound (k : IntKind) (n y : Nat) (c : BoundsCode) (h : n ≤ y) (w : World) : (Instr.sliceBound (.int k n) y c).run P w = .ok n w := by
  have : (n : Int) ≤ y := by omega
  simp [Instr.sliceBound, asIntOf, h]
theorem run_sliceBounds {lo hi : Option Value} {isSlice : Bool} {len cap a b : Nat} (hlo : (lo = none ∧ a = 0) ∨ ∃ k, lo = some (.int k a)) (hhi : (hi = none ∧ b = len) ∨ ∃ k, hi = some (.int k b))
    (hab : a ≤ b) (hbc : b ≤ cap) (w : World) : (Instr.sliceBounds isSlice len cap lo hi none).run P w = .ok (a, b, cap) w := by
  unfold Instr.sliceBounds
  rcases hlo with ⟨rfl, rfl⟩ | ⟨k, rfl⟩ <;> rcases hhi with ⟨rfl, rfl⟩ | ⟨k', rfl⟩ <;> simp [run_sliceBound, hab, hbc]
theorem run_sliceBounds3 {lo hi : Option Value} {k'' : IntKind} {len cap a b m : Nat} (hlo : (lo = none ∧ a = 0) ∨ ∃ k, lo = some (.int k a)) (hhi : ∃ k, hi = some (.int k b))
    (hab : a ≤ b) (hbm : b ≤ m) (hmc : m ≤ cap) (w : World) : (Instr.sliceBounds true len cap lo hi (some (.int k'' m))).run P w = .ok (a, b, m) w := by
  unfold Instr.sliceBounds
  obtain ⟨k', rfl⟩ := hhi
  rcases hlo with ⟨rfl, rfl⟩ | ⟨k, rfl⟩ <;> simp [run_sliceBound, hab, hbm, hmc]

theorem fits_spec {n : Nat} {xs : List V} (h : fits n xs = true) (i : Nat) (x : V) (hx : xs[i]? = some x) : x.cells.length = n := by
  have := List.all_eq_true.1 h x (List.mem_of_getElem? hx)
  simpa using this

theorem sl_at {xs : List V} {y : Value} (h : Rep G (.sl xs) y) : ∃ a c, y = .slice a xs.length c ∧ xs.length ≤ c ∧ (xs ≠ [] → ∃ b o, a = some ⟨b, o, none⟩) := by
  cases h with
  | sl0 => exact ⟨_, _, rfl, by simp, fun h => (h rfl).elim⟩
  | sl hc ys hl hi hr => exact ⟨_, _, rfl, hc, fun _ => ⟨_, _, rfl⟩⟩
theorem sl_cut {xs : List V} {es b o c c' lo hi : Nat} (h : Rep G (.sl xs) (.slice (some ⟨b, o, none⟩) xs.length c)) (hf : fits es xs = true) (hlo : lo ≤ hi) (hhi : hi ≤ xs.length) (hc' : hi - lo ≤ c') :
    Rep G (.sl ((xs.take hi).drop lo)) (.slice (some ⟨b, o + lo * es, none⟩) (hi - lo) c') := by
  have hlen : ((xs.take hi).drop lo).length = hi - lo := by simp; omega
  by_cases h0 : (xs.take hi).drop lo = []
  · have : hi - lo = 0 := by rw [← hlen, h0]; rfl
    rw [h0, this]; exact .sl0
  · rw [← hlen]
    have hne : xs ≠ [] := by rintro rfl; simp at h0
    generalize hL : xs.length = L at h
    cases h with
    | sl0 => exact (hne rfl).elim
    | sl hcap ys hl hi' hr =>
      rename_i es'
      have hes : es' = es := by
        cases xs with
        | nil => exact (hne rfl).elim
        | cons x xs => rw [← hl 0 x (by simp), fits_spec hf 0 x (by simp)]
      subst hes
      refine .sl (es := es') (by rw [hlen]; exact hc') (fun i j => ys (lo + i) j) ?_ ?_ ?_
      · intro i x hx
        rw [List.getElem?_drop, List.getElem?_take] at hx
        split at hx
        · exact hl _ x hx
        · cases hx
      · intro i j hi2 hj
        have := hi' (lo + i) j (by rw [hlen] at hi2; omega) hj
        rw [← this]; congr 1; rw [Nat.add_mul]; omega
      · intro i j x v hx hv
        rw [List.getElem?_drop, List.getElem?_take] at hx
        split at hx
        · exact hr _ j x v hx hv
        · cases hx

theorem snd_slice (hs : Sim G H nx w) {t : TypeId} {x v : V} {lo hi mx : Option V} {y : Value} {zlo zhi zmx : Option Value} (h : sliceI P t x lo hi mx = some v) (hx : Rep G x y)
    (hlo : ∀ v, lo = some v → ∃ y, zlo = some y ∧ Rep G v y) (hlo' : lo = none → zlo = none) (hhi : ∀ v, hi = some v → ∃ y, zhi = some y ∧ Rep G v y) (hhi' : hi = none → zhi = none)
    (hmx : ∀ v, mx = some v → ∃ y, zmx = some y ∧ Rep G v y) (hmx' : mx = none → zmx = none) (hnarr : ∀ n e, P.underlying t ≠ some (.array n e)) (hk : K v H) :
    Done P (Instr.sliceAt t y zlo zhi zmx) G H nx w id K := by
  have hat : ∀ d, P.underlying t = some d → (Instr.sliceAt t y zlo zhi zmx).run P w = (Instr.slice t y zlo zhi zmx).run P w := by
    intro d hd
    unfold Instr.sliceAt
    simp only [Sem.run_bind, run_underlying hd, Result.andThen_ok]
    cases d <;> first | rfl | exact (hnarr _ _ hd).elim
  unfold sliceI at h
  split at h
  · rename_i l hu
    rw [rep_str hx] at hat ⊢
    split at h
    · cases h
    · rename_i hm
      have hzm : zmx = none := hmx' (by simpa using hm)
      subst hzm
      simp only [Option.bind_eq_some_iff] at h
      obtain ⟨a, ha, b, hb, h⟩ := h
      split at h
      · rename_i hc
        cases h
        have hsz : (⟨l.toArray⟩ : ByteArray).size = l.length := by simp [ByteArray.size]
        refine Done.pure hs (y := .string ⟨((l.take b).drop a).toArray⟩) ?_ .str hk
        rw [hat _ hu]
        simp only [Instr.slice, Sem.run_bind, run_underlying hu, Result.andThen_ok, Option.isSome_none, Bool.false_eq_true, if_false, hsz,
          run_sliceBounds (P := P) (isSlice := false) (len := l.length) (cap := l.length) (run_bound ha hlo hlo') (run_bound hb hhi hhi') hc.1 hc.2]
        simp only [Sem.run_pure]
        congr 2
        apply ByteArray.ext
        apply Array.ext'
        simp [ByteArray.data_extract, List.extract_eq_take_drop, List.drop_take]
      · cases h
  · rename_i e xs hu
    split at h
    · cases h
    · rename_i hm
      have hzm : zmx = none := hmx' (by simpa using hm)
      subst hzm
      simp only [Option.bind_eq_some_iff] at h
      obtain ⟨a, ha, b, hb, h⟩ := h
      split at h
      · rename_i hc
        obtain ⟨hc1, hc2, hc3, hin⟩ := hc
        obtain ⟨inf, hinf⟩ := Option.isSome_iff_exists.1 hin
        cases h
        obtain ⟨ad, c, rfl, hcap, hne⟩ := sl_at hx
        · refine Done.pure hs (y := .slice (if c = a then ad else ad.map (·.add (a * szI P e))) (b - a) (c - a)) ?_ ?_ hk
          · rw [hat _ hu]
            simp [Instr.slice, run_underlying hu,
              run_sliceBounds (P := P) (isSlice := true) (len := xs.length) (cap := c) (run_bound ha hlo hlo') (run_bound hb hhi hhi') hc1 (by omega), run_sizeOf hinf]
          · by_cases hx0 : xs = []
            · subst hx0
              simp at hc2
              have : b - a = 0 := by omega
              rw [this]
              simp
              exact .sl0
            · obtain ⟨bb, o, rfl⟩ := hne hx0
              by_cases hca : c = a
              · have : b - a = 0 := by omega
                have hl : (xs.take b).drop a = [] := by apply List.eq_nil_of_length_eq_zero; simp; omega
                rw [this, hl]; exact .sl0
              · simp only [hca, if_false, Option.map_some, addr_add]
                exact sl_cut hx hc3 hc1 hc2 (by omega)
      · cases h
  · rename_i e hu
    cases hx
    simp only [Option.bind_eq_some_iff] at h
    obtain ⟨a, ha, b, hb, h⟩ := h
    cases mx with
    | none =>
      have hzm : zmx = none := hmx' rfl
      subst hzm
      simp only [] at h
      split at h
      · rename_i hc
        obtain ⟨rfl, rfl, hin⟩ := hc
        obtain ⟨inf, hinf⟩ := Option.isSome_iff_exists.1 hin
        cases h
        refine Done.pure hs (y := .slice none 0 0) ?_ .nil hk
        rw [hat _ hu]
        simp [Instr.slice, run_underlying hu, run_sliceBounds (P := P) (isSlice := true) (len := 0) (cap := 0) (run_bound ha hlo hlo') (run_bound hb hhi hhi') (Nat.le_refl _) (Nat.le_refl _), run_sizeOf hinf]
      · cases h
    | some m =>
      obtain ⟨zm, rfl, hzr⟩ := hmx m rfl
      simp only [] at h
      cases hnm : natI m with
      | none => simp [hnm] at h
      | some mm =>
        obtain ⟨km, rfl⟩ := asInt_nat hnm hzr
        simp only [hnm, Option.bind_some] at h
        split at h
        · rename_i hc
          obtain ⟨rfl, rfl, rfl, c4, hin⟩ := hc
          obtain ⟨inf, hinf⟩ := Option.isSome_iff_exists.1 hin
          cases h
          have hhi3 : ∃ k, zhi = some (.int k (0 : Nat)) := by
            obtain ⟨vh, rfl⟩ := Option.isSome_iff_exists.1 c4
            obtain ⟨yh, rfl, hyr⟩ := hhi vh rfl
            obtain ⟨k, rfl⟩ := asInt_nat (n := 0) (by simpa [bndI] using hb) hyr
            exact ⟨k, rfl⟩
          refine Done.pure hs (y := .slice none 0 0) ?_ .nil hk
          rw [hat _ hu]
          have hb3 := run_sliceBounds3 (P := P) (w := w) (len := 0) (cap := 0) (k'' := km) (run_bound ha hlo hlo') hhi3 (Nat.le_refl 0) (Nat.le_refl 0) (Nat.le_refl 0)
          simp at hb3
          simp [Instr.slice, run_underlying hu, hb3, run_sizeOf hinf]
        · cases h
  · rename_i e oid es off len hu
    split at h
    · rename_i hc
      obtain ⟨hes, hin⟩ := hc
      obtain ⟨inf, hinf⟩ := Option.isSome_iff_exists.1 hin
      simp only [Option.bind_eq_some_iff] at h
      obtain ⟨a, ha, b, hb, h⟩ := h
      have hy : ∃ bb o cap, y = .slice (some ⟨bb, o, none⟩) len cap ∧ G.loc oid = some bb ∧ len ≤ cap ∧ ((off + cap) * es = G.sz oid ∧ o = off * es ∨ (len = 0 ∧ cap = 0)) := by
        cases hx with
        | ar hl hc hn => exact ⟨_, _, _, rfl, hl, hn, .inl ⟨hc, rfl⟩⟩
        | ar0 hl => exact ⟨_, _, _, rfl, hl, Nat.le_refl _, .inr ⟨rfl, rfl⟩⟩
      obtain ⟨bb, o, cap, rfl, hl, hlc, hor⟩ := hy
      cases mx with
      | none =>
        have hzm : zmx = none := hmx' rfl
        subst hzm
        simp only [] at h
        split at h
        · rename_i hc
          cases h
          refine Done.pure hs (y := .slice (if cap = a then some ⟨bb, o, none⟩ else (some ⟨bb, o, none⟩ : Option Addr).map (·.add (a * szI P e))) (b - a) (cap - a)) ?_ ?_ hk
          · rw [hat _ hu]
            simp [Instr.slice, run_underlying hu, run_sliceBounds (P := P) (isSlice := true) (len := len) (cap := cap) (run_bound ha hlo hlo') (run_bound hb hhi hhi') hc.1 (by omega), run_sizeOf hinf]
          · by_cases hca : cap = a
            · have h1 : b - a = 0 := by omega
              have h2 : cap - a = 0 := by omega
              rw [h1, h2, if_pos hca]; exact .ar0 hl
            · rcases hor with ⟨h1, rfl⟩ | ⟨h1, h2⟩
              · simp only [hca, if_false, Option.map_some, addr_add, ← hes]
                rw [← Nat.add_mul]
                exact .ar hl (by rw [← h1]; congr 1; omega) (by omega)
              · omega
        · cases h
      | some m =>
        obtain ⟨zm, rfl, hzr⟩ := hmx m rfl
        simp only [] at h
        cases hnm : natI m with
        | none => simp [hnm] at h
        | some mm =>
          obtain ⟨km, rfl⟩ := asInt_nat hnm hzr
          simp only [hnm, Option.bind_some] at h
          split at h
          · rename_i hc
            obtain ⟨c1, rfl, c3, c4⟩ := hc
            cases h
            have hhi3 : ∃ k, zhi = some (.int k b) := by
              obtain ⟨vh, rfl⟩ := Option.isSome_iff_exists.1 c4
              obtain ⟨yh, rfl, hyr⟩ := hhi vh rfl
              obtain ⟨k, rfl⟩ := asInt_nat (n := b) (by simpa [bndI] using hb) hyr
              exact ⟨k, rfl⟩
            refine Done.pure hs (y := .slice (if b = a then some ⟨bb, o, none⟩ else (some ⟨bb, o, none⟩ : Option Addr).map (·.add (a * szI P e))) (b - a) (b - a)) ?_ ?_ hk
            · rw [hat _ hu]
              simp [Instr.slice, run_underlying hu, run_sliceBounds3 (P := P) (len := len) (cap := cap) (k'' := km) (run_bound ha hlo hlo') hhi3 c1 (Nat.le_refl _) (by omega), run_sizeOf hinf]
            · by_cases hca : b = a
              · have h1 : b - a = 0 := by omega
                rw [h1, if_pos hca]; exact .cl0 hl
              · rcases hor with ⟨h1, rfl⟩ | ⟨h1, h2⟩
                · simp only [hca, if_false, Option.map_some, addr_add, ← hes]
                  rw [← Nat.add_mul]
                  exact .cl hl
                · omega
          · cases h
    · cases h
  · rename_i e oid es off len hu
    split at h
    · cases h
    · rename_i hm
      have hzm : zmx = none := hmx' (by simpa using hm)
      subst hzm
      split at h
      · rename_i hc
        obtain ⟨hes, hin⟩ := hc
        obtain ⟨inf, hinf⟩ := Option.isSome_iff_exists.1 hin
        simp only [Option.bind_eq_some_iff] at h
        obtain ⟨a, ha, b, hb, h⟩ := h
        split at h
        · rename_i hc
          obtain ⟨c1, rfl⟩ := hc
          cases h
          have hy : ∃ bb o, y = .slice (some ⟨bb, o, none⟩) b b ∧ G.loc oid = some bb ∧ (o = off * es ∨ b = 0) := by
            cases hx with
            | cl hl => exact ⟨_, _, rfl, hl, .inl rfl⟩
            | cl0 hl => exact ⟨_, _, rfl, hl, .inr rfl⟩
          obtain ⟨bb, o, rfl, hl, hor⟩ := hy
          refine Done.pure hs (y := .slice (if b = a then some ⟨bb, o, none⟩ else (some ⟨bb, o, none⟩ : Option Addr).map (·.add (a * szI P e))) (b - a) (b - a)) ?_ ?_ hk
          · rw [hat _ hu]
            simp [Instr.slice, run_underlying hu, run_sliceBounds (P := P) (isSlice := true) (len := b) (cap := b) (run_bound ha hlo hlo') (run_bound hb hhi hhi') c1 (Nat.le_refl _), run_sizeOf hinf]
          · by_cases hca : b = a
            · have h1 : b - a = 0 := by omega
              rw [h1, if_pos hca]; exact .cl0 hl
            · rcases hor with rfl | h1
              · simp only [hca, if_false, Option.map_some, addr_add, ← hes]
                rw [← Nat.add_mul]
                exact .cl hl
              · omega
        · cases h
      · cases h
  · cases h
end
end Go.IL

/- The ideal meaning of operations is sound, part 4: those that make or write memory. -/
namespace Go.IL
open Go

section
variable {P : Program} {G : Ghost} {H : Heap} {nx : Nat} {w : World} {id : Nat} {K : V → Heap → Prop}

theorem one_value {v : V} {y : Value} (h : Rep G v y) (hv : v.one = true) : y.oneCell' = true ∧ v.cells = [v] := by
  cases h <;> simp [V.one] at hv <;> first | exact ⟨rfl, rfl⟩ | exact ⟨hv, rfl⟩
theorem cells_one {y : Value} (h : y.oneCell' = true) : y.cells = #[y] := by
  cases y <;> first | rfl | simp [Value.oneCell'] at h
theorem shown_cells {v : V} {y : Value} (h : Rep G v y) (hv : v.shown = true) :
    y.cells.size = v.cells.length ∧ (∀ (j : Nat) u z, v.cells[j]? = some u → y.cells[j]? = some z → Rep G u z) ∧ ∀ (j : Nat) z, y.cells[j]? = some z → z.oneCell' = true := by
  by_cases ho : v.one = true
  · obtain ⟨h1, h2⟩ := one_value h ho
    rw [cells_one h1, h2]
    refine ⟨rfl, ?_, ?_⟩
    · intro j u z hu hz
      cases j with
      | zero => simp at hu hz; subst hu hz; exact h
      | succ j => simp at hu
    · intro j z hz
      cases j with
      | zero => simp at hz; subst hz; exact h1
      | succ j => simp at hz
  · cases h with
    | agg ys hn h1 hr => exact ⟨hn, hr, h1⟩
    | _ => simp_all [V.shown, V.one]

theorem sim_new (hs : Sim G H nx w) (hid : G.loc id = none) (hlt : id < nx) (arr : Array Value) (T : TypeId) (es : Nat) (xs : List V) (htg : tagged id T) (h3 : xs.length * es ≤ arr.size)
    (h1 : ∀ (j : Nat) y, arr[j]? = some y → y.oneCell' = true) (h4 : ∀ (k : Nat) x, xs[k]? = some x → x.cells.length = es)
    (h5 : ∀ (k j : Nat) x v y, xs[k]? = some x → x.cells[j]? = some v → arr[k * es + j]? = some y → Rep G v y) :
    Sim (G.put id w.heap.size arr.size) (H.set id (.mem es xs)) nx (w.alloc (.cells arr T)) ∧ Ext G H w (G.put id w.heap.size arr.size) (H.set id (.mem es xs)) (w.alloc (.cells arr T)) :=
  hs.alloc hid hlt _ _ (by intro m l e; cases e) ⟨arr, T, add_new w _, htg, by simp [Ghost.put], h3, h1, h4, fun k j x v y a b c => (h5 k j x v y a b c).mono (Ghost.le_put hid)⟩

/-- A new variable that holds a value. -/
theorem snd_newVar (hs : Sim G H nx w) (hid : G.loc id = none) (hlt : id < nx) {t : TypeId} (htg : tagged id t) {v : V} {y : Value} (hr : Rep G v y) (hv : v.shown = true)
    (hk : K (.ptr id v.cells.length 0 0) (H.set id (.mem v.cells.length [v]))) : Done P (do pure (.pointer (some (← newVar t y)))) G H nx w id K := by
  obtain ⟨c1, c2, c3⟩ := shown_cells hr hv
  obtain ⟨s1, s2⟩ := sim_new hs hid hlt y.cells t v.cells.length [v] htg (by simp [c1]) c3 (by intro k x hx; cases k <;> simp at hx; subst hx; rfl)
    (by intro k j x u z hx hu hz; cases k with
        | zero => simp at hx hz; subst hx; exact c2 j u z hu hz
        | succ k => simp at hx)
  refine ⟨.pointer (some ⟨w.heap.size, 0, none⟩), _, _, _, _, ?_, s2, s1, ?_, hk, ?_⟩
  · simp [newVar, newRow]
  · have := Rep.ptr (G := G.put id w.heap.size y.cells.size) (id := id) (es := v.cells.length) (k := 0) (j := 0) (b := w.heap.size) (by simp [Ghost.put])
    simpa using this
  · intro i hi e
    simp [Ghost.put, hi, e]

theorem ofVal_shown {z : Value} (h : z.cells.all (·.oneCell') = true) : (ofVal z).shown = true ∧ (ofVal z).cells.length = z.cells.size := by
  unfold ofVal
  split
  · rename_i cs
    simp [V.shown, V.cells, Value.cells]
  · rename_i hz
    have h1 : z.cells = #[z] := by cases z <;> first | rfl | exact (hz _ rfl).elim
    rw [h1] at h ⊢
    simp at h
    unfold ofScalar
    split <;> simp_all [V.shown, V.one, V.cells, Value.oneCell']

theorem snd_alloc (hs : Sim G H nx w) (hid : G.loc id = none) (hlt : id < nx) {t : TypeId} (htg : tagged id t) {z : Value} (hz : zeroI P t = some z) (ho : z.cells.all (·.oneCell') = true)
    (hk : K (.ptr id z.cells.size 0 0) (H.set id (.mem z.cells.size [ofVal z]))) : Done P (Instr.alloc t true (.tuple #[])) G H nx w id K := by
  obtain ⟨h1, h2⟩ := ofVal_shown ho
  have := snd_newVar (P := P) (t := t) hs hid hlt htg (rep_ofVal G z ho) h1 (by rw [h2]; exact hk)
  obtain ⟨y, w', G', v, H', e, rest⟩ := this
  refine ⟨y, w', G', v, H', ?_, rest⟩
  unfold zeroI at hz
  cases hi : P.info? t with
  | none => simp [hi] at hz
  | some i =>
    simp [hi] at hz
    rw [← e]
    simp [Instr.alloc, zeroValue, typeInfo, hi, hz]

theorem splice_get {α : Type} (l m : List α) (A : Nat) (h : A + m.length ≤ l.length) (i : Nat) :
    (l.take A ++ m ++ l.drop (A + m.length))[i]? = if i < A then l[i]? else if i < A + m.length then m[i - A]? else l[i]? := by
  have hA : (l.take A).length = A := by simp; omega
  by_cases h1 : i < A
  · rw [if_pos h1, List.append_assoc, List.getElem?_append_left (by omega), List.getElem?_take, if_pos h1]
  · rw [if_neg h1]
    by_cases h2 : i < A + m.length
    · rw [if_pos h2, List.getElem?_append_left (by rw [List.length_append, hA]; exact h2), List.getElem?_append_right (by omega), hA]
    · rw [if_neg h2, List.getElem?_append_right (by rw [List.length_append, hA]; omega), List.length_append, hA, List.getElem?_drop]
      congr 1; omega
theorem splice_cells {x v : V} {j : Nat} (h : j + v.cells.length ≤ x.cells.length) (h0 : 0 < v.cells.length) :
    (x.splice j v).cells = x.cells.take j ++ v.cells ++ x.cells.drop (j + v.cells.length) := by
  have other : x.cells = [x] → v.cells = x.cells.take j ++ v.cells ++ x.cells.drop (j + v.cells.length) := by
    intro e
    rw [e] at h ⊢
    simp at h
    have hj : j = 0 := by omega
    subst hj
    have : v.cells.length = 1 := by omega
    simp [this]
  cases x <;> first | rfl | exact other rfl
theorem row_sep {k k2 es j2 : Nat} (h : k2 ≠ k) (hj : j2 < es) : k2 * es + j2 < k * es ∨ (k + 1) * es ≤ k2 * es + j2 := by
  rcases Nat.lt_or_gt_of_ne h with h | h
  · left
    have : (k2 + 1) * es ≤ k * es := Nat.mul_le_mul_right _ h
    rw [Nat.add_mul, Nat.one_mul] at this
    omega
  · right
    have : (k + 1) * es ≤ k2 * es := Nat.mul_le_mul_right _ h
    omega

theorem snd_store (hs : Sim G H nx w) {t : TypeId} {a v : V} {y z : Value} {H' : Heap} (h : storeI P H t a v = some H') (ha : Rep G a y) (hv : Rep G v z) :
    ∃ w', (Instr.storeAt t y z).run P w = .ok () w' ∧ Ext G H w G H' w' ∧ Sim G H' nx w' := by
  cases a with
  | ptr oid es k j =>
    simp only [storeI] at h
    cases hh : H oid with
    | mem es' xs =>
      simp only [hh] at h
      split at h
      · rename_i hes
        subst hes
        cases hx : xs[k]? with
        | none => simp [hx] at h
        | some x =>
          simp only [hx, Option.bind_some] at h
          split at h
          · rename_i hc
            simp only [Bool.and_eq_true, beq_iff_eq, decide_eq_true_eq] at hc
            obtain ⟨⟨⟨hsh, hsz⟩, h0⟩, hle⟩ := hc
            cases h
            obtain ⟨b, rfl, hloc⟩ := rep_ptr ha
            obtain ⟨b', e1, e2, e3⟩ := hs.obj oid (by simp [hh])
            rw [hloc] at e1; cases e1
            rw [hh] at e3
            obtain ⟨arr, T, h1, ht, h2, h3, h3', h4, h5⟩ := e3
            obtain ⟨c1, c2, c3⟩ := shown_cells hv hsh
            have hkl : k < xs.length := (List.getElem?_eq_some_iff.1 hx).1
            have hxl := h4 k x hx
            have hbound : (k + 1) * es' ≤ xs.length * es' := Nat.mul_le_mul_right _ hkl
            rw [Nat.add_mul, Nat.one_mul] at hbound
            obtain ⟨i, hi⟩ := info_of_sz (P := P) (t := t) (by omega)
            have hst := run_storeCells_at P b (k * es' + j) T z.cells.toList 0 arr w h1 (by simp; omega) (by
              intro u hu
              obtain ⟨q, hq⟩ := List.mem_iff_getElem?.1 hu
              exact c3 q u (by rw [← Array.getElem?_toList]; exact hq))
            simp only [Nat.add_zero] at hst
            have hfit : k * es' + j + z.cells.toList.length ≤ arr.toList.length := by simp; omega
            have hg := splice_get arr.toList z.cells.toList (k * es' + j) hfit
            have hzl : z.cells.toList.length = v.cells.length := by simpa using c1
            have hw := hs.write (ob := .mem es' (xs.set k (x.splice j v))) (hit := by intro m l e; cases e) hh hloc (arr.toList.take (k * es' + j) ++ z.cells.toList ++ arr.toList.drop (k * es' + j + z.cells.toList.length)).toArray ?_
            · refine ⟨_, ?_, hw.2, hw.1⟩
              simp only [Instr.storeAt, Instr.sureAddr, storeVar, Sem.run_bind, Sem.run_pure, Result.andThen_ok, run_sizeOf hi]
              rw [if_neg (by omega)]
              simpa using hst
            · refine ⟨_, T, setRow_heap w b arr _ T (0, 0) h1, ht, ?_, ?_, ?_, ?_, ?_⟩
              · rw [← h2]
                simp only [Array.length_toList] at hfit
                simp only [List.size_toArray, List.length_append, List.length_take, List.length_drop, Array.length_toList]
                omega
              · simp only [Array.length_toList] at hfit
                simp only [List.length_set, List.size_toArray, List.length_append, List.length_take, List.length_drop, Array.length_toList]
                omega
              · intro i y hy
                simp only [List.getElem?_toArray] at hy
                rw [hg] at hy
                split at hy
                · exact h3' i y (by simpa using hy)
                · split at hy
                  · exact c3 _ y (by rw [← Array.getElem?_toList]; exact hy)
                  · exact h3' i y (by simpa using hy)
              · intro k2 x2 hx2
                rw [List.getElem?_set] at hx2
                split at hx2
                · rename_i hkk
                  subst hkk
                  cases hx2
                  rw [splice_cells hle (by omega)]
                  simp only [List.length_append, List.length_take, List.length_drop]
                  omega
                · exact h4 k2 x2 hx2
              · intro k2 j2 x2 u q hx2 hu hq
                simp only [List.getElem?_toArray] at hq
                rw [hg] at hq
                rw [List.getElem?_set] at hx2
                split at hx2
                · rename_i hkk
                  subst hkk
                  cases hx2
                  rw [splice_cells hle (by omega), splice_get x.cells v.cells j hle] at hu
                  by_cases q1 : j2 < j
                  · rw [if_pos q1] at hu
                    rw [if_pos (by omega)] at hq
                    exact h5 k j2 x u q hx hu (by simpa using hq)
                  · rw [if_neg q1] at hu
                    rw [if_neg (by omega)] at hq
                    by_cases q2 : j2 < j + v.cells.length
                    · rw [if_pos q2] at hu
                      rw [if_pos (by omega), show k * es' + j2 - (k * es' + j) = j2 - j by omega, Array.getElem?_toList] at hq
                      exact c2 _ u q hu hq
                    · rw [if_neg q2] at hu
                      rw [if_neg (by omega)] at hq
                      exact h5 k j2 x u q hx hu (by simpa using hq)
                · rename_i hkk
                  have hj2 : j2 < es' := by rw [← h4 k2 x2 hx2]; exact (List.getElem?_eq_some_iff.1 hu).1
                  have hsep := row_sep (k := k) (k2 := k2) (es := es') (Ne.symm hkk) hj2
                  rw [Nat.add_mul, Nat.one_mul] at hsep
                  have : q = q := rfl
                  by_cases q1 : k2 * es' + j2 < k * es' + j
                  · rw [if_pos q1] at hq
                    exact h5 k2 j2 x2 u q hx2 hu (by simpa using hq)
                  · rw [if_neg q1, if_neg (by omega)] at hq
                    exact h5 k2 j2 x2 u q hx2 hu (by simpa using hq)
          · cases h
      · cases h
    | _ => simp [hh] at h
  | _ => simp [storeI] at h
end
end Go.IL
