import Derived.Test.YthdlaekahejdnaaGreatDoorKB
set_option linter.unusedVariables false
set_option linter.unusedSimpArgs false
/- Calls and operations as triples; their frames. -/
namespace Go.IL
open Go

/-- What lay there when all began lies there still. -/
structure Base (W0 : World) (G : Ghost) (w : World) : Prop where
  size : W0.heap.size ≤ w.heap.size
  loc : ∀ i b, G.loc i = some b → W0.heap.size ≤ b
  keep : ∀ b, b < W0.heap.size → w.heap[b]? = W0.heap[b]?
  os : w.os = W0.os
  out : w.output = W0.output
  tape : w.tape = W0.tape
  mono : G.mono = decide (W0.drawn = 1)
theorem Base.ext {W0 : World} {G G' : Ghost} {H H' : Heap} {w w' : World} (h : Base W0 G w) (e : Ext G H w G' H' w') : Base W0 G' w' where
  size := Nat.le_trans h.size e.size
  loc i b hb := by
    rcases e.base i b hb with ⟨j, hj⟩ | hj
    · exact h.loc j b hj
    · exact Nat.le_trans h.size hj
  keep b hb := by
    rw [e.keep b (Nat.lt_of_lt_of_le hb h.size) fun i _ hi => by have := h.loc i b hi; omega]
    exact h.keep b hb
  os := e.os.trans h.os
  out := e.out.trans h.out
  tape := e.tape.trans h.tape
  mono := e.le.mono.trans h.mono

def Post (G : Ghost) (H : Heap) (nx : Nat) (w : World) (R : V → Heap → Prop) (y : Value) (w' : World) : Prop :=
  ∃ v H' G' nx', nx ≤ nx' ∧ Ext G H w G' H' w' ∧ Sim G' H' nx' w' ∧ Rep G' v y ∧ R v H'
theorem Post.mono {G : Ghost} {H : Heap} {nx : Nat} {w w' : World} {R R' : V → Heap → Prop} {y : Value} (h : Post G H nx w R y w') (hr : ∀ v H', R v H' → R' v H') : Post G H nx w R' y w' := by
  obtain ⟨v, H', G', nx', a, b, c, d, e⟩ := h
  exact ⟨v, H', G', nx', a, b, c, d, hr v H' e⟩

def Callable (P : Program) (f : FuncId) : Prop := ∃ fn, P.funcs[f]? = some fn ∧ (fn.name == "runtime.NumGoroutine") = false ∧ fn.body.isNone = false

/-- Called with such arguments, the ideal heap so: it returns, and R holds of the result and the heap then. -/
def IT (P : Program) (W0 : World) (f : FuncId) (args : List V) (H : Heap) (R : V → Heap → Prop) : Prop :=
  Callable P f ∧ ∀ (G : Ghost) (nx : Nat) (w : World) (vals : Array Value), vals.size = args.length → (∀ (j : Nat) v y, args[j]? = some v → vals[j]? = some y → Rep G v y) → Base W0 G w → Sim G H nx w →
    Calls P f vals w fun e w' => ∃ y, e = .returned y ∧ Post G H nx w R y w'
theorem IT.mono {P : Program} {W0 : World} {f : FuncId} {args : List V} {H : Heap} {R R' : V → Heap → Prop} (h : IT P W0 f args H R) (hr : ∀ v H', R v H' → R' v H') : IT P W0 f args H R' :=
  ⟨h.1, fun G nx w vals a b c d => (h.2 G nx w vals a b c d).mono fun _ _ ⟨y, e, p⟩ => ⟨y, e, p.mono hr⟩⟩

/-- An operation, likewise. -/
def OT (P : Program) (W0 : World) (o : Oper) (ev : Operand → V) (H : Heap) (R : V → Heap → Prop) : Prop :=
  ∀ (G : Ghost) (nx : Nat) (w : World) (a : Act) (next : Act → World → Prop) (Q : Exit → Act → World → Prop), Base W0 G w → Sim G H nx w → (∀ x ∈ o.op.operands, Rep G (ev x) (a.eval x)) →
    (∀ y w', Post G H nx w R y w' → next (a.put o.dst y) w') → o.wp P a w next Q

section
variable {P : Program} {W0 : World} {o : Oper} {ev : Operand → V} {H : Heap} {R R' : V → Heap → Prop}

theorem OT.mono (h : OT P W0 o ev H R) (hr : ∀ v H', R v H' → R' v H') : OT P W0 o ev H R' :=
  fun G nx w a next Q h1 h2 h3 h4 => h G nx w a next Q h1 h2 h3 fun y w' hp => h4 y w' (hp.mono hr)

theorem fresh_dead {G : Ghost} {nx : Nat} {w : World} (hs : Sim G H nx w) : H nx = .dead ∧ G.loc nx = none := by
  have hl : G.loc nx = none := by
    cases hl : G.loc nx with
    | none => rfl
    | some b => exact (Nat.lt_irrefl _ (hs.lt nx b hl).1).elim
  refine ⟨?_, hl⟩
  cases hd : H nx with
  | dead => rfl
  | _ => obtain ⟨b, e, _⟩ := hs.obj nx (by simp [hd]); rw [hl] at e; cases e

theorem opE_congr {id : Nat} {ρ ρ' : Operand → V} {op : Op} {K : V → Heap → Prop} (hx : ∀ x ∈ op.operands, ρ x = ρ' x) (h : opE P H id ρ op K) : opE P H id ρ' op K := by
  unfold opE at h
  split at h <;> simp only [Op.operands, Call.operands] at hx
  all_goals (try simp only [opE])
  · exact h
  · rwa [← hx _ (by simp), ← hx _ (by simp)]
  · obtain ⟨q, i, kvs, r, hq, hm, hh, hf, hn, hk⟩ := h
    rw [hx _ (by simp)] at hm hf
    rw [hx _ (by simp)] at hk
    rw [hx _ (by simp)] at hk
    exact ⟨q, i, kvs, r, hq, hm, hh, hf, hn, hk⟩
  · rwa [← hx _ (by simp)]
  · rwa [← hx _ (by simp)]
  · rwa [← hx _ (by simp)]
  · obtain ⟨t, x, e, i, es, off, len, xs, ht, hx', he, hxv, hh, hc, hk⟩ := h
    rename_i args ts
    have m1 : x ∈ args := by rw [← Array.mem_toList_iff, hx']; simp
    exact ⟨t, x, e, i, es, off, len, xs, ht, hx', he, by rw [← hx x (by simpa using m1)]; exact hxv, hh, hc, hk⟩
  · obtain ⟨x, v, hx', hv, hk⟩ := h
    rename_i args ts
    have m1 : x ∈ args := by rw [← Array.mem_toList_iff, hx']; simp
    exact ⟨x, v, hx', by rw [← hx x (by simpa using m1)]; exact hv, hk⟩
  · obtain ⟨x, y, pt, it, p, hx', ht, hv, hk⟩ := h
    rename_i args ts
    have m1 : x ∈ args := by rw [← Array.mem_toList_iff, hx']; simp
    have m2 : y ∈ args := by rw [← Array.mem_toList_iff, hx']; simp
    exact ⟨x, y, pt, it, p, hx', ht, by rw [← hx x (by simpa using m1), ← hx y (by simpa using m2)]; exact hv, hk⟩
  · exact h.elim

theorem opI_congr {id : Nat} {ρ ρ' : Operand → V} {op : Op} {K : V → Heap → Prop} (hx : ∀ x ∈ op.operands, ρ x = ρ' x) (h : opI P H id ρ op K) : opI P H id ρ' op K := by
  have pairs : ∀ ps : Array (Nat × Operand), (∀ x ∈ (ps.toList.map (·.2)).toArray, ρ x = ρ' x) →
      (ps.toList.map fun p => (p.1, ρ p.2)) = (ps.toList.map fun p => (p.1, ρ' p.2)) ∧ (ps.toList.map fun p => ρ p.2) = (ps.toList.map fun p => ρ' p.2) := fun ps hp =>
    ⟨List.map_congr_left fun p hm => by rw [hp p.2 (by simp; exact ⟨p.1, by simpa using hm⟩)], List.map_congr_left fun p hm => hp p.2 (by simp; exact ⟨p.1, by simpa using hm⟩)⟩
  unfold opI at h
  split at h <;> simp only [Op.operands, Call.operands] at hx
  all_goals (try simp only [opI])
  · rwa [← hx _ (by simp)]
  · rwa [← hx _ (by simp)]
  · rwa [← hx _ (by simp), ← hx _ (by simp), ← hx _ (by simp)]
  · exact h
  · rwa [← hx _ (by simp)]
  · rw [← (pairs _ hx).1]; exact h
  · rw [← (pairs _ hx).2]; exact h
  · rwa [← hx _ (by simp)]
  · rwa [← hx _ (by simp), ← hx _ (by simp)]
  · rwa [← hx _ (by simp)]
  · rwa [← hx _ (by simp), ← hx _ (by simp)]
  · rwa [← hx _ (by simp)]
  · rwa [← hx _ (by simp)]
  · rwa [← hx _ (by simp)]
  · rwa [← hx _ (by simp)]
  · rwa [← hx _ (by simp), ← hx _ (by simp)]
  · rwa [← hx _ (by simp), ← hx _ (by simp)]
  · rename_i t x lo hi mx
    have om : ∀ z : Option Operand, (∀ x ∈ z.toArray, ρ x = ρ' x) → z.map ρ = z.map ρ' := by
      intro z hz
      cases z with
      | none => rfl
      | some x => simp [hz x (by simp)]
    rw [← hx x (by simp), ← om lo (fun x hm => hx x (by simp only [Array.mem_append]; exact .inl (.inl (.inr hm)))), ← om hi (fun x hm => hx x (by simp only [Array.mem_append]; exact .inl (.inr hm))),
      ← om mx (fun x hm => hx x (by simp only [Array.mem_append]; exact .inr hm))]
    exact h
  · rwa [← hx _ (by simp)]
  · rename_i f first cap
    have : cap.toList.map ρ = cap.toList.map ρ' := List.map_congr_left fun x hm => hx x (by simp only [Array.mem_append]; exact .inr (by simpa using hm))
    rw [← this]; exact h
  · obtain ⟨t, x, n, h1, h2, h3, h4⟩ := h
    exact ⟨t, x, n, h1, h2, by rw [← hx x (by simpa using Array.mem_of_getElem? h2)]; exact h3, h4⟩
  · obtain ⟨t, s, x, y, h1, h2, h3, h4⟩ := h
    rename_i args ts
    have m1 : x ∈ args := by rw [← Array.mem_toList_iff, h2]; simp
    have m2 : y ∈ args := by rw [← Array.mem_toList_iff, h2]; simp
    exact ⟨t, s, x, y, h1, h2, h3, by rw [← hx x (by simpa using m1), ← hx y (by simpa using m2)]; exact h4⟩
  · obtain ⟨x, y, k, a, b, h1, h2, h3, h4⟩ := h
    rename_i args ts
    have m1 : x ∈ args := by rw [← Array.mem_toList_iff, h1]; simp
    have m2 : y ∈ args := by rw [← Array.mem_toList_iff, h1]; simp
    exact ⟨x, y, k, a, b, h1, by rw [← hx x (by simpa using m1)]; exact h2, by rw [← hx y (by simpa using m2)]; exact h3, h4⟩
  · exact opE_congr (by simpa only [Op.operands, Call.operands] using hx) h

theorem tagN_congr {ρ ρ' : Operand → V} {op : Op} (hx : ∀ x ∈ op.operands, ρ x = ρ' x) : tagN P ρ op = tagN P ρ' op := by
  unfold tagN
  split
  · rfl
  · rename_i args ts
    simp only [Op.operands, Call.operands] at hx
    split
    · rename_i t s x y e1 e2
      have m1 : x ∈ args := by rw [← Array.mem_toList_iff, e2]; exact List.mem_cons_self
      rw [hx x (by simpa using m1)]
    · rfl
  · rfl
open Classical in
theorem OT.of_op (h : ∀ id, H id = .dead → tagP P ev o.op id → opI P H id ev o.op R) : OT P W0 o ev H R := by
  intro G nx w a next Q _ hs hr hn
  have hlt := tagN_lt P ev o.op
  let id := nx + (tagN P ev o.op + 4096 - nx % 4096) % 4096
  have hidn : nx ≤ id := Nat.le_add_right _ _
  have htg : id % 4096 = tagN P ev o.op := by
    show (nx + (tagN P ev o.op + 4096 - nx % 4096) % 4096) % 4096 = _
    omega
  obtain ⟨hd, hl⟩ := fresh_dead (hs.later hidn)
  have hcg : ∀ x ∈ o.op.operands, ev x = (fun x => if x ∈ o.op.operands then ev x else V.junk) x := fun x hx => by simp [hx]
  have h' : opI P H id (fun x => if x ∈ o.op.operands then ev x else .junk) o.op R := opI_congr hcg (h id hd (tagP_of htg))
  obtain ⟨nxt, y, w', G', v, H', h1, h2, h3, h4, h5, h6, -⟩ := opI_sound (hs.later (Nat.le_succ_of_le hidn)) hl (Nat.lt_succ_self id) (ρ' := a.eval) (fun x => by
    by_cases hx : x ∈ o.op.operands
    · simp only [hx, if_true]; exact hr x hx
    · simp only [hx, if_false]; exact .junk) (by rw [← tagN_congr hcg]; exact htg) h'
  have hp : Post G H nx w R y w' := ⟨v, H', G', id + 1, Nat.le_succ_of_le hidn, h3, h4, h5, h6⟩
  unfold Oper.wp
  rw [h1]
  rcases h2 with rfl | ⟨rfl, rfl⟩
  · exact hn _ _ hp
  · exact hn _ _ hp

theorem OT.congr {ev' : Operand → V} (h : OT P W0 o ev H R) (he : ∀ x ∈ o.op.operands, ev x = ev' x) : OT P W0 o ev' H R :=
  fun G nx w a next Q h1 h2 h3 h4 => h G nx w a next Q h1 h2 (fun x hx => by rw [he x hx]; exact h3 x hx) h4

theorem OT.of_call {g : Operand} {args : Array Operand} {ts : Array TypeId} {f : Nat} {cap : List V} (ho : o.op = .call { callee := .value g, args := args, argTypes := ts }) (hg : ev g = .fn f cap)
    (h : IT P W0 f (args.toList.map ev ++ cap) H R) : OT P W0 o ev H R := by
  intro G nx w a next Q hb hs hr hn
  obtain ⟨⟨fn, hf, hname, hbody⟩, hc⟩ := h
  have hgr := hr g (by simp [ho, Op.operands, Call.operands])
  rw [hg] at hgr
  generalize hv : a.eval g = gv at hgr
  cases hgr with
  | fn ys hn' hr' =>
    unfold Oper.wp
    have hrun : (execOp a.eval o).run P w = .ok (.enter f (args.map a.eval ++ ys)) w := by
      have n1 : ¬ fn.name = "runtime.NumGoroutine" := by simpa using hname
      have n2 : ¬ fn.body = none := by intro e; simp [e] at hbody
      simp [execOp, ho, resolve, hv, Deferred.ofValue, invoke, callFunc, hf, n1, n2]
    rw [hrun, Oper.upon_enter]
    refine (hc G nx w (args.map a.eval ++ ys) (by simp [hn']) ?_ hb hs).mono ?_
    · intro j v y hj hy
      by_cases hlt : j < args.size
      · rw [List.getElem?_append_left (by simpa using hlt)] at hj
        rw [Array.getElem?_append_left (by simpa using hlt)] at hy
        simp only [List.getElem?_map, Option.map_eq_some_iff] at hj
        simp only [Array.getElem?_map, Option.map_eq_some_iff] at hy
        obtain ⟨x, hx, rfl⟩ := hj
        obtain ⟨x', hx', rfl⟩ := hy
        rw [Array.getElem?_toList] at hx
        rw [hx] at hx'; cases hx'
        exact hr _ (by simp only [ho, Op.operands, Call.operands, Array.mem_append]; exact .inr (Array.mem_of_getElem? hx))
      · rw [List.getElem?_append_right (by simp; omega)] at hj
        rw [Array.getElem?_append_right (by simp; omega)] at hy
        simp only [List.length_map, Array.length_toList, Array.size_map] at hj hy
        exact hr' _ v y hj hy
    · rintro e w' ⟨y, rfl, hp⟩
      exact hn y w' hp

/-- What is live beside and not touched goes on living. -/
theorem Post.frame {G : Ghost} {nx : Nat} {w w' : World} {y : Value} {id es : Nat} {xs : List V} (hd : H id = .dead) (hs : Sim G (H.set id (.mem es xs)) nx w) (h : Post G H nx w R y w') :
    Post G (H.set id (.mem es xs)) nx w (fun v H'' => ∃ H', H'' = H'.set id (.mem es xs) ∧ H' id = .dead ∧ R v H') y w' := by
  obtain ⟨v, H', G', nx', h1, h2, h3, h4, h5⟩ := h
  obtain ⟨b, e1, e2, e3⟩ := hs.obj id (by simp)
  rw [Heap.set_same] at e3
  have hlt := (hs.lt id b e1).2
  have hnl : ∀ i, H i ≠ .dead → G.loc i ≠ some b := by
    intro i hi e
    have hii : i ≠ id := fun x => by subst x; exact hi hd
    exact hii (hs.inj i id b (by rw [Heap.set_ne _ _ hii]; exact hi) (by simp) e e1)
  have hkeep := h2.keep b hlt hnl
  have hd' := h2.stay id b e1 hd
  have hG' : G'.loc id = some b := h2.le.loc id b e1
  have himm : ∀ o, G'.imm b o = none := by
    intro o'
    cases hc : G'.imm b o' with
    | none => rfl
    | some v =>
      rcases h2.imm b o' v hc with e | ⟨j, hj, e⟩ | e
      · rw [e2 o'] at e; cases e
      · exact (hnl j hj e).elim
      · omega
  have hnl' : ∀ i, H' i ≠ .dead → G'.loc i ≠ some b := by
    intro i hi e
    rcases h2.new i b hi e with ⟨j, hj, e⟩ | e
    · exact hnl j hj e
    · omega
  refine ⟨v, H'.set id (.mem es xs), G', nx', h1, ?_, ⟨h3.imm, h3.lt, ?_, ?_, ?_⟩, h4, H', rfl, hd', h5⟩
  · refine ⟨h2.le, h2.size, ?_, ?_, ?_, ?_, h2.base, h2.os, h2.out, h2.tape, h2.drawn⟩
    · intro i c hi e
      by_cases hii : i = id
      · subst hii
        rw [hG'] at e; cases e
        exact .inl ⟨i, by simp, e1⟩
      · rw [Heap.set_ne _ _ hii] at hi
        rcases h2.new i c hi e with ⟨j, hj, e⟩ | e
        · have hjj : j ≠ id := fun x => by subst x; exact hj hd
          exact .inl ⟨j, by rw [Heap.set_ne _ _ hjj]; exact hj, e⟩
        · exact .inr e
    · intro c hc hn
      refine h2.keep c hc fun i hi => ?_
      have hii : i ≠ id := fun x => by subst x; exact hi hd
      exact hn i (by rw [Heap.set_ne _ _ hii]; exact hi)
    · intro i c e hdd
      have hii : i ≠ id := fun x => by subst x; simp at hdd
      rw [Heap.set_ne _ _ hii] at hdd ⊢
      exact h2.stay i c e hdd
    · intro c o' v e
      rcases h2.imm c o' v e with e | ⟨j, hj, e⟩ | e
      · exact .inl e
      · have hjj : j ≠ id := fun x => by subst x; exact hj hd
        exact .inr (.inl ⟨j, by rw [Heap.set_ne _ _ hjj]; exact hj, e⟩)
      · exact .inr (.inr e)
  · intro i hi
    by_cases hii : i = id
    · subst hii
      exact ⟨b, hG', himm, by rw [Heap.set_same]; exact e3.mono h2.le (h2.le.sz i b e1) hkeep (fun _ _ _ h => by cases h)⟩
    · rw [Heap.set_ne _ _ hii] at hi ⊢
      exact h3.obj i hi
  · intro i j c hi hj ei ej
    by_cases hii : i = id
    · by_cases hjj : j = id
      · rw [hii, hjj]
      · subst hii
        rw [hG'] at ei; cases ei
        rw [Heap.set_ne _ _ hjj] at hj
        exact (hnl' j hj ej).elim
    · rw [Heap.set_ne _ _ hii] at hi
      by_cases hjj : j = id
      · subst hjj
        rw [hG'] at ej; cases ej
        exact (hnl' i hi ei).elim
      · rw [Heap.set_ne _ _ hjj] at hj
        exact h3.inj i j c hi hj ei ej
  · intro i m l j c hi hj em ej
    have hii : i ≠ id := fun x => by subst x; simp at hi
    rw [Heap.set_ne _ _ hii] at hi
    by_cases hjj : j = id
    · subst hjj
      rw [hG'] at ej; cases ej
      obtain ⟨bi, f1, f2, f3⟩ := h3.obj i (by rw [hi]; simp)
      rw [hi] at f3
      obtain ⟨bm, es', cl, seen, g0, g1, g2, _⟩ := f3
      rw [em] at g0; cases g0
      obtain ⟨arr, T, q1, -⟩ := e3
      rw [hkeep, q1] at g2; cases g2
    · rw [Heap.set_ne _ _ hjj] at hj
      exact h3.itr i m l j c hi hj em ej

theorem Sim.without {G : Ghost} {nx : Nat} {w : World} {id : Nat} {ob : Obj} (hd : H id = .dead) (hs : Sim G (H.set id ob) nx w) : Sim G H nx w :=
  hs.forget fun i => by
    by_cases hii : i = id
    · subst hii; exact .inl hd
    · exact .inr (Heap.set_ne _ _ hii).symm
theorem OT.frame {id es : Nat} {xs : List V} (h : OT P W0 o ev H R) (hd : H id = .dead) :
    OT P W0 o ev (H.set id (.mem es xs)) fun v H'' => ∃ H', H'' = H'.set id (.mem es xs) ∧ H' id = .dead ∧ R v H' := by
  intro G nx w a next Q hb hs hr hn
  exact h G nx w a next Q hb (hs.without hd) hr fun y w' hp => hn y w' (hp.frame hd hs)
theorem IT.frame {f : FuncId} {args : List V} {id es : Nat} {xs : List V} (h : IT P W0 f args H R) (hd : H id = .dead) :
    IT P W0 f args (H.set id (.mem es xs)) fun v H'' => ∃ H', H'' = H'.set id (.mem es xs) ∧ H' id = .dead ∧ R v H' :=
  ⟨h.1, fun G nx w vals a b c hs => (h.2 G nx w vals a b c (hs.without hd)).mono fun _ _ ⟨y, e, p⟩ => ⟨y, e, p.frame hd hs⟩⟩
end
end Go.IL

/- Operations one behind the other: erased, by kinds, swapped. -/
namespace Go.IL
open Go

/-- An operation without its place and its edges; of its guard the slot, and what it must hold. -/
structure IOp where
  dst : Option Nat
  op : Op
  g : Option (Nat × Bool)

def slotOf (ops : Array Oper) (j : Nat) : Option Nat := (ops[j]?).bind (·.dst)
def eraseOp (ops : Array Oper) (o : Oper) : IOp := ⟨o.dst, o.op, o.guard.map fun p => ((slotOf ops p.1).getD 0, p.2)⟩
def put (fr : Nat → V) (d : Option Nat) (v : V) : Nat → V :=
  match d with
  | some d => fun t => if t = d then v else fr t
  | none => fr
/-- What a guard's slot yields: none: it isn't known. -/
def yv : V → Option (Option Bool)
  | .val (.bool b) => some (some b)
  | .val _ => some none
  | _ => none

section
variable (P : Program) (W0 : World)

/-- Which callees must be quiet. -/
abbrev Quiet := Nat → Bool
def quietO (q : Quiet) : Operand → Bool
  | .func f => q f
  | _ => q 4294967295
/-- One operation; q: which calls must be quiet. -/
def stepI (q : Quiet) (o : Op) (fr : Nat → V) (H : Heap) (K : V → Heap → Prop) : Prop :=
  match o with
  | .call { callee := .value g, args, .. } =>
    (match evI fr g with
    | .fn f cap =>
      if quietO q g = true then ∃ v, IT P W0 f (args.toList.map (evI fr) ++ cap) H (fun v' H' => v' = v ∧ H' = H) ∧ K v H
      else IT P W0 f (args.toList.map (evI fr) ++ cap) H K
    | _ => False)
  | .alloc t => ∀ id, H id = .dead → tagP P (evI fr) (.alloc t) id → opI P H id (evI fr) (.alloc t) K
  | .box t x => ∀ id, H id = .dead → opI P H id (evI fr) (.box t x) K
  | .buildSlice t n ps => ∀ id, H id = .dead → opI P H id (evI fr) (.buildSlice t n ps) K
  | .call { callee := .builtin .append, args, argTypes } => ∀ id, H id = .dead → tagP P (evI fr) (.call { callee := .builtin .append, args, argTypes }) id → opI P H id (evI fr) (.call { callee := .builtin .append, args, argTypes }) K
  | .makeMap t r => ∀ id, H id = .dead → opI P H id (evI fr) (.makeMap t r) K
  | .range t m => ∀ id, H id = .dead → opI P H id (evI fr) (.range t m) K
  | o => opI P H 0 (evI fr) o K

def G1 (q : Quiet) (o : IOp) (fr : Nat → V) (H : Heap) (K : (Nat → V) → Heap → Prop) : Prop :=
  match o.g with
  | none => stepI P W0 q o.op fr H fun v H' => K (put fr o.dst v) H'
  | some (s, want) =>
    match yv (fr s) with
    | some (some b) => if b = want then stepI P W0 q o.op fr H fun v H' => K (put fr o.dst v) H' else K (put fr o.dst (.val undef)) H
    | some none => K (put fr o.dst (.val undef)) H
    | none => False

def SL (q : Quiet) : List IOp → (Nat → V) → Heap → ((Nat → V) → Heap → Prop) → Prop
  | [], fr, H, K => K fr H
  | o :: l, fr, H, K => G1 P W0 q o fr H fun fr' H' => SL q l fr' H' K
end

inductive Kind where
  | M | F | Q | A | T
  deriving DecidableEq
def kindOf (P : Program) (q : Quiet) : Op → Kind
  | .move _ | .assign _ => .M
  | .pick .. | .nilCheck _ | .binOp .. | .unOp .. | .fieldAddr .. | .field .. | .indexAddr .. | .index .. | .slice .. | .extract .. | .build .. | .makeFunc .. => .F
  | .load .. => .Q
  | .convert s _ _ => if (elI P s).isSome then .Q else .F
  | .call { callee := .builtin .len, .. } => .Q
  | .lookup .. => .Q
  | .call { callee := .builtin .unsafeSliceData, .. } => .F
  | .call { callee := .builtin .min, .. } => .F
  | .call { callee := .value g, .. } => if quietO q g = true then .Q else .T
  | .alloc t => match zeroI P t with | some z => if z.cells.all (·.oneCell') && !bldT P t then .A else .T | none => .T
  | _ => .T

section
variable {P : Program} {W0 : World}

/-- What the kinds promise. -/
def SK (P : Program) (W0 : World) (k : Kind) (o : Oper) (ev : Operand → V) (H : Heap) (K : V → Heap → Prop) : Prop :=
  match k with
  | .M => ∃ z, (o.op = .move z ∨ o.op = .assign z) ∧ K (ev z) H
  | .F => ∃ v, (∀ H', OT P W0 o ev H' fun v' H'' => v' = v ∧ H'' = H') ∧ K v H
  | .Q => ∃ v, (OT P W0 o ev H fun v' H'' => v' = v ∧ H'' = H) ∧ K v H
  | .A => ∃ t z, o.op = .alloc t ∧ zeroI P t = some z ∧ z.cells.all (·.oneCell') = true ∧ ∀ id, H id = .dead → K (.ptr id z.cells.size 0 0) (H.set id (.mem z.cells.size [ofVal z]))
  | .T => OT P W0 o ev H K

theorem SK.ot {k : Kind} {o : Oper} {ev : Operand → V} {H : Heap} {K : V → Heap → Prop} (h : SK P W0 k o ev H K) : OT P W0 o ev H K := by
  cases k with
  | M =>
    obtain ⟨z, h1, h2⟩ := h
    refine .of_op fun id _ _ => ?_
    rcases h1 with h1 | h1 <;> rw [h1] <;> exact h2
  | F => obtain ⟨v, h1, h2⟩ := h; exact (h1 H).mono fun _ _ ⟨e, e'⟩ => by subst e e'; exact h2
  | Q => obtain ⟨v, h1, h2⟩ := h; exact h1.mono fun _ _ ⟨e, e'⟩ => by subst e e'; exact h2
  | A =>
    obtain ⟨t, z, h0, h1, h2, h3⟩ := h
    refine .of_op fun id hd _ => ?_
    rw [h0]
    exact ⟨z, h1, h2, h3 id hd⟩
  | T => exact h
theorem SK.mono {k : Kind} {o : Oper} {ev : Operand → V} {H : Heap} {K K' : V → Heap → Prop} (h : SK P W0 k o ev H K) (hk : ∀ v H', K v H' → K' v H') : SK P W0 k o ev H K' := by
  cases k with
  | M => obtain ⟨z, h1, h2⟩ := h; exact ⟨z, h1, hk _ _ h2⟩
  | F => obtain ⟨v, h1, h2⟩ := h; exact ⟨v, h1, hk _ _ h2⟩
  | Q => obtain ⟨v, h1, h2⟩ := h; exact ⟨v, h1, hk _ _ h2⟩
  | A => obtain ⟨t, z, h0, h1, h2, h3⟩ := h; exact ⟨t, z, h0, h1, h2, fun id hd => hk _ _ (h3 id hd)⟩
  | T => exact OT.mono h hk
theorem SK.congr {k : Kind} {o : Oper} {ev ev' : Operand → V} {H : Heap} {K : V → Heap → Prop} (h : SK P W0 k o ev H K) (he : ∀ x ∈ o.op.operands, ev x = ev' x) : SK P W0 k o ev' H K := by
  cases k with
  | M =>
    obtain ⟨z, h1, h2⟩ := h
    refine ⟨z, h1, ?_⟩
    rw [← he z (by rcases h1 with h1 | h1 <;> simp [h1, Op.operands])]; exact h2
  | F => obtain ⟨v, h1, h2⟩ := h; exact ⟨v, fun H' => (h1 H').congr he, h2⟩
  | Q => obtain ⟨v, h1, h2⟩ := h; exact ⟨v, h1.congr he, h2⟩
  | A => exact h
  | T => exact OT.congr h he

/-- An operation whose result hangs on its operands alone. -/
theorem opF {P : Program} {ρ : Operand → V} {o : Op} (hk : kindOf P (fun _ => true) o = .F) {H : Heap} {id : Nat} {K : V → Heap → Prop} (h : opI P H id ρ o K) :
    ∃ v, K v H ∧ ∀ H' id' (K' : V → Heap → Prop), K' v H' → opI P H' id' ρ o K' := by
  unfold opI at h
  split at h
  · cases hk
  · cases hk
  · obtain ⟨t, h1, h2⟩ := h; exact ⟨_, h2, fun _ _ _ h => ⟨t, h1, h⟩⟩
  · simp only [kindOf] at hk; split at hk <;> (try split at hk) <;> simp at hk
  · simp [kindOf] at hk
  · obtain ⟨z, cs, a, b, c, d, e⟩ := h; exact ⟨_, e, fun _ _ _ h => ⟨z, cs, a, b, c, d, h⟩⟩
  · simp [kindOf] at hk
  · simp [kindOf] at hk
  · simp [kindOf] at hk
  · obtain ⟨a, b⟩ := h; exact ⟨_, b, fun _ _ _ h => ⟨a, h⟩⟩
  · obtain ⟨v, a, b⟩ := h; exact ⟨_, b, fun _ _ _ h => ⟨v, a, h⟩⟩
  · obtain ⟨v, a, b⟩ := h; exact ⟨_, b, fun _ _ _ h => ⟨v, a, h⟩⟩
  · rename_i s d x
    obtain ⟨v, a, b⟩ := h
    have he : elI P s = none := by
      cases he : elI P s with
      | none => rfl
      | some e => simp [kindOf, he] at hk
    exact ⟨_, b, fun H' _ _ h => ⟨v, by unfold convX at a ⊢; rw [he] at a ⊢; exact a, h⟩⟩
  · obtain ⟨v, a, b⟩ := h; exact ⟨_, b, fun _ _ _ h => ⟨v, a, h⟩⟩
  · obtain ⟨v, a, b⟩ := h; exact ⟨_, b, fun _ _ _ h => ⟨v, a, h⟩⟩
  · obtain ⟨v, a, b⟩ := h; exact ⟨_, b, fun _ _ _ h => ⟨v, a, h⟩⟩
  · obtain ⟨v, a, b⟩ := h; exact ⟨_, b, fun _ _ _ h => ⟨v, a, h⟩⟩
  · obtain ⟨v, a, b⟩ := h; exact ⟨_, b, fun _ _ _ h => ⟨v, a, h⟩⟩
  · obtain ⟨vs, v, a, b, c⟩ := h; exact ⟨_, c, fun _ _ _ h => ⟨vs, v, a, b, h⟩⟩
  · obtain ⟨a, b⟩ := h; exact ⟨_, b, fun _ _ _ h => ⟨a, h⟩⟩
  · simp [kindOf] at hk
  · simp [kindOf] at hk
  · obtain ⟨x, y, k, a, b, c, d, e, f⟩ := h; exact ⟨_, f, fun _ _ _ h => ⟨x, y, k, a, b, c, d, e, h⟩⟩
  · unfold opE at h
    split at h
    · simp [kindOf] at hk
    · simp [kindOf] at hk
    · simp [kindOf] at hk
    · simp [kindOf] at hk
    · simp [kindOf] at hk
    · simp [kindOf] at hk
    · simp [kindOf] at hk
    · obtain ⟨x, v, a, b, c⟩ := h; exact ⟨v, c, fun _ _ _ h => ⟨x, v, a, b, h⟩⟩
    · simp [kindOf] at hk
    · exact h.elim

theorem opE_sk {q : Quiet} {o : Oper} {fr : Nat → V} {H : Heap} {K : V → Heap → Prop} (n1 : ∀ t r, o.op = .makeMap t r → False) (n2 : ∀ t m, o.op = .range t m → False) (h' : opE P H 0 (evI fr) o.op K) : SK P W0 (kindOf P q o.op) o (evI fr) H K := by
  obtain ⟨dst, op, type, pos, after, guard⟩ := o
  simp only at h' n1 n2 ⊢
  unfold opE at h'
  split at h'
  · exact (n1 _ _ rfl).elim
  · obtain ⟨v, a, b⟩ := h'
    exact ⟨v, .of_op fun id _ _ => ⟨v, a, rfl, rfl⟩, b⟩
  · exact OT.of_op fun id _ _ => h'
  · exact (n2 _ _ rfl).elim
  · exact OT.of_op fun id _ _ => h'
  · exact OT.of_op fun id _ _ => h'
  · exact OT.of_op fun id _ _ => h'
  · obtain ⟨x, v, a, b, c⟩ := h'
    exact ⟨v, fun H' => .of_op fun id _ _ => ⟨x, v, a, b, rfl, rfl⟩, c⟩
  · exact OT.of_op fun id _ _ => h'
  · exact h'.elim

theorem stepI_sk {q : Quiet} {o : Oper} {fr : Nat → V} {H : Heap} {K : V → Heap → Prop} (h : stepI P W0 q o.op fr H K) : SK P W0 (kindOf P q o.op) o (evI fr) H K := by
  obtain ⟨dst, op, type, pos, after, guard⟩ := o
  simp only at h ⊢
  have fm : kindOf P (fun _ => true) op = .F → opI P H 0 (evI fr) op K → ∃ v, (∀ H', OT P W0 ⟨dst, op, type, pos, after, guard⟩ (evI fr) H' fun v' H'' => v' = v ∧ H'' = H') ∧ K v H := by
    intro hk h
    obtain ⟨v, h1, h2⟩ := opF hk h
    exact ⟨v, fun H' => .of_op fun id _ _ => h2 H' id _ ⟨rfl, rfl⟩, h1⟩
  unfold stepI at h
  split at h
  · rename_i g args ts
    split at h
    · rename_i f cap hg
      simp only [kindOf]
      by_cases hq : quietO q g = true
      · rw [if_pos hq] at h ⊢
        obtain ⟨v, h1, h2⟩ := h
        exact ⟨v, .of_call rfl hg h1, h2⟩
      · rw [if_neg hq] at h ⊢
        exact OT.of_call rfl hg h
    · exact h.elim
  · rename_i t
    simp only [kindOf]
    cases hz : zeroI P t with
    | none => exact OT.of_op h
    | some z =>
      simp only []
      by_cases ho' : (z.cells.all (·.oneCell') && !bldT P t) = true
      · rw [if_pos ho']
        simp only [Bool.and_eq_true, Bool.not_eq_true'] at ho'
        obtain ⟨ho, hbt⟩ := ho'
        refine ⟨t, z, rfl, hz, ho, fun id hd => ?_⟩
        obtain ⟨z', e1, e2, e3⟩ := h id hd (fun e => by rw [hbt] at e; cases e)
        rw [hz] at e1; cases e1
        exact e3
      · rw [if_neg ho']; exact OT.of_op h
  · exact OT.of_op fun id hd _ => h id hd
  · exact OT.of_op fun id hd _ => h id hd
  · exact OT.of_op h
  · exact OT.of_op fun id hd _ => h id hd
  · exact OT.of_op fun id hd _ => h id hd
  · have h0 := h
    unfold opI at h
    split at h
    · exact ⟨_, .inl rfl, h⟩
    · exact ⟨_, .inr rfl, h⟩
    · exact fm rfl h0
    · rename_i n1 n2 n3 n4 n5 n6 n7; exact (n2 _ rfl).elim
    · rename_i n1 n2 n3 n4 n5 n6 n7; exact (n3 _ _ rfl).elim
    · exact fm rfl h0
    · rename_i n1 n2 n3 n4 n5 n6 n7; exact (n4 _ _ _ rfl).elim
    · obtain ⟨v, a, b⟩ := h; exact ⟨v, .of_op fun id _ _ => ⟨v, a, rfl, rfl⟩, b⟩
    · obtain ⟨H', a, b⟩ := h; exact OT.of_op fun id _ _ => ⟨H', a, b⟩
    · exact fm rfl h0
    · exact fm rfl h0
    · exact fm rfl h0
    · rename_i s d x _ _ _ _ _ _ _
      cases he : elI P s with
      | none =>
        have hk : kindOf P (fun _ => true) (.convert s d x) = .F := by simp [kindOf, he]
        have hk' : kindOf P q (.convert s d x) = .F := by simp [kindOf, he]
        rw [hk']
        exact fm hk h0
      | some e =>
        have hk' : kindOf P q (.convert s d x) = .Q := by simp [kindOf, he]
        rw [hk']
        obtain ⟨v, a, b⟩ := h
        exact ⟨v, .of_op fun id _ _ => ⟨v, a, rfl, rfl⟩, b⟩
    · exact fm rfl h0
    · exact fm rfl h0
    · exact fm rfl h0
    · exact fm rfl h0
    · exact fm rfl h0
    · exact fm rfl h0
    · exact fm rfl h0
    · obtain ⟨t, x, n, a, b, c, d⟩ := h
      exact ⟨_, .of_op fun id _ _ => ⟨t, x, n, a, b, c, rfl, rfl⟩, d⟩
    · rename_i n1 n2 n3 n4 n5 n6 n7; exact (n5 _ _ rfl).elim
    · exact fm rfl h0
    · exact opE_sk (o := ⟨dst, op, type, pos, after, guard⟩) ‹∀ (t : TypeId) (r : Option Operand), op = Op.makeMap t r → False› ‹∀ (t : TypeId) (m : Operand), op = Op.range t m → False› h

theorem ev_put {ops : Array Oper} {o : Oper} {fr : Nat → V} {d : Option Nat} {v : V} (h : ∀ t, d = some t → t ∉ o.looksAt ops) : ∀ x ∈ o.op.operands, evI (put fr d v) x = evI fr x := by
  intro x hx
  cases x with
  | tmp t =>
    cases d with
    | none => rfl
    | some d =>
      have hne : t ≠ d := by
        intro e
        subst e
        refine h t rfl ?_
        unfold Oper.looksAt
        refine List.mem_append.2 (.inl (List.mem_filterMap.2 ⟨.tmp t, by simpa using hx, rfl⟩))
      simp [evI, put, hne]
  | _ => rfl
theorem put_put (fr : Nat → V) {d e : Option Nat} (v u : V) (h : ∀ t, d = some t → e ≠ some t) : put (put fr d v) e u = put (put fr e u) d v := by
  cases d with
  | none => rfl
  | some d =>
    cases e with
    | none => rfl
    | some e =>
      have hne : d ≠ e := fun x => h d rfl (x ▸ rfl)
      funext t
      simp only [put]
      by_cases h1 : t = e
      · subst h1; simp [Ne.symm hne]
      · simp [h1]

/-- Guards name operations that have a slot. -/
def guardOk (ops : Array Oper) (o : Oper) : Bool :=
  match o.guard with
  | none => true
  | some (j, _) => (slotOf ops j).isSome

/-- Is it done? none: it isn't known. -/
def stat (ops : Array Oper) (o : Oper) (fr : Nat → V) : Option Bool :=
  match (eraseOp ops o).g with
  | none => some true
  | some (s, want) =>
    match yv (fr s) with
    | some (some b) => some (b == want)
    | some none => some false
    | none => none
/-- One operation under its guard, by its kind. -/
def GK (P : Program) (W0 : World) (k : Kind) (ops : Array Oper) (o : Oper) (fr : Nat → V) (H : Heap) (K : (Nat → V) → Heap → Prop) : Prop :=
  match stat ops o fr with
  | some true => SK P W0 k o (evI fr) H fun v H' => K (put fr o.dst v) H'
  | some false => K (put fr o.dst (.val undef)) H
  | none => False
theorem G1.gk {q : Quiet} {ops : Array Oper} {o : Oper} {fr : Nat → V} {H : Heap} {K : (Nat → V) → Heap → Prop} (h : G1 P W0 q (eraseOp ops o) fr H K) : GK P W0 (kindOf P q o.op) ops o fr H K := by
  cases hg : (eraseOp ops o).g with
  | none =>
    have hst : stat ops o fr = some true := by unfold stat; rw [hg]
    unfold G1 at h
    unfold GK
    rw [hg] at h
    rw [hst]
    exact stepI_sk h
  | some p =>
    obtain ⟨s, want⟩ := p
    unfold G1 at h
    rw [hg] at h
    simp only at h
    have hst : stat ops o fr = match yv (fr s) with | some (some b) => some (b == want) | some none => some false | none => none := by unfold stat; rw [hg]
    unfold GK
    rw [hst]
    split at h
    · rename_i b hy
      by_cases hb : b = want
      · rw [if_pos hb] at h; simp only [hb, beq_self_eq_true]; exact stepI_sk h
      · rw [if_neg hb] at h; simp only [beq_eq_false_iff_ne.2 hb]; exact h
    · exact h
    · exact h.elim

theorem guard_slot {ops : Array Oper} {o : Oper} {s : Nat} {want : Bool} (hok : guardOk ops o = true) (h : (eraseOp ops o).g = some (s, want)) : s ∈ o.looksAt ops ∧ ∃ j, o.guard = some (j, want) ∧ slotOf ops j = some s := by
  unfold guardOk at hok
  unfold eraseOp at h
  cases hg : o.guard with
  | none => simp [hg] at h
  | some p =>
    obtain ⟨j, w⟩ := p
    simp only [hg] at hok h
    obtain ⟨t, ht⟩ := Option.isSome_iff_exists.1 hok
    simp [ht] at h
    obtain ⟨rfl, rfl⟩ := h
    refine ⟨?_, j, rfl, ht⟩
    unfold Oper.looksAt
    refine List.mem_append.2 (.inr ?_)
    unfold slotOf at ht
    simp [hg, ht]
theorem stat_put {ops : Array Oper} {o : Oper} {fr : Nat → V} {d : Option Nat} {v : V} (hok : guardOk ops o = true) (h1 : ∀ t, d = some t → t ∉ o.looksAt ops) : stat ops o (put fr d v) = stat ops o fr := by
  unfold stat
  split
  · rfl
  · rename_i s want hg
    have hs := (guard_slot hok hg).1
    have hfr : (put fr d v) s = fr s := by
      cases d with
      | none => rfl
      | some d =>
        have hne : s ≠ d := fun e => h1 d rfl (e ▸ hs)
        simp [put, hne]
    rw [hfr]

theorem GK.mono {k : Kind} {ops : Array Oper} {o : Oper} {fr : Nat → V} {H : Heap} {K K' : (Nat → V) → Heap → Prop} (h : GK P W0 k ops o fr H K) (hk : ∀ v H', K (put fr o.dst v) H' → K' (put fr o.dst v) H') : GK P W0 k ops o fr H K' := by
  unfold GK at *
  split at h
  · exact SK.mono h fun v H' e => hk v H' e
  · exact hk _ _ h
  · exact h.elim
/-- A slot beside is written beforehand or behind. -/
theorem GK.after {k : Kind} {ops : Array Oper} {o : Oper} {fr : Nat → V} {H : Heap} {K : (Nat → V) → Heap → Prop} {d : Option Nat} {v : V} (hok : guardOk ops o = true) (h1 : ∀ t, d = some t → t ∉ o.looksAt ops) (h2 : ∀ t, d = some t → o.dst ≠ some t)
    (h : GK P W0 k ops o (put fr d v) H K) : GK P W0 k ops o fr H fun fr1 H1 => K (put fr1 d v) H1 := by
  have hpp : ∀ u, put (put fr d v) o.dst u = put (put fr o.dst u) d v := fun u => put_put fr v u h2
  unfold GK at *
  rw [stat_put hok h1] at h
  split at h
  · exact (SK.congr h (ev_put h1)).mono fun u H' e => by dsimp only; rw [← hpp]; exact e
  · show K (put (put fr o.dst (.val undef)) d v) H; rw [← hpp]; exact h
  · exact h.elim
theorem GK.before {k : Kind} {ops : Array Oper} {o : Oper} {fr : Nat → V} {H : Heap} {K : (Nat → V) → Heap → Prop} {d : Option Nat} {v : V} (hok : guardOk ops o = true) (h1 : ∀ t, d = some t → t ∉ o.looksAt ops) (h2 : ∀ t, d = some t → o.dst ≠ some t)
    (h : GK P W0 k ops o fr H fun fr1 H1 => K (put fr1 d v) H1) : GK P W0 k ops o (put fr d v) H K := by
  have hpp : ∀ u, put (put fr d v) o.dst u = put (put fr o.dst u) d v := fun u => put_put fr v u h2
  unfold GK at *
  rw [stat_put hok h1]
  split at h
  · exact (SK.congr h fun x hx => (ev_put (fr := fr) (v := v) h1 x hx).symm).mono fun u H' e => by rw [hpp]; exact e
  · show K (put (put fr d v) o.dst (.val undef)) H; rw [hpp]; exact h
  · exact h.elim

def okPair (P : Program) (q : Quiet) (ops : Array Oper) (y x : Oper) : Bool :=
  y.apart ops x &&
  match kindOf P q y.op, kindOf P q x.op with
  | .M, _ | .F, _ => true
  | .Q, .M | .Q, .F | .Q, .Q | .Q, .A => true
  | .T, .M | .A, .M | .T, .A | .A, .A => x.guard.isNone
  | _, _ => false

theorem set_set (H : Heap) {i j : Nat} (h : i ≠ j) (a b : Obj) : (H.set i a).set j b = (H.set j b).set i a := by
  funext k
  simp only [Heap.set]
  by_cases h1 : k = j
  · subst h1; simp [Ne.symm h]
  · simp [h1]

theorem kind_M {q : Quiet} {o : Op} (h : kindOf P q o = .M) : ∃ z, o = .move z ∨ o = .assign z := by
  unfold kindOf at h
  split at h <;> first | exact ⟨_, .inl rfl⟩ | exact ⟨_, .inr rfl⟩ | (cases h; done) | skip
  · split at h <;> cases h
  · split at h <;> cases h
  · split at h
    · split at h <;> cases h
    · cases h
theorem kind_A {q : Quiet} {o : Op} (h : kindOf P q o = .A) : ∃ t z, o = .alloc t ∧ zeroI P t = some z ∧ z.cells.all (·.oneCell') = true := by
  unfold kindOf at h
  split at h <;> first | (cases h; done) | skip
  · split at h <;> cases h
  · split at h <;> cases h
  · split at h
    · rename_i z hz
      split at h
      · rename_i ho; simp only [Bool.and_eq_true] at ho; exact ⟨_, z, rfl, hz, ho.1⟩
      · cases h
    · cases h
theorem stat_none {ops : Array Oper} {o : Oper} {fr : Nat → V} (h : o.guard = none) : stat ops o fr = some true := by
  unfold stat eraseOp
  simp [h]

/-- y, then x: x, then y. -/
theorem comm {q : Quiet} {ops : Array Oper} {y x : Oper} {fr : Nat → V} {H : Heap} {K : (Nat → V) → Heap → Prop} (hp : okPair P q ops y x = true) (hoy : guardOk ops y = true) (hox : guardOk ops x = true)
    (h : GK P W0 (kindOf P q y.op) ops y fr H fun fr1 H1 => GK P W0 (kindOf P q x.op) ops x fr1 H1 K) :
    GK P W0 (kindOf P q x.op) ops x fr H fun fr1 H1 => GK P W0 (kindOf P q y.op) ops y fr1 H1 K := by
  unfold okPair at hp
  rw [Bool.and_eq_true] at hp
  obtain ⟨hap, hp⟩ := hp
  obtain ⟨a1, a2, a3⟩ := Oper.apart_spec hap
  have a2' : ∀ t, x.dst = some t → y.dst ≠ some t := fun t e e' => a2 t e' e
  have hsy : ∀ u, stat ops y (put fr x.dst u) = stat ops y fr := fun u => stat_put hoy a3
  have hey : ∀ u, ∀ z ∈ y.op.operands, evI fr z = evI (put fr x.dst u) z := fun u z hz => (ev_put a3 z hz).symm
  have hpp : ∀ u v, put (put fr y.dst v) x.dst u = put (put fr x.dst u) y.dst v := fun u v => put_put fr v u a2
  cases hst : stat ops y fr with
  | none => unfold GK at h; simp [hst] at h
  | some b =>
    cases b with
    | false =>
      unfold GK at h
      simp only [hst] at h
      exact (GK.after hox a1 a2 h).mono fun u H' e => by
        unfold GK; rw [hsy, hst]; exact e
    | true =>
      have h1 : SK P W0 (kindOf P q y.op) y (evI fr) H fun v H1 => GK P W0 (kindOf P q x.op) ops x fr H1 fun fr1 H2 => K (put fr1 y.dst v) H2 := by
        have h2 := h
        unfold GK at h2
        rw [hst] at h2
        exact SK.mono h2 fun v H' e => GK.after hox a1 a2 e
      clear h
      have fin : ∀ u H2, SK P W0 (kindOf P q y.op) y (evI fr) H2 (fun v H3 => K (put (put fr x.dst u) y.dst v) H3) → GK P W0 (kindOf P q y.op) ops y (put fr x.dst u) H2 K := by
        intro u H2 e
        unfold GK
        rw [hsy, hst]
        exact SK.congr e (hey u)
      generalize hky : kindOf P q y.op = ky at *
      generalize hkx : kindOf P q x.op = kx at *
      cases ky with
      | M =>
        obtain ⟨z, e1, e2⟩ := h1
        exact e2.mono fun u H' e => fin u H' ⟨z, e1, e⟩
      | F =>
        obtain ⟨v, e1, e2⟩ := h1
        exact e2.mono fun u H' e => fin u H' ⟨v, e1, e⟩
      | Q =>
        obtain ⟨v, e1, e2⟩ := h1
        have same : ∀ u, K (put (put fr x.dst u) y.dst v) H → GK P W0 Kind.Q ops y (put fr x.dst u) H K := fun u e => fin u H ⟨v, e1, e⟩
        unfold GK at e2 ⊢
        split at e2
        · cases kx with
          | M => obtain ⟨z, f1, f2⟩ := e2; exact ⟨z, f1, same _ f2⟩
          | F => obtain ⟨z, f1, f2⟩ := e2; exact ⟨z, f1, same _ f2⟩
          | Q => obtain ⟨z, f1, f2⟩ := e2; exact ⟨z, f1, same _ f2⟩
          | A =>
            obtain ⟨t, z, f0, f1, f2, f3⟩ := e2
            refine ⟨t, z, f0, f1, f2, fun id hd => fin _ _ ⟨v, ?_, f3 id hd⟩⟩
            refine (e1.frame hd).mono ?_
            rintro v' H'' ⟨H', q1, q2, q3, q4⟩
            subst q4
            exact ⟨q3, q1⟩
          | T => simp at hp
        · exact same _ e2
        · exact e2
      | A =>
        cases kx with
        | M =>
          obtain ⟨z, hz⟩ := kind_M hkx
          have hxs : ∀ fr, stat ops x fr = some true := fun fr => stat_none (by simpa using hp)
          unfold GK at h1 ⊢
          simp only [hxs] at h1 ⊢
          refine ⟨z, hz, fin _ _ (h1.mono fun v H' e => ?_)⟩
          obtain ⟨z', hz', e⟩ := e
          have : z' = z := by
            rcases hz with h | h <;> rcases hz' with h' | h' <;> rw [h] at h' <;> cases h' <;> rfl
          subst this; exact e
        | A =>
          obtain ⟨t, z, hz, hz1, hz2⟩ := kind_A hkx
          have hxs : ∀ fr, stat ops x fr = some true := fun fr => stat_none (by simpa using hp)
          unfold GK at h1 ⊢
          simp only [hxs] at h1 ⊢
          refine ⟨t, z, hz, hz1, hz2, fun id hd => fin _ _ ?_⟩
          obtain ⟨t', z', f0, f1, f2, f3⟩ := h1
          refine ⟨t', z', f0, f1, f2, fun id' hd' => ?_⟩
          have hne : id' ≠ id := fun e => by subst e; simp at hd'
          rw [Heap.set_ne _ _ hne] at hd'
          obtain ⟨t2, z2, g0, g1, g2, g3⟩ := f3 id' hd'
          rw [hz] at g0; cases g0
          rw [hz1] at g1; cases g1
          rw [set_set H (Ne.symm hne)]
          exact g3 id (by rw [Heap.set_ne _ _ (Ne.symm hne)]; exact hd)
        | _ => simp at hp
      | T =>
        cases kx with
        | M =>
          obtain ⟨z, hz⟩ := kind_M hkx
          have hxs : ∀ fr, stat ops x fr = some true := fun fr => stat_none (by simpa using hp)
          unfold GK at h1 ⊢
          simp only [hxs] at h1 ⊢
          refine ⟨z, hz, fin _ _ (SK.mono h1 fun v H' e => ?_)⟩
          obtain ⟨z', hz', e⟩ := e
          have : z' = z := by
            rcases hz with h | h <;> rcases hz' with h' | h' <;> rw [h] at h' <;> cases h' <;> rfl
          subst this; exact e
        | A =>
          obtain ⟨t, z, hz, hz1, hz2⟩ := kind_A hkx
          have hxs : ∀ fr, stat ops x fr = some true := fun fr => stat_none (by simpa using hp)
          unfold GK at h1 ⊢
          simp only [hxs] at h1 ⊢
          refine ⟨t, z, hz, hz1, hz2, fun id hd => fin _ _ ?_⟩
          refine (OT.frame h1 hd).mono ?_
          rintro v H'' ⟨H', rfl, q2, t2, z2, g0, g1, g2, g3⟩
          rw [hz] at g0; cases g0
          rw [hz1] at g1; cases g1
          exact g3 id q2
        | _ => simp at hp
end
end Go.IL

/- Regions: in the order of the text, in whatever order their edges allow. -/
namespace Go.IL
open Go

/-- Where a function's run begins, and on what. -/
structure Start where
  W0 : World
  G0 : Ghost
  H0 : Heap
  nx0 : Nat
  w0 : World

def Cfg (S : Start) (n : Nat) (fr : Nat → V) (H : Heap) (a : Act) (w : World) : Prop :=
  ∃ G nx, S.nx0 ≤ nx ∧ Ext S.G0 S.H0 S.w0 G H w ∧ Base S.W0 G w ∧ Sim G H nx w ∧ a.tmps.size = n ∧ (∀ t, Rep G (fr t) (a.tmps.getD t undef)) ∧ a.defers = []

theorem put_rep {G : Ghost} {fr : Nat → V} {a : Act} {d : Option Nat} {v : V} {y : Value} (hr : ∀ t, Rep G (fr t) (a.tmps.getD t undef)) (hv : Rep G v y) (hd : ∀ t, d = some t → t < a.tmps.size) :
    ∀ t, Rep G (put fr d v t) ((a.put d y).tmps.getD t undef) := by
  intro t
  cases d with
  | none => exact hr t
  | some d =>
    have hlt := hd d rfl
    by_cases h : t = d
    · subst h
      simp [put, Act.put, hlt, hv]
    · have := hr t
      simp only [put, h, if_false, Act.put]
      rw [Array.getD_eq_getD_getElem?] at this ⊢
      rw [Array.getElem?_setIfInBounds_ne (Ne.symm h)]
      exact this
theorem put_size (a : Act) (d : Option Nat) (y : Value) : (a.put d y).tmps.size = a.tmps.size := by cases d <;> simp [Act.put]
theorem put_def (a : Act) (d : Option Nat) (y : Value) : (a.put d y).defers = a.defers := by cases d <;> rfl

theorem Cfg.drew {S : Start} {n : Nat} {fr : Nat → V} {H : Heap} {a : Act} {w : World} (h : Cfg S n fr H a w) (k : Nat) (hk : w.drawn ≤ k) : Cfg S n fr H a { w with drawn := k } := by
  obtain ⟨G, nx, h1, h2, h3, h4, h5⟩ := h
  exact ⟨G, nx, h1, h2.trans (Ext.drew G H w k hk), ⟨h3.size, h3.loc, h3.keep, h3.os, h3.out, h3.tape, h3.mono⟩, h4.drawn k, h5⟩

section
variable {P : Program} {S : Start} {n : Nat} {ops : Array Oper} {Q : Exit → Act → World → Prop}

theorem stat_wanted {G : Ghost} {o : Oper} {fr : Nat → V} {a : Act} {b : Bool} (hok : guardOk ops o = true) (hr : ∀ t, Rep G (fr t) (a.tmps.getD t undef)) (h : stat ops o fr = some b) : Region.wanted o (yielded ops a.tmps) = b := by
  cases hg : (eraseOp ops o).g with
  | none =>
    unfold stat at h
    rw [hg] at h
    cases h
    unfold eraseOp at hg
    cases hgu : o.guard with
    | none => simp [Region.wanted, hgu]
    | some p => simp [hgu] at hg
  | some p =>
    obtain ⟨s, want⟩ := p
    obtain ⟨hs, j, hj, hslot⟩ := guard_slot hok hg
    unfold stat at h
    rw [hg] at h
    simp only at h
    have hyd : yielded ops a.tmps j = match a.tmps[s]? with | some (.bool b) => some b | _ => none := by
      unfold yielded
      unfold slotOf at hslot
      rw [hslot]
      rfl
    have hsr := hr s
    rw [Array.getD_eq_getD_getElem?] at hsr
    simp only [Region.wanted, hj, hyd]
    cases hv : yv (fr s) with
    | none => simp [hv] at h
    | some r =>
      simp only [hv] at h
      unfold yv at hv
      split at hv
      · rename_i b' hfs
        cases hv
        cases h
        rw [hfs] at hsr
        cases ht : a.tmps[s]? with
        | none => rw [ht] at hsr; have := rep_bool hsr; simp [undef] at this
        | some y =>
          rw [ht] at hsr
          have := rep_bool hsr
          simp at this
          subst this
          rfl
      · rename_i x hne hfs
        cases hv
        cases h
        rw [hfs] at hsr
        cases ht : a.tmps[s]? with
        | none => rfl
        | some y =>
          rw [ht] at hsr
          have := rep_val hsr
          simp at this
          subst this
          split
          · rename_i e; cases e; exact (hne _ rfl).elim
          · rfl
      · cases hv

theorem GK.sound {k : Kind} {o : Oper} {i : Nat} {fr : Nat → V} {H : Heap} {a : Act} {w : World} {K : (Nat → V) → Heap → Prop} {Kc : Act → World → Prop} (hc : Cfg S n fr H a w) (ho : ops[i]? = some o) (hd : ∀ d, o.dst = some d → d < n)
    (hok : guardOk ops o = true) (h : GK P S.W0 k ops o fr H K) (hK : ∀ fr' H' a' w', K fr' H' → Cfg S n fr' H' a' w' → Kc a' w') : wpOp P ops Q i Kc a w := by
  obtain ⟨G, nx, h1, h2, h3, h4, h5, h6, h7⟩ := hc
  have hd' : ∀ t, o.dst = some t → t < a.tmps.size := by rw [h5]; exact hd
  unfold wpOp
  simp only [ho]
  unfold GK at h
  split at h
  · rename_i hst
    rw [stat_wanted hok h6 hst, if_pos rfl]
    refine .inl (SK.ot h G nx w a Kc Q h3 h4 (fun x _ => ?_) ?_)
    · cases x with
      | tmp t => exact h6 t
      | const v => exact rep_ofScalar G v
      | global g => exact .val
      | func f => exact .fn #[] rfl (by simp)
    · rintro y w' ⟨v, H', G', nx', p1, p2, p3, p4, p5⟩
      exact hK _ H' _ w' p5 ⟨G', nx', Nat.le_trans h1 p1, h2.trans p2, h3.ext p2, p3, by rw [put_size]; exact h5, put_rep (fun t => (h6 t).mono p2.le) p4 hd', by rw [put_def]; exact h7⟩
  · rename_i hst
    rw [stat_wanted hok h6 hst, if_neg (by simp)]
    exact hK _ H _ w h ⟨G, nx, h1, h2, h3, h4, by rw [put_size]; exact h5, put_rep h6 .val hd', by rw [put_def]; exact h7⟩
  · exact h.elim

/-- Operations by their numbers. -/
def SX (P : Program) (W0 : World) (q : Quiet) (ops : Array Oper) : List Nat → (Nat → V) → Heap → ((Nat → V) → Heap → Prop) → Prop
  | [], fr, H, K => K fr H
  | i :: l, fr, H, K =>
    match ops[i]? with
    | none => False
    | some o => GK P W0 (kindOf P q o.op) ops o fr H fun fr' H' => SX P W0 q ops l fr' H' K

theorem SL.sx {W0 : World} {q : Quiet} {K : (Nat → V) → Heap → Prop} : ∀ (l : List Oper) (k : Nat) (fr : Nat → V) (H : Heap), ops.toList.drop k = l → SL P W0 q (l.map (eraseOp ops)) fr H K → SX P W0 q ops (List.range' k l.length) fr H K
  | [], k, fr, H, _, h => h
  | o :: l, k, fr, H, hl, h => by
    have hk : ops[k]? = some o := by
      have : (ops.toList.drop k)[0]? = some o := by rw [hl]; rfl
      rw [List.getElem?_drop] at this
      simpa using this
    have hl' : ops.toList.drop (k + 1) = l := by rw [← List.drop_drop, hl]; rfl
    simp only [List.length_cons, List.range'_succ, SX, hk]
    simp only [List.map_cons, SL] at h
    exact (G1.gk h).mono fun v H' e => SL.sx l (k + 1) _ H' hl' e

def okOps (n : Nat) (ops : Array Oper) : Bool := ops.toList.all fun o => guardOk ops o && (match o.dst with | none => true | some d => decide (d < n))
theorem okOps_spec (h : okOps n ops = true) {i : Nat} {o : Oper} (ho : ops[i]? = some o) : guardOk ops o = true ∧ ∀ d, o.dst = some d → d < n := by
  have := List.all_eq_true.1 h o (by rw [Array.mem_toList_iff]; exact Array.mem_of_getElem? ho)
  rw [Bool.and_eq_true] at this
  refine ⟨this.1, fun d hd => ?_⟩
  have h2 := this.2
  rw [hd] at h2
  simpa using h2

theorem SX.run {q : Quiet} {K : (Nat → V) → Heap → Prop} (hok : okOps n ops = true) : ∀ (l : List Nat) (fr : Nat → V) (H : Heap) (a : Act) (w : World), SX P S.W0 q ops l fr H K → Cfg S n fr H a w →
    (∀ fr' H' a' w', K fr' H' → Cfg S n fr' H' a' w' → Q .normal a' w') → wpOps P ops Q l a w
  | [], fr, H, a, w, h, hc, hK => hK fr H a w h hc
  | i :: l, fr, H, a, w, h, hc, hK => by
    rw [wpOps_cons]
    simp only [SX] at h
    split at h
    · exact h.elim
    · rename_i o ho
      obtain ⟨g1, g2⟩ := okOps_spec hok ho
      exact GK.sound hc ho g2 g1 h fun fr' H' a' w' e hc' => SX.run hok l fr' H' a' w' e hc' hK

theorem region_text {id : Nat} {fr : Nat → V} {H : Heap} {a : Act} {w : World} {K : (Nat → V) → Heap → Prop} (hok : okOps n ops = true) (hc : Cfg S n fr H a w) (h : SL P S.W0 (fun _ => false) (ops.toList.map (eraseOp ops)) fr H K)
    (hK : ∀ fr' H' a' w', K fr' H' → Cfg S n fr' H' a' w' → Q .normal a' w') : (Code.region id ops false).wp P Q a w := by
  refine wp_region ?_
  have := SL.sx (ops := ops) ops.toList 0 fr H rfl h
  rw [Array.length_toList, ← List.range_eq_range'] at this
  exact SX.run hok _ fr H a w this hc hK

/-- Edges that bind. -/
def bindsOn (o : Oper) : List Nat := (o.after.toList.filter (Region.binds .any)).map (·.on)
def maskOf (acc : List Nat) (es : List Nat) : Nat := es.foldl (fun s e => s ||| 2 ^ e ||| acc.getD e 0) 0
def masks : List Oper → List Nat → List Nat
  | [], acc => acc
  | o :: l, acc => masks l (acc ++ [maskOf acc (bindsOn o)])

theorem foldl_bits (acc : List Nat) : ∀ (es : List Nat) (s j : Nat), (es.foldl (fun s e => s ||| 2 ^ e ||| acc.getD e 0) s).testBit j = true → s.testBit j = true ∨ ∃ e ∈ es, e = j ∨ (acc.getD e 0).testBit j = true
  | [], s, j, h => .inl h
  | e :: es, s, j, h => by
    simp only [List.foldl_cons] at h
    rcases foldl_bits acc es _ j h with h | ⟨e', h1, h2⟩
    · rw [Nat.testBit_or, Nat.testBit_or, Bool.or_eq_true, Bool.or_eq_true] at h
      rcases h with (h | h) | h
      · exact .inl h
      · refine .inr ⟨e, by simp, .inl ?_⟩
        rw [Nat.testBit_two_pow] at h
        simpa using h
      · exact .inr ⟨e, by simp, .inr h⟩
    · exact .inr ⟨e', by simp [h1], h2⟩
theorem mask_bits {acc es : List Nat} {j : Nat} (h : (maskOf acc es).testBit j = true) : ∃ e ∈ es, e = j ∨ (acc.getD e 0).testBit j = true := by
  rcases foldl_bits acc es 0 j h with h | h
  · simp at h
  · exact h
theorem masks_spec : ∀ (l : List Oper) (acc : List Nat), (∀ i, i < acc.length → (masks l acc)[i]? = acc[i]?) ∧
    ∀ (i : Nat) o, l[i]? = some o → ∃ m, (masks l acc)[acc.length + i]? = some m ∧ ∀ j, m.testBit j = true → ∃ e ∈ bindsOn o, e = j ∨ (e < acc.length + i ∧ ((masks l acc).getD e 0).testBit j = true)
  | [], acc => ⟨fun _ _ => rfl, by simp⟩
  | o :: l, acc => by
    obtain ⟨h1, h2⟩ := masks_spec l (acc ++ [maskOf acc (bindsOn o)])
    have hpre : ∀ i, i < acc.length → (masks (o :: l) acc)[i]? = acc[i]? := by
      intro i hi
      simp only [masks]
      rw [h1 i (by simp; omega), List.getElem?_append_left hi]
    refine ⟨hpre, ?_⟩
    intro i o' ho
    cases i with
    | zero =>
      simp at ho
      subst ho
      refine ⟨maskOf acc (bindsOn o), ?_, ?_⟩
      · simp only [masks, Nat.add_zero]
        rw [h1 acc.length (by simp)]
        simp
      · intro j hj
        obtain ⟨e, he, hor⟩ := mask_bits hj
        refine ⟨e, he, ?_⟩
        rcases hor with h | h
        · exact .inl h
        · by_cases hlt : e < acc.length
          · refine .inr ⟨by omega, ?_⟩
            rw [List.getD_eq_getElem?_getD, hpre e hlt, ← List.getD_eq_getElem?_getD]
            exact h
          · rw [List.getD_eq_getElem?_getD, List.getElem?_eq_none (by omega)] at h
            simp at h
    | succ i =>
      obtain ⟨m, e1, e2⟩ := h2 i o' (by simpa using ho)
      refine ⟨m, ?_, ?_⟩
      · simp only [masks]
        rw [← e1]
        congr 1
        simp
        omega
      · intro j hj
        obtain ⟨e, he, hor⟩ := e2 j hj
        refine ⟨e, he, ?_⟩
        rcases hor with h | ⟨q1, q2⟩
        · exact .inl h
        · exact .inr ⟨by simp at q1; omega, q2⟩

def okDraw (P : Program) (q : Quiet) (ops : Array Oper) : Bool :=
  let ms := masks ops.toList []
  ops.toList.zipIdx.all fun (x, i) => (bindsOn x).all (fun e => decide (e < i)) && (ops.toList.zipIdx.take i).all fun (y, j) => (ms.getD i 0).testBit j || okPair P q ops y x
theorem okDraw_spec {q : Quiet} (h : okDraw P q ops = true) {i : Nat} {x : Oper} (hx : ops[i]? = some x) :
    (∀ e ∈ bindsOn x, e < i) ∧ ∀ j y, j < i → ops[j]? = some y → ((masks ops.toList []).getD i 0).testBit j = true ∨ okPair P q ops y x = true := by
  have := List.all_eq_true.1 h (x, i) (List.mem_iff_getElem?.2 ⟨i, by rw [List.getElem?_zipIdx, Array.getElem?_toList, hx]; simp⟩)
  simp only [Bool.and_eq_true] at this
  refine ⟨fun e he => by simpa using List.all_eq_true.1 this.1 e he, fun j y hj hy => ?_⟩
  have := List.all_eq_true.1 this.2 (y, j) (List.mem_iff_getElem?.2 ⟨j, by rw [List.getElem?_take, if_pos hj, List.getElem?_zipIdx, Array.getElem?_toList, hy]; simp⟩)
  simpa using this

/-- What has been listed is closed under what it hangs on. -/
def Closed (ops : Array Oper) (listed : Nat → Bool) : Prop := ∀ i x, ops[i]? = some x → listed i = true → ∀ e ∈ bindsOn x, listed e = true
theorem closed_mask {listed : Nat → Bool} (hc : Closed ops listed) : ∀ (i : Nat) x, ops[i]? = some x → (∀ e ∈ bindsOn x, listed e = true) →
    ∀ j, ((masks ops.toList []).getD i 0).testBit j = true → listed j = true := by
  intro i
  induction i using Nat.strongRecOn with
  | _ i ih =>
    intro x hx he j hj
    obtain ⟨m, e1, e2⟩ := (masks_spec ops.toList []).2 i x (by rw [Array.getElem?_toList]; exact hx)
    simp only [List.length_nil, Nat.zero_add] at e1 e2
    rw [List.getD_eq_getElem?_getD, e1] at hj
    obtain ⟨e, h1, h2⟩ := e2 j hj
    rcases h2 with rfl | ⟨h2, h3⟩
    · exact he e h1
    · have hle := he e h1
      have hlt : i < ops.size := (Array.getElem?_eq_some_iff.1 hx).1
      have hy : ops[e]? = some ops[e] := Array.getElem?_eq_getElem (by omega)
      exact ih e h2 _ hy (hc e _ hy hle) j h3

/-- One of the operations is taken first. -/
theorem SX.first {W0 : World} {q : Quiet} {K : (Nat → V) → Heap → Prop} (hok : okOps n ops = true) {i : Nat} {x : Oper} (hx : ops[i]? = some x) (post : List Nat) : ∀ (pre : List Nat) (fr : Nat → V) (H : Heap),
    (∀ j ∈ pre, ∀ y, ops[j]? = some y → okPair P q ops y x = true) → SX P W0 q ops (pre ++ i :: post) fr H K →
    GK P W0 (kindOf P q x.op) ops x fr H fun fr' H' => SX P W0 q ops (pre ++ post) fr' H' K
  | [], fr, H, _, h => by simpa [SX, hx] using h
  | j :: pre, fr, H, hp, h => by
    simp only [List.cons_append, SX] at h ⊢
    split at h
    · exact h.elim
    · rename_i y hy
      have h2 := GK.mono (K' := fun fr1 H1 => GK P W0 (kindOf P q x.op) ops x fr1 H1 fun fr' H' => SX P W0 q ops (pre ++ post) fr' H' K) h fun v H' e => SX.first hok hx post pre _ H' (fun k hk => hp k (by simp [hk])) e
      exact comm (hp j (by simp) y hy) (okOps_spec hok hy).1 (okOps_spec hok hx).1 h2

theorem SX.any {q : Quiet} {K : (Nat → V) → Heap → Prop} (hok : okOps n ops = true) (hd : okDraw P q ops = true) (hK : ∀ fr' H' a' w', K fr' H' → Cfg S n fr' H' a' w' → Q .normal a' w') :
    ∀ (rem : List Nat) (listed : Array Bool) (fr : Nat → V) (H : Heap) (a : Act) (w : World), listed.size = ops.size → rem.Pairwise (· < ·) → (∀ i, i ∈ rem ↔ i < ops.size ∧ listed.getD i true = false) →
      Closed ops (fun i => listed.getD i true) → SX P S.W0 q ops rem fr H K → Cfg S n fr H a w → wpAny P .any ops Q rem.length listed a w := by
  intro rem
  generalize hlen : rem.length = len
  induction len generalizing rem with
  | zero =>
    intro listed fr H a w hsz hs hm hcl h hc
    have hrem : rem = [] := List.eq_nil_of_length_eq_zero hlen
    subst hrem
    refine ⟨?_, hK fr H a w h hc⟩
    refine List.eq_nil_iff_forall_not_mem.2 fun i hi => ?_
    simp only [Region.ready, List.mem_filter, List.mem_range, Bool.and_eq_true, Bool.not_eq_true'] at hi
    have := (hm i).2 ⟨hi.1, hi.2.1⟩
    simp at this
  | succ len ih =>
    intro listed fr H a w hsz hs hm hcl h hc
    have ready : ∀ i, i ∈ Region.ready .any ops listed ↔ i ∈ rem ∧ ∀ x, ops[i]? = some x → ∀ e ∈ bindsOn x, listed.getD e true = true := by
      intro i
      simp only [Region.ready, List.mem_filter, List.mem_range, Bool.and_eq_true, Bool.not_eq_true', hm]
      constructor
      · rintro ⟨h1, h2, h3⟩
        refine ⟨⟨h1, h2⟩, fun x hx e he => ?_⟩
        rw [hx] at h3
        simp only [Option.map_some, Option.getD_some, Array.all_eq_true_iff_forall_mem] at h3
        unfold bindsOn at he
        simp only [List.mem_map, List.mem_filter] at he
        obtain ⟨ed, ⟨hed, hb⟩, rfl⟩ := he
        have := h3 ed (by simpa using hed)
        rw [hb] at this
        have hlt := ((okDraw_spec hd hx).1 ed.on (by unfold bindsOn; simp only [List.mem_map, List.mem_filter]; exact ⟨ed, ⟨hed, hb⟩, rfl⟩))
        simp only [Bool.not_true, Bool.false_or] at this
        rw [Array.getD_eq_getD_getElem?] at this ⊢
        cases hl : listed[ed.on]? with
        | none => rfl
        | some b => rw [hl] at this; exact this
      · rintro ⟨⟨h1, h2⟩, h3⟩
        refine ⟨h1, h2, ?_⟩
        have hx : ops[i]? = some ops[i] := Array.getElem?_eq_getElem h1
        rw [hx]
        simp only [Option.map_some, Option.getD_some, Array.all_eq_true_iff_forall_mem]
        intro ed hed
        cases hb : Region.binds .any ed with
        | false => rfl
        | true =>
          have hmem : ed.on ∈ bindsOn ops[i] := by
            unfold bindsOn; simp only [List.mem_map, List.mem_filter]; exact ⟨ed, ⟨by simpa using hed, hb⟩, rfl⟩
          have := h3 _ hx ed.on hmem
          have hlt := (okDraw_spec hd hx).1 ed.on hmem
          simp only [Bool.not_true, Bool.false_or]
          rw [Array.getD_eq_getD_getElem?] at this ⊢
          rw [Array.getElem?_eq_getElem (by omega)] at this ⊢
          exact this
    refine ⟨?_, ?_⟩
    · intro hnil
      cases rem with
      | nil => simp at hlen
      | cons r rest =>
        have hr := (hm r).1 (by simp)
        have : r ∈ Region.ready .any ops listed := by
          refine (ready r).2 ⟨by simp, fun x hx e he => ?_⟩
          have hlt := (okDraw_spec hd hx).1 e he
          cases hb : listed.getD e true with
          | true => rfl
          | false =>
            have hmem := (hm e).2 ⟨by omega, hb⟩
            rcases List.mem_cons.1 hmem with rfl | hmem
            · omega
            · have := List.rel_of_pairwise_cons hs hmem; omega
        rw [hnil] at this
        simp at this
    · intro i hi
      obtain ⟨hmem, hedges⟩ := (ready i).1 hi
      obtain ⟨hilt, hil⟩ := (hm i).1 hmem
      have hx : ops[i]? = some ops[i] := Array.getElem?_eq_getElem hilt
      obtain ⟨pre, post, rfl⟩ := List.append_of_mem hmem
      have hpre : ∀ j ∈ pre, j < i := fun j hj => (List.pairwise_append.1 hs).2.2 j hj i (by simp)
      have hpost : ∀ j ∈ post, i < j := fun j hj => List.rel_of_pairwise_cons (List.pairwise_append.1 hs).2.1 hj
      have hpairs : ∀ j ∈ pre, ∀ y, ops[j]? = some y → okPair P q ops y ops[i] = true := by
        intro j hj y hy
        rcases (okDraw_spec hd hx).2 j y (hpre j hj) hy with h | h
        · have := closed_mask hcl i _ hx (hedges _ hx) j h
          have h2 := (hm j).1 (by simp [hj])
          simp only [h2.2] at this
          cases this
        · exact h
      have hfirst := SX.first hok hx post pre fr H hpairs h
      obtain ⟨g1, g2⟩ := okOps_spec hok hx
      refine GK.sound hc hx g2 g1 hfirst fun fr' H' a' w' e hc' => ?_
      have hget : ∀ k, (listed.setIfInBounds i true).getD k true = if k = i then true else listed.getD k true := by
        intro k
        rw [Array.getD_eq_getD_getElem?, Array.getD_eq_getD_getElem?]
        by_cases hk : k = i
        · subst hk; simp [show k < listed.size by omega]
        · rw [Array.getElem?_setIfInBounds_ne (Ne.symm hk), if_neg hk]
      refine ih (pre ++ post) (by simp at hlen ⊢; omega) (listed.setIfInBounds i true) fr' H' a' w' (by simp [hsz]) ?_ ?_ ?_ e hc'
      · exact hs.sublist (List.Sublist.append (List.Sublist.refl _) (List.sublist_cons_self _ _))
      · intro k
        rw [hget]
        have := hm k
        simp only [List.mem_append, List.mem_cons] at this ⊢
        constructor
        · intro hk
          have hki : k ≠ i := by rcases hk with hk | hk; have := hpre k hk; omega; have := hpost k hk; omega
          rw [if_neg hki]
          exact this.1 (by rcases hk with hk | hk; exact .inl hk; exact .inr (.inr hk))
        · rintro ⟨hk1, hk2⟩
          split at hk2
          · cases hk2
          · rename_i hki
            rcases this.2 ⟨hk1, hk2⟩ with h | h | h
            · exact .inl h
            · exact (hki h).elim
            · exact .inr h
      · intro k x hxk hk e' he'
        simp only [hget] at hk ⊢
        by_cases hei : e' = i
        · rw [if_pos hei]
        · rw [if_neg hei]
          by_cases hki : k = i
          · subst hki
            exact hedges x hxk e' he'
          · rw [if_neg hki] at hk
            exact hcl k x hxk hk e' he'

theorem region_draw {id : Nat} {q : Quiet} {fr : Nat → V} {H : Heap} {a : Act} {w : World} {K : (Nat → V) → Heap → Prop} (hm : P.follows .mixedOrders = true) (hok : okOps n ops = true) (hd : okDraw P q ops = true) (hc : Cfg S n fr H a w)
    (h : SL P S.W0 q (ops.toList.map (eraseOp ops)) fr H K) (hK : ∀ fr' H' a' w', K fr' H' → Cfg S n fr' H' a' w' → Q .normal a' w') : (Code.region id ops true).wp P Q a w := by
  refine wp_region_any hm ?_
  have h2 := SL.sx (ops := ops) ops.toList 0 fr H rfl h
  rw [Array.length_toList, ← List.range_eq_range'] at h2
  have := SX.any (S := S) hok hd hK (List.range ops.size) (Array.replicate ops.size false) fr H a { w with drawn := w.drawn + 1 } (by simp) List.pairwise_lt_range ?_ ?_ h2 (hc.drew _ (Nat.le_succ _))
  · simpa using this
  · intro i
    simp only [List.mem_range, Array.getD_eq_getD_getElem?]
    constructor
    · intro hi; exact ⟨hi, by simp [hi]⟩
    · exact fun hi => hi.1
  · intro i x hx hl
    have hi := (Array.getElem?_eq_some_iff.1 hx).1
    simp [Array.getD_eq_getD_getElem?, hi] at hl
end
end Go.IL

/- Code and functions. -/
namespace Go.IL
open Go

inductive IC where
  | skip
  | reg (id : Nat) (ops : List IOp) (draw : Bool)
  | seq (a b : IC)
  | cond (c : Operand) (a b : IC)
  | block (id : Nat) (a : IC)
  | loop (a : IC)
  | exit (id : Nat)
  | ret
inductive EX where
  | normal
  | exit (id : Nat)
  | ret
def EX.to : EX → Exit
  | .normal => .normal
  | .exit id => .exit id
  | .ret => .ret

def IC.of : Code → Option IC
  | .skip => some .skip
  | .region id ops draw => some (.reg id (ops.toList.map (eraseOp ops)) draw)
  | .seq a b => (IC.of a).bind fun a => (IC.of b).map fun b => .seq a b
  | .cond c a b => (IC.of a).bind fun a => (IC.of b).map fun b => .cond c a b
  | .block id a => (IC.of a).map (.block id)
  | .loop a => (IC.of a).map .loop
  | .exit id => some (.exit id)
  | .ret => some .ret
  | _ => none

def okCode (P : Program) (n : Nat) (loud : Nat → Nat → Bool) : Code → Bool
  | .region id ops draw => okOps n ops && (!draw || okDraw P (fun f => !loud id f) ops)
  | .seq a b | .cond _ a b => okCode P n loud a && okCode P n loud b
  | .block _ a | .loop a => okCode P n loud a
  | _ => true

abbrev Fr := Nat → V
section
variable (P : Program) (W0 : World) (loud : Nat → Nat → Bool)
/-- The ideal meaning of code. -/
def wpI : IC → (EX → Fr → Heap → Prop) → Fr → Heap → Prop
  | .skip, Q, fr, H => Q .normal fr H
  | .reg id ops draw, Q, fr, H => SL P W0 (fun f => draw && !loud id f) ops fr H (Q .normal)
  | .seq a b, Q, fr, H => wpI a (fun e fr' H' => match e with | .normal => wpI b Q fr' H' | .exit id => Q (.exit id) fr' H' | .ret => Q .ret fr' H') fr H
  | .cond c a b, Q, fr, H => ∃ t, evI fr c = .val (.bool t) ∧ ((t = true → wpI a Q fr H) ∧ (t = false → wpI b Q fr H))
  | .block id a, Q, fr, H => wpI a (fun e fr' H' => match e with | .normal => Q .normal fr' H' | .exit i => if i = id then Q .normal fr' H' else Q (.exit i) fr' H' | .ret => Q .ret fr' H') fr H
  | .loop a, Q, fr, H => ∃ I : Nat → Fr → Heap → Prop, (∃ n, I n fr H) ∧ ∀ n fr' H', I n fr' H' →
      wpI a (fun e fr'' H'' => match e with | .normal => ∃ m, m < n ∧ I m fr'' H'' | .exit id => Q (.exit id) fr'' H'' | .ret => Q .ret fr'' H'') fr' H'
  | .exit id, Q, fr, H => Q (.exit id) fr H
  | .ret, Q, fr, H => Q .ret fr H
end

section
variable {P : Program} {S : Start} {n : Nat} {loud : Nat → Nat → Bool}

theorem wpI_sound (hm : P.follows .mixedOrders = true) : ∀ (c : Code) (ic : IC) (Q : EX → Fr → Heap → Prop) (Qc : Exit → Act → World → Prop) (fr : Fr) (H : Heap) (a : Act) (w : World), IC.of c = some ic → okCode P n loud c = true →
    wpI P S.W0 loud ic Q fr H → Cfg S n fr H a w → (∀ e fr' H' a' w', Q e fr' H' → Cfg S n fr' H' a' w' → Qc e.to a' w') → c.wp P Qc a w := by
  intro c
  induction c with
  | skip => intro ic Q Qc fr H a w hic _ h hc hQ; cases hic; exact wp_skip (hQ .normal _ _ _ _ h hc)
  | region id ops draw =>
    intro ic Q Qc fr H a w hic hok h hc hQ
    cases hic
    simp only [okCode, Bool.and_eq_true] at hok
    simp only [wpI] at h
    cases draw with
    | false =>
      simp only [Bool.false_and] at h
      exact region_text hok.1 hc h fun fr' H' a' w' e hc' => hQ .normal _ _ _ _ e hc'
    | true =>
      simp only [Bool.true_and] at h
      exact region_draw hm hok.1 (by simpa using hok.2) hc h fun fr' H' a' w' e hc' => hQ .normal _ _ _ _ e hc'
  | seq x y ihx ihy =>
    intro ic Q Qc fr H a w hic hok h hc hQ
    simp only [IC.of, Option.bind_eq_some_iff, Option.map_eq_some_iff] at hic
    obtain ⟨ix, h1, iy, h2, rfl⟩ := hic
    simp only [okCode, Bool.and_eq_true] at hok
    refine wp_seq (ihx ix _ _ fr H a w h1 hok.1 h hc ?_)
    intro e fr' H' a' w' hq hc'
    cases e with
    | normal => exact ihy iy Q Qc fr' H' a' w' h2 hok.2 hq hc' hQ
    | exit id => exact hQ _ _ _ _ _ hq hc'
    | ret => exact hQ _ _ _ _ _ hq hc'
  | cond c x y ihx ihy =>
    intro ic Q Qc fr H a w hic hok h hc hQ
    simp only [IC.of, Option.bind_eq_some_iff, Option.map_eq_some_iff] at hic
    obtain ⟨ix, h1, iy, h2, rfl⟩ := hic
    simp only [okCode, Bool.and_eq_true] at hok
    obtain ⟨t, ht, ha, hb⟩ := h
    have hr : a.eval c = .bool t := by
      obtain ⟨G, nx, -, -, -, -, -, h6, -⟩ := hc
      have : Rep G (evI fr c) (a.eval c) := by
        cases c with
        | tmp t => exact h6 t
        | const v => exact rep_ofScalar G v
        | global g => exact .val
        | func f => exact .fn #[] rfl (by simp)
      rw [ht] at this
      exact rep_bool this
    cases t with
    | true => exact wp_cond_true hr (ihx ix Q Qc fr H a w h1 hok.1 (ha rfl) hc hQ)
    | false => exact wp_cond_false hr (ihy iy Q Qc fr H a w h2 hok.2 (hb rfl) hc hQ)
  | block id x ih =>
    intro ic Q Qc fr H a w hic hok h hc hQ
    simp only [IC.of, Option.map_eq_some_iff] at hic
    obtain ⟨ix, h1, rfl⟩ := hic
    refine wp_block (ih ix _ _ fr H a w h1 hok h hc ?_)
    intro e fr' H' a' w' hq hc'
    cases e with
    | normal => exact hQ .normal _ _ _ _ hq hc'
    | exit i =>
      simp only [EX.to, Exit.inBlock]
      simp only at hq
      split at hq
      · rename_i hi; rw [if_pos hi]; exact hQ .normal _ _ _ _ hq hc'
      · rename_i hi; rw [if_neg hi]; exact hQ (.exit i) _ _ _ _ hq hc'
    | ret => exact hQ .ret _ _ _ _ hq hc'
  | loop x ih =>
    intro ic Q Qc fr H a w hic hok h hc hQ
    simp only [IC.of, Option.map_eq_some_iff] at hic
    obtain ⟨ix, h1, rfl⟩ := hic
    obtain ⟨I, ⟨n0, h0⟩, round⟩ := h
    intro b k cs
    have key : ∀ k' fr H a w, I k' fr H → Cfg S n fr H a w →
        ∃ e a' w', Qc e a' w' ∧ Arrives P (lone (b.at a (.code x :: .inLoop x :: k)) cs w) b k cs e a' w' := by
      intro k'
      induction k' using Nat.strongRecOn with
      | _ k' ihn =>
        intro fr H a w hI hc
        have hx := ih ix _ (Exit.then (fun a' w' => ∃ m fr' H', m < k' ∧ I m fr' H' ∧ Cfg S n fr' H' a' w') Qc) fr H a w h1 hok (round k' fr H hI) hc ?_
        · obtain ⟨e, a₁, w₁, hq, harr⟩ := hx b (.inLoop x :: k) cs
          cases e with
          | normal =>
            obtain ⟨m, fr', H', hlt, hI', hc'⟩ := hq
            obtain ⟨e₂, a₂, w₂, hq₂, harr₂⟩ := ihn m hlt fr' H' a₁ w₁ hI' hc'
            exact ⟨e₂, a₂, w₂, hq₂, .of_steps (Steps.trans harr (.one step_inLoop)) harr₂⟩
          | exit id => exact ⟨_, a₁, w₁, hq, .pass (x := .inLoop x) rfl (fun _ _ => .inl (by simp)) harr⟩
          | goto l => exact ⟨_, a₁, w₁, hq, .pass (x := .inLoop x) rfl (fun _ _ => .inl (by simp)) harr⟩
          | ret => exact ⟨_, a₁, w₁, hq, .pass (x := .inLoop x) rfl (fun _ _ => .inl (by simp)) harr⟩
          | panic ch => exact ⟨_, a₁, w₁, hq, .pass (x := .inLoop x) rfl (fun _ _ => .inl (by simp)) harr⟩
          | outgrown => exact ⟨_, a₁, w₁, hq, .pass (x := .inLoop x) rfl (fun _ _ => .inl (by simp)) harr⟩
        · intro e fr' H' a' w' hq hc'
          cases e with
          | normal => obtain ⟨m, hlt, hI'⟩ := hq; exact ⟨m, fr', H', hlt, hI', hc'⟩
          | exit id => exact hQ _ _ _ _ _ hq hc'
          | ret => exact hQ _ _ _ _ _ hq hc'
    obtain ⟨e, a', w', hq, harr⟩ := key n0 fr H a w h0 hc
    exact ⟨e, a', w', hq, .of_steps (.one step_loop) harr⟩
  | exit id => intro ic Q Qc fr H a w hic _ h hc hQ; cases hic; exact wp_exit (hQ (.exit id) _ _ _ _ h hc)
  | ret => intro ic Q Qc fr H a w hic _ h hc hQ; cases hic; exact wp_ret (hQ .ret _ _ _ _ h hc)
  | _ => intro ic Q Qc fr H a w hic; cases hic

/-- What stands in a result's place. -/
def resI (P : Program) (H : Heap) (fr : Fr) : ResultVar → Option V
  | .tmp t => some (fr t)
  | .cell a t => loadI P H t (fr a)
def resAll (P : Program) (H : Heap) (fr : Fr) : List ResultVar → Option (List V)
  | [] => some []
  | r :: rs => (resI P H fr r).bind fun v => (resAll P H fr rs).map fun vs => v :: vs
def mkRes : List V → V
  | [v] => v
  | vs => .tup vs
def start (args : List V) : Fr := fun t => (args[t]?).getD (.val undef)

/-- The results, frozen; what is kept of the heap. -/
def Ret (P : Program) (rs : List ResultVar) (R : V → Heap → Prop) (fr : Fr) (H : Heap) : Prop :=
  ∃ vs, resAll P H fr rs = some vs ∧ ∃ Hf, (∀ i, Hf i = .dead ∨ Hf i = (frzAll H vs).2 i) ∧ R (mkRes (frzAll H vs).1) Hf
/-- The results as they are. -/
def RetRaw (P : Program) (rs : List ResultVar) (R : V → Heap → Prop) (fr : Fr) (H : Heap) : Prop :=
  ∃ vs, resAll P H fr rs = some vs ∧ ∃ Hf, (∀ i, Hf i = .dead ∨ Hf i = H i) ∧ R (mkRes vs) Hf
def atEnd (p : Fr → Heap → Prop) : EX → Fr → Heap → Prop
  | .exit _, _, _ => False
  | _, fr, H => p fr H

theorem run_results {G : Ghost} {H : Heap} {nx : Nat} {w : World} {fr : Fr} {tmps : Array Value} (hs : Sim G H nx w) (hr : ∀ t, Rep G (fr t) (tmps.getD t undef)) : ∀ (rs : List ResultVar) (vs : List V), resAll P H fr rs = some vs →
    ∃ ys : List Value, (rs.mapM (fun r => (match r with | .tmp t => Pure.pure (tmps.getD t undef) | .cell a t => do loadVar t (← asAddr (tmps.getD a undef)) : Sem Value))).run P w = .ok ys w ∧ vs.length = ys.length ∧
      ∀ (j : Nat) v y, vs[j]? = some v → ys[j]? = some y → Rep G v y
  | [], vs, h => by simp [resAll] at h; subst h; exact ⟨[], by simp, rfl, by simp⟩
  | r :: rs, vs, h => by
    simp only [resAll, Option.bind_eq_some_iff, Option.map_eq_some_iff] at h
    obtain ⟨v, h1, vs', h2, rfl⟩ := h
    obtain ⟨ys, e1, e2, e3⟩ := run_results hs hr rs vs' h2
    have hone : ∃ y, ((match r with | .tmp t => Pure.pure (tmps.getD t undef) | .cell a t => do loadVar t (← asAddr (tmps.getD a undef)) : Sem Value)).run P w = .ok y w ∧ Rep G v y := by
      cases r with
      | tmp t => simp only [resI] at h1; cases h1; exact ⟨_, rfl, hr t⟩
      | cell a t =>
        simp only [resI] at h1
        obtain ⟨ad, z, q1, q2, q3⟩ := load_ok (P := P) hs h1 (hr a)
        exact ⟨z, by simp [q1, asAddr, q2], q3⟩
    obtain ⟨y, f1, f2⟩ := hone
    refine ⟨y :: ys, ?_, by simp [e2], ?_⟩
    · rw [List.mapM_cons, Sem.run_bind, f1]
      simp only [Result.andThen_ok, Sem.run_bind, e1, Sem.run_pure]
    · intro j u z hu hz
      cases j with
      | zero => simp at hu hz; subst hu hz; exact f2
      | succ j => exact e3 j u z (by simpa using hu) (by simpa using hz)

theorem run_resultsM {G : Ghost} {H : Heap} {nx : Nat} {w : World} {fr : Fr} {tmps : Array Value} (hs : Sim G H nx w) (hr : ∀ t, Rep G (fr t) (tmps.getD t undef)) {fn : Func} {vs : List V} (h : resAll P H fr fn.results.toList = some vs) :
    ∃ ys : List Value, (results fn tmps).run P w = .ok (if h : ys.toArray.size = 1 then ys.toArray[0] else .tuple ys.toArray) w ∧ vs.length = ys.length ∧ ∀ (j : Nat) v y, vs[j]? = some v → ys[j]? = some y → Rep G v y := by
  obtain ⟨ys, e1, e2, e3⟩ := run_results hs hr fn.results.toList vs h
  refine ⟨ys, ?_, e2, e3⟩
  unfold results
  rw [Array.mapM_eq_mapM_toList]
  simp only [Sem.run_bind, Sem.run_map]
  exact (congrArg (fun r : Result (List Value) => Result.andThen (Result.andThen r (fun ys w => Result.ok ys.toArray w)) (fun vs w => Sem.run P (Pure.pure (if h : vs.size = 1 then vs[0] else .tuple vs)) w)) e1)
theorem mkRes_rep {G : Ghost} {vs : List V} {ys : List Value} (hl : vs.length = ys.length) (hr : ∀ (j : Nat) v y, vs[j]? = some v → ys[j]? = some y → Rep G v y) :
    Rep G (mkRes vs) (if h : ys.toArray.size = 1 then ys.toArray[0] else .tuple ys.toArray) := by
  have tup : ys.length ≠ 1 → Rep G (.tup vs) (.tuple ys.toArray) := fun _ => .tup _ (by simpa using hl.symm) (fun j v y hv hy => hr j v y hv (by simpa using hy))
  match vs, ys, hl with
  | [], [], _ => exact tup (by simp)
  | [v], [y], _ => exact hr 0 v y rfl rfl
  | v :: v' :: vs, y :: y' :: ys, _ =>
    rw [dif_neg (by simp)]
    exact tup (by simp)

/-- A function's contract, out of the ideal meaning of its body. -/
theorem IT.of_body {W0 : World} {f : FuncId} {fn : Func} {c : Code} {ic : IC} {args : List V} {H : Heap} {R : V → Heap → Prop} (loud : Nat → Nat → Bool) (hm : P.follows .mixedOrders = true) (hf : P.funcs[f]? = some fn) (hb : fn.body = some c)
    (hic : IC.of c = some ic) (hname : (fn.name == "runtime.NumGoroutine") = false) (hok : okCode P fn.ntmps loud c = true) (ha : args.length ≤ fn.ntmps)
    (h : wpI P W0 loud ic (atEnd (Ret P fn.results.toList R)) (start args) H) : IT P W0 f args H R := by
  refine ⟨⟨fn, hf, hname, by simp [hb]⟩, fun G nx w vals hsz hv hbase hs => ?_⟩
  let S : Start := ⟨W0, G, H, nx, w⟩
  refine calls_of_wp hf hb (wpI_sound (S := S) (n := fn.ntmps) hm c ic _ _ (start args) H _ w hic hok h ?_ ?_)
  · refine ⟨G, nx, Nat.le_refl _, Ext.refl G H w, hbase, hs, by simp; omega, ?_, rfl⟩
    intro t
    unfold start
    rw [Array.getD_eq_getD_getElem?]
    by_cases ht : t < vals.size
    · rw [Array.getElem?_append_left ht]
      have h1 := Array.getElem?_eq_getElem ht
      have h2 : args[t]? = some args[t] := List.getElem?_eq_getElem (by omega)
      rw [h1, h2]
      exact hv t _ _ h2 h1
    · rw [Array.getElem?_append_right (by omega), List.getElem?_eq_none (by omega)]
      simp only [Array.getElem?_replicate]
      split <;> exact .val
  · intro e fr' H' a' w' hq hc
    have main : Ret P fn.results.toList R fr' H' → a'.defers = [] ∧ ∃ v, (results fn a'.tmps).run P w' = .ok v w' ∧ ∃ y, Ending.returned v = .returned y ∧ Post G H nx w R y w' := by
      rintro ⟨vs, h1, Hf, h2, h3⟩
      obtain ⟨G', nx', g1, g2, g3, g4, g5, g6, g7⟩ := hc
      obtain ⟨ys, e1, e2, e3⟩ := run_resultsM g4 g6 h1
      obtain ⟨G2, k1, k2, k3, k4, k5⟩ := frzAll_spec vs ys g4 e2 e3
      exact ⟨g7, _, e1, _, rfl, mkRes (frzAll H' vs).1, Hf, G2, nx', g1, (g2.trans k1).forget h2, k2.forget h2, mkRes_rep k4 k5, h3⟩
    cases e with
    | normal => exact main hq
    | ret => exact main hq
    | exit id => exact hq.elim
theorem IT.of_body_raw {W0 : World} {f : FuncId} {fn : Func} {c : Code} {ic : IC} {args : List V} {H : Heap} {R : V → Heap → Prop} (loud : Nat → Nat → Bool) (hm : P.follows .mixedOrders = true) (hf : P.funcs[f]? = some fn) (hb : fn.body = some c)
    (hic : IC.of c = some ic) (hname : (fn.name == "runtime.NumGoroutine") = false) (hok : okCode P fn.ntmps loud c = true) (ha : args.length ≤ fn.ntmps)
    (h : wpI P W0 loud ic (atEnd (RetRaw P fn.results.toList R)) (start args) H) : IT P W0 f args H R := by
  refine ⟨⟨fn, hf, hname, by simp [hb]⟩, fun G nx w vals hsz hv hbase hs => ?_⟩
  let S : Start := ⟨W0, G, H, nx, w⟩
  refine calls_of_wp hf hb (wpI_sound (S := S) (n := fn.ntmps) hm c ic _ _ (start args) H _ w hic hok h ?_ ?_)
  · refine ⟨G, nx, Nat.le_refl _, Ext.refl G H w, hbase, hs, by simp; omega, ?_, rfl⟩
    intro t
    unfold start
    rw [Array.getD_eq_getD_getElem?]
    by_cases ht : t < vals.size
    · rw [Array.getElem?_append_left ht]
      have h1 := Array.getElem?_eq_getElem ht
      have h2 : args[t]? = some args[t] := List.getElem?_eq_getElem (by omega)
      rw [h1, h2]
      exact hv t _ _ h2 h1
    · rw [Array.getElem?_append_right (by omega), List.getElem?_eq_none (by omega)]
      simp only [Array.getElem?_replicate]
      split <;> exact .val
  · intro e fr' H' a' w' hq hc
    have main : RetRaw P fn.results.toList R fr' H' → a'.defers = [] ∧ ∃ v, (results fn a'.tmps).run P w' = .ok v w' ∧ ∃ y, Ending.returned v = .returned y ∧ Post G H nx w R y w' := by
      rintro ⟨vs, h1, Hf, h2, h3⟩
      obtain ⟨G', nx', g1, g2, g3, g4, g5, g6, g7⟩ := hc
      obtain ⟨ys, e1, e2, e3⟩ := run_resultsM g4 g6 h1
      exact ⟨g7, _, e1, _, rfl, mkRes vs, Hf, G', nx', g1, g2.forget h2, g4.forget h2, mkRes_rep e2 e3, h3⟩
    cases e with
    | normal => exact main hq
    | ret => exact main hq
    | exit id => exact hq.elim
end
end Go.IL

/- Known functions: calls by their values. -/
namespace Go.IL
open Go

/-- What a pure function answers. -/
abbrev Sem1 := List V → Heap → Option V
abbrev Env := List (Nat × Sem1)
def PureF (P : Program) (W0 : World) (f : Nat) (s : Sem1) : Prop := ∀ args H v, s args H = some v → IT P W0 f args H (fun v' H' => v' = v ∧ H' = H)
def Env.Ok (P : Program) (W0 : World) : Env → Prop
  | [] => True
  | p :: Φ => PureF P W0 p.1 p.2 ∧ Env.Ok P W0 Φ
def Env.get : Env → Nat → Option Sem1
  | [], _ => none
  | p :: Φ, f => if p.1 = f then some p.2 else Env.get Φ f
theorem Env.Ok.get {P : Program} {W0 : World} {f : Nat} {s : Sem1} : ∀ {Φ : Env}, Env.Ok P W0 Φ → Φ.get f = some s → PureF P W0 f s
  | [], _, h => by cases h
  | p :: Φ, hok, h => by
    simp only [Env.get] at h
    split at h
    · rename_i e; cases h; subst e; exact hok.1
    · exact Env.Ok.get hok.2 h

section
variable (P : Program) (W0 : World) (Φ : Env)

def stepS (q : Quiet) (o : Op) (fr : Fr) (H : Heap) (K : V → Heap → Prop) : Prop :=
  match o with
  | .call { callee := .value g, args, argTypes } =>
    (match evI fr g with
    | .fn f cap =>
      match Φ.get f with
      | some s => ∃ v, s (args.toList.map (evI fr) ++ cap) H = some v ∧ K v H
      | none => stepI P W0 q (.call { callee := .value g, args, argTypes }) fr H K
    | _ => False)
  | o => stepI P W0 q o fr H K

def G1S (q : Quiet) (o : IOp) (fr : Fr) (H : Heap) (K : Fr → Heap → Prop) : Prop :=
  match o.g with
  | none => stepS P W0 Φ q o.op fr H fun v H' => K (put fr o.dst v) H'
  | some (s, want) =>
    ∃ x, yv (fr s) = some x ∧ (x = some want → stepS P W0 Φ q o.op fr H fun v H' => K (put fr o.dst v) H') ∧ (x ≠ some want → K (put fr o.dst (.val undef)) H)

def SLS (q : Quiet) : List IOp → Fr → Heap → (Fr → Heap → Prop) → Prop
  | [], fr, H, K => K fr H
  | o :: l, fr, H, K => G1S P W0 Φ q o fr H fun fr' H' => SLS q l fr' H' K

variable (loud : Nat → Nat → Bool)
def wpS : IC → (EX → Fr → Heap → Prop) → Fr → Heap → Prop
  | .skip, Q, fr, H => Q .normal fr H
  | .reg id ops draw, Q, fr, H => SLS P W0 Φ (fun f => draw && !loud id f) ops fr H (Q .normal)
  | .seq a b, Q, fr, H => wpS a (fun e fr' H' => match e with | .normal => wpS b Q fr' H' | .exit id => Q (.exit id) fr' H' | .ret => Q .ret fr' H') fr H
  | .cond c a b, Q, fr, H => ∃ t, evI fr c = .val (.bool t) ∧ ((t = true → wpS a Q fr H) ∧ (t = false → wpS b Q fr H))
  | .block id a, Q, fr, H => wpS a (fun e fr' H' => match e with | .normal => Q .normal fr' H' | .exit i => if i = id then Q .normal fr' H' else Q (.exit i) fr' H' | .ret => Q .ret fr' H') fr H
  | .loop a, Q, fr, H => ∃ I : Nat → Fr → Heap → Prop, (∃ n, I n fr H) ∧ ∀ n fr' H', I n fr' H' →
      wpS a (fun e fr'' H'' => match e with | .normal => ∃ m, m < n ∧ I m fr'' H'' | .exit id => Q (.exit id) fr'' H'' | .ret => Q .ret fr'' H'') fr' H'
  | .exit id, Q, fr, H => Q (.exit id) fr H
  | .ret, Q, fr, H => Q .ret fr H
end

section
variable {P : Program} {W0 : World} {Φ : Env}

theorem appendI_mono {H : Heap} {id : Nat} {t : TypeId} {x y : V} {K K' : V → Heap → Prop} (h : appendI P H id t x y K) (hk : ∀ v H', K v H' → K' v H') : appendI P H id t x y K' := by
  unfold appendI at *
  split at h
  · exact h
  · split at h
    · exact h
    · split at h
      · split at h
        · exact h
        · exact ⟨h.1, hk _ _ h.2⟩
      · split at h
        · exact h
        · refine ⟨h.1, ?_⟩
          have h2 := h.2
          split at h2
          · rename_i he; rw [if_pos he]; exact hk _ _ h2
          · rename_i he; rw [if_neg he]; exact ⟨h2.1, hk _ _ h2.2⟩
theorem opE_mono {H : Heap} {id : Nat} {ρ : Operand → V} {o : Op} {K K' : V → Heap → Prop} (h : opE P H id ρ o K) (hk : ∀ v H', K v H' → K' v H') : opE P H id ρ o K' := by
  unfold opE at *
  split at h
  · exact fun a => hk _ _ (h a)
  · obtain ⟨v, a, b⟩ := h; exact ⟨v, a, hk _ _ b⟩
  · obtain ⟨q, i, kvs, r, a, b, c, d, e, f⟩ := h; exact ⟨q, i, kvs, r, a, b, c, d, e, hk _ _ f⟩
  · obtain ⟨i, kvs, a, b, c, d⟩ := h; exact ⟨i, kvs, a, b, c, hk _ _ d⟩
  · obtain ⟨i, m, st, a, b, c, d⟩ := h; exact ⟨i, m, st, a, b, fun e => hk _ _ (c e), fun j p e => hk _ _ (d j p e)⟩
  · obtain ⟨i, m, st, p, a, b, c, d⟩ := h; exact ⟨i, m, st, p, a, b, c, hk _ _ d⟩
  · obtain ⟨t, x, e, i, es, off, len, xs, a, b, c, d, f, g, k⟩ := h; exact ⟨t, x, e, i, es, off, len, xs, a, b, c, d, f, g, hk _ _ k⟩
  · obtain ⟨x, v, a, b, c⟩ := h; exact ⟨x, v, a, b, hk _ _ c⟩
  · obtain ⟨x, y, pt, it, p, a, b, c, d⟩ := h; exact ⟨x, y, pt, it, p, a, b, c, hk _ _ d⟩
  · exact h
theorem opI_mono {H : Heap} {id : Nat} {ρ : Operand → V} {o : Op} {K K' : V → Heap → Prop} (h : opI P H id ρ o K) (hk : ∀ v H', K v H' → K' v H') : opI P H id ρ o K' := by
  unfold opI at *
  split at h
  · exact hk _ _ h
  · exact hk _ _ h
  · obtain ⟨t, a, b⟩ := h; exact ⟨t, a, hk _ _ b⟩
  · obtain ⟨z, a, b, c⟩ := h; exact ⟨z, a, b, hk _ _ c⟩
  · obtain ⟨a, b⟩ := h; exact ⟨a, hk _ _ b⟩
  · obtain ⟨z, cs, a, b, c, d, e⟩ := h; exact ⟨z, cs, a, b, c, d, hk _ _ e⟩
  · obtain ⟨e, a, b, c⟩ := h; exact ⟨e, a, b, hk _ _ c⟩
  · obtain ⟨v, a, b⟩ := h; exact ⟨v, a, hk _ _ b⟩
  · obtain ⟨v, a, b⟩ := h; exact ⟨v, a, hk _ _ b⟩
  · obtain ⟨a, b⟩ := h; exact ⟨a, hk _ _ b⟩
  · obtain ⟨v, a, b⟩ := h; exact ⟨v, a, hk _ _ b⟩
  · obtain ⟨v, a, b⟩ := h; exact ⟨v, a, hk _ _ b⟩
  · obtain ⟨v, a, b⟩ := h; exact ⟨v, a, hk _ _ b⟩
  · obtain ⟨v, a, b⟩ := h; exact ⟨v, a, hk _ _ b⟩
  · obtain ⟨v, a, b⟩ := h; exact ⟨v, a, hk _ _ b⟩
  · obtain ⟨v, a, b⟩ := h; exact ⟨v, a, hk _ _ b⟩
  · obtain ⟨v, a, b⟩ := h; exact ⟨v, a, hk _ _ b⟩
  · obtain ⟨v, a, b⟩ := h; exact ⟨v, a, hk _ _ b⟩
  · obtain ⟨vs, v, a, b, c⟩ := h; exact ⟨vs, v, a, b, hk _ _ c⟩
  · obtain ⟨a, b⟩ := h; exact ⟨a, hk _ _ b⟩
  · obtain ⟨t, x, n, a, b, c, d⟩ := h; exact ⟨t, x, n, a, b, c, hk _ _ d⟩
  · obtain ⟨t, s, x, y, a, b, c, d⟩ := h; exact ⟨t, s, x, y, a, b, c, appendI_mono d hk⟩
  · obtain ⟨x, y, k, a, b, c, d, e, f⟩ := h; exact ⟨x, y, k, a, b, c, d, e, hk _ _ f⟩
  · exact opE_mono h hk
theorem stepI_mono {q : Quiet} {o : Op} {fr : Fr} {H : Heap} {K K' : V → Heap → Prop} (h : stepI P W0 q o fr H K) (hk : ∀ v H', K v H' → K' v H') : stepI P W0 q o fr H K' := by
  unfold stepI at *
  split at h
  · split at h
    · split at h
      · rename_i hq; rw [if_pos hq]; obtain ⟨v, a, b⟩ := h; exact ⟨v, a, hk _ _ b⟩
      · rename_i hq; rw [if_neg hq]; exact h.mono hk
    · exact h
  · exact fun id hd ht => opI_mono (h id hd ht) hk
  · exact fun id hd => opI_mono (h id hd) hk
  · exact fun id hd => opI_mono (h id hd) hk
  · exact fun id hd ht => opI_mono (h id hd ht) hk
  · exact fun id hd => opI_mono (h id hd) hk
  · exact fun id hd => opI_mono (h id hd) hk
  · exact opI_mono h hk

theorem stepS_sound (hΦ : Env.Ok P W0 Φ) {q : Quiet} {o : Op} {fr : Fr} {H : Heap} {K : V → Heap → Prop} (h : stepS P W0 Φ q o fr H K) : stepI P W0 q o fr H K := by
  unfold stepS at h
  split at h
  · rename_i g args ts
    split at h
    · rename_i f cap hg
      split at h
      · rename_i s hs
        obtain ⟨v, h1, h2⟩ := h
        have hf := hΦ.get hs _ _ _ h1
        simp only [stepI, hg]
        by_cases hq : quietO q g = true
        · rw [if_pos hq]; exact ⟨v, hf, h2⟩
        · rw [if_neg hq]
          exact hf.mono fun v' H' ⟨a, b⟩ => by subst a b; exact h2
      · exact h
    · exact h.elim
  · exact h

theorem stepS_mono {q : Quiet} {o : Op} {fr : Fr} {H : Heap} {K K' : V → Heap → Prop} (h : stepS P W0 Φ q o fr H K) (hk : ∀ v H', K v H' → K' v H') : stepS P W0 Φ q o fr H K' := by
  unfold stepS at *
  split at h
  · split at h
    · split at h
      · obtain ⟨v, a, b⟩ := h; exact ⟨v, a, hk _ _ b⟩
      · exact stepI_mono h hk
    · exact h
  · exact stepI_mono h hk

theorem G1S_mono {q : Quiet} {o : IOp} {fr : Fr} {H : Heap} {K K' : Fr → Heap → Prop} (h : G1S P W0 Φ q o fr H K) (hk : ∀ v H', K v H' → K' v H') : G1S P W0 Φ q o fr H K' := by
  unfold G1S at *
  split at h
  · exact stepS_mono h fun v H' e => hk _ _ e
  · obtain ⟨x, a, b, c⟩ := h
    exact ⟨x, a, fun e => stepS_mono (b e) fun v H' e => hk _ _ e, fun e => hk _ _ (c e)⟩
theorem G1S_sound (hΦ : Env.Ok P W0 Φ) {q : Quiet} {o : IOp} {fr : Fr} {H : Heap} {K : Fr → Heap → Prop} (h : G1S P W0 Φ q o fr H K) : G1 P W0 q o fr H K := by
  obtain ⟨dst, op, g⟩ := o
  cases g with
  | none => exact stepS_sound hΦ h
  | some p =>
    obtain ⟨s, want⟩ := p
    obtain ⟨x, a, b, c⟩ := h
    simp only [G1]
    rw [a]
    cases x with
    | none => exact c (by simp)
    | some t =>
      simp only
      by_cases ht : t = want
      · rw [if_pos ht]; exact stepS_sound hΦ (b (by rw [ht]))
      · rw [if_neg ht]; exact c (by simpa using ht)
theorem SLS_mono {q : Quiet} {K K' : Fr → Heap → Prop} (hk : ∀ v H', K v H' → K' v H') : ∀ (l : List IOp) (fr : Fr) (H : Heap), SLS P W0 Φ q l fr H K → SLS P W0 Φ q l fr H K'
  | [], fr, H, h => hk _ _ h
  | o :: l, fr, H, h => G1S_mono h fun fr' H' e => SLS_mono hk l fr' H' e
theorem SLS_sound (hΦ : Env.Ok P W0 Φ) {q : Quiet} {K : Fr → Heap → Prop} : ∀ (l : List IOp) (fr : Fr) (H : Heap), SLS P W0 Φ q l fr H K → SL P W0 q l fr H K
  | [], fr, H, h => h
  | o :: l, fr, H, h => G1S_sound hΦ (G1S_mono h fun fr' H' e => SLS_sound hΦ l fr' H' e)

variable {loud : Nat → Nat → Bool}
theorem wpS_mono : ∀ (c : IC) (Q Q' : EX → Fr → Heap → Prop) (fr : Fr) (H : Heap), (∀ e fr' H', Q e fr' H' → Q' e fr' H') → wpS P W0 Φ loud c Q fr H → wpS P W0 Φ loud c Q' fr H := by
  intro c
  induction c with
  | skip => intro Q Q' fr H hq h; exact hq _ _ _ h
  | reg id ops draw => intro Q Q' fr H hq h; exact SLS_mono (fun fr' H' e => hq _ _ _ e) ops fr H h
  | seq a b iha ihb =>
    intro Q Q' fr H hq h
    refine iha _ _ fr H ?_ h
    intro e fr' H' he
    cases e with
    | normal => exact ihb _ _ fr' H' hq he
    | exit id => exact hq _ _ _ he
    | ret => exact hq _ _ _ he
  | cond c a b iha ihb =>
    intro Q Q' fr H hq h
    obtain ⟨t, h1, h2, h3⟩ := h
    exact ⟨t, h1, fun e => iha _ _ fr H hq (h2 e), fun e => ihb _ _ fr H hq (h3 e)⟩
  | block id a iha =>
    intro Q Q' fr H hq h
    refine iha _ _ fr H ?_ h
    intro e fr' H' he
    cases e with
    | normal => exact hq _ _ _ he
    | exit i =>
      simp only at he ⊢
      split at he
      · rename_i hi; rw [if_pos hi]; exact hq _ _ _ he
      · rename_i hi; rw [if_neg hi]; exact hq _ _ _ he
    | ret => exact hq _ _ _ he
  | loop a iha =>
    intro Q Q' fr H hq h
    obtain ⟨I, h0, h1⟩ := h
    refine ⟨I, h0, fun n fr' H' hi => iha _ _ fr' H' ?_ (h1 n fr' H' hi)⟩
    intro e fr'' H'' he
    cases e with
    | normal => exact he
    | exit id => exact hq _ _ _ he
    | ret => exact hq _ _ _ he
  | exit id => intro Q Q' fr H hq h; exact hq _ _ _ h
  | ret => intro Q Q' fr H hq h; exact hq _ _ _ h
theorem wpS_sound (hΦ : Env.Ok P W0 Φ) : ∀ (c : IC) (Q : EX → Fr → Heap → Prop) (fr : Fr) (H : Heap), wpS P W0 Φ loud c Q fr H → wpI P W0 loud c Q fr H := by
  intro c
  induction c with
  | skip => intro Q fr H h; exact h
  | reg id ops draw => intro Q fr H h; exact SLS_sound hΦ ops fr H h
  | seq a b iha ihb =>
    intro Q fr H h
    refine iha _ fr H (wpS_mono a _ _ fr H ?_ h)
    intro e fr' H' he
    cases e with
    | normal => exact ihb _ fr' H' he
    | exit id => exact he
    | ret => exact he
  | cond c a b iha ihb =>
    intro Q fr H h
    obtain ⟨t, h1, h2, h3⟩ := h
    exact ⟨t, h1, fun e => iha _ fr H (h2 e), fun e => ihb _ fr H (h3 e)⟩
  | block id a iha => intro Q fr H h; exact iha _ fr H h
  | loop a iha =>
    intro Q fr H h
    obtain ⟨I, h0, h1⟩ := h
    exact ⟨I, h0, fun n fr' H' hi => iha _ fr' H' (h1 n fr' H' hi)⟩
  | exit id => intro Q fr H h; exact h
  | ret => intro Q fr H h; exact h

/-- What was there is there still. -/
def Keeps (H0 H : Heap) : Prop := ∀ i, H0 i ≠ .dead → H i = H0 i
theorem Keeps.refl (H : Heap) : Keeps H H := fun _ _ => rfl
theorem Keeps.set {H0 H : Heap} {i : Nat} {o : Obj} (h : Keeps H0 H) (hd : H0 i = .dead) : Keeps H0 (H.set i o) := fun j hj => by
  have : j ≠ i := fun e => hj (e ▸ hd)
  rw [Heap.set_ne _ _ this]; exact h j hj
theorem Keeps.dead {H0 H : Heap} {i : Nat} (h : Keeps H0 H) (hd : H i = .dead) : H0 i = .dead := by
  cases he : H0 i with
  | dead => rfl
  | _ => have := h i (by simp [he]); rw [hd, he] at this; cases this

/-- What a pure function ends in: its value; what was there is there still. -/
def RetP (P : Program) (rs : List ResultVar) (H0 : Heap) (v : V) (fr : Fr) (H : Heap) : Prop :=
  ∃ vs, resAll P H fr rs = some vs ∧ mkRes (frzAll H vs).1 = v ∧ Keeps H0 (frzAll H vs).2
theorem RetP.ret {rs : List ResultVar} {H0 : Heap} {v : V} {fr : Fr} {H : Heap} (h : RetP P rs H0 v fr H) : Ret P rs (fun v' H' => v' = v ∧ H' = H0) fr H := by
  obtain ⟨vs, a, b, c⟩ := h
  refine ⟨vs, a, H0, fun i => ?_, b, rfl⟩
  by_cases hi : H0 i = .dead
  · exact .inl hi
  · exact .inr (c i hi).symm

/-- A pure function, out of its body. -/
theorem PureF.of_body {f : FuncId} {fn : Func} {c : Code} {ic : IC} {s : Sem1} (loud : Nat → Nat → Bool) (hΦ : Env.Ok P W0 Φ) (hm : P.follows .mixedOrders = true) (hf : P.funcs[f]? = some fn) (hb : fn.body = some c)
    (hic : IC.of c = some ic) (hname : (fn.name == "runtime.NumGoroutine") = false) (hok : okCode P fn.ntmps loud c = true) {rs : List ResultVar} (hrs : fn.results.toList = rs)
    (h : ∀ args H v, s args H = some v → args.length ≤ fn.ntmps ∧ wpS P W0 Φ loud ic (atEnd (RetP P rs H v)) (start args) H) : PureF P W0 f s := by
  intro args H v hs
  obtain ⟨h1, h2⟩ := h args H v hs
  subst hrs
  refine .of_body loud hm hf hb hic hname hok h1 (wpS_sound hΦ ic _ _ H (wpS_mono ic _ _ _ H ?_ h2))
  intro e fr' H' he
  cases e with
  | normal => exact RetP.ret he
  | exit id => exact he.elim
  | ret => exact RetP.ret he
/-- .. with whatever contract. -/
theorem IT.of_bodyS {f : FuncId} {fn : Func} {c : Code} {ic : IC} {args : List V} {H : Heap} {R : V → Heap → Prop} (loud : Nat → Nat → Bool) (hΦ : Env.Ok P W0 Φ) (hm : P.follows .mixedOrders = true) (hf : P.funcs[f]? = some fn) (hb : fn.body = some c)
    (hic : IC.of c = some ic) (hname : (fn.name == "runtime.NumGoroutine") = false) (hok : okCode P fn.ntmps loud c = true) {rs : List ResultVar} (hrs : fn.results.toList = rs) (ha : args.length ≤ fn.ntmps)
    (h : wpS P W0 Φ loud ic (atEnd (Ret P rs R)) (start args) H) : IT P W0 f args H R := by
  subst hrs
  exact .of_body loud hm hf hb hic hname hok ha (wpS_sound hΦ ic _ _ H h)
theorem IT.of_bodyS_raw {f : FuncId} {fn : Func} {c : Code} {ic : IC} {args : List V} {H : Heap} {R : V → Heap → Prop} (loud : Nat → Nat → Bool) (hΦ : Env.Ok P W0 Φ) (hm : P.follows .mixedOrders = true) (hf : P.funcs[f]? = some fn) (hb : fn.body = some c)
    (hic : IC.of c = some ic) (hname : (fn.name == "runtime.NumGoroutine") = false) (hok : okCode P fn.ntmps loud c = true) {rs : List ResultVar} (hrs : fn.results.toList = rs) (ha : args.length ≤ fn.ntmps)
    (h : wpS P W0 Φ loud ic (atEnd (RetRaw P rs R)) (start args) H) : IT P W0 f args H R := by
  subst hrs
  exact .of_body_raw loud hm hf hb hic hname hok ha (wpS_sound hΦ ic _ _ H h)
end
end Go.IL
