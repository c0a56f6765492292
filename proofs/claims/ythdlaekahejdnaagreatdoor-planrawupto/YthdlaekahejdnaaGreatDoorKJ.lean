import Derived.Test.YthdlaekahejdnaaGreatDoorKI
import Derived.Shelf.Strings.Builder1
import Derived.RowKit
set_option linter.unusedVariables false
set_option linter.unusedSimpArgs false
namespace Go.Proofs.W
set_option linter.unusedSimpArgs false
set_option maxRecDepth 20000
open Go Go.IL Go.Proofs
def plMake.R0 : IC :=
  (.reg 15 [⟨some 53, (.binOp .add 3 (.tmp (28 : Nat)) (.const (.int .i64 1)) 3), none⟩,
    ⟨some 28, (.move (.tmp (53 : Nat))), none⟩] false)
def plMake.L0 : IC :=
  (.seq (.reg 6 [⟨some 29, (.binOp .lss 3 (.tmp (28 : Nat)) (.tmp (27 : Nat)) 3), none⟩] false)
  (.seq (.cond (.tmp (29 : Nat)) .skip (.exit 0))
  (.seq (.block 1 (.seq (.reg 7 [⟨some 30, (.indexAddr 71 (.tmp (26 : Nat)) (.tmp (28 : Nat))), none⟩,
    ⟨some 31, (.load 82 (.tmp (30 : Nat))), none⟩,
    ⟨some 10, (.alloc 82), none⟩,
    ⟨none, (.store 82 (.tmp (10 : Nat)) (.tmp (31 : Nat))), none⟩] false)
  (.seq (.reg 8 [⟨some 32, (.fieldAddr 82 (.tmp (10 : Nat)) 0), none⟩,
    ⟨some 33, (.fieldAddr 80 (.tmp (32 : Nat)) 0), none⟩,
    ⟨some 34, (.load 3 (.tmp (33 : Nat))), none⟩] false)
  (.block 2 (.seq (.reg 10 [⟨some 40, (.binOp .eql 3 (.tmp (34 : Nat)) (.const (.int .i64 0)) 3), none⟩,
    ⟨some 39, (.assign (.tmp (40 : Nat))), none⟩] false)
  (.cond (.tmp (39 : Nat)) (.seq (.reg 11 [⟨some 41, (.move (.tmp (0 : Nat))), none⟩,
    ⟨some 42, (.call { callee := (.value (.func (29 : Nat))), args := #[(.tmp (41 : Nat)), (.const (.int .i64 2))], argTypes := #[29, 3] }), none⟩,
    ⟨some 43, (.call { callee := (.builtin .len), args := #[(.tmp (42 : Nat))], argTypes := #[43] }), none⟩,
    ⟨some 44, (.binOp .gtr 3 (.tmp (43 : Nat)) (.const (.int .i64 0)) 3), none⟩] false)
  (.cond (.tmp (44 : Nat)) (.seq (.reg 12 [⟨some 45, (.build 33 #[(0, (.const (.int .i64 1)))]), none⟩,
    ⟨some 46, (.buildSlice 24 1 #[(0, (.tmp (45 : Nat)))]), none⟩,
    ⟨some 4, (.assign (.tmp (46 : Nat))), none⟩,
    ⟨some 5, (.assign (.const (.int .i64 0))), none⟩] false)
  .ret) .skip)) (.seq (.reg 13 [⟨some 48, (.binOp .eql 3 (.tmp (34 : Nat)) (.const (.int .i64 1)) 3), none⟩,
    ⟨some 47, (.assign (.tmp (48 : Nat))), none⟩] false)
  (.cond (.tmp (47 : Nat)) (.reg 14 [⟨some 49, (.move (.tmp (8 : Nat))), none⟩,
    ⟨some 50, (.fieldAddr 82 (.tmp (10 : Nat)) 0), none⟩,
    ⟨some 51, (.load 80 (.tmp (50 : Nat))), none⟩,
    ⟨some 52, (.call { callee := (.value (.func (30 : Nat))), args := #[(.tmp (49 : Nat)), (.tmp (51 : Nat))], argTypes := #[74, 80] }), none⟩] false) (.reg 9 [⟨some 35, (.move (.tmp (8 : Nat))), none⟩,
    ⟨some 36, (.fieldAddr 82 (.tmp (10 : Nat)) 0), none⟩,
    ⟨some 37, (.load 80 (.tmp (36 : Nat))), none⟩,
    ⟨some 38, (.call { callee := (.value (.func (31 : Nat))), args := #[(.tmp (35 : Nat)), (.tmp (37 : Nat))], argTypes := #[74, 80] }), none⟩] false)))))))))
  (cutIC plMake.R0))))
def plMake.R1 : IC :=
  (.seq (.reg 16 [⟨some 54, (.move (.tmp (8 : Nat))), none⟩,
    ⟨some 55, (.call { callee := (.value (.func (32 : Nat))), args := #[(.tmp (54 : Nat))], argTypes := #[74] }), none⟩,
    ⟨some 4, (.assign (.tmp (55 : Nat))), none⟩,
    ⟨some 5, (.assign (.const (.int .i64 0))), none⟩] false)
  .ret)
def plMake.c : IC :=
  (.seq (.reg 0 [⟨some 4, (.assign (.const (.slice none 0 0))), none⟩,
    ⟨some 5, (.assign (.const (.int .i64 0))), none⟩] false)
  (.seq (.reg 1 [⟨some 12, (.move (.tmp (0 : Nat))), none⟩,
    ⟨some 13, (.move (.tmp (1 : Nat))), none⟩,
    ⟨some 14, (.call { callee := (.value (.func (28 : Nat))), args := #[(.tmp (12 : Nat)), (.tmp (13 : Nat))], argTypes := #[29, 29] }), none⟩,
    ⟨some 11, (.move (.tmp (14 : Nat))), none⟩,
    ⟨some 15, (.extract (.tmp (11 : Nat)) 0), none⟩,
    ⟨some 16, (.extract (.tmp (11 : Nat)) 1), none⟩,
    ⟨some 6, (.assign (.tmp (15 : Nat))), none⟩,
    ⟨some 7, (.assign (.tmp (16 : Nat))), none⟩] false)
  (.seq (.seq (.reg 2 [⟨some 17, (.move (.tmp (7 : Nat))), none⟩,
    ⟨some 18, (.binOp .neq 25 (.tmp (17 : Nat)) (.const (.int .i64 0)) 25), none⟩] false)
  (.cond (.tmp (18 : Nat)) (.seq (.reg 3 [⟨some 19, (.move (.tmp (7 : Nat))), none⟩,
    ⟨some 4, (.assign (.const (.slice none 0 0))), none⟩,
    ⟨some 5, (.assign (.tmp (19 : Nat))), none⟩] false)
  .ret) .skip))
  (.seq (.reg 4 [⟨some 20, (.move (.tmp (0 : Nat))), none⟩,
    ⟨some 21, (.move (.tmp (1 : Nat))), none⟩,
    ⟨some 22, (.makeMap 75 none), none⟩,
    ⟨some 23, (.makeMap 76 none), none⟩,
    ⟨some 24, (.build 78 #[(0, (.tmp (20 : Nat))), (1, (.tmp (21 : Nat))), (2, (.tmp (22 : Nat))), (3, (.tmp (23 : Nat)))]), none⟩,
    ⟨some 25, (.box 78 (.tmp (24 : Nat))), none⟩,
    ⟨some 8, (.assign (.tmp (25 : Nat))), none⟩] false)
  (.seq (.seq (.reg 5 [⟨some 26, (.move (.tmp (6 : Nat))), none⟩,
    ⟨some 27, (.call { callee := (.builtin .len), args := #[(.tmp (26 : Nat))], argTypes := #[71] }), none⟩,
    ⟨some 28, (.move (.const (.int .i64 0))), none⟩] false)
  (.block 0 (.loop plMake.L0)))
  (cutIC plMake.R1))))))
theorem plMake.of : Tryz.f7.body.bind IC.of = some plMake.c := by kernel_rfl
theorem plMake.ok : Tryz.f7.body.map (okCode Tryz.prog Tryz.f7.ntmps (fun _ _ => false)) = some true := by kernel_rfl
variable {W0 : World}
/-- The plan: change after change. -/
def planB (a b : List Line) : Plan → List Change → List Act
  | st, [] => actsB st
  | st, c :: cs => if c.line.head = 0 then (if 0 < (namesB a 2).length then [⟨1, []⟩] else planB a b st cs)
    else if c.line.head = 1 then planB a b (areaB a b st c.line) cs
    else planB a b { st with faces := ifaceB a b st.faces c.line } cs
def makeB (a b : List Line) : List Act := planB a b ⟨[], []⟩ (diffB a b)
def sMake : Sem1 := fun args _ => match args with
  | [x, y] => (confOf x).bind fun a => (confOf y).bind fun b => if confOk a ∧ confOk b then
      some (if rightsB a = true ∧ rightsB b = true then .tup [.sl ((makeB a b).map actV), .val (.int .i64 0)] else .tup [.sl [], .val (.int .i64 1)]) else none
  | _ => none
@[go_sem] theorem sMake_eq (x y : V) (H : Heap) : sMake [x, y] H = (confOf x).bind fun a => (confOf y).bind fun b => if confOk a ∧ confOk b then
      some (if rightsB a = true ∧ rightsB b = true then .tup [.sl ((makeB a b).map actV), .val (.int .i64 0)] else .tup [.sl [], .val (.int .i64 1)]) else none := rfl
theorem least_len (f : List (Text × Int)) (n : Text) (k : Int) : (leastB f n k).length ≤ f.length + 1 := by
  unfold leastB
  split
  · split
    · split
      · simp
      · omega
    · omega
  · simp
theorem faces_len (a b : List Line) (m : Text) : ∀ (ns : List Text) (f : List (Text × Int)), (ns.foldl (facesB a b m) f).length ≤ f.length + ns.length
  | [], f => by simp
  | n :: ns, f => by
    have := faces_len a b m ns (facesB a b m f n)
    have h2 : (facesB a b m f n).length ≤ f.length + 1 := by
      unfold facesB
      split
      · exact least_len _ _ _
      · omega
    simp only [List.foldl_cons, List.length_cons]; omega
theorem add_len (s : List Text) (n : Text) : (addB s n).length ≤ s.length + 1 := by
  unfold addB
  split
  · omega
  · simp
theorem area_len (a b : List Line) (st : Plan) (l : Line) : (areaB a b st l).faces.length ≤ st.faces.length + 64 ∧ (areaB a b st l).areas.length ≤ st.areas.length + 64 := by
  unfold areaB
  split
  · exact ⟨by simp, by have := add_len st.areas l.name; simp; omega⟩
  · refine ⟨?_, by simp⟩
    have := faces_len a b l.name (namesB a 2) st.faces
    have := names_len a 2
    simp; omega
theorem iface_len (a b : List Line) (f : List (Text × Int)) (l : Line) : (ifaceB a b f l).length ≤ f.length + 64 := by
  have := least_len f l.name (if hasB b l.name = true then (if hasB a l.name = true then kindB ((findRow l.head l.leaf).getD row0).cls else 6) else 2)
  unfold ifaceB; omega
theorem diffP_len : ∀ (n : Nat) (a b : List Line), (diffP n a b).length ≤ n
  | 0, _, _ => by simp [diffP]
  | n + 1, [], [] => by simp [diffP]
  | n + 1, x :: a, [] => by have := diffP_len n a []; simp [diffP]; omega
  | n + 1, [], y :: b => by have := diffP_len n [] b; simp [diffP]; omega
  | n + 1, x :: a, y :: b => by
    have q1 := diffP_len n a (y :: b)
    have q2 := diffP_len n (x :: a) b
    have q3 := diffP_len n a b
    unfold diffP
    repeat' split
    all_goals first | (simp only [List.length_cons]; omega) | omega
theorem diff_len {a b : List Line} (ha : rightsB a = true) (hb : rightsB b = true) : (diffB a b).length ≤ 128 := by
  have la : a.length ≤ 64 := by unfold rightsB at ha; simp only [Bool.and_eq_true, decide_eq_true_eq] at ha; exact ha.2
  have lb : b.length ≤ 64 := by unfold rightsB at hb; simp only [Bool.and_eq_true, decide_eq_true_eq] at hb; exact hb.2
  have := diffP_len (a.length + b.length) a b
  unfold diffB; omega
theorem conf_cells {x : V} {a : List Line} (h : confOf x = some a) : x.cells = [x] ∧ x.shown = true := by
  rcases confOf_cases h with ⟨rfl, -⟩ | rfl <;> exact ⟨rfl, rfl⟩
theorem w_plMake (h1 : PureF Tryz.prog W0 28 sDiff) (h2 : PureF Tryz.prog W0 29 sNames) (g1 : PureF Tryz.prog W0 74 sHasC) (g2 : PureF Tryz.prog W0 76 sFind) (g3 : PureF Tryz.prog W0 77 sKind) (g4 : PureF Tryz.prog W0 73 sIn) : PureF Tryz.prog W0 7 sMake := by
  refine PureF.of (rs := [(.tmp 4), (.tmp 5)]) (fun _ _ => false) (Φ := [(28, sDiff), (29, sNames)]) ⟨h1, h2, trivial⟩ T.mixed Tryz.func7 plMake.of rfl plMake.ok rfl ?_
  intro args H v hs
  unfold sMake at hs
  split at hs
  · rename_i x y
    simp only [Option.bind_eq_some_iff] at hs
    obtain ⟨a, ha, b, hb, hs⟩ := hs
    split at hs
    · rename_i hok
      obtain ⟨oka, okb⟩ := hok
      refine ⟨by simp [Tryz.f7], ?_⟩
      unfold plMake.c
      by_cases hr : rightsB a = true ∧ rightsB b = true
      · rw [if_pos hr] at hs
        cases hs
        have hdl := diff_len hr.1 hr.2
        obtain ⟨cx, sx⟩ := conf_cells ha
        obtain ⟨cy, sy⟩ := conf_cells hb
        simp (implicitDefEqProofs := false) only [go_sem, reduceIte, Nat.reduceEqDiff, Nat.reduceAdd, Nat.reduceSub, Nat.reduceMul, Nat.reduceLeDiff, Int.reduceLT, Int.reduceLE, Int.reduceEq, Int.reduceAdd, Int.reduceSub, Int.reduceMul, Int.reduceNeg, Int.reduceToNat, reduceCtorEq, Nat.reduceBEq, Nat.reduceLT, ha, hb, oka, okb, hr.1, hr.2, cx, cy, sx, sy]
        intro mi hmi ni mj n1 n2 hmj nj p n3 n4 n5 n6 hp
        have e1 : mi ≠ p := fun e => by subst e; exact n5 rfl
        have e2 : mj ≠ p := fun e => by subst e; exact n3 rfl
        have hpa : PlanAt (((H.set mi (IL.Obj.map [])).set mj (IL.Obj.map [])).set p (IL.Obj.mem 4 [V.agg [x, y, V.mp mi, V.mp mj]])) p mi mj x y ⟨[], []⟩ := by
          refine ⟨Heap.set_same _ _ _, ?_, ?_, ?_, ?_, fun e => by subst e; exact n2 rfl⟩
          · rw [Heap.set_ne _ _ e1, Heap.set_ne _ _ (fun e => n2 e), Heap.set_same]; rfl
          · rw [Heap.set_ne _ _ e2, Heap.set_same]; rfl
          · exact noIter_set (noIter_set (noIter_set ni (by intro s e; cases e)) (by intro s e; cases e)) (by intro s e; cases e)
          · exact noIter_set (noIter_set nj (by intro s e; cases e)) (by intro s e; cases e)
        have hkeep : ∀ {H'' st}, PlanTo (((H.set mi (IL.Obj.map [])).set mj (IL.Obj.map [])).set p (IL.Obj.mem 4 [V.agg [x, y, V.mp mi, V.mp mj]])) H'' p mi mj x y st → Keeps H H'' := by
          intro H'' st h k hk
          have k1 : k ≠ p := fun e => hk (by rw [e]; exact hp)
          have k2 : k ≠ mi := fun e => hk (by rw [e]; exact hmi)
          have k3 : k ≠ mj := fun e => hk (by rw [e]; exact hmj)
          have e0 : (((H.set mi (IL.Obj.map [])).set mj (IL.Obj.map [])).set p (IL.Obj.mem 4 [V.agg [x, y, V.mp mi, V.mp mj]])) k = H k := by rw [Heap.set_ne _ _ k1, Heap.set_ne _ _ k3, Heap.set_ne _ _ k2]
          rw [h.2 k (by rw [e0]; exact hk) k2 k3, e0]
        have hp0 := PlanTo.start hpa
        generalize ((H.set mi (IL.Obj.map [])).set mj (IL.Obj.map [])).set p (IL.Obj.mem 4 [V.agg [x, y, V.mp mi, V.mp mj]]) = Hb at *
        clear hpa
        have hmk : makeB a b = planB a b ⟨[], []⟩ (diffB a b) := rfl
        generalize diffB a b = cs at *
        refine wpO_up cs.length (fun i fr H' => i ≤ cs.length ∧ fr 0 = x ∧ fr 8 = .ptr p 4 0 0 ∧ fr 26 = .sl (cs.map changeV) ∧ fr 27 = .val (.int .i64 (cs.length : Nat)) ∧ fr 28 = .val (.int .i64 i) ∧
          ∃ st : Plan, PlanTo Hb H' p mi mj x y st ∧ planB a b st (cs.drop i) = makeB a b ∧ st.faces.length ≤ i * 64 ∧ st.areas.length ≤ i * 64) 0 ?_ ?_
        · simp (implicitDefEqProofs := false) only [go_sem, reduceIte, Nat.reduceEqDiff, Nat.reduceAdd, Nat.reduceSub, Nat.reduceMul, Nat.reduceLeDiff, Int.reduceLT, Int.reduceLE, Int.reduceEq, Int.reduceAdd, Int.reduceSub, Int.reduceMul, Int.reduceNeg, Int.reduceToNat, reduceCtorEq, Nat.reduceBEq, Nat.reduceLT]
          exact ⟨Nat.zero_le _, ⟨[], []⟩, hp0, hmk.symm, by simp, by simp⟩
        · rintro i fr H' ⟨hi, f0, f8, f26, f27, f28, st, hto, hpl, hlf, hla⟩
          unfold plMake.L0
          have hw : IntKind.i64.wrap ((i : Int) + 1) = ((i + 1 : Nat) : Int) := wrap64 (by omega)
          by_cases hlt : i < cs.length
          · obtain ⟨c, hc⟩ : ∃ c, cs[i]? = some c := ⟨_, List.getElem?_eq_getElem hlt⟩
            have hdr : cs.drop i = c :: cs.drop (i + 1) := by
              rw [List.drop_eq_getElem_cons hlt]
              rw [List.getElem?_eq_getElem hlt] at hc
              cases hc; rfl
            rw [hdr, planB] at hpl
            by_cases c0 : c.line.head = 0
            · rw [if_pos c0] at hpl
              by_cases cn : 0 < (namesB a 2).length
              · rw [if_pos cn] at hpl
                have cn' : (0 : Int) < ((namesB a 2).length : Int) := by omega
                simp (implicitDefEqProofs := false) (contextual := true) only [go_sem, reduceIte, Nat.reduceEqDiff, Nat.reduceAdd, Nat.reduceSub, Nat.reduceMul, Nat.reduceLeDiff, Int.reduceLT, Int.reduceLE, Int.reduceEq, Int.reduceAdd, Int.reduceSub, Int.reduceMul, Int.reduceNeg, Int.reduceToNat, reduceCtorEq, Nat.reduceBEq, Nat.reduceLT, f0, f8, f26, f27, f28, hlt, hc, changeV, c0, ha, oka, cn']
                intro id hid id1 n1 n2 hid1
                have hto1 := hto.new (o := IL.Obj.mem 6 [V.agg [V.val (Value.int IntKind.i64 0), V.str c.line.name, V.str c.line.leaf, V.str c.line.value, V.str c.old, V.str c.new]]) hid (by intro m s e; cases e)
                exact ⟨by rw [← hpl]; rfl, (hkeep hto1).set ((hkeep hto).dead hid1)⟩
              · rw [if_neg cn] at hpl
                have cn' : ¬ (0 : Int) < ((namesB a 2).length : Int) := by omega
                simp (implicitDefEqProofs := false) (contextual := true) only [go_sem, reduceIte, Nat.reduceEqDiff, Nat.reduceAdd, Nat.reduceSub, Nat.reduceMul, Nat.reduceLeDiff, Int.reduceLT, Int.reduceLE, Int.reduceEq, Int.reduceAdd, Int.reduceSub, Int.reduceMul, Int.reduceNeg, Int.reduceToNat, reduceCtorEq, Nat.reduceBEq, Nat.reduceLT, f0, f8, f26, f27, f28, hlt, hc, changeV, c0, ha, oka, cn']
                intro id hid
                have hto1 := hto.new (o := IL.Obj.mem 6 [V.agg [V.val (Value.int IntKind.i64 0), V.str c.line.name, V.str c.line.leaf, V.str c.line.value, V.str c.old, V.str c.new]]) hid (by intro m s e; cases e)
                rw [wpO_eq]
                unfold plMake.R0
                simp (implicitDefEqProofs := false) only [go_sem, reduceIte, Nat.reduceEqDiff, Nat.reduceAdd, Nat.reduceSub, Nat.reduceMul, Nat.reduceLeDiff, Int.reduceLT, Int.reduceLE, Int.reduceEq, Int.reduceAdd, Int.reduceSub, Int.reduceMul, Int.reduceNeg, Int.reduceToNat, reduceCtorEq, Nat.reduceBEq, Nat.reduceLT, f28, hw]
                exact ⟨hlt, by omega, f0, f8, f26, f27, st, hto1, hpl, by omega, by omega⟩
            · rw [if_neg c0] at hpl
              by_cases c1 : c.line.head = 1
              · rw [if_pos c1] at hpl
                simp (implicitDefEqProofs := false) (contextual := true) only [go_sem, reduceIte, Nat.reduceEqDiff, Nat.reduceAdd, Nat.reduceSub, Nat.reduceMul, Nat.reduceLeDiff, Int.reduceLT, Int.reduceLE, Int.reduceEq, Int.reduceAdd, Int.reduceSub, Int.reduceMul, Int.reduceNeg, Int.reduceToNat, reduceCtorEq, Nat.reduceBEq, Nat.reduceLT, f0, f8, f26, f27, f28, hlt, hc, changeV, c0, c1]
                intro id hid
                have hto1 := hto.new (o := IL.Obj.mem 6 [V.agg [V.val (Value.int IntKind.i64 1), V.str c.line.name, V.str c.line.leaf, V.str c.line.value, V.str c.old, V.str c.new]]) hid (by intro m s e; cases e)
                have hl : V.agg [V.val (Value.int IntKind.i64 1), V.str c.line.name, V.str c.line.leaf, V.str c.line.value] = lineV c.line := by unfold lineV; rw [c1]
                rw [itO_eq, hl]
                refine (w_plArea g1 g4 h2 ha hb oka okb hto1.1 c.line).mono ?_
                rintro v H2 ⟨rfl, hto2⟩
                obtain ⟨q1, q2⟩ := area_len a b st c.line
                simp (implicitDefEqProofs := false) only [go_sem, reduceIte, Nat.reduceEqDiff, Nat.reduceAdd, Nat.reduceSub, Nat.reduceMul, Nat.reduceLeDiff, Int.reduceLT, Int.reduceLE, Int.reduceEq, Int.reduceAdd, Int.reduceSub, Int.reduceMul, Int.reduceNeg, Int.reduceToNat, reduceCtorEq, Nat.reduceBEq, Nat.reduceLT]
                rw [wpO_eq]
                unfold plMake.R0
                simp (implicitDefEqProofs := false) only [go_sem, reduceIte, Nat.reduceEqDiff, Nat.reduceAdd, Nat.reduceSub, Nat.reduceMul, Nat.reduceLeDiff, Int.reduceLT, Int.reduceLE, Int.reduceEq, Int.reduceAdd, Int.reduceSub, Int.reduceMul, Int.reduceNeg, Int.reduceToNat, reduceCtorEq, Nat.reduceBEq, Nat.reduceLT, f28, hw]
                exact ⟨hlt, by omega, f0, f8, f26, f27, _, hto1.trans hto2, hpl, by omega, by omega⟩
              · rw [if_neg c1] at hpl
                simp (implicitDefEqProofs := false) (contextual := true) only [go_sem, reduceIte, Nat.reduceEqDiff, Nat.reduceAdd, Nat.reduceSub, Nat.reduceMul, Nat.reduceLeDiff, Int.reduceLT, Int.reduceLE, Int.reduceEq, Int.reduceAdd, Int.reduceSub, Int.reduceMul, Int.reduceNeg, Int.reduceToNat, reduceCtorEq, Nat.reduceBEq, Nat.reduceLT, f0, f8, f26, f27, f28, hlt, hc, changeV, c0, c1]
                intro id hid
                have hto1 := hto.new (o := IL.Obj.mem 6 [V.agg [V.val (Value.int IntKind.i64 c.line.head), V.str c.line.name, V.str c.line.leaf, V.str c.line.value, V.str c.old, V.str c.new]]) hid (by intro m s e; cases e)
                rw [itO_eq]
                refine (w_plIface g1 g2 g3 ha hb oka okb hto1.1 c.line).mono ?_
                rintro v H2 ⟨rfl, hto2⟩
                have q1 := iface_len a b st.faces c.line
                simp (implicitDefEqProofs := false) only [go_sem, reduceIte, Nat.reduceEqDiff, Nat.reduceAdd, Nat.reduceSub, Nat.reduceMul, Nat.reduceLeDiff, Int.reduceLT, Int.reduceLE, Int.reduceEq, Int.reduceAdd, Int.reduceSub, Int.reduceMul, Int.reduceNeg, Int.reduceToNat, reduceCtorEq, Nat.reduceBEq, Nat.reduceLT]
                rw [wpO_eq]
                unfold plMake.R0
                simp (implicitDefEqProofs := false) only [go_sem, reduceIte, Nat.reduceEqDiff, Nat.reduceAdd, Nat.reduceSub, Nat.reduceMul, Nat.reduceLeDiff, Int.reduceLT, Int.reduceLE, Int.reduceEq, Int.reduceAdd, Int.reduceSub, Int.reduceMul, Int.reduceNeg, Int.reduceToNat, reduceCtorEq, Nat.reduceBEq, Nat.reduceLT, f28, hw]
                exact ⟨hlt, by omega, f0, f8, f26, f27, _, hto1.trans hto2, hpl, by simp; omega, by simp; omega⟩
          · have hic : i = cs.length := by omega
            subst hic
            rw [List.drop_length, planB] at hpl
            simp (implicitDefEqProofs := false) only [go_sem, reduceIte, Nat.reduceEqDiff, Nat.reduceAdd, Nat.reduceSub, Nat.reduceMul, Nat.reduceLeDiff, Int.reduceLT, Int.reduceLE, Int.reduceEq, Int.reduceAdd, Int.reduceSub, Int.reduceMul, Int.reduceNeg, Int.reduceToNat, reduceCtorEq, Nat.reduceBEq, Nat.reduceLT, f0, f8, f26, f27, f28, hlt]
            rw [wpO_eq]
            unfold plMake.R1
            simp (implicitDefEqProofs := false) only [go_sem, reduceIte, Nat.reduceEqDiff, Nat.reduceAdd, Nat.reduceSub, Nat.reduceMul, Nat.reduceLeDiff, Int.reduceLT, Int.reduceLE, Int.reduceEq, Int.reduceAdd, Int.reduceSub, Int.reduceMul, Int.reduceNeg, Int.reduceToNat, reduceCtorEq, Nat.reduceBEq, Nat.reduceLT, f8]
            rw [itO_eq]
            refine (w_plActions hto.1 (by omega) (by omega)).mono ?_
            rintro v H2 ⟨rfl, hk2⟩
            rw [hpl]
            simp (implicitDefEqProofs := false) only [go_sem, reduceIte, Nat.reduceEqDiff, Nat.reduceAdd, Nat.reduceSub, Nat.reduceMul, Nat.reduceLeDiff, Int.reduceLT, Int.reduceLE, Int.reduceEq, Int.reduceAdd, Int.reduceSub, Int.reduceMul, Int.reduceNeg, Int.reduceToNat, reduceCtorEq, Nat.reduceBEq, Nat.reduceLT]
            exact fun k hk => by rw [hk2 k (by rw [hkeep hto k hk]; exact hk), hkeep hto k hk]
      · rw [if_neg hr] at hs
        cases hs
        by_cases hra : rightsB a = true
        · have hrb : rightsB b = false := by simpa using fun h => hr ⟨hra, h⟩
          simp (implicitDefEqProofs := false) only [go_sem, reduceIte, Nat.reduceEqDiff, Nat.reduceAdd, Nat.reduceSub, Nat.reduceMul, Nat.reduceLeDiff, Int.reduceLT, Int.reduceLE, Int.reduceEq, Int.reduceAdd, Int.reduceSub, Int.reduceMul, Int.reduceNeg, Int.reduceToNat, reduceCtorEq, Nat.reduceBEq, Nat.reduceLT, ha, hb, oka, okb, hra, hrb, and_false, false_and]
        · have hra : rightsB a = false := by simpa using hra
          simp (implicitDefEqProofs := false) only [go_sem, reduceIte, Nat.reduceEqDiff, Nat.reduceAdd, Nat.reduceSub, Nat.reduceMul, Nat.reduceLeDiff, Int.reduceLT, Int.reduceLE, Int.reduceEq, Int.reduceAdd, Int.reduceSub, Int.reduceMul, Int.reduceNeg, Int.reduceToNat, reduceCtorEq, Nat.reduceBEq, Nat.reduceLT, ha, hb, oka, okb, hra, and_false, false_and]
    · cases hs
  · cases hs
end Go.Proofs.W

namespace Go.Proofs.W
set_option linter.unusedSimpArgs false
set_option maxRecDepth 100000
open Go Go.IL Go.Proofs Go.RowKit
set_option maxHeartbeats 1000000
theorem copy_used (b : Nat) (w : World) (h0 : w.cell? ⟨b, 0, none⟩ = some (.pointer (some ⟨b, 0, none⟩))) :
    Calls Tryz.prog 84 #[.pointer (some ⟨b, 0, none⟩)] w fun e w' => e = .returned (.tuple #[]) ∧ w' = w := by
  obtain ⟨j, hj⟩ : ∃ j, Tryz.prog.info? 92 = some j := Option.isSome_iff_exists.1 T.is92
  go_enter Tryz.func84, Tryz.ntmps84
  go_wp2
  rw [Lib.run_neq_ptr_same w _ Tryz.underlying89 hj]
  go_wp2
  go_end0
  exact ⟨rfl, rfl⟩
theorem lies_self {P : Program} {e : TypeId} (hc : P.cellsOf e ≠ 0) (count : Nat) (hn : 1 ≤ count) : Go.liesAt P P.depth e count 0 e 1 = true := by
  have hd : P.depth = (2 * (P.types.size + Made.depth) + 1) + 1 := rfl
  rw [hd]
  simp only [Go.liesAt, Bool.or_eq_true]
  left
  rw [hd]
  simp [Go.rowAt, hc, hn, Go.sameLayout]
theorem copy_fresh (b n : Nat) (hn : 2 ≤ n) (w : World) (h0 : w.cell? ⟨b, 0, none⟩ = some (.pointer none)) (hsh : w.shape? b = some (92, n)) (hfz : w.frozen? ⟨b, 0, none⟩ = false) :
    Calls Tryz.prog 84 #[.pointer (some ⟨b, 0, none⟩)] w fun e w' => e = .returned (.tuple #[]) ∧ w' = w.setCell ⟨b, 0, none⟩ (.pointer (some ⟨b, 0, none⟩)) := by
  obtain ⟨j, hj⟩ : ∃ j, Tryz.prog.info? 92 = some j := Option.isSome_iff_exists.1 T.is92
  have hjs : j.size = 2 := by
    have h : (Tryz.prog.info? 92).map (·.size) = some 2 := by kernel_rfl
    rw [hj] at h; simpa using h
  have hco : Tryz.prog.cellsOf 92 = 2 := by kernel_rfl
  have hlies : Go.liesAt Tryz.prog Tryz.prog.depth 92 (n / Tryz.prog.cellsOf 92) 0 92 1 = true := lies_self (by rw [hco]; decide) _ (by rw [hco]; omega)
  go_enter Tryz.func84, Tryz.ntmps84
  go_wp2
  rw [Lib.run_to_unsafe w ⟨b, 0, none⟩ Tryz.underlying89 Tryz.underlying216 hj (by rw [hjs]; decide) hsh (Nat.lt_of_lt_of_le (Nat.zero_lt_succ 1) hn)]
  simp only [Result.andThen]
  rw [Oper.upon_value]
  go_wp2
  rw [run_callFunc_extern Tryz.func117 (by kernel_rfl) (by kernel_rfl) (by kernel_rfl) (e := Extern.AbiNoEscape.same) (by kernel_rfl)]
  rw [Lib.run_noEscape]
  simp only [Result.andThen]
  rw [Oper.upon_value]
  go_wp2
  rw [Lib.run_from_unsafe w ⟨b, 0, none⟩ Tryz.underlying216 Tryz.underlying89 hj hsh hlies]
  simp only [Result.andThen]
  rw [Oper.upon_value]
  go_wp2
  go_end0
  exact ⟨rfl, rfl⟩
theorem w_sbCopy {W0 : World} {H : Heap} {id : Nat} {p buf : V} (hH : H id = .mem 2 [.agg [p, buf]]) (ht : id % 4096 = 92) (hp : p = .val (.pointer none) ∨ p = .ptr id 2 0 0) :
    IT Tryz.prog W0 84 [.ptr id 2 0 0] H (fun v H' => v = .tup [] ∧ H' = H.set id (.mem 2 [.agg [.ptr id 2 0 0, buf]])) := by
  refine ⟨⟨_, Tryz.func84, by kernel_rfl, by kernel_rfl⟩, ?_⟩
  intro G nx w vals hsz hrep hb hs
  have hv : ∃ b, vals = #[.pointer (some ⟨b, 0, none⟩)] ∧ G.loc id = some b := by
    have h0 : 0 < vals.size := by rw [hsz]; exact Nat.zero_lt_one
    obtain ⟨b, h1, h2⟩ := rep_ptr (hrep 0 _ vals[0] rfl (by simp [h0]))
    refine ⟨b, ?_, h2⟩
    apply Array.ext
    · simpa using hsz
    · intro i hi hi'
      simp at hi'
      subst hi'
      simpa using h1
  obtain ⟨b, rfl, hl⟩ := hv
  obtain ⟨b', e1, e2, e3⟩ := hs.obj id (by rw [hH]; simp)
  rw [hl] at e1; cases e1
  rw [hH] at e3
  obtain ⟨arr, T, q1, qt, q2, q3, q3', q4, q5⟩ := e3
  have hT : T = 92 := by rw [← ht]; exact qt (by rw [ht]; decide)
  subst hT
  simp only [List.length_cons, List.length_nil, Nat.zero_add, Nat.one_mul] at q3
  have hc0 : w.cell? ⟨b, 0, none⟩ = some arr[0] := by simp [World.cell?, q1]
  have hr0 : Rep G p arr[0] := q5 0 0 _ p arr[0] rfl rfl (by simp)
  rcases hp with rfl | rfl
  · have hz := rep_val hr0
    have q3a : 2 ≤ arr.size := q3
    refine (copy_fresh b arr.size q3a w (by rw [hc0, hz]) (by simp [World.shape?, q1]) (by simp [World.frozen?, q1])).mono ?_
    rintro e w' ⟨rfl, rfl⟩
    have hset : w.setCell ⟨b, 0, none⟩ (.pointer (some ⟨b, 0, none⟩)) = setB w b (.cells (arr.setIfInBounds 0 (.pointer (some ⟨b, 0, none⟩))) 92 (0, 0)) := by
      unfold World.setCell setB
      rw [modify_set q1]
      rfl
    rw [hset]
    have hlay := hs.lay (id := id) (b := b) (by rw [hH]; simp) hl q1 (.cells (arr.setIfInBounds 0 (.pointer (some ⟨b, 0, none⟩))) 92 (0, 0)) (.mem 2 [.agg [.ptr id 2 0 0, buf]]) (by intro m l e; cases e) (by
      intro j m st hne hj hlm
      obtain ⟨c, g1, g2, g3⟩ := hs.obj j (by rw [hj]; simp)
      rw [hj] at g3
      obtain ⟨bm', es', cl', seen', k0, k1, k2, -⟩ := g3
      rw [hlm] at k0; cases k0
      rw [q1] at k2; cases k2) ⟨_, _, setB_same q1, qt, by simp [q2], by simpa using q3a, ?_, ?_, ?_⟩
    · exact ⟨_, rfl, .tup [], _, G, nx, Nat.le_refl _, hlay.2, hlay.1, .tup #[] rfl (by intro j v y h; simp at h), rfl, rfl⟩
    · intro j y hy
      rw [Array.getElem?_setIfInBounds] at hy
      split at hy
      · split at hy
        · cases hy; rfl
        · cases hy
      · exact q3' j y hy
    · intro k x hx
      cases k with
      | zero => simp at hx; subst hx; rfl
      | succ k => simp at hx
    · intro k j x v y hx hv hy
      cases k with
      | succ k => simp at hx
      | zero =>
        simp at hx
        subst hx
        rw [Array.getElem?_setIfInBounds] at hy
        simp only [Nat.zero_mul, Nat.zero_add] at hy
        match j with
        | 0 =>
          simp [V.cells] at hv
          subst hv
          have h0 : 0 < arr.size := by omega
          simp [h0] at hy
          subst hy
          have := Rep.ptr (G := G) (id := id) (es := 2) (k := 0) (j := 0) (b := b) hl
          simpa using this
        | 1 =>
          simp [V.cells] at hv
          subst hv
          simp at hy
          exact q5 0 1 _ buf y rfl rfl (by simpa using hy)
        | j + 2 => simp [V.cells] at hv
  · obtain ⟨b2, hz, hl2⟩ := rep_ptr hr0
    rw [hl] at hl2; cases hl2
    refine (copy_used b w (by rw [hc0, hz])).mono ?_
    rintro e w' ⟨rfl, rfl⟩
    exact ⟨_, rfl, .tup [], H, G, nx, Nat.le_refl _, Ext.refl _ _ _, hs, .tup #[] rfl (by intro j v y h; simp at h), rfl, by rw [← hH, set_self]⟩
end Go.Proofs.W

namespace Go.Proofs.W
set_option linter.unusedSimpArgs false
set_option maxRecDepth 20000
open Go Go.IL Go.Proofs
def sbWrite.c : IC :=
  (.seq (.reg 0 [⟨some 4, (.assign (.const (.int .i64 0))), none⟩,
    ⟨some 5, (.assign (.const .nilIface)), none⟩] false)
  (.seq (.reg 1 [⟨some 6, (.move (.tmp (0 : Nat))), none⟩,
    ⟨some 7, (.call { callee := (.value (.func (84 : Nat))), args := #[(.tmp (6 : Nat))], argTypes := #[89] }), none⟩] false)
  (.seq (.reg 2 [⟨some 8, (.move (.tmp (0 : Nat))), none⟩,
    ⟨some 9, (.move (.tmp (0 : Nat))), none⟩,
    ⟨some 10, (.nilCheck (.tmp (9 : Nat))), none⟩,
    ⟨some 11, (.fieldAddr 92 (.tmp (10 : Nat)) 1), none⟩,
    ⟨some 12, (.load 90 (.tmp (11 : Nat))), none⟩,
    ⟨some 13, (.move (.tmp (1 : Nat))), none⟩,
    ⟨some 14, (.call { callee := (.builtin .append), args := #[(.tmp (12 : Nat)), (.tmp (13 : Nat))], argTypes := #[90, 9] }), none⟩,
    ⟨some 15, (.nilCheck (.tmp (8 : Nat))), none⟩,
    ⟨some 16, (.fieldAddr 92 (.tmp (15 : Nat)) 1), none⟩,
    ⟨none, (.store 90 (.tmp (16 : Nat)) (.tmp (14 : Nat))), none⟩] false)
  (.seq (.reg 3 [⟨some 17, (.move (.tmp (1 : Nat))), none⟩,
    ⟨some 18, (.call { callee := (.builtin .len), args := #[(.tmp (17 : Nat))], argTypes := #[9] }), none⟩,
    ⟨some 4, (.assign (.tmp (18 : Nat))), none⟩,
    ⟨some 5, (.assign (.const .nilIface)), none⟩] false)
  .ret))))
theorem sbWrite.of : Tryz.f35.body.bind IC.of = some sbWrite.c := by kernel_rfl
theorem sbWrite.ok : Tryz.f35.body.map (okCode Tryz.prog Tryz.f35.ntmps (fun _ _ => false)) = some true := by kernel_rfl
def sbString.c : IC :=
  (.seq (.reg 0 [⟨some 2, (.assign (.const (.string ⟨#[]⟩))), none⟩] false)
  (.seq (.reg 1 [⟨some 3, (.move (.tmp (0 : Nat))), none⟩,
    ⟨some 4, (.nilCheck (.tmp (3 : Nat))), none⟩,
    ⟨some 5, (.fieldAddr 92 (.tmp (4 : Nat)) 1), none⟩,
    ⟨some 6, (.load 90 (.tmp (5 : Nat))), none⟩,
    ⟨some 7, (.call { callee := (.builtin .unsafeSliceData), args := #[(.tmp (6 : Nat))], argTypes := #[90] }), none⟩,
    ⟨some 8, (.move (.tmp (0 : Nat))), none⟩,
    ⟨some 9, (.nilCheck (.tmp (8 : Nat))), none⟩,
    ⟨some 10, (.fieldAddr 92 (.tmp (9 : Nat)) 1), none⟩,
    ⟨some 11, (.load 90 (.tmp (10 : Nat))), none⟩,
    ⟨some 12, (.call { callee := (.builtin .len), args := #[(.tmp (11 : Nat))], argTypes := #[90] }), none⟩,
    ⟨some 13, (.call { callee := (.builtin .unsafeString), args := #[(.tmp (7 : Nat)), (.tmp (12 : Nat))], argTypes := #[180, 3] }), none⟩,
    ⟨some 2, (.assign (.tmp (13 : Nat))), none⟩] true)
  .ret))
theorem sbString.of : Tryz.f37.body.bind IC.of = some sbString.c := by kernel_rfl
theorem sbString.ok : Tryz.f37.body.map (okCode Tryz.prog Tryz.f37.ntmps (fun _ _ => false)) = some true := by kernel_rfl
variable {W0 : World}
/-- A Builder of one's own, and what it holds. -/
def BldAt (H0 H : Heap) (id : Nat) (l : Text) : Prop :=
  Keeps H0 H ∧ H0 id = .dead ∧ id % 4096 = 92 ∧ ∃ p buf, H id = .mem 2 [.agg [p, buf]] ∧ (p = .val (.pointer none) ∨ p = .ptr id 2 0 0) ∧
    ((l = [] ∧ buf = .nil) ∨ (l ≠ [] ∧ ∃ b, buf = .ar b 1 0 l.length ∧ H b = .mem 1 (l.map byteV) ∧ b % 4096 = 5 ∧ H0 b = .dead))
theorem BldAt.new {H0 H : Heap} {id x : Nat} {l : Text} {o : IL.Obj} (h : BldAt H0 H id l) (hx : H x = .dead) : BldAt (H0.set x o) (H.set x o) id l := by
  obtain ⟨hk, h0, ht, p, buf, h1, h2, h3⟩ := h
  have hne : id ≠ x := fun e => by subst e; rw [h1] at hx; cases hx
  refine ⟨fun i hi => ?_, by rw [Heap.set_ne _ _ hne]; exact h0, ht, p, buf, by rw [Heap.set_ne _ _ hne]; exact h1, h2, ?_⟩
  · by_cases hix : i = x
    · subst hix; simp
    · rw [Heap.set_ne _ _ hix] at hi ⊢
      rw [Heap.set_ne _ _ hix]; exact hk i hi
  · rcases h3 with h3 | ⟨hn, b, q1, q2, q3, q4⟩
    · exact .inl h3
    · have hb : b ≠ x := fun e => by subst e; rw [q2] at hx; cases hx
      exact .inr ⟨hn, b, q1, by rw [Heap.set_ne _ _ hb]; exact q2, q3, by rw [Heap.set_ne _ _ hb]; exact q4⟩
theorem BldAt.drop {H0 H : Heap} {id x : Nat} {l : Text} {o : IL.Obj} (h : BldAt (H0.set x o) H id l) (hx : H0 x = .dead) : BldAt H0 H id l := by
  obtain ⟨hk, h0, ht, p, buf, h1, h2, h3⟩ := h
  have low : ∀ i, (H0.set x o) i = .dead → H0 i = .dead := fun i hi => by
    by_cases hix : i = x
    · rw [hix]; exact hx
    · rwa [Heap.set_ne _ _ hix] at hi
  refine ⟨fun i hi => ?_, low id h0, ht, p, buf, h1, h2, ?_⟩
  · have hix : i ≠ x := fun e => hi (e ▸ hx)
    have := hk i (by rw [Heap.set_ne _ _ hix]; exact hi)
    rwa [Heap.set_ne _ _ hix] at this
  · rcases h3 with h3 | ⟨hn, b, q1, q2, q3, q4⟩
    · exact .inl h3
    · exact .inr ⟨hn, b, q1, q2, q3, low b q4⟩
theorem BldAt.keeps {H0 H : Heap} {id : Nat} {l : Text} (h : BldAt H0 H id l) : Keeps H0 H := h.1
theorem BldAt.start {H0 H : Heap} {id : Nat} (hk : Keeps H0 H) (hd : H id = .dead) (ht : id % 4096 = 92) : BldAt H0 (H.set id (.mem 2 [.agg [.val (.pointer none), .nil]])) id [] :=
  ⟨hk.set (hk.dead hd), hk.dead hd, ht, _, _, Heap.set_same _ _ _, .inl rfl, .inl ⟨rfl, rfl⟩⟩
theorem w_sbWrite {H0 H : Heap} {id : Nat} {l s : Text} (hb : BldAt H0 H id l) (hl : l.length + s.length ≤ big) :
    IT Tryz.prog W0 35 [.ptr id 2 0 0, .str s] H (fun v H' => v = .tup [.val (.int .i64 (s.length : Nat)), .val .nilIface] ∧ BldAt H0 H' id (l ++ s)) := by
  refine IT.ofS_x (rs := [(.tmp 4), (.tmp 5)]) (fun _ _ => false) (Φ := []) trivial T.mixed Tryz.func35 sbWrite.of rfl sbWrite.ok rfl (by simp [Tryz.f35]) ?_
  obtain ⟨hk, h0, ht, p, buf, h1, h2, h3⟩ := hb
  unfold big at hl
  unfold sbWrite.c
  simp (implicitDefEqProofs := false) only [go_sem, reduceIte, Nat.reduceEqDiff, Nat.reduceAdd, Nat.reduceSub, Nat.reduceMul, Nat.reduceLeDiff, Int.reduceLT, Int.reduceLE, Int.reduceEq, Int.reduceAdd, Int.reduceSub, Int.reduceMul, Int.reduceNeg, Int.reduceToNat, reduceCtorEq, Nat.reduceBEq, Nat.reduceLT]
  rw [itO_eq]
  refine (w_sbCopy h1 ht h2).mono ?_
  rintro v H' ⟨rfl, rfl⟩
  have hfit : fits 1 (s.map byteV) = true := by simp [fits, V.cells, byteV]
  rcases h3 with ⟨rfl, rfl⟩ | ⟨hn, b, rfl, q2, q3, q4⟩
  · simp (implicitDefEqProofs := false) only [go_sem, reduceIte, Nat.reduceEqDiff, Nat.reduceAdd, Nat.reduceSub, Nat.reduceMul, Nat.reduceLeDiff, Int.reduceLT, Int.reduceLE, Int.reduceEq, Int.reduceAdd, Int.reduceSub, Int.reduceMul, Int.reduceNeg, Int.reduceToNat, reduceCtorEq, Nat.reduceBEq, Nat.reduceLT]
    intro j n1 n2 hj hjt
    refine ⟨fun he => ?_, fun he => ⟨⟨hfit, by omega⟩, ?_⟩⟩
    · have : s = [] := by simpa using he
      subst this
      exact ⟨hk.set h0, h0, ht, _, _, Heap.set_same _ _ _, .inr rfl, .inl ⟨rfl, rfl⟩⟩
    · have hs : s ≠ [] := by rintro rfl; simp at he
      simp (implicitDefEqProofs := false) only [go_sem, reduceIte, Nat.reduceEqDiff, Nat.reduceAdd, Nat.reduceSub, Nat.reduceMul, Nat.reduceLeDiff, Int.reduceLT, Int.reduceLE, Int.reduceEq, Int.reduceAdd, Int.reduceSub, Int.reduceMul, Int.reduceNeg, Int.reduceToNat, reduceCtorEq, Nat.reduceBEq, Nat.reduceLT, n1, n2]
      exact ⟨((hk.set h0).set (hk.dead hj)).set h0, h0, ht, _, _, Heap.set_same _ _ _, .inr rfl, .inr ⟨hs, j, rfl, by rw [Heap.set_ne _ _ n1, Heap.set_same], hjt, hk.dead hj⟩⟩
  · have hbid : ¬ b = id := fun e => by subst e; rw [h1] at q2; cases q2
    have hidb : ¬ id = b := fun e => hbid e.symm
    simp (implicitDefEqProofs := false) only [go_sem, reduceIte, Nat.reduceEqDiff, Nat.reduceAdd, Nat.reduceSub, Nat.reduceMul, Nat.reduceLeDiff, Int.reduceLT, Int.reduceLE, Int.reduceEq, Int.reduceAdd, Int.reduceSub, Int.reduceMul, Int.reduceNeg, Int.reduceToNat, reduceCtorEq, Nat.reduceBEq, Nat.reduceLT, q2, hbid, q3]
    intro j n1 n2 hj hjt
    refine ⟨fun he => ?_, fun he => ⟨⟨hfit, by omega⟩, ?_⟩⟩
    · have : s = [] := by simpa using he
      subst this
      exact ⟨hk.set h0, h0, ht, _, _, Heap.set_same _ _ _, .inr rfl, .inr ⟨by simpa using hn, b, by simp, by rw [Heap.set_ne _ _ hbid]; simpa using q2, q3, q4⟩⟩
    · simp (implicitDefEqProofs := false) only [go_sem, reduceIte, Nat.reduceEqDiff, Nat.reduceAdd, Nat.reduceSub, Nat.reduceMul, Nat.reduceLeDiff, Int.reduceLT, Int.reduceLE, Int.reduceEq, Int.reduceAdd, Int.reduceSub, Int.reduceMul, Int.reduceNeg, Int.reduceToNat, reduceCtorEq, Nat.reduceBEq, Nat.reduceLT, n1, n2, hbid, hidb]
      refine ⟨(((hk.set h0).set q4).set (hk.dead hj)).set h0, h0, ht, _, _, Heap.set_same _ _ _, .inr rfl, .inr ⟨by simp [hn], j, by simp, by rw [Heap.set_ne _ _ n1, Heap.set_same]; simp, hjt, hk.dead hj⟩⟩
theorem u8s_bytes : ∀ l : Text, u8sOf (l.map byteV) = some l
  | [] => rfl
  | b :: l => by
    have := b.toNat_lt
    rw [List.map_cons, byteV, u8sOf_cons, if_pos (by omega), u8s_bytes l]
    simp
theorem w_sbString {H0 H : Heap} {id : Nat} {l : Text} (hb : BldAt H0 H id l) (hl : l.length ≤ big) :
    IT Tryz.prog W0 37 [.ptr id 2 0 0] H (fun v H' => v = .str l ∧ Keeps H0 H') := by
  refine IT.ofS_x (rs := [(.tmp 2)]) (fun _ _ => false) (Φ := []) trivial T.mixed Tryz.func37 sbString.of rfl sbString.ok rfl (by simp [Tryz.f37]) ?_
  obtain ⟨hk, h0, ht, p, buf, h1, h2, h3⟩ := hb
  unfold big at hl
  unfold sbString.c
  rcases h3 with ⟨rfl, rfl⟩ | ⟨hn, b, rfl, q2, q3, q4⟩
  · simp (implicitDefEqProofs := false) only [go_sem, reduceIte, Nat.reduceEqDiff, Nat.reduceAdd, Nat.reduceSub, Nat.reduceMul, Nat.reduceLeDiff, Int.reduceLT, Int.reduceLE, Int.reduceEq, Int.reduceAdd, Int.reduceSub, Int.reduceMul, Int.reduceNeg, Int.reduceToNat, reduceCtorEq, Nat.reduceBEq, Nat.reduceLT, h1]
    exact hk
  · have hpos : 0 < l.length := List.length_pos_iff.2 hn
    have hle : l.length ≤ 4611686018427387904 := by omega
    have hu := u8s_bytes l
    simp (implicitDefEqProofs := false) only [go_sem, reduceIte, Nat.reduceEqDiff, Nat.reduceAdd, Nat.reduceSub, Nat.reduceMul, Nat.reduceLeDiff, Int.reduceLT, Int.reduceLE, Int.reduceEq, Int.reduceAdd, Int.reduceSub, Int.reduceMul, Int.reduceNeg, Int.reduceToNat, reduceCtorEq, Nat.reduceBEq, Nat.reduceLT, h1, q2, q3, hpos, hle, hu]
    exact ⟨by omega, hk.set q4⟩
end Go.Proofs.W

namespace Go.Proofs.W
set_option linter.unusedSimpArgs false
set_option maxRecDepth 20000
open Go Go.IL Go.Proofs
def plWord.R0 : IC :=
  (.seq (.reg 4 [⟨some 11, (.move (.tmp (0 : Nat))), none⟩,
    ⟨some 12, (.indexAddr 179 (.tmp (3 : Nat)) (.tmp (11 : Nat))), none⟩,
    ⟨some 13, (.load 9 (.tmp (12 : Nat))), none⟩,
    ⟨some 2, (.assign (.tmp (13 : Nat))), none⟩] false)
  .ret)
def plWord.c : IC :=
  (.seq (.reg 0 [⟨some 2, (.assign (.const (.string ⟨#[]⟩))), none⟩] false)
  (.seq (.reg 1 [⟨some 4, (.build 179 #[(0, (.const (.string ⟨#[63]⟩))), (1, (.const (.string ⟨#[119, 104, 111, 108, 101]⟩))), (2, (.const (.string ⟨#[115, 116, 111, 112]⟩))), (3, (.const (.string ⟨#[109, 111, 118, 101]⟩))), (4, (.const (.string ⟨#[114, 101, 115, 116, 97, 114, 116]⟩))), (5, (.const (.string ⟨#[114, 101, 115, 101, 116]⟩))), (6, (.const (.string ⟨#[115, 116, 97, 114, 116]⟩))), (7, (.const (.string ⟨#[97, 110, 101, 119]⟩))), (8, (.const (.string ⟨#[104, 101, 108, 108, 111, 115]⟩))), (9, (.const (.string ⟨#[116, 105, 109, 101, 114, 115]⟩)))]), none⟩,
    ⟨some 3, (.alloc 179), none⟩,
    ⟨none, (.store 179 (.tmp (3 : Nat)) (.tmp (4 : Nat))), none⟩] false)
  (.seq (.seq (.reg 2 [⟨some 5, (.move (.tmp (0 : Nat))), none⟩,
    ⟨some 6, (.binOp .lss 3 (.tmp (5 : Nat)) (.const (.int .i64 0)) 3), none⟩,
    ⟨some 7, (.move (.tmp (6 : Nat))), none⟩,
    ⟨some 8, (.move (.tmp (0 : Nat))), some (7, false)⟩,
    ⟨some 9, (.binOp .geq 3 (.tmp (8 : Nat)) (.const (.int .i64 10)) 3), some (7, false)⟩,
    ⟨some 10, (.pick (.tmp (7 : Nat)) (.const (.bool true)) (.tmp (9 : Nat))), none⟩] false)
  (.cond (.tmp (10 : Nat)) (.reg 3 [⟨some 0, (.assign (.const (.int .i64 0))), none⟩] false) .skip))
  (cutIC plWord.R0))))
theorem plWord.of : Tryz.f36.body.bind IC.of = some plWord.c := by kernel_rfl
theorem plWord.ok : Tryz.f36.body.map (okCode Tryz.prog Tryz.f36.ntmps (fun _ _ => false)) = some true := by kernel_rfl
def plText.R0 : IC :=
  (.reg 8 [⟨some 23, (.call { callee := (.value (.func (35 : Nat))), args := #[(.tmp (3 : Nat)), (.const (.string ⟨#[10]⟩))], argTypes := #[92, 9] }), none⟩] false)
def plText.R1 : IC :=
  (.reg 9 [⟨some 24, (.binOp .add 3 (.tmp (8 : Nat)) (.const (.int .i64 1)) 3), none⟩,
    ⟨some 8, (.move (.tmp (24 : Nat))), none⟩] false)
def plText.L0 : IC :=
  (.seq (.reg 3 [⟨some 9, (.binOp .lss 3 (.tmp (8 : Nat)) (.tmp (7 : Nat)) 3), none⟩] false)
  (.seq (.cond (.tmp (9 : Nat)) .skip (.exit 0))
  (.seq (.block 1 (.seq (.reg 4 [⟨some 10, (.indexAddr 24 (.tmp (6 : Nat)) (.tmp (8 : Nat))), none⟩,
    ⟨some 11, (.load 33 (.tmp (10 : Nat))), none⟩,
    ⟨some 5, (.alloc 33), none⟩,
    ⟨none, (.store 33 (.tmp (5 : Nat)) (.tmp (11 : Nat))), none⟩] false)
  (.seq (.reg 5 [⟨some 12, (.fieldAddr 33 (.tmp (5 : Nat)) 0), none⟩,
    ⟨some 13, (.load 3 (.tmp (12 : Nat))), none⟩,
    ⟨some 14, (.call { callee := (.value (.func (36 : Nat))), args := #[(.tmp (13 : Nat))], argTypes := #[3] }), none⟩,
    ⟨some 15, (.call { callee := (.value (.func (35 : Nat))), args := #[(.tmp (3 : Nat)), (.tmp (14 : Nat))], argTypes := #[92, 9] }), none⟩] false)
  (.seq (.seq (.reg 6 [⟨some 16, (.fieldAddr 33 (.tmp (5 : Nat)) 1), none⟩,
    ⟨some 17, (.load 9 (.tmp (16 : Nat))), none⟩,
    ⟨some 18, (.binOp .neq 9 (.tmp (17 : Nat)) (.const (.string ⟨#[]⟩)) 9), none⟩] false)
  (.cond (.tmp (18 : Nat)) (.reg 7 [⟨some 19, (.fieldAddr 33 (.tmp (5 : Nat)) 1), none⟩,
    ⟨some 20, (.load 9 (.tmp (19 : Nat))), none⟩,
    ⟨some 21, (.binOp .add 9 (.const (.string ⟨#[32]⟩)) (.tmp (20 : Nat)) 9), none⟩,
    ⟨some 22, (.call { callee := (.value (.func (35 : Nat))), args := #[(.tmp (3 : Nat)), (.tmp (21 : Nat))], argTypes := #[92, 9] }), none⟩] false) .skip))
  (cutIC plText.R0)))))
  (cutIC plText.R1))))
def plText.R2 : IC :=
  (.seq (.reg 10 [⟨some 25, (.call { callee := (.value (.func (37 : Nat))), args := #[(.tmp (3 : Nat))], argTypes := #[92] }), none⟩,
    ⟨some 2, (.assign (.tmp (25 : Nat))), none⟩] false)
  .ret)
def plText.c : IC :=
  (.seq (.reg 0 [⟨some 2, (.assign (.const (.string ⟨#[]⟩))), none⟩] false)
  (.seq (.reg 1 [⟨some 3, (.alloc 92), none⟩] false)
  (.seq (.seq (.reg 2 [⟨some 6, (.move (.tmp (0 : Nat))), none⟩,
    ⟨some 7, (.call { callee := (.builtin .len), args := #[(.tmp (6 : Nat))], argTypes := #[24] }), none⟩,
    ⟨some 8, (.move (.const (.int .i64 0))), none⟩] false)
  (.block 0 (.loop plText.L0)))
  (cutIC plText.R2))))
theorem plText.of : Tryz.f11.body.bind IC.of = some plText.c := by kernel_rfl
theorem plText.ok : Tryz.f11.body.map (okCode Tryz.prog Tryz.f11.ntmps (fun _ _ => false)) = some true := by kernel_rfl
variable {W0 : World}
theorem w_plWord : PureF Tryz.prog W0 36 sWordK := by
  refine PureF.of (rs := [(.tmp 2)]) (fun _ _ => false) (Φ := []) trivial T.mixed Tryz.func36 plWord.of rfl plWord.ok rfl ?_
  intro args H v hs
  unfold sWordK at hs
  split at hs <;> cases hs
  rename_i k
  refine ⟨by simp [Tryz.f36], ?_⟩
  unfold plWord.c
  by_cases h1 : k < 0
  · have : wordK k = [63] := by unfold wordK; rw [if_neg (by omega)]
    simp (implicitDefEqProofs := false) (contextual := true) only [go_sem, reduceIte, Nat.reduceEqDiff, Nat.reduceAdd, Nat.reduceSub, Nat.reduceMul, Nat.reduceLeDiff, Int.reduceLT, Int.reduceLE, Int.reduceEq, Int.reduceAdd, Int.reduceSub, Int.reduceMul, Int.reduceNeg, Int.reduceToNat, reduceCtorEq, Nat.reduceBEq, Nat.reduceLT, h1, this]
    intro id hid
    rw [wpO_eq]
    unfold plWord.R0
    simp (implicitDefEqProofs := false) (contextual := true) only [go_sem, reduceIte, Nat.reduceEqDiff, Nat.reduceAdd, Nat.reduceSub, Nat.reduceMul, Nat.reduceLeDiff, Int.reduceLT, Int.reduceLE, Int.reduceEq, Int.reduceAdd, Int.reduceSub, Int.reduceMul, Int.reduceNeg, Int.reduceToNat, reduceCtorEq, Nat.reduceBEq, Nat.reduceLT]
    exact ⟨by rw [this], (Keeps.refl H).set hid⟩
  · by_cases h2 : 10 ≤ k
    · have : wordK k = [63] := by unfold wordK; rw [if_neg (by omega)]
      simp (implicitDefEqProofs := false) (contextual := true) only [go_sem, reduceIte, Nat.reduceEqDiff, Nat.reduceAdd, Nat.reduceSub, Nat.reduceMul, Nat.reduceLeDiff, Int.reduceLT, Int.reduceLE, Int.reduceEq, Int.reduceAdd, Int.reduceSub, Int.reduceMul, Int.reduceNeg, Int.reduceToNat, reduceCtorEq, Nat.reduceBEq, Nat.reduceLT, h1, h2, this]
      intro id hid
      rw [wpO_eq]
      unfold plWord.R0
      simp (implicitDefEqProofs := false) (contextual := true) only [go_sem, reduceIte, Nat.reduceEqDiff, Nat.reduceAdd, Nat.reduceSub, Nat.reduceMul, Nat.reduceLeDiff, Int.reduceLT, Int.reduceLE, Int.reduceEq, Int.reduceAdd, Int.reduceSub, Int.reduceMul, Int.reduceNeg, Int.reduceToNat, reduceCtorEq, Nat.reduceBEq, Nat.reduceLT]
      exact ⟨by rw [this], (Keeps.refl H).set hid⟩
    · obtain ⟨n, rfl⟩ := Int.eq_ofNat_of_zero_le (Int.not_lt.1 h1)
      have hn : n < 10 := by omega
      have hwk : wordsOfKinds[n]? = some (wordK n) := by
        unfold wordK
        rw [if_pos (by omega)]
        have : n < wordsOfKinds.length := hn
        simp [this]
      have hge : ¬ (10 : Int) ≤ (n : Int) := h2
      simp (implicitDefEqProofs := false) (contextual := true) only [go_sem, reduceIte, Nat.reduceEqDiff, Nat.reduceAdd, Nat.reduceSub, Nat.reduceMul, Nat.reduceLeDiff, Int.reduceLT, Int.reduceLE, Int.reduceEq, Int.reduceAdd, Int.reduceSub, Int.reduceMul, Int.reduceNeg, Int.reduceToNat, reduceCtorEq, Nat.reduceBEq, Nat.reduceLT, h1, hge]
      intro id hid
      rw [wpO_eq]
      unfold plWord.R0
      rw [show [V.str [63], V.str [119, 104, 111, 108, 101], V.str [115, 116, 111, 112], V.str [109, 111, 118, 101], V.str [114, 101, 115, 116, 97, 114, 116], V.str [114, 101, 115, 101, 116], V.str [115, 116, 97, 114, 116], V.str [97, 110, 101, 119], V.str [104, 101, 108, 108, 111, 115], V.str [116, 105, 109, 101, 114, 115]] = wordsOfKinds.map .str from rfl]
      simp (implicitDefEqProofs := false) (contextual := true) only [go_sem, reduceIte, Nat.reduceEqDiff, Nat.reduceAdd, Nat.reduceSub, Nat.reduceMul, Nat.reduceLeDiff, Int.reduceLT, Int.reduceLE, Int.reduceEq, Int.reduceAdd, Int.reduceSub, Int.reduceMul, Int.reduceNeg, Int.reduceToNat, reduceCtorEq, Nat.reduceBEq, Nat.reduceLT, hn, hwk, Nat.mul_one]
      exact (Keeps.refl H).set hid
theorem w_plText (h1 : PureF Tryz.prog W0 36 sWordK) : PureF Tryz.prog W0 11 sTextT := by
  refine PureF.of (rs := [(.tmp 2)]) (fun _ _ => false) (Φ := [(36, sWordK)]) ⟨h1, trivial⟩ T.mixed Tryz.func11 plText.of rfl plText.ok rfl ?_
  intro args H v hs
  unfold sTextT at hs
  split at hs
  · rename_i xs
    simp only [Option.bind_eq_some_iff] at hs
    obtain ⟨l, hl, hs⟩ := hs
    split at hs <;> cases hs
    rename_i hfit
    obtain ⟨hlen, hnm⟩ := hfit
    have := actsOf_some hl
    subst this
    refine ⟨by simp [Tryz.f11], ?_⟩
    unfold plText.c
    simp (implicitDefEqProofs := false) (contextual := true) only [go_sem, reduceIte, Nat.reduceEqDiff, Nat.reduceAdd, Nat.reduceSub, Nat.reduceMul, Nat.reduceLeDiff, Int.reduceLT, Int.reduceLE, Int.reduceEq, Int.reduceAdd, Int.reduceSub, Int.reduceMul, Int.reduceNeg, Int.reduceToNat, reduceCtorEq, Nat.reduceBEq, Nat.reduceLT]
    intro id hid ht
    refine wpO_up l.length (fun i fr H' => i ≤ l.length ∧ fr 3 = .ptr id 2 0 0 ∧ fr 6 = .sl (l.map actV) ∧ fr 7 = .val (.int .i64 (l.length : Nat)) ∧ fr 8 = .val (.int .i64 i) ∧ BldAt H H' id (textT (l.take i))) 0 ?_ ?_
    · simp (implicitDefEqProofs := false) only [go_sem, reduceIte, Nat.reduceEqDiff, Nat.reduceAdd, Nat.reduceSub, Nat.reduceMul, Nat.reduceLeDiff, Int.reduceLT, Int.reduceLE, Int.reduceEq, Int.reduceAdd, Int.reduceSub, Int.reduceMul, Int.reduceNeg, Int.reduceToNat, reduceCtorEq, Nat.reduceBEq, Nat.reduceLT]
      exact ⟨Nat.zero_le _, BldAt.start (Keeps.refl H) hid ht⟩
    · rintro i fr H' ⟨hi, f3, f6, f7, f8, hb⟩
      unfold plText.L0
      have hw : IntKind.i64.wrap ((i : Int) + 1) = ((i + 1 : Nat) : Int) := wrap64 (by omega)
      by_cases hlt : i < l.length
      · obtain ⟨a, ha⟩ : ∃ a, l[i]? = some a := ⟨_, List.getElem?_eq_getElem hlt⟩
        have han := hnm a (List.mem_of_getElem? ha)
        have htk : textT (l.take (i + 1)) = textT (l.take i) ++ rowT a := by unfold textT; rw [List.take_add_one, ha]; simp
        have hsz : (textT (l.take i)).length ≤ 512 * 1048600 := by
          have := textT_len (l := l.take i) (fun b hb => hnm b (List.mem_of_mem_take hb))
          have h2 : (l.take i).length ≤ 512 := by simp; omega
          exact Nat.le_trans this (Nat.mul_le_mul_right 1048600 h2)
        have hwl := wordK_len a.kind
        simp (implicitDefEqProofs := false) (contextual := true) only [go_sem, reduceIte, Nat.reduceEqDiff, Nat.reduceAdd, Nat.reduceSub, Nat.reduceMul, Nat.reduceLeDiff, Int.reduceLT, Int.reduceLE, Int.reduceEq, Int.reduceAdd, Int.reduceSub, Int.reduceMul, Int.reduceNeg, Int.reduceToNat, reduceCtorEq, Nat.reduceBEq, Nat.reduceLT, f3, f6, f7, f8, hlt, ha, actV]
        intro x hx
        rw [itO_eq]
        refine (w_sbWrite (hb.new hx) (by unfold big; omega)).mono ?_
        rintro v H1 ⟨rfl, hb1⟩
        have hbx : H1 x = .mem 2 [.agg [.val (.int .i64 a.kind), .str a.name]] := by
          have := hb1.keeps x (by simp)
          rw [Heap.set_same] at this; exact this
        have last : ∀ (H2 : Heap) (u : Text), BldAt (H.set x (.mem 2 [.agg [.val (.int .i64 a.kind), .str a.name]])) H2 id (textT (l.take i) ++ u) → u ++ [10] = rowT a → H x = .dead →
            IT Tryz.prog W0 35 [.ptr id 2 0 0, .str [10]] H2 (fun v H' => v = .tup [.val (.int .i64 ([10] : Text).length), .val .nilIface] ∧ BldAt H H' id (textT (l.take (i + 1)))) := by
          intro H2 u hb2 hu hd
          have hul : u.length ≤ 1048600 := by have := rowT_len han; rw [← hu] at this; simp at this; omega
          refine (w_sbWrite hb2 (by unfold big; simp; omega)).mono ?_
          rintro v H3 ⟨rfl, h3⟩
          refine ⟨rfl, ?_⟩
          rw [htk, ← hu, ← List.append_assoc]
          exact h3.drop hd
        have hHx : H x = .dead := hb.keeps.dead hx
        by_cases en : a.name = []
        · have hrow : wordK a.kind ++ [10] = rowT a := by unfold rowT; rw [if_pos en]; simp
          simp (implicitDefEqProofs := false) (contextual := true) only [go_sem, reduceIte, Nat.reduceEqDiff, Nat.reduceAdd, Nat.reduceSub, Nat.reduceMul, Nat.reduceLeDiff, Int.reduceLT, Int.reduceLE, Int.reduceEq, Int.reduceAdd, Int.reduceSub, Int.reduceMul, Int.reduceNeg, Int.reduceToNat, reduceCtorEq, Nat.reduceBEq, Nat.reduceLT, hbx, en]
          rw [wpO_eq]
          unfold plText.R0
          simp (implicitDefEqProofs := false) (contextual := true) only [go_sem, reduceIte, Nat.reduceEqDiff, Nat.reduceAdd, Nat.reduceSub, Nat.reduceMul, Nat.reduceLeDiff, Int.reduceLT, Int.reduceLE, Int.reduceEq, Int.reduceAdd, Int.reduceSub, Int.reduceMul, Int.reduceNeg, Int.reduceToNat, reduceCtorEq, Nat.reduceBEq, Nat.reduceLT, f3]
          rw [itO_eq]
          refine (last H1 _ hb1 hrow hHx).mono ?_
          rintro v H2 ⟨rfl, hb2⟩
          simp (implicitDefEqProofs := false) (contextual := true) only [go_sem, reduceIte, Nat.reduceEqDiff, Nat.reduceAdd, Nat.reduceSub, Nat.reduceMul, Nat.reduceLeDiff, Int.reduceLT, Int.reduceLE, Int.reduceEq, Int.reduceAdd, Int.reduceSub, Int.reduceMul, Int.reduceNeg, Int.reduceToNat, reduceCtorEq, Nat.reduceBEq, Nat.reduceLT]
          rw [wpO_eq]
          unfold plText.R1
          simp (implicitDefEqProofs := false) (contextual := true) only [go_sem, reduceIte, Nat.reduceEqDiff, Nat.reduceAdd, Nat.reduceSub, Nat.reduceMul, Nat.reduceLeDiff, Int.reduceLT, Int.reduceLE, Int.reduceEq, Int.reduceAdd, Int.reduceSub, Int.reduceMul, Int.reduceNeg, Int.reduceToNat, reduceCtorEq, Nat.reduceBEq, Nat.reduceLT, f3, f6, f7, f8, hw]
          exact ⟨hlt, by omega, hb2⟩
        · have hrow : (wordK a.kind ++ (32 :: a.name)) ++ [10] = rowT a := by unfold rowT; rw [if_neg en]
          simp (implicitDefEqProofs := false) (contextual := true) only [go_sem, reduceIte, Nat.reduceEqDiff, Nat.reduceAdd, Nat.reduceSub, Nat.reduceMul, Nat.reduceLeDiff, Int.reduceLT, Int.reduceLE, Int.reduceEq, Int.reduceAdd, Int.reduceSub, Int.reduceMul, Int.reduceNeg, Int.reduceToNat, reduceCtorEq, Nat.reduceBEq, Nat.reduceLT, hbx, en]
          refine ⟨by omega, ?_⟩
          rw [itO_eq, f3]
          refine (w_sbWrite hb1 (by unfold big; simp; omega)).mono ?_
          rintro v H2 ⟨rfl, hb2⟩
          simp (implicitDefEqProofs := false) (contextual := true) only [go_sem, reduceIte, Nat.reduceEqDiff, Nat.reduceAdd, Nat.reduceSub, Nat.reduceMul, Nat.reduceLeDiff, Int.reduceLT, Int.reduceLE, Int.reduceEq, Int.reduceAdd, Int.reduceSub, Int.reduceMul, Int.reduceNeg, Int.reduceToNat, reduceCtorEq, Nat.reduceBEq, Nat.reduceLT]
          rw [wpO_eq]
          unfold plText.R0
          simp (implicitDefEqProofs := false) (contextual := true) only [go_sem, reduceIte, Nat.reduceEqDiff, Nat.reduceAdd, Nat.reduceSub, Nat.reduceMul, Nat.reduceLeDiff, Int.reduceLT, Int.reduceLE, Int.reduceEq, Int.reduceAdd, Int.reduceSub, Int.reduceMul, Int.reduceNeg, Int.reduceToNat, reduceCtorEq, Nat.reduceBEq, Nat.reduceLT, f3]
          rw [itO_eq]
          refine (last H2 _ (by rw [← List.append_assoc]; exact hb2) hrow hHx).mono ?_
          rintro v H3 ⟨rfl, hb3⟩
          simp (implicitDefEqProofs := false) (contextual := true) only [go_sem, reduceIte, Nat.reduceEqDiff, Nat.reduceAdd, Nat.reduceSub, Nat.reduceMul, Nat.reduceLeDiff, Int.reduceLT, Int.reduceLE, Int.reduceEq, Int.reduceAdd, Int.reduceSub, Int.reduceMul, Int.reduceNeg, Int.reduceToNat, reduceCtorEq, Nat.reduceBEq, Nat.reduceLT]
          rw [wpO_eq]
          unfold plText.R1
          simp (implicitDefEqProofs := false) (contextual := true) only [go_sem, reduceIte, Nat.reduceEqDiff, Nat.reduceAdd, Nat.reduceSub, Nat.reduceMul, Nat.reduceLeDiff, Int.reduceLT, Int.reduceLE, Int.reduceEq, Int.reduceAdd, Int.reduceSub, Int.reduceMul, Int.reduceNeg, Int.reduceToNat, reduceCtorEq, Nat.reduceBEq, Nat.reduceLT, f3, f6, f7, f8, hw]
          exact ⟨hlt, by omega, hb3⟩
      · have hic : i = l.length := by omega
        rw [hic, List.take_length] at hb
        have hsz : (textT l).length ≤ 512 * 1048600 := by
          have := textT_len (l := l) hnm
          exact Nat.le_trans this (Nat.mul_le_mul_right 1048600 hlen)
        simp (implicitDefEqProofs := false) only [go_sem, reduceIte, Nat.reduceEqDiff, Nat.reduceAdd, Nat.reduceSub, Nat.reduceMul, Nat.reduceLeDiff, Int.reduceLT, Int.reduceLE, Int.reduceEq, Int.reduceAdd, Int.reduceSub, Int.reduceMul, Int.reduceNeg, Int.reduceToNat, reduceCtorEq, Nat.reduceBEq, Nat.reduceLT, f3, f6, f7, f8, hlt]
        rw [wpO_eq]
        unfold plText.R2
        simp (implicitDefEqProofs := false) only [go_sem, reduceIte, Nat.reduceEqDiff, Nat.reduceAdd, Nat.reduceSub, Nat.reduceMul, Nat.reduceLeDiff, Int.reduceLT, Int.reduceLE, Int.reduceEq, Int.reduceAdd, Int.reduceSub, Int.reduceMul, Int.reduceNeg, Int.reduceToNat, reduceCtorEq, Nat.reduceBEq, Nat.reduceLT, f3]
        rw [itO_eq]
        refine (w_sbString hb (by unfold big; omega)).mono ?_
        rintro v H1 ⟨rfl, hk⟩
        simp (implicitDefEqProofs := false) only [go_sem, reduceIte, Nat.reduceEqDiff, Nat.reduceAdd, Nat.reduceSub, Nat.reduceMul, Nat.reduceLeDiff, Int.reduceLT, Int.reduceLE, Int.reduceEq, Int.reduceAdd, Int.reduceSub, Int.reduceMul, Int.reduceNeg, Int.reduceToNat, reduceCtorEq, Nat.reduceBEq, Nat.reduceLT]
        exact hk
  · cases hs
end Go.Proofs.W

namespace Go.Proofs.W
set_option linter.unusedSimpArgs false
set_option maxRecDepth 20000
open Go Go.IL Go.Proofs
def l17plans.c : IC :=
  (.seq (.reg 0 [⟨some 0, (.assign (.const (.bool false))), none⟩] false)
  (.seq (.reg 1 [⟨some 5, (.build 80 #[(0, (.const (.int .i64 2))), (1, (.const (.string ⟨#[101, 116, 104, 48]⟩))), (2, (.const (.string ⟨#[99, 111, 115, 116]⟩))), (3, (.const (.string ⟨#[53]⟩)))]), none⟩,
    ⟨some 6, (.buildSlice 29 1 #[(0, (.tmp (5 : Nat)))]), none⟩,
    ⟨some 1, (.assign (.tmp (6 : Nat))), none⟩] false)
  (.seq (.reg 2 [⟨some 7, (.build 80 #[(0, (.const (.int .i64 2))), (1, (.const (.string ⟨#[101, 116, 104, 48]⟩))), (2, (.const (.string ⟨#[99, 111, 115, 116]⟩))), (3, (.const (.string ⟨#[54]⟩)))]), none⟩,
    ⟨some 8, (.buildSlice 29 1 #[(0, (.tmp (7 : Nat)))]), none⟩,
    ⟨some 2, (.assign (.tmp (8 : Nat))), none⟩] false)
  (.seq (.reg 3 [⟨some 10, (.move (.tmp (1 : Nat))), none⟩,
    ⟨some 11, (.move (.tmp (2 : Nat))), none⟩,
    ⟨some 12, (.call { callee := (.value (.func (7 : Nat))), args := #[(.tmp (10 : Nat)), (.tmp (11 : Nat))], argTypes := #[29, 29] }), none⟩,
    ⟨some 9, (.move (.tmp (12 : Nat))), none⟩,
    ⟨some 13, (.extract (.tmp (9 : Nat)) 0), none⟩,
    ⟨some 14, (.extract (.tmp (9 : Nat)) 1), none⟩,
    ⟨some 3, (.assign (.tmp (13 : Nat))), none⟩,
    ⟨some 4, (.assign (.tmp (14 : Nat))), none⟩] false)
  (.seq (.reg 4 [⟨some 15, (.move (.tmp (4 : Nat))), none⟩,
    ⟨some 16, (.binOp .eql 25 (.tmp (15 : Nat)) (.const (.int .i64 0)) 25), none⟩,
    ⟨some 17, (.move (.tmp (16 : Nat))), none⟩,
    ⟨some 18, (.move (.tmp (3 : Nat))), some (17, true)⟩,
    ⟨some 19, (.call { callee := (.value (.func (11 : Nat))), args := #[(.tmp (18 : Nat))], argTypes := #[24] }), some (17, true)⟩,
    ⟨some 20, (.binOp .eql 9 (.tmp (19 : Nat)) (.const (.string ⟨#[97, 110, 101, 119, 32, 101, 116, 104, 48, 10]⟩)) 9), some (17, true)⟩,
    ⟨some 21, (.pick (.tmp (17 : Nat)) (.tmp (20 : Nat)) (.const (.bool false))), none⟩,
    ⟨some 0, (.assign (.tmp (21 : Nat))), none⟩] false)
  .ret)))))
theorem l17plans.of : Tryz.f9.body.bind IC.of = some l17plans.c := by kernel_rfl
theorem l17plans.ok : Tryz.f9.body.map (okCode Tryz.prog Tryz.f9.ntmps (fun _ _ => false)) = some true := by kernel_rfl
def r17Text.R0 : IC :=
  (.reg 12 [⟨some 45, (.move (.tmp (4 : Nat))), none⟩,
    ⟨some 46, (.binOp .add 9 (.tmp (45 : Nat)) (.const (.string ⟨#[10]⟩)) 9), none⟩,
    ⟨some 4, (.assign (.tmp (46 : Nat))), none⟩] false)
def r17Text.R1 : IC :=
  (.seq (.reg 9 [⟨some 25, (.move (.tmp (4 : Nat))), none⟩,
    ⟨some 26, (.move (.tmp (3 : Nat))), none⟩,
    ⟨some 27, (.move (.tmp (6 : Nat))), none⟩,
    ⟨some 28, (.indexAddr 43 (.tmp (26 : Nat)) (.tmp (27 : Nat))), none⟩,
    ⟨some 29, (.load 9 (.tmp (28 : Nat))), none⟩,
    ⟨some 30, (.binOp .add 9 (.tmp (25 : Nat)) (.tmp (29 : Nat)) 9), none⟩,
    ⟨some 4, (.assign (.tmp (30 : Nat))), none⟩] false)
  (.seq (.seq (.reg 10 [⟨some 31, (.move (.tmp (0 : Nat))), none⟩,
    ⟨some 32, (.move (.tmp (5 : Nat))), none⟩,
    ⟨some 33, (.indexAddr 23 (.tmp (31 : Nat)) (.tmp (32 : Nat))), none⟩,
    ⟨some 34, (.fieldAddr 32 (.tmp (33 : Nat)) 1), none⟩,
    ⟨some 35, (.load 9 (.tmp (34 : Nat))), none⟩,
    ⟨some 36, (.binOp .neq 9 (.tmp (35 : Nat)) (.const (.string ⟨#[]⟩)) 9), none⟩] false)
  (.cond (.tmp (36 : Nat)) (.reg 11 [⟨some 37, (.move (.tmp (4 : Nat))), none⟩,
    ⟨some 38, (.binOp .add 9 (.tmp (37 : Nat)) (.const (.string ⟨#[32]⟩)) 9), none⟩,
    ⟨some 39, (.move (.tmp (0 : Nat))), none⟩,
    ⟨some 40, (.move (.tmp (5 : Nat))), none⟩,
    ⟨some 41, (.indexAddr 23 (.tmp (39 : Nat)) (.tmp (40 : Nat))), none⟩,
    ⟨some 42, (.fieldAddr 32 (.tmp (41 : Nat)) 1), none⟩,
    ⟨some 43, (.load 9 (.tmp (42 : Nat))), none⟩,
    ⟨some 44, (.binOp .add 9 (.tmp (38 : Nat)) (.tmp (43 : Nat)) 9), none⟩,
    ⟨some 4, (.assign (.tmp (44 : Nat))), none⟩] false) .skip))
  (cutIC r17Text.R0)))
def r17Text.R2 : IC :=
  (.reg 5 [⟨some 12, (.move (.tmp (5 : Nat))), none⟩,
    ⟨some 13, (.binOp .add 3 (.tmp (12 : Nat)) (.const (.int .i64 1)) 3), none⟩,
    ⟨some 5, (.assign (.tmp (13 : Nat))), none⟩] false)
def r17Text.L0 : IC :=
  (.seq (.seq (.reg 4 [⟨some 8, (.move (.tmp (5 : Nat))), none⟩,
    ⟨some 9, (.move (.tmp (0 : Nat))), none⟩,
    ⟨some 10, (.call { callee := (.builtin .len), args := #[(.tmp (9 : Nat))], argTypes := #[23] }), none⟩,
    ⟨some 11, (.binOp .lss 3 (.tmp (8 : Nat)) (.tmp (10 : Nat)) 3), none⟩] false)
  (.cond (.tmp (11 : Nat)) .skip (.exit 0)))
  (.seq (.block 1 (.seq (.reg 6 [⟨some 14, (.move (.tmp (0 : Nat))), none⟩,
    ⟨some 15, (.move (.tmp (5 : Nat))), none⟩,
    ⟨some 16, (.indexAddr 23 (.tmp (14 : Nat)) (.tmp (15 : Nat))), none⟩,
    ⟨some 17, (.fieldAddr 32 (.tmp (16 : Nat)) 0), none⟩,
    ⟨some 18, (.load 3 (.tmp (17 : Nat))), none⟩,
    ⟨some 6, (.assign (.tmp (18 : Nat))), none⟩] false)
  (.seq (.seq (.reg 7 [⟨some 19, (.move (.tmp (6 : Nat))), none⟩,
    ⟨some 20, (.binOp .lss 3 (.tmp (19 : Nat)) (.const (.int .i64 0)) 3), none⟩,
    ⟨some 21, (.move (.tmp (20 : Nat))), none⟩,
    ⟨some 22, (.move (.tmp (6 : Nat))), some (21, false)⟩,
    ⟨some 23, (.binOp .gtr 3 (.tmp (22 : Nat)) (.const (.int .i64 9)) 3), some (21, false)⟩,
    ⟨some 24, (.pick (.tmp (21 : Nat)) (.const (.bool true)) (.tmp (23 : Nat))), none⟩] false)
  (.cond (.tmp (24 : Nat)) (.reg 8 [⟨some 6, (.assign (.const (.int .i64 0))), none⟩] false) .skip))
  (cutIC r17Text.R1))))
  (cutIC r17Text.R2)))
def r17Text.R3 : IC :=
  (.seq (.reg 13 [⟨some 47, (.move (.tmp (4 : Nat))), none⟩,
    ⟨some 2, (.assign (.tmp (47 : Nat))), none⟩] false)
  .ret)
def r17Text.c : IC :=
  (.seq (.reg 0 [⟨some 2, (.assign (.const (.string ⟨#[]⟩))), none⟩] false)
  (.seq (.reg 1 [⟨some 7, (.buildSlice 43 10 #[(0, (.const (.string ⟨#[63]⟩))), (1, (.const (.string ⟨#[119, 104, 111, 108, 101]⟩))), (2, (.const (.string ⟨#[115, 116, 111, 112]⟩))), (3, (.const (.string ⟨#[109, 111, 118, 101]⟩))), (4, (.const (.string ⟨#[114, 101, 115, 116, 97, 114, 116]⟩))), (5, (.const (.string ⟨#[114, 101, 115, 101, 116]⟩))), (6, (.const (.string ⟨#[115, 116, 97, 114, 116]⟩))), (7, (.const (.string ⟨#[97, 110, 101, 119]⟩))), (8, (.const (.string ⟨#[104, 101, 108, 108, 111, 115]⟩))), (9, (.const (.string ⟨#[116, 105, 109, 101, 114, 115]⟩)))]), none⟩,
    ⟨some 3, (.assign (.tmp (7 : Nat))), none⟩] false)
  (.seq (.reg 2 [⟨some 4, (.assign (.const (.string ⟨#[]⟩))), none⟩] false)
  (.seq (.seq (.reg 3 [⟨some 5, (.assign (.const (.int .i64 0))), none⟩] false)
  (.block 0 (.loop r17Text.L0)))
  (cutIC r17Text.R3)))))
theorem r17Text.of : Tryz.f12.body.bind IC.of = some r17Text.c := by kernel_rfl
theorem r17Text.ok : Tryz.f12.body.map (okCode Tryz.prog Tryz.f12.ntmps (fun _ _ => false)) = some true := by kernel_rfl
variable {W0 : World}
def eth0 (v : UInt8) : List Line := [⟨2, [101, 116, 104, 48], [99, 111, 115, 116], [v]⟩]
theorem eth_make : makeB (eth0 53) (eth0 54) = [⟨7, [101, 116, 104, 48]⟩] := by decide
theorem eth_rights : rightsB (eth0 53) = true ∧ rightsB (eth0 54) = true := by decide
theorem eth_ok : confOk (eth0 53) ∧ confOk (eth0 54) := by decide
def sPlans : Sem1 := fun args _ => match args with
  | [] => some (.val (.bool true))
  | _ => none
@[go_sem] theorem sPlans_eq (H : Heap) : sPlans [] H = some (.val (.bool true)) := rfl
theorem w_l17plans (h1 : PureF Tryz.prog W0 7 sMake) (h2 : PureF Tryz.prog W0 11 sTextT) : PureF Tryz.prog W0 9 sPlans := by
  refine PureF.of (rs := [(.tmp 0)]) (fun _ _ => false) (Φ := [(11, sTextT)]) ⟨h2, trivial⟩ T.mixed Tryz.func9 l17plans.of rfl l17plans.ok rfl ?_
  intro args H v hs
  unfold sPlans at hs
  split at hs <;> cases hs
  refine ⟨by simp, ?_⟩
  unfold l17plans.c
  simp (implicitDefEqProofs := false) (contextual := true) only [go_sem, reduceIte, Nat.reduceEqDiff, Nat.reduceAdd, Nat.reduceSub, Nat.reduceMul, Nat.reduceLeDiff, Int.reduceLT, Int.reduceLE, Int.reduceEq, Int.reduceAdd, Int.reduceSub, Int.reduceMul, Int.reduceNeg, Int.reduceToNat, reduceCtorEq, Nat.reduceBEq, Nat.reduceLT]
  intro id hid id1 n1 n2 hid1
  have hm : ∀ H, sMake [.sl ((eth0 53).map lineV), .sl ((eth0 54).map lineV)] H = some (.tup [.sl ([(⟨7, [101, 116, 104, 48]⟩ : Act)].map actV), .val (.int .i64 0)]) := by
    intro H
    rw [sMake_eq, confOf_sl, linesOf_map, confOf_sl, linesOf_map, Option.bind_some, Option.bind_some, if_pos eth_ok, if_pos eth_rights, eth_make]
  generalize hH2 : (H.set id (IL.Obj.mem 4 [lineV ⟨2, [101, 116, 104, 48], [99, 111, 115, 116], [53]⟩])).set id1 (IL.Obj.mem 4 [lineV ⟨2, [101, 116, 104, 48], [99, 111, 115, 116], [54]⟩]) = H2
  have g1 : H2 id = IL.Obj.mem 4 ((eth0 53).map lineV) := by rw [← hH2, Heap.set_ne _ _ (fun e => n2 e), Heap.set_same]; rfl
  have g2 : H2 id1 = IL.Obj.mem 4 ((eth0 54).map lineV) := by rw [← hH2, Heap.set_same]; rfl
  have hf : frzAll H2 [.ar id 4 0 1, .ar id1 4 0 1] = ([.sl ((eth0 53).map lineV), .sl ((eth0 54).map lineV)], (H2.set id .dead).set id1 .dead) := by
    have a1 : frz H2 (.ar id 4 0 1) = (.sl ((eth0 53).map lineV), H2.set id .dead) := by rw [frz_ar, frz1_ar _ _ _ _ _ _ g1 (by decide)]; rfl
    have a2 : frz (H2.set id .dead) (.ar id1 4 0 1) = (.sl ((eth0 54).map lineV), (H2.set id .dead).set id1 .dead) := by
      rw [frz_ar, frz1_ar _ _ _ _ _ ((eth0 54).map lineV) (by rw [Heap.set_ne _ _ n1]; exact g2) (by decide)]; rfl
    simp only [frzAll_cons, frzAll_nil, a1, a2]
  have hk : Keeps H ((H2.set id .dead).set id1 .dead) := by
    subst hH2
    exact ((((Keeps.refl H).set hid).set hid1).set hid).set hid1
  have hH2' := hH2
  rw [show (H.set id (IL.Obj.mem 4 [V.agg [V.val (Value.int IntKind.i64 2), V.str [101, 116, 104, 48], V.str [99, 111, 115, 116], V.str [53]]])).set id1 (IL.Obj.mem 4 [V.agg [V.val (Value.int IntKind.i64 2), V.str [101, 116, 104, 48], V.str [99, 111, 115, 116], V.str [54]]]) = H2 from hH2, itO_eq]
  refine (PureF.own h1 (by rw [hf]; exact hm _)).mono ?_
  rintro v H3 ⟨rfl, rfl⟩
  rw [hf]
  have hfit : actsFit [⟨7, [101, 116, 104, 48]⟩] := by decide
  have htx : textT [⟨7, [101, 116, 104, 48]⟩] = [97, 110, 101, 119, 32, 101, 116, 104, 48, 10] := by decide
  have hac : ∀ l, actsOf (List.map actV l) = some l := actsOf_map
  generalize hal : [(⟨7, [101, 116, 104, 48]⟩ : Act)] = al at *
  simp (implicitDefEqProofs := false) (contextual := true) only [go_sem, reduceIte, Nat.reduceEqDiff, Nat.reduceAdd, Nat.reduceSub, Nat.reduceMul, Nat.reduceLeDiff, Int.reduceLT, Int.reduceLE, Int.reduceEq, Int.reduceAdd, Int.reduceSub, Int.reduceMul, Int.reduceNeg, Int.reduceToNat, reduceCtorEq, Nat.reduceBEq, Nat.reduceLT, hac, hfit, htx]
  exact hk
theorem textT_snoc (l : List Act) (a : Act) : textT (l ++ [a]) = textT l ++ rowT a := by simp [textT]
theorem w_r17Text : PureF Tryz.prog W0 12 sTextT := by
  refine PureF.of (rs := [(.tmp 2)]) (fun _ _ => false) (Φ := []) trivial T.mixed Tryz.func12 r17Text.of rfl r17Text.ok rfl ?_
  intro args H v hs
  unfold sTextT at hs
  split at hs
  · rename_i xs
    simp only [Option.bind_eq_some_iff] at hs
    obtain ⟨l, hl, hs⟩ := hs
    split at hs <;> cases hs
    rename_i hfit
    obtain ⟨hlen, hnm⟩ := hfit
    have := actsOf_some hl
    subst this
    refine ⟨by simp [Tryz.f12], ?_⟩
    unfold r17Text.c
    simp (implicitDefEqProofs := false) (contextual := true) only [go_sem, reduceIte, Nat.reduceEqDiff, Nat.reduceAdd, Nat.reduceSub, Nat.reduceMul, Nat.reduceLeDiff, Int.reduceLT, Int.reduceLE, Int.reduceEq, Int.reduceAdd, Int.reduceSub, Int.reduceMul, Int.reduceNeg, Int.reduceToNat, reduceCtorEq, Nat.reduceBEq, Nat.reduceLT]
    intro id hid
    rw [show [V.str [63], V.str [119, 104, 111, 108, 101], V.str [115, 116, 111, 112], V.str [109, 111, 118, 101], V.str [114, 101, 115, 116, 97, 114, 116], V.str [114, 101, 115, 101, 116], V.str [115, 116, 97, 114, 116], V.str [97, 110, 101, 119], V.str [104, 101, 108, 108, 111, 115], V.str [116, 105, 109, 101, 114, 115]] = wordsOfKinds.map .str from rfl]
    refine wpO_up l.length (fun i fr H' => i ≤ l.length ∧ fr 0 = .sl (l.map actV) ∧ fr 3 = .ar id 1 0 10 ∧ fr 4 = .str (textT (l.take i)) ∧ fr 5 = .val (.int .i64 i) ∧ H' = H.set id (.mem 1 (wordsOfKinds.map .str))) 0 ?_ ?_
    · simp (implicitDefEqProofs := false) (contextual := true) only [go_sem, reduceIte, Nat.reduceEqDiff, Nat.reduceAdd, Nat.reduceSub, Nat.reduceMul, Nat.reduceLeDiff, Int.reduceLT, Int.reduceLE, Int.reduceEq, Int.reduceAdd, Int.reduceSub, Int.reduceMul, Int.reduceNeg, Int.reduceToNat, reduceCtorEq, Nat.reduceBEq, Nat.reduceLT, List.take_zero]
      simp [textT]
    · rintro i fr H' ⟨hi, f0, f3, f4, f5, rfl⟩
      unfold r17Text.L0
      have hw : IntKind.i64.wrap ((i : Int) + 1) = ((i + 1 : Nat) : Int) := wrap64 (by omega)
      by_cases hlt : i < l.length
      · obtain ⟨a, ha⟩ : ∃ a, l[i]? = some a := ⟨_, List.getElem?_eq_getElem hlt⟩
        have htk : textT (l.take (i + 1)) = textT (l.take i) ++ rowT a := by rw [List.take_add_one, ha, Option.toList_some, textT_snoc]
        have han : a.name.length ≤ 1048576 := hnm a (List.mem_of_getElem? ha)
        have htl : (textT (l.take i)).length ≤ i * 1048600 := by
          have := textT_len (l := l.take i) (fun b hb => hnm b (List.mem_of_mem_take hb))
          rw [List.length_take, Nat.min_eq_left hi] at this; exact this
        have fin : ∀ (n : Nat) (fr' : Fr), fr' 0 = .sl (l.map actV) → fr' 3 = .ar id 1 0 10 → fr' 4 = .str (textT (l.take i)) → fr' 5 = .val (.int .i64 i) → fr' 6 = .val (.int .i64 n) → n < 10 → wordsOfKinds[n]? = some (wordK a.kind) →
            ∀ Q, (∀ fr'', fr'' 0 = .sl (l.map actV) → fr'' 3 = .ar id 1 0 10 → fr'' 4 = .str (textT (l.take (i + 1))) → fr'' 5 = .val (.int .i64 i) → Q .normal fr'' (H.set id (.mem 1 (wordsOfKinds.map .str)))) → wpS Tryz.prog W0 [] (fun _ _ => false) r17Text.R1 Q fr' (H.set id (.mem 1 (wordsOfKinds.map .str))) := by
          intro n fr' q0 q3 q4 q5 q6 hn hwk Q hQ
          have hwl := wordK_len a.kind
          have hmul : i * 1048600 ≤ 512 * 1048600 := Nat.mul_le_mul_right _ (by omega)
          rw [htk] at hQ
          unfold r17Text.R1
          by_cases en : a.name = []
          · have hrow : textT (l.take i) ++ wordK a.kind ++ [10] = textT (l.take i) ++ rowT a := by unfold rowT; rw [if_pos en]; simp
            rw [← hrow] at hQ
            simp (implicitDefEqProofs := false) only [go_sem, reduceIte, Nat.reduceEqDiff, Nat.reduceAdd, Nat.reduceSub, Nat.reduceMul, Nat.reduceLeDiff, Int.reduceLT, Int.reduceLE, Int.reduceEq, Int.reduceAdd, Int.reduceSub, Int.reduceMul, Int.reduceNeg, Int.reduceToNat, reduceCtorEq, Nat.reduceBEq, Nat.reduceLT, q0, q3, q4, q5, q6, hn, hwk, hlt, ha, actV, en]
            refine ⟨by omega, ?_⟩
            rw [wpO_eq]
            unfold r17Text.R0
            simp (implicitDefEqProofs := false) only [go_sem, reduceIte, Nat.reduceEqDiff, Nat.reduceAdd, Nat.reduceSub, Nat.reduceMul, Nat.reduceLeDiff, Int.reduceLT, Int.reduceLE, Int.reduceEq, Int.reduceAdd, Int.reduceSub, Int.reduceMul, Int.reduceNeg, Int.reduceToNat, reduceCtorEq, Nat.reduceBEq, Nat.reduceLT]
            refine ⟨by omega, ?_⟩
            refine hQ _ ?_ ?_ ?_ ?_
            all_goals simp (implicitDefEqProofs := false) only [go_sem, reduceIte, Nat.reduceEqDiff, Nat.reduceAdd, Nat.reduceSub, Nat.reduceMul, Nat.reduceLeDiff, Int.reduceLT, Int.reduceLE, Int.reduceEq, Int.reduceAdd, Int.reduceSub, Int.reduceMul, Int.reduceNeg, Int.reduceToNat, reduceCtorEq, Nat.reduceBEq, Nat.reduceLT, q0, q3, q5]
          · have hrow : textT (l.take i) ++ wordK a.kind ++ [32] ++ a.name ++ [10] = textT (l.take i) ++ rowT a := by unfold rowT; rw [if_neg en]; simp
            rw [← hrow] at hQ
            simp (implicitDefEqProofs := false) only [go_sem, reduceIte, Nat.reduceEqDiff, Nat.reduceAdd, Nat.reduceSub, Nat.reduceMul, Nat.reduceLeDiff, Int.reduceLT, Int.reduceLE, Int.reduceEq, Int.reduceAdd, Int.reduceSub, Int.reduceMul, Int.reduceNeg, Int.reduceToNat, reduceCtorEq, Nat.reduceBEq, Nat.reduceLT, q0, q3, q4, q5, q6, hn, hwk, hlt, ha, actV, en]
            refine ⟨by omega, by omega, by omega, ?_⟩
            rw [wpO_eq]
            unfold r17Text.R0
            simp (implicitDefEqProofs := false) only [go_sem, reduceIte, Nat.reduceEqDiff, Nat.reduceAdd, Nat.reduceSub, Nat.reduceMul, Nat.reduceLeDiff, Int.reduceLT, Int.reduceLE, Int.reduceEq, Int.reduceAdd, Int.reduceSub, Int.reduceMul, Int.reduceNeg, Int.reduceToNat, reduceCtorEq, Nat.reduceBEq, Nat.reduceLT]
            refine ⟨by omega, ?_⟩
            refine hQ _ ?_ ?_ ?_ ?_
            all_goals simp (implicitDefEqProofs := false) only [go_sem, reduceIte, Nat.reduceEqDiff, Nat.reduceAdd, Nat.reduceSub, Nat.reduceMul, Nat.reduceLeDiff, Int.reduceLT, Int.reduceLE, Int.reduceEq, Int.reduceAdd, Int.reduceSub, Int.reduceMul, Int.reduceNeg, Int.reduceToNat, reduceCtorEq, Nat.reduceBEq, Nat.reduceLT, q0, q3, q5]
        by_cases h1 : a.kind < 0
        · have hwk : wordK a.kind = [63] := by unfold wordK; rw [if_neg (by omega)]
          simp (implicitDefEqProofs := false) (contextual := true) only [go_sem, reduceIte, Nat.reduceEqDiff, Nat.reduceAdd, Nat.reduceSub, Nat.reduceMul, Nat.reduceLeDiff, Int.reduceLT, Int.reduceLE, Int.reduceEq, Int.reduceAdd, Int.reduceSub, Int.reduceMul, Int.reduceNeg, Int.reduceToNat, reduceCtorEq, Nat.reduceBEq, Nat.reduceLT, f0, f3, f4, f5, hlt, ha, actV, h1]
          rw [wpO_eq]
          refine fin 0 _ ?_ ?_ ?_ ?_ ?_ (by decide) (by rw [hwk]; rfl) _ ?_
          · simp (implicitDefEqProofs := false) only [go_sem, reduceIte, Nat.reduceEqDiff, Nat.reduceAdd, Nat.reduceSub, Nat.reduceMul, Nat.reduceLeDiff, Int.reduceLT, Int.reduceLE, Int.reduceEq, Int.reduceAdd, Int.reduceSub, Int.reduceMul, Int.reduceNeg, Int.reduceToNat, reduceCtorEq, Nat.reduceBEq, Nat.reduceLT, f0]
          · simp (implicitDefEqProofs := false) only [go_sem, reduceIte, Nat.reduceEqDiff, Nat.reduceAdd, Nat.reduceSub, Nat.reduceMul, Nat.reduceLeDiff, Int.reduceLT, Int.reduceLE, Int.reduceEq, Int.reduceAdd, Int.reduceSub, Int.reduceMul, Int.reduceNeg, Int.reduceToNat, reduceCtorEq, Nat.reduceBEq, Nat.reduceLT, f3]
          · simp (implicitDefEqProofs := false) only [go_sem, reduceIte, Nat.reduceEqDiff, Nat.reduceAdd, Nat.reduceSub, Nat.reduceMul, Nat.reduceLeDiff, Int.reduceLT, Int.reduceLE, Int.reduceEq, Int.reduceAdd, Int.reduceSub, Int.reduceMul, Int.reduceNeg, Int.reduceToNat, reduceCtorEq, Nat.reduceBEq, Nat.reduceLT, f4]
          · simp (implicitDefEqProofs := false) only [go_sem, reduceIte, Nat.reduceEqDiff, Nat.reduceAdd, Nat.reduceSub, Nat.reduceMul, Nat.reduceLeDiff, Int.reduceLT, Int.reduceLE, Int.reduceEq, Int.reduceAdd, Int.reduceSub, Int.reduceMul, Int.reduceNeg, Int.reduceToNat, reduceCtorEq, Nat.reduceBEq, Nat.reduceLT, f5]
          · simp (implicitDefEqProofs := false) only [go_sem, reduceIte, Nat.reduceEqDiff, Nat.reduceAdd, Nat.reduceSub, Nat.reduceMul, Nat.reduceLeDiff, Int.reduceLT, Int.reduceLE, Int.reduceEq, Int.reduceAdd, Int.reduceSub, Int.reduceMul, Int.reduceNeg, Int.reduceToNat, reduceCtorEq, Nat.reduceBEq, Nat.reduceLT]
          · intro fr'' q0 q3 q4 q5
            simp (implicitDefEqProofs := false) only [go_sem, reduceIte, Nat.reduceEqDiff, Nat.reduceAdd, Nat.reduceSub, Nat.reduceMul, Nat.reduceLeDiff, Int.reduceLT, Int.reduceLE, Int.reduceEq, Int.reduceAdd, Int.reduceSub, Int.reduceMul, Int.reduceNeg, Int.reduceToNat, reduceCtorEq, Nat.reduceBEq, Nat.reduceLT]
            rw [wpO_eq]
            unfold r17Text.R2
            simp (implicitDefEqProofs := false) only [go_sem, reduceIte, Nat.reduceEqDiff, Nat.reduceAdd, Nat.reduceSub, Nat.reduceMul, Nat.reduceLeDiff, Int.reduceLT, Int.reduceLE, Int.reduceEq, Int.reduceAdd, Int.reduceSub, Int.reduceMul, Int.reduceNeg, Int.reduceToNat, reduceCtorEq, Nat.reduceBEq, Nat.reduceLT, q5, hw]
            exact ⟨hlt, by omega, q0, q3, q4⟩
        · by_cases h2 : 9 < a.kind
          · have hwk : wordK a.kind = [63] := by unfold wordK; rw [if_neg (by omega)]
            simp (implicitDefEqProofs := false) (contextual := true) only [go_sem, reduceIte, Nat.reduceEqDiff, Nat.reduceAdd, Nat.reduceSub, Nat.reduceMul, Nat.reduceLeDiff, Int.reduceLT, Int.reduceLE, Int.reduceEq, Int.reduceAdd, Int.reduceSub, Int.reduceMul, Int.reduceNeg, Int.reduceToNat, reduceCtorEq, Nat.reduceBEq, Nat.reduceLT, f0, f3, f4, f5, hlt, ha, actV, h1, h2]
            rw [wpO_eq]
            refine fin 0 _ ?_ ?_ ?_ ?_ ?_ (by decide) (by rw [hwk]; rfl) _ ?_
            · simp (implicitDefEqProofs := false) only [go_sem, reduceIte, Nat.reduceEqDiff, Nat.reduceAdd, Nat.reduceSub, Nat.reduceMul, Nat.reduceLeDiff, Int.reduceLT, Int.reduceLE, Int.reduceEq, Int.reduceAdd, Int.reduceSub, Int.reduceMul, Int.reduceNeg, Int.reduceToNat, reduceCtorEq, Nat.reduceBEq, Nat.reduceLT, f0]
            · simp (implicitDefEqProofs := false) only [go_sem, reduceIte, Nat.reduceEqDiff, Nat.reduceAdd, Nat.reduceSub, Nat.reduceMul, Nat.reduceLeDiff, Int.reduceLT, Int.reduceLE, Int.reduceEq, Int.reduceAdd, Int.reduceSub, Int.reduceMul, Int.reduceNeg, Int.reduceToNat, reduceCtorEq, Nat.reduceBEq, Nat.reduceLT, f3]
            · simp (implicitDefEqProofs := false) only [go_sem, reduceIte, Nat.reduceEqDiff, Nat.reduceAdd, Nat.reduceSub, Nat.reduceMul, Nat.reduceLeDiff, Int.reduceLT, Int.reduceLE, Int.reduceEq, Int.reduceAdd, Int.reduceSub, Int.reduceMul, Int.reduceNeg, Int.reduceToNat, reduceCtorEq, Nat.reduceBEq, Nat.reduceLT, f4]
            · simp (implicitDefEqProofs := false) only [go_sem, reduceIte, Nat.reduceEqDiff, Nat.reduceAdd, Nat.reduceSub, Nat.reduceMul, Nat.reduceLeDiff, Int.reduceLT, Int.reduceLE, Int.reduceEq, Int.reduceAdd, Int.reduceSub, Int.reduceMul, Int.reduceNeg, Int.reduceToNat, reduceCtorEq, Nat.reduceBEq, Nat.reduceLT, f5]
            · simp (implicitDefEqProofs := false) only [go_sem, reduceIte, Nat.reduceEqDiff, Nat.reduceAdd, Nat.reduceSub, Nat.reduceMul, Nat.reduceLeDiff, Int.reduceLT, Int.reduceLE, Int.reduceEq, Int.reduceAdd, Int.reduceSub, Int.reduceMul, Int.reduceNeg, Int.reduceToNat, reduceCtorEq, Nat.reduceBEq, Nat.reduceLT]
            · intro fr'' q0 q3 q4 q5
              simp (implicitDefEqProofs := false) only [go_sem, reduceIte, Nat.reduceEqDiff, Nat.reduceAdd, Nat.reduceSub, Nat.reduceMul, Nat.reduceLeDiff, Int.reduceLT, Int.reduceLE, Int.reduceEq, Int.reduceAdd, Int.reduceSub, Int.reduceMul, Int.reduceNeg, Int.reduceToNat, reduceCtorEq, Nat.reduceBEq, Nat.reduceLT]
              rw [wpO_eq]
              unfold r17Text.R2
              simp (implicitDefEqProofs := false) only [go_sem, reduceIte, Nat.reduceEqDiff, Nat.reduceAdd, Nat.reduceSub, Nat.reduceMul, Nat.reduceLeDiff, Int.reduceLT, Int.reduceLE, Int.reduceEq, Int.reduceAdd, Int.reduceSub, Int.reduceMul, Int.reduceNeg, Int.reduceToNat, reduceCtorEq, Nat.reduceBEq, Nat.reduceLT, q5, hw]
              exact ⟨hlt, by omega, q0, q3, q4⟩
          · obtain ⟨n, hn⟩ := Int.eq_ofNat_of_zero_le (Int.not_lt.1 h1)
            have hn10 : n < 10 := by omega
            have hwk : wordsOfKinds[n]? = some (wordK a.kind) := by
              unfold wordK
              rw [hn, if_pos (by omega)]
              have : n < wordsOfKinds.length := hn10
              simp [this]
            simp (implicitDefEqProofs := false) (contextual := true) only [go_sem, reduceIte, Nat.reduceEqDiff, Nat.reduceAdd, Nat.reduceSub, Nat.reduceMul, Nat.reduceLeDiff, Int.reduceLT, Int.reduceLE, Int.reduceEq, Int.reduceAdd, Int.reduceSub, Int.reduceMul, Int.reduceNeg, Int.reduceToNat, reduceCtorEq, Nat.reduceBEq, Nat.reduceLT, f0, f3, f4, f5, hlt, ha, actV, h1, h2]
            rw [wpO_eq]
            refine fin n _ ?_ ?_ ?_ ?_ ?_ hn10 hwk _ ?_
            · simp (implicitDefEqProofs := false) only [go_sem, reduceIte, Nat.reduceEqDiff, Nat.reduceAdd, Nat.reduceSub, Nat.reduceMul, Nat.reduceLeDiff, Int.reduceLT, Int.reduceLE, Int.reduceEq, Int.reduceAdd, Int.reduceSub, Int.reduceMul, Int.reduceNeg, Int.reduceToNat, reduceCtorEq, Nat.reduceBEq, Nat.reduceLT, f0]
            · simp (implicitDefEqProofs := false) only [go_sem, reduceIte, Nat.reduceEqDiff, Nat.reduceAdd, Nat.reduceSub, Nat.reduceMul, Nat.reduceLeDiff, Int.reduceLT, Int.reduceLE, Int.reduceEq, Int.reduceAdd, Int.reduceSub, Int.reduceMul, Int.reduceNeg, Int.reduceToNat, reduceCtorEq, Nat.reduceBEq, Nat.reduceLT, f3]
            · simp (implicitDefEqProofs := false) only [go_sem, reduceIte, Nat.reduceEqDiff, Nat.reduceAdd, Nat.reduceSub, Nat.reduceMul, Nat.reduceLeDiff, Int.reduceLT, Int.reduceLE, Int.reduceEq, Int.reduceAdd, Int.reduceSub, Int.reduceMul, Int.reduceNeg, Int.reduceToNat, reduceCtorEq, Nat.reduceBEq, Nat.reduceLT, f4]
            · simp (implicitDefEqProofs := false) only [go_sem, reduceIte, Nat.reduceEqDiff, Nat.reduceAdd, Nat.reduceSub, Nat.reduceMul, Nat.reduceLeDiff, Int.reduceLT, Int.reduceLE, Int.reduceEq, Int.reduceAdd, Int.reduceSub, Int.reduceMul, Int.reduceNeg, Int.reduceToNat, reduceCtorEq, Nat.reduceBEq, Nat.reduceLT, f5]
            · simp (implicitDefEqProofs := false) only [go_sem, reduceIte, Nat.reduceEqDiff, Nat.reduceAdd, Nat.reduceSub, Nat.reduceMul, Nat.reduceLeDiff, Int.reduceLT, Int.reduceLE, Int.reduceEq, Int.reduceAdd, Int.reduceSub, Int.reduceMul, Int.reduceNeg, Int.reduceToNat, reduceCtorEq, Nat.reduceBEq, Nat.reduceLT, hn]
            · intro fr'' q0 q3 q4 q5
              simp (implicitDefEqProofs := false) only [go_sem, reduceIte, Nat.reduceEqDiff, Nat.reduceAdd, Nat.reduceSub, Nat.reduceMul, Nat.reduceLeDiff, Int.reduceLT, Int.reduceLE, Int.reduceEq, Int.reduceAdd, Int.reduceSub, Int.reduceMul, Int.reduceNeg, Int.reduceToNat, reduceCtorEq, Nat.reduceBEq, Nat.reduceLT]
              rw [wpO_eq]
              unfold r17Text.R2
              simp (implicitDefEqProofs := false) only [go_sem, reduceIte, Nat.reduceEqDiff, Nat.reduceAdd, Nat.reduceSub, Nat.reduceMul, Nat.reduceLeDiff, Int.reduceLT, Int.reduceLE, Int.reduceEq, Int.reduceAdd, Int.reduceSub, Int.reduceMul, Int.reduceNeg, Int.reduceToNat, reduceCtorEq, Nat.reduceBEq, Nat.reduceLT, q5, hw]
              exact ⟨hlt, by omega, q0, q3, q4⟩
      · have hic : i = l.length := by omega
        rw [hic, List.take_length] at f4
        simp (implicitDefEqProofs := false) only [go_sem, reduceIte, Nat.reduceEqDiff, Nat.reduceAdd, Nat.reduceSub, Nat.reduceMul, Nat.reduceLeDiff, Int.reduceLT, Int.reduceLE, Int.reduceEq, Int.reduceAdd, Int.reduceSub, Int.reduceMul, Int.reduceNeg, Int.reduceToNat, reduceCtorEq, Nat.reduceBEq, Nat.reduceLT, f0, f5, hlt]
        rw [wpO_eq]
        unfold r17Text.R3
        simp (implicitDefEqProofs := false) only [go_sem, reduceIte, Nat.reduceEqDiff, Nat.reduceAdd, Nat.reduceSub, Nat.reduceMul, Nat.reduceLeDiff, Int.reduceLT, Int.reduceLE, Int.reduceEq, Int.reduceAdd, Int.reduceSub, Int.reduceMul, Int.reduceNeg, Int.reduceToNat, reduceCtorEq, Nat.reduceBEq, Nat.reduceLT, f4]
        exact (Keeps.refl H).set hid
  · cases hs
end Go.Proofs.W

namespace Go.Proofs.W
set_option linter.unusedSimpArgs false
set_option maxRecDepth 20000
open Go Go.IL Go.Proofs
def l5To.L0 : IC :=
  (.seq (.seq (.reg 3 [⟨some 5, (.move (.tmp (4 : Nat))), none⟩,
    ⟨some 6, (.move (.tmp (0 : Nat))), none⟩,
    ⟨some 7, (.call { callee := (.builtin .len), args := #[(.tmp (6 : Nat))], argTypes := #[22] }), none⟩,
    ⟨some 8, (.binOp .lss 3 (.tmp (5 : Nat)) (.tmp (7 : Nat)) 3), none⟩] false)
  (.cond (.tmp (8 : Nat)) .skip (.exit 0)))
  (.seq (.block 1 (.reg 5 [⟨some 11, (.move (.tmp (3 : Nat))), none⟩,
    ⟨some 12, (.move (.tmp (0 : Nat))), none⟩,
    ⟨some 13, (.move (.tmp (4 : Nat))), none⟩,
    ⟨some 14, (.indexAddr 22 (.tmp (12 : Nat)) (.tmp (13 : Nat))), none⟩,
    ⟨some 15, (.fieldAddr 86 (.tmp (14 : Nat)) 0), none⟩,
    ⟨some 16, (.load 3 (.tmp (15 : Nat))), none⟩,
    ⟨some 17, (.move (.tmp (0 : Nat))), none⟩,
    ⟨some 18, (.move (.tmp (4 : Nat))), none⟩,
    ⟨some 19, (.indexAddr 22 (.tmp (17 : Nat)) (.tmp (18 : Nat))), none⟩,
    ⟨some 20, (.fieldAddr 86 (.tmp (19 : Nat)) 1), none⟩,
    ⟨some 21, (.load 9 (.tmp (20 : Nat))), none⟩,
    ⟨some 22, (.move (.tmp (0 : Nat))), none⟩,
    ⟨some 23, (.move (.tmp (4 : Nat))), none⟩,
    ⟨some 24, (.indexAddr 22 (.tmp (22 : Nat)) (.tmp (23 : Nat))), none⟩,
    ⟨some 25, (.fieldAddr 86 (.tmp (24 : Nat)) 2), none⟩,
    ⟨some 26, (.load 9 (.tmp (25 : Nat))), none⟩,
    ⟨some 27, (.move (.tmp (0 : Nat))), none⟩,
    ⟨some 28, (.move (.tmp (4 : Nat))), none⟩,
    ⟨some 29, (.indexAddr 22 (.tmp (27 : Nat)) (.tmp (28 : Nat))), none⟩,
    ⟨some 30, (.fieldAddr 86 (.tmp (29 : Nat)) 3), none⟩,
    ⟨some 31, (.load 9 (.tmp (30 : Nat))), none⟩,
    ⟨some 32, (.build 80 #[(0, (.tmp (16 : Nat))), (1, (.tmp (21 : Nat))), (2, (.tmp (26 : Nat))), (3, (.tmp (31 : Nat)))]), none⟩,
    ⟨some 33, (.buildSlice 29 1 #[(0, (.tmp (32 : Nat)))]), none⟩,
    ⟨some 34, (.call { callee := (.builtin .append), args := #[(.tmp (11 : Nat)), (.tmp (33 : Nat))], argTypes := #[29, 29] }), none⟩,
    ⟨some 3, (.assign (.tmp (34 : Nat))), none⟩] true))
  (.reg 4 [⟨some 9, (.move (.tmp (4 : Nat))), none⟩,
    ⟨some 10, (.binOp .add 3 (.tmp (9 : Nat)) (.const (.int .i64 1)) 3), none⟩,
    ⟨some 4, (.assign (.tmp (10 : Nat))), none⟩] false)))
def l5To.R0 : IC :=
  (.seq (.reg 6 [⟨some 35, (.move (.tmp (3 : Nat))), none⟩,
    ⟨some 2, (.assign (.tmp (35 : Nat))), none⟩] false)
  .ret)
def l5To.c : IC :=
  (.seq (.reg 0 [⟨some 2, (.assign (.const (.slice none 0 0))), none⟩] false)
  (.seq (.reg 1 [⟨some 3, (.assign (.const (.slice none 0 0))), none⟩] false)
  (.seq (.seq (.reg 2 [⟨some 4, (.assign (.const (.int .i64 0))), none⟩] false)
  (.block 0 (.loop l5To.L0)))
  (cutIC l5To.R0))))
theorem l5To.of : Tryz.f8.body.bind IC.of = some l5To.c := by kernel_rfl
theorem l5To.ok : Tryz.f8.body.map (okCode Tryz.prog Tryz.f8.ntmps (fun _ _ => false)) = some true := by kernel_rfl
variable {W0 : World}
def sTo : Sem1 := fun args _ => match args with
  | [.sl xs] => (linesOf xs).bind fun l => if l.length ≤ 1048576 then some (.sl (l.map lineV)) else none
  | _ => none
@[go_sem] theorem sTo_eq (xs : List V) (H : Heap) : sTo [.sl xs] H = (linesOf xs).bind fun l => if l.length ≤ 1048576 then some (.sl (l.map lineV)) else none := rfl
theorem w_l5To : PureF Tryz.prog W0 8 sTo := by
  refine PureF.of (rs := [(.tmp 2)]) (fun _ _ => false) (Φ := []) trivial T.mixed Tryz.func8 l5To.of rfl l5To.ok rfl ?_
  intro args H v hs
  unfold sTo at hs
  split at hs
  · rename_i xs
    simp only [Option.bind_eq_some_iff] at hs
    obtain ⟨l, hl, hs⟩ := hs
    split at hs <;> cases hs
    rename_i hlen
    have := linesOf_some hl
    subst this
    refine ⟨by simp [Tryz.f8], ?_⟩
    unfold l5To.c
    simp (implicitDefEqProofs := false) (contextual := true) only [go_sem, reduceIte, Nat.reduceEqDiff, Nat.reduceAdd, Nat.reduceSub, Nat.reduceMul, Nat.reduceLeDiff, Int.reduceLT, Int.reduceLE, Int.reduceEq, Int.reduceAdd, Int.reduceSub, Int.reduceMul, Int.reduceNeg, Int.reduceToNat, reduceCtorEq, Nat.reduceBEq, Nat.reduceLT]
    refine wpO_up l.length (fun i fr H' => i ≤ l.length ∧ fr 0 = .sl (l.map lineV) ∧ fr 4 = .val (.int .i64 i) ∧ Grow H H' 4 (fr 3) ((l.take i).map lineV)) 0 ?_ ?_
    · simp (implicitDefEqProofs := false) (contextual := true) only [go_sem, reduceIte, Nat.reduceEqDiff, Nat.reduceAdd, Nat.reduceSub, Nat.reduceMul, Nat.reduceLeDiff, Int.reduceLT, Int.reduceLE, Int.reduceEq, Int.reduceAdd, Int.reduceSub, Int.reduceMul, Int.reduceNeg, Int.reduceToNat, reduceCtorEq, Nat.reduceBEq, Nat.reduceLT, List.take_zero]
      exact ⟨Nat.zero_le _, Grow.start (Keeps.refl H)⟩
    · rintro i fr H' ⟨hi, f0, f4, hg⟩
      unfold l5To.L0
      have hw : IntKind.i64.wrap ((i : Int) + 1) = ((i + 1 : Nat) : Int) := wrap64 (by omega)
      by_cases hlt : i < l.length
      · obtain ⟨a, ha⟩ : ∃ a, l[i]? = some a := ⟨_, List.getElem?_eq_getElem hlt⟩
        simp (implicitDefEqProofs := false) (contextual := true) only [go_sem, reduceIte, Nat.reduceEqDiff, Nat.reduceAdd, Nat.reduceSub, Nat.reduceMul, Nat.reduceLeDiff, Int.reduceLT, Int.reduceLE, Int.reduceEq, Int.reduceAdd, Int.reduceSub, Int.reduceMul, Int.reduceNeg, Int.reduceToNat, reduceCtorEq, Nat.reduceBEq, Nat.reduceLT, f0, f4, hlt, ha, lineV]
        intro s hs id n1 n2 hid
        refine hg.app (v := lineV a) hs (by rw [Heap.set_ne _ _ n1]; exact hid) T.el29 T.sz80 T.zk80 (by rfl) (by rw [T.by29]; simp; omega) ?_
        intro H'' hg' _ _
        simp (implicitDefEqProofs := false) only [go_sem, reduceIte, Nat.reduceEqDiff, Nat.reduceAdd, Nat.reduceSub, Nat.reduceMul, Nat.reduceLeDiff, Int.reduceLT, Int.reduceLE, Int.reduceEq, Int.reduceAdd, Int.reduceSub, Int.reduceMul, Int.reduceNeg, Int.reduceToNat, reduceCtorEq, Nat.reduceBEq, Nat.reduceLT, f4, hw]
        refine ⟨hlt, by omega, f0, ?_⟩
        rw [List.take_add_one, ha]
        simpa using hg'
      · have hic : i = l.length := by omega
        rw [hic, List.take_length] at hg
        simp (implicitDefEqProofs := false) only [go_sem, reduceIte, Nat.reduceEqDiff, Nat.reduceAdd, Nat.reduceSub, Nat.reduceMul, Nat.reduceLeDiff, Int.reduceLT, Int.reduceLE, Int.reduceEq, Int.reduceAdd, Int.reduceSub, Int.reduceMul, Int.reduceNeg, Int.reduceToNat, reduceCtorEq, Nat.reduceBEq, Nat.reduceLT, f0, f4, hlt]
        rw [wpO_eq]
        unfold l5To.R0
        obtain ⟨H2, e1, e2, -⟩ := hg.frz
        simp (implicitDefEqProofs := false) only [go_sem, reduceIte, Nat.reduceEqDiff, Nat.reduceAdd, Nat.reduceSub, Nat.reduceMul, Nat.reduceLeDiff, Int.reduceLT, Int.reduceLE, Int.reduceEq, Int.reduceAdd, Int.reduceSub, Int.reduceMul, Int.reduceNeg, Int.reduceToNat, reduceCtorEq, Nat.reduceBEq, Nat.reduceLT, e1]
        exact e2
  · cases hs
end Go.Proofs.W

namespace Go.Proofs.W
set_option linter.unusedSimpArgs false
set_option maxRecDepth 20000
set_option maxHeartbeats 1000000
open Go Go.IL Go.Proofs
def l17Raw.L0 : IC :=
  (.seq (.seq (.reg 6 [⟨some 33, (.move (.tmp (10 : Nat))), none⟩,
    ⟨some 34, (.move (.tmp (1 : Nat))), none⟩,
    ⟨some 35, (.call { callee := (.builtin .len), args := #[(.tmp (34 : Nat))], argTypes := #[23] }), none⟩,
    ⟨some 36, (.binOp .lss 3 (.tmp (33 : Nat)) (.tmp (35 : Nat)) 3), none⟩] false)
  (.cond (.tmp (36 : Nat)) .skip (.exit 0)))
  (.seq (.block 1 (.reg 8 [⟨some 39, (.move (.tmp (9 : Nat))), none⟩,
    ⟨some 40, (.move (.tmp (1 : Nat))), none⟩,
    ⟨some 41, (.move (.tmp (10 : Nat))), none⟩,
    ⟨some 42, (.indexAddr 23 (.tmp (40 : Nat)) (.tmp (41 : Nat))), none⟩,
    ⟨some 43, (.fieldAddr 32 (.tmp (42 : Nat)) 0), none⟩,
    ⟨some 44, (.load 3 (.tmp (43 : Nat))), none⟩,
    ⟨some 45, (.move (.tmp (1 : Nat))), none⟩,
    ⟨some 46, (.move (.tmp (10 : Nat))), none⟩,
    ⟨some 47, (.indexAddr 23 (.tmp (45 : Nat)) (.tmp (46 : Nat))), none⟩,
    ⟨some 48, (.fieldAddr 32 (.tmp (47 : Nat)) 1), none⟩,
    ⟨some 49, (.load 9 (.tmp (48 : Nat))), none⟩,
    ⟨some 50, (.build 33 #[(0, (.tmp (44 : Nat))), (1, (.tmp (49 : Nat)))]), none⟩,
    ⟨some 51, (.buildSlice 24 1 #[(0, (.tmp (50 : Nat)))]), none⟩,
    ⟨some 52, (.call { callee := (.builtin .append), args := #[(.tmp (39 : Nat)), (.tmp (51 : Nat))], argTypes := #[24, 24] }), none⟩,
    ⟨some 9, (.assign (.tmp (52 : Nat))), none⟩] true))
  (.reg 7 [⟨some 37, (.move (.tmp (10 : Nat))), none⟩,
    ⟨some 38, (.binOp .add 3 (.tmp (37 : Nat)) (.const (.int .i64 1)) 3), none⟩,
    ⟨some 10, (.assign (.tmp (38 : Nat))), none⟩] false)))
def l17Raw.R0 : IC :=
  (.seq (.reg 9 [⟨some 53, (.call { callee := (.value (.func (9 : Nat))), args := #[], argTypes := #[] }), none⟩,
    ⟨some 54, (.move (.tmp (53 : Nat))), none⟩,
    ⟨some 55, (.move (.tmp (6 : Nat))), some (54, true)⟩,
    ⟨some 56, (.binOp .eql 25 (.tmp (55 : Nat)) (.const (.int .i64 1)) 25), some (54, true)⟩,
    ⟨some 57, (.move (.tmp (0 : Nat))), some (54, true)⟩,
    ⟨some 58, (.call { callee := (.value (.func (10 : Nat))), args := #[(.tmp (57 : Nat))], argTypes := #[22] }), some (54, true)⟩,
    ⟨some 59, (.unOp .not 4 (.tmp (58 : Nat))), some (54, true)⟩,
    ⟨some 60, (.binOp .eql 4 (.tmp (56 : Nat)) (.tmp (59 : Nat)) 4), some (54, true)⟩,
    ⟨some 61, (.pick (.tmp (54 : Nat)) (.tmp (60 : Nat)) (.const (.bool false))), none⟩,
    ⟨some 62, (.move (.tmp (61 : Nat))), none⟩,
    ⟨some 63, (.move (.tmp (8 : Nat))), some (62, true)⟩,
    ⟨some 64, (.move (.tmp (6 : Nat))), some (62, true)⟩,
    ⟨some 65, (.binOp .eql 25 (.tmp (63 : Nat)) (.tmp (64 : Nat)) 25), some (62, true)⟩,
    ⟨some 66, (.pick (.tmp (62 : Nat)) (.tmp (65 : Nat)) (.const (.bool false))), none⟩,
    ⟨some 67, (.move (.tmp (66 : Nat))), none⟩,
    ⟨some 68, (.move (.tmp (9 : Nat))), some (67, true)⟩,
    ⟨some 69, (.call { callee := (.value (.func (11 : Nat))), args := #[(.tmp (68 : Nat))], argTypes := #[24] }), some (67, true)⟩,
    ⟨some 70, (.move (.tmp (1 : Nat))), some (67, true)⟩,
    ⟨some 71, (.call { callee := (.value (.func (12 : Nat))), args := #[(.tmp (70 : Nat))], argTypes := #[23] }), some (67, true)⟩,
    ⟨some 72, (.binOp .eql 9 (.tmp (69 : Nat)) (.tmp (71 : Nat)) 9), some (67, true)⟩,
    ⟨some 73, (.pick (.tmp (67 : Nat)) (.tmp (72 : Nat)) (.const (.bool false))), none⟩,
    ⟨some 4, (.assign (.tmp (73 : Nat))), none⟩] false)
  .ret)
def l17Raw.c : IC :=
  (.seq (.reg 0 [⟨some 4, (.assign (.const (.bool false))), none⟩] false)
  (.seq (.reg 1 [⟨some 11, (.move (.tmp (0 : Nat))), none⟩,
    ⟨some 12, (.move (.tmp (0 : Nat))), none⟩,
    ⟨some 13, (.call { callee := (.builtin .len), args := #[(.tmp (12 : Nat))], argTypes := #[22] }), none⟩,
    ⟨some 14, (.call { callee := (.builtin .min), args := #[(.tmp (13 : Nat)), (.const (.int .i64 20))], argTypes := #[3, 3] }), none⟩,
    ⟨some 15, (.slice 22 (.tmp (11 : Nat)) none (some (.tmp (14 : Nat))) none), none⟩,
    ⟨some 16, (.move (.tmp (1 : Nat))), none⟩,
    ⟨some 17, (.move (.tmp (1 : Nat))), none⟩,
    ⟨some 18, (.call { callee := (.builtin .len), args := #[(.tmp (17 : Nat))], argTypes := #[23] }), none⟩,
    ⟨some 19, (.call { callee := (.builtin .min), args := #[(.tmp (18 : Nat)), (.const (.int .i64 20))], argTypes := #[3, 3] }), none⟩,
    ⟨some 20, (.slice 23 (.tmp (16 : Nat)) none (some (.tmp (19 : Nat))) none), none⟩,
    ⟨some 0, (.assign (.tmp (15 : Nat))), none⟩,
    ⟨some 1, (.assign (.tmp (20 : Nat))), none⟩] true)
  (.seq (.reg 2 [⟨some 22, (.move (.tmp (0 : Nat))), none⟩,
    ⟨some 23, (.call { callee := (.value (.func (8 : Nat))), args := #[(.tmp (22 : Nat))], argTypes := #[22] }), none⟩,
    ⟨some 24, (.call { callee := (.value (.func (7 : Nat))), args := #[(.tmp (23 : Nat)), (.const (.slice none 0 0))], argTypes := #[29, 29] }), none⟩,
    ⟨some 21, (.move (.tmp (24 : Nat))), none⟩,
    ⟨some 25, (.extract (.tmp (21 : Nat)) 0), none⟩,
    ⟨some 26, (.extract (.tmp (21 : Nat)) 1), none⟩,
    ⟨some 5, (.assign (.tmp (25 : Nat))), none⟩,
    ⟨some 6, (.assign (.tmp (26 : Nat))), none⟩] false)
  (.seq (.reg 3 [⟨some 28, (.move (.tmp (0 : Nat))), none⟩,
    ⟨some 29, (.call { callee := (.value (.func (8 : Nat))), args := #[(.tmp (28 : Nat))], argTypes := #[22] }), none⟩,
    ⟨some 30, (.call { callee := (.value (.func (7 : Nat))), args := #[(.const (.slice none 0 0)), (.tmp (29 : Nat))], argTypes := #[29, 29] }), none⟩,
    ⟨some 27, (.move (.tmp (30 : Nat))), none⟩,
    ⟨some 31, (.extract (.tmp (27 : Nat)) 0), none⟩,
    ⟨some 32, (.extract (.tmp (27 : Nat)) 1), none⟩,
    ⟨some 7, (.assign (.tmp (31 : Nat))), none⟩,
    ⟨some 8, (.assign (.tmp (32 : Nat))), none⟩] false)
  (.seq (.reg 4 [⟨some 9, (.assign (.const (.slice none 0 0))), none⟩] false)
  (.seq (.seq (.reg 5 [⟨some 10, (.assign (.const (.int .i64 0))), none⟩] false)
  (.block 0 (.loop l17Raw.L0)))
  (cutIC l17Raw.R0)))))))
theorem l17Raw.of : Tryz.f3.body.bind IC.of = some l17Raw.c := by kernel_rfl
theorem l17Raw.ok : Tryz.f3.body.map (okCode Tryz.prog Tryz.f3.ntmps (fun _ _ => false)) = some true := by kernel_rfl
variable {W0 : World}
theorem minV_nat (a b : Nat) : minV (.val (.int .i64 (a : Nat))) (.val (.int .i64 (b : Nat))) = some (.val (.int .i64 ((min a b : Nat) : Int))) := by
  simp [minV]
  omega
theorem fits_map {α : Type} (f : α → V) (n : Nat) (h : ∀ a, (f a).cells.length = n) (l : List α) : fits n (l.map f) = true := by
  simp [fits, h]
def rawFit (x : List Line) (l : List Act) : Prop := confOk (x.take 20) ∧ actsFit (l.take 20)
instance (x : List Line) (l : List Act) : Decidable (rawFit x l) := inferInstanceAs (Decidable (_ ∧ _))
def sRaw : Sem1 := fun args _ => match args with
  | [.sl xs, .sl ys] => (linesOf xs).bind fun x => (actsOf ys).bind fun l => if rawFit x l ∧ x.length ≤ 1048576 ∧ l.length ≤ 1048576 then some (.val (.bool true)) else none
  | _ => none
theorem w_l17Raw (h1 : PureF Tryz.prog W0 8 sTo) (h2 : PureF Tryz.prog W0 7 sMake) (h3 : PureF Tryz.prog W0 11 sTextT) (h4 : PureF Tryz.prog W0 9 sPlans) (h5 : PureF Tryz.prog W0 10 sRights) (h6 : PureF Tryz.prog W0 12 sTextT) :
    PureF Tryz.prog W0 3 sRaw := by
  refine PureF.of (rs := [(.tmp 4)]) (fun _ _ => false) (Φ := [(8, sTo), (7, sMake), (9, sPlans), (10, sRights), (12, sTextT)]) ⟨h1, h2, h4, h5, h6, trivial⟩ T.mixed Tryz.func3 l17Raw.of rfl l17Raw.ok rfl ?_
  intro args H v hs
  unfold sRaw at hs
  split at hs
  · rename_i xs ys
    simp only [Option.bind_eq_some_iff] at hs
    obtain ⟨x, hx, l, hl, hs⟩ := hs
    split at hs <;> cases hs
    rename_i hfit
    obtain ⟨⟨okx, okl⟩, hxl, hll⟩ := hfit
    have := linesOf_some hx
    subst this
    have := actsOf_some hl
    subst this
    refine ⟨by simp [Tryz.f3], ?_⟩
    unfold l17Raw.c
    have m1 : minV (.val (.int .i64 (x.length : Nat))) (.val (.int .i64 20)) = some (.val (.int .i64 ((min x.length 20 : Nat) : Int))) := minV_nat _ 20
    have m2 : minV (.val (.int .i64 (l.length : Nat))) (.val (.int .i64 20)) = some (.val (.int .i64 ((min l.length 20 : Nat) : Int))) := minV_nat _ 20
    have t1 : (x.map lineV).take (min x.length 20) = (x.take 20).map lineV := by
      rw [List.map_take]
      rcases Nat.le_total x.length 20 with h | h
      · rw [Nat.min_eq_left h, List.take_of_length_le (by simp), List.take_of_length_le (by simpa using h)]
      · rw [Nat.min_eq_right h]
    have t2 : (l.map actV).take (min l.length 20) = (l.take 20).map actV := by
      rw [List.map_take]
      rcases Nat.le_total l.length 20 with h | h
      · rw [Nat.min_eq_left h, List.take_of_length_le (by simp), List.take_of_length_le (by simpa using h)]
      · rw [Nat.min_eq_right h]
    have q1 : min x.length 20 ≤ x.length := Nat.min_le_left _ _
    have q2 : min l.length 20 ≤ l.length := Nat.min_le_left _ _
    have z1 := fits_map lineV 4 (fun _ => rfl) x
    have z2 := fits_map actV 2 (fun _ => rfl) l
    have lx : (x.take 20).length ≤ 1048576 := by simp; omega
    have ll : (l.take 20).length ≤ 20 := by simp; omega
    have lc : ∀ c : List Line, linesOf (c.map lineV) = some c := linesOf_map
    have cs : ∀ c : List Line, confOf (.sl (c.map lineV)) = some c := fun c => by rw [confOf_sl, linesOf_map]
    have cn : confOf .nil = some [] := rfl
    have okn : confOk [] := by decide
    have rn : rightsB [] = true := by decide
    simp (implicitDefEqProofs := false) only [go_sem, reduceIte, Nat.reduceEqDiff, Nat.reduceAdd, Nat.reduceSub, Nat.reduceMul, Nat.reduceLeDiff, Int.reduceLT, Int.reduceLE, Int.reduceEq, Int.reduceAdd, Int.reduceSub, Int.reduceMul, Int.reduceNeg, Int.reduceToNat, reduceCtorEq, Nat.reduceBEq, Nat.reduceLT, m1, m2, t1, t2, q1, q2, z1, z2, lx, lc, cs, cn, okn, rn, okx]
    refine ⟨Nat.zero_le _, Nat.zero_le _, ?_⟩
    clear t1 t2 q1 q2 z1 z2 m1 m2
    generalize hX : x.take 20 = X at *
    generalize hL : l.take 20 = L at *
    cases hr : rightsB X with
    | true =>
      simp (implicitDefEqProofs := false) only [go_sem, reduceIte, Nat.reduceEqDiff, Nat.reduceAdd, Nat.reduceSub, Nat.reduceMul, Nat.reduceLeDiff, Int.reduceLT, Int.reduceLE, Int.reduceEq, Int.reduceAdd, Int.reduceSub, Int.reduceMul, Int.reduceNeg, Int.reduceToNat, reduceCtorEq, Nat.reduceBEq, Nat.reduceLT, lx, lc, cs, cn, okn, rn, okx, hr, and_false, false_and]
      refine wpO_up L.length (fun i fr H' => i ≤ L.length ∧ fr 0 = .sl (X.map lineV) ∧ fr 1 = .sl (L.map actV) ∧ fr 6 = .val (.int .i64 0) ∧ fr 8 = .val (.int .i64 0) ∧ fr 10 = .val (.int .i64 i) ∧ Grow H H' 2 (fr 9) ((L.take i).map actV)) 0 ?_ ?_
      · simp (implicitDefEqProofs := false) only [go_sem, reduceIte, Nat.reduceEqDiff, Nat.reduceAdd, Nat.reduceSub, Nat.reduceMul, Nat.reduceLeDiff, Int.reduceLT, Int.reduceLE, Int.reduceEq, Int.reduceAdd, Int.reduceSub, Int.reduceMul, Int.reduceNeg, Int.reduceToNat, reduceCtorEq, Nat.reduceBEq, Nat.reduceLT, List.take_zero]
        exact ⟨Nat.zero_le _, Grow.start (Keeps.refl H)⟩
      · rintro i fr H' ⟨hi, f0, f1, f6, f8, f10, hg⟩
        unfold l17Raw.L0
        have hw : IntKind.i64.wrap ((i : Int) + 1) = ((i + 1 : Nat) : Int) := wrap64 (by omega)
        by_cases hlt : i < L.length
        · obtain ⟨a, ha⟩ : ∃ a, L[i]? = some a := ⟨_, List.getElem?_eq_getElem hlt⟩
          simp (implicitDefEqProofs := false) only [go_sem, reduceIte, Nat.reduceEqDiff, Nat.reduceAdd, Nat.reduceSub, Nat.reduceMul, Nat.reduceLeDiff, Int.reduceLT, Int.reduceLE, Int.reduceEq, Int.reduceAdd, Int.reduceSub, Int.reduceMul, Int.reduceNeg, Int.reduceToNat, reduceCtorEq, Nat.reduceBEq, Nat.reduceLT, f1, f10, hlt, ha, actV]
          intro s hs id n1 n2 hid
          refine hg.app (v := actV a) hs (by rw [Heap.set_ne _ _ n1]; exact hid) T.el24 T.sz33 T.zk33 (by rfl) (by rw [T.by24]; simp; omega) ?_
          intro H'' hg' _ _
          simp (implicitDefEqProofs := false) only [go_sem, reduceIte, Nat.reduceEqDiff, Nat.reduceAdd, Nat.reduceSub, Nat.reduceMul, Nat.reduceLeDiff, Int.reduceLT, Int.reduceLE, Int.reduceEq, Int.reduceAdd, Int.reduceSub, Int.reduceMul, Int.reduceNeg, Int.reduceToNat, reduceCtorEq, Nat.reduceBEq, Nat.reduceLT, f10, hw]
          refine ⟨hlt, by omega, f0, f1, f6, f8, ?_⟩
          rw [List.take_add_one, ha]
          simpa using hg'
        · have hic : i = L.length := by omega
          rw [hic, List.take_length] at hg
          simp (implicitDefEqProofs := false) only [go_sem, reduceIte, Nat.reduceEqDiff, Nat.reduceAdd, Nat.reduceSub, Nat.reduceMul, Nat.reduceLeDiff, Int.reduceLT, Int.reduceLE, Int.reduceEq, Int.reduceAdd, Int.reduceSub, Int.reduceMul, Int.reduceNeg, Int.reduceToNat, reduceCtorEq, Nat.reduceBEq, Nat.reduceLT, f1, f10, hlt]
          rw [wpO_eq]
          unfold l17Raw.R0
          have ib : isBool (some TypeDesc.bool) = true := rfl
          simp (implicitDefEqProofs := false) only [go_sem, reduceIte, Nat.reduceEqDiff, Nat.reduceAdd, Nat.reduceSub, Nat.reduceMul, Nat.reduceLeDiff, Int.reduceLT, Int.reduceLE, Int.reduceEq, Int.reduceAdd, Int.reduceSub, Int.reduceMul, Int.reduceNeg, Int.reduceToNat, reduceCtorEq, Nat.reduceBEq, Nat.reduceLT, f0, f1, f6, f8, hr, lc, cs, okx, ib]
          obtain ⟨H2, e1, e2, -⟩ := hg.frz
          have hf : frzAll H' [fr 9] = ([.sl (L.map actV)], H2) := by simp only [frzAll_cons, frzAll_nil, e1]
          rw [itO_eq]
          refine (PureF.own h3 (v := .str (textT L)) (by rw [hf]; simp only [sTextT_eq, actsOf_map, Option.bind_some, if_pos okl])).mono ?_
          rintro v H3 ⟨rfl, rfl⟩
          rw [hf]
          have ha : actsOf (L.map actV) = some L := actsOf_map L
          simp (implicitDefEqProofs := false) only [go_sem, reduceIte, Nat.reduceEqDiff, Nat.reduceAdd, Nat.reduceSub, Nat.reduceMul, Nat.reduceLeDiff, Int.reduceLT, Int.reduceLE, Int.reduceEq, Int.reduceAdd, Int.reduceSub, Int.reduceMul, Int.reduceNeg, Int.reduceToNat, reduceCtorEq, Nat.reduceBEq, Nat.reduceLT, f1, ha, okl]
          exact e2
    | false =>
      simp (implicitDefEqProofs := false) only [go_sem, reduceIte, Nat.reduceEqDiff, Nat.reduceAdd, Nat.reduceSub, Nat.reduceMul, Nat.reduceLeDiff, Int.reduceLT, Int.reduceLE, Int.reduceEq, Int.reduceAdd, Int.reduceSub, Int.reduceMul, Int.reduceNeg, Int.reduceToNat, reduceCtorEq, Nat.reduceBEq, Nat.reduceLT, lx, lc, cs, cn, okn, rn, okx, hr, and_false, false_and]
      refine wpO_up L.length (fun i fr H' => i ≤ L.length ∧ fr 0 = .sl (X.map lineV) ∧ fr 1 = .sl (L.map actV) ∧ fr 6 = .val (.int .i64 1) ∧ fr 8 = .val (.int .i64 1) ∧ fr 10 = .val (.int .i64 i) ∧ Grow H H' 2 (fr 9) ((L.take i).map actV)) 0 ?_ ?_
      · simp (implicitDefEqProofs := false) only [go_sem, reduceIte, Nat.reduceEqDiff, Nat.reduceAdd, Nat.reduceSub, Nat.reduceMul, Nat.reduceLeDiff, Int.reduceLT, Int.reduceLE, Int.reduceEq, Int.reduceAdd, Int.reduceSub, Int.reduceMul, Int.reduceNeg, Int.reduceToNat, reduceCtorEq, Nat.reduceBEq, Nat.reduceLT, List.take_zero]
        exact ⟨Nat.zero_le _, Grow.start (Keeps.refl H)⟩
      · rintro i fr H' ⟨hi, f0, f1, f6, f8, f10, hg⟩
        unfold l17Raw.L0
        have hw : IntKind.i64.wrap ((i : Int) + 1) = ((i + 1 : Nat) : Int) := wrap64 (by omega)
        by_cases hlt : i < L.length
        · obtain ⟨a, ha⟩ : ∃ a, L[i]? = some a := ⟨_, List.getElem?_eq_getElem hlt⟩
          simp (implicitDefEqProofs := false) only [go_sem, reduceIte, Nat.reduceEqDiff, Nat.reduceAdd, Nat.reduceSub, Nat.reduceMul, Nat.reduceLeDiff, Int.reduceLT, Int.reduceLE, Int.reduceEq, Int.reduceAdd, Int.reduceSub, Int.reduceMul, Int.reduceNeg, Int.reduceToNat, reduceCtorEq, Nat.reduceBEq, Nat.reduceLT, f1, f10, hlt, ha, actV]
          intro s hs id n1 n2 hid
          refine hg.app (v := actV a) hs (by rw [Heap.set_ne _ _ n1]; exact hid) T.el24 T.sz33 T.zk33 (by rfl) (by rw [T.by24]; simp; omega) ?_
          intro H'' hg' _ _
          simp (implicitDefEqProofs := false) only [go_sem, reduceIte, Nat.reduceEqDiff, Nat.reduceAdd, Nat.reduceSub, Nat.reduceMul, Nat.reduceLeDiff, Int.reduceLT, Int.reduceLE, Int.reduceEq, Int.reduceAdd, Int.reduceSub, Int.reduceMul, Int.reduceNeg, Int.reduceToNat, reduceCtorEq, Nat.reduceBEq, Nat.reduceLT, f10, hw]
          refine ⟨hlt, by omega, f0, f1, f6, f8, ?_⟩
          rw [List.take_add_one, ha]
          simpa using hg'
        · have hic : i = L.length := by omega
          rw [hic, List.take_length] at hg
          simp (implicitDefEqProofs := false) only [go_sem, reduceIte, Nat.reduceEqDiff, Nat.reduceAdd, Nat.reduceSub, Nat.reduceMul, Nat.reduceLeDiff, Int.reduceLT, Int.reduceLE, Int.reduceEq, Int.reduceAdd, Int.reduceSub, Int.reduceMul, Int.reduceNeg, Int.reduceToNat, reduceCtorEq, Nat.reduceBEq, Nat.reduceLT, f1, f10, hlt]
          rw [wpO_eq]
          unfold l17Raw.R0
          have ib : isBool (some TypeDesc.bool) = true := rfl
          simp (implicitDefEqProofs := false) only [go_sem, reduceIte, Nat.reduceEqDiff, Nat.reduceAdd, Nat.reduceSub, Nat.reduceMul, Nat.reduceLeDiff, Int.reduceLT, Int.reduceLE, Int.reduceEq, Int.reduceAdd, Int.reduceSub, Int.reduceMul, Int.reduceNeg, Int.reduceToNat, reduceCtorEq, Nat.reduceBEq, Nat.reduceLT, f0, f1, f6, f8, hr, lc, cs, okx, ib]
          obtain ⟨H2, e1, e2, -⟩ := hg.frz
          have hf : frzAll H' [fr 9] = ([.sl (L.map actV)], H2) := by simp only [frzAll_cons, frzAll_nil, e1]
          rw [itO_eq]
          refine (PureF.own h3 (v := .str (textT L)) (by rw [hf]; simp only [sTextT_eq, actsOf_map, Option.bind_some, if_pos okl])).mono ?_
          rintro v H3 ⟨rfl, rfl⟩
          rw [hf]
          have ha : actsOf (L.map actV) = some L := actsOf_map L
          simp (implicitDefEqProofs := false) only [go_sem, reduceIte, Nat.reduceEqDiff, Nat.reduceAdd, Nat.reduceSub, Nat.reduceMul, Nat.reduceLeDiff, Int.reduceLT, Int.reduceLE, Int.reduceEq, Int.reduceAdd, Int.reduceSub, Int.reduceMul, Int.reduceNeg, Int.reduceToNat, reduceCtorEq, Nat.reduceBEq, Nat.reduceLT, f1, ha, okl]
          exact e2
  · cases hs
end Go.Proofs.W

namespace Go.Proofs.W
set_option linter.unusedSimpArgs false
set_option maxRecDepth 20000
open Go Go.IL Go.Proofs
def r4Word.c : IC :=
  (.seq (.reg 0 [⟨some 2, (.assign (.const (.bool false))), none⟩] false)
  (.seq (.reg 1 [⟨some 7, (.move (.tmp (0 : Nat))), none⟩,
    ⟨some 8, (.call { callee := (.value (.func (152 : Nat))), args := #[(.tmp (7 : Nat))], argTypes := #[9] }), none⟩,
    ⟨some 6, (.move (.tmp (8 : Nat))), none⟩,
    ⟨some 9, (.extract (.tmp (6 : Nat)) 0), none⟩,
    ⟨some 10, (.extract (.tmp (6 : Nat)) 1), none⟩,
    ⟨some 11, (.extract (.tmp (6 : Nat)) 2), none⟩,
    ⟨some 3, (.assign (.tmp (9 : Nat))), none⟩,
    ⟨some 4, (.assign (.tmp (10 : Nat))), none⟩,
    ⟨some 5, (.assign (.tmp (11 : Nat))), none⟩] false)
  (.seq (.reg 2 [⟨some 12, (.move (.tmp (5 : Nat))), none⟩,
    ⟨some 13, (.binOp .eql 3 (.tmp (12 : Nat)) (.const (.int .i64 0)) 3), none⟩,
    ⟨some 14, (.move (.tmp (13 : Nat))), none⟩,
    ⟨some 15, (.move (.tmp (3 : Nat))), some (14, true)⟩,
    ⟨some 16, (.call { callee := (.builtin .len), args := #[(.tmp (15 : Nat))], argTypes := #[43] }), some (14, true)⟩,
    ⟨some 17, (.binOp .eql 3 (.tmp (16 : Nat)) (.const (.int .i64 1)) 3), some (14, true)⟩,
    ⟨some 18, (.pick (.tmp (14 : Nat)) (.tmp (17 : Nat)) (.const (.bool false))), none⟩,
    ⟨some 19, (.move (.tmp (18 : Nat))), none⟩,
    ⟨some 20, (.move (.tmp (3 : Nat))), some (19, true)⟩,
    ⟨some 21, (.indexAddr 43 (.tmp (20 : Nat)) (.const (.int .i64 0))), some (19, true)⟩,
    ⟨some 22, (.load 9 (.tmp (21 : Nat))), some (19, true)⟩,
    ⟨some 23, (.move (.tmp (0 : Nat))), some (19, true)⟩,
    ⟨some 24, (.binOp .eql 9 (.tmp (22 : Nat)) (.tmp (23 : Nat)) 9), some (19, true)⟩,
    ⟨some 25, (.pick (.tmp (19 : Nat)) (.tmp (24 : Nat)) (.const (.bool false))), none⟩,
    ⟨some 26, (.move (.tmp (25 : Nat))), none⟩,
    ⟨some 27, (.move (.tmp (0 : Nat))), some (26, true)⟩,
    ⟨some 28, (.binOp .neq 9 (.tmp (27 : Nat)) (.const (.string ⟨#[123]⟩)) 9), some (26, true)⟩,
    ⟨some 29, (.pick (.tmp (26 : Nat)) (.tmp (28 : Nat)) (.const (.bool false))), none⟩,
    ⟨some 30, (.move (.tmp (29 : Nat))), none⟩,
    ⟨some 31, (.move (.tmp (0 : Nat))), some (30, true)⟩,
    ⟨some 32, (.binOp .neq 9 (.tmp (31 : Nat)) (.const (.string ⟨#[125]⟩)) 9), some (30, true)⟩,
    ⟨some 33, (.pick (.tmp (30 : Nat)) (.tmp (32 : Nat)) (.const (.bool false))), none⟩,
    ⟨some 34, (.move (.tmp (33 : Nat))), none⟩,
    ⟨some 35, (.move (.tmp (0 : Nat))), some (34, true)⟩,
    ⟨some 36, (.binOp .neq 9 (.tmp (35 : Nat)) (.const (.string ⟨#[59]⟩)) 9), some (34, true)⟩,
    ⟨some 37, (.pick (.tmp (34 : Nat)) (.tmp (36 : Nat)) (.const (.bool false))), none⟩,
    ⟨some 2, (.assign (.tmp (37 : Nat))), none⟩] false)
  .ret)))
theorem r4Word.of : Tryz.f116.body.bind IC.of = some r4Word.c := by kernel_rfl
theorem r4Word.ok : Tryz.f116.body.map (okCode Tryz.prog Tryz.f116.ntmps (fun _ _ => false)) = some true := by kernel_rfl
variable {W0 : World}
theorem w_r4Word (h1 : PureF Tryz.prog W0 152 sWords) : PureF Tryz.prog W0 116 (sTextBig isWordB) := by
  refine PureF.of (rs := [(.tmp 2)]) (fun _ _ => false) (Φ := [(152, sWords)]) ⟨h1, trivial⟩ T.mixed Tryz.func116 r4Word.of rfl r4Word.ok rfl ?_
  intro args H v hs
  unfold sTextBig at hs
  split at hs
  · rename_i l
    split at hs <;> cases hs
    rename_i hl
    refine ⟨by simp [Tryz.f116], ?_⟩
    unfold r4Word.c
    have hw := word_words l
    have hn := words_word l
    by_cases e : (wordsB l).2.2 = 0
    · match hx : (wordsB l).1 with
      | [] =>
        have : isWordB l = false := by
          rw [← Bool.not_eq_true]; intro h; rw [hw h] at hx; cases hx
        simp (implicitDefEqProofs := false) (contextual := true) only [go_sem, reduceIte, Nat.reduceEqDiff, Nat.reduceAdd, Nat.reduceSub, Nat.reduceMul, Nat.reduceLeDiff, Int.reduceLT, Int.reduceLE, Int.reduceEq, Int.reduceAdd, Int.reduceSub, Int.reduceMul, Int.reduceNeg, Int.reduceToNat, reduceCtorEq, Nat.reduceBEq, Nat.reduceLT, hl, e, hx, this]
      | a :: b :: r =>
        have : isWordB l = false := by
          rw [← Bool.not_eq_true]; intro h; rw [hw h] at hx; cases hx
        have hne : ¬ (((r.length + 1 + 1 : Nat) : Int) = 1) := by omega
        simp (implicitDefEqProofs := false) (contextual := true) only [go_sem, reduceIte, Nat.reduceEqDiff, Nat.reduceAdd, Nat.reduceSub, Nat.reduceMul, Nat.reduceLeDiff, Int.reduceLT, Int.reduceLE, Int.reduceEq, Int.reduceAdd, Int.reduceSub, Int.reduceMul, Int.reduceNeg, Int.reduceToNat, reduceCtorEq, Nat.reduceBEq, Nat.reduceLT, hl, e, hx, this, hne]
      | [a] =>
        by_cases ea : a = l
        · subst ea
          by_cases q1 : a = [123]
          · have : isWordB a = false := by rw [q1]; decide
            have q1' := eq_true q1
            simp (implicitDefEqProofs := false) (contextual := true) only [go_sem, reduceIte, Nat.reduceEqDiff, Nat.reduceAdd, Nat.reduceSub, Nat.reduceMul, Nat.reduceLeDiff, Int.reduceLT, Int.reduceLE, Int.reduceEq, Int.reduceAdd, Int.reduceSub, Int.reduceMul, Int.reduceNeg, Int.reduceToNat, reduceCtorEq, Nat.reduceBEq, Nat.reduceLT, hl, e, hx, this, q1']
          · by_cases q2 : a = [125]
            · have : isWordB a = false := by rw [q2]; decide
              have q2' := eq_true q2
              simp (implicitDefEqProofs := false) (contextual := true) only [go_sem, reduceIte, Nat.reduceEqDiff, Nat.reduceAdd, Nat.reduceSub, Nat.reduceMul, Nat.reduceLeDiff, Int.reduceLT, Int.reduceLE, Int.reduceEq, Int.reduceAdd, Int.reduceSub, Int.reduceMul, Int.reduceNeg, Int.reduceToNat, reduceCtorEq, Nat.reduceBEq, Nat.reduceLT, hl, e, hx, this, q1, q2']
            · by_cases q3 : a = [59]
              · have : isWordB a = false := by rw [q3]; decide
                have q3' := eq_true q3
                simp (implicitDefEqProofs := false) (contextual := true) only [go_sem, reduceIte, Nat.reduceEqDiff, Nat.reduceAdd, Nat.reduceSub, Nat.reduceMul, Nat.reduceLeDiff, Int.reduceLT, Int.reduceLE, Int.reduceEq, Int.reduceAdd, Int.reduceSub, Int.reduceMul, Int.reduceNeg, Int.reduceToNat, reduceCtorEq, Nat.reduceBEq, Nat.reduceLT, hl, e, hx, this, q1, q2, q3']
              · have : isWordB a = true := hn e hx q1 q2 q3
                simp (implicitDefEqProofs := false) (contextual := true) only [go_sem, reduceIte, Nat.reduceEqDiff, Nat.reduceAdd, Nat.reduceSub, Nat.reduceMul, Nat.reduceLeDiff, Int.reduceLT, Int.reduceLE, Int.reduceEq, Int.reduceAdd, Int.reduceSub, Int.reduceMul, Int.reduceNeg, Int.reduceToNat, reduceCtorEq, Nat.reduceBEq, Nat.reduceLT, hl, e, hx, this, q1, q2, q3]
        · have : isWordB l = false := by
            rw [← Bool.not_eq_true]; intro h; rw [hw h] at hx; simp at hx; exact ea hx.symm
          simp (implicitDefEqProofs := false) (contextual := true) only [go_sem, reduceIte, Nat.reduceEqDiff, Nat.reduceAdd, Nat.reduceSub, Nat.reduceMul, Nat.reduceLeDiff, Int.reduceLT, Int.reduceLE, Int.reduceEq, Int.reduceAdd, Int.reduceSub, Int.reduceMul, Int.reduceNeg, Int.reduceToNat, reduceCtorEq, Nat.reduceBEq, Nat.reduceLT, hl, e, hx, this, ea]
    · have : isWordB l = false := by
        rw [← Bool.not_eq_true]; intro h; rw [hw h] at e; exact e rfl
      simp (implicitDefEqProofs := false) (contextual := true) only [go_sem, reduceIte, Nat.reduceEqDiff, Nat.reduceAdd, Nat.reduceSub, Nat.reduceMul, Nat.reduceLeDiff, Int.reduceLT, Int.reduceLE, Int.reduceEq, Int.reduceAdd, Int.reduceSub, Int.reduceMul, Int.reduceNeg, Int.reduceToNat, reduceCtorEq, Nat.reduceBEq, Nat.reduceLT, hl, e, this]
  · cases hs

end Go.Proofs.W
