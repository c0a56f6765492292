import Derived.Test.YthdlaekahejdnaaGreatDoorKF
set_option linter.unusedVariables false
set_option linter.unusedSimpArgs false
namespace Go.Proofs.W
set_option linter.unusedSimpArgs false
set_option maxRecDepth 20000
open Go Go.IL Go.Proofs
def dfKey.c : IC :=
  (.seq (.reg 0 [⟨some 1, (.box 80 (.tmp (0 : Nat))), none⟩,
    ⟨some 2, (.alloc 80), none⟩] false)
  (.seq (.reg 1 [⟨some 3, (.fieldAddr 80 (.tmp (1 : Nat)) 3), none⟩,
    ⟨none, (.store 9 (.tmp (3 : Nat)) (.const (.string ⟨#[]⟩))), none⟩] false)
  (.seq (.reg 2 [⟨some 4, (.load 80 (.tmp (1 : Nat))), none⟩,
    ⟨none, (.store 80 (.tmp (2 : Nat)) (.tmp (4 : Nat))), none⟩] false)
  .ret)))
theorem dfKey.of : Tryz.f71.body.bind IC.of = some dfKey.c := by kernel_rfl
theorem dfKey.ok : Tryz.f71.body.map (okCode Tryz.prog Tryz.f71.ntmps (fun _ _ => false)) = some true := by kernel_rfl
def dfLines.R0 : IC :=
  (.reg 7 [⟨some 48, (.move (.tmp (0 : Nat))), none⟩,
    ⟨some 49, (.slice 29 (.tmp (48 : Nat)) (some (.const (.int .i64 1))) none none), none⟩,
    ⟨some 50, (.move (.tmp (1 : Nat))), none⟩,
    ⟨some 51, (.slice 29 (.tmp (50 : Nat)) (some (.const (.int .i64 1))) none none), none⟩,
    ⟨some 0, (.assign (.tmp (49 : Nat))), none⟩,
    ⟨some 1, (.assign (.tmp (51 : Nat))), none⟩] true)
def dfLines.L0 : IC :=
  (.seq (.seq (.reg 4 [⟨some 15, (.move (.tmp (0 : Nat))), none⟩,
    ⟨some 16, (.call { callee := (.builtin .len), args := #[(.tmp (15 : Nat))], argTypes := #[29] }), none⟩,
    ⟨some 17, (.binOp .gtr 3 (.tmp (16 : Nat)) (.const (.int .i64 0)) 3), none⟩,
    ⟨some 18, (.move (.tmp (17 : Nat))), none⟩,
    ⟨some 19, (.move (.tmp (1 : Nat))), some (18, false)⟩,
    ⟨some 20, (.call { callee := (.builtin .len), args := #[(.tmp (19 : Nat))], argTypes := #[29] }), some (18, false)⟩,
    ⟨some 21, (.binOp .gtr 3 (.tmp (20 : Nat)) (.const (.int .i64 0)) 3), some (18, false)⟩,
    ⟨some 22, (.pick (.tmp (18 : Nat)) (.const (.bool true)) (.tmp (21 : Nat))), none⟩] false)
  (.cond (.tmp (22 : Nat)) .skip (.exit 0)))
  (.block 1 (.block 2 (.seq (.reg 8 [⟨some 53, (.move (.tmp (1 : Nat))), none⟩,
    ⟨some 54, (.call { callee := (.builtin .len), args := #[(.tmp (53 : Nat))], argTypes := #[29] }), none⟩,
    ⟨some 55, (.binOp .eql 3 (.tmp (54 : Nat)) (.const (.int .i64 0)) 3), none⟩,
    ⟨some 56, (.move (.tmp (55 : Nat))), none⟩,
    ⟨some 57, (.move (.tmp (0 : Nat))), some (56, false)⟩,
    ⟨some 58, (.call { callee := (.builtin .len), args := #[(.tmp (57 : Nat))], argTypes := #[29] }), some (56, false)⟩,
    ⟨some 59, (.binOp .gtr 3 (.tmp (58 : Nat)) (.const (.int .i64 0)) 3), some (56, false)⟩,
    ⟨some 60, (.move (.tmp (59 : Nat))), some (56, false)⟩,
    ⟨some 61, (.move (.tmp (0 : Nat))), some (60, true)⟩,
    ⟨some 62, (.indexAddr 29 (.tmp (61 : Nat)) (.const (.int .i64 0))), some (60, true)⟩,
    ⟨some 63, (.load 80 (.tmp (62 : Nat))), some (60, true)⟩,
    ⟨some 64, (.move (.tmp (1 : Nat))), some (60, true)⟩,
    ⟨some 65, (.indexAddr 29 (.tmp (64 : Nat)) (.const (.int .i64 0))), some (60, true)⟩,
    ⟨some 66, (.load 80 (.tmp (65 : Nat))), some (60, true)⟩,
    ⟨some 67, (.call { callee := (.value (.func (70 : Nat))), args := #[(.tmp (63 : Nat)), (.tmp (66 : Nat))], argTypes := #[80, 80] }), some (60, true)⟩,
    ⟨some 68, (.pick (.tmp (60 : Nat)) (.tmp (67 : Nat)) (.const (.bool false))), some (56, false)⟩,
    ⟨some 69, (.pick (.tmp (56 : Nat)) (.const (.bool true)) (.tmp (68 : Nat))), none⟩,
    ⟨some 52, (.assign (.tmp (69 : Nat))), none⟩] true)
  (.cond (.tmp (52 : Nat)) (.seq (.reg 9 [⟨some 70, (.move (.tmp (6 : Nat))), none⟩,
    ⟨some 71, (.move (.tmp (0 : Nat))), none⟩,
    ⟨some 72, (.indexAddr 29 (.tmp (71 : Nat)) (.const (.int .i64 0))), none⟩,
    ⟨some 73, (.load 80 (.tmp (72 : Nat))), none⟩,
    ⟨some 74, (.call { callee := (.value (.func (71 : Nat))), args := #[(.tmp (73 : Nat))], argTypes := #[80] }), none⟩,
    ⟨some 75, (.move (.tmp (0 : Nat))), none⟩,
    ⟨some 76, (.indexAddr 29 (.tmp (75 : Nat)) (.const (.int .i64 0))), none⟩,
    ⟨some 77, (.fieldAddr 80 (.tmp (76 : Nat)) 3), none⟩,
    ⟨some 78, (.load 9 (.tmp (77 : Nat))), none⟩,
    ⟨some 79, (.build 82 #[(0, (.tmp (74 : Nat))), (1, (.tmp (78 : Nat))), (2, (.const (.string ⟨#[]⟩)))]), none⟩,
    ⟨some 80, (.buildSlice 71 1 #[(0, (.tmp (79 : Nat)))]), none⟩,
    ⟨some 81, (.call { callee := (.builtin .append), args := #[(.tmp (70 : Nat)), (.tmp (80 : Nat))], argTypes := #[71, 71] }), none⟩,
    ⟨some 6, (.assign (.tmp (81 : Nat))), none⟩] true)
  (.reg 10 [⟨some 82, (.move (.tmp (0 : Nat))), none⟩,
    ⟨some 83, (.slice 29 (.tmp (82 : Nat)) (some (.const (.int .i64 1))) none none), none⟩,
    ⟨some 0, (.assign (.tmp (83 : Nat))), none⟩] false)) (.seq (.reg 11 [⟨some 85, (.move (.tmp (0 : Nat))), none⟩,
    ⟨some 86, (.call { callee := (.builtin .len), args := #[(.tmp (85 : Nat))], argTypes := #[29] }), none⟩,
    ⟨some 87, (.binOp .eql 3 (.tmp (86 : Nat)) (.const (.int .i64 0)) 3), none⟩,
    ⟨some 88, (.move (.tmp (87 : Nat))), none⟩,
    ⟨some 89, (.move (.tmp (1 : Nat))), some (88, false)⟩,
    ⟨some 90, (.indexAddr 29 (.tmp (89 : Nat)) (.const (.int .i64 0))), some (88, false)⟩,
    ⟨some 91, (.load 80 (.tmp (90 : Nat))), some (88, false)⟩,
    ⟨some 92, (.move (.tmp (0 : Nat))), some (88, false)⟩,
    ⟨some 93, (.indexAddr 29 (.tmp (92 : Nat)) (.const (.int .i64 0))), some (88, false)⟩,
    ⟨some 94, (.load 80 (.tmp (93 : Nat))), some (88, false)⟩,
    ⟨some 95, (.call { callee := (.value (.func (70 : Nat))), args := #[(.tmp (91 : Nat)), (.tmp (94 : Nat))], argTypes := #[80, 80] }), some (88, false)⟩,
    ⟨some 96, (.pick (.tmp (88 : Nat)) (.const (.bool true)) (.tmp (95 : Nat))), none⟩,
    ⟨some 84, (.assign (.tmp (96 : Nat))), none⟩] true)
  (.cond (.tmp (84 : Nat)) (.seq (.reg 12 [⟨some 97, (.move (.tmp (6 : Nat))), none⟩,
    ⟨some 98, (.move (.tmp (1 : Nat))), none⟩,
    ⟨some 99, (.indexAddr 29 (.tmp (98 : Nat)) (.const (.int .i64 0))), none⟩,
    ⟨some 100, (.load 80 (.tmp (99 : Nat))), none⟩,
    ⟨some 101, (.call { callee := (.value (.func (71 : Nat))), args := #[(.tmp (100 : Nat))], argTypes := #[80] }), none⟩,
    ⟨some 102, (.move (.tmp (1 : Nat))), none⟩,
    ⟨some 103, (.indexAddr 29 (.tmp (102 : Nat)) (.const (.int .i64 0))), none⟩,
    ⟨some 104, (.fieldAddr 80 (.tmp (103 : Nat)) 3), none⟩,
    ⟨some 105, (.load 9 (.tmp (104 : Nat))), none⟩,
    ⟨some 106, (.build 82 #[(0, (.tmp (101 : Nat))), (1, (.const (.string ⟨#[]⟩))), (2, (.tmp (105 : Nat)))]), none⟩,
    ⟨some 107, (.buildSlice 71 1 #[(0, (.tmp (106 : Nat)))]), none⟩,
    ⟨some 108, (.call { callee := (.builtin .append), args := #[(.tmp (97 : Nat)), (.tmp (107 : Nat))], argTypes := #[71, 71] }), none⟩,
    ⟨some 6, (.assign (.tmp (108 : Nat))), none⟩] true)
  (.reg 13 [⟨some 109, (.move (.tmp (1 : Nat))), none⟩,
    ⟨some 110, (.slice 29 (.tmp (109 : Nat)) (some (.const (.int .i64 1))) none none), none⟩,
    ⟨some 1, (.assign (.tmp (110 : Nat))), none⟩] false)) (.seq (.seq (.reg 5 [⟨some 23, (.move (.tmp (0 : Nat))), none⟩,
    ⟨some 24, (.indexAddr 29 (.tmp (23 : Nat)) (.const (.int .i64 0))), none⟩,
    ⟨some 25, (.fieldAddr 80 (.tmp (24 : Nat)) 3), none⟩,
    ⟨some 26, (.load 9 (.tmp (25 : Nat))), none⟩,
    ⟨some 27, (.move (.tmp (1 : Nat))), none⟩,
    ⟨some 28, (.indexAddr 29 (.tmp (27 : Nat)) (.const (.int .i64 0))), none⟩,
    ⟨some 29, (.fieldAddr 80 (.tmp (28 : Nat)) 3), none⟩,
    ⟨some 30, (.load 9 (.tmp (29 : Nat))), none⟩,
    ⟨some 31, (.binOp .neq 9 (.tmp (26 : Nat)) (.tmp (30 : Nat)) 9), none⟩] true)
  (.cond (.tmp (31 : Nat)) (.reg 6 [⟨some 32, (.move (.tmp (6 : Nat))), none⟩,
    ⟨some 33, (.move (.tmp (0 : Nat))), none⟩,
    ⟨some 34, (.indexAddr 29 (.tmp (33 : Nat)) (.const (.int .i64 0))), none⟩,
    ⟨some 35, (.load 80 (.tmp (34 : Nat))), none⟩,
    ⟨some 36, (.call { callee := (.value (.func (71 : Nat))), args := #[(.tmp (35 : Nat))], argTypes := #[80] }), none⟩,
    ⟨some 37, (.move (.tmp (0 : Nat))), none⟩,
    ⟨some 38, (.indexAddr 29 (.tmp (37 : Nat)) (.const (.int .i64 0))), none⟩,
    ⟨some 39, (.fieldAddr 80 (.tmp (38 : Nat)) 3), none⟩,
    ⟨some 40, (.load 9 (.tmp (39 : Nat))), none⟩,
    ⟨some 41, (.move (.tmp (1 : Nat))), none⟩,
    ⟨some 42, (.indexAddr 29 (.tmp (41 : Nat)) (.const (.int .i64 0))), none⟩,
    ⟨some 43, (.fieldAddr 80 (.tmp (42 : Nat)) 3), none⟩,
    ⟨some 44, (.load 9 (.tmp (43 : Nat))), none⟩,
    ⟨some 45, (.build 82 #[(0, (.tmp (36 : Nat))), (1, (.tmp (40 : Nat))), (2, (.tmp (44 : Nat)))]), none⟩,
    ⟨some 46, (.buildSlice 71 1 #[(0, (.tmp (45 : Nat)))]), none⟩,
    ⟨some 47, (.call { callee := (.builtin .append), args := #[(.tmp (32 : Nat)), (.tmp (46 : Nat))], argTypes := #[71, 71] }), none⟩,
    ⟨some 6, (.assign (.tmp (47 : Nat))), none⟩] true) .skip))
  (cutIC dfLines.R0)))))))))
def dfLines.R1 : IC :=
  (.seq (.reg 14 [⟨some 111, (.move (.tmp (6 : Nat))), none⟩,
    ⟨some 4, (.assign (.tmp (111 : Nat))), none⟩,
    ⟨some 5, (.assign (.const (.int .i64 0))), none⟩] false)
  .ret)
def dfLines.c : IC :=
  (.seq (.reg 0 [⟨some 4, (.assign (.const (.slice none 0 0))), none⟩,
    ⟨some 5, (.assign (.const (.int .i64 0))), none⟩] false)
  (.seq (.seq (.reg 1 [⟨some 7, (.move (.tmp (0 : Nat))), none⟩,
    ⟨some 8, (.call { callee := (.value (.func (69 : Nat))), args := #[(.tmp (7 : Nat))], argTypes := #[29] }), none⟩,
    ⟨some 9, (.unOp .not 4 (.tmp (8 : Nat))), none⟩,
    ⟨some 10, (.move (.tmp (9 : Nat))), none⟩,
    ⟨some 11, (.move (.tmp (1 : Nat))), some (10, false)⟩,
    ⟨some 12, (.call { callee := (.value (.func (69 : Nat))), args := #[(.tmp (11 : Nat))], argTypes := #[29] }), some (10, false)⟩,
    ⟨some 13, (.unOp .not 4 (.tmp (12 : Nat))), some (10, false)⟩,
    ⟨some 14, (.pick (.tmp (10 : Nat)) (.const (.bool true)) (.tmp (13 : Nat))), none⟩] false)
  (.cond (.tmp (14 : Nat)) (.seq (.reg 2 [⟨some 4, (.assign (.const (.slice none 0 0))), none⟩,
    ⟨some 5, (.assign (.const (.int .i64 1))), none⟩] false)
  .ret) .skip))
  (.seq (.reg 3 [⟨some 6, (.assign (.const (.slice none 0 0))), none⟩] false)
  (.seq (.block 0 (.loop dfLines.L0))
  (cutIC dfLines.R1)))))
theorem dfLines.of : Tryz.f28.body.bind IC.of = some dfLines.c := by kernel_rfl
theorem dfLines.ok : Tryz.f28.body.map (okCode Tryz.prog Tryz.f28.ntmps (fun _ _ => false)) = some true := by kernel_rfl
variable {W0 : World}
theorem w_dfKey : PureF Tryz.prog W0 71 sKey := by
  refine PureF.of (rs := [(.cell 2 80)]) (fun _ _ => false) (Φ := []) trivial T.mixed Tryz.func71 dfKey.of rfl dfKey.ok rfl ?_
  intro args H v hs
  unfold sKey at hs
  split at hs <;> cases hs
  refine ⟨by simp [Tryz.f71], ?_⟩
  unfold dfKey.c
  simp (implicitDefEqProofs := false) (contextual := true) only [go_sem, reduceIte, Nat.reduceEqDiff, Nat.reduceAdd, Nat.reduceSub, Nat.reduceMul, Nat.reduceLeDiff, Int.reduceLT, Int.reduceLE, Int.reduceEq, Int.reduceAdd, Int.reduceSub, Int.reduceMul, Int.reduceNeg, Int.reduceToNat, reduceCtorEq, Nat.reduceBEq, Nat.reduceLT]
@[go_sem] theorem lineV_cells (l : Line) : (lineV l).cells.length = 4 := rfl
@[go_sem] theorem fits_lines (c : List Line) : IL.fits 4 (c.map lineV) = true := by simp [IL.fits, V.cells, lineV]
theorem diffP_fuel : ∀ (n m : Nat) (a b : List Line), a.length + b.length ≤ n → a.length + b.length ≤ m → diffP n a b = diffP m a b
  | 0, m, a, b, h, _ => by
    have ha : a = [] := List.eq_nil_of_length_eq_zero (by omega)
    have hb : b = [] := List.eq_nil_of_length_eq_zero (by omega)
    subst ha hb
    cases m <;> rfl
  | n + 1, 0, a, b, _, h => by
    have ha : a = [] := List.eq_nil_of_length_eq_zero (by omega)
    have hb : b = [] := List.eq_nil_of_length_eq_zero (by omega)
    subst ha hb
    rfl
  | n + 1, m + 1, [], [], _, _ => rfl
  | n + 1, m + 1, x :: a, [], h, h' => by
    simp only [List.length_cons, List.length_nil] at h h'
    rw [diffP, diffP, diffP_fuel n m a [] (by simp; omega) (by simp; omega)]
  | n + 1, m + 1, [], y :: b, h, h' => by
    simp only [List.length_cons, List.length_nil] at h h'
    rw [diffP, diffP, diffP_fuel n m [] b (by simp; omega) (by simp; omega)]
  | n + 1, m + 1, x :: a, y :: b, h, h' => by
    simp only [List.length_cons] at h h'
    rw [diffP, diffP, diffP_fuel n m a (y :: b) (by simp; omega) (by simp; omega), diffP_fuel n m (x :: a) b (by simp; omega) (by simp; omega), diffP_fuel n m a b (by omega) (by omega)]
theorem w_dfLines (h1 : PureF Tryz.prog W0 69 sRights) (h2 : PureF Tryz.prog W0 70 sLess) (h3 : PureF Tryz.prog W0 71 sKey) : PureF Tryz.prog W0 28 sDiff := by
  refine PureF.of (rs := [(.tmp 4), (.tmp 5)]) (fun _ _ => false) (Φ := [(69, sRights), (70, sLess), (71, sKey)]) ⟨h1, h2, h3, trivial⟩ T.mixed Tryz.func28 dfLines.of rfl dfLines.ok rfl ?_
  intro args H v hs
  unfold sDiff at hs
  split at hs
  · rename_i x y
    simp only [Option.bind_eq_some_iff] at hs
    obtain ⟨a, ha, b, hb, hs⟩ := hs
    split at hs
    · rename_i hok
      obtain ⟨oka, okb⟩ := hok
      refine ⟨by simp [Tryz.f28], ?_⟩
      unfold dfLines.c
      by_cases ra : rightsB a = true
      · by_cases rb : rightsB b = true
        · rw [if_pos ⟨ra, rb⟩] at hs
          cases hs
          have la : a.length ≤ 64 := by unfold rightsB at ra; simp only [Bool.and_eq_true, decide_eq_true_eq] at ra; exact ra.2
          have lb : b.length ≤ 64 := by unfold rightsB at rb; simp only [Bool.and_eq_true, decide_eq_true_eq] at rb; exact rb.2
          simp (implicitDefEqProofs := false) only [go_sem, reduceIte, Nat.reduceEqDiff, Nat.reduceAdd, Nat.reduceSub, Nat.reduceMul, Nat.reduceLeDiff, Int.reduceLT, Int.reduceLE, Int.reduceEq, Int.reduceAdd, Int.reduceSub, Int.reduceMul, Int.reduceNeg, Int.reduceToNat, reduceCtorEq, Nat.reduceBEq, Nat.reduceLT, ha, hb, oka, okb, ra, rb]
          refine wpO_loop (fun n fr H' => ∃ x y a' b' vs, n = a'.length + b'.length ∧ confOf x = some a' ∧ confOf y = some b' ∧ fr 0 = x ∧ fr 1 = y ∧ Grow H H' 6 (fr 6) (vs.map changeV) ∧
            vs ++ diffP n a' b' = diffB a b ∧ vs.length + n ≤ 128) (a.length + b.length) ?_ ?_
          · simp (implicitDefEqProofs := false) only [go_sem, reduceIte, Nat.reduceEqDiff, Nat.reduceAdd, Nat.reduceSub, Nat.reduceMul, Nat.reduceLeDiff, Int.reduceLT, Int.reduceLE, Int.reduceEq, Int.reduceAdd, Int.reduceSub, Int.reduceMul, Int.reduceNeg, Int.reduceToNat, reduceCtorEq, Nat.reduceBEq, Nat.reduceLT]
            exact ⟨x, y, a, b, [], rfl, ha, hb, rfl, rfl, Grow.start (Keeps.refl H), rfl, by simp; omega⟩
          · rintro n fr H' ⟨x, y, a', b', vs, rfl, hx, hy, f0, f1, hg, hd, hn⟩
            unfold dfLines.L0
            have hlx := fun H => conf_len (P := Tryz.prog) H hx T.el29
            have hly := fun H => conf_len (P := Tryz.prog) H hy T.el29
            match a', b', hx, hy, hlx, hly, hd, hn with
            | [], [], hx, hy, hlx, hly, hd, hn =>
              simp (implicitDefEqProofs := false) only [go_sem, reduceIte, Nat.reduceEqDiff, Nat.reduceAdd, Nat.reduceSub, Nat.reduceMul, Nat.reduceLeDiff, Int.reduceLT, Int.reduceLE, Int.reduceEq, Int.reduceAdd, Int.reduceSub, Int.reduceMul, Int.reduceNeg, Int.reduceToNat, reduceCtorEq, Nat.reduceBEq, Nat.reduceLT, f0, f1, hlx, hly]
              rw [wpO_eq]
              unfold dfLines.R1
              rw [show diffP (([] : List Line).length + ([] : List Line).length) [] [] = [] from rfl, List.append_nil] at hd
              obtain ⟨H2, e1, e2, -⟩ := hg.frz
              simp (implicitDefEqProofs := false) only [go_sem, reduceIte, Nat.reduceEqDiff, Nat.reduceAdd, Nat.reduceSub, Nat.reduceMul, Nat.reduceLeDiff, Int.reduceLT, Int.reduceLE, Int.reduceEq, Int.reduceAdd, Int.reduceSub, Int.reduceMul, Int.reduceNeg, Int.reduceToNat, reduceCtorEq, Nat.reduceBEq, Nat.reduceLT, e1, hd]
              exact e2
            | l :: a', [], hx, hy, hlx, hly, hd, hn =>
              rcases confOf_cases hx with ⟨rfl, h⟩ | rfl
              · cases h
              have hp : (0 : Int) < ((a'.length + 1 : Nat) : Int) := by omega
              have hle : 1 ≤ a'.length + 1 := by omega
              simp only [List.length_cons, List.length_nil, diffP] at hd hn
              simp (implicitDefEqProofs := false) only [go_sem, reduceIte, Nat.reduceEqDiff, Nat.reduceAdd, Nat.reduceSub, Nat.reduceMul, Nat.reduceLeDiff, Int.reduceLT, Int.reduceLE, Int.reduceEq, Int.reduceAdd, Int.reduceSub, Int.reduceMul, Int.reduceNeg, Int.reduceToNat, reduceCtorEq, Nat.reduceBEq, Nat.reduceLT, f0, f1, hlx, hly, hp, lineV]
              intro s hs id n1 n2 hid
              refine hg.app hs (by rw [Heap.set_ne _ _ n1]; exact hid) T.el71 T.sz82 T.zk82 rfl (by rw [T.by71]; simp; omega) ?_
              intro H'' hg' _ _
              simp (implicitDefEqProofs := false) only [go_sem, reduceIte, Nat.reduceEqDiff, Nat.reduceAdd, Nat.reduceSub, Nat.reduceMul, Nat.reduceLeDiff, Int.reduceLT, Int.reduceLE, Int.reduceEq, Int.reduceAdd, Int.reduceSub, Int.reduceMul, Int.reduceNeg, Int.reduceToNat, reduceCtorEq, Nat.reduceBEq, Nat.reduceLT, f0, hle]
              refine ⟨a'.length, by omega, _, y, a', [], vs ++ [⟨keyB l, l.value, []⟩], by simp, by rw [confOf_sl, linesOf_map], hy, rfl, f1, ?_, ?_, ?_⟩
              · simpa [changeV, keyB] using hg'
              · rw [← hd]; simp
              · simp; omega
            | [], r :: b', hx, hy, hlx, hly, hd, hn =>
              rcases confOf_cases hy with ⟨rfl, h⟩ | rfl
              · cases h
              have hp : (0 : Int) < ((b'.length + 1 : Nat) : Int) := by omega
              have hp2 : ¬ ((b'.length + 1 : Nat) : Int) = 0 := by omega
              have hle : 1 ≤ b'.length + 1 := by omega
              simp only [List.length_cons, List.length_nil, Nat.zero_add, diffP] at hd hn
              simp (implicitDefEqProofs := false) only [go_sem, reduceIte, Nat.reduceEqDiff, Nat.reduceAdd, Nat.reduceSub, Nat.reduceMul, Nat.reduceLeDiff, Int.reduceLT, Int.reduceLE, Int.reduceEq, Int.reduceAdd, Int.reduceSub, Int.reduceMul, Int.reduceNeg, Int.reduceToNat, reduceCtorEq, Nat.reduceBEq, Nat.reduceLT, f0, f1, hlx, hly, hp, hp2, lineV]
              intro s hs id n1 n2 hid
              refine hg.app hs (by rw [Heap.set_ne _ _ n1]; exact hid) T.el71 T.sz82 T.zk82 rfl (by rw [T.by71]; simp; omega) ?_
              intro H'' hg' _ _
              simp (implicitDefEqProofs := false) only [go_sem, reduceIte, Nat.reduceEqDiff, Nat.reduceAdd, Nat.reduceSub, Nat.reduceMul, Nat.reduceLeDiff, Int.reduceLT, Int.reduceLE, Int.reduceEq, Int.reduceAdd, Int.reduceSub, Int.reduceMul, Int.reduceNeg, Int.reduceToNat, reduceCtorEq, Nat.reduceBEq, Nat.reduceLT, f0, f1, hle]
              refine ⟨b'.length, by omega, x, _, [], b', vs ++ [⟨keyB r, [], r.value⟩], by simp, hx, by rw [confOf_sl, linesOf_map], rfl, rfl, ?_, ?_, ?_⟩
              · simpa [changeV, keyB] using hg'
              · rw [← hd]; simp
              · simp; omega
            | l :: a', r :: b', hx, hy, hlx, hly, hd, hn =>
              rcases confOf_cases hx with ⟨rfl, h⟩ | rfl
              · cases h
              rcases confOf_cases hy with ⟨rfl, h⟩ | rfl
              · cases h
              have hp : (0 : Int) < ((a'.length + 1 : Nat) : Int) := by omega
              have hp2 : ¬ ((b'.length + 1 : Nat) : Int) = 0 := by omega
              have hp3 : ¬ ((a'.length + 1 : Nat) : Int) = 0 := by omega
              have hle : 1 ≤ a'.length + 1 := by omega
              have hle2 : 1 ≤ b'.length + 1 := by omega
              simp only [List.length_cons, show a'.length + 1 + (b'.length + 1) = (a'.length + b'.length + 1) + 1 by omega, diffP] at hd hn
              cases c1 : lessB l r with
              | true =>
                rw [if_pos c1] at hd
                simp (implicitDefEqProofs := false) only [go_sem, reduceIte, Nat.reduceEqDiff, Nat.reduceAdd, Nat.reduceSub, Nat.reduceMul, Nat.reduceLeDiff, Int.reduceLT, Int.reduceLE, Int.reduceEq, Int.reduceAdd, Int.reduceSub, Int.reduceMul, Int.reduceNeg, Int.reduceToNat, reduceCtorEq, Nat.reduceBEq, Nat.reduceLT, f0, f1, hlx, hly, hp, hp2, hp3, lineV, c1]
                intro s hs id n1 n2 hid
                refine hg.app hs (by rw [Heap.set_ne _ _ n1]; exact hid) T.el71 T.sz82 T.zk82 rfl (by rw [T.by71]; simp; omega) ?_
                intro H'' hg' _ _
                simp (implicitDefEqProofs := false) only [go_sem, reduceIte, Nat.reduceEqDiff, Nat.reduceAdd, Nat.reduceSub, Nat.reduceMul, Nat.reduceLeDiff, Int.reduceLT, Int.reduceLE, Int.reduceEq, Int.reduceAdd, Int.reduceSub, Int.reduceMul, Int.reduceNeg, Int.reduceToNat, reduceCtorEq, Nat.reduceBEq, Nat.reduceLT, f0, f1, hle]
                refine ⟨a'.length + (b'.length + 1), by omega, _, _, a', r :: b', vs ++ [⟨keyB l, l.value, []⟩], by simp, by rw [confOf_sl, linesOf_map], hy, rfl, by simp [lineV], ?_, ?_, ?_⟩
                · simpa [changeV, keyB] using hg'
                · rw [← hd, List.append_assoc]; rfl
                · simp; omega
              | false =>
                have c1' : ¬ lessB l r = true := by simp [c1]
                rw [if_neg c1'] at hd
                cases c2 : lessB r l with
                | true =>
                  rw [if_pos c2] at hd
                  simp (implicitDefEqProofs := false) only [go_sem, reduceIte, Nat.reduceEqDiff, Nat.reduceAdd, Nat.reduceSub, Nat.reduceMul, Nat.reduceLeDiff, Int.reduceLT, Int.reduceLE, Int.reduceEq, Int.reduceAdd, Int.reduceSub, Int.reduceMul, Int.reduceNeg, Int.reduceToNat, reduceCtorEq, Nat.reduceBEq, Nat.reduceLT, f0, f1, hlx, hly, hp, hp2, hp3, lineV, c1, c2]
                  intro s hs id n1 n2 hid
                  refine hg.app hs (by rw [Heap.set_ne _ _ n1]; exact hid) T.el71 T.sz82 T.zk82 rfl (by rw [T.by71]; simp; omega) ?_
                  intro H'' hg' _ _
                  simp (implicitDefEqProofs := false) only [go_sem, reduceIte, Nat.reduceEqDiff, Nat.reduceAdd, Nat.reduceSub, Nat.reduceMul, Nat.reduceLeDiff, Int.reduceLT, Int.reduceLE, Int.reduceEq, Int.reduceAdd, Int.reduceSub, Int.reduceMul, Int.reduceNeg, Int.reduceToNat, reduceCtorEq, Nat.reduceBEq, Nat.reduceLT, f0, f1, hle2]
                  refine ⟨(a'.length + 1) + b'.length, by omega, _, _, l :: a', b', vs ++ [⟨keyB r, [], r.value⟩], by simp, hx, by rw [confOf_sl, linesOf_map], by simp [lineV], rfl, ?_, ?_, ?_⟩
                  · simpa [changeV, keyB] using hg'
                  · rw [← hd, List.append_assoc, show a'.length + 1 + b'.length = a'.length + b'.length + 1 by omega]; rfl
                  · simp; omega
                | false =>
                  have c2' : ¬ lessB r l = true := by simp [c2]
                  rw [if_neg c2', diffP_fuel _ (a'.length + b'.length) a' b' (by omega) (by omega)] at hd
                  by_cases ev : l.value = r.value
                  · rw [if_pos ev] at hd
                    obtain ⟨lh, ln, lf, lv⟩ := l
                    obtain ⟨rh, rn, rf, rv⟩ := r
                    simp only at ev
                    subst ev
                    simp (implicitDefEqProofs := false) only [go_sem, reduceIte, Nat.reduceEqDiff, Nat.reduceAdd, Nat.reduceSub, Nat.reduceMul, Nat.reduceLeDiff, Int.reduceLT, Int.reduceLE, Int.reduceEq, Int.reduceAdd, Int.reduceSub, Int.reduceMul, Int.reduceNeg, Int.reduceToNat, reduceCtorEq, Nat.reduceBEq, Nat.reduceLT, f0, f1, hlx, hly, hp, hp2, hp3, lineV, c1, c2, hle, hle2]
                    rw [wpO_eq]
                    unfold dfLines.R0
                    simp (implicitDefEqProofs := false) only [go_sem, reduceIte, Nat.reduceEqDiff, Nat.reduceAdd, Nat.reduceSub, Nat.reduceMul, Nat.reduceLeDiff, Int.reduceLT, Int.reduceLE, Int.reduceEq, Int.reduceAdd, Int.reduceSub, Int.reduceMul, Int.reduceNeg, Int.reduceToNat, reduceCtorEq, Nat.reduceBEq, Nat.reduceLT, f0, f1, hle, hle2]
                    exact ⟨a'.length + b'.length, by omega, _, _, a', b', vs, rfl, by rw [confOf_sl, linesOf_map], by rw [confOf_sl, linesOf_map], rfl, rfl, hg, hd, by omega⟩
                  · rw [if_neg ev] at hd
                    simp (implicitDefEqProofs := false) only [go_sem, reduceIte, Nat.reduceEqDiff, Nat.reduceAdd, Nat.reduceSub, Nat.reduceMul, Nat.reduceLeDiff, Int.reduceLT, Int.reduceLE, Int.reduceEq, Int.reduceAdd, Int.reduceSub, Int.reduceMul, Int.reduceNeg, Int.reduceToNat, reduceCtorEq, Nat.reduceBEq, Nat.reduceLT, f0, f1, hlx, hly, hp, hp2, hp3, lineV, c1, c2, ev]
                    intro s hs id n1 n2 hid
                    refine hg.app hs (by rw [Heap.set_ne _ _ n1]; exact hid) T.el71 T.sz82 T.zk82 rfl (by rw [T.by71]; simp; omega) ?_
                    intro H'' hg' _ _
                    simp (implicitDefEqProofs := false) only [go_sem, reduceIte, Nat.reduceEqDiff, Nat.reduceAdd, Nat.reduceSub, Nat.reduceMul, Nat.reduceLeDiff, Int.reduceLT, Int.reduceLE, Int.reduceEq, Int.reduceAdd, Int.reduceSub, Int.reduceMul, Int.reduceNeg, Int.reduceToNat, reduceCtorEq, Nat.reduceBEq, Nat.reduceLT, f0, f1, hle, hle2]
                    rw [wpO_eq]
                    unfold dfLines.R0
                    simp (implicitDefEqProofs := false) only [go_sem, reduceIte, Nat.reduceEqDiff, Nat.reduceAdd, Nat.reduceSub, Nat.reduceMul, Nat.reduceLeDiff, Int.reduceLT, Int.reduceLE, Int.reduceEq, Int.reduceAdd, Int.reduceSub, Int.reduceMul, Int.reduceNeg, Int.reduceToNat, reduceCtorEq, Nat.reduceBEq, Nat.reduceLT, f0, f1, hle, hle2]
                    refine ⟨a'.length + b'.length, by omega, _, _, a', b', vs ++ [⟨keyB l, l.value, r.value⟩], rfl, by rw [confOf_sl, linesOf_map], by rw [confOf_sl, linesOf_map], rfl, rfl, ?_, ?_, ?_⟩
                    · simpa [changeV, keyB] using hg'
                    · rw [← hd, List.append_assoc]; rfl
                    · simp; omega
        · have rb' : rightsB b = false := by simpa using rb
          rw [if_neg (by simp [rb'])] at hs
          cases hs
          simp (implicitDefEqProofs := false) only [go_sem, reduceIte, Nat.reduceEqDiff, Nat.reduceAdd, Nat.reduceSub, Nat.reduceMul, Nat.reduceLeDiff, Int.reduceLT, Int.reduceLE, Int.reduceEq, Int.reduceAdd, Int.reduceSub, Int.reduceMul, Int.reduceNeg, Int.reduceToNat, reduceCtorEq, Nat.reduceBEq, Nat.reduceLT, ha, hb, oka, okb, ra, rb']
      · have ra' : rightsB a = false := by simpa using ra
        rw [if_neg (by simp [ra'])] at hs
        cases hs
        simp (implicitDefEqProofs := false) only [go_sem, reduceIte, Nat.reduceEqDiff, Nat.reduceAdd, Nat.reduceSub, Nat.reduceMul, Nat.reduceLeDiff, Int.reduceLT, Int.reduceLE, Int.reduceEq, Int.reduceAdd, Int.reduceSub, Int.reduceMul, Int.reduceNeg, Int.reduceToNat, reduceCtorEq, Nat.reduceBEq, Nat.reduceLT, ha, hb, oka, okb, ra']
    · cases hs
  · cases hs
end Go.Proofs.W

/- The order of lines; what is found in a row in order. -/
namespace Go.Proofs.W
open Go Go.IL

theorem bl_irrefl : ∀ a : Text, Op.bytesLess a a = false
  | [] => rfl
  | x :: a => by simp [Op.bytesLess, bl_irrefl a]
theorem bl_trans : ∀ {a b c : Text}, Op.bytesLess a b = true → Op.bytesLess b c = true → Op.bytesLess a c = true
  | _, [], _, h, _ => by simp [Op.bytesLess] at h
  | _, _ :: _, [], _, h => by simp [Op.bytesLess] at h
  | [], _ :: _, _ :: _, _, _ => rfl
  | x :: a, y :: b, z :: c, h, h' => by
    simp only [Op.bytesLess, Bool.or_eq_true, Bool.and_eq_true, decide_eq_true_eq, beq_iff_eq] at h h' ⊢
    rcases h with h | ⟨rfl, h⟩
    · rcases h' with h' | ⟨rfl, h'⟩
      · exact .inl (UInt8.lt_trans h h')
      · exact .inl h
    · rcases h' with h' | ⟨rfl, h'⟩
      · exact .inl h'
      · exact .inr ⟨rfl, bl_trans h h'⟩
theorem bl_total : ∀ {a b : Text}, Op.bytesLess a b = false → Op.bytesLess b a = false → a = b
  | [], [], _, _ => rfl
  | [], _ :: _, h, _ => by simp [Op.bytesLess] at h
  | _ :: _, [], _, h => by simp [Op.bytesLess] at h
  | x :: a, y :: b, h, h' => by
    simp only [Op.bytesLess, Bool.or_eq_false_iff, Bool.and_eq_false_iff, decide_eq_false_iff_not, beq_eq_false_iff_ne] at h h'
    have hxy : x = y := by
      have h1 := h.1; have h2 := h'.1
      rw [UInt8.lt_iff_toNat_lt] at h1 h2
      exact UInt8.toNat_inj.1 (by omega)
    subst hxy
    have e1 : Op.bytesLess a b = false := by rcases h.2 with h | h; exact (h rfl).elim; exact h
    have e2 : Op.bytesLess b a = false := by rcases h'.2 with h | h; exact (h rfl).elim; exact h
    rw [bl_total e1 e2]
theorem bl_asymm {a b : Text} (h : Op.bytesLess a b = true) : Op.bytesLess b a = false := by
  cases h' : Op.bytesLess b a with
  | false => rfl
  | true => have := bl_trans h h'; rw [bl_irrefl] at this; cases this
/-- Ahead: by head, by name, by leaf. -/
theorem less_iff (a b : Line) : lessB a b = true ↔ a.head < b.head ∨ (a.head = b.head ∧ (Op.bytesLess a.name b.name = true ∨ (a.name = b.name ∧ Op.bytesLess a.leaf b.leaf = true))) := by
  unfold lessB
  by_cases h1 : a.head = b.head
  · simp only [h1, ne_eq, not_true_eq_false, if_false, Int.lt_irrefl, false_or, true_and]
    by_cases h2 : a.name = b.name
    · simp [h2, bl_irrefl]
    · simp [h2]
  · simp [h1]
theorem less_irrefl (a : Line) : lessB a a = false := by
  rw [← Bool.not_eq_true, less_iff]
  simp [bl_irrefl]
theorem less_trans {a b c : Line} (h : lessB a b = true) (h' : lessB b c = true) : lessB a c = true := by
  rw [less_iff] at h h' ⊢
  rcases h with h | ⟨h1, h⟩
  · rcases h' with h' | ⟨h1', -⟩
    · exact .inl (by omega)
    · exact .inl (by omega)
  · rcases h' with h' | ⟨h1', h'⟩
    · exact .inl (by omega)
    · refine .inr ⟨by omega, ?_⟩
      rcases h with h | ⟨h2, h⟩
      · rcases h' with h' | ⟨h2', -⟩
        · exact .inl (bl_trans h h')
        · exact .inl (h2' ▸ h)
      · rcases h' with h' | ⟨h2', h'⟩
        · exact .inl (h2 ▸ h')
        · exact .inr ⟨h2.trans h2', bl_trans h h'⟩
theorem less_asymm {a b : Line} (h : lessB a b = true) : lessB b a = false := by
  cases h' : lessB b a with
  | false => rfl
  | true => have := less_trans h h'; rw [less_irrefl] at this; cases this
theorem less_total {a b : Line} (h : lessB a b = false) (h' : lessB b a = false) : a.head = b.head ∧ a.name = b.name ∧ a.leaf = b.leaf := by
  rw [← Bool.not_eq_true, less_iff] at h h'
  have e1 : a.head = b.head := by
    have : ¬ a.head < b.head := fun x => h (.inl x)
    have : ¬ b.head < a.head := fun x => h' (.inl x)
    omega
  have e2 : a.name = b.name := by
    refine bl_total ?_ ?_
    · rw [← Bool.not_eq_true]; exact fun x => h (.inr ⟨e1, .inl x⟩)
    · rw [← Bool.not_eq_true]; exact fun x => h' (.inr ⟨e1.symm, .inl x⟩)
  refine ⟨e1, e2, bl_total ?_ ?_⟩
  · rw [← Bool.not_eq_true]; exact fun x => h (.inr ⟨e1, .inr ⟨e2, x⟩⟩)
  · rw [← Bool.not_eq_true]; exact fun x => h' (.inr ⟨e1.symm, .inr ⟨e2.symm, x⟩⟩)
theorem sorted_tail {a : Line} {l : List Line} (h : sortedB (a :: l) = true) : sortedB l = true := by
  cases l with
  | nil => rfl
  | cons b l => simp only [sortedB, Bool.and_eq_true] at h; exact h.2
theorem sorted_head : ∀ {a : Line} {l : List Line}, sortedB (a :: l) = true → ∀ b ∈ l, lessB a b = true
  | a, [], _, b, hb => by simp at hb
  | a, c :: l, h, b, hb => by
    simp only [sortedB, Bool.and_eq_true] at h
    rcases List.mem_cons.1 hb with rfl | hb
    · exact h.1
    · exact less_trans h.1 (sorted_head h.2 b hb)
theorem sorted_pairwise : ∀ {l : List Line}, sortedB l = true → l.Pairwise (fun a b => lessB a b = true)
  | [], _ => .nil
  | a :: l, h => .cons (sorted_head h) (sorted_pairwise (sorted_tail h))
theorem sorted_at {l : List Line} (h : sortedB l = true) {i j : Nat} {a b : Line} (hij : i < j) (ha : l[i]? = some a) (hb : l[j]? = some b) : lessB a b = true := by
  obtain ⟨hi, rfl⟩ := List.getElem?_eq_some_iff.1 ha
  obtain ⟨hj, rfl⟩ := List.getElem?_eq_some_iff.1 hb
  exact List.pairwise_iff_getElem.1 (sorted_pairwise h) i j hi hj hij
theorem takeWhile_len {α : Type} {p : α → Bool} : ∀ {l : List α} {i : Nat}, (∀ j b, j < i → l[j]? = some b → p b = true) → i ≤ l.length → (∀ b, l[i]? = some b → p b = false) → (l.takeWhile p).length = i
  | [], i, _, hi, _ => by simp at hi; simp [hi]
  | a :: l, 0, _, _, h => by simp [h a rfl]
  | a :: l, i + 1, h, hi, h' => by
    have ha := h 0 a (by omega) rfl
    rw [List.takeWhile_cons, ha]
    simp only [if_true, List.length_cons]
    rw [takeWhile_len (p := p) (l := l) (i := i) (fun j b hj hb => h (j + 1) b (by omega) (by simpa using hb)) (by simpa using hi) (fun b hb => h' b (by simpa using hb))]
theorem order_zero {a b : Line} (h : a.head = b.head ∧ a.name = b.name ∧ a.leaf = b.leaf) : orderB a b = 0 := by
  unfold orderB
  simp [h.1, h.2.1, h.2.2, bl_irrefl, cmp3, orL]
theorem order_neg (a b : Line) : decide (orderB a b < 0) = lessB a b := by
  unfold orderB lessB
  by_cases e1 : a.head = b.head
  · by_cases e2 : a.name = b.name
    · simp only [e1, e2, bl_irrefl, orL, cmp3, Int.lt_irrefl, decide_true, decide_false]
      cases h : Op.bytesLess a.leaf b.leaf <;> by_cases e3 : a.leaf = b.leaf <;> simp [e3]
    · simp only [e1, e2, orL, cmp3, Int.lt_irrefl, decide_true, decide_false]
      cases h : Op.bytesLess a.name b.name <;> simp [e2]
  · by_cases h : a.head < b.head <;> simp [e1, orL, cmp3, h]
theorem order_eq_zero {a b : Line} (h : orderB a b = 0) : a.head = b.head ∧ a.name = b.name ∧ a.leaf = b.leaf := by
  unfold orderB at h
  by_cases e1 : a.head = b.head
  · by_cases e2 : a.name = b.name
    · by_cases e3 : a.leaf = b.leaf
      · exact ⟨e1, e2, e3⟩
      · simp only [e1, e2, e3, bl_irrefl, orL, cmp3, Int.lt_irrefl, decide_true, decide_false] at h
        cases h' : Op.bytesLess a.leaf b.leaf <;> simp [h'] at h
    · simp only [e1, e2, orL, cmp3, Int.lt_irrefl, decide_true, decide_false] at h
      cases h' : Op.bytesLess a.name b.name <;> simp [h'] at h
  · by_cases h' : a.head < b.head <;> simp [e1, orL, cmp3, h'] at h
/-- What a search says is so. -/
theorem there_find {c : List Line} (hs : sortedB c = true) (h : Int) (n f v : Text) :
    (thereB c ⟨h, n, f, v⟩ = true → ∃ l, c[aheadB c ⟨h, n, f, v⟩]? = some l ∧ c.find? (sameKey h n f) = some l) ∧ (thereB c ⟨h, n, f, v⟩ = false → c.find? (sameKey h n f) = none) := by
  have hsame : ∀ l : Line, sameKey h n f l = true ↔ (l.head = h ∧ l.name = n ∧ l.leaf = f) := fun l => by simp [sameKey]
  have hahead : ∀ (j : Nat) l, j < aheadB c ⟨h, n, f, v⟩ → c[j]? = some l → lessB l ⟨h, n, f, v⟩ = true := by
    intro j l hj hl
    unfold aheadB at hj
    have hp : (c.takeWhile fun l => lessB l ⟨h, n, f, v⟩)[j]? = some l := by
      have := (List.takeWhile_prefix (l := c) fun l => lessB l ⟨h, n, f, v⟩)
      obtain ⟨r, hr⟩ := this
      rw [← hr, List.getElem?_append_left hj] at hl
      exact hl
    exact List.all_eq_true.1 List.all_takeWhile l (List.mem_of_getElem? hp)
  constructor
  · intro ht
    unfold thereB at ht
    split at ht
    · rename_i l hl
      simp only [decide_eq_true_eq] at ht
      have hk := order_eq_zero ht
      refine ⟨l, hl, find_at (i := aheadB c ⟨h, n, f, v⟩) (fun j r hj hr => ?_) hl ((hsame l).2 hk)⟩
      rw [← Bool.not_eq_true, hsame]
      intro hr'
      have h1 := hahead j r hj hr
      rw [less_iff] at h1
      simp only [hr'.1, hr'.2.1, hr'.2.2, bl_irrefl, Int.lt_irrefl] at h1
      simp at h1
    · cases ht
  · intro ht
    rw [List.find?_eq_none]
    intro x hx hsx
    rw [hsame] at hsx
    obtain ⟨k, hk⟩ := List.mem_iff_getElem?.1 hx
    have hnl : lessB x ⟨h, n, f, v⟩ = false := by
      rw [← Bool.not_eq_true, less_iff]
      simp [hsx.1, hsx.2.1, hsx.2.2, bl_irrefl]
    have hka : k = aheadB c ⟨h, n, f, v⟩ := by
      refine (takeWhile_len (p := fun l => lessB l ⟨h, n, f, v⟩) (fun j b hj hb => ?_) (by have := (List.getElem?_eq_some_iff.1 hk).1; omega) (fun b hb => by rw [hk] at hb; cases hb; exact hnl)).symm
      have := sorted_at hs hj hb hk
      rw [less_iff] at this ⊢
      simp only [hsx.1, hsx.2.1, hsx.2.2] at this
      exact this
    unfold thereB at ht
    rw [← hka, hk] at ht
    simp only [decide_eq_false_iff_not] at ht
    exact ht (order_zero ⟨hsx.1, hsx.2.1, hsx.2.2⟩)
end Go.Proofs.W

namespace Go.Proofs.W
set_option linter.unusedSimpArgs false
set_option maxRecDepth 20000
open Go Go.IL Go.Proofs
def slBin.L0 : IC :=
  (.seq (.seq (.reg 3 [⟨some 15, (.move (.tmp (9 : Nat))), none⟩,
    ⟨some 16, (.move (.tmp (10 : Nat))), none⟩,
    ⟨some 17, (.binOp .lss 3 (.tmp (15 : Nat)) (.tmp (16 : Nat)) 3), none⟩] false)
  (.cond (.tmp (17 : Nat)) .skip (.exit 0)))
  (.block 1 (.seq (.reg 4 [⟨some 18, (.move (.tmp (9 : Nat))), none⟩,
    ⟨some 19, (.move (.tmp (10 : Nat))), none⟩,
    ⟨some 20, (.binOp .add 3 (.tmp (18 : Nat)) (.tmp (19 : Nat)) 3), none⟩,
    ⟨some 21, (.convert 3 199 (.tmp (20 : Nat))), none⟩,
    ⟨some 22, (.binOp .shr 199 (.tmp (21 : Nat)) (.const (.int .u64 1)) 199), none⟩,
    ⟨some 23, (.convert 199 3 (.tmp (22 : Nat))), none⟩,
    ⟨some 11, (.assign (.tmp (23 : Nat))), none⟩] false)
  (.seq (.reg 5 [⟨some 24, (.move (.tmp (2 : Nat))), none⟩,
    ⟨some 25, (.move (.tmp (0 : Nat))), none⟩,
    ⟨some 26, (.move (.tmp (11 : Nat))), none⟩,
    ⟨some 27, (.indexAddr 29 (.tmp (25 : Nat)) (.tmp (26 : Nat))), none⟩,
    ⟨some 28, (.load 80 (.tmp (27 : Nat))), none⟩,
    ⟨some 29, (.load 80 (.tmp (4 : Nat))), none⟩,
    ⟨some 30, (.call { callee := (.value (.tmp (24 : Nat))), args := #[(.tmp (28 : Nat)), (.tmp (29 : Nat))], argTypes := #[80, 80] }), none⟩,
    ⟨some 31, (.binOp .lss 3 (.tmp (30 : Nat)) (.const (.int .i64 0)) 3), none⟩] true)
  (.cond (.tmp (31 : Nat)) (.reg 6 [⟨some 32, (.move (.tmp (11 : Nat))), none⟩,
    ⟨some 33, (.binOp .add 3 (.tmp (32 : Nat)) (.const (.int .i64 1)) 3), none⟩,
    ⟨some 9, (.assign (.tmp (33 : Nat))), none⟩] false) (.reg 7 [⟨some 34, (.move (.tmp (11 : Nat))), none⟩,
    ⟨some 10, (.assign (.tmp (34 : Nat))), none⟩] false))))))
def slBin.R0 : IC :=
  (.seq (.reg 8 [⟨some 35, (.move (.tmp (9 : Nat))), none⟩,
    ⟨some 36, (.move (.tmp (9 : Nat))), none⟩,
    ⟨some 37, (.move (.tmp (8 : Nat))), none⟩,
    ⟨some 38, (.binOp .lss 3 (.tmp (36 : Nat)) (.tmp (37 : Nat)) 3), none⟩,
    ⟨some 39, (.move (.tmp (38 : Nat))), none⟩,
    ⟨some 40, (.move (.tmp (2 : Nat))), some (39, true)⟩,
    ⟨some 41, (.move (.tmp (0 : Nat))), some (39, true)⟩,
    ⟨some 42, (.move (.tmp (9 : Nat))), some (39, true)⟩,
    ⟨some 43, (.indexAddr 29 (.tmp (41 : Nat)) (.tmp (42 : Nat))), some (39, true)⟩,
    ⟨some 44, (.load 80 (.tmp (43 : Nat))), some (39, true)⟩,
    ⟨some 45, (.load 80 (.tmp (4 : Nat))), some (39, true)⟩,
    ⟨some 46, (.call { callee := (.value (.tmp (40 : Nat))), args := #[(.tmp (44 : Nat)), (.tmp (45 : Nat))], argTypes := #[80, 80] }), some (39, true)⟩,
    ⟨some 47, (.binOp .eql 3 (.tmp (46 : Nat)) (.const (.int .i64 0)) 3), some (39, true)⟩,
    ⟨some 48, (.pick (.tmp (39 : Nat)) (.tmp (47 : Nat)) (.const (.bool false))), none⟩,
    ⟨some 6, (.assign (.tmp (35 : Nat))), none⟩,
    ⟨some 7, (.assign (.tmp (48 : Nat))), none⟩] true)
  .ret)
def slBin.c : IC :=
  (.seq (.reg 0 [⟨some 4, (.box 80 (.tmp (1 : Nat))), none⟩,
    ⟨some 6, (.assign (.const (.int .i64 0))), none⟩,
    ⟨some 7, (.assign (.const (.bool false))), none⟩] false)
  (.seq (.reg 1 [⟨some 12, (.move (.tmp (0 : Nat))), none⟩,
    ⟨some 13, (.call { callee := (.builtin .len), args := #[(.tmp (12 : Nat))], argTypes := #[29] }), none⟩,
    ⟨some 8, (.assign (.tmp (13 : Nat))), none⟩] false)
  (.seq (.reg 2 [⟨some 14, (.move (.tmp (8 : Nat))), none⟩,
    ⟨some 9, (.assign (.const (.int .i64 0))), none⟩,
    ⟨some 10, (.assign (.tmp (14 : Nat))), none⟩] false)
  (.seq (.block 0 (.loop slBin.L0))
  (cutIC slBin.R0)))))
theorem slBin.of : Tryz.f108.body.bind IC.of = some slBin.c := by kernel_rfl
theorem slBin.ok : Tryz.f108.body.map (okCode Tryz.prog Tryz.f108.ntmps (fun _ _ => false)) = some true := by kernel_rfl
def cfValue.c : IC :=
  (.seq (.reg 0 [⟨some 8, (.assign (.const (.string ⟨#[]⟩))), none⟩] false)
  (.seq (.seq (.reg 1 [⟨some 13, (.move (.tmp (0 : Nat))), none⟩,
    ⟨some 14, (.call { callee := (.value (.func (69 : Nat))), args := #[(.tmp (13 : Nat))], argTypes := #[29] }), none⟩,
    ⟨some 15, (.unOp .not 4 (.tmp (14 : Nat))), none⟩] false)
  (.cond (.tmp (15 : Nat)) (.seq (.reg 2 [⟨some 8, (.assign (.const (.string ⟨#[]⟩))), none⟩] false)
  .ret) .skip))
  (.seq (.reg 3 [⟨some 17, (.move (.tmp (0 : Nat))), none⟩,
    ⟨some 18, (.move (.tmp (1 : Nat))), none⟩,
    ⟨some 19, (.move (.tmp (2 : Nat))), none⟩,
    ⟨some 20, (.move (.tmp (3 : Nat))), none⟩,
    ⟨some 21, (.build 80 #[(0, (.tmp (18 : Nat))), (1, (.tmp (19 : Nat))), (2, (.tmp (20 : Nat)))]), none⟩,
    ⟨some 22, (.call { callee := (.value (.func (108 : Nat))), args := #[(.tmp (17 : Nat)), (.tmp (21 : Nat)), (.func (109 : Nat))], argTypes := #[29, 80, 208] }), none⟩,
    ⟨some 16, (.move (.tmp (22 : Nat))), none⟩,
    ⟨some 23, (.extract (.tmp (16 : Nat)) 0), none⟩,
    ⟨some 24, (.extract (.tmp (16 : Nat)) 1), none⟩,
    ⟨some 9, (.assign (.tmp (23 : Nat))), none⟩,
    ⟨some 10, (.assign (.tmp (24 : Nat))), none⟩] false)
  (.seq (.seq (.reg 4 [⟨some 25, (.move (.tmp (10 : Nat))), none⟩] false)
  (.cond (.tmp (25 : Nat)) (.seq (.reg 5 [⟨some 26, (.move (.tmp (0 : Nat))), none⟩,
    ⟨some 27, (.move (.tmp (9 : Nat))), none⟩,
    ⟨some 28, (.indexAddr 29 (.tmp (26 : Nat)) (.tmp (27 : Nat))), none⟩,
    ⟨some 29, (.fieldAddr 80 (.tmp (28 : Nat)) 3), none⟩,
    ⟨some 30, (.load 9 (.tmp (29 : Nat))), none⟩,
    ⟨some 8, (.assign (.tmp (30 : Nat))), none⟩] false)
  .ret) .skip))
  (.seq (.reg 6 [⟨some 32, (.move (.tmp (1 : Nat))), none⟩,
    ⟨some 33, (.move (.tmp (3 : Nat))), none⟩,
    ⟨some 34, (.call { callee := (.value (.func (76 : Nat))), args := #[(.tmp (32 : Nat)), (.tmp (33 : Nat))], argTypes := #[3, 9] }), none⟩,
    ⟨some 31, (.move (.tmp (34 : Nat))), none⟩,
    ⟨some 35, (.extract (.tmp (31 : Nat)) 0), none⟩,
    ⟨some 36, (.extract (.tmp (31 : Nat)) 1), none⟩,
    ⟨some 11, (.alloc 169), none⟩,
    ⟨none, (.store 169 (.tmp (11 : Nat)) (.tmp (35 : Nat))), none⟩,
    ⟨some 12, (.assign (.tmp (36 : Nat))), none⟩] false)
  (.seq (.reg 7 [⟨some 37, (.fieldAddr 169 (.tmp (11 : Nat)) 6), none⟩,
    ⟨some 38, (.load 9 (.tmp (37 : Nat))), none⟩,
    ⟨some 8, (.assign (.tmp (38 : Nat))), none⟩] false)
  .ret))))))
theorem cfValue.of : Tryz.f64.body.bind IC.of = some cfValue.c := by kernel_rfl
theorem cfValue.ok : Tryz.f64.body.map (okCode Tryz.prog Tryz.f64.ntmps (fun _ _ => false)) = some true := by kernel_rfl
variable {W0 : World}
def sBin (f : Nat) : Sem1 := fun args _ => match args with
  | [x, .agg [.val (.int .i64 h), .str n, .str lf, .str v], .fn g []] => (confOf x).bind fun c => if g = f ∧ c.length ≤ 64 ∧ sortedB c = true then some (.tup [.val (.int .i64 (aheadB c ⟨h, n, lf, v⟩ : Nat)), .val (.bool (thereB c ⟨h, n, lf, v⟩))]) else none
  | _ => none
@[go_sem] theorem sBin_eq (f : Nat) (x : V) (h : Int) (n lf v : Text) (g : Nat) (H : Heap) : sBin f [x, .agg [.val (.int .i64 h), .str n, .str lf, .str v], .fn g []] H =
  (confOf x).bind fun c => if g = f ∧ c.length ≤ 64 ∧ sortedB c = true then some (.tup [.val (.int .i64 (aheadB c ⟨h, n, lf, v⟩ : Nat)), .val (.bool (thereB c ⟨h, n, lf, v⟩))]) else none := rfl
theorem half (m : Nat) : ((m : Int)).fdiv (2 ^ min 1 64) = ((m / 2 : Nat) : Int) := by
  have : min 1 64 = 1 := rfl
  rw [this]
  rw [Int.fdiv_eq_ediv_of_nonneg _ (by decide)]
  simp
theorem wrapu64 (n : Nat) (h : n < 18446744073709551616) : IntKind.u64.wrap (n : Int) = n := by
  simp [IntKind.wrap, IntKind.bits, IntKind.signed]
  omega
theorem w_slBin (h1 : PureF Tryz.prog W0 109 sOrder) : PureF Tryz.prog W0 108 (sBin 109) := by
  refine PureF.of (rs := [(.tmp 6), (.tmp 7)]) (fun _ _ => false) (Φ := [(109, sOrder)]) ⟨h1, trivial⟩ T.mixed Tryz.func108 slBin.of rfl slBin.ok rfl ?_
  intro args H v hs
  unfold sBin at hs
  split at hs
  · rename_i x h n lf v g
    simp only [Option.bind_eq_some_iff] at hs
    obtain ⟨c, hc, hs⟩ := hs
    split at hs <;> cases hs
    rename_i hok
    obtain ⟨rfl, hl, hso⟩ := hok
    refine ⟨by simp [Tryz.f108], ?_⟩
    have hcl := fun H => conf_len (P := Tryz.prog) H hc T.el29
    have hneg := fun a b => order_neg a b
    unfold slBin.c
    generalize ht : (Line.mk h n lf v) = t at *
    have t1 : h = t.head := by rw [← ht]
    have t2 : n = t.name := by rw [← ht]
    have t3 : lf = t.leaf := by rw [← ht]
    have t4 : v = t.value := by rw [← ht]
    subst t1 t2 t3 t4
    simp (implicitDefEqProofs := false) only [go_sem, reduceIte, Nat.reduceEqDiff, Nat.reduceAdd, Nat.reduceSub, Nat.reduceMul, Nat.reduceLeDiff, Int.reduceLT, Int.reduceLE, Int.reduceEq, Int.reduceAdd, Int.reduceSub, Int.reduceMul, Int.reduceNeg, Int.reduceToNat, reduceCtorEq, Nat.reduceBEq, Nat.reduceLT, hcl]
    intro id hid
    refine wpO_loop (fun m fr H' => ∃ i j : Nat, m = j - i ∧ i ≤ j ∧ j ≤ c.length ∧ fr 0 = x ∧ fr 2 = .fn 109 [] ∧ fr 4 = .ptr id 4 0 0 ∧ fr 8 = .val (.int .i64 (c.length : Nat)) ∧ fr 9 = .val (.int .i64 i) ∧ fr 10 = .val (.int .i64 j) ∧
      H' = H.set id (.mem 4 [lineV t]) ∧ (∀ k l, k < i → c[k]? = some l → lessB l t = true) ∧ ∀ k l, j ≤ k → c[k]? = some l → lessB l t = false) c.length ?_ ?_
    · simp (implicitDefEqProofs := false) only [go_sem, reduceIte, Nat.reduceEqDiff, Nat.reduceAdd, Nat.reduceSub, Nat.reduceMul, Nat.reduceLeDiff, Int.reduceLT, Int.reduceLE, Int.reduceEq, Int.reduceAdd, Int.reduceSub, Int.reduceMul, Int.reduceNeg, Int.reduceToNat, reduceCtorEq, Nat.reduceBEq, Nat.reduceLT]
      refine ⟨0, c.length, rfl, Nat.zero_le _, Nat.le_refl _, rfl, rfl, rfl, by omega, fun k l hk hl => ?_⟩
      have := (List.getElem?_eq_some_iff.1 hl).1
      omega
    · rintro m fr H' ⟨i, j, rfl, hij, hj, f0, f2, f4, f8, f9, f10, rfl, hlo, hhi⟩
      unfold slBin.L0
      by_cases hlt : i < j
      · have hm1 : (i + j) / 2 < c.length := by omega
        obtain ⟨l, hli⟩ : ∃ l, c[(i + j) / 2]? = some l := ⟨_, List.getElem?_eq_getElem hm1⟩
        have hat := conf_at hc T.el29 T.sz80 T.is80 hli
        have hw1 : IntKind.i64.wrap ((i : Int) + (j : Int)) = ((i + j : Nat) : Int) := wrap64 (by omega)
        have hw2 : IntKind.u64.wrap ((i + j : Nat) : Int) = ((i + j : Nat) : Int) := wrapu64 _ (by omega)
        have hw3 : IntKind.i64.wrap (((i + j) / 2 : Nat) : Int) = (((i + j) / 2 : Nat) : Int) := wrapN _ (by omega)
        have hw4 : IntKind.i64.wrap ((((i + j) / 2 : Nat) : Int) + 1) = (((i + j) / 2 + 1 : Nat) : Int) := wrap64 (by omega)
        have hh := half (i + j)
        cases hc1 : lessB l t with
        | true =>
          simp (implicitDefEqProofs := false) only [go_sem, reduceIte, Nat.reduceEqDiff, Nat.reduceAdd, Nat.reduceSub, Nat.reduceMul, Nat.reduceLeDiff, Int.reduceLT, Int.reduceLE, Int.reduceEq, Int.reduceAdd, Int.reduceSub, Int.reduceMul, Int.reduceNeg, Int.reduceToNat, reduceCtorEq, Nat.reduceBEq, Nat.reduceLT, f0, f2, f4, f8, f9, f10, hlt, hw1, hw2, hh, hw3, hat, lineV, hneg, hc1, hw4]
          refine ⟨j - ((i + j) / 2 + 1), by omega, (i + j) / 2 + 1, j, ?_⟩
          and_intros
          all_goals first | rfl | omega | exact hhi | skip
          intro k r hk hr
          by_cases e : k = (i + j) / 2
          · subst e; rw [hli] at hr; cases hr; exact hc1
          · exact less_trans (sorted_at hso (by omega) hr hli) hc1
        | false =>
          simp (implicitDefEqProofs := false) only [go_sem, reduceIte, Nat.reduceEqDiff, Nat.reduceAdd, Nat.reduceSub, Nat.reduceMul, Nat.reduceLeDiff, Int.reduceLT, Int.reduceLE, Int.reduceEq, Int.reduceAdd, Int.reduceSub, Int.reduceMul, Int.reduceNeg, Int.reduceToNat, reduceCtorEq, Nat.reduceBEq, Nat.reduceLT, f0, f2, f4, f8, f9, f10, hlt, hw1, hw2, hh, hw3, hat, lineV, hneg, hc1, hw4]
          refine ⟨(i + j) / 2 - i, by omega, i, (i + j) / 2, ?_⟩
          and_intros
          all_goals first | rfl | omega | exact hlo | skip
          intro k r hk hr
          by_cases e : k = (i + j) / 2
          · subst e; rw [hli] at hr; cases hr; exact hc1
          · cases hrt : lessB r t with
            | false => rfl
            | true => rw [less_trans (sorted_at hso (by omega) hli hr) hrt] at hc1; cases hc1
      · have hij' : i = j := by omega
        subst hij'
        have ha : aheadB c t = i := takeWhile_len hlo hj (fun b hb => hhi i b (Nat.le_refl _) hb)
        have hth : thereB c t = match c[i]? with | some l => decide (orderB l t = 0) | none => false := by unfold thereB; rw [ha]; cases c[i]? <;> rfl
        simp (implicitDefEqProofs := false) only [go_sem, reduceIte, Nat.reduceEqDiff, Nat.reduceAdd, Nat.reduceSub, Nat.reduceMul, Nat.reduceLeDiff, Int.reduceLT, Int.reduceLE, Int.reduceEq, Int.reduceAdd, Int.reduceSub, Int.reduceMul, Int.reduceNeg, Int.reduceToNat, reduceCtorEq, Nat.reduceBEq, Nat.reduceLT, f0, f2, f4, f8, f9, f10, hlt]
        rw [wpO_eq]
        unfold slBin.R0
        by_cases hi : i < c.length
        · obtain ⟨l, hli⟩ : ∃ l, c[i]? = some l := ⟨_, List.getElem?_eq_getElem hi⟩
          have hat := conf_at hc T.el29 T.sz80 T.is80 hli
          rw [hli] at hth
          simp (implicitDefEqProofs := false) only [go_sem, reduceIte, Nat.reduceEqDiff, Nat.reduceAdd, Nat.reduceSub, Nat.reduceMul, Nat.reduceLeDiff, Int.reduceLT, Int.reduceLE, Int.reduceEq, Int.reduceAdd, Int.reduceSub, Int.reduceMul, Int.reduceNeg, Int.reduceToNat, reduceCtorEq, Nat.reduceBEq, Nat.reduceLT, f0, f2, f4, f8, f9, hi, hat, lineV, ha, hth]
          exact (Keeps.refl H).set hid
        · rw [List.getElem?_eq_none (by omega)] at hth
          simp (implicitDefEqProofs := false) only [go_sem, reduceIte, Nat.reduceEqDiff, Nat.reduceAdd, Nat.reduceSub, Nat.reduceMul, Nat.reduceLeDiff, Int.reduceLT, Int.reduceLE, Int.reduceEq, Int.reduceAdd, Int.reduceSub, Int.reduceMul, Int.reduceNeg, Int.reduceToNat, reduceCtorEq, Nat.reduceBEq, Nat.reduceLT, f0, f2, f4, f8, f9, hi, ha, hth]
          exact (Keeps.refl H).set hid
  · cases hs
theorem w_cfValue (h1 : PureF Tryz.prog W0 69 sRights) (h2 : PureF Tryz.prog W0 108 (sBin 109)) (h3 : PureF Tryz.prog W0 76 sFind) : PureF Tryz.prog W0 64 sValue := by
  refine PureF.of (rs := [(.tmp 8)]) (fun _ _ => false) (Φ := [(69, sRights), (108, sBin 109), (76, sFind)]) ⟨h1, h2, h3, trivial⟩ T.mixed Tryz.func64 cfValue.of rfl cfValue.ok rfl ?_
  intro args H v hs
  unfold sValue at hs
  split at hs
  · rename_i x h n f
    simp only [Option.bind_eq_some_iff] at hs
    obtain ⟨c, hc, hs⟩ := hs
    split at hs <;> cases hs
    rename_i hok
    refine ⟨by simp [Tryz.f64], ?_⟩
    unfold cfValue.c
    by_cases hr : rightsB c = true
    · have hlen : c.length ≤ 64 := by
        unfold rightsB at hr; simp only [Bool.and_eq_true, decide_eq_true_eq] at hr; exact hr.2
      have hso : sortedB c = true := by
        unfold rightsB at hr; simp only [Bool.and_eq_true, decide_eq_true_eq] at hr; exact hr.1.2
      have hv : valueB c h n f = (match c.find? (sameKey h n f) with | some l => l.value | none => ((findRow h f).getD row0).dflt) := by unfold valueB; rw [if_pos hr]; cases c.find? (sameKey h n f) <;> rfl
      obtain ⟨q1, q2⟩ := there_find hso h n f []
      cases ht : thereB c ⟨h, n, f, []⟩ with
      | true =>
        obtain ⟨l, q3, q4⟩ := q1 ht
        rw [q4] at hv
        simp only at hv
        have hat := conf_at hc T.el29 T.sz80 T.is80 q3
        simp (implicitDefEqProofs := false) only [go_sem, reduceIte, Nat.reduceEqDiff, Nat.reduceAdd, Nat.reduceSub, Nat.reduceMul, Nat.reduceLeDiff, Int.reduceLT, Int.reduceLE, Int.reduceEq, Int.reduceAdd, Int.reduceSub, Int.reduceMul, Int.reduceNeg, Int.reduceToNat, reduceCtorEq, Nat.reduceBEq, Nat.reduceLT, hc, hok, hr, hlen, hso, ht, hat, hv]
      | false =>
        rw [q2 ht] at hv
        simp only at hv
        simp (implicitDefEqProofs := false) only [go_sem, reduceIte, Nat.reduceEqDiff, Nat.reduceAdd, Nat.reduceSub, Nat.reduceMul, Nat.reduceLeDiff, Int.reduceLT, Int.reduceLE, Int.reduceEq, Int.reduceAdd, Int.reduceSub, Int.reduceMul, Int.reduceNeg, Int.reduceToNat, reduceCtorEq, Nat.reduceBEq, Nat.reduceLT, hc, hok, hr, hlen, hso, ht, hv, rowV]
        intro id hid
        exact (Keeps.refl H).set hid
    · have hr' : rightsB c = false := by simpa using hr
      have hv : valueB c h n f = [] := by unfold valueB; rw [if_neg hr]
      simp (implicitDefEqProofs := false) only [go_sem, reduceIte, Nat.reduceEqDiff, Nat.reduceAdd, Nat.reduceSub, Nat.reduceMul, Nat.reduceLeDiff, Int.reduceLT, Int.reduceLE, Int.reduceEq, Int.reduceAdd, Int.reduceSub, Int.reduceMul, Int.reduceNeg, Int.reduceToNat, reduceCtorEq, Nat.reduceBEq, Nat.reduceLT, hc, hok, hr', hv]
  · cases hs
end Go.Proofs.W

/- What is to be done for another configuration: plain functions. -/
namespace Go.Proofs.W
open Go Go.IL

def kindB (c : Int) : Int := if c = 1 then 8 else if c = 2 then 7 else if c = 3 then 5 else if c = 4 then 4 else if c = 5 then 3 else if c = 6 then 1 else 9
def sKind : Sem1 := fun args _ => match args with
  | [.val (.int .i64 c)] => some (.val (.int .i64 (kindB c)))
  | _ => none
@[go_sem] theorem sKind_eq (c : Int) (H : Heap) : sKind [.val (.int .i64 c)] H = some (.val (.int .i64 (kindB c))) := rfl
def hasB (c : List Line) (n : Text) : Bool := (namesB c 2).any fun m => decide (m = n)
def sHasC : Sem1 := fun args _ => match args with
  | [v, .str n] => (confOf v).bind fun c => if confOk c then some (.val (.bool (hasB c n))) else none
  | _ => none
@[go_sem] theorem sHasC_eq (v : V) (n : Text) (H : Heap) : sHasC [v, .str n] H = (confOf v).bind fun c => if confOk c then some (.val (.bool (hasB c n))) else none := rfl
theorem names_len (c : List Line) (h : Int) : (namesB c h).length ≤ 64 := by
  unfold namesB
  split
  · rename_i hr
    have h1 := hr.1
    unfold rightsB at h1
    simp only [Bool.and_eq_true, decide_eq_true_eq] at h1
    have := compact_len ((c.filter fun l => decide (l.head = h)).map (·.name))
    have h2 := List.length_filter_le (fun l => decide (l.head = h)) c
    simp at this
    omega
  · simp

/-- What is noted: of interfaces a kind, of areas that their cost is another one. -/
structure Plan where
  faces : List (Text × Int)
  areas : List Text
def faceV (p : Text × Int) : V × V := (.str p.1, .val (.int .i64 p.2))
def areaV (n : Text) : V × V := (.str n, .val (.bool true))
def leastB (f : List (Text × Int)) (n : Text) (k : Int) : List (Text × Int) :=
  match f.findIdx? fun p => decide (n = p.1) with
  | some i => (match f[i]? with | some p => if k < p.2 then f.set i (n, k) else f | none => f)
  | none => f ++ [(n, k)]
def addB (s : List Text) (n : Text) : List Text := if s.any (fun m => decide (n = m)) = true then s else s ++ [n]
theorem findI_str {α : Type} (g : α → Text) (u : α → V) (n : Text) : ∀ l : List α, findI (eqCell 1) (.str n) (l.map fun a => (.str (g a), u a)) = some (l.findIdx? fun a => decide (n = g a))
  | [] => rfl
  | a :: l => by
    have ih := findI_str g u n l
    simp only [List.map_cons, findI, eqCell_str, Option.bind_some, ih, List.findIdx?_cons]
    by_cases h : n = g a
    · simp [h]
    · simp [h]
@[go_sem] theorem findI_face (n : Text) (l : List (Text × Int)) : findI (eqCell 1) (.str n) (l.map faceV) = some (l.findIdx? fun p => decide (n = p.1)) := findI_str _ _ _ _
@[go_sem] theorem findI_area (n : Text) (l : List Text) : findI (eqCell 1) (.str n) (l.map areaV) = some (l.findIdx? fun m => decide (n = m)) := findI_str id _ _ _

/-- The planner in memory. -/
structure PlanAt (H : Heap) (p mi mj : Nat) (xa xb : V) (st : Plan) : Prop where
  at_ : H p = .mem 4 [.agg [xa, xb, .mp mi, .mp mj]]
  faces : H mi = .map (st.faces.map faceV)
  areas : H mj = .map (st.areas.map areaV)
  ni : noIter H mi
  nj : noIter H mj
  ne : mi ≠ mj
theorem PlanAt.new {H : Heap} {p mi mj : Nat} {xa xb : V} {st : Plan} (h : PlanAt H p mi mj xa xb st) {i : Nat} {o : IL.Obj} (hi : H i = .dead) (ho : ∀ m s, o ≠ .iter m s) : PlanAt (H.set i o) p mi mj xa xb st := by
  obtain ⟨h1, h2, h3, h4, h5, h6⟩ := h
  have e1 : p ≠ i := fun e => by subst e; rw [hi] at h1; cases h1
  have e2 : mi ≠ i := fun e => by subst e; rw [hi] at h2; cases h2
  have e3 : mj ≠ i := fun e => by subst e; rw [hi] at h3; cases h3
  exact ⟨by rw [Heap.set_ne _ _ e1]; exact h1, by rw [Heap.set_ne _ _ e2]; exact h2, by rw [Heap.set_ne _ _ e3]; exact h3, noIter_set h4 (ho _), noIter_set h5 (ho _), h6⟩
theorem PlanAt.face {H : Heap} {p mi mj : Nat} {xa xb : V} {st : Plan} (h : PlanAt H p mi mj xa xb st) (f : List (Text × Int)) : PlanAt (H.set mi (.map (f.map faceV))) p mi mj xa xb { st with faces := f } := by
  obtain ⟨h1, h2, h3, h4, h5, h6⟩ := h
  have e1 : p ≠ mi := fun e => by subst e; rw [h2] at h1; cases h1
  exact ⟨by rw [Heap.set_ne _ _ e1]; exact h1, Heap.set_same _ _ _, by rw [Heap.set_ne _ _ (Ne.symm h6)]; exact h3, noIter_set h4 (by intro s e; cases e), noIter_set h5 (by intro s e; cases e), h6⟩
theorem PlanAt.area {H : Heap} {p mi mj : Nat} {xa xb : V} {st : Plan} (h : PlanAt H p mi mj xa xb st) (s : List Text) : PlanAt (H.set mj (.map (s.map areaV))) p mi mj xa xb { st with areas := s } := by
  obtain ⟨h1, h2, h3, h4, h5, h6⟩ := h
  have e1 : p ≠ mj := fun e => by subst e; rw [h3] at h1; cases h1
  exact ⟨by rw [Heap.set_ne _ _ e1]; exact h1, by rw [Heap.set_ne _ _ h6]; exact h2, Heap.set_same _ _ _, noIter_set h4 (by intro s e; cases e), noIter_set h5 (by intro s e; cases e), h6⟩
/-- From one moment to another one: but for the two maps all is as it was. -/
def PlanTo (H H' : Heap) (p mi mj : Nat) (xa xb : V) (st : Plan) : Prop := PlanAt H' p mi mj xa xb st ∧ ∀ i, H i ≠ .dead → i ≠ mi → i ≠ mj → H' i = H i
theorem PlanTo.new {H H' : Heap} {p mi mj : Nat} {xa xb : V} {st : Plan} (h : PlanTo H H' p mi mj xa xb st) {i : Nat} {o : IL.Obj} (hi : H' i = .dead) (ho : ∀ m s, o ≠ .iter m s) : PlanTo H (H'.set i o) p mi mj xa xb st := by
  refine ⟨h.1.new hi ho, fun j hj h1 h2 => ?_⟩
  have := h.2 j hj h1 h2
  have hne : j ≠ i := fun e => by subst e; rw [hi] at this; exact hj this.symm
  rw [Heap.set_ne _ _ hne]; exact this
theorem PlanTo.trans {H H' H'' : Heap} {p mi mj : Nat} {xa xb : V} {st st' : Plan} (h : PlanTo H H' p mi mj xa xb st) (h' : PlanTo H' H'' p mi mj xa xb st') : PlanTo H H'' p mi mj xa xb st' :=
  ⟨h'.1, fun i hi h1 h2 => by rw [h'.2 i (by rw [h.2 i hi h1 h2]; exact hi) h1 h2, h.2 i hi h1 h2]⟩
theorem PlanTo.start {H : Heap} {p mi mj : Nat} {xa xb : V} {st : Plan} (h : PlanAt H p mi mj xa xb st) : PlanTo H H p mi mj xa xb st := ⟨h, fun _ _ _ _ => rfl⟩
theorem PlanTo.face {H H' : Heap} {p mi mj : Nat} {xa xb : V} {st : Plan} (h : PlanTo H H' p mi mj xa xb st) (f : List (Text × Int)) : PlanTo H (H'.set mi (.map (f.map faceV))) p mi mj xa xb { st with faces := f } :=
  ⟨h.1.face f, fun i hi h1 h2 => by rw [Heap.set_ne _ _ h1]; exact h.2 i hi h1 h2⟩
theorem PlanTo.area {H H' : Heap} {p mi mj : Nat} {xa xb : V} {st : Plan} (h : PlanTo H H' p mi mj xa xb st) (s : List Text) : PlanTo H (H'.set mj (.map (s.map areaV))) p mi mj xa xb { st with areas := s } :=
  ⟨h.1.area s, fun i hi h1 h2 => by rw [Heap.set_ne _ _ h2]; exact h.2 i hi h1 h2⟩
end Go.Proofs.W

namespace Go.Proofs.W
set_option linter.unusedSimpArgs false
set_option maxRecDepth 20000
open Go Go.IL Go.Proofs
def plHas.c : IC :=
  (.seq (.reg 0 [⟨some 4, (.assign (.const (.bool false))), none⟩] false)
  (.seq (.reg 1 [⟨some 5, (.move (.tmp (0 : Nat))), none⟩,
    ⟨some 6, (.call { callee := (.value (.func (29 : Nat))), args := #[(.tmp (5 : Nat)), (.const (.int .i64 2))], argTypes := #[29, 3] }), none⟩,
    ⟨some 7, (.move (.tmp (1 : Nat))), none⟩,
    ⟨some 8, (.call { callee := (.value (.func (66 : Nat))), args := #[(.tmp (6 : Nat)), (.tmp (7 : Nat))], argTypes := #[43, 9] }), none⟩,
    ⟨some 4, (.assign (.tmp (8 : Nat))), none⟩] false)
  .ret))
theorem plHas.of : Tryz.f74.body.bind IC.of = some plHas.c := by kernel_rfl
theorem plHas.ok : Tryz.f74.body.map (okCode Tryz.prog Tryz.f74.ntmps (fun _ _ => false)) = some true := by kernel_rfl
def plKind.c : IC :=
  (.seq (.reg 0 [⟨some 2, (.assign (.const (.int .i64 0))), none⟩] false)
  (.seq (.seq (.reg 1 [⟨some 3, (.move (.tmp (0 : Nat))), none⟩] false)
  (.block 0 (.seq (.reg 2 [⟨some 5, (.binOp .eql 3 (.tmp (3 : Nat)) (.const (.int .i64 1)) 3), none⟩,
    ⟨some 4, (.assign (.tmp (5 : Nat))), none⟩] false)
  (.cond (.tmp (4 : Nat)) (.seq (.reg 3 [⟨some 2, (.assign (.const (.int .i64 8))), none⟩] false)
  .ret) (.seq (.reg 4 [⟨some 7, (.binOp .eql 3 (.tmp (3 : Nat)) (.const (.int .i64 2)) 3), none⟩,
    ⟨some 6, (.assign (.tmp (7 : Nat))), none⟩] false)
  (.cond (.tmp (6 : Nat)) (.seq (.reg 5 [⟨some 2, (.assign (.const (.int .i64 7))), none⟩] false)
  .ret) (.seq (.reg 6 [⟨some 9, (.binOp .eql 3 (.tmp (3 : Nat)) (.const (.int .i64 3)) 3), none⟩,
    ⟨some 8, (.assign (.tmp (9 : Nat))), none⟩] false)
  (.cond (.tmp (8 : Nat)) (.seq (.reg 7 [⟨some 2, (.assign (.const (.int .i64 5))), none⟩] false)
  .ret) (.seq (.reg 8 [⟨some 11, (.binOp .eql 3 (.tmp (3 : Nat)) (.const (.int .i64 4)) 3), none⟩,
    ⟨some 10, (.assign (.tmp (11 : Nat))), none⟩] false)
  (.cond (.tmp (10 : Nat)) (.seq (.reg 9 [⟨some 2, (.assign (.const (.int .i64 4))), none⟩] false)
  .ret) (.seq (.reg 10 [⟨some 13, (.binOp .eql 3 (.tmp (3 : Nat)) (.const (.int .i64 5)) 3), none⟩,
    ⟨some 12, (.assign (.tmp (13 : Nat))), none⟩] false)
  (.cond (.tmp (12 : Nat)) (.seq (.reg 11 [⟨some 2, (.assign (.const (.int .i64 3))), none⟩] false)
  .ret) (.seq (.reg 12 [⟨some 15, (.binOp .eql 3 (.tmp (3 : Nat)) (.const (.int .i64 6)) 3), none⟩,
    ⟨some 14, (.assign (.tmp (15 : Nat))), none⟩] false)
  (.cond (.tmp (14 : Nat)) (.seq (.reg 13 [⟨some 2, (.assign (.const (.int .i64 1))), none⟩] false)
  .ret) .skip))))))))))))))
  (.seq (.reg 14 [⟨some 2, (.assign (.const (.int .i64 9))), none⟩] false)
  .ret)))
theorem plKind.of : Tryz.f77.body.bind IC.of = some plKind.c := by kernel_rfl
theorem plKind.ok : Tryz.f77.body.map (okCode Tryz.prog Tryz.f77.ntmps (fun _ _ => false)) = some true := by kernel_rfl
def plLeast.c : IC :=
  (.seq (.reg 0 [⟨some 9, (.move (.tmp (0 : Nat))), none⟩,
    ⟨some 10, (.nilCheck (.tmp (9 : Nat))), none⟩,
    ⟨some 11, (.fieldAddr 78 (.tmp (10 : Nat)) 2), none⟩,
    ⟨some 12, (.load 75 (.tmp (11 : Nat))), none⟩,
    ⟨some 13, (.move (.tmp (1 : Nat))), none⟩,
    ⟨some 14, (.lookup 75 (.tmp (12 : Nat)) (.tmp (13 : Nat)) true), none⟩,
    ⟨some 8, (.move (.tmp (14 : Nat))), none⟩,
    ⟨some 15, (.extract (.tmp (8 : Nat)) 0), none⟩,
    ⟨some 16, (.extract (.tmp (8 : Nat)) 1), none⟩,
    ⟨some 6, (.assign (.tmp (15 : Nat))), none⟩,
    ⟨some 7, (.assign (.tmp (16 : Nat))), none⟩] false)
  (.seq (.reg 1 [⟨some 17, (.move (.tmp (7 : Nat))), none⟩,
    ⟨some 18, (.unOp .not 4 (.tmp (17 : Nat))), none⟩,
    ⟨some 19, (.move (.tmp (18 : Nat))), none⟩,
    ⟨some 20, (.move (.tmp (2 : Nat))), some (19, false)⟩,
    ⟨some 21, (.move (.tmp (6 : Nat))), some (19, false)⟩,
    ⟨some 22, (.binOp .lss 3 (.tmp (20 : Nat)) (.tmp (21 : Nat)) 3), some (19, false)⟩,
    ⟨some 23, (.pick (.tmp (19 : Nat)) (.const (.bool true)) (.tmp (22 : Nat))), none⟩] false)
  (.cond (.tmp (23 : Nat)) (.reg 2 [⟨some 24, (.move (.tmp (0 : Nat))), none⟩,
    ⟨some 25, (.nilCheck (.tmp (24 : Nat))), none⟩,
    ⟨some 26, (.fieldAddr 78 (.tmp (25 : Nat)) 2), none⟩,
    ⟨some 27, (.load 75 (.tmp (26 : Nat))), none⟩,
    ⟨some 28, (.move (.tmp (1 : Nat))), none⟩,
    ⟨some 29, (.move (.tmp (2 : Nat))), none⟩,
    ⟨none, (.mapUpdate 75 (.tmp (27 : Nat)) (.tmp (28 : Nat)) (.tmp (29 : Nat))), none⟩] false) .skip)))
theorem plLeast.of : Tryz.f75.body.bind IC.of = some plLeast.c := by kernel_rfl
theorem plLeast.ok : Tryz.f75.body.map (okCode Tryz.prog Tryz.f75.ntmps (fun _ _ => false)) = some true := by kernel_rfl
variable {W0 : World}
theorem w_plKind : PureF Tryz.prog W0 77 sKind := by
  refine PureF.of (rs := [(.tmp 2)]) (fun _ _ => false) (Φ := []) trivial T.mixed Tryz.func77 plKind.of rfl plKind.ok rfl ?_
  intro args H v hs
  unfold sKind at hs
  split at hs <;> cases hs
  rename_i c
  refine ⟨by simp [Tryz.f77], ?_⟩
  unfold plKind.c
  by_cases e1 : c = 1
  · simp (implicitDefEqProofs := false) only [go_sem, reduceIte, Nat.reduceEqDiff, Nat.reduceAdd, Nat.reduceSub, Nat.reduceMul, Nat.reduceLeDiff, Int.reduceLT, Int.reduceLE, Int.reduceEq, Int.reduceAdd, Int.reduceSub, Int.reduceMul, Int.reduceNeg, Int.reduceToNat, reduceCtorEq, Nat.reduceBEq, Nat.reduceLT, e1, kindB]
  by_cases e2 : c = 2
  · simp (implicitDefEqProofs := false) only [go_sem, reduceIte, Nat.reduceEqDiff, Nat.reduceAdd, Nat.reduceSub, Nat.reduceMul, Nat.reduceLeDiff, Int.reduceLT, Int.reduceLE, Int.reduceEq, Int.reduceAdd, Int.reduceSub, Int.reduceMul, Int.reduceNeg, Int.reduceToNat, reduceCtorEq, Nat.reduceBEq, Nat.reduceLT, e2, kindB]
  by_cases e3 : c = 3
  · simp (implicitDefEqProofs := false) only [go_sem, reduceIte, Nat.reduceEqDiff, Nat.reduceAdd, Nat.reduceSub, Nat.reduceMul, Nat.reduceLeDiff, Int.reduceLT, Int.reduceLE, Int.reduceEq, Int.reduceAdd, Int.reduceSub, Int.reduceMul, Int.reduceNeg, Int.reduceToNat, reduceCtorEq, Nat.reduceBEq, Nat.reduceLT, e3, kindB]
  by_cases e4 : c = 4
  · simp (implicitDefEqProofs := false) only [go_sem, reduceIte, Nat.reduceEqDiff, Nat.reduceAdd, Nat.reduceSub, Nat.reduceMul, Nat.reduceLeDiff, Int.reduceLT, Int.reduceLE, Int.reduceEq, Int.reduceAdd, Int.reduceSub, Int.reduceMul, Int.reduceNeg, Int.reduceToNat, reduceCtorEq, Nat.reduceBEq, Nat.reduceLT, e4, kindB]
  by_cases e5 : c = 5
  · simp (implicitDefEqProofs := false) only [go_sem, reduceIte, Nat.reduceEqDiff, Nat.reduceAdd, Nat.reduceSub, Nat.reduceMul, Nat.reduceLeDiff, Int.reduceLT, Int.reduceLE, Int.reduceEq, Int.reduceAdd, Int.reduceSub, Int.reduceMul, Int.reduceNeg, Int.reduceToNat, reduceCtorEq, Nat.reduceBEq, Nat.reduceLT, e5, kindB]
  by_cases e6 : c = 6
  · simp (implicitDefEqProofs := false) only [go_sem, reduceIte, Nat.reduceEqDiff, Nat.reduceAdd, Nat.reduceSub, Nat.reduceMul, Nat.reduceLeDiff, Int.reduceLT, Int.reduceLE, Int.reduceEq, Int.reduceAdd, Int.reduceSub, Int.reduceMul, Int.reduceNeg, Int.reduceToNat, reduceCtorEq, Nat.reduceBEq, Nat.reduceLT, e6, kindB]
  simp (implicitDefEqProofs := false) only [go_sem, reduceIte, Nat.reduceEqDiff, Nat.reduceAdd, Nat.reduceSub, Nat.reduceMul, Nat.reduceLeDiff, Int.reduceLT, Int.reduceLE, Int.reduceEq, Int.reduceAdd, Int.reduceSub, Int.reduceMul, Int.reduceNeg, Int.reduceToNat, reduceCtorEq, Nat.reduceBEq, Nat.reduceLT, e1, e2, e3, e4, e5, e6, kindB]
theorem w_plHas (h1 : PureF Tryz.prog W0 29 sNames) (h2 : PureF Tryz.prog W0 66 sHas) : PureF Tryz.prog W0 74 sHasC := by
  refine PureF.of (rs := [(.tmp 4)]) (fun _ _ => false) (Φ := [(29, sNames), (66, sHas)]) ⟨h1, h2, trivial⟩ T.mixed Tryz.func74 plHas.of rfl plHas.ok rfl ?_
  intro args H v hs
  unfold sHasC at hs
  split at hs
  · rename_i x n
    simp only [Option.bind_eq_some_iff] at hs
    obtain ⟨c, hc, hs⟩ := hs
    split at hs <;> cases hs
    rename_i hok
    refine ⟨by simp [Tryz.f74], ?_⟩
    have hl : (namesB c 2).length ≤ big := by have := names_len c 2; unfold big; omega
    unfold plHas.c
    simp (implicitDefEqProofs := false) only [go_sem, reduceIte, Nat.reduceEqDiff, Nat.reduceAdd, Nat.reduceSub, Nat.reduceMul, Nat.reduceLeDiff, Int.reduceLT, Int.reduceLE, Int.reduceEq, Int.reduceAdd, Int.reduceSub, Int.reduceMul, Int.reduceNeg, Int.reduceToNat, reduceCtorEq, Nat.reduceBEq, Nat.reduceLT, hc, hok, hl, hasB]
  · cases hs
theorem set_at_self {α : Type} {l : List α} {i : Nat} {a : α} (h : l[i]? = some a) : l.set i a = l := by
  obtain ⟨hi, rfl⟩ := List.getElem?_eq_some_iff.1 h
  exact List.set_getElem_self hi
theorem w_plLeast {H : Heap} {p mi mj : Nat} {xa xb : V} {st : Plan} (hp : PlanAt H p mi mj xa xb st) (n : Text) (k : Int) :
    IT Tryz.prog W0 75 [.ptr p 4 0 0, .str n, .val (.int .i64 k)] H (fun v H' => v = .tup [] ∧ PlanTo H H' p mi mj xa xb { st with faces := leastB st.faces n k }) := by
  refine IT.ofS_x (rs := []) (fun _ _ => false) (Φ := []) trivial T.mixed Tryz.func75 plLeast.of rfl plLeast.ok rfl (by simp [Tryz.f75]) ?_
  obtain ⟨h1, h2, h3, h4, h5, h6⟩ := hp
  have hp : PlanAt H p mi mj xa xb st := ⟨h1, h2, h3, h4, h5, h6⟩
  unfold plLeast.c
  cases hf : st.faces.findIdx? (fun q => decide (n = q.1)) with
  | none =>
    have hl : leastB st.faces n k = st.faces ++ [(n, k)] := by unfold leastB; rw [hf]
    simp (implicitDefEqProofs := false) only [go_sem, reduceIte, Nat.reduceEqDiff, Nat.reduceAdd, Nat.reduceSub, Nat.reduceMul, Nat.reduceLeDiff, Int.reduceLT, Int.reduceLE, Int.reduceEq, Int.reduceAdd, Int.reduceSub, Int.reduceMul, Int.reduceNeg, Int.reduceToNat, reduceCtorEq, Nat.reduceBEq, Nat.reduceLT, h1, h2, hf, h4, hl]
    simpa [faceV] using (PlanTo.start hp).face (st.faces ++ [(n, k)])
  | some i =>
    obtain ⟨q, hq⟩ : ∃ q, st.faces[i]? = some q := by
      rw [List.findIdx?_eq_some_iff_getElem] at hf
      exact ⟨_, List.getElem?_eq_getElem hf.1⟩
    have hl : leastB st.faces n k = if k < q.2 then st.faces.set i (n, k) else st.faces := by unfold leastB; rw [hf]; simp only [hq]
    by_cases hlt : k < q.2
    · rw [if_pos hlt] at hl
      simp (implicitDefEqProofs := false) only [go_sem, reduceIte, Nat.reduceEqDiff, Nat.reduceAdd, Nat.reduceSub, Nat.reduceMul, Nat.reduceLeDiff, Int.reduceLT, Int.reduceLE, Int.reduceEq, Int.reduceAdd, Int.reduceSub, Int.reduceMul, Int.reduceNeg, Int.reduceToNat, reduceCtorEq, Nat.reduceBEq, Nat.reduceLT, h1, h2, hf, h4, hl, hq, faceV, hlt]
      simpa [faceV, List.map_set] using (PlanTo.start hp).face (st.faces.set i (n, k))
    · rw [if_neg hlt] at hl
      simp (implicitDefEqProofs := false) only [go_sem, reduceIte, Nat.reduceEqDiff, Nat.reduceAdd, Nat.reduceSub, Nat.reduceMul, Nat.reduceLeDiff, Int.reduceLT, Int.reduceLE, Int.reduceEq, Int.reduceAdd, Int.reduceSub, Int.reduceMul, Int.reduceNeg, Int.reduceToNat, reduceCtorEq, Nat.reduceBEq, Nat.reduceLT, h1, h2, hf, h4, hl, hq, faceV, hlt]
      exact PlanTo.start hp
end Go.Proofs.W

namespace Go.Proofs.W
set_option linter.unusedSimpArgs false
set_option maxRecDepth 20000
open Go Go.IL Go.Proofs
def r4Addr.L0 : IC :=
  (.seq (.seq (.reg 6 [⟨some 14, (.move (.tmp (6 : Nat))), none⟩,
    ⟨some 15, (.binOp .lss 3 (.tmp (14 : Nat)) (.const (.int .i64 4)) 3), none⟩] false)
  (.cond (.tmp (15 : Nat)) .skip (.exit 0)))
  (.seq (.block 1 (.seq (.reg 8 [⟨some 19, (.move (.tmp (4 : Nat))), none⟩,
    ⟨some 20, (.move (.tmp (6 : Nat))), none⟩,
    ⟨some 21, (.indexAddr 43 (.tmp (19 : Nat)) (.tmp (20 : Nat))), none⟩,
    ⟨some 22, (.load 9 (.tmp (21 : Nat))), none⟩,
    ⟨some 23, (.call { callee := (.value (.func (106 : Nat))), args := #[(.tmp (22 : Nat))], argTypes := #[9] }), none⟩,
    ⟨some 18, (.move (.tmp (23 : Nat))), none⟩,
    ⟨some 24, (.extract (.tmp (18 : Nat)) 0), none⟩,
    ⟨some 25, (.extract (.tmp (18 : Nat)) 1), none⟩,
    ⟨some 7, (.assign (.tmp (24 : Nat))), none⟩,
    ⟨some 8, (.assign (.tmp (25 : Nat))), none⟩] false)
  (.seq (.seq (.reg 9 [⟨some 26, (.move (.tmp (8 : Nat))), none⟩,
    ⟨some 27, (.unOp .not 4 (.tmp (26 : Nat))), none⟩,
    ⟨some 28, (.move (.tmp (27 : Nat))), none⟩,
    ⟨some 29, (.move (.tmp (7 : Nat))), some (28, false)⟩,
    ⟨some 30, (.binOp .gtr 3 (.tmp (29 : Nat)) (.const (.int .i64 255)) 3), some (28, false)⟩,
    ⟨some 31, (.pick (.tmp (28 : Nat)) (.const (.bool true)) (.tmp (30 : Nat))), none⟩] false)
  (.cond (.tmp (31 : Nat)) (.seq (.reg 10 [⟨some 2, (.assign (.const (.int .u32 0))), none⟩,
    ⟨some 3, (.assign (.const (.bool false))), none⟩] false)
  .ret) .skip))
  (.reg 11 [⟨some 32, (.move (.tmp (5 : Nat))), none⟩,
    ⟨some 33, (.binOp .mul 59 (.tmp (32 : Nat)) (.const (.int .u32 256)) 59), none⟩,
    ⟨some 34, (.move (.tmp (7 : Nat))), none⟩,
    ⟨some 35, (.convert 3 59 (.tmp (34 : Nat))), none⟩,
    ⟨some 36, (.binOp .add 59 (.tmp (33 : Nat)) (.tmp (35 : Nat)) 59), none⟩,
    ⟨some 5, (.assign (.tmp (36 : Nat))), none⟩] false))))
  (.reg 7 [⟨some 16, (.move (.tmp (6 : Nat))), none⟩,
    ⟨some 17, (.binOp .add 3 (.tmp (16 : Nat)) (.const (.int .i64 1)) 3), none⟩,
    ⟨some 6, (.assign (.tmp (17 : Nat))), none⟩] false)))
def r4Addr.R0 : IC :=
  (.seq (.reg 12 [⟨some 37, (.move (.tmp (5 : Nat))), none⟩,
    ⟨some 2, (.assign (.tmp (37 : Nat))), none⟩,
    ⟨some 3, (.assign (.const (.bool true))), none⟩] false)
  .ret)
def r4Addr.c : IC :=
  (.seq (.reg 0 [⟨some 2, (.assign (.const (.int .u32 0))), none⟩,
    ⟨some 3, (.assign (.const (.bool false))), none⟩] false)
  (.seq (.reg 1 [⟨some 9, (.move (.tmp (0 : Nat))), none⟩,
    ⟨some 10, (.call { callee := (.value (.func (110 : Nat))), args := #[(.tmp (9 : Nat)), (.const (.int .u8 46))], argTypes := #[9, 5] }), none⟩,
    ⟨some 4, (.assign (.tmp (10 : Nat))), none⟩] false)
  (.seq (.seq (.reg 2 [⟨some 11, (.move (.tmp (4 : Nat))), none⟩,
    ⟨some 12, (.call { callee := (.builtin .len), args := #[(.tmp (11 : Nat))], argTypes := #[43] }), none⟩,
    ⟨some 13, (.binOp .neq 3 (.tmp (12 : Nat)) (.const (.int .i64 4)) 3), none⟩] false)
  (.cond (.tmp (13 : Nat)) (.seq (.reg 3 [⟨some 2, (.assign (.const (.int .u32 0))), none⟩,
    ⟨some 3, (.assign (.const (.bool false))), none⟩] false)
  .ret) .skip))
  (.seq (.reg 4 [⟨some 5, (.assign (.const (.int .u32 0))), none⟩] false)
  (.seq (.seq (.reg 5 [⟨some 6, (.assign (.const (.int .i64 0))), none⟩] false)
  (.block 0 (.loop r4Addr.L0)))
  (cutIC r4Addr.R0))))))
theorem r4Addr.of : Tryz.f65.body.bind IC.of = some r4Addr.c := by kernel_rfl
theorem r4Addr.ok : Tryz.f65.body.map (okCode Tryz.prog Tryz.f65.ntmps (fun _ _ => false)) = some true := by kernel_rfl
def r4Net.c : IC :=
  (.seq (.reg 0 [⟨some 2, (.assign (.const (.int .u32 0))), none⟩,
    ⟨some 3, (.assign (.const (.int .i64 0))), none⟩,
    ⟨some 4, (.assign (.const (.bool false))), none⟩] false)
  (.seq (.reg 1 [⟨some 10, (.move (.tmp (0 : Nat))), none⟩,
    ⟨some 11, (.call { callee := (.value (.func (110 : Nat))), args := #[(.tmp (10 : Nat)), (.const (.int .u8 47))], argTypes := #[9, 5] }), none⟩,
    ⟨some 5, (.assign (.tmp (11 : Nat))), none⟩] false)
  (.seq (.seq (.reg 2 [⟨some 12, (.move (.tmp (5 : Nat))), none⟩,
    ⟨some 13, (.call { callee := (.builtin .len), args := #[(.tmp (12 : Nat))], argTypes := #[43] }), none⟩,
    ⟨some 14, (.binOp .neq 3 (.tmp (13 : Nat)) (.const (.int .i64 2)) 3), none⟩] false)
  (.cond (.tmp (14 : Nat)) (.seq (.reg 3 [⟨some 2, (.assign (.const (.int .u32 0))), none⟩,
    ⟨some 3, (.assign (.const (.int .i64 0))), none⟩,
    ⟨some 4, (.assign (.const (.bool false))), none⟩] false)
  .ret) .skip))
  (.seq (.reg 4 [⟨some 16, (.move (.tmp (5 : Nat))), none⟩,
    ⟨some 17, (.indexAddr 43 (.tmp (16 : Nat)) (.const (.int .i64 0))), none⟩,
    ⟨some 18, (.load 9 (.tmp (17 : Nat))), none⟩,
    ⟨some 19, (.call { callee := (.value (.func (65 : Nat))), args := #[(.tmp (18 : Nat))], argTypes := #[9] }), none⟩,
    ⟨some 15, (.move (.tmp (19 : Nat))), none⟩,
    ⟨some 20, (.extract (.tmp (15 : Nat)) 0), none⟩,
    ⟨some 21, (.extract (.tmp (15 : Nat)) 1), none⟩,
    ⟨some 6, (.assign (.tmp (20 : Nat))), none⟩,
    ⟨some 7, (.assign (.tmp (21 : Nat))), none⟩] false)
  (.seq (.reg 5 [⟨some 23, (.move (.tmp (5 : Nat))), none⟩,
    ⟨some 24, (.indexAddr 43 (.tmp (23 : Nat)) (.const (.int .i64 1))), none⟩,
    ⟨some 25, (.load 9 (.tmp (24 : Nat))), none⟩,
    ⟨some 26, (.call { callee := (.value (.func (106 : Nat))), args := #[(.tmp (25 : Nat))], argTypes := #[9] }), none⟩,
    ⟨some 22, (.move (.tmp (26 : Nat))), none⟩,
    ⟨some 27, (.extract (.tmp (22 : Nat)) 0), none⟩,
    ⟨some 28, (.extract (.tmp (22 : Nat)) 1), none⟩,
    ⟨some 8, (.assign (.tmp (27 : Nat))), none⟩,
    ⟨some 9, (.assign (.tmp (28 : Nat))), none⟩] false)
  (.seq (.seq (.reg 6 [⟨some 29, (.move (.tmp (7 : Nat))), none⟩,
    ⟨some 30, (.unOp .not 4 (.tmp (29 : Nat))), none⟩,
    ⟨some 31, (.move (.tmp (30 : Nat))), none⟩,
    ⟨some 32, (.move (.tmp (9 : Nat))), some (31, false)⟩,
    ⟨some 33, (.unOp .not 4 (.tmp (32 : Nat))), some (31, false)⟩,
    ⟨some 34, (.pick (.tmp (31 : Nat)) (.const (.bool true)) (.tmp (33 : Nat))), none⟩,
    ⟨some 35, (.move (.tmp (34 : Nat))), none⟩,
    ⟨some 36, (.move (.tmp (8 : Nat))), some (35, false)⟩,
    ⟨some 37, (.binOp .lss 3 (.tmp (36 : Nat)) (.const (.int .i64 1)) 3), some (35, false)⟩,
    ⟨some 38, (.pick (.tmp (35 : Nat)) (.const (.bool true)) (.tmp (37 : Nat))), none⟩,
    ⟨some 39, (.move (.tmp (38 : Nat))), none⟩,
    ⟨some 40, (.move (.tmp (8 : Nat))), some (39, false)⟩,
    ⟨some 41, (.binOp .gtr 3 (.tmp (40 : Nat)) (.const (.int .i64 32)) 3), some (39, false)⟩,
    ⟨some 42, (.pick (.tmp (39 : Nat)) (.const (.bool true)) (.tmp (41 : Nat))), none⟩] false)
  (.cond (.tmp (42 : Nat)) (.seq (.reg 7 [⟨some 2, (.assign (.const (.int .u32 0))), none⟩,
    ⟨some 3, (.assign (.const (.int .i64 0))), none⟩,
    ⟨some 4, (.assign (.const (.bool false))), none⟩] false)
  .ret) .skip))
  (.seq (.reg 8 [⟨some 43, (.move (.tmp (6 : Nat))), none⟩,
    ⟨some 44, (.move (.tmp (8 : Nat))), none⟩,
    ⟨some 2, (.assign (.tmp (43 : Nat))), none⟩,
    ⟨some 3, (.assign (.tmp (44 : Nat))), none⟩,
    ⟨some 4, (.assign (.const (.bool true))), none⟩] false)
  .ret)))))))
theorem r4Net.of : Tryz.f67.body.bind IC.of = some r4Net.c := by kernel_rfl
theorem r4Net.ok : Tryz.f67.body.map (okCode Tryz.prog Tryz.f67.ntmps (fun _ _ => false)) = some true := by kernel_rfl
def r4Named.c : IC :=
  (.seq (.reg 0 [⟨some 4, (.assign (.const (.bool false))), none⟩] false)
  (.seq (.seq (.reg 1 [⟨some 7, (.move (.tmp (0 : Nat))), none⟩] false)
  (.block 0 (.seq (.reg 2 [⟨some 9, (.binOp .eql 3 (.tmp (7 : Nat)) (.const (.int .i64 0)) 3), none⟩,
    ⟨some 8, (.assign (.tmp (9 : Nat))), none⟩] false)
  (.cond (.tmp (8 : Nat)) (.seq (.reg 3 [⟨some 10, (.move (.tmp (1 : Nat))), none⟩,
    ⟨some 11, (.binOp .eql 9 (.tmp (10 : Nat)) (.const (.string ⟨#[]⟩)) 9), none⟩,
    ⟨some 4, (.assign (.tmp (11 : Nat))), none⟩] false)
  .ret) (.seq (.reg 4 [⟨some 13, (.binOp .eql 3 (.tmp (7 : Nat)) (.const (.int .i64 1)) 3), none⟩,
    ⟨some 12, (.assign (.tmp (13 : Nat))), none⟩] false)
  (.cond (.tmp (12 : Nat)) (.seq (.reg 5 [⟨some 15, (.move (.tmp (1 : Nat))), none⟩,
    ⟨some 16, (.call { callee := (.value (.func (65 : Nat))), args := #[(.tmp (15 : Nat))], argTypes := #[9] }), none⟩,
    ⟨some 14, (.move (.tmp (16 : Nat))), none⟩,
    ⟨some 17, (.extract (.tmp (14 : Nat)) 0), none⟩,
    ⟨some 18, (.extract (.tmp (14 : Nat)) 1), none⟩,
    ⟨some 5, (.assign (.tmp (17 : Nat))), none⟩,
    ⟨some 6, (.assign (.tmp (18 : Nat))), none⟩] false)
  (.seq (.reg 6 [⟨some 19, (.move (.tmp (6 : Nat))), none⟩,
    ⟨some 4, (.assign (.tmp (19 : Nat))), none⟩] false)
  .ret)) (.seq (.reg 7 [⟨some 21, (.binOp .eql 3 (.tmp (7 : Nat)) (.const (.int .i64 2)) 3), none⟩,
    ⟨some 20, (.assign (.tmp (21 : Nat))), none⟩] false)
  (.cond (.tmp (20 : Nat)) (.seq (.reg 8 [⟨some 22, (.move (.tmp (1 : Nat))), none⟩,
    ⟨some 23, (.call { callee := (.value (.func (116 : Nat))), args := #[(.tmp (22 : Nat))], argTypes := #[9] }), none⟩,
    ⟨some 24, (.move (.tmp (23 : Nat))), none⟩,
    ⟨some 25, (.move (.tmp (1 : Nat))), some (24, true)⟩,
    ⟨some 26, (.call { callee := (.value (.func (110 : Nat))), args := #[(.tmp (25 : Nat)), (.const (.int .u8 47))], argTypes := #[9, 5] }), some (24, true)⟩,
    ⟨some 27, (.call { callee := (.builtin .len), args := #[(.tmp (26 : Nat))], argTypes := #[43] }), some (24, true)⟩,
    ⟨some 28, (.binOp .eql 3 (.tmp (27 : Nat)) (.const (.int .i64 1)) 3), some (24, true)⟩,
    ⟨some 29, (.pick (.tmp (24 : Nat)) (.tmp (28 : Nat)) (.const (.bool false))), none⟩,
    ⟨some 4, (.assign (.tmp (29 : Nat))), none⟩] false)
  .ret) .skip))))))))
  (.seq (.reg 9 [⟨some 4, (.assign (.const (.bool false))), none⟩] false)
  .ret)))
theorem r4Named.of : Tryz.f82.body.bind IC.of = some r4Named.c := by kernel_rfl
theorem r4Named.ok : Tryz.f82.body.map (okCode Tryz.prog Tryz.f82.ntmps (fun _ _ => false)) = some true := by kernel_rfl
def r4Right.L0 : IC :=
  (.seq (.seq (.reg 13 [⟨some 54, (.move (.tmp (12 : Nat))), none⟩,
    ⟨some 55, (.fieldAddr 107 (.tmp (2 : Nat)) 5), none⟩,
    ⟨some 56, (.load 43 (.tmp (55 : Nat))), none⟩,
    ⟨some 57, (.call { callee := (.builtin .len), args := #[(.tmp (56 : Nat))], argTypes := #[43] }), none⟩,
    ⟨some 58, (.binOp .lss 3 (.tmp (54 : Nat)) (.tmp (57 : Nat)) 3), none⟩] false)
  (.cond (.tmp (58 : Nat)) .skip (.exit 1)))
  (.seq (.block 2 (.seq (.reg 15 [⟨some 61, (.fieldAddr 107 (.tmp (2 : Nat)) 5), none⟩,
    ⟨some 62, (.load 43 (.tmp (61 : Nat))), none⟩,
    ⟨some 63, (.move (.tmp (12 : Nat))), none⟩,
    ⟨some 64, (.indexAddr 43 (.tmp (62 : Nat)) (.tmp (63 : Nat))), none⟩,
    ⟨some 65, (.load 9 (.tmp (64 : Nat))), none⟩,
    ⟨some 66, (.move (.tmp (1 : Nat))), none⟩,
    ⟨some 67, (.binOp .eql 9 (.tmp (65 : Nat)) (.tmp (66 : Nat)) 9), none⟩] false)
  (.cond (.tmp (67 : Nat)) (.seq (.reg 16 [⟨some 4, (.assign (.const (.bool true))), none⟩] false)
  .ret) .skip)))
  (.reg 14 [⟨some 59, (.move (.tmp (12 : Nat))), none⟩,
    ⟨some 60, (.binOp .add 3 (.tmp (59 : Nat)) (.const (.int .i64 1)) 3), none⟩,
    ⟨some 12, (.assign (.tmp (60 : Nat))), none⟩] false)))
def r4Right.R0 : IC :=
  (.seq (.reg 17 [⟨some 4, (.assign (.const (.bool false))), none⟩] false)
  .ret)
def r4Right.R1 : IC :=
  (.seq (.reg 20 [⟨some 4, (.assign (.const (.bool false))), none⟩] false)
  .ret)
def r4Right.c : IC :=
  (.seq (.reg 0 [⟨some 2, (.box 107 (.tmp (0 : Nat))), none⟩,
    ⟨some 4, (.assign (.const (.bool false))), none⟩] false)
  (.seq (.seq (.reg 1 [⟨some 13, (.fieldAddr 107 (.tmp (2 : Nat)) 2), none⟩,
    ⟨some 14, (.load 3 (.tmp (13 : Nat))), none⟩] false)
  (.block 0 (.seq (.reg 2 [⟨some 16, (.binOp .eql 3 (.tmp (14 : Nat)) (.const (.int .i64 0)) 3), none⟩,
    ⟨some 15, (.assign (.tmp (16 : Nat))), none⟩] false)
  (.cond (.tmp (15 : Nat)) (.seq (.reg 3 [⟨some 18, (.move (.tmp (1 : Nat))), none⟩,
    ⟨some 19, (.call { callee := (.value (.func (65 : Nat))), args := #[(.tmp (18 : Nat))], argTypes := #[9] }), none⟩,
    ⟨some 17, (.move (.tmp (19 : Nat))), none⟩,
    ⟨some 20, (.extract (.tmp (17 : Nat)) 0), none⟩,
    ⟨some 21, (.extract (.tmp (17 : Nat)) 1), none⟩,
    ⟨some 5, (.assign (.tmp (20 : Nat))), none⟩,
    ⟨some 6, (.assign (.tmp (21 : Nat))), none⟩] false)
  (.seq (.reg 4 [⟨some 22, (.move (.tmp (6 : Nat))), none⟩,
    ⟨some 4, (.assign (.tmp (22 : Nat))), none⟩] false)
  .ret)) (.seq (.reg 5 [⟨some 24, (.binOp .eql 3 (.tmp (14 : Nat)) (.const (.int .i64 1)) 3), none⟩,
    ⟨some 23, (.assign (.tmp (24 : Nat))), none⟩] false)
  (.cond (.tmp (23 : Nat)) (.seq (.reg 6 [⟨some 26, (.move (.tmp (1 : Nat))), none⟩,
    ⟨some 27, (.call { callee := (.value (.func (67 : Nat))), args := #[(.tmp (26 : Nat))], argTypes := #[9] }), none⟩,
    ⟨some 25, (.move (.tmp (27 : Nat))), none⟩,
    ⟨some 28, (.extract (.tmp (25 : Nat)) 0), none⟩,
    ⟨some 29, (.extract (.tmp (25 : Nat)) 1), none⟩,
    ⟨some 30, (.extract (.tmp (25 : Nat)) 2), none⟩,
    ⟨some 7, (.assign (.tmp (28 : Nat))), none⟩,
    ⟨some 8, (.assign (.tmp (29 : Nat))), none⟩,
    ⟨some 9, (.assign (.tmp (30 : Nat))), none⟩] false)
  (.seq (.reg 7 [⟨some 31, (.move (.tmp (9 : Nat))), none⟩,
    ⟨some 4, (.assign (.tmp (31 : Nat))), none⟩] false)
  .ret)) (.seq (.reg 8 [⟨some 33, (.binOp .eql 3 (.tmp (14 : Nat)) (.const (.int .i64 2)) 3), none⟩,
    ⟨some 32, (.assign (.tmp (33 : Nat))), none⟩] false)
  (.cond (.tmp (32 : Nat)) (.seq (.reg 9 [⟨some 35, (.move (.tmp (1 : Nat))), none⟩,
    ⟨some 36, (.call { callee := (.value (.func (106 : Nat))), args := #[(.tmp (35 : Nat))], argTypes := #[9] }), none⟩,
    ⟨some 34, (.move (.tmp (36 : Nat))), none⟩,
    ⟨some 37, (.extract (.tmp (34 : Nat)) 0), none⟩,
    ⟨some 38, (.extract (.tmp (34 : Nat)) 1), none⟩,
    ⟨some 10, (.assign (.tmp (37 : Nat))), none⟩,
    ⟨some 11, (.assign (.tmp (38 : Nat))), none⟩] false)
  (.seq (.reg 10 [⟨some 39, (.move (.tmp (11 : Nat))), none⟩,
    ⟨some 40, (.move (.tmp (39 : Nat))), none⟩,
    ⟨some 41, (.move (.tmp (10 : Nat))), some (40, true)⟩,
    ⟨some 42, (.fieldAddr 107 (.tmp (2 : Nat)) 3), some (40, true)⟩,
    ⟨some 43, (.load 3 (.tmp (42 : Nat))), some (40, true)⟩,
    ⟨some 44, (.binOp .geq 3 (.tmp (41 : Nat)) (.tmp (43 : Nat)) 3), some (40, true)⟩,
    ⟨some 45, (.pick (.tmp (40 : Nat)) (.tmp (44 : Nat)) (.const (.bool false))), none⟩,
    ⟨some 46, (.move (.tmp (45 : Nat))), none⟩,
    ⟨some 47, (.move (.tmp (10 : Nat))), some (46, true)⟩,
    ⟨some 48, (.fieldAddr 107 (.tmp (2 : Nat)) 4), some (46, true)⟩,
    ⟨some 49, (.load 3 (.tmp (48 : Nat))), some (46, true)⟩,
    ⟨some 50, (.binOp .leq 3 (.tmp (47 : Nat)) (.tmp (49 : Nat)) 3), some (46, true)⟩,
    ⟨some 51, (.pick (.tmp (46 : Nat)) (.tmp (50 : Nat)) (.const (.bool false))), none⟩,
    ⟨some 4, (.assign (.tmp (51 : Nat))), none⟩] false)
  .ret)) (.seq (.reg 11 [⟨some 53, (.binOp .eql 3 (.tmp (14 : Nat)) (.const (.int .i64 3)) 3), none⟩,
    ⟨some 52, (.assign (.tmp (53 : Nat))), none⟩] false)
  (.cond (.tmp (52 : Nat)) (.seq (.seq (.reg 12 [⟨some 12, (.assign (.const (.int .i64 0))), none⟩] false)
  (.block 1 (.loop r4Right.L0)))
  (cutIC r4Right.R0)) (.seq (.reg 18 [⟨some 69, (.binOp .eql 3 (.tmp (14 : Nat)) (.const (.int .i64 4)) 3), none⟩,
    ⟨some 68, (.assign (.tmp (69 : Nat))), none⟩] false)
  (.cond (.tmp (68 : Nat)) (.seq (.reg 19 [⟨some 70, (.move (.tmp (1 : Nat))), none⟩,
    ⟨some 71, (.call { callee := (.value (.func (116 : Nat))), args := #[(.tmp (70 : Nat))], argTypes := #[9] }), none⟩,
    ⟨some 72, (.move (.tmp (71 : Nat))), none⟩,
    ⟨some 73, (.move (.tmp (1 : Nat))), some (72, true)⟩,
    ⟨some 74, (.call { callee := (.builtin .len), args := #[(.tmp (73 : Nat))], argTypes := #[9] }), some (72, true)⟩,
    ⟨some 75, (.fieldAddr 107 (.tmp (2 : Nat)) 4), some (72, true)⟩,
    ⟨some 76, (.load 3 (.tmp (75 : Nat))), some (72, true)⟩,
    ⟨some 77, (.binOp .leq 3 (.tmp (74 : Nat)) (.tmp (76 : Nat)) 3), some (72, true)⟩,
    ⟨some 78, (.pick (.tmp (72 : Nat)) (.tmp (77 : Nat)) (.const (.bool false))), none⟩,
    ⟨some 4, (.assign (.tmp (78 : Nat))), none⟩] false)
  .ret) .skip))))))))))))
  (cutIC r4Right.R1)))
theorem r4Right.of : Tryz.f83.body.bind IC.of = some r4Right.c := by kernel_rfl
theorem r4Right.ok : Tryz.f83.body.map (okCode Tryz.prog Tryz.f83.ntmps (fun _ _ => false)) = some true := by kernel_rfl
variable {W0 : World}
theorem parts_le (c : UInt8) : ∀ (l p : Text), p ∈ partsB c l → p.length ≤ l.length
  | [], p, h => by simp [partsB] at h; simp [h]
  | b :: l, p, h => by
    unfold partsB at h
    split at h
    · rcases List.mem_cons.1 h with h | h
      · simp [h]
      · have := parts_le c l p h; simp; omega
    · split at h
      · rename_i q qs hq
        rcases List.mem_cons.1 h with h | h
        · have := parts_le c l q (by rw [hq]; simp); rw [h]; simp; exact this
        · have := parts_le c l p (by rw [hq]; simp [h]); simp; omega
      · simp at h; simp [h]
theorem addrL_take : ∀ (ps : List Text) (n i : Nat), i ≤ ps.length → addrL ps n = (addrL (ps.take i) n).bind fun m => addrL (ps.drop i) m
  | ps, n, 0, _ => by simp [addrL]
  | [], n, i + 1, h => by simp at h
  | p :: ps, n, i + 1, h => by
    simp only [addrL, List.take_succ_cons, List.drop_succ_cons]
    cases part255 p with
    | none => rfl
    | some k => simp only [Option.bind_some]; exact addrL_take ps _ i (by simpa using h)
theorem addrL_snoc : ∀ (ps : List Text) (p : Text) (n : Nat), addrL (ps ++ [p]) n = (addrL ps n).bind fun m => (part255 p).map fun k => 256 * m + k
  | [], p, n => by simp only [List.nil_append, addrL, Option.bind_some]; cases part255 p <;> rfl
  | q :: ps, p, n => by
    simp only [List.cons_append, addrL]
    cases part255 q with
    | none => rfl
    | some k => simp only [Option.bind_some]; exact addrL_snoc ps p _
theorem addrL_lt : ∀ (ps : List Text) (n m k : Nat), addrL ps n = some m → n < 256 ^ k → m < 256 ^ (k + ps.length)
  | [], n, m, k, h, hn => by simp [addrL] at h; subst h; simpa using hn
  | p :: ps, n, m, k, h, hn => by
    simp only [addrL, Option.bind_eq_some_iff] at h
    obtain ⟨q, hq, h⟩ := h
    have hq' : q ≤ 255 := by
      simp only [part255, Option.bind_eq_some_iff] at hq
      obtain ⟨r, _, hr⟩ := hq
      split at hr <;> cases hr
      assumption
    have := addrL_lt ps _ m (k + 1) h (by rw [Nat.pow_succ]; omega)
    simpa [Nat.add_assoc, Nat.add_comm 1] using this
theorem w_r4Addr (h1 : PureF Tryz.prog W0 110 sParts) (h2 : PureF Tryz.prog W0 106 sDec) : PureF Tryz.prog W0 65 sAddr := by
  refine PureF.of (rs := [(.tmp 2), (.tmp 3)]) (fun _ _ => false) (Φ := [(110, sParts), (106, sDec)]) ⟨h1, h2, trivial⟩ T.mixed Tryz.func65 r4Addr.of rfl r4Addr.ok rfl ?_
  intro args H v hs
  unfold sAddr at hs
  split at hs
  · rename_i l
    split at hs <;> cases hs
    rename_i hl
    refine ⟨by simp [Tryz.f65], ?_⟩
    have h46 : u8? 46 = some 46 := rfl
    unfold r4Addr.c
    by_cases h4 : (partsB 46 l).length = 4
    · have hA : addrB l = addrL (partsB 46 l) 0 := by unfold addrB; rw [if_pos h4]
      have h4' : (((partsB 46 l).length : Nat) : Int) = 4 := by omega
      simp (implicitDefEqProofs := false) (contextual := true) only [go_sem, reduceIte, Nat.reduceEqDiff, Nat.reduceAdd, Nat.reduceSub, Nat.reduceMul, Nat.reduceLeDiff, Int.reduceLT, Int.reduceLE, Int.reduceEq, Int.reduceAdd, Int.reduceSub, Int.reduceMul, Int.reduceNeg, Int.reduceToNat, reduceCtorEq, Nat.reduceBEq, Nat.reduceLT, hl, h46, h4']
      refine wpO_up 4 (fun i fr H' => i ≤ 4 ∧ fr 4 = .sl ((partsB 46 l).map .str) ∧ fr 6 = .val (.int .i64 i) ∧ H' = H ∧
        ∃ n, addrL ((partsB 46 l).take i) 0 = some n ∧ fr 5 = .val (.int .u32 (n : Nat))) 0 ?_ ?_
      · simp (implicitDefEqProofs := false) (contextual := true) only [go_sem, reduceIte, Nat.reduceEqDiff, Nat.reduceAdd, Nat.reduceSub, Nat.reduceMul, Nat.reduceLeDiff, Int.reduceLT, Int.reduceLE, Int.reduceEq, Int.reduceAdd, Int.reduceSub, Int.reduceMul, Int.reduceNeg, Int.reduceToNat, reduceCtorEq, Nat.reduceBEq, Nat.reduceLT]
        exact ⟨0, rfl, rfl⟩
      · rintro i fr H' ⟨hi, f4, f6, rfl, n, hn, f5⟩
        unfold r4Addr.L0
        have hw : IntKind.i64.wrap ((i : Int) + 1) = ((i + 1 : Nat) : Int) := wrap64 (by omega)
        have hlt32 := addrL_lt _ _ _ 0 hn (by decide)
        rw [List.length_take, h4, Nat.min_eq_left hi] at hlt32
        by_cases hlt : (i : Int) < 4
        · have hlt' : i < 4 := by omega
          obtain ⟨p, hp⟩ : ∃ p, (partsB 46 l)[i]? = some p := ⟨_, List.getElem?_eq_getElem (by omega)⟩
          have hpb : p.length ≤ big := Nat.le_trans (parts_le 46 l p (List.mem_of_getElem? hp)) hl
          have htk : (partsB 46 l).take (i + 1) = (partsB 46 l).take i ++ [p] := by rw [List.take_add_one, hp]; rfl
          have hstep : addrL ((partsB 46 l).take (i + 1)) 0 = (part255 p).map fun k => 256 * n + k := by
            rw [htk, addrL_snoc, hn]; rfl
          have hwhole := addrL_take (partsB 46 l) 0 (i + 1) (by omega)
          cases hd : decB p with
          | none =>
            have : addrB l = none := by rw [hA, hwhole, hstep]; simp [part255, hd]
            simp (implicitDefEqProofs := false) only [go_sem, reduceIte, Nat.reduceEqDiff, Nat.reduceAdd, Nat.reduceSub, Nat.reduceMul, Nat.reduceLeDiff, Int.reduceLT, Int.reduceLE, Int.reduceEq, Int.reduceAdd, Int.reduceSub, Int.reduceMul, Int.reduceNeg, Int.reduceToNat, reduceCtorEq, Nat.reduceBEq, Nat.reduceLT, f4, f5, f6, hlt, hp, hpb, hd, this, Option.isSome_none]
          | some k =>
            by_cases hk : (255 : Int) < (k : Int)
            · have : addrB l = none := by rw [hA, hwhole, hstep]; simp [part255, hd, show ¬ k ≤ 255 by omega]
              simp (implicitDefEqProofs := false) only [go_sem, reduceIte, Nat.reduceEqDiff, Nat.reduceAdd, Nat.reduceSub, Nat.reduceMul, Nat.reduceLeDiff, Int.reduceLT, Int.reduceLE, Int.reduceEq, Int.reduceAdd, Int.reduceSub, Int.reduceMul, Int.reduceNeg, Int.reduceToNat, reduceCtorEq, Nat.reduceBEq, Nat.reduceLT, f4, f5, f6, hlt, hp, hpb, hd, this, Option.isSome_none, Option.isSome_some, hk]
            · have hs2 : addrL ((partsB 46 l).take (i + 1)) 0 = some (256 * n + k) := by rw [hstep]; simp [part255, hd, show k ≤ 255 by omega]
              have hp3 : 256 ^ (0 + i) ≤ 256 ^ 3 := Nat.pow_le_pow_right (by decide) (by omega)
              have w1 : IntKind.u32.wrap ((n : Int) * 256) = (n : Int) * 256 := by
                simp [IntKind.wrap, IntKind.bits, IntKind.signed]; omega
              have w2 : IntKind.u32.wrap (k : Int) = (k : Int) := by
                simp [IntKind.wrap, IntKind.bits, IntKind.signed]; omega
              have w3 : IntKind.u32.wrap ((n : Int) * 256 + (k : Int)) = ((256 * n + k : Nat) : Int) := by
                simp [IntKind.wrap, IntKind.bits, IntKind.signed]; omega
              simp (implicitDefEqProofs := false) only [go_sem, reduceIte, Nat.reduceEqDiff, Nat.reduceAdd, Nat.reduceSub, Nat.reduceMul, Nat.reduceLeDiff, Int.reduceLT, Int.reduceLE, Int.reduceEq, Int.reduceAdd, Int.reduceSub, Int.reduceMul, Int.reduceNeg, Int.reduceToNat, reduceCtorEq, Nat.reduceBEq, Nat.reduceLT, f4, f5, f6, hlt, hp, hpb, hd, Option.isSome_some, hk, w1, w2, w3, hw]
              exact ⟨hlt', by omega, _, hs2, rfl⟩
        · simp (implicitDefEqProofs := false) only [go_sem, reduceIte, Nat.reduceEqDiff, Nat.reduceAdd, Nat.reduceSub, Nat.reduceMul, Nat.reduceLeDiff, Int.reduceLT, Int.reduceLE, Int.reduceEq, Int.reduceAdd, Int.reduceSub, Int.reduceMul, Int.reduceNeg, Int.reduceToNat, reduceCtorEq, Nat.reduceBEq, Nat.reduceLT, f4, f6, hlt]
          rw [wpO_eq]
          unfold r4Addr.R0
          have hi4 : i = 4 := by omega
          subst hi4
          rw [List.take_of_length_le (by omega)] at hn
          simp (implicitDefEqProofs := false) only [go_sem, reduceIte, Nat.reduceEqDiff, Nat.reduceAdd, Nat.reduceSub, Nat.reduceMul, Nat.reduceLeDiff, Int.reduceLT, Int.reduceLE, Int.reduceEq, Int.reduceAdd, Int.reduceSub, Int.reduceMul, Int.reduceNeg, Int.reduceToNat, reduceCtorEq, Nat.reduceBEq, Nat.reduceLT, f5, hA, hn, Option.isSome_some]
    · have hA : addrB l = none := by unfold addrB; rw [if_neg h4]
      have h4' : ¬ (((partsB 46 l).length : Nat) : Int) = 4 := by omega
      simp (implicitDefEqProofs := false) (contextual := true) only [go_sem, reduceIte, Nat.reduceEqDiff, Nat.reduceAdd, Nat.reduceSub, Nat.reduceMul, Nat.reduceLeDiff, Int.reduceLT, Int.reduceLE, Int.reduceEq, Int.reduceAdd, Int.reduceSub, Int.reduceMul, Int.reduceNeg, Int.reduceToNat, reduceCtorEq, Nat.reduceBEq, Nat.reduceLT, hl, h46, h4', hA, Option.isSome_none]
  · cases hs

theorem w_r4Net (h1 : PureF Tryz.prog W0 110 sParts) (h2 : PureF Tryz.prog W0 106 sDec) (h3 : PureF Tryz.prog W0 65 sAddr) : PureF Tryz.prog W0 67 sNet := by
  refine PureF.of (rs := [(.tmp 2), (.tmp 3), (.tmp 4)]) (fun _ _ => false) (Φ := [(110, sParts), (106, sDec), (65, sAddr)]) ⟨h1, h2, h3, trivial⟩ T.mixed Tryz.func67 r4Net.of rfl r4Net.ok rfl ?_
  intro args H v hs
  unfold sNet at hs
  split at hs
  · rename_i l
    split at hs <;> cases hs
    rename_i hl
    refine ⟨by simp [Tryz.f67], ?_⟩
    have h47 : u8? 47 = some 47 := rfl
    unfold r4Net.c
    have hple := parts_le 47 l
    match hps : partsB 47 l with
    | [] => exact absurd hps (partsB_ne 47 l)
    | [a] =>
      have hn : netB l = none := by unfold netB; rw [hps]
      simp (implicitDefEqProofs := false) (contextual := true) only [go_sem, reduceIte, Nat.reduceEqDiff, Nat.reduceAdd, Nat.reduceSub, Nat.reduceMul, Nat.reduceLeDiff, Int.reduceLT, Int.reduceLE, Int.reduceEq, Int.reduceAdd, Int.reduceSub, Int.reduceMul, Int.reduceNeg, Int.reduceToNat, reduceCtorEq, Nat.reduceBEq, Nat.reduceLT, hl, h47, hps, hn, Option.isSome_none]
    | a :: b :: c :: r =>
      have hn : netB l = none := by unfold netB; rw [hps]
      have hne : ¬ (((r.length + 1 + 1 + 1 : Nat) : Int) = 2) := by omega
      simp (implicitDefEqProofs := false) (contextual := true) only [go_sem, reduceIte, Nat.reduceEqDiff, Nat.reduceAdd, Nat.reduceSub, Nat.reduceMul, Nat.reduceLeDiff, Int.reduceLT, Int.reduceLE, Int.reduceEq, Int.reduceAdd, Int.reduceSub, Int.reduceMul, Int.reduceNeg, Int.reduceToNat, reduceCtorEq, Nat.reduceBEq, Nat.reduceLT, hl, h47, hps, hn, hne, Option.isSome_none]
    | [a, b] =>
      have ha : a.length ≤ big := Nat.le_trans (hple a (by rw [hps]; simp)) hl
      have hb : b.length ≤ big := Nat.le_trans (hple b (by rw [hps]; simp)) hl
      have hn : netB l = (addrB a).bind fun a => (decB b).bind fun n => if 1 ≤ n ∧ n ≤ 32 then some (a, n) else none := by unfold netB; rw [hps]
      cases hA : addrB a with
      | none => simp (implicitDefEqProofs := false) (contextual := true) only [go_sem, reduceIte, Nat.reduceEqDiff, Nat.reduceAdd, Nat.reduceSub, Nat.reduceMul, Nat.reduceLeDiff, Int.reduceLT, Int.reduceLE, Int.reduceEq, Int.reduceAdd, Int.reduceSub, Int.reduceMul, Int.reduceNeg, Int.reduceToNat, reduceCtorEq, Nat.reduceBEq, Nat.reduceLT, hl, h47, hps, hn, hA, ha, hb, Option.isSome_none, Option.bind_none]
      | some x =>
        cases hD : decB b with
        | none => simp (implicitDefEqProofs := false) (contextual := true) only [go_sem, reduceIte, Nat.reduceEqDiff, Nat.reduceAdd, Nat.reduceSub, Nat.reduceMul, Nat.reduceLeDiff, Int.reduceLT, Int.reduceLE, Int.reduceEq, Int.reduceAdd, Int.reduceSub, Int.reduceMul, Int.reduceNeg, Int.reduceToNat, reduceCtorEq, Nat.reduceBEq, Nat.reduceLT, hl, h47, hps, hn, hA, hD, ha, hb, Option.isSome_none, Option.isSome_some, Option.bind_none]
        | some n =>
          by_cases q1 : (n : Int) < 1
          · have q : ¬ (1 ≤ n ∧ n ≤ 32) := by omega
            simp (implicitDefEqProofs := false) (contextual := true) only [go_sem, reduceIte, Nat.reduceEqDiff, Nat.reduceAdd, Nat.reduceSub, Nat.reduceMul, Nat.reduceLeDiff, Int.reduceLT, Int.reduceLE, Int.reduceEq, Int.reduceAdd, Int.reduceSub, Int.reduceMul, Int.reduceNeg, Int.reduceToNat, reduceCtorEq, Nat.reduceBEq, Nat.reduceLT, hl, h47, hps, hn, hA, hD, ha, hb, Option.isSome_none, Option.isSome_some, q1, q]
          · by_cases q2 : (32 : Int) < (n : Int)
            · have q : ¬ (1 ≤ n ∧ n ≤ 32) := by omega
              simp (implicitDefEqProofs := false) (contextual := true) only [go_sem, reduceIte, Nat.reduceEqDiff, Nat.reduceAdd, Nat.reduceSub, Nat.reduceMul, Nat.reduceLeDiff, Int.reduceLT, Int.reduceLE, Int.reduceEq, Int.reduceAdd, Int.reduceSub, Int.reduceMul, Int.reduceNeg, Int.reduceToNat, reduceCtorEq, Nat.reduceBEq, Nat.reduceLT, hl, h47, hps, hn, hA, hD, ha, hb, Option.isSome_none, Option.isSome_some, q1, q2, q]
            · have q : 1 ≤ n ∧ n ≤ 32 := by omega
              simp (implicitDefEqProofs := false) (contextual := true) only [go_sem, reduceIte, Nat.reduceEqDiff, Nat.reduceAdd, Nat.reduceSub, Nat.reduceMul, Nat.reduceLeDiff, Int.reduceLT, Int.reduceLE, Int.reduceEq, Int.reduceAdd, Int.reduceSub, Int.reduceMul, Int.reduceNeg, Int.reduceToNat, reduceCtorEq, Nat.reduceBEq, Nat.reduceLT, hl, h47, hps, hn, hA, hD, ha, hb, Option.isSome_none, Option.isSome_some, q1, q2, q]
  · cases hs
theorem parts_one (c : UInt8) : ∀ l : Text, (partsB c l).length = 1 ↔ l.all (fun b => decide (b ≠ c)) = true
  | [] => by simp [partsB]
  | b :: l => by
    have ih := parts_one c l
    have hne := partsB_ne c l
    unfold partsB
    by_cases h : b = c
    · simp [h, hne]
    · rw [if_neg h]
      split
      · rename_i p ps hp
        rw [hp] at ih
        simp only [List.length_cons] at ih ⊢
        rw [ih]; simp [h]
      · rename_i hp; exact absurd hp hne
theorem w_r4Named (h1 : PureF Tryz.prog W0 110 sParts) (h2 : PureF Tryz.prog W0 116 (sTextBig isWordB)) (h3 : PureF Tryz.prog W0 65 sAddr) : PureF Tryz.prog W0 82 sNamed := by
  refine PureF.of (rs := [(.tmp 4)]) (fun _ _ => false) (Φ := [(110, sParts), (116, sTextBig isWordB), (65, sAddr)]) ⟨h1, h2, h3, trivial⟩ T.mixed Tryz.func82 r4Named.of rfl r4Named.ok rfl ?_
  intro args H v hs
  unfold sNamed at hs
  split at hs
  · rename_i h n
    split at hs <;> cases hs
    rename_i hl
    refine ⟨by simp [Tryz.f82], ?_⟩
    have h47 : u8? 47 = some 47 := rfl
    unfold r4Named.c
    by_cases e0 : h = 0
    · subst e0; simp (implicitDefEqProofs := false) (contextual := true) only [go_sem, reduceIte, Nat.reduceEqDiff, Nat.reduceAdd, Nat.reduceSub, Nat.reduceMul, Nat.reduceLeDiff, Int.reduceLT, Int.reduceLE, Int.reduceEq, Int.reduceAdd, Int.reduceSub, Int.reduceMul, Int.reduceNeg, Int.reduceToNat, reduceCtorEq, Nat.reduceBEq, Nat.reduceLT, namedB]
    · by_cases e1 : h = 1
      · subst e1; simp (implicitDefEqProofs := false) (contextual := true) only [go_sem, reduceIte, Nat.reduceEqDiff, Nat.reduceAdd, Nat.reduceSub, Nat.reduceMul, Nat.reduceLeDiff, Int.reduceLT, Int.reduceLE, Int.reduceEq, Int.reduceAdd, Int.reduceSub, Int.reduceMul, Int.reduceNeg, Int.reduceToNat, reduceCtorEq, Nat.reduceBEq, Nat.reduceLT, namedB, hl]
      · by_cases e2 : h = 2
        · subst e2
          cases hw : isWordB n with
          | false => simp (implicitDefEqProofs := false) (contextual := true) only [go_sem, reduceIte, Nat.reduceEqDiff, Nat.reduceAdd, Nat.reduceSub, Nat.reduceMul, Nat.reduceLeDiff, Int.reduceLT, Int.reduceLE, Int.reduceEq, Int.reduceAdd, Int.reduceSub, Int.reduceMul, Int.reduceNeg, Int.reduceToNat, reduceCtorEq, Nat.reduceBEq, Nat.reduceLT, namedB, hl, hw, h47]
          | true =>
            have hp := parts_one 47 n
            by_cases q : n.all (fun b => decide (b ≠ 47)) = true
            · have q2 : (((partsB 47 n).length : Nat) : Int) = 1 := by have := hp.2 q; omega
              rw [show namedB 2 n = true by simp only [namedB, hw, q]; rfl]
              simp (implicitDefEqProofs := false) (contextual := true) only [go_sem, reduceIte, Nat.reduceEqDiff, Nat.reduceAdd, Nat.reduceSub, Nat.reduceMul, Nat.reduceLeDiff, Int.reduceLT, Int.reduceLE, Int.reduceEq, Int.reduceAdd, Int.reduceSub, Int.reduceMul, Int.reduceNeg, Int.reduceToNat, reduceCtorEq, Nat.reduceBEq, Nat.reduceLT, hl, hw, h47, q2]
            · have q2 : ¬ (((partsB 47 n).length : Nat) : Int) = 1 := fun h => q (hp.1 (by omega))
              rw [show namedB 2 n = false by simp only [namedB, hw, Bool.not_eq_true _ ▸ q]; rfl]
              simp (implicitDefEqProofs := false) (contextual := true) only [go_sem, reduceIte, Nat.reduceEqDiff, Nat.reduceAdd, Nat.reduceSub, Nat.reduceMul, Nat.reduceLeDiff, Int.reduceLT, Int.reduceLE, Int.reduceEq, Int.reduceAdd, Int.reduceSub, Int.reduceMul, Int.reduceNeg, Int.reduceToNat, reduceCtorEq, Nat.reduceBEq, Nat.reduceLT, hl, hw, h47, q2]
        · simp (implicitDefEqProofs := false) (contextual := true) only [go_sem, reduceIte, Nat.reduceEqDiff, Nat.reduceAdd, Nat.reduceSub, Nat.reduceMul, Nat.reduceLeDiff, Int.reduceLT, Int.reduceLE, Int.reduceEq, Int.reduceAdd, Int.reduceSub, Int.reduceMul, Int.reduceNeg, Int.reduceToNat, reduceCtorEq, Nat.reduceBEq, Nat.reduceLT, namedB, e0, e1, e2]
  · cases hs
theorem any_at {α : Type} {p : α → Bool} {l : List α} {i : Nat} {r : α} (h : l[i]? = some r) (hp : p r = true) : l.any p = true := List.any_eq_true.2 ⟨r, List.mem_of_getElem? h, hp⟩
theorem w_r4Right (h1 : PureF Tryz.prog W0 65 sAddr) (h2 : PureF Tryz.prog W0 67 sNet) (h3 : PureF Tryz.prog W0 106 sDec) (h4 : PureF Tryz.prog W0 116 (sTextBig isWordB)) : PureF Tryz.prog W0 83 sRight := by
  refine PureF.of (rs := [(.tmp 4)]) (fun _ _ => false) (Φ := [(65, sAddr), (67, sNet), (106, sDec), (116, sTextBig isWordB)]) ⟨h1, h2, h3, h4, trivial⟩ T.mixed Tryz.func83 r4Right.of rfl r4Right.ok rfl ?_
  intro args H v hs
  unfold sRight at hs
  split at hs
  · rename_i h n k lo hi cs d c v
    split at hs
    · rename_i hl
      obtain ⟨hl, hcl⟩ := hl
      simp only [Option.map_eq_some_iff] at hs
      obtain ⟨ts, hts, rfl⟩ := hs
      have hcs := textsOf_some hts
      subst hcs
      rw [List.length_map] at hcl
      unfold big at hcl
      refine ⟨by simp [Tryz.f83], ?_⟩
      unfold r4Right.c
      by_cases e0 : k = 0
      · subst e0; simp (implicitDefEqProofs := false) (contextual := true) only [go_sem, reduceIte, Nat.reduceEqDiff, Nat.reduceAdd, Nat.reduceSub, Nat.reduceMul, Nat.reduceLeDiff, Int.reduceLT, Int.reduceLE, Int.reduceEq, Int.reduceAdd, Int.reduceSub, Int.reduceMul, Int.reduceNeg, Int.reduceToNat, reduceCtorEq, Nat.reduceBEq, Nat.reduceLT, rightB, hl]
      · by_cases e1 : k = 1
        · subst e1; simp (implicitDefEqProofs := false) (contextual := true) only [go_sem, reduceIte, Nat.reduceEqDiff, Nat.reduceAdd, Nat.reduceSub, Nat.reduceMul, Nat.reduceLeDiff, Int.reduceLT, Int.reduceLE, Int.reduceEq, Int.reduceAdd, Int.reduceSub, Int.reduceMul, Int.reduceNeg, Int.reduceToNat, reduceCtorEq, Nat.reduceBEq, Nat.reduceLT, rightB, hl]
        · by_cases e2 : k = 2
          · subst e2
            cases hd : decB v with
            | none => simp (implicitDefEqProofs := false) (contextual := true) only [go_sem, reduceIte, Nat.reduceEqDiff, Nat.reduceAdd, Nat.reduceSub, Nat.reduceMul, Nat.reduceLeDiff, Int.reduceLT, Int.reduceLE, Int.reduceEq, Int.reduceAdd, Int.reduceSub, Int.reduceMul, Int.reduceNeg, Int.reduceToNat, reduceCtorEq, Nat.reduceBEq, Nat.reduceLT, rightB, hl, hd, Option.isSome_none]
            | some m =>
              by_cases q1 : lo ≤ (m : Int)
              · by_cases q2 : (m : Int) ≤ hi
                · simp (implicitDefEqProofs := false) (contextual := true) only [go_sem, reduceIte, Nat.reduceEqDiff, Nat.reduceAdd, Nat.reduceSub, Nat.reduceMul, Nat.reduceLeDiff, Int.reduceLT, Int.reduceLE, Int.reduceEq, Int.reduceAdd, Int.reduceSub, Int.reduceMul, Int.reduceNeg, Int.reduceToNat, reduceCtorEq, Nat.reduceBEq, Nat.reduceLT, rightB, hl, hd, Option.isSome_some, q1, q2]
                · simp (implicitDefEqProofs := false) (contextual := true) only [go_sem, reduceIte, Nat.reduceEqDiff, Nat.reduceAdd, Nat.reduceSub, Nat.reduceMul, Nat.reduceLeDiff, Int.reduceLT, Int.reduceLE, Int.reduceEq, Int.reduceAdd, Int.reduceSub, Int.reduceMul, Int.reduceNeg, Int.reduceToNat, reduceCtorEq, Nat.reduceBEq, Nat.reduceLT, rightB, hl, hd, Option.isSome_some, q1, q2]
              · simp (implicitDefEqProofs := false) (contextual := true) only [go_sem, reduceIte, Nat.reduceEqDiff, Nat.reduceAdd, Nat.reduceSub, Nat.reduceMul, Nat.reduceLeDiff, Int.reduceLT, Int.reduceLE, Int.reduceEq, Int.reduceAdd, Int.reduceSub, Int.reduceMul, Int.reduceNeg, Int.reduceToNat, reduceCtorEq, Nat.reduceBEq, Nat.reduceLT, rightB, hl, hd, Option.isSome_some, q1]
          · by_cases e3 : k = 3
            · subst e3
              simp (implicitDefEqProofs := false) (contextual := true) only [go_sem, reduceIte, Nat.reduceEqDiff, Nat.reduceAdd, Nat.reduceSub, Nat.reduceMul, Nat.reduceLeDiff, Int.reduceLT, Int.reduceLE, Int.reduceEq, Int.reduceAdd, Int.reduceSub, Int.reduceMul, Int.reduceNeg, Int.reduceToNat, reduceCtorEq, Nat.reduceBEq, Nat.reduceLT]
              intro id hid
              refine wpO_up ts.length (fun i fr H' => i ≤ ts.length ∧ fr 1 = .str v ∧ fr 2 = .ptr id 8 0 0 ∧ fr 12 = .val (.int .i64 i) ∧ (∀ j t, j < i → ts[j]? = some t → t ≠ v) ∧
                H' = H.set id (.mem 8 [.agg [.val (.int .i64 h), .str n, .val (.int .i64 3), .val (.int .i64 lo), .val (.int .i64 hi), .sl (ts.map .str), .str d, .val (.int .i64 c)]])) 0 ?_ ?_
              · simp (implicitDefEqProofs := false) (contextual := true) only [go_sem, reduceIte, Nat.reduceEqDiff, Nat.reduceAdd, Nat.reduceSub, Nat.reduceMul, Nat.reduceLeDiff, Int.reduceLT, Int.reduceLE, Int.reduceEq, Int.reduceAdd, Int.reduceSub, Int.reduceMul, Int.reduceNeg, Int.reduceToNat, reduceCtorEq, Nat.reduceBEq, Nat.reduceLT]
                simp
              · rintro i fr H' ⟨hi', f1, f2, f12, hb, rfl⟩
                unfold r4Right.L0
                have hw : IntKind.i64.wrap ((i : Int) + 1) = ((i + 1 : Nat) : Int) := wrap64 (by omega)
                by_cases hlt : i < ts.length
                · obtain ⟨t, hti⟩ : ∃ t, ts[i]? = some t := ⟨_, List.getElem?_eq_getElem hlt⟩
                  by_cases e : t = v
                  · have : rightB ⟨h, n, 3, lo, hi, ts, d, c⟩ v = true := by
                      simp only [rightB]; exact any_at hti (by simp [e])
                    simp (implicitDefEqProofs := false) only [go_sem, reduceIte, Nat.reduceEqDiff, Nat.reduceAdd, Nat.reduceSub, Nat.reduceMul, Nat.reduceLeDiff, Int.reduceLT, Int.reduceLE, Int.reduceEq, Int.reduceAdd, Int.reduceSub, Int.reduceMul, Int.reduceNeg, Int.reduceToNat, reduceCtorEq, Nat.reduceBEq, Nat.reduceLT, f1, f2, f12, hlt, hti, e, this, Keeps_set, hid]
                  · simp (implicitDefEqProofs := false) only [go_sem, reduceIte, Nat.reduceEqDiff, Nat.reduceAdd, Nat.reduceSub, Nat.reduceMul, Nat.reduceLeDiff, Int.reduceLT, Int.reduceLE, Int.reduceEq, Int.reduceAdd, Int.reduceSub, Int.reduceMul, Int.reduceNeg, Int.reduceToNat, reduceCtorEq, Nat.reduceBEq, Nat.reduceLT, f1, f2, f12, hlt, hti, e, hw]
                    and_intros
                    all_goals first | omega | skip
                    intro j t' hj ht'
                    by_cases ej : j = i
                    · subst ej; rw [hti] at ht'; cases ht'; exact e
                    · exact hb j t' (by omega) ht'
                · simp (implicitDefEqProofs := false) only [go_sem, reduceIte, Nat.reduceEqDiff, Nat.reduceAdd, Nat.reduceSub, Nat.reduceMul, Nat.reduceLeDiff, Int.reduceLT, Int.reduceLE, Int.reduceEq, Int.reduceAdd, Int.reduceSub, Int.reduceMul, Int.reduceNeg, Int.reduceToNat, reduceCtorEq, Nat.reduceBEq, Nat.reduceLT, f1, f2, f12, hlt]
                  rw [wpO_eq]
                  unfold r4Right.R0
                  have : rightB ⟨h, n, 3, lo, hi, ts, d, c⟩ v = false := by
                    simp only [rightB]
                    rw [← Bool.not_eq_true]
                    intro h
                    obtain ⟨t, ht, he⟩ := List.any_eq_true.1 h
                    obtain ⟨j, hj, rfl⟩ := List.mem_iff_getElem.1 ht
                    exact hb j _ (by omega) (List.getElem?_eq_getElem hj) (by simpa using he)
                  simp (implicitDefEqProofs := false) only [go_sem, reduceIte, Nat.reduceEqDiff, Nat.reduceAdd, Nat.reduceSub, Nat.reduceMul, Nat.reduceLeDiff, Int.reduceLT, Int.reduceLE, Int.reduceEq, Int.reduceAdd, Int.reduceSub, Int.reduceMul, Int.reduceNeg, Int.reduceToNat, reduceCtorEq, Nat.reduceBEq, Nat.reduceLT, this, Keeps_set, hid]
            · by_cases e4 : k = 4
              · subst e4
                cases hw : isWordB v with
                | false => simp (implicitDefEqProofs := false) (contextual := true) only [go_sem, reduceIte, Nat.reduceEqDiff, Nat.reduceAdd, Nat.reduceSub, Nat.reduceMul, Nat.reduceLeDiff, Int.reduceLT, Int.reduceLE, Int.reduceEq, Int.reduceAdd, Int.reduceSub, Int.reduceMul, Int.reduceNeg, Int.reduceToNat, reduceCtorEq, Nat.reduceBEq, Nat.reduceLT, rightB, hw, hl]
                | true => simp (implicitDefEqProofs := false) (contextual := true) only [go_sem, reduceIte, Nat.reduceEqDiff, Nat.reduceAdd, Nat.reduceSub, Nat.reduceMul, Nat.reduceLeDiff, Int.reduceLT, Int.reduceLE, Int.reduceEq, Int.reduceAdd, Int.reduceSub, Int.reduceMul, Int.reduceNeg, Int.reduceToNat, reduceCtorEq, Nat.reduceBEq, Nat.reduceLT, rightB, hw, hl]
              · simp (implicitDefEqProofs := false) (contextual := true) only [go_sem, reduceIte, Nat.reduceEqDiff, Nat.reduceAdd, Nat.reduceSub, Nat.reduceMul, Nat.reduceLeDiff, Int.reduceLT, Int.reduceLE, Int.reduceEq, Int.reduceAdd, Int.reduceSub, Int.reduceMul, Int.reduceNeg, Int.reduceToNat, reduceCtorEq, Nat.reduceBEq, Nat.reduceLT, rightB, e0, e1, e2, e3, e4]
                intro id hid
                rw [wpO_eq]
                unfold r4Right.R1
                simp (implicitDefEqProofs := false) only [go_sem, reduceIte, Nat.reduceEqDiff, Nat.reduceAdd, Nat.reduceSub, Nat.reduceMul, Nat.reduceLeDiff, Int.reduceLT, Int.reduceLE, Int.reduceEq, Int.reduceAdd, Int.reduceSub, Int.reduceMul, Int.reduceNeg, Int.reduceToNat, reduceCtorEq, Nat.reduceBEq, Nat.reduceLT, Keeps_set, hid, rightB, e0, e1, e2, e3, e4]
    · cases hs
  · cases hs

end Go.Proofs.W
