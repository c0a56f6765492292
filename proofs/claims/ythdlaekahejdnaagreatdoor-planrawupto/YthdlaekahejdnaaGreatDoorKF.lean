import Derived.Test.YthdlaekahejdnaaGreatDoorKE
set_option linter.unusedVariables false
set_option linter.unusedSimpArgs false
namespace Go.Proofs.W
set_option linter.unusedSimpArgs false
set_option maxRecDepth 20000
open Go Go.IL Go.Proofs
def scDecimal.c : IC :=
  (.seq (.reg 0 [⟨some 2, (.assign (.const (.int .i64 0))), none⟩,
    ⟨some 3, (.assign (.const (.bool false))), none⟩] false)
  (.seq (.seq (.reg 1 [⟨some 6, (.move (.tmp (0 : Nat))), none⟩,
    ⟨some 7, (.binOp .eql 9 (.tmp (6 : Nat)) (.const (.string ⟨#[]⟩)) 9), none⟩,
    ⟨some 8, (.move (.tmp (7 : Nat))), none⟩,
    ⟨some 9, (.move (.tmp (0 : Nat))), some (8, false)⟩,
    ⟨some 10, (.call { callee := (.builtin .len), args := #[(.tmp (9 : Nat))], argTypes := #[9] }), some (8, false)⟩,
    ⟨some 11, (.binOp .gtr 3 (.tmp (10 : Nat)) (.const (.int .i64 9)) 3), some (8, false)⟩,
    ⟨some 12, (.pick (.tmp (8 : Nat)) (.const (.bool true)) (.tmp (11 : Nat))), none⟩,
    ⟨some 13, (.move (.tmp (12 : Nat))), none⟩,
    ⟨some 14, (.move (.tmp (0 : Nat))), some (13, false)⟩,
    ⟨some 15, (.call { callee := (.value (.func (123 : Nat))), args := #[(.tmp (14 : Nat)), (.const (.string ⟨#[48, 49, 50, 51, 52, 53, 54, 55, 56, 57]⟩))], argTypes := #[9, 9] }), some (13, false)⟩,
    ⟨some 16, (.binOp .neq 9 (.tmp (15 : Nat)) (.const (.string ⟨#[]⟩)) 9), some (13, false)⟩,
    ⟨some 17, (.pick (.tmp (13 : Nat)) (.const (.bool true)) (.tmp (16 : Nat))), none⟩,
    ⟨some 18, (.move (.tmp (17 : Nat))), none⟩,
    ⟨some 19, (.move (.tmp (0 : Nat))), some (18, false)⟩,
    ⟨some 20, (.index 9 (.tmp (19 : Nat)) (.const (.int .i64 0))), some (18, false)⟩,
    ⟨some 21, (.binOp .eql 5 (.tmp (20 : Nat)) (.const (.int .u8 48)) 5), some (18, false)⟩,
    ⟨some 22, (.move (.tmp (21 : Nat))), some (18, false)⟩,
    ⟨some 23, (.move (.tmp (0 : Nat))), some (22, true)⟩,
    ⟨some 24, (.binOp .neq 9 (.tmp (23 : Nat)) (.const (.string ⟨#[48]⟩)) 9), some (22, true)⟩,
    ⟨some 25, (.pick (.tmp (22 : Nat)) (.tmp (24 : Nat)) (.const (.bool false))), some (18, false)⟩,
    ⟨some 26, (.pick (.tmp (18 : Nat)) (.const (.bool true)) (.tmp (25 : Nat))), none⟩] false)
  (.cond (.tmp (26 : Nat)) (.seq (.reg 2 [⟨some 2, (.assign (.const (.int .i64 0))), none⟩,
    ⟨some 3, (.assign (.const (.bool false))), none⟩] false)
  .ret) .skip))
  (.seq (.reg 3 [⟨some 28, (.move (.tmp (0 : Nat))), none⟩,
    ⟨some 29, (.call { callee := (.value (.func (124 : Nat))), args := #[(.tmp (28 : Nat))], argTypes := #[9] }), none⟩,
    ⟨some 27, (.move (.tmp (29 : Nat))), none⟩,
    ⟨some 30, (.extract (.tmp (27 : Nat)) 0), none⟩,
    ⟨some 31, (.extract (.tmp (27 : Nat)) 1), none⟩,
    ⟨some 4, (.assign (.tmp (30 : Nat))), none⟩,
    ⟨some 5, (.assign (.tmp (31 : Nat))), none⟩] false)
  (.seq (.reg 4 [⟨some 32, (.move (.tmp (4 : Nat))), none⟩,
    ⟨some 33, (.move (.tmp (5 : Nat))), none⟩,
    ⟨some 34, (.binOp .eql 94 (.tmp (33 : Nat)) (.const .nilIface) 94), none⟩,
    ⟨some 2, (.assign (.tmp (32 : Nat))), none⟩,
    ⟨some 3, (.assign (.tmp (34 : Nat))), none⟩] true)
  .ret))))
theorem scDecimal.of : Tryz.f93.body.bind IC.of = some scDecimal.c := by kernel_rfl
theorem scDecimal.ok : Tryz.f93.body.map (okCode Tryz.prog Tryz.f93.ntmps (fun _ _ => false)) = some true := by kernel_rfl
def scNamed.c : IC :=
  (.seq (.reg 0 [⟨some 4, (.assign (.const (.bool false))), none⟩] false)
  (.seq (.seq (.reg 1 [⟨some 7, (.move (.tmp (0 : Nat))), none⟩] false)
  (.block 0 (.seq (.reg 2 [⟨some 9, (.binOp .eql 3 (.tmp (7 : Nat)) (.const (.int .i64 0)) 3), none⟩,
    ⟨some 8, (.assign (.tmp (9 : Nat))), none⟩] false)
  (.cond (.tmp (8 : Nat)) (.seq (.reg 3 [⟨some 10, (.move (.tmp (1 : Nat))), none⟩,
    ⟨some 11, (.binOp .eql 9 (.tmp (10 : Nat)) (.const (.string ⟨#[]⟩)) 9), none⟩,
    ⟨some 4, (.assign (.tmp (11 : Nat))), none⟩] false)
  .ret) (.seq (.reg 4 [⟨some 13, (.binOp .eql 3 (.tmp (7 : Nat)) (.const (.int .i64 1)) 3), none⟩,
    ⟨some 12, (.assign (.tmp (13 : Nat))), none⟩] false)
  (.cond (.tmp (12 : Nat)) (.seq (.reg 5 [⟨some 15, (.move (.tmp (1 : Nat))), none⟩,
    ⟨some 16, (.call { callee := (.value (.func (63 : Nat))), args := #[(.tmp (15 : Nat))], argTypes := #[9] }), none⟩,
    ⟨some 14, (.move (.tmp (16 : Nat))), none⟩,
    ⟨some 17, (.extract (.tmp (14 : Nat)) 0), none⟩,
    ⟨some 18, (.extract (.tmp (14 : Nat)) 1), none⟩,
    ⟨some 5, (.assign (.tmp (17 : Nat))), none⟩,
    ⟨some 6, (.assign (.tmp (18 : Nat))), none⟩] false)
  (.seq (.reg 6 [⟨some 19, (.move (.tmp (6 : Nat))), none⟩,
    ⟨some 4, (.assign (.tmp (19 : Nat))), none⟩] false)
  .ret)) (.seq (.reg 7 [⟨some 21, (.binOp .eql 3 (.tmp (7 : Nat)) (.const (.int .i64 2)) 3), none⟩,
    ⟨some 20, (.assign (.tmp (21 : Nat))), none⟩] false)
  (.cond (.tmp (20 : Nat)) (.seq (.reg 8 [⟨some 22, (.move (.tmp (1 : Nat))), none⟩,
    ⟨some 23, (.call { callee := (.value (.func (186 : Nat))), args := #[(.tmp (22 : Nat))], argTypes := #[9] }), none⟩,
    ⟨some 24, (.move (.tmp (23 : Nat))), none⟩,
    ⟨some 25, (.move (.tmp (1 : Nat))), some (24, true)⟩,
    ⟨some 26, (.call { callee := (.value (.func (187 : Nat))), args := #[(.tmp (25 : Nat)), (.const (.string ⟨#[47]⟩))], argTypes := #[9, 9] }), some (24, true)⟩,
    ⟨some 27, (.unOp .not 4 (.tmp (26 : Nat))), some (24, true)⟩,
    ⟨some 28, (.pick (.tmp (24 : Nat)) (.tmp (27 : Nat)) (.const (.bool false))), none⟩,
    ⟨some 4, (.assign (.tmp (28 : Nat))), none⟩] false)
  .ret) .skip))))))))
  (.seq (.reg 9 [⟨some 4, (.assign (.const (.bool false))), none⟩] false)
  .ret)))
theorem scNamed.of : Tryz.f140.body.bind IC.of = some scNamed.c := by kernel_rfl
theorem scNamed.ok : Tryz.f140.body.map (okCode Tryz.prog Tryz.f140.ntmps (fun _ _ => false)) = some true := by kernel_rfl
def scRight.R0 : IC :=
  (.seq (.reg 15 [⟨some 61, (.move (.tmp (5 : Nat))), none⟩,
    ⟨some 4, (.assign (.tmp (61 : Nat))), none⟩] false)
  .ret)
def scRight.c : IC :=
  (.seq (.reg 0 [⟨some 2, (.box 169 (.tmp (0 : Nat))), none⟩,
    ⟨some 4, (.assign (.const (.bool false))), none⟩] false)
  (.seq (.reg 1 [⟨some 5, (.assign (.const (.bool false))), none⟩] false)
  (.seq (.seq (.reg 2 [⟨some 7, (.fieldAddr 169 (.tmp (2 : Nat)) 2), none⟩,
    ⟨some 8, (.load 3 (.tmp (7 : Nat))), none⟩] false)
  (.block 0 (.seq (.reg 3 [⟨some 10, (.binOp .eql 3 (.tmp (8 : Nat)) (.const (.int .i64 0)) 3), none⟩,
    ⟨some 9, (.assign (.tmp (10 : Nat))), none⟩] false)
  (.cond (.tmp (9 : Nat)) (.reg 4 [⟨some 12, (.move (.tmp (1 : Nat))), none⟩,
    ⟨some 13, (.call { callee := (.value (.func (63 : Nat))), args := #[(.tmp (12 : Nat))], argTypes := #[9] }), none⟩,
    ⟨some 11, (.move (.tmp (13 : Nat))), none⟩,
    ⟨some 14, (.extract (.tmp (11 : Nat)) 0), none⟩,
    ⟨some 15, (.extract (.tmp (11 : Nat)) 1), none⟩,
    ⟨some 5, (.assign (.tmp (15 : Nat))), none⟩] false) (.seq (.reg 5 [⟨some 17, (.binOp .eql 3 (.tmp (8 : Nat)) (.const (.int .i64 1)) 3), none⟩,
    ⟨some 16, (.assign (.tmp (17 : Nat))), none⟩] false)
  (.cond (.tmp (16 : Nat)) (.reg 6 [⟨some 19, (.move (.tmp (1 : Nat))), none⟩,
    ⟨some 20, (.call { callee := (.value (.func (94 : Nat))), args := #[(.tmp (19 : Nat))], argTypes := #[9] }), none⟩,
    ⟨some 18, (.move (.tmp (20 : Nat))), none⟩,
    ⟨some 21, (.extract (.tmp (18 : Nat)) 0), none⟩,
    ⟨some 22, (.extract (.tmp (18 : Nat)) 1), none⟩,
    ⟨some 23, (.extract (.tmp (18 : Nat)) 2), none⟩,
    ⟨some 5, (.assign (.tmp (23 : Nat))), none⟩] false) (.seq (.reg 7 [⟨some 25, (.binOp .eql 3 (.tmp (8 : Nat)) (.const (.int .i64 2)) 3), none⟩,
    ⟨some 24, (.assign (.tmp (25 : Nat))), none⟩] false)
  (.cond (.tmp (24 : Nat)) (.seq (.reg 8 [⟨some 6, (.assign (.const (.int .i64 0))), none⟩] false)
  (.seq (.reg 9 [⟨some 27, (.move (.tmp (1 : Nat))), none⟩,
    ⟨some 28, (.call { callee := (.value (.func (93 : Nat))), args := #[(.tmp (27 : Nat))], argTypes := #[9] }), none⟩,
    ⟨some 26, (.move (.tmp (28 : Nat))), none⟩,
    ⟨some 29, (.extract (.tmp (26 : Nat)) 0), none⟩,
    ⟨some 30, (.extract (.tmp (26 : Nat)) 1), none⟩,
    ⟨some 6, (.assign (.tmp (29 : Nat))), none⟩,
    ⟨some 5, (.assign (.tmp (30 : Nat))), none⟩] false)
  (.reg 10 [⟨some 31, (.move (.tmp (5 : Nat))), none⟩,
    ⟨some 32, (.move (.tmp (31 : Nat))), none⟩,
    ⟨some 33, (.move (.tmp (6 : Nat))), some (32, true)⟩,
    ⟨some 34, (.fieldAddr 169 (.tmp (2 : Nat)) 3), some (32, true)⟩,
    ⟨some 35, (.load 3 (.tmp (34 : Nat))), some (32, true)⟩,
    ⟨some 36, (.binOp .geq 3 (.tmp (33 : Nat)) (.tmp (35 : Nat)) 3), some (32, true)⟩,
    ⟨some 37, (.pick (.tmp (32 : Nat)) (.tmp (36 : Nat)) (.const (.bool false))), none⟩,
    ⟨some 38, (.move (.tmp (37 : Nat))), none⟩,
    ⟨some 39, (.move (.tmp (6 : Nat))), some (38, true)⟩,
    ⟨some 40, (.fieldAddr 169 (.tmp (2 : Nat)) 4), some (38, true)⟩,
    ⟨some 41, (.load 3 (.tmp (40 : Nat))), some (38, true)⟩,
    ⟨some 42, (.binOp .leq 3 (.tmp (39 : Nat)) (.tmp (41 : Nat)) 3), some (38, true)⟩,
    ⟨some 43, (.pick (.tmp (38 : Nat)) (.tmp (42 : Nat)) (.const (.bool false))), none⟩,
    ⟨some 5, (.assign (.tmp (43 : Nat))), none⟩] false))) (.seq (.reg 11 [⟨some 45, (.binOp .eql 3 (.tmp (8 : Nat)) (.const (.int .i64 3)) 3), none⟩,
    ⟨some 44, (.assign (.tmp (45 : Nat))), none⟩] false)
  (.cond (.tmp (44 : Nat)) (.reg 12 [⟨some 46, (.fieldAddr 169 (.tmp (2 : Nat)) 5), none⟩,
    ⟨some 47, (.load 43 (.tmp (46 : Nat))), none⟩,
    ⟨some 48, (.move (.tmp (1 : Nat))), none⟩,
    ⟨some 49, (.call { callee := (.value (.func (66 : Nat))), args := #[(.tmp (47 : Nat)), (.tmp (48 : Nat))], argTypes := #[43, 9] }), none⟩,
    ⟨some 5, (.assign (.tmp (49 : Nat))), none⟩] false) (.seq (.reg 13 [⟨some 51, (.binOp .eql 3 (.tmp (8 : Nat)) (.const (.int .i64 4)) 3), none⟩,
    ⟨some 50, (.assign (.tmp (51 : Nat))), none⟩] false)
  (.cond (.tmp (50 : Nat)) (.reg 14 [⟨some 52, (.move (.tmp (1 : Nat))), none⟩,
    ⟨some 53, (.call { callee := (.value (.func (186 : Nat))), args := #[(.tmp (52 : Nat))], argTypes := #[9] }), none⟩,
    ⟨some 54, (.move (.tmp (53 : Nat))), none⟩,
    ⟨some 55, (.move (.tmp (1 : Nat))), some (54, true)⟩,
    ⟨some 56, (.call { callee := (.builtin .len), args := #[(.tmp (55 : Nat))], argTypes := #[9] }), some (54, true)⟩,
    ⟨some 57, (.fieldAddr 169 (.tmp (2 : Nat)) 4), some (54, true)⟩,
    ⟨some 58, (.load 3 (.tmp (57 : Nat))), some (54, true)⟩,
    ⟨some 59, (.binOp .leq 3 (.tmp (56 : Nat)) (.tmp (58 : Nat)) 3), some (54, true)⟩,
    ⟨some 60, (.pick (.tmp (54 : Nat)) (.tmp (59 : Nat)) (.const (.bool false))), none⟩,
    ⟨some 5, (.assign (.tmp (60 : Nat))), none⟩] false) .skip))))))))))))
  (cutIC scRight.R0))))
theorem scRight.of : Tryz.f141.body.bind IC.of = some scRight.c := by kernel_rfl
theorem scRight.ok : Tryz.f141.body.map (okCode Tryz.prog Tryz.f141.ntmps (fun _ _ => false)) = some true := by kernel_rfl
variable {W0 : World}
theorem eq48' (b : UInt8) : ((b.toNat : Int) = 48) = (b = 48) := by
  apply propext
  constructor
  · intro h; apply UInt8.toNat_inj.1; show b.toNat = 48; omega
  · intro h; subst h; rfl
theorem dropWhile_nil {p : UInt8 → Bool} : ∀ {l : Text}, l.dropWhile p = [] ↔ l.all p = true
  | [] => by simp
  | a :: l => by
    rw [List.dropWhile_cons]
    cases h : p a with
    | true => simp [h, dropWhile_nil (p := p) (l := l)]
    | false => simp [h]
theorem trim_nil (l : Text) : trimDig l = [] ↔ l.all digB = true := by
  unfold trimDig
  rw [List.reverse_eq_nil_iff, dropWhile_nil]
  constructor
  · intro h
    cases hd : l.dropWhile digB with
    | nil => exact dropWhile_nil.1 hd
    | cons a t =>
      have ha : digB a = false := by
        have := List.head_dropWhile_not (p := digB) (l := l) (by rw [hd]; simp)
        simpa [hd] using this
      rw [hd] at h
      have := List.all_eq_true.1 h a (by simp)
      rw [ha] at this; cases this
  · intro h
    rw [dropWhile_nil.2 h]; rfl
theorem w_scDecimal (h1 : PureF Tryz.prog W0 123 sTrim) (h2 : PureF Tryz.prog W0 124 sAtoi) : PureF Tryz.prog W0 93 sDec := by
  refine PureF.of (rs := [(.tmp 2), (.tmp 3)]) (fun _ _ => false) (Φ := [(123, sTrim), (124, sAtoi)]) ⟨h1, h2, trivial⟩ T.mixed Tryz.func93 scDecimal.of rfl scDecimal.ok rfl ?_
  intro args H v hs
  unfold sDec at hs
  split at hs
  · rename_i l
    split at hs <;> cases hs
    rename_i hl
    refine ⟨by simp [Tryz.f93], ?_⟩
    unfold scDecimal.c
    by_cases hn : l = []
    · subst hn
      have hd : decB [] = none := rfl
      simp (implicitDefEqProofs := false) (contextual := true) only [go_sem, reduceIte, Nat.reduceEqDiff, Nat.reduceAdd, Nat.reduceSub, Nat.reduceMul, Nat.reduceLeDiff, Int.reduceLT, Int.reduceLE, Int.reduceEq, Int.reduceAdd, Int.reduceSub, Int.reduceMul, Int.reduceNeg, Int.reduceToNat, reduceCtorEq, Nat.reduceBEq, Nat.reduceLT, hd, Option.isSome_none]
    · obtain ⟨a, ha⟩ : ∃ a, l[0]? = some a := ⟨_, List.getElem?_eq_getElem (by have := List.length_pos_iff.2 hn; omega)⟩
      have hh : l.head? = some a := by rw [List.head?_eq_getElem?]; exact ha
      by_cases p2 : (9 : Int) < (l.length : Int)
      · have hd : decB l = none := by
          unfold decB; rw [if_neg]; intro h; have := h.1.2.1; omega
        simp (implicitDefEqProofs := false) (contextual := true) only [go_sem, reduceIte, Nat.reduceEqDiff, Nat.reduceAdd, Nat.reduceSub, Nat.reduceMul, Nat.reduceLeDiff, Int.reduceLT, Int.reduceLE, Int.reduceEq, Int.reduceAdd, Int.reduceSub, Int.reduceMul, Int.reduceNeg, Int.reduceToNat, reduceCtorEq, Nat.reduceBEq, Nat.reduceLT, hn, p2, hd, Option.isSome_none]
      · have hlen : l.length ≤ 9 := by omega
        by_cases p3 : trimDig l = []
        · have hall := (trim_nil l).1 p3
          by_cases p4 : a = 48
          · by_cases p5 : l = [48]
            · have hd : decB l = some (valB l) := by subst p5; rfl
              simp (implicitDefEqProofs := false) (contextual := true) only [go_sem, reduceIte, Nat.reduceEqDiff, Nat.reduceAdd, Nat.reduceSub, Nat.reduceMul, Nat.reduceLeDiff, Int.reduceLT, Int.reduceLE, Int.reduceEq, Int.reduceAdd, Int.reduceSub, Int.reduceMul, Int.reduceNeg, Int.reduceToNat, reduceCtorEq, Nat.reduceBEq, Nat.reduceLT, hn, p2, p3, hl, eq48', p4, ha, hd, Option.isSome_some, hlen, hall, p5]
              exact ⟨by decide, fun _ => ⟨by decide, rfl⟩, fun h => absurd (by decide) h⟩
            · have hd : decB l = none := by
                unfold decB; rw [if_neg]
                intro h
                have := h.2 (by rw [hh, p4])
                apply p5
                match l, this, ha with
                | [x], _, ha => simp at ha; rw [ha, p4]
              simp (implicitDefEqProofs := false) (contextual := true) only [go_sem, reduceIte, Nat.reduceEqDiff, Nat.reduceAdd, Nat.reduceSub, Nat.reduceMul, Nat.reduceLeDiff, Int.reduceLT, Int.reduceLE, Int.reduceEq, Int.reduceAdd, Int.reduceSub, Int.reduceMul, Int.reduceNeg, Int.reduceToNat, reduceCtorEq, Nat.reduceBEq, Nat.reduceLT, hn, p2, p3, hl, eq48', p4, p5, ha, hd, Option.isSome_none]
          · have hd : decB l = some (valB l) := by
              unfold decB; rw [if_pos]
              exact ⟨⟨hn, hlen, hall⟩, fun h => by rw [hh] at h; cases h; exact absurd rfl p4⟩
            simp (implicitDefEqProofs := false) (contextual := true) only [go_sem, reduceIte, Nat.reduceEqDiff, Nat.reduceAdd, Nat.reduceSub, Nat.reduceMul, Nat.reduceLeDiff, Int.reduceLT, Int.reduceLE, Int.reduceEq, Int.reduceAdd, Int.reduceSub, Int.reduceMul, Int.reduceNeg, Int.reduceToNat, reduceCtorEq, Nat.reduceBEq, Nat.reduceLT, hn, p2, p3, hl, eq48', p4, ha, hd, Option.isSome_some, hlen, hall]
        · have hd : decB l = none := by
            unfold decB; rw [if_neg]
            intro h; exact p3 ((trim_nil _).2 h.1.2.2)
          simp (implicitDefEqProofs := false) (contextual := true) only [go_sem, reduceIte, Nat.reduceEqDiff, Nat.reduceAdd, Nat.reduceSub, Nat.reduceMul, Nat.reduceLeDiff, Int.reduceLT, Int.reduceLE, Int.reduceEq, Int.reduceAdd, Int.reduceSub, Int.reduceMul, Int.reduceNeg, Int.reduceToNat, reduceCtorEq, Nat.reduceBEq, Nat.reduceLT, hn, p2, p3, hl, hd, Option.isSome_none]
  · cases hs

theorem any_ne (n : Text) : (n.any fun b => decide (b = 47)) = !(n.all fun b => decide (b ≠ 47)) := by
  induction n with
  | nil => rfl
  | cons a n ih => simp [ih]
theorem w_scNamed (h1 : PureF Tryz.prog W0 63 sAddr) (h2 : PureF Tryz.prog W0 186 (sTextBool isWordB)) (h3 : PureF Tryz.prog W0 187 sContains) : PureF Tryz.prog W0 140 sNamed := by
  refine PureF.of (rs := [(.tmp 4)]) (fun _ _ => false) (Φ := [(63, sAddr), (186, sTextBool isWordB), (187, sContains)]) ⟨h1, h2, h3, trivial⟩ T.mixed Tryz.func140 scNamed.of rfl scNamed.ok rfl ?_
  intro args H v hs
  unfold sNamed at hs
  split at hs
  · rename_i h n
    split at hs <;> cases hs
    rename_i hl
    refine ⟨by simp [Tryz.f140], ?_⟩
    unfold scNamed.c
    by_cases e0 : h = 0
    · subst e0; simp (implicitDefEqProofs := false) (contextual := true) only [go_sem, reduceIte, Nat.reduceEqDiff, Nat.reduceAdd, Nat.reduceSub, Nat.reduceMul, Nat.reduceLeDiff, Int.reduceLT, Int.reduceLE, Int.reduceEq, Int.reduceAdd, Int.reduceSub, Int.reduceMul, Int.reduceNeg, Int.reduceToNat, reduceCtorEq, Nat.reduceBEq, Nat.reduceLT, namedB]
    · by_cases e1 : h = 1
      · subst e1; simp (implicitDefEqProofs := false) (contextual := true) only [go_sem, reduceIte, Nat.reduceEqDiff, Nat.reduceAdd, Nat.reduceSub, Nat.reduceMul, Nat.reduceLeDiff, Int.reduceLT, Int.reduceLE, Int.reduceEq, Int.reduceAdd, Int.reduceSub, Int.reduceMul, Int.reduceNeg, Int.reduceToNat, reduceCtorEq, Nat.reduceBEq, Nat.reduceLT, namedB, hl]
      · by_cases e2 : h = 2
        · subst e2
          have han := any_ne n
          cases hw : isWordB n with
          | false => simp (implicitDefEqProofs := false) (contextual := true) only [go_sem, reduceIte, Nat.reduceEqDiff, Nat.reduceAdd, Nat.reduceSub, Nat.reduceMul, Nat.reduceLeDiff, Int.reduceLT, Int.reduceLE, Int.reduceEq, Int.reduceAdd, Int.reduceSub, Int.reduceMul, Int.reduceNeg, Int.reduceToNat, reduceCtorEq, Nat.reduceBEq, Nat.reduceLT, namedB, hl, hw]
          | true =>
            cases q : n.all (fun b => decide (b ≠ 47)) with
            | true =>
              rw [q] at han
              rw [show namedB 2 n = true by simp only [namedB, hw, q]; rfl]
              simp (implicitDefEqProofs := false) (contextual := true) only [go_sem, reduceIte, Nat.reduceEqDiff, Nat.reduceAdd, Nat.reduceSub, Nat.reduceMul, Nat.reduceLeDiff, Int.reduceLT, Int.reduceLE, Int.reduceEq, Int.reduceAdd, Int.reduceSub, Int.reduceMul, Int.reduceNeg, Int.reduceToNat, reduceCtorEq, Nat.reduceBEq, Nat.reduceLT, hl, hw, han]
            | false =>
              rw [q] at han
              rw [show namedB 2 n = false by simp only [namedB, hw, q]; rfl]
              simp (implicitDefEqProofs := false) (contextual := true) only [go_sem, reduceIte, Nat.reduceEqDiff, Nat.reduceAdd, Nat.reduceSub, Nat.reduceMul, Nat.reduceLeDiff, Int.reduceLT, Int.reduceLE, Int.reduceEq, Int.reduceAdd, Int.reduceSub, Int.reduceMul, Int.reduceNeg, Int.reduceToNat, reduceCtorEq, Nat.reduceBEq, Nat.reduceLT, hl, hw, han]
        · simp (implicitDefEqProofs := false) (contextual := true) only [go_sem, reduceIte, Nat.reduceEqDiff, Nat.reduceAdd, Nat.reduceSub, Nat.reduceMul, Nat.reduceLeDiff, Int.reduceLT, Int.reduceLE, Int.reduceEq, Int.reduceAdd, Int.reduceSub, Int.reduceMul, Int.reduceNeg, Int.reduceToNat, reduceCtorEq, Nat.reduceBEq, Nat.reduceLT, namedB, e0, e1, e2]
  · cases hs
theorem w_scRight (h1 : PureF Tryz.prog W0 63 sAddr) (h2 : PureF Tryz.prog W0 94 sNet) (h3 : PureF Tryz.prog W0 93 sDec) (h4 : PureF Tryz.prog W0 186 (sTextBool isWordB)) (h5 : PureF Tryz.prog W0 66 sHas) : PureF Tryz.prog W0 141 sRight := by
  refine PureF.of (rs := [(.tmp 4)]) (fun _ _ => false) (Φ := [(63, sAddr), (94, sNet), (93, sDec), (186, sTextBool isWordB), (66, sHas)]) ⟨h1, h2, h3, h4, h5, trivial⟩ T.mixed Tryz.func141 scRight.of rfl scRight.ok rfl ?_
  intro args H v hs
  unfold sRight at hs
  split at hs
  · rename_i h n k lo hi cs d c v
    split at hs
    · rename_i hl
      obtain ⟨hl, hcl⟩ := hl
      simp only [Option.map_eq_some_iff] at hs
      obtain ⟨ts, hts, rfl⟩ := hs
      have hcs := textsOf_some hts
      subst hcs
      rw [List.length_map] at hcl
      refine ⟨by simp [Tryz.f141], ?_⟩
      unfold scRight.c
      by_cases e0 : k = 0
      · subst e0
        simp (implicitDefEqProofs := false) (contextual := true) only [go_sem, reduceIte, Nat.reduceEqDiff, Nat.reduceAdd, Nat.reduceSub, Nat.reduceMul, Nat.reduceLeDiff, Int.reduceLT, Int.reduceLE, Int.reduceEq, Int.reduceAdd, Int.reduceSub, Int.reduceMul, Int.reduceNeg, Int.reduceToNat, reduceCtorEq, Nat.reduceBEq, Nat.reduceLT, rightB, hl]
        intro id hid
        rw [wpO_eq]; unfold scRight.R0
        simp (implicitDefEqProofs := false) only [go_sem, reduceIte, Nat.reduceEqDiff, Nat.reduceAdd, Nat.reduceSub, Nat.reduceMul, Nat.reduceLeDiff, Int.reduceLT, Int.reduceLE, Int.reduceEq, Int.reduceAdd, Int.reduceSub, Int.reduceMul, Int.reduceNeg, Int.reduceToNat, reduceCtorEq, Nat.reduceBEq, Nat.reduceLT, Keeps_set, hid, rightB, hl]
      · by_cases e1 : k = 1
        · subst e1
          simp (implicitDefEqProofs := false) (contextual := true) only [go_sem, reduceIte, Nat.reduceEqDiff, Nat.reduceAdd, Nat.reduceSub, Nat.reduceMul, Nat.reduceLeDiff, Int.reduceLT, Int.reduceLE, Int.reduceEq, Int.reduceAdd, Int.reduceSub, Int.reduceMul, Int.reduceNeg, Int.reduceToNat, reduceCtorEq, Nat.reduceBEq, Nat.reduceLT, rightB, hl]
          intro id hid
          rw [wpO_eq]; unfold scRight.R0
          simp (implicitDefEqProofs := false) only [go_sem, reduceIte, Nat.reduceEqDiff, Nat.reduceAdd, Nat.reduceSub, Nat.reduceMul, Nat.reduceLeDiff, Int.reduceLT, Int.reduceLE, Int.reduceEq, Int.reduceAdd, Int.reduceSub, Int.reduceMul, Int.reduceNeg, Int.reduceToNat, reduceCtorEq, Nat.reduceBEq, Nat.reduceLT, Keeps_set, hid, rightB, hl]
        · by_cases e2 : k = 2
          · subst e2
            cases hd : decB v with
            | none =>
              simp (implicitDefEqProofs := false) (contextual := true) only [go_sem, reduceIte, Nat.reduceEqDiff, Nat.reduceAdd, Nat.reduceSub, Nat.reduceMul, Nat.reduceLeDiff, Int.reduceLT, Int.reduceLE, Int.reduceEq, Int.reduceAdd, Int.reduceSub, Int.reduceMul, Int.reduceNeg, Int.reduceToNat, reduceCtorEq, Nat.reduceBEq, Nat.reduceLT, rightB, hl, hd, Option.isSome_none]
              intro id hid
              rw [wpO_eq]; unfold scRight.R0
              simp (implicitDefEqProofs := false) only [go_sem, reduceIte, Nat.reduceEqDiff, Nat.reduceAdd, Nat.reduceSub, Nat.reduceMul, Nat.reduceLeDiff, Int.reduceLT, Int.reduceLE, Int.reduceEq, Int.reduceAdd, Int.reduceSub, Int.reduceMul, Int.reduceNeg, Int.reduceToNat, reduceCtorEq, Nat.reduceBEq, Nat.reduceLT, Keeps_set, hid, rightB, hl, hd, Option.isSome_none]
            | some m =>
              by_cases q1 : lo ≤ (m : Int)
              · by_cases q2 : (m : Int) ≤ hi
                · simp (implicitDefEqProofs := false) (contextual := true) only [go_sem, reduceIte, Nat.reduceEqDiff, Nat.reduceAdd, Nat.reduceSub, Nat.reduceMul, Nat.reduceLeDiff, Int.reduceLT, Int.reduceLE, Int.reduceEq, Int.reduceAdd, Int.reduceSub, Int.reduceMul, Int.reduceNeg, Int.reduceToNat, reduceCtorEq, Nat.reduceBEq, Nat.reduceLT, rightB, hl, hd, Option.isSome_some, q1, q2]
                  intro id hid
                  rw [wpO_eq]; unfold scRight.R0
                  simp (implicitDefEqProofs := false) only [go_sem, reduceIte, Nat.reduceEqDiff, Nat.reduceAdd, Nat.reduceSub, Nat.reduceMul, Nat.reduceLeDiff, Int.reduceLT, Int.reduceLE, Int.reduceEq, Int.reduceAdd, Int.reduceSub, Int.reduceMul, Int.reduceNeg, Int.reduceToNat, reduceCtorEq, Nat.reduceBEq, Nat.reduceLT, Keeps_set, hid, rightB, hl, hd, Option.isSome_some, q1, q2]
                · simp (implicitDefEqProofs := false) (contextual := true) only [go_sem, reduceIte, Nat.reduceEqDiff, Nat.reduceAdd, Nat.reduceSub, Nat.reduceMul, Nat.reduceLeDiff, Int.reduceLT, Int.reduceLE, Int.reduceEq, Int.reduceAdd, Int.reduceSub, Int.reduceMul, Int.reduceNeg, Int.reduceToNat, reduceCtorEq, Nat.reduceBEq, Nat.reduceLT, rightB, hl, hd, Option.isSome_some, q1, q2]
                  intro id hid
                  rw [wpO_eq]; unfold scRight.R0
                  simp (implicitDefEqProofs := false) only [go_sem, reduceIte, Nat.reduceEqDiff, Nat.reduceAdd, Nat.reduceSub, Nat.reduceMul, Nat.reduceLeDiff, Int.reduceLT, Int.reduceLE, Int.reduceEq, Int.reduceAdd, Int.reduceSub, Int.reduceMul, Int.reduceNeg, Int.reduceToNat, reduceCtorEq, Nat.reduceBEq, Nat.reduceLT, Keeps_set, hid, rightB, hl, hd, Option.isSome_some, q1, q2]
              · simp (implicitDefEqProofs := false) (contextual := true) only [go_sem, reduceIte, Nat.reduceEqDiff, Nat.reduceAdd, Nat.reduceSub, Nat.reduceMul, Nat.reduceLeDiff, Int.reduceLT, Int.reduceLE, Int.reduceEq, Int.reduceAdd, Int.reduceSub, Int.reduceMul, Int.reduceNeg, Int.reduceToNat, reduceCtorEq, Nat.reduceBEq, Nat.reduceLT, rightB, hl, hd, Option.isSome_some, q1]
                intro id hid
                rw [wpO_eq]; unfold scRight.R0
                simp (implicitDefEqProofs := false) only [go_sem, reduceIte, Nat.reduceEqDiff, Nat.reduceAdd, Nat.reduceSub, Nat.reduceMul, Nat.reduceLeDiff, Int.reduceLT, Int.reduceLE, Int.reduceEq, Int.reduceAdd, Int.reduceSub, Int.reduceMul, Int.reduceNeg, Int.reduceToNat, reduceCtorEq, Nat.reduceBEq, Nat.reduceLT, Keeps_set, hid, rightB, hl, hd, Option.isSome_some, q1]
          · by_cases e3 : k = 3
            · subst e3
              simp (implicitDefEqProofs := false) (contextual := true) only [go_sem, reduceIte, Nat.reduceEqDiff, Nat.reduceAdd, Nat.reduceSub, Nat.reduceMul, Nat.reduceLeDiff, Int.reduceLT, Int.reduceLE, Int.reduceEq, Int.reduceAdd, Int.reduceSub, Int.reduceMul, Int.reduceNeg, Int.reduceToNat, reduceCtorEq, Nat.reduceBEq, Nat.reduceLT, rightB, hcl]
              intro id hid
              rw [wpO_eq]; unfold scRight.R0
              simp (implicitDefEqProofs := false) only [go_sem, reduceIte, Nat.reduceEqDiff, Nat.reduceAdd, Nat.reduceSub, Nat.reduceMul, Nat.reduceLeDiff, Int.reduceLT, Int.reduceLE, Int.reduceEq, Int.reduceAdd, Int.reduceSub, Int.reduceMul, Int.reduceNeg, Int.reduceToNat, reduceCtorEq, Nat.reduceBEq, Nat.reduceLT, Keeps_set, hid, rightB, hcl]
            · by_cases e4 : k = 4
              · subst e4
                cases hw : isWordB v with
                | false =>
                  simp (implicitDefEqProofs := false) (contextual := true) only [go_sem, reduceIte, Nat.reduceEqDiff, Nat.reduceAdd, Nat.reduceSub, Nat.reduceMul, Nat.reduceLeDiff, Int.reduceLT, Int.reduceLE, Int.reduceEq, Int.reduceAdd, Int.reduceSub, Int.reduceMul, Int.reduceNeg, Int.reduceToNat, reduceCtorEq, Nat.reduceBEq, Nat.reduceLT, rightB, hw]
                  intro id hid
                  rw [wpO_eq]; unfold scRight.R0
                  simp (implicitDefEqProofs := false) only [go_sem, reduceIte, Nat.reduceEqDiff, Nat.reduceAdd, Nat.reduceSub, Nat.reduceMul, Nat.reduceLeDiff, Int.reduceLT, Int.reduceLE, Int.reduceEq, Int.reduceAdd, Int.reduceSub, Int.reduceMul, Int.reduceNeg, Int.reduceToNat, reduceCtorEq, Nat.reduceBEq, Nat.reduceLT, Keeps_set, hid, rightB, hw]
                | true =>
                  simp (implicitDefEqProofs := false) (contextual := true) only [go_sem, reduceIte, Nat.reduceEqDiff, Nat.reduceAdd, Nat.reduceSub, Nat.reduceMul, Nat.reduceLeDiff, Int.reduceLT, Int.reduceLE, Int.reduceEq, Int.reduceAdd, Int.reduceSub, Int.reduceMul, Int.reduceNeg, Int.reduceToNat, reduceCtorEq, Nat.reduceBEq, Nat.reduceLT, rightB, hw]
                  intro id hid
                  rw [wpO_eq]; unfold scRight.R0
                  simp (implicitDefEqProofs := false) only [go_sem, reduceIte, Nat.reduceEqDiff, Nat.reduceAdd, Nat.reduceSub, Nat.reduceMul, Nat.reduceLeDiff, Int.reduceLT, Int.reduceLE, Int.reduceEq, Int.reduceAdd, Int.reduceSub, Int.reduceMul, Int.reduceNeg, Int.reduceToNat, reduceCtorEq, Nat.reduceBEq, Nat.reduceLT, Keeps_set, hid, rightB, hw]
              · simp (implicitDefEqProofs := false) (contextual := true) only [go_sem, reduceIte, Nat.reduceEqDiff, Nat.reduceAdd, Nat.reduceSub, Nat.reduceMul, Nat.reduceLeDiff, Int.reduceLT, Int.reduceLE, Int.reduceEq, Int.reduceAdd, Int.reduceSub, Int.reduceMul, Int.reduceNeg, Int.reduceToNat, reduceCtorEq, Nat.reduceBEq, Nat.reduceLT, rightB, e0, e1, e2, e3, e4]
                intro id hid
                rw [wpO_eq]; unfold scRight.R0
                simp (implicitDefEqProofs := false) only [go_sem, reduceIte, Nat.reduceEqDiff, Nat.reduceAdd, Nat.reduceSub, Nat.reduceMul, Nat.reduceLeDiff, Int.reduceLT, Int.reduceLE, Int.reduceEq, Int.reduceAdd, Int.reduceSub, Int.reduceMul, Int.reduceNeg, Int.reduceToNat, reduceCtorEq, Nat.reduceBEq, Nat.reduceLT, Keeps_set, hid, rightB, e0, e1, e2, e3, e4]
    · cases hs
  · cases hs

end Go.Proofs.W

/- A text's words. -/
namespace Go.Proofs.W
open Go Go.IL

/-- Words of a text from a place on: what is told: the words; the place; the error. -/
def wordsP : Nat → Nat → Text → List Text → List Text × Nat × Int
  | 0, p, _, out => (out, p, 0)
  | _ + 1, p, [], out => (out, p, 0)
  | n + 1, p, c :: l, out =>
    if c = 32 ∨ c = 9 ∨ c = 10 then wordsP n (p + 1) l out
    else if c = 35 then wordsP n (p + ((c :: l).takeWhile fun b => decide (b ≠ 10)).length) ((c :: l).dropWhile fun b => decide (b ≠ 10)) out
    else if c = 123 ∨ c = 125 ∨ c = 59 then wordsP n (p + 1) l (out ++ [[c]])
    else if insideB c = true then
      if 31 < ((c :: l).takeWhile insideB).length then ([], p, 3)
      else wordsP n (p + ((c :: l).takeWhile insideB).length) ((c :: l).dropWhile insideB) (out ++ [(c :: l).takeWhile insideB])
    else ([], p, 3)
def wordsB (l : Text) : List Text × Nat × Int := wordsP (l.length + 1) 0 l []
def sWords : Sem1 := fun args _ => match args with
  | [.str l] => if l.length ≤ big then some (.tup [.sl ((wordsB l).1.map .str), .val (.int .i64 (wordsB l).2.1), .val (.int .i64 (wordsB l).2.2)]) else none
  | _ => none
@[go_sem] theorem sWords_eq (l : Text) (H : Heap) : sWords [.str l] H = if l.length ≤ big then some (.tup [.sl ((wordsB l).1.map .str), .val (.int .i64 (wordsB l).2.1), .val (.int .i64 (wordsB l).2.2)]) else none := rfl
end Go.Proofs.W

/- A text that is one word. -/
namespace Go.Proofs.W
open Go Go.IL

theorem wordsP_out : ∀ (n p : Nat) (l : Text) (out : List Text), (wordsP n p l out).2.2 = 0 → ∃ ex, (wordsP n p l out).1 = out ++ ex ∧ ∀ w ∈ ex, w.length ≤ l.length
  | 0, p, l, out, _ => ⟨[], by simp [wordsP], by simp⟩
  | n + 1, p, [], out, _ => ⟨[], by simp [wordsP], by simp⟩
  | n + 1, p, c :: l, out, h => by
    unfold wordsP at h ⊢
    by_cases h1 : c = 32 ∨ c = 9 ∨ c = 10
    · rw [if_pos h1] at h ⊢
      obtain ⟨ex, e1, e2⟩ := wordsP_out n _ l out h
      exact ⟨ex, e1, fun w hw => Nat.le_succ_of_le (e2 w hw)⟩
    · rw [if_neg h1] at h ⊢
      by_cases h2 : c = 35
      · rw [if_pos h2] at h ⊢
        obtain ⟨ex, e1, e2⟩ := wordsP_out n _ _ out h
        exact ⟨ex, e1, fun w hw => Nat.le_trans (e2 w hw) (List.dropWhile_sublist _).length_le⟩
      · rw [if_neg h2] at h ⊢
        by_cases h3 : c = 123 ∨ c = 125 ∨ c = 59
        · rw [if_pos h3] at h ⊢
          obtain ⟨ex, e1, e2⟩ := wordsP_out n _ l _ h
          refine ⟨[c] :: ex, by rw [e1]; simp, fun w hw => ?_⟩
          rcases List.mem_cons.1 hw with hw | hw
          · subst hw; simp
          · exact Nat.le_succ_of_le (e2 w hw)
        · rw [if_neg h3] at h ⊢
          by_cases h4 : insideB c = true
          · rw [if_pos h4] at h ⊢
            by_cases h5 : 31 < ((c :: l).takeWhile insideB).length
            · rw [if_pos h5] at h; simp at h
            · rw [if_neg h5] at h ⊢
              obtain ⟨ex, e1, e2⟩ := wordsP_out n _ _ _ h
              refine ⟨_ :: ex, by rw [e1, List.append_assoc]; rfl, fun w hw => ?_⟩
              rcases List.mem_cons.1 hw with hw | hw
              · subst hw; exact (List.takeWhile_sublist _).length_le
              · exact Nat.le_trans (e2 w hw) (List.dropWhile_sublist _).length_le
          · rw [if_neg h4] at h; simp at h
theorem takeWhile_all {p : UInt8 → Bool} {l : Text} (h : l.all p = true) : l.takeWhile p = l ∧ l.dropWhile p = [] := by
  induction l with
  | nil => exact ⟨rfl, rfl⟩
  | cons a l ih =>
    simp only [List.all_cons, Bool.and_eq_true] at h
    simp [h.1, ih h.2]
theorem inside_not (c : UInt8) (h : insideB c = true) : ¬ (c = 32 ∨ c = 9 ∨ c = 10) ∧ ¬ c = 35 ∧ ¬ (c = 123 ∨ c = 125 ∨ c = 59) := by
  refine ⟨?_, ?_, ?_⟩
  · rintro (rfl | rfl | rfl) <;> revert h <;> decide
  · rintro rfl; revert h; decide
  · rintro (rfl | rfl | rfl) <;> revert h <;> decide
theorem word_words (s : Text) (h : isWordB s = true) : wordsB s = ([s], s.length, 0) := by
  simp only [isWordB, Bool.and_eq_true, decide_eq_true_eq] at h
  obtain ⟨⟨h1, h2⟩, h3⟩ := h
  cases s with
  | nil => exact absurd rfl h1
  | cons c l =>
    have hc : insideB c = true := by simp only [List.all_cons, Bool.and_eq_true] at h3; exact h3.1
    obtain ⟨n1, n2, n3⟩ := inside_not c hc
    obtain ⟨t1, t2⟩ := takeWhile_all h3
    unfold wordsB
    simp only [List.length_cons] at h2 ⊢
    rw [wordsP, if_neg n1, if_neg n2, if_neg n3, if_pos hc, t1, t2, if_neg (by simp; omega)]
    simp [wordsP]
theorem words_word (s : Text) (h0 : (wordsB s).2.2 = 0) (h1 : (wordsB s).1 = [s]) (h2 : s ≠ [123]) (h3 : s ≠ [125]) (h4 : s ≠ [59]) : isWordB s = true := by
  cases s with
  | nil => simp [wordsB, wordsP] at h1
  | cons c l =>
    unfold wordsB at h0 h1
    rw [wordsP] at h0 h1
    have short : ∀ (n p : Nat) (m : Text) (out : List Text), m.length ≤ l.length → (wordsP n p m out).2.2 = 0 → (wordsP n p m out).1 = [c :: l] → out ≠ [] ∧ out.head? = some (c :: l) := by
      intro n p m out hm e0 e1
      obtain ⟨ex, e2, e3⟩ := wordsP_out n p m out e0
      rw [e1] at e2
      cases out with
      | nil =>
        simp at e2
        have := e3 (c :: l) (by rw [← e2]; simp)
        simp at this; omega
      | cons w ws => simp at e2; simp [e2.1]
    by_cases n1 : c = 32 ∨ c = 9 ∨ c = 10
    · rw [if_pos n1] at h0 h1
      exact absurd rfl (short _ _ _ _ (Nat.le_refl _) h0 h1).1
    · rw [if_neg n1] at h0 h1
      by_cases n2 : c = 35
      · rw [if_pos n2] at h0 h1
        have hd : ((c :: l).dropWhile fun b => decide (b ≠ 10)).length ≤ l.length := by
          rw [List.dropWhile_cons, n2]; simp; exact (List.dropWhile_sublist _).length_le
        exact absurd rfl (short _ _ _ _ hd h0 h1).1
      · rw [if_neg n2] at h0 h1
        by_cases n3 : c = 123 ∨ c = 125 ∨ c = 59
        · rw [if_pos n3] at h0 h1
          have := (short _ _ _ _ (Nat.le_refl _) h0 h1).2
          simp at this
          subst this
          rcases n3 with rfl | rfl | rfl <;> simp at h2 h3 h4
        · rw [if_neg n3] at h0 h1
          by_cases n4 : insideB c = true
          · rw [if_pos n4] at h0 h1
            by_cases n5 : 31 < ((c :: l).takeWhile insideB).length
            · rw [if_pos n5] at h0; simp at h0
            · rw [if_neg n5] at h0 h1
              have hd : ((c :: l).dropWhile insideB).length ≤ l.length := by
                rw [List.dropWhile_cons, n4]; simp; exact (List.dropWhile_sublist _).length_le
              have ht := (short _ _ _ _ hd h0 h1).2
              simp only [List.nil_append, List.head?_cons, Option.some.injEq] at ht
              have hall : (c :: l).all insideB = true := by
                rw [← ht]; exact List.all_takeWhile
              rw [ht] at n5
              simp only [isWordB, hall, Bool.and_true, Bool.and_eq_true, decide_eq_true_eq]
              exact ⟨by simp, by omega⟩
          · rw [if_neg n4] at h0; simp at h0
end Go.Proofs.W

/- What changes between configurations; names; values: plain functions. -/
namespace Go.Proofs.W
open Go Go.IL

/-- Neighbors that are the same: one stays. -/
def compactL {α : Type} [DecidableEq α] : List α → List α
  | [] => []
  | [a] => [a]
  | a :: b :: l => if a = b then compactL (b :: l) else a :: compactL (b :: l)
theorem compact_ne {α : Type} [DecidableEq α] (a : α) : ∀ l : List α, compactL (a :: l) ≠ []
  | [] => by simp [compactL]
  | b :: l => by
    unfold compactL
    split
    · exact compact_ne b l
    · simp
theorem compact_snoc {α : Type} [DecidableEq α] (a b : α) : ∀ m : List α, compactL (m ++ [b, a]) = if b = a then compactL (m ++ [b]) else compactL (m ++ [b]) ++ [a]
  | [] => by
    simp only [List.nil_append, compactL]
    split
    · rename_i h; rw [h]
    · rfl
  | [c] => by
    have := compact_snoc a b []
    simp only [List.nil_append] at this
    simp only [List.cons_append, List.nil_append]
    rw [compactL.eq_def (c :: b :: [a]), compactL.eq_def (c :: b :: [])]
    simp only
    rw [this]
    split <;> split <;> simp_all
  | c :: d :: m => by
    have := compact_snoc a b (d :: m)
    simp only [List.cons_append] at this ⊢
    rw [compactL.eq_def (c :: d :: (m ++ [b, a])), compactL.eq_def (c :: d :: (m ++ [b]))]
    simp only
    rw [this]
    split <;> split <;> simp_all
theorem compact_len {α : Type} [DecidableEq α] : ∀ l : List α, (compactL l).length ≤ l.length
  | [] => by simp [compactL]
  | [a] => by simp [compactL]
  | a :: b :: l => by
    have := compact_len (b :: l)
    unfold compactL
    split <;> simp at this ⊢ <;> omega
theorem compact_take {α : Type} [DecidableEq α] {l : List α} {i : Nat} {b a : α} (hb : l[i]? = some b) (ha : l[i + 1]? = some a) :
    compactL (l.take (i + 2)) = if b = a then compactL (l.take (i + 1)) else compactL (l.take (i + 1)) ++ [a] := by
  rw [show i + 2 = (i + 1) + 1 from rfl, List.take_add_one, ha, List.take_add_one, hb]
  simp only [Option.toList_some, List.append_assoc, List.cons_append, List.nil_append]
  exact compact_snoc a b _

def namesB (c : List Line) (h : Int) : List Text := if rightsB c = true ∧ h ≠ 0 then compactL ((c.filter fun l => decide (l.head = h)).map (·.name)) else []
def sNames : Sem1 := fun args _ => match args with
  | [v, .val (.int .i64 h)] => (confOf v).bind fun c => if confOk c then some (.sl ((namesB c h).map .str)) else none
  | _ => none
@[go_sem] theorem sNames_eq (v : V) (h : Int) (H : Heap) : sNames [v, .val (.int .i64 h)] H = (confOf v).bind fun c => if confOk c then some (.sl ((namesB c h).map .str)) else none := rfl

/-- A line that is another one. -/
structure Change where
  line : Line
  old : Text
  new : Text
  deriving DecidableEq, Inhabited
def keyB (l : Line) : Line := { l with value := [] }
def changeV (c : Change) : V := .agg [.val (.int .i64 c.line.head), .str c.line.name, .str c.line.leaf, .str c.line.value, .str c.old, .str c.new]
def sKey : Sem1 := fun args _ => match args with
  | [.agg [.val (.int .i64 h), .str n, .str f, .str _]] => some (.agg [.val (.int .i64 h), .str n, .str f, .str []])
  | _ => none
@[go_sem] theorem sKey_eq (h : Int) (n f v : Text) (H : Heap) : sKey [.agg [.val (.int .i64 h), .str n, .str f, .str v]] H = some (.agg [.val (.int .i64 h), .str n, .str f, .str []]) := rfl
def diffP : Nat → List Line → List Line → List Change
  | 0, _, _ => []
  | _ + 1, [], [] => []
  | n + 1, x :: a, [] => ⟨keyB x, x.value, []⟩ :: diffP n a []
  | n + 1, [], y :: b => ⟨keyB y, [], y.value⟩ :: diffP n [] b
  | n + 1, x :: a, y :: b =>
    if lessB x y = true then ⟨keyB x, x.value, []⟩ :: diffP n a (y :: b)
    else if lessB y x = true then ⟨keyB y, [], y.value⟩ :: diffP n (x :: a) b
    else if x.value = y.value then diffP n a b else ⟨keyB x, x.value, y.value⟩ :: diffP n a b
def diffB (a b : List Line) : List Change := diffP (a.length + b.length) a b
def sDiff : Sem1 := fun args _ => match args with
  | [x, y] => (confOf x).bind fun a => (confOf y).bind fun b => if confOk a ∧ confOk b then
      some (if rightsB a = true ∧ rightsB b = true then .tup [.sl ((diffB a b).map changeV), .val (.int .i64 0)] else .tup [.sl [], .val (.int .i64 1)]) else none
  | _ => none
@[go_sem] theorem sDiff_eq (x y : V) (H : Heap) : sDiff [x, y] H = (confOf x).bind fun a => (confOf y).bind fun b => if confOk a ∧ confOk b then
      some (if rightsB a = true ∧ rightsB b = true then .tup [.sl ((diffB a b).map changeV), .val (.int .i64 0)] else .tup [.sl [], .val (.int .i64 1)]) else none := rfl

/-- A value: what is set, or the default. -/
def sameKey (h : Int) (n f : Text) (l : Line) : Bool := decide (l.head = h) && (decide (l.name = n) && decide (l.leaf = f))
def valueB (c : List Line) (h : Int) (n f : Text) : Text :=
  if rightsB c = true then (match c.find? (sameKey h n f) with | some l => l.value | none => ((findRow h f).getD row0).dflt) else []
def sValue : Sem1 := fun args _ => match args with
  | [v, .val (.int .i64 h), .str n, .str f] => (confOf v).bind fun c => if confOk c then some (.str (valueB c h n f)) else none
  | _ => none
@[go_sem] theorem sValue_eq (v : V) (h : Int) (n f : Text) (H : Heap) : sValue [v, .val (.int .i64 h), .str n, .str f] H = (confOf v).bind fun c => if confOk c then some (.str (valueB c h n f)) else none := rfl
/-- What is to be done. -/
structure Act where
  kind : Int
  name : Text
  deriving DecidableEq, Inhabited
def actV (a : Act) : V := .agg [.val (.int .i64 a.kind), .str a.name]
theorem act_eq (a b : Act) : (decide (a.kind = b.kind) && decide (a.name = b.name)) = decide (a = b) := by
  cases a; cases b; simp
/-- How many are ahead of a line; is it there? -/
def aheadB (c : List Line) (t : Line) : Nat := (c.takeWhile fun l => lessB l t).length
def thereB (c : List Line) (t : Line) : Bool := match c[aheadB c t]? with | some l => decide (orderB l t = 0) | none => false
end Go.Proofs.W

namespace Go.Proofs.W
set_option linter.unusedSimpArgs false
set_option maxRecDepth 20000
open Go Go.IL Go.Proofs
def slCompactS.R0 : IC :=
  (.reg 10 [⟨some 33, (.move (.tmp (5 : Nat))), none⟩,
    ⟨some 34, (.binOp .add 3 (.tmp (33 : Nat)) (.const (.int .i64 1)) 3), none⟩,
    ⟨some 5, (.assign (.tmp (34 : Nat))), none⟩] false)
def slCompactS.L0 : IC :=
  (.seq (.seq (.reg 9 [⟨some 29, (.move (.tmp (5 : Nat))), none⟩,
    ⟨some 30, (.move (.tmp (4 : Nat))), none⟩,
    ⟨some 31, (.call { callee := (.builtin .len), args := #[(.tmp (30 : Nat))], argTypes := #[43] }), none⟩,
    ⟨some 32, (.binOp .lss 3 (.tmp (29 : Nat)) (.tmp (31 : Nat)) 3), none⟩] false)
  (.cond (.tmp (32 : Nat)) .skip (.exit 2)))
  (.seq (.block 3 (.seq (.reg 11 [⟨some 35, (.move (.tmp (4 : Nat))), none⟩,
    ⟨some 36, (.move (.tmp (5 : Nat))), none⟩,
    ⟨some 37, (.indexAddr 43 (.tmp (35 : Nat)) (.tmp (36 : Nat))), none⟩,
    ⟨some 38, (.load 9 (.tmp (37 : Nat))), none⟩,
    ⟨some 39, (.move (.tmp (4 : Nat))), none⟩,
    ⟨some 40, (.move (.tmp (5 : Nat))), none⟩,
    ⟨some 41, (.binOp .sub 3 (.tmp (40 : Nat)) (.const (.int .i64 1)) 3), none⟩,
    ⟨some 42, (.indexAddr 43 (.tmp (39 : Nat)) (.tmp (41 : Nat))), none⟩,
    ⟨some 43, (.load 9 (.tmp (42 : Nat))), none⟩,
    ⟨some 44, (.binOp .neq 9 (.tmp (38 : Nat)) (.tmp (43 : Nat)) 9), none⟩] true)
  (.cond (.tmp (44 : Nat)) (.seq (.reg 12 [⟨some 45, (.move (.tmp (0 : Nat))), none⟩,
    ⟨some 46, (.move (.tmp (3 : Nat))), none⟩,
    ⟨some 47, (.move (.tmp (4 : Nat))), none⟩,
    ⟨some 48, (.move (.tmp (5 : Nat))), none⟩,
    ⟨some 49, (.indexAddr 43 (.tmp (47 : Nat)) (.tmp (48 : Nat))), none⟩,
    ⟨some 50, (.load 9 (.tmp (49 : Nat))), none⟩,
    ⟨some 51, (.indexAddr 43 (.tmp (45 : Nat)) (.tmp (46 : Nat))), none⟩,
    ⟨none, (.store 9 (.tmp (51 : Nat)) (.tmp (50 : Nat))), none⟩] false)
  (.reg 13 [⟨some 52, (.move (.tmp (3 : Nat))), none⟩,
    ⟨some 53, (.binOp .add 3 (.tmp (52 : Nat)) (.const (.int .i64 1)) 3), none⟩,
    ⟨some 3, (.assign (.tmp (53 : Nat))), none⟩] false)) .skip)))
  (cutIC slCompactS.R0)))
def slCompactS.R1 : IC :=
  (.seq (.reg 14 [⟨some 54, (.move (.tmp (0 : Nat))), none⟩,
    ⟨some 55, (.move (.tmp (3 : Nat))), none⟩,
    ⟨some 56, (.slice 43 (.tmp (54 : Nat)) (some (.tmp (55 : Nat))) none none), none⟩,
    ⟨none, (.call { callee := (.builtin .clear), args := #[(.tmp (56 : Nat))], argTypes := #[43] }), none⟩] false)
  (.seq (.reg 15 [⟨some 57, (.move (.tmp (0 : Nat))), none⟩,
    ⟨some 58, (.move (.tmp (3 : Nat))), none⟩,
    ⟨some 59, (.slice 43 (.tmp (57 : Nat)) none (some (.tmp (58 : Nat))) none), none⟩,
    ⟨some 2, (.assign (.tmp (59 : Nat))), none⟩] false)
  .ret))
def slCompactS.R2 : IC :=
  (.reg 5 [⟨some 14, (.move (.tmp (3 : Nat))), none⟩,
    ⟨some 15, (.binOp .add 3 (.tmp (14 : Nat)) (.const (.int .i64 1)) 3), none⟩,
    ⟨some 3, (.assign (.tmp (15 : Nat))), none⟩] false)
def slCompactS.L1 : IC :=
  (.seq (.seq (.reg 4 [⟨some 10, (.move (.tmp (3 : Nat))), none⟩,
    ⟨some 11, (.move (.tmp (0 : Nat))), none⟩,
    ⟨some 12, (.call { callee := (.builtin .len), args := #[(.tmp (11 : Nat))], argTypes := #[43] }), none⟩,
    ⟨some 13, (.binOp .lss 3 (.tmp (10 : Nat)) (.tmp (12 : Nat)) 3), none⟩] false)
  (.cond (.tmp (13 : Nat)) .skip (.exit 0)))
  (.seq (.block 1 (.seq (.reg 6 [⟨some 16, (.move (.tmp (0 : Nat))), none⟩,
    ⟨some 17, (.move (.tmp (3 : Nat))), none⟩,
    ⟨some 18, (.indexAddr 43 (.tmp (16 : Nat)) (.tmp (17 : Nat))), none⟩,
    ⟨some 19, (.load 9 (.tmp (18 : Nat))), none⟩,
    ⟨some 20, (.move (.tmp (0 : Nat))), none⟩,
    ⟨some 21, (.move (.tmp (3 : Nat))), none⟩,
    ⟨some 22, (.binOp .sub 3 (.tmp (21 : Nat)) (.const (.int .i64 1)) 3), none⟩,
    ⟨some 23, (.indexAddr 43 (.tmp (20 : Nat)) (.tmp (22 : Nat))), none⟩,
    ⟨some 24, (.load 9 (.tmp (23 : Nat))), none⟩,
    ⟨some 25, (.binOp .eql 9 (.tmp (19 : Nat)) (.tmp (24 : Nat)) 9), none⟩] true)
  (.cond (.tmp (25 : Nat)) (.seq (.reg 7 [⟨some 26, (.move (.tmp (0 : Nat))), none⟩,
    ⟨some 27, (.move (.tmp (3 : Nat))), none⟩,
    ⟨some 28, (.slice 43 (.tmp (26 : Nat)) (some (.tmp (27 : Nat))) none none), none⟩,
    ⟨some 4, (.assign (.tmp (28 : Nat))), none⟩] false)
  (.seq (.seq (.reg 8 [⟨some 5, (.assign (.const (.int .i64 1))), none⟩] false)
  (.block 2 (.loop slCompactS.L0)))
  (cutIC slCompactS.R1))) .skip)))
  (cutIC slCompactS.R2)))
def slCompactS.R3 : IC :=
  (.seq (.reg 16 [⟨some 60, (.move (.tmp (0 : Nat))), none⟩,
    ⟨some 2, (.assign (.tmp (60 : Nat))), none⟩] false)
  .ret)
def slCompactS.c : IC :=
  (.seq (.reg 0 [⟨some 2, (.assign (.const (.slice none 0 0))), none⟩] false)
  (.seq (.seq (.reg 1 [⟨some 6, (.move (.tmp (0 : Nat))), none⟩,
    ⟨some 7, (.call { callee := (.builtin .len), args := #[(.tmp (6 : Nat))], argTypes := #[43] }), none⟩,
    ⟨some 8, (.binOp .lss 3 (.tmp (7 : Nat)) (.const (.int .i64 2)) 3), none⟩] false)
  (.cond (.tmp (8 : Nat)) (.seq (.reg 2 [⟨some 9, (.move (.tmp (0 : Nat))), none⟩,
    ⟨some 2, (.assign (.tmp (9 : Nat))), none⟩] false)
  .ret) .skip))
  (.seq (.seq (.reg 3 [⟨some 3, (.assign (.const (.int .i64 1))), none⟩] false)
  (.block 0 (.loop slCompactS.L1)))
  (cutIC slCompactS.R3))))
theorem slCompactS.of : Tryz.f72.body.bind IC.of = some slCompactS.c := by kernel_rfl
theorem slCompactS.ok : Tryz.f72.body.map (okCode Tryz.prog Tryz.f72.ntmps (fun _ _ => false)) = some true := by kernel_rfl
variable {W0 : World}
theorem scrub_take {es off : Nat} (len : Nat) (xs : List V) (h : off ≤ xs.length) : (scrub es off len xs).take off = xs.take off := by
  unfold scrub
  rw [List.append_assoc, List.take_append_of_le_length (by simp; omega), List.take_take, Nat.min_self]
theorem w_compactS_nil {H : Heap} : IT Tryz.prog W0 72 [.nil] H (fun v H' => v = .nil ∧ H' = H) := by
  refine IT.ofS_x (rs := [(.tmp 2)]) (fun _ _ => false) (Φ := []) trivial T.mixed Tryz.func72 slCompactS.of rfl slCompactS.ok rfl (by simp [Tryz.f72]) ?_
  unfold slCompactS.c
  simp (implicitDefEqProofs := false) only [go_sem, reduceIte, Nat.reduceEqDiff, Nat.reduceAdd, Nat.reduceSub, Nat.reduceMul, Nat.reduceLeDiff, Int.reduceLT, Int.reduceLE, Int.reduceEq, Int.reduceAdd, Int.reduceSub, Int.reduceMul, Int.reduceNeg, Int.reduceToNat, reduceCtorEq, Nat.reduceBEq, Nat.reduceLT]
theorem w_compactS {l : List Text} {id : Nat} {H : Heap} (hl : l.length ≤ big) (hH : H id = .mem 1 (l.map .str)) :
    IT Tryz.prog W0 72 [.ar id 1 0 l.length] H (fun v H' => ∃ xs, v = .ar id 1 0 (compactL l).length ∧ H' = H.set id (.mem 1 xs) ∧ xs.take (compactL l).length = (compactL l).map .str ∧ (compactL l).length ≤ xs.length) := by
  refine IT.ofS_x (rs := [(.tmp 2)]) (fun _ _ => false) (Φ := []) trivial T.mixed Tryz.func72 slCompactS.of rfl slCompactS.ok rfl (by simp [Tryz.f72]) ?_
  unfold big at hl
  unfold slCompactS.c
  have whole : compactL l = l → ∃ xs, (V.ar id 1 0 l.length) = .ar id 1 0 (compactL l).length ∧ H = H.set id (.mem 1 xs) ∧ xs.take (compactL l).length = (compactL l).map .str ∧ (compactL l).length ≤ xs.length := by
    intro e
    refine ⟨l.map .str, by rw [e], by rw [← hH, set_self], by rw [e, List.take_of_length_le (by simp)], by rw [e]; simp⟩
  by_cases h2 : l.length < 2
  · have he : compactL l = l := by
      match l, h2 with
      | [], _ => rfl
      | [a], _ => rfl
      | a :: b :: m, h => simp at h; omega
    have h2' : (l.length : Int) < 2 := by omega
    simp (implicitDefEqProofs := false) only [go_sem, reduceIte, Nat.reduceEqDiff, Nat.reduceAdd, Nat.reduceSub, Nat.reduceMul, Nat.reduceLeDiff, Int.reduceLT, Int.reduceLE, Int.reduceEq, Int.reduceAdd, Int.reduceSub, Int.reduceMul, Int.reduceNeg, Int.reduceToNat, reduceCtorEq, Nat.reduceBEq, Nat.reduceLT, h2']
    exact whole he
  · have h2' : ¬ ((l.length : Int) < 2) := by omega
    simp (implicitDefEqProofs := false) only [go_sem, reduceIte, Nat.reduceEqDiff, Nat.reduceAdd, Nat.reduceSub, Nat.reduceMul, Nat.reduceLeDiff, Int.reduceLT, Int.reduceLE, Int.reduceEq, Int.reduceAdd, Int.reduceSub, Int.reduceMul, Int.reduceNeg, Int.reduceToNat, reduceCtorEq, Nat.reduceBEq, Nat.reduceLT, h2']
    refine wpO_up l.length (fun k fr H' => 1 ≤ k ∧ k ≤ l.length ∧ fr 0 = .ar id 1 0 l.length ∧ fr 3 = .val (.int .i64 k) ∧ compactL (l.take k) = l.take k ∧ H' = H) 1 ?_ ?_
    · simp (implicitDefEqProofs := false) only [go_sem, reduceIte, Nat.reduceEqDiff, Nat.reduceAdd, Nat.reduceSub, Nat.reduceMul, Nat.reduceLeDiff, Int.reduceLT, Int.reduceLE, Int.reduceEq, Int.reduceAdd, Int.reduceSub, Int.reduceMul, Int.reduceNeg, Int.reduceToNat, reduceCtorEq, Nat.reduceBEq, Nat.reduceLT]
      refine ⟨by omega, ?_⟩
      match l, h2 with
      | a :: m, _ => simp [compactL]
      | [], h => simp at h
    · rintro k fr H' ⟨hk1, hk2, f0, f3, hc, rfl⟩
      unfold slCompactS.L1
      have hw : IntKind.i64.wrap ((k : Int) + 1) = ((k + 1 : Nat) : Int) := wrap64 (by omega)
      by_cases hlt : k < l.length
      · obtain ⟨a, ha⟩ : ∃ a, l[k]? = some a := ⟨_, List.getElem?_eq_getElem hlt⟩
        obtain ⟨b, hb⟩ : ∃ b, l[k - 1]? = some b := ⟨_, List.getElem?_eq_getElem (by omega)⟩
        have hw2 : IntKind.i64.wrap ((k : Int) - 1) = ((k - 1 : Nat) : Int) := by rw [wrap64 (by omega)]; omega
        have hk3 : k - 1 < l.length := by omega
        have hct : compactL (l.take (k + 1)) = if b = a then compactL (l.take k) else compactL (l.take k) ++ [a] := by
          have := compact_take (l := l) (i := k - 1) hb (by rw [show k - 1 + 1 = k by omega]; exact ha)
          rwa [show k - 1 + 2 = k + 1 by omega, show k - 1 + 1 = k by omega] at this
        by_cases e : a = b
        · subst e
          rw [if_pos rfl, hc] at hct
          have hfit : fits 1 (l.map V.str) = true := by simp [fits, V.cells]
          simp (implicitDefEqProofs := false) only [go_sem, reduceIte, Nat.reduceEqDiff, Nat.reduceAdd, Nat.reduceSub, Nat.reduceMul, Nat.reduceLeDiff, Int.reduceLT, Int.reduceLE, Int.reduceEq, Int.reduceAdd, Int.reduceSub, Int.reduceMul, Int.reduceNeg, Int.reduceToNat, reduceCtorEq, Nat.reduceBEq, Nat.reduceLT, f0, f3, hlt, hw2, hk3, hH, ha, hb, hk2]
          refine wpO_up (l.length - k) (fun k2 fr H'' => ∃ m, ∃ ts : List Text, 1 ≤ k2 ∧ k2 ≤ l.length - k ∧ m + 1 ≤ k + k2 ∧ 1 ≤ m ∧ fr 0 = .ar id 1 0 l.length ∧ fr 3 = .val (.int .i64 m) ∧ fr 4 = .ar id 1 k (l.length - k) ∧ fr 5 = .val (.int .i64 k2) ∧
            H'' = H'.set id (.mem 1 (ts.map .str)) ∧ ts.length = l.length ∧ (compactL (l.take (k + k2))).length = m ∧ ts.take m = compactL (l.take (k + k2)) ∧ ∀ j, k + k2 ≤ j + 1 → ts[j]? = l[j]?) 1 ?_ ?_
          · simp (implicitDefEqProofs := false) only [go_sem, reduceIte, Nat.reduceEqDiff, Nat.reduceAdd, Nat.reduceSub, Nat.reduceMul, Nat.reduceLeDiff, Int.reduceLT, Int.reduceLE, Int.reduceEq, Int.reduceAdd, Int.reduceSub, Int.reduceMul, Int.reduceNeg, Int.reduceToNat, reduceCtorEq, Nat.reduceBEq, Nat.reduceLT, f0, f3, hk2]
            refine ⟨k, l, by omega, by omega, hk1, rfl, by rw [← hH, set_self], rfl, ?_, ?_, fun j _ => rfl⟩
            · rw [hct]; simp; omega
            · rw [hct]
          · rintro k2 fr H'' ⟨m, ts, q1, q2, q3, q4, g0, g3, g4, g5, rfl, hxl, hm, hx, hor⟩
            unfold slCompactS.L0
            have hwk : IntKind.i64.wrap ((k2 : Int) + 1) = ((k2 + 1 : Nat) : Int) := wrap64 (by omega)
            have hwk2 : IntKind.i64.wrap ((k2 : Int) - 1) = ((k2 - 1 : Nat) : Int) := by rw [wrap64 (by omega)]; omega
            have hwm : IntKind.i64.wrap ((m : Int) + 1) = ((m + 1 : Nat) : Int) := wrap64 (by omega)
            by_cases hl2 : k2 < l.length - k
            · obtain ⟨c, hcx⟩ : ∃ c, l[k + k2]? = some c := ⟨_, List.getElem?_eq_getElem (by omega)⟩
              obtain ⟨d, hdx⟩ : ∃ d, l[k + (k2 - 1)]? = some d := ⟨_, List.getElem?_eq_getElem (by omega)⟩
              have hk4 : k2 - 1 < l.length - k := by omega
              have e1 : ts[k + k2]? = some c := by rw [hor _ (by omega), hcx]
              have e2 : ts[k + (k2 - 1)]? = some d := by rw [hor _ (by omega), hdx]
              have hcs : compactL (l.take (k + (k2 + 1))) = if d = c then compactL (l.take (k + k2)) else compactL (l.take (k + k2)) ++ [c] := by
                have := compact_take (l := l) (i := k + (k2 - 1)) hdx (by rw [show k + (k2 - 1) + 1 = k + k2 by omega]; exact hcx)
                rwa [show k + (k2 - 1) + 2 = k + (k2 + 1) by omega, show k + (k2 - 1) + 1 = k + k2 by omega] at this
              by_cases ecd : c = d
              · rw [if_pos ecd.symm] at hcs
                simp (implicitDefEqProofs := false) only [go_sem, reduceIte, Nat.reduceEqDiff, Nat.reduceAdd, Nat.reduceSub, Nat.reduceMul, Nat.reduceLeDiff, Int.reduceLT, Int.reduceLE, Int.reduceEq, Int.reduceAdd, Int.reduceSub, Int.reduceMul, Int.reduceNeg, Int.reduceToNat, reduceCtorEq, Nat.reduceBEq, Nat.reduceLT, g0, g3, g4, g5, hl2, hwk2, hk4, e1, e2, ecd]
                rw [wpO_eq]
                unfold slCompactS.R0
                simp (implicitDefEqProofs := false) only [go_sem, reduceIte, Nat.reduceEqDiff, Nat.reduceAdd, Nat.reduceSub, Nat.reduceMul, Nat.reduceLeDiff, Int.reduceLT, Int.reduceLE, Int.reduceEq, Int.reduceAdd, Int.reduceSub, Int.reduceMul, Int.reduceNeg, Int.reduceToNat, reduceCtorEq, Nat.reduceBEq, Nat.reduceLT, g0, g3, g4, g5, hwk]
                exact ⟨hl2, m, ts, by omega, by omega, q4, rfl, rfl, hxl, by rw [hcs]; exact hm, by rw [hcs]; exact hx, fun j hj => hor j (by omega)⟩
              · rw [if_neg (Ne.symm ecd)] at hcs
                have hmx : m < l.length := by omega
                obtain ⟨o, ho⟩ : ∃ o, ts[m]? = some o := ⟨_, List.getElem?_eq_getElem (by omega)⟩
                simp (implicitDefEqProofs := false) only [go_sem, reduceIte, Nat.reduceEqDiff, Nat.reduceAdd, Nat.reduceSub, Nat.reduceMul, Nat.reduceLeDiff, Int.reduceLT, Int.reduceLE, Int.reduceEq, Int.reduceAdd, Int.reduceSub, Int.reduceMul, Int.reduceNeg, Int.reduceToNat, reduceCtorEq, Nat.reduceBEq, Nat.reduceLT, g0, g3, g4, g5, hl2, hwk2, hk4, e1, e2, ecd, hmx, ho, hwm]
                rw [wpO_eq]
                unfold slCompactS.R0
                simp (implicitDefEqProofs := false) only [go_sem, reduceIte, Nat.reduceEqDiff, Nat.reduceAdd, Nat.reduceSub, Nat.reduceMul, Nat.reduceLeDiff, Int.reduceLT, Int.reduceLE, Int.reduceEq, Int.reduceAdd, Int.reduceSub, Int.reduceMul, Int.reduceNeg, Int.reduceToNat, reduceCtorEq, Nat.reduceBEq, Nat.reduceLT, g0, g3, g4, g5, hwk]
                refine ⟨hl2, m + 1, ts.set m c, by omega, by omega, by omega, rfl, by rw [List.map_set], by rw [List.length_set]; exact hxl, by rw [hcs]; simp [hm], ?_, ?_⟩
                · rw [hcs, List.take_add_one, List.take_set_of_le (Nat.le_refl m), hx, List.getElem?_set, if_pos rfl, if_pos (by omega)]; rfl
                · intro j hj
                  rw [List.getElem?_set, if_neg (by omega)]
                  exact hor j (by omega)
            · have hk5 : k + k2 = l.length := by omega
              have hml : m ≤ l.length := by omega
              rw [hk5, List.take_length] at hm hx
              simp (implicitDefEqProofs := false) only [go_sem, reduceIte, Nat.reduceEqDiff, Nat.reduceAdd, Nat.reduceSub, Nat.reduceMul, Nat.reduceLeDiff, Int.reduceLT, Int.reduceLE, Int.reduceEq, Int.reduceAdd, Int.reduceSub, Int.reduceMul, Int.reduceNeg, Int.reduceToNat, reduceCtorEq, Nat.reduceBEq, Nat.reduceLT, g0, g3, g4, g5, hl2]
              rw [wpO_eq]
              unfold slCompactS.R1
              have hsum : m + (l.length - m) = l.length := by omega
              have hwith : scrub 1 m (l.length - m) (ts.map V.str) = scrub 1 m (l.length - m) (ts.map V.str) := rfl
              simp (implicitDefEqProofs := false) only [go_sem, reduceIte, Nat.reduceEqDiff, Nat.reduceAdd, Nat.reduceSub, Nat.reduceMul, Nat.reduceLeDiff, Int.reduceLT, Int.reduceLE, Int.reduceEq, Int.reduceAdd, Int.reduceSub, Int.reduceMul, Int.reduceNeg, Int.reduceToNat, reduceCtorEq, Nat.reduceBEq, Nat.reduceLT, g0, g3, hml, hsum, hxl]
              refine ⟨Nat.zero_le _, _, by rw [hm]; rfl, rfl, ?_, ?_⟩
              · rw [hm, scrub_take _ _ (by simp; omega), ← List.map_take, hx]
              · rw [hm]; simp [scrub]; omega
        · rw [if_neg (Ne.symm e), hc] at hct
          simp (implicitDefEqProofs := false) only [go_sem, reduceIte, Nat.reduceEqDiff, Nat.reduceAdd, Nat.reduceSub, Nat.reduceMul, Nat.reduceLeDiff, Int.reduceLT, Int.reduceLE, Int.reduceEq, Int.reduceAdd, Int.reduceSub, Int.reduceMul, Int.reduceNeg, Int.reduceToNat, reduceCtorEq, Nat.reduceBEq, Nat.reduceLT, f0, f3, hlt, hw2, hk3, hH, ha, hb, e]
          rw [wpO_eq]
          unfold slCompactS.R2
          simp (implicitDefEqProofs := false) only [go_sem, reduceIte, Nat.reduceEqDiff, Nat.reduceAdd, Nat.reduceSub, Nat.reduceMul, Nat.reduceLeDiff, Int.reduceLT, Int.reduceLE, Int.reduceEq, Int.reduceAdd, Int.reduceSub, Int.reduceMul, Int.reduceNeg, Int.reduceToNat, reduceCtorEq, Nat.reduceBEq, Nat.reduceLT, f0, f3, hw]
          exact ⟨hlt, by omega, by rw [hct, List.take_add_one, ha]; rfl⟩
      · simp (implicitDefEqProofs := false) only [go_sem, reduceIte, Nat.reduceEqDiff, Nat.reduceAdd, Nat.reduceSub, Nat.reduceMul, Nat.reduceLeDiff, Int.reduceLT, Int.reduceLE, Int.reduceEq, Int.reduceAdd, Int.reduceSub, Int.reduceMul, Int.reduceNeg, Int.reduceToNat, reduceCtorEq, Nat.reduceBEq, Nat.reduceLT, f0, f3, hlt]
        rw [wpO_eq]
        unfold slCompactS.R3
        simp (implicitDefEqProofs := false) only [go_sem, reduceIte, Nat.reduceEqDiff, Nat.reduceAdd, Nat.reduceSub, Nat.reduceMul, Nat.reduceLeDiff, Int.reduceLT, Int.reduceLE, Int.reduceEq, Int.reduceAdd, Int.reduceSub, Int.reduceMul, Int.reduceNeg, Int.reduceToNat, reduceCtorEq, Nat.reduceBEq, Nat.reduceLT, f0]
        refine whole ?_
        have : k = l.length := by omega
        rw [this, List.take_length] at hc
        exact hc
end Go.Proofs.W

namespace Go.Proofs.W
set_option linter.unusedSimpArgs false
set_option maxRecDepth 20000
open Go Go.IL Go.Proofs
def slCompactA.R0 : IC :=
  (.reg 10 [⟨some 33, (.move (.tmp (5 : Nat))), none⟩,
    ⟨some 34, (.binOp .add 3 (.tmp (33 : Nat)) (.const (.int .i64 1)) 3), none⟩,
    ⟨some 5, (.assign (.tmp (34 : Nat))), none⟩] false)
def slCompactA.L0 : IC :=
  (.seq (.seq (.reg 9 [⟨some 29, (.move (.tmp (5 : Nat))), none⟩,
    ⟨some 30, (.move (.tmp (4 : Nat))), none⟩,
    ⟨some 31, (.call { callee := (.builtin .len), args := #[(.tmp (30 : Nat))], argTypes := #[24] }), none⟩,
    ⟨some 32, (.binOp .lss 3 (.tmp (29 : Nat)) (.tmp (31 : Nat)) 3), none⟩] false)
  (.cond (.tmp (32 : Nat)) .skip (.exit 2)))
  (.seq (.block 3 (.seq (.reg 11 [⟨some 35, (.move (.tmp (4 : Nat))), none⟩,
    ⟨some 36, (.move (.tmp (5 : Nat))), none⟩,
    ⟨some 37, (.indexAddr 24 (.tmp (35 : Nat)) (.tmp (36 : Nat))), none⟩,
    ⟨some 38, (.load 33 (.tmp (37 : Nat))), none⟩,
    ⟨some 39, (.move (.tmp (4 : Nat))), none⟩,
    ⟨some 40, (.move (.tmp (5 : Nat))), none⟩,
    ⟨some 41, (.binOp .sub 3 (.tmp (40 : Nat)) (.const (.int .i64 1)) 3), none⟩,
    ⟨some 42, (.indexAddr 24 (.tmp (39 : Nat)) (.tmp (41 : Nat))), none⟩,
    ⟨some 43, (.load 33 (.tmp (42 : Nat))), none⟩,
    ⟨some 44, (.binOp .neq 33 (.tmp (38 : Nat)) (.tmp (43 : Nat)) 33), none⟩] true)
  (.cond (.tmp (44 : Nat)) (.seq (.reg 12 [⟨some 45, (.move (.tmp (0 : Nat))), none⟩,
    ⟨some 46, (.move (.tmp (3 : Nat))), none⟩,
    ⟨some 47, (.move (.tmp (4 : Nat))), none⟩,
    ⟨some 48, (.move (.tmp (5 : Nat))), none⟩,
    ⟨some 49, (.indexAddr 24 (.tmp (47 : Nat)) (.tmp (48 : Nat))), none⟩,
    ⟨some 50, (.load 33 (.tmp (49 : Nat))), none⟩,
    ⟨some 51, (.indexAddr 24 (.tmp (45 : Nat)) (.tmp (46 : Nat))), none⟩,
    ⟨none, (.store 33 (.tmp (51 : Nat)) (.tmp (50 : Nat))), none⟩] false)
  (.reg 13 [⟨some 52, (.move (.tmp (3 : Nat))), none⟩,
    ⟨some 53, (.binOp .add 3 (.tmp (52 : Nat)) (.const (.int .i64 1)) 3), none⟩,
    ⟨some 3, (.assign (.tmp (53 : Nat))), none⟩] false)) .skip)))
  (cutIC slCompactA.R0)))
def slCompactA.R1 : IC :=
  (.seq (.reg 14 [⟨some 54, (.move (.tmp (0 : Nat))), none⟩,
    ⟨some 55, (.move (.tmp (3 : Nat))), none⟩,
    ⟨some 56, (.slice 24 (.tmp (54 : Nat)) (some (.tmp (55 : Nat))) none none), none⟩,
    ⟨none, (.call { callee := (.builtin .clear), args := #[(.tmp (56 : Nat))], argTypes := #[24] }), none⟩] false)
  (.seq (.reg 15 [⟨some 57, (.move (.tmp (0 : Nat))), none⟩,
    ⟨some 58, (.move (.tmp (3 : Nat))), none⟩,
    ⟨some 59, (.slice 24 (.tmp (57 : Nat)) none (some (.tmp (58 : Nat))) none), none⟩,
    ⟨some 2, (.assign (.tmp (59 : Nat))), none⟩] false)
  .ret))
def slCompactA.R2 : IC :=
  (.reg 5 [⟨some 14, (.move (.tmp (3 : Nat))), none⟩,
    ⟨some 15, (.binOp .add 3 (.tmp (14 : Nat)) (.const (.int .i64 1)) 3), none⟩,
    ⟨some 3, (.assign (.tmp (15 : Nat))), none⟩] false)
def slCompactA.L1 : IC :=
  (.seq (.seq (.reg 4 [⟨some 10, (.move (.tmp (3 : Nat))), none⟩,
    ⟨some 11, (.move (.tmp (0 : Nat))), none⟩,
    ⟨some 12, (.call { callee := (.builtin .len), args := #[(.tmp (11 : Nat))], argTypes := #[24] }), none⟩,
    ⟨some 13, (.binOp .lss 3 (.tmp (10 : Nat)) (.tmp (12 : Nat)) 3), none⟩] false)
  (.cond (.tmp (13 : Nat)) .skip (.exit 0)))
  (.seq (.block 1 (.seq (.reg 6 [⟨some 16, (.move (.tmp (0 : Nat))), none⟩,
    ⟨some 17, (.move (.tmp (3 : Nat))), none⟩,
    ⟨some 18, (.indexAddr 24 (.tmp (16 : Nat)) (.tmp (17 : Nat))), none⟩,
    ⟨some 19, (.load 33 (.tmp (18 : Nat))), none⟩,
    ⟨some 20, (.move (.tmp (0 : Nat))), none⟩,
    ⟨some 21, (.move (.tmp (3 : Nat))), none⟩,
    ⟨some 22, (.binOp .sub 3 (.tmp (21 : Nat)) (.const (.int .i64 1)) 3), none⟩,
    ⟨some 23, (.indexAddr 24 (.tmp (20 : Nat)) (.tmp (22 : Nat))), none⟩,
    ⟨some 24, (.load 33 (.tmp (23 : Nat))), none⟩,
    ⟨some 25, (.binOp .eql 33 (.tmp (19 : Nat)) (.tmp (24 : Nat)) 33), none⟩] true)
  (.cond (.tmp (25 : Nat)) (.seq (.reg 7 [⟨some 26, (.move (.tmp (0 : Nat))), none⟩,
    ⟨some 27, (.move (.tmp (3 : Nat))), none⟩,
    ⟨some 28, (.slice 24 (.tmp (26 : Nat)) (some (.tmp (27 : Nat))) none none), none⟩,
    ⟨some 4, (.assign (.tmp (28 : Nat))), none⟩] false)
  (.seq (.seq (.reg 8 [⟨some 5, (.assign (.const (.int .i64 1))), none⟩] false)
  (.block 2 (.loop slCompactA.L0)))
  (cutIC slCompactA.R1))) .skip)))
  (cutIC slCompactA.R2)))
def slCompactA.R3 : IC :=
  (.seq (.reg 16 [⟨some 60, (.move (.tmp (0 : Nat))), none⟩,
    ⟨some 2, (.assign (.tmp (60 : Nat))), none⟩] false)
  .ret)
def slCompactA.c : IC :=
  (.seq (.reg 0 [⟨some 2, (.assign (.const (.slice none 0 0))), none⟩] false)
  (.seq (.seq (.reg 1 [⟨some 6, (.move (.tmp (0 : Nat))), none⟩,
    ⟨some 7, (.call { callee := (.builtin .len), args := #[(.tmp (6 : Nat))], argTypes := #[24] }), none⟩,
    ⟨some 8, (.binOp .lss 3 (.tmp (7 : Nat)) (.const (.int .i64 2)) 3), none⟩] false)
  (.cond (.tmp (8 : Nat)) (.seq (.reg 2 [⟨some 9, (.move (.tmp (0 : Nat))), none⟩,
    ⟨some 2, (.assign (.tmp (9 : Nat))), none⟩] false)
  .ret) .skip))
  (.seq (.seq (.reg 3 [⟨some 3, (.assign (.const (.int .i64 1))), none⟩] false)
  (.block 0 (.loop slCompactA.L1)))
  (cutIC slCompactA.R3))))
theorem slCompactA.of : Tryz.f81.body.bind IC.of = some slCompactA.c := by kernel_rfl
theorem slCompactA.ok : Tryz.f81.body.map (okCode Tryz.prog Tryz.f81.ntmps (fun _ _ => false)) = some true := by kernel_rfl
variable {W0 : World}
theorem w_compactA_nil {H : Heap} : IT Tryz.prog W0 81 [.nil] H (fun v H' => v = .nil ∧ H' = H) := by
  refine IT.ofS_x (rs := [(.tmp 2)]) (fun _ _ => false) (Φ := []) trivial T.mixed Tryz.func81 slCompactA.of rfl slCompactA.ok rfl (by simp [Tryz.f81]) ?_
  unfold slCompactA.c
  simp (implicitDefEqProofs := false) only [go_sem, reduceIte, Nat.reduceEqDiff, Nat.reduceAdd, Nat.reduceSub, Nat.reduceMul, Nat.reduceLeDiff, Int.reduceLT, Int.reduceLE, Int.reduceEq, Int.reduceAdd, Int.reduceSub, Int.reduceMul, Int.reduceNeg, Int.reduceToNat, reduceCtorEq, Nat.reduceBEq, Nat.reduceLT]
theorem w_compactA {l : List Act} {id : Nat} {H : Heap} (hl : l.length ≤ big) (hH : H id = .mem 2 (l.map actV)) :
    IT Tryz.prog W0 81 [.ar id 2 0 l.length] H (fun v H' => ∃ xs, v = .ar id 2 0 (compactL l).length ∧ H' = H.set id (.mem 2 xs) ∧ xs.take (compactL l).length = (compactL l).map actV ∧ (compactL l).length ≤ xs.length) := by
  refine IT.ofS_x (rs := [(.tmp 2)]) (fun _ _ => false) (Φ := []) trivial T.mixed Tryz.func81 slCompactA.of rfl slCompactA.ok rfl (by simp [Tryz.f81]) ?_
  unfold big at hl
  unfold slCompactA.c
  have whole : compactL l = l → ∃ xs, (V.ar id 2 0 l.length) = .ar id 2 0 (compactL l).length ∧ H = H.set id (.mem 2 xs) ∧ xs.take (compactL l).length = (compactL l).map actV ∧ (compactL l).length ≤ xs.length := by
    intro e
    refine ⟨l.map actV, by rw [e], by rw [← hH, set_self], by rw [e, List.take_of_length_le (by simp)], by rw [e]; simp⟩
  by_cases h2 : l.length < 2
  · have he : compactL l = l := by
      match l, h2 with
      | [], _ => rfl
      | [a], _ => rfl
      | a :: b :: m, h => simp at h; omega
    have h2' : (l.length : Int) < 2 := by omega
    simp (implicitDefEqProofs := false) only [go_sem, reduceIte, Nat.reduceEqDiff, Nat.reduceAdd, Nat.reduceSub, Nat.reduceMul, Nat.reduceLeDiff, Int.reduceLT, Int.reduceLE, Int.reduceEq, Int.reduceAdd, Int.reduceSub, Int.reduceMul, Int.reduceNeg, Int.reduceToNat, reduceCtorEq, Nat.reduceBEq, Nat.reduceLT, h2']
    exact whole he
  · have h2' : ¬ ((l.length : Int) < 2) := by omega
    simp (implicitDefEqProofs := false) only [go_sem, reduceIte, Nat.reduceEqDiff, Nat.reduceAdd, Nat.reduceSub, Nat.reduceMul, Nat.reduceLeDiff, Int.reduceLT, Int.reduceLE, Int.reduceEq, Int.reduceAdd, Int.reduceSub, Int.reduceMul, Int.reduceNeg, Int.reduceToNat, reduceCtorEq, Nat.reduceBEq, Nat.reduceLT, h2']
    refine wpO_up l.length (fun k fr H' => 1 ≤ k ∧ k ≤ l.length ∧ fr 0 = .ar id 2 0 l.length ∧ fr 3 = .val (.int .i64 k) ∧ compactL (l.take k) = l.take k ∧ H' = H) 1 ?_ ?_
    · simp (implicitDefEqProofs := false) only [go_sem, reduceIte, Nat.reduceEqDiff, Nat.reduceAdd, Nat.reduceSub, Nat.reduceMul, Nat.reduceLeDiff, Int.reduceLT, Int.reduceLE, Int.reduceEq, Int.reduceAdd, Int.reduceSub, Int.reduceMul, Int.reduceNeg, Int.reduceToNat, reduceCtorEq, Nat.reduceBEq, Nat.reduceLT]
      refine ⟨by omega, ?_⟩
      match l, h2 with
      | a :: m, _ => simp [compactL]
      | [], h => simp at h
    · rintro k fr H' ⟨hk1, hk2, f0, f3, hc, rfl⟩
      unfold slCompactA.L1
      have hw : IntKind.i64.wrap ((k : Int) + 1) = ((k + 1 : Nat) : Int) := wrap64 (by omega)
      by_cases hlt : k < l.length
      · obtain ⟨a, ha⟩ : ∃ a, l[k]? = some a := ⟨_, List.getElem?_eq_getElem hlt⟩
        obtain ⟨b, hb⟩ : ∃ b, l[k - 1]? = some b := ⟨_, List.getElem?_eq_getElem (by omega)⟩
        have hw2 : IntKind.i64.wrap ((k : Int) - 1) = ((k - 1 : Nat) : Int) := by rw [wrap64 (by omega)]; omega
        have hk3 : k - 1 < l.length := by omega
        have hct : compactL (l.take (k + 1)) = if b = a then compactL (l.take k) else compactL (l.take k) ++ [a] := by
          have := compact_take (l := l) (i := k - 1) hb (by rw [show k - 1 + 1 = k by omega]; exact ha)
          rwa [show k - 1 + 2 = k + 1 by omega, show k - 1 + 1 = k by omega] at this
        by_cases e : a = b
        · subst e
          rw [if_pos rfl, hc] at hct
          simp (implicitDefEqProofs := false) only [go_sem, reduceIte, Nat.reduceEqDiff, Nat.reduceAdd, Nat.reduceSub, Nat.reduceMul, Nat.reduceLeDiff, Int.reduceLT, Int.reduceLE, Int.reduceEq, Int.reduceAdd, Int.reduceSub, Int.reduceMul, Int.reduceNeg, Int.reduceToNat, reduceCtorEq, Nat.reduceBEq, Nat.reduceLT, f0, f3, hlt, hw2, hk3, hH, ha, hb, hk2, actV]
          refine wpO_up (l.length - k) (fun k2 fr H'' => ∃ m, ∃ ts : List Act, 1 ≤ k2 ∧ k2 ≤ l.length - k ∧ m + 1 ≤ k + k2 ∧ 1 ≤ m ∧ fr 0 = .ar id 2 0 l.length ∧ fr 3 = .val (.int .i64 m) ∧ fr 4 = .ar id 2 k (l.length - k) ∧ fr 5 = .val (.int .i64 k2) ∧
            H'' = H'.set id (.mem 2 (ts.map actV)) ∧ ts.length = l.length ∧ (compactL (l.take (k + k2))).length = m ∧ ts.take m = compactL (l.take (k + k2)) ∧ ∀ j, k + k2 ≤ j + 1 → ts[j]? = l[j]?) 1 ?_ ?_
          · simp (implicitDefEqProofs := false) only [go_sem, reduceIte, Nat.reduceEqDiff, Nat.reduceAdd, Nat.reduceSub, Nat.reduceMul, Nat.reduceLeDiff, Int.reduceLT, Int.reduceLE, Int.reduceEq, Int.reduceAdd, Int.reduceSub, Int.reduceMul, Int.reduceNeg, Int.reduceToNat, reduceCtorEq, Nat.reduceBEq, Nat.reduceLT, f0, f3, hk2]
            refine ⟨k, l, by omega, by omega, hk1, rfl, by rw [← hH, set_self], rfl, ?_, ?_, fun j _ => rfl⟩
            · rw [hct]; simp; omega
            · rw [hct]
          · rintro k2 fr H'' ⟨m, ts, q1, q2, q3, q4, g0, g3, g4, g5, rfl, hxl, hm, hx, hor⟩
            unfold slCompactA.L0
            have hwk : IntKind.i64.wrap ((k2 : Int) + 1) = ((k2 + 1 : Nat) : Int) := wrap64 (by omega)
            have hwk2 : IntKind.i64.wrap ((k2 : Int) - 1) = ((k2 - 1 : Nat) : Int) := by rw [wrap64 (by omega)]; omega
            have hwm : IntKind.i64.wrap ((m : Int) + 1) = ((m + 1 : Nat) : Int) := wrap64 (by omega)
            by_cases hl2 : k2 < l.length - k
            · obtain ⟨c, hcx⟩ : ∃ c, l[k + k2]? = some c := ⟨_, List.getElem?_eq_getElem (by omega)⟩
              obtain ⟨d, hdx⟩ : ∃ d, l[k + (k2 - 1)]? = some d := ⟨_, List.getElem?_eq_getElem (by omega)⟩
              have hk4 : k2 - 1 < l.length - k := by omega
              have e1 : ts[k + k2]? = some c := by rw [hor _ (by omega), hcx]
              have e2 : ts[k + (k2 - 1)]? = some d := by rw [hor _ (by omega), hdx]
              have hcs : compactL (l.take (k + (k2 + 1))) = if d = c then compactL (l.take (k + k2)) else compactL (l.take (k + k2)) ++ [c] := by
                have := compact_take (l := l) (i := k + (k2 - 1)) hdx (by rw [show k + (k2 - 1) + 1 = k + k2 by omega]; exact hcx)
                rwa [show k + (k2 - 1) + 2 = k + (k2 + 1) by omega, show k + (k2 - 1) + 1 = k + k2 by omega] at this
              by_cases ecd : c = d
              · rw [if_pos ecd.symm] at hcs
                simp (implicitDefEqProofs := false) only [go_sem, reduceIte, Nat.reduceEqDiff, Nat.reduceAdd, Nat.reduceSub, Nat.reduceMul, Nat.reduceLeDiff, Int.reduceLT, Int.reduceLE, Int.reduceEq, Int.reduceAdd, Int.reduceSub, Int.reduceMul, Int.reduceNeg, Int.reduceToNat, reduceCtorEq, Nat.reduceBEq, Nat.reduceLT, g0, g3, g4, g5, hl2, hwk2, hk4, e1, e2, ecd, actV]
                rw [wpO_eq]
                unfold slCompactA.R0
                simp (implicitDefEqProofs := false) only [go_sem, reduceIte, Nat.reduceEqDiff, Nat.reduceAdd, Nat.reduceSub, Nat.reduceMul, Nat.reduceLeDiff, Int.reduceLT, Int.reduceLE, Int.reduceEq, Int.reduceAdd, Int.reduceSub, Int.reduceMul, Int.reduceNeg, Int.reduceToNat, reduceCtorEq, Nat.reduceBEq, Nat.reduceLT, g0, g3, g4, g5, hwk]
                exact ⟨hl2, m, ts, by omega, by omega, q4, rfl, rfl, hxl, by rw [hcs]; exact hm, by rw [hcs]; exact hx, fun j hj => hor j (by omega)⟩
              · rw [if_neg (Ne.symm ecd)] at hcs
                have ecf : (decide (c.kind = d.kind) && decide (c.name = d.name)) = false := by rw [act_eq]; simpa using ecd
                have hmx : m < l.length := by omega
                obtain ⟨o, ho⟩ : ∃ o, ts[m]? = some o := ⟨_, List.getElem?_eq_getElem (by omega)⟩
                simp (implicitDefEqProofs := false) only [go_sem, reduceIte, Nat.reduceEqDiff, Nat.reduceAdd, Nat.reduceSub, Nat.reduceMul, Nat.reduceLeDiff, Int.reduceLT, Int.reduceLE, Int.reduceEq, Int.reduceAdd, Int.reduceSub, Int.reduceMul, Int.reduceNeg, Int.reduceToNat, reduceCtorEq, Nat.reduceBEq, Nat.reduceLT, g0, g3, g4, g5, hl2, hwk2, hk4, e1, e2, ecf, actV, hmx, ho, hwm]
                rw [wpO_eq]
                unfold slCompactA.R0
                simp (implicitDefEqProofs := false) only [go_sem, reduceIte, Nat.reduceEqDiff, Nat.reduceAdd, Nat.reduceSub, Nat.reduceMul, Nat.reduceLeDiff, Int.reduceLT, Int.reduceLE, Int.reduceEq, Int.reduceAdd, Int.reduceSub, Int.reduceMul, Int.reduceNeg, Int.reduceToNat, reduceCtorEq, Nat.reduceBEq, Nat.reduceLT, g0, g3, g4, g5, hwk]
                refine ⟨hl2, m + 1, ts.set m c, by omega, by omega, by omega, rfl, by rw [List.map_set]; rfl, by rw [List.length_set]; exact hxl, by rw [hcs]; simp [hm], ?_, ?_⟩
                · rw [hcs, List.take_add_one, List.take_set_of_le (Nat.le_refl m), hx, List.getElem?_set, if_pos rfl, if_pos (by omega)]; rfl
                · intro j hj
                  rw [List.getElem?_set, if_neg (by omega)]
                  exact hor j (by omega)
            · have hk5 : k + k2 = l.length := by omega
              have hml : m ≤ l.length := by omega
              rw [hk5, List.take_length] at hm hx
              simp (implicitDefEqProofs := false) only [go_sem, reduceIte, Nat.reduceEqDiff, Nat.reduceAdd, Nat.reduceSub, Nat.reduceMul, Nat.reduceLeDiff, Int.reduceLT, Int.reduceLE, Int.reduceEq, Int.reduceAdd, Int.reduceSub, Int.reduceMul, Int.reduceNeg, Int.reduceToNat, reduceCtorEq, Nat.reduceBEq, Nat.reduceLT, g0, g3, g4, g5, hl2]
              rw [wpO_eq]
              unfold slCompactA.R1
              have hsum : m + (l.length - m) = l.length := by omega
              have hwith : scrub 2 m (l.length - m) (ts.map actV) = scrub 2 m (l.length - m) (ts.map actV) := rfl
              simp (implicitDefEqProofs := false) only [go_sem, reduceIte, Nat.reduceEqDiff, Nat.reduceAdd, Nat.reduceSub, Nat.reduceMul, Nat.reduceLeDiff, Int.reduceLT, Int.reduceLE, Int.reduceEq, Int.reduceAdd, Int.reduceSub, Int.reduceMul, Int.reduceNeg, Int.reduceToNat, reduceCtorEq, Nat.reduceBEq, Nat.reduceLT, g0, g3, hml, hsum, hxl]
              refine ⟨Nat.zero_le _, _, by rw [hm]; rfl, rfl, ?_, ?_⟩
              · rw [hm, scrub_take _ _ (by simp; omega), ← List.map_take, hx]
              · rw [hm]; simp [scrub]; omega
        · rw [if_neg (Ne.symm e), hc] at hct
          have ef : (decide (a.kind = b.kind) && decide (a.name = b.name)) = false := by rw [act_eq]; simpa using e
          simp (implicitDefEqProofs := false) only [go_sem, reduceIte, Nat.reduceEqDiff, Nat.reduceAdd, Nat.reduceSub, Nat.reduceMul, Nat.reduceLeDiff, Int.reduceLT, Int.reduceLE, Int.reduceEq, Int.reduceAdd, Int.reduceSub, Int.reduceMul, Int.reduceNeg, Int.reduceToNat, reduceCtorEq, Nat.reduceBEq, Nat.reduceLT, f0, f3, hlt, hw2, hk3, hH, ha, hb, ef, actV]
          rw [wpO_eq]
          unfold slCompactA.R2
          simp (implicitDefEqProofs := false) only [go_sem, reduceIte, Nat.reduceEqDiff, Nat.reduceAdd, Nat.reduceSub, Nat.reduceMul, Nat.reduceLeDiff, Int.reduceLT, Int.reduceLE, Int.reduceEq, Int.reduceAdd, Int.reduceSub, Int.reduceMul, Int.reduceNeg, Int.reduceToNat, reduceCtorEq, Nat.reduceBEq, Nat.reduceLT, f0, f3, hw]
          exact ⟨hlt, by omega, by rw [hct, List.take_add_one, ha]; rfl⟩
      · simp (implicitDefEqProofs := false) only [go_sem, reduceIte, Nat.reduceEqDiff, Nat.reduceAdd, Nat.reduceSub, Nat.reduceMul, Nat.reduceLeDiff, Int.reduceLT, Int.reduceLE, Int.reduceEq, Int.reduceAdd, Int.reduceSub, Int.reduceMul, Int.reduceNeg, Int.reduceToNat, reduceCtorEq, Nat.reduceBEq, Nat.reduceLT, f0, f3, hlt]
        rw [wpO_eq]
        unfold slCompactA.R3
        simp (implicitDefEqProofs := false) only [go_sem, reduceIte, Nat.reduceEqDiff, Nat.reduceAdd, Nat.reduceSub, Nat.reduceMul, Nat.reduceLeDiff, Int.reduceLT, Int.reduceLE, Int.reduceEq, Int.reduceAdd, Int.reduceSub, Int.reduceMul, Int.reduceNeg, Int.reduceToNat, reduceCtorEq, Nat.reduceBEq, Nat.reduceLT, f0]
        refine whole ?_
        have : k = l.length := by omega
        rw [this, List.take_length] at hc
        exact hc
end Go.Proofs.W

/- A slice that grows by append. -/
namespace Go.IL
open Go

/-- Behind a start: nothing yet, or a row of one's own. -/
def Grow (H0 H : Heap) (es : Nat) (x : V) (vs : List V) : Prop :=
  Keeps H0 H ∧ ((vs = [] ∧ x = .nil) ∨ (vs ≠ [] ∧ ∃ id, x = .ar id es 0 vs.length ∧ H id = .mem es vs ∧ H0 id = .dead))
section
variable {P : Program} {H0 H : Heap} {es : Nat} {x : V} {vs : List V}
theorem Grow.keeps (h : Grow H0 H es x vs) : Keeps H0 H := h.1
theorem Grow.start (h : Keeps H0 H) : Grow H0 H es .nil [] := ⟨h, .inl ⟨rfl, rfl⟩⟩
/-- Something new beside. -/
theorem Grow.new (h : Grow H0 H es x vs) {i : Nat} {o : Obj} (hi : H i = .dead) : Grow H0 (H.set i o) es x vs := by
  obtain ⟨hk, h⟩ := h
  refine ⟨hk.set (hk.dead hi), ?_⟩
  rcases h with h | ⟨hn, id, h1, h2, h3⟩
  · exact .inl h
  · refine .inr ⟨hn, id, h1, ?_, h3⟩
    have hne : id ≠ i := fun e => by subst e; rw [hi] at h2; cases h2
    rw [Heap.set_ne _ _ hne]; exact h2
/-- Something of one's own beside is turned. -/
theorem Grow.turn (h : Grow H0 H es x vs) {i : Nat} {o : Obj} (hi : H0 i = .dead) (hx : ∀ n, x ≠ .ar i es 0 n) : Grow H0 (H.set i o) es x vs := by
  obtain ⟨hk, h⟩ := h
  refine ⟨hk.set hi, ?_⟩
  rcases h with h | ⟨hn, id, h1, h2, h3⟩
  · exact .inl h
  · refine .inr ⟨hn, id, h1, ?_, h3⟩
    have hne : id ≠ i := fun e => by subst e; exact hx _ h1
    rw [Heap.set_ne _ _ hne]; exact h2
theorem Grow.frz (h : Grow H0 H es x vs) : ∃ H2, frz H x = (.sl vs, H2) ∧ Keeps H0 H2 ∧ ∀ i, H i ≠ .dead → (∀ n, x ≠ .ar i es 0 n) → H2 i = H i := by
  obtain ⟨hk, h⟩ := h
  rcases h with ⟨rfl, rfl⟩ | ⟨hn, id, rfl, h2, h3⟩
  · exact ⟨H, by simp [IL.frz, frz1], hk, fun _ _ _ => rfl⟩
  · refine ⟨H.set id .dead, by simp [IL.frz, frz1, h2], hk.set h3, fun i _ hi => ?_⟩
    rw [Heap.set_ne]
    intro e; subst e; exact hi _ rfl
theorem Grow.frz1 (h : Grow H0 H es x vs) : ∃ H2, frz1 H x = (.sl vs, H2) ∧ Keeps H0 H2 ∧ ∀ i, H i ≠ .dead → (∀ n, x ≠ .ar i es 0 n) → H2 i = H i := by
  obtain ⟨hk, h⟩ := h
  rcases h with ⟨rfl, rfl⟩ | ⟨hn, id, rfl, h2, h3⟩
  · exact ⟨H, by simp [IL.frz1], hk, fun _ _ _ => rfl⟩
  · refine ⟨H.set id .dead, by simp [IL.frz1, h2], hk.set h3, fun i _ hi => ?_⟩
    rw [Heap.set_ne]
    intro e; subst e; exact hi _ rfl
theorem Grow.len (h : Grow H0 H es x vs) {t e : TypeId} (he : elI P t = some e) : lenI P t H x = some vs.length := by
  have hu : P.underlying t = some (.slice e) := by
    unfold elI at he; split at he
    · cases he; assumption
    · cases he
  obtain ⟨hk, h⟩ := h
  rcases h with ⟨rfl, rfl⟩ | ⟨hn, id, rfl, h2, h3⟩
  · simp [lenI, hu]
  · simp [lenI, hu]
theorem Grow.rd (h : Grow H0 H es x vs) : rd H x = some vs := by
  obtain ⟨hk, h⟩ := h
  rcases h with ⟨rfl, rfl⟩ | ⟨hn, id, rfl, h2, h3⟩
  · rfl
  · simp [IL.rd, h2]
theorem Grow.src (h : Grow H0 H es x vs) : srcI H x = some vs := by
  obtain ⟨hk, h⟩ := h
  rcases h with ⟨rfl, rfl⟩ | ⟨hn, id, rfl, h2, h3⟩
  · rfl
  · simp [srcI, IL.rd, h2]
/-- More is appended, out of whatever holds it. -/
theorem Grow.apps (hg : Grow H0 H es x vs) {id : Nat} {t e : TypeId} {y : V} {ys : List V} {K : V → Heap → Prop} (hid : H id = .dead) (he : elI P t = some e) (hes : szI P e = es) (hz : zok P e = true)
    (hy : srcI H y = some ys) (hne : ys ≠ []) (hv : fits es ys = true) (hb : (vs.length + ys.length) * (byI P e + 1) ≤ 1099511627776)
    (hk : ∀ H', Grow H0 H' es (.ar id es 0 (vs.length + ys.length)) (vs ++ ys) → (∀ i, H i ≠ .dead → (∀ n, x ≠ .ar i es 0 n) → H' i = H i) → H' id = .mem es (vs ++ ys) → K (.ar id es 0 (vs.length + ys.length)) H') :
    appO P H id t x y (K := ⟨K⟩) := by
  subst hes
  obtain ⟨hkp, h⟩ := hg
  have hd := hkp.dead hid
  rcases h with ⟨rfl, rfl⟩ | ⟨hn, i, rfl, h2, h3⟩
  · rw [appO_nil]
    refine bindO_elim he (bindO_elim hy (bindO_elim rfl ⟨hz, ?_⟩))
    rw [appTail_eq, condO_bool]
    refine ⟨fun h => (hne (by simpa using h)).elim, fun _ => ⟨⟨hv, by simpa using hb⟩, ?_⟩⟩
    refine hk _ ⟨?_, .inr ⟨by simp [hne], id, by simp, Heap.set_same _ _ _, hd⟩⟩ (fun i hi _ => ?_) (Heap.set_same _ _ _)
    · rw [kill_nil]; exact hkp.set hd
    · rw [kill_nil, Heap.set_ne]; intro e; subst e; exact hi hid
  · rw [appO_ar]
    have hni : i ≠ id := fun e => by subst e; rw [hid] at h2; cases h2
    refine bindO_elim he (bindO_elim hy (bindO_elim (v := vs) (by rw [own_ar, h2]; simp) ⟨hz, ?_⟩))
    rw [appTail_eq, condO_bool]
    refine ⟨fun h => (hne (by simpa using h)).elim, fun _ => ⟨⟨hv, hb⟩, ?_⟩⟩
    rw [kill_ar]
    refine hk _ ⟨(hkp.set h3).set hd, .inr ⟨by simp [hn], id, by simp, Heap.set_same _ _ _, hd⟩⟩ (fun j hj hx => ?_) (Heap.set_same _ _ _)
    have hji : j ≠ i := fun e => by subst e; exact hx _ rfl
    have hjd : j ≠ id := fun e => by subst e; exact hj hid
    rw [Heap.set_ne _ _ hjd, Heap.set_ne _ _ hji]
/-- One more is appended. -/
theorem Grow.app (hg : Grow H0 H es x vs) {s id : Nat} {t e : TypeId} {v : V} {K : V → Heap → Prop} (hs : H s = .dead) (hid : (H.set s (.mem es [v])) id = .dead) (he : elI P t = some e) (hes : szI P e = es) (hz : zok P e = true)
    (hv : v.cells.length = es) (hb : (vs.length + 1) * (byI P e + 1) ≤ 1099511627776)
    (hk : ∀ H', Grow H0 H' es (.ar id es 0 (vs.length + 1)) (vs ++ [v]) → (∀ i, H i ≠ .dead → (∀ n, x ≠ .ar i es 0 n) → H' i = H i) → H' id = .mem es (vs ++ [v]) → K (.ar id es 0 (vs.length + 1)) H') :
    appO P (H.set s (.mem es [v])) id t x (.ar s es 0 1) (K := ⟨K⟩) := by
  refine (hg.new hs).apps hid he hes hz (ys := [v]) (by rw [srcI_ar, Heap.set_same]; simp) (by simp) (by simp [fits, hv]) (by simpa using hb) ?_
  intro H' h1 h2 h3
  refine hk H' h1 (fun i hi hx => ?_) h3
  have hne : i ≠ s := fun e => by subst e; exact hi hs
  have := h2 i (by rw [Heap.set_ne _ _ hne]; exact hi) hx
  rw [this, Heap.set_ne _ _ hne]
/-- What is written over: a value in its place. -/
theorem Grow.mono {H1 : Heap} (h : Grow H1 H es x vs) (hk : Keeps H0 H1) (hd : ∀ i, H0 i = .dead → H1 i = .dead ∨ True) (hx : ∀ i n, x = .ar i es 0 n → H0 i = .dead) : Grow H0 H es x vs := by
  obtain ⟨hkp, h⟩ := h
  refine ⟨fun i hi => ?_, ?_⟩
  · have := hk i hi
    rw [← this]
    exact hkp i (by rw [this]; exact hi)
  · rcases h with h | ⟨hn, id, h1, h2, h3⟩
    · exact .inl h
    · exact .inr ⟨hn, id, h1, h2, hx _ _ h1⟩
end
end Go.IL

namespace Go.Proofs.W
set_option linter.unusedSimpArgs false
set_option maxRecDepth 20000
open Go Go.IL Go.Proofs
def cfNames.R0 : IC :=
  (.reg 9 [⟨some 30, (.binOp .add 3 (.tmp (17 : Nat)) (.const (.int .i64 1)) 3), none⟩,
    ⟨some 17, (.move (.tmp (30 : Nat))), none⟩] false)
def cfNames.L0 : IC :=
  (.seq (.reg 5 [⟨some 18, (.binOp .lss 3 (.tmp (17 : Nat)) (.tmp (16 : Nat)) 3), none⟩] false)
  (.seq (.cond (.tmp (18 : Nat)) .skip (.exit 0))
  (.seq (.block 1 (.seq (.reg 6 [⟨some 19, (.indexAddr 29 (.tmp (15 : Nat)) (.tmp (17 : Nat))), none⟩,
    ⟨some 20, (.load 80 (.tmp (19 : Nat))), none⟩,
    ⟨some 7, (.alloc 80), none⟩,
    ⟨none, (.store 80 (.tmp (7 : Nat)) (.tmp (20 : Nat))), none⟩] false)
  (.seq (.reg 7 [⟨some 21, (.fieldAddr 80 (.tmp (7 : Nat)) 0), none⟩,
    ⟨some 22, (.load 3 (.tmp (21 : Nat))), none⟩,
    ⟨some 23, (.move (.tmp (1 : Nat))), none⟩,
    ⟨some 24, (.binOp .eql 3 (.tmp (22 : Nat)) (.tmp (23 : Nat)) 3), none⟩] false)
  (.cond (.tmp (24 : Nat)) (.reg 8 [⟨some 25, (.move (.tmp (5 : Nat))), none⟩,
    ⟨some 26, (.fieldAddr 80 (.tmp (7 : Nat)) 1), none⟩,
    ⟨some 27, (.load 9 (.tmp (26 : Nat))), none⟩,
    ⟨some 28, (.buildSlice 43 1 #[(0, (.tmp (27 : Nat)))]), none⟩,
    ⟨some 29, (.call { callee := (.builtin .append), args := #[(.tmp (25 : Nat)), (.tmp (28 : Nat))], argTypes := #[43, 43] }), none⟩,
    ⟨some 5, (.assign (.tmp (29 : Nat))), none⟩] false) .skip))))
  (cutIC cfNames.R0))))
def cfNames.R1 : IC :=
  (.seq (.reg 10 [⟨some 31, (.move (.tmp (5 : Nat))), none⟩,
    ⟨some 32, (.call { callee := (.value (.func (72 : Nat))), args := #[(.tmp (31 : Nat))], argTypes := #[43] }), none⟩,
    ⟨some 4, (.assign (.tmp (32 : Nat))), none⟩] false)
  .ret)
def cfNames.c : IC :=
  (.seq (.reg 0 [⟨some 4, (.assign (.const (.slice none 0 0))), none⟩] false)
  (.seq (.seq (.reg 1 [⟨some 8, (.move (.tmp (0 : Nat))), none⟩,
    ⟨some 9, (.call { callee := (.value (.func (69 : Nat))), args := #[(.tmp (8 : Nat))], argTypes := #[29] }), none⟩,
    ⟨some 10, (.unOp .not 4 (.tmp (9 : Nat))), none⟩,
    ⟨some 11, (.move (.tmp (10 : Nat))), none⟩,
    ⟨some 12, (.move (.tmp (1 : Nat))), some (11, false)⟩,
    ⟨some 13, (.binOp .eql 3 (.tmp (12 : Nat)) (.const (.int .i64 0)) 3), some (11, false)⟩,
    ⟨some 14, (.pick (.tmp (11 : Nat)) (.const (.bool true)) (.tmp (13 : Nat))), none⟩] false)
  (.cond (.tmp (14 : Nat)) (.seq (.reg 2 [⟨some 4, (.assign (.const (.slice none 0 0))), none⟩] false)
  .ret) .skip))
  (.seq (.reg 3 [⟨some 5, (.assign (.const (.slice none 0 0))), none⟩] false)
  (.seq (.seq (.reg 4 [⟨some 15, (.move (.tmp (0 : Nat))), none⟩,
    ⟨some 16, (.call { callee := (.builtin .len), args := #[(.tmp (15 : Nat))], argTypes := #[29] }), none⟩,
    ⟨some 17, (.move (.const (.int .i64 0))), none⟩] false)
  (.block 0 (.loop cfNames.L0)))
  (cutIC cfNames.R1)))))
theorem cfNames.of : Tryz.f29.body.bind IC.of = some cfNames.c := by kernel_rfl
theorem cfNames.ok : Tryz.f29.body.map (okCode Tryz.prog Tryz.f29.ntmps (fun _ _ => false)) = some true := by kernel_rfl
def slIndexS.L0 : IC :=
  (.seq (.reg 2 [⟨some 9, (.binOp .lss 3 (.tmp (8 : Nat)) (.tmp (7 : Nat)) 3), none⟩] false)
  (.seq (.cond (.tmp (9 : Nat)) .skip (.exit 0))
  (.seq (.block 1 (.seq (.reg 3 [⟨some 10, (.move (.tmp (8 : Nat))), none⟩,
    ⟨some 5, (.assign (.tmp (10 : Nat))), none⟩] false)
  (.seq (.reg 4 [⟨some 11, (.move (.tmp (1 : Nat))), none⟩,
    ⟨some 12, (.move (.tmp (0 : Nat))), none⟩,
    ⟨some 13, (.move (.tmp (5 : Nat))), none⟩,
    ⟨some 14, (.indexAddr 43 (.tmp (12 : Nat)) (.tmp (13 : Nat))), none⟩,
    ⟨some 15, (.load 9 (.tmp (14 : Nat))), none⟩,
    ⟨some 16, (.binOp .eql 9 (.tmp (11 : Nat)) (.tmp (15 : Nat)) 9), none⟩] false)
  (.cond (.tmp (16 : Nat)) (.seq (.reg 5 [⟨some 17, (.move (.tmp (5 : Nat))), none⟩,
    ⟨some 4, (.assign (.tmp (17 : Nat))), none⟩] false)
  .ret) .skip))))
  (.reg 6 [⟨some 18, (.binOp .add 3 (.tmp (8 : Nat)) (.const (.int .i64 1)) 3), none⟩,
    ⟨some 8, (.move (.tmp (18 : Nat))), none⟩] false))))
def slIndexS.R0 : IC :=
  (.seq (.reg 7 [⟨some 4, (.assign (.const (.int .i64 (-1)))), none⟩] false)
  .ret)
def slIndexS.c : IC :=
  (.seq (.reg 0 [⟨some 4, (.assign (.const (.int .i64 0))), none⟩] false)
  (.seq (.seq (.reg 1 [⟨some 6, (.move (.tmp (0 : Nat))), none⟩,
    ⟨some 7, (.call { callee := (.builtin .len), args := #[(.tmp (6 : Nat))], argTypes := #[43] }), none⟩,
    ⟨some 8, (.move (.const (.int .i64 0))), none⟩] false)
  (.block 0 (.loop slIndexS.L0)))
  (cutIC slIndexS.R0)))
theorem slIndexS.of : Tryz.f111.body.bind IC.of = some slIndexS.c := by kernel_rfl
theorem slIndexS.ok : Tryz.f111.body.map (okCode Tryz.prog Tryz.f111.ntmps (fun _ _ => false)) = some true := by kernel_rfl
def slContains.c : IC :=
  (.seq (.reg 0 [⟨some 4, (.assign (.const (.bool false))), none⟩] false)
  (.seq (.reg 1 [⟨some 5, (.move (.tmp (0 : Nat))), none⟩,
    ⟨some 6, (.move (.tmp (1 : Nat))), none⟩,
    ⟨some 7, (.call { callee := (.value (.func (111 : Nat))), args := #[(.tmp (5 : Nat)), (.tmp (6 : Nat))], argTypes := #[43, 9] }), none⟩,
    ⟨some 8, (.binOp .geq 3 (.tmp (7 : Nat)) (.const (.int .i64 0)) 3), none⟩,
    ⟨some 4, (.assign (.tmp (8 : Nat))), none⟩] false)
  .ret))
theorem slContains.of : Tryz.f66.body.bind IC.of = some slContains.c := by kernel_rfl
theorem slContains.ok : Tryz.f66.body.map (okCode Tryz.prog Tryz.f66.ntmps (fun _ _ => false)) = some true := by kernel_rfl
variable {W0 : World}
theorem confOf_cases {x : V} {c : List Line} (hc : confOf x = some c) : x = .nil ∧ c = [] ∨ x = .sl (c.map lineV) := by
  unfold confOf at hc
  split at hc
  · exact .inr (by rw [linesOf_some hc])
  · cases hc; exact .inl ⟨rfl, rfl⟩
  · cases hc
theorem conf_len {P : Program} {x : V} {c : List Line} {t e : TypeId} (H : Heap) (hc : confOf x = some c) (he : elI P t = some e) : lenI P t H x = some c.length := by
  rcases confOf_cases hc with ⟨rfl, rfl⟩ | rfl
  · rw [lenI_nil _ _ (by rw [he]; rfl)]; rfl
  · rw [lenI_sl _ _ _ (by rw [he]; rfl), List.length_map]
theorem conf_at {P : Program} {x : V} {c : List Line} {t e : TypeId} {i : Nat} {l : Line} (hc : confOf x = some c) (he : elI P t = some e) (hs : szI P e = 4) (hi : (P.info? e).isSome = true) (hl : c[i]? = some l) :
    indexAddrI P t x (.val (.int .i64 (i : Int))) = some (.rp [.val (.int .i64 l.head), .str l.name, .str l.leaf, .str l.value]) := by
  rcases confOf_cases hc with ⟨rfl, rfl⟩ | rfl
  · simp at hl
  · rw [indexAddrI_sl, he]
    simp [natI_nat, hl, lineV, V.cells, hs, hi]
theorem filter_take {α : Type} {p : α → Bool} {c : List α} {i : Nat} {l : α} (h : c[i]? = some l) : (c.take (i + 1)).filter p = if p l = true then (c.take i).filter p ++ [l] else (c.take i).filter p := by
  rw [List.take_add_one, h, Option.toList_some, List.filter_append]
  by_cases hp : p l = true <;> simp [hp]
theorem w_cfNames (h1 : PureF Tryz.prog W0 69 sRights) : PureF Tryz.prog W0 29 sNames := by
  refine PureF.of (rs := [(.tmp 4)]) (fun _ _ => false) (Φ := [(69, sRights)]) ⟨h1, trivial⟩ T.mixed Tryz.func29 cfNames.of rfl cfNames.ok rfl ?_
  intro args H v hs
  unfold sNames at hs
  split at hs
  · rename_i x h
    simp only [Option.bind_eq_some_iff] at hs
    obtain ⟨c, hc, hs⟩ := hs
    split at hs <;> cases hs
    rename_i hok
    refine ⟨by simp [Tryz.f29], ?_⟩
    have hcl := fun H => conf_len (P := Tryz.prog) H hc T.el29
    unfold cfNames.c
    by_cases hr : rightsB c = true
    · have hlen : c.length ≤ 64 := by
        unfold rightsB at hr; simp only [Bool.and_eq_true, decide_eq_true_eq] at hr; exact hr.2
      by_cases h0 : h = 0
      · have hn : namesB c h = [] := by unfold namesB; rw [if_neg (by simp [h0])]
        rw [h0] at hn
        simp (implicitDefEqProofs := false) only [go_sem, reduceIte, Nat.reduceEqDiff, Nat.reduceAdd, Nat.reduceSub, Nat.reduceMul, Nat.reduceLeDiff, Int.reduceLT, Int.reduceLE, Int.reduceEq, Int.reduceAdd, Int.reduceSub, Int.reduceMul, Int.reduceNeg, Int.reduceToNat, reduceCtorEq, Nat.reduceBEq, Nat.reduceLT, hc, hok, hr, h0, hn]
      · simp (implicitDefEqProofs := false) only [go_sem, reduceIte, Nat.reduceEqDiff, Nat.reduceAdd, Nat.reduceSub, Nat.reduceMul, Nat.reduceLeDiff, Int.reduceLT, Int.reduceLE, Int.reduceEq, Int.reduceAdd, Int.reduceSub, Int.reduceMul, Int.reduceNeg, Int.reduceToNat, reduceCtorEq, Nat.reduceBEq, Nat.reduceLT, hc, hok, hr, h0, hcl]
        refine wpO_up c.length (fun i fr H' => i ≤ c.length ∧ fr 1 = .val (.int .i64 h) ∧ fr 15 = x ∧ fr 16 = .val (.int .i64 (c.length : Nat)) ∧ fr 17 = .val (.int .i64 i) ∧
          Grow H H' 1 (fr 5) ((((c.take i).filter fun l => decide (l.head = h)).map (·.name)).map .str)) 0 ?_ ?_
        · simp (implicitDefEqProofs := false) only [go_sem, reduceIte, Nat.reduceEqDiff, Nat.reduceAdd, Nat.reduceSub, Nat.reduceMul, Nat.reduceLeDiff, Int.reduceLT, Int.reduceLE, Int.reduceEq, Int.reduceAdd, Int.reduceSub, Int.reduceMul, Int.reduceNeg, Int.reduceToNat, reduceCtorEq, Nat.reduceBEq, Nat.reduceLT]
          exact ⟨Nat.zero_le _, Grow.start (Keeps.refl H)⟩
        · rintro i fr H' ⟨hi, f1, f15, f16, f17, hg⟩
          unfold cfNames.L0
          have hw : IntKind.i64.wrap ((i : Int) + 1) = ((i + 1 : Nat) : Int) := wrap64 (by omega)
          by_cases hlt : i < c.length
          · obtain ⟨l, hli⟩ : ∃ l, c[i]? = some l := ⟨_, List.getElem?_eq_getElem hlt⟩
            have hat := conf_at hc T.el29 T.sz80 T.is80 hli
            have hft := filter_take (p := fun l => decide (l.head = h)) hli
            by_cases eh : l.head = h
            · rw [if_pos (by simpa using eh)] at hft
              simp (implicitDefEqProofs := false) only [go_sem, reduceIte, Nat.reduceEqDiff, Nat.reduceAdd, Nat.reduceSub, Nat.reduceMul, Nat.reduceLeDiff, Int.reduceLT, Int.reduceLE, Int.reduceEq, Int.reduceAdd, Int.reduceSub, Int.reduceMul, Int.reduceNeg, Int.reduceToNat, reduceCtorEq, Nat.reduceBEq, Nat.reduceLT, f1, f15, f16, f17, hlt, hat, eh]
              intro id hid s n1 n2 hs id2 n3 n4 n5 n6 hid2
              refine (hg.new hid).app (by rw [Heap.set_ne _ _ n1]; exact hs) (by rw [Heap.set_ne _ _ n3, Heap.set_ne _ _ n5]; exact hid2) T.el43 T.sz9 T.zk9 rfl (by rw [T.by43]; simp; have := List.length_filter_le (fun l => decide (l.head = h)) (c.take i); simp at this; omega) ?_
              intro H'' hg' _ _
              simp (implicitDefEqProofs := false) only [go_sem, reduceIte, Nat.reduceEqDiff, Nat.reduceAdd, Nat.reduceSub, Nat.reduceMul, Nat.reduceLeDiff, Int.reduceLT, Int.reduceLE, Int.reduceEq, Int.reduceAdd, Int.reduceSub, Int.reduceMul, Int.reduceNeg, Int.reduceToNat, reduceCtorEq, Nat.reduceBEq, Nat.reduceLT]
              rw [wpO_eq]
              unfold cfNames.R0
              simp (implicitDefEqProofs := false) only [go_sem, reduceIte, Nat.reduceEqDiff, Nat.reduceAdd, Nat.reduceSub, Nat.reduceMul, Nat.reduceLeDiff, Int.reduceLT, Int.reduceLE, Int.reduceEq, Int.reduceAdd, Int.reduceSub, Int.reduceMul, Int.reduceNeg, Int.reduceToNat, reduceCtorEq, Nat.reduceBEq, Nat.reduceLT, f1, f15, f16, f17, hw]
              refine ⟨hlt, by omega, ?_⟩
              rw [hft]
              simpa using hg'
            · rw [if_neg (by simpa using eh)] at hft
              simp (implicitDefEqProofs := false) only [go_sem, reduceIte, Nat.reduceEqDiff, Nat.reduceAdd, Nat.reduceSub, Nat.reduceMul, Nat.reduceLeDiff, Int.reduceLT, Int.reduceLE, Int.reduceEq, Int.reduceAdd, Int.reduceSub, Int.reduceMul, Int.reduceNeg, Int.reduceToNat, reduceCtorEq, Nat.reduceBEq, Nat.reduceLT, f1, f15, f16, f17, hlt, hat, eh]
              intro id hid
              rw [wpO_eq]
              unfold cfNames.R0
              simp (implicitDefEqProofs := false) only [go_sem, reduceIte, Nat.reduceEqDiff, Nat.reduceAdd, Nat.reduceSub, Nat.reduceMul, Nat.reduceLeDiff, Int.reduceLT, Int.reduceLE, Int.reduceEq, Int.reduceAdd, Int.reduceSub, Int.reduceMul, Int.reduceNeg, Int.reduceToNat, reduceCtorEq, Nat.reduceBEq, Nat.reduceLT, f1, f15, f16, f17, hw]
              refine ⟨hlt, by omega, ?_⟩
              rw [hft]
              exact hg.new hid
          · have hic : i = c.length := by omega
            rw [hic, List.take_length] at hg
            simp (implicitDefEqProofs := false) only [go_sem, reduceIte, Nat.reduceEqDiff, Nat.reduceAdd, Nat.reduceSub, Nat.reduceMul, Nat.reduceLeDiff, Int.reduceLT, Int.reduceLE, Int.reduceEq, Int.reduceAdd, Int.reduceSub, Int.reduceMul, Int.reduceNeg, Int.reduceToNat, reduceCtorEq, Nat.reduceBEq, Nat.reduceLT, f1, f15, f16, f17, hlt]
            rw [wpO_eq]
            unfold cfNames.R1
            have hnb : namesB c h = compactL ((c.filter fun l => decide (l.head = h)).map (·.name)) := by unfold namesB; rw [if_pos ⟨hr, h0⟩]
            have hnl : ((c.filter fun l => decide (l.head = h)).map (·.name)).length ≤ 64 := by
              have := List.length_filter_le (fun l => decide (l.head = h)) c; simp; omega
            generalize ((c.filter fun l => decide (l.head = h)).map (·.name)) = nm at *
            rcases hg with ⟨hk, ⟨he, h5⟩ | ⟨hne, id, h5, hH, hd⟩⟩
            · rw [List.map_eq_nil_iff] at he
              rw [he] at hnb
              simp (implicitDefEqProofs := false) only [go_sem, reduceIte, Nat.reduceEqDiff, Nat.reduceAdd, Nat.reduceSub, Nat.reduceMul, Nat.reduceLeDiff, Int.reduceLT, Int.reduceLE, Int.reduceEq, Int.reduceAdd, Int.reduceSub, Int.reduceMul, Int.reduceNeg, Int.reduceToNat, reduceCtorEq, Nat.reduceBEq, Nat.reduceLT, h5]
              rw [itO_eq]
              refine w_compactS_nil.mono ?_
              rintro v H'' ⟨rfl, rfl⟩
              simp (implicitDefEqProofs := false) only [go_sem, reduceIte, Nat.reduceEqDiff, Nat.reduceAdd, Nat.reduceSub, Nat.reduceMul, Nat.reduceLeDiff, Int.reduceLT, Int.reduceLE, Int.reduceEq, Int.reduceAdd, Int.reduceSub, Int.reduceMul, Int.reduceNeg, Int.reduceToNat, reduceCtorEq, Nat.reduceBEq, Nat.reduceLT, hnb]
              exact ⟨rfl, hk⟩
            · rw [List.length_map] at h5
              simp (implicitDefEqProofs := false) only [go_sem, reduceIte, Nat.reduceEqDiff, Nat.reduceAdd, Nat.reduceSub, Nat.reduceMul, Nat.reduceLeDiff, Int.reduceLT, Int.reduceLE, Int.reduceEq, Int.reduceAdd, Int.reduceSub, Int.reduceMul, Int.reduceNeg, Int.reduceToNat, reduceCtorEq, Nat.reduceBEq, Nat.reduceLT, h5]
              rw [itO_eq]
              refine (w_compactS (by unfold big; omega) hH).mono ?_
              rintro v H'' ⟨xs, rfl, rfl, e1, e2⟩
              simp (implicitDefEqProofs := false) only [go_sem, reduceIte, Nat.reduceEqDiff, Nat.reduceAdd, Nat.reduceSub, Nat.reduceMul, Nat.reduceLeDiff, Int.reduceLT, Int.reduceLE, Int.reduceEq, Int.reduceAdd, Int.reduceSub, Int.reduceMul, Int.reduceNeg, Int.reduceToNat, reduceCtorEq, Nat.reduceBEq, Nat.reduceLT, e1, e2, hnb]
              exact hk.set hd
    · have hr' : rightsB c = false := by simpa using hr
      have hn : namesB c h = [] := by unfold namesB; rw [if_neg (by simp [hr'])]
      simp (implicitDefEqProofs := false) only [go_sem, reduceIte, Nat.reduceEqDiff, Nat.reduceAdd, Nat.reduceSub, Nat.reduceMul, Nat.reduceLeDiff, Int.reduceLT, Int.reduceLE, Int.reduceEq, Int.reduceAdd, Int.reduceSub, Int.reduceMul, Int.reduceNeg, Int.reduceToNat, reduceCtorEq, Nat.reduceBEq, Nat.reduceLT, hc, hok, hr', hn]
  · cases hs

/-- Where a text stands in a list. -/
def sIdxS : Sem1 := fun args _ => match args with
  | [.sl xs, .str t] => if xs.length ≤ big then (textsOf xs).map fun l => .val (.int .i64 (match l.findIdx? (fun c => decide (t = c)) with | some i => i | none => -1)) else none
  | _ => none
@[go_sem] theorem sIdxS_eq (xs : List V) (t : Text) (H : Heap) : sIdxS [.sl xs, .str t] H = if xs.length ≤ big then (textsOf xs).map fun l => .val (.int .i64 (match l.findIdx? (fun c => decide (t = c)) with | some i => i | none => -1)) else none := rfl
theorem findIdx_at {α : Type} {p : α → Bool} {l : List α} {i : Nat} {a : α} (hb : ∀ j x, j < i → l[j]? = some x → p x = false) (ha : l[i]? = some a) (hp : p a = true) : l.findIdx? p = some i := by
  rw [List.findIdx?_eq_some_iff_getElem]
  obtain ⟨hi, rfl⟩ := List.getElem?_eq_some_iff.1 ha
  exact ⟨hi, hp, fun j hj => by simp [hb j _ hj (List.getElem?_eq_getElem (by omega))]⟩
theorem findIdx_not {α : Type} {p : α → Bool} {l : List α} (hb : ∀ j x, j < l.length → l[j]? = some x → p x = false) : l.findIdx? p = none := by
  rw [List.findIdx?_eq_none_iff]
  intro x hx
  obtain ⟨j, hj, rfl⟩ := List.mem_iff_getElem.1 hx
  exact hb j _ hj (List.getElem?_eq_getElem hj)
theorem w_slIndexS : PureF Tryz.prog W0 111 sIdxS := by
  refine PureF.of (rs := [(.tmp 4)]) (fun _ _ => false) (Φ := []) trivial T.mixed Tryz.func111 slIndexS.of rfl slIndexS.ok rfl ?_
  intro args H v hs
  unfold sIdxS at hs
  split at hs
  · rename_i xs t
    split at hs
    · rename_i hl
      simp only [Option.map_eq_some_iff] at hs
      obtain ⟨l, h1, rfl⟩ := hs
      have := textsOf_some h1
      subst this
      rw [List.length_map] at hl
      unfold big at hl
      refine ⟨by simp [Tryz.f111], ?_⟩
      unfold slIndexS.c
      simp (implicitDefEqProofs := false) only [go_sem, reduceIte, Nat.reduceEqDiff, Nat.reduceAdd, Nat.reduceSub, Nat.reduceMul, Nat.reduceLeDiff, Int.reduceLT, Int.reduceLE, Int.reduceEq, Int.reduceAdd, Int.reduceSub, Int.reduceMul, Int.reduceNeg, Int.reduceToNat, reduceCtorEq, Nat.reduceBEq, Nat.reduceLT]
      refine wpO_up l.length (fun i fr H' => i ≤ l.length ∧ fr 0 = .sl (l.map .str) ∧ fr 1 = .str t ∧ fr 7 = .val (.int .i64 (l.length : Nat)) ∧ fr 8 = .val (.int .i64 i) ∧ (∀ j x, j < i → l[j]? = some x → decide (t = x) = false) ∧ H' = H) 0 ?_ ?_
      · simp (implicitDefEqProofs := false) only [go_sem, reduceIte, Nat.reduceEqDiff, Nat.reduceAdd, Nat.reduceSub, Nat.reduceMul, Nat.reduceLeDiff, Int.reduceLT, Int.reduceLE, Int.reduceEq, Int.reduceAdd, Int.reduceSub, Int.reduceMul, Int.reduceNeg, Int.reduceToNat, reduceCtorEq, Nat.reduceBEq, Nat.reduceLT]
        simp
      · rintro i fr H' ⟨hi, f0, f1, f7, f8, hb, rfl⟩
        unfold slIndexS.L0
        have hw : IntKind.i64.wrap ((i : Int) + 1) = ((i + 1 : Nat) : Int) := wrap64 (by omega)
        by_cases hlt : i < l.length
        · obtain ⟨c, hci⟩ : ∃ c, l[i]? = some c := ⟨_, List.getElem?_eq_getElem hlt⟩
          by_cases e : t = c
          · have hf := findIdx_at (p := fun c => decide (t = c)) hb hci (by simp [e])
            subst e
            simp (implicitDefEqProofs := false) only [go_sem, reduceIte, Nat.reduceEqDiff, Nat.reduceAdd, Nat.reduceSub, Nat.reduceMul, Nat.reduceLeDiff, Int.reduceLT, Int.reduceLE, Int.reduceEq, Int.reduceAdd, Int.reduceSub, Int.reduceMul, Int.reduceNeg, Int.reduceToNat, reduceCtorEq, Nat.reduceBEq, Nat.reduceLT, f0, f1, f7, f8, hlt, hci, hf]
          · simp (implicitDefEqProofs := false) only [go_sem, reduceIte, Nat.reduceEqDiff, Nat.reduceAdd, Nat.reduceSub, Nat.reduceMul, Nat.reduceLeDiff, Int.reduceLT, Int.reduceLE, Int.reduceEq, Int.reduceAdd, Int.reduceSub, Int.reduceMul, Int.reduceNeg, Int.reduceToNat, reduceCtorEq, Nat.reduceBEq, Nat.reduceLT, f0, f1, f7, f8, hlt, hci, e]
            refine ⟨by omega, by rw [hw], fun j x hj hx => ?_⟩
            by_cases ej : j = i
            · subst ej; rw [hci] at hx; cases hx; simpa using e
            · simpa using hb j x (by omega) hx
        · have hf := findIdx_not (p := fun c => decide (t = c)) (l := l) (fun j x hj => hb j x (by omega))
          simp (implicitDefEqProofs := false) only [go_sem, reduceIte, Nat.reduceEqDiff, Nat.reduceAdd, Nat.reduceSub, Nat.reduceMul, Nat.reduceLeDiff, Int.reduceLT, Int.reduceLE, Int.reduceEq, Int.reduceAdd, Int.reduceSub, Int.reduceMul, Int.reduceNeg, Int.reduceToNat, reduceCtorEq, Nat.reduceBEq, Nat.reduceLT, f0, f1, f7, f8, hlt]
          rw [wpO_eq]
          unfold slIndexS.R0
          simp (implicitDefEqProofs := false) only [go_sem, reduceIte, Nat.reduceEqDiff, Nat.reduceAdd, Nat.reduceSub, Nat.reduceMul, Nat.reduceLeDiff, Int.reduceLT, Int.reduceLE, Int.reduceEq, Int.reduceAdd, Int.reduceSub, Int.reduceMul, Int.reduceNeg, Int.reduceToNat, reduceCtorEq, Nat.reduceBEq, Nat.reduceLT, hf]
    · cases hs
  · cases hs
theorem w_slContains (h1 : PureF Tryz.prog W0 111 sIdxS) : PureF Tryz.prog W0 66 sHas := by
  refine PureF.of (rs := [(.tmp 4)]) (fun _ _ => false) (Φ := [(111, sIdxS)]) ⟨h1, trivial⟩ T.mixed Tryz.func66 slContains.of rfl slContains.ok rfl ?_
  intro args H v hs
  unfold sHas at hs
  split at hs
  · rename_i xs t
    split at hs
    · rename_i hl
      simp only [Option.map_eq_some_iff] at hs
      obtain ⟨l, h1, rfl⟩ := hs
      refine ⟨by simp [Tryz.f66], ?_⟩
      unfold slContains.c
      have hany : l.any (fun c => decide (c = t)) = decide ((0 : Int) ≤ (match l.findIdx? (fun c => decide (t = c)) with | some i => (i : Int) | none => -1)) := by
        cases hf : l.findIdx? (fun c => decide (t = c)) with
        | none =>
          rw [List.findIdx?_eq_none_iff] at hf
          simp only [show ¬ (0 : Int) ≤ -1 by decide, decide_false]
          rw [← Bool.not_eq_true, List.any_eq_true]
          rintro ⟨x, hx, hp⟩
          have := hf x hx
          simp only [decide_eq_true_eq] at hp
          simp [hp] at this
        | some i =>
          rw [List.findIdx?_eq_some_iff_getElem] at hf
          obtain ⟨hi, hp, -⟩ := hf
          simp only [Int.natCast_nonneg, decide_true]
          rw [List.any_eq_true]
          exact ⟨_, List.getElem_mem hi, by simp only [decide_eq_true_eq] at hp ⊢; exact hp.symm⟩
      rw [hany]
      simp (implicitDefEqProofs := false) only [go_sem, reduceIte, Nat.reduceEqDiff, Nat.reduceAdd, Nat.reduceSub, Nat.reduceMul, Nat.reduceLeDiff, Int.reduceLT, Int.reduceLE, Int.reduceEq, Int.reduceAdd, Int.reduceSub, Int.reduceMul, Int.reduceNeg, Int.reduceToNat, reduceCtorEq, Nat.reduceBEq, Nat.reduceLT, hl, h1]
    · cases hs
  · cases hs
end Go.Proofs.W
