import Derived.Test.YthdlaekahejdnaaGreatDoorKG
import Derived.Lib.SplitLaws
import Derived.Lib.SlTrimSet
import Derived.Lib.Atoi
import Derived.Lib.IndexMore
import Derived.Lib.Bytealg
import Derived.Below
import Derived.Shelf.SlSortCmp.WholeK
set_option linter.unusedVariables false
set_option linter.unusedSimpArgs false
namespace Go.Proofs.W
set_option linter.unusedSimpArgs false
set_option maxRecDepth 20000
open Go Go.IL Go.Proofs
def r4Decimal.L0 : IC :=
  (.seq (.seq (.reg 5 [⟨some 24, (.move (.tmp (5 : Nat))), none⟩,
    ⟨some 25, (.move (.tmp (0 : Nat))), none⟩,
    ⟨some 26, (.call { callee := (.builtin .len), args := #[(.tmp (25 : Nat))], argTypes := #[9] }), none⟩,
    ⟨some 27, (.binOp .lss 3 (.tmp (24 : Nat)) (.tmp (26 : Nat)) 3), none⟩] false)
  (.cond (.tmp (27 : Nat)) .skip (.exit 0)))
  (.seq (.block 1 (.seq (.seq (.reg 7 [⟨some 30, (.move (.tmp (0 : Nat))), none⟩,
    ⟨some 31, (.move (.tmp (5 : Nat))), none⟩,
    ⟨some 32, (.index 9 (.tmp (30 : Nat)) (.tmp (31 : Nat))), none⟩,
    ⟨some 33, (.binOp .lss 5 (.tmp (32 : Nat)) (.const (.int .u8 48)) 5), none⟩,
    ⟨some 34, (.move (.tmp (33 : Nat))), none⟩,
    ⟨some 35, (.move (.tmp (0 : Nat))), some (34, false)⟩,
    ⟨some 36, (.move (.tmp (5 : Nat))), some (34, false)⟩,
    ⟨some 37, (.index 9 (.tmp (35 : Nat)) (.tmp (36 : Nat))), some (34, false)⟩,
    ⟨some 38, (.binOp .gtr 5 (.tmp (37 : Nat)) (.const (.int .u8 57)) 5), some (34, false)⟩,
    ⟨some 39, (.pick (.tmp (34 : Nat)) (.const (.bool true)) (.tmp (38 : Nat))), none⟩] false)
  (.cond (.tmp (39 : Nat)) (.seq (.reg 8 [⟨some 2, (.assign (.const (.int .i64 0))), none⟩,
    ⟨some 3, (.assign (.const (.bool false))), none⟩] false)
  .ret) .skip))
  (.reg 9 [⟨some 40, (.move (.tmp (4 : Nat))), none⟩,
    ⟨some 41, (.binOp .mul 3 (.tmp (40 : Nat)) (.const (.int .i64 10)) 3), none⟩,
    ⟨some 42, (.move (.tmp (0 : Nat))), none⟩,
    ⟨some 43, (.move (.tmp (5 : Nat))), none⟩,
    ⟨some 44, (.index 9 (.tmp (42 : Nat)) (.tmp (43 : Nat))), none⟩,
    ⟨some 45, (.binOp .sub 5 (.tmp (44 : Nat)) (.const (.int .u8 48)) 5), none⟩,
    ⟨some 46, (.convert 5 3 (.tmp (45 : Nat))), none⟩,
    ⟨some 47, (.binOp .add 3 (.tmp (41 : Nat)) (.tmp (46 : Nat)) 3), none⟩,
    ⟨some 4, (.assign (.tmp (47 : Nat))), none⟩] false)))
  (.reg 6 [⟨some 28, (.move (.tmp (5 : Nat))), none⟩,
    ⟨some 29, (.binOp .add 3 (.tmp (28 : Nat)) (.const (.int .i64 1)) 3), none⟩,
    ⟨some 5, (.assign (.tmp (29 : Nat))), none⟩] false)))
def r4Decimal.R0 : IC :=
  (.seq (.reg 10 [⟨some 48, (.move (.tmp (4 : Nat))), none⟩,
    ⟨some 2, (.assign (.tmp (48 : Nat))), none⟩,
    ⟨some 3, (.assign (.const (.bool true))), none⟩] false)
  .ret)
def r4Decimal.c : IC :=
  (.seq (.reg 0 [⟨some 2, (.assign (.const (.int .i64 0))), none⟩,
    ⟨some 3, (.assign (.const (.bool false))), none⟩] false)
  (.seq (.seq (.reg 1 [⟨some 6, (.move (.tmp (0 : Nat))), none⟩,
    ⟨some 7, (.call { callee := (.builtin .len), args := #[(.tmp (6 : Nat))], argTypes := #[9] }), none⟩,
    ⟨some 8, (.binOp .lss 3 (.tmp (7 : Nat)) (.const (.int .i64 1)) 3), none⟩,
    ⟨some 9, (.move (.tmp (8 : Nat))), none⟩,
    ⟨some 10, (.move (.tmp (0 : Nat))), some (9, false)⟩,
    ⟨some 11, (.call { callee := (.builtin .len), args := #[(.tmp (10 : Nat))], argTypes := #[9] }), some (9, false)⟩,
    ⟨some 12, (.binOp .gtr 3 (.tmp (11 : Nat)) (.const (.int .i64 9)) 3), some (9, false)⟩,
    ⟨some 13, (.pick (.tmp (9 : Nat)) (.const (.bool true)) (.tmp (12 : Nat))), none⟩,
    ⟨some 14, (.move (.tmp (13 : Nat))), none⟩,
    ⟨some 15, (.move (.tmp (0 : Nat))), some (14, false)⟩,
    ⟨some 16, (.call { callee := (.builtin .len), args := #[(.tmp (15 : Nat))], argTypes := #[9] }), some (14, false)⟩,
    ⟨some 17, (.binOp .gtr 3 (.tmp (16 : Nat)) (.const (.int .i64 1)) 3), some (14, false)⟩,
    ⟨some 18, (.move (.tmp (17 : Nat))), some (14, false)⟩,
    ⟨some 19, (.move (.tmp (0 : Nat))), some (18, true)⟩,
    ⟨some 20, (.index 9 (.tmp (19 : Nat)) (.const (.int .i64 0))), some (18, true)⟩,
    ⟨some 21, (.binOp .eql 5 (.tmp (20 : Nat)) (.const (.int .u8 48)) 5), some (18, true)⟩,
    ⟨some 22, (.pick (.tmp (18 : Nat)) (.tmp (21 : Nat)) (.const (.bool false))), some (14, false)⟩,
    ⟨some 23, (.pick (.tmp (14 : Nat)) (.const (.bool true)) (.tmp (22 : Nat))), none⟩] false)
  (.cond (.tmp (23 : Nat)) (.seq (.reg 2 [⟨some 2, (.assign (.const (.int .i64 0))), none⟩,
    ⟨some 3, (.assign (.const (.bool false))), none⟩] false)
  .ret) .skip))
  (.seq (.reg 3 [⟨some 4, (.assign (.const (.int .i64 0))), none⟩] false)
  (.seq (.seq (.reg 4 [⟨some 5, (.assign (.const (.int .i64 0))), none⟩] false)
  (.block 0 (.loop r4Decimal.L0)))
  (cutIC r4Decimal.R0)))))
theorem r4Decimal.of : Tryz.f106.body.bind IC.of = some r4Decimal.c := by kernel_rfl
theorem r4Decimal.ok : Tryz.f106.body.map (okCode Tryz.prog Tryz.f106.ntmps (fun _ _ => false)) = some true := by kernel_rfl
variable {W0 : World}
theorem valB_snoc (l : Text) (b : UInt8) : valB (l ++ [b]) = 10 * valB l + (b.toNat - 48) := by simp [valB]
theorem valB_lt : ∀ (k : Nat) (l : Text), l.length = k → l.all digB = true → valB l < 10 ^ k
  | 0, l, h, _ => by
    have : l = [] := List.length_eq_zero_iff.1 h
    subst this; simp [valB]
  | k + 1, l, h, ha => by
    obtain ⟨l', b, rfl⟩ : ∃ l' b, l = l' ++ [b] := ⟨l.dropLast, l.getLast (by intro e; simp [e] at h), (List.dropLast_concat_getLast _).symm⟩
    simp only [List.all_append, Bool.and_eq_true, List.all_cons, List.all_nil, and_true] at ha
    have := valB_lt k l' (by simpa using h) ha.1
    rw [valB_snoc]
    have hd : b.toNat - 48 ≤ 9 := by
      have := ha.2
      simp only [digB, Bool.and_eq_true, decide_eq_true_eq, UInt8.le_iff_toNat_le] at this
      have h2 : b.toNat ≤ 57 := this.2
      omega
    rw [Nat.pow_succ]
    omega
theorem dig_iff (b : UInt8) : digB b = (decide (48 ≤ (b.toNat : Int)) && decide ((b.toNat : Int) ≤ 57)) := by
  unfold digB
  congr 1
  · simp only [UInt8.le_iff_toNat_le]
    exact decide_eq_decide.2 ⟨fun h => by have : 48 ≤ b.toNat := h; omega, fun h => by show 48 ≤ b.toNat; omega⟩
  · simp only [UInt8.le_iff_toNat_le]
    exact decide_eq_decide.2 ⟨fun h => by have : b.toNat ≤ 57 := h; omega, fun h => by show b.toNat ≤ 57; omega⟩
theorem eq48 (b : UInt8) : ((b.toNat : Int) = 48) = (b = 48) := by
  apply propext
  constructor
  · intro h; apply UInt8.toNat_inj.1; show b.toNat = 48; omega
  · intro h; subst h; rfl
def l1 (l : Text) : Prop := 1 < l.length ∧ l.head? = some 48
theorem w_r4Decimal : PureF Tryz.prog W0 106 sDec := by
  refine PureF.of (rs := [(.tmp 2), (.tmp 3)]) (fun _ _ => false) (Φ := []) trivial T.mixed Tryz.func106 r4Decimal.of rfl r4Decimal.ok rfl ?_
  intro args H v hs
  unfold sDec at hs
  split at hs
  · rename_i l
    split at hs <;> cases hs
    rename_i hl
    unfold big at hl
    refine ⟨by simp [Tryz.f106], ?_⟩
    unfold r4Decimal.c
    cases l with
    | nil =>
      have hd : decB [] = none := rfl
      simp (implicitDefEqProofs := false) (contextual := true) only [go_sem, reduceIte, Nat.reduceEqDiff, Nat.reduceAdd, Nat.reduceSub, Nat.reduceMul, Nat.reduceLeDiff, Int.reduceLT, Int.reduceLE, Int.reduceEq, Int.reduceAdd, Int.reduceSub, Int.reduceMul, Int.reduceNeg, Int.reduceToNat, reduceCtorEq, Nat.reduceBEq, Nat.reduceLT, hd, Option.isSome_none]
    | cons a t =>
      by_cases p2 : (9 : Int) < ((t.length + 1 : Nat) : Int)
      · have hd : decB (a :: t) = none := by
          unfold decB; rw [if_neg]; simp; omega
        have p1 : ¬ ((t.length + 1 : Nat) : Int) < 1 := by omega
        simp (implicitDefEqProofs := false) (contextual := true) only [go_sem, reduceIte, Nat.reduceEqDiff, Nat.reduceAdd, Nat.reduceSub, Nat.reduceMul, Nat.reduceLeDiff, Int.reduceLT, Int.reduceLE, Int.reduceEq, Int.reduceAdd, Int.reduceSub, Int.reduceMul, Int.reduceNeg, Int.reduceToNat, reduceCtorEq, Nat.reduceBEq, Nat.reduceLT, p1, p2, hd, Option.isSome_none]
      · have p1 : ¬ ((t.length + 1 : Nat) : Int) < 1 := by omega
        by_cases p34 : (1 : Int) < ((t.length + 1 : Nat) : Int) ∧ a = 48
        · obtain ⟨p3, rfl⟩ := p34
          have hd : decB (48 :: t) = none := by
            unfold decB; rw [if_neg]; simp
            intro _ _ _; intro h; subst h; simp at p3
          simp (implicitDefEqProofs := false) (contextual := true) only [go_sem, reduceIte, Nat.reduceEqDiff, Nat.reduceAdd, Nat.reduceSub, Nat.reduceMul, Nat.reduceLeDiff, Int.reduceLT, Int.reduceLE, Int.reduceEq, Int.reduceAdd, Int.reduceSub, Int.reduceMul, Int.reduceNeg, Int.reduceToNat, reduceCtorEq, Nat.reduceBEq, Nat.reduceLT, p1, p2, p3, eq48, hd, Option.isSome_none]
        · have p4 : (1 : Int) < ((t.length + 1 : Nat) : Int) → ¬ a = 48 := fun p3 h => p34 ⟨p3, h⟩
          by_cases p3 : (1 : Int) < ((t.length + 1 : Nat) : Int)
          all_goals simp (implicitDefEqProofs := false) (contextual := true) only [go_sem, reduceIte, Nat.reduceEqDiff, Nat.reduceAdd, Nat.reduceSub, Nat.reduceMul, Nat.reduceLeDiff, Int.reduceLT, Int.reduceLE, Int.reduceEq, Int.reduceAdd, Int.reduceSub, Int.reduceMul, Int.reduceNeg, Int.reduceToNat, reduceCtorEq, Nat.reduceBEq, Nat.reduceLT, p1, p2, p3, eq48, p4]
          all_goals
            have hlen : (a :: t).length = t.length + 1 := rfl
            have hcond : ¬ (l1 (a :: t)) := fun h => p34 ⟨by have := h.1; simp at this; omega, by have := h.2; simpa using this⟩
            clear p4
            generalize a :: t = l at *
            refine wpO_up l.length (fun i fr H' => i ≤ l.length ∧ fr 0 = .str l ∧ fr 4 = .val (.int .i64 (valB (l.take i) : Nat)) ∧ fr 5 = .val (.int .i64 i) ∧ (l.take i).all digB = true ∧ H' = H) 0 ?_ ?_
            · simp (implicitDefEqProofs := false) (contextual := true) only [go_sem, reduceIte, Nat.reduceEqDiff, Nat.reduceAdd, Nat.reduceSub, Nat.reduceMul, Nat.reduceLeDiff, Int.reduceLT, Int.reduceLE, Int.reduceEq, Int.reduceAdd, Int.reduceSub, Int.reduceMul, Int.reduceNeg, Int.reduceToNat, reduceCtorEq, Nat.reduceBEq, Nat.reduceLT]
              simp [valB]
            · rintro i fr H' ⟨hi, f0, f4, f5, ha, rfl⟩
              unfold r4Decimal.L0
              have hw : IntKind.i64.wrap ((i : Int) + 1) = ((i + 1 : Nat) : Int) := wrap64 (by omega)
              by_cases hlt : i < l.length
              · obtain ⟨b, hbi⟩ : ∃ b, l[i]? = some b := ⟨_, List.getElem?_eq_getElem hlt⟩
                have htk : l.take (i + 1) = l.take i ++ [b] := by rw [List.take_add_one, hbi]; rfl
                have hdg := dig_iff b
                by_cases q1 : (b.toNat : Int) < 48
                · have hd : decB l = none := by
                    unfold decB; rw [if_neg]
                    intro h
                    have := List.all_eq_true.1 h.1.2.2 b (List.mem_of_getElem? hbi)
                    rw [hdg] at this; simp at this; omega
                  simp (implicitDefEqProofs := false) only [go_sem, reduceIte, Nat.reduceEqDiff, Nat.reduceAdd, Nat.reduceSub, Nat.reduceMul, Nat.reduceLeDiff, Int.reduceLT, Int.reduceLE, Int.reduceEq, Int.reduceAdd, Int.reduceSub, Int.reduceMul, Int.reduceNeg, Int.reduceToNat, reduceCtorEq, Nat.reduceBEq, Nat.reduceLT, f0, f4, f5, hlt, hbi, q1, hd, Option.isSome_none]
                · by_cases q2 : 57 < (b.toNat : Int)
                  · have hd : decB l = none := by
                      unfold decB; rw [if_neg]
                      intro h
                      have := List.all_eq_true.1 h.1.2.2 b (List.mem_of_getElem? hbi)
                      rw [hdg] at this; simp at this; omega
                    simp (implicitDefEqProofs := false) only [go_sem, reduceIte, Nat.reduceEqDiff, Nat.reduceAdd, Nat.reduceSub, Nat.reduceMul, Nat.reduceLeDiff, Int.reduceLT, Int.reduceLE, Int.reduceEq, Int.reduceAdd, Int.reduceSub, Int.reduceMul, Int.reduceNeg, Int.reduceToNat, reduceCtorEq, Nat.reduceBEq, Nat.reduceLT, f0, f4, f5, hlt, hbi, q1, q2, hd, Option.isSome_none]
                  · have hb1 : digB b = true := by rw [hdg]; simp; omega
                    have hv : valB (l.take (i + 1)) = 10 * valB (l.take i) + (b.toNat - 48) := by rw [htk, valB_snoc]
                    have hbd : valB (l.take i) < 10 ^ i := valB_lt i (l.take i) (by simp; omega) ha
                    have hi8 : i ≤ 8 := by omega
                    have hp : 10 ^ i ≤ 10 ^ 8 := Nat.pow_le_pow_right (by decide) hi8
                    have w1 : IntKind.i64.wrap ((valB (l.take i) : Int) * 10) = (valB (l.take i) : Int) * 10 := wrap64 (by omega)
                    have w2 : IntKind.u8.wrap ((b.toNat : Int) - 48) = (b.toNat : Int) - 48 := by
                      simp [IntKind.wrap, IntKind.bits, IntKind.signed]; omega
                    have w3 : IntKind.i64.wrap ((b.toNat : Int) - 48) = (b.toNat : Int) - 48 := wrap64 (by omega)
                    have w4 : IntKind.i64.wrap ((valB (l.take i) : Int) * 10 + ((b.toNat : Int) - 48)) = ((valB (l.take (i + 1)) : Nat) : Int) := by rw [wrap64 (by omega), hv]; omega
                    simp (implicitDefEqProofs := false) only [go_sem, reduceIte, Nat.reduceEqDiff, Nat.reduceAdd, Nat.reduceSub, Nat.reduceMul, Nat.reduceLeDiff, Int.reduceLT, Int.reduceLE, Int.reduceEq, Int.reduceAdd, Int.reduceSub, Int.reduceMul, Int.reduceNeg, Int.reduceToNat, reduceCtorEq, Nat.reduceBEq, Nat.reduceLT, f0, f4, f5, hlt, hbi, q1, q2, w1, w2, w3, w4, hw]
                    exact ⟨by omega, by rw [htk]; simp only [List.all_append, ha, List.all_cons, hb1, List.all_nil, Bool.and_self]⟩
              · have hil : i = l.length := by omega
                subst hil
                rw [List.take_length] at ha f4
                have hd : decB l = some (valB l) := by
                  unfold decB
                  rw [if_pos]
                  refine ⟨⟨?_, by omega, ha⟩, fun h => ?_⟩
                  · intro e; rw [e] at hlen; simp at hlen
                  · have : ¬ (1 < l.length) := fun h1 => hcond ⟨h1, h⟩
                    omega
                simp (implicitDefEqProofs := false) only [go_sem, reduceIte, Nat.reduceEqDiff, Nat.reduceAdd, Nat.reduceSub, Nat.reduceMul, Nat.reduceLeDiff, Int.reduceLT, Int.reduceLE, Int.reduceEq, Int.reduceAdd, Int.reduceSub, Int.reduceMul, Int.reduceNeg, Int.reduceToNat, reduceCtorEq, Nat.reduceBEq, Nat.reduceLT, f0, f4, f5, hlt]
                rw [wpO_eq]
                unfold r4Decimal.R0
                simp (implicitDefEqProofs := false) only [go_sem, reduceIte, Nat.reduceEqDiff, Nat.reduceAdd, Nat.reduceSub, Nat.reduceMul, Nat.reduceLeDiff, Int.reduceLT, Int.reduceLE, Int.reduceEq, Int.reduceAdd, Int.reduceSub, Int.reduceMul, Int.reduceNeg, Int.reduceToNat, reduceCtorEq, Nat.reduceBEq, Nat.reduceLT, f0, f4, f5, hd, Option.isSome_some]
  · cases hs

end Go.Proofs.W

namespace Go.Proofs.W
set_option linter.unusedSimpArgs false
set_option maxRecDepth 20000
open Go Go.IL Go.Proofs
def r4Parts.R0 : IC :=
  (.reg 4 [⟨some 12, (.move (.tmp (6 : Nat))), none⟩,
    ⟨some 13, (.binOp .add 3 (.tmp (12 : Nat)) (.const (.int .i64 1)) 3), none⟩,
    ⟨some 6, (.assign (.tmp (13 : Nat))), none⟩] false)
def r4Parts.L0 : IC :=
  (.seq (.seq (.reg 3 [⟨some 8, (.move (.tmp (6 : Nat))), none⟩,
    ⟨some 9, (.move (.tmp (0 : Nat))), none⟩,
    ⟨some 10, (.call { callee := (.builtin .len), args := #[(.tmp (9 : Nat))], argTypes := #[9] }), none⟩,
    ⟨some 11, (.binOp .lss 3 (.tmp (8 : Nat)) (.tmp (10 : Nat)) 3), none⟩] false)
  (.cond (.tmp (11 : Nat)) .skip (.exit 0)))
  (.seq (.block 1 (.seq (.seq (.reg 5 [⟨some 14, (.move (.tmp (0 : Nat))), none⟩,
    ⟨some 15, (.move (.tmp (6 : Nat))), none⟩,
    ⟨some 16, (.index 9 (.tmp (14 : Nat)) (.tmp (15 : Nat))), none⟩,
    ⟨some 17, (.move (.tmp (1 : Nat))), none⟩,
    ⟨some 18, (.binOp .eql 5 (.tmp (16 : Nat)) (.tmp (17 : Nat)) 5), none⟩] false)
  (.cond (.tmp (18 : Nat)) (.seq (.reg 6 [⟨some 19, (.move (.tmp (5 : Nat))), none⟩,
    ⟨some 20, (.buildSlice 43 1 #[(0, (.const (.string ⟨#[]⟩)))]), none⟩,
    ⟨some 21, (.call { callee := (.builtin .append), args := #[(.tmp (19 : Nat)), (.tmp (20 : Nat))], argTypes := #[43, 43] }), none⟩,
    ⟨some 5, (.assign (.tmp (21 : Nat))), none⟩] false)
  (.exit 1)) .skip))
  (.reg 7 [⟨some 22, (.move (.tmp (5 : Nat))), none⟩,
    ⟨some 23, (.move (.tmp (5 : Nat))), none⟩,
    ⟨some 24, (.call { callee := (.builtin .len), args := #[(.tmp (23 : Nat))], argTypes := #[43] }), none⟩,
    ⟨some 25, (.binOp .sub 3 (.tmp (24 : Nat)) (.const (.int .i64 1)) 3), none⟩,
    ⟨some 26, (.move (.tmp (5 : Nat))), none⟩,
    ⟨some 27, (.move (.tmp (5 : Nat))), none⟩,
    ⟨some 28, (.call { callee := (.builtin .len), args := #[(.tmp (27 : Nat))], argTypes := #[43] }), none⟩,
    ⟨some 29, (.binOp .sub 3 (.tmp (28 : Nat)) (.const (.int .i64 1)) 3), none⟩,
    ⟨some 30, (.indexAddr 43 (.tmp (26 : Nat)) (.tmp (29 : Nat))), none⟩,
    ⟨some 31, (.load 9 (.tmp (30 : Nat))), none⟩,
    ⟨some 32, (.move (.tmp (0 : Nat))), none⟩,
    ⟨some 33, (.move (.tmp (6 : Nat))), none⟩,
    ⟨some 34, (.move (.tmp (6 : Nat))), none⟩,
    ⟨some 35, (.binOp .add 3 (.tmp (34 : Nat)) (.const (.int .i64 1)) 3), none⟩,
    ⟨some 36, (.slice 9 (.tmp (32 : Nat)) (some (.tmp (33 : Nat))) (some (.tmp (35 : Nat))) none), none⟩,
    ⟨some 37, (.binOp .add 9 (.tmp (31 : Nat)) (.tmp (36 : Nat)) 9), none⟩,
    ⟨some 38, (.indexAddr 43 (.tmp (22 : Nat)) (.tmp (25 : Nat))), none⟩,
    ⟨none, (.store 9 (.tmp (38 : Nat)) (.tmp (37 : Nat))), none⟩] true)))
  (cutIC r4Parts.R0)))
def r4Parts.R1 : IC :=
  (.seq (.reg 8 [⟨some 39, (.move (.tmp (5 : Nat))), none⟩,
    ⟨some 4, (.assign (.tmp (39 : Nat))), none⟩] false)
  .ret)
def r4Parts.c : IC :=
  (.seq (.reg 0 [⟨some 4, (.assign (.const (.slice none 0 0))), none⟩] false)
  (.seq (.reg 1 [⟨some 7, (.buildSlice 43 1 #[(0, (.const (.string ⟨#[]⟩)))]), none⟩,
    ⟨some 5, (.assign (.tmp (7 : Nat))), none⟩] false)
  (.seq (.seq (.reg 2 [⟨some 6, (.assign (.const (.int .i64 0))), none⟩] false)
  (.block 0 (.loop r4Parts.L0)))
  (cutIC r4Parts.R1))))
theorem r4Parts.of : Tryz.f110.body.bind IC.of = some r4Parts.c := by kernel_rfl
theorem r4Parts.ok : Tryz.f110.body.map (okCode Tryz.prog Tryz.f110.ntmps (fun _ _ => false)) = some true := by kernel_rfl
variable {W0 : World}
theorem partsB_snoc (c : UInt8) : ∀ (l : Text) (b : UInt8), partsB c (l ++ [b]) = if b = c then partsB c l ++ [[]] else (partsB c l).dropLast ++ [(partsB c l).getLastD [] ++ [b]]
  | [], b => by
    by_cases h : b = c <;> simp [partsB, h]
  | a :: l, b => by
    have ih := partsB_snoc c l b
    have hne := partsB_ne c l
    simp only [List.cons_append, partsB]
    by_cases ha : a = c
    · simp only [ha, if_true]
      rw [ih]
      by_cases hb : b = c
      · simp [hb]
      · simp only [hb, if_false]
        obtain ⟨p, ps, hp⟩ := List.exists_cons_of_ne_nil hne
        rw [hp]; simp
    · simp only [ha, if_false]
      rw [ih]
      obtain ⟨p, ps, hp⟩ := List.exists_cons_of_ne_nil hne
      rw [hp]
      by_cases hb : b = c
      · simp [hb]
      · simp only [hb, if_false]
        cases ps with
        | nil => simp
        | cons q qs => simp
theorem partsB_len (c : UInt8) : ∀ l : Text, (partsB c l).length ≤ l.length + 1
  | [] => by simp [partsB]
  | b :: l => by
    have := partsB_len c l
    unfold partsB
    split
    · simp; omega
    · split
      · rename_i p ps h; rw [h] at this; simp at this ⊢; omega
      · simp
theorem partsB_le (c : UInt8) : ∀ (l p : Text), p ∈ partsB c l → p.length ≤ l.length
  | [], p, h => by simp [partsB] at h; simp [h]
  | b :: l, p, h => by
    unfold partsB at h
    split at h
    · rcases List.mem_cons.1 h with h | h
      · simp [h]
      · have := partsB_le c l p h; simp; omega
    · split at h
      · rename_i q qs hq
        rcases List.mem_cons.1 h with h | h
        · have := partsB_le c l q (by rw [hq]; simp); rw [h]; simp; exact this
        · have := partsB_le c l p (by rw [hq]; simp [h]); simp; omega
      · simp at h; simp [h]
theorem set_last {α : Type} (l : List α) (h : l ≠ []) (x : α) : l.set (l.length - 1) x = l.dropLast ++ [x] := by
  obtain ⟨a, b, rfl⟩ : ∃ a b, l = a ++ [b] := ⟨l.dropLast, l.getLast h, (List.dropLast_concat_getLast h).symm⟩
  simp
theorem fits_strs (l : List Text) : fits 1 (l.map V.str) = true := by simp [fits, V.cells]
theorem w_r4Parts : PureF Tryz.prog W0 110 sParts := by
  refine PureF.of (rs := [(.tmp 4)]) (fun _ _ => false) (Φ := []) trivial T.mixed Tryz.func110 r4Parts.of rfl r4Parts.ok rfl ?_
  intro args H v hs
  unfold sParts at hs
  split at hs
  · rename_i l c
    split at hs
    · rename_i hl
      unfold big at hl
      simp only [Option.map_eq_some_iff] at hs
      obtain ⟨b, hb, rfl⟩ := hs
      have hc := u8?_some hb
      subst hc
      refine ⟨by simp [Tryz.f110], ?_⟩
      unfold r4Parts.c strsV
      simp (implicitDefEqProofs := false) (contextual := true) only [go_sem, reduceIte, Nat.reduceEqDiff, Nat.reduceAdd, Nat.reduceSub, Nat.reduceMul, Nat.reduceLeDiff, Int.reduceLT, Int.reduceLE, Int.reduceEq, Int.reduceAdd, Int.reduceSub, Int.reduceMul, Int.reduceNeg, Int.reduceToNat, reduceCtorEq, Nat.reduceBEq, Nat.reduceLT]
      intro id hid
      refine wpO_up l.length (fun i fr H' => i ≤ l.length ∧ fr 0 = .str l ∧ fr 1 = .val (.int .u8 b.toNat) ∧ fr 6 = .val (.int .i64 i) ∧ Keeps H H' ∧
        ∃ id, H id = .dead ∧ fr 5 = .ar id 1 0 (partsB b (l.take i)).length ∧ H' id = .mem 1 ((partsB b (l.take i)).map .str)) 0 ?_ ?_
      · simp (implicitDefEqProofs := false) (contextual := true) only [go_sem, reduceIte, Nat.reduceEqDiff, Nat.reduceAdd, Nat.reduceSub, Nat.reduceMul, Nat.reduceLeDiff, Int.reduceLT, Int.reduceLE, Int.reduceEq, Int.reduceAdd, Int.reduceSub, Int.reduceMul, Int.reduceNeg, Int.reduceToNat, reduceCtorEq, Nat.reduceBEq, Nat.reduceLT, List.take_zero, partsB, Keeps_set, hid]
        exact ⟨by omega, id, hid, rfl, by simp⟩
      · rintro i fr H' ⟨hi, f0, f1, f6, hk, id, hid, f5, hH⟩
        unfold r4Parts.L0
        have hw : IntKind.i64.wrap ((i : Int) + 1) = ((i + 1 : Nat) : Int) := wrap64 (by omega)
        have hplen := partsB_len b (l.take i)
        rw [List.length_take] at hplen
        by_cases hlt : i < l.length
        · obtain ⟨d, hdi⟩ : ∃ d, l[i]? = some d := ⟨_, List.getElem?_eq_getElem hlt⟩
          have htk : l.take (i + 1) = l.take i ++ [d] := by rw [List.take_add_one, hdi]; rfl
          by_cases hd : d = b
          · subst hd
            have hle2 : i + 1 ≤ l.length := by omega
            have hps := partsB_snoc d (l.take i) d
            rw [if_pos rfl, ← htk] at hps
            simp (implicitDefEqProofs := false) only [go_sem, reduceIte, Nat.reduceEqDiff, Nat.reduceAdd, Nat.reduceSub, Nat.reduceMul, Nat.reduceLeDiff, Int.reduceLT, Int.reduceLE, Int.reduceEq, Int.reduceAdd, Int.reduceSub, Int.reduceMul, Int.reduceNeg, Int.reduceToNat, reduceCtorEq, Nat.reduceBEq, Nat.reduceLT, f0, f1, f5, f6, hlt, hdi, hH]
            intro id2 hd2
            have hne : id ≠ id2 := by rintro rfl; rw [hH] at hd2; cases hd2
            intro id3 h3 h3' hd3
            simp (implicitDefEqProofs := false) only [go_sem, reduceIte, Nat.reduceEqDiff, Nat.reduceAdd, Nat.reduceSub, Nat.reduceMul, Nat.reduceLeDiff, Int.reduceLT, Int.reduceLE, Int.reduceEq, Int.reduceAdd, Int.reduceSub, Int.reduceMul, Int.reduceNeg, Int.reduceToNat, reduceCtorEq, Nat.reduceBEq, Nat.reduceLT, hne, hH, f0, f1, f5, f6]
            refine ⟨by omega, ?_⟩
            rw [wpO_eq]
            unfold r4Parts.R0
            simp (implicitDefEqProofs := false) only [go_sem, reduceIte, Nat.reduceEqDiff, Nat.reduceAdd, Nat.reduceSub, Nat.reduceMul, Nat.reduceLeDiff, Int.reduceLT, Int.reduceLE, Int.reduceEq, Int.reduceAdd, Int.reduceSub, Int.reduceMul, Int.reduceNeg, Int.reduceToNat, reduceCtorEq, Nat.reduceBEq, Nat.reduceLT, f0, f1, f6, hw, hlt, hps, List.map_append]
            exact ⟨hle2, ((hk.set (hk.dead hd2)).set hid).set (hk.dead hd3), id3, hk.dead hd3, rfl, by simp⟩
          · have hd' : ¬ ((d.toNat : Int) = (b.toNat : Int)) := fun h => hd (UInt8.toNat_inj.1 (by omega))
            have hps := partsB_snoc b (l.take i) d
            rw [if_neg hd, ← htk] at hps
            have hpne := partsB_ne b (l.take i)
            have hpl : 0 < (partsB b (l.take i)).length := List.length_pos_iff.2 hpne
            have hw3 : IntKind.i64.wrap (((partsB b (l.take i)).length : Int) - 1) = (((partsB b (l.take i)).length - 1 : Nat) : Int) := by rw [wrap64 (by omega)]; omega
            have hlast : (partsB b (l.take i))[(partsB b (l.take i)).length - 1]? = some ((partsB b (l.take i)).getLastD []) := by
              rw [← List.getLast?_eq_getElem?, List.getLastD_eq_getLast?]
              rw [List.getLast?_eq_some_getLast hpne]; rfl
            have hlt2 : (partsB b (l.take i)).length - 1 < (partsB b (l.take i)).length := by omega
            have hsl : (l.take (i + 1)).drop i = [d] := by
              have h1 : (l.take i).length = i := by simp; omega
              rw [htk, List.drop_append, List.drop_of_length_le (by omega), h1]; simp
            have hle : i ≤ i + 1 := by omega
            have hle2 : i + 1 ≤ l.length := by omega
            simp (implicitDefEqProofs := false) (contextual := true) only [go_sem, reduceIte, Nat.reduceEqDiff, Nat.reduceAdd, Nat.reduceSub, Nat.reduceMul, Nat.reduceLeDiff, Int.reduceLT, Int.reduceLE, Int.reduceEq, Int.reduceAdd, Int.reduceSub, Int.reduceMul, Int.reduceNeg, Int.reduceToNat, reduceCtorEq, Nat.reduceBEq, Nat.reduceLT, f0, f1, f5, f6, hlt, hdi, hH, hd', hw3, hlast, hlt2, hw, hsl, hle, hle2]
            have hln : ((partsB b (l.take i)).getLastD []).length ≤ l.length := by
              rw [List.getLastD_eq_getLast?, List.getLast?_eq_some_getLast hpne]
              have := partsB_le b (l.take i) _ (List.getLast_mem hpne)
              simp at this ⊢; omega
            refine ⟨by omega, ?_⟩
            rw [wpO_eq]
            unfold r4Parts.R0
            simp (implicitDefEqProofs := false) only [go_sem, reduceIte, Nat.reduceEqDiff, Nat.reduceAdd, Nat.reduceSub, Nat.reduceMul, Nat.reduceLeDiff, Int.reduceLT, Int.reduceLE, Int.reduceEq, Int.reduceAdd, Int.reduceSub, Int.reduceMul, Int.reduceNeg, Int.reduceToNat, reduceCtorEq, Nat.reduceBEq, Nat.reduceLT, f0, f1, f5, f6, hw, hlt, hps]
            have hset : ((partsB b (l.take i)).map V.str).set ((partsB b (l.take i)).length - 1) (.str ((partsB b (l.take i)).getLastD [] ++ [d])) = ((partsB b (l.take i)).dropLast ++ [(partsB b (l.take i)).getLastD [] ++ [d]]).map V.str := by
              rw [← set_last _ hpne, List.map_set]
            refine ⟨hle2, hk.set hid, id, hid, ?_, by rw [hset]; simp⟩
            simp
            omega
        · simp (implicitDefEqProofs := false) only [go_sem, reduceIte, Nat.reduceEqDiff, Nat.reduceAdd, Nat.reduceSub, Nat.reduceMul, Nat.reduceLeDiff, Int.reduceLT, Int.reduceLE, Int.reduceEq, Int.reduceAdd, Int.reduceSub, Int.reduceMul, Int.reduceNeg, Int.reduceToNat, reduceCtorEq, Nat.reduceBEq, Nat.reduceLT, f0, f1, f5, f6, hlt]
          rw [wpO_eq]
          unfold r4Parts.R1
          have hil : i = l.length := by omega
          subst hil
          rw [List.take_length] at f5 hH
          simp (implicitDefEqProofs := false) only [go_sem, reduceIte, Nat.reduceEqDiff, Nat.reduceAdd, Nat.reduceSub, Nat.reduceMul, Nat.reduceLeDiff, Int.reduceLT, Int.reduceLE, Int.reduceEq, Int.reduceAdd, Int.reduceSub, Int.reduceMul, Int.reduceNeg, Int.reduceToNat, reduceCtorEq, Nat.reduceBEq, Nat.reduceLT, f5, hH]
          exact hk.set hid
    · cases hs
  · cases hs

end Go.Proofs.W

namespace Go.Proofs.W
set_option linter.unusedSimpArgs false
set_option maxRecDepth 20000
open Go Go.IL Go.Proofs
def r3In.L0 : IC :=
  (.seq (.seq (.reg 3 [⟨some 5, (.move (.tmp (4 : Nat))), none⟩,
    ⟨some 6, (.move (.tmp (3 : Nat))), none⟩,
    ⟨some 7, (.call { callee := (.builtin .len), args := #[(.tmp (6 : Nat))], argTypes := #[9] }), none⟩,
    ⟨some 8, (.binOp .lss 3 (.tmp (5 : Nat)) (.tmp (7 : Nat)) 3), none⟩] false)
  (.cond (.tmp (8 : Nat)) .skip (.exit 0)))
  (.seq (.block 1 (.seq (.reg 5 [⟨some 11, (.move (.tmp (3 : Nat))), none⟩,
    ⟨some 12, (.move (.tmp (4 : Nat))), none⟩,
    ⟨some 13, (.index 9 (.tmp (11 : Nat)) (.tmp (12 : Nat))), none⟩,
    ⟨some 14, (.move (.tmp (0 : Nat))), none⟩,
    ⟨some 15, (.binOp .eql 5 (.tmp (13 : Nat)) (.tmp (14 : Nat)) 5), none⟩] false)
  (.cond (.tmp (15 : Nat)) (.seq (.reg 6 [⟨some 2, (.assign (.const (.bool true))), none⟩] false)
  .ret) .skip)))
  (.reg 4 [⟨some 9, (.move (.tmp (4 : Nat))), none⟩,
    ⟨some 10, (.binOp .add 3 (.tmp (9 : Nat)) (.const (.int .i64 1)) 3), none⟩,
    ⟨some 4, (.assign (.tmp (10 : Nat))), none⟩] false)))
def r3In.R0 : IC :=
  (.seq (.reg 7 [⟨some 2, (.assign (.const (.bool false))), none⟩] false)
  .ret)
def r3In.c : IC :=
  (.seq (.reg 0 [⟨some 2, (.assign (.const (.bool false))), none⟩] false)
  (.seq (.reg 1 [⟨some 3, (.assign (.const (.string ⟨#[97, 98, 99, 100, 101, 102, 103, 104, 105, 106, 107, 108, 109, 110, 111, 112, 113, 114, 115, 116, 117, 118, 119, 120, 121, 122, 65, 66, 67, 68, 69, 70, 71, 72, 73, 74, 75, 76, 77, 78, 79, 80, 81, 82, 83, 84, 85, 86, 87, 88, 89, 90, 48, 49, 50, 51, 52, 53, 54, 55, 56, 57, 46, 47, 45, 95]⟩))), none⟩] false)
  (.seq (.seq (.reg 2 [⟨some 4, (.assign (.const (.int .i64 0))), none⟩] false)
  (.block 0 (.loop r3In.L0)))
  (cutIC r3In.R0))))
theorem r3In.of : Tryz.f191.body.bind IC.of = some r3In.c := by kernel_rfl
theorem r3In.ok : Tryz.f191.body.map (okCode Tryz.prog Tryz.f191.ntmps (fun _ _ => false)) = some true := by kernel_rfl
variable {W0 : World}
def wordBytes : Text := [97, 98, 99, 100, 101, 102, 103, 104, 105, 106, 107, 108, 109, 110, 111, 112, 113, 114, 115, 116, 117, 118, 119, 120, 121, 122, 65, 66, 67, 68, 69, 70, 71, 72, 73, 74, 75, 76, 77, 78, 79, 80, 81, 82, 83, 84, 85, 86, 87, 88, 89, 90, 48, 49, 50, 51, 52, 53, 54, 55, 56, 57, 46, 47, 45, 95]
theorem word_bytes (b : UInt8) : (wordBytes.any fun c => decide (c = b)) = insideB b := by
  have := byte_all (p := fun b => (wordBytes.any fun c => decide (c = b)) == insideB b) (by decide +kernel) b
  simpa using this
theorem w_r3In : PureF Tryz.prog W0 191 sInside := by
  refine PureF.of (rs := [(.tmp 2)]) (fun _ _ => false) (Φ := []) trivial T.mixed Tryz.func191 r3In.of rfl r3In.ok rfl ?_
  intro args H v hs
  unfold sInside at hs
  split at hs
  · rename_i c
    simp only [Option.map_eq_some_iff] at hs
    obtain ⟨b, hb, rfl⟩ := hs
    have hc := u8?_some hb
    subst hc
    refine ⟨by simp [Tryz.f191], ?_⟩
    have hall := word_bytes b
    unfold r3In.c
    rw [show (⟨#[97, 98, 99, 100, 101, 102, 103, 104, 105, 106, 107, 108, 109, 110, 111, 112, 113, 114, 115, 116, 117, 118, 119, 120, 121, 122, 65, 66, 67, 68, 69, 70, 71, 72, 73, 74, 75, 76, 77, 78, 79, 80, 81, 82, 83, 84, 85, 86, 87, 88, 89, 90, 48, 49, 50, 51, 52, 53, 54, 55, 56, 57, 46, 47, 45, 95]⟩ : ByteArray) = ⟨wordBytes.toArray⟩ from rfl]
    have hlen : wordBytes.length = 66 := rfl
    generalize wordBytes = l at *
    simp (implicitDefEqProofs := false) (contextual := true) only [go_sem, reduceIte, Nat.reduceEqDiff, Nat.reduceAdd, Nat.reduceSub, Nat.reduceMul, Nat.reduceLeDiff, Int.reduceLT, Int.reduceLE, Int.reduceEq, Int.reduceAdd, Int.reduceSub, Int.reduceMul, Int.reduceNeg, Int.reduceToNat, reduceCtorEq, Nat.reduceBEq, Nat.reduceLT]
    refine wpO_up l.length (fun i fr H' => i ≤ l.length ∧ fr 0 = .val (.int .u8 b.toNat) ∧ fr 3 = .str l ∧ fr 4 = .val (.int .i64 i) ∧ (∀ j c, j < i → l[j]? = some c → c ≠ b) ∧ H' = H) 0 ?_ ?_
    · simp (implicitDefEqProofs := false) (contextual := true) only [go_sem, reduceIte, Nat.reduceEqDiff, Nat.reduceAdd, Nat.reduceSub, Nat.reduceMul, Nat.reduceLeDiff, Int.reduceLT, Int.reduceLE, Int.reduceEq, Int.reduceAdd, Int.reduceSub, Int.reduceMul, Int.reduceNeg, Int.reduceToNat, reduceCtorEq, Nat.reduceBEq, Nat.reduceLT]
      simp
    · rintro i fr H' ⟨hi, f0, f3, f4, hz, rfl⟩
      unfold r3In.L0
      have hw : IntKind.i64.wrap ((i : Int) + 1) = ((i + 1 : Nat) : Int) := wrap64 (by omega)
      by_cases hlt : i < l.length
      · obtain ⟨c, hci⟩ : ∃ c, l[i]? = some c := ⟨_, List.getElem?_eq_getElem hlt⟩
        by_cases e : c = b
        · have : insideB b = true := by rw [← hall]; exact List.any_eq_true.2 ⟨c, List.mem_of_getElem? hci, by simp [e]⟩
          simp (implicitDefEqProofs := false) only [go_sem, reduceIte, Nat.reduceEqDiff, Nat.reduceAdd, Nat.reduceSub, Nat.reduceMul, Nat.reduceLeDiff, Int.reduceLT, Int.reduceLE, Int.reduceEq, Int.reduceAdd, Int.reduceSub, Int.reduceMul, Int.reduceNeg, Int.reduceToNat, reduceCtorEq, Nat.reduceBEq, Nat.reduceLT, f0, f3, f4, hlt, hci, e, this]
        · have e' : ¬ ((c.toNat : Int) = (b.toNat : Int)) := fun h => e (UInt8.toNat_inj.1 (by omega))
          simp (implicitDefEqProofs := false) only [go_sem, reduceIte, Nat.reduceEqDiff, Nat.reduceAdd, Nat.reduceSub, Nat.reduceMul, Nat.reduceLeDiff, Int.reduceLT, Int.reduceLE, Int.reduceEq, Int.reduceAdd, Int.reduceSub, Int.reduceMul, Int.reduceNeg, Int.reduceToNat, reduceCtorEq, Nat.reduceBEq, Nat.reduceLT, f0, f3, f4, hlt, hci, e', hw]
          and_intros
          all_goals first | omega | skip
          intro j c' hj hc'
          by_cases ej : j = i
          · subst ej; rw [hci] at hc'; cases hc'; exact e
          · exact hz j c' (by omega) hc'
      · have : insideB b = false := by
          rw [← hall, ← Bool.not_eq_true]
          intro h
          obtain ⟨c, hc, he⟩ := List.any_eq_true.1 h
          obtain ⟨j, hj, rfl⟩ := List.mem_iff_getElem.1 hc
          exact hz j _ (by omega) (List.getElem?_eq_getElem hj) (by simpa using he)
        simp (implicitDefEqProofs := false) only [go_sem, reduceIte, Nat.reduceEqDiff, Nat.reduceAdd, Nat.reduceSub, Nat.reduceMul, Nat.reduceLeDiff, Int.reduceLT, Int.reduceLE, Int.reduceEq, Int.reduceAdd, Int.reduceSub, Int.reduceMul, Int.reduceNeg, Int.reduceToNat, reduceCtorEq, Nat.reduceBEq, Nat.reduceLT, f0, f3, f4, hlt]
        rw [wpO_eq]
        unfold r3In.R0
        simp (implicitDefEqProofs := false) only [go_sem, reduceIte, Nat.reduceEqDiff, Nat.reduceAdd, Nat.reduceSub, Nat.reduceMul, Nat.reduceLeDiff, Int.reduceLT, Int.reduceLE, Int.reduceEq, Int.reduceAdd, Int.reduceSub, Int.reduceMul, Int.reduceNeg, Int.reduceToNat, reduceCtorEq, Nat.reduceBEq, Nat.reduceLT, this]
  · cases hs

end Go.Proofs.W

/- Actions as text. -/
namespace Go.Proofs.W
open Go Go.IL

def wordsOfKinds : List Text := [[63], [119, 104, 111, 108, 101], [115, 116, 111, 112], [109, 111, 118, 101], [114, 101, 115, 116, 97, 114, 116], [114, 101, 115, 101, 116], [115, 116, 97, 114, 116], [97, 110, 101, 119], [104, 101, 108, 108, 111, 115], [116, 105, 109, 101, 114, 115]]
def wordK (k : Int) : Text := if 0 ≤ k ∧ k ≤ 9 then (wordsOfKinds[k.toNat]?).getD [63] else [63]
theorem wordK_len (k : Int) : (wordK k).length ≤ 7 := by
  unfold wordK
  split
  · rename_i h
    obtain ⟨n, rfl⟩ := Int.eq_ofNat_of_zero_le h.1
    have : n ≤ 9 := by omega
    match n, this with
    | 0, _ | 1, _ | 2, _ | 3, _ | 4, _ | 5, _ | 6, _ | 7, _ | 8, _ | 9, _ => decide
    | n + 10, h => omega
  · decide
def sWordK : Sem1 := fun args _ => match args with
  | [.val (.int .i64 k)] => some (.str (wordK k))
  | _ => none
@[go_sem] theorem sWordK_eq (k : Int) (H : Heap) : sWordK [.val (.int .i64 k)] H = some (.str (wordK k)) := rfl
/-- One action's row of text. -/
def rowT (a : Act) : Text := wordK a.kind ++ (if a.name = [] then [] else 32 :: a.name) ++ [10]
def textT (l : List Act) : Text := (l.map rowT).flatten
def actOf : V → Option Act
  | .agg [.val (.int .i64 k), .str n] => some ⟨k, n⟩
  | _ => none
def actsOf : List V → Option (List Act)
  | [] => some []
  | v :: vs => (actOf v).bind fun a => (actsOf vs).map fun l => a :: l
@[go_sem] theorem actsOf_map : ∀ l : List Act, actsOf (l.map actV) = some l
  | [] => rfl
  | a :: l => by simp [actsOf, actsOf_map l, actOf, actV]
theorem actsOf_some : ∀ {vs : List V} {l : List Act}, actsOf vs = some l → vs = l.map actV
  | [], l, h => by simp [actsOf] at h; subst h; rfl
  | v :: vs, l, h => by
    simp only [actsOf, Option.bind_eq_some_iff, Option.map_eq_some_iff] at h
    obtain ⟨a, h1, ls, h2, rfl⟩ := h
    rw [actsOf_some h2]
    unfold actOf at h1
    split at h1
    · cases h1; rfl
    · cases h1
/-- Actions that are no more, and no longer, than may be. -/
def actsFit (l : List Act) : Prop := l.length ≤ 512 ∧ ∀ a ∈ l, a.name.length ≤ 1048576
instance (l : List Act) : Decidable (actsFit l) := inferInstanceAs (Decidable (_ ∧ _))
theorem rowT_len {a : Act} (h : a.name.length ≤ 1048576) : (rowT a).length ≤ 1048600 := by
  have := wordK_len a.kind
  unfold rowT
  split <;> simp <;> omega
theorem textT_len : ∀ {l : List Act}, (∀ a ∈ l, a.name.length ≤ 1048576) → (textT l).length ≤ l.length * 1048600
  | [], _ => by simp [textT]
  | a :: l, h => by
    have h1 := rowT_len (h a List.mem_cons_self)
    have h2 := textT_len (l := l) (fun b hb => h b (List.mem_cons_of_mem _ hb))
    have : textT (a :: l) = rowT a ++ textT l := by simp [textT]
    rw [this, List.length_append, List.length_cons, Nat.add_mul]
    omega
def sTextT : Sem1 := fun args _ => match args with
  | [.sl xs] => (actsOf xs).bind fun l => if actsFit l then some (.str (textT l)) else none
  | _ => none
@[go_sem] theorem sTextT_eq (xs : List V) (H : Heap) : sTextT [.sl xs] H = (actsOf xs).bind fun l => if actsFit l then some (.str (textT l)) else none := rfl
end Go.Proofs.W

/- What the library's contracts say, in my own words. -/
namespace Go.Proofs.W
open Go Go.IL

theorem idx_byte (c : UInt8) : ∀ l : Text, Lib.indexByte l c = bIdx l c
  | [] => rfl
  | b :: l => by
    have ih := idx_byte c l
    unfold bIdx at ih ⊢
    rw [Lib.indexByte, ih, List.findIdx?_cons]
    by_cases h : b = c
    · simp [h]
    · have hb : (b == c) = false := by simp [h]
      rw [hb]
      cases hf : l.findIdx? (fun b => decide (b = c)) with
      | none => simp [h]
      | some i =>
        have : ¬ ((i : Int) == -1) = true := by simp <;> omega
        simp [h, this]
theorem cmp_bytes : ∀ a b : Text, Lib.compareBytes a b = cmp3 (Op.bytesLess a b) (decide (a = b))
  | [], [] => rfl
  | [], _ :: _ => rfl
  | _ :: _, [] => rfl
  | x :: a, y :: b => by
    have ih := cmp_bytes a b
    rw [Lib.compareBytes, ih]
    simp only [Op.bytesLess]
    by_cases h1 : x < y
    · have : x ≠ y := fun e => by subst e; exact UInt8.lt_irrefl _ h1
      simp [h1, cmp3]
    · by_cases h2 : y < x
      · have : x ≠ y := fun e => by subst e; exact UInt8.lt_irrefl _ h2
        simp [h1, h2, this, cmp3]
      · have : x = y := by
          rw [UInt8.lt_iff_toNat_lt] at h1 h2
          exact UInt8.toNat_inj.1 (by omega)
        subst this
        simp [h1, cmp3]
theorem index_one (c : UInt8) : ∀ l : Text, Lib.index l [c] = Lib.indexByte l c
  | [] => rfl
  | b :: l => by
    rw [Lib.index, Lib.indexByte, index_one c l]
    have : ([c] : Text).isPrefixOf (b :: l) = (b == c) := by
      simp only [List.isPrefixOf, Bool.and_true]
      rw [Bool.eq_iff_iff, beq_iff_eq, beq_iff_eq]
      exact eq_comm
    rw [this]
theorem dw_nil {α : Type} {p : α → Bool} {l : List α} : l.dropWhile p = [] ↔ ∀ x ∈ l, p x = true := by
  induction l with
  | nil => simp
  | cons a l ih =>
    rw [List.dropWhile_cons]
    by_cases h : p a = true
    · simp [h, ih]
    · simp [h]
theorem tw_all {α : Type} {p : α → Bool} {l : List α} (h : ∀ x ∈ l, p x = true) : l.takeWhile p = l := by
  induction l with
  | nil => rfl
  | cons a l ih => rw [List.takeWhile_cons, if_pos (h a List.mem_cons_self), ih (fun x hx => h x (List.mem_cons_of_mem _ hx))]
/-- A text ahead of a sign and behind it. -/
theorem bIdx_split {l : Text} {c : UInt8} {i : Nat} (h : bIdx l c = i) : l.take i = l.takeWhile (fun b => decide (b ≠ c)) ∧ l.drop (i + 1) = (l.dropWhile (fun b => decide (b ≠ c))).drop 1 ∧ c ∈ l := by
  induction l generalizing i with
  | nil => have h0 : bIdx [] c = -1 := rfl; omega
  | cons b l ih =>
    unfold bIdx at h ih
    rw [List.findIdx?_cons] at h
    by_cases hb : b = c
    · subst hb
      simp at h
      have : i = 0 := by omega
      subst this
      simp
    · simp only [hb, decide_false, Bool.false_eq_true, if_false] at h
      cases hf : l.findIdx? (fun b => decide (b = c)) with
      | none => rw [hf] at h; simp at h
      | some j =>
        rw [hf] at h ih
        simp at h
        have : i = j + 1 := by omega
        subst this
        obtain ⟨e1, e2, e3⟩ := ih rfl
        refine ⟨?_, ?_, List.mem_cons_of_mem _ e3⟩
        · rw [List.take_succ_cons, List.takeWhile_cons]; simp [hb, e1]
        · rw [List.drop_succ_cons, List.dropWhile_cons]; simp [hb, e2]
theorem bIdx_neg {l : Text} {c : UInt8} (h : bIdx l c < 0) : bIdx l c = -1 ∧ c ∉ l := by
  unfold bIdx at h ⊢
  cases hf : l.findIdx? (fun b => decide (b = c)) with
  | none =>
    rw [List.findIdx?_eq_none_iff] at hf
    exact ⟨rfl, fun hm => by have := hf c hm; simp at this⟩
  | some i => rw [hf] at h; simp at h; omega
theorem cut_one (l : Text) (c : UInt8) : Lib.cut l [c] = cutB c l := by
  unfold Lib.cut cutB
  rw [index_one, idx_byte]
  by_cases h : 0 ≤ bIdx l c
  · rw [if_pos h]
    obtain ⟨i, hi⟩ := Int.eq_ofNat_of_zero_le h
    obtain ⟨e1, e2, e3⟩ := bIdx_split hi
    rw [hi]
    have ha : (l.any fun b => decide (b = c)) = true := List.any_eq_true.2 ⟨c, e3, by simp⟩
    simp only [Int.toNat_natCast, List.length_cons, List.length_nil, Nat.zero_add]
    rw [e1, e2, ha]
  · rw [if_neg h]
    obtain ⟨-, hm⟩ := bIdx_neg (by omega : bIdx l c < 0)
    have ha : (l.any fun b => decide (b = c)) = false := by
      rw [← Bool.not_eq_true, List.any_eq_true]
      rintro ⟨x, hx, hp⟩
      simp at hp; subst hp; exact hm hx
    have h1 : l.takeWhile (fun b => decide (b ≠ c)) = l := by
      refine tw_all fun x hx => ?_
      simp; rintro rfl; exact hm hx
    have h2 : l.dropWhile (fun b => decide (b ≠ c)) = [] := by
      rw [dw_nil]
      intro x hx; simp; rintro rfl; exact hm hx
    rw [ha, h1, h2]; rfl
theorem has_one (l : Text) (c : UInt8) : decide (0 ≤ Lib.indexByte l c) = l.any fun b => decide (b = c) := by
  rw [idx_byte]
  by_cases h : 0 ≤ bIdx l c
  · obtain ⟨i, hi⟩ := Int.eq_ofNat_of_zero_le h
    obtain ⟨-, -, e3⟩ := bIdx_split hi
    rw [List.any_eq_true.2 ⟨c, e3, by simp⟩]; simpa using h
  · obtain ⟨-, hm⟩ := bIdx_neg (by omega : bIdx l c < 0)
    have ha : (l.any fun b => decide (b = c)) = false := by
      rw [← Bool.not_eq_true, List.any_eq_true]
      rintro ⟨x, hx, hp⟩
      simp at hp; subst hp; exact hm hx
    rw [ha]; simpa using h
/-- A text's parts: the first, the rest. -/
theorem parts_cut (c : UInt8) : ∀ l : Text, partsB c l = if c ∈ l then l.takeWhile (fun b => decide (b ≠ c)) :: partsB c ((l.dropWhile (fun b => decide (b ≠ c))).drop 1) else [l]
  | [] => rfl
  | b :: l => by
    have ih := parts_cut c l
    rw [show partsB c (b :: l) = if b = c then [] :: partsB c l else (match partsB c l with | p :: ps => (b :: p) :: ps | [] => [[b]]) by rw [partsB]; cases partsB c l <;> rfl]
    by_cases hb : b = c
    · subst hb
      simp
    · have hne : ¬ c = b := fun e => hb e.symm
      rw [if_neg hb, ih]
      by_cases hm : c ∈ l
      · simp [hm, hb, hne]
      · simp [hm, hb, hne]
theorem splitK_parts (c : UInt8) : ∀ (n k : Nat) (l : Text), l.length ≤ n → l.count c ≤ k → Lib.splitK [c] 0 k l = partsB c l
  | 0, k, l, hn, _ => by
    have : l = [] := List.eq_nil_of_length_eq_zero (by omega)
    subst this
    cases k <;> simp [Lib.splitK, partsB, Lib.index]
  | n + 1, k, l, hn, hk => by
    rw [parts_cut]
    by_cases hm : c ∈ l
    · have hpos : 0 < l.count c := List.count_pos_iff.2 hm
      cases k with
      | zero => omega
      | succ k =>
        have hge : 0 ≤ bIdx l c := by
          rcases Int.lt_or_le (bIdx l c) 0 with h | h
          · exact ((bIdx_neg h).2 hm).elim
          · exact h
        obtain ⟨i, hi⟩ := Int.eq_ofNat_of_zero_le hge
        obtain ⟨e1, e2, -⟩ := bIdx_split hi
        rw [if_pos hm, Lib.splitK, index_one, idx_byte, hi]
        have h1 : ¬ (((i : Int)) == -1) = true := by simp <;> omega
        rw [if_neg h1]
        simp only [Int.toNat_natCast, Nat.add_zero, List.length_cons, List.length_nil, Nat.zero_add]
        rw [e1]
        have hdl : (l.drop (i + 1)).length ≤ n := by simp <;> omega
        have hcnt : (l.drop (i + 1)).count c ≤ k := by
          have hsplit : l = l.takeWhile (fun b => decide (b ≠ c)) ++ c :: l.drop (i + 1) := by
            rw [e2]
            have h3 := List.takeWhile_append_dropWhile (p := fun b => decide (b ≠ c)) (l := l)
            have h4 : ∃ r, l.dropWhile (fun b => decide (b ≠ c)) = c :: r := by
              cases hd : l.dropWhile (fun b => decide (b ≠ c)) with
              | nil => rw [dw_nil] at hd; have := hd c hm; simp at this
              | cons x r =>
                have := List.head?_dropWhile_not (p := fun b => decide (b ≠ c)) l
                rw [hd] at this
                simp at this
                exact ⟨r, by rw [this]⟩
            obtain ⟨r, hr⟩ := h4
            rw [hr] at h3 ⊢
            simpa using h3.symm
          have : l.count c = (l.takeWhile (fun b => decide (b ≠ c))).count c + (1 + (l.drop (i + 1)).count c) := by
            conv => lhs; rw [hsplit]
            rw [List.count_append, List.count_cons_self, Nat.add_comm 1]
          omega
        rw [splitK_parts c n k _ hdl hcnt, e2]
    · rw [if_neg hm]
      have hi : bIdx l c = -1 := by
        rcases Int.lt_or_le (bIdx l c) 0 with h | h
        · exact (bIdx_neg h).1
        · obtain ⟨i, hi⟩ := Int.eq_ofNat_of_zero_le h
          exact (hm (bIdx_split hi).2.2).elim
      cases k with
      | zero => rfl
      | succ k => rw [Lib.splitK, index_one, idx_byte, hi]; rfl
theorem digits_mem (b : UInt8) : ([48, 49, 50, 51, 52, 53, 54, 55, 56, 57] : Text).contains b = digB b := by
  have := byte_all (p := fun b => ([48, 49, 50, 51, 52, 53, 54, 55, 56, 57] : Text).contains b == digB b) (by decide +kernel) b
  simpa using this
theorem trim_comm {α : Type} (p : α → Bool) (l : List α) : ((l.reverse.dropWhile p).reverse).dropWhile p = ((l.dropWhile p).reverse.dropWhile p).reverse := by
  by_cases h : l.all p = true
  · have h1 : l.dropWhile p = [] := dw_nil.2 (fun x hx => List.all_eq_true.1 h x hx)
    have h2 : l.reverse.dropWhile p = [] := dw_nil.2 (fun x hx => List.all_eq_true.1 h x (List.mem_reverse.1 hx))
    rw [h1, h2]; rfl
  · -- the last that stays
    induction l with
    | nil => simp at h
    | cons a l ih =>
      by_cases ha : p a = true
      · have hl : ¬ l.all p = true := by simpa [ha] using h
        have e1 : (a :: l).dropWhile p = l.dropWhile p := by rw [List.dropWhile_cons, if_pos ha]
        have e2 : ((a :: l).reverse.dropWhile p).reverse = a :: (l.reverse.dropWhile p).reverse := by
          rw [List.reverse_cons, List.dropWhile_append]
          have : ¬ (l.reverse.dropWhile p).isEmpty = true := by
            rw [List.isEmpty_iff, dw_nil]
            intro hh
            exact hl (List.all_eq_true.2 fun x hx => hh x (List.mem_reverse.2 hx))
          rw [if_neg this]; simp
        rw [e1, e2, List.dropWhile_cons, if_pos ha]
        exact ih hl
      · have e1 : (a :: l).dropWhile p = a :: l := by rw [List.dropWhile_cons, if_neg ha]
        have e2 : ∃ m, ((a :: l).reverse.dropWhile p).reverse = a :: m := by
          rw [List.reverse_cons, List.dropWhile_append]
          split
          · exact ⟨[], by simp [ha]⟩
          · exact ⟨_, by simp; rfl⟩
        obtain ⟨m, hm⟩ := e2
        rw [e1, hm, List.dropWhile_cons, if_neg ha]
theorem trim_digits (l : Text) : Lib.trimS l [48, 49, 50, 51, 52, 53, 54, 55, 56, 57] = trimDig l := by
  unfold Lib.trimS Lib.trimLeftS Lib.trimRightS trimDig
  have : (fun x => ([48, 49, 50, 51, 52, 53, 54, 55, 56, 57] : Text).contains x) = digB := funext digits_mem
  rw [this]
  exact trim_comm digB l
theorem dec_from : ∀ (l : Text) (acc : Nat), l.all digB = true → Lib.decFrom acc l = some (l.foldl (fun n b => 10 * n + (b.toNat - 48)) acc)
  | [], acc, _ => rfl
  | b :: l, acc, h => by
    simp only [List.all_cons, Bool.and_eq_true] at h
    have hb := h.1
    unfold digB at hb
    simp only [Bool.and_eq_true, decide_eq_true_eq] at hb
    rw [UInt8.le_iff_toNat_le, UInt8.le_iff_toNat_le] at hb
    have hd : Lib.digitVal b = some (b.toNat - 48) := by unfold Lib.digitVal; rw [if_pos ⟨hb.1, hb.2⟩]
    rw [Lib.decFrom, hd]
    simp only
    rw [dec_from l _ h.2, List.foldl_cons, Nat.mul_comm acc 10]
theorem atoi_digits {l : Text} (h0 : l ≠ []) (h : l.all digB = true) : Lib.atoi l = some ((valB l : Nat) : Int) := by
  cases l with
  | nil => exact absurd rfl h0
  | cons b l =>
    have hb : digB b = true := by simp only [List.all_cons, Bool.and_eq_true] at h; exact h.1
    have n1 : ¬ (b == 45) = true := by intro e; simp at e; subst e; revert hb; decide
    have n2 : ¬ (b == 43) = true := by intro e; simp at e; subst e; revert hb; decide
    unfold Lib.atoi
    simp only
    rw [if_neg n1, if_neg n2]
    unfold Lib.decNat
    simp only [List.isEmpty_cons, Bool.false_eq_true, if_false]
    rw [dec_from _ _ h]
    rfl
end Go.Proofs.W

namespace Go.Proofs.W
set_option linter.unusedSimpArgs false
set_option maxRecDepth 20000
set_option maxHeartbeats 1000000
open Go Go.IL Go.Proofs
def r3Words.L0 : IC :=
  (.seq (.seq (.reg 9 [⟨some 33, (.move (.tmp (6 : Nat))), none⟩,
    ⟨some 34, (.move (.tmp (0 : Nat))), none⟩,
    ⟨some 35, (.call { callee := (.builtin .len), args := #[(.tmp (34 : Nat))], argTypes := #[9] }), none⟩,
    ⟨some 36, (.binOp .lss 3 (.tmp (33 : Nat)) (.tmp (35 : Nat)) 3), none⟩,
    ⟨some 37, (.move (.tmp (36 : Nat))), none⟩,
    ⟨some 38, (.move (.tmp (0 : Nat))), some (37, true)⟩,
    ⟨some 39, (.move (.tmp (6 : Nat))), some (37, true)⟩,
    ⟨some 40, (.index 9 (.tmp (38 : Nat)) (.tmp (39 : Nat))), some (37, true)⟩,
    ⟨some 41, (.binOp .neq 5 (.tmp (40 : Nat)) (.const (.int .u8 10)) 5), some (37, true)⟩,
    ⟨some 42, (.pick (.tmp (37 : Nat)) (.tmp (41 : Nat)) (.const (.bool false))), none⟩] false)
  (.cond (.tmp (42 : Nat)) .skip (.exit 3)))
  (.block 4 (.reg 10 [⟨some 43, (.move (.tmp (6 : Nat))), none⟩,
    ⟨some 44, (.binOp .add 3 (.tmp (43 : Nat)) (.const (.int .i64 1)) 3), none⟩,
    ⟨some 6, (.assign (.tmp (44 : Nat))), none⟩] false)))
def r3Words.L1 : IC :=
  (.seq (.seq (.reg 15 [⟨some 68, (.move (.tmp (8 : Nat))), none⟩,
    ⟨some 69, (.move (.tmp (0 : Nat))), none⟩,
    ⟨some 70, (.call { callee := (.builtin .len), args := #[(.tmp (69 : Nat))], argTypes := #[9] }), none⟩,
    ⟨some 71, (.binOp .lss 3 (.tmp (68 : Nat)) (.tmp (70 : Nat)) 3), none⟩,
    ⟨some 72, (.move (.tmp (71 : Nat))), none⟩,
    ⟨some 73, (.move (.tmp (0 : Nat))), some (72, true)⟩,
    ⟨some 74, (.move (.tmp (8 : Nat))), some (72, true)⟩,
    ⟨some 75, (.index 9 (.tmp (73 : Nat)) (.tmp (74 : Nat))), some (72, true)⟩,
    ⟨some 76, (.call { callee := (.value (.func (191 : Nat))), args := #[(.tmp (75 : Nat))], argTypes := #[5] }), some (72, true)⟩,
    ⟨some 77, (.pick (.tmp (72 : Nat)) (.tmp (76 : Nat)) (.const (.bool false))), none⟩] false)
  (.cond (.tmp (77 : Nat)) .skip (.exit 5)))
  (.block 6 (.reg 16 [⟨some 78, (.move (.tmp (8 : Nat))), none⟩,
    ⟨some 79, (.binOp .add 3 (.tmp (78 : Nat)) (.const (.int .i64 1)) 3), none⟩,
    ⟨some 8, (.assign (.tmp (79 : Nat))), none⟩] false)))
def r3Words.R0 : IC :=
  (.seq (.seq (.reg 17 [⟨some 80, (.move (.tmp (8 : Nat))), none⟩,
    ⟨some 81, (.move (.tmp (6 : Nat))), none⟩,
    ⟨some 82, (.binOp .sub 3 (.tmp (80 : Nat)) (.tmp (81 : Nat)) 3), none⟩,
    ⟨some 83, (.binOp .gtr 3 (.tmp (82 : Nat)) (.const (.int .i64 31)) 3), none⟩] false)
  (.cond (.tmp (83 : Nat)) (.seq (.reg 18 [⟨some 84, (.move (.tmp (6 : Nat))), none⟩,
    ⟨some 2, (.assign (.const (.slice none 0 0))), none⟩,
    ⟨some 3, (.assign (.tmp (84 : Nat))), none⟩,
    ⟨some 4, (.assign (.const (.int .i64 3))), none⟩] false)
  .ret) .skip))
  (.reg 19 [⟨some 85, (.move (.tmp (5 : Nat))), none⟩,
    ⟨some 86, (.move (.tmp (0 : Nat))), none⟩,
    ⟨some 87, (.move (.tmp (6 : Nat))), none⟩,
    ⟨some 88, (.move (.tmp (8 : Nat))), none⟩,
    ⟨some 89, (.slice 9 (.tmp (86 : Nat)) (some (.tmp (87 : Nat))) (some (.tmp (88 : Nat))) none), none⟩,
    ⟨some 90, (.buildSlice 43 1 #[(0, (.tmp (89 : Nat)))]), none⟩,
    ⟨some 91, (.call { callee := (.builtin .append), args := #[(.tmp (85 : Nat)), (.tmp (90 : Nat))], argTypes := #[43, 43] }), none⟩,
    ⟨some 92, (.move (.tmp (8 : Nat))), none⟩,
    ⟨some 5, (.assign (.tmp (91 : Nat))), none⟩,
    ⟨some 6, (.assign (.tmp (92 : Nat))), none⟩] false))
def r3Words.L2 : IC :=
  (.seq (.seq (.reg 3 [⟨some 9, (.move (.tmp (6 : Nat))), none⟩,
    ⟨some 10, (.move (.tmp (0 : Nat))), none⟩,
    ⟨some 11, (.call { callee := (.builtin .len), args := #[(.tmp (10 : Nat))], argTypes := #[9] }), none⟩,
    ⟨some 12, (.binOp .lss 3 (.tmp (9 : Nat)) (.tmp (11 : Nat)) 3), none⟩] false)
  (.cond (.tmp (12 : Nat)) .skip (.exit 0)))
  (.block 1 (.seq (.reg 4 [⟨some 13, (.move (.tmp (0 : Nat))), none⟩,
    ⟨some 14, (.move (.tmp (6 : Nat))), none⟩,
    ⟨some 15, (.index 9 (.tmp (13 : Nat)) (.tmp (14 : Nat))), none⟩,
    ⟨some 7, (.assign (.tmp (15 : Nat))), none⟩] false)
  (.block 2 (.seq (.reg 6 [⟨some 18, (.move (.tmp (7 : Nat))), none⟩,
    ⟨some 19, (.binOp .eql 5 (.tmp (18 : Nat)) (.const (.int .u8 32)) 5), none⟩,
    ⟨some 20, (.move (.tmp (19 : Nat))), none⟩,
    ⟨some 21, (.move (.tmp (7 : Nat))), some (20, false)⟩,
    ⟨some 22, (.binOp .eql 5 (.tmp (21 : Nat)) (.const (.int .u8 9)) 5), some (20, false)⟩,
    ⟨some 23, (.pick (.tmp (20 : Nat)) (.const (.bool true)) (.tmp (22 : Nat))), none⟩,
    ⟨some 24, (.move (.tmp (23 : Nat))), none⟩,
    ⟨some 25, (.move (.tmp (7 : Nat))), some (24, false)⟩,
    ⟨some 26, (.binOp .eql 5 (.tmp (25 : Nat)) (.const (.int .u8 10)) 5), some (24, false)⟩,
    ⟨some 27, (.pick (.tmp (24 : Nat)) (.const (.bool true)) (.tmp (26 : Nat))), none⟩,
    ⟨some 17, (.assign (.tmp (27 : Nat))), none⟩] false)
  (.cond (.tmp (17 : Nat)) (.reg 7 [⟨some 28, (.move (.tmp (6 : Nat))), none⟩,
    ⟨some 29, (.binOp .add 3 (.tmp (28 : Nat)) (.const (.int .i64 1)) 3), none⟩,
    ⟨some 6, (.assign (.tmp (29 : Nat))), none⟩] false) (.seq (.reg 8 [⟨some 31, (.move (.tmp (7 : Nat))), none⟩,
    ⟨some 32, (.binOp .eql 5 (.tmp (31 : Nat)) (.const (.int .u8 35)) 5), none⟩,
    ⟨some 30, (.assign (.tmp (32 : Nat))), none⟩] false)
  (.cond (.tmp (30 : Nat)) (.block 3 (.loop r3Words.L0)) (.seq (.reg 11 [⟨some 46, (.move (.tmp (7 : Nat))), none⟩,
    ⟨some 47, (.binOp .eql 5 (.tmp (46 : Nat)) (.const (.int .u8 123)) 5), none⟩,
    ⟨some 48, (.move (.tmp (47 : Nat))), none⟩,
    ⟨some 49, (.move (.tmp (7 : Nat))), some (48, false)⟩,
    ⟨some 50, (.binOp .eql 5 (.tmp (49 : Nat)) (.const (.int .u8 125)) 5), some (48, false)⟩,
    ⟨some 51, (.pick (.tmp (48 : Nat)) (.const (.bool true)) (.tmp (50 : Nat))), none⟩,
    ⟨some 52, (.move (.tmp (51 : Nat))), none⟩,
    ⟨some 53, (.move (.tmp (7 : Nat))), some (52, false)⟩,
    ⟨some 54, (.binOp .eql 5 (.tmp (53 : Nat)) (.const (.int .u8 59)) 5), some (52, false)⟩,
    ⟨some 55, (.pick (.tmp (52 : Nat)) (.const (.bool true)) (.tmp (54 : Nat))), none⟩,
    ⟨some 45, (.assign (.tmp (55 : Nat))), none⟩] false)
  (.cond (.tmp (45 : Nat)) (.reg 12 [⟨some 56, (.move (.tmp (5 : Nat))), none⟩,
    ⟨some 57, (.move (.tmp (7 : Nat))), none⟩,
    ⟨some 58, (.buildSlice 90 1 #[(0, (.tmp (57 : Nat)))]), none⟩,
    ⟨some 59, (.convert 90 9 (.tmp (58 : Nat))), none⟩,
    ⟨some 60, (.buildSlice 43 1 #[(0, (.tmp (59 : Nat)))]), none⟩,
    ⟨some 61, (.call { callee := (.builtin .append), args := #[(.tmp (56 : Nat)), (.tmp (60 : Nat))], argTypes := #[43, 43] }), none⟩,
    ⟨some 62, (.move (.tmp (6 : Nat))), none⟩,
    ⟨some 63, (.binOp .add 3 (.tmp (62 : Nat)) (.const (.int .i64 1)) 3), none⟩,
    ⟨some 5, (.assign (.tmp (61 : Nat))), none⟩,
    ⟨some 6, (.assign (.tmp (63 : Nat))), none⟩] false) (.seq (.reg 13 [⟨some 65, (.move (.tmp (7 : Nat))), none⟩,
    ⟨some 66, (.call { callee := (.value (.func (191 : Nat))), args := #[(.tmp (65 : Nat))], argTypes := #[5] }), none⟩,
    ⟨some 64, (.assign (.tmp (66 : Nat))), none⟩] false)
  (.cond (.tmp (64 : Nat)) (.seq (.reg 14 [⟨some 67, (.move (.tmp (6 : Nat))), none⟩,
    ⟨some 8, (.assign (.tmp (67 : Nat))), none⟩] false)
  (.seq (.block 5 (.loop r3Words.L1))
  (cutIC r3Words.R0))) (.seq (.reg 5 [⟨some 16, (.move (.tmp (6 : Nat))), none⟩,
    ⟨some 2, (.assign (.const (.slice none 0 0))), none⟩,
    ⟨some 3, (.assign (.tmp (16 : Nat))), none⟩,
    ⟨some 4, (.assign (.const (.int .i64 3))), none⟩] false)
  .ret)))))))))))))
def r3Words.R1 : IC :=
  (.seq (.reg 20 [⟨some 93, (.move (.tmp (5 : Nat))), none⟩,
    ⟨some 94, (.move (.tmp (0 : Nat))), none⟩,
    ⟨some 95, (.call { callee := (.builtin .len), args := #[(.tmp (94 : Nat))], argTypes := #[9] }), none⟩,
    ⟨some 2, (.assign (.tmp (93 : Nat))), none⟩,
    ⟨some 3, (.assign (.tmp (95 : Nat))), none⟩,
    ⟨some 4, (.assign (.const (.int .i64 0))), none⟩] false)
  .ret)
def r3Words.c : IC :=
  (.seq (.reg 0 [⟨some 2, (.assign (.const (.slice none 0 0))), none⟩,
    ⟨some 3, (.assign (.const (.int .i64 0))), none⟩,
    ⟨some 4, (.assign (.const (.int .i64 0))), none⟩] false)
  (.seq (.reg 1 [⟨some 5, (.assign (.const (.slice none 0 0))), none⟩] false)
  (.seq (.seq (.reg 2 [⟨some 6, (.assign (.const (.int .i64 0))), none⟩] false)
  (.block 0 (.loop r3Words.L2)))
  (cutIC r3Words.R1))))
theorem r3Words.of : Tryz.f152.body.bind IC.of = some r3Words.c := by kernel_rfl
theorem r3Words.ok : Tryz.f152.body.map (okCode Tryz.prog Tryz.f152.ntmps (fun _ _ => false)) = some true := by kernel_rfl
variable {W0 : World}
theorem tw_lt {α : Type} {p : α → Bool} : ∀ {l : List α} {k : Nat}, k < (l.takeWhile p).length → ∃ b, l[k]? = some b ∧ p b = true
  | [], k, h => by simp at h
  | a :: l, k, h => by
    rw [List.takeWhile_cons] at h
    split at h
    · rename_i ha
      cases k with
      | zero => exact ⟨a, rfl, ha⟩
      | succ k => obtain ⟨b, h1, h2⟩ := tw_lt (l := l) (p := p) (k := k) (by simpa using h); exact ⟨b, by simpa using h1, h2⟩
    · simp at h
theorem tw_end {α : Type} {p : α → Bool} : ∀ {l : List α} {b : α}, l[(l.takeWhile p).length]? = some b → p b = false
  | [], b, h => by simp at h
  | a :: l, b, h => by
    rw [List.takeWhile_cons] at h
    split at h
    · exact tw_end (l := l) (p := p) (by simpa using h)
    · rename_i ha
      simp at h; subst h; simpa using ha
theorem dw_drop {α : Type} {p : α → Bool} : ∀ {l : List α}, l.dropWhile p = l.drop (l.takeWhile p).length
  | [] => rfl
  | a :: l => by
    rw [List.takeWhile_cons, List.dropWhile_cons]
    split
    · rw [dw_drop (l := l) (p := p)]; rfl
    · rfl
theorem tw_take {α : Type} {p : α → Bool} : ∀ {l : List α}, l.takeWhile p = l.take (l.takeWhile p).length
  | [] => rfl
  | a :: l => by
    rw [List.takeWhile_cons]
    split
    · rw [List.length_cons, List.take_succ_cons, ← tw_take (l := l) (p := p)]
    · rfl
theorem wordsP_fuel : ∀ (n n' p : Nat) (l : Text) (out : List Text), l.length < n → l.length < n' → wordsP n p l out = wordsP n' p l out
  | 0, _, _, l, _, h, _ => by omega
  | _, 0, _, l, _, _, h => by omega
  | n + 1, n' + 1, p, [], out, _, _ => by simp [wordsP]
  | n + 1, n' + 1, p, c :: l, out, h, h' => by
    simp only [List.length_cons] at h h'
    have d1 : ∀ q : UInt8 → Bool, q c = true → ((c :: l).dropWhile q).length ≤ l.length := by
      intro q hq
      rw [List.dropWhile_cons, if_pos hq, dw_drop]
      simp
    unfold wordsP
    by_cases c1 : c = 32 ∨ c = 9 ∨ c = 10
    · rw [if_pos c1, if_pos c1]; exact wordsP_fuel n n' _ _ _ (by omega) (by omega)
    · rw [if_neg c1, if_neg c1]
      by_cases c2 : c = 35
      · rw [if_pos c2, if_pos c2]
        have := d1 (fun b => decide (b ≠ 10)) (by subst c2; rfl)
        exact wordsP_fuel n n' _ _ _ (by omega) (by omega)
      · rw [if_neg c2, if_neg c2]
        by_cases c3 : c = 123 ∨ c = 125 ∨ c = 59
        · rw [if_pos c3, if_pos c3]; exact wordsP_fuel n n' _ _ _ (by omega) (by omega)
        · rw [if_neg c3, if_neg c3]
          by_cases c4 : insideB c = true
          · rw [if_pos c4, if_pos c4]
            have := d1 insideB c4
            split
            · rfl
            · exact wordsP_fuel n n' _ _ _ (by omega) (by omega)
          · rw [if_neg c4, if_neg c4]
theorem w_r3Words (h1 : PureF Tryz.prog W0 191 sInside) : PureF Tryz.prog W0 152 sWords := by
  refine PureF.of (rs := [(.tmp 2), (.tmp 3), (.tmp 4)]) (fun _ _ => false) (Φ := [(191, sInside)]) ⟨h1, trivial⟩ T.mixed Tryz.func152 r3Words.of rfl r3Words.ok rfl ?_
  intro args H v hs
  unfold sWords at hs
  split at hs
  · rename_i t
    split at hs <;> cases hs
    rename_i hlen
    unfold big at hlen
    refine ⟨by simp [Tryz.f152], ?_⟩
    unfold r3Words.c
    simp (implicitDefEqProofs := false) (contextual := true) only [go_sem, reduceIte, Nat.reduceEqDiff, Nat.reduceAdd, Nat.reduceSub, Nat.reduceMul, Nat.reduceLeDiff, Int.reduceLT, Int.reduceLE, Int.reduceEq, Int.reduceAdd, Int.reduceSub, Int.reduceMul, Int.reduceNeg, Int.reduceToNat, reduceCtorEq, Nat.reduceBEq, Nat.reduceLT]
    refine wpO_loop (fun n fr H' => ∃ (i : Nat) (ws : List Text), n = t.length - i ∧ i ≤ t.length ∧ fr 0 = .str t ∧ fr 6 = .val (.int .i64 i) ∧ Grow H H' 1 (fr 5) (ws.map .str) ∧ ws.length ≤ i ∧ wordsP (n + 1) i (t.drop i) ws = wordsB t) t.length ?_ ?_
    · simp (implicitDefEqProofs := false) (contextual := true) only [go_sem, reduceIte, Nat.reduceEqDiff, Nat.reduceAdd, Nat.reduceSub, Nat.reduceMul, Nat.reduceLeDiff, Int.reduceLT, Int.reduceLE, Int.reduceEq, Int.reduceAdd, Int.reduceSub, Int.reduceMul, Int.reduceNeg, Int.reduceToNat, reduceCtorEq, Nat.reduceBEq, Nat.reduceLT]
      exact ⟨0, [], rfl, Nat.zero_le _, rfl, Grow.start (Keeps.refl H), Nat.le_refl _, rfl⟩
    · rintro n fr H' ⟨i, ws, rfl, hi, f0, f6, hg, hwn, hw⟩
      unfold r3Words.L2
      have hw1 : IntKind.i64.wrap ((i : Int) + 1) = ((i + 1 : Nat) : Int) := wrap64 (by omega)
      by_cases hlt : i < t.length
      · obtain ⟨b, hb⟩ : ∃ b, t[i]? = some b := ⟨_, List.getElem?_eq_getElem hlt⟩
        have hdr : t.drop i = b :: t.drop (i + 1) := by
          rw [List.drop_eq_getElem_cons hlt]
          rw [List.getElem?_eq_getElem hlt] at hb
          cases hb; rfl
        obtain ⟨m, hm⟩ : ∃ m, t.length - i = m + 1 := ⟨t.length - i - 1, by omega⟩
        have i32 : ((b.toNat : Int) = 32) = (b = 32) := by apply propext; rw [← UInt8.toNat_inj]; show _ ↔ b.toNat = 32; omega
        have i9 : ((b.toNat : Int) = 9) = (b = 9) := by apply propext; rw [← UInt8.toNat_inj]; show _ ↔ b.toNat = 9; omega
        have i10 : ((b.toNat : Int) = 10) = (b = 10) := by apply propext; rw [← UInt8.toNat_inj]; show _ ↔ b.toNat = 10; omega
        have i35 : ((b.toNat : Int) = 35) = (b = 35) := by apply propext; rw [← UInt8.toNat_inj]; show _ ↔ b.toNat = 35; omega
        have i123 : ((b.toNat : Int) = 123) = (b = 123) := by apply propext; rw [← UInt8.toNat_inj]; show _ ↔ b.toNat = 123; omega
        have i125 : ((b.toNat : Int) = 125) = (b = 125) := by apply propext; rw [← UInt8.toNat_inj]; show _ ↔ b.toNat = 125; omega
        have i59 : ((b.toNat : Int) = 59) = (b = 59) := by apply propext; rw [← UInt8.toNat_inj]; show _ ↔ b.toNat = 59; omega
        have hd := hdr
        rw [hdr, wordsP] at hw
        have nxt : ∀ (j : Nat) (ws' : List Text), i < j → wordsP (t.length - i) j (t.drop j) ws' = wordsB t → wordsP (t.length - j + 1) j (t.drop j) ws' = wordsB t :=
          fun j ws' a1 hw' => by rw [wordsP_fuel (t.length - i) (t.length - j + 1) j (t.drop j) ws' (by simp; omega) (by simp)] at hw'; exact hw'
        by_cases c1 : b = 32 ∨ b = 9 ∨ b = 10
        · rw [if_pos c1] at hw
          have q : (b.toNat : Int) = 32 ∨ (b.toNat : Int) = 9 ∨ (b.toNat : Int) = 10 := by
            rcases c1 with h | h | h
            · exact .inl (by rw [h]; rfl)
            · exact .inr (.inl (by rw [h]; rfl))
            · exact .inr (.inr (by rw [h]; rfl))
          rcases q with q | q | q
          all_goals
            simp (implicitDefEqProofs := false) only [go_sem, reduceIte, Nat.reduceEqDiff, Nat.reduceAdd, Nat.reduceSub, Nat.reduceMul, Nat.reduceLeDiff, Int.reduceLT, Int.reduceLE, Int.reduceEq, Int.reduceAdd, Int.reduceSub, Int.reduceMul, Int.reduceNeg, Int.reduceToNat, reduceCtorEq, Nat.reduceBEq, Nat.reduceLT, f0, f6, hlt, hb, hw1, q]
            exact ⟨t.length - (i + 1), by omega, i + 1, ws, rfl, by omega, rfl, hg, by omega, nxt _ _ (by omega) hw⟩
        · rw [if_neg c1] at hw
          have z1 : ¬ b = 32 := fun e => c1 (.inl e)
          have z2 : ¬ b = 9 := fun e => c1 (.inr (.inl e))
          have z3 : ¬ b = 10 := fun e => c1 (.inr (.inr e))
          by_cases c2 : b = 35
          · rw [if_pos c2, ← hd] at hw
            have q : (b.toNat : Int) = 35 := by rw [c2]; rfl
            simp (implicitDefEqProofs := false) only [go_sem, reduceIte, Nat.reduceEqDiff, Nat.reduceAdd, Nat.reduceSub, Nat.reduceMul, Nat.reduceLeDiff, Int.reduceLT, Int.reduceLE, Int.reduceEq, Int.reduceAdd, Int.reduceSub, Int.reduceMul, Int.reduceNeg, Int.reduceToNat, reduceCtorEq, Nat.reduceBEq, Nat.reduceLT, f0, f6, hlt, hb, q]
            generalize htw : ((t.drop i).takeWhile fun b => decide (b ≠ 10)).length = n at *
            rw [dw_drop, htw, List.drop_drop] at hw
            have hn1 : 1 ≤ n := by rw [← htw, hd, List.takeWhile_cons, c2]; simp
            have hnl : i + n ≤ t.length := by
              have := (List.takeWhile_sublist (l := t.drop i) (fun b : UInt8 => decide (b ≠ 10))).length_le
              rw [htw] at this; simp at this; omega
            refine wpO_up n (fun k fr' H2 => k ≤ n ∧ fr' 0 = .str t ∧ fr' 6 = .val (.int .i64 ((i + k : Nat) : Int)) ∧ fr' 5 = fr 5 ∧ H2 = H') 0 ?_ ?_
            · simp (implicitDefEqProofs := false) only [go_sem, reduceIte, Nat.reduceEqDiff, Nat.reduceAdd, Nat.reduceSub, Nat.reduceMul, Nat.reduceLeDiff, Int.reduceLT, Int.reduceLE, Int.reduceEq, Int.reduceAdd, Int.reduceSub, Int.reduceMul, Int.reduceNeg, Int.reduceToNat, reduceCtorEq, Nat.reduceBEq, Nat.reduceLT, f0, f6]
              exact Nat.zero_le _
            · rintro k fr' H2 ⟨hk, q0, q6, q5, rfl⟩
              unfold r3Words.L0
              have hw3 : IntKind.i64.wrap (((i + k : Nat) : Int) + 1) = ((i + (k + 1) : Nat) : Int) := wrap64 (by omega)
              by_cases hkn : k < n
              · have hlt2 : i + k < t.length := by omega
                obtain ⟨c, hc, hcp⟩ := tw_lt (l := t.drop i) (p := fun b => decide (b ≠ 10)) (k := k) (by rw [htw]; exact hkn)
                rw [List.getElem?_drop] at hc
                have hc10 : ¬ (c.toNat : Int) = 10 := fun e => by
                  have : c = 10 := UInt8.toNat_inj.1 (by show c.toNat = 10; omega)
                  simp [this] at hcp
                simp (implicitDefEqProofs := false) only [go_sem, reduceIte, Nat.reduceEqDiff, Nat.reduceAdd, Nat.reduceSub, Nat.reduceMul, Nat.reduceLeDiff, Int.reduceLT, Int.reduceLE, Int.reduceEq, Int.reduceAdd, Int.reduceSub, Int.reduceMul, Int.reduceNeg, Int.reduceToNat, reduceCtorEq, Nat.reduceBEq, Nat.reduceLT, q0, q6, hlt2, hc, hc10, hw3]
                exact ⟨hkn, by omega, q5⟩
              · have hkn : k = n := by omega
                subst hkn
                by_cases hlt2 : i + k < t.length
                · obtain ⟨c, hc⟩ : ∃ c, t[i + k]? = some c := ⟨_, List.getElem?_eq_getElem hlt2⟩
                  have hcp := tw_end (l := t.drop i) (p := fun b => decide (b ≠ 10)) (b := c) (by rw [htw, List.getElem?_drop]; exact hc)
                  have hc10 : (c.toNat : Int) = 10 := by simp at hcp; rw [hcp]; rfl
                  simp (implicitDefEqProofs := false) only [go_sem, reduceIte, Nat.reduceEqDiff, Nat.reduceAdd, Nat.reduceSub, Nat.reduceMul, Nat.reduceLeDiff, Int.reduceLT, Int.reduceLE, Int.reduceEq, Int.reduceAdd, Int.reduceSub, Int.reduceMul, Int.reduceNeg, Int.reduceToNat, reduceCtorEq, Nat.reduceBEq, Nat.reduceLT, q0, q6, hlt2, hc, hc10]
                  exact ⟨t.length - (i + k), by omega, i + k, ws, rfl, by omega, rfl, by rw [q5]; exact hg, by omega, nxt _ _ (by omega) hw⟩
                · simp (implicitDefEqProofs := false) only [go_sem, reduceIte, Nat.reduceEqDiff, Nat.reduceAdd, Nat.reduceSub, Nat.reduceMul, Nat.reduceLeDiff, Int.reduceLT, Int.reduceLE, Int.reduceEq, Int.reduceAdd, Int.reduceSub, Int.reduceMul, Int.reduceNeg, Int.reduceToNat, reduceCtorEq, Nat.reduceBEq, Nat.reduceLT, q0, q6, hlt2]
                  exact ⟨t.length - (i + k), by omega, i + k, ws, rfl, by omega, rfl, by rw [q5]; exact hg, by omega, nxt _ _ (by omega) hw⟩
          · rw [if_neg c2] at hw
            by_cases c3 : b = 123 ∨ b = 125 ∨ b = 59
            · rw [if_pos c3] at hw
              have q : (b.toNat : Int) = 123 ∨ (b.toNat : Int) = 125 ∨ (b.toNat : Int) = 59 := by
                rcases c3 with h | h | h
                · exact .inl (by rw [h]; rfl)
                · exact .inr (.inl (by rw [h]; rfl))
                · exact .inr (.inr (by rw [h]; rfl))
              rcases q with q | q | q
              all_goals
                have hbo : UInt8.ofNat b.toNat = b := by simp
                rw [← Int.toNat_natCast b.toNat, q] at hbo
                simp only [Int.reduceToNat] at hbo
                simp (implicitDefEqProofs := false) only [go_sem, reduceIte, Nat.reduceEqDiff, Nat.reduceAdd, Nat.reduceSub, Nat.reduceMul, Nat.reduceLeDiff, Int.reduceLT, Int.reduceLE, Int.reduceEq, Int.reduceAdd, Int.reduceSub, Int.reduceMul, Int.reduceNeg, Int.reduceToNat, reduceCtorEq, Nat.reduceBEq, Nat.reduceLT, f0, f6, hlt, hb, hw1, q]
                intro id hid id1 n1 n2 hid1 id2 n3 n4 n5 n6 hid2
                rw [hbo]
                refine (hg.new hid).app (v := .str [b]) (by rw [Heap.set_ne _ _ n1]; exact hid1) (by rw [Heap.set_ne _ _ n3, Heap.set_ne _ _ n5]; exact hid2) T.el43 T.sz9 T.zk9 (by rfl) (by rw [T.by43]; simp; omega) ?_
                intro H'' hg' _ _
                simp (implicitDefEqProofs := false) only [go_sem, reduceIte, Nat.reduceEqDiff, Nat.reduceAdd, Nat.reduceSub, Nat.reduceMul, Nat.reduceLeDiff, Int.reduceLT, Int.reduceLE, Int.reduceEq, Int.reduceAdd, Int.reduceSub, Int.reduceMul, Int.reduceNeg, Int.reduceToNat, reduceCtorEq, Nat.reduceBEq, Nat.reduceLT, f0, f6, hw1]
                exact ⟨t.length - (i + 1), by omega, i + 1, ws ++ [[b]], rfl, by omega, rfl, by simpa using hg', by simp; omega, nxt _ _ (by omega) hw⟩
            · rw [if_neg c3, ← hd] at hw
              have z4 : ¬ b = 123 := fun e => c3 (.inl e)
              have z5 : ¬ b = 125 := fun e => c3 (.inr (.inl e))
              have z6 : ¬ b = 59 := fun e => c3 (.inr (.inr e))
              by_cases c4 : insideB b = true
              · rw [if_pos c4] at hw
                simp (implicitDefEqProofs := false) only [go_sem, reduceIte, Nat.reduceEqDiff, Nat.reduceAdd, Nat.reduceSub, Nat.reduceMul, Nat.reduceLeDiff, Int.reduceLT, Int.reduceLE, Int.reduceEq, Int.reduceAdd, Int.reduceSub, Int.reduceMul, Int.reduceNeg, Int.reduceToNat, reduceCtorEq, Nat.reduceBEq, Nat.reduceLT, f0, f6, hlt, hb, z1, z2, z3, c2, z4, z5, z6, i32, i9, i10, i35, i123, i125, i59, c4]
                generalize htw : ((t.drop i).takeWhile insideB).length = n at *
                have htk : (t.drop i).takeWhile insideB = (t.drop i).take n := by rw [tw_take, htw]
                rw [dw_drop, htw, List.drop_drop, htk] at hw
                have hn1 : 1 ≤ n := by rw [← htw, hd, List.takeWhile_cons, c4]; simp
                have hnl : i + n ≤ t.length := by
                  have := (List.takeWhile_sublist (l := t.drop i) insideB).length_le
                  rw [htw] at this; simp at this; omega
                refine wpO_up n (fun k fr' H2 => k ≤ n ∧ fr' 0 = .str t ∧ fr' 6 = .val (.int .i64 (i : Nat)) ∧ fr' 8 = .val (.int .i64 ((i + k : Nat) : Int)) ∧ fr' 5 = fr 5 ∧ H2 = H') 0 ?_ ?_
                · simp (implicitDefEqProofs := false) only [go_sem, reduceIte, Nat.reduceEqDiff, Nat.reduceAdd, Nat.reduceSub, Nat.reduceMul, Nat.reduceLeDiff, Int.reduceLT, Int.reduceLE, Int.reduceEq, Int.reduceAdd, Int.reduceSub, Int.reduceMul, Int.reduceNeg, Int.reduceToNat, reduceCtorEq, Nat.reduceBEq, Nat.reduceLT, f0, f6]
                  exact Nat.zero_le _
                · rintro k fr' H2 ⟨hk, q0, q6, q8, q5, rfl⟩
                  unfold r3Words.L1
                  have hw3 : IntKind.i64.wrap (((i + k : Nat) : Int) + 1) = ((i + (k + 1) : Nat) : Int) := wrap64 (by omega)
                  by_cases hkn : k < n
                  · have hlt2 : i + k < t.length := by omega
                    obtain ⟨c, hc, hcp⟩ := tw_lt (l := t.drop i) (p := insideB) (k := k) (by rw [htw]; exact hkn)
                    rw [List.getElem?_drop] at hc
                    simp (implicitDefEqProofs := false) only [go_sem, reduceIte, Nat.reduceEqDiff, Nat.reduceAdd, Nat.reduceSub, Nat.reduceMul, Nat.reduceLeDiff, Int.reduceLT, Int.reduceLE, Int.reduceEq, Int.reduceAdd, Int.reduceSub, Int.reduceMul, Int.reduceNeg, Int.reduceToNat, reduceCtorEq, Nat.reduceBEq, Nat.reduceLT, q0, q8, hlt2, hc, hcp, hw3]
                    exact ⟨hkn, by omega, q6, q5⟩
                  · have hkn : k = n := by omega
                    subst hkn
                    have hws : IntKind.i64.wrap (((i + k : Nat) : Int) - (i : Int)) = (k : Int) := by rw [show ((i + k : Nat) : Int) - (i : Int) = (k : Int) by omega]; exact wrap64 (by omega)
                    by_cases hlt2 : i + k < t.length
                    · obtain ⟨c, hc⟩ : ∃ c, t[i + k]? = some c := ⟨_, List.getElem?_eq_getElem hlt2⟩
                      have hcp := tw_end (l := t.drop i) (p := insideB) (b := c) (by rw [htw, List.getElem?_drop]; exact hc)
                      simp (implicitDefEqProofs := false) only [go_sem, reduceIte, Nat.reduceEqDiff, Nat.reduceAdd, Nat.reduceSub, Nat.reduceMul, Nat.reduceLeDiff, Int.reduceLT, Int.reduceLE, Int.reduceEq, Int.reduceAdd, Int.reduceSub, Int.reduceMul, Int.reduceNeg, Int.reduceToNat, reduceCtorEq, Nat.reduceBEq, Nat.reduceLT, q0, q8, hlt2, hc, hcp]
                      rw [wpO_eq]
                      unfold r3Words.R0
                      by_cases h31 : 31 < k
                      · rw [if_pos h31] at hw
                        have h31' : (31 : Int) < (k : Int) := by omega
                        simp (implicitDefEqProofs := false) only [go_sem, reduceIte, Nat.reduceEqDiff, Nat.reduceAdd, Nat.reduceSub, Nat.reduceMul, Nat.reduceLeDiff, Int.reduceLT, Int.reduceLE, Int.reduceEq, Int.reduceAdd, Int.reduceSub, Int.reduceMul, Int.reduceNeg, Int.reduceToNat, reduceCtorEq, Nat.reduceBEq, Nat.reduceLT, q6, q8, hws, h31']
                        rw [← hw]
                        exact ⟨rfl, hg.keeps⟩
                      · rw [if_neg h31] at hw
                        have h31' : ¬ (31 : Int) < (k : Int) := by omega
                        have hsl : i ≤ i + k := by omega
                        simp (implicitDefEqProofs := false) only [go_sem, reduceIte, Nat.reduceEqDiff, Nat.reduceAdd, Nat.reduceSub, Nat.reduceMul, Nat.reduceLeDiff, Int.reduceLT, Int.reduceLE, Int.reduceEq, Int.reduceAdd, Int.reduceSub, Int.reduceMul, Int.reduceNeg, Int.reduceToNat, reduceCtorEq, Nat.reduceBEq, Nat.reduceLT, q0, q6, q8, q5, hws, h31', hsl, hnl]
                        intro s hs id n1 n2 hid
                        refine hg.app (v := .str (List.drop i (List.take (i + k) t))) hs (by rw [Heap.set_ne _ _ n1]; exact hid) T.el43 T.sz9 T.zk9 (by rfl) (by rw [T.by43]; simp; omega) ?_
                        intro H'' hg' _ _
                        have hdt : List.drop i (List.take (i + k) t) = (t.drop i).take k := by rw [List.take_drop]
                        rw [hdt] at hg'
                        simp (implicitDefEqProofs := false) only [go_sem, reduceIte, Nat.reduceEqDiff, Nat.reduceAdd, Nat.reduceSub, Nat.reduceMul, Nat.reduceLeDiff, Int.reduceLT, Int.reduceLE, Int.reduceEq, Int.reduceAdd, Int.reduceSub, Int.reduceMul, Int.reduceNeg, Int.reduceToNat, reduceCtorEq, Nat.reduceBEq, Nat.reduceLT, q0, q8]
                        exact ⟨t.length - (i + k), by omega, i + k, ws ++ [(t.drop i).take k], rfl, by omega, rfl, by simpa using hg', by simp; omega, nxt _ _ (by omega) hw⟩
                    · simp (implicitDefEqProofs := false) only [go_sem, reduceIte, Nat.reduceEqDiff, Nat.reduceAdd, Nat.reduceSub, Nat.reduceMul, Nat.reduceLeDiff, Int.reduceLT, Int.reduceLE, Int.reduceEq, Int.reduceAdd, Int.reduceSub, Int.reduceMul, Int.reduceNeg, Int.reduceToNat, reduceCtorEq, Nat.reduceBEq, Nat.reduceLT, q0, q8, hlt2]
                      rw [wpO_eq]
                      unfold r3Words.R0
                      by_cases h31 : 31 < k
                      · rw [if_pos h31] at hw
                        have h31' : (31 : Int) < (k : Int) := by omega
                        simp (implicitDefEqProofs := false) only [go_sem, reduceIte, Nat.reduceEqDiff, Nat.reduceAdd, Nat.reduceSub, Nat.reduceMul, Nat.reduceLeDiff, Int.reduceLT, Int.reduceLE, Int.reduceEq, Int.reduceAdd, Int.reduceSub, Int.reduceMul, Int.reduceNeg, Int.reduceToNat, reduceCtorEq, Nat.reduceBEq, Nat.reduceLT, q6, q8, hws, h31']
                        rw [← hw]
                        exact ⟨rfl, hg.keeps⟩
                      · rw [if_neg h31] at hw
                        have h31' : ¬ (31 : Int) < (k : Int) := by omega
                        have hsl : i ≤ i + k := by omega
                        simp (implicitDefEqProofs := false) only [go_sem, reduceIte, Nat.reduceEqDiff, Nat.reduceAdd, Nat.reduceSub, Nat.reduceMul, Nat.reduceLeDiff, Int.reduceLT, Int.reduceLE, Int.reduceEq, Int.reduceAdd, Int.reduceSub, Int.reduceMul, Int.reduceNeg, Int.reduceToNat, reduceCtorEq, Nat.reduceBEq, Nat.reduceLT, q0, q6, q8, q5, hws, h31', hsl, hnl]
                        intro s hs id n1 n2 hid
                        refine hg.app (v := .str (List.drop i (List.take (i + k) t))) hs (by rw [Heap.set_ne _ _ n1]; exact hid) T.el43 T.sz9 T.zk9 (by rfl) (by rw [T.by43]; simp; omega) ?_
                        intro H'' hg' _ _
                        have hdt : List.drop i (List.take (i + k) t) = (t.drop i).take k := by rw [List.take_drop]
                        rw [hdt] at hg'
                        simp (implicitDefEqProofs := false) only [go_sem, reduceIte, Nat.reduceEqDiff, Nat.reduceAdd, Nat.reduceSub, Nat.reduceMul, Nat.reduceLeDiff, Int.reduceLT, Int.reduceLE, Int.reduceEq, Int.reduceAdd, Int.reduceSub, Int.reduceMul, Int.reduceNeg, Int.reduceToNat, reduceCtorEq, Nat.reduceBEq, Nat.reduceLT, q0, q8]
                        exact ⟨t.length - (i + k), by omega, i + k, ws ++ [(t.drop i).take k], rfl, by omega, rfl, by simpa using hg', by simp; omega, nxt _ _ (by omega) hw⟩
              · rw [if_neg c4] at hw
                simp (implicitDefEqProofs := false) only [go_sem, reduceIte, Nat.reduceEqDiff, Nat.reduceAdd, Nat.reduceSub, Nat.reduceMul, Nat.reduceLeDiff, Int.reduceLT, Int.reduceLE, Int.reduceEq, Int.reduceAdd, Int.reduceSub, Int.reduceMul, Int.reduceNeg, Int.reduceToNat, reduceCtorEq, Nat.reduceBEq, Nat.reduceLT, f0, f6, hlt, hb, z1, z2, z3, c2, z4, z5, z6, i32, i9, i10, i35, i123, i125, i59, c4]
                rw [← hw]
                exact ⟨rfl, hg.keeps⟩
      · have hic : i = t.length := by omega
        subst hic
        simp (implicitDefEqProofs := false) only [go_sem, reduceIte, Nat.reduceEqDiff, Nat.reduceAdd, Nat.reduceSub, Nat.reduceMul, Nat.reduceLeDiff, Int.reduceLT, Int.reduceLE, Int.reduceEq, Int.reduceAdd, Int.reduceSub, Int.reduceMul, Int.reduceNeg, Int.reduceToNat, reduceCtorEq, Nat.reduceBEq, Nat.reduceLT, f0, f6, hlt]
        rw [wpO_eq]
        unfold r3Words.R1
        rw [List.drop_length, Nat.sub_self, wordsP] at hw
        obtain ⟨H2, e1, e2, -⟩ := hg.frz
        rw [← hw]
        simp (implicitDefEqProofs := false) only [go_sem, reduceIte, Nat.reduceEqDiff, Nat.reduceAdd, Nat.reduceSub, Nat.reduceMul, Nat.reduceLeDiff, Int.reduceLT, Int.reduceLE, Int.reduceEq, Int.reduceAdd, Int.reduceSub, Int.reduceMul, Int.reduceNeg, Int.reduceToNat, reduceCtorEq, Nat.reduceBEq, Nat.reduceLT, f0, e1]
        exact e2
  · cases hs
end Go.Proofs.W

/- Functions of Go's library by their contracts: what they answer, as known functions. -/
namespace Go.IL
open Go Go.Proofs Go.RowKit Go.Sort

section
variable {P : Program} {W0 : World}
theorem Sim.grown {G : Ghost} {H : Heap} {nx : Nat} {w w' : World} (hs : Sim G H nx w) (hz : w.heap.size ≤ w'.heap.size) (hk : ∀ b, b < w.heap.size → w'.heap[b]? = w.heap[b]?) : Sim G H nx w' where
  imm b o v e := by
    have := hs.imm b o v e
    rw [cell_of_block (hk b (cell_lt this.1))]; exact this
  lt i b e := ⟨(hs.lt i b e).1, Nat.lt_of_lt_of_le (hs.lt i b e).2 hz⟩
  obj i hi := by
    obtain ⟨b, e1, e2, e3⟩ := hs.obj i hi
    exact ⟨b, e1, e2, e3.mono G.le_refl rfl (hk b (hs.lt i b e1).2) (fun m st bm hh hm => hk bm (iter_lt (hh ▸ e3) hm))⟩
  inj := hs.inj
  itr := hs.itr
theorem Ext.grown {G : Ghost} {H : Heap} {w w' : World} (hz : w.heap.size ≤ w'.heap.size) (hk : ∀ b, b < w.heap.size → w'.heap[b]? = w.heap[b]?) (h1 : w'.os = w.os) (h2 : w'.output = w.output) (h3 : w'.tape = w.tape)
    (h4 : G.mono = true → w.drawn ≤ w'.drawn) : Ext G H w G H w' where
  le := G.le_refl
  size := hz
  new i b hi e := .inl ⟨i, hi, e⟩
  keep b hb _ := hk b hb
  stay _ _ _ h := h
  imm _ _ _ h := .inl h
  base i b e := .inl ⟨i, e⟩
  os := h1
  out := h2
  tape := h3
  drawn := h4
/-- A library function that leaves what was there as it was. -/
theorem PureF.below {f : Nat} {s : Sem1} (hc : Callable P f) (h : ∀ args H v, s args H = some v → ∀ (G : Ghost) (nx : Nat) (w : World) (vals : Array Value), Sim G H nx w → Base W0 G w → vals.size = args.length →
      (∀ (j : Nat) v y, args[j]? = some v → vals[j]? = some y → Rep G v y) → Calls P f vals w fun e w' => ∃ y, e = .returned y ∧ Rep G v y ∧ Below w.heap.size w w' ∧ (G.mono = true → w.drawn ≤ w'.drawn)) : PureF P W0 f s := by
  intro args H v hs
  refine ⟨hc, ?_⟩
  intro G nx w vals hsz hrep hb hsim
  refine (h args H v hs G nx w vals hsim hb hsz hrep).mono ?_
  rintro e w' ⟨y, rfl, hr, hB, hd⟩
  exact ⟨y, rfl, v, H, G, nx, Nat.le_refl _, .grown hB.size hB.block hB.os hB.output hB.tape hd, hsim.grown hB.size hB.block, hr, rfl, rfl⟩
theorem vals_one {G : Ghost} {vals : Array Value} {a : V} (hsz : vals.size = [a].length) (hr : ∀ (j : Nat) v y, [a][j]? = some v → vals[j]? = some y → Rep G v y) : ∃ y, vals = #[y] ∧ Rep G a y := by
  have h0 : 0 < vals.size := by rw [hsz]; exact Nat.zero_lt_one
  refine ⟨vals[0], ?_, hr 0 a _ rfl (by simp [h0])⟩
  apply Array.ext
  · simpa using hsz
  · intro i hi hi'
    simp at hi'
    subst hi'
    rfl
theorem vals_two {G : Ghost} {vals : Array Value} {a b : V} (hsz : vals.size = [a, b].length) (hr : ∀ (j : Nat) v y, [a, b][j]? = some v → vals[j]? = some y → Rep G v y) : ∃ y z, vals = #[y, z] ∧ Rep G a y ∧ Rep G b z := by
  have h2 : vals.size = 2 := hsz
  have h0 : 0 < vals.size := by omega
  have h1 : 1 < vals.size := by omega
  refine ⟨vals[0], vals[1], ?_, hr 0 a _ rfl (by simp [h0]), hr 1 b _ rfl (by simp [h1])⟩
  apply Array.ext
  · simp [h2]
  · intro i hi hi'
    simp at hi'
    match i, hi' with
    | 0, _ => rfl
    | 1, _ => rfl
/-- A slice in a new block of texts. -/
theorem hold_new {G : Ghost} {H : Heap} {nx : Nat} {w : World} {ys : List Value} {T : TypeId} (hs : Sim G H nx w) (h1 : ∀ y ∈ ys, y.oneCell' = true) :
    let w' := w.alloc (.cells ys.toArray T)
    let G' : Ghost := G.hold w.heap.size ys.toArray
    Ext G H w G' H w' ∧ Sim G' H nx w' ∧ ∀ j y, ys[j]? = some y → G'.imm w.heap.size j = some y := by
  intro w' G'
  have hno : ∀ o, G.imm w.heap.size o = none := fun o => by
    cases hc : G.imm w.heap.size o with
    | none => rfl
    | some v => have := cell_lt (hs.imm _ _ _ hc).1; omega
  have hle : G.le G' := Ghost.le_hold hno
  have hg := hs.grown (w' := w') (by simp [w']) (fun b hb => add_old w _ b hb)
  refine ⟨⟨hle, by simp [w'], fun i b hi e => .inl ⟨i, hi, e⟩, fun b hb _ => add_old w _ b hb, fun _ _ _ h => h, ?_, fun i b e => .inl ⟨i, e⟩, rfl, rfl, rfl, fun _ => Nat.le_refl _⟩, ⟨?_, hg.lt, ?_, hg.inj, hg.itr⟩, ?_⟩
  · intro b o v e
    by_cases hb : b = w.heap.size
    · exact .inr (.inr (by omega))
    · simp [G', Ghost.hold, hb] at e; exact .inl e
  · intro b o v e
    by_cases hb : b = w.heap.size
    · subst hb
      simp [G', Ghost.hold] at e
      refine ⟨?_, h1 v (List.mem_of_getElem? e)⟩
      simp only [World.cell?, w', add_new]
      simpa using e
    · simp [G', Ghost.hold, hb] at e
      exact hg.imm b o v e
  · intro i hi
    obtain ⟨b, e1, e2, e3⟩ := hg.obj i hi
    have hb : b ≠ w.heap.size := by have := (hs.lt i b e1).2; omega
    exact ⟨b, e1, fun o => by simp [G', Ghost.hold, hb, e2], e3.mono hle rfl rfl (fun _ _ _ _ _ => rfl)⟩
  · intro j y hy
    simp [G', Ghost.hold, hy]
def Ghost.none : Ghost := ⟨fun _ => Option.none, fun _ => 0, fun _ _ => Option.none, true⟩
/-- A known function called anywhere: nothing but new blocks. -/
theorem PureF.anywhere {g : Nat} {s : Sem1} {args : List V} {v : V} {vals : Array Value} (W : World) (h : PureF P { W with drawn := 1 } g s) (hs : s args (fun _ => .dead) = some v) (hsz : vals.size = args.length)
    (hr : ∀ (j : Nat) v y, args[j]? = some v → vals[j]? = some y → Rep Ghost.none v y) : Calls P g vals W fun e w' => ∃ y, e = .returned y ∧ (∃ G, Rep G v y) ∧ ∃ q os', w' = grow (W.drewN q) os' := by
  have hb : Base { W with drawn := 1 } Ghost.none W := ⟨Nat.le_refl _, fun i b e => (by cases e), fun _ _ => rfl, rfl, rfl, rfl, by simp [Ghost.none]⟩
  have hsim : Sim Ghost.none (fun _ => .dead) 0 W := ⟨fun _ _ _ e => (by cases e), fun _ _ e => (by cases e), fun _ h => (h rfl).elim, fun _ _ _ h => (h rfl).elim, fun _ _ _ _ _ h => (by cases h)⟩
  refine ((h args _ v hs).2 Ghost.none 0 W vals hsz hr hb hsim).mono ?_
  rintro e w' ⟨y, rfl, v', H', G', nx', -, hx, -, hr', rfl, rfl⟩
  refine ⟨y, rfl, ⟨G', hr'⟩, w'.drawn - W.drawn, w'.heap.extract W.heap.size w'.heap.size, ?_⟩
  have hd := hx.drawn rfl
  have hheap : w'.heap = W.heap ++ w'.heap.extract W.heap.size w'.heap.size := by
    apply Array.ext_getElem?
    intro i
    by_cases hi : i < W.heap.size
    · rw [Array.getElem?_append_left hi]
      exact hx.keep i hi (fun j hj => (hj rfl).elim)
    · rw [Array.getElem?_append_right (by omega), Array.getElem?_extract]
      have hz := hx.size
      split
      · congr 1; omega
      · rw [Array.getElem?_eq_none]; omega
  have h1 := hx.os; have h2 := hx.out; have h3 := hx.tape
  unfold grow World.drewN
  cases w'
  cases W
  simp only at hheap hd h1 h2 h3 ⊢
  subst h1 h2 h3
  rw [← hheap]
  congr 1
  omega
theorem rep_scalar {G : Ghost} {v y : Value} (h : Rep G (ofScalar v) y) : y = v := by
  unfold ofScalar at h
  split at h
  · rename_i s
    rw [rep_str h]
  · cases h; rfl
  · exact rep_val h
theorem flat_at {α : Type} [Inhabited α] {k : Nat} {encV : α → List Value} (hkk : ∀ x, (encV x).length = k) (l : List α) (i j : Nat) (x : α) (v : Value) (hi : l[i]? = some x) (hj : (encV x)[j]? = some v) : (flatK encV k l.toArray)[i * k + j]? = some v := by
  have hjk : j < k := by rw [← hkk x]; exact (List.getElem?_eq_some_iff.1 hj).1
  have hil : i < l.length := (List.getElem?_eq_some_iff.1 hi).1
  have hlt : i * k + j < l.length * k := by
    have : (i + 1) * k ≤ l.length * k := Nat.mul_le_mul_right _ hil
    rw [Nat.add_mul, Nat.one_mul] at this
    omega
  have e1 : (i * k + j) / k = i := by rw [Nat.mul_comm, Nat.mul_add_div (by omega), Nat.div_eq_of_lt hjk]; rfl
  have e2 : (i * k + j) % k = j := by rw [Nat.mul_comm, Nat.mul_add_mod, Nat.mod_eq_of_lt hjk]
  unfold flatK
  rw [Array.getElem?_map, Array.getElem?_range, if_pos (by simpa using hlt)]
  simp only [Option.map_some, e1, e2]
  have h1 : l.toArray[i]! = x := by rw [getElem!_pos l.toArray i (by simpa using hil)]; simpa using (List.getElem?_eq_some_iff.1 hi).2
  rw [h1]
  rw [getElem!_pos (encV x) j (by rw [hkk]; exact hjk)]
  simpa using (List.getElem?_eq_some_iff.1 hj).2
/-- slices.SortFunc over an owned row, by a closure that is a known function. -/
theorem sort_rows {α : Type} [Inhabited α] {f g : Nat} (k : Nat) (enc : α → V) (encV : α → List Value) (cf : α → α → Int) (hc : Callable P f) (hg : Callable P g)
    (hkk : ∀ x, (encV x).length = k) (h1 : ∀ x, ∀ v ∈ encV x, v.oneCell' = true) (henc : ∀ x, enc x = .agg ((encV x).map ofScalar)) (hk0 : 0 < k)
    (hcmp : ∀ W : World, ∃ s, PureF P W g s ∧ ∀ x y, s [enc x, enc y] (fun _ => .dead) = some (.val (.int .i64 (cf x y))))
    (hcon : ∀ (blk off cap : Nat) (d : Array α) (w : World), (∀ args w, (callFunc g args).run P w = .ok (.enter g args) w) → CmpLays P g #[] encV k cf blk off d.size w → HoldsK encV k w blk off d → blk < w.heap.size → d.size < 4611686018427387904 →
      Calls P f #[.slice (some ⟨blk, off, none⟩) d.size cap, .func (.func g) #[] #[]] w fun e w' => e = .returned (.tuple #[]) ∧ ∃ d' n os, PermIn 0 d.size d d' ∧ SortedIn (ltOf cf) 0 d.size d' ∧ w' = sortWorldK encV k w blk off n d' os)
    {l : List α} {id : Nat} {H : Heap} (hl : l.length ≤ 1073741824) (hH : H id = .mem k (l.map enc)) :
    IT P W0 f [.ar id k 0 l.length, .fn g []] H (fun v H' => v = .tup [] ∧ ∃ l' : List α, l'.Perm l ∧ l'.Pairwise (fun a b => ltOf cf b a = false) ∧ H' = H.set id (.mem k (l'.map enc))) := by
  refine ⟨hc, ?_⟩
  intro G nx w vals hsz hreps hb hs
  obtain ⟨y, z, rfl, hy, hz⟩ := vals_two hsz hreps
  have hzv : z = .func (.func g) #[] #[] := by
    cases hz with
    | fn ys hn hr =>
      have : ys = #[] := Array.eq_empty_of_size_eq_zero (by simpa using hn)
      rw [this]
  subst hzv
  obtain ⟨b, o, cap, rfl, hloc, hcap, hor⟩ := rep_ar hy
  obtain ⟨b', e1, e2, e3⟩ := hs.obj id (by rw [hH]; simp)
  rw [hloc] at e1; cases e1
  rw [hH] at e3
  obtain ⟨arr, T, q1, qt, q2, q3, q3', q4, q5⟩ := e3
  have hblt := block_lt q1
  have hoff : o = 0 ∨ l = [] := by
    rcases hor with ⟨-, rfl⟩ | ⟨h0, -⟩
    · left; simp
    · right; exact List.eq_nil_of_length_eq_zero h0
  have eg : ∀ args w, (callFunc g args).run P w = .ok (.enter g args) w := by
    intro args w
    obtain ⟨fn, hf, hname, hbody⟩ := hg
    have n1 : ¬ fn.name = "runtime.NumGoroutine" := by simpa using hname
    have n2 : ¬ fn.body = none := by intro e; simp [e] at hbody
    simp [callFunc, hf, n1, n2]
  have hlays : CmpLays P g #[] encV k cf b o l.toArray.size w := by
    intro m os dk hdk x y
    obtain ⟨s, hs1, hs2⟩ := hcmp { sortWorldK encV k w b o m dk os with drawn := 1 }
    have hagg : ∀ u : α, Rep Ghost.none (enc u) (.agg (encV u).toArray) := by
      intro u
      rw [henc]
      refine .agg _ (by simp) (fun j y e => h1 u y (List.mem_of_getElem? (by simpa using e))) (fun j v y e e' => ?_)
      simp only [List.getElem?_map, Option.map_eq_some_iff] at e
      obtain ⟨a, ha, rfl⟩ := e
      have : a = y := by rw [List.getElem?_toArray] at e'; rw [ha] at e'; cases e'; rfl
      subst this
      exact rep_ofScalar _ _
    refine (PureF.anywhere (vals := #[.agg (encV x).toArray, .agg (encV y).toArray]) _ hs1 (hs2 x y) rfl ?_).mono ?_
    · intro j v y' hj hy'
      match j with
      | 0 => simp at hj hy'; subst hj hy'; exact hagg x
      | 1 => simp at hj hy'; subst hj hy'; exact hagg y
      | j + 2 => simp at hj
    · rintro e w' ⟨y', rfl, ⟨G2, hr⟩, q, os', rfl⟩
      exact ⟨by rw [rep_val hr], q, os', rfl⟩
  have hcells : ∀ (G2 : Ghost) (m : List α) (a2 : Array Value), (∀ (i j : Nat) x v y, (m.map enc)[i]? = some x → x.cells[j]? = some v → a2[i * k + j]? = some y → Rep G2 v y) → ∀ (i j : Nat) x v y, m[i]? = some x → (encV x)[j]? = some v → a2[i * k + j]? = some y → y = v := by
    intro G2 m a2 hh i j x v y hi hj hy
    have := hh i j (enc x) (ofScalar v) y (by rw [List.getElem?_map, hi]; rfl) (by rw [henc]; simp [V.cells, hj]) hy
    exact rep_scalar this
  have hholds : HoldsK encV k w b o l.toArray := by
    rcases hoff with rfl | rfl
    · intro j hj
      rw [size_flatK] at hj
      simp only [List.size_toArray] at hj
      have hja : j < arr.size := by simp only [List.length_map] at q3; omega
      refine ⟨?_, by simp [World.frozen?, q1]⟩
      have hd := Nat.div_add_mod j k
      have hm : j % k < k := Nat.mod_lt _ hk0
      have hi : j / k < l.length := Nat.div_lt_of_lt_mul (by rw [Nat.mul_comm]; exact hj)
      obtain ⟨x, hx⟩ : ∃ x, l[j / k]? = some x := ⟨_, List.getElem?_eq_getElem hi⟩
      obtain ⟨v, hv⟩ : ∃ v, (encV x)[j % k]? = some v := ⟨_, List.getElem?_eq_getElem (by rw [hkk]; exact hm)⟩
      have e1 : j / k * k + j % k = j := by rw [Nat.mul_comm]; exact hd
      have ha := hcells G l arr q5 (j / k) (j % k) x v arr[j] hx hv (by rw [e1]; simp [hja])
      have hf := flat_at hkk l (j / k) (j % k) x v hx hv
      rw [e1] at hf
      have hf' : (flatK encV k l.toArray)[j]! = v := by
        obtain ⟨hlt, he⟩ := Array.getElem?_eq_some_iff.1 hf
        rw [getElem!_pos (flatK encV k l.toArray) j hlt]; exact he
      show w.cell? ⟨b, 0 + j, none⟩ = some (flatK encV k l.toArray)[j]!
      rw [hf']
      simp [World.cell?, q1, hja, ha]
    · intro j hj
      rw [size_flatK] at hj
      simp at hj
  refine (hcon b o cap l.toArray w eg hlays hholds hblt (by simp; omega)).mono ?_
  rintro e w' ⟨rfl, d', n, os, hp, hsd, rfl⟩
  have hsz' : d'.size = l.length := by simpa using hp.1
  have hperm : d'.toList.Perm l := by
    have := hp.2.2
    simp only [List.size_toArray] at this
    rw [show d'.extract 0 l.length = d' by rw [← hsz']; simp, show l.toArray.extract 0 l.length = l.toArray by simp] at this
    simpa using this
  have hpw : d'.toList.Pairwise (fun a b => ltOf cf b a = false) := by
    rw [List.pairwise_iff_getElem]
    intro i j hi hj hij
    simp only [Array.length_toList] at hi hj
    have := hsd i j (Nat.zero_le _) hij (by simpa [hsz'] using hj)
    rw [getElem!_pos d' i hi, getElem!_pos d' j hj] at this
    simpa using this
  have hblk : (Go.Sort.ahead w n).heap[b]? = some (.cells arr T (0, 0)) := q1
  have hput : putRowK encV k (Go.Sort.ahead w n) b o d' = setB (Go.Sort.ahead w n) b (.cells (putCells _root_.id o (flatK encV k d') arr) T (0, 0)) := by
    unfold putRowK putRow mapBlock setB
    rw [modify_set hblk]
    rfl
  have hs1 : Sim G H nx (Go.Sort.ahead w n) := hs.drawn _
  have hx1 : Ext G H w G H (Go.Sort.ahead w n) := Ext.drew _ _ _ _ (Nat.le_add_right _ _)
  have hnew : ∀ (j : Nat) y, (putCells _root_.id o (flatK encV k d') arr)[j]? = some y → y.oneCell' = true := by
    intro j y hy
    unfold putCells at hy
    simp only [Array.getElem?_mapIdx, Option.map_eq_some_iff] at hy
    obtain ⟨a, ha, hy⟩ := hy
    split at hy
    · rename_i hc
      simp only [size_flatK] at hc
      have hlt : j - o < (flatK encV k d').size := by simp; omega
      rw [getElem!_pos (flatK encV k d') _ hlt] at hy
      subst hy
      simp only [_root_.id, flatK, Array.getElem_map, Array.getElem_range]
      have hm : (j - o) % k < k := Nat.mod_lt _ hk0
      rw [getElem!_pos (encV _) _ (by rw [hkk]; exact hm)]
      exact h1 _ _ (List.getElem_mem _)
    · subst hy; exact q3' j a ha
  have hlay := hs1.lay (id := id) (b := b) (by rw [hH]; simp) hloc hblk (.cells (putCells _root_.id o (flatK encV k d') arr) T (0, 0)) (.mem k (d'.toList.map enc)) (by intro m l e; cases e) (by
    intro j m st hne hj hlm
    obtain ⟨c, g1, g2, g3⟩ := hs.obj j (by rw [hj]; simp)
    rw [hj] at g3
    obtain ⟨bm', es', cl', seen', k0, k1, k2, -⟩ := g3
    rw [hlm] at k0; cases k0
    rw [q1] at k2; cases k2) ⟨_, _, setB_same hblk, qt, by simp [putCells, q2], by simpa [putCells, hsz'] using q3, hnew, ?_, ?_⟩
  · rw [← hput] at hlay
    have hgs : (putRowK encV k (Go.Sort.ahead w n) b o d').heap.size ≤ (grow (putRowK encV k (Go.Sort.ahead w n) b o d') os).heap.size := by simp [grow]
    have hgk : ∀ c, c < (putRowK encV k (Go.Sort.ahead w n) b o d').heap.size → (grow (putRowK encV k (Go.Sort.ahead w n) b o d') os).heap[c]? = (putRowK encV k (Go.Sort.ahead w n) b o d').heap[c]? := by
      intro c hc; simp only [grow]; rw [Array.getElem?_append_left hc]
    refine ⟨_, rfl, .tup [], _, G, nx, Nat.le_refl _, (hx1.trans hlay.2).trans (.grown hgs hgk rfl rfl rfl (fun _ => Nat.le_refl _)), hlay.1.grown hgs hgk, .tup #[] rfl (by intro j v y h; simp at h), rfl, d'.toList, hperm, hpw, rfl⟩
  · intro i x hx
    simp only [List.getElem?_map, Option.map_eq_some_iff] at hx
    obtain ⟨a, ha, rfl⟩ := hx
    rw [henc]; simp [V.cells, hkk]
  · intro i j x v y hx hv hy
    simp only [List.getElem?_map, Option.map_eq_some_iff] at hx
    obtain ⟨a, ha, rfl⟩ := hx
    rw [henc] at hv
    simp only [V.cells, List.getElem?_map, Option.map_eq_some_iff] at hv
    obtain ⟨u, hu, rfl⟩ := hv
    have hil : i < l.length := by rw [← hsz']; simpa using (List.getElem?_eq_some_iff.1 ha).1
    have ho : o = 0 := by
      rcases hoff with h | h
      · exact h
      · subst h; simp at hil
    subst ho
    have hf := flat_at hkk d'.toList i j a u ha hu
    simp only [Array.toArray_toList] at hf
    unfold putCells at hy
    simp only [Array.getElem?_mapIdx, Option.map_eq_some_iff] at hy
    obtain ⟨c, hc, hy⟩ := hy
    have hlt := (Array.getElem?_eq_some_iff.1 hf).1
    rw [if_pos ⟨Nat.zero_le _, by omega⟩] at hy
    simp only [Nat.sub_zero, _root_.id] at hy
    rw [getElem!_pos (flatK encV k d') _ hlt] at hy
    have : (flatK encV k d')[i * k + j] = u := (Array.getElem?_eq_some_iff.1 hf).2
    rw [this] at hy
    subst hy
    exact rep_ofScalar _ _
end
end Go.IL

/- Arguments that one owns are handed over for good. -/
namespace Go.IL
open Go Go.Proofs

theorem IT.frzArgs {P : Program} {W0 : World} {f : FuncId} {args : List V} {H : Heap} {R : V → Heap → Prop} (h : IT P W0 f (frzAll H args).1 (frzAll H args).2 R) : IT P W0 f args H R := by
  refine ⟨h.1, fun G nx w vals hsz hr hb hs => ?_⟩
  obtain ⟨G', hx, hs', -, hn, hr'⟩ := frzAll_spec args vals.toList hs (by simpa using hsz.symm) (fun j v y hv hy => hr j v y hv (by simpa using hy))
  refine (h.2 G' nx w vals (by simpa using hn.symm) (fun j v y hv hy => hr' j v y hv (by simpa using hy)) (hb.ext hx) hs').mono ?_
  rintro e w' ⟨y, rfl, v, H', G2, nx', q1, q2, q3, q4, q5⟩
  exact ⟨y, rfl, v, H', G2, nx', q1, hx.trans q2, q3, q4, q5⟩
theorem PureF.own {P : Program} {W0 : World} {f : Nat} {s : Sem1} {args : List V} {H : Heap} {v : V} (h : PureF P W0 f s) (hs : s (frzAll H args).1 (frzAll H args).2 = some v) :
    IT P W0 f args H (fun v' H' => v' = v ∧ H' = (frzAll H args).2) := .frzArgs (h _ _ _ hs)
end Go.IL
