import Derived.Test.YthdlaekahejdnaaGreatDoorKJ
import Derived.OpenShut
import Derived.Carry
import Derived.Deep.Slices
import Derived.Test.YthdlaekahejdnaaGreatDoorCards
import Derived.Test.YthdlaekahejdnaaGreatDoorTie
import Derived.WalkKit
import Derived.ProofKit
import Derived.Deep.DeepHandedRow
import Derived.Deep.DeepWitnessRowRef
import Derived.Lib.LaidTab
import Derived.Shelf.Vars
set_option linter.unusedVariables false
set_option linter.unusedSimpArgs false
namespace Go.Proofs.W
set_option linter.unusedSimpArgs false
set_option maxRecDepth 20000
open Go Go.IL Go.Proofs
def lexInside.c : IC :=
  (.seq (.reg 0 [⟨some 2, (.assign (.const (.bool false))), none⟩] false)
  (.seq (.reg 1 [⟨some 4, (.move (.tmp (0 : Nat))), none⟩,
    ⟨some 5, (.binOp .or 5 (.tmp (4 : Nat)) (.const (.int .u8 32)) 5), none⟩,
    ⟨some 3, (.assign (.tmp (5 : Nat))), none⟩] false)
  (.seq (.reg 2 [⟨some 6, (.move (.tmp (3 : Nat))), none⟩,
    ⟨some 7, (.binOp .geq 5 (.tmp (6 : Nat)) (.const (.int .u8 97)) 5), none⟩,
    ⟨some 8, (.move (.tmp (7 : Nat))), none⟩,
    ⟨some 9, (.move (.tmp (3 : Nat))), some (8, true)⟩,
    ⟨some 10, (.binOp .leq 5 (.tmp (9 : Nat)) (.const (.int .u8 122)) 5), some (8, true)⟩,
    ⟨some 11, (.pick (.tmp (8 : Nat)) (.tmp (10 : Nat)) (.const (.bool false))), none⟩,
    ⟨some 12, (.move (.tmp (11 : Nat))), none⟩,
    ⟨some 13, (.move (.tmp (0 : Nat))), some (12, false)⟩,
    ⟨some 14, (.binOp .geq 5 (.tmp (13 : Nat)) (.const (.int .u8 48)) 5), some (12, false)⟩,
    ⟨some 15, (.move (.tmp (14 : Nat))), some (12, false)⟩,
    ⟨some 16, (.move (.tmp (0 : Nat))), some (15, true)⟩,
    ⟨some 17, (.binOp .leq 5 (.tmp (16 : Nat)) (.const (.int .u8 57)) 5), some (15, true)⟩,
    ⟨some 18, (.pick (.tmp (15 : Nat)) (.tmp (17 : Nat)) (.const (.bool false))), some (12, false)⟩,
    ⟨some 19, (.pick (.tmp (12 : Nat)) (.const (.bool true)) (.tmp (18 : Nat))), none⟩,
    ⟨some 20, (.move (.tmp (19 : Nat))), none⟩,
    ⟨some 21, (.move (.tmp (0 : Nat))), some (20, false)⟩,
    ⟨some 22, (.call { callee := (.value (.func (228 : Nat))), args := #[(.const (.string ⟨#[46, 47, 45, 95]⟩)), (.tmp (21 : Nat))], argTypes := #[9, 5] }), some (20, false)⟩,
    ⟨some 23, (.binOp .geq 3 (.tmp (22 : Nat)) (.const (.int .i64 0)) 3), some (20, false)⟩,
    ⟨some 24, (.pick (.tmp (20 : Nat)) (.const (.bool true)) (.tmp (23 : Nat))), none⟩,
    ⟨some 2, (.assign (.tmp (24 : Nat))), none⟩] false)
  .ret)))
theorem lexInside.of : Tryz.f226.body.bind IC.of = some lexInside.c := by kernel_rfl
theorem lexInside.ok : Tryz.f226.body.map (okCode Tryz.prog Tryz.f226.ntmps (fun _ _ => false)) = some true := by kernel_rfl
def lexWord.L0 : IC :=
  (.seq (.seq (.reg 2 [⟨some 4, (.move (.tmp (3 : Nat))), none⟩,
    ⟨some 5, (.move (.tmp (0 : Nat))), none⟩,
    ⟨some 6, (.call { callee := (.builtin .len), args := #[(.tmp (5 : Nat))], argTypes := #[9] }), none⟩,
    ⟨some 7, (.binOp .lss 3 (.tmp (4 : Nat)) (.tmp (6 : Nat)) 3), none⟩,
    ⟨some 8, (.move (.tmp (7 : Nat))), none⟩,
    ⟨some 9, (.move (.tmp (0 : Nat))), some (8, true)⟩,
    ⟨some 10, (.move (.tmp (3 : Nat))), some (8, true)⟩,
    ⟨some 11, (.index 9 (.tmp (9 : Nat)) (.tmp (10 : Nat))), some (8, true)⟩,
    ⟨some 12, (.call { callee := (.value (.func (226 : Nat))), args := #[(.tmp (11 : Nat))], argTypes := #[5] }), some (8, true)⟩,
    ⟨some 13, (.pick (.tmp (8 : Nat)) (.tmp (12 : Nat)) (.const (.bool false))), none⟩] false)
  (.cond (.tmp (13 : Nat)) .skip (.exit 0)))
  (.block 1 (.reg 3 [⟨some 14, (.move (.tmp (3 : Nat))), none⟩,
    ⟨some 15, (.binOp .add 3 (.tmp (14 : Nat)) (.const (.int .i64 1)) 3), none⟩,
    ⟨some 3, (.assign (.tmp (15 : Nat))), none⟩] false)))
def lexWord.R0 : IC :=
  (.seq (.reg 4 [⟨some 16, (.move (.tmp (3 : Nat))), none⟩,
    ⟨some 2, (.assign (.tmp (16 : Nat))), none⟩] false)
  .ret)
def lexWord.c : IC :=
  (.seq (.reg 0 [⟨some 2, (.assign (.const (.int .i64 0))), none⟩] false)
  (.seq (.reg 1 [⟨some 3, (.assign (.const (.int .i64 0))), none⟩] false)
  (.seq (.block 0 (.loop lexWord.L0))
  (cutIC lexWord.R0))))
theorem lexWord.of : Tryz.f211.body.bind IC.of = some lexWord.c := by kernel_rfl
theorem lexWord.ok : Tryz.f211.body.map (okCode Tryz.prog Tryz.f211.ntmps (fun _ _ => false)) = some true := by kernel_rfl
def lexIsWord.c : IC :=
  (.seq (.reg 0 [⟨some 2, (.assign (.const (.bool false))), none⟩] false)
  (.seq (.reg 1 [⟨some 3, (.move (.tmp (0 : Nat))), none⟩,
    ⟨some 4, (.binOp .neq 9 (.tmp (3 : Nat)) (.const (.string ⟨#[]⟩)) 9), none⟩,
    ⟨some 5, (.move (.tmp (4 : Nat))), none⟩,
    ⟨some 6, (.move (.tmp (0 : Nat))), some (5, true)⟩,
    ⟨some 7, (.call { callee := (.builtin .len), args := #[(.tmp (6 : Nat))], argTypes := #[9] }), some (5, true)⟩,
    ⟨some 8, (.binOp .leq 3 (.tmp (7 : Nat)) (.const (.int .i64 31)) 3), some (5, true)⟩,
    ⟨some 9, (.pick (.tmp (5 : Nat)) (.tmp (8 : Nat)) (.const (.bool false))), none⟩,
    ⟨some 10, (.move (.tmp (9 : Nat))), none⟩,
    ⟨some 11, (.move (.tmp (0 : Nat))), some (10, true)⟩,
    ⟨some 12, (.call { callee := (.value (.func (211 : Nat))), args := #[(.tmp (11 : Nat))], argTypes := #[9] }), some (10, true)⟩,
    ⟨some 13, (.move (.tmp (0 : Nat))), some (10, true)⟩,
    ⟨some 14, (.call { callee := (.builtin .len), args := #[(.tmp (13 : Nat))], argTypes := #[9] }), some (10, true)⟩,
    ⟨some 15, (.binOp .eql 3 (.tmp (12 : Nat)) (.tmp (14 : Nat)) 3), some (10, true)⟩,
    ⟨some 16, (.pick (.tmp (10 : Nat)) (.tmp (15 : Nat)) (.const (.bool false))), none⟩,
    ⟨some 2, (.assign (.tmp (16 : Nat))), none⟩] false)
  .ret))
theorem lexIsWord.of : Tryz.f186.body.bind IC.of = some lexIsWord.c := by kernel_rfl
theorem lexIsWord.ok : Tryz.f186.body.map (okCode Tryz.prog Tryz.f186.ntmps (fun _ _ => false)) = some true := by kernel_rfl
variable {W0 : World}
theorem inside_all (b : UInt8) : ((decide (97 ≤ orI .u8 b.toNat 32) && decide (orI .u8 b.toNat 32 ≤ 122)) || (decide (48 ≤ (b.toNat : Int)) && decide ((b.toNat : Int) ≤ 57)) || decide (0 ≤ bIdx [46, 47, 45, 95] b)) = insideB b := by
  have := byte_all (p := fun b => ((decide (97 ≤ orI .u8 b.toNat 32) && decide (orI .u8 b.toNat 32 ≤ 122)) || (decide (48 ≤ (b.toNat : Int)) && decide ((b.toNat : Int) ≤ 57)) || decide (0 ≤ bIdx [46, 47, 45, 95] b)) == insideB b) (by decide +kernel) b
  simpa using this
theorem w_inside (h1 : PureF Tryz.prog W0 228 sIndexByte) : PureF Tryz.prog W0 226 sInside := by
  refine PureF.of (rs := [(.tmp 2)]) (fun _ _ => false) (Φ := [(228, sIndexByte)]) ⟨h1, trivial⟩ T.mixed Tryz.func226 lexInside.of rfl lexInside.ok rfl ?_
  intro args H v hs
  unfold sInside at hs
  split at hs
  · rename_i c
    simp only [Option.map_eq_some_iff] at hs
    obtain ⟨b, hb, rfl⟩ := hs
    have hc := u8?_some hb
    subst hc
    refine ⟨by simp [Tryz.f226], ?_⟩
    have hall := inside_all b
    unfold lexInside.c
    simp (implicitDefEqProofs := false) (contextual := true) only [go_sem, reduceIte, Nat.reduceEqDiff, Nat.reduceAdd, Nat.reduceSub, Nat.reduceMul, Nat.reduceLeDiff, Int.reduceLT, Int.reduceLE, Int.reduceEq, Int.reduceAdd, Int.reduceSub, Int.reduceMul, Int.reduceNeg, Int.reduceToNat, reduceCtorEq, Nat.reduceBEq, Nat.reduceLT]
    generalize orI .u8 (b.toNat : Int) 32 = low at *
    rw [← hall]
    refine ⟨fun p1 => ⟨fun p2 => ⟨fun p3 => ⟨fun p4 => ?_, fun p4 => ?_⟩, fun p3 => ?_⟩, fun p2 => ?_⟩, fun p1 => ⟨fun p3 => ⟨fun p4 => ?_, fun p4 => ?_⟩, fun p3 => ?_⟩⟩ <;> simp [*]
  · cases hs
theorem takeWhile_at {p : UInt8 → Bool} : ∀ {l : Text} {i : Nat}, (∀ j b, j < i → l[j]? = some b → p b = true) → i ≤ l.length → (i = l.length ∨ ∃ b, l[i]? = some b ∧ p b = false) → (l.takeWhile p).length = i
  | [], i, _, hi, _ => by simp at hi; simp [hi]
  | a :: l, 0, _, _, h => by
    rcases h with h | ⟨b, h, hb⟩
    · simp at h
    · simp at h; subst h; simp [hb]
  | a :: l, i + 1, h, hi, h' => by
    have ha := h 0 a (by omega) rfl
    rw [List.takeWhile_cons, ha]
    simp only [if_true, List.length_cons]
    rw [takeWhile_at (p := p) (l := l) (i := i) (fun j b hj hb => h (j + 1) b (by omega) (by simpa using hb)) (by simpa using hi) (by
      rcases h' with h' | ⟨b, h', hb⟩
      · left; simpa using h'
      · right; exact ⟨b, by simpa using h', hb⟩)]
theorem w_word (h1 : PureF Tryz.prog W0 226 sInside) : PureF Tryz.prog W0 211 sWord := by
  refine PureF.of (rs := [(.tmp 2)]) (fun _ _ => false) (Φ := [(226, sInside)]) ⟨h1, trivial⟩ T.mixed Tryz.func211 lexWord.of rfl lexWord.ok rfl ?_
  intro args H v hs
  unfold sWord at hs
  split at hs
  · rename_i l
    split at hs <;> cases hs
    rename_i hl
    unfold big at hl
    refine ⟨by simp [Tryz.f211], ?_⟩
    unfold lexWord.c
    simp (implicitDefEqProofs := false) (contextual := true) only [go_sem, reduceIte, Nat.reduceEqDiff, Nat.reduceAdd, Nat.reduceSub, Nat.reduceMul, Nat.reduceLeDiff, Int.reduceLT, Int.reduceLE, Int.reduceEq, Int.reduceAdd, Int.reduceSub, Int.reduceMul, Int.reduceNeg, Int.reduceToNat, reduceCtorEq, Nat.reduceBEq, Nat.reduceLT]
    refine wpO_up l.length (fun i fr H' => i ≤ l.length ∧ fr 0 = .str l ∧ fr 3 = .val (.int .i64 i) ∧ (∀ j b, j < i → l[j]? = some b → insideB b = true) ∧ H' = H) 0 ?_ ?_
    · simp (implicitDefEqProofs := false) (contextual := true) only [go_sem, reduceIte, Nat.reduceEqDiff, Nat.reduceAdd, Nat.reduceSub, Nat.reduceMul, Nat.reduceLeDiff, Int.reduceLT, Int.reduceLE, Int.reduceEq, Int.reduceAdd, Int.reduceSub, Int.reduceMul, Int.reduceNeg, Int.reduceToNat, reduceCtorEq, Nat.reduceBEq, Nat.reduceLT]
      simp
    · rintro i fr H' ⟨hi, f0, f3, hb, rfl⟩
      unfold lexWord.L0
      have hw : IntKind.i64.wrap ((i : Int) + 1) = ((i + 1 : Nat) : Int) := wrap64 (by omega)
      by_cases hlt : i < l.length
      · obtain ⟨b, hbi⟩ : ∃ b, l[i]? = some b := ⟨_, List.getElem?_eq_getElem hlt⟩
        cases hin : insideB b with
        | true =>
          simp (implicitDefEqProofs := false) only [go_sem, reduceIte, Nat.reduceEqDiff, Nat.reduceAdd, Nat.reduceSub, Nat.reduceMul, Nat.reduceLeDiff, Int.reduceLT, Int.reduceLE, Int.reduceEq, Int.reduceAdd, Int.reduceSub, Int.reduceMul, Int.reduceNeg, Int.reduceToNat, reduceCtorEq, Nat.reduceBEq, Nat.reduceLT, f0, f3, hlt, hbi, hin]
          refine ⟨by omega, by rw [hw], fun j b' hj hb' => ?_⟩
          by_cases e : j = i
          · subst e; rw [hbi] at hb'; cases hb'; exact hin
          · exact hb j b' (by omega) hb'
        | false =>
          simp (implicitDefEqProofs := false) only [go_sem, reduceIte, Nat.reduceEqDiff, Nat.reduceAdd, Nat.reduceSub, Nat.reduceMul, Nat.reduceLeDiff, Int.reduceLT, Int.reduceLE, Int.reduceEq, Int.reduceAdd, Int.reduceSub, Int.reduceMul, Int.reduceNeg, Int.reduceToNat, reduceCtorEq, Nat.reduceBEq, Nat.reduceLT, f0, f3, hlt, hbi, hin]
          have hwl : wordLen l = i := takeWhile_at hb hi (.inr ⟨b, hbi, hin⟩)
          rw [wpO_eq]
          unfold lexWord.R0
          simp (implicitDefEqProofs := false) only [go_sem, reduceIte, Nat.reduceEqDiff, Nat.reduceAdd, Nat.reduceSub, Nat.reduceMul, Nat.reduceLeDiff, Int.reduceLT, Int.reduceLE, Int.reduceEq, Int.reduceAdd, Int.reduceSub, Int.reduceMul, Int.reduceNeg, Int.reduceToNat, reduceCtorEq, Nat.reduceBEq, Nat.reduceLT, f3, hwl]
      · have hwl : wordLen l = i := takeWhile_at hb hi (.inl (by omega))
        simp (implicitDefEqProofs := false) only [go_sem, reduceIte, Nat.reduceEqDiff, Nat.reduceAdd, Nat.reduceSub, Nat.reduceMul, Nat.reduceLeDiff, Int.reduceLT, Int.reduceLE, Int.reduceEq, Int.reduceAdd, Int.reduceSub, Int.reduceMul, Int.reduceNeg, Int.reduceToNat, reduceCtorEq, Nat.reduceBEq, Nat.reduceLT, f0, f3, hlt]
        rw [wpO_eq]
        unfold lexWord.R0
        simp (implicitDefEqProofs := false) only [go_sem, reduceIte, Nat.reduceEqDiff, Nat.reduceAdd, Nat.reduceSub, Nat.reduceMul, Nat.reduceLeDiff, Int.reduceLT, Int.reduceLE, Int.reduceEq, Int.reduceAdd, Int.reduceSub, Int.reduceMul, Int.reduceNeg, Int.reduceToNat, reduceCtorEq, Nat.reduceBEq, Nat.reduceLT, f3, hwl]
  · cases hs
theorem all_takeWhile {p : UInt8 → Bool} : ∀ {l : Text}, ((l.takeWhile p).length = l.length) ↔ l.all p = true
  | [] => by simp
  | a :: l => by
    rw [List.takeWhile_cons]
    cases h : p a with
    | true => simp [h, ← all_takeWhile (p := p) (l := l)]
    | false => simp [h]
theorem w_isWord (h1 : PureF Tryz.prog W0 211 sWord) : PureF Tryz.prog W0 186 (sTextBool isWordB) := by
  refine PureF.of (rs := [(.tmp 2)]) (fun _ _ => false) (Φ := [(211, sWord)]) ⟨h1, trivial⟩ T.mixed Tryz.func186 lexIsWord.of rfl lexIsWord.ok rfl ?_
  intro args H v hs
  unfold sTextBool at hs
  split at hs <;> cases hs
  rename_i l
  refine ⟨by simp [Tryz.f186], ?_⟩
  unfold lexIsWord.c
  have hall := all_takeWhile (p := insideB) (l := l)
  by_cases p1 : l = []
  · subst p1
    simp (implicitDefEqProofs := false) (contextual := true) only [go_sem, reduceIte, Nat.reduceEqDiff, Nat.reduceAdd, Nat.reduceSub, Nat.reduceMul, Nat.reduceLeDiff, Int.reduceLT, Int.reduceLE, Int.reduceEq, Int.reduceAdd, Int.reduceSub, Int.reduceMul, Int.reduceNeg, Int.reduceToNat, reduceCtorEq, Nat.reduceBEq, Nat.reduceLT, isWordB]
  · by_cases p2 : (l.length : Int) ≤ 31
    · have hb : l.length ≤ big := by unfold big; omega
      have p2' : l.length ≤ 31 := by omega
      by_cases p3 : wordLen l = l.length
      · have h4 : l.all insideB = true := hall.1 p3
        simp (implicitDefEqProofs := false) (contextual := true) only [go_sem, reduceIte, Nat.reduceEqDiff, Nat.reduceAdd, Nat.reduceSub, Nat.reduceMul, Nat.reduceLeDiff, Int.reduceLT, Int.reduceLE, Int.reduceEq, Int.reduceAdd, Int.reduceSub, Int.reduceMul, Int.reduceNeg, Int.reduceToNat, reduceCtorEq, Nat.reduceBEq, Nat.reduceLT, isWordB, p1, p2, p3, hb, h4, p2']
      · have h4 : l.all insideB = false := by rw [← Bool.not_eq_true]; exact fun h => p3 (hall.2 h)
        simp (implicitDefEqProofs := false) (contextual := true) only [go_sem, reduceIte, Nat.reduceEqDiff, Nat.reduceAdd, Nat.reduceSub, Nat.reduceMul, Nat.reduceLeDiff, Int.reduceLT, Int.reduceLE, Int.reduceEq, Int.reduceAdd, Int.reduceSub, Int.reduceMul, Int.reduceNeg, Int.reduceToNat, reduceCtorEq, Nat.reduceBEq, Nat.reduceLT, isWordB, p1, p2, p3, hb, h4, p2']
    · have p2' : ¬ l.length ≤ 31 := by omega
      simp (implicitDefEqProofs := false) (contextual := true) only [go_sem, reduceIte, Nat.reduceEqDiff, Nat.reduceAdd, Nat.reduceSub, Nat.reduceMul, Nat.reduceLeDiff, Int.reduceLT, Int.reduceLE, Int.reduceEq, Int.reduceAdd, Int.reduceSub, Int.reduceMul, Int.reduceNeg, Int.reduceToNat, reduceCtorEq, Nat.reduceBEq, Nat.reduceLT, isWordB, p1, p2, p2']

end Go.Proofs.W

namespace Go.Proofs.W
set_option linter.unusedSimpArgs false
set_option maxRecDepth 20000
open Go Go.IL Go.Proofs
def scAddr.L0 : IC :=
  (.seq (.reg 6 [⟨some 18, (.binOp .lss 3 (.tmp (17 : Nat)) (.tmp (16 : Nat)) 3), none⟩] false)
  (.seq (.cond (.tmp (18 : Nat)) .skip (.exit 0))
  (.seq (.block 1 (.seq (.reg 7 [⟨some 19, (.indexAddr 43 (.tmp (15 : Nat)) (.tmp (17 : Nat))), none⟩,
    ⟨some 20, (.load 9 (.tmp (19 : Nat))), none⟩,
    ⟨some 7, (.assign (.tmp (20 : Nat))), none⟩] false)
  (.seq (.reg 8 [⟨some 22, (.move (.tmp (7 : Nat))), none⟩,
    ⟨some 23, (.call { callee := (.value (.func (93 : Nat))), args := #[(.tmp (22 : Nat))], argTypes := #[9] }), none⟩,
    ⟨some 21, (.move (.tmp (23 : Nat))), none⟩,
    ⟨some 24, (.extract (.tmp (21 : Nat)) 0), none⟩,
    ⟨some 25, (.extract (.tmp (21 : Nat)) 1), none⟩,
    ⟨some 8, (.assign (.tmp (24 : Nat))), none⟩,
    ⟨some 9, (.assign (.tmp (25 : Nat))), none⟩] false)
  (.seq (.seq (.reg 9 [⟨some 26, (.move (.tmp (9 : Nat))), none⟩,
    ⟨some 27, (.unOp .not 4 (.tmp (26 : Nat))), none⟩,
    ⟨some 28, (.move (.tmp (27 : Nat))), none⟩,
    ⟨some 29, (.move (.tmp (8 : Nat))), some (28, false)⟩,
    ⟨some 30, (.binOp .gtr 3 (.tmp (29 : Nat)) (.const (.int .i64 255)) 3), some (28, false)⟩,
    ⟨some 31, (.pick (.tmp (28 : Nat)) (.const (.bool true)) (.tmp (30 : Nat))), none⟩] false)
  (.cond (.tmp (31 : Nat)) (.seq (.reg 10 [⟨some 2, (.assign (.const (.int .u32 0))), none⟩,
    ⟨some 3, (.assign (.const (.bool false))), none⟩] false)
  .ret) .skip))
  (.reg 11 [⟨some 32, (.move (.tmp (5 : Nat))), none⟩,
    ⟨some 33, (.binOp .shl 59 (.tmp (32 : Nat)) (.const (.int .u64 8)) 199), none⟩,
    ⟨some 34, (.move (.tmp (8 : Nat))), none⟩,
    ⟨some 35, (.convert 3 59 (.tmp (34 : Nat))), none⟩,
    ⟨some 36, (.binOp .or 59 (.tmp (33 : Nat)) (.tmp (35 : Nat)) 59), none⟩,
    ⟨some 5, (.assign (.tmp (36 : Nat))), none⟩] false)))))
  (.reg 12 [⟨some 37, (.binOp .add 3 (.tmp (17 : Nat)) (.const (.int .i64 1)) 3), none⟩,
    ⟨some 17, (.move (.tmp (37 : Nat))), none⟩] false))))
def scAddr.R0 : IC :=
  (.seq (.reg 13 [⟨some 38, (.move (.tmp (5 : Nat))), none⟩,
    ⟨some 2, (.assign (.tmp (38 : Nat))), none⟩,
    ⟨some 3, (.assign (.const (.bool true))), none⟩] false)
  .ret)
def scAddr.c : IC :=
  (.seq (.reg 0 [⟨some 2, (.assign (.const (.int .u32 0))), none⟩,
    ⟨some 3, (.assign (.const (.bool false))), none⟩] false)
  (.seq (.reg 1 [⟨some 10, (.move (.tmp (0 : Nat))), none⟩,
    ⟨some 11, (.call { callee := (.value (.func (107 : Nat))), args := #[(.tmp (10 : Nat)), (.const (.string ⟨#[46]⟩))], argTypes := #[9, 9] }), none⟩,
    ⟨some 4, (.assign (.tmp (11 : Nat))), none⟩] false)
  (.seq (.seq (.reg 2 [⟨some 12, (.move (.tmp (4 : Nat))), none⟩,
    ⟨some 13, (.call { callee := (.builtin .len), args := #[(.tmp (12 : Nat))], argTypes := #[43] }), none⟩,
    ⟨some 14, (.binOp .neq 3 (.tmp (13 : Nat)) (.const (.int .i64 4)) 3), none⟩] false)
  (.cond (.tmp (14 : Nat)) (.seq (.reg 3 [⟨some 2, (.assign (.const (.int .u32 0))), none⟩,
    ⟨some 3, (.assign (.const (.bool false))), none⟩] false)
  .ret) .skip))
  (.seq (.reg 4 [⟨some 5, (.assign (.const (.int .u32 0))), none⟩] false)
  (.seq (.seq (.reg 5 [⟨some 15, (.move (.tmp (4 : Nat))), none⟩,
    ⟨some 16, (.call { callee := (.builtin .len), args := #[(.tmp (15 : Nat))], argTypes := #[43] }), none⟩,
    ⟨some 17, (.move (.const (.int .i64 0))), none⟩] false)
  (.block 0 (.loop scAddr.L0)))
  (cutIC scAddr.R0))))))
theorem scAddr.of : Tryz.f63.body.bind IC.of = some scAddr.c := by kernel_rfl
theorem scAddr.ok : Tryz.f63.body.map (okCode Tryz.prog Tryz.f63.ntmps (fun _ _ => false)) = some true := by kernel_rfl
def scNet.c : IC :=
  (.seq (.reg 0 [⟨some 2, (.assign (.const (.int .u32 0))), none⟩,
    ⟨some 3, (.assign (.const (.int .i64 0))), none⟩,
    ⟨some 4, (.assign (.const (.bool false))), none⟩] false)
  (.seq (.reg 1 [⟨some 13, (.move (.tmp (0 : Nat))), none⟩,
    ⟨some 14, (.call { callee := (.value (.func (125 : Nat))), args := #[(.tmp (13 : Nat)), (.const (.string ⟨#[47]⟩))], argTypes := #[9, 9] }), none⟩,
    ⟨some 12, (.move (.tmp (14 : Nat))), none⟩,
    ⟨some 15, (.extract (.tmp (12 : Nat)) 0), none⟩,
    ⟨some 16, (.extract (.tmp (12 : Nat)) 1), none⟩,
    ⟨some 17, (.extract (.tmp (12 : Nat)) 2), none⟩,
    ⟨some 5, (.assign (.tmp (15 : Nat))), none⟩,
    ⟨some 6, (.assign (.tmp (16 : Nat))), none⟩,
    ⟨some 7, (.assign (.tmp (17 : Nat))), none⟩] false)
  (.seq (.reg 2 [⟨some 19, (.move (.tmp (5 : Nat))), none⟩,
    ⟨some 20, (.call { callee := (.value (.func (63 : Nat))), args := #[(.tmp (19 : Nat))], argTypes := #[9] }), none⟩,
    ⟨some 18, (.move (.tmp (20 : Nat))), none⟩,
    ⟨some 21, (.extract (.tmp (18 : Nat)) 0), none⟩,
    ⟨some 22, (.extract (.tmp (18 : Nat)) 1), none⟩,
    ⟨some 8, (.assign (.tmp (21 : Nat))), none⟩,
    ⟨some 9, (.assign (.tmp (22 : Nat))), none⟩] false)
  (.seq (.reg 3 [⟨some 24, (.move (.tmp (6 : Nat))), none⟩,
    ⟨some 25, (.call { callee := (.value (.func (93 : Nat))), args := #[(.tmp (24 : Nat))], argTypes := #[9] }), none⟩,
    ⟨some 23, (.move (.tmp (25 : Nat))), none⟩,
    ⟨some 26, (.extract (.tmp (23 : Nat)) 0), none⟩,
    ⟨some 27, (.extract (.tmp (23 : Nat)) 1), none⟩,
    ⟨some 10, (.assign (.tmp (26 : Nat))), none⟩,
    ⟨some 11, (.assign (.tmp (27 : Nat))), none⟩] false)
  (.seq (.seq (.reg 4 [⟨some 28, (.move (.tmp (9 : Nat))), none⟩,
    ⟨some 29, (.unOp .not 4 (.tmp (28 : Nat))), none⟩,
    ⟨some 30, (.move (.tmp (29 : Nat))), none⟩,
    ⟨some 31, (.move (.tmp (11 : Nat))), some (30, false)⟩,
    ⟨some 32, (.unOp .not 4 (.tmp (31 : Nat))), some (30, false)⟩,
    ⟨some 33, (.pick (.tmp (30 : Nat)) (.const (.bool true)) (.tmp (32 : Nat))), none⟩,
    ⟨some 34, (.move (.tmp (33 : Nat))), none⟩,
    ⟨some 35, (.move (.tmp (10 : Nat))), some (34, false)⟩,
    ⟨some 36, (.binOp .lss 3 (.tmp (35 : Nat)) (.const (.int .i64 1)) 3), some (34, false)⟩,
    ⟨some 37, (.pick (.tmp (34 : Nat)) (.const (.bool true)) (.tmp (36 : Nat))), none⟩,
    ⟨some 38, (.move (.tmp (37 : Nat))), none⟩,
    ⟨some 39, (.move (.tmp (10 : Nat))), some (38, false)⟩,
    ⟨some 40, (.binOp .gtr 3 (.tmp (39 : Nat)) (.const (.int .i64 32)) 3), some (38, false)⟩,
    ⟨some 41, (.pick (.tmp (38 : Nat)) (.const (.bool true)) (.tmp (40 : Nat))), none⟩] false)
  (.cond (.tmp (41 : Nat)) (.seq (.reg 5 [⟨some 2, (.assign (.const (.int .u32 0))), none⟩,
    ⟨some 3, (.assign (.const (.int .i64 0))), none⟩,
    ⟨some 4, (.assign (.const (.bool false))), none⟩] false)
  .ret) .skip))
  (.seq (.reg 6 [⟨some 42, (.move (.tmp (8 : Nat))), none⟩,
    ⟨some 43, (.move (.tmp (10 : Nat))), none⟩,
    ⟨some 2, (.assign (.tmp (42 : Nat))), none⟩,
    ⟨some 3, (.assign (.tmp (43 : Nat))), none⟩,
    ⟨some 4, (.assign (.const (.bool true))), none⟩] false)
  .ret))))))
theorem scNet.of : Tryz.f94.body.bind IC.of = some scNet.c := by kernel_rfl
theorem scNet.ok : Tryz.f94.body.map (okCode Tryz.prog Tryz.f94.ntmps (fun _ _ => false)) = some true := by kernel_rfl
variable {W0 : World}
theorem or_add (n k : Nat) (hk : k ≤ 255) (hn : n < 16777216) : orI .u32 ((n : Int) * 256) (k : Int) = ((256 * n + k : Nat) : Int) := by
  have h1 : BitVec.ofInt 32 ((n : Int) * 256) = BitVec.ofNat 32 (256 * n) := by
    rw [show (n : Int) * 256 = ((256 * n : Nat) : Int) by omega, BitVec.ofInt_natCast]
  have h2 : BitVec.ofInt 32 (k : Int) = BitVec.ofNat 32 k := by rw [BitVec.ofInt_natCast]
  unfold orI
  rw [show IntKind.u32.bits = 32 from rfl, h1, h2, BitVec.toNat_or, BitVec.toNat_ofNat, BitVec.toNat_ofNat, Nat.mod_eq_of_lt (by omega), Nat.mod_eq_of_lt (by omega)]
  have := Nat.two_pow_add_eq_or_of_lt (i := 8) (b := k) (by omega) n
  rw [show 256 * n = 2 ^ 8 * n from rfl, ← this]
  simp [IntKind.wrap, IntKind.bits, IntKind.signed]
  omega
theorem w_scAddr (h1 : PureF Tryz.prog W0 107 sSplit) (h2 : PureF Tryz.prog W0 93 sDec) : PureF Tryz.prog W0 63 sAddr := by
  refine PureF.of (rs := [(.tmp 2), (.tmp 3)]) (fun _ _ => false) (Φ := [(107, sSplit), (93, sDec)]) ⟨h1, h2, trivial⟩ T.mixed Tryz.func63 scAddr.of rfl scAddr.ok rfl ?_
  intro args H v hs
  unfold sAddr at hs
  split at hs
  · rename_i l
    split at hs <;> cases hs
    rename_i hl
    refine ⟨by simp [Tryz.f63], ?_⟩
    unfold scAddr.c
    by_cases h4 : (partsB 46 l).length = 4
    · have hA : addrB l = addrL (partsB 46 l) 0 := by unfold addrB; rw [if_pos h4]
      have h4' : (((partsB 46 l).length : Nat) : Int) = 4 := by omega
      simp (implicitDefEqProofs := false) (contextual := true) only [go_sem, reduceIte, Nat.reduceEqDiff, Nat.reduceAdd, Nat.reduceSub, Nat.reduceMul, Nat.reduceLeDiff, Int.reduceLT, Int.reduceLE, Int.reduceEq, Int.reduceAdd, Int.reduceSub, Int.reduceMul, Int.reduceNeg, Int.reduceToNat, reduceCtorEq, Nat.reduceBEq, Nat.reduceLT, hl, h4']
      refine wpO_up 4 (fun i fr H' => i ≤ 4 ∧ fr 15 = .sl ((partsB 46 l).map .str) ∧ fr 16 = .val (.int .i64 4) ∧ fr 17 = .val (.int .i64 i) ∧ H' = H ∧
        ∃ n, addrL ((partsB 46 l).take i) 0 = some n ∧ fr 5 = .val (.int .u32 (n : Nat))) 0 ?_ ?_
      · simp (implicitDefEqProofs := false) (contextual := true) only [go_sem, reduceIte, Nat.reduceEqDiff, Nat.reduceAdd, Nat.reduceSub, Nat.reduceMul, Nat.reduceLeDiff, Int.reduceLT, Int.reduceLE, Int.reduceEq, Int.reduceAdd, Int.reduceSub, Int.reduceMul, Int.reduceNeg, Int.reduceToNat, reduceCtorEq, Nat.reduceBEq, Nat.reduceLT]
        exact ⟨0, rfl, rfl⟩
      · rintro i fr H' ⟨hi, f15, f16, f17, rfl, n, hn, f5⟩
        unfold scAddr.L0
        have hw : IntKind.i64.wrap ((i : Int) + 1) = ((i + 1 : Nat) : Int) := wrap64 (by omega)
        have hlt32 := addrL_lt _ _ _ 0 hn (by decide)
        rw [List.length_take, h4, Nat.min_eq_left hi] at hlt32
        by_cases hlt : (i : Int) < 4
        · have hlt' : i < 4 := by omega
          obtain ⟨p, hp⟩ : ∃ p, (partsB 46 l)[i]? = some p := ⟨_, List.getElem?_eq_getElem (by omega)⟩
          have hpb : p.length ≤ big := Nat.le_trans (parts_le 46 l p (List.mem_of_getElem? hp)) hl
          have htk : (partsB 46 l).take (i + 1) = (partsB 46 l).take i ++ [p] := by rw [List.take_add_one, hp]; rfl
          have hstep : addrL ((partsB 46 l).take (i + 1)) 0 = (part255 p).map fun k => 256 * n + k := by
            rw [htk, addrL_snoc, hn]; rfl
          have hwhole := addrL_take (partsB 46 l) 0 (i + 1) (by omega)
          cases hd : decB p with
          | none =>
            have : addrB l = none := by rw [hA, hwhole, hstep]; simp [part255, hd]
            simp (implicitDefEqProofs := false) only [go_sem, reduceIte, Nat.reduceEqDiff, Nat.reduceAdd, Nat.reduceSub, Nat.reduceMul, Nat.reduceLeDiff, Int.reduceLT, Int.reduceLE, Int.reduceEq, Int.reduceAdd, Int.reduceSub, Int.reduceMul, Int.reduceNeg, Int.reduceToNat, reduceCtorEq, Nat.reduceBEq, Nat.reduceLT, f5, f15, f16, f17, hlt, hp, hpb, hd, this, Option.isSome_none]
          | some k =>
            by_cases hk : (255 : Int) < (k : Int)
            · have : addrB l = none := by rw [hA, hwhole, hstep]; simp [part255, hd, show ¬ k ≤ 255 by omega]
              simp (implicitDefEqProofs := false) only [go_sem, reduceIte, Nat.reduceEqDiff, Nat.reduceAdd, Nat.reduceSub, Nat.reduceMul, Nat.reduceLeDiff, Int.reduceLT, Int.reduceLE, Int.reduceEq, Int.reduceAdd, Int.reduceSub, Int.reduceMul, Int.reduceNeg, Int.reduceToNat, reduceCtorEq, Nat.reduceBEq, Nat.reduceLT, f5, f15, f16, f17, hlt, hp, hpb, hd, this, Option.isSome_none, Option.isSome_some, hk]
            · have hs2 : addrL ((partsB 46 l).take (i + 1)) 0 = some (256 * n + k) := by rw [hstep]; simp [part255, hd, show k ≤ 255 by omega]
              have hp3 : 256 ^ (0 + i) ≤ 256 ^ 3 := Nat.pow_le_pow_right (by decide) (by omega)
              have w1 : IntKind.u32.wrap ((n : Int) * 2 ^ min 8 32) = (n : Int) * 256 := by
                show IntKind.u32.wrap ((n : Int) * 256) = (n : Int) * 256
                simp [IntKind.wrap, IntKind.bits, IntKind.signed]; omega
              have w2 : IntKind.u32.wrap (k : Int) = (k : Int) := by
                simp [IntKind.wrap, IntKind.bits, IntKind.signed]; omega
              have w3 := or_add n k (by omega) (by omega)
              simp (implicitDefEqProofs := false) only [go_sem, reduceIte, Nat.reduceEqDiff, Nat.reduceAdd, Nat.reduceSub, Nat.reduceMul, Nat.reduceLeDiff, Int.reduceLT, Int.reduceLE, Int.reduceEq, Int.reduceAdd, Int.reduceSub, Int.reduceMul, Int.reduceNeg, Int.reduceToNat, reduceCtorEq, Nat.reduceBEq, Nat.reduceLT, f5, f15, f16, f17, hlt, hp, hpb, hd, Option.isSome_some, hk, w1, w2, w3, hw]
              exact ⟨hlt', by omega, _, hs2, rfl⟩
        · simp (implicitDefEqProofs := false) only [go_sem, reduceIte, Nat.reduceEqDiff, Nat.reduceAdd, Nat.reduceSub, Nat.reduceMul, Nat.reduceLeDiff, Int.reduceLT, Int.reduceLE, Int.reduceEq, Int.reduceAdd, Int.reduceSub, Int.reduceMul, Int.reduceNeg, Int.reduceToNat, reduceCtorEq, Nat.reduceBEq, Nat.reduceLT, f15, f16, f17, hlt]
          rw [wpO_eq]
          unfold scAddr.R0
          have hi4 : i = 4 := by omega
          subst hi4
          rw [List.take_of_length_le (by omega)] at hn
          simp (implicitDefEqProofs := false) only [go_sem, reduceIte, Nat.reduceEqDiff, Nat.reduceAdd, Nat.reduceSub, Nat.reduceMul, Nat.reduceLeDiff, Int.reduceLT, Int.reduceLE, Int.reduceEq, Int.reduceAdd, Int.reduceSub, Int.reduceMul, Int.reduceNeg, Int.reduceToNat, reduceCtorEq, Nat.reduceBEq, Nat.reduceLT, f5, hA, hn, Option.isSome_some]
    · have hA : addrB l = none := by unfold addrB; rw [if_neg h4]
      have h4' : ¬ (((partsB 46 l).length : Nat) : Int) = 4 := by omega
      simp (implicitDefEqProofs := false) (contextual := true) only [go_sem, reduceIte, Nat.reduceEqDiff, Nat.reduceAdd, Nat.reduceSub, Nat.reduceMul, Nat.reduceLeDiff, Int.reduceLT, Int.reduceLE, Int.reduceEq, Int.reduceAdd, Int.reduceSub, Int.reduceMul, Int.reduceNeg, Int.reduceToNat, reduceCtorEq, Nat.reduceBEq, Nat.reduceLT, hl, h4', hA, Option.isSome_none]
  · cases hs

theorem cut_parts (c : UInt8) : ∀ l : Text, (partsB c l = [l] ∧ (cutB c l) = (l, [], false) ∧ l.any (fun b => decide (b = c)) = false) ∨
    (∃ r, partsB c l = (cutB c l).1 :: partsB c (cutB c l).2.1 ∧ r = (cutB c l).2.1 ∧ (cutB c l).2.2 = true)
  | [] => .inl ⟨rfl, rfl, rfl⟩
  | b :: l => by
    by_cases h : b = c
    · subst h
      right
      exact ⟨_, by simp [cutB, partsB], rfl, by simp [cutB]⟩
    · rcases cut_parts c l with ⟨h1, h2, h3⟩ | ⟨r, h1, h2, h3⟩
      · left
        refine ⟨by simp [partsB, h, h1], ?_, by simp [h, h3]⟩
        simp only [cutB, Prod.mk.injEq] at h2 ⊢
        have h21 := h2.1
        have h22 := h2.2.1
        simp only [ne_eq, decide_not, List.drop_one] at h21 h22
        simp [h, h3, h21, h22]
      · right
        refine ⟨_, ?_, rfl, ?_⟩
        · simp only [partsB, h, if_false, h1]
          simp [cutB, h]
        · simp only [cutB] at h3 ⊢
          simp [h, h3]
theorem dec_slash {l : Text} (h : l.any (fun b => decide (b = 47)) = true) : decB l = none := by
  unfold decB
  rw [if_neg]
  intro hd
  obtain ⟨b, hb, he⟩ := List.any_eq_true.1 h
  have := List.all_eq_true.1 hd.1.2.2 b hb
  simp at he
  subst he
  simp [digB] at this
theorem net_cut (l : Text) : netB l = (addrB (cutB 47 l).1).bind fun a => (decB (cutB 47 l).2.1).bind fun n => if 1 ≤ n ∧ n ≤ 32 then some (a, n) else none := by
  unfold netB
  rcases cut_parts 47 l with ⟨h1, h2, h3⟩ | ⟨r, h1, h2, h3⟩
  · rw [h1, h2]
    have : decB [] = none := rfl
    simp [this]
  · rw [h1]
    rcases cut_parts 47 (cutB 47 l).2.1 with ⟨k1, k2, k3⟩ | ⟨r', k1, k2, k3⟩
    · rw [k1]
    · have hd : decB (cutB 47 l).2.1 = none := dec_slash (by simpa [cutB] using k3)
      rw [k1, hd]
      have hne := partsB_ne 47 (cutB 47 (cutB 47 l).2.1).2.1
      obtain ⟨p, ps, hp⟩ := List.exists_cons_of_ne_nil hne
      rw [hp]
      simp
theorem w_scNet (h1 : PureF Tryz.prog W0 125 sCut) (h2 : PureF Tryz.prog W0 93 sDec) (h3 : PureF Tryz.prog W0 63 sAddr) : PureF Tryz.prog W0 94 sNet := by
  refine PureF.of (rs := [(.tmp 2), (.tmp 3), (.tmp 4)]) (fun _ _ => false) (Φ := [(125, sCut), (93, sDec), (63, sAddr)]) ⟨h1, h2, h3, trivial⟩ T.mixed Tryz.func94 scNet.of rfl scNet.ok rfl ?_
  intro args H v hs
  unfold sNet at hs
  split at hs
  · rename_i l
    split at hs <;> cases hs
    rename_i hl
    refine ⟨by simp [Tryz.f94], ?_⟩
    have hn := net_cut l
    have ha : (cutB 47 l).1.length ≤ big := Nat.le_trans (List.takeWhile_sublist _).length_le hl
    have hb : (cutB 47 l).2.1.length ≤ big := by
      refine Nat.le_trans ?_ hl
      simp only [cutB, List.length_drop]
      have := (List.dropWhile_sublist (l := l) (fun b => decide (b ≠ 47))).length_le
      omega
    unfold scNet.c
    cases hA : addrB (cutB 47 l).1 with
    | none =>
      cases hD : decB (cutB 47 l).2.1 with
      | none => simp (implicitDefEqProofs := false) (contextual := true) only [go_sem, reduceIte, Nat.reduceEqDiff, Nat.reduceAdd, Nat.reduceSub, Nat.reduceMul, Nat.reduceLeDiff, Int.reduceLT, Int.reduceLE, Int.reduceEq, Int.reduceAdd, Int.reduceSub, Int.reduceMul, Int.reduceNeg, Int.reduceToNat, reduceCtorEq, Nat.reduceBEq, Nat.reduceLT, hl, hn, hA, hD, ha, hb, Option.isSome_none, Option.bind_none]
      | some n => simp (implicitDefEqProofs := false) (contextual := true) only [go_sem, reduceIte, Nat.reduceEqDiff, Nat.reduceAdd, Nat.reduceSub, Nat.reduceMul, Nat.reduceLeDiff, Int.reduceLT, Int.reduceLE, Int.reduceEq, Int.reduceAdd, Int.reduceSub, Int.reduceMul, Int.reduceNeg, Int.reduceToNat, reduceCtorEq, Nat.reduceBEq, Nat.reduceLT, hl, hn, hA, hD, ha, hb, Option.isSome_none, Option.isSome_some, Option.bind_none]
    | some x =>
      cases hD : decB (cutB 47 l).2.1 with
      | none => simp (implicitDefEqProofs := false) (contextual := true) only [go_sem, reduceIte, Nat.reduceEqDiff, Nat.reduceAdd, Nat.reduceSub, Nat.reduceMul, Nat.reduceLeDiff, Int.reduceLT, Int.reduceLE, Int.reduceEq, Int.reduceAdd, Int.reduceSub, Int.reduceMul, Int.reduceNeg, Int.reduceToNat, reduceCtorEq, Nat.reduceBEq, Nat.reduceLT, hl, hn, hA, hD, ha, hb, Option.isSome_none, Option.isSome_some, Option.bind_none]
      | some n =>
        by_cases q1 : (n : Int) < 1
        · have q : ¬ (1 ≤ n ∧ n ≤ 32) := by omega
          simp (implicitDefEqProofs := false) (contextual := true) only [go_sem, reduceIte, Nat.reduceEqDiff, Nat.reduceAdd, Nat.reduceSub, Nat.reduceMul, Nat.reduceLeDiff, Int.reduceLT, Int.reduceLE, Int.reduceEq, Int.reduceAdd, Int.reduceSub, Int.reduceMul, Int.reduceNeg, Int.reduceToNat, reduceCtorEq, Nat.reduceBEq, Nat.reduceLT, hl, hn, hA, hD, ha, hb, Option.isSome_none, Option.isSome_some, q1, q]
        · by_cases q2 : (32 : Int) < (n : Int)
          · have q : ¬ (1 ≤ n ∧ n ≤ 32) := by omega
            simp (implicitDefEqProofs := false) (contextual := true) only [go_sem, reduceIte, Nat.reduceEqDiff, Nat.reduceAdd, Nat.reduceSub, Nat.reduceMul, Nat.reduceLeDiff, Int.reduceLT, Int.reduceLE, Int.reduceEq, Int.reduceAdd, Int.reduceSub, Int.reduceMul, Int.reduceNeg, Int.reduceToNat, reduceCtorEq, Nat.reduceBEq, Nat.reduceLT, hl, hn, hA, hD, ha, hb, Option.isSome_none, Option.isSome_some, q1, q2, q]
          · have q : 1 ≤ n ∧ n ≤ 32 := by omega
            simp (implicitDefEqProofs := false) (contextual := true) only [go_sem, reduceIte, Nat.reduceEqDiff, Nat.reduceAdd, Nat.reduceSub, Nat.reduceMul, Nat.reduceLeDiff, Int.reduceLT, Int.reduceLE, Int.reduceEq, Int.reduceAdd, Int.reduceSub, Int.reduceMul, Int.reduceNeg, Int.reduceToNat, reduceCtorEq, Nat.reduceBEq, Nat.reduceLT, hl, hn, hA, hD, ha, hb, Option.isSome_none, Option.isSome_some, q1, q2, q]
  · cases hs

end Go.Proofs.W

namespace Go.Proofs.W
open Go Go.IL Go.Proofs
variable {W0 : World}
/-- What conf, schema, diff and plan answer, and the document's own functions. -/
structure Known (W0 : World) : Prop where
  scFind : PureF Tryz.prog W0 76 sFind
  r4Find : PureF Tryz.prog W0 41 sFind
  r5Less : PureF Tryz.prog W0 34 sLess
  r5RightLine : PureF Tryz.prog W0 33 sLineOk
  r5Right : PureF Tryz.prog W0 10 sRights
  cfRight : PureF Tryz.prog W0 69 sRights
  cfNames : PureF Tryz.prog W0 29 sNames
  cfValue : PureF Tryz.prog W0 64 sValue
  dfLines : PureF Tryz.prog W0 28 sDiff
  plMake : PureF Tryz.prog W0 7 sMake
  plText : PureF Tryz.prog W0 11 sTextT
  plans : PureF Tryz.prog W0 9 sPlans
theorem known {m : Int} (hW : W0.cell? ⟨0, 0, none⟩ = some (.int .i64 m)) (hd : W0.drawn ≠ 1) : Known W0 := by
  have scFind := w_scFind (W0 := W0) (w_scTable w_number)
  have r4Find := w_r4Find (W0 := W0) w_r4Table
  have isWord := w_isWord (W0 := W0) (w_word (w_inside l_IndexByte))
  have parts := w_r4Parts (W0 := W0)
  have dec := w_r4Decimal (W0 := W0)
  have addr := w_r4Addr parts dec
  have net := w_r4Net parts dec addr
  have word := w_r4Word (w_r3Words (W0 := W0) w_r3In)
  have named := w_r4Named parts word addr
  have right := w_r4Right addr net dec word
  have rl := w_r5RightLine r4Find named right
  have less := w_r5Less (W0 := W0)
  have r5 := w_r5Right rl less
  have sdec := w_scDecimal (l_Trim hd) l_Atoi
  have saddr := w_scAddr (l_Split hW) sdec
  have snet := w_scNet (l_Cut hW) sdec saddr
  have cont := w_slContains (W0 := W0) w_slIndexS
  have snamed := w_scNamed saddr isWord l_Contains
  have sright := w_scRight saddr snet sdec isWord cont
  have order := w_cfOrder (W0 := W0) (w_cmpInt w_cmpNaN) l_Compare w_cmpOr
  have cless := w_cfLess order
  have cright := w_cfRight (w_cfRight1 scFind snamed sright) cless
  have names := w_cfNames cright
  have value := w_cfValue cright (w_slBin order) scFind
  have lines := w_dfLines cright cless w_dfKey
  have make := w_plMake lines names (w_plHas names cont) scFind w_plKind (w_plIn value)
  have text := w_plText (W0 := W0) w_plWord
  exact ⟨scFind, r4Find, less, rl, r5, cright, names, value, lines, make, text, w_l17plans make text⟩
theorem Known.raw (h : Known W0) : PureF Tryz.prog W0 3 sRaw := w_l17Raw w_l5To h.plMake h.plText h.plans h.r5Right w_r17Text
end Go.Proofs.W

/- From the arguments as they are read to ideal values; a known function called at the top. -/
namespace Go.IL
open Go Go.Proofs Go.RowKit Go.ChangeShapes Go.WideShapes Go.Deep

section
variable {P : Program} {W : World}
/-- All that lies there when the call begins is never turned. -/
def Ghost.of (W : World) : Ghost := ⟨fun _ => Option.none, fun _ => 0, fun b o => (W.cell? ⟨b, o, Option.none⟩).bind fun v => if v.oneCell' = true then some v else Option.none, false⟩
theorem imm_of {b o : Nat} {v : Value} (h : W.cell? ⟨b, o, none⟩ = some v) (h1 : v.oneCell' = true) : (Ghost.of W).imm b o = some v := by simp [Ghost.of, h, h1]
theorem sim_of (W : World) : Sim (Ghost.of W) (fun _ => .dead) 0 W where
  imm b o v e := by
    simp only [Ghost.of, Option.bind_eq_some_iff] at e
    obtain ⟨u, h1, h2⟩ := e
    split at h2
    · rename_i h3; cases h2; exact ⟨h1, h3⟩
    · cases h2
  lt i b e := by cases e
  obj i hi := (hi rfl).elim
  inj i j b hi := (hi rfl).elim
  itr i m l j b hi := by cases hi
theorem base_of (W : World) : Base { W with drawn := 0 } (Ghost.of W) W := ⟨Nat.le_refl _, (by intro i b e; cases e), fun _ _ => rfl, rfl, rfl, rfl, rfl⟩
theorem PureF.top {f : Nat} {s : Sem1} {args : List V} {v : V} {vals : Array Value} (h : PureF P { W with drawn := 0 } f s) (hs : s args (fun _ => .dead) = some v) (hsz : vals.size = args.length)
    (hr : ∀ (j : Nat) v y, args[j]? = some v → vals[j]? = some y → Rep (Ghost.of W) v y) : Calls P f vals W fun e w' => ∃ y G', e = .returned y ∧ Rep G' v y ∧ Below W.heap.size W w' := by
  refine ((h args _ v hs).2 (Ghost.of W) 0 W vals hsz hr (base_of W) (sim_of W)).mono ?_
  rintro e w' ⟨y, rfl, v', H', G', nx', -, hx, -, hr', rfl, rfl⟩
  exact ⟨y, G', rfl, hr', hx.os, hx.tape, hx.out, hx.size, fun k hk => hx.keep k hk fun i hi => (hi rfl).elim⟩
theorem cells_at {base k : Nat} {a : Addr} {cs : List Value} {m : Nat} (h : W.cells? base (a.add (m * k)) k = some cs) : ∀ j, j < k → W.cell? ⟨a.block, a.off + m * k + j, none⟩ = cs[j]? := by
  intro j hj
  obtain ⟨_, hlen, hcell⟩ := World.cells?_some h
  have h1 := hcell j hj
  have hlt : j < cs.length := by omega
  rw [List.getElem?_eq_getElem hlt] at h1 ⊢
  have key : ∀ (b : Addr) (n : Nat), W.cell? (b.add n) = some cs[j] → W.cell? ⟨b.block, b.off + n, none⟩ = some cs[j] := by
    intro b n hb
    unfold Addr.add at hb
    split at hb
    · rename_i h0
      subst h0
      have hs := World.cell?_spot hb
      obtain ⟨x, y, z⟩ := b
      simp at hs
      subst hs
      exact hb
    · exact hb
  have h2 := key _ _ h1
  have e1 : (a.add (m * k)).block = a.block := by unfold Addr.add; split <;> rfl
  have e2 : (a.add (m * k)).off = a.off + m * k := by unfold Addr.add; split <;> simp_all
  rw [e1, e2] at h2
  exact h2
variable {H : Type} {enc : TypeId × Value → H} {base : Nat} {spare : Nat → Bool} {held : Bool}
/-- A slice of rows that are flat. -/
theorem read_rows {α : Type} [Inhabited α] {t e : TypeId} {k : Nat} (ht : P.underlying t = some (.slice e)) (hce : P.cellsOf e = k) (hk0 : 0 < k) (encV : α → List Value) (encD : α → DataW H) (hkk : ∀ x, (encV x).length = k)
    (h1 : ∀ x, ∀ c ∈ encV x, c.oneCell' = true) (hel : ∀ n cs x, DataW.trod enc P W base spare held n e cs = some x → ∃ a, cs = encV a ∧ x.1 = encD a)
    {v : Value} {d : DataW H} {ps : List MemPlace} {r : Reach} {b0 : Nat} (hval : Value.okWide P W r b0 t v) (hd : DataW.Trod enc P W base spare held t v d ps) :
    ∃ l : List α, Rep (Ghost.of W) (.sl (l.map fun x => .agg ((encV x).map ofScalar))) v ∧ ((l = [] ∧ d = .nil) ∨ ∃ sp, d = .slice (l.map encD) sp) := by
  obtain ⟨a0, len, cap, rfl⟩ := okWide_slice ht hval
  obtain ⟨fuel, hf⟩ := hd
  rcases open_slice ht hf with ⟨h0, h2⟩ | ⟨a, len', cap', m, n, D, Pl, h0, hb, hl, hm, hmm, h2, hx⟩
  · have : Value.slice a0 len cap = .slice none 0 0 := by simpa [Value.cells] using h0
    rw [this]
    cases h2
    exact ⟨[], .sl0, .inl ⟨rfl, rfl⟩⟩
  · have : Value.slice a0 len cap = .slice (some a) len' cap' := by simpa [Value.cells] using h0
    cases this
    cases h2
    have hlm : len ≤ m := by rw [hmm]; split <;> omega
    have hall : ∀ i, i < len → ∃ x : α, W.cells? base (a.add (i * k)) k = some (encV x) ∧ D i = encD x := by
      intro i hi
      obtain ⟨cs', g1, g2⟩ := hx i (by omega)
      obtain ⟨x, rfl, g3⟩ := hel _ _ _ g2
      rw [hce] at g1
      exact ⟨x, g1, g3⟩
    let f : Nat → α := fun i => if h : i < len then Classical.choose (hall i h) else default
    have hfs : ∀ i, i < len → W.cells? base (a.add (i * k)) k = some (encV (f i)) ∧ D i = encD (f i) := by
      intro i hi
      have := Classical.choose_spec (hall i hi)
      simpa [f, hi] using this
    refine ⟨(List.range len).map f, ?_, .inr ⟨(List.range (m - len)).map fun j => D (len + j), ?_⟩⟩
    · have hlen : ((List.range len).map f |>.map fun x => V.agg ((encV x).map ofScalar)).length = len := by simp
      have hget : ∀ (i : Nat) x, ((List.range len).map f |>.map fun x => V.agg ((encV x).map ofScalar))[i]? = some x → i < len ∧ x = V.agg ((encV (f i)).map ofScalar) := by
        intro i x hi
        simp only [List.getElem?_map, Option.map_eq_some_iff, List.getElem?_range'] at hi
        obtain ⟨y, ⟨z, hz, rfl⟩, rfl⟩ := hi
        obtain ⟨hlt, rfl⟩ := List.getElem?_eq_some_iff.1 hz
        simp at hlt
        exact ⟨hlt, by simp⟩
      have hrep := Rep.sl (G := Ghost.of W) (es := k) (xs := (List.range len).map f |>.map fun x => V.agg ((encV x).map ofScalar)) (b := a.block) (o := a.off) (c := cap) (by rw [hlen]; exact hl)
        (fun i j => ((encV (f i))[j]?).getD undef) (by
          intro i x hi
          obtain ⟨-, rfl⟩ := hget i x hi
          simp [V.cells, hkk]) (by
          intro i j hi hj
          rw [hlen] at hi
          have hjl : j < (encV (f i)).length := by rw [hkk]; exact hj
          have := cells_at (hfs i hi).1 j hj
          rw [List.getElem?_eq_getElem hjl] at this ⊢
          exact imm_of this (h1 _ _ (List.getElem_mem hjl))) (by
          intro i j x v hi hv
          obtain ⟨-, rfl⟩ := hget i x hi
          simp only [V.cells, List.getElem?_map, Option.map_eq_some_iff] at hv
          obtain ⟨u, hu, rfl⟩ := hv
          rw [hu]
          exact rep_ofScalar _ _)
      rw [hlen] at hrep
      by_cases h0 : len = 0
      · subst h0; exact .sl0
      · have hsp : a.spot = none := by
          obtain ⟨_, hl2, hc2⟩ := World.cells?_some (hfs 0 (by omega)).1
          have h2 := hc2 0 hk0
          rw [List.getElem?_eq_getElem (by omega)] at h2
          have h3 : (a.add (0 * k)).add 0 = a := by simp [Addr.add]
          rw [h3] at h2
          exact World.cell?_spot h2
        obtain ⟨x, y, z⟩ := a
        simp at hsp; subst hsp
        exact hrep
    · congr 1
      rw [List.map_map]
      exact List.map_congr_left fun i hi => (hfs i (List.mem_range.1 hi)).2
end
end Go.IL

namespace Go.Proofs.W
set_option maxRecDepth 100000
open Go Go.IL Go.Proofs Go.RowKit Go.ChangeShapes Go.WideShapes
section
variable {H : Type} {enc : TypeId × Value → H} {W : World} {base : Nat} {spare : Nat → Bool} {held : Bool}
theorem read_int {t : TypeId} {k : IntKind} (ht : Tryz.prog.underlying t = some (.int k)) {n : Nat} {cs : List Value} {x : DataW H × List MemPlace} (h : DataW.trod enc Tryz.prog W base spare held n t cs = some x) :
    ∃ z, cs = [.int k z] ∧ x.1 = .lit (.int k z) := by
  cases n with
  | zero => simp [DataW.trod] at h
  | succ n =>
    unfold DataW.trod at h
    rw [ht] at h
    split at h <;> simp_all
    obtain ⟨⟨rfl, -⟩, rfl⟩ := h
    first | rfl | exact ⟨_, rfl, rfl⟩
theorem read_str {t : TypeId} (ht : Tryz.prog.underlying t = some .string) {n : Nat} {cs : List Value} {x : DataW H × List MemPlace} (h : DataW.trod enc Tryz.prog W base spare held n t cs = some x) :
    ∃ s : Text, cs = [.string ⟨s.toArray⟩] ∧ x.1 = .lit (.string s) := by
  cases n with
  | zero => simp [DataW.trod] at h
  | succ n =>
    unfold DataW.trod at h
    rw [ht] at h
    split at h <;> simp_all
    rename_i s
    obtain ⟨-, rfl⟩ := h
    exact ⟨s.data.toList, by simp, rfl⟩
def lineD (l : Line) : DataW H := .agg [.lit (.int .i64 l.head), .lit (.string l.name), .lit (.string l.leaf), .lit (.string l.value)]
def actD (a : Act) : DataW H := .agg [.lit (.int .i64 a.kind), .lit (.string a.name)]
def lineVs (l : Line) : List Value := [.int .i64 l.head, .string ⟨l.name.toArray⟩, .string ⟨l.leaf.toArray⟩, .string ⟨l.value.toArray⟩]
def actVs (a : Act) : List Value := [.int .i64 a.kind, .string ⟨a.name.toArray⟩]
theorem cut1 {cs : List Value} {i : Nat} {v : Value} (h : (cs.drop i).take 1 = [v]) : cs[i]? = some v := by
  have := congrArg (fun l : List Value => l[0]?) h
  simpa [List.getElem?_take, List.getElem?_drop] using this
theorem read_line {n : Nat} {cs : List Value} {x : DataW H × List MemPlace} (h : DataW.trod enc Tryz.prog W base spare held n 86 cs = some x) : ∃ l : Line, cs = lineVs l ∧ x.1 = lineD l := by
  obtain ⟨xs, m, -, rfl, hl, hn, hf⟩ := DataW.trod_struct Tryz.underlying86 h
  have c3 : Tryz.prog.cellsOf 3 = 1 := by kernel_rfl
  have c9 : Tryz.prog.cellsOf 9 = 1 := by kernel_rfl
  have cl : Tryz.prog.cellsOf 86 = 4 := by kernel_rfl
  rw [cl] at hl
  match cs, hl with
  | [c0, c1, c2, c4], _ =>
    match xs, hn with
    | [y0, y1, y2, y3], _ =>
      have f0 : DataW.trod enc Tryz.prog W base spare held m 3 [c0] = some y0 := by have := hf 0 _ rfl; simpa [c3] using this
      have f1 : DataW.trod enc Tryz.prog W base spare held m 9 [c1] = some y1 := by have := hf 1 _ rfl; simpa [c9] using this
      have f2 : DataW.trod enc Tryz.prog W base spare held m 9 [c2] = some y2 := by have := hf 2 _ rfl; simpa [c9] using this
      have f3 : DataW.trod enc Tryz.prog W base spare held m 9 [c4] = some y3 := by have := hf 3 _ rfl; simpa [c9] using this
      obtain ⟨z, e0, d0⟩ := read_int Tryz.underlying3 f0
      obtain ⟨s1, e1, d1⟩ := read_str Tryz.underlying9 f1
      obtain ⟨s2, e2, d2⟩ := read_str Tryz.underlying9 f2
      obtain ⟨s3, e3, d3⟩ := read_str Tryz.underlying9 f3
      simp only [List.cons.injEq, and_true] at e0 e1 e2 e3
      subst e0 e1 e2 e3
      exact ⟨⟨z, s1, s2, s3⟩, rfl, by simp [lineD, d0, d1, d2, d3]⟩
theorem read_act {n : Nat} {cs : List Value} {x : DataW H × List MemPlace} (h : DataW.trod enc Tryz.prog W base spare held n 32 cs = some x) : ∃ a : Act, cs = actVs a ∧ x.1 = actD a := by
  obtain ⟨xs, m, -, rfl, hl, hn, hf⟩ := DataW.trod_struct Tryz.underlying32 h
  have c3 : Tryz.prog.cellsOf 3 = 1 := by kernel_rfl
  have c9 : Tryz.prog.cellsOf 9 = 1 := by kernel_rfl
  have cl : Tryz.prog.cellsOf 32 = 2 := by kernel_rfl
  rw [cl] at hl
  match cs, hl with
  | [c0, c1], _ =>
    match xs, hn with
    | [y0, y1], _ =>
      have f0 : DataW.trod enc Tryz.prog W base spare held m 3 [c0] = some y0 := by have := hf 0 _ rfl; simpa [c3] using this
      have f1 : DataW.trod enc Tryz.prog W base spare held m 9 [c1] = some y1 := by have := hf 1 _ rfl; simpa [c9] using this
      obtain ⟨z, e0, d0⟩ := read_int Tryz.underlying3 f0
      obtain ⟨s1, e1, d1⟩ := read_str Tryz.underlying9 f1
      simp only [List.cons.injEq, and_true] at e0 e1
      subst e0 e1
      exact ⟨⟨z, s1⟩, rfl, by simp [actD, d0, d1]⟩
/-- A slice of lines; of actions. -/
theorem read_lines {v : Value} {d : DataW H} {ps : List MemPlace} {r : Reach} {b0 : Nat} (hval : Value.okWide Tryz.prog W r b0 22 v) (hd : DataW.Trod enc Tryz.prog W base spare held 22 v d ps) :
    ∃ l : List Line, Rep (Ghost.of W) (.sl (l.map lineV)) v ∧ ((l = [] ∧ d = .nil) ∨ ∃ sp, d = .slice (l.map lineD) sp) :=
  read_rows (α := Line) Tryz.underlying22 (k := 4) (by kernel_rfl) (by decide) lineVs lineD (fun _ => rfl) (fun x c hc => by simp [lineVs] at hc; rcases hc with rfl | rfl | rfl | rfl <;> rfl) (fun n cs x h => read_line h) hval hd
theorem read_acts {v : Value} {d : DataW H} {ps : List MemPlace} {r : Reach} {b0 : Nat} (hval : Value.okWide Tryz.prog W r b0 23 v) (hd : DataW.Trod enc Tryz.prog W base spare held 23 v d ps) :
    ∃ l : List Act, Rep (Ghost.of W) (.sl (l.map actV)) v ∧ ((l = [] ∧ d = .nil) ∨ ∃ sp, d = .slice (l.map actD) sp) :=
  read_rows (α := Act) Tryz.underlying23 (k := 2) (by kernel_rfl) (by decide) actVs actD (fun _ => rfl) (fun x c hc => by simp [actVs] at hc; rcases hc with rfl | rfl <;> rfl) (fun n cs x h => read_act h) hval hd
end
end Go.Proofs.W

namespace Go.Proofs.YthdlaekahejdnaaGreatDoor
set_option maxRecDepth 100000
open Go Go.IL Go.Proofs Go.RowKit Go.ChangeShapes Go.WideShapes
/-- A world for the witness: the settled one, two blocks more (the sentinels), the listed variables as the text lays them. -/
def cell1 : DataW Unit → List Value
  | .lit (.int k n) => [.int k n]
  | _ => []
def cells1 : DataW Unit → List Value
  | .agg ps => ps.flatMap cell1
  | _ => []
def cells2 : DataW Unit → List Value
  | .agg ps => ps.flatMap cells1
  | _ => []
noncomputable def laidWorld (os : Os) : World :=
  let N := (World.settled Tryz.prog os).heap.size
  let w0 := World.holding Tryz.prog os ⟨#[.cells #[.string ⟨#[118, 97, 108, 117, 101, 32, 111, 117, 116, 32, 111, 102, 32, 114, 97, 110, 103, 101]⟩] 314, .cells #[.string ⟨#[105, 110, 118, 97, 108, 105, 100, 32, 115, 121, 110, 116, 97, 120]⟩] 314], #[], []⟩
  let put (h : Array Go.Obj) (g : Nat) (cs : Array Value) : Array Go.Obj := h.modify g fun
    | .cells _ t frozen => .cells cs t frozen
    | o => o
  let h1 := put w0.heap 1 #[.iface 312 (.pointer (some ⟨N + 1, 0, none⟩))]
  let h2 := put h1 2 #[.iface 312 (.pointer (some ⟨N, 0, none⟩))]
  let h3 := put h2 3 (cells1 Rows.laid_unicode_utf8_first).toArray
  let h4 := put h3 4 (cells2 Rows.laid_unicode_utf8_acceptRanges).toArray
  let h5 := put h4 5 (cells1 Rows.laid_internal_strconv_uint64pow10).toArray
  let h6 := put h5 6 (cells1 Rows.laid_math_bits_deBruijn32tab).toArray
  let h7 := put h6 7 (cells1 Rows.laid_math_bits_deBruijn64tab).toArray
  { w0 with heap := h7 }
theorem laid_met (os : Os) (args : Array Value) : laidMet Tryz.prog Rows.planRawRow.laid ((laidWorld os).forCall (fun _ _ => 0) ⟨#[], args, []⟩).memory :=
  laidMet_of_run' 8 (by kernel_rfl) (by kernel_rfl)
theorem maxLen_of {W : World} (h : W.ShapedOpen Tryz.prog) : ∃ m, W.cell? ⟨0, 0, none⟩ = some (.int .i64 m) :=
  cell_of_shapedOpen_int (zero := #[.int .i64 0]) (t := 3) h (of_decide_eq_true (by kernel_rfl)) (by kernel_rfl) rfl (by kernel_rfl) (by kernel_rfl) Tryz.underlying3
theorem own : ownKnob Tryz.prog.godebug = none := by kernel_rfl
theorem laidOut : laidOutB Tryz.prog = true := by kernel_rfl
end Go.Proofs.YthdlaekahejdnaaGreatDoor

namespace Go.Proofs.YthdlaekahejdnaaGreatDoor
set_option maxRecDepth 100000
open Go Go.IL Go.Proofs Go.RowKit Go.ChangeShapes Go.WideShapes Go.Proofs.W
section
variable {H : Type}
theorem bulk_lines : ∀ (l : List Line), l.length ≤ Rows.uptoBulkAll (l.map (lineD (H := H))) ∧ ∀ a ∈ l, a.name.length + a.leaf.length + a.value.length ≤ Rows.uptoBulkAll (l.map (lineD (H := H)))
  | [] => ⟨Nat.zero_le _, fun a h => by cases h⟩
  | x :: l => by
    obtain ⟨h1, h2⟩ := bulk_lines l
    have e : Rows.uptoBulkAll ((x :: l).map (lineD (H := H))) = (1 + (x.name.length + 1 + (x.leaf.length + 1 + (x.value.length + 1 + 0))) + 1) + Rows.uptoBulkAll (l.map (lineD (H := H))) := by
      simp only [List.map_cons, Rows.uptoBulkAll, lineD, Rows.uptoBulk]
    rw [e]
    refine ⟨by simp; omega, fun a ha => ?_⟩
    rcases List.mem_cons.1 ha with rfl | ha
    · omega
    · have := h2 a ha; omega
theorem bulk_acts : ∀ (l : List Go.Proofs.W.Act), l.length ≤ Rows.uptoBulkAll (l.map (actD (H := H))) ∧ ∀ a ∈ l, a.name.length ≤ Rows.uptoBulkAll (l.map (actD (H := H)))
  | [] => ⟨Nat.zero_le _, fun a h => by cases h⟩
  | x :: l => by
    obtain ⟨h1, h2⟩ := bulk_acts l
    have e : Rows.uptoBulkAll ((x :: l).map (actD (H := H))) = (1 + (x.name.length + 1 + 0) + 1) + Rows.uptoBulkAll (l.map (actD (H := H))) := by
      simp only [List.map_cons, Rows.uptoBulkAll, actD, Rows.uptoBulk]
    rw [e]
    refine ⟨by simp; omega, fun a ha => ?_⟩
    rcases List.mem_cons.1 ha with rfl | ha
    · omega
    · have := h2 a ha; omega
theorem bulk_line {d : DataW H} {l : List Line} (h : (l = [] ∧ d = .nil) ∨ ∃ sp, d = .slice (l.map lineD) sp) : l.length ≤ Rows.uptoBulk d ∧ ∀ a ∈ l, a.name.length + a.leaf.length + a.value.length ≤ Rows.uptoBulk d := by
  rcases h with ⟨rfl, rfl⟩ | ⟨sp, rfl⟩
  · exact ⟨Nat.zero_le _, fun a h => by cases h⟩
  · obtain ⟨h1, h2⟩ := bulk_lines (H := H) l
    simp only [Rows.uptoBulk]
    exact ⟨by omega, fun a ha => by have := h2 a ha; omega⟩
theorem bulk_act {d : DataW H} {l : List Go.Proofs.W.Act} (h : (l = [] ∧ d = .nil) ∨ ∃ sp, d = .slice (l.map actD) sp) : l.length ≤ Rows.uptoBulk d ∧ ∀ a ∈ l, a.name.length ≤ Rows.uptoBulk d := by
  rcases h with ⟨rfl, rfl⟩ | ⟨sp, rfl⟩
  · exact ⟨Nat.zero_le _, fun a h => by cases h⟩
  · obtain ⟨h1, h2⟩ := bulk_acts (H := H) l
    simp only [Rows.uptoBulk]
    exact ⟨by omega, fun a ha => by have := h2 a ha; omega⟩
end
namespace planRaw
theorem reads (os : Os) {H : Type} (enc : TypeId × Value → H) : ∃ places, DataW.whole enc Tryz.prog ((laidWorld os).forCall (fun _ _ => 0) ⟨#[], #[.slice none 0 0, .slice none 0 0], []⟩).memory Tryz.f3.params.toList Rows.planRawSpec.vars false #[Value.slice none 0 0, .slice none 0 0].toList 8 = some ([.nil, .nil], [], places) :=
  ⟨[], by kernel_rfl⟩
theorem contract (H : Type) (enc : TypeId × Value → H) (W : World) (base : Nat) (args : Array Value) (ds gs : List (DataW H)) (before : List MemPlace)
    (hval : ∀ (j : Nat) t v, Tryz.f3.params[j]? = some t → args[j]? = some v → Value.okWide Tryz.prog W .any base t v)
    (hW : DataW.Whole enc Tryz.prog Tryz.f3.params.toList Rows.planRawSpec.vars false W args.toList ds gs before) (hk : Rows.uptoSmall H (ds ++ gs) = true) (hsh : W.ShapedOpen Tryz.prog) :
    Calls Tryz.prog 3 args W fun e W' => ∃ v, e = .returned v ∧ Rows.planRawSpec.post enc Tryz.prog Tryz.f3 false true false false W args v W' := by
  have hW' := hW
  obtain ⟨p, q, hA0, hV, rfl, hfz, hnd⟩ := hW
  have hA : DataW.TrodAll enc Tryz.prog W 0 (fun _ => true) true Tryz.f3.params.toList args.toList ds p := hA0
  rw [Tryz.params3] at hA hval
  obtain ⟨v0, vs0, d0, ds0, p0, q0, hargs, rfl, rfl, h0, r0⟩ := trodAll_cons hA
  obtain ⟨v1, vs1, d1, ds1, p1, q1, rfl, rfl, rfl, h1, r1⟩ := trodAll_cons r0
  obtain ⟨rfl, rfl, rfl⟩ := trodAll_nil r1
  obtain rfl : args = #[v0, v1] := by cases args; simp_all
  obtain ⟨rfl, rfl⟩ := trodVars_none hV
  obtain ⟨x, rx, hx⟩ := read_lines (hval 0 22 v0 rfl rfl) h0
  obtain ⟨l, rl, hl⟩ := read_acts (hval 1 23 v1 rfl rfl) h1
  obtain ⟨m, hm⟩ := maxLen_of hsh
  have hb := of_decide_eq_true hk
  simp only [List.append_nil, Rows.uptoBulkAll] at hb
  obtain ⟨bx, cx⟩ := bulk_line hx
  obtain ⟨bl, cl⟩ := bulk_act hl
  have fit : rawFit x l ∧ x.length ≤ 1048576 ∧ l.length ≤ 1048576 := by
    refine ⟨⟨⟨?_, fun a ha => ?_⟩, ?_, fun a ha => ?_⟩, by omega, by omega⟩
    · have : (x.take 20).length ≤ x.length := (List.take_sublist 20 x).length_le
      unfold big; omega
    · have := cx a (List.mem_of_mem_take ha)
      unfold Line.fits big; omega
    · simp; omega
    · have := cl a (List.mem_of_mem_take ha); omega
  have known : Known { W with drawn := 0 } := known (m := m) hm (by simp)
  have call := PureF.top (vals := #[v0, v1]) known.raw (args := [.sl (x.map lineV), .sl (l.map actV)]) (v := .val (.bool true))
    (by simp only [sRaw, linesOf_map, actsOf_map, Option.bind_some, if_pos fit]) rfl (by
      intro j v y hj hy
      match j with
      | 0 => simp at hj hy; subst hj hy; exact rx
      | 1 => simp at hj hy; subst hj hy; exact rl
      | j + 2 => simp at hj)
  refine call.mono fun e W' he => ?_
  obtain ⟨y, G', rfl, hy, hB⟩ := he
  rw [rep_val hy]
  refine ⟨_, rfl, ?_⟩
  have hlt : ∀ z ∈ p0 ++ (p1 ++ []), z.block < W.heap.size := fun z hz => hW'.lt z (by simpa using hz)
  refine ⟨[d0, d1], [], _, [], p0 ++ (p1 ++ []), [], hW', ?_, ?_, rfl, hB.frame _, fun h => by cases h⟩
  · exact trodAll_cons_mk (shut_bool Tryz.underlying4 _) trodAll_mk0
  · refine trodAll_cons_mk (hB.trod laidOut (by kernel_rfl) (of_decide_eq_true (by kernel_rfl)) h0 fun z hz => hlt z (by simp [hz])) (trodAll_cons_mk (hB.trod laidOut (by kernel_rfl) (of_decide_eq_true (by kernel_rfl)) h1 fun z hz => hlt z (by simp [hz])) trodAll_mk0)
theorem liftedUpto (os : Os) (started : os.Started) (H : Type) (enc : TypeId × Value → H) (F : Stop.Interp) :
    ReturnsInHanded {} Tryz.checked os 3 .any ((Rows.OpenSpec.upto Rows.planRawSpec).preRow enc Tryz.prog Tryz.f3 Rows.planRawUptoRow.domain false Rows.planRawUptoRow.laid) (((Rows.OpenSpec.upto Rows.planRawSpec).at F).post enc Tryz.prog Tryz.f3 false true false false) := by
  obtain ⟨places, hx⟩ := reads os enc
  refine returnsInHanded_of_row (C := Tryz.checked) (s := Rows.OpenSpec.upto Rows.planRawSpec) own started (by kernel_rfl) Tryz.func3
    (witness_row_atRef (enc := enc) (C := Tryz.checked) false (laidWorld os) #[.slice none 0 0, .slice none 0 0] rfl (by kernel_rfl) (by kernel_rfl) (by kernel_rfl)
      (OpenSpec.preRow_of_cond 8 hx (by kernel_rfl) (fun k hk => by cases hk; kernel_rfl) (by kernel_rfl) (laid_met os _))) ?_
  intro W base args ds gs before hval hW _ hcond _ _ hsh _
  exact contract H enc W base args ds gs before hval hW (hcond _ rfl) hsh
theorem saidUpto : Rows.PlanRawUptoSaid :=
  OpenClaim.holds_of_cond 3 Tryz.f3 rfl rfl rfl rfl rfl rfl rfl ⟨rfl, rfl, rfl, rfl, rfl⟩ rfl rfl rfl rfl rfl (by kernel_rfl) Tryz.func3 (by kernel_rfl)
    (of_decide_eq_true (by kernel_rfl)) (by unfold Func.isWrapper; first | (rw [if_pos (by decide +kernel)]; kernel_rfl) | (rw [if_neg (by decide +kernel)]; exact ⟨rfl, rfl⟩))
    (fun os started H enc _ F => by rw [OpenClaim.pre_eq_preRow]; exact liftedUpto os started H enc F)
theorem plain (f : FuncId) (fn : Func) (hf : Tryz.pinned.checked.prog.funcNamed Rows.planRawUptoRow.func = some f) (hfn : Tryz.pinned.checked.prog.funcs[f]? = some fn) :
    true = Tryz.pinned.checked.prog.looks [] ∧ ∀ (j : Nat) t, fn.params[j]? = some t → Tryz.pinned.checked.prog.wantsStandIn t = false := by
  obtain rfl : f = 3 := Option.some.inj ((show Tryz.prog.funcNamed Rows.planRawUptoRow.func = some 3 by kernel_rfl).symm.trans hf) |>.symm
  obtain rfl : fn = Tryz.f3 := (Option.some.inj (Tryz.func3.symm.trans hfn)).symm
  refine ⟨by kernel_rfl, fun j t ht => ?_⟩
  rw [Tryz.params3] at ht
  match j with
  | 0 => simp at ht; subst ht; exact (show Tryz.prog.wantsStandIn 22 = false by kernel_rfl)
  | 1 => simp at ht; subst ht; exact (show Tryz.prog.wantsStandIn 23 = false by kernel_rfl)
  | j + 2 => simp at ht
theorem cardUpto : Rows.PlanRawUptoCardSaid :=
  Claim7.holds_tied_plain_at .later [] _ _ _ _ saidUpto (fun _ h => by cases h) (by kernel_rfl) (fun _ h => by cases h) planRawUpto_row_tie rfl ⟨rfl, rfl⟩ (by kernel_rfl) rfl plain (by kernel_rfl)
end planRaw
end Go.Proofs.YthdlaekahejdnaaGreatDoor
