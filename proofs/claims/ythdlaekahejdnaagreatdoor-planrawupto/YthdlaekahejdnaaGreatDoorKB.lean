import Derived.Test.YthdlaekahejdnaaGreatDoorKA
import Derived.Laws.BytesString
import Derived.Great.FillDense
import Derived.MapKept
import Derived.Maps.RangeRun
import Derived.Lib.UnsafeStr
set_option linter.unusedVariables false
set_option linter.unusedSimpArgs false
/- The ideal meaning of operations is sound, part 5: literals, append. -/
namespace Go.IL
open Go

section
variable {P : Program} {G : Ghost} {H : Heap} {nx : Nat} {w : World} {id : Nat} {K : V → Heap → Prop}

/-- What a slice's elements are, in memory. -/
theorem rd_spec (hs : Sim G H nx w) {x : V} {xs : List V} {y : Value} (h : rd H x = some xs) (hx : Rep G x y) :
    ∃ a c, y = .slice a xs.length c ∧ xs.length ≤ c ∧ (xs ≠ [] → ∃ b o es, a = some ⟨b, o, none⟩ ∧ (∀ (i : Nat) x, xs[i]? = some x → x.cells.length = es) ∧
      ∀ (i j : Nat) x v, xs[i]? = some x → x.cells[j]? = some v → ∃ z, w.cell? ⟨b, o + i * es + j, none⟩ = some z ∧ z.oneCell' = true ∧ Rep G v z) := by
  have arr : ∀ id es off len b, (match H id with | .mem es' xs => if es' = es ∧ off + len ≤ xs.length then some ((xs.drop off).take len) else none | _ => none) = some xs → G.loc id = some b →
      xs.length = len ∧ (∀ (i : Nat) x, xs[i]? = some x → x.cells.length = es) ∧
      ∀ (i j : Nat) x v, xs[i]? = some x → x.cells[j]? = some v → ∃ z, w.cell? ⟨b, off * es + i * es + j, none⟩ = some z ∧ z.oneCell' = true ∧ Rep G v z := by
    intro id es off len b h hl
    split at h
    · rename_i es' ys hh
      split at h
      · rename_i hc
        obtain ⟨rfl, hle⟩ := hc
        cases h
        obtain ⟨b', e1, e2, e3⟩ := hs.obj id (by simp [hh])
        rw [hl] at e1; cases e1
        rw [hh] at e3
        obtain ⟨arr, T, h1, -, h2, h3, h3', h4, h5⟩ := e3
        have get : ∀ (i : Nat) x, ((ys.drop off).take len)[i]? = some x → i < len ∧ ys[off + i]? = some x := by
          intro i x hx
          rw [List.getElem?_take] at hx
          split at hx
          · rw [List.getElem?_drop] at hx; exact ⟨by assumption, hx⟩
          · cases hx
        refine ⟨by simp; omega, fun i x hx => h4 _ x (get i x hx).2, ?_⟩
        intro i j x v hx hv
        obtain ⟨hi, hx'⟩ := get i x hx
        have hj : j < es' := by rw [← h4 _ x hx']; exact (List.getElem?_eq_some_iff.1 hv).1
        have hlt : (off + i) * es' + j < arr.size := by
          have : (off + i + 1) * es' ≤ ys.length * es' := Nat.mul_le_mul_right _ (List.getElem?_eq_some_iff.1 hx').1
          rw [Nat.add_mul _ 1, Nat.one_mul] at this
          omega
        have hg : arr[(off + i) * es' + j]? = some arr[(off + i) * es' + j] := Array.getElem?_eq_getElem hlt
        refine ⟨_, ?_, h3' _ _ hg, h5 _ j x v _ hx' hv hg⟩
        rw [← Nat.add_mul]
        simp only [World.cell?, h1]
        exact hg
      · cases h
    · cases h
  cases hx with
  | nil => simp [rd] at h; subst h; exact ⟨_, _, rfl, Nat.le_refl _, fun h => (h rfl).elim⟩
  | sl0 => simp [rd] at h; subst h; exact ⟨_, _, rfl, Nat.zero_le _, fun h => (h rfl).elim⟩
  | @sl es xs' b o c hc ys hl hi hr =>
    simp [rd] at h; subst h
    refine ⟨_, _, rfl, hc, fun _ => ⟨b, o, es, rfl, hl, ?_⟩⟩
    intro i j x v hx hv
    have := hs.imm _ _ _ (hi i j (List.getElem?_eq_some_iff.1 hx).1 (by rw [← hl i x hx]; exact (List.getElem?_eq_some_iff.1 hv).1))
    exact ⟨_, this.1, this.2, hr i j x v hx hv⟩
  | ar hl hc hn =>
    rename_i id es off len b cap
    obtain ⟨h1, h2, h3⟩ := arr id es off len b h hl
    rw [← h1] at hn ⊢
    exact ⟨_, _, rfl, hn, fun _ => ⟨b, _, es, rfl, h2, h3⟩⟩
  | ar0 hl =>
    rename_i id es off b o
    obtain ⟨h1, -⟩ := arr id es off 0 b h hl
    refine ⟨_, _, by rw [h1], by omega, fun hne => (hne (List.eq_nil_of_length_eq_zero h1)).elim⟩
  | cl hl =>
    rename_i id es off len b
    obtain ⟨h1, h2, h3⟩ := arr id es off len b h hl
    refine ⟨_, len, by rw [h1], by omega, fun _ => ⟨b, _, es, rfl, h2, h3⟩⟩
  | cl0 hl =>
    rename_i id es off b o
    obtain ⟨h1, -⟩ := arr id es off 0 b h hl
    refine ⟨_, _, by rw [h1], by omega, fun hne => (hne (List.eq_nil_of_length_eq_zero h1)).elim⟩
  | _ => simp [rd] at h

/-- The cells of elements of es cells each, as one list. -/
theorem flat_cells {xs : List V} {es : Nat} (hl : ∀ (i : Nat) x, xs[i]? = some x → x.cells.length = es) {p : Nat → Value → Prop} {q : V → Value → Prop}
    (hv : ∀ (i j : Nat) x v, xs[i]? = some x → x.cells[j]? = some v → ∃ z, p (i * es + j) z ∧ q v z) :
    ∃ zs : List Value, zs.length = xs.length * es ∧ (∀ (m : Nat) z, zs[m]? = some z → p m z) ∧
      ∀ (i j : Nat) x v z, xs[i]? = some x → x.cells[j]? = some v → zs[i * es + j]? = some z → q v z := by
  have hex : ∀ m, m < xs.length * es → ∃ z, p m z ∧ ∀ x v, xs[m / es]? = some x → x.cells[m % es]? = some v → q v z := by
    intro m hm
    have hes : 0 < es := by
      rcases Nat.eq_zero_or_pos es with h | h
      · subst h; simp at hm
      · exact h
    have hi : m / es < xs.length := Nat.div_lt_of_lt_mul (by rw [Nat.mul_comm]; exact hm)
    have hj : m % es < xs[m / es].cells.length := by rw [hl _ _ (List.getElem?_eq_getElem hi)]; exact Nat.mod_lt _ hes
    obtain ⟨z, hz, hr⟩ := hv _ _ _ _ (List.getElem?_eq_getElem hi) (List.getElem?_eq_getElem hj)
    have hm' : m / es * es + m % es = m := by rw [Nat.mul_comm]; exact Nat.div_add_mod m es
    rw [hm'] at hz
    refine ⟨z, hz, fun x v hx hv => ?_⟩
    rw [List.getElem?_eq_getElem hi] at hx; cases hx
    rw [List.getElem?_eq_getElem hj] at hv; cases hv
    exact hr
  let f : Nat → Value := fun m => if h : m < xs.length * es then (hex m h).choose else undef
  have hf : ∀ m, m < xs.length * es → p m (f m) ∧ ∀ x v, xs[m / es]? = some x → x.cells[m % es]? = some v → q v (f m) := by
    intro m h
    simp only [f, h, dif_pos]
    exact (hex m h).choose_spec
  refine ⟨(List.range (xs.length * es)).map f, by simp, ?_, ?_⟩
  · intro m z hz
    simp only [List.getElem?_map, Option.map_eq_some_iff] at hz
    obtain ⟨a, ha, rfl⟩ := hz
    obtain ⟨h1, rfl⟩ := range_get ha
    exact (hf _ h1).1
  · intro i j x v z hx hv hz
    simp only [List.getElem?_map, Option.map_eq_some_iff] at hz
    obtain ⟨a, ha, rfl⟩ := hz
    obtain ⟨h1, rfl⟩ := range_get ha
    have hj : j < es := by rw [← hl i x hx]; exact (List.getElem?_eq_some_iff.1 hv).1
    have d1 : (i * es + j) / es = i := by rw [Nat.mul_comm, Nat.mul_add_div (by omega), Nat.div_eq_of_lt hj]; rfl
    have d2 : (i * es + j) % es = j := by rw [Nat.mul_comm, Nat.mul_add_mod, Nat.mod_eq_of_lt hj]
    exact (hf _ h1).2 x v (by rw [d1]; exact hx) (by rw [d2]; exact hv)

theorem zip_all_one {ks : List Value} (h : ∀ (m : Nat) z, ks[m]? = some z → z.oneCell' = true) : ∀ u ∈ ks, u.oneCell' = true := by
  intro u hu
  obtain ⟨q, hq⟩ := List.mem_iff_getElem?.1 hu
  exact h q u hq

/-- There is room: the block goes on under another number. (Its type may be another one than the slice's.) -/
theorem run_append_in (t ty e : TypeId) (i : TypeInfo) (ht : P.underlying t = some (.slice e)) (s : TypeId) (hs : (∃ e', P.underlying s = some (.slice e')) ∨ P.underlying s = some .string) (hi : P.info? e = some i)
    (g sLen sCap : Nat) (cur : Array Value) (T : TypeId) (hg : w.heap[g]? = some (.cells cur T (0, 0)))
    (y : Value) (m : Nat) (news : List Value) (hl : (Builtin.lenOf y).run P w = .ok m w) (hf : (Builtin.firstCells i.size m y).run P w = .ok news.toArray w) (h1 : ∀ u ∈ news, u.oneCell' = true)
    (hroom : sLen + m ≤ sCap) (hfit : sLen * i.size + news.length ≤ cur.size) :
    (Builtin.append_ #[t, s] ty #[.slice (some ⟨g, 0, none⟩) sLen sCap, y]).run P w =
      .ok (.slice (some ⟨g, 0, none⟩) (sLen + m) sCap) (w.setRow g (cur.toList.take (sLen * i.size) ++ news ++ cur.toList.drop (sLen * i.size + news.length)).toArray) := by
  have hst := run_storeCells_at P g (sLen * i.size) T news 0 cur w hg (by simpa using hfit) h1
  simp only [Nat.add_zero] at hst
  rcases hs with ⟨e', hu⟩ | hu <;> simp [Builtin.append_, run_underlying ht, run_underlying hu, sizeOf, typeInfo, hi, hl, hroom, hf, Addr.add_lit, hst]

/-- There is none: a new block. -/
theorem run_append_new (t ty e : TypeId) (i : TypeInfo) (z : Value) (ht : P.underlying t = some (.slice e)) (s : TypeId) (hs : (∃ e', P.underlying s = some (.slice e')) ∨ P.underlying s = some .string) (hi : P.info? e = some i) (hz : i.zero = some z)
    (a : Option Addr) (sLen sCap : Nat) (y : Value) (m : Nat) (olds news : List Value) (hl : (Builtin.lenOf y).run P w = .ok m w)
    (hfo : (Builtin.firstCells i.size sLen (.slice a sLen sCap)).run P w.drew = .ok olds.toArray w.drew) (hf : (Builtin.firstCells i.size m y).run P w.drew = .ok news.toArray w.drew)
    (hg : sCap < sLen + m) (h63 : ((sLen + m : Nat) : Int) ≤ 9223372036854775807) (hfit : Builtin.nextslicecap (sLen + m) sCap * i.bytes ≤ 281474976710656) :
    (Builtin.append_ #[t, s] ty #[.slice a sLen sCap, y]).run P w =
      .ok (.slice (some ⟨w.heap.size, 0, none⟩) (sLen + m) (grownCap w (sLen + m) sCap e))
        (w.drew.alloc (.cells (olds.toArray ++ news.toArray ++ Builtin.zeroCells z.cells (grownCap w (sLen + m) sCap e - (sLen + m))) e)) := by
  have hn : ¬ (sLen + m ≤ sCap) := by omega
  have h63' : ¬ (9223372036854775807 < ((sLen : Int) + (m : Int))) := by omega
  have h48' : ¬ (281474976710656 < Builtin.nextslicecap (sLen + m) sCap * i.bytes) := by omega
  rcases hs with ⟨e', hu⟩ | hu
  all_goals
    simp [Builtin.append_, run_underlying ht, run_underlying hu, sizeOf, typeInfo, zeroValue, hi, hz, hl, hn, h63', h48', Question.forced, hf, hfo, newRow, grownCap]
    try (congr 2; apply Array.ext'; simp [List.append_assoc])

theorem u8sOf_spec : ∀ {xs : List V} {l : List UInt8}, u8sOf xs = some l → ∃ ns : List Int, xs = ns.map (fun n => .val (.int .u8 n)) ∧ l = ns.map fun n => UInt8.ofNat n.toNat
  | [], l, h => by simp [u8sOf] at h; subst h; exact ⟨[], rfl, rfl⟩
  | v :: vs, l, h => by
    unfold u8sOf at h
    split at h
    · rename_i e; cases e
    · rename_i n vs' e
      cases e
      split at h
      · simp only [Option.map_eq_some_iff] at h
        obtain ⟨l', h1, rfl⟩ := h
        obtain ⟨ns, e1, e2⟩ := u8sOf_spec h1
        exact ⟨n :: ns, by rw [e1]; rfl, by rw [e2]; rfl⟩
      · cases h
    · cases h
theorem push_bytes : ∀ (ns : List Int) (s : ByteArray), ns.foldl (fun r n => r.push (UInt8.ofNat n.toNat)) s = ⟨(s.data.toList ++ ns.map fun n => UInt8.ofNat n.toNat).toArray⟩
  | [], s => by simp
  | n :: ns, s => by
    rw [List.foldl_cons, push_bytes ns]
    simp [ByteArray.push]
theorem snd_convX (hs : Sim G H nx w) {s d : TypeId} {a v : V} {u : Value} (h : convX P H s d a = some v) (ha : Rep G a u) (hk : K v H) : Done P (convert s d u) G H nx w id K := by
  unfold convX at h
  cases he : elI P s with
  | none => rw [he] at h; exact snd_conv hs h ha hk
  | some e =>
    rw [he] at h
    simp only at h
    split at h
    · rename_i hc
      rw [Bool.and_eq_true] at hc
      have hu : P.underlying s = some (.slice e) := by
        unfold elI at he
        split at he
        · cases he; assumption
        · cases he
      have hu8 : P.underlying e = some (.int .u8) := by
        have := hc.1; unfold isU8 at this; split at this
        · assumption
        · cases this
      have hst : P.underlying d = some .string := by
        have := hc.2; unfold isStr at this; split at this
        · assumption
        · cases this
      simp only [Option.bind_eq_some_iff] at h
      obtain ⟨xs, h1, h⟩ := h
      have hemp : xs.isEmpty = false := by
        cases hx : xs.isEmpty with
        | false => rfl
        | true => rw [hx] at h; simp at h
      rw [hemp] at h
      simp only [Bool.false_eq_true, if_false, Option.map_eq_some_iff] at h
      obtain ⟨l, h2, rfl⟩ := h
      obtain ⟨ns, rfl, rfl⟩ := u8sOf_spec h2
      obtain ⟨p, c, rfl, hc', hne⟩ := rd_spec hs h1 ha
      cases ns with
      | nil => simp at hemp
      | cons n ns =>
        obtain ⟨b, o, es, rfl, hl, hr⟩ := hne (by simp)
        have hes : es = 1 := by rw [← hl 0 (.val (.int .u8 n)) rfl]; rfl
        subst hes
        refine Done.pure hs (y := .string ⟨((n :: ns).map fun n => UInt8.ofNat n.toNat).toArray⟩) ?_ .str hk
        rw [run_convert_bytes_string w s d e _ _ c hu hu8 hst, List.length_map, run_bytesToString w _ _ c (n :: ns) ?_, push_bytes]
        · rfl
        · have := run_loadCells_list (P := P) (w := w) ⟨b, o, none⟩ ((n :: ns).map (Value.int .u8)) (by
            intro j y hy
            simp only [List.getElem?_map, Option.map_eq_some_iff] at hy
            obtain ⟨m, hm, rfl⟩ := hy
            obtain ⟨z, e1, -, e3⟩ := hr j 0 (.val (.int .u8 m)) (.val (.int .u8 m)) (by rw [List.getElem?_map, hm]; rfl) rfl
            rw [rep_val e3] at e1
            rw [addr_add]
            simpa using e1)
          simpa using this
    · cases h
end
end Go.IL

/- The ideal meaning of operations is sound, part 6: append. -/
namespace Go.IL
open Go

section
variable {P : Program} {G : Ghost} {H : Heap} {nx : Nat} {w : World} {id : Nat} {K : V → Heap → Prop}

/-- News: cells that an append takes in, and what they are. -/
def News (P : Program) (G : Ghost) (w : World) (n : Nat) (y : Value) (ys : List V) (news : List Value) : Prop :=
  (Builtin.lenOf y).run P w = .ok ys.length w ∧ (Builtin.firstCells n ys.length y).run P w = .ok news.toArray w ∧ news.length = ys.length * n ∧
  (∀ (m : Nat) z, news[m]? = some z → z.oneCell' = true) ∧ ∀ (i j : Nat) x v z, ys[i]? = some x → x.cells[j]? = some v → news[i * n + j]? = some z → Rep G v z

theorem src_spec (hs : Sim G H nx w) {x : V} {ys : List V} {y : Value} {n : Nat} (h : srcI H x = some ys) (hx : Rep G x y) (hf : fits n ys = true) (hn : ys ≠ []) : ∃ news, News P G w n y ys news := by
  have other : rd H x = some ys → ∃ news, News P G w n y ys news := by
    intro h
    obtain ⟨a, c, rfl, hc, hne⟩ := rd_spec hs h hx
    obtain ⟨b, o, es, rfl, hl, hr⟩ := hne hn
    have hes : es = n := by
      cases ys with
      | nil => exact (hn rfl).elim
      | cons x xs => rw [← hl 0 x (by simp), fits_spec hf 0 x (by simp)]
    subst hes
    obtain ⟨zs, h1, h2, h3⟩ := flat_cells (xs := ys) (es := es) hl (p := fun m z => w.cell? ⟨b, o + m, none⟩ = some z ∧ z.oneCell' = true) (q := fun v z => Rep G v z) (by
      intro i j x v hx hv
      obtain ⟨z, e1, e2, e3⟩ := hr i j x v hx hv
      exact ⟨z, ⟨by rw [← Nat.add_assoc]; exact e1, e2⟩, e3⟩)
    refine ⟨zs, by simp [Builtin.lenOf], ?_, h1, fun m z hz => (h2 m z hz).2, h3⟩
    exact run_firstCells_some (P := P) w es ys.length ⟨b, o, none⟩ ys.length c zs h1 (fun j u hu => by rw [addr_add]; exact (h2 j u hu).1)
  cases x with
  | str l =>
    simp [srcI] at h
    subst h
    rw [rep_str hx]
    have hsz : (⟨l.toArray⟩ : ByteArray).size = l.length := by simp [ByteArray.size]
    have hn1 : n = 1 := by
      cases l with
      | nil => exact (hn rfl).elim
      | cons b l => exact (fits_spec hf 0 (byteV b) (by simp)).symm
    subst hn1
    refine ⟨l.map fun b => .int .u8 b.toNat, by simp [Builtin.lenOf, hsz], ?_, by simp, ?_, ?_⟩
    · simp [Builtin.firstCells, ByteArray.data_extract, List.extract_eq_take_drop]
    · intro m z hz
      simp at hz
      obtain ⟨b, _, rfl⟩ := hz
      rfl
    · intro i j x v z hx hv hz
      simp at hx
      obtain ⟨b, hb, rfl⟩ := hx
      cases j with
      | zero =>
        simp [byteV, V.cells] at hv
        subst hv
        simp at hz
        obtain ⟨b', hb', rfl⟩ := hz
        rw [hb] at hb'; cases hb'
        exact .val
      | succ j => simp [byteV, V.cells] at hv
  | _ => exact other h

/-- Elements behind elements, in cells. -/
theorem cat_cells {G : Ghost} {n : Nat} {xs ys : List V} {arr : Array Value} {news rest : List Value} (ho : ∀ (i j : Nat) x v z, xs[i]? = some x → x.cells[j]? = some v → arr[i * n + j]? = some z → Rep G v z)
    (hl : ∀ (i : Nat) x, xs[i]? = some x → x.cells.length = n) (hl' : ∀ (i : Nat) x, ys[i]? = some x → x.cells.length = n)
    (hn : ∀ (i j : Nat) x v z, ys[i]? = some x → x.cells[j]? = some v → news[i * n + j]? = some z → Rep G v z) (hnl : news.length = ys.length * n) (ha : xs.length * n ≤ arr.size) :
    ∀ (i j : Nat) x v z, (xs ++ ys)[i]? = some x → x.cells[j]? = some v → (arr.toList.take (xs.length * n) ++ news ++ rest)[i * n + j]? = some z → Rep G v z := by
  intro i j x v z hx hv hz
  have hlen : (arr.toList.take (xs.length * n)).length = xs.length * n := by simp; omega
  by_cases hi : i < xs.length
  · rw [List.getElem?_append_left hi] at hx
    have hj : j < n := by rw [← hl i x hx]; exact (List.getElem?_eq_some_iff.1 hv).1
    have hlt : i * n + j < xs.length * n := by
      have : (i + 1) * n ≤ xs.length * n := Nat.mul_le_mul_right _ hi
      rw [Nat.add_mul, Nat.one_mul] at this
      omega
    rw [List.append_assoc, List.getElem?_append_left (by omega), List.getElem?_take, if_pos hlt, Array.getElem?_toList] at hz
    exact ho i j x v z hx hv hz
  · rw [List.getElem?_append_right (by omega)] at hx
    have hj : j < n := by rw [← hl' _ x hx]; exact (List.getElem?_eq_some_iff.1 hv).1
    have hi' := (List.getElem?_eq_some_iff.1 hx).1
    have e1 : i * n + j - xs.length * n = (i - xs.length) * n + j := by
      rw [Nat.sub_mul]
      have : xs.length * n ≤ i * n := Nat.mul_le_mul_right _ (by omega)
      omega
    have hge : xs.length * n ≤ i * n := Nat.mul_le_mul_right _ (by omega)
    have hlt : (i - xs.length) * n + j < news.length := by
      rw [hnl]
      have : (i - xs.length + 1) * n ≤ ys.length * n := Nat.mul_le_mul_right _ hi'
      rw [Nat.add_mul, Nat.one_mul] at this
      omega
    rw [List.append_assoc, List.getElem?_append_right (by omega), hlen, e1, List.getElem?_append_left hlt] at hz
    exact hn _ j x v z hx hv hz

theorem kill_forget (H : Heap) (x : V) : ∀ i, kill H x i = .dead ∨ kill H x i = H i := by
  intro i
  unfold kill
  split
  · rename_i oid es off len
    by_cases h : i = oid
    · subst h; simp
    · rw [Heap.set_ne _ _ h]; exact .inr rfl
  · exact .inr rfl

theorem zok_spec {e : TypeId} (h : zok P e = true) : ∃ z i, P.info? e = some i ∧ i.zero = some z ∧ z.cells.size = szI P e ∧ i.size = szI P e ∧ i.bytes = byI P e ∧ 0 < szI P e ∧ ∀ (j : Nat) y, z.cells[j]? = some y → y.oneCell' = true := by
  unfold zok at h
  cases hz : zeroI P e with
  | none => simp [hz] at h
  | some z =>
    simp only [hz, Bool.and_eq_true, beq_iff_eq, decide_eq_true_eq] at h
    obtain ⟨⟨h1, h2⟩, h3⟩ := h
    unfold zeroI at hz
    cases hi : P.info? e with
    | none => simp [hi] at hz
    | some i =>
      simp [hi] at hz
      refine ⟨z, i, rfl, hz, h1, by simp [szI, hi], by simp [byI, hi], h3, ?_⟩
      intro j y hy
      exact Array.all_eq_true_iff_forall_mem.1 h2 y (Array.mem_of_getElem? hy)

theorem zeroCells_one {z : Array Value} {n : Nat} (h : ∀ (j : Nat) y, z[j]? = some y → y.oneCell' = true) (h0 : 0 < z.size) : ∀ (m : Nat) y, (Builtin.zeroCells z n)[m]? = some y → y.oneCell' = true := by
  intro m y hy
  simp only [Builtin.zeroCells, Array.getElem?_map, Option.map_eq_some_iff] at hy
  obtain ⟨a, -, rfl⟩ := hy
  have hlt : a % z.size < z.size := Nat.mod_lt _ h0
  rw [getElem!_pos z (a % z.size) hlt]
  exact h _ _ (Array.getElem?_eq_getElem hlt)

/-- A new block of old elements and new ones. -/
theorem snd_append_new (hs : Sim G H nx w) (hid : G.loc id = none) (hlt : id < nx) {t s e : TypeId} (htg : tagged id e) {ty : TypeId} {y : Value} {xs ys : List V} {a : Option Addr} {cap : Nat} {H₁ : Heap}
    (hf : ∀ i, H₁ i = .dead ∨ H₁ i = H i) (ht : P.underlying t = some (.slice e)) (hsd : (∃ e', P.underlying s = some (.slice e')) ∨ P.underlying s = some .string) (hz : zok P e = true)
    (hold : ∃ olds : List Value, (Builtin.firstCells (szI P e) xs.length (.slice a xs.length cap)).run P w.drew = .ok olds.toArray w.drew ∧ olds.length = xs.length * szI P e ∧ (∀ (m : Nat) z, olds[m]? = some z → z.oneCell' = true) ∧
      ∀ (i j : Nat) x v z, xs[i]? = some x → x.cells[j]? = some v → olds[i * szI P e + j]? = some z → Rep G v z) (hxl : ∀ (i : Nat) x, xs[i]? = some x → x.cells.length = szI P e)
    (hy : ∀ w' : World, w'.heap = w.heap → ∃ news, News P G w' (szI P e) y ys news) (hfy : fits (szI P e) ys = true) (hroom : cap < xs.length + ys.length)
    (hb : (xs.length + ys.length) * (byI P e + 1) ≤ 1099511627776) (hk : K (.ar id (szI P e) 0 (xs.length + ys.length)) (H₁.set id (.mem (szI P e) (xs ++ ys)))) :
    Done P (Builtin.append_ #[t, s] ty #[.slice a xs.length cap, y]) G H nx w id K := by
  obtain ⟨z, inf, hi, hzero, hz1, hz2, hz3, hz4, hz5⟩ := zok_spec hz
  obtain ⟨olds, o1, o2, o3, o4⟩ := hold
  obtain ⟨news0, n0, -⟩ := hy w rfl
  obtain ⟨news, n1, n2, n3, n4, n5⟩ := hy w.drew rfl
  have hcells := fits_spec hfy
  have hle : xs.length + ys.length ≤ 1099511627776 := Nat.le_trans (Nat.le_mul_of_pos_right _ (by omega)) hb
  have hbb : (xs.length + ys.length) * inf.bytes ≤ 140737488355328 := by
    rw [hz3]
    have : (xs.length + ys.length) * byI P e ≤ (xs.length + ys.length) * (byI P e + 1) := Nat.mul_le_mul_left _ (by omega)
    omega
  have hrun := run_append_new (P := P) (w := w) t ty e inf z ht s hsd hi hzero a xs.length cap y ys.length olds news n0 (by rw [hz2]; exact o1) (by rw [hz2]; exact n2) hroom (by omega) (growslice_fits hroom hbb)
  generalize hcp : grownCap w (xs.length + ys.length) cap e = cp at hrun
  have hge : xs.length + ys.length ≤ cp := by rw [← hcp]; exact grownCap_ge w _ cap e
  have hsz : (olds.toArray ++ news.toArray ++ Builtin.zeroCells z.cells (cp - (xs.length + ys.length))).size = cp * szI P e := by
    simp only [Array.size_append, List.size_toArray, size_zeroCells, o2, n3, hz1, ← Nat.add_mul]
    congr 1; omega
  have hlist : (olds.toArray ++ news.toArray ++ Builtin.zeroCells z.cells (cp - (xs.length + ys.length))).toList =
      (olds.toArray.toList.take (xs.length * szI P e) ++ news ++ (Builtin.zeroCells z.cells (cp - (xs.length + ys.length))).toList) := by
    simp only [Array.toList_append]
    rw [← o2, List.take_length]
  have hs' := (hs.drawn (w.drawn + 1)).forget hf
  obtain ⟨s1, s2⟩ := sim_new (w := w.drew) hs' hid hlt _ e (szI P e) (xs ++ ys) htg (by rw [hsz, List.length_append]; exact Nat.mul_le_mul_right _ hge)
    (by
      intro j q hq
      rw [← Array.getElem?_toList] at hq
      simp only [Array.toList_append] at hq
      rcases List.mem_append.1 (List.mem_of_getElem? hq) with hm | hm
      · rcases List.mem_append.1 hm with hm | hm
        · obtain ⟨m, hm⟩ := List.mem_iff_getElem?.1 hm; exact o3 m q hm
        · obtain ⟨m, hm⟩ := List.mem_iff_getElem?.1 hm; exact n4 m q hm
      · obtain ⟨m, hm⟩ := List.mem_iff_getElem?.1 hm
        exact zeroCells_one hz5 (by omega) m q (by rw [← Array.getElem?_toList]; exact hm))
    (by
      intro k x hx
      by_cases hkx : k < xs.length
      · rw [List.getElem?_append_left hkx] at hx; exact hxl k x hx
      · rw [List.getElem?_append_right (by omega)] at hx; exact hcells _ x hx)
    (by
      intro k j x v q hx hv hq
      rw [← Array.getElem?_toList, hlist] at hq
      exact cat_cells (arr := olds.toArray) (by simpa using o4) hxl hcells n5 n3 (by simp [o2]) k j x v q hx hv hq)
  refine ⟨_, _, _, _, _, hrun, (Ext.drew G H w _ (Nat.le_succ _)).trans (s2.forgot hf), s1, ?_, hk, ?_⟩
  · have := Rep.ar (G := G.put id w.drew.heap.size (olds.toArray ++ news.toArray ++ Builtin.zeroCells z.cells (cp - (xs.length + ys.length))).size) (id := id) (es := szI P e) (off := 0) (len := xs.length + ys.length) (b := w.heap.size) (cap := cp)
      (by simp [Ghost.put]) (by simp only [Ghost.put, if_true, Nat.zero_add]; exact hsz.symm) hge
    simpa using this
  · intro i hi e
    simp [Ghost.put, hi, e]
end
end Go.IL

/- The ideal meaning of operations is sound, part 7: append whole; literals. -/
namespace Go.IL
open Go

section
variable {P : Program} {G : Ghost} {H : Heap} {nx : Nat} {w : World} {id : Nat} {K : V → Heap → Prop}

theorem rep_ar {id es off len : Nat} {y : Value} (h : Rep G (.ar id es off len) y) :
    ∃ b o cap, y = .slice (some ⟨b, o, none⟩) len cap ∧ G.loc id = some b ∧ len ≤ cap ∧ ((off + cap) * es = G.sz id ∧ o = off * es ∨ len = 0 ∧ cap = 0) := by
  cases h with
  | ar hl hc hn => exact ⟨_, _, _, rfl, hl, hn, .inl ⟨hc, rfl⟩⟩
  | ar0 hl => exact ⟨_, _, _, rfl, hl, Nat.le_refl _, .inr ⟨rfl, rfl⟩⟩

theorem rep_cl {id es off len : Nat} {y : Value} (h : Rep G (.cl id es off len) y) : ∃ a, y = .slice a len len := by
  cases h with
  | cl hl => exact ⟨_, rfl⟩
  | cl0 hl => exact ⟨_, rfl⟩

theorem own_spec (hs : Sim G H nx w) {n : Nat} {x : V} {xs : List V} {y : Value} (h : own H n x = some xs) (hx : Rep G x y) :
    (x = .nil ∧ xs = [] ∧ y = .slice none 0 0) ∨
    ∃ oid b o cap arr T, x = .ar oid n 0 xs.length ∧ y = .slice (some ⟨b, o, none⟩) xs.length cap ∧ H oid = .mem n xs ∧ G.loc oid = some b ∧ xs.length ≤ cap ∧
      (o = 0 ∧ cap * n = G.sz oid ∨ xs = [] ∧ cap = 0) ∧ w.heap[b]? = some (.cells arr T (0, 0)) ∧ arr.size = G.sz oid ∧ xs.length * n ≤ arr.size ∧
      (∀ (j : Nat) y, arr[j]? = some y → y.oneCell' = true) ∧ (∀ (k : Nat) x, xs[k]? = some x → x.cells.length = n) ∧
      (∀ (k j : Nat) x v y, xs[k]? = some x → x.cells[j]? = some v → arr[k * n + j]? = some y → Rep G v y) ∧ tagged oid T := by
  cases x with
  | nil => simp [own] at h; subst h; cases hx; exact .inl ⟨rfl, rfl, rfl⟩
  | ar oid es off len =>
    simp only [own] at h
    split at h
    · rename_i es' ys hh
      split at h
      · rename_i hc
        obtain ⟨rfl, rfl, rfl, rfl⟩ := hc
        cases h
        right
        obtain ⟨b, e1, e2, e3⟩ := hs.obj oid (by simp [hh])
        rw [hh] at e3
        obtain ⟨arr, T, h1, ht, h2, h3, h3', h4, h5⟩ := e3
        obtain ⟨b', o, cap, rfl, hl, hn, hor⟩ := rep_ar hx
        rw [e1] at hl; cases hl
        refine ⟨oid, b, o, cap, arr, T, rfl, rfl, hh, e1, hn, ?_, h1, h2, h3, h3', h4, h5, ht⟩
        rcases hor with ⟨q1, q2⟩ | ⟨q1, q2⟩
        · exact .inl ⟨by simpa using q2, by simpa using q1⟩
        · exact .inr ⟨List.eq_nil_of_length_eq_zero q1, q2⟩
      · cases h
    · cases h
  | _ => simp [own] at h

theorem src_heap {x : V} {ys : List V} {y : Value} {n nx' : Nat} (h : srcI H x = some ys) (hx : Rep G x y) (hf : fits n ys = true) (hn : ys ≠ []) (hs : Sim G H nx' w) :
    ∀ w' : World, w'.heap = w.heap → ∃ news, News P G w' n y ys news := by
  intro w' he
  have : Sim G H nx' w' := ⟨fun b o v e => by have := hs.imm b o v e; rw [cell_of_block (w := w) (w' := w') (by rw [he])]; exact this, fun i b e => by rw [he]; exact hs.lt i b e, fun i hi => by
      obtain ⟨b, e1, e2, e3⟩ := hs.obj i hi
      exact ⟨b, e1, e2, e3.mono G.le_refl rfl (by rw [he]) (fun _ _ _ _ _ => by rw [he])⟩, hs.inj, hs.itr⟩
  exact src_spec this h hx hf hn

theorem src_empty {x : V} {y : Value} (h : srcI H x = some []) (hx : Rep G x y) (hs : Sim G H nx w) (n : Nat) :
    (Builtin.lenOf y).run P w = .ok 0 w ∧ (Builtin.firstCells n 0 y).run P w = .ok #[] w := by
  have other : rd H x = some [] → (Builtin.lenOf y).run P w = .ok 0 w ∧ (Builtin.firstCells n 0 y).run P w = .ok #[] w := by
    intro h
    obtain ⟨a, c, rfl, -, -⟩ := rd_spec hs h hx
    refine ⟨by simp [Builtin.lenOf], ?_⟩
    cases a <;> simp [Builtin.firstCells, loadCells, loadCellsFrom]
  cases x with
  | str l =>
    simp [srcI] at h
    subst h
    rw [rep_str hx]
    have hsz : (⟨([] : List UInt8).toArray⟩ : ByteArray).size = 0 := by simp [ByteArray.size]
    exact ⟨by simp [Builtin.lenOf, hsz], by simp [Builtin.firstCells]⟩
  | _ => exact other h

theorem snd_append_in (hs : Sim G H nx w) (hid : G.loc id = none) (hlt : id < nx) {t s e : TypeId} {ty : TypeId} {z : Value} {xs ys : List V} {oid b cap : Nat} {arr : Array Value} {T : TypeId} (htg : tagged id T)
    (hu : P.underlying t = some (.slice e)) (hsd' : (∃ e', P.underlying s = some (.slice e')) ∨ P.underlying s = some .string) (hz : zok P e = true)
    (hH : H oid = .mem (szI P e) xs) (hl : G.loc oid = some b) (hcs : cap * szI P e = G.sz oid) (h1 : w.heap[b]? = some (.cells arr T (0, 0))) (h2 : arr.size = G.sz oid) (h3 : xs.length * szI P e ≤ arr.size)
    (h3' : ∀ (j : Nat) y, arr[j]? = some y → y.oneCell' = true) (h4 : ∀ (k : Nat) x, xs[k]? = some x → x.cells.length = szI P e)
    (h5 : ∀ (k j : Nat) x v y, xs[k]? = some x → x.cells[j]? = some v → arr[k * szI P e + j]? = some y → Rep G v y)
    {news : List Value} (hnews : News P G w (szI P e) z ys news) (hfy : fits (szI P e) ys = true) (hroom : xs.length + ys.length ≤ cap)
    (hk : K (.ar id (szI P e) 0 (xs.length + ys.length)) ((H.set oid .dead).set id (.mem (szI P e) (xs ++ ys)))) :
    Done P (Builtin.append_ #[t, s] ty #[.slice (some ⟨b, 0, none⟩) xs.length cap, z]) G H nx w id K := by
  obtain ⟨zz, inf, hi, hzero, hz1, hz2, hz3, hz4, hz5⟩ := zok_spec hz
  obtain ⟨n1, n2, n3, n4, n5⟩ := hnews
  generalize hn : szI P e = n at *
  have hfit : xs.length * n + news.length ≤ arr.size := by
    rw [n3, h2, ← hcs, ← Nat.add_mul]; exact Nat.mul_le_mul_right _ hroom
  have hrun := run_append_in (P := P) (w := w) t ty e inf hu s hsd' hi b xs.length cap arr T h1 z ys.length news n1 (by rw [hz2]; exact n2) (zip_all_one n4) hroom (by rw [hz2]; exact hfit)
  rw [hz2] at hrun
  have hcells := fits_spec hfy
  have hlen : (arr.toList.take (xs.length * n) ++ news ++ arr.toList.drop (xs.length * n + news.length)).length = arr.size := by
    simp only [List.length_append, List.length_take, List.length_drop, Array.length_toList]; omega
  have hob : ObjAt (G.put id b (G.sz oid)) (w.setRow b (arr.toList.take (xs.length * n) ++ news ++ arr.toList.drop (xs.length * n + news.length)).toArray) id b (.mem n (xs ++ ys)) := by
    refine ⟨_, T, setRow_heap w b arr _ T (0, 0) h1, htg, ?_, ?_, ?_, ?_, ?_⟩
    · simp only [List.size_toArray, hlen, h2, Ghost.put, if_true]
    · simp only [List.size_toArray, hlen, List.length_append]
      rw [h2, ← hcs]
      exact Nat.mul_le_mul_right _ hroom
    · intro j q hq
      simp only [List.getElem?_toArray] at hq
      rcases List.mem_append.1 (List.mem_of_getElem? hq) with hm | hm
      · rcases List.mem_append.1 hm with hm | hm
        · obtain ⟨m, hm⟩ := List.mem_iff_getElem?.1 (List.mem_of_mem_take hm)
          exact h3' m q (by rw [← Array.getElem?_toList]; exact hm)
        · obtain ⟨m, hm⟩ := List.mem_iff_getElem?.1 hm; exact n4 m q hm
      · obtain ⟨m, hm⟩ := List.mem_iff_getElem?.1 (List.mem_of_mem_drop hm)
        exact h3' m q (by rw [← Array.getElem?_toList]; exact hm)
    · intro k x hx
      by_cases hkx : k < xs.length
      · rw [List.getElem?_append_left hkx] at hx; exact h4 k x hx
      · rw [List.getElem?_append_right (by omega)] at hx; exact hcells _ x hx
    · intro k j x v q hx hv hq
      simp only [List.getElem?_toArray] at hq
      exact (cat_cells h5 h4 hcells n5 n3 h3 k j x v q hx hv hq).mono (Ghost.le_put hid)
  have hw := hs.rehome (id' := id) (ob := .mem n (xs ++ ys)) hH hl hid hlt _ (by intro m l e; cases e) hob
  refine ⟨_, _, _, _, _, hrun, hw.2, hw.1, ?_, hk, ?_⟩
  · have := Rep.ar (G := G.put id b (G.sz oid)) (id := id) (es := n) (off := 0) (len := xs.length + ys.length) (b := b) (cap := cap)
      (by simp [Ghost.put]) (by simp only [Ghost.put, if_true, Nat.zero_add]; exact hcs) hroom
    simpa using this
  · intro i hi e
    simp [Ghost.put, hi, e]

theorem take_cells {n b : Nat} {xs : List V} {arr : Array Value} {T : TypeId} (h1 : w.heap[b]? = some (.cells arr T (0, 0))) (h3 : xs.length * n ≤ arr.size)
    (h3' : ∀ (j : Nat) y, arr[j]? = some y → y.oneCell' = true) (h5 : ∀ (k j : Nat) x v y, xs[k]? = some x → x.cells[j]? = some v → arr[k * n + j]? = some y → Rep G v y) (c : Nat) :
    ∃ olds : List Value, (Builtin.firstCells n xs.length (.slice (some ⟨b, 0, none⟩) xs.length c)).run P w = .ok olds.toArray w ∧ olds.length = xs.length * n ∧ (∀ (m : Nat) z, olds[m]? = some z → z.oneCell' = true) ∧
      ∀ (i j : Nat) x v z, xs[i]? = some x → x.cells[j]? = some v → olds[i * n + j]? = some z → Rep G v z := by
  have hfull : ((arr.toList.take (xs.length * n))).length = xs.length * n := by simp; omega
  have get : ∀ (m : Nat) q, (arr.toList.take (xs.length * n))[m]? = some q → arr[m]? = some q := by
    intro m q hq
    rw [List.getElem?_take] at hq
    split at hq
    · simpa using hq
    · cases hq
  refine ⟨arr.toList.take (xs.length * n), ?_, hfull, fun m q hq => h3' m q (get m q hq), fun i j x v q hx hv hq => h5 i j x v q hx hv (get _ q hq)⟩
  exact run_firstCells_some (P := P) w n xs.length ⟨b, 0, none⟩ xs.length c _ hfull (fun j q hq => by
    rw [addr_add]
    simp only [World.cell?, Nat.zero_add, h1]
    simpa using get j q hq)

theorem run_append_nothing {t s e : TypeId} {ty : TypeId} {z : Value} {a : Option Addr} {n cap : Nat} (hu : P.underlying t = some (.slice e)) (hsd' : (∃ e', P.underlying s = some (.slice e')) ∨ P.underlying s = some .string)
    (hz : zok P e = true) (h1 : (Builtin.lenOf z).run P w = .ok 0 w) (h2 : (Builtin.firstCells (szI P e) 0 z).run P w = .ok #[] w) (hn : n ≤ cap) :
    (Builtin.append_ #[t, s] ty #[.slice a n cap, z]).run P w = .ok (.slice a n cap) w := by
  obtain ⟨zz, inf, hi, hzero, hz1, hz2, hz3, hz4, hz5⟩ := zok_spec hz
  rw [← hz2] at h2
  rcases hsd' with ⟨e', hu'⟩ | hu' <;> cases a <;> simp [Builtin.append_, run_underlying hu, run_underlying hu', sizeOf, typeInfo, hi, h1, hn, h2, storeCells]

theorem appTag_new {t s e : TypeId} {x : V} {i : Nat} (he : elI P t = some e) (h : i % 4096 = appTagN P t s x) : tagged i e := by
  intro hne
  unfold appTagN at h
  rw [he] at h
  simp only at h
  split at h
  · split at h
    · exact h.symm
    · split at h
      · exact h.symm
      · exact (hne h).elim
    · exact (hne h).elim
  · exact (hne h).elim
theorem appTag_in {t s e : TypeId} {oid es off len i T : Nat} (he : elI P t = some e) (h : i % 4096 = appTagN P t s (.ar oid es off len)) (ho : tagged oid T) : tagged i T := by
  intro hne
  unfold appTagN at h
  rw [he] at h
  simp only at h
  split at h
  · split at h
    · rename_i ht
      rw [h] at hne ⊢
      rw [← ht] at hne ⊢
      exact ho hne
    · exact (hne h).elim
  · exact (hne h).elim
theorem snd_append (hs : Sim G H nx w) (hid : G.loc id = none) (hlt : id < nx) {t s : TypeId} {ty : TypeId} {x y : V} {u z : Value} (htg : id % 4096 = appTagN P t s x)
    (hsd : (match P.underlying s with | some (.slice _) | some .string => true | _ => false) = true) (h : appendI P H id t x y K) (hx : Rep G x u) (hy : Rep G y z) :
    Done P (Builtin.append_ #[t, s] ty #[u, z]) G H nx w id K := by
  have hsd' : (∃ e', P.underlying s = some (.slice e')) ∨ P.underlying s = some .string := by
    split at hsd
    · exact .inl ⟨_, by assumption⟩
    · exact .inr (by assumption)
    · cases hsd
  unfold appendI at h
  cases he : elI P t with
  | none => simp [he] at h
  | some e =>
    have hu := el_of he
    have htn := appTag_new he htg
    simp only [he] at h
    cases hsrc : srcI H y with
    | none => simp [hsrc] at h
    | some ys =>
      simp only [hsrc] at h
      have general : (match own H (szI P e) x with
        | none => False
        | some xs => zok P e = true ∧ if ys.isEmpty then K x H else
            (fits (szI P e) ys && decide ((xs.length + ys.length) * (byI P e + 1) ≤ 1099511627776)) = true ∧
            K (.ar id (szI P e) 0 (xs.length + ys.length)) ((kill H x).set id (.mem (szI P e) (xs ++ ys)))) → Done P (Builtin.append_ #[t, s] ty #[u, z]) G H nx w id K := by
        intro h
        cases hown : own H (szI P e) x with
        | none => simp [hown] at h
        | some xs =>
          simp only [hown] at h
          obtain ⟨hz, h⟩ := h
          by_cases hys : ys = []
          · subst hys
            simp only [List.isEmpty_nil, if_true] at h
            obtain ⟨e1, e2⟩ := src_empty (P := P) hsrc hy hs (szI P e)
            rcases own_spec hs hown hx with ⟨rfl, rfl, rfl⟩ | ⟨oid, b, o, cap, arr, T, rfl, rfl, hH, hl, hcap, -⟩
            · exact Done.pure hs (run_append_nothing hu hsd' hz e1 e2 (Nat.le_refl _)) .nil h
            · exact Done.pure hs (run_append_nothing hu hsd' hz e1 e2 hcap) hx h
          · rw [if_neg (by simpa using hys)] at h
            obtain ⟨hc, hk⟩ := h
            simp only [Bool.and_eq_true, decide_eq_true_eq] at hc
            obtain ⟨hfy, hb⟩ := hc
            have hpos : 0 < ys.length := List.length_pos_iff.2 hys
            have hnews := src_heap (P := P) hsrc hy hfy hys hs
            rcases own_spec hs hown hx with ⟨rfl, rfl, rfl⟩ | ⟨oid, b, o, cap, arr, T, rfl, rfl, hH, hl, hcap, hor, h1, h2, h3, h3', h4, h5, hto⟩
            · exact snd_append_new (xs := []) (a := none) (cap := 0) hs hid hlt htn (kill_forget H .nil) hu hsd' hz ⟨[], by simp [Builtin.firstCells], by simp, by simp, by simp⟩ (by simp) hnews hfy (by simpa using hpos) hb hk
            · by_cases hroom : xs.length + ys.length ≤ cap
              · rcases hor with ⟨rfl, hcs⟩ | ⟨q1, q2⟩
                · obtain ⟨news, hn⟩ := hnews w rfl
                  exact snd_append_in hs hid hlt (appTag_in he htg hto) hu hsd' hz hH hl hcs h1 h2 h3 h3' h4 h5 hn hfy hroom hk
                · omega
              · refine snd_append_new hs hid hlt htn (kill_forget H _) hu hsd' hz ?_ h4 hnews hfy (by omega) hb hk
                rcases hor with ⟨rfl, hcs⟩ | ⟨rfl, q2⟩
                · exact take_cells (w := w.drew) h1 h3 h3' h5 cap
                · exact ⟨[], by simp [Builtin.firstCells, loadCells, loadCellsFrom], by simp, by simp, by simp⟩
      cases x with
      | cl oid es off len =>
        simp only [] at h
        cases hrd : rd H (.cl oid es off len) with
        | none => simp [hrd] at h
        | some xs =>
          simp only [hrd, Bool.and_eq_true, Bool.not_eq_true', beq_iff_eq, decide_eq_true_eq] at h
          obtain ⟨⟨⟨⟨⟨hys, hfy⟩, hes⟩, hz⟩, hb⟩, hk⟩ := h
          have hys' : ys ≠ [] := by simpa using hys
          have hpos : 0 < ys.length := List.length_pos_iff.2 hys'
          have hnews := src_heap (P := P) hsrc hy hfy hys' hs
          subst hes
          obtain ⟨a, c, hu', hc1, hr⟩ := rd_spec hs hrd hx
          have hcc : c = xs.length := by
            obtain ⟨a', e⟩ := rep_cl hx
            rw [hu'] at e
            injection e with q1 q2 q3
            omega
          subst hcc
          subst hu'
          have hxl : ∀ (i : Nat) x, xs[i]? = some x → x.cells.length = szI P e := by
            simp only [rd] at hrd
            split at hrd
            · rename_i es' zs hH
              split at hrd
              · rename_i hc
                cases hrd
                obtain ⟨b, e1, e2, e3⟩ := hs.obj oid (by simp [hH])
                rw [hH] at e3
                obtain ⟨arr, T, h1, -, h2, h3, h3', h4, h5⟩ := e3
                intro i x hx
                rw [List.getElem?_take] at hx
                split at hx
                · rw [List.getElem?_drop] at hx
                  rw [← hc.1]; exact h4 _ x hx
                · cases hx
              · cases hrd
            · cases hrd
          have hfx : fits (szI P e) xs = true := by
            refine List.all_eq_true.2 fun x hx => ?_
            obtain ⟨i, hi⟩ := List.mem_iff_getElem?.1 hx
            simpa using hxl i x hi
          refine snd_append_new hs hid hlt htn (fun i => .inr rfl) hu hsd' hz ?_ hxl hnews hfy (by omega) hb hk
          by_cases hx0 : xs = []
          · subst hx0
            refine ⟨[], ?_, by simp, by simp, by simp⟩
            cases a <;> simp [Builtin.firstCells, loadCells, loadCellsFrom]
          · obtain ⟨news, -, n2, n3, n4, n5⟩ := src_heap (P := P) (x := .cl oid (szI P e) off len) (by exact hrd) hx hfx hx0 hs w.drew rfl
            exact ⟨news, n2, n3, n4, n5⟩
      | _ => exact general h
end
end Go.IL

/- The ideal meaning of operations is sound, part 8: literals. -/
namespace Go.IL
open Go

section
variable {P : Program} {G : Ghost} {H : Heap} {nx : Nat} {w : World} {id : Nat} {K : V → Heap → Prop}

def Frozen (G : Ghost) (H : Heap) (nx : Nat) (w : World) (H' : Heap) (p : Ghost → Prop) : Prop :=
  ∃ G', Ext G H w G' H' w ∧ Sim G' H' nx w ∧ G'.loc = G.loc ∧ p G'

theorem frz1_spec (hs : Sim G H nx w) {v : V} {y : Value} (hr : Rep G v y) : Frozen G H nx w (frz1 H v).2 fun G' => Rep G' (frz1 H v).1 y := by
  have same : ∀ v, Rep G v y → Frozen G H nx w H fun G' => Rep G' v y := fun v h => ⟨G, Ext.refl G H w, hs, rfl, h⟩
  cases v with
  | nil => cases hr; exact ⟨G, Ext.refl G H w, hs, rfl, .sl0⟩
  | ar oid es off len =>
    simp only [frz1]
    split
    · rename_i es' xs hh
      split
      · rename_i hc
        obtain ⟨rfl, hle⟩ := hc
        obtain ⟨b, o, cap, rfl, hl, hcap, hor⟩ := rep_ar hr
        obtain ⟨G', g1, g2, g3, g4, g5⟩ := hs.freeze hh hl
        refine ⟨G', g1, g2, g3, ?_⟩
        have hlen : ((xs.drop off).take len).length = len := by simp; omega
        by_cases h0 : len = 0
        · subst h0
          have : (xs.drop off).take 0 = [] := by simp
          rw [this]; exact .sl0
        · rcases hor with ⟨q1, rfl⟩ | ⟨q1, -⟩
          · have get : ∀ (i : Nat) x, ((xs.drop off).take len)[i]? = some x → xs[off + i]? = some x := by
              intro i x hx
              rw [List.getElem?_take] at hx
              split at hx
              · rw [List.getElem?_drop] at hx; exact hx
              · cases hx
            have key : ∀ (i j : Nat) x v, ((xs.drop off).take len)[i]? = some x → x.cells[j]? = some v → ∃ y, G'.imm b (off * es' + i * es' + j) = some y ∧ Rep G' v y := by
              intro i j x v hx hv
              obtain ⟨y, e1, e2⟩ := g5 _ j x v (get i x hx) hv
              exact ⟨y, by rw [← Nat.add_mul]; exact e1, e2⟩
            have := Rep.sl (G := G') (es := es') (xs := (xs.drop off).take len) (b := b) (o := off * es') (c := cap) (by rw [hlen]; exact hcap) (fun i j => (G'.imm b (off * es' + i * es' + j)).getD undef)
              (fun i x hx => g4 _ x (get i x hx)) (by
                intro i j hi hj
                have hx := List.getElem?_eq_getElem hi
                have hj' : j < ((xs.drop off).take len)[i].cells.length := by rw [g4 _ _ (get i _ hx)]; exact hj
                obtain ⟨y, e1, e2⟩ := key i j _ _ hx (List.getElem?_eq_getElem hj')
                rw [e1]; rfl) (by
                intro i j x v hx hv
                obtain ⟨y, e1, e2⟩ := key i j x v hx hv
                rw [e1]; exact e2)
            rw [hlen] at this
            exact this
          · exact (h0 q1).elim
      · exact same _ hr
    · exact same _ hr
  | _ => exact same _ hr

theorem frzs_spec : ∀ (cs : List V) (ys : List Value) {G : Ghost} {H : Heap} (_ : Sim G H nx w) (_ : cs.length = ys.length) (_ : ∀ (j : Nat) v y, cs[j]? = some v → ys[j]? = some y → Rep G v y),
    Frozen G H nx w (frzs H cs).2 fun G' => (frzs H cs).1.length = ys.length ∧ ∀ (j : Nat) v y, (frzs H cs).1[j]? = some v → ys[j]? = some y → Rep G' v y
  | [], ys, G, H, hs, hn, hr => ⟨G, Ext.refl G H w, hs, rfl, by simpa [frzs] using hn, by simp [frzs]⟩
  | c :: cs, [], G, H, hs, hn, hr => by simp at hn
  | c :: cs, y :: ys, G, H, hs, hn, hr => by
    obtain ⟨G1, a1, a2, a3, a4⟩ := frz1_spec hs (hr 0 c y (by simp) (by simp))
    obtain ⟨G2, b1, b2, b3, b4, b5⟩ := frzs_spec cs ys a2 (by simpa using hn) (fun j v z hv hz => (hr (j + 1) v z (by simpa using hv) (by simpa using hz)).mono a1.le)
    refine ⟨G2, a1.trans b1, b2, b3.trans a3, by simp [frzs, b4], ?_⟩
    intro j v z hv hz
    cases j with
    | zero => simp [frzs] at hv hz; subst hv hz; exact a4.mono b1.le
    | succ j => exact b5 j v z (by simpa [frzs] using hv) (by simpa using hz)

theorem frz_spec (hs : Sim G H nx w) {v : V} {y : Value} (hr : Rep G v y) : Frozen G H nx w (frz H v).2 fun G' => Rep G' (frz H v).1 y := by
  cases v with
  | agg cs =>
    cases hr with
    | agg ys hn ho hr =>
      obtain ⟨G', g1, g2, g3, g4, g5⟩ := frzs_spec cs ys.toList hs (by simpa using hn.symm) (fun j v y hv hy => hr j v y hv (by simpa using hy))
      exact ⟨G', g1, g2, g3, .agg ys (by simpa using g4.symm) ho (fun j v y hv hy => g5 j v y hv (by simpa using hy))⟩
  | _ => exact frz1_spec hs hr

theorem frzAll_spec : ∀ (vs : List V) (ys : List Value) {G : Ghost} {H : Heap} (_ : Sim G H nx w) (_ : vs.length = ys.length) (_ : ∀ (j : Nat) v y, vs[j]? = some v → ys[j]? = some y → Rep G v y),
    Frozen G H nx w (frzAll H vs).2 fun G' => (frzAll H vs).1.length = ys.length ∧ ∀ (j : Nat) v y, (frzAll H vs).1[j]? = some v → ys[j]? = some y → Rep G' v y
  | [], ys, G, H, hs, hn, hr => ⟨G, Ext.refl G H w, hs, rfl, by simpa [frzAll] using hn, by simp [frzAll]⟩
  | c :: cs, [], G, H, hs, hn, hr => by simp at hn
  | c :: cs, y :: ys, G, H, hs, hn, hr => by
    obtain ⟨G1, a1, a2, a3, a4⟩ := frz_spec hs (hr 0 c y (by simp) (by simp))
    obtain ⟨G2, b1, b2, b3, b4, b5⟩ := frzAll_spec cs ys a2 (by simpa using hn) (fun j v z hv hz => (hr (j + 1) v z (by simpa using hv) (by simpa using hz)).mono a1.le)
    refine ⟨G2, a1.trans b1, b2, b3.trans a3, by simp [frzAll, b4], ?_⟩
    intro j v z hv hz
    cases j with
    | zero => simp [frzAll] at hv hz; subst hv hz; exact a4.mono b1.le
    | succ j => exact b5 j v z (by simpa [frzAll] using hv) (by simpa using hz)

theorem inOrder_spec {n : Nat} : ∀ (k : Nat) (l : List (Nat × Operand)), inOrder n k l = true → k + l.length = n ∧ ∀ (i : Nat) p, l[i]? = some p → p.1 = k + i
  | k, [], h => by simp [inOrder] at h; simp [h]
  | k, (i, x) :: l, h => by
    simp only [inOrder, Bool.and_eq_true, beq_iff_eq] at h
    obtain ⟨h1, h2⟩ := inOrder_spec (k + 1) l h.2
    refine ⟨by simp; omega, ?_⟩
    intro j p hp
    cases j with
    | zero => simp at hp; subst hp; simpa using h.1
    | succ j => have := h2 j p (by simpa using hp); omega

theorem snd_buildSlice (hs : Sim G H nx w) (hid : G.loc id = none) (hlt : id < nx) (htg : id % 4096 = 4095) {t e : TypeId} {n : Nat} {parts : Array (Nat × Operand)} {ρ : Operand → V} {ρ' : Operand → Value} (hρ : ∀ x, Rep G (ρ x) (ρ' x))
    (he : elI P t = some e) (hio : inOrder n 0 parts.toList = true) (hz : zok P e = true) (hn : n * szI P e ≤ 16777216)
    (hsh : ((frzAll H (parts.toList.map fun p => ρ p.2)).1.all fun v => v.shown && v.cells.length == szI P e) = true)
    (hk : K (.ar id (szI P e) 0 n) ((frzAll H (parts.toList.map fun p => ρ p.2)).2.set id (.mem (szI P e) (frzAll H (parts.toList.map fun p => ρ p.2)).1))) :
    Done P (Instr.buildSlice t n (parts.map fun (i, x) => (i, ρ' x))) G H nx w id K := by
  obtain ⟨zz, inf, hi, hzero, hz1, hz2, hz3, hz4, hz5⟩ := zok_spec hz
  obtain ⟨hlen, hidx⟩ := inOrder_spec 0 parts.toList hio
  simp only [Nat.zero_add] at hlen hidx
  obtain ⟨G', g1, g2, g3, g4, g5⟩ := frzAll_spec (parts.toList.map fun p => ρ p.2) (parts.toList.map fun p => ρ' p.2) hs (by simp) (by
    intro j v y hv hy
    simp only [List.getElem?_map, Option.map_eq_some_iff] at hv hy
    obtain ⟨p, hp, rfl⟩ := hv
    obtain ⟨q, hq, rfl⟩ := hy
    rw [hp] at hq; cases hq
    exact hρ _)
  generalize hvs : (frzAll H (parts.toList.map fun p => ρ p.2)).1 = vs at *
  generalize hH' : (frzAll H (parts.toList.map fun p => ρ p.2)).2 = H' at *
  generalize hys : parts.toList.map (fun p => ρ' p.2) = ys at *
  have hyl : ys.length = n := by rw [← hys]; simpa using hlen
  have hvl : vs.length = n := by omega
  have hcell : ∀ (i : Nat) v y, vs[i]? = some v → ys[i]? = some y → y.cells.size = szI P e ∧ v.cells.length = szI P e ∧ (∀ (j : Nat) u z, v.cells[j]? = some u → y.cells[j]? = some z → Rep G' u z) ∧ ∀ (j : Nat) z, y.cells[j]? = some z → z.oneCell' = true := by
    intro i v y hv hy
    have := List.all_eq_true.1 hsh v (List.mem_of_getElem? hv)
    simp only [Bool.and_eq_true, beq_iff_eq] at this
    obtain ⟨c1, c2, c3⟩ := shown_cells (g5 i v y hv hy) this.1
    exact ⟨by omega, this.2, c2, c3⟩
  have hysz : ∀ y ∈ ys, y.cells.size = inf.size := by
    intro y hy
    obtain ⟨i, hi'⟩ := List.mem_iff_getElem?.1 hy
    have hlt' := (List.getElem?_eq_some_iff.1 hi').1
    rw [hz2]
    exact (hcell i vs[i] y (List.getElem?_eq_getElem (by omega)) hi').1
  have hparts : (parts.map fun (i, x) => (i, ρ' x)).toList = (ys.zipIdx 0).map fun x => (x.2, x.1) := by
    apply List.ext_getElem?
    intro i
    rw [← hys]
    simp only [Array.toList_map, List.getElem?_map, List.getElem?_zipIdx, Option.map_map]
    cases hp : parts.toList[i]? with
    | none => simp
    | some p => have := hidx i p hp; simp [this]
  obtain ⟨r, f1, f2, f3⟩ := Great.fill_dense (s := inf.size) (by omega) ys 0 ((Array.range (n * inf.size)).map (zz.cells[· % zz.cells.size]!)) hysz (by simp [hyl])
  have hrun : (Instr.buildSlice t n (parts.map fun (i, x) => (i, ρ' x))).run P w = .ok (.slice (some ⟨w.heap.size, 0, none⟩) n n) (w.alloc (.cells r e)) := by
    have hbig : ¬ (n * inf.size > 2 ^ 24) := by rw [hz2]; omega
    by_cases hn0 : n = 0
    · subst hn0
      have hp0 : parts = #[] := by
        apply Array.eq_empty_of_size_eq_zero
        simpa using hlen
      subst hp0
      have hy0 : ys = [] := by rw [← hys]; rfl
      subst hy0
      simp [Instr.fill] at f1
      subst f1
      simp [Instr.buildSlice, run_underlying (el_of he), sizeOf, typeInfo, hi, Instr.fill, newRow, Array.range_zero']
    · have hne : ¬ (n * inf.size = 0) := by
        intro h0
        rcases Nat.mul_eq_zero.1 h0 with h | h
        · exact hn0 h
        · omega
      simp only [Instr.buildSlice, Sem.run_bind, run_underlying (el_of he), Result.andThen_ok, sizeOf, typeInfo, run_program, hi, Sem.run_pure, hbig, if_false, Sem.run_ite, hne, zeroValue, hzero, hparts]
      simp only [Sem.run_pure, Result.andThen_ok, f1, newRow, Sem.run_bind, run_newObj]
      rfl
  have hrsz : r.size = n * szI P e := by rw [f2]; simp [hz2]
  have hr : ∀ (i j : Nat) y, i < n → j < szI P e → ys[i]? = some y → r[i * szI P e + j]? = y.cells[j]? := by
    intro i j y hi' hj hy
    rw [f3, hz2, if_pos (by
      refine ⟨by omega, ?_⟩
      rw [hyl, Nat.zero_add]
      have : (i + 1) * szI P e ≤ n * szI P e := Nat.mul_le_mul_right _ hi'
      rw [Nat.add_mul, Nat.one_mul] at this
      omega)]
    have d1 : (i * szI P e + j) / szI P e = i := by rw [Nat.mul_comm, Nat.mul_add_div hz4, Nat.div_eq_of_lt hj]; rfl
    have d2 : (i * szI P e + j) % szI P e = j := by rw [Nat.mul_comm, Nat.mul_add_mod, Nat.mod_eq_of_lt hj]
    rw [d1, d2, Nat.sub_zero, hy]
    rfl
  have hid' : G'.loc id = none := by rw [g3]; exact hid
  obtain ⟨s1, s2⟩ := sim_new g2 hid' hlt r e (szI P e) vs (fun h => (h htg).elim) (by rw [hrsz, hvl]; exact Nat.le_refl _)
    (by
      intro m z hz'
      have hm := (Array.getElem?_eq_some_iff.1 hz').1
      rw [hrsz] at hm
      have hi' : m / szI P e < n := Nat.div_lt_of_lt_mul (by rw [Nat.mul_comm]; exact hm)
      have hj : m % szI P e < szI P e := Nat.mod_lt _ hz4
      have hm' : m / szI P e * szI P e + m % szI P e = m := by rw [Nat.mul_comm]; exact Nat.div_add_mod m _
      have hy := List.getElem?_eq_getElem (l := ys) (i := m / szI P e) (by omega)
      have hv := List.getElem?_eq_getElem (l := vs) (i := m / szI P e) (by omega)
      have := hr (m / szI P e) (m % szI P e) _ hi' hj hy
      rw [hm', hz'] at this
      exact (hcell _ _ _ hv hy).2.2.2 _ z this.symm)
    (by
      intro k x hx
      have hk' := (List.getElem?_eq_some_iff.1 hx).1
      exact (hcell k x _ hx (List.getElem?_eq_getElem (by omega))).2.1)
    (by
      intro k j x v q hx hv hq
      have hk' := (List.getElem?_eq_some_iff.1 hx).1
      have hy := List.getElem?_eq_getElem (l := ys) (i := k) (by omega)
      have hc := hcell k x _ hx hy
      have hj : j < szI P e := by rw [← hc.2.1]; exact (List.getElem?_eq_some_iff.1 hv).1
      rw [hr k j _ (by omega) hj hy] at hq
      exact hc.2.2.1 j v q hv hq)
  refine ⟨_, _, _, _, _, hrun, g1.trans s2, s1, ?_, hk, ?_⟩
  · have := Rep.ar (G := G'.put id w.heap.size r.size) (id := id) (es := szI P e) (off := 0) (len := n) (b := w.heap.size) (cap := n)
      (by simp [Ghost.put]) (by simp only [Ghost.put, if_true, Nat.zero_add]; exact hrsz.symm) (Nat.le_refl _)
    simpa using this
  · intro i hi e
    simp [Ghost.put, hi, g3, e]
end
end Go.IL

/- Maps: what the ideal operations say is so. -/
namespace Go.IL
open Go

section
variable {P : Program} {G : Ghost} {H : Heap} {nx : Nat} {w : World} {id : Nat} {K : V → Heap → Prop}

theorem rep_mp {i : Nat} {y : Value} (h : Rep G (.mp i) y) : ∃ b, y = .map (some b) ∧ G.loc i = some b := by
  cases h with
  | mp hl => exact ⟨_, rfl, hl⟩
theorem rep_it {i : Nat} {y : Value} (h : Rep G (.it i) y) : ∃ b, y = .pointer (some ⟨b, 0, none⟩) ∧ G.loc i = some b := by
  cases h with
  | it hl => exact ⟨_, rfl, hl⟩
theorem map_of {t : TypeId} {q : TypeId × TypeId} (h : mapI P t = some q) : P.underlying t = some (.map q.1 q.2) := by
  unfold mapI at h
  split at h
  · cases h; assumption
  · cases h

theorem eqCell_now {c : Nat} {d : TypeDesc} {a b : V} {x y : Value} {t : Bool} (hd : flatKind (some d) = some c) (h : eqCell c a b = some t) (ha : Rep G a x) (hb : Rep G b y) :
    Instr.sameNow d x y = some t ∧ (t = true → Instr.sameBits 10000 x y = true) := by
  unfold flatKind at hd
  split at hd
  · rename_i k e
    cases hd; cases e
    unfold eqCell at h
    split at h <;> try (simp at *; done)
    rename_i k1 n1 k2 n2 _ _
    cases ha; cases hb
    split at h
    · rename_i hk
      subst hk
      cases h
      refine ⟨by simp [Instr.sameNow], fun ht => ?_⟩
      simp only [beq_iff_eq] at ht
      simp [Instr.sameBits, ht]
    · cases h
  · rename_i e
    cases hd; cases e
    unfold eqCell at h
    split at h <;> try (simp at *; done)
    rename_i l1 l2 _
    cases ha; cases hb
    cases h
    have hbb : ((⟨l1.toArray⟩ : ByteArray) == ⟨l2.toArray⟩) = (l1 == l2) := by
      by_cases e : l1 = l2
      · subst e; rw [(MapKept.bytes_beq _ _).2 rfl]; simp
      · have : ¬ ((⟨l1.toArray⟩ : ByteArray) == ⟨l2.toArray⟩) = true := by
          rw [MapKept.bytes_beq]; intro h; apply e; simpa using congrArg (·.data.toList) h
        rw [Bool.not_eq_true] at this
        rw [this]; simp [e]
    refine ⟨by simp [Instr.sameNow, hbb], fun ht => ?_⟩
    simp only [beq_iff_eq] at ht
    subst ht
    simp [Instr.sameBits, (MapKept.bytes_beq (⟨l1.toArray⟩ : ByteArray) ⟨l1.toArray⟩).2 rfl]
  · rename_i e
    cases hd; cases e
    unfold eqCell at h
    split at h <;> try (simp at *; done)
    rename_i b1 b2 _
    cases ha; cases hb
    cases h
    refine ⟨by simp [Instr.sameNow], fun ht => ?_⟩
    simp only [beq_iff_eq] at ht
    simp [Instr.sameBits, ht]
  · cases hd

theorem mapK_of {t : TypeId} {q : TypeId × TypeId} (h : mapK P t = some q) : P.underlying t = some (.map q.1 q.2) ∧ ∃ d c, P.underlying q.1 = some d ∧ flatKind (some d) = some c ∧ keyI P q.1 = eqCell c := by
  unfold mapK at h
  simp only [Option.bind_eq_some_iff] at h
  obtain ⟨q', h1, h2⟩ := h
  split at h2
  · rename_i hk
    cases h2
    refine ⟨map_of h1, ?_⟩
    unfold keyOk at hk
    unfold keyI
    cases hf : flatKind (P.underlying q.1) with
    | none => rw [hf] at hk; cases hk
    | some c =>
      cases hu : P.underlying q.1 with
      | none => rw [hu] at hf; cases hf
      | some d => exact ⟨d, c, rfl, by rw [hu] at hf; exact hf, rfl⟩
  · cases h2

theorem find_now {c : Nat} {d : TypeDesc} (hd : flatKind (some d) = some c) {k : V} {yk : Value} (hk : Rep G k yk) : ∀ (kvs : List (V × V)) (es : List MapEntry) (i : Nat) (r : Option Nat), es.length = kvs.length →
    (∀ (j : Nat) e p, es[j]? = some e → kvs[j]? = some p → Rep G p.1 e.key ∧ Rep G p.2 e.val) → findI (eqCell c) k kvs = some r →
    (r = none ∧ Instr.findNow d yk es i = some none) ∨ ∃ j e, r = some j ∧ es[j]? = some e ∧ Instr.findNow d yk es i = some (some (i + j, e.val)) ∧ Instr.sameBits 10000 e.key yk = true
  | [], [], i, r, _, _, h => by simp [findI] at h; exact .inl ⟨h.symm, rfl⟩
  | [], e :: es, i, r, hl, _, _ => by simp at hl
  | p :: kvs, [], i, r, hl, _, _ => by simp at hl
  | p :: kvs, e :: es, i, r, hl, hr, h => by
    simp only [findI, Option.bind_eq_some_iff] at h
    obtain ⟨t, h1, h2⟩ := h
    have hrp := (hr 0 e p rfl rfl).1
    obtain ⟨n1, n2⟩ := eqCell_now hd h1 hk hrp
    cases t with
    | true =>
      simp at h2
      subst h2
      refine .inr ⟨0, e, rfl, rfl, by simp [Instr.findNow, n1], ?_⟩
      have h1' : eqCell c p.1 k = some true := by
        unfold eqCell at h1 ⊢
        split at h1 <;> simp_all
        all_goals (rename_i q; first | exact q.symm | skip)
        all_goals omega
      exact (eqCell_now hd h1' hrp hk).2 rfl
    | false =>
      simp only [Bool.false_eq_true, if_false, Option.map_eq_some_iff] at h2
      obtain ⟨r', h3, rfl⟩ := h2
      rcases find_now hd hk kvs es (i + 1) r' (by simpa using hl) (fun j e' p' a b => hr (j + 1) e' p' (by simpa using a) (by simpa using b)) h3 with ⟨rfl, q⟩ | ⟨j, e', rfl, q1, q2, q3⟩
      · exact .inl ⟨rfl, by simp [Instr.findNow, n1, q]⟩
      · exact .inr ⟨j + 1, e', rfl, by simpa using q1, by simp [Instr.findNow, n1, q2]; omega, q3⟩

theorem map_live (hs : Sim G H nx w) {i b : Nat} {kvs : List (V × V)} (hh : H i = .map kvs) (hl : G.loc i = some b) : ∃ es clock, w.heap[b]? = some (.map es clock) ∧ es.size = kvs.length ∧ (∀ (k : Nat) e, es[k]? = some e → e.born < clock) ∧
      (∀ (j k : Nat) e f, es[j]? = some e → es[k]? = some f → e.born = f.born → j = k) ∧
      ∀ (k : Nat) e p, es[k]? = some e → kvs[k]? = some p → Rep G p.1 e.key ∧ Rep G p.2 e.val := by
  obtain ⟨b', e1, e2, e3⟩ := hs.obj i (by rw [hh]; simp)
  rw [hl] at e1; cases e1
  rw [hh] at e3
  exact e3
theorem run_zeroF {t : TypeId} {n : Nat} {v : V} (h : zeroF P t = some (n, v)) (w : World) : ∃ z, (zeroValue t).run P w = .ok z w ∧ Rep G v z := by
  unfold zeroF at h
  simp only [Option.bind_eq_some_iff] at h
  obtain ⟨z, h1, h2⟩ := h
  split at h2
  · rename_i ho
    cases h2
    refine ⟨z, ?_, rep_ofVal G z ho⟩
    unfold zeroI at h1
    simp only [Option.bind_eq_some_iff] at h1
    obtain ⟨i, h3, h4⟩ := h1
    simp [zeroValue, typeInfo, h3, h4]
  · cases h2
theorem okV_rep {ok there : Bool} {v : V} {y : Value} (h : Rep G v y) : Rep G (okV ok v there) (if ok = true then .tuple #[y, .bool there] else y) := by
  unfold okV
  split
  · refine .tup #[y, .bool there] rfl ?_
    intro j u z hu hz
    match j with
    | 0 => simp at hu hz; subst hu hz; exact h
    | 1 => simp at hu hz; subst hu hz; exact .val
    | j + 2 => simp at hu
  · exact h
theorem run_checkKey_flat {kt : TypeId} {d : TypeDesc} {c : Nat} (hu : P.underlying kt = some d) (hd : flatKind (some d) = some c) (e : Bool) (n : Nat) (k : Value) (w : World) : (Instr.checkKey e (n + 1) kt k).run P w = .ok () w := by
  unfold Instr.checkKey
  simp only [Sem.run_bind, run_underlying hu, Result.andThen_ok]
  unfold flatKind at hd
  split at hd
  · rename_i e; cases e; rfl
  · rename_i e; cases e; rfl
  · rename_i e; cases e; rfl
  · cases hd

theorem snd_look (hs : Sim G H nx w) {t : TypeId} {m k v : V} {ok : Bool} {y z : Value} (h : lookI P H t m k ok = some v) (hm : Rep G m y) (hkk : Rep G k z) (hk : K v H) :
    Done P (Instr.lookup t y z ok) G H nx w id K := by
  unfold lookI at h
  simp only [Option.bind_eq_some_iff] at h
  obtain ⟨q, hq, kvs, hkvs, r, hf, h⟩ := h
  obtain ⟨hu, d, c, hud, hdc, hkey⟩ := mapK_of hq
  rw [hkey] at hf
  have fin : ∀ (es : Array MapEntry), es.size = kvs.length → (∀ (j : Nat) e p, es[j]? = some e → kvs[j]? = some p → Rep G p.1 e.key ∧ Rep G p.2 e.val) →
      (Instr.lookup t y z ok).run P w = (do
        Instr.checkKey es.isEmpty 10000 q.1 z
        let (v, ok') ← match ← Instr.findKey q.1 z es.toList with
          | some (_, v) => pure (v, true)
          | none => pure (← zeroValue q.2, false)
        pure (if ok then .tuple #[v, .bool ok'] else v) : Sem Value).run P w → Done P (Instr.lookup t y z ok) G H nx w id K := by
    intro es hsz hrep hrun
    have hck := run_checkKey_flat (P := P) hud hdc es.isEmpty 9999 z w
    rcases find_now hdc hkk kvs es.toList 0 r (by simpa using hsz) (fun j e p a b => hrep j e p (by simpa using a) b) hf with ⟨rfl, q1⟩ | ⟨j, e, rfl, q1, q2, -⟩
    · simp only [Option.map_eq_some_iff] at h
      obtain ⟨⟨n, zv⟩, hz, rfl⟩ := h
      obtain ⟨zz, hz1, hz2⟩ := run_zeroF (G := G) hz w
      refine Done.pure hs (y := if ok = true then .tuple #[zz, .bool false] else zz) ?_ (okV_rep hz2) hk
      rw [hrun]
      simp only [Sem.run_bind, hck, Result.andThen_ok, MapKept.run_findKey hud q1, hz1]
      cases ok <;> simp
    · have hlt : j < kvs.length := by have := (Array.getElem?_eq_some_iff.1 (by simpa using q1 : es[j]? = some e)).1; omega
      have hg := List.getElem?_eq_getElem hlt
      simp only [hg, Option.map_some, Option.some.injEq] at h
      subst h
      refine Done.pure hs (y := if ok = true then .tuple #[e.val, .bool true] else e.val) ?_ (okV_rep (hrep j e _ (by simpa using q1) hg).2) hk
      rw [hrun]
      simp only [Sem.run_bind, hck, Result.andThen_ok, MapKept.run_findKey hud q2]
      cases ok <;> simp
  unfold kvsI at hkvs
  split at hkvs
  · rename_i i
    split at hkvs
    · rename_i kvs' hh
      cases hkvs
      obtain ⟨b, rfl, hl⟩ := rep_mp hm
      obtain ⟨es, cl, h1, h2, h3, h4, h5⟩ := map_live hs hh hl
      refine fin es h2 h5 ?_
      simp only [Instr.lookup, Sem.run_bind, run_underlying hu, Result.andThen_ok, MapKept.run_getObj_map h1, Sem.run_pure]
      rfl
    · cases hkvs
  · cases hkvs
    have := rep_val hm
    subst this
    refine fin #[] rfl (by simp) ?_
    simp only [Instr.lookup, Sem.run_bind, run_underlying hu, Result.andThen_ok, Sem.run_pure]
    rfl
  · cases hkvs

theorem noIter_new (hs : Sim G H nx w) (hid : G.loc id = none) : noIter H id := by
  intro i st e
  obtain ⟨b, -, -, e3⟩ := hs.obj i (by rw [e]; simp)
  rw [e] at e3
  obtain ⟨bm, es, cl, seen, h0, -⟩ := e3
  rw [hid] at h0; cases h0
theorem snd_makeMap (hs : Sim G H nx w) (hid : G.loc id = none) (hlt : id < nx) {t : TypeId} (hk : noIter H id → K (.mp id) (H.set id (.map []))) : Done P (Instr.makeMap t none) G H nx w id K := by
  obtain ⟨s1, s2⟩ := hs.alloc (n := 0) hid hlt (.map #[] 0) (.map []) (by intro m l e; cases e) ⟨#[], 0, add_new w _, rfl, by simp, by simp, by simp⟩
  refine ⟨.map (some w.heap.size), _, _, _, _, ?_, s2, s1, .mp (by simp [Ghost.put]), hk (noIter_new hs hid), ?_⟩
  · simp [Instr.makeMap]
  · intro i hi e
    simp [Ghost.put, hi, e]
theorem snd_range (hs : Sim G H nx w) (hid : G.loc id = none) (hlt : id < nx) {t : TypeId} {i : Nat} {kvs : List (V × V)} {y : Value} (hm : (mapI P t).isSome = true) (hr : Rep G (.mp i) y) (hh : H i = .map kvs)
    (hk : K (.it id) (H.set id (.iter i (kvs, none)))) : Done P (Instr.range t y) G H nx w id K := by
  obtain ⟨q, hq⟩ := Option.isSome_iff_exists.1 hm
  have hu := map_of hq
  obtain ⟨b, rfl, hl⟩ := rep_mp hr
  obtain ⟨es, cl, h1, h2, h3, h4, h5⟩ := map_live hs hh hl
  have hb := block_lt h1
  have hne : i ≠ id := fun e => by subst e; rw [hid] at hl; cases hl
  have hle := Ghost.le_put (G := G) (id := id) (b := w.heap.size) (n := 0) hid
  obtain ⟨s1, s2⟩ := hs.alloc (n := 0) hid hlt (.mapIter (some b) cl #[] cl) (.iter i (kvs, none)) (by intro m l e; cases e; rw [hh]; simp)
    ⟨b, es, cl, #[], hle.loc _ _ hl, add_new w _, by rw [add_old w _ b hb]; exact h1, h3, h4, by
      simp only [List.contains_toArray]
      rw [List.filter_eq_self.2 (by simp)]; simpa using h2, by
      intro k e p he hp
      rw [List.filter_eq_self.2 (by simp)] at he
      have := h5 k e p (by simpa using he) hp
      exact ⟨this.1.mono hle, this.2.mono hle⟩, by simp⟩
  refine ⟨.pointer (some ⟨w.heap.size, 0, none⟩), _, _, _, _, ?_, s2, s1, .it (by simp [Ghost.put]), hk, ?_⟩
  · exact run_range_map w t q.1 q.2 b es cl hu h1
  · intro j hj e
    simp [Ghost.put, hj, e]

/-- An operation that hands nothing back. -/
def DoneU (P : Program) (s : Sem Unit) (G : Ghost) (H : Heap) (nx : Nat) (w : World) (K : V → Heap → Prop) : Prop :=
  ∃ w' H', s.run P w = .ok () w' ∧ Ext G H w G H' w' ∧ Sim G H' nx w' ∧ K (.val undef) H'

theorem getElem_modify {es : Array MapEntry} {i k : Nat} {f : MapEntry → MapEntry} {e : MapEntry} (h : (es.modify i f)[k]? = some e) : ∃ e0, es[k]? = some e0 ∧ e = if i = k then f e0 else e0 := by
  rw [Array.getElem?_modify] at h
  split at h
  · rename_i hik
    simp only [Option.map_eq_some_iff] at h
    obtain ⟨e0, h1, h2⟩ := h
    exact ⟨e0, h1, by rw [if_pos hik]; exact h2.symm⟩
  · rename_i hik
    exact ⟨e, h, by rw [if_neg hik]⟩

theorem snd_update (hs : Sim G H nx w) {t : TypeId} {q : TypeId × TypeId} {i : Nat} {kvs : List (V × V)} {r : Option Nat} {k x : V} {y z u : Value} (hq : mapK P t = some q) (hr : Rep G (.mp i) y) (hh : H i = .map kvs)
    (hkk : Rep G k z) (hx : Rep G x u) (hf : findI (keyI P q.1) k kvs = some r) (hn : noIter H i) (hk : K (.val undef) (H.set i (.map (setKV kvs r k x)))) : DoneU P (Instr.mapUpdate t y z u) G H nx w K := by
  obtain ⟨hu, d, c, hud, hdc, hkey⟩ := mapK_of hq
  rw [hkey] at hf
  obtain ⟨b, rfl, hl⟩ := rep_mp hr
  obtain ⟨es, cl, h1, h2, h3, h4, h5⟩ := map_live hs hh hl
  have hck := run_checkKey_flat (P := P) hud hdc false 9999 z w
  have hno : ∀ j m l, j ≠ i → H j = .iter m l → G.loc m ≠ some b := fun j m l _ e el => by
    have := hs.itr j m l i b e (by rw [hh]; simp) el hl
    subst this
    exact hn j l e
  have lay : ∀ (es' : Array MapEntry) (cl' : Nat) (kvs' : List (V × V)), ObjAt G (setB w b (.map es' cl')) i b (.map kvs') →
      Sim G (H.set i (.map kvs')) nx (setB w b (.map es' cl')) ∧ Ext G H w G (H.set i (.map kvs')) (setB w b (.map es' cl')) := fun es' cl' kvs' hob =>
    hs.lay (by rw [hh]; simp) hl h1 _ _ (by intro m l e; cases e) hno hob
  rcases find_now hdc hkk kvs es.toList 0 r (by simpa using h2) (fun j e p a b => h5 j e p (by simpa using a) b) hf with ⟨rfl, q1⟩ | ⟨j, e, rfl, q1, q2, q3⟩
  · have hl := lay (es.push { key := z, val := u, born := cl }) (cl + 1) (kvs ++ [(k, x)]) ⟨_, _, setB_same h1, by simp [h2], ?_, ?_, ?_⟩
    · refine ⟨_, _, ?_, hl.2, hl.1, hk⟩
      simp only [Instr.mapUpdate, Sem.run_bind, run_underlying hu, Result.andThen_ok, MapKept.run_getObj_map h1, hck, MapKept.run_findKey hud q1]
      exact MapKept.run_setObj_map _ h1
    · intro k' e' he'
      rw [Array.getElem?_push] at he'
      split at he'
      · cases he'; exact Nat.lt_succ_self _
      · exact Nat.lt_succ_of_lt (h3 k' e' he')
    · intro j' k' e' f' he' hf' hb'
      rw [Array.getElem?_push] at he' hf'
      split at he' <;> split at hf'
      · omega
      · cases he'; have := h3 k' f' hf'; simp at hb'; omega
      · cases hf'; have := h3 j' e' he'; simp at hb'; omega
      · exact h4 j' k' e' f' he' hf' hb'
    · intro k' e' p' he' hp'
      rw [Array.getElem?_push] at he'
      split at he'
      · rename_i hk'
        subst hk'
        cases he'
        rw [h2] at hp'
        simp at hp'
        subst hp'
        exact ⟨hkk, hx⟩
      · have hlt := (Array.getElem?_eq_some_iff.1 he').1
        rw [List.getElem?_append_left (by omega)] at hp'
        exact h5 k' e' p' he' hp'
  · have q1' : es[j]? = some e := by simpa using q1
    have hl := lay (es.modify j fun e => { e with key := z, val := u }) cl (kvs.set j (k, x)) ⟨_, _, setB_same h1, by simp [h2], ?_, ?_, ?_⟩
    · refine ⟨_, _, ?_, hl.2, hl.1, hk⟩
      simp only [Instr.mapUpdate, Sem.run_bind, run_underlying hu, Result.andThen_ok, MapKept.run_getObj_map h1, hck, MapKept.run_findKey hud q2, Nat.zero_add, q1', Option.map_some, Option.getD_some, Instr.keyThatStays, q3, if_true, Sem.run_pure]
      exact MapKept.run_setObj_map _ h1
    · intro k' e' he'
      obtain ⟨e0, a1, rfl⟩ := getElem_modify he'
      have := h3 k' e0 a1
      split <;> exact this
    · intro j' k' e' f' he' hf' hb'
      obtain ⟨e0, a1, rfl⟩ := getElem_modify he'
      obtain ⟨f0, a2, rfl⟩ := getElem_modify hf'
      refine h4 j' k' e0 f0 a1 a2 ?_
      split at hb' <;> split at hb' <;> exact hb'
    · intro k' e' p' he' hp'
      obtain ⟨e0, a1, rfl⟩ := getElem_modify he'
      rw [List.getElem?_set] at hp'
      split
      · rename_i hjk
        rw [if_pos hjk] at hp'
        split at hp'
        · cases hp'; exact ⟨hkk, hx⟩
        · cases hp'
      · rename_i hjk
        rw [if_neg hjk] at hp'
        exact h5 k' e0 p' a1 hp'

theorem filter_erase {e : MapEntry} : ∀ (L : List MapEntry) (j : Nat), L[j]? = some e → (∀ (a b : Nat) x y, L[a]? = some x → L[b]? = some y → x.born = y.born → a = b) → L.filter (fun x => !(x.born == e.born)) = L.eraseIdx j
  | [], j, h, _ => by simp at h
  | x :: L, 0, h, hd => by
    simp at h
    subst h
    rw [List.filter_cons]
    simp only [beq_self_eq_true, Bool.not_true, Bool.false_eq_true, if_false, List.eraseIdx_cons_zero]
    rw [List.filter_eq_self]
    intro y hy
    obtain ⟨n, hn⟩ := List.mem_iff_getElem?.1 hy
    simp only [Bool.not_eq_true', beq_eq_false_iff_ne]
    intro hb
    have := hd (n + 1) 0 y x (by simpa using hn) rfl hb
    omega
  | x :: L, j + 1, h, hd => by
    have hx : (x.born == e.born) = false := by
      rw [beq_eq_false_iff_ne]
      intro hb
      have := hd 0 (j + 1) x e rfl h hb
      omega
    rw [List.filter_cons, hx]
    simp only [Bool.not_false, if_true, List.eraseIdx_cons_succ]
    rw [filter_erase L j (by simpa using h) (fun a b x' y' h1 h2 h3 => by have := hd (a + 1) (b + 1) x' y' (by simpa using h1) (by simpa using h2) h3; omega)]
theorem filter_inj {es : Array MapEntry} {p : MapEntry → Bool} (hd : ∀ (j k : Nat) e f, es[j]? = some e → es[k]? = some f → e.born = f.born → j = k) :
    ∀ (a b : Nat) x y, (es.toList.filter p)[a]? = some x → (es.toList.filter p)[b]? = some y → x.born = y.born → a = b := by
  have hn : (es.toList.map (·.born)).Nodup := by
    rw [List.Nodup, List.pairwise_iff_getElem]
    intro i j hi hj hij he
    simp at hi hj
    have := hd i j es[i] es[j] (by simp [hi]) (by simp [hj]) (by simpa using he)
    omega
  have hf : ((es.toList.filter p).map (·.born)).Nodup := List.Nodup.sublist (List.Sublist.map _ List.filter_sublist) hn
  intro a b x y hx hy hb
  obtain ⟨ha, hx⟩ := List.getElem?_eq_some_iff.1 hx
  obtain ⟨hb', hy⟩ := List.getElem?_eq_some_iff.1 hy
  rw [List.Nodup, List.pairwise_iff_getElem] at hf
  rcases Nat.lt_trichotomy a b with h | h | h
  · exact (hf a b (by simpa using ha) (by simpa using hb') h (by simp [hx, hy, hb])).elim
  · exact h
  · exact (hf b a (by simpa using hb') (by simpa using ha) h (by simp [hx, hy, hb])).elim
theorem snd_next (hs : Sim G H nx w) {ty : TypeId} {i m : Nat} {st : List (V × V) × Option (V × V)} {y : Value} (hr : Rep G (.it i) y) (hh : H i = .iter m st)
    (hk0 : st.1 = [] → K (.tup [.val (.bool false)]) (H.set i .dead)) (hk1 : ∀ j p, st.1[j]? = some p → K (.tup [.val (.bool true), p.1, p.2]) (H.set i (.iter m (st.1.eraseIdx j, some p)))) :
    Done P (Instr.next y false ty) G H nx w id K := by
  obtain ⟨b, rfl, hl⟩ := rep_it hr
  obtain ⟨b', e1, e2, e3⟩ := hs.obj i (by rw [hh]; simp)
  rw [hl] at e1; cases e1
  rw [hh] at e3
  obtain ⟨bm, es, cl, seen, f0, f1, f2, f3, f4, f5, f6, f7⟩ := e3
  have hfor : ∀ j, (H.set i .dead) j = .dead ∨ (H.set i .dead) j = H j := fun j => by
    by_cases hj : j = i
    · subst hj; exact .inl (by simp)
    · exact .inr (Heap.set_ne _ _ hj)
  rcases run_next_at (P := P) w ty b bm cl cl seen es cl f1 f2 (fun x hx => by
      obtain ⟨k, hk⟩ := List.mem_iff_getElem?.1 hx
      exact f3 k x (by simpa using hk)) (Nat.le_refl _) with ⟨h0, hrun⟩ | ⟨e, he, w1, hw1, hrun⟩
  · have hnil : st.1 = [] := by
      apply List.eq_nil_of_length_eq_zero
      rw [← f5]
      simpa [leftOf] using h0
    exact ⟨_, w, G, _, _, hrun, (Ext.refl G H w).forget hfor, hs.forget hfor, .tup #[.bool false] rfl (by
      intro j u z hu hz
      match j with
      | 0 => simp at hu hz; subst hu hz; exact .val
      | j + 1 => simp at hu), hk0 hnil, fun _ _ e => e⟩
  · have hw : Sim G H nx w1 ∧ Ext G H w G H w1 ∧ w1.heap = w.heap := by
      rcases hw1 with rfl | rfl
      · exact ⟨hs, Ext.refl _ _ _, rfl⟩
      · exact ⟨hs.drawn _, Ext.drew _ _ _ _ (Nat.le_succ _), rfl⟩
    obtain ⟨hs1, hx1, hheap⟩ := hw
    have he' : e ∈ es.toList.filter fun e => !seen.contains e.born := by simpa [leftOf] using he
    obtain ⟨j, hj⟩ := List.mem_iff_getElem?.1 he'
    have hjl : j < st.1.length := by rw [← f5]; exact (List.getElem?_eq_some_iff.1 hj).1
    have hp := List.getElem?_eq_getElem hjl
    have hrep := f6 j e _ hj hp
    have hfe : (es.toList.filter fun x => !(seen.push e.born).contains x.born) = (es.toList.filter fun x => !seen.contains x.born).eraseIdx j := by
      rw [← filter_erase _ j hj (filter_inj f4), List.filter_filter]
      congr 1
      funext x
      simp only [Array.contains_push, Bool.not_or]
      rw [Bool.and_comm]
    have hmem : e ∈ es.toList := (List.mem_filter.1 he').1
    have hlay := hs1.lay (id := i) (b := b) (by rw [hh]; simp) hl (by rw [hheap]; exact f1) (.mapIter (some bm) cl (seen.push e.born) cl) (.iter m (st.1.eraseIdx j, some st.1[j]))
      (by intro m' l e; cases e; exact ⟨st, hh⟩) (by
        intro j' m' l' hne hj' hlm
        obtain ⟨c, g1, g2, g3⟩ := hs.obj j' (by rw [hj']; simp)
        rw [hj'] at g3
        obtain ⟨bm', es', cl', seen', k0, k1, k2, -⟩ := g3
        rw [hlm] at k0; cases k0
        rw [f1] at k2; cases k2) ⟨bm, es, cl, seen.push e.born, f0, setB_same (by rw [hheap]; exact f1), by
          rw [setB_ne _ _ (by intro hb; subst hb; rw [f1] at f2; cases f2), hheap]; exact f2, f3, f4, by
          rw [hfe, List.length_eraseIdx, List.length_eraseIdx, f5], by
          intro k e' p' he2 hp2
          rw [hfe, List.getElem?_eraseIdx] at he2
          simp only [List.getElem?_eraseIdx] at hp2
          split at he2
          · rename_i hkj; rw [if_pos hkj] at hp2; exact f6 k e' p' he2 hp2
          · rename_i hkj; rw [if_neg hkj] at hp2; exact f6 (k + 1) e' p' he2 hp2, by
          intro p hp'
          cases hp'
          exact ⟨e, hmem, by simp, hrep.1, hrep.2⟩⟩
    exact ⟨_, _, G, _, _, hrun, hx1.trans hlay.2, hlay.1, .tup #[.bool true, e.key, e.val] rfl (by
      intro n u z hu hz
      match n with
      | 0 => simp at hu hz; subst hu hz; exact .val
      | 1 => simp at hu hz; subst hu hz; exact hrep.1
      | 2 => simp at hu hz; subst hu hz; exact hrep.2
      | n + 3 => simp at hu), hk1 j _ hp, fun _ _ e => e⟩
theorem snd_entry (hs : Sim G H nx w) {i m : Nat} {st : List (V × V) × Option (V × V)} {p : V × V} {y : Value} (hr : Rep G (.it i) y) (hh : H i = .iter m st) (hp : st.2 = some p)
    (hk : K (.tup [p.1, p.2]) H) : Done P (Instr.entry y) G H nx w id K := by
  obtain ⟨b, rfl, hl⟩ := rep_it hr
  obtain ⟨b', e1, e2, e3⟩ := hs.obj i (by rw [hh]; simp)
  rw [hl] at e1; cases e1
  rw [hh] at e3
  obtain ⟨bm, es, cl, seen, f0, f1, f2, f3, f4, f5, f6, f7⟩ := e3
  obtain ⟨e, g1, g2, g3, g4⟩ := f7 p hp
  have hpop : ∃ s' : Array Nat, seen = s'.push e.born := by
    refine ⟨seen.pop, ?_⟩
    have hne : seen.size ≠ 0 := by
      intro h0
      have : seen = #[] := Array.eq_empty_of_size_eq_zero h0
      subst this; simp at g2
    apply Array.ext_getElem?
    intro n
    rw [Array.getElem?_push, Array.size_pop]
    rw [Array.back?_eq_getElem?] at g2
    by_cases hn : n = seen.size - 1
    · subst hn; simp [g2]
    · rw [if_neg hn, Array.getElem?_pop]
      split
      · rfl
      · rename_i h; rw [Array.getElem?_eq_none]; omega
  obtain ⟨s', rfl⟩ := hpop
  have hn : (es.toList.map (·.born)).Nodup := by
    rw [List.Nodup, List.pairwise_iff_getElem]
    intro i j hi hj hij he
    simp at hi hj
    have := f4 i j es[i] es[j] (by simp [hi]) (by simp [hj]) (by simpa using he)
    omega
  refine Done.pure hs (run_entry_at (P := P) w b bm cl s' es cl e f1 f2 g1 hn) (.tup #[e.key, e.val] rfl ?_) hk
  intro n u z hu hz
  match n with
  | 0 => simp at hu hz; subst hu hz; exact g3
  | 1 => simp at hu hz; subst hu hz; exact g4
  | n + 2 => simp at hu

theorem set_self (H : Heap) (i : Nat) : H.set i (H i) = H := by
  funext j; simp only [Heap.set]; split
  · rename_i h; rw [h]
  · rfl
theorem scrub_get (es off len : Nat) (xs : List V) (h : off + len ≤ xs.length) (k : Nat) : (scrub es off len xs)[k]? = if off ≤ k ∧ k < off + len then some (.agg (List.replicate es .junk)) else xs[k]? := by
  unfold scrub
  by_cases h1 : k < off
  · rw [List.append_assoc, List.getElem?_append_left (by simp; omega), List.getElem?_take, if_pos h1, if_neg (by omega)]
  · by_cases h2 : k < off + len
    · rw [if_pos ⟨by omega, h2⟩, List.getElem?_append_left (by simp; omega), List.getElem?_append_right (by simp; omega), List.getElem?_replicate]
      rw [if_pos]; simp; omega
    · rw [if_neg (by omega), List.getElem?_append_right (by simp; omega), List.getElem?_drop]
      congr 1; simp; omega
theorem snd_clear (hs : Sim G H nx w) {t e ty : TypeId} {i es off len : Nat} {xs : List V} {y : Value} (he : elI P t = some e) (hr : Rep G (.ar i es off len) y) (hh : H i = .mem es xs) (hz : zok P e = true) (hes : es = szI P e) (hle : off + len ≤ xs.length)
    (hk : K (.tup []) (H.set i (.mem es (scrub es off len xs)))) : Done P (Builtin.clear_ #[t] ty #[y]) G H nx w id K := by
  have hu := el_of he
  have htup : Rep G (.tup []) (.tuple #[]) := .tup #[] rfl (by intro j v y h; simp at h)
  by_cases h0 : len = 0
  · subst h0
    have hsame : H.set i (.mem es (scrub es off 0 xs)) = H := by
      have : scrub es off 0 xs = xs := by simp [scrub]
      rw [this, ← hh, set_self]
    rw [hsame] at hk
    have hy : ∃ a c, y = .slice a 0 c := by
      cases hr with
      | ar _ _ _ => exact ⟨_, _, rfl⟩
      | ar0 _ => exact ⟨_, _, rfl⟩
    obtain ⟨a, c, rfl⟩ := hy
    refine Done.pure hs (y := .tuple #[]) ?_ htup hk
    cases a <;> simp [Builtin.clear_, run_underlying hu]
  · cases hr with
    | ar hl hc hn =>
      rename_i b cap
      obtain ⟨b', e1, e2, e3⟩ := hs.obj i (by rw [hh]; simp)
      rw [hl] at e1; cases e1
      rw [hh] at e3
      obtain ⟨arr, T, h1, ht, h2, h3, h3', h4, h5⟩ := e3
      unfold zok at hz
      cases hzi : zeroI P e with
      | none => rw [hzi] at hz; cases hz
      | some z =>
        rw [hzi] at hz
        simp only [Bool.and_eq_true, beq_iff_eq, decide_eq_true_eq] at hz
        obtain ⟨⟨z1, z2⟩, z3⟩ := hz
        have hzr : (zeroValue e).run P w = .ok z w := by
          unfold zeroI at hzi
          simp only [Option.bind_eq_some_iff] at hzi
          obtain ⟨inf, a1, a2⟩ := hzi
          simp [zeroValue, typeInfo, a1, a2]
        have zsz : (Builtin.zeroCells z.cells len).toList.length = len * es := by simp [Builtin.zeroCells, z1, hes]
        have zone : ∀ v ∈ (Builtin.zeroCells z.cells len).toList, v.oneCell' = true := by
          intro v hv
          simp only [Builtin.zeroCells, Array.toList_map, Array.toList_range, List.mem_map, List.mem_range] at hv
          obtain ⟨n, hn', rfl⟩ := hv
          have hlt : n % z.cells.size < z.cells.size := Nat.mod_lt _ (by omega)
          rw [getElem!_pos z.cells _ hlt]
          exact Array.all_eq_true_iff_forall_mem.1 z2 _ (Array.getElem_mem hlt)
        have hmul : off * es + len * es ≤ xs.length * es := by rw [← Nat.add_mul]; exact Nat.mul_le_mul_right _ hle
        have hfit : off * es + (Builtin.zeroCells z.cells len).toList.length ≤ arr.toList.length := by rw [zsz]; simp; omega
        have hst := run_storeCells_at P b (off * es) T (Builtin.zeroCells z.cells len).toList 0 arr w h1 (by simpa using hfit) zone
        simp only [Nat.add_zero] at hst
        have hg := splice_get arr.toList (Builtin.zeroCells z.cells len).toList (off * es) hfit
        have hw := hs.write (ob := .mem es (scrub es off len xs)) (hit := by intro m l e; cases e) hh hl (arr.toList.take (off * es) ++ (Builtin.zeroCells z.cells len).toList ++ arr.toList.drop (off * es + (Builtin.zeroCells z.cells len).toList.length)).toArray ?_
        · refine ⟨.tuple #[], _, G, _, _, ?_, hw.2, hw.1, htup, hk, fun _ _ e => e⟩
          cases len with
          | zero => exact (h0 rfl).elim
          | succ len =>
            simp only [Builtin.clear_, List.getElem?_toArray, List.getElem?_cons_zero, Sem.run_bind, run_underlying hu, Result.andThen_ok, hzr, hst, Sem.run_pure]
        · refine ⟨_, T, setRow_heap w b arr _ T (0, 0) h1, ht, ?_, ?_, ?_, ?_, ?_⟩
          · rw [← h2]
            simp only [Array.length_toList] at hfit
            simp only [List.size_toArray, List.length_append, List.length_take, List.length_drop, Array.length_toList]
            omega
          · have hsl : (scrub es off len xs).length = xs.length := by simp [scrub]; omega
            rw [hsl]
            simp only [Array.length_toList] at hfit
            simp only [List.size_toArray, List.length_append, List.length_take, List.length_drop, Array.length_toList]
            omega
          · intro j y hy
            simp only [List.getElem?_toArray] at hy
            rw [hg] at hy
            split at hy
            · exact h3' j y (by simpa using hy)
            · split at hy
              · exact zone y (List.mem_of_getElem? hy)
              · exact h3' j y (by simpa using hy)
          · intro k x hx
            rw [scrub_get es off len xs hle] at hx
            split at hx
            · cases hx; simp [V.cells]
            · exact h4 k x hx
          · intro k j x v y hx hv hy
            rw [scrub_get es off len xs hle] at hx
            split at hx
            · cases hx
              simp only [V.cells, List.getElem?_replicate] at hv
              split at hv
              · cases hv; exact .junk
              · cases hv
            · rename_i hkk
              simp only [List.getElem?_toArray] at hy
              rw [hg, zsz] at hy
              have hj : j < es := by rw [← h4 k x hx]; exact (List.getElem?_eq_some_iff.1 hv).1
              have hout : k * es + j < off * es ∨ off * es + len * es ≤ k * es + j := by
                by_cases hko : k < off
                · left
                  have : (k + 1) * es ≤ off * es := Nat.mul_le_mul_right _ hko
                  rw [Nat.add_mul, Nat.one_mul] at this
                  omega
                · right
                  have : (off + len) * es ≤ k * es := Nat.mul_le_mul_right _ (by omega)
                  rw [Nat.add_mul] at this
                  omega
              have hy' : arr[k * es + j]? = some y := by
                rcases hout with ho | ho
                · rw [if_pos ho] at hy; simpa using hy
                · rw [if_neg (by omega), if_neg (by omega)] at hy; simpa using hy
              exact h5 k j x v y hx hv hy'
    | ar0 _ => exact (h0 rfl).elim

theorem snd_sliceData (hs : Sim G H nx w) {x v : V} {ts : Array TypeId} {ty : TypeId} {y : Value} (h : sdI x = some v) (hr : Rep G x y) (hk : K v H) : Done P (Builtin.unsafeSliceData_ ts ty #[y]) G H nx w id K := by
  unfold sdI at h
  split at h
  · cases h
    cases hr
    exact Done.pure hs (Lib.run_unsafeSliceData_nil w ts ty 0 0) .val hk
  · rename_i i es off len
    split at h
    · rename_i hc
      cases h
      obtain ⟨h0, rfl⟩ := hc
      obtain ⟨b, o, cap, rfl, hl, hle, hor⟩ := rep_ar hr
      refine Done.pure hs (Lib.run_unsafeSliceData_row w ts ty _ len cap (by omega)) ?_ hk
      rcases hor with ⟨-, rfl⟩ | ⟨e, -⟩
      · exact .ptr hl
      · omega
    · cases h
  · cases h
theorem u8sOf_at : ∀ {xs : List V} {l : List UInt8}, u8sOf xs = some l → xs.length = l.length ∧ ∀ (j : Nat) c, l[j]? = some c → xs[j]? = some (.val (.int .u8 c.toNat))
  | [], l, h => by simp [u8sOf] at h; subst h; simp
  | v :: vs, l, h => by
    unfold u8sOf at h
    split at h
    · rename_i e; cases e
    · rename_i n vs' e
      cases e
      split at h
      · rename_i hn
        simp only [Option.map_eq_some_iff] at h
        obtain ⟨l', h1, rfl⟩ := h
        obtain ⟨e1, e2⟩ := u8sOf_at h1
        refine ⟨by simp [e1], ?_⟩
        intro j c hc
        cases j with
        | zero =>
          simp at hc
          subst hc
          obtain ⟨m, rfl⟩ := Int.eq_ofNat_of_zero_le hn.1
          have : m < 256 := by omega
          simp [Nat.mod_eq_of_lt this]
        | succ j => simpa using e2 j c (by simpa using hc)
      · cases h
    · cases h
theorem modify_set {α : Type} {a : Array α} {b : Nat} {f : α → α} {x : α} (h : a[b]? = some x) : a.modify b f = a.setIfInBounds b (f x) := by
  apply Array.ext_getElem?
  intro i
  rw [Array.getElem?_modify, Array.getElem?_setIfInBounds]
  have hlt := (Array.getElem?_eq_some_iff.1 h).1
  by_cases hi : b = i
  · subst hi
    rw [if_pos rfl, h, if_pos rfl, if_pos hlt]; rfl
  · simp [hi]
theorem snd_unsafeString (hs : Sim G H nx w) {a y : V} {pt it ty : TypeId} {u z : Value} {p : List UInt8 × Heap} (h : usI P H pt a y = some p) (hra : Rep G a u) (hry : Rep G y z) (hk : K (.str p.1) p.2) :
    Done P (Builtin.unsafeString_ #[pt, it] ty #[u, z]) G H nx w id K := by
  unfold usI at h
  split at h
  · rename_i n
    split at h
    · rename_i hn
      subst hn
      cases h
      have e1 := rep_val hra
      have e2 := rep_val hry
      subst e1 e2
      refine Done.pure hs (Lib.run_unsafeString_none (P := P) w pt it ty none) ?_ hk
      exact Rep.str (G := G) (l := [])
    · cases h
  · rename_i i es k j n
    split at h
    · rename_i es' xs hh
      simp only [Option.bind_eq_some_iff] at h
      obtain ⟨e, he, h⟩ := h
      split at h
      · rename_i hc
        obtain ⟨⟨rfl, rfl, rfl, rfl⟩, h0, hle, h63, htg, he5, hcell⟩ := hc
        simp only [Option.map_eq_some_iff] at h
        obtain ⟨l, hl8, rfl⟩ := h
        have e2 := rep_val hry
        subst e2
        obtain ⟨b, rfl, hl⟩ := rep_ptr hra
        obtain ⟨b', e1, e2, e3⟩ := hs.obj i (by rw [hh]; simp)
        rw [hl] at e1; cases e1
        rw [hh] at e3
        obtain ⟨arr, T, h1, ht, h2, h3, h3', h4, h5⟩ := e3
        have hT : T = e := by rw [← htg]; exact ht (by rw [htg]; exact Nat.ne_of_lt he5)
        subst hT
        have hu : P.underlying pt = some (.pointer T) := by
          unfold ptrElI at he; split at he
          · cases he; assumption
          · cases he
        obtain ⟨q1, q2⟩ := u8sOf_at hl8
        have hlen : l.length = n.toNat := by rw [← q1]; simp; omega
        have hn : n = (l.length : Int) := by omega
        have hrun := Lib.run_unsafeString_row (P := P) w pt it ty T hu hcell b arr.size (by simp [World.shape?, h1]) l (by intro e; subst e; simp at hlen; omega) (by simp at h3; omega) (by omega) (by
          intro j c hj
          have hx := q2 j c hj
          have hjl := (List.getElem?_eq_some_iff.1 hj).1
          rw [List.getElem?_take, if_pos (by omega)] at hx
          have hjx := (List.getElem?_eq_some_iff.1 hx).1
          have hja : j < arr.size := by simp at h3; omega
          have := h5 j 0 _ (.val (.int .u8 c.toNat)) arr[j] hx rfl (by simp [hja])
          have := rep_val this
          rw [addr_add]
          simp [World.cell?, h1, hja, this])
        have hfz : ∃ o, w.freeze ⟨b, 0, none⟩ l.length = setB w b o := by
          have hlt := block_lt h1
          have h0' : ¬ l.length = 0 := by omega
          unfold World.freeze setB
          rw [if_neg h0']
          exact ⟨_, by rw [modify_set h1]⟩
        obtain ⟨o, ho⟩ := hfz
        rw [ho] at hrun
        have hlay := hs.lay (id := i) (b := b) (by rw [hh]; simp) hl h1 o .dead (by intro m l e; cases e) (by
          intro j m st hne hj hlm
          obtain ⟨c, g1, g2, g3⟩ := hs.obj j (by rw [hj]; simp)
          rw [hj] at g3
          obtain ⟨bm', es', cl', seen', k0, k1, k2, -⟩ := g3
          rw [hlm] at k0; cases k0
          rw [h1] at k2; cases k2) trivial
        rw [hn]
        refine ⟨_, _, G, _, _, ?_, hlay.2, hlay.1, .str, hk, fun _ _ e => e⟩
        simpa using hrun
      · cases h
    · cases h
  · cases h
end
end Go.IL

/- The ideal meaning of operations is sound, part 9: build; all together. -/
namespace Go.IL
open Go

section
variable {P : Program} {G : Ghost} {H : Heap} {nx : Nat} {w : World} {id : Nat} {K : V → Heap → Prop}

theorem places_all : ∀ (fs : List Field), (fs.all fun f => (P.info? f.type).isSome) = true → ∃ ps : List (Nat × Nat),
    fs.mapM (fun f => (P.info? f.type).map fun i => (f.offset, i.size)) = some ps ∧ ∀ i : Nat, ps[i]? = (fs[i]?).map fun f => (f.offset, szI P f.type)
  | [], _ => ⟨[], by simp, by simp⟩
  | f :: fs, h => by
    simp only [List.all_cons, Bool.and_eq_true] at h
    obtain ⟨ps, h1, h2⟩ := places_all fs h.2
    obtain ⟨i, hi⟩ := Option.isSome_iff_exists.1 h.1
    refine ⟨(f.offset, i.size) :: ps, by simp [List.mapM_cons, hi, h1], ?_⟩
    intro k
    cases k with
    | zero => simp [szI, hi]
    | succ k => simpa using h2 k

theorem fill_build {place : Nat → Option (Nat × TypeId)} {place' : Nat → Option (Nat × Nat)} (hp : ∀ i off t, place i = some (off, t) → place' i = some (off, szI P t)) :
    ∀ (ps : List (Nat × V)) (ps' : List (Nat × Value)) (zs cs : List V) (cells : Array Value), buildI P zs place ps = some cs →
      ps.length = ps'.length → (∀ (j : Nat) p q, ps[j]? = some p → ps'[j]? = some q → p.1 = q.1 ∧ Rep G p.2 q.2) → Rep G (.agg zs) (.agg cells) →
      ∃ cells', Instr.fill place' cells ps' = some cells' ∧ Rep G (.agg cs) (.agg cells')
  | [], ps', zs, cs, cells, h, hl, _, hr => by
    simp [buildI] at h
    subst h
    cases ps' with
    | nil => exact ⟨cells, rfl, hr⟩
    | cons => simp at hl
  | (i, v) :: ps, [], _, _, _, _, hl, _, _ => by simp at hl
  | (i, v) :: ps, (i', y) :: ps', zs, cs, cells, h, hl, hpq, hr => by
    obtain ⟨e, hv⟩ := hpq 0 (i, v) (i', y) rfl rfl
    simp only at e hv
    subst e
    simp only [buildI] at h
    cases hpl : place i with
    | none => simp [hpl] at h
    | some p =>
      obtain ⟨off, t⟩ := p
      simp only [hpl] at h
      split at h
      · rename_i hc
        simp only [Bool.and_eq_true, beq_iff_eq, decide_eq_true_eq] at hc
        obtain ⟨⟨hsh, hsz⟩, hle⟩ := hc
        obtain ⟨c1, c2, c3⟩ := shown_cells hv hsh
        cases hr with
        | agg _ hn ho hr =>
          obtain ⟨g1, g2⟩ := Great.foldl_set off y.cells.toList 0 cells
          have hnew : Rep G (.agg (zs.take off ++ v.cells ++ zs.drop (off + v.cells.length)))
              (.agg ((y.cells.toList.zipIdx 0).foldl (fun cs (x : Value × Nat) => cs.setIfInBounds (off + x.2) x.1) cells)) := by
            have hg := splice_get zs v.cells off hle
            refine .agg _ ?_ ?_ ?_
            · rw [g1, hn]; simp; omega
            · intro j z hz
              rw [g2] at hz
              split at hz
              · exact c3 _ z (by rw [← Array.getElem?_toList]; exact hz)
              · exact ho j z hz
            · intro j u z hu hz
              rw [g2] at hz
              rw [hg] at hu
              simp only [Nat.add_zero, Array.length_toList] at hz
              by_cases q1 : j < off
              · rw [if_pos q1] at hu
                rw [if_neg (by omega)] at hz
                exact hr j u z hu hz
              · rw [if_neg q1] at hu
                by_cases q2 : j < off + v.cells.length
                · rw [if_pos q2] at hu
                  rw [if_pos (by omega), Array.getElem?_toList] at hz
                  exact c2 _ u z hu hz
                · rw [if_neg q2] at hu
                  rw [if_neg (by omega)] at hz
                  exact hr j u z hu hz
          obtain ⟨cells', f1, f2⟩ := fill_build hp ps ps' _ cs _ h (by simpa using hl) (fun j p q a b => hpq (j + 1) p q (by simpa using a) (by simpa using b)) hnew
          refine ⟨cells', ?_, f2⟩
          unfold Instr.fill
          simp only [hp i off t hpl]
          rw [if_neg (by simp; omega), ← f1]
          congr 1
          rw [← Array.foldl_toList]
          congr 1
          rw [Array.toList_zipIdx]
      · cases h

theorem snd_build (hs : Sim G H nx w) {t : TypeId} {parts : Array (Nat × Operand)} {ρ : Operand → V} {ρ' : Operand → Value} (hρ : ∀ x, Rep G (ρ x) (ρ' x)) {z : Value} {cs : List V}
    (hz : zeroI P t = some z) (ho : z.cells.all (·.oneCell') = true) (hp : placesOk P t = true) (hb : buildI P (z.cells.toList.map ofScalar) (placesI P t) (parts.toList.map fun p => (p.1, ρ p.2)) = some cs) (hk : K (.agg cs) H) :
    Done P (Instr.build t (parts.map fun (i, x) => (i, ρ' x))) G H nx w id K := by
  have hzr : Rep G (.agg (z.cells.toList.map ofScalar)) (.agg z.cells) := by
    have := rep_ofVal G (.agg z.cells) (by simpa [Value.cells] using ho)
    simpa [ofVal] using this
  have hlist : (parts.map fun (i, x) => (i, ρ' x)).toList = parts.toList.map fun p => (p.1, ρ' p.2) := by simp
  have hpq : ∀ (j : Nat) p q, (parts.toList.map fun p => (p.1, ρ p.2))[j]? = some p → (parts.toList.map fun p => (p.1, ρ' p.2))[j]? = some q → p.1 = q.1 ∧ Rep G p.2 q.2 := by
    intro j p q hp hq
    simp only [List.getElem?_map, Option.map_eq_some_iff] at hp hq
    obtain ⟨a, ha, rfl⟩ := hp
    obtain ⟨b, hb, rfl⟩ := hq
    rw [ha] at hb; cases hb
    exact ⟨rfl, hρ _⟩
  have hbuilt : ∃ cells, P.built t (parts.map fun (i, x) => (i, ρ' x)).toList = some cells ∧ Rep G (.agg cs) (.agg cells) := by
    rw [hlist]
    unfold zeroI at hz
    cases hi : P.info? t with
    | none => simp [hi] at hz
    | some inf =>
      simp [hi] at hz
      cases hu : P.underlying t with
      | none => simp [placesOk, hu] at hp
      | some d =>
        cases d <;> try (simp [placesOk, hu] at hp; done)
        case array n e =>
          simp [placesOk, hu] at hp
          obtain ⟨ie, hie⟩ := Option.isSome_iff_exists.1 hp
          have hpl : ∀ i off tt, placesI P t i = some (off, tt) → (fun i => some (i * ie.size, ie.size)) i = some (off, szI P tt) := by
            intro i off tt h
            simp only [placesI, hu] at h
            cases h
            simp [szI, hie]
          obtain ⟨cells, f1, f2⟩ := fill_build (P := P) (place' := fun i => some (i * ie.size, ie.size)) hpl _ _ _ _ _ hb (by simp) hpq hzr
          exact ⟨cells, by simp [Program.built, hi, hu, hz, hie, f1], f2⟩
        case struct fs =>
          simp only [placesOk, hu] at hp
          obtain ⟨ps, p1, p2⟩ := places_all (P := P) fs.toList hp
          have hpl : ∀ i off tt, placesI P t i = some (off, tt) → (ps.toArray[·]?) i = some (off, szI P tt) := by
            intro i off tt h
            simp only [placesI, hu, fldI] at h
            have := p2 i
            cases hf : fs[i]? with
            | none => simp [hf] at h
            | some f =>
              simp [hf] at h
              obtain ⟨rfl, rfl⟩ := h
              simp [p2, hf]
          obtain ⟨cells, f1, f2⟩ := fill_build (P := P) (place' := (ps.toArray[·]?)) hpl _ _ _ _ _ hb (by simp) hpq hzr
          exact ⟨cells, by simp only [Program.built, hi, hu, hz, p1, f1], f2⟩
  obtain ⟨cells, h1, h2⟩ := hbuilt
  exact Done.pure hs (run_build w t _ cells h1) h2 hk

theorem snd_len (hs : Sim G H nx w) {t ty : TypeId} {x : V} {y : Value} {n : Nat} {ts : Array TypeId} {as : Array Value} (ht : ts[0]? = some t) (ha : as[0]? = some y) (h : lenI P t H x = some n) (hr : Rep G x y) (hk : K (.int n) H) :
    Done P (Builtin.len_ ts ty as) G H nx w id K := by
  have key : (Builtin.len_ ts ty as).run P w = .ok (.int .i64 n) w := by
    unfold lenI at h
    split at h
    · rename_i l hu
      cases h
      rw [rep_str hr] at ha
      have hsz : (⟨l.toArray⟩ : ByteArray).size = l.length := by simp [ByteArray.size]
      simp [Builtin.len_, ht, ha, run_underlying hu, hsz, goInt]
    · rename_i m e hu
      cases h
      simp [Builtin.len_, ht, ha, run_underlying hu, goInt]
    · rename_i e xs hu
      cases h
      obtain ⟨a, c, rfl, -⟩ := sl_at hr
      simp [Builtin.len_, ht, ha, run_underlying hu, goInt]
    · rename_i e hu
      cases h
      cases hr
      simp [Builtin.len_, ht, ha, run_underlying hu, goInt]
    · rename_i e id es off len hu
      cases h
      obtain ⟨b, o, cap, rfl, -⟩ := rep_ar hr
      simp [Builtin.len_, ht, ha, run_underlying hu, goInt]
    · rename_i e id es off len hu
      cases h
      obtain ⟨a, rfl⟩ := rep_cl hr
      simp [Builtin.len_, ht, ha, run_underlying hu, goInt]
    · rename_i k e id hu
      split at h
      · rename_i kvs hh
        cases h
        cases hr with
        | mp hl =>
          obtain ⟨b, e1, e2, e3⟩ := hs.obj id (by simp [hh])
          rw [hl] at e1; cases e1
          rw [hh] at e3
          obtain ⟨es, clock, h1, h2, -⟩ := e3
          simp [Builtin.len_, ht, ha, run_underlying hu, getObj, Sem.run, h1, h2, goInt]
      · cases h
    · cases h
  exact Done.pure hs key .val hk

def StepOk (P : Program) (s : Sem Next) (G : Ghost) (H : Heap) (nx : Nat) (w : World) (id : Nat) (K : V → Heap → Prop) : Prop :=
  ∃ nxt y w' G' v H', s.run P w = .ok nxt w' ∧ (nxt = .value y ∨ nxt = .skip ∧ y = undef) ∧ Ext G H w G' H' w' ∧ Sim G' H' nx w' ∧ Rep G' v y ∧ K v H' ∧ ∀ i, i ≠ id → G.loc i = none → G'.loc i = none
theorem Done.step {s : Sem Value} (h : Done P s G H nx w id K) : StepOk P (do Pure.pure (Next.value (← s))) G H nx w id K := by
  obtain ⟨y, w', G', v, H', h1, h2⟩ := h
  exact ⟨.value y, y, w', G', v, H', by simp [h1], .inl rfl, h2⟩

theorem opE_sound (hs : Sim G H nx w) (hid : G.loc id = none) (hlt : id < nx) {ρ : Operand → V} {ρ' : Operand → Value} (hρ : ∀ x, Rep G (ρ x) (ρ' x)) {o : Oper} (h : opE P H id ρ o.op K) :
    StepOk P (execOp ρ' o) G H nx w id K := by
  obtain ⟨dst, op, type, pos, after, guard⟩ := o
  simp only at h
  unfold opE at h
  split at h
  · exact (snd_makeMap hs hid hlt h).step
  · obtain ⟨v, hv, hk⟩ := h
    exact (snd_look hs hv (hρ _) (hρ _) hk).step
  · obtain ⟨q, i, kvs, r, hq, hm, hh, hf, hn, hk⟩ := h
    rename_i t m k x
    obtain ⟨w', H', h1, h2, h3, h4⟩ := snd_update (P := P) hs hq (hm ▸ hρ m) hh (hρ k) (hρ x) hf hn hk
    exact ⟨.skip, undef, w', G, _, H', by simp [execOp, h1], .inr ⟨rfl, rfl⟩, h2, h3, .val, h4, fun _ _ e => e⟩
  · obtain ⟨i, kvs, hq, hm, hh, hk⟩ := h
    rename_i t m
    exact (snd_range (P := P) hs hid hlt hq (hm ▸ hρ m) hh hk).step
  · obtain ⟨i, m, st, hm, hh, hk0, hk1⟩ := h
    rename_i it
    exact (snd_next (P := P) hs (hm ▸ hρ it) hh hk0 hk1).step
  · obtain ⟨i, m, st, p, hm, hh, hp, hk⟩ := h
    rename_i it
    exact (snd_entry (P := P) hs (hm ▸ hρ it) hh hp hk).step
  · obtain ⟨t, x, e, i, es, off, len, xs, ht, hx, he, hxv, hh, hc, hk⟩ := h
    rename_i args argTypes
    simp only [Bool.and_eq_true, beq_iff_eq, decide_eq_true_eq] at hc
    have h1 : argTypes = #[t] := by rw [← Array.toList_inj]; simpa using ht
    have h2 : args = #[x] := by rw [← Array.toList_inj]; simpa using hx
    subst h1 h2
    have := (snd_clear (P := P) (ty := type) (id := id) hs he (hxv ▸ hρ x) hh hc.1.1 hc.1.2 hc.2 hk).step
    simpa [execOp, resolve, invoke, builtin] using this
  · obtain ⟨x, v, hx, hv, hk⟩ := h
    rename_i args argTypes
    have h2 : args = #[x] := by rw [← Array.toList_inj]; simpa using hx
    subst h2
    have := (snd_sliceData (P := P) (ts := argTypes) (ty := type) (id := id) hs hv (hρ x) hk).step
    simpa [execOp, resolve, invoke, builtin] using this
  · obtain ⟨x, y, pt, it, p, hx, ht, hv, hk⟩ := h
    rename_i args argTypes
    have h1 : argTypes = #[pt, it] := by rw [← Array.toList_inj]; simpa using ht
    have h2 : args = #[x, y] := by rw [← Array.toList_inj]; simpa using hx
    subst h1 h2
    have := (snd_unsafeString (P := P) (it := it) (ty := type) (id := id) hs hv (hρ x) (hρ y) hk).step
    simpa [execOp, resolve, invoke, builtin] using this
  · exact h.elim

theorem alloc_tag {ρ : Operand → V} {t : TypeId} {i : Nat} (h : i % 4096 = tagN P ρ (.alloc t)) : tagged i t := by
  intro hne
  simp only [tagN] at h
  split at h
  · exact h.symm
  · exact (hne h).elim
theorem opI_sound (hs : Sim G H nx w) (hid : G.loc id = none) (hlt : id < nx) {ρ : Operand → V} {ρ' : Operand → Value} (hρ : ∀ x, Rep G (ρ x) (ρ' x)) {o : Oper} (htg : id % 4096 = tagN P ρ o.op) (h : opI P H id ρ o.op K) :
    StepOk P (execOp ρ' o) G H nx w id K := by
  obtain ⟨dst, op, type, pos, after, guard⟩ := o
  simp only at h htg
  have pure' : ∀ {v : V} {y : Value}, Rep G v y → K v H → StepOk P (Pure.pure (Next.value y)) G H nx w id K :=
    fun hr hk => ⟨_, _, w, G, _, H, rfl, .inl rfl, Ext.refl G H w, hs, hr, hk, fun _ _ e => e⟩
  have opt : ∀ (z : Option Operand) v, z.map ρ = some v → ∃ y, z.map ρ' = some y ∧ Rep G v y := by
    intro z v e
    cases z with
    | none => cases e
    | some x => cases e; exact ⟨_, rfl, hρ x⟩
  have opt' : ∀ (z : Option Operand), z.map ρ = none → z.map ρ' = none := by
    intro z e
    cases z with
    | none => rfl
    | some x => cases e
  unfold opI at h
  split at h
  · exact pure' (hρ _) h
  · exact pure' (hρ _) h
  · obtain ⟨t, hc, hk⟩ := h
    rename_i c a b
    have hcc := hρ c
    rw [hc] at hcc
    refine ⟨.value (if t then ρ' a else ρ' b), _, w, G, _, H, ?_, .inl rfl, Ext.refl G H w, hs, ?_, hk, fun _ _ e => e⟩
    · simp [execOp, rep_bool hcc, asBool]
    · cases t
      · exact hρ b
      · exact hρ a
  · obtain ⟨z, hz, ho, hk⟩ := h
    exact (snd_alloc hs hid hlt (alloc_tag htg) hz ho hk).step
  · obtain ⟨hv, hk⟩ := h
    exact (snd_newVar hs hid hlt (fun h => (h htg).elim) (hρ _) hv hk).step
  · obtain ⟨z, cs, hz, ho, hp, hb, hk⟩ := h
    exact (snd_build hs hρ hz ho hp hb hk).step
  · obtain ⟨e, he, hc, hk⟩ := h
    simp only [Bool.and_eq_true, decide_eq_true_eq] at hc
    exact (snd_buildSlice hs hid hlt htg hρ he hc.1.1.1 hc.1.1.2 hc.1.2 hc.2 hk).step
  · obtain ⟨v, hl, hk⟩ := h
    exact (snd_load hs hl (hρ _) hk).step
  · obtain ⟨H', hst, hk⟩ := h
    obtain ⟨w', h1, h2, h3⟩ := snd_store (P := P) hs hst (hρ _) (hρ _)
    exact ⟨.skip, undef, w', G, _, H', by simp [execOp, h1], .inr ⟨rfl, rfl⟩, h2, h3, .val, hk, fun _ _ e => e⟩
  · obtain ⟨⟨i, es, k, j, hx⟩, hk⟩ := h
    rename_i x
    have hr := hρ x
    rw [hx] at hr hk
    obtain ⟨b, hy, hl⟩ := rep_ptr hr
    refine ⟨.value (ρ' x), _, w, G, _, H, ?_, .inl rfl, Ext.refl G H w, hs, ?_, hk, fun _ _ e => e⟩
    · simp [execOp, hy]
    · rw [hy]; exact .ptr hl
  · obtain ⟨v, hv, hk⟩ := h
    exact (snd_binX hs hv (hρ _) (hρ _) hk).step
  · obtain ⟨v, hv, hk⟩ := h
    exact (snd_un hs hv (hρ _) hk).step
  · obtain ⟨v, hv, hk⟩ := h
    exact (snd_convX hs hv (hρ _) hk).step
  · obtain ⟨v, hv, hk⟩ := h
    exact (snd_fieldAddr hs hv (hρ _) hk).step
  · obtain ⟨v, hv, hk⟩ := h
    exact (snd_field hs hv (hρ _) hk).step
  · obtain ⟨v, hv, hk⟩ := h
    exact (snd_indexAddr hs hv (hρ _) (hρ _) hk).step
  · obtain ⟨v, hv, hk⟩ := h
    exact (snd_index hs hv (hρ _) (hρ _) hk).step
  · obtain ⟨v, hv, hk⟩ := h
    refine (snd_slice hs hv (hρ _) (opt _) (opt' _) (opt _) (opt' _) (opt _) (opt' _) ?_ hk).step
    intro n e hu
    unfold sliceI at hv
    rw [hu] at hv
    simp at hv
  · obtain ⟨vs, v, hx, hi, hk⟩ := h
    rename_i x i
    have hr := hρ x
    rw [hx] at hr
    generalize hy : ρ' x = y at hr
    cases hr with
    | tup ys hn hr =>
      have hlt' : i < ys.size := by rw [hn]; exact (List.getElem?_eq_some_iff.1 hi).1
      have hg := Array.getElem?_eq_getElem hlt'
      refine ⟨.value ys[i], _, w, G, _, H, ?_, .inl rfl, Ext.refl G H w, hs, hr i v _ hi hg, hk, fun _ _ e => e⟩
      simp [execOp, Instr.extract, hy, hg]
  · obtain ⟨hf, hk⟩ := h
    rename_i f first cap
    have hf' : first = #[] := by simpa using hf
    subst hf'
    refine ⟨.value (.func (.func f) #[] (cap.map ρ')), _, w, G, _, H, by simp [execOp, Instr.makeFunc], .inl rfl, Ext.refl G H w, hs, .fn _ (by simp) ?_, hk, fun _ _ e => e⟩
    intro j v y hv hy
    simp at hv hy
    obtain ⟨a, ha, rfl⟩ := hv
    obtain ⟨b, hb, rfl⟩ := hy
    rw [ha] at hb; cases hb
    exact hρ _
  · obtain ⟨t, x, n, ht, hx, hl, hk⟩ := h
    rename_i args argTypes
    have := (snd_len (P := P) (ty := type) (id := id) hs ht (as := args.map ρ') (by simp [hx]) hl (hρ x) hk).step
    simpa [execOp, resolve, invoke, builtin] using this
  · obtain ⟨t, s, x, y, ht, hx, hsd, hk⟩ := h
    rename_i args argTypes
    have h1 : argTypes = #[t, s] := by rw [← Array.toList_inj]; simpa using ht
    have h2 : args = #[x, y] := by rw [← Array.toList_inj]; simpa using hx
    subst h1 h2
    have := (snd_append (P := P) (ty := type) hs hid hlt (by simpa [tagN] using htg) hsd hk (hρ x) (hρ y)).step
    simpa [execOp, resolve, invoke, builtin] using this
  · obtain ⟨x, y, k, a, b, hx, hxa, hyb, hk⟩ := h
    rename_i args argTypes
    have h2 : args = #[x, y] := by rw [← Array.toList_inj]; simpa using hx
    subst h2
    have ra := hρ x
    have rb := hρ y
    rw [hxa] at ra
    rw [hyb] at rb
    refine ⟨.value (.int k (min a b)), _, w, G, _, H, ?_, .inl rfl, Ext.refl G H w, hs, .val, hk, fun _ _ e => e⟩
    have : (if b < a then b else a) = min a b := by
      rw [Int.min_def]; split <;> split <;> omega
    simp [execOp, resolve, invoke, builtin, Builtin.min_, Builtin.min2, rep_int ra, rep_int rb, this]
  · exact opE_sound hs hid hlt hρ h
end
end Go.IL
