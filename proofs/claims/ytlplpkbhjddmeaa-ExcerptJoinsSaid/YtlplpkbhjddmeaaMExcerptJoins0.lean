/- Proved: part 3 of the proof that the law ExcerptJoins returns true at all its arguments (no further conditions). -/
import Derived.Test.YtlplpkbhjddmeaaT1
import Derived.Shelf.Strings.Builder1
import Derived.Shelf.Strings.Builder2
import Derived.Shelf.Small.Strs
import Derived.Shelf.Strings.BuilderF
import Derived.Shelf.Strings.BuilderK
import Derived.Shelf.Strings.Builder2Cap
import Derived.Shelf.Strings.Search1
import Derived.Shelf.Strings.Search2
import Derived.Shelf.Strings.Search3
import Derived.Shelf.Strings.Count
import Derived.Shelf.LaysM
import Derived.Shelf.Strings.Shaped
import Derived.Shelf.Strings.LastIndex
import Derived.Shelf.Strings.Prefix
import Derived.Shelf.Bits.Mul64
import Derived.Shelf.Strings.Repeat
import Derived.Shelf.Strings.BuilderCap
import Derived.Test.YtlplpkbhjddmeaaProg

set_option linter.unusedVariables false
set_option linter.unusedSimpArgs false
namespace Go.Proofs.Ytlplpkbhjddmeaa
open Go Th Go.Proofs
theorem of_takeWhile {α : Type} {p : α → Bool} : ∀ {l : List α} {x : α}, x ∈ l.takeWhile p → p x = true
  | a :: l, x, h => by
    rw [List.takeWhile_cons] at h
    split at h
    · rcases List.mem_cons.1 h with rfl | h
      · assumption
      · exact of_takeWhile h
    · cases h
def tw (l : List UInt8) : Nat := (l.reverse.takeWhile (· != 10)).length
theorem tw_nil : tw [] = 0 := rfl
theorem tw_snoc (l : List UInt8) (c : UInt8) : tw (l ++ [c]) = if c = 10 then 0 else tw l + 1 := by
  unfold tw
  rw [List.reverse_append, List.reverse_singleton, List.singleton_append, List.takeWhile_cons]
  by_cases h : c = 10 <;> simp [h]
theorem tw_le (l : List UInt8) : tw l ≤ l.length := by
  unfold tw
  have := (List.takeWhile_sublist (l := l.reverse) (p := (· != 10))).length_le
  simpa using this
theorem take_snoc' {l : List UInt8} {k : Nat} (h : k < l.length) : l.take (k + 1) = l.take k ++ [l[k]] := by
  rw [List.take_succ_eq_append_getElem h]
def begR : List UInt8 → Nat → Option Nat
  | _, 0 => some 0
  | [], _ + 1 => none
  | c :: r, k + 1 => (begR r (if c = 10 then k else k + 1)).map (· + 1)
def begI (l : List UInt8) (x : Int) : Int := if x < 0 then -1 else match begR l x.toNat with
  | some b => (b : Int)
  | none => -1
theorem begR_zero (l : List UInt8) : begR l 0 = some 0 := by cases l <;> rfl
theorem begR_le : ∀ (l : List UInt8) (k b : Nat), begR l k = some b → b ≤ l.length
  | l, 0, b, h => by rw [begR_zero] at h; cases h; exact Nat.zero_le _
  | [], k + 1, b, h => by cases h
  | c :: r, k + 1, b, h => by
    simp only [begR, Option.map_eq_some_iff] at h
    obtain ⟨a, h1, h2⟩ := h
    have := begR_le r _ a h1
    simp only [List.length_cons]; omega
theorem begR_step : ∀ (l : List UInt8) (k : Nat), begR l (k + 1) = if Lib.indexByte l 10 < 0 then none else (begR (l.drop ((Lib.indexByte l 10).toNat + 1)) k).map (· + ((Lib.indexByte l 10).toNat + 1))
  | [], k => by rfl
  | c :: r, k => by
    have hg := Lib.indexByte_ge r 10
    have ih := begR_step r k
    simp only [begR, Lib.indexByte]
    by_cases hc : c = 10
    · subst hc
      simp
    · simp only [hc, if_false, beq_iff_eq]
      rw [ih]
      by_cases h : Lib.indexByte r 10 = -1
      · simp [h]
      · have h0 : 0 ≤ Lib.indexByte r 10 := by omega
        have e : (Lib.indexByte r 10 + 1).toNat = (Lib.indexByte r 10).toNat + 1 := by omega
        rw [if_neg (by omega), if_neg (by rw [if_neg h]; omega), if_neg h, e]
        simp only [List.drop_succ_cons, Option.map_map]
        congr 1
theorem indexByte_lt : ∀ (l : List UInt8) (c : UInt8), Lib.indexByte l c < l.length
  | [], c => by simp [Lib.indexByte]
  | b :: l, c => by
    have := indexByte_lt l c
    simp only [Lib.indexByte, List.length_cons]
    split
    · omega
    · split <;> omega
def ln (l : List UInt8) : Nat := (l.takeWhile (· != 10)).length
theorem ln_le (l : List UInt8) : ln l ≤ l.length := (List.takeWhile_sublist _).length_le
theorem ln_index : ∀ (l : List UInt8), (if 0 ≤ Lib.indexByte l 10 then Lib.indexByte l 10 else (l.length : Int)) = (ln l : Int)
  | [] => by rfl
  | c :: r => by
    have ih := ln_index r
    have hg := Lib.indexByte_ge r 10
    unfold ln at *
    simp only [Lib.indexByte, List.takeWhile_cons]
    by_cases hc : c = 10
    · subst hc; simp
    · simp only [beq_iff_eq, hc, if_false, bne_iff_ne, ne_eq, not_false_iff, if_true, List.length_cons]
      by_cases h : Lib.indexByte r 10 = -1
      · simp only [h, if_true] at ih ⊢
        simp at ih ⊢
        omega
      · have h0 : 0 ≤ Lib.indexByte r 10 := by omega
        rw [if_pos h0] at ih
        rw [if_neg h, if_pos (by omega)]
        push_cast
        omega
theorem count_snoc (l : List UInt8) (c : UInt8) : (l ++ [c]).count 10 = l.count 10 + if c = 10 then 1 else 0 := by
  rw [List.count_append, List.count_singleton]
  by_cases h : c = 10 <;> simp [h]
theorem begR_count : ∀ (l : List UInt8) (i : Nat), i ≤ l.length → begR l ((l.take i).count 10) = some (i - tw (l.take i))
  | l, 0, _ => by simp [begR_zero]
  | [], i + 1, h => by simp at h
  | c :: r, i + 1, h => by
    have ih := begR_count r i (by simpa using h)
    have hT : tw (c :: r.take i) = if tw (r.take i) = (r.take i).length then (if c = 10 then tw (r.take i) else tw (r.take i) + 1) else tw (r.take i) := by
      unfold tw
      rw [List.reverse_cons]
      by_cases hall : ((r.take i).reverse.takeWhile (· != 10)).length = (r.take i).length
      · have : ∀ x ∈ (r.take i).reverse, (x != 10) = true := by
          have h2 : (r.take i).reverse.takeWhile (· != 10) = (r.take i).reverse := (List.takeWhile_sublist _).eq_of_length (by simpa using hall)
          intro x hx
          rw [← h2] at hx
          exact of_takeWhile (p := (· != 10)) hx
        rw [if_pos hall, List.takeWhile_append_of_pos this, List.takeWhile_cons, hall]
        by_cases hc : c = 10 <;> simp [hc]
      · rw [if_neg hall, List.takeWhile_append, if_neg]
        intro h3; exact hall (by simpa using h3)
    have hall0 : tw (r.take i) = (r.take i).length → (r.take i).count 10 = 0 := by
      intro ha
      have h2 : (r.take i).reverse.takeWhile (· != 10) = (r.take i).reverse := (List.takeWhile_sublist _).eq_of_length (by unfold tw at ha; simpa using ha)
      rw [List.count_eq_zero]
      intro hm
      have : (10 : UInt8) ∈ (r.take i).reverse.takeWhile (· != 10) := by rw [h2]; simpa using hm
      have := of_takeWhile (p := (· != 10)) this
      simp at this
    have htl := tw_le (r.take i)
    have hlen : (r.take i).length = i := by rw [List.length_take]; simp at h; omega
    rw [List.take_succ_cons, List.count_cons, hT]
    by_cases hc : c = 10
    · subst hc
      simp only [beq_self_eq_true, if_true]
      rw [begR, if_pos rfl, ih]
      simp only [Option.map_some, Option.some.injEq]
      split <;> omega
    · have hcb : (c == 10) = false := by simpa using hc
      simp only [hcb, hc, Bool.false_eq_true, if_false, Nat.add_zero]
      cases hk : (r.take i).count 10 with
      | zero =>
        rw [begR_zero]
        rw [hk, begR_zero] at ih
        simp only [Option.some.injEq] at ih ⊢
        split
        · rename_i e; rw [e]; omega
        · omega
      | succ k =>
        rw [begR, if_neg hc, ← hk, ih]
        simp only [Option.map_some, Option.some.injEq]
        have : ¬ tw (r.take i) = (r.take i).length := fun e => by have := hall0 e; omega
        rw [if_neg this]; omega
end Go.Proofs.Ytlplpkbhjddmeaa


namespace Go.Proofs
open Go.Shelf
def Try.lays170_ren : Go.Shelf.Ren := ⟨fun | 170 => 38 | n => n, fun | 70 => 48 | 3 => 3 | 0 => 0 | 72 => 51 | 37 => 49 | 5 => 5 | n => n, fun | n => n⟩
theorem Try.lays170 : Go.Proofs.Lays.n170 Try.prog Try.lays170_ren := {
  mixed := by kernel_rfl
  f170 := Try.func38.trans (congrArg some (by kernel_rfl))
  t0 := Try.underlying0
  a0 := Try.isAgg0
  z0 := Try.sizeOf0
  v0 := Try.zeroValue0
  t3 := Try.underlying3
  a3 := Try.isAgg3
  z3 := Try.sizeOf3
  v3 := Try.zeroValue3
  t37 := Try.underlying49
  a37 := Try.isAgg49
  z37 := Try.sizeOf49
  v37 := Try.zeroValue49
  t70 := Try.underlying48
  a70 := Try.isAgg48
  z70 := Try.sizeOf48
  v70 := Try.zeroValue48
  t72 := Try.underlying51
  a72 := Try.isAgg51
  z72 := Try.sizeOf51
  v72 := Try.zeroValue51 }
open Go.RowKit in
theorem Try.Builder_Len (B b : Nat) (bs : List Value) (w : World) (h : Lib.IsBuilder 51 5 B b bs w) :
    Calls Try.prog 38 #[.pointer (some ⟨b, 0, none⟩)] w fun e w' => e = .returned (.int .i64 bs.length) ∧ w' = w := Any.Builder_Len Try.lays170 B b bs w h
def Try.lays169_ren : Go.Shelf.Ren := ⟨fun | 169 => 26 | n => n, fun | 70 => 48 | 9 => 9 | 0 => 0 | 72 => 51 | 37 => 49 | 127 => 66 | 3 => 3 | 5 => 5 | n => n, fun | n => n⟩
theorem Try.lays169 : Go.Proofs.Lays.n169 Try.prog Try.lays169_ren := {
  mixed := by kernel_rfl
  f169 := Try.func26.trans (congrArg some (by kernel_rfl))
  t0 := Try.underlying0
  a0 := Try.isAgg0
  z0 := Try.sizeOf0
  v0 := Try.zeroValue0
  t3 := Try.underlying3
  a3 := Try.isAgg3
  z3 := Try.sizeOf3
  v3 := Try.zeroValue3
  t9 := Try.underlying9
  a9 := Try.isAgg9
  z9 := Try.sizeOf9
  v9 := Try.zeroValue9
  t37 := Try.underlying49
  a37 := Try.isAgg49
  z37 := Try.sizeOf49
  v37 := Try.zeroValue49
  t70 := Try.underlying48
  a70 := Try.isAgg48
  z70 := Try.sizeOf48
  v70 := Try.zeroValue48
  t72 := Try.underlying51
  a72 := Try.isAgg51
  z72 := Try.sizeOf51
  v72 := Try.zeroValue51
  t127 := Try.underlying66
  a127 := Try.isAgg66
  z127 := Try.sizeOf66
  v127 := Try.zeroValue66 }
theorem Try.Builder_Extra_169 : Builder.Extra Try.prog Try.lays169_ren := {
  sizeBuilder := by kernel_rfl
  liesBuilder := by kernel_rfl
  t5 := Try.underlying5
  a5 := Try.isAgg5
  z5 := Try.sizeOf5
  v5 := Try.zeroValue5
  infoByte := by kernel_rfl
  cellsByte := by kernel_rfl
  sizeByte := by kernel_rfl
  neB5 := by decide }
open Go.RowKit in
theorem Try.Builder_String (B b : Nat) (l : List UInt8) (w : World) (h : Lib.IsBuilder 51 5 B b (Lib.byteCells l) w) (h0 : l ≠ []) :
    Calls Try.prog 26 #[.pointer (some ⟨b, 0, none⟩)] w fun e w' => e = .returned (.string ⟨l.toArray⟩) ∧ Below B w w' := Any.Builder_String Try.lays169 Try.Builder_Extra_169 B b l w h h0
open Go.RowKit in
theorem Try.Builder_String_empty (B b : Nat) (w : World) (h : Lib.IsBuilder 51 5 B b [] w) (hBw : B ≤ w.heap.size) :
    Calls Try.prog 26 #[.pointer (some ⟨b, 0, none⟩)] w fun e w' => e = .returned (.string ⟨#[]⟩) ∧ Below B w w' := Any.Builder_String_empty Try.lays169 Try.Builder_Extra_169 B b w h hBw
open Go.RowKit in
theorem Try.Builder_String_any (B b : Nat) (l : List UInt8) (w : World) (h : Lib.IsBuilder 51 5 B b (Lib.byteCells l) w) (hBw : B ≤ w.heap.size) :
    Calls Try.prog 26 #[.pointer (some ⟨b, 0, none⟩)] w fun e w' => e = .returned (.string ⟨l.toArray⟩) ∧ Below B w w' := Any.Builder_String_any Try.lays169 Try.Builder_Extra_169 B b l w h hBw
def Try.lays241_ren : Go.Shelf.Ren := ⟨fun | 241 => 45 | 277 => 50 | n => n, fun | 70 => 48 | 3 => 3 | 0 => 0 | 72 => 51 | 37 => 49 | 5 => 5 | n => n, fun | n => n⟩
theorem Try.lays241 : Go.Proofs.Lays.n241 Try.prog Try.lays241_ren := {
  mixed := by kernel_rfl
  f241 := Try.func45.trans (congrArg some (by kernel_rfl))
  f277 := Try.func50.trans (congrArg some (by kernel_rfl))
  t0 := Try.underlying0
  a0 := Try.isAgg0
  z0 := Try.sizeOf0
  v0 := Try.zeroValue0
  t3 := Try.underlying3
  a3 := Try.isAgg3
  z3 := Try.sizeOf3
  v3 := Try.zeroValue3
  t37 := Try.underlying49
  a37 := Try.isAgg49
  z37 := Try.sizeOf49
  v37 := Try.zeroValue49
  t70 := Try.underlying48
  a70 := Try.isAgg48
  z70 := Try.sizeOf48
  v70 := Try.zeroValue48
  t72 := Try.underlying51
  a72 := Try.isAgg51
  z72 := Try.sizeOf51
  v72 := Try.zeroValue51 }
theorem Try.Builder_Extra_241 : Builder.Extra Try.prog Try.lays241_ren := {
  sizeBuilder := by kernel_rfl
  liesBuilder := by kernel_rfl
  t5 := Try.underlying5
  a5 := Try.isAgg5
  z5 := Try.sizeOf5
  v5 := Try.zeroValue5
  infoByte := by kernel_rfl
  cellsByte := by kernel_rfl
  sizeByte := by kernel_rfl
  neB5 := by decide }
open Go.RowKit in
theorem Try.Builder_grow_fresh (B b n : Nat) (w : World) (hB : B ≤ b) (hbk : w.heap[b]? = some (.cells #[.pointer (some ⟨b, 0, none⟩), .slice none 0 0] 51 (0, 0))) (hBw : B ≤ w.heap.size) (hn : n ≤ 281474976710656) :
    Calls Try.prog 45 #[.pointer (some ⟨b, 0, none⟩), .int .i64 n] w fun e w' => e = .returned (.tuple #[]) ∧ (Lib.BuilderAt 51 5 B b (.pointer (some ⟨b, 0, none⟩)) [] w' ∧ Below B w w') := Any.Builder_grow_fresh Try.lays241 Try.Builder_Extra_241 B b n w hB hbk hBw hn
def Try.lays165_ren : Go.Shelf.Ren := ⟨fun | 165 => 37 | 240 => 34 | 241 => 45 | 276 => 41 | 277 => 50 | n => n, fun | 70 => 48 | 3 => 3 | 0 => 0 | 4 => 4 | 9 => 9 | 20 => 20 | 72 => 51 | 37 => 49 | 164 => 67 | 5 => 5 | n => n, fun | n => n⟩
theorem Try.lays165 : Go.Proofs.Lays.n165 Try.prog Try.lays165_ren := {
  mixed := by kernel_rfl
  f165 := Try.func37.trans (congrArg some (by kernel_rfl))
  f240 := Try.func34.trans (congrArg some (by kernel_rfl))
  f241 := Try.func45.trans (congrArg some (by kernel_rfl))
  f276 := Try.func41.trans (congrArg some (by kernel_rfl))
  f277 := Try.func50.trans (congrArg some (by kernel_rfl))
  t0 := Try.underlying0
  a0 := Try.isAgg0
  z0 := Try.sizeOf0
  v0 := Try.zeroValue0
  t3 := Try.underlying3
  a3 := Try.isAgg3
  z3 := Try.sizeOf3
  v3 := Try.zeroValue3
  t4 := Try.underlying4
  a4 := Try.isAgg4
  z4 := Try.sizeOf4
  v4 := Try.zeroValue4
  t9 := Try.underlying9
  a9 := Try.isAgg9
  z9 := Try.sizeOf9
  v9 := Try.zeroValue9
  t20 := Try.underlying20
  a20 := Try.isAgg20
  z20 := Try.sizeOf20
  v20 := Try.zeroValue20
  t37 := Try.underlying49
  a37 := Try.isAgg49
  z37 := Try.sizeOf49
  v37 := Try.zeroValue49
  t70 := Try.underlying48
  a70 := Try.isAgg48
  z70 := Try.sizeOf48
  v70 := Try.zeroValue48
  t72 := Try.underlying51
  a72 := Try.isAgg51
  z72 := Try.sizeOf51
  v72 := Try.zeroValue51
  t164 := Try.underlying67
  a164 := Try.isAgg67
  z164 := Try.sizeOf67
  v164 := Try.zeroValue67 }
theorem Try.Builder_Extra_165 : Builder.Extra Try.prog Try.lays165_ren := {
  sizeBuilder := by kernel_rfl
  liesBuilder := by kernel_rfl
  t5 := Try.underlying5
  a5 := Try.isAgg5
  z5 := Try.sizeOf5
  v5 := Try.zeroValue5
  infoByte := by kernel_rfl
  cellsByte := by kernel_rfl
  sizeByte := by kernel_rfl
  neB5 := by decide }
open Go.RowKit in
theorem Try.Builder_Grow_fresh (B b n : Nat) (w : World) (hB : B ≤ b) (hbk : w.heap[b]? = some (.cells #[.pointer none, .slice none 0 0] 51 (0, 0))) (hBw : B ≤ w.heap.size) (hn : n ≤ 281474976710656) :
    Calls Try.prog 37 #[.pointer (some ⟨b, 0, none⟩), .int .i64 n] w fun e w' => e = .returned (.tuple #[]) ∧ (Lib.BuilderAt 51 5 B b (.pointer (some ⟨b, 0, none⟩)) [] w' ∧ Below B w w') := Any.Builder_Grow_fresh Try.lays165 Try.Builder_Extra_165 B b n w hB hbk hBw hn
def Try.lays137_ren : Go.Shelf.Ren := ⟨fun | 137 => 33 | 217 => 40 | 266 => 49 | n => n, fun | 9 => 9 | 5 => 5 | 3 => 3 | n => n, fun | n => n⟩
theorem Try.lays137 : Go.Proofs.Lays.n137 Try.prog Try.lays137_ren := {
  mixed := by kernel_rfl
  f137 := Try.func33.trans (congrArg some (by kernel_rfl))
  f217 := Try.func40.trans (congrArg some (by kernel_rfl))
  f266 := Try.func49.trans (congrArg some (by kernel_rfl))
  t3 := Try.underlying3
  a3 := Try.isAgg3
  z3 := Try.sizeOf3
  v3 := Try.zeroValue3
  t5 := Try.underlying5
  a5 := Try.isAgg5
  z5 := Try.sizeOf5
  v5 := Try.zeroValue5
  t9 := Try.underlying9
  a9 := Try.isAgg9
  z9 := Try.sizeOf9
  v9 := Try.zeroValue9 }
open Go.RowKit in
theorem Try.strings_IndexByte (s : ByteArray) (c : Int) (w : World) :
    Calls Try.prog 33 #[.string s, .int .u8 c] w fun e w' => e = .returned (.int .i64 (Lib.indexByte s.data.toList c.toNat.toUInt8)) ∧ w' = w := Any.strings_IndexByte Try.lays137 s c w
open Go.RowKit in
theorem Try.Builder_Len_f (B b : Nat) (bs : List Value) (w : World) (h : Lib.IsBuilderF 51 5 B b bs w) :
    Calls Try.prog 38 #[.pointer (some ⟨b, 0, none⟩)] w fun e w' => e = .returned (.int .i64 bs.length) ∧ w' = w := Any.Builder_Len_f Try.lays170 B b bs w h
open Go.RowKit in
theorem Try.Builder_String_f (B b : Nat) (l : List UInt8) (w : World) (h : Lib.IsBuilderF 51 5 B b (Lib.byteCells l) w) (h0 : l ≠ []) :
    Calls Try.prog 26 #[.pointer (some ⟨b, 0, none⟩)] w fun e w' => e = .returned (.string ⟨l.toArray⟩) ∧ (Lib.IsBuilderF 51 5 B b (Lib.byteCells l) w' ∧ Below B w w') := Any.Builder_String_f Try.lays169 Try.Builder_Extra_169 B b l w h h0
open Go.RowKit in
theorem Try.Builder_String_empty_f (B b : Nat) (w : World) (h : Lib.IsBuilderF 51 5 B b [] w) (hBw : B ≤ w.heap.size) :
    Calls Try.prog 26 #[.pointer (some ⟨b, 0, none⟩)] w fun e w' => e = .returned (.string ⟨#[]⟩) ∧ (Lib.IsBuilderF 51 5 B b [] w' ∧ Below B w w') := Any.Builder_String_empty_f Try.lays169 Try.Builder_Extra_169 B b w h hBw
open Go.RowKit in
theorem Try.Builder_String_any_f (B b : Nat) (l : List UInt8) (w : World) (h : Lib.IsBuilderF 51 5 B b (Lib.byteCells l) w) (hBw : B ≤ w.heap.size) :
    Calls Try.prog 26 #[.pointer (some ⟨b, 0, none⟩)] w fun e w' => e = .returned (.string ⟨l.toArray⟩) ∧ (Lib.IsBuilderF 51 5 B b (Lib.byteCells l) w' ∧ Below B w w') := Any.Builder_String_any_f Try.lays169 Try.Builder_Extra_169 B b l w h hBw
open Go.RowKit in
theorem Try.Builder_String_k (B b : Nat) (l : List UInt8) (w : World) (h : Lib.IsBuilderF 51 5 B b (Lib.byteCells l) w) (h0 : l ≠ []) :
    Calls Try.prog 26 #[.pointer (some ⟨b, 0, none⟩)] w fun e w' => e = .returned (.string ⟨l.toArray⟩) ∧ (Lib.IsBuilderF 51 5 B b (Lib.byteCells l) w' ∧ Below B w w' ∧ Lib.OthersKept 5 (some b) w w') := Any.Builder_String_k Try.lays169 Try.Builder_Extra_169 B b l w h h0
open Go.RowKit in
theorem Try.Builder_String_empty_k (B b : Nat) (w : World) (h : Lib.IsBuilderF 51 5 B b [] w) (hBw : B ≤ w.heap.size) :
    Calls Try.prog 26 #[.pointer (some ⟨b, 0, none⟩)] w fun e w' => e = .returned (.string ⟨#[]⟩) ∧ (Lib.IsBuilderF 51 5 B b [] w' ∧ Below B w w' ∧ Lib.OthersKept 5 (some b) w w') := Any.Builder_String_empty_k Try.lays169 Try.Builder_Extra_169 B b w h hBw
open Go.RowKit in
theorem Try.Builder_String_any_k (B b : Nat) (l : List UInt8) (w : World) (h : Lib.IsBuilderF 51 5 B b (Lib.byteCells l) w) (hBw : B ≤ w.heap.size) :
    Calls Try.prog 26 #[.pointer (some ⟨b, 0, none⟩)] w fun e w' => e = .returned (.string ⟨l.toArray⟩) ∧ (Lib.IsBuilderF 51 5 B b (Lib.byteCells l) w' ∧ Below B w w' ∧ Lib.OthersKept 5 (some b) w w') := Any.Builder_String_any_k Try.lays169 Try.Builder_Extra_169 B b l w h hBw
open Go.RowKit in
theorem Try.Builder_grow_fresh_cap (B b n : Nat) (w : World) (hB : B ≤ b) (hbk : w.heap[b]? = some (.cells #[.pointer (some ⟨b, 0, none⟩), .slice none 0 0] 51 (0, 0))) (hBw : B ≤ w.heap.size) (hn : n ≤ 281474976710656) :
    Calls Try.prog 45 #[.pointer (some ⟨b, 0, none⟩), .int .i64 n] w fun e w' => e = .returned (.tuple #[]) ∧ (Lib.BuilderAt 51 5 B b (.pointer (some ⟨b, 0, none⟩)) [] w' ∧ Below B w w') ∧ ∃ p cap, w'.cell? ⟨b, 1, none⟩ = some (.slice p 0 cap) ∧ n ≤ cap := Any.Builder_grow_fresh_cap Try.lays241 Try.Builder_Extra_241 B b n w hB hbk hBw hn
open Go.RowKit in
theorem Try.Builder_Grow_fresh_cap (B b n : Nat) (w : World) (hB : B ≤ b) (hbk : w.heap[b]? = some (.cells #[.pointer none, .slice none 0 0] 51 (0, 0))) (hBw : B ≤ w.heap.size) (hn : n ≤ 281474976710656) :
    Calls Try.prog 37 #[.pointer (some ⟨b, 0, none⟩), .int .i64 n] w fun e w' => e = .returned (.tuple #[]) ∧ (Lib.BuilderAt 51 5 B b (.pointer (some ⟨b, 0, none⟩)) [] w' ∧ Below B w w') ∧ ∃ p cap, w'.cell? ⟨b, 1, none⟩ = some (.slice p 0 cap) ∧ n ≤ cap := Any.Builder_Grow_fresh_cap Try.lays165 Try.Builder_Extra_165 B b n w hB hbk hBw hn
def Try.lays217_ren : Go.Shelf.Ren := ⟨fun | 217 => 40 | 266 => 49 | n => n, fun | 9 => 9 | 5 => 5 | 3 => 3 | n => n, fun | n => n⟩
theorem Try.lays217 : Go.Proofs.Lays.n217 Try.prog Try.lays217_ren := {
  mixed := by kernel_rfl
  f217 := Try.func40.trans (congrArg some (by kernel_rfl))
  f266 := Try.func49.trans (congrArg some (by kernel_rfl))
  t3 := Try.underlying3
  a3 := Try.isAgg3
  z3 := Try.sizeOf3
  v3 := Try.zeroValue3
  t5 := Try.underlying5
  a5 := Try.isAgg5
  z5 := Try.sizeOf5
  v5 := Try.zeroValue5
  t9 := Try.underlying9
  a9 := Try.isAgg9
  z9 := Try.sizeOf9
  v9 := Try.zeroValue9 }
open Go.RowKit Go.Lib in
theorem Try.stringslite_IndexByte (s : ByteArray) (c : Int) (w : World) :
    Calls Try.prog 40 #[.string s, .int .u8 c] w fun e w' => e = .returned (.int .i64 (Lib.indexByte s.data.toList c.toNat.toUInt8)) ∧ w' = w := Any.stringslite_IndexByte Try.lays217 s c w
def Try.lays224_ren : Go.Shelf.Ren := ⟨fun | 224 => 47 | n => n, fun | 3 => 3 | n => n, fun | n => n⟩
theorem Try.lays224 : Go.Proofs.Lays.n224 Try.prog Try.lays224_ren := {
  mixed := by kernel_rfl
  f224 := Try.func47.trans (congrArg some (by kernel_rfl))
  t3 := Try.underlying3
  a3 := Try.isAgg3
  z3 := Try.sizeOf3
  v3 := Try.zeroValue3 }
open Go.RowKit Go.Lib in
theorem Try.bytealg_Cutover (n : Int) (h0 : 0 ≤ n) (h1 : n < 4611686018427387904) (w : World) :
    Calls Try.prog 47 #[.int .i64 n] w fun e w' => e = .returned (.int .i64 ((n + 16) / 8)) ∧ w' = w := Any.bytealg_Cutover Try.lays224 n h0 h1 w
def Try.lays314_ren : Go.Shelf.Ren := ⟨fun | 314 => 51 | n => n, fun | 9 => 9 | 51 => 69 | 3 => 3 | 4 => 4 | 5 => 5 | 46 => 60 | n => n, fun | n => n⟩
theorem Try.lays314 : Go.Proofs.Lays.n314 Try.prog Try.lays314_ren := {
  mixed := by kernel_rfl
  f314 := Try.func51.trans (congrArg some (by kernel_rfl))
  t3 := Try.underlying3
  a3 := Try.isAgg3
  z3 := Try.sizeOf3
  v3 := Try.zeroValue3
  t4 := Try.underlying4
  a4 := Try.isAgg4
  z4 := Try.sizeOf4
  v4 := Try.zeroValue4
  t5 := Try.underlying5
  a5 := Try.isAgg5
  z5 := Try.sizeOf5
  v5 := Try.zeroValue5
  t9 := Try.underlying9
  a9 := Try.isAgg9
  z9 := Try.sizeOf9
  v9 := Try.zeroValue9
  t46 := Try.underlying60
  a46 := Try.isAgg60
  z46 := Try.sizeOf60
  v46 := Try.zeroValue60
  t51 := Try.underlying69
  a51 := Try.isAgg69
  z51 := Try.sizeOf69
  v51 := Try.zeroValue69 }
open Go.RowKit Go.Lib in
theorem Try.bytealg_hashStr (sep : ByteArray) (hs : sep.size < 4294967281) (w : World) :
    Calls Try.prog 51 #[.string sep] w fun e w' => e = .returned (.tuple #[.int .u32 (RK.H sep.data.toList % 4294967296), .int .u32 (16777619 ^ sep.size % 4294967296)]) ∧ w' = w := Any.bytealg_hashStr Try.lays314 sep hs w
def Try.lays267_ren : Go.Shelf.Ren := ⟨fun | 267 => 48 | 314 => 51 | n => n, fun | 9 => 9 | 3 => 3 | 146 => 70 | 51 => 69 | 4 => 4 | 5 => 5 | 46 => 60 | n => n, fun | n => n⟩
theorem Try.lays267 : Go.Proofs.Lays.n267 Try.prog Try.lays267_ren := {
  mixed := by kernel_rfl
  f267 := Try.func48.trans (congrArg some (by kernel_rfl))
  f314 := Try.func51.trans (congrArg some (by kernel_rfl))
  t3 := Try.underlying3
  a3 := Try.isAgg3
  z3 := Try.sizeOf3
  v3 := Try.zeroValue3
  t4 := Try.underlying4
  a4 := Try.isAgg4
  z4 := Try.sizeOf4
  v4 := Try.zeroValue4
  t5 := Try.underlying5
  a5 := Try.isAgg5
  z5 := Try.sizeOf5
  v5 := Try.zeroValue5
  t9 := Try.underlying9
  a9 := Try.isAgg9
  z9 := Try.sizeOf9
  v9 := Try.zeroValue9
  t46 := Try.underlying60
  a46 := Try.isAgg60
  z46 := Try.sizeOf60
  v46 := Try.zeroValue60
  t51 := Try.underlying69
  a51 := Try.isAgg69
  z51 := Try.sizeOf69
  v51 := Try.zeroValue69
  t146 := Try.underlying70
  a146 := Try.isAgg70
  z146 := Try.sizeOf70
  v146 := Try.zeroValue70 }
open Go.RowKit Go.Lib in
theorem Try.bytealg_IndexRabinKarp (s sep : ByteArray) (h1 : 1 ≤ sep.size) (h2 : sep.size ≤ s.size) (hs : s.size < 4294967281) (w : World) :
    Calls Try.prog 48 #[.string s, .string sep] w fun e w' => e = .returned (.int .i64 (Lib.index s.data.toList sep.data.toList)) ∧ w' = w := Any.bytealg_IndexRabinKarp Try.lays267 s sep h1 h2 hs w
def Try.lays219_ren : Go.Shelf.Ren := ⟨fun | 219 => 39 | 217 => 40 | 225 => 46 | 224 => 47 | 267 => 48 | 266 => 49 | 314 => 51 | n => n, fun | 9 => 9 | 3 => 3 | 4 => 4 | 5 => 5 | 46 => 60 | 146 => 70 | 51 => 69 | n => n, fun | 1 => 0 | n => n⟩
theorem Try.lays219 : Go.Proofs.Lays.n219 Try.prog Try.lays219_ren := {
  mixed := by kernel_rfl
  f217 := Try.func40.trans (congrArg some (by kernel_rfl))
  f219 := Try.func39.trans (congrArg some (by kernel_rfl))
  f224 := Try.func47.trans (congrArg some (by kernel_rfl))
  f225 := Try.func46.trans (congrArg some (by kernel_rfl))
  f266 := Try.func49.trans (congrArg some (by kernel_rfl))
  f267 := Try.func48.trans (congrArg some (by kernel_rfl))
  f314 := Try.func51.trans (congrArg some (by kernel_rfl))
  t3 := Try.underlying3
  a3 := Try.isAgg3
  z3 := Try.sizeOf3
  v3 := Try.zeroValue3
  t4 := Try.underlying4
  a4 := Try.isAgg4
  z4 := Try.sizeOf4
  v4 := Try.zeroValue4
  t5 := Try.underlying5
  a5 := Try.isAgg5
  z5 := Try.sizeOf5
  v5 := Try.zeroValue5
  t9 := Try.underlying9
  a9 := Try.isAgg9
  z9 := Try.sizeOf9
  v9 := Try.zeroValue9
  t46 := Try.underlying60
  a46 := Try.isAgg60
  z46 := Try.sizeOf60
  v46 := Try.zeroValue60
  t51 := Try.underlying69
  a51 := Try.isAgg69
  z51 := Try.sizeOf69
  v51 := Try.zeroValue69
  t146 := Try.underlying70
  a146 := Try.isAgg70
  z146 := Try.sizeOf70
  v146 := Try.zeroValue70
  g1 := by kernel_rfl }
open Go.RowKit Go.Lib in
theorem Try.stringslite_Index_one (s : ByteArray) (c : UInt8) (w : World) :
    Calls Try.prog 39 #[.string s, .string ⟨#[c]⟩] w fun e w' => e = .returned (.int .i64 (Lib.indexByte s.data.toList c)) ∧ w' = w := Any.stringslite_Index_one Try.lays219 s c w
open Go.RowKit Go.Lib in
theorem Try.stringslite_Index (s sub : ByteArray) (m : Int) (w : World) (hs : s.size < 4294967281) (hm : w.cell? ⟨0, 0, none⟩ = some (.int .i64 m)) :
    Calls Try.prog 39 #[.string s, .string sub] w fun e w' => e = .returned (.int .i64 (Lib.index s.data.toList sub.data.toList)) ∧ w' = w := Any.stringslite_Index Try.lays219 s sub m w hs hm
def Try.lays143_ren : Go.Shelf.Ren := ⟨fun | 143 => 31 | 219 => 39 | 217 => 40 | 225 => 46 | 224 => 47 | 267 => 48 | 266 => 49 | 314 => 51 | n => n, fun | 9 => 9 | 3 => 3 | 4 => 4 | 5 => 5 | 46 => 60 | 146 => 70 | 51 => 69 | n => n, fun | 1 => 0 | n => n⟩
theorem Try.lays143 : Go.Proofs.Lays.n143 Try.prog Try.lays143_ren := {
  mixed := by kernel_rfl
  f143 := Try.func31.trans (congrArg some (by kernel_rfl))
  f217 := Try.func40.trans (congrArg some (by kernel_rfl))
  f219 := Try.func39.trans (congrArg some (by kernel_rfl))
  f224 := Try.func47.trans (congrArg some (by kernel_rfl))
  f225 := Try.func46.trans (congrArg some (by kernel_rfl))
  f266 := Try.func49.trans (congrArg some (by kernel_rfl))
  f267 := Try.func48.trans (congrArg some (by kernel_rfl))
  f314 := Try.func51.trans (congrArg some (by kernel_rfl))
  t3 := Try.underlying3
  a3 := Try.isAgg3
  z3 := Try.sizeOf3
  v3 := Try.zeroValue3
  t4 := Try.underlying4
  a4 := Try.isAgg4
  z4 := Try.sizeOf4
  v4 := Try.zeroValue4
  t5 := Try.underlying5
  a5 := Try.isAgg5
  z5 := Try.sizeOf5
  v5 := Try.zeroValue5
  t9 := Try.underlying9
  a9 := Try.isAgg9
  z9 := Try.sizeOf9
  v9 := Try.zeroValue9
  t46 := Try.underlying60
  a46 := Try.isAgg60
  z46 := Try.sizeOf60
  v46 := Try.zeroValue60
  t51 := Try.underlying69
  a51 := Try.isAgg69
  z51 := Try.sizeOf69
  v51 := Try.zeroValue69
  t146 := Try.underlying70
  a146 := Try.isAgg70
  z146 := Try.sizeOf70
  v146 := Try.zeroValue70
  g1 := by kernel_rfl }
open Go.RowKit Go.Lib in
theorem Try.strings_Index_one (s : ByteArray) (c : UInt8) (w : World) :
    Calls Try.prog 31 #[.string s, .string ⟨#[c]⟩] w fun e w' => e = .returned (.int .i64 (Lib.indexByte s.data.toList c)) ∧ w' = w := Any.strings_Index_one Try.lays143 s c w
open Go.RowKit Go.Lib in
theorem Try.strings_Index (s sub : ByteArray) (m : Int) (w : World) (hs : s.size < 4294967281) (hm : w.cell? ⟨0, 0, none⟩ = some (.int .i64 m)) :
    Calls Try.prog 31 #[.string s, .string sub] w fun e w' => e = .returned (.int .i64 (Lib.index s.data.toList sub.data.toList)) ∧ w' = w := Any.strings_Index Try.lays143 s sub m w hs hm
def Try.lays138_ren : Go.Shelf.Ren := ⟨fun | 138 => 19 | 195 => 29 | 218 => 30 | 143 => 31 | 219 => 39 | 217 => 40 | 225 => 46 | 224 => 47 | 267 => 48 | 266 => 49 | 314 => 51 | n => n, fun | 9 => 9 | 3 => 3 | 4 => 4 | 5 => 5 | 0 => 0 | 46 => 60 | 146 => 70 | 51 => 69 | n => n, fun | 1 => 0 | n => n⟩
theorem Try.lays138 : Go.Proofs.Lays.n138 Try.prog Try.lays138_ren := {
  mixed := by kernel_rfl
  f138 := Try.func19.trans (congrArg some (by kernel_rfl))
  f143 := Try.func31.trans (congrArg some (by kernel_rfl))
  f195 := Try.func29.trans (congrArg some (by kernel_rfl))
  f217 := Try.func40.trans (congrArg some (by kernel_rfl))
  f218 := Try.func30.trans (congrArg some (by kernel_rfl))
  f219 := Try.func39.trans (congrArg some (by kernel_rfl))
  f224 := Try.func47.trans (congrArg some (by kernel_rfl))
  f225 := Try.func46.trans (congrArg some (by kernel_rfl))
  f266 := Try.func49.trans (congrArg some (by kernel_rfl))
  f267 := Try.func48.trans (congrArg some (by kernel_rfl))
  f314 := Try.func51.trans (congrArg some (by kernel_rfl))
  t0 := Try.underlying0
  a0 := Try.isAgg0
  z0 := Try.sizeOf0
  v0 := Try.zeroValue0
  t3 := Try.underlying3
  a3 := Try.isAgg3
  z3 := Try.sizeOf3
  v3 := Try.zeroValue3
  t4 := Try.underlying4
  a4 := Try.isAgg4
  z4 := Try.sizeOf4
  v4 := Try.zeroValue4
  t5 := Try.underlying5
  a5 := Try.isAgg5
  z5 := Try.sizeOf5
  v5 := Try.zeroValue5
  t9 := Try.underlying9
  a9 := Try.isAgg9
  z9 := Try.sizeOf9
  v9 := Try.zeroValue9
  t46 := Try.underlying60
  a46 := Try.isAgg60
  z46 := Try.sizeOf60
  v46 := Try.zeroValue60
  t51 := Try.underlying69
  a51 := Try.isAgg69
  z51 := Try.sizeOf69
  v51 := Try.zeroValue69
  t146 := Try.underlying70
  a146 := Try.isAgg70
  z146 := Try.sizeOf70
  v146 := Try.zeroValue70
  g1 := by kernel_rfl }
open Go.RowKit Go.Lib in
theorem Try.strings_Count_one (s : ByteArray) (c : UInt8) (w : World) :
    Calls Try.prog 19 #[.string s, .string ⟨#[c]⟩] w fun e w' => e = .returned (.int .i64 (Lib.countByte s.data.toList c)) ∧ w' = w := Any.strings_Count_one Try.lays138 s c w
open Go.RowKit Go.Lib in
theorem Try.strings_Count (s sub : ByteArray) (m : Int) (w : World) (hs : s.size < 4294967281) (hm : w.cell? ⟨0, 0, none⟩ = some (.int .i64 m)) (h2 : 2 ≤ sub.size) :
    Calls Try.prog 19 #[.string s, .string sub] w fun e w' => e = .returned (.int .i64 (Lib.countB s sub)) ∧ w' = w := Any.strings_Count Try.lays138 s sub m w hs hm h2
def Try.laysM219_ren : Go.Shelf.Ren := ⟨fun | 219 => 39 | 217 => 40 | 225 => 46 | 224 => 47 | 267 => 48 | 266 => 49 | 314 => 51 | n => n, fun | 9 => 9 | 3 => 3 | 4 => 4 | 5 => 5 | 46 => 60 | 146 => 70 | 51 => 69 | n => n, fun | 1 => 0 | n => n⟩
theorem Try.laysM219 : Go.Proofs.LaysM.n219 Try.prog Try.laysM219_ren := {
  mixed := by kernel_rfl
  f217 := Try.func40.trans (congrArg some (by kernel_rfl))
  f219 := Try.func39.trans (congrArg some (by kernel_rfl))
  f224 := Try.func47.trans (congrArg some (by kernel_rfl))
  f225 := Try.func46.trans (congrArg some (by kernel_rfl))
  f266 := Try.func49.trans (congrArg some (by kernel_rfl))
  f267 := Try.func48.trans (congrArg some (by kernel_rfl))
  f314 := Try.func51.trans (congrArg some (by kernel_rfl))
  t3 := Try.underlying3
  a3 := Try.isAgg3
  z3 := Try.sizeOf3
  v3 := Try.zeroValue3
  t4 := Try.underlying4
  a4 := Try.isAgg4
  z4 := Try.sizeOf4
  v4 := Try.zeroValue4
  t5 := Try.underlying5
  a5 := Try.isAgg5
  z5 := Try.sizeOf5
  v5 := Try.zeroValue5
  t9 := Try.underlying9
  a9 := Try.isAgg9
  z9 := Try.sizeOf9
  v9 := Try.zeroValue9
  t46 := Try.underlying60
  a46 := Try.isAgg60
  z46 := Try.sizeOf60
  v46 := Try.zeroValue60
  t51 := Try.underlying69
  a51 := Try.isAgg69
  z51 := Try.sizeOf69
  v51 := Try.zeroValue69
  t146 := Try.underlying70
  a146 := Try.isAgg70
  z146 := Try.sizeOf70
  v146 := Try.zeroValue70
  g1 := by kernel_rfl
  i3 := by kernel_rfl
  i4 := by kernel_rfl
  i5 := by kernel_rfl
  i9 := by kernel_rfl
  i46 := by kernel_rfl
  i51 := by kernel_rfl
  i146 := by kernel_rfl
  m1 := by kernel_rfl
  s1_3 := fun w h => Go.Proofs.cell_of_shapedOpen_int (zero := #[.int .i64 0]) (t := 3) h (of_decide_eq_true (by kernel_rfl)) (by kernel_rfl) rfl (by kernel_rfl) (by kernel_rfl) Try.underlying3 }
open Go.RowKit Go.Lib in
theorem Try.stringslite_Index_shaped (s sub : ByteArray) (w : World) (h : w.ShapedOpen Try.prog) (hs : s.size < 4294967281) :
    Calls Try.prog 39 #[.string s, .string sub] w fun e w' => e = .returned (.int .i64 (Lib.index s.data.toList sub.data.toList)) ∧ w' = w := Any.stringslite_Index_shaped Try.laysM219 s sub w h hs
def Try.laysM143_ren : Go.Shelf.Ren := ⟨fun | 143 => 31 | 219 => 39 | 217 => 40 | 225 => 46 | 224 => 47 | 267 => 48 | 266 => 49 | 314 => 51 | n => n, fun | 9 => 9 | 3 => 3 | 4 => 4 | 5 => 5 | 46 => 60 | 146 => 70 | 51 => 69 | n => n, fun | 1 => 0 | n => n⟩
theorem Try.laysM143 : Go.Proofs.LaysM.n143 Try.prog Try.laysM143_ren := {
  mixed := by kernel_rfl
  f143 := Try.func31.trans (congrArg some (by kernel_rfl))
  f217 := Try.func40.trans (congrArg some (by kernel_rfl))
  f219 := Try.func39.trans (congrArg some (by kernel_rfl))
  f224 := Try.func47.trans (congrArg some (by kernel_rfl))
  f225 := Try.func46.trans (congrArg some (by kernel_rfl))
  f266 := Try.func49.trans (congrArg some (by kernel_rfl))
  f267 := Try.func48.trans (congrArg some (by kernel_rfl))
  f314 := Try.func51.trans (congrArg some (by kernel_rfl))
  t3 := Try.underlying3
  a3 := Try.isAgg3
  z3 := Try.sizeOf3
  v3 := Try.zeroValue3
  t4 := Try.underlying4
  a4 := Try.isAgg4
  z4 := Try.sizeOf4
  v4 := Try.zeroValue4
  t5 := Try.underlying5
  a5 := Try.isAgg5
  z5 := Try.sizeOf5
  v5 := Try.zeroValue5
  t9 := Try.underlying9
  a9 := Try.isAgg9
  z9 := Try.sizeOf9
  v9 := Try.zeroValue9
  t46 := Try.underlying60
  a46 := Try.isAgg60
  z46 := Try.sizeOf60
  v46 := Try.zeroValue60
  t51 := Try.underlying69
  a51 := Try.isAgg69
  z51 := Try.sizeOf69
  v51 := Try.zeroValue69
  t146 := Try.underlying70
  a146 := Try.isAgg70
  z146 := Try.sizeOf70
  v146 := Try.zeroValue70
  g1 := by kernel_rfl
  i3 := by kernel_rfl
  i4 := by kernel_rfl
  i5 := by kernel_rfl
  i9 := by kernel_rfl
  i46 := by kernel_rfl
  i51 := by kernel_rfl
  i146 := by kernel_rfl
  m1 := by kernel_rfl
  s1_3 := fun w h => Go.Proofs.cell_of_shapedOpen_int (zero := #[.int .i64 0]) (t := 3) h (of_decide_eq_true (by kernel_rfl)) (by kernel_rfl) rfl (by kernel_rfl) (by kernel_rfl) Try.underlying3 }
open Go.RowKit Go.Lib in
theorem Try.strings_Index_shaped (s sub : ByteArray) (w : World) (h : w.ShapedOpen Try.prog) (hs : s.size < 4294967281) :
    Calls Try.prog 31 #[.string s, .string sub] w fun e w' => e = .returned (.int .i64 (Lib.index s.data.toList sub.data.toList)) ∧ w' = w := Any.strings_Index_shaped Try.laysM143 s sub w h hs
def Try.laysM138_ren : Go.Shelf.Ren := ⟨fun | 138 => 19 | 195 => 29 | 218 => 30 | 143 => 31 | 219 => 39 | 217 => 40 | 225 => 46 | 224 => 47 | 267 => 48 | 266 => 49 | 314 => 51 | n => n, fun | 9 => 9 | 3 => 3 | 4 => 4 | 5 => 5 | 0 => 0 | 46 => 60 | 146 => 70 | 51 => 69 | n => n, fun | 1 => 0 | n => n⟩
theorem Try.laysM138 : Go.Proofs.LaysM.n138 Try.prog Try.laysM138_ren := {
  mixed := by kernel_rfl
  f138 := Try.func19.trans (congrArg some (by kernel_rfl))
  f143 := Try.func31.trans (congrArg some (by kernel_rfl))
  f195 := Try.func29.trans (congrArg some (by kernel_rfl))
  f217 := Try.func40.trans (congrArg some (by kernel_rfl))
  f218 := Try.func30.trans (congrArg some (by kernel_rfl))
  f219 := Try.func39.trans (congrArg some (by kernel_rfl))
  f224 := Try.func47.trans (congrArg some (by kernel_rfl))
  f225 := Try.func46.trans (congrArg some (by kernel_rfl))
  f266 := Try.func49.trans (congrArg some (by kernel_rfl))
  f267 := Try.func48.trans (congrArg some (by kernel_rfl))
  f314 := Try.func51.trans (congrArg some (by kernel_rfl))
  t0 := Try.underlying0
  a0 := Try.isAgg0
  z0 := Try.sizeOf0
  v0 := Try.zeroValue0
  t3 := Try.underlying3
  a3 := Try.isAgg3
  z3 := Try.sizeOf3
  v3 := Try.zeroValue3
  t4 := Try.underlying4
  a4 := Try.isAgg4
  z4 := Try.sizeOf4
  v4 := Try.zeroValue4
  t5 := Try.underlying5
  a5 := Try.isAgg5
  z5 := Try.sizeOf5
  v5 := Try.zeroValue5
  t9 := Try.underlying9
  a9 := Try.isAgg9
  z9 := Try.sizeOf9
  v9 := Try.zeroValue9
  t46 := Try.underlying60
  a46 := Try.isAgg60
  z46 := Try.sizeOf60
  v46 := Try.zeroValue60
  t51 := Try.underlying69
  a51 := Try.isAgg69
  z51 := Try.sizeOf69
  v51 := Try.zeroValue69
  t146 := Try.underlying70
  a146 := Try.isAgg70
  z146 := Try.sizeOf70
  v146 := Try.zeroValue70
  g1 := by kernel_rfl
  i0 := by kernel_rfl
  i3 := by kernel_rfl
  i4 := by kernel_rfl
  i5 := by kernel_rfl
  i9 := by kernel_rfl
  i46 := by kernel_rfl
  i51 := by kernel_rfl
  i146 := by kernel_rfl
  m1 := by kernel_rfl
  s1_3 := fun w h => Go.Proofs.cell_of_shapedOpen_int (zero := #[.int .i64 0]) (t := 3) h (of_decide_eq_true (by kernel_rfl)) (by kernel_rfl) rfl (by kernel_rfl) (by kernel_rfl) Try.underlying3 }
open Go.RowKit Go.Lib in
theorem Try.strings_Count_shaped (s sub : ByteArray) (w : World) (h : w.ShapedOpen Try.prog) (hs : s.size < 4294967281) (h2 : 2 ≤ sub.size) :
    Calls Try.prog 19 #[.string s, .string sub] w fun e w' => e = .returned (.int .i64 (Lib.countB s sub)) ∧ w' = w := Any.strings_Count_shaped Try.laysM138 s sub w h hs h2
def Try.lays222_ren : Go.Shelf.Ren := ⟨fun | 222 => 32 | n => n, fun | 9 => 9 | 5 => 5 | 3 => 3 | 4 => 4 | n => n, fun | n => n⟩
theorem Try.lays222 : Go.Proofs.Lays.n222 Try.prog Try.lays222_ren := {
  mixed := by kernel_rfl
  f222 := Try.func32.trans (congrArg some (by kernel_rfl))
  t3 := Try.underlying3
  a3 := Try.isAgg3
  z3 := Try.sizeOf3
  v3 := Try.zeroValue3
  t4 := Try.underlying4
  a4 := Try.isAgg4
  z4 := Try.sizeOf4
  v4 := Try.zeroValue4
  t5 := Try.underlying5
  a5 := Try.isAgg5
  z5 := Try.sizeOf5
  v5 := Try.zeroValue5
  t9 := Try.underlying9
  a9 := Try.isAgg9
  z9 := Try.sizeOf9
  v9 := Try.zeroValue9 }
open Go.RowKit Go.Lib in
theorem Try.bytealg_LastIndexByteString_nm (s : ByteArray) (c : Int) (hs : s.size < 4611686018427387904) (w : World) :
    Calls Try.prog 32 #[.string s, .int .u8 c] w fun e w' => e = .returned (.int .i64 (Lib.lastIndexByte s c)) ∧ w' = w := Any.bytealg_LastIndexByteString_nm Try.lays222 s c hs w
def Try.lays149_ren : Go.Shelf.Ren := ⟨fun | 149 => 20 | 222 => 32 | n => n, fun | 9 => 9 | 5 => 5 | 3 => 3 | 4 => 4 | n => n, fun | n => n⟩
theorem Try.lays149 : Go.Proofs.Lays.n149 Try.prog Try.lays149_ren := {
  mixed := by kernel_rfl
  f149 := Try.func20.trans (congrArg some (by kernel_rfl))
  f222 := Try.func32.trans (congrArg some (by kernel_rfl))
  t3 := Try.underlying3
  a3 := Try.isAgg3
  z3 := Try.sizeOf3
  v3 := Try.zeroValue3
  t4 := Try.underlying4
  a4 := Try.isAgg4
  z4 := Try.sizeOf4
  v4 := Try.zeroValue4
  t5 := Try.underlying5
  a5 := Try.isAgg5
  z5 := Try.sizeOf5
  v5 := Try.zeroValue5
  t9 := Try.underlying9
  a9 := Try.isAgg9
  z9 := Try.sizeOf9
  v9 := Try.zeroValue9 }
open Go.RowKit Go.Lib in
theorem Try.strings_LastIndexByte (s : ByteArray) (c : Int) (hs : s.size < 4611686018427387904) (w : World) :
    Calls Try.prog 20 #[.string s, .int .u8 c] w fun e w' => e = .returned (.int .i64 (Lib.lastIndexByte s c)) ∧ w' = w := Any.strings_LastIndexByte Try.lays149 s c hs w
def Try.lays206_ren : Go.Shelf.Ren := ⟨fun | 206 => 44 | n => n, fun | 9 => 9 | 4 => 4 | 3 => 3 | n => n, fun | n => n⟩
theorem Try.lays206 : Go.Proofs.Lays.n206 Try.prog Try.lays206_ren := {
  mixed := by kernel_rfl
  f206 := Try.func44.trans (congrArg some (by kernel_rfl))
  t3 := Try.underlying3
  a3 := Try.isAgg3
  z3 := Try.sizeOf3
  v3 := Try.zeroValue3
  t4 := Try.underlying4
  a4 := Try.isAgg4
  z4 := Try.sizeOf4
  v4 := Try.zeroValue4
  t9 := Try.underlying9
  a9 := Try.isAgg9
  z9 := Try.sizeOf9
  v9 := Try.zeroValue9 }
open Go.RowKit Go.Lib in
theorem Try.stringslite_HasPrefix (s p : ByteArray) (w : World) :
    Calls Try.prog 44 #[.string s, .string p] w fun e w' => e = .returned (.bool (Lib.hasPrefix s.data.toList p.data.toList)) ∧ w' = w := Any.stringslite_HasPrefix Try.lays206 s p w
def Try.lays99_ren : Go.Shelf.Ren := ⟨fun | 99 => 36 | 206 => 44 | n => n, fun | 9 => 9 | 4 => 4 | 3 => 3 | n => n, fun | n => n⟩
theorem Try.lays99 : Go.Proofs.Lays.n99 Try.prog Try.lays99_ren := {
  mixed := by kernel_rfl
  f99 := Try.func36.trans (congrArg some (by kernel_rfl))
  f206 := Try.func44.trans (congrArg some (by kernel_rfl))
  t3 := Try.underlying3
  a3 := Try.isAgg3
  z3 := Try.sizeOf3
  v3 := Try.zeroValue3
  t4 := Try.underlying4
  a4 := Try.isAgg4
  z4 := Try.sizeOf4
  v4 := Try.zeroValue4
  t9 := Try.underlying9
  a9 := Try.isAgg9
  z9 := Try.sizeOf9
  v9 := Try.zeroValue9 }
open Go.RowKit Go.Lib in
theorem Try.strings_HasPrefix (s p : ByteArray) (w : World) :
    Calls Try.prog 36 #[.string s, .string p] w fun e w' => e = .returned (.bool (Lib.hasPrefix s.data.toList p.data.toList)) ∧ w' = w := Any.strings_HasPrefix Try.lays99 s p w
def Try.lays264_ren : Go.Shelf.Ren := ⟨fun | 264 => 43 | n => n, fun | 53 => 72 | 46 => 60 | n => n, fun | n => n⟩
theorem Try.lays264 : Go.Proofs.Lays.n264 Try.prog Try.lays264_ren := {
  mixed := by kernel_rfl
  f264 := Try.func43.trans (congrArg some (by kernel_rfl))
  t46 := Try.underlying60
  a46 := Try.isAgg60
  z46 := Try.sizeOf60
  v46 := Try.zeroValue60
  t53 := Try.underlying72
  a53 := Try.isAgg72
  z53 := Try.sizeOf72
  v53 := Try.zeroValue72 }
open Go.RowKit Go.Lib in
theorem Try.bits_Mul64 (x y : Nat) (hx : x < 18446744073709551616) (hy : y < 18446744073709551616) (w : World) :
    Calls Try.prog 43 #[.int .u64 x, .int .u64 y] w fun e w' => e = .returned (.tuple #[.int .u64 ((x * y / 18446744073709551616 : Nat) : Int), .int .u64 ((x * y % 18446744073709551616 : Nat) : Int)]) ∧ w' = w := Any.bits_Mul64 Try.lays264 x y hx hy w
def Try.lays212_ren : Go.Shelf.Ren := ⟨fun | 212 => 35 | 263 => 42 | 264 => 43 | n => n, fun | 46 => 60 | 51 => 69 | 146 => 70 | 53 => 72 | 148 => 73 | n => n, fun | n => n⟩
theorem Try.lays212 : Go.Proofs.Lays.n212 Try.prog Try.lays212_ren := {
  mixed := by kernel_rfl
  f212 := Try.func35.trans (congrArg some (by kernel_rfl))
  f263 := Try.func42.trans (congrArg some (by kernel_rfl))
  f264 := Try.func43.trans (congrArg some (by kernel_rfl))
  t46 := Try.underlying60
  a46 := Try.isAgg60
  z46 := Try.sizeOf60
  v46 := Try.zeroValue60
  t51 := Try.underlying69
  a51 := Try.isAgg69
  z51 := Try.sizeOf69
  v51 := Try.zeroValue69
  t53 := Try.underlying72
  a53 := Try.isAgg72
  z53 := Try.sizeOf72
  v53 := Try.zeroValue72
  t146 := Try.underlying70
  a146 := Try.isAgg70
  z146 := Try.sizeOf70
  v146 := Try.zeroValue70
  t148 := Try.underlying73
  a148 := Try.isAgg73
  z148 := Try.sizeOf73
  v148 := Try.zeroValue73 }
open Go.RowKit Go.Lib in
theorem Try.bits_Mul (x y : Nat) (hx : x < 18446744073709551616) (hy : y < 18446744073709551616) (w : World) :
    Calls Try.prog 35 #[.int .u64 x, .int .u64 y] w fun e w' => e = .returned (.tuple #[.int .u64 ((x * y / 18446744073709551616 : Nat) : Int), .int .u64 ((x * y % 18446744073709551616 : Nat) : Int)]) ∧ w' = w := Any.bits_Mul Try.lays212 x y hx hy w
def Try.lays105_ren : Go.Shelf.Ren := ⟨fun | 105 => 25 | 212 => 35 | 99 => 36 | 165 => 37 | 166 => 23 | 170 => 38 | 169 => 26 | 263 => 42 | 264 => 43 | 206 => 44 | 240 => 34 | 241 => 45 | 276 => 41 | 277 => 50 | n => n, fun | 9 => 9 | 3 => 3 | 4 => 4 | 20 => 20 | 0 => 0 | 46 => 60 | 109 => 61 | 5 => 5 | 72 => 51 | 76 => 54 | 51 => 69 | 146 => 70 | 53 => 72 | 148 => 73 | 70 => 48 | 37 => 49 | 75 => 53 | 127 => 66 | 164 => 67 | 80 => 58 | n => n, fun | n => n⟩
theorem Try.lays105 : Go.Proofs.Lays.n105 Try.prog Try.lays105_ren := {
  mixed := by kernel_rfl
  f99 := Try.func36.trans (congrArg some (by kernel_rfl))
  f105 := Try.func25.trans (congrArg some (by kernel_rfl))
  f165 := Try.func37.trans (congrArg some (by kernel_rfl))
  f166 := Try.func23.trans (congrArg some (by kernel_rfl))
  f169 := Try.func26.trans (congrArg some (by kernel_rfl))
  f170 := Try.func38.trans (congrArg some (by kernel_rfl))
  f206 := Try.func44.trans (congrArg some (by kernel_rfl))
  f212 := Try.func35.trans (congrArg some (by kernel_rfl))
  f240 := Try.func34.trans (congrArg some (by kernel_rfl))
  f241 := Try.func45.trans (congrArg some (by kernel_rfl))
  f263 := Try.func42.trans (congrArg some (by kernel_rfl))
  f264 := Try.func43.trans (congrArg some (by kernel_rfl))
  f276 := Try.func41.trans (congrArg some (by kernel_rfl))
  f277 := Try.func50.trans (congrArg some (by kernel_rfl))
  t0 := Try.underlying0
  a0 := Try.isAgg0
  z0 := Try.sizeOf0
  v0 := Try.zeroValue0
  t3 := Try.underlying3
  a3 := Try.isAgg3
  z3 := Try.sizeOf3
  v3 := Try.zeroValue3
  t4 := Try.underlying4
  a4 := Try.isAgg4
  z4 := Try.sizeOf4
  v4 := Try.zeroValue4
  t5 := Try.underlying5
  a5 := Try.isAgg5
  z5 := Try.sizeOf5
  v5 := Try.zeroValue5
  t9 := Try.underlying9
  a9 := Try.isAgg9
  z9 := Try.sizeOf9
  v9 := Try.zeroValue9
  t20 := Try.underlying20
  a20 := Try.isAgg20
  z20 := Try.sizeOf20
  v20 := Try.zeroValue20
  t37 := Try.underlying49
  a37 := Try.isAgg49
  z37 := Try.sizeOf49
  v37 := Try.zeroValue49
  t46 := Try.underlying60
  a46 := Try.isAgg60
  z46 := Try.sizeOf60
  v46 := Try.zeroValue60
  t51 := Try.underlying69
  a51 := Try.isAgg69
  z51 := Try.sizeOf69
  v51 := Try.zeroValue69
  t53 := Try.underlying72
  a53 := Try.isAgg72
  z53 := Try.sizeOf72
  v53 := Try.zeroValue72
  t70 := Try.underlying48
  a70 := Try.isAgg48
  z70 := Try.sizeOf48
  v70 := Try.zeroValue48
  t72 := Try.underlying51
  a72 := Try.isAgg51
  z72 := Try.sizeOf51
  v72 := Try.zeroValue51
  t75 := Try.underlying53
  a75 := Try.isAgg53
  z75 := Try.sizeOf53
  v75 := Try.zeroValue53
  t76 := Try.underlying54
  a76 := Try.isAgg54
  z76 := Try.sizeOf54
  v76 := Try.zeroValue54
  t109 := Try.underlying61
  a109 := Try.isAgg61
  z109 := Try.sizeOf61
  v109 := Try.zeroValue61
  t127 := Try.underlying66
  a127 := Try.isAgg66
  z127 := Try.sizeOf66
  v127 := Try.zeroValue66
  t146 := Try.underlying70
  a146 := Try.isAgg70
  z146 := Try.sizeOf70
  v146 := Try.zeroValue70
  t148 := Try.underlying73
  a148 := Try.isAgg73
  z148 := Try.sizeOf73
  v148 := Try.zeroValue73
  t164 := Try.underlying67
  a164 := Try.isAgg67
  z164 := Try.sizeOf67
  v164 := Try.zeroValue67 }
theorem Try.Builder_Extra_105 : Builder.Extra Try.prog Try.lays105_ren := {
  sizeBuilder := by kernel_rfl
  liesBuilder := by kernel_rfl
  t5 := Try.underlying5
  a5 := Try.isAgg5
  z5 := Try.sizeOf5
  v5 := Try.zeroValue5
  infoByte := by kernel_rfl
  cellsByte := by kernel_rfl
  sizeByte := by kernel_rfl
  neB5 := by decide }
open Go.RowKit Go.Lib in
theorem Try.strings_Repeat_main (s : ByteArray) (c : Nat) (w : World) (hc2 : 2 ≤ c) (hc : c ≤ 9223372036854775807) (hlen : s.size * c ≤ 140737488355328) (h0 : 0 < s.size) :
    Calls Try.prog 25 #[.string s, .int .i64 c] w fun e w' => e = .returned (.string ⟨(Lib.repeatL s.data.toList c).toArray⟩) ∧ Below w.heap.size w w' := Any.strings_Repeat_main Try.lays105 Try.Builder_Extra_105 s c w hc2 hc hlen h0
open Go.RowKit Go.Lib in
theorem Try.strings_Repeat_zero (s : ByteArray) (w : World) :
    Calls Try.prog 25 #[.string s, .int .i64 0] w fun e w' => e = .returned (.string ⟨#[]⟩) ∧ w' = w := Any.strings_Repeat_zero Try.lays105 s w
open Go.RowKit Go.Lib in
theorem Try.strings_Repeat_one (s : ByteArray) (w : World) :
    Calls Try.prog 25 #[.string s, .int .i64 1] w fun e w' => e = .returned (.string s) ∧ w' = w := Any.strings_Repeat_one Try.lays105 s w
open Go.RowKit Go.Lib in
theorem Try.strings_Repeat_empty (s : ByteArray) (c : Nat) (w : World) (hc2 : 2 ≤ c) (hc : c ≤ 9223372036854775807) (h0 : s.size = 0) :
    Calls Try.prog 25 #[.string s, .int .i64 c] w fun e w' => e = .returned (.string ⟨#[]⟩) ∧ w' = w := Any.strings_Repeat_empty Try.lays105 s c w hc2 hc h0
open Go.RowKit Go.Lib in
theorem Try.strings_Repeat_negative (s : ByteArray) (c : Int) (w : World) (hc : c < 0) :
    Calls Try.prog 25 #[.string s, .int .i64 c] w fun e w' => e = .panicked [{ v := repeatPanic Try.lays105_ren "strings: negative Repeat count", recovered := false }] ∧ w' = w := Any.strings_Repeat_negative Try.lays105 s c w hc
open Go.RowKit Go.Lib in
theorem Try.strings_Repeat_overflow (s : ByteArray) (c : Nat) (w : World) (hc : c ≤ 9223372036854775807) (hs : s.size ≤ 9223372036854775807) (hbig : 9223372036854775807 < s.size * c) :
    Calls Try.prog 25 #[.string s, .int .i64 c] w fun e w' => e = .panicked [{ v := repeatPanic Try.lays105_ren "strings: Repeat output length overflow", recovered := false }] ∧ w' = w := Any.strings_Repeat_overflow Try.lays105 s c w hc hs hbig
open Go.RowKit Go.Lib in
theorem Try.strings_Repeat (s : ByteArray) (c : Nat) (w : World) (hc : c ≤ 9223372036854775807) (hlen : s.size * c ≤ 140737488355328) :
    Calls Try.prog 25 #[.string s, .int .i64 c] w fun e w' => e = .returned (.string ⟨(Lib.repeatL s.data.toList c).toArray⟩) ∧ Below w.heap.size w w' := Any.strings_Repeat Try.lays105 Try.Builder_Extra_105 s c w hc hlen
end Go.Proofs


set_option linter.unusedVariables false
set_option maxRecDepth 100000
namespace Go.Proofs.Ytlplpkbhjddmeaa
open Go Th Go.Proofs
def layr166 : Go.Shelf.Ren := ⟨fun | 166 => 23 | 240 => 34 | 276 => 41 | n => n, fun | 0 => 0 | 3 => 3 | 4 => 4 | 5 => 5 | 9 => 9 | 20 => 20 | 37 => 49 | 70 => 48 | 72 => 51 | 75 => 53 | 80 => 58 | 164 => 67 | n => n, fun | n => n⟩
theorem layb166 : Go.Proofs.Lays.n166 Try.prog layr166 := {
  mixed := by kernel_rfl
  f166 := Try.func23.trans (congrArg some (by kernel_rfl))
  f240 := Try.func34.trans (congrArg some (by kernel_rfl))
  f276 := Try.func41.trans (congrArg some (by kernel_rfl))
  t0 := Try.underlying0
  a0 := Try.isAgg0
  z0 := Try.sizeOf0
  v0 := Try.zeroValue0
  t3 := Try.underlying3
  a3 := Try.isAgg3
  z3 := Try.sizeOf3
  v3 := Try.zeroValue3
  t4 := Try.underlying4
  a4 := Try.isAgg4
  z4 := Try.sizeOf4
  v4 := Try.zeroValue4
  t9 := Try.underlying9
  a9 := Try.isAgg9
  z9 := Try.sizeOf9
  v9 := Try.zeroValue9
  t20 := Try.underlying20
  a20 := Try.isAgg20
  z20 := Try.sizeOf20
  v20 := Try.zeroValue20
  t37 := Try.underlying49
  a37 := Try.isAgg49
  z37 := Try.sizeOf49
  v37 := Try.zeroValue49
  t70 := Try.underlying48
  a70 := Try.isAgg48
  z70 := Try.sizeOf48
  v70 := Try.zeroValue48
  t72 := Try.underlying51
  a72 := Try.isAgg51
  z72 := Try.sizeOf51
  v72 := Try.zeroValue51
  t75 := Try.underlying53
  a75 := Try.isAgg53
  z75 := Try.sizeOf53
  v75 := Try.zeroValue53
  t164 := Try.underlying67
  a164 := Try.isAgg67
  z164 := Try.sizeOf67
  v164 := Try.zeroValue67 }
theorem layx166 : Builder.Extra Try.prog layr166 := {
  sizeBuilder := by kernel_rfl
  liesBuilder := by kernel_rfl
  t5 := Try.underlying5
  a5 := Try.isAgg5
  z5 := Try.sizeOf5
  v5 := Try.zeroValue5
  infoByte := by kernel_rfl
  cellsByte := by kernel_rfl
  sizeByte := by kernel_rfl
  neB5 := by decide }
def layr167 : Go.Shelf.Ren := ⟨fun | 167 => 24 | 240 => 34 | 276 => 41 | n => n, fun | 0 => 0 | 3 => 3 | 4 => 4 | 5 => 5 | 9 => 9 | 20 => 20 | 37 => 49 | 70 => 48 | 72 => 51 | 75 => 53 | 80 => 58 | 164 => 67 | n => n, fun | n => n⟩
theorem layb167 : Go.Proofs.Lays.n167 Try.prog layr167 := {
  mixed := by kernel_rfl
  f167 := Try.func24.trans (congrArg some (by kernel_rfl))
  f240 := Try.func34.trans (congrArg some (by kernel_rfl))
  f276 := Try.func41.trans (congrArg some (by kernel_rfl))
  t0 := Try.underlying0
  a0 := Try.isAgg0
  z0 := Try.sizeOf0
  v0 := Try.zeroValue0
  t4 := Try.underlying4
  a4 := Try.isAgg4
  z4 := Try.sizeOf4
  v4 := Try.zeroValue4
  t5 := Try.underlying5
  a5 := Try.isAgg5
  z5 := Try.sizeOf5
  v5 := Try.zeroValue5
  t9 := Try.underlying9
  a9 := Try.isAgg9
  z9 := Try.sizeOf9
  v9 := Try.zeroValue9
  t20 := Try.underlying20
  a20 := Try.isAgg20
  z20 := Try.sizeOf20
  v20 := Try.zeroValue20
  t37 := Try.underlying49
  a37 := Try.isAgg49
  z37 := Try.sizeOf49
  v37 := Try.zeroValue49
  t70 := Try.underlying48
  a70 := Try.isAgg48
  z70 := Try.sizeOf48
  v70 := Try.zeroValue48
  t72 := Try.underlying51
  a72 := Try.isAgg51
  z72 := Try.sizeOf51
  v72 := Try.zeroValue51
  t75 := Try.underlying53
  a75 := Try.isAgg53
  z75 := Try.sizeOf53
  v75 := Try.zeroValue53
  t164 := Try.underlying67
  a164 := Try.isAgg67
  z164 := Try.sizeOf67
  v164 := Try.zeroValue67 }
theorem layx167 : Builder.Extra Try.prog layr167 := {
  sizeBuilder := by kernel_rfl
  liesBuilder := by kernel_rfl
  t5 := Try.underlying5
  a5 := Try.isAgg5
  z5 := Try.sizeOf5
  v5 := Try.zeroValue5
  infoByte := by kernel_rfl
  cellsByte := by kernel_rfl
  sizeByte := by kernel_rfl
  neB5 := by decide }
noncomputable def fs19 (n : Nat) : FS := fsCount1
theorem ok19 (n : Nat) : FSound Try.prog 19 (fs19 n) := ok_Count1 (fn_of Try.func19 (by kernel_rfl) (by kernel_rfl)) Try.strings_Count_one
noncomputable def fs23 (n : Nat) : FS := fsWriteString 51 5
theorem ok23 (n : Nat) : FSound Try.prog 23 (fs23 n) := ok_WriteString layb166 layx166 (fn_of Try.func23 (by kernel_rfl) (by kernel_rfl))
noncomputable def fs24 (n : Nat) : FS := fsWriteByte 51 5
theorem ok24 (n : Nat) : FSound Try.prog 24 (fs24 n) := ok_WriteByte layb167 layx167 (fn_of Try.func24 (by kernel_rfl) (by kernel_rfl))
noncomputable def fs25 (n : Nat) : FS := fsRepeat
theorem ok25 (n : Nat) : FSound Try.prog 25 (fs25 n) := ok_Repeat (fn_of Try.func25 (by kernel_rfl) (by kernel_rfl)) (fun s c w h1 h2 => Try.strings_Repeat s c w h1 h2)
noncomputable def fs26 (n : Nat) : FS := fsString 51 5
theorem ok26 (n : Nat) : FSound Try.prog 26 (fs26 n) := ok_String Try.lays169 Try.Builder_Extra_169 (fn_of Try.func26 (by kernel_rfl) (by kernel_rfl))
noncomputable def fs33 (n : Nat) : FS := fsIndexByte
theorem ok33 (n : Nat) : FSound Try.prog 33 (fs33 n) := ok_IndexByte (fn_of Try.func33 (by kernel_rfl) (by kernel_rfl)) Try.strings_IndexByte
end Go.Proofs.Ytlplpkbhjddmeaa


set_option linter.unusedVariables false
set_option maxRecDepth 100000
namespace Go.Proofs.Ytlplpkbhjddmeaa
open Go Th Go.Proofs
def ann32 : Ann := { loops := [(2, [(0, .id), (1, .id), (5, .id)], [(4, .id)])], cuts := [], frz := [], rm := [.id] }
noncomputable abbrev env32 (n : Nat) : Env := fun _ => none
theorem envok32 (n : Nat) : EnvOK Try.prog (env32 n) := EnvOK.nil
noncomputable def p32_l2B {R : Type} (n : Nat) (l0 : ByteArray → Int → Int → Option R) (x1 : ByteArray) (x2 : Int) (x3 : Int) (k0 : Int → Option R) (k1 : Option R) : Option R :=
  bif (decide (x3 ≥ 0)) then (bif (inR x3 (x1).size) then (bif (byteAt x1 x3 == x2) then (k0 x3) else (l0 x1 x2 (IntKind.i64.wrap (x3 - 1)))) else none) else (k1)
noncomputable def p32_l2L {R : Type} (n : Nat) : Nat → ByteArray → Int → Int → (Int → Option R) → (Option R) → Option R
  | 0, _, _, _, _, _ => none
  | m + 1, x1, x2, x3, k0, k1 => p32_l2B n (fun x1 x2 x3 => p32_l2L n m x1 x2 x3 k0 k1) x1 x2 x3 k0 k1
noncomputable def p32_l2 {R : Type} (n : Nat) (x1 : ByteArray) (x2 : Int) (x3 : Int) (k0 : Int → Option R) (k1 : Option R) : Option R := p32_l2L n n x1 x2 x3 k0 k1
noncomputable def p32 {R : Type} (n : Nat) (x1 : ByteArray) (x2 : Int) (k0 : Int → Option R) : Option R :=
  let v3 := IntKind.i64.wrap (((x1).size : Int) - 1); p32_l2 n x1 x2 v3 (fun (y4 : Int) => k0 y4) (k0 (-1))
noncomputable def c32_l2 : Code := subC (bodyOf Try.f32) [1, 0, 1, 0, 0]
noncomputable abbrev o32_l2a1 {R : Type} (n : Nat) (vs : List SV) (K : Kc R) : Option R := evLoop (fun f k => evC Try.prog (env32 n) ann32 n (19, []) c32_l2 f k) (liveA ann32.loops 2) (outA ann32.loops 2) n vs K
noncomputable abbrev o32_l2t0 {R : Type} (n : Nat) (D : Option R) (vs : List SV) (K : Kc R) : Option R :=
  dCons vs D fun z1 z2 => dP z1 D fun z3 => dStr z3 D fun x1 => dCons z2 D fun z4 z5 => dP z4 D fun z6 => dInt .u8 z6 D fun x2 => dCons z5 D fun z7 z8 => dP z7 D fun z9 => dInt .i64 z9 D fun x3 => dNil z8 D (p32_l2 n x1 x2 x3 (fun (y1 : Int) => K .ret (lk (outA ann32.loops 2) [.p (.v (.int .i64 y1))])) (K (.exit 0) (lk (outA ann32.loops 2) [.dead])))
noncomputable abbrev o32_l2a0 {R : Type} (n : Nat) (vs : List SV) (K : Kc R) : Option R := o32_l2t0 n (o32_l2a1 n vs K) vs K
noncomputable abbrev o32_l2 {R : Type} (n : Nat) (vs : List SV) (K : Kc R) : Option R := o32_l2a0 n vs K
noncomputable abbrev lo32 {R : Type} (n : Nat) : Orc R := fun i vs K => bif Nat.beq i 2 then o32_l2 n vs K else none
noncomputable abbrev cu32 {R : Type} (n : Nat) : Orc R := fun i vs K => none
section
variable {R : Type}
theorem pa32_l2 (n : Nat) : allP (PartOK (R := R) Try.prog (env32 n) ann32 n (19, []) (lo32 n) (cu32 n)) (partsOf ann32 c32_l2) := by
  have h : partsOf ann32 c32_l2 = [] := by kernel_rfl
  rw [h]
  exact trivial
theorem sp32_l2 (n m : Nat) (x1 : ByteArray) (x2 : Int) (x3 : Int) (K : Kc R) : evLoop (fun f k => evOi Try.prog (env32 n) ann32 (19, []) (lo32 n) (cu32 n) c32_l2 f k) (liveA ann32.loops 2) (outA ann32.loops 2) (m + 1) [.p (.v (.string x1)), .p (.v (.int .u8 x2)), .p (.v (.int .i64 x3))] K = p32_l2B n (fun (x1 : ByteArray) (x2 : Int) (x3 : Int) => evLoop (fun f k => evOi Try.prog (env32 n) ann32 (19, []) (lo32 n) (cu32 n) c32_l2 f k) (liveA ann32.loops 2) (outA ann32.loops 2) m [.p (.v (.string x1)), .p (.v (.int .u8 x2)), .p (.v (.int .i64 x3))] K) x1 x2 x3 (fun (y1 : Int) => K .ret (lk (outA ann32.loops 2) [.p (.v (.int .i64 y1))])) (K (.exit 0) (lk (outA ann32.loops 2) [.dead])) := by kernel_rfl
theorem ep32_l2 (n : Nat) (K : Kc R) : ∀ (m : Nat) (x1 : ByteArray) (x2 : Int) (x3 : Int), evLoop (fun f k => evOi Try.prog (env32 n) ann32 (19, []) (lo32 n) (cu32 n) c32_l2 f k) (liveA ann32.loops 2) (outA ann32.loops 2) m [.p (.v (.string x1)), .p (.v (.int .u8 x2)), .p (.v (.int .i64 x3))] K = p32_l2L n m x1 x2 x3 (fun (y1 : Int) => K .ret (lk (outA ann32.loops 2) [.p (.v (.int .i64 y1))])) (K (.exit 0) (lk (outA ann32.loops 2) [.dead]))
  | 0, _, _, _ => rfl
  | m + 1, x1, x2, x3 => (sp32_l2 n m x1 x2 x3 K).trans (congrArg (fun l => p32_l2B n l x1 x2 x3 (fun (y1 : Int) => K .ret (lk (outA ann32.loops 2) [.p (.v (.int .i64 y1))])) (K (.exit 0) (lk (outA ann32.loops 2) [.dead]))) ((funext fun z0 => (funext fun z1 => (funext fun z2 => (ep32_l2 n K m z0 z1 z2))))))
theorem q32_l2a1 (n : Nat) (vs : List SV) (K : Kc R) : evLoop (fun f k => evC Try.prog (env32 n) ann32 n (19, []) c32_l2 f k) (liveA ann32.loops 2) (outA ann32.loops 2) n vs K = o32_l2a1 n vs K := rfl
theorem q32_l2a0 (n : Nat) (vs : List SV) (K : Kc R) : evLoop (fun f k => evC Try.prog (env32 n) ann32 n (19, []) c32_l2 f k) (liveA ann32.loops 2) (outA ann32.loops 2) n vs K = o32_l2a0 n vs K := by
  unfold o32_l2a0 o32_l2t0
  refine dCons_eq (fun _ _ e => ?_) (q32_l2a1 n _ K)
  subst e
  refine dP_eq (fun _ e => ?_) (q32_l2a1 n _ K)
  subst e
  refine dStr_eq (fun _ e => ?_) (q32_l2a1 n _ K)
  subst e
  refine dCons_eq (fun _ _ e => ?_) (q32_l2a1 n _ K)
  subst e
  refine dP_eq (fun _ e => ?_) (q32_l2a1 n _ K)
  subst e
  refine dInt_eq (fun _ e => ?_) (q32_l2a1 n _ K)
  subst e
  refine dCons_eq (fun _ _ e => ?_) (q32_l2a1 n _ K)
  subst e
  refine dP_eq (fun _ e => ?_) (q32_l2a1 n _ K)
  subst e
  refine dInt_eq (fun _ e => ?_) (q32_l2a1 n _ K)
  subst e
  refine dNil_eq (fun e => ?_) (q32_l2a1 n _ K)
  subst e
  rw [evLoop_congr (evC_evOi c32_l2 (pa32_l2 n))]
  exact ep32_l2 n K n _ _ _
theorem q32_l2 (n : Nat) : PartOK (R := R) Try.prog (env32 n) ann32 n (19, []) (lo32 n) (cu32 n) (false, 2, c32_l2) := fun vs K => q32_l2a0 n vs K
theorem pa32 (n : Nat) : allP (PartOK (R := R) Try.prog (env32 n) ann32 n (19, []) (lo32 n) (cu32 n)) (partsOf ann32 (bodyOf Try.f32)) := by
  have h : partsOf ann32 (bodyOf Try.f32) = [(false, 2, c32_l2)] := by kernel_rfl
  rw [h]
  exact ⟨q32_l2 n, trivial⟩
theorem ep32 (n : Nat) (x1 : ByteArray) (x2 : Int) (K : List SV → Option R) : evFnOi Try.prog (env32 n) ann32 (lo32 n) (cu32 n) Try.f32 [.p (.v (.string x1)), .p (.v (.int .u8 x2))] K = p32 n x1 x2 (fun (y1 : Int) => K [.p (.v (.int .i64 y1))]) := by kernel_rfl
noncomputable abbrev fs32a1 (n : Nat) (args : List SV) (K : List SV → Option R) : Option R := none
noncomputable abbrev fs32t0 (n : Nat) (D : Option R) (args : List SV) (K : List SV → Option R) : Option R :=
  dCons args D fun z1 z2 => dP z1 D fun z3 => dStr z3 D fun x1 => dCons z2 D fun z4 z5 => dP z4 D fun z6 => dInt .u8 z6 D fun x2 => dNil z5 D (p32 n x1 x2 (fun (y1 : Int) => K [.p (.v (.int .i64 y1))]))
noncomputable abbrev fs32a0 (n : Nat) (args : List SV) (K : List SV → Option R) : Option R := fs32t0 n (fs32a1 n args K) args K
theorem hs32a1 (n : Nat) (args : List SV) (K : List SV → Option R) (res : R) : fs32a1 n args K = some res → evFn Try.prog (env32 n) ann32 n Try.f32 args K = some res := fun h => by cases h
theorem hs32a0 (n : Nat) (args : List SV) (K : List SV → Option R) (res : R) : fs32a0 n args K = some res → evFn Try.prog (env32 n) ann32 n Try.f32 args K = some res := by
  unfold fs32a0 fs32t0
  refine dCons_imp (fun _ _ e => ?_) (hs32a1 n _ K res)
  subst e
  refine dP_imp (fun _ e => ?_) (hs32a1 n _ K res)
  subst e
  refine dStr_imp (fun _ e => ?_) (hs32a1 n _ K res)
  subst e
  refine dCons_imp (fun _ _ e => ?_) (hs32a1 n _ K res)
  subst e
  refine dP_imp (fun _ e => ?_) (hs32a1 n _ K res)
  subst e
  refine dInt_imp (fun _ e => ?_) (hs32a1 n _ K res)
  subst e
  refine dNil_imp (fun e => ?_) (hs32a1 n _ K res)
  subst e
  intro h
  rw [evFn_evOi (c := bodyOf Try.f32) (by kernel_rfl) (pa32 n), ep32]
  exact h
end
noncomputable abbrev fs32 (n : Nat) : FS := { om := [false, false], run := fun args K => fs32a0 n args K }
theorem ok32 (n : Nat) : FSound Try.prog 32 (fs32 n) :=
  FSound.of (envok32 n) (ann := ann32) (n := n) (by kernel_rfl) Try.func32 (by kernel_rfl) (by kernel_rfl) fun {R args K res} h => hs32a0 n args K res h
end Go.Proofs.Ytlplpkbhjddmeaa


set_option linter.unusedVariables false
set_option maxRecDepth 100000
namespace Go.Proofs.Ytlplpkbhjddmeaa
open Go Th Go.Proofs
def ann20 : Ann := { loops := [], cuts := [], frz := [], rm := [.id] }
noncomputable abbrev env20 (n : Nat) : Env := fun i => bif Nat.beq i 32 then some (fs32 n) else (fun _ => none) i
theorem envok20 (n : Nat) : EnvOK Try.prog (env20 n) := EnvOK.cons (EnvOK.nil) (ok32 n)
noncomputable def p20 {R : Type} (n : Nat) (x1 : ByteArray) (x2 : Int) (k0 : Int → Option R) : Option R :=
  p32 n x1 x2 (fun (y3 : Int) => k0 y3)
noncomputable abbrev lo20 {R : Type} (n : Nat) : Orc R := fun i vs K => none
noncomputable abbrev cu20 {R : Type} (n : Nat) : Orc R := fun i vs K => none
section
variable {R : Type}
theorem pa20 (n : Nat) : allP (PartOK (R := R) Try.prog (env20 n) ann20 n (8, []) (lo20 n) (cu20 n)) (partsOf ann20 (bodyOf Try.f20)) := by
  have h : partsOf ann20 (bodyOf Try.f20) = [] := by kernel_rfl
  rw [h]
  exact trivial
theorem ep20 (n : Nat) (x1 : ByteArray) (x2 : Int) (K : List SV → Option R) : evFnOi Try.prog (env20 n) ann20 (lo20 n) (cu20 n) Try.f20 [.p (.v (.string x1)), .p (.v (.int .u8 x2))] K = p20 n x1 x2 (fun (y1 : Int) => K [.p (.v (.int .i64 y1))]) := by kernel_rfl
noncomputable abbrev fs20a1 (n : Nat) (args : List SV) (K : List SV → Option R) : Option R := none
noncomputable abbrev fs20t0 (n : Nat) (D : Option R) (args : List SV) (K : List SV → Option R) : Option R :=
  dCons args D fun z1 z2 => dP z1 D fun z3 => dStr z3 D fun x1 => dCons z2 D fun z4 z5 => dP z4 D fun z6 => dInt .u8 z6 D fun x2 => dNil z5 D (p20 n x1 x2 (fun (y1 : Int) => K [.p (.v (.int .i64 y1))]))
noncomputable abbrev fs20a0 (n : Nat) (args : List SV) (K : List SV → Option R) : Option R := fs20t0 n (fs20a1 n args K) args K
theorem hs20a1 (n : Nat) (args : List SV) (K : List SV → Option R) (res : R) : fs20a1 n args K = some res → evFn Try.prog (env20 n) ann20 n Try.f20 args K = some res := fun h => by cases h
theorem hs20a0 (n : Nat) (args : List SV) (K : List SV → Option R) (res : R) : fs20a0 n args K = some res → evFn Try.prog (env20 n) ann20 n Try.f20 args K = some res := by
  unfold fs20a0 fs20t0
  refine dCons_imp (fun _ _ e => ?_) (hs20a1 n _ K res)
  subst e
  refine dP_imp (fun _ e => ?_) (hs20a1 n _ K res)
  subst e
  refine dStr_imp (fun _ e => ?_) (hs20a1 n _ K res)
  subst e
  refine dCons_imp (fun _ _ e => ?_) (hs20a1 n _ K res)
  subst e
  refine dP_imp (fun _ e => ?_) (hs20a1 n _ K res)
  subst e
  refine dInt_imp (fun _ e => ?_) (hs20a1 n _ K res)
  subst e
  refine dNil_imp (fun e => ?_) (hs20a1 n _ K res)
  subst e
  intro h
  rw [evFn_evOi (c := bodyOf Try.f20) (by kernel_rfl) (pa20 n), ep20]
  exact h
end
noncomputable abbrev fs20 (n : Nat) : FS := { om := [false, false], run := fun args K => fs20a0 n args K }
theorem ok20 (n : Nat) : FSound Try.prog 20 (fs20 n) :=
  FSound.of (envok20 n) (ann := ann20) (n := n) (by kernel_rfl) Try.func20 (by kernel_rfl) (by kernel_rfl) fun {R args K res} h => hs20a0 n args K res h
end Go.Proofs.Ytlplpkbhjddmeaa


set_option linter.unusedVariables false
set_option maxRecDepth 100000
namespace Go.Proofs.Ytlplpkbhjddmeaa
open Go Th Go.Proofs
def ann11 : Ann := { loops := [], cuts := [(3, [(0, .id), (1, .id)], [(4, .id), (5, .id), (6, .id)])], frz := [], rm := [.id, .id, .id] }
noncomputable abbrev env11 (n : Nat) : Env := fun i => bif Nat.beq i 20 then some (fs20 n) else (fun i => bif Nat.beq i 19 then some (fs19 n) else (fun _ => none) i) i
theorem envok11 (n : Nat) : EnvOK Try.prog (env11 n) := EnvOK.cons (EnvOK.cons (EnvOK.nil) (ok19 n)) (ok20 n)
noncomputable def p11_c3 {R : Type} (n : Nat) (x1 : ByteArray) (x2 : Int) (k0 : Int → Int → Int → Option R) : Option R :=
  bif (cutR 0 x2 (x1).size) then (let v3 := ((Lib.countByte (ByteArray.extract x1 (0 : Int).toNat (x2 : Int).toNat).data.toList (((⟨#[10]⟩ : ByteArray)).data.toList.headD 0) : Nat) : Int); p20 n (ByteArray.extract x1 (0 : Int).toNat (x2 : Int).toNat) 10 (fun (y4 : Int) => let v5 := IntKind.i64.wrap ((IntKind.i64.wrap (x2 - 1)) - y4); k0 v3 v5 0)) else none
noncomputable def p11 {R : Type} (n : Nat) (x1 : ByteArray) (x2 : Int) (k0 : Int → Int → Int → Option R) : Option R :=
  bif (decide (x2 < 0)) then (k0 0 0 2) else (bif (bif false then true else (decide (x2 > ((x1).size : Int)))) then (k0 0 0 2) else (p11_c3 n x1 x2 (fun (y3 : Int) (y4 : Int) (y5 : Int) => k0 y3 y4 y5)))
noncomputable def c11_c3 : Code := subC (bodyOf Try.f11) [1, 1]
noncomputable abbrev o11_c3a1 {R : Type} (n : Nat) (vs : List SV) (K : Kc R) : Option R := evCut (fun f k => evC Try.prog (env11 n) ann11 n (26, []) c11_c3 f k) (liveA ann11.cuts 3) (outA ann11.cuts 3) vs K
noncomputable abbrev o11_c3t0 {R : Type} (n : Nat) (D : Option R) (vs : List SV) (K : Kc R) : Option R :=
  dCons vs D fun z1 z2 => dP z1 D fun z3 => dStr z3 D fun x1 => dCons z2 D fun z4 z5 => dP z4 D fun z6 => dInt .i64 z6 D fun x2 => dNil z5 D (p11_c3 n x1 x2 (fun (y1 : Int) (y2 : Int) (y3 : Int) => K .ret (lk (outA ann11.cuts 3) [.p (.v (.int .i64 y1)), .p (.v (.int .i64 y2)), .p (.v (.int .i64 y3))])))
noncomputable abbrev o11_c3a0 {R : Type} (n : Nat) (vs : List SV) (K : Kc R) : Option R := o11_c3t0 n (o11_c3a1 n vs K) vs K
noncomputable abbrev o11_c3 {R : Type} (n : Nat) (vs : List SV) (K : Kc R) : Option R := o11_c3a0 n vs K
noncomputable abbrev lo11 {R : Type} (n : Nat) : Orc R := fun i vs K => none
noncomputable abbrev cu11 {R : Type} (n : Nat) : Orc R := fun i vs K => bif Nat.beq i 3 then o11_c3 n vs K else none
section
variable {R : Type}
theorem pa11_c3 (n : Nat) : allP (PartOK (R := R) Try.prog (env11 n) ann11 n (26, []) (lo11 n) (cu11 n)) (partsOf ann11 c11_c3) := by
  have h : partsOf ann11 c11_c3 = [] := by kernel_rfl
  rw [h]
  exact trivial
theorem ep11_c3 (n : Nat) (x1 : ByteArray) (x2 : Int) (K : Kc R) : evCut (fun f k => evOi Try.prog (env11 n) ann11 (26, []) (lo11 n) (cu11 n) c11_c3 f k) (liveA ann11.cuts 3) (outA ann11.cuts 3) [.p (.v (.string x1)), .p (.v (.int .i64 x2))] K = p11_c3 n x1 x2 (fun (y1 : Int) (y2 : Int) (y3 : Int) => K .ret (lk (outA ann11.cuts 3) [.p (.v (.int .i64 y1)), .p (.v (.int .i64 y2)), .p (.v (.int .i64 y3))])) := by kernel_rfl
theorem q11_c3a1 (n : Nat) (vs : List SV) (K : Kc R) : evCut (fun f k => evC Try.prog (env11 n) ann11 n (26, []) c11_c3 f k) (liveA ann11.cuts 3) (outA ann11.cuts 3) vs K = o11_c3a1 n vs K := rfl
theorem q11_c3a0 (n : Nat) (vs : List SV) (K : Kc R) : evCut (fun f k => evC Try.prog (env11 n) ann11 n (26, []) c11_c3 f k) (liveA ann11.cuts 3) (outA ann11.cuts 3) vs K = o11_c3a0 n vs K := by
  unfold o11_c3a0 o11_c3t0
  refine dCons_eq (fun _ _ e => ?_) (q11_c3a1 n _ K)
  subst e
  refine dP_eq (fun _ e => ?_) (q11_c3a1 n _ K)
  subst e
  refine dStr_eq (fun _ e => ?_) (q11_c3a1 n _ K)
  subst e
  refine dCons_eq (fun _ _ e => ?_) (q11_c3a1 n _ K)
  subst e
  refine dP_eq (fun _ e => ?_) (q11_c3a1 n _ K)
  subst e
  refine dInt_eq (fun _ e => ?_) (q11_c3a1 n _ K)
  subst e
  refine dNil_eq (fun e => ?_) (q11_c3a1 n _ K)
  subst e
  rw [evCut_congr (evC_evOi c11_c3 (pa11_c3 n))]
  exact ep11_c3 n _ _ K
theorem q11_c3 (n : Nat) : PartOK (R := R) Try.prog (env11 n) ann11 n (26, []) (lo11 n) (cu11 n) (true, 3, c11_c3) := fun vs K => q11_c3a0 n vs K
theorem pa11 (n : Nat) : allP (PartOK (R := R) Try.prog (env11 n) ann11 n (26, []) (lo11 n) (cu11 n)) (partsOf ann11 (bodyOf Try.f11)) := by
  have h : partsOf ann11 (bodyOf Try.f11) = [(true, 3, c11_c3)] := by kernel_rfl
  rw [h]
  exact ⟨q11_c3 n, trivial⟩
theorem ep11 (n : Nat) (x1 : ByteArray) (x2 : Int) (K : List SV → Option R) : evFnOi Try.prog (env11 n) ann11 (lo11 n) (cu11 n) Try.f11 [.p (.v (.string x1)), .p (.v (.int .i64 x2))] K = p11 n x1 x2 (fun (y1 : Int) (y2 : Int) (y3 : Int) => K [.p (.v (.int .i64 y1)), .p (.v (.int .i64 y2)), .p (.v (.int .i64 y3))]) := by kernel_rfl
noncomputable abbrev fs11a1 (n : Nat) (args : List SV) (K : List SV → Option R) : Option R := none
noncomputable abbrev fs11t0 (n : Nat) (D : Option R) (args : List SV) (K : List SV → Option R) : Option R :=
  dCons args D fun z1 z2 => dP z1 D fun z3 => dStr z3 D fun x1 => dCons z2 D fun z4 z5 => dP z4 D fun z6 => dInt .i64 z6 D fun x2 => dNil z5 D (p11 n x1 x2 (fun (y1 : Int) (y2 : Int) (y3 : Int) => K [.p (.v (.int .i64 y1)), .p (.v (.int .i64 y2)), .p (.v (.int .i64 y3))]))
noncomputable abbrev fs11a0 (n : Nat) (args : List SV) (K : List SV → Option R) : Option R := fs11t0 n (fs11a1 n args K) args K
theorem hs11a1 (n : Nat) (args : List SV) (K : List SV → Option R) (res : R) : fs11a1 n args K = some res → evFn Try.prog (env11 n) ann11 n Try.f11 args K = some res := fun h => by cases h
theorem hs11a0 (n : Nat) (args : List SV) (K : List SV → Option R) (res : R) : fs11a0 n args K = some res → evFn Try.prog (env11 n) ann11 n Try.f11 args K = some res := by
  unfold fs11a0 fs11t0
  refine dCons_imp (fun _ _ e => ?_) (hs11a1 n _ K res)
  subst e
  refine dP_imp (fun _ e => ?_) (hs11a1 n _ K res)
  subst e
  refine dStr_imp (fun _ e => ?_) (hs11a1 n _ K res)
  subst e
  refine dCons_imp (fun _ _ e => ?_) (hs11a1 n _ K res)
  subst e
  refine dP_imp (fun _ e => ?_) (hs11a1 n _ K res)
  subst e
  refine dInt_imp (fun _ e => ?_) (hs11a1 n _ K res)
  subst e
  refine dNil_imp (fun e => ?_) (hs11a1 n _ K res)
  subst e
  intro h
  rw [evFn_evOi (c := bodyOf Try.f11) (by kernel_rfl) (pa11 n), ep11]
  exact h
end
noncomputable abbrev fs11 (n : Nat) : FS := { om := [false, false], run := fun args K => fs11a0 n args K }
theorem ok11 (n : Nat) : FSound Try.prog 11 (fs11 n) :=
  FSound.of (envok11 n) (ann := ann11) (n := n) (by kernel_rfl) Try.func11 (by kernel_rfl) (by kernel_rfl) fun {R args K res} h => hs11a0 n args K res h
end Go.Proofs.Ytlplpkbhjddmeaa


set_option linter.unusedVariables false
set_option maxRecDepth 100000
namespace Go.Proofs.Ytlplpkbhjddmeaa
open Go Th Go.Proofs
def ann12 : Ann := { loops := [(5, [(0, .id), (1, .id), (7, .id), (8, .id), (9, .id)], [(4, .id), (5, .id), (6, .id), (7, .id), (8, .id)])], cuts := [(3, [(0, .id), (1, .id)], [(4, .id), (5, .id), (6, .id)]), (6, [(0, .id), (1, .id), (7, .id), (8, .id), (9, .id)], [(0, .id), (1, .id), (4, .id), (5, .id), (6, .id), (7, .id), (8, .id), (9, .id)])], frz := [], rm := [.id, .id, .id] }
noncomputable abbrev env12 (n : Nat) : Env := fun _ => none
theorem envok12 (n : Nat) : EnvOK Try.prog (env12 n) := EnvOK.nil
noncomputable def p12_c6 {R : Type} (n : Nat) (x1 : ByteArray) (x2 : Int) (x3 : Int) (x4 : Int) (x5 : Int) (k0 : ByteArray → Int → Int → Int → Int → Option R) : Option R :=
  k0 x1 x2 x3 x4 (IntKind.i64.wrap (x5 + 1))
noncomputable def p12_l5B {R : Type} (n : Nat) (l0 : ByteArray → Int → Int → Int → Int → Option R) (x1 : ByteArray) (x2 : Int) (x3 : Int) (x4 : Int) (x5 : Int) (k0 : Int → Int → Option R) : Option R :=
  bif (decide (x5 < x2)) then (bif (inR x5 (x1).size) then (bif (byteAt x1 x5 == 10) then (p12_c6 n x1 x2 (IntKind.i64.wrap (x3 + 1)) 0 x5 (fun (y6 : ByteArray) (y7 : Int) (y8 : Int) (y9 : Int) (y10 : Int) => l0 y6 y7 y8 y9 y10)) else (p12_c6 n x1 x2 x3 (IntKind.i64.wrap (x4 + 1)) x5 (fun (y11 : ByteArray) (y12 : Int) (y13 : Int) (y14 : Int) (y15 : Int) => l0 y11 y12 y13 y14 y15))) else none) else (k0 x3 x4)
noncomputable def p12_l5L {R : Type} (n : Nat) : Nat → ByteArray → Int → Int → Int → Int → (Int → Int → Option R) → Option R
  | 0, _, _, _, _, _, _ => none
  | m + 1, x1, x2, x3, x4, x5, k0 => p12_l5B n (fun x1 x2 x3 x4 x5 => p12_l5L n m x1 x2 x3 x4 x5 k0) x1 x2 x3 x4 x5 k0
noncomputable def p12_l5 {R : Type} (n : Nat) (x1 : ByteArray) (x2 : Int) (x3 : Int) (x4 : Int) (x5 : Int) (k0 : Int → Int → Option R) : Option R := p12_l5L n n x1 x2 x3 x4 x5 k0
noncomputable def p12_c3 {R : Type} (n : Nat) (x1 : ByteArray) (x2 : Int) (k0 : Int → Int → Int → Option R) : Option R :=
  p12_l5 n x1 x2 0 0 0 (fun (y3 : Int) (y4 : Int) => k0 y3 y4 0)
noncomputable def p12 {R : Type} (n : Nat) (x1 : ByteArray) (x2 : Int) (k0 : Int → Int → Int → Option R) : Option R :=
  bif (decide (x2 < 0)) then (k0 0 0 2) else (bif (bif false then true else (decide (x2 > ((x1).size : Int)))) then (k0 0 0 2) else (p12_c3 n x1 x2 (fun (y3 : Int) (y4 : Int) (y5 : Int) => k0 y3 y4 y5)))
noncomputable def c12_c3 : Code := subC (bodyOf Try.f12) [1, 1]
noncomputable abbrev o12_c3a1 {R : Type} (n : Nat) (vs : List SV) (K : Kc R) : Option R := evCut (fun f k => evC Try.prog (env12 n) ann12 n (33, []) c12_c3 f k) (liveA ann12.cuts 3) (outA ann12.cuts 3) vs K
noncomputable abbrev o12_c3t0 {R : Type} (n : Nat) (D : Option R) (vs : List SV) (K : Kc R) : Option R :=
  dCons vs D fun z1 z2 => dP z1 D fun z3 => dStr z3 D fun x1 => dCons z2 D fun z4 z5 => dP z4 D fun z6 => dInt .i64 z6 D fun x2 => dNil z5 D (p12_c3 n x1 x2 (fun (y1 : Int) (y2 : Int) (y3 : Int) => K .ret (lk (outA ann12.cuts 3) [.p (.v (.int .i64 y1)), .p (.v (.int .i64 y2)), .p (.v (.int .i64 y3))])))
noncomputable abbrev o12_c3a0 {R : Type} (n : Nat) (vs : List SV) (K : Kc R) : Option R := o12_c3t0 n (o12_c3a1 n vs K) vs K
noncomputable abbrev o12_c3 {R : Type} (n : Nat) (vs : List SV) (K : Kc R) : Option R := o12_c3a0 n vs K
noncomputable def c12_c6 : Code := subC (bodyOf Try.f12) [1, 1, 1, 0, 1, 0, 0, 1, 1]
noncomputable abbrev o12_c6a1 {R : Type} (n : Nat) (vs : List SV) (K : Kc R) : Option R := evCut (fun f k => evC Try.prog (env12 n) ann12 n (33, []) c12_c6 f k) (liveA ann12.cuts 6) (outA ann12.cuts 6) vs K
noncomputable abbrev o12_c6t0 {R : Type} (n : Nat) (D : Option R) (vs : List SV) (K : Kc R) : Option R :=
  dCons vs D fun z1 z2 => dP z1 D fun z3 => dStr z3 D fun x1 => dCons z2 D fun z4 z5 => dP z4 D fun z6 => dInt .i64 z6 D fun x2 => dCons z5 D fun z7 z8 => dP z7 D fun z9 => dInt .i64 z9 D fun x3 => dCons z8 D fun z10 z11 => dP z10 D fun z12 => dInt .i64 z12 D fun x4 => dCons z11 D fun z13 z14 => dP z13 D fun z15 => dInt .i64 z15 D fun x5 => dNil z14 D (p12_c6 n x1 x2 x3 x4 x5 (fun (y1 : ByteArray) (y2 : Int) (y3 : Int) (y4 : Int) (y5 : Int) => K .normal (lk (outA ann12.cuts 6) [.p (.v (.string y1)), .p (.v (.int .i64 y2)), .dead, .dead, .dead, .p (.v (.int .i64 y3)), .p (.v (.int .i64 y4)), .p (.v (.int .i64 y5))])))
noncomputable abbrev o12_c6a0 {R : Type} (n : Nat) (vs : List SV) (K : Kc R) : Option R := o12_c6t0 n (o12_c6a1 n vs K) vs K
noncomputable abbrev o12_c6 {R : Type} (n : Nat) (vs : List SV) (K : Kc R) : Option R := o12_c6a0 n vs K
noncomputable def c12_l5 : Code := subC (bodyOf Try.f12) [1, 1, 1, 0, 1, 0, 0]
noncomputable abbrev o12_l5a1 {R : Type} (n : Nat) (vs : List SV) (K : Kc R) : Option R := evLoop (fun f k => evC Try.prog (env12 n) ann12 n (33, []) c12_l5 f k) (liveA ann12.loops 5) (outA ann12.loops 5) n vs K
noncomputable abbrev o12_l5t0 {R : Type} (n : Nat) (D : Option R) (vs : List SV) (K : Kc R) : Option R :=
  dCons vs D fun z1 z2 => dP z1 D fun z3 => dStr z3 D fun x1 => dCons z2 D fun z4 z5 => dP z4 D fun z6 => dInt .i64 z6 D fun x2 => dCons z5 D fun z7 z8 => dP z7 D fun z9 => dInt .i64 z9 D fun x3 => dCons z8 D fun z10 z11 => dP z10 D fun z12 => dInt .i64 z12 D fun x4 => dCons z11 D fun z13 z14 => dP z13 D fun z15 => dInt .i64 z15 D fun x5 => dNil z14 D (p12_l5 n x1 x2 x3 x4 x5 (fun (y1 : Int) (y2 : Int) => K (.exit 0) (lk (outA ann12.loops 5) [.dead, .dead, .dead, .p (.v (.int .i64 y1)), .p (.v (.int .i64 y2))])))
noncomputable abbrev o12_l5a0 {R : Type} (n : Nat) (vs : List SV) (K : Kc R) : Option R := o12_l5t0 n (o12_l5a1 n vs K) vs K
noncomputable abbrev o12_l5 {R : Type} (n : Nat) (vs : List SV) (K : Kc R) : Option R := o12_l5a0 n vs K
noncomputable abbrev lo12 {R : Type} (n : Nat) : Orc R := fun i vs K => bif Nat.beq i 5 then o12_l5 n vs K else none
noncomputable abbrev cu12 {R : Type} (n : Nat) : Orc R := fun i vs K => bif Nat.beq i 6 then o12_c6 n vs K else bif Nat.beq i 3 then o12_c3 n vs K else none
section
variable {R : Type}
theorem pa12_c6 (n : Nat) : allP (PartOK (R := R) Try.prog (env12 n) ann12 n (33, []) (lo12 n) (cu12 n)) (partsOf ann12 c12_c6) := by
  have h : partsOf ann12 c12_c6 = [] := by kernel_rfl
  rw [h]
  exact trivial
theorem ep12_c6 (n : Nat) (x1 : ByteArray) (x2 : Int) (x3 : Int) (x4 : Int) (x5 : Int) (K : Kc R) : evCut (fun f k => evOi Try.prog (env12 n) ann12 (33, []) (lo12 n) (cu12 n) c12_c6 f k) (liveA ann12.cuts 6) (outA ann12.cuts 6) [.p (.v (.string x1)), .p (.v (.int .i64 x2)), .p (.v (.int .i64 x3)), .p (.v (.int .i64 x4)), .p (.v (.int .i64 x5))] K = p12_c6 n x1 x2 x3 x4 x5 (fun (y1 : ByteArray) (y2 : Int) (y3 : Int) (y4 : Int) (y5 : Int) => K .normal (lk (outA ann12.cuts 6) [.p (.v (.string y1)), .p (.v (.int .i64 y2)), .dead, .dead, .dead, .p (.v (.int .i64 y3)), .p (.v (.int .i64 y4)), .p (.v (.int .i64 y5))])) := by kernel_rfl
theorem q12_c6a1 (n : Nat) (vs : List SV) (K : Kc R) : evCut (fun f k => evC Try.prog (env12 n) ann12 n (33, []) c12_c6 f k) (liveA ann12.cuts 6) (outA ann12.cuts 6) vs K = o12_c6a1 n vs K := rfl
theorem q12_c6a0 (n : Nat) (vs : List SV) (K : Kc R) : evCut (fun f k => evC Try.prog (env12 n) ann12 n (33, []) c12_c6 f k) (liveA ann12.cuts 6) (outA ann12.cuts 6) vs K = o12_c6a0 n vs K := by
  unfold o12_c6a0 o12_c6t0
  refine dCons_eq (fun _ _ e => ?_) (q12_c6a1 n _ K)
  subst e
  refine dP_eq (fun _ e => ?_) (q12_c6a1 n _ K)
  subst e
  refine dStr_eq (fun _ e => ?_) (q12_c6a1 n _ K)
  subst e
  refine dCons_eq (fun _ _ e => ?_) (q12_c6a1 n _ K)
  subst e
  refine dP_eq (fun _ e => ?_) (q12_c6a1 n _ K)
  subst e
  refine dInt_eq (fun _ e => ?_) (q12_c6a1 n _ K)
  subst e
  refine dCons_eq (fun _ _ e => ?_) (q12_c6a1 n _ K)
  subst e
  refine dP_eq (fun _ e => ?_) (q12_c6a1 n _ K)
  subst e
  refine dInt_eq (fun _ e => ?_) (q12_c6a1 n _ K)
  subst e
  refine dCons_eq (fun _ _ e => ?_) (q12_c6a1 n _ K)
  subst e
  refine dP_eq (fun _ e => ?_) (q12_c6a1 n _ K)
  subst e
  refine dInt_eq (fun _ e => ?_) (q12_c6a1 n _ K)
  subst e
  refine dCons_eq (fun _ _ e => ?_) (q12_c6a1 n _ K)
  subst e
  refine dP_eq (fun _ e => ?_) (q12_c6a1 n _ K)
  subst e
  refine dInt_eq (fun _ e => ?_) (q12_c6a1 n _ K)
  subst e
  refine dNil_eq (fun e => ?_) (q12_c6a1 n _ K)
  subst e
  rw [evCut_congr (evC_evOi c12_c6 (pa12_c6 n))]
  exact ep12_c6 n _ _ _ _ _ K
theorem q12_c6 (n : Nat) : PartOK (R := R) Try.prog (env12 n) ann12 n (33, []) (lo12 n) (cu12 n) (true, 6, c12_c6) := fun vs K => q12_c6a0 n vs K
theorem pa12_l5 (n : Nat) : allP (PartOK (R := R) Try.prog (env12 n) ann12 n (33, []) (lo12 n) (cu12 n)) (partsOf ann12 c12_l5) := by
  have h : partsOf ann12 c12_l5 = [(true, 6, c12_c6)] := by kernel_rfl
  rw [h]
  exact ⟨q12_c6 n, trivial⟩
theorem sp12_l5 (n m : Nat) (x1 : ByteArray) (x2 : Int) (x3 : Int) (x4 : Int) (x5 : Int) (K : Kc R) : evLoop (fun f k => evOi Try.prog (env12 n) ann12 (33, []) (lo12 n) (cu12 n) c12_l5 f k) (liveA ann12.loops 5) (outA ann12.loops 5) (m + 1) [.p (.v (.string x1)), .p (.v (.int .i64 x2)), .p (.v (.int .i64 x3)), .p (.v (.int .i64 x4)), .p (.v (.int .i64 x5))] K = p12_l5B n (fun (x1 : ByteArray) (x2 : Int) (x3 : Int) (x4 : Int) (x5 : Int) => evLoop (fun f k => evOi Try.prog (env12 n) ann12 (33, []) (lo12 n) (cu12 n) c12_l5 f k) (liveA ann12.loops 5) (outA ann12.loops 5) m [.p (.v (.string x1)), .p (.v (.int .i64 x2)), .p (.v (.int .i64 x3)), .p (.v (.int .i64 x4)), .p (.v (.int .i64 x5))] K) x1 x2 x3 x4 x5 (fun (y1 : Int) (y2 : Int) => K (.exit 0) (lk (outA ann12.loops 5) [.dead, .dead, .dead, .p (.v (.int .i64 y1)), .p (.v (.int .i64 y2))])) := by kernel_rfl
theorem ep12_l5 (n : Nat) (K : Kc R) : ∀ (m : Nat) (x1 : ByteArray) (x2 : Int) (x3 : Int) (x4 : Int) (x5 : Int), evLoop (fun f k => evOi Try.prog (env12 n) ann12 (33, []) (lo12 n) (cu12 n) c12_l5 f k) (liveA ann12.loops 5) (outA ann12.loops 5) m [.p (.v (.string x1)), .p (.v (.int .i64 x2)), .p (.v (.int .i64 x3)), .p (.v (.int .i64 x4)), .p (.v (.int .i64 x5))] K = p12_l5L n m x1 x2 x3 x4 x5 (fun (y1 : Int) (y2 : Int) => K (.exit 0) (lk (outA ann12.loops 5) [.dead, .dead, .dead, .p (.v (.int .i64 y1)), .p (.v (.int .i64 y2))]))
  | 0, _, _, _, _, _ => rfl
  | m + 1, x1, x2, x3, x4, x5 => (sp12_l5 n m x1 x2 x3 x4 x5 K).trans (congrArg (fun l => p12_l5B n l x1 x2 x3 x4 x5 (fun (y1 : Int) (y2 : Int) => K (.exit 0) (lk (outA ann12.loops 5) [.dead, .dead, .dead, .p (.v (.int .i64 y1)), .p (.v (.int .i64 y2))]))) ((funext fun z0 => (funext fun z1 => (funext fun z2 => (funext fun z3 => (funext fun z4 => (ep12_l5 n K m z0 z1 z2 z3 z4))))))))
theorem q12_l5a1 (n : Nat) (vs : List SV) (K : Kc R) : evLoop (fun f k => evC Try.prog (env12 n) ann12 n (33, []) c12_l5 f k) (liveA ann12.loops 5) (outA ann12.loops 5) n vs K = o12_l5a1 n vs K := rfl
theorem q12_l5a0 (n : Nat) (vs : List SV) (K : Kc R) : evLoop (fun f k => evC Try.prog (env12 n) ann12 n (33, []) c12_l5 f k) (liveA ann12.loops 5) (outA ann12.loops 5) n vs K = o12_l5a0 n vs K := by
  unfold o12_l5a0 o12_l5t0
  refine dCons_eq (fun _ _ e => ?_) (q12_l5a1 n _ K)
  subst e
  refine dP_eq (fun _ e => ?_) (q12_l5a1 n _ K)
  subst e
  refine dStr_eq (fun _ e => ?_) (q12_l5a1 n _ K)
  subst e
  refine dCons_eq (fun _ _ e => ?_) (q12_l5a1 n _ K)
  subst e
  refine dP_eq (fun _ e => ?_) (q12_l5a1 n _ K)
  subst e
  refine dInt_eq (fun _ e => ?_) (q12_l5a1 n _ K)
  subst e
  refine dCons_eq (fun _ _ e => ?_) (q12_l5a1 n _ K)
  subst e
  refine dP_eq (fun _ e => ?_) (q12_l5a1 n _ K)
  subst e
  refine dInt_eq (fun _ e => ?_) (q12_l5a1 n _ K)
  subst e
  refine dCons_eq (fun _ _ e => ?_) (q12_l5a1 n _ K)
  subst e
  refine dP_eq (fun _ e => ?_) (q12_l5a1 n _ K)
  subst e
  refine dInt_eq (fun _ e => ?_) (q12_l5a1 n _ K)
  subst e
  refine dCons_eq (fun _ _ e => ?_) (q12_l5a1 n _ K)
  subst e
  refine dP_eq (fun _ e => ?_) (q12_l5a1 n _ K)
  subst e
  refine dInt_eq (fun _ e => ?_) (q12_l5a1 n _ K)
  subst e
  refine dNil_eq (fun e => ?_) (q12_l5a1 n _ K)
  subst e
  rw [evLoop_congr (evC_evOi c12_l5 (pa12_l5 n))]
  exact ep12_l5 n K n _ _ _ _ _
theorem q12_l5 (n : Nat) : PartOK (R := R) Try.prog (env12 n) ann12 n (33, []) (lo12 n) (cu12 n) (false, 5, c12_l5) := fun vs K => q12_l5a0 n vs K
theorem pa12_c3 (n : Nat) : allP (PartOK (R := R) Try.prog (env12 n) ann12 n (33, []) (lo12 n) (cu12 n)) (partsOf ann12 c12_c3) := by
  have h : partsOf ann12 c12_c3 = [(false, 5, c12_l5)] := by kernel_rfl
  rw [h]
  exact ⟨q12_l5 n, trivial⟩
theorem ep12_c3 (n : Nat) (x1 : ByteArray) (x2 : Int) (K : Kc R) : evCut (fun f k => evOi Try.prog (env12 n) ann12 (33, []) (lo12 n) (cu12 n) c12_c3 f k) (liveA ann12.cuts 3) (outA ann12.cuts 3) [.p (.v (.string x1)), .p (.v (.int .i64 x2))] K = p12_c3 n x1 x2 (fun (y1 : Int) (y2 : Int) (y3 : Int) => K .ret (lk (outA ann12.cuts 3) [.p (.v (.int .i64 y1)), .p (.v (.int .i64 y2)), .p (.v (.int .i64 y3))])) := by kernel_rfl
theorem q12_c3a1 (n : Nat) (vs : List SV) (K : Kc R) : evCut (fun f k => evC Try.prog (env12 n) ann12 n (33, []) c12_c3 f k) (liveA ann12.cuts 3) (outA ann12.cuts 3) vs K = o12_c3a1 n vs K := rfl
theorem q12_c3a0 (n : Nat) (vs : List SV) (K : Kc R) : evCut (fun f k => evC Try.prog (env12 n) ann12 n (33, []) c12_c3 f k) (liveA ann12.cuts 3) (outA ann12.cuts 3) vs K = o12_c3a0 n vs K := by
  unfold o12_c3a0 o12_c3t0
  refine dCons_eq (fun _ _ e => ?_) (q12_c3a1 n _ K)
  subst e
  refine dP_eq (fun _ e => ?_) (q12_c3a1 n _ K)
  subst e
  refine dStr_eq (fun _ e => ?_) (q12_c3a1 n _ K)
  subst e
  refine dCons_eq (fun _ _ e => ?_) (q12_c3a1 n _ K)
  subst e
  refine dP_eq (fun _ e => ?_) (q12_c3a1 n _ K)
  subst e
  refine dInt_eq (fun _ e => ?_) (q12_c3a1 n _ K)
  subst e
  refine dNil_eq (fun e => ?_) (q12_c3a1 n _ K)
  subst e
  rw [evCut_congr (evC_evOi c12_c3 (pa12_c3 n))]
  exact ep12_c3 n _ _ K
theorem q12_c3 (n : Nat) : PartOK (R := R) Try.prog (env12 n) ann12 n (33, []) (lo12 n) (cu12 n) (true, 3, c12_c3) := fun vs K => q12_c3a0 n vs K
theorem pa12 (n : Nat) : allP (PartOK (R := R) Try.prog (env12 n) ann12 n (33, []) (lo12 n) (cu12 n)) (partsOf ann12 (bodyOf Try.f12)) := by
  have h : partsOf ann12 (bodyOf Try.f12) = [(true, 3, c12_c3)] := by kernel_rfl
  rw [h]
  exact ⟨q12_c3 n, trivial⟩
theorem ep12 (n : Nat) (x1 : ByteArray) (x2 : Int) (K : List SV → Option R) : evFnOi Try.prog (env12 n) ann12 (lo12 n) (cu12 n) Try.f12 [.p (.v (.string x1)), .p (.v (.int .i64 x2))] K = p12 n x1 x2 (fun (y1 : Int) (y2 : Int) (y3 : Int) => K [.p (.v (.int .i64 y1)), .p (.v (.int .i64 y2)), .p (.v (.int .i64 y3))]) := by kernel_rfl
noncomputable abbrev fs12a1 (n : Nat) (args : List SV) (K : List SV → Option R) : Option R := none
noncomputable abbrev fs12t0 (n : Nat) (D : Option R) (args : List SV) (K : List SV → Option R) : Option R :=
  dCons args D fun z1 z2 => dP z1 D fun z3 => dStr z3 D fun x1 => dCons z2 D fun z4 z5 => dP z4 D fun z6 => dInt .i64 z6 D fun x2 => dNil z5 D (p12 n x1 x2 (fun (y1 : Int) (y2 : Int) (y3 : Int) => K [.p (.v (.int .i64 y1)), .p (.v (.int .i64 y2)), .p (.v (.int .i64 y3))]))
noncomputable abbrev fs12a0 (n : Nat) (args : List SV) (K : List SV → Option R) : Option R := fs12t0 n (fs12a1 n args K) args K
theorem hs12a1 (n : Nat) (args : List SV) (K : List SV → Option R) (res : R) : fs12a1 n args K = some res → evFn Try.prog (env12 n) ann12 n Try.f12 args K = some res := fun h => by cases h
theorem hs12a0 (n : Nat) (args : List SV) (K : List SV → Option R) (res : R) : fs12a0 n args K = some res → evFn Try.prog (env12 n) ann12 n Try.f12 args K = some res := by
  unfold fs12a0 fs12t0
  refine dCons_imp (fun _ _ e => ?_) (hs12a1 n _ K res)
  subst e
  refine dP_imp (fun _ e => ?_) (hs12a1 n _ K res)
  subst e
  refine dStr_imp (fun _ e => ?_) (hs12a1 n _ K res)
  subst e
  refine dCons_imp (fun _ _ e => ?_) (hs12a1 n _ K res)
  subst e
  refine dP_imp (fun _ e => ?_) (hs12a1 n _ K res)
  subst e
  refine dInt_imp (fun _ e => ?_) (hs12a1 n _ K res)
  subst e
  refine dNil_imp (fun e => ?_) (hs12a1 n _ K res)
  subst e
  intro h
  rw [evFn_evOi (c := bodyOf Try.f12) (by kernel_rfl) (pa12 n), ep12]
  exact h
end
noncomputable abbrev fs12 (n : Nat) : FS := { om := [false, false], run := fun args K => fs12a0 n args K }
theorem ok12 (n : Nat) : FSound Try.prog 12 (fs12 n) :=
  FSound.of (envok12 n) (ann := ann12) (n := n) (by kernel_rfl) Try.func12 (by kernel_rfl) (by kernel_rfl) fun {R args K res} h => hs12a0 n args K res h
end Go.Proofs.Ytlplpkbhjddmeaa


set_option linter.unusedVariables false
set_option maxRecDepth 100000
namespace Go.Proofs.Ytlplpkbhjddmeaa
open Go Th Go.Proofs
def ann21 : Ann := { loops := [], cuts := [], frz := [], rm := [.id] }
noncomputable abbrev env21 (n : Nat) : Env := fun i => bif Nat.beq i 33 then some (fs33 n) else (fun _ => none) i
theorem envok21 (n : Nat) : EnvOK Try.prog (env21 n) := EnvOK.cons (EnvOK.nil) (ok33 n)
noncomputable def p21 {R : Type} (n : Nat) (x1 : ByteArray) (x2 : Int) (k0 : Int → Option R) : Option R :=
  bif (cutR x2 ((x1).size : Int) (x1).size) then (let v3 := Lib.indexByte (ByteArray.extract x1 (x2 : Int).toNat (((x1).size : Int) : Int).toNat).data.toList (10 : Int).toNat.toUInt8; bif (decide (v3 ≥ 0)) then (k0 (IntKind.i64.wrap (x2 + v3))) else (k0 ((x1).size : Int))) else none
noncomputable abbrev lo21 {R : Type} (n : Nat) : Orc R := fun i vs K => none
noncomputable abbrev cu21 {R : Type} (n : Nat) : Orc R := fun i vs K => none
section
variable {R : Type}
theorem pa21 (n : Nat) : allP (PartOK (R := R) Try.prog (env21 n) ann21 n (17, []) (lo21 n) (cu21 n)) (partsOf ann21 (bodyOf Try.f21)) := by
  have h : partsOf ann21 (bodyOf Try.f21) = [] := by kernel_rfl
  rw [h]
  exact trivial
theorem ep21 (n : Nat) (x1 : ByteArray) (x2 : Int) (K : List SV → Option R) : evFnOi Try.prog (env21 n) ann21 (lo21 n) (cu21 n) Try.f21 [.p (.v (.string x1)), .p (.v (.int .i64 x2))] K = p21 n x1 x2 (fun (y1 : Int) => K [.p (.v (.int .i64 y1))]) := by kernel_rfl
noncomputable abbrev fs21a1 (n : Nat) (args : List SV) (K : List SV → Option R) : Option R := none
noncomputable abbrev fs21t0 (n : Nat) (D : Option R) (args : List SV) (K : List SV → Option R) : Option R :=
  dCons args D fun z1 z2 => dP z1 D fun z3 => dStr z3 D fun x1 => dCons z2 D fun z4 z5 => dP z4 D fun z6 => dInt .i64 z6 D fun x2 => dNil z5 D (p21 n x1 x2 (fun (y1 : Int) => K [.p (.v (.int .i64 y1))]))
noncomputable abbrev fs21a0 (n : Nat) (args : List SV) (K : List SV → Option R) : Option R := fs21t0 n (fs21a1 n args K) args K
theorem hs21a1 (n : Nat) (args : List SV) (K : List SV → Option R) (res : R) : fs21a1 n args K = some res → evFn Try.prog (env21 n) ann21 n Try.f21 args K = some res := fun h => by cases h
theorem hs21a0 (n : Nat) (args : List SV) (K : List SV → Option R) (res : R) : fs21a0 n args K = some res → evFn Try.prog (env21 n) ann21 n Try.f21 args K = some res := by
  unfold fs21a0 fs21t0
  refine dCons_imp (fun _ _ e => ?_) (hs21a1 n _ K res)
  subst e
  refine dP_imp (fun _ e => ?_) (hs21a1 n _ K res)
  subst e
  refine dStr_imp (fun _ e => ?_) (hs21a1 n _ K res)
  subst e
  refine dCons_imp (fun _ _ e => ?_) (hs21a1 n _ K res)
  subst e
  refine dP_imp (fun _ e => ?_) (hs21a1 n _ K res)
  subst e
  refine dInt_imp (fun _ e => ?_) (hs21a1 n _ K res)
  subst e
  refine dNil_imp (fun e => ?_) (hs21a1 n _ K res)
  subst e
  intro h
  rw [evFn_evOi (c := bodyOf Try.f21) (by kernel_rfl) (pa21 n), ep21]
  exact h
end
noncomputable abbrev fs21 (n : Nat) : FS := { om := [false, false], run := fun args K => fs21a0 n args K }
theorem ok21 (n : Nat) : FSound Try.prog 21 (fs21 n) :=
  FSound.of (envok21 n) (ann := ann21) (n := n) (by kernel_rfl) Try.func21 (by kernel_rfl) (by kernel_rfl) fun {R args K res} h => hs21a0 n args K res h
end Go.Proofs.Ytlplpkbhjddmeaa


set_option linter.unusedVariables false
set_option maxRecDepth 100000
namespace Go.Proofs.Ytlplpkbhjddmeaa
open Go Th Go.Proofs
def ann27 : Ann := { loops := [(5, [(0, .id), (5, .id), (9, .id), (10, .id)], [(4, .id), (5, .id)])], cuts := [], frz := [], rm := [.id] }
noncomputable abbrev env27 (n : Nat) : Env := fun i => bif Nat.beq i 33 then some (fs33 n) else (fun _ => none) i
theorem envok27 (n : Nat) : EnvOK Try.prog (env27 n) := EnvOK.cons (EnvOK.nil) (ok33 n)
noncomputable def p27_l5B {R : Type} (n : Nat) (l0 : ByteArray → Int → Int → Int → Option R) (x1 : ByteArray) (x2 : Int) (x3 : Int) (x4 : Int) (k0 : Int → Int → Option R) (k1 : Int → Option R) : Option R :=
  bif (decide (x4 < x3)) then (bif (cutR x2 ((x1).size : Int) (x1).size) then (let v5 := Lib.indexByte (ByteArray.extract x1 (x2 : Int).toNat (((x1).size : Int) : Int).toNat).data.toList (10 : Int).toNat.toUInt8; bif (decide (v5 < 0)) then (k0 (-1) x2) else (let v6 := IntKind.i64.wrap (x2 + (IntKind.i64.wrap (v5 + 1))); l0 x1 v6 x3 (IntKind.i64.wrap (x4 + 1)))) else none) else (k1 x2)
noncomputable def p27_l5L {R : Type} (n : Nat) : Nat → ByteArray → Int → Int → Int → (Int → Int → Option R) → (Int → Option R) → Option R
  | 0, _, _, _, _, _, _ => none
  | m + 1, x1, x2, x3, x4, k0, k1 => p27_l5B n (fun x1 x2 x3 x4 => p27_l5L n m x1 x2 x3 x4 k0 k1) x1 x2 x3 x4 k0 k1
noncomputable def p27_l5 {R : Type} (n : Nat) (x1 : ByteArray) (x2 : Int) (x3 : Int) (x4 : Int) (k0 : Int → Int → Option R) (k1 : Int → Option R) : Option R := p27_l5L n n x1 x2 x3 x4 k0 k1
noncomputable def p27 {R : Type} (n : Nat) (x1 : ByteArray) (x2 : Int) (k0 : Int → Option R) : Option R :=
  bif (decide (x2 < 0)) then (k0 (-1)) else (p27_l5 n x1 0 x2 0 (fun (y3 : Int) (y4 : Int) => k0 y3) (fun (y5 : Int) => k0 y5))
noncomputable def c27_l5 : Code := subC (bodyOf Try.f27) [1, 1, 1, 0, 1, 0, 0]
noncomputable abbrev o27_l5a1 {R : Type} (n : Nat) (vs : List SV) (K : Kc R) : Option R := evLoop (fun f k => evC Try.prog (env27 n) ann27 n (24, []) c27_l5 f k) (liveA ann27.loops 5) (outA ann27.loops 5) n vs K
noncomputable abbrev o27_l5t0 {R : Type} (n : Nat) (D : Option R) (vs : List SV) (K : Kc R) : Option R :=
  dCons vs D fun z1 z2 => dP z1 D fun z3 => dStr z3 D fun x1 => dCons z2 D fun z4 z5 => dP z4 D fun z6 => dInt .i64 z6 D fun x2 => dCons z5 D fun z7 z8 => dP z7 D fun z9 => dInt .i64 z9 D fun x3 => dCons z8 D fun z10 z11 => dP z10 D fun z12 => dInt .i64 z12 D fun x4 => dNil z11 D (p27_l5 n x1 x2 x3 x4 (fun (y1 : Int) (y2 : Int) => K .ret (lk (outA ann27.loops 5) [.p (.v (.int .i64 y1)), .p (.v (.int .i64 y2))])) (fun (y1 : Int) => K (.exit 0) (lk (outA ann27.loops 5) [.dead, .p (.v (.int .i64 y1))])))
noncomputable abbrev o27_l5a0 {R : Type} (n : Nat) (vs : List SV) (K : Kc R) : Option R := o27_l5t0 n (o27_l5a1 n vs K) vs K
noncomputable abbrev o27_l5 {R : Type} (n : Nat) (vs : List SV) (K : Kc R) : Option R := o27_l5a0 n vs K
noncomputable abbrev lo27 {R : Type} (n : Nat) : Orc R := fun i vs K => bif Nat.beq i 5 then o27_l5 n vs K else none
noncomputable abbrev cu27 {R : Type} (n : Nat) : Orc R := fun i vs K => none
section
variable {R : Type}
theorem pa27_l5 (n : Nat) : allP (PartOK (R := R) Try.prog (env27 n) ann27 n (24, []) (lo27 n) (cu27 n)) (partsOf ann27 c27_l5) := by
  have h : partsOf ann27 c27_l5 = [] := by kernel_rfl
  rw [h]
  exact trivial
theorem sp27_l5 (n m : Nat) (x1 : ByteArray) (x2 : Int) (x3 : Int) (x4 : Int) (K : Kc R) : evLoop (fun f k => evOi Try.prog (env27 n) ann27 (24, []) (lo27 n) (cu27 n) c27_l5 f k) (liveA ann27.loops 5) (outA ann27.loops 5) (m + 1) [.p (.v (.string x1)), .p (.v (.int .i64 x2)), .p (.v (.int .i64 x3)), .p (.v (.int .i64 x4))] K = p27_l5B n (fun (x1 : ByteArray) (x2 : Int) (x3 : Int) (x4 : Int) => evLoop (fun f k => evOi Try.prog (env27 n) ann27 (24, []) (lo27 n) (cu27 n) c27_l5 f k) (liveA ann27.loops 5) (outA ann27.loops 5) m [.p (.v (.string x1)), .p (.v (.int .i64 x2)), .p (.v (.int .i64 x3)), .p (.v (.int .i64 x4))] K) x1 x2 x3 x4 (fun (y1 : Int) (y2 : Int) => K .ret (lk (outA ann27.loops 5) [.p (.v (.int .i64 y1)), .p (.v (.int .i64 y2))])) (fun (y1 : Int) => K (.exit 0) (lk (outA ann27.loops 5) [.dead, .p (.v (.int .i64 y1))])) := by kernel_rfl
theorem ep27_l5 (n : Nat) (K : Kc R) : ∀ (m : Nat) (x1 : ByteArray) (x2 : Int) (x3 : Int) (x4 : Int), evLoop (fun f k => evOi Try.prog (env27 n) ann27 (24, []) (lo27 n) (cu27 n) c27_l5 f k) (liveA ann27.loops 5) (outA ann27.loops 5) m [.p (.v (.string x1)), .p (.v (.int .i64 x2)), .p (.v (.int .i64 x3)), .p (.v (.int .i64 x4))] K = p27_l5L n m x1 x2 x3 x4 (fun (y1 : Int) (y2 : Int) => K .ret (lk (outA ann27.loops 5) [.p (.v (.int .i64 y1)), .p (.v (.int .i64 y2))])) (fun (y1 : Int) => K (.exit 0) (lk (outA ann27.loops 5) [.dead, .p (.v (.int .i64 y1))]))
  | 0, _, _, _, _ => rfl
  | m + 1, x1, x2, x3, x4 => (sp27_l5 n m x1 x2 x3 x4 K).trans (congrArg (fun l => p27_l5B n l x1 x2 x3 x4 (fun (y1 : Int) (y2 : Int) => K .ret (lk (outA ann27.loops 5) [.p (.v (.int .i64 y1)), .p (.v (.int .i64 y2))])) (fun (y1 : Int) => K (.exit 0) (lk (outA ann27.loops 5) [.dead, .p (.v (.int .i64 y1))]))) ((funext fun z0 => (funext fun z1 => (funext fun z2 => (funext fun z3 => (ep27_l5 n K m z0 z1 z2 z3)))))))
theorem q27_l5a1 (n : Nat) (vs : List SV) (K : Kc R) : evLoop (fun f k => evC Try.prog (env27 n) ann27 n (24, []) c27_l5 f k) (liveA ann27.loops 5) (outA ann27.loops 5) n vs K = o27_l5a1 n vs K := rfl
theorem q27_l5a0 (n : Nat) (vs : List SV) (K : Kc R) : evLoop (fun f k => evC Try.prog (env27 n) ann27 n (24, []) c27_l5 f k) (liveA ann27.loops 5) (outA ann27.loops 5) n vs K = o27_l5a0 n vs K := by
  unfold o27_l5a0 o27_l5t0
  refine dCons_eq (fun _ _ e => ?_) (q27_l5a1 n _ K)
  subst e
  refine dP_eq (fun _ e => ?_) (q27_l5a1 n _ K)
  subst e
  refine dStr_eq (fun _ e => ?_) (q27_l5a1 n _ K)
  subst e
  refine dCons_eq (fun _ _ e => ?_) (q27_l5a1 n _ K)
  subst e
  refine dP_eq (fun _ e => ?_) (q27_l5a1 n _ K)
  subst e
  refine dInt_eq (fun _ e => ?_) (q27_l5a1 n _ K)
  subst e
  refine dCons_eq (fun _ _ e => ?_) (q27_l5a1 n _ K)
  subst e
  refine dP_eq (fun _ e => ?_) (q27_l5a1 n _ K)
  subst e
  refine dInt_eq (fun _ e => ?_) (q27_l5a1 n _ K)
  subst e
  refine dCons_eq (fun _ _ e => ?_) (q27_l5a1 n _ K)
  subst e
  refine dP_eq (fun _ e => ?_) (q27_l5a1 n _ K)
  subst e
  refine dInt_eq (fun _ e => ?_) (q27_l5a1 n _ K)
  subst e
  refine dNil_eq (fun e => ?_) (q27_l5a1 n _ K)
  subst e
  rw [evLoop_congr (evC_evOi c27_l5 (pa27_l5 n))]
  exact ep27_l5 n K n _ _ _ _
theorem q27_l5 (n : Nat) : PartOK (R := R) Try.prog (env27 n) ann27 n (24, []) (lo27 n) (cu27 n) (false, 5, c27_l5) := fun vs K => q27_l5a0 n vs K
theorem pa27 (n : Nat) : allP (PartOK (R := R) Try.prog (env27 n) ann27 n (24, []) (lo27 n) (cu27 n)) (partsOf ann27 (bodyOf Try.f27)) := by
  have h : partsOf ann27 (bodyOf Try.f27) = [(false, 5, c27_l5)] := by kernel_rfl
  rw [h]
  exact ⟨q27_l5 n, trivial⟩
theorem ep27 (n : Nat) (x1 : ByteArray) (x2 : Int) (K : List SV → Option R) : evFnOi Try.prog (env27 n) ann27 (lo27 n) (cu27 n) Try.f27 [.p (.v (.string x1)), .p (.v (.int .i64 x2))] K = p27 n x1 x2 (fun (y1 : Int) => K [.p (.v (.int .i64 y1))]) := by kernel_rfl
noncomputable abbrev fs27a1 (n : Nat) (args : List SV) (K : List SV → Option R) : Option R := none
noncomputable abbrev fs27t0 (n : Nat) (D : Option R) (args : List SV) (K : List SV → Option R) : Option R :=
  dCons args D fun z1 z2 => dP z1 D fun z3 => dStr z3 D fun x1 => dCons z2 D fun z4 z5 => dP z4 D fun z6 => dInt .i64 z6 D fun x2 => dNil z5 D (p27 n x1 x2 (fun (y1 : Int) => K [.p (.v (.int .i64 y1))]))
noncomputable abbrev fs27a0 (n : Nat) (args : List SV) (K : List SV → Option R) : Option R := fs27t0 n (fs27a1 n args K) args K
theorem hs27a1 (n : Nat) (args : List SV) (K : List SV → Option R) (res : R) : fs27a1 n args K = some res → evFn Try.prog (env27 n) ann27 n Try.f27 args K = some res := fun h => by cases h
theorem hs27a0 (n : Nat) (args : List SV) (K : List SV → Option R) (res : R) : fs27a0 n args K = some res → evFn Try.prog (env27 n) ann27 n Try.f27 args K = some res := by
  unfold fs27a0 fs27t0
  refine dCons_imp (fun _ _ e => ?_) (hs27a1 n _ K res)
  subst e
  refine dP_imp (fun _ e => ?_) (hs27a1 n _ K res)
  subst e
  refine dStr_imp (fun _ e => ?_) (hs27a1 n _ K res)
  subst e
  refine dCons_imp (fun _ _ e => ?_) (hs27a1 n _ K res)
  subst e
  refine dP_imp (fun _ e => ?_) (hs27a1 n _ K res)
  subst e
  refine dInt_imp (fun _ e => ?_) (hs27a1 n _ K res)
  subst e
  refine dNil_imp (fun e => ?_) (hs27a1 n _ K res)
  subst e
  intro h
  rw [evFn_evOi (c := bodyOf Try.f27) (by kernel_rfl) (pa27 n), ep27]
  exact h
end
noncomputable abbrev fs27 (n : Nat) : FS := { om := [false, false], run := fun args K => fs27a0 n args K }
theorem ok27 (n : Nat) : FSound Try.prog 27 (fs27 n) :=
  FSound.of (envok27 n) (ann := ann27) (n := n) (by kernel_rfl) Try.func27 (by kernel_rfl) (by kernel_rfl) fun {R args K res} h => hs27a0 n args K res h
end Go.Proofs.Ytlplpkbhjddmeaa


set_option linter.unusedVariables false
set_option maxRecDepth 100000
namespace Go.Proofs.Ytlplpkbhjddmeaa
open Go Th Go.Proofs
def ann15 : Ann := { loops := [], cuts := [], frz := [], rm := [.id, .id] }
noncomputable abbrev env15 (n : Nat) : Env := fun i => bif Nat.beq i 27 then some (fs27 n) else (fun i => bif Nat.beq i 21 then some (fs21 n) else (fun _ => none) i) i
theorem envok15 (n : Nat) : EnvOK Try.prog (env15 n) := EnvOK.cons (EnvOK.cons (EnvOK.nil) (ok21 n)) (ok27 n)
noncomputable def p15 {R : Type} (n : Nat) (x1 : ByteArray) (x2 : Int) (x3 : Int) (k0 : Int → Int → Option R) : Option R :=
  p27 n x1 x2 (fun (y4 : Int) => bif (decide (y4 < 0)) then (k0 0 9) else (bif (decide (x3 < 0)) then (k0 0 2) else (p21 n x1 y4 (fun (y5 : Int) => bif (bif false then true else (decide (x3 > IntKind.i64.wrap (y5 - y4)))) then (k0 0 2) else (k0 (IntKind.i64.wrap (y4 + x3)) 0)))))
noncomputable abbrev lo15 {R : Type} (n : Nat) : Orc R := fun i vs K => none
noncomputable abbrev cu15 {R : Type} (n : Nat) : Orc R := fun i vs K => none
section
variable {R : Type}
theorem pa15 (n : Nat) : allP (PartOK (R := R) Try.prog (env15 n) ann15 n (28, []) (lo15 n) (cu15 n)) (partsOf ann15 (bodyOf Try.f15)) := by
  have h : partsOf ann15 (bodyOf Try.f15) = [] := by kernel_rfl
  rw [h]
  exact trivial
theorem ep15 (n : Nat) (x1 : ByteArray) (x2 : Int) (x3 : Int) (K : List SV → Option R) : evFnOi Try.prog (env15 n) ann15 (lo15 n) (cu15 n) Try.f15 [.p (.v (.string x1)), .p (.v (.int .i64 x2)), .p (.v (.int .i64 x3))] K = p15 n x1 x2 x3 (fun (y1 : Int) (y2 : Int) => K [.p (.v (.int .i64 y1)), .p (.v (.int .i64 y2))]) := by kernel_rfl
noncomputable abbrev fs15a1 (n : Nat) (args : List SV) (K : List SV → Option R) : Option R := none
noncomputable abbrev fs15t0 (n : Nat) (D : Option R) (args : List SV) (K : List SV → Option R) : Option R :=
  dCons args D fun z1 z2 => dP z1 D fun z3 => dStr z3 D fun x1 => dCons z2 D fun z4 z5 => dP z4 D fun z6 => dInt .i64 z6 D fun x2 => dCons z5 D fun z7 z8 => dP z7 D fun z9 => dInt .i64 z9 D fun x3 => dNil z8 D (p15 n x1 x2 x3 (fun (y1 : Int) (y2 : Int) => K [.p (.v (.int .i64 y1)), .p (.v (.int .i64 y2))]))
noncomputable abbrev fs15a0 (n : Nat) (args : List SV) (K : List SV → Option R) : Option R := fs15t0 n (fs15a1 n args K) args K
theorem hs15a1 (n : Nat) (args : List SV) (K : List SV → Option R) (res : R) : fs15a1 n args K = some res → evFn Try.prog (env15 n) ann15 n Try.f15 args K = some res := fun h => by cases h
theorem hs15a0 (n : Nat) (args : List SV) (K : List SV → Option R) (res : R) : fs15a0 n args K = some res → evFn Try.prog (env15 n) ann15 n Try.f15 args K = some res := by
  unfold fs15a0 fs15t0
  refine dCons_imp (fun _ _ e => ?_) (hs15a1 n _ K res)
  subst e
  refine dP_imp (fun _ e => ?_) (hs15a1 n _ K res)
  subst e
  refine dStr_imp (fun _ e => ?_) (hs15a1 n _ K res)
  subst e
  refine dCons_imp (fun _ _ e => ?_) (hs15a1 n _ K res)
  subst e
  refine dP_imp (fun _ e => ?_) (hs15a1 n _ K res)
  subst e
  refine dInt_imp (fun _ e => ?_) (hs15a1 n _ K res)
  subst e
  refine dCons_imp (fun _ _ e => ?_) (hs15a1 n _ K res)
  subst e
  refine dP_imp (fun _ e => ?_) (hs15a1 n _ K res)
  subst e
  refine dInt_imp (fun _ e => ?_) (hs15a1 n _ K res)
  subst e
  refine dNil_imp (fun e => ?_) (hs15a1 n _ K res)
  subst e
  intro h
  rw [evFn_evOi (c := bodyOf Try.f15) (by kernel_rfl) (pa15 n), ep15]
  exact h
end
noncomputable abbrev fs15 (n : Nat) : FS := { om := [false, false, false], run := fun args K => fs15a0 n args K }
theorem ok15 (n : Nat) : FSound Try.prog 15 (fs15 n) :=
  FSound.of (envok15 n) (ann := ann15) (n := n) (by kernel_rfl) Try.func15 (by kernel_rfl) (by kernel_rfl) fun {R args K res} h => hs15a0 n args K res h
end Go.Proofs.Ytlplpkbhjddmeaa


set_option linter.unusedVariables false
set_option maxRecDepth 100000
namespace Go.Proofs.Ytlplpkbhjddmeaa
open Go Th Go.Proofs
def ann28 : Ann := { loops := [(5, [(0, .id), (1, .id), (5, .id), (6, .id)], [(4, .id)])], cuts := [(6, [(0, .id), (1, .id), (5, .id), (6, .id)], [(0, .id), (1, .id), (4, .id), (5, .id), (6, .id)])], frz := [], rm := [.id] }
noncomputable abbrev env28 (n : Nat) : Env := fun _ => none
theorem envok28 (n : Nat) : EnvOK Try.prog (env28 n) := EnvOK.nil
noncomputable def p28_c6 {R : Type} (n : Nat) (x1 : ByteArray) (x2 : Int) (x3 : Int) (x4 : Int) (k0 : ByteArray → Int → Int → Int → Option R) : Option R :=
  k0 x1 x2 x3 (IntKind.i64.wrap (x4 + 1))
noncomputable def p28_l5B {R : Type} (n : Nat) (l0 : ByteArray → Int → Int → Int → Option R) (x1 : ByteArray) (x2 : Int) (x3 : Int) (x4 : Int) (k0 : Int → Option R) (k1 : Option R) : Option R :=
  bif (decide (x4 ≤ ((x1).size : Int))) then (bif (x3 == x2) then (k0 x4) else (bif (decide (x4 < ((x1).size : Int))) then (bif (inR x4 (x1).size) then (bif (bif true then (byteAt x1 x4 == 10) else false) then (p28_c6 n x1 x2 (IntKind.i64.wrap (x3 + 1)) x4 (fun (y5 : ByteArray) (y6 : Int) (y7 : Int) (y8 : Int) => l0 y5 y6 y7 y8)) else (p28_c6 n x1 x2 x3 x4 (fun (y9 : ByteArray) (y10 : Int) (y11 : Int) (y12 : Int) => l0 y9 y10 y11 y12))) else none) else (p28_c6 n x1 x2 x3 x4 (fun (y13 : ByteArray) (y14 : Int) (y15 : Int) (y16 : Int) => l0 y13 y14 y15 y16)))) else (k1)
noncomputable def p28_l5L {R : Type} (n : Nat) : Nat → ByteArray → Int → Int → Int → (Int → Option R) → (Option R) → Option R
  | 0, _, _, _, _, _, _ => none
  | m + 1, x1, x2, x3, x4, k0, k1 => p28_l5B n (fun x1 x2 x3 x4 => p28_l5L n m x1 x2 x3 x4 k0 k1) x1 x2 x3 x4 k0 k1
noncomputable def p28_l5 {R : Type} (n : Nat) (x1 : ByteArray) (x2 : Int) (x3 : Int) (x4 : Int) (k0 : Int → Option R) (k1 : Option R) : Option R := p28_l5L n n x1 x2 x3 x4 k0 k1
noncomputable def p28 {R : Type} (n : Nat) (x1 : ByteArray) (x2 : Int) (k0 : Int → Option R) : Option R :=
  bif (decide (x2 < 0)) then (k0 (-1)) else (p28_l5 n x1 x2 0 0 (fun (y3 : Int) => k0 y3) (k0 (-1)))
noncomputable def c28_c6 : Code := subC (bodyOf Try.f28) [1, 1, 1, 0, 1, 0, 0, 1, 1]
noncomputable abbrev o28_c6a1 {R : Type} (n : Nat) (vs : List SV) (K : Kc R) : Option R := evCut (fun f k => evC Try.prog (env28 n) ann28 n (31, []) c28_c6 f k) (liveA ann28.cuts 6) (outA ann28.cuts 6) vs K
noncomputable abbrev o28_c6t0 {R : Type} (n : Nat) (D : Option R) (vs : List SV) (K : Kc R) : Option R :=
  dCons vs D fun z1 z2 => dP z1 D fun z3 => dStr z3 D fun x1 => dCons z2 D fun z4 z5 => dP z4 D fun z6 => dInt .i64 z6 D fun x2 => dCons z5 D fun z7 z8 => dP z7 D fun z9 => dInt .i64 z9 D fun x3 => dCons z8 D fun z10 z11 => dP z10 D fun z12 => dInt .i64 z12 D fun x4 => dNil z11 D (p28_c6 n x1 x2 x3 x4 (fun (y1 : ByteArray) (y2 : Int) (y3 : Int) (y4 : Int) => K .normal (lk (outA ann28.cuts 6) [.p (.v (.string y1)), .p (.v (.int .i64 y2)), .dead, .p (.v (.int .i64 y3)), .p (.v (.int .i64 y4))])))
noncomputable abbrev o28_c6a0 {R : Type} (n : Nat) (vs : List SV) (K : Kc R) : Option R := o28_c6t0 n (o28_c6a1 n vs K) vs K
noncomputable abbrev o28_c6 {R : Type} (n : Nat) (vs : List SV) (K : Kc R) : Option R := o28_c6a0 n vs K
noncomputable def c28_l5 : Code := subC (bodyOf Try.f28) [1, 1, 1, 0, 1, 0, 0]
noncomputable abbrev o28_l5a1 {R : Type} (n : Nat) (vs : List SV) (K : Kc R) : Option R := evLoop (fun f k => evC Try.prog (env28 n) ann28 n (31, []) c28_l5 f k) (liveA ann28.loops 5) (outA ann28.loops 5) n vs K
noncomputable abbrev o28_l5t0 {R : Type} (n : Nat) (D : Option R) (vs : List SV) (K : Kc R) : Option R :=
  dCons vs D fun z1 z2 => dP z1 D fun z3 => dStr z3 D fun x1 => dCons z2 D fun z4 z5 => dP z4 D fun z6 => dInt .i64 z6 D fun x2 => dCons z5 D fun z7 z8 => dP z7 D fun z9 => dInt .i64 z9 D fun x3 => dCons z8 D fun z10 z11 => dP z10 D fun z12 => dInt .i64 z12 D fun x4 => dNil z11 D (p28_l5 n x1 x2 x3 x4 (fun (y1 : Int) => K .ret (lk (outA ann28.loops 5) [.p (.v (.int .i64 y1))])) (K (.exit 0) (lk (outA ann28.loops 5) [.dead])))
noncomputable abbrev o28_l5a0 {R : Type} (n : Nat) (vs : List SV) (K : Kc R) : Option R := o28_l5t0 n (o28_l5a1 n vs K) vs K
noncomputable abbrev o28_l5 {R : Type} (n : Nat) (vs : List SV) (K : Kc R) : Option R := o28_l5a0 n vs K
noncomputable abbrev lo28 {R : Type} (n : Nat) : Orc R := fun i vs K => bif Nat.beq i 5 then o28_l5 n vs K else none
noncomputable abbrev cu28 {R : Type} (n : Nat) : Orc R := fun i vs K => bif Nat.beq i 6 then o28_c6 n vs K else none
section
variable {R : Type}
theorem pa28_c6 (n : Nat) : allP (PartOK (R := R) Try.prog (env28 n) ann28 n (31, []) (lo28 n) (cu28 n)) (partsOf ann28 c28_c6) := by
  have h : partsOf ann28 c28_c6 = [] := by kernel_rfl
  rw [h]
  exact trivial
theorem ep28_c6 (n : Nat) (x1 : ByteArray) (x2 : Int) (x3 : Int) (x4 : Int) (K : Kc R) : evCut (fun f k => evOi Try.prog (env28 n) ann28 (31, []) (lo28 n) (cu28 n) c28_c6 f k) (liveA ann28.cuts 6) (outA ann28.cuts 6) [.p (.v (.string x1)), .p (.v (.int .i64 x2)), .p (.v (.int .i64 x3)), .p (.v (.int .i64 x4))] K = p28_c6 n x1 x2 x3 x4 (fun (y1 : ByteArray) (y2 : Int) (y3 : Int) (y4 : Int) => K .normal (lk (outA ann28.cuts 6) [.p (.v (.string y1)), .p (.v (.int .i64 y2)), .dead, .p (.v (.int .i64 y3)), .p (.v (.int .i64 y4))])) := by kernel_rfl
theorem q28_c6a1 (n : Nat) (vs : List SV) (K : Kc R) : evCut (fun f k => evC Try.prog (env28 n) ann28 n (31, []) c28_c6 f k) (liveA ann28.cuts 6) (outA ann28.cuts 6) vs K = o28_c6a1 n vs K := rfl
theorem q28_c6a0 (n : Nat) (vs : List SV) (K : Kc R) : evCut (fun f k => evC Try.prog (env28 n) ann28 n (31, []) c28_c6 f k) (liveA ann28.cuts 6) (outA ann28.cuts 6) vs K = o28_c6a0 n vs K := by
  unfold o28_c6a0 o28_c6t0
  refine dCons_eq (fun _ _ e => ?_) (q28_c6a1 n _ K)
  subst e
  refine dP_eq (fun _ e => ?_) (q28_c6a1 n _ K)
  subst e
  refine dStr_eq (fun _ e => ?_) (q28_c6a1 n _ K)
  subst e
  refine dCons_eq (fun _ _ e => ?_) (q28_c6a1 n _ K)
  subst e
  refine dP_eq (fun _ e => ?_) (q28_c6a1 n _ K)
  subst e
  refine dInt_eq (fun _ e => ?_) (q28_c6a1 n _ K)
  subst e
  refine dCons_eq (fun _ _ e => ?_) (q28_c6a1 n _ K)
  subst e
  refine dP_eq (fun _ e => ?_) (q28_c6a1 n _ K)
  subst e
  refine dInt_eq (fun _ e => ?_) (q28_c6a1 n _ K)
  subst e
  refine dCons_eq (fun _ _ e => ?_) (q28_c6a1 n _ K)
  subst e
  refine dP_eq (fun _ e => ?_) (q28_c6a1 n _ K)
  subst e
  refine dInt_eq (fun _ e => ?_) (q28_c6a1 n _ K)
  subst e
  refine dNil_eq (fun e => ?_) (q28_c6a1 n _ K)
  subst e
  rw [evCut_congr (evC_evOi c28_c6 (pa28_c6 n))]
  exact ep28_c6 n _ _ _ _ K
theorem q28_c6 (n : Nat) : PartOK (R := R) Try.prog (env28 n) ann28 n (31, []) (lo28 n) (cu28 n) (true, 6, c28_c6) := fun vs K => q28_c6a0 n vs K
theorem pa28_l5 (n : Nat) : allP (PartOK (R := R) Try.prog (env28 n) ann28 n (31, []) (lo28 n) (cu28 n)) (partsOf ann28 c28_l5) := by
  have h : partsOf ann28 c28_l5 = [(true, 6, c28_c6)] := by kernel_rfl
  rw [h]
  exact ⟨q28_c6 n, trivial⟩
theorem sp28_l5 (n m : Nat) (x1 : ByteArray) (x2 : Int) (x3 : Int) (x4 : Int) (K : Kc R) : evLoop (fun f k => evOi Try.prog (env28 n) ann28 (31, []) (lo28 n) (cu28 n) c28_l5 f k) (liveA ann28.loops 5) (outA ann28.loops 5) (m + 1) [.p (.v (.string x1)), .p (.v (.int .i64 x2)), .p (.v (.int .i64 x3)), .p (.v (.int .i64 x4))] K = p28_l5B n (fun (x1 : ByteArray) (x2 : Int) (x3 : Int) (x4 : Int) => evLoop (fun f k => evOi Try.prog (env28 n) ann28 (31, []) (lo28 n) (cu28 n) c28_l5 f k) (liveA ann28.loops 5) (outA ann28.loops 5) m [.p (.v (.string x1)), .p (.v (.int .i64 x2)), .p (.v (.int .i64 x3)), .p (.v (.int .i64 x4))] K) x1 x2 x3 x4 (fun (y1 : Int) => K .ret (lk (outA ann28.loops 5) [.p (.v (.int .i64 y1))])) (K (.exit 0) (lk (outA ann28.loops 5) [.dead])) := by kernel_rfl
theorem ep28_l5 (n : Nat) (K : Kc R) : ∀ (m : Nat) (x1 : ByteArray) (x2 : Int) (x3 : Int) (x4 : Int), evLoop (fun f k => evOi Try.prog (env28 n) ann28 (31, []) (lo28 n) (cu28 n) c28_l5 f k) (liveA ann28.loops 5) (outA ann28.loops 5) m [.p (.v (.string x1)), .p (.v (.int .i64 x2)), .p (.v (.int .i64 x3)), .p (.v (.int .i64 x4))] K = p28_l5L n m x1 x2 x3 x4 (fun (y1 : Int) => K .ret (lk (outA ann28.loops 5) [.p (.v (.int .i64 y1))])) (K (.exit 0) (lk (outA ann28.loops 5) [.dead]))
  | 0, _, _, _, _ => rfl
  | m + 1, x1, x2, x3, x4 => (sp28_l5 n m x1 x2 x3 x4 K).trans (congrArg (fun l => p28_l5B n l x1 x2 x3 x4 (fun (y1 : Int) => K .ret (lk (outA ann28.loops 5) [.p (.v (.int .i64 y1))])) (K (.exit 0) (lk (outA ann28.loops 5) [.dead]))) ((funext fun z0 => (funext fun z1 => (funext fun z2 => (funext fun z3 => (ep28_l5 n K m z0 z1 z2 z3)))))))
theorem q28_l5a1 (n : Nat) (vs : List SV) (K : Kc R) : evLoop (fun f k => evC Try.prog (env28 n) ann28 n (31, []) c28_l5 f k) (liveA ann28.loops 5) (outA ann28.loops 5) n vs K = o28_l5a1 n vs K := rfl
theorem q28_l5a0 (n : Nat) (vs : List SV) (K : Kc R) : evLoop (fun f k => evC Try.prog (env28 n) ann28 n (31, []) c28_l5 f k) (liveA ann28.loops 5) (outA ann28.loops 5) n vs K = o28_l5a0 n vs K := by
  unfold o28_l5a0 o28_l5t0
  refine dCons_eq (fun _ _ e => ?_) (q28_l5a1 n _ K)
  subst e
  refine dP_eq (fun _ e => ?_) (q28_l5a1 n _ K)
  subst e
  refine dStr_eq (fun _ e => ?_) (q28_l5a1 n _ K)
  subst e
  refine dCons_eq (fun _ _ e => ?_) (q28_l5a1 n _ K)
  subst e
  refine dP_eq (fun _ e => ?_) (q28_l5a1 n _ K)
  subst e
  refine dInt_eq (fun _ e => ?_) (q28_l5a1 n _ K)
  subst e
  refine dCons_eq (fun _ _ e => ?_) (q28_l5a1 n _ K)
  subst e
  refine dP_eq (fun _ e => ?_) (q28_l5a1 n _ K)
  subst e
  refine dInt_eq (fun _ e => ?_) (q28_l5a1 n _ K)
  subst e
  refine dCons_eq (fun _ _ e => ?_) (q28_l5a1 n _ K)
  subst e
  refine dP_eq (fun _ e => ?_) (q28_l5a1 n _ K)
  subst e
  refine dInt_eq (fun _ e => ?_) (q28_l5a1 n _ K)
  subst e
  refine dNil_eq (fun e => ?_) (q28_l5a1 n _ K)
  subst e
  rw [evLoop_congr (evC_evOi c28_l5 (pa28_l5 n))]
  exact ep28_l5 n K n _ _ _ _
theorem q28_l5 (n : Nat) : PartOK (R := R) Try.prog (env28 n) ann28 n (31, []) (lo28 n) (cu28 n) (false, 5, c28_l5) := fun vs K => q28_l5a0 n vs K
theorem pa28 (n : Nat) : allP (PartOK (R := R) Try.prog (env28 n) ann28 n (31, []) (lo28 n) (cu28 n)) (partsOf ann28 (bodyOf Try.f28)) := by
  have h : partsOf ann28 (bodyOf Try.f28) = [(false, 5, c28_l5)] := by kernel_rfl
  rw [h]
  exact ⟨q28_l5 n, trivial⟩
theorem ep28 (n : Nat) (x1 : ByteArray) (x2 : Int) (K : List SV → Option R) : evFnOi Try.prog (env28 n) ann28 (lo28 n) (cu28 n) Try.f28 [.p (.v (.string x1)), .p (.v (.int .i64 x2))] K = p28 n x1 x2 (fun (y1 : Int) => K [.p (.v (.int .i64 y1))]) := by kernel_rfl
noncomputable abbrev fs28a1 (n : Nat) (args : List SV) (K : List SV → Option R) : Option R := none
noncomputable abbrev fs28t0 (n : Nat) (D : Option R) (args : List SV) (K : List SV → Option R) : Option R :=
  dCons args D fun z1 z2 => dP z1 D fun z3 => dStr z3 D fun x1 => dCons z2 D fun z4 z5 => dP z4 D fun z6 => dInt .i64 z6 D fun x2 => dNil z5 D (p28 n x1 x2 (fun (y1 : Int) => K [.p (.v (.int .i64 y1))]))
noncomputable abbrev fs28a0 (n : Nat) (args : List SV) (K : List SV → Option R) : Option R := fs28t0 n (fs28a1 n args K) args K
theorem hs28a1 (n : Nat) (args : List SV) (K : List SV → Option R) (res : R) : fs28a1 n args K = some res → evFn Try.prog (env28 n) ann28 n Try.f28 args K = some res := fun h => by cases h
theorem hs28a0 (n : Nat) (args : List SV) (K : List SV → Option R) (res : R) : fs28a0 n args K = some res → evFn Try.prog (env28 n) ann28 n Try.f28 args K = some res := by
  unfold fs28a0 fs28t0
  refine dCons_imp (fun _ _ e => ?_) (hs28a1 n _ K res)
  subst e
  refine dP_imp (fun _ e => ?_) (hs28a1 n _ K res)
  subst e
  refine dStr_imp (fun _ e => ?_) (hs28a1 n _ K res)
  subst e
  refine dCons_imp (fun _ _ e => ?_) (hs28a1 n _ K res)
  subst e
  refine dP_imp (fun _ e => ?_) (hs28a1 n _ K res)
  subst e
  refine dInt_imp (fun _ e => ?_) (hs28a1 n _ K res)
  subst e
  refine dNil_imp (fun e => ?_) (hs28a1 n _ K res)
  subst e
  intro h
  rw [evFn_evOi (c := bodyOf Try.f28) (by kernel_rfl) (pa28 n), ep28]
  exact h
end
noncomputable abbrev fs28 (n : Nat) : FS := { om := [false, false], run := fun args K => fs28a0 n args K }
theorem ok28 (n : Nat) : FSound Try.prog 28 (fs28 n) :=
  FSound.of (envok28 n) (ann := ann28) (n := n) (by kernel_rfl) Try.func28 (by kernel_rfl) (by kernel_rfl) fun {R args K res} h => hs28a0 n args K res h
end Go.Proofs.Ytlplpkbhjddmeaa


set_option linter.unusedVariables false
set_option maxRecDepth 100000
namespace Go.Proofs.Ytlplpkbhjddmeaa
open Go Th Go.Proofs
def ann18 : Ann := { loops := [(5, [(0, .id), (6, .id), (7, .id)], [(0, .id), (4, .id), (5, .id), (6, .id), (7, .id)])], cuts := [], frz := [], rm := [.id, .id] }
noncomputable abbrev env18 (n : Nat) : Env := fun i => bif Nat.beq i 28 then some (fs28 n) else (fun _ => none) i
theorem envok18 (n : Nat) : EnvOK Try.prog (env18 n) := EnvOK.cons (EnvOK.nil) (ok28 n)
noncomputable def p18_l5B {R : Type} (n : Nat) (l0 : ByteArray → Int → Int → Option R) (x1 : ByteArray) (x2 : Int) (x3 : Int) (k0 : ByteArray → Int → Int → Option R) : Option R :=
  bif (decide (x3 < ((x1).size : Int))) then (bif (inR x3 (x1).size) then (bif (bif true then (byteAt x1 x3 != 10) else false) then (l0 x1 x2 (IntKind.i64.wrap (x3 + 1))) else (k0 x1 x2 x3)) else none) else (k0 x1 x2 x3)
noncomputable def p18_l5L {R : Type} (n : Nat) : Nat → ByteArray → Int → Int → (ByteArray → Int → Int → Option R) → Option R
  | 0, _, _, _, _ => none
  | m + 1, x1, x2, x3, k0 => p18_l5B n (fun x1 x2 x3 => p18_l5L n m x1 x2 x3 k0) x1 x2 x3 k0
noncomputable def p18_l5 {R : Type} (n : Nat) (x1 : ByteArray) (x2 : Int) (x3 : Int) (k0 : ByteArray → Int → Int → Option R) : Option R := p18_l5L n n x1 x2 x3 k0
noncomputable def p18 {R : Type} (n : Nat) (x1 : ByteArray) (x2 : Int) (k0 : ByteArray → Int → Option R) : Option R :=
  p28 n x1 x2 (fun (y3 : Int) => bif (decide (y3 < 0)) then (k0 ⟨#[]⟩ 9) else (p18_l5 n x1 y3 y3 (fun (y4 : ByteArray) (y5 : Int) (y6 : Int) => bif (cutR y5 y6 (y4).size) then (k0 (ByteArray.extract y4 (y5 : Int).toNat (y6 : Int).toNat) 0) else none)))
noncomputable def c18_l5 : Code := subC (bodyOf Try.f18) [1, 1, 1, 1, 0, 0, 0]
noncomputable abbrev o18_l5a1 {R : Type} (n : Nat) (vs : List SV) (K : Kc R) : Option R := evLoop (fun f k => evC Try.prog (env18 n) ann18 n (30, []) c18_l5 f k) (liveA ann18.loops 5) (outA ann18.loops 5) n vs K
noncomputable abbrev o18_l5t0 {R : Type} (n : Nat) (D : Option R) (vs : List SV) (K : Kc R) : Option R :=
  dCons vs D fun z1 z2 => dP z1 D fun z3 => dStr z3 D fun x1 => dCons z2 D fun z4 z5 => dP z4 D fun z6 => dInt .i64 z6 D fun x2 => dCons z5 D fun z7 z8 => dP z7 D fun z9 => dInt .i64 z9 D fun x3 => dNil z8 D (p18_l5 n x1 x2 x3 (fun (y1 : ByteArray) (y2 : Int) (y3 : Int) => K (.exit 0) (lk (outA ann18.loops 5) [.p (.v (.string y1)), .dead, .dead, .p (.v (.int .i64 y2)), .p (.v (.int .i64 y3))])))
noncomputable abbrev o18_l5a0 {R : Type} (n : Nat) (vs : List SV) (K : Kc R) : Option R := o18_l5t0 n (o18_l5a1 n vs K) vs K
noncomputable abbrev o18_l5 {R : Type} (n : Nat) (vs : List SV) (K : Kc R) : Option R := o18_l5a0 n vs K
noncomputable abbrev lo18 {R : Type} (n : Nat) : Orc R := fun i vs K => bif Nat.beq i 5 then o18_l5 n vs K else none
noncomputable abbrev cu18 {R : Type} (n : Nat) : Orc R := fun i vs K => none
section
variable {R : Type}
theorem pa18_l5 (n : Nat) : allP (PartOK (R := R) Try.prog (env18 n) ann18 n (30, []) (lo18 n) (cu18 n)) (partsOf ann18 c18_l5) := by
  have h : partsOf ann18 c18_l5 = [] := by kernel_rfl
  rw [h]
  exact trivial
theorem sp18_l5 (n m : Nat) (x1 : ByteArray) (x2 : Int) (x3 : Int) (K : Kc R) : evLoop (fun f k => evOi Try.prog (env18 n) ann18 (30, []) (lo18 n) (cu18 n) c18_l5 f k) (liveA ann18.loops 5) (outA ann18.loops 5) (m + 1) [.p (.v (.string x1)), .p (.v (.int .i64 x2)), .p (.v (.int .i64 x3))] K = p18_l5B n (fun (x1 : ByteArray) (x2 : Int) (x3 : Int) => evLoop (fun f k => evOi Try.prog (env18 n) ann18 (30, []) (lo18 n) (cu18 n) c18_l5 f k) (liveA ann18.loops 5) (outA ann18.loops 5) m [.p (.v (.string x1)), .p (.v (.int .i64 x2)), .p (.v (.int .i64 x3))] K) x1 x2 x3 (fun (y1 : ByteArray) (y2 : Int) (y3 : Int) => K (.exit 0) (lk (outA ann18.loops 5) [.p (.v (.string y1)), .dead, .dead, .p (.v (.int .i64 y2)), .p (.v (.int .i64 y3))])) := by kernel_rfl
theorem ep18_l5 (n : Nat) (K : Kc R) : ∀ (m : Nat) (x1 : ByteArray) (x2 : Int) (x3 : Int), evLoop (fun f k => evOi Try.prog (env18 n) ann18 (30, []) (lo18 n) (cu18 n) c18_l5 f k) (liveA ann18.loops 5) (outA ann18.loops 5) m [.p (.v (.string x1)), .p (.v (.int .i64 x2)), .p (.v (.int .i64 x3))] K = p18_l5L n m x1 x2 x3 (fun (y1 : ByteArray) (y2 : Int) (y3 : Int) => K (.exit 0) (lk (outA ann18.loops 5) [.p (.v (.string y1)), .dead, .dead, .p (.v (.int .i64 y2)), .p (.v (.int .i64 y3))]))
  | 0, _, _, _ => rfl
  | m + 1, x1, x2, x3 => (sp18_l5 n m x1 x2 x3 K).trans (congrArg (fun l => p18_l5B n l x1 x2 x3 (fun (y1 : ByteArray) (y2 : Int) (y3 : Int) => K (.exit 0) (lk (outA ann18.loops 5) [.p (.v (.string y1)), .dead, .dead, .p (.v (.int .i64 y2)), .p (.v (.int .i64 y3))]))) ((funext fun z0 => (funext fun z1 => (funext fun z2 => (ep18_l5 n K m z0 z1 z2))))))
theorem q18_l5a1 (n : Nat) (vs : List SV) (K : Kc R) : evLoop (fun f k => evC Try.prog (env18 n) ann18 n (30, []) c18_l5 f k) (liveA ann18.loops 5) (outA ann18.loops 5) n vs K = o18_l5a1 n vs K := rfl
theorem q18_l5a0 (n : Nat) (vs : List SV) (K : Kc R) : evLoop (fun f k => evC Try.prog (env18 n) ann18 n (30, []) c18_l5 f k) (liveA ann18.loops 5) (outA ann18.loops 5) n vs K = o18_l5a0 n vs K := by
  unfold o18_l5a0 o18_l5t0
  refine dCons_eq (fun _ _ e => ?_) (q18_l5a1 n _ K)
  subst e
  refine dP_eq (fun _ e => ?_) (q18_l5a1 n _ K)
  subst e
  refine dStr_eq (fun _ e => ?_) (q18_l5a1 n _ K)
  subst e
  refine dCons_eq (fun _ _ e => ?_) (q18_l5a1 n _ K)
  subst e
  refine dP_eq (fun _ e => ?_) (q18_l5a1 n _ K)
  subst e
  refine dInt_eq (fun _ e => ?_) (q18_l5a1 n _ K)
  subst e
  refine dCons_eq (fun _ _ e => ?_) (q18_l5a1 n _ K)
  subst e
  refine dP_eq (fun _ e => ?_) (q18_l5a1 n _ K)
  subst e
  refine dInt_eq (fun _ e => ?_) (q18_l5a1 n _ K)
  subst e
  refine dNil_eq (fun e => ?_) (q18_l5a1 n _ K)
  subst e
  rw [evLoop_congr (evC_evOi c18_l5 (pa18_l5 n))]
  exact ep18_l5 n K n _ _ _
theorem q18_l5 (n : Nat) : PartOK (R := R) Try.prog (env18 n) ann18 n (30, []) (lo18 n) (cu18 n) (false, 5, c18_l5) := fun vs K => q18_l5a0 n vs K
theorem pa18 (n : Nat) : allP (PartOK (R := R) Try.prog (env18 n) ann18 n (30, []) (lo18 n) (cu18 n)) (partsOf ann18 (bodyOf Try.f18)) := by
  have h : partsOf ann18 (bodyOf Try.f18) = [(false, 5, c18_l5)] := by kernel_rfl
  rw [h]
  exact ⟨q18_l5 n, trivial⟩
theorem ep18 (n : Nat) (x1 : ByteArray) (x2 : Int) (K : List SV → Option R) : evFnOi Try.prog (env18 n) ann18 (lo18 n) (cu18 n) Try.f18 [.p (.v (.string x1)), .p (.v (.int .i64 x2))] K = p18 n x1 x2 (fun (y1 : ByteArray) (y2 : Int) => K [.p (.v (.string y1)), .p (.v (.int .i64 y2))]) := by kernel_rfl
noncomputable abbrev fs18a1 (n : Nat) (args : List SV) (K : List SV → Option R) : Option R := none
noncomputable abbrev fs18t0 (n : Nat) (D : Option R) (args : List SV) (K : List SV → Option R) : Option R :=
  dCons args D fun z1 z2 => dP z1 D fun z3 => dStr z3 D fun x1 => dCons z2 D fun z4 z5 => dP z4 D fun z6 => dInt .i64 z6 D fun x2 => dNil z5 D (p18 n x1 x2 (fun (y1 : ByteArray) (y2 : Int) => K [.p (.v (.string y1)), .p (.v (.int .i64 y2))]))
noncomputable abbrev fs18a0 (n : Nat) (args : List SV) (K : List SV → Option R) : Option R := fs18t0 n (fs18a1 n args K) args K
theorem hs18a1 (n : Nat) (args : List SV) (K : List SV → Option R) (res : R) : fs18a1 n args K = some res → evFn Try.prog (env18 n) ann18 n Try.f18 args K = some res := fun h => by cases h
theorem hs18a0 (n : Nat) (args : List SV) (K : List SV → Option R) (res : R) : fs18a0 n args K = some res → evFn Try.prog (env18 n) ann18 n Try.f18 args K = some res := by
  unfold fs18a0 fs18t0
  refine dCons_imp (fun _ _ e => ?_) (hs18a1 n _ K res)
  subst e
  refine dP_imp (fun _ e => ?_) (hs18a1 n _ K res)
  subst e
  refine dStr_imp (fun _ e => ?_) (hs18a1 n _ K res)
  subst e
  refine dCons_imp (fun _ _ e => ?_) (hs18a1 n _ K res)
  subst e
  refine dP_imp (fun _ e => ?_) (hs18a1 n _ K res)
  subst e
  refine dInt_imp (fun _ e => ?_) (hs18a1 n _ K res)
  subst e
  refine dNil_imp (fun e => ?_) (hs18a1 n _ K res)
  subst e
  intro h
  rw [evFn_evOi (c := bodyOf Try.f18) (by kernel_rfl) (pa18 n), ep18]
  exact h
end
noncomputable abbrev fs18 (n : Nat) : FS := { om := [false, false], run := fun args K => fs18a0 n args K }
theorem ok18 (n : Nat) : FSound Try.prog 18 (fs18 n) :=
  FSound.of (envok18 n) (ann := ann18) (n := n) (by kernel_rfl) Try.func18 (by kernel_rfl) (by kernel_rfl) fun {R args K res} h => hs18a0 n args K res h
end Go.Proofs.Ytlplpkbhjddmeaa


set_option linter.unusedVariables false
set_option linter.unusedSimpArgs false
namespace Go.Proofs.Ytlplpkbhjddmeaa
open Go Th Go.Proofs
variable {R : Type}
theorem byte_get {l : List UInt8} {i : Nat} (h : i < l.length) : byteAt (bs l) (i : Int) = ((l[i]).toNat : Int) := byteAt_nat h
theorem eq10 {c : UInt8} : (((c.toNat : Int)) == 10) = decide (c = 10) := by
  rw [Bool.eq_iff_iff]
  simp only [beq_iff_eq, decide_eq_true_eq]
  constructor
  · intro h; apply UInt8.toNat_inj.1; simp; omega
  · rintro rfl; rfl
theorem p32_loop (n : Nat) (l : List UInt8) (k0 : Int → Option R) (k1 : Option R) : ∀ (i m : Nat), i ≤ l.length → l.length < 2 ^ 62 → i < m →
    p32_l2L n m (bs l) 10 ((i : Int) - 1) k0 k1 = if tw (l.take i) = i then k1 else k0 ((i : Int) - 1 - tw (l.take i))
  | 0, m + 1, _, _, _ => by
    simp only [p32_l2L, p32_l2B]
    rw [show decide (((0 : Nat) : Int) - 1 ≥ 0) = false from rfl, cond_false, if_pos (by simp [tw])]
  | i + 1, m + 1, h, hb, hm => by
    have ih := p32_loop n l k0 k1 i m (by omega) hb (by omega)
    have hi : ((i + 1 : Nat) : Int) - 1 = (i : Int) := by omega
    have hle := tw_le (l.take i)
    rw [List.length_take] at hle
    simp only [p32_l2L, p32_l2B, hi]
    rw [decide_eq_true (by omega), cond_true, inR_t (by omega) (by rw [bs_size]; omega), cond_true, byte_get (by omega), eq10, w64 (by omega) (by omega), ih, take_snoc' (by omega), tw_snoc]
    by_cases hc : l[i] = 10
    · simp [hc]
    · simp only [hc, decide_false, cond_false, if_false]
      by_cases ht : tw (l.take i) = i
      · rw [if_pos ht, if_pos (by omega)]
      · rw [if_neg ht, if_neg (by omega)]
        congr 1; omega
theorem p20_eq (n : Nat) (l : List UInt8) (hb : l.length < 2 ^ 62) (hn : l.length < n) (k0 : Int → Option R) : p20 n (bs l) 10 k0 = k0 ((l.length : Int) - 1 - tw l) := by
  have h := p32_loop n l (fun (y4 : Int) => k0 y4) (k0 (-1)) l.length n (Nat.le_refl _) hb hn
  unfold p20 p32 p32_l2
  simp only [bs_size]
  rw [w64 (by omega) (by omega), h, List.take_length]
  have := tw_le l
  by_cases ht : tw l = l.length
  · rw [if_pos ht, ht]; congr 1; omega
  · rw [if_neg ht]
def lineCol (l : List UInt8) (x : Int) : Int × Int × Int := if x < 0 ∨ l.length < x then (0, 0, 2) else ((l.take x.toNat).count 10, tw (l.take x.toNat), 0)
theorem p11_eq (n : Nat) (l : List UInt8) (x : Int) (hb : l.length < 2 ^ 62) (hn : l.length < n) (k0 : Int → Int → Int → Option R) :
    p11 n (bs l) x k0 = k0 (lineCol l x).1 (lineCol l x).2.1 (lineCol l x).2.2 := by
  unfold p11 p11_c3 lineCol
  by_cases h0 : x < 0
  · simp (disch := (first | omega | (simp only [List.length_append, List.length_cons, List.length_nil, List.length_replicate, List.length_take, List.length_drop]; omega))) only [↓c_pos, ↓c_neg, dec_t, dec_f, Bool.and_true, Bool.true_and, Bool.and_false, Bool.false_and, Bool.not_true, Bool.not_false, cond_true, cond_false, inR_t, cutR_t, roomB_t, lenOK_t, w64, bs_size, List.length_append, List.length_cons, List.length_nil, bs_extract, bs_append, bs_push, bs_data, bs_empty, bs_lit, catS_bs, eqS_bs, ite_pos', ite_neg', decide_true, decide_false, if_true, if_false, h0]
    simp
  by_cases h1 : x > l.length
  · simp (disch := (first | omega | (simp only [List.length_append, List.length_cons, List.length_nil, List.length_replicate, List.length_take, List.length_drop]; omega))) only [↓c_pos, ↓c_neg, dec_t, dec_f, Bool.and_true, Bool.true_and, Bool.and_false, Bool.false_and, Bool.not_true, Bool.not_false, cond_true, cond_false, inR_t, cutR_t, roomB_t, lenOK_t, w64, bs_size, List.length_append, List.length_cons, List.length_nil, bs_extract, bs_append, bs_push, bs_data, bs_empty, bs_lit, catS_bs, eqS_bs, ite_pos', ite_neg', decide_true, decide_false, if_true, if_false]
  have ht := tw_le (l.take x.toNat)
  have hlen : (l.take x.toNat).length = x.toNat := by rw [List.length_take]; omega
  have e : (List.drop (0 : Int).toNat (List.take x.toNat l)) = List.take x.toNat l := rfl
  have e2 : ((⟨#[10]⟩ : ByteArray)).data.toList.headD 0 = 10 := rfl
  have hp := p20_eq (R := R) n (l.take x.toNat) (by omega) (by omega)
  simp (disch := (first | omega | (simp only [List.length_append, List.length_cons, List.length_nil, List.length_replicate, List.length_take, List.length_drop]; omega))) only [↓c_pos, ↓c_neg, dec_t, dec_f, Bool.and_true, Bool.true_and, Bool.and_false, Bool.false_and, Bool.not_true, Bool.not_false, cond_true, cond_false, inR_t, cutR_t, roomB_t, lenOK_t, w64, bs_size, List.length_append, List.length_cons, List.length_nil, bs_extract, bs_append, bs_push, bs_data, bs_empty, bs_lit, catS_bs, eqS_bs, ite_pos', ite_neg', decide_true, decide_false, if_true, if_false, e, hp, hlen, e2, Lib.countByte]
  congr 1; omega
theorem p12_loop (n : Nat) (l : List UInt8) (x : Nat) (hx : x ≤ l.length) (hb : l.length < 2 ^ 62) (k0 : Int → Int → Option R) : ∀ (d m i : Nat), d + i = x → d < m →
    p12_l5L n m (bs l) x ((l.take i).count 10 : Nat) (tw (l.take i)) i k0 = k0 ((l.take x).count 10 : Nat) (tw (l.take x))
  | 0, m + 1, i, h, _ => by
    simp only [p12_l5L, p12_l5B]
    simp (disch := (first | omega | (simp only [List.length_append, List.length_cons, List.length_nil, List.length_replicate, List.length_take, List.length_drop]; omega))) only [↓c_pos, ↓c_neg, dec_t, dec_f, Bool.and_true, Bool.true_and, Bool.and_false, Bool.false_and, Bool.not_true, Bool.not_false, cond_true, cond_false, inR_t, cutR_t, roomB_t, lenOK_t, w64, bs_size, List.length_append, List.length_cons, List.length_nil, bs_extract, bs_append, bs_push, bs_data, bs_empty, bs_lit, catS_bs, eqS_bs, ite_pos', ite_neg', decide_true, decide_false, if_true, if_false, show i = x from by omega]
  | d + 1, m + 1, i, h, hm => by
    have ih := p12_loop n l x hx hb k0 d m (i + 1) (by omega) (by omega)
    have hle := tw_le (l.take i)
    have hc := List.count_le_length (a := (10 : UInt8)) (l := l.take i)
    rw [List.length_take] at hle hc
    rw [take_snoc' (by omega), tw_snoc, count_snoc] at ih
    simp only [p12_l5L, p12_l5B, p12_c6]
    simp (disch := (first | omega | (simp only [List.length_append, List.length_cons, List.length_nil, List.length_replicate, List.length_take, List.length_drop]; omega))) only [↓c_pos, ↓c_neg, dec_t, dec_f, Bool.and_true, Bool.true_and, Bool.and_false, Bool.false_and, Bool.not_true, Bool.not_false, cond_true, cond_false, inR_t, cutR_t, roomB_t, lenOK_t, w64, bs_size, List.length_append, List.length_cons, List.length_nil, bs_extract, bs_append, bs_push, bs_data, bs_empty, bs_lit, catS_bs, eqS_bs, ite_pos', ite_neg', decide_true, decide_false, if_true, if_false, byte_get, eq10]
    by_cases h10 : l[i] = 10
    · simp only [h10, decide_true, cond_true, if_true] at ih ⊢
      exact_mod_cast ih
    · simp only [h10, decide_false, cond_false, if_false] at ih ⊢
      exact_mod_cast ih
theorem p12_eq (n : Nat) (l : List UInt8) (x : Int) (hb : l.length < 2 ^ 62) (hn : l.length < n) (k0 : Int → Int → Int → Option R) :
    p12 n (bs l) x k0 = k0 (lineCol l x).1 (lineCol l x).2.1 (lineCol l x).2.2 := by
  unfold p12 p12_c3 lineCol
  by_cases h0 : x < 0
  · simp (disch := (first | omega | (simp only [List.length_append, List.length_cons, List.length_nil, List.length_replicate, List.length_take, List.length_drop]; omega))) only [↓c_pos, ↓c_neg, dec_t, dec_f, Bool.and_true, Bool.true_and, Bool.and_false, Bool.false_and, Bool.not_true, Bool.not_false, cond_true, cond_false, inR_t, cutR_t, roomB_t, lenOK_t, w64, bs_size, List.length_append, List.length_cons, List.length_nil, bs_extract, bs_append, bs_push, bs_data, bs_empty, bs_lit, catS_bs, eqS_bs, ite_pos', ite_neg', decide_true, decide_false, if_true, if_false, h0]
    simp
  by_cases h1 : x > l.length
  · simp (disch := (first | omega | (simp only [List.length_append, List.length_cons, List.length_nil, List.length_replicate, List.length_take, List.length_drop]; omega))) only [↓c_pos, ↓c_neg, dec_t, dec_f, Bool.and_true, Bool.true_and, Bool.and_false, Bool.false_and, Bool.not_true, Bool.not_false, cond_true, cond_false, inR_t, cutR_t, roomB_t, lenOK_t, w64, bs_size, List.length_append, List.length_cons, List.length_nil, bs_extract, bs_append, bs_push, bs_data, bs_empty, bs_lit, catS_bs, eqS_bs, ite_pos', ite_neg', decide_true, decide_false, if_true, if_false]
  obtain ⟨y, rfl⟩ := Int.eq_ofNat_of_zero_le (Int.not_lt.1 h0)
  simp (disch := (first | omega | (simp only [List.length_append, List.length_cons, List.length_nil, List.length_replicate, List.length_take, List.length_drop]; omega))) only [↓c_pos, ↓c_neg, dec_t, dec_f, Bool.and_true, Bool.true_and, Bool.and_false, Bool.false_and, Bool.not_true, Bool.not_false, cond_true, cond_false, inR_t, cutR_t, roomB_t, lenOK_t, w64, bs_size, List.length_append, List.length_cons, List.length_nil, bs_extract, bs_append, bs_push, bs_data, bs_empty, bs_lit, catS_bs, eqS_bs, ite_pos', ite_neg', decide_true, decide_false, if_true, if_false]
  exact p12_loop n l y (by omega) hb _ y n 0 (by omega) (by omega)
theorem p21_eq (n : Nat) (l : List UInt8) (x : Nat) (hx : x ≤ l.length) (hb : l.length < 2 ^ 62) (k0 : Int → Option R) :
    p21 n (bs l) x k0 = k0 ((x + ln (l.drop x) : Nat) : Int) := by
  have h := ln_index (l.drop x)
  have h3 := indexByte_lt (l.drop x) 10
  have e : (List.drop (x : Int).toNat (List.take (((l.length : Nat) : Int)).toNat l)) = l.drop x := by simp
  rw [List.length_drop] at h h3
  unfold p21
  simp (disch := (first | omega | (simp only [List.length_append, List.length_cons, List.length_nil, List.length_replicate, List.length_take, List.length_drop]; omega))) only [↓c_pos, ↓c_neg, dec_t, dec_f, Bool.and_true, Bool.true_and, Bool.and_false, Bool.false_and, Bool.not_true, Bool.not_false, cond_true, cond_false, inR_t, cutR_t, roomB_t, lenOK_t, w64, bs_size, List.length_append, List.length_cons, List.length_nil, bs_extract, bs_append, bs_push, bs_data, bs_empty, bs_lit, catS_bs, eqS_bs, ite_pos', ite_neg', decide_true, decide_false, if_true, if_false, e, show (10 : Int).toNat.toUInt8 = 10 from rfl]
  by_cases h2 : Lib.indexByte (l.drop x) 10 ≥ 0
  · rw [if_pos h2] at h
    simp (disch := (first | omega | (simp only [List.length_append, List.length_cons, List.length_nil, List.length_replicate, List.length_take, List.length_drop]; omega))) only [↓c_pos, ↓c_neg, dec_t, dec_f, Bool.and_true, Bool.true_and, Bool.and_false, Bool.false_and, Bool.not_true, Bool.not_false, cond_true, cond_false, inR_t, cutR_t, roomB_t, lenOK_t, w64, bs_size, List.length_append, List.length_cons, List.length_nil, bs_extract, bs_append, bs_push, bs_data, bs_empty, bs_lit, catS_bs, eqS_bs, ite_pos', ite_neg', decide_true, decide_false, if_true, if_false]
    congr 1; omega
  · rw [if_neg h2] at h
    simp (disch := (first | omega | (simp only [List.length_append, List.length_cons, List.length_nil, List.length_replicate, List.length_take, List.length_drop]; omega))) only [↓c_pos, ↓c_neg, dec_t, dec_f, Bool.and_true, Bool.true_and, Bool.and_false, Bool.false_and, Bool.not_true, Bool.not_false, cond_true, cond_false, inR_t, cutR_t, roomB_t, lenOK_t, w64, bs_size, List.length_append, List.length_cons, List.length_nil, bs_extract, bs_append, bs_push, bs_data, bs_empty, bs_lit, catS_bs, eqS_bs, ite_pos', ite_neg', decide_true, decide_false, if_true, if_false]
    congr 1; omega
theorem p27_loop (n : Nat) (l : List UInt8) (x : Nat) (hx1 : x < 2 ^ 63) (hb : l.length < 2 ^ 62) (k : Int → Option R) : ∀ (m a i : Nat), a ≤ l.length → l.length + 1 < m + a → i ≤ x → i ≤ a →
    p27_l5L n m (bs l) a x i (fun (y3 : Int) (y4 : Int) => k y3) k = k (match begR (l.drop a) (x - i) with
      | some b => ((a + b : Nat) : Int)
      | none => -1)
  | 0, a, i, ha, hm, hi, hia => by omega
  | m + 1, a, i, ha, hm, hi, hia => by
    simp only [p27_l5L, p27_l5B]
    by_cases h : i = x
    · subst h
      rw [Nat.sub_self, begR_zero]
      simp (disch := (first | omega | (simp only [List.length_append, List.length_cons, List.length_nil, List.length_replicate, List.length_take, List.length_drop]; omega))) only [↓c_pos, ↓c_neg, dec_t, dec_f, Bool.and_true, Bool.true_and, Bool.and_false, Bool.false_and, Bool.not_true, Bool.not_false, cond_true, cond_false, inR_t, cutR_t, roomB_t, lenOK_t, w64, bs_size, List.length_append, List.length_cons, List.length_nil, bs_extract, bs_append, bs_push, bs_data, bs_empty, bs_lit, catS_bs, eqS_bs, ite_pos', ite_neg', decide_true, decide_false, if_true, if_false]
      rfl
    · have e : (List.drop (a : Int).toNat (List.take (((l.length : Nat) : Int)).toNat l)) = l.drop a := by simp
      have h3 := indexByte_lt (l.drop a) 10
      rw [List.length_drop] at h3
      rw [show x - i = (x - (i + 1)) + 1 from by omega, begR_step]
      by_cases h2 : Lib.indexByte (l.drop a) 10 < 0
      · simp (disch := (first | omega | (simp only [List.length_append, List.length_cons, List.length_nil, List.length_replicate, List.length_take, List.length_drop]; omega))) only [↓c_pos, ↓c_neg, dec_t, dec_f, Bool.and_true, Bool.true_and, Bool.and_false, Bool.false_and, Bool.not_true, Bool.not_false, cond_true, cond_false, inR_t, cutR_t, roomB_t, lenOK_t, w64, bs_size, List.length_append, List.length_cons, List.length_nil, bs_extract, bs_append, bs_push, bs_data, bs_empty, bs_lit, catS_bs, eqS_bs, ite_pos', ite_neg', decide_true, decide_false, if_true, if_false, e, show (10 : Int).toNat.toUInt8 = 10 from rfl]
      · obtain ⟨j, hj⟩ := Int.eq_ofNat_of_zero_le (Int.not_lt.1 h2)
        have ih := p27_loop n l x hx1 hb k m (a + (j + 1)) (i + 1) (by omega) (by omega) (by omega) (by omega)
        simp (disch := (first | omega | (simp only [List.length_append, List.length_cons, List.length_nil, List.length_replicate, List.length_take, List.length_drop]; omega))) only [↓c_pos, ↓c_neg, dec_t, dec_f, Bool.and_true, Bool.true_and, Bool.and_false, Bool.false_and, Bool.not_true, Bool.not_false, cond_true, cond_false, inR_t, cutR_t, roomB_t, lenOK_t, w64, bs_size, List.length_append, List.length_cons, List.length_nil, bs_extract, bs_append, bs_push, bs_data, bs_empty, bs_lit, catS_bs, eqS_bs, ite_pos', ite_neg', decide_true, decide_false, if_true, if_false, e, show (10 : Int).toNat.toUInt8 = 10 from rfl]
        rw [hj, show ((a : Int) + ((j : Int) + 1)) = ((a + (j + 1) : Nat) : Int) from by omega, show ((i : Int) + 1) = ((i + 1 : Nat) : Int) from by omega, ih, List.drop_drop, Int.toNat_natCast]
        cases begR (List.drop (a + (j + 1)) l) (x - (i + 1)) with
        | none => rfl
        | some b => simp only [Option.map_some]; congr 2; omega
theorem p27_eq (n : Nat) (l : List UInt8) (x : Int) (hx1 : x < 2 ^ 63) (hb : l.length < 2 ^ 62) (hn : l.length + 1 < n) (k : Int → Option R) : p27 n (bs l) x k = k (begI l x) := by
  unfold p27 begI
  by_cases h0 : x < 0
  · simp (disch := (first | omega | (simp only [List.length_append, List.length_cons, List.length_nil, List.length_replicate, List.length_take, List.length_drop]; omega))) only [↓c_pos, ↓c_neg, dec_t, dec_f, Bool.and_true, Bool.true_and, Bool.and_false, Bool.false_and, Bool.not_true, Bool.not_false, cond_true, cond_false, inR_t, cutR_t, roomB_t, lenOK_t, w64, bs_size, List.length_append, List.length_cons, List.length_nil, bs_extract, bs_append, bs_push, bs_data, bs_empty, bs_lit, catS_bs, eqS_bs, ite_pos', ite_neg', decide_true, decide_false, if_true, if_false]
  · obtain ⟨y, rfl⟩ := Int.eq_ofNat_of_zero_le (Int.not_lt.1 h0)
    simp (disch := (first | omega | (simp only [List.length_append, List.length_cons, List.length_nil, List.length_replicate, List.length_take, List.length_drop]; omega))) only [↓c_pos, ↓c_neg, dec_t, dec_f, Bool.and_true, Bool.true_and, Bool.and_false, Bool.false_and, Bool.not_true, Bool.not_false, cond_true, cond_false, inR_t, cutR_t, roomB_t, lenOK_t, w64, bs_size, List.length_append, List.length_cons, List.length_nil, bs_extract, bs_append, bs_push, bs_data, bs_empty, bs_lit, catS_bs, eqS_bs, ite_pos', ite_neg', decide_true, decide_false, if_true, if_false, p27_l5]
    have := p27_loop n l y (by omega) hb k n 0 0 (by omega) (by omega) (by omega) (by omega)
    simp only [List.drop_zero, Nat.sub_zero, Nat.zero_add] at this
    exact this
theorem p28_loop (n : Nat) (l : List UInt8) (x : Nat) (hb : l.length < 2 ^ 62) (k : Int → Option R) (k1 : Option R) : ∀ (m i c : Nat), i ≤ l.length → l.length + 1 < m + i → c ≤ x → c ≤ i →
    p28_l5L n m (bs l) x c i k k1 = match begR (l.drop i) (x - c) with
      | some b => k ((i + b : Nat) : Int)
      | none => k1
  | 0, i, c, hi, hm, hc, hci => by omega
  | m + 1, i, c, hi, hm, hc, hci => by
    simp only [p28_l5L, p28_l5B, p28_c6]
    by_cases h : c = x
    · subst h
      rw [Nat.sub_self, begR_zero]
      simp (disch := (first | omega | (simp only [List.length_append, List.length_cons, List.length_nil, List.length_replicate, List.length_take, List.length_drop]; omega))) only [↓c_pos, ↓c_neg, dec_t, dec_f, Bool.and_true, Bool.true_and, Bool.and_false, Bool.false_and, Bool.not_true, Bool.not_false, cond_true, cond_false, inR_t, cutR_t, roomB_t, lenOK_t, w64, bs_size, List.length_append, List.length_cons, List.length_nil, bs_extract, bs_append, bs_push, bs_data, bs_empty, bs_lit, catS_bs, eqS_bs, ite_pos', ite_neg', decide_true, decide_false, if_true, if_false, show (((c : Int)) == (c : Int)) = true from by simp]
      rfl
    have hcx : (((c : Int)) == (x : Int)) = false := by simp; omega
    by_cases hl : i = l.length
    · subst hl
      rw [List.drop_length, show x - c = (x - c - 1) + 1 from by omega]
      obtain ⟨m', rfl⟩ : ∃ m', m = m' + 1 := ⟨m - 1, by omega⟩
      simp only [p28_l5L, p28_l5B, p28_c6]
      simp (disch := (first | omega | (simp only [List.length_append, List.length_cons, List.length_nil, List.length_replicate, List.length_take, List.length_drop]; omega))) only [↓c_pos, ↓c_neg, dec_t, dec_f, Bool.and_true, Bool.true_and, Bool.and_false, Bool.false_and, Bool.not_true, Bool.not_false, cond_true, cond_false, inR_t, cutR_t, roomB_t, lenOK_t, w64, bs_size, List.length_append, List.length_cons, List.length_nil, bs_extract, bs_append, bs_push, bs_data, bs_empty, bs_lit, catS_bs, eqS_bs, ite_pos', ite_neg', decide_true, decide_false, if_true, if_false, hcx, begR]
    · rw [List.drop_eq_getElem_cons (by omega), show x - c = (x - c - 1) + 1 from by omega]
      simp only [begR]
      simp (disch := (first | omega | (simp only [List.length_append, List.length_cons, List.length_nil, List.length_replicate, List.length_take, List.length_drop]; omega))) only [↓c_pos, ↓c_neg, dec_t, dec_f, Bool.and_true, Bool.true_and, Bool.and_false, Bool.false_and, Bool.not_true, Bool.not_false, cond_true, cond_false, inR_t, cutR_t, roomB_t, lenOK_t, w64, bs_size, List.length_append, List.length_cons, List.length_nil, bs_extract, bs_append, bs_push, bs_data, bs_empty, bs_lit, catS_bs, eqS_bs, ite_pos', ite_neg', decide_true, decide_false, if_true, if_false, hcx, byte_get, eq10]
      have ih1 := p28_loop n l x hb k k1 m (i + 1) (c + 1) (by omega) (by omega) (by omega) (by omega)
      have ih2 := p28_loop n l x hb k k1 m (i + 1) c (by omega) (by omega) (by omega) (by omega)
      by_cases h10 : l[i] = 10
      · simp only [h10, decide_true, cond_true, if_true]
        rw [show ((i : Int) + 1) = ((i + 1 : Nat) : Int) from by omega, show ((c : Int) + 1) = ((c + 1 : Nat) : Int) from by omega, ih1, show x - (c + 1) = x - c - 1 from by omega]
        cases begR (l.drop (i + 1)) (x - c - 1) with
        | none => rfl
        | some b => simp only [Option.map_some]; congr 1; omega
      · simp only [h10, decide_false, cond_false, if_false]
        rw [show ((i : Int) + 1) = ((i + 1 : Nat) : Int) from by omega, ih2, show x - c - 1 + 1 = x - c from by omega]
        cases begR (l.drop (i + 1)) (x - c) with
        | none => rfl
        | some b => simp only [Option.map_some]; congr 1; omega
theorem p28_eq (n : Nat) (l : List UInt8) (x : Int) (hb : l.length < 2 ^ 62) (hn : l.length + 1 < n) (k : Int → Option R) : p28 n (bs l) x k = k (begI l x) := by
  unfold p28 begI
  by_cases h0 : x < 0
  · simp (disch := (first | omega | (simp only [List.length_append, List.length_cons, List.length_nil, List.length_replicate, List.length_take, List.length_drop]; omega))) only [↓c_pos, ↓c_neg, dec_t, dec_f, Bool.and_true, Bool.true_and, Bool.and_false, Bool.false_and, Bool.not_true, Bool.not_false, cond_true, cond_false, inR_t, cutR_t, roomB_t, lenOK_t, w64, bs_size, List.length_append, List.length_cons, List.length_nil, bs_extract, bs_append, bs_push, bs_data, bs_empty, bs_lit, catS_bs, eqS_bs, ite_pos', ite_neg', decide_true, decide_false, if_true, if_false]
  · obtain ⟨y, rfl⟩ := Int.eq_ofNat_of_zero_le (Int.not_lt.1 h0)
    simp (disch := (first | omega | (simp only [List.length_append, List.length_cons, List.length_nil, List.length_replicate, List.length_take, List.length_drop]; omega))) only [↓c_pos, ↓c_neg, dec_t, dec_f, Bool.and_true, Bool.true_and, Bool.and_false, Bool.false_and, Bool.not_true, Bool.not_false, cond_true, cond_false, inR_t, cutR_t, roomB_t, lenOK_t, w64, bs_size, List.length_append, List.length_cons, List.length_nil, bs_extract, bs_append, bs_push, bs_data, bs_empty, bs_lit, catS_bs, eqS_bs, ite_pos', ite_neg', decide_true, decide_false, if_true, if_false, p28_l5]
    have := p28_loop n l y hb k (k (-1)) n 0 0 (by omega) (by omega) (by omega) (by omega)
    simp only [List.drop_zero, Nat.sub_zero, Nat.zero_add] at this
    rw [show ((0 : Nat) : Int) = 0 from rfl] at this
    rw [this, Int.toNat_natCast]
    cases begR l y <;> rfl
theorem p18_loop (n : Nat) (l : List UInt8) (x : Int) (hb : l.length < 2 ^ 62) (k : ByteArray → Int → Int → Option R) : ∀ (m i : Nat), i ≤ l.length → l.length < m + i →
    p18_l5L n m (bs l) x i k = k (bs l) x ((i + ln (l.drop i) : Nat) : Int)
  | 0, i, hi, hm => by omega
  | m + 1, i, hi, hm => by
    simp only [p18_l5L, p18_l5B]
    by_cases hl : i = l.length
    · subst hl
      rw [List.drop_length]
      simp (disch := (first | omega | (simp only [List.length_append, List.length_cons, List.length_nil, List.length_replicate, List.length_take, List.length_drop]; omega))) only [↓c_pos, ↓c_neg, dec_t, dec_f, Bool.and_true, Bool.true_and, Bool.and_false, Bool.false_and, Bool.not_true, Bool.not_false, cond_true, cond_false, inR_t, cutR_t, roomB_t, lenOK_t, w64, bs_size, List.length_append, List.length_cons, List.length_nil, bs_extract, bs_append, bs_push, bs_data, bs_empty, bs_lit, catS_bs, eqS_bs, ite_pos', ite_neg', decide_true, decide_false, if_true, if_false]
      rfl
    · have ih := p18_loop n l x hb k m (i + 1) (by omega) (by omega)
      rw [List.drop_eq_getElem_cons (by omega)]
      simp (disch := (first | omega | (simp only [List.length_append, List.length_cons, List.length_nil, List.length_replicate, List.length_take, List.length_drop]; omega))) only [↓c_pos, ↓c_neg, dec_t, dec_f, Bool.and_true, Bool.true_and, Bool.and_false, Bool.false_and, Bool.not_true, Bool.not_false, cond_true, cond_false, inR_t, cutR_t, roomB_t, lenOK_t, w64, bs_size, List.length_append, List.length_cons, List.length_nil, bs_extract, bs_append, bs_push, bs_data, bs_empty, bs_lit, catS_bs, eqS_bs, ite_pos', ite_neg', decide_true, decide_false, if_true, if_false, byte_get, bne, eq10]
      unfold ln at *
      rw [List.takeWhile_cons]
      by_cases h10 : l[i] = 10
      · simp [h10]
      · have hb1 : (!(l[i] == 10)) = true := by simpa using h10
        simp only [h10, decide_false, Bool.not_false, cond_true, hb1, if_true, List.length_cons, bne]
        rw [show ((i : Int) + 1) = ((i + 1 : Nat) : Int) from by omega, ih]
        congr 2; simp only [bne]; omega
def line (l : List UInt8) (x : Int) : List UInt8 × Int := if begI l x < 0 then ([], 9) else ((l.drop (begI l x).toNat).takeWhile (· != 10), 0)
theorem begI_le (l : List UInt8) (x : Int) : begI l x ≤ l.length := by
  unfold begI
  split
  · omega
  · cases h : begR l x.toNat with
    | none => simp only; omega
    | some b => have := begR_le _ _ _ h; simp only; omega
theorem take_ln (l : List UInt8) : l.take (ln l) = l.takeWhile (· != 10) := by
  unfold ln
  have := List.takeWhile_prefix (l := l) (p := (· != 10))
  rw [List.prefix_iff_eq_take] at this
  exact this.symm
theorem p18_eq (n : Nat) (l : List UInt8) (x : Int) (hb : l.length < 2 ^ 62) (hn : l.length + 1 < n) (k : ByteArray → Int → Option R) : p18 n (bs l) x k = k (bs (line l x).1) (line l x).2 := by
  unfold p18 p18_l5
  rw [p28_eq n l x hb hn]
  have hle := begI_le l x
  by_cases h : begI l x < 0
  · simp (disch := (first | omega | (simp only [List.length_append, List.length_cons, List.length_nil, List.length_replicate, List.length_take, List.length_drop]; omega))) only [↓c_pos, ↓c_neg, dec_t, dec_f, Bool.and_true, Bool.true_and, Bool.and_false, Bool.false_and, Bool.not_true, Bool.not_false, cond_true, cond_false, inR_t, cutR_t, roomB_t, lenOK_t, w64, bs_size, List.length_append, List.length_cons, List.length_nil, bs_extract, bs_append, bs_push, bs_data, bs_empty, bs_lit, catS_bs, eqS_bs, ite_pos', ite_neg', decide_true, decide_false, if_true, if_false, line, h]
  · obtain ⟨b, hb2⟩ := Int.eq_ofNat_of_zero_le (Int.not_lt.1 h)
    have hlp := p18_loop n l (b : Int) hb (fun (y4 : ByteArray) (y5 : Int) (y6 : Int) => bif (cutR y5 y6 (y4).size) then (k (ByteArray.extract y4 (y5 : Int).toNat (y6 : Int).toNat) 0) else none) n b (by omega) (by omega)
    have hl := ln_le (l.drop b)
    rw [List.length_drop] at hl
    unfold line
    rw [hb2]
    simp (disch := (first | omega | (simp only [List.length_append, List.length_cons, List.length_nil, List.length_replicate, List.length_take, List.length_drop]; omega))) only [↓c_pos, ↓c_neg, dec_t, dec_f, Bool.and_true, Bool.true_and, Bool.and_false, Bool.false_and, Bool.not_true, Bool.not_false, cond_true, cond_false, inR_t, cutR_t, roomB_t, lenOK_t, w64, bs_size, List.length_append, List.length_cons, List.length_nil, bs_extract, bs_append, bs_push, bs_data, bs_empty, bs_lit, catS_bs, eqS_bs, ite_pos', ite_neg', decide_true, decide_false, if_true, if_false, hlp]
    simp only [Int.toNat_natCast]
    rw [← take_ln, List.drop_take, show b + ln (l.drop b) - b = ln (l.drop b) from by omega]
def offset (l : List UInt8) (x y : Int) : Int × Int := if begI l x < 0 then (0, 9) else if y < 0 ∨ ln (l.drop (begI l x).toNat) < y then (0, 2) else (begI l x + y, 0)
theorem p15_eq (n : Nat) (l : List UInt8) (x y : Int) (hx1 : x < 2 ^ 63) (hb : l.length < 2 ^ 62) (hn : l.length + 1 < n) (k : Int → Int → Option R) : p15 n (bs l) x y k = k (offset l x y).1 (offset l x y).2 := by
  unfold p15 offset
  rw [p27_eq n l x hx1 hb hn]
  have hle := begI_le l x
  by_cases h : begI l x < 0
  · simp (disch := (first | omega | (simp only [List.length_append, List.length_cons, List.length_nil, List.length_replicate, List.length_take, List.length_drop]; omega))) only [↓c_pos, ↓c_neg, dec_t, dec_f, Bool.and_true, Bool.true_and, Bool.and_false, Bool.false_and, Bool.not_true, Bool.not_false, cond_true, cond_false, inR_t, cutR_t, roomB_t, lenOK_t, w64, bs_size, List.length_append, List.length_cons, List.length_nil, bs_extract, bs_append, bs_push, bs_data, bs_empty, bs_lit, catS_bs, eqS_bs, ite_pos', ite_neg', decide_true, decide_false, if_true, if_false, h]
  · obtain ⟨b, hb2⟩ := Int.eq_ofNat_of_zero_le (Int.not_lt.1 h)
    have hl := ln_le (l.drop b)
    rw [List.length_drop] at hl
    rw [hb2]
    simp only [Int.toNat_natCast]
    have hp := p21_eq (R := R) n l b (by omega) hb
    by_cases h1 : y < 0
    · simp (disch := (first | omega | (simp only [List.length_append, List.length_cons, List.length_nil, List.length_replicate, List.length_take, List.length_drop]; omega))) only [↓c_pos, ↓c_neg, dec_t, dec_f, Bool.and_true, Bool.true_and, Bool.and_false, Bool.false_and, Bool.not_true, Bool.not_false, cond_true, cond_false, inR_t, cutR_t, roomB_t, lenOK_t, w64, bs_size, List.length_append, List.length_cons, List.length_nil, bs_extract, bs_append, bs_push, bs_data, bs_empty, bs_lit, catS_bs, eqS_bs, ite_pos', ite_neg', decide_true, decide_false, if_true, if_false]
    by_cases h2 : y > ln (l.drop b)
    · simp (disch := (first | omega | (simp only [List.length_append, List.length_cons, List.length_nil, List.length_replicate, List.length_take, List.length_drop]; omega))) only [↓c_pos, ↓c_neg, dec_t, dec_f, Bool.and_true, Bool.true_and, Bool.and_false, Bool.false_and, Bool.not_true, Bool.not_false, cond_true, cond_false, inR_t, cutR_t, roomB_t, lenOK_t, w64, bs_size, List.length_append, List.length_cons, List.length_nil, bs_extract, bs_append, bs_push, bs_data, bs_empty, bs_lit, catS_bs, eqS_bs, ite_pos', ite_neg', decide_true, decide_false, if_true, if_false, hp]
    · simp (disch := (first | omega | (simp only [List.length_append, List.length_cons, List.length_nil, List.length_replicate, List.length_take, List.length_drop]; omega))) only [↓c_pos, ↓c_neg, dec_t, dec_f, Bool.and_true, Bool.true_and, Bool.and_false, Bool.false_and, Bool.not_true, Bool.not_false, cond_true, cond_false, inR_t, cutR_t, roomB_t, lenOK_t, w64, bs_size, List.length_append, List.length_cons, List.length_nil, bs_extract, bs_append, bs_push, bs_data, bs_empty, bs_lit, catS_bs, eqS_bs, ite_pos', ite_neg', decide_true, decide_false, if_true, if_false, hp]
end Go.Proofs.Ytlplpkbhjddmeaa


set_option linter.unusedVariables false
set_option maxRecDepth 100000
namespace Go.Proofs.Ytlplpkbhjddmeaa
open Go Th Go.Proofs
def ann22 : Ann := { loops := [], cuts := [], frz := [], rm := [.id] }
noncomputable abbrev env22 (n : Nat) : Env := fun _ => none
theorem envok22 (n : Nat) : EnvOK Try.prog (env22 n) := EnvOK.nil
noncomputable def p22 {R : Type} (n : Nat) (x1 : Int) (k0 : Bool → Option R) : Option R :=
  bif (decide (x1 ≥ 128)) then (k0 (bif true then (decide (x1 ≤ 191)) else false)) else (k0 false)
noncomputable abbrev lo22 {R : Type} (n : Nat) : Orc R := fun i vs K => none
noncomputable abbrev cu22 {R : Type} (n : Nat) : Orc R := fun i vs K => none
section
variable {R : Type}
theorem pa22 (n : Nat) : allP (PartOK (R := R) Try.prog (env22 n) ann22 n (9, []) (lo22 n) (cu22 n)) (partsOf ann22 (bodyOf Try.f22)) := by
  have h : partsOf ann22 (bodyOf Try.f22) = [] := by kernel_rfl
  rw [h]
  exact trivial
theorem ep22 (n : Nat) (x1 : Int) (K : List SV → Option R) : evFnOi Try.prog (env22 n) ann22 (lo22 n) (cu22 n) Try.f22 [.p (.v (.int .u8 x1))] K = p22 n x1 (fun (y1 : Bool) => K [.p (.v (.bool y1))]) := by kernel_rfl
noncomputable abbrev fs22a1 (n : Nat) (args : List SV) (K : List SV → Option R) : Option R := none
noncomputable abbrev fs22t0 (n : Nat) (D : Option R) (args : List SV) (K : List SV → Option R) : Option R :=
  dCons args D fun z1 z2 => dP z1 D fun z3 => dInt .u8 z3 D fun x1 => dNil z2 D (p22 n x1 (fun (y1 : Bool) => K [.p (.v (.bool y1))]))
noncomputable abbrev fs22a0 (n : Nat) (args : List SV) (K : List SV → Option R) : Option R := fs22t0 n (fs22a1 n args K) args K
theorem hs22a1 (n : Nat) (args : List SV) (K : List SV → Option R) (res : R) : fs22a1 n args K = some res → evFn Try.prog (env22 n) ann22 n Try.f22 args K = some res := fun h => by cases h
theorem hs22a0 (n : Nat) (args : List SV) (K : List SV → Option R) (res : R) : fs22a0 n args K = some res → evFn Try.prog (env22 n) ann22 n Try.f22 args K = some res := by
  unfold fs22a0 fs22t0
  refine dCons_imp (fun _ _ e => ?_) (hs22a1 n _ K res)
  subst e
  refine dP_imp (fun _ e => ?_) (hs22a1 n _ K res)
  subst e
  refine dInt_imp (fun _ e => ?_) (hs22a1 n _ K res)
  subst e
  refine dNil_imp (fun e => ?_) (hs22a1 n _ K res)
  subst e
  intro h
  rw [evFn_evOi (c := bodyOf Try.f22) (by kernel_rfl) (pa22 n), ep22]
  exact h
end
noncomputable abbrev fs22 (n : Nat) : FS := { om := [false], run := fun args K => fs22a0 n args K }
theorem ok22 (n : Nat) : FSound Try.prog 22 (fs22 n) :=
  FSound.of (envok22 n) (ann := ann22) (n := n) (by kernel_rfl) Try.func22 (by kernel_rfl) (by kernel_rfl) fun {R args K res} h => hs22a0 n args K res h
end Go.Proofs.Ytlplpkbhjddmeaa


set_option linter.unusedVariables false
set_option maxRecDepth 100000
namespace Go.Proofs.Ytlplpkbhjddmeaa
open Go Th Go.Proofs
def ann13 : Ann := { loops := [(9, [(0, .id), (3, .id), (6, .id), (7, .id), (8, .id), (9, .id), (50, .id), (51, .id)], [(0, .id), (3, .id), (4, .id), (5, .id), (7, .id), (8, .id), (9, .id)]), (19, [(0, .id), (3, .id), (8, .id), (9, .id), (12, .id), (77, .id), (78, .id)], [(4, .id), (5, .id), (9, .id), (12, .id)])], cuts := [(3, [(0, .id), (3, .id)], [(4, .id), (5, .id)])], frz := [], rm := [.id, .id] }
noncomputable abbrev env13 (n : Nat) : Env := fun i => bif Nat.beq i 26 then some (fs26 n) else (fun i => bif Nat.beq i 25 then some (fs25 n) else (fun i => bif Nat.beq i 24 then some (fs24 n) else (fun i => bif Nat.beq i 23 then some (fs23 n) else (fun i => bif Nat.beq i 22 then some (fs22 n) else (fun i => bif Nat.beq i 21 then some (fs21 n) else (fun i => bif Nat.beq i 20 then some (fs20 n) else (fun _ => none) i) i) i) i) i) i) i
theorem envok13 (n : Nat) : EnvOK Try.prog (env13 n) := EnvOK.cons (EnvOK.cons (EnvOK.cons (EnvOK.cons (EnvOK.cons (EnvOK.cons (EnvOK.cons (EnvOK.nil) (ok20 n)) (ok21 n)) (ok22 n)) (ok23 n)) (ok24 n)) (ok25 n)) (ok26 n)
noncomputable def p13_l9B {R : Type} (n : Nat) (l0 : ByteArray → Int → Int → Int → Int → ByteArray → Int → Int → Option R) (x1 : ByteArray) (x2 : Int) (x3 : Int) (x4 : Int) (x5 : Int) (x6 : ByteArray) (x7 : Int) (x8 : Int) (k0 : ByteArray → Int → Int → Int → ByteArray → Option R) : Option R :=
  bif (decide (x8 < x7)) then (bif (inR (IntKind.i64.wrap (x4 + x8)) (x1).size) then (bif (byteAt x1 (IntKind.i64.wrap (x4 + x8)) == 9) then (bif (roomB ((x6).size + 1) && decide ((0 : Int) ≤ 9) && decide ((9 : Int) < 256)) then (l0 x1 x2 x3 x4 x5 (ByteArray.push x6 (UInt8.ofNat (9 : Int).toNat)) x7 (IntKind.i64.wrap (x8 + 1))) else none) else (p22 n (byteAt x1 (IntKind.i64.wrap (x4 + x8))) (fun (y9 : Bool) => bif (!y9) then (bif (roomB ((x6).size + 1) && decide ((0 : Int) ≤ 32) && decide ((32 : Int) < 256)) then (l0 x1 x2 x3 x4 x5 (ByteArray.push x6 (UInt8.ofNat (32 : Int).toNat)) x7 (IntKind.i64.wrap (x8 + 1))) else none) else (l0 x1 x2 x3 x4 x5 x6 x7 (IntKind.i64.wrap (x8 + 1)))))) else none) else (k0 x1 x2 x3 x5 x6)
noncomputable def p13_l9L {R : Type} (n : Nat) : Nat → ByteArray → Int → Int → Int → Int → ByteArray → Int → Int → (ByteArray → Int → Int → Int → ByteArray → Option R) → Option R
  | 0, _, _, _, _, _, _, _, _, _ => none
  | m + 1, x1, x2, x3, x4, x5, x6, x7, x8, k0 => p13_l9B n (fun x1 x2 x3 x4 x5 x6 x7 x8 => p13_l9L n m x1 x2 x3 x4 x5 x6 x7 x8 k0) x1 x2 x3 x4 x5 x6 x7 x8 k0
noncomputable def p13_l9 {R : Type} (n : Nat) (x1 : ByteArray) (x2 : Int) (x3 : Int) (x4 : Int) (x5 : Int) (x6 : ByteArray) (x7 : Int) (x8 : Int) (k0 : ByteArray → Int → Int → Int → ByteArray → Option R) : Option R := p13_l9L n n x1 x2 x3 x4 x5 x6 x7 x8 k0
noncomputable def p13_l19B {R : Type} (n : Nat) (l0 : ByteArray → Int → Int → ByteArray → Int → Int → Int → Option R) (x1 : ByteArray) (x2 : Int) (x3 : Int) (x4 : ByteArray) (x5 : Int) (x6 : Int) (x7 : Int) (k0 : ByteArray → Int → Option R) : Option R :=
  bif (decide (x7 < x6)) then (bif (inR (IntKind.i64.wrap (x2 + x7)) (x1).size) then (p22 n (byteAt x1 (IntKind.i64.wrap (x2 + x7))) (fun (y8 : Bool) => bif (!y8) then (l0 x1 x2 x3 x4 (IntKind.i64.wrap (x5 + 1)) x6 (IntKind.i64.wrap (x7 + 1))) else (l0 x1 x2 x3 x4 x5 x6 (IntKind.i64.wrap (x7 + 1))))) else none) else (k0 x4 x5)
noncomputable def p13_l19L {R : Type} (n : Nat) : Nat → ByteArray → Int → Int → ByteArray → Int → Int → Int → (ByteArray → Int → Option R) → Option R
  | 0, _, _, _, _, _, _, _, _ => none
  | m + 1, x1, x2, x3, x4, x5, x6, x7, k0 => p13_l19B n (fun x1 x2 x3 x4 x5 x6 x7 => p13_l19L n m x1 x2 x3 x4 x5 x6 x7 k0) x1 x2 x3 x4 x5 x6 x7 k0
noncomputable def p13_l19 {R : Type} (n : Nat) (x1 : ByteArray) (x2 : Int) (x3 : Int) (x4 : ByteArray) (x5 : Int) (x6 : Int) (x7 : Int) (k0 : ByteArray → Int → Option R) : Option R := p13_l19L n n x1 x2 x3 x4 x5 x6 x7 k0
noncomputable def p13_c3 {R : Type} (n : Nat) (x1 : ByteArray) (x2 : Int) (x3 : Int) (k0 : ByteArray → Int → Option R) : Option R :=
  bif (cutR 0 x2 (x1).size) then (p20 n (ByteArray.extract x1 (0 : Int).toNat (x2 : Int).toNat) 10 (fun (y4 : Int) => p21 n x1 x2 (fun (y5 : Int) => bif (cutR (IntKind.i64.wrap (y4 + 1)) y5 (x1).size) then (catS (ByteArray.extract x1 (IntKind.i64.wrap (y4 + 1) : Int).toNat (y5 : Int).toNat) (⟨#[10]⟩ : ByteArray) fun s6 => bif (roomB ((ByteArray.empty).size + (s6).size)) then (let v7 := IntKind.i64.wrap (x2 - (IntKind.i64.wrap (y4 + 1))); p13_l9 n x1 x2 x3 (IntKind.i64.wrap (y4 + 1)) y5 (ByteArray.empty ++ s6) v7 0 (fun (y8 : ByteArray) (y9 : Int) (y10 : Int) (y11 : Int) (y12 : ByteArray) => let v13 := IntKind.i64.wrap ((minI y10 y11) - y9); p13_l19 n y8 y9 y10 y12 0 (maxI 0 v13) 0 (fun (y14 : ByteArray) (y15 : Int) => bif (decide ((0 : Int) ≤ maxI y15 1) && decide ((maxI y15 1 : Int) ≤ 9223372036854775807) && roomB (((⟨#[94]⟩ : ByteArray)).size * (maxI y15 1 : Int).toNat)) then (bif (roomB ((y14).size + (repB (⟨#[94]⟩ : ByteArray) (maxI y15 1)).size)) then (k0 (y14 ++ (repB (⟨#[94]⟩ : ByteArray) (maxI y15 1))) 0) else none) else none))) else none) else none))) else none
noncomputable def p13 {R : Type} (n : Nat) (x1 : ByteArray) (x2 : Int) (x3 : Int) (k0 : ByteArray → Int → Option R) : Option R :=
  bif (decide (x2 < 0)) then (k0 ⟨#[]⟩ 2) else (bif (bif false then true else (decide (x2 > x3))) then (k0 ⟨#[]⟩ 2) else (bif (bif false then true else (decide (x3 > ((x1).size : Int)))) then (k0 ⟨#[]⟩ 2) else (p13_c3 n x1 x2 x3 (fun (y4 : ByteArray) (y5 : Int) => k0 y4 y5))))
noncomputable def c13_c3 : Code := subC (bodyOf Try.f13) [1, 1]
noncomputable abbrev o13_c3a1 {R : Type} (n : Nat) (vs : List SV) (K : Kc R) : Option R := evCut (fun f k => evC Try.prog (env13 n) ann13 n (98, []) c13_c3 f k) (liveA ann13.cuts 3) (outA ann13.cuts 3) vs K
noncomputable abbrev o13_c3t0 {R : Type} (n : Nat) (D : Option R) (vs : List SV) (K : Kc R) : Option R :=
  dCons vs D fun z1 z2 => dP z1 D fun z3 => dStr z3 D fun x1 => dCons z2 D fun z4 z5 => dBx 32 z4 D fun z6 => dCons z6 D fun z7 z8 => dP z7 D fun z9 => dInt .i64 z9 D fun x2 => dCons z8 D fun z10 z11 => dP z10 D fun z12 => dInt .i64 z12 D fun x3 => dNil z11 D (dNil z5 D (p13_c3 n x1 x2 x3 (fun (y1 : ByteArray) (y2 : Int) => K .ret (lk (outA ann13.cuts 3) [.p (.v (.string y1)), .p (.v (.int .i64 y2))]))))
noncomputable abbrev o13_c3a0 {R : Type} (n : Nat) (vs : List SV) (K : Kc R) : Option R := o13_c3t0 n (o13_c3a1 n vs K) vs K
noncomputable abbrev o13_c3 {R : Type} (n : Nat) (vs : List SV) (K : Kc R) : Option R := o13_c3a0 n vs K
noncomputable def c13_l9 : Code := subC (bodyOf Try.f13) [1, 1, 1, 1, 1, 1, 1, 0, 1, 0, 0]
noncomputable abbrev o13_l9a1 {R : Type} (n : Nat) (vs : List SV) (K : Kc R) : Option R := evLoop (fun f k => evC Try.prog (env13 n) ann13 n (98, []) c13_l9 f k) (liveA ann13.loops 9) (outA ann13.loops 9) n vs K
noncomputable abbrev o13_l9t0 {R : Type} (n : Nat) (D : Option R) (vs : List SV) (K : Kc R) : Option R :=
  dCons vs D fun z1 z2 => dP z1 D fun z3 => dStr z3 D fun x1 => dCons z2 D fun z4 z5 => dBx 32 z4 D fun z6 => dCons z6 D fun z7 z8 => dP z7 D fun z9 => dInt .i64 z9 D fun x2 => dCons z8 D fun z10 z11 => dP z10 D fun z12 => dInt .i64 z12 D fun x3 => dNil z11 D (dCons z5 D fun z13 z14 => dP z13 D fun z15 => dInt .i64 z15 D fun x4 => dCons z14 D fun z16 z17 => dP z16 D fun z18 => dInt .i64 z18 D fun x5 => dCons z17 D fun z19 z20 => dP z19 D fun z21 => dFn 22 z21 D (dCons z20 D fun z22 z23 => dOb 51 5 z22 D fun x6 => dCons z23 D fun z24 z25 => dP z24 D fun z26 => dInt .i64 z26 D fun x7 => dCons z25 D fun z27 z28 => dP z27 D fun z29 => dInt .i64 z29 D fun x8 => dNil z28 D (p13_l9 n x1 x2 x3 x4 x5 x6 x7 x8 (fun (y1 : ByteArray) (y2 : Int) (y3 : Int) (y4 : Int) (y5 : ByteArray) => K (.exit 0) (lk (outA ann13.loops 9) [.p (.v (.string y1)), .bx 32 [.p (.v (.int .i64 y2)), .p (.v (.int .i64 y3))], .dead, .dead, .p (.v (.int .i64 y4)), .p (.v (.func (.func 22) #[] #[])), .ob 51 5 y5])))))
noncomputable abbrev o13_l9a0 {R : Type} (n : Nat) (vs : List SV) (K : Kc R) : Option R := o13_l9t0 n (o13_l9a1 n vs K) vs K
noncomputable abbrev o13_l9 {R : Type} (n : Nat) (vs : List SV) (K : Kc R) : Option R := o13_l9a0 n vs K
noncomputable def c13_l19 : Code := subC (bodyOf Try.f13) [1, 1, 1, 1, 1, 1, 1, 1, 1, 0, 1, 0, 0]
noncomputable abbrev o13_l19a1 {R : Type} (n : Nat) (vs : List SV) (K : Kc R) : Option R := evLoop (fun f k => evC Try.prog (env13 n) ann13 n (98, []) c13_l19 f k) (liveA ann13.loops 19) (outA ann13.loops 19) n vs K
noncomputable abbrev o13_l19t0 {R : Type} (n : Nat) (D : Option R) (vs : List SV) (K : Kc R) : Option R :=
  dCons vs D fun z1 z2 => dP z1 D fun z3 => dStr z3 D fun x1 => dCons z2 D fun z4 z5 => dBx 32 z4 D fun z6 => dCons z6 D fun z7 z8 => dP z7 D fun z9 => dInt .i64 z9 D fun x2 => dCons z8 D fun z10 z11 => dP z10 D fun z12 => dInt .i64 z12 D fun x3 => dNil z11 D (dCons z5 D fun z13 z14 => dP z13 D fun z15 => dFn 22 z15 D (dCons z14 D fun z16 z17 => dOb 51 5 z16 D fun x4 => dCons z17 D fun z18 z19 => dP z18 D fun z20 => dInt .i64 z20 D fun x5 => dCons z19 D fun z21 z22 => dP z21 D fun z23 => dInt .i64 z23 D fun x6 => dCons z22 D fun z24 z25 => dP z24 D fun z26 => dInt .i64 z26 D fun x7 => dNil z25 D (p13_l19 n x1 x2 x3 x4 x5 x6 x7 (fun (y1 : ByteArray) (y2 : Int) => K (.exit 3) (lk (outA ann13.loops 19) [.dead, .dead, .ob 51 5 y1, .p (.v (.int .i64 y2))])))))
noncomputable abbrev o13_l19a0 {R : Type} (n : Nat) (vs : List SV) (K : Kc R) : Option R := o13_l19t0 n (o13_l19a1 n vs K) vs K
noncomputable abbrev o13_l19 {R : Type} (n : Nat) (vs : List SV) (K : Kc R) : Option R := o13_l19a0 n vs K
noncomputable abbrev lo13 {R : Type} (n : Nat) : Orc R := fun i vs K => bif Nat.beq i 19 then o13_l19 n vs K else bif Nat.beq i 9 then o13_l9 n vs K else none
noncomputable abbrev cu13 {R : Type} (n : Nat) : Orc R := fun i vs K => bif Nat.beq i 3 then o13_c3 n vs K else none
section
variable {R : Type}
theorem pa13_l9 (n : Nat) : allP (PartOK (R := R) Try.prog (env13 n) ann13 n (98, []) (lo13 n) (cu13 n)) (partsOf ann13 c13_l9) := by
  have h : partsOf ann13 c13_l9 = [] := by kernel_rfl
  rw [h]
  exact trivial
theorem sp13_l9 (n m : Nat) (x1 : ByteArray) (x2 : Int) (x3 : Int) (x4 : Int) (x5 : Int) (x6 : ByteArray) (x7 : Int) (x8 : Int) (K : Kc R) : evLoop (fun f k => evOi Try.prog (env13 n) ann13 (98, []) (lo13 n) (cu13 n) c13_l9 f k) (liveA ann13.loops 9) (outA ann13.loops 9) (m + 1) [.p (.v (.string x1)), .bx 32 [.p (.v (.int .i64 x2)), .p (.v (.int .i64 x3))], .p (.v (.int .i64 x4)), .p (.v (.int .i64 x5)), .p (.v (.func (.func 22) #[] #[])), .ob 51 5 x6, .p (.v (.int .i64 x7)), .p (.v (.int .i64 x8))] K = p13_l9B n (fun (x1 : ByteArray) (x2 : Int) (x3 : Int) (x4 : Int) (x5 : Int) (x6 : ByteArray) (x7 : Int) (x8 : Int) => evLoop (fun f k => evOi Try.prog (env13 n) ann13 (98, []) (lo13 n) (cu13 n) c13_l9 f k) (liveA ann13.loops 9) (outA ann13.loops 9) m [.p (.v (.string x1)), .bx 32 [.p (.v (.int .i64 x2)), .p (.v (.int .i64 x3))], .p (.v (.int .i64 x4)), .p (.v (.int .i64 x5)), .p (.v (.func (.func 22) #[] #[])), .ob 51 5 x6, .p (.v (.int .i64 x7)), .p (.v (.int .i64 x8))] K) x1 x2 x3 x4 x5 x6 x7 x8 (fun (y1 : ByteArray) (y2 : Int) (y3 : Int) (y4 : Int) (y5 : ByteArray) => K (.exit 0) (lk (outA ann13.loops 9) [.p (.v (.string y1)), .bx 32 [.p (.v (.int .i64 y2)), .p (.v (.int .i64 y3))], .dead, .dead, .p (.v (.int .i64 y4)), .p (.v (.func (.func 22) #[] #[])), .ob 51 5 y5])) := by kernel_rfl
theorem ep13_l9 (n : Nat) (K : Kc R) : ∀ (m : Nat) (x1 : ByteArray) (x2 : Int) (x3 : Int) (x4 : Int) (x5 : Int) (x6 : ByteArray) (x7 : Int) (x8 : Int), evLoop (fun f k => evOi Try.prog (env13 n) ann13 (98, []) (lo13 n) (cu13 n) c13_l9 f k) (liveA ann13.loops 9) (outA ann13.loops 9) m [.p (.v (.string x1)), .bx 32 [.p (.v (.int .i64 x2)), .p (.v (.int .i64 x3))], .p (.v (.int .i64 x4)), .p (.v (.int .i64 x5)), .p (.v (.func (.func 22) #[] #[])), .ob 51 5 x6, .p (.v (.int .i64 x7)), .p (.v (.int .i64 x8))] K = p13_l9L n m x1 x2 x3 x4 x5 x6 x7 x8 (fun (y1 : ByteArray) (y2 : Int) (y3 : Int) (y4 : Int) (y5 : ByteArray) => K (.exit 0) (lk (outA ann13.loops 9) [.p (.v (.string y1)), .bx 32 [.p (.v (.int .i64 y2)), .p (.v (.int .i64 y3))], .dead, .dead, .p (.v (.int .i64 y4)), .p (.v (.func (.func 22) #[] #[])), .ob 51 5 y5]))
  | 0, _, _, _, _, _, _, _, _ => rfl
  | m + 1, x1, x2, x3, x4, x5, x6, x7, x8 => (sp13_l9 n m x1 x2 x3 x4 x5 x6 x7 x8 K).trans (congrArg (fun l => p13_l9B n l x1 x2 x3 x4 x5 x6 x7 x8 (fun (y1 : ByteArray) (y2 : Int) (y3 : Int) (y4 : Int) (y5 : ByteArray) => K (.exit 0) (lk (outA ann13.loops 9) [.p (.v (.string y1)), .bx 32 [.p (.v (.int .i64 y2)), .p (.v (.int .i64 y3))], .dead, .dead, .p (.v (.int .i64 y4)), .p (.v (.func (.func 22) #[] #[])), .ob 51 5 y5]))) ((funext fun z0 => (funext fun z1 => (funext fun z2 => (funext fun z3 => (funext fun z4 => (funext fun z5 => (funext fun z6 => (funext fun z7 => (ep13_l9 n K m z0 z1 z2 z3 z4 z5 z6 z7)))))))))))
theorem q13_l9a1 (n : Nat) (vs : List SV) (K : Kc R) : evLoop (fun f k => evC Try.prog (env13 n) ann13 n (98, []) c13_l9 f k) (liveA ann13.loops 9) (outA ann13.loops 9) n vs K = o13_l9a1 n vs K := rfl
theorem q13_l9a0 (n : Nat) (vs : List SV) (K : Kc R) : evLoop (fun f k => evC Try.prog (env13 n) ann13 n (98, []) c13_l9 f k) (liveA ann13.loops 9) (outA ann13.loops 9) n vs K = o13_l9a0 n vs K := by
  unfold o13_l9a0 o13_l9t0
  refine dCons_eq (fun _ _ e => ?_) (q13_l9a1 n _ K)
  subst e
  refine dP_eq (fun _ e => ?_) (q13_l9a1 n _ K)
  subst e
  refine dStr_eq (fun _ e => ?_) (q13_l9a1 n _ K)
  subst e
  refine dCons_eq (fun _ _ e => ?_) (q13_l9a1 n _ K)
  subst e
  refine dBx_eq (fun _ e => ?_) (q13_l9a1 n _ K)
  subst e
  refine dCons_eq (fun _ _ e => ?_) (q13_l9a1 n _ K)
  subst e
  refine dP_eq (fun _ e => ?_) (q13_l9a1 n _ K)
  subst e
  refine dInt_eq (fun _ e => ?_) (q13_l9a1 n _ K)
  subst e
  refine dCons_eq (fun _ _ e => ?_) (q13_l9a1 n _ K)
  subst e
  refine dP_eq (fun _ e => ?_) (q13_l9a1 n _ K)
  subst e
  refine dInt_eq (fun _ e => ?_) (q13_l9a1 n _ K)
  subst e
  refine dNil_eq (fun e => ?_) (q13_l9a1 n _ K)
  subst e
  refine dCons_eq (fun _ _ e => ?_) (q13_l9a1 n _ K)
  subst e
  refine dP_eq (fun _ e => ?_) (q13_l9a1 n _ K)
  subst e
  refine dInt_eq (fun _ e => ?_) (q13_l9a1 n _ K)
  subst e
  refine dCons_eq (fun _ _ e => ?_) (q13_l9a1 n _ K)
  subst e
  refine dP_eq (fun _ e => ?_) (q13_l9a1 n _ K)
  subst e
  refine dInt_eq (fun _ e => ?_) (q13_l9a1 n _ K)
  subst e
  refine dCons_eq (fun _ _ e => ?_) (q13_l9a1 n _ K)
  subst e
  refine dP_eq (fun _ e => ?_) (q13_l9a1 n _ K)
  subst e
  refine dFn_eq (fun e => ?_) (q13_l9a1 n _ K)
  subst e
  refine dCons_eq (fun _ _ e => ?_) (q13_l9a1 n _ K)
  subst e
  refine dOb_eq (fun _ e => ?_) (q13_l9a1 n _ K)
  subst e
  refine dCons_eq (fun _ _ e => ?_) (q13_l9a1 n _ K)
  subst e
  refine dP_eq (fun _ e => ?_) (q13_l9a1 n _ K)
  subst e
  refine dInt_eq (fun _ e => ?_) (q13_l9a1 n _ K)
  subst e
  refine dCons_eq (fun _ _ e => ?_) (q13_l9a1 n _ K)
  subst e
  refine dP_eq (fun _ e => ?_) (q13_l9a1 n _ K)
  subst e
  refine dInt_eq (fun _ e => ?_) (q13_l9a1 n _ K)
  subst e
  refine dNil_eq (fun e => ?_) (q13_l9a1 n _ K)
  subst e
  rw [evLoop_congr (evC_evOi c13_l9 (pa13_l9 n))]
  exact ep13_l9 n K n _ _ _ _ _ _ _ _
theorem q13_l9 (n : Nat) : PartOK (R := R) Try.prog (env13 n) ann13 n (98, []) (lo13 n) (cu13 n) (false, 9, c13_l9) := fun vs K => q13_l9a0 n vs K
theorem pa13_l19 (n : Nat) : allP (PartOK (R := R) Try.prog (env13 n) ann13 n (98, []) (lo13 n) (cu13 n)) (partsOf ann13 c13_l19) := by
  have h : partsOf ann13 c13_l19 = [] := by kernel_rfl
  rw [h]
  exact trivial
theorem sp13_l19 (n m : Nat) (x1 : ByteArray) (x2 : Int) (x3 : Int) (x4 : ByteArray) (x5 : Int) (x6 : Int) (x7 : Int) (K : Kc R) : evLoop (fun f k => evOi Try.prog (env13 n) ann13 (98, []) (lo13 n) (cu13 n) c13_l19 f k) (liveA ann13.loops 19) (outA ann13.loops 19) (m + 1) [.p (.v (.string x1)), .bx 32 [.p (.v (.int .i64 x2)), .p (.v (.int .i64 x3))], .p (.v (.func (.func 22) #[] #[])), .ob 51 5 x4, .p (.v (.int .i64 x5)), .p (.v (.int .i64 x6)), .p (.v (.int .i64 x7))] K = p13_l19B n (fun (x1 : ByteArray) (x2 : Int) (x3 : Int) (x4 : ByteArray) (x5 : Int) (x6 : Int) (x7 : Int) => evLoop (fun f k => evOi Try.prog (env13 n) ann13 (98, []) (lo13 n) (cu13 n) c13_l19 f k) (liveA ann13.loops 19) (outA ann13.loops 19) m [.p (.v (.string x1)), .bx 32 [.p (.v (.int .i64 x2)), .p (.v (.int .i64 x3))], .p (.v (.func (.func 22) #[] #[])), .ob 51 5 x4, .p (.v (.int .i64 x5)), .p (.v (.int .i64 x6)), .p (.v (.int .i64 x7))] K) x1 x2 x3 x4 x5 x6 x7 (fun (y1 : ByteArray) (y2 : Int) => K (.exit 3) (lk (outA ann13.loops 19) [.dead, .dead, .ob 51 5 y1, .p (.v (.int .i64 y2))])) := by kernel_rfl
theorem ep13_l19 (n : Nat) (K : Kc R) : ∀ (m : Nat) (x1 : ByteArray) (x2 : Int) (x3 : Int) (x4 : ByteArray) (x5 : Int) (x6 : Int) (x7 : Int), evLoop (fun f k => evOi Try.prog (env13 n) ann13 (98, []) (lo13 n) (cu13 n) c13_l19 f k) (liveA ann13.loops 19) (outA ann13.loops 19) m [.p (.v (.string x1)), .bx 32 [.p (.v (.int .i64 x2)), .p (.v (.int .i64 x3))], .p (.v (.func (.func 22) #[] #[])), .ob 51 5 x4, .p (.v (.int .i64 x5)), .p (.v (.int .i64 x6)), .p (.v (.int .i64 x7))] K = p13_l19L n m x1 x2 x3 x4 x5 x6 x7 (fun (y1 : ByteArray) (y2 : Int) => K (.exit 3) (lk (outA ann13.loops 19) [.dead, .dead, .ob 51 5 y1, .p (.v (.int .i64 y2))]))
  | 0, _, _, _, _, _, _, _ => rfl
  | m + 1, x1, x2, x3, x4, x5, x6, x7 => (sp13_l19 n m x1 x2 x3 x4 x5 x6 x7 K).trans (congrArg (fun l => p13_l19B n l x1 x2 x3 x4 x5 x6 x7 (fun (y1 : ByteArray) (y2 : Int) => K (.exit 3) (lk (outA ann13.loops 19) [.dead, .dead, .ob 51 5 y1, .p (.v (.int .i64 y2))]))) ((funext fun z0 => (funext fun z1 => (funext fun z2 => (funext fun z3 => (funext fun z4 => (funext fun z5 => (funext fun z6 => (ep13_l19 n K m z0 z1 z2 z3 z4 z5 z6))))))))))
theorem q13_l19a1 (n : Nat) (vs : List SV) (K : Kc R) : evLoop (fun f k => evC Try.prog (env13 n) ann13 n (98, []) c13_l19 f k) (liveA ann13.loops 19) (outA ann13.loops 19) n vs K = o13_l19a1 n vs K := rfl
theorem q13_l19a0 (n : Nat) (vs : List SV) (K : Kc R) : evLoop (fun f k => evC Try.prog (env13 n) ann13 n (98, []) c13_l19 f k) (liveA ann13.loops 19) (outA ann13.loops 19) n vs K = o13_l19a0 n vs K := by
  unfold o13_l19a0 o13_l19t0
  refine dCons_eq (fun _ _ e => ?_) (q13_l19a1 n _ K)
  subst e
  refine dP_eq (fun _ e => ?_) (q13_l19a1 n _ K)
  subst e
  refine dStr_eq (fun _ e => ?_) (q13_l19a1 n _ K)
  subst e
  refine dCons_eq (fun _ _ e => ?_) (q13_l19a1 n _ K)
  subst e
  refine dBx_eq (fun _ e => ?_) (q13_l19a1 n _ K)
  subst e
  refine dCons_eq (fun _ _ e => ?_) (q13_l19a1 n _ K)
  subst e
  refine dP_eq (fun _ e => ?_) (q13_l19a1 n _ K)
  subst e
  refine dInt_eq (fun _ e => ?_) (q13_l19a1 n _ K)
  subst e
  refine dCons_eq (fun _ _ e => ?_) (q13_l19a1 n _ K)
  subst e
  refine dP_eq (fun _ e => ?_) (q13_l19a1 n _ K)
  subst e
  refine dInt_eq (fun _ e => ?_) (q13_l19a1 n _ K)
  subst e
  refine dNil_eq (fun e => ?_) (q13_l19a1 n _ K)
  subst e
  refine dCons_eq (fun _ _ e => ?_) (q13_l19a1 n _ K)
  subst e
  refine dP_eq (fun _ e => ?_) (q13_l19a1 n _ K)
  subst e
  refine dFn_eq (fun e => ?_) (q13_l19a1 n _ K)
  subst e
  refine dCons_eq (fun _ _ e => ?_) (q13_l19a1 n _ K)
  subst e
  refine dOb_eq (fun _ e => ?_) (q13_l19a1 n _ K)
  subst e
  refine dCons_eq (fun _ _ e => ?_) (q13_l19a1 n _ K)
  subst e
  refine dP_eq (fun _ e => ?_) (q13_l19a1 n _ K)
  subst e
  refine dInt_eq (fun _ e => ?_) (q13_l19a1 n _ K)
  subst e
  refine dCons_eq (fun _ _ e => ?_) (q13_l19a1 n _ K)
  subst e
  refine dP_eq (fun _ e => ?_) (q13_l19a1 n _ K)
  subst e
  refine dInt_eq (fun _ e => ?_) (q13_l19a1 n _ K)
  subst e
  refine dCons_eq (fun _ _ e => ?_) (q13_l19a1 n _ K)
  subst e
  refine dP_eq (fun _ e => ?_) (q13_l19a1 n _ K)
  subst e
  refine dInt_eq (fun _ e => ?_) (q13_l19a1 n _ K)
  subst e
  refine dNil_eq (fun e => ?_) (q13_l19a1 n _ K)
  subst e
  rw [evLoop_congr (evC_evOi c13_l19 (pa13_l19 n))]
  exact ep13_l19 n K n _ _ _ _ _ _ _
theorem q13_l19 (n : Nat) : PartOK (R := R) Try.prog (env13 n) ann13 n (98, []) (lo13 n) (cu13 n) (false, 19, c13_l19) := fun vs K => q13_l19a0 n vs K
theorem pa13_c3 (n : Nat) : allP (PartOK (R := R) Try.prog (env13 n) ann13 n (98, []) (lo13 n) (cu13 n)) (partsOf ann13 c13_c3) := by
  have h : partsOf ann13 c13_c3 = [(false, 9, c13_l9), (false, 19, c13_l19)] := by kernel_rfl
  rw [h]
  exact ⟨q13_l9 n, q13_l19 n, trivial⟩
theorem ep13_c3 (n : Nat) (x1 : ByteArray) (x2 : Int) (x3 : Int) (K : Kc R) : evCut (fun f k => evOi Try.prog (env13 n) ann13 (98, []) (lo13 n) (cu13 n) c13_c3 f k) (liveA ann13.cuts 3) (outA ann13.cuts 3) [.p (.v (.string x1)), .bx 32 [.p (.v (.int .i64 x2)), .p (.v (.int .i64 x3))]] K = p13_c3 n x1 x2 x3 (fun (y1 : ByteArray) (y2 : Int) => K .ret (lk (outA ann13.cuts 3) [.p (.v (.string y1)), .p (.v (.int .i64 y2))])) := by kernel_rfl
theorem q13_c3a1 (n : Nat) (vs : List SV) (K : Kc R) : evCut (fun f k => evC Try.prog (env13 n) ann13 n (98, []) c13_c3 f k) (liveA ann13.cuts 3) (outA ann13.cuts 3) vs K = o13_c3a1 n vs K := rfl
theorem q13_c3a0 (n : Nat) (vs : List SV) (K : Kc R) : evCut (fun f k => evC Try.prog (env13 n) ann13 n (98, []) c13_c3 f k) (liveA ann13.cuts 3) (outA ann13.cuts 3) vs K = o13_c3a0 n vs K := by
  unfold o13_c3a0 o13_c3t0
  refine dCons_eq (fun _ _ e => ?_) (q13_c3a1 n _ K)
  subst e
  refine dP_eq (fun _ e => ?_) (q13_c3a1 n _ K)
  subst e
  refine dStr_eq (fun _ e => ?_) (q13_c3a1 n _ K)
  subst e
  refine dCons_eq (fun _ _ e => ?_) (q13_c3a1 n _ K)
  subst e
  refine dBx_eq (fun _ e => ?_) (q13_c3a1 n _ K)
  subst e
  refine dCons_eq (fun _ _ e => ?_) (q13_c3a1 n _ K)
  subst e
  refine dP_eq (fun _ e => ?_) (q13_c3a1 n _ K)
  subst e
  refine dInt_eq (fun _ e => ?_) (q13_c3a1 n _ K)
  subst e
  refine dCons_eq (fun _ _ e => ?_) (q13_c3a1 n _ K)
  subst e
  refine dP_eq (fun _ e => ?_) (q13_c3a1 n _ K)
  subst e
  refine dInt_eq (fun _ e => ?_) (q13_c3a1 n _ K)
  subst e
  refine dNil_eq (fun e => ?_) (q13_c3a1 n _ K)
  subst e
  refine dNil_eq (fun e => ?_) (q13_c3a1 n _ K)
  subst e
  rw [evCut_congr (evC_evOi c13_c3 (pa13_c3 n))]
  exact ep13_c3 n _ _ _ K
theorem q13_c3 (n : Nat) : PartOK (R := R) Try.prog (env13 n) ann13 n (98, []) (lo13 n) (cu13 n) (true, 3, c13_c3) := fun vs K => q13_c3a0 n vs K
theorem pa13 (n : Nat) : allP (PartOK (R := R) Try.prog (env13 n) ann13 n (98, []) (lo13 n) (cu13 n)) (partsOf ann13 (bodyOf Try.f13)) := by
  have h : partsOf ann13 (bodyOf Try.f13) = [(true, 3, c13_c3)] := by kernel_rfl
  rw [h]
  exact ⟨q13_c3 n, trivial⟩
theorem ep13 (n : Nat) (x1 : ByteArray) (x2 : Int) (x3 : Int) (K : List SV → Option R) : evFnOi Try.prog (env13 n) ann13 (lo13 n) (cu13 n) Try.f13 [.p (.v (.string x1)), .p (.agg [.v (.int .i64 x2), .v (.int .i64 x3)])] K = p13 n x1 x2 x3 (fun (y1 : ByteArray) (y2 : Int) => K [.p (.v (.string y1)), .p (.v (.int .i64 y2))]) := by kernel_rfl
noncomputable abbrev fs13a1 (n : Nat) (args : List SV) (K : List SV → Option R) : Option R := none
noncomputable abbrev fs13t0 (n : Nat) (D : Option R) (args : List SV) (K : List SV → Option R) : Option R :=
  dCons args D fun z1 z2 => dP z1 D fun z3 => dStr z3 D fun x1 => dCons z2 D fun z4 z5 => dP z4 D fun z6 => dAgg z6 D fun z7 => qCons z7 D fun z8 z9 => dInt .i64 z8 D fun x2 => qCons z9 D fun z10 z11 => dInt .i64 z10 D fun x3 => qNil z11 D (dNil z5 D (p13 n x1 x2 x3 (fun (y1 : ByteArray) (y2 : Int) => K [.p (.v (.string y1)), .p (.v (.int .i64 y2))])))
noncomputable abbrev fs13a0 (n : Nat) (args : List SV) (K : List SV → Option R) : Option R := fs13t0 n (fs13a1 n args K) args K
theorem hs13a1 (n : Nat) (args : List SV) (K : List SV → Option R) (res : R) : fs13a1 n args K = some res → evFn Try.prog (env13 n) ann13 n Try.f13 args K = some res := fun h => by cases h
theorem hs13a0 (n : Nat) (args : List SV) (K : List SV → Option R) (res : R) : fs13a0 n args K = some res → evFn Try.prog (env13 n) ann13 n Try.f13 args K = some res := by
  unfold fs13a0 fs13t0
  refine dCons_imp (fun _ _ e => ?_) (hs13a1 n _ K res)
  subst e
  refine dP_imp (fun _ e => ?_) (hs13a1 n _ K res)
  subst e
  refine dStr_imp (fun _ e => ?_) (hs13a1 n _ K res)
  subst e
  refine dCons_imp (fun _ _ e => ?_) (hs13a1 n _ K res)
  subst e
  refine dP_imp (fun _ e => ?_) (hs13a1 n _ K res)
  subst e
  refine dAgg_imp (fun _ e => ?_) (hs13a1 n _ K res)
  subst e
  refine qCons_imp (fun _ _ e => ?_) (hs13a1 n _ K res)
  subst e
  refine dInt_imp (fun _ e => ?_) (hs13a1 n _ K res)
  subst e
  refine qCons_imp (fun _ _ e => ?_) (hs13a1 n _ K res)
  subst e
  refine dInt_imp (fun _ e => ?_) (hs13a1 n _ K res)
  subst e
  refine qNil_imp (fun e => ?_) (hs13a1 n _ K res)
  subst e
  refine dNil_imp (fun e => ?_) (hs13a1 n _ K res)
  subst e
  intro h
  rw [evFn_evOi (c := bodyOf Try.f13) (by kernel_rfl) (pa13 n), ep13]
  exact h
end
noncomputable abbrev fs13 (n : Nat) : FS := { om := [false, false], run := fun args K => fs13a0 n args K }
theorem ok13 (n : Nat) : FSound Try.prog 13 (fs13 n) :=
  FSound.of (envok13 n) (ann := ann13) (n := n) (by kernel_rfl) Try.func13 (by kernel_rfl) (by kernel_rfl) fun {R args K res} h => hs13a0 n args K res h
end Go.Proofs.Ytlplpkbhjddmeaa


set_option linter.unusedVariables false
set_option maxRecDepth 100000
namespace Go.Proofs.Ytlplpkbhjddmeaa
open Go Th Go.Proofs
def ann14 : Ann := { loops := [(8, [(1, .id), (2, .id), (9, .id), (11, .id), (13, .id), (14, .id), (15, .id)], [(6, .id), (7, .id), (13, .id), (14, .id)])], cuts := [(3, [(0, .id), (1, .id), (2, .id)], [(6, .id), (7, .id)]), (9, [(1, .id), (2, .id), (9, .id), (11, .id), (13, .id), (14, .id), (15, .id)], [(1, .id), (2, .id), (6, .id), (7, .id), (9, .id), (11, .id), (13, .id), (14, .id), (15, .id)]), (11, [(1, .id), (2, .id), (9, .id), (11, .id), (13, .id), (14, .id), (15, .id), (16, .id)], [(1, .id), (2, .id), (6, .id), (7, .id), (9, .id), (11, .id), (13, .id), (14, .id), (15, .id)]), (12, [(1, .id), (2, .id), (9, .id), (11, .id), (13, .id), (14, .id), (15, .id), (16, .id), (61, .id)], [(1, .id), (2, .id), (6, .id), (7, .id), (9, .id), (11, .id), (13, .id), (14, .id), (15, .id)]), (14, [(1, .id), (2, .id), (9, .id), (11, .id), (13, .id), (14, .id), (15, .id), (16, .id), (73, .id)], [(1, .id), (2, .id), (6, .id), (7, .id), (9, .id), (11, .id), (13, .id), (14, .id), (15, .id)]), (19, [(13, .id), (14, .id)], [(6, .id), (7, .id)])], frz := [], rm := [.id, .id] }
noncomputable abbrev env14 (n : Nat) : Env := fun i => bif Nat.beq i 18 then some (fs18 n) else (fun i => bif Nat.beq i 12 then some (fs12 n) else (fun _ => none) i) i
theorem envok14 (n : Nat) : EnvOK Try.prog (env14 n) := EnvOK.cons (EnvOK.cons (EnvOK.nil) (ok12 n)) (ok18 n)
noncomputable def p14_c14 {R : Type} (n : Nat) (x1 : Int) (x2 : Int) (x3 : Int) (x4 : ByteArray) (x5 : ByteArray) (x6 : ByteArray) (x7 : Int) (x8 : Bool) (x9 : Bool) (k0 : Int → Int → Int → ByteArray → ByteArray → ByteArray → Int → Option R) : Option R :=
  bif x9 then (catS x5 (⟨#[32]⟩ : ByteArray) fun s10 => k0 x1 x2 x3 x4 s10 x6 x7) else (bif (decide (x7 ≥ x3)) then (bif (bif true then (decide (IntKind.i64.wrap (x7 - x3) < IntKind.i64.wrap (x2 - x1))) else false) then (bif (bif true then (!x8) else false) then (catS x6 (⟨#[94]⟩ : ByteArray) fun s11 => k0 x1 x2 x3 x4 x5 s11 x7) else (k0 x1 x2 x3 x4 x5 x6 x7)) else (k0 x1 x2 x3 x4 x5 x6 x7)) else (k0 x1 x2 x3 x4 x5 x6 x7))
noncomputable def p14_c12 {R : Type} (n : Nat) (x1 : Int) (x2 : Int) (x3 : Int) (x4 : ByteArray) (x5 : ByteArray) (x6 : ByteArray) (x7 : Int) (x8 : Bool) (x9 : Bool) (k0 : Int → Int → Int → ByteArray → ByteArray → ByteArray → Int → Option R) : Option R :=
  bif x9 then (catS x5 (⟨#[9]⟩ : ByteArray) fun s10 => k0 x1 x2 x3 x4 s10 x6 x7) else (bif (decide (x7 < x3)) then (p14_c14 n x1 x2 x3 x4 x5 x6 x7 x8 (bif true then (!x8) else false) (fun (y11 : Int) (y12 : Int) (y13 : Int) (y14 : ByteArray) (y15 : ByteArray) (y16 : ByteArray) (y17 : Int) => k0 y11 y12 y13 y14 y15 y16 y17)) else (p14_c14 n x1 x2 x3 x4 x5 x6 x7 x8 false (fun (y18 : Int) (y19 : Int) (y20 : Int) (y21 : ByteArray) (y22 : ByteArray) (y23 : ByteArray) (y24 : Int) => k0 y18 y19 y20 y21 y22 y23 y24)))
noncomputable def p14_c11 {R : Type} (n : Nat) (x1 : Int) (x2 : Int) (x3 : Int) (x4 : ByteArray) (x5 : ByteArray) (x6 : ByteArray) (x7 : Int) (x8 : Bool) (k0 : Int → Int → Int → ByteArray → ByteArray → ByteArray → Int → Option R) : Option R :=
  bif (decide (x7 < x3)) then (bif (inR x7 (x4).size) then (p14_c12 n x1 x2 x3 x4 x5 x6 x7 x8 (bif true then (byteAt x4 x7 == 9) else false) (fun (y9 : Int) (y10 : Int) (y11 : Int) (y12 : ByteArray) (y13 : ByteArray) (y14 : ByteArray) (y15 : Int) => k0 y9 y10 y11 y12 y13 y14 y15)) else none) else (p14_c12 n x1 x2 x3 x4 x5 x6 x7 x8 false (fun (y16 : Int) (y17 : Int) (y18 : Int) (y19 : ByteArray) (y20 : ByteArray) (y21 : ByteArray) (y22 : Int) => k0 y16 y17 y18 y19 y20 y21 y22))
noncomputable def p14_c9 {R : Type} (n : Nat) (x1 : Int) (x2 : Int) (x3 : Int) (x4 : ByteArray) (x5 : ByteArray) (x6 : ByteArray) (x7 : Int) (k0 : Int → Int → Int → ByteArray → ByteArray → ByteArray → Int → Option R) : Option R :=
  k0 x1 x2 x3 x4 x5 x6 (IntKind.i64.wrap (x7 + 1))
noncomputable def p14_l8B {R : Type} (n : Nat) (l0 : Int → Int → Int → ByteArray → ByteArray → ByteArray → Int → Option R) (x1 : Int) (x2 : Int) (x3 : Int) (x4 : ByteArray) (x5 : ByteArray) (x6 : ByteArray) (x7 : Int) (k0 : ByteArray → ByteArray → Option R) : Option R :=
  bif (decide (x7 < ((x4).size : Int))) then (bif (inR x7 (x4).size) then (bif (decide (byteAt x4 x7 ≥ 128)) then (bif (inR x7 (x4).size) then (p14_c11 n x1 x2 x3 x4 x5 x6 x7 (bif true then (decide (byteAt x4 x7 < 192)) else false) (fun (y8 : Int) (y9 : Int) (y10 : Int) (y11 : ByteArray) (y12 : ByteArray) (y13 : ByteArray) (y14 : Int) => p14_c9 n y8 y9 y10 y11 y12 y13 y14 (fun (y15 : Int) (y16 : Int) (y17 : Int) (y18 : ByteArray) (y19 : ByteArray) (y20 : ByteArray) (y21 : Int) => l0 y15 y16 y17 y18 y19 y20 y21))) else none) else (p14_c11 n x1 x2 x3 x4 x5 x6 x7 false (fun (y22 : Int) (y23 : Int) (y24 : Int) (y25 : ByteArray) (y26 : ByteArray) (y27 : ByteArray) (y28 : Int) => p14_c9 n y22 y23 y24 y25 y26 y27 y28 (fun (y29 : Int) (y30 : Int) (y31 : Int) (y32 : ByteArray) (y33 : ByteArray) (y34 : ByteArray) (y35 : Int) => l0 y29 y30 y31 y32 y33 y34 y35)))) else none) else (k0 x5 x6)
noncomputable def p14_l8L {R : Type} (n : Nat) : Nat → Int → Int → Int → ByteArray → ByteArray → ByteArray → Int → (ByteArray → ByteArray → Option R) → Option R
  | 0, _, _, _, _, _, _, _, _ => none
  | m + 1, x1, x2, x3, x4, x5, x6, x7, k0 => p14_l8B n (fun x1 x2 x3 x4 x5 x6 x7 => p14_l8L n m x1 x2 x3 x4 x5 x6 x7 k0) x1 x2 x3 x4 x5 x6 x7 k0
noncomputable def p14_l8 {R : Type} (n : Nat) (x1 : Int) (x2 : Int) (x3 : Int) (x4 : ByteArray) (x5 : ByteArray) (x6 : ByteArray) (x7 : Int) (k0 : ByteArray → ByteArray → Option R) : Option R := p14_l8L n n x1 x2 x3 x4 x5 x6 x7 k0
noncomputable def p14_c19 {R : Type} (n : Nat) (x1 : ByteArray) (x2 : ByteArray) (k0 : ByteArray → Int → Option R) : Option R :=
  catS x1 x2 fun s3 => k0 s3 0
noncomputable def p14_c3 {R : Type} (n : Nat) (x1 : ByteArray) (x2 : Int) (x3 : Int) (k0 : ByteArray → Int → Option R) : Option R :=
  p12 n x1 x2 (fun (y4 : Int) (y5 : Int) (y6 : Int) => p18 n x1 y4 (fun (y7 : ByteArray) (y8 : Int) => catS y7 (⟨#[10]⟩ : ByteArray) fun s9 => p14_l8 n x2 x3 y5 y7 s9 ⟨#[]⟩ 0 (fun (y10 : ByteArray) (y11 : ByteArray) => bif (eqS y11 (⟨#[]⟩ : ByteArray)) then (p14_c19 n y10 ⟨#[94]⟩ (fun (y12 : ByteArray) (y13 : Int) => k0 y12 y13)) else (p14_c19 n y10 y11 (fun (y14 : ByteArray) (y15 : Int) => k0 y14 y15)))))
noncomputable def p14 {R : Type} (n : Nat) (x1 : ByteArray) (x2 : Int) (x3 : Int) (k0 : ByteArray → Int → Option R) : Option R :=
  bif (decide (x2 < 0)) then (k0 ⟨#[]⟩ 2) else (bif (bif false then true else (decide (x2 > x3))) then (k0 ⟨#[]⟩ 2) else (bif (bif false then true else (decide (x3 > ((x1).size : Int)))) then (k0 ⟨#[]⟩ 2) else (p14_c3 n x1 x2 x3 (fun (y4 : ByteArray) (y5 : Int) => k0 y4 y5))))
noncomputable def c14_c3 : Code := subC (bodyOf Try.f14) [1, 1]
noncomputable abbrev o14_c3a1 {R : Type} (n : Nat) (vs : List SV) (K : Kc R) : Option R := evCut (fun f k => evC Try.prog (env14 n) ann14 n (107, []) c14_c3 f k) (liveA ann14.cuts 3) (outA ann14.cuts 3) vs K
noncomputable abbrev o14_c3t0 {R : Type} (n : Nat) (D : Option R) (vs : List SV) (K : Kc R) : Option R :=
  dCons vs D fun z1 z2 => dP z1 D fun z3 => dStr z3 D fun x1 => dCons z2 D fun z4 z5 => dP z4 D fun z6 => dInt .i64 z6 D fun x2 => dCons z5 D fun z7 z8 => dP z7 D fun z9 => dInt .i64 z9 D fun x3 => dNil z8 D (p14_c3 n x1 x2 x3 (fun (y1 : ByteArray) (y2 : Int) => K .ret (lk (outA ann14.cuts 3) [.p (.v (.string y1)), .p (.v (.int .i64 y2))])))
noncomputable abbrev o14_c3a0 {R : Type} (n : Nat) (vs : List SV) (K : Kc R) : Option R := o14_c3t0 n (o14_c3a1 n vs K) vs K
noncomputable abbrev o14_c3 {R : Type} (n : Nat) (vs : List SV) (K : Kc R) : Option R := o14_c3a0 n vs K
noncomputable def c14_c9 : Code := subC (bodyOf Try.f14) [1, 1, 1, 1, 1, 1, 0, 1, 0, 0, 1, 1]
noncomputable abbrev o14_c9a1 {R : Type} (n : Nat) (vs : List SV) (K : Kc R) : Option R := evCut (fun f k => evC Try.prog (env14 n) ann14 n (107, []) c14_c9 f k) (liveA ann14.cuts 9) (outA ann14.cuts 9) vs K
noncomputable abbrev o14_c9t0 {R : Type} (n : Nat) (D : Option R) (vs : List SV) (K : Kc R) : Option R :=
  dCons vs D fun z1 z2 => dP z1 D fun z3 => dInt .i64 z3 D fun x1 => dCons z2 D fun z4 z5 => dP z4 D fun z6 => dInt .i64 z6 D fun x2 => dCons z5 D fun z7 z8 => dP z7 D fun z9 => dInt .i64 z9 D fun x3 => dCons z8 D fun z10 z11 => dP z10 D fun z12 => dStr z12 D fun x4 => dCons z11 D fun z13 z14 => dP z13 D fun z15 => dStr z15 D fun x5 => dCons z14 D fun z16 z17 => dP z16 D fun z18 => dStr z18 D fun x6 => dCons z17 D fun z19 z20 => dP z19 D fun z21 => dInt .i64 z21 D fun x7 => dNil z20 D (p14_c9 n x1 x2 x3 x4 x5 x6 x7 (fun (y1 : Int) (y2 : Int) (y3 : Int) (y4 : ByteArray) (y5 : ByteArray) (y6 : ByteArray) (y7 : Int) => K .normal (lk (outA ann14.cuts 9) [.p (.v (.int .i64 y1)), .p (.v (.int .i64 y2)), .dead, .dead, .p (.v (.int .i64 y3)), .p (.v (.string y4)), .p (.v (.string y5)), .p (.v (.string y6)), .p (.v (.int .i64 y7))])))
noncomputable abbrev o14_c9a0 {R : Type} (n : Nat) (vs : List SV) (K : Kc R) : Option R := o14_c9t0 n (o14_c9a1 n vs K) vs K
noncomputable abbrev o14_c9 {R : Type} (n : Nat) (vs : List SV) (K : Kc R) : Option R := o14_c9a0 n vs K
noncomputable def c14_c11 : Code := subC (bodyOf Try.f14) [1, 1, 1, 1, 1, 1, 0, 1, 0, 0, 1, 0, 0, 1]
noncomputable abbrev o14_c11a1 {R : Type} (n : Nat) (vs : List SV) (K : Kc R) : Option R := evCut (fun f k => evC Try.prog (env14 n) ann14 n (107, []) c14_c11 f k) (liveA ann14.cuts 11) (outA ann14.cuts 11) vs K
noncomputable abbrev o14_c11t0 {R : Type} (n : Nat) (D : Option R) (vs : List SV) (K : Kc R) : Option R :=
  dCons vs D fun z1 z2 => dP z1 D fun z3 => dInt .i64 z3 D fun x1 => dCons z2 D fun z4 z5 => dP z4 D fun z6 => dInt .i64 z6 D fun x2 => dCons z5 D fun z7 z8 => dP z7 D fun z9 => dInt .i64 z9 D fun x3 => dCons z8 D fun z10 z11 => dP z10 D fun z12 => dStr z12 D fun x4 => dCons z11 D fun z13 z14 => dP z13 D fun z15 => dStr z15 D fun x5 => dCons z14 D fun z16 z17 => dP z16 D fun z18 => dStr z18 D fun x6 => dCons z17 D fun z19 z20 => dP z19 D fun z21 => dInt .i64 z21 D fun x7 => dCons z20 D fun z22 z23 => dP z22 D fun z24 => dBool z24 D fun x8 => dNil z23 D (p14_c11 n x1 x2 x3 x4 x5 x6 x7 x8 (fun (y1 : Int) (y2 : Int) (y3 : Int) (y4 : ByteArray) (y5 : ByteArray) (y6 : ByteArray) (y7 : Int) => K .normal (lk (outA ann14.cuts 11) [.p (.v (.int .i64 y1)), .p (.v (.int .i64 y2)), .dead, .dead, .p (.v (.int .i64 y3)), .p (.v (.string y4)), .p (.v (.string y5)), .p (.v (.string y6)), .p (.v (.int .i64 y7))])))
noncomputable abbrev o14_c11a0 {R : Type} (n : Nat) (vs : List SV) (K : Kc R) : Option R := o14_c11t0 n (o14_c11a1 n vs K) vs K
noncomputable abbrev o14_c11 {R : Type} (n : Nat) (vs : List SV) (K : Kc R) : Option R := o14_c11a0 n vs K
noncomputable def c14_c12 : Code := subC (bodyOf Try.f14) [1, 1, 1, 1, 1, 1, 0, 1, 0, 0, 1, 0, 0, 1, 0, 1]
noncomputable abbrev o14_c12a1 {R : Type} (n : Nat) (vs : List SV) (K : Kc R) : Option R := evCut (fun f k => evC Try.prog (env14 n) ann14 n (107, []) c14_c12 f k) (liveA ann14.cuts 12) (outA ann14.cuts 12) vs K
noncomputable abbrev o14_c12t0 {R : Type} (n : Nat) (D : Option R) (vs : List SV) (K : Kc R) : Option R :=
  dCons vs D fun z1 z2 => dP z1 D fun z3 => dInt .i64 z3 D fun x1 => dCons z2 D fun z4 z5 => dP z4 D fun z6 => dInt .i64 z6 D fun x2 => dCons z5 D fun z7 z8 => dP z7 D fun z9 => dInt .i64 z9 D fun x3 => dCons z8 D fun z10 z11 => dP z10 D fun z12 => dStr z12 D fun x4 => dCons z11 D fun z13 z14 => dP z13 D fun z15 => dStr z15 D fun x5 => dCons z14 D fun z16 z17 => dP z16 D fun z18 => dStr z18 D fun x6 => dCons z17 D fun z19 z20 => dP z19 D fun z21 => dInt .i64 z21 D fun x7 => dCons z20 D fun z22 z23 => dP z22 D fun z24 => dBool z24 D fun x8 => dCons z23 D fun z25 z26 => dP z25 D fun z27 => dBool z27 D fun x9 => dNil z26 D (p14_c12 n x1 x2 x3 x4 x5 x6 x7 x8 x9 (fun (y1 : Int) (y2 : Int) (y3 : Int) (y4 : ByteArray) (y5 : ByteArray) (y6 : ByteArray) (y7 : Int) => K .normal (lk (outA ann14.cuts 12) [.p (.v (.int .i64 y1)), .p (.v (.int .i64 y2)), .dead, .dead, .p (.v (.int .i64 y3)), .p (.v (.string y4)), .p (.v (.string y5)), .p (.v (.string y6)), .p (.v (.int .i64 y7))])))
noncomputable abbrev o14_c12a0 {R : Type} (n : Nat) (vs : List SV) (K : Kc R) : Option R := o14_c12t0 n (o14_c12a1 n vs K) vs K
noncomputable abbrev o14_c12 {R : Type} (n : Nat) (vs : List SV) (K : Kc R) : Option R := o14_c12a0 n vs K
noncomputable def c14_c14 : Code := subC (bodyOf Try.f14) [1, 1, 1, 1, 1, 1, 0, 1, 0, 0, 1, 0, 0, 1, 0, 1, 1, 1]
noncomputable abbrev o14_c14a1 {R : Type} (n : Nat) (vs : List SV) (K : Kc R) : Option R := evCut (fun f k => evC Try.prog (env14 n) ann14 n (107, []) c14_c14 f k) (liveA ann14.cuts 14) (outA ann14.cuts 14) vs K
noncomputable abbrev o14_c14t0 {R : Type} (n : Nat) (D : Option R) (vs : List SV) (K : Kc R) : Option R :=
  dCons vs D fun z1 z2 => dP z1 D fun z3 => dInt .i64 z3 D fun x1 => dCons z2 D fun z4 z5 => dP z4 D fun z6 => dInt .i64 z6 D fun x2 => dCons z5 D fun z7 z8 => dP z7 D fun z9 => dInt .i64 z9 D fun x3 => dCons z8 D fun z10 z11 => dP z10 D fun z12 => dStr z12 D fun x4 => dCons z11 D fun z13 z14 => dP z13 D fun z15 => dStr z15 D fun x5 => dCons z14 D fun z16 z17 => dP z16 D fun z18 => dStr z18 D fun x6 => dCons z17 D fun z19 z20 => dP z19 D fun z21 => dInt .i64 z21 D fun x7 => dCons z20 D fun z22 z23 => dP z22 D fun z24 => dBool z24 D fun x8 => dCons z23 D fun z25 z26 => dP z25 D fun z27 => dBool z27 D fun x9 => dNil z26 D (p14_c14 n x1 x2 x3 x4 x5 x6 x7 x8 x9 (fun (y1 : Int) (y2 : Int) (y3 : Int) (y4 : ByteArray) (y5 : ByteArray) (y6 : ByteArray) (y7 : Int) => K .normal (lk (outA ann14.cuts 14) [.p (.v (.int .i64 y1)), .p (.v (.int .i64 y2)), .dead, .dead, .p (.v (.int .i64 y3)), .p (.v (.string y4)), .p (.v (.string y5)), .p (.v (.string y6)), .p (.v (.int .i64 y7))])))
noncomputable abbrev o14_c14a0 {R : Type} (n : Nat) (vs : List SV) (K : Kc R) : Option R := o14_c14t0 n (o14_c14a1 n vs K) vs K
noncomputable abbrev o14_c14 {R : Type} (n : Nat) (vs : List SV) (K : Kc R) : Option R := o14_c14a0 n vs K
noncomputable def c14_c19 : Code := subC (bodyOf Try.f14) [1, 1, 1, 1, 1, 1, 1, 1]
noncomputable abbrev o14_c19a1 {R : Type} (n : Nat) (vs : List SV) (K : Kc R) : Option R := evCut (fun f k => evC Try.prog (env14 n) ann14 n (107, []) c14_c19 f k) (liveA ann14.cuts 19) (outA ann14.cuts 19) vs K
noncomputable abbrev o14_c19t0 {R : Type} (n : Nat) (D : Option R) (vs : List SV) (K : Kc R) : Option R :=
  dCons vs D fun z1 z2 => dP z1 D fun z3 => dStr z3 D fun x1 => dCons z2 D fun z4 z5 => dP z4 D fun z6 => dStr z6 D fun x2 => dNil z5 D (p14_c19 n x1 x2 (fun (y1 : ByteArray) (y2 : Int) => K .ret (lk (outA ann14.cuts 19) [.p (.v (.string y1)), .p (.v (.int .i64 y2))])))
noncomputable abbrev o14_c19a0 {R : Type} (n : Nat) (vs : List SV) (K : Kc R) : Option R := o14_c19t0 n (o14_c19a1 n vs K) vs K
noncomputable abbrev o14_c19 {R : Type} (n : Nat) (vs : List SV) (K : Kc R) : Option R := o14_c19a0 n vs K
noncomputable def c14_l8 : Code := subC (bodyOf Try.f14) [1, 1, 1, 1, 1, 1, 0, 1, 0, 0]
noncomputable abbrev o14_l8a1 {R : Type} (n : Nat) (vs : List SV) (K : Kc R) : Option R := evLoop (fun f k => evC Try.prog (env14 n) ann14 n (107, []) c14_l8 f k) (liveA ann14.loops 8) (outA ann14.loops 8) n vs K
noncomputable abbrev o14_l8t0 {R : Type} (n : Nat) (D : Option R) (vs : List SV) (K : Kc R) : Option R :=
  dCons vs D fun z1 z2 => dP z1 D fun z3 => dInt .i64 z3 D fun x1 => dCons z2 D fun z4 z5 => dP z4 D fun z6 => dInt .i64 z6 D fun x2 => dCons z5 D fun z7 z8 => dP z7 D fun z9 => dInt .i64 z9 D fun x3 => dCons z8 D fun z10 z11 => dP z10 D fun z12 => dStr z12 D fun x4 => dCons z11 D fun z13 z14 => dP z13 D fun z15 => dStr z15 D fun x5 => dCons z14 D fun z16 z17 => dP z16 D fun z18 => dStr z18 D fun x6 => dCons z17 D fun z19 z20 => dP z19 D fun z21 => dInt .i64 z21 D fun x7 => dNil z20 D (p14_l8 n x1 x2 x3 x4 x5 x6 x7 (fun (y1 : ByteArray) (y2 : ByteArray) => K (.exit 0) (lk (outA ann14.loops 8) [.dead, .dead, .p (.v (.string y1)), .p (.v (.string y2))])))
noncomputable abbrev o14_l8a0 {R : Type} (n : Nat) (vs : List SV) (K : Kc R) : Option R := o14_l8t0 n (o14_l8a1 n vs K) vs K
noncomputable abbrev o14_l8 {R : Type} (n : Nat) (vs : List SV) (K : Kc R) : Option R := o14_l8a0 n vs K
noncomputable abbrev lo14 {R : Type} (n : Nat) : Orc R := fun i vs K => bif Nat.beq i 8 then o14_l8 n vs K else none
noncomputable abbrev cu14 {R : Type} (n : Nat) : Orc R := fun i vs K => bif Nat.beq i 19 then o14_c19 n vs K else bif Nat.beq i 14 then o14_c14 n vs K else bif Nat.beq i 12 then o14_c12 n vs K else bif Nat.beq i 11 then o14_c11 n vs K else bif Nat.beq i 9 then o14_c9 n vs K else bif Nat.beq i 3 then o14_c3 n vs K else none
section
variable {R : Type}
theorem pa14_c14 (n : Nat) : allP (PartOK (R := R) Try.prog (env14 n) ann14 n (107, []) (lo14 n) (cu14 n)) (partsOf ann14 c14_c14) := by
  have h : partsOf ann14 c14_c14 = [] := by kernel_rfl
  rw [h]
  exact trivial
theorem ep14_c14 (n : Nat) (x1 : Int) (x2 : Int) (x3 : Int) (x4 : ByteArray) (x5 : ByteArray) (x6 : ByteArray) (x7 : Int) (x8 : Bool) (x9 : Bool) (K : Kc R) : evCut (fun f k => evOi Try.prog (env14 n) ann14 (107, []) (lo14 n) (cu14 n) c14_c14 f k) (liveA ann14.cuts 14) (outA ann14.cuts 14) [.p (.v (.int .i64 x1)), .p (.v (.int .i64 x2)), .p (.v (.int .i64 x3)), .p (.v (.string x4)), .p (.v (.string x5)), .p (.v (.string x6)), .p (.v (.int .i64 x7)), .p (.v (.bool x8)), .p (.v (.bool x9))] K = p14_c14 n x1 x2 x3 x4 x5 x6 x7 x8 x9 (fun (y1 : Int) (y2 : Int) (y3 : Int) (y4 : ByteArray) (y5 : ByteArray) (y6 : ByteArray) (y7 : Int) => K .normal (lk (outA ann14.cuts 14) [.p (.v (.int .i64 y1)), .p (.v (.int .i64 y2)), .dead, .dead, .p (.v (.int .i64 y3)), .p (.v (.string y4)), .p (.v (.string y5)), .p (.v (.string y6)), .p (.v (.int .i64 y7))])) := by kernel_rfl
theorem q14_c14a1 (n : Nat) (vs : List SV) (K : Kc R) : evCut (fun f k => evC Try.prog (env14 n) ann14 n (107, []) c14_c14 f k) (liveA ann14.cuts 14) (outA ann14.cuts 14) vs K = o14_c14a1 n vs K := rfl
theorem q14_c14a0 (n : Nat) (vs : List SV) (K : Kc R) : evCut (fun f k => evC Try.prog (env14 n) ann14 n (107, []) c14_c14 f k) (liveA ann14.cuts 14) (outA ann14.cuts 14) vs K = o14_c14a0 n vs K := by
  unfold o14_c14a0 o14_c14t0
  refine dCons_eq (fun _ _ e => ?_) (q14_c14a1 n _ K)
  subst e
  refine dP_eq (fun _ e => ?_) (q14_c14a1 n _ K)
  subst e
  refine dInt_eq (fun _ e => ?_) (q14_c14a1 n _ K)
  subst e
  refine dCons_eq (fun _ _ e => ?_) (q14_c14a1 n _ K)
  subst e
  refine dP_eq (fun _ e => ?_) (q14_c14a1 n _ K)
  subst e
  refine dInt_eq (fun _ e => ?_) (q14_c14a1 n _ K)
  subst e
  refine dCons_eq (fun _ _ e => ?_) (q14_c14a1 n _ K)
  subst e
  refine dP_eq (fun _ e => ?_) (q14_c14a1 n _ K)
  subst e
  refine dInt_eq (fun _ e => ?_) (q14_c14a1 n _ K)
  subst e
  refine dCons_eq (fun _ _ e => ?_) (q14_c14a1 n _ K)
  subst e
  refine dP_eq (fun _ e => ?_) (q14_c14a1 n _ K)
  subst e
  refine dStr_eq (fun _ e => ?_) (q14_c14a1 n _ K)
  subst e
  refine dCons_eq (fun _ _ e => ?_) (q14_c14a1 n _ K)
  subst e
  refine dP_eq (fun _ e => ?_) (q14_c14a1 n _ K)
  subst e
  refine dStr_eq (fun _ e => ?_) (q14_c14a1 n _ K)
  subst e
  refine dCons_eq (fun _ _ e => ?_) (q14_c14a1 n _ K)
  subst e
  refine dP_eq (fun _ e => ?_) (q14_c14a1 n _ K)
  subst e
  refine dStr_eq (fun _ e => ?_) (q14_c14a1 n _ K)
  subst e
  refine dCons_eq (fun _ _ e => ?_) (q14_c14a1 n _ K)
  subst e
  refine dP_eq (fun _ e => ?_) (q14_c14a1 n _ K)
  subst e
  refine dInt_eq (fun _ e => ?_) (q14_c14a1 n _ K)
  subst e
  refine dCons_eq (fun _ _ e => ?_) (q14_c14a1 n _ K)
  subst e
  refine dP_eq (fun _ e => ?_) (q14_c14a1 n _ K)
  subst e
  refine dBool_eq (fun _ e => ?_) (q14_c14a1 n _ K)
  subst e
  refine dCons_eq (fun _ _ e => ?_) (q14_c14a1 n _ K)
  subst e
  refine dP_eq (fun _ e => ?_) (q14_c14a1 n _ K)
  subst e
  refine dBool_eq (fun _ e => ?_) (q14_c14a1 n _ K)
  subst e
  refine dNil_eq (fun e => ?_) (q14_c14a1 n _ K)
  subst e
  rw [evCut_congr (evC_evOi c14_c14 (pa14_c14 n))]
  exact ep14_c14 n _ _ _ _ _ _ _ _ _ K
theorem q14_c14 (n : Nat) : PartOK (R := R) Try.prog (env14 n) ann14 n (107, []) (lo14 n) (cu14 n) (true, 14, c14_c14) := fun vs K => q14_c14a0 n vs K
theorem pa14_c12 (n : Nat) : allP (PartOK (R := R) Try.prog (env14 n) ann14 n (107, []) (lo14 n) (cu14 n)) (partsOf ann14 c14_c12) := by
  have h : partsOf ann14 c14_c12 = [(true, 14, c14_c14)] := by kernel_rfl
  rw [h]
  exact ⟨q14_c14 n, trivial⟩
theorem ep14_c12 (n : Nat) (x1 : Int) (x2 : Int) (x3 : Int) (x4 : ByteArray) (x5 : ByteArray) (x6 : ByteArray) (x7 : Int) (x8 : Bool) (x9 : Bool) (K : Kc R) : evCut (fun f k => evOi Try.prog (env14 n) ann14 (107, []) (lo14 n) (cu14 n) c14_c12 f k) (liveA ann14.cuts 12) (outA ann14.cuts 12) [.p (.v (.int .i64 x1)), .p (.v (.int .i64 x2)), .p (.v (.int .i64 x3)), .p (.v (.string x4)), .p (.v (.string x5)), .p (.v (.string x6)), .p (.v (.int .i64 x7)), .p (.v (.bool x8)), .p (.v (.bool x9))] K = p14_c12 n x1 x2 x3 x4 x5 x6 x7 x8 x9 (fun (y1 : Int) (y2 : Int) (y3 : Int) (y4 : ByteArray) (y5 : ByteArray) (y6 : ByteArray) (y7 : Int) => K .normal (lk (outA ann14.cuts 12) [.p (.v (.int .i64 y1)), .p (.v (.int .i64 y2)), .dead, .dead, .p (.v (.int .i64 y3)), .p (.v (.string y4)), .p (.v (.string y5)), .p (.v (.string y6)), .p (.v (.int .i64 y7))])) := by kernel_rfl
theorem q14_c12a1 (n : Nat) (vs : List SV) (K : Kc R) : evCut (fun f k => evC Try.prog (env14 n) ann14 n (107, []) c14_c12 f k) (liveA ann14.cuts 12) (outA ann14.cuts 12) vs K = o14_c12a1 n vs K := rfl
theorem q14_c12a0 (n : Nat) (vs : List SV) (K : Kc R) : evCut (fun f k => evC Try.prog (env14 n) ann14 n (107, []) c14_c12 f k) (liveA ann14.cuts 12) (outA ann14.cuts 12) vs K = o14_c12a0 n vs K := by
  unfold o14_c12a0 o14_c12t0
  refine dCons_eq (fun _ _ e => ?_) (q14_c12a1 n _ K)
  subst e
  refine dP_eq (fun _ e => ?_) (q14_c12a1 n _ K)
  subst e
  refine dInt_eq (fun _ e => ?_) (q14_c12a1 n _ K)
  subst e
  refine dCons_eq (fun _ _ e => ?_) (q14_c12a1 n _ K)
  subst e
  refine dP_eq (fun _ e => ?_) (q14_c12a1 n _ K)
  subst e
  refine dInt_eq (fun _ e => ?_) (q14_c12a1 n _ K)
  subst e
  refine dCons_eq (fun _ _ e => ?_) (q14_c12a1 n _ K)
  subst e
  refine dP_eq (fun _ e => ?_) (q14_c12a1 n _ K)
  subst e
  refine dInt_eq (fun _ e => ?_) (q14_c12a1 n _ K)
  subst e
  refine dCons_eq (fun _ _ e => ?_) (q14_c12a1 n _ K)
  subst e
  refine dP_eq (fun _ e => ?_) (q14_c12a1 n _ K)
  subst e
  refine dStr_eq (fun _ e => ?_) (q14_c12a1 n _ K)
  subst e
  refine dCons_eq (fun _ _ e => ?_) (q14_c12a1 n _ K)
  subst e
  refine dP_eq (fun _ e => ?_) (q14_c12a1 n _ K)
  subst e
  refine dStr_eq (fun _ e => ?_) (q14_c12a1 n _ K)
  subst e
  refine dCons_eq (fun _ _ e => ?_) (q14_c12a1 n _ K)
  subst e
  refine dP_eq (fun _ e => ?_) (q14_c12a1 n _ K)
  subst e
  refine dStr_eq (fun _ e => ?_) (q14_c12a1 n _ K)
  subst e
  refine dCons_eq (fun _ _ e => ?_) (q14_c12a1 n _ K)
  subst e
  refine dP_eq (fun _ e => ?_) (q14_c12a1 n _ K)
  subst e
  refine dInt_eq (fun _ e => ?_) (q14_c12a1 n _ K)
  subst e
  refine dCons_eq (fun _ _ e => ?_) (q14_c12a1 n _ K)
  subst e
  refine dP_eq (fun _ e => ?_) (q14_c12a1 n _ K)
  subst e
  refine dBool_eq (fun _ e => ?_) (q14_c12a1 n _ K)
  subst e
  refine dCons_eq (fun _ _ e => ?_) (q14_c12a1 n _ K)
  subst e
  refine dP_eq (fun _ e => ?_) (q14_c12a1 n _ K)
  subst e
  refine dBool_eq (fun _ e => ?_) (q14_c12a1 n _ K)
  subst e
  refine dNil_eq (fun e => ?_) (q14_c12a1 n _ K)
  subst e
  rw [evCut_congr (evC_evOi c14_c12 (pa14_c12 n))]
  exact ep14_c12 n _ _ _ _ _ _ _ _ _ K
theorem q14_c12 (n : Nat) : PartOK (R := R) Try.prog (env14 n) ann14 n (107, []) (lo14 n) (cu14 n) (true, 12, c14_c12) := fun vs K => q14_c12a0 n vs K
theorem pa14_c11 (n : Nat) : allP (PartOK (R := R) Try.prog (env14 n) ann14 n (107, []) (lo14 n) (cu14 n)) (partsOf ann14 c14_c11) := by
  have h : partsOf ann14 c14_c11 = [(true, 12, c14_c12)] := by kernel_rfl
  rw [h]
  exact ⟨q14_c12 n, trivial⟩
theorem ep14_c11 (n : Nat) (x1 : Int) (x2 : Int) (x3 : Int) (x4 : ByteArray) (x5 : ByteArray) (x6 : ByteArray) (x7 : Int) (x8 : Bool) (K : Kc R) : evCut (fun f k => evOi Try.prog (env14 n) ann14 (107, []) (lo14 n) (cu14 n) c14_c11 f k) (liveA ann14.cuts 11) (outA ann14.cuts 11) [.p (.v (.int .i64 x1)), .p (.v (.int .i64 x2)), .p (.v (.int .i64 x3)), .p (.v (.string x4)), .p (.v (.string x5)), .p (.v (.string x6)), .p (.v (.int .i64 x7)), .p (.v (.bool x8))] K = p14_c11 n x1 x2 x3 x4 x5 x6 x7 x8 (fun (y1 : Int) (y2 : Int) (y3 : Int) (y4 : ByteArray) (y5 : ByteArray) (y6 : ByteArray) (y7 : Int) => K .normal (lk (outA ann14.cuts 11) [.p (.v (.int .i64 y1)), .p (.v (.int .i64 y2)), .dead, .dead, .p (.v (.int .i64 y3)), .p (.v (.string y4)), .p (.v (.string y5)), .p (.v (.string y6)), .p (.v (.int .i64 y7))])) := by kernel_rfl
theorem q14_c11a1 (n : Nat) (vs : List SV) (K : Kc R) : evCut (fun f k => evC Try.prog (env14 n) ann14 n (107, []) c14_c11 f k) (liveA ann14.cuts 11) (outA ann14.cuts 11) vs K = o14_c11a1 n vs K := rfl
theorem q14_c11a0 (n : Nat) (vs : List SV) (K : Kc R) : evCut (fun f k => evC Try.prog (env14 n) ann14 n (107, []) c14_c11 f k) (liveA ann14.cuts 11) (outA ann14.cuts 11) vs K = o14_c11a0 n vs K := by
  unfold o14_c11a0 o14_c11t0
  refine dCons_eq (fun _ _ e => ?_) (q14_c11a1 n _ K)
  subst e
  refine dP_eq (fun _ e => ?_) (q14_c11a1 n _ K)
  subst e
  refine dInt_eq (fun _ e => ?_) (q14_c11a1 n _ K)
  subst e
  refine dCons_eq (fun _ _ e => ?_) (q14_c11a1 n _ K)
  subst e
  refine dP_eq (fun _ e => ?_) (q14_c11a1 n _ K)
  subst e
  refine dInt_eq (fun _ e => ?_) (q14_c11a1 n _ K)
  subst e
  refine dCons_eq (fun _ _ e => ?_) (q14_c11a1 n _ K)
  subst e
  refine dP_eq (fun _ e => ?_) (q14_c11a1 n _ K)
  subst e
  refine dInt_eq (fun _ e => ?_) (q14_c11a1 n _ K)
  subst e
  refine dCons_eq (fun _ _ e => ?_) (q14_c11a1 n _ K)
  subst e
  refine dP_eq (fun _ e => ?_) (q14_c11a1 n _ K)
  subst e
  refine dStr_eq (fun _ e => ?_) (q14_c11a1 n _ K)
  subst e
  refine dCons_eq (fun _ _ e => ?_) (q14_c11a1 n _ K)
  subst e
  refine dP_eq (fun _ e => ?_) (q14_c11a1 n _ K)
  subst e
  refine dStr_eq (fun _ e => ?_) (q14_c11a1 n _ K)
  subst e
  refine dCons_eq (fun _ _ e => ?_) (q14_c11a1 n _ K)
  subst e
  refine dP_eq (fun _ e => ?_) (q14_c11a1 n _ K)
  subst e
  refine dStr_eq (fun _ e => ?_) (q14_c11a1 n _ K)
  subst e
  refine dCons_eq (fun _ _ e => ?_) (q14_c11a1 n _ K)
  subst e
  refine dP_eq (fun _ e => ?_) (q14_c11a1 n _ K)
  subst e
  refine dInt_eq (fun _ e => ?_) (q14_c11a1 n _ K)
  subst e
  refine dCons_eq (fun _ _ e => ?_) (q14_c11a1 n _ K)
  subst e
  refine dP_eq (fun _ e => ?_) (q14_c11a1 n _ K)
  subst e
  refine dBool_eq (fun _ e => ?_) (q14_c11a1 n _ K)
  subst e
  refine dNil_eq (fun e => ?_) (q14_c11a1 n _ K)
  subst e
  rw [evCut_congr (evC_evOi c14_c11 (pa14_c11 n))]
  exact ep14_c11 n _ _ _ _ _ _ _ _ K
theorem q14_c11 (n : Nat) : PartOK (R := R) Try.prog (env14 n) ann14 n (107, []) (lo14 n) (cu14 n) (true, 11, c14_c11) := fun vs K => q14_c11a0 n vs K
theorem pa14_c9 (n : Nat) : allP (PartOK (R := R) Try.prog (env14 n) ann14 n (107, []) (lo14 n) (cu14 n)) (partsOf ann14 c14_c9) := by
  have h : partsOf ann14 c14_c9 = [] := by kernel_rfl
  rw [h]
  exact trivial
theorem ep14_c9 (n : Nat) (x1 : Int) (x2 : Int) (x3 : Int) (x4 : ByteArray) (x5 : ByteArray) (x6 : ByteArray) (x7 : Int) (K : Kc R) : evCut (fun f k => evOi Try.prog (env14 n) ann14 (107, []) (lo14 n) (cu14 n) c14_c9 f k) (liveA ann14.cuts 9) (outA ann14.cuts 9) [.p (.v (.int .i64 x1)), .p (.v (.int .i64 x2)), .p (.v (.int .i64 x3)), .p (.v (.string x4)), .p (.v (.string x5)), .p (.v (.string x6)), .p (.v (.int .i64 x7))] K = p14_c9 n x1 x2 x3 x4 x5 x6 x7 (fun (y1 : Int) (y2 : Int) (y3 : Int) (y4 : ByteArray) (y5 : ByteArray) (y6 : ByteArray) (y7 : Int) => K .normal (lk (outA ann14.cuts 9) [.p (.v (.int .i64 y1)), .p (.v (.int .i64 y2)), .dead, .dead, .p (.v (.int .i64 y3)), .p (.v (.string y4)), .p (.v (.string y5)), .p (.v (.string y6)), .p (.v (.int .i64 y7))])) := by kernel_rfl
theorem q14_c9a1 (n : Nat) (vs : List SV) (K : Kc R) : evCut (fun f k => evC Try.prog (env14 n) ann14 n (107, []) c14_c9 f k) (liveA ann14.cuts 9) (outA ann14.cuts 9) vs K = o14_c9a1 n vs K := rfl
theorem q14_c9a0 (n : Nat) (vs : List SV) (K : Kc R) : evCut (fun f k => evC Try.prog (env14 n) ann14 n (107, []) c14_c9 f k) (liveA ann14.cuts 9) (outA ann14.cuts 9) vs K = o14_c9a0 n vs K := by
  unfold o14_c9a0 o14_c9t0
  refine dCons_eq (fun _ _ e => ?_) (q14_c9a1 n _ K)
  subst e
  refine dP_eq (fun _ e => ?_) (q14_c9a1 n _ K)
  subst e
  refine dInt_eq (fun _ e => ?_) (q14_c9a1 n _ K)
  subst e
  refine dCons_eq (fun _ _ e => ?_) (q14_c9a1 n _ K)
  subst e
  refine dP_eq (fun _ e => ?_) (q14_c9a1 n _ K)
  subst e
  refine dInt_eq (fun _ e => ?_) (q14_c9a1 n _ K)
  subst e
  refine dCons_eq (fun _ _ e => ?_) (q14_c9a1 n _ K)
  subst e
  refine dP_eq (fun _ e => ?_) (q14_c9a1 n _ K)
  subst e
  refine dInt_eq (fun _ e => ?_) (q14_c9a1 n _ K)
  subst e
  refine dCons_eq (fun _ _ e => ?_) (q14_c9a1 n _ K)
  subst e
  refine dP_eq (fun _ e => ?_) (q14_c9a1 n _ K)
  subst e
  refine dStr_eq (fun _ e => ?_) (q14_c9a1 n _ K)
  subst e
  refine dCons_eq (fun _ _ e => ?_) (q14_c9a1 n _ K)
  subst e
  refine dP_eq (fun _ e => ?_) (q14_c9a1 n _ K)
  subst e
  refine dStr_eq (fun _ e => ?_) (q14_c9a1 n _ K)
  subst e
  refine dCons_eq (fun _ _ e => ?_) (q14_c9a1 n _ K)
  subst e
  refine dP_eq (fun _ e => ?_) (q14_c9a1 n _ K)
  subst e
  refine dStr_eq (fun _ e => ?_) (q14_c9a1 n _ K)
  subst e
  refine dCons_eq (fun _ _ e => ?_) (q14_c9a1 n _ K)
  subst e
  refine dP_eq (fun _ e => ?_) (q14_c9a1 n _ K)
  subst e
  refine dInt_eq (fun _ e => ?_) (q14_c9a1 n _ K)
  subst e
  refine dNil_eq (fun e => ?_) (q14_c9a1 n _ K)
  subst e
  rw [evCut_congr (evC_evOi c14_c9 (pa14_c9 n))]
  exact ep14_c9 n _ _ _ _ _ _ _ K
theorem q14_c9 (n : Nat) : PartOK (R := R) Try.prog (env14 n) ann14 n (107, []) (lo14 n) (cu14 n) (true, 9, c14_c9) := fun vs K => q14_c9a0 n vs K
theorem pa14_l8 (n : Nat) : allP (PartOK (R := R) Try.prog (env14 n) ann14 n (107, []) (lo14 n) (cu14 n)) (partsOf ann14 c14_l8) := by
  have h : partsOf ann14 c14_l8 = [(true, 11, c14_c11), (true, 9, c14_c9)] := by kernel_rfl
  rw [h]
  exact ⟨q14_c11 n, q14_c9 n, trivial⟩
theorem sp14_l8 (n m : Nat) (x1 : Int) (x2 : Int) (x3 : Int) (x4 : ByteArray) (x5 : ByteArray) (x6 : ByteArray) (x7 : Int) (K : Kc R) : evLoop (fun f k => evOi Try.prog (env14 n) ann14 (107, []) (lo14 n) (cu14 n) c14_l8 f k) (liveA ann14.loops 8) (outA ann14.loops 8) (m + 1) [.p (.v (.int .i64 x1)), .p (.v (.int .i64 x2)), .p (.v (.int .i64 x3)), .p (.v (.string x4)), .p (.v (.string x5)), .p (.v (.string x6)), .p (.v (.int .i64 x7))] K = p14_l8B n (fun (x1 : Int) (x2 : Int) (x3 : Int) (x4 : ByteArray) (x5 : ByteArray) (x6 : ByteArray) (x7 : Int) => evLoop (fun f k => evOi Try.prog (env14 n) ann14 (107, []) (lo14 n) (cu14 n) c14_l8 f k) (liveA ann14.loops 8) (outA ann14.loops 8) m [.p (.v (.int .i64 x1)), .p (.v (.int .i64 x2)), .p (.v (.int .i64 x3)), .p (.v (.string x4)), .p (.v (.string x5)), .p (.v (.string x6)), .p (.v (.int .i64 x7))] K) x1 x2 x3 x4 x5 x6 x7 (fun (y1 : ByteArray) (y2 : ByteArray) => K (.exit 0) (lk (outA ann14.loops 8) [.dead, .dead, .p (.v (.string y1)), .p (.v (.string y2))])) := by kernel_rfl
theorem ep14_l8 (n : Nat) (K : Kc R) : ∀ (m : Nat) (x1 : Int) (x2 : Int) (x3 : Int) (x4 : ByteArray) (x5 : ByteArray) (x6 : ByteArray) (x7 : Int), evLoop (fun f k => evOi Try.prog (env14 n) ann14 (107, []) (lo14 n) (cu14 n) c14_l8 f k) (liveA ann14.loops 8) (outA ann14.loops 8) m [.p (.v (.int .i64 x1)), .p (.v (.int .i64 x2)), .p (.v (.int .i64 x3)), .p (.v (.string x4)), .p (.v (.string x5)), .p (.v (.string x6)), .p (.v (.int .i64 x7))] K = p14_l8L n m x1 x2 x3 x4 x5 x6 x7 (fun (y1 : ByteArray) (y2 : ByteArray) => K (.exit 0) (lk (outA ann14.loops 8) [.dead, .dead, .p (.v (.string y1)), .p (.v (.string y2))]))
  | 0, _, _, _, _, _, _, _ => rfl
  | m + 1, x1, x2, x3, x4, x5, x6, x7 => (sp14_l8 n m x1 x2 x3 x4 x5 x6 x7 K).trans (congrArg (fun l => p14_l8B n l x1 x2 x3 x4 x5 x6 x7 (fun (y1 : ByteArray) (y2 : ByteArray) => K (.exit 0) (lk (outA ann14.loops 8) [.dead, .dead, .p (.v (.string y1)), .p (.v (.string y2))]))) ((funext fun z0 => (funext fun z1 => (funext fun z2 => (funext fun z3 => (funext fun z4 => (funext fun z5 => (funext fun z6 => (ep14_l8 n K m z0 z1 z2 z3 z4 z5 z6))))))))))
theorem q14_l8a1 (n : Nat) (vs : List SV) (K : Kc R) : evLoop (fun f k => evC Try.prog (env14 n) ann14 n (107, []) c14_l8 f k) (liveA ann14.loops 8) (outA ann14.loops 8) n vs K = o14_l8a1 n vs K := rfl
theorem q14_l8a0 (n : Nat) (vs : List SV) (K : Kc R) : evLoop (fun f k => evC Try.prog (env14 n) ann14 n (107, []) c14_l8 f k) (liveA ann14.loops 8) (outA ann14.loops 8) n vs K = o14_l8a0 n vs K := by
  unfold o14_l8a0 o14_l8t0
  refine dCons_eq (fun _ _ e => ?_) (q14_l8a1 n _ K)
  subst e
  refine dP_eq (fun _ e => ?_) (q14_l8a1 n _ K)
  subst e
  refine dInt_eq (fun _ e => ?_) (q14_l8a1 n _ K)
  subst e
  refine dCons_eq (fun _ _ e => ?_) (q14_l8a1 n _ K)
  subst e
  refine dP_eq (fun _ e => ?_) (q14_l8a1 n _ K)
  subst e
  refine dInt_eq (fun _ e => ?_) (q14_l8a1 n _ K)
  subst e
  refine dCons_eq (fun _ _ e => ?_) (q14_l8a1 n _ K)
  subst e
  refine dP_eq (fun _ e => ?_) (q14_l8a1 n _ K)
  subst e
  refine dInt_eq (fun _ e => ?_) (q14_l8a1 n _ K)
  subst e
  refine dCons_eq (fun _ _ e => ?_) (q14_l8a1 n _ K)
  subst e
  refine dP_eq (fun _ e => ?_) (q14_l8a1 n _ K)
  subst e
  refine dStr_eq (fun _ e => ?_) (q14_l8a1 n _ K)
  subst e
  refine dCons_eq (fun _ _ e => ?_) (q14_l8a1 n _ K)
  subst e
  refine dP_eq (fun _ e => ?_) (q14_l8a1 n _ K)
  subst e
  refine dStr_eq (fun _ e => ?_) (q14_l8a1 n _ K)
  subst e
  refine dCons_eq (fun _ _ e => ?_) (q14_l8a1 n _ K)
  subst e
  refine dP_eq (fun _ e => ?_) (q14_l8a1 n _ K)
  subst e
  refine dStr_eq (fun _ e => ?_) (q14_l8a1 n _ K)
  subst e
  refine dCons_eq (fun _ _ e => ?_) (q14_l8a1 n _ K)
  subst e
  refine dP_eq (fun _ e => ?_) (q14_l8a1 n _ K)
  subst e
  refine dInt_eq (fun _ e => ?_) (q14_l8a1 n _ K)
  subst e
  refine dNil_eq (fun e => ?_) (q14_l8a1 n _ K)
  subst e
  rw [evLoop_congr (evC_evOi c14_l8 (pa14_l8 n))]
  exact ep14_l8 n K n _ _ _ _ _ _ _
theorem q14_l8 (n : Nat) : PartOK (R := R) Try.prog (env14 n) ann14 n (107, []) (lo14 n) (cu14 n) (false, 8, c14_l8) := fun vs K => q14_l8a0 n vs K
theorem pa14_c19 (n : Nat) : allP (PartOK (R := R) Try.prog (env14 n) ann14 n (107, []) (lo14 n) (cu14 n)) (partsOf ann14 c14_c19) := by
  have h : partsOf ann14 c14_c19 = [] := by kernel_rfl
  rw [h]
  exact trivial
theorem ep14_c19 (n : Nat) (x1 : ByteArray) (x2 : ByteArray) (K : Kc R) : evCut (fun f k => evOi Try.prog (env14 n) ann14 (107, []) (lo14 n) (cu14 n) c14_c19 f k) (liveA ann14.cuts 19) (outA ann14.cuts 19) [.p (.v (.string x1)), .p (.v (.string x2))] K = p14_c19 n x1 x2 (fun (y1 : ByteArray) (y2 : Int) => K .ret (lk (outA ann14.cuts 19) [.p (.v (.string y1)), .p (.v (.int .i64 y2))])) := by kernel_rfl
theorem q14_c19a1 (n : Nat) (vs : List SV) (K : Kc R) : evCut (fun f k => evC Try.prog (env14 n) ann14 n (107, []) c14_c19 f k) (liveA ann14.cuts 19) (outA ann14.cuts 19) vs K = o14_c19a1 n vs K := rfl
theorem q14_c19a0 (n : Nat) (vs : List SV) (K : Kc R) : evCut (fun f k => evC Try.prog (env14 n) ann14 n (107, []) c14_c19 f k) (liveA ann14.cuts 19) (outA ann14.cuts 19) vs K = o14_c19a0 n vs K := by
  unfold o14_c19a0 o14_c19t0
  refine dCons_eq (fun _ _ e => ?_) (q14_c19a1 n _ K)
  subst e
  refine dP_eq (fun _ e => ?_) (q14_c19a1 n _ K)
  subst e
  refine dStr_eq (fun _ e => ?_) (q14_c19a1 n _ K)
  subst e
  refine dCons_eq (fun _ _ e => ?_) (q14_c19a1 n _ K)
  subst e
  refine dP_eq (fun _ e => ?_) (q14_c19a1 n _ K)
  subst e
  refine dStr_eq (fun _ e => ?_) (q14_c19a1 n _ K)
  subst e
  refine dNil_eq (fun e => ?_) (q14_c19a1 n _ K)
  subst e
  rw [evCut_congr (evC_evOi c14_c19 (pa14_c19 n))]
  exact ep14_c19 n _ _ K
theorem q14_c19 (n : Nat) : PartOK (R := R) Try.prog (env14 n) ann14 n (107, []) (lo14 n) (cu14 n) (true, 19, c14_c19) := fun vs K => q14_c19a0 n vs K
theorem pa14_c3 (n : Nat) : allP (PartOK (R := R) Try.prog (env14 n) ann14 n (107, []) (lo14 n) (cu14 n)) (partsOf ann14 c14_c3) := by
  have h : partsOf ann14 c14_c3 = [(false, 8, c14_l8), (true, 19, c14_c19)] := by kernel_rfl
  rw [h]
  exact ⟨q14_l8 n, q14_c19 n, trivial⟩
theorem ep14_c3 (n : Nat) (x1 : ByteArray) (x2 : Int) (x3 : Int) (K : Kc R) : evCut (fun f k => evOi Try.prog (env14 n) ann14 (107, []) (lo14 n) (cu14 n) c14_c3 f k) (liveA ann14.cuts 3) (outA ann14.cuts 3) [.p (.v (.string x1)), .p (.v (.int .i64 x2)), .p (.v (.int .i64 x3))] K = p14_c3 n x1 x2 x3 (fun (y1 : ByteArray) (y2 : Int) => K .ret (lk (outA ann14.cuts 3) [.p (.v (.string y1)), .p (.v (.int .i64 y2))])) := by kernel_rfl
theorem q14_c3a1 (n : Nat) (vs : List SV) (K : Kc R) : evCut (fun f k => evC Try.prog (env14 n) ann14 n (107, []) c14_c3 f k) (liveA ann14.cuts 3) (outA ann14.cuts 3) vs K = o14_c3a1 n vs K := rfl
theorem q14_c3a0 (n : Nat) (vs : List SV) (K : Kc R) : evCut (fun f k => evC Try.prog (env14 n) ann14 n (107, []) c14_c3 f k) (liveA ann14.cuts 3) (outA ann14.cuts 3) vs K = o14_c3a0 n vs K := by
  unfold o14_c3a0 o14_c3t0
  refine dCons_eq (fun _ _ e => ?_) (q14_c3a1 n _ K)
  subst e
  refine dP_eq (fun _ e => ?_) (q14_c3a1 n _ K)
  subst e
  refine dStr_eq (fun _ e => ?_) (q14_c3a1 n _ K)
  subst e
  refine dCons_eq (fun _ _ e => ?_) (q14_c3a1 n _ K)
  subst e
  refine dP_eq (fun _ e => ?_) (q14_c3a1 n _ K)
  subst e
  refine dInt_eq (fun _ e => ?_) (q14_c3a1 n _ K)
  subst e
  refine dCons_eq (fun _ _ e => ?_) (q14_c3a1 n _ K)
  subst e
  refine dP_eq (fun _ e => ?_) (q14_c3a1 n _ K)
  subst e
  refine dInt_eq (fun _ e => ?_) (q14_c3a1 n _ K)
  subst e
  refine dNil_eq (fun e => ?_) (q14_c3a1 n _ K)
  subst e
  rw [evCut_congr (evC_evOi c14_c3 (pa14_c3 n))]
  exact ep14_c3 n _ _ _ K
theorem q14_c3 (n : Nat) : PartOK (R := R) Try.prog (env14 n) ann14 n (107, []) (lo14 n) (cu14 n) (true, 3, c14_c3) := fun vs K => q14_c3a0 n vs K
theorem pa14 (n : Nat) : allP (PartOK (R := R) Try.prog (env14 n) ann14 n (107, []) (lo14 n) (cu14 n)) (partsOf ann14 (bodyOf Try.f14)) := by
  have h : partsOf ann14 (bodyOf Try.f14) = [(true, 3, c14_c3)] := by kernel_rfl
  rw [h]
  exact ⟨q14_c3 n, trivial⟩
theorem ep14 (n : Nat) (x1 : ByteArray) (x2 : Int) (x3 : Int) (K : List SV → Option R) : evFnOi Try.prog (env14 n) ann14 (lo14 n) (cu14 n) Try.f14 [.p (.v (.string x1)), .p (.v (.int .i64 x2)), .p (.v (.int .i64 x3))] K = p14 n x1 x2 x3 (fun (y1 : ByteArray) (y2 : Int) => K [.p (.v (.string y1)), .p (.v (.int .i64 y2))]) := by kernel_rfl
noncomputable abbrev fs14a1 (n : Nat) (args : List SV) (K : List SV → Option R) : Option R := none
noncomputable abbrev fs14t0 (n : Nat) (D : Option R) (args : List SV) (K : List SV → Option R) : Option R :=
  dCons args D fun z1 z2 => dP z1 D fun z3 => dStr z3 D fun x1 => dCons z2 D fun z4 z5 => dP z4 D fun z6 => dInt .i64 z6 D fun x2 => dCons z5 D fun z7 z8 => dP z7 D fun z9 => dInt .i64 z9 D fun x3 => dNil z8 D (p14 n x1 x2 x3 (fun (y1 : ByteArray) (y2 : Int) => K [.p (.v (.string y1)), .p (.v (.int .i64 y2))]))
noncomputable abbrev fs14a0 (n : Nat) (args : List SV) (K : List SV → Option R) : Option R := fs14t0 n (fs14a1 n args K) args K
theorem hs14a1 (n : Nat) (args : List SV) (K : List SV → Option R) (res : R) : fs14a1 n args K = some res → evFn Try.prog (env14 n) ann14 n Try.f14 args K = some res := fun h => by cases h
theorem hs14a0 (n : Nat) (args : List SV) (K : List SV → Option R) (res : R) : fs14a0 n args K = some res → evFn Try.prog (env14 n) ann14 n Try.f14 args K = some res := by
  unfold fs14a0 fs14t0
  refine dCons_imp (fun _ _ e => ?_) (hs14a1 n _ K res)
  subst e
  refine dP_imp (fun _ e => ?_) (hs14a1 n _ K res)
  subst e
  refine dStr_imp (fun _ e => ?_) (hs14a1 n _ K res)
  subst e
  refine dCons_imp (fun _ _ e => ?_) (hs14a1 n _ K res)
  subst e
  refine dP_imp (fun _ e => ?_) (hs14a1 n _ K res)
  subst e
  refine dInt_imp (fun _ e => ?_) (hs14a1 n _ K res)
  subst e
  refine dCons_imp (fun _ _ e => ?_) (hs14a1 n _ K res)
  subst e
  refine dP_imp (fun _ e => ?_) (hs14a1 n _ K res)
  subst e
  refine dInt_imp (fun _ e => ?_) (hs14a1 n _ K res)
  subst e
  refine dNil_imp (fun e => ?_) (hs14a1 n _ K res)
  subst e
  intro h
  rw [evFn_evOi (c := bodyOf Try.f14) (by kernel_rfl) (pa14 n), ep14]
  exact h
end
noncomputable abbrev fs14 (n : Nat) : FS := { om := [false, false, false], run := fun args K => fs14a0 n args K }
theorem ok14 (n : Nat) : FSound Try.prog 14 (fs14 n) :=
  FSound.of (envok14 n) (ann := ann14) (n := n) (by kernel_rfl) Try.func14 (by kernel_rfl) (by kernel_rfl) fun {R args K res} h => hs14a0 n args K res h
end Go.Proofs.Ytlplpkbhjddmeaa


set_option linter.unusedVariables false
set_option maxRecDepth 100000
namespace Go.Proofs.Ytlplpkbhjddmeaa
open Go Th Go.Proofs
def ann16 : Ann := { loops := [], cuts := [], frz := [], rm := [.id, .id] }
noncomputable abbrev env16 (n : Nat) : Env := fun i => bif Nat.beq i 28 then some (fs28 n) else (fun i => bif Nat.beq i 18 then some (fs18 n) else (fun _ => none) i) i
theorem envok16 (n : Nat) : EnvOK Try.prog (env16 n) := EnvOK.cons (EnvOK.cons (EnvOK.nil) (ok18 n)) (ok28 n)
noncomputable def p16 {R : Type} (n : Nat) (x1 : ByteArray) (x2 : Int) (x3 : Int) (k0 : Int → Int → Option R) : Option R :=
  p18 n x1 x2 (fun (y4 : ByteArray) (y5 : Int) => bif (y5 != 0) then (k0 0 y5) else (bif (decide (x3 < 0)) then (k0 0 2) else (bif (bif false then true else (decide (x3 > ((y4).size : Int)))) then (k0 0 2) else (p28 n x1 x2 (fun (y6 : Int) => k0 (IntKind.i64.wrap (y6 + x3)) 0)))))
noncomputable abbrev lo16 {R : Type} (n : Nat) : Orc R := fun i vs K => none
noncomputable abbrev cu16 {R : Type} (n : Nat) : Orc R := fun i vs K => none
section
variable {R : Type}
theorem pa16 (n : Nat) : allP (PartOK (R := R) Try.prog (env16 n) ann16 n (32, []) (lo16 n) (cu16 n)) (partsOf ann16 (bodyOf Try.f16)) := by
  have h : partsOf ann16 (bodyOf Try.f16) = [] := by kernel_rfl
  rw [h]
  exact trivial
theorem ep16 (n : Nat) (x1 : ByteArray) (x2 : Int) (x3 : Int) (K : List SV → Option R) : evFnOi Try.prog (env16 n) ann16 (lo16 n) (cu16 n) Try.f16 [.p (.v (.string x1)), .p (.v (.int .i64 x2)), .p (.v (.int .i64 x3))] K = p16 n x1 x2 x3 (fun (y1 : Int) (y2 : Int) => K [.p (.v (.int .i64 y1)), .p (.v (.int .i64 y2))]) := by kernel_rfl
noncomputable abbrev fs16a1 (n : Nat) (args : List SV) (K : List SV → Option R) : Option R := none
noncomputable abbrev fs16t0 (n : Nat) (D : Option R) (args : List SV) (K : List SV → Option R) : Option R :=
  dCons args D fun z1 z2 => dP z1 D fun z3 => dStr z3 D fun x1 => dCons z2 D fun z4 z5 => dP z4 D fun z6 => dInt .i64 z6 D fun x2 => dCons z5 D fun z7 z8 => dP z7 D fun z9 => dInt .i64 z9 D fun x3 => dNil z8 D (p16 n x1 x2 x3 (fun (y1 : Int) (y2 : Int) => K [.p (.v (.int .i64 y1)), .p (.v (.int .i64 y2))]))
noncomputable abbrev fs16a0 (n : Nat) (args : List SV) (K : List SV → Option R) : Option R := fs16t0 n (fs16a1 n args K) args K
theorem hs16a1 (n : Nat) (args : List SV) (K : List SV → Option R) (res : R) : fs16a1 n args K = some res → evFn Try.prog (env16 n) ann16 n Try.f16 args K = some res := fun h => by cases h
theorem hs16a0 (n : Nat) (args : List SV) (K : List SV → Option R) (res : R) : fs16a0 n args K = some res → evFn Try.prog (env16 n) ann16 n Try.f16 args K = some res := by
  unfold fs16a0 fs16t0
  refine dCons_imp (fun _ _ e => ?_) (hs16a1 n _ K res)
  subst e
  refine dP_imp (fun _ e => ?_) (hs16a1 n _ K res)
  subst e
  refine dStr_imp (fun _ e => ?_) (hs16a1 n _ K res)
  subst e
  refine dCons_imp (fun _ _ e => ?_) (hs16a1 n _ K res)
  subst e
  refine dP_imp (fun _ e => ?_) (hs16a1 n _ K res)
  subst e
  refine dInt_imp (fun _ e => ?_) (hs16a1 n _ K res)
  subst e
  refine dCons_imp (fun _ _ e => ?_) (hs16a1 n _ K res)
  subst e
  refine dP_imp (fun _ e => ?_) (hs16a1 n _ K res)
  subst e
  refine dInt_imp (fun _ e => ?_) (hs16a1 n _ K res)
  subst e
  refine dNil_imp (fun e => ?_) (hs16a1 n _ K res)
  subst e
  intro h
  rw [evFn_evOi (c := bodyOf Try.f16) (by kernel_rfl) (pa16 n), ep16]
  exact h
end
noncomputable abbrev fs16 (n : Nat) : FS := { om := [false, false, false], run := fun args K => fs16a0 n args K }
theorem ok16 (n : Nat) : FSound Try.prog 16 (fs16 n) :=
  FSound.of (envok16 n) (ann := ann16) (n := n) (by kernel_rfl) Try.func16 (by kernel_rfl) (by kernel_rfl) fun {R args K res} h => hs16a0 n args K res h
end Go.Proofs.Ytlplpkbhjddmeaa


set_option linter.unusedVariables false
set_option maxRecDepth 100000
namespace Go.Proofs.Ytlplpkbhjddmeaa
open Go Th Go.Proofs
def ann17 : Ann := { loops := [], cuts := [], frz := [], rm := [.id, .id] }
noncomputable abbrev env17 (n : Nat) : Env := fun i => bif Nat.beq i 27 then some (fs27 n) else (fun i => bif Nat.beq i 21 then some (fs21 n) else (fun _ => none) i) i
theorem envok17 (n : Nat) : EnvOK Try.prog (env17 n) := EnvOK.cons (EnvOK.cons (EnvOK.nil) (ok21 n)) (ok27 n)
noncomputable def p17 {R : Type} (n : Nat) (x1 : ByteArray) (x2 : Int) (k0 : ByteArray → Int → Option R) : Option R :=
  p27 n x1 x2 (fun (y3 : Int) => bif (decide (y3 < 0)) then (k0 ⟨#[]⟩ 9) else (p21 n x1 y3 (fun (y4 : Int) => bif (cutR y3 y4 (x1).size) then (k0 (ByteArray.extract x1 (y3 : Int).toNat (y4 : Int).toNat) 0) else none)))
noncomputable abbrev lo17 {R : Type} (n : Nat) : Orc R := fun i vs K => none
noncomputable abbrev cu17 {R : Type} (n : Nat) : Orc R := fun i vs K => none
section
variable {R : Type}
theorem pa17 (n : Nat) : allP (PartOK (R := R) Try.prog (env17 n) ann17 n (18, []) (lo17 n) (cu17 n)) (partsOf ann17 (bodyOf Try.f17)) := by
  have h : partsOf ann17 (bodyOf Try.f17) = [] := by kernel_rfl
  rw [h]
  exact trivial
theorem ep17 (n : Nat) (x1 : ByteArray) (x2 : Int) (K : List SV → Option R) : evFnOi Try.prog (env17 n) ann17 (lo17 n) (cu17 n) Try.f17 [.p (.v (.string x1)), .p (.v (.int .i64 x2))] K = p17 n x1 x2 (fun (y1 : ByteArray) (y2 : Int) => K [.p (.v (.string y1)), .p (.v (.int .i64 y2))]) := by kernel_rfl
noncomputable abbrev fs17a1 (n : Nat) (args : List SV) (K : List SV → Option R) : Option R := none
noncomputable abbrev fs17t0 (n : Nat) (D : Option R) (args : List SV) (K : List SV → Option R) : Option R :=
  dCons args D fun z1 z2 => dP z1 D fun z3 => dStr z3 D fun x1 => dCons z2 D fun z4 z5 => dP z4 D fun z6 => dInt .i64 z6 D fun x2 => dNil z5 D (p17 n x1 x2 (fun (y1 : ByteArray) (y2 : Int) => K [.p (.v (.string y1)), .p (.v (.int .i64 y2))]))
noncomputable abbrev fs17a0 (n : Nat) (args : List SV) (K : List SV → Option R) : Option R := fs17t0 n (fs17a1 n args K) args K
theorem hs17a1 (n : Nat) (args : List SV) (K : List SV → Option R) (res : R) : fs17a1 n args K = some res → evFn Try.prog (env17 n) ann17 n Try.f17 args K = some res := fun h => by cases h
theorem hs17a0 (n : Nat) (args : List SV) (K : List SV → Option R) (res : R) : fs17a0 n args K = some res → evFn Try.prog (env17 n) ann17 n Try.f17 args K = some res := by
  unfold fs17a0 fs17t0
  refine dCons_imp (fun _ _ e => ?_) (hs17a1 n _ K res)
  subst e
  refine dP_imp (fun _ e => ?_) (hs17a1 n _ K res)
  subst e
  refine dStr_imp (fun _ e => ?_) (hs17a1 n _ K res)
  subst e
  refine dCons_imp (fun _ _ e => ?_) (hs17a1 n _ K res)
  subst e
  refine dP_imp (fun _ e => ?_) (hs17a1 n _ K res)
  subst e
  refine dInt_imp (fun _ e => ?_) (hs17a1 n _ K res)
  subst e
  refine dNil_imp (fun e => ?_) (hs17a1 n _ K res)
  subst e
  intro h
  rw [evFn_evOi (c := bodyOf Try.f17) (by kernel_rfl) (pa17 n), ep17]
  exact h
end
noncomputable abbrev fs17 (n : Nat) : FS := { om := [false, false], run := fun args K => fs17a0 n args K }
theorem ok17 (n : Nat) : FSound Try.prog 17 (fs17 n) :=
  FSound.of (envok17 n) (ann := ann17) (n := n) (by kernel_rfl) Try.func17 (by kernel_rfl) (by kernel_rfl) fun {R args K res} h => hs17a0 n args K res h
end Go.Proofs.Ytlplpkbhjddmeaa
