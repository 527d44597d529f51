/- Proved: what the evaluator of pure values says of a function's code, its calls keep (part 2; no further conditions). -/
import Derived.Test.YtlplpkbhjddmeaaT0
import Derived.Below
import Derived.Shelf.Strings.Builder1
import Derived.Shelf.Strings.Builder2
import Derived.Lib.FrozenHead
import Derived.Shelf.Small.Strs
import Derived.Shelf.Strings.Count
import Derived.Shelf.Strings.Repeat
import Derived.IntWalk

set_option linter.unusedVariables false
set_option linter.unusedSimpArgs false
namespace Go.Proofs.Ytlplpkbhjddmeaa.Th
open Go
variable {R : Type} {res : R}
section
variable {P : Program} {G : Gd} {F : Nat → Prop} {Bs : Nat → List Nat} {st : St} {a : Act} {w : World}
def News (F : Nat → Prop) (w : World) (n : Nat) (es : List PV) (c : Value) : Prop :=
  ∃ xs ad cap, c = .slice ad es.length cap ∧ RPs F w (flat es) xs ∧ (∀ e ∈ es, (cellsOf e).length = n ∧ leafs (cellsOf e) = true) ∧
    (xs = [] ∨ ∃ A, ad = some A ∧ ∀ j u, xs[j]? = some u → w.cell? (A.add j) = some u)
theorem news_sh {n : Nat} {es : List PV} {c : Value} (h : RP F w (.sh es) c) (hs : hdSz n es = true) : News F w n es c := by
  cases h with
  | sh h1 h2 h3 h4 h5 h6 h7 =>
    rename_i xs ad len cap sz
    subst h5
    refine ⟨xs, ad, cap, rfl, h1, fun e he => ?_, ?_⟩
    · have := h2 e he
      refine ⟨?_, this.2⟩
      cases es with
      | nil => simp at he
      | cons x l =>
        have hx := (h2 x (by simp)).1
        simp only [hdSz] at hs
        rw [this.1, ← hx]; exact eqB hs
    · rcases h4 with q | ⟨b, off, rfl, _, hc⟩
      · exact .inl q
      · exact .inr ⟨_, rfl, fun j u hj => by rw [addr_add]; exact hc j u hj⟩
theorem news_own {T : TypeId} {n : Nat} {es : List PV} {c : Value} {B : List Nat} (h : RS P F w (.own T es) c B) (hn : sizeT P T = some n) : News F w n es c := by
  cases h with
  | own q1 q2 q3 q4 q5 q6 q7 =>
    rename_i xs inf z
    have hs : inf.size = n := by simp [sizeT, q1] at hn; exact hn
    rw [hs] at q5 q7
    rcases q5.2 with ⟨rfl, hl⟩ | ⟨g, cap, cur, rfl, _, hg, hnc, hcm, hcs, htake⟩
    · have hes : es = [] := List.length_eq_zero_iff.1 hl
      subst hes
      exact ⟨xs, none, 0, rfl, q6, q7, .inl (by have := q5.1; simpa using this)⟩
    · exact ⟨xs, _, cap, rfl, q6, q7, .inr ⟨_, rfl, q5.cells (g := g) rfl⟩⟩
theorem append_run {t ty E : TypeId} {i : TypeInfo} {z : Value} (ht : P.underlying t = some (.slice E)) (hi : P.info? E = some i) (hz : i.zero = some z) (hzs : z.cells.size = i.size) (hsz : 0 < i.size)
    {v : Value} {n m : Nat} {xs xs2 : List Value} (hown : w.ownsRow 0 E i.size v n xs) {ad : Option Addr} {cap2 : Nat} (hl : xs2.length = m * i.size)
    (hnews : xs2 = [] ∨ ∃ A, ad = some A ∧ ∀ j u, xs2[j]? = some u → w.cell? (A.add j) = some u) (h1 : ∀ u ∈ xs2, u.oneCell' = true) (h63 : n + m ≤ maxLen) (hbytes : (n + m) * i.bytes ≤ 140737488355328) :
    ∃ v' w', (Builtin.append_ #[t, t] ty #[v, .slice ad m cap2]).run P w = .ok v' w' ∧ w'.ownsRow 0 E i.size v' (n + m) (xs ++ xs2) ∧ w.grownBy w' v.ownBlock ∧
      (∀ b ∈ blk v', b ∈ blk v ∨ w.heap.size ≤ b) ∧ (∀ b ∈ blk v', b < w'.heap.size) := by
  by_cases hm : m = 0
  · subst hm
    have hx : xs2 = [] := List.length_eq_zero_iff.1 (by simpa using hl)
    subst hx
    have hrun : (Builtin.append_ #[t, t] ty #[v, .slice ad 0 cap2]).run P w = .ok v w := by
      rcases hown.2 with ⟨rfl, rfl⟩ | ⟨g, cap, cur, rfl, _, _, hnc, _⟩
      · cases ad <;> simp [Builtin.append_, run_underlying ht, sizeOf, typeInfo, hi, Builtin.lenOf, Builtin.firstCells, loadCells, loadCellsFrom]
      · cases ad <;> simp [Builtin.append_, run_underlying ht, sizeOf, typeInfo, hi, Builtin.lenOf, Builtin.firstCells, hnc, storeCells, loadCells, loadCellsFrom]
    refine ⟨v, w, hrun, by simpa using hown, ⟨rfl, rfl, rfl, Nat.le_refl _, fun _ _ _ => rfl⟩, fun b hb => .inl hb, fun b hb => (hown.lt b (by simpa [blk] using hb)).2⟩
  · have hne : xs2 ≠ [] := fun e => by rw [e] at hl; have := Nat.mul_pos (Nat.pos_of_ne_zero hm) hsz; simp at hl; omega
    obtain ⟨A, rfl, hA⟩ := hnews.resolve_left hne
    have hsmall : n + m ≤ 9223372036854775807 := by simp only [maxLen] at h63; omega
    have hlen : (xs ++ xs2).length = (n + m) * i.size := by rw [List.length_append, hown.1, hl, Nat.add_mul]
    have grown : ∀ (old : Nat), old < n + m → ∀ (row : Option Nat),
        (w.drew.alloc (.cells (xs.toArray ++ xs2.toArray ++ Builtin.zeroCells z.cells (grownCap w (n + m) old E - (n + m))) E)).ownsRow 0 E i.size
          (.slice (some ⟨w.heap.size, 0, none⟩) (n + m) (grownCap w (n + m) old E)) (n + m) (xs ++ xs2) ∧
        w.grownBy (w.drew.alloc (.cells (xs.toArray ++ xs2.toArray ++ Builtin.zeroCells z.cells (grownCap w (n + m) old E - (n + m))) E)) row := by
      intro old ho row
      have hge := grownCap_ge w (n + m) old E
      have hcm : grownCap w (n + m) old E ≤ maxLen := grownCap_le_maxLen w (n + m) old E h63
      refine ⟨⟨hlen, .inr ⟨w.heap.size, _, _, rfl, Nat.zero_le _, alloc_new w.drew _, hge, hcm, ?_, ?_⟩⟩, ⟨rfl, rfl, rfl, by simp, fun k hk _ => alloc_old w.drew _ k hk⟩⟩
      · simp only [Array.size_append, List.size_toArray, size_zeroCells, hzs, hown.1, hl, ← Nat.add_mul]
        congr 1
        omega
      · simp only [Array.toList_append, List.append_assoc]
        rw [← List.append_assoc, ← hlen]
        exact List.take_left
    rcases hown.2 with ⟨rfl, rfl⟩ | ⟨g, cap, cur, rfl, hbg, hg, hnc, hcm, hcs, htake⟩
    · have hx : xs = [] := List.eq_nil_of_length_eq_zero (by simpa using hown.1)
      subst hx
      have hr := run_append_nil (P := P) w t ty E i z ht hi hz A m cap2 xs2 hl hA (by omega) (by omega) (by have hb := hbytes; simp only [Nat.zero_add] at hb; omega)
      have hgr := grown 0 (by omega) (Value.ownBlock (.slice none 0 0))
      simp only [Nat.zero_add, List.nil_append, Array.empty_append] at hgr ⊢
      exact ⟨_, _, hr, hgr.1, hgr.2, fun b hb => by simp [blk, Value.ownBlock] at hb; subst hb; exact .inr (Nat.le_refl _), fun b hb => by simp [blk, Value.ownBlock] at hb; subst hb; simp⟩
    · by_cases hroom : n + m ≤ cap
      · have hfit : n * i.size + xs2.length ≤ cur.size := by rw [hl, hcs, ← Nat.add_mul]; exact Nat.mul_le_mul_right _ hroom
        have hr := run_append_room (P := P) w t ty E i ht hi g n cap cur hg A m cap2 xs2 hl hA h1 hroom hfit
        have hgl : g < w.heap.size := (Array.getElem?_eq_some_iff.1 hg).1
        refine ⟨_, _, hr, ⟨hlen, .inr ⟨g, cap, _, rfl, hbg, setRow_heap w g cur _ E _ hg, hroom, hcm, ?_, ?_⟩⟩, ⟨rfl, rfl, rfl, by simp, fun k _ hk => setRow_other w g k _ (fun e => hk (by simp [Value.ownBlock, e]))⟩,
          fun b hb => .inl (by simpa [blk, Value.ownBlock] using hb), fun b hb => by simp [blk, Value.ownBlock] at hb; subst hb; simpa using hgl⟩
        · simp only [List.size_toArray, List.length_append, List.length_take, List.length_drop, Array.length_toList]
          omega
        · rw [htake, ← hlen]
          exact List.take_left
      · have holds : ∀ j u, xs[j]? = some u → w.cell? ((⟨g, 0, none⟩ : Addr).add j) = some u := hown.cells (g := g) rfl
        have hr := run_append_grow (P := P) w t ty E i z ht hi hz ⟨g, 0, none⟩ n cap xs hown.1 holds A m cap2 xs2 hl hA (by omega) (by omega) (growslice_fits (by omega) hbytes)
        have hgr := grown cap (by omega) (Value.ownBlock (.slice (some ⟨g, 0, none⟩) n cap))
        exact ⟨_, _, hr, hgr.1, hgr.2, fun b hb => by simp [blk, Value.ownBlock] at hb; subst hb; exact .inr (Nat.le_refl _), fun b hb => by simp [blk, Value.ownBlock] at hb; subst hb; simp⟩
theorem op_append {o : Oper} {args : Array Operand} {t t2 E : TypeId} {n bytes : Nat} {x y : RV} {K : Out → Option R} (hd : a.defers = []) (h : Rel P G F Bs st a.tmps w)
    (ho : o.op = .call { callee := .builtin .append, args := args, argTypes := #[t, t] }) (hx : args.toList.map (opd st) = [x, y]) (hE : elemT P t = some E) (hn : sizeT P E = some n) (hb : bytesT P E = some bytes)
    (hn0 : 0 < n) (hzr : hasZero P E = true) (hk : appendK n bytes E x y K = some res) : ∃ out, K out = some res ∧ Eff P G st a w o out := by
  obtain ⟨u, v, rfl, hu, hv⟩ := list_args hx rfl
  have hru := opd_rel h u
  have hrv := opd_rel h v
  rw [hu] at hru; rw [hv] at hrv
  have hus := elemT_eq hE
  obtain ⟨i, hi, hin⟩ := sizeT_info hn
  have hby := bytes_eq hb hi
  obtain ⟨z, hz, hzs⟩ : ∃ z, i.zero = some z ∧ z.cells.size = i.size := by
    unfold hasZero at hzr
    split at hzr
    · rename_i zs hzt
      obtain ⟨i', z, e1, e2, e3, _⟩ := zeroT_eq hzt
      rw [hi] at e1; cases e1
      exact ⟨z, e2, e3⟩
    · cases hzr
  have run : ∀ c w', (Builtin.append_ #[t, t] o.type #[a.eval u, a.eval v]).run P w = .ok c w' → (execOp a.eval o).run P w = .ok (.value c) w' := by
    intro c w' hr
    refine exec_builtin ho ?_
    have e : #[u, v].map a.eval = #[a.eval u, a.eval v] := by simp
    rw [e]
    simp [builtin, hr]
  have core : ∀ (es es2 : List PV) (xs : List Value) (us : List (Nat × SV)) (Bs1 : Nat → List Nat), w.ownsRow 0 E i.size (a.eval u) es.length xs → RPs F w (flat es) xs → (∀ e ∈ es, (cellsOf e).length = n ∧ leafs (cellsOf e) = true) →
      News F w n es2 (a.eval v) → lenOK (es.length + es2.length) bytes = true →
      (∀ w', w.grownBy w' (a.eval u).ownBlock → ∃ Bs', Rel P G F Bs' (st.upS us []) a.tmps w' ∧ (∀ b ∈ blk (a.eval u), ∀ j, b ∉ Bs' j) ∧ (∀ j b, b ∈ Bs' j → b < w.heap.size)) →
      (∀ b ∈ blk (a.eval u), ¬ F b ∧ (G.W.heap.size ≤ b ∨ G.A b)) →
      K ⟨.own E (es ++ es2), none, us, []⟩ = some res → ∃ out, K out = some res ∧ Eff P G st a w o out := by
    intro es es2 xs us Bs1 hown hxs hes hnews hlen hrel hblk hk
    obtain ⟨xs2, ad, cap2, hc2, hxs2, hes2, hat⟩ := hnews
    simp only [lenOK, Bool.and_eq_true, decide_eq_true_eq] at hlen
    have hl2 : xs2.length = es2.length * i.size := by rw [← hxs2.length, flat_length fun e he => (hes2 e he).1, hin]
    have hlf : leafs (flat es2) = true := leafs_of fun y hy => by
      obtain ⟨e, he, hye⟩ := List.mem_flatMap.1 hy
      exact leafs_mem (hes2 e he).2 y hye
    obtain ⟨v', w', r1, r2, r3, r4, r5⟩ := append_run (P := P) (ty := o.type) hus hi hz hzs (by omega) hown hl2 hat (leafs_one hxs2 hlf) (by simp only [maxLen]; omega) (by rw [hby]; exact hlen.1)
    rw [← hc2] at r1
    obtain ⟨Bs', g1, g2, g3⟩ := hrel w' r3
    have hFk : ∀ b, F b → w'.heap[b]? = w.heap[b]? := fun b hb => r3.block b (h.fl b hb) fun e => (hblk b (by simp [blk, ← e])).1 hb
    have hrow : RS P F w' (.own E (es ++ es2)) v' (blk v') := by
      refine RS.own hi hz hzs (by omega) (by simpa using r2) ?_ (fun e he => ?_)
      · rw [flat_append]; exact (hxs.append hxs2).mono (fun _ q => q) hFk
      · rw [hin]
        rcases List.mem_append.1 he with q | q
        · exact hes e q
        · exact hes2 e q
    refine ⟨_, hk, fun hf => ⟨v', w', .inl (run v' w' r1), lay_owned hd g1 hrow ?_ ?_ ?_ ?_ r5 (by simp) hf⟩⟩
    · simp only [blk]
      cases v'.ownBlock <;> simp
    · intro j b hb hb'
      rcases r4 b hb with q | q
      · exact g2 b q j hb'
      · have := g3 j b hb'; omega
    · intro b hb hF
      rcases r4 b hb with q | q
      · exact (hblk b q).1 hF
      · have := h.fl b hF; omega
    · intro b hb
      rcases r4 b hb with q | q
      · exact (hblk b q).2
      · exact .inl (Nat.le_trans h.kb.size q)
  have nilCase : a.eval u = .slice none 0 0 → ∀ es2, News F w n es2 (a.eval v) → lenOK es2.length bytes = true → K (out (.own E es2)) = some res → ∃ out, K out = some res ∧ Eff P G st a w o out := by
    intro hv0 es2 hnews hlen hk
    refine core [] es2 [] [] Bs (by rw [hv0]; exact World.ownsRow_nil w 0 E i.size) .nil (by simp) hnews (by simpa using hlen) (fun w' hg => ?_) (by rw [hv0]; simp [blk, Value.ownBlock]) hk
    refine ⟨Bs, ?_, by rw [hv0]; simp [blk, Value.ownBlock], h.lt⟩
    rw [upS_nil]
    exact h.grow (F' := F) (fun b hb => hg.block b hb (by rw [hv0]; simp [Value.ownBlock])) hg.size ⟨hg.os, hg.tape, hg.output⟩ (fun _ q => q) (fun _ q => .inl q)
  have ownCase : ∀ s cx es, PlaceOK st.fr a.tmps w s cx E es (a.eval u) → ∀ es2, News F w n es2 (a.eval v) → lenOK (es.length + es2.length) bytes = true → K ⟨.own E (es ++ es2), none, [setPl s cx .dead], []⟩ = some res →
      ∃ out, K out = some res ∧ Eff P G st a w o out := by
    intro s cx es hp es2 hnews hlen hk
    have hpl := h.place hp
    have hrs := hpl.1
    have hblk : ∀ b ∈ blk (a.eval u), ¬ F b ∧ (G.W.heap.size ≤ b ∨ G.A b) := fun b hb => ⟨h.nf s b (hpl.2 b hb), h.nw s b (hpl.2 b hb)⟩
    cases hrs with
    | own q1 q2 q3 q4 q5 q6 q7 =>
      rename_i xs inf z'
      rw [hi] at q1; cases q1
      refine core es es2 xs [setPl s cx .dead] Bs q5 q6 (by rw [hin] at q7; exact q7) hnews hlen (fun w' hg => ?_) hblk hk
      obtain ⟨Bs', r1, r2, r3⟩ := h.turnPl hp (F' := F) (w' := w') (x := .dead) (B := []) (.dead _) (by simp) (by simp) (fun _ q => q) (fun _ q => .inl q) (by simp)
        (fun b hb hnb => hg.block b hb fun e => hnb (by simp [blk, ← e])) hg.size ⟨hg.os, hg.tape, hg.output⟩ (by simp)
      exact ⟨Bs', r1, fun b hb j => r3 b hb (by simp) j, fun j b hb => h.lt j b (r2 j b hb)⟩
  unfold appendK at hk
  split at hk
  · rename_i s1 cx T es
    obtain ⟨hT, hk1⟩ := bif_some hk
    have hT := eqB hT
    subst hT
    clear hk
    split at hk1
    · have hv0 : a.eval v = .slice none 0 0 := hrv
      have hpl := h.place hru
      obtain ⟨Bs', r1, r2, r3⟩ := h.turnPl hru (F' := F) (w' := w) (x := .dead) (B := []) (.dead _) (by simp) (by simp) (fun _ q => q) (fun _ q => .inl q) (by simp) (fun _ _ _ => rfl) (Nat.le_refl _) ⟨rfl, rfl, rfl⟩ (by simp)
      have hrun : (Builtin.append_ #[t, t] o.type #[a.eval u, a.eval v]).run P w = .ok (a.eval u) w := by
        rw [hv0]
        have hrs := hpl.1
        cases hrs with
        | own q1 q2 q3 q4 q5 q6 q7 => exact run_append_owned_none w 0 t o.type T _ _ hus q1 (a.eval u) es.length _ q5
      refine ⟨_, hk1, eff_of_lay (run _ _ hrun) (lay_owned hd r1 hpl.1 ?_ (fun j b hb => r3 b hb (by simp) j) (fun b hb => h.nf s1 b (hpl.2 b hb)) (fun b hb => h.nw s1 b (hpl.2 b hb)) (fun b hb => h.lt s1 b (hpl.2 b hb)) (by simp))⟩
      simp only [blk]
      cases (a.eval u).ownBlock <;> simp
    · rename_i es2
      obtain ⟨hc, hk2⟩ := bif_some hk1
      simp only [Bool.and_eq_true] at hc
      exact ownCase s1 cx es hru es2 (news_sh hrv hc.1) hc.2 hk2
    · rename_i s2 cx2 T2 es2
      obtain ⟨hc, hk2⟩ := bif_some hk1
      simp only [Bool.and_eq_true] at hc
      have hT2 := eqB hc.1.1
      subst hT2
      exact ownCase s1 cx es hru es2 (news_own (h.place hrv).1 hn) hc.2 hk2
    · cases hk1
  · have hv0 : a.eval u = .slice none 0 0 := hru
    split at hk
    · have hv1 : a.eval v = .slice none 0 0 := hrv
      have hrun : (Builtin.append_ #[t, t] o.type #[a.eval u, a.eval v]).run P w = .ok (.slice none 0 0) w := by
        rw [hv0, hv1]
        exact run_append_owned_none w 0 t o.type E i i.size hus hi _ 0 [] (World.ownsRow_nil w 0 E i.size)
      exact ⟨_, hk, eff_of_lay (run _ _ hrun) (lay_pure hd (by rw [upS_nil]; exact h) .nl)⟩
    · rename_i es2
      obtain ⟨hc, hk2⟩ := bif_some hk
      simp only [Bool.and_eq_true] at hc
      exact nilCase hv0 es2 (news_sh hrv hc.1) hc.2 hk2
    · rename_i s2 cx2 T2 es2
      obtain ⟨hc, hk2⟩ := bif_some hk
      simp only [Bool.and_eq_true] at hc
      have hT2 := eqB hc.1
      subst hT2
      exact nilCase hv0 es2 (news_own (h.place hrv).1 hn) hc.2 hk2
    · cases hk
  · cases hk
end
end Go.Proofs.Ytlplpkbhjddmeaa.Th


set_option linter.unusedVariables false
set_option linter.unusedSimpArgs false
namespace Go.Proofs.Ytlplpkbhjddmeaa.Th
open Go
variable {R : Type} {res : R}
def bxv : List SV → List Value → List Value
  | .bx _ _ :: r, c :: cs => c :: bxv r cs
  | .ob _ _ _ :: r, c :: cs => c :: bxv r cs
  | _ :: r, _ :: cs => bxv r cs
  | _, _ => []
def tupV : List Value → Value
  | [v] => v
  | l => .tuple l.toArray
def Back (P : Program) (F : Nat → Prop) (W : World) (args : List SV) (cargs : List Value) (B : List Nat) (rs : List SV) (v : Value) (w' : World) : Prop :=
  ∃ F' Br xs ys vs, rs = xs ++ ys ∧ xs.length = vs.length ∧ v = tupV vs ∧ RSs P F' w' (xs ++ ys) (vs ++ bxv args cargs) Br ∧ Br.Nodup ∧
    (∀ b ∈ Br, ¬ F' b ∧ b < w'.heap.size ∧ (W.heap.size ≤ b ∨ b ∈ B)) ∧ (∀ b, F b → F' b) ∧ (∀ b, F' b → F b ∨ W.heap.size ≤ b ∨ b ∈ B) ∧ (∀ b, F' b → b < w'.heap.size) ∧ Keep W (· ∈ B) w'
structure FSound (P : Program) (g : Nat) (fs : FS) : Prop where
  fn : ∃ fn, P.funcs[g]? = some fn ∧ fn.body.isNone = false ∧ (fn.name == "runtime.NumGoroutine") = false
  call : ∀ {R : Type} {args : List SV} {K : List SV → Option R} {res : R}, fs.run args K = some res →
    ∀ (F : Nat → Prop) (W : World) (cargs : Array Value) (B : List Nat), RSs P F W args cargs.toList B → B.Nodup → (∀ b ∈ B, ¬ F b ∧ b < W.heap.size) → (∀ b, F b → b < W.heap.size) →
    Calls P g cargs W fun | .returned v, w' => ∃ rs, K rs = some res ∧ Back P F W args cargs.toList B rs v w' | _, _ => False
section
variable {P : Program} {G : Gd} {F : Nat → Prop} {Bs : Nat → List Nat} {st : St} {tm : Array Value} {w : World}
theorem memN_append (d e : List Nat) (s : Nat) : memN (d ++ e) s = (memN d s || memN e s) := by
  induction d with
  | nil => simp [memN]
  | cons x d ih => simp only [List.cons_append, memN]; cases Nat.beq x s <;> simp [ih]
theorem keepRefs_append (d e : List Nat) : ∀ l : List (Nat × Ref), keepRefs none e (keepRefs none d l) = keepRefs none (d ++ e) l
  | [] => rfl
  | (t, r) :: l => by
    have ih := keepRefs_append d e l
    have hm : ∀ s, memN (d ++ e) s = (memN d s || memN e s) := memN_append d e
    have e' : keepRef none (d ++ e) t r = (keepRef none d t r && keepRef none e t r) := by
      simp only [keepRef, hm, Bool.true_and]
      cases r.cell <;> cases memN d r.root <;> cases memN e r.root <;> rfl
    simp only [keepRefs]
    cases h1 : keepRef none d t r <;> cases h2 : keepRef none e t r <;> simp [e', h1, h2, keepRefs, ih]
theorem upS_drops (st : St) (u v : List (Nat × SV)) (d e : List Nat) : (st.upS u d).upS v e = st.upS (u ++ v) (d ++ e) := by
  simp [St.upS, updAll_append, keepRefs_append]
theorem fb_of_box (h : Rel P G F Bs st tm w) {s off : Nat} {T : TypeId} {cs : List SV} {ys : List PV} (hs : st.fr s = .bx T cs) (hf : frzL cs = some ys) :
    ∃ F' Bs' b, tm.getD s undef = .pointer (some ⟨b, 0, none⟩) ∧ Rel P G F' Bs' (st.upS [(s, .p (.fb ys))] []) tm w ∧ RP F' w (.fb (ys.drop off)) (.pointer (some ⟨b, off, none⟩)) ∧
      (∀ b, F b → F' b) ∧ (∀ i b, b ∈ Bs' i → b ∈ Bs i) ∧ (∀ b, F' b → F b ∨ b ∈ Bs s) := by
  obtain ⟨b, cur, B, e1, e2, e3, e4, e5⟩ := h.box_inv hs
  obtain ⟨h1, h2, h3⟩ := frzL_rel (F' := fun b => F b ∨ b ∈ Bs s) e3 hf (fun _ q => .inl q) (fun b q => .inr (by rw [e5]; exact List.mem_cons_of_mem _ q))
  have hl := h2 e4
  have cell : ∀ j, w.cell? ⟨b, j, none⟩ = cur.toList[j]? := fun j => by rw [cell_of_row w b j cur T _ e2]; simp
  have hfb : ∀ off, RP (fun b => F b ∨ b ∈ Bs s) w (.fb (ys.drop off)) (.pointer (some ⟨b, off, none⟩)) := fun off => by
    refine .fb (h1.drop off) (leafs_of fun y hy => leafs_mem hl y (List.mem_of_mem_drop hy)) (.inr ⟨b, off, rfl, .inr (by rw [e5]; exact List.mem_cons_self), fun j x hj => ?_⟩)
    rw [List.getElem?_drop] at hj
    rw [cell, hj]
  have hturn := h.turn (s := s) (drop := []) (F' := fun b => F b ∨ b ∈ Bs s) (w' := w) (x := .p (.fb ys)) (B := []) (by rw [e1]; exact .p (by have := hfb 0; rwa [List.drop_zero] at this)) (by simp) (by simp) (fun _ q => .inl q)
    (fun b q => q.imp id fun r => ⟨r, by simp⟩) (by simp) (fun _ _ _ => rfl) (Nat.le_refl _) ⟨rfl, rfl, rfl⟩ (fun _ _ _ _ _ => .inr rfl) (fun _ _ e => by cases e)
  refine ⟨_, _, b, e1, hturn, hfb off, fun _ q => .inl q, fun i b hb => ?_, fun _ q => q⟩
  by_cases hi : i = s
  · subst hi; rw [upB_same] at hb; cases hb
  · rw [upB_other _ _ hi] at hb; exact hb
theorem freeze_pl2 {s : Nat} {cx : Option (Nat × TypeId × List SV)} {T : TypeId} {es : List PV} {cv : Value} (h : Rel P G F Bs st tm w)
    (hp : PlaceOK st.fr tm w s cx T es cv) :
    ∃ F' Bs', Rel P G F' Bs' (st.upS [setPl s cx (.p (.sh es))] []) tm w ∧ RP F' w (.sh es) cv ∧ (∀ b, F b → F' b) ∧ (∀ i b, b ∈ Bs' i → b ∈ Bs i) ∧ (∀ b, F' b → F b ∨ b ∈ Bs s) := by
  obtain ⟨h1, h2⟩ := h.place hp
  have hfr : RP (fun b => F b ∨ b ∈ blk cv) w (.sh es) cv := h1.frozen (fun _ q => .inl q) (fun _ q => .inr q)
  obtain ⟨Bs', r1, r2, r3⟩ := h.turnPl hp (F' := fun b => F b ∨ b ∈ blk cv) (w' := w) (x := .p (.sh es)) (B := []) (.p hfr) (by simp) (by simp) (fun _ q => .inl q)
    (fun b q => q.imp id fun r => ⟨r, by simp⟩) (by simp) (fun _ _ _ => rfl) (Nat.le_refl _) ⟨rfl, rfl, rfl⟩ (by simp)
  exact ⟨_, Bs', r1, hfr, fun _ q => .inl q, r2, fun b q => q.imp id (h2 b)⟩
theorem argOf_rel (h : Rel P G F Bs st tm w) {m : Bool} {r : RV} {c : Value} {x : SV} {u : List (Nat × SV)} {bs : List Nat} (hr : RVR P F st.fr tm w r c) (ha : argOf m r = some (x, u, bs)) :
    ∃ F' Bs' B, Rel P G F' Bs' (st.upS u []) tm w ∧ RS P F' w x c B ∧ B.Nodup ∧ (∀ b, F b → F' b) ∧ (∀ b, F' b → F b ∨ ∃ i, i ∈ u.map (·.1) ∧ b ∈ Bs i) ∧ (∀ i b, b ∈ Bs' i → b ∈ Bs i) ∧ (∀ b ∈ B, ¬ F' b) ∧
      (∀ b ∈ B, ∃ i, i ∈ u.map (·.1) ++ bs ∧ b ∈ Bs i) ∧ (∀ b ∈ B, ∀ i, b ∈ Bs' i → i ∈ bs) ∧ bs.map (fun s => tm.getD s undef) = bxv [x] [c] := by
  cases r with
  | bad => simp [argOf] at ha
  | nl =>
    have hc : c = .slice none 0 0 := hr
    subst hc
    simp only [argOf] at ha
    cases m with
    | true =>
      simp only [cond_true, Option.some.injEq, Prod.mk.injEq] at ha
      obtain ⟨rfl, rfl, rfl⟩ := ha
      exact ⟨F, Bs, [], by rw [upS_nil]; exact h, .nl, by simp, fun _ q => q, fun _ q => .inl q, fun _ _ q => q, by simp, by simp, by simp, rfl⟩
    | false =>
      simp only [cond_false, Option.some.injEq, Prod.mk.injEq] at ha
      obtain ⟨rfl, rfl, rfl⟩ := ha
      exact ⟨F, Bs, [], by rw [upS_nil]; exact h, .p (RP_nil F w), by simp, fun _ q => q, fun _ q => .inl q, fun _ _ q => q, by simp, by simp, by simp, rfl⟩
  | pv y =>
    simp only [argOf, Option.some.injEq, Prod.mk.injEq] at ha
    obtain ⟨rfl, rfl, rfl⟩ := ha
    exact ⟨F, Bs, [], by rw [upS_nil]; exact h, .p hr, by simp, fun _ q => q, fun _ q => .inl q, fun _ _ q => q, by simp, by simp, by simp, rfl⟩
  | own s cx T es =>
    simp only [argOf] at ha
    cases m with
    | true =>
      simp only [cond_true, Option.some.injEq, Prod.mk.injEq] at ha
      obtain ⟨rfl, rfl, rfl⟩ := ha
      obtain ⟨p1, p2⟩ := h.place hr
      obtain ⟨Bs', r1, r2, r3⟩ := h.turnPl hr (F' := F) (w' := w) (x := .dead) (B := []) (.dead _) (by simp) (by simp) (fun _ q => q) (fun _ q => .inl q) (by simp) (fun _ _ _ => rfl) (Nat.le_refl _) ⟨rfl, rfl, rfl⟩ (by simp)
      refine ⟨F, Bs', blk c, r1, p1, ?_, fun _ q => q, fun _ q => .inl q, r2, fun b hb => h.nf s b (p2 b hb), fun b hb => ⟨s, by simp [setPl_fst], p2 b hb⟩, fun b hb i hi => absurd hi (r3 b hb (by simp) i), rfl⟩
      simp only [blk]; cases c.ownBlock <;> simp
    | false =>
      simp only [cond_false, Option.some.injEq, Prod.mk.injEq] at ha
      obtain ⟨rfl, rfl, rfl⟩ := ha
      obtain ⟨F', Bs', r1, r2, r3, r4, r5⟩ := freeze_pl2 h hr
      exact ⟨F', Bs', [], r1, .p r2, by simp, r3, fun b q => (r5 b q).imp id fun q => ⟨s, by simp [setPl_fst], q⟩, r4, by simp, by simp, by simp, rfl⟩
  | box s off T cs =>
    obtain ⟨h1, b, h2, h3⟩ := hr
    simp only [argOf] at ha
    cases m with
    | true =>
      simp only [cond_true] at ha
      obtain ⟨ho, ha⟩ := bif_some ha
      simp only [Option.some.injEq, Prod.mk.injEq] at ha
      obtain ⟨rfl, rfl, rfl⟩ := ha
      have ho := eqB ho
      subst ho
      have hsl := h.sl s
      rw [h1, h2] at hsl
      refine ⟨F, Bs, Bs s, by rw [upS_nil]; exact h, by rw [h3]; exact hsl, h.nd s, fun _ q => q, fun _ q => .inl q, fun _ _ q => q, h.nf s, fun b hb => ⟨s, by simp, hb⟩, fun b hb i hi => ?_, by show [tm.getD s undef] = [c]; rw [h2, h3]⟩
      rcases Nat.decEq i s with q | q
      · exact absurd hi (h.dj s i b (Ne.symm q) hb)
      · simp [q]
    | false =>
      simp only [cond_false] at ha
      cases hf : frzL cs with
      | none => rw [hf] at ha; cases ha
      | some ys =>
        rw [hf] at ha
        simp only [Option.some.injEq, Prod.mk.injEq] at ha
        obtain ⟨rfl, rfl, rfl⟩ := ha
        obtain ⟨F', Bs', b', q1, q2, q3, q4, q5, q6⟩ := fb_of_box (off := off) h h1 hf
        rw [h2] at q1
        cases q1
        exact ⟨F', Bs', [], q2, .p (by rw [h3]; exact q3), by simp, q4, fun b q => (q6 b q).imp id fun q => ⟨s, by simp, q⟩, q5, by simp, by simp, by simp, rfl⟩
  | ob s T e bs =>
    obtain ⟨h1, h2⟩ := hr
    simp only [argOf] at ha
    obtain ⟨_, ha⟩ := bif_some ha
    simp only [Option.some.injEq, Prod.mk.injEq] at ha
    obtain ⟨rfl, rfl, rfl⟩ := ha
    have hsl := h.sl s
    rw [h1, h2] at hsl
    refine ⟨F, Bs, Bs s, by rw [upS_nil]; exact h, hsl, h.nd s, fun _ q => q, fun _ q => .inl q, fun _ _ q => q, h.nf s, fun b hb => ⟨s, by simp, hb⟩, fun b hb i hi => ?_, by show [tm.getD s undef] = [c]; rw [h2]⟩
    rcases Nat.decEq i s with q | q
    · exact absurd hi (h.dj s i b (Ne.symm q) hb)
    · simp [q]
  | el s cx T es i off => simp [argOf] at ha
  | tup s l => simp [argOf] at ha
theorem arg_keep {F1 : Nat → Prop} {fr fr1 : Fr} {m : Bool} {r : RV} {x : SV} {u : List (Nat × SV)} {bs : List Nat} {c : Value} (ha : argOf m r = some (x, u, bs))
    (hfr : ∀ i ∈ u.map (·.1) ++ bs, fr1 i = fr i) (hF : ∀ b, F b → F1 b) (h : RVR P F fr tm w r c) : RVR P F1 fr1 tm w r c := by
  cases r with
  | pv z => exact RP.mono (w' := w) h hF fun _ _ => rfl
  | nl => exact h
  | own s cx T es =>
    have hs : fr1 s = fr s := by
      apply hfr s
      simp only [argOf] at ha
      cases m <;> simp only [cond_true, cond_false, Option.some.injEq, Prod.mk.injEq] at ha <;> obtain ⟨_, rfl, rfl⟩ := ha <;> simp [setPl_fst]
    cases cx with
    | none => exact ⟨by rw [hs]; exact h.1, h.2⟩
    | some q =>
      obtain ⟨j, Tb, cs⟩ := q
      exact ⟨by rw [hs]; exact h.1, h.2⟩
  | box s off T cs =>
    have hs : fr1 s = fr s := by
      apply hfr s
      simp only [argOf] at ha
      cases m with
      | true =>
        simp only [cond_true] at ha
        obtain ⟨ho, ha⟩ := bif_some ha
        simp only [Option.some.injEq, Prod.mk.injEq] at ha
        obtain ⟨_, rfl, rfl⟩ := ha
        simp
      | false =>
        simp only [cond_false] at ha
        cases hf : frzL cs with
        | none => rw [hf] at ha; cases ha
        | some ys =>
          rw [hf] at ha
          simp only [Option.some.injEq, Prod.mk.injEq] at ha
          obtain ⟨_, rfl, rfl⟩ := ha
          simp
    exact ⟨by rw [hs]; exact h.1, h.2⟩
  | ob s T e bs =>
    have hs : fr1 s = fr s := by
      apply hfr s
      simp only [argOf] at ha
      obtain ⟨_, ha⟩ := bif_some ha
      simp only [Option.some.injEq, Prod.mk.injEq] at ha
      obtain ⟨_, rfl, rfl⟩ := ha
      simp
    exact ⟨by rw [hs]; exact h.1, h.2⟩
  | _ => simp [argOf] at ha
theorem bxv_cons (x : SV) (c : Value) (l : List SV) (cs : List Value) : bxv (x :: l) (c :: cs) = bxv [x] [c] ++ bxv l cs := by
  cases x <;> rfl
theorem distinct_disj {u v : List Nat} (h : distinct (u ++ v) = true) : ∀ i ∈ u, i ∉ v := (distinct_append h).2.2
theorem distinct_nodup : ∀ {l : List Nat}, distinct l = true ↔ l.Nodup
  | [] => by simp [distinct]
  | x :: l => by
    simp only [distinct, Bool.and_eq_true, Bool.not_eq_true', List.nodup_cons, distinct_nodup (l := l)]
    constructor
    · rintro ⟨h1, h2⟩
      exact ⟨fun hm => by rw [memN_of hm] at h1; exact absurd h1 (by simp), h2⟩
    · rintro ⟨h1, h2⟩
      refine ⟨?_, h2⟩
      cases hm : memN l x with
      | false => rfl
      | true => exact absurd (of_memN hm) h1
theorem argsOf_rel : ∀ {rs : List RV} {ms : List Bool} {cs : List Value} {st : St} {F : Nat → Prop} {Bs : Nat → List Nat} {avs : List SV} {us : List (Nat × SV)} {bs : List Nat},
    Rel P G F Bs st tm w → (∀ (j : Nat) (r : RV), rs[j]? = some r → ∃ c, cs[j]? = some c ∧ RVR P F st.fr tm w r c) → cs.length = rs.length → argsOf ms rs = some (avs, us, bs) → (us.map (·.1) ++ bs).Nodup →
    ∃ F' Bs' B, Rel P G F' Bs' (st.upS us []) tm w ∧ RSs P F' w avs cs B ∧ B.Nodup ∧ (∀ b, F b → F' b) ∧ (∀ b, F' b → F b ∨ ∃ i, i ∈ us.map (·.1) ∧ b ∈ Bs i) ∧ (∀ i b, b ∈ Bs' i → b ∈ Bs i) ∧ (∀ b ∈ B, ¬ F' b) ∧
      (∀ b ∈ B, ∃ i, i ∈ us.map (·.1) ++ bs ∧ b ∈ Bs i) ∧ (∀ b ∈ B, ∀ i, b ∈ Bs' i → i ∈ bs) ∧ bs.map (fun s => tm.getD s undef) = bxv avs cs
  | [], ms, cs, st, F, Bs, avs, us, bs, h, hv, hl, hk, hd => by
    simp only [argsOf, Option.some.injEq, Prod.mk.injEq] at hk
    obtain ⟨rfl, rfl, rfl⟩ := hk
    have : cs = [] := List.length_eq_zero_iff.1 (by simpa using hl)
    subst this
    exact ⟨F, Bs, [], by rw [upS_nil]; exact h, .nil, by simp, fun _ q => q, fun _ q => .inl q, fun _ _ q => q, by simp, by simp, by simp, rfl⟩
  | r :: rs, ms, cs, st, F, Bs, avs, us, bs, h, hv, hl, hk, hd => by
    cases cs with
    | nil => simp at hl
    | cons c cs =>
      have hr : RVR P F st.fr tm w r c := by
        obtain ⟨c', e, q⟩ := hv 0 r rfl
        simp at e; subst e; exact q
      simp only [argsOf] at hk
      cases hy : argOf (ms.headD false) r with
      | none => simp only [hy, reduceCtorEq] at hk
      | some q =>
        obtain ⟨y, u, b⟩ := q
        cases hys : argsOf ms.tail rs with
        | none => simp only [hy, hys, reduceCtorEq] at hk
        | some q2 =>
          obtain ⟨ys', us', bs'⟩ := q2
          simp only [hy, hys, Option.some.injEq, Prod.mk.injEq] at hk
          obtain ⟨rfl, rfl, rfl⟩ := hk
          have hd' : (u.map (·.1) ++ b ++ (us'.map (·.1) ++ bs')).Nodup := by
            refine (List.Perm.nodup_iff ?_).1 hd
            rw [List.map_append, List.append_assoc, List.append_assoc]
            refine List.Perm.append_left _ ?_
            rw [← List.append_assoc, ← List.append_assoc]
            exact List.Perm.append_right _ List.perm_append_comm
          rw [List.nodup_append] at hd'
          obtain ⟨d1, d2, d3⟩ := hd'
          obtain ⟨F1, Bs1, B1, r1, r2, r2', r3, r3', r4, r5, r6, r7, r8⟩ := argOf_rel h hr hy
          have hsub : ∀ {rs : List RV} {ms : List Bool} {avs : List SV} {us : List (Nat × SV)} {bs : List Nat}, argsOf ms rs = some (avs, us, bs) → ∀ (j : Nat) (q : RV), rs[j]? = some q →
              ∃ m x u b, argOf m q = some (x, u, b) ∧ ∀ i ∈ u.map (·.1) ++ b, i ∈ us.map (·.1) ++ bs := by
            intro rs
            induction rs with
            | nil => intro ms avs us bs _ j q hj; simp at hj
            | cons r rs ih =>
              intro ms avs us bs hk j q hj
              simp only [argsOf] at hk
              cases hy : argOf (ms.headD false) r with
              | none => simp only [hy, reduceCtorEq] at hk
              | some q1 =>
                obtain ⟨y, u, b⟩ := q1
                cases hys : argsOf ms.tail rs with
                | none => simp only [hy, hys, reduceCtorEq] at hk
                | some q2 =>
                  obtain ⟨ys', us', bs'⟩ := q2
                  simp only [hy, hys, Option.some.injEq, Prod.mk.injEq] at hk
                  obtain ⟨rfl, rfl, rfl⟩ := hk
                  cases j with
                  | zero =>
                    simp at hj; subst hj
                    refine ⟨_, y, u, b, hy, fun i hi => ?_⟩
                    simp only [List.map_append, List.mem_append] at hi ⊢
                    exact hi.elim (fun q => .inl (.inl q)) fun q => .inr (.inl q)
                  | succ j =>
                    simp at hj
                    obtain ⟨m, y, u, b, e1, e2⟩ := ih hys j q hj
                    refine ⟨m, y, u, b, e1, fun i hi => ?_⟩
                    have := e2 i hi
                    simp only [List.map_append, List.mem_append] at this ⊢
                    exact this.elim (fun q => .inl (.inr q)) fun q => .inr (.inr q)
          have hv' : ∀ (j : Nat) (q : RV), rs[j]? = some q → ∃ c, cs[j]? = some c ∧ RVR P F1 (st.upS u []).fr tm w q c := by
            intro j q hj
            obtain ⟨m, yq, uq, bq, e1, e2⟩ := hsub hys j q hj
            obtain ⟨c', e, hq⟩ := hv (j + 1) q (by simpa using hj)
            exact ⟨c', by simpa using e, arg_keep e1 (fun i hi => updAll_other _ _ _ fun hm => d3 i (List.mem_append_left _ hm) i (e2 i hi) rfl) r3 hq⟩
          obtain ⟨F2, Bs2, B2, s1, s2, s2', s3, s3', s4, s5, s6, s7, s8⟩ := argsOf_rel r1 hv' (by simpa using hl) hys d2
          have hB1 : ∀ b ∈ B1, ¬ F2 b := fun x hx hf => by
            rcases s3' x hf with q | ⟨i, q1, q2⟩
            · exact r5 x hx q
            · exact d3 i (List.mem_append_right _ (r7 x hx i q2)) i (List.mem_append_left _ q1) rfl
          refine ⟨F2, Bs2, B1 ++ B2, by rw [← upS_upS]; exact s1, .cons (r2.mono (w' := w) s3 fun _ _ => rfl) s2, ?_, fun b q => s3 b (r3 b q), fun b q => ?_, fun i b q => r4 i b (s4 i b q), ?_, ?_, ?_, ?_⟩
          rotate_left
          · rcases s3' b q with q | ⟨i, q1, q2⟩
            · exact (r3' b q).imp id fun ⟨i, q1, q2⟩ => ⟨i, by simp only [List.map_append, List.mem_append]; exact .inl q1, q2⟩
            · exact .inr ⟨i, by simp only [List.map_append, List.mem_append]; exact .inr q1, r4 i b q2⟩
          rotate_right 1
          · refine List.nodup_append.2 ⟨r2', s2', fun x hx y hy e => ?_⟩
            subst e
            obtain ⟨i1, q1, q2⟩ := r6 x hx
            obtain ⟨i2, q3, q4⟩ := s6 x hy
            exact h.dj i1 i2 x (fun e => d3 i1 q1 i2 q3 e) q2 (r4 i2 x q4)
          · intro x hx
            rcases List.mem_append.1 hx with q | q
            · exact hB1 x q
            · exact s5 x q
          · intro x hx
            rcases List.mem_append.1 hx with q | q
            · obtain ⟨i, q1, q2⟩ := r6 x q
              refine ⟨i, ?_, q2⟩
              simp only [List.map_append, List.mem_append] at q1 ⊢
              exact q1.elim (fun q => .inl (.inl q)) fun q => .inr (.inl q)
            · obtain ⟨i, q1, q2⟩ := s6 x q
              refine ⟨i, ?_, r4 i x q2⟩
              simp only [List.map_append, List.mem_append] at q1 ⊢
              exact q1.elim (fun q => .inl (.inr q)) fun q => .inr (.inr q)
          · intro x hx i hi
            rcases List.mem_append.1 hx with q | q
            · exact List.mem_append_left _ (r7 x q i (s4 i x hi))
            · exact List.mem_append_right _ (s7 x q i hi)
          · rw [List.map_append, r8, s8, bxv_cons y c ys' cs]
end
end Go.Proofs.Ytlplpkbhjddmeaa.Th


set_option linter.unusedVariables false
set_option linter.unusedSimpArgs false
namespace Go.Proofs.Ytlplpkbhjddmeaa.Th
open Go
variable {R : Type} {res : R}
def EffW {R : Type} (P : Program) (G : Gd) (st : St) (a : Act) (w : World) (o : Oper) (K : Out → Option R) (res : R) : Prop :=
  (∀ r, K r = some res → r.fits G.N o.dst = true) → ∀ (next : Act → World → Prop) (Q : Exit → Act → World → Prop),
    (∀ r a' w', K r = some res → SRel P G (st.put o.dst r) a' w' → next a' w') → o.wp P a w next Q
section
variable {P : Program} {G : Gd} {F : Nat → Prop} {Bs : Nat → List Nat} {st : St} {a : Act} {tm : Array Value} {w : World}
theorem Eff.effW {o : Oper} {K : Out → Option R} (h : ∃ out, K out = some res ∧ Eff P G st a w o out) : EffW P G st a w o K res := by
  obtain ⟨out, h1, h2⟩ := h
  exact fun hf _ _ hn => h2.wp (hf out h1) fun a' w' => hn out a' w' h1
theorem updAll_mem : ∀ {l : List (Nat × SV)} {fr fr' : Fr} {i : Nat}, i ∈ l.map (·.1) → updAll fr l i = updAll fr' l i
  | [], _, _, _, h => by simp at h
  | (s, x) :: l, fr, fr', i, h => by
    simp only [updAll]
    by_cases hi : i ∈ l.map (·.1)
    · exact updAll_mem hi
    · rw [updAll_other _ _ _ hi, updAll_other _ _ _ hi]
      simp only [List.map_cons, List.mem_cons] at h
      rcases h with h | h
      · subst h; rw [upd1_same, upd1_same]
      · exact absurd h hi
theorem zipB_fst : ∀ {l : List Nat} {ys : List SV}, ys.length = l.length → (zipB l ys).map (·.1) = l
  | [], [], _ => rfl
  | s :: l, y :: ys, h => by simp [zipB, zipB_fst (l := l) (ys := ys) (by simpa using h)]
  | [], _ :: _, h => by simp at h
  | _ :: _, [], h => by simp at h
theorem deads_at : ∀ (bs : List Nat) (fr : Fr) (s : Nat), s ∈ bs → updAll fr (bs.map fun s => (s, .dead)) s = .dead
  | [], _, _, hs => by simp at hs
  | x :: bs, fr, s, hs => by
    simp only [List.map_cons, updAll]
    by_cases hx : s ∈ bs
    · exact deads_at bs _ s hx
    · rw [updAll_other _ _ _ (by simpa using hx)]
      rcases List.mem_cons.1 hs with rfl | q
      · exact upd1_same _ _ _
      · exact absurd q hx
theorem Rel.empties : ∀ (bs : List Nat) {st : St} {Bs : Nat → List Nat}, Rel P G F Bs st tm w →
    ∃ Bs', Rel P G F Bs' (st.upS (bs.map fun s => (s, .dead)) []) tm w ∧ (∀ i b, b ∈ Bs' i → b ∈ Bs i ∧ i ∉ bs)
  | [], st, Bs, h => ⟨Bs, by rw [List.map_nil, upS_nil]; exact h, fun i b hb => ⟨hb, by simp⟩⟩
  | s :: bs, st, Bs, h => by
    have h1 := Rel.empty (a := { tmps := tm, defers := [] }) h s
    obtain ⟨Bs', r1, r2⟩ := Rel.empties bs h1
    refine ⟨Bs', by rw [upS_upS] at r1; exact r1, fun i b hb => ?_⟩
    obtain ⟨q1, q2⟩ := r2 i b hb
    by_cases hi : i = s
    · subst hi; rw [upB_same] at q1; cases q1
    · rw [upB_other _ _ hi] at q1; exact ⟨q1, by simp [hi, q2]⟩
theorem Rel.growB {B : List Nat} (h : Rel P G F Bs st tm w) {w' : World} {F' : Nat → Prop} (hw : ∀ b, b < w.heap.size → b ∉ B → w'.heap[b]? = w.heap[b]?) (hz : w.heap.size ≤ w'.heap.size)
    (hos : w'.os = w.os ∧ w'.tape = w.tape ∧ w'.output = w.output) (hF : ∀ b, F b → F' b) (hF' : ∀ b, F' b → F b ∨ w.heap.size ≤ b ∨ b ∈ B) (hlt : ∀ b, F' b → b < w'.heap.size)
    (hBF : ∀ b ∈ B, ¬ F b) (hBB : ∀ i b, b ∈ Bs i → b ∉ B) (hBw : ∀ b ∈ B, G.W.heap.size ≤ b ∨ G.A b) : Rel P G F' Bs st tm w' := by
  refine ⟨h.sz, fun i => (h.sl i).mono hF fun b hb => ?_, h.nd, h.dj, fun i b hb hf => ?_, h.nw, fun i b hb => Nat.lt_of_lt_of_le (h.lt i b hb) hz, hlt, fun b hb => hF b (h.f0 b hb), fun b hb => ?_, ?_, ?_, h.pn⟩
  · rcases hb with q | q
    · exact hw b (h.fl b q) fun r => hBF b r q
    · exact hw b (h.lt i b q) (hBB i b q)
  · rcases hF' b hf with q | q | q
    · exact h.nf i b hb q
    · have := h.lt i b hb; omega
    · exact hBB i b hb q
  · rcases hF' b hb with q | q | q
    · exact h.fn b q
    · exact .inr (.inl (Nat.le_trans h.kb.size q))
    · exact .inr (hBw b q)
  · refine ⟨hos.1.trans h.kb.os, hos.2.1.trans h.kb.tape, hos.2.2.trans h.kb.output, Nat.le_trans h.kb.size hz, fun b hb hA => (hw b (Nat.lt_of_lt_of_le hb h.kb.size) fun q => ?_).trans (h.kb.block b hb hA)⟩
    rcases hBw b q with r | r
    · omega
    · exact hA r
  · intro t q hm
    have hok := h.rf t q hm
    have box : ∀ u T cs b, st.fr u = .bx T cs → tm.getD u undef = .pointer (some ⟨b, 0, none⟩) → w'.heap[b]? = w.heap[b]? := by
      intro u T cs b hu ht
      have hsl := h.sl u
      rw [hu, ht] at hsl
      exact hw b (h.lt u b hsl.bx_mem) (hBB u b hsl.bx_mem)
    cases q with
    | b u off => exact hok
    | o u j =>
      cases j with
      | none => exact hok
      | some j =>
        intro T cs b cur T' f hu ht hb
        rw [box u T cs b hu ht] at hb
        exact hok T cs b cur T' f hu ht hb
    | e u j T i off =>
      cases j with
      | none => exact hok
      | some j =>
        intro Tb cs b cur T' f hu ht hb
        rw [box u Tb cs b hu ht] at hb
        exact hok Tb cs b cur T' f hu ht hb
theorem Rel.lays : ∀ (bs : List Nat) (ys : List SV) {st : St} {Bs : Nat → List Nat} {B : List Nat}, Rel P G F Bs st tm w → RSs P F w ys (bs.map fun s => tm.getD s undef) B → B.Nodup → bs.Nodup →
    (∀ b ∈ B, (∀ i, b ∉ Bs i) ∧ ¬ F b ∧ (G.W.heap.size ≤ b ∨ G.A b) ∧ b < w.heap.size) → (∀ s ∈ bs, st.fr s = .dead) →
    ∃ Bs', Rel P G F Bs' (st.upS (zipB bs ys) bs) tm w ∧ ∀ i b, b ∈ Bs' i → b ∈ Bs i ∨ b ∈ B
  | [], ys, st, Bs, B, h, hy, _, _, _, _ => by
    cases hy
    exact ⟨Bs, by simp only [zipB]; rw [upS_nil]; exact h, fun _ _ q => .inl q⟩
  | s :: bs, ys, st, Bs, B, h, hy, hn, hbs, hB, hd => by
    cases hy with
    | cons h1 h2 =>
      rename_i y ys B1 B2
      rw [List.nodup_append] at hn
      have hds := hd s (by simp)
      have ht := h.turn (s := s) (drop := [s]) (F' := F) (w' := w) (x := y) (B := B1) h1 (fun b hb => by
          obtain ⟨q1, q2, q3, q4⟩ := hB b (List.mem_append_left _ hb)
          exact .inr ⟨fun ⟨i, q⟩ => q1 i q, q3, q4⟩) hn.1 (fun _ q => q) (fun _ q => .inl q) (fun b hb => (hB b (List.mem_append_left _ hb)).2.1)
        (fun _ _ _ => rfl) (Nat.le_refl _) ⟨rfl, rfl, rfl⟩ (fun T cs b hs _ => by rw [hds] at hs; cases hs) (fun _ _ _ => .inl (by simp))
      rw [List.nodup_cons] at hbs
      obtain ⟨Bs', r1, r2⟩ := Rel.lays bs ys ht h2 hn.2.1 hbs.2 (fun b hb => by
          obtain ⟨q1, q2, q3, q4⟩ := hB b (List.mem_append_right _ hb)
          refine ⟨fun i => ?_, q2, q3, q4⟩
          by_cases hi : i = s
          · subst hi; rw [upB_same]; exact fun q => hn.2.2 b q b hb rfl
          · rw [upB_other _ _ hi]; exact q1 i) (fun s' hs' => by
          show upd1 st.fr s y s' = .dead
          have hne : s' ≠ s := fun e => by subst e; exact hbs.1 hs'
          rw [upd1_other _ _ hne]
          exact hd s' (by simp [hs']))
      refine ⟨Bs', by rw [upS_drops] at r1; exact r1, fun i b hb => ?_⟩
      rcases r2 i b hb with q | q
      · by_cases hi : i = s
        · subst hi; rw [upB_same] at q; exact .inr (List.mem_append_left _ q)
        · rw [upB_other _ _ hi] at q; exact .inl q
      · exact .inr (List.mem_append_right _ q)
theorem tup_rel {xs : List SV} {vs : List Value} {B : List Nat} (h : RSs P F w xs vs B) : RS P F w (tupOf xs) (tupV vs) B := by
  cases h with
  | nil => exact .tup .nil
  | cons h1 h2 =>
    cases h2 with
    | nil => rw [List.append_nil]; exact h1
    | cons h3 h4 => exact .tup (.cons h1 (.cons h3 h4))
theorem call_rel {o : Oper} {g : Nat} {fs : FS} {rs : List RV} {cs : List Value} {K : Out → Option R} (hd : a.defers = []) (h : Rel P G F Bs st a.tmps w) (hfs : FSound P g fs)
    (hrun : (execOp a.eval o).run P w = .ok (.enter g cs.toArray) w) (hv : ∀ (j : Nat) (r : RV), rs[j]? = some r → ∃ c, cs[j]? = some c ∧ RVR P F st.fr a.tmps w r c) (hl : cs.length = rs.length)
    (hk : callK fs rs K = some res) : EffW P G st a w o K res := by
  unfold callK at hk
  cases ha : argsOf fs.om rs with
  | none => rw [ha] at hk; cases hk
  | some q =>
    obtain ⟨avs, us, bs⟩ := q
    rw [ha] at hk
    simp only [] at hk
    obtain ⟨hdi, hk⟩ := bif_some hk
    have hdi := distinct_nodup.1 hdi
    obtain ⟨F1, Bs1, B, r1, r2, r3, r4, r4', r5, r6, r7, r8, r9⟩ := argsOf_rel h hv hl ha hdi
    have told := hfs.call hk
    have hBlt : ∀ b ∈ B, b < w.heap.size := fun b hb => by obtain ⟨i, _, q⟩ := r7 b hb; exact h.lt i b q
    have hBw : ∀ b ∈ B, G.W.heap.size ≤ b ∨ G.A b := fun b hb => by obtain ⟨i, _, q⟩ := r7 b hb; exact h.nw i b q
    intro hf next Q hn
    unfold Oper.wp
    rw [hrun, Oper.upon_enter]
    refine Calls.mono (told F1 w cs.toArray B (by simpa using r2) r3 (fun b hb => ⟨r6 b hb, hBlt b hb⟩) r1.fl) fun e w' he => ?_
    cases e with
    | panicked chain => exact he.elim
    | outgrown => exact he.elim
    | returned v =>
      obtain ⟨rs', hkr, F2, Br, xs, ys, vs, rfl, e1, rfl, e2, e3, e4, e5, e6, e7, e8⟩ := he
      have hlen : ys.length = bs.length := by
        have q1 := e2.length
        have q2 := congrArg List.length r9
        simp only [List.length_map, List.length_append] at q1 q2
        omega
      have htake : (xs ++ ys).take ((xs ++ ys).length - bs.length) = xs := by
        rw [List.length_append, hlen, Nat.add_sub_cancel, List.take_left]
      have hdrop : (xs ++ ys).drop ((xs ++ ys).length - bs.length) = ys := by
        rw [List.length_append, hlen, Nat.add_sub_cancel, List.drop_left]
      rw [htake, hdrop] at hkr
      obtain ⟨v1, v2, B1, B2, q1, rfl, g1, g2⟩ := e2.split
      have hv1 : vs = v1 ∧ bxv avs cs = v2 := List.append_inj q1 (by rw [← e1, g1.length])
      obtain ⟨rfl, rfl⟩ := hv1
      rw [← r9] at g2
      rw [List.nodup_append] at e3
      obtain ⟨Bs2, s1, s2⟩ := Rel.empties bs r1
      have s3 : Rel P G F2 Bs2 ((st.upS us []).upS (bs.map fun s => (s, .dead)) []) a.tmps w' :=
        s1.growB (B := B) (fun b hb hnb => e8.block b hb hnb) e8.size ⟨e8.os, e8.tape, e8.output⟩ e5 e6 e7 r6 (fun i b hb hbB => (s2 i b hb).2 (r8 b hbB i (s2 i b hb).1)) hBw
      have hbsn : bs.Nodup := (List.nodup_append.1 hdi).2.1
      have new : ∀ b ∈ B1 ++ B2, (∀ i, b ∉ Bs2 i) ∧ ¬ F2 b ∧ (G.W.heap.size ≤ b ∨ G.A b) ∧ b < w'.heap.size := fun b hb => by
        obtain ⟨q1, q2, q3⟩ := e4 b hb
        refine ⟨fun i hi => ?_, q1, ?_, q2⟩
        · rcases q3 with q | q
          · have := s1.lt i b hi; omega
          · exact (s2 i b hi).2 (r8 b q i (s2 i b hi).1)
        · rcases q3 with q | q
          · exact .inl (Nat.le_trans h.kb.size q)
          · exact hBw b q
      obtain ⟨Bs3, t1, t2⟩ := Rel.lays bs ys s3 g2 e3.2.1 hbsn (fun b hb => new b (List.mem_append_right _ hb)) (fun s hs => by
        exact deads_at bs _ s hs)
      have hst : ((st.upS us []).upS (bs.map fun s => (s, .dead)) []).upS (zipB bs ys) bs = st.upS (us ++ zipB bs ys) bs := by
        rw [upS_upS, upS_upS]
        simp only [St.upS, updAll_append]
        congr 1
        funext i
        by_cases hi : i ∈ bs
        · exact updAll_mem (by rw [zipB_fst hlen]; exact hi)
        · rw [updAll_other _ (zipB bs ys) i (by rw [zipB_fst hlen]; exact hi), updAll_other _ (zipB bs ys) i (by rw [zipB_fst hlen]; exact hi), updAll_other _ _ i (by simpa using hi)]
      rw [hst] at t1
      refine hn _ _ _ hkr (lay_owned hd t1 (tup_rel g1) e3.1 (fun i b hb hi => ?_) (fun b hb => (new b (List.mem_append_left _ hb)).2.1) (fun b hb => (new b (List.mem_append_left _ hb)).2.2.1)
        (fun b hb => (new b (List.mem_append_left _ hb)).2.2.2) (by simp) (hf _ hkr))
      rcases t2 i b hi with q | q
      · exact (new b (List.mem_append_left _ hb)).1 i q
      · exact e3.2.2 b hb b q rfl
end
end Go.Proofs.Ytlplpkbhjddmeaa.Th


set_option linter.unusedVariables false
set_option linter.unusedSimpArgs false
namespace Go.Proofs.Ytlplpkbhjddmeaa.Th
open Go
variable {R : Type} {res : R}
def EnvOK (P : Program) (env : Env) : Prop := ∀ g fs, env g = some fs → FSound P g fs
section
variable {P : Program} {G : Gd} {F : Nat → Prop} {Bs : Nat → List Nat} {st : St} {a : Act} {tm : Array Value} {w : World}
theorem run_enter {o : Oper} {f : Operand} {args : Array Operand} {tys : Array TypeId} {g : Nat} {caps : List Value} {fs : FS} (ho : o.op = .call { callee := .value f, args := args, argTypes := tys })
    (hf : a.eval f = .func (.func g) #[] caps.toArray) (hfs : FSound P g fs) : (execOp a.eval o).run P w = .ok (.enter g (args.toList.map a.eval ++ caps).toArray) w := by
  obtain ⟨fn, h1, h2, h3⟩ := hfs.fn
  have e : #[] ++ args.map a.eval ++ caps.toArray = (args.toList.map a.eval ++ caps).toArray := by apply Array.ext'; simp
  simp only [execOp, ho, resolve, hf, Deferred.ofValue, invoke, Sem.run_bind, Sem.run_pure, Result.andThen_ok]
  rw [e]
  have hn : ¬ fn.name = "runtime.NumGoroutine" := by intro e; rw [e] at h3; simp at h3
  have hb : ¬ fn.body = none := by intro e; rw [e] at h2; simp at h2
  simp [callFunc, go_sem, h1, hn, hb]
theorem args_get {l : List Operand} (h : Rel P G F Bs st a.tmps w) : ∀ (j : Nat) (r : RV), (l.map (opd st))[j]? = some r → ∃ c, (l.map a.eval)[j]? = some c ∧ RVR P F st.fr a.tmps w r c := by
  intro j r hj
  rw [List.getElem?_map] at hj
  cases hl : l[j]? with
  | none => rw [hl] at hj; cases hj
  | some x =>
    rw [hl] at hj
    simp only [Option.map_some, Option.some.injEq] at hj
    subst hj
    exact ⟨a.eval x, by rw [List.getElem?_map, hl]; rfl, opd_rel h x⟩
theorem caps_get {caps : List PV} {vs : List Value} (hc : RPs F w caps vs) {l : List Operand} (h : Rel P G F Bs st a.tmps w) :
    ∀ (j : Nat) (r : RV), (l.map (opd st) ++ caps.map RV.pv)[j]? = some r → ∃ c, (l.map a.eval ++ vs)[j]? = some c ∧ RVR P F st.fr a.tmps w r c := by
  intro j r hj
  by_cases hlt : j < l.length
  · rw [List.getElem?_append_left (by simpa using hlt)] at hj
    rw [List.getElem?_append_left (by simpa using hlt)]
    exact args_get h j r hj
  · rw [List.getElem?_append_right (by simp; omega)] at hj
    rw [List.getElem?_append_right (by simp; omega)]
    simp only [List.length_map] at hj ⊢
    rw [List.getElem?_map] at hj
    cases hl : caps[j - l.length]? with
    | none => rw [hl] at hj; cases hj
    | some x =>
      rw [hl] at hj
      simp only [Option.map_some, Option.some.injEq] at hj
      subst hj
      obtain ⟨c, e1, e2⟩ := hc.get hl
      exact ⟨c, e1, e2⟩
theorem op_call {env : Env} (henv : EnvOK P env) {o : Oper} {f : Operand} {args : Array Operand} {tys : Array TypeId} {K : Out → Option R} (hd : a.defers = []) (h : Rel P G F Bs st a.tmps w)
    (ho : o.op = .call { callee := .value f, args := args, argTypes := tys }) (hk : opK P env (.call { callee := .value f, args := args, argTypes := tys }) o.type (opd st) K = some res) :
    EffW P G st a w o K res := by
  have hr := opd_rel h f
  simp only [opK] at hk
  split at hk
  · rename_i g fi ca hf
    rw [hf] at hr
    have hv := RP_v hr
    split at hk
    · rename_i hfi hca he
      have e1 : fi = #[] := by cases fi; simp at hfi; simp [hfi]
      have e2 : ca = #[] := by cases ca; simp at hca; simp [hca]
      subst e1 e2
      have hfs := henv _ _ he
      have hrun := run_enter (w := w) (caps := []) ho hv hfs
      rw [List.append_nil] at hrun
      exact call_rel hd h hfs hrun (args_get h) (by simp) hk
    · cases hk
  · rename_i g caps hf
    rw [hf] at hr
    split at hk
    · rename_i fs he
      have hfs := henv _ _ he
      have hr : RP F w (.clo g caps) (a.eval f) := hr
      generalize hc : a.eval f = c at hr
      cases hr with
      | clo hcs => exact call_rel hd h hfs (run_enter ho hc hfs) (caps_get hcs h) (by simp [hcs.length]) hk
    · cases hk
  · cases hk
theorem op_builtin {env : Env} {o : Oper} {b : Builtin} {args : Array Operand} {tys : Array TypeId} {K : Out → Option R} (hd : a.defers = []) (h : Rel P G F Bs st a.tmps w)
    (ho : o.op = .call { callee := .builtin b, args := args, argTypes := tys }) (hk : builtinK P b tys.toList (args.toList.map (opd st)) K = some res) :
    ∃ out, K out = some res ∧ Eff P G st a w o out := by
  unfold builtinK at hk
  split at hk
  · rename_i x hx
    obtain ⟨h1, h2⟩ := bif_some hk
    exact op_len hd h ho hx h2 h1
  · rename_i s x hx
    split at hk
    · rename_i t t2 ht
      obtain ⟨h1, hk1⟩ := bif_some hk
      clear hk
      have h1 := eqB h1
      subst h1
      split at hk1
      · rename_i E hE
        split at hk1
        · rename_i n bytes hn hb
          obtain ⟨h2, hk2⟩ := bif_some hk1
          simp only [Bool.and_eq_true, Nat.blt_eq] at h2
          have hty : tys = #[t, t] := by cases tys; simp at ht; simp [ht]
          subst hty
          exact op_append (t2 := t) hd h ho hx hE hn hb h2.1 h2.2 hk2
        · cases hk1
      · cases hk1
    · cases hk
  · rename_i k m k' n hx
    obtain ⟨h1, hk1⟩ := bif_some hk
    clear hk
    have := ikEq_eq h1
    subst this
    exact op_minmax hd h ho hx _ (.inl ⟨rfl, rfl⟩) hk1
  · rename_i k m k' n k'' q hx
    obtain ⟨h1, hk1⟩ := bif_some hk
    clear hk
    simp only [Bool.and_eq_true] at h1
    have e1 := ikEq_eq h1.1
    have e2 := ikEq_eq h1.2
    subst e1 e2
    exact op_min3 hd h ho hx hk1
  · rename_i k m k' n hx
    obtain ⟨h1, hk1⟩ := bif_some hk
    clear hk
    have := ikEq_eq h1
    subst this
    exact op_minmax hd h ho hx _ (.inr ⟨rfl, rfl⟩) hk1
  · cases hk
theorem opK_all {env : Env} (henv : EnvOK P env) {o : Oper} {op : Op} {K : Out → Option R} (hd : a.defers = []) (h : Rel P G F Bs st a.tmps w) (ho : o.op = op)
    (hk : opK P env op o.type (opd st) K = some res) : EffW P G st a w o K res := by
  cases op with
  | move x => exact Eff.effW (op_move hd h ho (by simpa only [opK] using hk))
  | assign x => exact Eff.effW (op_assign hd h ho hk)
  | pick c x y => exact Eff.effW (op_pick hd h ho hk)
  | alloc T => exact Eff.effW (op_alloc hd h ho hk)
  | box T x => exact Eff.effW (op_box hd h ho hk)
  | build T parts => exact Eff.effW (op_build hd h ho hk)
  | buildSlice T len parts => exact Eff.effW (op_buildSlice hd h ho hk)
  | load T x => exact Eff.effW (op_load hd h ho hk)
  | store T x y => exact Eff.effW (op_store hd h ho hk)
  | nilCheck x => exact Eff.effW (op_nilCheck hd h ho hk)
  | binOp op T x y yT => exact Eff.effW (op_bin hd h ho hk)
  | unOp op T x => exact Eff.effW (op_un hd h ho hk)
  | convert s d x => exact Eff.effW (op_conv hd h ho hk)
  | makeFunc f first caps =>
    cases f with
    | func f => exact Eff.effW (op_makeFunc hd h ho hk)
    | _ => simp only [opK, reduceCtorEq] at hk
  | makeSlice T l c => exact Eff.effW (op_makeSlice hd h ho hk)
  | slice T x lo hi mx => exact Eff.effW (op_slice hd h ho hk)
  | fieldAddr S x f => exact Eff.effW (op_fieldAddr hd h ho hk)
  | field S x f => exact Eff.effW (op_field hd h ho hk)
  | indexAddr T x i => exact Eff.effW (op_indexAddr hd h ho hk)
  | index T x i => exact Eff.effW (op_index hd h ho hk)
  | extract x i => exact Eff.effW (op_extract hd h ho hk)
  | call c =>
    obtain ⟨callee, args, tys⟩ := c
    cases callee with
    | builtin b => exact Eff.effW (op_builtin (env := env) hd h ho (by simpa only [opK] using hk))
    | value f => exact op_call henv hd h ho hk
    | invoke x n => simp only [opK, reduceCtorEq] at hk
  | _ => simp only [opK, reduceCtorEq] at hk
theorem opF_all {env : Env} (henv : EnvOK P env) {fz : List Nat} {o : Oper} {K : Out → Option R} (hd : a.defers = []) (h : Rel P G F Bs st a.tmps w)
    (hk : opF P env fz o (opd st) K = some res) : EffW P G st a w o K res := by
  unfold opF at hk
  split at hk
  · rename_i x ho
    split at hk
    · rename_i d hdst
      cases hm : memN fz d with
      | true => rw [hm] at hk; exact Eff.effW (op_freeze hd h ho hk)
      | false => rw [hm] at hk; exact Eff.effW (op_move hd h ho hk)
    · exact Eff.effW (op_move hd h ho hk)
  · exact opK_all henv hd h rfl hk
end
end Go.Proofs.Ytlplpkbhjddmeaa.Th


set_option linter.unusedVariables false
set_option linter.unusedSimpArgs false
namespace Go.Proofs.Ytlplpkbhjddmeaa.Th
open Go
variable {R : Type} {res : R}
section
variable {P : Program} {G : Gd} {F : Nat → Prop} {Bs : Nat → List Nat} {st : St} {a : Act} {tm : Array Value} {w : World}
theorem setB_same {st : St} {d : Nat} {t : Bool} (h : st.fr d = .p (.v (.bool t))) : setB st d t = st := by
  cases st with
  | mk fr ral =>
    simp only [setB]
    congr 1
    funext j
    by_cases hj : j = d
    · subst hj; rw [upd1_same]; exact h.symm
    · rw [upd1_other _ _ hj]
theorem skip_lay (hs : SRel P G st a w) {d : Option Nat} (hf : skipOut.fits G.N d = true) : SRel P G (st.put d skipOut) (a.put d undef) w := by
  obtain ⟨hd, F, Bs, h⟩ := hs
  exact lay_p (x := .v (.tuple #[])) hd h (.v _) hf
theorem operO_ok {env : Env} (henv : EnvOK P env) {fz : List Nat} {ops : Array Oper} {o : Oper} {K : St → Out → Option R} (hs : SRel P G st a w)
    (hk : operO P env fz G.N ops.toList o st K = some res) {next : Act → World → Prop} {Q : Exit → Act → World → Prop}
    (hn : ∀ r a' w', K st r = some res → SRel P G (st.put o.dst r) a' w' → next a' w') :
    (Region.wanted o (yielded ops a.tmps) = true → o.wp P a w next Q) ∧ (Region.wanted o (yielded ops a.tmps) = false → next (a.put o.dst undef) w) := by
  have go : ∀ st', st' = st → goO P env fz G.N o st' K = some res → o.wp P a w next Q := by
    intro st' e hg
    subst e
    obtain ⟨hd, F, Bs, h⟩ := hs
    unfold goO at hg
    exact opF_all henv hd h hg (fun r hr => (bif_some hr).1) next Q fun r a' w' hr hs => hn r a' w' (bif_some hr).2 hs
  have sk : ∀ st', st' = st → skO G.N o st' K = some res → next (a.put o.dst undef) w := by
    intro st' e hg
    subst e
    unfold skO at hg
    obtain ⟨h1, h2⟩ := bif_some hg
    exact hn _ _ _ h2 (skip_lay hs h1)
  unfold operO at hk
  split at hk
  · rename_i hg
    have hw : Region.wanted o (yielded ops a.tmps) = true := by simp [Region.wanted, hg]
    exact ⟨fun _ => go st rfl hk, fun h => absurd (hw.symm.trans h) (by simp)⟩
  · rename_i j want hg
    split at hk
    · cases hk
    · rename_i d hd'
      split at hk
      · cases hk
      · have hdst : (ops[j]?).bind (·.dst) = some d := by rw [← Array.getElem?_toList]; exact hd'
        obtain ⟨hd, F, Bs, h⟩ := hs
        have hsl := h.sl d
        split at hk
        · rename_i t hfr
          rw [hfr] at hsl
          have hv : a.tmps.getD d undef = .bool t := by
            generalize a.tmps.getD d undef = c at hsl
            generalize Bs d = B at hsl
            cases hsl with | p h => exact RP_v h
          have hy : yielded ops a.tmps j = some t := by
            unfold yielded
            rw [hdst]
            simp only [Option.bind_some]
            cases hq : a.tmps[d]? with
            | none => rw [Array.getD_eq_getD_getElem?, hq] at hv; simp [undef] at hv
            | some c => rw [Array.getD_eq_getD_getElem?, hq] at hv; simp at hv; rw [hv]
          have hw : Region.wanted o (yielded ops a.tmps) = (t == want) := by
            simp only [Region.wanted, hg, hy]
            cases t <;> cases want <;> rfl
          rw [hw]
          have hsb := setB_same hfr
          cases t <;> cases want <;> simp only [cond_true, cond_false] at hk <;>
            first
            | exact ⟨fun _ => go _ hsb hk, fun h => by simp at h⟩
            | exact ⟨fun h => by simp at h, fun _ => sk _ hsb hk⟩
        · rename_i l hfr
          rw [hfr] at hsl
          have hv : a.tmps.getD d undef = .tuple l := by
            generalize a.tmps.getD d undef = c at hsl
            generalize Bs d = B at hsl
            cases hsl with | p h => exact RP_v h
          have hy : yielded ops a.tmps j = none := by
            unfold yielded
            rw [hdst]
            simp only [Option.bind_some]
            cases hq : a.tmps[d]? with
            | none => rfl
            | some c => rw [Array.getD_eq_getD_getElem?, hq] at hv; simp at hv; rw [hv]
          have hw : Region.wanted o (yielded ops a.tmps) = false := by
            simp [Region.wanted, hg, hy]
          exact ⟨fun h => absurd (hw.symm.trans h) (by simp), fun _ => sk st rfl hk⟩
        · cases hk
theorem opsE_ok {env : Env} (henv : EnvOK P env) {fz : List Nat} {ops : Array Oper} {Q : Exit → Act → World → Prop} {K : St → Option R}
    (hQ : ∀ st' a' w', K st' = some res → SRel P G st' a' w' → Q .normal a' w') : ∀ (l : List Oper) (i : Nat) {st : St} {a : Act} {w : World}, ops.toList.drop i = l → SRel P G st a w →
    opsE P env fz G.N ops.toList l st K = some res → wpOps P ops Q (List.range' i l.length) a w
  | [], i, st, a, w, hl, hs, hk => hQ st a w hk hs
  | o :: l, i, st, a, w, hl, hs, hk => by
    have ho : ops[i]? = some o := by
      rw [← Array.getElem?_toList]
      have := congrArg (·[0]?) hl
      simpa using this
    have hl' : ops.toList.drop (i + 1) = l := by
      have := congrArg List.tail hl
      simpa using this
    simp only [opsE] at hk
    rw [List.length_cons, List.range'_succ, wpOps_cons]
    unfold wpOp
    rw [ho]
    simp only []
    obtain ⟨h1, h2⟩ := operO_ok henv hs hk (next := wpOps P ops Q (List.range' (i + 1) l.length)) (Q := Q) fun r a' w' hr hs' => opsE_ok henv hQ l (i + 1) hl' hs' hr
    cases hw : Region.wanted o (yielded ops a.tmps) with
    | true => simp only [if_true]; exact .inl (h1 hw)
    | false => simp only [Bool.false_eq_true, if_false]; exact h2 hw
theorem SRel.noRal (h : SRel P G st a w) : SRel P G ⟨st.fr, []⟩ a w := by
  obtain ⟨hd, F, Bs, h⟩ := h
  exact ⟨hd, F, Bs, ⟨h.sz, h.sl, h.nd, h.dj, h.nf, h.nw, h.lt, h.fl, h.f0, h.fn, h.kb, by simp, h.pn⟩⟩
theorem SRel.drawn {n : Nat} (h : SRel P G st a w) : SRel P G st a { w with drawn := n } := by
  obtain ⟨hd, F, Bs, h⟩ := h
  refine ⟨hd, F, Bs, ⟨h.sz, fun i => (h.sl i).mono (fun _ q => q) fun _ _ => rfl, h.nd, h.dj, h.nf, h.nw, h.lt, h.fl, h.f0, h.fn, ⟨h.kb.os, h.kb.tape, h.kb.output, h.kb.size, h.kb.block⟩, h.rf, h.pn⟩⟩
theorem region_ok {env : Env} (henv : EnvOK P env) {fz : List Nat} {id : Nat} {ops : Array Oper} {Q : Exit → Act → World → Prop} {K : Fr → Option R} {fr : Fr}
    (hQ : ∀ fr' a' w', K fr' = some res → SRel P G ⟨fr', []⟩ a' w' → Q .normal a' w') (hs : SRel P G ⟨fr, []⟩ a w)
    (hk : regE P env fz G.N ops.toList false fr K = some res) : (Code.region id ops false).wp P Q a w := by
  simp only [regE, cond_false] at hk
  refine wp_region ?_
  rw [List.range_eq_range']
  exact opsE_ok henv (fun st' a' w' h1 h2 => hQ _ _ _ h1 h2.noRal) ops.toList 0 rfl hs hk
inductive Turned (P : Program) : SV → SV → Prop
  | dead (x : SV) : Turned P x .dead
  | same (x : SV) : Turned P x x
  | own {T : TypeId} : hasZero P T = true → posT P T = true → Turned P .nl (.own T [])
  | nil : Turned P .nl (.p (.sh []))
  | frz (T : TypeId) (es : List PV) : Turned P (.own T es) (.p (.sh es))
theorem zero_own {F : Nat → Prop} {w : World} {T : TypeId} (h : hasZero P T = true) (hpos : posT P T = true) : RS P F w (.own T []) (.slice none 0 0) [] := by
  unfold hasZero at h
  split at h
  · rename_i zs hz
    obtain ⟨i, z, e1, e2, e3, _⟩ := zeroT_eq hz
    have hp : 0 < i.size := by simpa [posT, sizeT, e1] using hpos
    exact .own (c := .slice none 0 0) (xs := []) e1 e2 e3 hp (World.ownsRow_nil w 0 T i.size) .nil (by simp)
  · cases h
theorem Rel.coes (h : Rel P G F Bs st tm w) {fr' : Fr} (ht : ∀ j, Turned P (st.fr j) (fr' j)) : ∃ F' Bs', Rel P G F' Bs' ⟨fr', []⟩ tm w := by
  let F' : Nat → Prop := fun b => F b ∨ ∃ j T es, st.fr j = .own T es ∧ fr' j = .p (.sh es) ∧ b ∈ Bs j
  have hF : ∀ b, F b → F' b := fun b q => .inl q
  have each : ∀ j, ∃ B, RS P F' w (fr' j) (tm.getD j undef) B ∧ B.Nodup ∧ (∀ b ∈ B, b ∈ Bs j ∧ ¬ F' b) := by
    intro j
    have hj := ht j
    have hsl := h.sl j
    generalize hx : st.fr j = x at hj hsl
    generalize hy : fr' j = y at hj
    cases hj with
    | dead => exact ⟨[], .dead _, by simp, by simp⟩
    | same =>
      by_cases hfz : ∃ T es, x = .own T es ∧ x = .p (.sh es)
      · obtain ⟨T, es, e1, e2⟩ := hfz; rw [e1] at e2; cases e2
      · refine ⟨Bs j, hsl.mono hF fun _ _ => rfl, h.nd j, fun b hb => ⟨hb, fun q => ?_⟩⟩
        rcases q with q | ⟨j', T, es, e1, e2, e3⟩
        · exact h.nf j b hb q
        · by_cases e : j = j'
          · subst e; exact hfz ⟨T, es, hx.symm.trans e1, hy.symm.trans e2⟩
          · exact h.dj j j' b e hb e3
    | own h1 h2 =>
      have hc : tm.getD j undef = .slice none 0 0 := by
        generalize tm.getD j undef = c at hsl
        generalize Bs j = B at hsl
        cases hsl; rfl
      exact ⟨[], by rw [hc]; exact zero_own h1 h2, by simp, by simp⟩
    | nil =>
      have hc : tm.getD j undef = .slice none 0 0 := by
        generalize tm.getD j undef = c at hsl
        generalize Bs j = B at hsl
        cases hsl; rfl
      exact ⟨[], by rw [hc]; exact .p (RP_nil _ _), by simp, by simp⟩
    | frz T es =>
      obtain ⟨h1, h2⟩ := h.own_inv hx
      exact ⟨[], .p (h1.frozen hF fun b hb => .inr ⟨j, T, es, hx, hy, by rw [h2]; exact hb⟩), by simp, by simp⟩
  obtain ⟨Bs', hB⟩ := Classical.axiomOfChoice each
  refine ⟨F', Bs', ⟨h.sz, fun i => (hB i).1, fun i => (hB i).2.1, fun i j b hij hb hb' => h.dj i j b hij ((hB i).2.2 b hb).1 ((hB j).2.2 b hb').1, fun i b hb => ((hB i).2.2 b hb).2,
    fun i b hb => h.nw i b ((hB i).2.2 b hb).1, fun i b hb => h.lt i b ((hB i).2.2 b hb).1, fun b hb => ?_, fun b hb => .inl (h.f0 b hb), fun b hb => ?_, h.kb, by simp, h.pn⟩⟩
  · rcases hb with q | ⟨j, T, es, e1, e2, e3⟩
    · exact h.fl b q
    · exact h.lt j b e3
  · rcases hb with q | ⟨j, T, es, e1, e2, e3⟩
    · exact h.fn b q
    · exact .inr (h.nw j b e3)
def coOK (P : Program) : Co → Bool
  | .own T => hasZero P T && posT P T
  | _ => true
def lvOK (P : Program) : Lv → Bool
  | [] => true
  | (_, c) :: l => coOK P c && lvOK P l
theorem coe_turned {c : Co} (h : coOK P c = true) (x : SV) : Turned P x (coe c x) := by
  cases c with
  | id => exact .same x
  | own T =>
    simp only [coOK, Bool.and_eq_true] at h
    cases x with
    | nl => exact .own h.1 h.2
    | _ => exact .same _
  | sh =>
    cases x with
    | nl => exact .nil
    | own T es => exact .frz T es
    | _ => exact .same _
theorem lk_turned : ∀ {l : Lv}, lvOK P l = true → ∀ (fr : Fr) (j : Nat), Turned P (fr j) (lk l (snap l fr) j)
  | [], _, fr, j => .dead _
  | (s, c) :: l, h, fr, j => by
    simp only [lvOK, Bool.and_eq_true] at h
    simp only [snap, lk]
    cases hj : Nat.beq j s with
    | true => rw [eqB hj, cond_true]; exact coe_turned h.1 _
    | false => rw [cond_false]; exact lk_turned h.2 fr j
theorem SRel.lk (h : SRel P G st a w) {l : Lv} (hl : lvOK P l = true) : SRel P G ⟨lk l (snap l st.fr), []⟩ a w := by
  obtain ⟨hd, F, Bs, h⟩ := h
  obtain ⟨F', Bs', h'⟩ := h.coes (lk_turned hl st.fr)
  exact ⟨hd, F', Bs', h'⟩
def annsOK (P : Program) : List (Nat × Lv × Lv) → Bool
  | [] => true
  | (_, l, o) :: r => lvOK P l && lvOK P o && annsOK P r
theorem annOf_ok {l : List (Nat × Lv × Lv)} (h : annsOK P l = true) {c : Code} {live out : Lv} (ha : annOf l c = some (live, out)) : lvOK P live = true ∧ lvOK P out = true := by
  unfold annOf at ha
  split at ha
  · rename_i i hi
    clear hi
    induction l with
    | nil => simp [findA] at ha
    | cons x l ih =>
      obtain ⟨k, x1, x2⟩ := x
      simp only [annsOK, Bool.and_eq_true] at h
      simp only [findA] at ha
      cases hk : Nat.beq k i with
      | true =>
        rw [hk] at ha
        simp only [cond_true, Option.some.injEq, Prod.mk.injEq] at ha
        rw [← ha.1, ← ha.2]; exact h.1
      | false => rw [hk] at ha; exact ih h.2 ha
  · cases ha
def exOf : Ex → Exit
  | .normal => .normal
  | .exit i => .exit i
  | .ret => .ret
def CodeOK (P : Program) (G : Gd) (f : Fr → Kc R → Option R) (c : Code) : Prop :=
  ∀ {fr : Fr} {K : Kc R} {res : R} {a : Act} {w : World}, f fr K = some res → SRel P G ⟨fr, []⟩ a w → ∀ {Q : Exit → Act → World → Prop},
    (∀ e fr' a' w', K e fr' = some res → SRel P G ⟨fr', []⟩ a' w' → Q (exOf e) a' w') → c.wp P Q a w
theorem loop_ok {f : Fr → Kc R → Option R} {c : Code} {live out : Lv} (hf : CodeOK P G f c) (hl : lvOK P live = true) (ho : lvOK P out = true) :
    ∀ (n : Nat) {vs : List SV} {K : Kc R} {res : R} {a : Act} {w : World}, evLoop f live out n vs K = some res → SRel P G ⟨lk live vs, []⟩ a w → ∀ {Q : Exit → Act → World → Prop},
      (∀ e fr' a' w', K e fr' = some res → SRel P G ⟨fr', []⟩ a' w' → Q (exOf e) a' w') → Code.rounds P c Q n a w
  | 0, vs, K, res, a, w, hk, hs, Q, hQ => by cases hk
  | n + 1, vs, K, res, a, w, hk, hs, Q, hQ => by
    simp only [evLoop] at hk
    rw [rounds_succ]
    refine hf hk hs fun e fr' a' w' hk' hs' => ?_
    cases e with
    | normal => exact loop_ok hf hl ho n hk' (hs'.lk hl) hQ
    | exit i => exact hQ (.exit i) _ a' w' hk' (hs'.lk ho)
    | ret => exact hQ .ret _ a' w' hk' (hs'.lk ho)
theorem cut_ok {f : Fr → Kc R → Option R} {c : Code} {live out : Lv} (hf : CodeOK P G f c) (hl : lvOK P live = true) (ho : lvOK P out = true) {fr : Fr} {K : Kc R} {res : R} {a : Act} {w : World}
    (hk : evCut f live out (snap live fr) K = some res) (hs : SRel P G ⟨fr, []⟩ a w) {Q : Exit → Act → World → Prop}
    (hQ : ∀ e fr' a' w', K e fr' = some res → SRel P G ⟨fr', []⟩ a' w' → Q (exOf e) a' w') : c.wp P Q a w := by
  simp only [evCut] at hk
  exact hf hk (hs.lk hl) fun e fr' a' w' hk' hs' => hQ e _ a' w' hk' (hs'.lk ho)
end
end Go.Proofs.Ytlplpkbhjddmeaa.Th


set_option linter.unusedVariables false
set_option linter.unusedSimpArgs false
namespace Go.Proofs.Ytlplpkbhjddmeaa.Th
open Go
variable {R : Type} {res : R}
section
variable {P : Program} {G : Gd} {F : Nat → Prop} {Bs : Nat → List Nat} {st : St} {a : Act} {tm : Array Value} {w : World}
theorem evC_ok {env : Env} (henv : EnvOK P env) {ann : Ann} (hl : annsOK P ann.loops = true) (hc : annsOK P ann.cuts = true) (n : Nat) :
    ∀ c : Code, CodeOK (R := R) P G (evC P env ann n G.N c) c := by
  intro c
  induction c with
  | skip => intro fr K res a w hk hs Q hQ; exact wp_skip (hQ .normal fr a w hk hs)
  | exit i => intro fr K res a w hk hs Q hQ; exact wp_exit (hQ (.exit i) fr a w hk hs)
  | ret => intro fr K res a w hk hs Q hQ; exact wp_ret (hQ .ret fr a w hk hs)
  | region id ops draw =>
    intro fr K res a w hk hs Q hQ
    simp only [evC] at hk
    cases draw with
    | true => simp [regE] at hk
    | false => exact region_ok henv (fun fr' a' w' h1 h2 => hQ .normal fr' a' w' h1 h2) hs hk
  | seq x y ihx ihy =>
    intro fr K res a w hk hs Q hQ
    simp only [evC] at hk
    refine wp_seq (ihx hk hs fun e fr' a' w' hk' hs' => ?_)
    cases e with
    | normal =>
      show y.wp P Q a' w'
      simp only [] at hk'
      split at hk'
      · rename_i live out ha
        obtain ⟨o1, o2⟩ := annOf_ok hc ha
        exact cut_ok ihy o1 o2 hk' hs' hQ
      · exact ihy hk' hs' hQ
    | exit i => exact hQ (.exit i) fr' a' w' hk' hs'
    | ret => exact hQ .ret fr' a' w' hk' hs'
  | cond cnd x y ihx ihy =>
    intro fr K res a w hk hs Q hQ
    simp only [evC] at hk
    split at hk
    · rename_i t ht
      obtain ⟨hd, F, Bs, h⟩ := hs
      have hr := opd_rel h cnd
      rw [ht] at hr
      refine wp_cond (t := t) (RP_v hr) ?_
      cases t with
      | true => exact ihx hk ⟨hd, F, Bs, h⟩ hQ
      | false => exact ihy hk ⟨hd, F, Bs, h⟩ hQ
    · cases hk
  | block id x ih =>
    intro fr K res a w hk hs Q hQ
    simp only [evC] at hk
    refine wp_block (ih hk hs fun e fr' a' w' hk' hs' => ?_)
    cases e with
    | normal => exact hQ .normal fr' a' w' hk' hs'
    | ret => exact hQ .ret fr' a' w' hk' hs'
    | exit i =>
      simp only [exOf, Exit.inBlock]
      simp only [] at hk'
      cases hi : Nat.beq i id with
      | true => rw [hi] at hk'; rw [if_pos (eqB hi)]; exact hQ .normal fr' a' w' hk' hs'
      | false => rw [hi] at hk'; rw [if_neg (neB hi)]; exact hQ (.exit i) fr' a' w' hk' hs'
  | loop x ih =>
    intro fr K res a w hk hs Q hQ
    simp only [evC] at hk
    split at hk
    · rename_i live out ha
      obtain ⟨o1, o2⟩ := annOf_ok hl ha
      exact wp_loop_rounds n (loop_ok ih o1 o2 n hk (hs.lk o1) hQ)
    · cases hk
  | _ => intro fr K res a w hk; simp only [evC, reduceCtorEq] at hk
theorem RSs.getD {l : List SV} {cs : List Value} {B : List Nat} (h : RSs P F w l cs B) :
    ∃ Bs : Nat → List Nat, (∀ j, RS P F w (l.getD j .dead) (cs.getD j undef) (Bs j)) ∧ (∀ j b, b ∈ Bs j → b ∈ B) ∧ (B.Nodup → (∀ j, (Bs j).Nodup) ∧ ∀ i j b, i ≠ j → b ∈ Bs i → b ∉ Bs j) := by
  induction l generalizing cs B with
  | nil =>
    cases h
    exact ⟨fun _ => [], fun j => by simpa using RS.dead _, by simp, fun _ => ⟨by simp, by simp⟩⟩
  | cons x l ih =>
    cases h with
    | cons h1 h2 =>
      rename_i c cs B1 B2
      obtain ⟨Bs, q1, q2, q3⟩ := ih h2
      refine ⟨fun j => match j with | 0 => B1 | j + 1 => Bs j, fun j => ?_, fun j b hb => ?_, fun hn => ?_⟩
      · cases j with
        | zero => simpa using h1
        | succ j => simpa using q1 j
      · cases j with
        | zero => exact List.mem_append_left _ hb
        | succ j => exact List.mem_append_right _ (q2 j b hb)
      · rw [List.nodup_append] at hn
        obtain ⟨n1, n2, n3⟩ := hn
        obtain ⟨r1, r2⟩ := q3 n2
        refine ⟨fun j => by cases j with | zero => exact n1 | succ j => exact r1 j, fun i j b hij hb hb' => ?_⟩
        cases i with
        | zero =>
          cases j with
          | zero => exact hij rfl
          | succ j => exact n3 b hb b (q2 j b hb') rfl
        | succ i =>
          cases j with
          | zero => exact n3 b hb' b (q2 i b hb) rfl
          | succ j => exact r2 i j b (fun e => hij (by rw [e])) hb hb'
theorem start {fn : Func} {args : List SV} {cargs : Array Value} {B : List Nat} (ha : RSs P F w args cargs.toList B) (hn : B.Nodup) (hB : ∀ b ∈ B, ¬ F b ∧ b < w.heap.size) (hF : ∀ b, F b → b < w.heap.size)
    (hl : args.length ≤ fn.ntmps) (ix : List Nat) : SRel P ⟨w, (· ∈ B), F, (fn.ntmps, ix), fun j => cargs.toList.getD j undef⟩ ⟨argFr args, []⟩ { tmps := cargs ++ Array.replicate (fn.ntmps - cargs.size) undef, defers := [] } w := by
  obtain ⟨Bs, q1, q2, q3⟩ := ha.getD
  obtain ⟨r1, r2⟩ := q3 hn
  have hlen := ha.length
  have hv : ∀ j, (cargs ++ Array.replicate (fn.ntmps - cargs.size) undef).getD j undef = cargs.toList.getD j undef := by
    intro j
    rw [Array.getD_eq_getD_getElem?, List.getD_eq_getElem?_getD, Array.getElem?_toList, Array.getElem?_append]
    split
    · rfl
    · rename_i hj
      rw [Array.getElem?_replicate, Array.getElem?_eq_none (Nat.le_of_not_lt hj)]
      split <;> rfl
  refine ⟨rfl, F, Bs, ⟨?_, fun i => by rw [hv]; exact q1 i, r1, r2, fun i b hb => (hB b (q2 i b hb)).1, fun i b hb => .inr (q2 i b hb), fun i b hb => (hB b (q2 i b hb)).2, hF, fun _ q => q, fun _ q => .inl q,
    ⟨rfl, rfl, rfl, Nat.le_refl _, fun _ _ _ => rfl⟩, by simp, fun i _ => hv i⟩⟩
  simp only [Array.size_append, Array.size_replicate]
  simp only [Array.length_toList] at hlen
  omega
end
end Go.Proofs.Ytlplpkbhjddmeaa.Th


set_option linter.unusedVariables false
set_option linter.unusedSimpArgs false
namespace Go.Proofs.Ytlplpkbhjddmeaa.Th
open Go
variable {R : Type} {res : R}
def mixL : List Co → List ResultVar → Fr → Fr
  | cs, .tmp t :: r, fr => fun j => bif Nat.beq j t then coe (cs.headD .sh) (fr j) else mixL cs.tail r fr j
  | cs, .cell _ _ :: r, fr => mixL cs.tail r fr
  | _, [], fr => fr
def cosOK (P : Program) : List Co → Bool
  | [] => true
  | c :: l => coOK P c && cosOK P l
section
variable {P : Program} {G : Gd} {F : Nat → Prop} {Bs : Nat → List Nat} {st : St} {a : Act} {tm : Array Value} {w : World}
theorem mix_turned : ∀ (l : List ResultVar) (cs : List Co), cosOK P cs = true → ∀ (fr : Fr) (j : Nat), Turned P (fr j) (mixL cs l fr j)
  | [], cs, _, fr, j => .same _
  | .tmp t :: l, cs, h, fr, j => by
    have h1 : coOK P (cs.headD .sh) = true := by
      cases cs with
      | nil => rfl
      | cons c cs => simp only [cosOK, Bool.and_eq_true] at h; exact h.1
    have h2 : cosOK P cs.tail = true := by
      cases cs with
      | nil => rfl
      | cons c cs => simp only [cosOK, Bool.and_eq_true] at h; exact h.2
    simp only [mixL]
    cases Nat.beq j t with
    | true => exact coe_turned h1 _
    | false => exact mix_turned l cs.tail h2 fr j
  | .cell _ _ :: l, cs, h, fr, j => by
    have h2 : cosOK P cs.tail = true := by
      cases cs with
      | nil => rfl
      | cons c cs => simp only [cosOK, Bool.and_eq_true] at h; exact h.2
    exact mix_turned l cs.tail h2 fr j
theorem mix_other : ∀ (l : List ResultVar) (cs : List Co) (fr : Fr) (j : Nat), j ∉ resTmps l → mixL cs l fr j = fr j
  | [], cs, fr, j, _ => rfl
  | .tmp t :: l, cs, fr, j, h => by
    simp only [resTmps, List.mem_cons, not_or] at h
    simp only [mixL, beqF h.1, cond_false]
    exact mix_other l cs.tail fr j h.2
  | .cell t T :: l, cs, fr, j, h => by
    simp only [resTmps, List.mem_cons, not_or] at h
    exact mix_other l cs.tail fr j h.2
theorem res_mix : ∀ (l : List ResultVar) (cs : List Co) {fr : Fr} {ys : List SV}, resL P fr cs l = some ys → (resTmps l).Nodup → ys = (resTmps l).map (mixL cs l fr) ∧ l = (resTmps l).map .tmp
  | [], cs, fr, ys, h, _ => by simp only [resL, Option.some.injEq] at h; subst h; exact ⟨rfl, rfl⟩
  | .cell t T :: l, cs, fr, ys, h, _ => by simp only [resL, resOf, reduceCtorEq] at h
  | .tmp t :: l, cs, fr, ys, h, hn => by
    simp only [resTmps, List.nodup_cons] at hn
    simp only [resL] at h
    cases hy : resOf P (cs.headD .sh) fr (.tmp t) with
    | none => simp only [hy, reduceCtorEq] at h
    | some y =>
      cases hr : resL P fr cs.tail l with
      | none => simp only [hy, hr, reduceCtorEq] at h
      | some ys' =>
        simp only [hy, hr, Option.some.injEq] at h
        subst h
        obtain ⟨e1, e2⟩ := res_mix l cs.tail hr hn.2
        have hyt : y = coe (cs.headD .sh) (fr t) := by
          simp only [resOf] at hy
          split at hy <;> first | (rename_i e; rw [e]; simpa using hy.symm) | cases hy
        refine ⟨?_, by simp only [resTmps, List.map_cons, ← e2]⟩
        simp only [resTmps, List.map_cons, List.cons.injEq]
        refine ⟨by simp only [mixL, beqT, cond_true]; exact hyt, ?_⟩
        rw [e1]
        refine List.map_congr_left fun j hj => ?_
        have hne : j ≠ t := fun e => by subst e; exact hn.1 hj
        simp only [mixL, beqF hne, cond_false]
theorem backs_eq : ∀ (l : List Nat) {fr : Fr} {ys : List SV}, backs fr l = some ys → ys = l.map fr
  | [], fr, ys, h => by simp only [backs, Option.some.injEq] at h; subst h; rfl
  | i :: l, fr, ys, h => by
    simp only [backs] at h
    split at h
    · rename_i T cs l' e1 e2
      simp only [Option.some.injEq] at h
      subst h
      rw [List.map_cons, backs_eq l e2, e1]
    · rename_i T e bs l' e1 e2
      simp only [Option.some.injEq] at h
      subst h
      rw [List.map_cons, backs_eq l e2, e1]
    · cases h
theorem slots_rel (h : Rel P G F Bs st tm w) : ∀ (l : List Nat), l.Nodup → ∃ B, RSs P F w (l.map st.fr) (l.map fun i => tm.getD i undef) B ∧ B.Nodup ∧ (∀ b ∈ B, ∃ i, i ∈ l ∧ b ∈ Bs i)
  | [], _ => ⟨[], .nil, by simp, by simp⟩
  | i :: l, hn => by
    rw [List.nodup_cons] at hn
    obtain ⟨B, h1, h2, h3⟩ := slots_rel h l hn.2
    refine ⟨Bs i ++ B, .cons (h.sl i) h1, List.nodup_append.2 ⟨h.nd i, h2, fun x hx y hy e => ?_⟩, fun b hb => ?_⟩
    · subst e
      obtain ⟨j, q1, q2⟩ := h3 x hy
      exact h.dj i j x (fun e => hn.1 (e ▸ q1)) hx q2
    · rcases List.mem_append.1 hb with q | q
      · exact ⟨i, by simp, q⟩
      · obtain ⟨j, q1, q2⟩ := h3 b q
        exact ⟨j, by simp [q1], q2⟩
theorem backIx_bxv : ∀ (args : List SV) (k : Nat) (pre cs : List Value), pre.length = k → args.length = cs.length → (backIx k args).map (fun j => (pre ++ cs).getD j undef) = bxv args cs
  | [], k, pre, cs, hp, hl => by
    cases cs with
    | nil => rfl
    | cons c cs => simp at hl
  | x :: args, k, pre, cs, hp, hl => by
    cases cs with
    | nil => simp at hl
    | cons c cs =>
      have ih := backIx_bxv args (k + 1) (pre ++ [c]) cs (by simp [hp]) (by simpa using hl)
      rw [List.append_assoc, List.singleton_append] at ih
      have hk : (pre ++ c :: cs).getD k undef = c := by rw [List.getD_eq_getElem?_getD, List.getElem?_append_right (by omega), hp]; simp
      cases x <;> first | exact ih | (simp only [backIx, bxv, List.map_cons, hk, ih])
theorem run_results {fn : Func} {ts : List Nat} (h : fn.results.toList = ts.map .tmp) (hl : ts.length ≤ 4) (tmps : Array Value) : (results fn tmps).run P w = .ok (tupV (ts.map fun t => tmps.getD t undef)) w := by
  have hr : fn.results = (ts.map ResultVar.tmp).toArray := by rw [← h]
  match ts, hl with
  | [], _ => simp [results, hr, tupV]
  | [t], _ => simp [results, hr, tupV]
  | [t, u], _ => simp [results, hr, tupV]
  | [t, u, v], _ => simp [results, hr, tupV]
  | [t, u, v, x], _ => simp [results, hr, tupV]
  | _ :: _ :: _ :: _ :: _ :: _, h => simp at h
theorem fin_ok {ann : Ann} (hrm : cosOK P ann.rm = true) {fn : Func} {args : List SV} {cargs : Array Value} {B : List Nat} {W : World} {fr : Fr} {K : List SV → Option R} (hlen : args.length = cargs.toList.length)
    (hBl : ∀ b ∈ B, b < W.heap.size)
    (hs : SRel P ⟨W, (· ∈ B), F, (fn.ntmps, backIx 0 args), fun j => cargs.toList.getD j undef⟩ ⟨fr, []⟩ a w) (hk : finK P ann fn args fr K = some res) :
    a.defers = [] ∧ ∃ v, (results fn a.tmps).run P w = .ok v w ∧ ∃ rs, K rs = some res ∧ Back P F W args cargs.toList B rs v w := by
  obtain ⟨hd, F', Bs', h⟩ := hs
  refine ⟨hd, ?_⟩
  unfold finK at hk
  split at hk
  · rename_i rs bs hrs hbs
    obtain ⟨hc, hk⟩ := bif_some hk
    simp only [Bool.and_eq_true] at hc
    have hn := distinct_nodup.1 hc.1
    have hn1 := (List.nodup_append.1 hn).1
    have hn3 := (List.nodup_append.1 hn).2.2
    obtain ⟨e1, e2⟩ := res_mix _ _ hrs hn1
    have e3 := backs_eq _ hbs
    obtain ⟨F2, Bs2, h2⟩ := h.coes (fr' := mixL ann.rm fn.results.toList fr) (mix_turned _ _ hrm fr)
    obtain ⟨Br, s1, s2, s3⟩ := slots_rel h2 _ hn
    have e4 : (backIx 0 args).map (mixL ann.rm fn.results.toList fr) = bs := by
      rw [e3]
      exact List.map_congr_left fun j hj => mix_other _ _ _ _ fun q => hn3 j q j hj rfl
    have e5 : (backIx 0 args).map (fun i => a.tmps.getD i undef) = bxv args cargs.toList := by
      rw [← backIx_bxv args 0 [] cargs.toList rfl hlen]
      exact List.map_congr_left fun j hj => h.pn j hj
    rw [List.map_append, List.map_append, ← e1, e4, e5] at s1
    refine ⟨_, run_results e2 (by have := bl_le hc.2; rw [e1] at this; simpa using this) a.tmps, _, hk, F2, Br, rs, bs, (resTmps fn.results.toList).map (fun t => a.tmps.getD t undef), rfl, by rw [e1]; simp, rfl, s1, s2,
      fun b hb => ?_, fun b hb => h2.f0 b hb, fun b hb => h2.fn b hb, h2.fl, h2.kb⟩
    obtain ⟨i, q1, q2⟩ := s3 b hb
    exact ⟨h2.nf i b q2, h2.lt i b q2, h2.nw i b q2⟩
  · cases hk
def annOK (P : Program) (ann : Ann) : Bool := annsOK P ann.loops && annsOK P ann.cuts && cosOK P ann.rm
theorem EnvOK.nil : EnvOK P (fun _ => none) := fun g fs h => by cases h
theorem EnvOK.cons {env : Env} {g : Nat} {fs : FS} (h : EnvOK P env) (hf : FSound P g fs) : EnvOK P (fun i => bif Nat.beq i g then some fs else env i) := by
  intro i fs' hi
  replace hi : (bif Nat.beq i g then some fs else env i) = some fs' := hi
  cases hb : Nat.beq i g with
  | true =>
    rw [hb] at hi
    simp only [cond_true, Option.some.injEq] at hi
    rw [eqB hb, ← hi]; exact hf
  | false => rw [hb] at hi; exact h i fs' hi
theorem evFn_ok {env : Env} (henv : EnvOK P env) {ann : Ann} (hann : annOK P ann = true) {n : Nat} {fn : Func} {g : Nat} (hg : P.funcs[g]? = some fn) (hnm : (fn.name == "runtime.NumGoroutine") = false)
    {args : List SV} {K : List SV → Option R} (hk : evFn P env ann n fn args K = some res)
    (F : Nat → Prop) (W : World) (cargs : Array Value) (B : List Nat) (ha : RSs P F W args cargs.toList B) (hn : B.Nodup) (hB : ∀ b ∈ B, ¬ F b ∧ b < W.heap.size) (hF : ∀ b, F b → b < W.heap.size) :
    Calls P g cargs W fun | .returned v, w' => ∃ rs, K rs = some res ∧ Back P F W args cargs.toList B rs v w' | _, _ => False := by
  simp only [annOK, Bool.and_eq_true] at hann
  unfold evFn at hk
  split at hk
  · rename_i c hc
    obtain ⟨hl, hk⟩ := bif_some hk
    refine calls_of_wp hg hc (evC_ok (G := ⟨W, (· ∈ B), F, (fn.ntmps, backIx 0 args), fun j => cargs.toList.getD j undef⟩) henv hann.1.1 hann.1.2 n c hk (start ha hn hB hF (bl_le hl) _) fun e fr' a' w' hk' hs' => ?_)
    cases e with
    | exit i => cases hk'
    | normal =>
      obtain ⟨h1, v, h2, h3⟩ := fin_ok hann.2 ha.length (fun b hb => (hB b hb).2) hs' hk'
      exact ⟨h1, v, h2, h3⟩
    | ret =>
      obtain ⟨h1, v, h2, h3⟩ := fin_ok hann.2 ha.length (fun b hb => (hB b hb).2) hs' hk'
      exact ⟨h1, v, h2, h3⟩
  · cases hk
theorem FSound.of {env : Env} (henv : EnvOK P env) {ann : Ann} (hann : annOK P ann = true) {n : Nat} {fn : Func} {g : Nat} (hg : P.funcs[g]? = some fn) (hb : fn.body.isNone = false) (hnm : (fn.name == "runtime.NumGoroutine") = false)
    {fs : FS} (hf : ∀ {R : Type} {args : List SV} {K : List SV → Option R} {res : R}, fs.run args K = some res → evFn P env ann n fn args K = some res) : FSound P g fs :=
  ⟨⟨fn, hg, hb, hnm⟩, fun hk F W cargs B ha hn hB hF => evFn_ok henv hann hg hnm (hf hk) F W cargs B ha hn hB hF⟩
end
end Go.Proofs.Ytlplpkbhjddmeaa.Th


set_option linter.unusedVariables false
set_option linter.unusedSimpArgs false
namespace Go.Proofs.Ytlplpkbhjddmeaa.Th
open Go
variable {R : Type}
def liveA (l : List (Nat × Lv × Lv)) (i : Nat) : Lv := ((findA l i).getD ([], [])).1
def outA (l : List (Nat × Lv × Lv)) (i : Nat) : Lv := ((findA l i).getD ([], [])).2
def isA (l : List (Nat × Lv × Lv)) (i : Nat) : Bool :=
  match findA l i with
  | some _ => true
  | none => false
abbrev Orc (R : Type) := Nat → List SV → Kc R → Option R
def evO (P : Program) (env : Env) (ann : Ann) (N : Nat × List Nat) (lo cu : Orc R) : Code → Fr → Kc R → Option R
  | .skip, fr, K => K .normal fr
  | .region _ ops draw, fr, K => regE P env ann.frz N ops.toList draw fr fun fr' => K .normal fr'
  | .seq a b, fr, K => evO P env ann N lo cu a fr fun e fr' => match e with
    | .normal => (match firstId b with
        | some i => bif isA ann.cuts i then cu i (snap (liveA ann.cuts i) fr') K else evO P env ann N lo cu b fr' K
        | none => evO P env ann N lo cu b fr' K)
    | .exit i => K (.exit i) fr'
    | .ret => K .ret fr'
  | .cond c a b, fr, K => (match opd ⟨fr, []⟩ c with
    | .pv (.v (.bool t)) => bif t then evO P env ann N lo cu a fr K else evO P env ann N lo cu b fr K
    | _ => none)
  | .block id a, fr, K => evO P env ann N lo cu a fr fun e fr' => match e with
    | .exit i => bif Nat.beq i id then K .normal fr' else K (.exit i) fr'
    | .normal => K .normal fr'
    | .ret => K .ret fr'
  | .loop a, fr, K => (match firstId a with
    | some i => bif isA ann.loops i then lo i (snap (liveA ann.loops i) fr) K else none
    | none => none)
  | .exit i, fr, K => K (.exit i) fr
  | .ret, fr, K => K .ret fr
  | _, _, _ => none
def partsOf (ann : Ann) : Code → List (Bool × Nat × Code)
  | .seq a b => partsOf ann a ++ (match firstId b with
      | some i => bif isA ann.cuts i then [(true, i, b)] else partsOf ann b
      | none => partsOf ann b)
  | .cond _ a b => partsOf ann a ++ partsOf ann b
  | .block _ a => partsOf ann a
  | .loop a => match firstId a with
      | some i => [(false, i, a)]
      | none => []
  | _ => []
def PartOK (P : Program) (env : Env) (ann : Ann) (n : Nat) (N : Nat × List Nat) (lo cu : Orc R) (x : Bool × Nat × Code) : Prop :=
  match x with
  | (true, i, b) => ∀ vs K, evCut (fun f k => evC P env ann n N b f k) (liveA ann.cuts i) (outA ann.cuts i) vs K = cu i vs K
  | (false, i, a) => ∀ vs K, evLoop (fun f k => evC P env ann n N a f k) (liveA ann.loops i) (outA ann.loops i) n vs K = lo i vs K
def allP (p : Bool × Nat × Code → Prop) : List (Bool × Nat × Code) → Prop
  | [] => True
  | x :: l => p x ∧ allP p l
theorem allP_append {p : Bool × Nat × Code → Prop} {a b : List (Bool × Nat × Code)} (h : allP p (a ++ b)) : allP p a ∧ allP p b := by
  induction a with
  | nil => exact ⟨trivial, h⟩
  | cons x a ih => exact ⟨⟨h.1, (ih h.2).1⟩, (ih h.2).2⟩
theorem findA_cases (l : List (Nat × Lv × Lv)) (i : Nat) : (isA l i = true ∧ findA l i = some (liveA l i, outA l i)) ∨ (isA l i = false ∧ findA l i = none) := by
  unfold isA liveA outA
  cases findA l i with
  | none => exact .inr ⟨rfl, rfl⟩
  | some x => exact .inl ⟨rfl, rfl⟩
theorem evC_evO {P : Program} {env : Env} {ann : Ann} {n : Nat} {N : Nat × List Nat} {lo cu : Orc R} : ∀ (c : Code), allP (PartOK P env ann n N lo cu) (partsOf ann c) →
    ∀ fr K, evC P env ann n N c fr K = evO P env ann N lo cu c fr K := by
  intro c
  induction c with
  | seq a b iha ihb =>
    intro h fr K
    simp only [partsOf] at h
    obtain ⟨h1, h2⟩ := allP_append h
    simp only [evC, evO]
    rw [iha h1]
    congr 1
    funext e fr'
    cases e with
    | normal =>
      simp only [annOf]
      cases hi : firstId b with
      | none => rw [hi] at h2; exact ihb h2 fr' K
      | some i =>
        rw [hi] at h2
        simp only [] at h2 ⊢
        rcases findA_cases ann.cuts i with ⟨q1, q2⟩ | ⟨q1, q2⟩
        · rw [q1] at h2 ⊢
          rw [q2]
          exact h2.1 _ _
        · rw [q1] at h2 ⊢
          rw [q2]
          exact ihb h2 fr' K
    | exit i => rfl
    | ret => rfl
  | cond cnd a b iha ihb =>
    intro h fr K
    simp only [partsOf] at h
    obtain ⟨h1, h2⟩ := allP_append h
    simp only [evC, evO, iha h1, ihb h2]
    rfl
  | block id a ih =>
    intro h fr K
    simp only [evC, evO]
    rw [ih h]
    congr 1
  | loop a ih =>
    intro h fr K
    simp only [evC, evO, annOf]
    simp only [partsOf] at h
    cases hi : firstId a with
    | none => rfl
    | some i =>
      rw [hi] at h
      simp only []
      rcases findA_cases ann.loops i with ⟨q1, q2⟩ | ⟨q1, q2⟩
      · rw [q1, q2]; exact h.1 _ _
      · rw [q1, q2]; rfl
  | _ => intro h fr K; rfl
def evFnO (P : Program) (env : Env) (ann : Ann) (lo cu : Orc R) (fn : Func) (args : List SV) (K : List SV → Option R) : Option R :=
  match fn.body with
  | some c => bif Nat.ble args.length fn.ntmps then evO P env ann (fn.ntmps, backIx 0 args) lo cu c (argFr args) fun e fr => match e with
      | .exit _ => none
      | .normal => finK P ann fn args fr K
      | .ret => finK P ann fn args fr K
    else none
  | none => none
theorem evFn_evO {P : Program} {env : Env} {ann : Ann} {n : Nat} {lo cu : Orc R} {fn : Func} {c : Code} (hc : fn.body = some c) {args : List SV} (h : allP (PartOK P env ann n (fn.ntmps, backIx 0 args) lo cu) (partsOf ann c)) (K : List SV → Option R) :
    evFn P env ann n fn args K = evFnO P env ann lo cu fn args K := by
  unfold evFn evFnO
  rw [hc]
  simp only []
  rw [evC_evO c h]
  rfl
theorem evLoop_congr {f g : Fr → Kc R → Option R} (h : ∀ fr K, f fr K = g fr K) (live out : Lv) (n : Nat) (vs : List SV) (K : Kc R) : evLoop f live out n vs K = evLoop g live out n vs K := by
  have : f = g := funext fun fr => funext fun K => h fr K
  rw [this]
theorem evCut_congr {f g : Fr → Kc R → Option R} (h : ∀ fr K, f fr K = g fr K) (live out : Lv) (vs : List SV) (K : Kc R) : evCut f live out vs K = evCut g live out vs K := by
  have : f = g := funext fun fr => funext fun K => h fr K
  rw [this]
end Go.Proofs.Ytlplpkbhjddmeaa.Th


set_option linter.unusedVariables false
namespace Go.Proofs.Ytlplpkbhjddmeaa.Th
open Go
def asBoolK (rs : List SV) : Option Bool :=
  match rs with
  | [.p (.v (.bool b))] => some b
  | _ => none
section
variable {P : Program}
theorem plain_args (w : World) : ∀ l : List Value, RSs P (fun _ => False) w (l.map fun x => .p (.v x)) l []
  | [] => .nil
  | x :: l => .cons (B := []) (Bs := []) (.p (.v x)) (plain_args w l)
theorem law_calls {g : Nat} {fs : FS} (hf : FSound P g fs) {cargs : Array Value} (hk : fs.run (cargs.toList.map fun x => .p (.v x)) asBoolK = some true) (w : World) :
    Calls P g cargs w fun e w' => e = .returned (.bool true) ∧ RowKit.Below w.heap.size w w' := by
  refine Calls.mono (hf.call hk (fun _ => False) w cargs [] (plain_args w cargs.toList) (by simp) (by simp) (fun _ q => q.elim)) fun e w' he => ?_
  cases e with
  | panicked c => exact he.elim
  | outgrown => exact he.elim
  | returned v =>
    obtain ⟨rs, h1, F', Br, xs, ys, vs, rfl, h2, rfl, h3, h4, h5, h6, h7, h8, h9⟩ := he
    have hb : ∀ l : List Value, bxv (l.map fun x => SV.p (.v x)) l = [] := fun l => by
      induction l with
      | nil => rfl
      | cons x l ih => simpa [bxv] using ih
    rw [hb, List.append_nil] at h3
    unfold asBoolK at h1
    split at h1
    · rename_i b hxs
      cases h1
      rw [hxs] at h3
      cases h3 with
      | cons q1 q2 =>
        cases q2 with
        | nil =>
          cases q1 with
          | p q1 =>
            cases q1 with
            | v =>
              refine ⟨rfl, ?_⟩
              exact ⟨h9.os, h9.tape, h9.output, h9.size, fun b hb => h9.block b hb (by simp)⟩
    · cases h1
end
end Go.Proofs.Ytlplpkbhjddmeaa.Th


set_option linter.unusedVariables false
set_option linter.unusedSimpArgs false
namespace Go.Proofs.Ytlplpkbhjddmeaa.Th
open Go
section
variable {P : Program} {w : World}
theorem append_strF {t u ty e : TypeId} {i : TypeInfo} (ht : P.underlying t = some (.slice e)) (hu : P.underlying u = some .string) (hi : P.info? e = some i) (hz : i.zero = some (.int .u8 0))
    (hsize : i.size = 1) (hby : i.bytes = 1) {v : Value} {n : Nat} {xs : List Value} (hown : w.ownsRowF 0 e 1 v n xs) (s : ByteArray) (hbytes : n + s.size ≤ 140737488355328) :
    ∃ v' w', (Builtin.append_ #[t, u] ty #[v, .string s]).run P w = .ok v' w' ∧ w'.ownsRowF 0 e 1 v' (n + s.size) (xs ++ Lib.strCells s) ∧ w.grownBy w' v.ownBlock ∧
      (∀ k, v'.ownBlock = some k → v.ownBlock = some k ∨ w.heap.size ≤ k) := by
  have h63 : n + s.size ≤ maxLen := by simp only [maxLen]; omega
  rcases hown.2 with ⟨rfl, rfl⟩ | ⟨g, cap, cur, fz, rfl, hbg, hg, hfz, hnc, hcm, hcs, htake⟩
  · obtain ⟨v', w', h1, h2, h3, h4⟩ := Lib.run_append_own_string (P := P) w w.heap.size t u ty e i ht hu hi hz hsize hby (.slice none 0 0) 0 xs ⟨hown.1, .inl ⟨rfl, rfl⟩⟩ s h63 hbytes (Nat.le_refl _)
    refine ⟨v', w', h1, ?_, h3, fun k hk => .inr (h2.lt k hk).1⟩
    have h5 := World.ownsRowF_of h2
    refine ⟨h5.1, ?_⟩
    rcases h5.2 with q | ⟨g, cap, cur, fz, q1, q2, q3⟩
    · exact .inl q
    · exact .inr ⟨g, cap, cur, fz, q1, Nat.zero_le _, q3⟩
  · have hxl : xs.length = n := by simpa using hown.1
    have hlen : (xs ++ Lib.strCells s).length = (n + s.size) * 1 := by rw [List.length_append, hxl, Lib.strCells_length, Nat.mul_one]
    by_cases hroom : n + s.size ≤ cap
    · have hcs' : cur.size = cap := by simpa using hcs
      have hr := Lib.run_append_room_stringF (P := P) w t u ty e i ht hu hi hsize g n cap cur fz hg (by simpa using hfz) s hroom (by omega)
      refine ⟨_, _, hr, ⟨hlen, .inr ⟨g, cap, _, fz, rfl, hbg, setRow_heap w g cur _ e _ hg, by omega, hroom, hcm, ?_, ?_⟩⟩, ⟨rfl, rfl, rfl, by simp, fun k _ hk => setRow_other w g k _ (fun e => hk (by simp [Value.ownBlock, e]))⟩, fun k hk => .inl hk⟩
      · simp only [List.size_toArray, List.length_append, List.length_take, List.length_drop, Array.length_toList, Lib.strCells_length]
        omega
      · have ht' : cur.toList.take n = xs := by simpa using htake
        rw [ht', ← hlen]
        exact List.take_left
    · have holds : ∀ j u, xs[j]? = some u → w.cell? ((⟨g, 0, none⟩ : Addr).add j) = some u := hown.cells (g := g) rfl
      have hr := Lib.run_append_grow_string (P := P) w t u ty e i (.int .u8 0) ht hu hi hz ⟨g, 0, none⟩ n cap xs (by rw [hsize]; simpa using hxl) holds s (by omega) (by omega) (by rw [hby]; exact growslice_fits (by omega) (by omega))
      have hge := grownCap_ge w (n + s.size) cap e
      have hcm2 : grownCap w (n + s.size) cap e ≤ maxLen := grownCap_le_maxLen w (n + s.size) cap e h63
      refine ⟨_, _, hr, ⟨hlen, .inr ⟨w.heap.size, _, _, (0, 0), rfl, Nat.zero_le _, alloc_new w.drew _, Nat.zero_le _, hge, hcm2, ?_, ?_⟩⟩, ⟨rfl, rfl, rfl, by simp, fun k hk _ => alloc_old w.drew _ k hk⟩, fun k hk => by simp [Value.ownBlock] at hk; exact .inr (by omega)⟩
      · have hz1 : (Value.int IntKind.u8 0).cells.size = 1 := rfl
        simp only [Array.size_append, List.size_toArray, size_zeroCells, hz1, hxl, Lib.strCells_length]
        omega
      · simp only [Array.toList_append, List.append_assoc]
        rw [← List.append_assoc, ← hlen]
        exact List.take_left
theorem append_byteF {t ty e : TypeId} {i : TypeInfo} (ht : P.underlying t = some (.slice e)) (hi : P.info? e = some i) (hz : i.zero = some (.int .u8 0))
    (hsize : i.size = 1) (hby : i.bytes = 1) {v : Value} {n : Nat} {xs : List Value} (hown : w.ownsRowF 0 e 1 v n xs) {c : Int} {r : Nat} (hr : w.cell? ⟨r, 0, none⟩ = some (.int .u8 c)) (hbytes : n + 1 ≤ 140737488355328) :
    ∃ v' w', (Builtin.append_ #[t, t] ty #[v, .slice (some ⟨r, 0, none⟩) 1 1]).run P w = .ok v' w' ∧ w'.ownsRowF 0 e 1 v' (n + 1) (xs ++ [.int .u8 c]) ∧ w.grownBy w' v.ownBlock ∧
      (∀ k, v'.ownBlock = some k → v.ownBlock = some k ∨ w.heap.size ≤ k) := by
  have h63 : n + 1 ≤ maxLen := by simp only [maxLen]; omega
  have hnews : ∀ j u, [Value.int .u8 c][j]? = some u → w.cell? ((⟨r, 0, none⟩ : Addr).add j) = some u := by
    intro j u hj
    match j, hj with
    | 0, hj => simp at hj; subst hj; simpa [Addr.add] using hr
  have hxl : xs.length = n := by simpa using hown.1
  have hlen : (xs ++ [Value.int .u8 c]).length = (n + 1) * 1 := by simp [hxl]
  have hz1 : (Value.int IntKind.u8 0).cells.size = 1 := rfl
  rcases hown.2 with ⟨rfl, rfl⟩ | ⟨g, cap, cur, fz, rfl, hbg, hg, hfz, hnc, hcm, hcs, htake⟩
  · have hx : xs = [] := List.eq_nil_of_length_eq_zero hxl
    subst hx
    have hrun := run_append_nil (P := P) w t ty e i (.int .u8 0) ht hi hz ⟨r, 0, none⟩ 1 1 [.int .u8 c] (by simp [hsize]) hnews (by omega) (by omega) (by rw [hby]; omega)
    have hge := grownCap_ge w 1 0 e
    have hcm2 : grownCap w 1 0 e ≤ maxLen := grownCap_le_maxLen w 1 0 e (by simpa using h63)
    refine ⟨_, _, hrun, ⟨by simp, .inr ⟨w.heap.size, _, _, (0, 0), rfl, Nat.zero_le _, alloc_new w.drew _, Nat.zero_le _, by simpa using hge, hcm2, ?_, ?_⟩⟩, ⟨rfl, rfl, rfl, by simp, fun k hk _ => alloc_old w.drew _ k hk⟩, fun k hk => by simp [Value.ownBlock] at hk; exact .inr (by omega)⟩
    · simp only [Array.size_append, List.size_toArray, size_zeroCells, hz1, List.length_singleton]
      omega
    · simp [Array.toList_append]
  · by_cases hroom : n + 1 ≤ cap
    · have hcs' : cur.size = cap := by simpa using hcs
      have hf := run_firstCells_some (P := P) w 1 1 ⟨r, 0, none⟩ 1 1 [.int .u8 c] (by simp) hnews
      have hst := run_storeCells_atF P g n e fz [.int .u8 c] 0 cur w hg (by simpa using hfz) (by simp; omega) (by simp [Value.oneCell'])
      simp only [Nat.add_zero] at hst
      have hrun : (Builtin.append_ #[t, t] ty #[.slice (some ⟨g, 0, none⟩) n cap, .slice (some ⟨r, 0, none⟩) 1 1]).run P w =
          .ok (.slice (some ⟨g, 0, none⟩) (n + 1) cap) (w.setRow g (cur.toList.take n ++ [Value.int .u8 c] ++ cur.toList.drop (n + [Value.int .u8 c].length)).toArray) := by
        simp only [List.length_singleton] at hst
        simp [Builtin.append_, run_underlying ht, sizeOf, typeInfo, hi, hsize, Builtin.lenOf, hroom, hf, Addr.add_lit, hst]
      refine ⟨_, _, hrun, ⟨hlen, .inr ⟨g, cap, _, fz, rfl, hbg, setRow_heap w g cur _ e _ hg, by omega, hroom, hcm, ?_, ?_⟩⟩, ⟨rfl, rfl, rfl, by simp, fun k _ hk => setRow_other w g k _ (fun e => hk (by simp [Value.ownBlock, e]))⟩, fun k hk => .inl hk⟩
      · simp only [List.size_toArray, List.length_append, List.length_take, List.length_drop, Array.length_toList, List.length_singleton]
        omega
      · have ht' : cur.toList.take n = xs := by simpa using htake
        rw [ht', ← hlen]
        exact List.take_left
    · have holds : ∀ j u, xs[j]? = some u → w.cell? ((⟨g, 0, none⟩ : Addr).add j) = some u := hown.cells (g := g) rfl
      have hrun := run_append_grow (P := P) w t ty e i (.int .u8 0) ht hi hz ⟨g, 0, none⟩ n cap xs (by rw [hsize]; simpa using hxl) holds ⟨r, 0, none⟩ 1 1 [.int .u8 c] (by simp [hsize]) hnews (by omega) (by omega) (by rw [hby]; exact growslice_fits (by omega) (by omega))
      have hge := grownCap_ge w (n + 1) cap e
      have hcm2 : grownCap w (n + 1) cap e ≤ maxLen := grownCap_le_maxLen w (n + 1) cap e h63
      refine ⟨_, _, hrun, ⟨hlen, .inr ⟨w.heap.size, _, _, (0, 0), rfl, Nat.zero_le _, alloc_new w.drew _, Nat.zero_le _, hge, hcm2, ?_, ?_⟩⟩, ⟨rfl, rfl, rfl, by simp, fun k hk _ => alloc_old w.drew _ k hk⟩, fun k hk => by simp [Value.ownBlock] at hk; exact .inr (by omega)⟩
      · simp only [Array.size_append, List.size_toArray, size_zeroCells, hz1, hxl, List.length_singleton]
        omega
      · simp only [Array.toList_append, List.append_assoc]
        rw [← List.append_assoc, ← hlen]
        exact List.take_left
end
end Go.Proofs.Ytlplpkbhjddmeaa.Th


set_option linter.unusedVariables false
set_option linter.unusedSimpArgs false
namespace Go.Proofs.Ytlplpkbhjddmeaa.Th
open Go Go.Proofs Go.Shelf Go.RowKit
def BV (T e : TypeId) (b : Nat) (p v : Value) (bs : List Value) (w : World) : Prop :=
  w.heap[b]? = some (.cells #[p, v] T (0, 0)) ∧ w.ownsRowF 0 e 1 v bs.length bs ∧ v.ownBlock ≠ some b
section
variable {P : Program} {ρ : Ren} {w : World} {T e : TypeId} {b : Nat} {p v : Value} {bs : List Value}
theorem BV.at' (h : BV T e b p v bs w) : Lib.BuilderAtF T e 0 b p bs w := ⟨Nat.zero_le _, v, h⟩
theorem BV.lt (h : BV T e b p v bs w) : b < w.heap.size := h.at'.lt
theorem Keep.refl (w : World) (A : Nat → Prop) : Keep w A w := ⟨rfl, rfl, rfl, Nat.le_refl _, fun _ _ _ => rfl⟩
theorem Keep.trans {w1 w2 w3 : World} {A B : Nat → Prop} (h : Keep w1 A w2) (k : Keep w2 B w3) (hAB : ∀ b, b < w1.heap.size → B b → A b) : Keep w1 A w3 :=
  ⟨k.os.trans h.os, k.tape.trans h.tape, k.output.trans h.output, Nat.le_trans h.size k.size, fun b hb hA => (k.block b (Nat.lt_of_lt_of_le hb h.size) fun q => hA (hAB b hb q)).trans (h.block b hb hA)⟩
theorem Keep.set (w : World) (b o : Nat) (x : Value) : Keep w (· = b) (w.setCell ⟨b, o, none⟩ x) :=
  ⟨rfl, rfl, rfl, by simp [World.setCell], fun k _ hk => Below.heap_setCell _ _ _ _ (fun e => hk (by simpa using e))⟩
theorem Keep.grown {w w' : World} {r : Option Nat} (h : w.grownBy w' r) : Keep w (fun k => r = some k) w' :=
  ⟨h.os, h.tape, h.output, h.size, fun k hk hn => h.block k hk fun e => hn e.symm⟩
theorem Keep.mono {w w' : World} {A B : Nat → Prop} (h : Keep w A w') (hAB : ∀ b, A b → B b) : Keep w B w' := ⟨h.os, h.tape, h.output, h.size, fun b hb hB => h.block b hb fun q => hB (hAB b q)⟩
theorem BV.used (h : BV T e b p v bs w) (q : Value) : BV T e b q v bs (w.setCell ⟨b, 0, none⟩ q) := by
  obtain ⟨hb, hown, hne⟩ := h
  refine ⟨?_, ?_, hne⟩
  · simp [World.setCell, Array.getElem?_modify, hb]
  · exact ownsF_congr hown fun k hk => (Keep.set w b 0 q).block k (hown.lt k (by simpa using hk)).2 fun e => hne (by rw [← e]; simpa using hk)
theorem BV.put {v' : Value} {bs' : List Value} (hb : w.heap[b]? = some (.cells #[p, v] T (0, 0))) (hown : w.ownsRowF 0 e 1 v' bs'.length bs') (hTe : T ≠ e) :
    BV T e b p v' bs' (w.setCell ⟨b, 1, none⟩ v') := by
  have hne := Lib.ownBlock_neF hown hb hTe
  refine ⟨?_, ?_, hne⟩
  · simp [World.setCell, Array.getElem?_modify, hb]
  · exact ownsF_congr hown fun k hk => (Keep.set w b 1 v').block k (hown.lt k (by simpa using hk)).2 fun e => hne (by rw [← e]; simpa using hk)
theorem b_check (L : Lays.n240 P ρ) (X : Builder.X72 P ρ) (hp : p = .pointer none ∨ p = .pointer (some ⟨b, 0, none⟩)) (h : BV (ρ.t 72) (ρ.t 5) b p v bs w) :
    Calls P (ρ.f 240) #[.pointer (some ⟨b, 0, none⟩)] w fun e w' => e = .returned (.tuple #[]) ∧ BV (ρ.t 72) (ρ.t 5) b (.pointer (some ⟨b, 0, none⟩)) v bs w' ∧ Keep w (· = b) w' := by
  rcases hp with rfl | rfl
  · refine (Any.Builder_copyCheck_fresh L X b w h.at'.cell0 h.at'.shape h.at'.frozen0).mono ?_
    rintro e w' ⟨rfl, rfl⟩
    exact ⟨rfl, h.used _, Keep.set w b 0 _⟩
  · refine (Any.Builder_copyCheck_used L X b w h.at'.cell0).mono ?_
    rintro e w' ⟨rfl, rfl⟩
    exact ⟨rfl, h, Keep.refl _ _⟩
theorem wp_strF {ops : Array Oper} {rest : List Oper} {o : Oper} {a : Act} {Q : Exit → Act → World → Prop} (hgd : o.guard = none) (sl x : Operand) (t u : TypeId)
    (ho : o.op = .call { callee := .builtin .append, args := #[sl, x], argTypes := #[t, u] })
    (e : TypeId) (i : TypeInfo) (ht : P.underlying t = some (.slice e)) (hu : P.underlying u = some .string) (hi : P.info? e = some i) (hz : i.zero = some (.int .u8 0))
    (hsize : i.size = 1) (hby : i.bytes = 1) (v : Value) (n : Nat) (xs : List Value) (hs : a.eval sl = v) (hown : w.ownsRowF 0 e 1 v n xs) (s : ByteArray) (hx : a.eval x = .string s) (hbytes : n + s.size ≤ 140737488355328)
    (h : ∀ v' w', w'.ownsRowF 0 e 1 v' (n + s.size) (xs ++ Lib.strCells s) → w.grownBy w' v.ownBlock → (∀ k, v'.ownBlock = some k → v.ownBlock = some k ∨ w.heap.size ≤ k) → wpList P ops Q rest (a.put o.dst v') w') : wpList P ops Q (o :: rest) a w := by
  refine wpList_plain hgd fun K hK => ?_
  obtain ⟨v', w', hr, h2, h3, h4⟩ := append_strF (P := P) (ty := o.type) ht hu hi hz hsize hby hown s hbytes
  unfold Oper.wp execOp
  simp only [ho, resolve, invoke, builtin, Sem.run_bind, Sem.run_pure, Result.andThen_ok, List.map_toArray, List.map_cons, List.map_nil, hs, hx, hr]
  exact hK _ _ (h v' w' h2 h3 h4)
theorem wp_byteF {ops : Array Oper} {rest : List Oper} {o : Oper} {a : Act} {Q : Exit → Act → World → Prop} (hgd : o.guard = none) (sl x : Operand) (t : TypeId)
    (ho : o.op = .call { callee := .builtin .append, args := #[sl, x], argTypes := #[t, t] })
    (e : TypeId) (i : TypeInfo) (ht : P.underlying t = some (.slice e)) (hi : P.info? e = some i) (hz : i.zero = some (.int .u8 0))
    (hsize : i.size = 1) (hby : i.bytes = 1) (v : Value) (n : Nat) (xs : List Value) (hs : a.eval sl = v) (hown : w.ownsRowF 0 e 1 v n xs) (c : Int) (r : Nat) (hx : a.eval x = .slice (some ⟨r, 0, none⟩) 1 1)
    (hr : w.cell? ⟨r, 0, none⟩ = some (.int .u8 c)) (hbytes : n + 1 ≤ 140737488355328)
    (h : ∀ v' w', w'.ownsRowF 0 e 1 v' (n + 1) (xs ++ [.int .u8 c]) → w.grownBy w' v.ownBlock → (∀ k, v'.ownBlock = some k → v.ownBlock = some k ∨ w.heap.size ≤ k) → wpList P ops Q rest (a.put o.dst v') w') : wpList P ops Q (o :: rest) a w := by
  refine wpList_plain hgd fun K hK => ?_
  obtain ⟨v', w', hr, h2, h3, h4⟩ := append_byteF (P := P) (ty := o.type) ht hi hz hsize hby hown hr hbytes
  unfold Oper.wp execOp
  simp only [ho, resolve, invoke, builtin, Sem.run_bind, Sem.run_pure, Result.andThen_ok, List.map_toArray, List.map_cons, List.map_nil, hs, hx, hr]
  exact hK _ _ (h v' w' h2 h3 h4)
def Wrote (T e : TypeId) (b : Nat) (v : Value) (bs : List Value) (w w' : World) : Prop :=
  ∃ v', BV T e b (.pointer (some ⟨b, 0, none⟩)) v' bs w' ∧ Keep w (fun k => k = b ∨ v.ownBlock = some k) w' ∧ (∀ k, v'.ownBlock = some k → v.ownBlock = some k ∨ w.heap.size ≤ k)
set_option maxHeartbeats 2000000 in
set_option maxRecDepth 100000 in
theorem b_writeString (L : Lays.n166 P ρ) (X : Builder.Extra P ρ) (hp : p = .pointer none ∨ p = .pointer (some ⟨b, 0, none⟩)) (s : ByteArray) (h : BV (ρ.t 72) (ρ.t 5) b p v bs w) (hlen : bs.length + s.size ≤ 140737488355328) :
    Calls P (ρ.f 166) #[.pointer (some ⟨b, 0, none⟩), .string s] w fun e w' => e = .returned (.tuple #[.int .i64 s.size, .nilIface]) ∧ Wrote (ρ.t 72) (ρ.t 5) b v (bs ++ Lib.strCells s) w w' := by
  obtain ⟨i0, hi, hz0, hz1, hz2⟩ := info_parts X.infoByte
  have mixed := L.mixed
  have t72 := L.t72; have a72 := L.a72; have z72 := L.z72; have v72 := L.v72; have u72 := run_underlying L.t72
  have t70 := L.t70; have a70 := L.a70; have z70 := L.z70; have v70 := L.v70; have u70 := run_underlying L.t70
  have t37 := L.t37; have a37 := L.a37; have z37 := L.z37; have v37 := L.v37; have u37 := run_underlying L.t37
  have t3 := L.t3; have a3 := L.a3; have z3 := L.z3; have v3 := L.v3; have u3 := run_underlying L.t3
  have t9 := L.t9; have a9 := L.a9; have z9 := L.z9; have v9 := L.v9; have u9 := run_underlying L.t9
  have t4 := L.t4; have a4 := L.a4; have z4 := L.z4; have v4 := L.v4; have u4 := run_underlying L.t4
  have t164 := L.t164; have a164 := L.a164; have z164 := L.z164; have v164 := L.v164; have u164 := run_underlying L.t164
  have t5 := X.t5; have a5 := X.a5; have z5 := X.z5; have v5 := X.v5; have u5 := run_underlying X.t5
  have e240 : ∀ args w, (callFunc (ρ.f 240) args).run P w = .ok (.enter (ρ.f 240) args) w := enters_of L.f240 (by kernel_rfl) rfl
  go_enter L.f166, Body.n166_ntmps ρ
  go_wp2_with (go_at_fn (ρ.f 240); refine (b_check { L with } X.toX72 hp h).mono ?_)
  rintro e w1 ⟨rfl, h1, k1⟩
  obtain ⟨hbk, hown, hne⟩ := h1
  have c0 : w1.cell? ⟨b, 0, none⟩ = some (.pointer (some ⟨b, 0, none⟩)) := by rw [Lib.cell_of_heap hbk]; rfl
  have c1 : w1.cell? ⟨b, 1, none⟩ = some v := by rw [Lib.cell_of_heap hbk]; rfl
  go_wp2_with (at_builtin; refine wp_strF rfl _ _ (ρ.t 37) (ρ.t 9) rfl (ρ.t 5) i0 L.t37 L.t9 hi hz0 hz1 hz2 _ _ _ rfl hown s rfl ?c4 ?_)
  case c4 => omega
  intro v' w2 hown' hgrow hblk
  have hlt : b < w1.heap.size := (show BV (ρ.t 72) (ρ.t 5) b _ v bs w1 from ⟨hbk, hown, hne⟩).lt
  have hb2 : w2.heap[b]? = some (.cells #[.pointer (some ⟨b, 0, none⟩), v] (ρ.t 72) (0, 0)) := by
    rw [hgrow.block b hlt (fun e => hne e.symm)]
    exact hbk
  have d0 : w2.cell? ⟨b, 0, none⟩ = some (.pointer (some ⟨b, 0, none⟩)) := by rw [Lib.cell_of_heap hb2]; rfl
  have d1 : w2.cell? ⟨b, 1, none⟩ = some v := by rw [Lib.cell_of_heap hb2]; rfl
  have f1 : w2.frozen? ⟨b, 1, none⟩ = false := Lib.frozen_of_heap hb2 1
  obtain ⟨ao, n', cap, rfl⟩ : ∃ ao n' cap, v' = .slice ao n' cap := by
    rcases hown'.2 with ⟨hv, _⟩ | ⟨g, cap, cur, fz, hv, _⟩
    · exact ⟨_, _, _, hv⟩
    · exact ⟨_, _, _, hv⟩
  go_wp2
  go_ret2
  refine ⟨rfl, _, BV.put hb2 (bs' := bs ++ Lib.strCells s) (by simpa [Lib.strCells_length] using hown') X.neB5, ?_, fun k hk => (hblk k hk).imp id fun q => Nat.le_trans k1.size q⟩
  exact ((k1.mono fun k q => .inl q).trans ((Keep.grown hgrow).mono (B := fun k => k = b ∨ v.ownBlock = some k) fun k q => .inr q) fun _ _ q => q).trans (Keep.set w2 b 1 _) fun _ _ q => .inl q
set_option maxHeartbeats 2000000 in
set_option maxRecDepth 100000 in
theorem b_writeByte (L : Lays.n167 P ρ) (X : Builder.Extra P ρ) (hp : p = .pointer none ∨ p = .pointer (some ⟨b, 0, none⟩)) (c : Int) (h : BV (ρ.t 72) (ρ.t 5) b p v bs w) (hlen : bs.length + 1 ≤ 140737488355328) :
    Calls P (ρ.f 167) #[.pointer (some ⟨b, 0, none⟩), .int .u8 c] w fun e w' => e = .returned .nilIface ∧ Wrote (ρ.t 72) (ρ.t 5) b v (bs ++ [.int .u8 c]) w w' := by
  obtain ⟨i0, hi, hz0, hz1, hz2⟩ := info_parts X.infoByte
  have mixed := L.mixed
  have t72 := L.t72; have a72 := L.a72; have z72 := L.z72; have v72 := L.v72; have u72 := run_underlying L.t72
  have t70 := L.t70; have a70 := L.a70; have z70 := L.z70; have v70 := L.v70; have u70 := run_underlying L.t70
  have t5 := L.t5; have a5 := L.a5; have z5 := L.z5; have v5 := L.v5; have u5 := run_underlying L.t5
  have t37 := L.t37; have a37 := L.a37; have z37 := L.z37; have v37 := L.v37; have u37 := run_underlying L.t37
  have t9 := L.t9; have a9 := L.a9; have z9 := L.z9; have v9 := L.v9; have u9 := run_underlying L.t9
  have t4 := L.t4; have a4 := L.a4; have z4 := L.z4; have v4 := L.v4; have u4 := run_underlying L.t4
  have t164 := L.t164; have a164 := L.a164; have z164 := L.z164; have v164 := L.v164; have u164 := run_underlying L.t164
  have e240 : ∀ args w, (callFunc (ρ.f 240) args).run P w = .ok (.enter (ρ.f 240) args) w := enters_of L.f240 (by kernel_rfl) rfl
  go_enter L.f167, Body.n167_ntmps ρ
  go_wp2_with (go_at_fn (ρ.f 240); refine (b_check { L with } X.toX72 hp h).mono ?_)
  rintro e w1 ⟨rfl, h1, k1⟩
  obtain ⟨hbk, hown, hne⟩ := h1
  have c0 : w1.cell? ⟨b, 0, none⟩ = some (.pointer (some ⟨b, 0, none⟩)) := by rw [Lib.cell_of_heap hbk]; rfl
  have c1 : w1.cell? ⟨b, 1, none⟩ = some v := by rw [Lib.cell_of_heap hbk]; rfl
  have hlt : b < w1.heap.size := (show BV (ρ.t 72) (ρ.t 5) b _ v bs w1 from ⟨hbk, hown, hne⟩).lt
  have hownA : ∀ o, (w1.alloc o).ownsRowF 0 (ρ.t 5) 1 v bs.length bs := fun o => ownsF_congr hown fun k hk => alloc_old w1 o k (hown.lt k (by simpa using hk)).2
  go_wp2_with (at_builtin; refine wp_byteF rfl _ _ (ρ.t 37) rfl (ρ.t 5) i0 L.t37 hi hz0 hz1 hz2 _ _ _ rfl (hownA _) c w1.heap.size rfl ?c3 ?c4 ?_)
  case c3 => rw [Lib.cell_of_heap (alloc_new w1 _)]; rfl
  case c4 => omega
  intro v' w2 hown' hgrow hblk
  have hb2 : w2.heap[b]? = some (.cells #[.pointer (some ⟨b, 0, none⟩), v] (ρ.t 72) (0, 0)) := by
    rw [hgrow.block b (by simp; omega) (fun e => hne e.symm), Lib.alloc_old w1 _ b hlt]
    exact hbk
  have d0 : w2.cell? ⟨b, 0, none⟩ = some (.pointer (some ⟨b, 0, none⟩)) := by rw [Lib.cell_of_heap hb2]; rfl
  have d1 : w2.cell? ⟨b, 1, none⟩ = some v := by rw [Lib.cell_of_heap hb2]; rfl
  have f1 : w2.frozen? ⟨b, 1, none⟩ = false := Lib.frozen_of_heap hb2 1
  obtain ⟨g, cap, rfl⟩ : ∃ g cap, v' = .slice (some ⟨g, 0, none⟩) (bs.length + 1) cap := by
    rcases hown'.2 with ⟨_, h0⟩ | ⟨g, cap, cur, fz, hv, _⟩
    · omega
    · exact ⟨g, cap, hv⟩
  go_wp2
  go_ret
  refine ⟨rfl, _, BV.put hb2 (bs' := bs ++ [.int .u8 c]) (by simpa using hown') X.neB5, ?_, fun k hk => (hblk k hk).imp id fun q => Nat.le_trans k1.size (Nat.le_trans (by simp) q)⟩
  refine Keep.trans (w2 := w1) (k1.mono fun k q => .inl q) (B := fun k => k = b ∨ v.ownBlock = some k) ?_ fun _ _ q => q
  refine Keep.trans (w2 := w2) ?_ (Keep.set w2 b 1 _) fun _ _ q => .inl q
  exact ⟨hgrow.os, hgrow.tape, hgrow.output, Nat.le_trans (by simp) hgrow.size, fun k hk hn => (hgrow.block k (by simp; omega) fun q => hn (.inr q.symm)).trans (alloc_old w1 _ k hk)⟩
set_option maxHeartbeats 1000000 in
set_option maxRecDepth 100000 in
theorem b_len (L : Lays.n170 P ρ) (h : BV (ρ.t 72) (ρ.t 5) b p v bs w) :
    Calls P (ρ.f 170) #[.pointer (some ⟨b, 0, none⟩)] w fun e w' => e = .returned (.int .i64 bs.length) ∧ w' = w := by
  obtain ⟨hbk, hown, hne⟩ := h
  obtain ⟨ao, cap, rfl⟩ : ∃ ao cap, v = .slice ao bs.length cap := by
    rcases hown.2 with ⟨hv, h0⟩ | ⟨g, cap, cur, fz, hv, _⟩
    · exact ⟨none, 0, by rw [hv, h0]⟩
    · exact ⟨_, _, hv⟩
  have c1 : w.cell? ⟨b, 1, none⟩ = some (.slice ao bs.length cap) := by rw [Lib.cell_of_heap hbk]; rfl
  have mixed := L.mixed
  have t72 := L.t72; have a72 := L.a72; have z72 := L.z72; have v72 := L.v72; have u72 := run_underlying L.t72
  have t70 := L.t70; have a70 := L.a70; have z70 := L.z70; have v70 := L.v70; have u70 := run_underlying L.t70
  have t37 := L.t37; have a37 := L.a37; have z37 := L.z37; have v37 := L.v37; have u37 := run_underlying L.t37
  have t3 := L.t3; have a3 := L.a3; have z3 := L.z3; have v3 := L.v3; have u3 := run_underlying L.t3
  go_enter L.f170, Body.n170_ntmps ρ
  go_wp2
  go_ret
  exact ⟨rfl, rfl⟩
end
end Go.Proofs.Ytlplpkbhjddmeaa.Th


set_option linter.unusedVariables false
set_option linter.unusedSimpArgs false
namespace Go.Proofs.Ytlplpkbhjddmeaa.Th
open Go Go.Proofs Go.Shelf Go.RowKit
section
variable {P : Program} {ρ : Ren} {w : World} {T e : TypeId} {b : Nat} {p v : Value} {bs : List Value}
theorem Keep.freeze (w : World) (g n : Nat) : Keep w (· = g) (w.freeze ⟨g, 0, none⟩ n) := by
  unfold World.freeze
  split
  · exact Keep.refl _ _
  · refine ⟨rfl, rfl, rfl, by simp, fun k _ hk => ?_⟩
    simp only [Array.getElem?_modify]
    rw [if_neg (fun e => hk e.symm)]
theorem Keep.alloc (w : World) (o : Obj) (A : Nat → Prop) : Keep w A (w.alloc o) := ⟨rfl, rfl, rfl, by simp, fun k hk _ => alloc_old w o k hk⟩
theorem BV.of_at (h : Lib.BuilderAtF T e 0 b p bs w) (hb : w.heap[b]? = some (.cells #[p, v] T (0, 0))) : BV T e b p v bs w := by
  obtain ⟨_, v1, h1, h2, h3⟩ := h
  rw [hb] at h1
  cases h1
  exact ⟨hb, h2, h3⟩
theorem BV.alloc (h : BV T e b p v bs w) (o : Obj) : BV T e b p v bs (w.alloc o) := BV.of_at (h.at'.alloc o) ((alloc_old w o b h.lt).trans h.1)
def Seen (T e : TypeId) (b : Nat) (p v : Value) (bs : List Value) (w w' : World) : Prop := BV T e b p v bs w' ∧ Keep w (fun k => v.ownBlock = some k) w'
set_option maxHeartbeats 1000000 in
set_option maxRecDepth 100000 in
theorem b_string_some (L : Lays.n169 P ρ) (X : Builder.Extra P ρ) (l : List UInt8) (h : BV (ρ.t 72) (ρ.t 5) b p v (Lib.byteCells l) w) (h0 : l ≠ []) :
    Calls P (ρ.f 169) #[.pointer (some ⟨b, 0, none⟩)] w fun e w' => e = .returned (.string ⟨l.toArray⟩) ∧ Seen (ρ.t 72) (ρ.t 5) b p v (Lib.byteCells l) w w' := by
  have hAt := h.at'
  obtain ⟨hbk, hown, hne⟩ := h
  have hl0 : l.length ≠ 0 := by simpa using h0
  rw [Lib.byteCells_length] at hown
  obtain ⟨g, cap, cur, fz, rfl, hg, hfz, hnc, hcm, hcs, htake⟩ : ∃ g cap cur fz, v = .slice (some ⟨g, 0, none⟩) l.length cap ∧ w.heap[g]? = some (.cells cur (ρ.t 5) fz) ∧ fz.2 ≤ l.length * 1 ∧ l.length ≤ cap ∧ cap ≤ maxLen ∧ cur.size = cap * 1 ∧ cur.toList.take (l.length * 1) = Lib.byteCells l := by
    rcases hown.2 with ⟨_, hz⟩ | ⟨g, cap, cur, fz, hv, _, r⟩
    · exact absurd hz hl0
    · exact ⟨g, cap, cur, fz, hv, r⟩
  have hgb : g ≠ b := fun e => hne (by simp [Value.ownBlock, e])
  have c1 : w.drew.cell? ⟨b, 1, none⟩ = some (.slice (some ⟨g, 0, none⟩) l.length cap) := by
    have : w.drew.heap[b]? = some (.cells #[p, .slice (some ⟨g, 0, none⟩) l.length cap] (ρ.t 72) (0, 0)) := hbk
    rw [Lib.cell_of_heap this]; rfl
  have hSD : (Builtin.unsafeSliceData_ #[(ρ.t 37)] (ρ.t 127) #[.slice (some ⟨g, 0, none⟩) l.length cap]).run P w.drew = .ok (.pointer (some ⟨g, 0, none⟩)) w.drew :=
    Lib.run_unsafeSliceData_row _ _ _ _ _ _ (by omega)
  have hUS : (Builtin.unsafeString_ #[(ρ.t 127), (ρ.t 3)] (ρ.t 9) #[.pointer (some ⟨g, 0, none⟩), .int .i64 l.length]).run P w.drew = .ok (.string ⟨l.toArray⟩) (w.drew.freeze ⟨g, 0, none⟩ l.length) := by
    refine Lib.run_unsafeString_row w.drew (ρ.t 127) (ρ.t 3) (ρ.t 9) (ρ.t 5) L.t127 X.cellsByte g cur.size (by have hg' : w.drew.heap[g]? = some (.cells cur (ρ.t 5) fz) := hg; simp [World.shape?, hg']) l h0 (by omega) (by unfold maxLen at hcm; omega) ?_
    intro j x hx
    have := hown.cells (g := g) rfl j (.int .u8 x.toNat) (by simp [Lib.byteCells, hx])
    exact this
  have hkeep : Seen (ρ.t 72) (ρ.t 5) b p (.slice (some ⟨g, 0, none⟩) l.length cap) (Lib.byteCells l) w (w.drew.freeze ⟨g, 0, none⟩ l.length) := by
    have hA : Lib.BuilderAtF (ρ.t 72) (ρ.t 5) 0 b p (Lib.byteCells l) w.drew := hAt
    have hF := hA.froze (g := g) (cap := cap) (by rw [Lib.byteCells_length]; exact c1)
    rw [Lib.byteCells_length] at hF
    have kf := Keep.freeze w.drew g l.length
    exact ⟨BV.of_at hF ((kf.block b (show b < w.drew.heap.size from hAt.lt) (Ne.symm hgb)).trans hbk), kf.os, kf.tape, kf.output, kf.size, fun k hk hn => kf.block k hk fun e => hn (by simp [Value.ownBlock, e])⟩
  have mixed := L.mixed
  have t72 := L.t72; have a72 := L.a72; have z72 := L.z72; have v72 := L.v72; have u72 := run_underlying L.t72
  have t70 := L.t70; have a70 := L.a70; have z70 := L.z70; have v70 := L.v70; have u70 := run_underlying L.t70
  have t37 := L.t37; have a37 := L.a37; have z37 := L.z37; have v37 := L.v37; have u37 := run_underlying L.t37
  have t127 := L.t127; have a127 := L.a127; have z127 := L.z127; have v127 := L.v127; have u127 := run_underlying L.t127
  have t3 := L.t3; have a3 := L.a3; have z3 := L.z3; have v3 := L.v3; have u3 := run_underlying L.t3
  have t9 := L.t9; have a9 := L.a9; have z9 := L.z9; have v9 := L.v9; have u9 := run_underlying L.t9
  have t5 := X.t5; have a5 := X.a5; have z5 := X.z5; have v5 := X.v5; have u5 := run_underlying X.t5
  go_enter L.f169, Body.n169_ntmps ρ
  go_wp2
  go_region_o
  all_goals (go_wp2; go_ret; exact ⟨rfl, hkeep⟩)
set_option maxHeartbeats 2000000 in
set_option maxRecDepth 100000 in
theorem b_string_nil (L : Lays.n169 P ρ) (X : Builder.Extra P ρ) (h : BV (ρ.t 72) (ρ.t 5) b p (.slice none 0 0) [] w) :
    Calls P (ρ.f 169) #[.pointer (some ⟨b, 0, none⟩)] w fun e w' => e = .returned (.string ⟨#[]⟩) ∧ Seen (ρ.t 72) (ρ.t 5) b p (.slice none 0 0) [] w w' := by
  have hUS := Any.unsafeString_none L X
  have hbk := h.1
  have c1 : w.drew.cell? ⟨b, 1, none⟩ = some (.slice none 0 0) := by
    have : w.drew.heap[b]? = some (.cells #[p, .slice none 0 0] (ρ.t 72) (0, 0)) := hbk
    rw [Lib.cell_of_heap this]; rfl
  have hSD : (Builtin.unsafeSliceData_ #[(ρ.t 37)] (ρ.t 127) #[.slice none 0 0]).run P w.drew = .ok (.pointer none) w.drew := rfl
  have hkeep : Seen (ρ.t 72) (ρ.t 5) b p (.slice none 0 0) [] w w.drew := ⟨h, rfl, rfl, rfl, Nat.le_refl _, fun _ _ _ => rfl⟩
  have mixed := L.mixed
  have t72 := L.t72; have a72 := L.a72; have z72 := L.z72; have v72 := L.v72; have u72 := run_underlying L.t72
  have t70 := L.t70; have a70 := L.a70; have z70 := L.z70; have v70 := L.v70; have u70 := run_underlying L.t70
  have t37 := L.t37; have a37 := L.a37; have z37 := L.z37; have v37 := L.v37; have u37 := run_underlying L.t37
  have t127 := L.t127; have a127 := L.a127; have z127 := L.z127; have v127 := L.v127; have u127 := run_underlying L.t127
  have t3 := L.t3; have a3 := L.a3; have z3 := L.z3; have v3 := L.v3; have u3 := run_underlying L.t3
  have t9 := L.t9; have a9 := L.a9; have z9 := L.z9; have v9 := L.v9; have u9 := run_underlying L.t9
  have t5 := X.t5; have a5 := X.a5; have z5 := X.z5; have v5 := X.v5; have u5 := run_underlying X.t5
  go_enter L.f169, Body.n169_ntmps ρ
  go_wp2
  go_region_o
  all_goals (go_wp2; go_ret; exact ⟨rfl, hkeep⟩)
set_option maxHeartbeats 2000000 in
set_option maxRecDepth 100000 in
theorem b_string_noroom (L : Lays.n169 P ρ) (X : Builder.Extra P ρ) (g : Nat) (cur : Array Value) (fz : Nat × Nat) (h : BV (ρ.t 72) (ρ.t 5) b p (.slice (some ⟨g, 0, none⟩) 0 0) [] w) (hg : w.heap[g]? = some (.cells cur (ρ.t 5) fz)) :
    Calls P (ρ.f 169) #[.pointer (some ⟨b, 0, none⟩)] w fun e w' => e = .returned (.string ⟨#[]⟩) ∧ Seen (ρ.t 72) (ρ.t 5) b p (.slice (some ⟨g, 0, none⟩) 0 0) [] w w' := by
  have hUS := Any.unsafeString_none L X
  have hbk := h.1
  have hlt := h.lt
  have c1 : w.drew.cell? ⟨b, 1, none⟩ = some (.slice (some ⟨g, 0, none⟩) 0 0) := by
    have : w.drew.heap[b]? = some (.cells #[p, .slice (some ⟨g, 0, none⟩) 0 0] (ρ.t 72) (0, 0)) := hbk
    rw [Lib.cell_of_heap this]; rfl
  have hSD : (Builtin.unsafeSliceData_ #[(ρ.t 37)] (ρ.t 127) #[.slice (some ⟨g, 0, none⟩) 0 0]).run P w.drew = .ok (.pointer (some ⟨w.drew.heap.size, 0, none⟩)) (w.drew.alloc (.view ⟨g, 0, none⟩ (ρ.t 5))) :=
    Lib.run_unsafeSliceData_zero w.drew _ _ (ρ.t 5) L.t127 ⟨g, 0, none⟩ 0 ((ρ.t 5), cur.size) (by have hg' : w.drew.heap[g]? = some (.cells cur (ρ.t 5) fz) := hg; simp [World.shape?, hg'])
  have c2 : (w.drew.alloc (.view ⟨g, 0, none⟩ (ρ.t 5))).cell? ⟨b, 1, none⟩ = some (.slice (some ⟨g, 0, none⟩) 0 0) := by
    have : (w.drew.alloc (.view ⟨g, 0, none⟩ (ρ.t 5))).heap[b]? = _ := (Lib.alloc_old w.drew _ b hlt).trans hbk
    rw [Lib.cell_of_heap this]; rfl
  have c3 : (w.alloc (.view ⟨g, 0, none⟩ (ρ.t 5))).drew.cell? ⟨b, 1, none⟩ = some (.slice (some ⟨g, 0, none⟩) 0 0) := c2
  have c0 : w.cell? ⟨b, 1, none⟩ = some (.slice (some ⟨g, 0, none⟩) 0 0) := c1
  have hkeep : Seen (ρ.t 72) (ρ.t 5) b p (.slice (some ⟨g, 0, none⟩) 0 0) [] w (w.drew.alloc (.view ⟨g, 0, none⟩ (ρ.t 5))) :=
    ⟨BV.alloc (w := w.drew) h _, rfl, rfl, rfl, by simp [World.alloc], fun k hk _ => alloc_old w.drew _ k hk⟩
  have mixed := L.mixed
  have t72 := L.t72; have a72 := L.a72; have z72 := L.z72; have v72 := L.v72; have u72 := run_underlying L.t72
  have t70 := L.t70; have a70 := L.a70; have z70 := L.z70; have v70 := L.v70; have u70 := run_underlying L.t70
  have t37 := L.t37; have a37 := L.a37; have z37 := L.z37; have v37 := L.v37; have u37 := run_underlying L.t37
  have t127 := L.t127; have a127 := L.a127; have z127 := L.z127; have v127 := L.v127; have u127 := run_underlying L.t127
  have t3 := L.t3; have a3 := L.a3; have z3 := L.z3; have v3 := L.v3; have u3 := run_underlying L.t3
  have t9 := L.t9; have a9 := L.a9; have z9 := L.z9; have v9 := L.v9; have u9 := run_underlying L.t9
  have t5 := X.t5; have a5 := X.a5; have z5 := X.z5; have v5 := X.v5; have u5 := run_underlying X.t5
  go_enter L.f169, Body.n169_ntmps ρ
  go_wp2
  go_region_o
  all_goals (go_wp2; go_ret; exact ⟨rfl, hkeep⟩)
set_option maxHeartbeats 2000000 in
set_option maxRecDepth 100000 in
theorem b_string_room (L : Lays.n169 P ρ) (X : Builder.Extra P ρ) (g cap : Nat) (hc0 : cap ≠ 0) (h : BV (ρ.t 72) (ρ.t 5) b p (.slice (some ⟨g, 0, none⟩) 0 cap) [] w) :
    Calls P (ρ.f 169) #[.pointer (some ⟨b, 0, none⟩)] w fun e w' => e = .returned (.string ⟨#[]⟩) ∧ Seen (ρ.t 72) (ρ.t 5) b p (.slice (some ⟨g, 0, none⟩) 0 cap) [] w w' := by
  have hUS := Any.unsafeString_none L X
  have hbk := h.1
  have c1 : w.drew.cell? ⟨b, 1, none⟩ = some (.slice (some ⟨g, 0, none⟩) 0 cap) := by
    have : w.drew.heap[b]? = some (.cells #[p, .slice (some ⟨g, 0, none⟩) 0 cap] (ρ.t 72) (0, 0)) := hbk
    rw [Lib.cell_of_heap this]; rfl
  have hSD : (Builtin.unsafeSliceData_ #[(ρ.t 37)] (ρ.t 127) #[.slice (some ⟨g, 0, none⟩) 0 cap]).run P w.drew = .ok (.pointer (some ⟨g, 0, none⟩)) w.drew :=
    Lib.run_unsafeSliceData_row _ _ _ _ _ _ hc0
  clear hc0
  have hkeep : Seen (ρ.t 72) (ρ.t 5) b p (.slice (some ⟨g, 0, none⟩) 0 cap) [] w w.drew := ⟨h, rfl, rfl, rfl, Nat.le_refl _, fun _ _ _ => rfl⟩
  have mixed := L.mixed
  have t72 := L.t72; have a72 := L.a72; have z72 := L.z72; have v72 := L.v72; have u72 := run_underlying L.t72
  have t70 := L.t70; have a70 := L.a70; have z70 := L.z70; have v70 := L.v70; have u70 := run_underlying L.t70
  have t37 := L.t37; have a37 := L.a37; have z37 := L.z37; have v37 := L.v37; have u37 := run_underlying L.t37
  have t127 := L.t127; have a127 := L.a127; have z127 := L.z127; have v127 := L.v127; have u127 := run_underlying L.t127
  have t3 := L.t3; have a3 := L.a3; have z3 := L.z3; have v3 := L.v3; have u3 := run_underlying L.t3
  have t9 := L.t9; have a9 := L.a9; have z9 := L.z9; have v9 := L.v9; have u9 := run_underlying L.t9
  have t5 := X.t5; have a5 := X.a5; have z5 := X.z5; have v5 := X.v5; have u5 := run_underlying X.t5
  go_enter L.f169, Body.n169_ntmps ρ
  go_wp2
  go_region_o
  all_goals (go_wp2; go_ret; exact ⟨rfl, hkeep⟩)
theorem b_string (L : Lays.n169 P ρ) (X : Builder.Extra P ρ) (l : List UInt8) (h : BV (ρ.t 72) (ρ.t 5) b p v (Lib.byteCells l) w) :
    Calls P (ρ.f 169) #[.pointer (some ⟨b, 0, none⟩)] w fun e w' => e = .returned (.string ⟨l.toArray⟩) ∧ Seen (ρ.t 72) (ρ.t 5) b p v (Lib.byteCells l) w w' := by
  cases l with
  | cons x r => exact b_string_some L X (x :: r) h (by simp)
  | nil =>
    have h' : BV (ρ.t 72) (ρ.t 5) b p v [] w := h
    have hown := h'.2.1
    rcases hown.2 with ⟨rfl, _⟩ | ⟨g, cap, cur, fz, rfl, _, hg, _, _, _, _, _⟩
    · exact b_string_nil L X h'
    · by_cases hc0 : cap = 0
      · subst hc0
        exact b_string_noroom L X g cur fz h' hg
      · exact b_string_room L X g cap hc0 h'
end
end Go.Proofs.Ytlplpkbhjddmeaa.Th


set_option linter.unusedVariables false
set_option linter.unusedSimpArgs false
namespace Go.Proofs.Ytlplpkbhjddmeaa.Th
open Go Go.Proofs Go.Shelf Go.RowKit
def roomB (n : Nat) : Bool := decide (n ≤ 140737488355328)
def obK {R : Type} (T e : TypeId) (x : SV) (K : ByteArray → Option R) : Option R :=
  match x with
  | .ob T' e' s => bif Nat.beq T' T && Nat.beq e' e then K s else none
  | .bx T' [.p (.v (.pointer none)), .nl] => bif Nat.beq T' T then K ByteArray.empty else none
  | _ => none
noncomputable def fsWriteString (T e : TypeId) : FS := { om := [true, false], run := fun args K => match args with
  | [x, .p (.v (.string t))] => obK T e x fun s => bif roomB (s.size + t.size) then K [.p (.v (.int .i64 (t.size : Int))), .p (.v .nilIface), .ob T e (s ++ t)] else none
  | _ => none }
noncomputable def fsWriteByte (T e : TypeId) : FS := { om := [true, false], run := fun args K => match args with
  | [x, .p (.v (.int .u8 c))] => obK T e x fun s => bif roomB (s.size + 1) && decide (0 ≤ c) && decide (c < 256) then K [.p (.v .nilIface), .ob T e (s.push (UInt8.ofNat c.toNat))] else none
  | _ => none }
noncomputable def fsString (T e : TypeId) : FS := { om := [true], run := fun args K => match args with
  | [x] => obK T e x fun s => K [.p (.v (.string s)), .ob T e s]
  | _ => none }
noncomputable def fsLen (T e : TypeId) : FS := { om := [true], run := fun args K => match args with
  | [x] => obK T e x fun s => K [.p (.v (.int .i64 (s.size : Int))), .ob T e s]
  | _ => none }
section
variable {P : Program} {ρ : Ren} {R : Type} {res : R}
theorem ob_arg {F : Nat → Prop} {W : World} {T e : TypeId} {x : SV} {c : Value} {B : List Nat} {K : ByteArray → Option R} (h : RS P F W x c B) (hk : obK T e x K = some res) :
    ∃ s b p v, K s = some res ∧ c = .pointer (some ⟨b, 0, none⟩) ∧ (p = .pointer none ∨ p = .pointer (some ⟨b, 0, none⟩)) ∧ BV T e b p v (Lib.byteCells s.data.toList) W ∧ B = b :: v.ownBlock.toList ∧ bxv [x] [c] = [c] := by
  unfold obK at hk
  split at hk
  · obtain ⟨hc, hk1⟩ := bif_some hk
    clear hk
    simp only [Bool.and_eq_true] at hc
    have h1 := eqB hc.1
    have h2 := eqB hc.2
    subst h1 h2
    cases h with
    | ob q1 q2 q3 q4 => exact ⟨_, _, _, _, hk1, rfl, q2, ⟨q1, by rw [Lib.byteCells_length]; exact q3, q4⟩, rfl, rfl⟩
  · obtain ⟨hc, hk1⟩ := bif_some hk
    clear hk
    have h1 := eqB hc
    subst h1
    cases h with
    | bx q1 q2 q3 =>
      rename_i b cur B
      generalize hcur : cur.toList = l at q2
      cases q2 with
      | cons r1 r2 =>
        cases r2 with
        | cons r3 r4 =>
          cases r4 with
          | nil =>
            cases r1 with
            | p r1 =>
              cases r1 with
              | v =>
                cases r3 with
                | nl =>
                  have hcur' : cur = #[.pointer none, .slice none 0 0] := by apply Array.ext'; simpa using hcur
                  subst hcur'
                  exact ⟨ByteArray.empty, _, _, .slice none 0 0, hk1, rfl, .inl rfl, ⟨q1, World.ownsRowF_nil _ _ _ _, by simp [Value.ownBlock]⟩, rfl, rfl⟩
  · cases hk
theorem nodup_ob {T e : TypeId} {b : Nat} {p v : Value} {bs : List Value} {w : World} (h : BV T e b p v bs w) : (b :: v.ownBlock.toList).Nodup := by
  have := h.2.2
  cases hv : v.ownBlock with
  | none => simp
  | some g => rw [hv] at this; simp; exact fun e => this (by rw [e])
theorem ob_back {F : Nat → Prop} {W w' : World} {T e : TypeId} {args : List SV} {cargs : List Value} {b : Nat} {v : Value} {s : ByteArray} {xs : List SV} {vs : List Value}
    (h : Wrote T e b v (Lib.byteCells s.data.toList) W w') (hb : b < W.heap.size) (hF : ∀ k ∈ b :: v.ownBlock.toList, ¬ F k) (hlt : ∀ k, F k → k < W.heap.size) (hl : xs.length = vs.length) (hxs : RSs P F w' xs vs []) (hbx : bxv args cargs = [.pointer (some ⟨b, 0, none⟩)]) :
    Back P F W args cargs (b :: v.ownBlock.toList) (xs ++ [.ob T e s]) (tupV vs) w' := by
  obtain ⟨v', h1, h2, h3⟩ := h
  have hob : RSs P F w' [.ob T e s] [.pointer (some ⟨b, 0, none⟩)] ((b :: v'.ownBlock.toList) ++ []) :=
    .cons (.ob h1.1 (.inr rfl) (by have := h1.2.1; rwa [Lib.byteCells_length] at this) h1.2.2) .nil
  refine ⟨F, _, xs, [.ob T e s], vs, rfl, hl, rfl, by rw [hbx]; exact hxs.join hob, ?_, ?_, fun _ q => q, fun _ q => .inl q, fun k q => Nat.lt_of_lt_of_le (hlt k q) h2.size, ?_⟩
  · simpa using nodup_ob h1
  · intro k hk
    have hk : k = b ∨ v'.ownBlock = some k := by simpa using hk
    have hlt' : k < w'.heap.size := by
      rcases hk with rfl | q
      · exact h1.lt
      · exact (h1.2.1.lt k q).2
    rcases hk with rfl | q
    · exact ⟨hF k (by simp), hlt', .inr (by simp)⟩
    · rcases h3 k q with r | r
      · exact ⟨hF k (by simp [r]), hlt', .inr (by simp [r])⟩
      · exact ⟨fun hf => by have := hlt k hf; omega, hlt', .inl r⟩
  · exact h2.mono fun k q => by rcases q with q | q <;> simp [q]
theorem Seen.wrote {T e : TypeId} {b : Nat} {v : Value} {bs : List Value} {w w' : World} (h : Seen T e b (.pointer (some ⟨b, 0, none⟩)) v bs w w') : Wrote T e b v bs w w' :=
  ⟨v, h.1, h.2.mono fun k q => .inr q, fun k q => .inl q⟩
theorem ob_seen {F : Nat → Prop} {W w' : World} {T e : TypeId} {args : List SV} {cargs : List Value} {b : Nat} {p v : Value} {s : ByteArray} {xs : List SV} {vs : List Value} (hp : p = .pointer none ∨ p = .pointer (some ⟨b, 0, none⟩))
    (h : Seen T e b p v (Lib.byteCells s.data.toList) W w') (hb : b < W.heap.size) (hF : ∀ k ∈ b :: v.ownBlock.toList, ¬ F k) (hlt : ∀ k, F k → k < W.heap.size) (hl : xs.length = vs.length) (hxs : RSs P F w' xs vs []) (hbx : bxv args cargs = [.pointer (some ⟨b, 0, none⟩)]) :
    Back P F W args cargs (b :: v.ownBlock.toList) (xs ++ [.ob T e s]) (tupV vs) w' := by
  obtain ⟨h1, h2⟩ := h
  have hob : RSs P F w' [.ob T e s] [.pointer (some ⟨b, 0, none⟩)] ((b :: v.ownBlock.toList) ++ []) :=
    .cons (.ob h1.1 hp (by have := h1.2.1; rwa [Lib.byteCells_length] at this) h1.2.2) .nil
  refine ⟨F, _, xs, [.ob T e s], vs, rfl, hl, rfl, by rw [hbx]; exact hxs.join hob, ?_, ?_, fun _ q => q, fun _ q => .inl q, fun k q => Nat.lt_of_lt_of_le (hlt k q) h2.size, ?_⟩
  · simpa using nodup_ob h1
  · intro k hk
    have hk : k = b ∨ v.ownBlock = some k := by simpa using hk
    rcases hk with rfl | q
    · exact ⟨hF k (by simp), h1.lt, .inr (by simp)⟩
    · exact ⟨hF k (by simp [q]), (h1.2.1.lt k q).2, .inr (by simp [q])⟩
  · exact h2.mono fun k q => by simp [q]
theorem cells_append (s t : ByteArray) : Lib.byteCells s.data.toList ++ Lib.strCells t = Lib.byteCells (s ++ t).data.toList := by
  simp [Lib.byteCells, Lib.strCells]
theorem cells_push (s : ByteArray) (c : Int) (h0 : 0 ≤ c) (h1 : c < 256) : Lib.byteCells s.data.toList ++ [.int .u8 c] = Lib.byteCells (s.push (UInt8.ofNat c.toNat)).data.toList := by
  have : ((UInt8.ofNat c.toNat).toNat : Int) = c := by
    simp [UInt8.toNat_ofNat']
    omega
  simp only [Lib.byteCells, ByteArray.push, Array.toList_push, List.map_append, List.map_cons, List.map_nil, this]
theorem args1 {F : Nat → Prop} {W : World} {x : SV} {cs : Array Value} {B : List Nat} (h : RSs P F W [x] cs.toList B) : ∃ c B1, cs = #[c] ∧ RS P F W x c B1 ∧ B = B1 := by
  generalize hl : cs.toList = l at h
  cases h with
  | cons h1 h2 =>
    cases h2 with
    | nil =>
      refine ⟨_, _, ?_, h1, by simp⟩
      apply Array.ext'; simpa using hl
theorem args2 {F : Nat → Prop} {W : World} {x : SV} {y : PV} {cs : Array Value} {B : List Nat} (h : RSs P F W [x, .p y] cs.toList B) : ∃ c d B1, cs = #[c, d] ∧ RS P F W x c B1 ∧ RP F W y d ∧ B = B1 := by
  generalize hl : cs.toList = l at h
  cases h with
  | cons h1 h2 =>
    cases h2 with
    | cons h3 h4 =>
      cases h4 with
      | nil =>
        cases h3 with
        | p h3 =>
          refine ⟨_, _, _, ?_, h1, h3, by simp⟩
          apply Array.ext'; simpa using hl
theorem fn_of {g : Nat} {fn : Func} (hg : P.funcs[g]? = some fn) (hb : fn.body.isNone = false) (hn : (fn.name == "runtime.NumGoroutine") = false) : ∃ fn, P.funcs[g]? = some fn ∧ fn.body.isNone = false ∧ (fn.name == "runtime.NumGoroutine") = false := ⟨fn, hg, hb, hn⟩
theorem ok_WriteString (L : Lays.n166 P ρ) (X : Builder.Extra P ρ) (hfn : ∃ fn, P.funcs[ρ.f 166]? = some fn ∧ fn.body.isNone = false ∧ (fn.name == "runtime.NumGoroutine") = false) : FSound P (ρ.f 166) (fsWriteString (ρ.t 72) (ρ.t 5)) := by
  refine ⟨hfn, fun {R args K res} hk F W cargs B ha hn hB hF => ?_⟩
  simp only [fsWriteString] at hk
  split at hk
  · rename_i x t
    obtain ⟨c, d, B1, rfl, h1, h2, rfl⟩ := args2 ha
    obtain ⟨s, b, p, v, hk, rfl, hp, hv, rfl, hbx⟩ := ob_arg h1 hk
    obtain ⟨hr, hk⟩ := bif_some hk
    have hd := RP_v h2
    subst hd
    have hr' : s.size + t.size ≤ 140737488355328 := of_decide_eq_true hr
    refine Calls.mono (b_writeString L X hp t hv (by rw [Lib.byteCells_length]; exact hr')) fun e w' he => ?_
    obtain ⟨rfl, hw⟩ := he
    rw [cells_append] at hw
    exact ⟨_, hk, ob_back (xs := [.p (.v (.int .i64 (t.size : Int))), .p (.v .nilIface)]) (vs := [.int .i64 t.size, .nilIface]) hw hv.lt (fun k q => (hB k q).1) hF rfl (.cons (B := []) (Bs := []) (.p (.v _)) (.cons (B := []) (Bs := []) (.p (.v _)) .nil)) (by rw [bxv_cons, hbx]; rfl)⟩
  · cases hk
theorem ok_WriteByte (L : Lays.n167 P ρ) (X : Builder.Extra P ρ) (hfn : ∃ fn, P.funcs[ρ.f 167]? = some fn ∧ fn.body.isNone = false ∧ (fn.name == "runtime.NumGoroutine") = false) : FSound P (ρ.f 167) (fsWriteByte (ρ.t 72) (ρ.t 5)) := by
  refine ⟨hfn, fun {R args K res} hk F W cargs B ha hn hB hF => ?_⟩
  simp only [fsWriteByte] at hk
  split at hk
  · rename_i x t
    obtain ⟨c, d, B1, rfl, h1, h2, rfl⟩ := args2 ha
    obtain ⟨s, b, p, v, hk, rfl, hp, hv, rfl, hbx⟩ := ob_arg h1 hk
    obtain ⟨hr, hk⟩ := bif_some hk
    simp only [Bool.and_eq_true, decide_eq_true_eq] at hr
    have hd := RP_v h2
    subst hd
    have hr' : s.size + 1 ≤ 140737488355328 := of_decide_eq_true hr.1.1
    refine Calls.mono (b_writeByte L X hp t hv (by rw [Lib.byteCells_length]; exact hr')) fun e w' he => ?_
    obtain ⟨rfl, hw⟩ := he
    rw [cells_push s t hr.1.2 hr.2] at hw
    exact ⟨_, hk, ob_back (xs := [.p (.v .nilIface)]) (vs := [.nilIface]) hw hv.lt (fun k q => (hB k q).1) hF rfl (.cons (B := []) (Bs := []) (.p (.v _)) .nil) (by rw [bxv_cons, hbx]; rfl)⟩
  · cases hk
theorem ok_String (L : Lays.n169 P ρ) (X : Builder.Extra P ρ) (hfn : ∃ fn, P.funcs[ρ.f 169]? = some fn ∧ fn.body.isNone = false ∧ (fn.name == "runtime.NumGoroutine") = false) : FSound P (ρ.f 169) (fsString (ρ.t 72) (ρ.t 5)) := by
  refine ⟨hfn, fun {R args K res} hk F W cargs B ha hn hB hF => ?_⟩
  simp only [fsString] at hk
  split at hk
  · rename_i x
    obtain ⟨c, B1, rfl, h1, rfl⟩ := args1 ha
    obtain ⟨s, b, p, v, hk, rfl, hp, hv, rfl, hbx⟩ := ob_arg h1 hk
    refine Calls.mono (b_string L X s.data.toList hv) fun e w' he => ?_
    obtain ⟨rfl, hw⟩ := he
    have := ob_seen (args := [x]) (cargs := [.pointer (some ⟨b, 0, none⟩)]) (xs := [.p (.v (.string s))]) (vs := [.string s]) (P := P) (F := F) hp hw hv.lt (fun k q => (hB k q).1) hF rfl (.cons (B := []) (Bs := []) (.p (.v _)) .nil) hbx
    exact ⟨_, hk, this⟩
  · cases hk
theorem ok_Len (L : Lays.n170 P ρ) (hfn : ∃ fn, P.funcs[ρ.f 170]? = some fn ∧ fn.body.isNone = false ∧ (fn.name == "runtime.NumGoroutine") = false) : FSound P (ρ.f 170) (fsLen (ρ.t 72) (ρ.t 5)) := by
  refine ⟨hfn, fun {R args K res} hk F W cargs B ha hn hB hF => ?_⟩
  simp only [fsLen] at hk
  split at hk
  · rename_i x
    obtain ⟨c, B1, rfl, h1, rfl⟩ := args1 ha
    obtain ⟨s, b, p, v, hk, rfl, hp, hv, rfl, hbx⟩ := ob_arg h1 hk
    refine Calls.mono (b_len L hv) fun e w' he => ?_
    obtain ⟨rfl, rfl⟩ := he
    have hw : Seen (ρ.t 72) (ρ.t 5) b p v (Lib.byteCells s.data.toList) w' w' := ⟨hv, Keep.refl _ _⟩
    have := ob_seen (args := [x]) (cargs := [.pointer (some ⟨b, 0, none⟩)]) (xs := [.p (.v (.int .i64 (s.size : Int)))]) (vs := [.int .i64 (s.size : Int)]) (P := P) (F := F) hp hw hv.lt (fun k q => (hB k q).1) hF rfl (.cons (B := []) (Bs := []) (.p (.v _)) .nil) hbx
    rw [Lib.byteCells_length]
    exact ⟨_, hk, this⟩
  · cases hk
end
end Go.Proofs.Ytlplpkbhjddmeaa.Th


set_option linter.unusedVariables false
set_option linter.unusedSimpArgs false
set_option maxRecDepth 10000
namespace Go.Proofs.Ytlplpkbhjddmeaa.Th
open Go
variable {R : Type}
abbrev icnd {α : Type} (b : Bool) (x y : α) : α := match b with
  | true => x
  | false => y
abbrev chk1i (c : CK) (e : PV) (K : PV → Option R) : Option R :=
  match c with
  | .i k => getI k e fun x => K (.v (.int k x))
  | .b => getB e fun x => K (.v (.bool x))
  | .s => getS e fun x => K (.v (.string x))
  | .sl => getL e fun x => K (.sh x)
  | .o => icnd (e.leaf) (K e) (none)
abbrev chkLi : List CK → List PV → (List PV → Option R) → Option R
  | [], cs, K => unnil cs (K [])
  | c :: r, cs, K => uncons cs fun e cs => chk1i c e fun y => chkLi r cs fun ys => K (y :: ys)
abbrev chkEi (ag : Bool) (ks : List CK) (e : PV) (K : List PV → Option R) : Option R :=
  match ag with
  | true => unagg e fun cs => chkLi ks cs K
  | false => match ks with
    | [c] => chk1i c e fun y => K [y]
    | _ => none
abbrev chkTi (P : Program) (T : TypeId) (e : PV) (K : List PV → Option R) : Option R :=
  chkEi (isAggT P T) (cks P 20 T) e K
abbrev binKi (P : Program) (op : BinOp) (T : TypeId) (x y : PV) (K : PV → Option R) : Option R :=
  match x, y with
  | .v (.int k a), .v (.int k' b) => icnd (isShift op) (shI op k a b K) (icnd (ikEq k k') (binI op k a b K) (none))
  | .v (.string a), .v (.string b) => binS op a b K
  | .v (.bool a), .v (.bool b) => icnd (boolT P T) ((match op with
    | .eql => K (.v (.bool (a == b)))
    | .neq => K (.v (.bool (!(a == b))))
    | _ => none)) (none)
  | _, _ => none
abbrev callKi (fs : FS) (args : List RV) (K : Out → Option R) : Option R :=
  match argsOf fs.om args with
  | some (avs, us, bs) =>
    icnd (distinct (us.map (·.1) ++ bs)) (fs.run avs fun res =>
        let n := res.length - bs.length
        K ⟨tupOf (res.take n), none, us ++ zipB bs (res.drop n), bs⟩) (none)
  | none => none
abbrev load1Ki (P : Program) (r : RV) (K : Out → Option R) : Option R :=
  match r with
  | .box s off _ cs => icnd (Nat.blt off cs.length) ((match cs.getD off .dead with
      | .p y => K (outP y)
      | .nl => K (out .nl)
      | .own _ _ => K (outR (.o s (some off)))
      | _ => none)) (none)
  | .el _ _ T' es i off => chkTi P T' (es.getD i (.v (.bool false))) fun ys => icnd (Nat.blt off ys.length) (K (outP (ys.getD off (.v (.bool false))))) (none)
  | .pv (.fb cs) => uncons cs fun y _ => K (outP y)
  | _ => none
abbrev loadNKi (P : Program) (n : Nat) (r : RV) (K : Out → Option R) : Option R :=
  match r with
  | .box s off Tb cs => icnd (Nat.ble (off + n) cs.length) ((match frzL ((cs.drop off).take n) with
      | some ys => K ⟨.p (.agg ys), none, (icnd (anyOwn ((cs.drop off).take n)) ([(s, .bx Tb (splice cs off ys))]) ([])), []⟩
      | none => none)) (none)
  | .el _ _ T' es i off => chkTi P T' (es.getD i (.v (.bool false))) fun ys => icnd (Nat.ble (off + n) ys.length) (K (outP (.agg ((ys.drop off).take n)))) (none)
  | .pv (.fb cs) => icnd (Nat.ble n cs.length) (K (outP (.agg (cs.take n)))) (none)
  | _ => none
abbrev store1Ki (P : Program) (r : RV) (x : Operand) (y : RV) (K : Out → Option R) : Option R :=
  match r with
  | .box s off Tb cs => icnd (Nat.blt off cs.length) ((match y with
      | .pv z => icnd (z.leaf) (K ⟨.dead, none, [(s, .bx Tb (cs.set off (.p z)))], [s]⟩) (none)
      | .nl => K ⟨.dead, none, [(s, .bx Tb (cs.set off .nl))], [s]⟩
      | .own s2 cx2 T2 es2 => icnd (Nat.beq s2 s) (none) (icnd (isDirect x s2 cx2) (K ⟨.dead, none, [(s, .bx Tb (cs.set off (.own T2 es2))), (s2, .dead)], [s]⟩) (K ⟨.dead, none, [(s, .bx Tb (cs.set off (.p (.sh es2)))), setPl s2 cx2 (.p (.sh es2))], [s]⟩))
      | _ => none)) (none)
  | .el s cx T' es i off => match y with
      | .pv z => icnd (z.leaf) (chkTi P T' (es.getD i (.v (.bool false))) (fun ys => icnd (Nat.blt off ys.length) (K ⟨.dead, none, [setPl s cx (.own T' (es.set i (mkE (isAggT P T') (ys.set off z))))], []⟩) (none))) (none)
      | .nl => chkTi P T' (es.getD i (.v (.bool false))) fun ys => icnd (Nat.blt off ys.length) (K ⟨.dead, none, [setPl s cx (.own T' (es.set i (mkE (isAggT P T') (ys.set off (.sh [])))))], []⟩) (none)
      | .own s2 cx2 _ es2 => icnd (Nat.beq s2 s) (none) (chkTi P T' (es.getD i (.v (.bool false))) fun ys => icnd (Nat.blt off ys.length) (K ⟨.dead, none, [setPl s cx (.own T' (es.set i (mkE (isAggT P T') (ys.set off (.sh es2))))), setPl s2 cx2 (.p (.sh es2))], []⟩) (none))
      | _ => none
  | _ => none
abbrev storeNKi (P : Program) (n : Nat) (r : RV) (y : RV) (K : Out → Option R) : Option R :=
  match y with
  | .pv (.agg zs) => icnd (Nat.beq zs.length n && leafs zs) ((match r with
      | .box s off Tb cs => icnd (Nat.ble (off + n) cs.length) (K ⟨.dead, none, [(s, .bx Tb (splice cs off zs))], [s]⟩) (none)
      | .el s cx T' es i off => chkTi P T' (es.getD i (.v (.bool false))) fun ys => icnd (Nat.ble (off + n) ys.length) (K ⟨.dead, none, [setPl s cx (.own T' (es.set i (mkE (isAggT P T') (spliceP ys off zs))))], []⟩) (none)
      | _ => none)) (none)
  | _ => none
abbrev appendKi (n bytes : Nat) (E : TypeId) (s x : RV) (K : Out → Option R) : Option R :=
  match s with
  | .own s1 cx T es => icnd (Nat.beq T E) ((match x with
      | .nl => K ⟨.own T es, none, [setPl s1 cx .dead], []⟩
      | .pv (.sh es2) => bif hdSz n es2 && lenOK (es.length + es2.length) bytes then K ⟨.own T (es ++ es2), none, [setPl s1 cx .dead], []⟩ else none
      | .own s2 _ T2 es2 => icnd (Nat.beq T2 E && !(Nat.beq s1 s2)) ((bif lenOK (es.length + es2.length) bytes then K ⟨.own T (es ++ es2), none, [setPl s1 cx .dead], []⟩ else none)) (none)
      | _ => none)) (none)
  | .nl => (match x with
      | .nl => K (out .nl)
      | .pv (.sh es2) => bif hdSz n es2 && lenOK es2.length bytes then K (out (.own E es2)) else none
      | .own _ _ T2 es2 => icnd (Nat.beq T2 E) ((bif lenOK es2.length bytes then K (out (.own E es2)) else none)) (none)
      | _ => none)
  | _ => none
abbrev builtinKA (app : Nat → Nat → TypeId → RV → RV → (Out → Option R) → Option R) (P : Program) (b : Builtin) (tys : List TypeId) (args : List RV) (K : Out → Option R) : Option R :=
  match b, args with
  | .len, [x] => icnd (lenT P tys x) (lenK x K) (none)
  | .append, [s, x] => (match tys with
      | [t, t2] => icnd (Nat.beq t t2) ((match elemT P t with
          | some E => (match sizeT P E, bytesT P E with
              | some n, some bytes => icnd (Nat.blt 0 n && hasZero P E) (app n bytes E s x K) (none)
              | _, _ => none)
          | none => none)) (none)
      | _ => none)
  | .min, [.pv (.v (.int k a)), .pv (.v (.int k' b))] => icnd (ikEq k k') (K (outP (.v (.int k (minI a b))))) (none)
  | .min, [.pv (.v (.int k a)), .pv (.v (.int k' b)), .pv (.v (.int k'' c))] => icnd (ikEq k k' && ikEq k k'') (K (outP (.v (.int k (minI (minI a b) c))))) (none)
  | .max, [.pv (.v (.int k a)), .pv (.v (.int k' b))] => icnd (ikEq k k') (K (outP (.v (.int k (maxI a b))))) (none)
  | _, _ => none
abbrev builtinKi (P : Program) (b : Builtin) (tys : List TypeId) (args : List RV) (K : Out → Option R) : Option R := builtinKA appendKi P b tys args K
abbrev bytesKi (P : Program) (src : TypeId) (es : List PV) (K : Out → Option R) : Option R :=
  match elemT P src with
  | some e => (match P.underlying e with
      | some (.int .u8) => bif allU8 es then K (outP (.v (.string (strOf es)))) else none
      | _ => none)
  | none => none
abbrev convKi (P : Program) (src dst : TypeId) (x : RV) (K : Out → Option R) : Option R :=
  icnd (!(knownT P src)) (none) (match P.underlying dst, x with
  | some (.int k), .pv (.v (.int _ n)) => K (outP (.v (.int k (k.wrap n))))
  | some .string, .pv (.v (.string s)) => K (outP (.v (.string s)))
  | some .string, .pv (.sh es) => bytesKi P src es K
  | some .string, .own _ _ _ es => bytesKi P src es K
  | some .string, .nl => bytesKi P src [] K
  | some (.slice _), .pv (.v (.string s)) => icnd (isStr P src && isU8s P dst) ((bif lenOK s.size 1 then K (outP (.sh (bytesOf s))) else none)) (none)
  | _, _ => none)
abbrev sliceKi (P : Program) (T : TypeId) (x : RV) (lo hi : Option RV) (K : Out → Option R) : Option R :=
  match P.underlying T, x with
  | some .string, .pv (.v (.string s)) => (match intOpd lo 0, intOpd hi (s.size : Int) with
      | some l, some h => bif cutR l h s.size then K (outP (.v (.string (s.extract l.toNat h.toNat)))) else none
      | _, _ => none)
  | some (.slice E), .pv (.sh es) => (match sizeT P E, intOpd lo 0, intOpd hi (es.length : Int) with
      | some n, some l, some h => bif hdSz n es && cutR l h es.length then K (outP (.sh ((es.take h.toNat).drop l.toNat))) else none
      | _, _, _ => none)
  | some (.slice E), .own s cx T' es => (match sizeT P E, intOpd lo 0, intOpd hi (es.length : Int) with
      | some n, some l, some h => icnd (Nat.beq T' E) ((bif cutR l h es.length then K ⟨.p (.sh ((es.take h.toNat).drop l.toNat)), none, [setPl s cx (.p (.sh es))], []⟩ else none)) (none)
      | _, _, _ => none)
  | some (.slice E), .nl => icnd (hasSize P E) ((match intOpd lo 0, intOpd hi 0 with
      | some l, some h => bif cutR l h 0 then K (out .nl) else none
      | _, _ => none)) (none)
  | _, _ => none
abbrev indexAddrKi (P : Program) (T : TypeId) (x i : RV) (K : Out → Option R) : Option R :=
  match elemT P T, i with
  | some E, .pv (.v (.int _ i)) => (match sizeT P E with
      | some n => (match x with
          | .own s cx T' es => icnd (Nat.beq T' E) ((bif inR i es.length then K (outR (.e s (cx.map (·.1)) T' i.toNat 0)) else none)) (none)
          | .pv (.sh es) => bif inR i es.length then chkTi P E (es.getD i.toNat (.v (.bool false))) (fun ys => icnd (Nat.beq ys.length n) (K (outP (.fb ys))) (none)) else none
          | _ => none)
      | none => none)
  | _, _ => none
abbrev opKA (bi : Program → Builtin → List TypeId → List RV → (Out → Option R) → Option R) (sl : Program → TypeId → RV → Option RV → Option RV → (Out → Option R) → Option R) (cv : Program → TypeId → TypeId → RV → (Out → Option R) → Option R) (P : Program) (env : Env) (o : Op) (ty : TypeId) (ρ : Operand → RV) (K : Out → Option R) : Option R :=
  match o with
  | .move x => moveK (ρ x) K
  | .assign x => (match ρ x with
      | .own s cx T es => icnd (isDirect x s cx) (K ⟨.own T es, none, [(s, .dead)], []⟩) (K ⟨.p (.sh es), none, [setPl s cx (.p (.sh es))], []⟩)
      | .pv y => K (outP y)
      | .nl => K (out .nl)
      | .tup s l => K ⟨.tup l, none, [(s, .dead)], []⟩
      | _ => none)
  | .pick c a b => (match ρ c with
      | .pv (.v (.bool t)) => (match ρ a, ρ b with
          | .pv (.v (.bool x)), .pv (.v (.bool y)) => K (outP (.v (.bool (bif t then x else y))))
          | ra, rb => bif t then moveK ra K else moveK rb K)
      | _ => none)
  | .alloc T => (match zeroT P T with
      | some zs => icnd (oneCells zs) (K (out (.bx T (zs.map zsv)))) (none)
      | none => none)
  | .box T x => (match sizeT P T with
      | some n => (match ρ x with
          | .pv y => icnd (Nat.beq (cellsOf y).length n && leafs (cellsOf y)) (K (out (.bx T ((cellsOf y).map .p)))) (none)
          | .nl => icnd (Nat.beq n 1) (K (out (.bx T [.nl]))) (none)
          | .own s cx T2 es => icnd (Nat.beq n 1) ((icnd (isDirect x s cx) (K ⟨.bx T [.own T2 es], none, [(s, .dead)], []⟩) (K ⟨.bx T [.p (.sh es)], none, [setPl s cx (.p (.sh es))], []⟩))) (none)
          | _ => none)
      | none => none)
  | .build T parts => (match P.underlying T, zeroT P T, valsOf (parts.toList.map fun q => (q.2, ρ q.2)) with
      | some (.struct fs), some zs, some (ys, us) => icnd (distinct (us.map (·.1)) && oneCells zs && allInfo P fs.toList) ((match fillS P T ((parts.toList.map (·.1)).zip ys) (zs.map cpv) with
          | some cs => K ⟨.p (.agg cs), none, us, []⟩
          | none => none)) (none)
      | _, _, _ => none)
  | .buildSlice T len parts => (match elemT P T, valsOf (parts.toList.map fun q => (q.2, ρ q.2)) with
      | some E, some (ys, us) => (match zeroE P E, sizeT P E with
          | some ze, some n => icnd (distinct (us.map (·.1)) && Nat.ble (len * n) 1000 && okElems n len ((parts.toList.map (·.1)).zip ys)) (K ⟨.own E (setAll ((parts.toList.map (·.1)).zip ys) (List.replicate len ze)), none, us, []⟩) (none)
          | _, _ => none)
      | _, _ => none)
  | .load T x => icnd (!(knownT P T)) (none) (icnd (isAggT P T) ((match sizeT P T with
      | some n => loadNKi P n (ρ x) K
      | none => none)) (load1Ki P (ρ x) K))
  | .store T x y => icnd (isAggT P T) ((match sizeT P T with
      | some n => storeNKi P n (ρ x) (ρ y) K
      | none => none)) ((match sizeT P T with
      | some n => icnd (Nat.beq n 1) (store1Ki P (ρ x) y (ρ y) K) (none)
      | none => none))
  | .nilCheck x => (match ρ x with
      | .box s off Tb cs => moveK (.box s off Tb cs) K
      | .ob s T e bs => moveK (.ob s T e bs) K
      | .el s cx T es i off => moveK (.el s cx T es i off) K
      | .pv (.fb cs) => K (outP (.fb cs))
      | .pv (.clo f cs) => K (outP (.clo f cs))
      | .pv (.v (.func (.func f) a b)) => K (outP (.v (.func (.func f) a b)))
      | _ => none)
  | .binOp op T x y _ => (match ρ x, ρ y with
      | .pv a, .pv b => binKi P op T a b fun z => K (outP z)
      | _, _ => none)
  | .unOp op _ x => (match ρ x with
      | .pv a => unK op a fun z => K (outP z)
      | _ => none)
  | .convert s d x => cv P s d (ρ x) K
  | .makeFunc (.func f) first caps => (match first.toList, valsOf (caps.toList.map fun q => (q, ρ q)) with
      | [], some (ys, us) => icnd (distinct (us.map (·.1))) (K ⟨.p (.clo f ys), none, us, []⟩) (none)
      | _, _ => none)
  | .makeSlice T l c => (match elemT P T, ρ l, ρ c with
      | some E, .pv (.v (.int _ l)), .pv (.v (.int _ c)) => (match zeroE P E, bytesT P E with
          | some ze, some bytes => bif decide (0 ≤ l) && decide (l ≤ c) && lenOK c.toNat bytes then K (out (.own E (List.replicate l.toNat ze))) else none
          | _, _ => none)
      | _, _, _ => none)
  | .slice T x lo hi mx => icnd (noneB mx) (sl P T (ρ x) (lo.map ρ) (hi.map ρ) K) (none)
  | .fieldAddr S x f => (match foff P S f with
      | some (o, fT) => icnd (posT P fT) ((match ρ x with
          | .box s off _ _ => K (outR (.b s (off + o)))
          | .el s cx T _ i off => K (outR (.e s (cx.map (·.1)) T i (off + o)))
          | .pv (.fb cs) => K (outP (.fb (cs.drop o)))
          | _ => none)) (none)
      | none => none)
  | .field S x f => (match foff P S f, ρ x with
      | some (o, T), .pv (.agg cs) => icnd (!(knownT P T)) (none) ((match sizeT P T with
          | some n => icnd (isAggT P T) ((icnd (Nat.ble (o + n) cs.length) (K (outP (.agg ((cs.drop o).take n)))) (none))) ((icnd (Nat.blt o cs.length) (K (outP (cs.getD o (.v (.bool false))))) (none)))
          | none => none))
      | _, _ => none)
  | .indexAddr T x i => indexAddrKi P T (ρ x) (ρ i) K
  | .index T x i => (match P.underlying T, ρ x, ρ i with
      | some .string, .pv (.v (.string s)), .pv (.v (.int _ i)) => bif inR i s.size then K (outP (.v (.int .u8 (byteAt s i)))) else none
      | _, _, _ => none)
  | .extract x i => (match ρ x with
      | .tup s l => (match l.getD i .dead with
          | .p y => K (outP y)
          | .nl => K (out .nl)
          | .own T es => K ⟨.own T es, none, [(s, .tup (l.set i .dead))], []⟩
          | .bx T cs => K ⟨.bx T cs, none, [(s, .tup (l.set i .dead))], []⟩
          | .ob T e bs => K ⟨.ob T e bs, none, [(s, .tup (l.set i .dead))], []⟩
          | _ => none)
      | _ => none)
  | .call c => (match c.callee with
      | .builtin b => bi P b c.argTypes.toList (c.args.toList.map ρ) K
      | .value f => (match ρ f with
          | .pv (.v (.func (.func g) fi ca)) => (match fi.toList, ca.toList, env g with
              | [], [], some fs => callKi fs (c.args.toList.map ρ) K
              | _, _, _ => none)
          | .pv (.clo g caps) => (match env g with
              | some fs => callKi fs (c.args.toList.map ρ ++ caps.map RV.pv) K
              | none => none)
          | _ => none)
      | _ => none)
  | _ => none
abbrev opKi (P : Program) (env : Env) (o : Op) (ty : TypeId) (ρ : Operand → RV) (K : Out → Option R) : Option R := opKA builtinKi sliceKi convKi P env o ty ρ K
abbrev opFA (ok : Program → Env → Op → TypeId → (Operand → RV) → (Out → Option R) → Option R) (P : Program) (env : Env) (fz : List Nat) (o : Oper) (ρ : Operand → RV) (K : Out → Option R) : Option R :=
  match o.op with
  | .move x => (match o.dst with
    | some d => icnd (memN fz d) (freezeK (ρ x) K) (moveK (ρ x) K)
    | none => moveK (ρ x) K)
  | op => ok P env op o.type ρ K
abbrev opFi (P : Program) (env : Env) (fz : List Nat) (o : Oper) (ρ : Operand → RV) (K : Out → Option R) : Option R := opFA opKi P env fz o ρ K
abbrev goOi (P : Program) (env : Env) (fz : List Nat) (N : Nat × List Nat) (o : Oper) (st : St) (K : St → Out → Option R) : Option R :=
  opFi P env fz o (opd st) fun r => icnd (r.fits N o.dst) (K st r) (none)
abbrev skOi (N : Nat × List Nat) (o : Oper) (st : St) (K : St → Out → Option R) : Option R :=
  icnd (skipOut.fits N o.dst) (K st skipOut) (none)
abbrev operOA (go : (Program → Env → List Nat → Nat × List Nat → Oper → St → (St → Out → Option R) → Option R)) (sk : Nat × List Nat → Oper → St → (St → Out → Option R) → Option R) (P : Program) (env : Env) (fz : List Nat) (N : Nat × List Nat) (ops : List Oper) (o : Oper) (st : St) (K : St → Out → Option R) : Option R :=
  match o.guard with
  | none => go P env fz N o st K
  | some (j, want) => match (ops[j]?).bind (·.dst) with
    | none => none
    | some d => match rfind st.ral d with
      | some _ => none
      | none => match st.fr d with
        | .p (.v (.bool t)) =>
          bif t then (icnd (want) (go P env fz N o (setB st d true) K) (sk N o (setB st d true) K))
          else (icnd (want) (sk N o (setB st d false) K) (go P env fz N o (setB st d false) K))
        | .p (.v (.tuple _)) => sk N o st K
        | _ => none
abbrev operOi (P : Program) (env : Env) (fz : List Nat) (N : Nat × List Nat) (ops : List Oper) (o : Oper) (st : St) (K : St → Out → Option R) : Option R := operOA goOi skOi P env fz N ops o st K
abbrev opsEi (P : Program) (env : Env) (fz : List Nat) (N : Nat × List Nat) (ops : List Oper) : List Oper → St → (St → Option R) → Option R
  | [], st, K => K st
  | o :: r, st, K => operOi P env fz N ops o st fun st' out => opsEi P env fz N ops r (st'.put o.dst out) K
abbrev regEi (P : Program) (env : Env) (fz : List Nat) (N : Nat × List Nat) (ops : List Oper) (draw : Bool) (fr : Fr) (K : Fr → Option R) : Option R :=
  icnd (draw) (none) (opsEi P env fz N ops ops ⟨fr, []⟩ fun st => K st.fr)
abbrev finKi (P : Program) (ann : Ann) (fn : Func) (args : List SV) (fr : Fr) (K : List SV → Option R) : Option R :=
  match resL P fr ann.rm fn.results.toList, backs fr (backIx 0 args) with
  | some rs, some bs => icnd (distinct (resTmps fn.results.toList ++ backIx 0 args) && Nat.ble rs.length 4) (K (rs ++ bs)) (none)
  | _, _ => none
abbrev evOi (P : Program) (env : Env) (ann : Ann) (N : Nat × List Nat) (lo cu : Orc R) : Code → Fr → Kc R → Option R
  | .skip, fr, K => K .normal fr
  | .region _ ops draw, fr, K => regEi P env ann.frz N ops.toList draw fr fun fr' => K .normal fr'
  | .seq a b, fr, K => evOi P env ann N lo cu a fr fun e fr' => match e with
    | .normal => (match firstId b with
        | some i => icnd (isA ann.cuts i) (cu i (snap (liveA ann.cuts i) fr') K) (evOi P env ann N lo cu b fr' K)
        | none => evOi P env ann N lo cu b fr' K)
    | .exit i => K (.exit i) fr'
    | .ret => K .ret fr'
  | .cond c a b, fr, K => (match opd ⟨fr, []⟩ c with
    | .pv (.v (.bool t)) => bif t then evOi P env ann N lo cu a fr K else evOi P env ann N lo cu b fr K
    | _ => none)
  | .block id a, fr, K => evOi P env ann N lo cu a fr fun e fr' => match e with
    | .exit i => icnd (Nat.beq i id) (K .normal fr') (K (.exit i) fr')
    | .normal => K .normal fr'
    | .ret => K .ret fr'
  | .loop a, fr, K => (match firstId a with
    | some i => icnd (isA ann.loops i) (lo i (snap (liveA ann.loops i) fr) K) (none)
    | none => none)
  | .exit i, fr, K => K (.exit i) fr
  | .ret, fr, K => K .ret fr
  | _, _, _ => none
abbrev evFnOi (P : Program) (env : Env) (ann : Ann) (lo cu : Orc R) (fn : Func) (args : List SV) (K : List SV → Option R) : Option R :=
  match fn.body with
  | some c => icnd (Nat.ble args.length fn.ntmps) (evOi P env ann (fn.ntmps, backIx 0 args) lo cu c (argFr args) fun e fr => match e with
      | .exit _ => none
      | .normal => finKi P ann fn args fr K
      | .ret => finKi P ann fn args fr K) (none)
  | none => none
theorem icnd_cond {α : Type} (b : Bool) (x y : α) : icnd b x y = cond b x y := by cases b <;> rfl
theorem cond_and {α : Type} (a b : Bool) (x y : α) : (bif a && b then x else y) = (bif a then (bif b then x else y) else y) := by cases a <;> cases b <;> rfl
theorem chk1i_eq : @chk1i R = @chk1 R := by kernel_rfl
theorem chkLi_eq : @chkLi R = @chkL R := by kernel_rfl
theorem chkTi_eq : @chkTi R = @chkT R := by kernel_rfl
theorem binKi_eq : @binKi R = @binK R := by kernel_rfl
theorem callKi_eq : @callKi R = @callK R := by kernel_rfl
theorem load1Ki_eq : @load1Ki R = @load1K R := by kernel_rfl
theorem loadNKi_eq : @loadNKi R = @loadNK R := by kernel_rfl
theorem store1Ki_eq : @store1Ki R = @store1K R := by kernel_rfl
theorem storeNKi_eq : @storeNKi R = @storeNK R := by kernel_rfl
theorem indexAddrKi_eq : @indexAddrKi R = @indexAddrK R := by kernel_rfl
theorem bytesKi_eq : @bytesKi R = @bytesK R := by kernel_rfl
theorem appendKi_eq : @appendKi R = @appendK R := by
  funext n bytes E s x K
  unfold appendKi appendK
  simp only [icnd_cond, cond_and]
  kernel_rfl
theorem convKi_eq : @convKi R = @convK R := by
  funext P s d x K
  unfold convKi convK
  simp only [icnd_cond, cond_and, bytesKi_eq]
  kernel_rfl
theorem sliceKi_eq : @sliceKi R = @sliceK R := by
  funext P T x lo hi K
  unfold sliceKi sliceK
  simp only [icnd_cond, cond_and]
  kernel_rfl
theorem builtinKA_eq : @builtinKA R appendK = @builtinK R := by kernel_rfl
theorem builtinKi_eq : @builtinKi R = @builtinK R := by
  rw [← builtinKA_eq]
  funext P b tys args K
  rw [show @builtinKi R = fun P b tys args K => builtinKA appendKi P b tys args K from rfl, appendKi_eq]
theorem opKA_eq : @opKA R builtinK sliceK convK = @opK R := by kernel_rfl
theorem opKi_eq : @opKi R = @opK R := by
  rw [← opKA_eq]
  funext P env o ty ρ K
  rw [show @opKi R = fun P env o ty ρ K => opKA builtinKi sliceKi convKi P env o ty ρ K from rfl, builtinKi_eq, sliceKi_eq, convKi_eq]
theorem opFA_eq : @opFA R opK = @opF R := by kernel_rfl
theorem opFi_eq : @opFi R = @opF R := by
  rw [← opFA_eq]
  funext P env fz o ρ K
  rw [show @opFi R = fun P env fz o ρ K => opFA opKi P env fz o ρ K from rfl, opKi_eq]
theorem goOi_eq : @goOi R = @goO R := by
  funext P env fz N o st K
  unfold goOi goO
  rw [opFi_eq]
  kernel_rfl
theorem skOi_eq : @skOi R = @skO R := by kernel_rfl
theorem operOA_eq : @operOA R goO skO = @operO R := by kernel_rfl
theorem operOi_eq : @operOi R = @operO R := by
  rw [← operOA_eq]
  funext P env fz N ops o st K
  rw [show @operOi R = fun P env fz N ops o st K => operOA goOi skOi P env fz N ops o st K from rfl, goOi_eq, skOi_eq]
theorem opsEi_eq (P : Program) (env : Env) (fz : List Nat) (N : Nat × List Nat) (ops : List Oper) : ∀ (l : List Oper) (st : St) (K : St → Option R), opsEi P env fz N ops l st K = opsE P env fz N ops l st K
  | [], st, K => rfl
  | o :: r, st, K => by
    show operOi P env fz N ops o st (fun st' out => opsEi P env fz N ops r (st'.put o.dst out) K) = operO P env fz N ops o st (fun st' out => opsE P env fz N ops r (st'.put o.dst out) K)
    rw [operOi_eq]
    congr 1
    funext st' out
    exact opsEi_eq P env fz N ops r _ K
theorem regEi_eq : @regEi R = @regE R := by
  funext P env fz N ops draw fr K
  unfold regEi regE
  cases draw with
  | true => rfl
  | false => exact opsEi_eq P env fz N ops ops _ _
theorem finKi_eq : @finKi R = @finK R := by kernel_rfl
theorem evOi_eq {P : Program} {env : Env} {ann : Ann} {N : Nat × List Nat} {lo cu : Orc R} : ∀ (c : Code) (fr : Fr) (K : Kc R), evOi P env ann N lo cu c fr K = evO P env ann N lo cu c fr K := by
  intro c
  induction c with
  | region id ops draw =>
    intro fr K
    show regEi P env ann.frz N ops.toList draw fr _ = regE P env ann.frz N ops.toList draw fr _
    rw [regEi_eq]
  | seq a b iha ihb =>
    intro fr K
    have h : ∀ fr K, evOi P env ann N lo cu b fr K = evO P env ann N lo cu b fr K := ihb
    have hf : evOi P env ann N lo cu b = evO P env ann N lo cu b := funext fun fr => funext fun K => h fr K
    show evOi P env ann N lo cu a fr (fun e fr' => match e with
      | .normal => (match firstId b with
          | some i => icnd (isA ann.cuts i) (cu i (snap (liveA ann.cuts i) fr') K) (evOi P env ann N lo cu b fr' K)
          | none => evOi P env ann N lo cu b fr' K)
      | .exit i => K (.exit i) fr'
      | .ret => K .ret fr') = _
    rw [iha, hf]
    kernel_rfl
  | cond c a b iha ihb =>
    intro fr K
    have h1 : evOi P env ann N lo cu a = evO P env ann N lo cu a := funext fun fr => funext fun K => iha fr K
    have h2 : evOi P env ann N lo cu b = evO P env ann N lo cu b := funext fun fr => funext fun K => ihb fr K
    show (match opd ⟨fr, []⟩ c with
      | .pv (.v (.bool t)) => bif t then evOi P env ann N lo cu a fr K else evOi P env ann N lo cu b fr K
      | _ => none) = _
    rw [h1, h2]
    kernel_rfl
  | block id a ih =>
    intro fr K
    show evOi P env ann N lo cu a fr (fun e fr' => match e with
      | .exit i => icnd (Nat.beq i id) (K .normal fr') (K (.exit i) fr')
      | .normal => K .normal fr'
      | .ret => K .ret fr') = _
    rw [ih]
    kernel_rfl
  | loop a ih => intro fr K; kernel_rfl
  | _ => intro fr K; rfl
theorem evC_evOi {P : Program} {env : Env} {ann : Ann} {n : Nat} {N : Nat × List Nat} {lo cu : Orc R} (c : Code) (h : allP (PartOK P env ann n N lo cu) (partsOf ann c)) (fr : Fr) (K : Kc R) :
    evC P env ann n N c fr K = evOi P env ann N lo cu c fr K := by rw [evC_evO c h, evOi_eq]
theorem evFn_evOi {P : Program} {env : Env} {ann : Ann} {n : Nat} {lo cu : Orc R} {fn : Func} {c : Code} (hc : fn.body = some c) {args : List SV} (h : allP (PartOK P env ann n (fn.ntmps, backIx 0 args) lo cu) (partsOf ann c)) (K : List SV → Option R) :
    evFn P env ann n fn args K = evFnOi P env ann lo cu fn args K := by
  rw [evFn_evO hc h]
  unfold evFnOi evFnO
  have h1 : evOi P env ann (fn.ntmps, backIx 0 args) lo cu = evO P env ann (fn.ntmps, backIx 0 args) lo cu := funext fun c => funext fun fr => funext fun K => evOi_eq c fr K
  rw [h1, finKi_eq]
  rw [hc]
  exact (icnd_cond _ _ _).symm
end Go.Proofs.Ytlplpkbhjddmeaa.Th


set_option linter.unusedVariables false
namespace Go.Proofs.Ytlplpkbhjddmeaa.Th
open Go
universe u
variable {α : Type u}
abbrev dCons (l : List SV) (d : α) (f : SV → List SV → α) : α := match l with
  | x :: r => f x r
  | [] => d
abbrev dNil (l : List SV) (d a : α) : α := match l with
  | [] => a
  | _ :: _ => d
abbrev qCons (l : List PV) (d : α) (f : PV → List PV → α) : α := match l with
  | x :: r => f x r
  | [] => d
abbrev qNil (l : List PV) (d a : α) : α := match l with
  | [] => a
  | _ :: _ => d
abbrev dP (x : SV) (d : α) (f : PV → α) : α := match x with
  | .p y => f y
  | _ => d
abbrev dDead (x : SV) (d a : α) : α := match x with
  | .dead => a
  | _ => d
abbrev dNl (x : SV) (d a : α) : α := match x with
  | .nl => a
  | _ => d
abbrev dOwn (T : Nat) (x : SV) (d : α) (f : List PV → α) : α := match x with
  | .own T' es => bif Nat.beq T' T then f es else d
  | _ => d
abbrev dBx (T : Nat) (x : SV) (d : α) (f : List SV → α) : α := match x with
  | .bx T' es => bif Nat.beq T' T then f es else d
  | _ => d
abbrev dTup (x : SV) (d : α) (f : List SV → α) : α := match x with
  | .tup es => f es
  | _ => d
abbrev dOb (T e : Nat) (x : SV) (d : α) (f : ByteArray → α) : α := match x with
  | .ob T' e' b => bif Nat.beq T' T && Nat.beq e' e then f b else d
  | _ => d
abbrev dInt (k : IntKind) (x : PV) (d : α) (f : Int → α) : α := match x with
  | .v (.int k' v) => bif ikEq k k' then f v else d
  | _ => d
abbrev dBool (x : PV) (d : α) (f : Bool → α) : α := match x with
  | .v (.bool v) => f v
  | _ => d
abbrev dStr (x : PV) (d : α) (f : ByteArray → α) : α := match x with
  | .v (.string v) => f v
  | _ => d
abbrev dSh (x : PV) (d : α) (f : List PV → α) : α := match x with
  | .sh v => f v
  | _ => d
abbrev dAgg (x : PV) (d : α) (f : List PV → α) : α := match x with
  | .agg v => f v
  | _ => d
abbrev dFb (x : PV) (d : α) (f : List PV → α) : α := match x with
  | .fb v => f v
  | _ => d
abbrev dClo (g : Nat) (x : PV) (d : α) (f : List PV → α) : α := match x with
  | .clo g' v => bif Nat.beq g' g then f v else d
  | _ => d
abbrev dFn (g : Nat) (x : PV) (d a : α) : α := match x with
  | .v (.func (.func g') l c) => (match l.toList, c.toList with
    | [], [] => bif Nat.beq g' g then a else d
    | _, _ => d)
  | _ => d
abbrev dNilIface (x : PV) (d a : α) : α := match x with
  | .v .nilIface => a
  | _ => d
abbrev dNilFunc (x : PV) (d a : α) : α := match x with
  | .v .nilFunc => a
  | _ => d
abbrev dNilPtr (x : PV) (d a : α) : α := match x with
  | .v (.pointer none) => a
  | _ => d
abbrev dTup0 (x : PV) (d a : α) : α := match x with
  | .v (.tuple c) => (match c.toList with
    | [] => a
    | _ => d)
  | _ => d
section
variable {Q : α → Prop} {d a : α}
theorem dCons_ind {l : List SV} {f : SV → List SV → α} (h1 : ∀ x r, l = x :: r → Q (f x r)) (h2 : Q d) : Q (dCons l d f) := by cases l with | nil => exact h2 | cons x r => exact h1 x r rfl
theorem dNil_ind {l : List SV} (h1 : l = [] → Q a) (h2 : Q d) : Q (dNil l d a) := by cases l with | nil => exact h1 rfl | cons x r => exact h2
theorem qCons_ind {l : List PV} {f : PV → List PV → α} (h1 : ∀ x r, l = x :: r → Q (f x r)) (h2 : Q d) : Q (qCons l d f) := by cases l with | nil => exact h2 | cons x r => exact h1 x r rfl
theorem qNil_ind {l : List PV} (h1 : l = [] → Q a) (h2 : Q d) : Q (qNil l d a) := by cases l with | nil => exact h1 rfl | cons x r => exact h2
theorem dP_ind {x : SV} {f : PV → α} (h1 : ∀ y, x = .p y → Q (f y)) (h2 : Q d) : Q (dP x d f) := by cases x <;> first | exact h1 _ rfl | exact h2
theorem dDead_ind {x : SV} (h1 : x = .dead → Q a) (h2 : Q d) : Q (dDead x d a) := by cases x <;> first | exact h1 rfl | exact h2
theorem dNl_ind {x : SV} (h1 : x = .nl → Q a) (h2 : Q d) : Q (dNl x d a) := by cases x <;> first | exact h1 rfl | exact h2
theorem bifQ {c : Bool} {a : α} (h1 : c = true → Q a) (h2 : Q d) : Q (bif c then a else d) := by cases c; exact h2; exact h1 rfl
theorem dOwn_ind {T : Nat} {x : SV} {f : List PV → α} (h1 : ∀ es, x = .own T es → Q (f es)) (h2 : Q d) : Q (dOwn T x d f) := by
  cases x <;> first | exact h2 | exact bifQ (fun e => h1 _ (by rw [Nat.eq_of_beq_eq_true e])) h2
theorem dBx_ind {T : Nat} {x : SV} {f : List SV → α} (h1 : ∀ es, x = .bx T es → Q (f es)) (h2 : Q d) : Q (dBx T x d f) := by
  cases x <;> first | exact h2 | exact bifQ (fun e => h1 _ (by rw [Nat.eq_of_beq_eq_true e])) h2
theorem dTup_ind {x : SV} {f : List SV → α} (h1 : ∀ es, x = .tup es → Q (f es)) (h2 : Q d) : Q (dTup x d f) := by cases x <;> first | exact h1 _ rfl | exact h2
theorem dOb_ind {T e : Nat} {x : SV} {f : ByteArray → α} (h1 : ∀ b, x = .ob T e b → Q (f b)) (h2 : Q d) : Q (dOb T e x d f) := by
  cases x <;> first | exact h2 | exact bifQ (fun q => h1 _ (by rw [Bool.and_eq_true] at q; rw [Nat.eq_of_beq_eq_true q.1, Nat.eq_of_beq_eq_true q.2])) h2
theorem dInt_ind {k : IntKind} {x : PV} {f : Int → α} (h1 : ∀ v, x = .v (.int k v) → Q (f v)) (h2 : Q d) : Q (dInt k x d f) := by
  unfold dInt
  split
  · refine bifQ (fun e => h1 _ ?_) h2
    rename_i k' v
    cases k <;> cases k' <;> first | rfl | cases e
  · exact h2
theorem dBool_ind {x : PV} {f : Bool → α} (h1 : ∀ v, x = .v (.bool v) → Q (f v)) (h2 : Q d) : Q (dBool x d f) := by
  unfold dBool; split; exact h1 _ rfl; exact h2
theorem dStr_ind {x : PV} {f : ByteArray → α} (h1 : ∀ v, x = .v (.string v) → Q (f v)) (h2 : Q d) : Q (dStr x d f) := by
  unfold dStr; split; exact h1 _ rfl; exact h2
theorem dSh_ind {x : PV} {f : List PV → α} (h1 : ∀ v, x = .sh v → Q (f v)) (h2 : Q d) : Q (dSh x d f) := by
  unfold dSh; split; exact h1 _ rfl; exact h2
theorem dAgg_ind {x : PV} {f : List PV → α} (h1 : ∀ v, x = .agg v → Q (f v)) (h2 : Q d) : Q (dAgg x d f) := by
  unfold dAgg; split; exact h1 _ rfl; exact h2
theorem dFb_ind {x : PV} {f : List PV → α} (h1 : ∀ v, x = .fb v → Q (f v)) (h2 : Q d) : Q (dFb x d f) := by
  unfold dFb; split; exact h1 _ rfl; exact h2
theorem dClo_ind {g : Nat} {x : PV} {f : List PV → α} (h1 : ∀ v, x = .clo g v → Q (f v)) (h2 : Q d) : Q (dClo g x d f) := by
  unfold dClo; split
  · exact bifQ (fun e => h1 _ (by rw [Nat.eq_of_beq_eq_true e])) h2
  · exact h2
theorem dFn_ind {g : Nat} {x : PV} (h1 : x = .v (.func (.func g) #[] #[]) → Q a) (h2 : Q d) : Q (dFn g x d a) := by
  unfold dFn; split
  · rename_i g' l c
    split
    · rename_i e1 e2
      refine bifQ (fun e => h1 ?_) h2
      rw [Nat.eq_of_beq_eq_true e]
      obtain ⟨l⟩ := l
      obtain ⟨c⟩ := c
      simp only at e1 e2
      rw [e1, e2]
    · exact h2
  · exact h2
theorem dNilIface_ind {x : PV} (h1 : x = .v .nilIface → Q a) (h2 : Q d) : Q (dNilIface x d a) := by
  unfold dNilIface; split; exact h1 rfl; exact h2
theorem dNilFunc_ind {x : PV} (h1 : x = .v .nilFunc → Q a) (h2 : Q d) : Q (dNilFunc x d a) := by
  unfold dNilFunc; split; exact h1 rfl; exact h2
theorem dNilPtr_ind {x : PV} (h1 : x = .v (.pointer none) → Q a) (h2 : Q d) : Q (dNilPtr x d a) := by
  unfold dNilPtr; split; exact h1 rfl; exact h2
theorem dTup0_ind {x : PV} (h1 : x = .v (.tuple #[]) → Q a) (h2 : Q d) : Q (dTup0 x d a) := by
  unfold dTup0; split
  · rename_i c
    obtain ⟨c⟩ := c
    simp only
    split
    · exact h1 rfl
    · exact h2
  · exact h2
end
section
variable {R : Type} {Z : Prop} {res : R} {z d a : Option R}
theorem dCons_eq  {l : List SV} {f : SV → List SV → Option R} (h1 : ∀ x r, l = x :: r → z = f x r) (h2 : z = d) : z = dCons l d f := dCons_ind (Q := fun y => z = y) h1 h2
theorem dCons_imp  {l : List SV} {f : SV → List SV → Option R} (h1 : ∀ x r, l = x :: r → f x r = some res → Z) (h2 : d = some res → Z) : dCons l d f = some res → Z := dCons_ind (Q := fun y => y = some res → Z) h1 h2
theorem dNil_eq  {l : List SV} (h1 : l = [] → z = a) (h2 : z = d) : z = dNil l d a := dNil_ind (Q := fun y => z = y) h1 h2
theorem dNil_imp  {l : List SV} (h1 : l = [] → a = some res → Z) (h2 : d = some res → Z) : dNil l d a = some res → Z := dNil_ind (Q := fun y => y = some res → Z) h1 h2
theorem qCons_eq  {l : List PV} {f : PV → List PV → Option R} (h1 : ∀ x r, l = x :: r → z = f x r) (h2 : z = d) : z = qCons l d f := qCons_ind (Q := fun y => z = y) h1 h2
theorem qCons_imp  {l : List PV} {f : PV → List PV → Option R} (h1 : ∀ x r, l = x :: r → f x r = some res → Z) (h2 : d = some res → Z) : qCons l d f = some res → Z := qCons_ind (Q := fun y => y = some res → Z) h1 h2
theorem qNil_eq  {l : List PV} (h1 : l = [] → z = a) (h2 : z = d) : z = qNil l d a := qNil_ind (Q := fun y => z = y) h1 h2
theorem qNil_imp  {l : List PV} (h1 : l = [] → a = some res → Z) (h2 : d = some res → Z) : qNil l d a = some res → Z := qNil_ind (Q := fun y => y = some res → Z) h1 h2
theorem dP_eq  {x : SV} {f : PV → Option R} (h1 : ∀ y, x = .p y → z = f y) (h2 : z = d) : z = dP x d f := dP_ind (Q := fun y => z = y) h1 h2
theorem dP_imp  {x : SV} {f : PV → Option R} (h1 : ∀ y, x = .p y → f y = some res → Z) (h2 : d = some res → Z) : dP x d f = some res → Z := dP_ind (Q := fun y => y = some res → Z) h1 h2
theorem dDead_eq  {x : SV} (h1 : x = .dead → z = a) (h2 : z = d) : z = dDead x d a := dDead_ind (Q := fun y => z = y) h1 h2
theorem dDead_imp  {x : SV} (h1 : x = .dead → a = some res → Z) (h2 : d = some res → Z) : dDead x d a = some res → Z := dDead_ind (Q := fun y => y = some res → Z) h1 h2
theorem dNl_eq  {x : SV} (h1 : x = .nl → z = a) (h2 : z = d) : z = dNl x d a := dNl_ind (Q := fun y => z = y) h1 h2
theorem dNl_imp  {x : SV} (h1 : x = .nl → a = some res → Z) (h2 : d = some res → Z) : dNl x d a = some res → Z := dNl_ind (Q := fun y => y = some res → Z) h1 h2
theorem dOwn_eq {T : Nat} {x : SV} {f : List PV → Option R} (h1 : ∀ es, x = .own T es → z = f es) (h2 : z = d) : z = dOwn T x d f := dOwn_ind (Q := fun y => z = y) h1 h2
theorem dOwn_imp {T : Nat} {x : SV} {f : List PV → Option R} (h1 : ∀ es, x = .own T es → f es = some res → Z) (h2 : d = some res → Z) : dOwn T x d f = some res → Z := dOwn_ind (Q := fun y => y = some res → Z) h1 h2
theorem dBx_eq {T : Nat} {x : SV} {f : List SV → Option R} (h1 : ∀ es, x = .bx T es → z = f es) (h2 : z = d) : z = dBx T x d f := dBx_ind (Q := fun y => z = y) h1 h2
theorem dBx_imp {T : Nat} {x : SV} {f : List SV → Option R} (h1 : ∀ es, x = .bx T es → f es = some res → Z) (h2 : d = some res → Z) : dBx T x d f = some res → Z := dBx_ind (Q := fun y => y = some res → Z) h1 h2
theorem dTup_eq  {x : SV} {f : List SV → Option R} (h1 : ∀ es, x = .tup es → z = f es) (h2 : z = d) : z = dTup x d f := dTup_ind (Q := fun y => z = y) h1 h2
theorem dTup_imp  {x : SV} {f : List SV → Option R} (h1 : ∀ es, x = .tup es → f es = some res → Z) (h2 : d = some res → Z) : dTup x d f = some res → Z := dTup_ind (Q := fun y => y = some res → Z) h1 h2
theorem dOb_eq {T : Nat} {e : Nat} {x : SV} {f : ByteArray → Option R} (h1 : ∀ b, x = .ob T e b → z = f b) (h2 : z = d) : z = dOb T e x d f := dOb_ind (Q := fun y => z = y) h1 h2
theorem dOb_imp {T : Nat} {e : Nat} {x : SV} {f : ByteArray → Option R} (h1 : ∀ b, x = .ob T e b → f b = some res → Z) (h2 : d = some res → Z) : dOb T e x d f = some res → Z := dOb_ind (Q := fun y => y = some res → Z) h1 h2
theorem dInt_eq {k : IntKind} {x : PV} {f : Int → Option R} (h1 : ∀ v, x = .v (.int k v) → z = f v) (h2 : z = d) : z = dInt k x d f := dInt_ind (Q := fun y => z = y) h1 h2
theorem dInt_imp {k : IntKind} {x : PV} {f : Int → Option R} (h1 : ∀ v, x = .v (.int k v) → f v = some res → Z) (h2 : d = some res → Z) : dInt k x d f = some res → Z := dInt_ind (Q := fun y => y = some res → Z) h1 h2
theorem dBool_eq  {x : PV} {f : Bool → Option R} (h1 : ∀ v, x = .v (.bool v) → z = f v) (h2 : z = d) : z = dBool x d f := dBool_ind (Q := fun y => z = y) h1 h2
theorem dBool_imp  {x : PV} {f : Bool → Option R} (h1 : ∀ v, x = .v (.bool v) → f v = some res → Z) (h2 : d = some res → Z) : dBool x d f = some res → Z := dBool_ind (Q := fun y => y = some res → Z) h1 h2
theorem dStr_eq  {x : PV} {f : ByteArray → Option R} (h1 : ∀ v, x = .v (.string v) → z = f v) (h2 : z = d) : z = dStr x d f := dStr_ind (Q := fun y => z = y) h1 h2
theorem dStr_imp  {x : PV} {f : ByteArray → Option R} (h1 : ∀ v, x = .v (.string v) → f v = some res → Z) (h2 : d = some res → Z) : dStr x d f = some res → Z := dStr_ind (Q := fun y => y = some res → Z) h1 h2
theorem dSh_eq  {x : PV} {f : List PV → Option R} (h1 : ∀ v, x = .sh v → z = f v) (h2 : z = d) : z = dSh x d f := dSh_ind (Q := fun y => z = y) h1 h2
theorem dSh_imp  {x : PV} {f : List PV → Option R} (h1 : ∀ v, x = .sh v → f v = some res → Z) (h2 : d = some res → Z) : dSh x d f = some res → Z := dSh_ind (Q := fun y => y = some res → Z) h1 h2
theorem dAgg_eq  {x : PV} {f : List PV → Option R} (h1 : ∀ v, x = .agg v → z = f v) (h2 : z = d) : z = dAgg x d f := dAgg_ind (Q := fun y => z = y) h1 h2
theorem dAgg_imp  {x : PV} {f : List PV → Option R} (h1 : ∀ v, x = .agg v → f v = some res → Z) (h2 : d = some res → Z) : dAgg x d f = some res → Z := dAgg_ind (Q := fun y => y = some res → Z) h1 h2
theorem dFb_eq  {x : PV} {f : List PV → Option R} (h1 : ∀ v, x = .fb v → z = f v) (h2 : z = d) : z = dFb x d f := dFb_ind (Q := fun y => z = y) h1 h2
theorem dFb_imp  {x : PV} {f : List PV → Option R} (h1 : ∀ v, x = .fb v → f v = some res → Z) (h2 : d = some res → Z) : dFb x d f = some res → Z := dFb_ind (Q := fun y => y = some res → Z) h1 h2
theorem dClo_eq {g : Nat} {x : PV} {f : List PV → Option R} (h1 : ∀ v, x = .clo g v → z = f v) (h2 : z = d) : z = dClo g x d f := dClo_ind (Q := fun y => z = y) h1 h2
theorem dClo_imp {g : Nat} {x : PV} {f : List PV → Option R} (h1 : ∀ v, x = .clo g v → f v = some res → Z) (h2 : d = some res → Z) : dClo g x d f = some res → Z := dClo_ind (Q := fun y => y = some res → Z) h1 h2
theorem dFn_eq {g : Nat} {x : PV} (h1 : x = .v (.func (.func g) #[] #[]) → z = a) (h2 : z = d) : z = dFn g x d a := dFn_ind (Q := fun y => z = y) h1 h2
theorem dFn_imp {g : Nat} {x : PV} (h1 : x = .v (.func (.func g) #[] #[]) → a = some res → Z) (h2 : d = some res → Z) : dFn g x d a = some res → Z := dFn_ind (Q := fun y => y = some res → Z) h1 h2
theorem dNilIface_eq  {x : PV} (h1 : x = .v .nilIface → z = a) (h2 : z = d) : z = dNilIface x d a := dNilIface_ind (Q := fun y => z = y) h1 h2
theorem dNilIface_imp  {x : PV} (h1 : x = .v .nilIface → a = some res → Z) (h2 : d = some res → Z) : dNilIface x d a = some res → Z := dNilIface_ind (Q := fun y => y = some res → Z) h1 h2
theorem dNilFunc_eq  {x : PV} (h1 : x = .v .nilFunc → z = a) (h2 : z = d) : z = dNilFunc x d a := dNilFunc_ind (Q := fun y => z = y) h1 h2
theorem dNilFunc_imp  {x : PV} (h1 : x = .v .nilFunc → a = some res → Z) (h2 : d = some res → Z) : dNilFunc x d a = some res → Z := dNilFunc_ind (Q := fun y => y = some res → Z) h1 h2
theorem dNilPtr_eq  {x : PV} (h1 : x = .v (.pointer none) → z = a) (h2 : z = d) : z = dNilPtr x d a := dNilPtr_ind (Q := fun y => z = y) h1 h2
theorem dNilPtr_imp  {x : PV} (h1 : x = .v (.pointer none) → a = some res → Z) (h2 : d = some res → Z) : dNilPtr x d a = some res → Z := dNilPtr_ind (Q := fun y => y = some res → Z) h1 h2
theorem dTup0_eq  {x : PV} (h1 : x = .v (.tuple #[]) → z = a) (h2 : z = d) : z = dTup0 x d a := dTup0_ind (Q := fun y => z = y) h1 h2
theorem dTup0_imp  {x : PV} (h1 : x = .v (.tuple #[]) → a = some res → Z) (h2 : d = some res → Z) : dTup0 x d a = some res → Z := dTup0_ind (Q := fun y => y = some res → Z) h1 h2
end
end Go.Proofs.Ytlplpkbhjddmeaa.Th


set_option linter.unusedVariables false
set_option linter.unusedSimpArgs false
namespace Go.Proofs.Ytlplpkbhjddmeaa.Th
open Go Go.Proofs Go.Shelf Go.RowKit
noncomputable def fsIndexByte : FS := { om := [false, false], run := fun args K => match args with
  | [.p (.v (.string s)), .p (.v (.int .u8 c))] => K [.p (.v (.int .i64 (Lib.indexByte s.data.toList c.toNat.toUInt8)))]
  | _ => none }
noncomputable def fsCount1 : FS := { om := [false, false], run := fun args K => match args with
  | [.p (.v (.string s)), .p (.v (.string t))] => bif Nat.beq t.size 1 then K [.p (.v (.int .i64 (Lib.countByte s.data.toList (t.data.toList.headD 0))))] else none
  | _ => none }
def u64R (x : Int) : Bool := decide (0 ≤ x) && decide (x < 18446744073709551616)
noncomputable def fsMul64 : FS := { om := [false, false], run := fun args K => match args with
  | [.p (.v (.int .u64 x)), .p (.v (.int .u64 y))] => bif u64R x && u64R y then K [.p (.v (.int .u64 (x * y / 18446744073709551616))), .p (.v (.int .u64 (x * y % 18446744073709551616)))] else none
  | _ => none }
section
variable {P : Program} {R : Type} {res : R}
theorem back_pure {F : Nat → Prop} {W : World} {args : List SV} {cargs : List Value} {B : List Nat} {xs : List SV} {vs : List Value} (hxs : RSs P F W xs vs []) (hF : ∀ b, F b → b < W.heap.size)
    (hbx : bxv args cargs = []) : Back P F W args cargs B xs (tupV vs) W :=
  ⟨F, [], xs, [], vs, by simp, hxs.length, rfl, by rw [hbx, List.append_nil, List.append_nil]; exact hxs, by simp, by simp, fun _ q => q, fun _ q => .inl q, hF, Keep.refl _ _⟩
theorem args2p {F : Nat → Prop} {W : World} {x y : Value} {cs : Array Value} {B : List Nat} (h : RSs P F W [.p (.v x), .p (.v y)] cs.toList B) : cs = #[x, y] := by
  obtain ⟨c, d, B1, rfl, h1, h2, _⟩ := args2 h
  cases h1 with
  | p h1 => rw [RP_v h1, RP_v h2]
theorem ok_IndexByte {g : Nat} (hfn : ∃ fn, P.funcs[g]? = some fn ∧ fn.body.isNone = false ∧ (fn.name == "runtime.NumGoroutine") = false)
    (H : ∀ (s : ByteArray) (c : Int) (w : World), Calls P g #[.string s, .int .u8 c] w fun e w' => e = .returned (.int .i64 (Lib.indexByte s.data.toList c.toNat.toUInt8)) ∧ w' = w) : FSound P g fsIndexByte := by
  refine ⟨hfn, fun {R args K res} hk F W cargs B ha hn hB hF => ?_⟩
  simp only [fsIndexByte] at hk
  split at hk
  · rename_i s c
    have := args2p ha
    subst this
    refine Calls.mono (H s c W) fun e w' he => ?_
    obtain ⟨rfl, rfl⟩ := he
    exact ⟨_, hk, back_pure (vs := [.int .i64 (Lib.indexByte s.data.toList c.toNat.toUInt8)]) (.cons (B := []) (Bs := []) (.p (.v _)) .nil) hF rfl⟩
  · cases hk
theorem one_byte {t : ByteArray} (h : t.size = 1) : t = ⟨#[t.data.toList.headD 0]⟩ := by
  cases t with
  | mk d =>
    cases d with
    | mk l =>
      match l, h with
      | [x], _ => rfl
theorem ok_Count1 {g : Nat} (hfn : ∃ fn, P.funcs[g]? = some fn ∧ fn.body.isNone = false ∧ (fn.name == "runtime.NumGoroutine") = false)
    (H : ∀ (s : ByteArray) (c : UInt8) (w : World), Calls P g #[.string s, .string ⟨#[c]⟩] w fun e w' => e = .returned (.int .i64 (Lib.countByte s.data.toList c)) ∧ w' = w) : FSound P g fsCount1 := by
  refine ⟨hfn, fun {R args K res} hk F W cargs B ha hn hB hF => ?_⟩
  simp only [fsCount1] at hk
  split at hk
  · rename_i s t
    obtain ⟨h1, hk1⟩ := bif_some hk
    have ht := one_byte (eqB h1)
    have := args2p ha
    subst this
    refine Calls.mono (by rw [ht]; exact H s (t.data.toList.headD 0) W) fun e w' he => ?_
    obtain ⟨rfl, rfl⟩ := he
    exact ⟨_, hk1, back_pure (vs := [.int .i64 (Lib.countByte s.data.toList (t.data.toList.headD 0))]) (.cons (B := []) (Bs := []) (.p (.v _)) .nil) hF rfl⟩
  · cases hk
theorem ok_Mul64 {g : Nat} (hfn : ∃ fn, P.funcs[g]? = some fn ∧ fn.body.isNone = false ∧ (fn.name == "runtime.NumGoroutine") = false)
    (H : ∀ (x y : Nat), x < 18446744073709551616 → y < 18446744073709551616 → ∀ (w : World), Calls P g #[.int .u64 x, .int .u64 y] w fun e w' => e = .returned (.tuple #[.int .u64 ((x * y / 18446744073709551616 : Nat) : Int), .int .u64 ((x * y % 18446744073709551616 : Nat) : Int)]) ∧ w' = w) : FSound P g fsMul64 := by
  refine ⟨hfn, fun {R args K res} hk F W cargs B ha hn hB hF => ?_⟩
  simp only [fsMul64] at hk
  split at hk
  · rename_i x y
    obtain ⟨h1, hk1⟩ := bif_some hk
    simp only [u64R, Bool.and_eq_true, decide_eq_true_eq] at h1
    obtain ⟨⟨x0, x1⟩, y0, y1⟩ := h1
    obtain ⟨a, rfl⟩ := Int.eq_ofNat_of_zero_le x0
    obtain ⟨b, rfl⟩ := Int.eq_ofNat_of_zero_le y0
    have := args2p ha
    subst this
    refine Calls.mono (H a b (by omega) (by omega) W) fun e w' he => ?_
    obtain ⟨rfl, rfl⟩ := he
    refine ⟨_, hk1, back_pure (vs := [.int .u64 ((a * b / 18446744073709551616 : Nat) : Int), .int .u64 ((a * b % 18446744073709551616 : Nat) : Int)]) ?_ hF rfl⟩
    have e1 : ((a : Int) * b / 18446744073709551616) = ((a * b / 18446744073709551616 : Nat) : Int) := by simp
    have e2 : ((a : Int) * b % 18446744073709551616) = ((a * b % 18446744073709551616 : Nat) : Int) := by simp
    rw [e1, e2]
    exact .cons (B := []) (Bs := []) (.p (.v _)) (.cons (B := []) (Bs := []) (.p (.v _)) .nil)
  · cases hk
end
end Go.Proofs.Ytlplpkbhjddmeaa.Th


set_option linter.unusedVariables false
namespace Go.Proofs.Ytlplpkbhjddmeaa.Th
open Go Go.Proofs Go.Shelf Go.RowKit
def repB (s : ByteArray) (c : Int) : ByteArray := ⟨(Lib.repeatL s.data.toList c.toNat).toArray⟩
noncomputable def fsRepeat : FS := { om := [false, false], run := fun args K => match args with
  | [.p (.v (.string s)), .p (.v (.int .i64 c))] => bif decide (0 ≤ c) && decide (c ≤ 9223372036854775807) && roomB (s.size * c.toNat) then K [.p (.v (.string (repB s c)))] else none
  | _ => none }
section
variable {P : Program} {R : Type} {res : R}
theorem back_below {F : Nat → Prop} {W w' : World} {args : List SV} {cargs : List Value} {B : List Nat} {xs : List SV} {vs : List Value} (hb : Below W.heap.size W w') (hxs : RSs P F w' xs vs []) (hF : ∀ b, F b → b < W.heap.size)
    (hbx : bxv args cargs = []) : Back P F W args cargs B xs (tupV vs) w' :=
  ⟨F, [], xs, [], vs, by simp, hxs.length, rfl, by rw [hbx, List.append_nil, List.append_nil]; exact hxs, by simp, by simp, fun _ q => q, fun _ q => .inl q, fun b q => Nat.lt_of_lt_of_le (hF b q) hb.size,
    ⟨hb.os, hb.tape, hb.output, hb.size, fun b hlt _ => hb.block b hlt⟩⟩
theorem ok_Repeat {g : Nat} (hfn : ∃ fn, P.funcs[g]? = some fn ∧ fn.body.isNone = false ∧ (fn.name == "runtime.NumGoroutine") = false)
    (H : ∀ (s : ByteArray) (c : Nat) (w : World), c ≤ 9223372036854775807 → s.size * c ≤ 140737488355328 →
      Calls P g #[.string s, .int .i64 c] w fun e w' => e = .returned (.string ⟨(Lib.repeatL s.data.toList c).toArray⟩) ∧ Below w.heap.size w w') : FSound P g fsRepeat := by
  refine ⟨hfn, fun {R args K res} hk F W cargs B ha hn hB hF => ?_⟩
  simp only [fsRepeat] at hk
  split at hk
  · rename_i s c
    obtain ⟨h1, hk1⟩ := bif_some hk
    simp only [Bool.and_eq_true, decide_eq_true_eq] at h1
    obtain ⟨a, rfl⟩ := Int.eq_ofNat_of_zero_le h1.1.1
    have := args2p ha
    subst this
    have hr : s.size * a ≤ 140737488355328 := of_decide_eq_true h1.2
    refine Calls.mono (H s a W (by omega) hr) fun e w' he => ?_
    obtain ⟨rfl, hb⟩ := he
    exact ⟨_, hk1, back_below (vs := [.string (repB s (a : Int))]) hb (.cons (B := []) (Bs := []) (.p (.v _)) .nil) hF rfl⟩
  · cases hk
end
end Go.Proofs.Ytlplpkbhjddmeaa.Th


set_option linter.unusedVariables false
set_option linter.unusedSimpArgs false
namespace Go.Proofs.Ytlplpkbhjddmeaa.Th
open Go Go.Proofs Go.Shelf Go.RowKit
section
variable {P : Program} {ρ : Ren} {w : World} {T e : TypeId} {b : Nat} {p v : Value} {bs : List Value}
theorem grown_wrote {cs : Array Value} (hbk : w.heap[b]? = some (.cells #[.pointer (some ⟨b, 0, none⟩), .slice none 0 0] T (0, 0))) (hm : cs.size ≤ maxLen) (hTe : T ≠ e) :
    Wrote T e b (.slice none 0 0) [] w ((w.alloc (.cells cs e)).setCell ⟨b, 1, none⟩ (.slice (some ⟨w.heap.size, 0, none⟩) 0 cs.size)).drew.drew.drew := by
  have hlt : b < w.heap.size := (Array.getElem?_eq_some_iff.1 hbk).1
  have hb2 : (w.alloc (.cells cs e)).heap[b]? = some (.cells #[.pointer (some ⟨b, 0, none⟩), .slice none 0 0] T (0, 0)) := (alloc_old w _ b hlt).trans hbk
  have hown : (w.alloc (.cells cs e)).ownsRowF 0 e 1 (.slice (some ⟨w.heap.size, 0, none⟩) 0 cs.size) ([] : List Value).length [] :=
    ⟨rfl, .inr ⟨w.heap.size, cs.size, cs, (0, 0), rfl, Nat.zero_le _, alloc_new w _, Nat.le_refl _, Nat.zero_le _, hm, by simp, by simp⟩⟩
  have hput := BV.put (p := .pointer (some ⟨b, 0, none⟩)) hb2 (bs' := []) hown hTe
  have k2 := (Keep.alloc w (.cells cs e) (· = b)).trans (Keep.set (w.alloc (.cells cs e)) b 1 (.slice (some ⟨w.heap.size, 0, none⟩) 0 cs.size)) fun _ _ q => q
  exact ⟨_, hput, ⟨k2.os, k2.tape, k2.output, k2.size, fun k hk hn => k2.block k hk fun q => hn (.inl q)⟩, fun k hk => by simp [Value.ownBlock] at hk; exact .inr (by omega)⟩
set_option maxHeartbeats 2000000 in
set_option maxRecDepth 1000000 in
theorem b_grow (L : Lays.n241 P ρ) (X : Builder.Extra P ρ) (n : Nat) (hbk : w.heap[b]? = some (.cells #[.pointer (some ⟨b, 0, none⟩), .slice none 0 0] (ρ.t 72) (0, 0))) (hn : n ≤ 281474976710656) :
    Calls P (ρ.f 241) #[.pointer (some ⟨b, 0, none⟩), .int .i64 n] w fun e w' => e = .returned (.tuple #[]) ∧ Wrote (ρ.t 72) (ρ.t 5) b (.slice none 0 0) [] w w' := by
  obtain ⟨cs, hrun, hle, hmax⟩ := Lib.run_makeNoZero (P := P) w.drew #[(ρ.t 3)] (ρ.t 37) (ρ.t 5) L.t37 n hn
  have hw : IntKind.i64.wrap (IntKind.i64.wrap 0 + (n : Int)) = n := by
    rw [IntKind.wrap_i64, IntKind.wrap_i64]
    omega
  have hcall : (callFunc (ρ.f 277) #[.int .i64 (IntKind.i64.wrap (IntKind.i64.wrap 0 + (n : Int)))]).run P w.drew = .ok (.value (.slice (some ⟨w.drew.heap.size, 0, none⟩) n cs.size)) (w.drew.drew.drew.alloc (.cells cs (ρ.t 5))) := by
    rw [hw, run_callFunc_extern L.f277 (by kernel_rfl) (by kernel_rfl) (by kernel_rfl) (e := Extern.BytealgMakeNoZero.makeNoZero #[(ρ.t 3)] #[(ρ.t 37)]) (by kernel_rfl), hrun]
    rfl
  have hlt : b < w.heap.size := (Array.getElem?_eq_some_iff.1 hbk).1
  have c1 : w.drew.cell? ⟨b, 1, none⟩ = some (.slice none 0 0) := by
    have : w.drew.heap[b]? = _ := hbk
    rw [Lib.cell_of_heap this]; rfl
  have c2 : (w.alloc (.cells cs (ρ.t 5))).cell? ⟨b, 1, none⟩ = some (.slice none 0 0) := by
    have : (w.alloc (.cells cs (ρ.t 5))).heap[b]? = _ := (Lib.alloc_old w _ b hlt).trans hbk
    rw [Lib.cell_of_heap this]; rfl
  have f2 : (w.alloc (.cells cs (ρ.t 5))).frozen? ⟨b, 1, none⟩ = false := Lib.frozen_of_heap ((Lib.alloc_old w _ b hlt).trans hbk) 1
  have hcopy : ∀ W : World, (Builtin.copy_ #[(ρ.t 37), (ρ.t 37)] (ρ.t 3) #[.slice (some ⟨w.heap.size, 0, none⟩) 0 cs.size, .slice none 0 0]).run P W = .ok (goInt 0) W :=
    fun W => run_copy_none W (ρ.t 37) (ρ.t 37) (ρ.t 3) (ρ.t 5) _ _ 0 cs.size 0 0 L.t37 X.sizeByte rfl
  clear hw
  have mixed := L.mixed
  have t72 := L.t72; have a72 := L.a72; have z72 := L.z72; have v72 := L.v72; have u72 := run_underlying L.t72
  have t70 := L.t70; have a70 := L.a70; have z70 := L.z70; have v70 := L.v70; have u70 := run_underlying L.t70
  have t37 := L.t37; have a37 := L.a37; have z37 := L.z37; have v37 := L.v37; have u37 := run_underlying L.t37
  have t3 := L.t3; have a3 := L.a3; have z3 := L.z3; have v3 := L.v3; have u3 := run_underlying L.t3
  have t5 := X.t5; have a5 := X.a5; have z5 := X.z5; have v5 := X.v5; have u5 := run_underlying X.t5
  go_enter L.f241, Body.n241_ntmps ρ
  go_wp2
  have hfin := grown_wrote (T := (ρ.t 72)) (e := (ρ.t 5)) (cs := cs) hbk (hmax (by unfold maxLen; omega)) X.neB5
  rw [World.setCell_alloc_past _ _ _ _ hlt] at hfin
  go_region_o
  all_goals (go_wp2; go_end0; exact ⟨rfl, hfin⟩)
theorem Wrote.after {w0 w1 w2 : World} {v0 v1 : Value} (k : Keep w0 (· = b) w1) (h : Wrote T e b v1 bs w1 w2) (hv : v1.ownBlock = v0.ownBlock) : Wrote T e b v0 bs w0 w2 := by
  obtain ⟨v', h1, h2, h3⟩ := h
  refine ⟨v', h1, ?_, fun c hc => ?_⟩
  · rw [← hv]; exact (k.mono fun k q => .inl q).trans h2 fun _ _ q => q
  · rw [← hv]; exact (h3 c hc).imp id fun q => Nat.le_trans k.size q
set_option maxHeartbeats 2000000 in
set_option maxRecDepth 1000000 in
theorem b_Grow (L : Lays.n165 P ρ) (X : Builder.Extra P ρ) (n : Nat) (hbk : w.heap[b]? = some (.cells #[.pointer none, .slice none 0 0] (ρ.t 72) (0, 0))) (hn : n ≤ 281474976710656) :
    Calls P (ρ.f 165) #[.pointer (some ⟨b, 0, none⟩), .int .i64 n] w fun e w' => e = .returned (.tuple #[]) ∧ Wrote (ρ.t 72) (ρ.t 5) b (.slice none 0 0) [] w w' := by
  have hbk1 : (w.setCell ⟨b, 0, none⟩ (.pointer (some ⟨b, 0, none⟩))).heap[b]? = some (.cells #[.pointer (some ⟨b, 0, none⟩), .slice none 0 0] (ρ.t 72) (0, 0)) := by
    simp [World.setCell, Array.getElem?_modify, hbk]
  have c1 : (w.setCell ⟨b, 0, none⟩ (.pointer (some ⟨b, 0, none⟩))).cell? ⟨b, 1, none⟩ = some (.slice none 0 0) := by rw [Lib.cell_of_heap hbk1]; rfl
  have k1 : Keep w (· = b) (w.setCell ⟨b, 0, none⟩ (.pointer (some ⟨b, 0, none⟩))).drew := by
    have k := Keep.set w b 0 (.pointer (some ⟨b, 0, none⟩))
    exact ⟨k.os, k.tape, k.output, k.size, k.block⟩
  have mixed := L.mixed
  have t72 := L.t72; have a72 := L.a72; have z72 := L.z72; have v72 := L.v72; have u72 := run_underlying L.t72
  have t70 := L.t70; have a70 := L.a70; have z70 := L.z70; have v70 := L.v70; have u70 := run_underlying L.t70
  have t37 := L.t37; have a37 := L.a37; have z37 := L.z37; have v37 := L.v37; have u37 := run_underlying L.t37
  have t3 := L.t3; have a3 := L.a3; have z3 := L.z3; have v3 := L.v3; have u3 := run_underlying L.t3
  have t9 := L.t9; have a9 := L.a9; have z9 := L.z9; have v9 := L.v9; have u9 := run_underlying L.t9
  have t4 := L.t4; have a4 := L.a4; have z4 := L.z4; have v4 := L.v4; have u4 := run_underlying L.t4
  have t164 := L.t164; have a164 := L.a164; have z164 := L.z164; have v164 := L.v164; have u164 := run_underlying L.t164
  have t5 := X.t5; have a5 := X.a5; have z5 := X.z5; have v5 := X.v5; have u5 := run_underlying X.t5
  have e240 : ∀ args w, (callFunc (ρ.f 240) args).run P w = .ok (.enter (ρ.f 240) args) w := enters_of L.f240 (by kernel_rfl) rfl
  have e241 : ∀ args w, (callFunc (ρ.f 241) args).run P w = .ok (.enter (ρ.f 241) args) w := enters_of L.f241 (by kernel_rfl) rfl
  go_enter L.f165, Body.n165_ntmps ρ
  have hU : Wrote (ρ.t 72) (ρ.t 5) b (.slice none 0 0) [] w (w.setCell ⟨b, 0, none⟩ (.pointer (some ⟨b, 0, none⟩))).drew :=
    ⟨.slice none 0 0, ⟨hbk1, World.ownsRowF_nil _ _ _ _, by simp [Value.ownBlock]⟩, k1.mono fun k q => .inl q, fun k hk => .inl hk⟩
  have c1' : (w.setCell ⟨b, 0, none⟩ (.pointer (some ⟨b, 0, none⟩))).drew.cell? ⟨b, 1, none⟩ = some (.slice none 0 0) := c1
  go_wp2_with (go_at_fn (ρ.f 240); refine (Any.Builder_copyCheck_fresh { L with } X.toX72 b w (by rw [Lib.cell_of_heap hbk]; rfl) (by simp [World.shape?, hbk]) (Lib.frozen_of_heap hbk 0)).mono ?_; rintro e w' ⟨rfl, rfl⟩)
  go_region_o
  all_goals go_wp2_with (go_at_fn (ρ.f 241); refine (b_grow { L with } X n (w := (w.setCell ⟨b, 0, none⟩ (.pointer (some ⟨b, 0, none⟩))).drew) hbk1 hn).mono ?_; rintro e w' ⟨rfl, h1⟩)
  all_goals first
    | (go_end0; exact ⟨rfl, h1.after k1 rfl⟩)
    | (go_end0; exact ⟨rfl, hU⟩)
end
end Go.Proofs.Ytlplpkbhjddmeaa.Th


set_option linter.unusedVariables false
set_option linter.unusedSimpArgs false
namespace Go.Proofs.Ytlplpkbhjddmeaa.Th
open Go Go.Proofs Go.Shelf Go.RowKit
noncomputable def fsGrow (T e : TypeId) : FS := { om := [true, false], run := fun args K => match args with
  | [.bx T' [.p (.v (.pointer none)), .nl], .p (.v (.int .i64 n))] => bif Nat.beq T' T && (decide (0 ≤ n) && decide (n ≤ 281474976710656)) then K [.ob T e ByteArray.empty] else none
  | _ => none }
section
variable {P : Program} {ρ : Ren} {R : Type} {res : R}
theorem ok_Grow (L : Lays.n165 P ρ) (X : Builder.Extra P ρ) (hfn : ∃ fn, P.funcs[ρ.f 165]? = some fn ∧ fn.body.isNone = false ∧ (fn.name == "runtime.NumGoroutine") = false) : FSound P (ρ.f 165) (fsGrow (ρ.t 72) (ρ.t 5)) := by
  refine ⟨hfn, fun {R args K res} hk F W cargs B ha hn hB hF => ?_⟩
  simp only [fsGrow] at hk
  split at hk
  · rename_i T' n
    obtain ⟨hr, hk1⟩ := bif_some hk
    simp only [Bool.and_eq_true, decide_eq_true_eq] at hr
    have hT := eqB hr.1
    subst hT
    obtain ⟨c, d, B1, rfl, h1, h2, rfl⟩ := args2 ha
    have hd := RP_v h2
    subst hd
    obtain ⟨m, rfl⟩ := Int.eq_ofNat_of_zero_le hr.2.1
    have h1k : obK (R := Unit) (ρ.t 72) (ρ.t 5) (.bx (ρ.t 72) [.p (.v (.pointer none)), .nl]) (fun _ => some ()) = some () := by simp [obK]
    cases h1 with
    | bx q1 q2 q3 =>
      rename_i b cur B
      generalize hcur : cur.toList = l at q2
      cases q2 with
      | cons r1 r2 =>
        cases r2 with
        | cons r3 r4 =>
          cases r4 with
          | nil =>
            cases r1 with
            | p r1 =>
              cases r1 with
              | v =>
                cases r3 with
                | nl =>
                  have hcur' : cur = #[.pointer none, .slice none 0 0] := by apply Array.ext'; simpa using hcur
                  subst hcur'
                  refine Calls.mono (b_Grow L X m q1 (by omega)) fun e w' he => ?_
                  obtain ⟨rfl, hw⟩ := he
                  have hlt : b < W.heap.size := (Array.getElem?_eq_some_iff.1 q1).1
                  have := ob_back (P := P) (F := F) (args := [.bx (ρ.t 72) [.p (.v (.pointer none)), .nl], .p (.v (.int .i64 (m : Int)))]) (cargs := [.pointer (some ⟨b, 0, none⟩), .int .i64 (m : Int)]) (s := ByteArray.empty) (xs := []) (vs := []) hw hlt (fun k q => (hB k q).1) hF rfl .nil rfl
                  exact ⟨_, hk1, this⟩
  · cases hk
end
end Go.Proofs.Ytlplpkbhjddmeaa.Th


set_option linter.unusedVariables false
namespace Go.Proofs.Ytlplpkbhjddmeaa.Th
open Go Go.Proofs
theorem w64 {x : Int} (h1 : -9223372036854775808 ≤ x) (h2 : x < 9223372036854775808) : IntKind.i64.wrap x = x := by
  exact IntWalk.i64_in _ (by omega)
theorem inR_t {i : Int} {n : Nat} (h1 : 0 ≤ i) (h2 : i < n) : inR i n = true := by simp [inR, h1, h2]
theorem cutR_t {l h : Int} {n : Nat} (h1 : 0 ≤ l) (h2 : l ≤ h) (h3 : h ≤ n) : cutR l h n = true := by simp [cutR, h1, h2, h3]
theorem roomB_t {n : Nat} (h : n ≤ 140737488355328) : roomB n = true := by simp [roomB, h]
def bs (l : List UInt8) : ByteArray := ⟨⟨l⟩⟩
theorem bs_eta (s : ByteArray) : s = bs s.data.toList := rfl
theorem bs_size (l : List UInt8) : (bs l).size = l.length := (Eq.refl _).trans (Eq.refl _)
theorem bs_data (l : List UInt8) : (bs l).data.toList = l := (Eq.refl _).trans (Eq.refl _)
theorem bs_append (a b : List UInt8) : bs a ++ bs b = bs (a ++ b) := by
  apply ByteArray.ext
  simp [bs]
theorem bs_empty : ByteArray.empty = bs [] := (Eq.refl _).trans (Eq.refl _)
theorem bs_push (a : List UInt8) (c : UInt8) : ByteArray.push (bs a) c = bs (a ++ [c]) := by
  apply ByteArray.ext
  simp [bs, ByteArray.push]
theorem bs_extract (l : List UInt8) (i j : Nat) : ByteArray.extract (bs l) i j = bs ((l.take j).drop i) := by
  apply ByteArray.ext
  rw [ByteArray.data_extract]
  apply Array.ext'
  simp only [bs, List.size_toArray, List.extract_toArray, List.extract_eq_take_drop, List.take_drop]
  by_cases h : i ≤ j
  · rw [show i + (j - i) = j from by omega]
  · rw [List.drop_eq_nil_of_le (by simp; omega), List.drop_eq_nil_of_le (by simp; omega)]
theorem bs_inj {a b : List UInt8} : bs a = bs b ↔ a = b := ⟨fun h => by simpa [bs] using h, fun h => by rw [h]⟩
theorem bs_toList (l : List UInt8) : (bs l).toList = l := by
  rw [ByteArray.toList_eq]; rfl
theorem eqS_bs (a b : List UInt8) : eqS (bs a) (bs b) = (a == b) := by rfl
theorem byteAt_bs (l : List UInt8) (i : Int) : byteAt (bs l) i = ((l.getD i.toNat 0).toNat : Int) := rfl
theorem byteAt_nat {l : List UInt8} {i : Nat} (h : i < l.length) : byteAt (bs l) (i : Int) = ((l[i]).toNat : Int) := by
  rw [byteAt_bs]; simp [List.getD_eq_getElem?_getD, h]
theorem catS_bs {R : Type} {a b : List UInt8} (h : a.length + b.length < 9223372036854775808) (K : ByteArray → Option R) : catS (bs a) (bs b) K = K (bs (a ++ b)) := by
  unfold catS
  rw [bs_append, bs_size, bs_size, leN_eq, decide_eq_true (by omega)]; rfl
theorem repB_bs (l : List UInt8) (c : Int) : repB (bs l) c = bs (Lib.repeatL l c.toNat) := rfl
theorem u8_eq {a b : UInt8} : ((a.toNat : Int) == (b.toNat : Int)) = (a == b) := by
  rw [Bool.eq_iff_iff]; simp only [beq_iff_eq]; rw [← UInt8.toNat_inj]; omega
theorem bs_lit (l : List UInt8) : ByteArray.mk (List.toArray l) = bs l := (Eq.refl _).trans (Eq.refl _)
theorem dec_t {p : Prop} {d : Decidable p} (h : p) : @decide p d = true := decide_eq_true h
theorem dec_f {p : Prop} {d : Decidable p} (h : ¬ p) : @decide p d = false := decide_eq_false h
theorem c_pos {R : Type} {p : Prop} {d : Decidable p} {a b : R} (h : p) : (bif @decide p d then a else b) = a := by rw [decide_eq_true h]; rfl
theorem c_neg {R : Type} {p : Prop} {d : Decidable p} {a b : R} (h : ¬ p) : (bif @decide p d then a else b) = b := by rw [decide_eq_false h]; rfl
theorem c_dec {R : Type} {p : Prop} {d : Decidable p} {a b : R} : (bif @decide p d then a else b) = @ite _ p d a b := by by_cases h : p <;> simp [h]
theorem ite_pos' {R : Type} {p : Prop} {d : Decidable p} {a b : R} (h : p) : @ite _ p d a b = a := if_pos h
theorem ite_neg' {R : Type} {p : Prop} {d : Decidable p} {a b : R} (h : ¬ p) : @ite _ p d a b = b := if_neg h
theorem lenOK_t {n b : Nat} (h1 : n * b ≤ 140737488355328) (h2 : n ≤ 140737488355328) : lenOK n b = true := by simp [lenOK, h1, h2]
end Go.Proofs.Ytlplpkbhjddmeaa.Th
