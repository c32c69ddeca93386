-- Texts of this session, put together (wip/tools/merge.py).
import Derived.Test.YtnnjmelifmlghaaDoorK1
section
set_option linter.unusedVariables false
set_option linter.unusedSimpArgs false
namespace Go.Proofs.YtnnjmelifmlghaaDoor.A
open Go.RowKit Go.Proofs.YtnnjmelifmlghaaDoorW.PrintWords Go.Proofs.YtnnjmelifmlghaaDoorW.PrintLast Go.Proofs.YtnnjmelifmlghaaDoorW.PrintMore
attribute [local go_sem] max2_int min2_int max_two min_two max_three min_three max_four min_four   -- for this text's walks alone
set_option linter.unusedVariables false
set_option linter.unusedSimpArgs false

/-! ### disk_May: function 43 -/
/-- Block B is a map that says yes at each of ts, no at any other number. -/
def SetI (w : World) (B : Nat) (ts : List Int) : Prop := ∃ (D : DataW Unit) (n : Nat), w.ownsMap Tryd.prog 3 (plainElem Tryd.prog 4) B n D ∧ n ≤ ts.length ∧ Maps.IsMap D ∧ ∀ t, D.atKey (.int .i64 t) (.lit (.bool false)) = .lit (.bool (decide (t ∈ ts)))
theorem SetI.keyed : Maps.Keyed Tryd.prog 3 := Maps.int_keyed Tryd.underlying3
theorem SetI.made (w : World) : SetI (w.alloc (.map #[] 0)) w.heap.size [] := ⟨.map [], 0, World.ownsMap_made w _ _ _, Nat.le_refl _, Maps.isMap_empty, fun t => rfl⟩
theorem SetI.move {w w' : World} {B : Nat} {ts : List Int} (h : SetI w B ts) (hb : w'.heap[B]? = w.heap[B]?) : SetI w' B ts := by
 obtain ⟨D, n, ⟨es, clock, hh, r⟩, q⟩ := h
 exact ⟨D, n, ⟨es, clock, hb.trans hh, r⟩, q⟩
theorem SetI.lt {w : World} {B : Nat} {ts : List Int} (h : SetI w B ts) : B < w.heap.size := by
 obtain ⟨D, n, h, _⟩ := h; exact h.lt
theorem SetI.below {w w' : World} {B : Nat} {ts : List Int} (h : SetI w B ts) (hb : Below w.heap.size w w') : SetI w' B ts := h.move (hb.block B h.lt)
theorem SetI.zero (w : World) : (zeroValue 4).run Tryd.prog w = .ok (.bool false) w := by kernel_rfl
theorem plainElem_bool_inv {P : Program} {e : TypeId} (he : P.underlying e = some .bool) {v : Value} {z : DataW Unit × List MemPlace} (h : plainElem P e v = some z) : ∃ b, v = .bool b ∧ z = (.lit (.bool b), []) := by
 unfold plainElem at h
 rw [he] at h
 cases v <;> simp at h
 exact ⟨_, rfl, h.symm⟩
theorem SetI.lookup {w : World} {B : Nat} {ts : List Int} (h : SetI w B ts) (t : Int) (h0 : -9223372036854775808 ≤ t) (h1 : t ≤ 9223372036854775807) : (Instr.lookup 111 (.map (some B)) (.int .i64 t) false).run Tryd.prog w = .ok (.bool (decide (t ∈ ts))) w := by
 obtain ⟨D, n, ho, _, _, hat⟩ := h
 have hw : (Lit.int .i64 t).wf = true := WalkArith.wf_i64 ⟨h0, h1⟩
 obtain ⟨v, ps, hrun, hv⟩ := ho.lookup SetI.keyed Tryd.underlying111 (SetI.zero w) (plainElem_bool Tryd.underlying4 false) (Maps.keyOf_int_mk Tryd.underlying3 hw)
 obtain ⟨b, rfl, hb⟩ := plainElem_bool_inv Tryd.underlying4 hv
 rw [hat t] at hb
 simp only [Prod.mk.injEq, DataW.lit.injEq, Lit.bool.injEq] at hb
 rw [hrun, hb.1]
theorem SetI.update {w : World} {B : Nat} {ts : List Int} (h : SetI w B ts) (hl : ts.length < 9223372036854775807) (t : Int) (h0 : -9223372036854775808 ≤ t) (h1 : t ≤ 9223372036854775807) : ∃ w', (Instr.mapUpdate 111 (.map (some B)) (.int .i64 t) (.bool true)).run Tryd.prog w = .ok () w' ∧ SetI w' B (t :: ts) ∧ w.grownBy w' (some B) := by
 obtain ⟨D, n, ho, hn, hm, hat⟩ := h
 have hw : (Lit.int .i64 t).wf = true := WalkArith.wf_i64 ⟨h0, h1⟩
 obtain ⟨w', hrun, ho', hg⟩ := ho.update SetI.keyed Tryd.underlying111 (by unfold maxLen; omega) (Maps.keyOf_int_mk Tryd.underlying3 hw) (plainElem_bool Tryd.underlying4 true)
 refine ⟨w', hrun, ⟨_, n + 1, ho', by simp; omega, hm.put _ _, fun u => ?_⟩, hg⟩
 by_cases hu : u = t
 ·subst hu
  rw [Maps.atKey_put_same hm (show WideAt.IsKeyLit (.int .i64 u) from trivial)]
  simp
 ·rw [Maps.atKey_put_other (by simpa using hu), hat u]
  simp [hu]
/-- May a file stand behind these? -/
def fileOk (clock : Int) (f : S72) (prev : Option ByteArray) (ts : List Int) : Bool := Cru.pathOk f.f0 && (decide (0 ≤ f.f1) && decide (f.f1 ≤ 2147483647)) && (decide (1 ≤ f.f2) && decide (f.f2 ≤ clock)) && !decide (f.f2 ∈ ts) && (match prev with | none => true | some p => Op.bytesLess p.toList f.f0.toList)
def filesOk (clock : Int) : List S72 → Option ByteArray → List Int → Bool
 | [], _, _ => true
 | f :: fs, prev, ts => fileOk clock f prev ts && filesOk clock fs (some f.f0) (f.f2 :: ts)
def diskOk (clock : Int) (fs : List S72) : Bool := filesOk clock fs none [] && (decide (0 ≤ clock) && decide (clock ≤ 1048576)) && decide (fs.length ≤ 64)
def disk_May.f (a0_0 : Int) (l0_1 : List S72) : Option Bool := if a0_0 ≤ 9223372036854775807 then some (diskOk a0_0 l0_1) else none
theorem rd_at {α : Type} (d : α) (xs : List α) (i : Nat) (h : i < xs.length) : xs.getD (Int.toNat (i : Int)) d = xs[i] := by
 simp [List.getD_eq_getElem?_getD, List.getElem?_eq_getElem h]
def prevOf (fs : List S72) (i : Nat) : Option ByteArray := if i = 0 then none else some (fs.getD (i - 1) z72).f0
def timesOf (fs : List S72) (i : Nat) : List Int := ((fs.take i).map (·.f2)).reverse
theorem prevOf_succ (fs : List S72) (i : Nat) (h : i < fs.length) : prevOf fs (i + 1) = some fs[i].f0 := by
 unfold prevOf; rw [if_neg (by omega), Nat.add_sub_cancel]; simp [List.getD_eq_getElem?_getD, List.getElem?_eq_getElem h]
theorem timesOf_succ (fs : List S72) (i : Nat) (h : i < fs.length) : timesOf fs (i + 1) = fs[i].f2 :: timesOf fs i := by
 unfold timesOf; rw [List.take_succ_eq_append_getElem h, List.map_append, List.reverse_append]; rfl
theorem timesOf_len (fs : List S72) (i : Nat) : (timesOf fs i).length ≤ i := by unfold timesOf; simp; omega
theorem wpList_mapUpdate_set (w : World) {ops : Array Oper} {rest : List Oper} {o : Oper} {a : Act} {Q : Exit → Act → World → Prop} (hg : o.guard = none) (m x v : Operand) (hop : o.op = Op.mapUpdate 111 m x v) (B : Nat) (ts : List Int) (t : Int) (hm : a.eval m = .map (some B)) (hx : a.eval x = .int .i64 t) (hv : a.eval v = .bool true)
  (hs : SetI w B ts) (hl : ts.length < 9223372036854775807) (h0 : -9223372036854775808 ≤ t) (h1 : t ≤ 9223372036854775807) (hK : ∀ w', SetI w' B (t :: ts) → w.grownBy w' (some B) → wpList Tryd.prog ops Q rest (a.put o.dst undef) w') : wpList Tryd.prog ops Q (o :: rest) a w := by
 refine wpList_plain hg fun K' hK' => ?_
 obtain ⟨w', hrun, r1, r2⟩ := hs.update hl t h0 h1
 unfold Oper.wp
 simp [execOp, hop, hm, hx, hv, hrun, Result.andThen]
 exact hK' _ _ (hK w' r1 r2)
theorem grown_below {w w1 w' : World} {B : Nat} (h : Below w.heap.size w w1) (hg : w1.grownBy w' (some B)) (hB : w.heap.size ≤ B) : Below w.heap.size w w' := h.grown hg h.size (fun k hk => by injection hk with hk; omega)
/-- The ways through the test: which limb is the first that says no. -/
theorem ways6 (b1 b2 b3 b4 b5 b6 b7 : Bool) : b1 = false ∨ (b1 = true ∧ b2 = false) ∨ (b1 = true ∧ b2 = true ∧ b3 = true) ∨ (b1 = true ∧ b2 = true ∧ b3 = false ∧ b4 = true) ∨ (b1 = true ∧ b2 = true ∧ b3 = false ∧ b4 = false ∧ b5 = true) ∨ (b1 = true ∧ b2 = true ∧ b3 = false ∧ b4 = false ∧ b5 = false ∧ b6 = true ∧ b7 = false) ∨ (b1 = true ∧ b2 = true ∧ b3 = false ∧ b4 = false ∧ b5 = false ∧ b6 = false) ∨ (b1 = true ∧ b2 = true ∧ b3 = false ∧ b4 = false ∧ b5 = false ∧ b6 = true ∧ b7 = true) := by
 cases b1 <;> cases b2 <;> cases b3 <;> cases b4 <;> cases b5 <;> cases b6 <;> cases b7 <;> simp
def disk_May.T5 : Bool × List (List Nat × List Nat) := (true, [([], []), ([0], [0]), ([1], [1]), ([2], [2]), ([3, 2], [3]), ([4], [4]), ([5, 4], [4, 5]), ([6, 4, 4], [4, 6]), ([7, 4], [4, 7]), ([4, 8], [4, 8]), ([9, 7], [9]), ([10], [10]), ([11, 10], [10, 11]), ([12, 10], [10, 12]), ([10, 13], [10, 13]), ([14, 10], [14]), ([15], [15]), ([16, 15], [15, 16]), ([15], [15]), ([18, 15], [15, 18]), ([17, 19, 15], [15, 17, 19]), ([15, 20], [15, 20]), ([21, 15], [21]), ([22], [22]), ([22], [22]), ([24, 22], [22, 24]), ([23, 25, 22], [22, 23, 25]), ([22, 26], [22, 26]), ([27, 22], [27]), ([28], [28]), ([29, 28], [28, 29]), ([30, 28, 28], [28, 30]), ([31], [31]), ([32, 31], [31, 32]), ([31], [31]), ([34, 31], [31, 34]), ([33, 35, 31], [31, 33, 35]), ([36, 31], [31, 36]), ([37, 31], [31, 37]), ([31], [31]), ([39, 31], [31, 39]), ([38, 40, 31], [31, 38, 40]), ([31, 41, 28], [28, 31, 41]), ([28, 42], [28, 42])])
def disk_May.B5 : List Nat := [0, 1, 3, 7, 15, 31, 63, 127, 255, 511, 1023, 2047, 4095, 8191, 16383, 32767, 65535, 131071, 65535, 327679, 1048575, 2097151, 4194303, 8388607, 8388607, 25165823, 67108863, 134217727, 268435455, 536870911, 1073741823, 2147483647, 4294967295, 8589934591, 4294967295, 21474836479, 68719476735, 137438953471, 274877906943, 4294967295, 554050781183, 2199023255551, 4398046511103, 8796093022207]
theorem disk_May.tab5 : rtab .any (opsOf Tryd.f43 5) = disk_May.T5 := by kernel_rfl
theorem disk_May.bits5 : waitsOk disk_May.T5.2 disk_May.B5 = true := by kernel_rfl
@[reducible] def q0b0 : Array Bool := #[false, false, false, false, false, false, false, false, false, false, false, false, false, false, false, false, false, false, false, false, false, false, false, false, false, false, false, false, false, false, false, false, false, false, false, false, false, false, false, false, false, false, false, false]
@[reducible] def q0b1 : Array Bool := #[true, false, false, false, false, false, false, false, false, false, false, false, false, false, false, false, false, false, false, false, false, false, false, false, false, false, false, false, false, false, false, false, false, false, false, false, false, false, false, false, false, false, false, false]
@[reducible] def q0b2 : Array Bool := #[true, true, false, false, false, false, false, false, false, false, false, false, false, false, false, false, false, false, false, false, false, false, false, false, false, false, false, false, false, false, false, false, false, false, false, false, false, false, false, false, false, false, false, false]
@[reducible] def q0b3 : Array Bool := #[true, true, true, false, false, false, false, false, false, false, false, false, false, false, false, false, false, false, false, false, false, false, false, false, false, false, false, false, false, false, false, false, false, false, false, false, false, false, false, false, false, false, false, false]
@[reducible] def q0b4 : Array Bool := #[true, true, true, true, false, false, false, false, false, false, false, false, false, false, false, false, false, false, false, false, false, false, false, false, false, false, false, false, false, false, false, false, false, false, false, false, false, false, false, false, false, false, false, false]
@[reducible] def q0b5 : Array Bool := #[true, true, true, true, true, false, false, false, false, false, false, false, false, false, false, false, false, false, false, false, false, false, false, false, false, false, false, false, false, false, false, false, false, false, false, false, false, false, false, false, false, false, false, false]
@[reducible] def q0b6 : Array Bool := #[true, true, true, true, true, true, false, false, false, false, false, false, false, false, false, false, false, false, false, false, false, false, false, false, false, false, false, false, false, false, false, false, false, false, false, false, false, false, false, false, false, false, false, false]
@[reducible] def q0b7 : Array Bool := #[true, true, true, true, true, true, true, false, false, false, false, false, false, false, false, false, false, false, false, false, false, false, false, false, false, false, false, false, false, false, false, false, false, false, false, false, false, false, false, false, false, false, false, false]
@[reducible] def q0b8 : Array Bool := #[true, true, true, true, true, true, true, true, false, false, false, false, false, false, false, false, false, false, false, false, false, false, false, false, false, false, false, false, false, false, false, false, false, false, false, false, false, false, false, false, false, false, false, false]
@[reducible] def q0b9 : Array Bool := #[true, true, true, true, true, true, true, true, true, false, false, false, false, false, false, false, false, false, false, false, false, false, false, false, false, false, false, false, false, false, false, false, false, false, false, false, false, false, false, false, false, false, false, false]
@[reducible] def q0b10 : Array Bool := #[true, true, true, true, true, true, true, true, true, true, false, false, false, false, false, false, false, false, false, false, false, false, false, false, false, false, false, false, false, false, false, false, false, false, false, false, false, false, false, false, false, false, false, false]
@[reducible] def q0b11 : Array Bool := #[true, true, true, true, true, true, true, true, true, true, true, false, false, false, false, false, false, false, false, false, false, false, false, false, false, false, false, false, false, false, false, false, false, false, false, false, false, false, false, false, false, false, false, false]
@[reducible] def q0b12 : Array Bool := #[true, true, true, true, true, true, true, true, true, true, true, true, false, false, false, false, false, false, false, false, false, false, false, false, false, false, false, false, false, false, false, false, false, false, false, false, false, false, false, false, false, false, false, false]
@[reducible] def q0b13 : Array Bool := #[true, true, true, true, true, true, true, true, true, true, true, true, true, false, false, false, false, false, false, false, false, false, false, false, false, false, false, false, false, false, false, false, false, false, false, false, false, false, false, false, false, false, false, false]
@[reducible] def q0b14 : Array Bool := #[true, true, true, true, true, true, true, true, true, true, true, true, true, true, false, false, false, false, false, false, false, false, false, false, false, false, false, false, false, false, false, false, false, false, false, false, false, false, false, false, false, false, false, false]
@[reducible] def q0b15 : Array Bool := #[true, true, true, true, true, true, true, true, true, true, true, true, true, true, true, false, false, false, false, false, false, false, false, false, false, false, false, false, false, false, false, false, false, false, false, false, false, false, false, false, false, false, false, false]
@[reducible] def q0b16 : Array Bool := #[true, true, true, true, true, true, true, true, true, true, true, true, true, true, true, true, false, false, false, false, false, false, false, false, false, false, false, false, false, false, false, false, false, false, false, false, false, false, false, false, false, false, false, false]
@[reducible] def q0b17 : Array Bool := #[true, true, true, true, true, true, true, true, true, true, true, true, true, true, true, true, true, false, false, false, false, false, false, false, false, false, false, false, false, false, false, false, false, false, false, false, false, false, false, false, false, false, false, false]
@[reducible] def q0b18 : Array Bool := #[true, true, true, true, true, true, true, true, true, true, true, true, true, true, true, true, true, true, false, false, false, false, false, false, false, false, false, false, false, false, false, false, false, false, false, false, false, false, false, false, false, false, false, false]
@[reducible] def q0b19 : Array Bool := #[true, true, true, true, true, true, true, true, true, true, true, true, true, true, true, true, true, true, true, false, false, false, false, false, false, false, false, false, false, false, false, false, false, false, false, false, false, false, false, false, false, false, false, false]
@[reducible] def q0b20 : Array Bool := #[true, true, true, true, true, true, true, true, true, true, true, true, true, true, true, true, true, true, true, true, false, false, false, false, false, false, false, false, false, false, false, false, false, false, false, false, false, false, false, false, false, false, false, false]
@[reducible] def q0b21 : Array Bool := #[true, true, true, true, true, true, true, true, true, true, true, true, true, true, true, true, true, true, true, true, true, false, false, false, false, false, false, false, false, false, false, false, false, false, false, false, false, false, false, false, false, false, false, false]
@[reducible] def q0b22 : Array Bool := #[true, true, true, true, true, true, true, true, true, true, true, true, true, true, true, true, true, true, true, true, true, true, false, false, false, false, false, false, false, false, false, false, false, false, false, false, false, false, false, false, false, false, false, false]
@[reducible] def q0b23 : Array Bool := #[true, true, true, true, true, true, true, true, true, true, true, true, true, true, true, true, true, true, true, true, true, true, true, false, false, false, false, false, false, false, false, false, false, false, false, false, false, false, false, false, false, false, false, false]
@[reducible] def q0b24 : Array Bool := #[true, true, true, true, true, true, true, true, true, true, true, true, true, true, true, true, true, true, true, true, true, true, true, true, false, false, false, false, false, false, false, false, false, false, false, false, false, false, false, false, false, false, false, false]
@[reducible] def q0b25 : Array Bool := #[true, true, true, true, true, true, true, true, true, true, true, true, true, true, true, true, true, true, true, true, true, true, true, true, true, false, false, false, false, false, false, false, false, false, false, false, false, false, false, false, false, false, false, false]
@[reducible] def q0b26 : Array Bool := #[true, true, true, true, true, true, true, true, true, true, true, true, true, true, true, true, true, true, true, true, true, true, true, true, true, true, false, false, false, false, false, false, false, false, false, false, false, false, false, false, false, false, false, false]
@[reducible] def q0b27 : Array Bool := #[true, true, true, true, true, true, true, true, true, true, true, true, true, true, true, true, true, true, true, true, true, true, true, true, true, true, true, false, false, false, false, false, false, false, false, false, false, false, false, false, false, false, false, false]
@[reducible] def q0b28 : Array Bool := #[true, true, true, true, true, true, true, true, true, true, true, true, true, true, true, true, true, true, true, true, true, true, true, true, true, true, true, true, false, false, false, false, false, false, false, false, false, false, false, false, false, false, false, false]
@[reducible] def q0b29 : Array Bool := #[true, true, true, true, true, true, true, true, true, true, true, true, true, true, true, true, true, true, true, true, true, true, true, true, true, true, true, true, true, false, false, false, false, false, false, false, false, false, false, false, false, false, false, false]
@[reducible] def q0b30 : Array Bool := #[true, true, true, true, true, true, true, true, true, true, true, true, true, true, true, true, true, true, true, true, true, true, true, true, true, true, true, true, true, true, false, false, false, false, false, false, false, false, false, false, false, false, false, false]
@[reducible] def q0b31 : Array Bool := #[true, true, true, true, true, true, true, true, true, true, true, true, true, true, true, true, true, true, true, true, true, true, true, true, true, true, true, true, true, true, true, false, false, false, false, false, false, false, false, false, false, false, false, false]
@[reducible] def q0b32 : Array Bool := #[true, true, true, true, true, true, true, true, true, true, true, true, true, true, true, true, true, true, true, true, true, true, true, true, true, true, true, true, true, true, true, true, false, false, false, false, false, false, false, false, false, false, false, false]
@[reducible] def q0b33 : Array Bool := #[true, true, true, true, true, true, true, true, true, true, true, true, true, true, true, true, true, true, true, true, true, true, true, true, true, true, true, true, true, true, true, true, true, false, false, false, false, false, false, false, false, false, false, false]
@[reducible] def q0b34 : Array Bool := #[true, true, true, true, true, true, true, true, true, true, true, true, true, true, true, true, true, true, true, true, true, true, true, true, true, true, true, true, true, true, true, true, true, true, false, false, false, false, false, false, false, false, false, false]
@[reducible] def q0b35 : Array Bool := #[true, true, true, true, true, true, true, true, true, true, true, true, true, true, true, true, true, true, true, true, true, true, true, true, true, true, true, true, true, true, true, true, true, true, true, false, false, false, false, false, false, false, false, false]
@[reducible] def q0b36 : Array Bool := #[true, true, true, true, true, true, true, true, true, true, true, true, true, true, true, true, true, true, true, true, true, true, true, true, true, true, true, true, true, true, true, true, true, true, true, true, false, false, false, false, false, false, false, false]
@[reducible] def q0b37 : Array Bool := #[true, true, true, true, true, true, true, true, true, true, true, true, true, true, true, true, true, true, true, true, true, true, true, true, true, true, true, true, true, true, true, true, true, true, true, true, true, false, false, false, false, false, false, false]
@[reducible] def q0b38 : Array Bool := #[true, true, true, true, true, true, true, true, true, true, true, true, true, true, true, true, true, true, true, true, true, true, true, true, true, true, true, true, true, true, true, true, true, true, true, true, true, true, false, false, false, false, false, false]
@[reducible] def q0b39 : Array Bool := #[true, true, true, true, true, true, true, true, true, true, true, true, true, true, true, true, true, true, true, true, true, true, true, true, true, true, true, true, true, true, true, true, true, true, true, true, true, true, true, false, false, false, false, false]
@[reducible] def q0b40 : Array Bool := #[true, true, true, true, true, true, true, true, true, true, true, true, true, true, true, true, true, true, true, true, true, true, true, true, true, true, true, true, true, true, true, true, true, true, true, true, true, true, true, true, false, false, false, false]
@[reducible] def q0b41 : Array Bool := #[true, true, true, true, true, true, true, true, true, true, true, true, true, true, true, true, true, true, true, true, true, true, true, true, true, true, true, true, true, true, true, true, true, true, true, true, true, true, true, true, true, false, false, false]
@[reducible] def q0b42 : Array Bool := #[true, true, true, true, true, true, true, true, true, true, true, true, true, true, true, true, true, true, true, true, true, true, true, true, true, true, true, true, true, true, true, true, true, true, true, true, true, true, true, true, true, true, false, false]
@[reducible] def q0b43 : Array Bool := #[true, true, true, true, true, true, true, true, true, true, true, true, true, true, true, true, true, true, true, true, true, true, true, true, true, true, true, true, true, true, true, true, true, true, true, true, true, true, true, true, true, true, true, false]
@[reducible] def q0b44 : Array Bool := #[true, true, true, true, true, true, true, true, true, true, true, true, true, true, true, true, true, true, true, true, true, true, true, true, true, true, true, true, true, true, true, true, true, true, true, true, true, true, true, true, true, true, true, true]
@[reducible] def q0b45 : Array Bool := #[true, true, true, true, true, true, true, true, true, true, true, true, true, true, true, true, true, false, true, false, false, false, false, false, false, false, false, false, false, false, false, false, false, false, false, false, false, false, false, false, false, false, false, false]
@[reducible] def q0b46 : Array Bool := #[true, true, true, true, true, true, true, true, true, true, true, true, true, true, true, true, true, true, true, true, true, true, true, true, true, true, true, true, true, true, true, true, true, false, true, false, false, false, false, false, false, false, false, false]
@[reducible] def q0b47 : Array Bool := #[true, true, true, true, true, true, true, true, true, true, true, true, true, true, true, true, true, true, true, true, true, true, true, true, true, true, true, true, true, true, true, true, true, false, true, true, false, false, false, false, false, false, false, false]
@[reducible] def q0b48 : Array Bool := #[true, true, true, true, true, true, true, true, true, true, true, true, true, true, true, true, true, true, true, true, true, true, true, true, true, true, true, true, true, true, true, true, true, false, true, true, false, false, false, true, false, false, false, false]
@[reducible] def q0b49 : Array Bool := #[true, true, true, true, true, true, true, true, true, true, true, true, true, true, true, true, true, true, true, true, true, true, true, true, true, true, true, true, true, true, true, true, true, true, true, true, false, false, false, true, false, false, false, false]
@[reducible] def q0b50 : Array Bool := #[true, true, true, true, true, true, true, true, true, true, true, true, true, true, true, true, true, true, true, true, true, true, true, true, true, true, true, true, true, true, true, true, true, true, true, true, true, false, false, true, false, false, false, false]
@[reducible] def q0b51 : Array Bool := #[true, true, true, true, true, true, true, true, true, true, true, true, true, true, true, true, true, true, true, true, true, true, true, true, true, true, true, true, true, true, true, true, true, true, true, true, true, true, false, true, false, false, false, false]
set_option maxHeartbeats 8000000 in
set_option maxRecDepth 100000 in
theorem disk_May.walk (clock : Int) (A : Option Addr) (c : Nat) (fs : List S72) (w : World) (hr : Kd.C k72 w A fs.length fs) (hc : fs.length ≤ c) (hk : clock ≤ 9223372036854775807) :
  Calls Tryd.prog 43 #[.agg #[.int .i64 clock, .slice A fs.length c]] w fun e w' => e = .returned (.bool (diskOk clock fs)) ∧ Below w.heap.size w w' := by
 have hm : fs.length ≤ 9223372036854775807 := hr.2.1
 have hmm := @run_makeMap Tryd.prog
 have HR := Aside0.mk hr
 have HK := Aside0.mk hk
 clear hr hk
 go_enter Tryd.func43, Tryd.ntmps43
 go_wp2
 go_loopg [10] fs.length (fun gf s10 wx => ∃ i : Nat, s10 = .int .i64 i ∧ i ≤ fs.length ∧ fs.length ≤ i + gf ∧ Aside0 (diskOk clock fs = (filesOk clock (fs.drop i) (prevOf fs i) (timesOf fs i) && (decide (0 ≤ clock) && decide (clock ≤ 1048576)) && decide (fs.length ≤ 64))) ∧ Aside0 (wx.heap[w.heap.size]? = some (.cells #[.int .i64 clock, .slice A fs.length c] 28 (0, 0))) ∧ Aside0 (SetI wx (w.heap.size + 1) (timesOf fs i)) ∧ Aside0 (Below w.heap.size w wx))
 case atStart =>
  refine ⟨0, rfl, Nat.zero_le _, by omega, ⟨rfl⟩, ⟨?_⟩, ⟨?_⟩, ⟨?_⟩⟩
  ·exact blk_alloc (heap_alloc_new w _) _
  ·have := SetI.made (w.alloc (.cells #[.int .i64 clock, .slice A fs.length c] 28))
   rw [show timesOf fs 0 = [] from rfl]
   simpa using this
  ·exact below_alloc (below_alloc (Below.refl _ _) _) _
 case round =>
  obtain ⟨i, rfl, hi, hg, hall, hbk, hst, hB⟩ := hrel
  by_cases hlt : i < fs.length
  ·obtain ⟨g', rfl⟩ : ∃ g', gk = g' + 1 := ⟨gk - 1, by omega⟩
   obtain ⟨ad, e1, hx0, hx1, hx2⟩ := at_T72 (Kd.C_below HR.out hB.out) (i : Int) (by omega) (by omega)
   cases e1
   obtain ⟨ad', e2, hy0, _, _⟩ := at_T72 (Kd.C_below HR.out hB.out) ((i - 1 : Nat) : Int) (by omega) (by omega)
   injection e2 with e2
   subst e2
   rw [show Int.toNat (i : Int) = i from rfl] at hx0 hx1 hx2
   rw [show Int.toNat ((i - 1 : Nat) : Int) = i - 1 from rfl] at hy0
   have hfi : rd_T72 fs (i : Int) = fs[i] := rd_at _ fs i hlt
   obtain ⟨nm, hnm⟩ : ∃ nm, (rd_T72 fs (i : Int)).f0 = nm := ⟨_, rfl⟩
   obtain ⟨ct, hct⟩ : ∃ ct, (rd_T72 fs (i : Int)).f1 = ct := ⟨_, rfl⟩
   obtain ⟨tm, htm⟩ : ∃ tm, (rd_T72 fs (i : Int)).f2 = tm := ⟨_, rfl⟩
   obtain ⟨pn, hpn⟩ : ∃ pn, (rd_T72 fs ((i - 1 : Nat) : Int)).f0 = pn := ⟨_, rfl⟩
   rw [hnm] at hx0
   rw [hct] at hx1
   rw [htm] at hx2
   rw [hpn] at hy0
   obtain ⟨b1, h1⟩ : ∃ b, Cru.pathOk nm = b := ⟨_, rfl⟩
   obtain ⟨b2, h2⟩ : ∃ b, (decide (0 ≤ ct) && decide (ct ≤ 2147483647)) = b := ⟨_, rfl⟩
   obtain ⟨b3, h3⟩ : ∃ b, decide (tm < 1) = b := ⟨_, rfl⟩
   obtain ⟨b4, h4⟩ : ∃ b, decide (clock < tm) = b := ⟨_, rfl⟩
   obtain ⟨b5, h5⟩ : ∃ b, decide (tm ∈ timesOf fs i) = b := ⟨_, rfl⟩
   obtain ⟨b6, h6⟩ : ∃ b, decide ((0 : Int) < (i : Int)) = b := ⟨_, rfl⟩
   have h6n : decide (0 < i) = b6 := by rw [← h6]; simp
   obtain ⟨b7, h7⟩ : ∃ b, Op.bytesLess pn.toList nm.toList = b := ⟨_, rfl⟩
   have HF : Aside0 (filesOk clock (fs.drop i) (prevOf fs i) (timesOf fs i) = (b1 && b2 && (!b3 && !b4) && !b5 && (!b6 || b7) && filesOk clock (fs.drop (i + 1)) (prevOf fs (i + 1)) (timesOf fs (i + 1)))) := by
    constructor
    rw [List.drop_eq_getElem_cons hlt, prevOf_succ fs i hlt, timesOf_succ fs i hlt, filesOk, ← hfi]
    congr 1
    unfold fileOk
    rw [hnm, hct, htm, h1, h2, h5, ← h3, ← h4, ← h6, ← h7]
    have e3 : decide (1 ≤ tm) = !decide (tm < 1) := by rw [Bool.eq_iff_iff]; simp
    have e4 : decide (tm ≤ clock) = !decide (clock < tm) := by rw [Bool.eq_iff_iff]; simp
    rw [e3, e4]
    congr 1
    unfold prevOf
    by_cases hi0 : i = 0
    ·rw [if_pos hi0]; simp [hi0]
    ·rw [if_neg hi0]
     have : decide ((0 : Int) < (i : Int)) = true := decide_eq_true (by omega)
     rw [this]
     show Op.bytesLess (fs.getD (i - 1) z72).f0.toList nm.toList = _
     rw [show fs.getD (i - 1) z72 = rd_T72 fs ((i - 1 : Nat) : Int) from rfl, hpn]
     rfl
   have HP : Aside0 (∀ W, Calls Tryd.prog 60 #[.string nm] W fun e w' => e = .returned (.bool b1) ∧ Below W.heap.size W w') := by
    constructor
    intro W
    obtain ⟨k, hk⟩ := (path_Is.tells nm).rounds
    rw [h1] at hk
    exact path_Is.calls k nm b1 W hk
   have HT : Aside0 (∀ W, Calls Tryd.prog 61 #[.int .i64 ct] W fun e w' => e = .returned (.bool b2) ∧ Drawn0 W w') := by
    constructor
    intro W
    refine disk_content.calls ct b2 W ?_
    unfold disk_content.f
    by_cases h0 : ct ≥ 0
    ·rw [if_pos h0, ← h2, decide_eq_true h0]; simp
    ·rw [if_neg h0, ← h2, decide_eq_false h0]; simp
   have HTM : Aside0 (b3 = false → b4 = false → 1 ≤ tm ∧ tm ≤ 9223372036854775807) := by
    constructor
    intro e3 e4
    rw [e3] at h3
    rw [e4] at h4
    have := of_decide_eq_false h3
    have := of_decide_eq_false h4
    have := HK.out
    omega
   have HLK : Aside0 (∀ W, SetI W (w.heap.size + 1) (timesOf fs i) → b3 = false → b4 = false → (Instr.lookup 111 (.map (some (w.heap.size + 1))) (.int .i64 tm) false).run Tryd.prog W = .ok (.bool b5) W) := by
    constructor
    intro W hW e3 e4
    have ht := HTM.out e3 e4
    have := hW.lookup tm (by omega) ht.2
    rw [h5] at this
    exact this
   have HX := Aside0.mk (show ∀ W, Below wr.heap.size wr W → W.cell? (ad.add ((i - 1) * 3)) = some (.string pn) from fun W hW => (hW.cell (World.block_lt_of_cell? wr _ hy0)).trans hy0)
   have hTF : timesOf fs (i + 1) = tm :: timesOf fs i := by rw [timesOf_succ fs i hlt, ← hfi, htm]
   have HTF := Aside0.mk hTF
   clear h1 h2 h5 hfi hpn hTF
   have hsz : w.heap.size + 1 < wr.heap.size := hst.out.lt
   have hm' : (i : Int) < (fs.length : Int) := by omega
   go_wp2
   clear hnm hct htm hx0 hx1 hx2 hy0
   have n0 := Aside0.mk (blk_alloc hbk.out (.cells #[.string nm, .int .i64 ct, .int .i64 tm] 72))
   have n1 := Aside0.mk (heap_alloc_new wr (.cells #[.string nm, .int .i64 ct, .int .i64 tm] 72))
   have n2 := Aside0.mk (SetI.below hst.out (below_alloc (Below.refl _ _) (.cells #[.string nm, .int .i64 ct, .int .i64 tm] 72)))
   have n3 := Aside0.mk (below_alloc hB.out (.cells #[.string nm, .int .i64 ct, .int .i64 tm] 72))
   have n4 := Aside0.mk (below_alloc (Below.refl wr.heap.size wr) (.cells #[.string nm, .int .i64 ct, .int .i64 tm] 72))
   clear hbk hst hB
   generalize wr.alloc (.cells #[.string nm, .int .i64 ct, .int .i64 tm] 72) = W0 at n0 n1 n2 n3 n4 ⊢
   obtain ⟨g, hg⟩ : ∃ g, wr.heap.size = g := ⟨_, rfl⟩
   have HGS := Aside0.mk (show w.heap.size + 1 < g by omega)
   have HXX := Aside0.mk (show ∀ W, Below W0.heap.size W0 W → W.cell? (ad.add ((i - 1) * 3)) = some (.string pn) from fun W hW => HX.out W (below_step n4.out hW))
   rw [hg] at n1 ⊢
   clear HX n4 hg hsz
   rcases ways6 b1 b2 b3 b4 b5 b6 b7 with rfl | ⟨rfl, rfl⟩ | ⟨rfl, rfl, rfl⟩ | ⟨rfl, rfl, rfl, rfl⟩ | ⟨rfl, rfl, rfl, rfl, rfl⟩ | ⟨rfl, rfl, rfl, rfl, rfl, rfl, rfl⟩ | ⟨rfl, rfl, rfl, rfl, rfl, rfl⟩ | ⟨rfl, rfl, rfl, rfl, rfl, rfl, rfl⟩
   all_goals
    have KC := Aside0.mk (show ∀ W, Below W0.heap.size W0 W → W.cell? ⟨g, 0, none⟩ = some (.string nm) ∧ W.cell? ⟨g, 1, none⟩ = some (.int .i64 ct) ∧ W.cell? ⟨g, 2, none⟩ = some (.int .i64 tm) ∧ W.cell? ⟨w.heap.size, 0, none⟩ = some (.int .i64 clock) ∧ W.cell? ⟨w.heap.size, 1, none⟩ = some (.slice (some ad) fs.length c) ∧ W.cell? (ad.add ((i - 1) * 3)) = some (.string pn) from fun W hW => ⟨blk_cell (blk_below n1.out hW) 0, blk_cell (blk_below n1.out hW) 1, blk_cell (blk_below n1.out hW) 2, blk_cell (blk_below n0.out hW) 0, blk_cell (blk_below n0.out hW) 1, HXX.out W hW⟩)
   -- WAYS BEGIN
   ·refine start_ (n := 44) (S := fun w' => w'.cell? ⟨g, 0, none⟩ = some (.string nm) ∧ w'.cell? ⟨g, 1, none⟩ = some (.int .i64 ct) ∧ w'.cell? ⟨g, 2, none⟩ = some (.int .i64 tm) ∧ w'.cell? ⟨w.heap.size, 0, none⟩ = some (.int .i64 clock) ∧ w'.cell? ⟨w.heap.size, 1, none⟩ = some (.slice (some ad) fs.length c) ∧ w'.cell? (ad.add ((i - 1) * 3)) = some (.string pn)) (ds := []) q0b0 (by kernel_rfl) rfl rfl (KC.out _ (below_drew1 (Below.refl _ _))) (fun hHeld => ?_)
    refine with_tabW disk_May.tab5 disk_May.bits5 (fun HT_ HW_ => ?_)
    refine pure_ (i := 0) (N := some 15) (v := ?_) (a' := ?_) q0b1 rfl rfl (any_of HT_.out (by kernel_rfl)) (fun _ _ _ h => h) (Or.inl ⟨by rfl, ?_⟩) ?_ ?_
    rotate_left
    ·intro w'
     go_simp
     with_reducible rfl
    rotate_left
    ·simp only [Act.put, List.setIfInBounds_toArray, List.set_cons_zero, List.set_cons_succ, i64_w, i32_w]
     rfl
    refine take_ (i := 1) (N := some 16) (v := ?_) (a' := ?_) q0b2 rfl rfl (take_ofW HT_.out HW_.out (by kernel_rfl)) (fun _ _ _ h => h) (Or.inl ⟨by rfl, ?_⟩) hHeld ?_ ?_
    rotate_left
    ·rintro w' ⟨s0, s1, s2, s3, s4, s5⟩
     go_simp
     with_reducible rfl
    rotate_left
    ·simp only [Act.put, List.setIfInBounds_toArray, List.set_cons_zero, List.set_cons_succ, i64_w, i32_w]
     rfl
    refine one_ (i := 2) (N := some 17) q0b3 rfl rfl (one_of HT_.out (by kernel_rfl)) (by decide) (fun K hK => ?_)
    refine goes_ Tryd.func60 (by kernel_rfl) rfl #[.string nm] (by rfl) rfl rfl (by (try simp only [List.map_toArray, List.map_cons, List.map_nil]); first | done | rfl) ?_
    with_reducible refine (HP.out _).mono ?_
    rintro e w5 ⟨rfl, hb5⟩
    have HB5 := Aside0.mk (below_step (below_drew1 (Below.refl _ _)) hb5)
    clear hb5
    refine ⟨_, rfl, ?_⟩
    refine hK.out _ _ (KC.out _ HB5.out) (fun hHeld => ?_)
    clear hK K
    refine norm_ (a' := ?_) ?_ ?_
    rotate_left
    ·show Act.put _ (some 17) _ = _
     simp only [Act.put, List.setIfInBounds_toArray, List.set_cons_zero, List.set_cons_succ, i64_w, i32_w]
     rfl
    refine pure_ (i := 3) (N := some 18) (v := ?_) (a' := ?_) q0b4 rfl rfl (any_of HT_.out (by kernel_rfl)) (fun _ _ _ h => h) (Or.inl ⟨by rfl, ?_⟩) ?_ ?_
    rotate_left
    ·intro w'
     go_simp
     with_reducible rfl
    rotate_left
    ·simp only [Act.put, List.setIfInBounds_toArray, List.set_cons_zero, List.set_cons_succ, i64_w, i32_w]
     rfl
    refine pure_ (i := 4) (N := some 19) (v := ?_) (a' := ?_) q0b5 rfl rfl (any_of HT_.out (by kernel_rfl)) (fun _ _ _ h => h) (Or.inl ⟨by rfl, ?_⟩) ?_ ?_
    rotate_left
    ·intro w'
     go_simp
     with_reducible rfl
    rotate_left
    ·simp only [Act.put, List.setIfInBounds_toArray, List.set_cons_zero, List.set_cons_succ, i64_w, i32_w]
     rfl
    refine pure_ (i := 5) (N := some 20) (v := undef) (a' := ?_) q0b6 rfl rfl (any_of HT_.out (by kernel_rfl)) (fun _ _ _ h => h) (Or.inr ⟨by rfl, rfl⟩) ?_ ?_
    rotate_left
    ·simp only [Act.put, List.setIfInBounds_toArray, List.set_cons_zero, List.set_cons_succ, i64_w, i32_w]
     rfl
    refine pure_ (i := 6) (N := some 21) (v := undef) (a' := ?_) q0b7 rfl rfl (any_of HT_.out (by kernel_rfl)) (fun _ _ _ h => h) (Or.inr ⟨by rfl, rfl⟩) ?_ ?_
    rotate_left
    ·simp only [Act.put, List.setIfInBounds_toArray, List.set_cons_zero, List.set_cons_succ, i64_w, i32_w]
     rfl
    refine pure_ (i := 7) (N := some 22) (v := undef) (a' := ?_) q0b8 rfl rfl (any_of HT_.out (by kernel_rfl)) (fun _ _ _ h => h) (Or.inr ⟨by rfl, rfl⟩) ?_ ?_
    rotate_left
    ·simp only [Act.put, List.setIfInBounds_toArray, List.set_cons_zero, List.set_cons_succ, i64_w, i32_w]
     rfl
    refine pure_ (i := 8) (N := some 23) (v := undef) (a' := ?_) q0b9 rfl rfl (any_of HT_.out (by kernel_rfl)) (fun _ _ _ h => h) (Or.inr ⟨by rfl, rfl⟩) ?_ ?_
    rotate_left
    ·simp only [Act.put, List.setIfInBounds_toArray, List.set_cons_zero, List.set_cons_succ, i64_w, i32_w]
     rfl
    refine pure_ (i := 9) (N := some 24) (v := ?_) (a' := ?_) q0b10 rfl rfl (any_of HT_.out (by kernel_rfl)) (fun _ _ _ h => h) (Or.inl ⟨by rfl, ?_⟩) ?_ ?_
    rotate_left
    ·intro w'
     go_simp
     with_reducible rfl
    rotate_left
    ·simp only [Act.put, List.setIfInBounds_toArray, List.set_cons_zero, List.set_cons_succ, i64_w, i32_w]
     rfl
    refine pure_ (i := 10) (N := some 25) (v := ?_) (a' := ?_) q0b11 rfl rfl (any_of HT_.out (by kernel_rfl)) (fun _ _ _ h => h) (Or.inl ⟨by rfl, ?_⟩) ?_ ?_
    rotate_left
    ·intro w'
     go_simp
     with_reducible rfl
    rotate_left
    ·simp only [Act.put, List.setIfInBounds_toArray, List.set_cons_zero, List.set_cons_succ, i64_w, i32_w]
     rfl
    refine pure_ (i := 11) (N := some 26) (v := undef) (a' := ?_) q0b12 rfl rfl (any_of HT_.out (by kernel_rfl)) (fun _ _ _ h => h) (Or.inr ⟨by rfl, rfl⟩) ?_ ?_
    rotate_left
    ·simp only [Act.put, List.setIfInBounds_toArray, List.set_cons_zero, List.set_cons_succ, i64_w, i32_w]
     rfl
    refine pure_ (i := 12) (N := some 27) (v := undef) (a' := ?_) q0b13 rfl rfl (any_of HT_.out (by kernel_rfl)) (fun _ _ _ h => h) (Or.inr ⟨by rfl, rfl⟩) ?_ ?_
    rotate_left
    ·simp only [Act.put, List.setIfInBounds_toArray, List.set_cons_zero, List.set_cons_succ, i64_w, i32_w]
     rfl
    refine pure_ (i := 13) (N := some 28) (v := undef) (a' := ?_) q0b14 rfl rfl (any_of HT_.out (by kernel_rfl)) (fun _ _ _ h => h) (Or.inr ⟨by rfl, rfl⟩) ?_ ?_
    rotate_left
    ·simp only [Act.put, List.setIfInBounds_toArray, List.set_cons_zero, List.set_cons_succ, i64_w, i32_w]
     rfl
    refine pure_ (i := 14) (N := some 29) (v := ?_) (a' := ?_) q0b15 rfl rfl (any_of HT_.out (by kernel_rfl)) (fun _ _ _ h => h) (Or.inl ⟨by rfl, ?_⟩) ?_ ?_
    rotate_left
    ·intro w'
     go_simp
     with_reducible rfl
    rotate_left
    ·simp only [Act.put, List.setIfInBounds_toArray, List.set_cons_zero, List.set_cons_succ, i64_w, i32_w]
     rfl
    refine pure_ (i := 15) (N := some 30) (v := ?_) (a' := ?_) q0b16 rfl rfl (any_of HT_.out (by kernel_rfl)) (fun _ _ _ h => h) (Or.inl ⟨by rfl, ?_⟩) ?_ ?_
    rotate_left
    ·intro w'
     go_simp
     with_reducible rfl
    rotate_left
    ·simp only [Act.put, List.setIfInBounds_toArray, List.set_cons_zero, List.set_cons_succ, i64_w, i32_w]
     rfl
    refine pure_ (i := 16) (N := some 31) (v := undef) (a' := ?_) q0b17 rfl rfl (any_of HT_.out (by kernel_rfl)) (fun _ _ _ h => h) (Or.inr ⟨by rfl, rfl⟩) ?_ ?_
    rotate_left
    ·simp only [Act.put, List.setIfInBounds_toArray, List.set_cons_zero, List.set_cons_succ, i64_w, i32_w]
     rfl
    refine pure_ (i := 17) (N := some 32) (v := undef) (a' := ?_) q0b18 rfl rfl (any_of HT_.out (by kernel_rfl)) (fun _ _ _ h => h) (Or.inr ⟨by rfl, rfl⟩) ?_ ?_
    rotate_left
    ·simp only [Act.put, List.setIfInBounds_toArray, List.set_cons_zero, List.set_cons_succ, i64_w, i32_w]
     rfl
    refine pure_ (i := 18) (N := some 33) (v := undef) (a' := ?_) q0b19 rfl rfl (any_of HT_.out (by kernel_rfl)) (fun _ _ _ h => h) (Or.inr ⟨by rfl, rfl⟩) ?_ ?_
    rotate_left
    ·simp only [Act.put, List.setIfInBounds_toArray, List.set_cons_zero, List.set_cons_succ, i64_w, i32_w]
     rfl
    refine pure_ (i := 19) (N := some 34) (v := undef) (a' := ?_) q0b20 rfl rfl (any_of HT_.out (by kernel_rfl)) (fun _ _ _ h => h) (Or.inr ⟨by rfl, rfl⟩) ?_ ?_
    rotate_left
    ·simp only [Act.put, List.setIfInBounds_toArray, List.set_cons_zero, List.set_cons_succ, i64_w, i32_w]
     rfl
    refine pure_ (i := 20) (N := some 35) (v := undef) (a' := ?_) q0b21 rfl rfl (any_of HT_.out (by kernel_rfl)) (fun _ _ _ h => h) (Or.inr ⟨by rfl, rfl⟩) ?_ ?_
    rotate_left
    ·simp only [Act.put, List.setIfInBounds_toArray, List.set_cons_zero, List.set_cons_succ, i64_w, i32_w]
     rfl
    refine pure_ (i := 21) (N := some 36) (v := ?_) (a' := ?_) q0b22 rfl rfl (any_of HT_.out (by kernel_rfl)) (fun _ _ _ h => h) (Or.inl ⟨by rfl, ?_⟩) ?_ ?_
    rotate_left
    ·intro w'
     go_simp
     with_reducible rfl
    rotate_left
    ·simp only [Act.put, List.setIfInBounds_toArray, List.set_cons_zero, List.set_cons_succ, i64_w, i32_w]
     rfl
    refine pure_ (i := 22) (N := some 37) (v := ?_) (a' := ?_) q0b23 rfl rfl (any_of HT_.out (by kernel_rfl)) (fun _ _ _ h => h) (Or.inl ⟨by rfl, ?_⟩) ?_ ?_
    rotate_left
    ·intro w'
     go_simp
     with_reducible rfl
    rotate_left
    ·simp only [Act.put, List.setIfInBounds_toArray, List.set_cons_zero, List.set_cons_succ, i64_w, i32_w]
     rfl
    refine pure_ (i := 23) (N := some 38) (v := undef) (a' := ?_) q0b24 rfl rfl (any_of HT_.out (by kernel_rfl)) (fun _ _ _ h => h) (Or.inr ⟨by rfl, rfl⟩) ?_ ?_
    rotate_left
    ·simp only [Act.put, List.setIfInBounds_toArray, List.set_cons_zero, List.set_cons_succ, i64_w, i32_w]
     rfl
    refine pure_ (i := 24) (N := some 39) (v := undef) (a' := ?_) q0b25 rfl rfl (any_of HT_.out (by kernel_rfl)) (fun _ _ _ h => h) (Or.inr ⟨by rfl, rfl⟩) ?_ ?_
    rotate_left
    ·simp only [Act.put, List.setIfInBounds_toArray, List.set_cons_zero, List.set_cons_succ, i64_w, i32_w]
     rfl
    refine pure_ (i := 25) (N := some 40) (v := undef) (a' := ?_) q0b26 rfl rfl (any_of HT_.out (by kernel_rfl)) (fun _ _ _ h => h) (Or.inr ⟨by rfl, rfl⟩) ?_ ?_
    rotate_left
    ·simp only [Act.put, List.setIfInBounds_toArray, List.set_cons_zero, List.set_cons_succ, i64_w, i32_w]
     rfl
    refine pure_ (i := 26) (N := some 41) (v := undef) (a' := ?_) q0b27 rfl rfl (any_of HT_.out (by kernel_rfl)) (fun _ _ _ h => h) (Or.inr ⟨by rfl, rfl⟩) ?_ ?_
    rotate_left
    ·simp only [Act.put, List.setIfInBounds_toArray, List.set_cons_zero, List.set_cons_succ, i64_w, i32_w]
     rfl
    refine pure_ (i := 27) (N := some 42) (v := ?_) (a' := ?_) q0b28 rfl rfl (any_of HT_.out (by kernel_rfl)) (fun _ _ _ h => h) (Or.inl ⟨by rfl, ?_⟩) ?_ ?_
    rotate_left
    ·intro w'
     go_simp
     with_reducible rfl
    rotate_left
    ·simp only [Act.put, List.setIfInBounds_toArray, List.set_cons_zero, List.set_cons_succ, i64_w, i32_w]
     rfl
    refine pure_ (i := 28) (N := some 43) (v := ?_) (a' := ?_) q0b29 rfl rfl (any_of HT_.out (by kernel_rfl)) (fun _ _ _ h => h) (Or.inl ⟨by rfl, ?_⟩) ?_ ?_
    rotate_left
    ·intro w'
     go_simp
     with_reducible rfl
    rotate_left
    ·simp only [Act.put, List.setIfInBounds_toArray, List.set_cons_zero, List.set_cons_succ, i64_w, i32_w]
     rfl
    refine pure_ (i := 29) (N := some 44) (v := undef) (a' := ?_) q0b30 rfl rfl (any_of HT_.out (by kernel_rfl)) (fun _ _ _ h => h) (Or.inr ⟨by rfl, rfl⟩) ?_ ?_
    rotate_left
    ·simp only [Act.put, List.setIfInBounds_toArray, List.set_cons_zero, List.set_cons_succ, i64_w, i32_w]
     rfl
    refine pure_ (i := 30) (N := some 45) (v := undef) (a' := ?_) q0b31 rfl rfl (any_of HT_.out (by kernel_rfl)) (fun _ _ _ h => h) (Or.inr ⟨by rfl, rfl⟩) ?_ ?_
    rotate_left
    ·simp only [Act.put, List.setIfInBounds_toArray, List.set_cons_zero, List.set_cons_succ, i64_w, i32_w]
     rfl
    refine pure_ (i := 31) (N := some 46) (v := undef) (a' := ?_) q0b32 rfl rfl (any_of HT_.out (by kernel_rfl)) (fun _ _ _ h => h) (Or.inr ⟨by rfl, rfl⟩) ?_ ?_
    rotate_left
    ·simp only [Act.put, List.setIfInBounds_toArray, List.set_cons_zero, List.set_cons_succ, i64_w, i32_w]
     rfl
    refine pure_ (i := 32) (N := some 47) (v := undef) (a' := ?_) q0b33 rfl rfl (any_of HT_.out (by kernel_rfl)) (fun _ _ _ h => h) (Or.inr ⟨by rfl, rfl⟩) ?_ ?_
    rotate_left
    ·simp only [Act.put, List.setIfInBounds_toArray, List.set_cons_zero, List.set_cons_succ, i64_w, i32_w]
     rfl
    refine pure_ (i := 33) (N := some 48) (v := undef) (a' := ?_) q0b34 rfl rfl (any_of HT_.out (by kernel_rfl)) (fun _ _ _ h => h) (Or.inr ⟨by rfl, rfl⟩) ?_ ?_
    rotate_left
    ·simp only [Act.put, List.setIfInBounds_toArray, List.set_cons_zero, List.set_cons_succ, i64_w, i32_w]
     rfl
    refine pure_ (i := 34) (N := some 49) (v := undef) (a' := ?_) q0b35 rfl rfl (any_of HT_.out (by kernel_rfl)) (fun _ _ _ h => h) (Or.inr ⟨by rfl, rfl⟩) ?_ ?_
    rotate_left
    ·simp only [Act.put, List.setIfInBounds_toArray, List.set_cons_zero, List.set_cons_succ, i64_w, i32_w]
     rfl
    refine pure_ (i := 35) (N := some 50) (v := undef) (a' := ?_) q0b36 rfl rfl (any_of HT_.out (by kernel_rfl)) (fun _ _ _ h => h) (Or.inr ⟨by rfl, rfl⟩) ?_ ?_
    rotate_left
    ·simp only [Act.put, List.setIfInBounds_toArray, List.set_cons_zero, List.set_cons_succ, i64_w, i32_w]
     rfl
    refine pure_ (i := 36) (N := some 51) (v := undef) (a' := ?_) q0b37 rfl rfl (any_of HT_.out (by kernel_rfl)) (fun _ _ _ h => h) (Or.inr ⟨by rfl, rfl⟩) ?_ ?_
    rotate_left
    ·simp only [Act.put, List.setIfInBounds_toArray, List.set_cons_zero, List.set_cons_succ, i64_w, i32_w]
     rfl
    refine pure_ (i := 37) (N := some 52) (v := undef) (a' := ?_) q0b38 rfl rfl (any_of HT_.out (by kernel_rfl)) (fun _ _ _ h => h) (Or.inr ⟨by rfl, rfl⟩) ?_ ?_
    rotate_left
    ·simp only [Act.put, List.setIfInBounds_toArray, List.set_cons_zero, List.set_cons_succ, i64_w, i32_w]
     rfl
    refine pure_ (i := 38) (N := some 53) (v := undef) (a' := ?_) q0b39 rfl rfl (any_of HT_.out (by kernel_rfl)) (fun _ _ _ h => h) (Or.inr ⟨by rfl, rfl⟩) ?_ ?_
    rotate_left
    ·simp only [Act.put, List.setIfInBounds_toArray, List.set_cons_zero, List.set_cons_succ, i64_w, i32_w]
     rfl
    refine pure_ (i := 39) (N := some 54) (v := undef) (a' := ?_) q0b40 rfl rfl (any_of HT_.out (by kernel_rfl)) (fun _ _ _ h => h) (Or.inr ⟨by rfl, rfl⟩) ?_ ?_
    rotate_left
    ·simp only [Act.put, List.setIfInBounds_toArray, List.set_cons_zero, List.set_cons_succ, i64_w, i32_w]
     rfl
    refine pure_ (i := 40) (N := some 55) (v := undef) (a' := ?_) q0b41 rfl rfl (any_of HT_.out (by kernel_rfl)) (fun _ _ _ h => h) (Or.inr ⟨by rfl, rfl⟩) ?_ ?_
    rotate_left
    ·simp only [Act.put, List.setIfInBounds_toArray, List.set_cons_zero, List.set_cons_succ, i64_w, i32_w]
     rfl
    refine pure_ (i := 41) (N := some 56) (v := undef) (a' := ?_) q0b42 rfl rfl (any_of HT_.out (by kernel_rfl)) (fun _ _ _ h => h) (Or.inr ⟨by rfl, rfl⟩) ?_ ?_
    rotate_left
    ·simp only [Act.put, List.setIfInBounds_toArray, List.set_cons_zero, List.set_cons_succ, i64_w, i32_w]
     rfl
    refine pure_ (i := 42) (N := some 57) (v := undef) (a' := ?_) q0b43 rfl rfl (any_of HT_.out (by kernel_rfl)) (fun _ _ _ h => h) (Or.inr ⟨by rfl, rfl⟩) ?_ ?_
    rotate_left
    ·simp only [Act.put, List.setIfInBounds_toArray, List.set_cons_zero, List.set_cons_succ, i64_w, i32_w]
     rfl
    refine pure_ (i := 43) (N := some 58) (v := ?_) (a' := ?_) q0b44 rfl rfl (any_of HT_.out (by kernel_rfl)) (fun _ _ _ h => h) (Or.inl ⟨by rfl, ?_⟩) ?_ ?_
    rotate_left
    ·intro w'
     go_simp
     with_reducible rfl
    rotate_left
    ·simp only [Act.put, List.setIfInBounds_toArray, List.set_cons_zero, List.set_cons_succ, i64_w, i32_w]
     rfl
    refine done_ (done_of HT_.out (by kernel_rfl)) ?_
    have HD := Aside0.mk HB5.out
    try go_wp2
    go_ret
    refine ⟨?_, below_then n3.out n3.out.size HD.out⟩
    rw [hall.out, HF.out]
    simp
   ·refine start_ (n := 44) (S := fun w' => w'.cell? ⟨g, 0, none⟩ = some (.string nm) ∧ w'.cell? ⟨g, 1, none⟩ = some (.int .i64 ct) ∧ w'.cell? ⟨g, 2, none⟩ = some (.int .i64 tm) ∧ w'.cell? ⟨w.heap.size, 0, none⟩ = some (.int .i64 clock) ∧ w'.cell? ⟨w.heap.size, 1, none⟩ = some (.slice (some ad) fs.length c) ∧ w'.cell? (ad.add ((i - 1) * 3)) = some (.string pn)) (ds := []) q0b0 (by kernel_rfl) rfl rfl (KC.out _ (below_drew1 (Below.refl _ _))) (fun hHeld => ?_)
    refine with_tabW disk_May.tab5 disk_May.bits5 (fun HT_ HW_ => ?_)
    refine pure_ (i := 0) (N := some 15) (v := ?_) (a' := ?_) q0b1 rfl rfl (any_of HT_.out (by kernel_rfl)) (fun _ _ _ h => h) (Or.inl ⟨by rfl, ?_⟩) ?_ ?_
    rotate_left
    ·intro w'
     go_simp
     with_reducible rfl
    rotate_left
    ·simp only [Act.put, List.setIfInBounds_toArray, List.set_cons_zero, List.set_cons_succ, i64_w, i32_w]
     rfl
    refine take_ (i := 1) (N := some 16) (v := ?_) (a' := ?_) q0b2 rfl rfl (take_ofW HT_.out HW_.out (by kernel_rfl)) (fun _ _ _ h => h) (Or.inl ⟨by rfl, ?_⟩) hHeld ?_ ?_
    rotate_left
    ·rintro w' ⟨s0, s1, s2, s3, s4, s5⟩
     go_simp
     with_reducible rfl
    rotate_left
    ·simp only [Act.put, List.setIfInBounds_toArray, List.set_cons_zero, List.set_cons_succ, i64_w, i32_w]
     rfl
    refine one_ (i := 2) (N := some 17) q0b3 rfl rfl (one_of HT_.out (by kernel_rfl)) (by decide) (fun K hK => ?_)
    refine goes_ Tryd.func60 (by kernel_rfl) rfl #[.string nm] (by rfl) rfl rfl (by (try simp only [List.map_toArray, List.map_cons, List.map_nil]); first | done | rfl) ?_
    with_reducible refine (HP.out _).mono ?_
    rintro e w5 ⟨rfl, hb5⟩
    have HB5 := Aside0.mk (below_step (below_drew1 (Below.refl _ _)) hb5)
    clear hb5
    refine ⟨_, rfl, ?_⟩
    refine hK.out _ _ (KC.out _ HB5.out) (fun hHeld => ?_)
    clear hK K
    refine norm_ (a' := ?_) ?_ ?_
    rotate_left
    ·show Act.put _ (some 17) _ = _
     simp only [Act.put, List.setIfInBounds_toArray, List.set_cons_zero, List.set_cons_succ, i64_w, i32_w]
     rfl
    refine pure_ (i := 3) (N := some 18) (v := ?_) (a' := ?_) q0b4 rfl rfl (any_of HT_.out (by kernel_rfl)) (fun _ _ _ h => h) (Or.inl ⟨by rfl, ?_⟩) ?_ ?_
    rotate_left
    ·intro w'
     go_simp
     with_reducible rfl
    rotate_left
    ·simp only [Act.put, List.setIfInBounds_toArray, List.set_cons_zero, List.set_cons_succ, i64_w, i32_w]
     rfl
    refine pure_ (i := 4) (N := some 19) (v := ?_) (a' := ?_) q0b5 rfl rfl (any_of HT_.out (by kernel_rfl)) (fun _ _ _ h => h) (Or.inl ⟨by rfl, ?_⟩) ?_ ?_
    rotate_left
    ·intro w'
     go_simp
     with_reducible rfl
    rotate_left
    ·simp only [Act.put, List.setIfInBounds_toArray, List.set_cons_zero, List.set_cons_succ, i64_w, i32_w]
     rfl
    refine pure_ (i := 5) (N := some 20) (v := ?_) (a' := ?_) q0b6 rfl rfl (any_of HT_.out (by kernel_rfl)) (fun _ _ _ h => h) (Or.inl ⟨by rfl, ?_⟩) ?_ ?_
    rotate_left
    ·intro w'
     go_simp
     with_reducible rfl
    rotate_left
    ·simp only [Act.put, List.setIfInBounds_toArray, List.set_cons_zero, List.set_cons_succ, i64_w, i32_w]
     rfl
    refine take_ (i := 6) (N := some 21) (v := ?_) (a' := ?_) q0b7 rfl rfl (take_ofW HT_.out HW_.out (by kernel_rfl)) (fun _ _ _ h => h) (Or.inl ⟨by rfl, ?_⟩) hHeld ?_ ?_
    rotate_left
    ·rintro w' ⟨s0, s1, s2, s3, s4, s5⟩
     go_simp
     with_reducible rfl
    rotate_left
    ·simp only [Act.put, List.setIfInBounds_toArray, List.set_cons_zero, List.set_cons_succ, i64_w, i32_w]
     rfl
    refine one_ (i := 7) (N := some 22) q0b8 rfl rfl (one_of HT_.out (by kernel_rfl)) (by decide) (fun K hK => ?_)
    refine goes_ Tryd.func61 (by kernel_rfl) rfl #[.int .i64 ct] (by rfl) rfl rfl (by (try simp only [List.map_toArray, List.map_cons, List.map_nil]); first | done | rfl) ?_
    with_reducible refine (HT.out _).mono ?_
    rintro e w6 ⟨rfl, ⟨nd, rfl⟩⟩
    refine ⟨_, rfl, ?_⟩
    refine hK.out _ _ (KC.out _ (pw_below_drewN HB5.out nd)) (fun hHeld => ?_)
    clear hK K
    refine norm_ (a' := ?_) ?_ ?_
    rotate_left
    ·show Act.put _ (some 22) _ = _
     simp only [Act.put, List.setIfInBounds_toArray, List.set_cons_zero, List.set_cons_succ, i64_w, i32_w]
     rfl
    refine pure_ (i := 8) (N := some 23) (v := ?_) (a' := ?_) q0b9 rfl rfl (any_of HT_.out (by kernel_rfl)) (fun _ _ _ h => h) (Or.inl ⟨by rfl, ?_⟩) ?_ ?_
    rotate_left
    ·intro w'
     go_simp
     with_reducible rfl
    rotate_left
    ·simp only [Act.put, List.setIfInBounds_toArray, List.set_cons_zero, List.set_cons_succ, i64_w, i32_w]
     rfl
    refine pure_ (i := 9) (N := some 24) (v := ?_) (a' := ?_) q0b10 rfl rfl (any_of HT_.out (by kernel_rfl)) (fun _ _ _ h => h) (Or.inl ⟨by rfl, ?_⟩) ?_ ?_
    rotate_left
    ·intro w'
     go_simp
     with_reducible rfl
    rotate_left
    ·simp only [Act.put, List.setIfInBounds_toArray, List.set_cons_zero, List.set_cons_succ, i64_w, i32_w]
     rfl
    refine pure_ (i := 10) (N := some 25) (v := ?_) (a' := ?_) q0b11 rfl rfl (any_of HT_.out (by kernel_rfl)) (fun _ _ _ h => h) (Or.inl ⟨by rfl, ?_⟩) ?_ ?_
    rotate_left
    ·intro w'
     go_simp
     with_reducible rfl
    rotate_left
    ·simp only [Act.put, List.setIfInBounds_toArray, List.set_cons_zero, List.set_cons_succ, i64_w, i32_w]
     rfl
    refine pure_ (i := 11) (N := some 26) (v := undef) (a' := ?_) q0b12 rfl rfl (any_of HT_.out (by kernel_rfl)) (fun _ _ _ h => h) (Or.inr ⟨by rfl, rfl⟩) ?_ ?_
    rotate_left
    ·simp only [Act.put, List.setIfInBounds_toArray, List.set_cons_zero, List.set_cons_succ, i64_w, i32_w]
     rfl
    refine pure_ (i := 12) (N := some 27) (v := undef) (a' := ?_) q0b13 rfl rfl (any_of HT_.out (by kernel_rfl)) (fun _ _ _ h => h) (Or.inr ⟨by rfl, rfl⟩) ?_ ?_
    rotate_left
    ·simp only [Act.put, List.setIfInBounds_toArray, List.set_cons_zero, List.set_cons_succ, i64_w, i32_w]
     rfl
    refine pure_ (i := 13) (N := some 28) (v := undef) (a' := ?_) q0b14 rfl rfl (any_of HT_.out (by kernel_rfl)) (fun _ _ _ h => h) (Or.inr ⟨by rfl, rfl⟩) ?_ ?_
    rotate_left
    ·simp only [Act.put, List.setIfInBounds_toArray, List.set_cons_zero, List.set_cons_succ, i64_w, i32_w]
     rfl
    refine pure_ (i := 14) (N := some 29) (v := ?_) (a' := ?_) q0b15 rfl rfl (any_of HT_.out (by kernel_rfl)) (fun _ _ _ h => h) (Or.inl ⟨by rfl, ?_⟩) ?_ ?_
    rotate_left
    ·intro w'
     go_simp
     with_reducible rfl
    rotate_left
    ·simp only [Act.put, List.setIfInBounds_toArray, List.set_cons_zero, List.set_cons_succ, i64_w, i32_w]
     rfl
    refine pure_ (i := 15) (N := some 30) (v := ?_) (a' := ?_) q0b16 rfl rfl (any_of HT_.out (by kernel_rfl)) (fun _ _ _ h => h) (Or.inl ⟨by rfl, ?_⟩) ?_ ?_
    rotate_left
    ·intro w'
     go_simp
     with_reducible rfl
    rotate_left
    ·simp only [Act.put, List.setIfInBounds_toArray, List.set_cons_zero, List.set_cons_succ, i64_w, i32_w]
     rfl
    refine pure_ (i := 16) (N := some 31) (v := undef) (a' := ?_) q0b17 rfl rfl (any_of HT_.out (by kernel_rfl)) (fun _ _ _ h => h) (Or.inr ⟨by rfl, rfl⟩) ?_ ?_
    rotate_left
    ·simp only [Act.put, List.setIfInBounds_toArray, List.set_cons_zero, List.set_cons_succ, i64_w, i32_w]
     rfl
    refine pure_ (i := 17) (N := some 32) (v := undef) (a' := ?_) q0b18 rfl rfl (any_of HT_.out (by kernel_rfl)) (fun _ _ _ h => h) (Or.inr ⟨by rfl, rfl⟩) ?_ ?_
    rotate_left
    ·simp only [Act.put, List.setIfInBounds_toArray, List.set_cons_zero, List.set_cons_succ, i64_w, i32_w]
     rfl
    refine pure_ (i := 18) (N := some 33) (v := undef) (a' := ?_) q0b19 rfl rfl (any_of HT_.out (by kernel_rfl)) (fun _ _ _ h => h) (Or.inr ⟨by rfl, rfl⟩) ?_ ?_
    rotate_left
    ·simp only [Act.put, List.setIfInBounds_toArray, List.set_cons_zero, List.set_cons_succ, i64_w, i32_w]
     rfl
    refine pure_ (i := 19) (N := some 34) (v := undef) (a' := ?_) q0b20 rfl rfl (any_of HT_.out (by kernel_rfl)) (fun _ _ _ h => h) (Or.inr ⟨by rfl, rfl⟩) ?_ ?_
    rotate_left
    ·simp only [Act.put, List.setIfInBounds_toArray, List.set_cons_zero, List.set_cons_succ, i64_w, i32_w]
     rfl
    refine pure_ (i := 20) (N := some 35) (v := undef) (a' := ?_) q0b21 rfl rfl (any_of HT_.out (by kernel_rfl)) (fun _ _ _ h => h) (Or.inr ⟨by rfl, rfl⟩) ?_ ?_
    rotate_left
    ·simp only [Act.put, List.setIfInBounds_toArray, List.set_cons_zero, List.set_cons_succ, i64_w, i32_w]
     rfl
    refine pure_ (i := 21) (N := some 36) (v := ?_) (a' := ?_) q0b22 rfl rfl (any_of HT_.out (by kernel_rfl)) (fun _ _ _ h => h) (Or.inl ⟨by rfl, ?_⟩) ?_ ?_
    rotate_left
    ·intro w'
     go_simp
     with_reducible rfl
    rotate_left
    ·simp only [Act.put, List.setIfInBounds_toArray, List.set_cons_zero, List.set_cons_succ, i64_w, i32_w]
     rfl
    refine pure_ (i := 22) (N := some 37) (v := ?_) (a' := ?_) q0b23 rfl rfl (any_of HT_.out (by kernel_rfl)) (fun _ _ _ h => h) (Or.inl ⟨by rfl, ?_⟩) ?_ ?_
    rotate_left
    ·intro w'
     go_simp
     with_reducible rfl
    rotate_left
    ·simp only [Act.put, List.setIfInBounds_toArray, List.set_cons_zero, List.set_cons_succ, i64_w, i32_w]
     rfl
    refine pure_ (i := 23) (N := some 38) (v := undef) (a' := ?_) q0b24 rfl rfl (any_of HT_.out (by kernel_rfl)) (fun _ _ _ h => h) (Or.inr ⟨by rfl, rfl⟩) ?_ ?_
    rotate_left
    ·simp only [Act.put, List.setIfInBounds_toArray, List.set_cons_zero, List.set_cons_succ, i64_w, i32_w]
     rfl
    refine pure_ (i := 24) (N := some 39) (v := undef) (a' := ?_) q0b25 rfl rfl (any_of HT_.out (by kernel_rfl)) (fun _ _ _ h => h) (Or.inr ⟨by rfl, rfl⟩) ?_ ?_
    rotate_left
    ·simp only [Act.put, List.setIfInBounds_toArray, List.set_cons_zero, List.set_cons_succ, i64_w, i32_w]
     rfl
    refine pure_ (i := 25) (N := some 40) (v := undef) (a' := ?_) q0b26 rfl rfl (any_of HT_.out (by kernel_rfl)) (fun _ _ _ h => h) (Or.inr ⟨by rfl, rfl⟩) ?_ ?_
    rotate_left
    ·simp only [Act.put, List.setIfInBounds_toArray, List.set_cons_zero, List.set_cons_succ, i64_w, i32_w]
     rfl
    refine pure_ (i := 26) (N := some 41) (v := undef) (a' := ?_) q0b27 rfl rfl (any_of HT_.out (by kernel_rfl)) (fun _ _ _ h => h) (Or.inr ⟨by rfl, rfl⟩) ?_ ?_
    rotate_left
    ·simp only [Act.put, List.setIfInBounds_toArray, List.set_cons_zero, List.set_cons_succ, i64_w, i32_w]
     rfl
    refine pure_ (i := 27) (N := some 42) (v := ?_) (a' := ?_) q0b28 rfl rfl (any_of HT_.out (by kernel_rfl)) (fun _ _ _ h => h) (Or.inl ⟨by rfl, ?_⟩) ?_ ?_
    rotate_left
    ·intro w'
     go_simp
     with_reducible rfl
    rotate_left
    ·simp only [Act.put, List.setIfInBounds_toArray, List.set_cons_zero, List.set_cons_succ, i64_w, i32_w]
     rfl
    refine pure_ (i := 28) (N := some 43) (v := ?_) (a' := ?_) q0b29 rfl rfl (any_of HT_.out (by kernel_rfl)) (fun _ _ _ h => h) (Or.inl ⟨by rfl, ?_⟩) ?_ ?_
    rotate_left
    ·intro w'
     go_simp
     with_reducible rfl
    rotate_left
    ·simp only [Act.put, List.setIfInBounds_toArray, List.set_cons_zero, List.set_cons_succ, i64_w, i32_w]
     rfl
    refine pure_ (i := 29) (N := some 44) (v := undef) (a' := ?_) q0b30 rfl rfl (any_of HT_.out (by kernel_rfl)) (fun _ _ _ h => h) (Or.inr ⟨by rfl, rfl⟩) ?_ ?_
    rotate_left
    ·simp only [Act.put, List.setIfInBounds_toArray, List.set_cons_zero, List.set_cons_succ, i64_w, i32_w]
     rfl
    refine pure_ (i := 30) (N := some 45) (v := undef) (a' := ?_) q0b31 rfl rfl (any_of HT_.out (by kernel_rfl)) (fun _ _ _ h => h) (Or.inr ⟨by rfl, rfl⟩) ?_ ?_
    rotate_left
    ·simp only [Act.put, List.setIfInBounds_toArray, List.set_cons_zero, List.set_cons_succ, i64_w, i32_w]
     rfl
    refine pure_ (i := 31) (N := some 46) (v := undef) (a' := ?_) q0b32 rfl rfl (any_of HT_.out (by kernel_rfl)) (fun _ _ _ h => h) (Or.inr ⟨by rfl, rfl⟩) ?_ ?_
    rotate_left
    ·simp only [Act.put, List.setIfInBounds_toArray, List.set_cons_zero, List.set_cons_succ, i64_w, i32_w]
     rfl
    refine pure_ (i := 32) (N := some 47) (v := undef) (a' := ?_) q0b33 rfl rfl (any_of HT_.out (by kernel_rfl)) (fun _ _ _ h => h) (Or.inr ⟨by rfl, rfl⟩) ?_ ?_
    rotate_left
    ·simp only [Act.put, List.setIfInBounds_toArray, List.set_cons_zero, List.set_cons_succ, i64_w, i32_w]
     rfl
    refine pure_ (i := 33) (N := some 48) (v := undef) (a' := ?_) q0b34 rfl rfl (any_of HT_.out (by kernel_rfl)) (fun _ _ _ h => h) (Or.inr ⟨by rfl, rfl⟩) ?_ ?_
    rotate_left
    ·simp only [Act.put, List.setIfInBounds_toArray, List.set_cons_zero, List.set_cons_succ, i64_w, i32_w]
     rfl
    refine pure_ (i := 34) (N := some 49) (v := undef) (a' := ?_) q0b35 rfl rfl (any_of HT_.out (by kernel_rfl)) (fun _ _ _ h => h) (Or.inr ⟨by rfl, rfl⟩) ?_ ?_
    rotate_left
    ·simp only [Act.put, List.setIfInBounds_toArray, List.set_cons_zero, List.set_cons_succ, i64_w, i32_w]
     rfl
    refine pure_ (i := 35) (N := some 50) (v := undef) (a' := ?_) q0b36 rfl rfl (any_of HT_.out (by kernel_rfl)) (fun _ _ _ h => h) (Or.inr ⟨by rfl, rfl⟩) ?_ ?_
    rotate_left
    ·simp only [Act.put, List.setIfInBounds_toArray, List.set_cons_zero, List.set_cons_succ, i64_w, i32_w]
     rfl
    refine pure_ (i := 36) (N := some 51) (v := undef) (a' := ?_) q0b37 rfl rfl (any_of HT_.out (by kernel_rfl)) (fun _ _ _ h => h) (Or.inr ⟨by rfl, rfl⟩) ?_ ?_
    rotate_left
    ·simp only [Act.put, List.setIfInBounds_toArray, List.set_cons_zero, List.set_cons_succ, i64_w, i32_w]
     rfl
    refine pure_ (i := 37) (N := some 52) (v := undef) (a' := ?_) q0b38 rfl rfl (any_of HT_.out (by kernel_rfl)) (fun _ _ _ h => h) (Or.inr ⟨by rfl, rfl⟩) ?_ ?_
    rotate_left
    ·simp only [Act.put, List.setIfInBounds_toArray, List.set_cons_zero, List.set_cons_succ, i64_w, i32_w]
     rfl
    refine pure_ (i := 38) (N := some 53) (v := undef) (a' := ?_) q0b39 rfl rfl (any_of HT_.out (by kernel_rfl)) (fun _ _ _ h => h) (Or.inr ⟨by rfl, rfl⟩) ?_ ?_
    rotate_left
    ·simp only [Act.put, List.setIfInBounds_toArray, List.set_cons_zero, List.set_cons_succ, i64_w, i32_w]
     rfl
    refine pure_ (i := 39) (N := some 54) (v := undef) (a' := ?_) q0b40 rfl rfl (any_of HT_.out (by kernel_rfl)) (fun _ _ _ h => h) (Or.inr ⟨by rfl, rfl⟩) ?_ ?_
    rotate_left
    ·simp only [Act.put, List.setIfInBounds_toArray, List.set_cons_zero, List.set_cons_succ, i64_w, i32_w]
     rfl
    refine pure_ (i := 40) (N := some 55) (v := undef) (a' := ?_) q0b41 rfl rfl (any_of HT_.out (by kernel_rfl)) (fun _ _ _ h => h) (Or.inr ⟨by rfl, rfl⟩) ?_ ?_
    rotate_left
    ·simp only [Act.put, List.setIfInBounds_toArray, List.set_cons_zero, List.set_cons_succ, i64_w, i32_w]
     rfl
    refine pure_ (i := 41) (N := some 56) (v := undef) (a' := ?_) q0b42 rfl rfl (any_of HT_.out (by kernel_rfl)) (fun _ _ _ h => h) (Or.inr ⟨by rfl, rfl⟩) ?_ ?_
    rotate_left
    ·simp only [Act.put, List.setIfInBounds_toArray, List.set_cons_zero, List.set_cons_succ, i64_w, i32_w]
     rfl
    refine pure_ (i := 42) (N := some 57) (v := undef) (a' := ?_) q0b43 rfl rfl (any_of HT_.out (by kernel_rfl)) (fun _ _ _ h => h) (Or.inr ⟨by rfl, rfl⟩) ?_ ?_
    rotate_left
    ·simp only [Act.put, List.setIfInBounds_toArray, List.set_cons_zero, List.set_cons_succ, i64_w, i32_w]
     rfl
    refine pure_ (i := 43) (N := some 58) (v := ?_) (a' := ?_) q0b44 rfl rfl (any_of HT_.out (by kernel_rfl)) (fun _ _ _ h => h) (Or.inl ⟨by rfl, ?_⟩) ?_ ?_
    rotate_left
    ·intro w'
     go_simp
     with_reducible rfl
    rotate_left
    ·simp only [Act.put, List.setIfInBounds_toArray, List.set_cons_zero, List.set_cons_succ, i64_w, i32_w]
     rfl
    refine done_ (done_of HT_.out (by kernel_rfl)) ?_
    have HD := Aside0.mk (pw_below_drewN HB5.out nd)
    try go_wp2
    go_ret
    refine ⟨?_, below_then n3.out n3.out.size HD.out⟩
    rw [hall.out, HF.out]
    simp
   ·refine start_ (n := 44) (S := fun w' => w'.cell? ⟨g, 0, none⟩ = some (.string nm) ∧ w'.cell? ⟨g, 1, none⟩ = some (.int .i64 ct) ∧ w'.cell? ⟨g, 2, none⟩ = some (.int .i64 tm) ∧ w'.cell? ⟨w.heap.size, 0, none⟩ = some (.int .i64 clock) ∧ w'.cell? ⟨w.heap.size, 1, none⟩ = some (.slice (some ad) fs.length c) ∧ w'.cell? (ad.add ((i - 1) * 3)) = some (.string pn)) (ds := []) q0b0 (by kernel_rfl) rfl rfl (KC.out _ (below_drew1 (Below.refl _ _))) (fun hHeld => ?_)
    refine with_tabW disk_May.tab5 disk_May.bits5 (fun HT_ HW_ => ?_)
    refine pure_ (i := 0) (N := some 15) (v := ?_) (a' := ?_) q0b1 rfl rfl (any_of HT_.out (by kernel_rfl)) (fun _ _ _ h => h) (Or.inl ⟨by rfl, ?_⟩) ?_ ?_
    rotate_left
    ·intro w'
     go_simp
     with_reducible rfl
    rotate_left
    ·simp only [Act.put, List.setIfInBounds_toArray, List.set_cons_zero, List.set_cons_succ, i64_w, i32_w]
     rfl
    refine take_ (i := 1) (N := some 16) (v := ?_) (a' := ?_) q0b2 rfl rfl (take_ofW HT_.out HW_.out (by kernel_rfl)) (fun _ _ _ h => h) (Or.inl ⟨by rfl, ?_⟩) hHeld ?_ ?_
    rotate_left
    ·rintro w' ⟨s0, s1, s2, s3, s4, s5⟩
     go_simp
     with_reducible rfl
    rotate_left
    ·simp only [Act.put, List.setIfInBounds_toArray, List.set_cons_zero, List.set_cons_succ, i64_w, i32_w]
     rfl
    refine one_ (i := 2) (N := some 17) q0b3 rfl rfl (one_of HT_.out (by kernel_rfl)) (by decide) (fun K hK => ?_)
    refine goes_ Tryd.func60 (by kernel_rfl) rfl #[.string nm] (by rfl) rfl rfl (by (try simp only [List.map_toArray, List.map_cons, List.map_nil]); first | done | rfl) ?_
    with_reducible refine (HP.out _).mono ?_
    rintro e w5 ⟨rfl, hb5⟩
    have HB5 := Aside0.mk (below_step (below_drew1 (Below.refl _ _)) hb5)
    clear hb5
    refine ⟨_, rfl, ?_⟩
    refine hK.out _ _ (KC.out _ HB5.out) (fun hHeld => ?_)
    clear hK K
    refine norm_ (a' := ?_) ?_ ?_
    rotate_left
    ·show Act.put _ (some 17) _ = _
     simp only [Act.put, List.setIfInBounds_toArray, List.set_cons_zero, List.set_cons_succ, i64_w, i32_w]
     rfl
    refine pure_ (i := 3) (N := some 18) (v := ?_) (a' := ?_) q0b4 rfl rfl (any_of HT_.out (by kernel_rfl)) (fun _ _ _ h => h) (Or.inl ⟨by rfl, ?_⟩) ?_ ?_
    rotate_left
    ·intro w'
     go_simp
     with_reducible rfl
    rotate_left
    ·simp only [Act.put, List.setIfInBounds_toArray, List.set_cons_zero, List.set_cons_succ, i64_w, i32_w]
     rfl
    refine pure_ (i := 4) (N := some 19) (v := ?_) (a' := ?_) q0b5 rfl rfl (any_of HT_.out (by kernel_rfl)) (fun _ _ _ h => h) (Or.inl ⟨by rfl, ?_⟩) ?_ ?_
    rotate_left
    ·intro w'
     go_simp
     with_reducible rfl
    rotate_left
    ·simp only [Act.put, List.setIfInBounds_toArray, List.set_cons_zero, List.set_cons_succ, i64_w, i32_w]
     rfl
    refine pure_ (i := 5) (N := some 20) (v := ?_) (a' := ?_) q0b6 rfl rfl (any_of HT_.out (by kernel_rfl)) (fun _ _ _ h => h) (Or.inl ⟨by rfl, ?_⟩) ?_ ?_
    rotate_left
    ·intro w'
     go_simp
     with_reducible rfl
    rotate_left
    ·simp only [Act.put, List.setIfInBounds_toArray, List.set_cons_zero, List.set_cons_succ, i64_w, i32_w]
     rfl
    refine take_ (i := 6) (N := some 21) (v := ?_) (a' := ?_) q0b7 rfl rfl (take_ofW HT_.out HW_.out (by kernel_rfl)) (fun _ _ _ h => h) (Or.inl ⟨by rfl, ?_⟩) hHeld ?_ ?_
    rotate_left
    ·rintro w' ⟨s0, s1, s2, s3, s4, s5⟩
     go_simp
     with_reducible rfl
    rotate_left
    ·simp only [Act.put, List.setIfInBounds_toArray, List.set_cons_zero, List.set_cons_succ, i64_w, i32_w]
     rfl
    refine one_ (i := 7) (N := some 22) q0b8 rfl rfl (one_of HT_.out (by kernel_rfl)) (by decide) (fun K hK => ?_)
    refine goes_ Tryd.func61 (by kernel_rfl) rfl #[.int .i64 ct] (by rfl) rfl rfl (by (try simp only [List.map_toArray, List.map_cons, List.map_nil]); first | done | rfl) ?_
    with_reducible refine (HT.out _).mono ?_
    rintro e w6 ⟨rfl, ⟨nd, rfl⟩⟩
    refine ⟨_, rfl, ?_⟩
    refine hK.out _ _ (KC.out _ (pw_below_drewN HB5.out nd)) (fun hHeld => ?_)
    clear hK K
    refine norm_ (a' := ?_) ?_ ?_
    rotate_left
    ·show Act.put _ (some 22) _ = _
     simp only [Act.put, List.setIfInBounds_toArray, List.set_cons_zero, List.set_cons_succ, i64_w, i32_w]
     rfl
    refine pure_ (i := 8) (N := some 23) (v := ?_) (a' := ?_) q0b9 rfl rfl (any_of HT_.out (by kernel_rfl)) (fun _ _ _ h => h) (Or.inl ⟨by rfl, ?_⟩) ?_ ?_
    rotate_left
    ·intro w'
     go_simp
     with_reducible rfl
    rotate_left
    ·simp only [Act.put, List.setIfInBounds_toArray, List.set_cons_zero, List.set_cons_succ, i64_w, i32_w]
     rfl
    refine pure_ (i := 9) (N := some 24) (v := ?_) (a' := ?_) q0b10 rfl rfl (any_of HT_.out (by kernel_rfl)) (fun _ _ _ h => h) (Or.inl ⟨by rfl, ?_⟩) ?_ ?_
    rotate_left
    ·intro w'
     go_simp
     with_reducible rfl
    rotate_left
    ·simp only [Act.put, List.setIfInBounds_toArray, List.set_cons_zero, List.set_cons_succ, i64_w, i32_w]
     rfl
    refine pure_ (i := 10) (N := some 25) (v := ?_) (a' := ?_) q0b11 rfl rfl (any_of HT_.out (by kernel_rfl)) (fun _ _ _ h => h) (Or.inl ⟨by rfl, ?_⟩) ?_ ?_
    rotate_left
    ·intro w'
     go_simp
     with_reducible rfl
    rotate_left
    ·simp only [Act.put, List.setIfInBounds_toArray, List.set_cons_zero, List.set_cons_succ, i64_w, i32_w]
     rfl
    refine pure_ (i := 11) (N := some 26) (v := ?_) (a' := ?_) q0b12 rfl rfl (any_of HT_.out (by kernel_rfl)) (fun _ _ _ h => h) (Or.inl ⟨by rfl, ?_⟩) ?_ ?_
    rotate_left
    ·intro w'
     go_simp
     with_reducible rfl
    rotate_left
    ·simp only [Act.put, List.setIfInBounds_toArray, List.set_cons_zero, List.set_cons_succ, i64_w, i32_w]
     rfl
    refine take_ (i := 12) (N := some 27) (v := ?_) (a' := ?_) q0b13 rfl rfl (take_ofW HT_.out HW_.out (by kernel_rfl)) (fun _ _ _ h => h) (Or.inl ⟨by rfl, ?_⟩) hHeld ?_ ?_
    rotate_left
    ·rintro w' ⟨s0, s1, s2, s3, s4, s5⟩
     go_simp
     with_reducible rfl
    rotate_left
    ·simp only [Act.put, List.setIfInBounds_toArray, List.set_cons_zero, List.set_cons_succ, i64_w, i32_w]
     rfl
    refine pure_ (i := 13) (N := some 28) (v := ?_) (a' := ?_) q0b14 rfl rfl (any_of HT_.out (by kernel_rfl)) (fun _ _ _ h => h) (Or.inl ⟨by rfl, ?_⟩) ?_ ?_
    rotate_left
    ·intro w'
     go_simp
     with_reducible rfl
    rotate_left
    ·simp only [Act.put, List.setIfInBounds_toArray, List.set_cons_zero, List.set_cons_succ, i64_w, i32_w]
     rfl
    refine pure_ (i := 14) (N := some 29) (v := ?_) (a' := ?_) q0b15 rfl rfl (any_of HT_.out (by kernel_rfl)) (fun _ _ _ h => h) (Or.inl ⟨by rfl, ?_⟩) ?_ ?_
    rotate_left
    ·intro w'
     go_simp
     with_reducible rfl
    rotate_left
    ·simp only [Act.put, List.setIfInBounds_toArray, List.set_cons_zero, List.set_cons_succ, i64_w, i32_w]
     rfl
    refine pure_ (i := 15) (N := some 30) (v := ?_) (a' := ?_) q0b16 rfl rfl (any_of HT_.out (by kernel_rfl)) (fun _ _ _ h => h) (Or.inl ⟨by rfl, ?_⟩) ?_ ?_
    rotate_left
    ·intro w'
     go_simp
     with_reducible rfl
    rotate_left
    ·simp only [Act.put, List.setIfInBounds_toArray, List.set_cons_zero, List.set_cons_succ, i64_w, i32_w]
     rfl
    refine pure_ (i := 16) (N := some 31) (v := undef) (a' := ?_) q0b17 rfl rfl (any_of HT_.out (by kernel_rfl)) (fun _ _ _ h => h) (Or.inr ⟨by rfl, rfl⟩) ?_ ?_
    rotate_left
    ·simp only [Act.put, List.setIfInBounds_toArray, List.set_cons_zero, List.set_cons_succ, i64_w, i32_w]
     rfl
    refine pure_ (i := 17) (N := some 32) (v := undef) (a' := ?_) q0b18 rfl rfl (any_of HT_.out (by kernel_rfl)) (fun _ _ _ h => h) (Or.inr ⟨by rfl, rfl⟩) ?_ ?_
    rotate_left
    ·simp only [Act.put, List.setIfInBounds_toArray, List.set_cons_zero, List.set_cons_succ, i64_w, i32_w]
     rfl
    refine pure_ (i := 18) (N := some 33) (v := undef) (a' := ?_) q0b19 rfl rfl (any_of HT_.out (by kernel_rfl)) (fun _ _ _ h => h) (Or.inr ⟨by rfl, rfl⟩) ?_ ?_
    rotate_left
    ·simp only [Act.put, List.setIfInBounds_toArray, List.set_cons_zero, List.set_cons_succ, i64_w, i32_w]
     rfl
    refine pure_ (i := 19) (N := some 34) (v := undef) (a' := ?_) q0b20 rfl rfl (any_of HT_.out (by kernel_rfl)) (fun _ _ _ h => h) (Or.inr ⟨by rfl, rfl⟩) ?_ ?_
    rotate_left
    ·simp only [Act.put, List.setIfInBounds_toArray, List.set_cons_zero, List.set_cons_succ, i64_w, i32_w]
     rfl
    refine pure_ (i := 20) (N := some 35) (v := undef) (a' := ?_) q0b21 rfl rfl (any_of HT_.out (by kernel_rfl)) (fun _ _ _ h => h) (Or.inr ⟨by rfl, rfl⟩) ?_ ?_
    rotate_left
    ·simp only [Act.put, List.setIfInBounds_toArray, List.set_cons_zero, List.set_cons_succ, i64_w, i32_w]
     rfl
    refine pure_ (i := 21) (N := some 36) (v := ?_) (a' := ?_) q0b22 rfl rfl (any_of HT_.out (by kernel_rfl)) (fun _ _ _ h => h) (Or.inl ⟨by rfl, ?_⟩) ?_ ?_
    rotate_left
    ·intro w'
     go_simp
     with_reducible rfl
    rotate_left
    ·simp only [Act.put, List.setIfInBounds_toArray, List.set_cons_zero, List.set_cons_succ, i64_w, i32_w]
     rfl
    refine pure_ (i := 22) (N := some 37) (v := ?_) (a' := ?_) q0b23 rfl rfl (any_of HT_.out (by kernel_rfl)) (fun _ _ _ h => h) (Or.inl ⟨by rfl, ?_⟩) ?_ ?_
    rotate_left
    ·intro w'
     go_simp
     with_reducible rfl
    rotate_left
    ·simp only [Act.put, List.setIfInBounds_toArray, List.set_cons_zero, List.set_cons_succ, i64_w, i32_w]
     rfl
    refine pure_ (i := 23) (N := some 38) (v := undef) (a' := ?_) q0b24 rfl rfl (any_of HT_.out (by kernel_rfl)) (fun _ _ _ h => h) (Or.inr ⟨by rfl, rfl⟩) ?_ ?_
    rotate_left
    ·simp only [Act.put, List.setIfInBounds_toArray, List.set_cons_zero, List.set_cons_succ, i64_w, i32_w]
     rfl
    refine pure_ (i := 24) (N := some 39) (v := undef) (a' := ?_) q0b25 rfl rfl (any_of HT_.out (by kernel_rfl)) (fun _ _ _ h => h) (Or.inr ⟨by rfl, rfl⟩) ?_ ?_
    rotate_left
    ·simp only [Act.put, List.setIfInBounds_toArray, List.set_cons_zero, List.set_cons_succ, i64_w, i32_w]
     rfl
    refine pure_ (i := 25) (N := some 40) (v := undef) (a' := ?_) q0b26 rfl rfl (any_of HT_.out (by kernel_rfl)) (fun _ _ _ h => h) (Or.inr ⟨by rfl, rfl⟩) ?_ ?_
    rotate_left
    ·simp only [Act.put, List.setIfInBounds_toArray, List.set_cons_zero, List.set_cons_succ, i64_w, i32_w]
     rfl
    refine pure_ (i := 26) (N := some 41) (v := undef) (a' := ?_) q0b27 rfl rfl (any_of HT_.out (by kernel_rfl)) (fun _ _ _ h => h) (Or.inr ⟨by rfl, rfl⟩) ?_ ?_
    rotate_left
    ·simp only [Act.put, List.setIfInBounds_toArray, List.set_cons_zero, List.set_cons_succ, i64_w, i32_w]
     rfl
    refine pure_ (i := 27) (N := some 42) (v := ?_) (a' := ?_) q0b28 rfl rfl (any_of HT_.out (by kernel_rfl)) (fun _ _ _ h => h) (Or.inl ⟨by rfl, ?_⟩) ?_ ?_
    rotate_left
    ·intro w'
     go_simp
     with_reducible rfl
    rotate_left
    ·simp only [Act.put, List.setIfInBounds_toArray, List.set_cons_zero, List.set_cons_succ, i64_w, i32_w]
     rfl
    refine pure_ (i := 28) (N := some 43) (v := ?_) (a' := ?_) q0b29 rfl rfl (any_of HT_.out (by kernel_rfl)) (fun _ _ _ h => h) (Or.inl ⟨by rfl, ?_⟩) ?_ ?_
    rotate_left
    ·intro w'
     go_simp
     with_reducible rfl
    rotate_left
    ·simp only [Act.put, List.setIfInBounds_toArray, List.set_cons_zero, List.set_cons_succ, i64_w, i32_w]
     rfl
    refine pure_ (i := 29) (N := some 44) (v := undef) (a' := ?_) q0b30 rfl rfl (any_of HT_.out (by kernel_rfl)) (fun _ _ _ h => h) (Or.inr ⟨by rfl, rfl⟩) ?_ ?_
    rotate_left
    ·simp only [Act.put, List.setIfInBounds_toArray, List.set_cons_zero, List.set_cons_succ, i64_w, i32_w]
     rfl
    refine pure_ (i := 30) (N := some 45) (v := undef) (a' := ?_) q0b31 rfl rfl (any_of HT_.out (by kernel_rfl)) (fun _ _ _ h => h) (Or.inr ⟨by rfl, rfl⟩) ?_ ?_
    rotate_left
    ·simp only [Act.put, List.setIfInBounds_toArray, List.set_cons_zero, List.set_cons_succ, i64_w, i32_w]
     rfl
    refine pure_ (i := 31) (N := some 46) (v := undef) (a' := ?_) q0b32 rfl rfl (any_of HT_.out (by kernel_rfl)) (fun _ _ _ h => h) (Or.inr ⟨by rfl, rfl⟩) ?_ ?_
    rotate_left
    ·simp only [Act.put, List.setIfInBounds_toArray, List.set_cons_zero, List.set_cons_succ, i64_w, i32_w]
     rfl
    refine pure_ (i := 32) (N := some 47) (v := undef) (a' := ?_) q0b33 rfl rfl (any_of HT_.out (by kernel_rfl)) (fun _ _ _ h => h) (Or.inr ⟨by rfl, rfl⟩) ?_ ?_
    rotate_left
    ·simp only [Act.put, List.setIfInBounds_toArray, List.set_cons_zero, List.set_cons_succ, i64_w, i32_w]
     rfl
    refine pure_ (i := 33) (N := some 48) (v := undef) (a' := ?_) q0b34 rfl rfl (any_of HT_.out (by kernel_rfl)) (fun _ _ _ h => h) (Or.inr ⟨by rfl, rfl⟩) ?_ ?_
    rotate_left
    ·simp only [Act.put, List.setIfInBounds_toArray, List.set_cons_zero, List.set_cons_succ, i64_w, i32_w]
     rfl
    refine pure_ (i := 34) (N := some 49) (v := undef) (a' := ?_) q0b35 rfl rfl (any_of HT_.out (by kernel_rfl)) (fun _ _ _ h => h) (Or.inr ⟨by rfl, rfl⟩) ?_ ?_
    rotate_left
    ·simp only [Act.put, List.setIfInBounds_toArray, List.set_cons_zero, List.set_cons_succ, i64_w, i32_w]
     rfl
    refine pure_ (i := 35) (N := some 50) (v := undef) (a' := ?_) q0b36 rfl rfl (any_of HT_.out (by kernel_rfl)) (fun _ _ _ h => h) (Or.inr ⟨by rfl, rfl⟩) ?_ ?_
    rotate_left
    ·simp only [Act.put, List.setIfInBounds_toArray, List.set_cons_zero, List.set_cons_succ, i64_w, i32_w]
     rfl
    refine pure_ (i := 36) (N := some 51) (v := undef) (a' := ?_) q0b37 rfl rfl (any_of HT_.out (by kernel_rfl)) (fun _ _ _ h => h) (Or.inr ⟨by rfl, rfl⟩) ?_ ?_
    rotate_left
    ·simp only [Act.put, List.setIfInBounds_toArray, List.set_cons_zero, List.set_cons_succ, i64_w, i32_w]
     rfl
    refine pure_ (i := 37) (N := some 52) (v := undef) (a' := ?_) q0b38 rfl rfl (any_of HT_.out (by kernel_rfl)) (fun _ _ _ h => h) (Or.inr ⟨by rfl, rfl⟩) ?_ ?_
    rotate_left
    ·simp only [Act.put, List.setIfInBounds_toArray, List.set_cons_zero, List.set_cons_succ, i64_w, i32_w]
     rfl
    refine pure_ (i := 38) (N := some 53) (v := undef) (a' := ?_) q0b39 rfl rfl (any_of HT_.out (by kernel_rfl)) (fun _ _ _ h => h) (Or.inr ⟨by rfl, rfl⟩) ?_ ?_
    rotate_left
    ·simp only [Act.put, List.setIfInBounds_toArray, List.set_cons_zero, List.set_cons_succ, i64_w, i32_w]
     rfl
    refine pure_ (i := 39) (N := some 54) (v := undef) (a' := ?_) q0b40 rfl rfl (any_of HT_.out (by kernel_rfl)) (fun _ _ _ h => h) (Or.inr ⟨by rfl, rfl⟩) ?_ ?_
    rotate_left
    ·simp only [Act.put, List.setIfInBounds_toArray, List.set_cons_zero, List.set_cons_succ, i64_w, i32_w]
     rfl
    refine pure_ (i := 40) (N := some 55) (v := undef) (a' := ?_) q0b41 rfl rfl (any_of HT_.out (by kernel_rfl)) (fun _ _ _ h => h) (Or.inr ⟨by rfl, rfl⟩) ?_ ?_
    rotate_left
    ·simp only [Act.put, List.setIfInBounds_toArray, List.set_cons_zero, List.set_cons_succ, i64_w, i32_w]
     rfl
    refine pure_ (i := 41) (N := some 56) (v := undef) (a' := ?_) q0b42 rfl rfl (any_of HT_.out (by kernel_rfl)) (fun _ _ _ h => h) (Or.inr ⟨by rfl, rfl⟩) ?_ ?_
    rotate_left
    ·simp only [Act.put, List.setIfInBounds_toArray, List.set_cons_zero, List.set_cons_succ, i64_w, i32_w]
     rfl
    refine pure_ (i := 42) (N := some 57) (v := undef) (a' := ?_) q0b43 rfl rfl (any_of HT_.out (by kernel_rfl)) (fun _ _ _ h => h) (Or.inr ⟨by rfl, rfl⟩) ?_ ?_
    rotate_left
    ·simp only [Act.put, List.setIfInBounds_toArray, List.set_cons_zero, List.set_cons_succ, i64_w, i32_w]
     rfl
    refine pure_ (i := 43) (N := some 58) (v := ?_) (a' := ?_) q0b44 rfl rfl (any_of HT_.out (by kernel_rfl)) (fun _ _ _ h => h) (Or.inl ⟨by rfl, ?_⟩) ?_ ?_
    rotate_left
    ·intro w'
     go_simp
     with_reducible rfl
    rotate_left
    ·simp only [Act.put, List.setIfInBounds_toArray, List.set_cons_zero, List.set_cons_succ, i64_w, i32_w]
     rfl
    refine done_ (done_of HT_.out (by kernel_rfl)) ?_
    have HD := Aside0.mk (pw_below_drewN HB5.out nd)
    try go_wp2
    go_ret
    refine ⟨?_, below_then n3.out n3.out.size HD.out⟩
    rw [hall.out, HF.out]
    simp
   ·refine start_ (n := 44) (S := fun w' => w'.cell? ⟨g, 0, none⟩ = some (.string nm) ∧ w'.cell? ⟨g, 1, none⟩ = some (.int .i64 ct) ∧ w'.cell? ⟨g, 2, none⟩ = some (.int .i64 tm) ∧ w'.cell? ⟨w.heap.size, 0, none⟩ = some (.int .i64 clock) ∧ w'.cell? ⟨w.heap.size, 1, none⟩ = some (.slice (some ad) fs.length c) ∧ w'.cell? (ad.add ((i - 1) * 3)) = some (.string pn)) (ds := []) q0b0 (by kernel_rfl) rfl rfl (KC.out _ (below_drew1 (Below.refl _ _))) (fun hHeld => ?_)
    refine with_tabW disk_May.tab5 disk_May.bits5 (fun HT_ HW_ => ?_)
    refine pure_ (i := 0) (N := some 15) (v := ?_) (a' := ?_) q0b1 rfl rfl (any_of HT_.out (by kernel_rfl)) (fun _ _ _ h => h) (Or.inl ⟨by rfl, ?_⟩) ?_ ?_
    rotate_left
    ·intro w'
     go_simp
     with_reducible rfl
    rotate_left
    ·simp only [Act.put, List.setIfInBounds_toArray, List.set_cons_zero, List.set_cons_succ, i64_w, i32_w]
     rfl
    refine take_ (i := 1) (N := some 16) (v := ?_) (a' := ?_) q0b2 rfl rfl (take_ofW HT_.out HW_.out (by kernel_rfl)) (fun _ _ _ h => h) (Or.inl ⟨by rfl, ?_⟩) hHeld ?_ ?_
    rotate_left
    ·rintro w' ⟨s0, s1, s2, s3, s4, s5⟩
     go_simp
     with_reducible rfl
    rotate_left
    ·simp only [Act.put, List.setIfInBounds_toArray, List.set_cons_zero, List.set_cons_succ, i64_w, i32_w]
     rfl
    refine one_ (i := 2) (N := some 17) q0b3 rfl rfl (one_of HT_.out (by kernel_rfl)) (by decide) (fun K hK => ?_)
    refine goes_ Tryd.func60 (by kernel_rfl) rfl #[.string nm] (by rfl) rfl rfl (by (try simp only [List.map_toArray, List.map_cons, List.map_nil]); first | done | rfl) ?_
    with_reducible refine (HP.out _).mono ?_
    rintro e w5 ⟨rfl, hb5⟩
    have HB5 := Aside0.mk (below_step (below_drew1 (Below.refl _ _)) hb5)
    clear hb5
    refine ⟨_, rfl, ?_⟩
    refine hK.out _ _ (KC.out _ HB5.out) (fun hHeld => ?_)
    clear hK K
    refine norm_ (a' := ?_) ?_ ?_
    rotate_left
    ·show Act.put _ (some 17) _ = _
     simp only [Act.put, List.setIfInBounds_toArray, List.set_cons_zero, List.set_cons_succ, i64_w, i32_w]
     rfl
    refine pure_ (i := 3) (N := some 18) (v := ?_) (a' := ?_) q0b4 rfl rfl (any_of HT_.out (by kernel_rfl)) (fun _ _ _ h => h) (Or.inl ⟨by rfl, ?_⟩) ?_ ?_
    rotate_left
    ·intro w'
     go_simp
     with_reducible rfl
    rotate_left
    ·simp only [Act.put, List.setIfInBounds_toArray, List.set_cons_zero, List.set_cons_succ, i64_w, i32_w]
     rfl
    refine pure_ (i := 4) (N := some 19) (v := ?_) (a' := ?_) q0b5 rfl rfl (any_of HT_.out (by kernel_rfl)) (fun _ _ _ h => h) (Or.inl ⟨by rfl, ?_⟩) ?_ ?_
    rotate_left
    ·intro w'
     go_simp
     with_reducible rfl
    rotate_left
    ·simp only [Act.put, List.setIfInBounds_toArray, List.set_cons_zero, List.set_cons_succ, i64_w, i32_w]
     rfl
    refine pure_ (i := 5) (N := some 20) (v := ?_) (a' := ?_) q0b6 rfl rfl (any_of HT_.out (by kernel_rfl)) (fun _ _ _ h => h) (Or.inl ⟨by rfl, ?_⟩) ?_ ?_
    rotate_left
    ·intro w'
     go_simp
     with_reducible rfl
    rotate_left
    ·simp only [Act.put, List.setIfInBounds_toArray, List.set_cons_zero, List.set_cons_succ, i64_w, i32_w]
     rfl
    refine take_ (i := 6) (N := some 21) (v := ?_) (a' := ?_) q0b7 rfl rfl (take_ofW HT_.out HW_.out (by kernel_rfl)) (fun _ _ _ h => h) (Or.inl ⟨by rfl, ?_⟩) hHeld ?_ ?_
    rotate_left
    ·rintro w' ⟨s0, s1, s2, s3, s4, s5⟩
     go_simp
     with_reducible rfl
    rotate_left
    ·simp only [Act.put, List.setIfInBounds_toArray, List.set_cons_zero, List.set_cons_succ, i64_w, i32_w]
     rfl
    refine one_ (i := 7) (N := some 22) q0b8 rfl rfl (one_of HT_.out (by kernel_rfl)) (by decide) (fun K hK => ?_)
    refine goes_ Tryd.func61 (by kernel_rfl) rfl #[.int .i64 ct] (by rfl) rfl rfl (by (try simp only [List.map_toArray, List.map_cons, List.map_nil]); first | done | rfl) ?_
    with_reducible refine (HT.out _).mono ?_
    rintro e w6 ⟨rfl, ⟨nd, rfl⟩⟩
    refine ⟨_, rfl, ?_⟩
    refine hK.out _ _ (KC.out _ (pw_below_drewN HB5.out nd)) (fun hHeld => ?_)
    clear hK K
    refine norm_ (a' := ?_) ?_ ?_
    rotate_left
    ·show Act.put _ (some 22) _ = _
     simp only [Act.put, List.setIfInBounds_toArray, List.set_cons_zero, List.set_cons_succ, i64_w, i32_w]
     rfl
    refine pure_ (i := 8) (N := some 23) (v := ?_) (a' := ?_) q0b9 rfl rfl (any_of HT_.out (by kernel_rfl)) (fun _ _ _ h => h) (Or.inl ⟨by rfl, ?_⟩) ?_ ?_
    rotate_left
    ·intro w'
     go_simp
     with_reducible rfl
    rotate_left
    ·simp only [Act.put, List.setIfInBounds_toArray, List.set_cons_zero, List.set_cons_succ, i64_w, i32_w]
     rfl
    refine pure_ (i := 9) (N := some 24) (v := ?_) (a' := ?_) q0b10 rfl rfl (any_of HT_.out (by kernel_rfl)) (fun _ _ _ h => h) (Or.inl ⟨by rfl, ?_⟩) ?_ ?_
    rotate_left
    ·intro w'
     go_simp
     with_reducible rfl
    rotate_left
    ·simp only [Act.put, List.setIfInBounds_toArray, List.set_cons_zero, List.set_cons_succ, i64_w, i32_w]
     rfl
    refine pure_ (i := 10) (N := some 25) (v := ?_) (a' := ?_) q0b11 rfl rfl (any_of HT_.out (by kernel_rfl)) (fun _ _ _ h => h) (Or.inl ⟨by rfl, ?_⟩) ?_ ?_
    rotate_left
    ·intro w'
     go_simp
     with_reducible rfl
    rotate_left
    ·simp only [Act.put, List.setIfInBounds_toArray, List.set_cons_zero, List.set_cons_succ, i64_w, i32_w]
     rfl
    refine pure_ (i := 11) (N := some 26) (v := ?_) (a' := ?_) q0b12 rfl rfl (any_of HT_.out (by kernel_rfl)) (fun _ _ _ h => h) (Or.inl ⟨by rfl, ?_⟩) ?_ ?_
    rotate_left
    ·intro w'
     go_simp
     with_reducible rfl
    rotate_left
    ·simp only [Act.put, List.setIfInBounds_toArray, List.set_cons_zero, List.set_cons_succ, i64_w, i32_w]
     rfl
    refine take_ (i := 12) (N := some 27) (v := ?_) (a' := ?_) q0b13 rfl rfl (take_ofW HT_.out HW_.out (by kernel_rfl)) (fun _ _ _ h => h) (Or.inl ⟨by rfl, ?_⟩) hHeld ?_ ?_
    rotate_left
    ·rintro w' ⟨s0, s1, s2, s3, s4, s5⟩
     go_simp
     with_reducible rfl
    rotate_left
    ·simp only [Act.put, List.setIfInBounds_toArray, List.set_cons_zero, List.set_cons_succ, i64_w, i32_w]
     rfl
    refine pure_ (i := 13) (N := some 28) (v := ?_) (a' := ?_) q0b14 rfl rfl (any_of HT_.out (by kernel_rfl)) (fun _ _ _ h => h) (Or.inl ⟨by rfl, ?_⟩) ?_ ?_
    rotate_left
    ·intro w'
     go_simp
     with_reducible rfl
    rotate_left
    ·simp only [Act.put, List.setIfInBounds_toArray, List.set_cons_zero, List.set_cons_succ, i64_w, i32_w]
     rfl
    refine pure_ (i := 14) (N := some 29) (v := ?_) (a' := ?_) q0b15 rfl rfl (any_of HT_.out (by kernel_rfl)) (fun _ _ _ h => h) (Or.inl ⟨by rfl, ?_⟩) ?_ ?_
    rotate_left
    ·intro w'
     go_simp
     with_reducible rfl
    rotate_left
    ·simp only [Act.put, List.setIfInBounds_toArray, List.set_cons_zero, List.set_cons_succ, i64_w, i32_w]
     rfl
    refine pure_ (i := 15) (N := some 30) (v := ?_) (a' := ?_) q0b16 rfl rfl (any_of HT_.out (by kernel_rfl)) (fun _ _ _ h => h) (Or.inl ⟨by rfl, ?_⟩) ?_ ?_
    rotate_left
    ·intro w'
     go_simp
     with_reducible rfl
    rotate_left
    ·simp only [Act.put, List.setIfInBounds_toArray, List.set_cons_zero, List.set_cons_succ, i64_w, i32_w]
     rfl
    refine pure_ (i := 16) (N := some 31) (v := ?_) (a' := ?_) q0b17 rfl rfl (any_of HT_.out (by kernel_rfl)) (fun _ _ _ h => h) (Or.inl ⟨by rfl, ?_⟩) ?_ ?_
    rotate_left
    ·intro w'
     go_simp
     with_reducible rfl
    rotate_left
    ·simp only [Act.put, List.setIfInBounds_toArray, List.set_cons_zero, List.set_cons_succ, i64_w, i32_w]
     rfl
    refine pure_ (i := 18) (N := some 33) (v := ?_) (a' := ?_) q0b45 rfl rfl (any_of HT_.out (by kernel_rfl)) (fun _ _ _ h => h) (Or.inl ⟨by rfl, ?_⟩) ?_ ?_
    rotate_left
    ·intro w'
     go_simp
     with_reducible rfl
    rotate_left
    ·simp only [Act.put, List.setIfInBounds_toArray, List.set_cons_zero, List.set_cons_succ, i64_w, i32_w]
     rfl
    refine take_ (i := 17) (N := some 32) (v := ?_) (a' := ?_) q0b19 rfl rfl (take_ofW HT_.out HW_.out (by kernel_rfl)) (fun _ _ _ h => h) (Or.inl ⟨by rfl, ?_⟩) hHeld ?_ ?_
    rotate_left
    ·rintro w' ⟨s0, s1, s2, s3, s4, s5⟩
     go_simp
     with_reducible rfl
    rotate_left
    ·simp only [Act.put, List.setIfInBounds_toArray, List.set_cons_zero, List.set_cons_succ, i64_w, i32_w]
     rfl
    refine take_ (i := 19) (N := some 34) (v := ?_) (a' := ?_) q0b20 rfl rfl (take_ofW HT_.out HW_.out (by kernel_rfl)) (fun _ _ _ h => h) (Or.inl ⟨by rfl, ?_⟩) hHeld ?_ ?_
    rotate_left
    ·rintro w' ⟨s0, s1, s2, s3, s4, s5⟩
     go_simp
     with_reducible rfl
    rotate_left
    ·simp only [Act.put, List.setIfInBounds_toArray, List.set_cons_zero, List.set_cons_succ, i64_w, i32_w]
     rfl
    refine pure_ (i := 20) (N := some 35) (v := ?_) (a' := ?_) q0b21 rfl rfl (any_of HT_.out (by kernel_rfl)) (fun _ _ _ h => h) (Or.inl ⟨by rfl, ?_⟩) ?_ ?_
    rotate_left
    ·intro w'
     go_simp
     with_reducible rfl
    rotate_left
    ·simp only [Act.put, List.setIfInBounds_toArray, List.set_cons_zero, List.set_cons_succ, i64_w, i32_w]
     rfl
    refine pure_ (i := 21) (N := some 36) (v := ?_) (a' := ?_) q0b22 rfl rfl (any_of HT_.out (by kernel_rfl)) (fun _ _ _ h => h) (Or.inl ⟨by rfl, ?_⟩) ?_ ?_
    rotate_left
    ·intro w'
     go_simp
     with_reducible rfl
    rotate_left
    ·simp only [Act.put, List.setIfInBounds_toArray, List.set_cons_zero, List.set_cons_succ, i64_w, i32_w]
     rfl
    refine pure_ (i := 22) (N := some 37) (v := ?_) (a' := ?_) q0b23 rfl rfl (any_of HT_.out (by kernel_rfl)) (fun _ _ _ h => h) (Or.inl ⟨by rfl, ?_⟩) ?_ ?_
    rotate_left
    ·intro w'
     go_simp
     with_reducible rfl
    rotate_left
    ·simp only [Act.put, List.setIfInBounds_toArray, List.set_cons_zero, List.set_cons_succ, i64_w, i32_w]
     rfl
    refine pure_ (i := 23) (N := some 38) (v := undef) (a' := ?_) q0b24 rfl rfl (any_of HT_.out (by kernel_rfl)) (fun _ _ _ h => h) (Or.inr ⟨by rfl, rfl⟩) ?_ ?_
    rotate_left
    ·simp only [Act.put, List.setIfInBounds_toArray, List.set_cons_zero, List.set_cons_succ, i64_w, i32_w]
     rfl
    refine pure_ (i := 24) (N := some 39) (v := undef) (a' := ?_) q0b25 rfl rfl (any_of HT_.out (by kernel_rfl)) (fun _ _ _ h => h) (Or.inr ⟨by rfl, rfl⟩) ?_ ?_
    rotate_left
    ·simp only [Act.put, List.setIfInBounds_toArray, List.set_cons_zero, List.set_cons_succ, i64_w, i32_w]
     rfl
    refine pure_ (i := 25) (N := some 40) (v := undef) (a' := ?_) q0b26 rfl rfl (any_of HT_.out (by kernel_rfl)) (fun _ _ _ h => h) (Or.inr ⟨by rfl, rfl⟩) ?_ ?_
    rotate_left
    ·simp only [Act.put, List.setIfInBounds_toArray, List.set_cons_zero, List.set_cons_succ, i64_w, i32_w]
     rfl
    refine pure_ (i := 26) (N := some 41) (v := undef) (a' := ?_) q0b27 rfl rfl (any_of HT_.out (by kernel_rfl)) (fun _ _ _ h => h) (Or.inr ⟨by rfl, rfl⟩) ?_ ?_
    rotate_left
    ·simp only [Act.put, List.setIfInBounds_toArray, List.set_cons_zero, List.set_cons_succ, i64_w, i32_w]
     rfl
    refine pure_ (i := 27) (N := some 42) (v := ?_) (a' := ?_) q0b28 rfl rfl (any_of HT_.out (by kernel_rfl)) (fun _ _ _ h => h) (Or.inl ⟨by rfl, ?_⟩) ?_ ?_
    rotate_left
    ·intro w'
     go_simp
     with_reducible rfl
    rotate_left
    ·simp only [Act.put, List.setIfInBounds_toArray, List.set_cons_zero, List.set_cons_succ, i64_w, i32_w]
     rfl
    refine pure_ (i := 28) (N := some 43) (v := ?_) (a' := ?_) q0b29 rfl rfl (any_of HT_.out (by kernel_rfl)) (fun _ _ _ h => h) (Or.inl ⟨by rfl, ?_⟩) ?_ ?_
    rotate_left
    ·intro w'
     go_simp
     with_reducible rfl
    rotate_left
    ·simp only [Act.put, List.setIfInBounds_toArray, List.set_cons_zero, List.set_cons_succ, i64_w, i32_w]
     rfl
    refine pure_ (i := 29) (N := some 44) (v := undef) (a' := ?_) q0b30 rfl rfl (any_of HT_.out (by kernel_rfl)) (fun _ _ _ h => h) (Or.inr ⟨by rfl, rfl⟩) ?_ ?_
    rotate_left
    ·simp only [Act.put, List.setIfInBounds_toArray, List.set_cons_zero, List.set_cons_succ, i64_w, i32_w]
     rfl
    refine pure_ (i := 30) (N := some 45) (v := undef) (a' := ?_) q0b31 rfl rfl (any_of HT_.out (by kernel_rfl)) (fun _ _ _ h => h) (Or.inr ⟨by rfl, rfl⟩) ?_ ?_
    rotate_left
    ·simp only [Act.put, List.setIfInBounds_toArray, List.set_cons_zero, List.set_cons_succ, i64_w, i32_w]
     rfl
    refine pure_ (i := 31) (N := some 46) (v := undef) (a' := ?_) q0b32 rfl rfl (any_of HT_.out (by kernel_rfl)) (fun _ _ _ h => h) (Or.inr ⟨by rfl, rfl⟩) ?_ ?_
    rotate_left
    ·simp only [Act.put, List.setIfInBounds_toArray, List.set_cons_zero, List.set_cons_succ, i64_w, i32_w]
     rfl
    refine pure_ (i := 32) (N := some 47) (v := undef) (a' := ?_) q0b33 rfl rfl (any_of HT_.out (by kernel_rfl)) (fun _ _ _ h => h) (Or.inr ⟨by rfl, rfl⟩) ?_ ?_
    rotate_left
    ·simp only [Act.put, List.setIfInBounds_toArray, List.set_cons_zero, List.set_cons_succ, i64_w, i32_w]
     rfl
    refine pure_ (i := 33) (N := some 48) (v := undef) (a' := ?_) q0b34 rfl rfl (any_of HT_.out (by kernel_rfl)) (fun _ _ _ h => h) (Or.inr ⟨by rfl, rfl⟩) ?_ ?_
    rotate_left
    ·simp only [Act.put, List.setIfInBounds_toArray, List.set_cons_zero, List.set_cons_succ, i64_w, i32_w]
     rfl
    refine pure_ (i := 34) (N := some 49) (v := undef) (a' := ?_) q0b35 rfl rfl (any_of HT_.out (by kernel_rfl)) (fun _ _ _ h => h) (Or.inr ⟨by rfl, rfl⟩) ?_ ?_
    rotate_left
    ·simp only [Act.put, List.setIfInBounds_toArray, List.set_cons_zero, List.set_cons_succ, i64_w, i32_w]
     rfl
    refine pure_ (i := 35) (N := some 50) (v := undef) (a' := ?_) q0b36 rfl rfl (any_of HT_.out (by kernel_rfl)) (fun _ _ _ h => h) (Or.inr ⟨by rfl, rfl⟩) ?_ ?_
    rotate_left
    ·simp only [Act.put, List.setIfInBounds_toArray, List.set_cons_zero, List.set_cons_succ, i64_w, i32_w]
     rfl
    refine pure_ (i := 36) (N := some 51) (v := undef) (a' := ?_) q0b37 rfl rfl (any_of HT_.out (by kernel_rfl)) (fun _ _ _ h => h) (Or.inr ⟨by rfl, rfl⟩) ?_ ?_
    rotate_left
    ·simp only [Act.put, List.setIfInBounds_toArray, List.set_cons_zero, List.set_cons_succ, i64_w, i32_w]
     rfl
    refine pure_ (i := 37) (N := some 52) (v := undef) (a' := ?_) q0b38 rfl rfl (any_of HT_.out (by kernel_rfl)) (fun _ _ _ h => h) (Or.inr ⟨by rfl, rfl⟩) ?_ ?_
    rotate_left
    ·simp only [Act.put, List.setIfInBounds_toArray, List.set_cons_zero, List.set_cons_succ, i64_w, i32_w]
     rfl
    refine pure_ (i := 38) (N := some 53) (v := undef) (a' := ?_) q0b39 rfl rfl (any_of HT_.out (by kernel_rfl)) (fun _ _ _ h => h) (Or.inr ⟨by rfl, rfl⟩) ?_ ?_
    rotate_left
    ·simp only [Act.put, List.setIfInBounds_toArray, List.set_cons_zero, List.set_cons_succ, i64_w, i32_w]
     rfl
    refine pure_ (i := 39) (N := some 54) (v := undef) (a' := ?_) q0b40 rfl rfl (any_of HT_.out (by kernel_rfl)) (fun _ _ _ h => h) (Or.inr ⟨by rfl, rfl⟩) ?_ ?_
    rotate_left
    ·simp only [Act.put, List.setIfInBounds_toArray, List.set_cons_zero, List.set_cons_succ, i64_w, i32_w]
     rfl
    refine pure_ (i := 40) (N := some 55) (v := undef) (a' := ?_) q0b41 rfl rfl (any_of HT_.out (by kernel_rfl)) (fun _ _ _ h => h) (Or.inr ⟨by rfl, rfl⟩) ?_ ?_
    rotate_left
    ·simp only [Act.put, List.setIfInBounds_toArray, List.set_cons_zero, List.set_cons_succ, i64_w, i32_w]
     rfl
    refine pure_ (i := 41) (N := some 56) (v := undef) (a' := ?_) q0b42 rfl rfl (any_of HT_.out (by kernel_rfl)) (fun _ _ _ h => h) (Or.inr ⟨by rfl, rfl⟩) ?_ ?_
    rotate_left
    ·simp only [Act.put, List.setIfInBounds_toArray, List.set_cons_zero, List.set_cons_succ, i64_w, i32_w]
     rfl
    refine pure_ (i := 42) (N := some 57) (v := undef) (a' := ?_) q0b43 rfl rfl (any_of HT_.out (by kernel_rfl)) (fun _ _ _ h => h) (Or.inr ⟨by rfl, rfl⟩) ?_ ?_
    rotate_left
    ·simp only [Act.put, List.setIfInBounds_toArray, List.set_cons_zero, List.set_cons_succ, i64_w, i32_w]
     rfl
    refine pure_ (i := 43) (N := some 58) (v := ?_) (a' := ?_) q0b44 rfl rfl (any_of HT_.out (by kernel_rfl)) (fun _ _ _ h => h) (Or.inl ⟨by rfl, ?_⟩) ?_ ?_
    rotate_left
    ·intro w'
     go_simp
     with_reducible rfl
    rotate_left
    ·simp only [Act.put, List.setIfInBounds_toArray, List.set_cons_zero, List.set_cons_succ, i64_w, i32_w]
     rfl
    refine done_ (done_of HT_.out (by kernel_rfl)) ?_
    have HD := Aside0.mk (pw_below_drewN HB5.out nd)
    try go_wp2
    go_ret
    refine ⟨?_, below_then n3.out n3.out.size HD.out⟩
    rw [hall.out, HF.out]
    simp
   ·have KL := Aside0.mk (show ∀ W, Below W0.heap.size W0 W → (W.cell? ⟨g, 0, none⟩ = some (.string nm) ∧ W.cell? ⟨g, 1, none⟩ = some (.int .i64 ct) ∧ W.cell? ⟨g, 2, none⟩ = some (.int .i64 tm) ∧ W.cell? ⟨w.heap.size, 0, none⟩ = some (.int .i64 clock) ∧ W.cell? ⟨w.heap.size, 1, none⟩ = some (.slice (some ad) fs.length c) ∧ W.cell? (ad.add ((i - 1) * 3)) = some (.string pn) ∧ (Instr.lookup 111 (.map (some (w.heap.size + 1))) (.int .i64 tm) false).run Tryd.prog W = .ok (.bool true) W) from fun W hW => by obtain ⟨s0, s1, s2, s3, s4, s5⟩ := KC.out W hW; exact ⟨s0, s1, s2, s3, s4, s5, HLK.out W (SetI.below n2.out hW) rfl rfl⟩)
    refine start_ (n := 44) (S := fun w' => w'.cell? ⟨g, 0, none⟩ = some (.string nm) ∧ w'.cell? ⟨g, 1, none⟩ = some (.int .i64 ct) ∧ w'.cell? ⟨g, 2, none⟩ = some (.int .i64 tm) ∧ w'.cell? ⟨w.heap.size, 0, none⟩ = some (.int .i64 clock) ∧ w'.cell? ⟨w.heap.size, 1, none⟩ = some (.slice (some ad) fs.length c) ∧ w'.cell? (ad.add ((i - 1) * 3)) = some (.string pn) ∧ (Instr.lookup 111 (.map (some (w.heap.size + 1))) (.int .i64 tm) false).run Tryd.prog w' = .ok (.bool true) w') (ds := []) q0b0 (by kernel_rfl) rfl rfl (KL.out _ (below_drew1 (Below.refl _ _))) (fun hHeld => ?_)
    refine with_tabW disk_May.tab5 disk_May.bits5 (fun HT_ HW_ => ?_)
    refine pure_ (i := 0) (N := some 15) (v := ?_) (a' := ?_) q0b1 rfl rfl (any_of HT_.out (by kernel_rfl)) (fun _ _ _ h => h) (Or.inl ⟨by rfl, ?_⟩) ?_ ?_
    rotate_left
    ·intro w'
     go_simp
     with_reducible rfl
    rotate_left
    ·simp only [Act.put, List.setIfInBounds_toArray, List.set_cons_zero, List.set_cons_succ, i64_w, i32_w]
     rfl
    refine take_ (i := 1) (N := some 16) (v := ?_) (a' := ?_) q0b2 rfl rfl (take_ofW HT_.out HW_.out (by kernel_rfl)) (fun _ _ _ h => h) (Or.inl ⟨by rfl, ?_⟩) hHeld ?_ ?_
    rotate_left
    ·rintro w' ⟨s0, s1, s2, s3, s4, s5, s6⟩
     go_simp
     with_reducible rfl
    rotate_left
    ·simp only [Act.put, List.setIfInBounds_toArray, List.set_cons_zero, List.set_cons_succ, i64_w, i32_w]
     rfl
    refine one_ (i := 2) (N := some 17) q0b3 rfl rfl (one_of HT_.out (by kernel_rfl)) (by decide) (fun K hK => ?_)
    refine goes_ Tryd.func60 (by kernel_rfl) rfl #[.string nm] (by rfl) rfl rfl (by (try simp only [List.map_toArray, List.map_cons, List.map_nil]); first | done | rfl) ?_
    with_reducible refine (HP.out _).mono ?_
    rintro e w5 ⟨rfl, hb5⟩
    have HB5 := Aside0.mk (below_step (below_drew1 (Below.refl _ _)) hb5)
    clear hb5
    refine ⟨_, rfl, ?_⟩
    refine hK.out _ _ (KL.out _ HB5.out) (fun hHeld => ?_)
    clear hK K
    refine norm_ (a' := ?_) ?_ ?_
    rotate_left
    ·show Act.put _ (some 17) _ = _
     simp only [Act.put, List.setIfInBounds_toArray, List.set_cons_zero, List.set_cons_succ, i64_w, i32_w]
     rfl
    refine pure_ (i := 3) (N := some 18) (v := ?_) (a' := ?_) q0b4 rfl rfl (any_of HT_.out (by kernel_rfl)) (fun _ _ _ h => h) (Or.inl ⟨by rfl, ?_⟩) ?_ ?_
    rotate_left
    ·intro w'
     go_simp
     with_reducible rfl
    rotate_left
    ·simp only [Act.put, List.setIfInBounds_toArray, List.set_cons_zero, List.set_cons_succ, i64_w, i32_w]
     rfl
    refine pure_ (i := 4) (N := some 19) (v := ?_) (a' := ?_) q0b5 rfl rfl (any_of HT_.out (by kernel_rfl)) (fun _ _ _ h => h) (Or.inl ⟨by rfl, ?_⟩) ?_ ?_
    rotate_left
    ·intro w'
     go_simp
     with_reducible rfl
    rotate_left
    ·simp only [Act.put, List.setIfInBounds_toArray, List.set_cons_zero, List.set_cons_succ, i64_w, i32_w]
     rfl
    refine pure_ (i := 5) (N := some 20) (v := ?_) (a' := ?_) q0b6 rfl rfl (any_of HT_.out (by kernel_rfl)) (fun _ _ _ h => h) (Or.inl ⟨by rfl, ?_⟩) ?_ ?_
    rotate_left
    ·intro w'
     go_simp
     with_reducible rfl
    rotate_left
    ·simp only [Act.put, List.setIfInBounds_toArray, List.set_cons_zero, List.set_cons_succ, i64_w, i32_w]
     rfl
    refine take_ (i := 6) (N := some 21) (v := ?_) (a' := ?_) q0b7 rfl rfl (take_ofW HT_.out HW_.out (by kernel_rfl)) (fun _ _ _ h => h) (Or.inl ⟨by rfl, ?_⟩) hHeld ?_ ?_
    rotate_left
    ·rintro w' ⟨s0, s1, s2, s3, s4, s5, s6⟩
     go_simp
     with_reducible rfl
    rotate_left
    ·simp only [Act.put, List.setIfInBounds_toArray, List.set_cons_zero, List.set_cons_succ, i64_w, i32_w]
     rfl
    refine one_ (i := 7) (N := some 22) q0b8 rfl rfl (one_of HT_.out (by kernel_rfl)) (by decide) (fun K hK => ?_)
    refine goes_ Tryd.func61 (by kernel_rfl) rfl #[.int .i64 ct] (by rfl) rfl rfl (by (try simp only [List.map_toArray, List.map_cons, List.map_nil]); first | done | rfl) ?_
    with_reducible refine (HT.out _).mono ?_
    rintro e w6 ⟨rfl, ⟨nd, rfl⟩⟩
    refine ⟨_, rfl, ?_⟩
    refine hK.out _ _ (KL.out _ (pw_below_drewN HB5.out nd)) (fun hHeld => ?_)
    clear hK K
    refine norm_ (a' := ?_) ?_ ?_
    rotate_left
    ·show Act.put _ (some 22) _ = _
     simp only [Act.put, List.setIfInBounds_toArray, List.set_cons_zero, List.set_cons_succ, i64_w, i32_w]
     rfl
    refine pure_ (i := 8) (N := some 23) (v := ?_) (a' := ?_) q0b9 rfl rfl (any_of HT_.out (by kernel_rfl)) (fun _ _ _ h => h) (Or.inl ⟨by rfl, ?_⟩) ?_ ?_
    rotate_left
    ·intro w'
     go_simp
     with_reducible rfl
    rotate_left
    ·simp only [Act.put, List.setIfInBounds_toArray, List.set_cons_zero, List.set_cons_succ, i64_w, i32_w]
     rfl
    refine pure_ (i := 9) (N := some 24) (v := ?_) (a' := ?_) q0b10 rfl rfl (any_of HT_.out (by kernel_rfl)) (fun _ _ _ h => h) (Or.inl ⟨by rfl, ?_⟩) ?_ ?_
    rotate_left
    ·intro w'
     go_simp
     with_reducible rfl
    rotate_left
    ·simp only [Act.put, List.setIfInBounds_toArray, List.set_cons_zero, List.set_cons_succ, i64_w, i32_w]
     rfl
    refine pure_ (i := 10) (N := some 25) (v := ?_) (a' := ?_) q0b11 rfl rfl (any_of HT_.out (by kernel_rfl)) (fun _ _ _ h => h) (Or.inl ⟨by rfl, ?_⟩) ?_ ?_
    rotate_left
    ·intro w'
     go_simp
     with_reducible rfl
    rotate_left
    ·simp only [Act.put, List.setIfInBounds_toArray, List.set_cons_zero, List.set_cons_succ, i64_w, i32_w]
     rfl
    refine pure_ (i := 11) (N := some 26) (v := ?_) (a' := ?_) q0b12 rfl rfl (any_of HT_.out (by kernel_rfl)) (fun _ _ _ h => h) (Or.inl ⟨by rfl, ?_⟩) ?_ ?_
    rotate_left
    ·intro w'
     go_simp
     with_reducible rfl
    rotate_left
    ·simp only [Act.put, List.setIfInBounds_toArray, List.set_cons_zero, List.set_cons_succ, i64_w, i32_w]
     rfl
    refine take_ (i := 12) (N := some 27) (v := ?_) (a' := ?_) q0b13 rfl rfl (take_ofW HT_.out HW_.out (by kernel_rfl)) (fun _ _ _ h => h) (Or.inl ⟨by rfl, ?_⟩) hHeld ?_ ?_
    rotate_left
    ·rintro w' ⟨s0, s1, s2, s3, s4, s5, s6⟩
     go_simp
     with_reducible rfl
    rotate_left
    ·simp only [Act.put, List.setIfInBounds_toArray, List.set_cons_zero, List.set_cons_succ, i64_w, i32_w]
     rfl
    refine pure_ (i := 13) (N := some 28) (v := ?_) (a' := ?_) q0b14 rfl rfl (any_of HT_.out (by kernel_rfl)) (fun _ _ _ h => h) (Or.inl ⟨by rfl, ?_⟩) ?_ ?_
    rotate_left
    ·intro w'
     go_simp
     with_reducible rfl
    rotate_left
    ·simp only [Act.put, List.setIfInBounds_toArray, List.set_cons_zero, List.set_cons_succ, i64_w, i32_w]
     rfl
    refine pure_ (i := 14) (N := some 29) (v := ?_) (a' := ?_) q0b15 rfl rfl (any_of HT_.out (by kernel_rfl)) (fun _ _ _ h => h) (Or.inl ⟨by rfl, ?_⟩) ?_ ?_
    rotate_left
    ·intro w'
     go_simp
     with_reducible rfl
    rotate_left
    ·simp only [Act.put, List.setIfInBounds_toArray, List.set_cons_zero, List.set_cons_succ, i64_w, i32_w]
     rfl
    refine pure_ (i := 15) (N := some 30) (v := ?_) (a' := ?_) q0b16 rfl rfl (any_of HT_.out (by kernel_rfl)) (fun _ _ _ h => h) (Or.inl ⟨by rfl, ?_⟩) ?_ ?_
    rotate_left
    ·intro w'
     go_simp
     with_reducible rfl
    rotate_left
    ·simp only [Act.put, List.setIfInBounds_toArray, List.set_cons_zero, List.set_cons_succ, i64_w, i32_w]
     rfl
    refine pure_ (i := 16) (N := some 31) (v := ?_) (a' := ?_) q0b17 rfl rfl (any_of HT_.out (by kernel_rfl)) (fun _ _ _ h => h) (Or.inl ⟨by rfl, ?_⟩) ?_ ?_
    rotate_left
    ·intro w'
     go_simp
     with_reducible rfl
    rotate_left
    ·simp only [Act.put, List.setIfInBounds_toArray, List.set_cons_zero, List.set_cons_succ, i64_w, i32_w]
     rfl
    refine pure_ (i := 18) (N := some 33) (v := ?_) (a' := ?_) q0b45 rfl rfl (any_of HT_.out (by kernel_rfl)) (fun _ _ _ h => h) (Or.inl ⟨by rfl, ?_⟩) ?_ ?_
    rotate_left
    ·intro w'
     go_simp
     with_reducible rfl
    rotate_left
    ·simp only [Act.put, List.setIfInBounds_toArray, List.set_cons_zero, List.set_cons_succ, i64_w, i32_w]
     rfl
    refine take_ (i := 17) (N := some 32) (v := ?_) (a' := ?_) q0b19 rfl rfl (take_ofW HT_.out HW_.out (by kernel_rfl)) (fun _ _ _ h => h) (Or.inl ⟨by rfl, ?_⟩) hHeld ?_ ?_
    rotate_left
    ·rintro w' ⟨s0, s1, s2, s3, s4, s5, s6⟩
     go_simp
     with_reducible rfl
    rotate_left
    ·simp only [Act.put, List.setIfInBounds_toArray, List.set_cons_zero, List.set_cons_succ, i64_w, i32_w]
     rfl
    refine take_ (i := 19) (N := some 34) (v := ?_) (a' := ?_) q0b20 rfl rfl (take_ofW HT_.out HW_.out (by kernel_rfl)) (fun _ _ _ h => h) (Or.inl ⟨by rfl, ?_⟩) hHeld ?_ ?_
    rotate_left
    ·rintro w' ⟨s0, s1, s2, s3, s4, s5, s6⟩
     go_simp
     with_reducible rfl
    rotate_left
    ·simp only [Act.put, List.setIfInBounds_toArray, List.set_cons_zero, List.set_cons_succ, i64_w, i32_w]
     rfl
    refine pure_ (i := 20) (N := some 35) (v := ?_) (a' := ?_) q0b21 rfl rfl (any_of HT_.out (by kernel_rfl)) (fun _ _ _ h => h) (Or.inl ⟨by rfl, ?_⟩) ?_ ?_
    rotate_left
    ·intro w'
     go_simp
     with_reducible rfl
    rotate_left
    ·simp only [Act.put, List.setIfInBounds_toArray, List.set_cons_zero, List.set_cons_succ, i64_w, i32_w]
     rfl
    refine pure_ (i := 21) (N := some 36) (v := ?_) (a' := ?_) q0b22 rfl rfl (any_of HT_.out (by kernel_rfl)) (fun _ _ _ h => h) (Or.inl ⟨by rfl, ?_⟩) ?_ ?_
    rotate_left
    ·intro w'
     go_simp
     with_reducible rfl
    rotate_left
    ·simp only [Act.put, List.setIfInBounds_toArray, List.set_cons_zero, List.set_cons_succ, i64_w, i32_w]
     rfl
    refine pure_ (i := 22) (N := some 37) (v := ?_) (a' := ?_) q0b23 rfl rfl (any_of HT_.out (by kernel_rfl)) (fun _ _ _ h => h) (Or.inl ⟨by rfl, ?_⟩) ?_ ?_
    rotate_left
    ·intro w'
     go_simp
     with_reducible rfl
    rotate_left
    ·simp only [Act.put, List.setIfInBounds_toArray, List.set_cons_zero, List.set_cons_succ, i64_w, i32_w]
     rfl
    refine pure_ (i := 23) (N := some 38) (v := ?_) (a' := ?_) q0b24 rfl rfl (any_of HT_.out (by kernel_rfl)) (fun _ _ _ h => h) (Or.inl ⟨by rfl, ?_⟩) ?_ ?_
    rotate_left
    ·intro w'
     go_simp
     with_reducible rfl
    rotate_left
    ·simp only [Act.put, List.setIfInBounds_toArray, List.set_cons_zero, List.set_cons_succ, i64_w, i32_w]
     rfl
    refine pure_ (i := 24) (N := some 39) (v := ?_) (a' := ?_) q0b25 rfl rfl (any_of HT_.out (by kernel_rfl)) (fun _ _ _ h => h) (Or.inl ⟨by rfl, ?_⟩) ?_ ?_
    rotate_left
    ·intro w'
     go_simp
     with_reducible rfl
    rotate_left
    ·simp only [Act.put, List.setIfInBounds_toArray, List.set_cons_zero, List.set_cons_succ, i64_w, i32_w]
     rfl
    refine take_ (i := 25) (N := some 40) (v := ?_) (a' := ?_) q0b26 rfl rfl (take_ofW HT_.out HW_.out (by kernel_rfl)) (fun _ _ _ h => h) (Or.inl ⟨by rfl, ?_⟩) hHeld ?_ ?_
    rotate_left
    ·rintro w' ⟨s0, s1, s2, s3, s4, s5, s6⟩
     go_simp
     with_reducible rfl
    rotate_left
    ·simp only [Act.put, List.setIfInBounds_toArray, List.set_cons_zero, List.set_cons_succ, i64_w, i32_w]
     rfl
    refine take_ (i := 26) (N := some 41) (v := ?_) (a' := ?_) q0b27 rfl rfl (take_ofW HT_.out HW_.out (by kernel_rfl)) (fun _ _ _ h => h) (Or.inl ⟨by rfl, ?_⟩) hHeld ?_ ?_
    rotate_left
    ·rintro w' ⟨s0, s1, s2, s3, s4, s5, s6⟩
     go_simp
     with_reducible rfl
    rotate_left
    ·simp only [Act.put, List.setIfInBounds_toArray, List.set_cons_zero, List.set_cons_succ, i64_w, i32_w]
     rfl
    refine pure_ (i := 27) (N := some 42) (v := ?_) (a' := ?_) q0b28 rfl rfl (any_of HT_.out (by kernel_rfl)) (fun _ _ _ h => h) (Or.inl ⟨by rfl, ?_⟩) ?_ ?_
    rotate_left
    ·intro w'
     go_simp
     with_reducible rfl
    rotate_left
    ·simp only [Act.put, List.setIfInBounds_toArray, List.set_cons_zero, List.set_cons_succ, i64_w, i32_w]
     rfl
    refine pure_ (i := 28) (N := some 43) (v := ?_) (a' := ?_) q0b29 rfl rfl (any_of HT_.out (by kernel_rfl)) (fun _ _ _ h => h) (Or.inl ⟨by rfl, ?_⟩) ?_ ?_
    rotate_left
    ·intro w'
     go_simp
     with_reducible rfl
    rotate_left
    ·simp only [Act.put, List.setIfInBounds_toArray, List.set_cons_zero, List.set_cons_succ, i64_w, i32_w]
     rfl
    refine pure_ (i := 29) (N := some 44) (v := undef) (a' := ?_) q0b30 rfl rfl (any_of HT_.out (by kernel_rfl)) (fun _ _ _ h => h) (Or.inr ⟨by rfl, rfl⟩) ?_ ?_
    rotate_left
    ·simp only [Act.put, List.setIfInBounds_toArray, List.set_cons_zero, List.set_cons_succ, i64_w, i32_w]
     rfl
    refine pure_ (i := 30) (N := some 45) (v := undef) (a' := ?_) q0b31 rfl rfl (any_of HT_.out (by kernel_rfl)) (fun _ _ _ h => h) (Or.inr ⟨by rfl, rfl⟩) ?_ ?_
    rotate_left
    ·simp only [Act.put, List.setIfInBounds_toArray, List.set_cons_zero, List.set_cons_succ, i64_w, i32_w]
     rfl
    refine pure_ (i := 31) (N := some 46) (v := undef) (a' := ?_) q0b32 rfl rfl (any_of HT_.out (by kernel_rfl)) (fun _ _ _ h => h) (Or.inr ⟨by rfl, rfl⟩) ?_ ?_
    rotate_left
    ·simp only [Act.put, List.setIfInBounds_toArray, List.set_cons_zero, List.set_cons_succ, i64_w, i32_w]
     rfl
    refine pure_ (i := 32) (N := some 47) (v := undef) (a' := ?_) q0b33 rfl rfl (any_of HT_.out (by kernel_rfl)) (fun _ _ _ h => h) (Or.inr ⟨by rfl, rfl⟩) ?_ ?_
    rotate_left
    ·simp only [Act.put, List.setIfInBounds_toArray, List.set_cons_zero, List.set_cons_succ, i64_w, i32_w]
     rfl
    refine pure_ (i := 33) (N := some 48) (v := undef) (a' := ?_) q0b34 rfl rfl (any_of HT_.out (by kernel_rfl)) (fun _ _ _ h => h) (Or.inr ⟨by rfl, rfl⟩) ?_ ?_
    rotate_left
    ·simp only [Act.put, List.setIfInBounds_toArray, List.set_cons_zero, List.set_cons_succ, i64_w, i32_w]
     rfl
    refine pure_ (i := 34) (N := some 49) (v := undef) (a' := ?_) q0b35 rfl rfl (any_of HT_.out (by kernel_rfl)) (fun _ _ _ h => h) (Or.inr ⟨by rfl, rfl⟩) ?_ ?_
    rotate_left
    ·simp only [Act.put, List.setIfInBounds_toArray, List.set_cons_zero, List.set_cons_succ, i64_w, i32_w]
     rfl
    refine pure_ (i := 35) (N := some 50) (v := undef) (a' := ?_) q0b36 rfl rfl (any_of HT_.out (by kernel_rfl)) (fun _ _ _ h => h) (Or.inr ⟨by rfl, rfl⟩) ?_ ?_
    rotate_left
    ·simp only [Act.put, List.setIfInBounds_toArray, List.set_cons_zero, List.set_cons_succ, i64_w, i32_w]
     rfl
    refine pure_ (i := 36) (N := some 51) (v := undef) (a' := ?_) q0b37 rfl rfl (any_of HT_.out (by kernel_rfl)) (fun _ _ _ h => h) (Or.inr ⟨by rfl, rfl⟩) ?_ ?_
    rotate_left
    ·simp only [Act.put, List.setIfInBounds_toArray, List.set_cons_zero, List.set_cons_succ, i64_w, i32_w]
     rfl
    refine pure_ (i := 37) (N := some 52) (v := undef) (a' := ?_) q0b38 rfl rfl (any_of HT_.out (by kernel_rfl)) (fun _ _ _ h => h) (Or.inr ⟨by rfl, rfl⟩) ?_ ?_
    rotate_left
    ·simp only [Act.put, List.setIfInBounds_toArray, List.set_cons_zero, List.set_cons_succ, i64_w, i32_w]
     rfl
    refine pure_ (i := 38) (N := some 53) (v := undef) (a' := ?_) q0b39 rfl rfl (any_of HT_.out (by kernel_rfl)) (fun _ _ _ h => h) (Or.inr ⟨by rfl, rfl⟩) ?_ ?_
    rotate_left
    ·simp only [Act.put, List.setIfInBounds_toArray, List.set_cons_zero, List.set_cons_succ, i64_w, i32_w]
     rfl
    refine pure_ (i := 39) (N := some 54) (v := undef) (a' := ?_) q0b40 rfl rfl (any_of HT_.out (by kernel_rfl)) (fun _ _ _ h => h) (Or.inr ⟨by rfl, rfl⟩) ?_ ?_
    rotate_left
    ·simp only [Act.put, List.setIfInBounds_toArray, List.set_cons_zero, List.set_cons_succ, i64_w, i32_w]
     rfl
    refine pure_ (i := 40) (N := some 55) (v := undef) (a' := ?_) q0b41 rfl rfl (any_of HT_.out (by kernel_rfl)) (fun _ _ _ h => h) (Or.inr ⟨by rfl, rfl⟩) ?_ ?_
    rotate_left
    ·simp only [Act.put, List.setIfInBounds_toArray, List.set_cons_zero, List.set_cons_succ, i64_w, i32_w]
     rfl
    refine pure_ (i := 41) (N := some 56) (v := undef) (a' := ?_) q0b42 rfl rfl (any_of HT_.out (by kernel_rfl)) (fun _ _ _ h => h) (Or.inr ⟨by rfl, rfl⟩) ?_ ?_
    rotate_left
    ·simp only [Act.put, List.setIfInBounds_toArray, List.set_cons_zero, List.set_cons_succ, i64_w, i32_w]
     rfl
    refine pure_ (i := 42) (N := some 57) (v := undef) (a' := ?_) q0b43 rfl rfl (any_of HT_.out (by kernel_rfl)) (fun _ _ _ h => h) (Or.inr ⟨by rfl, rfl⟩) ?_ ?_
    rotate_left
    ·simp only [Act.put, List.setIfInBounds_toArray, List.set_cons_zero, List.set_cons_succ, i64_w, i32_w]
     rfl
    refine pure_ (i := 43) (N := some 58) (v := ?_) (a' := ?_) q0b44 rfl rfl (any_of HT_.out (by kernel_rfl)) (fun _ _ _ h => h) (Or.inl ⟨by rfl, ?_⟩) ?_ ?_
    rotate_left
    ·intro w'
     go_simp
     with_reducible rfl
    rotate_left
    ·simp only [Act.put, List.setIfInBounds_toArray, List.set_cons_zero, List.set_cons_succ, i64_w, i32_w]
     rfl
    refine done_ (done_of HT_.out (by kernel_rfl)) ?_
    have HD := Aside0.mk (pw_below_drewN HB5.out nd)
    try go_wp2
    go_ret
    refine ⟨?_, below_then n3.out n3.out.size HD.out⟩
    rw [hall.out, HF.out]
    simp
   ·have KL := Aside0.mk (show ∀ W, Below W0.heap.size W0 W → (W.cell? ⟨g, 0, none⟩ = some (.string nm) ∧ W.cell? ⟨g, 1, none⟩ = some (.int .i64 ct) ∧ W.cell? ⟨g, 2, none⟩ = some (.int .i64 tm) ∧ W.cell? ⟨w.heap.size, 0, none⟩ = some (.int .i64 clock) ∧ W.cell? ⟨w.heap.size, 1, none⟩ = some (.slice (some ad) fs.length c) ∧ W.cell? (ad.add ((i - 1) * 3)) = some (.string pn) ∧ (Instr.lookup 111 (.map (some (w.heap.size + 1))) (.int .i64 tm) false).run Tryd.prog W = .ok (.bool false) W) from fun W hW => by obtain ⟨s0, s1, s2, s3, s4, s5⟩ := KC.out W hW; exact ⟨s0, s1, s2, s3, s4, s5, HLK.out W (SetI.below n2.out hW) rfl rfl⟩)
    have hi1 : (0 : Int) < (i : Int) := of_decide_eq_true h6
    have hw7 : IntKind.i64.wrap ((i : Int) - 1) = ((i - 1 : Nat) : Int) := by simp only [i64_w]; unfold wrap64; omega
    have hq0 : (0 : Int) ≤ ((i - 1 : Nat) : Int) := by omega
    have hq1 : ((i - 1 : Nat) : Int) < (fs.length : Int) := by omega
    have hq2 : Int.toNat ((i - 1 : Nat) : Int) = i - 1 := rfl
    refine start_ (n := 44) (S := fun w' => w'.cell? ⟨g, 0, none⟩ = some (.string nm) ∧ w'.cell? ⟨g, 1, none⟩ = some (.int .i64 ct) ∧ w'.cell? ⟨g, 2, none⟩ = some (.int .i64 tm) ∧ w'.cell? ⟨w.heap.size, 0, none⟩ = some (.int .i64 clock) ∧ w'.cell? ⟨w.heap.size, 1, none⟩ = some (.slice (some ad) fs.length c) ∧ w'.cell? (ad.add ((i - 1) * 3)) = some (.string pn) ∧ (Instr.lookup 111 (.map (some (w.heap.size + 1))) (.int .i64 tm) false).run Tryd.prog w' = .ok (.bool false) w') (ds := []) q0b0 (by kernel_rfl) rfl rfl (KL.out _ (below_drew1 (Below.refl _ _))) (fun hHeld => ?_)
    refine with_tabW disk_May.tab5 disk_May.bits5 (fun HT_ HW_ => ?_)
    refine pure_ (i := 0) (N := some 15) (v := ?_) (a' := ?_) q0b1 rfl rfl (any_of HT_.out (by kernel_rfl)) (fun _ _ _ h => h) (Or.inl ⟨by rfl, ?_⟩) ?_ ?_
    rotate_left
    ·intro w'
     go_simp
     with_reducible rfl
    rotate_left
    ·simp only [Act.put, List.setIfInBounds_toArray, List.set_cons_zero, List.set_cons_succ, i64_w, i32_w]
     rfl
    refine take_ (i := 1) (N := some 16) (v := ?_) (a' := ?_) q0b2 rfl rfl (take_ofW HT_.out HW_.out (by kernel_rfl)) (fun _ _ _ h => h) (Or.inl ⟨by rfl, ?_⟩) hHeld ?_ ?_
    rotate_left
    ·rintro w' ⟨s0, s1, s2, s3, s4, s5, s6⟩
     go_simp
     with_reducible rfl
    rotate_left
    ·simp only [Act.put, List.setIfInBounds_toArray, List.set_cons_zero, List.set_cons_succ, i64_w, i32_w]
     rfl
    refine one_ (i := 2) (N := some 17) q0b3 rfl rfl (one_of HT_.out (by kernel_rfl)) (by decide) (fun K hK => ?_)
    refine goes_ Tryd.func60 (by kernel_rfl) rfl #[.string nm] (by rfl) rfl rfl (by (try simp only [List.map_toArray, List.map_cons, List.map_nil]); first | done | rfl) ?_
    with_reducible refine (HP.out _).mono ?_
    rintro e w5 ⟨rfl, hb5⟩
    have HB5 := Aside0.mk (below_step (below_drew1 (Below.refl _ _)) hb5)
    clear hb5
    refine ⟨_, rfl, ?_⟩
    refine hK.out _ _ (KL.out _ HB5.out) (fun hHeld => ?_)
    clear hK K
    refine norm_ (a' := ?_) ?_ ?_
    rotate_left
    ·show Act.put _ (some 17) _ = _
     simp only [Act.put, List.setIfInBounds_toArray, List.set_cons_zero, List.set_cons_succ, i64_w, i32_w]
     rfl
    refine pure_ (i := 3) (N := some 18) (v := ?_) (a' := ?_) q0b4 rfl rfl (any_of HT_.out (by kernel_rfl)) (fun _ _ _ h => h) (Or.inl ⟨by rfl, ?_⟩) ?_ ?_
    rotate_left
    ·intro w'
     go_simp
     with_reducible rfl
    rotate_left
    ·simp only [Act.put, List.setIfInBounds_toArray, List.set_cons_zero, List.set_cons_succ, i64_w, i32_w]
     rfl
    refine pure_ (i := 4) (N := some 19) (v := ?_) (a' := ?_) q0b5 rfl rfl (any_of HT_.out (by kernel_rfl)) (fun _ _ _ h => h) (Or.inl ⟨by rfl, ?_⟩) ?_ ?_
    rotate_left
    ·intro w'
     go_simp
     with_reducible rfl
    rotate_left
    ·simp only [Act.put, List.setIfInBounds_toArray, List.set_cons_zero, List.set_cons_succ, i64_w, i32_w]
     rfl
    refine pure_ (i := 5) (N := some 20) (v := ?_) (a' := ?_) q0b6 rfl rfl (any_of HT_.out (by kernel_rfl)) (fun _ _ _ h => h) (Or.inl ⟨by rfl, ?_⟩) ?_ ?_
    rotate_left
    ·intro w'
     go_simp
     with_reducible rfl
    rotate_left
    ·simp only [Act.put, List.setIfInBounds_toArray, List.set_cons_zero, List.set_cons_succ, i64_w, i32_w]
     rfl
    refine take_ (i := 6) (N := some 21) (v := ?_) (a' := ?_) q0b7 rfl rfl (take_ofW HT_.out HW_.out (by kernel_rfl)) (fun _ _ _ h => h) (Or.inl ⟨by rfl, ?_⟩) hHeld ?_ ?_
    rotate_left
    ·rintro w' ⟨s0, s1, s2, s3, s4, s5, s6⟩
     go_simp
     with_reducible rfl
    rotate_left
    ·simp only [Act.put, List.setIfInBounds_toArray, List.set_cons_zero, List.set_cons_succ, i64_w, i32_w]
     rfl
    refine one_ (i := 7) (N := some 22) q0b8 rfl rfl (one_of HT_.out (by kernel_rfl)) (by decide) (fun K hK => ?_)
    refine goes_ Tryd.func61 (by kernel_rfl) rfl #[.int .i64 ct] (by rfl) rfl rfl (by (try simp only [List.map_toArray, List.map_cons, List.map_nil]); first | done | rfl) ?_
    with_reducible refine (HT.out _).mono ?_
    rintro e w6 ⟨rfl, ⟨nd, rfl⟩⟩
    refine ⟨_, rfl, ?_⟩
    refine hK.out _ _ (KL.out _ (pw_below_drewN HB5.out nd)) (fun hHeld => ?_)
    clear hK K
    refine norm_ (a' := ?_) ?_ ?_
    rotate_left
    ·show Act.put _ (some 22) _ = _
     simp only [Act.put, List.setIfInBounds_toArray, List.set_cons_zero, List.set_cons_succ, i64_w, i32_w]
     rfl
    refine pure_ (i := 8) (N := some 23) (v := ?_) (a' := ?_) q0b9 rfl rfl (any_of HT_.out (by kernel_rfl)) (fun _ _ _ h => h) (Or.inl ⟨by rfl, ?_⟩) ?_ ?_
    rotate_left
    ·intro w'
     go_simp
     with_reducible rfl
    rotate_left
    ·simp only [Act.put, List.setIfInBounds_toArray, List.set_cons_zero, List.set_cons_succ, i64_w, i32_w]
     rfl
    refine pure_ (i := 9) (N := some 24) (v := ?_) (a' := ?_) q0b10 rfl rfl (any_of HT_.out (by kernel_rfl)) (fun _ _ _ h => h) (Or.inl ⟨by rfl, ?_⟩) ?_ ?_
    rotate_left
    ·intro w'
     go_simp
     with_reducible rfl
    rotate_left
    ·simp only [Act.put, List.setIfInBounds_toArray, List.set_cons_zero, List.set_cons_succ, i64_w, i32_w]
     rfl
    refine pure_ (i := 10) (N := some 25) (v := ?_) (a' := ?_) q0b11 rfl rfl (any_of HT_.out (by kernel_rfl)) (fun _ _ _ h => h) (Or.inl ⟨by rfl, ?_⟩) ?_ ?_
    rotate_left
    ·intro w'
     go_simp
     with_reducible rfl
    rotate_left
    ·simp only [Act.put, List.setIfInBounds_toArray, List.set_cons_zero, List.set_cons_succ, i64_w, i32_w]
     rfl
    refine pure_ (i := 11) (N := some 26) (v := ?_) (a' := ?_) q0b12 rfl rfl (any_of HT_.out (by kernel_rfl)) (fun _ _ _ h => h) (Or.inl ⟨by rfl, ?_⟩) ?_ ?_
    rotate_left
    ·intro w'
     go_simp
     with_reducible rfl
    rotate_left
    ·simp only [Act.put, List.setIfInBounds_toArray, List.set_cons_zero, List.set_cons_succ, i64_w, i32_w]
     rfl
    refine take_ (i := 12) (N := some 27) (v := ?_) (a' := ?_) q0b13 rfl rfl (take_ofW HT_.out HW_.out (by kernel_rfl)) (fun _ _ _ h => h) (Or.inl ⟨by rfl, ?_⟩) hHeld ?_ ?_
    rotate_left
    ·rintro w' ⟨s0, s1, s2, s3, s4, s5, s6⟩
     go_simp
     with_reducible rfl
    rotate_left
    ·simp only [Act.put, List.setIfInBounds_toArray, List.set_cons_zero, List.set_cons_succ, i64_w, i32_w]
     rfl
    refine pure_ (i := 13) (N := some 28) (v := ?_) (a' := ?_) q0b14 rfl rfl (any_of HT_.out (by kernel_rfl)) (fun _ _ _ h => h) (Or.inl ⟨by rfl, ?_⟩) ?_ ?_
    rotate_left
    ·intro w'
     go_simp
     with_reducible rfl
    rotate_left
    ·simp only [Act.put, List.setIfInBounds_toArray, List.set_cons_zero, List.set_cons_succ, i64_w, i32_w]
     rfl
    refine pure_ (i := 14) (N := some 29) (v := ?_) (a' := ?_) q0b15 rfl rfl (any_of HT_.out (by kernel_rfl)) (fun _ _ _ h => h) (Or.inl ⟨by rfl, ?_⟩) ?_ ?_
    rotate_left
    ·intro w'
     go_simp
     with_reducible rfl
    rotate_left
    ·simp only [Act.put, List.setIfInBounds_toArray, List.set_cons_zero, List.set_cons_succ, i64_w, i32_w]
     rfl
    refine pure_ (i := 15) (N := some 30) (v := ?_) (a' := ?_) q0b16 rfl rfl (any_of HT_.out (by kernel_rfl)) (fun _ _ _ h => h) (Or.inl ⟨by rfl, ?_⟩) ?_ ?_
    rotate_left
    ·intro w'
     go_simp
     with_reducible rfl
    rotate_left
    ·simp only [Act.put, List.setIfInBounds_toArray, List.set_cons_zero, List.set_cons_succ, i64_w, i32_w]
     rfl
    refine pure_ (i := 16) (N := some 31) (v := ?_) (a' := ?_) q0b17 rfl rfl (any_of HT_.out (by kernel_rfl)) (fun _ _ _ h => h) (Or.inl ⟨by rfl, ?_⟩) ?_ ?_
    rotate_left
    ·intro w'
     go_simp
     with_reducible rfl
    rotate_left
    ·simp only [Act.put, List.setIfInBounds_toArray, List.set_cons_zero, List.set_cons_succ, i64_w, i32_w]
     rfl
    refine pure_ (i := 18) (N := some 33) (v := ?_) (a' := ?_) q0b45 rfl rfl (any_of HT_.out (by kernel_rfl)) (fun _ _ _ h => h) (Or.inl ⟨by rfl, ?_⟩) ?_ ?_
    rotate_left
    ·intro w'
     go_simp
     with_reducible rfl
    rotate_left
    ·simp only [Act.put, List.setIfInBounds_toArray, List.set_cons_zero, List.set_cons_succ, i64_w, i32_w]
     rfl
    refine take_ (i := 17) (N := some 32) (v := ?_) (a' := ?_) q0b19 rfl rfl (take_ofW HT_.out HW_.out (by kernel_rfl)) (fun _ _ _ h => h) (Or.inl ⟨by rfl, ?_⟩) hHeld ?_ ?_
    rotate_left
    ·rintro w' ⟨s0, s1, s2, s3, s4, s5, s6⟩
     go_simp
     with_reducible rfl
    rotate_left
    ·simp only [Act.put, List.setIfInBounds_toArray, List.set_cons_zero, List.set_cons_succ, i64_w, i32_w]
     rfl
    refine take_ (i := 19) (N := some 34) (v := ?_) (a' := ?_) q0b20 rfl rfl (take_ofW HT_.out HW_.out (by kernel_rfl)) (fun _ _ _ h => h) (Or.inl ⟨by rfl, ?_⟩) hHeld ?_ ?_
    rotate_left
    ·rintro w' ⟨s0, s1, s2, s3, s4, s5, s6⟩
     go_simp
     with_reducible rfl
    rotate_left
    ·simp only [Act.put, List.setIfInBounds_toArray, List.set_cons_zero, List.set_cons_succ, i64_w, i32_w]
     rfl
    refine pure_ (i := 20) (N := some 35) (v := ?_) (a' := ?_) q0b21 rfl rfl (any_of HT_.out (by kernel_rfl)) (fun _ _ _ h => h) (Or.inl ⟨by rfl, ?_⟩) ?_ ?_
    rotate_left
    ·intro w'
     go_simp
     with_reducible rfl
    rotate_left
    ·simp only [Act.put, List.setIfInBounds_toArray, List.set_cons_zero, List.set_cons_succ, i64_w, i32_w]
     rfl
    refine pure_ (i := 21) (N := some 36) (v := ?_) (a' := ?_) q0b22 rfl rfl (any_of HT_.out (by kernel_rfl)) (fun _ _ _ h => h) (Or.inl ⟨by rfl, ?_⟩) ?_ ?_
    rotate_left
    ·intro w'
     go_simp
     with_reducible rfl
    rotate_left
    ·simp only [Act.put, List.setIfInBounds_toArray, List.set_cons_zero, List.set_cons_succ, i64_w, i32_w]
     rfl
    refine pure_ (i := 22) (N := some 37) (v := ?_) (a' := ?_) q0b23 rfl rfl (any_of HT_.out (by kernel_rfl)) (fun _ _ _ h => h) (Or.inl ⟨by rfl, ?_⟩) ?_ ?_
    rotate_left
    ·intro w'
     go_simp
     with_reducible rfl
    rotate_left
    ·simp only [Act.put, List.setIfInBounds_toArray, List.set_cons_zero, List.set_cons_succ, i64_w, i32_w]
     rfl
    refine pure_ (i := 23) (N := some 38) (v := ?_) (a' := ?_) q0b24 rfl rfl (any_of HT_.out (by kernel_rfl)) (fun _ _ _ h => h) (Or.inl ⟨by rfl, ?_⟩) ?_ ?_
    rotate_left
    ·intro w'
     go_simp
     with_reducible rfl
    rotate_left
    ·simp only [Act.put, List.setIfInBounds_toArray, List.set_cons_zero, List.set_cons_succ, i64_w, i32_w]
     rfl
    refine pure_ (i := 24) (N := some 39) (v := ?_) (a' := ?_) q0b25 rfl rfl (any_of HT_.out (by kernel_rfl)) (fun _ _ _ h => h) (Or.inl ⟨by rfl, ?_⟩) ?_ ?_
    rotate_left
    ·intro w'
     go_simp
     with_reducible rfl
    rotate_left
    ·simp only [Act.put, List.setIfInBounds_toArray, List.set_cons_zero, List.set_cons_succ, i64_w, i32_w]
     rfl
    refine take_ (i := 25) (N := some 40) (v := ?_) (a' := ?_) q0b26 rfl rfl (take_ofW HT_.out HW_.out (by kernel_rfl)) (fun _ _ _ h => h) (Or.inl ⟨by rfl, ?_⟩) hHeld ?_ ?_
    rotate_left
    ·rintro w' ⟨s0, s1, s2, s3, s4, s5, s6⟩
     go_simp
     with_reducible rfl
    rotate_left
    ·simp only [Act.put, List.setIfInBounds_toArray, List.set_cons_zero, List.set_cons_succ, i64_w, i32_w]
     rfl
    refine take_ (i := 26) (N := some 41) (v := ?_) (a' := ?_) q0b27 rfl rfl (take_ofW HT_.out HW_.out (by kernel_rfl)) (fun _ _ _ h => h) (Or.inl ⟨by rfl, ?_⟩) hHeld ?_ ?_
    rotate_left
    ·rintro w' ⟨s0, s1, s2, s3, s4, s5, s6⟩
     go_simp
     with_reducible rfl
    rotate_left
    ·simp only [Act.put, List.setIfInBounds_toArray, List.set_cons_zero, List.set_cons_succ, i64_w, i32_w]
     rfl
    refine pure_ (i := 27) (N := some 42) (v := ?_) (a' := ?_) q0b28 rfl rfl (any_of HT_.out (by kernel_rfl)) (fun _ _ _ h => h) (Or.inl ⟨by rfl, ?_⟩) ?_ ?_
    rotate_left
    ·intro w'
     go_simp
     with_reducible rfl
    rotate_left
    ·simp only [Act.put, List.setIfInBounds_toArray, List.set_cons_zero, List.set_cons_succ, i64_w, i32_w]
     rfl
    refine pure_ (i := 28) (N := some 43) (v := ?_) (a' := ?_) q0b29 rfl rfl (any_of HT_.out (by kernel_rfl)) (fun _ _ _ h => h) (Or.inl ⟨by rfl, ?_⟩) ?_ ?_
    rotate_left
    ·intro w'
     go_simp
     with_reducible rfl
    rotate_left
    ·simp only [Act.put, List.setIfInBounds_toArray, List.set_cons_zero, List.set_cons_succ, i64_w, i32_w]
     rfl
    refine pure_ (i := 29) (N := some 44) (v := ?_) (a' := ?_) q0b30 rfl rfl (any_of HT_.out (by kernel_rfl)) (fun _ _ _ h => h) (Or.inl ⟨by rfl, ?_⟩) ?_ ?_
    rotate_left
    ·intro w'
     go_simp
     with_reducible rfl
    rotate_left
    ·simp only [Act.put, List.setIfInBounds_toArray, List.set_cons_zero, List.set_cons_succ, i64_w, i32_w]
     rfl
    refine pure_ (i := 30) (N := some 45) (v := ?_) (a' := ?_) q0b31 rfl rfl (any_of HT_.out (by kernel_rfl)) (fun _ _ _ h => h) (Or.inl ⟨by rfl, ?_⟩) ?_ ?_
    rotate_left
    ·intro w'
     go_simp
     with_reducible rfl
    rotate_left
    ·simp only [Act.put, List.setIfInBounds_toArray, List.set_cons_zero, List.set_cons_succ, i64_w, i32_w]
     rfl
    refine pure_ (i := 31) (N := some 46) (v := ?_) (a' := ?_) q0b32 rfl rfl (any_of HT_.out (by kernel_rfl)) (fun _ _ _ h => h) (Or.inl ⟨by rfl, ?_⟩) ?_ ?_
    rotate_left
    ·intro w'
     go_simp
     with_reducible rfl
    rotate_left
    ·simp only [Act.put, List.setIfInBounds_toArray, List.set_cons_zero, List.set_cons_succ, i64_w, i32_w]
     rfl
    refine pure_ (i := 32) (N := some 47) (v := ?_) (a' := ?_) q0b33 rfl rfl (any_of HT_.out (by kernel_rfl)) (fun _ _ _ h => h) (Or.inl ⟨by rfl, ?_⟩) ?_ ?_
    rotate_left
    ·intro w'
     go_simp
     with_reducible rfl
    rotate_left
    ·simp only [Act.put, List.setIfInBounds_toArray, List.set_cons_zero, List.set_cons_succ, i64_w, i32_w]
     rfl
    refine pure_ (i := 34) (N := some 49) (v := ?_) (a' := ?_) q0b46 rfl rfl (any_of HT_.out (by kernel_rfl)) (fun _ _ _ h => h) (Or.inl ⟨by rfl, ?_⟩) ?_ ?_
    rotate_left
    ·intro w'
     go_simp
     with_reducible rfl
    rotate_left
    ·simp only [Act.put, List.setIfInBounds_toArray, List.set_cons_zero, List.set_cons_succ, i64_w, i32_w]
     rfl
    refine pure_ (i := 35) (N := some 50) (v := ?_) (a' := ?_) q0b47 rfl rfl (any_of HT_.out (by kernel_rfl)) (fun _ _ _ h => h) (Or.inl ⟨by rfl, ?_⟩) ?_ ?_
    rotate_left
    ·intro w'
     go_simp
     with_reducible rfl
    rotate_left
    ·simp only [Act.put, List.setIfInBounds_toArray, List.set_cons_zero, List.set_cons_succ, i64_w, i32_w]
     rfl
    refine pure_ (i := 39) (N := some 54) (v := ?_) (a' := ?_) q0b48 rfl rfl (any_of HT_.out (by kernel_rfl)) (fun _ _ _ h => h) (Or.inl ⟨by rfl, ?_⟩) ?_ ?_
    rotate_left
    ·intro w'
     go_simp
     with_reducible rfl
    rotate_left
    ·simp only [Act.put, List.setIfInBounds_toArray, List.set_cons_zero, List.set_cons_succ, i64_w, i32_w]
     rfl
    refine take_ (i := 33) (N := some 48) (v := ?_) (a' := ?_) q0b49 rfl rfl (take_ofW HT_.out HW_.out (by kernel_rfl)) (fun _ _ _ h => h) (Or.inl ⟨by rfl, ?_⟩) hHeld ?_ ?_
    rotate_left
    ·rintro w' ⟨s0, s1, s2, s3, s4, s5, s6⟩
     go_simp
     with_reducible rfl
    rotate_left
    ·simp only [Act.put, List.setIfInBounds_toArray, List.set_cons_zero, List.set_cons_succ, i64_w, i32_w]
     rfl
    refine pure_ (i := 36) (N := some 51) (v := ?_) (a' := ?_) q0b50 rfl rfl (any_of HT_.out (by kernel_rfl)) (fun _ _ _ h => h) (Or.inl ⟨by rfl, ?_⟩) ?_ ?_
    rotate_left
    ·intro w'
     go_simp
     with_reducible rfl
    rotate_left
    ·simp only [Act.put, List.setIfInBounds_toArray, List.set_cons_zero, List.set_cons_succ, i64_w, i32_w]
     rfl
    refine pure_ (i := 37) (N := some 52) (v := ?_) (a' := ?_) q0b51 rfl rfl (any_of HT_.out (by kernel_rfl)) (fun _ _ _ h => h) (Or.inl ⟨by rfl, ?_⟩) ?_ ?_
    rotate_left
    ·intro w'
     go_simp
     with_reducible rfl
    rotate_left
    ·simp only [Act.put, List.setIfInBounds_toArray, List.set_cons_zero, List.set_cons_succ, i64_w, i32_w]
     rfl
    refine take_ (i := 38) (N := some 53) (v := ?_) (a' := ?_) q0b40 rfl rfl (take_ofW HT_.out HW_.out (by kernel_rfl)) (fun _ _ _ h => h) (Or.inl ⟨by rfl, ?_⟩) hHeld ?_ ?_
    rotate_left
    ·rintro w' ⟨s0, s1, s2, s3, s4, s5, s6⟩
     go_simp
     with_reducible rfl
    rotate_left
    ·simp only [Act.put, List.setIfInBounds_toArray, List.set_cons_zero, List.set_cons_succ, i64_w, i32_w]
     rfl
    refine take_ (i := 40) (N := some 55) (v := ?_) (a' := ?_) q0b41 rfl rfl (take_ofW HT_.out HW_.out (by kernel_rfl)) (fun _ _ _ h => h) (Or.inl ⟨by rfl, ?_⟩) hHeld ?_ ?_
    rotate_left
    ·rintro w' ⟨s0, s1, s2, s3, s4, s5, s6⟩
     go_simp
     with_reducible rfl
    rotate_left
    ·simp only [Act.put, List.setIfInBounds_toArray, List.set_cons_zero, List.set_cons_succ, i64_w, i32_w]
     rfl
    refine pure_ (i := 41) (N := some 56) (v := ?_) (a' := ?_) q0b42 rfl rfl (any_of HT_.out (by kernel_rfl)) (fun _ _ _ h => h) (Or.inl ⟨by rfl, ?_⟩) ?_ ?_
    rotate_left
    ·intro w'
     go_simp
     with_reducible rfl
    rotate_left
    ·simp only [Act.put, List.setIfInBounds_toArray, List.set_cons_zero, List.set_cons_succ, i64_w, i32_w]
     rfl
    refine pure_ (i := 42) (N := some 57) (v := ?_) (a' := ?_) q0b43 rfl rfl (any_of HT_.out (by kernel_rfl)) (fun _ _ _ h => h) (Or.inl ⟨by rfl, ?_⟩) ?_ ?_
    rotate_left
    ·intro w'
     go_simp
     with_reducible rfl
    rotate_left
    ·simp only [Act.put, List.setIfInBounds_toArray, List.set_cons_zero, List.set_cons_succ, i64_w, i32_w]
     rfl
    refine pure_ (i := 43) (N := some 58) (v := ?_) (a' := ?_) q0b44 rfl rfl (any_of HT_.out (by kernel_rfl)) (fun _ _ _ h => h) (Or.inl ⟨by rfl, ?_⟩) ?_ ?_
    rotate_left
    ·intro w'
     go_simp
     with_reducible rfl
    rotate_left
    ·simp only [Act.put, List.setIfInBounds_toArray, List.set_cons_zero, List.set_cons_succ, i64_w, i32_w]
     rfl
    refine done_ (done_of HT_.out (by kernel_rfl)) ?_
    have HD := Aside0.mk (pw_below_drewN HB5.out nd)
    try go_wp2
    go_ret
    refine ⟨?_, below_then n3.out n3.out.size HD.out⟩
    rw [hall.out, HF.out]
    simp
   ·have KL := Aside0.mk (show ∀ W, Below W0.heap.size W0 W → (W.cell? ⟨g, 0, none⟩ = some (.string nm) ∧ W.cell? ⟨g, 1, none⟩ = some (.int .i64 ct) ∧ W.cell? ⟨g, 2, none⟩ = some (.int .i64 tm) ∧ W.cell? ⟨w.heap.size, 0, none⟩ = some (.int .i64 clock) ∧ W.cell? ⟨w.heap.size, 1, none⟩ = some (.slice (some ad) fs.length c) ∧ W.cell? (ad.add ((i - 1) * 3)) = some (.string pn) ∧ (Instr.lookup 111 (.map (some (w.heap.size + 1))) (.int .i64 tm) false).run Tryd.prog W = .ok (.bool false) W) from fun W hW => by obtain ⟨s0, s1, s2, s3, s4, s5⟩ := KC.out W hW; exact ⟨s0, s1, s2, s3, s4, s5, HLK.out W (SetI.below n2.out hW) rfl rfl⟩)
    refine start_ (n := 44) (S := fun w' => w'.cell? ⟨g, 0, none⟩ = some (.string nm) ∧ w'.cell? ⟨g, 1, none⟩ = some (.int .i64 ct) ∧ w'.cell? ⟨g, 2, none⟩ = some (.int .i64 tm) ∧ w'.cell? ⟨w.heap.size, 0, none⟩ = some (.int .i64 clock) ∧ w'.cell? ⟨w.heap.size, 1, none⟩ = some (.slice (some ad) fs.length c) ∧ w'.cell? (ad.add ((i - 1) * 3)) = some (.string pn) ∧ (Instr.lookup 111 (.map (some (w.heap.size + 1))) (.int .i64 tm) false).run Tryd.prog w' = .ok (.bool false) w') (ds := []) q0b0 (by kernel_rfl) rfl rfl (KL.out _ (below_drew1 (Below.refl _ _))) (fun hHeld => ?_)
    refine with_tabW disk_May.tab5 disk_May.bits5 (fun HT_ HW_ => ?_)
    refine pure_ (i := 0) (N := some 15) (v := ?_) (a' := ?_) q0b1 rfl rfl (any_of HT_.out (by kernel_rfl)) (fun _ _ _ h => h) (Or.inl ⟨by rfl, ?_⟩) ?_ ?_
    rotate_left
    ·intro w'
     go_simp
     with_reducible rfl
    rotate_left
    ·simp only [Act.put, List.setIfInBounds_toArray, List.set_cons_zero, List.set_cons_succ, i64_w, i32_w]
     rfl
    refine take_ (i := 1) (N := some 16) (v := ?_) (a' := ?_) q0b2 rfl rfl (take_ofW HT_.out HW_.out (by kernel_rfl)) (fun _ _ _ h => h) (Or.inl ⟨by rfl, ?_⟩) hHeld ?_ ?_
    rotate_left
    ·rintro w' ⟨s0, s1, s2, s3, s4, s5, s6⟩
     go_simp
     with_reducible rfl
    rotate_left
    ·simp only [Act.put, List.setIfInBounds_toArray, List.set_cons_zero, List.set_cons_succ, i64_w, i32_w]
     rfl
    refine one_ (i := 2) (N := some 17) q0b3 rfl rfl (one_of HT_.out (by kernel_rfl)) (by decide) (fun K hK => ?_)
    refine goes_ Tryd.func60 (by kernel_rfl) rfl #[.string nm] (by rfl) rfl rfl (by (try simp only [List.map_toArray, List.map_cons, List.map_nil]); first | done | rfl) ?_
    with_reducible refine (HP.out _).mono ?_
    rintro e w5 ⟨rfl, hb5⟩
    have HB5 := Aside0.mk (below_step (below_drew1 (Below.refl _ _)) hb5)
    clear hb5
    refine ⟨_, rfl, ?_⟩
    refine hK.out _ _ (KL.out _ HB5.out) (fun hHeld => ?_)
    clear hK K
    refine norm_ (a' := ?_) ?_ ?_
    rotate_left
    ·show Act.put _ (some 17) _ = _
     simp only [Act.put, List.setIfInBounds_toArray, List.set_cons_zero, List.set_cons_succ, i64_w, i32_w]
     rfl
    refine pure_ (i := 3) (N := some 18) (v := ?_) (a' := ?_) q0b4 rfl rfl (any_of HT_.out (by kernel_rfl)) (fun _ _ _ h => h) (Or.inl ⟨by rfl, ?_⟩) ?_ ?_
    rotate_left
    ·intro w'
     go_simp
     with_reducible rfl
    rotate_left
    ·simp only [Act.put, List.setIfInBounds_toArray, List.set_cons_zero, List.set_cons_succ, i64_w, i32_w]
     rfl
    refine pure_ (i := 4) (N := some 19) (v := ?_) (a' := ?_) q0b5 rfl rfl (any_of HT_.out (by kernel_rfl)) (fun _ _ _ h => h) (Or.inl ⟨by rfl, ?_⟩) ?_ ?_
    rotate_left
    ·intro w'
     go_simp
     with_reducible rfl
    rotate_left
    ·simp only [Act.put, List.setIfInBounds_toArray, List.set_cons_zero, List.set_cons_succ, i64_w, i32_w]
     rfl
    refine pure_ (i := 5) (N := some 20) (v := ?_) (a' := ?_) q0b6 rfl rfl (any_of HT_.out (by kernel_rfl)) (fun _ _ _ h => h) (Or.inl ⟨by rfl, ?_⟩) ?_ ?_
    rotate_left
    ·intro w'
     go_simp
     with_reducible rfl
    rotate_left
    ·simp only [Act.put, List.setIfInBounds_toArray, List.set_cons_zero, List.set_cons_succ, i64_w, i32_w]
     rfl
    refine take_ (i := 6) (N := some 21) (v := ?_) (a' := ?_) q0b7 rfl rfl (take_ofW HT_.out HW_.out (by kernel_rfl)) (fun _ _ _ h => h) (Or.inl ⟨by rfl, ?_⟩) hHeld ?_ ?_
    rotate_left
    ·rintro w' ⟨s0, s1, s2, s3, s4, s5, s6⟩
     go_simp
     with_reducible rfl
    rotate_left
    ·simp only [Act.put, List.setIfInBounds_toArray, List.set_cons_zero, List.set_cons_succ, i64_w, i32_w]
     rfl
    refine one_ (i := 7) (N := some 22) q0b8 rfl rfl (one_of HT_.out (by kernel_rfl)) (by decide) (fun K hK => ?_)
    refine goes_ Tryd.func61 (by kernel_rfl) rfl #[.int .i64 ct] (by rfl) rfl rfl (by (try simp only [List.map_toArray, List.map_cons, List.map_nil]); first | done | rfl) ?_
    with_reducible refine (HT.out _).mono ?_
    rintro e w6 ⟨rfl, ⟨nd, rfl⟩⟩
    refine ⟨_, rfl, ?_⟩
    refine hK.out _ _ (KL.out _ (pw_below_drewN HB5.out nd)) (fun hHeld => ?_)
    clear hK K
    refine norm_ (a' := ?_) ?_ ?_
    rotate_left
    ·show Act.put _ (some 22) _ = _
     simp only [Act.put, List.setIfInBounds_toArray, List.set_cons_zero, List.set_cons_succ, i64_w, i32_w]
     rfl
    refine pure_ (i := 8) (N := some 23) (v := ?_) (a' := ?_) q0b9 rfl rfl (any_of HT_.out (by kernel_rfl)) (fun _ _ _ h => h) (Or.inl ⟨by rfl, ?_⟩) ?_ ?_
    rotate_left
    ·intro w'
     go_simp
     with_reducible rfl
    rotate_left
    ·simp only [Act.put, List.setIfInBounds_toArray, List.set_cons_zero, List.set_cons_succ, i64_w, i32_w]
     rfl
    refine pure_ (i := 9) (N := some 24) (v := ?_) (a' := ?_) q0b10 rfl rfl (any_of HT_.out (by kernel_rfl)) (fun _ _ _ h => h) (Or.inl ⟨by rfl, ?_⟩) ?_ ?_
    rotate_left
    ·intro w'
     go_simp
     with_reducible rfl
    rotate_left
    ·simp only [Act.put, List.setIfInBounds_toArray, List.set_cons_zero, List.set_cons_succ, i64_w, i32_w]
     rfl
    refine pure_ (i := 10) (N := some 25) (v := ?_) (a' := ?_) q0b11 rfl rfl (any_of HT_.out (by kernel_rfl)) (fun _ _ _ h => h) (Or.inl ⟨by rfl, ?_⟩) ?_ ?_
    rotate_left
    ·intro w'
     go_simp
     with_reducible rfl
    rotate_left
    ·simp only [Act.put, List.setIfInBounds_toArray, List.set_cons_zero, List.set_cons_succ, i64_w, i32_w]
     rfl
    refine pure_ (i := 11) (N := some 26) (v := ?_) (a' := ?_) q0b12 rfl rfl (any_of HT_.out (by kernel_rfl)) (fun _ _ _ h => h) (Or.inl ⟨by rfl, ?_⟩) ?_ ?_
    rotate_left
    ·intro w'
     go_simp
     with_reducible rfl
    rotate_left
    ·simp only [Act.put, List.setIfInBounds_toArray, List.set_cons_zero, List.set_cons_succ, i64_w, i32_w]
     rfl
    refine take_ (i := 12) (N := some 27) (v := ?_) (a' := ?_) q0b13 rfl rfl (take_ofW HT_.out HW_.out (by kernel_rfl)) (fun _ _ _ h => h) (Or.inl ⟨by rfl, ?_⟩) hHeld ?_ ?_
    rotate_left
    ·rintro w' ⟨s0, s1, s2, s3, s4, s5, s6⟩
     go_simp
     with_reducible rfl
    rotate_left
    ·simp only [Act.put, List.setIfInBounds_toArray, List.set_cons_zero, List.set_cons_succ, i64_w, i32_w]
     rfl
    refine pure_ (i := 13) (N := some 28) (v := ?_) (a' := ?_) q0b14 rfl rfl (any_of HT_.out (by kernel_rfl)) (fun _ _ _ h => h) (Or.inl ⟨by rfl, ?_⟩) ?_ ?_
    rotate_left
    ·intro w'
     go_simp
     with_reducible rfl
    rotate_left
    ·simp only [Act.put, List.setIfInBounds_toArray, List.set_cons_zero, List.set_cons_succ, i64_w, i32_w]
     rfl
    refine pure_ (i := 14) (N := some 29) (v := ?_) (a' := ?_) q0b15 rfl rfl (any_of HT_.out (by kernel_rfl)) (fun _ _ _ h => h) (Or.inl ⟨by rfl, ?_⟩) ?_ ?_
    rotate_left
    ·intro w'
     go_simp
     with_reducible rfl
    rotate_left
    ·simp only [Act.put, List.setIfInBounds_toArray, List.set_cons_zero, List.set_cons_succ, i64_w, i32_w]
     rfl
    refine pure_ (i := 15) (N := some 30) (v := ?_) (a' := ?_) q0b16 rfl rfl (any_of HT_.out (by kernel_rfl)) (fun _ _ _ h => h) (Or.inl ⟨by rfl, ?_⟩) ?_ ?_
    rotate_left
    ·intro w'
     go_simp
     with_reducible rfl
    rotate_left
    ·simp only [Act.put, List.setIfInBounds_toArray, List.set_cons_zero, List.set_cons_succ, i64_w, i32_w]
     rfl
    refine pure_ (i := 16) (N := some 31) (v := ?_) (a' := ?_) q0b17 rfl rfl (any_of HT_.out (by kernel_rfl)) (fun _ _ _ h => h) (Or.inl ⟨by rfl, ?_⟩) ?_ ?_
    rotate_left
    ·intro w'
     go_simp
     with_reducible rfl
    rotate_left
    ·simp only [Act.put, List.setIfInBounds_toArray, List.set_cons_zero, List.set_cons_succ, i64_w, i32_w]
     rfl
    refine pure_ (i := 18) (N := some 33) (v := ?_) (a' := ?_) q0b45 rfl rfl (any_of HT_.out (by kernel_rfl)) (fun _ _ _ h => h) (Or.inl ⟨by rfl, ?_⟩) ?_ ?_
    rotate_left
    ·intro w'
     go_simp
     with_reducible rfl
    rotate_left
    ·simp only [Act.put, List.setIfInBounds_toArray, List.set_cons_zero, List.set_cons_succ, i64_w, i32_w]
     rfl
    refine take_ (i := 17) (N := some 32) (v := ?_) (a' := ?_) q0b19 rfl rfl (take_ofW HT_.out HW_.out (by kernel_rfl)) (fun _ _ _ h => h) (Or.inl ⟨by rfl, ?_⟩) hHeld ?_ ?_
    rotate_left
    ·rintro w' ⟨s0, s1, s2, s3, s4, s5, s6⟩
     go_simp
     with_reducible rfl
    rotate_left
    ·simp only [Act.put, List.setIfInBounds_toArray, List.set_cons_zero, List.set_cons_succ, i64_w, i32_w]
     rfl
    refine take_ (i := 19) (N := some 34) (v := ?_) (a' := ?_) q0b20 rfl rfl (take_ofW HT_.out HW_.out (by kernel_rfl)) (fun _ _ _ h => h) (Or.inl ⟨by rfl, ?_⟩) hHeld ?_ ?_
    rotate_left
    ·rintro w' ⟨s0, s1, s2, s3, s4, s5, s6⟩
     go_simp
     with_reducible rfl
    rotate_left
    ·simp only [Act.put, List.setIfInBounds_toArray, List.set_cons_zero, List.set_cons_succ, i64_w, i32_w]
     rfl
    refine pure_ (i := 20) (N := some 35) (v := ?_) (a' := ?_) q0b21 rfl rfl (any_of HT_.out (by kernel_rfl)) (fun _ _ _ h => h) (Or.inl ⟨by rfl, ?_⟩) ?_ ?_
    rotate_left
    ·intro w'
     go_simp
     with_reducible rfl
    rotate_left
    ·simp only [Act.put, List.setIfInBounds_toArray, List.set_cons_zero, List.set_cons_succ, i64_w, i32_w]
     rfl
    refine pure_ (i := 21) (N := some 36) (v := ?_) (a' := ?_) q0b22 rfl rfl (any_of HT_.out (by kernel_rfl)) (fun _ _ _ h => h) (Or.inl ⟨by rfl, ?_⟩) ?_ ?_
    rotate_left
    ·intro w'
     go_simp
     with_reducible rfl
    rotate_left
    ·simp only [Act.put, List.setIfInBounds_toArray, List.set_cons_zero, List.set_cons_succ, i64_w, i32_w]
     rfl
    refine pure_ (i := 22) (N := some 37) (v := ?_) (a' := ?_) q0b23 rfl rfl (any_of HT_.out (by kernel_rfl)) (fun _ _ _ h => h) (Or.inl ⟨by rfl, ?_⟩) ?_ ?_
    rotate_left
    ·intro w'
     go_simp
     with_reducible rfl
    rotate_left
    ·simp only [Act.put, List.setIfInBounds_toArray, List.set_cons_zero, List.set_cons_succ, i64_w, i32_w]
     rfl
    refine pure_ (i := 23) (N := some 38) (v := ?_) (a' := ?_) q0b24 rfl rfl (any_of HT_.out (by kernel_rfl)) (fun _ _ _ h => h) (Or.inl ⟨by rfl, ?_⟩) ?_ ?_
    rotate_left
    ·intro w'
     go_simp
     with_reducible rfl
    rotate_left
    ·simp only [Act.put, List.setIfInBounds_toArray, List.set_cons_zero, List.set_cons_succ, i64_w, i32_w]
     rfl
    refine pure_ (i := 24) (N := some 39) (v := ?_) (a' := ?_) q0b25 rfl rfl (any_of HT_.out (by kernel_rfl)) (fun _ _ _ h => h) (Or.inl ⟨by rfl, ?_⟩) ?_ ?_
    rotate_left
    ·intro w'
     go_simp
     with_reducible rfl
    rotate_left
    ·simp only [Act.put, List.setIfInBounds_toArray, List.set_cons_zero, List.set_cons_succ, i64_w, i32_w]
     rfl
    refine take_ (i := 25) (N := some 40) (v := ?_) (a' := ?_) q0b26 rfl rfl (take_ofW HT_.out HW_.out (by kernel_rfl)) (fun _ _ _ h => h) (Or.inl ⟨by rfl, ?_⟩) hHeld ?_ ?_
    rotate_left
    ·rintro w' ⟨s0, s1, s2, s3, s4, s5, s6⟩
     go_simp
     with_reducible rfl
    rotate_left
    ·simp only [Act.put, List.setIfInBounds_toArray, List.set_cons_zero, List.set_cons_succ, i64_w, i32_w]
     rfl
    refine take_ (i := 26) (N := some 41) (v := ?_) (a' := ?_) q0b27 rfl rfl (take_ofW HT_.out HW_.out (by kernel_rfl)) (fun _ _ _ h => h) (Or.inl ⟨by rfl, ?_⟩) hHeld ?_ ?_
    rotate_left
    ·rintro w' ⟨s0, s1, s2, s3, s4, s5, s6⟩
     go_simp
     with_reducible rfl
    rotate_left
    ·simp only [Act.put, List.setIfInBounds_toArray, List.set_cons_zero, List.set_cons_succ, i64_w, i32_w]
     rfl
    refine pure_ (i := 27) (N := some 42) (v := ?_) (a' := ?_) q0b28 rfl rfl (any_of HT_.out (by kernel_rfl)) (fun _ _ _ h => h) (Or.inl ⟨by rfl, ?_⟩) ?_ ?_
    rotate_left
    ·intro w'
     go_simp
     with_reducible rfl
    rotate_left
    ·simp only [Act.put, List.setIfInBounds_toArray, List.set_cons_zero, List.set_cons_succ, i64_w, i32_w]
     rfl
    refine pure_ (i := 28) (N := some 43) (v := ?_) (a' := ?_) q0b29 rfl rfl (any_of HT_.out (by kernel_rfl)) (fun _ _ _ h => h) (Or.inl ⟨by rfl, ?_⟩) ?_ ?_
    rotate_left
    ·intro w'
     go_simp
     with_reducible rfl
    rotate_left
    ·simp only [Act.put, List.setIfInBounds_toArray, List.set_cons_zero, List.set_cons_succ, i64_w, i32_w]
     rfl
    refine pure_ (i := 29) (N := some 44) (v := ?_) (a' := ?_) q0b30 rfl rfl (any_of HT_.out (by kernel_rfl)) (fun _ _ _ h => h) (Or.inl ⟨by rfl, ?_⟩) ?_ ?_
    rotate_left
    ·intro w'
     go_simp
     with_reducible rfl
    rotate_left
    ·simp only [Act.put, List.setIfInBounds_toArray, List.set_cons_zero, List.set_cons_succ, i64_w, i32_w]
     rfl
    refine pure_ (i := 30) (N := some 45) (v := ?_) (a' := ?_) q0b31 rfl rfl (any_of HT_.out (by kernel_rfl)) (fun _ _ _ h => h) (Or.inl ⟨by rfl, ?_⟩) ?_ ?_
    rotate_left
    ·intro w'
     go_simp
     with_reducible rfl
    rotate_left
    ·simp only [Act.put, List.setIfInBounds_toArray, List.set_cons_zero, List.set_cons_succ, i64_w, i32_w]
     rfl
    refine pure_ (i := 31) (N := some 46) (v := ?_) (a' := ?_) q0b32 rfl rfl (any_of HT_.out (by kernel_rfl)) (fun _ _ _ h => h) (Or.inl ⟨by rfl, ?_⟩) ?_ ?_
    rotate_left
    ·intro w'
     go_simp
     with_reducible rfl
    rotate_left
    ·simp only [Act.put, List.setIfInBounds_toArray, List.set_cons_zero, List.set_cons_succ, i64_w, i32_w]
     rfl
    refine pure_ (i := 32) (N := some 47) (v := undef) (a' := ?_) q0b33 rfl rfl (any_of HT_.out (by kernel_rfl)) (fun _ _ _ h => h) (Or.inr ⟨by rfl, rfl⟩) ?_ ?_
    rotate_left
    ·simp only [Act.put, List.setIfInBounds_toArray, List.set_cons_zero, List.set_cons_succ, i64_w, i32_w]
     rfl
    refine pure_ (i := 33) (N := some 48) (v := undef) (a' := ?_) q0b34 rfl rfl (any_of HT_.out (by kernel_rfl)) (fun _ _ _ h => h) (Or.inr ⟨by rfl, rfl⟩) ?_ ?_
    rotate_left
    ·simp only [Act.put, List.setIfInBounds_toArray, List.set_cons_zero, List.set_cons_succ, i64_w, i32_w]
     rfl
    refine pure_ (i := 34) (N := some 49) (v := undef) (a' := ?_) q0b35 rfl rfl (any_of HT_.out (by kernel_rfl)) (fun _ _ _ h => h) (Or.inr ⟨by rfl, rfl⟩) ?_ ?_
    rotate_left
    ·simp only [Act.put, List.setIfInBounds_toArray, List.set_cons_zero, List.set_cons_succ, i64_w, i32_w]
     rfl
    refine pure_ (i := 35) (N := some 50) (v := undef) (a' := ?_) q0b36 rfl rfl (any_of HT_.out (by kernel_rfl)) (fun _ _ _ h => h) (Or.inr ⟨by rfl, rfl⟩) ?_ ?_
    rotate_left
    ·simp only [Act.put, List.setIfInBounds_toArray, List.set_cons_zero, List.set_cons_succ, i64_w, i32_w]
     rfl
    refine pure_ (i := 36) (N := some 51) (v := undef) (a' := ?_) q0b37 rfl rfl (any_of HT_.out (by kernel_rfl)) (fun _ _ _ h => h) (Or.inr ⟨by rfl, rfl⟩) ?_ ?_
    rotate_left
    ·simp only [Act.put, List.setIfInBounds_toArray, List.set_cons_zero, List.set_cons_succ, i64_w, i32_w]
     rfl
    refine pure_ (i := 37) (N := some 52) (v := undef) (a' := ?_) q0b38 rfl rfl (any_of HT_.out (by kernel_rfl)) (fun _ _ _ h => h) (Or.inr ⟨by rfl, rfl⟩) ?_ ?_
    rotate_left
    ·simp only [Act.put, List.setIfInBounds_toArray, List.set_cons_zero, List.set_cons_succ, i64_w, i32_w]
     rfl
    refine pure_ (i := 38) (N := some 53) (v := undef) (a' := ?_) q0b39 rfl rfl (any_of HT_.out (by kernel_rfl)) (fun _ _ _ h => h) (Or.inr ⟨by rfl, rfl⟩) ?_ ?_
    rotate_left
    ·simp only [Act.put, List.setIfInBounds_toArray, List.set_cons_zero, List.set_cons_succ, i64_w, i32_w]
     rfl
    refine pure_ (i := 39) (N := some 54) (v := undef) (a' := ?_) q0b40 rfl rfl (any_of HT_.out (by kernel_rfl)) (fun _ _ _ h => h) (Or.inr ⟨by rfl, rfl⟩) ?_ ?_
    rotate_left
    ·simp only [Act.put, List.setIfInBounds_toArray, List.set_cons_zero, List.set_cons_succ, i64_w, i32_w]
     rfl
    refine pure_ (i := 40) (N := some 55) (v := undef) (a' := ?_) q0b41 rfl rfl (any_of HT_.out (by kernel_rfl)) (fun _ _ _ h => h) (Or.inr ⟨by rfl, rfl⟩) ?_ ?_
    rotate_left
    ·simp only [Act.put, List.setIfInBounds_toArray, List.set_cons_zero, List.set_cons_succ, i64_w, i32_w]
     rfl
    refine pure_ (i := 41) (N := some 56) (v := undef) (a' := ?_) q0b42 rfl rfl (any_of HT_.out (by kernel_rfl)) (fun _ _ _ h => h) (Or.inr ⟨by rfl, rfl⟩) ?_ ?_
    rotate_left
    ·simp only [Act.put, List.setIfInBounds_toArray, List.set_cons_zero, List.set_cons_succ, i64_w, i32_w]
     rfl
    refine pure_ (i := 42) (N := some 57) (v := ?_) (a' := ?_) q0b43 rfl rfl (any_of HT_.out (by kernel_rfl)) (fun _ _ _ h => h) (Or.inl ⟨by rfl, ?_⟩) ?_ ?_
    rotate_left
    ·intro w'
     go_simp
     with_reducible rfl
    rotate_left
    ·simp only [Act.put, List.setIfInBounds_toArray, List.set_cons_zero, List.set_cons_succ, i64_w, i32_w]
     rfl
    refine pure_ (i := 43) (N := some 58) (v := ?_) (a' := ?_) q0b44 rfl rfl (any_of HT_.out (by kernel_rfl)) (fun _ _ _ h => h) (Or.inl ⟨by rfl, ?_⟩) ?_ ?_
    rotate_left
    ·intro w'
     go_simp
     with_reducible rfl
    rotate_left
    ·simp only [Act.put, List.setIfInBounds_toArray, List.set_cons_zero, List.set_cons_succ, i64_w, i32_w]
     rfl
    refine done_ (done_of HT_.out (by kernel_rfl)) ?_
    have HD := Aside0.mk (pw_below_drewN HB5.out nd)
    have ht := HTM.out rfl rfl
    have hl := timesOf_len fs i
    go_wp2_with (at_mapUpdate; refine wpList_mapUpdate_set _ rfl _ _ _ rfl (w.heap.size + 1) (timesOf fs i) tm rfl rfl rfl (SetI.below n2.out HD.out) ?_ ?_ ?_ ?_; omega; omega; omega; intro w7 hst7 hg7; have HS7 := Aside0.mk hst7; have HG7 := Aside0.mk hg7; clear hst7 hg7)
    go_roundg g'
    case rel =>
     refine ⟨i + 1, by go_num, by omega, by omega, ⟨?_⟩, ⟨?_⟩, ⟨?_⟩, ⟨?_⟩⟩
     ·rw [hall.out, HF.out]; simp
     ·exact (HG7.out.block w.heap.size (by have := HGS.out; have := blk_lt n1.out; have := HD.out.size; simp at this ⊢; omega) (by simp)).trans (blk_below n0.out HD.out)
     ·rw [HTF.out]; exact HS7.out
     ·exact grown_below (below_then n3.out n3.out.size HD.out) HG7.out (by omega)
    case measure => omega
   ·have KL := Aside0.mk (show ∀ W, Below W0.heap.size W0 W → (W.cell? ⟨g, 0, none⟩ = some (.string nm) ∧ W.cell? ⟨g, 1, none⟩ = some (.int .i64 ct) ∧ W.cell? ⟨g, 2, none⟩ = some (.int .i64 tm) ∧ W.cell? ⟨w.heap.size, 0, none⟩ = some (.int .i64 clock) ∧ W.cell? ⟨w.heap.size, 1, none⟩ = some (.slice (some ad) fs.length c) ∧ W.cell? (ad.add ((i - 1) * 3)) = some (.string pn) ∧ (Instr.lookup 111 (.map (some (w.heap.size + 1))) (.int .i64 tm) false).run Tryd.prog W = .ok (.bool false) W) from fun W hW => by obtain ⟨s0, s1, s2, s3, s4, s5⟩ := KC.out W hW; exact ⟨s0, s1, s2, s3, s4, s5, HLK.out W (SetI.below n2.out hW) rfl rfl⟩)
    have hi1 : (0 : Int) < (i : Int) := of_decide_eq_true h6
    have hw7 : IntKind.i64.wrap ((i : Int) - 1) = ((i - 1 : Nat) : Int) := by simp only [i64_w]; unfold wrap64; omega
    have hq0 : (0 : Int) ≤ ((i - 1 : Nat) : Int) := by omega
    have hq1 : ((i - 1 : Nat) : Int) < (fs.length : Int) := by omega
    have hq2 : Int.toNat ((i - 1 : Nat) : Int) = i - 1 := rfl
    refine start_ (n := 44) (S := fun w' => w'.cell? ⟨g, 0, none⟩ = some (.string nm) ∧ w'.cell? ⟨g, 1, none⟩ = some (.int .i64 ct) ∧ w'.cell? ⟨g, 2, none⟩ = some (.int .i64 tm) ∧ w'.cell? ⟨w.heap.size, 0, none⟩ = some (.int .i64 clock) ∧ w'.cell? ⟨w.heap.size, 1, none⟩ = some (.slice (some ad) fs.length c) ∧ w'.cell? (ad.add ((i - 1) * 3)) = some (.string pn) ∧ (Instr.lookup 111 (.map (some (w.heap.size + 1))) (.int .i64 tm) false).run Tryd.prog w' = .ok (.bool false) w') (ds := []) q0b0 (by kernel_rfl) rfl rfl (KL.out _ (below_drew1 (Below.refl _ _))) (fun hHeld => ?_)
    refine with_tabW disk_May.tab5 disk_May.bits5 (fun HT_ HW_ => ?_)
    refine pure_ (i := 0) (N := some 15) (v := ?_) (a' := ?_) q0b1 rfl rfl (any_of HT_.out (by kernel_rfl)) (fun _ _ _ h => h) (Or.inl ⟨by rfl, ?_⟩) ?_ ?_
    rotate_left
    ·intro w'
     go_simp
     with_reducible rfl
    rotate_left
    ·simp only [Act.put, List.setIfInBounds_toArray, List.set_cons_zero, List.set_cons_succ, i64_w, i32_w]
     rfl
    refine take_ (i := 1) (N := some 16) (v := ?_) (a' := ?_) q0b2 rfl rfl (take_ofW HT_.out HW_.out (by kernel_rfl)) (fun _ _ _ h => h) (Or.inl ⟨by rfl, ?_⟩) hHeld ?_ ?_
    rotate_left
    ·rintro w' ⟨s0, s1, s2, s3, s4, s5, s6⟩
     go_simp
     with_reducible rfl
    rotate_left
    ·simp only [Act.put, List.setIfInBounds_toArray, List.set_cons_zero, List.set_cons_succ, i64_w, i32_w]
     rfl
    refine one_ (i := 2) (N := some 17) q0b3 rfl rfl (one_of HT_.out (by kernel_rfl)) (by decide) (fun K hK => ?_)
    refine goes_ Tryd.func60 (by kernel_rfl) rfl #[.string nm] (by rfl) rfl rfl (by (try simp only [List.map_toArray, List.map_cons, List.map_nil]); first | done | rfl) ?_
    with_reducible refine (HP.out _).mono ?_
    rintro e w5 ⟨rfl, hb5⟩
    have HB5 := Aside0.mk (below_step (below_drew1 (Below.refl _ _)) hb5)
    clear hb5
    refine ⟨_, rfl, ?_⟩
    refine hK.out _ _ (KL.out _ HB5.out) (fun hHeld => ?_)
    clear hK K
    refine norm_ (a' := ?_) ?_ ?_
    rotate_left
    ·show Act.put _ (some 17) _ = _
     simp only [Act.put, List.setIfInBounds_toArray, List.set_cons_zero, List.set_cons_succ, i64_w, i32_w]
     rfl
    refine pure_ (i := 3) (N := some 18) (v := ?_) (a' := ?_) q0b4 rfl rfl (any_of HT_.out (by kernel_rfl)) (fun _ _ _ h => h) (Or.inl ⟨by rfl, ?_⟩) ?_ ?_
    rotate_left
    ·intro w'
     go_simp
     with_reducible rfl
    rotate_left
    ·simp only [Act.put, List.setIfInBounds_toArray, List.set_cons_zero, List.set_cons_succ, i64_w, i32_w]
     rfl
    refine pure_ (i := 4) (N := some 19) (v := ?_) (a' := ?_) q0b5 rfl rfl (any_of HT_.out (by kernel_rfl)) (fun _ _ _ h => h) (Or.inl ⟨by rfl, ?_⟩) ?_ ?_
    rotate_left
    ·intro w'
     go_simp
     with_reducible rfl
    rotate_left
    ·simp only [Act.put, List.setIfInBounds_toArray, List.set_cons_zero, List.set_cons_succ, i64_w, i32_w]
     rfl
    refine pure_ (i := 5) (N := some 20) (v := ?_) (a' := ?_) q0b6 rfl rfl (any_of HT_.out (by kernel_rfl)) (fun _ _ _ h => h) (Or.inl ⟨by rfl, ?_⟩) ?_ ?_
    rotate_left
    ·intro w'
     go_simp
     with_reducible rfl
    rotate_left
    ·simp only [Act.put, List.setIfInBounds_toArray, List.set_cons_zero, List.set_cons_succ, i64_w, i32_w]
     rfl
    refine take_ (i := 6) (N := some 21) (v := ?_) (a' := ?_) q0b7 rfl rfl (take_ofW HT_.out HW_.out (by kernel_rfl)) (fun _ _ _ h => h) (Or.inl ⟨by rfl, ?_⟩) hHeld ?_ ?_
    rotate_left
    ·rintro w' ⟨s0, s1, s2, s3, s4, s5, s6⟩
     go_simp
     with_reducible rfl
    rotate_left
    ·simp only [Act.put, List.setIfInBounds_toArray, List.set_cons_zero, List.set_cons_succ, i64_w, i32_w]
     rfl
    refine one_ (i := 7) (N := some 22) q0b8 rfl rfl (one_of HT_.out (by kernel_rfl)) (by decide) (fun K hK => ?_)
    refine goes_ Tryd.func61 (by kernel_rfl) rfl #[.int .i64 ct] (by rfl) rfl rfl (by (try simp only [List.map_toArray, List.map_cons, List.map_nil]); first | done | rfl) ?_
    with_reducible refine (HT.out _).mono ?_
    rintro e w6 ⟨rfl, ⟨nd, rfl⟩⟩
    refine ⟨_, rfl, ?_⟩
    refine hK.out _ _ (KL.out _ (pw_below_drewN HB5.out nd)) (fun hHeld => ?_)
    clear hK K
    refine norm_ (a' := ?_) ?_ ?_
    rotate_left
    ·show Act.put _ (some 22) _ = _
     simp only [Act.put, List.setIfInBounds_toArray, List.set_cons_zero, List.set_cons_succ, i64_w, i32_w]
     rfl
    refine pure_ (i := 8) (N := some 23) (v := ?_) (a' := ?_) q0b9 rfl rfl (any_of HT_.out (by kernel_rfl)) (fun _ _ _ h => h) (Or.inl ⟨by rfl, ?_⟩) ?_ ?_
    rotate_left
    ·intro w'
     go_simp
     with_reducible rfl
    rotate_left
    ·simp only [Act.put, List.setIfInBounds_toArray, List.set_cons_zero, List.set_cons_succ, i64_w, i32_w]
     rfl
    refine pure_ (i := 9) (N := some 24) (v := ?_) (a' := ?_) q0b10 rfl rfl (any_of HT_.out (by kernel_rfl)) (fun _ _ _ h => h) (Or.inl ⟨by rfl, ?_⟩) ?_ ?_
    rotate_left
    ·intro w'
     go_simp
     with_reducible rfl
    rotate_left
    ·simp only [Act.put, List.setIfInBounds_toArray, List.set_cons_zero, List.set_cons_succ, i64_w, i32_w]
     rfl
    refine pure_ (i := 10) (N := some 25) (v := ?_) (a' := ?_) q0b11 rfl rfl (any_of HT_.out (by kernel_rfl)) (fun _ _ _ h => h) (Or.inl ⟨by rfl, ?_⟩) ?_ ?_
    rotate_left
    ·intro w'
     go_simp
     with_reducible rfl
    rotate_left
    ·simp only [Act.put, List.setIfInBounds_toArray, List.set_cons_zero, List.set_cons_succ, i64_w, i32_w]
     rfl
    refine pure_ (i := 11) (N := some 26) (v := ?_) (a' := ?_) q0b12 rfl rfl (any_of HT_.out (by kernel_rfl)) (fun _ _ _ h => h) (Or.inl ⟨by rfl, ?_⟩) ?_ ?_
    rotate_left
    ·intro w'
     go_simp
     with_reducible rfl
    rotate_left
    ·simp only [Act.put, List.setIfInBounds_toArray, List.set_cons_zero, List.set_cons_succ, i64_w, i32_w]
     rfl
    refine take_ (i := 12) (N := some 27) (v := ?_) (a' := ?_) q0b13 rfl rfl (take_ofW HT_.out HW_.out (by kernel_rfl)) (fun _ _ _ h => h) (Or.inl ⟨by rfl, ?_⟩) hHeld ?_ ?_
    rotate_left
    ·rintro w' ⟨s0, s1, s2, s3, s4, s5, s6⟩
     go_simp
     with_reducible rfl
    rotate_left
    ·simp only [Act.put, List.setIfInBounds_toArray, List.set_cons_zero, List.set_cons_succ, i64_w, i32_w]
     rfl
    refine pure_ (i := 13) (N := some 28) (v := ?_) (a' := ?_) q0b14 rfl rfl (any_of HT_.out (by kernel_rfl)) (fun _ _ _ h => h) (Or.inl ⟨by rfl, ?_⟩) ?_ ?_
    rotate_left
    ·intro w'
     go_simp
     with_reducible rfl
    rotate_left
    ·simp only [Act.put, List.setIfInBounds_toArray, List.set_cons_zero, List.set_cons_succ, i64_w, i32_w]
     rfl
    refine pure_ (i := 14) (N := some 29) (v := ?_) (a' := ?_) q0b15 rfl rfl (any_of HT_.out (by kernel_rfl)) (fun _ _ _ h => h) (Or.inl ⟨by rfl, ?_⟩) ?_ ?_
    rotate_left
    ·intro w'
     go_simp
     with_reducible rfl
    rotate_left
    ·simp only [Act.put, List.setIfInBounds_toArray, List.set_cons_zero, List.set_cons_succ, i64_w, i32_w]
     rfl
    refine pure_ (i := 15) (N := some 30) (v := ?_) (a' := ?_) q0b16 rfl rfl (any_of HT_.out (by kernel_rfl)) (fun _ _ _ h => h) (Or.inl ⟨by rfl, ?_⟩) ?_ ?_
    rotate_left
    ·intro w'
     go_simp
     with_reducible rfl
    rotate_left
    ·simp only [Act.put, List.setIfInBounds_toArray, List.set_cons_zero, List.set_cons_succ, i64_w, i32_w]
     rfl
    refine pure_ (i := 16) (N := some 31) (v := ?_) (a' := ?_) q0b17 rfl rfl (any_of HT_.out (by kernel_rfl)) (fun _ _ _ h => h) (Or.inl ⟨by rfl, ?_⟩) ?_ ?_
    rotate_left
    ·intro w'
     go_simp
     with_reducible rfl
    rotate_left
    ·simp only [Act.put, List.setIfInBounds_toArray, List.set_cons_zero, List.set_cons_succ, i64_w, i32_w]
     rfl
    refine pure_ (i := 18) (N := some 33) (v := ?_) (a' := ?_) q0b45 rfl rfl (any_of HT_.out (by kernel_rfl)) (fun _ _ _ h => h) (Or.inl ⟨by rfl, ?_⟩) ?_ ?_
    rotate_left
    ·intro w'
     go_simp
     with_reducible rfl
    rotate_left
    ·simp only [Act.put, List.setIfInBounds_toArray, List.set_cons_zero, List.set_cons_succ, i64_w, i32_w]
     rfl
    refine take_ (i := 17) (N := some 32) (v := ?_) (a' := ?_) q0b19 rfl rfl (take_ofW HT_.out HW_.out (by kernel_rfl)) (fun _ _ _ h => h) (Or.inl ⟨by rfl, ?_⟩) hHeld ?_ ?_
    rotate_left
    ·rintro w' ⟨s0, s1, s2, s3, s4, s5, s6⟩
     go_simp
     with_reducible rfl
    rotate_left
    ·simp only [Act.put, List.setIfInBounds_toArray, List.set_cons_zero, List.set_cons_succ, i64_w, i32_w]
     rfl
    refine take_ (i := 19) (N := some 34) (v := ?_) (a' := ?_) q0b20 rfl rfl (take_ofW HT_.out HW_.out (by kernel_rfl)) (fun _ _ _ h => h) (Or.inl ⟨by rfl, ?_⟩) hHeld ?_ ?_
    rotate_left
    ·rintro w' ⟨s0, s1, s2, s3, s4, s5, s6⟩
     go_simp
     with_reducible rfl
    rotate_left
    ·simp only [Act.put, List.setIfInBounds_toArray, List.set_cons_zero, List.set_cons_succ, i64_w, i32_w]
     rfl
    refine pure_ (i := 20) (N := some 35) (v := ?_) (a' := ?_) q0b21 rfl rfl (any_of HT_.out (by kernel_rfl)) (fun _ _ _ h => h) (Or.inl ⟨by rfl, ?_⟩) ?_ ?_
    rotate_left
    ·intro w'
     go_simp
     with_reducible rfl
    rotate_left
    ·simp only [Act.put, List.setIfInBounds_toArray, List.set_cons_zero, List.set_cons_succ, i64_w, i32_w]
     rfl
    refine pure_ (i := 21) (N := some 36) (v := ?_) (a' := ?_) q0b22 rfl rfl (any_of HT_.out (by kernel_rfl)) (fun _ _ _ h => h) (Or.inl ⟨by rfl, ?_⟩) ?_ ?_
    rotate_left
    ·intro w'
     go_simp
     with_reducible rfl
    rotate_left
    ·simp only [Act.put, List.setIfInBounds_toArray, List.set_cons_zero, List.set_cons_succ, i64_w, i32_w]
     rfl
    refine pure_ (i := 22) (N := some 37) (v := ?_) (a' := ?_) q0b23 rfl rfl (any_of HT_.out (by kernel_rfl)) (fun _ _ _ h => h) (Or.inl ⟨by rfl, ?_⟩) ?_ ?_
    rotate_left
    ·intro w'
     go_simp
     with_reducible rfl
    rotate_left
    ·simp only [Act.put, List.setIfInBounds_toArray, List.set_cons_zero, List.set_cons_succ, i64_w, i32_w]
     rfl
    refine pure_ (i := 23) (N := some 38) (v := ?_) (a' := ?_) q0b24 rfl rfl (any_of HT_.out (by kernel_rfl)) (fun _ _ _ h => h) (Or.inl ⟨by rfl, ?_⟩) ?_ ?_
    rotate_left
    ·intro w'
     go_simp
     with_reducible rfl
    rotate_left
    ·simp only [Act.put, List.setIfInBounds_toArray, List.set_cons_zero, List.set_cons_succ, i64_w, i32_w]
     rfl
    refine pure_ (i := 24) (N := some 39) (v := ?_) (a' := ?_) q0b25 rfl rfl (any_of HT_.out (by kernel_rfl)) (fun _ _ _ h => h) (Or.inl ⟨by rfl, ?_⟩) ?_ ?_
    rotate_left
    ·intro w'
     go_simp
     with_reducible rfl
    rotate_left
    ·simp only [Act.put, List.setIfInBounds_toArray, List.set_cons_zero, List.set_cons_succ, i64_w, i32_w]
     rfl
    refine take_ (i := 25) (N := some 40) (v := ?_) (a' := ?_) q0b26 rfl rfl (take_ofW HT_.out HW_.out (by kernel_rfl)) (fun _ _ _ h => h) (Or.inl ⟨by rfl, ?_⟩) hHeld ?_ ?_
    rotate_left
    ·rintro w' ⟨s0, s1, s2, s3, s4, s5, s6⟩
     go_simp
     with_reducible rfl
    rotate_left
    ·simp only [Act.put, List.setIfInBounds_toArray, List.set_cons_zero, List.set_cons_succ, i64_w, i32_w]
     rfl
    refine take_ (i := 26) (N := some 41) (v := ?_) (a' := ?_) q0b27 rfl rfl (take_ofW HT_.out HW_.out (by kernel_rfl)) (fun _ _ _ h => h) (Or.inl ⟨by rfl, ?_⟩) hHeld ?_ ?_
    rotate_left
    ·rintro w' ⟨s0, s1, s2, s3, s4, s5, s6⟩
     go_simp
     with_reducible rfl
    rotate_left
    ·simp only [Act.put, List.setIfInBounds_toArray, List.set_cons_zero, List.set_cons_succ, i64_w, i32_w]
     rfl
    refine pure_ (i := 27) (N := some 42) (v := ?_) (a' := ?_) q0b28 rfl rfl (any_of HT_.out (by kernel_rfl)) (fun _ _ _ h => h) (Or.inl ⟨by rfl, ?_⟩) ?_ ?_
    rotate_left
    ·intro w'
     go_simp
     with_reducible rfl
    rotate_left
    ·simp only [Act.put, List.setIfInBounds_toArray, List.set_cons_zero, List.set_cons_succ, i64_w, i32_w]
     rfl
    refine pure_ (i := 28) (N := some 43) (v := ?_) (a' := ?_) q0b29 rfl rfl (any_of HT_.out (by kernel_rfl)) (fun _ _ _ h => h) (Or.inl ⟨by rfl, ?_⟩) ?_ ?_
    rotate_left
    ·intro w'
     go_simp
     with_reducible rfl
    rotate_left
    ·simp only [Act.put, List.setIfInBounds_toArray, List.set_cons_zero, List.set_cons_succ, i64_w, i32_w]
     rfl
    refine pure_ (i := 29) (N := some 44) (v := ?_) (a' := ?_) q0b30 rfl rfl (any_of HT_.out (by kernel_rfl)) (fun _ _ _ h => h) (Or.inl ⟨by rfl, ?_⟩) ?_ ?_
    rotate_left
    ·intro w'
     go_simp
     with_reducible rfl
    rotate_left
    ·simp only [Act.put, List.setIfInBounds_toArray, List.set_cons_zero, List.set_cons_succ, i64_w, i32_w]
     rfl
    refine pure_ (i := 30) (N := some 45) (v := ?_) (a' := ?_) q0b31 rfl rfl (any_of HT_.out (by kernel_rfl)) (fun _ _ _ h => h) (Or.inl ⟨by rfl, ?_⟩) ?_ ?_
    rotate_left
    ·intro w'
     go_simp
     with_reducible rfl
    rotate_left
    ·simp only [Act.put, List.setIfInBounds_toArray, List.set_cons_zero, List.set_cons_succ, i64_w, i32_w]
     rfl
    refine pure_ (i := 31) (N := some 46) (v := ?_) (a' := ?_) q0b32 rfl rfl (any_of HT_.out (by kernel_rfl)) (fun _ _ _ h => h) (Or.inl ⟨by rfl, ?_⟩) ?_ ?_
    rotate_left
    ·intro w'
     go_simp
     with_reducible rfl
    rotate_left
    ·simp only [Act.put, List.setIfInBounds_toArray, List.set_cons_zero, List.set_cons_succ, i64_w, i32_w]
     rfl
    refine pure_ (i := 32) (N := some 47) (v := ?_) (a' := ?_) q0b33 rfl rfl (any_of HT_.out (by kernel_rfl)) (fun _ _ _ h => h) (Or.inl ⟨by rfl, ?_⟩) ?_ ?_
    rotate_left
    ·intro w'
     go_simp
     with_reducible rfl
    rotate_left
    ·simp only [Act.put, List.setIfInBounds_toArray, List.set_cons_zero, List.set_cons_succ, i64_w, i32_w]
     rfl
    refine pure_ (i := 34) (N := some 49) (v := ?_) (a' := ?_) q0b46 rfl rfl (any_of HT_.out (by kernel_rfl)) (fun _ _ _ h => h) (Or.inl ⟨by rfl, ?_⟩) ?_ ?_
    rotate_left
    ·intro w'
     go_simp
     with_reducible rfl
    rotate_left
    ·simp only [Act.put, List.setIfInBounds_toArray, List.set_cons_zero, List.set_cons_succ, i64_w, i32_w]
     rfl
    refine pure_ (i := 35) (N := some 50) (v := ?_) (a' := ?_) q0b47 rfl rfl (any_of HT_.out (by kernel_rfl)) (fun _ _ _ h => h) (Or.inl ⟨by rfl, ?_⟩) ?_ ?_
    rotate_left
    ·intro w'
     go_simp
     with_reducible rfl
    rotate_left
    ·simp only [Act.put, List.setIfInBounds_toArray, List.set_cons_zero, List.set_cons_succ, i64_w, i32_w]
     rfl
    refine pure_ (i := 39) (N := some 54) (v := ?_) (a' := ?_) q0b48 rfl rfl (any_of HT_.out (by kernel_rfl)) (fun _ _ _ h => h) (Or.inl ⟨by rfl, ?_⟩) ?_ ?_
    rotate_left
    ·intro w'
     go_simp
     with_reducible rfl
    rotate_left
    ·simp only [Act.put, List.setIfInBounds_toArray, List.set_cons_zero, List.set_cons_succ, i64_w, i32_w]
     rfl
    refine take_ (i := 33) (N := some 48) (v := ?_) (a' := ?_) q0b49 rfl rfl (take_ofW HT_.out HW_.out (by kernel_rfl)) (fun _ _ _ h => h) (Or.inl ⟨by rfl, ?_⟩) hHeld ?_ ?_
    rotate_left
    ·rintro w' ⟨s0, s1, s2, s3, s4, s5, s6⟩
     go_simp
     with_reducible rfl
    rotate_left
    ·simp only [Act.put, List.setIfInBounds_toArray, List.set_cons_zero, List.set_cons_succ, i64_w, i32_w]
     rfl
    refine pure_ (i := 36) (N := some 51) (v := ?_) (a' := ?_) q0b50 rfl rfl (any_of HT_.out (by kernel_rfl)) (fun _ _ _ h => h) (Or.inl ⟨by rfl, ?_⟩) ?_ ?_
    rotate_left
    ·intro w'
     go_simp
     with_reducible rfl
    rotate_left
    ·simp only [Act.put, List.setIfInBounds_toArray, List.set_cons_zero, List.set_cons_succ, i64_w, i32_w]
     rfl
    refine pure_ (i := 37) (N := some 52) (v := ?_) (a' := ?_) q0b51 rfl rfl (any_of HT_.out (by kernel_rfl)) (fun _ _ _ h => h) (Or.inl ⟨by rfl, ?_⟩) ?_ ?_
    rotate_left
    ·intro w'
     go_simp
     with_reducible rfl
    rotate_left
    ·simp only [Act.put, List.setIfInBounds_toArray, List.set_cons_zero, List.set_cons_succ, i64_w, i32_w]
     rfl
    refine take_ (i := 38) (N := some 53) (v := ?_) (a' := ?_) q0b40 rfl rfl (take_ofW HT_.out HW_.out (by kernel_rfl)) (fun _ _ _ h => h) (Or.inl ⟨by rfl, ?_⟩) hHeld ?_ ?_
    rotate_left
    ·rintro w' ⟨s0, s1, s2, s3, s4, s5, s6⟩
     go_simp
     with_reducible rfl
    rotate_left
    ·simp only [Act.put, List.setIfInBounds_toArray, List.set_cons_zero, List.set_cons_succ, i64_w, i32_w]
     rfl
    refine take_ (i := 40) (N := some 55) (v := ?_) (a' := ?_) q0b41 rfl rfl (take_ofW HT_.out HW_.out (by kernel_rfl)) (fun _ _ _ h => h) (Or.inl ⟨by rfl, ?_⟩) hHeld ?_ ?_
    rotate_left
    ·rintro w' ⟨s0, s1, s2, s3, s4, s5, s6⟩
     go_simp
     with_reducible rfl
    rotate_left
    ·simp only [Act.put, List.setIfInBounds_toArray, List.set_cons_zero, List.set_cons_succ, i64_w, i32_w]
     rfl
    refine pure_ (i := 41) (N := some 56) (v := ?_) (a' := ?_) q0b42 rfl rfl (any_of HT_.out (by kernel_rfl)) (fun _ _ _ h => h) (Or.inl ⟨by rfl, ?_⟩) ?_ ?_
    rotate_left
    ·intro w'
     go_simp
     with_reducible rfl
    rotate_left
    ·simp only [Act.put, List.setIfInBounds_toArray, List.set_cons_zero, List.set_cons_succ, i64_w, i32_w]
     rfl
    refine pure_ (i := 42) (N := some 57) (v := ?_) (a' := ?_) q0b43 rfl rfl (any_of HT_.out (by kernel_rfl)) (fun _ _ _ h => h) (Or.inl ⟨by rfl, ?_⟩) ?_ ?_
    rotate_left
    ·intro w'
     go_simp
     with_reducible rfl
    rotate_left
    ·simp only [Act.put, List.setIfInBounds_toArray, List.set_cons_zero, List.set_cons_succ, i64_w, i32_w]
     rfl
    refine pure_ (i := 43) (N := some 58) (v := ?_) (a' := ?_) q0b44 rfl rfl (any_of HT_.out (by kernel_rfl)) (fun _ _ _ h => h) (Or.inl ⟨by rfl, ?_⟩) ?_ ?_
    rotate_left
    ·intro w'
     go_simp
     with_reducible rfl
    rotate_left
    ·simp only [Act.put, List.setIfInBounds_toArray, List.set_cons_zero, List.set_cons_succ, i64_w, i32_w]
     rfl
    refine done_ (done_of HT_.out (by kernel_rfl)) ?_
    have HD := Aside0.mk (pw_below_drewN HB5.out nd)
    have ht := HTM.out rfl rfl
    have hl := timesOf_len fs i
    go_wp2_with (at_mapUpdate; refine wpList_mapUpdate_set _ rfl _ _ _ rfl (w.heap.size + 1) (timesOf fs i) tm rfl rfl rfl (SetI.below n2.out HD.out) ?_ ?_ ?_ ?_; omega; omega; omega; intro w7 hst7 hg7; have HS7 := Aside0.mk hst7; have HG7 := Aside0.mk hg7; clear hst7 hg7)
    go_roundg g'
    case rel =>
     refine ⟨i + 1, by go_num, by omega, by omega, ⟨?_⟩, ⟨?_⟩, ⟨?_⟩, ⟨?_⟩⟩
     ·rw [hall.out, HF.out]; simp
     ·exact (HG7.out.block w.heap.size (by have := HGS.out; have := blk_lt n1.out; have := HD.out.size; simp at this ⊢; omega) (by simp)).trans (blk_below n0.out HD.out)
     ·rw [HTF.out]; exact HS7.out
     ·exact grown_below (below_then n3.out n3.out.size HD.out) HG7.out (by omega)
    case measure => omega
   -- WAYS END
  ·obtain rfl : i = fs.length := by omega
   have q0 : wr.cell? ⟨w.heap.size, 0, none⟩ = some (.int .i64 clock) := (blk_cell hbk.out 0).trans rfl
   have q1 : wr.cell? ⟨w.heap.size, 1, none⟩ = some (.slice A fs.length c) := (blk_cell hbk.out 1).trans rfl
   have HB := Aside0.mk hB.out
   have HE := Aside0.mk (show diskOk clock fs = (decide (0 ≤ clock) && decide (clock ≤ 1048576) && decide (fs.length ≤ 64)) by rw [hall.out, List.drop_length]; rfl)
   clear hbk hst hB hall
   by_cases k1 : 0 ≤ clock
   ·have d1 : decide (0 ≤ clock) = true := decide_eq_true k1
    by_cases k2 : clock ≤ 1048576
    ·have d2 : decide (clock ≤ 1048576) = true := decide_eq_true k2
     go_wp2
     go_ret
     refine ⟨?_, HB.out⟩
     rw [HE.out, d1, d2]
     simp
     omega
    ·have d2 : decide (clock ≤ 1048576) = false := decide_eq_false k2
     go_wp2
     go_ret
     refine ⟨?_, HB.out⟩
     rw [HE.out, d1, d2]
     simp
   ·have d1 : decide (0 ≤ clock) = false := decide_eq_false k1
    go_wp2
    go_ret
    refine ⟨?_, HB.out⟩
    rw [HE.out, d1]
    simp
set_option maxHeartbeats 8000000 in
set_option maxRecDepth 100000 in
theorem disk_May.calls (a0_0 : Int) (A0_1 : Option Addr) (c0_1 : Nat) (l0_1 : List (S72)) (r : Bool) (w : World) (hr0_1 : Kd.C k72 w A0_1 l0_1.length l0_1) (hc0_1 : l0_1.length ≤ c0_1) (h : disk_May.f a0_0 l0_1 = some r) :
  Calls Tryd.prog 43 #[.agg #[.int .i64 a0_0, .slice A0_1 l0_1.length c0_1]] w fun e w' => e = .returned (.bool r) ∧ Below w.heap.size w w' := by
 unfold disk_May.f at h
 by_cases hc : a0_0 ≤ 9223372036854775807
 ·rw [if_pos hc] at h
  obtain rfl := Option.some.inj h
  clear h
  exact disk_May.walk a0_0 A0_1 c0_1 l0_1 w hr0_1 hc0_1 hc
 ·rw [if_neg hc] at h
  cases h


end Go.Proofs.YtnnjmelifmlghaaDoor.A
end

section
set_option linter.unusedVariables false
set_option linter.unusedSimpArgs false
namespace Go.Proofs.YtnnjmelifmlghaaDoor.A
open Go.RowKit Go.Proofs.YtnnjmelifmlghaaDoorW.PrintWords Go.Proofs.YtnnjmelifmlghaaDoorW.PrintLast Go.Proofs.YtnnjmelifmlghaaDoorW.PrintMore
attribute [local go_sem] max2_int min2_int max_two min_two max_three min_three max_four min_four   -- for this text's walks alone
set_option linter.unusedVariables false
set_option linter.unusedSimpArgs false

/-- A state of type 28 at block g of W; what its slices lead to came in by w0. -/
def IsS28 (w0 W : World) (g : Nat) (f0 : Int) (f1 : List (S72)) : Prop := ∃ A1 c1, W.heap[g]? = some (.cells #[.int .i64 f0, .slice A1 f1.length c1] 28 (0, 0)) ∧ w0.heap.size ≤ g ∧ Kd.C k72 w0 A1 f1.length f1
theorem IsS28.grown {w0 W : World} {g : Nat} {f0 : Int} {f1 : List (S72)} {W1 : World} {row : Option Nat} (h : IsS28 w0 W g f0 f1) (hw : W.grownBy W1 row) (hne : some g ≠ row) : IsS28 w0 W1 g f0 f1 := by
  obtain ⟨A1, c1, hb, hg, hr1⟩ := h
  exact ⟨A1, c1, blk_grown hb hw hne, hg, hr1⟩
theorem IsS28.own_neN {w0 W : World} {g : Nat} {f0 : Int} {f1 : List (S72)} {α : Type} {d : Kd α} {e : Nat} {base : Nat} {ok : Nat → Prop} {v : Value} {xs : List α} (h : IsS28 w0 W g f0 f1) (ho : Kd.N d e W base ok v xs) (ht : e ≠ 28) : some g ≠ v.ownBlock := by
  obtain ⟨A1, c1, hb, hg, hr1⟩ := h
  exact Kd.N_ne ho hb ht
theorem IsS28.fresh {w0 W : World} {g : Nat} {f0 : Int} {f1 : List (S72)} (h : IsS28 w0 W g f0 f1) : ∀ k, W.heap.size ≤ k → k ≠ g := by
  obtain ⟨A1, c1, hb, hg, hr1⟩ := h
  exact Kd.freshB hb
theorem IsS28.kept {w0 W : World} {g : Nat} {f0 : Int} {f1 : List (S72)} {W1 : World} {S : Nat → Prop} (h : IsS28 w0 W g f0 f1) (hk : Kept W W1 S) (hne : ¬ S g) : IsS28 w0 W1 g f0 f1 := by
  obtain ⟨A1, c1, hb, hg, hr1⟩ := h
  exact ⟨A1, c1, blk_kept hb hk hne, hg, hr1⟩
theorem IsS28.below {w0 W : World} {g : Nat} {f0 : Int} {f1 : List (S72)} {W1 : World} (h : IsS28 w0 W g f0 f1) (hw : Below W.heap.size W W1) : IsS28 w0 W1 g f0 f1 := h.grown (grown_of_below hw none) (by simp)
theorem IsS28.alloc {w0 W : World} {g : Nat} {f0 : Int} {f1 : List (S72)} (h : IsS28 w0 W g f0 f1) (o : Obj) : IsS28 w0 (W.alloc o) g f0 f1 := h.below (below_alloc (Below.refl _ _) o)
theorem IsS28.drewN {w0 W : World} {g : Nat} {f0 : Int} {f1 : List (S72)} (h : IsS28 w0 W g f0 f1) (m : Nat) : IsS28 w0 (W.drewN m) g f0 f1 := h
theorem IsS28.drew {w0 W : World} {g : Nat} {f0 : Int} {f1 : List (S72)} (h : IsS28 w0 W g f0 f1) : IsS28 w0 W.drew g f0 f1 := h
theorem IsS28.at_ {w0 W : World} {g : Nat} {f0 : Int} {f1 : List (S72)} {w' : World} {m : Nat} (hq : W.drewN m = w') (h : IsS28 w0 W g f0 f1) : IsS28 w0 w' g f0 f1 := by subst hq; exact IsS28.drewN h m
theorem IsS28.apart {w0 W : World} {g : Nat} {f0 : Int} {f1 : List (S72)} {α : Type} {d : Kd α} {e : Nat} {base : Nat} {ok : Nat → Prop} {v : Value} {xs : List α} (h : IsS28 w0 W g f0 f1) (ho : d.R e W base ok v xs) (ht : ∀ q, q ∈ e :: d.E → q ≠ 28) : d.R e W base (fun k => ok k ∧ k ≠ g) v xs := by
  obtain ⟨A1, c1, hb, hg, hr1⟩ := h
  exact Kd.R_types ho hb ht
theorem IsS28.own_ne {w0 W : World} {g : Nat} {f0 : Int} {f1 : List (S72)} {α : Type} {d : Kd α} {e : Nat} {base : Nat} {ok : Nat → Prop} {v : Value} {xs : List α} (h : IsS28 w0 W g f0 f1) (ho : d.R e W base ok v xs) (ht : e ≠ 28) : some g ≠ v.ownBlock := by
  obtain ⟨A1, c1, hb, hg, hr1⟩ := h
  exact Kd.R_ne ho hb ht
theorem IsS28.apartQ {w0 W : World} {g : Nat} {f0 : Int} {f1 : List (S72)} {α : Type} {d : Kd α} {e : Nat} {base : Nat} {ok : Nat → Prop} {v : Value} {xs : List α} (h : IsS28 w0 W g f0 f1) (ho : d.Q e W base ok v xs) (ht : ∀ q, q ∈ e :: d.E → q ≠ 28) : d.Q e W base (fun k => ok k ∧ k ≠ g) v xs := by
  obtain ⟨A1, c1, hb, hg, hr1⟩ := h
  exact Kd.Q_types ho hb ht
theorem IsS28.own_neQ {w0 W : World} {g : Nat} {f0 : Int} {f1 : List (S72)} {α : Type} {d : Kd α} {e : Nat} {base : Nat} {ok : Nat → Prop} {v : Value} {xs : List α} (h : IsS28 w0 W g f0 f1) (ho : d.Q e W base ok v xs) (ht : e ≠ 28) : some g ≠ v.ownBlock := by
  obtain ⟨A1, c1, hb, hg, hr1⟩ := h
  exact Kd.Q_ne ho hb ht
theorem IsS28.apartS {w0 W : World} {g : Nat} {f0 : Int} {f1 : List (S72)} {α : Type} {d : Kd α} {e : Nat} {base : Nat} {ok : Nat → Prop} {v : Value} {xs : List α} (h : IsS28 w0 W g f0 f1) (ho : d.S e W base ok v xs) (ht : ∀ q, q ∈ e :: d.E → q ≠ 28) : d.S e W base (fun k => ok k ∧ k ≠ g) v xs := by
  obtain ⟨A1, c1, hb, hg, hr1⟩ := h
  exact Kd.S_types ho hb ht
theorem IsS28.own_neS {w0 W : World} {g : Nat} {f0 : Int} {f1 : List (S72)} {α : Type} {d : Kd α} {e : Nat} {base : Nat} {ok : Nat → Prop} {v : Value} {xs : List α} (h : IsS28 w0 W g f0 f1) (ho : d.S e W base ok v xs) (ht : e ≠ 28) : some g ≠ v.ownBlock := by
  obtain ⟨A1, c1, hb, hg, hr1⟩ := h
  exact Kd.S_ne ho hb ht
theorem IsS28.lt {w0 W : World} {g : Nat} {f0 : Int} {f1 : List (S72)} (h : IsS28 w0 W g f0 f1) : g < W.heap.size := by
  obtain ⟨A1, c1, hb, hg, hr1⟩ := h
  exact blk_lt hb
theorem IsS28.ge {w0 W : World} {g : Nat} {f0 : Int} {f1 : List (S72)} (h : IsS28 w0 W g f0 f1) : w0.heap.size ≤ g := by
  obtain ⟨A1, c1, hb, hg, hr1⟩ := h
  exact hg
theorem IsS28.ne_blk {w0 W : World} {g : Nat} {f0 : Int} {f1 : List (S72)} {a : Nat} {cs : Array Value} {t : TypeId} {fr : Nat × Nat} (h : IsS28 w0 W g f0 f1) (hb2 : W.heap[a]? = some (.cells cs t fr)) (ht : t ≠ 28) : g ≠ a := by
  obtain ⟨A1, c1, hb, hg, hr1⟩ := h
  rintro rfl
  rw [hb] at hb2
  injection hb2 with hb2
  injection hb2 with _ ht2
  exact ht ht2.symm
theorem IsS28.far {w0 W : World} {g : Nat} {f0 : Int} {f1 : List (S72)} {p : Addr} (h : IsS28 w0 W g f0 f1) (hne : g ≠ p.block) (u : Value) : IsS28 w0 (W.setCell p u) g f0 f1 := by
  obtain ⟨A1, c1, hb, hg, hr1⟩ := h
  exact ⟨A1, c1, blk_far hb hne u, hg, hr1⟩
theorem cellS28_0 {W : World} {g : Nat} {A1 : Option Addr} {c1 : Nat} {f0 : Int} {f1 : List (S72)} (h : W.heap[g]? = some (.cells #[.int .i64 f0, .slice A1 f1.length c1] 28 (0, 0))) : W.cell? ⟨g, 0, none⟩ = some (.int .i64 f0) := (blk_cell h 0).trans rfl
theorem IsS28.set_0 {w0 W : World} {g : Nat} {f0 : Int} {f1 : List (S72)} (h : IsS28 w0 W g f0 f1) (x : Int) : IsS28 w0 (W.setCell ⟨g, 0, none⟩ (.int .i64 x)) g x f1 := by
  obtain ⟨A1, c1, hb, hg, hr1⟩ := h
  exact ⟨A1, c1, by simpa using blk_set hb 0 (.int .i64 x), hg, hr1⟩
theorem cellS28_1 {W : World} {g : Nat} {A1 : Option Addr} {c1 : Nat} {f0 : Int} {f1 : List (S72)} (h : W.heap[g]? = some (.cells #[.int .i64 f0, .slice A1 f1.length c1] 28 (0, 0))) : W.cell? ⟨g, 1, none⟩ = some (.slice A1 f1.length c1) := (blk_cell h 1).trans rfl
theorem IsS28.new (w0 W : World) (A1 : Option Addr) (c1 : Nat) (f0 : Int) (f1 : List (S72)) (hB : Below w0.heap.size w0 W) (hr1 : Kd.C k72 w0 A1 f1.length f1) : IsS28 w0 (W.alloc (.cells #[.int .i64 f0, .slice A1 f1.length c1] 28)) W.heap.size f0 f1 := ⟨A1, c1, by simpa using heap_alloc_new W _, hB.size, hr1⟩

/-! ### disk_place: function 62 -/
theorem cmp_isNaN.calls (x : ByteArray) (w : World) : Calls Tryd.prog 91 #[.string x] w fun e w' => e = .returned (.bool false) ∧ w = w' := by
  go_enter Tryd.func91, Tryd.ntmps91
  go_wp2
  go_ret
  exact ⟨by simp, rfl⟩
def cmpS (x y : ByteArray) : Int := if Op.bytesLess x.toList y.toList = true then -1 else if (x.toList == y.toList) = true then 0 else 1
theorem cmp_Compare.calls (x y : ByteArray) (w : World) : Calls Tryd.prog 78 #[.string x, .string y] w fun e w' => e = .returned (.int .i64 (cmpS x y)) ∧ w = w' := by
  unfold cmpS
  cases h1 : Op.bytesLess x.toList y.toList with
  | true =>
    rw [if_pos rfl]
    go_enter Tryd.func78, Tryd.ntmps78
    go_wp2_with (go_at_call 91; refine (cmp_isNaN.calls _ _).mono ?_; rintro e w' ⟨rfl, rfl⟩)
    go_ret
    exact ⟨rfl, rfl⟩
  | false =>
    rw [if_neg (by simp)]
    cases h2 : x.toList == y.toList with
    | true =>
      rw [if_pos rfl]
      go_enter Tryd.func78, Tryd.ntmps78
      go_wp2_with (go_at_call 91; refine (cmp_isNaN.calls _ _).mono ?_; rintro e w' ⟨rfl, rfl⟩)
      go_ret
      exact ⟨rfl, rfl⟩
    | false =>
      rw [if_neg (by simp)]
      go_enter Tryd.func78, Tryd.ntmps78
      go_wp2_with (go_at_call 91; refine (cmp_isNaN.calls _ _).mono ?_; rintro e w' ⟨rfl, rfl⟩)
      go_ret
      exact ⟨rfl, rfl⟩
theorem place_cmp.calls (n : ByteArray) (ct tm : Int) (s : ByteArray) (w : World) : Calls Tryd.prog 77 #[.agg #[.string n, .int .i64 ct, .int .i64 tm], .string s] w fun e w' => e = .returned (.int .i64 (cmpS n s)) ∧ Below w.heap.size w w' := by
  have HC := fun W => cmp_Compare.calls n s W
  obtain ⟨r, hr⟩ : ∃ r, cmpS n s = r := ⟨_, rfl⟩
  rw [hr] at HC ⊢
  have H := Aside0.mk HC
  clear HC hr
  go_enter Tryd.func77, Tryd.ntmps77
  go_wp2_with (go_at_call 78; refine (H.out _).mono ?_; rintro e w' ⟨rfl, rfl⟩)
  go_ret
  exact ⟨rfl, below_alloc (Below.refl _ _) _⟩
theorem place_cmp.enters : ∀ args w, (callFunc 77 args).run Tryd.prog w = .ok (.enter 77 args) w :=
  enters_of Tryd.func77 (by kernel_rfl) rfl
/-- Where a binary search comes to. -/
def bsI (p : Nat → Bool) : Nat → Nat → Nat → Nat
  | 0, i, _ => i
  | f + 1, i, j => if i < j then (if p ((i + j) / 2) then bsI p f ((i + j) / 2 + 1) j else bsI p f i ((i + j) / 2)) else i
theorem bsI_more (p : Nat → Bool) : ∀ f f' i j, j - i ≤ f → j - i ≤ f' → bsI p f i j = bsI p f' i j
  | 0, 0, i, j, _, _ => rfl
  | 0, f' + 1, i, j, h, _ => by rw [bsI, bsI, if_neg (by omega)]
  | f + 1, 0, i, j, _, h => by rw [bsI, bsI, if_neg (by omega)]
  | f + 1, f' + 1, i, j, h, h' => by
    rw [bsI, bsI]
    by_cases hij : i < j
    · rw [if_pos hij, if_pos hij]
      by_cases hp : p ((i + j) / 2) = true
      · rw [if_pos hp, if_pos hp]; exact bsI_more p f f' _ _ (by omega) (by omega)
      · rw [if_neg hp, if_neg hp]; exact bsI_more p f f' _ _ (by omega) (by omega)
    · rw [if_neg hij, if_neg hij]
def placeP (fs : List S72) (s : ByteArray) (k : Nat) : Bool := decide (cmpS (fs.getD k z72).f0 s < 0)
def placeI (fs : List S72) (s : ByteArray) : Nat := bsI (placeP fs s) fs.length 0 fs.length
def placeB (fs : List S72) (s : ByteArray) : Bool := decide (placeI fs s < fs.length) && decide (cmpS (fs.getD (placeI fs s) z72).f0 s = 0)
set_option maxHeartbeats 4000000 in
theorem place_search.calls (A : Option Addr) (c : Nat) (fs : List S72) (s : ByteArray) (w : World) (hr : Kd.C k72 w A fs.length fs) (hm : fs.length ≤ 4611686018427387903) :
    Calls Tryd.prog 76 #[.slice A fs.length c, .string s, .func (.func 77) #[] #[]] w fun e w' => e = .returned (.tuple #[.int .i64 (placeI fs s), .bool (placeB fs s)]) ∧ Below w.heap.size w w' := by
  have HR := Aside0.mk hr
  have eg := place_cmp.enters
  clear hr
  go_enter Tryd.func76, Tryd.ntmps76
  go_wp2
  go_loopg [9, 10] fs.length (fun gf s9 s10 wx => ∃ i j : Nat, s9 = .int .i64 i ∧ s10 = .int .i64 j ∧ i ≤ j ∧ j ≤ fs.length ∧ j - i ≤ gf ∧ Aside0 (placeI fs s = bsI (placeP fs s) (j - i) i j) ∧ Aside0 (Below w.heap.size w wx))
  case atStart => exact ⟨0, fs.length, rfl, rfl, Nat.zero_le _, Nat.le_refl _, by omega, ⟨rfl⟩, ⟨Below.refl _ _⟩⟩
  case round =>
    obtain ⟨i, j, rfl, rfl, hij, hj, hg, HI, HB⟩ := hrel
    by_cases hlt : i < j
    · obtain ⟨ad, e1, hx0, hx1, hx2⟩ := at_T72 (Kd.C_below HR.out HB.out) (((i + j) / 2 : Nat) : Int) (by omega) (by omega)
      cases e1
      rw [show Int.toNat (((i + j) / 2 : Nat) : Int) = (i + j) / 2 from rfl] at hx0 hx1 hx2
      obtain ⟨f, hf⟩ : ∃ f, rd_T72 fs (((i + j) / 2 : Nat) : Int) = f := ⟨_, rfl⟩
      rw [hf] at hx0 hx1 hx2
      have HF := Aside0.mk hf
      clear hf
      have hp : placeP fs s ((i + j) / 2) = decide (cmpS f.f0 s < 0) := by
        unfold placeP
        rw [show fs.getD ((i + j) / 2) z72 = rd_T72 fs (((i + j) / 2 : Nat) : Int) from rfl, HF.out]
      have HI2 : Aside0 (placeI fs s = if decide (cmpS f.f0 s < 0) = true then bsI (placeP fs s) (j - ((i + j) / 2 + 1)) ((i + j) / 2 + 1) j else bsI (placeP fs s) ((i + j) / 2 - i) i ((i + j) / 2)) := by
        constructor
        rw [HI.out, bsI_more _ (j - i) (j - i - 1 + 1) i j (Nat.le_refl _) (by omega), bsI, if_pos hlt, hp]
        by_cases hq : decide (cmpS f.f0 s < 0) = true
        · rw [if_pos hq, if_pos hq]; exact bsI_more _ _ _ _ _ (by omega) (by omega)
        · rw [if_neg hq, if_neg hq]; exact bsI_more _ _ _ _ _ (by omega) (by omega)
      obtain ⟨r, hrr⟩ : ∃ r, cmpS f.f0 s = r := ⟨_, rfl⟩
      have HCM := Aside0.mk (fun W => place_cmp.calls f.f0 f.f1 f.f2 s W)
      rw [hrr] at HCM HI2
      clear hp HI hrr
      have hq0 : (i : Int) < (j : Int) := by omega
      have hq1 : (0 : Int) ≤ ((i : Int) + (j : Int)) / 2 := by omega
      have hq2 : ((i : Int) + (j : Int)) / 2 < (fs.length : Int) := by omega
      have hq3 : Int.toNat (((i : Int) + (j : Int)) / 2) = (i + j) / 2 := by omega
      by_cases hr0 : r < 0
      · have d0 : decide (r < 0) = true := decide_eq_true hr0
        rw [if_pos d0] at HI2
        go_wp2_with (go_at_fn 77; refine (HCM.out _).mono ?_; rintro e w' ⟨rfl, hb2⟩)
        go_roundg (j - ((i + j) / 2 + 1))
        case rel => exact ⟨(i + j) / 2 + 1, j, by rw [show ((i : Int) + (j : Int)) / 2 + 1 = (((i + j) / 2 + 1 : Nat) : Int) by omega], rfl, by omega, hj, Nat.le_refl _, HI2, ⟨below_step HB.out hb2⟩⟩
        case measure => omega
      · have d0 : decide (r < 0) = false := decide_eq_false hr0
        rw [if_neg (by rw [d0]; simp)] at HI2
        go_wp2_with (go_at_fn 77; refine (HCM.out _).mono ?_; rintro e w' ⟨rfl, hb2⟩)
        go_roundg ((i + j) / 2 - i)
        case rel => exact ⟨i, (i + j) / 2, rfl, by rw [show ((i : Int) + (j : Int)) / 2 = (((i + j) / 2 : Nat) : Int) by omega], by omega, by omega, Nat.le_refl _, HI2, ⟨below_step HB.out hb2⟩⟩
        case measure => omega
    · obtain rfl : i = j := by omega
      have HE : Aside0 (placeI fs s = i) := ⟨by rw [HI.out, Nat.sub_self]; rfl⟩
      clear HI
      by_cases hin : i < fs.length
      · obtain ⟨ad, e1, hx0, hx1, hx2⟩ := at_T72 (Kd.C_below HR.out HB.out) (i : Int) (by omega) (by omega)
        cases e1
        rw [show Int.toNat (i : Int) = i from rfl] at hx0 hx1 hx2
        obtain ⟨f, hf⟩ : ∃ f, rd_T72 fs (i : Int) = f := ⟨_, rfl⟩
        rw [hf] at hx0 hx1 hx2
        have HF := Aside0.mk hf
        have HPB : Aside0 (placeB fs s = decide (cmpS f.f0 s = 0)) := by
          constructor
          unfold placeB
          rw [HE.out, decide_eq_true hin, Bool.true_and, show fs.getD i z72 = rd_T72 fs (i : Int) from rfl, hf]
        clear hf
        obtain ⟨r, hrr⟩ : ∃ r, cmpS f.f0 s = r := ⟨_, rfl⟩
        have HCM := Aside0.mk (fun W => place_cmp.calls f.f0 f.f1 f.f2 s W)
        rw [hrr] at HCM HPB
        clear hrr
        have hq0 : (i : Int) < (fs.length : Int) := by omega
        go_wp2_with (go_at_fn 77; refine (HCM.out _).mono ?_; rintro e w' ⟨rfl, hb2⟩)
        go_ret2
        refine ⟨?_, below_step HB.out hb2⟩
        rw [HE.out, HPB.out]
        first | rfl | (simp; done) | (congr 3; rw [Bool.eq_iff_iff]; simp)
      · have hin' : decide ((i : Int) < (fs.length : Int)) = false := decide_eq_false (by omega)
        have HPB : Aside0 (placeB fs s = false) := by
          constructor
          unfold placeB
          rw [HE.out, decide_eq_false hin, Bool.false_and]
        go_wp2
        go_ret2
        refine ⟨?_, HB.out⟩
        rw [HE.out, HPB.out]
        rfl
theorem disk_place.calls (g : Nat) (clock : Int) (A : Option Addr) (c : Nat) (fs : List S72) (s : ByteArray) (w : World) (hb : w.heap[g]? = some (.cells #[.int .i64 clock, .slice A fs.length c] 28 (0, 0))) (hr : Kd.C k72 w A fs.length fs) (hm : fs.length ≤ 4611686018427387903) :
    Calls Tryd.prog 62 #[.pointer (some ⟨g, 0, none⟩), .string s] w fun e w' => e = .returned (.tuple #[.int .i64 (placeI fs s), .bool (placeB fs s)]) ∧ Below w.heap.size w w' := by
  have HS := Aside0.mk (place_search.calls A c fs s w hr hm)
  have q0 : w.cell? ⟨g, 0, none⟩ = some (.int .i64 clock) := (blk_cell hb 0).trans rfl
  have q1 : w.cell? ⟨g, 1, none⟩ = some (.slice A fs.length c) := (blk_cell hb 1).trans rfl
  obtain ⟨i, hi⟩ : ∃ i, placeI fs s = i := ⟨_, rfl⟩
  obtain ⟨b, hb'⟩ : ∃ b, placeB fs s = b := ⟨_, rfl⟩
  rw [hi, hb'] at HS ⊢
  clear hi hb' hb hr hm
  go_enter Tryd.func62, Tryd.ntmps62
  go_wp2_with (go_at_call 76; refine HS.out.mono ?_; rintro e w' ⟨rfl, hb2⟩)
  go_ret2
  exact ⟨rfl, hb2⟩


end Go.Proofs.YtnnjmelifmlghaaDoor.A
end

section
set_option linter.unusedVariables false
set_option linter.unusedSimpArgs false
namespace Go.Proofs.YtnnjmelifmlghaaDoor.A
open Go.RowKit Go.Proofs.YtnnjmelifmlghaaDoorW.PrintWords Go.Proofs.YtnnjmelifmlghaaDoorW.PrintLast Go.Proofs.YtnnjmelifmlghaaDoorW.PrintMore
attribute [local go_sem] max2_int min2_int max_two min_two max_three min_three max_four min_four   -- for this text's walks alone
set_option linter.unusedVariables false
set_option linter.unusedSimpArgs false

/-! ### api_File: function 64 -/
theorem file_info : (Tryd.prog.info? 72).map (fun i => (i.zero, i.size, i.bytes)) = some (some (.agg #[(.string ⟨#[]⟩), (.int .i64 0), (.int .i64 0)]), 3, 32) := by kernel_rfl
def encF (f : S72) : List Value := [.string f.f0, .int .i64 f.f1, .int .i64 f.f2]
def encFs (fs : List S72) : List Value := fs.flatMap encF
theorem encFs_cons (f : S72) (fs : List S72) : encFs (f :: fs) = encF f ++ encFs fs := rfl
theorem encFs_app (a b : List S72) : encFs (a ++ b) = encFs a ++ encFs b := by simp [encFs]
theorem encFs_len (fs : List S72) : (encFs fs).length = fs.length * 3 := by
  induction fs with
  | nil => rfl
  | cons f l ih => rw [encFs_cons, List.length_append, ih, List.length_cons]; simp [encF]; omega
theorem encFs_take (fs : List S72) (i : Nat) (h : i ≤ fs.length) : (encFs fs).take (i * 3) = encFs (fs.take i) := by
  have e : encFs fs = encFs (fs.take i) ++ encFs (fs.drop i) := by rw [← encFs_app, List.take_append_drop]
  rw [e, List.take_left']
  rw [encFs_len, List.length_take, Nat.min_eq_left h]
theorem encFs_drop (fs : List S72) (i : Nat) (h : i ≤ fs.length) : (encFs fs).drop (i * 3) = encFs (fs.drop i) := by
  have e : encFs fs = encFs (fs.take i) ++ encFs (fs.drop i) := by rw [← encFs_app, List.take_append_drop]
  rw [e, List.drop_left']
  rw [encFs_len, List.length_take, Nat.min_eq_left h]
theorem encFs_one (fs : List S72) : ∀ v ∈ encFs fs, v.oneCell' = true := by
  intro v hv
  unfold encFs encF at hv
  obtain ⟨f, _, hf⟩ := List.mem_flatMap.mp hv
  simp at hf
  rcases hf with rfl | rfl | rfl <;> rfl
theorem reps_encFs {w : World} {base : Nat} {ok : Nat → Prop} : ∀ (fs : List S72) (cs : List Value), Reps (k72.M w base ok) 3 fs cs → cs = encFs fs
  | [], cs, h => by have := h.1; simp at this; rw [this]; rfl
  | f :: fs, cs, h => by
    obtain ⟨h1, h2⟩ := h
    have h0 := k72_openM (h2 0 f rfl)
    rw [Nat.zero_mul, List.drop_zero] at h0
    have hr : cs.drop 3 = encFs fs := by
      refine reps_encFs (w := w) (base := base) (ok := ok) fs (cs.drop 3) ⟨by rw [List.length_drop, h1, List.length_cons]; omega, fun j p hj => ?_⟩
      have := h2 (j + 1) p (by simpa using hj)
      rw [List.drop_drop, show 3 + j * 3 = (j + 1) * 3 by omega]
      exact this
    have e : cs = cs.take 3 ++ cs.drop 3 := (List.take_append_drop 3 cs).symm
    rw [e, h0, hr]
    rfl
theorem reps_of_encFs {w : World} {base : Nat} {ok : Nat → Prop} (fs : List S72) : Reps (k72.M w base ok) 3 fs (encFs fs) := by
  refine ⟨encFs_len fs, fun j p hj => ?_⟩
  obtain ⟨hl, he⟩ := List.getElem?_eq_some_iff.mp hj
  rw [encFs_drop fs j (by omega), List.drop_eq_getElem_cons hl, he, encFs_cons]
  exact k72_mkM w base ok p
theorem own_of_R72 {w : World} {base : Nat} {ok : Nat → Prop} {v : Value} {fs : List S72} (h : Kd.R k72 72 w base ok v fs) : w.ownsRow base 72 3 v fs.length (encFs fs) := by
  obtain ⟨_, inner, ho, hr⟩ := h
  rw [← reps_encFs fs inner hr]
  exact ho
theorem R72_of_own {w : World} {base : Nat} {ok : Nat → Prop} {v : Value} {fs : List S72} (h : w.ownsRow base 72 3 v fs.length (encFs fs)) (hok : ∀ k, v.ownBlock = some k → ok k) : Kd.R k72 72 w base ok v fs :=
  ⟨hok, encFs fs, h, reps_of_encFs fs⟩
open Go.Proofs.YtnnjmelifmlghaaDoorW.Hand2 in
set_option maxHeartbeats 4000000 in
set_option maxRecDepth 100000 in
theorem file_Insert.room (g n c i vb base : Nat) (fs : List S72) (f : S72) (w : World) (ho : w.ownsRow base 72 3 (.slice (some ⟨g, 0, none⟩) n c) n (encFs fs)) (hn : fs.length = n) (hi : i < n) (hroom : n + 1 ≤ c) (hv : w.heap[vb]? = some (.cells #[.string f.f0, .int .i64 f.f1, .int .i64 f.f2] 72 (0, 0))) (hne : vb ≠ g) :
    Calls Tryd.prog 64 #[.slice (some ⟨g, 0, none⟩) n c, .int .i64 i, .slice (some ⟨vb, 0, none⟩) 1 1] w fun e w' => e = .returned (.slice (some ⟨g, 0, none⟩) (n + 1) c) ∧ w'.ownsRow base 72 3 (.slice (some ⟨g, 0, none⟩) (n + 1) c) (n + 1) (encFs (fs.take i ++ f :: fs.drop i)) ∧ w.grownBy w' (some g) := by
  obtain ⟨cur, hb, hh, hnc, hcm, hcz, htk, hxl⟩ := ownsRow_open ho
  unfold maxLen at hcm
  have hsz : (Tryd.prog.info? 72).map (·.size) = some 3 := by kernel_rfl
  have hz2 : ¬ ((i : Int) = (n : Int)) := by omega
  have hz3 : ¬ ((c : Int) < (n : Int) + 1) := by omega
  have hc1 : ¬ (c = i) := by omega
  have hc2 : ¬ (c = i + 1) := by omega
  have hi1 : (i : Int) < (n : Int) := by omega
  have HO := Aside0.mk ho
  have hov : ∀ lb cb, (callFunc 80 #[.slice (some ⟨vb, 0, none⟩) 1 1, .slice (some ⟨g, (i + 1) * 3, none⟩) lb cb]).run Tryd.prog w = .ok (.value (.bool false)) w := fun lb cb => by
    rw [run_callFunc_extern Tryd.func80 (by kernel_rfl) (by kernel_rfl) (by kernel_rfl) (e := Extern.SlicesOverlaps.overlaps #[26, 26] #[4]) (by kernel_rfl),
      Lib.run_overlaps_apart w 26 4 72 Tryd.underlying26 3 (fun w => by kernel_rfl) ⟨vb, 0, none⟩ ⟨g, (i + 1) * 3, none⟩ 1 1 lb cb hne 72 72 3 cur.size (by simp [World.shape?, hv]) (by simp [World.shape?, hh]) (by omega) (by simp [World.frozen?, hv]) (by simp [World.frozen?, hv])]
    rfl
  have hel : (encFs fs).length = n * 3 := by rw [encFs_len, hn]
  obtain ⟨Y, hY⟩ : ∃ Y, (encFs fs).drop (i * 3) = Y := ⟨_, rfl⟩
  have hYl : Y.length = (n - i) * 3 := by rw [← hY, List.length_drop, hel]; omega
  have hYe : Y = encFs (fs.drop i) := by rw [← hY, encFs_drop fs i (by omega)]
  have hsplit : cur.toList = encFs fs ++ cur.toList.drop (n * 3) := by rw [← htk, List.take_append_drop]
  have hcl : cur.toList.length = c * 3 := by rw [Array.length_toList]; exact hcz
  obtain ⟨R1, hR1⟩ : ∃ R1 : Array Value, R1 = (cur.toList.take ((i + 1) * 3) ++ Y ++ cur.toList.drop ((i + 1) * 3 + Y.length)).toArray := ⟨_, rfl⟩
  have hR1l : R1.size = c * 3 := by rw [hR1]; simp; omega
  have hcp1 : ∀ ty dc sc, (Builtin.copy_ #[26, 26] ty #[.slice (some ⟨g, (i + 1) * 3, none⟩) (n - i) dc, .slice (some ⟨g, i * 3, none⟩) (n + 1 - i) sc]).run Tryd.prog w.drew = .ok (goInt (Nat.min (n + 1 - i) (n - i))) (w.drew.setRow g R1) := fun ty dc sc => by
    have h := run_copy_rowN (P := Tryd.prog) w.drew 26 26 ty 72 3 g ((i + 1) * 3) (n - i) dc ⟨g, i * 3, none⟩ (n + 1 - i) sc cur 72 Y Tryd.underlying26 hsz hh (by rw [hYl]; congr 1; simp only [Nat.min_def]; split <;> omega) (fun j v hj => ?_) (by omega) (fun v hv => encFs_one fs v (List.mem_of_mem_drop (hY ▸ hv)))
    · rw [← hR1] at h
      exact h
    · have e : ((⟨g, i * 3, none⟩ : Addr).add j) = ⟨g, i * 3 + j, none⟩ := by rw [Addr.add_lit]
      rw [e]
      show w.cell? _ = _
      rw [blk_cell hh, ← Array.getElem?_toList, hsplit, List.getElem?_append_left (by have := (List.getElem?_eq_some_iff.mp hj).1; omega)]
      rw [← hY, List.getElem?_drop] at hj
      exact hj
  obtain ⟨W1, hW1⟩ : ∃ W1, W1 = w.drew.setRow g R1 := ⟨_, rfl⟩
  have hh1 : W1.heap[g]? = some (.cells R1 72 (0, 0)) := by rw [hW1]; exact setRow_heap _ g _ _ _ _ hh
  have hv1 : W1.heap[vb]? = some (.cells #[.string f.f0, .int .i64 f.f1, .int .i64 f.f2] 72 (0, 0)) := by rw [hW1, setRow_other _ _ _ _ hne]; exact hv
  obtain ⟨R2, hR2⟩ : ∃ R2 : Array Value, R2 = (R1.toList.take (i * 3) ++ encF f ++ R1.toList.drop (i * 3 + (encF f).length)).toArray := ⟨_, rfl⟩
  have hcp2 : ∀ ty dc, (Builtin.copy_ #[26, 26] ty #[.slice (some ⟨g, i * 3, none⟩) (n + 1 - i) dc, .slice (some ⟨vb, 0, none⟩) 1 1]).run Tryd.prog W1 = .ok (goInt (Nat.min 1 (n + 1 - i))) (W1.setRow g R2) := fun ty dc => by
    have h := run_copy_rowN (P := Tryd.prog) W1 26 26 ty 72 3 g (i * 3) (n + 1 - i) dc ⟨vb, 0, none⟩ 1 1 R1 72 (encF f) Tryd.underlying26 hsz hh1 (by simp only [Nat.min_def]; split <;> simp [encF]; omega) (fun j v hj => ?_) (by rw [hR1l]; simp [encF]; omega) (fun v hv => by simp [encF] at hv; rcases hv with rfl | rfl | rfl <;> rfl)
    · rw [← hR2] at h
      exact h
    · have e : ((⟨vb, 0, none⟩ : Addr).add j) = ⟨vb, 0 + j, none⟩ := by rw [Addr.add_lit]
      rw [e, Nat.zero_add, blk_cell hv1, ← Array.getElem?_toList]
      exact hj
  have hfin : R2.toList.take ((n + 1) * 3) = encFs (fs.take i ++ f :: fs.drop i) := by
    have hE : (encF f).length = 3 := rfl
    have h1 := ins_row cur.toList Y (encF f) (i * 3) (by rw [hE, hYl, hcl]; omega)
    rw [hE] at h1
    rw [hR2, hE]
    show ((R1.toList.take (i * 3) ++ encF f ++ R1.toList.drop (i * 3 + 3)).toArray).toList.take _ = _
    rw [hR1, show (i + 1) * 3 = i * 3 + 3 by omega]
    simp only [List.toList_toArray]
    rw [h1, List.take_append_of_le_length (by simp [hE, hYl, hcl]; omega), List.take_of_length_le (by simp [hE, hYl, hcl]; omega), hsplit, List.take_append_of_le_length (by omega), encFs_take fs i (by omega), hYe, encFs_app, encFs_cons, List.append_assoc]
  have hR2l : R2.size = c * 3 := by rw [hR2]; simp [encF]; omega
  have HF : Aside0 ((W1.setRow g R2).ownsRow base 72 3 (.slice (some ⟨g, 0, none⟩) (n + 1) c) (n + 1) (encFs (fs.take i ++ f :: fs.drop i)) ∧ w.grownBy (W1.setRow g R2) (some g)) := by
    constructor
    obtain ⟨o1, g1⟩ := ownsRow_setRow (w := w.drew) ho R1 hR1l (m := n) (ys := R1.toList.take (n * 3)) hnc rfl (by rw [List.length_take, Array.length_toList, hR1l]; omega)
    rw [← hW1] at o1 g1
    obtain ⟨o2, g2⟩ := ownsRow_setRow o1 R2 hR2l (m := n + 1) hroom hfin (by rw [encFs_len]; simp; omega)
    exact ⟨o2, ⟨g2.os.trans g1.os, g2.tape.trans g1.tape, g2.output.trans g1.output, Nat.le_trans g1.size g2.size, fun k hk hr => (g2.block k (Nat.lt_of_lt_of_le hk g1.size) hr).trans (g1.block k hk hr)⟩⟩
  subst hW1
  clear hh hv ho htk hxl hcz hel hY hYl hYe hsplit hcl hR1 hR1l hh1 hv1 hR2 hfin hR2l HO hb
  go_enter Tryd.func64, Tryd.ntmps64
  go_wp2_with (simp only [hov])
  have hw1 : IntKind.i64.wrap ((i : Int) + 1) = (i : Int) + 1 := by rw [IntKind.wrap_i64]; omega
  have hb1 : (0 : Int) ≤ (i : Int) + 1 := by omega
  have htn : ((i : Int) + 1).toNat = i + 1 := by omega
  have hb3 : (i : Int) ≤ (n : Int) + 1 := by omega
  have hb5 : (i : Int) ≤ (n : Int) := by omega
  have hb6 : i ≤ n := by omega
  have hb7 : i ≤ n + 1 := by omega

  go_region_law (refine step_copy_run rfl _ _ 26 26 rfl _ _ (by simp [Act.eval, Act.put]) (by simp [Act.eval, Act.put]) (hcp1 _ _ _) ?_)
  go_wp2
  go_ret
  exact ⟨rfl, HF.out⟩
open Go.Proofs.YtnnjmelifmlghaaDoorW.Hand2 in
set_option maxHeartbeats 4000000 in
set_option maxRecDepth 100000 in
theorem file_Insert.grow (g n c i vb base : Nat) (fs : List S72) (f : S72) (w : World) (ho : w.ownsRow base 72 3 (.slice (some ⟨g, 0, none⟩) n c) n (encFs fs)) (hn : fs.length = n) (hi : i < n) (hroom : c < n + 1) (hbig : (n + 1) * 32 ≤ 140737488355328) (hbase : base ≤ w.heap.size) (hv : w.heap[vb]? = some (.cells #[.string f.f0, .int .i64 f.f1, .int .i64 f.f2] 72 (0, 0))) (hne : vb ≠ g) :
    Calls Tryd.prog 64 #[.slice (some ⟨g, 0, none⟩) n c, .int .i64 i, .slice (some ⟨vb, 0, none⟩) 1 1] w fun e w' => ∃ g' c', e = .returned (.slice (some ⟨g', 0, none⟩) (n + 1) c') ∧ w.heap.size ≤ g' ∧ w'.ownsRow base 72 3 (.slice (some ⟨g', 0, none⟩) (n + 1) c') (n + 1) (encFs (fs.take i ++ f :: fs.drop i)) ∧ w.grownBy w' none := by
  obtain ⟨cur, hb, hh, hnc, hcm, hcz, htk, hxl⟩ := ownsRow_open ho
  unfold maxLen at hcm
  have hgw : g < w.heap.size := blk_lt hh
  have hvw : vb < w.heap.size := blk_lt hv
  have hsz : (Tryd.prog.info? 72).map (·.size) = some 3 := by kernel_rfl
  obtain ⟨i0, hi0, hz0, hzs, hzb⟩ := info_parts file_info
  have hz2 : ¬ ((i : Int) = (n : Int)) := by omega
  have hz3 : (c : Int) < (n : Int) + 1 := by omega
  have hc1 : ¬ (c = i) := by omega
  have hi1 : (i : Int) < (n : Int) := by omega
  have hel : (encFs fs).length = n * 3 := by rw [encFs_len, hn]
  obtain ⟨X, hX⟩ : ∃ X, (encFs fs).take (i * 3) = X := ⟨_, rfl⟩
  obtain ⟨Y, hY⟩ : ∃ Y, (encFs fs).drop (i * 3) = Y := ⟨_, rfl⟩
  have hXl : X.length = i * 3 := by rw [← hX, List.length_take, hel]; omega
  have hYl : Y.length = (n - i) * 3 := by rw [← hY, List.length_drop, hel]; omega
  have hXe : X = encFs (fs.take i) := by rw [← hX, encFs_take fs i (by omega)]
  have hYe : Y = encFs (fs.drop i) := by rw [← hY, encFs_drop fs i (by omega)]
  have hsplit : cur.toList = encFs fs ++ cur.toList.drop (n * 3) := by rw [← htk, List.take_append_drop]
  have hXc : ∀ j v, X[j]? = some v → w.cell? ⟨g, j, none⟩ = some v := fun j v hj => by
    rw [blk_cell hh, ← Array.getElem?_toList, hsplit, List.getElem?_append_left (by have := (List.getElem?_eq_some_iff.mp hj).1; omega)]
    rw [← hX, List.getElem?_take] at hj
    split at hj
    · exact hj
    · cases hj
  have hYc : ∀ j v, Y[j]? = some v → w.cell? ⟨g, i * 3 + j, none⟩ = some v := fun j v hj => by
    rw [blk_cell hh, ← Array.getElem?_toList, hsplit, List.getElem?_append_left (by have := (List.getElem?_eq_some_iff.mp hj).1; omega)]
    rw [← hY, List.getElem?_drop] at hj
    exact hj
  have hold : (Builtin.firstCells i0.size i (.slice (some ⟨g, 0, none⟩) i c)).run Tryd.prog w.drew = .ok X.toArray w.drew := by
    rw [hzs]
    exact run_firstCells_some w.drew 3 i ⟨g, 0, none⟩ i c X hXl (fun j v hj => by rw [Addr.add_lit, Nat.zero_add]; exact hXc j v hj)
  have hkk : (n : Int) + 1 - (i : Int) = ((n + 1 - i : Nat) : Int) := by omega
  have hik : i + (n + 1 - i) = n + 1 := by omega
  obtain ⟨G, hG⟩ : ∃ G, G = grownCap w (n + 1) c 72 := ⟨_, rfl⟩
  obtain ⟨ROW, hROW⟩ : ∃ ROW : Array Value, ROW = X.toArray ++ Builtin.zeroCells (Value.agg #[.string ⟨#[]⟩, .int .i64 0, .int .i64 0]).cells (n + 1 - i) ++ Builtin.zeroCells (Value.agg #[.string ⟨#[]⟩, .int .i64 0, .int .i64 0]).cells (G - (n + 1)) := ⟨_, rfl⟩
  have hGn : n + 1 ≤ G := by rw [hG]; exact grownCap_ge w _ _ _
  have hGm : G ≤ maxLen := by rw [hG]; exact grownCap_le_maxLen w (n + 1) c 72 (by unfold maxLen; omega)
  have hRl : ROW.size = G * 3 := by
    rw [hROW]
    simp [Builtin.zeroCells, Value.cells, hXl]
    omega
  have hrz : ∀ ty, (Builtin.append_ #[26, 3] ty #[.slice (some ⟨g, 0, none⟩) i c, .int .i64 ((n : Int) + 1 - (i : Int))]).run Tryd.prog w = .ok (.slice (some ⟨w.heap.size, 0, none⟩) (n + 1) G) (w.drew.alloc (.cells ROW 72)) := fun ty => by
    have h := Lib.run_append_grow_zeros (P := Tryd.prog) w 26 3 ty 72 i0 _ .i64 .i64 Tryd.underlying26 Tryd.underlying3 hi0 hz0 (some ⟨g, 0, none⟩) i c X hold (n + 1 - i) (by omega) (by omega) (by omega) (by omega) (by rw [hzb]; omega) (by rw [hzb, hik]; exact growslice_fits hroom hbig)
    rw [hik] at h
    rw [hkk, hG, hROW, hG]
    exact h
  have hNh : (w.drew.alloc (.cells ROW 72)).heap[w.heap.size]? = some (.cells ROW 72 (0, 0)) := heap_alloc_new w.drew _
  obtain ⟨R1, hR1⟩ : ∃ R1 : Array Value, R1 = (ROW.toList.take (i * 3) ++ encF f ++ ROW.toList.drop (i * 3 + (encF f).length)).toArray := ⟨_, rfl⟩
  have hE : (encF f).length = 3 := rfl
  have hR1l : R1.size = G * 3 := by rw [hR1]; simp [hE, hRl]; omega
  obtain ⟨R2, hR2⟩ : ∃ R2 : Array Value, R2 = (R1.toList.take ((i + 1) * 3) ++ Y ++ R1.toList.drop ((i + 1) * 3 + Y.length)).toArray := ⟨_, rfl⟩
  have hR2l : R2.size = G * 3 := by rw [hR2]; simp [hYl, hR1l]; omega
  have hcpA : ∀ (W : World), W.heap = (w.drew.alloc (.cells ROW 72)).heap → ∀ ty dc, (Builtin.copy_ #[26, 26] ty #[.slice (some ⟨w.heap.size, i * 3, none⟩) (n + 1 - i) dc, .slice (some ⟨vb, 0, none⟩) 1 1]).run Tryd.prog W = .ok (goInt (Nat.min 1 (n + 1 - i))) (W.setRow w.heap.size R1) := fun W hW ty dc => by
    have hv1 : W.heap[vb]? = some (.cells #[.string f.f0, .int .i64 f.f1, .int .i64 f.f2] 72 (0, 0)) := by rw [hW]; exact blk_alloc (blk_drew hv) _
    have h := run_copy_rowN (P := Tryd.prog) W 26 26 ty 72 3 w.heap.size (i * 3) (n + 1 - i) dc ⟨vb, 0, none⟩ 1 1 ROW 72 (encF f) Tryd.underlying26 hsz (by rw [hW]; exact hNh) (by simp only [Nat.min_def]; split <;> simp [encF]; omega) (fun j v hj => ?_) (by rw [hRl, hE]; omega) (fun v hv => by simp [encF] at hv; rcases hv with rfl | rfl | rfl <;> rfl)
    · rw [← hR1] at h
      exact h
    · have e : ((⟨vb, 0, none⟩ : Addr).add j) = ⟨vb, 0 + j, none⟩ := by rw [Addr.add_lit]
      rw [e, Nat.zero_add, blk_cell hv1, ← Array.getElem?_toList]
      exact hj
  have hcpB : ∀ (W : World), W.heap = ((w.drew.alloc (.cells ROW 72)).setRow w.heap.size R1).heap → ∀ ty dc sc, (Builtin.copy_ #[26, 26] ty #[.slice (some ⟨w.heap.size, (i + 1) * 3, none⟩) (n - i) dc, .slice (some ⟨g, i * 3, none⟩) (n - i) sc]).run Tryd.prog W = .ok (goInt (Nat.min (n - i) (n - i))) (W.setRow w.heap.size R2) := fun W hW ty dc sc => by
    have hg1 : W.heap[g]? = some (.cells cur 72 (0, 0)) := by rw [hW, setRow_other _ _ _ _ (by omega)]; exact blk_alloc (blk_drew hh) _
    have h := run_copy_rowN (P := Tryd.prog) W 26 26 ty 72 3 w.heap.size ((i + 1) * 3) (n - i) dc ⟨g, i * 3, none⟩ (n - i) sc R1 72 Y Tryd.underlying26 hsz (by rw [hW]; exact setRow_heap _ _ _ _ _ _ hNh) (by rw [hYl]; congr 1; simp [Nat.min_def]) (fun j v hj => ?_) (by rw [hR1l, hYl]; omega) (fun v hv => encFs_one fs v (List.mem_of_mem_drop (hY ▸ hv)))
    · rw [← hR2] at h
      exact h
    · have e : ((⟨g, i * 3, none⟩ : Addr).add j) = ⟨g, i * 3 + j, none⟩ := by rw [Addr.add_lit]
      rw [e]
      have := hYc j v hj
      rw [blk_cell hh] at this
      rw [blk_cell hg1]
      exact this
  have hROWt : ROW.toList.take (i * 3) = X := by rw [hROW]; simp only [Array.toList_append, List.toList_toArray]; rw [List.append_assoc, List.take_left' hXl]
  have hfin : R2.toList.take ((n + 1) * 3) = encFs (fs.take i ++ f :: fs.drop i) := by
    rw [hR2, hR1, hE, hROWt]
    simp only [List.toList_toArray]
    have h1 : (X ++ encF f ++ ROW.toList.drop (i * 3 + 3)).take ((i + 1) * 3) = X ++ encF f := by rw [List.take_left']; simp [hXl, hE]; omega
    rw [h1, List.take_append_of_le_length (by simp [hE, hYl, hXl]; omega), List.take_of_length_le (by simp [hE, hYl, hXl]; omega), encFs_app, encFs_cons, hXe, hYe, List.append_assoc]
  have HF : ∀ W : World, W.heap = ((w.drew.alloc (.cells ROW 72)).setRow w.heap.size R1).heap → W.os = w.os → W.tape = w.tape → W.output = w.output → (W.setRow w.heap.size R2).ownsRow base 72 3 (.slice (some ⟨w.heap.size, 0, none⟩) (n + 1) G) (n + 1) (encFs (fs.take i ++ f :: fs.drop i)) ∧ w.grownBy (W.setRow w.heap.size R2) none := by
    intro W hW e1 e2 e3
    have hN1 : W.heap[w.heap.size]? = some (.cells R1 72 (0, 0)) := by rw [hW]; exact setRow_heap _ _ _ _ _ _ hNh
    have hWs : W.heap.size = w.heap.size + 1 := by rw [hW]; simp
    refine ⟨⟨by rw [encFs_len]; simp; omega, .inr ⟨w.heap.size, G, R2, rfl, hbase, setRow_heap _ _ _ _ _ _ hN1, hGn, hGm, hR2l, hfin⟩⟩, ⟨e1, e2, e3, by simp [hWs], fun k hk _ => ?_⟩⟩
    rw [setRow_other _ _ _ _ (by omega), hW, setRow_other _ _ _ _ (by omega)]
    exact Below.heap_alloc w.drew _ k hk
  have HFF := Aside0.mk HF
  have HA := Aside0.mk hcpA
  have HBB := Aside0.mk hcpB
  have hcA := hcpA (w.alloc (.cells ROW 72)).drew rfl
  have hGi : ¬ (G = i) := by omega
  have hGim : ¬ (G = i + 1) := by omega
  have hG63 : G ≤ 9223372036854775807 := by unfold maxLen at hGm; exact hGm
  have hw1 : IntKind.i64.wrap ((i : Int) + 1) = (i : Int) + 1 := by rw [IntKind.wrap_i64]; omega
  have hb1 : (0 : Int) ≤ (i : Int) + 1 := by omega
  have htn : ((i : Int) + 1).toNat = i + 1 := by omega
  have hb3 : (i : Int) ≤ (n : Int) + 1 := by omega
  have hb5 : (i : Int) ≤ (n : Int) := by omega
  have hb6 : i ≤ n := by omega
  have hb7 : i ≤ n + 1 := by omega
  clear hh hv ho htk hxl hcz hel hX hY hXl hYl hXe hYe hsplit hXc hYc hold hkk hik hG hROW hGn hGm hRl hNh hR1 hR1l hR2 hR2l hROWt hfin HF hcpA hcpB hE hb hz0 hzs hzb hi0
  go_enter Tryd.func64, Tryd.ntmps64
  go_wp2_with (at_builtin; refine Lib.wpList_append_run _ rfl _ _ _ _ rfl _ _ rfl rfl _ _ (hrz _) ?_)
  go_region_law (refine step_copy_run rfl _ _ 26 26 rfl (.slice (some ⟨w.heap.size, (i + 1) * 3, none⟩) (n - i) (G - (i + 1))) (.slice (some ⟨g, i * 3, none⟩) (n - i) (c - i)) (by simp [Act.eval, Act.put]) (by simp [Act.eval, Act.put]) (HBB.out _ (by rfl) _ _ _) ?_)
  go_wp2
  go_ret
  exact ⟨_, _, rfl, Nat.le_refl _, HFF.out _ (by rfl) (by rfl) (by rfl) (by rfl)⟩
theorem encF_cells {w : World} {vb : Nat} {f : S72} (hv : w.heap[vb]? = some (.cells #[.string f.f0, .int .i64 f.f1, .int .i64 f.f2] 72 (0, 0))) : ∀ j u, (encF f)[j]? = some u → w.cell? ((⟨vb, 0, none⟩ : Addr).add j) = some u := fun j u hj => by
  have e : ((⟨vb, 0, none⟩ : Addr).add j) = ⟨vb, 0 + j, none⟩ := by rw [Addr.add_lit]
  rw [e, Nat.zero_add, blk_cell hv, ← Array.getElem?_toList]
  exact hj
theorem encF_one (f : S72) : ∀ u ∈ encF f, u.oneCell' = true := fun u hu => by simp [encF] at hu; rcases hu with rfl | rfl | rfl <;> rfl
set_option maxHeartbeats 4000000 in
set_option maxRecDepth 100000 in
theorem file_Insert.last (v : Value) (vb base : Nat) (fs : List S72) (f : S72) (w : World) (ho : w.ownsRow base 72 3 v fs.length (encFs fs)) (hbig : (fs.length + 1) * 32 ≤ 140737488355328) (hbase : base ≤ w.heap.size) (hv : w.heap[vb]? = some (.cells #[.string f.f0, .int .i64 f.f1, .int .i64 f.f2] 72 (0, 0))) :
    Calls Tryd.prog 64 #[v, .int .i64 fs.length, .slice (some ⟨vb, 0, none⟩) 1 1] w fun e w' => ∃ v', e = .returned v' ∧ w'.ownsRow base 72 3 v' (fs.length + 1) (encFs (fs ++ [f])) ∧ w.grownBy w' v.ownBlock := by
  obtain ⟨i0, hi0, hz0, hzs, hzb⟩ := info_parts file_info
  obtain ⟨n, hn⟩ : ∃ n, fs.length = n := ⟨_, rfl⟩
  rw [hn] at ho hbig ⊢
  have HO := Aside0.mk ho
  have HC := Aside0.mk (encF_cells hv)
  have HX := Aside0.mk (show encFs (fs ++ [f]) = encFs fs ++ encF f by rw [encFs_app]; simp [encFs])
  have hE : (encF f).length = 1 * 3 := rfl
  have HE := Aside0.mk hE
  rcases ho.2 with ⟨rfl, h0⟩ | ⟨g, c, cur, rfl, hb, hh, hnc, hcm, _, _⟩
  · subst h0
    clear ho hv hn hE
    go_enter Tryd.func64, Tryd.ntmps64
    go_wp2_with (at_builtin; refine wpList_append_own _ rfl _ _ 26 rfl base 72 i0 _ 3 32 Tryd.underlying26 hi0 hz0 hzs hzb rfl (by decide) (.slice none 0 0) 0 (encFs fs) rfl HO.out ⟨vb, 0, none⟩ 1 1 (encF f) rfl HE.out HC.out (encF_one f) (by decide) hbig hbase ?_; intro v' w1 hown1 hgrow1 _)
    go_ret
    exact ⟨v', rfl, by rw [HX.out]; exact hown1, hgrow1⟩
  · unfold maxLen at hcm
    clear ho hv hn hE hh
    by_cases hcn : c = n
    · subst hcn
      go_enter Tryd.func64, Tryd.ntmps64
      go_wp2_with (at_builtin; refine wpList_append_own _ rfl _ _ 26 rfl base 72 i0 _ 3 32 Tryd.underlying26 hi0 hz0 hzs hzb rfl (by decide) (.slice (some ⟨g, 0, none⟩) c c) c (encFs fs) rfl HO.out ⟨vb, 0, none⟩ 1 1 (encF f) rfl HE.out HC.out (encF_one f) (by unfold maxLen; omega) hbig hbase ?_; intro v' w1 hown1 hgrow1 _)
      go_ret
      exact ⟨v', rfl, by rw [HX.out]; exact hown1, hgrow1⟩
    · go_enter Tryd.func64, Tryd.ntmps64
      go_wp2_with (at_builtin; refine wpList_append_own _ rfl _ _ 26 rfl base 72 i0 _ 3 32 Tryd.underlying26 hi0 hz0 hzs hzb rfl (by decide) (.slice (some ⟨g, 0, none⟩) n c) n (encFs fs) rfl HO.out ⟨vb, 0, none⟩ 1 1 (encF f) rfl HE.out HC.out (encF_one f) (by unfold maxLen; omega) hbig hbase ?_; intro v' w1 hown1 hgrow1 _)
      go_ret
      exact ⟨v', rfl, by rw [HX.out]; exact hown1, hgrow1⟩
theorem file_Insert.calls (v : Value) (i vb base : Nat) (fs : List S72) (f : S72) (w : World) (ho : w.ownsRow base 72 3 v fs.length (encFs fs)) (hi : i ≤ fs.length) (hbig : (fs.length + 1) * 32 ≤ 140737488355328) (hbase : base ≤ w.heap.size) (hv : w.heap[vb]? = some (.cells #[.string f.f0, .int .i64 f.f1, .int .i64 f.f2] 72 (0, 0))) (hne : v.ownBlock ≠ some vb) :
    Calls Tryd.prog 64 #[v, .int .i64 i, .slice (some ⟨vb, 0, none⟩) 1 1] w fun e w' => ∃ v', e = .returned v' ∧ w'.ownsRow base 72 3 v' (fs.length + 1) (encFs (fs.take i ++ f :: fs.drop i)) ∧ w.grownBy w' v.ownBlock := by
  rcases Nat.lt_or_ge i fs.length with hlt | hge
  · rcases ho.2 with ⟨rfl, h0⟩ | ⟨g, c, cur, rfl, hb, hh, hnc, hcm, _, _⟩
    · omega
    · have hne' : vb ≠ g := fun e => hne (by rw [e]; rfl)
      by_cases hroom : fs.length + 1 ≤ c
      · refine (file_Insert.room g fs.length c i vb base fs f w ho rfl hlt hroom hv hne').mono ?_
        rintro e w' ⟨rfl, h1, h2⟩
        exact ⟨_, rfl, h1, h2⟩
      · refine (file_Insert.grow g fs.length c i vb base fs f w ho rfl hlt (by omega) hbig hbase hv hne').mono ?_
        rintro e w' ⟨g', c', rfl, _, h1, h2⟩
        exact ⟨_, rfl, h1, ⟨h2.os, h2.tape, h2.output, h2.size, fun k hk _ => h2.block k hk (by simp)⟩⟩
  · obtain rfl : i = fs.length := by omega
    rw [List.take_length, List.drop_length]
    exact file_Insert.last v vb base fs f w ho hbig hbase hv
/-- The cells of files that are read. -/
theorem cells_of_C72 {w : World} {A : Option Addr} {n : Nat} {fs : List S72} (h : Kd.C k72 w A n fs) (hp : 0 < n) : ∃ ad, A = some ad ∧ ∀ j u, (encFs fs)[j]? = some u → w.cell? (ad.add j) = some u := by
  obtain ⟨hl, hm, hc⟩ := h
  obtain ⟨ad, rfl, hd⟩ := hc hp
  refine ⟨ad, rfl, fun j u hj => ?_⟩
  have hjl := (List.getElem?_eq_some_iff.mp hj).1
  rw [encFs_len] at hjl
  have hq : j / 3 < fs.length := by omega
  obtain ⟨cs, hs, hr, hcell⟩ := hd (j / 3) _ (List.getElem?_eq_getElem hq)
  have e := k72_open hr
  have hj3 : (encFs fs)[j]? = (encF fs[j / 3])[j % 3]? := by
    have : (encFs fs).drop (j / 3 * 3) = encF fs[j / 3] ++ encFs (fs.drop (j / 3 + 1)) := by
      rw [encFs_drop fs _ (by omega), List.drop_eq_getElem_cons hq, encFs_cons]
    have h2 : (encFs fs)[j]? = ((encFs fs).drop (j / 3 * 3))[j % 3]? := by
      rw [List.getElem?_drop]; congr 1; omega
    rw [h2, this, List.getElem?_append_left (by show j % 3 < 3; omega)]
  rw [hj3] at hj
  have := hcell (j % 3) u (by rw [e]; exact hj)
  rw [show j / 3 * k72.sz + j % 3 = j by show j / 3 * 3 + j % 3 = j; omega] at this
  exact this
set_option maxHeartbeats 4000000 in
theorem file_Clone.calls (A : Option Addr) (c : Nat) (fs : List S72) (w : World) (hr : Kd.C k72 w A fs.length fs) (hbig : fs.length * 32 ≤ 140737488355328) :
    Calls Tryd.prog 79 #[.slice A fs.length c] w fun e w' => ∃ v', e = .returned v' ∧ w'.ownsRow w.heap.size 72 3 v' fs.length (encFs fs) ∧ Below w.heap.size w w' := by
  have hq := fun (w : World) (a : Option Addr) (n c : Nat) => Lib.run_eql_slice_nil w 26 _ a n c 0 0 Tryd.underlying26
  obtain ⟨i0, hi0, hz0, hzs, hzb⟩ := info_parts file_info
  rcases A with _ | ad
  · have h0 : fs.length = 0 := by
      rcases Nat.eq_zero_or_pos fs.length with h0 | h0
      · exact h0
      · obtain ⟨ad, he, _⟩ := cells_of_C72 hr h0
        cases he
    obtain rfl := List.eq_nil_of_length_eq_zero h0
    clear hr h0
    go_enter Tryd.func79, Tryd.ntmps79
    go_wp2
    go_ret
    exact ⟨_, rfl, ⟨rfl, .inl ⟨rfl, rfl⟩⟩, Below.refl _ _⟩
  · have hnews : ∀ j u, (encFs fs)[j]? = some u → w.cell? (ad.add j) = some u := by
      rcases Nat.eq_zero_or_pos fs.length with h0 | h0
      · obtain rfl := List.eq_nil_of_length_eq_zero h0
        intro j u hj
        simp [encFs] at hj
      · obtain ⟨ad', he, h⟩ := cells_of_C72 hr h0
        injection he with he
        subst he
        exact h
    have hlt : ∀ j u, (encFs fs)[j]? = some u → (w.alloc (.cells #[] 72)).cell? (ad.add j) = some u := fun j u hj => pw_cell_below (below_alloc (Below.refl _ _) _) (hnews j u hj)
    have hel : (encFs fs).length = fs.length * 3 := encFs_len fs
    have hown : (w.alloc (.cells #[] 72)).ownsRow w.heap.size 72 3 (.slice (some ⟨w.heap.size, 0, none⟩) 0 0) 0 [] := ⟨rfl, .inr ⟨w.heap.size, 0, #[], rfl, Nat.le_refl _, heap_alloc_new w _, Nat.le_refl _, Nat.zero_le _, rfl, rfl⟩⟩
    have HN := Aside0.mk hlt
    have HL := Aside0.mk hel
    have HO := Aside0.mk hown
    obtain ⟨n, hn⟩ : ∃ n, fs.length = n := ⟨_, rfl⟩
    rw [hn] at hbig HL ⊢
    clear hr hnews hlt hel hown hn
    go_enter Tryd.func79, Tryd.ntmps79
    go_wp2_with (at_builtin; refine wpList_append_own _ rfl _ _ 26 rfl w.heap.size 72 i0 _ 3 32 Tryd.underlying26 hi0 hz0 hzs hzb rfl (by decide) (.slice (some ⟨w.heap.size, 0, none⟩) 0 0) 0 [] rfl HO.out ad n c (encFs fs) rfl HL.out HN.out (encFs_one fs) (by unfold maxLen; omega) (by omega) (by simp) ?_; intro v' w1 hown1 hgrow1 _)
    go_ret
    rw [Nat.zero_add, List.nil_append] at hown1
    refine ⟨v', rfl, hown1, ?_⟩
    exact (below_alloc (Below.refl _ _) _).grown hgrow1 (by simp) (fun k hk => by simp [Value.ownBlock] at hk; omega)
theorem file_zero (w : World) : (zeroValue 72).run Tryd.prog w = .ok (.agg #[.string ⟨#[]⟩, .int .i64 0, .int .i64 0]) w := by kernel_rfl
open Go.Proofs.YtnnjmelifmlghaaDoorW.Hand2 in
set_option maxHeartbeats 4000000 in
set_option maxRecDepth 100000 in
theorem file_Delete.calls (g n c i base : Nat) (fs : List S72) (w : World) (ho : w.ownsRow base 72 3 (.slice (some ⟨g, 0, none⟩) n c) n (encFs fs)) (hn : fs.length = n) (hi : i < n) :
    Calls Tryd.prog 65 #[.slice (some ⟨g, 0, none⟩) n c, .int .i64 i, .int .i64 ((i : Int) + 1)] w fun e w' => e = .returned (.slice (some ⟨g, 0, none⟩) (n - 1) c) ∧ w'.ownsRow base 72 3 (.slice (some ⟨g, 0, none⟩) (n - 1) c) (n - 1) (encFs (fs.take i ++ fs.drop (i + 1))) ∧ w.grownBy w' (some g) := by
  obtain ⟨cur, hb, hh, hnc, hcm, hcz, htk, hxl⟩ := ownsRow_open ho
  unfold maxLen at hcm
  obtain ⟨i0, hi0, hz0, hzs, hzb⟩ := info_parts file_info
  have hel : (encFs fs).length = n * 3 := by rw [encFs_len, hn]
  obtain ⟨Y, hY⟩ : ∃ Y, (encFs fs).drop ((i + 1) * 3) = Y := ⟨_, rfl⟩
  have hYl : Y.length = (n - (i + 1)) * 3 := by rw [← hY, List.length_drop, hel]; omega
  have hYe : Y = encFs (fs.drop (i + 1)) := by rw [← hY, encFs_drop fs (i + 1) (by omega)]
  have hsplit : cur.toList = encFs fs ++ cur.toList.drop (n * 3) := by rw [← htk, List.take_append_drop]
  have hcl : cur.toList.length = c * 3 := by rw [Array.length_toList]; exact hcz
  obtain ⟨R1, hR1⟩ : ∃ R1 : Array Value, R1 = (cur.toList.take (i * 3) ++ Y ++ cur.toList.drop (i * 3 + Y.length)).toArray := ⟨_, rfl⟩
  have hR1l : R1.size = c * 3 := by rw [hR1]; simp; omega
  obtain ⟨A, hA⟩ : ∃ A : Addr, A = if c = i + 1 then ⟨g, 0, none⟩ else ⟨g, (i + 1) * 3, none⟩ := ⟨_, rfl⟩
  have hYc : ∀ j v, Y[j]? = some v → w.cell? (A.add j) = some v := fun j v hj => by
    have hjl := (List.getElem?_eq_some_iff.mp hj).1
    rw [hA, if_neg (by omega), Addr.add_lit, blk_cell hh, ← Array.getElem?_toList, hsplit, List.getElem?_append_left (by omega)]
    rw [← hY, List.getElem?_drop] at hj
    exact hj
  have hap : ∀ ty dc, (Builtin.append_ #[26, 26] ty #[.slice (some ⟨g, 0, none⟩) i c, .slice (some A) (n - (i + 1)) dc]).run Tryd.prog w.drew = .ok (.slice (some ⟨g, 0, none⟩) (n - 1) c) (w.drew.setRow g R1) := fun ty dc => by
    have h := run_append_room (P := Tryd.prog) w.drew 26 ty 72 i0 Tryd.underlying26 hi0 g i c cur hh A (n - (i + 1)) dc Y (by rw [hzs]; exact hYl) hYc (fun v hv => encFs_one fs v (List.mem_of_mem_drop (hY ▸ hv))) (by omega) (by rw [hzs]; omega)
    rw [hzs, ← hR1, show i + (n - (i + 1)) = n - 1 by omega] at h
    exact h
  have hh1 : (w.drew.setRow g R1).heap[g]? = some (.cells R1 72 (0, 0)) := setRow_heap _ g _ _ _ _ hh
  obtain ⟨Z, hZ⟩ : ∃ Z, (Builtin.zeroCells (Value.agg #[.string ⟨#[]⟩, .int .i64 0, .int .i64 0]).cells 1).toList = Z := ⟨_, rfl⟩
  have hZe : Z = [.string ⟨#[]⟩, .int .i64 0, .int .i64 0] := by rw [← hZ]; kernel_rfl
  have hZl : Z.length = 3 := by rw [hZe]; rfl
  have hZo : ∀ u ∈ Z, u.oneCell' = true := by
    rw [hZe]
    intro u hu
    simp at hu
    rcases hu with rfl | rfl <;> rfl
  obtain ⟨R2, hR2⟩ : ∃ R2 : Array Value, R2 = (R1.toList.take ((n - 1) * 3) ++ Z ++ R1.toList.drop ((n - 1) * 3 + Z.length)).toArray := ⟨_, rfl⟩
  have hR2l : R2.size = c * 3 := by rw [hR2]; simp [hZl, hR1l]; omega
  have hcr : ∀ ty dc, (Builtin.clear_ #[26] ty #[.slice (some ⟨g, (n - 1) * 3, none⟩) 1 dc]).run Tryd.prog (w.drew.setRow g R1) = .ok (.tuple #[]) ((w.drew.setRow g R1).setRow g R2) := fun ty dc => by
    have h := run_clear_rowN (P := Tryd.prog) (w.drew.setRow g R1) 26 72 ty (Value.agg #[.string ⟨#[]⟩, .int .i64 0, .int .i64 0]) Tryd.underlying26 file_zero (by rw [hZ]; exact hZo) g ((n - 1) * 3) 1 dc R1 72 (by omega) hh1 (by rw [hZ, hZl, hR1l]; omega) (by rw [hZ]; exact hZo)
    rw [hZ, ← hR2] at h
    exact h
  have hfin : R2.toList.take ((n - 1) * 3) = encFs (fs.take i ++ fs.drop (i + 1)) := by
    rw [hR2]
    simp only [List.toList_toArray]
    rw [List.append_assoc, List.take_append_of_le_length (by simp [hR1l]; omega), List.take_take, Nat.min_self, hR1]
    simp only [List.toList_toArray]
    rw [List.take_append_of_le_length (by simp [hcl, hYl]; omega), List.take_of_length_le (by simp [hcl, hYl]; omega), hsplit, List.take_append_of_le_length (by omega), encFs_take fs i (by omega), hYe, encFs_app]
  have HF : Aside0 (((w.drew.setRow g R1).setRow g R2).ownsRow base 72 3 (.slice (some ⟨g, 0, none⟩) (n - 1) c) (n - 1) (encFs (fs.take i ++ fs.drop (i + 1))) ∧ w.grownBy ((w.drew.setRow g R1).setRow g R2) (some g)) := by
    constructor
    obtain ⟨o1, g1⟩ := ownsRow_setRow (w := w.drew) ho R1 hR1l (m := n) (ys := R1.toList.take (n * 3)) hnc rfl (by rw [List.length_take, Array.length_toList, hR1l]; omega)
    obtain ⟨o2, g2⟩ := ownsRow_setRow o1 R2 hR2l (m := n - 1) (by omega) hfin (by rw [encFs_len]; simp; omega)
    exact ⟨o2, ⟨g2.os.trans g1.os, g2.tape.trans g1.tape, g2.output.trans g1.output, Nat.le_trans g1.size g2.size, fun k hk hr => (g2.block k (Nat.lt_of_lt_of_le hk g1.size) hr).trans (g1.block k hk hr)⟩⟩
  have HAP := Aside0.mk hap
  have hw1 : (0 : Int) ≤ (i : Int) + 1 := by omega
  have htn : ((i : Int) + 1).toNat = i + 1 := by omega
  have hne : ((i : Int) == (i : Int) + 1) = false := by simp; omega
  have hb3 : (i : Int) + 1 ≤ (n : Int) := by omega
  have hb4 : (i : Int) ≤ (n : Int) := by omega
  have hb5 : (i : Int) ≤ (c : Int) := by omega
  have hb6 : i + 1 ≤ n := by omega
  have hb7 : i ≤ c := by omega
  have hcn : ¬ (c = n - 1) := by omega
  have hci : ¬ (c = i) := by omega
  have hb8 : ((n - 1 : Nat) : Int) ≤ (n : Int) := by omega
  have hb9 : n - (n - 1) = 1 := by omega
  clear hh ho htk hxl hcz hel hY hYl hYe hsplit hcl hR1 hR1l hYc hap hh1 hZ hZe hZl hZo hR2 hR2l hfin hb hz0 hzs hzb hi0
  by_cases hci1 : c = i + 1
  · rw [if_pos hci1] at hA
    subst hA
    have hci2 := eq_true hci1
    clear hci1
    go_enter Tryd.func65, Tryd.ntmps65
    go_wp2
    go_region_law (refine step_append_run rfl _ _ 26 26 rfl (.slice (some ⟨g, 0, none⟩) i c) (.slice (some ⟨g, 0, none⟩) (n - (i + 1)) (c - (i + 1))) (by simp [Act.eval, Act.put]) (by simp [Act.eval, Act.put]) (HAP.out _ _) ?_)
    go_wp2
    go_ret
    exact ⟨rfl, HF.out⟩
  · rw [if_neg hci1] at hA
    subst hA
    go_enter Tryd.func65, Tryd.ntmps65
    go_wp2
    go_region_law (refine step_append_run rfl _ _ 26 26 rfl (.slice (some ⟨g, 0, none⟩) i c) (.slice (some ⟨g, (i + 1) * 3, none⟩) (n - (i + 1)) (c - (i + 1))) (by simp [Act.eval, Act.put]) (by simp [Act.eval, Act.put]) (HAP.out _ _) ?_)
    go_wp2
    go_ret
    exact ⟨rfl, HF.out⟩
theorem encFs_get (fs : List S72) (i j : Nat) (hi : i < fs.length) (hj : j < 3) : (encFs fs)[i * 3 + j]? = (encF fs[i])[j]? := by
  rw [← List.getElem?_drop, encFs_drop fs i (by omega), List.drop_eq_getElem_cons hi, encFs_cons, List.getElem?_append_left (by show j < 3; exact hj)]
theorem encFs_set (fs : List S72) (i : Nat) (hi : i < fs.length) (f : S72) : ((((encFs fs).set (i * 3) (.string f.f0)).set (i * 3 + 1) (.int .i64 f.f1)).set (i * 3 + 2) (.int .i64 f.f2)) = encFs (fs.set i f) := by
  have e : encFs fs = encFs (fs.take i) ++ (encF fs[i] ++ encFs (fs.drop (i + 1))) := by
    rw [← encFs_cons, ← encFs_app, ← List.drop_eq_getElem_cons hi, List.take_append_drop]
  have e2 : fs.set i f = fs.take i ++ f :: fs.drop (i + 1) := by rw [List.set_eq_take_append_cons_drop, if_pos hi]
  have hl : (encFs (fs.take i)).length = i * 3 := by rw [encFs_len, List.length_take, Nat.min_eq_left (by omega)]
  rw [e, e2, encFs_app, encFs_cons, List.set_append_right _ _ (by omega), List.set_append_right _ _ (by omega), List.set_append_right _ _ (by omega), hl]
  simp [encF]


end Go.Proofs.YtnnjmelifmlghaaDoor.A
end

section
set_option linter.unusedVariables false
set_option linter.unusedSimpArgs false
namespace Go.Proofs.YtnnjmelifmlghaaDoor.A
open Go.RowKit Go.Proofs.YtnnjmelifmlghaaDoorW.PrintWords Go.Proofs.YtnnjmelifmlghaaDoorW.PrintLast Go.Proofs.YtnnjmelifmlghaaDoorW.PrintMore
attribute [local go_sem] max2_int min2_int max_two min_two max_three min_three max_four min_four   -- for this text's walks alone
set_option linter.unusedVariables false
set_option linter.unusedSimpArgs false

/-! ### disk_Copy: function 63 -/
set_option maxHeartbeats 4000000 in
theorem disk_Copy.calls (clock : Int) (A : Option Addr) (c : Nat) (fs : List S72) (w : World) (hr : Kd.C k72 w A fs.length fs) (hbig : fs.length * 32 ≤ 140737488355328) :
    Calls Tryd.prog 63 #[.agg #[.int .i64 clock, .slice A fs.length c]] w fun e w' => ∃ v', e = .returned (.agg #[.int .i64 clock, v']) ∧ w'.ownsRow w.heap.size 72 3 v' fs.length (encFs fs) ∧ Below w.heap.size w w' := by
  have HC := Aside0.mk (fun W hW => file_Clone.calls A c fs W (Kd.C_below hr hW) hbig)
  obtain ⟨n, hn⟩ : ∃ n, fs.length = n := ⟨_, rfl⟩
  rw [hn] at HC ⊢
  clear hr hbig hn
  go_enter Tryd.func63, Tryd.ntmps63
  go_wp2_with fail
  refine (HC.out _ (below_alloc (below_alloc (Below.refl _ _) _) _)).mono ?_
  rintro e w2 ⟨v', rfl, ho, hb⟩
  obtain ⟨A', c', rfl⟩ := Go.Proofs.YtnnjmelifmlghaaDoorW.Hand2.ownsRow_slice ho
  have n0 := blk_below (blk_alloc (heap_alloc_new w (.cells #[.int .i64 clock, .slice A n c] 28)) (.cells #[.int .i64 0, .slice none 0 0] 28)) hb
  have n1 := blk_below (heap_alloc_new (w.alloc (.cells #[.int .i64 clock, .slice A n c] 28)) (.cells #[.int .i64 0, .slice none 0 0] 28)) hb
  have HO := Aside0.mk ho
  have HB := Aside0.mk (below_step (below_alloc (below_alloc (Below.refl _ _) _) _) hb)
  have hsz : (w.alloc (.cells #[.int .i64 clock, .slice A n c] 28)).heap.size = w.heap.size + 1 := by simp
  rw [hsz] at n1
  have N0 := Aside0.mk n0
  have N1 := Aside0.mk n1
  have q0 : w2.cell? ⟨w.heap.size, 0, none⟩ = some (.int .i64 clock) := (blk_cell n0 0).trans rfl
  have q1 : w2.cell? ⟨w.heap.size, 1, none⟩ = some (.slice A n c) := (blk_cell n0 1).trans rfl
  have f0 := blk_frozen n0 0
  have f1 := blk_frozen n0 1
  have r0 : w2.cell? ⟨w.heap.size + 1, 0, none⟩ = some (.int .i64 0) := (blk_cell n1 0).trans rfl
  have r1 : w2.cell? ⟨w.heap.size + 1, 1, none⟩ = some (.slice none 0 0) := (blk_cell n1 1).trans rfl
  have k0 := blk_frozen n1 0
  have k1 := blk_frozen n1 1
  clear ho hb n0 n1 hsz
  go_wp2
  have b1 : (((w2.setCell ⟨w.heap.size, 1, none⟩ (.slice A' n c')).setCell ⟨w.heap.size + 1, 0, none⟩ (.int .i64 clock)).setCell ⟨w.heap.size + 1, 1, none⟩ (.slice A' n c')).heap[w.heap.size + 1]? = some (.cells #[.int .i64 clock, .slice A' n c'] 28 (0, 0)) :=
    blk_put (cs := #[.int .i64 clock, .slice none 0 0]) (blk_put (cs := #[.int .i64 0, .slice none 0 0]) (blk_far N1.out (by simp) _) 0 _ rfl) 1 _ rfl
  refine bodyPost_ret (results_cell_row rfl _ _ (w.heap.size + 1) 28 #[.int .i64 clock, .slice A' n c'] (0, 0) _ rfl b1 Tryd.underlying28 rfl (by kernel_rfl)) rfl ?_
  have hne : ∀ k, (Value.slice A' n c').ownBlock = some k → w.heap.size + 2 ≤ k := fun k hk => by have := own_base HO.out k hk; simpa using this
  refine ⟨_, rfl, own_weaken (own_move HO.out (fun k hk => ?_)) (by simp; omega), below_set (below_set (below_set HB.out (Nat.le_refl _)) (by omega)) (by omega)⟩
  have := hne k hk
  rw [Below.heap_setCell _ _ _ _ (by show k ≠ w.heap.size + 1; omega), Below.heap_setCell _ _ _ _ (by show k ≠ w.heap.size + 1; omega), Below.heap_setCell _ _ _ _ (by show k ≠ w.heap.size; omega)]


end Go.Proofs.YtnnjmelifmlghaaDoor.A
end
