-- Texts of this session, put together (wip/tools/merge.py).
import Derived.Shelf.Strings.Builder1
import Derived.Shelf.Strings.Builder2
import Derived.Shelf.Strings.OnBuilder
import Derived.Shelf.Small.Utf8
import Derived.Shelf.Small.Strs
import Derived.Shelf.Strings.BuilderF
import Derived.Shelf.Strings.BuilderK
import Derived.Shelf.Utf8.RuneCount
import Derived.Shelf.Strings.Builder2Cap
import Derived.Shelf.Strings.Search1
import Derived.Shelf.Strings.Search2
import Derived.Shelf.Strings.Search3
import Derived.Shelf.Strings.Count
import Derived.Shelf.LaysM
import Derived.Shelf.Strings.Shaped
import Derived.Shelf.GgClosure.StringsIndexFunc
import Derived.Ground.GgwProg
import Derived.Shelf.GgClosure.StringsIndexFuncTop
import Derived.Shelf.GgClosure.StringsRunes
import Derived.Shelf.Strings.Prefix
import Derived.Shelf.Strings.Split
import Derived.Shelf.Strings.SplitShaped
import Derived.Shelf.Unicode.Decode
import Derived.Shelf.Strings.Runes
import Derived.Shelf.Strings.RuneCount
import Derived.Shelf.Strings.Explode
import Derived.Shelf.Unicode.DecodeSlow
import Derived.Shelf.Unicode.DecodeAny
import Derived.Shelf.Strings.FuncGrows
import Derived.Shelf.Strings.BuilderCap
import Derived.Ground.Names2Prog
import Derived.Shelf.Slices.Clone
import Derived.Ground.SlgnProg
import Derived.Shelf.SlicesE.Clone
import Derived.Ground.SlgfProg
import Derived.Shelf.SlicesE.IndexFunc
import Derived.Shelf.SlicesE.DeleteFunc
import Derived.Test.YtnlipeiamnknbaaDoorProg
import Derived.Laws.Strings
import Derived.Test.YtnlipeiamnknbaaDoorWMore
import Derived.Lib.SplitLaws
import Derived.Lib.Join
import Derived.Below
import Derived.Deep.Draws
import Derived.Deep.AppendLies
import Derived.Maps.AppendAt
import Derived.OwnWalk
import Derived.Laws.BytesArg
import Derived.Laws.MakeOwn
import Derived.Laws.OwnMore
import Derived.Deep.OwnRows
import Derived.Tactics
import Derived.Lib.ConvBytes
import Derived.Laws.Slices
import Derived.WalkKit
import Derived.KernelRfl
import Derived.RowKit3
import Derived.Deep.LoopGhost
import Derived.Deep.QuietTactic
import Derived.BigQuiet
import Derived.WideLaws
import Derived.Deep.DeepCutAuto
import Derived.Deep.CutBlock
import Derived.Deep.RegionHeld3
import Derived.Laws.Rows
import Derived.Lib.AppendStr
import Derived.ArgAppend
import Derived.Laws.IdiomCopy
import Derived.OrdersHeld
import Derived.Laws.BitsLemmas
import Derived.RowKit
import Derived.Lib.OwnBridge
import Derived.WalkLawsBesides
import Derived.Test.YtnlipeiamnknbaaDoorWWords
import Derived.Test.YtnlipeiamnknbaaDoorWLast
import Derived.Test.YtnlipeiamnknbaaDoorWTab
import Derived.Test.YtnlipeiamnknbaaDoorWFour
import Derived.Test.YtnlipeiamnknbaaDoorWQPut
import Derived.Test.YtnlipeiamnknbaaDoorWApart
import Derived.Test.YtnlipeiamnknbaaDoorWArr
import Derived.Test.YtnlipeiamnknbaaDoorWZeros
import Derived.Test.YtnlipeiamnknbaaDoorWFoot
import Derived.Test.YtnlipeiamnknbaaDoorWKept
import Derived.Test.YtnlipeiamnknbaaDoorWShare
import Derived.Test.YtnlipeiamnknbaaDoorWN
import Derived.Test.YtnlipeiamnknbaaDoorWFootNe
import Derived.Test.YtnlipeiamnknbaaDoorWAt
import Derived.Test.YtnlipeiamnknbaaDoorWEqStruct
import Derived.Test.YtnlipeiamnknbaaDoorWRepsOne
import Derived.Test.YtnlipeiamnknbaaDoorWInv
import Derived.Test.YtnlipeiamnknbaaDoorWInvWords
import Derived.Test.YtnlipeiamnknbaaDoorWGuard
import Derived.Test.YtnlipeiamnknbaaDoorWNEv
section
/-
  DERIVED: THE SHELF's CONTRACTS AT THIS DUMP, IN PLAIN WORDS (tools/lay-plain.mjs out of 'YtnlipeiamnknbaaDoorShelf.lean', which tools/lay-shelf.mjs wrote): THE SAME DECLARATIONS UNDER THE SAME NAMES: 'import', 'namespace', 'open', 'def', 'theorem' AND NOTHING ELSE: no command of the shelf's: FOR A HAND-IN. Each laying: the table of numbers ('.._ren') and one theorem, a field a fact of the dump's own or the kernel's comparison; each contract: ONE APPLICATION.
-/
namespace Go.Proofs
open Go.Shelf
def Tryd.lays169_ren : Go.Shelf.Ren := ⟨fun | 169 => 54 | n => n, fun | 70 => 77 | 9 => 9 | 0 => 0 | 72 => 80 | 37 => 78 | 127 => 108 | 3 => 3 | 5 => 5 | n => n, fun | n => n⟩
theorem Tryd.lays169 : Go.Proofs.Lays.n169 Tryd.prog Tryd.lays169_ren := {
  mixed := by kernel_rfl
  f169 := Tryd.func54.trans (congrArg some (by kernel_rfl))
  t0 := Tryd.underlying0
  a0 := Tryd.isAgg0
  z0 := Tryd.sizeOf0
  v0 := Tryd.zeroValue0
  t3 := Tryd.underlying3
  a3 := Tryd.isAgg3
  z3 := Tryd.sizeOf3
  v3 := Tryd.zeroValue3
  t9 := Tryd.underlying9
  a9 := Tryd.isAgg9
  z9 := Tryd.sizeOf9
  v9 := Tryd.zeroValue9
  t37 := Tryd.underlying78
  a37 := Tryd.isAgg78
  z37 := Tryd.sizeOf78
  v37 := Tryd.zeroValue78
  t70 := Tryd.underlying77
  a70 := Tryd.isAgg77
  z70 := Tryd.sizeOf77
  v70 := Tryd.zeroValue77
  t72 := Tryd.underlying80
  a72 := Tryd.isAgg80
  z72 := Tryd.sizeOf80
  v72 := Tryd.zeroValue80
  t127 := Tryd.underlying108
  a127 := Tryd.isAgg108
  z127 := Tryd.sizeOf108
  v127 := Tryd.zeroValue108 }
theorem Tryd.Builder_Extra_169 : Builder.Extra Tryd.prog Tryd.lays169_ren := {
  sizeBuilder := by kernel_rfl
  liesBuilder := by kernel_rfl
  t5 := Tryd.underlying5
  a5 := Tryd.isAgg5
  z5 := Tryd.sizeOf5
  v5 := Tryd.zeroValue5
  infoByte := by kernel_rfl
  cellsByte := by kernel_rfl
  sizeByte := by kernel_rfl
  neB5 := by decide }
open Go.RowKit in
/-- (*strings.Builder).String: "String returns the accumulated string.": OF A BUILDER THAT HOLDS AT LEAST ONE BYTE. ✋ THE MODEL FREEZES THOSE BYTES IN THE BUFFER (unsafe.String): a later write INTO them ends the model's run without an answer; a later append BEHIND them goes on. The statement's order of evaluation is drawn: one draw. (LAID: no walk: one application.) -/
theorem Tryd.Builder_String (B b : Nat) (l : List UInt8) (w : World) (h : Lib.IsBuilder 80 5 B b (Lib.byteCells l) w) (h0 : l ≠ []) :
    Calls Tryd.prog 54 #[.pointer (some ⟨b, 0, none⟩)] w fun e w' => e = .returned (.string ⟨l.toArray⟩) ∧ Below B w w' := Any.Builder_String Tryd.lays169 Tryd.Builder_Extra_169 B b l w h h0
open Go.RowKit in
/-- (*strings.Builder).String OF A BUILDER THAT HOLDS NO BYTE: the empty string. (Its buffer is nil, or a row of which it has taken nothing yet; where that row has NO capacity the model lays one new block for unsafe.SliceData's 'some address'.) One draw. (LAID: no walk: one application.) -/
theorem Tryd.Builder_String_empty (B b : Nat) (w : World) (h : Lib.IsBuilder 80 5 B b [] w) (hBw : B ≤ w.heap.size) :
    Calls Tryd.prog 54 #[.pointer (some ⟨b, 0, none⟩)] w fun e w' => e = .returned (.string ⟨#[]⟩) ∧ Below B w w' := Any.Builder_String_empty Tryd.lays169 Tryd.Builder_Extra_169 B b w h hBw
open Go.RowKit in
/-- (*strings.Builder).String: "String returns the accumulated string.": WHATEVER THE BUILDER HOLDS. (LAID: no walk: one application.) -/
theorem Tryd.Builder_String_any (B b : Nat) (l : List UInt8) (w : World) (h : Lib.IsBuilder 80 5 B b (Lib.byteCells l) w) (hBw : B ≤ w.heap.size) :
    Calls Tryd.prog 54 #[.pointer (some ⟨b, 0, none⟩)] w fun e w' => e = .returned (.string ⟨l.toArray⟩) ∧ Below B w w' := Any.Builder_String_any Tryd.lays169 Tryd.Builder_Extra_169 B b l w h hBw
def Tryd.lays241_ren : Go.Shelf.Ren := ⟨fun | 241 => 96 | 277 => 106 | n => n, fun | 70 => 77 | 3 => 3 | 0 => 0 | 72 => 80 | 37 => 78 | 5 => 5 | n => n, fun | n => n⟩
theorem Tryd.lays241 : Go.Proofs.Lays.n241 Tryd.prog Tryd.lays241_ren := {
  mixed := by kernel_rfl
  f241 := Tryd.func96.trans (congrArg some (by kernel_rfl))
  f277 := Tryd.func106.trans (congrArg some (by kernel_rfl))
  t0 := Tryd.underlying0
  a0 := Tryd.isAgg0
  z0 := Tryd.sizeOf0
  v0 := Tryd.zeroValue0
  t3 := Tryd.underlying3
  a3 := Tryd.isAgg3
  z3 := Tryd.sizeOf3
  v3 := Tryd.zeroValue3
  t37 := Tryd.underlying78
  a37 := Tryd.isAgg78
  z37 := Tryd.sizeOf78
  v37 := Tryd.zeroValue78
  t70 := Tryd.underlying77
  a70 := Tryd.isAgg77
  z70 := Tryd.sizeOf77
  v70 := Tryd.zeroValue77
  t72 := Tryd.underlying80
  a72 := Tryd.isAgg80
  z72 := Tryd.sizeOf80
  v72 := Tryd.zeroValue80 }
theorem Tryd.Builder_Extra_241 : Builder.Extra Tryd.prog Tryd.lays241_ren := {
  sizeBuilder := by kernel_rfl
  liesBuilder := by kernel_rfl
  t5 := Tryd.underlying5
  a5 := Tryd.isAgg5
  z5 := Tryd.sizeOf5
  v5 := Tryd.zeroValue5
  infoByte := by kernel_rfl
  cellsByte := by kernel_rfl
  sizeByte := by kernel_rfl
  neB5 := by decide }
open Go.RowKit in
/-- (*strings.Builder).grow (no doc but "grow copies the buffer to a new, larger buffer so that there are at least n bytes of capacity beyond len(b.buf)."): AT A BUILDER WITHOUT A BUFFER: a new row of whatever bytes for its buffer, none of them its own yet. Three draws. (LAID: no walk: one application.) -/
theorem Tryd.Builder_grow_fresh (B b n : Nat) (w : World) (hB : B ≤ b) (hbk : w.heap[b]? = some (.cells #[.pointer (some ⟨b, 0, none⟩), .slice none 0 0] 80 (0, 0))) (hBw : B ≤ w.heap.size) (hn : n ≤ 281474976710656) :
    Calls Tryd.prog 96 #[.pointer (some ⟨b, 0, none⟩), .int .i64 n] w fun e w' => e = .returned (.tuple #[]) ∧ (Lib.BuilderAt 80 5 B b (.pointer (some ⟨b, 0, none⟩)) [] w' ∧ Below B w w') := Any.Builder_grow_fresh Tryd.lays241 Tryd.Builder_Extra_241 B b n w hB hbk hBw hn
def Tryd.lays165_ren : Go.Shelf.Ren := ⟨fun | 165 => 76 | 240 => 82 | 241 => 96 | 276 => 102 | 277 => 106 | n => n, fun | 70 => 77 | 3 => 3 | 0 => 0 | 4 => 4 | 9 => 9 | 20 => 20 | 72 => 80 | 37 => 78 | 164 => 130 | 5 => 5 | n => n, fun | n => n⟩
theorem Tryd.lays165 : Go.Proofs.Lays.n165 Tryd.prog Tryd.lays165_ren := {
  mixed := by kernel_rfl
  f165 := Tryd.func76.trans (congrArg some (by kernel_rfl))
  f240 := Tryd.func82.trans (congrArg some (by kernel_rfl))
  f241 := Tryd.func96.trans (congrArg some (by kernel_rfl))
  f276 := Tryd.func102.trans (congrArg some (by kernel_rfl))
  f277 := Tryd.func106.trans (congrArg some (by kernel_rfl))
  t0 := Tryd.underlying0
  a0 := Tryd.isAgg0
  z0 := Tryd.sizeOf0
  v0 := Tryd.zeroValue0
  t3 := Tryd.underlying3
  a3 := Tryd.isAgg3
  z3 := Tryd.sizeOf3
  v3 := Tryd.zeroValue3
  t4 := Tryd.underlying4
  a4 := Tryd.isAgg4
  z4 := Tryd.sizeOf4
  v4 := Tryd.zeroValue4
  t9 := Tryd.underlying9
  a9 := Tryd.isAgg9
  z9 := Tryd.sizeOf9
  v9 := Tryd.zeroValue9
  t20 := Tryd.underlying20
  a20 := Tryd.isAgg20
  z20 := Tryd.sizeOf20
  v20 := Tryd.zeroValue20
  t37 := Tryd.underlying78
  a37 := Tryd.isAgg78
  z37 := Tryd.sizeOf78
  v37 := Tryd.zeroValue78
  t70 := Tryd.underlying77
  a70 := Tryd.isAgg77
  z70 := Tryd.sizeOf77
  v70 := Tryd.zeroValue77
  t72 := Tryd.underlying80
  a72 := Tryd.isAgg80
  z72 := Tryd.sizeOf80
  v72 := Tryd.zeroValue80
  t164 := Tryd.underlying130
  a164 := Tryd.isAgg130
  z164 := Tryd.sizeOf130
  v164 := Tryd.zeroValue130 }
theorem Tryd.Builder_Extra_165 : Builder.Extra Tryd.prog Tryd.lays165_ren := {
  sizeBuilder := by kernel_rfl
  liesBuilder := by kernel_rfl
  t5 := Tryd.underlying5
  a5 := Tryd.isAgg5
  z5 := Tryd.sizeOf5
  v5 := Tryd.zeroValue5
  infoByte := by kernel_rfl
  cellsByte := by kernel_rfl
  sizeByte := by kernel_rfl
  neB5 := by decide }
open Go.RowKit in
/-- (*strings.Builder).Grow AT A BUILDER THAT HAS NOT BEEN WRITTEN ('var b strings.Builder; b.Grow(n)'): "Grow grows b's capacity, if necessary, to guarantee space for another n bytes.": it holds no byte behind it as before it. (LAID: no walk: one application.) -/
theorem Tryd.Builder_Grow_fresh (B b n : Nat) (w : World) (hB : B ≤ b) (hbk : w.heap[b]? = some (.cells #[.pointer none, .slice none 0 0] 80 (0, 0))) (hBw : B ≤ w.heap.size) (hn : n ≤ 281474976710656) :
    Calls Tryd.prog 76 #[.pointer (some ⟨b, 0, none⟩), .int .i64 n] w fun e w' => e = .returned (.tuple #[]) ∧ (Lib.BuilderAt 80 5 B b (.pointer (some ⟨b, 0, none⟩)) [] w' ∧ Below B w w') := Any.Builder_Grow_fresh Tryd.lays165 Tryd.Builder_Extra_165 B b n w hB hbk hBw hn
def Tryd.lays156_ren : Go.Shelf.Ren := ⟨fun | 156 => 47 | 165 => 76 | 166 => 53 | 169 => 54 | 240 => 82 | 241 => 96 | 276 => 102 | 277 => 106 | n => n, fun | 31 => 22 | 9 => 9 | 3 => 3 | 4 => 4 | 0 => 0 | 20 => 20 | 72 => 80 | 76 => 84 | 70 => 77 | 37 => 78 | 75 => 83 | 127 => 108 | 164 => 130 | 5 => 5 | 80 => 86 | n => n, fun | n => n⟩
theorem Tryd.lays156 : Go.Proofs.Lays.n156 Tryd.prog Tryd.lays156_ren := {
  mixed := by kernel_rfl
  f156 := Tryd.func47.trans (congrArg some (by kernel_rfl))
  f165 := Tryd.func76.trans (congrArg some (by kernel_rfl))
  f166 := Tryd.func53.trans (congrArg some (by kernel_rfl))
  f169 := Tryd.func54.trans (congrArg some (by kernel_rfl))
  f240 := Tryd.func82.trans (congrArg some (by kernel_rfl))
  f241 := Tryd.func96.trans (congrArg some (by kernel_rfl))
  f276 := Tryd.func102.trans (congrArg some (by kernel_rfl))
  f277 := Tryd.func106.trans (congrArg some (by kernel_rfl))
  t0 := Tryd.underlying0
  a0 := Tryd.isAgg0
  z0 := Tryd.sizeOf0
  v0 := Tryd.zeroValue0
  t3 := Tryd.underlying3
  a3 := Tryd.isAgg3
  z3 := Tryd.sizeOf3
  v3 := Tryd.zeroValue3
  t4 := Tryd.underlying4
  a4 := Tryd.isAgg4
  z4 := Tryd.sizeOf4
  v4 := Tryd.zeroValue4
  t9 := Tryd.underlying9
  a9 := Tryd.isAgg9
  z9 := Tryd.sizeOf9
  v9 := Tryd.zeroValue9
  t20 := Tryd.underlying20
  a20 := Tryd.isAgg20
  z20 := Tryd.sizeOf20
  v20 := Tryd.zeroValue20
  t31 := Tryd.underlying22
  a31 := Tryd.isAgg22
  z31 := Tryd.sizeOf22
  v31 := Tryd.zeroValue22
  t37 := Tryd.underlying78
  a37 := Tryd.isAgg78
  z37 := Tryd.sizeOf78
  v37 := Tryd.zeroValue78
  t70 := Tryd.underlying77
  a70 := Tryd.isAgg77
  z70 := Tryd.sizeOf77
  v70 := Tryd.zeroValue77
  t72 := Tryd.underlying80
  a72 := Tryd.isAgg80
  z72 := Tryd.sizeOf80
  v72 := Tryd.zeroValue80
  t75 := Tryd.underlying83
  a75 := Tryd.isAgg83
  z75 := Tryd.sizeOf83
  v75 := Tryd.zeroValue83
  t76 := Tryd.underlying84
  a76 := Tryd.isAgg84
  z76 := Tryd.sizeOf84
  v76 := Tryd.zeroValue84
  t127 := Tryd.underlying108
  a127 := Tryd.isAgg108
  z127 := Tryd.sizeOf108
  v127 := Tryd.zeroValue108
  t164 := Tryd.underlying130
  a164 := Tryd.isAgg130
  z164 := Tryd.sizeOf130
  v164 := Tryd.zeroValue130 }
theorem Tryd.Builder_Extra_156 : Builder.Extra Tryd.prog Tryd.lays156_ren := {
  sizeBuilder := by kernel_rfl
  liesBuilder := by kernel_rfl
  t5 := Tryd.underlying5
  a5 := Tryd.isAgg5
  z5 := Tryd.sizeOf5
  v5 := Tryd.zeroValue5
  infoByte := by kernel_rfl
  cellsByte := by kernel_rfl
  sizeByte := by kernel_rfl
  neB5 := by decide }
open Go.RowKit in
/-- No element: the empty string; the world is as it was. (Whatever the slice's address and capacity: a nil slice too.) (LAID: no walk: one application.) -/
theorem Tryd.strings_Join_none (a : Option Addr) (c : Nat) (sep : ByteArray) (w : World) :
    Calls Tryd.prog 47 #[.slice a 0 c, .string sep] w fun e w' => e = .returned (.string ⟨#[]⟩) ∧ w' = w := Any.strings_Join_none Tryd.lays156 Tryd.Builder_Extra_156 a c sep w
open Go.RowKit in
/-- strings.Join: "Join concatenates the elements of its first argument to create a single string. The separator string sep is placed between elements in the resulting string.": HOWEVER MANY ELEMENTS. Below the heap's end the world is as it was. (LAID: no walk: one application.) -/
theorem Tryd.strings_Join (bk o c : Nat) (xs : List ByteArray) (sep : ByteArray) (w : World) (hcells : ∀ (j : Nat) x, xs[j]? = some x → w.cell? ⟨bk, o + j, none⟩ = some (.string x)) (hbk : bk < w.heap.size) (hN : xs.length ≤ 140737488355328) (hcap : xs.length ≤ c) (hlen : (Lib.join (xs.map (·.data.toList)) sep.data.toList).length ≤ 140737488355328) :
    Calls Tryd.prog 47 #[.slice (some ⟨bk, o, none⟩) xs.length c, .string sep] w fun e w' => e = .returned (.string ⟨(Lib.join (xs.map (·.data.toList)) sep.data.toList).toArray⟩) ∧ Below w.heap.size w w' := Any.strings_Join Tryd.lays156 Tryd.Builder_Extra_156 bk o c xs sep w hcells hbk hN hcap hlen
def Tryd.lays119_ren : Go.Shelf.Ren := ⟨fun | 119 => 112 | n => n, fun | 21 => 21 | 4 => 4 | n => n, fun | n => n⟩
theorem Tryd.lays119 : Go.Proofs.Lays.n119 Tryd.prog Tryd.lays119_ren := {
  mixed := by kernel_rfl
  f119 := Tryd.func112.trans (congrArg some (by kernel_rfl))
  t4 := Tryd.underlying4
  a4 := Tryd.isAgg4
  z4 := Tryd.sizeOf4
  v4 := Tryd.zeroValue4
  t21 := Tryd.underlying21
  a21 := Tryd.isAgg21
  z21 := Tryd.sizeOf21
  v21 := Tryd.zeroValue21 }
/-- utf8.ValidRune: "ValidRune reports whether r can be legally encoded as UTF-8. Code points that are out of range or a surrogate half are illegal.": IT RETURNS 'Lib.validRune r'; the world is as it was. (LAID: no walk: one application.) -/
theorem Tryd.utf8_ValidRune (r : Int) (w : World) :
    Calls Tryd.prog 112 #[.int .i32 r] w fun e w' => e = .returned (.bool (Lib.validRune r)) ∧ w' = w := Any.utf8_ValidRune Tryd.lays119 r w
def Tryd.lays137_ren : Go.Shelf.Ren := ⟨fun | 137 => 111 | 217 => 116 | 266 => 118 | n => n, fun | 9 => 9 | 5 => 5 | 3 => 3 | n => n, fun | n => n⟩
theorem Tryd.lays137 : Go.Proofs.Lays.n137 Tryd.prog Tryd.lays137_ren := {
  mixed := by kernel_rfl
  f137 := Tryd.func111.trans (congrArg some (by kernel_rfl))
  f217 := Tryd.func116.trans (congrArg some (by kernel_rfl))
  f266 := Tryd.func118.trans (congrArg some (by kernel_rfl))
  t3 := Tryd.underlying3
  a3 := Tryd.isAgg3
  z3 := Tryd.sizeOf3
  v3 := Tryd.zeroValue3
  t5 := Tryd.underlying5
  a5 := Tryd.isAgg5
  z5 := Tryd.sizeOf5
  v5 := Tryd.zeroValue5
  t9 := Tryd.underlying9
  a9 := Tryd.isAgg9
  z9 := Tryd.sizeOf9
  v9 := Tryd.zeroValue9 }
open Go.RowKit in
/-- strings.IndexByte: "IndexByte returns the index of the first instance of c in s, or -1 if c is not present in s.": IT RETURNS 'Lib.indexByte s c'; the world is as it was. (LAID: no walk: one application.) -/
theorem Tryd.strings_IndexByte (s : ByteArray) (c : Int) (w : World) :
    Calls Tryd.prog 111 #[.string s, .int .u8 c] w fun e w' => e = .returned (.int .i64 (Lib.indexByte s.data.toList c.toNat.toUInt8)) ∧ w' = w := Any.strings_IndexByte Tryd.lays137 s c w
open Go.RowKit in
/-- (*strings.Builder).String: "String returns the accumulated string.": OF A BUILDER THAT HOLDS AT LEAST ONE BYTE. ✋ THE MODEL FREEZES THOSE BYTES IN THE BUFFER (unsafe.String): a later write INTO them ends the model's run without an answer; a later append BEHIND them goes on. The statement's order of evaluation is drawn: one draw. THE FORM '_f': IT SAYS BESIDES THAT THE BUILDER IS A BUILDER STILL ('Lib.IsBuilderF', the same bytes): SO IT CAN BE WRITTEN ON: 'b.WriteString(b.String()[:k])'. (LAID: no walk: one application.) -/
theorem Tryd.Builder_String_f (B b : Nat) (l : List UInt8) (w : World) (h : Lib.IsBuilderF 80 5 B b (Lib.byteCells l) w) (h0 : l ≠ []) :
    Calls Tryd.prog 54 #[.pointer (some ⟨b, 0, none⟩)] w fun e w' => e = .returned (.string ⟨l.toArray⟩) ∧ (Lib.IsBuilderF 80 5 B b (Lib.byteCells l) w' ∧ Below B w w') := Any.Builder_String_f Tryd.lays169 Tryd.Builder_Extra_169 B b l w h h0
open Go.RowKit in
/-- (*strings.Builder).String OF A BUILDER THAT HOLDS NO BYTE: the empty string; THE FORM '_f': a builder still. (LAID: no walk: one application.) -/
theorem Tryd.Builder_String_empty_f (B b : Nat) (w : World) (h : Lib.IsBuilderF 80 5 B b [] w) (hBw : B ≤ w.heap.size) :
    Calls Tryd.prog 54 #[.pointer (some ⟨b, 0, none⟩)] w fun e w' => e = .returned (.string ⟨#[]⟩) ∧ (Lib.IsBuilderF 80 5 B b [] w' ∧ Below B w w') := Any.Builder_String_empty_f Tryd.lays169 Tryd.Builder_Extra_169 B b w h hBw
open Go.RowKit in
/-- (*strings.Builder).String: "String returns the accumulated string.": WHATEVER THE BUILDER HOLDS; THE FORM '_f': OF A BUILDER THAT MAY HAVE BEEN READ BEFORE; AND IT IS A BUILDER STILL, holding the same bytes: it can be written on. (LAID: no walk: one application.) -/
theorem Tryd.Builder_String_any_f (B b : Nat) (l : List UInt8) (w : World) (h : Lib.IsBuilderF 80 5 B b (Lib.byteCells l) w) (hBw : B ≤ w.heap.size) :
    Calls Tryd.prog 54 #[.pointer (some ⟨b, 0, none⟩)] w fun e w' => e = .returned (.string ⟨l.toArray⟩) ∧ (Lib.IsBuilderF 80 5 B b (Lib.byteCells l) w' ∧ Below B w w') := Any.Builder_String_any_f Tryd.lays169 Tryd.Builder_Extra_169 B b l w h hBw
open Go.RowKit in
/-- (*strings.Builder).String: "String returns the accumulated string.": OF A BUILDER THAT HOLDS AT LEAST ONE BYTE. ✋ THE MODEL FREEZES THOSE BYTES IN THE BUFFER (unsafe.String): a later write INTO them ends the model's run without an answer; a later append BEHIND them goes on. The statement's order of evaluation is drawn: one draw. THE FORM '_k': OVER 'Lib.IsBuilderF' (a builder that 'String()' may have read), AND WITH THE FRAME THAT REACHES ABOVE THE BUILDER: 'Lib.OthersKept': every block that is not b and is no row of uint8's stands as it stood: the iterator of a range among them. (LAID: no walk: one application.) -/
theorem Tryd.Builder_String_k (B b : Nat) (l : List UInt8) (w : World) (h : Lib.IsBuilderF 80 5 B b (Lib.byteCells l) w) (h0 : l ≠ []) :
    Calls Tryd.prog 54 #[.pointer (some ⟨b, 0, none⟩)] w fun e w' => e = .returned (.string ⟨l.toArray⟩) ∧ (Lib.IsBuilderF 80 5 B b (Lib.byteCells l) w' ∧ Below B w w' ∧ Lib.OthersKept 5 (some b) w w') := Any.Builder_String_k Tryd.lays169 Tryd.Builder_Extra_169 B b l w h h0
open Go.RowKit in
/-- (*strings.Builder).String OF A BUILDER THAT HOLDS NO BYTE: the empty string; THE FORM '_k': OVER 'Lib.IsBuilderF' (a builder that 'String()' may have read), AND WITH THE FRAME THAT REACHES ABOVE THE BUILDER: 'Lib.OthersKept': every block that is not b and is no row of uint8's stands as it stood: the iterator of a range among them. (LAID: no walk: one application.) -/
theorem Tryd.Builder_String_empty_k (B b : Nat) (w : World) (h : Lib.IsBuilderF 80 5 B b [] w) (hBw : B ≤ w.heap.size) :
    Calls Tryd.prog 54 #[.pointer (some ⟨b, 0, none⟩)] w fun e w' => e = .returned (.string ⟨#[]⟩) ∧ (Lib.IsBuilderF 80 5 B b [] w' ∧ Below B w w' ∧ Lib.OthersKept 5 (some b) w w') := Any.Builder_String_empty_k Tryd.lays169 Tryd.Builder_Extra_169 B b w h hBw
open Go.RowKit in
/-- (*strings.Builder).String: "String returns the accumulated string.": WHATEVER THE BUILDER HOLDS; THE FORM '_k': OVER 'Lib.IsBuilderF' (a builder that 'String()' may have read), AND WITH THE FRAME THAT REACHES ABOVE THE BUILDER: 'Lib.OthersKept': every block that is not b and is no row of uint8's stands as it stood: the iterator of a range among them. (LAID: no walk: one application.) -/
theorem Tryd.Builder_String_any_k (B b : Nat) (l : List UInt8) (w : World) (h : Lib.IsBuilderF 80 5 B b (Lib.byteCells l) w) (hBw : B ≤ w.heap.size) :
    Calls Tryd.prog 54 #[.pointer (some ⟨b, 0, none⟩)] w fun e w' => e = .returned (.string ⟨l.toArray⟩) ∧ (Lib.IsBuilderF 80 5 B b (Lib.byteCells l) w' ∧ Below B w w' ∧ Lib.OthersKept 5 (some b) w w') := Any.Builder_String_any_k Tryd.lays169 Tryd.Builder_Extra_169 B b l w h hBw
def Tryd.lays195_ren : Go.Shelf.Ren := ⟨fun | 195 => 107 | n => n, fun | 9 => 9 | 3 => 3 | 0 => 0 | 4 => 4 | n => n, fun | n => n⟩
theorem Tryd.lays195 : Go.Proofs.Lays.n195 Tryd.prog Tryd.lays195_ren := {
  mixed := by kernel_rfl
  f195 := Tryd.func107.trans (congrArg some (by kernel_rfl))
  t0 := Tryd.underlying0
  a0 := Tryd.isAgg0
  z0 := Tryd.sizeOf0
  v0 := Tryd.zeroValue0
  t3 := Tryd.underlying3
  a3 := Tryd.isAgg3
  z3 := Tryd.sizeOf3
  v3 := Tryd.zeroValue3
  t4 := Tryd.underlying4
  a4 := Tryd.isAgg4
  z4 := Tryd.sizeOf4
  v4 := Tryd.zeroValue4
  t9 := Tryd.underlying9
  a9 := Tryd.isAgg9
  z9 := Tryd.sizeOf9
  v9 := Tryd.zeroValue9 }
open Go.RowKit in
/-- unicode/utf8.RuneCountInString: "RuneCountInString is like RuneCount but its input is a string." ("RuneCount returns the number of runes in p. Erroneous and short encodings are treated as single runes of width 1 byte."): EVERY STRING, valid UTF-8 or not: 'Lib.runeCount s' (plain Lean over the model's own 'Utf8.decode'; 'Lib.runeCount_le': at most len(s); 'Lib.runeCount_ascii': on ASCII: len(s)). THE ONE CONDITION: len(s) below 2^63 - 1 (the counter does not wrap): the form's reach pays it. THE WORLD BEHIND THE CALL: ONE BLOCK MORE: the model's iterator over s, at its end: all else as it was. (LAID: no walk: one application.) -/
theorem Tryd.utf8_RuneCountInString (s : ByteArray) (w : World) (hs : s.size < 9223372036854775807) :
    Calls Tryd.prog 107 #[.string s] w fun e w' => e = .returned (.int .i64 (Lib.runeCount s)) ∧ ∃ pos, w' = w.iter s pos := Any.utf8_RuneCountInString Tryd.lays195 s w hs
open Go.RowKit in
/-- (*strings.Builder).grow (no doc but "grow copies the buffer to a new, larger buffer so that there are at least n bytes of capacity beyond len(b.buf)."): AT A BUILDER WITHOUT A BUFFER: a new row of whatever bytes for its buffer, none of them its own yet. Three draws. (LAID: no walk: one application.) -/
theorem Tryd.Builder_grow_fresh_cap (B b n : Nat) (w : World) (hB : B ≤ b) (hbk : w.heap[b]? = some (.cells #[.pointer (some ⟨b, 0, none⟩), .slice none 0 0] 80 (0, 0))) (hBw : B ≤ w.heap.size) (hn : n ≤ 281474976710656) :
    Calls Tryd.prog 96 #[.pointer (some ⟨b, 0, none⟩), .int .i64 n] w fun e w' => e = .returned (.tuple #[]) ∧ (Lib.BuilderAt 80 5 B b (.pointer (some ⟨b, 0, none⟩)) [] w' ∧ Below B w w') ∧ ∃ p cap, w'.cell? ⟨b, 1, none⟩ = some (.slice p 0 cap) ∧ n ≤ cap := Any.Builder_grow_fresh_cap Tryd.lays241 Tryd.Builder_Extra_241 B b n w hB hbk hBw hn
open Go.RowKit in
/-- (*strings.Builder).Grow AT A BUILDER THAT HAS NOT BEEN WRITTEN ('var b strings.Builder; b.Grow(n)'): "Grow grows b's capacity, if necessary, to guarantee space for another n bytes.": it holds no byte behind it as before it. (LAID: no walk: one application.) -/
theorem Tryd.Builder_Grow_fresh_cap (B b n : Nat) (w : World) (hB : B ≤ b) (hbk : w.heap[b]? = some (.cells #[.pointer none, .slice none 0 0] 80 (0, 0))) (hBw : B ≤ w.heap.size) (hn : n ≤ 281474976710656) :
    Calls Tryd.prog 76 #[.pointer (some ⟨b, 0, none⟩), .int .i64 n] w fun e w' => e = .returned (.tuple #[]) ∧ (Lib.BuilderAt 80 5 B b (.pointer (some ⟨b, 0, none⟩)) [] w' ∧ Below B w w') ∧ ∃ p cap, w'.cell? ⟨b, 1, none⟩ = some (.slice p 0 cap) ∧ n ≤ cap := Any.Builder_Grow_fresh_cap Tryd.lays165 Tryd.Builder_Extra_165 B b n w hB hbk hBw hn
def Tryd.lays217_ren : Go.Shelf.Ren := ⟨fun | 217 => 116 | 266 => 118 | n => n, fun | 9 => 9 | 5 => 5 | 3 => 3 | n => n, fun | n => n⟩
theorem Tryd.lays217 : Go.Proofs.Lays.n217 Tryd.prog Tryd.lays217_ren := {
  mixed := by kernel_rfl
  f217 := Tryd.func116.trans (congrArg some (by kernel_rfl))
  f266 := Tryd.func118.trans (congrArg some (by kernel_rfl))
  t3 := Tryd.underlying3
  a3 := Tryd.isAgg3
  z3 := Tryd.sizeOf3
  v3 := Tryd.zeroValue3
  t5 := Tryd.underlying5
  a5 := Tryd.isAgg5
  z5 := Tryd.sizeOf5
  v5 := Tryd.zeroValue5
  t9 := Tryd.underlying9
  a9 := Tryd.isAgg9
  z9 := Tryd.sizeOf9
  v9 := Tryd.zeroValue9 }
open Go.RowKit Go.Lib in
/-- internal/stringslite.IndexByte (what strings.IndexByte calls): IT RETURNS 'Lib.indexByte s c'; the world is as it was. (LAID: no walk: one application.) -/
theorem Tryd.stringslite_IndexByte (s : ByteArray) (c : Int) (w : World) :
    Calls Tryd.prog 116 #[.string s, .int .u8 c] w fun e w' => e = .returned (.int .i64 (Lib.indexByte s.data.toList c.toNat.toUInt8)) ∧ w' = w := Any.stringslite_IndexByte Tryd.lays217 s c w
def Tryd.lays224_ren : Go.Shelf.Ren := ⟨fun | 224 => 113 | n => n, fun | 3 => 3 | n => n, fun | n => n⟩
theorem Tryd.lays224 : Go.Proofs.Lays.n224 Tryd.prog Tryd.lays224_ren := {
  mixed := by kernel_rfl
  f224 := Tryd.func113.trans (congrArg some (by kernel_rfl))
  t3 := Tryd.underlying3
  a3 := Tryd.isAgg3
  z3 := Tryd.sizeOf3
  v3 := Tryd.zeroValue3 }
open Go.RowKit Go.Lib in
/-- internal/bytealg.Cutover: "Cutover reports the number of failures of IndexByte we should tolerate before switching over to Index. n is the number of bytes processed so far.": on amd64: (n + 16) / 8. (LAID: no walk: one application.) -/
theorem Tryd.bytealg_Cutover (n : Int) (h0 : 0 ≤ n) (h1 : n < 4611686018427387904) (w : World) :
    Calls Tryd.prog 113 #[.int .i64 n] w fun e w' => e = .returned (.int .i64 ((n + 16) / 8)) ∧ w' = w := Any.bytealg_Cutover Tryd.lays224 n h0 h1 w
def Tryd.lays314_ren : Go.Shelf.Ren := ⟨fun | 314 => 119 | n => n, fun | 9 => 9 | 51 => 143 | 3 => 3 | 4 => 4 | 5 => 5 | 46 => 129 | n => n, fun | n => n⟩
theorem Tryd.lays314 : Go.Proofs.Lays.n314 Tryd.prog Tryd.lays314_ren := {
  mixed := by kernel_rfl
  f314 := Tryd.func119.trans (congrArg some (by kernel_rfl))
  t3 := Tryd.underlying3
  a3 := Tryd.isAgg3
  z3 := Tryd.sizeOf3
  v3 := Tryd.zeroValue3
  t4 := Tryd.underlying4
  a4 := Tryd.isAgg4
  z4 := Tryd.sizeOf4
  v4 := Tryd.zeroValue4
  t5 := Tryd.underlying5
  a5 := Tryd.isAgg5
  z5 := Tryd.sizeOf5
  v5 := Tryd.zeroValue5
  t9 := Tryd.underlying9
  a9 := Tryd.isAgg9
  z9 := Tryd.sizeOf9
  v9 := Tryd.zeroValue9
  t46 := Tryd.underlying129
  a46 := Tryd.isAgg129
  z46 := Tryd.sizeOf129
  v46 := Tryd.zeroValue129
  t51 := Tryd.underlying143
  a51 := Tryd.isAgg143
  z51 := Tryd.sizeOf143
  v51 := Tryd.zeroValue143 }
open Go.RowKit Go.Lib in
/-- hashStr: "returns the hash and the appropriate multiplicative factor for use in Rabin-Karp algorithm": THE HASH OF ALL OF sep, AND 16777619 ^ len(sep), both in uint32. (LAID: no walk: one application.) -/
theorem Tryd.bytealg_hashStr (sep : ByteArray) (hs : sep.size < 4294967281) (w : World) :
    Calls Tryd.prog 119 #[.string sep] w fun e w' => e = .returned (.tuple #[.int .u32 (RK.H sep.data.toList % 4294967296), .int .u32 (16777619 ^ sep.size % 4294967296)]) ∧ w' = w := Any.bytealg_hashStr Tryd.lays314 sep hs w
def Tryd.lays267_ren : Go.Shelf.Ren := ⟨fun | 267 => 117 | 314 => 119 | n => n, fun | 9 => 9 | 3 => 3 | 146 => 144 | 51 => 143 | 4 => 4 | 5 => 5 | 46 => 129 | n => n, fun | n => n⟩
theorem Tryd.lays267 : Go.Proofs.Lays.n267 Tryd.prog Tryd.lays267_ren := {
  mixed := by kernel_rfl
  f267 := Tryd.func117.trans (congrArg some (by kernel_rfl))
  f314 := Tryd.func119.trans (congrArg some (by kernel_rfl))
  t3 := Tryd.underlying3
  a3 := Tryd.isAgg3
  z3 := Tryd.sizeOf3
  v3 := Tryd.zeroValue3
  t4 := Tryd.underlying4
  a4 := Tryd.isAgg4
  z4 := Tryd.sizeOf4
  v4 := Tryd.zeroValue4
  t5 := Tryd.underlying5
  a5 := Tryd.isAgg5
  z5 := Tryd.sizeOf5
  v5 := Tryd.zeroValue5
  t9 := Tryd.underlying9
  a9 := Tryd.isAgg9
  z9 := Tryd.sizeOf9
  v9 := Tryd.zeroValue9
  t46 := Tryd.underlying129
  a46 := Tryd.isAgg129
  z46 := Tryd.sizeOf129
  v46 := Tryd.zeroValue129
  t51 := Tryd.underlying143
  a51 := Tryd.isAgg143
  z51 := Tryd.sizeOf143
  v51 := Tryd.zeroValue143
  t146 := Tryd.underlying144
  a146 := Tryd.isAgg144
  z146 := Tryd.sizeOf144
  v146 := Tryd.zeroValue144 }
open Go.RowKit Go.Lib in
theorem Tryd.bytealg_IndexRabinKarp (s sep : ByteArray) (h1 : 1 ≤ sep.size) (h2 : sep.size ≤ s.size) (hs : s.size < 4294967281) (w : World) :
    Calls Tryd.prog 117 #[.string s, .string sep] w fun e w' => e = .returned (.int .i64 (Lib.index s.data.toList sep.data.toList)) ∧ w' = w := Any.bytealg_IndexRabinKarp Tryd.lays267 s sep h1 h2 hs w
def Tryd.lays219_ren : Go.Shelf.Ren := ⟨fun | 219 => 110 | 217 => 116 | 225 => 114 | 224 => 113 | 267 => 117 | 266 => 118 | 314 => 119 | n => n, fun | 9 => 9 | 3 => 3 | 4 => 4 | 5 => 5 | 46 => 129 | 146 => 144 | 51 => 143 | n => n, fun | 1 => 0 | n => n⟩
theorem Tryd.lays219 : Go.Proofs.Lays.n219 Tryd.prog Tryd.lays219_ren := {
  mixed := by kernel_rfl
  f217 := Tryd.func116.trans (congrArg some (by kernel_rfl))
  f219 := Tryd.func110.trans (congrArg some (by kernel_rfl))
  f224 := Tryd.func113.trans (congrArg some (by kernel_rfl))
  f225 := Tryd.func114.trans (congrArg some (by kernel_rfl))
  f266 := Tryd.func118.trans (congrArg some (by kernel_rfl))
  f267 := Tryd.func117.trans (congrArg some (by kernel_rfl))
  f314 := Tryd.func119.trans (congrArg some (by kernel_rfl))
  t3 := Tryd.underlying3
  a3 := Tryd.isAgg3
  z3 := Tryd.sizeOf3
  v3 := Tryd.zeroValue3
  t4 := Tryd.underlying4
  a4 := Tryd.isAgg4
  z4 := Tryd.sizeOf4
  v4 := Tryd.zeroValue4
  t5 := Tryd.underlying5
  a5 := Tryd.isAgg5
  z5 := Tryd.sizeOf5
  v5 := Tryd.zeroValue5
  t9 := Tryd.underlying9
  a9 := Tryd.isAgg9
  z9 := Tryd.sizeOf9
  v9 := Tryd.zeroValue9
  t46 := Tryd.underlying129
  a46 := Tryd.isAgg129
  z46 := Tryd.sizeOf129
  v46 := Tryd.zeroValue129
  t51 := Tryd.underlying143
  a51 := Tryd.isAgg143
  z51 := Tryd.sizeOf143
  v51 := Tryd.zeroValue143
  t146 := Tryd.underlying144
  a146 := Tryd.isAgg144
  z146 := Tryd.sizeOf144
  v146 := Tryd.zeroValue144
  g1 := by kernel_rfl }
open Go.RowKit Go.Lib in
/-- internal/stringslite.Index (what strings.Index calls) AT A substr OF ONE BYTE c: IT RETURNS 'Lib.indexByte s c'; the world is as it was. (LAID: no walk: one application.) -/
theorem Tryd.stringslite_Index_one (s : ByteArray) (c : UInt8) (w : World) :
    Calls Tryd.prog 110 #[.string s, .string ⟨#[c]⟩] w fun e w' => e = .returned (.int .i64 (Lib.indexByte s.data.toList c)) ∧ w' = w := Any.stringslite_Index_one Tryd.lays219 s c w
open Go.RowKit Go.Lib in
/-- internal/stringslite.Index (what strings.Index calls) AT A substr OF WHATEVER LENGTH: IT RETURNS 'Lib.index s substr'; the world is as it was. 'm': what internal/bytealg.MaxLen holds: whatever. (LAID: no walk: one application.) -/
theorem Tryd.stringslite_Index (s sub : ByteArray) (m : Int) (w : World) (hs : s.size < 4294967281) (hm : w.cell? ⟨0, 0, none⟩ = some (.int .i64 m)) :
    Calls Tryd.prog 110 #[.string s, .string sub] w fun e w' => e = .returned (.int .i64 (Lib.index s.data.toList sub.data.toList)) ∧ w' = w := Any.stringslite_Index Tryd.lays219 s sub m w hs hm
def Tryd.lays143_ren : Go.Shelf.Ren := ⟨fun | 143 => 100 | 219 => 110 | 217 => 116 | 225 => 114 | 224 => 113 | 267 => 117 | 266 => 118 | 314 => 119 | n => n, fun | 9 => 9 | 3 => 3 | 4 => 4 | 5 => 5 | 46 => 129 | 146 => 144 | 51 => 143 | n => n, fun | 1 => 0 | n => n⟩
theorem Tryd.lays143 : Go.Proofs.Lays.n143 Tryd.prog Tryd.lays143_ren := {
  mixed := by kernel_rfl
  f143 := Tryd.func100.trans (congrArg some (by kernel_rfl))
  f217 := Tryd.func116.trans (congrArg some (by kernel_rfl))
  f219 := Tryd.func110.trans (congrArg some (by kernel_rfl))
  f224 := Tryd.func113.trans (congrArg some (by kernel_rfl))
  f225 := Tryd.func114.trans (congrArg some (by kernel_rfl))
  f266 := Tryd.func118.trans (congrArg some (by kernel_rfl))
  f267 := Tryd.func117.trans (congrArg some (by kernel_rfl))
  f314 := Tryd.func119.trans (congrArg some (by kernel_rfl))
  t3 := Tryd.underlying3
  a3 := Tryd.isAgg3
  z3 := Tryd.sizeOf3
  v3 := Tryd.zeroValue3
  t4 := Tryd.underlying4
  a4 := Tryd.isAgg4
  z4 := Tryd.sizeOf4
  v4 := Tryd.zeroValue4
  t5 := Tryd.underlying5
  a5 := Tryd.isAgg5
  z5 := Tryd.sizeOf5
  v5 := Tryd.zeroValue5
  t9 := Tryd.underlying9
  a9 := Tryd.isAgg9
  z9 := Tryd.sizeOf9
  v9 := Tryd.zeroValue9
  t46 := Tryd.underlying129
  a46 := Tryd.isAgg129
  z46 := Tryd.sizeOf129
  v46 := Tryd.zeroValue129
  t51 := Tryd.underlying143
  a51 := Tryd.isAgg143
  z51 := Tryd.sizeOf143
  v51 := Tryd.zeroValue143
  t146 := Tryd.underlying144
  a146 := Tryd.isAgg144
  z146 := Tryd.sizeOf144
  v146 := Tryd.zeroValue144
  g1 := by kernel_rfl }
open Go.RowKit Go.Lib in
/-- strings.Index: "Index returns the index of the first instance of substr in s, or -1 if substr is not present in s.": AT A substr OF ONE BYTE c: IT RETURNS 'Lib.indexByte s c'; the world is as it was. (LAID: no walk: one application.) -/
theorem Tryd.strings_Index_one (s : ByteArray) (c : UInt8) (w : World) :
    Calls Tryd.prog 100 #[.string s, .string ⟨#[c]⟩] w fun e w' => e = .returned (.int .i64 (Lib.indexByte s.data.toList c)) ∧ w' = w := Any.strings_Index_one Tryd.lays143 s c w
open Go.RowKit Go.Lib in
/-- strings.Index: "Index returns the index of the first instance of substr in s, or -1 if substr is not present in s.": IT RETURNS 'Lib.index s substr'; the world is as it was. (LAID: no walk: one application.) -/
theorem Tryd.strings_Index (s sub : ByteArray) (m : Int) (w : World) (hs : s.size < 4294967281) (hm : w.cell? ⟨0, 0, none⟩ = some (.int .i64 m)) :
    Calls Tryd.prog 100 #[.string s, .string sub] w fun e w' => e = .returned (.int .i64 (Lib.index s.data.toList sub.data.toList)) ∧ w' = w := Any.strings_Index Tryd.lays143 s sub m w hs hm
def Tryd.lays138_ren : Go.Shelf.Ren := ⟨fun | 138 => 99 | 195 => 107 | 218 => 109 | 143 => 100 | 219 => 110 | 217 => 116 | 225 => 114 | 224 => 113 | 267 => 117 | 266 => 118 | 314 => 119 | n => n, fun | 9 => 9 | 3 => 3 | 4 => 4 | 5 => 5 | 0 => 0 | 46 => 129 | 146 => 144 | 51 => 143 | n => n, fun | 1 => 0 | n => n⟩
theorem Tryd.lays138 : Go.Proofs.Lays.n138 Tryd.prog Tryd.lays138_ren := {
  mixed := by kernel_rfl
  f138 := Tryd.func99.trans (congrArg some (by kernel_rfl))
  f143 := Tryd.func100.trans (congrArg some (by kernel_rfl))
  f195 := Tryd.func107.trans (congrArg some (by kernel_rfl))
  f217 := Tryd.func116.trans (congrArg some (by kernel_rfl))
  f218 := Tryd.func109.trans (congrArg some (by kernel_rfl))
  f219 := Tryd.func110.trans (congrArg some (by kernel_rfl))
  f224 := Tryd.func113.trans (congrArg some (by kernel_rfl))
  f225 := Tryd.func114.trans (congrArg some (by kernel_rfl))
  f266 := Tryd.func118.trans (congrArg some (by kernel_rfl))
  f267 := Tryd.func117.trans (congrArg some (by kernel_rfl))
  f314 := Tryd.func119.trans (congrArg some (by kernel_rfl))
  t0 := Tryd.underlying0
  a0 := Tryd.isAgg0
  z0 := Tryd.sizeOf0
  v0 := Tryd.zeroValue0
  t3 := Tryd.underlying3
  a3 := Tryd.isAgg3
  z3 := Tryd.sizeOf3
  v3 := Tryd.zeroValue3
  t4 := Tryd.underlying4
  a4 := Tryd.isAgg4
  z4 := Tryd.sizeOf4
  v4 := Tryd.zeroValue4
  t5 := Tryd.underlying5
  a5 := Tryd.isAgg5
  z5 := Tryd.sizeOf5
  v5 := Tryd.zeroValue5
  t9 := Tryd.underlying9
  a9 := Tryd.isAgg9
  z9 := Tryd.sizeOf9
  v9 := Tryd.zeroValue9
  t46 := Tryd.underlying129
  a46 := Tryd.isAgg129
  z46 := Tryd.sizeOf129
  v46 := Tryd.zeroValue129
  t51 := Tryd.underlying143
  a51 := Tryd.isAgg143
  z51 := Tryd.sizeOf143
  v51 := Tryd.zeroValue143
  t146 := Tryd.underlying144
  a146 := Tryd.isAgg144
  z146 := Tryd.sizeOf144
  v146 := Tryd.zeroValue144
  g1 := by kernel_rfl }
open Go.RowKit Go.Lib in
/-- strings.Count AT A substr OF ONE BYTE ('hp'): "Count counts the number of non-overlapping instances of substr in s.": IT RETURNS 'Lib.countByte s (that byte)'; the world is as it was. ✋ NO CONTRACT HERE YET at an empty substr (utf8.RuneCountInString) or at a longer one (a loop over strings.Index). (LAID: no walk: one application.) -/
theorem Tryd.strings_Count_one (s : ByteArray) (c : UInt8) (w : World) :
    Calls Tryd.prog 99 #[.string s, .string ⟨#[c]⟩] w fun e w' => e = .returned (.int .i64 (Lib.countByte s.data.toList c)) ∧ w' = w := Any.strings_Count_one Tryd.lays138 s c w
open Go.RowKit Go.Lib in
/-- strings.Count AT A substr OF TWO BYTES OR MORE: "Count counts the number of non-overlapping instances of substr in s.": IT RETURNS 'Lib.count s substr'; the world is as it was. (LAID: no walk: one application.) -/
theorem Tryd.strings_Count (s sub : ByteArray) (m : Int) (w : World) (hs : s.size < 4294967281) (hm : w.cell? ⟨0, 0, none⟩ = some (.int .i64 m)) (h2 : 2 ≤ sub.size) :
    Calls Tryd.prog 99 #[.string s, .string sub] w fun e w' => e = .returned (.int .i64 (Lib.countB s sub)) ∧ w' = w := Any.strings_Count Tryd.lays138 s sub m w hs hm h2
def Tryd.laysM219_ren : Go.Shelf.Ren := ⟨fun | 219 => 110 | 217 => 116 | 225 => 114 | 224 => 113 | 267 => 117 | 266 => 118 | 314 => 119 | n => n, fun | 9 => 9 | 3 => 3 | 4 => 4 | 5 => 5 | 46 => 129 | 146 => 144 | 51 => 143 | n => n, fun | 1 => 0 | n => n⟩
theorem Tryd.laysM219 : Go.Proofs.LaysM.n219 Tryd.prog Tryd.laysM219_ren := {
  mixed := by kernel_rfl
  f217 := Tryd.func116.trans (congrArg some (by kernel_rfl))
  f219 := Tryd.func110.trans (congrArg some (by kernel_rfl))
  f224 := Tryd.func113.trans (congrArg some (by kernel_rfl))
  f225 := Tryd.func114.trans (congrArg some (by kernel_rfl))
  f266 := Tryd.func118.trans (congrArg some (by kernel_rfl))
  f267 := Tryd.func117.trans (congrArg some (by kernel_rfl))
  f314 := Tryd.func119.trans (congrArg some (by kernel_rfl))
  t3 := Tryd.underlying3
  a3 := Tryd.isAgg3
  z3 := Tryd.sizeOf3
  v3 := Tryd.zeroValue3
  t4 := Tryd.underlying4
  a4 := Tryd.isAgg4
  z4 := Tryd.sizeOf4
  v4 := Tryd.zeroValue4
  t5 := Tryd.underlying5
  a5 := Tryd.isAgg5
  z5 := Tryd.sizeOf5
  v5 := Tryd.zeroValue5
  t9 := Tryd.underlying9
  a9 := Tryd.isAgg9
  z9 := Tryd.sizeOf9
  v9 := Tryd.zeroValue9
  t46 := Tryd.underlying129
  a46 := Tryd.isAgg129
  z46 := Tryd.sizeOf129
  v46 := Tryd.zeroValue129
  t51 := Tryd.underlying143
  a51 := Tryd.isAgg143
  z51 := Tryd.sizeOf143
  v51 := Tryd.zeroValue143
  t146 := Tryd.underlying144
  a146 := Tryd.isAgg144
  z146 := Tryd.sizeOf144
  v146 := Tryd.zeroValue144
  g1 := by kernel_rfl
  i3 := by kernel_rfl
  i4 := by kernel_rfl
  i5 := by kernel_rfl
  i9 := by kernel_rfl
  i46 := by kernel_rfl
  i51 := by kernel_rfl
  i146 := by kernel_rfl
  m1 := by kernel_rfl
  s1_3 := fun w h => Go.Proofs.cell_of_shapedOpen_int (zero := #[.int .i64 0]) (t := 3) h (of_decide_eq_true (by kernel_rfl)) (by kernel_rfl) rfl (by kernel_rfl) (by kernel_rfl) Tryd.underlying3 }
open Go.RowKit Go.Lib in
theorem Tryd.stringslite_Index_shaped (s sub : ByteArray) (w : World) (h : w.ShapedOpen Tryd.prog) (hs : s.size < 4294967281) :
    Calls Tryd.prog 110 #[.string s, .string sub] w fun e w' => e = .returned (.int .i64 (Lib.index s.data.toList sub.data.toList)) ∧ w' = w := Any.stringslite_Index_shaped Tryd.laysM219 s sub w h hs
def Tryd.laysM143_ren : Go.Shelf.Ren := ⟨fun | 143 => 100 | 219 => 110 | 217 => 116 | 225 => 114 | 224 => 113 | 267 => 117 | 266 => 118 | 314 => 119 | n => n, fun | 9 => 9 | 3 => 3 | 4 => 4 | 5 => 5 | 46 => 129 | 146 => 144 | 51 => 143 | n => n, fun | 1 => 0 | n => n⟩
theorem Tryd.laysM143 : Go.Proofs.LaysM.n143 Tryd.prog Tryd.laysM143_ren := {
  mixed := by kernel_rfl
  f143 := Tryd.func100.trans (congrArg some (by kernel_rfl))
  f217 := Tryd.func116.trans (congrArg some (by kernel_rfl))
  f219 := Tryd.func110.trans (congrArg some (by kernel_rfl))
  f224 := Tryd.func113.trans (congrArg some (by kernel_rfl))
  f225 := Tryd.func114.trans (congrArg some (by kernel_rfl))
  f266 := Tryd.func118.trans (congrArg some (by kernel_rfl))
  f267 := Tryd.func117.trans (congrArg some (by kernel_rfl))
  f314 := Tryd.func119.trans (congrArg some (by kernel_rfl))
  t3 := Tryd.underlying3
  a3 := Tryd.isAgg3
  z3 := Tryd.sizeOf3
  v3 := Tryd.zeroValue3
  t4 := Tryd.underlying4
  a4 := Tryd.isAgg4
  z4 := Tryd.sizeOf4
  v4 := Tryd.zeroValue4
  t5 := Tryd.underlying5
  a5 := Tryd.isAgg5
  z5 := Tryd.sizeOf5
  v5 := Tryd.zeroValue5
  t9 := Tryd.underlying9
  a9 := Tryd.isAgg9
  z9 := Tryd.sizeOf9
  v9 := Tryd.zeroValue9
  t46 := Tryd.underlying129
  a46 := Tryd.isAgg129
  z46 := Tryd.sizeOf129
  v46 := Tryd.zeroValue129
  t51 := Tryd.underlying143
  a51 := Tryd.isAgg143
  z51 := Tryd.sizeOf143
  v51 := Tryd.zeroValue143
  t146 := Tryd.underlying144
  a146 := Tryd.isAgg144
  z146 := Tryd.sizeOf144
  v146 := Tryd.zeroValue144
  g1 := by kernel_rfl
  i3 := by kernel_rfl
  i4 := by kernel_rfl
  i5 := by kernel_rfl
  i9 := by kernel_rfl
  i46 := by kernel_rfl
  i51 := by kernel_rfl
  i146 := by kernel_rfl
  m1 := by kernel_rfl
  s1_3 := fun w h => Go.Proofs.cell_of_shapedOpen_int (zero := #[.int .i64 0]) (t := 3) h (of_decide_eq_true (by kernel_rfl)) (by kernel_rfl) rfl (by kernel_rfl) (by kernel_rfl) Tryd.underlying3 }
open Go.RowKit Go.Lib in
theorem Tryd.strings_Index_shaped (s sub : ByteArray) (w : World) (h : w.ShapedOpen Tryd.prog) (hs : s.size < 4294967281) :
    Calls Tryd.prog 100 #[.string s, .string sub] w fun e w' => e = .returned (.int .i64 (Lib.index s.data.toList sub.data.toList)) ∧ w' = w := Any.strings_Index_shaped Tryd.laysM143 s sub w h hs
def Tryd.laysM138_ren : Go.Shelf.Ren := ⟨fun | 138 => 99 | 195 => 107 | 218 => 109 | 143 => 100 | 219 => 110 | 217 => 116 | 225 => 114 | 224 => 113 | 267 => 117 | 266 => 118 | 314 => 119 | n => n, fun | 9 => 9 | 3 => 3 | 4 => 4 | 5 => 5 | 0 => 0 | 46 => 129 | 146 => 144 | 51 => 143 | n => n, fun | 1 => 0 | n => n⟩
theorem Tryd.laysM138 : Go.Proofs.LaysM.n138 Tryd.prog Tryd.laysM138_ren := {
  mixed := by kernel_rfl
  f138 := Tryd.func99.trans (congrArg some (by kernel_rfl))
  f143 := Tryd.func100.trans (congrArg some (by kernel_rfl))
  f195 := Tryd.func107.trans (congrArg some (by kernel_rfl))
  f217 := Tryd.func116.trans (congrArg some (by kernel_rfl))
  f218 := Tryd.func109.trans (congrArg some (by kernel_rfl))
  f219 := Tryd.func110.trans (congrArg some (by kernel_rfl))
  f224 := Tryd.func113.trans (congrArg some (by kernel_rfl))
  f225 := Tryd.func114.trans (congrArg some (by kernel_rfl))
  f266 := Tryd.func118.trans (congrArg some (by kernel_rfl))
  f267 := Tryd.func117.trans (congrArg some (by kernel_rfl))
  f314 := Tryd.func119.trans (congrArg some (by kernel_rfl))
  t0 := Tryd.underlying0
  a0 := Tryd.isAgg0
  z0 := Tryd.sizeOf0
  v0 := Tryd.zeroValue0
  t3 := Tryd.underlying3
  a3 := Tryd.isAgg3
  z3 := Tryd.sizeOf3
  v3 := Tryd.zeroValue3
  t4 := Tryd.underlying4
  a4 := Tryd.isAgg4
  z4 := Tryd.sizeOf4
  v4 := Tryd.zeroValue4
  t5 := Tryd.underlying5
  a5 := Tryd.isAgg5
  z5 := Tryd.sizeOf5
  v5 := Tryd.zeroValue5
  t9 := Tryd.underlying9
  a9 := Tryd.isAgg9
  z9 := Tryd.sizeOf9
  v9 := Tryd.zeroValue9
  t46 := Tryd.underlying129
  a46 := Tryd.isAgg129
  z46 := Tryd.sizeOf129
  v46 := Tryd.zeroValue129
  t51 := Tryd.underlying143
  a51 := Tryd.isAgg143
  z51 := Tryd.sizeOf143
  v51 := Tryd.zeroValue143
  t146 := Tryd.underlying144
  a146 := Tryd.isAgg144
  z146 := Tryd.sizeOf144
  v146 := Tryd.zeroValue144
  g1 := by kernel_rfl
  i0 := by kernel_rfl
  i3 := by kernel_rfl
  i4 := by kernel_rfl
  i5 := by kernel_rfl
  i9 := by kernel_rfl
  i46 := by kernel_rfl
  i51 := by kernel_rfl
  i146 := by kernel_rfl
  m1 := by kernel_rfl
  s1_3 := fun w h => Go.Proofs.cell_of_shapedOpen_int (zero := #[.int .i64 0]) (t := 3) h (of_decide_eq_true (by kernel_rfl)) (by kernel_rfl) rfl (by kernel_rfl) (by kernel_rfl) Tryd.underlying3 }
open Go.RowKit Go.Lib in
theorem Tryd.strings_Count_shaped (s sub : ByteArray) (w : World) (h : w.ShapedOpen Tryd.prog) (hs : s.size < 4294967281) (h2 : 2 ≤ sub.size) :
    Calls Tryd.prog 99 #[.string s, .string sub] w fun e w' => e = .returned (.int .i64 (Lib.countB s sub)) ∧ w' = w := Any.strings_Count_shaped Tryd.laysM138 s sub w h hs h2
def Tryd.lays315_ren : Go.Shelf.Ren := ⟨fun | 315 => 105 | n => n, fun | 9 => 9 | 40 => 99 | 4 => 4 | 3 => 3 | 0 => 0 | 21 => 21 | n => n, fun | n => n⟩
theorem Tryd.lays315 : Go.Proofs.Lays.n315 Tryd.prog Tryd.lays315_ren := {
  mixed := by kernel_rfl
  f315 := Tryd.func105.trans (congrArg some (by kernel_rfl))
  t0 := Tryd.underlying0
  a0 := Tryd.isAgg0
  z0 := Tryd.sizeOf0
  v0 := Tryd.zeroValue0
  t3 := Tryd.underlying3
  a3 := Tryd.isAgg3
  z3 := Tryd.sizeOf3
  v3 := Tryd.zeroValue3
  t4 := Tryd.underlying4
  a4 := Tryd.isAgg4
  z4 := Tryd.sizeOf4
  v4 := Tryd.zeroValue4
  t9 := Tryd.underlying9
  a9 := Tryd.isAgg9
  z9 := Tryd.sizeOf9
  v9 := Tryd.zeroValue9
  t21 := Tryd.underlying21
  a21 := Tryd.isAgg21
  z21 := Tryd.sizeOf21
  v21 := Tryd.zeroValue21
  t40 := Tryd.underlying99
  a40 := Tryd.isAgg99
  z40 := Tryd.sizeOf99
  v40 := Tryd.zeroValue99 }
open Go.RowKit Go.Lib in
theorem Tryd.strings_indexFunc (g : Nat) (lb : Array Value) (eg : ∀ args w, (callFunc g args).run Tryd.prog w = .ok (.enter g args) w) (p : Nat → Bool) (truth : Bool) (s : ByteArray) (w : World) (hp : PredAt Tryd.prog g lb encR p w) :
    Calls Tryd.prog 105 #[.string s, .func (.func g) #[] lb, .bool truth] w fun e w' => e = .returned (.int .i64 (Lib.idxFunc p truth s)) ∧ Below w.heap.size w w' := Any.strings_indexFunc Tryd.lays315 g lb eg p truth s w hp
def Tryd.laysGw15_ren : Go.Shelf.Ren := ⟨fun | 15 => 95 | 20 => 105 | n => n, fun | 9 => 9 | 23 => 99 | 3 => 3 | 4 => 4 | 0 => 0 | 21 => 21 | n => n, fun | n => n⟩
theorem Tryd.laysGw15 : Go.Proofs.LaysGw.n15 Tryd.prog Tryd.laysGw15_ren := {
  mixed := by kernel_rfl
  f15 := Tryd.func95.trans (congrArg some (by kernel_rfl))
  f20 := Tryd.func105.trans (congrArg some (by kernel_rfl))
  t0 := Tryd.underlying0
  a0 := Tryd.isAgg0
  z0 := Tryd.sizeOf0
  v0 := Tryd.zeroValue0
  i0 := by kernel_rfl
  t3 := Tryd.underlying3
  a3 := Tryd.isAgg3
  z3 := Tryd.sizeOf3
  v3 := Tryd.zeroValue3
  i3 := by kernel_rfl
  t4 := Tryd.underlying4
  a4 := Tryd.isAgg4
  z4 := Tryd.sizeOf4
  v4 := Tryd.zeroValue4
  i4 := by kernel_rfl
  t9 := Tryd.underlying9
  a9 := Tryd.isAgg9
  z9 := Tryd.sizeOf9
  v9 := Tryd.zeroValue9
  i9 := by kernel_rfl
  t21 := Tryd.underlying21
  a21 := Tryd.isAgg21
  z21 := Tryd.sizeOf21
  v21 := Tryd.zeroValue21
  i21 := by kernel_rfl
  t23 := Tryd.underlying99
  a23 := Tryd.isAgg99
  z23 := Tryd.sizeOf99
  v23 := Tryd.zeroValue99
  i23 := by kernel_rfl }
open Go.RowKit Go.Lib in
theorem Tryd.strings_IndexFunc (g : Nat) (lb : Array Value) (eg : ∀ args w, (callFunc g args).run Tryd.prog w = .ok (.enter g args) w) (p : Nat → Bool) (s : ByteArray) (w : World) (hp : PredAt Tryd.prog g lb encR p w) :
    Calls Tryd.prog 95 #[.string s, .func (.func g) #[] lb] w fun e w' => e = .returned (.int .i64 (Lib.idxFunc p true s)) ∧ Below w.heap.size w w' := Any.strings_IndexFunc Tryd.laysGw15 g lb eg p s w hp
def Tryd.laysGw17_ren : Go.Shelf.Ren := ⟨fun | 17 => 73 | 15 => 95 | 20 => 105 | n => n, fun | 9 => 9 | 23 => 99 | 4 => 4 | 3 => 3 | 0 => 0 | 21 => 21 | n => n, fun | n => n⟩
theorem Tryd.laysGw17 : Go.Proofs.LaysGw.n17 Tryd.prog Tryd.laysGw17_ren := {
  mixed := by kernel_rfl
  f15 := Tryd.func95.trans (congrArg some (by kernel_rfl))
  f17 := Tryd.func73.trans (congrArg some (by kernel_rfl))
  f20 := Tryd.func105.trans (congrArg some (by kernel_rfl))
  t0 := Tryd.underlying0
  a0 := Tryd.isAgg0
  z0 := Tryd.sizeOf0
  v0 := Tryd.zeroValue0
  i0 := by kernel_rfl
  t3 := Tryd.underlying3
  a3 := Tryd.isAgg3
  z3 := Tryd.sizeOf3
  v3 := Tryd.zeroValue3
  i3 := by kernel_rfl
  t4 := Tryd.underlying4
  a4 := Tryd.isAgg4
  z4 := Tryd.sizeOf4
  v4 := Tryd.zeroValue4
  i4 := by kernel_rfl
  t9 := Tryd.underlying9
  a9 := Tryd.isAgg9
  z9 := Tryd.sizeOf9
  v9 := Tryd.zeroValue9
  i9 := by kernel_rfl
  t21 := Tryd.underlying21
  a21 := Tryd.isAgg21
  z21 := Tryd.sizeOf21
  v21 := Tryd.zeroValue21
  i21 := by kernel_rfl
  t23 := Tryd.underlying99
  a23 := Tryd.isAgg99
  z23 := Tryd.sizeOf99
  v23 := Tryd.zeroValue99
  i23 := by kernel_rfl }
open Go.RowKit Go.Lib in
theorem Tryd.strings_ContainsFunc (g : Nat) (lb : Array Value) (eg : ∀ args w, (callFunc g args).run Tryd.prog w = .ok (.enter g args) w) (p : Nat → Bool) (s : ByteArray) (w : World) (hp : PredAt Tryd.prog g lb encR p w) :
    Calls Tryd.prog 73 #[.string s, .func (.func g) #[] lb] w fun e w' => e = .returned (.bool (decide (0 ≤ Lib.idxFunc p true s))) ∧ Below w.heap.size w w' := Any.strings_ContainsFunc Tryd.laysGw17 g lb eg p s w hp
open Go.RowKit Go.Lib in
theorem Tryd.strings_indexFunc_runes (g : Nat) (lb : Array Value) (eg : ∀ args w, (callFunc g args).run Tryd.prog w = .ok (.enter g args) w) (p : Nat → Bool) (truth : Bool) (s : ByteArray) (w : World) (hp : PredAtRunes Tryd.prog g lb p w) :
    Calls Tryd.prog 105 #[.string s, .func (.func g) #[] lb, .bool truth] w fun e w' => e = .returned (.int .i64 (Lib.idxFunc p truth s)) ∧ Below w.heap.size w w' := Any.strings_indexFunc_runes Tryd.lays315 g lb eg p truth s w hp
open Go.RowKit Go.Lib in
theorem Tryd.strings_IndexFunc_runes (g : Nat) (lb : Array Value) (eg : ∀ args w, (callFunc g args).run Tryd.prog w = .ok (.enter g args) w) (p : Nat → Bool) (s : ByteArray) (w : World) (hp : PredAtRunes Tryd.prog g lb p w) :
    Calls Tryd.prog 95 #[.string s, .func (.func g) #[] lb] w fun e w' => e = .returned (.int .i64 (Lib.idxFunc p true s)) ∧ Below w.heap.size w w' := Any.strings_IndexFunc_runes Tryd.laysGw15 g lb eg p s w hp
open Go.RowKit Go.Lib in
theorem Tryd.strings_ContainsFunc_runes (g : Nat) (lb : Array Value) (eg : ∀ args w, (callFunc g args).run Tryd.prog w = .ok (.enter g args) w) (p : Nat → Bool) (s : ByteArray) (w : World) (hp : PredAtRunes Tryd.prog g lb p w) :
    Calls Tryd.prog 73 #[.string s, .func (.func g) #[] lb] w fun e w' => e = .returned (.bool (decide (0 ≤ Lib.idxFunc p true s))) ∧ Below w.heap.size w w' := Any.strings_ContainsFunc_runes Tryd.laysGw17 g lb eg p s w hp
def Tryd.lays207_ren : Go.Shelf.Ren := ⟨fun | 207 => 101 | n => n, fun | 9 => 9 | 4 => 4 | 3 => 3 | n => n, fun | n => n⟩
theorem Tryd.lays207 : Go.Proofs.Lays.n207 Tryd.prog Tryd.lays207_ren := {
  mixed := by kernel_rfl
  f207 := Tryd.func101.trans (congrArg some (by kernel_rfl))
  t3 := Tryd.underlying3
  a3 := Tryd.isAgg3
  z3 := Tryd.sizeOf3
  v3 := Tryd.zeroValue3
  t4 := Tryd.underlying4
  a4 := Tryd.isAgg4
  z4 := Tryd.sizeOf4
  v4 := Tryd.zeroValue4
  t9 := Tryd.underlying9
  a9 := Tryd.isAgg9
  z9 := Tryd.sizeOf9
  v9 := Tryd.zeroValue9 }
open Go.RowKit Go.Lib in
/-- internal/stringslite.HasSuffix (what strings.HasSuffix calls). (LAID: no walk: one application.) -/
theorem Tryd.stringslite_HasSuffix (s p : ByteArray) (w : World) (hs : s.size ≤ 9223372036854775807) :
    Calls Tryd.prog 101 #[.string s, .string p] w fun e w' => e = .returned (.bool (Lib.hasSuffix s.data.toList p.data.toList)) ∧ w' = w := Any.stringslite_HasSuffix Tryd.lays207 s p w hs
def Tryd.lays209_ren : Go.Shelf.Ren := ⟨fun | 209 => 79 | 207 => 101 | n => n, fun | 9 => 9 | 4 => 4 | 3 => 3 | n => n, fun | n => n⟩
theorem Tryd.lays209 : Go.Proofs.Lays.n209 Tryd.prog Tryd.lays209_ren := {
  mixed := by kernel_rfl
  f207 := Tryd.func101.trans (congrArg some (by kernel_rfl))
  f209 := Tryd.func79.trans (congrArg some (by kernel_rfl))
  t3 := Tryd.underlying3
  a3 := Tryd.isAgg3
  z3 := Tryd.sizeOf3
  v3 := Tryd.zeroValue3
  t4 := Tryd.underlying4
  a4 := Tryd.isAgg4
  z4 := Tryd.sizeOf4
  v4 := Tryd.zeroValue4
  t9 := Tryd.underlying9
  a9 := Tryd.isAgg9
  z9 := Tryd.sizeOf9
  v9 := Tryd.zeroValue9 }
open Go.RowKit Go.Lib in
/-- internal/stringslite.TrimSuffix (what strings.TrimSuffix calls). (LAID: no walk: one application.) -/
theorem Tryd.stringslite_TrimSuffix (s p : ByteArray) (w : World) (hs : s.size ≤ 9223372036854775807) :
    Calls Tryd.prog 79 #[.string s, .string p] w fun e w' => e = .returned (.string ⟨(Lib.trimSuffix s.data.toList p.data.toList).toArray⟩) ∧ w' = w := Any.stringslite_TrimSuffix Tryd.lays209 s p w hs
def Tryd.lays102_ren : Go.Shelf.Ren := ⟨fun | 102 => 51 | 209 => 79 | 207 => 101 | n => n, fun | 9 => 9 | 4 => 4 | 3 => 3 | n => n, fun | n => n⟩
theorem Tryd.lays102 : Go.Proofs.Lays.n102 Tryd.prog Tryd.lays102_ren := {
  mixed := by kernel_rfl
  f102 := Tryd.func51.trans (congrArg some (by kernel_rfl))
  f207 := Tryd.func101.trans (congrArg some (by kernel_rfl))
  f209 := Tryd.func79.trans (congrArg some (by kernel_rfl))
  t3 := Tryd.underlying3
  a3 := Tryd.isAgg3
  z3 := Tryd.sizeOf3
  v3 := Tryd.zeroValue3
  t4 := Tryd.underlying4
  a4 := Tryd.isAgg4
  z4 := Tryd.sizeOf4
  v4 := Tryd.zeroValue4
  t9 := Tryd.underlying9
  a9 := Tryd.isAgg9
  z9 := Tryd.sizeOf9
  v9 := Tryd.zeroValue9 }
open Go.RowKit Go.Lib in
/-- strings.TrimSuffix: "TrimSuffix returns s without the provided trailing suffix string. If s doesn't end with suffix, s is returned unchanged.": IT RETURNS 'Lib.trimSuffix s suffix'; the world is as it was. (LAID: no walk: one application.) -/
theorem Tryd.strings_TrimSuffix (s p : ByteArray) (w : World) (hs : s.size ≤ 9223372036854775807) :
    Calls Tryd.prog 51 #[.string s, .string p] w fun e w' => e = .returned (.string ⟨(Lib.trimSuffix s.data.toList p.data.toList).toArray⟩) ∧ w' = w := Any.strings_TrimSuffix Tryd.lays102 s p w hs
open Go.RowKit Go.Lib in
/-- strings.Count at whatever sep that is not empty: the two roads under one statement. (LAID: no walk: one application.) -/
theorem Tryd.strings_Count_any (s sep : ByteArray) (m : Int) (w : World) (hs : s.size < 4294967281) (hm : w.cell? ⟨0, 0, none⟩ = some (.int .i64 m)) (h1 : 1 ≤ sep.size) :
    Calls Tryd.prog 99 #[.string s, .string sep] w fun e w' => e = .returned (.int .i64 (Lib.countB s sep)) ∧ w' = w := Any.strings_Count_any Tryd.lays138 s sep m w hs hm h1
def Tryd.lays221_ren : Go.Shelf.Ren := ⟨fun | 221 => 78 | 268 => 98 | 138 => 99 | 143 => 100 | 195 => 107 | 197 => 108 | 218 => 109 | 219 => 110 | 260 => 115 | 217 => 116 | 225 => 114 | 224 => 113 | 267 => 117 | 266 => 118 | 314 => 119 | n => n, fun | 9 => 9 | 3 => 3 | 31 => 22 | 4 => 4 | 0 => 0 | 105 => 136 | 21 => 21 | 5 => 5 | 46 => 129 | 119 => 139 | 139 => 142 | 138 => 141 | 146 => 144 | 51 => 143 | n => n, fun | 1 => 0 | 3 => 1 | 4 => 2 | n => n⟩
theorem Tryd.lays221 : Go.Proofs.Lays.n221 Tryd.prog Tryd.lays221_ren := {
  mixed := by kernel_rfl
  f138 := Tryd.func99.trans (congrArg some (by kernel_rfl))
  f143 := Tryd.func100.trans (congrArg some (by kernel_rfl))
  f195 := Tryd.func107.trans (congrArg some (by kernel_rfl))
  f197 := Tryd.func108.trans (congrArg some (by kernel_rfl))
  f217 := Tryd.func116.trans (congrArg some (by kernel_rfl))
  f218 := Tryd.func109.trans (congrArg some (by kernel_rfl))
  f219 := Tryd.func110.trans (congrArg some (by kernel_rfl))
  f221 := Tryd.func78.trans (congrArg some (by kernel_rfl))
  f224 := Tryd.func113.trans (congrArg some (by kernel_rfl))
  f225 := Tryd.func114.trans (congrArg some (by kernel_rfl))
  f260 := Tryd.func115.trans (congrArg some (by kernel_rfl))
  f266 := Tryd.func118.trans (congrArg some (by kernel_rfl))
  f267 := Tryd.func117.trans (congrArg some (by kernel_rfl))
  f268 := Tryd.func98.trans (congrArg some (by kernel_rfl))
  f314 := Tryd.func119.trans (congrArg some (by kernel_rfl))
  t0 := Tryd.underlying0
  a0 := Tryd.isAgg0
  z0 := Tryd.sizeOf0
  v0 := Tryd.zeroValue0
  t3 := Tryd.underlying3
  a3 := Tryd.isAgg3
  z3 := Tryd.sizeOf3
  v3 := Tryd.zeroValue3
  t4 := Tryd.underlying4
  a4 := Tryd.isAgg4
  z4 := Tryd.sizeOf4
  v4 := Tryd.zeroValue4
  t5 := Tryd.underlying5
  a5 := Tryd.isAgg5
  z5 := Tryd.sizeOf5
  v5 := Tryd.zeroValue5
  t9 := Tryd.underlying9
  a9 := Tryd.isAgg9
  z9 := Tryd.sizeOf9
  v9 := Tryd.zeroValue9
  t21 := Tryd.underlying21
  a21 := Tryd.isAgg21
  z21 := Tryd.sizeOf21
  v21 := Tryd.zeroValue21
  t31 := Tryd.underlying22
  a31 := Tryd.isAgg22
  z31 := Tryd.sizeOf22
  v31 := Tryd.zeroValue22
  t46 := Tryd.underlying129
  a46 := Tryd.isAgg129
  z46 := Tryd.sizeOf129
  v46 := Tryd.zeroValue129
  t51 := Tryd.underlying143
  a51 := Tryd.isAgg143
  z51 := Tryd.sizeOf143
  v51 := Tryd.zeroValue143
  t105 := Tryd.underlying136
  a105 := Tryd.isAgg136
  z105 := Tryd.sizeOf136
  v105 := Tryd.zeroValue136
  t119 := Tryd.underlying139
  a119 := Tryd.isAgg139
  z119 := Tryd.sizeOf139
  t138 := Tryd.underlying141
  a138 := Tryd.isAgg141
  z138 := Tryd.sizeOf141
  v138 := Tryd.zeroValue141
  t139 := Tryd.underlying142
  a139 := Tryd.isAgg142
  z139 := Tryd.sizeOf142
  v139 := Tryd.zeroValue142
  t146 := Tryd.underlying144
  a146 := Tryd.isAgg144
  z146 := Tryd.sizeOf144
  v146 := Tryd.zeroValue144
  g1 := by kernel_rfl
  g3 := by kernel_rfl
  g4 := by kernel_rfl }
open Go.RowKit Go.Lib in
theorem Tryd.strings_genSplit (s sep : ByteArray) (sv : Nat) (n : Int) (N : Nat) (m : Int) (w : World) (hs : s.size < 4294967281) (hm : w.cell? ⟨0, 0, none⟩ = some (.int .i64 m)) (h1 : 1 ≤ sep.size) (hsv : sv ≤ sep.size) (hn0 : n ≠ 0) (hn63 : n ≤ 9223372036854775807) (hN : (N : Int) = min (if n < 0 then (Lib.countB s sep : Int) + 1 else n) ((s.size : Int) + 1)) :
    Calls Tryd.prog 78 #[.string s, .string sep, .int .i64 sv, .int .i64 n] w fun e w' =>
      e = .returned (.slice (some ⟨w.heap.size, 0, none⟩) (Lib.splitB sep sv (N - 1) s).length N) ∧ w' = w.alloc (.cells (Lib.cellsOf (Lib.splitB sep sv (N - 1) s) N) 9) := Any.strings_genSplit Tryd.lays221 (by kernel_rfl) s sep sv n N m w hs hm h1 hsv hn0 hn63 hN
def Tryd.lays146_ren : Go.Shelf.Ren := ⟨fun | 146 => 50 | 221 => 78 | 268 => 98 | 138 => 99 | 143 => 100 | 195 => 107 | 197 => 108 | 218 => 109 | 219 => 110 | 260 => 115 | 217 => 116 | 225 => 114 | 224 => 113 | 267 => 117 | 266 => 118 | 314 => 119 | n => n, fun | 9 => 9 | 31 => 22 | 3 => 3 | 4 => 4 | 0 => 0 | 105 => 136 | 21 => 21 | 5 => 5 | 46 => 129 | 119 => 139 | 139 => 142 | 138 => 141 | 146 => 144 | 51 => 143 | n => n, fun | 1 => 0 | 3 => 1 | 4 => 2 | n => n⟩
theorem Tryd.lays146 : Go.Proofs.Lays.n146 Tryd.prog Tryd.lays146_ren := {
  mixed := by kernel_rfl
  f138 := Tryd.func99.trans (congrArg some (by kernel_rfl))
  f143 := Tryd.func100.trans (congrArg some (by kernel_rfl))
  f146 := Tryd.func50.trans (congrArg some (by kernel_rfl))
  f195 := Tryd.func107.trans (congrArg some (by kernel_rfl))
  f197 := Tryd.func108.trans (congrArg some (by kernel_rfl))
  f217 := Tryd.func116.trans (congrArg some (by kernel_rfl))
  f218 := Tryd.func109.trans (congrArg some (by kernel_rfl))
  f219 := Tryd.func110.trans (congrArg some (by kernel_rfl))
  f221 := Tryd.func78.trans (congrArg some (by kernel_rfl))
  f224 := Tryd.func113.trans (congrArg some (by kernel_rfl))
  f225 := Tryd.func114.trans (congrArg some (by kernel_rfl))
  f260 := Tryd.func115.trans (congrArg some (by kernel_rfl))
  f266 := Tryd.func118.trans (congrArg some (by kernel_rfl))
  f267 := Tryd.func117.trans (congrArg some (by kernel_rfl))
  f268 := Tryd.func98.trans (congrArg some (by kernel_rfl))
  f314 := Tryd.func119.trans (congrArg some (by kernel_rfl))
  t0 := Tryd.underlying0
  a0 := Tryd.isAgg0
  z0 := Tryd.sizeOf0
  v0 := Tryd.zeroValue0
  t3 := Tryd.underlying3
  a3 := Tryd.isAgg3
  z3 := Tryd.sizeOf3
  v3 := Tryd.zeroValue3
  t4 := Tryd.underlying4
  a4 := Tryd.isAgg4
  z4 := Tryd.sizeOf4
  v4 := Tryd.zeroValue4
  t5 := Tryd.underlying5
  a5 := Tryd.isAgg5
  z5 := Tryd.sizeOf5
  v5 := Tryd.zeroValue5
  t9 := Tryd.underlying9
  a9 := Tryd.isAgg9
  z9 := Tryd.sizeOf9
  v9 := Tryd.zeroValue9
  t21 := Tryd.underlying21
  a21 := Tryd.isAgg21
  z21 := Tryd.sizeOf21
  v21 := Tryd.zeroValue21
  t31 := Tryd.underlying22
  a31 := Tryd.isAgg22
  z31 := Tryd.sizeOf22
  v31 := Tryd.zeroValue22
  t46 := Tryd.underlying129
  a46 := Tryd.isAgg129
  z46 := Tryd.sizeOf129
  v46 := Tryd.zeroValue129
  t51 := Tryd.underlying143
  a51 := Tryd.isAgg143
  z51 := Tryd.sizeOf143
  v51 := Tryd.zeroValue143
  t105 := Tryd.underlying136
  a105 := Tryd.isAgg136
  z105 := Tryd.sizeOf136
  v105 := Tryd.zeroValue136
  t119 := Tryd.underlying139
  a119 := Tryd.isAgg139
  z119 := Tryd.sizeOf139
  t138 := Tryd.underlying141
  a138 := Tryd.isAgg141
  z138 := Tryd.sizeOf141
  v138 := Tryd.zeroValue141
  t139 := Tryd.underlying142
  a139 := Tryd.isAgg142
  z139 := Tryd.sizeOf142
  v139 := Tryd.zeroValue142
  t146 := Tryd.underlying144
  a146 := Tryd.isAgg144
  z146 := Tryd.sizeOf144
  v146 := Tryd.zeroValue144
  g1 := by kernel_rfl
  g3 := by kernel_rfl
  g4 := by kernel_rfl }
open Go.RowKit Go.Lib in
/-- strings.Split. (LAID: no walk: one application.) -/
theorem Tryd.strings_Split (s sep : ByteArray) (m : Int) (w : World) (hs : s.size < 4294967281) (hm : w.cell? ⟨0, 0, none⟩ = some (.int .i64 m)) (h1 : 1 ≤ sep.size) :
    Calls Tryd.prog 50 #[.string s, .string sep] w fun e w' =>
      e = .returned (.slice (some ⟨w.heap.size, 0, none⟩) (Lib.countB s sep + 1) (Lib.countB s sep + 1)) ∧ w' = w.alloc (.cells ((Lib.splitB sep 0 (Lib.countB s sep) s).map Value.string).toArray 9) := Any.strings_Split Tryd.lays146 (by kernel_rfl) s sep m w hs hm h1
def Tryd.laysM146_ren : Go.Shelf.Ren := ⟨fun | 146 => 50 | 221 => 78 | 268 => 98 | 138 => 99 | 143 => 100 | 195 => 107 | 197 => 108 | 218 => 109 | 219 => 110 | 260 => 115 | 217 => 116 | 225 => 114 | 224 => 113 | 267 => 117 | 266 => 118 | 314 => 119 | n => n, fun | 9 => 9 | 31 => 22 | 3 => 3 | 4 => 4 | 0 => 0 | 105 => 136 | 21 => 21 | 5 => 5 | 46 => 129 | 119 => 139 | 139 => 142 | 138 => 141 | 146 => 144 | 51 => 143 | n => n, fun | 1 => 0 | 3 => 1 | 4 => 2 | n => n⟩
theorem Tryd.laysM146 : Go.Proofs.LaysM.n146 Tryd.prog Tryd.laysM146_ren := {
  mixed := by kernel_rfl
  f138 := Tryd.func99.trans (congrArg some (by kernel_rfl))
  f143 := Tryd.func100.trans (congrArg some (by kernel_rfl))
  f146 := Tryd.func50.trans (congrArg some (by kernel_rfl))
  f195 := Tryd.func107.trans (congrArg some (by kernel_rfl))
  f197 := Tryd.func108.trans (congrArg some (by kernel_rfl))
  f217 := Tryd.func116.trans (congrArg some (by kernel_rfl))
  f218 := Tryd.func109.trans (congrArg some (by kernel_rfl))
  f219 := Tryd.func110.trans (congrArg some (by kernel_rfl))
  f221 := Tryd.func78.trans (congrArg some (by kernel_rfl))
  f224 := Tryd.func113.trans (congrArg some (by kernel_rfl))
  f225 := Tryd.func114.trans (congrArg some (by kernel_rfl))
  f260 := Tryd.func115.trans (congrArg some (by kernel_rfl))
  f266 := Tryd.func118.trans (congrArg some (by kernel_rfl))
  f267 := Tryd.func117.trans (congrArg some (by kernel_rfl))
  f268 := Tryd.func98.trans (congrArg some (by kernel_rfl))
  f314 := Tryd.func119.trans (congrArg some (by kernel_rfl))
  t0 := Tryd.underlying0
  a0 := Tryd.isAgg0
  z0 := Tryd.sizeOf0
  v0 := Tryd.zeroValue0
  t3 := Tryd.underlying3
  a3 := Tryd.isAgg3
  z3 := Tryd.sizeOf3
  v3 := Tryd.zeroValue3
  t4 := Tryd.underlying4
  a4 := Tryd.isAgg4
  z4 := Tryd.sizeOf4
  v4 := Tryd.zeroValue4
  t5 := Tryd.underlying5
  a5 := Tryd.isAgg5
  z5 := Tryd.sizeOf5
  v5 := Tryd.zeroValue5
  t9 := Tryd.underlying9
  a9 := Tryd.isAgg9
  z9 := Tryd.sizeOf9
  v9 := Tryd.zeroValue9
  t21 := Tryd.underlying21
  a21 := Tryd.isAgg21
  z21 := Tryd.sizeOf21
  v21 := Tryd.zeroValue21
  t31 := Tryd.underlying22
  a31 := Tryd.isAgg22
  z31 := Tryd.sizeOf22
  v31 := Tryd.zeroValue22
  t46 := Tryd.underlying129
  a46 := Tryd.isAgg129
  z46 := Tryd.sizeOf129
  v46 := Tryd.zeroValue129
  t51 := Tryd.underlying143
  a51 := Tryd.isAgg143
  z51 := Tryd.sizeOf143
  v51 := Tryd.zeroValue143
  t105 := Tryd.underlying136
  a105 := Tryd.isAgg136
  z105 := Tryd.sizeOf136
  v105 := Tryd.zeroValue136
  t119 := Tryd.underlying139
  a119 := Tryd.isAgg139
  z119 := Tryd.sizeOf139
  t138 := Tryd.underlying141
  a138 := Tryd.isAgg141
  z138 := Tryd.sizeOf141
  v138 := Tryd.zeroValue141
  t139 := Tryd.underlying142
  a139 := Tryd.isAgg142
  z139 := Tryd.sizeOf142
  v139 := Tryd.zeroValue142
  t146 := Tryd.underlying144
  a146 := Tryd.isAgg144
  z146 := Tryd.sizeOf144
  v146 := Tryd.zeroValue144
  g1 := by kernel_rfl
  g3 := by kernel_rfl
  g4 := by kernel_rfl
  i0 := by kernel_rfl
  i3 := by kernel_rfl
  i4 := by kernel_rfl
  i5 := by kernel_rfl
  i9 := by kernel_rfl
  i21 := by kernel_rfl
  i31 := by kernel_rfl
  i46 := by kernel_rfl
  i51 := by kernel_rfl
  i105 := by kernel_rfl
  i138 := by kernel_rfl
  i139 := by kernel_rfl
  i146 := by kernel_rfl
  m1 := by kernel_rfl
  s1_3 := fun w h => Go.Proofs.cell_of_shapedOpen_int (zero := #[.int .i64 0]) (t := 3) h (of_decide_eq_true (by kernel_rfl)) (by kernel_rfl) rfl (by kernel_rfl) (by kernel_rfl) Tryd.underlying3
  m3 := by kernel_rfl
  m4 := by kernel_rfl }
open Go.RowKit Go.Lib in
/-- strings.Split, sep not empty. (LAID: no walk: one application.) -/
theorem Tryd.strings_Split_shaped (s sep : ByteArray) (w : World) (h : w.ShapedOpen Tryd.prog) (hs : s.size < 4294967281) (h1 : 1 ≤ sep.size) :
    Calls Tryd.prog 50 #[.string s, .string sep] w fun e w' =>
      e = .returned (.slice (some ⟨w.heap.size, 0, none⟩) (Lib.countB s sep + 1) (Lib.countB s sep + 1)) ∧ w' = w.alloc (.cells ((Lib.splitB sep 0 (Lib.countB s sep) s).map Value.string).toArray 9) := Any.strings_Split_shaped Tryd.laysM146 s sep w h hs h1
def Tryd.lays197_ren : Go.Shelf.Ren := ⟨fun | 197 => 108 | 260 => 115 | n => n, fun | 9 => 9 | 21 => 21 | 3 => 3 | 4 => 4 | 5 => 5 | 105 => 136 | 119 => 139 | 0 => 0 | 46 => 129 | 139 => 142 | 138 => 141 | n => n, fun | 3 => 1 | 4 => 2 | n => n⟩
theorem Tryd.lays197 : Go.Proofs.Lays.n197 Tryd.prog Tryd.lays197_ren := {
  mixed := by kernel_rfl
  f197 := Tryd.func108.trans (congrArg some (by kernel_rfl))
  f260 := Tryd.func115.trans (congrArg some (by kernel_rfl))
  t0 := Tryd.underlying0
  a0 := Tryd.isAgg0
  z0 := Tryd.sizeOf0
  v0 := Tryd.zeroValue0
  t3 := Tryd.underlying3
  a3 := Tryd.isAgg3
  z3 := Tryd.sizeOf3
  v3 := Tryd.zeroValue3
  t4 := Tryd.underlying4
  a4 := Tryd.isAgg4
  z4 := Tryd.sizeOf4
  v4 := Tryd.zeroValue4
  t5 := Tryd.underlying5
  a5 := Tryd.isAgg5
  z5 := Tryd.sizeOf5
  v5 := Tryd.zeroValue5
  t9 := Tryd.underlying9
  a9 := Tryd.isAgg9
  z9 := Tryd.sizeOf9
  v9 := Tryd.zeroValue9
  t21 := Tryd.underlying21
  a21 := Tryd.isAgg21
  z21 := Tryd.sizeOf21
  v21 := Tryd.zeroValue21
  t46 := Tryd.underlying129
  a46 := Tryd.isAgg129
  z46 := Tryd.sizeOf129
  v46 := Tryd.zeroValue129
  t105 := Tryd.underlying136
  a105 := Tryd.isAgg136
  z105 := Tryd.sizeOf136
  v105 := Tryd.zeroValue136
  t119 := Tryd.underlying139
  a119 := Tryd.isAgg139
  z119 := Tryd.sizeOf139
  t138 := Tryd.underlying141
  a138 := Tryd.isAgg141
  z138 := Tryd.sizeOf141
  v138 := Tryd.zeroValue141
  t139 := Tryd.underlying142
  a139 := Tryd.isAgg142
  z139 := Tryd.sizeOf142
  v139 := Tryd.zeroValue142
  g3 := by kernel_rfl
  g4 := by kernel_rfl }
open Go.RowKit Go.Lib in
/-- unicode/utf8.DecodeRuneInString: "DecodeRuneInString is like DecodeRune but its input is a string.": ("DecodeRune unpacks the first UTF-8 encoding in p and returns the rune and its width in bytes."): WHERE s BEGINS WITH AN ASCII BYTE x: (x, 1). (LAID: no walk: one application.) -/
theorem Tryd.utf8_DecodeRuneInString_ascii (s : ByteArray) (x : UInt8) (w : World) (h0 : s.data.toList[0]? = some x) (hx : x.toNat < 128) :
    Calls Tryd.prog 108 #[.string s] w fun e w' => e = .returned (.tuple #[.int .i32 x.toNat, .int .i64 1]) ∧ w' = w := Any.utf8_DecodeRuneInString_ascii Tryd.lays197 s x w h0 hx
def Tryd.lays152_ren : Go.Shelf.Ren := ⟨fun | 152 => 104 | 137 => 111 | 119 => 112 | 224 => 113 | 225 => 114 | 217 => 116 | 266 => 118 | n => n, fun | 9 => 9 | 21 => 21 | 3 => 3 | 4 => 4 | 5 => 5 | 0 => 0 | 46 => 129 | n => n, fun | n => n⟩
theorem Tryd.lays152 : Go.Proofs.Lays.n152 Tryd.prog Tryd.lays152_ren := {
  mixed := by kernel_rfl
  f119 := Tryd.func112.trans (congrArg some (by kernel_rfl))
  f137 := Tryd.func111.trans (congrArg some (by kernel_rfl))
  f152 := Tryd.func104.trans (congrArg some (by kernel_rfl))
  f217 := Tryd.func116.trans (congrArg some (by kernel_rfl))
  f224 := Tryd.func113.trans (congrArg some (by kernel_rfl))
  f225 := Tryd.func114.trans (congrArg some (by kernel_rfl))
  f266 := Tryd.func118.trans (congrArg some (by kernel_rfl))
  t0 := Tryd.underlying0
  a0 := Tryd.isAgg0
  z0 := Tryd.sizeOf0
  v0 := Tryd.zeroValue0
  t3 := Tryd.underlying3
  a3 := Tryd.isAgg3
  z3 := Tryd.sizeOf3
  v3 := Tryd.zeroValue3
  t4 := Tryd.underlying4
  a4 := Tryd.isAgg4
  z4 := Tryd.sizeOf4
  v4 := Tryd.zeroValue4
  t5 := Tryd.underlying5
  a5 := Tryd.isAgg5
  z5 := Tryd.sizeOf5
  v5 := Tryd.zeroValue5
  t9 := Tryd.underlying9
  a9 := Tryd.isAgg9
  z9 := Tryd.sizeOf9
  v9 := Tryd.zeroValue9
  t21 := Tryd.underlying21
  a21 := Tryd.isAgg21
  z21 := Tryd.sizeOf21
  v21 := Tryd.zeroValue21
  t46 := Tryd.underlying129
  a46 := Tryd.isAgg129
  z46 := Tryd.sizeOf129
  v46 := Tryd.zeroValue129 }
open Go.RowKit Go.Lib in
theorem Tryd.strings_IndexRune_ascii (s : ByteArray) (r : Int) (w : World) (h0 : 0 ≤ r) (h1 : r < 128) :
    Calls Tryd.prog 104 #[.string s, .int .i32 r] w fun e w' => e = .returned (.int .i64 (Lib.indexByte s.data.toList r.toNat.toUInt8)) ∧ w' = w := Any.strings_IndexRune_ascii Tryd.lays152 s r w h0 h1
def Tryd.lays151_ren : Go.Shelf.Ren := ⟨fun | 151 => 94 | 152 => 104 | 137 => 111 | 119 => 112 | 224 => 113 | 225 => 114 | 217 => 116 | 266 => 118 | n => n, fun | 9 => 9 | 21 => 21 | 4 => 4 | 3 => 3 | 5 => 5 | 0 => 0 | 46 => 129 | n => n, fun | n => n⟩
theorem Tryd.lays151 : Go.Proofs.Lays.n151 Tryd.prog Tryd.lays151_ren := {
  mixed := by kernel_rfl
  f119 := Tryd.func112.trans (congrArg some (by kernel_rfl))
  f137 := Tryd.func111.trans (congrArg some (by kernel_rfl))
  f151 := Tryd.func94.trans (congrArg some (by kernel_rfl))
  f152 := Tryd.func104.trans (congrArg some (by kernel_rfl))
  f217 := Tryd.func116.trans (congrArg some (by kernel_rfl))
  f224 := Tryd.func113.trans (congrArg some (by kernel_rfl))
  f225 := Tryd.func114.trans (congrArg some (by kernel_rfl))
  f266 := Tryd.func118.trans (congrArg some (by kernel_rfl))
  t0 := Tryd.underlying0
  a0 := Tryd.isAgg0
  z0 := Tryd.sizeOf0
  v0 := Tryd.zeroValue0
  t3 := Tryd.underlying3
  a3 := Tryd.isAgg3
  z3 := Tryd.sizeOf3
  v3 := Tryd.zeroValue3
  t4 := Tryd.underlying4
  a4 := Tryd.isAgg4
  z4 := Tryd.sizeOf4
  v4 := Tryd.zeroValue4
  t5 := Tryd.underlying5
  a5 := Tryd.isAgg5
  z5 := Tryd.sizeOf5
  v5 := Tryd.zeroValue5
  t9 := Tryd.underlying9
  a9 := Tryd.isAgg9
  z9 := Tryd.sizeOf9
  v9 := Tryd.zeroValue9
  t21 := Tryd.underlying21
  a21 := Tryd.isAgg21
  z21 := Tryd.sizeOf21
  v21 := Tryd.zeroValue21
  t46 := Tryd.underlying129
  a46 := Tryd.isAgg129
  z46 := Tryd.sizeOf129
  v46 := Tryd.zeroValue129 }
open Go.RowKit Go.Lib in
theorem Tryd.strings_ContainsRune_ascii (s : ByteArray) (r : Int) (w : World) (h0 : 0 ≤ r) (h1 : r < 128) :
    Calls Tryd.prog 94 #[.string s, .int .i32 r] w fun e w' => e = .returned (.bool (decide (0 ≤ Lib.indexByte s.data.toList r.toNat.toUInt8))) ∧ w' = w := Any.strings_ContainsRune_ascii Tryd.lays151 s r w h0 h1
open Go.RowKit Go.Lib in
theorem Tryd.utf8_RuneCountInString_ascii (s : ByteArray) (w : World) (hs : s.size < 4294967281) (hascii : ∀ (j : Nat) b, s.data.toList[j]? = some b → b.toNat < 128) :
    Calls Tryd.prog 107 #[.string s] w fun e w' => e = .returned (.int .i64 s.size) ∧ w' = w.iter s s.size := Any.utf8_RuneCountInString_ascii Tryd.lays195 s w hs hascii
def Tryd.lays268_ren : Go.Shelf.Ren := ⟨fun | 268 => 98 | 195 => 107 | 197 => 108 | 260 => 115 | n => n, fun | 9 => 9 | 3 => 3 | 31 => 22 | 4 => 4 | 105 => 136 | 21 => 21 | 0 => 0 | 5 => 5 | 119 => 139 | 46 => 129 | 139 => 142 | 138 => 141 | n => n, fun | 3 => 1 | 4 => 2 | n => n⟩
theorem Tryd.lays268 : Go.Proofs.Lays.n268 Tryd.prog Tryd.lays268_ren := {
  mixed := by kernel_rfl
  f195 := Tryd.func107.trans (congrArg some (by kernel_rfl))
  f197 := Tryd.func108.trans (congrArg some (by kernel_rfl))
  f260 := Tryd.func115.trans (congrArg some (by kernel_rfl))
  f268 := Tryd.func98.trans (congrArg some (by kernel_rfl))
  t0 := Tryd.underlying0
  a0 := Tryd.isAgg0
  z0 := Tryd.sizeOf0
  v0 := Tryd.zeroValue0
  t3 := Tryd.underlying3
  a3 := Tryd.isAgg3
  z3 := Tryd.sizeOf3
  v3 := Tryd.zeroValue3
  t4 := Tryd.underlying4
  a4 := Tryd.isAgg4
  z4 := Tryd.sizeOf4
  v4 := Tryd.zeroValue4
  t5 := Tryd.underlying5
  a5 := Tryd.isAgg5
  z5 := Tryd.sizeOf5
  v5 := Tryd.zeroValue5
  t9 := Tryd.underlying9
  a9 := Tryd.isAgg9
  z9 := Tryd.sizeOf9
  v9 := Tryd.zeroValue9
  t21 := Tryd.underlying21
  a21 := Tryd.isAgg21
  z21 := Tryd.sizeOf21
  v21 := Tryd.zeroValue21
  t31 := Tryd.underlying22
  a31 := Tryd.isAgg22
  z31 := Tryd.sizeOf22
  v31 := Tryd.zeroValue22
  t46 := Tryd.underlying129
  a46 := Tryd.isAgg129
  z46 := Tryd.sizeOf129
  v46 := Tryd.zeroValue129
  t105 := Tryd.underlying136
  a105 := Tryd.isAgg136
  z105 := Tryd.sizeOf136
  v105 := Tryd.zeroValue136
  t119 := Tryd.underlying139
  a119 := Tryd.isAgg139
  z119 := Tryd.sizeOf139
  t138 := Tryd.underlying141
  a138 := Tryd.isAgg141
  z138 := Tryd.sizeOf141
  v138 := Tryd.zeroValue141
  t139 := Tryd.underlying142
  a139 := Tryd.isAgg142
  z139 := Tryd.sizeOf142
  v139 := Tryd.zeroValue142
  g3 := by kernel_rfl
  g4 := by kernel_rfl }
open Go.RowKit Go.Lib in
theorem Tryd.strings_explode_all (s : ByteArray) (n : Int) (w : World) (hn : n < 0) (hs : s.size < 4294967281) (hascii : ∀ (j : Nat) b, s.data.toList[j]? = some b → b.toNat < 128) :
    Calls Tryd.prog 98 #[.string s, .int .i64 n] w fun e w' =>
      e = .returned (.slice (some ⟨(w.iter s s.size).heap.size, 0, none⟩) s.size s.size) ∧ w' = (w.iter s s.size).alloc (.cells ((Lib.charsB s).map Value.string).toArray 9) := Any.strings_explode_all Tryd.lays268 (by kernel_rfl) s n w hn hs hascii
open Go.RowKit Go.Lib in
/-- strings.genSplit at sep == "", n < 0: 'return explode(s, n)'. (LAID: no walk: one application.) -/
theorem Tryd.strings_genSplit_chars (s sep : ByteArray) (sv n : Int) (w : World) (h0 : sep.size = 0) (hn : n < 0) (hs : s.size < 4294967281) (hascii : ∀ (j : Nat) b, s.data.toList[j]? = some b → b.toNat < 128) :
    Calls Tryd.prog 78 #[.string s, .string sep, .int .i64 sv, .int .i64 n] w fun e w' =>
      e = .returned (.slice (some ⟨(w.iter s s.size).heap.size, 0, none⟩) s.size s.size) ∧ w' = (w.iter s s.size).alloc (.cells ((Lib.charsB s).map Value.string).toArray 9) := Any.strings_genSplit_chars Tryd.lays221 (by kernel_rfl) s sep sv n w h0 hn hs hascii
open Go.RowKit Go.Lib in
/-- strings.Split(s, ""), s ASCII: a piece a byte. (LAID: no walk: one application.) -/
theorem Tryd.strings_Split_chars (s sep : ByteArray) (w : World) (h0 : sep.size = 0) (hs : s.size < 4294967281) (hascii : ∀ (j : Nat) b, s.data.toList[j]? = some b → b.toNat < 128) :
    Calls Tryd.prog 50 #[.string s, .string sep] w fun e w' =>
      e = .returned (.slice (some ⟨(w.iter s s.size).heap.size, 0, none⟩) s.size s.size) ∧ w' = (w.iter s s.size).alloc (.cells ((Lib.charsB s).map Value.string).toArray 9) := Any.strings_Split_chars Tryd.lays146 (by kernel_rfl) s sep w h0 hs hascii
def Tryd.lays260_ren : Go.Shelf.Ren := ⟨fun | 260 => 115 | n => n, fun | 9 => 9 | 21 => 21 | 3 => 3 | 4 => 4 | 5 => 5 | 119 => 139 | 0 => 0 | 46 => 129 | 139 => 142 | 138 => 141 | n => n, fun | 3 => 1 | 4 => 2 | n => n⟩
theorem Tryd.lays260 : Go.Proofs.Lays.n260 Tryd.prog Tryd.lays260_ren := {
  mixed := by kernel_rfl
  f260 := Tryd.func115.trans (congrArg some (by kernel_rfl))
  t0 := Tryd.underlying0
  a0 := Tryd.isAgg0
  z0 := Tryd.sizeOf0
  v0 := Tryd.zeroValue0
  t3 := Tryd.underlying3
  a3 := Tryd.isAgg3
  z3 := Tryd.sizeOf3
  v3 := Tryd.zeroValue3
  t4 := Tryd.underlying4
  a4 := Tryd.isAgg4
  z4 := Tryd.sizeOf4
  v4 := Tryd.zeroValue4
  t5 := Tryd.underlying5
  a5 := Tryd.isAgg5
  z5 := Tryd.sizeOf5
  v5 := Tryd.zeroValue5
  t9 := Tryd.underlying9
  a9 := Tryd.isAgg9
  z9 := Tryd.sizeOf9
  v9 := Tryd.zeroValue9
  t21 := Tryd.underlying21
  a21 := Tryd.isAgg21
  z21 := Tryd.sizeOf21
  v21 := Tryd.zeroValue21
  t46 := Tryd.underlying129
  a46 := Tryd.isAgg129
  z46 := Tryd.sizeOf129
  v46 := Tryd.zeroValue129
  t119 := Tryd.underlying139
  a119 := Tryd.isAgg139
  z119 := Tryd.sizeOf139
  t138 := Tryd.underlying141
  a138 := Tryd.isAgg141
  z138 := Tryd.sizeOf141
  v138 := Tryd.zeroValue141
  t139 := Tryd.underlying142
  a139 := Tryd.isAgg142
  z139 := Tryd.sizeOf142
  v139 := Tryd.zeroValue142
  g3 := by kernel_rfl
  g4 := by kernel_rfl }
open Go.RowKit Go.Lib in
theorem Tryd.utf8_decodeRuneInStringSlow (s : ByteArray) (w : World) (hT : Lib.Utf8Tabs 1 2 w) :
    Calls Tryd.prog 115 #[.string s] w fun e w' => e = .returned (.tuple #[.int .i32 (Lib.decodeGo s).1, .int .i64 (Lib.decodeGo s).2]) ∧ Below w.heap.size w w' := Any.utf8_decodeRuneInStringSlow Tryd.lays260 s w hT
open Go.RowKit Go.Lib in
/-- **unicode/utf8.DecodeRuneInString AT EVERY STRING.** (LAID: no walk: one application.) -/
theorem Tryd.utf8_DecodeRuneInString (s : ByteArray) (w : World) (hT : Lib.Utf8Tabs 1 2 w) :
    Calls Tryd.prog 108 #[.string s] w fun e w' => e = .returned (.tuple #[.int .i32 (Lib.decodeGo s).1, .int .i64 (Lib.decodeGo s).2]) ∧ Below w.heap.size w w' := Any.utf8_DecodeRuneInString Tryd.lays197 s w hT
open Go.RowKit Go.Lib in
theorem Tryd.strings_indexFunc_grows (g : Nat) (lb : Array Value) (eg : ∀ args w, (callFunc g args).run Tryd.prog w = .ok (.enter g args) w) (p : Nat → Bool) (truth : Bool) (s : ByteArray) (w : World) (hp : PredGrows Tryd.prog g lb p w) :
    Calls Tryd.prog 105 #[.string s, .func (.func g) #[] lb, .bool truth] w fun e w' => e = .returned (.int .i64 (Lib.idxFunc p truth s)) ∧ Below w.heap.size w w' := Any.strings_indexFunc_grows Tryd.lays315 g lb eg p truth s w hp
open Go.RowKit Go.Lib in
theorem Tryd.strings_IndexFunc_grows (g : Nat) (lb : Array Value) (eg : ∀ args w, (callFunc g args).run Tryd.prog w = .ok (.enter g args) w) (p : Nat → Bool) (s : ByteArray) (w : World) (hp : PredGrows Tryd.prog g lb p w) :
    Calls Tryd.prog 95 #[.string s, .func (.func g) #[] lb] w fun e w' => e = .returned (.int .i64 (Lib.idxFunc p true s)) ∧ Below w.heap.size w w' := Any.strings_IndexFunc_grows Tryd.laysGw15 g lb eg p s w hp
open Go.RowKit Go.Lib in
theorem Tryd.strings_ContainsFunc_grows (g : Nat) (lb : Array Value) (eg : ∀ args w, (callFunc g args).run Tryd.prog w = .ok (.enter g args) w) (p : Nat → Bool) (s : ByteArray) (w : World) (hp : PredGrows Tryd.prog g lb p w) :
    Calls Tryd.prog 73 #[.string s, .func (.func g) #[] lb] w fun e w' => e = .returned (.bool (decide (0 ≤ Lib.idxFunc p true s))) ∧ Below w.heap.size w w' := Any.strings_ContainsFunc_grows Tryd.laysGw17 g lb eg p s w hp
def Tryd.laysNm216_ren : Go.Shelf.Ren := ⟨fun | 16 => 70 | n => n, fun | 24 => 22 | 9 => 9 | 4 => 4 | n => n, fun | n => n⟩
theorem Tryd.laysNm216 : Go.Proofs.Lays2.n16 Tryd.prog Tryd.laysNm216_ren := {
  mixed := by kernel_rfl
  f16 := Tryd.func70.trans (congrArg some (by kernel_rfl))
  t4 := Tryd.underlying4
  a4 := Tryd.isAgg4
  z4 := Tryd.sizeOf4
  v4 := Tryd.zeroValue4
  t9 := Tryd.underlying9
  a9 := Tryd.isAgg9
  z9 := Tryd.sizeOf9
  v9 := Tryd.zeroValue9
  t24 := Tryd.underlying22
  a24 := Tryd.isAgg22
  z24 := Tryd.sizeOf22
  v24 := Tryd.zeroValue22
  i9 := by kernel_rfl }
open Go.RowKit Go.Lib in
/-- slices.Clone at []string: "Clone returns a copy of the slice. The elements are copied using assignment, so this is a shallow clone. The result may have additional unused capacity. The result preserves the nilness of s.": OF A SLICE THAT IS NOT nil IT RETURNS A SLICE THAT IS NOT nil, OF THE SAME ELEMENTS, IN MEMORY OF THE CALL's OWN: in the how-to's words (6f): 'w'.ownsRow B e 1 v' n cells': v' begins at the head of a row among the blocks from B on (B: the heap's size at the call), not frozen, whose first cells are the elements · 'Below B w w'': below B all is as it was. The capacity is whatever the run-time gives. 'zs': what the cells behind the slice's address hold; 'zs.take n': its elements. (LAID: no walk: one application.) -/
theorem Tryd.slices_Clone_string (b off n c : Nat) (zs : List ByteArray) (w : World) (hz : n ≤ zs.length) (hbig : n * 16 ≤ 140737488355328) (hc : ∀ j, j < zs.length → w.cell? ⟨b, off + j, none⟩ = some (.string (zs.getD j ByteArray.empty))) :
    Calls Tryd.prog 70 #[.slice (some ⟨b, off, none⟩) n c] w fun e w' => ∃ v', e = .returned v' ∧ w'.ownsRow w.heap.size 9 1 v' n ((zs.take n).map (Value.string)) ∧ v' ≠ .slice none 0 0 ∧ Below w.heap.size w w' := Any.slices_Clone_string Tryd.laysNm216 b off n c zs w hz hbig hc
open Go.RowKit Go.Lib in
/-- The same at nil: nil comes back; the world is as it was. (LAID: no walk: one application.) -/
theorem Tryd.slices_Clone_string_nil (n c : Nat) (w : World) :
    Calls Tryd.prog 70 #[.slice none n c] w fun e w' => e = .returned (.slice none 0 0) ∧ w' = w := Any.slices_Clone_string_nil Tryd.laysNm216 n c w
open Go.RowKit Go.Lib in
/-- The same at a slice of length 0 that is not nil, WHATEVER ITS ADDRESS (no cell is asked for): a slice that is not nil and owns nothing comes back. (LAID: no walk: one application.) -/
theorem Tryd.slices_Clone_string_zero (a : Addr) (c : Nat) (w : World) :
    Calls Tryd.prog 70 #[.slice (some a) 0 c] w fun e w' => ∃ v', e = .returned v' ∧ w'.ownsRow w.heap.size 9 1 v' 0 [] ∧ v' ≠ .slice none 0 0 ∧ Below w.heap.size w w' := Any.slices_Clone_string_zero Tryd.laysNm216 a c w
def Tryd.laysSlE041_f70_ren : Go.Shelf.Ren := ⟨fun | 41 => 70 | n => n, fun | 22 => 22 | 23 => 9 | 4 => 4 | n => n, fun | n => n⟩
theorem Tryd.laysSlE041_f70 : Go.Proofs.SlLaysE0.n41 Tryd.prog Tryd.laysSlE041_f70_ren := {
  mixed := by kernel_rfl
  f41 := ⟨Tryd.f70.name, by decide, Tryd.func70.trans (congrArg some (by kernel_rfl))⟩
  t4 := Tryd.underlying4
  a4 := Tryd.isAgg4
  z4 := Tryd.sizeOf4
  v4 := Tryd.zeroValue4
  t22 := Tryd.underlying22
  a22 := Tryd.isAgg22
  z22 := Tryd.sizeOf22
  v22 := Tryd.zeroValue22 }
open Go.RowKit Go.Lib in
/-- slices.Clone: "Clone returns a copy of the slice. The elements are copied using assignment, so this is a shallow clone. The result may have additional unused capacity. The result preserves the nilness of s.": OF A SLICE THAT IS NOT nil IT RETURNS A SLICE THAT IS NOT nil, OF THE SAME CELLS, IN MEMORY OF THE CALL's OWN ('ownsRow': the how-to's 6f); below the heap's size at the call all is as it was. (LAID AT THE INSTANCE 'slices.Clone[[]string,string]': no walk: one application.) -/
theorem Tryd.slices_Clone (i0 : TypeInfo) (z : Value) (size bytes : Nat) (hi : Tryd.prog.info? 9 = some i0) (hz0 : i0.zero = some z) (hz1 : i0.size = size) (hz2 : i0.bytes = bytes) (hzs : z.cells.size = size) (hsz : 0 < size) (z23 : ∀ w, (Go.sizeOf 9).run Tryd.prog w = .ok size w) (b off n c : Nat) (news : List Value) (w : World) (hl : news.length = n * size) (hn : n ≤ maxLen) (hbig : n * bytes ≤ 140737488355328) (hc : ∀ j u, news[j]? = some u → w.cell? ⟨b, off + j, none⟩ = some u) (h1 : ∀ u ∈ news, u.oneCell' = true) :
    Calls Tryd.prog 70 #[.slice (some ⟨b, off, none⟩) n c] w fun e w' => ∃ v', e = .returned v' ∧ w'.ownsRow w.heap.size 9 size v' n news ∧ v' ≠ .slice none 0 0 ∧ Below w.heap.size w w' := AnyE.slices_Clone Tryd.laysSlE041_f70 i0 z size bytes hi hz0 hz1 hz2 hzs hsz z23 b off n c news w hl hn hbig hc h1
open Go.RowKit Go.Lib in
/-- The same at nil: nil comes back; the world is as it was; nothing is asked of the element's type. (LAID AT THE INSTANCE 'slices.Clone[[]string,string]': no walk: one application.) -/
theorem Tryd.slices_Clone_nil (n c : Nat) (w : World) :
    Calls Tryd.prog 70 #[.slice none n c] w fun e w' => e = .returned (.slice none 0 0) ∧ w' = w := AnyE.slices_Clone_nil Tryd.laysSlE041_f70 n c w
def Tryd.laysSlH6_f68_ren : Go.Shelf.Ren := ⟨fun | 6 => 68 | n => n, fun | 22 => 22 | 23 => 9 | 25 => 34 | 3 => 3 | 0 => 0 | 4 => 4 | n => n, fun | n => n⟩
theorem Tryd.laysSlH6_f68 : Go.Proofs.SlLaysH.n6 Tryd.prog Tryd.laysSlH6_f68_ren := {
  mixed := by kernel_rfl
  f6 := ⟨Tryd.f68.name, by decide, Tryd.func68.trans (congrArg some (by kernel_rfl))⟩
  t0 := Tryd.underlying0
  a0 := Tryd.isAgg0
  z0 := Tryd.sizeOf0
  v0 := Tryd.zeroValue0
  t3 := Tryd.underlying3
  a3 := Tryd.isAgg3
  z3 := Tryd.sizeOf3
  v3 := Tryd.zeroValue3
  t4 := Tryd.underlying4
  a4 := Tryd.isAgg4
  z4 := Tryd.sizeOf4
  v4 := Tryd.zeroValue4
  t22 := Tryd.underlying22
  a22 := Tryd.isAgg22
  z22 := Tryd.sizeOf22
  v22 := Tryd.zeroValue22
  a23 := Tryd.isAgg9
  z23 := Tryd.sizeOf9
  t25 := Tryd.underlying34
  a25 := Tryd.isAgg34
  z25 := Tryd.sizeOf34
  v25 := Tryd.zeroValue34 }
open Go.RowKit Go.Lib in
/-- slices.IndexFunc: "IndexFunc returns the first index i satisfying f(s[i]), or -1 if none do." (LAID AT THE INSTANCE 'slices.IndexFunc[[]string,string]': no walk: one application.) -/
theorem Tryd.slices_IndexFunc {α : Type} [Inhabited α] (enc : α → Value) (p : α → Bool) (g : Nat) (lb : Array Value) (eg : ∀ args w, (callFunc g args).run Tryd.prog w = .ok (.enter g args) w) (b off n c : Nat) (zs : List α) (w : World) (hp : PredAt Tryd.prog g lb enc p w) (hz : n ≤ zs.length) (hbig : n ≤ 9223372036854775807) (hc : ∀ j, j < zs.length → w.cell? ⟨b, off + j, none⟩ = some (enc zs[j]!)) :
    Calls Tryd.prog 68 #[.slice (some ⟨b, off, none⟩) n c, .func (.func g) #[] lb] w fun e w' => e = .returned (.int .i64 (Lib.idxBy (fun _ y => p y) (zs.take n) default)) ∧ ∃ q, w' = w.drewN q := AnyE.slices_IndexFunc Tryd.laysSlH6_f68 enc p g lb eg b off n c zs w hp hz hbig hc
open Go.RowKit Go.Lib in
/-- The same at a slice of length 0, a nil one too: the predicate is not called: nothing is asked of it. (LAID AT THE INSTANCE 'slices.IndexFunc[[]string,string]': no walk: one application.) -/
theorem Tryd.slices_IndexFunc_empty {α : Type} [Inhabited α] (a : Option Addr) (c : Nat) (fv : Value) (w : World) :
    Calls Tryd.prog 68 #[.slice a 0 c, fv] w fun e w' => e = .returned (.int .i64 (-1)) ∧ w' = w := AnyE.slices_IndexFunc_empty Tryd.laysSlH6_f68 a c fv w
def Tryd.laysSlH10_f66_ren : Go.Shelf.Ren := ⟨fun | 10 => 66 | 6 => 68 | n => n, fun | 22 => 22 | 23 => 9 | 25 => 34 | 3 => 3 | 4 => 4 | 0 => 0 | n => n, fun | n => n⟩
theorem Tryd.laysSlH10_f66 : Go.Proofs.SlLaysH.n10 Tryd.prog Tryd.laysSlH10_f66_ren := {
  mixed := by kernel_rfl
  f6 := ⟨Tryd.f68.name, by decide, Tryd.func68.trans (congrArg some (by kernel_rfl))⟩
  f10 := ⟨Tryd.f66.name, by decide, Tryd.func66.trans (congrArg some (by kernel_rfl))⟩
  t0 := Tryd.underlying0
  a0 := Tryd.isAgg0
  z0 := Tryd.sizeOf0
  v0 := Tryd.zeroValue0
  t3 := Tryd.underlying3
  a3 := Tryd.isAgg3
  z3 := Tryd.sizeOf3
  v3 := Tryd.zeroValue3
  t4 := Tryd.underlying4
  a4 := Tryd.isAgg4
  z4 := Tryd.sizeOf4
  v4 := Tryd.zeroValue4
  t22 := Tryd.underlying22
  a22 := Tryd.isAgg22
  z22 := Tryd.sizeOf22
  v22 := Tryd.zeroValue22
  a23 := Tryd.isAgg9
  z23 := Tryd.sizeOf9
  t25 := Tryd.underlying34
  a25 := Tryd.isAgg34
  z25 := Tryd.sizeOf34
  v25 := Tryd.zeroValue34 }
open Go.RowKit Go.Lib Go.Sort in
theorem Tryd.slices_DeleteFunc {α : Type} [Inhabited α] (enc : α → Value) (hO : OneCell enc) (p : α → Bool) (g : Nat) (lb : Array Value) (eg : ∀ args w, (callFunc g args).run Tryd.prog w = .ok (.enter g args) w) (zr : α) (v23 : ∀ w, (zeroValue 9).run Tryd.prog w = .ok (enc zr) w) (blk off cap : Nat) (d : Array α) (w : World) (hp : PredAt Tryd.prog g lb enc p w) (hpo : PredOver Tryd.prog g lb enc p blk off d.size w) (hH : Holds enc w blk off d) (hsz : d.size ≤ 9223372036854775807) (hcap : d.size ≤ cap) :
    Calls Tryd.prog 66 #[.slice (some ⟨blk, off, none⟩) d.size cap, .func (.func g) #[] lb] w fun e w' => e = .returned (.slice (some ⟨blk, off, none⟩) (d.toList.filter fun x => !p x).length cap) ∧ ∃ q, w' = putRow enc (Sort.ahead w q) blk off ((d.toList.filter fun x => !p x) ++ List.replicate (d.size - (d.toList.filter fun x => !p x).length) zr).toArray := AnyE.slices_DeleteFunc Tryd.laysSlH10_f66 enc hO p g lb eg zr v23 blk off cap d w hp hpo hH hsz hcap
end Go.Proofs
end

section
/- Plain lemmas of this session, no program in them: names and paths as lists of bytes. -/
namespace Cru
open Go Go.Lib

/-- A byte (a rune) of a name. -/
def okb (n : Nat) : Bool := (97 ≤ n && n ≤ 122) || (48 ≤ n && n ≤ 57) || n == 95 || n == 46 || n == 45 || n == 47
def nameOk (s : ByteArray) : Bool := decide (1 ≤ s.size) && decide (s.size ≤ 16) && s.data.toList.all (fun b => okb b.toNat)

theorem okb_hi {n : Nat} (h : 128 ≤ n) : okb n = false := by
  unfold okb
  simp
  omega

theorem decode_lo (s : ByteArray) (i : Nat) (h : (s.get! i).toNat < 128) : Utf8.decode s i = ((s.get! i).toNat, 1) := by
  unfold Utf8.decode
  simp [h]

theorem decode_hi (s : ByteArray) (i : Nat) (h : 128 ≤ (s.get! i).toNat) : 128 ≤ (Utf8.decode s i).1 := by
  unfold Utf8.decode
  have h' : ¬ (s.get! i).toNat < 128 := by omega
  have hr : 128 ≤ Utf8.runeError := by decide
  simp only [Nat.add_zero, h', if_false]
  repeat' split
  all_goals first | exact hr | (rename_i h1 ; simp at h1 ⊢; omega) | (rename_i h1 _ ; simp at h1 ⊢; omega) | (simp at *; omega)

theorem get!_getElem (s : ByteArray) (i : Nat) (h : i < s.size) : s.get! i = s.data.toList[i]'(by simpa using h) := by
  rw [Array.getElem_toList]
  simp [ByteArray.get!, getElem!_pos s.data i h]

theorem idx_any (p : Nat → Bool) (hp : ∀ x, 128 ≤ x → p x = true) (s : ByteArray) : ∀ f pos, s.size ≤ pos + f → (0 ≤ idxFuncFrom p true s f pos ↔ (s.data.toList.drop pos).any (fun b => p b.toNat) = true)
  | 0, pos, h => by
    have : s.data.toList.drop pos = [] := List.drop_eq_nil_of_le (by rw [Array.length_toList]; exact h)
    rw [this]
    simp [idxFuncFrom]
  | f + 1, pos, h => by
    unfold idxFuncFrom
    by_cases hlt : pos < s.size
    · rw [if_pos hlt]
      have hl : pos < s.data.toList.length := by rw [Array.length_toList]; exact hlt
      rw [List.drop_eq_getElem_cons hl, List.any_cons, ← get!_getElem s pos hlt]
      by_cases hb : (s.get! pos).toNat < 128
      · rw [decode_lo s pos hb]
        by_cases hq : p (s.get! pos).toNat = true
        · rw [if_pos hq, hq]; simp
        · rw [if_neg hq, idx_any p hp s f (pos + 1) (by omega)]
          simp [hq]
      · have h1 := hp _ (decode_hi s pos (by omega))
        rw [if_pos h1, hp _ (show 128 ≤ (s.get! pos).toNat by omega)]
        simp
    · rw [if_neg hlt]
      have : s.data.toList.drop pos = [] := List.drop_eq_nil_of_le (by rw [Array.length_toList]; exact Nat.le_of_not_lt hlt)
      rw [this]
      simp

theorem idx_name (s : ByteArray) : decide (0 ≤ idxFunc (fun x => !okb x) true s) = !(s.data.toList.all fun b => okb b.toNat) := by
  have h := idx_any (fun x => !okb x) (fun x hx => by simp [okb_hi hx]) s s.size 0 (by omega)
  rw [Bool.eq_iff_iff]
  unfold idxFunc
  rw [decide_eq_true_eq, h, List.drop_zero, List.any_eq_not_all_not]
  simp only [Bool.not_not]
theorem toList_eq (s : ByteArray) : s.toList = s.data.toList := by
  exact ByteArray.toList_eq s
theorem toList_pos {s : ByteArray} (h : 1 ≤ s.size) : (s.toList == []) = false := by
  rw [toList_eq]
  have : s.data.toList.length = s.size := by rw [Array.length_toList]; rfl
  cases hs : s.data.toList with
  | nil => rw [hs] at this; simp at this; omega
  | cons a l => rfl
theorem toList_nil {s : ByteArray} (h : ¬ 1 ≤ s.size) : (s.toList == []) = true := by
  rw [toList_eq]
  have : s.data.toList.length = s.size := by rw [Array.length_toList]; rfl
  cases hs : s.data.toList with
  | nil => rfl
  | cons a l => rw [hs] at this; simp at this; omega
end Cru
end

section
/- Plain lemmas of this session, no program in them: a text cut at a byte. -/
namespace Cru
open Go Go.Lib

/-- A text cut at each c. -/
def spl (c : UInt8) : List UInt8 → List (List UInt8)
  | [] => [[]]
  | b :: l => if b = c then [] :: spl c l else match spl c l with
    | [] => [[b]]
    | p :: ps => (b :: p) :: ps
theorem spl_hit {b c : UInt8} (h : b = c) (l : List UInt8) : spl c (b :: l) = [] :: spl c l := by rw [spl, if_pos h]
theorem spl_miss {b c : UInt8} (h : ¬ b = c) {l p : List UInt8} {ps : List (List UInt8)} (hq : spl c l = p :: ps) : spl c (b :: l) = (b :: p) :: ps := by rw [spl, if_neg h, hq]
theorem spl_ne (c : UInt8) : ∀ l, spl c l ≠ []
  | [] => by simp [spl]
  | b :: l => by
    unfold spl
    split
    · simp
    · split <;> simp
theorem index_cons_eq (c : UInt8) (l : List UInt8) : index (c :: l) [c] = 0 := by rw [index_one]; simp [indexByte]
theorem index_cons_ne {b c : UInt8} (h : b ≠ c) (l : List UInt8) : index (b :: l) [c] = if index l [c] = -1 then -1 else index l [c] + 1 := by
  rw [index_one, index_one]; simp [indexByte, h]
theorem indexByte_lo (l : List UInt8) (c : UInt8) : indexByte l c = -1 ∨ 0 ≤ indexByte l c := by
  induction l with
  | nil => exact .inl rfl
  | cons b l ih =>
    unfold indexByte
    split
    · exact .inr (by omega)
    · split
      · exact .inl rfl
      · rename_i h; simp at h; exact .inr (by omega)
theorem splitK_spl (c : UInt8) : ∀ l, splitK [c] 0 (l.count c) l = spl c l
  | [] => rfl
  | b :: l => by
    have ih := splitK_spl c l
    unfold spl
    by_cases h : b = c
    · subst h
      rw [if_pos rfl, List.count_cons_self]
      show (if (index (b :: l) [b] == -1) = true then _ else _) = _
      rw [index_cons_eq]
      simp [ih]
    · rw [if_neg h, List.count_cons_of_ne h]
      cases hk : l.count c with
      | zero => rw [hk] at ih; rw [← ih]; rfl
      | succ j =>
        rw [hk] at ih
        rw [← ih]
        have hi : index l [c] ≠ -1 := by
          intro e
          have := count_miss e
          rw [count_one] at this
          omega
        have hi0 : 0 ≤ index l [c] := by
          rcases indexByte_lo l c with h0 | h0
          · rw [index_one] at hi; exact absurd h0 hi
          · rw [index_one]; exact h0
        have hq : index (b :: l) [c] = index l [c] + 1 := by rw [index_cons_ne h, if_neg hi]
        show (if (index (b :: l) [c] == -1) = true then _ else _) = (match (if (index l [c] == -1) = true then _ else _) with | [] => [[b]] | p :: ps => (b :: p) :: ps)
        rw [hq]
        have e1 : ((index l [c] + 1) == -1) = false := by simp; omega
        have e2 : (index l [c] == -1) = false := by simp; omega
        rw [e1, e2]
        have e3 : (index l [c] + 1).toNat = (index l [c]).toNat + 1 := by omega
        simp [e3]
def mkb (l : List UInt8) : ByteArray := ⟨l.toArray⟩
theorem mkb_toList (s : ByteArray) : mkb s.data.toList = s := by unfold mkb; simp
@[simp] theorem mkb_data (l : List UInt8) : (mkb l).data.toList = l := by unfold mkb; simp
@[simp] theorem mkb_size (l : List UInt8) : (mkb l).size = l.length := by unfold mkb; simp [ByteArray.size]
@[simp] theorem mkb_toL (l : List UInt8) : (mkb l).toList = l := by rw [toList_eq, mkb_data]
theorem mkb_inj {a b : List UInt8} (h : mkb a = mkb b) : a = b := by have := congrArg (fun x => x.data.toList) h; simpa using this
theorem ba_ext {a b : ByteArray} (h : a.data.toList = b.data.toList) : a = b := by rw [← mkb_toList a, ← mkb_toList b, h]
def pieces (c : UInt8) (s : ByteArray) : List ByteArray := (spl c s.data.toList).map mkb
theorem splitB_pieces (c : UInt8) (s : ByteArray) : splitB ⟨#[c]⟩ 0 (countB s ⟨#[c]⟩) s = pieces c s := by
  have h := splitB_data ⟨#[c]⟩ 0 (countB s ⟨#[c]⟩) s
  have e : countB s ⟨#[c]⟩ = s.data.toList.count c := count_one c _
  have e2 : (⟨#[c]⟩ : ByteArray).data.toList = [c] := rfl
  rw [e, e2, splitK_spl] at h
  unfold pieces
  rw [← h, e, List.map_map]
  have : (mkb ∘ fun x => x.data.toList) = id := by funext x; exact mkb_toList x
  rw [this, List.map_id]
theorem pieces_length (c : UInt8) (s : ByteArray) : (pieces c s).length = countB s ⟨#[c]⟩ + 1 := by
  rw [← splitB_pieces]
  exact splitB_all ⟨#[c]⟩ (Nat.le_refl 1) 0 _ s rfl
end Cru
end

section
/- Lemmas of this session between the print's words and the library's: rows of strings. -/
namespace Go.Proofs.YtnlipeiamnknbaaDoorW.Hand
open Go.RowKit Go.Proofs.YtnlipeiamnknbaaDoorW.PrintWords Go.Proofs.YtnlipeiamnknbaaDoorW.PrintLast

/-- The cells of a slice of strings that is read, as the shelf's contracts want them. -/
theorem cells_string {w : World} {A : Option Addr} {n : Nat} {xs : List ByteArray} (h : Kd.string.C w A n xs) (hp : 0 < n) :
    ∃ bk o, A = some ⟨bk, o, none⟩ ∧ bk < w.heap.size ∧ ∀ (j : Nat) x, xs[j]? = some x → w.cell? ⟨bk, o + j, none⟩ = some (.string x) := by
  obtain ⟨hl, hm, hc⟩ := h
  obtain ⟨ad, rfl, hd⟩ := hc hp
  clear hc
  obtain ⟨bk, o, sp⟩ := ad
  have key : ∀ (j : Nat) x, xs[j]? = some x → w.cell? ((⟨bk, o, sp⟩ : Addr).add j) = some (.string x) := by
    intro j x hx
    obtain ⟨c, hc1, hc2, hc3⟩ := hd j x hx
    have := hc3 0 (.string x) (by rw [show c = [.string x] from hc2]; rfl)
    have e : j * Kd.string.sz + 0 = j := by show j * 1 + 0 = j; omega
    rwa [e] at this
  have h0 : xs[0]? = some xs[0] := List.getElem?_eq_getElem (by omega)
  have k0 := key 0 _ h0
  have hs : sp = none := by
    unfold World.cell? Addr.add at k0
    cases sp with
    | none => rfl
    | some q => simp at k0; split at k0 <;> simp_all
  subst hs
  refine ⟨bk, o, rfl, ?_, fun j x hx => ?_⟩
  · exact World.block_lt_of_cell? w _ k0
  · have := key j x hx
    unfold Addr.add at this
    split at this
    · rename_i hj; subst hj; simpa using this
    · exact this
/-- A literal of strings at a new block. -/
theorem R_strings {w : World} (e : Nat) (xs : List ByteArray) (hm : xs.length ≤ maxLen) :
    Kd.R Kd.string e (w.alloc (.cells (xs.map Value.string).toArray e)) w.heap.size (fun _ => True) (.slice (some ⟨w.heap.size, 0, none⟩) xs.length xs.length) xs := by
  refine Kd.R_of_own ?_ (fun _ _ => trivial)
  have h := World.ownsRow_lit (base := w.heap.size) (e := e) (size := 1) w (xs.map Value.string).toArray xs.length (Nat.le_refl _) hm (by simp)
  simpa [encs] using h
theorem slice_ownBlock (A : Option Addr) (n c : Nat) : (Value.slice A n c).ownBlock = A.map (·.block) := by cases A <;> rfl
/-- 'xs[m:]' and 'xs[:m]' of strings that are read. -/
theorem cut_strings {P : Program} (t e : TypeId) {z : Value} {bytes : Nat} (ht : P.underlying t = some (.slice e)) (hinfo : (P.info? e).map (fun i => (i.zero, i.size, i.bytes)) = some (some z, 1, bytes)) (A : Option Addr) (xs : List ByteArray) (c m : Nat) (j : Int) (hj : j = (m : Int)) (hm : m ≤ xs.length) (hc : xs.length ≤ c) :
    ∃ A', (∀ W : World, (Instr.slice t (.slice A xs.length c) (some (.int .i64 j)) none none).run P W = .ok (.slice A' (xs.drop m).length (c - m)) W) ∧ (∀ w : World, Kd.C Kd.string w A xs.length xs → Kd.C Kd.string w A' (xs.drop m).length (xs.drop m)) := by
  subst hj
  obtain ⟨i0, hi, _, hsz, _⟩ := info_parts hinfo
  have h := cut_from (P := P) t e .i64 ht hi 1 hsz A xs.length c (m : Int) (by omega) (by omega)
  refine ⟨_, fun W => ?_, fun w hr => Kd.C_drop (k := Kd.string) hr hm hc⟩
  rw [h W, Int.toNat_natCast, List.length_drop]
  rfl
theorem cut_strings_to {P : Program} (t e : TypeId) {z : Value} {bytes : Nat} (ht : P.underlying t = some (.slice e)) (hinfo : (P.info? e).map (fun i => (i.zero, i.size, i.bytes)) = some (some z, 1, bytes)) (A : Option Addr) (xs : List ByteArray) (c m : Nat) (j : Int) (hj : j = (m : Int)) (hm : m ≤ xs.length) (hc : xs.length ≤ c) :
    (∀ W : World, (Instr.slice t (.slice A xs.length c) none (some (.int .i64 j)) none).run P W = .ok (.slice A (xs.take m).length c) W) ∧ (∀ w : World, Kd.C Kd.string w A xs.length xs → Kd.C Kd.string w A (xs.take m).length (xs.take m)) := by
  subst hj
  obtain ⟨i0, hi, _, hsz, _⟩ := info_parts hinfo
  have h := cut_to (P := P) t e .i64 ht hi A xs.length c (m : Int) (by omega) (by omega) hc
  refine ⟨fun W => ?_, fun w hr => Kd.C_take (k := Kd.string) hr hm⟩
  rw [h W, Int.toNat_natCast, List.length_take, Nat.min_eq_left hm]
theorem cell_far {W : World} {p ad : Addr} {u v : Value} (hne : ad.block ≠ p.block) (h : W.cell? ad = some v) : (W.setCell p u).cell? ad = some v := by
  unfold World.cell? at h ⊢
  rw [Below.heap_setCell W p u ad.block hne]
  exact h
end Go.Proofs.YtnlipeiamnknbaaDoorW.Hand
end

section
/- Plain lemmas of this session, no program in them: a build line. -/
namespace Cru
open Go Go.Lib
/-- The words of a text. -/
def wordsOf (s : ByteArray) : List ByteArray := (pieces 32 s).filter fun p => !(p.size == 0)
/-- The first text that is no name; -1: there is none. -/
def idxOdd (xs : List ByteArray) : Int := if xs.all nameOk then -1 else (xs.takeWhile nameOk).length
theorem takeWhile_all {α : Type} (p : α → Bool) : ∀ l : List α, l.all p = true → l.takeWhile p = l
  | [], _ => rfl
  | a :: l, h => by simp at h; rw [List.takeWhile_cons, if_pos h.1, takeWhile_all p l (by simpa using h.2)]
theorem takeWhile_at {α : Type} (p : α → Bool) : ∀ (l : List α) (i : Nat) (h : i < l.length), (l.take i).all p = true → p l[i] = false → (l.takeWhile p).length = i ∧ l.all p = false
  | [], i, h, _, _ => by simp at h
  | a :: l, 0, _, _, hp => by simp at hp; rw [List.takeWhile_cons, if_neg (by simp [hp])]; simp [hp]
  | a :: l, i + 1, h, ht, hp => by
    simp at ht
    have := takeWhile_at p l i (by simpa using h) (by simpa using ht.2) (by simpa using hp)
    rw [List.takeWhile_cons, if_pos ht.1]
    simp [this.1, this.2]
theorem take_all_succ {α : Type} (p : α → Bool) (l : List α) (i : Nat) (h : i < l.length) (ht : (l.take i).all p = true) (hp : p l[i] = true) : (l.take (i + 1)).all p = true := by
  rw [List.take_succ_eq_append_getElem h, List.all_append, ht]; simp [hp]
theorem idxOdd_end {xs : List ByteArray} (h : (xs.take xs.length).all nameOk = true) : idxOdd xs = -1 := by
  rw [List.take_length] at h; unfold idxOdd; rw [if_pos h]
theorem idxOdd_at {xs : List ByteArray} {i : Nat} (h : i < xs.length) (ht : (xs.take i).all nameOk = true) (hp : nameOk xs[i] = false) : idxOdd xs = i := by
  have := takeWhile_at nameOk xs i h ht hp
  unfold idxOdd; rw [if_neg (by simp [this.2]), this.1]
/-- How many names stand at the front. -/
def lead (xs : List ByteArray) : Nat := (xs.takeWhile nameOk).length
theorem lead_le (xs : List ByteArray) : lead xs ≤ xs.length := (List.takeWhile_sublist _).length_le
theorem idxOdd_cases (xs : List ByteArray) : (idxOdd xs = -1 ∧ lead xs = xs.length) ∨ idxOdd xs = (lead xs : Int) := by
  unfold idxOdd lead
  by_cases h : xs.all nameOk = true
  · rw [if_pos h, takeWhile_all _ _ h]; exact .inl ⟨rfl, rfl⟩
  · rw [if_neg h]; exact .inr rfl
theorem take_lead (xs : List ByteArray) : xs.take (lead xs) = xs.takeWhile nameOk := by
  unfold lead
  induction xs with
  | nil => rfl
  | cons a l ih => rw [List.takeWhile_cons]; split <;> simp [ih]
theorem drop_lead (xs : List ByteArray) : xs.drop (lead xs) = xs.dropWhile nameOk := by
  unfold lead
  induction xs with
  | nil => rfl
  | cons a l ih => rw [List.takeWhile_cons, List.dropWhile_cons]; split <;> simp [ih]
/-- Is the sign next? -/
def isSign (s : ByteArray) : List ByteArray → Bool
  | [] => false
  | x :: _ => x.toList == s.toList
/-- The reader's state: its words, is it bad. names(least): what it hands back, and the state. -/
def badN (least : Int) (xs : List ByteArray) (bad : Bool) : Bool := bad || decide ((lead xs : Int) < least) || decide ((8 : Int) < (lead xs : Int))
def restN (xs : List ByteArray) : List ByteArray := xs.drop (lead xs)
def takeN (xs : List ByteArray) : List ByteArray := xs.take (lead xs)
def partOut (s : ByteArray) (xs : List ByteArray) : List ByteArray := if isSign s xs then takeN xs.tail else []
def partRest (s : ByteArray) (xs : List ByteArray) : List ByteArray := if isSign s xs then restN xs.tail else xs
def partBad (s : ByteArray) (xs : List ByteArray) (bad : Bool) : Bool := if isSign s xs then badN 1 xs.tail bad else bad
def bar : ByteArray := ⟨#[124]⟩
def bars : ByteArray := ⟨#[124, 124]⟩
def colon : ByteArray := ⟨#[58]⟩
/-- A build line's parts, out of its words. -/
def built (ws : List ByteArray) : Option (List ByteArray × ByteArray × List ByteArray × List ByteArray × List ByteArray) :=
  let w1 := restN ws
  let w2 := if isSign colon w1 then w1.tail else w1
  match w2 with
  | [] => none
  | rule :: w3 =>
    if !(isSign colon w1) || badN 1 ws false || !(nameOk rule) then none
    else
      let w4 := restN w3
      let w5 := partRest bar w4
      let w6 := partRest bars w5
      if partBad bars w5 (partBad bar w4 (badN 0 w3 false)) || !w6.isEmpty then none
      else some (takeN ws, rule, takeN w3, partOut bar w4, partOut bars w5)
theorem wordsOf_bound {s : ByteArray} (hs : s.size < 4294967281) : (wordsOf s).length * 16 ≤ 140737488355328 := by
  have h1 : (wordsOf s).length ≤ (pieces 32 s).length := List.length_filter_le _ _
  have h2 := countB_le ⟨#[32]⟩ (Nat.le_refl 1) s.size s (Nat.le_refl _)
  rw [pieces_length] at h1
  omega
theorem partRest_le (s : ByteArray) (xs : List ByteArray) : (partRest s xs).length ≤ xs.length := by
  unfold partRest restN
  split
  · rw [List.length_drop, List.length_tail]; omega
  · exact Nat.le_refl _
end Cru
end

section
/- Plain lemmas of this session, no program in them: a path made clean. -/
namespace Cru
open Go Go.Lib

/-- Pieces of a name, put on what is kept; none: it leads out. -/
def normL : List ByteArray → List ByteArray → Option (List ByteArray)
  | [], ks => some ks
  | p :: ps, ks => if p.toList = [] then normL ps ks else if p.toList = [46] then normL ps ks else
      if p.toList = [46, 46] then (if ks.length = 0 then none else normL ps (ks.take (ks.length - 1))) else normL ps (ks ++ [p])
/-- What is kept, as a path with its error's number. -/
def finP : Option (List ByteArray) → ByteArray × Int
  | none => (⟨#[]⟩, 200)
  | some ks => if ks.length = 0 then (⟨#[]⟩, 200) else (mkb (Lib.join (ks.map (·.data.toList)) [47]), 0)
def cleanP (s : ByteArray) : ByteArray × Int := if nameOk s && !(s.data.toList.head? == some 47) then finP (normL (pieces 47 s) []) else (⟨#[]⟩, 200)
def pathOk (s : ByteArray) : Bool := decide ((cleanP s).2 = 0) && ((cleanP s).1.toList == s.toList)
def pathsOk (xs : List ByteArray) : Bool := xs.all pathOk

theorem join_cons (x : List UInt8) (xs : List (List UInt8)) (sep : List UInt8) : Lib.join (x :: xs) sep = x ++ (xs.map (sep ++ ·)).flatten := by
  unfold Lib.join
  induction xs generalizing x with
  | nil => simp [List.intercalate]
  | cons y ys ih =>
    have := ih y
    simp only [List.intercalate, List.intersperse_cons_cons, List.flatten_cons] at this ⊢
    rw [this]
    simp
theorem join_nil (sep : List UInt8) : Lib.join [] sep = [] := rfl
theorem spl_len (c : UInt8) (l : List UInt8) : (spl c l).length ≤ l.length + 1 := by
  induction l with
  | nil => simp [spl]
  | cons b l ih =>
    unfold spl
    split
    · simp; exact ih
    · split
      · simp
      · rename_i h; rw [h] at ih; simp at ih ⊢; omega
theorem spl_mem (c : UInt8) (l : List UInt8) : ∀ p ∈ spl c l, p.length ≤ l.length := by
  induction l with
  | nil => simp [spl]
  | cons b l ih =>
    unfold spl
    split
    · intro p hp
      rcases List.mem_cons.mp hp with rfl | hp
      · simp
      · have := ih p hp; simp; omega
    · split
      · rename_i h; exact absurd h (spl_ne _ _)
      · rename_i q qs h
        rw [h] at ih
        intro p hp
        rcases List.mem_cons.mp hp with rfl | hp
        · have := ih q (List.mem_cons_self ..); simp; omega
        · have := ih p (List.mem_cons_of_mem _ hp); simp; omega
theorem pieces_len (c : UInt8) (s : ByteArray) : (pieces c s).length ≤ s.size + 1 := by
  unfold pieces; rw [List.length_map]; have := spl_len c s.data.toList; rwa [Array.length_toList] at this
theorem pieces_mem (c : UInt8) (s : ByteArray) : ∀ p ∈ pieces c s, p.size ≤ s.size := by
  intro p hp
  unfold pieces at hp
  obtain ⟨q, hq, rfl⟩ := List.mem_map.mp hp
  rw [mkb_size]
  have := spl_mem c _ q hq
  rwa [Array.length_toList] at this
theorem nameOk_size {s : ByteArray} (h : nameOk s = true) : 1 ≤ s.size ∧ s.size ≤ 16 := by
  unfold nameOk at h
  simp only [Bool.and_eq_true, decide_eq_true_eq] at h
  exact h.1
theorem normL_small (n m : Nat) : ∀ (ps ks : List ByteArray), (∀ p ∈ ps, p.size ≤ n) → (∀ p ∈ ks, p.size ≤ n) → ps.length + ks.length ≤ m → ∀ r, normL ps ks = some r → (∀ p ∈ r, p.size ≤ n) ∧ r.length ≤ m
  | [], ks, _, hk, hm, r, h => by
    unfold normL at h; cases h; simp at hm; exact ⟨hk, by omega⟩
  | p :: ps, ks, hp, hk, hm, r, h => by
    have hp' : ∀ q ∈ ps, q.size ≤ n := fun q hq => hp q (List.mem_cons_of_mem _ hq)
    simp only [List.length_cons] at hm
    unfold normL at h
    split at h
    · exact normL_small n m ps ks hp' hk (by omega) r h
    · split at h
      · exact normL_small n m ps ks hp' hk (by omega) r h
      · split at h
        · split at h
          · cases h
          · exact normL_small n m ps _ hp' (fun q hq => hk q (List.mem_of_mem_take hq)) (by rw [List.length_take]; omega) r h
        · refine normL_small n m ps _ hp' (fun q hq => ?_) (by simp; omega) r h
          rcases List.mem_append.mp hq with hq | hq
          · exact hk q hq
          · rw [List.mem_singleton.mp hq]; exact hp p (List.mem_cons_self ..)
theorem join_len (n : Nat) (sep : List UInt8) : ∀ ks : List ByteArray, (∀ p ∈ ks, p.size ≤ n) → (Lib.join (ks.map (·.data.toList)) sep).length ≤ ks.length * (n + sep.length)
  | [], _ => by simp [join_nil]
  | k :: ks, h => by
    have h0 := h k (List.mem_cons_self ..)
    have hs : k.data.toList.length = k.size := by rw [Array.length_toList]; rfl
    have : ∀ ks : List ByteArray, (∀ p ∈ ks, p.size ≤ n) → ((ks.map (fun x => sep ++ x.data.toList)).flatten).length ≤ ks.length * (n + sep.length) := by
      intro ks
      induction ks with
      | nil => simp
      | cons a l ih =>
        intro h
        have ha := h a (List.mem_cons_self ..)
        have hsa : a.data.toList.length = a.size := by rw [Array.length_toList]; rfl
        have := ih (fun p hp => h p (List.mem_cons_of_mem _ hp))
        simp only [List.map_cons, List.flatten_cons, List.length_append, List.length_cons] at this ⊢
        rw [Nat.add_mul]
        omega
    have h1 := this ks (fun p hp => h p (List.mem_cons_of_mem _ hp))
    rw [List.map_cons, join_cons, List.length_append, List.map_map, List.length_cons, Nat.add_mul]
    simp only [Function.comp_def] at h1 ⊢
    omega
theorem cleanP_ok {s : ByteArray} (h : pathOk s = true) : nameOk s = true := by
  unfold pathOk at h
  rw [Bool.and_eq_true, decide_eq_true_eq] at h
  unfold cleanP at h
  by_cases hn : nameOk s = true
  · exact hn
  · rw [if_neg (by simp [hn])] at h
    simp at h
end Cru
end

section
namespace Go.Proofs.YtnlipeiamnknbaaDoor.A
open Go.RowKit Go.Proofs.YtnlipeiamnknbaaDoorW.PrintWords Go.Proofs.YtnlipeiamnknbaaDoorW.PrintLast Go.Proofs.YtnlipeiamnknbaaDoorW.PrintMore
attribute [local go_sem] max2_int min2_int max_two min_two max_three min_three max_four min_four   -- for this text's walks alone
set_option linter.unusedVariables false
set_option linter.unusedSimpArgs false



def errW : Option Int → Value
  | none => .nilIface
  | some c => .iface 0 (.int .i64 c)
theorem errW_none : errW none = .nilIface := rfl
theorem errW_some (c : Int) : errW (some c) = .iface 0 (.int .i64 c) := rfl

theorem info9 : (Tryd.prog.info? 9).map (fun i => (i.zero, i.size, i.bytes)) = some (some (.string ⟨#[]⟩), 1, 16) := by kernel_rfl
-- the values' own types

end Go.Proofs.YtnlipeiamnknbaaDoor.A
end

section
namespace Go.Proofs.YtnlipeiamnknbaaDoor.A
open Go.RowKit Go.Proofs.YtnlipeiamnknbaaDoorW.PrintWords Go.Proofs.YtnlipeiamnknbaaDoorW.PrintLast Go.Proofs.YtnlipeiamnknbaaDoorW.PrintMore
attribute [local go_sem] max2_int min2_int max_two min_two max_three min_three max_four min_four   -- for this text's walks alone
set_option linter.unusedVariables false
set_option linter.unusedSimpArgs false

/-! ### strings_Split: function 50 -/
theorem strings_genSplit.one (s : ByteArray) (b : UInt8) (w : World) (hs : s.size < 4294967281) :
    Calls Tryd.prog 78 #[.string s, .string ⟨#[b]⟩, .int .i64 0, .int .i64 (-1)] w fun e w' =>
      e = .returned (.slice (some ⟨w.heap.size, 0, none⟩) (Cru.pieces b s).length (Cru.pieces b s).length) ∧ w' = w.alloc (.cells ((Cru.pieces b s).map Value.string).toArray 9) := by
  have c := Any.strings_genSplit_core Tryd.lays221 (by kernel_rfl) s ⟨#[b]⟩ 0 (-1) (Lib.countB s ⟨#[b]⟩ + 1) w hs (Nat.le_refl 1) (Nat.zero_le _)
    (fun x c _ => by
      have h := Any.strings_Index_one { Tryd.lays221 with } x b (w.alloc (.cells c 9))
      rw [← Lib.index_one] at h
      exact h)
    (by
      have h := Any.strings_Count_one { Tryd.lays221 with } s b w
      have e : Lib.countByte s.data.toList b = Lib.countB s ⟨#[b]⟩ := (Lib.count_one b _).symm
      rw [e] at h
      exact h) (by decide) (by decide) (by
        have := Lib.countB_le ⟨#[b]⟩ (Nat.le_refl 1) s.size s (Nat.le_refl _)
        rw [if_pos (by decide)]; omega)
  rw [Nat.add_sub_cancel, Cru.splitB_pieces, ← Cru.pieces_length] at c
  have e2 : Lib.cellsOf (Cru.pieces b s) (Cru.pieces b s).length = ((Cru.pieces b s).map Value.string).toArray := Lib.cellsOf_full _
  rw [e2] at c
  exact c
def strings_Split.f (a0 : ByteArray) (a1 : ByteArray) : Option (List ByteArray) := if a0.size < 4294967281 ∧ a1.size = 1 then some (Cru.pieces (a1.get! 0) a0) else none
set_option maxHeartbeats 8000000 in
set_option maxRecDepth 100000 in
theorem strings_Split.calls (a0 : ByteArray) (a1 : ByteArray) (r : List ByteArray) (w : World) (h : strings_Split.f a0 a1 = some r) :
    Calls Tryd.prog 50 #[.string a0, .string a1] w fun e w' => ∃ v0_ : Value, e = .returned (v0_) ∧ Kd.R Kd.string 9 w' w.heap.size (fun _ => True) v0_ r ∧ Below w.heap.size w w' := by
  unfold strings_Split.f at h
  by_cases hc : a0.size < 4294967281 ∧ a1.size = 1
  · rw [if_pos hc] at h
    obtain rfl := Option.some.inj h
    clear h
    obtain ⟨h1, h2⟩ := hc
    obtain ⟨b, rfl⟩ := Lib.one_byte a1 h2
    have e : (⟨#[b]⟩ : ByteArray).get! 0 = b := rfl
    rw [e]
    have HC := strings_genSplit.one a0 b w h1
    have hl : (Cru.pieces b a0).length ≤ maxLen := by
      have := Lib.countB_le ⟨#[b]⟩ (Nat.le_refl 1) a0.size a0 (Nat.le_refl _)
      rw [Cru.pieces_length]; unfold maxLen; omega
    have HR := Go.Proofs.YtnlipeiamnknbaaDoorW.Hand.R_strings (w := w) 9 (Cru.pieces b a0) hl
    obtain ⟨n, hn⟩ : ∃ n, (Cru.pieces b a0).length = n := ⟨_, rfl⟩
    rw [hn] at HC HR
    have HRA := Aside0.mk HR
    clear HR h1 h2 e hl hn
    go_enter Tryd.func50, Tryd.ntmps50
    go_wp2_with (go_at_call 78; refine HC.mono ?_; rintro e w' ⟨rfl, rfl⟩)
    go_ret
    exact ⟨_, rfl, HRA.out, (Below.refl _ _).alloc (Nat.le_refl _) _⟩
  · rw [if_neg hc] at h
    cases h


end Go.Proofs.YtnlipeiamnknbaaDoor.A
end

section
namespace Go.Proofs.YtnlipeiamnknbaaDoor.A
open Go.RowKit Go.Proofs.YtnlipeiamnknbaaDoorW.PrintWords Go.Proofs.YtnlipeiamnknbaaDoorW.PrintLast Go.Proofs.YtnlipeiamnknbaaDoorW.PrintMore
attribute [local go_sem] max2_int min2_int max_two min_two max_three min_three max_four min_four   -- for this text's walks alone
set_option linter.unusedVariables false
set_option linter.unusedSimpArgs false

/-! ### words_Of: function 36 -/
theorem words_empty.calls (x : ByteArray) (W : World) : Calls Tryd.prog 67 #[.string x] W fun e w' => e = .returned (.bool (x.size == 0)) ∧ ∃ q, w' = W.drewN q := by
  by_cases h0 : 1 ≤ x.size
  · have e0 : (x.toList == []) = false := Cru.toList_pos h0
    have e1 : x.toList.isEmpty = false := by have := e0; cases hx : x.toList <;> simp_all
    have eb : (x.size == 0) = false := by rw [beq_eq_false_iff_ne]; omega
    rw [eb]
    clear eb
    go_enter Tryd.func67, Tryd.ntmps67
    go_wp2
    go_ret
    exact ⟨rfl, 0, rfl⟩
  · have e0 : (x.toList == []) = true := Cru.toList_nil h0
    have e1 : x.toList.isEmpty = true := by have := e0; cases hx : x.toList <;> simp_all
    have eb : (x.size == 0) = true := by rw [beq_iff_eq]; omega
    rw [eb]
    clear eb
    go_enter Tryd.func67, Tryd.ntmps67
    go_wp2
    go_ret
    exact ⟨rfl, 0, rfl⟩
theorem words_empty.enters : ∀ args w, (callFunc 67 args).run Tryd.prog w = .ok (.enter 67 args) w :=
  enters_of Tryd.func67 (by kernel_rfl) rfl
theorem words_delete.calls (g cap : Nat) (xs : List ByteArray) (base : Nat) (w : World) (ho : w.ownsRow base 9 1 (.slice (some ⟨g, 0, none⟩) xs.length cap) xs.length (xs.map Value.string)) :
    Calls Tryd.prog 66 #[.slice (some ⟨g, 0, none⟩) xs.length cap, .func (.func 67) #[] #[]] w fun e w' =>
      e = .returned (.slice (some ⟨g, 0, none⟩) (xs.filter fun p => !(p.size == 0)).length cap) ∧ w'.ownsRow base 9 1 (.slice (some ⟨g, 0, none⟩) (xs.filter fun p => !(p.size == 0)).length cap) (xs.filter fun p => !(p.size == 0)).length ((xs.filter fun p => !(p.size == 0)).map Value.string) ∧ ∀ w0 : World, Below w0.heap.size w0 w → w0.heap.size ≤ g → Below w0.heap.size w0 w' := by
  obtain ⟨g', cap', he, hg, hlt, hn, hm, hl, hH⟩ := Lib.holds_of_ownsRow ho (by simp)
  injection he with he1 he2 he3
  injection he1 with he1
  injection he1 with he1
  subst he1; subst he3
  have hmm : cap ≤ 9223372036854775807 := hm
  have h := Tryd.slices_DeleteFunc Value.string (fun _ => rfl) (fun p : ByteArray => p.size == 0) 67 #[] words_empty.enters ByteArray.empty (fun w => by kernel_rfl) g 0 cap xs.toArray w
    (fun W x _ => words_empty.calls x W) (fun n os dk x _ => words_empty.calls x _) hH (by simp; omega) (by simpa using hn)
  refine Calls.mono h ?_
  rintro e w' ⟨rfl, q, rfl⟩
  have hk : (xs.filter fun p => !(p.size == 0)).length ≤ xs.length := List.length_filter_le _ _
  refine ⟨rfl, ?_, fun w0 hb hg' => Lib.below_putRow hb hg'⟩
  have := Lib.ownsRow_putRow (q := q) (k := (xs.filter fun p => !(p.size == 0)).length) (ys := (xs.filter fun p => !(p.size == 0)) ++ List.replicate (xs.length - (xs.filter fun p => !(p.size == 0)).length) ByteArray.empty) ho (by simp; omega) hk
  rw [List.take_left'] at this
  · exact this
  · rfl
theorem words_Of.calls (s : ByteArray) (hs : s.size < 4294967281) (w : World) :
    Calls Tryd.prog 36 #[.string s] w fun e w' => ∃ v0_ : Value, e = .returned v0_ ∧ Kd.R Kd.string 9 w' w.heap.size (fun _ => True) v0_ (Cru.wordsOf s) ∧ Below w.heap.size w w' := by
  have HS := Aside0.mk (show strings_Split.f s ⟨#[32]⟩ = some (Cru.pieces 32 s) by unfold strings_Split.f; rw [if_pos ⟨hs, rfl⟩]; rfl)
  have hne : 0 < (Cru.pieces 32 s).length := by rw [Cru.pieces_length]; omega
  go_enter Tryd.func36, Tryd.ntmps36
  go_wp2_with (first | (go_at_call 50; refine (strings_Split.calls _ _ _ _ HS.out).mono ?_; rintro e w1 ⟨v, rfl, ho, hb⟩; obtain ⟨g, cap, rfl, hg, hlt, hn, hm, hl, hH⟩ := Lib.holds_of_ownsRow (Kd.own_of_R ho) (by rintro rfl; obtain ⟨_, _, e', _⟩ := Kd.R_reads ho; injection e' with _ e2; omega); have HO := Aside0.mk (Kd.own_of_R ho); have HB := Aside0.mk hb; clear ho hb hH) | (go_at_call 66; refine (words_delete.calls g cap (Cru.pieces 32 s) w.heap.size _ HO.out).mono ?_; rintro e w2 ⟨rfl, ho2, hb2⟩))
  go_ret
  exact ⟨_, rfl, Kd.R_of_own ho2 (fun _ _ => trivial), hb2 w HB.out hg⟩


end Go.Proofs.YtnlipeiamnknbaaDoor.A
end

section
namespace Go.Proofs.YtnlipeiamnknbaaDoor.A
open Go.RowKit Go.Proofs.YtnlipeiamnknbaaDoorW.PrintWords Go.Proofs.YtnlipeiamnknbaaDoorW.PrintLast Go.Proofs.YtnlipeiamnknbaaDoorW.PrintMore
attribute [local go_sem] max2_int min2_int max_two min_two max_three min_three max_four min_four   -- for this text's walks alone
set_option linter.unusedVariables false
set_option linter.unusedSimpArgs false

/-- A state of type 68 at block g of W; what its slices lead to came in by w0. -/
def IsS68 (w0 W : World) (g : Nat) (f0 : List ByteArray) (f1 : Bool) : Prop := ∃ A0 c0, W.heap[g]? = some (.cells #[.slice A0 f0.length c0, .bool f1] 68 (0, 0)) ∧ w0.heap.size ≤ g ∧ Kd.C Kd.string w0 A0 f0.length f0
theorem IsS68.grown {w0 W : World} {g : Nat} {f0 : List ByteArray} {f1 : Bool} {W1 : World} {row : Option Nat} (h : IsS68 w0 W g f0 f1) (hw : W.grownBy W1 row) (hne : some g ≠ row) : IsS68 w0 W1 g f0 f1 := by
  obtain ⟨A0, c0, hb, hg, hr0⟩ := h
  exact ⟨A0, c0, blk_grown hb hw hne, hg, hr0⟩
theorem IsS68.own_neN {w0 W : World} {g : Nat} {f0 : List ByteArray} {f1 : Bool} {α : Type} {d : Kd α} {e : Nat} {base : Nat} {ok : Nat → Prop} {v : Value} {xs : List α} (h : IsS68 w0 W g f0 f1) (ho : Kd.N d e W base ok v xs) (ht : e ≠ 68) : some g ≠ v.ownBlock := by
  obtain ⟨A0, c0, hb, hg, hr0⟩ := h
  exact Kd.N_ne ho hb ht
theorem IsS68.fresh {w0 W : World} {g : Nat} {f0 : List ByteArray} {f1 : Bool} (h : IsS68 w0 W g f0 f1) : ∀ k, W.heap.size ≤ k → k ≠ g := by
  obtain ⟨A0, c0, hb, hg, hr0⟩ := h
  exact Kd.freshB hb
theorem IsS68.kept {w0 W : World} {g : Nat} {f0 : List ByteArray} {f1 : Bool} {W1 : World} {S : Nat → Prop} (h : IsS68 w0 W g f0 f1) (hk : Kept W W1 S) (hne : ¬ S g) : IsS68 w0 W1 g f0 f1 := by
  obtain ⟨A0, c0, hb, hg, hr0⟩ := h
  exact ⟨A0, c0, blk_kept hb hk hne, hg, hr0⟩
theorem IsS68.below {w0 W : World} {g : Nat} {f0 : List ByteArray} {f1 : Bool} {W1 : World} (h : IsS68 w0 W g f0 f1) (hw : Below W.heap.size W W1) : IsS68 w0 W1 g f0 f1 := h.grown (grown_of_below hw none) (by simp)
theorem IsS68.alloc {w0 W : World} {g : Nat} {f0 : List ByteArray} {f1 : Bool} (h : IsS68 w0 W g f0 f1) (o : Obj) : IsS68 w0 (W.alloc o) g f0 f1 := h.below (below_alloc (Below.refl _ _) o)
theorem IsS68.drewN {w0 W : World} {g : Nat} {f0 : List ByteArray} {f1 : Bool} (h : IsS68 w0 W g f0 f1) (m : Nat) : IsS68 w0 (W.drewN m) g f0 f1 := h
theorem IsS68.drew {w0 W : World} {g : Nat} {f0 : List ByteArray} {f1 : Bool} (h : IsS68 w0 W g f0 f1) : IsS68 w0 W.drew g f0 f1 := h
theorem IsS68.at_ {w0 W : World} {g : Nat} {f0 : List ByteArray} {f1 : Bool} {w' : World} {m : Nat} (hq : W.drewN m = w') (h : IsS68 w0 W g f0 f1) : IsS68 w0 w' g f0 f1 := by subst hq; exact IsS68.drewN h m
theorem IsS68.apart {w0 W : World} {g : Nat} {f0 : List ByteArray} {f1 : Bool} {α : Type} {d : Kd α} {e : Nat} {base : Nat} {ok : Nat → Prop} {v : Value} {xs : List α} (h : IsS68 w0 W g f0 f1) (ho : d.R e W base ok v xs) (ht : ∀ q, q ∈ e :: d.E → q ≠ 68) : d.R e W base (fun k => ok k ∧ k ≠ g) v xs := by
  obtain ⟨A0, c0, hb, hg, hr0⟩ := h
  exact Kd.R_types ho hb ht
theorem IsS68.own_ne {w0 W : World} {g : Nat} {f0 : List ByteArray} {f1 : Bool} {α : Type} {d : Kd α} {e : Nat} {base : Nat} {ok : Nat → Prop} {v : Value} {xs : List α} (h : IsS68 w0 W g f0 f1) (ho : d.R e W base ok v xs) (ht : e ≠ 68) : some g ≠ v.ownBlock := by
  obtain ⟨A0, c0, hb, hg, hr0⟩ := h
  exact Kd.R_ne ho hb ht
theorem IsS68.apartQ {w0 W : World} {g : Nat} {f0 : List ByteArray} {f1 : Bool} {α : Type} {d : Kd α} {e : Nat} {base : Nat} {ok : Nat → Prop} {v : Value} {xs : List α} (h : IsS68 w0 W g f0 f1) (ho : d.Q e W base ok v xs) (ht : ∀ q, q ∈ e :: d.E → q ≠ 68) : d.Q e W base (fun k => ok k ∧ k ≠ g) v xs := by
  obtain ⟨A0, c0, hb, hg, hr0⟩ := h
  exact Kd.Q_types ho hb ht
theorem IsS68.own_neQ {w0 W : World} {g : Nat} {f0 : List ByteArray} {f1 : Bool} {α : Type} {d : Kd α} {e : Nat} {base : Nat} {ok : Nat → Prop} {v : Value} {xs : List α} (h : IsS68 w0 W g f0 f1) (ho : d.Q e W base ok v xs) (ht : e ≠ 68) : some g ≠ v.ownBlock := by
  obtain ⟨A0, c0, hb, hg, hr0⟩ := h
  exact Kd.Q_ne ho hb ht
theorem IsS68.apartS {w0 W : World} {g : Nat} {f0 : List ByteArray} {f1 : Bool} {α : Type} {d : Kd α} {e : Nat} {base : Nat} {ok : Nat → Prop} {v : Value} {xs : List α} (h : IsS68 w0 W g f0 f1) (ho : d.S e W base ok v xs) (ht : ∀ q, q ∈ e :: d.E → q ≠ 68) : d.S e W base (fun k => ok k ∧ k ≠ g) v xs := by
  obtain ⟨A0, c0, hb, hg, hr0⟩ := h
  exact Kd.S_types ho hb ht
theorem IsS68.own_neS {w0 W : World} {g : Nat} {f0 : List ByteArray} {f1 : Bool} {α : Type} {d : Kd α} {e : Nat} {base : Nat} {ok : Nat → Prop} {v : Value} {xs : List α} (h : IsS68 w0 W g f0 f1) (ho : d.S e W base ok v xs) (ht : e ≠ 68) : some g ≠ v.ownBlock := by
  obtain ⟨A0, c0, hb, hg, hr0⟩ := h
  exact Kd.S_ne ho hb ht
theorem IsS68.lt {w0 W : World} {g : Nat} {f0 : List ByteArray} {f1 : Bool} (h : IsS68 w0 W g f0 f1) : g < W.heap.size := by
  obtain ⟨A0, c0, hb, hg, hr0⟩ := h
  exact blk_lt hb
theorem IsS68.ge {w0 W : World} {g : Nat} {f0 : List ByteArray} {f1 : Bool} (h : IsS68 w0 W g f0 f1) : w0.heap.size ≤ g := by
  obtain ⟨A0, c0, hb, hg, hr0⟩ := h
  exact hg
theorem IsS68.ne_blk {w0 W : World} {g : Nat} {f0 : List ByteArray} {f1 : Bool} {a : Nat} {cs : Array Value} {t : TypeId} {fr : Nat × Nat} (h : IsS68 w0 W g f0 f1) (hb2 : W.heap[a]? = some (.cells cs t fr)) (ht : t ≠ 68) : g ≠ a := by
  obtain ⟨A0, c0, hb, hg, hr0⟩ := h
  rintro rfl
  rw [hb] at hb2
  injection hb2 with hb2
  injection hb2 with _ ht2
  exact ht ht2.symm
theorem IsS68.far {w0 W : World} {g : Nat} {f0 : List ByteArray} {f1 : Bool} {p : Addr} (h : IsS68 w0 W g f0 f1) (hne : g ≠ p.block) (u : Value) : IsS68 w0 (W.setCell p u) g f0 f1 := by
  obtain ⟨A0, c0, hb, hg, hr0⟩ := h
  exact ⟨A0, c0, blk_far hb hne u, hg, hr0⟩
theorem cellS68_0 {W : World} {g : Nat} {A0 : Option Addr} {c0 : Nat} {f0 : List ByteArray} {f1 : Bool} (h : W.heap[g]? = some (.cells #[.slice A0 f0.length c0, .bool f1] 68 (0, 0))) : W.cell? ⟨g, 0, none⟩ = some (.slice A0 f0.length c0) := (blk_cell h 0).trans rfl
theorem cellS68_1 {W : World} {g : Nat} {A0 : Option Addr} {c0 : Nat} {f0 : List ByteArray} {f1 : Bool} (h : W.heap[g]? = some (.cells #[.slice A0 f0.length c0, .bool f1] 68 (0, 0))) : W.cell? ⟨g, 1, none⟩ = some (.bool f1) := (blk_cell h 1).trans rfl
theorem IsS68.set_1 {w0 W : World} {g : Nat} {f0 : List ByteArray} {f1 : Bool} (h : IsS68 w0 W g f0 f1) (x : Bool) : IsS68 w0 (W.setCell ⟨g, 1, none⟩ (.bool x)) g f0 x := by
  obtain ⟨A0, c0, hb, hg, hr0⟩ := h
  exact ⟨A0, c0, by simpa using blk_set hb 1 (.bool x), hg, hr0⟩
theorem IsS68.new (w0 W : World) (A0 : Option Addr) (c0 : Nat) (f0 : List ByteArray) (f1 : Bool) (hB : Below w0.heap.size w0 W) (hr0 : Kd.C Kd.string w0 A0 f0.length f0) : IsS68 w0 (W.alloc (.cells #[.slice A0 f0.length c0, .bool f1] 68)) W.heap.size f0 f1 := ⟨A0, c0, by simpa using heap_alloc_new W _, hB.size, hr0⟩

/-! ### words_reader_sign: function 38 -/
/-- The reader at block g: its words came in by w0. -/
def Rdr (w0 W : World) (g : Nat) (ws : List ByteArray) (bad : Bool) : Prop :=
  ∃ A c, W.heap[g]? = some (.cells #[.slice A ws.length c, .bool bad] 68 (0, 0)) ∧ w0.heap.size ≤ g ∧ ws.length ≤ c ∧ c ≤ 9223372036854775807 ∧ Kd.C Kd.string w0 A ws.length ws
theorem info_string : (Tryd.prog.info? 9).map (fun i => (i.zero, i.size, i.bytes)) = some (some (.string ⟨#[]⟩), 1, 16) := by kernel_rfl
theorem reader_sign.calls (w0 w : World) (g : Nat) (ws : List ByteArray) (bad : Bool) (s : ByteArray) (hI : Rdr w0 w g ws bad) (hB : Below w0.heap.size w0 w) :
    Calls Tryd.prog 38 #[.pointer (some ⟨g, 0, none⟩), .string s] w fun e w' => e = .returned (.bool (Cru.isSign s ws)) ∧ Rdr w0 w' g (if Cru.isSign s ws then ws.tail else ws) bad ∧ Below w0.heap.size w0 w' ∧ KeepBut w w' g none := by
  have hI0 := hI
  obtain ⟨A, c, hb, hg, hc, hm, hC⟩ := hI
  have h0 := blk_cell hb 0
  have h1 := blk_cell hb 1
  have hf0 := blk_frozen hb 0
  have hf1 := blk_frozen hb 1
  have HB := Aside0.mk hB
  have HI := Aside0.mk hI0
  have HBK := Aside0.mk hb
  clear hB hI0 hb
  rcases ws with _ | ⟨x, t⟩
  · have e : Cru.isSign s [] = false := rfl
    rw [e]
    clear e
    have d0 : decide ((0 : Int) < (([] : List ByteArray).length : Int)) = false := by simp
    have d1 : decide (0 < ([] : List ByteArray).length) = false := by simp
    go_enter Tryd.func38, Tryd.ntmps38
    go_wp2
    go_ret
    exact ⟨rfl, HI.out, HB.out, KeepBut.refl _ _ _⟩
  · have d1 : decide (0 < (x :: t).length) = true := by simp
    have d0 : decide ((0 : Int) < ((x :: t).length : Int)) = true := by simp
    obtain ⟨ad, e1, hx⟩ := Kd.at_string (Kd.C_below hC HB.out) (0 : Int) (by omega) (by simp)
    cases e1
    have hrd : rdOf ByteArray.empty (x :: t) (0 : Int) = x := rfl
    rw [hrd] at hx
    have hx' : w.cell? ad = some (Value.string x) := hx
    have hcell : (0 : Int) < ((x :: t).length : Int) := by simp
    clear hrd hx
    have es : Cru.isSign s (x :: t) = (x.toList == s.toList) := rfl
    rw [es]
    clear es
    obtain ⟨b, hb⟩ : ∃ b, (x.toList == s.toList) = b := ⟨_, rfl⟩
    rw [hb]
    have HC' := Aside0.mk (Kd.C_drop (k := Kd.string) (c := c) (m := 1) hC (by simp) hc)
    clear hC
    cases b with
    | false =>
      go_enter Tryd.func38, Tryd.ntmps38
      go_wp2
      go_ret
      exact ⟨rfl, HI.out, HB.out, KeepBut.refl _ _ _⟩
    | true =>
      by_cases hc1 : c = 1
      · subst hc1
        go_enter Tryd.func38, Tryd.ntmps38
        go_wp2
        go_ret
        refine ⟨rfl, ⟨some ad, 0, ?_, hg, by simp at hc ⊢; omega, by omega, by simpa using HC'.out⟩, HB.out.setCell hg _, KeepBut.set_ (KeepBut.refl _ _ _) _ _⟩
        have := blk_set HBK.out 0 (.slice (some ad) t.length 0)
        simpa using this
      · have hc2 : 1 < c := by simp at hc; omega
        go_enter Tryd.func38, Tryd.ntmps38
        go_wp2
        go_ret
        refine ⟨rfl, ⟨some ⟨ad.block, ad.off + 1, none⟩, c - 1, ?_, hg, by simp at hc ⊢; omega, by omega, by have := HC'.out; rw [if_neg hc1] at this; exact this⟩, HB.out.setCell hg _, KeepBut.set_ (KeepBut.refl _ _ _) _ _⟩
        have := blk_set HBK.out 0 (.slice (some ⟨ad.block, ad.off + 1, none⟩) t.length (c - 1))
        simpa using this


end Go.Proofs.YtnlipeiamnknbaaDoor.A
end

section
namespace Go.Proofs.YtnlipeiamnknbaaDoor.A
open Go.RowKit Go.Proofs.YtnlipeiamnknbaaDoorW.PrintWords Go.Proofs.YtnlipeiamnknbaaDoorW.PrintLast Go.Proofs.YtnlipeiamnknbaaDoorW.PrintMore
attribute [local go_sem] max2_int min2_int max_two min_two max_three min_three max_four min_four   -- for this text's walks alone
set_option linter.unusedVariables false
set_option linter.unusedSimpArgs false

/-! ### name_Var: function 93 -/
def name_Var.f (a0 : Int) : Option (Bool) := if a0 ≥ 97 then (if a0 ≤ 122 then (some true) else (if a0 ≥ 48 then (if a0 ≤ 57 then (some true) else (some (a0 == 95))) else (some (a0 == 95)))) else (if a0 ≥ 48 then (if a0 ≤ 57 then (some true) else (some (a0 == 95))) else (some (a0 == 95)))
set_option maxHeartbeats 8000000 in
set_option maxRecDepth 100000 in
theorem name_Var.calls (a0 : Int) (r : Bool) (w : World) (h : name_Var.f a0 = some r) :
    Calls Tryd.prog 93 #[.int .u8 a0] w fun e w' => e = .returned (.bool r) ∧ Drawn0 w w' := by
  have H : (if a0 ≥ 97 then (if a0 ≤ 122 then (some true) else (if a0 ≥ 48 then (if a0 ≤ 57 then (some true) else (some (a0 == 95))) else (some (a0 == 95)))) else (if a0 ≥ 48 then (if a0 ≤ 57 then (some true) else (some (a0 == 95))) else (some (a0 == 95)))) = some r := h
  clear h
  by_cases c2 : a0 ≥ 97
  · rw [if_pos c2] at H
    have c2b0 : decide (97 ≤ a0) = true := decide_eq_true c2
    clear c2
    by_cases c3 : a0 ≤ 122
    · rw [if_pos c3] at H
      have c3b0 : decide (a0 ≤ 122) = true := decide_eq_true c3
      clear c3
      obtain rfl := Option.some.inj H
      go_enter Tryd.func93, Tryd.ntmps93
      go_wp2
      go_ret
      exact ⟨by first | rfl | (simp; done) | (simp [*]; done), by repeat (first | exact Drawn0.refl _ | apply Drawn0.step)⟩
    · rw [if_neg c3] at H
      have c3b0 : decide (a0 ≤ 122) = false := decide_eq_false c3
      clear c3
      by_cases c4 : a0 ≥ 48
      · rw [if_pos c4] at H
        have c4b0 : decide (48 ≤ a0) = true := decide_eq_true c4
        clear c4
        by_cases c5 : a0 ≤ 57
        · rw [if_pos c5] at H
          have c5b0 : decide (a0 ≤ 57) = true := decide_eq_true c5
          clear c5
          obtain rfl := Option.some.inj H
          go_enter Tryd.func93, Tryd.ntmps93
          go_wp2
          go_ret
          exact ⟨by first | rfl | (simp; done) | (simp [*]; done), by repeat (first | exact Drawn0.refl _ | apply Drawn0.step)⟩
        · rw [if_neg c5] at H
          have c5b0 : decide (a0 ≤ 57) = false := decide_eq_false c5
          clear c5
          obtain rfl := Option.some.inj H
          go_enter Tryd.func93, Tryd.ntmps93
          go_wp2
          go_ret
          exact ⟨by first | rfl | (simp; done) | (simp [*]; done), by repeat (first | exact Drawn0.refl _ | apply Drawn0.step)⟩
      · rw [if_neg c4] at H
        have c4b0 : decide (48 ≤ a0) = false := decide_eq_false c4
        clear c4
        obtain rfl := Option.some.inj H
        go_enter Tryd.func93, Tryd.ntmps93
        go_wp2
        go_ret
        exact ⟨by first | rfl | (simp; done) | (simp [*]; done), by repeat (first | exact Drawn0.refl _ | apply Drawn0.step)⟩
  · rw [if_neg c2] at H
    have c2b0 : decide (97 ≤ a0) = false := decide_eq_false c2
    clear c2
    by_cases c6 : a0 ≥ 48
    · rw [if_pos c6] at H
      have c6b0 : decide (48 ≤ a0) = true := decide_eq_true c6
      clear c6
      by_cases c7 : a0 ≤ 57
      · rw [if_pos c7] at H
        have c7b0 : decide (a0 ≤ 57) = true := decide_eq_true c7
        clear c7
        obtain rfl := Option.some.inj H
        go_enter Tryd.func93, Tryd.ntmps93
        go_wp2
        go_ret
        exact ⟨by first | rfl | (simp; done) | (simp [*]; done), by repeat (first | exact Drawn0.refl _ | apply Drawn0.step)⟩
      · rw [if_neg c7] at H
        have c7b0 : decide (a0 ≤ 57) = false := decide_eq_false c7
        clear c7
        obtain rfl := Option.some.inj H
        go_enter Tryd.func93, Tryd.ntmps93
        go_wp2
        go_ret
        exact ⟨by first | rfl | (simp; done) | (simp [*]; done), by repeat (first | exact Drawn0.refl _ | apply Drawn0.step)⟩
    · rw [if_neg c6] at H
      have c6b0 : decide (48 ≤ a0) = false := decide_eq_false c6
      clear c6
      obtain rfl := Option.some.inj H
      go_enter Tryd.func93, Tryd.ntmps93
      go_wp2
      go_ret
      exact ⟨by first | rfl | (simp; done) | (simp [*]; done), by repeat (first | exact Drawn0.refl _ | apply Drawn0.step)⟩

end Go.Proofs.YtnlipeiamnknbaaDoor.A
end

section
namespace Go.Proofs.YtnlipeiamnknbaaDoor.A
open Go.RowKit Go.Proofs.YtnlipeiamnknbaaDoorW.PrintWords Go.Proofs.YtnlipeiamnknbaaDoorW.PrintLast Go.Proofs.YtnlipeiamnknbaaDoorW.PrintMore
attribute [local go_sem] max2_int min2_int max_two min_two max_three min_three max_four min_four   -- for this text's walks alone
set_option linter.unusedVariables false
set_option linter.unusedSimpArgs false

/-! ### name_May: function 39 -/
/-- A byte of a name, or another sign: what name.one says of a rune. -/
theorem name_Var.tells (x : Nat) (hx : x < 128) : name_Var.f (x : Int) = some ((97 ≤ x && x ≤ 122) || (48 ≤ x && x ≤ 57) || x == 95) := by
  have key : ∀ y : Fin 128, name_Var.f ((y.val : Nat) : Int) = some ((97 ≤ y.val && y.val ≤ 122) || (48 ≤ y.val && y.val ≤ 57) || y.val == 95) := by decide +kernel
  exact key ⟨x, hx⟩
theorem name_one.sign (x : Nat) (hx : x < 128) : decide (0 ≤ Lib.indexByte [46, 45, 47] (Int.toNat (x : Int)).toUInt8) = (x == 46 || x == 45 || x == 47) := by
  have key : ∀ y : Fin 128, decide (0 ≤ Lib.indexByte [46, 45, 47] (Int.toNat ((y.val : Nat) : Int)).toUInt8) = (y.val == 46 || y.val == 45 || y.val == 47) := by decide +kernel
  exact key ⟨x, hx⟩
theorem name_one.byte (x : Nat) (hx : x < 128) : IntKind.u8.wrap (x : Int) = (x : Int) := by
  have key : ∀ y : Fin 128, IntKind.u8.wrap ((y.val : Nat) : Int) = ((y.val : Nat) : Int) := by decide +kernel
  exact key ⟨x, hx⟩
theorem name_one.calls (x : Nat) (W : World) : Calls Tryd.prog 72 #[.int .i32 (x : Int)] W fun e w' => e = .returned (.bool (Cru.okb x)) ∧ ∃ q, w' = W.drewN q := by
  by_cases hlt : x < 128
  · have hv := name_Var.tells x hlt
    obtain ⟨b, hb⟩ : ∃ b : Bool, b = ((97 ≤ x && x ≤ 122) || (48 ≤ x && x ≤ 57) || x == 95) := ⟨_, rfl⟩
    rw [← hb] at hv
    have hs := fun W : World => Tryd.strings_ContainsRune_ascii ⟨#[46, 45, 47]⟩ (x : Int) W (by omega) (by omega)
    have hk := name_one.sign x hlt
    have hokb : Cru.okb x = (b || (x == 46 || x == 45 || x == 47)) := by rw [hb]; unfold Cru.okb; simp [Bool.or_assoc]
    rw [hokb]
    have HV := Aside0.mk hv
    obtain ⟨d, hd⟩ : ∃ d : Bool, (x == 46 || x == 45 || x == 47) = d := ⟨_, rfl⟩
    simp only [hk, hd] at hs
    have HS := Aside0.mk hs
    rw [hd]
    clear hv hb hokb hs hk hd
    have h1 : decide ((x : Int) < 128) = true := by simp; omega
    have hc := name_one.byte x hlt
    cases b with
    | true =>
      go_enter Tryd.func72, Tryd.ntmps72
      go_wp2_with (go_at_call 93; refine (name_Var.calls _ _ _ HV.out).mono ?_; rintro e w' ⟨rfl, ⟨nd, rfl⟩⟩)
      go_ret
      exact ⟨rfl, _, rfl⟩
    | false =>
      go_enter Tryd.func72, Tryd.ntmps72
      go_wp2_with (first | (go_at_call 93; refine (name_Var.calls _ _ _ HV.out).mono ?_; rintro e w' ⟨rfl, ⟨nd, rfl⟩⟩) | (go_at_call 94; refine (HS.out _).mono ?_; rintro e w' ⟨rfl, rfl⟩))
      go_ret
      exact ⟨rfl, _, rfl⟩
  · have h1 : decide ((x : Int) < 128) = false := by simp; omega
    rw [Cru.okb_hi (by omega)]
    go_enter Tryd.func72, Tryd.ntmps72
    go_wp2
    go_ret
    exact ⟨rfl, 0, rfl⟩
theorem name_May_1.calls (x : Nat) (W : World) : Calls Tryd.prog 71 #[.int .i32 (x : Int)] W fun e w' => e = .returned (.bool (!Cru.okb x)) ∧ ∃ q, w' = W.drewN q := by
  go_enter Tryd.func71, Tryd.ntmps71
  go_wp2_with (go_at_call 72; refine (name_one.calls x _).mono ?_; rintro e w' ⟨rfl, q, rfl⟩)
  go_ret
  exact ⟨rfl, _, rfl⟩
theorem name_May.enters : ∀ args w, (callFunc 71 args).run Tryd.prog w = .ok (.enter 71 args) w :=
  enters_of Tryd.func71 (by kernel_rfl) rfl
theorem name_May.all (s : ByteArray) (W : World) : Calls Tryd.prog 73 #[.string s, .func (.func 71) #[] #[]] W fun e w' => e = .returned (.bool (!(s.data.toList.all fun b => Cru.okb b.toNat))) ∧ Below W.heap.size W w' := by
  have h := Tryd.strings_ContainsFunc_runes 71 #[] name_May.enters (fun x => !Cru.okb x) s W (fun W' x _ _ => name_May_1.calls x W')
  rw [Cru.idx_name] at h
  exact h
def name_May.f (a0 : ByteArray) : Option Bool := some (Cru.nameOk a0)
set_option maxHeartbeats 8000000 in
set_option maxRecDepth 100000 in
theorem name_May.calls (a0 : ByteArray) (r : Bool) (w : World) (h : name_May.f a0 = some r) :
    Calls Tryd.prog 39 #[.string a0] w fun e w' => e = .returned (.bool r) ∧ Below w.heap.size w w' := by
  obtain rfl := Option.some.inj h
  clear h
  have HA := fun W => name_May.all a0 W
  unfold Cru.nameOk
  by_cases h0 : 1 ≤ a0.size
  · have e0 : (a0.toList == []) = false := Cru.toList_pos h0
    by_cases h1 : a0.size ≤ 16
    · obtain ⟨b, hb⟩ : ∃ b, (a0.data.toList.all fun b => Cru.okb b.toNat) = b := ⟨_, rfl⟩
      simp only [hb] at HA ⊢
      have HAA := Aside0.mk HA
      clear HA hb
      have h1' : decide ((a0.size : Int) ≤ 16) = true := by simp; omega
      have eb : (decide (1 ≤ a0.size) && decide (a0.size ≤ 16) && b) = b := by simp [h0, h1]
      rw [eb]
      clear eb
      go_enter Tryd.func39, Tryd.ntmps39
      go_wp2_with (go_at_call 73; refine (HAA.out _).mono ?_; rintro e w' ⟨rfl, hb⟩)
      go_ret
      exact ⟨rfl, hb⟩
    · have h1' : decide ((a0.size : Int) ≤ 16) = false := by simp; omega
      have eb : (decide (1 ≤ a0.size) && decide (a0.size ≤ 16) && (a0.data.toList.all fun b => Cru.okb b.toNat)) = false := by simp [h1]
      rw [eb]
      clear eb HA
      go_enter Tryd.func39, Tryd.ntmps39
      go_wp2
      go_ret
      exact ⟨rfl, Below.refl _ _⟩
  · have e0 : (a0.toList == []) = true := Cru.toList_nil h0
    have eb : (decide (1 ≤ a0.size) && decide (a0.size ≤ 16) && (a0.data.toList.all fun b => Cru.okb b.toNat)) = false := by simp [h0]
    rw [eb]
    clear eb HA
    go_enter Tryd.func39, Tryd.ntmps39
    go_wp2
    go_ret
    exact ⟨rfl, Below.refl _ _⟩


end Go.Proofs.YtnlipeiamnknbaaDoor.A
end

section
namespace Go.Proofs.YtnlipeiamnknbaaDoor.A
open Go.RowKit Go.Proofs.YtnlipeiamnknbaaDoorW.PrintWords Go.Proofs.YtnlipeiamnknbaaDoorW.PrintLast Go.Proofs.YtnlipeiamnknbaaDoorW.PrintMore
attribute [local go_sem] max2_int min2_int max_two min_two max_three min_three max_four min_four   -- for this text's walks alone
set_option linter.unusedVariables false
set_option linter.unusedSimpArgs false

/-! ### slices_Clone_string_string: function 70 -/
def slices_Clone_string_string.f (l0 : List ByteArray) : Option (List ByteArray) := if l0.length * 16 ≤ 140737488355328 then some l0 else none
set_option maxHeartbeats 8000000 in
set_option maxRecDepth 100000 in
theorem slices_Clone_string_string.calls (A0 : Option Addr) (c0 : Nat) (l0 : List ByteArray) (r : List ByteArray) (w : World) (hr0 : Kd.C Kd.string w A0 l0.length l0) (hc0 : l0.length ≤ c0) (h : slices_Clone_string_string.f l0 = some r) :
    Calls Tryd.prog 70 #[.slice A0 l0.length c0] w fun e w' => ∃ v0_ : Value, e = .returned (v0_) ∧ Kd.R Kd.string 9 w' w.heap.size (fun _ => True) v0_ r ∧ Below w.heap.size w w' := by
  unfold slices_Clone_string_string.f at h
  by_cases hc : l0.length * 16 ≤ 140737488355328
  · rw [if_pos hc] at h
    obtain rfl := Option.some.inj h
    clear h
    rcases A0 with _ | ad
    · have h0 : l0.length = 0 := by
        rcases Nat.eq_zero_or_pos l0.length with h0 | h0
        · exact h0
        · obtain ⟨bk, o, he, _⟩ := Go.Proofs.YtnlipeiamnknbaaDoorW.Hand.cells_string hr0 h0
          cases he
      obtain rfl := List.eq_nil_of_length_eq_zero h0
      refine (Tryd.slices_Clone_string_nil _ c0 w).mono ?_
      rintro e w' ⟨rfl, rfl⟩
      exact ⟨_, rfl, Kd.R_nil _ _ _ _ _, Below.refl _ _⟩
    · rcases Nat.eq_zero_or_pos l0.length with h0 | h0
      · obtain rfl := List.eq_nil_of_length_eq_zero h0
        refine (Tryd.slices_Clone_string_zero ad c0 w).mono ?_
        rintro e w' ⟨v, rfl, ho, _, hb⟩
        exact ⟨_, rfl, Kd.R_of_own (xs := ([] : List ByteArray)) ho (fun _ _ => trivial), hb⟩
      · obtain ⟨bk, o, he, hbk, hcell⟩ := Go.Proofs.YtnlipeiamnknbaaDoorW.Hand.cells_string hr0 h0
        cases he
        refine (Tryd.slices_Clone_string bk o l0.length c0 l0 w (Nat.le_refl _) hc (fun j hj => ?_)).mono ?_
        · have := hcell j _ (List.getElem?_eq_getElem hj)
          rw [List.getD_eq_getElem?_getD, List.getElem?_eq_getElem hj]
          exact this
        · rintro e w' ⟨v, rfl, ho, _, hb⟩
          rw [List.take_length] at ho
          exact ⟨_, rfl, Kd.R_of_own ho (fun _ _ => trivial), hb⟩
  · rw [if_neg hc] at h
    cases h


end Go.Proofs.YtnlipeiamnknbaaDoor.A
end

section
namespace Go.Proofs.YtnlipeiamnknbaaDoor.A
open Go.RowKit Go.Proofs.YtnlipeiamnknbaaDoorW.PrintWords Go.Proofs.YtnlipeiamnknbaaDoorW.PrintLast Go.Proofs.YtnlipeiamnknbaaDoorW.PrintMore
attribute [local go_sem] max2_int min2_int max_two min_two max_three min_three max_four min_four   -- for this text's walks alone
set_option linter.unusedVariables false
set_option linter.unusedSimpArgs false

/-! ### words_reader_names: function 37 -/
theorem words_odd.calls (x : ByteArray) (W : World) : Calls Tryd.prog 69 #[.string x] W fun e w' => e = .returned (.bool (!Cru.nameOk x)) ∧ Below W.heap.size W w' := by
  have HN := fun W => name_May.calls x (Cru.nameOk x) W rfl
  obtain ⟨b, hb⟩ : ∃ b, Cru.nameOk x = b := ⟨_, rfl⟩
  rw [hb] at HN ⊢
  have HNN := Aside0.mk HN
  clear HN hb
  go_enter Tryd.func69, Tryd.ntmps69
  go_wp2_with (go_at_call 39; refine (HNN.out _).mono ?_; rintro e w' ⟨rfl, hb⟩)
  go_ret
  exact ⟨rfl, hb⟩
theorem words_odd.enters : ∀ args w, (callFunc 69 args).run Tryd.prog w = .ok (.enter 69 args) w :=
  enters_of Tryd.func69 (by kernel_rfl) rfl
theorem words_index.calls (A : Option Addr) (c : Nat) (xs : List ByteArray) (w : World) (hr : Kd.C Kd.string w A xs.length xs) :
    Calls Tryd.prog 68 #[.slice A xs.length c, .func (.func 69) #[] #[]] w fun e w' => e = .returned (.int .i64 (Cru.idxOdd xs)) ∧ Below w.heap.size w w' := by
  have HR := Aside0.mk hr
  have hm : xs.length ≤ 9223372036854775807 := hr.2.1
  have eg := words_odd.enters
  clear hr
  go_enter Tryd.func68, Tryd.ntmps68
  go_wp2
  go_loopg [8] xs.length (fun gf s8 wx => ∃ i : Nat, s8 = .int .i64 i ∧ i ≤ xs.length ∧ xs.length ≤ i + gf ∧ Aside0 ((xs.take i).all Cru.nameOk = true) ∧ Aside0 (Below w.heap.size w wx))
  case atStart => exact ⟨0, rfl, Nat.zero_le _, by omega, ⟨by simp⟩, ⟨Below.refl _ _⟩⟩
  case round =>
    obtain ⟨i, rfl, hi, hg, hall, hB⟩ := hrel
    by_cases hlt : i < xs.length
    · obtain ⟨g', rfl⟩ : ∃ g', gk = g' + 1 := ⟨gk - 1, by omega⟩
      obtain ⟨ad, e1, hx⟩ := Kd.at_string (Kd.C_below HR.out hB.out) (i : Int) (by omega) (by omega)
      cases e1
      have hrd : rdOf ByteArray.empty xs (i : Int) = xs[i] := by unfold rdOf; simp [List.getD_eq_getElem?_getD, List.getElem?_eq_getElem hlt]
      rw [hrd, show (Int.toNat (i : Int)) = i from rfl] at hx
      clear hrd
      cases hok : Cru.nameOk xs[i] with
      | true =>
        have HOK := Aside0.mk hok
        clear hok
        go_wp2_with (go_at_fn 69; refine (words_odd.calls _ _).mono ?_; rw [HOK.out]; rintro e w' ⟨rfl, hb2⟩)
        go_roundg g'
        case rel => exact ⟨i + 1, by go_num, by omega, by omega, ⟨Cru.take_all_succ _ _ _ hlt hall.out HOK.out⟩, ⟨below_step hB.out hb2⟩⟩
        case measure => omega
      | false =>
        have HOK := Aside0.mk hok
        clear hok
        go_wp2_with (go_at_fn 69; refine (words_odd.calls _ _).mono ?_; rw [HOK.out]; rintro e w' ⟨rfl, hb2⟩)
        go_ret
        exact ⟨by rw [Cru.idxOdd_at hlt hall.out HOK.out]; rfl, below_step hB.out hb2⟩
    · obtain rfl : i = xs.length := by omega
      go_wp2
      go_ret
      exact ⟨by rw [Cru.idxOdd_end hall.out]; rfl, hB.out⟩
theorem reader_names.done {w0 w w1 w2 : World} {g n c c' : Nat} {A A' : Option Addr} {b0 b2 : Bool} {v2 : Value} {tk dr : List ByteArray} (hbk : w2.heap[g]? = some (.cells #[.slice A n c, .bool b0] 68 (0, 0))) (ho : Kd.R Kd.string 9 w2 w1.heap.size (fun _ => True) v2 tk) (hB : Below w0.heap.size w0 w2) (hk : KeepBut w w2 g none) (hsz : w.heap.size ≤ w1.heap.size) (hdl : dr.length ≤ c') (hc' : c' ≤ 9223372036854775807) (hC : Kd.C Kd.string w0 A' dr.length dr) (hg : w0.heap.size ≤ g) :
    Kd.R Kd.string 9 ((w2.setCell ⟨g, 0, none⟩ (.slice A' dr.length c')).setCell ⟨g, 1, none⟩ (.bool b2)) w.heap.size (fun _ => True) v2 tk ∧ Rdr w0 ((w2.setCell ⟨g, 0, none⟩ (.slice A' dr.length c')).setCell ⟨g, 1, none⟩ (.bool b2)) g dr b2 ∧ Below w0.heap.size w0 ((w2.setCell ⟨g, 0, none⟩ (.slice A' dr.length c')).setCell ⟨g, 1, none⟩ (.bool b2)) ∧ KeepBut w ((w2.setCell ⟨g, 0, none⟩ (.slice A' dr.length c')).setCell ⟨g, 1, none⟩ (.bool b2)) g none := by
  refine ⟨?_, ⟨A', c', ?_, hg, hdl, hc', hC⟩, (hB.setCell hg _).setCell hg _, KeepBut.set_ (KeepBut.set_ hk _ _) _ _⟩
  · have h1 := Kd.R_types ho hbk (by decide)
    have h2 := Kd.R_far (p := ⟨g, 0, none⟩) h1 (fun k hk => hk.2) (.slice A' dr.length c')
    have h3 := Kd.R_far (p := ⟨g, 1, none⟩) h2 (fun k hk => hk.2) (.bool b2)
    exact Kd.R_lower (Kd.R_mono h3 (fun _ _ => trivial)) hsz
  · have := blk_set (blk_set hbk 0 (.slice A' dr.length c')) 1 (.bool b2)
    simpa using this
set_option maxHeartbeats 8000000 in
set_option maxRecDepth 100000 in
theorem reader_names.walk (w0 w : World) (g : Nat) (ws : List ByteArray) (bad : Bool) (least : Int) (hI : Rdr w0 w g ws bad) (hB : Below w0.heap.size w0 w) (hbig : ws.length * 16 ≤ 140737488355328) (i : Int) (hi : (i = -1 ∧ Cru.lead ws = ws.length) ∨ i = (Cru.lead ws : Int)) (hidx : Cru.idxOdd ws = i) (b2 : Bool) (hb2 : Cru.badN least ws bad = b2) :
    Calls Tryd.prog 37 #[.pointer (some ⟨g, 0, none⟩), .int .i64 least] w fun e w' => ∃ v : Value, e = .returned v ∧ Kd.R Kd.string 9 w' w.heap.size (fun _ => True) v (Cru.takeN ws) ∧ Rdr w0 w' g (Cru.restN ws) b2 ∧ Below w0.heap.size w0 w' ∧ KeepBut w w' g none := by
  obtain ⟨A, c, hb, hg, hc, hm, hC⟩ := hI
  have HB := Aside0.mk hB
  have HBK := Aside0.mk hb
  have HC := Aside0.mk hC
  have hle := Cru.lead_le ws
  obtain ⟨L, hL⟩ : ∃ L, Cru.lead ws = L := ⟨_, rfl⟩
  unfold Cru.badN at hb2
  unfold Cru.takeN Cru.restN
  rw [hL] at hi hb2 hle ⊢
  obtain ⟨A', hcut, hC'⟩ := Go.Proofs.YtnlipeiamnknbaaDoorW.Hand.cut_strings (P := Tryd.prog) 22 9 Tryd.underlying22 info_string A ws c L (L : Int) rfl hle hc
  obtain ⟨hto, hCt⟩ := Go.Proofs.YtnlipeiamnknbaaDoorW.Hand.cut_strings_to (P := Tryd.prog) 22 9 Tryd.underlying22 info_string A ws c L (L : Int) rfl hle hc
  have hlt : (ws.take L).length ≤ c := by rw [List.length_take]; omega
  have hld : (ws.drop L).length ≤ c - L := by rw [List.length_drop]; omega
  have hcl : slices_Clone_string_string.f (ws.take L) = some (ws.take L) := by unfold slices_Clone_string_string.f; rw [if_pos (by rw [List.length_take]; omega)]
  obtain ⟨tk, htk⟩ : ∃ tk, ws.take L = tk := ⟨_, rfl⟩
  obtain ⟨dr, hdr⟩ : ∃ dr, ws.drop L = dr := ⟨_, rfl⟩
  rw [htk] at hto hCt hcl hlt ⊢
  rw [hdr] at hcut hC' hld ⊢
  have HC' := Aside0.mk (hC' w0 hC)
  have HCt := Aside0.mk hCt
  have HIX := Aside0.mk hidx
  have HCL := Aside0.mk hcl
  have HLT := Aside0.mk hlt
  have HLD := Aside0.mk hld
  have h0 := blk_cell hb 0
  have h1 := blk_cell hb 1
  clear hb hB hC hC' hCt hidx hL hcl htk hdr hlt hld
  rcases hi with ⟨rfl, hL⟩ | rfl
  · have d1 : decide ((-1 : Int) < 0) = true := by decide
    subst hL
    cases bad with
    | true =>
      simp only [Bool.true_or] at hb2
      subst hb2
      go_enter Tryd.func37, Tryd.ntmps37
      go_wp2_with (first | (go_at_call 68; refine (words_index.calls _ _ _ _ (Kd.C_below HC.out HB.out)).mono ?_; rw [HIX.out]; rintro e w1 ⟨rfl, hb1⟩; have HBK1 := Aside0.mk (blk_below HBK.out hb1); have HB1 := Aside0.mk (below_weaken HB.out HB.out.size hb1); have h10 := blk_cell HBK1.out 0; have h11 := blk_cell HBK1.out 1) | (go_at_call 70; refine (slices_Clone_string_string.calls A c tk tk _ (HCt.out _ (Kd.C_below HC.out HB1.out)) HLT.out HCL.out).mono ?_; rintro e w2 ⟨v2, rfl, ho2, hb2⟩; have HBK2 := Aside0.mk (blk_below HBK1.out hb2); have HB2 := Aside0.mk (below_weaken HB1.out HB1.out.size hb2); have HO2 := Aside0.mk ho2; have HK2 := Aside0.mk (KeepBut.of_below (below_step hb1 hb2) g none); have HS1 := Aside0.mk hb1.size; have h20 := blk_cell HBK2.out 0; have h21 := blk_cell HBK2.out 1; have f20 := blk_frozen HBK2.out 0; have f21 := blk_frozen HBK2.out 1; clear ho2 hb2))
      go_ret
      exact ⟨v2, rfl, reader_names.done HBK2.out HO2.out HB2.out HK2.out HS1.out HLD.out (by omega) HC'.out hg⟩
    | false =>
      simp only [Bool.false_or] at hb2
      by_cases h2 : (ws.length : Int) < least
      · have e2 : decide ((ws.length : Int) < least) = true := decide_eq_true h2
        rw [e2, Bool.true_or] at hb2
        subst hb2
        clear h2
        go_enter Tryd.func37, Tryd.ntmps37
        go_wp2_with (first | (go_at_call 68; refine (words_index.calls _ _ _ _ (Kd.C_below HC.out HB.out)).mono ?_; rw [HIX.out]; rintro e w1 ⟨rfl, hb1⟩; have HBK1 := Aside0.mk (blk_below HBK.out hb1); have HB1 := Aside0.mk (below_weaken HB.out HB.out.size hb1); have h10 := blk_cell HBK1.out 0; have h11 := blk_cell HBK1.out 1) | (go_at_call 70; refine (slices_Clone_string_string.calls A c tk tk _ (HCt.out _ (Kd.C_below HC.out HB1.out)) HLT.out HCL.out).mono ?_; rintro e w2 ⟨v2, rfl, ho2, hb2⟩; have HBK2 := Aside0.mk (blk_below HBK1.out hb2); have HB2 := Aside0.mk (below_weaken HB1.out HB1.out.size hb2); have HO2 := Aside0.mk ho2; have HK2 := Aside0.mk (KeepBut.of_below (below_step hb1 hb2) g none); have HS1 := Aside0.mk hb1.size; have h20 := blk_cell HBK2.out 0; have h21 := blk_cell HBK2.out 1; have f20 := blk_frozen HBK2.out 0; have f21 := blk_frozen HBK2.out 1; clear ho2 hb2))
        go_ret
        exact ⟨v2, rfl, reader_names.done HBK2.out HO2.out HB2.out HK2.out HS1.out HLD.out (by omega) HC'.out hg⟩
      · have e2 : decide ((ws.length : Int) < least) = false := decide_eq_false h2
        rw [e2, Bool.false_or] at hb2
        clear h2
        by_cases h3 : (8 : Int) < (ws.length : Int)
        · have e3 : decide ((8 : Int) < (ws.length : Int)) = true := decide_eq_true h3
          have e4 : decide (8 < ws.length) = true := decide_eq_true (by omega)
          rw [e3] at hb2
          subst hb2
          clear h3
          go_enter Tryd.func37, Tryd.ntmps37
          go_wp2_with (first | (go_at_call 68; refine (words_index.calls _ _ _ _ (Kd.C_below HC.out HB.out)).mono ?_; rw [HIX.out]; rintro e w1 ⟨rfl, hb1⟩; have HBK1 := Aside0.mk (blk_below HBK.out hb1); have HB1 := Aside0.mk (below_weaken HB.out HB.out.size hb1); have h10 := blk_cell HBK1.out 0; have h11 := blk_cell HBK1.out 1) | (go_at_call 70; refine (slices_Clone_string_string.calls A c tk tk _ (HCt.out _ (Kd.C_below HC.out HB1.out)) HLT.out HCL.out).mono ?_; rintro e w2 ⟨v2, rfl, ho2, hb2⟩; have HBK2 := Aside0.mk (blk_below HBK1.out hb2); have HB2 := Aside0.mk (below_weaken HB1.out HB1.out.size hb2); have HO2 := Aside0.mk ho2; have HK2 := Aside0.mk (KeepBut.of_below (below_step hb1 hb2) g none); have HS1 := Aside0.mk hb1.size; have h20 := blk_cell HBK2.out 0; have h21 := blk_cell HBK2.out 1; have f20 := blk_frozen HBK2.out 0; have f21 := blk_frozen HBK2.out 1; clear ho2 hb2))
          go_ret
          exact ⟨v2, rfl, reader_names.done HBK2.out HO2.out HB2.out HK2.out HS1.out HLD.out (by omega) HC'.out hg⟩
        · have e3 : decide ((8 : Int) < (ws.length : Int)) = false := decide_eq_false h3
          have e4 : decide (8 < ws.length) = false := decide_eq_false (by omega)
          rw [e3] at hb2
          subst hb2
          clear h3
          go_enter Tryd.func37, Tryd.ntmps37
          go_wp2_with (first | (go_at_call 68; refine (words_index.calls _ _ _ _ (Kd.C_below HC.out HB.out)).mono ?_; rw [HIX.out]; rintro e w1 ⟨rfl, hb1⟩; have HBK1 := Aside0.mk (blk_below HBK.out hb1); have HB1 := Aside0.mk (below_weaken HB.out HB.out.size hb1); have h10 := blk_cell HBK1.out 0; have h11 := blk_cell HBK1.out 1) | (go_at_call 70; refine (slices_Clone_string_string.calls A c tk tk _ (HCt.out _ (Kd.C_below HC.out HB1.out)) HLT.out HCL.out).mono ?_; rintro e w2 ⟨v2, rfl, ho2, hb2⟩; have HBK2 := Aside0.mk (blk_below HBK1.out hb2); have HB2 := Aside0.mk (below_weaken HB1.out HB1.out.size hb2); have HO2 := Aside0.mk ho2; have HK2 := Aside0.mk (KeepBut.of_below (below_step hb1 hb2) g none); have HS1 := Aside0.mk hb1.size; have h20 := blk_cell HBK2.out 0; have h21 := blk_cell HBK2.out 1; have f20 := blk_frozen HBK2.out 0; have f21 := blk_frozen HBK2.out 1; clear ho2 hb2))
          go_ret
          exact ⟨v2, rfl, reader_names.done HBK2.out HO2.out HB2.out HK2.out HS1.out HLD.out (by omega) HC'.out hg⟩
  · have d1 : decide ((L : Int) < 0) = false := by simp
    cases bad with
    | true =>
      simp only [Bool.true_or] at hb2
      subst hb2
      go_enter Tryd.func37, Tryd.ntmps37
      go_wp2_with (first | (go_at_call 68; refine (words_index.calls _ _ _ _ (Kd.C_below HC.out HB.out)).mono ?_; rw [HIX.out]; rintro e w1 ⟨rfl, hb1⟩; have HBK1 := Aside0.mk (blk_below HBK.out hb1); have HB1 := Aside0.mk (below_weaken HB.out HB.out.size hb1); have h10 := blk_cell HBK1.out 0; have h11 := blk_cell HBK1.out 1) | (go_at_call 70; refine (slices_Clone_string_string.calls A c tk tk _ (HCt.out _ (Kd.C_below HC.out HB1.out)) HLT.out HCL.out).mono ?_; rintro e w2 ⟨v2, rfl, ho2, hb2⟩; have HBK2 := Aside0.mk (blk_below HBK1.out hb2); have HB2 := Aside0.mk (below_weaken HB1.out HB1.out.size hb2); have HO2 := Aside0.mk ho2; have HK2 := Aside0.mk (KeepBut.of_below (below_step hb1 hb2) g none); have HS1 := Aside0.mk hb1.size; have h20 := blk_cell HBK2.out 0; have h21 := blk_cell HBK2.out 1; have f20 := blk_frozen HBK2.out 0; have f21 := blk_frozen HBK2.out 1; clear ho2 hb2))
      go_ret
      exact ⟨v2, rfl, reader_names.done HBK2.out HO2.out HB2.out HK2.out HS1.out HLD.out (by omega) HC'.out hg⟩
    | false =>
      simp only [Bool.false_or] at hb2
      by_cases h2 : (L : Int) < least
      · have e2 : decide ((L : Int) < least) = true := decide_eq_true h2
        rw [e2, Bool.true_or] at hb2
        subst hb2
        clear h2
        go_enter Tryd.func37, Tryd.ntmps37
        go_wp2_with (first | (go_at_call 68; refine (words_index.calls _ _ _ _ (Kd.C_below HC.out HB.out)).mono ?_; rw [HIX.out]; rintro e w1 ⟨rfl, hb1⟩; have HBK1 := Aside0.mk (blk_below HBK.out hb1); have HB1 := Aside0.mk (below_weaken HB.out HB.out.size hb1); have h10 := blk_cell HBK1.out 0; have h11 := blk_cell HBK1.out 1) | (go_at_call 70; refine (slices_Clone_string_string.calls A c tk tk _ (HCt.out _ (Kd.C_below HC.out HB1.out)) HLT.out HCL.out).mono ?_; rintro e w2 ⟨v2, rfl, ho2, hb2⟩; have HBK2 := Aside0.mk (blk_below HBK1.out hb2); have HB2 := Aside0.mk (below_weaken HB1.out HB1.out.size hb2); have HO2 := Aside0.mk ho2; have HK2 := Aside0.mk (KeepBut.of_below (below_step hb1 hb2) g none); have HS1 := Aside0.mk hb1.size; have h20 := blk_cell HBK2.out 0; have h21 := blk_cell HBK2.out 1; have f20 := blk_frozen HBK2.out 0; have f21 := blk_frozen HBK2.out 1; clear ho2 hb2))
        go_ret
        exact ⟨v2, rfl, reader_names.done HBK2.out HO2.out HB2.out HK2.out HS1.out HLD.out (by omega) HC'.out hg⟩
      · have e2 : decide ((L : Int) < least) = false := decide_eq_false h2
        rw [e2, Bool.false_or] at hb2
        clear h2
        by_cases h3 : (8 : Int) < (L : Int)
        · have e3 : decide ((8 : Int) < (L : Int)) = true := decide_eq_true h3
          have e4 : decide (8 < L) = true := decide_eq_true (by omega)
          rw [e3] at hb2
          subst hb2
          clear h3
          go_enter Tryd.func37, Tryd.ntmps37
          go_wp2_with (first | (go_at_call 68; refine (words_index.calls _ _ _ _ (Kd.C_below HC.out HB.out)).mono ?_; rw [HIX.out]; rintro e w1 ⟨rfl, hb1⟩; have HBK1 := Aside0.mk (blk_below HBK.out hb1); have HB1 := Aside0.mk (below_weaken HB.out HB.out.size hb1); have h10 := blk_cell HBK1.out 0; have h11 := blk_cell HBK1.out 1) | (go_at_call 70; refine (slices_Clone_string_string.calls A c tk tk _ (HCt.out _ (Kd.C_below HC.out HB1.out)) HLT.out HCL.out).mono ?_; rintro e w2 ⟨v2, rfl, ho2, hb2⟩; have HBK2 := Aside0.mk (blk_below HBK1.out hb2); have HB2 := Aside0.mk (below_weaken HB1.out HB1.out.size hb2); have HO2 := Aside0.mk ho2; have HK2 := Aside0.mk (KeepBut.of_below (below_step hb1 hb2) g none); have HS1 := Aside0.mk hb1.size; have h20 := blk_cell HBK2.out 0; have h21 := blk_cell HBK2.out 1; have f20 := blk_frozen HBK2.out 0; have f21 := blk_frozen HBK2.out 1; clear ho2 hb2))
          go_ret
          exact ⟨v2, rfl, reader_names.done HBK2.out HO2.out HB2.out HK2.out HS1.out HLD.out (by omega) HC'.out hg⟩
        · have e3 : decide ((8 : Int) < (L : Int)) = false := decide_eq_false h3
          have e4 : decide (8 < L) = false := decide_eq_false (by omega)
          rw [e3] at hb2
          subst hb2
          clear h3
          go_enter Tryd.func37, Tryd.ntmps37
          go_wp2_with (first | (go_at_call 68; refine (words_index.calls _ _ _ _ (Kd.C_below HC.out HB.out)).mono ?_; rw [HIX.out]; rintro e w1 ⟨rfl, hb1⟩; have HBK1 := Aside0.mk (blk_below HBK.out hb1); have HB1 := Aside0.mk (below_weaken HB.out HB.out.size hb1); have h10 := blk_cell HBK1.out 0; have h11 := blk_cell HBK1.out 1) | (go_at_call 70; refine (slices_Clone_string_string.calls A c tk tk _ (HCt.out _ (Kd.C_below HC.out HB1.out)) HLT.out HCL.out).mono ?_; rintro e w2 ⟨v2, rfl, ho2, hb2⟩; have HBK2 := Aside0.mk (blk_below HBK1.out hb2); have HB2 := Aside0.mk (below_weaken HB1.out HB1.out.size hb2); have HO2 := Aside0.mk ho2; have HK2 := Aside0.mk (KeepBut.of_below (below_step hb1 hb2) g none); have HS1 := Aside0.mk hb1.size; have h20 := blk_cell HBK2.out 0; have h21 := blk_cell HBK2.out 1; have f20 := blk_frozen HBK2.out 0; have f21 := blk_frozen HBK2.out 1; clear ho2 hb2))
          go_ret
          exact ⟨v2, rfl, reader_names.done HBK2.out HO2.out HB2.out HK2.out HS1.out HLD.out (by omega) HC'.out hg⟩
theorem reader_names.calls (w0 w : World) (g : Nat) (ws : List ByteArray) (bad : Bool) (least : Int) (hI : Rdr w0 w g ws bad) (hB : Below w0.heap.size w0 w) (hbig : ws.length * 16 ≤ 140737488355328) :
    Calls Tryd.prog 37 #[.pointer (some ⟨g, 0, none⟩), .int .i64 least] w fun e w' => ∃ v : Value, e = .returned v ∧ Kd.R Kd.string 9 w' w.heap.size (fun _ => True) v (Cru.takeN ws) ∧ Rdr w0 w' g (Cru.restN ws) (Cru.badN least ws bad) ∧ Below w0.heap.size w0 w' ∧ KeepBut w w' g none :=
  reader_names.walk w0 w g ws bad least hI hB hbig _ (Cru.idxOdd_cases ws) rfl _ rfl


end Go.Proofs.YtnlipeiamnknbaaDoor.A
end

section
namespace Go.Proofs.YtnlipeiamnknbaaDoor.A
open Go.RowKit Go.Proofs.YtnlipeiamnknbaaDoorW.PrintWords Go.Proofs.YtnlipeiamnknbaaDoorW.PrintLast Go.Proofs.YtnlipeiamnknbaaDoorW.PrintMore
attribute [local go_sem] max2_int min2_int max_two min_two max_three min_three max_four min_four   -- for this text's walks alone
set_option linter.unusedVariables false
set_option linter.unusedSimpArgs false

/-! ### words_reader_part: function 40 -/
theorem reader_part.calls (w0 w : World) (g : Nat) (ws : List ByteArray) (bad : Bool) (s : ByteArray) (hI : Rdr w0 w g ws bad) (hB : Below w0.heap.size w0 w) (hbig : ws.length * 16 ≤ 140737488355328) :
    Calls Tryd.prog 40 #[.pointer (some ⟨g, 0, none⟩), .string s] w fun e w' => ∃ v : Value, e = .returned v ∧ Kd.R Kd.string 9 w' w.heap.size (fun _ => True) v (Cru.partOut s ws) ∧ Rdr w0 w' g (Cru.partRest s ws) (Cru.partBad s ws bad) ∧ Below w0.heap.size w0 w' ∧ KeepBut w w' g none := by
  have HI := Aside0.mk hI
  have HB := Aside0.mk hB
  have HS := Aside0.mk (reader_sign.calls w0 w g ws bad s hI hB)
  unfold Cru.partOut Cru.partRest Cru.partBad
  obtain ⟨b, hb⟩ : ∃ b, Cru.isSign s ws = b := ⟨_, rfl⟩
  rw [hb] at HS ⊢
  clear hI hB hb
  cases b with
  | false =>
    simp only [Bool.false_eq_true, if_false] at HS ⊢
    go_enter Tryd.func40, Tryd.ntmps40
    go_wp2_with (go_at_call 38; refine HS.out.mono ?_; rintro e w1 ⟨rfl, hi1, hb1, hk1⟩)
    go_ret
    exact ⟨_, rfl, Kd.R_nil _ _ _ _ _, hi1, hb1, hk1⟩
  | true =>
    simp only [if_true] at HS ⊢
    have ht : ws.tail.length * 16 ≤ 140737488355328 := by rw [List.length_tail]; omega
    go_enter Tryd.func40, Tryd.ntmps40
    go_wp2_with (first | (go_at_call 38; refine HS.out.mono ?_; rintro e w1 ⟨rfl, hi1, hb1, hk1⟩; have HI1 := Aside0.mk hi1; have HB1 := Aside0.mk hb1; have HK1 := Aside0.mk hk1; clear hi1 hb1 hk1) | (go_at_call 37; refine (reader_names.calls w0 w1 g ws.tail bad 1 HI1.out HB1.out ht).mono ?_; rintro e w2 ⟨v2, rfl, ho2, hi2, hb2, hk2⟩))
    go_ret
    exact ⟨_, rfl, Kd.R_lower ho2 (keep_size HK1.out), hi2, hb2, KeepBut.trans HK1.out hk2 (.inl rfl)⟩


end Go.Proofs.YtnlipeiamnknbaaDoor.A
end

section
namespace Go.Proofs.YtnlipeiamnknbaaDoor.A
open Go.RowKit Go.Proofs.YtnlipeiamnknbaaDoorW.PrintWords Go.Proofs.YtnlipeiamnknbaaDoorW.PrintLast Go.Proofs.YtnlipeiamnknbaaDoorW.PrintMore
attribute [local go_sem] max2_int min2_int max_two min_two max_three min_three max_four min_four   -- for this text's walks alone
set_option linter.unusedVariables false
set_option linter.unusedSimpArgs false

/-! ### words_Build: function 7 -/
/-- A row of the call's own that lies from lo on, below hi, not at g. -/
def Rw (W : World) (lo hi g : Nat) (v : Value) (xs : List ByteArray) : Prop := Kd.R Kd.string 9 W lo (fun k => k ≠ g ∧ lo ≤ k ∧ k < hi) v xs
theorem Rw.mk_ {w0 w w' : World} {g : Nat} {ws : List ByteArray} {bad : Bool} {v : Value} {xs : List ByteArray} (h : Kd.R Kd.string 9 w' w.heap.size (fun _ => True) v xs) (hI : Rdr w0 w' g ws bad) : Rw w' w.heap.size w'.heap.size g v xs := by
  obtain ⟨A, c, hb, _⟩ := hI
  have h1 := Kd.R_bound (Kd.R_types h hb (by decide))
  exact Kd.R_mono h1 (fun k hk => ⟨hk.1.2, hk.2.1, hk.2.2.1⟩)
theorem Rw.keep {W W' : World} {lo hi g : Nat} {v : Value} {xs : List ByteArray} (h : Rw W lo hi g v xs) (hk : KeepBut W W' g none) : Rw W' lo hi g v xs := Kd.R_keep h hk (fun _ hk => hk.1)
theorem Rw.set_ {W : World} {lo hi g : Nat} {v : Value} {xs : List ByteArray} (h : Rw W lo hi g v xs) (j : Nat) (u : Value) : Rw (W.setCell ⟨g, j, none⟩ u) lo hi g v xs := Kd.R_far (p := ⟨g, j, none⟩) h (fun _ hk => hk.1) u
theorem Rw.to {W : World} {lo hi g base : Nat} {v : Value} {xs : List ByteArray} {ok : Nat → Prop} (h : Rw W lo hi g v xs) (hb : base ≤ lo) (hok : ∀ k, v.ownBlock = some k → lo ≤ k → k < hi → ok k) : Kd.R Kd.string 9 W base ok v xs := by
  have ho := Kd.own_of_R h
  exact Kd.R_lower (Kd.R_of_own ho (fun k hk => hok k hk (h.1 k hk).2.1 (h.1 k hk).2.2)) hb
theorem Rdr.bad_ {w0 W : World} {g : Nat} {ws : List ByteArray} {bad : Bool} (h : Rdr w0 W g ws bad) (b : Bool) : Rdr w0 (W.setCell ⟨g, 1, none⟩ (.bool b)) g ws b := by
  obtain ⟨A, c, hb, hg, hc, hm, hC⟩ := h
  refine ⟨A, c, ?_, hg, hc, hm, hC⟩
  have := blk_set hb 1 (.bool b)
  simpa using this
theorem Rdr.word {w0 W : World} {g : Nat} {x : ByteArray} {t : List ByteArray} {bad : Bool} (h : Rdr w0 W g (x :: t) bad) (hB : Below w0.heap.size w0 W) : ∃ ad c, W.heap[g]? = some (.cells #[.slice (some ad) (x :: t).length c, .bool bad] 68 (0, 0)) ∧ W.cell? ad = some (.string x) ∧ w0.heap.size ≤ ad.block + w0.heap.size ∧ ad.block < w0.heap.size ∧ (x :: t).length ≤ c := by
  obtain ⟨A, c, hb, hg, hc, hm, hC⟩ := h
  obtain ⟨ad, e1, hx⟩ := Kd.at_string hC (0 : Int) (by omega) (by simp)
  cases e1
  have hx' : w0.cell? ad = some (Value.string x) := hx
  exact ⟨ad, c, hb, pw_cell_below hB hx', by omega, World.block_lt_of_cell? _ _ hx', hc⟩
theorem Rdr.mk_ {w w1 : World} {v : Value} {ws : List ByteArray} (h : Kd.R Kd.string 9 w1 w.heap.size (fun _ => True) v ws) : ∃ A c, v = .slice A ws.length c ∧ Rdr w1 (w1.alloc (.cells #[.slice A ws.length c, .bool false] 68)) w1.heap.size ws false := by
  obtain ⟨A, c, rfl, hc, hC⟩ := Kd.R_reads h
  refine ⟨A, c, rfl, A, c, heap_alloc_new w1 _, Nat.le_refl _, hc, ?_, hC⟩
  rcases (Kd.own_of_R h).2 with ⟨e, _⟩ | ⟨g, cap, cur, e, _, _, _, hcap, _⟩
  · injection e with _ _ e3; omega
  · injection e with _ _ e3; subst e3; exact hcap
theorem Rdr.word2 {w0 W : World} {g : Nat} {x : ByteArray} {t : List ByteArray} {bad : Bool} (h : Rdr w0 W g (x :: t) bad) (hB : Below w0.heap.size w0 W) : ∃ ad c, W.heap[g]? = some (.cells #[.slice (some ad) (x :: t).length c, .bool bad] 68 (0, 0)) ∧ W.cell? ad = some (.string x) ∧ ad.block ≠ g ∧ (x :: t).length ≤ c ∧ c ≤ 9223372036854775807 ∧
    (c = 1 → ∀ (W' : World) (b : Bool), W'.heap[g]? = some (.cells #[.slice (some ad) (x :: t).length c, .bool b] 68 (0, 0)) → Rdr w0 (W'.setCell ⟨g, 0, none⟩ (.slice (some ad) t.length 0)) g t b) ∧
    (c ≠ 1 → ∀ (W' : World) (b : Bool), W'.heap[g]? = some (.cells #[.slice (some ad) (x :: t).length c, .bool b] 68 (0, 0)) → Rdr w0 (W'.setCell ⟨g, 0, none⟩ (.slice (some ⟨ad.block, ad.off + 1, none⟩) t.length (c - 1))) g t b) := by
  obtain ⟨A, c, hb, hg, hc, hm, hC⟩ := h
  obtain ⟨ad, e1, hx⟩ := Kd.at_string hC (0 : Int) (by omega) (by simp)
  cases e1
  have hx' : w0.cell? ad = some (Value.string x) := hx
  have hd := Kd.C_drop (k := Kd.string) (c := c) (m := 1) hC (by simp) hc
  refine ⟨ad, c, hb, pw_cell_below hB hx', by have := World.block_lt_of_cell? _ _ hx'; omega, hc, hm, fun h1 W' b hb' => ?_, fun h1 W' b hb' => ?_⟩
  · subst h1
    refine ⟨some ad, 0, ?_, hg, by simp at hc ⊢; omega, by omega, by simpa using hd⟩
    have := blk_set hb' 0 (.slice (some ad) t.length 0)
    simpa using this
  · refine ⟨some ⟨ad.block, ad.off + 1, none⟩, c - 1, ?_, hg, by simp at hc ⊢; omega, by omega, by rw [if_neg h1] at hd; exact hd⟩
    have := blk_set hb' 0 (.slice (some ⟨ad.block, ad.off + 1, none⟩) t.length (c - 1))
    simpa using this
theorem Rw.lo_ {W : World} {lo hi g : Nat} {v : Value} {xs : List ByteArray} (h : Rw W lo hi g v xs) {k : Nat} (hk : k < lo) : some k ≠ v.ownBlock := fun e => by have := (h.1 k e.symm).2.1; omega
theorem Rw.hi_ {W : World} {lo hi g : Nat} {v : Value} {xs : List ByteArray} (h : Rw W lo hi g v xs) {k : Nat} (hk : hi ≤ k) : some k ≠ v.ownBlock := fun e => by have := (h.1 k e.symm).2.2; omega
theorem words_Build.rows {W : World} {base l0 u0 l1 u1 l2 u2 l3 u3 g : Nat} {v0_ v2_ v3_ v4_ : Value} {x0 x1 x2 x3 : List ByteArray} (h0 : Rw W l0 u0 g v0_ x0) (h1 : Rw W l1 u1 g v2_ x1) (h2 : Rw W l2 u2 g v3_ x2) (h3 : Rw W l3 u3 g v4_ x3) (hb : base ≤ l0) (a0 : l0 ≤ u0) (a1 : u0 ≤ l1) (a2 : l1 ≤ u1) (a3 : u1 ≤ l2) (a4 : l2 ≤ u2) (a5 : u2 ≤ l3) :
    Kd.R Kd.string 9 W base (fun k_ => some k_ ≠ (v2_ : Value).ownBlock ∧ some k_ ≠ (v3_ : Value).ownBlock ∧ some k_ ≠ (v4_ : Value).ownBlock) v0_ x0 ∧ Kd.R Kd.string 9 W base (fun k_ => some k_ ≠ (v0_ : Value).ownBlock ∧ some k_ ≠ (v3_ : Value).ownBlock ∧ some k_ ≠ (v4_ : Value).ownBlock) v2_ x1 ∧ Kd.R Kd.string 9 W base (fun k_ => some k_ ≠ (v0_ : Value).ownBlock ∧ some k_ ≠ (v2_ : Value).ownBlock ∧ some k_ ≠ (v4_ : Value).ownBlock) v3_ x2 ∧ Kd.R Kd.string 9 W base (fun k_ => some k_ ≠ (v0_ : Value).ownBlock ∧ some k_ ≠ (v2_ : Value).ownBlock ∧ some k_ ≠ (v3_ : Value).ownBlock) v4_ x3 := by
  refine ⟨h0.to hb (fun k _ p q => ⟨h1.lo_ (by omega), h2.lo_ (by omega), h3.lo_ (by omega)⟩), h1.to (by omega) (fun k _ p q => ⟨h0.hi_ (by omega), h2.lo_ (by omega), h3.lo_ (by omega)⟩), h2.to (by omega) (fun k _ p q => ⟨h0.hi_ (by omega), h1.hi_ (by omega), h3.lo_ (by omega)⟩), h3.to (by omega) (fun k _ p q => ⟨h0.hi_ (by omega), h1.hi_ (by omega), h2.hi_ (by omega)⟩)⟩
def words_Build.out (ws : List ByteArray) : List ByteArray × ByteArray × List ByteArray × List ByteArray × List ByteArray × Int :=
  match Cru.built ws with
  | none => ([], ⟨#[]⟩, [], [], [], 700)
  | some (o, r, i, m, d) => (o, r, i, m, d, 0)
def words_Build.f (a0 : ByteArray) : Option (List ByteArray × ByteArray × List ByteArray × List ByteArray × List ByteArray × Int) := if a0.size < 4294967281 then some (words_Build.out (Cru.wordsOf a0)) else none
set_option maxHeartbeats 8000000 in
set_option maxRecDepth 100000 in
theorem words_Build.way1 (a0 : ByteArray) (ws w1s : List ByteArray) (b1 : Bool) (w : World) (r1 : List ByteArray) (r2 : ByteArray) (r3 r4 r5 : List ByteArray) (r6 : Int)
    (HOF : Aside0 (∀ w : World, Calls Tryd.prog 36 #[.string a0] w fun e w' => ∃ v0_ : Value, e = .returned v0_ ∧ Kd.R Kd.string 9 w' w.heap.size (fun _ => True) v0_ ws ∧ Below w.heap.size w w'))
    (HBIG : Aside0 (ws.length * 16 ≤ 140737488355328)) (HW1 : Aside0 (Cru.restN ws = w1s)) (HN1 : Aside0 (Cru.badN 1 ws false = b1)) (HSG : Aside0 (Cru.isSign Cru.colon w1s = false)) (hr : (r1, r2, r3, r4, r5, r6) = ([], ⟨#[]⟩, [], [], [], (700 : Int))) :
    Calls Tryd.prog 7 #[.string a0] w fun e w' => ∃ v0_ v2_ v3_ v4_ : Value, e = .returned (.tuple #[v0_, .string r2, v2_, v3_, v4_, .int .i64 r6]) ∧ Kd.R Kd.string 9 w' w.heap.size (fun k_ => some k_ ≠ (v2_ : Value).ownBlock ∧ some k_ ≠ (v3_ : Value).ownBlock ∧ some k_ ≠ (v4_ : Value).ownBlock) v0_ r1 ∧ Kd.R Kd.string 9 w' w.heap.size (fun k_ => some k_ ≠ (v0_ : Value).ownBlock ∧ some k_ ≠ (v3_ : Value).ownBlock ∧ some k_ ≠ (v4_ : Value).ownBlock) v2_ r3 ∧ Kd.R Kd.string 9 w' w.heap.size (fun k_ => some k_ ≠ (v0_ : Value).ownBlock ∧ some k_ ≠ (v2_ : Value).ownBlock ∧ some k_ ≠ (v4_ : Value).ownBlock) v3_ r4 ∧ Kd.R Kd.string 9 w' w.heap.size (fun k_ => some k_ ≠ (v0_ : Value).ownBlock ∧ some k_ ≠ (v2_ : Value).ownBlock ∧ some k_ ≠ (v3_ : Value).ownBlock) v4_ r5 ∧ Below w.heap.size w w' := by
  simp only [Prod.mk.injEq] at hr
  obtain ⟨rfl, rfl, rfl, rfl, rfl, rfl⟩ := hr
  go_enter Tryd.func7, Tryd.ntmps7
  go_wp2_with (go_at_call 36; refine (HOF.out w).mono ?_; rintro e w1 ⟨v, rfl, ho, hb⟩; obtain ⟨A, c, rfl, hi⟩ := Rdr.mk_ ho; have HI := Aside0.mk hi; have HB := Aside0.mk hb; clear ho hi hb)
  refine (reader_names.calls w1 _ _ ws false 1 HI.out ((Below.refl _ _).alloc (Nat.le_refl _) _) HBIG.out).mono ?_
  rintro e w3 ⟨vo, rfl, ho, hi, hb, hk⟩
  rw [HW1.out, HN1.out] at hi
  have HO := Aside0.mk (Rw.mk_ ho hi)
  have HI3 := Aside0.mk hi
  have HB3 := Aside0.mk hb
  clear ho hi hb hk
  go_wp2_with (fail)
  refine (reader_sign.calls w1 w3 _ w1s b1 Cru.colon HI3.out HB3.out).mono ?_
  rw [HSG.out]
  rintro e w4 ⟨rfl, hi, hb, hk⟩
  simp only [Bool.false_eq_true, if_false] at hi
  have HI4 := Aside0.mk hi
  have HB4 := Aside0.mk hb
  have HO4 := Aside0.mk (Rw.keep HO.out hk)
  clear hi hb hk HO HI3 HB3
  obtain ⟨A4, c4, hbk, _, hc4, _, _⟩ := HI4.out
  have HBK := Aside0.mk hbk
  have q0 := blk_cell hbk 0
  have q1 := blk_cell hbk 1
  have f0 := blk_frozen hbk 0
  have f1 := blk_frozen hbk 1
  clear hbk hc4
  go_wp2
  refine bodyPost_ret (results_list (rs := [.tmp 2, .tmp 3, .tmp 4, .tmp 5, .tmp 6, .tmp 7]) rfl (by simp) (.tmp (.tmp (.tmp (.tmp (.tmp (.tmp .nil))))))) rfl ?_
  exact ⟨_, _, _, _, rfl, Kd.R_nil _ _ _ _ _, Kd.R_nil _ _ _ _ _, Kd.R_nil _ _ _ _ _, Kd.R_nil _ _ _ _ _, below_set (below_step HB.out HB4.out) HB.out.size⟩
set_option maxHeartbeats 8000000 in
set_option maxRecDepth 100000 in
theorem words_Build.way2 (a0 : ByteArray) (ws w1s : List ByteArray) (w : World) (r1 : List ByteArray) (r2 : ByteArray) (r3 r4 r5 : List ByteArray) (r6 : Int)
    (HOF : Aside0 (∀ w : World, Calls Tryd.prog 36 #[.string a0] w fun e w' => ∃ v0_ : Value, e = .returned v0_ ∧ Kd.R Kd.string 9 w' w.heap.size (fun _ => True) v0_ ws ∧ Below w.heap.size w w'))
    (HBIG : Aside0 (ws.length * 16 ≤ 140737488355328)) (HW1 : Aside0 (Cru.restN ws = w1s)) (HN1 : Aside0 (Cru.badN 1 ws false = true)) (HSG : Aside0 (Cru.isSign Cru.colon w1s = true)) (hr : (r1, r2, r3, r4, r5, r6) = ([], ⟨#[]⟩, [], [], [], (700 : Int))) :
    Calls Tryd.prog 7 #[.string a0] w fun e w' => ∃ v0_ v2_ v3_ v4_ : Value, e = .returned (.tuple #[v0_, .string r2, v2_, v3_, v4_, .int .i64 r6]) ∧ Kd.R Kd.string 9 w' w.heap.size (fun k_ => some k_ ≠ (v2_ : Value).ownBlock ∧ some k_ ≠ (v3_ : Value).ownBlock ∧ some k_ ≠ (v4_ : Value).ownBlock) v0_ r1 ∧ Kd.R Kd.string 9 w' w.heap.size (fun k_ => some k_ ≠ (v0_ : Value).ownBlock ∧ some k_ ≠ (v3_ : Value).ownBlock ∧ some k_ ≠ (v4_ : Value).ownBlock) v2_ r3 ∧ Kd.R Kd.string 9 w' w.heap.size (fun k_ => some k_ ≠ (v0_ : Value).ownBlock ∧ some k_ ≠ (v2_ : Value).ownBlock ∧ some k_ ≠ (v4_ : Value).ownBlock) v3_ r4 ∧ Kd.R Kd.string 9 w' w.heap.size (fun k_ => some k_ ≠ (v0_ : Value).ownBlock ∧ some k_ ≠ (v2_ : Value).ownBlock ∧ some k_ ≠ (v3_ : Value).ownBlock) v4_ r5 ∧ Below w.heap.size w w' := by
  simp only [Prod.mk.injEq] at hr
  obtain ⟨rfl, rfl, rfl, rfl, rfl, rfl⟩ := hr
  go_enter Tryd.func7, Tryd.ntmps7
  go_wp2_with (go_at_call 36; refine (HOF.out w).mono ?_; rintro e w1 ⟨v, rfl, ho, hb⟩; obtain ⟨A, c, rfl, hi⟩ := Rdr.mk_ ho; have HI := Aside0.mk hi; have HB := Aside0.mk hb; clear ho hi hb)
  refine (reader_names.calls w1 _ _ ws false 1 HI.out ((Below.refl _ _).alloc (Nat.le_refl _) _) HBIG.out).mono ?_
  rintro e w3 ⟨vo, rfl, ho, hi, hb, hk⟩
  rw [HW1.out, HN1.out] at hi
  have HO := Aside0.mk (Rw.mk_ ho hi)
  have HI3 := Aside0.mk hi
  have HB3 := Aside0.mk hb
  clear ho hi hb hk
  go_wp2_with (fail)
  refine (reader_sign.calls w1 w3 _ w1s true Cru.colon HI3.out HB3.out).mono ?_
  rw [HSG.out]
  rintro e w4 ⟨rfl, hi, hb, hk⟩
  simp only [if_true] at hi
  have HI4 := Aside0.mk hi
  have HB4 := Aside0.mk hb
  have HO4 := Aside0.mk (Rw.keep HO.out hk)
  clear hi hb hk HO HI3 HB3
  obtain ⟨A4, c4, hbk, _, hc4, _, _⟩ := HI4.out
  have HBK := Aside0.mk hbk
  have q0 := blk_cell hbk 0
  have q1 := blk_cell hbk 1
  have f0 := blk_frozen hbk 0
  have f1 := blk_frozen hbk 1
  clear hbk hc4
  go_wp2
  refine bodyPost_ret (results_list (rs := [.tmp 2, .tmp 3, .tmp 4, .tmp 5, .tmp 6, .tmp 7]) rfl (by simp) (.tmp (.tmp (.tmp (.tmp (.tmp (.tmp .nil))))))) rfl ?_
  exact ⟨_, _, _, _, rfl, Kd.R_nil _ _ _ _ _, Kd.R_nil _ _ _ _ _, Kd.R_nil _ _ _ _ _, Kd.R_nil _ _ _ _ _, below_set (below_step HB.out HB4.out) HB.out.size⟩
set_option maxHeartbeats 8000000 in
set_option maxRecDepth 100000 in
theorem words_Build.way3 (a0 : ByteArray) (ws w1s : List ByteArray) (w : World) (r1 : List ByteArray) (r2 : ByteArray) (r3 r4 r5 : List ByteArray) (r6 : Int)
    (HOF : Aside0 (∀ w : World, Calls Tryd.prog 36 #[.string a0] w fun e w' => ∃ v0_ : Value, e = .returned v0_ ∧ Kd.R Kd.string 9 w' w.heap.size (fun _ => True) v0_ ws ∧ Below w.heap.size w w'))
    (HBIG : Aside0 (ws.length * 16 ≤ 140737488355328)) (HW1 : Aside0 (Cru.restN ws = w1s)) (HN1 : Aside0 (Cru.badN 1 ws false = false)) (HSG : Aside0 (Cru.isSign Cru.colon w1s = true)) (HT : w1s.tail = []) (hr : (r1, r2, r3, r4, r5, r6) = ([], ⟨#[]⟩, [], [], [], (700 : Int))) :
    Calls Tryd.prog 7 #[.string a0] w fun e w' => ∃ v0_ v2_ v3_ v4_ : Value, e = .returned (.tuple #[v0_, .string r2, v2_, v3_, v4_, .int .i64 r6]) ∧ Kd.R Kd.string 9 w' w.heap.size (fun k_ => some k_ ≠ (v2_ : Value).ownBlock ∧ some k_ ≠ (v3_ : Value).ownBlock ∧ some k_ ≠ (v4_ : Value).ownBlock) v0_ r1 ∧ Kd.R Kd.string 9 w' w.heap.size (fun k_ => some k_ ≠ (v0_ : Value).ownBlock ∧ some k_ ≠ (v3_ : Value).ownBlock ∧ some k_ ≠ (v4_ : Value).ownBlock) v2_ r3 ∧ Kd.R Kd.string 9 w' w.heap.size (fun k_ => some k_ ≠ (v0_ : Value).ownBlock ∧ some k_ ≠ (v2_ : Value).ownBlock ∧ some k_ ≠ (v4_ : Value).ownBlock) v3_ r4 ∧ Kd.R Kd.string 9 w' w.heap.size (fun k_ => some k_ ≠ (v0_ : Value).ownBlock ∧ some k_ ≠ (v2_ : Value).ownBlock ∧ some k_ ≠ (v3_ : Value).ownBlock) v4_ r5 ∧ Below w.heap.size w w' := by
  simp only [Prod.mk.injEq] at hr
  obtain ⟨rfl, rfl, rfl, rfl, rfl, rfl⟩ := hr
  go_enter Tryd.func7, Tryd.ntmps7
  go_wp2_with (go_at_call 36; refine (HOF.out w).mono ?_; rintro e w1 ⟨v, rfl, ho, hb⟩; obtain ⟨A, c, rfl, hi⟩ := Rdr.mk_ ho; have HI := Aside0.mk hi; have HB := Aside0.mk hb; clear ho hi hb)
  refine (reader_names.calls w1 _ _ ws false 1 HI.out ((Below.refl _ _).alloc (Nat.le_refl _) _) HBIG.out).mono ?_
  rintro e w3 ⟨vo, rfl, ho, hi, hb, hk⟩
  rw [HW1.out, HN1.out] at hi
  have HO := Aside0.mk (Rw.mk_ ho hi)
  have HI3 := Aside0.mk hi
  have HB3 := Aside0.mk hb
  clear ho hi hb hk
  go_wp2_with (fail)
  refine (reader_sign.calls w1 w3 _ w1s false Cru.colon HI3.out HB3.out).mono ?_
  rw [HSG.out]
  rintro e w4 ⟨rfl, hi, hb, hk⟩
  simp only [if_true, HT] at hi
  have HI4 := Aside0.mk hi
  have HB4 := Aside0.mk hb
  have HO4 := Aside0.mk (Rw.keep HO.out hk)
  clear hi hb hk HO HI3 HB3
  have d1 : decide ((([] : List ByteArray).length : Int) = 0) = true := rfl
  obtain ⟨A4, c4, hbk, _, hc4, _, _⟩ := HI4.out
  have HBK := Aside0.mk hbk
  have q0 := blk_cell hbk 0
  have q1 := blk_cell hbk 1
  have f0 := blk_frozen hbk 0
  have f1 := blk_frozen hbk 1
  clear hbk hc4
  go_wp2
  refine bodyPost_ret (results_list (rs := [.tmp 2, .tmp 3, .tmp 4, .tmp 5, .tmp 6, .tmp 7]) rfl (by simp) (.tmp (.tmp (.tmp (.tmp (.tmp (.tmp .nil))))))) rfl ?_
  exact ⟨_, _, _, _, rfl, Kd.R_nil _ _ _ _ _, Kd.R_nil _ _ _ _ _, Kd.R_nil _ _ _ _ _, Kd.R_nil _ _ _ _ _, below_set (below_step HB.out HB4.out) HB.out.size⟩
set_option maxHeartbeats 8000000 in
set_option maxRecDepth 100000 in
theorem words_Build.way4 (a0 : ByteArray) (ws w1s : List ByteArray) (rule : ByteArray) (tl : List ByteArray) (w : World) (r1 : List ByteArray) (r2 : ByteArray) (r3 r4 r5 : List ByteArray) (r6 : Int)
    (HOF : Aside0 (∀ w : World, Calls Tryd.prog 36 #[.string a0] w fun e w' => ∃ v0_ : Value, e = .returned v0_ ∧ Kd.R Kd.string 9 w' w.heap.size (fun _ => True) v0_ ws ∧ Below w.heap.size w w'))
    (HBIG : Aside0 (ws.length * 16 ≤ 140737488355328)) (HW1 : Aside0 (Cru.restN ws = w1s)) (HN1 : Aside0 (Cru.badN 1 ws false = false)) (HSG : Aside0 (Cru.isSign Cru.colon w1s = true)) (HT : w1s.tail = rule :: tl) (HMAY : Aside0 (name_May.f rule = some false)) (hr : (r1, r2, r3, r4, r5, r6) = ([], ⟨#[]⟩, [], [], [], (700 : Int))) :
    Calls Tryd.prog 7 #[.string a0] w fun e w' => ∃ v0_ v2_ v3_ v4_ : Value, e = .returned (.tuple #[v0_, .string r2, v2_, v3_, v4_, .int .i64 r6]) ∧ Kd.R Kd.string 9 w' w.heap.size (fun k_ => some k_ ≠ (v2_ : Value).ownBlock ∧ some k_ ≠ (v3_ : Value).ownBlock ∧ some k_ ≠ (v4_ : Value).ownBlock) v0_ r1 ∧ Kd.R Kd.string 9 w' w.heap.size (fun k_ => some k_ ≠ (v0_ : Value).ownBlock ∧ some k_ ≠ (v3_ : Value).ownBlock ∧ some k_ ≠ (v4_ : Value).ownBlock) v2_ r3 ∧ Kd.R Kd.string 9 w' w.heap.size (fun k_ => some k_ ≠ (v0_ : Value).ownBlock ∧ some k_ ≠ (v2_ : Value).ownBlock ∧ some k_ ≠ (v4_ : Value).ownBlock) v3_ r4 ∧ Kd.R Kd.string 9 w' w.heap.size (fun k_ => some k_ ≠ (v0_ : Value).ownBlock ∧ some k_ ≠ (v2_ : Value).ownBlock ∧ some k_ ≠ (v3_ : Value).ownBlock) v4_ r5 ∧ Below w.heap.size w w' := by
  simp only [Prod.mk.injEq] at hr
  obtain ⟨rfl, rfl, rfl, rfl, rfl, rfl⟩ := hr
  go_enter Tryd.func7, Tryd.ntmps7
  go_wp2_with (go_at_call 36; refine (HOF.out w).mono ?_; rintro e w1 ⟨v, rfl, ho, hb⟩; obtain ⟨A, c, rfl, hi⟩ := Rdr.mk_ ho; have HI := Aside0.mk hi; have HB := Aside0.mk hb; clear ho hi hb)
  refine (reader_names.calls w1 _ _ ws false 1 HI.out ((Below.refl _ _).alloc (Nat.le_refl _) _) HBIG.out).mono ?_
  rintro e w3 ⟨vo, rfl, ho, hi, hb, hk⟩
  rw [HW1.out, HN1.out] at hi
  have HO := Aside0.mk (Rw.mk_ ho hi)
  have HI3 := Aside0.mk hi
  have HB3 := Aside0.mk hb
  clear ho hi hb hk
  go_wp2_with (fail)
  refine (reader_sign.calls w1 w3 _ w1s false Cru.colon HI3.out HB3.out).mono ?_
  rw [HSG.out]
  rintro e w4 ⟨rfl, hi, hb, hk⟩
  simp only [if_true, HT] at hi
  have HI4 := Aside0.mk hi
  have HB4 := Aside0.mk hb
  have HO4 := Aside0.mk (Rw.keep HO.out hk)
  clear hi hb hk HO HI3 HB3
  obtain ⟨ad, c4, hbk, hx, hne, hc4, hm4, hn1, hn2⟩ := HI4.out.word2 HB4.out
  have HBK := Aside0.mk hbk
  have HN1c := Aside0.mk hn1
  have HN2c := Aside0.mk hn2
  have q0 := blk_cell hbk 0
  have q1 := blk_cell hbk 1
  have f0 := blk_frozen hbk 0
  have f1 := blk_frozen hbk 1
  have hcell : (0 : Int) < ((rule :: tl).length : Int) := by simp
  clear hbk hn1 hn2
  go_wp2_with (go_at_call 39; refine (name_May.calls rule false w4 HMAY.out).mono ?_; rintro e w5 ⟨rfl, hb5⟩; have HBK5 := Aside0.mk (blk_below HBK.out hb5); have HB5 := Aside0.mk (below_step HB4.out hb5); have HO5 := Aside0.mk (Rw.keep HO4.out (KeepBut.of_below hb5 w1.heap.size none)); have HS5 := Aside0.mk hb5.size; have q50 := blk_cell HBK5.out 0; have q51 := blk_cell HBK5.out 1; have f50 := blk_frozen HBK5.out 0; have f51 := blk_frozen HBK5.out 1; have hx5 := Go.Proofs.YtnlipeiamnknbaaDoorW.Hand.cell_far (p := ⟨w1.heap.size, 1, none⟩) (u := .bool true) hne (pw_cell_below hb5 hx); clear hb5)
  refine bodyPost_ret (results_list (rs := [.tmp 2, .tmp 3, .tmp 4, .tmp 5, .tmp 6, .tmp 7]) rfl (by simp) (.tmp (.tmp (.tmp (.tmp (.tmp (.tmp .nil))))))) rfl ?_
  exact ⟨_, _, _, _, rfl, Kd.R_nil _ _ _ _ _, Kd.R_nil _ _ _ _ _, Kd.R_nil _ _ _ _ _, Kd.R_nil _ _ _ _ _, below_set (below_step HB.out HB5.out) HB.out.size⟩
set_option maxHeartbeats 8000000 in
set_option maxRecDepth 100000 in
theorem words_Build.way5 (a0 : ByteArray) (ws w1s : List ByteArray) (rule : ByteArray) (tl : List ByteArray) (w : World) (r1 : List ByteArray) (r2 : ByteArray) (r3 r4 r5 : List ByteArray) (r6 : Int)
    (HOF : Aside0 (∀ w : World, Calls Tryd.prog 36 #[.string a0] w fun e w' => ∃ v0_ : Value, e = .returned v0_ ∧ Kd.R Kd.string 9 w' w.heap.size (fun _ => True) v0_ ws ∧ Below w.heap.size w w'))
    (HBIG : Aside0 (ws.length * 16 ≤ 140737488355328)) (HW1 : Aside0 (Cru.restN ws = w1s)) (HN1 : Aside0 (Cru.badN 1 ws false = false)) (HSG : Aside0 (Cru.isSign Cru.colon w1s = true)) (HT : w1s.tail = rule :: tl) (HMAY : Aside0 (name_May.f rule = some true)) (w4s w5s w6s : List ByteArray) (b4 b5 : Bool) (HW4 : Aside0 (Cru.restN tl = w4s)) (HN4 : Aside0 (Cru.badN 0 tl false = b4)) (HW5 : Aside0 (Cru.partRest Cru.bar w4s = w5s)) (HN5 : Aside0 (Cru.partBad Cru.bar w4s b4 = b5)) (HW6 : Aside0 (Cru.partRest Cru.bars w5s = w6s)) (HN6 : Aside0 (Cru.partBad Cru.bars w5s b5 = true)) (HTL : Aside0 (tl.length * 16 ≤ 140737488355328)) (HL4 : Aside0 (w4s.length * 16 ≤ 140737488355328)) (HL5 : Aside0 (w5s.length * 16 ≤ 140737488355328)) (hr : (r1, r2, r3, r4, r5, r6) = ([], ⟨#[]⟩, [], [], [], (700 : Int))) :
    Calls Tryd.prog 7 #[.string a0] w fun e w' => ∃ v0_ v2_ v3_ v4_ : Value, e = .returned (.tuple #[v0_, .string r2, v2_, v3_, v4_, .int .i64 r6]) ∧ Kd.R Kd.string 9 w' w.heap.size (fun k_ => some k_ ≠ (v2_ : Value).ownBlock ∧ some k_ ≠ (v3_ : Value).ownBlock ∧ some k_ ≠ (v4_ : Value).ownBlock) v0_ r1 ∧ Kd.R Kd.string 9 w' w.heap.size (fun k_ => some k_ ≠ (v0_ : Value).ownBlock ∧ some k_ ≠ (v3_ : Value).ownBlock ∧ some k_ ≠ (v4_ : Value).ownBlock) v2_ r3 ∧ Kd.R Kd.string 9 w' w.heap.size (fun k_ => some k_ ≠ (v0_ : Value).ownBlock ∧ some k_ ≠ (v2_ : Value).ownBlock ∧ some k_ ≠ (v4_ : Value).ownBlock) v3_ r4 ∧ Kd.R Kd.string 9 w' w.heap.size (fun k_ => some k_ ≠ (v0_ : Value).ownBlock ∧ some k_ ≠ (v2_ : Value).ownBlock ∧ some k_ ≠ (v3_ : Value).ownBlock) v4_ r5 ∧ Below w.heap.size w w' := by
  simp only [Prod.mk.injEq] at hr
  obtain ⟨rfl, rfl, rfl, rfl, rfl, rfl⟩ := hr
  go_enter Tryd.func7, Tryd.ntmps7
  go_wp2_with (go_at_call 36; refine (HOF.out w).mono ?_; rintro e w1 ⟨v, rfl, ho, hb⟩; obtain ⟨A, c, rfl, hi⟩ := Rdr.mk_ ho; have HI := Aside0.mk hi; have HB := Aside0.mk hb; clear ho hi hb)
  refine (reader_names.calls w1 _ _ ws false 1 HI.out ((Below.refl _ _).alloc (Nat.le_refl _) _) HBIG.out).mono ?_
  rintro e w3 ⟨vo, rfl, ho, hi, hb, hk⟩
  rw [HW1.out, HN1.out] at hi
  have HO := Aside0.mk (Rw.mk_ ho hi)
  have HS13 := Aside0.mk (keep_size hk)
  have HI3 := Aside0.mk hi
  have HB3 := Aside0.mk hb
  clear ho hi hb hk
  go_wp2_with (fail)
  refine (reader_sign.calls w1 w3 _ w1s false Cru.colon HI3.out HB3.out).mono ?_
  rw [HSG.out]
  rintro e w4 ⟨rfl, hi, hb, hk⟩
  simp only [if_true, HT] at hi
  have HI4 := Aside0.mk hi
  have HB4 := Aside0.mk hb
  have HO4 := Aside0.mk (Rw.keep HO.out hk)
  have HS34 := Aside0.mk (keep_size hk)
  clear hi hb hk HO HI3 HB3
  obtain ⟨ad, c4, hbk, hx, hne, hc4, hm4, hn1, hn2⟩ := HI4.out.word2 HB4.out
  have HBK := Aside0.mk hbk
  have HN1c := Aside0.mk hn1
  have HN2c := Aside0.mk hn2
  have q0 := blk_cell hbk 0
  have q1 := blk_cell hbk 1
  have f0 := blk_frozen hbk 0
  have f1 := blk_frozen hbk 1
  have hcell : (0 : Int) < ((rule :: tl).length : Int) := by simp
  clear hbk hn1 hn2
  by_cases hc1 : c4 = 1
  · subst hc1
    have HCC : Aside0 (1 = 1) := ⟨rfl⟩
    go_wp2_with (go_at_call 39; refine (name_May.calls rule true w4 HMAY.out).mono ?_; rintro e w5 ⟨rfl, hb5⟩; have HBK5 := Aside0.mk (blk_below HBK.out hb5); have HB5 := Aside0.mk (below_step HB4.out hb5); have HO5 := Aside0.mk (Rw.keep HO4.out (KeepBut.of_below hb5 w1.heap.size none)); have HS5 := Aside0.mk hb5.size; have q50 := blk_cell HBK5.out 0; have q51 := blk_cell HBK5.out 1; have f50 := blk_frozen HBK5.out 0; have f51 := blk_frozen HBK5.out 1; have hx5 := Go.Proofs.YtnlipeiamnknbaaDoorW.Hand.cell_far (p := ⟨w1.heap.size, 1, none⟩) (u := .bool false) hne (pw_cell_below hb5 hx); clear hb5)
    have hW := HN1c.out HCC.out _ _ (by simpa using blk_set HBK5.out 1 (.bool false))
    have HOA := Aside0.mk ((HO5.out.set_ 1 (.bool false)).set_ 0 (.slice (some ad) tl.length 0))
    have HBA := Aside0.mk (below_set (j := 0) (v := (.slice (some ad) tl.length 0)) (below_set (j := 1) (v := .bool false) HB5.out (Nat.le_refl _)) (Nat.le_refl _))
    have HIA := Aside0.mk hW
    clear hW
    refine (reader_names.calls w1 _ _ tl false 0 HIA.out HBA.out HTL.out).mono ?_
    rintro e w6 ⟨vi, rfl, ho, hi, hb, hk⟩
    rw [HW4.out, HN4.out] at hi
    have HI6 := Aside0.mk hi
    have HB6 := Aside0.mk hb
    have HOi := Aside0.mk (Rw.mk_ ho hi)
    have HOo := Aside0.mk (Rw.keep HOA.out hk)
    have HS6 := Aside0.mk (keep_size hk)
    clear ho hi hb hk
    go_wp2_with (fail)
    refine (reader_part.calls w1 w6 _ w4s b4 Cru.bar HI6.out HB6.out HL4.out).mono ?_
    rintro e w7 ⟨vm, rfl, ho, hi, hb, hk⟩
    rw [HW5.out, HN5.out] at hi
    have HI7 := Aside0.mk hi
    have HB7 := Aside0.mk hb
    have HOm7 := Aside0.mk (Rw.mk_ ho hi)
    have HOi7 := Aside0.mk (Rw.keep HOi.out hk)
    have HOo7 := Aside0.mk (Rw.keep HOo.out hk)
    have HS7 := Aside0.mk (keep_size hk)
    clear ho hi hb hk HOi HOo HI6 HB6
    go_wp2_with (fail)
    refine (reader_part.calls w1 w7 _ w5s b5 Cru.bars HI7.out HB7.out HL5.out).mono ?_
    rintro e w8 ⟨vd, rfl, ho, hi, hb, hk⟩
    rw [HW6.out, HN6.out] at hi
    have HB8 := Aside0.mk hb
    have HOd8 := Aside0.mk (Rw.mk_ ho hi)
    have HOm8 := Aside0.mk (Rw.keep HOm7.out hk)
    have HOi8 := Aside0.mk (Rw.keep HOi7.out hk)
    have HOo8 := Aside0.mk (Rw.keep HOo7.out hk)
    have HS8 := Aside0.mk (keep_size hk)
    obtain ⟨A8, c8, hbk8, _, _, _, _⟩ := hi
    have p0 := blk_cell hbk8 0
    have p1 := blk_cell hbk8 1
    clear ho hb hk hbk8 HOm7 HOi7 HOo7 HI7 HB7
    go_wp2
    refine bodyPost_ret (results_list (rs := [.tmp 2, .tmp 3, .tmp 4, .tmp 5, .tmp 6, .tmp 7]) rfl (by simp) (.tmp (.tmp (.tmp (.tmp (.tmp (.tmp .nil))))))) rfl ?_
    exact ⟨_, _, _, _, rfl, Kd.R_nil _ _ _ _ _, Kd.R_nil _ _ _ _ _, Kd.R_nil _ _ _ _ _, Kd.R_nil _ _ _ _ _, below_step HB.out HB8.out⟩
  · skip
    have HCC := Aside0.mk hc1
    have hc2 : 1 < c4 := by simp at hc4; omega
    go_wp2_with (go_at_call 39; refine (name_May.calls rule true w4 HMAY.out).mono ?_; rintro e w5 ⟨rfl, hb5⟩; have HBK5 := Aside0.mk (blk_below HBK.out hb5); have HB5 := Aside0.mk (below_step HB4.out hb5); have HO5 := Aside0.mk (Rw.keep HO4.out (KeepBut.of_below hb5 w1.heap.size none)); have HS5 := Aside0.mk hb5.size; have q50 := blk_cell HBK5.out 0; have q51 := blk_cell HBK5.out 1; have f50 := blk_frozen HBK5.out 0; have f51 := blk_frozen HBK5.out 1; have hx5 := Go.Proofs.YtnlipeiamnknbaaDoorW.Hand.cell_far (p := ⟨w1.heap.size, 1, none⟩) (u := .bool false) hne (pw_cell_below hb5 hx); clear hb5)
    have hW := HN2c.out HCC.out _ _ (by simpa using blk_set HBK5.out 1 (.bool false))
    have HOA := Aside0.mk ((HO5.out.set_ 1 (.bool false)).set_ 0 (.slice (some ⟨ad.block, ad.off + 1, none⟩) tl.length (c4 - 1)))
    have HBA := Aside0.mk (below_set (j := 0) (v := (.slice (some ⟨ad.block, ad.off + 1, none⟩) tl.length (c4 - 1))) (below_set (j := 1) (v := .bool false) HB5.out (Nat.le_refl _)) (Nat.le_refl _))
    have HIA := Aside0.mk hW
    clear hW
    refine (reader_names.calls w1 _ _ tl false 0 HIA.out HBA.out HTL.out).mono ?_
    rintro e w6 ⟨vi, rfl, ho, hi, hb, hk⟩
    rw [HW4.out, HN4.out] at hi
    have HI6 := Aside0.mk hi
    have HB6 := Aside0.mk hb
    have HOi := Aside0.mk (Rw.mk_ ho hi)
    have HOo := Aside0.mk (Rw.keep HOA.out hk)
    have HS6 := Aside0.mk (keep_size hk)
    clear ho hi hb hk
    go_wp2_with (fail)
    refine (reader_part.calls w1 w6 _ w4s b4 Cru.bar HI6.out HB6.out HL4.out).mono ?_
    rintro e w7 ⟨vm, rfl, ho, hi, hb, hk⟩
    rw [HW5.out, HN5.out] at hi
    have HI7 := Aside0.mk hi
    have HB7 := Aside0.mk hb
    have HOm7 := Aside0.mk (Rw.mk_ ho hi)
    have HOi7 := Aside0.mk (Rw.keep HOi.out hk)
    have HOo7 := Aside0.mk (Rw.keep HOo.out hk)
    have HS7 := Aside0.mk (keep_size hk)
    clear ho hi hb hk HOi HOo HI6 HB6
    go_wp2_with (fail)
    refine (reader_part.calls w1 w7 _ w5s b5 Cru.bars HI7.out HB7.out HL5.out).mono ?_
    rintro e w8 ⟨vd, rfl, ho, hi, hb, hk⟩
    rw [HW6.out, HN6.out] at hi
    have HB8 := Aside0.mk hb
    have HOd8 := Aside0.mk (Rw.mk_ ho hi)
    have HOm8 := Aside0.mk (Rw.keep HOm7.out hk)
    have HOi8 := Aside0.mk (Rw.keep HOi7.out hk)
    have HOo8 := Aside0.mk (Rw.keep HOo7.out hk)
    have HS8 := Aside0.mk (keep_size hk)
    obtain ⟨A8, c8, hbk8, _, _, _, _⟩ := hi
    have p0 := blk_cell hbk8 0
    have p1 := blk_cell hbk8 1
    clear ho hb hk hbk8 HOm7 HOi7 HOo7 HI7 HB7
    go_wp2
    refine bodyPost_ret (results_list (rs := [.tmp 2, .tmp 3, .tmp 4, .tmp 5, .tmp 6, .tmp 7]) rfl (by simp) (.tmp (.tmp (.tmp (.tmp (.tmp (.tmp .nil))))))) rfl ?_
    exact ⟨_, _, _, _, rfl, Kd.R_nil _ _ _ _ _, Kd.R_nil _ _ _ _ _, Kd.R_nil _ _ _ _ _, Kd.R_nil _ _ _ _ _, below_step HB.out HB8.out⟩
set_option maxHeartbeats 8000000 in
set_option maxRecDepth 100000 in
theorem words_Build.way6 (a0 : ByteArray) (ws w1s : List ByteArray) (rule : ByteArray) (tl : List ByteArray) (w : World) (r1 : List ByteArray) (r2 : ByteArray) (r3 r4 r5 : List ByteArray) (r6 : Int)
    (HOF : Aside0 (∀ w : World, Calls Tryd.prog 36 #[.string a0] w fun e w' => ∃ v0_ : Value, e = .returned v0_ ∧ Kd.R Kd.string 9 w' w.heap.size (fun _ => True) v0_ ws ∧ Below w.heap.size w w'))
    (HBIG : Aside0 (ws.length * 16 ≤ 140737488355328)) (HW1 : Aside0 (Cru.restN ws = w1s)) (HN1 : Aside0 (Cru.badN 1 ws false = false)) (HSG : Aside0 (Cru.isSign Cru.colon w1s = true)) (HT : w1s.tail = rule :: tl) (HMAY : Aside0 (name_May.f rule = some true)) (w4s w5s : List ByteArray) (x6 : ByteArray) (t6 : List ByteArray) (b4 b5 : Bool) (HW4 : Aside0 (Cru.restN tl = w4s)) (HN4 : Aside0 (Cru.badN 0 tl false = b4)) (HW5 : Aside0 (Cru.partRest Cru.bar w4s = w5s)) (HN5 : Aside0 (Cru.partBad Cru.bar w4s b4 = b5)) (HW6 : Aside0 (Cru.partRest Cru.bars w5s = x6 :: t6)) (HN6 : Aside0 (Cru.partBad Cru.bars w5s b5 = false)) (HTL : Aside0 (tl.length * 16 ≤ 140737488355328)) (HL4 : Aside0 (w4s.length * 16 ≤ 140737488355328)) (HL5 : Aside0 (w5s.length * 16 ≤ 140737488355328)) (hr : (r1, r2, r3, r4, r5, r6) = ([], ⟨#[]⟩, [], [], [], (700 : Int))) :
    Calls Tryd.prog 7 #[.string a0] w fun e w' => ∃ v0_ v2_ v3_ v4_ : Value, e = .returned (.tuple #[v0_, .string r2, v2_, v3_, v4_, .int .i64 r6]) ∧ Kd.R Kd.string 9 w' w.heap.size (fun k_ => some k_ ≠ (v2_ : Value).ownBlock ∧ some k_ ≠ (v3_ : Value).ownBlock ∧ some k_ ≠ (v4_ : Value).ownBlock) v0_ r1 ∧ Kd.R Kd.string 9 w' w.heap.size (fun k_ => some k_ ≠ (v0_ : Value).ownBlock ∧ some k_ ≠ (v3_ : Value).ownBlock ∧ some k_ ≠ (v4_ : Value).ownBlock) v2_ r3 ∧ Kd.R Kd.string 9 w' w.heap.size (fun k_ => some k_ ≠ (v0_ : Value).ownBlock ∧ some k_ ≠ (v2_ : Value).ownBlock ∧ some k_ ≠ (v4_ : Value).ownBlock) v3_ r4 ∧ Kd.R Kd.string 9 w' w.heap.size (fun k_ => some k_ ≠ (v0_ : Value).ownBlock ∧ some k_ ≠ (v2_ : Value).ownBlock ∧ some k_ ≠ (v3_ : Value).ownBlock) v4_ r5 ∧ Below w.heap.size w w' := by
  simp only [Prod.mk.injEq] at hr
  obtain ⟨rfl, rfl, rfl, rfl, rfl, rfl⟩ := hr
  have d6 : decide ((0 : Int) < ((x6 :: t6).length : Int)) = true := by simp
  have d7 : decide (0 < (x6 :: t6).length) = true := by simp
  go_enter Tryd.func7, Tryd.ntmps7
  go_wp2_with (go_at_call 36; refine (HOF.out w).mono ?_; rintro e w1 ⟨v, rfl, ho, hb⟩; obtain ⟨A, c, rfl, hi⟩ := Rdr.mk_ ho; have HI := Aside0.mk hi; have HB := Aside0.mk hb; clear ho hi hb)
  refine (reader_names.calls w1 _ _ ws false 1 HI.out ((Below.refl _ _).alloc (Nat.le_refl _) _) HBIG.out).mono ?_
  rintro e w3 ⟨vo, rfl, ho, hi, hb, hk⟩
  rw [HW1.out, HN1.out] at hi
  have HO := Aside0.mk (Rw.mk_ ho hi)
  have HS13 := Aside0.mk (keep_size hk)
  have HI3 := Aside0.mk hi
  have HB3 := Aside0.mk hb
  clear ho hi hb hk
  go_wp2_with (fail)
  refine (reader_sign.calls w1 w3 _ w1s false Cru.colon HI3.out HB3.out).mono ?_
  rw [HSG.out]
  rintro e w4 ⟨rfl, hi, hb, hk⟩
  simp only [if_true, HT] at hi
  have HI4 := Aside0.mk hi
  have HB4 := Aside0.mk hb
  have HO4 := Aside0.mk (Rw.keep HO.out hk)
  have HS34 := Aside0.mk (keep_size hk)
  clear hi hb hk HO HI3 HB3
  obtain ⟨ad, c4, hbk, hx, hne, hc4, hm4, hn1, hn2⟩ := HI4.out.word2 HB4.out
  have HBK := Aside0.mk hbk
  have HN1c := Aside0.mk hn1
  have HN2c := Aside0.mk hn2
  have q0 := blk_cell hbk 0
  have q1 := blk_cell hbk 1
  have f0 := blk_frozen hbk 0
  have f1 := blk_frozen hbk 1
  have hcell : (0 : Int) < ((rule :: tl).length : Int) := by simp
  clear hbk hn1 hn2
  by_cases hc1 : c4 = 1
  · subst hc1
    have HCC : Aside0 (1 = 1) := ⟨rfl⟩
    go_wp2_with (go_at_call 39; refine (name_May.calls rule true w4 HMAY.out).mono ?_; rintro e w5 ⟨rfl, hb5⟩; have HBK5 := Aside0.mk (blk_below HBK.out hb5); have HB5 := Aside0.mk (below_step HB4.out hb5); have HO5 := Aside0.mk (Rw.keep HO4.out (KeepBut.of_below hb5 w1.heap.size none)); have HS5 := Aside0.mk hb5.size; have q50 := blk_cell HBK5.out 0; have q51 := blk_cell HBK5.out 1; have f50 := blk_frozen HBK5.out 0; have f51 := blk_frozen HBK5.out 1; have hx5 := Go.Proofs.YtnlipeiamnknbaaDoorW.Hand.cell_far (p := ⟨w1.heap.size, 1, none⟩) (u := .bool false) hne (pw_cell_below hb5 hx); clear hb5)
    have hW := HN1c.out HCC.out _ _ (by simpa using blk_set HBK5.out 1 (.bool false))
    have HOA := Aside0.mk ((HO5.out.set_ 1 (.bool false)).set_ 0 (.slice (some ad) tl.length 0))
    have HBA := Aside0.mk (below_set (j := 0) (v := (.slice (some ad) tl.length 0)) (below_set (j := 1) (v := .bool false) HB5.out (Nat.le_refl _)) (Nat.le_refl _))
    have HIA := Aside0.mk hW
    clear hW
    refine (reader_names.calls w1 _ _ tl false 0 HIA.out HBA.out HTL.out).mono ?_
    rintro e w6 ⟨vi, rfl, ho, hi, hb, hk⟩
    rw [HW4.out, HN4.out] at hi
    have HI6 := Aside0.mk hi
    have HB6 := Aside0.mk hb
    have HOi := Aside0.mk (Rw.mk_ ho hi)
    have HOo := Aside0.mk (Rw.keep HOA.out hk)
    have HS6 := Aside0.mk (keep_size hk)
    clear ho hi hb hk
    go_wp2_with (fail)
    refine (reader_part.calls w1 w6 _ w4s b4 Cru.bar HI6.out HB6.out HL4.out).mono ?_
    rintro e w7 ⟨vm, rfl, ho, hi, hb, hk⟩
    rw [HW5.out, HN5.out] at hi
    have HI7 := Aside0.mk hi
    have HB7 := Aside0.mk hb
    have HOm7 := Aside0.mk (Rw.mk_ ho hi)
    have HOi7 := Aside0.mk (Rw.keep HOi.out hk)
    have HOo7 := Aside0.mk (Rw.keep HOo.out hk)
    have HS7 := Aside0.mk (keep_size hk)
    clear ho hi hb hk HOi HOo HI6 HB6
    go_wp2_with (fail)
    refine (reader_part.calls w1 w7 _ w5s b5 Cru.bars HI7.out HB7.out HL5.out).mono ?_
    rintro e w8 ⟨vd, rfl, ho, hi, hb, hk⟩
    rw [HW6.out, HN6.out] at hi
    have HB8 := Aside0.mk hb
    have HOd8 := Aside0.mk (Rw.mk_ ho hi)
    have HOm8 := Aside0.mk (Rw.keep HOm7.out hk)
    have HOi8 := Aside0.mk (Rw.keep HOi7.out hk)
    have HOo8 := Aside0.mk (Rw.keep HOo7.out hk)
    have HS8 := Aside0.mk (keep_size hk)
    obtain ⟨A8, c8, hbk8, _, _, _, _⟩ := hi
    have p0 := blk_cell hbk8 0
    have p1 := blk_cell hbk8 1
    clear ho hb hk hbk8 HOm7 HOi7 HOo7 HI7 HB7
    go_wp2
    refine bodyPost_ret (results_list (rs := [.tmp 2, .tmp 3, .tmp 4, .tmp 5, .tmp 6, .tmp 7]) rfl (by simp) (.tmp (.tmp (.tmp (.tmp (.tmp (.tmp .nil))))))) rfl ?_
    exact ⟨_, _, _, _, rfl, Kd.R_nil _ _ _ _ _, Kd.R_nil _ _ _ _ _, Kd.R_nil _ _ _ _ _, Kd.R_nil _ _ _ _ _, below_step HB.out HB8.out⟩
  · skip
    have HCC := Aside0.mk hc1
    have hc2 : 1 < c4 := by simp at hc4; omega
    go_wp2_with (go_at_call 39; refine (name_May.calls rule true w4 HMAY.out).mono ?_; rintro e w5 ⟨rfl, hb5⟩; have HBK5 := Aside0.mk (blk_below HBK.out hb5); have HB5 := Aside0.mk (below_step HB4.out hb5); have HO5 := Aside0.mk (Rw.keep HO4.out (KeepBut.of_below hb5 w1.heap.size none)); have HS5 := Aside0.mk hb5.size; have q50 := blk_cell HBK5.out 0; have q51 := blk_cell HBK5.out 1; have f50 := blk_frozen HBK5.out 0; have f51 := blk_frozen HBK5.out 1; have hx5 := Go.Proofs.YtnlipeiamnknbaaDoorW.Hand.cell_far (p := ⟨w1.heap.size, 1, none⟩) (u := .bool false) hne (pw_cell_below hb5 hx); clear hb5)
    have hW := HN2c.out HCC.out _ _ (by simpa using blk_set HBK5.out 1 (.bool false))
    have HOA := Aside0.mk ((HO5.out.set_ 1 (.bool false)).set_ 0 (.slice (some ⟨ad.block, ad.off + 1, none⟩) tl.length (c4 - 1)))
    have HBA := Aside0.mk (below_set (j := 0) (v := (.slice (some ⟨ad.block, ad.off + 1, none⟩) tl.length (c4 - 1))) (below_set (j := 1) (v := .bool false) HB5.out (Nat.le_refl _)) (Nat.le_refl _))
    have HIA := Aside0.mk hW
    clear hW
    refine (reader_names.calls w1 _ _ tl false 0 HIA.out HBA.out HTL.out).mono ?_
    rintro e w6 ⟨vi, rfl, ho, hi, hb, hk⟩
    rw [HW4.out, HN4.out] at hi
    have HI6 := Aside0.mk hi
    have HB6 := Aside0.mk hb
    have HOi := Aside0.mk (Rw.mk_ ho hi)
    have HOo := Aside0.mk (Rw.keep HOA.out hk)
    have HS6 := Aside0.mk (keep_size hk)
    clear ho hi hb hk
    go_wp2_with (fail)
    refine (reader_part.calls w1 w6 _ w4s b4 Cru.bar HI6.out HB6.out HL4.out).mono ?_
    rintro e w7 ⟨vm, rfl, ho, hi, hb, hk⟩
    rw [HW5.out, HN5.out] at hi
    have HI7 := Aside0.mk hi
    have HB7 := Aside0.mk hb
    have HOm7 := Aside0.mk (Rw.mk_ ho hi)
    have HOi7 := Aside0.mk (Rw.keep HOi.out hk)
    have HOo7 := Aside0.mk (Rw.keep HOo.out hk)
    have HS7 := Aside0.mk (keep_size hk)
    clear ho hi hb hk HOi HOo HI6 HB6
    go_wp2_with (fail)
    refine (reader_part.calls w1 w7 _ w5s b5 Cru.bars HI7.out HB7.out HL5.out).mono ?_
    rintro e w8 ⟨vd, rfl, ho, hi, hb, hk⟩
    rw [HW6.out, HN6.out] at hi
    have HB8 := Aside0.mk hb
    have HOd8 := Aside0.mk (Rw.mk_ ho hi)
    have HOm8 := Aside0.mk (Rw.keep HOm7.out hk)
    have HOi8 := Aside0.mk (Rw.keep HOi7.out hk)
    have HOo8 := Aside0.mk (Rw.keep HOo7.out hk)
    have HS8 := Aside0.mk (keep_size hk)
    obtain ⟨A8, c8, hbk8, _, _, _, _⟩ := hi
    have p0 := blk_cell hbk8 0
    have p1 := blk_cell hbk8 1
    clear ho hb hk hbk8 HOm7 HOi7 HOo7 HI7 HB7
    go_wp2
    refine bodyPost_ret (results_list (rs := [.tmp 2, .tmp 3, .tmp 4, .tmp 5, .tmp 6, .tmp 7]) rfl (by simp) (.tmp (.tmp (.tmp (.tmp (.tmp (.tmp .nil))))))) rfl ?_
    exact ⟨_, _, _, _, rfl, Kd.R_nil _ _ _ _ _, Kd.R_nil _ _ _ _ _, Kd.R_nil _ _ _ _ _, Kd.R_nil _ _ _ _ _, below_step HB.out HB8.out⟩
set_option maxHeartbeats 8000000 in
set_option maxRecDepth 100000 in
theorem words_Build.way7 (a0 : ByteArray) (ws w1s : List ByteArray) (rule : ByteArray) (tl : List ByteArray) (w : World) (r1 : List ByteArray) (r2 : ByteArray) (r3 r4 r5 : List ByteArray) (r6 : Int)
    (HOF : Aside0 (∀ w : World, Calls Tryd.prog 36 #[.string a0] w fun e w' => ∃ v0_ : Value, e = .returned v0_ ∧ Kd.R Kd.string 9 w' w.heap.size (fun _ => True) v0_ ws ∧ Below w.heap.size w w'))
    (HBIG : Aside0 (ws.length * 16 ≤ 140737488355328)) (HW1 : Aside0 (Cru.restN ws = w1s)) (HN1 : Aside0 (Cru.badN 1 ws false = false)) (HSG : Aside0 (Cru.isSign Cru.colon w1s = true)) (HT : w1s.tail = rule :: tl) (HMAY : Aside0 (name_May.f rule = some true)) (w4s w5s : List ByteArray) (b4 b5 : Bool) (HW4 : Aside0 (Cru.restN tl = w4s)) (HN4 : Aside0 (Cru.badN 0 tl false = b4)) (HW5 : Aside0 (Cru.partRest Cru.bar w4s = w5s)) (HN5 : Aside0 (Cru.partBad Cru.bar w4s b4 = b5)) (HW6 : Aside0 (Cru.partRest Cru.bars w5s = [])) (HN6 : Aside0 (Cru.partBad Cru.bars w5s b5 = false)) (HTL : Aside0 (tl.length * 16 ≤ 140737488355328)) (HL4 : Aside0 (w4s.length * 16 ≤ 140737488355328)) (HL5 : Aside0 (w5s.length * 16 ≤ 140737488355328)) (hr : (r1, r2, r3, r4, r5, r6) = (Cru.takeN ws, rule, Cru.takeN tl, Cru.partOut Cru.bar w4s, Cru.partOut Cru.bars w5s, (0 : Int))) :
    Calls Tryd.prog 7 #[.string a0] w fun e w' => ∃ v0_ v2_ v3_ v4_ : Value, e = .returned (.tuple #[v0_, .string r2, v2_, v3_, v4_, .int .i64 r6]) ∧ Kd.R Kd.string 9 w' w.heap.size (fun k_ => some k_ ≠ (v2_ : Value).ownBlock ∧ some k_ ≠ (v3_ : Value).ownBlock ∧ some k_ ≠ (v4_ : Value).ownBlock) v0_ r1 ∧ Kd.R Kd.string 9 w' w.heap.size (fun k_ => some k_ ≠ (v0_ : Value).ownBlock ∧ some k_ ≠ (v3_ : Value).ownBlock ∧ some k_ ≠ (v4_ : Value).ownBlock) v2_ r3 ∧ Kd.R Kd.string 9 w' w.heap.size (fun k_ => some k_ ≠ (v0_ : Value).ownBlock ∧ some k_ ≠ (v2_ : Value).ownBlock ∧ some k_ ≠ (v4_ : Value).ownBlock) v3_ r4 ∧ Kd.R Kd.string 9 w' w.heap.size (fun k_ => some k_ ≠ (v0_ : Value).ownBlock ∧ some k_ ≠ (v2_ : Value).ownBlock ∧ some k_ ≠ (v3_ : Value).ownBlock) v4_ r5 ∧ Below w.heap.size w w' := by
  have d6 : decide ((0 : Int) < (([] : List ByteArray).length : Int)) = false := by simp
  have d7 : decide (0 < ([] : List ByteArray).length) = false := by simp
  go_enter Tryd.func7, Tryd.ntmps7
  go_wp2_with (go_at_call 36; refine (HOF.out w).mono ?_; rintro e w1 ⟨v, rfl, ho, hb⟩; obtain ⟨A, c, rfl, hi⟩ := Rdr.mk_ ho; have HI := Aside0.mk hi; have HB := Aside0.mk hb; clear ho hi hb)
  refine (reader_names.calls w1 _ _ ws false 1 HI.out ((Below.refl _ _).alloc (Nat.le_refl _) _) HBIG.out).mono ?_
  rintro e w3 ⟨vo, rfl, ho, hi, hb, hk⟩
  rw [HW1.out, HN1.out] at hi
  have HO := Aside0.mk (Rw.mk_ ho hi)
  have HS13 := Aside0.mk (keep_size hk)
  have HI3 := Aside0.mk hi
  have HB3 := Aside0.mk hb
  clear ho hi hb hk
  go_wp2_with (fail)
  refine (reader_sign.calls w1 w3 _ w1s false Cru.colon HI3.out HB3.out).mono ?_
  rw [HSG.out]
  rintro e w4 ⟨rfl, hi, hb, hk⟩
  simp only [if_true, HT] at hi
  have HI4 := Aside0.mk hi
  have HB4 := Aside0.mk hb
  have HO4 := Aside0.mk (Rw.keep HO.out hk)
  have HS34 := Aside0.mk (keep_size hk)
  clear hi hb hk HO HI3 HB3
  obtain ⟨ad, c4, hbk, hx, hne, hc4, hm4, hn1, hn2⟩ := HI4.out.word2 HB4.out
  have HBK := Aside0.mk hbk
  have HN1c := Aside0.mk hn1
  have HN2c := Aside0.mk hn2
  have q0 := blk_cell hbk 0
  have q1 := blk_cell hbk 1
  have f0 := blk_frozen hbk 0
  have f1 := blk_frozen hbk 1
  have hcell : (0 : Int) < ((rule :: tl).length : Int) := by simp
  clear hbk hn1 hn2
  by_cases hc1 : c4 = 1
  · subst hc1
    have HCC : Aside0 (1 = 1) := ⟨rfl⟩
    go_wp2_with (go_at_call 39; refine (name_May.calls rule true w4 HMAY.out).mono ?_; rintro e w5 ⟨rfl, hb5⟩; have HBK5 := Aside0.mk (blk_below HBK.out hb5); have HB5 := Aside0.mk (below_step HB4.out hb5); have HO5 := Aside0.mk (Rw.keep HO4.out (KeepBut.of_below hb5 w1.heap.size none)); have HS5 := Aside0.mk hb5.size; have q50 := blk_cell HBK5.out 0; have q51 := blk_cell HBK5.out 1; have f50 := blk_frozen HBK5.out 0; have f51 := blk_frozen HBK5.out 1; have hx5 := Go.Proofs.YtnlipeiamnknbaaDoorW.Hand.cell_far (p := ⟨w1.heap.size, 1, none⟩) (u := .bool false) hne (pw_cell_below hb5 hx); clear hb5)
    have hW := HN1c.out HCC.out _ _ (by simpa using blk_set HBK5.out 1 (.bool false))
    have HOA := Aside0.mk ((HO5.out.set_ 1 (.bool false)).set_ 0 (.slice (some ad) tl.length 0))
    have HBA := Aside0.mk (below_set (j := 0) (v := (.slice (some ad) tl.length 0)) (below_set (j := 1) (v := .bool false) HB5.out (Nat.le_refl _)) (Nat.le_refl _))
    have HIA := Aside0.mk hW
    clear hW
    refine (reader_names.calls w1 _ _ tl false 0 HIA.out HBA.out HTL.out).mono ?_
    rintro e w6 ⟨vi, rfl, ho, hi, hb, hk⟩
    rw [HW4.out, HN4.out] at hi
    have HI6 := Aside0.mk hi
    have HB6 := Aside0.mk hb
    have HOi := Aside0.mk (Rw.mk_ ho hi)
    have HOo := Aside0.mk (Rw.keep HOA.out hk)
    have HS6 := Aside0.mk (keep_size hk)
    clear ho hi hb hk
    go_wp2_with (fail)
    refine (reader_part.calls w1 w6 _ w4s b4 Cru.bar HI6.out HB6.out HL4.out).mono ?_
    rintro e w7 ⟨vm, rfl, ho, hi, hb, hk⟩
    rw [HW5.out, HN5.out] at hi
    have HI7 := Aside0.mk hi
    have HB7 := Aside0.mk hb
    have HOm7 := Aside0.mk (Rw.mk_ ho hi)
    have HOi7 := Aside0.mk (Rw.keep HOi.out hk)
    have HOo7 := Aside0.mk (Rw.keep HOo.out hk)
    have HS7 := Aside0.mk (keep_size hk)
    clear ho hi hb hk HOi HOo HI6 HB6
    go_wp2_with (fail)
    refine (reader_part.calls w1 w7 _ w5s b5 Cru.bars HI7.out HB7.out HL5.out).mono ?_
    rintro e w8 ⟨vd, rfl, ho, hi, hb, hk⟩
    rw [HW6.out, HN6.out] at hi
    have HB8 := Aside0.mk hb
    have HOd8 := Aside0.mk (Rw.mk_ ho hi)
    have HOm8 := Aside0.mk (Rw.keep HOm7.out hk)
    have HOi8 := Aside0.mk (Rw.keep HOi7.out hk)
    have HOo8 := Aside0.mk (Rw.keep HOo7.out hk)
    have HS8 := Aside0.mk (keep_size hk)
    obtain ⟨A8, c8, hbk8, _, _, _, _⟩ := hi
    have p0 := blk_cell hbk8 0
    have p1 := blk_cell hbk8 1
    clear ho hb hk hbk8 HOm7 HOi7 HOo7 HI7 HB7
    go_wp2
    refine bodyPost_ret (results_list (rs := [.tmp 2, .tmp 3, .tmp 4, .tmp 5, .tmp 6, .tmp 7]) rfl (by simp) (.tmp (.tmp (.tmp (.tmp (.tmp (.tmp .nil))))))) rfl ?_
    obtain ⟨z0, z1, z2, z3⟩ := words_Build.rows HOo8.out HOi8.out HOm8.out HOd8.out (base := w.heap.size) (by have := HB.out.size; simp; omega) HS13.out (by have := HS34.out; have := HS5.out; simp; omega) HS6.out (Nat.le_refl _) HS7.out (Nat.le_refl _)
    simp only [Prod.mk.injEq] at hr
    obtain ⟨rfl, rfl, rfl, rfl, rfl, rfl⟩ := hr
    exact ⟨_, _, _, _, rfl, z0, z1, z2, z3, below_step HB.out HB8.out⟩
  · skip
    have HCC := Aside0.mk hc1
    have hc2 : 1 < c4 := by simp at hc4; omega
    go_wp2_with (go_at_call 39; refine (name_May.calls rule true w4 HMAY.out).mono ?_; rintro e w5 ⟨rfl, hb5⟩; have HBK5 := Aside0.mk (blk_below HBK.out hb5); have HB5 := Aside0.mk (below_step HB4.out hb5); have HO5 := Aside0.mk (Rw.keep HO4.out (KeepBut.of_below hb5 w1.heap.size none)); have HS5 := Aside0.mk hb5.size; have q50 := blk_cell HBK5.out 0; have q51 := blk_cell HBK5.out 1; have f50 := blk_frozen HBK5.out 0; have f51 := blk_frozen HBK5.out 1; have hx5 := Go.Proofs.YtnlipeiamnknbaaDoorW.Hand.cell_far (p := ⟨w1.heap.size, 1, none⟩) (u := .bool false) hne (pw_cell_below hb5 hx); clear hb5)
    have hW := HN2c.out HCC.out _ _ (by simpa using blk_set HBK5.out 1 (.bool false))
    have HOA := Aside0.mk ((HO5.out.set_ 1 (.bool false)).set_ 0 (.slice (some ⟨ad.block, ad.off + 1, none⟩) tl.length (c4 - 1)))
    have HBA := Aside0.mk (below_set (j := 0) (v := (.slice (some ⟨ad.block, ad.off + 1, none⟩) tl.length (c4 - 1))) (below_set (j := 1) (v := .bool false) HB5.out (Nat.le_refl _)) (Nat.le_refl _))
    have HIA := Aside0.mk hW
    clear hW
    refine (reader_names.calls w1 _ _ tl false 0 HIA.out HBA.out HTL.out).mono ?_
    rintro e w6 ⟨vi, rfl, ho, hi, hb, hk⟩
    rw [HW4.out, HN4.out] at hi
    have HI6 := Aside0.mk hi
    have HB6 := Aside0.mk hb
    have HOi := Aside0.mk (Rw.mk_ ho hi)
    have HOo := Aside0.mk (Rw.keep HOA.out hk)
    have HS6 := Aside0.mk (keep_size hk)
    clear ho hi hb hk
    go_wp2_with (fail)
    refine (reader_part.calls w1 w6 _ w4s b4 Cru.bar HI6.out HB6.out HL4.out).mono ?_
    rintro e w7 ⟨vm, rfl, ho, hi, hb, hk⟩
    rw [HW5.out, HN5.out] at hi
    have HI7 := Aside0.mk hi
    have HB7 := Aside0.mk hb
    have HOm7 := Aside0.mk (Rw.mk_ ho hi)
    have HOi7 := Aside0.mk (Rw.keep HOi.out hk)
    have HOo7 := Aside0.mk (Rw.keep HOo.out hk)
    have HS7 := Aside0.mk (keep_size hk)
    clear ho hi hb hk HOi HOo HI6 HB6
    go_wp2_with (fail)
    refine (reader_part.calls w1 w7 _ w5s b5 Cru.bars HI7.out HB7.out HL5.out).mono ?_
    rintro e w8 ⟨vd, rfl, ho, hi, hb, hk⟩
    rw [HW6.out, HN6.out] at hi
    have HB8 := Aside0.mk hb
    have HOd8 := Aside0.mk (Rw.mk_ ho hi)
    have HOm8 := Aside0.mk (Rw.keep HOm7.out hk)
    have HOi8 := Aside0.mk (Rw.keep HOi7.out hk)
    have HOo8 := Aside0.mk (Rw.keep HOo7.out hk)
    have HS8 := Aside0.mk (keep_size hk)
    obtain ⟨A8, c8, hbk8, _, _, _, _⟩ := hi
    have p0 := blk_cell hbk8 0
    have p1 := blk_cell hbk8 1
    clear ho hb hk hbk8 HOm7 HOi7 HOo7 HI7 HB7
    go_wp2
    refine bodyPost_ret (results_list (rs := [.tmp 2, .tmp 3, .tmp 4, .tmp 5, .tmp 6, .tmp 7]) rfl (by simp) (.tmp (.tmp (.tmp (.tmp (.tmp (.tmp .nil))))))) rfl ?_
    obtain ⟨z0, z1, z2, z3⟩ := words_Build.rows HOo8.out HOi8.out HOm8.out HOd8.out (base := w.heap.size) (by have := HB.out.size; simp; omega) HS13.out (by have := HS34.out; have := HS5.out; simp; omega) HS6.out (Nat.le_refl _) HS7.out (Nat.le_refl _)
    simp only [Prod.mk.injEq] at hr
    obtain ⟨rfl, rfl, rfl, rfl, rfl, rfl⟩ := hr
    exact ⟨_, _, _, _, rfl, z0, z1, z2, z3, below_step HB.out HB8.out⟩
theorem words_Build.walk (a0 : ByteArray) (ws : List ByteArray) (w : World) (r1 : List ByteArray) (r2 : ByteArray) (r3 r4 r5 : List ByteArray) (r6 : Int)
    (HOF : ∀ w : World, Calls Tryd.prog 36 #[.string a0] w fun e w' => ∃ v0_ : Value, e = .returned v0_ ∧ Kd.R Kd.string 9 w' w.heap.size (fun _ => True) v0_ ws ∧ Below w.heap.size w w')
    (hbig : ws.length * 16 ≤ 140737488355328) (h : words_Build.out ws = (r1, r2, r3, r4, r5, r6)) :
    Calls Tryd.prog 7 #[.string a0] w fun e w' => ∃ v0_ v2_ v3_ v4_ : Value, e = .returned (.tuple #[v0_, .string r2, v2_, v3_, v4_, .int .i64 r6]) ∧ Kd.R Kd.string 9 w' w.heap.size (fun k_ => some k_ ≠ (v2_ : Value).ownBlock ∧ some k_ ≠ (v3_ : Value).ownBlock ∧ some k_ ≠ (v4_ : Value).ownBlock) v0_ r1 ∧ Kd.R Kd.string 9 w' w.heap.size (fun k_ => some k_ ≠ (v0_ : Value).ownBlock ∧ some k_ ≠ (v3_ : Value).ownBlock ∧ some k_ ≠ (v4_ : Value).ownBlock) v2_ r3 ∧ Kd.R Kd.string 9 w' w.heap.size (fun k_ => some k_ ≠ (v0_ : Value).ownBlock ∧ some k_ ≠ (v2_ : Value).ownBlock ∧ some k_ ≠ (v4_ : Value).ownBlock) v3_ r4 ∧ Kd.R Kd.string 9 w' w.heap.size (fun k_ => some k_ ≠ (v0_ : Value).ownBlock ∧ some k_ ≠ (v2_ : Value).ownBlock ∧ some k_ ≠ (v3_ : Value).ownBlock) v4_ r5 ∧ Below w.heap.size w w' := by
  have hr1 : (Cru.restN ws).length ≤ ws.length := by unfold Cru.restN; rw [List.length_drop]; omega
  obtain ⟨w1s, hw1⟩ : ∃ w1s, Cru.restN ws = w1s := ⟨_, rfl⟩
  obtain ⟨b1, hn1⟩ : ∃ b1, Cru.badN 1 ws false = b1 := ⟨_, rfl⟩
  unfold words_Build.out Cru.built at h
  simp only [hw1, hn1] at h
  rw [hw1] at hr1
  cases hsg : Cru.isSign Cru.colon w1s with
  | false =>
    refine words_Build.way1 a0 ws w1s b1 w r1 r2 r3 r4 r5 r6 ⟨HOF⟩ ⟨hbig⟩ ⟨hw1⟩ ⟨hn1⟩ ⟨hsg⟩ ?_
    rw [← h, hsg]
    cases w1s <;> simp
  | true =>
    cases b1 with
    | true =>
      refine words_Build.way2 a0 ws w1s w r1 r2 r3 r4 r5 r6 ⟨HOF⟩ ⟨hbig⟩ ⟨hw1⟩ ⟨hn1⟩ ⟨hsg⟩ ?_
      rw [← h, hsg]
      cases w1s.tail <;> simp
    | false =>
      simp only [hsg, if_true] at h
      cases ht : w1s.tail with
      | nil =>
        refine words_Build.way3 a0 ws w1s w r1 r2 r3 r4 r5 r6 ⟨HOF⟩ ⟨hbig⟩ ⟨hw1⟩ ⟨hn1⟩ ⟨hsg⟩ ht ?_
        rw [← h, ht]
      | cons rule tl =>
        rw [ht] at h
        simp only [Bool.not_true, Bool.or_self, Bool.false_or] at h
        have htl : tl.length ≤ ws.length := by
          have := congrArg List.length ht
          rw [List.length_tail, List.length_cons] at this
          omega
        cases hm : Cru.nameOk rule with
        | false =>
          refine words_Build.way4 a0 ws w1s rule tl w r1 r2 r3 r4 r5 r6 ⟨HOF⟩ ⟨hbig⟩ ⟨hw1⟩ ⟨hn1⟩ ⟨hsg⟩ ht ⟨by unfold name_May.f; rw [hm]⟩ ?_
          rw [← h, hm]; rfl
        | true =>
          have HM : name_May.f rule = some true := by unfold name_May.f; rw [hm]
          simp only [hm, Bool.not_true, Bool.false_eq_true, if_false] at h
          have l4 : (Cru.restN tl).length ≤ tl.length := by unfold Cru.restN; rw [List.length_drop]; omega
          obtain ⟨w4s, hw4⟩ : ∃ w4s, Cru.restN tl = w4s := ⟨_, rfl⟩
          obtain ⟨b4, hn4⟩ : ∃ b4, Cru.badN 0 tl false = b4 := ⟨_, rfl⟩
          simp only [hw4, hn4] at h
          rw [hw4] at l4
          have l5 := Cru.partRest_le Cru.bar w4s
          obtain ⟨w5s, hw5⟩ : ∃ w5s, Cru.partRest Cru.bar w4s = w5s := ⟨_, rfl⟩
          obtain ⟨b5, hn5⟩ : ∃ b5, Cru.partBad Cru.bar w4s b4 = b5 := ⟨_, rfl⟩
          simp only [hw5, hn5] at h
          rw [hw5] at l5
          obtain ⟨w6s, hw6⟩ : ∃ w6s, Cru.partRest Cru.bars w5s = w6s := ⟨_, rfl⟩
          obtain ⟨b6, hn6⟩ : ∃ b6, Cru.partBad Cru.bars w5s b5 = b6 := ⟨_, rfl⟩
          simp only [hw6, hn6] at h
          cases b6 with
          | true =>
            refine words_Build.way5 a0 ws w1s rule tl w r1 r2 r3 r4 r5 r6 ⟨HOF⟩ ⟨hbig⟩ ⟨hw1⟩ ⟨hn1⟩ ⟨hsg⟩ ht ⟨HM⟩ w4s w5s w6s b4 b5 ⟨hw4⟩ ⟨hn4⟩ ⟨hw5⟩ ⟨hn5⟩ ⟨hw6⟩ ⟨hn6⟩ ⟨by omega⟩ ⟨by omega⟩ ⟨by omega⟩ ?_
            rw [← h]; rfl
          | false =>
            cases w6s with
            | cons x6 t6 =>
              refine words_Build.way6 a0 ws w1s rule tl w r1 r2 r3 r4 r5 r6 ⟨HOF⟩ ⟨hbig⟩ ⟨hw1⟩ ⟨hn1⟩ ⟨hsg⟩ ht ⟨HM⟩ w4s w5s x6 t6 b4 b5 ⟨hw4⟩ ⟨hn4⟩ ⟨hw5⟩ ⟨hn5⟩ ⟨hw6⟩ ⟨hn6⟩ ⟨by omega⟩ ⟨by omega⟩ ⟨by omega⟩ ?_
              rw [← h]; rfl
            | nil =>
              refine words_Build.way7 a0 ws w1s rule tl w r1 r2 r3 r4 r5 r6 ⟨HOF⟩ ⟨hbig⟩ ⟨hw1⟩ ⟨hn1⟩ ⟨hsg⟩ ht ⟨HM⟩ w4s w5s b4 b5 ⟨hw4⟩ ⟨hn4⟩ ⟨hw5⟩ ⟨hn5⟩ ⟨hw6⟩ ⟨hn6⟩ ⟨by omega⟩ ⟨by omega⟩ ⟨by omega⟩ ?_
              rw [← h]; rfl
set_option maxHeartbeats 8000000 in
set_option maxRecDepth 100000 in
theorem words_Build.calls (a0 : ByteArray) (r1 : List ByteArray) (r2 : ByteArray) (r3 : List ByteArray) (r4 : List ByteArray) (r5 : List ByteArray) (r6 : Int) (w : World) (h : words_Build.f a0 = some (r1, r2, r3, r4, r5, r6)) :
    Calls Tryd.prog 7 #[.string a0] w fun e w' => ∃ v0_ v2_ v3_ v4_ : Value, e = .returned (.tuple #[v0_, .string r2, v2_, v3_, v4_, .int .i64 r6]) ∧ Kd.R Kd.string 9 w' w.heap.size (fun k_ => some k_ ≠ (v2_ : Value).ownBlock ∧ some k_ ≠ (v3_ : Value).ownBlock ∧ some k_ ≠ (v4_ : Value).ownBlock) v0_ r1 ∧ Kd.R Kd.string 9 w' w.heap.size (fun k_ => some k_ ≠ (v0_ : Value).ownBlock ∧ some k_ ≠ (v3_ : Value).ownBlock ∧ some k_ ≠ (v4_ : Value).ownBlock) v2_ r3 ∧ Kd.R Kd.string 9 w' w.heap.size (fun k_ => some k_ ≠ (v0_ : Value).ownBlock ∧ some k_ ≠ (v2_ : Value).ownBlock ∧ some k_ ≠ (v4_ : Value).ownBlock) v3_ r4 ∧ Kd.R Kd.string 9 w' w.heap.size (fun k_ => some k_ ≠ (v0_ : Value).ownBlock ∧ some k_ ≠ (v2_ : Value).ownBlock ∧ some k_ ≠ (v3_ : Value).ownBlock) v4_ r5 ∧ Below w.heap.size w w' := by
  unfold words_Build.f at h
  by_cases hs : a0.size < 4294967281
  · rw [if_pos hs] at h
    obtain h := Option.some.inj h
    have hbig : (Cru.wordsOf a0).length * 16 ≤ 140737488355328 := Cru.wordsOf_bound hs
    have HOF := Aside0.mk (words_Of.calls a0 hs)
    obtain ⟨ws, hws⟩ : ∃ ws, Cru.wordsOf a0 = ws := ⟨_, rfl⟩
    rw [hws] at h hbig HOF
    clear hws hs
    exact words_Build.walk a0 ws w r1 r2 r3 r4 r5 r6 HOF.out hbig h
  · rw [if_neg hs] at h
    cases h


end Go.Proofs.YtnlipeiamnknbaaDoor.A
end

section
namespace Go.Proofs.YtnlipeiamnknbaaDoor.A
open Go.RowKit Go.Proofs.YtnlipeiamnknbaaDoorW.PrintWords Go.Proofs.YtnlipeiamnknbaaDoorW.PrintLast Go.Proofs.YtnlipeiamnknbaaDoorW.PrintMore
attribute [local go_sem] max2_int min2_int max_two min_two max_three min_three max_four min_four   -- for this text's walks alone
set_option linter.unusedVariables false
set_option linter.unusedSimpArgs false

/-! ### crucibleref1_small: function 43 -/
def crucibleref1_small.f (a0 : Int) : Option (Bool) := if a0 ≥ 97 then (if a0 ≤ 122 then (some true) else (if a0 ≥ 48 then (some (decide (a0 ≤ 57))) else (some false))) else (if a0 ≥ 48 then (some (decide (a0 ≤ 57))) else (some false))
set_option maxHeartbeats 8000000 in
set_option maxRecDepth 100000 in
theorem crucibleref1_small.calls (a0 : Int) (r : Bool) (w : World) (h : crucibleref1_small.f a0 = some r) :
    Calls Tryd.prog 43 #[.int .u8 a0] w fun e w' => e = .returned (.bool r) ∧ Drawn0 w w' := by
  have H : (if a0 ≥ 97 then (if a0 ≤ 122 then (some true) else (if a0 ≥ 48 then (some (decide (a0 ≤ 57))) else (some false))) else (if a0 ≥ 48 then (some (decide (a0 ≤ 57))) else (some false))) = some r := h
  clear h
  by_cases c2 : a0 ≥ 97
  · rw [if_pos c2] at H
    have c2b0 : decide (97 ≤ a0) = true := decide_eq_true c2
    clear c2
    by_cases c3 : a0 ≤ 122
    · rw [if_pos c3] at H
      have c3b0 : decide (a0 ≤ 122) = true := decide_eq_true c3
      clear c3
      obtain rfl := Option.some.inj H
      go_enter Tryd.func43, Tryd.ntmps43
      go_wp2
      go_ret
      exact ⟨by first | rfl | (simp; done) | (simp [*]; done), by repeat (first | exact Drawn0.refl _ | apply Drawn0.step)⟩
    · rw [if_neg c3] at H
      have c3b0 : decide (a0 ≤ 122) = false := decide_eq_false c3
      clear c3
      by_cases c4 : a0 ≥ 48
      · rw [if_pos c4] at H
        have c4b0 : decide (48 ≤ a0) = true := decide_eq_true c4
        clear c4
        obtain rfl := Option.some.inj H
        go_enter Tryd.func43, Tryd.ntmps43
        go_wp2
        go_ret
        exact ⟨by first | rfl | (simp; done) | (simp [*]; done), by repeat (first | exact Drawn0.refl _ | apply Drawn0.step)⟩
      · rw [if_neg c4] at H
        have c4b0 : decide (48 ≤ a0) = false := decide_eq_false c4
        clear c4
        obtain rfl := Option.some.inj H
        go_enter Tryd.func43, Tryd.ntmps43
        go_wp2
        go_ret
        exact ⟨by first | rfl | (simp; done) | (simp [*]; done), by repeat (first | exact Drawn0.refl _ | apply Drawn0.step)⟩
  · rw [if_neg c2] at H
    have c2b0 : decide (97 ≤ a0) = false := decide_eq_false c2
    clear c2
    by_cases c5 : a0 ≥ 48
    · rw [if_pos c5] at H
      have c5b0 : decide (48 ≤ a0) = true := decide_eq_true c5
      clear c5
      obtain rfl := Option.some.inj H
      go_enter Tryd.func43, Tryd.ntmps43
      go_wp2
      go_ret
      exact ⟨by first | rfl | (simp; done) | (simp [*]; done), by repeat (first | exact Drawn0.refl _ | apply Drawn0.step)⟩
    · rw [if_neg c5] at H
      have c5b0 : decide (48 ≤ a0) = false := decide_eq_false c5
      clear c5
      obtain rfl := Option.some.inj H
      go_enter Tryd.func43, Tryd.ntmps43
      go_wp2
      go_ret
      exact ⟨by first | rfl | (simp; done) | (simp [*]; done), by repeat (first | exact Drawn0.refl _ | apply Drawn0.step)⟩

end Go.Proofs.YtnlipeiamnknbaaDoor.A
end

section
namespace Go.Proofs.YtnlipeiamnknbaaDoor.A
open Go.RowKit Go.Proofs.YtnlipeiamnknbaaDoorW.PrintWords Go.Proofs.YtnlipeiamnknbaaDoorW.PrintLast Go.Proofs.YtnlipeiamnknbaaDoorW.PrintMore
attribute [local go_sem] max2_int min2_int max_two min_two max_three min_three max_four min_four   -- for this text's walks alone
set_option linter.unusedVariables false
set_option linter.unusedSimpArgs false

/-! ### crucibleref1_NameMay: function 13 -/
def crucibleref1_NameMay.l0 : Nat → ByteArray → Int → Option (Bool)
  | 0, _, _ => none
  | k + 1, x0, x3 => if x3 < (x0.size : Int) then (if 0 ≤ x3 then ((crucibleref1_small.f (bt x0 x3)).bind fun t101 => (if t101 = true then (crucibleref1_NameMay.l0 k x0 (wrap64 (x3 + 1))) else (if (bt x0 x3) = 46 then (crucibleref1_NameMay.l0 k x0 (wrap64 (x3 + 1))) else (if (bt x0 x3) = 95 then (crucibleref1_NameMay.l0 k x0 (wrap64 (x3 + 1))) else (if (bt x0 x3) = 45 then (crucibleref1_NameMay.l0 k x0 (wrap64 (x3 + 1))) else (if (bt x0 x3) = 47 then (crucibleref1_NameMay.l0 k x0 (wrap64 (x3 + 1))) else (some false))))))) else (none)) else (if (x0.size : Int) ≥ 1 then (some (decide ((x0.size : Int) ≤ 16))) else (some false))
def crucibleref1_NameMay.f (k : Nat) (a0 : ByteArray) : Option (Bool) := crucibleref1_NameMay.l0 k a0 0
theorem crucibleref1_NameMay.mono_l : ∀ k, (∀ y0 y1, LeO (crucibleref1_NameMay.l0 k y0 y1) (crucibleref1_NameMay.l0 (k + 1) y0 y1))
  | 0 => fun _ _ r h => by simp [crucibleref1_NameMay.l0] at h
  | k + 1 => by
    have ih0 := crucibleref1_NameMay.mono_l k
    · intro y0 y1
      unfold crucibleref1_NameMay.l0
      repeat' first
      | (with_reducible exact ih0 _ _)
      | (with_reducible exact LeO.refl _)
      | (with_reducible exact LeO.none _)
      | (with_reducible refine LeO.ite ?_ ?_)
      | (with_reducible refine LeO.bind ?_ (fun _ => ?_))
      | exact ih0 _ _
      | exact LeO.none _
      | refine LeO.ite ?_ ?_
      | refine LeO.bind ?_ (fun _ => ?_)
theorem crucibleref1_NameMay.mono : ∀ a0 k, LeO (crucibleref1_NameMay.f k a0) (crucibleref1_NameMay.f (k + 1) a0) := by
  intro a0 k
  have ih0 := crucibleref1_NameMay.mono_l k
  unfold crucibleref1_NameMay.f
  repeat' first
      | (with_reducible exact ih0 _ _)
      | (with_reducible exact LeO.refl _)
      | (with_reducible exact LeO.none _)
      | (with_reducible refine LeO.ite ?_ ?_)
      | (with_reducible refine LeO.bind ?_ (fun _ => ?_))
      | exact ih0 _ _
      | exact LeO.none _
      | refine LeO.ite ?_ ?_
      | refine LeO.bind ?_ (fun _ => ?_)
set_option maxHeartbeats 8000000 in
set_option maxRecDepth 100000 in
theorem crucibleref1_NameMay.calls (k : Nat) (a0 : ByteArray) (r : Bool) (w : World) (h : crucibleref1_NameMay.f k a0 = some r) :
    Calls Tryd.prog 13 #[.string a0] w fun e w' => e = .returned (.bool r) ∧ Drawn0 w w' := by
  have H : (crucibleref1_NameMay.l0 k a0 0) = some r := h
  clear h
  have H' := Aside0.mk H
  clear H
  go_enter Tryd.func13, Tryd.ntmps13
  go_wp2
  go_loopg [3] k (fun kq v3 w' => ∃ (x3_1 : Int), v3 = .int .i64 x3_1 ∧ Aside0 (crucibleref1_NameMay.l0 kq a0 x3_1 = some r) ∧ Aside0 (kq ≤ k) ∧ Drawn0 w w')
  case atStart => exact ⟨(0), (by first | rfl | (simp; done) | (simp [*]; done)), H', ⟨Nat.le_refl _⟩, by repeat (first | exact Drawn0.refl _ | apply Drawn0.step)⟩
  case round =>
    clear H'
    try clear c1
    obtain ⟨x3_1, rfl, HA, HK1, ⟨m1, rfl⟩⟩ := hrel
    cases gk with
    | zero => exact absurd HA.out (by simp [crucibleref1_NameMay.l0])
    | succ k1 =>
      have H := HA.out
      clear HA
      simp only [crucibleref1_NameMay.l0] at H
      by_cases c2 : x3_1 < (a0.size : Int)
      · rw [if_pos c2] at H
        have c2b0 : decide (x3_1 < (a0.size : Int)) = true := decide_eq_true c2
        clear c2
        by_cases c3 : 0 ≤ x3_1
        · rw [if_pos c3] at H
          have c3b0 : decide (0 ≤ x3_1) = true := decide_eq_true c3
          clear c3
          replace H := Option.bind_eq_some_iff.mp H
          obtain ⟨t101, A50, H⟩ := H
          replace H : (if t101 = true then (crucibleref1_NameMay.l0 k1 a0 (wrap64 (x3_1 + 1))) else (if (bt a0 x3_1) = 46 then (crucibleref1_NameMay.l0 k1 a0 (wrap64 (x3_1 + 1))) else (if (bt a0 x3_1) = 95 then (crucibleref1_NameMay.l0 k1 a0 (wrap64 (x3_1 + 1))) else (if (bt a0 x3_1) = 45 then (crucibleref1_NameMay.l0 k1 a0 (wrap64 (x3_1 + 1))) else (if (bt a0 x3_1) = 47 then (crucibleref1_NameMay.l0 k1 a0 (wrap64 (x3_1 + 1))) else (some false)))))) = some r := H
          have A5 := Aside0.mk A50
          clear A50
          by_cases c6 : t101 = true
          · subst c6
            have H1 : (crucibleref1_NameMay.l0 k1 a0 (wrap64 (x3_1 + 1))) = some r := by rw [if_pos rfl] at H; exact H
            clear H
            have H := H1
            clear H1
            have H' := Aside0.mk H
            clear H
            have p4 : 0 ≤ (x3_1 : Int) := of_decide_eq_true (by first | (with_reducible assumption) | assumption)
            have q4 : x3_1 < (a0.size : Int) := of_decide_eq_true (by first | (with_reducible assumption) | assumption)
            have hx4 := bt_at a0 x3_1
            replace p4 := eq_true p4
            replace q4 := eq_true q4
            go_wp2_with (first | ((with_reducible refine gate_callee (f := 43) rfl ?_); refine goesL_ (some 13) rfl rfl Tryd.func43 (by kernel_rfl) rfl #[.int .u8 (bt a0 x3_1)] rfl (by (try simp only [List.map_toArray, List.map_cons, List.map_nil]); first | done | rfl | (simp only [List.length_drop, List.length_take]; rfl)) ?_; (with_reducible refine (crucibleref1_small.calls (bt a0 x3_1) true _ A5.out).mono ?_); rintro e w' ⟨rfl, ⟨nd, rfl⟩⟩; refine ⟨_, rfl, ?_⟩))
            go_roundg k1
            case measure => have := HK1.out; omega
            case rel => exact ⟨(wrap64 (x3_1 + 1)), (by first | rfl | (simp; done) | (simp [*]; done)), H', ⟨by have := HK1.out; omega⟩, by repeat (first | exact Drawn0.refl _ | apply Drawn0.step)⟩
          · replace c6 := Bool.eq_false_iff.mpr c6
            subst c6
            have H1 : (if (bt a0 x3_1) = 46 then (crucibleref1_NameMay.l0 k1 a0 (wrap64 (x3_1 + 1))) else (if (bt a0 x3_1) = 95 then (crucibleref1_NameMay.l0 k1 a0 (wrap64 (x3_1 + 1))) else (if (bt a0 x3_1) = 45 then (crucibleref1_NameMay.l0 k1 a0 (wrap64 (x3_1 + 1))) else (if (bt a0 x3_1) = 47 then (crucibleref1_NameMay.l0 k1 a0 (wrap64 (x3_1 + 1))) else (some false))))) = some r := by rw [if_neg (show ¬ (false = true) by decide)] at H; exact H
            clear H
            have H := H1
            clear H1
            by_cases c8 : (bt a0 x3_1) = 46
            · rw [if_pos c8] at H
              have c8b0 : ((bt a0 x3_1) == 46) = true := beq_iff_eq.mpr c8
              have c8b1 : ((bt a0 x3_1) != 46) = false := bne_eq_false_iff_eq.mpr c8
              clear c8
              have H' := Aside0.mk H
              clear H
              have p4 : 0 ≤ (x3_1 : Int) := of_decide_eq_true (by first | (with_reducible assumption) | assumption)
              have q4 : x3_1 < (a0.size : Int) := of_decide_eq_true (by first | (with_reducible assumption) | assumption)
              have hx4 := bt_at a0 x3_1
              replace p4 := eq_true p4
              replace q4 := eq_true q4
              go_wp2_with (first | ((with_reducible refine gate_callee (f := 43) rfl ?_); refine goesL_ (some 13) rfl rfl Tryd.func43 (by kernel_rfl) rfl #[.int .u8 (bt a0 x3_1)] rfl (by (try simp only [List.map_toArray, List.map_cons, List.map_nil]); first | done | rfl | (simp only [List.length_drop, List.length_take]; rfl)) ?_; (with_reducible refine (crucibleref1_small.calls (bt a0 x3_1) false _ A5.out).mono ?_); rintro e w' ⟨rfl, ⟨nd, rfl⟩⟩; refine ⟨_, rfl, ?_⟩; have p7 : 0 ≤ (x3_1 : Int) := of_decide_eq_true (by first | (with_reducible assumption) | assumption); have q7 : x3_1 < (a0.size : Int) := of_decide_eq_true (by first | (with_reducible assumption) | assumption); have hx7 := bt_at a0 x3_1; replace p7 := eq_true p7; replace q7 := eq_true q7))
              go_roundg k1
              case measure => have := HK1.out; omega
              case rel => exact ⟨(wrap64 (x3_1 + 1)), (by first | rfl | (simp; done) | (simp [*]; done)), H', ⟨by have := HK1.out; omega⟩, by repeat (first | exact Drawn0.refl _ | apply Drawn0.step)⟩
            · rw [if_neg c8] at H
              have c8b0 : ((bt a0 x3_1) == 46) = false := beq_eq_false_iff_ne.mpr c8
              have c8b1 : ((bt a0 x3_1) != 46) = true := bne_iff_ne.mpr c8
              by_cases c10 : (bt a0 x3_1) = 95
              · rw [if_pos c10] at H
                have c10b0 : ((bt a0 x3_1) == 95) = true := beq_iff_eq.mpr c10
                have c10b1 : ((bt a0 x3_1) != 95) = false := bne_eq_false_iff_eq.mpr c10
                clear c10
                have H' := Aside0.mk H
                clear H
                have p4 : 0 ≤ (x3_1 : Int) := of_decide_eq_true (by first | (with_reducible assumption) | assumption)
                have q4 : x3_1 < (a0.size : Int) := of_decide_eq_true (by first | (with_reducible assumption) | assumption)
                have hx4 := bt_at a0 x3_1
                replace p4 := eq_true p4
                replace q4 := eq_true q4
                go_wp2_with (first | ((with_reducible refine gate_callee (f := 43) rfl ?_); refine goesL_ (some 13) rfl rfl Tryd.func43 (by kernel_rfl) rfl #[.int .u8 (bt a0 x3_1)] rfl (by (try simp only [List.map_toArray, List.map_cons, List.map_nil]); first | done | rfl | (simp only [List.length_drop, List.length_take]; rfl)) ?_; (with_reducible refine (crucibleref1_small.calls (bt a0 x3_1) false _ A5.out).mono ?_); rintro e w' ⟨rfl, ⟨nd, rfl⟩⟩; refine ⟨_, rfl, ?_⟩; have p7 : 0 ≤ (x3_1 : Int) := of_decide_eq_true (by first | (with_reducible assumption) | assumption); have q7 : x3_1 < (a0.size : Int) := of_decide_eq_true (by first | (with_reducible assumption) | assumption); have hx7 := bt_at a0 x3_1; replace p7 := eq_true p7; replace q7 := eq_true q7; have p9 : 0 ≤ (x3_1 : Int) := of_decide_eq_true (by first | (with_reducible assumption) | assumption); have q9 : x3_1 < (a0.size : Int) := of_decide_eq_true (by first | (with_reducible assumption) | assumption); have hx9 := bt_at a0 x3_1; replace p9 := eq_true p9; replace q9 := eq_true q9))
                go_roundg k1
                case measure => have := HK1.out; omega
                case rel => exact ⟨(wrap64 (x3_1 + 1)), (by first | rfl | (simp; done) | (simp [*]; done)), H', ⟨by have := HK1.out; omega⟩, by repeat (first | exact Drawn0.refl _ | apply Drawn0.step)⟩
              · rw [if_neg c10] at H
                have c10b0 : ((bt a0 x3_1) == 95) = false := beq_eq_false_iff_ne.mpr c10
                have c10b1 : ((bt a0 x3_1) != 95) = true := bne_iff_ne.mpr c10
                by_cases c12 : (bt a0 x3_1) = 45
                · rw [if_pos c12] at H
                  have c12b0 : ((bt a0 x3_1) == 45) = true := beq_iff_eq.mpr c12
                  have c12b1 : ((bt a0 x3_1) != 45) = false := bne_eq_false_iff_eq.mpr c12
                  clear c12
                  have H' := Aside0.mk H
                  clear H
                  have p4 : 0 ≤ (x3_1 : Int) := of_decide_eq_true (by first | (with_reducible assumption) | assumption)
                  have q4 : x3_1 < (a0.size : Int) := of_decide_eq_true (by first | (with_reducible assumption) | assumption)
                  have hx4 := bt_at a0 x3_1
                  replace p4 := eq_true p4
                  replace q4 := eq_true q4
                  go_wp2_with (first | ((with_reducible refine gate_callee (f := 43) rfl ?_); refine goesL_ (some 13) rfl rfl Tryd.func43 (by kernel_rfl) rfl #[.int .u8 (bt a0 x3_1)] rfl (by (try simp only [List.map_toArray, List.map_cons, List.map_nil]); first | done | rfl | (simp only [List.length_drop, List.length_take]; rfl)) ?_; (with_reducible refine (crucibleref1_small.calls (bt a0 x3_1) false _ A5.out).mono ?_); rintro e w' ⟨rfl, ⟨nd, rfl⟩⟩; refine ⟨_, rfl, ?_⟩; have p7 : 0 ≤ (x3_1 : Int) := of_decide_eq_true (by first | (with_reducible assumption) | assumption); have q7 : x3_1 < (a0.size : Int) := of_decide_eq_true (by first | (with_reducible assumption) | assumption); have hx7 := bt_at a0 x3_1; replace p7 := eq_true p7; replace q7 := eq_true q7; have p9 : 0 ≤ (x3_1 : Int) := of_decide_eq_true (by first | (with_reducible assumption) | assumption); have q9 : x3_1 < (a0.size : Int) := of_decide_eq_true (by first | (with_reducible assumption) | assumption); have hx9 := bt_at a0 x3_1; replace p9 := eq_true p9; replace q9 := eq_true q9; have p11 : 0 ≤ (x3_1 : Int) := of_decide_eq_true (by first | (with_reducible assumption) | assumption); have q11 : x3_1 < (a0.size : Int) := of_decide_eq_true (by first | (with_reducible assumption) | assumption); have hx11 := bt_at a0 x3_1; replace p11 := eq_true p11; replace q11 := eq_true q11))
                  go_roundg k1
                  case measure => have := HK1.out; omega
                  case rel => exact ⟨(wrap64 (x3_1 + 1)), (by first | rfl | (simp; done) | (simp [*]; done)), H', ⟨by have := HK1.out; omega⟩, by repeat (first | exact Drawn0.refl _ | apply Drawn0.step)⟩
                · rw [if_neg c12] at H
                  have c12b0 : ((bt a0 x3_1) == 45) = false := beq_eq_false_iff_ne.mpr c12
                  have c12b1 : ((bt a0 x3_1) != 45) = true := bne_iff_ne.mpr c12
                  by_cases c14 : (bt a0 x3_1) = 47
                  · rw [if_pos c14] at H
                    have c14b0 : ((bt a0 x3_1) == 47) = true := beq_iff_eq.mpr c14
                    have c14b1 : ((bt a0 x3_1) != 47) = false := bne_eq_false_iff_eq.mpr c14
                    clear c14
                    have H' := Aside0.mk H
                    clear H
                    have p4 : 0 ≤ (x3_1 : Int) := of_decide_eq_true (by first | (with_reducible assumption) | assumption)
                    have q4 : x3_1 < (a0.size : Int) := of_decide_eq_true (by first | (with_reducible assumption) | assumption)
                    have hx4 := bt_at a0 x3_1
                    replace p4 := eq_true p4
                    replace q4 := eq_true q4
                    go_wp2_with (first | ((with_reducible refine gate_callee (f := 43) rfl ?_); refine goesL_ (some 13) rfl rfl Tryd.func43 (by kernel_rfl) rfl #[.int .u8 (bt a0 x3_1)] rfl (by (try simp only [List.map_toArray, List.map_cons, List.map_nil]); first | done | rfl | (simp only [List.length_drop, List.length_take]; rfl)) ?_; (with_reducible refine (crucibleref1_small.calls (bt a0 x3_1) false _ A5.out).mono ?_); rintro e w' ⟨rfl, ⟨nd, rfl⟩⟩; refine ⟨_, rfl, ?_⟩; have p7 : 0 ≤ (x3_1 : Int) := of_decide_eq_true (by first | (with_reducible assumption) | assumption); have q7 : x3_1 < (a0.size : Int) := of_decide_eq_true (by first | (with_reducible assumption) | assumption); have hx7 := bt_at a0 x3_1; replace p7 := eq_true p7; replace q7 := eq_true q7; have p9 : 0 ≤ (x3_1 : Int) := of_decide_eq_true (by first | (with_reducible assumption) | assumption); have q9 : x3_1 < (a0.size : Int) := of_decide_eq_true (by first | (with_reducible assumption) | assumption); have hx9 := bt_at a0 x3_1; replace p9 := eq_true p9; replace q9 := eq_true q9; have p11 : 0 ≤ (x3_1 : Int) := of_decide_eq_true (by first | (with_reducible assumption) | assumption); have q11 : x3_1 < (a0.size : Int) := of_decide_eq_true (by first | (with_reducible assumption) | assumption); have hx11 := bt_at a0 x3_1; replace p11 := eq_true p11; replace q11 := eq_true q11; have p13 : 0 ≤ (x3_1 : Int) := of_decide_eq_true (by first | (with_reducible assumption) | assumption); have q13 : x3_1 < (a0.size : Int) := of_decide_eq_true (by first | (with_reducible assumption) | assumption); have hx13 := bt_at a0 x3_1; replace p13 := eq_true p13; replace q13 := eq_true q13))
                    go_roundg k1
                    case measure => have := HK1.out; omega
                    case rel => exact ⟨(wrap64 (x3_1 + 1)), (by first | rfl | (simp; done) | (simp [*]; done)), H', ⟨by have := HK1.out; omega⟩, by repeat (first | exact Drawn0.refl _ | apply Drawn0.step)⟩
                  · rw [if_neg c14] at H
                    have c14b0 : ((bt a0 x3_1) == 47) = false := beq_eq_false_iff_ne.mpr c14
                    have c14b1 : ((bt a0 x3_1) != 47) = true := bne_iff_ne.mpr c14
                    obtain rfl := Option.some.inj H
                    have p4 : 0 ≤ (x3_1 : Int) := of_decide_eq_true (by first | (with_reducible assumption) | assumption)
                    have q4 : x3_1 < (a0.size : Int) := of_decide_eq_true (by first | (with_reducible assumption) | assumption)
                    have hx4 := bt_at a0 x3_1
                    replace p4 := eq_true p4
                    replace q4 := eq_true q4
                    go_wp2_with (first | ((with_reducible refine gate_callee (f := 43) rfl ?_); refine goesL_ (some 13) rfl rfl Tryd.func43 (by kernel_rfl) rfl #[.int .u8 (bt a0 x3_1)] rfl (by (try simp only [List.map_toArray, List.map_cons, List.map_nil]); first | done | rfl | (simp only [List.length_drop, List.length_take]; rfl)) ?_; (with_reducible refine (crucibleref1_small.calls (bt a0 x3_1) false _ A5.out).mono ?_); rintro e w' ⟨rfl, ⟨nd, rfl⟩⟩; refine ⟨_, rfl, ?_⟩; have p7 : 0 ≤ (x3_1 : Int) := of_decide_eq_true (by first | (with_reducible assumption) | assumption); have q7 : x3_1 < (a0.size : Int) := of_decide_eq_true (by first | (with_reducible assumption) | assumption); have hx7 := bt_at a0 x3_1; replace p7 := eq_true p7; replace q7 := eq_true q7; have p9 : 0 ≤ (x3_1 : Int) := of_decide_eq_true (by first | (with_reducible assumption) | assumption); have q9 : x3_1 < (a0.size : Int) := of_decide_eq_true (by first | (with_reducible assumption) | assumption); have hx9 := bt_at a0 x3_1; replace p9 := eq_true p9; replace q9 := eq_true q9; have p11 : 0 ≤ (x3_1 : Int) := of_decide_eq_true (by first | (with_reducible assumption) | assumption); have q11 : x3_1 < (a0.size : Int) := of_decide_eq_true (by first | (with_reducible assumption) | assumption); have hx11 := bt_at a0 x3_1; replace p11 := eq_true p11; replace q11 := eq_true q11; have p13 : 0 ≤ (x3_1 : Int) := of_decide_eq_true (by first | (with_reducible assumption) | assumption); have q13 : x3_1 < (a0.size : Int) := of_decide_eq_true (by first | (with_reducible assumption) | assumption); have hx13 := bt_at a0 x3_1; replace p13 := eq_true p13; replace q13 := eq_true q13))
                    go_ret
                    exact ⟨by first | rfl | (simp; done) | (simp [*]; done), by repeat (first | exact Drawn0.refl _ | apply Drawn0.step)⟩
        · rw [if_neg c3] at H
          exact absurd H (by simp)
      · rw [if_neg c2] at H
        have c2b0 : decide (x3_1 < (a0.size : Int)) = false := decide_eq_false c2
        clear c2
        by_cases c15 : (a0.size : Int) ≥ 1
        · rw [if_pos c15] at H
          have c15b0 : decide (1 ≤ (a0.size : Int)) = true := decide_eq_true c15
          have c15b1 : decide (1 ≤ a0.size) = true := decide_eq_true (by omega)
          clear c15
          obtain rfl := Option.some.inj H
          go_wp2
          go_ret
          exact ⟨by first | rfl | (simp; done) | (simp [*]; done), by repeat (first | exact Drawn0.refl _ | apply Drawn0.step)⟩
        · rw [if_neg c15] at H
          have c15b0 : decide (1 ≤ (a0.size : Int)) = false := decide_eq_false c15
          have c15b1 : decide (1 ≤ a0.size) = false := decide_eq_false (by omega)
          clear c15
          obtain rfl := Option.some.inj H
          go_wp2
          go_ret
          exact ⟨by first | rfl | (simp; done) | (simp [*]; done), by repeat (first | exact Drawn0.refl _ | apply Drawn0.step)⟩

end Go.Proofs.YtnlipeiamnknbaaDoor.A
end

section
namespace Go.Proofs.YtnlipeiamnknbaaDoor.A
open Go.RowKit Go.Proofs.YtnlipeiamnknbaaDoorW.PrintWords Go.Proofs.YtnlipeiamnknbaaDoorW.PrintLast Go.Proofs.YtnlipeiamnknbaaDoorW.PrintMore
attribute [local go_sem] max2_int min2_int max_two min_two max_three min_three max_four min_four   -- for this text's walks alone
set_option linter.unusedVariables false
set_option linter.unusedSimpArgs false

/-! ### crucibleref1_NameMayx0: function 13 -/
theorem crucibleref1_small.tells (c : Int) (h0 : 0 ≤ c) (h1 : c ≤ 255) : crucibleref1_small.f c = some ((97 ≤ c.toNat && c.toNat ≤ 122) || (48 ≤ c.toNat && c.toNat ≤ 57)) := by
  have key : ∀ y : Fin 256, crucibleref1_small.f ((y.val : Nat) : Int) = some ((97 ≤ y.val && y.val ≤ 122) || (48 ≤ y.val && y.val ≤ 57)) := by decide +kernel
  have := key ⟨c.toNat, by omega⟩
  rw [show ((c.toNat : Nat) : Int) = c by omega] at this
  exact this
theorem crucibleref1_NameMay.step (k : Nat) (s : ByteArray) (i : Nat) (hi : i < s.size) (hs : s.size ≤ 140737488355328) : crucibleref1_NameMay.l0 (k + 1) s (i : Int) = if Cru.okb (bt s i).toNat then crucibleref1_NameMay.l0 k s ((i + 1 : Nat) : Int) else some false := by
  have hr := bt_range s i
  have hw : wrap64 ((i : Int) + 1) = ((i + 1 : Nat) : Int) := by unfold wrap64; omega
  simp only [crucibleref1_NameMay.l0]
  rw [if_pos (by omega), if_pos (by omega), crucibleref1_small.tells _ hr.1 hr.2, hw]
  simp only [Option.bind_some]
  obtain ⟨c, hc⟩ : ∃ c : Nat, bt s i = (c : Int) := ⟨(bt s i).toNat, by omega⟩
  rw [hc, Int.toNat_natCast]
  have e : Cru.okb c = (((97 ≤ c && c ≤ 122) || (48 ≤ c && c ≤ 57)) || c == 46 || c == 95 || c == 45 || c == 47) := by
    unfold Cru.okb
    generalize (97 ≤ c && c ≤ 122 || 48 ≤ c && c ≤ 57) = u
    generalize (c == 95) = a
    generalize (c == 46) = b
    generalize (c == 45) = d
    generalize (c == 47) = f
    cases u <;> cases a <;> cases b <;> cases d <;> cases f <;> rfl
  rw [e]
  cases hu : (97 ≤ c && c ≤ 122 || 48 ≤ c && c ≤ 57) with
  | true => simp
  | false =>
    have q1 : ((c : Int) = 46) = (c = 46) := by apply propext; omega
    have q2 : ((c : Int) = 95) = (c = 95) := by apply propext; omega
    have q3 : ((c : Int) = 45) = (c = 45) := by apply propext; omega
    have q4 : ((c : Int) = 47) = (c = 47) := by apply propext; omega
    simp only [q1, q2, q3, q4]
    by_cases h1 : c = 46 <;> by_cases h2 : c = 95 <;> by_cases h3 : c = 45 <;> by_cases h4 : c = 47 <;> simp [*]
theorem bt_list (s : ByteArray) (i : Nat) (hi : i < s.size) : (bt s i).toNat = (s.data.toList[i]'(by rw [Array.length_toList]; exact hi)).toNat := by
  unfold bt
  rw [dif_pos (by simpa using hi)]
  simp
  rfl
theorem crucibleref1_NameMay.loop (s : ByteArray) (hs : s.size ≤ 140737488355328) : ∀ d k i, i ≤ s.size → s.size - i = d → d < k → crucibleref1_NameMay.l0 k s (i : Int) = some ((s.data.toList.drop i).all (fun b => Cru.okb b.toNat) && (decide (1 ≤ s.size) && decide (s.size ≤ 16)))
  | 0, k, i, h0, h1, hk => by
    obtain ⟨k, rfl⟩ : ∃ m, k = m + 1 := ⟨k - 1, by omega⟩
    have : s.data.toList.drop i = [] := List.drop_eq_nil_of_le (by rw [Array.length_toList]; show s.size ≤ i; omega)
    rw [this]
    simp only [crucibleref1_NameMay.l0]
    rw [if_neg (by omega)]
    by_cases h : 1 ≤ s.size
    · rw [if_pos (by omega)]; simp [h]; omega
    · rw [if_neg (by omega)]; simp [h]
  | d + 1, k, i, h0, h1, hk => by
    obtain ⟨k, rfl⟩ : ∃ m, k = m + 1 := ⟨k - 1, by omega⟩
    have hi : i < s.size := by omega
    rw [crucibleref1_NameMay.step k s i hi hs, bt_list s i hi, List.drop_eq_getElem_cons (by rw [Array.length_toList]; exact hi), List.all_cons]
    split
    · rename_i hq
      rw [crucibleref1_NameMay.loop s hs d k (i + 1) (by omega) (by omega) (by omega), hq, Bool.true_and]
    · rename_i hq
      rw [Bool.eq_false_iff.mpr hq]
      simp
theorem crucibleref1_NameMay.tells (s : ByteArray) (hs : s.size ≤ 140737488355328) (k : Nat) (hk : s.size < k) : crucibleref1_NameMay.f k s = some (Cru.nameOk s) := by
  unfold crucibleref1_NameMay.f Cru.nameOk
  have := crucibleref1_NameMay.loop s hs s.size k 0 (by omega) (by omega) hk
  rw [List.drop_zero] at this
  rw [show ((0 : Nat) : Int) = 0 from rfl] at this
  rw [this, Bool.and_comm]

end Go.Proofs.YtnlipeiamnknbaaDoor.A
end

section
namespace Go.Proofs.YtnlipeiamnknbaaDoor.A
open Go.RowKit Go.Proofs.YtnlipeiamnknbaaDoorW.PrintWords Go.Proofs.YtnlipeiamnknbaaDoorW.PrintLast Go.Proofs.YtnlipeiamnknbaaDoorW.PrintMore
attribute [local go_sem] max2_int min2_int max_two min_two max_three min_three max_four min_four   -- for this text's walks alone
set_option linter.unusedVariables false
set_option linter.unusedSimpArgs false

/-! ### crucibleref1_split: function 74 -/
def crucibleref1_split.l0 : Nat → ByteArray → Int → List ByteArray → Int → Int → Option (List ByteArray)
  | 0, _, _, _, _, _ => none
  | k + 1, x0, x1, x5, x6, x7 => if x7 ≤ (x0.size : Int) then (if x7 = (x0.size : Int) then (if 0 ≤ x6 then (if x6 ≤ x7 then (if x5.length < 8796093022208 then (crucibleref1_split.l0 k x0 x1 (x5 ++ [x0.extract (x6 : Int).toNat (x7 : Int).toNat]) (wrap64 (x7 + 1)) (wrap64 (x7 + 1))) else (none)) else (none)) else (none)) else (if 0 ≤ x7 then (if x7 < (x0.size : Int) then (if (bt x0 x7) = x1 then (if 0 ≤ x6 then (if x6 ≤ x7 then (if x5.length < 8796093022208 then (crucibleref1_split.l0 k x0 x1 (x5 ++ [x0.extract (x6 : Int).toNat (x7 : Int).toNat]) (wrap64 (x7 + 1)) (wrap64 (x7 + 1))) else (none)) else (none)) else (none)) else (crucibleref1_split.l0 k x0 x1 x5 x6 (wrap64 (x7 + 1)))) else (none)) else (none))) else (some x5)
def crucibleref1_split.f (k : Nat) (a0 : ByteArray) (a1 : Int) : Option (List ByteArray) := crucibleref1_split.l0 k a0 a1 ([] : List ByteArray) 0 0
theorem crucibleref1_split.mono_l : ∀ k, (∀ y0 y1 y2 y3 y4, LeO (crucibleref1_split.l0 k y0 y1 y2 y3 y4) (crucibleref1_split.l0 (k + 1) y0 y1 y2 y3 y4))
  | 0 => fun _ _ _ _ _ r h => by simp [crucibleref1_split.l0] at h
  | k + 1 => by
    have ih0 := crucibleref1_split.mono_l k
    · intro y0 y1 y2 y3 y4
      unfold crucibleref1_split.l0
      repeat' first
      | (with_reducible exact ih0 _ _ _ _ _)
      | (with_reducible exact LeO.refl _)
      | (with_reducible exact LeO.none _)
      | (with_reducible refine LeO.ite ?_ ?_)
      | (with_reducible refine LeO.bind ?_ (fun _ => ?_))
      | exact ih0 _ _ _ _ _
      | exact LeO.none _
      | refine LeO.ite ?_ ?_
      | refine LeO.bind ?_ (fun _ => ?_)
theorem crucibleref1_split.mono : ∀ a0 a1 k, LeO (crucibleref1_split.f k a0 a1) (crucibleref1_split.f (k + 1) a0 a1) := by
  intro a0 a1 k
  have ih0 := crucibleref1_split.mono_l k
  unfold crucibleref1_split.f
  repeat' first
      | (with_reducible exact ih0 _ _ _ _ _)
      | (with_reducible exact LeO.refl _)
      | (with_reducible exact LeO.none _)
      | (with_reducible refine LeO.ite ?_ ?_)
      | (with_reducible refine LeO.bind ?_ (fun _ => ?_))
      | exact ih0 _ _ _ _ _
      | exact LeO.none _
      | refine LeO.ite ?_ ?_
      | refine LeO.bind ?_ (fun _ => ?_)
set_option maxHeartbeats 8000000 in
set_option maxRecDepth 100000 in
theorem crucibleref1_split.calls (k : Nat) (a0 : ByteArray) (a1 : Int) (r : List ByteArray) (w : World) (h : crucibleref1_split.f k a0 a1 = some r) :
    Calls Tryd.prog 74 #[.string a0, .int .u8 a1] w fun e w' => ∃ v0_ : Value, e = .returned (v0_) ∧ Kd.R Kd.string 9 w' w.heap.size (fun _ => True) v0_ r ∧ Below w.heap.size w w' := by
  have HB := Aside0.mk (Below.refl w.heap.size w)
  have H : (crucibleref1_split.l0 k a0 a1 ([] : List ByteArray) 0 0) = some r := h
  clear h
  have H' := Aside0.mk H
  clear H
  go_enter Tryd.func74, Tryd.ntmps74
  go_wp2
  go_loopg [5, 6, 7] k (fun kq v5 v6 v7 w' => ∃ (x5_1 : List ByteArray) (x6_1 : Int) (x7_1 : Int), v6 = .int .i64 x6_1 ∧ v7 = .int .i64 x7_1 ∧ Aside0 (crucibleref1_split.l0 kq a0 a1 x5_1 x6_1 x7_1 = some r) ∧ Aside0 (kq ≤ k) ∧ Aside0 (Kd.R Kd.string 9 w' w.heap.size (fun _ => True) v5 x5_1) ∧ Aside0 (Below w.heap.size w w'))
  case atStart => exact ⟨(([] : List ByteArray)), (0), (0), (by first | rfl | (simp; done) | (simp [*]; done)), (by first | rfl | (simp; done) | (simp [*]; done)), H', ⟨Nat.le_refl _⟩, ⟨by first | exact Kd.R_nil _ _ _ _ _ | exact Kd.N_nil _ _ _ _ _ | exact Kd.V_nil _ _ _ _ _ | exact Kd.Q_nil _ _ _ _ _ | exact Kd.S_nil _ _ _ _ _⟩, ⟨by repeat (first | (with_reducible first | exact HB.out | apply below_alloc | apply pw_below_drewN | apply below_drew1) | exact HB.out)⟩⟩
  case round =>
    clear H'
    try clear p2
    obtain ⟨x5_1, x6_1, x7_1, rfl, rfl, HA, HK1, HO_5, HB⟩ := hrel
    cases gk with
    | zero => exact absurd HA.out (by simp [crucibleref1_split.l0])
    | succ k1 =>
      have H := HA.out
      clear HA
      simp only [crucibleref1_split.l0] at H
      by_cases c3 : x7_1 ≤ (a0.size : Int)
      · rw [if_pos c3] at H
        have c3b0 : decide (x7_1 ≤ (a0.size : Int)) = true := decide_eq_true c3
        clear c3
        by_cases c4 : x7_1 = (a0.size : Int)
        · rw [if_pos c4] at H
          have c4b0 : (x7_1 == (a0.size : Int)) = true := beq_iff_eq.mpr c4
          have c4b1 : (x7_1 != (a0.size : Int)) = false := bne_eq_false_iff_eq.mpr c4
          clear c4
          by_cases c5 : 0 ≤ x6_1
          · rw [if_pos c5] at H
            have c5b0 := eq_true c5
            have c5b1 : decide (0 ≤ x6_1) = true := decide_eq_true c5
            clear c5
            by_cases c6 : x6_1 ≤ x7_1
            · rw [if_pos c6] at H
              have c6b0 := eq_true c6
              have c6b1 : decide (x6_1 ≤ x7_1) = true := decide_eq_true c6
              clear c6
              have c7b0 := eq_true (of_decide_eq_true (by first | (with_reducible assumption) | assumption) : x7_1 ≤ (a0.size : Int))
              by_cases c8 : x5_1.length < 8796093022208
              · rw [if_pos c8] at H
                have LMc8 := Aside0.mk c8
                clear c8
                obtain ⟨y102, hy102⟩ : ∃ y_ : List ByteArray, y_ = (x5_1 ++ [a0.extract (x6_1 : Int).toNat (x7_1 : Int).toNat]) := ⟨_, rfl⟩
                replace H : (crucibleref1_split.l0 k1 a0 a1 y102 (wrap64 (x7_1 + 1)) (wrap64 (x7_1 + 1))) = some r := by first | (rw [hy102]; with_reducible exact H) | (have H2_ := (Option.bind_some _ _).symm.trans H; rw [hy102]; with_reducible exact H2_) | (have H2_ := (Option.bind_some _ _).symm.trans H; with_reducible exact H2_) | with_reducible exact H | (rw [hy102]; exact H) | exact H
                have Ny102 := Aside0.mk hy102
                clear hy102
                have H' := Aside0.mk H
                clear H
                go_wp2_with (first | ((with_reducible refine gate_builtin (b := .append) (xs := #[.tmp 25, .tmp 30]) rfl ?_); at_builtin; refine Kd.R_append Kd.string (w0 := w) w.heap.size rfl (.tmp 25) (.tmp 30) 22 9 (.string ⟨#[]⟩) 16 rfl Tryd.underlying22 info9 rfl (by decide) (by omega) u5 x5_1 (a0.extract (x6_1 : Int).toNat (x7_1 : Int).toNat) [.string (a0.extract (x6_1 : Int).toNat (x7_1 : Int).toNat)] (fun _ => True) (fun _ => False) rfl rfl ?aP (fun _ hk => hk.elim) ?aF ?aO ?aB ?aS ?aL ?_; (case aP => exact rfl); (case aB => exact (by repeat (first | (with_reducible first | exact HB.out | apply below_alloc | apply pw_below_drewN | apply below_drew1) | exact HB.out))); (case aF => exact (fun _ _ => trivial)); (case aO => exact (by (with_reducible repeat (first | apply Kd.R_alloc | apply Kd.R_drewN | apply Kd.R_drew)); first | exact HO_5.out | exact Kd.R_mono (HO_5.out) (fun k_ hk => by simp only [Go.Proofs.YtnlipeiamnknbaaDoorW.Hand.slice_ownBlock] at hk ⊢; exact hk))); (case aS => exact (below_size (by repeat (first | (with_reducible first | exact HB.out | apply below_alloc | apply pw_below_drewN | apply below_drew1) | exact HB.out)))); (case aL => have := LMc8.out; omega); intro v103 w9 ho hb hg hat; rw [← Ny102.out] at ho; have n0_ := Aside0.mk (hb); have n1_ := Aside0.mk (ho); clear HB; clear HO_5; have HB := n0_; have HO104 := n1_; clear n0_ n1_; clear ho hb hg hat))
                go_roundg k1
                case measure => have := HK1.out; omega
                case rel => exact ⟨(y102), (wrap64 (x7_1 + 1)), (wrap64 (x7_1 + 1)), (by first | rfl | (simp; done) | (simp [*]; done)), (by first | rfl | (simp; done) | (simp [*]; done)), H', ⟨by have := HK1.out; omega⟩, ⟨by (with_reducible repeat (first | apply Kd.R_alloc | apply Kd.R_drewN | apply Kd.R_drew)); first | exact HO104.out | exact Kd.R_mono (HO104.out) (fun k_ hk => by simp only [Go.Proofs.YtnlipeiamnknbaaDoorW.Hand.slice_ownBlock] at hk ⊢; exact hk)⟩, ⟨by repeat (first | (with_reducible first | exact HB.out | apply below_alloc | apply pw_below_drewN | apply below_drew1) | exact HB.out)⟩⟩
              · rw [if_neg c8] at H
                exact absurd H (by simp)
            · rw [if_neg c6] at H
              exact absurd H (by simp)
          · rw [if_neg c5] at H
            exact absurd H (by simp)
        · rw [if_neg c4] at H
          have c4b0 : (x7_1 == (a0.size : Int)) = false := beq_eq_false_iff_ne.mpr c4
          have c4b1 : (x7_1 != (a0.size : Int)) = true := bne_iff_ne.mpr c4
          by_cases c10 : 0 ≤ x7_1
          · rw [if_pos c10] at H
            have c10b0 : decide (0 ≤ x7_1) = true := decide_eq_true c10
            clear c10
            by_cases c11 : x7_1 < (a0.size : Int)
            · rw [if_pos c11] at H
              have c11b0 : decide (x7_1 < (a0.size : Int)) = true := decide_eq_true c11
              clear c11
              by_cases c13 : (bt a0 x7_1) = a1
              · rw [if_pos c13] at H
                have c13b0 : ((bt a0 x7_1) == a1) = true := beq_iff_eq.mpr c13
                have c13b1 : ((bt a0 x7_1) != a1) = false := bne_eq_false_iff_eq.mpr c13
                clear c13
                by_cases c14 : 0 ≤ x6_1
                · rw [if_pos c14] at H
                  have c14b0 := eq_true c14
                  have c14b1 : decide (0 ≤ x6_1) = true := decide_eq_true c14
                  clear c14
                  by_cases c15 : x6_1 ≤ x7_1
                  · rw [if_pos c15] at H
                    have c15b0 := eq_true c15
                    have c15b1 : decide (x6_1 ≤ x7_1) = true := decide_eq_true c15
                    clear c15
                    have c16b0 := eq_true (of_decide_eq_true (by first | (with_reducible assumption) | assumption) : x7_1 ≤ (a0.size : Int))
                    by_cases c17 : x5_1.length < 8796093022208
                    · rw [if_pos c17] at H
                      have LMc17 := Aside0.mk c17
                      clear c17
                      obtain ⟨y105, hy105⟩ : ∃ y_ : List ByteArray, y_ = (x5_1 ++ [a0.extract (x6_1 : Int).toNat (x7_1 : Int).toNat]) := ⟨_, rfl⟩
                      replace H : (crucibleref1_split.l0 k1 a0 a1 y105 (wrap64 (x7_1 + 1)) (wrap64 (x7_1 + 1))) = some r := by first | (rw [hy105]; with_reducible exact H) | (have H2_ := (Option.bind_some _ _).symm.trans H; rw [hy105]; with_reducible exact H2_) | (have H2_ := (Option.bind_some _ _).symm.trans H; with_reducible exact H2_) | with_reducible exact H | (rw [hy105]; exact H) | exact H
                      have Ny105 := Aside0.mk hy105
                      clear hy105
                      have H' := Aside0.mk H
                      clear H
                      have p12 : 0 ≤ (x7_1 : Int) := of_decide_eq_true (by first | (with_reducible assumption) | assumption)
                      have q12 : x7_1 < (a0.size : Int) := of_decide_eq_true (by first | (with_reducible assumption) | assumption)
                      have hx12 := bt_at a0 x7_1
                      replace p12 := eq_true p12
                      replace q12 := eq_true q12
                      go_wp2_with (first | ((with_reducible refine gate_builtin (b := .append) (xs := #[.tmp 25, .tmp 30]) rfl ?_); at_builtin; refine Kd.R_append Kd.string (w0 := w) w.heap.size rfl (.tmp 25) (.tmp 30) 22 9 (.string ⟨#[]⟩) 16 rfl Tryd.underlying22 info9 rfl (by decide) (by omega) u5 x5_1 (a0.extract (x6_1 : Int).toNat (x7_1 : Int).toNat) [.string (a0.extract (x6_1 : Int).toNat (x7_1 : Int).toNat)] (fun _ => True) (fun _ => False) rfl rfl ?aP (fun _ hk => hk.elim) ?aF ?aO ?aB ?aS ?aL ?_; (case aP => exact rfl); (case aB => exact (by repeat (first | (with_reducible first | exact HB.out | apply below_alloc | apply pw_below_drewN | apply below_drew1) | exact HB.out))); (case aF => exact (fun _ _ => trivial)); (case aO => exact (by (with_reducible repeat (first | apply Kd.R_alloc | apply Kd.R_drewN | apply Kd.R_drew)); first | exact HO_5.out | exact Kd.R_mono (HO_5.out) (fun k_ hk => by simp only [Go.Proofs.YtnlipeiamnknbaaDoorW.Hand.slice_ownBlock] at hk ⊢; exact hk))); (case aS => exact (below_size (by repeat (first | (with_reducible first | exact HB.out | apply below_alloc | apply pw_below_drewN | apply below_drew1) | exact HB.out)))); (case aL => have := LMc17.out; omega); intro v106 w18 ho hb hg hat; rw [← Ny105.out] at ho; have n0_ := Aside0.mk (hb); have n1_ := Aside0.mk (ho); clear HB; clear HO_5; have HB := n0_; have HO107 := n1_; clear n0_ n1_; clear ho hb hg hat))
                      go_roundg k1
                      case measure => have := HK1.out; omega
                      case rel => exact ⟨(y105), (wrap64 (x7_1 + 1)), (wrap64 (x7_1 + 1)), (by first | rfl | (simp; done) | (simp [*]; done)), (by first | rfl | (simp; done) | (simp [*]; done)), H', ⟨by have := HK1.out; omega⟩, ⟨by (with_reducible repeat (first | apply Kd.R_alloc | apply Kd.R_drewN | apply Kd.R_drew)); first | exact HO107.out | exact Kd.R_mono (HO107.out) (fun k_ hk => by simp only [Go.Proofs.YtnlipeiamnknbaaDoorW.Hand.slice_ownBlock] at hk ⊢; exact hk)⟩, ⟨by repeat (first | (with_reducible first | exact HB.out | apply below_alloc | apply pw_below_drewN | apply below_drew1) | exact HB.out)⟩⟩
                    · rw [if_neg c17] at H
                      exact absurd H (by simp)
                  · rw [if_neg c15] at H
                    exact absurd H (by simp)
                · rw [if_neg c14] at H
                  exact absurd H (by simp)
              · rw [if_neg c13] at H
                have c13b0 : ((bt a0 x7_1) == a1) = false := beq_eq_false_iff_ne.mpr c13
                have c13b1 : ((bt a0 x7_1) != a1) = true := bne_iff_ne.mpr c13
                have H' := Aside0.mk H
                clear H
                have p12 : 0 ≤ (x7_1 : Int) := of_decide_eq_true (by first | (with_reducible assumption) | assumption)
                have q12 : x7_1 < (a0.size : Int) := of_decide_eq_true (by first | (with_reducible assumption) | assumption)
                have hx12 := bt_at a0 x7_1
                replace p12 := eq_true p12
                replace q12 := eq_true q12
                go_wp2
                go_roundg k1
                case measure => have := HK1.out; omega
                case rel => exact ⟨(x5_1), (x6_1), (wrap64 (x7_1 + 1)), (by first | rfl | (simp; done) | (simp [*]; done)), (by first | rfl | (simp; done) | (simp [*]; done)), H', ⟨by have := HK1.out; omega⟩, ⟨by (with_reducible repeat (first | apply Kd.R_alloc | apply Kd.R_drewN | apply Kd.R_drew)); first | exact HO_5.out | exact Kd.R_mono (HO_5.out) (fun k_ hk => by simp only [Go.Proofs.YtnlipeiamnknbaaDoorW.Hand.slice_ownBlock] at hk ⊢; exact hk)⟩, ⟨by repeat (first | (with_reducible first | exact HB.out | apply below_alloc | apply pw_below_drewN | apply below_drew1) | exact HB.out)⟩⟩
            · rw [if_neg c11] at H
              exact absurd H (by simp)
          · rw [if_neg c10] at H
            exact absurd H (by simp)
      · rw [if_neg c3] at H
        have c3b0 : decide (x7_1 ≤ (a0.size : Int)) = false := decide_eq_false c3
        clear c3
        obtain rfl := Option.some.inj H
        go_wp2
        go_ret
        exact ⟨_, by first | rfl | (simp [errW_none, errW_some] <;> rfl) | (simp [*, errW_none, errW_some] <;> rfl), by (with_reducible repeat (first | apply Kd.R_alloc | apply Kd.R_drewN | apply Kd.R_drew)); first | exact HO_5.out | exact Kd.R_mono (HO_5.out) (fun k_ hk => by simp only [Go.Proofs.YtnlipeiamnknbaaDoorW.Hand.slice_ownBlock] at hk ⊢; exact hk), by repeat (first | (with_reducible first | exact HB.out | apply below_alloc | apply pw_below_drewN | apply below_drew1) | exact HB.out)⟩

end Go.Proofs.YtnlipeiamnknbaaDoor.A
end

section
namespace Go.Proofs.YtnlipeiamnknbaaDoor.A
open Go.RowKit Go.Proofs.YtnlipeiamnknbaaDoorW.PrintWords Go.Proofs.YtnlipeiamnknbaaDoorW.PrintLast Go.Proofs.YtnlipeiamnknbaaDoorW.PrintMore
attribute [local go_sem] max2_int min2_int max_two min_two max_three min_three max_four min_four   -- for this text's walks alone
set_option linter.unusedVariables false
set_option linter.unusedSimpArgs false

/-! ### crucibleref1_splitx0: function 74 -/
theorem extract_list (s : ByteArray) (a b : Nat) : (s.extract a b).data.toList = (s.data.toList.take b).drop a := by
  rw [Lib.extract_data]
  simp [List.drop_take]
def glue (x : List UInt8) : List (List UInt8) → List (List UInt8)
  | [] => [x]
  | p :: ps => (x ++ p) :: ps
theorem crucibleref1_split.loop (s : ByteArray) (b : UInt8) (hs : s.size ≤ 8796093022000) : ∀ d k i fr (acc : List ByteArray), fr ≤ i → i ≤ s.size → s.size - i = d → d + 1 < k → acc.length + d ≤ 8796093022100 →
    crucibleref1_split.l0 k s (b.toNat : Int) acc (fr : Int) (i : Int) = some (acc ++ (glue ((s.data.toList.take i).drop fr) (Cru.spl b (s.data.toList.drop i))).map Cru.mkb)
  | 0, k, i, fr, acc, hf, h0, h1, hk, hl => by
    obtain ⟨k, rfl⟩ : ∃ m, k = m + 1 + 1 := ⟨k - 2, by omega⟩
    obtain rfl : i = s.size := by omega
    have e : s.data.toList.drop s.size = [] := List.drop_eq_nil_of_le (by rw [Array.length_toList]; exact Nat.le_refl _)
    have hw : wrap64 ((s.size : Int) + 1) = ((s.size + 1 : Nat) : Int) := by unfold wrap64; omega
    rw [crucibleref1_split.l0, if_pos (by omega), if_pos rfl, if_pos (by omega), if_pos (by omega), if_pos (by omega), hw, crucibleref1_split.l0, if_neg (by omega), e]
    have : s.extract (Int.toNat (fr : Int)) (Int.toNat (s.size : Int)) = Cru.mkb ((s.data.toList.take s.size).drop fr) := Cru.ba_ext (by rw [extract_list]; simp)
    rw [this]
    simp [glue, Cru.spl]
  | d + 1, k, i, fr, acc, hf, h0, h1, hk, hl => by
    obtain ⟨k, rfl⟩ : ∃ m, k = m + 1 := ⟨k - 1, by omega⟩
    have hi : i < s.size := by omega
    have hl' : i < s.data.toList.length := by rw [Array.length_toList]; exact hi
    have hw : wrap64 ((i : Int) + 1) = ((i + 1 : Nat) : Int) := by unfold wrap64; omega
    have hb := bt_list s i hi
    have hr := bt_range s i
    have ed := List.drop_eq_getElem_cons hl'
    simp only [crucibleref1_split.l0]
    rw [if_pos (by omega), if_neg (by omega), if_pos (by omega), if_pos (by omega), hw]
    by_cases hc : s.data.toList[i] = b
    · rw [if_pos (by rw [← hc, ← hb]; omega), if_pos (by omega), if_pos (by omega), if_pos (by omega)]
      rw [crucibleref1_split.loop s b hs d k (i + 1) (i + 1) _ (Nat.le_refl _) (by omega) (by omega) (by omega) (by simp; omega)]
      have : s.extract (Int.toNat (fr : Int)) (Int.toNat (i : Int)) = Cru.mkb ((s.data.toList.take i).drop fr) := Cru.ba_ext (by rw [extract_list]; simp)
      rw [this, ed]
      have e2 : (s.data.toList.take (i + 1)).drop (i + 1) = [] := List.drop_eq_nil_of_le (by rw [List.length_take]; omega)
      rw [e2, Cru.spl_hit hc]
      cases hq : Cru.spl b (s.data.toList.drop (i + 1)) with
      | nil => exact absurd hq (Cru.spl_ne _ _)
      | cons p ps => simp [glue]
    · rw [if_neg (by intro h; apply hc; apply UInt8.toNat_inj.mp; omega)]
      rw [crucibleref1_split.loop s b hs d k (i + 1) fr _ (by omega) (by omega) (by omega) (by omega) (by omega)]
      rw [ed]
      have e2 : (s.data.toList.take (i + 1)).drop fr = (s.data.toList.take i).drop fr ++ [s.data.toList[i]] := by
        rw [List.take_succ_eq_append_getElem hl', List.drop_append_of_le_length (by rw [List.length_take]; omega)]
      rw [e2]
      cases hq : Cru.spl b (s.data.toList.drop (i + 1)) with
      | nil => exact absurd hq (Cru.spl_ne _ _)
      | cons p ps => rw [Cru.spl_miss hc hq]; simp [glue]
theorem crucibleref1_split.tells (s : ByteArray) (b : UInt8) (hs : s.size ≤ 8796093022000) (k : Nat) (hk : s.size + 1 < k) : crucibleref1_split.f k s (b.toNat : Int) = some (Cru.pieces b s) := by
  unfold crucibleref1_split.f Cru.pieces
  have := crucibleref1_split.loop s b hs s.size k 0 0 [] (Nat.le_refl _) (by omega) (by omega) hk (by simp; omega)
  rw [show ((0 : Nat) : Int) = 0 from rfl] at this
  rw [this, List.drop_zero]
  cases hq : Cru.spl b s.data.toList with
  | nil => exact absurd hq (Cru.spl_ne _ _)
  | cons p ps => simp [glue, hq]

end Go.Proofs.YtnlipeiamnknbaaDoor.A
end
