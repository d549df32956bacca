/- What the proof of NameTurns needs of: Shl, Ht0, Pxf205, Ht2, Pxf250, Hu0. -/
import Derived.Shelf.Strings.Builder1
import Derived.Shelf.Strings.Builder2
import Derived.Shelf.Strings.OnBuilder
import Derived.Shelf.Small.Bits
import Derived.Shelf.Small.Strs
import Derived.Shelf.Strings.BuilderF
import Derived.Shelf.Strings.BuilderK
import Derived.Shelf.Utf8.AppendRunePlain
import Derived.Shelf.Strconv.Itoa0
import Derived.Shelf.Strconv.Itoa1
import Derived.Shelf.LaysM
import Derived.Shelf.Strconv.Itoa2
import Derived.Shelf.Strconv.Itoa3
import Derived.Shelf.Strings.Search1
import Derived.Shelf.Strings.Search2
import Derived.Shelf.Strings.Search3
import Derived.Shelf.Strings.Cut
import Derived.Shelf.Strings.Shaped
import Derived.Shelf.Sort.Plain
import Derived.Shelf.Unicode.Decode
import Derived.Shelf.Unicode.DecodeSlow
import Derived.Shelf.Unicode.DecodeAny
import Derived.Ground.Names2Prog
import Derived.Shelf.Slices.ReverseS
import Derived.Shelf.Slices.Cells
import Derived.Shelf.Slices.In.SortNone
import Derived.Test.YtkioddjjfifadaaGreatDoorProg
import Derived.Lib.AppendIntMem
import Derived.Lib.ValidAsc
import Derived.Lib.EndianBits
import Derived.Laws.BitsAllLaws
import Derived.Shelf.Unicode.ValidAny
import Derived.Test.YtkioddjjfifadaaGreatDoorNt2
namespace Go.Proofs
open Go.Shelf
def Tryz.lays169_ren : Go.Shelf.Ren := ⟨fun | 169 => 94 | n => n, fun | 70 => 155 | 9 => 9 | 0 => 0 | 72 => 157 | 37 => 22 | 127 => 252 | 3 => 3 | 5 => 5 | n => n, fun | n => n⟩
theorem Tryz.lays169 : Go.Proofs.Lays.n169 Tryz.prog Tryz.lays169_ren := {
  mixed := by kernel_rfl
  f169 := Tryz.func94.trans (congrArg some (by kernel_rfl))
  t0 := Tryz.underlying0
  a0 := Tryz.isAgg0
  z0 := Tryz.sizeOf0
  v0 := Tryz.zeroValue0
  t3 := Tryz.underlying3
  a3 := Tryz.isAgg3
  z3 := Tryz.sizeOf3
  v3 := Tryz.zeroValue3
  t9 := Tryz.underlying9
  a9 := Tryz.isAgg9
  z9 := Tryz.sizeOf9
  v9 := Tryz.zeroValue9
  t37 := Tryz.underlying22
  a37 := Tryz.isAgg22
  z37 := Tryz.sizeOf22
  v37 := Tryz.zeroValue22
  t70 := Tryz.underlying155
  a70 := Tryz.isAgg155
  z70 := Tryz.sizeOf155
  v70 := Tryz.zeroValue155
  t72 := Tryz.underlying157
  a72 := Tryz.isAgg157
  z72 := Tryz.sizeOf157
  v72 := Tryz.zeroValue157
  t127 := Tryz.underlying252
  a127 := Tryz.isAgg252
  z127 := Tryz.sizeOf252
  v127 := Tryz.zeroValue252 }
theorem Tryz.Builder_Extra_169 : Builder.Extra Tryz.prog Tryz.lays169_ren := {
  sizeBuilder := by kernel_rfl
  liesBuilder := by kernel_rfl
  t5 := Tryz.underlying5
  a5 := Tryz.isAgg5
  z5 := Tryz.sizeOf5
  v5 := Tryz.zeroValue5
  infoByte := by kernel_rfl
  cellsByte := by kernel_rfl
  sizeByte := by kernel_rfl
  neB5 := by decide }
open Go.RowKit in
theorem Tryz.Builder_String_any (B b : Nat) (l : List UInt8) (w : World) (h : Lib.IsBuilder 157 5 B b (Lib.byteCells l) w) (hBw : B ≤ w.heap.size) :
    Calls Tryz.prog 94 #[.pointer (some ⟨b, 0, none⟩)] w fun e w' => e = .returned (.string ⟨l.toArray⟩) ∧ Below B w w' := Any.Builder_String_any Tryz.lays169 Tryz.Builder_Extra_169 B b l w h hBw
def Tryz.lays156_ren : Go.Shelf.Ren := ⟨fun | 156 => 88 | 165 => 155 | 166 => 92 | 169 => 94 | 240 => 158 | 241 => 207 | 276 => 210 | 277 => 252 | n => n, fun | 31 => 102 | 9 => 9 | 3 => 3 | 4 => 4 | 0 => 0 | 20 => 20 | 72 => 157 | 76 => 158 | 70 => 155 | 37 => 22 | 75 => 132 | 127 => 252 | 164 => 286 | 5 => 5 | 80 => 161 | n => n, fun | n => n⟩
theorem Tryz.lays156 : Go.Proofs.Lays.n156 Tryz.prog Tryz.lays156_ren := {
  mixed := by kernel_rfl
  f156 := Tryz.func88.trans (congrArg some (by kernel_rfl))
  f165 := Tryz.func155.trans (congrArg some (by kernel_rfl))
  f166 := Tryz.func92.trans (congrArg some (by kernel_rfl))
  f169 := Tryz.func94.trans (congrArg some (by kernel_rfl))
  f240 := Tryz.func158.trans (congrArg some (by kernel_rfl))
  f241 := Tryz.func207.trans (congrArg some (by kernel_rfl))
  f276 := Tryz.func210.trans (congrArg some (by kernel_rfl))
  f277 := Tryz.func252.trans (congrArg some (by kernel_rfl))
  t0 := Tryz.underlying0
  a0 := Tryz.isAgg0
  z0 := Tryz.sizeOf0
  v0 := Tryz.zeroValue0
  t3 := Tryz.underlying3
  a3 := Tryz.isAgg3
  z3 := Tryz.sizeOf3
  v3 := Tryz.zeroValue3
  t4 := Tryz.underlying4
  a4 := Tryz.isAgg4
  z4 := Tryz.sizeOf4
  v4 := Tryz.zeroValue4
  t9 := Tryz.underlying9
  a9 := Tryz.isAgg9
  z9 := Tryz.sizeOf9
  v9 := Tryz.zeroValue9
  t20 := Tryz.underlying20
  a20 := Tryz.isAgg20
  z20 := Tryz.sizeOf20
  v20 := Tryz.zeroValue20
  t31 := Tryz.underlying102
  a31 := Tryz.isAgg102
  z31 := Tryz.sizeOf102
  v31 := Tryz.zeroValue102
  t37 := Tryz.underlying22
  a37 := Tryz.isAgg22
  z37 := Tryz.sizeOf22
  v37 := Tryz.zeroValue22
  t70 := Tryz.underlying155
  a70 := Tryz.isAgg155
  z70 := Tryz.sizeOf155
  v70 := Tryz.zeroValue155
  t72 := Tryz.underlying157
  a72 := Tryz.isAgg157
  z72 := Tryz.sizeOf157
  v72 := Tryz.zeroValue157
  t75 := Tryz.underlying132
  a75 := Tryz.isAgg132
  z75 := Tryz.sizeOf132
  v75 := Tryz.zeroValue132
  t76 := Tryz.underlying158
  a76 := Tryz.isAgg158
  z76 := Tryz.sizeOf158
  v76 := Tryz.zeroValue158
  t127 := Tryz.underlying252
  a127 := Tryz.isAgg252
  z127 := Tryz.sizeOf252
  v127 := Tryz.zeroValue252
  t164 := Tryz.underlying286
  a164 := Tryz.isAgg286
  z164 := Tryz.sizeOf286
  v164 := Tryz.zeroValue286 }
theorem Tryz.Builder_Extra_156 : Builder.Extra Tryz.prog Tryz.lays156_ren := {
  sizeBuilder := by kernel_rfl
  liesBuilder := by kernel_rfl
  t5 := Tryz.underlying5
  a5 := Tryz.isAgg5
  z5 := Tryz.sizeOf5
  v5 := Tryz.zeroValue5
  infoByte := by kernel_rfl
  cellsByte := by kernel_rfl
  sizeByte := by kernel_rfl
  neB5 := by decide }
open Go.RowKit in
theorem Tryz.strings_Join_none (a : Option Addr) (c : Nat) (sep : ByteArray) (w : World) :
    Calls Tryz.prog 88 #[.slice a 0 c, .string sep] w fun e w' => e = .returned (.string ⟨#[]⟩) ∧ w' = w := Any.strings_Join_none Tryz.lays156 Tryz.Builder_Extra_156 a c sep w
open Go.RowKit in
theorem Tryz.strings_Join (bk o c : Nat) (xs : List ByteArray) (sep : ByteArray) (w : World) (hcells : ∀ (j : Nat) x, xs[j]? = some x → w.cell? ⟨bk, o + j, none⟩ = some (.string x)) (hbk : bk < w.heap.size) (hN : xs.length ≤ 140737488355328) (hcap : xs.length ≤ c) (hlen : (Lib.join (xs.map (·.data.toList)) sep.data.toList).length ≤ 140737488355328) :
    Calls Tryz.prog 88 #[.slice (some ⟨bk, o, none⟩) xs.length c, .string sep] w fun e w' => e = .returned (.string ⟨(Lib.join (xs.map (·.data.toList)) sep.data.toList).toArray⟩) ∧ Below w.heap.size w w' := Any.strings_Join Tryz.lays156 Tryz.Builder_Extra_156 bk o c xs sep w hcells hbk hN hcap hlen
def Tryz.lays137_ren : Go.Shelf.Ren := ⟨fun | 137 => 154 | 217 => 206 | 266 => 251 | n => n, fun | 9 => 9 | 5 => 5 | 3 => 3 | n => n, fun | n => n⟩
theorem Tryz.lays137 : Go.Proofs.Lays.n137 Tryz.prog Tryz.lays137_ren := {
  mixed := by kernel_rfl
  f137 := Tryz.func154.trans (congrArg some (by kernel_rfl))
  f217 := Tryz.func206.trans (congrArg some (by kernel_rfl))
  f266 := Tryz.func251.trans (congrArg some (by kernel_rfl))
  t3 := Tryz.underlying3
  a3 := Tryz.isAgg3
  z3 := Tryz.sizeOf3
  v3 := Tryz.zeroValue3
  t5 := Tryz.underlying5
  a5 := Tryz.isAgg5
  z5 := Tryz.sizeOf5
  v5 := Tryz.zeroValue5
  t9 := Tryz.underlying9
  a9 := Tryz.isAgg9
  z9 := Tryz.sizeOf9
  v9 := Tryz.zeroValue9 }
open Go.RowKit in
theorem Tryz.strings_IndexByte (s : ByteArray) (c : Int) (w : World) :
    Calls Tryz.prog 154 #[.string s, .int .u8 c] w fun e w' => e = .returned (.int .i64 (Lib.indexByte s.data.toList c.toNat.toUInt8)) ∧ w' = w := Any.strings_IndexByte Tryz.lays137 s c w
def Tryz.lays242_ren : Go.Shelf.Ren := ⟨fun | 242 => 249 | 278 => 285 | n => n, fun | 37 => 22 | 21 => 21 | 51 => 323 | 4 => 4 | 5 => 5 | 46 => 245 | n => n, fun | n => n⟩
theorem Tryz.lays242 : Go.Proofs.Lays.n242 Tryz.prog Tryz.lays242_ren := {
  mixed := by kernel_rfl
  f242 := Tryz.func249.trans (congrArg some (by kernel_rfl))
  f278 := Tryz.func285.trans (congrArg some (by kernel_rfl))
  t4 := Tryz.underlying4
  a4 := Tryz.isAgg4
  z4 := Tryz.sizeOf4
  v4 := Tryz.zeroValue4
  t5 := Tryz.underlying5
  a5 := Tryz.isAgg5
  z5 := Tryz.sizeOf5
  v5 := Tryz.zeroValue5
  t21 := Tryz.underlying21
  a21 := Tryz.isAgg21
  z21 := Tryz.sizeOf21
  v21 := Tryz.zeroValue21
  t37 := Tryz.underlying22
  a37 := Tryz.isAgg22
  z37 := Tryz.sizeOf22
  v37 := Tryz.zeroValue22
  t46 := Tryz.underlying245
  a46 := Tryz.isAgg245
  z46 := Tryz.sizeOf245
  v46 := Tryz.zeroValue245
  t51 := Tryz.underlying323
  a51 := Tryz.isAgg323
  z51 := Tryz.sizeOf323
  v51 := Tryz.zeroValue323 }
open Go.RowKit in
theorem Tryz.utf8_AppendRune_plain (B : Nat) (v : Value) (n : Nat) (xs : List Value) (r : Int) (hr0 : -2147483648 ≤ r) (hr1 : r ≤ 2147483647) (w : World) (hown : w.ownsRow B 5 1 v n xs) (hlen : n + 4 ≤ 140737488355328) (hBw : B ≤ w.heap.size) :
    Calls Tryz.prog 249 #[v, .int .i32 r] w fun e w' => ∃ v', e = .returned v' ∧ w'.ownsRow B 5 1 v' (n + (Lib.runeCells r).length) (xs ++ Lib.runeCells r) ∧ ∃ o, (w.alloc o).grownBy w' v.ownBlock := Any.utf8_AppendRune_plain Tryz.lays242 (by kernel_rfl) B v n xs r hr0 hr1 w hown hlen hBw
def Tryz.laysM171_ren : Go.Shelf.Ren := ⟨fun | 171 => 160 | 243 => 212 | 246 => 255 | 283 => 287 | 284 => 288 | 285 => 289 | 286 => 290 | 129 => 248 | 317 => 304 | 318 => 305 | 319 => 306 | 320 => 307 | 337 => 316 | 338 => 317 | n => n, fun | 3 => 3 | 9 => 9 | 2 => 2 | 4 => 4 | 171 => 404 | 0 => 0 | 53 => 278 | 37 => 22 | 5 => 5 | 173 => 406 | 212 => 419 | 51 => 323 | 20 => 20 | 213 => 420 | 46 => 245 | 232 => 427 | 233 => 428 | n => n, fun | 17 => 4 | 18 => 5 | 19 => 6 | n => n⟩
theorem Tryz.laysM171 : Go.Proofs.LaysM.n171 Tryz.prog Tryz.laysM171_ren := {
  mixed := by kernel_rfl
  f129 := Tryz.func248.trans (congrArg some (by kernel_rfl))
  f171 := Tryz.func160.trans (congrArg some (by kernel_rfl))
  f243 := Tryz.func212.trans (congrArg some (by kernel_rfl))
  f246 := Tryz.func255.trans (congrArg some (by kernel_rfl))
  f283 := Tryz.func287.trans (congrArg some (by kernel_rfl))
  f284 := Tryz.func288.trans (congrArg some (by kernel_rfl))
  f285 := Tryz.func289.trans (congrArg some (by kernel_rfl))
  f286 := Tryz.func290.trans (congrArg some (by kernel_rfl))
  f317 := Tryz.func304.trans (congrArg some (by kernel_rfl))
  f318 := Tryz.func305.trans (congrArg some (by kernel_rfl))
  f319 := Tryz.func306.trans (congrArg some (by kernel_rfl))
  f320 := Tryz.func307.trans (congrArg some (by kernel_rfl))
  f337 := Tryz.func316.trans (congrArg some (by kernel_rfl))
  f338 := Tryz.func317.trans (congrArg some (by kernel_rfl))
  t0 := Tryz.underlying0
  a0 := Tryz.isAgg0
  z0 := Tryz.sizeOf0
  v0 := Tryz.zeroValue0
  t2 := Tryz.underlying2
  a2 := Tryz.isAgg2
  z2 := Tryz.sizeOf2
  v2 := Tryz.zeroValue2
  t3 := Tryz.underlying3
  a3 := Tryz.isAgg3
  z3 := Tryz.sizeOf3
  v3 := Tryz.zeroValue3
  t4 := Tryz.underlying4
  a4 := Tryz.isAgg4
  z4 := Tryz.sizeOf4
  v4 := Tryz.zeroValue4
  t5 := Tryz.underlying5
  a5 := Tryz.isAgg5
  z5 := Tryz.sizeOf5
  v5 := Tryz.zeroValue5
  t9 := Tryz.underlying9
  a9 := Tryz.isAgg9
  z9 := Tryz.sizeOf9
  v9 := Tryz.zeroValue9
  t20 := Tryz.underlying20
  a20 := Tryz.isAgg20
  z20 := Tryz.sizeOf20
  v20 := Tryz.zeroValue20
  t37 := Tryz.underlying22
  a37 := Tryz.isAgg22
  z37 := Tryz.sizeOf22
  v37 := Tryz.zeroValue22
  t46 := Tryz.underlying245
  a46 := Tryz.isAgg245
  z46 := Tryz.sizeOf245
  v46 := Tryz.zeroValue245
  t51 := Tryz.underlying323
  a51 := Tryz.isAgg323
  z51 := Tryz.sizeOf323
  v51 := Tryz.zeroValue323
  t53 := Tryz.underlying278
  a53 := Tryz.isAgg278
  z53 := Tryz.sizeOf278
  v53 := Tryz.zeroValue278
  t171 := Tryz.underlying404
  a171 := Tryz.isAgg404
  z171 := Tryz.sizeOf404
  v171 := Tryz.zeroValue404
  t173 := Tryz.underlying406
  a173 := Tryz.isAgg406
  z173 := Tryz.sizeOf406
  v173 := Tryz.zeroValue406
  t212 := Tryz.underlying419
  a212 := Tryz.isAgg419
  z212 := Tryz.sizeOf419
  v212 := Tryz.zeroValue419
  t213 := Tryz.underlying420
  a213 := Tryz.isAgg420
  z213 := Tryz.sizeOf420
  t232 := Tryz.underlying427
  a232 := Tryz.isAgg427
  z232 := Tryz.sizeOf427
  v232 := Tryz.zeroValue427
  t233 := Tryz.underlying428
  a233 := Tryz.isAgg428
  z233 := Tryz.sizeOf428
  v233 := Tryz.zeroValue428
  g17 := by kernel_rfl
  g18 := by kernel_rfl
  g19 := by kernel_rfl
  i0 := by kernel_rfl
  i2 := by kernel_rfl
  i3 := by kernel_rfl
  i4 := by kernel_rfl
  i5 := by kernel_rfl
  i9 := by kernel_rfl
  i20 := by kernel_rfl
  i37 := by kernel_rfl
  i46 := by kernel_rfl
  i51 := by kernel_rfl
  i53 := by kernel_rfl
  i171 := by kernel_rfl
  i173 := by kernel_rfl
  i212 := by kernel_rfl
  i232 := by kernel_rfl
  i233 := by kernel_rfl
  m17 := by kernel_rfl
  m18 := by kernel_rfl
  m19 := by kernel_rfl }
open Go.RowKit Go.Sort Go.Lib in
theorem Tryz.strconv_Itoa (n : Int) (h0 : -9223372036854775808 ≤ n) (h1 : n ≤ 9223372036854775807) (w : World) (htab : Lib.TabIs Tryz.prog w "internal/strconv.uint64pow10" .u64 Lib.pow10Tab) :
    Calls Tryz.prog 160 #[.int .i64 n] w fun e w' => e = .returned (.string ⟨(Lib.itoa n).toArray⟩) ∧ ∃ k os, w' = grow (w.drewN k) os := Any.strconv_Itoa Tryz.laysM171 n h0 h1 w htab
def Tryz.lays190_ren : Go.Shelf.Ren := ⟨fun | 190 => 161 | 125 => 201 | 258 => 213 | 128 => 247 | 129 => 248 | 302 => 256 | 303 => 257 | 304 => 258 | 305 => 259 | 306 => 260 | 307 => 261 | 308 => 262 | 309 => 263 | 310 => 264 | 333 => 291 | 329 => 281 | 330 => 282 | 334 => 292 | 335 => 293 | 336 => 294 | 344 => 308 | n => n, fun | 31 => 102 | 9 => 9 | 3 => 3 | 46 => 245 | 0 => 0 | 51 => 323 | 53 => 278 | 4 => 4 | 183 => 355 | 182 => 354 | 131 => 359 | 5 => 5 | 218 => 398 | 222 => 402 | 228 => 416 | 229 => 195 | n => n, fun | n => n⟩
theorem Tryz.lays190 : Go.Proofs.Lays.n190 Tryz.prog Tryz.lays190_ren := {
  mixed := by kernel_rfl
  f125 := Tryz.func201.trans (congrArg some (by kernel_rfl))
  f128 := Tryz.func247.trans (congrArg some (by kernel_rfl))
  f129 := Tryz.func248.trans (congrArg some (by kernel_rfl))
  f190 := Tryz.func161.trans (congrArg some (by kernel_rfl))
  f258 := Tryz.func213.trans (congrArg some (by kernel_rfl))
  f302 := Tryz.func256.trans (congrArg some (by kernel_rfl))
  f303 := Tryz.func257.trans (congrArg some (by kernel_rfl))
  f304 := Tryz.func258.trans (congrArg some (by kernel_rfl))
  f305 := Tryz.func259.trans (congrArg some (by kernel_rfl))
  f306 := Tryz.func260.trans (congrArg some (by kernel_rfl))
  f307 := Tryz.func261.trans (congrArg some (by kernel_rfl))
  f308 := Tryz.func262.trans (congrArg some (by kernel_rfl))
  f309 := Tryz.func263.trans (congrArg some (by kernel_rfl))
  f310 := Tryz.func264.trans (congrArg some (by kernel_rfl))
  f329 := Tryz.func281.trans (congrArg some (by kernel_rfl))
  f330 := Tryz.func282.trans (congrArg some (by kernel_rfl))
  f333 := Tryz.func291.trans (congrArg some (by kernel_rfl))
  f334 := Tryz.func292.trans (congrArg some (by kernel_rfl))
  f335 := Tryz.func293.trans (congrArg some (by kernel_rfl))
  f336 := Tryz.func294.trans (congrArg some (by kernel_rfl))
  f344 := Tryz.func308.trans (congrArg some (by kernel_rfl))
  t0 := Tryz.underlying0
  a0 := Tryz.isAgg0
  z0 := Tryz.sizeOf0
  v0 := Tryz.zeroValue0
  t3 := Tryz.underlying3
  a3 := Tryz.isAgg3
  z3 := Tryz.sizeOf3
  v3 := Tryz.zeroValue3
  t4 := Tryz.underlying4
  a4 := Tryz.isAgg4
  z4 := Tryz.sizeOf4
  v4 := Tryz.zeroValue4
  t5 := Tryz.underlying5
  a5 := Tryz.isAgg5
  z5 := Tryz.sizeOf5
  v5 := Tryz.zeroValue5
  t9 := Tryz.underlying9
  a9 := Tryz.isAgg9
  z9 := Tryz.sizeOf9
  v9 := Tryz.zeroValue9
  t31 := Tryz.underlying102
  a31 := Tryz.isAgg102
  z31 := Tryz.sizeOf102
  v31 := Tryz.zeroValue102
  t46 := Tryz.underlying245
  a46 := Tryz.isAgg245
  z46 := Tryz.sizeOf245
  v46 := Tryz.zeroValue245
  t51 := Tryz.underlying323
  a51 := Tryz.isAgg323
  z51 := Tryz.sizeOf323
  v51 := Tryz.zeroValue323
  t53 := Tryz.underlying278
  a53 := Tryz.isAgg278
  z53 := Tryz.sizeOf278
  v53 := Tryz.zeroValue278
  t131 := Tryz.underlying359
  a131 := Tryz.isAgg359
  z131 := Tryz.sizeOf359
  v131 := Tryz.zeroValue359
  t182 := Tryz.underlying354
  a182 := Tryz.isAgg354
  z182 := Tryz.sizeOf354
  v182 := Tryz.zeroValue354
  t183 := Tryz.underlying355
  a183 := Tryz.isAgg355
  z183 := Tryz.sizeOf355
  v183 := Tryz.zeroValue355
  t218 := Tryz.underlying398
  a218 := Tryz.isAgg398
  z218 := Tryz.sizeOf398
  v218 := Tryz.zeroValue398
  t222 := Tryz.underlying402
  a222 := Tryz.isAgg402
  z222 := Tryz.sizeOf402
  v222 := Tryz.zeroValue402
  t228 := Tryz.underlying416
  a228 := Tryz.isAgg416
  z228 := Tryz.sizeOf416
  v228 := Tryz.zeroValue416
  t229 := Tryz.underlying195
  a229 := Tryz.isAgg195
  z229 := Tryz.sizeOf195
  v229 := Tryz.zeroValue195 }
open Go.Sort Go.RowKit in
theorem Tryz.slices_Sort_string (blk off cap : Nat) (ss : List (List UInt8)) (w : World) (hH : Holds encStr w blk off ss.toArray) (hblk : blk < w.heap.size) (hsz : ss.length < 4611686018427387904) :
    Calls Tryz.prog 161 #[.slice (some ⟨blk, off, none⟩) ss.length cap] w fun e w' =>
      e = .returned (.tuple #[]) ∧ ∃ n os, w' = grow (putRow encStr (Sort.ahead w n) blk off (ss.mergeSort fun x y => decide (x ≤ y)).toArray) os := Any.slices_Sort_string Tryz.lays190 blk off cap ss w hH hblk hsz
def Tryz.lays197_ren : Go.Shelf.Ren := ⟨fun | 197 => 254 | 260 => 286 | n => n, fun | 9 => 9 | 21 => 21 | 3 => 3 | 4 => 4 | 5 => 5 | 105 => 370 | 119 => 365 | 0 => 0 | 46 => 245 | 139 => 368 | 138 => 367 | n => n, fun | 3 => 2 | 4 => 3 | n => n⟩
theorem Tryz.lays197 : Go.Proofs.Lays.n197 Tryz.prog Tryz.lays197_ren := {
  mixed := by kernel_rfl
  f197 := Tryz.func254.trans (congrArg some (by kernel_rfl))
  f260 := Tryz.func286.trans (congrArg some (by kernel_rfl))
  t0 := Tryz.underlying0
  a0 := Tryz.isAgg0
  z0 := Tryz.sizeOf0
  v0 := Tryz.zeroValue0
  t3 := Tryz.underlying3
  a3 := Tryz.isAgg3
  z3 := Tryz.sizeOf3
  v3 := Tryz.zeroValue3
  t4 := Tryz.underlying4
  a4 := Tryz.isAgg4
  z4 := Tryz.sizeOf4
  v4 := Tryz.zeroValue4
  t5 := Tryz.underlying5
  a5 := Tryz.isAgg5
  z5 := Tryz.sizeOf5
  v5 := Tryz.zeroValue5
  t9 := Tryz.underlying9
  a9 := Tryz.isAgg9
  z9 := Tryz.sizeOf9
  v9 := Tryz.zeroValue9
  t21 := Tryz.underlying21
  a21 := Tryz.isAgg21
  z21 := Tryz.sizeOf21
  v21 := Tryz.zeroValue21
  t46 := Tryz.underlying245
  a46 := Tryz.isAgg245
  z46 := Tryz.sizeOf245
  v46 := Tryz.zeroValue245
  t105 := Tryz.underlying370
  a105 := Tryz.isAgg370
  z105 := Tryz.sizeOf370
  v105 := Tryz.zeroValue370
  t119 := Tryz.underlying365
  a119 := Tryz.isAgg365
  z119 := Tryz.sizeOf365
  t138 := Tryz.underlying367
  a138 := Tryz.isAgg367
  z138 := Tryz.sizeOf367
  v138 := Tryz.zeroValue367
  t139 := Tryz.underlying368
  a139 := Tryz.isAgg368
  z139 := Tryz.sizeOf368
  v139 := Tryz.zeroValue368
  g3 := by kernel_rfl
  g4 := by kernel_rfl }
open Go.RowKit Go.Lib in
theorem Tryz.utf8_DecodeRuneInString (s : ByteArray) (w : World) (hT : Lib.Utf8Tabs 2 3 w) :
    Calls Tryz.prog 254 #[.string s] w fun e w' => e = .returned (.tuple #[.int .i32 (Lib.decodeGo s).1, .int .i64 (Lib.decodeGo s).2]) ∧ Below w.heap.size w w' := Any.utf8_DecodeRuneInString Tryz.lays197 s w hT
open Go.RowKit Go.Sort in
theorem Tryz.slices_Sort_string_none (p : Option Addr) (cap : Nat) (w : World) :
    Calls Tryz.prog 161 #[.slice p 0 cap] w fun e w' => e = .returned (.tuple #[]) ∧ w' = w := Any.slices_Sort_string_none Tryz.lays190 p cap w
end Go.Proofs
namespace Go.Proofs.YtkioddjjfifadaaGreatDoor.P
open Go.RowKit Go.Proofs.YtkioddjjfifadaaGreatDoorW.PrintWords Go.Proofs.YtkioddjjfifadaaGreatDoorW.PrintLast Go.Proofs.YtkioddjjfifadaaGreatDoorW.PrintMore
structure Tb (w : World) : Prop where
  pow : Lib.TabIs Tryz.prog w "internal/strconv.uint64pow10" .u64 Lib.pow10Tab
  utf : Lib.Utf8Tabs 2 3 w
  big : 7 ≤ w.heap.size
theorem Tb.below {w w1 : World} (h : Tb w) (hb : Below w.heap.size w w1) : Tb w1 := by
  refine ⟨?_, Go.Proofs.Utf8Tabs_below h.utf hb, Nat.le_trans h.big hb.size⟩
  have h0 := h.pow
  unfold Lib.TabIs World.var? at h0 ⊢
  rw [show Tryz.prog.globalNamed "internal/strconv.uint64pow10" = some 4 by kernel_rfl, Option.bind_some] at h0 ⊢
  rw [hb.block 4 (by have := h.big; omega)]
  exact h0
def strings_IndexByte.f (a0 : ByteArray) (a1 : Int) : Option Int := some (Lib.indexByte a0.data.toList a1.toNat.toUInt8)
theorem strings_IndexByte.calls (a0 : ByteArray) (a1 : Int) (r : Int) (w : World) (h : strings_IndexByte.f a0 a1 = some r) :
    Calls Tryz.prog 154 #[.string a0, .int .u8 a1] w fun e w' => e = .returned (.int .i64 r) ∧ Below w.heap.size w w' := by
  obtain rfl := Option.some.inj h
  refine (Tryz.strings_IndexByte a0 a1 w).mono ?_
  rintro e w' ⟨rfl, rfl⟩
  exact ⟨rfl, Below.refl _ _⟩
def strconv_Itoa.f (a0 : Int) : Option ByteArray := if -9223372036854775808 ≤ a0 ∧ a0 ≤ 9223372036854775807 then some ⟨(Lib.itoa a0).toArray⟩ else none
theorem strconv_Itoa.calls (a0 : Int) (r : ByteArray) (w : World) (h : strconv_Itoa.f a0 = some r) (hH : Tb w) :
    Calls Tryz.prog 160 #[.int .i64 a0] w fun e w' => e = .returned (.string r) ∧ Below w.heap.size w w' := by
  unfold strconv_Itoa.f at h
  split at h
  rotate_left
  · cases h
  rename_i hr
  obtain rfl := Option.some.inj h
  refine (Tryz.strconv_Itoa a0 hr.1 hr.2 w hH.pow).mono ?_
  rintro e w' ⟨rfl, k, os, rfl⟩
  exact ⟨rfl, Lib.below_grow _ w (Nat.le_refl _) k os⟩
end Go.Proofs.YtkioddjjfifadaaGreatDoor.P
namespace Go.Proofs.YtkioddjjfifadaaGreatDoor.P
open Go.RowKit Go.Proofs.YtkioddjjfifadaaGreatDoorW.PrintWords Go.Proofs.YtkioddjjfifadaaGreatDoorW.PrintLast Go.Proofs.YtkioddjjfifadaaGreatDoorW.PrintMore
attribute [local go_sem] max2_int min2_int max_two min_two max_three min_three max_four min_four
set_option linter.unusedVariables false
set_option linter.unusedSimpArgs false
def text_fits.f (a0 : Int) (a1 : Int) : Option (Bool) := if a0 = 18 then (if a1 = 32 then (some true) else (if a1 ≥ 48 then (some (decide (a1 ≤ 57))) else (some false))) else (if a0 = 19 then (if (Go.bits .or .u8 a1 32) ≥ 97 then (if (Go.bits .or .u8 a1 32) ≤ 122 then (some true) else (if a1 ≥ 48 then (if a1 ≤ 57 then (some true) else (if a1 = 0 then (some false) else ((strings_IndexByte.f (⟨#[32, 39, 40, 41, 43, 44, 45, 46, 47, 58, 61, 63]⟩ : ByteArray) a1).bind fun t602 => (some (decide (t602 ≥ 0)))))) else (if a1 = 0 then (some false) else ((strings_IndexByte.f (⟨#[32, 39, 40, 41, 43, 44, 45, 46, 47, 58, 61, 63]⟩ : ByteArray) a1).bind fun t603 => (some (decide (t603 ≥ 0))))))) else (if a1 ≥ 48 then (if a1 ≤ 57 then (some true) else (if a1 = 0 then (some false) else ((strings_IndexByte.f (⟨#[32, 39, 40, 41, 43, 44, 45, 46, 47, 58, 61, 63]⟩ : ByteArray) a1).bind fun t604 => (some (decide (t604 ≥ 0)))))) else (if a1 = 0 then (some false) else ((strings_IndexByte.f (⟨#[32, 39, 40, 41, 43, 44, 45, 46, 47, 58, 61, 63]⟩ : ByteArray) a1).bind fun t605 => (some (decide (t605 ≥ 0))))))) else (if a0 = 22 then (some (decide (a1 < 128))) else (if a1 ≥ 32 then (some (decide (a1 < 127))) else (some false))))
set_option maxHeartbeats 8000000 in
set_option maxRecDepth 100000 in
theorem text_fits.calls (a0 : Int) (a1 : Int) (r : Bool) (w : World) (h : text_fits.f a0 a1 = some r) :
    Calls Tryz.prog 205 #[.int .i64 a0, .int .u8 a1] w fun e w' => e = .returned (.bool r) ∧ Below w.heap.size w w' := by
  have HB := Aside0.mk (Below.refl w.heap.size w)
  have H : (if a0 = 18 then (if a1 = 32 then (some true) else (if a1 ≥ 48 then (some (decide (a1 ≤ 57))) else (some false))) else (if a0 = 19 then (if (Go.bits .or .u8 a1 32) ≥ 97 then (if (Go.bits .or .u8 a1 32) ≤ 122 then (some true) else (if a1 ≥ 48 then (if a1 ≤ 57 then (some true) else (if a1 = 0 then (some false) else ((strings_IndexByte.f (⟨#[32, 39, 40, 41, 43, 44, 45, 46, 47, 58, 61, 63]⟩ : ByteArray) a1).bind fun t602 => (some (decide (t602 ≥ 0)))))) else (if a1 = 0 then (some false) else ((strings_IndexByte.f (⟨#[32, 39, 40, 41, 43, 44, 45, 46, 47, 58, 61, 63]⟩ : ByteArray) a1).bind fun t603 => (some (decide (t603 ≥ 0))))))) else (if a1 ≥ 48 then (if a1 ≤ 57 then (some true) else (if a1 = 0 then (some false) else ((strings_IndexByte.f (⟨#[32, 39, 40, 41, 43, 44, 45, 46, 47, 58, 61, 63]⟩ : ByteArray) a1).bind fun t604 => (some (decide (t604 ≥ 0)))))) else (if a1 = 0 then (some false) else ((strings_IndexByte.f (⟨#[32, 39, 40, 41, 43, 44, 45, 46, 47, 58, 61, 63]⟩ : ByteArray) a1).bind fun t605 => (some (decide (t605 ≥ 0))))))) else (if a0 = 22 then (some (decide (a1 < 128))) else (if a1 ≥ 32 then (some (decide (a1 < 127))) else (some false))))) = some r := h
  clear h
  by_cases c3 : a0 = 18
  · rw [if_pos c3] at H
    have c3b0 : (a0 == 18) = true := beq_iff_eq.mpr c3
    have c3b1 : (a0 != 18) = false := bne_eq_false_iff_eq.mpr c3
    clear c3
    by_cases c4 : a1 = 32
    · rw [if_pos c4] at H
      have c4b0 : (a1 == 32) = true := beq_iff_eq.mpr c4
      have c4b1 : (a1 != 32) = false := bne_eq_false_iff_eq.mpr c4
      clear c4
      obtain rfl := Option.some.inj H
      go_enter Tryz.func205, Tryz.ntmps205
      go_wp2
      go_ret
      exact ⟨by first | rfl | (simp [errW_none, errW_some] <;> rfl), bU HB.out⟩
    rw [if_neg c4] at H
    have c4b0 : (a1 == 32) = false := beq_eq_false_iff_ne.mpr c4
    have c4b1 : (a1 != 32) = true := bne_iff_ne.mpr c4
    by_cases c5 : a1 ≥ 48
    rotate_left
    · rw [if_neg c5] at H
      have c5b0 : decide (48 ≤ a1) = false := decide_eq_false c5
      clear c5
      obtain rfl := Option.some.inj H
      go_enter Tryz.func205, Tryz.ntmps205
      go_wp2
      go_ret
      exact ⟨by first | rfl | (simp [errW_none, errW_some] <;> rfl), bU HB.out⟩
    rw [if_pos c5] at H
    have c5b0 : decide (48 ≤ a1) = true := decide_eq_true c5
    clear c5
    obtain rfl := Option.some.inj H
    go_enter Tryz.func205, Tryz.ntmps205
    go_wp2
    go_ret
    exact ⟨by first | rfl | (simp [errW_none, errW_some] <;> rfl), bU HB.out⟩
  rw [if_neg c3] at H
  have c3b0 : (a0 == 18) = false := beq_eq_false_iff_ne.mpr c3
  have c3b1 : (a0 != 18) = true := bne_iff_ne.mpr c3
  by_cases c6 : a0 = 19
  rotate_left
  · rw [if_neg c6] at H
    have c6b0 : (a0 == 19) = false := beq_eq_false_iff_ne.mpr c6
    have c6b1 : (a0 != 19) = true := bne_iff_ne.mpr c6
    by_cases c25 : a0 = 22
    · rw [if_pos c25] at H
      have c25b0 : (a0 == 22) = true := beq_iff_eq.mpr c25
      have c25b1 : (a0 != 22) = false := bne_eq_false_iff_eq.mpr c25
      clear c25
      obtain rfl := Option.some.inj H
      go_enter Tryz.func205, Tryz.ntmps205
      go_wp2
      go_ret
      exact ⟨by first | rfl | (simp [errW_none, errW_some] <;> rfl), bU HB.out⟩
    rw [if_neg c25] at H
    have c25b0 : (a0 == 22) = false := beq_eq_false_iff_ne.mpr c25
    have c25b1 : (a0 != 22) = true := bne_iff_ne.mpr c25
    by_cases c26 : a1 ≥ 32
    rotate_left
    · rw [if_neg c26] at H
      have c26b0 : decide (32 ≤ a1) = false := decide_eq_false c26
      clear c26
      obtain rfl := Option.some.inj H
      go_enter Tryz.func205, Tryz.ntmps205
      go_wp2
      go_ret
      exact ⟨by first | rfl | (simp [errW_none, errW_some] <;> rfl), bU HB.out⟩
    rw [if_pos c26] at H
    have c26b0 : decide (32 ≤ a1) = true := decide_eq_true c26
    clear c26
    obtain rfl := Option.some.inj H
    go_enter Tryz.func205, Tryz.ntmps205
    go_wp2
    go_ret
    exact ⟨by first | rfl | (simp [errW_none, errW_some] <;> rfl), bU HB.out⟩
  rw [if_pos c6] at H
  have c6b0 : (a0 == 19) = true := beq_iff_eq.mpr c6
  have c6b1 : (a0 != 19) = false := bne_eq_false_iff_eq.mpr c6
  clear c6
  by_cases c7 : (Go.bits .or .u8 a1 32) ≥ 97
  rotate_left
  · rw [if_neg c7] at H
    have c7b0 : decide (97 ≤ (Go.bits .or .u8 a1 32)) = false := decide_eq_false c7
    clear c7
    by_cases c17 : a1 ≥ 48
    rotate_left
    · rw [if_neg c17] at H
      have c17b0 : decide (48 ≤ a1) = false := decide_eq_false c17
      clear c17
      by_cases c22 : a1 = 0
      · rw [if_pos c22] at H
        have c22b0 : (a1 == 0) = true := beq_iff_eq.mpr c22
        have c22b1 : (a1 != 0) = false := bne_eq_false_iff_eq.mpr c22
        clear c22
        obtain rfl := Option.some.inj H
        go_enter Tryz.func205, Tryz.ntmps205
        go_wp2
        go_ret
        exact ⟨by first | rfl | (simp [errW_none, errW_some] <;> rfl), bU HB.out⟩
      rw [if_neg c22] at H
      have c22b0 : (a1 == 0) = false := beq_eq_false_iff_ne.mpr c22
      have c22b1 : (a1 != 0) = true := bne_iff_ne.mpr c22
      replace H := Option.bind_eq_some_iff.mp H
      obtain ⟨t605, A230, H⟩ := H
      try dsimp only at H
      have A23 := Aside0.mk A230
      clear A230
      obtain rfl := Option.some.inj H
      go_enter Tryz.func205, Tryz.ntmps205
      go_wp2_with (first | (go_at_call 154; (with_reducible refine (strings_IndexByte.calls (⟨#[32, 39, 40, 41, 43, 44, 45, 46, 47, 58, 61, 63]⟩ : ByteArray) a1 t605 _ A23.out).mono ?_); rintro e w24 ⟨rfl, hb⟩; have n0_ := Aside0.mk (below_step (bU HB.out) hb); replace HB := n0_; clear n0_; (try clear hb); (try clear hb2); (try clear hk); (try clear hi)))
      go_ret
      exact ⟨by first | rfl | (simp [errW_none, errW_some] <;> rfl), bU HB.out⟩
    rw [if_pos c17] at H
    have c17b0 : decide (48 ≤ a1) = true := decide_eq_true c17
    clear c17
    by_cases c18 : a1 ≤ 57
    · rw [if_pos c18] at H
      have c18b0 : decide (a1 ≤ 57) = true := decide_eq_true c18
      clear c18
      obtain rfl := Option.some.inj H
      go_enter Tryz.func205, Tryz.ntmps205
      go_wp2
      go_ret
      exact ⟨by first | rfl | (simp [errW_none, errW_some] <;> rfl), bU HB.out⟩
    rw [if_neg c18] at H
    have c18b0 : decide (a1 ≤ 57) = false := decide_eq_false c18
    clear c18
    by_cases c19 : a1 = 0
    · rw [if_pos c19] at H
      have c19b0 : (a1 == 0) = true := beq_iff_eq.mpr c19
      have c19b1 : (a1 != 0) = false := bne_eq_false_iff_eq.mpr c19
      clear c19
      obtain rfl := Option.some.inj H
      go_enter Tryz.func205, Tryz.ntmps205
      go_wp2
      go_ret
      exact ⟨by first | rfl | (simp [errW_none, errW_some] <;> rfl), bU HB.out⟩
    rw [if_neg c19] at H
    have c19b0 : (a1 == 0) = false := beq_eq_false_iff_ne.mpr c19
    have c19b1 : (a1 != 0) = true := bne_iff_ne.mpr c19
    replace H := Option.bind_eq_some_iff.mp H
    obtain ⟨t604, A200, H⟩ := H
    try dsimp only at H
    have A20 := Aside0.mk A200
    clear A200
    obtain rfl := Option.some.inj H
    go_enter Tryz.func205, Tryz.ntmps205
    go_wp2_with (first | (go_at_call 154; (with_reducible refine (strings_IndexByte.calls (⟨#[32, 39, 40, 41, 43, 44, 45, 46, 47, 58, 61, 63]⟩ : ByteArray) a1 t604 _ A20.out).mono ?_); rintro e w21 ⟨rfl, hb⟩; have n0_ := Aside0.mk (below_step (bU HB.out) hb); replace HB := n0_; clear n0_; (try clear hb); (try clear hb2); (try clear hk); (try clear hi)))
    go_ret
    exact ⟨by first | rfl | (simp [errW_none, errW_some] <;> rfl), bU HB.out⟩
  rw [if_pos c7] at H
  have c7b0 : decide (97 ≤ (Go.bits .or .u8 a1 32)) = true := decide_eq_true c7
  clear c7
  by_cases c8 : (Go.bits .or .u8 a1 32) ≤ 122
  · rw [if_pos c8] at H
    have c8b0 : decide ((Go.bits .or .u8 a1 32) ≤ 122) = true := decide_eq_true c8
    clear c8
    obtain rfl := Option.some.inj H
    go_enter Tryz.func205, Tryz.ntmps205
    go_wp2
    go_ret
    exact ⟨by first | rfl | (simp [errW_none, errW_some] <;> rfl), bU HB.out⟩
  rw [if_neg c8] at H
  have c8b0 : decide ((Go.bits .or .u8 a1 32) ≤ 122) = false := decide_eq_false c8
  clear c8
  by_cases c9 : a1 ≥ 48
  rotate_left
  · rw [if_neg c9] at H
    have c9b0 : decide (48 ≤ a1) = false := decide_eq_false c9
    clear c9
    by_cases c14 : a1 = 0
    · rw [if_pos c14] at H
      have c14b0 : (a1 == 0) = true := beq_iff_eq.mpr c14
      have c14b1 : (a1 != 0) = false := bne_eq_false_iff_eq.mpr c14
      clear c14
      obtain rfl := Option.some.inj H
      go_enter Tryz.func205, Tryz.ntmps205
      go_wp2
      go_ret
      exact ⟨by first | rfl | (simp [errW_none, errW_some] <;> rfl), bU HB.out⟩
    rw [if_neg c14] at H
    have c14b0 : (a1 == 0) = false := beq_eq_false_iff_ne.mpr c14
    have c14b1 : (a1 != 0) = true := bne_iff_ne.mpr c14
    replace H := Option.bind_eq_some_iff.mp H
    obtain ⟨t603, A150, H⟩ := H
    try dsimp only at H
    have A15 := Aside0.mk A150
    clear A150
    obtain rfl := Option.some.inj H
    go_enter Tryz.func205, Tryz.ntmps205
    go_wp2_with (first | (go_at_call 154; (with_reducible refine (strings_IndexByte.calls (⟨#[32, 39, 40, 41, 43, 44, 45, 46, 47, 58, 61, 63]⟩ : ByteArray) a1 t603 _ A15.out).mono ?_); rintro e w16 ⟨rfl, hb⟩; have n0_ := Aside0.mk (below_step (bU HB.out) hb); replace HB := n0_; clear n0_; (try clear hb); (try clear hb2); (try clear hk); (try clear hi)))
    go_ret
    exact ⟨by first | rfl | (simp [errW_none, errW_some] <;> rfl), bU HB.out⟩
  rw [if_pos c9] at H
  have c9b0 : decide (48 ≤ a1) = true := decide_eq_true c9
  clear c9
  by_cases c10 : a1 ≤ 57
  · rw [if_pos c10] at H
    have c10b0 : decide (a1 ≤ 57) = true := decide_eq_true c10
    clear c10
    obtain rfl := Option.some.inj H
    go_enter Tryz.func205, Tryz.ntmps205
    go_wp2
    go_ret
    exact ⟨by first | rfl | (simp [errW_none, errW_some] <;> rfl), bU HB.out⟩
  rw [if_neg c10] at H
  have c10b0 : decide (a1 ≤ 57) = false := decide_eq_false c10
  clear c10
  by_cases c11 : a1 = 0
  · rw [if_pos c11] at H
    have c11b0 : (a1 == 0) = true := beq_iff_eq.mpr c11
    have c11b1 : (a1 != 0) = false := bne_eq_false_iff_eq.mpr c11
    clear c11
    obtain rfl := Option.some.inj H
    go_enter Tryz.func205, Tryz.ntmps205
    go_wp2
    go_ret
    exact ⟨by first | rfl | (simp [errW_none, errW_some] <;> rfl), bU HB.out⟩
  rw [if_neg c11] at H
  have c11b0 : (a1 == 0) = false := beq_eq_false_iff_ne.mpr c11
  have c11b1 : (a1 != 0) = true := bne_iff_ne.mpr c11
  replace H := Option.bind_eq_some_iff.mp H
  obtain ⟨t602, A120, H⟩ := H
  try dsimp only at H
  have A12 := Aside0.mk A120
  clear A120
  obtain rfl := Option.some.inj H
  go_enter Tryz.func205, Tryz.ntmps205
  go_wp2_with (first | (go_at_call 154; (with_reducible refine (strings_IndexByte.calls (⟨#[32, 39, 40, 41, 43, 44, 45, 46, 47, 58, 61, 63]⟩ : ByteArray) a1 t602 _ A12.out).mono ?_); rintro e w13 ⟨rfl, hb⟩; have n0_ := Aside0.mk (below_step (bU HB.out) hb); replace HB := n0_; clear n0_; (try clear hb); (try clear hb2); (try clear hk); (try clear hi)))
  go_ret
  exact ⟨by first | rfl | (simp [errW_none, errW_some] <;> rfl), bU HB.out⟩
end Go.Proofs.YtkioddjjfifadaaGreatDoor.P
namespace Go.Proofs.YtkioddjjfifadaaGreatDoor.P
open Go.RowKit Go.Proofs.YtkioddjjfifadaaGreatDoorW.PrintWords Go.Proofs.YtkioddjjfifadaaGreatDoorW.PrintLast Go.Proofs.YtkioddjjfifadaaGreatDoorW.PrintMore
theorem append_rune (w0 : World) (v : Value) (acc : List Int) (r : Int) (hr0 : -2147483648 ≤ r) (hr1 : r ≤ 2147483647) (w : World) (hR : (Kd.int .u8).R 5 w w0.heap.size (fun _ => True) v acc) (hl : acc.length + 4 ≤ 140737488355328) (h0 : Below w0.heap.size w0 w) :
    Calls Tryz.prog 249 #[v, .int .i32 r] w fun e w' => ∃ v', e = .returned v' ∧ (Kd.int .u8).R 5 w' w0.heap.size (fun _ => True) v' (acc ++ Lib.encodeRuneZ r) ∧ Below w0.heap.size w0 w' ∧ ∀ k o, w.heap[k]? = some o → some k ≠ v.ownBlock → w'.heap[k]? = some o := by
  have ho := Kd.own_of_R hR
  refine (Tryz.utf8_AppendRune_plain w0.heap.size v acc.length _ r hr0 hr1 w ho hl h0.size).mono ?_
  rintro e w' ⟨v', rfl, ho', o, hg⟩
  have hsz := h0.size
  refine ⟨v', rfl, Kd.R_of_own ?_ (fun _ _ => trivial), pw_below_grown (below_alloc h0 o) _ (Nat.le_trans hsz (by show w.heap.size ≤ (w.heap.push o).size; rw [Array.size_push]; omega)) hg (fun k hk => own_base ho k hk), fun k ob hk hne => blk_grown (blk_alloc hk o) hg hne⟩
  rw [List.length_append, encs_append]
  have : (Lib.runeCells r).length = (Lib.encodeRuneZ r).length := by simp [Lib.runeCells]
  rw [this] at ho'
  exact ho'
theorem make_bytes {P : Program} {ops : Array Oper} {rest : List Oper} {o : Oper} {a : Act} {Q : Exit → Act → World → Prop} {W : World} (w0 : World) {t : TypeId} {x y : Operand} (hgd : o.guard = none) (ho : o.op = .makeSlice t x y) (hx : a.eval x = .int .i64 0) (c : Nat) (hy : a.eval y = .int .i64 (c : Int))
    (ht : P.underlying t = some (.slice 5)) (hinfo : (P.info? 5).map (fun i => (i.zero, i.size, i.bytes)) = some (some (.int .u8 0), 1, 1)) (hc : c ≤ 140737488355328) (h0 : Below w0.heap.size w0 W)
    (h : ∀ v w1, (Kd.int .u8).R 5 w1 w0.heap.size (fun _ => True) v [] → Below w0.heap.size w0 w1 → wpList P ops Q rest (a.put o.dst v) w1) : wpList P ops Q (o :: rest) a W := by
  obtain ⟨i0, hi, hz0, hz1, hz2⟩ := info_parts hinfo
  obtain ⟨w1, hr, hown, hg⟩ := run_make_own (P := P) W w0.heap.size t 5 i0 _ 1 ht hi hz0 hz1 .i64 .i64 c (by rw [hz2]; omega) (by unfold maxLen; omega) h0.size
  refine wpList_plain hgd fun K hK => ?_
  unfold Oper.wp execOp
  simp only [ho, hx, hy, Sem.run_bind, hr, Result.andThen_ok, Sem.run_pure]
  exact hK _ _ (h _ _ (Kd.R_of_own hown (fun _ _ => trivial)) (pw_below_grown h0 none h0.size hg (fun k hk => by cases hk)))
theorem encodeRuneZ_len (r : Int) : (Lib.encodeRuneZ r).length ≤ 4 := by
  unfold Lib.encodeRuneZ
  split
  · simp
  split
  · simp
  split
  rotate_left
  · split <;> simp
  simp
def wideL : List Int → Option (List Int)
  | a :: b :: r => if 55296 ≤ a * 256 + b ∧ a * 256 + b < 57344 then none else (wideL r).map (Lib.encodeRuneZ (a * 256 + b) ++ ·)
  | _ => some []
def isByte (x : Int) : Bool := decide (0 ≤ x) && decide (x ≤ 255)
def text_wide.f (l : List Int) : Option (ByteArray × Int) :=
  if l.all isByte = true ∧ l.length ≤ 35184372088832 then (if l.length % 2 = 1 then some (⟨#[]⟩, 60) else (match wideL l with | none => some (⟨#[]⟩, 60) | some x => some (strOfNums x, 0))) else none
theorem drop_two (l : List Int) (i : Nat) (h : i + 1 < l.length) : l.drop i = rd l (i : Int) :: rd l ((i : Int) + 1) :: l.drop (i + 2) := by
  rw [List.drop_eq_getElem_cons (by omega), List.drop_eq_getElem_cons h]
  have e1 : rd l (i : Int) = l[i]'(by omega) := by
    show l.getD (i : Int).toNat 0 = _
    rw [Int.toNat_natCast, List.getD_eq_getElem?_getD, List.getElem?_eq_getElem (by omega)]
    rfl
  have e2 : rd l ((i : Int) + 1) = l[i + 1]'h := by
    show l.getD ((i : Int) + 1).toNat 0 = _
    rw [show ((i : Int) + 1).toNat = i + 1 by omega, List.getD_eq_getElem?_getD, List.getElem?_eq_getElem h]
    rfl
  rw [e1, e2]
theorem rd_byte (l : List Int) (h : l.all isByte = true) (i : Int) (h0 : 0 ≤ i) (h1 : i < (l.length : Int)) : 0 ≤ rd l i ∧ rd l i ≤ 255 := by
  have hm : rd l i ∈ l := by
    show l.getD i.toNat 0 ∈ l
    rw [List.getD_eq_getElem?_getD, List.getElem?_eq_getElem (by omega)]
    exact List.getElem_mem _
  have := List.all_eq_true.1 h _ hm
  simpa [isByte] using this
set_option maxRecDepth 100000 in
set_option maxHeartbeats 4000000 in
theorem text_wide.calls (A0 : Option Addr) (c0 : Nat) (l0 : List Int) (r1 : ByteArray) (r2 : Int) (w : World) (hr0 : Kd.C (Kd.int .u8) w A0 l0.length l0) (hc0 : l0.length ≤ c0) (h : text_wide.f l0 = some (r1, r2)) :
    Calls Tryz.prog 203 #[.slice A0 l0.length c0] w fun e w' => e = .returned (.tuple #[.string r1, .int .i64 r2]) ∧ Below w.heap.size w w' := by
  have HR0 := Aside0.mk hr0
  have HC0 := Aside0.mk hc0
  clear hr0 hc0
  unfold text_wide.f at h
  split at h
  case isFalse => cases h
  case isTrue hb =>
  obtain ⟨hbytes, hlen⟩ := hb
  have HBY := Aside0.mk hbytes
  have HLEN := Aside0.mk hlen
  clear hbytes hlen
  by_cases hodd : l0.length % 2 = 1
  · rw [if_pos hodd] at h
    simp only [Option.some.injEq, Prod.mk.injEq] at h
    obtain ⟨rfl, rfl⟩ := h
    have hm : ((l0.length : Int).tmod 2 != 0) = true := by
      rw [Int.tmod_eq_emod_of_nonneg (by omega)]
      exact bne_iff_ne.2 (by omega)
    go_enter Tryz.func203, Tryz.ntmps203
    go_wp2_with fail
    go_ret2
    exact ⟨rfl, Below.refl _ _⟩
  rw [if_neg hodd] at h
  have hm : ((l0.length : Int).tmod 2 != 0) = false := by
    rw [Int.tmod_eq_emod_of_nonneg (by omega)]
    exact bne_eq_false_iff_eq.2 (by omega)
  go_enter Tryz.func203, Tryz.ntmps203
  have hw2 : wrap64 ((l0.length : Int) * 2) = ((l0.length * 2 : Nat) : Int) := by unfold wrap64; have := HLEN.out; omega
  have HB := Aside0.mk (Below.refl w.heap.size w)
  go_wp2_with ((with_reducible refine gate_dst (N := 14) rfl ?_); refine make_bytes w rfl rfl rfl (l0.length * 2) (congrArg (Value.int .i64) hw2) Tryz.underlying22 info5 (by have := HLEN.out; omega) HB.out ?_; intro v w1 hv hb; have HO := Aside0.mk hv; have HB1 := Aside0.mk hb; clear hv hb HB)
  clear hm hw2
  go_loopg [4, 5] (l0.length + 1) (fun kq v4 v5 w' => ∃ (i : Nat) (acc : List Int), v5 = .int .i64 (i : Int) ∧ Aside0 (i ≤ l0.length ∧ i % 2 = 0 ∧ l0.length < kq + i) ∧ Aside0 (wideL l0 = (wideL (l0.drop i)).map (acc ++ ·)) ∧ Aside0 (acc.length ≤ 2 * i) ∧
    Aside0 ((Kd.int .u8).R 5 w' w.heap.size (fun _ => True) v4 acc) ∧ Aside0 (Below w.heap.size w w'))
  case atStart => exact ⟨0, [], rfl, ⟨⟨Nat.zero_le _, rfl, by omega⟩⟩, ⟨by simp⟩, ⟨Nat.zero_le _⟩, HO, HB1⟩
  case round =>
    clear HO HB1
    obtain ⟨i, acc, rfl, HI, HW, HA, HO, HB⟩ := hrel
    cases gk with
    | zero => exact absurd HI.out (by omega)
    | succ g1 =>
      by_cases hi : i < l0.length
      rotate_left
      · have c1 : decide ((i : Int) < (l0.length : Int)) = false := decide_eq_false (by omega)
        have hie : i = l0.length := by have := HI.out; omega
        have hcv := own_string (P := Tryz.prog) Tryz.underlying22 Tryz.underlying5 Tryz.underlying9 (Kd.own_of_R HO.out)
        have hwl : wideL l0 = some acc := by rw [HW.out, hie, List.drop_length]; simp [wideL]
        rw [hwl] at h
        simp only [Option.some.injEq, Prod.mk.injEq] at h
        obtain ⟨rfl, rfl⟩ := h
        go_wp2_with fail
        go_ret2
        exact ⟨rfl, HB.out⟩
      have hi1 : i + 1 < l0.length := by have := HI.out; omega
      have c1 : decide ((i : Int) < (l0.length : Int)) = true := decide_eq_true (by omega)
      have p1 : ((0 : Int) ≤ (i : Int)) = True := eq_true (by omega)
      have q1 : ((i : Int) < (l0.length : Int)) = True := eq_true (by omega)
      have hw1 : wrap64 ((i : Int) + 1) = (i : Int) + 1 := by unfold wrap64; have := HLEN.out; omega
      have p2 : ((0 : Int) ≤ (i : Int) + 1) = True := eq_true (by omega)
      have q2 : ((i : Int) + 1 < (l0.length : Int)) = True := eq_true (by omega)
      obtain ⟨ad, rfl, hx1⟩ := Kd.at_int HR0.out (i : Int) (by omega) (by omega)
      obtain ⟨ad', e', hx2⟩ := Kd.at_int HR0.out ((i : Int) + 1) (by omega) (by omega)
      cases e'
      replace hx1 := (HB.out.cell (World.block_lt_of_cell? w _ hx1)).trans hx1
      replace hx2 := (HB.out.cell (World.block_lt_of_cell? w _ hx2)).trans hx2
      rw [Int.toNat_natCast] at hx1
      rw [show ((i : Int) + 1).toNat = i + 1 by omega, Go.Addr.add_succ'] at hx2
      obtain ⟨a0, a1⟩ := rd_byte l0 HBY.out (i : Int) (by omega) (by omega)
      obtain ⟨b0, b1⟩ := rd_byte l0 HBY.out ((i : Int) + 1) (by omega) (by omega)
      have HD := Aside0.mk (drop_two l0 i hi1)
      generalize rd l0 (i : Int) = x at *
      generalize rd l0 ((i : Int) + 1) = y at *
      have hor : Go.bits .or .i32 (x * 256) y = x * 256 + y := bits_join .i32 31 (by decide) wraps_i32 8 (x * 256) y (by omega) (by omega) (by omega) b0 (by omega) (by omega)
      have HWD : Aside0 (wideL l0 = (if 55296 ≤ x * 256 + y ∧ x * 256 + y < 57344 then none else (wideL (l0.drop (i + 2))).map (Lib.encodeRuneZ (x * 256 + y) ++ ·)).map (acc ++ ·)) := ⟨by rw [HW.out, HD.out]; rfl⟩
      have hw3 : wrap64 ((i : Int) + 2) = ((i + 2 : Nat) : Int) := by unfold wrap64; have := HLEN.out; omega
      clear HW HD
      have hc0 : 0 ≤ x * 256 + y := by omega
      have hc1 : x * 256 + y ≤ 65535 := by omega
      generalize x * 256 + y = c at *
      by_cases hbad : 55296 ≤ c ∧ c < 57344
      · have d1 : decide (55296 ≤ c) = true := decide_eq_true hbad.1
        have d2 : decide (c < 57344) = true := decide_eq_true hbad.2
        have hwl : wideL l0 = none := by rw [HWD.out, if_pos hbad]; rfl
        rw [hwl] at h
        simp only [Option.some.injEq, Prod.mk.injEq] at h
        obtain ⟨rfl, rfl⟩ := h
        go_wp2_with fail
        go_region
        go_wp2_with fail
        go_ret2
        exact ⟨rfl, below_drew HB.out⟩
      by_cases hge : 55296 ≤ c
      rotate_left
      · have d1 : decide (55296 ≤ c) = false := decide_eq_false hge
        go_wp2_with fail
        go_region
        go_wp2_with fail
        refine (append_rune w u4 acc c (by omega) (by omega) _ (Kd.R_drew HO.out) (by have := HA.out; have := HI.out; have := HLEN.out; omega) (below_drew HB.out)).mono ?_
        rintro e w5 ⟨v5, rfl, hR5, hb5, -⟩
        have HO5 := Aside0.mk hR5
        have HB5 := Aside0.mk hb5
        clear hR5 hb5 HO HB hx1 hx2
        go_wp2_with fail
        go_roundg g1
        case measure => exact Nat.lt_succ_self _
        case rel => exact ⟨i + 2, acc ++ Lib.encodeRuneZ c, congrArg (Value.int .i64) hw3, ⟨by have := HI.out; omega⟩, ⟨by rw [HWD.out, if_neg hbad, Option.map_map]; congr 1; funext z; simp⟩, ⟨by rw [List.length_append]; have := encodeRuneZ_len c; have := HA.out; omega⟩, HO5, HB5⟩
      have d1 : decide (55296 ≤ c) = true := decide_eq_true hge
      have d2 : decide (c < 57344) = false := decide_eq_false (by omega)
      go_wp2_with fail
      go_region
      go_wp2_with fail
      refine (append_rune w u4 acc c (by omega) (by omega) _ (Kd.R_drew HO.out) (by have := HA.out; have := HI.out; have := HLEN.out; omega) (below_drew HB.out)).mono ?_
      rintro e w5 ⟨v5, rfl, hR5, hb5, -⟩
      have HO5 := Aside0.mk hR5
      have HB5 := Aside0.mk hb5
      clear hR5 hb5 HO HB hx1 hx2
      go_wp2_with fail
      go_roundg g1
      case measure => exact Nat.lt_succ_self _
      case rel => exact ⟨i + 2, acc ++ Lib.encodeRuneZ c, congrArg (Value.int .i64) hw3, ⟨by have := HI.out; omega⟩, ⟨by rw [HWD.out, if_neg hbad, Option.map_map]; congr 1; funext z; simp⟩, ⟨by rw [List.length_append]; have := encodeRuneZ_len c; have := HA.out; omega⟩, HO5, HB5⟩
end Go.Proofs.YtkioddjjfifadaaGreatDoor.P
namespace Go.Proofs.YtkioddjjfifadaaGreatDoor.P
open Go.RowKit Go.Proofs.YtkioddjjfifadaaGreatDoorW.PrintWords Go.Proofs.YtkioddjjfifadaaGreatDoorW.PrintLast Go.Proofs.YtkioddjjfifadaaGreatDoorW.PrintMore
attribute [local go_sem] max2_int min2_int max_two min_two max_three min_three max_four min_four
set_option linter.unusedVariables false
set_option linter.unusedSimpArgs false
def utf8_word_byte.f (l0 : List Int) : Option (Int) := if 0 < (l0.length : Int) then (if 1 < (l0.length : Int) then (if 2 < (l0.length : Int) then (if 3 < (l0.length : Int) then (if 4 < (l0.length : Int) then (if 5 < (l0.length : Int) then (if 6 < (l0.length : Int) then (if 7 < (l0.length : Int) then (some (Go.bits .or .u64 (Go.bits .or .u64 (Go.bits .or .u64 (Go.bits .or .u64 (Go.bits .or .u64 (Go.bits .or .u64 (Go.bits .or .u64 (IntKind.u64.wrap (rd l0 0)) (IntKind.u64.wrap ((IntKind.u64.wrap (rd l0 1)) * 256))) (IntKind.u64.wrap ((IntKind.u64.wrap (rd l0 2)) * 65536))) (IntKind.u64.wrap ((IntKind.u64.wrap (rd l0 3)) * 16777216))) (IntKind.u64.wrap ((IntKind.u64.wrap (rd l0 4)) * 4294967296))) (IntKind.u64.wrap ((IntKind.u64.wrap (rd l0 5)) * 1099511627776))) (IntKind.u64.wrap ((IntKind.u64.wrap (rd l0 6)) * 281474976710656))) (IntKind.u64.wrap ((IntKind.u64.wrap (rd l0 7)) * 72057594037927936)))) else (none)) else (none)) else (none)) else (none)) else (none)) else (none)) else (none)) else (none)
set_option maxHeartbeats 8000000 in
set_option maxRecDepth 100000 in
theorem utf8_word_byte.calls (A0 : Option Addr) (c0 : Nat) (l0 : List Int) (r : Int) (w : World) (hr0 : Kd.C (Kd.int .u8) w A0 l0.length l0) (hc0 : l0.length ≤ c0) (h : utf8_word_byte.f l0 = some r) :
    Calls Tryz.prog 250 #[.slice A0 l0.length c0] w fun e w' => e = .returned (.int .u64 r) ∧ Drawn0 w w' := by
  have HR0 := Aside0.mk hr0
  have HC0 := Aside0.mk hc0
  clear hr0 hc0
  have H : (if 0 < (l0.length : Int) then (if 1 < (l0.length : Int) then (if 2 < (l0.length : Int) then (if 3 < (l0.length : Int) then (if 4 < (l0.length : Int) then (if 5 < (l0.length : Int) then (if 6 < (l0.length : Int) then (if 7 < (l0.length : Int) then (some (Go.bits .or .u64 (Go.bits .or .u64 (Go.bits .or .u64 (Go.bits .or .u64 (Go.bits .or .u64 (Go.bits .or .u64 (Go.bits .or .u64 (IntKind.u64.wrap (rd l0 0)) (IntKind.u64.wrap ((IntKind.u64.wrap (rd l0 1)) * 256))) (IntKind.u64.wrap ((IntKind.u64.wrap (rd l0 2)) * 65536))) (IntKind.u64.wrap ((IntKind.u64.wrap (rd l0 3)) * 16777216))) (IntKind.u64.wrap ((IntKind.u64.wrap (rd l0 4)) * 4294967296))) (IntKind.u64.wrap ((IntKind.u64.wrap (rd l0 5)) * 1099511627776))) (IntKind.u64.wrap ((IntKind.u64.wrap (rd l0 6)) * 281474976710656))) (IntKind.u64.wrap ((IntKind.u64.wrap (rd l0 7)) * 72057594037927936)))) else (none)) else (none)) else (none)) else (none)) else (none)) else (none)) else (none)) else (none)) = some r := h
  clear h
  by_cases c2 : 0 < (l0.length : Int)
  rotate_left
  · rw [if_neg c2] at H
    exact absurd H (by simp)
  rw [if_pos c2] at H
  have c2b0 : decide (0 < (l0.length : Int)) = true := decide_eq_true c2
  have c2b1 : decide (0 < l0.length) = true := decide_eq_true (by omega)
  clear c2
  by_cases c3 : 1 < (l0.length : Int)
  rotate_left
  · rw [if_neg c3] at H
    exact absurd H (by simp)
  rw [if_pos c3] at H
  have c3b0 : decide (1 < (l0.length : Int)) = true := decide_eq_true c3
  have c3b1 : decide (1 < l0.length) = true := decide_eq_true (by omega)
  clear c3
  by_cases c4 : 2 < (l0.length : Int)
  rotate_left
  · rw [if_neg c4] at H
    exact absurd H (by simp)
  rw [if_pos c4] at H
  have c4b0 : decide (2 < (l0.length : Int)) = true := decide_eq_true c4
  have c4b1 : decide (2 < l0.length) = true := decide_eq_true (by omega)
  clear c4
  by_cases c5 : 3 < (l0.length : Int)
  rotate_left
  · rw [if_neg c5] at H
    exact absurd H (by simp)
  rw [if_pos c5] at H
  have c5b0 : decide (3 < (l0.length : Int)) = true := decide_eq_true c5
  have c5b1 : decide (3 < l0.length) = true := decide_eq_true (by omega)
  clear c5
  by_cases c6 : 4 < (l0.length : Int)
  rotate_left
  · rw [if_neg c6] at H
    exact absurd H (by simp)
  rw [if_pos c6] at H
  have c6b0 : decide (4 < (l0.length : Int)) = true := decide_eq_true c6
  have c6b1 : decide (4 < l0.length) = true := decide_eq_true (by omega)
  clear c6
  by_cases c7 : 5 < (l0.length : Int)
  rotate_left
  · rw [if_neg c7] at H
    exact absurd H (by simp)
  rw [if_pos c7] at H
  have c7b0 : decide (5 < (l0.length : Int)) = true := decide_eq_true c7
  have c7b1 : decide (5 < l0.length) = true := decide_eq_true (by omega)
  clear c7
  by_cases c8 : 6 < (l0.length : Int)
  rotate_left
  · rw [if_neg c8] at H
    exact absurd H (by simp)
  rw [if_pos c8] at H
  have c8b0 : decide (6 < (l0.length : Int)) = true := decide_eq_true c8
  have c8b1 : decide (6 < l0.length) = true := decide_eq_true (by omega)
  clear c8
  by_cases c9 : 7 < (l0.length : Int)
  rotate_left
  · rw [if_neg c9] at H
    exact absurd H (by simp)
  rw [if_pos c9] at H
  have c9b0 : decide (7 < (l0.length : Int)) = true := decide_eq_true c9
  have c9b1 : decide (7 < l0.length) = true := decide_eq_true (by omega)
  clear c9
  obtain rfl := Option.some.inj H
  have p535 : 0 ≤ (0 : Int) := (by omega)
  have q535 : 0 < (l0.length : Int) := of_decide_eq_true (by first | (with_reducible assumption) | assumption)
  obtain ⟨ad535, e535, hx535_0⟩ := Kd.at_int HR0.out 0 p535 q535
  cases e535
  have qi535 : (0 < l0.length) = True := eq_true (by omega)
  (try rw [show ((0 : Int)).toNat = 0 from rfl] at hx535_0)
  (try rw [Addr.add_zero'] at hx535_0)
  replace p535 := eq_true p535
  replace q535 := eq_true q535
  have p536 : 0 ≤ (1 : Int) := (by omega)
  have q536 : 1 < (l0.length : Int) := of_decide_eq_true (by first | (with_reducible assumption) | assumption)
  obtain ⟨ad536, e536, hx536_0⟩ := Kd.at_int HR0.out 1 p536 q536
  obtain rfl : ad535 = ad536 := (by injection e536)
  (try simp only [show (1 : Int).toNat = 1 from rfl, Nat.reduceMul, Nat.reduceEqDiff, Go.Addr.add, ↓reduceIte] at hx536_0)
  have qi536 : (1 < l0.length) = True := eq_true (by omega)
  (try rw [show ((1 : Int)).toNat = 1 from rfl] at hx536_0)
  replace p536 := eq_true p536
  replace q536 := eq_true q536
  have p537 : 0 ≤ (2 : Int) := (by omega)
  have q537 : 2 < (l0.length : Int) := of_decide_eq_true (by first | (with_reducible assumption) | assumption)
  obtain ⟨ad537, e537, hx537_0⟩ := Kd.at_int HR0.out 2 p537 q537
  obtain rfl : ad535 = ad537 := (by injection e537)
  (try simp only [show (2 : Int).toNat = 2 from rfl, Nat.reduceMul, Nat.reduceEqDiff, Go.Addr.add, ↓reduceIte] at hx537_0)
  have qi537 : (2 < l0.length) = True := eq_true (by omega)
  (try rw [show ((2 : Int)).toNat = 2 from rfl] at hx537_0)
  replace p537 := eq_true p537
  replace q537 := eq_true q537
  have p538 : 0 ≤ (3 : Int) := (by omega)
  have q538 : 3 < (l0.length : Int) := of_decide_eq_true (by first | (with_reducible assumption) | assumption)
  obtain ⟨ad538, e538, hx538_0⟩ := Kd.at_int HR0.out 3 p538 q538
  obtain rfl : ad535 = ad538 := (by injection e538)
  (try simp only [show (3 : Int).toNat = 3 from rfl, Nat.reduceMul, Nat.reduceEqDiff, Go.Addr.add, ↓reduceIte] at hx538_0)
  have qi538 : (3 < l0.length) = True := eq_true (by omega)
  (try rw [show ((3 : Int)).toNat = 3 from rfl] at hx538_0)
  replace p538 := eq_true p538
  replace q538 := eq_true q538
  have p539 : 0 ≤ (4 : Int) := (by omega)
  have q539 : 4 < (l0.length : Int) := of_decide_eq_true (by first | (with_reducible assumption) | assumption)
  obtain ⟨ad539, e539, hx539_0⟩ := Kd.at_int HR0.out 4 p539 q539
  obtain rfl : ad535 = ad539 := (by injection e539)
  (try simp only [show (4 : Int).toNat = 4 from rfl, Nat.reduceMul, Nat.reduceEqDiff, Go.Addr.add, ↓reduceIte] at hx539_0)
  have qi539 : (4 < l0.length) = True := eq_true (by omega)
  (try rw [show ((4 : Int)).toNat = 4 from rfl] at hx539_0)
  replace p539 := eq_true p539
  replace q539 := eq_true q539
  have p540 : 0 ≤ (5 : Int) := (by omega)
  have q540 : 5 < (l0.length : Int) := of_decide_eq_true (by first | (with_reducible assumption) | assumption)
  obtain ⟨ad540, e540, hx540_0⟩ := Kd.at_int HR0.out 5 p540 q540
  obtain rfl : ad535 = ad540 := (by injection e540)
  (try simp only [show (5 : Int).toNat = 5 from rfl, Nat.reduceMul, Nat.reduceEqDiff, Go.Addr.add, ↓reduceIte] at hx540_0)
  have qi540 : (5 < l0.length) = True := eq_true (by omega)
  (try rw [show ((5 : Int)).toNat = 5 from rfl] at hx540_0)
  replace p540 := eq_true p540
  replace q540 := eq_true q540
  have p541 : 0 ≤ (6 : Int) := (by omega)
  have q541 : 6 < (l0.length : Int) := of_decide_eq_true (by first | (with_reducible assumption) | assumption)
  obtain ⟨ad541, e541, hx541_0⟩ := Kd.at_int HR0.out 6 p541 q541
  obtain rfl : ad535 = ad541 := (by injection e541)
  (try simp only [show (6 : Int).toNat = 6 from rfl, Nat.reduceMul, Nat.reduceEqDiff, Go.Addr.add, ↓reduceIte] at hx541_0)
  have qi541 : (6 < l0.length) = True := eq_true (by omega)
  (try rw [show ((6 : Int)).toNat = 6 from rfl] at hx541_0)
  replace p541 := eq_true p541
  replace q541 := eq_true q541
  have p542 : 0 ≤ (7 : Int) := (by omega)
  have q542 : 7 < (l0.length : Int) := of_decide_eq_true (by first | (with_reducible assumption) | assumption)
  obtain ⟨ad542, e542, hx542_0⟩ := Kd.at_int HR0.out 7 p542 q542
  obtain rfl : ad535 = ad542 := (by injection e542)
  (try simp only [show (7 : Int).toNat = 7 from rfl, Nat.reduceMul, Nat.reduceEqDiff, Go.Addr.add, ↓reduceIte] at hx542_0)
  have qi542 : (7 < l0.length) = True := eq_true (by omega)
  (try rw [show ((7 : Int)).toNat = 7 from rfl] at hx542_0)
  replace p542 := eq_true p542
  replace q542 := eq_true q542
  go_enter Tryz.func250, Tryz.ntmps250
  go_wp2
  repeat (go_quiet (fail); try go_wp2)
  go_ret
  exact ⟨by first | rfl | (simp; done) | (simp [*]; done), by repeat (first | exact Drawn0.refl _ | apply Drawn0.step)⟩
end Go.Proofs.YtkioddjjfifadaaGreatDoor.P
namespace Go.Proofs.YtkioddjjfifadaaGreatDoor.P
open Go.RowKit Go.Proofs.YtkioddjjfifadaaGreatDoorW.PrintWords Go.Proofs.YtkioddjjfifadaaGreatDoorW.PrintLast Go.Proofs.YtkioddjjfifadaaGreatDoorW.PrintMore
theorem son_size (l : List Int) : (strOfNums l).size = l.length := by
  unfold strOfNums
  simp [ByteArray.size]
theorem zs_of (l : List Int) (h : l.all isByte = true) : bytesOf (strOfNums l) = l := by
  have hx : ∀ x ∈ l, (((UInt8.ofNat x.toNat).toNat : Nat) : Int) = x := fun x hx => by
    have := List.all_eq_true.1 h x hx
    simp only [isByte, Bool.and_eq_true, decide_eq_true_eq] at this
    rw [UInt8.toNat_ofNat']
    omega
  unfold bytesOf strOfNums
  simp only [List.map_map]
  exact (List.map_congr_left (g := id) fun x hm => hx x hm).trans (List.map_id l)
structure BS (w : World) (A : Option Addr) (c : Nat) (s : ByteArray) : Prop where
  room : s.size ≤ c
  reads : Kd.C (Kd.int .u8) w A s.size (bytesOf s)
theorem bt_get (s : ByteArray) (k : Nat) (hk : k < s.size) : bt s (k : Int) = ((s.get! k).toNat : Int) := by
  rw [Utf8W.get!_of_lt s k hk]
  unfold bt
  simp [hk]
theorem BS.cell {w w1 : World} {A : Option Addr} {c : Nat} {s : ByteArray} (h : BS w A c s) (k : Nat) (hk : k < s.size) (hb : Below w.heap.size w w1) : ∃ ad, A = some ad ∧ w1.cell? (ad.add k) = some (.int .u8 ((s.get! k).toNat : Int)) := by
  obtain ⟨ad, e, hc⟩ := Kd.at_int h.reads (k : Int) (by omega) (by omega)
  rw [Int.toNat_natCast, rd_bytesOf, bt_get s k hk] at hc
  exact ⟨ad, e, pw_cell_below hb hc⟩
theorem BS.cut {w : World} {A : Option Addr} {c : Nat} {s : ByteArray} (h : BS w A c s) (k : Nat) (hk : k ≤ s.size) :
    ∃ A' c' t, s.extract k s.size = t ∧ t.size + k = s.size ∧ BS w A' c' t ∧ ∀ W : World, (Instr.slice 22 (.slice A s.size c) (some (.int .i64 (k : Int))) none none).run Tryz.prog W = .ok (.slice A' t.size c') W := by
  obtain ⟨i0, hi0, -, hsz, -⟩ := info_parts info5
  obtain ⟨A', h1, h2⟩ := print_cut_of (P := Tryz.prog) (Value.int .u8) (0 : Int) 22 5 .i64 Tryz.underlying22 hi0 hsz A s.size c k hk
  refine ⟨A', c - k, s.extract k s.size, rfl, by rw [Lib.ext_size]; omega, ⟨by rw [Lib.ext_size]; have := h.room; omega, ?_⟩, fun W => by rw [Lib.ext_size]; exact h1 W⟩
  have hb : bytesOf (s.extract k s.size) = (bytesOf s).drop k := by unfold bytesOf; rw [Lib.ext_list, List.map_drop]
  rw [hb, Lib.ext_size]
  exact Kd.C_of_reads (h2 w _ h.room (Kd.reads_of_C h.reads))
def wordOf (t : ByteArray) : Nat := Lib.leNat [t.get! 0, t.get! 1, t.get! 2, t.get! 3, t.get! 4, t.get! 5, t.get! 6, t.get! 7]
set_option maxRecDepth 100000 in
theorem word_f (t : ByteArray) (h8 : 8 ≤ t.size) : utf8_word_byte.f (bytesOf t) = some ((wordOf t : Nat) : Int) := by
  have hl : (bytesOf t).length = t.size := bytesOf_length t
  have e0 : rd (bytesOf t) 0 = ((t.get! 0).toNat : Int) := (rd_bytesOf t 0).trans (bt_get t 0 (by omega))
  have e1 : rd (bytesOf t) 1 = ((t.get! 1).toNat : Int) := (rd_bytesOf t 1).trans (bt_get t 1 (by omega))
  have e2 : rd (bytesOf t) 2 = ((t.get! 2).toNat : Int) := (rd_bytesOf t 2).trans (bt_get t 2 (by omega))
  have e3 : rd (bytesOf t) 3 = ((t.get! 3).toNat : Int) := (rd_bytesOf t 3).trans (bt_get t 3 (by omega))
  have e4 : rd (bytesOf t) 4 = ((t.get! 4).toNat : Int) := (rd_bytesOf t 4).trans (bt_get t 4 (by omega))
  have e5 : rd (bytesOf t) 5 = ((t.get! 5).toNat : Int) := (rd_bytesOf t 5).trans (bt_get t 5 (by omega))
  have e6 : rd (bytesOf t) 6 = ((t.get! 6).toNat : Int) := (rd_bytesOf t 6).trans (bt_get t 6 (by omega))
  have e7 : rd (bytesOf t) 7 = ((t.get! 7).toNat : Int) := (rd_bytesOf t 7).trans (bt_get t 7 (by omega))
  unfold utf8_word_byte.f
  rw [if_pos (by omega), if_pos (by omega), if_pos (by omega), if_pos (by omega), if_pos (by omega), if_pos (by omega), if_pos (by omega), if_pos (by omega), e0, e1, e2, e3, e4, e5, e6, e7]
  unfold wordOf
  generalize t.get! 0 = x0
  generalize t.get! 1 = x1
  generalize t.get! 2 = x2
  generalize t.get! 3 = x3
  generalize t.get! 4 = x4
  generalize t.get! 5 = x5
  generalize t.get! 6 = x6
  generalize t.get! 7 = x7
  have h0 : x0.toNat < 256 := x0.toNat_lt
  have h1 : x1.toNat < 256 := x1.toNat_lt
  have h2 : x2.toNat < 256 := x2.toNat_lt
  have h3 : x3.toNat < 256 := x3.toNat_lt
  have h4 : x4.toNat < 256 := x4.toNat_lt
  have h5 : x5.toNat < 256 := x5.toNat_lt
  have h6 : x6.toNat < 256 := x6.toNat_lt
  have h7 : x7.toNat < 256 := x7.toNat_lt
  have hv : ((Lib.leNat [x0, x1, x2, x3, x4, x5, x6, x7] : Nat) : Int) = (x0.toNat : Int) + (x1.toNat : Int) * 256 + (x2.toNat : Int) * 65536 + (x3.toNat : Int) * 16777216 + (x4.toNat : Int) * 4294967296 + (x5.toNat : Int) * 1099511627776 + (x6.toNat : Int) * 281474976710656 + (x7.toNat : Int) * 72057594037927936 := by
    simp only [Lib.leNat]
    push_cast
    omega
  simp (disch := omega) only [u64_wrap_id, u64_or8, u64_or16, u64_or24, u64_or32, u64_or40, u64_or48, u64_or56]
  rw [hv]
theorem word_calls {w : World} {A : Option Addr} {c : Nat} {t : ByteArray} (h : BS w A c t) (h8 : 8 ≤ t.size) (W : World) (hb : Below w.heap.size w W) :
    Calls Tryz.prog 250 #[.slice A t.size c] W fun e w' => e = .returned (.int .u64 ((wordOf t : Nat) : Int)) ∧ ∃ q, w' = W.drewN q := by
  have hl : (bytesOf t).length = t.size := bytesOf_length t
  have hC : Kd.C (Kd.int .u8) W A (bytesOf t).length (bytesOf t) := by rw [hl]; exact Kd.C_below h.reads hb
  have := utf8_word_byte.calls A c (bytesOf t) _ W hC (by rw [hl]; exact h.room) (word_f t h8)
  rw [hl] at this
  refine this.mono ?_
  rintro e w' ⟨rfl, hd⟩
  exact ⟨rfl, hd.out⟩
end Go.Proofs.YtkioddjjfifadaaGreatDoor.P
