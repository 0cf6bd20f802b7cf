/- Texts of this proof, one behind the other: TdL, TdA. -/
import Derived.Shelf.Strings.Builder1
import Derived.Shelf.Strings.Trim
import Derived.Shelf.Small.Utf8
import Derived.Shelf.Small.Bits
import Derived.Shelf.Small.Strs
import Derived.Shelf.Small.Wraps
import Derived.Shelf.Strings.BuilderF
import Derived.Shelf.Strings.BuilderK
import Derived.Shelf.Utf8.RuneCount
import Derived.Shelf.Strconv.Atoi
import Derived.Shelf.Strconv.Itoa0
import Derived.Shelf.Strconv.Itoa1
import Derived.Shelf.LaysM
import Derived.Shelf.Strconv.Itoa2
import Derived.Shelf.Strconv.Itoa3
import Derived.Shelf.Strconv.Itoa4
import Derived.Shelf.Strconv.AtoiErrFast
import Derived.Shelf.Strconv.ParseIntEmpty
import Derived.Shelf.Strconv.AtoiFail
import Derived.Shelf.Strconv.Clone
import Derived.Shelf.Strconv.SyntaxError
import Derived.Shelf.LaysC
import Derived.Shelf.Strconv.ToError
import Derived.Shelf.Strconv.Lower
import Derived.Shelf.Strconv.ParseUint10
import Derived.Shelf.Strconv.ParseUint10Empty
import Derived.Shelf.Strconv.ParseUint10Any
import Derived.Shelf.Strconv.ParseInt10
import Derived.Shelf.Strconv.AtoiLong
import Derived.Shelf.Strconv.AtoiInnerAll
import Derived.Shelf.Strconv.RangeError
import Derived.Shelf.Strconv.ToErrorRange
import Derived.Shelf.Strconv.AtoiAll
import Derived.Shelf.Strconv.ParseUintEmpty
import Derived.Shelf.Strconv.ParseUint10b64
import Derived.Shelf.Strconv.ParseUint10b32
import Derived.Shelf.Strconv.ParseUint10b16
import Derived.Shelf.Strconv.ParseUint10b8
import Derived.Shelf.Strconv.ParseUint10At
import Derived.Shelf.Strings.Search1
import Derived.Shelf.Strings.Search2
import Derived.Shelf.Strings.Search3
import Derived.Shelf.Strings.Count
import Derived.Shelf.Strings.Shaped
import Derived.Shelf.Strings.Prefix
import Derived.Shelf.Strings.Split
import Derived.Shelf.Strings.SplitShaped
import Derived.Shelf.Unicode.Decode
import Derived.Shelf.Strings.Runes
import Derived.Shelf.Strings.RuneCount
import Derived.Shelf.Strings.AsciiSet
import Derived.Shelf.Strings.Explode
import Derived.Shelf.Unicode.DecodeSlow
import Derived.Shelf.Unicode.DecodeAny
import Derived.Shelf.Unicode.DecodeLast
import Derived.Shelf.Strings.BuilderCap
import Derived.Shelf.Slices.Reverse
import Derived.Ground.Names2Prog
import Derived.Shelf.Slices.Clone
import Derived.Shelf.Slices.CompactI
import Derived.Shelf.Slices.SearchI
import Derived.Shelf.Slices.Cells
import Derived.Ground.SlgnProg
import Derived.Shelf.SlicesG.Turned
import Derived.Shelf.SlicesG.Clone
import Derived.Shelf.SlicesG.SearchI
import Derived.Shelf.SlicesE.Reverse
import Derived.Shelf.SlicesE.Clone
import Derived.Test.YtpbflnfcgcldkaaGreatDoorProg
import Derived.Ground.NamesProg
import Derived.Test.YtpbflnfcgcldkaaGreatDoorMt19
import Derived.Test.YtpbflnfcgcldkaaGreatDoorMt13
/-
  Contracts of the library at this dump, laid by the kit's lay-shelf.mjs and lay-plain.mjs (what is used of them).
-/
namespace Go.Proofs
open Go.Shelf Go.RowKit Go.Sort
def Tryz.lays169_ren : Go.Shelf.Ren := ⟨fun | 169 => 98 | n => n, fun | 70 => 220 | 9 => 9 | 0 => 0 | 72 => 223 | 37 => 221 | 127 => 320 | 3 => 3 | 5 => 5 | n => n, fun | n => n⟩
theorem Tryz.lays169 : Go.Proofs.Lays.n169 Tryz.prog Tryz.lays169_ren := {
  mixed := by kernel_rfl
  f169 := Tryz.func98.trans (congrArg some (by kernel_rfl))
  t0 := Tryz.underlying0
  a0 := Tryz.isAgg0
  z0 := Tryz.sizeOf0
  v0 := Tryz.zeroValue0
  t3 := Tryz.underlying3
  a3 := Tryz.isAgg3
  z3 := Tryz.sizeOf3
  v3 := Tryz.zeroValue3
  t9 := Tryz.underlying9
  a9 := Tryz.isAgg9
  z9 := Tryz.sizeOf9
  v9 := Tryz.zeroValue9
  t37 := Tryz.underlying221
  a37 := Tryz.isAgg221
  z37 := Tryz.sizeOf221
  v37 := Tryz.zeroValue221
  t70 := Tryz.underlying220
  a70 := Tryz.isAgg220
  z70 := Tryz.sizeOf220
  v70 := Tryz.zeroValue220
  t72 := Tryz.underlying223
  a72 := Tryz.isAgg223
  z72 := Tryz.sizeOf223
  v72 := Tryz.zeroValue223
  t127 := Tryz.underlying320
  a127 := Tryz.isAgg320
  z127 := Tryz.sizeOf320
  v127 := Tryz.zeroValue320 }
theorem Tryz.Builder_Extra_169 : Builder.Extra Tryz.prog Tryz.lays169_ren := {
  sizeBuilder := by kernel_rfl
  liesBuilder := by kernel_rfl
  t5 := Tryz.underlying5
  a5 := Tryz.isAgg5
  z5 := Tryz.sizeOf5
  v5 := Tryz.zeroValue5
  infoByte := by kernel_rfl
  cellsByte := by kernel_rfl
  sizeByte := by kernel_rfl
  neB5 := by decide }
open Go.RowKit in
theorem Tryz.Builder_String_any (B b : Nat) (l : List UInt8) (w : World) (h : Lib.IsBuilder 223 5 B b (Lib.byteCells l) w) (hBw : B ≤ w.heap.size) :
    Calls Tryz.prog 98 #[.pointer (some ⟨b, 0, none⟩)] w fun e w' => e = .returned (.string ⟨l.toArray⟩) ∧ Below B w w' := Any.Builder_String_any Tryz.lays169 Tryz.Builder_Extra_169 B b l w h hBw
def Tryz.lays137_ren : Go.Shelf.Ren := ⟨fun | 137 => 160 | 217 => 219 | 266 => 256 | n => n, fun | 9 => 9 | 5 => 5 | 3 => 3 | n => n, fun | n => n⟩
theorem Tryz.lays137 : Go.Proofs.Lays.n137 Tryz.prog Tryz.lays137_ren := {
  mixed := by kernel_rfl
  f137 := Tryz.func160.trans (congrArg some (by kernel_rfl))
  f217 := Tryz.func219.trans (congrArg some (by kernel_rfl))
  f266 := Tryz.func256.trans (congrArg some (by kernel_rfl))
  t3 := Tryz.underlying3
  a3 := Tryz.isAgg3
  z3 := Tryz.sizeOf3
  v3 := Tryz.zeroValue3
  t5 := Tryz.underlying5
  a5 := Tryz.isAgg5
  z5 := Tryz.sizeOf5
  v5 := Tryz.zeroValue5
  t9 := Tryz.underlying9
  a9 := Tryz.isAgg9
  z9 := Tryz.sizeOf9
  v9 := Tryz.zeroValue9 }
open Go.RowKit in
theorem Tryz.strings_IndexByte (s : ByteArray) (c : Int) (w : World) :
    Calls Tryz.prog 160 #[.string s, .int .u8 c] w fun e w' => e = .returned (.int .i64 (Lib.indexByte s.data.toList c.toNat.toUInt8)) ∧ w' = w := Any.strings_IndexByte Tryz.lays137 s c w
def Tryz.laysM173_ren : Go.Shelf.Ren := ⟨fun | 173 => 96 | 246 => 152 | 283 => 211 | 284 => 212 | 285 => 213 | 286 => 214 | 129 => 250 | 317 => 249 | 318 => 251 | 319 => 252 | 320 => 253 | 337 => 289 | 338 => 290 | n => n, fun | 2 => 2 | 3 => 3 | 9 => 9 | 4 => 4 | 171 => 388 | 0 => 0 | 53 => 389 | 37 => 221 | 5 => 5 | 173 => 392 | 212 => 439 | 51 => 440 | 20 => 20 | 213 => 441 | 46 => 360 | 232 => 528 | 233 => 529 | n => n, fun | 17 => 2 | 18 => 6 | 19 => 7 | n => n⟩
theorem Tryz.laysM173 : Go.Proofs.LaysM.n173 Tryz.prog Tryz.laysM173_ren := {
  mixed := by kernel_rfl
  f129 := Tryz.func250.trans (congrArg some (by kernel_rfl))
  f173 := Tryz.func96.trans (congrArg some (by kernel_rfl))
  f246 := Tryz.func152.trans (congrArg some (by kernel_rfl))
  f283 := Tryz.func211.trans (congrArg some (by kernel_rfl))
  f284 := Tryz.func212.trans (congrArg some (by kernel_rfl))
  f285 := Tryz.func213.trans (congrArg some (by kernel_rfl))
  f286 := Tryz.func214.trans (congrArg some (by kernel_rfl))
  f317 := Tryz.func249.trans (congrArg some (by kernel_rfl))
  f318 := Tryz.func251.trans (congrArg some (by kernel_rfl))
  f319 := Tryz.func252.trans (congrArg some (by kernel_rfl))
  f320 := Tryz.func253.trans (congrArg some (by kernel_rfl))
  f337 := Tryz.func289.trans (congrArg some (by kernel_rfl))
  f338 := Tryz.func290.trans (congrArg some (by kernel_rfl))
  t0 := Tryz.underlying0
  a0 := Tryz.isAgg0
  z0 := Tryz.sizeOf0
  v0 := Tryz.zeroValue0
  t2 := Tryz.underlying2
  a2 := Tryz.isAgg2
  z2 := Tryz.sizeOf2
  v2 := Tryz.zeroValue2
  t3 := Tryz.underlying3
  a3 := Tryz.isAgg3
  z3 := Tryz.sizeOf3
  v3 := Tryz.zeroValue3
  t4 := Tryz.underlying4
  a4 := Tryz.isAgg4
  z4 := Tryz.sizeOf4
  v4 := Tryz.zeroValue4
  t5 := Tryz.underlying5
  a5 := Tryz.isAgg5
  z5 := Tryz.sizeOf5
  v5 := Tryz.zeroValue5
  t9 := Tryz.underlying9
  a9 := Tryz.isAgg9
  z9 := Tryz.sizeOf9
  v9 := Tryz.zeroValue9
  t20 := Tryz.underlying20
  a20 := Tryz.isAgg20
  z20 := Tryz.sizeOf20
  v20 := Tryz.zeroValue20
  t37 := Tryz.underlying221
  a37 := Tryz.isAgg221
  z37 := Tryz.sizeOf221
  v37 := Tryz.zeroValue221
  t46 := Tryz.underlying360
  a46 := Tryz.isAgg360
  z46 := Tryz.sizeOf360
  v46 := Tryz.zeroValue360
  t51 := Tryz.underlying440
  a51 := Tryz.isAgg440
  z51 := Tryz.sizeOf440
  v51 := Tryz.zeroValue440
  t53 := Tryz.underlying389
  a53 := Tryz.isAgg389
  z53 := Tryz.sizeOf389
  v53 := Tryz.zeroValue389
  t171 := Tryz.underlying388
  a171 := Tryz.isAgg388
  z171 := Tryz.sizeOf388
  v171 := Tryz.zeroValue388
  t173 := Tryz.underlying392
  a173 := Tryz.isAgg392
  z173 := Tryz.sizeOf392
  v173 := Tryz.zeroValue392
  t212 := Tryz.underlying439
  a212 := Tryz.isAgg439
  z212 := Tryz.sizeOf439
  v212 := Tryz.zeroValue439
  t213 := Tryz.underlying441
  a213 := Tryz.isAgg441
  z213 := Tryz.sizeOf441
  t232 := Tryz.underlying528
  a232 := Tryz.isAgg528
  z232 := Tryz.sizeOf528
  v232 := Tryz.zeroValue528
  t233 := Tryz.underlying529
  a233 := Tryz.isAgg529
  z233 := Tryz.sizeOf529
  v233 := Tryz.zeroValue529
  g17 := by kernel_rfl
  g18 := by kernel_rfl
  g19 := by kernel_rfl
  i0 := by kernel_rfl
  i2 := by kernel_rfl
  i3 := by kernel_rfl
  i4 := by kernel_rfl
  i5 := by kernel_rfl
  i9 := by kernel_rfl
  i20 := by kernel_rfl
  i37 := by kernel_rfl
  i46 := by kernel_rfl
  i51 := by kernel_rfl
  i53 := by kernel_rfl
  i171 := by kernel_rfl
  i173 := by kernel_rfl
  i212 := by kernel_rfl
  i232 := by kernel_rfl
  i233 := by kernel_rfl
  m17 := by kernel_rfl
  m18 := by kernel_rfl
  m19 := by kernel_rfl }
theorem Tryz.strconv_FormatInt_10 (n : Int) (h0 : -9223372036854775808 ≤ n) (h1 : n ≤ 9223372036854775807) (w : World) (htab : Lib.TabIs Tryz.prog w "internal/strconv.uint64pow10" .u64 Lib.pow10Tab) :
    Calls Tryz.prog 96 #[.int .i64 n, .int .i64 10] w fun e w' => e = .returned (.string ⟨(Lib.itoa n).toArray⟩) ∧ ∃ k os, w' = grow (w.drewN k) os := Any.strconv_FormatInt_10 Tryz.laysM173 n h0 h1 w htab
def Tryz.laysC172_ren : Go.Shelf.Ren := ⟨fun | 172 => 107 | 244 => 163 | 245 => 164 | 247 => 224 | 279 => 225 | 280 => 226 | 281 => 227 | 282 => 228 | 287 => 261 | 316 => 262 | 171 => 264 | 205 => 263 | 321 => 302 | 322 => 303 | 243 => 304 | 246 => 152 | 283 => 211 | 284 => 212 | 285 => 213 | 286 => 214 | 129 => 250 | 317 => 249 | 318 => 251 | 319 => 252 | 320 => 253 | 337 => 289 | 338 => 290 | n => n, fun | 9 => 9 | 3 => 3 | 75 => 225 | 76 => 226 | 4 => 4 | 5 => 5 | 167 => 398 | 37 => 221 | 0 => 0 | 85 => 399 | 2 => 2 | 168 => 401 | 53 => 389 | 175 => 446 | 46 => 360 | 210 => 450 | 127 => 320 | 145 => 503 | 143 => 501 | 21 => 21 | 171 => 388 | 173 => 392 | 212 => 439 | 51 => 440 | 20 => 20 | 213 => 441 | 232 => 528 | 233 => 529 | 80 => 234 | n => n, fun | 15 => 3 | 16 => 4 | 17 => 2 | 18 => 6 | 19 => 7 | n => n⟩
theorem Tryz.laysC172 : Go.Proofs.LaysC.n172 Tryz.prog Tryz.laysC172_ren := {
  mixed := by kernel_rfl
  f129 := Tryz.func250.trans (congrArg some (by kernel_rfl))
  f171 := Tryz.func264.trans (congrArg some (by kernel_rfl))
  f172 := Tryz.func107.trans (congrArg some (by kernel_rfl))
  f205 := Tryz.func263.trans (congrArg some (by kernel_rfl))
  f243 := Tryz.func304.trans (congrArg some (by kernel_rfl))
  f244 := Tryz.func163.trans (congrArg some (by kernel_rfl))
  f245 := Tryz.func164.trans (congrArg some (by kernel_rfl))
  f246 := Tryz.func152.trans (congrArg some (by kernel_rfl))
  f247 := Tryz.func224.trans (congrArg some (by kernel_rfl))
  f279 := Tryz.func225.trans (congrArg some (by kernel_rfl))
  f280 := Tryz.func226.trans (congrArg some (by kernel_rfl))
  f281 := Tryz.func227.trans (congrArg some (by kernel_rfl))
  f282 := Tryz.func228.trans (congrArg some (by kernel_rfl))
  f283 := Tryz.func211.trans (congrArg some (by kernel_rfl))
  f284 := Tryz.func212.trans (congrArg some (by kernel_rfl))
  f285 := Tryz.func213.trans (congrArg some (by kernel_rfl))
  f286 := Tryz.func214.trans (congrArg some (by kernel_rfl))
  f287 := Tryz.func261.trans (congrArg some (by kernel_rfl))
  f316 := Tryz.func262.trans (congrArg some (by kernel_rfl))
  f317 := Tryz.func249.trans (congrArg some (by kernel_rfl))
  f318 := Tryz.func251.trans (congrArg some (by kernel_rfl))
  f319 := Tryz.func252.trans (congrArg some (by kernel_rfl))
  f320 := Tryz.func253.trans (congrArg some (by kernel_rfl))
  f321 := Tryz.func302.trans (congrArg some (by kernel_rfl))
  f322 := Tryz.func303.trans (congrArg some (by kernel_rfl))
  f337 := Tryz.func289.trans (congrArg some (by kernel_rfl))
  f338 := Tryz.func290.trans (congrArg some (by kernel_rfl))
  t0 := Tryz.underlying0
  a0 := Tryz.isAgg0
  z0 := Tryz.sizeOf0
  v0 := Tryz.zeroValue0
  t2 := Tryz.underlying2
  a2 := Tryz.isAgg2
  z2 := Tryz.sizeOf2
  v2 := Tryz.zeroValue2
  t3 := Tryz.underlying3
  a3 := Tryz.isAgg3
  z3 := Tryz.sizeOf3
  v3 := Tryz.zeroValue3
  t4 := Tryz.underlying4
  a4 := Tryz.isAgg4
  z4 := Tryz.sizeOf4
  v4 := Tryz.zeroValue4
  t5 := Tryz.underlying5
  a5 := Tryz.isAgg5
  z5 := Tryz.sizeOf5
  v5 := Tryz.zeroValue5
  t9 := Tryz.underlying9
  a9 := Tryz.isAgg9
  z9 := Tryz.sizeOf9
  v9 := Tryz.zeroValue9
  t20 := Tryz.underlying20
  a20 := Tryz.isAgg20
  z20 := Tryz.sizeOf20
  v20 := Tryz.zeroValue20
  t21 := Tryz.underlying21
  a21 := Tryz.isAgg21
  z21 := Tryz.sizeOf21
  v21 := Tryz.zeroValue21
  t37 := Tryz.underlying221
  a37 := Tryz.isAgg221
  z37 := Tryz.sizeOf221
  v37 := Tryz.zeroValue221
  t46 := Tryz.underlying360
  a46 := Tryz.isAgg360
  z46 := Tryz.sizeOf360
  v46 := Tryz.zeroValue360
  t51 := Tryz.underlying440
  a51 := Tryz.isAgg440
  z51 := Tryz.sizeOf440
  v51 := Tryz.zeroValue440
  t53 := Tryz.underlying389
  a53 := Tryz.isAgg389
  z53 := Tryz.sizeOf389
  v53 := Tryz.zeroValue389
  t75 := Tryz.underlying225
  a75 := Tryz.isAgg225
  z75 := Tryz.sizeOf225
  v75 := Tryz.zeroValue225
  t76 := Tryz.underlying226
  a76 := Tryz.isAgg226
  z76 := Tryz.sizeOf226
  v76 := Tryz.zeroValue226
  t85 := Tryz.underlying399
  a85 := Tryz.isAgg399
  z85 := Tryz.sizeOf399
  v85 := Tryz.zeroValue399
  t127 := Tryz.underlying320
  a127 := Tryz.isAgg320
  z127 := Tryz.sizeOf320
  v127 := Tryz.zeroValue320
  t143 := Tryz.underlying501
  a143 := Tryz.isAgg501
  z143 := Tryz.sizeOf501
  v143 := Tryz.zeroValue501
  t145 := Tryz.underlying503
  a145 := Tryz.isAgg503
  z145 := Tryz.sizeOf503
  v145 := Tryz.zeroValue503
  t167 := Tryz.underlying398
  a167 := Tryz.isAgg398
  z167 := Tryz.sizeOf398
  v167 := Tryz.zeroValue398
  t168 := Tryz.underlying401
  a168 := Tryz.isAgg401
  z168 := Tryz.sizeOf401
  v168 := Tryz.zeroValue401
  t171 := Tryz.underlying388
  a171 := Tryz.isAgg388
  z171 := Tryz.sizeOf388
  v171 := Tryz.zeroValue388
  t173 := Tryz.underlying392
  a173 := Tryz.isAgg392
  z173 := Tryz.sizeOf392
  v173 := Tryz.zeroValue392
  t175 := Tryz.underlying446
  a175 := Tryz.isAgg446
  z175 := Tryz.sizeOf446
  v175 := Tryz.zeroValue446
  t210 := Tryz.underlying450
  a210 := Tryz.isAgg450
  z210 := Tryz.sizeOf450
  v210 := Tryz.zeroValue450
  t212 := Tryz.underlying439
  a212 := Tryz.isAgg439
  z212 := Tryz.sizeOf439
  v212 := Tryz.zeroValue439
  t213 := Tryz.underlying441
  a213 := Tryz.isAgg441
  z213 := Tryz.sizeOf441
  t232 := Tryz.underlying528
  a232 := Tryz.isAgg528
  z232 := Tryz.sizeOf528
  v232 := Tryz.zeroValue528
  t233 := Tryz.underlying529
  a233 := Tryz.isAgg529
  z233 := Tryz.sizeOf529
  v233 := Tryz.zeroValue529
  g15 := by kernel_rfl
  g16 := by kernel_rfl
  g17 := by kernel_rfl
  g18 := by kernel_rfl
  g19 := by kernel_rfl
  t80 := Tryz.underlying234
  a80 := Tryz.isAgg234
  z80 := Tryz.sizeOf234
  v80 := Tryz.zeroValue234
  i0 := by kernel_rfl
  i2 := by kernel_rfl
  i3 := by kernel_rfl
  i4 := by kernel_rfl
  i5 := by kernel_rfl
  i9 := by kernel_rfl
  i20 := by kernel_rfl
  i21 := by kernel_rfl
  i37 := by kernel_rfl
  i46 := by kernel_rfl
  i51 := by kernel_rfl
  i53 := by kernel_rfl
  i75 := by kernel_rfl
  i76 := by kernel_rfl
  i80 := by kernel_rfl
  i85 := by kernel_rfl
  i127 := by kernel_rfl
  i143 := by kernel_rfl
  i145 := by kernel_rfl
  i167 := by kernel_rfl
  i168 := by kernel_rfl
  i171 := by kernel_rfl
  i173 := by kernel_rfl
  i175 := by kernel_rfl
  i210 := by kernel_rfl
  i212 := by kernel_rfl
  i232 := by kernel_rfl
  i233 := by kernel_rfl
  m15 := by kernel_rfl
  m16 := by kernel_rfl
  m17 := by kernel_rfl
  m18 := by kernel_rfl
  m19 := by kernel_rfl
  c0 := by kernel_rfl
  c2 := by kernel_rfl
  c3 := by kernel_rfl
  c4 := by kernel_rfl
  c5 := by kernel_rfl
  c9 := by kernel_rfl
  c20 := by kernel_rfl
  c21 := by kernel_rfl
  c37 := by kernel_rfl
  c46 := by kernel_rfl
  c51 := by kernel_rfl
  c53 := by kernel_rfl
  c75 := by kernel_rfl
  c76 := by kernel_rfl
  c80 := by kernel_rfl
  c85 := by kernel_rfl
  c127 := by kernel_rfl
  c143 := by kernel_rfl
  c145 := by kernel_rfl
  c167 := by kernel_rfl
  c168 := by kernel_rfl
  c171 := by kernel_rfl
  c173 := by kernel_rfl
  c175 := by kernel_rfl
  c210 := by kernel_rfl
  c212 := by kernel_rfl
  c213 := by kernel_rfl
  c232 := by kernel_rfl
  c233 := by kernel_rfl }
open Go.RowKit in
theorem Tryz.strconv_Atoi_ok (s : ByteArray) (hmax : s.size ≤ 9223372036854775806) (v : Int) (h : Lib.atoiAll s.data.toList = .ok v) (w : World) :
    Calls Tryz.prog 107 #[.string s] w fun e w' => e = .returned (.tuple #[.int .i64 v, .nilIface]) ∧ (w' = w ∨ ∃ t, w' = Lib.bytesWorld w 5 t) := Any.strconv_Atoi_ok Tryz.laysC172 s hmax v h w
open Go.RowKit in
theorem Tryz.strconv_Atoi_bad (s : ByteArray) (hlim : s.size ≤ 281474976710656) (h : Lib.atoiAll s.data.toList ≠ .range ∧ ∀ v, Lib.atoiAll s.data.toList ≠ .ok v) (ev : Value) (w : World) (hv : w.cell? ⟨3, 0, none⟩ = some ev) (hev : ev = .nilIface ∨ ∃ te pe, ev = .iface te pe) :
    Calls Tryz.prog 107 #[.string s] w fun e w' => ∃ N, e = .returned (.tuple #[.int .i64 (0), .iface 401 (.pointer (some ⟨N, 0, none⟩))]) ∧ w.heap.size ≤ N ∧ w'.heap[N]? = some (.cells #[.string ⟨#[65, 116, 111, 105]⟩, .string s, ev] 450 (0, 0)) ∧ Below w.heap.size w w' := by
  refine Any.strconv_Atoi_syntax Tryz.laysC172 s hlim ?_ ev w hv hev
  cases hq : Lib.atoiAll s.data.toList with
  | ok v => exact absurd hq (h.2 v)
  | range => exact absurd hq h.1
  | _ => rfl
open Go.RowKit in
theorem Tryz.strconv_Atoi_range (s : ByteArray) (hlim : s.size ≤ 281474976710656) (h : Lib.atoiAll s.data.toList = .range) (ev : Value) (w : World) (hv : w.cell? ⟨4, 0, none⟩ = some ev) (hev : ev = .nilIface ∨ ∃ te pe, ev = .iface te pe) :
    Calls Tryz.prog 107 #[.string s] w fun e w' => ∃ N, e = .returned (.tuple #[.int .i64 (Lib.atoiSat s.data.toList), .iface 401 (.pointer (some ⟨N, 0, none⟩))]) ∧ w.heap.size ≤ N ∧ w'.heap[N]? = some (.cells #[.string ⟨#[65, 116, 111, 105]⟩, .string s, ev] 450 (0, 0)) ∧ Below w.heap.size w w' := Any.strconv_Atoi_range Tryz.laysC172 s hlim h ev w hv hev
def Tryz.lays102_ren : Go.Shelf.Ren := ⟨fun | 102 => 106 | 209 => 162 | 207 => 223 | n => n, fun | 9 => 9 | 4 => 4 | 3 => 3 | n => n, fun | n => n⟩
theorem Tryz.lays102 : Go.Proofs.Lays.n102 Tryz.prog Tryz.lays102_ren := {
  mixed := by kernel_rfl
  f102 := Tryz.func106.trans (congrArg some (by kernel_rfl))
  f207 := Tryz.func223.trans (congrArg some (by kernel_rfl))
  f209 := Tryz.func162.trans (congrArg some (by kernel_rfl))
  t3 := Tryz.underlying3
  a3 := Tryz.isAgg3
  z3 := Tryz.sizeOf3
  v3 := Tryz.zeroValue3
  t4 := Tryz.underlying4
  a4 := Tryz.isAgg4
  z4 := Tryz.sizeOf4
  v4 := Tryz.zeroValue4
  t9 := Tryz.underlying9
  a9 := Tryz.isAgg9
  z9 := Tryz.sizeOf9
  v9 := Tryz.zeroValue9 }
theorem Tryz.strings_TrimSuffix (s p : ByteArray) (w : World) (hs : s.size ≤ 9223372036854775807) :
    Calls Tryz.prog 106 #[.string s, .string p] w fun e w' => e = .returned (.string ⟨(Lib.trimSuffix s.data.toList p.data.toList).toArray⟩) ∧ w' = w := Any.strings_TrimSuffix Tryz.lays102 s p w hs
def Tryz.lays146_ren : Go.Shelf.Ren := ⟨fun | 146 => 105 | 221 => 161 | 268 => 220 | 138 => 221 | 143 => 222 | 195 => 257 | 197 => 258 | 218 => 259 | 219 => 260 | 260 => 298 | 217 => 219 | 225 => 299 | 224 => 300 | 267 => 301 | 266 => 256 | 314 => 325 | n => n, fun | 9 => 9 | 31 => 113 | 3 => 3 | 4 => 4 | 0 => 0 | 105 => 444 | 21 => 21 | 5 => 5 | 46 => 360 | 119 => 532 | 139 => 535 | 138 => 534 | 146 => 536 | 51 => 440 | n => n, fun | 1 => 5 | 3 => 8 | 4 => 9 | n => n⟩
theorem Tryz.lays146 : Go.Proofs.Lays.n146 Tryz.prog Tryz.lays146_ren := {
  mixed := by kernel_rfl
  f138 := Tryz.func221.trans (congrArg some (by kernel_rfl))
  f143 := Tryz.func222.trans (congrArg some (by kernel_rfl))
  f146 := Tryz.func105.trans (congrArg some (by kernel_rfl))
  f195 := Tryz.func257.trans (congrArg some (by kernel_rfl))
  f197 := Tryz.func258.trans (congrArg some (by kernel_rfl))
  f217 := Tryz.func219.trans (congrArg some (by kernel_rfl))
  f218 := Tryz.func259.trans (congrArg some (by kernel_rfl))
  f219 := Tryz.func260.trans (congrArg some (by kernel_rfl))
  f221 := Tryz.func161.trans (congrArg some (by kernel_rfl))
  f224 := Tryz.func300.trans (congrArg some (by kernel_rfl))
  f225 := Tryz.func299.trans (congrArg some (by kernel_rfl))
  f260 := Tryz.func298.trans (congrArg some (by kernel_rfl))
  f266 := Tryz.func256.trans (congrArg some (by kernel_rfl))
  f267 := Tryz.func301.trans (congrArg some (by kernel_rfl))
  f268 := Tryz.func220.trans (congrArg some (by kernel_rfl))
  f314 := Tryz.func325.trans (congrArg some (by kernel_rfl))
  t0 := Tryz.underlying0
  a0 := Tryz.isAgg0
  z0 := Tryz.sizeOf0
  v0 := Tryz.zeroValue0
  t3 := Tryz.underlying3
  a3 := Tryz.isAgg3
  z3 := Tryz.sizeOf3
  v3 := Tryz.zeroValue3
  t4 := Tryz.underlying4
  a4 := Tryz.isAgg4
  z4 := Tryz.sizeOf4
  v4 := Tryz.zeroValue4
  t5 := Tryz.underlying5
  a5 := Tryz.isAgg5
  z5 := Tryz.sizeOf5
  v5 := Tryz.zeroValue5
  t9 := Tryz.underlying9
  a9 := Tryz.isAgg9
  z9 := Tryz.sizeOf9
  v9 := Tryz.zeroValue9
  t21 := Tryz.underlying21
  a21 := Tryz.isAgg21
  z21 := Tryz.sizeOf21
  v21 := Tryz.zeroValue21
  t31 := Tryz.underlying113
  a31 := Tryz.isAgg113
  z31 := Tryz.sizeOf113
  v31 := Tryz.zeroValue113
  t46 := Tryz.underlying360
  a46 := Tryz.isAgg360
  z46 := Tryz.sizeOf360
  v46 := Tryz.zeroValue360
  t51 := Tryz.underlying440
  a51 := Tryz.isAgg440
  z51 := Tryz.sizeOf440
  v51 := Tryz.zeroValue440
  t105 := Tryz.underlying444
  a105 := Tryz.isAgg444
  z105 := Tryz.sizeOf444
  v105 := Tryz.zeroValue444
  t119 := Tryz.underlying532
  a119 := Tryz.isAgg532
  z119 := Tryz.sizeOf532
  t138 := Tryz.underlying534
  a138 := Tryz.isAgg534
  z138 := Tryz.sizeOf534
  v138 := Tryz.zeroValue534
  t139 := Tryz.underlying535
  a139 := Tryz.isAgg535
  z139 := Tryz.sizeOf535
  v139 := Tryz.zeroValue535
  t146 := Tryz.underlying536
  a146 := Tryz.isAgg536
  z146 := Tryz.sizeOf536
  v146 := Tryz.zeroValue536
  g1 := by kernel_rfl
  g3 := by kernel_rfl
  g4 := by kernel_rfl }
theorem Tryz.strings_Split (s sep : ByteArray) (m : Int) (w : World) (hs : s.size < 4294967281) (hm : w.cell? ⟨5, 0, none⟩ = some (.int .i64 m)) (h1 : 1 ≤ sep.size) :
    Calls Tryz.prog 105 #[.string s, .string sep] w fun e w' =>
      e = .returned (.slice (some ⟨w.heap.size, 0, none⟩) (Lib.countB s sep + 1) (Lib.countB s sep + 1)) ∧ w' = w.alloc (.cells ((Lib.splitB sep 0 (Lib.countB s sep) s).map Value.string).toArray 9) := Any.strings_Split Tryz.lays146 (by kernel_rfl) s sep m w hs hm h1
end Go.Proofs
/- strings.Builder, walked. -/
namespace Go.Proofs.YtpbflnfcgcldkaaGreatDoor.Take
open Go.Sx Go.Proofs Go.RowKit
section
variable {w w0 : World} {b : Nat} {H1 J1 : Items} {v : Value} {p : Bool} {A : Option Addr} {c : Nat} {bs : List UInt8}
abbrev bptr (p : Bool) (b : Nat) : Value := .pointer (if p then some ⟨b, 0, none⟩ else none)
theorem C_copyCheck0 (m : SH w0 none' ((b, blk [.pointer none, v] 223) :: H1) w) :
    Ret Tryz.prog 151 [ptr b 0].toArray w fun r w' => r = .tuple #[] ∧ SH w0 none' ((b, blk [ptr b 0, v] 223) :: H1) w' := by
  refine Ret_ofH (vs := [_]) hm none' Tryz.func151 rfl Tryz.ntmps151 rfl m ?_
  dsimp only [slotsOf]
  refine GE_seq ?_;refine GE_plain (.st 0 (.st 1 (.st 2 (.st 3 (.st 4 .nil))))) rfl ?_;refine GT_st rfl rfl rfl rfl (V_move rfl rfl) ?_;refine GT_st rfl rfl rfl rfl (V_nilCheck rfl rfl) ?_;refine GT_st rfl rfl rfl rfl (V_field rfl rfl fo_223_0) ?_;refine GT_st rfl rfl rfl rfl (V_load rfl rfl ag_220 (CellAt.item rfl)) ?_;refine GT_st rfl rfl rfl rfl (V_eqlNilPtr rfl rfl rfl Tryz.underlying220) ?_;refine GT_nil ?_;refine GE_cond_t rfl ?_;refine GE_slots (L' := [(0, _)]) ⟨rfl, trivial⟩ ?_;refine GE_plain (.st 0 (.st 1 (.st 2 (.ld 3 [] (.st 4 (.st 5 (.st 6 (.ld 7 [] .nil)))))))) rfl ?_;refine GT_st rfl rfl rfl rfl (V_move rfl rfl) ?_;refine GT_st rfl rfl rfl rfl (V_move rfl rfl) ?_;refine GT_st rfl rfl rfl rfl (V_toUnsafe rfl rfl Tryz.underlying220 Tryz.underlying385 sz_223 (by decide) (Nat.le_of_ble_eq_true rfl)) ?_;refine GT_ldv rfl rfl rfl rfl rfl (V_noEscape rfl rfl rfl Tryz.func210 (by kernel_rfl) (by kernel_rfl) (by kernel_rfl) (by kernel_rfl)) (GR_nil) ?_;refine GT_st rfl rfl rfl rfl (V_fromUnsafe rfl rfl Tryz.underlying385 Tryz.underlying220 sz_223 (by kernel_rfl)) ?_;refine GT_st rfl rfl rfl rfl (V_nilCheck rfl rfl) ?_;refine GT_st rfl rfl rfl rfl (V_field rfl rfl fo_223_0) ?_;refine GT_store (vs := [_]) (l' := [_, _]) rfl rfl rfl rfl rfl rfl rfl sz_220 rfl rfl (Nat.le_of_ble_eq_true rfl) rfl (GR_nil) ?_;refine GT_nil ?_;refine GE_end Tryz.func151 rfl (fun w hw => ?_)
  exact ⟨rfl, hw⟩
theorem C_copyCheck1 (m : SH w0 none' ((b, blk [ptr b 0, v] 223) :: H1) w) :
    Ret Tryz.prog 151 [ptr b 0].toArray w fun r w' => r = .tuple #[] ∧ SH w0 none' ((b, blk [ptr b 0, v] 223) :: H1) w' := by
  refine Ret_ofH (vs := [_]) hm none' Tryz.func151 rfl Tryz.ntmps151 rfl m ?_
  dsimp only [slotsOf]
  refine GE_seq ?_;refine GE_plain (.st 0 (.st 1 (.st 2 (.st 3 (.st 4 .nil))))) rfl ?_;refine GT_st rfl rfl rfl rfl (V_move rfl rfl) ?_;refine GT_st rfl rfl rfl rfl (V_nilCheck rfl rfl) ?_;refine GT_st rfl rfl rfl rfl (V_field rfl rfl fo_223_0) ?_;refine GT_st rfl rfl rfl rfl (V_load rfl rfl ag_220 (CellAt.item rfl)) ?_;refine GT_st rfl rfl rfl rfl (V_eqlNilPtr rfl rfl rfl Tryz.underlying220) ?_;refine GT_nil ?_;refine GE_cond_f rfl ?_;refine GE_seq ?_;refine GE_slots (L' := [(0, _)]) ⟨rfl, trivial⟩ ?_;refine GE_plain (.st 0 (.st 1 (.st 2 (.st 3 (.st 4 (.st 5 .nil)))))) rfl ?_;refine GT_st rfl rfl rfl rfl (V_move rfl rfl) ?_;refine GT_st rfl rfl rfl rfl (V_nilCheck rfl rfl) ?_;refine GT_st rfl rfl rfl rfl (V_field rfl rfl fo_223_0) ?_;refine GT_st rfl rfl rfl rfl (V_load rfl rfl ag_220 (CellAt.item rfl)) ?_;refine GT_st rfl rfl rfl rfl (V_move rfl rfl) ?_;refine GT_st rfl rfl rfl rfl (V_neqPtrSame rfl rfl rfl Tryz.underlying220 sz_223) ?_;refine GT_nil ?_;refine GE_cond_f rfl ?_;refine GE_skip ?_;refine GE_end Tryz.func151 rfl (fun w hw => ?_)
  exact ⟨rfl, hw⟩
theorem C_copyCheck (m : SH w0 none' ((b, blk [bptr p b, v] 223) :: H1) w) :
    Ret Tryz.prog 151 [ptr b 0].toArray w fun r w' => ∃ _ : Unit, True ∧ r = .tuple #[] ∧ SH w0 none' ((b, blk [ptr b 0, v] 223) :: H1) w' := by
  cases p with
  | false => exact (C_copyCheck0 m).mono fun r w' ⟨h1, h2⟩ => ⟨(), trivial, h1, h2⟩
  | true => exact (C_copyCheck1 m).mono fun r w' ⟨h1, h2⟩ => ⟨(), trivial, h1, h2⟩
theorem C_WriteString {s : ByteArray} (m : SH w0 none' ((b, blk [bptr p b, .slice A bs.length c] 223) :: (J1 ++ H1)) w) (hO : Own 1 5 eU bs (.slice A bs.length c) J1) (hn : bs.length + s.size ≤ 1000000000000) :
    Ret Tryz.prog 95 [ptr b 0, .string s].toArray w fun r w' => ∃ y : Option Addr × Nat × Items, Own 1 5 eU (bs ++ byz s) (.slice y.1 (bs ++ byz s).length y.2.1) y.2.2 ∧ r = .tuple #[I s.size, .nilIface] ∧ SH w0 none' ((b, blk [ptr b 0, .slice y.1 (bs ++ byz s).length y.2.1] 223) :: (y.2.2 ++ H1)) w' := by
  refine Ret_ofH (vs := [_, _]) hm none' Tryz.func95 rfl Tryz.ntmps95 rfl m ?_
  dsimp only [slotsOf]
  refine GE_seq ?_;refine GE_plain (.st 0 (.st 1 .nil)) rfl ?_;refine GT_st rfl rfl rfl rfl (V_assign rfl rfl) ?_;refine GT_st rfl rfl rfl rfl (V_assign rfl rfl) ?_;refine GT_nil ?_;refine GE_seq ?_;refine GE_plain (.st 0 (.ld 1 [] .nil)) rfl ?_;refine GT_st rfl rfl rfl rfl (V_move rfl rfl) ?_;refine GT_callX rfl rfl rfl rfl rfl rfl rfl rfl rn_151 (fun w m => C_copyCheck m) (fun _ _ => GR_nil) (fun _ _ => ?_)
  refine GT_nil ?_;refine GE_seq ?_;refine GE_slots (L' := [(0, _), (1, _)]) ⟨rfl, rfl, trivial⟩ ?_;refine GE_plain (.st 0 (.st 1 (.st 2 (.st 3 (.st 4 (.st 5 (.ld 6 [] (.st 7 (.st 8 (.ld 9 [] .nil)))))))))) rfl ?_;refine GT_st rfl rfl rfl rfl (V_move rfl rfl) ?_;refine GT_st rfl rfl rfl rfl (V_move rfl rfl) ?_;refine GT_st rfl rfl rfl rfl (V_nilCheck rfl rfl) ?_;refine GT_st rfl rfl rfl rfl (V_field rfl rfl fo_223_1) ?_;refine GT_st rfl rfl rfl rfl (V_load rfl rfl ag_221 (CellAt.item rfl)) ?_;refine GT_st rfl rfl rfl rfl (V_move rfl rfl) ?_;refine GT_appendS (l := bs) rfl rfl rfl rfl rfl rfl rfl hO Tryz.underlying221 Tryz.underlying9 zc_5 sz_5 rfl by_5 (by omega) (fun _ _ _ _ => GR_nil) (fun A2 c2 I2 hO2 => ?_)
  refine GT_st rfl rfl rfl rfl (V_nilCheck rfl rfl) ?_;refine GT_st rfl rfl rfl rfl (V_field rfl rfl fo_223_1) ?_;refine GT_store (vs := [_]) (l' := [_, _]) rfl rfl rfl rfl rfl rfl rfl sz_221 rfl rfl (Nat.le_of_ble_eq_true rfl) rfl (GR_nil) ?_;refine GT_nil ?_;refine GE_seq ?_;refine GE_slots (L' := [(1, _)]) ⟨rfl, trivial⟩ ?_;refine GE_plain (.st 0 (.st 1 (.st 2 (.st 3 .nil)))) rfl ?_;refine GT_st rfl rfl rfl rfl (V_move rfl rfl) ?_;refine GT_st rfl rfl rfl rfl (V_len_str rfl Tryz.underlying9 rfl) ?_;refine GT_st rfl rfl rfl rfl (V_assign rfl rfl) ?_;refine GT_st rfl rfl rfl rfl (V_assign rfl rfl) ?_;refine GT_nil ?_;refine GE_ret Tryz.func95 ⟨_, _, rfl, rfl, rfl⟩ (fun w hw => ?_)
  exact ⟨(A2, c2, I2), hO2, rfl, hw.hs (C := cx Tryz.prog hm 0 0 w0 none' fun _ _ => True) (HS.cons rfl (HS.chunk HS.last))⟩
theorem C_WriteByte {x : UInt8} (m : SH w0 none' ((b, blk [bptr p b, .slice A bs.length c] 223) :: (J1 ++ H1)) w) (hO : Own 1 5 eU bs (.slice A bs.length c) J1) (hn : bs.length + 1 ≤ 1000000000000) :
    Ret Tryz.prog 97 [ptr b 0, .int .u8 x.toNat].toArray w fun r w' => ∃ y : Option Addr × Nat × Items, Own 1 5 eU (bs ++ [x]) (.slice y.1 (bs ++ [x]).length y.2.1) y.2.2 ∧ r = .nilIface ∧ SH w0 none' ((b, blk [ptr b 0, .slice y.1 (bs ++ [x]).length y.2.1] 223) :: (y.2.2 ++ H1)) w' := by
  refine Ret_ofH (vs := [_, _]) hm none' Tryz.func97 rfl Tryz.ntmps97 rfl m ?_
  dsimp only [slotsOf]
  refine GE_seq ?_;refine GE_plain (.st 0 .nil) rfl ?_;refine GT_st rfl rfl rfl rfl (V_assign rfl rfl) ?_;refine GT_nil ?_;refine GE_seq ?_;refine GE_plain (.st 0 (.ld 1 [] .nil)) rfl ?_;refine GT_st rfl rfl rfl rfl (V_move rfl rfl) ?_;refine GT_callX rfl rfl rfl rfl rfl rfl rfl rfl rn_151 (fun w m => C_copyCheck m) (fun _ _ => GR_nil) (fun _ _ => ?_)
  refine GT_nil ?_;refine GE_seq ?_;refine GE_plain (.st 0 (.st 1 (.st 2 (.st 3 (.st 4 (.st 5 (.ld 6 [] (.ld 7 [] (.st 8 (.st 9 (.ld 10 [] .nil))))))))))) rfl ?_;refine GT_st rfl rfl rfl rfl (V_move rfl rfl) ?_;refine GT_st rfl rfl rfl rfl (V_move rfl rfl) ?_;refine GT_st rfl rfl rfl rfl (V_nilCheck rfl rfl) ?_;refine GT_st rfl rfl rfl rfl (V_field rfl rfl fo_223_1) ?_;refine GT_st rfl rfl rfl rfl (V_load rfl rfl ag_221 (CellAt.item rfl)) ?_;refine GT_st rfl rfl rfl rfl (V_move rfl rfl) ?_;refine GT_buildSlice (z := [_]) rfl rfl rfl rfl rfl Tryz.underlying221 zc_5 sz_5 (by decide) rfl rfl (fun _ => GR_nil) (fun b13 => ?_)
  refine GT_append (enc := eU) (l := bs) (m := [x]) rfl rfl rfl rfl rfl rfl rfl hO (fun w m => RdL.own' m eU_len) Tryz.underlying221 zc_5 sz_5 ⟨rfl, by decide⟩ by_5 ⟨by simp only [List.length_singleton]; omega, by simp only [List.length_singleton]; omega⟩ eU_len eU_one (fun _ _ _ _ => GR_nil) (fun A2 c2 I2 hO2 => ?_)
  refine GT_st rfl rfl rfl rfl (V_nilCheck rfl rfl) ?_;refine GT_st rfl rfl rfl rfl (V_field rfl rfl fo_223_1) ?_;refine GT_store (vs := [_]) (l' := [_, _]) rfl rfl rfl rfl rfl rfl rfl sz_221 rfl rfl (Nat.le_of_ble_eq_true rfl) rfl (GR_nil) ?_;refine GT_nil ?_;refine GE_seq ?_;refine GE_slots (L' := []) trivial ?_;refine GE_plain (.st 0 .nil) rfl ?_;refine GT_st rfl rfl rfl rfl (V_assign rfl rfl) ?_;refine GT_nil ?_;refine GE_ret Tryz.func97 rfl (fun w hw => ?_)
  exact ⟨(A2, c2, I2), hO2, rfl, hw.hs (C := cx Tryz.prog hm 0 0 w0 none' fun _ _ => True) (HS.cons rfl (HS.chunk HS.last))⟩
end
end Go.Proofs.YtpbflnfcgcldkaaGreatDoor.Take
