/-
 DERIVED: THE SHELF's CONTRACTS AT THIS DUMP, IN PLAIN WORDS (tools/lay-plain.mjs out of 'TryzShelf.lean', which tools/lay-shelf.mjs wrote): THE SAME DECLARATIONS UNDER THE SAME NAMES: 'import', 'namespace', 'open', 'def', 'theorem' AND NOTHING ELSE: no command of the shelf's: FOR A HAND-IN. Each laying: the table of numbers ('.._ren') and one theorem, a field a fact of the dump's own or the kernel's comparison; each contract: ONE APPLICATION.
-/
import Derived.Shelf.Small.Strs
import Derived.Shelf.Utf8.RuneCount
import Derived.Shelf.Strings.Search1
import Derived.Shelf.Strings.Search2
import Derived.Shelf.Strings.Search3
import Derived.Shelf.Strings.Count
import Derived.Shelf.LaysM
import Derived.Shelf.Strings.Shaped
import Derived.Shelf.Strings.Split
import Derived.Shelf.Strings.Fields
import Derived.Shelf.Strings.SplitShaped
import Derived.Shelf.Unicode.Latin
import Derived.Shelf.Unicode.Decode
import Derived.Shelf.Strings.RuneCount
import Derived.Shelf.Strings.Explode
import Derived.Shelf.Bits.Mul64
import Derived.Shelf.Unicode.DecodeSlow
import Derived.Shelf.Unicode.DecodeAny
import Derived.Shelf.Unicode.Is16White
import Derived.Shelf.Unicode.IsSpaceAny
import Derived.Shelf.Unicode.Is16WhiteD
import Derived.Shelf.Unicode.IsSpaceAnyD
import Derived.Shelf.Strings.FieldsAny
import Derived.Shelf.Strings.FieldsFuncAny
import Derived.Shelf.Unicode.Is16Any
import Derived.Shelf.Unicode.Is32Any
import Derived.Shelf.Unicode.ExclAny
import Derived.Shelf.Slices.Equal
import Derived.Ground.Names2Prog
import Derived.Shelf.Slices.Clone
import Derived.Shelf.Slices.Empties2
import Derived.Ground.SlgnProg
import Derived.Shelf.SlicesE.Clone
import Derived.Test.YtkmmjpnfhaecdaaGreatDoorProg
namespace Go.Proofs
open Go.Shelf
def Tryz.lays143_ren:Go.Shelf.Ren:=⟨λ| 143=>288 | 219=>298 | 217=>245 | 225=>303 | 224=>304 | 267=>305 | 266=>277 | 314=>307|n=>n,λ| 9=>9 | 3=>3 | 4=>4 | 5=>5 | 46=>262 | 146=>287 | 51=>255|n=>n,λ| 1=>2|n=>n⟩
theorem Tryz.lays143:Go.Proofs.Lays.n143 Tryz.prog Tryz.lays143_ren:={
 mixed:=by kernel_rfl
 f143:=Tryz.func288.trans (congrArg some (by kernel_rfl))
 f217:=Tryz.func245.trans (congrArg some (by kernel_rfl))
 f219:=Tryz.func298.trans (congrArg some (by kernel_rfl))
 f224:=Tryz.func304.trans (congrArg some (by kernel_rfl))
 f225:=Tryz.func303.trans (congrArg some (by kernel_rfl))
 f266:=Tryz.func277.trans (congrArg some (by kernel_rfl))
 f267:=Tryz.func305.trans (congrArg some (by kernel_rfl))
 f314:=Tryz.func307.trans (congrArg some (by kernel_rfl))
 t3:=Tryz.underlying3
 a3:=Tryz.isAgg3
 z3:=Tryz.sizeOf3
 v3:=Tryz.zeroValue3
 t4:=Tryz.underlying4
 a4:=Tryz.isAgg4
 z4:=Tryz.sizeOf4
 v4:=Tryz.zeroValue4
 t5:=Tryz.underlying5
 a5:=Tryz.isAgg5
 z5:=Tryz.sizeOf5
 v5:=Tryz.zeroValue5
 t9:=Tryz.underlying9
 a9:=Tryz.isAgg9
 z9:=Tryz.sizeOf9
 v9:=Tryz.zeroValue9
 t46:=Tryz.underlying262
 a46:=Tryz.isAgg262
 z46:=Tryz.sizeOf262
 v46:=Tryz.zeroValue262
 t51:=Tryz.underlying255
 a51:=Tryz.isAgg255
 z51:=Tryz.sizeOf255
 v51:=Tryz.zeroValue255
 t146:=Tryz.underlying287
 a146:=Tryz.isAgg287
 z146:=Tryz.sizeOf287
 v146:=Tryz.zeroValue287
 g1:=by kernel_rfl }
open Go.RowKit Go.Lib in
theorem Tryz.strings_Index_one (s:ByteArray)(c:UInt8)(w:World) :
  Calls Tryz.prog 288 #[.string s,.string ⟨#[c]⟩] w λe w'=>e=.returned (.int .i64 (Lib.indexByte s.data.toList c))/\w'=w:=Any.strings_Index_one Tryz.lays143 s c w
def Tryz.lays138_ren:Go.Shelf.Ren:=⟨λ| 138=>290 | 195=>299 | 218=>300 | 143=>288 | 219=>298 | 217=>245 | 225=>303 | 224=>304 | 267=>305 | 266=>277 | 314=>307|n=>n,λ| 9=>9 | 3=>3 | 4=>4 | 5=>5 | 0=>0 | 46=>262 | 146=>287 | 51=>255|n=>n,λ| 1=>2|n=>n⟩
theorem Tryz.lays138:Go.Proofs.Lays.n138 Tryz.prog Tryz.lays138_ren:={
 mixed:=by kernel_rfl
 f138:=Tryz.func290.trans (congrArg some (by kernel_rfl))
 f143:=Tryz.func288.trans (congrArg some (by kernel_rfl))
 f195:=Tryz.func299.trans (congrArg some (by kernel_rfl))
 f217:=Tryz.func245.trans (congrArg some (by kernel_rfl))
 f218:=Tryz.func300.trans (congrArg some (by kernel_rfl))
 f219:=Tryz.func298.trans (congrArg some (by kernel_rfl))
 f224:=Tryz.func304.trans (congrArg some (by kernel_rfl))
 f225:=Tryz.func303.trans (congrArg some (by kernel_rfl))
 f266:=Tryz.func277.trans (congrArg some (by kernel_rfl))
 f267:=Tryz.func305.trans (congrArg some (by kernel_rfl))
 f314:=Tryz.func307.trans (congrArg some (by kernel_rfl))
 t0:=Tryz.underlying0
 a0:=Tryz.isAgg0
 z0:=Tryz.sizeOf0
 v0:=Tryz.zeroValue0
 t3:=Tryz.underlying3
 a3:=Tryz.isAgg3
 z3:=Tryz.sizeOf3
 v3:=Tryz.zeroValue3
 t4:=Tryz.underlying4
 a4:=Tryz.isAgg4
 z4:=Tryz.sizeOf4
 v4:=Tryz.zeroValue4
 t5:=Tryz.underlying5
 a5:=Tryz.isAgg5
 z5:=Tryz.sizeOf5
 v5:=Tryz.zeroValue5
 t9:=Tryz.underlying9
 a9:=Tryz.isAgg9
 z9:=Tryz.sizeOf9
 v9:=Tryz.zeroValue9
 t46:=Tryz.underlying262
 a46:=Tryz.isAgg262
 z46:=Tryz.sizeOf262
 v46:=Tryz.zeroValue262
 t51:=Tryz.underlying255
 a51:=Tryz.isAgg255
 z51:=Tryz.sizeOf255
 v51:=Tryz.zeroValue255
 t146:=Tryz.underlying287
 a146:=Tryz.isAgg287
 z146:=Tryz.sizeOf287
 v146:=Tryz.zeroValue287
 g1:=by kernel_rfl }
open Go.RowKit Go.Lib in
theorem Tryz.strings_Count_one (s:ByteArray)(c:UInt8)(w:World) :
  Calls Tryz.prog 290 #[.string s,.string ⟨#[c]⟩] w λe w'=>e=.returned (.int .i64 (Lib.countByte s.data.toList c))/\w'=w:=Any.strings_Count_one Tryz.lays138 s c w
def Tryz.lays157_ren:Go.Shelf.Ren:=⟨λ| 157=>208 | 229=>243 | 199=>244 | 261=>276 | 311=>291 | 312=>292|n=>n,λ| 9=>9 | 31=>168 | 3=>3 | 5=>5 | 4=>4 | 119=>226 | 0=>0 | 40=>228 | 152=>252 | 21=>21 | 154=>254 | 51=>255 | 141=>257 | 196=>270 | 193=>267 | 198=>273 | 49=>271 | 194=>268 | 201=>276 | 226=>280 | 46=>262 | 227=>281|n=>n,λ| 0=>0 | 6=>1|n=>n⟩
theorem Tryz.lays157:Go.Proofs.Lays.n157 Tryz.prog Tryz.lays157_ren:={
 mixed:=by kernel_rfl
 f157:=Tryz.func208.trans (congrArg some (by kernel_rfl))
 f199:=Tryz.func244.trans (congrArg some (by kernel_rfl))
 f229:=Tryz.func243.trans (congrArg some (by kernel_rfl))
 f261:=Tryz.func276.trans (congrArg some (by kernel_rfl))
 f311:=Tryz.func291.trans (congrArg some (by kernel_rfl))
 f312:=Tryz.func292.trans (congrArg some (by kernel_rfl))
 t0:=Tryz.underlying0
 a0:=Tryz.isAgg0
 z0:=Tryz.sizeOf0
 v0:=Tryz.zeroValue0
 t3:=Tryz.underlying3
 a3:=Tryz.isAgg3
 z3:=Tryz.sizeOf3
 v3:=Tryz.zeroValue3
 t4:=Tryz.underlying4
 a4:=Tryz.isAgg4
 z4:=Tryz.sizeOf4
 v4:=Tryz.zeroValue4
 t5:=Tryz.underlying5
 a5:=Tryz.isAgg5
 z5:=Tryz.sizeOf5
 v5:=Tryz.zeroValue5
 t9:=Tryz.underlying9
 a9:=Tryz.isAgg9
 z9:=Tryz.sizeOf9
 v9:=Tryz.zeroValue9
 t21:=Tryz.underlying21
 a21:=Tryz.isAgg21
 z21:=Tryz.sizeOf21
 v21:=Tryz.zeroValue21
 t31:=Tryz.underlying168
 a31:=Tryz.isAgg168
 z31:=Tryz.sizeOf168
 v31:=Tryz.zeroValue168
 t40:=Tryz.underlying228
 a40:=Tryz.isAgg228
 z40:=Tryz.sizeOf228
 v40:=Tryz.zeroValue228
 t46:=Tryz.underlying262
 a46:=Tryz.isAgg262
 z46:=Tryz.sizeOf262
 v46:=Tryz.zeroValue262
 t49:=Tryz.underlying271
 a49:=Tryz.isAgg271
 z49:=Tryz.sizeOf271
 v49:=Tryz.zeroValue271
 t51:=Tryz.underlying255
 a51:=Tryz.isAgg255
 z51:=Tryz.sizeOf255
 v51:=Tryz.zeroValue255
 t119:=Tryz.underlying226
 a119:=Tryz.isAgg226
 z119:=Tryz.sizeOf226
 t141:=Tryz.underlying257
 a141:=Tryz.isAgg257
 z141:=Tryz.sizeOf257
 v141:=Tryz.zeroValue257
 t152:=Tryz.underlying252
 a152:=Tryz.isAgg252
 z152:=Tryz.sizeOf252
 v152:=Tryz.zeroValue252
 t154:=Tryz.underlying254
 a154:=Tryz.isAgg254
 z154:=Tryz.sizeOf254
 v154:=Tryz.zeroValue254
 t193:=Tryz.underlying267
 a193:=Tryz.isAgg267
 z193:=Tryz.sizeOf267
 v193:=Tryz.zeroValue267
 t194:=Tryz.underlying268
 a194:=Tryz.isAgg268
 z194:=Tryz.sizeOf268
 v194:=Tryz.zeroValue268
 t196:=Tryz.underlying270
 a196:=Tryz.isAgg270
 z196:=Tryz.sizeOf270
 v196:=Tryz.zeroValue270
 t198:=Tryz.underlying273
 a198:=Tryz.isAgg273
 z198:=Tryz.sizeOf273
 v198:=Tryz.zeroValue273
 t201:=Tryz.underlying276
 a201:=Tryz.isAgg276
 z201:=Tryz.sizeOf276
 v201:=Tryz.zeroValue276
 t226:=Tryz.underlying280
 a226:=Tryz.isAgg280
 z226:=Tryz.sizeOf280
 v226:=Tryz.zeroValue280
 t227:=Tryz.underlying281
 a227:=Tryz.isAgg281
 z227:=Tryz.sizeOf281
 v227:=Tryz.zeroValue281
 g0:=by kernel_rfl
 g6:=by kernel_rfl }
end Go.Proofs
