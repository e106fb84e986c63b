/-
TopTorn: part of its walk (Shelf, Dk, Dk2).
-/
import Derived.Shelf.Strings.Builder1
import Derived.Shelf.Strings.Builder2
import Derived.Shelf.Small.Bits
import Derived.Shelf.Small.Strs
import Derived.Shelf.Strings.BuilderF
import Derived.Shelf.Strings.BuilderK
import Derived.Shelf.Strings.Builder2Cap
import Derived.Shelf.Strconv.Itoa0
import Derived.Shelf.Sort.Plain
import Derived.Shelf.Strings.Prefix
import Derived.Shelf.Bits.Mul64
import Derived.Shelf.Strings.Repeat
import Derived.Shelf.Strings.BuilderCap
import Derived.Shelf.Slices.Turned
import Derived.Ground.Names2Prog
import Derived.Shelf.Slices.Clone
import Derived.Shelf.Slices.Delete
import Derived.Shelf.Slices.Cells
import Derived.Shelf.Slices.In.SortNone
import Derived.Shelf.Slices.Empties
import Derived.Ground.SlgnProg
import Derived.Shelf.SlicesE.Delete
import Derived.Shelf.SlicesE.Clone
import Derived.Test.YtokfjbbjkiilmaaGreatDoorProg
import Derived.Test.YtokfjbbjkiilmaaGreatDoorTA
import Derived.Test.YtokfjbbjkiilmaaGreatDoorTC
set_option linter.unusedVariables false
set_option linter.unusedSimpArgs false
namespace Go.Proofs
open Go.Shelf
def Tryz.lays129_ren : Go.Shelf.Ren := ⟨fun | 129 => 269 | n => n,fun | 53 => 35 | 3 => 3 | 4 => 4 | 46 => 351 | 5 => 5 | 9 => 9 | n => n,fun | n => n⟩
theorem Tryz.lays129 : Go.Proofs.Lays.n129 Tryz.prog Tryz.lays129_ren := {
 mixed := by kernel_rfl
 f129 := Tryz.func269.trans (congrArg some (by kernel_rfl))
 t3 := Tryz.underlying3
 a3 := Tryz.isAgg3
 z3 := Tryz.sizeOf3
 v3 := Tryz.zeroValue3
 t4 := Tryz.underlying4
 a4 := Tryz.isAgg4
 z4 := Tryz.sizeOf4
 v4 := Tryz.zeroValue4
 t5 := Tryz.underlying5
 a5 := Tryz.isAgg5
 z5 := Tryz.sizeOf5
 v5 := Tryz.zeroValue5
 t9 := Tryz.underlying9
 a9 := Tryz.isAgg9
 z9 := Tryz.sizeOf9
 v9 := Tryz.zeroValue9
 t46 := Tryz.underlying351
 a46 := Tryz.isAgg351
 z46 := Tryz.sizeOf351
 v46 := Tryz.zeroValue351
 t53 := Tryz.underlying35
 a53 := Tryz.isAgg35
 z53 := Tryz.sizeOf35
 v53 := Tryz.zeroValue35 }
/-- bits.Len64: "Len64 returns the minimum number of bits required to represent x; the result is 0 for x == 0.": IT RETURNS 'Lib.bitLen x'; the world is as it was. ('h0', 'h1': x is a uint64.) (LAID: no walk: one application.) -/
theorem Tryz.bits_Len64 (x : Int) (w : World) (h0 : 0 ≤ x) (h1 : x ≤ 18446744073709551615) :
 Calls Tryz.prog 269 #[.int .u64 x] w fun e w' => e = .returned (.int .i64 (Lib.bitLen x.toNat)) ∧ w' = w := Any.bits_Len64 Tryz.lays129 x w h0 h1
def Tryz.lays190_ren : Go.Shelf.Ren := ⟨fun | 190 => 210 | 125 => 236 | 258 => 235 | 128 => 268 | 129 => 269 | 302 => 259 | 303 => 260 | 304 => 261 | 305 => 262 | 306 => 263 | 307 => 264 | 308 => 265 | 309 => 266 | 310 => 267 | 333 => 286 | 329 => 287 | 330 => 288 | 334 => 289 | 335 => 290 | 336 => 291 | 344 => 307 | n => n,fun | 31 => 191 | 9 => 9 | 3 => 3 | 46 => 351 | 0 => 0 | 51 => 186 | 53 => 35 | 4 => 4 | 183 => 384 | 182 => 383 | 131 => 388 | 5 => 5 | 218 => 406 | 222 => 409 | 228 => 425 | 229 => 392 | n => n,fun | n => n⟩
theorem Tryz.lays190 : Go.Proofs.Lays.n190 Tryz.prog Tryz.lays190_ren := {
 mixed := by kernel_rfl
 f125 := Tryz.func236.trans (congrArg some (by kernel_rfl))
 f128 := Tryz.func268.trans (congrArg some (by kernel_rfl))
 f129 := Tryz.func269.trans (congrArg some (by kernel_rfl))
 f190 := Tryz.func210.trans (congrArg some (by kernel_rfl))
 f258 := Tryz.func235.trans (congrArg some (by kernel_rfl))
 f302 := Tryz.func259.trans (congrArg some (by kernel_rfl))
 f303 := Tryz.func260.trans (congrArg some (by kernel_rfl))
 f304 := Tryz.func261.trans (congrArg some (by kernel_rfl))
 f305 := Tryz.func262.trans (congrArg some (by kernel_rfl))
 f306 := Tryz.func263.trans (congrArg some (by kernel_rfl))
 f307 := Tryz.func264.trans (congrArg some (by kernel_rfl))
 f308 := Tryz.func265.trans (congrArg some (by kernel_rfl))
 f309 := Tryz.func266.trans (congrArg some (by kernel_rfl))
 f310 := Tryz.func267.trans (congrArg some (by kernel_rfl))
 f329 := Tryz.func287.trans (congrArg some (by kernel_rfl))
 f330 := Tryz.func288.trans (congrArg some (by kernel_rfl))
 f333 := Tryz.func286.trans (congrArg some (by kernel_rfl))
 f334 := Tryz.func289.trans (congrArg some (by kernel_rfl))
 f335 := Tryz.func290.trans (congrArg some (by kernel_rfl))
 f336 := Tryz.func291.trans (congrArg some (by kernel_rfl))
 f344 := Tryz.func307.trans (congrArg some (by kernel_rfl))
 t0 := Tryz.underlying0
 a0 := Tryz.isAgg0
 z0 := Tryz.sizeOf0
 v0 := Tryz.zeroValue0
 t3 := Tryz.underlying3
 a3 := Tryz.isAgg3
 z3 := Tryz.sizeOf3
 v3 := Tryz.zeroValue3
 t4 := Tryz.underlying4
 a4 := Tryz.isAgg4
 z4 := Tryz.sizeOf4
 v4 := Tryz.zeroValue4
 t5 := Tryz.underlying5
 a5 := Tryz.isAgg5
 z5 := Tryz.sizeOf5
 v5 := Tryz.zeroValue5
 t9 := Tryz.underlying9
 a9 := Tryz.isAgg9
 z9 := Tryz.sizeOf9
 v9 := Tryz.zeroValue9
 t31 := Tryz.underlying191
 a31 := Tryz.isAgg191
 z31 := Tryz.sizeOf191
 v31 := Tryz.zeroValue191
 t46 := Tryz.underlying351
 a46 := Tryz.isAgg351
 z46 := Tryz.sizeOf351
 v46 := Tryz.zeroValue351
 t51 := Tryz.underlying186
 a51 := Tryz.isAgg186
 z51 := Tryz.sizeOf186
 v51 := Tryz.zeroValue186
 t53 := Tryz.underlying35
 a53 := Tryz.isAgg35
 z53 := Tryz.sizeOf35
 v53 := Tryz.zeroValue35
 t131 := Tryz.underlying388
 a131 := Tryz.isAgg388
 z131 := Tryz.sizeOf388
 v131 := Tryz.zeroValue388
 t182 := Tryz.underlying383
 a182 := Tryz.isAgg383
 z182 := Tryz.sizeOf383
 v182 := Tryz.zeroValue383
 t183 := Tryz.underlying384
 a183 := Tryz.isAgg384
 z183 := Tryz.sizeOf384
 v183 := Tryz.zeroValue384
 t218 := Tryz.underlying406
 a218 := Tryz.isAgg406
 z218 := Tryz.sizeOf406
 v218 := Tryz.zeroValue406
 t222 := Tryz.underlying409
 a222 := Tryz.isAgg409
 z222 := Tryz.sizeOf409
 v222 := Tryz.zeroValue409
 t228 := Tryz.underlying425
 a228 := Tryz.isAgg425
 z228 := Tryz.sizeOf425
 v228 := Tryz.zeroValue425
 t229 := Tryz.underlying392
 a229 := Tryz.isAgg392
 z229 := Tryz.sizeOf392
 v229 := Tryz.zeroValue392 }
open Go.Sort Go.RowKit in
theorem Tryz.slices_Sort_string (blk off cap : Nat) (ss : List (List UInt8)) (w : World) (hH : Holds encStr w blk off ss.toArray) (hblk : blk < w.heap.size) (hsz : ss.length < 4611686018427387904) :
 Calls Tryz.prog 210 #[.slice (some ⟨blk,off,none⟩) ss.length cap] w fun e w' =>
  e = .returned (.tuple #[]) ∧ ∃ n os,w' = grow (putRow encStr (Sort.ahead w n) blk off (ss.mergeSort fun x y => decide (x ≤ y)).toArray) os := Any.slices_Sort_string Tryz.lays190 blk off cap ss w hH hblk hsz
def Tryz.lays105_ren : Go.Shelf.Ren := ⟨fun | 105 => 233 | 212 => 253 | 99 => 254 | 165 => 255 | 166 => 256 | 170 => 257 | 169 => 258 | 263 => 281 | 264 => 282 | 206 => 283 | 240 => 284 | 241 => 285 | 276 => 305 | 277 => 306 | n => n,fun | 9 => 9 | 3 => 3 | 4 => 4 | 20 => 20 | 0 => 0 | 46 => 351 | 109 => 373 | 5 => 5 | 72 => 378 | 76 => 379 | 51 => 186 | 146 => 402 | 53 => 35 | 148 => 282 | 70 => 376 | 37 => 320 | 75 => 79 | 127 => 405 | 164 => 194 | 80 => 381 | n => n,fun | n => n⟩
theorem Tryz.lays105 : Go.Proofs.Lays.n105 Tryz.prog Tryz.lays105_ren := {
 mixed := by kernel_rfl
 f99 := Tryz.func254.trans (congrArg some (by kernel_rfl))
 f105 := Tryz.func233.trans (congrArg some (by kernel_rfl))
 f165 := Tryz.func255.trans (congrArg some (by kernel_rfl))
 f166 := Tryz.func256.trans (congrArg some (by kernel_rfl))
 f169 := Tryz.func258.trans (congrArg some (by kernel_rfl))
 f170 := Tryz.func257.trans (congrArg some (by kernel_rfl))
 f206 := Tryz.func283.trans (congrArg some (by kernel_rfl))
 f212 := Tryz.func253.trans (congrArg some (by kernel_rfl))
 f240 := Tryz.func284.trans (congrArg some (by kernel_rfl))
 f241 := Tryz.func285.trans (congrArg some (by kernel_rfl))
 f263 := Tryz.func281.trans (congrArg some (by kernel_rfl))
 f264 := Tryz.func282.trans (congrArg some (by kernel_rfl))
 f276 := Tryz.func305.trans (congrArg some (by kernel_rfl))
 f277 := Tryz.func306.trans (congrArg some (by kernel_rfl))
 t0 := Tryz.underlying0
 a0 := Tryz.isAgg0
 z0 := Tryz.sizeOf0
 v0 := Tryz.zeroValue0
 t3 := Tryz.underlying3
 a3 := Tryz.isAgg3
 z3 := Tryz.sizeOf3
 v3 := Tryz.zeroValue3
 t4 := Tryz.underlying4
 a4 := Tryz.isAgg4
 z4 := Tryz.sizeOf4
 v4 := Tryz.zeroValue4
 t5 := Tryz.underlying5
 a5 := Tryz.isAgg5
 z5 := Tryz.sizeOf5
 v5 := Tryz.zeroValue5
 t9 := Tryz.underlying9
 a9 := Tryz.isAgg9
 z9 := Tryz.sizeOf9
 v9 := Tryz.zeroValue9
 t20 := Tryz.underlying20
 a20 := Tryz.isAgg20
 z20 := Tryz.sizeOf20
 v20 := Tryz.zeroValue20
 t37 := Tryz.underlying320
 a37 := Tryz.isAgg320
 z37 := Tryz.sizeOf320
 v37 := Tryz.zeroValue320
 t46 := Tryz.underlying351
 a46 := Tryz.isAgg351
 z46 := Tryz.sizeOf351
 v46 := Tryz.zeroValue351
 t51 := Tryz.underlying186
 a51 := Tryz.isAgg186
 z51 := Tryz.sizeOf186
 v51 := Tryz.zeroValue186
 t53 := Tryz.underlying35
 a53 := Tryz.isAgg35
 z53 := Tryz.sizeOf35
 v53 := Tryz.zeroValue35
 t70 := Tryz.underlying376
 a70 := Tryz.isAgg376
 z70 := Tryz.sizeOf376
 v70 := Tryz.zeroValue376
 t72 := Tryz.underlying378
 a72 := Tryz.isAgg378
 z72 := Tryz.sizeOf378
 v72 := Tryz.zeroValue378
 t75 := Tryz.underlying79
 a75 := Tryz.isAgg79
 z75 := Tryz.sizeOf79
 v75 := Tryz.zeroValue79
 t76 := Tryz.underlying379
 a76 := Tryz.isAgg379
 z76 := Tryz.sizeOf379
 v76 := Tryz.zeroValue379
 t109 := Tryz.underlying373
 a109 := Tryz.isAgg373
 z109 := Tryz.sizeOf373
 v109 := Tryz.zeroValue373
 t127 := Tryz.underlying405
 a127 := Tryz.isAgg405
 z127 := Tryz.sizeOf405
 v127 := Tryz.zeroValue405
 t146 := Tryz.underlying402
 a146 := Tryz.isAgg402
 z146 := Tryz.sizeOf402
 v146 := Tryz.zeroValue402
 t148 := Tryz.underlying282
 a148 := Tryz.isAgg282
 z148 := Tryz.sizeOf282
 v148 := Tryz.zeroValue282
 t164 := Tryz.underlying194
 a164 := Tryz.isAgg194
 z164 := Tryz.sizeOf194
 v164 := Tryz.zeroValue194 }
theorem Tryz.Builder_Extra_105 : Builder.Extra Tryz.prog Tryz.lays105_ren := {
 sizeBuilder := by kernel_rfl
 liesBuilder := by kernel_rfl
 t5 := Tryz.underlying5
 a5 := Tryz.isAgg5
 z5 := Tryz.sizeOf5
 v5 := Tryz.zeroValue5
 infoByte := by kernel_rfl
 cellsByte := by kernel_rfl
 sizeByte := by kernel_rfl
 neB5 := by decide }
open Go.RowKit Go.Lib in
/-- **strings.Repeat: count ≥ 0, the result within one allocation: count copies of s.** (LAID: no walk: one application.) -/
theorem Tryz.strings_Repeat (s : ByteArray) (c : Nat) (w : World) (hc : c ≤ 9223372036854775807) (hlen : s.size * c ≤ 140737488355328) :
 Calls Tryz.prog 233 #[.string s,.int .i64 c] w fun e w' => e = .returned (.string ⟨(Lib.repeatL s.data.toList c).toArray⟩) ∧ Below w.heap.size w w' := Any.strings_Repeat Tryz.lays105 Tryz.Builder_Extra_105 s c w hc hlen
def Tryz.lays108_ren : Go.Shelf.Ren := ⟨fun | 108 => 151 | n => n,fun | 28 => 113 | 3 => 3 | 0 => 0 | 4 => 4 | n => n,fun | n => n⟩
theorem Tryz.lays108 : Go.Proofs.Lays.n108 Tryz.prog Tryz.lays108_ren := {
 mixed := by kernel_rfl
 f108 := Tryz.func151.trans (congrArg some (by kernel_rfl))
 t0 := Tryz.underlying0
 a0 := Tryz.isAgg0
 z0 := Tryz.sizeOf0
 v0 := Tryz.zeroValue0
 t3 := Tryz.underlying3
 a3 := Tryz.isAgg3
 z3 := Tryz.sizeOf3
 v3 := Tryz.zeroValue3
 t4 := Tryz.underlying4
 a4 := Tryz.isAgg4
 z4 := Tryz.sizeOf4
 v4 := Tryz.zeroValue4
 t28 := Tryz.underlying113
 a28 := Tryz.isAgg113
 z28 := Tryz.sizeOf113
 v28 := Tryz.zeroValue113 }
open Go.Lib in
/-- slices.Index at []int: "Index returns the index of the first occurrence of v in s, or -1 if not present.": IT RETURNS 'Lib.idxOf (the elements) v'; the world is as it was. 'zs': what the cells behind the slice's address hold (its spare capacity too, if you have it); 'zs.take n': its elements. (LAID: no walk: one application.) -/
theorem Tryz.slices_Index_int (b off n c : Nat) (zs : List Int) (x : Int) (w : World) (hz : n ≤ zs.length) (hbig : n ≤ 9223372036854775807) (hc : ∀ j,j < zs.length → w.cell? ⟨b,off + j,none⟩ = some (.int .i64 (zs.getD j 0))) :
 Calls Tryz.prog 151 #[.slice (some ⟨b,off,none⟩) n c,.int .i64 x] w fun e w' => e = .returned (.int .i64 (Lib.idxOf (zs.take n) x)) ∧ w' = w := Any.slices_Index_int Tryz.lays108 b off n c zs x w hz hbig hc
def Tryz.lays107_ren : Go.Shelf.Ren := ⟨fun | 107 => 163 | 108 => 151 | n => n,fun | 28 => 113 | 3 => 3 | 4 => 4 | 0 => 0 | n => n,fun | n => n⟩
theorem Tryz.lays107 : Go.Proofs.Lays.n107 Tryz.prog Tryz.lays107_ren := {
 mixed := by kernel_rfl
 f107 := Tryz.func163.trans (congrArg some (by kernel_rfl))
 f108 := Tryz.func151.trans (congrArg some (by kernel_rfl))
 t0 := Tryz.underlying0
 a0 := Tryz.isAgg0
 z0 := Tryz.sizeOf0
 v0 := Tryz.zeroValue0
 t3 := Tryz.underlying3
 a3 := Tryz.isAgg3
 z3 := Tryz.sizeOf3
 v3 := Tryz.zeroValue3
 t4 := Tryz.underlying4
 a4 := Tryz.isAgg4
 z4 := Tryz.sizeOf4
 v4 := Tryz.zeroValue4
 t28 := Tryz.underlying113
 a28 := Tryz.isAgg113
 z28 := Tryz.sizeOf113
 v28 := Tryz.zeroValue113 }
open Go.Lib in
/-- slices.Contains at []int: "Contains reports whether v is present in s.": IT RETURNS 'elements.contains v'; the world is as it was. ITS CALLEE slices.Index IS MET BY ITS OWN CONTRACT OFF THE SHELF (lay that first): no loop is walked here. (LAID: no walk: one application.) -/
theorem Tryz.slices_Contains_int (b off n c : Nat) (zs : List Int) (x : Int) (w : World) (hz : n ≤ zs.length) (hbig : n ≤ 9223372036854775807) (hc : ∀ j,j < zs.length → w.cell? ⟨b,off + j,none⟩ = some (.int .i64 (zs.getD j 0))) :
 Calls Tryz.prog 163 #[.slice (some ⟨b,off,none⟩) n c,.int .i64 x] w fun e w' => e = .returned (.bool ((zs.take n).contains x)) ∧ w' = w := Any.slices_Contains_int Tryz.lays107 b off n c zs x w hz hbig hc
open Go.RowKit Go.Sort in
/-- .. and plain. (LAID: no walk: one application.) -/
theorem Tryz.slices_Sort_string_none (p : Option Addr) (cap : Nat) (w : World) :
 Calls Tryz.prog 210 #[.slice p 0 cap] w fun e w' => e = .returned (.tuple #[]) ∧ w' = w := Any.slices_Sort_string_none Tryz.lays190 p cap w
def Tryz.laysSlE041_f143_ren : Go.Shelf.Ren := ⟨fun | 41 => 143 | n => n,fun | 22 => 113 | 23 => 3 | 4 => 4 | n => n,fun | n => n⟩
theorem Tryz.laysSlE041_f143 : Go.Proofs.SlLaysE0.n41 Tryz.prog Tryz.laysSlE041_f143_ren := {
 mixed := by kernel_rfl
 f41 := ⟨Tryz.f143.name,by decide,Tryz.func143.trans (congrArg some (by kernel_rfl))⟩
 t4 := Tryz.underlying4
 a4 := Tryz.isAgg4
 z4 := Tryz.sizeOf4
 v4 := Tryz.zeroValue4
 t22 := Tryz.underlying113
 a22 := Tryz.isAgg113
 z22 := Tryz.sizeOf113
 v22 := Tryz.zeroValue113 }
open Go.RowKit Go.Lib in
/-- slices.Clone: "Clone returns a copy of the slice. The elements are copied using assignment, so this is a shallow clone. The result may have additional unused capacity. The result preserves the nilness of s.": OF A SLICE THAT IS NOT nil IT RETURNS A SLICE THAT IS NOT nil, OF THE SAME CELLS, IN MEMORY OF THE CALL's OWN ('ownsRow': the how-to's 6f); below the heap's size at the call all is as it was. (LAID AT THE INSTANCE 'slices.Clone[[]int,int]': no walk: one application.) -/
theorem Tryz.slices_Clone_f143 (i0 : TypeInfo) (z : Value) (size bytes : Nat) (hi : Tryz.prog.info? 3 = some i0) (hz0 : i0.zero = some z) (hz1 : i0.size = size) (hz2 : i0.bytes = bytes) (hzs : z.cells.size = size) (hsz : 0 < size) (z23 : ∀ w,(Go.sizeOf 3).run Tryz.prog w = .ok size w) (b off n c : Nat) (news : List Value) (w : World) (hl : news.length = n * size) (hn : n ≤ maxLen) (hbig : n * bytes ≤ 140737488355328) (hc : ∀ j u,news[j]? = some u → w.cell? ⟨b,off + j,none⟩ = some u) (h1 : ∀ u ∈ news,u.oneCell' = true) :
 Calls Tryz.prog 143 #[.slice (some ⟨b,off,none⟩) n c] w fun e w' => ∃ v',e = .returned v' ∧ w'.ownsRow w.heap.size 3 size v' n news ∧ v' ≠ .slice none 0 0 ∧ Below w.heap.size w w' := AnyE.slices_Clone Tryz.laysSlE041_f143 i0 z size bytes hi hz0 hz1 hz2 hzs hsz z23 b off n c news w hl hn hbig hc h1
def Tryz.laysSlE041_f144_ren : Go.Shelf.Ren := ⟨fun | 41 => 144 | n => n,fun | 22 => 160 | 23 => 35 | 4 => 4 | n => n,fun | n => n⟩
theorem Tryz.laysSlE041_f144 : Go.Proofs.SlLaysE0.n41 Tryz.prog Tryz.laysSlE041_f144_ren := {
 mixed := by kernel_rfl
 f41 := ⟨Tryz.f144.name,by decide,Tryz.func144.trans (congrArg some (by kernel_rfl))⟩
 t4 := Tryz.underlying4
 a4 := Tryz.isAgg4
 z4 := Tryz.sizeOf4
 v4 := Tryz.zeroValue4
 t22 := Tryz.underlying160
 a22 := Tryz.isAgg160
 z22 := Tryz.sizeOf160
 v22 := Tryz.zeroValue160 }
open Go.RowKit Go.Lib in
/-- slices.Clone: "Clone returns a copy of the slice. The elements are copied using assignment, so this is a shallow clone. The result may have additional unused capacity. The result preserves the nilness of s.": OF A SLICE THAT IS NOT nil IT RETURNS A SLICE THAT IS NOT nil, OF THE SAME CELLS, IN MEMORY OF THE CALL's OWN ('ownsRow': the how-to's 6f); below the heap's size at the call all is as it was. (LAID AT THE INSTANCE 'slices.Clone[[]uint64,uint64]': no walk: one application.) -/
theorem Tryz.slices_Clone_f144 (i0 : TypeInfo) (z : Value) (size bytes : Nat) (hi : Tryz.prog.info? 35 = some i0) (hz0 : i0.zero = some z) (hz1 : i0.size = size) (hz2 : i0.bytes = bytes) (hzs : z.cells.size = size) (hsz : 0 < size) (z23 : ∀ w,(Go.sizeOf 35).run Tryz.prog w = .ok size w) (b off n c : Nat) (news : List Value) (w : World) (hl : news.length = n * size) (hn : n ≤ maxLen) (hbig : n * bytes ≤ 140737488355328) (hc : ∀ j u,news[j]? = some u → w.cell? ⟨b,off + j,none⟩ = some u) (h1 : ∀ u ∈ news,u.oneCell' = true) :
 Calls Tryz.prog 144 #[.slice (some ⟨b,off,none⟩) n c] w fun e w' => ∃ v',e = .returned v' ∧ w'.ownsRow w.heap.size 35 size v' n news ∧ v' ≠ .slice none 0 0 ∧ Below w.heap.size w w' := AnyE.slices_Clone Tryz.laysSlE041_f144 i0 z size bytes hi hz0 hz1 hz2 hzs hsz z23 b off n c news w hl hn hbig hc h1
end Go.Proofs
namespace Go.Proofs.YtokfjbbjkiilmaaGreatDoor.H
open Go.RowKit Go.Proofs.YtokfjbbjkiilmaaGreatDoorW.PrintWords Go.Proofs.YtokfjbbjkiilmaaGreatDoorW.PrintLast Go.Proofs.YtokfjbbjkiilmaaGreatDoorW.PrintMore
set_option maxHeartbeats 8000000
set_option maxRecDepth 100000
attribute [local go_sem] max2_int min2_int min_two max_two
attribute [local go_sem] run_makeMap0
/-- A disk's block: no limit, 14 sectors. -/
def dkc (left : Int) (m : Nat) (v : Value) : Array Value := #[.bool false,.int .i64 left,.int .i64 14,.map (some m),v]
theorem dnew_calls (w : World) :
 Calls Tryz.prog 23 #[.int .i64 14] w fun e w' => ∃ d m,e = .returned (.tuple #[.pointer (some ⟨d,0,none⟩),.int .i64 0]) ∧ w'.heap[d]? = some (.cells (dkc 0 m (.slice none 0 0)) 108 (0,0)) ∧ w'.heap[m]? = some (.map #[] 0) ∧ w.heap.size ≤ d ∧ w.heap.size ≤ m ∧ Below w.heap.size w w' := by
 go_enter Tryz.func23,Tryz.ntmps23
 go_wp2_with fail
 refine ret2 rfl rfl ⟨w.heap.size + 1,w.heap.size,rfl,?_,blk_alloc (blk_new _ _) _,by omega,Nat.le_refl _,below_alloc (below_alloc (Below.refl _ _) _) _⟩
 have h_ := blk_new (w.alloc (.map #[] 0)) (.cells #[.bool false,.int .i64 0,.int .i64 14,.map (some w.heap.size),.slice none 0 0] 108)
 simpa [dkc] using h_
theorem dlen_calls (d m : Nat) (left : Int) (v : Value) (w : World) (hd : w.heap[d]? = some (.cells (dkc left m v) 108 (0,0))) :
 Calls Tryz.prog 138 #[.pointer (some ⟨d,0,none⟩)] w fun e w' => e = .returned (.int .i64 14) ∧ w' = w := by
 have HX := Aside0.mk hd
 clear hd
 have y0 : w.cell? ⟨d,0,none⟩ = some (.bool false) := cL HX 0 rfl
 have y1 : w.cell? ⟨d,1,none⟩ = some (.int .i64 left) := cL HX 1 rfl
 have y2 : w.cell? ⟨d,2,none⟩ = some (.int .i64 14) := cL HX 2 rfl
 have y3 : w.cell? ⟨d,3,none⟩ = some (.map (some m)) := cL HX 3 rfl
 have y4 : w.cell? ⟨d,4,none⟩ = some (v) := cL HX 4 rfl
 go_enter Tryz.func138,Tryz.ntmps138
 go_wp2_with fail
 go_ret
 exact ⟨rfl,rfl⟩
theorem dhas_calls (d m : Nat) (left : Int) (v : Value) (i : Int) (w : World) (hd : w.heap[d]? = some (.cells (dkc left m v) 108 (0,0))) (hi : 0 ≤ i ∧ i < 14) :
 Calls Tryz.prog 201 #[.pointer (some ⟨d,0,none⟩),.int .i64 i] w fun e w' => e = .returned (.bool true) ∧ w' = w := by
 have HX := Aside0.mk hd
 clear hd
 have y0 : w.cell? ⟨d,0,none⟩ = some (.bool false) := cL HX 0 rfl
 have y1 : w.cell? ⟨d,1,none⟩ = some (.int .i64 left) := cL HX 1 rfl
 have y2 : w.cell? ⟨d,2,none⟩ = some (.int .i64 14) := cL HX 2 rfl
 have y3 : w.cell? ⟨d,3,none⟩ = some (.map (some m)) := cL HX 3 rfl
 have y4 : w.cell? ⟨d,4,none⟩ = some (v) := cL HX 4 rfl
 have t1 : decide (0 ≤ i) = true := decide_eq_true hi.1
 have t2 : decide (i < 14) = true := decide_eq_true hi.2
 have t3 : decide (i < 0) = false := decide_eq_false (by omega)
 clear hi
 go_enter Tryz.func201,Tryz.ntmps201
 go_wp2_with fail
 go_ret
 exact ⟨rfl,rfl⟩
theorem duse_calls (d m : Nat) (left : Int) (v : Value) (w : World) (hd : w.heap[d]? = some (.cells (dkc left m v) 108 (0,0))) (hl : -1000 ≤ left ∧ left ≤ 0) :
 Calls Tryz.prog 219 #[.pointer (some ⟨d,0,none⟩)] w fun e w' => e = .returned (.bool true) ∧ w' = w.setRow d (dkc (left - 1) m v) := by
 have HX := Aside0.mk hd
 clear hd
 have y0 : w.cell? ⟨d,0,none⟩ = some (.bool false) := cL HX 0 rfl
 have y1 : w.cell? ⟨d,1,none⟩ = some (.int .i64 left) := cL HX 1 rfl
 have y2 : w.cell? ⟨d,2,none⟩ = some (.int .i64 14) := cL HX 2 rfl
 have y3 : w.cell? ⟨d,3,none⟩ = some (.map (some m)) := cL HX 3 rfl
 have y4 : w.cell? ⟨d,4,none⟩ = some (v) := cL HX 4 rfl
 have f0 := blk_frozen HX.out 1
 have hm : IntKind.i64.wrap (left - 1) = left - 1 := by rw [IntKind.wrap_i64]; omega
 have hm1 : -9223372036854775808 ≤ left - 1 := by omega
 have hm2 : left - 1 ≤ 9223372036854775807 := by omega
 clear hl
 go_enter Tryz.func219,Tryz.ntmps219
 go_wp2_with fail
 go_ret
 refine ⟨rfl,?_⟩
 rw [setCell_eq_setRow w d 1 _ _ _ _ HX.out]
 rfl
theorem dholds_calls (d m : Nat) (left : Int) (v : Value) (i : Int) (s : ByteArray) (es : Array MapEntry) (c q : Nat) (w : World) (hd : w.heap[d]? = some (.cells (dkc left m v) 108 (0,0))) (hm : w.heap[m]? = some (.map es c)) (hf : Instr.findNow (.int .i64) (.int .i64 i) es.toList 0 = some (some (q,.agg #[.int .i64 i,.string s]))) :
 Calls Tryz.prog 203 #[.pointer (some ⟨d,0,none⟩),.int .i64 i] w fun e w' => e = .returned (.string s) ∧ Below w.heap.size w w' := by
 have HX := Aside0.mk hd
 clear hd
 have y0 : w.cell? ⟨d,0,none⟩ = some (.bool false) := cL HX 0 rfl
 have y1 : w.cell? ⟨d,1,none⟩ = some (.int .i64 left) := cL HX 1 rfl
 have y2 : w.cell? ⟨d,2,none⟩ = some (.int .i64 14) := cL HX 2 rfl
 have y3 : w.cell? ⟨d,3,none⟩ = some (.map (some m)) := cL HX 3 rfl
 have y4 : w.cell? ⟨d,4,none⟩ = some (v) := cL HX 4 rfl
 have HM := Aside0.mk hm
 have hlk : (Instr.lookup 103 (.map (some m)) (.int .i64 i) true).run Tryz.prog w = .ok (.tuple #[.agg #[.int .i64 i,.string s],.bool true]) w := run_look (key := .int .i64 i) (k := 3) (e := 286) (kd := .int .i64) (by kernel_rfl) (by kernel_rfl) rfl hm hf true
 clear hm hf
 go_enter Tryz.func203,Tryz.ntmps203
 have hcl : ((w.alloc (.cells #[.int .i64 0,.string { data := #[] }] 286)).setRow w.heap.size #[.int .i64 i,.string s]).cell? ⟨w.heap.size,1,none⟩ = some (.string s) := (cell_setRow_same _ _ 1 _ _ _ _ (blk_new w (.cells #[.int .i64 0,.string { data := #[] }] 286))).trans rfl
 go_wp2_with (refine sr_ 5 14 #[.int .i64 i,.string s] (blk_new w (.cells #[.int .i64 0,.string { data := #[] }] 286)) ?_)
 go_ret
 exact ⟨rfl,below_setRow (below_alloc (Below.refl _ _) _) (Nat.le_refl _) _⟩
/-- A sector of zeros. -/
def zsec : ByteArray := ⟨(List.replicate 128 0).toArray⟩
theorem zsec_is : (⟨(Lib.repeatL [(0 : UInt8)] 128).toArray⟩ : ByteArray) = zsec := by kernel_rfl
theorem dholds_no (d m : Nat) (left : Int) (v : Value) (i : Int) (es : Array MapEntry) (c : Nat) (w : World) (hd : w.heap[d]? = some (.cells (dkc left m v) 108 (0,0))) (hm : w.heap[m]? = some (.map es c)) (hf : Instr.findNow (.int .i64) (.int .i64 i) es.toList 0 = some none) :
 Calls Tryz.prog 203 #[.pointer (some ⟨d,0,none⟩),.int .i64 i] w fun e w' => e = .returned (.string zsec) ∧ Below w.heap.size w w' := by
 have HX := Aside0.mk hd
 clear hd
 have y0 : w.cell? ⟨d,0,none⟩ = some (.bool false) := cL HX 0 rfl
 have y1 : w.cell? ⟨d,1,none⟩ = some (.int .i64 left) := cL HX 1 rfl
 have y2 : w.cell? ⟨d,2,none⟩ = some (.int .i64 14) := cL HX 2 rfl
 have y3 : w.cell? ⟨d,3,none⟩ = some (.map (some m)) := cL HX 3 rfl
 have y4 : w.cell? ⟨d,4,none⟩ = some (v) := cL HX 4 rfl
 have hlk : (Instr.lookup 103 (.map (some m)) (.int .i64 i) true).run Tryz.prog w = .ok (.tuple #[.agg #[.int .i64 0,.string { data := #[] }],.bool false]) w := run_look_no (key := .int .i64 i) (k := 3) (e := 286) (kd := .int .i64) (by kernel_rfl) (by kernel_rfl) rfl hm hf (by kernel_rfl) true
 clear hm hf
 go_enter Tryz.func203,Tryz.ntmps203
 go_wp2_with (refine sr_ 5 14 #[.int .i64 0,.string { data := #[] }] (blk_new w (.cells #[.int .i64 0,.string { data := #[] }] 286)) ?_)
 have hb0 := below_setRow (below_alloc (Below.refl w.heap.size w) (.cells #[.int .i64 0,.string { data := #[] }] 286)) (Nat.le_refl _) #[.int .i64 0,.string { data := #[] }]
 refine (Tryz.strings_Repeat { data := #[0] } 128 _ (by decide) (by decide)).mono ?_
 rintro e_ w2 ⟨rfl,hb⟩
 go_wp2_with fail
 go_ret
 exact ⟨congrArg (fun x => Ending.returned (.string x)) zsec_is,below_step hb0 hb⟩
theorem dwrite_calls (d m : Nat) (left : Int) (v : Value) (i : Int) (s : ByteArray) (n : Nat) (xs : List Value) (w : World) (hd : w.heap[d]? = some (.cells (dkc left m v) 108 (0,0))) (hv : w.ownsRow 0 286 2 v n xs) (hs : s.size = 128) (hi : 0 ≤ i ∧ i < 14) (hl : -1000 ≤ left ∧ left ≤ 0) (hn : n ≤ 100) :
 Calls Tryz.prog 192 #[.pointer (some ⟨d,0,none⟩),.int .i64 i,.string s] w fun e w' => e = .returned (.int .i64 0) ∧ ∃ v',w'.heap[d]? = some (.cells (dkc (left - 1) m v') 108 (0,0)) ∧ w'.ownsRow 0 286 2 v' (n + 1) (xs ++ [.int .i64 i,.string s]) ∧ Keep (d :: v.ownBlock.toList) w w' ∧ (v'.ownBlock = v.ownBlock ∨ ∃ k,w.heap.size ≤ k ∧ v'.ownBlock = some k) := by
 obtain ⟨i0,hi0,hz0,hs0,hb0⟩ := infoE (P := Tryz.prog) (t := 286) (n := 2) (b := 24) (z := .agg #[.int .i64 0,.string { data := #[] }]) (by kernel_rfl)
 have HI0 := Aside0.mk hi0
 have HZ0 := Aside0.mk hz0
 have HS0 := Aside0.mk hs0
 have HB0 := Aside0.mk hb0
 clear hi0 hz0 hs0 hb0
 have HX := Aside0.mk hd
 have HV := Aside0.mk hv
 have HI := Aside0.mk hi
 have HL := Aside0.mk hl
 have HN := Aside0.mk hn
 have hsz : decide ((s.size : Int) = 128) = true := by simp [hs]
 have hsz2 : ((s.size : Int) != 128) = false := by simp [hs]
 have hsz3 : (s.size : Int) = 128 := by omega
 clear hd hv hi hl hn
 go_enter Tryz.func192,Tryz.ntmps192
 go_wp2_with fail
 refine (dhas_calls d m left v i _ HX.out HI.out).mono ?_
 rintro e_ w2 ⟨rfl,rfl⟩
 go_wp2_with fail
 refine (duse_calls d m left v _ HX.out HL.out).mono ?_
 rintro e_ w3 ⟨rfl,hw3⟩
 have H3 := Aside0.mk hw3
 have HX3 : Aside0 (w3.heap[d]? = some (.cells (dkc (left - 1) m v) 108 (0,0))) := ⟨by rw [hw3]; exact setRow_heap _ _ _ _ _ _ HX.out⟩
 have HV3 : Aside0 (w3.ownsRow 0 286 2 v n xs) := ⟨own_keep HV.out fun k hk => by rw [hw3]; exact setRow_other _ _ _ _ (own_ne HV.out HX.out (by decide) k hk)⟩
 have HK3 : Aside0 (Keep (d :: v.ownBlock.toList) w2 w3) := ⟨by rw [hw3]; exact (Keep.refl _ _).setRow _ (.inl (List.mem_cons_self ..))⟩
 clear hw3
 have z4 : w3.cell? ⟨d,4,none⟩ = some v := cL HX3 4 rfl
 go_wp2_with (refine wpList_append_own_at (w3.alloc (.cells #[.int .i64 i,.string s] 286)) rfl (.tmp 26) (.tmp 30) 106 rfl 0 286 i0 (.agg #[.int .i64 0,.string { data := #[] }]) 2 24 (by kernel_rfl) HI0.out HZ0.out HS0.out HB0.out rfl (by decide) v n xs rfl (own_keep HV3.out fun k hk => (Below.heap_alloc w3 _ k (own_lt HV3.out k hk))) ⟨w3.heap.size,0,none⟩ 1 1 [.int .i64 i,.string s] rfl rfl (fun j u hj => by rcases j with _ | _ | j <;> simp at hj <;> subst hj <;> exact (blk_cell (blk_new w3 (.cells #[.int .i64 i,.string s] 286)) _).trans rfl) (by simp [Value.oneCell']) (by have := HN.out; simp only [maxLen]; omega) (by have := HN.out; omega) (Nat.zero_le _) ?_; intro v2 w5 hown hgrow hnil hat; have HO := Aside0.mk hown; have HGR := Aside0.mk hgrow; have HAT := Aside0.mk hat; obtain ⟨va,vl,vc,rfl⟩ := own_one hown; have HX5 : Aside0 (w5.heap[d]? = some (.cells (dkc (left - 1) m v) 108 (0,0))) := ⟨(hgrow.block d (by have := blk_lt HX3.out; simp; omega) (fun e => own_ne HV3.out HX3.out (by decide) d e.symm rfl)).trans (blk_alloc HX3.out _)⟩; have z5 : w5.cell? ⟨d,4,none⟩ = some v := cL HX5 4 rfl; have f5 := blk_frozen HX5.out 4; clear hown hgrow hnil hat)
 go_ret
 rw [setCell_eq_setRow w5 d 4 _ _ _ _ HX5.out]
 refine ⟨rfl,.slice va vl vc,setRow_heap _ _ _ _ _ _ HX5.out,own_keep HO.out (fun k hk => setRow_other _ _ _ _ (own_ne HO.out HX5.out (by decide) k hk)),?_,?_⟩
 ·exact ((HK3.out.alloc _).grown HGR.out (fun k hk => .inl (List.mem_cons_of_mem _ (by simp [hk])))).setRow _ (.inl (List.mem_cons_self ..))
 ·refine HAT.out.imp id fun h => ⟨_,?_,h⟩
  have := HK3.out.size
  simp
  omega
def ddo.T1 : Bool × List (List Nat × List Nat) := (true,[([],[]),([0],[0]),([1],[1]),([2],[2]),([],[]),([4],[4]),([],[]),([3,5,6,0,1,2,3,4,5,6],[3,5,6])])
def ddo.B1 : List Nat := [0,1,3,7,0,16,0,127]
theorem ddo.tab1 : rtab .any (opsOf Tryz.f184 1) = ddo.T1 := by kernel_rfl
theorem ddo.bits1 : waitsOk ddo.T1.2 ddo.B1 = true := by kernel_rfl
theorem ddo_calls (d m : Nat) (left : Int) (v : Value) (i : Int) (s : ByteArray) (es es' : Array MapEntry) (c c' : Nat) (w : World) (hd : w.heap[d]? = some (.cells (dkc left m v) 108 (0,0))) (hm : w.heap[m]? = some (.map es c)) (hu : ∀ W : World,W.heap[m]? = some (.map es c) → (Instr.mapUpdate 103 (.map (some m)) (.int .i64 i) (.agg #[.int .i64 i,.string s])).run Tryz.prog W = .ok () (setMap W m es' c')) :
 Calls Tryz.prog 184 #[.pointer (some ⟨d,0,none⟩),.agg #[.int .i64 i,.string s]] w fun e w' => e = .returned (.tuple #[]) ∧ w'.heap[m]? = some (.map es' c') ∧ Keep [m] w w' := by
 have HX := Aside0.mk hd
 have HM := Aside0.mk hm
 have HU := Aside0.mk hu
 clear hd hm hu
 go_enter Tryz.func184,Tryz.ntmps184
 go_upto_region 1 with fail
 obtain ⟨W1,g,hW_,hg,HG,hb_⟩ := new1 w #[.int .i64 i,.string s] 286
 rw [← hW_,← hg.out]
 replace HX := mb HX hb_
 replace HM := mb HM hb_
 have HB := Aside0.mk hb_
 clear hW_ hb_
 refine st_ 8 (fun w' => w'.cell? ⟨d,0,none⟩ = some (.bool false) ∧ w'.cell? ⟨d,1,none⟩ = some (.int .i64 left) ∧ w'.cell? ⟨d,2,none⟩ = some (.int .i64 14) ∧ w'.cell? ⟨d,3,none⟩ = some (.map (some m)) ∧ w'.cell? ⟨d,4,none⟩ = some (v) ∧ w'.cell? ⟨g,0,none⟩ = some (.int .i64 i) ∧ w'.cell? ⟨g,1,none⟩ = some (.string s)) [7] ⟨(cD HX 0 rfl),(cD HX 1 rfl),(cD HX 2 rfl),(cD HX 3 rfl),(cD HX 4 rfl),(cD HG 0 rfl),(cD HG 1 rfl)⟩ fun hHeld => ?_
 refine with_tabW ddo.tab1 ddo.bits1 (fun HT_ HW_ => ?_)
 replace HX := mD HX
 replace HG := mD HG
 replace HM := mD HM
 replace HB := bD HB
 generalize W1.drew = wd1 at *
 refine pa_ 0 4 HT_ ?_
 refine pa_ 1 5 HT_ ?_
 refine pa_ 2 6 HT_ ?_
 refine pa_ 4 8 HT_ ?_
 refine ta_ 3 7 HT_ HW_ hHeld ?_
 refine ta_ 5 9 HT_ HW_ hHeld ?_
 refine ta_ 6 10 HT_ HW_ hHeld ?_
 refine la_ 7 HT_ fun K hK => ?_
 have hup := HU.out wd1 HM.out
 refine skip_ (w1 := ?_) (by rfl) rfl ?_ ?_
 rotate_left
 ·go_simp
  rfl
 refine hK.out _ _ ?_
 clear hK K
 refine dn_ HT_ ?_
 clear HT_ HW_ hHeld
 exact end0 rfl rfl ⟨rfl,setMap_heap HM.out,(Keep.below HB.out).setMap es' c' (.inl (List.mem_singleton.2 rfl))⟩
end Go.Proofs.YtokfjbbjkiilmaaGreatDoor.H
namespace Go.Proofs.YtokfjbbjkiilmaaGreatDoor.H
open Go.RowKit Go.Proofs.YtokfjbbjkiilmaaGreatDoorW.PrintWords Go.Proofs.YtokfjbbjkiilmaaGreatDoorW.PrintLast Go.Proofs.YtokfjbbjkiilmaaGreatDoorW.PrintMore
set_option maxHeartbeats 8000000
set_option maxRecDepth 100000
attribute [local go_sem] max2_int min2_int min_two max_two
theorem dflush0_calls (d m : Nat) (left : Int) (w : World) (hd : w.heap[d]? = some (.cells (dkc left m (.slice none 0 0)) 108 (0,0))) (hl : -1000 ≤ left ∧ left ≤ 0) :
 Calls Tryz.prog 190 #[.pointer (some ⟨d,0,none⟩)] w fun e w' => e = .returned (.int .i64 0) ∧ w'.heap[d]? = some (.cells (dkc (left - 1) m (.slice none 0 0)) 108 (0,0)) ∧ Keep [d] w w' := by
 have HX := Aside0.mk hd
 have HL := Aside0.mk hl
 clear hd hl
 go_enter Tryz.func190,Tryz.ntmps190
 go_wp2_with fail
 refine (duse_calls d m left (.slice none 0 0) _ HX.out HL.out).mono ?_
 rintro e_ w3 ⟨rfl,hw3⟩
 have HX3 : Aside0 (w3.heap[d]? = some (.cells (dkc (left - 1) m (.slice none 0 0)) 108 (0,0))) := ⟨by rw [hw3]; exact setRow_heap _ _ _ _ _ _ HX.out⟩
 have HK3 : Aside0 (Keep [d] w w3) := ⟨by rw [hw3]; exact (Keep.refl _ _).setRow _ (.inl (List.mem_singleton.2 rfl))⟩
 clear hw3
 have z4 : w3.cell? ⟨d,4,none⟩ = some (.slice none 0 0) := cL HX3 4 rfl
 have f4 := blk_frozen HX3.out 4
 go_wp2_with fail
 go_loopw [18] (fun v wr => v = .int .i64 0 ∧ wr = w3) (fun v _ => 1 - (intOf v).toNat)
 case atStart => exact ⟨rfl,rfl⟩
 case round =>
  obtain ⟨rfl,rfl⟩ := hrel
  go_wp2_with fail
  go_ret
  rw [setCell_eq_setRow wr d 4 _ _ _ _ HX3.out]
  exact ⟨rfl,setRow_heap _ _ _ _ _ _ HX3.out,HK3.out.setRow _ (.inl (List.mem_singleton.2 rfl))⟩
theorem dflush1_calls (d m g cp : Nat) (left : Int) (i : Int) (s : ByteArray) (es es' : Array MapEntry) (c c' : Nat) (w : World) (hd : w.heap[d]? = some (.cells (dkc left m (.slice (some ⟨g,0,none⟩) 1 cp)) 108 (0,0))) (hm : w.heap[m]? = some (.map es c)) (hc : w.cell? ⟨g,0,none⟩ = some (.int .i64 i) ∧ w.cell? ⟨g,1,none⟩ = some (.string s)) (hn : g ≠ d ∧ m ≠ d) (hl : -1000 ≤ left ∧ left ≤ 0) (hu : ∀ W : World,W.heap[m]? = some (.map es c) → (Instr.mapUpdate 103 (.map (some m)) (.int .i64 i) (.agg #[.int .i64 i,.string s])).run Tryz.prog W = .ok () (setMap W m es' c')) :
 Calls Tryz.prog 190 #[.pointer (some ⟨d,0,none⟩)] w fun e w' => e = .returned (.int .i64 0) ∧ w'.heap[d]? = some (.cells (dkc (left - 1) m (.slice none 0 0)) 108 (0,0)) ∧ w'.heap[m]? = some (.map es' c') ∧ Keep [d,m] w w' := by
 have HX := Aside0.mk hd
 have HL := Aside0.mk hl
 have HM := Aside0.mk hm
 have HU := Aside0.mk hu
 have HC := Aside0.mk hc
 have HN := Aside0.mk hn
 clear hd hl hm hu hc hn
 go_enter Tryz.func190,Tryz.ntmps190
 go_wp2_with fail
 refine (duse_calls d m left (.slice (some ⟨g,0,none⟩) 1 cp) _ HX.out HL.out).mono ?_
 rintro e_ w3 ⟨rfl,hw3⟩
 have HX3 : Aside0 (w3.heap[d]? = some (.cells (dkc (left - 1) m (.slice (some ⟨g,0,none⟩) 1 cp)) 108 (0,0))) := ⟨by rw [hw3]; exact setRow_heap _ _ _ _ _ _ HX.out⟩
 have HK3 : Aside0 (Keep [d,m] w w3) := ⟨by rw [hw3]; exact (Keep.refl _ _).setRow _ (.inl (by simp))⟩
 have HM3 : Aside0 (w3.heap[m]? = some (.map es c)) := ⟨by rw [hw3]; exact mR _ HM.out HN.out.2⟩
 have y0 : w3.cell? ⟨g,0,none⟩ = some (.int .i64 i) := by rw [hw3,cell_setRow_other _ _ _ _ HN.out.1]; exact HC.out.1
 have y1 : w3.cell? ⟨g,1,none⟩ = some (.string s) := by rw [hw3,cell_setRow_other _ _ _ _ HN.out.1]; exact HC.out.2
 clear hw3
 have z4 : w3.cell? ⟨d,4,none⟩ = some (.slice (some ⟨g,0,none⟩) 1 cp) := cL HX3 4 rfl
 go_wp2_with fail
 go_loopw [18] (fun v wr => (v = .int .i64 0 ∧ wr = w3 ∨ v = .int .i64 1 ∧ wr.heap[d]? = some (.cells (dkc (left - 1) m (.slice (some ⟨g,0,none⟩) 1 cp)) 108 (0,0)) ∧ wr.heap[m]? = some (.map es' c') ∧ Keep [d,m] w wr)) (fun v _ => 1 - (intOf v).toNat)
 case atStart => exact .inl ⟨rfl,rfl⟩
 case round =>
  rcases hrel with ⟨rfl,rfl⟩ | ⟨rfl,h1,h2,h3⟩
  ·go_wp2_with (first | (refine sr_ 5 21 #[.int .i64 i,.string s] (blk_new wr (.cells #[.int .i64 0,.string { data := #[] }] 286)) ?_) | (refine lr_ 5 (setRow_heap _ _ _ _ _ _ (blk_new wr (.cells #[.int .i64 0,.string { data := #[] }] 286))) Tryz.underlying286 ?_))
   have hb0 := below_setRow (below_alloc (Below.refl wr.heap.size wr) (.cells #[.int .i64 0,.string { data := #[] }] 286)) (Nat.le_refl _) #[.int .i64 i,.string s]
   refine (ddo_calls d m (left - 1) (.slice (some ⟨g,0,none⟩) 1 cp) i s es es' c c' _ (blk_below HX3.out hb0) (blk_below HM3.out hb0) HU.out).mono ?_
   rintro e_ w5 ⟨rfl,hm5,hk5⟩
   have HD5 : Aside0 (w5.heap[d]? = some (.cells (dkc (left - 1) m (.slice (some ⟨g,0,none⟩) 1 cp)) 108 (0,0))) := ⟨blk_keep (blk_below HX3.out hb0) hk5 (by simp [HN.out.2.symm])⟩
   have HM5 := Aside0.mk hm5
   have HK5 : Aside0 (Keep [d,m] w w5) := ⟨(HK3.out.trans (Keep.below hb0)).trans (hk5.mono (fun k _ h => by simp at h; simp [h]))⟩
   clear hm5 hk5 hb0
   go_wp2_with fail
   exact ⟨.inr ⟨rfl,HD5.out,HM5.out,HK5.out⟩,by decide⟩
  ·have H1 := Aside0.mk h1
   have H2 := Aside0.mk h2
   have H3 := Aside0.mk h3
   clear h1 h2 h3
   have q4 : wr.cell? ⟨d,4,none⟩ = some (.slice (some ⟨g,0,none⟩) 1 cp) := cL H1 4 rfl
   have f4 := blk_frozen H1.out 4
   go_wp2_with fail
   go_ret
   rw [setCell_eq_setRow wr d 4 _ _ _ _ H1.out]
   exact ⟨rfl,setRow_heap _ _ _ _ _ _ H1.out,mR _ H2.out HN.out.2,H3.out.setRow _ (.inl (by simp))⟩
end Go.Proofs.YtokfjbbjkiilmaaGreatDoor.H
