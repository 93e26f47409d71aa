/-
  DERIVED: THE SHELF's CONTRACTS AT THIS DUMP, IN PLAIN WORDS (tools/lay-plain.mjs out of 'TryShelf.lean', which tools/lay-shelf.mjs wrote): THE SAME DECLARATIONS UNDER THE SAME NAMES: 'import', 'namespace', 'open', 'def', 'theorem' AND NOTHING ELSE: no command of the shelf's: FOR A HAND-IN. Each laying: the table of numbers ('.._ren') and one theorem, a field a fact of the dump's own or the kernel's comparison; each contract: ONE APPLICATION.
-/
import Derived.Shelf.Sort.Plain
import Derived.Shelf.Slices.In.SortNone
import Derived.Test.YtlldonokjgoajaaProg
namespace Go.Proofs
open Go.Shelf
def Try.lays190_ren : Go.Shelf.Ren := ⟨fun | 190 => 153 | 125 => 172 | 258 => 183 | 128 => 195 | 129 => 196 | 302 => 201 | 303 => 202 | 304 => 203 | 305 => 204 | 306 => 205 | 307 => 206 | 308 => 207 | 309 => 208 | 310 => 209 | 333 => 226 | 329 => 212 | 330 => 213 | 334 => 227 | 335 => 228 | 336 => 174 | 344 => 233 | n => n, fun | 31 => 92 | 9 => 9 | 3 => 3 | 46 => 167 | 0 => 0 | 51 => 186 | 53 => 110 | 4 => 4 | 183 => 180 | 182 => 179 | 131 => 29 | 5 => 5 | 218 => 197 | 222 => 201 | 228 => 212 | 229 => 132 | n => n, fun | n => n⟩
theorem Try.lays190 : Go.Proofs.Lays.n190 Try.prog Try.lays190_ren := {
  mixed := by kernel_rfl
  f125 := Try.func172.trans (congrArg some (by kernel_rfl))
  f128 := Try.func195.trans (congrArg some (by kernel_rfl))
  f129 := Try.func196.trans (congrArg some (by kernel_rfl))
  f190 := Try.func153.trans (congrArg some (by kernel_rfl))
  f258 := Try.func183.trans (congrArg some (by kernel_rfl))
  f302 := Try.func201.trans (congrArg some (by kernel_rfl))
  f303 := Try.func202.trans (congrArg some (by kernel_rfl))
  f304 := Try.func203.trans (congrArg some (by kernel_rfl))
  f305 := Try.func204.trans (congrArg some (by kernel_rfl))
  f306 := Try.func205.trans (congrArg some (by kernel_rfl))
  f307 := Try.func206.trans (congrArg some (by kernel_rfl))
  f308 := Try.func207.trans (congrArg some (by kernel_rfl))
  f309 := Try.func208.trans (congrArg some (by kernel_rfl))
  f310 := Try.func209.trans (congrArg some (by kernel_rfl))
  f329 := Try.func212.trans (congrArg some (by kernel_rfl))
  f330 := Try.func213.trans (congrArg some (by kernel_rfl))
  f333 := Try.func226.trans (congrArg some (by kernel_rfl))
  f334 := Try.func227.trans (congrArg some (by kernel_rfl))
  f335 := Try.func228.trans (congrArg some (by kernel_rfl))
  f336 := Try.func174.trans (congrArg some (by kernel_rfl))
  f344 := Try.func233.trans (congrArg some (by kernel_rfl))
  t0 := Try.underlying0
  a0 := Try.isAgg0
  z0 := Try.sizeOf0
  v0 := Try.zeroValue0
  t3 := Try.underlying3
  a3 := Try.isAgg3
  z3 := Try.sizeOf3
  v3 := Try.zeroValue3
  t4 := Try.underlying4
  a4 := Try.isAgg4
  z4 := Try.sizeOf4
  v4 := Try.zeroValue4
  t5 := Try.underlying5
  a5 := Try.isAgg5
  z5 := Try.sizeOf5
  v5 := Try.zeroValue5
  t9 := Try.underlying9
  a9 := Try.isAgg9
  z9 := Try.sizeOf9
  v9 := Try.zeroValue9
  t31 := Try.underlying92
  a31 := Try.isAgg92
  z31 := Try.sizeOf92
  v31 := Try.zeroValue92
  t46 := Try.underlying167
  a46 := Try.isAgg167
  z46 := Try.sizeOf167
  v46 := Try.zeroValue167
  t51 := Try.underlying186
  a51 := Try.isAgg186
  z51 := Try.sizeOf186
  v51 := Try.zeroValue186
  t53 := Try.underlying110
  a53 := Try.isAgg110
  z53 := Try.sizeOf110
  v53 := Try.zeroValue110
  t131 := Try.underlying29
  a131 := Try.isAgg29
  z131 := Try.sizeOf29
  v131 := Try.zeroValue29
  t182 := Try.underlying179
  a182 := Try.isAgg179
  z182 := Try.sizeOf179
  v182 := Try.zeroValue179
  t183 := Try.underlying180
  a183 := Try.isAgg180
  z183 := Try.sizeOf180
  v183 := Try.zeroValue180
  t218 := Try.underlying197
  a218 := Try.isAgg197
  z218 := Try.sizeOf197
  v218 := Try.zeroValue197
  t222 := Try.underlying201
  a222 := Try.isAgg201
  z222 := Try.sizeOf201
  v222 := Try.zeroValue201
  t228 := Try.underlying212
  a228 := Try.isAgg212
  z228 := Try.sizeOf212
  v228 := Try.zeroValue212
  t229 := Try.underlying132
  a229 := Try.isAgg132
  z229 := Try.sizeOf132
  v229 := Try.zeroValue132 }
open Go.Sort Go.RowKit in
theorem Try.slices_Sort_string (blk off cap : Nat) (ss : List (List UInt8)) (w : World) (hH : Holds encStr w blk off ss.toArray) (hblk : blk < w.heap.size) (hsz : ss.length < 4611686018427387904) :
    Calls Try.prog 153 #[.slice (some ⟨blk, off, none⟩) ss.length cap] w fun e w' =>
      e = .returned (.tuple #[]) ∧ ∃ n os, w' = grow (putRow encStr (Sort.ahead w n) blk off (ss.mergeSort fun x y => decide (x ≤ y)).toArray) os := Any.slices_Sort_string Try.lays190 blk off cap ss w hH hblk hsz
open Go.RowKit Go.Sort in
/-- .. and plain. (LAID: no walk: one application.) -/
theorem Try.slices_Sort_string_none (p : Option Addr) (cap : Nat) (w : World) :
    Calls Try.prog 153 #[.slice p 0 cap] w fun e w' => e = .returned (.tuple #[]) ∧ w' = w := Any.slices_Sort_string_none Try.lays190 p cap w
end Go.Proofs
