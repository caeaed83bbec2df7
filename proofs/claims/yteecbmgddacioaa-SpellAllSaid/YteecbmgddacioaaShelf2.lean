/-
  DERIVED: THE SHELF's CONTRACTS AT THIS DUMP, IN PLAIN WORDS (tools/lay-plain.mjs out of 'TrySrt.lean', which tools/lay-shelf.mjs wrote): THE SAME DECLARATIONS UNDER THE SAME NAMES: 'import', 'namespace', 'open', 'def', 'theorem' AND NOTHING ELSE: no command of the shelf's: FOR A HAND-IN. Each laying: the table of numbers ('.._ren') and one theorem, a field a fact of the dump's own or the kernel's comparison; each contract: ONE APPLICATION.
-/
import Derived.Shelf.SlSortCmp.WholeK
import Derived.Ground.SlsfProg
import Derived.Test.YteecbmgddacioaaProg
namespace Go.Proofs
open Go.Shelf
def Try.sortTime_ren : Go.Shelf.Ren := ⟨fun | 6 => 187 | 15 => 207 | 14 => 206 | 28 => 219 | 29 => 220 | 20 => 211 | 21 => 212 | 22 => 213 | 23 => 214 | 24 => 215 | 25 => 216 | 26 => 217 | 27 => 218 | 46 => 230 | 47 => 231 | 48 => 232 | 49 => 233 | 50 => 234 | 57 => 239 | n => n, fun | 22 => 33 | 24 => 26 | 25 => 162 | 3 => 3 | 39 => 127 | 0 => 0 | 53 => 164 | 55 => 167 | 4 => 4 | 46 => 182 | 45 => 181 | 50 => 186 | 5 => 5 | 9 => 9 | 66 => 195 | 70 => 199 | 76 => 203 | 77 => 142 | n => n, fun | n => n⟩
theorem Try.sortTime : Go.Proofs.SlLaysF0.n6 Try.prog Try.sortTime_ren := {
  mixed := by kernel_rfl
  f6 := ⟨Try.f187.name, by decide, Try.func187.trans (congrArg some (by kernel_rfl))⟩
  f14 := ⟨Try.f206.name, by decide, Try.func206.trans (congrArg some (by kernel_rfl))⟩
  f15 := Try.func207.trans (congrArg some (by kernel_rfl))
  f20 := ⟨Try.f211.name, by decide, Try.func211.trans (congrArg some (by kernel_rfl))⟩
  f21 := ⟨Try.f212.name, by decide, Try.func212.trans (congrArg some (by kernel_rfl))⟩
  f22 := ⟨Try.f213.name, by decide, Try.func213.trans (congrArg some (by kernel_rfl))⟩
  f23 := ⟨Try.f214.name, by decide, Try.func214.trans (congrArg some (by kernel_rfl))⟩
  f24 := ⟨Try.f215.name, by decide, Try.func215.trans (congrArg some (by kernel_rfl))⟩
  f25 := ⟨Try.f216.name, by decide, Try.func216.trans (congrArg some (by kernel_rfl))⟩
  f26 := ⟨Try.f217.name, by decide, Try.func217.trans (congrArg some (by kernel_rfl))⟩
  f27 := ⟨Try.f218.name, by decide, Try.func218.trans (congrArg some (by kernel_rfl))⟩
  f28 := Try.func219.trans (congrArg some (by kernel_rfl))
  f29 := Try.func220.trans (congrArg some (by kernel_rfl))
  f46 := ⟨Try.f230.name, by decide, Try.func230.trans (congrArg some (by kernel_rfl))⟩
  f47 := Try.func231.trans (congrArg some (by kernel_rfl))
  f48 := Try.func232.trans (congrArg some (by kernel_rfl))
  f49 := ⟨Try.f233.name, by decide, Try.func233.trans (congrArg some (by kernel_rfl))⟩
  f50 := ⟨Try.f234.name, by decide, Try.func234.trans (congrArg some (by kernel_rfl))⟩
  f57 := ⟨Try.f239.name, by decide, Try.func239.trans (congrArg some (by kernel_rfl))⟩
  t0 := Try.underlying0
  a0 := Try.isAgg0
  z0 := Try.sizeOf0
  v0 := Try.zeroValue0
  t3 := Try.underlying3
  a3 := Try.isAgg3
  z3 := Try.sizeOf3
  v3 := Try.zeroValue3
  t4 := Try.underlying4
  a4 := Try.isAgg4
  z4 := Try.sizeOf4
  v4 := Try.zeroValue4
  t5 := Try.underlying5
  a5 := Try.isAgg5
  z5 := Try.sizeOf5
  v5 := Try.zeroValue5
  t9 := Try.underlying9
  a9 := Try.isAgg9
  z9 := Try.sizeOf9
  v9 := Try.zeroValue9
  t22 := Try.underlying33
  a22 := Try.isAgg33
  z22 := Try.sizeOf33
  v22 := Try.zeroValue33
  t25 := Try.underlying162
  a25 := Try.isAgg162
  z25 := Try.sizeOf162
  v25 := Try.zeroValue162
  t39 := Try.underlying127
  a39 := Try.isAgg127
  z39 := Try.sizeOf127
  v39 := Try.zeroValue127
  t45 := Try.underlying181
  a45 := Try.isAgg181
  z45 := Try.sizeOf181
  v45 := Try.zeroValue181
  t46 := Try.underlying182
  a46 := Try.isAgg182
  z46 := Try.sizeOf182
  v46 := Try.zeroValue182
  t50 := Try.underlying186
  a50 := Try.isAgg186
  z50 := Try.sizeOf186
  v50 := Try.zeroValue186
  t53 := Try.underlying164
  a53 := Try.isAgg164
  z53 := Try.sizeOf164
  v53 := Try.zeroValue164
  t55 := Try.underlying167
  a55 := Try.isAgg167
  z55 := Try.sizeOf167
  v55 := Try.zeroValue167
  t66 := Try.underlying195
  a66 := Try.isAgg195
  z66 := Try.sizeOf195
  v66 := Try.zeroValue195
  t70 := Try.underlying199
  a70 := Try.isAgg199
  z70 := Try.sizeOf199
  v70 := Try.zeroValue199
  t76 := Try.underlying203
  a76 := Try.isAgg203
  z76 := Try.sizeOf203
  v76 := Try.zeroValue203
  t77 := Try.underlying142
  a77 := Try.isAgg142
  z77 := Try.sizeOf142
  v77 := Try.zeroValue142 }
end Go.Proofs
