/-
 LAYINGS of the library's sort at this program, by the kit's own command.
-/
import Derived.Test.YtbkgblhmlenocaaProg
import Derived.Shelf.SlLaysF0
import Derived.Shelf.SlLaysW
namespace Go.Proofs.Ytbkgblhmlenocaa
open Go Go.Proofs Go.Shelf
def sortL67_ren : Go.Shelf.Ren := ⟨fun | 6 => 67 | 15 => 91 | 14 => 90 | 28 => 108 | 29 => 109 | 20 => 100 | 21 => 101 | 22 => 102 | 23 => 103 | 24 => 104 | 25 => 105 | 26 => 106 | 27 => 107 | 46 => 119 | 47 => 120 | 48 => 121 | 49 => 122 | 50 => 123 | 57 => 127 | n => n, fun | 22 => 57 | 24 => 60 | 25 => 130 | 3 => 3 | 39 => 121 | 0 => 0 | 53 => 73 | 55 => 135 | 4 => 4 | 46 => 172 | 45 => 171 | 50 => 34 | 5 => 5 | 9 => 9 | 66 => 185 | 70 => 189 | 76 => 193 | 77 => 143 | n => n, fun | n => n⟩
theorem sortL67 : Go.Proofs.SlLaysF0.n6 Try.prog sortL67_ren := {
 mixed := by kernel_rfl
 f6 := ⟨Try.f67.name, by decide, Try.func67.trans (congrArg some (by kernel_rfl))⟩
 f14 := ⟨Try.f90.name, by decide, Try.func90.trans (congrArg some (by kernel_rfl))⟩
 f15 := Try.func91.trans (congrArg some (by kernel_rfl))
 f20 := ⟨Try.f100.name, by decide, Try.func100.trans (congrArg some (by kernel_rfl))⟩
 f21 := ⟨Try.f101.name, by decide, Try.func101.trans (congrArg some (by kernel_rfl))⟩
 f22 := ⟨Try.f102.name, by decide, Try.func102.trans (congrArg some (by kernel_rfl))⟩
 f23 := ⟨Try.f103.name, by decide, Try.func103.trans (congrArg some (by kernel_rfl))⟩
 f24 := ⟨Try.f104.name, by decide, Try.func104.trans (congrArg some (by kernel_rfl))⟩
 f25 := ⟨Try.f105.name, by decide, Try.func105.trans (congrArg some (by kernel_rfl))⟩
 f26 := ⟨Try.f106.name, by decide, Try.func106.trans (congrArg some (by kernel_rfl))⟩
 f27 := ⟨Try.f107.name, by decide, Try.func107.trans (congrArg some (by kernel_rfl))⟩
 f28 := Try.func108.trans (congrArg some (by kernel_rfl))
 f29 := Try.func109.trans (congrArg some (by kernel_rfl))
 f46 := ⟨Try.f119.name, by decide, Try.func119.trans (congrArg some (by kernel_rfl))⟩
 f47 := Try.func120.trans (congrArg some (by kernel_rfl))
 f48 := Try.func121.trans (congrArg some (by kernel_rfl))
 f49 := ⟨Try.f122.name, by decide, Try.func122.trans (congrArg some (by kernel_rfl))⟩
 f50 := ⟨Try.f123.name, by decide, Try.func123.trans (congrArg some (by kernel_rfl))⟩
 f57 := ⟨Try.f127.name, by decide, Try.func127.trans (congrArg some (by kernel_rfl))⟩
 t0 := Try.underlying0
 a0 := Try.isAgg0
 z0 := Try.sizeOf0
 v0 := Try.zeroValue0
 t3 := Try.underlying3
 a3 := Try.isAgg3
 z3 := Try.sizeOf3
 v3 := Try.zeroValue3
 t4 := Try.underlying4
 a4 := Try.isAgg4
 z4 := Try.sizeOf4
 v4 := Try.zeroValue4
 t5 := Try.underlying5
 a5 := Try.isAgg5
 z5 := Try.sizeOf5
 v5 := Try.zeroValue5
 t9 := Try.underlying9
 a9 := Try.isAgg9
 z9 := Try.sizeOf9
 v9 := Try.zeroValue9
 t22 := Try.underlying57
 a22 := Try.isAgg57
 z22 := Try.sizeOf57
 v22 := Try.zeroValue57
 t25 := Try.underlying130
 a25 := Try.isAgg130
 z25 := Try.sizeOf130
 v25 := Try.zeroValue130
 t39 := Try.underlying121
 a39 := Try.isAgg121
 z39 := Try.sizeOf121
 v39 := Try.zeroValue121
 t45 := Try.underlying171
 a45 := Try.isAgg171
 z45 := Try.sizeOf171
 v45 := Try.zeroValue171
 t46 := Try.underlying172
 a46 := Try.isAgg172
 z46 := Try.sizeOf172
 v46 := Try.zeroValue172
 t50 := Try.underlying34
 a50 := Try.isAgg34
 z50 := Try.sizeOf34
 v50 := Try.zeroValue34
 t53 := Try.underlying73
 a53 := Try.isAgg73
 z53 := Try.sizeOf73
 v53 := Try.zeroValue73
 t55 := Try.underlying135
 a55 := Try.isAgg135
 z55 := Try.sizeOf135
 v55 := Try.zeroValue135
 t66 := Try.underlying185
 a66 := Try.isAgg185
 z66 := Try.sizeOf185
 v66 := Try.zeroValue185
 t70 := Try.underlying189
 a70 := Try.isAgg189
 z70 := Try.sizeOf189
 v70 := Try.zeroValue189
 t76 := Try.underlying193
 a76 := Try.isAgg193
 z76 := Try.sizeOf193
 v76 := Try.zeroValue193
 t77 := Try.underlying143
 a77 := Try.isAgg143
 z77 := Try.sizeOf143
 v77 := Try.zeroValue143 }
end Go.Proofs.Ytbkgblhmlenocaa
