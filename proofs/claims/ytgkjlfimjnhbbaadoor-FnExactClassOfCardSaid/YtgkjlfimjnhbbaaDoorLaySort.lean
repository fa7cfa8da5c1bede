/-
  DERIVED: THE SHELF's CONTRACTS AT THIS DUMP, IN PLAIN WORDS (tools/lay-plain.mjs out of 'YtgkjlfimjnhbbaaDoorLaySort.lean', which tools/lay-shelf.mjs wrote): THE SAME DECLARATIONS UNDER THE SAME NAMES: 'import', 'namespace', 'open', 'def', 'theorem' AND NOTHING ELSE: no command of the shelf's: FOR A HAND-IN. Each laying: the table of numbers ('.._ren') and one theorem, a field a fact of the dump's own or the kernel's comparison; each contract: ONE APPLICATION.
-/
import Derived.Ground.NamesProg
import Derived.Shelf.Sort.Plain
import Derived.Test.YtgkjlfimjnhbbaaDoorProg
namespace Go.Proofs
open Go.Shelf
def Tryd.lays190_ren : Go.Shelf.Ren := ⟨fun | 190 => 121 | 125 => 108 | 258 => 151 | 128 => 142 | 129 => 143 | 302 => 172 | 303 => 173 | 304 => 174 | 305 => 175 | 306 => 176 | 307 => 177 | 308 => 178 | 309 => 179 | 310 => 180 | 333 => 198 | 329 => 163 | 330 => 164 | 334 => 199 | 335 => 200 | 336 => 201 | 344 => 204 | n => n, fun | 31 => 22 | 9 => 9 | 3 => 3 | 46 => 142 | 0 => 0 | 51 => 167 | 53 => 169 | 4 => 4 | 183 => 160 | 182 => 159 | 131 => 164 | 5 => 5 | 218 => 181 | 222 => 185 | 228 => 205 | 229 => 137 | n => n, fun | n => n⟩
theorem Tryd.lays190 : Go.Proofs.Lays.n190 Tryd.prog Tryd.lays190_ren := {
  mixed := by kernel_rfl
  f125 := Tryd.func108.trans (congrArg some (by kernel_rfl))
  f128 := Tryd.func142.trans (congrArg some (by kernel_rfl))
  f129 := Tryd.func143.trans (congrArg some (by kernel_rfl))
  f190 := Tryd.func121.trans (congrArg some (by kernel_rfl))
  f258 := Tryd.func151.trans (congrArg some (by kernel_rfl))
  f302 := Tryd.func172.trans (congrArg some (by kernel_rfl))
  f303 := Tryd.func173.trans (congrArg some (by kernel_rfl))
  f304 := Tryd.func174.trans (congrArg some (by kernel_rfl))
  f305 := Tryd.func175.trans (congrArg some (by kernel_rfl))
  f306 := Tryd.func176.trans (congrArg some (by kernel_rfl))
  f307 := Tryd.func177.trans (congrArg some (by kernel_rfl))
  f308 := Tryd.func178.trans (congrArg some (by kernel_rfl))
  f309 := Tryd.func179.trans (congrArg some (by kernel_rfl))
  f310 := Tryd.func180.trans (congrArg some (by kernel_rfl))
  f329 := Tryd.func163.trans (congrArg some (by kernel_rfl))
  f330 := Tryd.func164.trans (congrArg some (by kernel_rfl))
  f333 := Tryd.func198.trans (congrArg some (by kernel_rfl))
  f334 := Tryd.func199.trans (congrArg some (by kernel_rfl))
  f335 := Tryd.func200.trans (congrArg some (by kernel_rfl))
  f336 := Tryd.func201.trans (congrArg some (by kernel_rfl))
  f344 := Tryd.func204.trans (congrArg some (by kernel_rfl))
  t0 := Tryd.underlying0
  a0 := Tryd.isAgg0
  z0 := Tryd.sizeOf0
  v0 := Tryd.zeroValue0
  t3 := Tryd.underlying3
  a3 := Tryd.isAgg3
  z3 := Tryd.sizeOf3
  v3 := Tryd.zeroValue3
  t4 := Tryd.underlying4
  a4 := Tryd.isAgg4
  z4 := Tryd.sizeOf4
  v4 := Tryd.zeroValue4
  t5 := Tryd.underlying5
  a5 := Tryd.isAgg5
  z5 := Tryd.sizeOf5
  v5 := Tryd.zeroValue5
  t9 := Tryd.underlying9
  a9 := Tryd.isAgg9
  z9 := Tryd.sizeOf9
  v9 := Tryd.zeroValue9
  t31 := Tryd.underlying22
  a31 := Tryd.isAgg22
  z31 := Tryd.sizeOf22
  v31 := Tryd.zeroValue22
  t46 := Tryd.underlying142
  a46 := Tryd.isAgg142
  z46 := Tryd.sizeOf142
  v46 := Tryd.zeroValue142
  t51 := Tryd.underlying167
  a51 := Tryd.isAgg167
  z51 := Tryd.sizeOf167
  v51 := Tryd.zeroValue167
  t53 := Tryd.underlying169
  a53 := Tryd.isAgg169
  z53 := Tryd.sizeOf169
  v53 := Tryd.zeroValue169
  t131 := Tryd.underlying164
  a131 := Tryd.isAgg164
  z131 := Tryd.sizeOf164
  v131 := Tryd.zeroValue164
  t182 := Tryd.underlying159
  a182 := Tryd.isAgg159
  z182 := Tryd.sizeOf159
  v182 := Tryd.zeroValue159
  t183 := Tryd.underlying160
  a183 := Tryd.isAgg160
  z183 := Tryd.sizeOf160
  v183 := Tryd.zeroValue160
  t218 := Tryd.underlying181
  a218 := Tryd.isAgg181
  z218 := Tryd.sizeOf181
  v218 := Tryd.zeroValue181
  t222 := Tryd.underlying185
  a222 := Tryd.isAgg185
  z222 := Tryd.sizeOf185
  v222 := Tryd.zeroValue185
  t228 := Tryd.underlying205
  a228 := Tryd.isAgg205
  z228 := Tryd.sizeOf205
  v228 := Tryd.zeroValue205
  t229 := Tryd.underlying137
  a229 := Tryd.isAgg137
  z229 := Tryd.sizeOf137
  v229 := Tryd.zeroValue137 }
end Go.Proofs
