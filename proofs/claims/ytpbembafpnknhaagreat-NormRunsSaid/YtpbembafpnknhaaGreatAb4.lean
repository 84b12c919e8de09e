/- Proof texts of one seat, in one file: an evaluator of the program's form, shown sound, and the functions told by it. There are no conditions but those that each theorem names. -/
import Derived.ChangeArms
import Derived.ChangeShapes
import Derived.ChangeSlices
import Derived.Ground.Names2Prog
import Derived.Ground.SlgfProg
import Derived.Ground.SlgnProg
import Derived.Ground.SlsfProg
import Derived.JoinedOf
import Derived.KernelRfl
import Derived.OpenShut
import Derived.Shelf.SlGeneric
import Derived.Shelf.SlSortCmp.NoneTotal
import Derived.Shelf.Slices.In.SortNone
import Derived.Shelf.SlicesE.Clone
import Derived.Shelf.SlicesQ.IndexFunc
import Derived.Shelf.Sort.Plain
import Derived.SizedLaws
import Derived.Test.YtpbembafpnknhaaGreatProg
import Derived.Test.YtpbembafpnknhaaGreatRows
import Derived.WalkKit
import Derived.Test.YtpbembafpnknhaaGreatAb0
import Derived.Test.YtpbembafpnknhaaGreatAb1
import Derived.Test.YtpbembafpnknhaaGreatAb2
import Derived.Test.YtpbembafpnknhaaGreatAb3
set_option linter.unusedVariables false
set_option linter.unusedSimpArgs false
set_option linter.unusedSectionVars false
set_option linter.unnecessarySimpa false
namespace Go.Proofs
open Go.Shelf
def Tryz.sortOn_ren : Go.Shelf.Ren := ⟨fun | 6 => 176 | 15 => 125 | 14 => 218 | 28 => 172 | 29 => 173 | 20 => 242 | 21 => 243 | 22 => 244 | 23 => 245 | 24 => 246 | 25 => 247 | 26 => 248 | 27 => 249 | 46 => 274 | 47 => 214 | 48 => 215 | 49 => 275 | 50 => 276 | 57 => 284 | n => n, fun | 22 => 26 | 24 => 78 | 25 => 90 | 3 => 3 | 39 => 145 | 0 => 0 | 53 => 181 | 55 => 183 | 4 => 4 | 46 => 173 | 45 => 172 | 50 => 178 | 5 => 5 | 9 => 9 | 66 => 209 | 70 => 213 | 76 => 234 | 77 => 235 | n => n, fun | n => n⟩
theorem Tryz.sortOn : Go.Proofs.SlLaysF0.n6 Tryz.prog Tryz.sortOn_ren := {
  mixed := by kernel_rfl
  f6 := ⟨Tryz.f176.name, by decide, Tryz.func176.trans (congrArg some (by kernel_rfl))⟩
  f14 := ⟨Tryz.f218.name, by decide, Tryz.func218.trans (congrArg some (by kernel_rfl))⟩
  f15 := Tryz.func125.trans (congrArg some (by kernel_rfl))
  f20 := ⟨Tryz.f242.name, by decide, Tryz.func242.trans (congrArg some (by kernel_rfl))⟩
  f21 := ⟨Tryz.f243.name, by decide, Tryz.func243.trans (congrArg some (by kernel_rfl))⟩
  f22 := ⟨Tryz.f244.name, by decide, Tryz.func244.trans (congrArg some (by kernel_rfl))⟩
  f23 := ⟨Tryz.f245.name, by decide, Tryz.func245.trans (congrArg some (by kernel_rfl))⟩
  f24 := ⟨Tryz.f246.name, by decide, Tryz.func246.trans (congrArg some (by kernel_rfl))⟩
  f25 := ⟨Tryz.f247.name, by decide, Tryz.func247.trans (congrArg some (by kernel_rfl))⟩
  f26 := ⟨Tryz.f248.name, by decide, Tryz.func248.trans (congrArg some (by kernel_rfl))⟩
  f27 := ⟨Tryz.f249.name, by decide, Tryz.func249.trans (congrArg some (by kernel_rfl))⟩
  f28 := Tryz.func172.trans (congrArg some (by kernel_rfl))
  f29 := Tryz.func173.trans (congrArg some (by kernel_rfl))
  f46 := ⟨Tryz.f274.name, by decide, Tryz.func274.trans (congrArg some (by kernel_rfl))⟩
  f47 := Tryz.func214.trans (congrArg some (by kernel_rfl))
  f48 := Tryz.func215.trans (congrArg some (by kernel_rfl))
  f49 := ⟨Tryz.f275.name, by decide, Tryz.func275.trans (congrArg some (by kernel_rfl))⟩
  f50 := ⟨Tryz.f276.name, by decide, Tryz.func276.trans (congrArg some (by kernel_rfl))⟩
  f57 := ⟨Tryz.f284.name, by decide, Tryz.func284.trans (congrArg some (by kernel_rfl))⟩
  t0 := Tryz.underlying0
  a0 := Tryz.isAgg0
  z0 := Tryz.sizeOf0
  v0 := Tryz.zeroValue0
  t3 := Tryz.underlying3
  a3 := Tryz.isAgg3
  z3 := Tryz.sizeOf3
  v3 := Tryz.zeroValue3
  t4 := Tryz.underlying4
  a4 := Tryz.isAgg4
  z4 := Tryz.sizeOf4
  v4 := Tryz.zeroValue4
  t5 := Tryz.underlying5
  a5 := Tryz.isAgg5
  z5 := Tryz.sizeOf5
  v5 := Tryz.zeroValue5
  t9 := Tryz.underlying9
  a9 := Tryz.isAgg9
  z9 := Tryz.sizeOf9
  v9 := Tryz.zeroValue9
  t22 := Tryz.underlying26
  a22 := Tryz.isAgg26
  z22 := Tryz.sizeOf26
  v22 := Tryz.zeroValue26
  t25 := Tryz.underlying90
  a25 := Tryz.isAgg90
  z25 := Tryz.sizeOf90
  v25 := Tryz.zeroValue90
  t39 := Tryz.underlying145
  a39 := Tryz.isAgg145
  z39 := Tryz.sizeOf145
  v39 := Tryz.zeroValue145
  t45 := Tryz.underlying172
  a45 := Tryz.isAgg172
  z45 := Tryz.sizeOf172
  v45 := Tryz.zeroValue172
  t46 := Tryz.underlying173
  a46 := Tryz.isAgg173
  z46 := Tryz.sizeOf173
  v46 := Tryz.zeroValue173
  t50 := Tryz.underlying178
  a50 := Tryz.isAgg178
  z50 := Tryz.sizeOf178
  v50 := Tryz.zeroValue178
  t53 := Tryz.underlying181
  a53 := Tryz.isAgg181
  z53 := Tryz.sizeOf181
  v53 := Tryz.zeroValue181
  t55 := Tryz.underlying183
  a55 := Tryz.isAgg183
  z55 := Tryz.sizeOf183
  v55 := Tryz.zeroValue183
  t66 := Tryz.underlying209
  a66 := Tryz.isAgg209
  z66 := Tryz.sizeOf209
  v66 := Tryz.zeroValue209
  t70 := Tryz.underlying213
  a70 := Tryz.isAgg213
  z70 := Tryz.sizeOf213
  v70 := Tryz.zeroValue213
  t76 := Tryz.underlying234
  a76 := Tryz.isAgg234
  z76 := Tryz.sizeOf234
  v76 := Tryz.zeroValue234
  t77 := Tryz.underlying235
  a77 := Tryz.isAgg235
  z77 := Tryz.sizeOf235
  v77 := Tryz.zeroValue235 }
def Tryz.sortIf_ren : Go.Shelf.Ren := ⟨fun | 6 => 177 | 15 => 125 | 14 => 219 | 28 => 172 | 29 => 173 | 20 => 250 | 21 => 251 | 22 => 252 | 23 => 253 | 24 => 254 | 25 => 255 | 26 => 256 | 27 => 257 | 46 => 277 | 47 => 214 | 48 => 215 | 49 => 278 | 50 => 279 | 57 => 285 | n => n, fun | 22 => 27 | 24 => 93 | 25 => 94 | 3 => 3 | 39 => 145 | 0 => 0 | 53 => 181 | 55 => 183 | 4 => 4 | 46 => 173 | 45 => 172 | 50 => 178 | 5 => 5 | 9 => 9 | 66 => 209 | 70 => 213 | 76 => 234 | 77 => 235 | n => n, fun | n => n⟩
theorem Tryz.sortIf : Go.Proofs.SlLaysF0.n6 Tryz.prog Tryz.sortIf_ren := {
  mixed := by kernel_rfl
  f6 := ⟨Tryz.f177.name, by decide, Tryz.func177.trans (congrArg some (by kernel_rfl))⟩
  f14 := ⟨Tryz.f219.name, by decide, Tryz.func219.trans (congrArg some (by kernel_rfl))⟩
  f15 := Tryz.func125.trans (congrArg some (by kernel_rfl))
  f20 := ⟨Tryz.f250.name, by decide, Tryz.func250.trans (congrArg some (by kernel_rfl))⟩
  f21 := ⟨Tryz.f251.name, by decide, Tryz.func251.trans (congrArg some (by kernel_rfl))⟩
  f22 := ⟨Tryz.f252.name, by decide, Tryz.func252.trans (congrArg some (by kernel_rfl))⟩
  f23 := ⟨Tryz.f253.name, by decide, Tryz.func253.trans (congrArg some (by kernel_rfl))⟩
  f24 := ⟨Tryz.f254.name, by decide, Tryz.func254.trans (congrArg some (by kernel_rfl))⟩
  f25 := ⟨Tryz.f255.name, by decide, Tryz.func255.trans (congrArg some (by kernel_rfl))⟩
  f26 := ⟨Tryz.f256.name, by decide, Tryz.func256.trans (congrArg some (by kernel_rfl))⟩
  f27 := ⟨Tryz.f257.name, by decide, Tryz.func257.trans (congrArg some (by kernel_rfl))⟩
  f28 := Tryz.func172.trans (congrArg some (by kernel_rfl))
  f29 := Tryz.func173.trans (congrArg some (by kernel_rfl))
  f46 := ⟨Tryz.f277.name, by decide, Tryz.func277.trans (congrArg some (by kernel_rfl))⟩
  f47 := Tryz.func214.trans (congrArg some (by kernel_rfl))
  f48 := Tryz.func215.trans (congrArg some (by kernel_rfl))
  f49 := ⟨Tryz.f278.name, by decide, Tryz.func278.trans (congrArg some (by kernel_rfl))⟩
  f50 := ⟨Tryz.f279.name, by decide, Tryz.func279.trans (congrArg some (by kernel_rfl))⟩
  f57 := ⟨Tryz.f285.name, by decide, Tryz.func285.trans (congrArg some (by kernel_rfl))⟩
  t0 := Tryz.underlying0
  a0 := Tryz.isAgg0
  z0 := Tryz.sizeOf0
  v0 := Tryz.zeroValue0
  t3 := Tryz.underlying3
  a3 := Tryz.isAgg3
  z3 := Tryz.sizeOf3
  v3 := Tryz.zeroValue3
  t4 := Tryz.underlying4
  a4 := Tryz.isAgg4
  z4 := Tryz.sizeOf4
  v4 := Tryz.zeroValue4
  t5 := Tryz.underlying5
  a5 := Tryz.isAgg5
  z5 := Tryz.sizeOf5
  v5 := Tryz.zeroValue5
  t9 := Tryz.underlying9
  a9 := Tryz.isAgg9
  z9 := Tryz.sizeOf9
  v9 := Tryz.zeroValue9
  t22 := Tryz.underlying27
  a22 := Tryz.isAgg27
  z22 := Tryz.sizeOf27
  v22 := Tryz.zeroValue27
  t25 := Tryz.underlying94
  a25 := Tryz.isAgg94
  z25 := Tryz.sizeOf94
  v25 := Tryz.zeroValue94
  t39 := Tryz.underlying145
  a39 := Tryz.isAgg145
  z39 := Tryz.sizeOf145
  v39 := Tryz.zeroValue145
  t45 := Tryz.underlying172
  a45 := Tryz.isAgg172
  z45 := Tryz.sizeOf172
  v45 := Tryz.zeroValue172
  t46 := Tryz.underlying173
  a46 := Tryz.isAgg173
  z46 := Tryz.sizeOf173
  v46 := Tryz.zeroValue173
  t50 := Tryz.underlying178
  a50 := Tryz.isAgg178
  z50 := Tryz.sizeOf178
  v50 := Tryz.zeroValue178
  t53 := Tryz.underlying181
  a53 := Tryz.isAgg181
  z53 := Tryz.sizeOf181
  v53 := Tryz.zeroValue181
  t55 := Tryz.underlying183
  a55 := Tryz.isAgg183
  z55 := Tryz.sizeOf183
  v55 := Tryz.zeroValue183
  t66 := Tryz.underlying209
  a66 := Tryz.isAgg209
  z66 := Tryz.sizeOf209
  v66 := Tryz.zeroValue209
  t70 := Tryz.underlying213
  a70 := Tryz.isAgg213
  z70 := Tryz.sizeOf213
  v70 := Tryz.zeroValue213
  t76 := Tryz.underlying234
  a76 := Tryz.isAgg234
  z76 := Tryz.sizeOf234
  v76 := Tryz.zeroValue234
  t77 := Tryz.underlying235
  a77 := Tryz.isAgg235
  z77 := Tryz.sizeOf235
  v77 := Tryz.zeroValue235 }
def Tryz.sortSe_ren : Go.Shelf.Ren := ⟨fun | 6 => 179 | 15 => 125 | 14 => 220 | 28 => 172 | 29 => 173 | 20 => 258 | 21 => 259 | 22 => 260 | 23 => 261 | 24 => 262 | 25 => 263 | 26 => 264 | 27 => 265 | 46 => 280 | 47 => 214 | 48 => 215 | 49 => 281 | 50 => 282 | 57 => 286 | n => n, fun | 22 => 45 | 24 => 29 | 25 => 31 | 3 => 3 | 39 => 145 | 0 => 0 | 53 => 181 | 55 => 183 | 4 => 4 | 46 => 173 | 45 => 172 | 50 => 178 | 5 => 5 | 9 => 9 | 66 => 209 | 70 => 213 | 76 => 234 | 77 => 235 | n => n, fun | n => n⟩
theorem Tryz.sortSe : Go.Proofs.SlLaysF0.n6 Tryz.prog Tryz.sortSe_ren := {
  mixed := by kernel_rfl
  f6 := ⟨Tryz.f179.name, by decide, Tryz.func179.trans (congrArg some (by kernel_rfl))⟩
  f14 := ⟨Tryz.f220.name, by decide, Tryz.func220.trans (congrArg some (by kernel_rfl))⟩
  f15 := Tryz.func125.trans (congrArg some (by kernel_rfl))
  f20 := ⟨Tryz.f258.name, by decide, Tryz.func258.trans (congrArg some (by kernel_rfl))⟩
  f21 := ⟨Tryz.f259.name, by decide, Tryz.func259.trans (congrArg some (by kernel_rfl))⟩
  f22 := ⟨Tryz.f260.name, by decide, Tryz.func260.trans (congrArg some (by kernel_rfl))⟩
  f23 := ⟨Tryz.f261.name, by decide, Tryz.func261.trans (congrArg some (by kernel_rfl))⟩
  f24 := ⟨Tryz.f262.name, by decide, Tryz.func262.trans (congrArg some (by kernel_rfl))⟩
  f25 := ⟨Tryz.f263.name, by decide, Tryz.func263.trans (congrArg some (by kernel_rfl))⟩
  f26 := ⟨Tryz.f264.name, by decide, Tryz.func264.trans (congrArg some (by kernel_rfl))⟩
  f27 := ⟨Tryz.f265.name, by decide, Tryz.func265.trans (congrArg some (by kernel_rfl))⟩
  f28 := Tryz.func172.trans (congrArg some (by kernel_rfl))
  f29 := Tryz.func173.trans (congrArg some (by kernel_rfl))
  f46 := ⟨Tryz.f280.name, by decide, Tryz.func280.trans (congrArg some (by kernel_rfl))⟩
  f47 := Tryz.func214.trans (congrArg some (by kernel_rfl))
  f48 := Tryz.func215.trans (congrArg some (by kernel_rfl))
  f49 := ⟨Tryz.f281.name, by decide, Tryz.func281.trans (congrArg some (by kernel_rfl))⟩
  f50 := ⟨Tryz.f282.name, by decide, Tryz.func282.trans (congrArg some (by kernel_rfl))⟩
  f57 := ⟨Tryz.f286.name, by decide, Tryz.func286.trans (congrArg some (by kernel_rfl))⟩
  t0 := Tryz.underlying0
  a0 := Tryz.isAgg0
  z0 := Tryz.sizeOf0
  v0 := Tryz.zeroValue0
  t3 := Tryz.underlying3
  a3 := Tryz.isAgg3
  z3 := Tryz.sizeOf3
  v3 := Tryz.zeroValue3
  t4 := Tryz.underlying4
  a4 := Tryz.isAgg4
  z4 := Tryz.sizeOf4
  v4 := Tryz.zeroValue4
  t5 := Tryz.underlying5
  a5 := Tryz.isAgg5
  z5 := Tryz.sizeOf5
  v5 := Tryz.zeroValue5
  t9 := Tryz.underlying9
  a9 := Tryz.isAgg9
  z9 := Tryz.sizeOf9
  v9 := Tryz.zeroValue9
  t22 := Tryz.underlying45
  a22 := Tryz.isAgg45
  z22 := Tryz.sizeOf45
  v22 := Tryz.zeroValue45
  t25 := Tryz.underlying31
  a25 := Tryz.isAgg31
  z25 := Tryz.sizeOf31
  v25 := Tryz.zeroValue31
  t39 := Tryz.underlying145
  a39 := Tryz.isAgg145
  z39 := Tryz.sizeOf145
  v39 := Tryz.zeroValue145
  t45 := Tryz.underlying172
  a45 := Tryz.isAgg172
  z45 := Tryz.sizeOf172
  v45 := Tryz.zeroValue172
  t46 := Tryz.underlying173
  a46 := Tryz.isAgg173
  z46 := Tryz.sizeOf173
  v46 := Tryz.zeroValue173
  t50 := Tryz.underlying178
  a50 := Tryz.isAgg178
  z50 := Tryz.sizeOf178
  v50 := Tryz.zeroValue178
  t53 := Tryz.underlying181
  a53 := Tryz.isAgg181
  z53 := Tryz.sizeOf181
  v53 := Tryz.zeroValue181
  t55 := Tryz.underlying183
  a55 := Tryz.isAgg183
  z55 := Tryz.sizeOf183
  v55 := Tryz.zeroValue183
  t66 := Tryz.underlying209
  a66 := Tryz.isAgg209
  z66 := Tryz.sizeOf209
  v66 := Tryz.zeroValue209
  t70 := Tryz.underlying213
  a70 := Tryz.isAgg213
  z70 := Tryz.sizeOf213
  v70 := Tryz.zeroValue213
  t76 := Tryz.underlying234
  a76 := Tryz.isAgg234
  z76 := Tryz.sizeOf234
  v76 := Tryz.zeroValue234
  t77 := Tryz.underlying235
  a77 := Tryz.isAgg235
  z77 := Tryz.sizeOf235
  v77 := Tryz.zeroValue235 }
def Tryz.sortInt_ren : Go.Shelf.Ren := ⟨fun | 6 => 128 | 15 => 125 | 14 => 182 | 28 => 172 | 29 => 173 | 20 => 221 | 21 => 222 | 22 => 223 | 23 => 224 | 24 => 225 | 25 => 226 | 26 => 227 | 27 => 228 | 46 => 266 | 47 => 214 | 48 => 215 | 49 => 267 | 50 => 268 | 57 => 283 | n => n, fun | 22 => 51 | 24 => 3 | 25 => 95 | 3 => 3 | 39 => 145 | 0 => 0 | 53 => 181 | 55 => 183 | 4 => 4 | 46 => 173 | 45 => 172 | 50 => 178 | 5 => 5 | 9 => 9 | 66 => 209 | 70 => 213 | 76 => 234 | 77 => 235 | n => n, fun | n => n⟩
theorem Tryz.sortInt : Go.Proofs.SlLaysF.n6 Tryz.prog Tryz.sortInt_ren := {
  mixed := by kernel_rfl
  f6 := ⟨Tryz.f128.name, by decide, Tryz.func128.trans (congrArg some (by kernel_rfl))⟩
  f14 := ⟨Tryz.f182.name, by decide, Tryz.func182.trans (congrArg some (by kernel_rfl))⟩
  f15 := Tryz.func125.trans (congrArg some (by kernel_rfl))
  f20 := ⟨Tryz.f221.name, by decide, Tryz.func221.trans (congrArg some (by kernel_rfl))⟩
  f21 := ⟨Tryz.f222.name, by decide, Tryz.func222.trans (congrArg some (by kernel_rfl))⟩
  f22 := ⟨Tryz.f223.name, by decide, Tryz.func223.trans (congrArg some (by kernel_rfl))⟩
  f23 := ⟨Tryz.f224.name, by decide, Tryz.func224.trans (congrArg some (by kernel_rfl))⟩
  f24 := ⟨Tryz.f225.name, by decide, Tryz.func225.trans (congrArg some (by kernel_rfl))⟩
  f25 := ⟨Tryz.f226.name, by decide, Tryz.func226.trans (congrArg some (by kernel_rfl))⟩
  f26 := ⟨Tryz.f227.name, by decide, Tryz.func227.trans (congrArg some (by kernel_rfl))⟩
  f27 := ⟨Tryz.f228.name, by decide, Tryz.func228.trans (congrArg some (by kernel_rfl))⟩
  f28 := Tryz.func172.trans (congrArg some (by kernel_rfl))
  f29 := Tryz.func173.trans (congrArg some (by kernel_rfl))
  f46 := ⟨Tryz.f266.name, by decide, Tryz.func266.trans (congrArg some (by kernel_rfl))⟩
  f47 := Tryz.func214.trans (congrArg some (by kernel_rfl))
  f48 := Tryz.func215.trans (congrArg some (by kernel_rfl))
  f49 := ⟨Tryz.f267.name, by decide, Tryz.func267.trans (congrArg some (by kernel_rfl))⟩
  f50 := ⟨Tryz.f268.name, by decide, Tryz.func268.trans (congrArg some (by kernel_rfl))⟩
  f57 := ⟨Tryz.f283.name, by decide, Tryz.func283.trans (congrArg some (by kernel_rfl))⟩
  t0 := Tryz.underlying0
  a0 := Tryz.isAgg0
  z0 := Tryz.sizeOf0
  v0 := Tryz.zeroValue0
  t3 := Tryz.underlying3
  a3 := Tryz.isAgg3
  z3 := Tryz.sizeOf3
  v3 := Tryz.zeroValue3
  t4 := Tryz.underlying4
  a4 := Tryz.isAgg4
  z4 := Tryz.sizeOf4
  v4 := Tryz.zeroValue4
  t5 := Tryz.underlying5
  a5 := Tryz.isAgg5
  z5 := Tryz.sizeOf5
  v5 := Tryz.zeroValue5
  t9 := Tryz.underlying9
  a9 := Tryz.isAgg9
  z9 := Tryz.sizeOf9
  v9 := Tryz.zeroValue9
  t22 := Tryz.underlying51
  a22 := Tryz.isAgg51
  z22 := Tryz.sizeOf51
  v22 := Tryz.zeroValue51
  a24 := Tryz.isAgg3
  z24 := Tryz.sizeOf3
  t25 := Tryz.underlying95
  a25 := Tryz.isAgg95
  z25 := Tryz.sizeOf95
  v25 := Tryz.zeroValue95
  t39 := Tryz.underlying145
  a39 := Tryz.isAgg145
  z39 := Tryz.sizeOf145
  v39 := Tryz.zeroValue145
  t45 := Tryz.underlying172
  a45 := Tryz.isAgg172
  z45 := Tryz.sizeOf172
  v45 := Tryz.zeroValue172
  t46 := Tryz.underlying173
  a46 := Tryz.isAgg173
  z46 := Tryz.sizeOf173
  v46 := Tryz.zeroValue173
  t50 := Tryz.underlying178
  a50 := Tryz.isAgg178
  z50 := Tryz.sizeOf178
  v50 := Tryz.zeroValue178
  t53 := Tryz.underlying181
  a53 := Tryz.isAgg181
  z53 := Tryz.sizeOf181
  v53 := Tryz.zeroValue181
  t55 := Tryz.underlying183
  a55 := Tryz.isAgg183
  z55 := Tryz.sizeOf183
  v55 := Tryz.zeroValue183
  t66 := Tryz.underlying209
  a66 := Tryz.isAgg209
  z66 := Tryz.sizeOf209
  v66 := Tryz.zeroValue209
  t70 := Tryz.underlying213
  a70 := Tryz.isAgg213
  z70 := Tryz.sizeOf213
  v70 := Tryz.zeroValue213
  t76 := Tryz.underlying234
  a76 := Tryz.isAgg234
  z76 := Tryz.sizeOf234
  v76 := Tryz.zeroValue234
  t77 := Tryz.underlying235
  a77 := Tryz.isAgg235
  z77 := Tryz.sizeOf235
  v77 := Tryz.zeroValue235 }
def Tryz.sortStr_ren : Go.Shelf.Ren := ⟨fun | 190 => 79 | 125 => 125 | 258 => 124 | 128 => 172 | 129 => 173 | 302 => 163 | 303 => 164 | 304 => 165 | 305 => 166 | 306 => 167 | 307 => 168 | 308 => 169 | 309 => 170 | 310 => 171 | 333 => 213 | 329 => 214 | 330 => 215 | 334 => 216 | 335 => 217 | 336 => 159 | 344 => 241 | n => n, fun | 31 => 22 | 9 => 9 | 3 => 3 | 46 => 145 | 0 => 0 | 51 => 181 | 53 => 183 | 4 => 4 | 183 => 173 | 182 => 172 | 131 => 178 | 5 => 5 | 218 => 209 | 222 => 213 | 228 => 234 | 229 => 235 | n => n, fun | n => n⟩
theorem Tryz.sortStr : Go.Proofs.Lays.n190 Tryz.prog Tryz.sortStr_ren := {
  mixed := by kernel_rfl
  f125 := Tryz.func125.trans (congrArg some (by kernel_rfl))
  f128 := Tryz.func172.trans (congrArg some (by kernel_rfl))
  f129 := Tryz.func173.trans (congrArg some (by kernel_rfl))
  f190 := Tryz.func79.trans (congrArg some (by kernel_rfl))
  f258 := Tryz.func124.trans (congrArg some (by kernel_rfl))
  f302 := Tryz.func163.trans (congrArg some (by kernel_rfl))
  f303 := Tryz.func164.trans (congrArg some (by kernel_rfl))
  f304 := Tryz.func165.trans (congrArg some (by kernel_rfl))
  f305 := Tryz.func166.trans (congrArg some (by kernel_rfl))
  f306 := Tryz.func167.trans (congrArg some (by kernel_rfl))
  f307 := Tryz.func168.trans (congrArg some (by kernel_rfl))
  f308 := Tryz.func169.trans (congrArg some (by kernel_rfl))
  f309 := Tryz.func170.trans (congrArg some (by kernel_rfl))
  f310 := Tryz.func171.trans (congrArg some (by kernel_rfl))
  f329 := Tryz.func214.trans (congrArg some (by kernel_rfl))
  f330 := Tryz.func215.trans (congrArg some (by kernel_rfl))
  f333 := Tryz.func213.trans (congrArg some (by kernel_rfl))
  f334 := Tryz.func216.trans (congrArg some (by kernel_rfl))
  f335 := Tryz.func217.trans (congrArg some (by kernel_rfl))
  f336 := Tryz.func159.trans (congrArg some (by kernel_rfl))
  f344 := Tryz.func241.trans (congrArg some (by kernel_rfl))
  t0 := Tryz.underlying0
  a0 := Tryz.isAgg0
  z0 := Tryz.sizeOf0
  v0 := Tryz.zeroValue0
  t3 := Tryz.underlying3
  a3 := Tryz.isAgg3
  z3 := Tryz.sizeOf3
  v3 := Tryz.zeroValue3
  t4 := Tryz.underlying4
  a4 := Tryz.isAgg4
  z4 := Tryz.sizeOf4
  v4 := Tryz.zeroValue4
  t5 := Tryz.underlying5
  a5 := Tryz.isAgg5
  z5 := Tryz.sizeOf5
  v5 := Tryz.zeroValue5
  t9 := Tryz.underlying9
  a9 := Tryz.isAgg9
  z9 := Tryz.sizeOf9
  v9 := Tryz.zeroValue9
  t31 := Tryz.underlying22
  a31 := Tryz.isAgg22
  z31 := Tryz.sizeOf22
  v31 := Tryz.zeroValue22
  t46 := Tryz.underlying145
  a46 := Tryz.isAgg145
  z46 := Tryz.sizeOf145
  v46 := Tryz.zeroValue145
  t51 := Tryz.underlying181
  a51 := Tryz.isAgg181
  z51 := Tryz.sizeOf181
  v51 := Tryz.zeroValue181
  t53 := Tryz.underlying183
  a53 := Tryz.isAgg183
  z53 := Tryz.sizeOf183
  v53 := Tryz.zeroValue183
  t131 := Tryz.underlying178
  a131 := Tryz.isAgg178
  z131 := Tryz.sizeOf178
  v131 := Tryz.zeroValue178
  t182 := Tryz.underlying172
  a182 := Tryz.isAgg172
  z182 := Tryz.sizeOf172
  v182 := Tryz.zeroValue172
  t183 := Tryz.underlying173
  a183 := Tryz.isAgg173
  z183 := Tryz.sizeOf173
  v183 := Tryz.zeroValue173
  t218 := Tryz.underlying209
  a218 := Tryz.isAgg209
  z218 := Tryz.sizeOf209
  v218 := Tryz.zeroValue209
  t222 := Tryz.underlying213
  a222 := Tryz.isAgg213
  z222 := Tryz.sizeOf213
  v222 := Tryz.zeroValue213
  t228 := Tryz.underlying234
  a228 := Tryz.isAgg234
  z228 := Tryz.sizeOf234
  v228 := Tryz.zeroValue234
  t229 := Tryz.underlying235
  a229 := Tryz.isAgg235
  z229 := Tryz.sizeOf235
  v229 := Tryz.zeroValue235 }
end Go.Proofs
namespace Go.Ab
open Go.Proofs Sn
set_option maxRecDepth 100000
set_option maxHeartbeats 4000000
theorem c174 (l : List S78) (hl : l.length ≤ 1048576) : ACall cx.P 174 [.row 2 (l.map enc78)] [] (.own 2 96 0 (l.map enc78).length .opn) [(96, .live (.arr 2 (l.map enc78)))] := acall Tryz.f174 (by kernel_rfl) (by kernel_rfl) rfl <| by
  conv => whnf
  refine ⟨fun w1 => ?_, fun w1 => ?_⟩
  · conv => whnf
    rw [w1]
    exact .nil rfl rfl (.chg .nil) .here
  · conv => whnf
    refine ⟨by simpa using by omega, ?_⟩
    conv => whnf
    conv => whnf
    exact .of (by rw [Nat.add_zero] <;> rfl)
theorem c175 (l : List S93) (hl : l.length ≤ 1048576) : ACall cx.P 175 [.row 3 (l.map enc93)] [] (.own 3 96 0 (l.map enc93).length .opn) [(96, .live (.arr 3 (l.map enc93)))] := acall Tryz.f175 (by kernel_rfl) (by kernel_rfl) rfl <| by
  conv => whnf
  refine ⟨fun w1 => ?_, fun w1 => ?_⟩
  · conv => whnf
    rw [w1]
    exact .nil rfl rfl (.chg .nil) .here
  · conv => whnf
    refine ⟨by simpa using by omega, ?_⟩
    conv => whnf
    conv => whnf
    exact .of rfl
theorem eq93 {a b : S93} (h : (sEq a.f0 b.f0 && (sEq a.f1 b.f1 && ((a.f2 == b.f2) && true))) = true) : a = b := cs93Y (by rw [h]; rfl)
theorem ne93 {a b : S93} (h : (sEq a.f0 b.f0 && (sEq a.f1 b.f1 && ((a.f2 == b.f2) && true))) = false) : a ≠ b := cs93N (by rw [h]; rfl)
theorem c178_0 : ACall cx.P 178 [.own 3 32 0 0 .opn] [(32, .live (.arr 3 []))] (.own 3 32 0 0 .opn) [(32, .live (.arr 3 []))] := acall Tryz.f178 (by kernel_rfl) (by kernel_rfl) rfl <| by
  conv => whnf
  refine ⟨fun w1 => ?_, fun w1 => ?_⟩
  · replace w1 := of_decide_eq_true w1
    conv => whnf
    exact .of rfl
  · cases w1
theorem c178_1 (a : S93) : ACall cx.P 178 [.own 3 32 0 1 .opn] [(32, .live (.arr 3 [enc93 a]))] (.own 3 32 0 1 .opn) [(32, .live (.arr 3 [enc93 a]))] := acall Tryz.f178 (by kernel_rfl) (by kernel_rfl) rfl <| by
  conv => whnf
  refine ⟨fun w1 => ?_, fun w1 => ?_⟩
  · replace w1 := of_decide_eq_true w1
    conv => whnf
    exact .of rfl
  · cases w1
theorem c178_2 (a b : S93) (h : a ≠ b) : ACall cx.P 178 [.own 3 32 0 2 .opn] [(32, .live (.arr 3 [enc93 a, enc93 b]))] (.own 3 32 0 2 .opn) [(32, .live (.arr 3 [enc93 a, enc93 b]))] := acall Tryz.f178 (by kernel_rfl) (by kernel_rfl) rfl <| by
  conv => whnf
  refine ⟨fun w1 => ?_, fun w1 => ?_⟩
  · cases w1
  · conv => whnf
    refine .inl ⟨[0, 3], 2, ?_⟩
    conv => whnf
    refine ⟨fun w2 => ?_, fun w2 => ?_⟩
    · replace w2 := of_decide_eq_true w2
      conv => whnf
      refine ⟨⟨Int.natCast_nonneg _, by omega⟩, ?_⟩
      conv => whnf
      conv => whnf
      refine ⟨_, rfl, ?_⟩
      conv => whnf
      conv => whnf
      refine ⟨by decide, ?_⟩
      conv => whnf
      conv => whnf
      refine ⟨_, rfl, ?_⟩
      conv => whnf
      conv => whnf
      refine ⟨by kernel_rfl, ?_⟩
      conv => whnf
      conv => whnf
      refine ⟨fun w3 => ?_, fun w3 => ?_⟩
      · conv => whnf
        refine ⟨⟨Int.natCast_nonneg _, by omega⟩, ?_⟩
        conv => whnf
        conv => whnf
        exact absurd (eq93 w3).symm h
      · conv => whnf
        refine ⟨fun w4 => ?_, fun w4 => ?_⟩
        · cases w4
        · replace w4 := nlti w4
          conv => whnf
          exact .of rfl
    · cases w2
theorem c178_3 (a : S93) : ACall cx.P 178 [.own 3 32 0 2 .opn] [(32, .live (.arr 3 [enc93 a, enc93 a]))] (.own 3 32 0 1 (.room 1)) [(32, .live (.arr 3 [enc93 a, enc93 z93]))] := acall Tryz.f178 (by kernel_rfl) (by kernel_rfl) rfl <| by
  conv => whnf
  refine ⟨fun w1 => ?_, fun w1 => ?_⟩
  · cases w1
  · conv => whnf
    refine .inl ⟨[0, 3], 2, ?_⟩
    conv => whnf
    refine ⟨fun w2 => ?_, fun w2 => ?_⟩
    · replace w2 := of_decide_eq_true w2
      conv => whnf
      refine ⟨⟨Int.natCast_nonneg _, by omega⟩, ?_⟩
      conv => whnf
      conv => whnf
      refine ⟨_, rfl, ?_⟩
      conv => whnf
      conv => whnf
      refine ⟨by decide, ?_⟩
      conv => whnf
      conv => whnf
      refine ⟨_, rfl, ?_⟩
      conv => whnf
      conv => whnf
      refine ⟨by kernel_rfl, ?_⟩
      conv => whnf
      conv => whnf
      refine ⟨fun w3 => ?_, fun w3 => ?_⟩
      · conv => whnf
        refine ⟨⟨Int.natCast_nonneg _, by omega⟩, ?_⟩
        conv => whnf
        conv => whnf
        refine .inl ⟨[0, 3, 4, 5], 1, ?_⟩
        conv => whnf
        refine ⟨fun w4 => ?_, fun w4 => ?_⟩
        · cases w4
        · replace w4 := of_decide_eq_false w4
          conv => whnf
          refine ⟨⟨Int.natCast_nonneg _, by omega⟩, ?_⟩
          conv => whnf
          conv => whnf
          refine ⟨by simpa using by omega, ?_⟩
          conv => whnf
          conv => whnf
          refine ⟨⟨Int.natCast_nonneg _, by omega⟩, ?_⟩
          conv => whnf
          conv => whnf
          exact .of rfl
      · conv => whnf
        refine ⟨fun w4 => ?_, fun w4 => ?_⟩
        · cases w4
        · replace w4 := nlti w4
          conv => whnf
          exact absurd rfl (ne93 w3)
    · cases w2
end Go.Ab
namespace Go.Ab
open Go.Proofs Sn
set_option maxRecDepth 100000
set_option maxHeartbeats 4000000
def z2 : List AV := [.nils, .nils]
theorem c180_0 : ACall cx.P 180 [.own 2 32 0 0 .opn, .fn 181 [] []] [(32, .live (.arr 2 []))] (.own 2 32 0 0 .opn) [(32, .live (.arr 2 []))] := acall Tryz.f180 (by kernel_rfl) (by kernel_rfl) rfl <| by
  conv => whnf
  refine ⟨fun w1 => ?_, fun w1 => ?_⟩
  · replace w1 := of_decide_eq_true w1
    conv => whnf
    exact .of rfl
  · cases w1
theorem c180_1 (a : S29) : ACall cx.P 180 [.own 2 32 0 1 .opn, .fn 181 [] []] [(32, .live (.arr 2 [enc29 a]))] (.own 2 32 0 1 .opn) [(32, .live (.arr 2 [enc29 a]))] := acall Tryz.f180 (by kernel_rfl) (by kernel_rfl) rfl <| by
  conv => whnf
  refine ⟨fun w1 => ?_, fun w1 => ?_⟩
  · replace w1 := of_decide_eq_true w1
    conv => whnf
    exact .of rfl
  · cases w1
theorem c180_2n (a b : S29) (k0 : PCall cx.P 181 [.agg (enc29 b), .agg (enc29 a)] (.lit false)): ACall cx.P 180 [.own 2 32 0 2 .opn, .fn 181 [] []] [(32, .live (.arr 2 [enc29 a, enc29 b]))] (.own 2 32 0 2 .opn) [(32, .live (.arr 2 [enc29 a, enc29 b]))] := acall Tryz.f180 (by kernel_rfl) (by kernel_rfl) rfl <| by
  conv => whnf
  refine ⟨fun w1 => ?_, fun w1 => ?_⟩
  · cases w1
  · replace w1 := of_decide_eq_false w1
    conv => whnf
    refine .inl ⟨[0, 1, 5], 2, ?_⟩
    conv => whnf
    refine ⟨fun w2 => ?_, fun w2 => ?_⟩
    · replace w2 := of_decide_eq_true w2
      conv => whnf
      refine ⟨⟨Int.natCast_nonneg _, by omega⟩, ?_⟩
      conv => whnf
      conv => whnf
      refine ⟨_, rfl, ?_⟩
      conv => whnf
      conv => whnf
      refine ⟨by decide, ?_⟩
      conv => whnf
      conv => whnf
      refine ⟨_, rfl, ?_⟩
      conv => whnf
      conv => whnf
      refine ⟨_, k0, ?_⟩
      conv => whnf
      conv => whnf
      refine ⟨by kernel_rfl, ?_⟩
      conv => whnf
      conv => whnf
      refine ⟨fun w3 => ?_, fun w3 => ?_⟩
      · cases w3
      · replace w3 := nlti w3
        conv => whnf
        exact .of rfl
    · cases w2
theorem c180_2y (a b : S29) (k0 : PCall cx.P 181 [.agg (enc29 b), .agg (enc29 a)] (.lit true)): ACall cx.P 180 [.own 2 32 0 2 .opn, .fn 181 [] []] [(32, .live (.arr 2 [enc29 a, enc29 b]))] (.own 2 32 0 1 (.room 1)) [(32, .live (.arr 2 [enc29 a, z2]))] := acall Tryz.f180 (by kernel_rfl) (by kernel_rfl) rfl <| by
  conv => whnf
  refine ⟨fun w1 => ?_, fun w1 => ?_⟩
  · cases w1
  · replace w1 := of_decide_eq_false w1
    conv => whnf
    refine .inl ⟨[0, 1, 5], 2, ?_⟩
    conv => whnf
    refine ⟨fun w2 => ?_, fun w2 => ?_⟩
    · replace w2 := of_decide_eq_true w2
      conv => whnf
      refine ⟨⟨Int.natCast_nonneg _, by omega⟩, ?_⟩
      conv => whnf
      conv => whnf
      refine ⟨_, rfl, ?_⟩
      conv => whnf
      conv => whnf
      refine ⟨by decide, ?_⟩
      conv => whnf
      conv => whnf
      refine ⟨_, rfl, ?_⟩
      conv => whnf
      conv => whnf
      refine ⟨_, k0, ?_⟩
      conv => whnf
      conv => whnf
      refine ⟨by kernel_rfl, ?_⟩
      conv => whnf
      conv => whnf
      refine ⟨⟨Int.natCast_nonneg _, by omega⟩, ?_⟩
      conv => whnf
      conv => whnf
      refine .inl ⟨[0, 1, 5, 6, 7], 2, ?_⟩
      conv => whnf
      refine ⟨fun w3 => ?_, fun w3 => ?_⟩
      · cases w3
      · replace w3 := of_decide_eq_false w3
        conv => whnf
        refine ⟨⟨Int.natCast_nonneg _, by omega⟩, ?_⟩
        conv => whnf
        conv => whnf
        refine ⟨by simpa using by omega, ?_⟩
        conv => whnf
        conv => whnf
        refine ⟨⟨Int.natCast_nonneg _, by omega⟩, ?_⟩
        conv => whnf
        conv => whnf
        exact .of rfl
    · cases w2
theorem c180_3nn (a b c : S29) (k0 : PCall cx.P 181 [.agg (enc29 b), .agg (enc29 a)] (.lit false)) (k1 : PCall cx.P 181 [.agg (enc29 c), .agg (enc29 b)] (.lit false)): ACall cx.P 180 [.own 2 32 0 3 .opn, .fn 181 [] []] [(32, .live (.arr 2 [enc29 a, enc29 b, enc29 c]))] (.own 2 32 0 3 .opn) [(32, .live (.arr 2 [enc29 a, enc29 b, enc29 c]))] := acall Tryz.f180 (by kernel_rfl) (by kernel_rfl) rfl <| by
  conv => whnf
  refine ⟨fun w1 => ?_, fun w1 => ?_⟩
  · cases w1
  · replace w1 := of_decide_eq_false w1
    conv => whnf
    refine .inl ⟨[0, 1, 5], 3, ?_⟩
    conv => whnf
    refine ⟨fun w2 => ?_, fun w2 => ?_⟩
    · replace w2 := of_decide_eq_true w2
      conv => whnf
      refine ⟨⟨Int.natCast_nonneg _, by omega⟩, ?_⟩
      conv => whnf
      conv => whnf
      refine ⟨_, rfl, ?_⟩
      conv => whnf
      conv => whnf
      refine ⟨by decide, ?_⟩
      conv => whnf
      conv => whnf
      refine ⟨_, rfl, ?_⟩
      conv => whnf
      conv => whnf
      refine ⟨_, k0, ?_⟩
      conv => whnf
      conv => whnf
      refine ⟨by kernel_rfl, ?_⟩
      conv => whnf
      conv => whnf
      refine ⟨fun w3 => ?_, fun w3 => ?_⟩
      · replace w3 := lti w3
        conv => whnf
        refine ⟨by decide, ?_⟩
        conv => whnf
        conv => whnf
        refine ⟨_, rfl, ?_⟩
        conv => whnf
        conv => whnf
        refine ⟨by decide, ?_⟩
        conv => whnf
        conv => whnf
        refine ⟨_, rfl, ?_⟩
        conv => whnf
        conv => whnf
        refine ⟨_, k1, ?_⟩
        conv => whnf
        conv => whnf
        refine ⟨by kernel_rfl, ?_⟩
        conv => whnf
        conv => whnf
        refine ⟨fun w4 => ?_, fun w4 => ?_⟩
        · cases w4
        · replace w4 := nlti w4
          conv => whnf
          exact .of rfl
      · cases w3
    · cases w2
theorem c180_3yy (a b c : S29) (k0 : PCall cx.P 181 [.agg (enc29 b), .agg (enc29 a)] (.lit true)) (k1 : PCall cx.P 181 [.agg (enc29 c), .agg (enc29 b)] (.lit true)): ACall cx.P 180 [.own 2 32 0 3 .opn, .fn 181 [] []] [(32, .live (.arr 2 [enc29 a, enc29 b, enc29 c]))] (.own 2 32 0 1 (.room 2)) [(32, .live (.arr 2 [enc29 a, z2, z2]))] := acall Tryz.f180 (by kernel_rfl) (by kernel_rfl) rfl <| by
  conv => whnf
  refine ⟨fun w1 => ?_, fun w1 => ?_⟩
  · cases w1
  · replace w1 := of_decide_eq_false w1
    conv => whnf
    refine .inl ⟨[0, 1, 5], 3, ?_⟩
    conv => whnf
    refine ⟨fun w2 => ?_, fun w2 => ?_⟩
    · replace w2 := of_decide_eq_true w2
      conv => whnf
      refine ⟨⟨Int.natCast_nonneg _, by omega⟩, ?_⟩
      conv => whnf
      conv => whnf
      refine ⟨_, rfl, ?_⟩
      conv => whnf
      conv => whnf
      refine ⟨by decide, ?_⟩
      conv => whnf
      conv => whnf
      refine ⟨_, rfl, ?_⟩
      conv => whnf
      conv => whnf
      refine ⟨_, k0, ?_⟩
      conv => whnf
      conv => whnf
      refine ⟨by kernel_rfl, ?_⟩
      conv => whnf
      conv => whnf
      refine ⟨⟨Int.natCast_nonneg _, by omega⟩, ?_⟩
      conv => whnf
      conv => whnf
      refine .inl ⟨[0, 1, 5, 6, 7], 3, ?_⟩
      conv => whnf
      refine ⟨fun w3 => ?_, fun w3 => ?_⟩
      · replace w3 := of_decide_eq_true w3
        conv => whnf
        refine ⟨⟨Int.natCast_nonneg _, by omega⟩, ?_⟩
        conv => whnf
        conv => whnf
        refine ⟨_, rfl, ?_⟩
        conv => whnf
        conv => whnf
        refine ⟨by decide, ?_⟩
        conv => whnf
        conv => whnf
        refine ⟨_, rfl, ?_⟩
        conv => whnf
        conv => whnf
        refine ⟨_, k1, ?_⟩
        conv => whnf
        conv => whnf
        refine ⟨by kernel_rfl, ?_⟩
        conv => whnf
        conv => whnf
        refine ⟨fun w4 => ?_, fun w4 => ?_⟩
        · cases w4
        · replace w4 := nlti w4
          conv => whnf
          refine ⟨⟨Int.natCast_nonneg _, by omega⟩, ?_⟩
          conv => whnf
          conv => whnf
          refine ⟨by simpa using by omega, ?_⟩
          conv => whnf
          conv => whnf
          refine ⟨⟨Int.natCast_nonneg _, by omega⟩, ?_⟩
          conv => whnf
          conv => whnf
          exact .of rfl
      · cases w3
    · cases w2
theorem c180_3yn (a b c : S29) (k0 : PCall cx.P 181 [.agg (enc29 b), .agg (enc29 a)] (.lit true)) (k1 : PCall cx.P 181 [.agg (enc29 c), .agg (enc29 b)] (.lit false)): ACall cx.P 180 [.own 2 32 0 3 .opn, .fn 181 [] []] [(32, .live (.arr 2 [enc29 a, enc29 b, enc29 c]))] (.own 2 32 0 2 (.room 1)) [(32, .live (.arr 2 [enc29 a, enc29 c, z2]))] := acall Tryz.f180 (by kernel_rfl) (by kernel_rfl) rfl <| by
  conv => whnf
  refine ⟨fun w1 => ?_, fun w1 => ?_⟩
  · cases w1
  · replace w1 := of_decide_eq_false w1
    conv => whnf
    refine .inl ⟨[0, 1, 5], 3, ?_⟩
    conv => whnf
    refine ⟨fun w2 => ?_, fun w2 => ?_⟩
    · replace w2 := of_decide_eq_true w2
      conv => whnf
      refine ⟨⟨Int.natCast_nonneg _, by omega⟩, ?_⟩
      conv => whnf
      conv => whnf
      refine ⟨_, rfl, ?_⟩
      conv => whnf
      conv => whnf
      refine ⟨by decide, ?_⟩
      conv => whnf
      conv => whnf
      refine ⟨_, rfl, ?_⟩
      conv => whnf
      conv => whnf
      refine ⟨_, k0, ?_⟩
      conv => whnf
      conv => whnf
      refine ⟨by kernel_rfl, ?_⟩
      conv => whnf
      conv => whnf
      refine ⟨⟨Int.natCast_nonneg _, by omega⟩, ?_⟩
      conv => whnf
      conv => whnf
      refine .inl ⟨[0, 1, 5, 6, 7], 3, ?_⟩
      conv => whnf
      refine ⟨fun w3 => ?_, fun w3 => ?_⟩
      · replace w3 := of_decide_eq_true w3
        conv => whnf
        refine ⟨⟨Int.natCast_nonneg _, by omega⟩, ?_⟩
        conv => whnf
        conv => whnf
        refine ⟨_, rfl, ?_⟩
        conv => whnf
        conv => whnf
        refine ⟨by decide, ?_⟩
        conv => whnf
        conv => whnf
        refine ⟨_, rfl, ?_⟩
        conv => whnf
        conv => whnf
        refine ⟨_, k1, ?_⟩
        conv => whnf
        conv => whnf
        refine ⟨by kernel_rfl, ?_⟩
        conv => whnf
        conv => whnf
        refine ⟨⟨Int.natCast_nonneg _, by omega⟩, ?_⟩
        conv => whnf
        conv => whnf
        refine ⟨_, rfl, ?_⟩
        conv => whnf
        conv => whnf
        refine ⟨⟨Int.natCast_nonneg _, by omega⟩, ?_⟩
        conv => whnf
        conv => whnf
        refine ⟨_, rfl, ?_⟩
        conv => whnf
        conv => whnf
        refine ⟨fun w4 => ?_, fun w4 => ?_⟩
        · cases w4
        · replace w4 := nlti w4
          conv => whnf
          refine ⟨by decide, ?_⟩
          conv => whnf
          conv => whnf
          refine ⟨by simp [IntWalk.i64_in], ?_⟩
          conv => whnf
          conv => whnf
          refine ⟨by decide, ?_⟩
          conv => whnf
          conv => whnf
          exact .of rfl
      · cases w3
    · cases w2
theorem c180_3ny (a b c : S29) (k0 : PCall cx.P 181 [.agg (enc29 b), .agg (enc29 a)] (.lit false)) (k1 : PCall cx.P 181 [.agg (enc29 c), .agg (enc29 b)] (.lit true)): ACall cx.P 180 [.own 2 32 0 3 .opn, .fn 181 [] []] [(32, .live (.arr 2 [enc29 a, enc29 b, enc29 c]))] (.own 2 32 0 2 (.room 1)) [(32, .live (.arr 2 [enc29 a, enc29 b, z2]))] := acall Tryz.f180 (by kernel_rfl) (by kernel_rfl) rfl <| by
  conv => whnf
  refine ⟨fun w1 => ?_, fun w1 => ?_⟩
  · cases w1
  · replace w1 := of_decide_eq_false w1
    conv => whnf
    refine .inl ⟨[0, 1, 5], 3, ?_⟩
    conv => whnf
    refine ⟨fun w2 => ?_, fun w2 => ?_⟩
    · replace w2 := of_decide_eq_true w2
      conv => whnf
      refine ⟨⟨Int.natCast_nonneg _, by omega⟩, ?_⟩
      conv => whnf
      conv => whnf
      refine ⟨_, rfl, ?_⟩
      conv => whnf
      conv => whnf
      refine ⟨by decide, ?_⟩
      conv => whnf
      conv => whnf
      refine ⟨_, rfl, ?_⟩
      conv => whnf
      conv => whnf
      refine ⟨_, k0, ?_⟩
      conv => whnf
      conv => whnf
      refine ⟨by kernel_rfl, ?_⟩
      conv => whnf
      conv => whnf
      refine ⟨fun w3 => ?_, fun w3 => ?_⟩
      · replace w3 := lti w3
        conv => whnf
        refine ⟨by decide, ?_⟩
        conv => whnf
        conv => whnf
        refine ⟨_, rfl, ?_⟩
        conv => whnf
        conv => whnf
        refine ⟨by decide, ?_⟩
        conv => whnf
        conv => whnf
        refine ⟨_, rfl, ?_⟩
        conv => whnf
        conv => whnf
        refine ⟨_, k1, ?_⟩
        conv => whnf
        conv => whnf
        refine ⟨by kernel_rfl, ?_⟩
        conv => whnf
        conv => whnf
        refine ⟨by decide, ?_⟩
        conv => whnf
        conv => whnf
        refine .inl ⟨[0, 1, 5, 6, 7], 3, ?_⟩
        conv => whnf
        refine ⟨fun w4 => ?_, fun w4 => ?_⟩
        · cases w4
        · replace w4 := of_decide_eq_false w4
          conv => whnf
          refine ⟨by decide, ?_⟩
          conv => whnf
          conv => whnf
          refine ⟨by assumption, ?_⟩
          conv => whnf
          conv => whnf
          refine ⟨by decide, ?_⟩
          conv => whnf
          conv => whnf
          exact .of rfl
      · cases w3
    · cases w2
end Go.Ab
namespace Go.Ab
open Go.Proofs Sn
set_option maxRecDepth 100000
set_option maxHeartbeats 4000000
theorem Le.room {s k i n : Nat} {q : Q} : Le (.own s k i n q) (.own s k i n (.room 0)) := ⟨fun w X ι v hv => by
  have up : ∀ n c, q.fits n c → (Q.room 0).fits n c := fun n c h => by
    cases q with
    | full => exact Nat.le_of_eq (by rw [Nat.add_zero]; exact h.symm)
    | opn => exact h
    | room r => exact Nat.le_trans (Nat.add_le_add_left (Nat.zero_le r) n) h
  cases hv with
  | pure _ _ h => cases h
  | own _ _ _ _ c b o _ us ty h hq hb hc => exact .own s k i n c b o _ us ty h (up _ _ hq) hb hc
  | own0 _ _ _ a _ h hq => exact .own0 s k i a _ h (up _ _ hq)⟩
theorem ACall.to {P : Program} {f : Nat} {args : List AV} {σ σ' : Sto} {r r' : AV} (h : ACall P f args σ r σ') (hr : Le r r') : ACall P f args σ r' σ' :=
  ⟨h.1, fun w X ι vs hs hv => Calls.mono (h.2 w X ι vs hs hv) fun e w' ⟨v, ι', e1, e2, e3, e4, e5⟩ => ⟨v, ι', e1, e2, e3, hr.to _ _ _ _ e4, e5⟩⟩
theorem c178g (l : List S93) (h : l.length ≤ 2) : ∃ r arr, ACall cx.P 178 [.own 3 32 0 (l.map enc93).length .opn] [(32, .live (.arr 3 (l.map enc93)))] (.own 3 32 0 ((compactL eqIf l).map enc93).length (.room r)) [(32, .live (.arr 3 arr))] ∧ ((compactL eqIf l).map enc93).length ≤ arr.length ∧ arr.take ((compactL eqIf l).map enc93).length = (compactL eqIf l).map enc93 := by
  match l, h with
  | [], _ => exact ⟨0, [], c178_0.to .room, Nat.le_refl _, rfl⟩
  | [a], _ => exact ⟨0, [enc93 a], (c178_1 a).to .room, Nat.le_refl _, rfl⟩
  | [a, b], _ =>
    by_cases e : a = b
    · subst e
      have : compactL eqIf [a, a] = [a] := by simp [compactL, compactFrom, eqIf_iff.2 (rfl : a = a)]
      rw [this]
      exact ⟨1, _, c178_3 a, by simp, rfl⟩
    · have : compactL eqIf [a, b] = [a, b] := by
        simp [compactL, compactFrom, show ¬ eqIf b a = true from fun h => e (eqIf_iff.1 h).symm]
      rw [this]
      exact ⟨0, _, (c178_2 a b e).to .room, Nat.le_refl _, rfl⟩
def eqSe (y x : S29) : Bool := cmpSe y x == 0
theorem eqSe_iff {y x : S29} : eqSe y x = true ↔ y = x := by unfold eqSe; rw [beq_iff_eq]; exact isCmp_se.eq0 y x
theorem c180g (l : List S29) (h : l.length ≤ 3) (hz : ∀ x ∈ l, Sz29 x) : ∃ r arr, ACall cx.P 180 [.own 2 32 0 (l.map enc29).length .opn, .fn 181 [] []] [(32, .live (.arr 2 (l.map enc29)))] (.own 2 32 0 ((compactL eqSe l).map enc29).length (.room r)) [(32, .live (.arr 2 arr))] ∧ ((compactL eqSe l).map enc29).length ≤ arr.length ∧ arr.take ((compactL eqSe l).map enc29).length = (compactL eqSe l).map enc29 := by
  have k : ∀ x y, x ∈ l → y ∈ l → ∀ b, eqSe x y = b → PCall cx.P 181 [.agg (enc29 x), .agg (enc29 y)] (.lit b) := fun x y hx hy b e => (c181 x y (hz x hx) (hz y hy)).to (.blit e)
  match l, h with
  | [], _ => exact ⟨0, [], c180_0.to .room, Nat.le_refl _, rfl⟩
  | [a], _ => exact ⟨0, [enc29 a], (c180_1 a).to .room, Nat.le_refl _, rfl⟩
  | [a, b], _ =>
    have k1 := k b a (by simp) (by simp)
    cases e : eqSe b a with
    | true =>
      have := eqSe_iff.1 e
      subst this
      have : compactL eqSe [b, b] = [b] := by simp [compactL, compactFrom, e]
      rw [this]
      exact ⟨1, _, c180_2y b b (k1 _ e), by simp, rfl⟩
    | false =>
      have : compactL eqSe [a, b] = [a, b] := by simp [compactL, compactFrom, e]
      rw [this]
      exact ⟨0, _, (c180_2n a b (k1 _ e)).to .room, Nat.le_refl _, rfl⟩
  | [a, b, c], _ =>
    have k1 := k b a (by simp) (by simp)
    have k2 := k c b (by simp) (by simp)
    cases e : eqSe b a with
    | true =>
      have := eqSe_iff.1 e
      subst this
      cases e2 : eqSe c b with
      | true =>
        have := eqSe_iff.1 e2
        subst this
        have : compactL eqSe [c, c, c] = [c] := by simp [compactL, compactFrom, e]
        rw [this]
        exact ⟨2, _, c180_3yy c c c (k1 _ e) (k2 _ e2), by simp, rfl⟩
      | false =>
        have : compactL eqSe [b, b, c] = [b, c] := by simp [compactL, compactFrom, e, e2]
        rw [this]
        exact ⟨1, _, c180_3yn b b c (k1 _ e) (k2 _ e2), by simp, rfl⟩
    | false =>
      cases e2 : eqSe c b with
      | true =>
        have := eqSe_iff.1 e2
        subst this
        have : compactL eqSe [a, c, c] = [a, c] := by simp [compactL, compactFrom, e, e2]
        rw [this]
        exact ⟨1, _, c180_3ny a c c (k1 _ e) (k2 _ e2), by simp, rfl⟩
      | false =>
        have : compactL eqSe [a, b, c] = [a, b, c] := by simp [compactL, compactFrom, e, e2]
        rw [this]
        exact ⟨0, _, (c180_3nn a b c (k1 _ e) (k2 _ e2)).to .room, Nat.le_refl _, rfl⟩
end Go.Ab
namespace Go.Ab
open Go.Proofs Sn
theorem Ent.p {f : Nat} (fn : Func) (hf : cx.P.funcs[f]? = some fn) (hok : okFn fn = true) : Ent cx.P f := (Ent.ok hf hok).1
theorem nocap : ∀ w X ι (blk o : Nat) (σ : Nat → SV) (s κ : Nat), SR w X ι σ → ι κ = .at blk o s → ∀ cb : List Value, VRs w (XL X σ ι) ι cb [] → VRs w (fun b => X b ∨ b = blk) ι0 cb [] := fun _ _ _ _ _ _ _ _ _ _ cb h => ⟨h.1, fun j v x h1 h2 => by simp at h2⟩
theorem upd1 (κ : Nat) (a b : SV) : sget [(κ, b)] = updF (sget [(κ, a)]) [(κ, b)] := by
  funext k
  simp only [updF]
  by_cases h : k = κ
  · subst h; simp [sget]
  · have : Nat.beq κ k = false := by rw [Bool.eq_false_iff]; intro e; exact h (Nat.eq_of_beq_eq_true e).symm
    simp [sget, h, this]
theorem c176 (l : List S78) (hl : l.length ≤ 1048576) : ACall cx.P 176 [.own 2 32 0 (l.map enc78).length .opn, .fn 66 [] []] [(32, .live (.arr 2 (l.map enc78)))] (.tup []) [(32, .live (.arr 2 ((sortL cmpOn l).map enc78)))] :=
  sortK (P := Tryz.prog) Tryz.sortOn Tryz.isAgg78 Tryz.sizeOf78 isCmp_on (Ent.p Tryz.f176 (by kernel_rfl) (by kernel_rfl)) (Ent.p Tryz.f66 (by kernel_rfl) (by kernel_rfl)) (caps := []) (caps' := []) (by omega) (fun x _ y _ => c66 x y) rfl (upd1 _ _ _) (fun w X ι blk o h1 h2 => nocap w X ι blk o _ _ _ h1 h2)
theorem c177 (l : List S93) (hl : l.length ≤ 1048576) : ACall cx.P 177 [.own 3 32 0 (l.map enc93).length .opn, .fn 68 [] []] [(32, .live (.arr 3 (l.map enc93)))] (.tup []) [(32, .live (.arr 3 ((sortL cmpIf l).map enc93)))] :=
  sortK (P := Tryz.prog) Tryz.sortIf Tryz.isAgg93 Tryz.sizeOf93 isCmp_if (Ent.p Tryz.f177 (by kernel_rfl) (by kernel_rfl)) (Ent.p Tryz.f68 (by kernel_rfl) (by kernel_rfl)) (caps := []) (caps' := []) (by omega) (fun x _ y _ => c68 x y) rfl (upd1 _ _ _) (fun w X ι blk o h1 h2 => nocap w X ι blk o _ _ _ h1 h2)
theorem c179 (l : List S29) (hl : l.length ≤ 1048576) (hz : ∀ x ∈ l, Sz29 x) : ACall cx.P 179 [.own 2 32 0 (l.map enc29).length .opn, .fn 32 [] []] [(32, .live (.arr 2 (l.map enc29)))] (.tup []) [(32, .live (.arr 2 ((sortL cmpSe l).map enc29)))] :=
  sortK (P := Tryz.prog) Tryz.sortSe Tryz.isAgg29 Tryz.sizeOf29 isCmp_se (Ent.p Tryz.f179 (by kernel_rfl) (by kernel_rfl)) (Ent.p Tryz.f32 (by kernel_rfl) (by kernel_rfl)) (caps := []) (caps' := []) (by omega) (fun x hx y hy => c32 x y (hz x hx) (hz y hy)) rfl (upd1 _ _ _) (fun w X ι blk o h1 h2 => nocap w X ι blk o _ _ _ h1 h2)
theorem c79 (l : List ByteArray) (hl : l.length ≤ 1048576) : ACall cx.P 79 [.own 1 32 0 (l.map encT).length .opn] [(32, .live (.arr 1 (l.map encT)))] (.tup []) [(32, .live (.arr 1 ((sortL cmpS l).map encT)))] :=
  sortStr (P := Tryz.prog) Tryz.sortStr (Ent.p Tryz.f79 (by kernel_rfl) (by kernel_rfl)) (by omega) rfl (upd1 _ _ _)
end Go.Ab
namespace Go.Ab
open Go.Proofs Sn
set_option maxRecDepth 100000
set_option maxHeartbeats 4000000
theorem c126 (l : List S29) (hl : Small l) : PCall cx.P 126 [.row 2 (l.map enc29)] (.row 2 ((nSes l).map enc29)) := pcall Tryz.f126 (by kernel_rfl) (by kernel_rfl) <| by
  obtain ⟨hl3, hls⟩ := hl
  have hL : (l.map enc29).length = l.length := List.length_map _
  conv => whnf
  refine .inr (.inl ⟨[3, 7, 8, 9], Nat, fun j => ([(3, .own 2 208 0 (((l.take j).map nSe).map enc29).length .opn), (7, .row 2 (l.map enc29)), (8, .int .i64 l.length), (9, .int .i64 j)], [(208, .live (.arr 2 (((l.take j).map nSe).map enc29)))]), fun j => j ≤ l.length, fun j => l.length - j, ?_, fun j hj => ?_⟩)
  · conv => whnf
    refine ⟨0, ?_, Nat.zero_le _⟩
    rw [← hL]
    exact .nil rfl rfl (.chg <| .same <| .same <| .same .nil) .here
  · have hj : j ≤ l.length := hj
    have hT : (((l.take j).map nSe).map enc29).length = j := by rw [List.length_map, List.length_map, List.length_take]; omega
    conv => whnf
    refine ⟨fun w1 => ?_, fun w1 => ?_⟩
    · replace w1 := lti w1
      obtain ⟨s, hs⟩ := at_ex w1
      obtain ⟨hs0, hs1⟩ := hls s (List.mem_of_getElem? hs)
      conv => whnf
      refine ⟨⟨Int.natCast_nonneg _, by omega⟩, ?_⟩
      conv => whnf
      conv => whnf
      refine ⟨_, map_at hs, ?_⟩
      conv => whnf
      obtain ⟨r8, a8, h178, hr8, ha8⟩ := c178g (sortL cmpIf s.f1) (by rw [sortL_length]; exact hs1)
      rw [compactL_sortD (c := cmpIf) (eq := eqIf) (fun _ _ => eqIf_iff) isCmp_if] at h178 hr8 ha8
      rw [show ((sortL cmpIf s.f1).map enc93).length = (s.f1.map enc93).length by rw [List.length_map, List.length_map, sortL_length]] at h178
      conv => whnf
      refine ⟨_, _, c174 _ (by omega), ?_⟩
      conv => whnf
      conv => whnf
      refine ⟨_, _, c175 _ (by omega), ?_⟩
      conv => whnf
      conv => whnf
      refine ⟨by kernel_rfl, ?_⟩
      conv => whnf
      conv => whnf
      refine ⟨_, _, c176 _ (by omega), ?_⟩
      conv => whnf
      conv => whnf
      refine ⟨_, _, c177 _ (by omega), ?_⟩
      conv => whnf
      conv => whnf
      refine ⟨_, _, h178, ?_⟩
      conv => whnf
      conv => whnf
      refine ⟨by rw [Nat.zero_add, List.length_map, List.length_map, sortL_length], ?_⟩
      conv => whnf
      conv => whnf
      refine ⟨by omega, ?_⟩
      conv => whnf
      conv => whnf
      refine ⟨by simpa using by omega, ?_⟩
      conv => whnf
      conv => whnf
      refine ⟨by simpa using by omega, ?_⟩
      conv => whnf
      conv => whnf
      refine ⟨j + 1, ?_, w1, by show l.length - (j + 1) < l.length - j; omega⟩
      dsimp only
      rw [snoc_take hs, up1 w1 (by omega)]
      simp only [List.map_append, List.length_append, List.map_cons, List.map_nil]
      rw [List.drop_zero (l := a8), ha8]
      exact .of rfl
    · replace w1 := nlti w1
      have hT2 : l.take j = l := List.take_of_length_le (by omega)
      have hz : ∀ x ∈ l.map nSe, Sz29 x := fun x hx => by
        obtain ⟨y, hy, rfl⟩ := List.mem_map.1 hx
        exact Sz29.nSe ⟨Nat.le_trans (hls y hy).1 (by decide), Nat.le_trans (hls y hy).2 (by decide)⟩
      have h179 := c179 (l.map nSe) (by rw [List.length_map]; omega) hz
      obtain ⟨r8, a8, h180, hr8, ha8⟩ := c180g (sortL cmpSe (l.map nSe)) (by rw [sortL_length, List.length_map]; exact hl3) (fun x hx => hz x ((sortL_perm _).mem_iff.1 hx))
      rw [compactL_sortD (c := cmpSe) (eq := eqSe) (fun _ _ => eqSe_iff) isCmp_se] at h180 hr8 ha8
      rw [show ((sortL cmpSe (l.map nSe)).map enc29).length = ((l.map nSe).map enc29).length by rw [List.length_map, List.length_map, sortL_length]] at h180
      dsimp only
      rw [hT2]
      conv => whnf
      refine ⟨_, _, h179, ?_⟩
      conv => whnf
      conv => whnf
      refine ⟨_, _, h180, ?_⟩
      conv => whnf
      conv => whnf
      refine ⟨by omega, ?_⟩
      conv => whnf
      conv => whnf
      exact .of (by rw [List.drop_zero, ha8]; rfl)
end Go.Ab
namespace Go.Ab
open Go.Proofs Sn
set_option maxRecDepth 100000
set_option maxHeartbeats 4000000
theorem c127 (f : List ByteArray) (m : List S47) (id : ByteArray) (hm : m.length ≤ 1048576) : ACall cx.P 127 [encM f m, .str id] [] (.own 1 160 0 ((kidsI m id).map enc0).length .opn) [(160, .live (.arr 1 ((kidsI m id).map enc0)))] := acall Tryz.f127 (by kernel_rfl) (by kernel_rfl) rfl <| by
  have hE : (m.map enc47).length = m.length := List.length_map _
  unfold encM
  conv => whnf
  refine .inr (.inl ⟨[5, 1, 9, 10, 11], Nat, fun j => ([(5, .own 1 336 0 ((kids0 m id j).map enc0).length .opn), (1, .str id), (9, .row 7 (m.map enc47)), (10, .int .i64 m.length), (11, .int .i64 j)], [(336, .live (.arr 1 ((kids0 m id j).map enc0)))]), fun j => j ≤ m.length, fun j => m.length - j, ?_, fun j hj => ?_⟩)
  · conv => whnf
    refine ⟨0, ?_, Nat.zero_le _⟩
    rw [← hE]
    exact .nil rfl rfl (.chg <| .same <| .same <| .same <| .same .nil) .here
  · have hl := kids0_len m id j
    have hlE : ((kids0 m id j).map enc0).length = (kids0 m id j).length := List.length_map _
    have hj : j ≤ m.length := hj
    conv => whnf
    refine ⟨fun w1 => ?_, fun w1 => ?_⟩
    · replace w1 := lti w1
      conv => whnf
      refine ⟨⟨Int.natCast_nonneg _, by omega⟩, ?_⟩
      conv => whnf
      conv => whnf
      obtain ⟨v2, hv2⟩ := at_ex w1
      refine ⟨_, map_at hv2, ?_⟩
      conv => whnf
      conv => whnf
      refine ⟨fun w3 => ?_, fun w3 => ?_⟩
      · replace w3 := seT w3
        conv => whnf
        refine ⟨by simpa using by omega, ?_⟩
        conv => whnf
        conv => whnf
        refine ⟨by simpa using by omega, ?_⟩
        conv => whnf
        conv => whnf
        refine ⟨j + 1, ?_, w1, by show m.length - (j + 1) < m.length - j; omega⟩
        dsimp only
        rw [kids0_y hv2 ((sEq_iff _ _).2 w3), up1 w1 (by omega), List.map_append, List.length_append]
        exact .of rfl
      · conv => whnf
        refine ⟨j + 1, ?_, w1, by show m.length - (j + 1) < m.length - j; omega⟩
        dsimp only
        rw [kids0_n hv2 w3, up1 w1 (by omega)]
        exact .of rfl
    · replace w1 := nlti w1
      conv => whnf
      rw [show kidsI m id = kids0 m id j by rw [show j = m.length by omega]; rfl]
      exact .of rfl
theorem c129 (f : List ByteArray) (m : List S47) (a b : Int) (ha : 0 ≤ a ∧ a < m.length) (hb : 0 ≤ b ∧ b < m.length) : PCall cx.P 129 [.int .i64 a, .int .i64 b, .rptr 2 [[.row 1 (f.map encT), .row 7 (m.map enc47)]] 0 0] (.int .i64 (cmpAt m a b)) := pcall Tryz.f129 (by kernel_rfl) (by kernel_rfl) <| by
  have hE : (m.map enc47).length = m.length := List.length_map _
  obtain ⟨x, hx⟩ := at_ex (show a.toNat < m.length by omega)
  obtain ⟨y, hy⟩ := at_ex (show b.toNat < m.length by omega)
  conv => whnf
  refine ⟨_, rfl, ?_⟩
  conv => whnf
  conv => whnf
  refine ⟨by omega, ?_⟩
  conv => whnf
  conv => whnf
  refine ⟨_, map_at hx, ?_⟩
  conv => whnf
  conv => whnf
  refine ⟨_, rfl, ?_⟩
  conv => whnf
  conv => whnf
  refine ⟨by omega, ?_⟩
  conv => whnf
  conv => whnf
  refine ⟨_, map_at hy, ?_⟩
  conv => whnf
  conv => whnf
  refine ⟨_, c116 _ _, ?_⟩
  conv => whnf
  conv => whnf
  refine ⟨by kernel_rfl, ?_⟩
  conv => whnf
  conv => whnf
  exact .int (by unfold cmpAt rd_T47; rw [getD_at hx, getD_at hy])
end Go.Ab
namespace Go.Ab
open Go.Proofs Sn
theorem box_rptr {w : World} {X : Nat → Prop} {ι : Nat → LS} {σ : Nat → SV} (hs : SR w X ι σ) {κ κ' blk o s : Nat} {cs : List AV} {blk' : Blk} (hκ : σ κ = .live (.box cs)) (hκ' : σ κ' = .live blk') (hne : κ ≠ κ') (hι : ι κ' = .at blk o s) (hr : ∀ x ∈ cs, ∃ n es, x = .row n es)
    {v : Value} (hv : VR w (XL X σ ι) ι v (.bptr κ 0)) : VR w (fun b => X b ∨ b = blk) ι0 v (.rptr cs.length [cs] 0 0) := by
  obtain ⟨b, c, t, hb, e⟩ := hv.bptr_inv
  have hbr := hs.blk κ _ hκ
  rw [hb] at hbr
  obtain ⟨h0, vs, ty, h1, h2, h3⟩ := hbr
  subst h0
  have hX : ∀ b', (X b' ∨ b' = blk) → XL X σ ι b' := fun b' h => h.elim .inl fun e => .inr (by rw [e]; exact ⟨κ', _, o, s, hκ', hι⟩)
  have key := VR.rptr (w := w) (X := fun b => X b ∨ b = blk) (ι := ι0) b 0 cs.length 0 0 [cs] (fun _ j => vs.getD j undef) (fun h => h.elim (fun h => (hs.out b h).2 ⟨κ, _, 0, t, hκ, hb⟩) fun e' => hne (hs.inj κ κ' _ _ b 0 t o s hκ hκ' hb (by rw [hι, e']))) (Array.getElem?_eq_some_iff.1 h1).1
    (fun i e he => by
      match i with
      | 0 => cases he; rfl
      | i + 1 => simp at he)
    (fun i j e x he hx => by
      match i with
      | 0 =>
        cases he
        have hj : j < vs.size := by rw [h2]; exact (List.getElem?_eq_some_iff.1 hx).1
        have hg : vs[j]? = some (vs.getD j undef) := by rw [Array.getD_eq_getD_getElem?]; simp [hj]
        refine ⟨?_, (h3 j _ x hg hx).1⟩
        rw [Nat.zero_mul, Nat.zero_add, Nat.zero_add]
        unfold World.cell?
        rw [h1]
        exact hg
      | i + 1 => simp at he)
    (fun i j e x he hx => by
      match i with
      | 0 =>
        cases he
        have hj : j < vs.size := by rw [h2]; exact (List.getElem?_eq_some_iff.1 hx).1
        have hg : vs[j]? = some (vs.getD j undef) := by rw [Array.getD_eq_getD_getElem?]; simp [hj]
        obtain ⟨n, es, rfl⟩ := hr x (List.mem_of_getElem? hx)
        have hv := (h3 j _ _ hg hx).2
        generalize vs.getD j undef = u at hv ⊢
        cases hv with
        | pure _ _ h => exact h.anti hX
      | i + 1 => simp at he)
  rw [e]
  simpa using key
theorem c128n {fs : List ByteArray} {xs : List S47} (hn : (xs.map S47.f0).Nodup) (hm : xs.length ≤ 1048576) (s : ByteArray) : ACall cx.P 128 [.own 1 32 0 ((kidsI xs s).map enc0).length .opn, .fn 129 [] [.bptr 100 0]] [(100, .live (.box [.row 1 (fs.map encT), .row 7 (xs.map enc47)])), (32, .live (.arr 1 ((kidsI xs s).map enc0)))] (.tup []) [(100, .live (.box [.row 1 (fs.map encT), .row 7 (xs.map enc47)])), (32, .live (.arr 1 ((sortL (cmpAt xs) (kidsI xs s)).map enc0)))] := by
  have hmem : ∀ a : {a : Int // a ∈ kidsI xs s}, 0 ≤ a.1 ∧ a.1 < xs.length := fun a => by
    obtain ⟨q, e, hq, _⟩ := kidsI_mem a.2
    rw [e]; omega
  have hc : IsCmp fun a b : {a : Int // a ∈ kidsI xs s} => cmpAt xs a.1 b.1 := {
    rng := fun a b => isCmp_s.rng _ _
    anti := fun a b => isCmp_s.anti _ _
    tr := fun a b c => isCmp_s.tr _ _ _
    eq0 := fun a b => by
      show cmpS _ _ = 0 ↔ _
      rw [isCmp_s.eq0]
      refine ⟨fun e => ?_, fun e => by rw [e]⟩
      obtain ⟨q, e1, hq, _⟩ := kidsI_mem a.2
      obtain ⟨p, e2, hp, _⟩ := kidsI_mem b.2
      unfold rd_T47 at e
      rw [e1, e2] at e
      have hk := (nodup_key (z := z47)).1 hn
      apply Subtype.ext
      rw [e1, e2]
      rcases Nat.lt_trichotomy q p with h1 | h1 | h1
      · exact absurd e (hk q p h1 hp)
      · rw [h1]
      · exact absurd e.symm (hk p q h1 hq) }
  have e0 : (kidsI xs s).map enc0 = (kidsI xs s).attach.map fun a => enc0 a.1 := by
    conv => lhs; rw [← List.attach_map_subtype_val (kidsI xs s), List.map_map]
    rfl
  have e1 : (sortL (cmpAt xs) (kidsI xs s)).map enc0 = (sortL (fun a b : {a : Int // a ∈ kidsI xs s} => cmpAt xs a.1 b.1) (kidsI xs s).attach).map fun a => enc0 a.1 := by
    have := sortL_map (c := cmpAt xs) (key := Subtype.val) (kidsI xs s).attach
    rw [List.attach_map_subtype_val] at this
    rw [← this, List.map_map]
    rfl
  have hlen := kidsI_len xs s
  rw [e0, e1]
  refine sort1 (P := Tryz.prog) Tryz.sortInt (e1 := fun a : {a : Int // a ∈ kidsI xs s} => AV.int .i64 a.1) (fun _ => rfl) hc (Ent.p Tryz.f128 (by kernel_rfl) (by kernel_rfl)) (Ent.p Tryz.f129 (by kernel_rfl) (by kernel_rfl)) (caps := [.bptr 100 0]) (caps' := [.rptr 2 [[.row 1 (fs.map encT), .row 7 (xs.map enc47)]] 0 0]) (by rw [List.length_attach]; omega) (fun a _ b _ => c129 fs xs a.1 b.1 (hmem a) (hmem b)) rfl ?_ fun w X ι blk o h1 h2 cb hcb => ?_
  · funext k
    simp only [updF, sget]
    by_cases e : k = 32
    · subst e; rfl
    · have : Nat.beq 32 k = false := by rw [Bool.eq_false_iff]; intro e'; exact e (Nat.eq_of_beq_eq_true e').symm
      simp [e, this]
  · refine ⟨hcb.1, fun j v x hj hx => ?_⟩
    match j with
    | 0 =>
      cases hx
      exact box_rptr h1 (κ := 100) (κ' := 32) rfl rfl (by decide) h2 (fun x hx => by
        rcases List.mem_cons.1 hx with rfl | hx
        · exact ⟨_, _, rfl⟩
        · rw [List.mem_singleton.1 hx]; exact ⟨_, _, rfl⟩) (hcb.2 0 v _ hj rfl)
    | j + 1 => simp at hx
theorem c128 {fs : List ByteArray} {r : S47} {F : List S47} (h : Ok fs r F) (s : ByteArray) : ACall cx.P 128 [.own 1 32 0 ((kidsI (r :: F) s).map enc0).length .opn, .fn 129 [] [.bptr 100 0]] [(100, .live (.box [.row 1 (fs.map encT), .row 7 ((r :: F).map enc47)])), (32, .live (.arr 1 ((kidsI (r :: F) s).map enc0)))] (.tup []) [(100, .live (.box [.row 1 (fs.map encT), .row 7 ((r :: F).map enc47)])), (32, .live (.arr 1 ((sortL (cmpAt (r :: F)) (kidsI (r :: F) s)).map enc0)))] := c128n h.nodup h.sz.hm s
end Go.Ab
namespace Go.Ab
open Go.Proofs Sn
set_option maxRecDepth 100000
set_option maxHeartbeats 4000000
theorem c80 {fs : List ByteArray} {r : S47} {F : List S47} (h : Ok fs r F) : ∀ (k d i : Nat) (x : S47), d + k = 6 → (r :: F)[i]? = some x → Anc S47.f0 S47.f2 (r :: F) r x d → PCall cx.P 80 [encM fs (r :: F), .int .i64 i] (.row 7 ((pre S47.f0 S47.f2 ordID nIt (r :: F) k x).map enc47)) := by
  intro k
  induction k with
  | zero =>
    intro d i x hd hx ha
    have := h.deep (List.mem_of_getElem? hx) ha
    omega
  | succ k ih =>
    intro d i x hd hx ha
    have hm := h.sz.hm
    obtain ⟨m, hmm⟩ : ∃ m, m = r :: F := ⟨_, rfl⟩
    have hE : ((r :: F).map enc47).length = (r :: F).length := List.length_map _
    have hi := (List.getElem?_eq_some_iff.1 hx).1
    have hKm := kidsI_len (r :: F) x.f0
    have hi5 := (h.items x (List.mem_of_getElem? hx)).entry.small
    have hi6 := (h.items x (List.mem_of_getElem? hx)).exit.small
    have hS := sortI_items h x.f0
    obtain ⟨K, hK⟩ : ∃ K, K = sortL (cmpAt (r :: F)) (kidsI (r :: F) x.f0) := ⟨_, rfl⟩
    have hKl : K.length = (kidsI (r :: F) x.f0).length := by rw [hK, sortL_length]
    have h128 := c128 h x.f0
    rw [← hK] at h128 hS
    have hKE : (K.map enc0).length = K.length := List.length_map _
    have hKI : ((kidsI (r :: F) x.f0).map enc0).length = K.length := by rw [List.length_map, hKl]
    have h127 := c127 fs (r :: F) x.f0 hm
    rw [hKI] at h127 h128
    refine pcall Tryz.f80 (by kernel_rfl) (by kernel_rfl) ?_
    unfold encM at h127 ⊢
    conv => whnf
    refine ⟨⟨Int.natCast_nonneg _, by omega⟩, ?_⟩
    conv => whnf
    conv => whnf
    refine ⟨_, map_at hx, ?_⟩
    conv => whnf
    conv => whnf
    refine ⟨_, c126 _ hi5, ?_⟩
    conv => whnf
    conv => whnf
    refine ⟨_, c126 _ hi6, ?_⟩
    conv => whnf
    conv => whnf
    refine ⟨by kernel_rfl, ?_⟩
    conv => whnf
    conv => whnf
    refine ⟨_, _, h127, ?_⟩
    conv => whnf
    conv => whnf
    refine ⟨_, _, h128, ?_⟩
    conv => whnf
    conv => whnf
    have hlen : ∀ t, (nIt x :: ((K.map (rd_T47 (r :: F))).take t).flatMap (pre S47.f0 S47.f2 ordID nIt (r :: F) k)).length ≤ 1048576 := fun t => by
      have h1 := Nat.le_trans (pre_len h isOrd_ID (f := nIt) (fun _ => rfl) (k + 1) (List.mem_of_getElem? hx)) hm
      refine Nat.le_trans ?_ h1
      show _ ≤ (nIt x :: (ordID (kidsOf S47.f2 (r :: F) x.f0)).flatMap (pre S47.f0 S47.f2 ordID nIt (r :: F) k)).length
      rw [← hS, List.length_cons, List.length_cons]
      refine Nat.succ_le_succ ?_
      rw [List.length_flatMap, List.length_flatMap]
      conv => rhs; rw [← List.take_append_drop t (K.map (rd_T47 (r :: F)))]
      rw [List.map_append, List.sum_append]
      exact Nat.le_add_right _ _
    refine .inr (.inl ⟨[2, 6, 32, 33, 34], Nat, fun j => ([(2, .bptr 144 0), (6, .own 7 400 0 ((nIt x :: ((K.map (rd_T47 (r :: F))).take j).flatMap (pre S47.f0 S47.f2 ordID nIt (r :: F) k)).map enc47).length .opn), (32, .own 1 2064 0 K.length .opn), (33, .int .i64 K.length), (34, .int .i64 j)],
      [(2064, .live (.arr 1 (K.map enc0))), (400, .live (.arr 7 ((nIt x :: ((K.map (rd_T47 (r :: F))).take j).flatMap (pre S47.f0 S47.f2 ordID nIt (r :: F) k)).map enc47))), (144, .live (.box [.row 1 (fs.map encT), .row 7 ((r :: F).map enc47)]))]), fun j => j ≤ K.length, fun j => K.length - j, ?_, fun j hj => ?_⟩)
    · conv => whnf
      exact ⟨0, .le (.cons _ _ _ _ _ .refl <| .cons _ _ _ _ _ .opn <| .refl _) (.refl _), Nat.zero_le _⟩
    · have hj : j ≤ K.length := hj
      conv => whnf
      refine ⟨fun w1 => ?_, fun w1 => ?_⟩
      · replace w1 := lti w1
        obtain ⟨a, hKa⟩ := at_ex w1
        have haK : a ∈ kidsI (r :: F) x.f0 := by rw [← (sortL_perm (c := cmpAt (r :: F)) _).mem_iff, ← hK]; exact List.mem_of_getElem? hKa
        obtain ⟨q, rfl, hq, hqp⟩ := kidsI_mem haK
        obtain ⟨y, hy⟩ := at_ex hq
        rw [getD_at hy] at hqp
        have hya : Anc S47.f0 S47.f2 (r :: F) r y (d + 1) := by
          have := Anc.trans (m := 1) ⟨x, List.mem_of_getElem? hx, hqp.symm, rfl⟩ ha
          rwa [Nat.add_comm] at this
        have h80 := ih (d + 1) q y (by omega) hy hya
        unfold encM at h80
        conv => whnf
        refine ⟨⟨Int.natCast_nonneg _, by omega⟩, ?_⟩
        conv => whnf
        conv => whnf
        refine ⟨_, map_at0 hKa, ?_⟩
        conv => whnf
        conv => whnf
        refine ⟨_, h80, ?_⟩
        conv => whnf
        conv => whnf
        have hyd : rd_T47 (r :: F) (q : Int) = y := by unfold rd_T47; rw [Int.toNat_natCast, getD_at hy]
        have hnx : (nIt x :: ((K.map (rd_T47 (r :: F))).take (j + 1)).flatMap (pre S47.f0 S47.f2 ordID nIt (r :: F) k)) = (nIt x :: ((K.map (rd_T47 (r :: F))).take j).flatMap (pre S47.f0 S47.f2 ordID nIt (r :: F) k)) ++ pre S47.f0 S47.f2 ordID nIt (r :: F) k y := by
          rw [snoc_take (show (K.map (rd_T47 (r :: F)))[j]? = some y by rw [List.getElem?_map, hKa]; exact congrArg some hyd), List.flatMap_append, List.cons_append]
          congr 2
          exact List.append_nil _
        have hl1 := hlen (j + 1)
        rw [hnx, List.length_append] at hl1
        refine ⟨⟨Nat.zero_add _, by rw [List.length_map, List.length_map]; show (_ + _) * 104 ≤ 2 ^ 47; omega⟩, ?_⟩
        conv => whnf
        conv => whnf
        refine ⟨j + 1, ?_, w1, by show K.length - (j + 1) < K.length - j; omega⟩
        dsimp only
        rw [hnx, up1 w1 (by omega), List.map_append, List.length_append]
        exact .of rfl
      · replace w1 := nlti w1
        conv => whnf
        refine ⟨by omega, ?_⟩
        conv => whnf
        conv => whnf
        have : (nIt x :: ((K.map (rd_T47 (r :: F))).take j).flatMap (pre S47.f0 S47.f2 ordID nIt (r :: F) k)) = pre S47.f0 S47.f2 ordID nIt (r :: F) (k + 1) x := by
          rw [List.take_of_length_le (by rw [List.length_map]; omega), hS]; rfl
        exact .of (by rw [List.drop_zero, this])
end Go.Ab
namespace Go.Ab
open Go.Proofs Sn
set_option maxRecDepth 100000
set_option maxHeartbeats 4000000
theorem c78 (l : List ByteArray) (hl : l.length ≤ 1048576) : ACall cx.P 78 [.row 1 (l.map encT)] [] (.own 1 96 0 (l.map encT).length .opn) [(96, .live (.arr 1 (l.map encT)))] := acall Tryz.f78 (by kernel_rfl) (by kernel_rfl) rfl <| by
  conv => whnf
  refine ⟨fun w1 => ?_, fun w1 => ?_⟩
  · conv => whnf
    rw [w1]
    exact .nil rfl rfl (.chg .nil) .here
  · conv => whnf
    refine ⟨by simpa using by omega, ?_⟩
    conv => whnf
    conv => whnf
    exact .of rfl
theorem c36 {fs : List ByteArray} {r : S47} {F : List S47} (h : Ok fs r F) : PCall cx.P 36 [encM fs (r :: F)] (encM (sortL cmpS fs) (r :: turnT ordID nIt r F)) := pcall Tryz.f36 (by kernel_rfl) (by kernel_rfl) <| by
  have h80 := c80 h 6 0 0 r rfl rfl rfl
  rw [← pre_more' isOrd_ID (k := 6) (List.mem_cons_self ..) (fun y n hy ha => by have := h.deep hy ha; omega) 14, show 6 + 14 = 20 from rfl, turn_pre, norm_root h] at h80
  have hf := h.sz.hf
  unfold encM at h80 ⊢
  conv => whnf
  refine ⟨_, _, c78 _ hf, ?_⟩
  conv => whnf
  conv => whnf
  refine ⟨_, _, c79 _ hf, ?_⟩
  conv => whnf
  conv => whnf
  refine ⟨_, h80, ?_⟩
  conv => whnf
  conv => whnf
  refine ⟨by rw [Nat.zero_add, List.length_map, List.length_map, sortL_length], ?_⟩
  conv => whnf
  conv => whnf
  exact .of rfl
end Go.Ab
namespace Go.Ab
open Go.Proofs Sn
set_option maxRecDepth 100000
set_option maxHeartbeats 4000000
theorem nx1 {p : Nat → Prop} {j : Nat} (h : ∀ k, k < j → p k) (hj : p j) : ∀ k, k < j + 1 → p k := fun k hk => (Nat.lt_succ_iff_lt_or_eq.1 hk).elim (h k) fun e => by rw [e]; exact hj
theorem c141 (l : List ByteArray) (s : ByteArray) (hl : l.length ≤ 1048576) : PCall cx.P 141 [.row 1 (l.map encT), .str s] (.int .i64 (idx l s)) := pcall Tryz.f141 (by kernel_rfl) (by kernel_rfl) <| by
  have hE : (l.map encT).length = l.length := List.length_map _
  conv => whnf
  refine .inr (.inl ⟨[0, 1, 7, 8], Nat, fun j => ([(0, .row 1 (l.map encT)), (1, .str s), (7, .int .i64 l.length), (8, .int .i64 j)], []), fun j => j ≤ l.length ∧ ∀ k, k < j → (s.toList == (l.getD k ByteArray.empty).toList) = false, fun j => l.length - j, ?_, fun j hj => ?_⟩)
  · conv => whnf
    exact ⟨0, .of (by rw [← hE]; rfl), Nat.zero_le _, fun k h => absurd h (Nat.not_lt_zero k)⟩
  · obtain ⟨hj1, hj2⟩ := hj
    conv => whnf
    refine ⟨fun w1 => ?_, fun w1 => ?_⟩
    · replace w1 := lti w1
      conv => whnf
      refine ⟨⟨Int.natCast_nonneg _, by omega⟩, ?_⟩
      conv => whnf
      conv => whnf
      obtain ⟨v2, hv2⟩ := at_ex w1
      refine ⟨_, map_at hv2, ?_⟩
      conv => whnf
      conv => whnf
      refine ⟨fun w3 => ?_, fun w3 => ?_⟩
      · replace w3 := seT w3
        conv => whnf
        exact .int (firstAt_hit w1 (by rw [getD_at hv2, w3]; simp) hj2).symm
      · conv => whnf
        exact ⟨j + 1, .of (by rw [up1 w1 (by omega)]), ⟨w1, nx1 hj2 (by rw [getD_at hv2]; exact w3)⟩, by show l.length - (j + 1) < l.length - j; omega⟩
    · replace w1 := nlti w1
      conv => whnf
      exact .int (firstAt_miss fun k hk => hj2 k (by omega)).symm
theorem c154 (s : ByteArray) : PCall cx.P 154 [.str s] (.bool (nameIs s)) := pcall Tryz.f154 (by kernel_rfl) (by kernel_rfl) <| by
  conv => whnf
  refine ⟨fun w1 => ?_, fun w1 => ?_⟩
  · replace w1 := seT w1
    conv => whnf
    exact .lit (by subst w1; rfl)
  · have h0 : 0 < s.size := by
      rcases Nat.eq_zero_or_pos s.size with h | h
      · rw [(sEq_iff _ _).2 (bs_inj ((size0.2 h).trans (size0.2 rfl).symm))] at w1; cases w1
      · exact h
    conv => whnf
    refine ⟨fun w2 => ?_, fun w2 => ?_⟩
    · replace w2 := of_decide_eq_true w2
      conv => whnf
      exact .lit (by unfold nameIs; rw [if_neg (show ¬ s.size = 0 by omega), if_pos (show 12 < s.size by omega)])
    · replace w2 := of_decide_eq_false w2
      conv => whnf
      refine ⟨by omega, ?_⟩
      conv => whnf
      conv => whnf
      refine ⟨_, at_bx h0, ?_⟩
      conv => whnf
      conv => whnf
      refine ⟨_, c208 _, ?_⟩
      conv => whnf
      conv => whnf
      refine ⟨fun w3 => ?_, fun w3 => ?_⟩
      · conv => whnf
        exact .lit (by unfold nameIs; rw [if_neg (show ¬ s.size = 0 by omega), if_neg (show ¬ 12 < s.size by omega), show bt s 0 = _ from bt_of h0, if_neg (by simpa using w3)])
      · conv => whnf
        have hL : isL (bt s 0) = true := by rw [show bt s 0 = _ from bt_of h0]; simpa using w3
        conv => whnf
        have hE : (List.map (fun c : UInt8 => [AV.int IntKind.u8 c.toNat]) s.data.toList).length = s.size := by rw [List.length_map]; exact Array.length_toList
        refine .inr (.inl ⟨[19, 20, 21], Nat, fun j => ([(19, .row 1 (s.data.toList.map fun c : UInt8 => [AV.int .u8 c.toNat])), (20, .int .i64 s.size), (21, .int .i64 j)], []), fun j => j ≤ s.size ∧ ∀ k : Nat, k < j → isM (bt s k) = true, fun j => s.size - j, ?_, fun j hj => ?_⟩)
        · conv => whnf
          exact ⟨0, .of (by rw [← hE]; rfl), Nat.zero_le _, fun k h => absurd h (Nat.not_lt_zero k)⟩
        · obtain ⟨hj1, hj2⟩ := hj
          conv => whnf
          refine ⟨fun w4 => ?_, fun w4 => ?_⟩
          · replace w4 := lti w4
            have hc : s.data.toList[j]? = some s[j] := by rw [List.getElem?_eq_getElem (by simpa using w4)]; simp; rfl
            conv => whnf
            refine ⟨⟨Int.natCast_nonneg _, by omega⟩, ?_⟩
            conv => whnf
            conv => whnf
            refine ⟨_, map_at hc, ?_⟩
            conv => whnf
            conv => whnf
            refine ⟨_, c209 _, ?_⟩
            conv => whnf
            conv => whnf
            refine ⟨fun w5 => ?_, fun w5 => ?_⟩
            · conv => whnf
              refine .lit (Eq.symm ?_)
              unfold nameIs
              rw [if_neg (show ¬ s.size = 0 by omega), if_neg (show ¬ 12 < s.size by omega), if_pos hL, ← Bool.not_eq_true, all_bytes]
              exact fun h => by have := h j w4; rw [bt_of w4] at this; simp_all
            · conv => whnf
              exact ⟨j + 1, .of (by rw [up1 w4 (by omega)]), ⟨w4, nx1 hj2 (by rw [bt_of w4]; simpa using w5)⟩, by show s.size - (j + 1) < s.size - j; omega⟩
          · replace w4 := nlti w4
            conv => whnf
            exact .lit (by unfold nameIs; rw [if_neg (show ¬ s.size = 0 by omega), if_neg (show ¬ 12 < s.size by omega), if_pos hL, (all_bytes s).2 fun k hk => hj2 k (by omega)])
theorem c207 (x : S47) (id : ByteArray) : ACall cx.P 207 [.agg (enc47 x), .bptr 96 0] [(96, .live (.box [.str id]))] (.bool (sEq x.f0 id)) [(96, .live (.box [.str id]))] := acall Tryz.f207 (by kernel_rfl) (by kernel_rfl) rfl <| by
  conv => whnf
  exact .of rfl
theorem c155 (m : List S47) (id : ByteArray) (hm : m.length ≤ 1048576) : ACall cx.P 155 [.row 7 (m.map enc47), .fn 207 [] [.bptr 100 0]] [(100, .live (.box [.str id]))] (.int .i64 (placeOf m id)) [(100, .live (.box [.str id]))] := acall Tryz.f155 (by kernel_rfl) (by kernel_rfl) rfl <| by
  have hE : (m.map enc47).length = m.length := List.length_map _
  conv => whnf
  refine .inr (.inl ⟨[0, 1, 7, 8], Nat, fun j => ([(0, .row 7 (m.map enc47)), (1, .fn 207 [] [.bptr 100 0]), (7, .int .i64 m.length), (8, .int .i64 j)], [(100, .live (.box [.str id]))]), fun j => j ≤ m.length ∧ ∀ k, k < j → ((m.getD k z47).f0.toList == id.toList) = false, fun j => m.length - j, ?_, fun j hj => ?_⟩)
  · conv => whnf
    exact ⟨0, .of (by rw [← hE]; rfl), Nat.zero_le _, fun k h => absurd h (Nat.not_lt_zero k)⟩
  · obtain ⟨hj1, hj2⟩ := hj
    conv => whnf
    refine ⟨fun w1 => ?_, fun w1 => ?_⟩
    · replace w1 := lti w1
      conv => whnf
      refine ⟨⟨Int.natCast_nonneg _, by omega⟩, ?_⟩
      conv => whnf
      conv => whnf
      obtain ⟨v2, hv2⟩ := at_ex w1
      refine ⟨_, map_at hv2, ?_⟩
      conv => whnf
      conv => whnf
      refine ⟨_, _, c207 _ _, ?_⟩
      conv => whnf
      conv => whnf
      refine ⟨fun w3 => ?_, fun w3 => ?_⟩
      · replace w3 := seT w3
        conv => whnf
        refine .of ?_
        rw [show placeOf m id = (j : Int) from firstAt_hit w1 (by rw [getD_at hv2, w3]; simp) hj2]
      · conv => whnf
        exact ⟨j + 1, .of (by rw [up1 w1 (by omega)]), ⟨w1, nx1 hj2 (by rw [getD_at hv2]; exact w3)⟩, by show m.length - (j + 1) < m.length - j; omega⟩
    · replace w1 := nlti w1
      conv => whnf
      refine .of ?_
      rw [show placeOf m id = -1 from firstAt_miss fun k hk => hj2 k (by omega)]
theorem c272 (l : List S78) (x : S78) (hl : l.length ≤ 1048576) : PCall cx.P 272 [.row 2 (l.map enc78), .agg (enc78 x)] (.int .i64 (firstAt (fun j => sameOn x (l.getD j z78)) l.length)) := pcall Tryz.f272 (by kernel_rfl) (by kernel_rfl) <| by
  have hE : (l.map enc78).length = l.length := List.length_map _
  conv => whnf
  refine .inr (.inl ⟨[0, 3, 7, 8], Nat, fun j => ([(0, .row 2 (l.map enc78)), (3, .bptr 208 0), (7, .int .i64 l.length), (8, .int .i64 j)], [(208, .live (.box (enc78 x)))]), fun j => j ≤ l.length ∧ ∀ k, k < j → sameOn x (l.getD k z78) = false, fun j => l.length - j, ?_, fun j hj => ?_⟩)
  · conv => whnf
    exact ⟨0, .of (by rw [← hE]; rfl), Nat.zero_le _, fun k h => absurd h (Nat.not_lt_zero k)⟩
  · obtain ⟨hj1, hj2⟩ := hj
    conv => whnf
    refine ⟨fun w1 => ?_, fun w1 => ?_⟩
    · replace w1 := lti w1
      conv => whnf
      refine ⟨⟨Int.natCast_nonneg _, by omega⟩, ?_⟩
      conv => whnf
      conv => whnf
      obtain ⟨v2, hv2⟩ := at_ex w1
      refine ⟨_, map_at hv2, ?_⟩
      conv => whnf
      conv => whnf
      refine ⟨by kernel_rfl, ?_⟩
      conv => whnf
      conv => whnf
      refine ⟨fun w3 => ?_, fun w3 => ?_⟩
      · conv => whnf
        exact .int (firstAt_hit w1 (by rw [getD_at hv2]; rw [Bool.and_true] at w3; exact w3) hj2).symm
      · conv => whnf
        exact ⟨j + 1, .of (by rw [up1 w1 (by omega)]; rfl), ⟨w1, nx1 hj2 (by rw [getD_at hv2]; rw [Bool.and_true] at w3; exact w3)⟩, by show l.length - (j + 1) < l.length - j; omega⟩
    · replace w1 := nlti w1
      conv => whnf
      exact .int (firstAt_miss fun k hk => hj2 k (by omega)).symm
end Go.Ab
namespace Go.Ab
open Go.Proofs Sn
set_option maxRecDepth 100000
set_option maxHeartbeats 4000000
theorem idx_has (l : List ByteArray) (s : ByteArray) : decide (idx l s ≥ 0) = hasS l s := by
  rw [Bool.eq_iff_iff, decide_eq_true_eq, hasS_iff]
  exact idx_ge
theorem fa_any {α : Type} {z : α} {q : α → Bool} {l : List α} : decide (firstAt (fun j => q (l.getD j z)) l.length ≥ 0) = l.any q := by
  rw [show decide (firstAt (fun j => q (l.getD j z)) l.length ≥ 0) = decide (0 ≤ firstAt (fun j => q (l.getD j z)) l.length) from rfl, firstAt_pos, Bool.eq_iff_iff, List.any_eq_true, List.any_eq_true]
  constructor
  · rintro ⟨j, hj, h⟩
    exact ⟨_, getD_mem (List.mem_range.1 hj), h⟩
  · rintro ⟨x, hx, h⟩
    obtain ⟨j, hj, e⟩ := mem_getD (z := z) hx
    exact ⟨j, List.mem_range.2 hj, by rw [e]; exact h⟩
theorem fop (s : ByteArray) : decide (0 ≤ firstAt (fun j => (opL.getD j ByteArray.empty).toList == s.toList) opL.length) = hasS opL s := by
  have := fa_any (z := ByteArray.empty) (q := fun x : ByteArray => x.toList == s.toList) (l := opL)
  exact this
theorem c92 (l : List ByteArray) (s : ByteArray) (hl : l.length ≤ 1048576) : PCall cx.P 92 [.row 1 (l.map encT), .str s] (.bool (hasS l s)) := pcall Tryz.f92 (by kernel_rfl) (by kernel_rfl) <| by
  conv => whnf
  refine ⟨_, c141 _ _ hl, ?_⟩
  conv => whnf
  conv => whnf
  exact .bool (idx_has _ _)
theorem c151 (f : List ByteArray) (m : List S47) (id : ByteArray) (hm : m.length ≤ 1048576) : PCall cx.P 151 [encM f m, .str id] (.int .i64 (placeOf m id)) := pcall Tryz.f151 (by kernel_rfl) (by kernel_rfl) <| by
  unfold encM
  conv => whnf
  refine ⟨_, _, c155 m id hm, ?_⟩
  conv => whnf
  conv => whnf
  exact .of rfl
theorem c237 (l : List S78) (x : S78) (hl : l.length ≤ 1048576) : PCall cx.P 237 [.row 2 (l.map enc78), .agg (enc78 x)] (.bool (l.any fun y => sameOn x y)) := pcall Tryz.f237 (by kernel_rfl) (by kernel_rfl) <| by
  conv => whnf
  refine ⟨_, c272 _ _ hl, ?_⟩
  conv => whnf
  conv => whnf
  exact .bool fa_any
theorem c236 (f : List ByteArray) (m : List S47) (o : S78) (hm : m.length ≤ 1048576) : PCall cx.P 236 [encM f m, .agg (enc78 o)] (.bool (onB m o)) := pcall Tryz.f236 (by kernel_rfl) (by kernel_rfl) <| by
  have hE : (m.map enc47).length = m.length := List.length_map _
  unfold encM onB
  conv => whnf
  refine ⟨_, c151 f m _ hm, ?_⟩
  conv => whnf
  conv => whnf
  refine ⟨fun w1 => ?_, fun w1 => ?_⟩
  · replace w1 := of_decide_eq_true w1
    conv => whnf
    refine ⟨pl_in (by omega), ?_⟩
    conv => whnf
    conv => whnf
    obtain ⟨x, hx⟩ := at_ex (pl_lt (by omega : ¬ placeOf m o.f0 < 0))
    refine ⟨_, map_at hx, ?_⟩
    conv => whnf
    conv => whnf
    refine ⟨_, c271 _ _, ?_⟩
    conv => whnf
    conv => whnf
    refine ⟨by kernel_rfl, ?_⟩
    conv => whnf
    conv => whnf
    exact .bool (by simp_all)
  · replace w1 := of_decide_eq_false w1
    conv => whnf
    refine ⟨by kernel_rfl, ?_⟩
    conv => whnf
    conv => whnf
    exact .lit (by simp; omega)
theorem c240 (f : List ByteArray) (m : List S47) (c : S93) (hf : f.length ≤ 1048576) : PCall cx.P 240 [encM f m, .agg (enc93 c)] (.bool (ifB f c)) := pcall Tryz.f240 (by kernel_rfl) (by kernel_rfl) <| by
  have hop : PCall cx.P 92 [.row 1 (opL.map encT), .str c.f1] (.bool (hasS opL c.f1)) := c92 _ _ (by decide)
  unfold encM
  conv => whnf
  refine ⟨by decide, ?_⟩
  conv => whnf
  conv => whnf
  refine ⟨_, hop, ?_⟩
  conv => whnf
  conv => whnf
  refine ⟨fun w1 => ?_, fun w1 => ?_⟩
  · conv => whnf
    refine ⟨_, c92 f _ hf, ?_⟩
    conv => whnf
    conv => whnf
    refine ⟨fun w2 => ?_, fun w2 => ?_⟩
    · conv => whnf
      refine ⟨fun w3 => ?_, fun w3 => ?_⟩
      · replace w3 := of_decide_eq_true w3
        conv => whnf
        exact .bool (by unfold ifB; rw [fop c.f1, show hasS opL c.f1 = true from w1, show hasS f c.f0 = true from w2, decide_eq_true (by omega : -1000000 ≤ c.f2)]; rfl)
      · replace w3 := of_decide_eq_false w3
        conv => whnf
        exact .lit (by unfold ifB; rw [decide_eq_false (by omega : ¬ -1000000 ≤ c.f2), Bool.and_false]; rfl)
    · conv => whnf
      exact .lit (by unfold ifB; rw [show hasS f c.f0 = false from w2]; rfl)
  · conv => whnf
    exact .lit (by unfold ifB; rw [fop c.f1, show hasS opL c.f1 = false from w1, Bool.and_false]; rfl)
theorem c239 (f : List ByteArray) (m : List S47) (c : S93) (hf : f.length ≤ 1048576) : ACall cx.P 239 [.agg (enc93 c), .bptr 96 0] [(96, .live (.box [.row 1 (f.map encT), .row 7 (m.map enc47)]))] (.bool (!ifB f c)) [(96, .live (.box [.row 1 (f.map encT), .row 7 (m.map enc47)]))] := acall Tryz.f239 (by kernel_rfl) (by kernel_rfl) rfl <| by
  have h240 := c240 f m c hf
  unfold encM at h240
  conv => whnf
  refine ⟨_, h240, ?_⟩
  conv => whnf
  conv => whnf
  exact .of rfl
theorem c273 (f : List ByteArray) (m : List S47) (l : List S93) (hf : f.length ≤ 1048576) (hl : l.length ≤ 1048576) : ACall cx.P 273 [.row 3 (l.map enc93), .fn 239 [] [.bptr 100 0]] [(100, .live (.box [.row 1 (f.map encT), .row 7 (m.map enc47)]))] (.int .i64 (firstAt (fun j => !ifB f (l.getD j z93)) l.length)) [(100, .live (.box [.row 1 (f.map encT), .row 7 (m.map enc47)]))] := acall Tryz.f273 (by kernel_rfl) (by kernel_rfl) rfl <| by
  have hE : (l.map enc93).length = l.length := List.length_map _
  conv => whnf
  refine .inr (.inl ⟨[0, 1, 7, 8], Nat, fun j => ([(0, .row 3 (l.map enc93)), (1, .fn 239 [] [.bptr 100 0]), (7, .int .i64 l.length), (8, .int .i64 j)], [(100, .live (.box [.row 1 (f.map encT), .row 7 (m.map enc47)]))]), fun j => j ≤ l.length ∧ ∀ k, k < j → (!ifB f (l.getD k z93)) = false, fun j => l.length - j, ?_, fun j hj => ?_⟩)
  · conv => whnf
    exact ⟨0, .of (by rw [← hE]; rfl), Nat.zero_le _, fun k h => absurd h (Nat.not_lt_zero k)⟩
  · obtain ⟨hj1, hj2⟩ := hj
    conv => whnf
    refine ⟨fun w1 => ?_, fun w1 => ?_⟩
    · replace w1 := lti w1
      conv => whnf
      refine ⟨⟨Int.natCast_nonneg _, by omega⟩, ?_⟩
      conv => whnf
      conv => whnf
      obtain ⟨v2, hv2⟩ := at_ex w1
      refine ⟨_, map_at hv2, ?_⟩
      conv => whnf
      conv => whnf
      refine ⟨_, _, c239 f m _ hf, ?_⟩
      conv => whnf
      conv => whnf
      refine ⟨fun w3 => ?_, fun w3 => ?_⟩
      · conv => whnf
        refine .of ?_
        rw [show firstAt (fun j => !ifB f (l.getD j z93)) l.length = (j : Int) from firstAt_hit w1 (by rw [getD_at hv2]; exact w3) hj2]
      · conv => whnf
        exact ⟨j + 1, .of (by rw [up1 w1 (by omega)]), ⟨w1, nx1 hj2 (by rw [getD_at hv2]; exact w3)⟩, by show l.length - (j + 1) < l.length - j; omega⟩
    · replace w1 := nlti w1
      conv => whnf
      refine .of ?_
      rw [show firstAt (fun j => !ifB f (l.getD j z93)) l.length = -1 from firstAt_miss fun k hk => hj2 k (by omega)]
theorem c238 (f : List ByteArray) (m : List S47) (l : List S93) (hf : f.length ≤ 1048576) (hl : l.length ≤ 1048576) : ACall cx.P 238 [.row 3 (l.map enc93), .fn 239 [] [.bptr 100 0]] [(100, .live (.box [.row 1 (f.map encT), .row 7 (m.map enc47)]))] (.bool (l.any fun c => !ifB f c)) [(100, .live (.box [.row 1 (f.map encT), .row 7 (m.map enc47)]))] := acall Tryz.f238 (by kernel_rfl) (by kernel_rfl) rfl <| by
  rw [← fa_any (z := z93)]
  conv => whnf
  refine ⟨_, _, c273 f m _ hf hl, ?_⟩
  conv => whnf
  conv => whnf
  exact .of rfl
theorem c237t (l : List S78) (i : Nat) (x : S78) (hl : l.length ≤ 1048576) : PCall cx.P 237 [.row 2 (List.take ((i : Int)).toNat (l.map enc78)), .agg (enc78 x)] (.bool ((l.take i).any fun y => sameOn x y)) := by
  rw [Int.toNat_natCast, ← List.map_take]; exact c237 _ _ (by rw [List.length_take]; omega)
theorem seB_fin {f : List ByteArray} {m : List S47} {s : S29} (h0 : s.f0.length ≤ 3) (h1 : s.f1.length ≤ 2) (h2 : ¬ s.f0.length + s.f1.length = 0) (h3 : ∀ i, i < s.f0.length → (onB m (s.f0.getD i z78) && newB s.f0 i) = true) : (!s.f1.any fun c => !ifB f c) = seB f m s := by
  unfold seB
  rw [allN_iff.2 h3, allN_list (q := ifB f), decide_eq_true h0, decide_eq_true h1, decide_eq_true (by omega)]
  simp only [Bool.true_and, Bool.and_true]
  rw [Bool.eq_iff_iff, Bool.not_eq_true', ← Bool.not_eq_true, List.any_eq_true, List.all_eq_true]
  constructor
  · intro h x hx
    cases e : ifB f x with
    | true => rfl
    | false => exact absurd ⟨x, hx, by rw [e]; rfl⟩ h
  · rintro h ⟨x, hx, e⟩
    rw [h x hx] at e
    cases e
theorem c212 (f : List ByteArray) (m : List S47) (s : S29) (hf : f.length ≤ 1048576) (hm : m.length ≤ 1048576) (hs : Sz29 s) : PCall cx.P 212 [encM f m, .agg (enc29 s)] (.bool (seB f m s)) := pcall Tryz.f212 (by kernel_rfl) (by kernel_rfl) <| by
  have hs0 := hs.1
  have hs1 := hs.2
  have h0 : (s.f0.map enc78).length = s.f0.length := List.length_map _
  have h1 : (s.f1.map enc93).length = s.f1.length := List.length_map _
  unfold encM enc29
  conv => whnf
  refine ⟨fun w1 => ?_, fun w1 => ?_⟩
  · replace w1 := of_decide_eq_true w1
    conv => whnf
    exact .lit (seB_l0 (by omega)).symm
  · replace w1 := of_decide_eq_false w1
    conv => whnf
    refine ⟨fun w2 => ?_, fun w2 => ?_⟩
    · replace w2 := of_decide_eq_true w2
      conv => whnf
      exact .lit (seB_l1 (by omega)).symm
    · replace w2 := of_decide_eq_false w2
      conv => whnf
      refine ⟨fun w3 => ?_, fun w3 => ?_⟩
      · replace w3 := of_decide_eq_true w3
        conv => whnf
        exact .lit (seB_l2 (by rw [IntWalk.i64_in _ (by omega)] at w3; omega)).symm
      · replace w3 := of_decide_eq_false w3
        conv => whnf
        refine .inr (.inl ⟨[2, 3, 28, 29, 30], Nat, fun i => ([(2, .bptr 144 0), (3, .bptr 208 0), (28, .row 2 (s.f0.map enc78)), (29, .int .i64 s.f0.length), (30, .int .i64 i)], [(208, .live (.box [.row 2 (s.f0.map enc78), .row 3 (s.f1.map enc93)])), (144, .live (.box [.row 1 (f.map encT), .row 7 (m.map enc47)]))]), fun i => i ≤ s.f0.length ∧ ∀ k, k < i → (onB m (s.f0.getD k z78) && newB s.f0 k) = true, fun i => s.f0.length - i, ?_, fun i hi => ?_⟩)
        · conv => whnf
          exact ⟨0, .of (by rw [← h0]; rfl), Nat.zero_le _, fun k h => absurd h (Nat.not_lt_zero k)⟩
        · obtain ⟨hi1, hi2⟩ := hi
          have h236 := fun o => c236 f m o hm
          unfold encM at h236
          conv => whnf
          refine ⟨fun w4 => ?_, fun w4 => ?_⟩
          · replace w4 := lti w4
            conv => whnf
            refine ⟨⟨Int.natCast_nonneg _, by omega⟩, ?_⟩
            conv => whnf
            conv => whnf
            obtain ⟨v5, hv5⟩ := at_ex w4
            refine ⟨_, map_at hv5, ?_⟩
            conv => whnf
            conv => whnf
            refine ⟨_, h236 _, ?_⟩
            conv => whnf
            conv => whnf
            refine ⟨fun w6 => ?_, fun w6 => ?_⟩
            · conv => whnf
              refine ⟨by kernel_rfl, ?_⟩
              conv => whnf
              conv => whnf
              exact .lit (seB_on w4 (by rw [getD_at hv5, show onB m v5 = false by simpa using w6]; rfl)).symm
            · conv => whnf
              refine ⟨⟨Int.natCast_nonneg _, by omega⟩, ?_⟩
              conv => whnf
              conv => whnf
              refine ⟨_, c237t _ i _ hs0, ?_⟩
              conv => whnf
              conv => whnf
              refine ⟨by kernel_rfl, ?_⟩
              conv => whnf
              conv => whnf
              refine ⟨fun w7 => ?_, fun w7 => ?_⟩
              · conv => whnf
                exact .lit (seB_on w4 (by rw [show newB s.f0 i = false by rw [← Bool.not_eq_true', ← new_any w4, getD_at hv5]; exact w7, Bool.and_false])).symm
              · conv => whnf
                exact ⟨i + 1, .of (by rw [up1 w4 (by omega)]), ⟨w4, nx1 hi2 (by rw [show newB s.f0 i = true by rw [← Bool.not_eq_false', ← new_any w4, getD_at hv5]; exact w7, getD_at hv5, show onB m v5 = true by simpa using w6]; rfl)⟩, by show s.f0.length - (i + 1) < s.f0.length - i; omega⟩
          · replace w4 := nlti w4
            conv => whnf
            refine ⟨_, _, c238 f m _ hf hs1, ?_⟩
            conv => whnf
            conv => whnf
            exact .bool (seB_fin (by omega) (by omega) (fun h => w3 (by rw [IntWalk.i64_in _ (by omega)]; omega)) fun k hk => hi2 k (by omega))
theorem c211 (f : List ByteArray) (m : List S47) (s : S29) (hf : f.length ≤ 1048576) (hm : m.length ≤ 1048576) (hs : Sz29 s) : ACall cx.P 211 [.agg (enc29 s), .bptr 96 0] [(96, .live (.box [.row 1 (f.map encT), .row 7 (m.map enc47)]))] (.bool (!seB f m s)) [(96, .live (.box [.row 1 (f.map encT), .row 7 (m.map enc47)]))] := acall Tryz.f211 (by kernel_rfl) (by kernel_rfl) rfl <| by
  have h212 := c212 f m s hf hm hs
  unfold encM at h212
  conv => whnf
  refine ⟨_, h212, ?_⟩
  conv => whnf
  conv => whnf
  exact .of rfl
theorem c235 (f : List ByteArray) (m : List S47) (l : List S29) (hf : f.length ≤ 1048576) (hm : m.length ≤ 1048576) (hl : l.length ≤ 1048576) (hz : ∀ s ∈ l, Sz29 s) : ACall cx.P 235 [.row 2 (l.map enc29), .fn 211 [] [.bptr 100 0]] [(100, .live (.box [.row 1 (f.map encT), .row 7 (m.map enc47)]))] (.int .i64 (firstAt (fun j => !seB f m (l.getD j z29)) l.length)) [(100, .live (.box [.row 1 (f.map encT), .row 7 (m.map enc47)]))] := acall Tryz.f235 (by kernel_rfl) (by kernel_rfl) rfl <| by
  have hE : (l.map enc29).length = l.length := List.length_map _
  conv => whnf
  refine .inr (.inl ⟨[0, 1, 7, 8], Nat, fun j => ([(0, .row 2 (l.map enc29)), (1, .fn 211 [] [.bptr 100 0]), (7, .int .i64 l.length), (8, .int .i64 j)], [(100, .live (.box [.row 1 (f.map encT), .row 7 (m.map enc47)]))]), fun j => j ≤ l.length ∧ ∀ k, k < j → (!seB f m (l.getD k z29)) = false, fun j => l.length - j, ?_, fun j hj => ?_⟩)
  · conv => whnf
    exact ⟨0, .of (by rw [← hE]; rfl), Nat.zero_le _, fun k h => absurd h (Nat.not_lt_zero k)⟩
  · obtain ⟨hj1, hj2⟩ := hj
    conv => whnf
    refine ⟨fun w1 => ?_, fun w1 => ?_⟩
    · replace w1 := lti w1
      conv => whnf
      refine ⟨⟨Int.natCast_nonneg _, by omega⟩, ?_⟩
      conv => whnf
      conv => whnf
      obtain ⟨v2, hv2⟩ := at_ex w1
      refine ⟨_, map_at hv2, ?_⟩
      conv => whnf
      conv => whnf
      refine ⟨_, _, c211 f m _ hf hm (hz _ (List.mem_of_getElem? hv2)), ?_⟩
      conv => whnf
      conv => whnf
      refine ⟨fun w3 => ?_, fun w3 => ?_⟩
      · conv => whnf
        refine .of ?_
        rw [show firstAt (fun j => !seB f m (l.getD j z29)) l.length = (j : Int) from firstAt_hit w1 (by rw [getD_at hv2]; exact w3) hj2]
      · conv => whnf
        exact ⟨j + 1, .of (by rw [up1 w1 (by omega)]), ⟨w1, nx1 hj2 (by rw [getD_at hv2]; exact w3)⟩, by show l.length - (j + 1) < l.length - j; omega⟩
    · replace w1 := nlti w1
      conv => whnf
      refine .of ?_
      rw [show firstAt (fun j => !seB f m (l.getD j z29)) l.length = -1 from firstAt_miss fun k hk => hj2 k (by omega)]
theorem c210 (f : List ByteArray) (m : List S47) (l : List S29) (hf : f.length ≤ 1048576) (hm : m.length ≤ 1048576) (hl : l.length ≤ 1048576) (hz : ∀ s ∈ l, Sz29 s) : ACall cx.P 210 [.row 2 (l.map enc29), .fn 211 [] [.bptr 100 0]] [(100, .live (.box [.row 1 (f.map encT), .row 7 (m.map enc47)]))] (.bool (l.any fun s => !seB f m s)) [(100, .live (.box [.row 1 (f.map encT), .row 7 (m.map enc47)]))] := acall Tryz.f210 (by kernel_rfl) (by kernel_rfl) rfl <| by
  rw [← fa_any (z := z29)]
  conv => whnf
  refine ⟨_, _, c235 f m _ hf hm hl hz, ?_⟩
  conv => whnf
  conv => whnf
  exact .of rfl
theorem any_not {α : Type} {l : List α} {q : α → Bool} : (!l.any fun x => !q x) = l.all q := by
  rw [Bool.eq_iff_iff, Bool.not_eq_true', ← Bool.not_eq_true, List.any_eq_true, List.all_eq_true]
  constructor
  · intro h x hx
    cases e : q x with
    | true => rfl
    | false => exact absurd ⟨x, hx, by rw [e]; rfl⟩ h
  · rintro h ⟨x, hx, e⟩
    rw [h x hx] at e
    cases e
theorem c158 (f : List ByteArray) (m : List S47) (l : List S29) (hf : f.length ≤ 1048576) (hm : m.length ≤ 1048576) (hl : l.length ≤ 1048576) (hz : ∀ s ∈ l, Sz29 s) : PCall cx.P 158 [encM f m, .row 2 (l.map enc29)] (.bool (sesB f m l)) := pcall Tryz.f158 (by kernel_rfl) (by kernel_rfl) <| by
  have hE : (l.map enc29).length = l.length := List.length_map _
  unfold encM
  conv => whnf
  refine ⟨fun w1 => ?_, fun w1 => ?_⟩
  · replace w1 := of_decide_eq_true w1
    conv => whnf
    refine ⟨_, _, c210 f m _ hf hm hl hz, ?_⟩
    conv => whnf
    conv => whnf
    exact .bool (by unfold sesB; rw [any_not, allN_list (q := seB f m), decide_eq_true (by omega), Bool.and_true])
  · replace w1 := of_decide_eq_false w1
    conv => whnf
    exact .lit (by unfold sesB; rw [decide_eq_false (by omega), Bool.and_false])
end Go.Ab
namespace Go.Ab
open Go.Proofs Sn
set_option maxRecDepth 100000
set_option maxHeartbeats 4000000
theorem c92t (l : List ByteArray) (i : Nat) (s : ByteArray) (hl : l.length ≤ 1048576) : PCall cx.P 92 [.row 1 (List.take ((i : Int)).toNat (l.map encT)), .str s] (.bool (hasS (l.take i) s)) := by
  rw [Int.toNat_natCast, ← List.map_take]; exact c92 _ _ (by rw [List.length_take]; omega)
theorem c106 (l : List ByteArray) (hl : l.length ≤ 1048576) : PCall cx.P 106 [.row 1 (l.map encT)] (.bool (allN l.length (fileB l))) := pcall Tryz.f106 (by kernel_rfl) (by kernel_rfl) <| by
  have hE : (l.map encT).length = l.length := List.length_map _
  conv => whnf
  refine .inr (.inl ⟨[0, 5, 6, 7], Nat, fun i => ([(0, .row 1 (l.map encT)), (5, .row 1 (l.map encT)), (6, .int .i64 l.length), (7, .int .i64 i)], []), fun i => i ≤ l.length ∧ ∀ k, k < i → fileB l k = true, fun i => l.length - i, ?_, fun i hi => ?_⟩)
  · conv => whnf
    exact ⟨0, .of (by rw [← hE]; rfl), Nat.zero_le _, fun k h => absurd h (Nat.not_lt_zero k)⟩
  · obtain ⟨hi1, hi2⟩ := hi
    conv => whnf
    refine ⟨fun w1 => ?_, fun w1 => ?_⟩
    · replace w1 := lti w1
      conv => whnf
      refine ⟨⟨Int.natCast_nonneg _, by omega⟩, ?_⟩
      conv => whnf
      conv => whnf
      obtain ⟨v2, hv2⟩ := at_ex w1
      refine ⟨_, map_at hv2, ?_⟩
      conv => whnf
      conv => whnf
      refine ⟨_, c154 _, ?_⟩
      conv => whnf
      conv => whnf
      refine ⟨fun w3 => ?_, fun w3 => ?_⟩
      · conv => whnf
        exact .lit (allN_false w1 (by unfold fileB; rw [getD_at hv2, show nameIs v2 = false by simpa using w3]; rfl)).symm
      · conv => whnf
        refine ⟨⟨Int.natCast_nonneg _, by omega⟩, ?_⟩
        conv => whnf
        conv => whnf
        refine ⟨_, c92t l i _ hl, ?_⟩
        conv => whnf
        conv => whnf
        refine ⟨fun w4 => ?_, fun w4 => ?_⟩
        · conv => whnf
          exact .lit (allN_false w1 (by unfold fileB; rw [getD_at hv2, show hasS (l.take i) v2 = true from w4, Bool.not_true, Bool.and_false])).symm
        · conv => whnf
          exact ⟨i + 1, .of (by rw [up1 w1 (by omega)]), ⟨w1, nx1 hi2 (by unfold fileB; rw [getD_at hv2, show nameIs v2 = true by simpa using w3, show hasS (l.take i) v2 = false from w4]; rfl)⟩, by show l.length - (i + 1) < l.length - i; omega⟩
    · replace w1 := nlti w1
      conv => whnf
      exact .lit (allN_iff.2 fun k hk => hi2 k (by omega)).symm
theorem c107 (f : List ByteArray) (m : List S47) (hm : m.length ≤ 1048576) : PCall cx.P 107 [encM f m] (.row 1 ((m.map S47.f0).map encT)) := pcall Tryz.f107 (by kernel_rfl) (by kernel_rfl) <| by
  have hE : (m.map enc47).length = m.length := List.length_map _
  unfold encM
  conv => whnf
  refine .inr (.inl ⟨[3, 7, 8, 9], Nat, fun j => ([(3, .own 1 208 0 (((m.take j).map S47.f0).map encT).length .opn), (7, .row 7 (m.map enc47)), (8, .int .i64 m.length), (9, .int .i64 j)], [(208, .live (.arr 1 (((m.take j).map S47.f0).map encT)))]), fun j => j ≤ m.length, fun j => m.length - j, ?_, fun j hj => ?_⟩)
  · conv => whnf
    refine ⟨0, ?_, Nat.zero_le _⟩
    rw [← hE]
    exact .nil rfl rfl (.chg <| .same <| .same <| .same .nil) .here
  · have hj : j ≤ m.length := hj
    have hT : (((m.take j).map S47.f0).map encT).length = j := by rw [List.length_map, List.length_map, List.length_take]; omega
    conv => whnf
    refine ⟨fun w1 => ?_, fun w1 => ?_⟩
    · replace w1 := lti w1
      conv => whnf
      refine ⟨⟨Int.natCast_nonneg _, by omega⟩, ?_⟩
      conv => whnf
      conv => whnf
      obtain ⟨v2, hv2⟩ := at_ex w1
      refine ⟨_, map_at hv2, ?_⟩
      conv => whnf
      conv => whnf
      refine ⟨by simpa using by omega, ?_⟩
      conv => whnf
      conv => whnf
      refine ⟨by simpa using by omega, ?_⟩
      conv => whnf
      conv => whnf
      refine ⟨j + 1, ?_, w1, by show m.length - (j + 1) < m.length - j; omega⟩
      dsimp only
      rw [snoc_take hv2, up1 w1 (by omega)]
      simp only [List.map_append, List.length_append, List.map_cons, List.map_nil]
      exact .of rfl
    · replace w1 := nlti w1
      conv => whnf
      refine ⟨by omega, ?_⟩
      conv => whnf
      conv => whnf
      exact .of (by rw [List.drop_zero, List.take_of_length_le (by omega)])
theorem c108 (x : S47) (hx : Sz47 x) : PCall cx.P 108 [.agg (enc47 x)] (.bool (planB x)) := pcall Tryz.f108 (by kernel_rfl) (by kernel_rfl) <| by
  obtain ⟨⟨hx1, hx2⟩, hx3, hx4⟩ := hx
  have hE5 : (x.f5.map enc29).length = x.f5.length := List.length_map _
  have hE6 : (x.f6.map enc29).length = x.f6.length := List.length_map _
  unfold planB
  conv => whnf
  refine ⟨fun w1 => ?_, fun w1 => ?_⟩
  · replace w1 := of_decide_eq_true w1
    conv => whnf
    refine ⟨fun w2 => ?_, fun w2 => ?_⟩
    · replace w2 := seT w2
      conv => whnf
      refine ⟨fun w3 => ?_, fun w3 => ?_⟩
      · conv => whnf
        exact .bool (by rw [IntWalk.i64_in _ (by omega), decide_eq_true w1, w2, show x.f3 = false by simpa using w3, hE5, hE6, decide_eq_true (size0.2 rfl : (⟨#[]⟩ : ByteArray).toList = []), Bool.eq_iff_iff, beq_iff_eq]; simp only [decide_true, Bool.true_and, Bool.not_false, Bool.and_true, Bool.and_eq_true, decide_eq_true_eq]; omega)
      · conv => whnf
        exact .lit (by simp_all)
    · conv => whnf
      exact .lit (by rw [show decide (x.f2.toList = []) = false from decide_eq_false fun e => by rw [(sEq_iff _ _).2 (bs_inj (e.trans (size0.2 rfl).symm))] at w2; cases w2]; simp)
  · replace w1 := of_decide_eq_false w1
    conv => whnf
    exact .lit (by simp; omega)
section
variable {f : List ByteArray} {m : List S47} {x : S47}
theorem mB_y (k1 : ¬ x.f1 < 1) (k2 : ¬ x.f1 > 5) (w3 : (!sesB f m x.f5) = false) (w4 : (!sesB f m x.f6) = false) : mB f m x = (ticksB x && !waitsB x) := by
  unfold mB
  rw [decide_eq_true (by omega), decide_eq_true (by omega), show sesB f m x.f5 = true by simpa using w3, show sesB f m x.f6 = true by simpa using w4]
  rfl
theorem mB_t (h : ticksB x = false) : mB f m x = false := by unfold mB; rw [h]; simp
theorem wt_k (h : 4 ≤ x.f1) : waitsB x = (x.f3 || decide (0 < x.f5.length)) := by unfold waitsB; rw [decide_eq_true h]; rfl
end
theorem c112 (f : List ByteArray) (m : List S47) (x : S47) (hf : f.length ≤ 1048576) (hm : m.length ≤ 1048576) (hx : Sz47 x) : PCall cx.P 112 [encM f m, .agg (enc47 x)] (.bool (mB f m x)) := pcall Tryz.f112 (by kernel_rfl) (by kernel_rfl) <| by
  obtain ⟨⟨hx1, hx2⟩, hx3, hx4⟩ := hx
  have hE5 : (x.f5.map enc29).length = x.f5.length := List.length_map _
  have hE6 : (x.f6.map enc29).length = x.f6.length := List.length_map _
  have a1 := c158 f m x.f5 hf hm hx1 hx2
  have a2 := c158 f m x.f6 hf hm hx3 hx4
  unfold encM at a1 a2 ⊢
  conv => whnf
  refine ⟨fun w1 => ?_, fun w1 => ?_⟩
  · replace w1 := of_decide_eq_true w1
    conv => whnf
    exact .lit (by unfold mB; rw [decide_eq_false (by omega)]; rfl)
  · replace w1 := of_decide_eq_false w1
    conv => whnf
    refine ⟨fun w2 => ?_, fun w2 => ?_⟩
    · replace w2 := of_decide_eq_true w2
      conv => whnf
      exact .lit (by unfold mB; rw [decide_eq_false (by omega : ¬ x.f1 ≤ 5), Bool.and_false]; rfl)
    · replace w2 := of_decide_eq_false w2
      conv => whnf
      refine ⟨_, a1, ?_⟩
      conv => whnf
      conv => whnf
      refine ⟨fun w3 => ?_, fun w3 => ?_⟩
      · conv => whnf
        exact .lit (by unfold mB; rw [show sesB f m x.f5 = false by simpa using w3]; simp)
      · conv => whnf
        refine ⟨_, a2, ?_⟩
        conv => whnf
        conv => whnf
        refine ⟨fun w4 => ?_, fun w4 => ?_⟩
        · conv => whnf
          exact .lit (by unfold mB; rw [show sesB f m x.f6 = false by simpa using w4]; simp)
        · conv => whnf
          refine ⟨fun w5 => ?_, fun w5 => ?_⟩
          · replace w5 := of_decide_eq_true w5
            conv => whnf
            refine ⟨fun w6 => ?_, fun w6 => ?_⟩
            · replace w6 := of_decide_eq_true w6
              omega
            · replace w6 := of_decide_eq_false w6
              conv => whnf
              refine ⟨fun w7 => ?_, fun w7 => ?_⟩
              · replace w7 := of_decide_eq_true w7
                conv => whnf
                refine ⟨fun w8 => ?_, fun w8 => ?_⟩
                · replace w8 := of_decide_eq_true w8
                  conv => whnf
                  refine ⟨fun w9 => ?_, fun w9 => ?_⟩
                  · replace w9 := of_decide_eq_true w9
                    conv => whnf
                    refine ⟨fun w10 => ?_, fun w10 => ?_⟩
                    · conv => whnf
                      exact .lit (by rw [mB_y w1 w2 w3 w4, ticks5 w5, decide_eq_true w7, decide_eq_true w8, wt_k (by omega), w10]; rfl)
                    · conv => whnf
                      exact .bool (by rw [mB_y w1 w2 w3 w4, ticks5 w5, decide_eq_true w7, decide_eq_true w8, wt_k (by omega), w10, hE5]; simp)
                  · replace w9 := of_decide_eq_false w9
                    omega
                · replace w8 := of_decide_eq_false w8
                  conv => whnf
                  exact .lit (mB_t (by rw [ticks5 w5, decide_eq_false w8, Bool.and_false])).symm
              · replace w7 := of_decide_eq_false w7
                conv => whnf
                exact .lit (mB_t (by rw [ticks5 w5, decide_eq_false w7, Bool.false_and])).symm
          · replace w5 := of_decide_eq_false w5
            conv => whnf
            refine ⟨fun w6 => ?_, fun w6 => ?_⟩
            · replace w6 := of_decide_eq_true w6
              conv => whnf
              refine ⟨fun w7 => ?_, fun w7 => ?_⟩
              · replace w7 := of_decide_eq_true w7
                conv => whnf
                refine ⟨fun w8 => ?_, fun w8 => ?_⟩
                · replace w8 := of_decide_eq_true w8
                  conv => whnf
                  refine ⟨fun w9 => ?_, fun w9 => ?_⟩
                  · conv => whnf
                    exact .lit (by rw [mB_y w1 w2 w3 w4, ticks0 w5, decide_eq_true (by omega : x.f4 = 0), wt_k (by omega), w9]; rfl)
                  · conv => whnf
                    exact .bool (by rw [mB_y w1 w2 w3 w4, ticks0 w5, decide_eq_true (by omega : x.f4 = 0), wt_k (by omega), w9, hE5]; simp)
                · replace w8 := of_decide_eq_false w8
                  conv => whnf
                  exact .lit (mB_t (by rw [ticks0 w5, decide_eq_false (by omega)])).symm
              · replace w7 := of_decide_eq_false w7
                conv => whnf
                exact .lit (mB_t (by rw [ticks0 w5, decide_eq_false (by omega)])).symm
            · replace w6 := of_decide_eq_false w6
              conv => whnf
              refine ⟨fun w7 => ?_, fun w7 => ?_⟩
              · replace w7 := of_decide_eq_true w7
                conv => whnf
                refine ⟨fun w8 => ?_, fun w8 => ?_⟩
                · replace w8 := of_decide_eq_true w8
                  conv => whnf
                  refine ⟨fun w9 => ?_, fun w9 => ?_⟩
                  · replace w9 := of_decide_eq_true w9
                    omega
                  · replace w9 := of_decide_eq_false w9
                    conv => whnf
                    exact .lit (by rw [mB_y w1 w2 w3 w4, ticks0 w5, decide_eq_true (by omega : x.f4 = 0), wt_4 (by omega)]; rfl)
                · replace w8 := of_decide_eq_false w8
                  conv => whnf
                  exact .lit (mB_t (by rw [ticks0 w5, decide_eq_false (by omega)])).symm
              · replace w7 := of_decide_eq_false w7
                conv => whnf
                exact .lit (mB_t (by rw [ticks0 w5, decide_eq_false (by omega)])).symm
end Go.Ab
namespace Go.Ab
open Go.Proofs Sn
set_option maxRecDepth 100000
set_option maxHeartbeats 4000000
theorem c111 (f : List ByteArray) (m : List S47) (x : S47) (hf : f.length ≤ 1048576) (hm : m.length ≤ 1048576) (hx : Sz47 x) : ACall cx.P 111 [.agg (enc47 x), .bptr 96 0] [(96, .live (.box [.row 1 (f.map encT), .row 7 (m.map enc47)]))] (.bool (!mB f m x)) [(96, .live (.box [.row 1 (f.map encT), .row 7 (m.map enc47)]))] := acall Tryz.f111 (by kernel_rfl) (by kernel_rfl) rfl <| by
  have h112 := c112 f m x hf hm hx
  unfold encM at h112
  conv => whnf
  refine ⟨_, h112, ?_⟩
  conv => whnf
  conv => whnf
  exact .of rfl
theorem c155i (f : List ByteArray) (m : List S47) (h : SzM f m) : ACall cx.P 155 [.row 7 (m.map enc47), .fn 111 [] [.bptr 100 0]] [(100, .live (.box [.row 1 (f.map encT), .row 7 (m.map enc47)]))] (.int .i64 (firstAt (fun j => !mB f m (m.getD j z47)) m.length)) [(100, .live (.box [.row 1 (f.map encT), .row 7 (m.map enc47)]))] := acall Tryz.f155 (by kernel_rfl) (by kernel_rfl) rfl <| by
  have hE : (m.map enc47).length = m.length := List.length_map _
  have hm := h.hm
  conv => whnf
  refine .inr (.inl ⟨[0, 1, 7, 8], Nat, fun j => ([(0, .row 7 (m.map enc47)), (1, .fn 111 [] [.bptr 100 0]), (7, .int .i64 m.length), (8, .int .i64 j)], [(100, .live (.box [.row 1 (f.map encT), .row 7 (m.map enc47)]))]), fun j => j ≤ m.length ∧ ∀ k, k < j → (!mB f m (m.getD k z47)) = false, fun j => m.length - j, ?_, fun j hj => ?_⟩)
  · conv => whnf
    exact ⟨0, .of (by rw [← hE]; rfl), Nat.zero_le _, fun k h => absurd h (Nat.not_lt_zero k)⟩
  · obtain ⟨hj1, hj2⟩ := hj
    conv => whnf
    refine ⟨fun w1 => ?_, fun w1 => ?_⟩
    · replace w1 := lti w1
      conv => whnf
      refine ⟨⟨Int.natCast_nonneg _, by omega⟩, ?_⟩
      conv => whnf
      conv => whnf
      obtain ⟨v2, hv2⟩ := at_ex w1
      refine ⟨_, map_at hv2, ?_⟩
      conv => whnf
      conv => whnf
      refine ⟨_, _, c111 f m _ h.hf hm (h.hx _ (List.mem_of_getElem? hv2)), ?_⟩
      conv => whnf
      conv => whnf
      refine ⟨fun w3 => ?_, fun w3 => ?_⟩
      · conv => whnf
        refine .of ?_
        rw [show firstAt (fun j => !mB f m (m.getD j z47)) m.length = (j : Int) from firstAt_hit w1 (by rw [getD_at hv2]; exact w3) hj2]
      · conv => whnf
        exact ⟨j + 1, .of (by rw [up1 w1 (by omega)]), ⟨w1, nx1 hj2 (by rw [getD_at hv2]; exact w3)⟩, by show m.length - (j + 1) < m.length - j; omega⟩
    · replace w1 := nlti w1
      conv => whnf
      refine .of ?_
      rw [show firstAt (fun j => !mB f m (m.getD j z47)) m.length = -1 from firstAt_miss fun k hk => hj2 k (by omega)]
theorem c110 (f : List ByteArray) (m : List S47) (h : SzM f m) : ACall cx.P 110 [.row 7 (m.map enc47), .fn 111 [] [.bptr 100 0]] [(100, .live (.box [.row 1 (f.map encT), .row 7 (m.map enc47)]))] (.bool (m.any fun x => !mB f m x)) [(100, .live (.box [.row 1 (f.map encT), .row 7 (m.map enc47)]))] := acall Tryz.f110 (by kernel_rfl) (by kernel_rfl) rfl <| by
  rw [← fa_any (z := z47)]
  conv => whnf
  refine ⟨_, _, c155i f m h, ?_⟩
  conv => whnf
  conv => whnf
  exact .of rfl
theorem chk_eq (p : S47) (ps : List S47) : chkSt (p :: ps) = (decide ((p :: ps).length ≤ 5) && decide (p.f1 = 1)) := rfl
def stB (P : List S47) (y : S47) (T : List S47) : Bool := match P with | [] => false | p :: ps => chkSt (p :: ps) && standsB S47.f0 S47.f2 chkSt (y :: p :: ps) T
theorem stands_at {j : Nat} {r y : S47} {F stk P : List S47} (hy : (r :: F)[j]? = some y) (hP : P = popTo S47.f0 y.f2 stk) : standsB S47.f0 S47.f2 chkSt stk ((r :: F).drop j) = stB P y ((r :: F).drop (j + 1)) := by
  rw [drop_at hy, hP]
  unfold standsB stB
  cases popTo S47.f0 y.f2 stk <;> rfl
theorem stB_cons (p : S47) (ps : List S47) (y : S47) (T : List S47) : stB (p :: ps) y T = (chkSt (p :: ps) && standsB S47.f0 S47.f2 chkSt (y :: p :: ps) T) := rfl
theorem c109 (f : List ByteArray) (r : S47) (F : List S47) (hR : Rooted S47.f0 S47.f2 (r :: F) r) (hl : (r :: F).length ≤ 16) : PCall cx.P 109 [encM f (r :: F)] (.bool (standsB S47.f0 S47.f2 chkSt [r] F)) := pcall Tryz.f109 (by kernel_rfl) (by kernel_rfl) <| by
  have hE : ((r :: F).map enc47).length = (r :: F).length := List.length_map _
  unfold encM
  conv => whnf
  have hl' : (r :: F).length ≤ 1048576 := by omega
  refine .inr (.inl ⟨[1, 3, 7, 8, 9], Nat × List S47, fun a => ([(1, .bptr 80 0), (3, .own 1 208 0 (((a.2.map S47.f0).reverse).map encT).length .opn), (7, .row 7 ((r :: F).map enc47)), (8, .int .i64 (r :: F).length), (9, .int .i64 a.1)], [(208, .live (.arr 1 (((a.2.map S47.f0).reverse).map encT))), (80, .live (.box [.row 1 (f.map encT), .row 7 ((r :: F).map enc47)]))]),
    fun a => a.1 ≤ (r :: F).length ∧ ((a.1 = 0 ∧ a.2 = []) ∨ (1 ≤ a.1 ∧ ∃ x st, a.2 = x :: st ∧ Chain S47.f0 S47.f2 (r :: F) r (x :: st) ∧ (x :: st).length ≤ a.1 ∧ ((x :: st).map S47.f0).Nodup ∧ standsB S47.f0 S47.f2 chkSt [r] F = standsB S47.f0 S47.f2 chkSt (x :: st) ((r :: F).drop a.1))), fun a => (r :: F).length - a.1, ?_, fun a ha => ?_⟩)
  · conv => whnf
    refine ⟨(0, []), ?_, Nat.zero_le _, .inl ⟨rfl, rfl⟩⟩
    rw [← hE]
    exact .nil rfl rfl (.same <| .chg <| .same <| .same <| .same .nil) .here
  · obtain ⟨j, stk⟩ := a
    obtain ⟨hj, hst⟩ := ha
    have hj : j ≤ (r :: F).length := hj
    have hSl : (((stk.map S47.f0).reverse).map encT).length = stk.length := by simp
    conv => whnf
    refine ⟨fun w1 => ?_, fun w1 => ?_⟩
    · replace w1 := lti w1
      obtain ⟨y, hy⟩ := at_ex w1
      conv => whnf
      refine ⟨⟨Int.natCast_nonneg _, by omega⟩, ?_⟩
      conv => whnf
      conv => whnf
      refine ⟨_, map_at hy, ?_⟩
      conv => whnf
      conv => whnf
      refine ⟨fun w2 => ?_, fun w2 => ?_⟩
      · replace w2 := of_decide_eq_true w2
        have w2 : 0 < j := by have : (j : Int) > 0 := w2; omega
        obtain ⟨x, st, e, hc, hln, hnd, hS⟩ : ∃ x st, stk = x :: st ∧ Chain S47.f0 S47.f2 (r :: F) r (x :: st) ∧ (x :: st).length ≤ j ∧ ((x :: st).map S47.f0).Nodup ∧ standsB S47.f0 S47.f2 chkSt [r] F = standsB S47.f0 S47.f2 chkSt (x :: st) ((r :: F).drop j) := by
          rcases hst with ⟨h1, _⟩ | ⟨_, h⟩
          · have h1 : j = 0 := h1; omega
          · exact h
        subst e
        obtain ⟨P, hP⟩ : ∃ P, P = popTo S47.f0 y.f2 (x :: st) := ⟨_, rfl⟩
        have hcut := cut_pop (q := y.f2) hnd
        rw [← hP] at hcut
        have hPl : P.length ≤ (x :: st).length := by
          cases hp : popTo S47.f0 y.f2 (x :: st) with
          | nil => rw [hP, hp]; exact Nat.zero_le _
          | cons p ps => rw [hP, hp]; exact (popTo_sublist hp).length_le
        have hrng : -1 ≤ idx ((x :: st).map S47.f0).reverse y.f2 ∧ idx ((x :: st).map S47.f0).reverse y.f2 < (x :: st).length := by
          by_cases h2 : y.f2 ∈ ((x :: st).map S47.f0).reverse
          · obtain ⟨q, hq, _, _, e⟩ := firstAt_at (idx_ge.2 h2)
            rw [List.length_reverse, List.length_map] at hq
            rw [show idx ((x :: st).map S47.f0).reverse y.f2 = (q : Int) from e]
            omega
          · rw [idx_miss h2]; omega
        have hidx : idx ((x :: st).map S47.f0).reverse y.f2 = (P.length : Int) - 1 := by
          have := congrArg List.length hcut
          rw [List.length_take, List.length_reverse, List.length_map, List.length_reverse, List.length_map] at this
          omega
        have hw : IntKind.i64.wrap ((P.length : Int) - 1 + 1) = (P.length : Int) := by rw [IntWalk.i64_in _ (by omega)]; omega
        have hwn : (IntKind.i64.wrap ((P.length : Int) - 1 + 1)).toNat = P.length := by rw [hw]; rfl
        have h141 : PCall cx.P 141 [.row 1 (List.drop 0 (List.map encT ((x :: st).map S47.f0).reverse)), .str y.f2] (.int .i64 ((P.length : Int) - 1)) := (c141 _ _ (by rw [List.length_reverse, List.length_map]; omega)).to (.int hidx)
        conv => whnf
        refine ⟨by omega, ?_⟩
        conv => whnf
        conv => whnf
        refine ⟨_, h141, ?_⟩
        conv => whnf
        conv => whnf
        refine ⟨by show 0 ≤ _ ∧ _ ≤ (((((x :: st).map S47.f0).reverse).map encT).length : Int); rw [hSl]; omega, ?_⟩
        conv => whnf
        have h151 := c151 f (r :: F) y.f2 hl'
        unfold encM at h151
        conv => whnf
        refine ⟨fun w3 => ?_, fun w3 => ?_⟩
        · replace w3 := of_decide_eq_true w3
          conv => whnf
          refine ⟨by kernel_rfl, ?_⟩
          conv => whnf
          conv => whnf
          have hP0 : P = [] := List.eq_nil_of_length_eq_zero (by rw [hwn] at w3; omega)
          exact .lit (by rw [hS, stands_at hy hP, hP0]; rfl)
        · replace w3 := of_decide_eq_false w3
          conv => whnf
          refine ⟨fun w4 => ?_, fun w4 => ?_⟩
          · replace w4 := of_decide_eq_true w4
            conv => whnf
            refine ⟨by kernel_rfl, ?_⟩
            conv => whnf
            conv => whnf
            exact .lit (by
              rw [hS, stands_at hy hP]
              cases hPc : P with
              | nil => rfl
              | cons p ps =>
                have : ¬ (p :: ps).length ≤ 5 := by rw [← hPc]; rw [hwn] at w4; omega
                rw [stB_cons, chk_eq, decide_eq_false this]; rfl)
          · replace w4 := of_decide_eq_false w4
            conv => whnf
            refine ⟨_, h151, ?_⟩
            conv => whnf
            conv => whnf
            rw [hwn] at w3 w4
            obtain ⟨p, ps, hPc⟩ : ∃ p ps, P = p :: ps := by
              cases hPc : P with
              | nil => rw [hPc] at w3; exact absurd rfl w3
              | cons p ps => exact ⟨p, ps, rfl⟩
            subst hPc
            obtain ⟨hcp, ep⟩ := popTo_chain hc hP.symm
            have hpl := hcp.mem_all hR.mem p List.mem_cons_self
            obtain ⟨q, hq, eq, eqp⟩ := place_mem hR.nodup hpl
            rw [ep] at eqp
            have hpx : (r :: F)[q]? = some p := by rw [List.getElem?_eq_getElem hq, ← eq, getD_of hq]
            refine ⟨by rw [eqp]; omega, ?_⟩
            conv => whnf
            conv => whnf
            refine ⟨_, map_at (show (r :: F)[(placeOf (r :: F) y.f2).toNat]? = some p by rw [eqp]; exact hpx), ?_⟩
            conv => whnf
            conv => whnf
            refine ⟨by kernel_rfl, ?_⟩
            conv => whnf
            conv => whnf
            refine ⟨fun w5 => ?_, fun w5 => ?_⟩
            · replace w5 := ne_of_bne w5
              conv => whnf
              exact .lit (by rw [hS, stands_at hy hP]; rw [stB_cons, chk_eq, decide_eq_false w5, Bool.and_false]; rfl)
            · replace w5 := eq_of_bne w5
              conv => whnf
              refine ⟨⟨Int.natCast_nonneg _, by omega⟩, ?_⟩
              conv => whnf
              conv => whnf
              refine ⟨by simpa using by omega, ?_⟩
              conv => whnf
              conv => whnf
              have hcl : ((((p :: ps).map S47.f0).reverse).map encT) = List.take (p :: ps).length (List.map encT ((x :: st).map S47.f0).reverse) := by
                rw [← List.map_take, ← hcut, hidx, show (((p :: ps).length : Int) - 1 + 1).toNat = (p :: ps).length by omega]
              refine ⟨⟨by rw [Int.toNat_natCast, hwn, Nat.zero_add]; show (p :: ps).length ≤ ((((x :: st).map S47.f0).reverse).map encT).length; rw [hSl]; exact hPl, by rw [Int.toNat_natCast, hwn]; show ((p :: ps).length + 1) * 16 ≤ 2 ^ 47; omega⟩, ?_⟩
              conv => whnf
              conv => whnf
              refine ⟨by kernel_rfl, ?_⟩
              conv => whnf
              conv => whnf
              refine ⟨(j + 1, y :: p :: ps), ?_, ⟨w1, .inr ⟨by show 1 ≤ j + 1; omega, y, p :: ps, rfl, ?_, ?_, ?_, ?_⟩⟩, by show (r :: F).length - (j + 1) < (r :: F).length - j; omega⟩
              · dsimp only
                have hnew : ((((y :: p :: ps).map S47.f0).reverse).map encT) = List.take (p :: ps).length (List.map encT ((x :: st).map S47.f0).reverse) ++ [encT y.f0] := by
                  rw [List.map_cons (a := y), List.reverse_cons, List.map_append, hcl]; rfl
                rw [up1 w1 (by omega), hnew, List.length_append]
                simp only [Int.toNat_natCast, hwn, Nat.zero_add]
                refine .of ?_
                rw [List.length_take, Nat.min_eq_left (by rw [hSl]; exact hPl)]
                rfl
              · exact .step y p ps (List.mem_of_getElem? hy) ep.symm hcp
              · show (p :: ps).length + 1 ≤ j + 1
                omega
              · rw [List.map_cons, List.nodup_cons]
                refine ⟨fun hm => ?_, hnd.sublist ((popTo_sublist hP.symm).map _)⟩
                obtain ⟨z, hz, ez⟩ := List.mem_map.1 hm
                have hzl := hcp.mem_all hR.mem z hz
                have := id_inj hR.nodup hzl (List.mem_of_getElem? hy) ez
                subst this
                obtain ⟨n, hn, hza⟩ := hcp.sub hR.mem z hz
                have := hR.level hza ((Chain.step z p ps (List.mem_of_getElem? hy) ep.symm hcp).anc hR.mem rfl)
                simp only [List.length_cons] at hn this
                omega
              · rw [hS, stands_at hy hP, stB_cons, chk_eq, decide_eq_true (by omega : (p :: ps).length ≤ 5), decide_eq_true w5]
                rfl
      · replace w2 := of_decide_eq_false w2
        conv => whnf
        refine ⟨⟨Int.natCast_nonneg _, by omega⟩, ?_⟩
        conv => whnf
        conv => whnf
        refine ⟨by simpa using by omega, ?_⟩
        conv => whnf
        conv => whnf
        refine ⟨by simp_all, ?_⟩
        conv => whnf
        conv => whnf
        refine ⟨by kernel_rfl, ?_⟩
        conv => whnf
        conv => whnf
        have hj0 : j = 0 := by have w2 : ¬ ((j : Int) > 0) := w2; omega
        have hk0 : stk = [] := by
          rcases hst with ⟨_, h⟩ | ⟨h, _⟩
          · exact h
          · have h : 1 ≤ j := h; omega
        subst hj0
        subst hk0
        obtain rfl : r = y := by cases hy; rfl
        refine ⟨(0 + 1, [r]), ?_, ⟨w1, .inr ⟨Nat.le_refl _, r, [], rfl, .top, Nat.le_refl _, by simp, rfl⟩⟩, by show (r :: F).length - (0 + 1) < (r :: F).length - 0; omega⟩
        dsimp only
        rw [up1 w1 (by omega)]
        exact .of rfl
    · replace w1 := nlti w1
      conv => whnf
      refine .lit ?_
      rcases hst with ⟨h, _⟩ | ⟨_, x, st, _, _, _, _, hS⟩
      · have h : j = 0 := h
        simp only [List.length_cons] at w1
        omega
      · rw [hS, List.drop_eq_nil_of_le (show (r :: F).length ≤ j by omega)]
        rfl
end Go.Ab
namespace Go.Ab
open Go.Proofs Sn
set_option maxRecDepth 100000
set_option maxHeartbeats 4000000
theorem isB_of {fs : List ByteArray} {xs : List S47} {b : Bool} (hb : b = true ↔ OkM fs xs) : b = isB fs xs := by rw [Bool.eq_iff_iff, isB_iff, hb]
theorem c62 (f : List ByteArray) (m : List S47) (h : SzM f m) : PCall cx.P 62 [encM f m] (.bool (isB f m)) := pcall Tryz.f62 (by kernel_rfl) (by kernel_rfl) <| by
  have hf := h.hf
  have hm := h.hm
  have hE : (m.map enc47).length = m.length := List.length_map _
  have hF : (f.map encT).length = f.length := List.length_map _
  have h107 := c107 f m hm
  unfold encM at h107 ⊢
  conv => whnf
  refine ⟨fun w1 => ?_, fun w1 => ?_⟩
  · replace w1 := of_decide_eq_true w1
    conv => whnf
    exact .lit (is_l0 (by omega)).symm
  · replace w1 := of_decide_eq_false w1
    conv => whnf
    refine ⟨fun w2 => ?_, fun w2 => ?_⟩
    · replace w2 := of_decide_eq_true w2
      conv => whnf
      exact .lit (is_l1 (by omega)).symm
    · replace w2 := of_decide_eq_false w2
      conv => whnf
      refine ⟨fun w3 => ?_, fun w3 => ?_⟩
      · replace w3 := of_decide_eq_true w3
        conv => whnf
        exact .lit (is_l2 (by omega)).symm
      · replace w3 := of_decide_eq_false w3
        conv => whnf
        refine ⟨_, c106 f hf, ?_⟩
        conv => whnf
        conv => whnf
        refine ⟨fun w4 => ?_, fun w4 => ?_⟩
        · conv => whnf
          exact .lit (isB_of ⟨fun h => (by cases h), fun ⟨r, F, e, h⟩ => by rw [allN_iff.2 (file_nodup.2 ⟨h.fnames, h.fnodup⟩)] at w4; cases w4⟩)
        · conv => whnf
          refine ⟨_, h107, ?_⟩
          conv => whnf
          conv => whnf
          refine ⟨_, c106 (m.map S47.f0) (by rw [List.length_map]; exact hm), ?_⟩
          conv => whnf
          conv => whnf
          refine ⟨fun w5 => ?_, fun w5 => ?_⟩
          · conv => whnf
            exact .lit (isB_of ⟨fun h => (by cases h), fun ⟨r, F, e, ho⟩ => by
              subst e
              rw [allN_iff.2 (file_nodup.2 ⟨fun s hs => by obtain ⟨x, hx, rfl⟩ := List.mem_map.1 hs; exact ho.names x hx, ho.nodup⟩)] at w5
              cases w5⟩)
          · conv => whnf
            obtain ⟨hfn, hfd⟩ := file_nodup.1 (allN_iff.1 (show allN f.length (fileB f) = true by simpa using w4))
            obtain ⟨hnm, hnd⟩ := file_nodup.1 (allN_iff.1 (show allN (m.map S47.f0).length (fileB (m.map S47.f0)) = true by simpa using w5))
            obtain ⟨r, F, rfl⟩ : ∃ r F, m = r :: F := by
              cases m with
              | nil => simp at w2
              | cons r F => exact ⟨r, F, rfl⟩
            have h16 : (r :: F).length ≤ 16 := by omega
            have hnames : ∀ x ∈ r :: F, nameIs x.f0 = true := fun x hx => hnm _ (List.mem_map_of_mem hx)
            have h108 := c108 r (h.hx r (List.mem_cons_self ..))
            have h110 := c110 f (r :: F) h
            have fin : ∀ hR : Rooted S47.f0 S47.f2 (r :: F) r, planB r = true → standsB S47.f0 S47.f2 chkSt [r] F = true → (!(r :: F).any fun x => !mB f (r :: F) x) = isB f (r :: F) := fun hR hpl hst => by
              rw [any_not]
              refine isB_of ?_
              rw [List.all_eq_true]
              constructor
              · intro h'
                refine ⟨r, F, rfl, by omega, hfn, hfd, by simp only [List.length_cons] at h16; omega, hnames, hnd, plan_iff.1 hpl, hst, fun x hx => ?_⟩
                have h2 := h' x hx
                unfold mB at h2
                simp only [Bool.and_eq_true, decide_eq_true_eq, Bool.not_eq_true'] at h2
                obtain ⟨⟨⟨⟨⟨a, b⟩, c⟩, d⟩, e⟩, g⟩ := h2
                exact ⟨⟨a, b⟩, ticks_iff.1 e, waits_iff.1 g, (ses_iff hnd).1 c, (ses_iff hnd).1 d⟩
              · rintro ⟨r', F', e, h'⟩ x hx
                cases e
                have h2 := h'.items x hx
                unfold mB
                simp only [Bool.and_eq_true, decide_eq_true_eq, Bool.not_eq_true']
                exact ⟨⟨⟨⟨⟨h2.kind.1, h2.kind.2⟩, (ses_iff hnd).2 h2.entry⟩, (ses_iff hnd).2 h2.exit⟩, ticks_iff.2 h2.ticks⟩, waits_iff.2 h2.waits⟩
            have h109 : ∀ hpl : planB r = true, ∃ hR : Rooted S47.f0 S47.f2 (r :: F) r, PCall cx.P 109 [encM f (r :: F)] (.bool (standsB S47.f0 S47.f2 chkSt [r] F)) := fun hpl => by
              have hR : Rooted S47.f0 S47.f2 (r :: F) r := ⟨hnd, List.mem_cons_self, fun p hp e => by
                have := hnames p hp
                rw [e, (plan_iff.1 hpl).2.1, nameIs_empty] at this
                cases this⟩
              exact ⟨hR, c109 f r F hR h16⟩
            refine ⟨⟨Int.natCast_nonneg _, by omega⟩, ?_⟩
            conv => whnf
            conv => whnf
            refine ⟨_, map_at (show (r :: F)[Int.toNat 0]? = some r from rfl), ?_⟩
            conv => whnf
            conv => whnf
            refine ⟨_, h108, ?_⟩
            conv => whnf
            conv => whnf
            refine ⟨fun w6 => ?_, fun w6 => ?_⟩
            · obtain ⟨hR, h109⟩ := h109 w6
              unfold encM at h109
              conv => whnf
              refine ⟨_, h109, ?_⟩
              conv => whnf
              conv => whnf
              refine ⟨fun w7 => ?_, fun w7 => ?_⟩
              · conv => whnf
                refine ⟨_, _, h110, ?_⟩
                conv => whnf
                conv => whnf
                exact .bool (fin hR w6 w7)
              · conv => whnf
                exact .lit (isB_of ⟨fun h => (by cases h), fun ⟨r', F', e, ho⟩ => by cases e; rw [ho.stands] at w7; cases w7⟩)
            · conv => whnf
              exact .lit (isB_of ⟨fun h => (by cases h), fun ⟨r', F', e, ho⟩ => by cases e; rw [plan_iff.2 ho.plan] at w6; cases w6⟩)
end Go.Ab
namespace Go.Ab
open Go.Proofs Sn
set_option maxRecDepth 100000
set_option maxHeartbeats 4000000
theorem c230 (a b : List S78) (ha : a.length ≤ 1048576) (hb : b.length ≤ 1048576) : PCall cx.P 230 [.row 2 (a.map enc78), .row 2 (b.map enc78)] (.bool (eqq a b)) := pcall Tryz.f230 (by kernel_rfl) (by kernel_rfl) <| by
  have hA : (a.map enc78).length = a.length := List.length_map _
  have hB : (b.map enc78).length = b.length := List.length_map _
  conv => whnf
  refine ⟨fun w1 => ?_, fun w1 => ?_⟩
  · replace w1 := ne_of_bne w1
    conv => whnf
    exact .lit (eqq_n fun h => by subst h; omega).symm
  · replace w1 := eq_of_bne w1
    conv => whnf
    refine .inr (.inl ⟨[0, 1, 12, 13], Nat, fun i => ([(0, .row 2 (a.map enc78)), (1, .row 2 (b.map enc78)), (12, .int .i64 a.length), (13, .int .i64 i)], []), fun i => i ≤ a.length ∧ ∀ k, k < i → a[k]? = b[k]?, fun i => a.length - i, ?_, fun i hi => ?_⟩)
    · conv => whnf
      exact ⟨0, .of (by rw [← hA]; rfl), Nat.zero_le _, rows_0⟩
    · obtain ⟨hi1, hi2⟩ := hi
      conv => whnf
      refine ⟨fun w2 => ?_, fun w2 => ?_⟩
      · replace w2 := lti w2
        conv => whnf
        refine ⟨⟨Int.natCast_nonneg _, by omega⟩, ?_⟩
        conv => whnf
        conv => whnf
        obtain ⟨v3, hv3⟩ := at_ex w2
        refine ⟨_, map_at hv3, ?_⟩
        conv => whnf
        conv => whnf
        refine ⟨⟨Int.natCast_nonneg _, by omega⟩, ?_⟩
        conv => whnf
        conv => whnf
        obtain ⟨v4, hv4⟩ := at_ex (show i < (b).length by omega)
        refine ⟨_, map_at hv4, ?_⟩
        conv => whnf
        conv => whnf
        refine ⟨by kernel_rfl, ?_⟩
        conv => whnf
        conv => whnf
        refine ⟨fun w5 => ?_, fun w5 => ?_⟩
        · replace w5 := cs78N w5
          conv => whnf
          exact .lit (eqq_n (rows_ne hv3 hv4 w5)).symm
        · replace w5 := cs78Y w5
          conv => whnf
          exact ⟨i + 1, .of (by rw [up1 w2 (by omega)]), ⟨w2, rows_nx hv3 hv4 w5 hi2⟩, by show a.length - (i + 1) < a.length - i; omega⟩
      · replace w2 := nlti w2
        conv => whnf
        exact .lit (eqq_y (rows_eq (by omega) hi2 w2)).symm
theorem c231 (a b : List S93) (ha : a.length ≤ 1048576) (hb : b.length ≤ 1048576) : PCall cx.P 231 [.row 3 (a.map enc93), .row 3 (b.map enc93)] (.bool (eqq a b)) := pcall Tryz.f231 (by kernel_rfl) (by kernel_rfl) <| by
  have hA : (a.map enc93).length = a.length := List.length_map _
  have hB : (b.map enc93).length = b.length := List.length_map _
  conv => whnf
  refine ⟨fun w1 => ?_, fun w1 => ?_⟩
  · replace w1 := ne_of_bne w1
    conv => whnf
    exact .lit (eqq_n fun h => by subst h; omega).symm
  · replace w1 := eq_of_bne w1
    conv => whnf
    refine .inr (.inl ⟨[0, 1, 12, 13], Nat, fun i => ([(0, .row 3 (a.map enc93)), (1, .row 3 (b.map enc93)), (12, .int .i64 a.length), (13, .int .i64 i)], []), fun i => i ≤ a.length ∧ ∀ k, k < i → a[k]? = b[k]?, fun i => a.length - i, ?_, fun i hi => ?_⟩)
    · conv => whnf
      exact ⟨0, .of (by rw [← hA]; rfl), Nat.zero_le _, rows_0⟩
    · obtain ⟨hi1, hi2⟩ := hi
      conv => whnf
      refine ⟨fun w2 => ?_, fun w2 => ?_⟩
      · replace w2 := lti w2
        conv => whnf
        refine ⟨⟨Int.natCast_nonneg _, by omega⟩, ?_⟩
        conv => whnf
        conv => whnf
        obtain ⟨v3, hv3⟩ := at_ex w2
        refine ⟨_, map_at hv3, ?_⟩
        conv => whnf
        conv => whnf
        refine ⟨⟨Int.natCast_nonneg _, by omega⟩, ?_⟩
        conv => whnf
        conv => whnf
        obtain ⟨v4, hv4⟩ := at_ex (show i < (b).length by omega)
        refine ⟨_, map_at hv4, ?_⟩
        conv => whnf
        conv => whnf
        refine ⟨by kernel_rfl, ?_⟩
        conv => whnf
        conv => whnf
        refine ⟨fun w5 => ?_, fun w5 => ?_⟩
        · replace w5 := cs93N w5
          conv => whnf
          exact .lit (eqq_n (rows_ne hv3 hv4 w5)).symm
        · replace w5 := cs93Y w5
          conv => whnf
          exact ⟨i + 1, .of (by rw [up1 w2 (by omega)]), ⟨w2, rows_nx hv3 hv4 w5 hi2⟩, by show a.length - (i + 1) < a.length - i; omega⟩
      · replace w2 := nlti w2
        conv => whnf
        exact .lit (eqq_y (rows_eq (by omega) hi2 w2)).symm
theorem c188 (a b : S29) (ha : Sz29 a) (hb : Sz29 b) : PCall cx.P 188 [.agg (enc29 a), .agg (enc29 b)] (.bool (eqq a b)) := pcall Tryz.f188 (by kernel_rfl) (by kernel_rfl) <| by
  conv => whnf
  refine ⟨_, c230 _ _ ha.1 hb.1, ?_⟩
  conv => whnf
  conv => whnf
  refine ⟨fun w1 => ?_, fun w1 => ?_⟩
  · conv => whnf
    refine ⟨_, c231 _ _ ha.2 hb.2, ?_⟩
    conv => whnf
    conv => whnf
    exact .bool (by rw [Bool.eq_iff_iff, eqq_iff, eqq_iff]; exact ⟨fun h => by have := eqq_iff.1 w1; cases a; cases b; simp_all, fun h => by rw [h]⟩)
  · conv => whnf
    exact .lit (eqq_n fun e => by subst e; rw [eqq_y rfl] at w1; cases w1).symm
theorem c187 (a b : List S29) (ha : a.length ≤ 1048576) (hb : b.length ≤ 1048576) (hsa : ∀ s ∈ a, Sz29 s) (hsb : ∀ s ∈ b, Sz29 s) : PCall cx.P 187 [.row 2 (a.map enc29), .row 2 (b.map enc29), .fn 188 [] []] (.bool (eqq a b)) := pcall Tryz.f187 (by kernel_rfl) (by kernel_rfl) <| by
  have hA : (a.map enc29).length = a.length := List.length_map _
  have hB : (b.map enc29).length = b.length := List.length_map _
  conv => whnf
  refine ⟨fun w1 => ?_, fun w1 => ?_⟩
  · replace w1 := ne_of_bne w1
    conv => whnf
    exact .lit (eqq_n fun h => by subst h; omega).symm
  · replace w1 := eq_of_bne w1
    conv => whnf
    refine .inr (.inl ⟨[1, 2, 15, 16, 17], Nat, fun i => ([(1, .row 2 (b.map enc29)), (2, .fn 188 [] []), (15, .row 2 (a.map enc29)), (16, .int .i64 a.length), (17, .int .i64 i)], []), fun i => i ≤ a.length ∧ ∀ k, k < i → a[k]? = b[k]?, fun i => a.length - i, ?_, fun i hi => ?_⟩)
    · conv => whnf
      exact ⟨0, .of (by rw [← hA]; rfl), Nat.zero_le _, rows_0⟩
    · obtain ⟨hi1, hi2⟩ := hi
      conv => whnf
      refine ⟨fun w2 => ?_, fun w2 => ?_⟩
      · replace w2 := lti w2
        conv => whnf
        refine ⟨⟨Int.natCast_nonneg _, by omega⟩, ?_⟩
        conv => whnf
        conv => whnf
        obtain ⟨v3, hv3⟩ := at_ex w2
        refine ⟨_, map_at hv3, ?_⟩
        conv => whnf
        conv => whnf
        refine ⟨⟨Int.natCast_nonneg _, by omega⟩, ?_⟩
        conv => whnf
        conv => whnf
        obtain ⟨v4, hv4⟩ := at_ex (show i < (b).length by omega)
        refine ⟨_, map_at hv4, ?_⟩
        conv => whnf
        conv => whnf
        refine ⟨_, c188 _ _ (hsa _ (List.mem_of_getElem? hv3)) (hsb _ (List.mem_of_getElem? hv4)), ?_⟩
        conv => whnf
        conv => whnf
        refine ⟨fun w5 => ?_, fun w5 => ?_⟩
        · conv => whnf
          exact .lit (eqq_n (rows_ne hv3 hv4 fun e => by subst e; rw [eqq_y rfl] at w5; cases w5)).symm
        · conv => whnf
          exact ⟨i + 1, .of (by rw [up1 w2 (by omega)]), ⟨w2, rows_nx hv3 hv4 (eqq_iff.1 (by simpa using w5)) hi2⟩, by show a.length - (i + 1) < a.length - i; omega⟩
      · replace w2 := nlti w2
        conv => whnf
        exact .lit (eqq_y (rows_eq (by omega) hi2 w2)).symm
theorem c140 (a b : List S29) (ha : a.length ≤ 1048576) (hb : b.length ≤ 1048576) (hsa : ∀ s ∈ a, Sz29 s) (hsb : ∀ s ∈ b, Sz29 s) : PCall cx.P 140 [.row 2 (a.map enc29), .row 2 (b.map enc29)] (.bool (eqq a b)) := pcall Tryz.f140 (by kernel_rfl) (by kernel_rfl) <| by
  conv => whnf
  refine ⟨_, c187 a b ha hb hsa hsb, ?_⟩
  conv => whnf
  conv => whnf
  exact .of rfl
theorem c115 (x y : S47) (hx : Sz47 x) (hy : Sz47 y) : PCall cx.P 115 [.agg (enc47 x), .agg (enc47 y)] (.bool (eqq x y)) := pcall Tryz.f115 (by kernel_rfl) (by kernel_rfl) <| by
  obtain ⟨⟨hx1, hx2⟩, hx3, hx4⟩ := hx
  obtain ⟨⟨hy1, hy2⟩, hy3, hy4⟩ := hy
  unfold enc47
  conv => whnf
  refine ⟨fun w1 => ?_, fun w1 => ?_⟩
  · replace w1 := seT w1
    conv => whnf
    refine ⟨fun w2 => ?_, fun w2 => ?_⟩
    · replace w2 := of_decide_eq_true w2
      conv => whnf
      refine ⟨fun w3 => ?_, fun w3 => ?_⟩
      · replace w3 := seT w3
        conv => whnf
        refine ⟨fun w4 => ?_, fun w4 => ?_⟩
        · replace w4 := of_decide_eq_true w4
          conv => whnf
          refine ⟨fun w5 => ?_, fun w5 => ?_⟩
          · replace w5 := of_decide_eq_true w5
            conv => whnf
            refine ⟨_, c140 _ _ hx1 hy1 hx2 hy2, ?_⟩
            conv => whnf
            conv => whnf
            refine ⟨fun w6 => ?_, fun w6 => ?_⟩
            · conv => whnf
              refine ⟨_, c140 _ _ hx3 hy3 hx4 hy4, ?_⟩
              conv => whnf
              conv => whnf
              exact .bool (eq47 w1 w2 w3 w4 w5 (eqq_iff.1 w6))
            · conv => whnf
              exact .lit (eqq_n fun e => by subst e; rw [eqq_y rfl] at w6; cases w6).symm
          · replace w5 := of_decide_eq_false w5
            conv => whnf
            exact .lit (eqq_n fun e => by subst e; exact w5 rfl).symm
        · replace w4 := of_decide_eq_false w4
          conv => whnf
          exact .lit (eqq_n fun e => by subst e; exact w4 rfl).symm
      · conv => whnf
        exact .lit (eqq_n fun e => by subst e; rw [(sEq_iff _ _).2 rfl] at w3; cases w3).symm
    · replace w2 := of_decide_eq_false w2
      conv => whnf
      exact .lit (eqq_n fun e => by subst e; exact w2 rfl).symm
  · conv => whnf
    exact .lit (eqq_n fun e => by subst e; rw [(sEq_iff _ _).2 rfl] at w1; cases w1).symm
theorem c114 (a b : List S47) (ha : a.length ≤ 1048576) (hb : b.length ≤ 1048576) (hsa : ∀ s ∈ a, Sz47 s) (hsb : ∀ s ∈ b, Sz47 s) : PCall cx.P 114 [.row 7 (a.map enc47), .row 7 (b.map enc47), .fn 115 [] []] (.bool (eqq a b)) := pcall Tryz.f114 (by kernel_rfl) (by kernel_rfl) <| by
  have hA : (a.map enc47).length = a.length := List.length_map _
  have hB : (b.map enc47).length = b.length := List.length_map _
  conv => whnf
  refine ⟨fun w1 => ?_, fun w1 => ?_⟩
  · replace w1 := ne_of_bne w1
    conv => whnf
    exact .lit (eqq_n fun h => by subst h; omega).symm
  · replace w1 := eq_of_bne w1
    conv => whnf
    refine .inr (.inl ⟨[1, 2, 15, 16, 17], Nat, fun i => ([(1, .row 7 (b.map enc47)), (2, .fn 115 [] []), (15, .row 7 (a.map enc47)), (16, .int .i64 a.length), (17, .int .i64 i)], []), fun i => i ≤ a.length ∧ ∀ k, k < i → a[k]? = b[k]?, fun i => a.length - i, ?_, fun i hi => ?_⟩)
    · conv => whnf
      exact ⟨0, .of (by rw [← hA]; rfl), Nat.zero_le _, rows_0⟩
    · obtain ⟨hi1, hi2⟩ := hi
      conv => whnf
      refine ⟨fun w2 => ?_, fun w2 => ?_⟩
      · replace w2 := lti w2
        conv => whnf
        refine ⟨⟨Int.natCast_nonneg _, by omega⟩, ?_⟩
        conv => whnf
        conv => whnf
        obtain ⟨v3, hv3⟩ := at_ex w2
        refine ⟨_, map_at hv3, ?_⟩
        conv => whnf
        conv => whnf
        refine ⟨⟨Int.natCast_nonneg _, by omega⟩, ?_⟩
        conv => whnf
        conv => whnf
        obtain ⟨v4, hv4⟩ := at_ex (show i < (b).length by omega)
        refine ⟨_, map_at hv4, ?_⟩
        conv => whnf
        conv => whnf
        refine ⟨_, c115 _ _ (hsa _ (List.mem_of_getElem? hv3)) (hsb _ (List.mem_of_getElem? hv4)), ?_⟩
        conv => whnf
        conv => whnf
        refine ⟨fun w5 => ?_, fun w5 => ?_⟩
        · conv => whnf
          exact .lit (eqq_n (rows_ne hv3 hv4 fun e => by subst e; rw [eqq_y rfl] at w5; cases w5)).symm
        · conv => whnf
          exact ⟨i + 1, .of (by rw [up1 w2 (by omega)]), ⟨w2, rows_nx hv3 hv4 (eqq_iff.1 (by simpa using w5)) hi2⟩, by show a.length - (i + 1) < a.length - i; omega⟩
      · replace w2 := nlti w2
        conv => whnf
        exact .lit (eqq_y (rows_eq (by omega) hi2 w2)).symm
theorem c113 (a b : List ByteArray) (ha : a.length ≤ 1048576) (hb : b.length ≤ 1048576) : PCall cx.P 113 [.row 1 (a.map encT), .row 1 (b.map encT)] (.bool (eqq a b)) := pcall Tryz.f113 (by kernel_rfl) (by kernel_rfl) <| by
  have hA : (a.map encT).length = a.length := List.length_map _
  have hB : (b.map encT).length = b.length := List.length_map _
  conv => whnf
  refine ⟨fun w1 => ?_, fun w1 => ?_⟩
  · replace w1 := ne_of_bne w1
    conv => whnf
    exact .lit (eqq_n fun h => by subst h; omega).symm
  · replace w1 := eq_of_bne w1
    conv => whnf
    refine .inr (.inl ⟨[0, 1, 12, 13], Nat, fun i => ([(0, .row 1 (a.map encT)), (1, .row 1 (b.map encT)), (12, .int .i64 a.length), (13, .int .i64 i)], []), fun i => i ≤ a.length ∧ ∀ k, k < i → a[k]? = b[k]?, fun i => a.length - i, ?_, fun i hi => ?_⟩)
    · conv => whnf
      exact ⟨0, .of (by rw [← hA]; rfl), Nat.zero_le _, rows_0⟩
    · obtain ⟨hi1, hi2⟩ := hi
      conv => whnf
      refine ⟨fun w2 => ?_, fun w2 => ?_⟩
      · replace w2 := lti w2
        conv => whnf
        refine ⟨⟨Int.natCast_nonneg _, by omega⟩, ?_⟩
        conv => whnf
        conv => whnf
        obtain ⟨v3, hv3⟩ := at_ex w2
        refine ⟨_, map_at hv3, ?_⟩
        conv => whnf
        conv => whnf
        refine ⟨⟨Int.natCast_nonneg _, by omega⟩, ?_⟩
        conv => whnf
        conv => whnf
        obtain ⟨v4, hv4⟩ := at_ex (show i < (b).length by omega)
        refine ⟨_, map_at hv4, ?_⟩
        conv => whnf
        conv => whnf
        refine ⟨by kernel_rfl, ?_⟩
        conv => whnf
        conv => whnf
        refine ⟨fun w5 => ?_, fun w5 => ?_⟩
        · replace w5 := seN w5
          conv => whnf
          exact .lit (eqq_n (rows_ne hv3 hv4 w5)).symm
        · replace w5 := seY w5
          conv => whnf
          exact ⟨i + 1, .of (by rw [up1 w2 (by omega)]), ⟨w2, rows_nx hv3 hv4 w5 hi2⟩, by show a.length - (i + 1) < a.length - i; omega⟩
      · replace w2 := nlti w2
        conv => whnf
        exact .lit (eqq_y (rows_eq (by omega) hi2 w2)).symm
theorem c63 (f g : List ByteArray) (m n : List S47) (h : SzM f m) (h' : SzM g n) : PCall cx.P 63 [encM f m, encM g n] (.bool (eqq (f, m) (g, n))) := pcall Tryz.f63 (by kernel_rfl) (by kernel_rfl) <| by
  unfold encM
  conv => whnf
  refine ⟨_, c113 _ _ h.hf h'.hf, ?_⟩
  conv => whnf
  conv => whnf
  refine ⟨fun w1 => ?_, fun w1 => ?_⟩
  · conv => whnf
    refine ⟨_, c114 _ _ h.hm h'.hm h.hx h'.hx, ?_⟩
    conv => whnf
    conv => whnf
    exact .bool (by rw [Bool.eq_iff_iff, eqq_iff, eqq_iff]; exact ⟨fun h => by rw [h, eqq_iff.1 w1], fun h => by cases h; rfl⟩)
  · conv => whnf
    exact .lit (eqq_n fun e => by cases e; rw [eqq_y rfl] at w1; cases w1).symm
theorem c30 (f : List ByteArray) (m : List S47) (h : SzM f m) : PCall cx.P 30 [encM f m] (.bool (bP (IsN f m))) := pcall Tryz.f30 (by kernel_rfl) (by kernel_rfl) <| by
  by_cases hok : isB f m = true
  · obtain ⟨r, F, rfl, ho⟩ := isB_iff.1 hok
    have e : eqq (f, r :: F) (sortL cmpS f, r :: turnT ordID nIt r F) = bP (IsN f (r :: F)) := by
      rw [Bool.eq_iff_iff, eqq_iff, bP_iff]
      constructor
      · intro e
        exact ⟨r, F, rfl, ho, (congrArg Prod.fst e).symm, (List.cons.inj (congrArg Prod.snd e)).2.symm⟩
      · rintro ⟨r', F', e, _, e1, e2⟩
        cases e
        rw [e1, e2]
    have hn := (ho.turn isOrd_ID turns_n (sortL_perm (c := cmpS) f)).sz
    have h34 := c62 f (r :: F) h
    have h37 := c36 ho
    have h35 := c63 f (sortL cmpS f) (r :: F) (r :: turnT ordID nIt r F) h hn
    rw [hok] at h34
    rw [e] at h35
    unfold encM at h34 h37 h35 ⊢
    conv => whnf
    refine ⟨_, h34, ?_⟩
    conv => whnf
    conv => whnf
    refine ⟨fun w1 => ?_, fun w1 => ?_⟩
    · conv => whnf
      refine ⟨_, h37, ?_⟩
      conv => whnf
      conv => whnf
      refine ⟨_, h35, ?_⟩
      conv => whnf
      conv => whnf
      refine ⟨by kernel_rfl, ?_⟩
      conv => whnf
      conv => whnf
      exact .of rfl
    · cases w1
  · have hok : isB f m = false := by simpa using hok
    have e : bP (IsN f m) = false := bP_no.2 fun ⟨r, F, e, ho, _⟩ => by rw [isB_iff.2 ⟨r, F, e, ho⟩] at hok; cases hok
    have h34 := c62 f m h
    rw [hok] at h34
    rw [e]
    unfold encM at h34 ⊢
    conv => whnf
    refine ⟨_, h34, ?_⟩
    conv => whnf
    conv => whnf
    refine ⟨fun w1 => ?_, fun w1 => ?_⟩
    · cases w1
    · conv => whnf
      refine ⟨by kernel_rfl, ?_⟩
      conv => whnf
      conv => whnf
      exact .lit rfl
end Go.Ab
namespace Go.Ab
open Go.Proofs Sn
set_option maxRecDepth 100000
set_option maxHeartbeats 4000000
def sumW {α : Type} (w : α → Nat) (l : List α) : Nat := (l.map w).sum
theorem sumW_snoc {α : Type} {w : α → Nat} {l : List α} {k : Nat} {x : α} (h : l[k]? = some x) : sumW w (l.take (k + 1)) = sumW w (l.take k) + w x := by
  unfold sumW; rw [snoc_take h, List.map_append, List.sum_append]; simp
theorem sumW_le {α : Type} {w : α → Nat} (l : List α) (k : Nat) : sumW w (l.take k) ≤ sumW w l := by
  unfold sumW
  conv => rhs; rw [← List.take_append_drop k l]
  rw [List.map_append, List.sum_append]; omega
theorem sumW_all {α : Type} {w : α → Nat} {l : List α} {k : Nat} (h : ¬ k < l.length) : sumW w (l.take k) = sumW w l := by rw [List.take_of_length_le (by omega)]
theorem sumW_mem {α : Type} {w : α → Nat} {l : List α} {x : α} (h : x ∈ l) : w x ≤ sumW w l := by
  obtain ⟨k, hk⟩ := List.mem_iff_getElem?.1 h
  have h1 := sumW_snoc (w := w) hk
  have h2 := sumW_le (w := w) l (k + 1)
  omega
def wSe (s : S29) : Nat := s.f0.length + s.f1.length
def hdIt (x : S47) : Nat := x.f5.length + x.f6.length + x.f0.size / 50 + x.f2.size / 50
def wIt (x : S47) : Nat := hdIt x + sumW wSe x.f5 + sumW wSe x.f6
def totM (f : List ByteArray) (m : List S47) : Nat := f.length + m.length + sumW wIt m
def Bg29 (s : S29) : Prop := s.f0.length ≤ 140737488355328 ∧ s.f1.length ≤ 140737488355328
structure BgM (f : List ByteArray) (m : List S47) : Prop where
  hf : f.length ≤ 140737488355328
  hm : m.length ≤ 140737488355328
  hx : ∀ x ∈ m, x.f0.size ≤ 140737488355328 ∧ x.f2.size ≤ 140737488355328 ∧ (x.f5.length ≤ 140737488355328 ∧ ∀ s ∈ x.f5, Bg29 s) ∧ (x.f6.length ≤ 140737488355328 ∧ ∀ s ∈ x.f6, Bg29 s)
theorem tdiv50 (a : Nat) : ((a : Int).tdiv 50) = ((a / 50 : Nat) : Int) := (Int.ofNat_tdiv a 50).symm
theorem SzM.of {f : List ByteArray} {m : List S47} (h : totM f m < 400) : SzM f m := by
  unfold totM at h
  have sz : ∀ l : List S29, sumW wSe l < 400 → ∀ s ∈ l, Sz29 s := fun l h s hs => by
    have : s.f0.length + s.f1.length ≤ sumW wSe l := sumW_mem (w := wSe) hs
    exact ⟨by omega, by omega⟩
  refine ⟨by omega, by omega, fun x hx => ?_⟩
  have h1 : hdIt x + sumW wSe x.f5 + sumW wSe x.f6 ≤ sumW wIt m := sumW_mem (w := wIt) hx
  have h2 : hdIt x = x.f5.length + x.f6.length + x.f0.size / 50 + x.f2.size / 50 := rfl
  exact ⟨⟨by omega, sz _ (by omega)⟩, by omega, sz _ (by omega)⟩
theorem p29 (f : List ByteArray) (m : List S47) (h : BgM f m) : funcP cx Tryz.f29 [encM f m] (.bool (decide (400 ≤ totM f m))) := by
  have hf := h.hf
  have hm := h.hm
  have hE : (m.map enc47).length = m.length := List.length_map _
  have hF : (f.map encT).length = f.length := List.length_map _
  have w0 : IntKind.i64.wrap ((f.length : Int) + m.length) = ((f.length + m.length : Nat) : Int) := by rw [IntWalk.i64_in _ (by omega)]; omega
  unfold encM
  conv => whnf
  refine .inr (.inl ⟨[1, 3, 4], Nat × Nat, fun a => ([(1, .bptr 80 0), (3, .int .i64 a.1), (4, .int .i64 a.2)], [(80, .live (.box [.row 1 (f.map encT), .row 7 (m.map enc47)]))]), fun a => a.2 ≤ m.length ∧ (a.1 = f.length + m.length + sumW wIt (m.take a.2) ∨ (400 ≤ a.1 ∧ 400 ≤ totM f m)), fun a => m.length - a.2, ?_, fun a ha => ?_⟩)
  · conv => whnf
    refine ⟨(f.length + m.length, 0), .of ?_, Nat.zero_le _, .inl rfl⟩
    rw [hE, hF, w0]
    rfl
  · obtain ⟨n, i⟩ := a
    obtain ⟨ha1, ha2⟩ := ha
    have ha1 : i ≤ m.length := ha1
    replace ha2 : n = f.length + m.length + sumW wIt (m.take i) ∨ (400 ≤ n ∧ 400 ≤ totM f m) := ha2
    have hle := sumW_le (w := wIt) m i
    have hT : totM f m = f.length + m.length + sumW wIt m := rfl
    conv => whnf
    refine ⟨fun w1 => ?_, fun w1 => ?_⟩
    · replace w1 := ltm w1
      obtain ⟨x, hx⟩ := at_ex w1
      obtain ⟨x0, x2, ⟨x5, y5⟩, x6, y6⟩ := h.hx x (List.mem_of_getElem? hx)
      have hE5 : (x.f5.map enc29).length = x.f5.length := List.length_map _
      have hE6 : (x.f6.map enc29).length = x.f6.length := List.length_map _
      have hs1 : sumW wIt (m.take (i + 1)) = sumW wIt (m.take i) + (hdIt x + sumW wSe x.f5 + sumW wSe x.f6) := sumW_snoc (w := wIt) hx
      have hs2 := sumW_le (w := wIt) m (i + 1)
      conv => whnf
      refine ⟨fun w2 => ?_, fun w2 => ?_⟩
      · replace w2 := of_decide_eq_true w2
        have hn : n = f.length + m.length + sumW wIt (m.take i) := by rcases ha2 with h | ⟨h, _⟩; exact h; omega
        have hw : IntKind.i64.wrap (IntKind.i64.wrap (IntKind.i64.wrap (IntKind.i64.wrap ((n : Int) + ((x.f5.map enc29).length : Nat)) + ((x.f6.map enc29).length : Nat)) + IntKind.i64.wrap ((x.f0.size : Int).tdiv 50)) + IntKind.i64.wrap ((x.f2.size : Int).tdiv 50)) = ((n + hdIt x : Nat) : Int) := by
          rw [hE5, hE6, tdiv50, tdiv50, IntWalk.i64_in ((n : Int) + _) (by omega), IntWalk.i64_in ((x.f0.size / 50 : Nat) : Int) (by omega), IntWalk.i64_in ((x.f2.size / 50 : Nat) : Int) (by omega), IntWalk.i64_in ((n : Int) + (x.f5.length : Int) + _) (by omega), IntWalk.i64_in ((n : Int) + (x.f5.length : Int) + (x.f6.length : Int) + _) (by omega), IntWalk.i64_in _ (by omega)]
          unfold hdIt
          omega
        conv => whnf
        refine ⟨⟨Int.natCast_nonneg _, by omega⟩, ?_⟩
        conv => whnf
        conv => whnf
        refine ⟨_, map_at hx, ?_⟩
        conv => whnf
        conv => whnf
        refine ⟨by omega, ?_⟩
        conv => whnf
        conv => whnf
        refine ⟨by omega, ?_⟩
        conv => whnf
        conv => whnf
        refine .inr (.inr ⟨[1, 3, 4, 5, 6], Nat × Nat, fun a => ([(1, .bptr 80 0), (3, .int .i64 a.1), (4, .int .i64 i), (5, .bptr 336 0), (6, .int .i64 a.2)], [(336, .live (.box (enc47 x))), (80, .live (.box [.row 1 (f.map encT), .row 7 (m.map enc47)]))]), fun a => a.2 ≤ x.f5.length ∧ (a.1 = n + hdIt x + sumW wSe (x.f5.take a.2) ∨ (400 ≤ a.1 ∧ 400 ≤ totM f m)), fun a => x.f5.length - a.2,
          [1, 3, 4, 5], Nat, fun p => ([(1, .bptr 80 0), (3, .int .i64 p), (4, .int .i64 i), (5, .bptr 336 0)], [(336, .live (.box (enc47 x))), (80, .live (.box [.row 1 (f.map encT), .row 7 (m.map enc47)]))]), fun e p => e = 2 ∧ (p = n + hdIt x + sumW wSe x.f5 ∨ (400 ≤ p ∧ 400 ≤ totM f m)), ?_, fun a ha => ?_, fun e p hp => ?_⟩)
        · conv => whnf
          refine ⟨(n + hdIt x, 0), .of ?_, Nat.zero_le _, .inl rfl⟩
          dsimp only
          rw [← hw]
          rfl
        · obtain ⟨p, k⟩ := a
          obtain ⟨hk1, hk2⟩ := ha
          have hk1 : k ≤ x.f5.length := hk1
          replace hk2 : p = n + hdIt x + sumW wSe (x.f5.take k) ∨ (400 ≤ p ∧ 400 ≤ totM f m) := hk2
          have hkl := sumW_le (w := wSe) x.f5 k
          conv => whnf
          refine ⟨fun w3 => ?_, fun w3 => ?_⟩
          · replace w3 := ltm w3
            obtain ⟨s, hs⟩ := at_ex w3
            obtain ⟨s0, s1⟩ := y5 s (List.mem_of_getElem? hs)
            have hss : sumW wSe (x.f5.take (k + 1)) = sumW wSe (x.f5.take k) + (s.f0.length + s.f1.length) := sumW_snoc (w := wSe) hs
            have hsl := sumW_le (w := wSe) x.f5 (k + 1)
            conv => whnf
            refine ⟨fun w4 => ?_, fun w4 => ?_⟩
            · replace w4 := of_decide_eq_true w4
              have w4 : (p : Int) < 400 := w4
              have hv : IntKind.i64.wrap (IntKind.i64.wrap ((p : Int) + ((s.f0.map enc78).length : Nat)) + ((s.f1.map enc93).length : Nat)) = ((p + (s.f0.length + s.f1.length) : Nat) : Int) := by
                rw [List.length_map, List.length_map, IntWalk.i64_in ((p : Int) + _) (by omega), IntWalk.i64_in _ (by omega)]; omega
              conv => whnf
              refine ⟨⟨Int.natCast_nonneg _, by omega⟩, ?_⟩
              conv => whnf
              conv => whnf
              refine ⟨_, map_at hs, ?_⟩
              conv => whnf
              conv => whnf
              refine ⟨⟨Int.natCast_nonneg _, by omega⟩, ?_⟩
              conv => whnf
              conv => whnf
              refine ⟨_, map_at hs, ?_⟩
              conv => whnf
              conv => whnf
              refine ⟨by kernel_rfl, ?_⟩
              conv => whnf
              conv => whnf
              refine ⟨(p + (s.f0.length + s.f1.length), k + 1), .of ?_, ⟨w3, ?_⟩, by show x.f5.length - (k + 1) < x.f5.length - k; omega⟩
              · dsimp only
                rw [hv, up1 w3 (by omega)]
                rfl
              · show p + (s.f0.length + s.f1.length) = n + hdIt x + sumW wSe (x.f5.take (k + 1)) ∨ (400 ≤ p + (s.f0.length + s.f1.length) ∧ 400 ≤ totM f m)
                rcases hk2 with h | h
                · exact .inl (by omega)
                · omega
            · replace w4 := of_decide_eq_false w4
              have w4 : ¬ (p : Int) < 400 := w4
              conv => whnf
              exact ⟨p, .of rfl, rfl, .inr ⟨by omega, by rcases hk2 with h | h <;> omega⟩⟩
          · replace w3 := nltm w3
            conv => whnf
            exact ⟨p, .of rfl, rfl, by rcases hk2 with h | h; exact .inl (by rw [h, sumW_all (k := k) w3]); exact .inr h⟩
        · obtain ⟨rfl, hp⟩ := hp
          conv => whnf
          refine .inr (.inr ⟨[1, 3, 4, 5, 7], Nat × Nat, fun a => ([(1, .bptr 80 0), (3, .int .i64 a.1), (4, .int .i64 i), (5, .bptr 336 0), (7, .int .i64 a.2)], [(336, .live (.box (enc47 x))), (80, .live (.box [.row 1 (f.map encT), .row 7 (m.map enc47)]))]), fun a => a.2 ≤ x.f6.length ∧ (a.1 = n + hdIt x + sumW wSe x.f5 + sumW wSe (x.f6.take a.2) ∨ (400 ≤ a.1 ∧ 400 ≤ totM f m)), fun a => x.f6.length - a.2,
            [1, 3, 4], Nat, fun p => ([(1, .bptr 80 0), (3, .int .i64 p), (4, .int .i64 i)], [(80, .live (.box [.row 1 (f.map encT), .row 7 (m.map enc47)]))]), fun e p => e = 4 ∧ (p = n + hdIt x + sumW wSe x.f5 + sumW wSe x.f6 ∨ (400 ≤ p ∧ 400 ≤ totM f m)), ?_, fun a ha => ?_, fun e p hp => ?_⟩)
          · conv => whnf
            refine ⟨(p, 0), .of rfl, Nat.zero_le _, ?_⟩
            rcases hp with h | h
            · exact .inl (by rw [h]; rfl)
            · exact .inr h
          · obtain ⟨p, k⟩ := a
            obtain ⟨hk1, hk2⟩ := ha
            have hk1 : k ≤ x.f6.length := hk1
            replace hk2 : p = n + hdIt x + sumW wSe x.f5 + sumW wSe (x.f6.take k) ∨ (400 ≤ p ∧ 400 ≤ totM f m) := hk2
            have hkl := sumW_le (w := wSe) x.f6 k
            conv => whnf
            refine ⟨fun w3 => ?_, fun w3 => ?_⟩
            · replace w3 := ltm w3
              obtain ⟨s, hs⟩ := at_ex w3
              obtain ⟨s0, s1⟩ := y6 s (List.mem_of_getElem? hs)
              have hss : sumW wSe (x.f6.take (k + 1)) = sumW wSe (x.f6.take k) + (s.f0.length + s.f1.length) := sumW_snoc (w := wSe) hs
              have hsl := sumW_le (w := wSe) x.f6 (k + 1)
              conv => whnf
              refine ⟨fun w4 => ?_, fun w4 => ?_⟩
              · replace w4 := of_decide_eq_true w4
                have w4 : (p : Int) < 400 := w4
                have hv : IntKind.i64.wrap (IntKind.i64.wrap ((p : Int) + ((s.f0.map enc78).length : Nat)) + ((s.f1.map enc93).length : Nat)) = ((p + (s.f0.length + s.f1.length) : Nat) : Int) := by
                  rw [List.length_map, List.length_map, IntWalk.i64_in ((p : Int) + _) (by omega), IntWalk.i64_in _ (by omega)]; omega
                conv => whnf
                refine ⟨⟨Int.natCast_nonneg _, by omega⟩, ?_⟩
                conv => whnf
                conv => whnf
                refine ⟨_, map_at hs, ?_⟩
                conv => whnf
                conv => whnf
                refine ⟨⟨Int.natCast_nonneg _, by omega⟩, ?_⟩
                conv => whnf
                conv => whnf
                refine ⟨_, map_at hs, ?_⟩
                conv => whnf
                conv => whnf
                refine ⟨by kernel_rfl, ?_⟩
                conv => whnf
                conv => whnf
                refine ⟨(p + (s.f0.length + s.f1.length), k + 1), .of ?_, ⟨w3, ?_⟩, by show x.f6.length - (k + 1) < x.f6.length - k; omega⟩
                · dsimp only
                  rw [hv, up1 w3 (by omega)]
                  rfl
                · show p + (s.f0.length + s.f1.length) = n + hdIt x + sumW wSe x.f5 + sumW wSe (x.f6.take (k + 1)) ∨ (400 ≤ p + (s.f0.length + s.f1.length) ∧ 400 ≤ totM f m)
                  rcases hk2 with h | h
                  · exact .inl (by omega)
                  · omega
              · replace w4 := of_decide_eq_false w4
                have w4 : ¬ (p : Int) < 400 := w4
                conv => whnf
                exact ⟨p, .of rfl, rfl, .inr ⟨by omega, by rcases hk2 with h | h <;> omega⟩⟩
            · replace w3 := nltm w3
              conv => whnf
              exact ⟨p, .of rfl, rfl, by rcases hk2 with h | h; exact .inl (by rw [h, sumW_all (k := k) w3]); exact .inr h⟩
          · obtain ⟨rfl, hp⟩ := hp
            conv => whnf
            refine ⟨(p, i + 1), .of (by rw [up1 w1 (by omega)]), ⟨w1, ?_⟩, by show m.length - (i + 1) < m.length - i; omega⟩
            show p = f.length + m.length + sumW wIt (m.take (i + 1)) ∨ (400 ≤ p ∧ 400 ≤ totM f m)
            rcases hp with h | h
            · exact .inl (by omega)
            · exact .inr h
      · replace w2 := of_decide_eq_false w2
        conv => whnf
        have w2 : ¬ (n : Int) < 400 := w2
        exact .bool (decide_eq_decide.2 (by show (n : Int) ≥ 400 ↔ _; rcases ha2 with h | h <;> omega))
    · replace w1 := nltm w1
      conv => whnf
      exact .bool (decide_eq_decide.2 (by
        have := sumW_all (w := wIt) (k := i) w1
        rcases ha2 with h | h <;> omega))
theorem c29 (f : List ByteArray) (m : List S47) (h : BgM f m) : PCall cx.P 29 [encM f m] (.bool (decide (400 ≤ totM f m))) := pcall Tryz.f29 (by kernel_rfl) (by kernel_rfl) (p29 f m h)
end Go.Ab
namespace Go.Ab
open Go.Proofs Sn
set_option maxRecDepth 100000
set_option maxHeartbeats 4000000
def kR : S47 := ⟨⟨#[112]⟩, 1, ⟨#[]⟩, false, 0, [], []⟩
def kF : List ByteArray := [⟨#[98]⟩, ⟨#[97]⟩]
theorem kOk : Ok kF kR [] := by
  obtain ⟨r, F, e, h⟩ := isB_iff.1 (show isB kF [kR] = true by kernel_rfl)
  cases e
  exact h
theorem kT : turnT ordID nIt kR [] = [] := by
  have h := (kOk.turn_perm isOrd_ID turns_n).length_eq
  simpa using h
theorem kS : sortL cmpS kF = [⟨#[97]⟩, ⟨#[98]⟩] := by kernel_rfl
theorem kIsN : IsN [⟨#[97]⟩, ⟨#[98]⟩] [kR] := by
  have h := kOk.turn isOrd_ID turns_n (sortL_perm (c := cmpS) kF)
  have h2 := kOk.norm_norm
  rw [kT] at h h2
  rw [kS] at h
  exact ⟨kR, [], rfl, h, by kernel_rfl, h2⟩
theorem kRow : Le (.row 7 [[AV.str ⟨#[112]⟩, .int .i64 1, .str ⟨#[]⟩, .lit false, .int .i64 0, .nils, .nils]]) (.row 7 [enc47 kR]) := LeP.row1 rfl fun j x y hx hy => by
  match j with
  | 0 => cases hx; cases hy; exact .refl
  | 1 => cases hx; cases hy; exact .refl
  | 2 => cases hx; cases hy; exact .refl
  | 3 => cases hx; cases hy; exact .lit rfl
  | 4 => cases hx; cases hy; exact .refl
  | 5 => cases hx; cases hy; exact .nils
  | 6 => cases hx; cases hy; exact .nils
  | j + 7 => simp at hx
theorem k36 : PCall cx.P 36 [.agg [.row 1 [[.str ⟨#[98]⟩], [.str ⟨#[97]⟩]], .row 7 [[AV.str ⟨#[112]⟩, .int .i64 1, .str ⟨#[]⟩, .lit false, .int .i64 0, .nils, .nils]]]] (.agg [.row 1 [[.str ⟨#[97]⟩], [.str ⟨#[98]⟩]], .row 7 [enc47 kR]]) := by
  have h := c36 kOk
  rw [kT, kS] at h
  exact h.by1 (.agg2 .refl kRow)
theorem k30 : PCall cx.P 30 [.agg [.row 1 [[.str ⟨#[97]⟩], [.str ⟨#[98]⟩]], .row 7 [enc47 kR]]] (.lit true) := by
  obtain ⟨r, F, e, h, _⟩ := kIsN
  have h' := c30 _ _ h.sz
  rw [← e, bP_iff.2 kIsN] at h'
  exact h'.to (.blit rfl)
theorem c38 : PCall cx.P 38 [] (.lit true) := pcall Tryz.f38 (by kernel_rfl) (by kernel_rfl) <| by
  conv => whnf
  refine ⟨by decide, ?_⟩
  conv => whnf
  conv => whnf
  refine ⟨by decide, ?_⟩
  conv => whnf
  conv => whnf
  refine ⟨_, k36, ?_⟩
  conv => whnf
  conv => whnf
  refine ⟨fun w1 => ?_, fun w1 => ?_⟩
  · replace w1 := of_decide_eq_true w1
    conv => whnf
    refine ⟨⟨Int.natCast_nonneg _, by omega⟩, ?_⟩
    conv => whnf
    conv => whnf
    refine ⟨_, rfl, ?_⟩
    conv => whnf
    conv => whnf
    refine ⟨fun w2 => ?_, fun w2 => ?_⟩
    · replace w2 := seT w2
      conv => whnf
      refine ⟨fun w3 => ?_, fun w3 => ?_⟩
      · replace w3 := of_decide_eq_true w3
        conv => whnf
        refine ⟨_, k30, ?_⟩
        conv => whnf
        conv => whnf
        exact .of rfl
      · cases w3
    · conv => whnf
      rw [(sEq_iff _ _).2 rfl] at w2
      cases w2
  · cases w1
theorem c3 (f : List ByteArray) (m : List S47) (a b : S29) (h : BgM f m) (ha : Bg29 a) (hb : Bg29 b) : PCall cx.P 3 [encM f m, .agg (enc29 a), .agg (enc29 b)] (.lit true) := pcall Tryz.f3 (by kernel_rfl) (by kernel_rfl) <| by
  obtain ⟨ha0, ha1⟩ := ha
  obtain ⟨hb0, hb1⟩ := hb
  have e0 : (a.f0.map enc78).length = a.f0.length := List.length_map _
  have e1 : (a.f1.map enc93).length = a.f1.length := List.length_map _
  have e2 : (b.f0.map enc78).length = b.f0.length := List.length_map _
  have e3 : (b.f1.map enc93).length = b.f1.length := List.length_map _
  have hw : IntKind.i64.wrap (IntKind.i64.wrap (IntKind.i64.wrap ((a.f0.length : Int) + (a.f1.length : Int)) + (b.f0.length : Int)) + (b.f1.length : Int)) = ((a.f0.length + a.f1.length + b.f0.length + b.f1.length : Nat) : Int) := by
    rw [IntWalk.i64_in ((a.f0.length : Int) + _) (by omega), IntWalk.i64_in ((a.f0.length : Int) + (a.f1.length : Int) + _) (by omega), IntWalk.i64_in _ (by omega)]; omega
  have h29 := c29 f m h
  unfold encM at h29 ⊢
  conv => whnf
  refine ⟨_, h29, ?_⟩
  conv => whnf
  conv => whnf
  refine ⟨fun w1 => ?_, fun w1 => ?_⟩
  · replace w1 := of_decide_eq_true w1
    conv => whnf
    exact .of rfl
  · replace w1 := of_decide_eq_false w1
    have hz := SzM.of (f := f) (m := m) (by omega)
    have h30 := c30 f m hz
    have h31 := c31 f m hz
    have h34 := c34 f m hz
    unfold encM at h30 h31 h34
    conv => whnf
    refine ⟨fun w2 => ?_, fun w2 => ?_⟩
    · conv => whnf
      exact .of rfl
    · replace w2 := of_decide_eq_false w2
      rw [e0, e1, e2, e3, hw] at w2
      have sa : Sz29 a := ⟨by omega, by omega⟩
      have sb : Sz29 b := ⟨by omega, by omega⟩
      conv => whnf
      refine ⟨_, h30, ?_⟩
      conv => whnf
      conv => whnf
      refine ⟨_, h31, ?_⟩
      conv => whnf
      conv => whnf
      refine ⟨fun w3 => ?_, fun w3 => ?_⟩
      · simp [IntWalk.i64_in] at w3
      · conv => whnf
        refine ⟨_, c32 a b sa sb, ?_⟩
        conv => whnf
        conv => whnf
        refine ⟨_, c33 a b sa.b0 sa.b1, ?_⟩
        conv => whnf
        conv => whnf
        refine ⟨by kernel_rfl, ?_⟩
        conv => whnf
        conv => whnf
        refine ⟨fun w4 => ?_, fun w4 => ?_⟩
        · simp [IntWalk.i64_in] at w4
        · replace w4 := eq_of_bne w4
          conv => whnf
          refine ⟨_, h34, ?_⟩
          conv => whnf
          conv => whnf
          refine ⟨fun w5 => ?_, fun w5 => ?_⟩
          · conv => whnf
            conv => whnf
            refine ⟨_, c38, ?_⟩
            conv => whnf
            conv => whnf
            refine ⟨by kernel_rfl, ?_⟩
            conv => whnf
            conv => whnf
            exact .of rfl
          · conv => whnf
            obtain ⟨r, F, rfl, ho⟩ := isB_iff.1 (show isB f m = true by simpa using w5)
            have hn := (ho.turn isOrd_ID turns_n (sortL_perm (c := cmpS) f)).sz
            have h36 := c36 ho
            have h37 := c37 ho
            have h35 := (c35 _ _ _ _ hn hn).to (.blit (eqq_y rfl))
            unfold encM at h35 h36 h37
            conv => whnf
            refine ⟨_, h36, ?_⟩
            conv => whnf
            conv => whnf
            refine ⟨_, h37, ?_⟩
            conv => whnf
            conv => whnf
            refine ⟨_, h35, ?_⟩
            conv => whnf
            conv => whnf
            refine ⟨_, c38, ?_⟩
            conv => whnf
            conv => whnf
            refine ⟨by kernel_rfl, ?_⟩
            conv => whnf
            conv => whnf
            exact .of rfl
end Go.Ab
namespace Go.Ab
open Go.Proofs Go.RowKit Go.ChangeShapes
inductive CL (W : World) : List AV → List Value → Prop where
  | nil : CL W [] []
  | cons {a : AV} {v : Value} {xs : List AV} {vs : List Value} (h : v.oneCell' = true) (hp : PR W no v a) (t : CL W xs vs) : CL W (a :: xs) (v :: vs)
theorem CL.len {W : World} {xs : List AV} {vs : List Value} (h : CL W xs vs) : xs.length = vs.length := by
  induction h with
  | nil => rfl
  | cons _ _ _ ih => simp [ih]
theorem CL.get {W : World} {xs : List AV} {vs : List Value} (h : CL W xs vs) : ∀ (j : Nat) (v : Value) (a : AV), vs[j]? = some v → xs[j]? = some a → v.oneCell' = true ∧ PR W no v a := by
  induction h with
  | nil => intro j v a h; simp at h
  | cons h hp t ih =>
    intro j v a h1 h2
    match j with
    | 0 => cases h1; cases h2; exact ⟨h, hp⟩
    | j + 1 => exact ih j v a (by simpa using h1) (by simpa using h2)
def WOk {H : Type} (P : Program) (t : TypeId) (d : DataW H) : Prop := ∀ n ∈ d.weights P t, n ≤ reachBytes
theorem wAll {H : Type} {P : Program} {e : TypeId} : ∀ {l : List (DataW H)}, (∀ n ∈ DataW.weightsAll P e l, n ≤ reachBytes) → ∀ d ∈ l, WOk P e d
  | [], _, d, hd => by cases hd
  | x :: r, h, d, hd => by
    unfold DataW.weightsAll at h
    rcases List.mem_cons.1 hd with rfl | hd
    · exact fun n hn => h n (List.mem_append.2 (.inl hn))
    · exact wAll (fun n hn => h n (List.mem_append.2 (.inr hn))) d hd
theorem wEach {H : Type} {P : Program} : ∀ {ts : List TypeId} {l : List (DataW H)}, (∀ n ∈ DataW.weightsEach P ts l, n ≤ reachBytes) → ∀ (i : Nat) (t : TypeId) (d : DataW H), ts[i]? = some t → l[i]? = some d → WOk P t d
  | [], l, _, i, t, d, ht, hd => by simp at ht
  | t0 :: ts, [], _, i, t, d, ht, hd => by simp at hd
  | t0 :: ts, d0 :: r, h, i, t, d, ht, hd => by
    unfold DataW.weightsEach at h
    match i with
    | 0 => cases ht; cases hd; exact fun n hn => h n (List.mem_append.2 (.inl hn))
    | i + 1 => exact wEach (ts := ts) (l := r) (fun n hn => h n (List.mem_append.2 (.inr hn))) i t d (by simpa using ht) (by simpa using hd)
section
variable {H : Type} {enc : TypeId × Value → H} {P : Program} {W : World} {base : Nat} {spare : Nat → Bool} {held : Bool}
theorem p_string {t : TypeId} (ht : P.underlying t = some .string) {fuel : Nat} {cs : List Value} {x : DataW H × List MemPlace} (h : DataW.trod enc P W base spare held fuel t cs = some x) (hw : WOk P t x.1) : ∃ s : ByteArray, s.size ≤ 140737488355328 ∧ CL W [.str s] cs := by
  cases fuel with
  | zero => simp [DataW.trod] at h
  | succ n =>
    unfold DataW.trod at h
    rw [ht] at h
    split at h <;> simp_all
    rename_i s
    obtain ⟨_, rfl⟩ := h
    refine ⟨s, ?_, .cons rfl (.str s) .nil⟩
    have := hw s.data.toList.length (by simp [DataW.weights])
    simp at this
    unfold reachBytes at this
    omega
theorem p_bool {t : TypeId} (ht : P.underlying t = some .bool) {fuel : Nat} {cs : List Value} {x : DataW H × List MemPlace} (h : DataW.trod enc P W base spare held fuel t cs = some x) : ∃ s : Bool, CL W [.bool s] cs := by
  have : ∃ s, cs = [.bool s] := by
    cases fuel with
    | zero => simp [DataW.trod] at h
    | succ n =>
      unfold DataW.trod at h
      rw [ht] at h
      split at h <;> simp_all
  obtain ⟨s, rfl⟩ := this
  exact ⟨s, .cons rfl (.bool s) .nil⟩
theorem p_int {t : TypeId} {k : IntKind} (ht : P.underlying t = some (.int k)) {fuel : Nat} {cs : List Value} {x : DataW H × List MemPlace} (h : DataW.trod enc P W base spare held fuel t cs = some x) : ∃ s : Int, CL W [.int k s] cs := by
  cases fuel with
  | zero => simp [DataW.trod] at h
  | succ n =>
    unfold DataW.trod at h
    rw [ht] at h
    split at h <;> simp_all
    exact ⟨_, .cons rfl (.int _ _) .nil⟩
theorem cells_get {a : Addr} {n : Nat} {cs : List Value} (h : W.cells? base a n = some cs) : cs.length = n ∧ ∀ i u, cs[i]? = some u → W.cell? (a.add i) = some u := by
  unfold World.cells? at h
  split at h
  · have hl := mapM_some_length h
    rw [List.length_range] at hl
    refine ⟨hl, fun i u hu => ?_⟩
    have hi : i < n := by rw [← hl]; exact (List.getElem?_eq_some_iff.1 hu).1
    rw [← hu]
    exact mapM_some_get h i i (by rw [List.getElem?_range hi])
  · cases h
theorem cell_lt {a : Addr} {v : Value} (h : W.cell? a = some v) : a.block < W.heap.size ∧ a.spot = none := by
  unfold World.cell? at h
  split at h
  · rename_i c _ _ hb
    refine ⟨(Array.getElem?_eq_some_iff.1 hb).1, ?_⟩
    cases hs : a.spot with
    | none => rfl
    | some x => rw [hs] at h; simp at h
  · cases h
theorem p_row {α : Type} {en : α → List AV} {Q : α → Prop} (z : α) {t e : TypeId} {s : Nat} (hs0 : 0 < s) (hen : ∀ y, (en y).length = s) (ht : P.underlying t = some (.slice e)) (hc : P.cellsOf e = s) (hb1 : 0 < P.bytesOf e) (hop : ∀ fuel cs (x : DataW H × List MemPlace), DataW.trod enc P W base spare held fuel e cs = some x → WOk P e x.1 → ∃ y, Q y ∧ CL W (en y) cs)
    {fuel : Nat} {cs : List Value} {x : DataW H × List MemPlace} (h : DataW.trod enc P W base spare held fuel t cs = some x) (hw : WOk P t x.1) : ∃ xs : List α, xs.length ≤ 140737488355328 ∧ (∀ y ∈ xs, Q y) ∧ CL W [.row s (xs.map en)] cs := by
  rcases DataW.trod_slice ht h with ⟨rfl, _⟩ | ⟨a, len, cap, elems, rest, n, _, rfl, rfl, hb, hl, hm, hlen, hel, _, _⟩
  · exact ⟨[], Nat.zero_le _, fun _ h => (by cases h), .cons rfl (.row0 none 0 s) .nil⟩
  · have hw0 : ∀ n ∈ ((elems.map (·.1)).length + (rest.map (·.1)).length) * P.bytesOf e :: (DataW.weightsAll P e (elems.map (·.1)) ++ DataW.weightsAll P e (rest.map (·.1))), n ≤ reachBytes := by
      have := hw
      unfold WOk DataW.weights at this
      simp only [ht] at this
      exact this
    have hlen47 : len ≤ 140737488355328 := by
      have h1 := hw0 _ (List.mem_cons_self ..)
      rw [List.length_map, List.length_map, hlen] at h1
      have h2 : len ≤ (len + rest.length) * P.bytesOf e := Nat.le_trans (Nat.le_add_right _ _) (Nat.le_mul_of_pos_right _ hb1)
      unfold reachBytes at h1
      omega
    have hwe : ∀ d ∈ elems.map (·.1), WOk P e d := wAll fun n hn => hw0 n (List.mem_cons_of_mem _ (List.mem_append.2 (.inl hn)))
    have h1 : ∀ i : Nat, ∃ yc : α × List Value, i < len → Q yc.1 ∧ CL W (en yc.1) yc.2 ∧ ∀ j u, yc.2[j]? = some u → W.cell? (a.add (i * s + j)) = some u := by
      intro i
      by_cases hi : i < len
      · have h2 := hel i hi
        rw [List.getElem?_eq_getElem (by rw [hlen]; exact hi)] at h2
        obtain ⟨c, hc1, hc2⟩ := Option.bind_eq_some_iff.1 h2
        obtain ⟨y, hq, hy⟩ := hop _ _ _ hc2 (hwe _ (List.mem_map.2 ⟨_, List.getElem_mem (by rw [hlen]; exact hi), rfl⟩))
        obtain ⟨hcl, hcg⟩ := cells_get hc1
        refine ⟨(y, c), fun _ => ⟨hq, hy, fun j u hu => ?_⟩⟩
        have h3 := hcg j u hu
        rw [Addr.add_add, hc] at h3
        exact h3
      · exact ⟨(z, []), fun h => absurd h hi⟩
    obtain ⟨g, hg⟩ := Classical.skolem.1 h1
    have hl2 : ((List.range len).map fun i => (g i).1).length = len := by simp
    refine ⟨(List.range len).map fun i => (g i).1, by rw [hl2]; exact hlen47, fun y hy => ?_, .cons rfl ?_ .nil⟩
    · obtain ⟨i, hi, rfl⟩ := List.mem_map.1 hy
      exact (hg i (List.mem_range.1 hi)).1
    · by_cases h0 : len = 0
      · subst h0
        exact .row0 (some a) cap s
      · have hcell : ∀ i j (hi : i < len) (hj : j < s), ∃ v, (g i).2[j]? = some v ∧ W.cell? (a.add (i * s + j)) = some v := fun i j hi hj => by
          obtain ⟨_, hcl, hcg⟩ := hg i hi
          have hjl : j < (g i).2.length := by rw [← hcl.len, hen]; exact hj
          exact ⟨(g i).2[j], List.getElem?_eq_getElem hjl, hcg j _ (List.getElem?_eq_getElem hjl)⟩
        obtain ⟨v0, _, hv0⟩ := hcell 0 0 (by omega) hs0
        rw [Nat.zero_mul, show a.add (0 + 0) = a from by cases a; rfl] at hv0
        obtain ⟨hblt, hsp⟩ := cell_lt hv0
        have ha : a = ⟨a.block, a.off, none⟩ := by
          cases a with
          | mk b o sp => cases hsp; rfl
        have hel2 : ∀ (i : Nat) (e : List AV), (((List.range len).map fun i => (g i).1).map en)[i]? = some e → i < len ∧ e = en (g i).1 := fun i e he => by
          rw [List.map_map, List.getElem?_map] at he
          obtain ⟨q, hq, rfl⟩ := Option.map_eq_some_iff.1 he
          have := List.getElem?_eq_some_iff.1 hq
          obtain ⟨h1, h2⟩ := this
          rw [List.getElem_range] at h2
          subst h2
          exact ⟨by simpa using h1, rfl⟩
        have hll : (((List.range len).map fun i => (g i).1).map en).length = len := by simp
        have key := PR.row (w := W) (X := no) a.block a.off cap s (((List.range len).map fun i => (g i).1).map en) (fun i j => (g i).2.getD j undef) (fun h => h) hblt (by rw [hll]; exact hl) (fun i e he => by rw [(hel2 i e he).2]; exact hen _)
          (fun i j e y he hy => by
            obtain ⟨hi, rfl⟩ := hel2 i e he
            have hj : j < s := by rw [← hen (g i).1]; exact (List.getElem?_eq_some_iff.1 hy).1
            obtain ⟨v, k1, k2⟩ := hcell i j hi hj
            have k3 : (g i).2.getD j undef = v := by rw [List.getD_eq_getElem?_getD, k1]; rfl
            rw [k3]
            refine ⟨?_, ((hg i hi).2.1.get j v y k1 hy).1⟩
            rw [ha, show ∀ n, Addr.add ⟨a.block, a.off, none⟩ n = ⟨a.block, a.off + n, none⟩ from fun n => by unfold Addr.add; split <;> (try rfl); rename_i h0; rw [h0]; rfl] at k2
            exact k2)
          (fun i j e y he hy => by
            obtain ⟨hi, rfl⟩ := hel2 i e he
            have hj : j < s := by rw [← hen (g i).1]; exact (List.getElem?_eq_some_iff.1 hy).1
            obtain ⟨v, k1, k2⟩ := hcell i j hi hj
            have k3 : (g i).2.getD j undef = v := by rw [List.getD_eq_getElem?_getD, k1]; rfl
            rw [k3]
            exact ((hg i hi).2.1.get j v y k1 hy).2)
        rw [hll] at key
        rw [ha]
        exact key
theorem CL.app {W : World} {xs ys : List AV} {vs us : List Value} (h : CL W xs vs) (h' : CL W ys us) : CL W (xs ++ ys) (vs ++ us) := by
  induction h with
  | nil => exact h'
  | cons a b _ ih => exact .cons a b ih
theorem p_struct {t : TypeId} {fs : Array Field} (ht : P.underlying t = some (.struct fs)) {fuel : Nat} {cs : List Value} {x : DataW H × List MemPlace} (h : DataW.trod enc P W base spare held fuel t cs = some x) (hw : WOk P t x.1) :
    ∃ n, cs.length = P.cellsOf t ∧ ∀ (i : Nat) (f : Field), fs[i]? = some f → ∃ x, DataW.trod enc P W base spare held n f.type ((cs.drop f.offset).take (P.cellsOf f.type)) = some x ∧ WOk P f.type x.1 := by
  obtain ⟨xs, n, _, rfl, hl, hxl, hf⟩ := DataW.trod_struct ht h
  refine ⟨n, hl, fun i f hi => ?_⟩
  have hil : i < xs.length := by rw [hxl]; exact (Array.getElem?_eq_some_iff.1 hi).1
  have h1 := hf i f hi
  rw [List.getElem?_eq_getElem hil] at h1
  refine ⟨_, h1, ?_⟩
  have hw0 : ∀ n ∈ DataW.weightsEach P (fs.toList.map (·.type)) (xs.map (·.1)), n ≤ reachBytes := by
    have := hw
    unfold WOk DataW.weights at this
    simp only [ht] at this
    exact this
  exact wEach hw0 i f.type _ (by rw [List.getElem?_map, Array.getElem?_toList, hi]; rfl) (by rw [List.getElem?_map, List.getElem?_eq_getElem hil]; rfl)
def Bg47 (x : S47) : Prop := x.f0.size ≤ 140737488355328 ∧ x.f2.size ≤ 140737488355328 ∧ (x.f5.length ≤ 140737488355328 ∧ ∀ s ∈ x.f5, Bg29 s) ∧ (x.f6.length ≤ 140737488355328 ∧ ∀ s ∈ x.f6, Bg29 s)
theorem ls2 {α : Type} {l : List α} (h : l.length = 2) : ∃ u0 u1, l = [u0, u1] := by
  match l, h with
  | [u0, u1], _ => exact ⟨u0, u1, rfl⟩
theorem ls3 {α : Type} {l : List α} (h : l.length = 3) : ∃ u0 u1 u2, l = [u0, u1, u2] := by
  match l, h with
  | [u0, u1, u2], _ => exact ⟨u0, u1, u2, rfl⟩
theorem ls7 {α : Type} {l : List α} (h : l.length = 7) : ∃ u0 u1 u2 u3 u4 u5 u6, l = [u0, u1, u2, u3, u4, u5, u6] := by
  match l, h with
  | [u0, u1, u2, u3, u4, u5, u6], _ => exact ⟨u0, u1, u2, u3, u4, u5, u6, rfl⟩
theorem p_78 {fuel : Nat} {cs : List Value} {x : DataW H × List MemPlace} (h : DataW.trod enc Tryz.prog W base spare held fuel 78 cs = some x) (hw : WOk Tryz.prog 78 x.1) : ∃ y : S78, (fun _ => True) y ∧ CL W (enc78 y) cs := by
  obtain ⟨n, hl, hf⟩ := p_struct Tryz.underlying78 h hw
  have hl : cs.length = 2 := hl.trans (by kernel_rfl)
  have c3 : Tryz.prog.cellsOf 3 = 1 := by kernel_rfl
  have c9 : Tryz.prog.cellsOf 9 = 1 := by kernel_rfl
  obtain ⟨u0, u1, rfl⟩ := ls2 hl
  obtain ⟨x0, h0, w0⟩ := hf 0 _ rfl
  replace h0 : DataW.trod enc Tryz.prog W base spare held n 9 [u0] = some x0 := (congrArg (DataW.trod enc Tryz.prog W base spare held n 9) (show [u0] = List.take (Tryz.prog.cellsOf 9) (List.drop 0 [u0, u1]) by rw [c9]; rfl)).trans h0
  obtain ⟨s0, b0, g0⟩ := p_string Tryz.underlying9 h0 w0
  obtain ⟨x1, h1, w1⟩ := hf 1 _ rfl
  replace h1 : DataW.trod enc Tryz.prog W base spare held n 3 [u1] = some x1 := (congrArg (DataW.trod enc Tryz.prog W base spare held n 3) (show [u1] = List.take (Tryz.prog.cellsOf 3) (List.drop 1 [u0, u1]) by rw [c3]; rfl)).trans h1
  obtain ⟨s1, g1⟩ := p_int Tryz.underlying3 h1
  exact ⟨⟨s0, s1⟩, trivial, (g0.app g1)⟩
theorem p_93 {fuel : Nat} {cs : List Value} {x : DataW H × List MemPlace} (h : DataW.trod enc Tryz.prog W base spare held fuel 93 cs = some x) (hw : WOk Tryz.prog 93 x.1) : ∃ y : S93, (fun _ => True) y ∧ CL W (enc93 y) cs := by
  obtain ⟨n, hl, hf⟩ := p_struct Tryz.underlying93 h hw
  have hl : cs.length = 3 := hl.trans (by kernel_rfl)
  have c3 : Tryz.prog.cellsOf 3 = 1 := by kernel_rfl
  have c9 : Tryz.prog.cellsOf 9 = 1 := by kernel_rfl
  obtain ⟨u0, u1, u2, rfl⟩ := ls3 hl
  obtain ⟨x0, h0, w0⟩ := hf 0 _ rfl
  replace h0 : DataW.trod enc Tryz.prog W base spare held n 9 [u0] = some x0 := (congrArg (DataW.trod enc Tryz.prog W base spare held n 9) (show [u0] = List.take (Tryz.prog.cellsOf 9) (List.drop 0 [u0, u1, u2]) by rw [c9]; rfl)).trans h0
  obtain ⟨s0, b0, g0⟩ := p_string Tryz.underlying9 h0 w0
  obtain ⟨x1, h1, w1⟩ := hf 1 _ rfl
  replace h1 : DataW.trod enc Tryz.prog W base spare held n 9 [u1] = some x1 := (congrArg (DataW.trod enc Tryz.prog W base spare held n 9) (show [u1] = List.take (Tryz.prog.cellsOf 9) (List.drop 1 [u0, u1, u2]) by rw [c9]; rfl)).trans h1
  obtain ⟨s1, b1, g1⟩ := p_string Tryz.underlying9 h1 w1
  obtain ⟨x2, h2, w2⟩ := hf 2 _ rfl
  replace h2 : DataW.trod enc Tryz.prog W base spare held n 3 [u2] = some x2 := (congrArg (DataW.trod enc Tryz.prog W base spare held n 3) (show [u2] = List.take (Tryz.prog.cellsOf 3) (List.drop 2 [u0, u1, u2]) by rw [c3]; rfl)).trans h2
  obtain ⟨s2, g2⟩ := p_int Tryz.underlying3 h2
  exact ⟨⟨s0, s1, s2⟩, trivial, (g0.app (g1.app g2))⟩
theorem p_29 {fuel : Nat} {cs : List Value} {x : DataW H × List MemPlace} (h : DataW.trod enc Tryz.prog W base spare held fuel 29 cs = some x) (hw : WOk Tryz.prog 29 x.1) : ∃ y : S29, (Bg29) y ∧ CL W (enc29 y) cs := by
  obtain ⟨n, hl, hf⟩ := p_struct Tryz.underlying29 h hw
  have hl : cs.length = 2 := hl.trans (by kernel_rfl)
  have c26 : Tryz.prog.cellsOf 26 = 1 := by kernel_rfl
  have c27 : Tryz.prog.cellsOf 27 = 1 := by kernel_rfl
  obtain ⟨u0, u1, rfl⟩ := ls2 hl
  obtain ⟨x0, h0, w0⟩ := hf 0 _ rfl
  replace h0 : DataW.trod enc Tryz.prog W base spare held n 26 [u0] = some x0 := (congrArg (DataW.trod enc Tryz.prog W base spare held n 26) (show [u0] = List.take (Tryz.prog.cellsOf 26) (List.drop 0 [u0, u1]) by rw [c26]; rfl)).trans h0
  obtain ⟨s0, b0, q0, g0⟩ := p_row (en := enc78) (Q := fun _ => True) (s := 2) ⟨ByteArray.empty, 0⟩ (by decide) (fun _ => rfl) Tryz.underlying26 (by kernel_rfl) (of_decide_eq_true (by kernel_rfl)) (fun _ _ _ h hw => p_78 h hw) h0 w0
  obtain ⟨x1, h1, w1⟩ := hf 1 _ rfl
  replace h1 : DataW.trod enc Tryz.prog W base spare held n 27 [u1] = some x1 := (congrArg (DataW.trod enc Tryz.prog W base spare held n 27) (show [u1] = List.take (Tryz.prog.cellsOf 27) (List.drop 1 [u0, u1]) by rw [c27]; rfl)).trans h1
  obtain ⟨s1, b1, q1, g1⟩ := p_row (en := enc93) (Q := fun _ => True) (s := 3) ⟨ByteArray.empty, ByteArray.empty, 0⟩ (by decide) (fun _ => rfl) Tryz.underlying27 (by kernel_rfl) (of_decide_eq_true (by kernel_rfl)) (fun _ _ _ h hw => p_93 h hw) h1 w1
  exact ⟨⟨s0, s1⟩, ⟨b0, b1⟩, (g0.app g1)⟩
theorem p_47 {fuel : Nat} {cs : List Value} {x : DataW H × List MemPlace} (h : DataW.trod enc Tryz.prog W base spare held fuel 47 cs = some x) (hw : WOk Tryz.prog 47 x.1) : ∃ y : S47, (Bg47) y ∧ CL W (enc47 y) cs := by
  obtain ⟨n, hl, hf⟩ := p_struct Tryz.underlying47 h hw
  have hl : cs.length = 7 := hl.trans (by kernel_rfl)
  have c3 : Tryz.prog.cellsOf 3 = 1 := by kernel_rfl
  have c4 : Tryz.prog.cellsOf 4 = 1 := by kernel_rfl
  have c9 : Tryz.prog.cellsOf 9 = 1 := by kernel_rfl
  have c45 : Tryz.prog.cellsOf 45 = 1 := by kernel_rfl
  obtain ⟨u0, u1, u2, u3, u4, u5, u6, rfl⟩ := ls7 hl
  obtain ⟨x0, h0, w0⟩ := hf 0 _ rfl
  replace h0 : DataW.trod enc Tryz.prog W base spare held n 9 [u0] = some x0 := (congrArg (DataW.trod enc Tryz.prog W base spare held n 9) (show [u0] = List.take (Tryz.prog.cellsOf 9) (List.drop 0 [u0, u1, u2, u3, u4, u5, u6]) by rw [c9]; rfl)).trans h0
  obtain ⟨s0, b0, g0⟩ := p_string Tryz.underlying9 h0 w0
  obtain ⟨x1, h1, w1⟩ := hf 1 _ rfl
  replace h1 : DataW.trod enc Tryz.prog W base spare held n 3 [u1] = some x1 := (congrArg (DataW.trod enc Tryz.prog W base spare held n 3) (show [u1] = List.take (Tryz.prog.cellsOf 3) (List.drop 1 [u0, u1, u2, u3, u4, u5, u6]) by rw [c3]; rfl)).trans h1
  obtain ⟨s1, g1⟩ := p_int Tryz.underlying3 h1
  obtain ⟨x2, h2, w2⟩ := hf 2 _ rfl
  replace h2 : DataW.trod enc Tryz.prog W base spare held n 9 [u2] = some x2 := (congrArg (DataW.trod enc Tryz.prog W base spare held n 9) (show [u2] = List.take (Tryz.prog.cellsOf 9) (List.drop 2 [u0, u1, u2, u3, u4, u5, u6]) by rw [c9]; rfl)).trans h2
  obtain ⟨s2, b2, g2⟩ := p_string Tryz.underlying9 h2 w2
  obtain ⟨x3, h3, w3⟩ := hf 3 _ rfl
  replace h3 : DataW.trod enc Tryz.prog W base spare held n 4 [u3] = some x3 := (congrArg (DataW.trod enc Tryz.prog W base spare held n 4) (show [u3] = List.take (Tryz.prog.cellsOf 4) (List.drop 3 [u0, u1, u2, u3, u4, u5, u6]) by rw [c4]; rfl)).trans h3
  obtain ⟨s3, g3⟩ := p_bool Tryz.underlying4 h3
  obtain ⟨x4, h4, w4⟩ := hf 4 _ rfl
  replace h4 : DataW.trod enc Tryz.prog W base spare held n 3 [u4] = some x4 := (congrArg (DataW.trod enc Tryz.prog W base spare held n 3) (show [u4] = List.take (Tryz.prog.cellsOf 3) (List.drop 4 [u0, u1, u2, u3, u4, u5, u6]) by rw [c3]; rfl)).trans h4
  obtain ⟨s4, g4⟩ := p_int Tryz.underlying3 h4
  obtain ⟨x5, h5, w5⟩ := hf 5 _ rfl
  replace h5 : DataW.trod enc Tryz.prog W base spare held n 45 [u5] = some x5 := (congrArg (DataW.trod enc Tryz.prog W base spare held n 45) (show [u5] = List.take (Tryz.prog.cellsOf 45) (List.drop 5 [u0, u1, u2, u3, u4, u5, u6]) by rw [c45]; rfl)).trans h5
  obtain ⟨s5, b5, q5, g5⟩ := p_row (en := enc29) (Q := Bg29) (s := 2) ⟨[], []⟩ (by decide) (fun _ => rfl) Tryz.underlying45 (by kernel_rfl) (of_decide_eq_true (by kernel_rfl)) (fun _ _ _ h hw => p_29 h hw) h5 w5
  obtain ⟨x6, h6, w6⟩ := hf 6 _ rfl
  replace h6 : DataW.trod enc Tryz.prog W base spare held n 45 [u6] = some x6 := (congrArg (DataW.trod enc Tryz.prog W base spare held n 45) (show [u6] = List.take (Tryz.prog.cellsOf 45) (List.drop 6 [u0, u1, u2, u3, u4, u5, u6]) by rw [c45]; rfl)).trans h6
  obtain ⟨s6, b6, q6, g6⟩ := p_row (en := enc29) (Q := Bg29) (s := 2) ⟨[], []⟩ (by decide) (fun _ => rfl) Tryz.underlying45 (by kernel_rfl) (of_decide_eq_true (by kernel_rfl)) (fun _ _ _ h hw => p_29 h hw) h6 w6
  exact ⟨⟨s0, s1, s2, s3, s4, s5, s6⟩, ⟨b0, b2, ⟨b5, q5⟩, ⟨b6, q6⟩⟩, (g0.app (g1.app (g2.app (g3.app (g4.app (g5.app g6))))))⟩
theorem agg_of {v : Value} (h : v.cells.toList.length = 2) : ∃ vs, v = .agg vs := by
  cases v <;> first | exact ⟨_, rfl⟩ | exact absurd (show (1 : Nat) = 2 from h) (by decide)
theorem arg29 {v : Value} {d : DataW H} {p : List MemPlace} (h : DataW.Trod enc Tryz.prog W base spare held 29 v d p) (hw : WOk Tryz.prog 29 d) : ∃ y : S29, Bg29 y ∧ VR W no ι0 v (.agg (enc29 y)) := by
  obtain ⟨fuel, h⟩ := h
  obtain ⟨y, hq, hy⟩ := p_29 h hw
  refine ⟨y, hq, ?_⟩
  obtain ⟨vs, rfl⟩ := agg_of hy.len.symm
  exact .agg _ _ hy.len.symm fun j v x h1 h2 => .pure _ _ (hy.get j v x (by simpa [Value.cells] using h1) h2).2
theorem arg25 {v : Value} {d : DataW H} {p : List MemPlace} (h : DataW.Trod enc Tryz.prog W base spare held 25 v d p) (hw : WOk Tryz.prog 25 d) : ∃ (f : List ByteArray) (m : List S47), BgM f m ∧ VR W no ι0 v (encM f m) := by
  obtain ⟨fuel, h⟩ := h
  obtain ⟨n, hl, hf⟩ := p_struct Tryz.underlying25 h hw
  have hl : v.cells.toList.length = 2 := hl.trans (by kernel_rfl)
  obtain ⟨vs, rfl⟩ := agg_of hl
  have c22 : Tryz.prog.cellsOf 22 = 1 := by kernel_rfl
  have c23 : Tryz.prog.cellsOf 23 = 1 := by kernel_rfl
  obtain ⟨u0, u1, hu⟩ := ls2 hl
  obtain ⟨x0, h0, w0⟩ := hf 0 _ rfl
  obtain ⟨x1, h1, w1⟩ := hf 1 _ rfl
  replace h0 : DataW.trod enc Tryz.prog W base spare held n 22 [u0] = some x0 := (congrArg (DataW.trod enc Tryz.prog W base spare held n 22) (show [u0] = List.take (Tryz.prog.cellsOf 22) (List.drop 0 (Value.cells (.agg vs)).toList) by rw [c22, hu]; rfl)).trans h0
  replace h1 : DataW.trod enc Tryz.prog W base spare held n 23 [u1] = some x1 := (congrArg (DataW.trod enc Tryz.prog W base spare held n 23) (show [u1] = List.take (Tryz.prog.cellsOf 23) (List.drop 1 (Value.cells (.agg vs)).toList) by rw [c23, hu]; rfl)).trans h1
  obtain ⟨s0, b0, q0, g0⟩ := p_row (en := encT) (Q := fun _ => True) (s := 1) ByteArray.empty (by decide) (fun _ => rfl) Tryz.underlying22 (by kernel_rfl) (of_decide_eq_true (by kernel_rfl)) (fun _ _ _ h hw => by obtain ⟨s, _, g⟩ := p_string Tryz.underlying9 h hw; exact ⟨s, trivial, g⟩) h0 w0
  obtain ⟨s1, b1, q1, g1⟩ := p_row (en := enc47) (Q := Bg47) (s := 7) ⟨ByteArray.empty, 0, ByteArray.empty, false, 0, [], []⟩ (by decide) (fun _ => rfl) Tryz.underlying23 (by kernel_rfl) (of_decide_eq_true (by kernel_rfl)) (fun _ _ _ h hw => p_47 h hw) h1 w1
  have hy := g0.app g1
  have hu2 : vs.toList = [u0] ++ [u1] := hu
  exact ⟨s0, s1, ⟨b0, b1, q1⟩, .agg _ _ (by rw [← Array.length_toList, hu2]; rfl) fun j v x h1 h2 => .pure _ _ (hy.get j v x (by rw [← hu2]; simpa using h1) h2).2⟩
theorem vr_true {ι : Nat → LS} {w : World} {X : Nat → Prop} {v : Value} {b : Bool} (h : VR w X ι v (.lit b)) : v = .bool b := by
  cases h with
  | pure _ _ h => cases h; rfl
theorem Adv.below {w w' : World} (h : Adv no w no w') : Below w.heap.size w w' := ⟨h.os, h.tape, h.output, h.size, fun k hk => (h.block k hk fun h => h).1⟩
end
end Go.Ab
namespace Go.Proofs.YtpbembafpnknhaaGreat
def space : Char := Char.ofNat 32
def joinW : List (List Char) → List Char
  | [] => []
  | [w] => w
  | w :: v :: ws => w ++ space :: joinW (v :: ws)
theorem words_cons {c : Char} {r : List Char} (h : c ≠ space) : wordsSigns (c :: r) = (match wordsSigns r with | w :: ws => (c :: w) :: ws | [] => [[c]]) := by
  conv => lhs; unfold wordsSigns
  split
  · rename_i e; cases e
  · rename_i e; injection e with e _; exact absurd e h
  · rename_i e; injection e with e1 e2; subst e1; subst e2; rfl
theorem words_one : ∀ w : List Char, (w.all (· != space)) = true → wordsSigns w = [w]
  | [], _ => rfl
  | c :: r, h => by
    rw [List.all_cons, Bool.and_eq_true, bne_iff_ne] at h
    rw [words_cons h.1, words_one r h.2]
theorem words_app : ∀ (w r : List Char), (w.all (· != space)) = true → wordsSigns (w ++ space :: r) = w :: wordsSigns r
  | [], r, _ => rfl
  | c :: v, r, h => by
    rw [List.all_cons, Bool.and_eq_true, bne_iff_ne] at h
    rw [List.cons_append, words_cons h.1, words_app v r h.2]
theorem words_join : ∀ ws : List (List Char), ws ≠ [] → (ws.all fun w => w.all (· != space)) = true → wordsSigns (joinW ws) = ws
  | [], h, _ => absurd rfl h
  | [w], _, h => by
    rw [List.all_cons, Bool.and_eq_true] at h
    exact words_one w h.1
  | w :: v :: ws, _, h => by
    rw [List.all_cons, Bool.and_eq_true] at h
    show wordsSigns (w ++ space :: joinW (v :: ws)) = _
    rw [words_app _ _ h.1, words_join (v :: ws) (by simp) h.2]
def initW : List (List Nat) := [[104, 97, 114, 110, 101, 115, 115], [52, 49, 52, 57, 56, 98, 55, 101, 50, 54, 98, 53, 54, 55, 55, 51, 54, 51, 98, 49, 57, 51, 98, 50, 102, 54, 101, 97, 49, 54, 48, 53, 100, 50, 49, 97, 54, 97, 97, 100, 100, 55, 50, 57, 55, 52, 53, 48, 52, 97, 57, 55, 56, 101, 48, 57, 98, 98, 98, 97, 97, 101, 98, 101], [99, 117, 116], [97, 116], [115, 101, 110, 116, 114, 121, 47, 115, 101, 110, 116, 114, 121, 108, 97, 119, 55, 46, 78, 111, 114, 109, 84, 101, 108, 108, 115], [115, 101, 110, 116, 114, 121, 47, 115, 101, 110, 116, 114, 121, 108, 97, 119, 55, 46, 78, 111, 114, 109, 79, 110, 99, 101], [115, 101, 110, 116, 114, 121, 47, 115, 101, 110, 116, 114, 121, 108, 97, 119, 55, 46, 78, 111, 114, 109, 79, 114, 100, 101, 114, 115], [115, 101, 110, 116, 114, 121, 47, 115, 101, 110, 116, 114, 121, 108, 97, 119, 55, 46, 78, 111, 114, 109, 82, 117, 110, 115], [115, 101, 110, 116, 114, 121, 47, 115, 101, 110, 116, 114, 121, 108, 97, 119, 55, 46, 78, 111, 114, 109, 84, 117, 114, 110, 115], [115, 101, 110, 116, 114, 121, 47, 115, 101, 110, 116, 114, 121, 108, 97, 119, 55, 46, 78, 111, 114, 109, 79, 119, 110], [115, 101, 110, 116, 114, 121, 47, 115, 101, 110, 116, 114, 121, 108, 97, 119, 55, 46, 78, 111, 114, 109, 83, 97, 109, 101], [115, 101, 110, 116, 114, 121, 47, 115, 101, 110, 116, 114, 121, 108, 97, 119, 55, 46, 78, 111, 114, 109, 84, 119, 105, 99, 101], [115, 101, 110, 116, 114, 121, 47, 115, 101, 110, 116, 114, 121, 108, 97, 119, 55, 46, 78, 111, 114, 109, 73, 68, 115], [115, 101, 110, 116, 114, 121, 47, 115, 101, 110, 116, 114, 121, 108, 97, 119, 49, 51, 46, 68, 105, 102, 102, 84, 101, 108, 108, 115], [115, 101, 110, 116, 114, 121, 47, 115, 101, 110, 116, 114, 121, 108, 97, 119, 49, 51, 46, 68, 105, 102, 102, 79, 110, 101], [115, 101, 110, 116, 114, 121, 47, 115, 101, 110, 116, 114, 121, 108, 97, 119, 49, 52, 46, 77, 101, 114, 103, 101, 84, 101, 108, 108, 115], [115, 101, 110, 116, 114, 121, 47, 115, 101, 110, 116, 114, 121, 108, 97, 119, 49, 52, 46, 77, 101, 114, 103, 101, 65, 108, 111, 110, 101], [115, 101, 110, 116, 114, 121, 47, 115, 101, 110, 116, 114, 121, 108, 97, 119, 49, 52, 46, 77, 101, 114, 103, 101, 84, 117, 114, 110, 101, 100], [115, 101, 110, 116, 114, 121, 47, 115, 101, 110, 116, 114, 121, 108, 97, 119, 49, 52, 46, 77, 101, 114, 103, 101, 69, 105, 116, 104, 101, 114], [115, 101, 110, 116, 114, 121, 47, 115, 101, 110, 116, 114, 121, 108, 97, 119, 49, 52, 46, 77, 101, 114, 103, 101, 83, 105, 100, 101, 115], [115, 101, 110, 116, 114, 121, 47, 115, 101, 110, 116, 114, 121, 108, 97, 119, 49, 52, 46, 77, 101, 114, 103, 101, 67, 108, 97, 115, 104], [115, 101, 110, 116, 114, 121, 47, 115, 101, 110, 116, 114, 121, 108, 97, 119, 49, 52, 46, 77, 101, 114, 103, 101, 65, 112, 97, 114, 116], [115, 101, 110, 116, 114, 121, 47, 115, 101, 110, 116, 114, 121, 108, 97, 119, 49, 52, 46, 77, 101, 114, 103, 101, 66, 121], [115, 101, 110, 116, 114, 121, 47, 115, 101, 110, 116, 114, 121, 108, 97, 119, 49, 52, 46, 77, 101, 114, 103, 101, 79, 114, 100, 101, 114], [115, 101, 110, 116, 114, 121, 47, 115, 101, 110, 116, 114, 121, 108, 97, 119, 49, 51, 46, 68, 105, 102, 102, 66, 97, 99, 107], [115, 101, 110, 116, 114, 121, 47, 115, 101, 110, 116, 114, 121, 108, 97, 119, 49, 51, 46, 68, 105, 102, 102, 83, 101, 108, 102], [115, 101, 110, 116, 114, 121, 47, 115, 101, 110, 116, 114, 121, 108, 97, 119, 49, 51, 46, 68, 105, 102, 102, 76, 101, 97, 115, 116], [115, 101, 110, 116, 114, 121, 47, 115, 101, 110, 116, 114, 121, 108, 97, 119, 49, 51, 46, 68, 105, 102, 102, 79, 100, 100], [115, 101, 110, 116, 114, 121, 47, 115, 101, 110, 116, 114, 121, 108, 97, 119, 49, 51, 46, 68, 105, 102, 102, 67, 104, 97, 105, 110], [115, 101, 110, 116, 114, 121, 47, 115, 101, 110, 116, 114, 121, 108, 97, 119, 49, 51, 46, 68, 105, 102, 102, 79, 114, 100, 101, 114]]
def initC : List (List Char) := initW.map (·.map Char.ofNat)
theorem initS : Tryz.pinned.checked.prog.initOrder = String.ofList (joinW initC) := by kernel_rfl
theorem initL : wordsSigns Tryz.pinned.checked.prog.initOrder.toList = initC := by
  rw [initS, String.toList_ofList, words_join _ (by decide) (by kernel_rfl)]
theorem initB : behindMainWord (wordsSigns Tryz.pinned.checked.prog.initOrder.toList) = initC.drop 2 := by
  rw [initL]
  kernel_rfl
theorem strip : stripLifts liftWords (initC.drop 2) = ([], initC.drop 2) := by kernel_rfl
theorem initD : initC.drop 2 = (initC.drop 2).head (by decide) :: (initC.drop 2).tail := by kernel_rfl
theorem isGc : ((initC.drop 2).head (by decide) == "gc".toList) = false := by kernel_rfl
theorem isSpec : ((initC.drop 2).head (by decide) == "spec".toList) = false := by kernel_rfl
theorem isCarried : ((initC.drop 2).head (by decide) == "carried".toList) = false := by kernel_rfl
theorem isCut : ((initC.drop 2).head (by decide) == "cut".toList) = true := by kernel_rfl
theorem isCut2 : ((initC.drop 2).head? == some "cut".toList) = true := by kernel_rfl
theorem later_ : Tryz.pinned.checked.prog.laysLater = false := by kernel_rfl
theorem bears_ : Tryz.pinned.checked.prog.bearsReflect = false := by kernel_rfl
theorem door_ : Tryz.pinned.checked.prog.doorFits [] = true := by kernel_rfl
theorem mayEnter_gen (P : Program) (c : List Char) (rest : List (List Char)) (h : behindMainWord (wordsSigns P.initOrder.toList) = c :: rest) (h1 : (c == "gc".toList) = false) (h2 : (c == "spec".toList) = false) (h3 : (c == "carried".toList) = false)
    (h4 : stripLifts liftWords (c :: rest) = ([], c :: rest)) (h5 : ((c :: rest).head? == some "cut".toList) = true) (h6 : P.laysLater = false) (h7 : P.bearsReflect = false) (h8 : P.doorFits [] = true) : P.mayEnter = true := by
  unfold Program.mayEnter
  rw [h]
  simp only
  rw [h1, h2, h3, h4]
  simp only
  rw [h5, h6, h7, h8]
  rfl
theorem mayEnter_ : Tryz.pinned.checked.prog.mayEnter = true := mayEnter_gen _ _ _ (initB.trans initD) isGc isSpec isCarried (by rw [← initD]; exact strip) (by rw [← initD]; exact isCut2) later_ bears_ door_
theorem headLifts_ : Tryz.pinned.checked.prog.headLifts = [] := by
  unfold Program.headLifts
  rw [initB, strip]
  kernel_rfl
theorem lifts_ : Tryz.pinned.checked.prog.liftsFinal = false := by
  unfold Program.liftsFinal
  rw [initB, headLifts_]
  kernel_rfl
theorem make_gen (P : Program) (c : List Char) (rest : List (List Char)) (h : behindMainWord (wordsSigns P.initOrder.toList) = c :: rest) (h1 : (c == "gc".toList) = false) (h2 : (c == "spec".toList) = false) (h3 : (c == "cut".toList) = true) : P.make = some .cut := by
  unfold Program.make
  rw [h]
  simp only
  rw [h1, h2, h3]
  rfl
theorem make_ : Tryz.pinned.checked.prog.make = some .cut := make_gen _ _ _ (initB.trans initD) isGc isSpec isCut
theorem stops_ : (Tryz.pinned.checked.prog.stops == []) = true := by kernel_rfl
theorem stopKnobs_ : (Tryz.pinned.checked.prog.stopKnobs == []) = true := by kernel_rfl
theorem laid_ : laidOutB Tryz.pinned.checked.prog = true := by kernel_rfl
theorem rowed_ : mapsRowed Tryz.pinned.checked.prog = true := by kernel_rfl
theorem heard_ : Tryz.pinned.checked.prog.stopsHeard = true := by kernel_rfl
theorem plain_ : Tryz.pinned.checked.prog.plainKeys = true := by kernel_rfl
end Go.Proofs.YtpbembafpnknhaaGreat
namespace Go.Ab
inductive NilC (s k : Nat) : List AV → List AV → Prop where
  | nil : NilC s k [] []
  | same {v : AV} {c c' : List AV} (h : NilC s k c c') : NilC s k (v :: c) (v :: c')
  | chg {c c' : List AV} (h : NilC s k c c') : NilC s k (AV.nils :: c) (AV.own s k 0 0 Q.opn :: c')
theorem NilC.len {s k : Nat} {c c' : List AV} (h : NilC s k c c') : c'.length = c.length := by
  induction h with
  | nil => rfl
  | same _ ih => simp [ih]
  | chg _ ih => simp [ih]
theorem NilC.get {s k : Nat} {c c' : List AV} (h : NilC s k c c') : ∀ (j : Nat) (x' : AV), c'[j]? = some x' → c[j]? = some x' ∨ (c[j]? = some AV.nils ∧ x' = AV.own s k 0 0 Q.opn) := by
  induction h with
  | nil => intro j x h; simp at h
  | same _ ih =>
    intro j x h
    match j with
    | 0 => exact .inl h
    | j + 1 => exact ih j x h
  | chg _ ih =>
    intro j x h
    match j with
    | 0 => cases h; exact .inr ⟨rfl, rfl⟩
    | j + 1 => exact ih j x h
def SVr (s k : Nat) (v v' : SV) : Prop := v' = v ∨ ∃ cs cs', v = .live (.box cs) ∧ v' = .live (.box cs') ∧ NilC s k cs cs'
inductive NilB (s k : Nat) : Sto → Sto → Prop where
  | nil : NilB s k [] []
  | same {k' : Nat} {v : SV} {σ σ' : Sto} (h : NilB s k σ σ') : NilB s k ((k', v) :: σ) ((k', v) :: σ')
  | box {k' : Nat} {cs cs' : List AV} {σ σ' : Sto} (hc : NilC s k cs cs') (h : NilB s k σ σ') : NilB s k ((k', .live (.box cs)) :: σ) ((k', .live (.box cs')) :: σ')
inductive NilT (s k : Nat) : Sto → Sto → Prop where
  | here {σ σ' : Sto} (h : NilB s k σ σ') : NilT s k σ ((k, .live (.arr s [])) :: σ')
  | there {k' : Nat} {v : SV} {σ σ' : Sto} (hk : Nat.beq k' k = false) (h : NilT s k σ σ') : NilT s k ((k', v) :: σ) ((k', v) :: σ')
  | box {k' : Nat} {cs cs' : List AV} {σ σ' : Sto} (hk : Nat.beq k' k = false) (hc : NilC s k cs cs') (h : NilT s k σ σ') : NilT s k ((k', .live (.box cs)) :: σ) ((k', .live (.box cs')) :: σ')
theorem sg1 (k : Nat) (v : SV) (σ : Sto) (x : Nat) : sget ((k, v) :: σ) x = if x = k then v else sget σ x := by rw [sget_cons]
theorem NilB.get {s k : Nat} {σ σ' : Sto} (h : NilB s k σ σ') (x : Nat) : SVr s k (sget σ x) (sget σ' x) := by
  induction h with
  | nil => exact .inl rfl
  | same h ih => rw [sg1, sg1]; split; exact .inl rfl; exact ih
  | box hc h ih => rw [sg1, sg1]; split; exact .inr ⟨_, _, rfl, rfl, hc⟩; exact ih
theorem NilT.get {s k : Nat} {σ σ' : Sto} (h : NilT s k σ σ') (x : Nat) : (x = k → sget σ' x = .live (.arr s [])) ∧ (x ≠ k → SVr s k (sget σ x) (sget σ' x)) := by
  have ne : ∀ {k' : Nat}, Nat.beq k' k = false → k ≠ k' := fun hk e => by subst e; rw [Nat.beq_refl] at hk; cases hk
  induction h with
  | here h => exact ⟨fun e => by rw [sg1, if_pos e], fun e => by rw [sg1, if_neg e]; exact h.get x⟩
  | there hk h ih =>
    refine ⟨fun e => ?_, fun e => ?_⟩
    · rw [sg1, if_neg (by rw [e]; exact ne hk)]; exact ih.1 e
    · rw [sg1, sg1]; split; exact .inl rfl; exact ih.2 e
  | box hk hc h ih =>
    refine ⟨fun e => ?_, fun e => ?_⟩
    · rw [sg1, if_neg (by rw [e]; exact ne hk)]; exact ih.1 e
    · rw [sg1, sg1]; split; exact .inr ⟨_, _, rfl, rfl, hc⟩; exact ih.2 e
end Go.Ab
namespace Go.Ab
def CutV (v v' : SV) : Prop := v' = v ∨ ∃ s es es', v = .live (.arr s es) ∧ v' = .live (.arr s es') ∧ ∀ (i : Nat) (e : List AV), es'[i]? = some e → es[i]? = some e
inductive CutS : Sto → Sto → Prop where
  | nil : CutS [] []
  | same {k' : Nat} {v : SV} {σ σ' : Sto} (h : CutS σ σ') : CutS ((k', v) :: σ) ((k', v) :: σ')
  | cut {k' s : Nat} {es es' : List (List AV)} {σ σ' : Sto} (hc : ∀ (i : Nat) (e : List AV), es'[i]? = some e → es[i]? = some e) (h : CutS σ σ') : CutS ((k', .live (.arr s es)) :: σ) ((k', .live (.arr s es')) :: σ')
theorem CutS.refl : ∀ σ : Sto, CutS σ σ
  | [] => .nil
  | (_, _) :: σ => .same (CutS.refl σ)
theorem CutS.get {σ σ' : Sto} (h : CutS σ σ') (x : Nat) : CutV (sget σ x) (sget σ' x) := by
  induction h with
  | nil => exact .inl rfl
  | same h ih => rw [sg1, sg1]; split; exact .inl rfl; exact ih
  | cut hc h ih => rw [sg1, sg1]; split; exact .inr ⟨_, _, _, rfl, rfl, hc⟩; exact ih
theorem StLe.cut {pins : List Nat} {E : Env} {σ σ' : Sto} (hS : CutS σ σ') : StLe pins (E, σ) (E, σ') := ⟨fun w X ι vs hs hv => by
  have live : ∀ x b', sget σ' x = .live b' → ∃ b, sget σ x = .live b ∧ CutV (.live b) (.live b') := fun x b' h => by
    rcases hS.get x with e | ⟨s, cs, cs', e1, e2, hc⟩
    · exact ⟨b', by rw [← e, h], .inl rfl⟩
    · rw [h] at e2; cases e2
      exact ⟨_, e1, .inr ⟨_, _, _, rfl, rfl, hc⟩⟩
  have live' : ∀ x b, sget σ x = .live b → ∃ b', sget σ' x = .live b' := fun x b h => by
    rcases hS.get x with e | ⟨s, cs, cs', e1, e2, hc⟩
    · exact ⟨b, by rw [e, h]⟩
    · exact ⟨_, e2⟩
  have hL : ∀ b, Lv (sget σ') ι b ↔ Lv (sget σ) ι b := fun b => by
    constructor
    · rintro ⟨x, blk, o, t, h1, h2⟩
      obtain ⟨b0, h0, _⟩ := live x blk h1
      exact ⟨x, b0, o, t, h0, h2⟩
    · rintro ⟨x, blk, o, t, h1, h2⟩
      obtain ⟨b0, h0⟩ := live' x blk h1
      exact ⟨x, b0, o, t, h0, h2⟩
  have hX : XL X (sget σ') ι = XL X (sget σ) ι := funext fun b => by unfold XL; rw [hL b]
  refine ⟨ι, ⟨fun x b hx => ?_, fun x x' b b' c o t o' t' h1 h2 h3 h4 => ?_, fun b hb => ⟨(hs.out b hb).1, fun h => (hs.out b hb).2 ((hL b).1 h)⟩, fun x => ?_⟩, fun t => ?_, fun b hb => (hL b).1 hb, fun x hx => rfl⟩
  · rw [hX]
    obtain ⟨b0, h0, hr⟩ := live x b hx
    have hB := hs.blk x b0 h0
    rcases hr with hr | ⟨s, cs, cs', e1, e2, hc⟩
    · cases hr; exact hB
    · cases e1; cases e2
      cases hl : ι x with
      | «at» c o z =>
        rw [hl] at hB
        obtain ⟨hz, us, ty, hh, hlen, hcell⟩ := hB
        exact ⟨hz, us, ty, hh, fun i e he => hlen i e (hc i e he), fun i j e y he hy => hcell i j e y (hc i e he) hy⟩
      | gone =>
        rw [hl] at hB
        have hB : cs = [] := hB
        show cs' = []
        subst hB
        cases cs' with
        | nil => rfl
        | cons e r => exact absurd (hc 0 e rfl) (by simp)
      | _ => rw [hl] at hB; exact hB.elim
  · obtain ⟨b0, a1, _⟩ := live x b h1
    obtain ⟨b1, a2, _⟩ := live x' b' h2
    exact hs.inj x x' _ _ c o t o' t' a1 a2 h3 h4
  · rcases hS.get x with e1 | ⟨s, cs, cs', e1, e2, _⟩
    · rw [e1]; exact hs.free x
    · rw [e2, ← hs.free x, e1]; simp
  · show VR w (XL X (sget σ') ι) ι (vs t) (get E t)
    rw [hX]
    exact hv t⟩
inductive LeX : List AV → List AV → Prop where
  | nil : LeX [] []
  | cons {x y : AV} {xs ys : List AV} (h : LeP x y) (t : LeX xs ys) : LeX (x :: xs) (y :: ys)
inductive LeXX : List (List AV) → List (List AV) → Prop where
  | nil : LeXX [] []
  | cons {x y : List AV} {xs ys : List (List AV)} (h : LeX x y) (t : LeXX xs ys) : LeXX (x :: xs) (y :: ys)
theorem LeX.len {xs ys : List AV} (h : LeX xs ys) : xs.length = ys.length := by
  induction h with
  | nil => rfl
  | cons _ _ ih => simp [ih]
theorem LeX.get {xs ys : List AV} (h : LeX xs ys) : ∀ (j : Nat) (x y : AV), xs[j]? = some x → ys[j]? = some y → LeP x y := by
  induction h with
  | nil => intro j x y h; simp at h
  | cons h t ih =>
    intro j x y h1 h2
    match j with
    | 0 => cases h1; cases h2; exact h
    | j + 1 => exact ih j x y h1 h2
theorem LeXX.len {xs ys : List (List AV)} (h : LeXX xs ys) : xs.length = ys.length := by
  induction h with
  | nil => rfl
  | cons _ _ ih => simp [ih]
theorem LeXX.get {xs ys : List (List AV)} (h : LeXX xs ys) : ∀ (j : Nat) (x y : List AV), xs[j]? = some x → ys[j]? = some y → LeX x y := by
  induction h with
  | nil => intro j x y h; simp at h
  | cons h t ih =>
    intro j x y h1 h2
    match j with
    | 0 => cases h1; cases h2; exact h
    | j + 1 => exact ih j x y h1 h2
theorem Le.rows {s : Nat} {es es' : List (List AV)} (h : LeXX es es') : Le (.row s es) (.row s es') := .row h.len fun i e e' h1 h2 => ⟨(h.get i e e' h1 h2).len, (h.get i e e' h1 h2).get⟩
theorem LeX.refl : ∀ xs : List AV, LeX xs xs
  | [] => .nil
  | _ :: xs => .cons .refl (LeX.refl xs)
theorem LeXX.refl : ∀ xs : List (List AV), LeXX xs xs
  | [] => .nil
  | _ :: xs => .cons (.refl _) (LeXX.refl xs)
theorem LeXX.app {a b c d : List (List AV)} (h : LeXX a b) (h' : LeXX c d) : LeXX (a ++ c) (b ++ d) := by
  induction h with
  | nil => exact h'
  | cons x _ ih => exact .cons x ih
theorem LeB.rows {s : Nat} {es es' : List (List AV)} (h : LeXX es es') : LeB (.arr s es) (.arr s es') := .arr _ _ _ h.len fun i e e' h1 h2 => ⟨(h.get i e e' h1 h2).len, (h.get i e e' h1 h2).get⟩
end Go.Ab
namespace Go.Ab
open Sn
structure S62 where
  f0 : ByteArray
  f1 : Int
  f2 : Bool
  f3 : S47
def only (id : ByteArray) : S47 := ⟨id, 0, ⟨#[]⟩, false, 0, [], []⟩
def hasI (m : List S47) (id : ByteArray) : Bool := decide (0 ≤ placeOf m id)
def getI (m : List S47) (id : ByteArray) : S47 := bif hasI m id then m.getD (placeOf m id).toNat z47 else z47
theorem hasI_iff {m : List S47} {id : ByteArray} : hasI m id = true ↔ ∃ x ∈ m, x.f0 = id := by
  unfold hasI
  rw [decide_eq_true_iff]
  constructor
  · intro h
    obtain ⟨i, hi, h1, _⟩ := placeOf_lt h
    exact ⟨_, getD_mem hi, h1⟩
  · rintro ⟨x, hx, e⟩
    refine Decidable.byContradiction fun h => ?_
    have := firstAt_ge (p := fun j => (m.getD j z47).f0.toList == id.toList) (n := m.length)
    obtain ⟨i, hi, h1⟩ := mem_getD (z := z47) hx
    exact h (this.2 ⟨i, hi, by rw [h1, e]; simp⟩)
theorem getI_mem {m : List S47} {id : ByteArray} (h : hasI m id = true) : getI m id ∈ m ∧ (getI m id).f0 = id := by
  unfold getI
  rw [h]
  unfold hasI at h
  obtain ⟨i, hi, h1, _, h2⟩ := placeOf_lt (of_decide_eq_true h)
  rw [h2]
  exact ⟨getD_mem hi, h1⟩
theorem getI_none {m : List S47} {id : ByteArray} (h : hasI m id = false) : getI m id = z47 := by unfold getI; rw [h]; rfl
theorem getI_of {m : List S47} (hn : (m.map S47.f0).Nodup) {x : S47} (hx : x ∈ m) : getI m x.f0 = x := by
  have h : hasI m x.f0 = true := hasI_iff.2 ⟨x, hx, rfl⟩
  obtain ⟨h1, h2⟩ := getI_mem h
  exact id_inj hn h1 hx h2
end Go.Ab
namespace Go.Ab
open Sn
theorem pre_of_perm {l1 l2 : List S47} (hn : (l2.map S47.f0).Nodup) (hp : l1.Perm l2) (f : S47 → S47) : ∀ (k : Nat) (x : S47), pre S47.f0 S47.f2 ordID f l1 k x = pre S47.f0 S47.f2 ordID f l2 k x
  | 0, _ => rfl
  | k + 1, x => by
    show f x :: (ordID (kidsOf S47.f2 l1 x.f0)).flatMap _ = f x :: (ordID (kidsOf S47.f2 l2 x.f0)).flatMap _
    have e : ordID (kidsOf S47.f2 l1 x.f0) = ordID (kidsOf S47.f2 l2 x.f0) := ordID_perm (hn.sublist (List.Sublist.map _ List.filter_sublist)) (hp.filter _)
    rw [e]
    congr 1
    exact flatMap_congr' fun c _ => pre_of_perm hn hp f k c
theorem Ok.root_only {fs : List ByteArray} {r : S47} {F : List S47} (h : Ok fs r F) {y : S47} (hy : y ∈ r :: F) (he : y.f2 = ByteArray.empty) : y = r := by
  obtain ⟨n, _, ha⟩ := h.reach y hy
  cases n with
  | zero => exact ha
  | succ n =>
    obtain ⟨p, hp, e, _⟩ := ha
    have := h.names p hp
    rw [e, he, nameIs_empty] at this
    cases this
theorem IsN.pre {fs : List ByteArray} {r : S47} {F : List S47} (h : Ok fs r F) (ht : turnT ordID nIt r F = F) : pre S47.f0 S47.f2 ordID nIt (r :: F) 20 r = r :: F := by
  rw [turn_pre, norm_root h, ht]
def OrdTo (fs : List ByteArray) (xs : List S47) (f' : List ByteArray) (x' : List S47) : Prop := IsN f' x' ∧ f'.Perm fs ∧ x'.Perm xs
theorem OrdTo.uniq {fs : List ByteArray} {xs : List S47} {f1 f2 : List ByteArray} {x1 x2 : List S47} (h1 : OrdTo fs xs f1 x1) (h2 : OrdTo fs xs f2 x2) : f1 = f2 ∧ x1 = x2 := by
  obtain ⟨⟨r1, F1, rfl, o1, s1, t1⟩, p1, q1⟩ := h1
  obtain ⟨⟨r2, F2, rfl, o2, s2, t2⟩, p2, q2⟩ := h2
  have hq := q1.trans q2.symm
  have hr : r1 = r2 := o2.root_only (hq.mem_iff.1 (List.mem_cons_self ..)) o1.plan.2.1
  subst hr
  exact ⟨s1.symm.trans ((sortL_of_perm isCmp_s (p1.trans p2.symm)).trans s2), (IsN.pre o1 t1).symm.trans ((pre_of_perm o2.nodup hq nIt 20 r1).trans (IsN.pre o2 t2))⟩
theorem OrdTo.self {f : List ByteArray} {m : List S47} (h : IsN f m) : OrdTo f m f m := ⟨h, .refl _, .refl _⟩
abbrev St := List ByteArray × List S47
def setF (x : S47) (e : S62) : S47 := if e.f1 = 1 then ⟨x.f0, e.f3.f1, e.f3.f2, x.f3, e.f3.f4, x.f5, x.f6⟩ else if e.f1 = 2 then ⟨x.f0, x.f1, x.f2, e.f3.f3, x.f4, x.f5, x.f6⟩ else if e.f1 = 3 then ⟨x.f0, x.f1, x.f2, x.f3, x.f4, e.f3.f5, x.f6⟩ else if e.f1 = 4 then ⟨x.f0, x.f1, x.f2, x.f3, x.f4, x.f5, e.f3.f6⟩ else x
theorem setF_f0 (x : S47) (e : S62) : (setF x e).f0 = x.f0 := by
  unfold setF
  split
  · rfl
  · split
    · rfl
    · split
      · rfl
      · split <;> rfl
def updI (xs : List S47) (e : S62) : List S47 := xs.map fun x => if x.f0 = e.f0 then setF x e else x
def delI (xs : List S47) (d : ByteArray) : List S47 := xs.filter fun x => decide (x.f0 ≠ d)
def delS (fs : List ByteArray) (d : ByteArray) : List ByteArray := fs.filter fun s => decide (s ≠ d)
def oneS (s : St) (e : S62) : Option St :=
  if e.f1 = 5 then (if hasS s.1 e.f0 = e.f2 then none else if e.f2 = true then some (s.1 ++ [e.f0], s.2) else some (delS s.1 e.f0, s.2))
  else if e.f1 = 1 then (if hasI s.2 e.f0 = true then (if e.f2 = true then some (s.1, updI s.2 e) else some (s.1, delI s.2 e.f0)) else (if e.f2 = true then some (s.1, s.2 ++ [setF (only e.f0) e]) else none))
  else if 2 ≤ e.f1 ∧ e.f1 ≤ 4 then (if hasI s.2 e.f0 = true then some (s.1, updI s.2 e) else none)
  else none
def Nm (x : S47) : Prop := nIt x = x ∧ Small x.f5 ∧ Small x.f6
structure Nice (s : St) : Prop where
  fn : s.1.Nodup
  xn : (s.2.map S47.f0).Nodup
  names : ∀ x ∈ s.2, nameIs x.f0 = true
  nm : ∀ x ∈ s.2, Nm x
def NiceE (e : S62) : Prop := nameIs e.f0 = true ∧ Nm e.f3
theorem Nm.ses {x : S47} (h : Nm x) : nSes x.f5 = x.f5 ∧ nSes x.f6 = x.f6 := ⟨congrArg S47.f5 h.1, congrArg S47.f6 h.1⟩
theorem Nm.of {x : S47} (h5 : nSes x.f5 = x.f5) (h6 : nSes x.f6 = x.f6) (k5 : Small x.f5) (k6 : Small x.f6) : Nm x := ⟨by unfold nIt; rw [h5, h6], k5, k6⟩
theorem small_nil : Small [] := ⟨by decide, fun _ h => by cases h⟩
theorem Nm.only (d : ByteArray) : Nm (only d) := .of rfl rfl small_nil small_nil
theorem Nm.set {x : S47} {e : S62} (h : Nm x) (he : Nm e.f3) : Nm (setF x e) := by
  obtain ⟨a, b⟩ := h.ses
  obtain ⟨c, d⟩ := he.ses
  unfold setF
  split
  · exact .of a b h.2.1 h.2.2
  · split
    · exact .of a b h.2.1 h.2.2
    · split
      · exact .of c b he.2.1 h.2.2
      · split
        · exact .of a d h.2.1 he.2.2
        · exact h
theorem updI_ids (xs : List S47) (e : S62) : (updI xs e).map S47.f0 = xs.map S47.f0 := by
  unfold updI
  rw [List.map_map]
  refine List.map_congr_left fun x _ => ?_
  show (if x.f0 = e.f0 then setF x e else x).f0 = x.f0
  split
  · exact setF_f0 x e
  · rfl
theorem delI_mem {xs : List S47} {d : ByteArray} {x : S47} : x ∈ delI xs d ↔ x ∈ xs ∧ x.f0 ≠ d := by unfold delI; rw [List.mem_filter, decide_eq_true_iff]
theorem updI_mem {xs : List S47} {e : S62} {x : S47} : x ∈ updI xs e ↔ ∃ y ∈ xs, (if y.f0 = e.f0 then setF y e else y) = x := by unfold updI; exact List.mem_map
theorem hasI_no {m : List S47} {id : ByteArray} : hasI m id = false ↔ ∀ x ∈ m, x.f0 ≠ id := by
  rw [← Bool.not_eq_true, hasI_iff]
  exact ⟨fun h x hx e => h ⟨x, hx, e⟩, fun h ⟨x, hx, e⟩ => h x hx e⟩
theorem getI_is {m : List S47} (hn : (m.map S47.f0).Nodup) {x : S47} {id : ByteArray} (hx : x ∈ m) (e : x.f0 = id) : getI m id = x := e ▸ getI_of hn hx
theorem nodup_snoc {α : Type} {l : List α} {a : α} (h : l.Nodup) (ha : a ∉ l) : (l ++ [a]).Nodup := List.nodup_append.2 ⟨h, by simp, fun s hs t ht => by rw [List.mem_singleton.1 ht]; exact fun e => ha (e ▸ hs)⟩
theorem Nice.one {s t : St} {e : S62} (h : Nice s) (he : NiceE e) (h1 : oneS s e = some t) : Nice t := by
  have upd : Nice (s.1, updI s.2 e) := ⟨h.fn, by show ((updI s.2 e).map S47.f0).Nodup; rw [updI_ids]; exact h.xn, fun x hx => by
    obtain ⟨y, hy, rfl⟩ := updI_mem.1 hx
    split
    · rw [setF_f0]; exact h.names y hy
    · exact h.names y hy, fun x hx => by
    obtain ⟨y, hy, rfl⟩ := updI_mem.1 hx
    split
    · exact (h.nm y hy).set he.2
    · exact h.nm y hy⟩
  unfold oneS at h1
  split at h1
  · split at h1
    · cases h1
    · rename_i hs
      split at h1
      · rename_i h2
        cases h1
        exact ⟨nodup_snoc h.fn fun hm => hs (by rw [hasS_iff.2 hm, h2]), h.xn, h.names, h.nm⟩
      · cases h1
        exact ⟨h.fn.filter _, h.xn, h.names, h.nm⟩
  · split at h1
    · split at h1
      · split at h1
        · cases h1; exact upd
        · cases h1
          exact ⟨h.fn, h.xn.sublist (List.Sublist.map _ List.filter_sublist), fun x hx => h.names x (delI_mem.1 hx).1, fun x hx => h.nm x (delI_mem.1 hx).1⟩
      · rename_i hh
        split at h1
        · cases h1
          have hn := hasI_no.1 (by simpa using hh : hasI s.2 e.f0 = false)
          have h0 : (setF (only e.f0) e).f0 = e.f0 := setF_f0 _ _
          refine ⟨h.fn, ?_, fun x hx => ?_, fun x hx => ?_⟩
          · show ((s.2 ++ [setF (only e.f0) e]).map S47.f0).Nodup
            rw [List.map_append]
            refine nodup_snoc h.xn fun hm => ?_
            obtain ⟨y, hy, ey⟩ := List.mem_map.1 hm
            exact hn y hy (ey.trans h0)
          · rcases List.mem_append.1 hx with hx | hx
            · exact h.names x hx
            · rw [List.mem_singleton.1 hx, h0]; exact he.1
          · rcases List.mem_append.1 hx with hx | hx
            · exact h.nm x hx
            · rw [List.mem_singleton.1 hx]; exact (Nm.only _).set he.2
        · cases h1
    · split at h1
      · split at h1
        · cases h1; exact upd
        · cases h1
      · cases h1
end Go.Ab
