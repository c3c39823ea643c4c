/- Each function's abstract form is that of the given program. -/
import Derived.Test.YtmppgcknmmmioaaGreatDoorZ02
import Derived.Test.YtmppgcknmmmioaaGreatDoorZ07
import Derived.Test.YtmppgcknmmmioaaGreatDoorProg
import Derived.KernelRfl
set_option linter.unusedSimpArgs false
set_option linter.unusedVariables false
set_option linter.unusedSectionVars false
set_option maxRecDepth 100000
namespace Go.Ab.Grid
open Go Go.Ab Go.Proofs
def Fact (f : Nat) : Prop := ∀ af, AP (lab f) = some af → ∃ fn, Tryz.prog.funcs[f]? = some fn ∧ compFunc Tryz.prog lab fn = some af
theorem c7 : compFunc Tryz.prog lab Tryz.f7 = some F283 := by kernel_rfl
theorem c13 : compFunc Tryz.prog lab Tryz.f13 = some F289 := by kernel_rfl
theorem c14 : compFunc Tryz.prog lab Tryz.f14 = some F110 := by kernel_rfl
theorem c16 : compFunc Tryz.prog lab Tryz.f16 = some F37 := by kernel_rfl
theorem c17 : compFunc Tryz.prog lab Tryz.f17 = some F40 := by kernel_rfl
theorem c18 : compFunc Tryz.prog lab Tryz.f18 = some F291 := by kernel_rfl
theorem c20 : compFunc Tryz.prog lab Tryz.f20 = some F265 := by kernel_rfl
theorem c22 : compFunc Tryz.prog lab Tryz.f22 = some F294 := by kernel_rfl
theorem c23 : compFunc Tryz.prog lab Tryz.f23 = some F253 := by kernel_rfl
theorem c25 : compFunc Tryz.prog lab Tryz.f25 = some F296 := by kernel_rfl
theorem c26 : compFunc Tryz.prog lab Tryz.f26 = some F297 := by kernel_rfl
theorem c28 : compFunc Tryz.prog lab Tryz.f28 = some F299 := by kernel_rfl
theorem c30 : compFunc Tryz.prog lab Tryz.f30 = some F301 := by kernel_rfl
theorem c31 : compFunc Tryz.prog lab Tryz.f31 = some F302 := by kernel_rfl
theorem c33 : compFunc Tryz.prog lab Tryz.f33 = some F304 := by kernel_rfl
theorem c35 : compFunc Tryz.prog lab Tryz.f35 = some F306 := by kernel_rfl
theorem c36 : compFunc Tryz.prog lab Tryz.f36 = some F307 := by kernel_rfl
theorem c37 : compFunc Tryz.prog lab Tryz.f37 = some F308 := by kernel_rfl
theorem c38 : compFunc Tryz.prog lab Tryz.f38 = some F309 := by kernel_rfl
theorem c49 : compFunc Tryz.prog lab Tryz.f49 = some F320 := by kernel_rfl
theorem c50 : compFunc Tryz.prog lab Tryz.f50 = some F55 := by kernel_rfl
theorem c51 : compFunc Tryz.prog lab Tryz.f51 = some F111 := by kernel_rfl
theorem c52 : compFunc Tryz.prog lab Tryz.f52 = some F112 := by kernel_rfl
theorem c53 : compFunc Tryz.prog lab Tryz.f53 = some F59 := by kernel_rfl
theorem c55 : compFunc Tryz.prog lab Tryz.f55 = some F56 := by kernel_rfl
theorem c56 : compFunc Tryz.prog lab Tryz.f56 = some F57 := by kernel_rfl
theorem c57 : compFunc Tryz.prog lab Tryz.f57 = some F58 := by kernel_rfl
theorem c58 : compFunc Tryz.prog lab Tryz.f58 = some F266 := by kernel_rfl
theorem c59 : compFunc Tryz.prog lab Tryz.f59 = some F267 := by kernel_rfl
theorem c60 : compFunc Tryz.prog lab Tryz.f60 = some F268 := by kernel_rfl
theorem c61 : compFunc Tryz.prog lab Tryz.f61 = some F269 := by kernel_rfl
theorem c62 : compFunc Tryz.prog lab Tryz.f62 = some F270 := by kernel_rfl
theorem c63 : compFunc Tryz.prog lab Tryz.f63 = some F271 := by kernel_rfl
theorem c67 : compFunc Tryz.prog lab Tryz.f67 = some F324 := by kernel_rfl
theorem c68 : compFunc Tryz.prog lab Tryz.f68 = some F273 := by kernel_rfl
theorem c69 : compFunc Tryz.prog lab Tryz.f69 = some F274 := by kernel_rfl
theorem c71 : compFunc Tryz.prog lab Tryz.f71 = some F326 := by kernel_rfl
theorem c72 : compFunc Tryz.prog lab Tryz.f72 = some F327 := by kernel_rfl
theorem c74 : compFunc Tryz.prog lab Tryz.f74 = some F329 := by kernel_rfl
theorem c75 : compFunc Tryz.prog lab Tryz.f75 = some F330 := by kernel_rfl
theorem c76 : compFunc Tryz.prog lab Tryz.f76 = some F277 := by kernel_rfl
theorem c77 : compFunc Tryz.prog lab Tryz.f77 = some F278 := by kernel_rfl
theorem c78 : compFunc Tryz.prog lab Tryz.f78 = some F331 := by kernel_rfl
theorem c79 : compFunc Tryz.prog lab Tryz.f79 = some F332 := by kernel_rfl
theorem c80 : compFunc Tryz.prog lab Tryz.f80 = some F333 := by kernel_rfl
theorem c81 : compFunc Tryz.prog lab Tryz.f81 = some F334 := by kernel_rfl
theorem c82 : compFunc Tryz.prog lab Tryz.f82 = some F335 := by kernel_rfl
theorem c83 : compFunc Tryz.prog lab Tryz.f83 = some F336 := by kernel_rfl
theorem c84 : compFunc Tryz.prog lab Tryz.f84 = some F337 := by kernel_rfl
theorem c85 : compFunc Tryz.prog lab Tryz.f85 = some F338 := by kernel_rfl
theorem c86 : compFunc Tryz.prog lab Tryz.f86 = some F339 := by kernel_rfl
theorem c87 : compFunc Tryz.prog lab Tryz.f87 = some F340 := by kernel_rfl
theorem c88 : compFunc Tryz.prog lab Tryz.f88 = some F341 := by kernel_rfl
theorem c89 : compFunc Tryz.prog lab Tryz.f89 = some F342 := by kernel_rfl
theorem c90 : compFunc Tryz.prog lab Tryz.f90 = some F343 := by kernel_rfl
theorem c91 : compFunc Tryz.prog lab Tryz.f91 = some F344 := by kernel_rfl
theorem c92 : compFunc Tryz.prog lab Tryz.f92 = some F345 := by kernel_rfl
theorem c93 : compFunc Tryz.prog lab Tryz.f93 = some F346 := by kernel_rfl
theorem c94 : compFunc Tryz.prog lab Tryz.f94 = some F347 := by kernel_rfl
theorem c95 : compFunc Tryz.prog lab Tryz.f95 = some F348 := by kernel_rfl
theorem c96 : compFunc Tryz.prog lab Tryz.f96 = some F113 := by kernel_rfl
theorem c97 : compFunc Tryz.prog lab Tryz.f97 = some F114 := by kernel_rfl
theorem c98 : compFunc Tryz.prog lab Tryz.f98 = some F82 := by kernel_rfl
theorem c99 : compFunc Tryz.prog lab Tryz.f99 = some F180 := by kernel_rfl
theorem c100 : compFunc Tryz.prog lab Tryz.f100 = some F272 := by kernel_rfl
theorem c101 : compFunc Tryz.prog lab Tryz.f101 = some F83 := by kernel_rfl
theorem c102 : compFunc Tryz.prog lab Tryz.f102 = some F275 := by kernel_rfl
theorem c103 : compFunc Tryz.prog lab Tryz.f103 = some F276 := by kernel_rfl
theorem c104 : compFunc Tryz.prog lab Tryz.f104 = some F169 := by kernel_rfl
theorem c105 : compFunc Tryz.prog lab Tryz.f105 = some F349 := by kernel_rfl
theorem c106 : compFunc Tryz.prog lab Tryz.f106 = some F161 := by kernel_rfl
theorem c107 : compFunc Tryz.prog lab Tryz.f107 = some F350 := by kernel_rfl
theorem c108 : compFunc Tryz.prog lab Tryz.f108 = some F351 := by kernel_rfl
theorem c109 : compFunc Tryz.prog lab Tryz.f109 = some F352 := by kernel_rfl
theorem c110 : compFunc Tryz.prog lab Tryz.f110 = some F353 := by kernel_rfl
theorem c111 : compFunc Tryz.prog lab Tryz.f111 = some F354 := by kernel_rfl
theorem c114 : compFunc Tryz.prog lab Tryz.f114 = some F357 := by kernel_rfl
theorem c115 : compFunc Tryz.prog lab Tryz.f115 = some F358 := by kernel_rfl
theorem c116 : compFunc Tryz.prog lab Tryz.f116 = some F359 := by kernel_rfl
theorem c117 : compFunc Tryz.prog lab Tryz.f117 = some F202 := by kernel_rfl
theorem c118 : compFunc Tryz.prog lab Tryz.f118 = some F93 := by kernel_rfl
theorem c119 : compFunc Tryz.prog lab Tryz.f119 = some F199 := by kernel_rfl
theorem c122 : compFunc Tryz.prog lab Tryz.f122 = some F361 := by kernel_rfl
theorem c123 : compFunc Tryz.prog lab Tryz.f123 = some F362 := by kernel_rfl
theorem c125 : compFunc Tryz.prog lab Tryz.f125 = some F364 := by kernel_rfl
theorem c126 : compFunc Tryz.prog lab Tryz.f126 = some F365 := by kernel_rfl
theorem c131 : compFunc Tryz.prog lab Tryz.f131 = some F107 := by kernel_rfl
theorem c132 : compFunc Tryz.prog lab Tryz.f132 = some F108 := by kernel_rfl
theorem fact_of {f l : Nat} {fn : Func} {af : AFunc} (hl : lab f = l) (ha : AP l = some af) (hf : Tryz.prog.funcs[f]? = some fn) (hc : compFunc Tryz.prog lab fn = some af) : Fact f := fun af' h => by
  rw [hl, ha] at h; cases h; exact ⟨fn, hf, hc⟩
theorem fact_off {f l : Nat} (hl : lab f = l) (ha : AP l = none) : Fact f := fun af' h => by
  rw [hl, ha] at h; cases h
theorem fact_no {f : Nat} (hl : lab f = 0) : Fact f := fun af' h => by
  rw [hl] at h; cases h
theorem k0 : Fact 0 := fact_no (by kernel_rfl)
theorem k1 : Fact 1 := fact_no (by kernel_rfl)
theorem k2 : Fact 2 := fact_off (l := 1) (by kernel_rfl) (by kernel_rfl)
theorem k3 : Fact 3 := fact_off (l := 279) (by kernel_rfl) (by kernel_rfl)
theorem k4 : Fact 4 := fact_off (l := 280) (by kernel_rfl) (by kernel_rfl)
theorem k5 : Fact 5 := fact_off (l := 281) (by kernel_rfl) (by kernel_rfl)
theorem k6 : Fact 6 := fact_off (l := 282) (by kernel_rfl) (by kernel_rfl)
theorem k7 : Fact 7 := fact_of (l := 283) (af := F283) (by kernel_rfl) (by kernel_rfl) Tryz.func7 c7
theorem k8 : Fact 8 := fact_off (l := 284) (by kernel_rfl) (by kernel_rfl)
theorem k9 : Fact 9 := fact_off (l := 285) (by kernel_rfl) (by kernel_rfl)
theorem k10 : Fact 10 := fact_off (l := 286) (by kernel_rfl) (by kernel_rfl)
theorem k11 : Fact 11 := fact_off (l := 287) (by kernel_rfl) (by kernel_rfl)
theorem k12 : Fact 12 := fact_off (l := 288) (by kernel_rfl) (by kernel_rfl)
theorem k13 : Fact 13 := fact_of (l := 289) (af := F289) (by kernel_rfl) (by kernel_rfl) Tryz.func13 c13
theorem k14 : Fact 14 := fact_of (l := 110) (af := F110) (by kernel_rfl) (by kernel_rfl) Tryz.func14 c14
theorem k15 : Fact 15 := fact_off (l := 290) (by kernel_rfl) (by kernel_rfl)
theorem k16 : Fact 16 := fact_of (l := 37) (af := F37) (by kernel_rfl) (by kernel_rfl) Tryz.func16 c16
theorem k17 : Fact 17 := fact_of (l := 40) (af := F40) (by kernel_rfl) (by kernel_rfl) Tryz.func17 c17
theorem k18 : Fact 18 := fact_of (l := 291) (af := F291) (by kernel_rfl) (by kernel_rfl) Tryz.func18 c18
theorem k19 : Fact 19 := fact_off (l := 292) (by kernel_rfl) (by kernel_rfl)
theorem k20 : Fact 20 := fact_of (l := 265) (af := F265) (by kernel_rfl) (by kernel_rfl) Tryz.func20 c20
theorem k21 : Fact 21 := fact_off (l := 293) (by kernel_rfl) (by kernel_rfl)
theorem k22 : Fact 22 := fact_of (l := 294) (af := F294) (by kernel_rfl) (by kernel_rfl) Tryz.func22 c22
theorem k23 : Fact 23 := fact_of (l := 253) (af := F253) (by kernel_rfl) (by kernel_rfl) Tryz.func23 c23
theorem k24 : Fact 24 := fact_off (l := 295) (by kernel_rfl) (by kernel_rfl)
theorem k25 : Fact 25 := fact_of (l := 296) (af := F296) (by kernel_rfl) (by kernel_rfl) Tryz.func25 c25
theorem k26 : Fact 26 := fact_of (l := 297) (af := F297) (by kernel_rfl) (by kernel_rfl) Tryz.func26 c26
theorem k27 : Fact 27 := fact_off (l := 298) (by kernel_rfl) (by kernel_rfl)
theorem k28 : Fact 28 := fact_of (l := 299) (af := F299) (by kernel_rfl) (by kernel_rfl) Tryz.func28 c28
theorem k29 : Fact 29 := fact_off (l := 300) (by kernel_rfl) (by kernel_rfl)
theorem k30 : Fact 30 := fact_of (l := 301) (af := F301) (by kernel_rfl) (by kernel_rfl) Tryz.func30 c30
theorem k31 : Fact 31 := fact_of (l := 302) (af := F302) (by kernel_rfl) (by kernel_rfl) Tryz.func31 c31
theorem k32 : Fact 32 := fact_off (l := 303) (by kernel_rfl) (by kernel_rfl)
theorem k33 : Fact 33 := fact_of (l := 304) (af := F304) (by kernel_rfl) (by kernel_rfl) Tryz.func33 c33
theorem k34 : Fact 34 := fact_off (l := 305) (by kernel_rfl) (by kernel_rfl)
theorem k35 : Fact 35 := fact_of (l := 306) (af := F306) (by kernel_rfl) (by kernel_rfl) Tryz.func35 c35
theorem k36 : Fact 36 := fact_of (l := 307) (af := F307) (by kernel_rfl) (by kernel_rfl) Tryz.func36 c36
theorem k37 : Fact 37 := fact_of (l := 308) (af := F308) (by kernel_rfl) (by kernel_rfl) Tryz.func37 c37
theorem k38 : Fact 38 := fact_of (l := 309) (af := F309) (by kernel_rfl) (by kernel_rfl) Tryz.func38 c38
theorem k39 : Fact 39 := fact_off (l := 310) (by kernel_rfl) (by kernel_rfl)
theorem k40 : Fact 40 := fact_off (l := 311) (by kernel_rfl) (by kernel_rfl)
theorem k41 : Fact 41 := fact_off (l := 312) (by kernel_rfl) (by kernel_rfl)
theorem k42 : Fact 42 := fact_off (l := 313) (by kernel_rfl) (by kernel_rfl)
theorem k43 : Fact 43 := fact_off (l := 314) (by kernel_rfl) (by kernel_rfl)
theorem k44 : Fact 44 := fact_off (l := 315) (by kernel_rfl) (by kernel_rfl)
theorem k45 : Fact 45 := fact_off (l := 316) (by kernel_rfl) (by kernel_rfl)
theorem k46 : Fact 46 := fact_off (l := 317) (by kernel_rfl) (by kernel_rfl)
theorem k47 : Fact 47 := fact_off (l := 318) (by kernel_rfl) (by kernel_rfl)
theorem k48 : Fact 48 := fact_off (l := 319) (by kernel_rfl) (by kernel_rfl)
theorem k49 : Fact 49 := fact_of (l := 320) (af := F320) (by kernel_rfl) (by kernel_rfl) Tryz.func49 c49
theorem k50 : Fact 50 := fact_of (l := 55) (af := F55) (by kernel_rfl) (by kernel_rfl) Tryz.func50 c50
theorem k51 : Fact 51 := fact_of (l := 111) (af := F111) (by kernel_rfl) (by kernel_rfl) Tryz.func51 c51
theorem k52 : Fact 52 := fact_of (l := 112) (af := F112) (by kernel_rfl) (by kernel_rfl) Tryz.func52 c52
theorem k53 : Fact 53 := fact_of (l := 59) (af := F59) (by kernel_rfl) (by kernel_rfl) Tryz.func53 c53
theorem k54 : Fact 54 := fact_off (l := 73) (by kernel_rfl) (by kernel_rfl)
theorem k55 : Fact 55 := fact_of (l := 56) (af := F56) (by kernel_rfl) (by kernel_rfl) Tryz.func55 c55
theorem k56 : Fact 56 := fact_of (l := 57) (af := F57) (by kernel_rfl) (by kernel_rfl) Tryz.func56 c56
theorem k57 : Fact 57 := fact_of (l := 58) (af := F58) (by kernel_rfl) (by kernel_rfl) Tryz.func57 c57
theorem k58 : Fact 58 := fact_of (l := 266) (af := F266) (by kernel_rfl) (by kernel_rfl) Tryz.func58 c58
theorem k59 : Fact 59 := fact_of (l := 267) (af := F267) (by kernel_rfl) (by kernel_rfl) Tryz.func59 c59
theorem k60 : Fact 60 := fact_of (l := 268) (af := F268) (by kernel_rfl) (by kernel_rfl) Tryz.func60 c60
theorem k61 : Fact 61 := fact_of (l := 269) (af := F269) (by kernel_rfl) (by kernel_rfl) Tryz.func61 c61
theorem k62 : Fact 62 := fact_of (l := 270) (af := F270) (by kernel_rfl) (by kernel_rfl) Tryz.func62 c62
theorem k63 : Fact 63 := fact_of (l := 271) (af := F271) (by kernel_rfl) (by kernel_rfl) Tryz.func63 c63
theorem k64 : Fact 64 := fact_off (l := 321) (by kernel_rfl) (by kernel_rfl)
theorem k65 : Fact 65 := fact_off (l := 322) (by kernel_rfl) (by kernel_rfl)
theorem k66 : Fact 66 := fact_off (l := 323) (by kernel_rfl) (by kernel_rfl)
theorem k67 : Fact 67 := fact_of (l := 324) (af := F324) (by kernel_rfl) (by kernel_rfl) Tryz.func67 c67
theorem k68 : Fact 68 := fact_of (l := 273) (af := F273) (by kernel_rfl) (by kernel_rfl) Tryz.func68 c68
theorem k69 : Fact 69 := fact_of (l := 274) (af := F274) (by kernel_rfl) (by kernel_rfl) Tryz.func69 c69
theorem k70 : Fact 70 := fact_off (l := 325) (by kernel_rfl) (by kernel_rfl)
theorem k71 : Fact 71 := fact_of (l := 326) (af := F326) (by kernel_rfl) (by kernel_rfl) Tryz.func71 c71
theorem k72 : Fact 72 := fact_of (l := 327) (af := F327) (by kernel_rfl) (by kernel_rfl) Tryz.func72 c72
theorem k73 : Fact 73 := fact_off (l := 328) (by kernel_rfl) (by kernel_rfl)
theorem k74 : Fact 74 := fact_of (l := 329) (af := F329) (by kernel_rfl) (by kernel_rfl) Tryz.func74 c74
theorem k75 : Fact 75 := fact_of (l := 330) (af := F330) (by kernel_rfl) (by kernel_rfl) Tryz.func75 c75
theorem k76 : Fact 76 := fact_of (l := 277) (af := F277) (by kernel_rfl) (by kernel_rfl) Tryz.func76 c76
theorem k77 : Fact 77 := fact_of (l := 278) (af := F278) (by kernel_rfl) (by kernel_rfl) Tryz.func77 c77
theorem k78 : Fact 78 := fact_of (l := 331) (af := F331) (by kernel_rfl) (by kernel_rfl) Tryz.func78 c78
theorem k79 : Fact 79 := fact_of (l := 332) (af := F332) (by kernel_rfl) (by kernel_rfl) Tryz.func79 c79
theorem k80 : Fact 80 := fact_of (l := 333) (af := F333) (by kernel_rfl) (by kernel_rfl) Tryz.func80 c80
theorem k81 : Fact 81 := fact_of (l := 334) (af := F334) (by kernel_rfl) (by kernel_rfl) Tryz.func81 c81
theorem k82 : Fact 82 := fact_of (l := 335) (af := F335) (by kernel_rfl) (by kernel_rfl) Tryz.func82 c82
theorem k83 : Fact 83 := fact_of (l := 336) (af := F336) (by kernel_rfl) (by kernel_rfl) Tryz.func83 c83
theorem k84 : Fact 84 := fact_of (l := 337) (af := F337) (by kernel_rfl) (by kernel_rfl) Tryz.func84 c84
theorem k85 : Fact 85 := fact_of (l := 338) (af := F338) (by kernel_rfl) (by kernel_rfl) Tryz.func85 c85
theorem k86 : Fact 86 := fact_of (l := 339) (af := F339) (by kernel_rfl) (by kernel_rfl) Tryz.func86 c86
theorem k87 : Fact 87 := fact_of (l := 340) (af := F340) (by kernel_rfl) (by kernel_rfl) Tryz.func87 c87
theorem k88 : Fact 88 := fact_of (l := 341) (af := F341) (by kernel_rfl) (by kernel_rfl) Tryz.func88 c88
theorem k89 : Fact 89 := fact_of (l := 342) (af := F342) (by kernel_rfl) (by kernel_rfl) Tryz.func89 c89
theorem k90 : Fact 90 := fact_of (l := 343) (af := F343) (by kernel_rfl) (by kernel_rfl) Tryz.func90 c90
theorem k91 : Fact 91 := fact_of (l := 344) (af := F344) (by kernel_rfl) (by kernel_rfl) Tryz.func91 c91
theorem k92 : Fact 92 := fact_of (l := 345) (af := F345) (by kernel_rfl) (by kernel_rfl) Tryz.func92 c92
theorem k93 : Fact 93 := fact_of (l := 346) (af := F346) (by kernel_rfl) (by kernel_rfl) Tryz.func93 c93
theorem k94 : Fact 94 := fact_of (l := 347) (af := F347) (by kernel_rfl) (by kernel_rfl) Tryz.func94 c94
theorem k95 : Fact 95 := fact_of (l := 348) (af := F348) (by kernel_rfl) (by kernel_rfl) Tryz.func95 c95
theorem k96 : Fact 96 := fact_of (l := 113) (af := F113) (by kernel_rfl) (by kernel_rfl) Tryz.func96 c96
theorem k97 : Fact 97 := fact_of (l := 114) (af := F114) (by kernel_rfl) (by kernel_rfl) Tryz.func97 c97
theorem k98 : Fact 98 := fact_of (l := 82) (af := F82) (by kernel_rfl) (by kernel_rfl) Tryz.func98 c98
theorem k99 : Fact 99 := fact_of (l := 180) (af := F180) (by kernel_rfl) (by kernel_rfl) Tryz.func99 c99
theorem k100 : Fact 100 := fact_of (l := 272) (af := F272) (by kernel_rfl) (by kernel_rfl) Tryz.func100 c100
theorem k101 : Fact 101 := fact_of (l := 83) (af := F83) (by kernel_rfl) (by kernel_rfl) Tryz.func101 c101
theorem k102 : Fact 102 := fact_of (l := 275) (af := F275) (by kernel_rfl) (by kernel_rfl) Tryz.func102 c102
theorem k103 : Fact 103 := fact_of (l := 276) (af := F276) (by kernel_rfl) (by kernel_rfl) Tryz.func103 c103
theorem k104 : Fact 104 := fact_of (l := 169) (af := F169) (by kernel_rfl) (by kernel_rfl) Tryz.func104 c104
theorem k105 : Fact 105 := fact_of (l := 349) (af := F349) (by kernel_rfl) (by kernel_rfl) Tryz.func105 c105
theorem k106 : Fact 106 := fact_of (l := 161) (af := F161) (by kernel_rfl) (by kernel_rfl) Tryz.func106 c106
theorem k107 : Fact 107 := fact_of (l := 350) (af := F350) (by kernel_rfl) (by kernel_rfl) Tryz.func107 c107
theorem k108 : Fact 108 := fact_of (l := 351) (af := F351) (by kernel_rfl) (by kernel_rfl) Tryz.func108 c108
theorem k109 : Fact 109 := fact_of (l := 352) (af := F352) (by kernel_rfl) (by kernel_rfl) Tryz.func109 c109
theorem k110 : Fact 110 := fact_of (l := 353) (af := F353) (by kernel_rfl) (by kernel_rfl) Tryz.func110 c110
theorem k111 : Fact 111 := fact_of (l := 354) (af := F354) (by kernel_rfl) (by kernel_rfl) Tryz.func111 c111
theorem k112 : Fact 112 := fact_off (l := 355) (by kernel_rfl) (by kernel_rfl)
theorem k113 : Fact 113 := fact_off (l := 356) (by kernel_rfl) (by kernel_rfl)
theorem k114 : Fact 114 := fact_of (l := 357) (af := F357) (by kernel_rfl) (by kernel_rfl) Tryz.func114 c114
theorem k115 : Fact 115 := fact_of (l := 358) (af := F358) (by kernel_rfl) (by kernel_rfl) Tryz.func115 c115
theorem k116 : Fact 116 := fact_of (l := 359) (af := F359) (by kernel_rfl) (by kernel_rfl) Tryz.func116 c116
theorem k117 : Fact 117 := fact_of (l := 202) (af := F202) (by kernel_rfl) (by kernel_rfl) Tryz.func117 c117
theorem k118 : Fact 118 := fact_of (l := 93) (af := F93) (by kernel_rfl) (by kernel_rfl) Tryz.func118 c118
theorem k119 : Fact 119 := fact_of (l := 199) (af := F199) (by kernel_rfl) (by kernel_rfl) Tryz.func119 c119
theorem k120 : Fact 120 := fact_no (by kernel_rfl)
theorem k121 : Fact 121 := fact_off (l := 360) (by kernel_rfl) (by kernel_rfl)
theorem k122 : Fact 122 := fact_of (l := 361) (af := F361) (by kernel_rfl) (by kernel_rfl) Tryz.func122 c122
theorem k123 : Fact 123 := fact_of (l := 362) (af := F362) (by kernel_rfl) (by kernel_rfl) Tryz.func123 c123
theorem k124 : Fact 124 := fact_off (l := 363) (by kernel_rfl) (by kernel_rfl)
theorem k125 : Fact 125 := fact_of (l := 364) (af := F364) (by kernel_rfl) (by kernel_rfl) Tryz.func125 c125
theorem k126 : Fact 126 := fact_of (l := 365) (af := F365) (by kernel_rfl) (by kernel_rfl) Tryz.func126 c126
theorem k127 : Fact 127 := fact_off (l := 366) (by kernel_rfl) (by kernel_rfl)
theorem k128 : Fact 128 := fact_off (l := 367) (by kernel_rfl) (by kernel_rfl)
theorem k129 : Fact 129 := fact_off (l := 368) (by kernel_rfl) (by kernel_rfl)
theorem k130 : Fact 130 := fact_off (l := 369) (by kernel_rfl) (by kernel_rfl)
theorem k131 : Fact 131 := fact_of (l := 107) (af := F107) (by kernel_rfl) (by kernel_rfl) Tryz.func131 c131
theorem k132 : Fact 132 := fact_of (l := 108) (af := F108) (by kernel_rfl) (by kernel_rfl) Tryz.func132 c132
theorem k133 : Fact 133 := fact_no (by kernel_rfl)
theorem k134 : Fact 134 := fact_off (l := 370) (by kernel_rfl) (by kernel_rfl)
theorem k135 : Fact 135 := fact_off (l := 371) (by kernel_rfl) (by kernel_rfl)
theorem k136 : Fact 136 := fact_off (l := 372) (by kernel_rfl) (by kernel_rfl)
theorem k137 : Fact 137 := fact_off (l := 373) (by kernel_rfl) (by kernel_rfl)
theorem k138 : Fact 138 := fact_no (by kernel_rfl)
theorem k139 : Fact 139 := fact_off (l := 374) (by kernel_rfl) (by kernel_rfl)
theorem k140 : Fact 140 := fact_off (l := 375) (by kernel_rfl) (by kernel_rfl)
theorem k141 : Fact 141 := fact_no (by kernel_rfl)
theorem k142 : Fact 142 := fact_off (l := 376) (by kernel_rfl) (by kernel_rfl)
theorem k143 : Fact 143 := fact_off (l := 377) (by kernel_rfl) (by kernel_rfl)
theorem k144 : Fact 144 := fact_off (l := 378) (by kernel_rfl) (by kernel_rfl)
theorem k145 : Fact 145 := fact_off (l := 379) (by kernel_rfl) (by kernel_rfl)
theorem k146 : Fact 146 := fact_off (l := 380) (by kernel_rfl) (by kernel_rfl)
theorem k147 : Fact 147 := fact_off (l := 381) (by kernel_rfl) (by kernel_rfl)
theorem k148 : Fact 148 := fact_off (l := 220) (by kernel_rfl) (by kernel_rfl)
theorem k149 : Fact 149 := fact_off (l := 382) (by kernel_rfl) (by kernel_rfl)
theorem k150 : Fact 150 := fact_off (l := 383) (by kernel_rfl) (by kernel_rfl)
theorem k151 : Fact 151 := fact_off (l := 384) (by kernel_rfl) (by kernel_rfl)
theorem k152 : Fact 152 := fact_off (l := 385) (by kernel_rfl) (by kernel_rfl)
theorem k153 : Fact 153 := fact_off (l := 386) (by kernel_rfl) (by kernel_rfl)
theorem k154 : Fact 154 := fact_off (l := 387) (by kernel_rfl) (by kernel_rfl)
theorem k155 : Fact 155 := fact_off (l := 388) (by kernel_rfl) (by kernel_rfl)
theorem k156 : Fact 156 := fact_off (l := 389) (by kernel_rfl) (by kernel_rfl)
theorem k157 : Fact 157 := fact_no (by kernel_rfl)
theorem k158 : Fact 158 := fact_no (by kernel_rfl)
theorem k159 : Fact 159 := fact_no (by kernel_rfl)
theorem k160 : Fact 160 := fact_no (by kernel_rfl)
theorem k161 : Fact 161 := fact_no (by kernel_rfl)
theorem k162 : Fact 162 := fact_no (by kernel_rfl)
theorem k163 : Fact 163 := fact_no (by kernel_rfl)
theorem k164 : Fact 164 := fact_no (by kernel_rfl)
theorem k165 : Fact 165 := fact_no (by kernel_rfl)
theorem k166 : Fact 166 := fact_no (by kernel_rfl)
theorem k167 : Fact 167 := fact_no (by kernel_rfl)
theorem k168 : Fact 168 := fact_no (by kernel_rfl)
theorem k169 : Fact 169 := fact_no (by kernel_rfl)
theorem k170 : Fact 170 := fact_no (by kernel_rfl)
theorem k171 : Fact 171 := fact_no (by kernel_rfl)
theorem k172 : Fact 172 := fact_no (by kernel_rfl)
theorem k173 : Fact 173 := fact_no (by kernel_rfl)
theorem k174 : Fact 174 := fact_no (by kernel_rfl)
theorem k175 : Fact 175 := fact_no (by kernel_rfl)
theorem k176 : Fact 176 := fact_no (by kernel_rfl)
theorem k177 : Fact 177 := fact_no (by kernel_rfl)
theorem k178 : Fact 178 := fact_no (by kernel_rfl)
theorem k179 : Fact 179 := fact_no (by kernel_rfl)
theorem k180 : Fact 180 := fact_no (by kernel_rfl)
theorem k181 : Fact 181 := fact_no (by kernel_rfl)
theorem k182 : Fact 182 := fact_no (by kernel_rfl)
theorem k183 : Fact 183 := fact_no (by kernel_rfl)
theorem k184 : Fact 184 := fact_no (by kernel_rfl)
theorem k185 : Fact 185 := fact_no (by kernel_rfl)
theorem k186 : Fact 186 := fact_no (by kernel_rfl)
theorem k187 : Fact 187 := fact_no (by kernel_rfl)
theorem k188 : Fact 188 := fact_no (by kernel_rfl)
theorem k189 : Fact 189 := fact_off (l := 390) (by kernel_rfl) (by kernel_rfl)
theorem fact_all : AllFrom Fact 0 190 := ⟨k0, ⟨k1, ⟨k2, ⟨k3, ⟨k4, ⟨k5, ⟨k6, ⟨k7, ⟨k8, ⟨k9, ⟨k10, ⟨k11, ⟨k12, ⟨k13, ⟨k14, ⟨k15, ⟨k16, ⟨k17, ⟨k18, ⟨k19, ⟨k20, ⟨k21, ⟨k22, ⟨k23, ⟨k24, ⟨k25, ⟨k26, ⟨k27, ⟨k28, ⟨k29, ⟨k30, ⟨k31, ⟨k32, ⟨k33, ⟨k34, ⟨k35, ⟨k36, ⟨k37, ⟨k38, ⟨k39, ⟨k40, ⟨k41, ⟨k42, ⟨k43, ⟨k44, ⟨k45, ⟨k46, ⟨k47, ⟨k48, ⟨k49, ⟨k50, ⟨k51, ⟨k52, ⟨k53, ⟨k54, ⟨k55, ⟨k56, ⟨k57, ⟨k58, ⟨k59, ⟨k60, ⟨k61, ⟨k62, ⟨k63, ⟨k64, ⟨k65, ⟨k66, ⟨k67, ⟨k68, ⟨k69, ⟨k70, ⟨k71, ⟨k72, ⟨k73, ⟨k74, ⟨k75, ⟨k76, ⟨k77, ⟨k78, ⟨k79, ⟨k80, ⟨k81, ⟨k82, ⟨k83, ⟨k84, ⟨k85, ⟨k86, ⟨k87, ⟨k88, ⟨k89, ⟨k90, ⟨k91, ⟨k92, ⟨k93, ⟨k94, ⟨k95, ⟨k96, ⟨k97, ⟨k98, ⟨k99, ⟨k100, ⟨k101, ⟨k102, ⟨k103, ⟨k104, ⟨k105, ⟨k106, ⟨k107, ⟨k108, ⟨k109, ⟨k110, ⟨k111, ⟨k112, ⟨k113, ⟨k114, ⟨k115, ⟨k116, ⟨k117, ⟨k118, ⟨k119, ⟨k120, ⟨k121, ⟨k122, ⟨k123, ⟨k124, ⟨k125, ⟨k126, ⟨k127, ⟨k128, ⟨k129, ⟨k130, ⟨k131, ⟨k132, ⟨k133, ⟨k134, ⟨k135, ⟨k136, ⟨k137, ⟨k138, ⟨k139, ⟨k140, ⟨k141, ⟨k142, ⟨k143, ⟨k144, ⟨k145, ⟨k146, ⟨k147, ⟨k148, ⟨k149, ⟨k150, ⟨k151, ⟨k152, ⟨k153, ⟨k154, ⟨k155, ⟨k156, ⟨k157, ⟨k158, ⟨k159, ⟨k160, ⟨k161, ⟨k162, ⟨k163, ⟨k164, ⟨k165, ⟨k166, ⟨k167, ⟨k168, ⟨k169, ⟨k170, ⟨k171, ⟨k172, ⟨k173, ⟨k174, ⟨k175, ⟨k176, ⟨k177, ⟨k178, ⟨k179, ⟨k180, ⟨k181, ⟨k182, ⟨k183, ⟨k184, ⟨k185, ⟨k186, ⟨k187, ⟨k188, ⟨k189, trivial⟩⟩⟩⟩⟩⟩⟩⟩⟩⟩⟩⟩⟩⟩⟩⟩⟩⟩⟩⟩⟩⟩⟩⟩⟩⟩⟩⟩⟩⟩⟩⟩⟩⟩⟩⟩⟩⟩⟩⟩⟩⟩⟩⟩⟩⟩⟩⟩⟩⟩⟩⟩⟩⟩⟩⟩⟩⟩⟩⟩⟩⟩⟩⟩⟩⟩⟩⟩⟩⟩⟩⟩⟩⟩⟩⟩⟩⟩⟩⟩⟩⟩⟩⟩⟩⟩⟩⟩⟩⟩⟩⟩⟩⟩⟩⟩⟩⟩⟩⟩⟩⟩⟩⟩⟩⟩⟩⟩⟩⟩⟩⟩⟩⟩⟩⟩⟩⟩⟩⟩⟩⟩⟩⟩⟩⟩⟩⟩⟩⟩⟩⟩⟩⟩⟩⟩⟩⟩⟩⟩⟩⟩⟩⟩⟩⟩⟩⟩⟩⟩⟩⟩⟩⟩⟩⟩⟩⟩⟩⟩⟩⟩⟩⟩⟩⟩⟩⟩⟩⟩⟩⟩⟩⟩⟩⟩⟩⟩⟩⟩⟩⟩⟩⟩⟩⟩⟩⟩⟩⟩
end Go.Ab.Grid
