/- Each function's abstract form is that of the given program. -/
import Derived.Test.YtekljelnebadeaaGreatZ03
import Derived.Test.YtekljelnebadeaaGreatZ08
import Derived.Test.YtekljelnebadeaaGreatProg
import Derived.KernelRfl
set_option linter.unusedSimpArgs false
set_option linter.unusedVariables false
set_option linter.unusedSectionVars false
set_option maxRecDepth 100000
namespace Go.Ab.Gauge
open Go Go.Ab Go.Proofs
def Fact (f : Nat) : Prop := ∀ af, AP (lab f) = some af → ∃ fn, Tryz.prog.funcs[f]? = some fn ∧ compFunc Tryz.prog lab fn = some af
theorem c5 : compFunc Tryz.prog lab Tryz.f5 = some F393 := by kernel_rfl
theorem c13 : compFunc Tryz.prog lab Tryz.f13 = some F401 := by kernel_rfl
theorem c14 : compFunc Tryz.prog lab Tryz.f14 = some F402 := by kernel_rfl
theorem c15 : compFunc Tryz.prog lab Tryz.f15 = some F403 := by kernel_rfl
theorem c17 : compFunc Tryz.prog lab Tryz.f17 = some F405 := by kernel_rfl
theorem c19 : compFunc Tryz.prog lab Tryz.f19 = some F407 := by kernel_rfl
theorem c21 : compFunc Tryz.prog lab Tryz.f21 = some F409 := by kernel_rfl
theorem c22 : compFunc Tryz.prog lab Tryz.f22 = some F410 := by kernel_rfl
theorem c23 : compFunc Tryz.prog lab Tryz.f23 = some F411 := by kernel_rfl
theorem c24 : compFunc Tryz.prog lab Tryz.f24 = some F412 := by kernel_rfl
theorem c25 : compFunc Tryz.prog lab Tryz.f25 = some F413 := by kernel_rfl
theorem c30 : compFunc Tryz.prog lab Tryz.f30 = some F418 := by kernel_rfl
theorem c34 : compFunc Tryz.prog lab Tryz.f34 = some F422 := by kernel_rfl
theorem c35 : compFunc Tryz.prog lab Tryz.f35 = some F423 := by kernel_rfl
theorem c36 : compFunc Tryz.prog lab Tryz.f36 = some F424 := by kernel_rfl
theorem c40 : compFunc Tryz.prog lab Tryz.f40 = some F428 := by kernel_rfl
theorem c42 : compFunc Tryz.prog lab Tryz.f42 = some F430 := by kernel_rfl
theorem c49 : compFunc Tryz.prog lab Tryz.f49 = some F437 := by kernel_rfl
theorem c50 : compFunc Tryz.prog lab Tryz.f50 = some F438 := by kernel_rfl
theorem c51 : compFunc Tryz.prog lab Tryz.f51 = some F439 := by kernel_rfl
theorem c52 : compFunc Tryz.prog lab Tryz.f52 = some F440 := by kernel_rfl
theorem c53 : compFunc Tryz.prog lab Tryz.f53 = some F441 := by kernel_rfl
theorem c54 : compFunc Tryz.prog lab Tryz.f54 = some F442 := by kernel_rfl
theorem c56 : compFunc Tryz.prog lab Tryz.f56 = some F444 := by kernel_rfl
theorem c57 : compFunc Tryz.prog lab Tryz.f57 = some F445 := by kernel_rfl
theorem c58 : compFunc Tryz.prog lab Tryz.f58 = some F446 := by kernel_rfl
theorem c59 : compFunc Tryz.prog lab Tryz.f59 = some F447 := by kernel_rfl
theorem c60 : compFunc Tryz.prog lab Tryz.f60 = some F40 := by kernel_rfl
theorem c61 : compFunc Tryz.prog lab Tryz.f61 = some F448 := by kernel_rfl
theorem c62 : compFunc Tryz.prog lab Tryz.f62 = some F449 := by kernel_rfl
theorem c63 : compFunc Tryz.prog lab Tryz.f63 = some F450 := by kernel_rfl
theorem c64 : compFunc Tryz.prog lab Tryz.f64 = some F15 := by kernel_rfl
theorem c65 : compFunc Tryz.prog lab Tryz.f65 = some F451 := by kernel_rfl
theorem c69 : compFunc Tryz.prog lab Tryz.f69 = some F455 := by kernel_rfl
theorem c70 : compFunc Tryz.prog lab Tryz.f70 = some F456 := by kernel_rfl
theorem c71 : compFunc Tryz.prog lab Tryz.f71 = some F457 := by kernel_rfl
theorem c72 : compFunc Tryz.prog lab Tryz.f72 = some F458 := by kernel_rfl
theorem c73 : compFunc Tryz.prog lab Tryz.f73 = some F459 := by kernel_rfl
theorem c77 : compFunc Tryz.prog lab Tryz.f77 = some F462 := by kernel_rfl
theorem c78 : compFunc Tryz.prog lab Tryz.f78 = some F463 := by kernel_rfl
theorem c79 : compFunc Tryz.prog lab Tryz.f79 = some F174 := by kernel_rfl
theorem c80 : compFunc Tryz.prog lab Tryz.f80 = some F464 := by kernel_rfl
theorem c81 : compFunc Tryz.prog lab Tryz.f81 = some F465 := by kernel_rfl
theorem c82 : compFunc Tryz.prog lab Tryz.f82 = some F466 := by kernel_rfl
theorem c84 : compFunc Tryz.prog lab Tryz.f84 = some F468 := by kernel_rfl
theorem c85 : compFunc Tryz.prog lab Tryz.f85 = some F16 := by kernel_rfl
theorem c87 : compFunc Tryz.prog lab Tryz.f87 = some F470 := by kernel_rfl
theorem c88 : compFunc Tryz.prog lab Tryz.f88 = some F471 := by kernel_rfl
theorem c89 : compFunc Tryz.prog lab Tryz.f89 = some F472 := by kernel_rfl
theorem c90 : compFunc Tryz.prog lab Tryz.f90 = some F473 := by kernel_rfl
theorem c91 : compFunc Tryz.prog lab Tryz.f91 = some F474 := by kernel_rfl
theorem c92 : compFunc Tryz.prog lab Tryz.f92 = some F475 := by kernel_rfl
theorem c93 : compFunc Tryz.prog lab Tryz.f93 = some F37 := by kernel_rfl
theorem c94 : compFunc Tryz.prog lab Tryz.f94 = some F476 := by kernel_rfl
theorem c95 : compFunc Tryz.prog lab Tryz.f95 = some F13 := by kernel_rfl
theorem c96 : compFunc Tryz.prog lab Tryz.f96 = some F477 := by kernel_rfl
theorem c97 : compFunc Tryz.prog lab Tryz.f97 = some F478 := by kernel_rfl
theorem c98 : compFunc Tryz.prog lab Tryz.f98 = some F479 := by kernel_rfl
theorem c99 : compFunc Tryz.prog lab Tryz.f99 = some F480 := by kernel_rfl
theorem c100 : compFunc Tryz.prog lab Tryz.f100 = some F59 := by kernel_rfl
theorem c101 : compFunc Tryz.prog lab Tryz.f101 = some F481 := by kernel_rfl
theorem c102 : compFunc Tryz.prog lab Tryz.f102 = some F43 := by kernel_rfl
theorem c105 : compFunc Tryz.prog lab Tryz.f105 = some F484 := by kernel_rfl
theorem c109 : compFunc Tryz.prog lab Tryz.f109 = some F487 := by kernel_rfl
theorem c110 : compFunc Tryz.prog lab Tryz.f110 = some F488 := by kernel_rfl
theorem c111 : compFunc Tryz.prog lab Tryz.f111 = some F489 := by kernel_rfl
theorem c112 : compFunc Tryz.prog lab Tryz.f112 = some F490 := by kernel_rfl
theorem c113 : compFunc Tryz.prog lab Tryz.f113 = some F44 := by kernel_rfl
theorem c114 : compFunc Tryz.prog lab Tryz.f114 = some F38 := by kernel_rfl
theorem c115 : compFunc Tryz.prog lab Tryz.f115 = some F45 := by kernel_rfl
theorem c116 : compFunc Tryz.prog lab Tryz.f116 = some F39 := by kernel_rfl
theorem c118 : compFunc Tryz.prog lab Tryz.f118 = some F492 := by kernel_rfl
theorem c119 : compFunc Tryz.prog lab Tryz.f119 = some F493 := by kernel_rfl
theorem c120 : compFunc Tryz.prog lab Tryz.f120 = some F494 := by kernel_rfl
theorem c121 : compFunc Tryz.prog lab Tryz.f121 = some F495 := by kernel_rfl
theorem c122 : compFunc Tryz.prog lab Tryz.f122 = some F55 := by kernel_rfl
theorem c123 : compFunc Tryz.prog lab Tryz.f123 = some F56 := by kernel_rfl
theorem c124 : compFunc Tryz.prog lab Tryz.f124 = some F57 := by kernel_rfl
theorem c125 : compFunc Tryz.prog lab Tryz.f125 = some F58 := by kernel_rfl
theorem c126 : compFunc Tryz.prog lab Tryz.f126 = some F42 := by kernel_rfl
theorem c127 : compFunc Tryz.prog lab Tryz.f127 = some F496 := by kernel_rfl
theorem c128 : compFunc Tryz.prog lab Tryz.f128 = some F497 := by kernel_rfl
theorem c129 : compFunc Tryz.prog lab Tryz.f129 = some F498 := by kernel_rfl
theorem c135 : compFunc Tryz.prog lab Tryz.f135 = some F501 := by kernel_rfl
theorem c136 : compFunc Tryz.prog lab Tryz.f136 = some F502 := by kernel_rfl
theorem c137 : compFunc Tryz.prog lab Tryz.f137 = some F503 := by kernel_rfl
theorem c138 : compFunc Tryz.prog lab Tryz.f138 = some F60 := by kernel_rfl
theorem c139 : compFunc Tryz.prog lab Tryz.f139 = some F61 := by kernel_rfl
theorem c140 : compFunc Tryz.prog lab Tryz.f140 = some F62 := by kernel_rfl
theorem c141 : compFunc Tryz.prog lab Tryz.f141 = some F63 := by kernel_rfl
theorem c142 : compFunc Tryz.prog lab Tryz.f142 = some F64 := by kernel_rfl
theorem c143 : compFunc Tryz.prog lab Tryz.f143 = some F65 := by kernel_rfl
theorem c144 : compFunc Tryz.prog lab Tryz.f144 = some F66 := by kernel_rfl
theorem c145 : compFunc Tryz.prog lab Tryz.f145 = some F67 := by kernel_rfl
theorem c146 : compFunc Tryz.prog lab Tryz.f146 = some F68 := by kernel_rfl
theorem c147 : compFunc Tryz.prog lab Tryz.f147 = some F504 := by kernel_rfl
theorem c148 : compFunc Tryz.prog lab Tryz.f148 = some F209 := by kernel_rfl
theorem c149 : compFunc Tryz.prog lab Tryz.f149 = some F82 := by kernel_rfl
theorem c150 : compFunc Tryz.prog lab Tryz.f150 = some F505 := by kernel_rfl
theorem c151 : compFunc Tryz.prog lab Tryz.f151 = some F506 := by kernel_rfl
theorem c152 : compFunc Tryz.prog lab Tryz.f152 = some F507 := by kernel_rfl
theorem c153 : compFunc Tryz.prog lab Tryz.f153 = some F508 := by kernel_rfl
theorem c154 : compFunc Tryz.prog lab Tryz.f154 = some F509 := by kernel_rfl
theorem c162 : compFunc Tryz.prog lab Tryz.f162 = some F513 := by kernel_rfl
theorem c163 : compFunc Tryz.prog lab Tryz.f163 = some F83 := by kernel_rfl
theorem c164 : compFunc Tryz.prog lab Tryz.f164 = some F84 := by kernel_rfl
theorem c165 : compFunc Tryz.prog lab Tryz.f165 = some F85 := by kernel_rfl
theorem c166 : compFunc Tryz.prog lab Tryz.f166 = some F86 := by kernel_rfl
theorem c167 : compFunc Tryz.prog lab Tryz.f167 = some F87 := by kernel_rfl
theorem c168 : compFunc Tryz.prog lab Tryz.f168 = some F88 := by kernel_rfl
theorem c169 : compFunc Tryz.prog lab Tryz.f169 = some F89 := by kernel_rfl
theorem c170 : compFunc Tryz.prog lab Tryz.f170 = some F90 := by kernel_rfl
theorem c171 : compFunc Tryz.prog lab Tryz.f171 = some F91 := by kernel_rfl
theorem c172 : compFunc Tryz.prog lab Tryz.f172 = some F514 := by kernel_rfl
theorem c173 : compFunc Tryz.prog lab Tryz.f173 = some F515 := by kernel_rfl
theorem c174 : compFunc Tryz.prog lab Tryz.f174 = some F516 := by kernel_rfl
theorem c175 : compFunc Tryz.prog lab Tryz.f175 = some F517 := by kernel_rfl
theorem c176 : compFunc Tryz.prog lab Tryz.f176 = some F518 := by kernel_rfl
theorem c177 : compFunc Tryz.prog lab Tryz.f177 = some F519 := by kernel_rfl
theorem c178 : compFunc Tryz.prog lab Tryz.f178 = some F520 := by kernel_rfl
theorem c179 : compFunc Tryz.prog lab Tryz.f179 = some F521 := by kernel_rfl
theorem c180 : compFunc Tryz.prog lab Tryz.f180 = some F522 := by kernel_rfl
theorem c181 : compFunc Tryz.prog lab Tryz.f181 = some F219 := by kernel_rfl
theorem c182 : compFunc Tryz.prog lab Tryz.f182 = some F220 := by kernel_rfl
theorem c183 : compFunc Tryz.prog lab Tryz.f183 = some F523 := by kernel_rfl
theorem c184 : compFunc Tryz.prog lab Tryz.f184 = some F524 := by kernel_rfl
theorem c185 : compFunc Tryz.prog lab Tryz.f185 = some F525 := by kernel_rfl
theorem c201 : compFunc Tryz.prog lab Tryz.f201 = some F93 := by kernel_rfl
theorem c202 : compFunc Tryz.prog lab Tryz.f202 = some F94 := by kernel_rfl
theorem c203 : compFunc Tryz.prog lab Tryz.f203 = some F95 := by kernel_rfl
theorem c204 : compFunc Tryz.prog lab Tryz.f204 = some F96 := by kernel_rfl
theorem c205 : compFunc Tryz.prog lab Tryz.f205 = some F97 := by kernel_rfl
theorem c206 : compFunc Tryz.prog lab Tryz.f206 = some F98 := by kernel_rfl
theorem c207 : compFunc Tryz.prog lab Tryz.f207 = some F99 := by kernel_rfl
theorem c208 : compFunc Tryz.prog lab Tryz.f208 = some F100 := by kernel_rfl
theorem c209 : compFunc Tryz.prog lab Tryz.f209 = some F101 := by kernel_rfl
theorem c210 : compFunc Tryz.prog lab Tryz.f210 = some F102 := by kernel_rfl
theorem c211 : compFunc Tryz.prog lab Tryz.f211 = some F103 := by kernel_rfl
theorem c212 : compFunc Tryz.prog lab Tryz.f212 = some F104 := by kernel_rfl
theorem c213 : compFunc Tryz.prog lab Tryz.f213 = some F105 := by kernel_rfl
theorem c214 : compFunc Tryz.prog lab Tryz.f214 = some F106 := by kernel_rfl
theorem c215 : compFunc Tryz.prog lab Tryz.f215 = some F528 := by kernel_rfl
theorem c216 : compFunc Tryz.prog lab Tryz.f216 = some F222 := by kernel_rfl
theorem c217 : compFunc Tryz.prog lab Tryz.f217 = some F223 := by kernel_rfl
theorem c218 : compFunc Tryz.prog lab Tryz.f218 = some F529 := by kernel_rfl
theorem c219 : compFunc Tryz.prog lab Tryz.f219 = some F530 := by kernel_rfl
theorem c220 : compFunc Tryz.prog lab Tryz.f220 = some F531 := by kernel_rfl
theorem c221 : compFunc Tryz.prog lab Tryz.f221 = some F532 := by kernel_rfl
theorem c222 : compFunc Tryz.prog lab Tryz.f222 = some F533 := by kernel_rfl
theorem c225 : compFunc Tryz.prog lab Tryz.f225 = some F107 := by kernel_rfl
theorem c226 : compFunc Tryz.prog lab Tryz.f226 = some F108 := by kernel_rfl
theorem c227 : compFunc Tryz.prog lab Tryz.f227 = some F109 := by kernel_rfl
theorem c228 : compFunc Tryz.prog lab Tryz.f228 = some F110 := by kernel_rfl
theorem c229 : compFunc Tryz.prog lab Tryz.f229 = some F535 := by kernel_rfl
theorem c230 : compFunc Tryz.prog lab Tryz.f230 = some F536 := by kernel_rfl
theorem c231 : compFunc Tryz.prog lab Tryz.f231 = some F537 := by kernel_rfl
theorem c232 : compFunc Tryz.prog lab Tryz.f232 = some F538 := by kernel_rfl
theorem c234 : compFunc Tryz.prog lab Tryz.f234 = some F111 := by kernel_rfl
theorem c235 : compFunc Tryz.prog lab Tryz.f235 = some F112 := by kernel_rfl
theorem c236 : compFunc Tryz.prog lab Tryz.f236 = some F540 := by kernel_rfl
theorem c237 : compFunc Tryz.prog lab Tryz.f237 = some F541 := by kernel_rfl
theorem c238 : compFunc Tryz.prog lab Tryz.f238 = some F542 := by kernel_rfl
theorem c239 : compFunc Tryz.prog lab Tryz.f239 = some F113 := by kernel_rfl
theorem c240 : compFunc Tryz.prog lab Tryz.f240 = some F114 := by kernel_rfl
theorem c241 : compFunc Tryz.prog lab Tryz.f241 = some F543 := by kernel_rfl
theorem fact_of {f l : Nat} {fn : Func} {af : AFunc} (hl : lab f = l) (ha : AP l = some af) (hf : Tryz.prog.funcs[f]? = some fn) (hc : compFunc Tryz.prog lab fn = some af) : Fact f := fun af' h => by
  rw [hl, ha] at h; cases h; exact ⟨fn, hf, hc⟩
theorem fact_off {f l : Nat} (hl : lab f = l) (ha : AP l = none) : Fact f := fun af' h => by
  rw [hl, ha] at h; cases h
theorem fact_no {f : Nat} (hl : lab f = 0) : Fact f := fun af' h => by
  rw [hl] at h; cases h
theorem k0 : Fact 0 := fact_no (by kernel_rfl)
theorem k1 : Fact 1 := fact_no (by kernel_rfl)
theorem k2 : Fact 2 := fact_off (l := 1) (by kernel_rfl) (by kernel_rfl)
theorem k3 : Fact 3 := fact_off (l := 391) (by kernel_rfl) (by kernel_rfl)
theorem k4 : Fact 4 := fact_off (l := 392) (by kernel_rfl) (by kernel_rfl)
theorem k5 : Fact 5 := fact_of (l := 393) (af := F393) (by kernel_rfl) (by kernel_rfl) Tryz.func5 c5
theorem k6 : Fact 6 := fact_off (l := 394) (by kernel_rfl) (by kernel_rfl)
theorem k7 : Fact 7 := fact_off (l := 395) (by kernel_rfl) (by kernel_rfl)
theorem k8 : Fact 8 := fact_off (l := 396) (by kernel_rfl) (by kernel_rfl)
theorem k9 : Fact 9 := fact_off (l := 397) (by kernel_rfl) (by kernel_rfl)
theorem k10 : Fact 10 := fact_off (l := 398) (by kernel_rfl) (by kernel_rfl)
theorem k11 : Fact 11 := fact_off (l := 399) (by kernel_rfl) (by kernel_rfl)
theorem k12 : Fact 12 := fact_off (l := 400) (by kernel_rfl) (by kernel_rfl)
theorem k13 : Fact 13 := fact_of (l := 401) (af := F401) (by kernel_rfl) (by kernel_rfl) Tryz.func13 c13
theorem k14 : Fact 14 := fact_of (l := 402) (af := F402) (by kernel_rfl) (by kernel_rfl) Tryz.func14 c14
theorem k15 : Fact 15 := fact_of (l := 403) (af := F403) (by kernel_rfl) (by kernel_rfl) Tryz.func15 c15
theorem k16 : Fact 16 := fact_off (l := 404) (by kernel_rfl) (by kernel_rfl)
theorem k17 : Fact 17 := fact_of (l := 405) (af := F405) (by kernel_rfl) (by kernel_rfl) Tryz.func17 c17
theorem k18 : Fact 18 := fact_off (l := 406) (by kernel_rfl) (by kernel_rfl)
theorem k19 : Fact 19 := fact_of (l := 407) (af := F407) (by kernel_rfl) (by kernel_rfl) Tryz.func19 c19
theorem k20 : Fact 20 := fact_off (l := 408) (by kernel_rfl) (by kernel_rfl)
theorem k21 : Fact 21 := fact_of (l := 409) (af := F409) (by kernel_rfl) (by kernel_rfl) Tryz.func21 c21
theorem k22 : Fact 22 := fact_of (l := 410) (af := F410) (by kernel_rfl) (by kernel_rfl) Tryz.func22 c22
theorem k23 : Fact 23 := fact_of (l := 411) (af := F411) (by kernel_rfl) (by kernel_rfl) Tryz.func23 c23
theorem k24 : Fact 24 := fact_of (l := 412) (af := F412) (by kernel_rfl) (by kernel_rfl) Tryz.func24 c24
theorem k25 : Fact 25 := fact_of (l := 413) (af := F413) (by kernel_rfl) (by kernel_rfl) Tryz.func25 c25
theorem k26 : Fact 26 := fact_off (l := 414) (by kernel_rfl) (by kernel_rfl)
theorem k27 : Fact 27 := fact_off (l := 415) (by kernel_rfl) (by kernel_rfl)
theorem k28 : Fact 28 := fact_off (l := 416) (by kernel_rfl) (by kernel_rfl)
theorem k29 : Fact 29 := fact_off (l := 417) (by kernel_rfl) (by kernel_rfl)
theorem k30 : Fact 30 := fact_of (l := 418) (af := F418) (by kernel_rfl) (by kernel_rfl) Tryz.func30 c30
theorem k31 : Fact 31 := fact_off (l := 419) (by kernel_rfl) (by kernel_rfl)
theorem k32 : Fact 32 := fact_off (l := 420) (by kernel_rfl) (by kernel_rfl)
theorem k33 : Fact 33 := fact_off (l := 421) (by kernel_rfl) (by kernel_rfl)
theorem k34 : Fact 34 := fact_of (l := 422) (af := F422) (by kernel_rfl) (by kernel_rfl) Tryz.func34 c34
theorem k35 : Fact 35 := fact_of (l := 423) (af := F423) (by kernel_rfl) (by kernel_rfl) Tryz.func35 c35
theorem k36 : Fact 36 := fact_of (l := 424) (af := F424) (by kernel_rfl) (by kernel_rfl) Tryz.func36 c36
theorem k37 : Fact 37 := fact_off (l := 425) (by kernel_rfl) (by kernel_rfl)
theorem k38 : Fact 38 := fact_off (l := 426) (by kernel_rfl) (by kernel_rfl)
theorem k39 : Fact 39 := fact_off (l := 427) (by kernel_rfl) (by kernel_rfl)
theorem k40 : Fact 40 := fact_of (l := 428) (af := F428) (by kernel_rfl) (by kernel_rfl) Tryz.func40 c40
theorem k41 : Fact 41 := fact_off (l := 429) (by kernel_rfl) (by kernel_rfl)
theorem k42 : Fact 42 := fact_of (l := 430) (af := F430) (by kernel_rfl) (by kernel_rfl) Tryz.func42 c42
theorem k43 : Fact 43 := fact_off (l := 431) (by kernel_rfl) (by kernel_rfl)
theorem k44 : Fact 44 := fact_off (l := 432) (by kernel_rfl) (by kernel_rfl)
theorem k45 : Fact 45 := fact_off (l := 433) (by kernel_rfl) (by kernel_rfl)
theorem k46 : Fact 46 := fact_off (l := 434) (by kernel_rfl) (by kernel_rfl)
theorem k47 : Fact 47 := fact_off (l := 435) (by kernel_rfl) (by kernel_rfl)
theorem k48 : Fact 48 := fact_off (l := 436) (by kernel_rfl) (by kernel_rfl)
theorem k49 : Fact 49 := fact_of (l := 437) (af := F437) (by kernel_rfl) (by kernel_rfl) Tryz.func49 c49
theorem k50 : Fact 50 := fact_of (l := 438) (af := F438) (by kernel_rfl) (by kernel_rfl) Tryz.func50 c50
theorem k51 : Fact 51 := fact_of (l := 439) (af := F439) (by kernel_rfl) (by kernel_rfl) Tryz.func51 c51
theorem k52 : Fact 52 := fact_of (l := 440) (af := F440) (by kernel_rfl) (by kernel_rfl) Tryz.func52 c52
theorem k53 : Fact 53 := fact_of (l := 441) (af := F441) (by kernel_rfl) (by kernel_rfl) Tryz.func53 c53
theorem k54 : Fact 54 := fact_of (l := 442) (af := F442) (by kernel_rfl) (by kernel_rfl) Tryz.func54 c54
theorem k55 : Fact 55 := fact_off (l := 443) (by kernel_rfl) (by kernel_rfl)
theorem k56 : Fact 56 := fact_of (l := 444) (af := F444) (by kernel_rfl) (by kernel_rfl) Tryz.func56 c56
theorem k57 : Fact 57 := fact_of (l := 445) (af := F445) (by kernel_rfl) (by kernel_rfl) Tryz.func57 c57
theorem k58 : Fact 58 := fact_of (l := 446) (af := F446) (by kernel_rfl) (by kernel_rfl) Tryz.func58 c58
theorem k59 : Fact 59 := fact_of (l := 447) (af := F447) (by kernel_rfl) (by kernel_rfl) Tryz.func59 c59
theorem k60 : Fact 60 := fact_of (l := 40) (af := F40) (by kernel_rfl) (by kernel_rfl) Tryz.func60 c60
theorem k61 : Fact 61 := fact_of (l := 448) (af := F448) (by kernel_rfl) (by kernel_rfl) Tryz.func61 c61
theorem k62 : Fact 62 := fact_of (l := 449) (af := F449) (by kernel_rfl) (by kernel_rfl) Tryz.func62 c62
theorem k63 : Fact 63 := fact_of (l := 450) (af := F450) (by kernel_rfl) (by kernel_rfl) Tryz.func63 c63
theorem k64 : Fact 64 := fact_of (l := 15) (af := F15) (by kernel_rfl) (by kernel_rfl) Tryz.func64 c64
theorem k65 : Fact 65 := fact_of (l := 451) (af := F451) (by kernel_rfl) (by kernel_rfl) Tryz.func65 c65
theorem k66 : Fact 66 := fact_off (l := 452) (by kernel_rfl) (by kernel_rfl)
theorem k67 : Fact 67 := fact_off (l := 453) (by kernel_rfl) (by kernel_rfl)
theorem k68 : Fact 68 := fact_off (l := 454) (by kernel_rfl) (by kernel_rfl)
theorem k69 : Fact 69 := fact_of (l := 455) (af := F455) (by kernel_rfl) (by kernel_rfl) Tryz.func69 c69
theorem k70 : Fact 70 := fact_of (l := 456) (af := F456) (by kernel_rfl) (by kernel_rfl) Tryz.func70 c70
theorem k71 : Fact 71 := fact_of (l := 457) (af := F457) (by kernel_rfl) (by kernel_rfl) Tryz.func71 c71
theorem k72 : Fact 72 := fact_of (l := 458) (af := F458) (by kernel_rfl) (by kernel_rfl) Tryz.func72 c72
theorem k73 : Fact 73 := fact_of (l := 459) (af := F459) (by kernel_rfl) (by kernel_rfl) Tryz.func73 c73
theorem k74 : Fact 74 := fact_off (l := 41) (by kernel_rfl) (by kernel_rfl)
theorem k75 : Fact 75 := fact_off (l := 460) (by kernel_rfl) (by kernel_rfl)
theorem k76 : Fact 76 := fact_off (l := 461) (by kernel_rfl) (by kernel_rfl)
theorem k77 : Fact 77 := fact_of (l := 462) (af := F462) (by kernel_rfl) (by kernel_rfl) Tryz.func77 c77
theorem k78 : Fact 78 := fact_of (l := 463) (af := F463) (by kernel_rfl) (by kernel_rfl) Tryz.func78 c78
theorem k79 : Fact 79 := fact_of (l := 174) (af := F174) (by kernel_rfl) (by kernel_rfl) Tryz.func79 c79
theorem k80 : Fact 80 := fact_of (l := 464) (af := F464) (by kernel_rfl) (by kernel_rfl) Tryz.func80 c80
theorem k81 : Fact 81 := fact_of (l := 465) (af := F465) (by kernel_rfl) (by kernel_rfl) Tryz.func81 c81
theorem k82 : Fact 82 := fact_of (l := 466) (af := F466) (by kernel_rfl) (by kernel_rfl) Tryz.func82 c82
theorem k83 : Fact 83 := fact_off (l := 467) (by kernel_rfl) (by kernel_rfl)
theorem k84 : Fact 84 := fact_of (l := 468) (af := F468) (by kernel_rfl) (by kernel_rfl) Tryz.func84 c84
theorem k85 : Fact 85 := fact_of (l := 16) (af := F16) (by kernel_rfl) (by kernel_rfl) Tryz.func85 c85
theorem k86 : Fact 86 := fact_off (l := 469) (by kernel_rfl) (by kernel_rfl)
theorem k87 : Fact 87 := fact_of (l := 470) (af := F470) (by kernel_rfl) (by kernel_rfl) Tryz.func87 c87
theorem k88 : Fact 88 := fact_of (l := 471) (af := F471) (by kernel_rfl) (by kernel_rfl) Tryz.func88 c88
theorem k89 : Fact 89 := fact_of (l := 472) (af := F472) (by kernel_rfl) (by kernel_rfl) Tryz.func89 c89
theorem k90 : Fact 90 := fact_of (l := 473) (af := F473) (by kernel_rfl) (by kernel_rfl) Tryz.func90 c90
theorem k91 : Fact 91 := fact_of (l := 474) (af := F474) (by kernel_rfl) (by kernel_rfl) Tryz.func91 c91
theorem k92 : Fact 92 := fact_of (l := 475) (af := F475) (by kernel_rfl) (by kernel_rfl) Tryz.func92 c92
theorem k93 : Fact 93 := fact_of (l := 37) (af := F37) (by kernel_rfl) (by kernel_rfl) Tryz.func93 c93
theorem k94 : Fact 94 := fact_of (l := 476) (af := F476) (by kernel_rfl) (by kernel_rfl) Tryz.func94 c94
theorem k95 : Fact 95 := fact_of (l := 13) (af := F13) (by kernel_rfl) (by kernel_rfl) Tryz.func95 c95
theorem k96 : Fact 96 := fact_of (l := 477) (af := F477) (by kernel_rfl) (by kernel_rfl) Tryz.func96 c96
theorem k97 : Fact 97 := fact_of (l := 478) (af := F478) (by kernel_rfl) (by kernel_rfl) Tryz.func97 c97
theorem k98 : Fact 98 := fact_of (l := 479) (af := F479) (by kernel_rfl) (by kernel_rfl) Tryz.func98 c98
theorem k99 : Fact 99 := fact_of (l := 480) (af := F480) (by kernel_rfl) (by kernel_rfl) Tryz.func99 c99
theorem k100 : Fact 100 := fact_of (l := 59) (af := F59) (by kernel_rfl) (by kernel_rfl) Tryz.func100 c100
theorem k101 : Fact 101 := fact_of (l := 481) (af := F481) (by kernel_rfl) (by kernel_rfl) Tryz.func101 c101
theorem k102 : Fact 102 := fact_of (l := 43) (af := F43) (by kernel_rfl) (by kernel_rfl) Tryz.func102 c102
theorem k103 : Fact 103 := fact_off (l := 482) (by kernel_rfl) (by kernel_rfl)
theorem k104 : Fact 104 := fact_off (l := 483) (by kernel_rfl) (by kernel_rfl)
theorem k105 : Fact 105 := fact_of (l := 484) (af := F484) (by kernel_rfl) (by kernel_rfl) Tryz.func105 c105
theorem k106 : Fact 106 := fact_off (l := 485) (by kernel_rfl) (by kernel_rfl)
theorem k107 : Fact 107 := fact_off (l := 486) (by kernel_rfl) (by kernel_rfl)
theorem k108 : Fact 108 := fact_off (l := 17) (by kernel_rfl) (by kernel_rfl)
theorem k109 : Fact 109 := fact_of (l := 487) (af := F487) (by kernel_rfl) (by kernel_rfl) Tryz.func109 c109
theorem k110 : Fact 110 := fact_of (l := 488) (af := F488) (by kernel_rfl) (by kernel_rfl) Tryz.func110 c110
theorem k111 : Fact 111 := fact_of (l := 489) (af := F489) (by kernel_rfl) (by kernel_rfl) Tryz.func111 c111
theorem k112 : Fact 112 := fact_of (l := 490) (af := F490) (by kernel_rfl) (by kernel_rfl) Tryz.func112 c112
theorem k113 : Fact 113 := fact_of (l := 44) (af := F44) (by kernel_rfl) (by kernel_rfl) Tryz.func113 c113
theorem k114 : Fact 114 := fact_of (l := 38) (af := F38) (by kernel_rfl) (by kernel_rfl) Tryz.func114 c114
theorem k115 : Fact 115 := fact_of (l := 45) (af := F45) (by kernel_rfl) (by kernel_rfl) Tryz.func115 c115
theorem k116 : Fact 116 := fact_of (l := 39) (af := F39) (by kernel_rfl) (by kernel_rfl) Tryz.func116 c116
theorem k117 : Fact 117 := fact_off (l := 491) (by kernel_rfl) (by kernel_rfl)
theorem k118 : Fact 118 := fact_of (l := 492) (af := F492) (by kernel_rfl) (by kernel_rfl) Tryz.func118 c118
theorem k119 : Fact 119 := fact_of (l := 493) (af := F493) (by kernel_rfl) (by kernel_rfl) Tryz.func119 c119
theorem k120 : Fact 120 := fact_of (l := 494) (af := F494) (by kernel_rfl) (by kernel_rfl) Tryz.func120 c120
theorem k121 : Fact 121 := fact_of (l := 495) (af := F495) (by kernel_rfl) (by kernel_rfl) Tryz.func121 c121
theorem k122 : Fact 122 := fact_of (l := 55) (af := F55) (by kernel_rfl) (by kernel_rfl) Tryz.func122 c122
theorem k123 : Fact 123 := fact_of (l := 56) (af := F56) (by kernel_rfl) (by kernel_rfl) Tryz.func123 c123
theorem k124 : Fact 124 := fact_of (l := 57) (af := F57) (by kernel_rfl) (by kernel_rfl) Tryz.func124 c124
theorem k125 : Fact 125 := fact_of (l := 58) (af := F58) (by kernel_rfl) (by kernel_rfl) Tryz.func125 c125
theorem k126 : Fact 126 := fact_of (l := 42) (af := F42) (by kernel_rfl) (by kernel_rfl) Tryz.func126 c126
theorem k127 : Fact 127 := fact_of (l := 496) (af := F496) (by kernel_rfl) (by kernel_rfl) Tryz.func127 c127
theorem k128 : Fact 128 := fact_of (l := 497) (af := F497) (by kernel_rfl) (by kernel_rfl) Tryz.func128 c128
theorem k129 : Fact 129 := fact_of (l := 498) (af := F498) (by kernel_rfl) (by kernel_rfl) Tryz.func129 c129
theorem k130 : Fact 130 := fact_off (l := 499) (by kernel_rfl) (by kernel_rfl)
theorem k131 : Fact 131 := fact_off (l := 500) (by kernel_rfl) (by kernel_rfl)
theorem k132 : Fact 132 := fact_off (l := 46) (by kernel_rfl) (by kernel_rfl)
theorem k133 : Fact 133 := fact_off (l := 12) (by kernel_rfl) (by kernel_rfl)
theorem k134 : Fact 134 := fact_off (l := 28) (by kernel_rfl) (by kernel_rfl)
theorem k135 : Fact 135 := fact_of (l := 501) (af := F501) (by kernel_rfl) (by kernel_rfl) Tryz.func135 c135
theorem k136 : Fact 136 := fact_of (l := 502) (af := F502) (by kernel_rfl) (by kernel_rfl) Tryz.func136 c136
theorem k137 : Fact 137 := fact_of (l := 503) (af := F503) (by kernel_rfl) (by kernel_rfl) Tryz.func137 c137
theorem k138 : Fact 138 := fact_of (l := 60) (af := F60) (by kernel_rfl) (by kernel_rfl) Tryz.func138 c138
theorem k139 : Fact 139 := fact_of (l := 61) (af := F61) (by kernel_rfl) (by kernel_rfl) Tryz.func139 c139
theorem k140 : Fact 140 := fact_of (l := 62) (af := F62) (by kernel_rfl) (by kernel_rfl) Tryz.func140 c140
theorem k141 : Fact 141 := fact_of (l := 63) (af := F63) (by kernel_rfl) (by kernel_rfl) Tryz.func141 c141
theorem k142 : Fact 142 := fact_of (l := 64) (af := F64) (by kernel_rfl) (by kernel_rfl) Tryz.func142 c142
theorem k143 : Fact 143 := fact_of (l := 65) (af := F65) (by kernel_rfl) (by kernel_rfl) Tryz.func143 c143
theorem k144 : Fact 144 := fact_of (l := 66) (af := F66) (by kernel_rfl) (by kernel_rfl) Tryz.func144 c144
theorem k145 : Fact 145 := fact_of (l := 67) (af := F67) (by kernel_rfl) (by kernel_rfl) Tryz.func145 c145
theorem k146 : Fact 146 := fact_of (l := 68) (af := F68) (by kernel_rfl) (by kernel_rfl) Tryz.func146 c146
theorem k147 : Fact 147 := fact_of (l := 504) (af := F504) (by kernel_rfl) (by kernel_rfl) Tryz.func147 c147
theorem k148 : Fact 148 := fact_of (l := 209) (af := F209) (by kernel_rfl) (by kernel_rfl) Tryz.func148 c148
theorem k149 : Fact 149 := fact_of (l := 82) (af := F82) (by kernel_rfl) (by kernel_rfl) Tryz.func149 c149
theorem k150 : Fact 150 := fact_of (l := 505) (af := F505) (by kernel_rfl) (by kernel_rfl) Tryz.func150 c150
theorem k151 : Fact 151 := fact_of (l := 506) (af := F506) (by kernel_rfl) (by kernel_rfl) Tryz.func151 c151
theorem k152 : Fact 152 := fact_of (l := 507) (af := F507) (by kernel_rfl) (by kernel_rfl) Tryz.func152 c152
theorem k153 : Fact 153 := fact_of (l := 508) (af := F508) (by kernel_rfl) (by kernel_rfl) Tryz.func153 c153
theorem k154 : Fact 154 := fact_of (l := 509) (af := F509) (by kernel_rfl) (by kernel_rfl) Tryz.func154 c154
theorem k155 : Fact 155 := fact_off (l := 510) (by kernel_rfl) (by kernel_rfl)
theorem k156 : Fact 156 := fact_off (l := 511) (by kernel_rfl) (by kernel_rfl)
theorem k157 : Fact 157 := fact_off (l := 512) (by kernel_rfl) (by kernel_rfl)
theorem k158 : Fact 158 := fact_off (l := 51) (by kernel_rfl) (by kernel_rfl)
theorem k159 : Fact 159 := fact_off (l := 52) (by kernel_rfl) (by kernel_rfl)
theorem k160 : Fact 160 := fact_off (l := 53) (by kernel_rfl) (by kernel_rfl)
theorem k161 : Fact 161 := fact_off (l := 54) (by kernel_rfl) (by kernel_rfl)
theorem k162 : Fact 162 := fact_of (l := 513) (af := F513) (by kernel_rfl) (by kernel_rfl) Tryz.func162 c162
theorem k163 : Fact 163 := fact_of (l := 83) (af := F83) (by kernel_rfl) (by kernel_rfl) Tryz.func163 c163
theorem k164 : Fact 164 := fact_of (l := 84) (af := F84) (by kernel_rfl) (by kernel_rfl) Tryz.func164 c164
theorem k165 : Fact 165 := fact_of (l := 85) (af := F85) (by kernel_rfl) (by kernel_rfl) Tryz.func165 c165
theorem k166 : Fact 166 := fact_of (l := 86) (af := F86) (by kernel_rfl) (by kernel_rfl) Tryz.func166 c166
theorem k167 : Fact 167 := fact_of (l := 87) (af := F87) (by kernel_rfl) (by kernel_rfl) Tryz.func167 c167
theorem k168 : Fact 168 := fact_of (l := 88) (af := F88) (by kernel_rfl) (by kernel_rfl) Tryz.func168 c168
theorem k169 : Fact 169 := fact_of (l := 89) (af := F89) (by kernel_rfl) (by kernel_rfl) Tryz.func169 c169
theorem k170 : Fact 170 := fact_of (l := 90) (af := F90) (by kernel_rfl) (by kernel_rfl) Tryz.func170 c170
theorem k171 : Fact 171 := fact_of (l := 91) (af := F91) (by kernel_rfl) (by kernel_rfl) Tryz.func171 c171
theorem k172 : Fact 172 := fact_of (l := 514) (af := F514) (by kernel_rfl) (by kernel_rfl) Tryz.func172 c172
theorem k173 : Fact 173 := fact_of (l := 515) (af := F515) (by kernel_rfl) (by kernel_rfl) Tryz.func173 c173
theorem k174 : Fact 174 := fact_of (l := 516) (af := F516) (by kernel_rfl) (by kernel_rfl) Tryz.func174 c174
theorem k175 : Fact 175 := fact_of (l := 517) (af := F517) (by kernel_rfl) (by kernel_rfl) Tryz.func175 c175
theorem k176 : Fact 176 := fact_of (l := 518) (af := F518) (by kernel_rfl) (by kernel_rfl) Tryz.func176 c176
theorem k177 : Fact 177 := fact_of (l := 519) (af := F519) (by kernel_rfl) (by kernel_rfl) Tryz.func177 c177
theorem k178 : Fact 178 := fact_of (l := 520) (af := F520) (by kernel_rfl) (by kernel_rfl) Tryz.func178 c178
theorem k179 : Fact 179 := fact_of (l := 521) (af := F521) (by kernel_rfl) (by kernel_rfl) Tryz.func179 c179
theorem k180 : Fact 180 := fact_of (l := 522) (af := F522) (by kernel_rfl) (by kernel_rfl) Tryz.func180 c180
theorem k181 : Fact 181 := fact_of (l := 219) (af := F219) (by kernel_rfl) (by kernel_rfl) Tryz.func181 c181
theorem k182 : Fact 182 := fact_of (l := 220) (af := F220) (by kernel_rfl) (by kernel_rfl) Tryz.func182 c182
theorem k183 : Fact 183 := fact_of (l := 523) (af := F523) (by kernel_rfl) (by kernel_rfl) Tryz.func183 c183
theorem k184 : Fact 184 := fact_of (l := 524) (af := F524) (by kernel_rfl) (by kernel_rfl) Tryz.func184 c184
theorem k185 : Fact 185 := fact_of (l := 525) (af := F525) (by kernel_rfl) (by kernel_rfl) Tryz.func185 c185
theorem k186 : Fact 186 := fact_off (l := 526) (by kernel_rfl) (by kernel_rfl)
theorem k187 : Fact 187 := fact_off (l := 527) (by kernel_rfl) (by kernel_rfl)
theorem k188 : Fact 188 := fact_off (l := 69) (by kernel_rfl) (by kernel_rfl)
theorem k189 : Fact 189 := fact_off (l := 70) (by kernel_rfl) (by kernel_rfl)
theorem k190 : Fact 190 := fact_off (l := 71) (by kernel_rfl) (by kernel_rfl)
theorem k191 : Fact 191 := fact_off (l := 72) (by kernel_rfl) (by kernel_rfl)
theorem k192 : Fact 192 := fact_off (l := 73) (by kernel_rfl) (by kernel_rfl)
theorem k193 : Fact 193 := fact_off (l := 74) (by kernel_rfl) (by kernel_rfl)
theorem k194 : Fact 194 := fact_off (l := 75) (by kernel_rfl) (by kernel_rfl)
theorem k195 : Fact 195 := fact_off (l := 76) (by kernel_rfl) (by kernel_rfl)
theorem k196 : Fact 196 := fact_off (l := 77) (by kernel_rfl) (by kernel_rfl)
theorem k197 : Fact 197 := fact_off (l := 78) (by kernel_rfl) (by kernel_rfl)
theorem k198 : Fact 198 := fact_off (l := 79) (by kernel_rfl) (by kernel_rfl)
theorem k199 : Fact 199 := fact_off (l := 80) (by kernel_rfl) (by kernel_rfl)
theorem k200 : Fact 200 := fact_off (l := 81) (by kernel_rfl) (by kernel_rfl)
theorem k201 : Fact 201 := fact_of (l := 93) (af := F93) (by kernel_rfl) (by kernel_rfl) Tryz.func201 c201
theorem k202 : Fact 202 := fact_of (l := 94) (af := F94) (by kernel_rfl) (by kernel_rfl) Tryz.func202 c202
theorem k203 : Fact 203 := fact_of (l := 95) (af := F95) (by kernel_rfl) (by kernel_rfl) Tryz.func203 c203
theorem k204 : Fact 204 := fact_of (l := 96) (af := F96) (by kernel_rfl) (by kernel_rfl) Tryz.func204 c204
theorem k205 : Fact 205 := fact_of (l := 97) (af := F97) (by kernel_rfl) (by kernel_rfl) Tryz.func205 c205
theorem k206 : Fact 206 := fact_of (l := 98) (af := F98) (by kernel_rfl) (by kernel_rfl) Tryz.func206 c206
theorem k207 : Fact 207 := fact_of (l := 99) (af := F99) (by kernel_rfl) (by kernel_rfl) Tryz.func207 c207
theorem k208 : Fact 208 := fact_of (l := 100) (af := F100) (by kernel_rfl) (by kernel_rfl) Tryz.func208 c208
theorem k209 : Fact 209 := fact_of (l := 101) (af := F101) (by kernel_rfl) (by kernel_rfl) Tryz.func209 c209
theorem k210 : Fact 210 := fact_of (l := 102) (af := F102) (by kernel_rfl) (by kernel_rfl) Tryz.func210 c210
theorem k211 : Fact 211 := fact_of (l := 103) (af := F103) (by kernel_rfl) (by kernel_rfl) Tryz.func211 c211
theorem k212 : Fact 212 := fact_of (l := 104) (af := F104) (by kernel_rfl) (by kernel_rfl) Tryz.func212 c212
theorem k213 : Fact 213 := fact_of (l := 105) (af := F105) (by kernel_rfl) (by kernel_rfl) Tryz.func213 c213
theorem k214 : Fact 214 := fact_of (l := 106) (af := F106) (by kernel_rfl) (by kernel_rfl) Tryz.func214 c214
theorem k215 : Fact 215 := fact_of (l := 528) (af := F528) (by kernel_rfl) (by kernel_rfl) Tryz.func215 c215
theorem k216 : Fact 216 := fact_of (l := 222) (af := F222) (by kernel_rfl) (by kernel_rfl) Tryz.func216 c216
theorem k217 : Fact 217 := fact_of (l := 223) (af := F223) (by kernel_rfl) (by kernel_rfl) Tryz.func217 c217
theorem k218 : Fact 218 := fact_of (l := 529) (af := F529) (by kernel_rfl) (by kernel_rfl) Tryz.func218 c218
theorem k219 : Fact 219 := fact_of (l := 530) (af := F530) (by kernel_rfl) (by kernel_rfl) Tryz.func219 c219
theorem k220 : Fact 220 := fact_of (l := 531) (af := F531) (by kernel_rfl) (by kernel_rfl) Tryz.func220 c220
theorem k221 : Fact 221 := fact_of (l := 532) (af := F532) (by kernel_rfl) (by kernel_rfl) Tryz.func221 c221
theorem k222 : Fact 222 := fact_of (l := 533) (af := F533) (by kernel_rfl) (by kernel_rfl) Tryz.func222 c222
theorem k223 : Fact 223 := fact_off (l := 534) (by kernel_rfl) (by kernel_rfl)
theorem k224 : Fact 224 := fact_off (l := 92) (by kernel_rfl) (by kernel_rfl)
theorem k225 : Fact 225 := fact_of (l := 107) (af := F107) (by kernel_rfl) (by kernel_rfl) Tryz.func225 c225
theorem k226 : Fact 226 := fact_of (l := 108) (af := F108) (by kernel_rfl) (by kernel_rfl) Tryz.func226 c226
theorem k227 : Fact 227 := fact_of (l := 109) (af := F109) (by kernel_rfl) (by kernel_rfl) Tryz.func227 c227
theorem k228 : Fact 228 := fact_of (l := 110) (af := F110) (by kernel_rfl) (by kernel_rfl) Tryz.func228 c228
theorem k229 : Fact 229 := fact_of (l := 535) (af := F535) (by kernel_rfl) (by kernel_rfl) Tryz.func229 c229
theorem k230 : Fact 230 := fact_of (l := 536) (af := F536) (by kernel_rfl) (by kernel_rfl) Tryz.func230 c230
theorem k231 : Fact 231 := fact_of (l := 537) (af := F537) (by kernel_rfl) (by kernel_rfl) Tryz.func231 c231
theorem k232 : Fact 232 := fact_of (l := 538) (af := F538) (by kernel_rfl) (by kernel_rfl) Tryz.func232 c232
theorem k233 : Fact 233 := fact_off (l := 539) (by kernel_rfl) (by kernel_rfl)
theorem k234 : Fact 234 := fact_of (l := 111) (af := F111) (by kernel_rfl) (by kernel_rfl) Tryz.func234 c234
theorem k235 : Fact 235 := fact_of (l := 112) (af := F112) (by kernel_rfl) (by kernel_rfl) Tryz.func235 c235
theorem k236 : Fact 236 := fact_of (l := 540) (af := F540) (by kernel_rfl) (by kernel_rfl) Tryz.func236 c236
theorem k237 : Fact 237 := fact_of (l := 541) (af := F541) (by kernel_rfl) (by kernel_rfl) Tryz.func237 c237
theorem k238 : Fact 238 := fact_of (l := 542) (af := F542) (by kernel_rfl) (by kernel_rfl) Tryz.func238 c238
theorem k239 : Fact 239 := fact_of (l := 113) (af := F113) (by kernel_rfl) (by kernel_rfl) Tryz.func239 c239
theorem k240 : Fact 240 := fact_of (l := 114) (af := F114) (by kernel_rfl) (by kernel_rfl) Tryz.func240 c240
theorem k241 : Fact 241 := fact_of (l := 543) (af := F543) (by kernel_rfl) (by kernel_rfl) Tryz.func241 c241
theorem k242 : Fact 242 := fact_no (by kernel_rfl)
theorem k243 : Fact 243 := fact_no (by kernel_rfl)
theorem k244 : Fact 244 := fact_no (by kernel_rfl)
theorem k245 : Fact 245 := fact_no (by kernel_rfl)
theorem k246 : Fact 246 := fact_no (by kernel_rfl)
theorem k247 : Fact 247 := fact_no (by kernel_rfl)
theorem k248 : Fact 248 := fact_no (by kernel_rfl)
theorem k249 : Fact 249 := fact_no (by kernel_rfl)
theorem k250 : Fact 250 := fact_no (by kernel_rfl)
theorem k251 : Fact 251 := fact_no (by kernel_rfl)
theorem k252 : Fact 252 := fact_no (by kernel_rfl)
theorem k253 : Fact 253 := fact_no (by kernel_rfl)
theorem k254 : Fact 254 := fact_no (by kernel_rfl)
theorem k255 : Fact 255 := fact_no (by kernel_rfl)
theorem k256 : Fact 256 := fact_no (by kernel_rfl)
theorem k257 : Fact 257 := fact_no (by kernel_rfl)
theorem k258 : Fact 258 := fact_no (by kernel_rfl)
theorem fact_all : AllFrom Fact 0 259 := ⟨k0, ⟨k1, ⟨k2, ⟨k3, ⟨k4, ⟨k5, ⟨k6, ⟨k7, ⟨k8, ⟨k9, ⟨k10, ⟨k11, ⟨k12, ⟨k13, ⟨k14, ⟨k15, ⟨k16, ⟨k17, ⟨k18, ⟨k19, ⟨k20, ⟨k21, ⟨k22, ⟨k23, ⟨k24, ⟨k25, ⟨k26, ⟨k27, ⟨k28, ⟨k29, ⟨k30, ⟨k31, ⟨k32, ⟨k33, ⟨k34, ⟨k35, ⟨k36, ⟨k37, ⟨k38, ⟨k39, ⟨k40, ⟨k41, ⟨k42, ⟨k43, ⟨k44, ⟨k45, ⟨k46, ⟨k47, ⟨k48, ⟨k49, ⟨k50, ⟨k51, ⟨k52, ⟨k53, ⟨k54, ⟨k55, ⟨k56, ⟨k57, ⟨k58, ⟨k59, ⟨k60, ⟨k61, ⟨k62, ⟨k63, ⟨k64, ⟨k65, ⟨k66, ⟨k67, ⟨k68, ⟨k69, ⟨k70, ⟨k71, ⟨k72, ⟨k73, ⟨k74, ⟨k75, ⟨k76, ⟨k77, ⟨k78, ⟨k79, ⟨k80, ⟨k81, ⟨k82, ⟨k83, ⟨k84, ⟨k85, ⟨k86, ⟨k87, ⟨k88, ⟨k89, ⟨k90, ⟨k91, ⟨k92, ⟨k93, ⟨k94, ⟨k95, ⟨k96, ⟨k97, ⟨k98, ⟨k99, ⟨k100, ⟨k101, ⟨k102, ⟨k103, ⟨k104, ⟨k105, ⟨k106, ⟨k107, ⟨k108, ⟨k109, ⟨k110, ⟨k111, ⟨k112, ⟨k113, ⟨k114, ⟨k115, ⟨k116, ⟨k117, ⟨k118, ⟨k119, ⟨k120, ⟨k121, ⟨k122, ⟨k123, ⟨k124, ⟨k125, ⟨k126, ⟨k127, ⟨k128, ⟨k129, ⟨k130, ⟨k131, ⟨k132, ⟨k133, ⟨k134, ⟨k135, ⟨k136, ⟨k137, ⟨k138, ⟨k139, ⟨k140, ⟨k141, ⟨k142, ⟨k143, ⟨k144, ⟨k145, ⟨k146, ⟨k147, ⟨k148, ⟨k149, ⟨k150, ⟨k151, ⟨k152, ⟨k153, ⟨k154, ⟨k155, ⟨k156, ⟨k157, ⟨k158, ⟨k159, ⟨k160, ⟨k161, ⟨k162, ⟨k163, ⟨k164, ⟨k165, ⟨k166, ⟨k167, ⟨k168, ⟨k169, ⟨k170, ⟨k171, ⟨k172, ⟨k173, ⟨k174, ⟨k175, ⟨k176, ⟨k177, ⟨k178, ⟨k179, ⟨k180, ⟨k181, ⟨k182, ⟨k183, ⟨k184, ⟨k185, ⟨k186, ⟨k187, ⟨k188, ⟨k189, ⟨k190, ⟨k191, ⟨k192, ⟨k193, ⟨k194, ⟨k195, ⟨k196, ⟨k197, ⟨k198, ⟨k199, ⟨k200, ⟨k201, ⟨k202, ⟨k203, ⟨k204, ⟨k205, ⟨k206, ⟨k207, ⟨k208, ⟨k209, ⟨k210, ⟨k211, ⟨k212, ⟨k213, ⟨k214, ⟨k215, ⟨k216, ⟨k217, ⟨k218, ⟨k219, ⟨k220, ⟨k221, ⟨k222, ⟨k223, ⟨k224, ⟨k225, ⟨k226, ⟨k227, ⟨k228, ⟨k229, ⟨k230, ⟨k231, ⟨k232, ⟨k233, ⟨k234, ⟨k235, ⟨k236, ⟨k237, ⟨k238, ⟨k239, ⟨k240, ⟨k241, ⟨k242, ⟨k243, ⟨k244, ⟨k245, ⟨k246, ⟨k247, ⟨k248, ⟨k249, ⟨k250, ⟨k251, ⟨k252, ⟨k253, ⟨k254, ⟨k255, ⟨k256, ⟨k257, ⟨k258, trivial⟩⟩⟩⟩⟩⟩⟩⟩⟩⟩⟩⟩⟩⟩⟩⟩⟩⟩⟩⟩⟩⟩⟩⟩⟩⟩⟩⟩⟩⟩⟩⟩⟩⟩⟩⟩⟩⟩⟩⟩⟩⟩⟩⟩⟩⟩⟩⟩⟩⟩⟩⟩⟩⟩⟩⟩⟩⟩⟩⟩⟩⟩⟩⟩⟩⟩⟩⟩⟩⟩⟩⟩⟩⟩⟩⟩⟩⟩⟩⟩⟩⟩⟩⟩⟩⟩⟩⟩⟩⟩⟩⟩⟩⟩⟩⟩⟩⟩⟩⟩⟩⟩⟩⟩⟩⟩⟩⟩⟩⟩⟩⟩⟩⟩⟩⟩⟩⟩⟩⟩⟩⟩⟩⟩⟩⟩⟩⟩⟩⟩⟩⟩⟩⟩⟩⟩⟩⟩⟩⟩⟩⟩⟩⟩⟩⟩⟩⟩⟩⟩⟩⟩⟩⟩⟩⟩⟩⟩⟩⟩⟩⟩⟩⟩⟩⟩⟩⟩⟩⟩⟩⟩⟩⟩⟩⟩⟩⟩⟩⟩⟩⟩⟩⟩⟩⟩⟩⟩⟩⟩⟩⟩⟩⟩⟩⟩⟩⟩⟩⟩⟩⟩⟩⟩⟩⟩⟩⟩⟩⟩⟩⟩⟩⟩⟩⟩⟩⟩⟩⟩⟩⟩⟩⟩⟩⟩⟩⟩⟩⟩⟩⟩⟩⟩⟩⟩⟩⟩⟩⟩⟩⟩⟩⟩⟩⟩⟩⟩⟩⟩⟩⟩⟩⟩⟩⟩⟩⟩⟩
end Go.Ab.Gauge
