/- Each function's abstract form is that of the given program. -/
import Derived.Test.YtmmpjfknmdlpoaaZ02
import Derived.Test.YtmmpjfknmdlpoaaZ05
import Derived.Test.YtmmpjfknmdlpoaaProg
import Derived.KernelRfl
set_option linter.unusedSimpArgs false
set_option linter.unusedVariables false
set_option linter.unusedSectionVars false
set_option maxRecDepth 100000
namespace Go.Ab.Wave
open Go Go.Ab Go.Proofs
def Fact (f : Nat) : Prop := ∀ af, AP (lab f) = some af → ∃ fn, Try.prog.funcs[f]? = some fn ∧ compFunc Try.prog lab fn = some af
theorem c3 : compFunc Try.prog lab Try.f3 = some F2 := by kernel_rfl
theorem c5 : compFunc Try.prog lab Try.f5 = some F4 := by kernel_rfl
theorem c8 : compFunc Try.prog lab Try.f8 = some F7 := by kernel_rfl
theorem c11 : compFunc Try.prog lab Try.f11 = some F10 := by kernel_rfl
theorem c12 : compFunc Try.prog lab Try.f12 = some F11 := by kernel_rfl
theorem c13 : compFunc Try.prog lab Try.f13 = some F12 := by kernel_rfl
theorem c14 : compFunc Try.prog lab Try.f14 = some F13 := by kernel_rfl
theorem c15 : compFunc Try.prog lab Try.f15 = some F14 := by kernel_rfl
theorem c16 : compFunc Try.prog lab Try.f16 = some F15 := by kernel_rfl
theorem c17 : compFunc Try.prog lab Try.f17 = some F16 := by kernel_rfl
theorem c20 : compFunc Try.prog lab Try.f20 = some F19 := by kernel_rfl
theorem c22 : compFunc Try.prog lab Try.f22 = some F21 := by kernel_rfl
theorem c23 : compFunc Try.prog lab Try.f23 = some F22 := by kernel_rfl
theorem c24 : compFunc Try.prog lab Try.f24 = some F23 := by kernel_rfl
theorem c25 : compFunc Try.prog lab Try.f25 = some F24 := by kernel_rfl
theorem c26 : compFunc Try.prog lab Try.f26 = some F25 := by kernel_rfl
theorem c27 : compFunc Try.prog lab Try.f27 = some F26 := by kernel_rfl
theorem c28 : compFunc Try.prog lab Try.f28 = some F27 := by kernel_rfl
theorem c30 : compFunc Try.prog lab Try.f30 = some F29 := by kernel_rfl
theorem c31 : compFunc Try.prog lab Try.f31 = some F30 := by kernel_rfl
theorem c32 : compFunc Try.prog lab Try.f32 = some F31 := by kernel_rfl
theorem c36 : compFunc Try.prog lab Try.f36 = some F35 := by kernel_rfl
theorem c37 : compFunc Try.prog lab Try.f37 = some F36 := by kernel_rfl
theorem c38 : compFunc Try.prog lab Try.f38 = some F37 := by kernel_rfl
theorem c39 : compFunc Try.prog lab Try.f39 = some F38 := by kernel_rfl
theorem c40 : compFunc Try.prog lab Try.f40 = some F39 := by kernel_rfl
theorem c41 : compFunc Try.prog lab Try.f41 = some F40 := by kernel_rfl
theorem c42 : compFunc Try.prog lab Try.f42 = some F41 := by kernel_rfl
theorem c43 : compFunc Try.prog lab Try.f43 = some F42 := by kernel_rfl
theorem c44 : compFunc Try.prog lab Try.f44 = some F43 := by kernel_rfl
theorem c45 : compFunc Try.prog lab Try.f45 = some F44 := by kernel_rfl
theorem c46 : compFunc Try.prog lab Try.f46 = some F45 := by kernel_rfl
theorem c48 : compFunc Try.prog lab Try.f48 = some F47 := by kernel_rfl
theorem c50 : compFunc Try.prog lab Try.f50 = some F49 := by kernel_rfl
theorem c51 : compFunc Try.prog lab Try.f51 = some F50 := by kernel_rfl
theorem c56 : compFunc Try.prog lab Try.f56 = some F55 := by kernel_rfl
theorem c57 : compFunc Try.prog lab Try.f57 = some F56 := by kernel_rfl
theorem c58 : compFunc Try.prog lab Try.f58 = some F57 := by kernel_rfl
theorem c59 : compFunc Try.prog lab Try.f59 = some F58 := by kernel_rfl
theorem c60 : compFunc Try.prog lab Try.f60 = some F59 := by kernel_rfl
theorem c61 : compFunc Try.prog lab Try.f61 = some F60 := by kernel_rfl
theorem c62 : compFunc Try.prog lab Try.f62 = some F61 := by kernel_rfl
theorem c63 : compFunc Try.prog lab Try.f63 = some F62 := by kernel_rfl
theorem c64 : compFunc Try.prog lab Try.f64 = some F63 := by kernel_rfl
theorem c65 : compFunc Try.prog lab Try.f65 = some F64 := by kernel_rfl
theorem c66 : compFunc Try.prog lab Try.f66 = some F65 := by kernel_rfl
theorem c67 : compFunc Try.prog lab Try.f67 = some F66 := by kernel_rfl
theorem c68 : compFunc Try.prog lab Try.f68 = some F67 := by kernel_rfl
theorem c69 : compFunc Try.prog lab Try.f69 = some F68 := by kernel_rfl
theorem c83 : compFunc Try.prog lab Try.f83 = some F82 := by kernel_rfl
theorem c84 : compFunc Try.prog lab Try.f84 = some F83 := by kernel_rfl
theorem c85 : compFunc Try.prog lab Try.f85 = some F84 := by kernel_rfl
theorem c86 : compFunc Try.prog lab Try.f86 = some F85 := by kernel_rfl
theorem c87 : compFunc Try.prog lab Try.f87 = some F86 := by kernel_rfl
theorem c88 : compFunc Try.prog lab Try.f88 = some F87 := by kernel_rfl
theorem c89 : compFunc Try.prog lab Try.f89 = some F88 := by kernel_rfl
theorem c90 : compFunc Try.prog lab Try.f90 = some F89 := by kernel_rfl
theorem c91 : compFunc Try.prog lab Try.f91 = some F90 := by kernel_rfl
theorem c92 : compFunc Try.prog lab Try.f92 = some F91 := by kernel_rfl
theorem c94 : compFunc Try.prog lab Try.f94 = some F93 := by kernel_rfl
theorem c95 : compFunc Try.prog lab Try.f95 = some F94 := by kernel_rfl
theorem c96 : compFunc Try.prog lab Try.f96 = some F95 := by kernel_rfl
theorem c97 : compFunc Try.prog lab Try.f97 = some F96 := by kernel_rfl
theorem c98 : compFunc Try.prog lab Try.f98 = some F97 := by kernel_rfl
theorem c99 : compFunc Try.prog lab Try.f99 = some F98 := by kernel_rfl
theorem c100 : compFunc Try.prog lab Try.f100 = some F99 := by kernel_rfl
theorem c101 : compFunc Try.prog lab Try.f101 = some F100 := by kernel_rfl
theorem c102 : compFunc Try.prog lab Try.f102 = some F101 := by kernel_rfl
theorem c103 : compFunc Try.prog lab Try.f103 = some F102 := by kernel_rfl
theorem c104 : compFunc Try.prog lab Try.f104 = some F103 := by kernel_rfl
theorem c105 : compFunc Try.prog lab Try.f105 = some F104 := by kernel_rfl
theorem c106 : compFunc Try.prog lab Try.f106 = some F105 := by kernel_rfl
theorem c107 : compFunc Try.prog lab Try.f107 = some F106 := by kernel_rfl
theorem c108 : compFunc Try.prog lab Try.f108 = some F107 := by kernel_rfl
theorem c109 : compFunc Try.prog lab Try.f109 = some F108 := by kernel_rfl
theorem c110 : compFunc Try.prog lab Try.f110 = some F109 := by kernel_rfl
theorem c111 : compFunc Try.prog lab Try.f111 = some F110 := by kernel_rfl
theorem c112 : compFunc Try.prog lab Try.f112 = some F111 := by kernel_rfl
theorem c113 : compFunc Try.prog lab Try.f113 = some F112 := by kernel_rfl
theorem c114 : compFunc Try.prog lab Try.f114 = some F113 := by kernel_rfl
theorem c115 : compFunc Try.prog lab Try.f115 = some F114 := by kernel_rfl
theorem fact_of {f l : Nat} {fn : Func} {af : AFunc} (hl : lab f = l) (ha : AP l = some af) (hf : Try.prog.funcs[f]? = some fn) (hc : compFunc Try.prog lab fn = some af) : Fact f := fun af' h => by
  rw [hl, ha] at h; cases h; exact ⟨fn, hf, hc⟩
theorem fact_off {f l : Nat} (hl : lab f = l) (ha : AP l = none) : Fact f := fun af' h => by
  rw [hl, ha] at h; cases h
theorem fact_no {f : Nat} (hl : lab f = 0) : Fact f := fun af' h => by
  rw [hl] at h; cases h
theorem k0 : Fact 0 := fact_no (by kernel_rfl)
theorem k1 : Fact 1 := fact_no (by kernel_rfl)
theorem k2 : Fact 2 := fact_off (l := 1) (by kernel_rfl) (by kernel_rfl)
theorem k3 : Fact 3 := fact_of (l := 2) (af := F2) (by kernel_rfl) (by kernel_rfl) Try.func3 c3
theorem k4 : Fact 4 := fact_off (l := 3) (by kernel_rfl) (by kernel_rfl)
theorem k5 : Fact 5 := fact_of (l := 4) (af := F4) (by kernel_rfl) (by kernel_rfl) Try.func5 c5
theorem k6 : Fact 6 := fact_off (l := 5) (by kernel_rfl) (by kernel_rfl)
theorem k7 : Fact 7 := fact_off (l := 6) (by kernel_rfl) (by kernel_rfl)
theorem k8 : Fact 8 := fact_of (l := 7) (af := F7) (by kernel_rfl) (by kernel_rfl) Try.func8 c8
theorem k9 : Fact 9 := fact_off (l := 8) (by kernel_rfl) (by kernel_rfl)
theorem k10 : Fact 10 := fact_off (l := 9) (by kernel_rfl) (by kernel_rfl)
theorem k11 : Fact 11 := fact_of (l := 10) (af := F10) (by kernel_rfl) (by kernel_rfl) Try.func11 c11
theorem k12 : Fact 12 := fact_of (l := 11) (af := F11) (by kernel_rfl) (by kernel_rfl) Try.func12 c12
theorem k13 : Fact 13 := fact_of (l := 12) (af := F12) (by kernel_rfl) (by kernel_rfl) Try.func13 c13
theorem k14 : Fact 14 := fact_of (l := 13) (af := F13) (by kernel_rfl) (by kernel_rfl) Try.func14 c14
theorem k15 : Fact 15 := fact_of (l := 14) (af := F14) (by kernel_rfl) (by kernel_rfl) Try.func15 c15
theorem k16 : Fact 16 := fact_of (l := 15) (af := F15) (by kernel_rfl) (by kernel_rfl) Try.func16 c16
theorem k17 : Fact 17 := fact_of (l := 16) (af := F16) (by kernel_rfl) (by kernel_rfl) Try.func17 c17
theorem k18 : Fact 18 := fact_off (l := 17) (by kernel_rfl) (by kernel_rfl)
theorem k19 : Fact 19 := fact_off (l := 18) (by kernel_rfl) (by kernel_rfl)
theorem k20 : Fact 20 := fact_of (l := 19) (af := F19) (by kernel_rfl) (by kernel_rfl) Try.func20 c20
theorem k21 : Fact 21 := fact_off (l := 20) (by kernel_rfl) (by kernel_rfl)
theorem k22 : Fact 22 := fact_of (l := 21) (af := F21) (by kernel_rfl) (by kernel_rfl) Try.func22 c22
theorem k23 : Fact 23 := fact_of (l := 22) (af := F22) (by kernel_rfl) (by kernel_rfl) Try.func23 c23
theorem k24 : Fact 24 := fact_of (l := 23) (af := F23) (by kernel_rfl) (by kernel_rfl) Try.func24 c24
theorem k25 : Fact 25 := fact_of (l := 24) (af := F24) (by kernel_rfl) (by kernel_rfl) Try.func25 c25
theorem k26 : Fact 26 := fact_of (l := 25) (af := F25) (by kernel_rfl) (by kernel_rfl) Try.func26 c26
theorem k27 : Fact 27 := fact_of (l := 26) (af := F26) (by kernel_rfl) (by kernel_rfl) Try.func27 c27
theorem k28 : Fact 28 := fact_of (l := 27) (af := F27) (by kernel_rfl) (by kernel_rfl) Try.func28 c28
theorem k29 : Fact 29 := fact_off (l := 28) (by kernel_rfl) (by kernel_rfl)
theorem k30 : Fact 30 := fact_of (l := 29) (af := F29) (by kernel_rfl) (by kernel_rfl) Try.func30 c30
theorem k31 : Fact 31 := fact_of (l := 30) (af := F30) (by kernel_rfl) (by kernel_rfl) Try.func31 c31
theorem k32 : Fact 32 := fact_of (l := 31) (af := F31) (by kernel_rfl) (by kernel_rfl) Try.func32 c32
theorem k33 : Fact 33 := fact_off (l := 32) (by kernel_rfl) (by kernel_rfl)
theorem k34 : Fact 34 := fact_off (l := 33) (by kernel_rfl) (by kernel_rfl)
theorem k35 : Fact 35 := fact_off (l := 34) (by kernel_rfl) (by kernel_rfl)
theorem k36 : Fact 36 := fact_of (l := 35) (af := F35) (by kernel_rfl) (by kernel_rfl) Try.func36 c36
theorem k37 : Fact 37 := fact_of (l := 36) (af := F36) (by kernel_rfl) (by kernel_rfl) Try.func37 c37
theorem k38 : Fact 38 := fact_of (l := 37) (af := F37) (by kernel_rfl) (by kernel_rfl) Try.func38 c38
theorem k39 : Fact 39 := fact_of (l := 38) (af := F38) (by kernel_rfl) (by kernel_rfl) Try.func39 c39
theorem k40 : Fact 40 := fact_of (l := 39) (af := F39) (by kernel_rfl) (by kernel_rfl) Try.func40 c40
theorem k41 : Fact 41 := fact_of (l := 40) (af := F40) (by kernel_rfl) (by kernel_rfl) Try.func41 c41
theorem k42 : Fact 42 := fact_of (l := 41) (af := F41) (by kernel_rfl) (by kernel_rfl) Try.func42 c42
theorem k43 : Fact 43 := fact_of (l := 42) (af := F42) (by kernel_rfl) (by kernel_rfl) Try.func43 c43
theorem k44 : Fact 44 := fact_of (l := 43) (af := F43) (by kernel_rfl) (by kernel_rfl) Try.func44 c44
theorem k45 : Fact 45 := fact_of (l := 44) (af := F44) (by kernel_rfl) (by kernel_rfl) Try.func45 c45
theorem k46 : Fact 46 := fact_of (l := 45) (af := F45) (by kernel_rfl) (by kernel_rfl) Try.func46 c46
theorem k47 : Fact 47 := fact_off (l := 46) (by kernel_rfl) (by kernel_rfl)
theorem k48 : Fact 48 := fact_of (l := 47) (af := F47) (by kernel_rfl) (by kernel_rfl) Try.func48 c48
theorem k49 : Fact 49 := fact_off (l := 48) (by kernel_rfl) (by kernel_rfl)
theorem k50 : Fact 50 := fact_of (l := 49) (af := F49) (by kernel_rfl) (by kernel_rfl) Try.func50 c50
theorem k51 : Fact 51 := fact_of (l := 50) (af := F50) (by kernel_rfl) (by kernel_rfl) Try.func51 c51
theorem k52 : Fact 52 := fact_off (l := 51) (by kernel_rfl) (by kernel_rfl)
theorem k53 : Fact 53 := fact_off (l := 52) (by kernel_rfl) (by kernel_rfl)
theorem k54 : Fact 54 := fact_off (l := 53) (by kernel_rfl) (by kernel_rfl)
theorem k55 : Fact 55 := fact_off (l := 54) (by kernel_rfl) (by kernel_rfl)
theorem k56 : Fact 56 := fact_of (l := 55) (af := F55) (by kernel_rfl) (by kernel_rfl) Try.func56 c56
theorem k57 : Fact 57 := fact_of (l := 56) (af := F56) (by kernel_rfl) (by kernel_rfl) Try.func57 c57
theorem k58 : Fact 58 := fact_of (l := 57) (af := F57) (by kernel_rfl) (by kernel_rfl) Try.func58 c58
theorem k59 : Fact 59 := fact_of (l := 58) (af := F58) (by kernel_rfl) (by kernel_rfl) Try.func59 c59
theorem k60 : Fact 60 := fact_of (l := 59) (af := F59) (by kernel_rfl) (by kernel_rfl) Try.func60 c60
theorem k61 : Fact 61 := fact_of (l := 60) (af := F60) (by kernel_rfl) (by kernel_rfl) Try.func61 c61
theorem k62 : Fact 62 := fact_of (l := 61) (af := F61) (by kernel_rfl) (by kernel_rfl) Try.func62 c62
theorem k63 : Fact 63 := fact_of (l := 62) (af := F62) (by kernel_rfl) (by kernel_rfl) Try.func63 c63
theorem k64 : Fact 64 := fact_of (l := 63) (af := F63) (by kernel_rfl) (by kernel_rfl) Try.func64 c64
theorem k65 : Fact 65 := fact_of (l := 64) (af := F64) (by kernel_rfl) (by kernel_rfl) Try.func65 c65
theorem k66 : Fact 66 := fact_of (l := 65) (af := F65) (by kernel_rfl) (by kernel_rfl) Try.func66 c66
theorem k67 : Fact 67 := fact_of (l := 66) (af := F66) (by kernel_rfl) (by kernel_rfl) Try.func67 c67
theorem k68 : Fact 68 := fact_of (l := 67) (af := F67) (by kernel_rfl) (by kernel_rfl) Try.func68 c68
theorem k69 : Fact 69 := fact_of (l := 68) (af := F68) (by kernel_rfl) (by kernel_rfl) Try.func69 c69
theorem k70 : Fact 70 := fact_off (l := 69) (by kernel_rfl) (by kernel_rfl)
theorem k71 : Fact 71 := fact_off (l := 70) (by kernel_rfl) (by kernel_rfl)
theorem k72 : Fact 72 := fact_off (l := 71) (by kernel_rfl) (by kernel_rfl)
theorem k73 : Fact 73 := fact_off (l := 72) (by kernel_rfl) (by kernel_rfl)
theorem k74 : Fact 74 := fact_off (l := 73) (by kernel_rfl) (by kernel_rfl)
theorem k75 : Fact 75 := fact_off (l := 74) (by kernel_rfl) (by kernel_rfl)
theorem k76 : Fact 76 := fact_off (l := 75) (by kernel_rfl) (by kernel_rfl)
theorem k77 : Fact 77 := fact_off (l := 76) (by kernel_rfl) (by kernel_rfl)
theorem k78 : Fact 78 := fact_off (l := 77) (by kernel_rfl) (by kernel_rfl)
theorem k79 : Fact 79 := fact_off (l := 78) (by kernel_rfl) (by kernel_rfl)
theorem k80 : Fact 80 := fact_off (l := 79) (by kernel_rfl) (by kernel_rfl)
theorem k81 : Fact 81 := fact_off (l := 80) (by kernel_rfl) (by kernel_rfl)
theorem k82 : Fact 82 := fact_off (l := 81) (by kernel_rfl) (by kernel_rfl)
theorem k83 : Fact 83 := fact_of (l := 82) (af := F82) (by kernel_rfl) (by kernel_rfl) Try.func83 c83
theorem k84 : Fact 84 := fact_of (l := 83) (af := F83) (by kernel_rfl) (by kernel_rfl) Try.func84 c84
theorem k85 : Fact 85 := fact_of (l := 84) (af := F84) (by kernel_rfl) (by kernel_rfl) Try.func85 c85
theorem k86 : Fact 86 := fact_of (l := 85) (af := F85) (by kernel_rfl) (by kernel_rfl) Try.func86 c86
theorem k87 : Fact 87 := fact_of (l := 86) (af := F86) (by kernel_rfl) (by kernel_rfl) Try.func87 c87
theorem k88 : Fact 88 := fact_of (l := 87) (af := F87) (by kernel_rfl) (by kernel_rfl) Try.func88 c88
theorem k89 : Fact 89 := fact_of (l := 88) (af := F88) (by kernel_rfl) (by kernel_rfl) Try.func89 c89
theorem k90 : Fact 90 := fact_of (l := 89) (af := F89) (by kernel_rfl) (by kernel_rfl) Try.func90 c90
theorem k91 : Fact 91 := fact_of (l := 90) (af := F90) (by kernel_rfl) (by kernel_rfl) Try.func91 c91
theorem k92 : Fact 92 := fact_of (l := 91) (af := F91) (by kernel_rfl) (by kernel_rfl) Try.func92 c92
theorem k93 : Fact 93 := fact_off (l := 92) (by kernel_rfl) (by kernel_rfl)
theorem k94 : Fact 94 := fact_of (l := 93) (af := F93) (by kernel_rfl) (by kernel_rfl) Try.func94 c94
theorem k95 : Fact 95 := fact_of (l := 94) (af := F94) (by kernel_rfl) (by kernel_rfl) Try.func95 c95
theorem k96 : Fact 96 := fact_of (l := 95) (af := F95) (by kernel_rfl) (by kernel_rfl) Try.func96 c96
theorem k97 : Fact 97 := fact_of (l := 96) (af := F96) (by kernel_rfl) (by kernel_rfl) Try.func97 c97
theorem k98 : Fact 98 := fact_of (l := 97) (af := F97) (by kernel_rfl) (by kernel_rfl) Try.func98 c98
theorem k99 : Fact 99 := fact_of (l := 98) (af := F98) (by kernel_rfl) (by kernel_rfl) Try.func99 c99
theorem k100 : Fact 100 := fact_of (l := 99) (af := F99) (by kernel_rfl) (by kernel_rfl) Try.func100 c100
theorem k101 : Fact 101 := fact_of (l := 100) (af := F100) (by kernel_rfl) (by kernel_rfl) Try.func101 c101
theorem k102 : Fact 102 := fact_of (l := 101) (af := F101) (by kernel_rfl) (by kernel_rfl) Try.func102 c102
theorem k103 : Fact 103 := fact_of (l := 102) (af := F102) (by kernel_rfl) (by kernel_rfl) Try.func103 c103
theorem k104 : Fact 104 := fact_of (l := 103) (af := F103) (by kernel_rfl) (by kernel_rfl) Try.func104 c104
theorem k105 : Fact 105 := fact_of (l := 104) (af := F104) (by kernel_rfl) (by kernel_rfl) Try.func105 c105
theorem k106 : Fact 106 := fact_of (l := 105) (af := F105) (by kernel_rfl) (by kernel_rfl) Try.func106 c106
theorem k107 : Fact 107 := fact_of (l := 106) (af := F106) (by kernel_rfl) (by kernel_rfl) Try.func107 c107
theorem k108 : Fact 108 := fact_of (l := 107) (af := F107) (by kernel_rfl) (by kernel_rfl) Try.func108 c108
theorem k109 : Fact 109 := fact_of (l := 108) (af := F108) (by kernel_rfl) (by kernel_rfl) Try.func109 c109
theorem k110 : Fact 110 := fact_of (l := 109) (af := F109) (by kernel_rfl) (by kernel_rfl) Try.func110 c110
theorem k111 : Fact 111 := fact_of (l := 110) (af := F110) (by kernel_rfl) (by kernel_rfl) Try.func111 c111
theorem k112 : Fact 112 := fact_of (l := 111) (af := F111) (by kernel_rfl) (by kernel_rfl) Try.func112 c112
theorem k113 : Fact 113 := fact_of (l := 112) (af := F112) (by kernel_rfl) (by kernel_rfl) Try.func113 c113
theorem k114 : Fact 114 := fact_of (l := 113) (af := F113) (by kernel_rfl) (by kernel_rfl) Try.func114 c114
theorem k115 : Fact 115 := fact_of (l := 114) (af := F114) (by kernel_rfl) (by kernel_rfl) Try.func115 c115
theorem k116 : Fact 116 := fact_no (by kernel_rfl)
theorem k117 : Fact 117 := fact_no (by kernel_rfl)
theorem k118 : Fact 118 := fact_no (by kernel_rfl)
theorem k119 : Fact 119 := fact_no (by kernel_rfl)
theorem k120 : Fact 120 := fact_no (by kernel_rfl)
theorem k121 : Fact 121 := fact_no (by kernel_rfl)
theorem k122 : Fact 122 := fact_no (by kernel_rfl)
theorem k123 : Fact 123 := fact_no (by kernel_rfl)
theorem k124 : Fact 124 := fact_no (by kernel_rfl)
theorem k125 : Fact 125 := fact_no (by kernel_rfl)
theorem k126 : Fact 126 := fact_no (by kernel_rfl)
theorem k127 : Fact 127 := fact_no (by kernel_rfl)
theorem k128 : Fact 128 := fact_no (by kernel_rfl)
theorem k129 : Fact 129 := fact_no (by kernel_rfl)
theorem k130 : Fact 130 := fact_no (by kernel_rfl)
theorem k131 : Fact 131 := fact_no (by kernel_rfl)
theorem fact_all : AllFrom Fact 0 132 := ⟨k0, ⟨k1, ⟨k2, ⟨k3, ⟨k4, ⟨k5, ⟨k6, ⟨k7, ⟨k8, ⟨k9, ⟨k10, ⟨k11, ⟨k12, ⟨k13, ⟨k14, ⟨k15, ⟨k16, ⟨k17, ⟨k18, ⟨k19, ⟨k20, ⟨k21, ⟨k22, ⟨k23, ⟨k24, ⟨k25, ⟨k26, ⟨k27, ⟨k28, ⟨k29, ⟨k30, ⟨k31, ⟨k32, ⟨k33, ⟨k34, ⟨k35, ⟨k36, ⟨k37, ⟨k38, ⟨k39, ⟨k40, ⟨k41, ⟨k42, ⟨k43, ⟨k44, ⟨k45, ⟨k46, ⟨k47, ⟨k48, ⟨k49, ⟨k50, ⟨k51, ⟨k52, ⟨k53, ⟨k54, ⟨k55, ⟨k56, ⟨k57, ⟨k58, ⟨k59, ⟨k60, ⟨k61, ⟨k62, ⟨k63, ⟨k64, ⟨k65, ⟨k66, ⟨k67, ⟨k68, ⟨k69, ⟨k70, ⟨k71, ⟨k72, ⟨k73, ⟨k74, ⟨k75, ⟨k76, ⟨k77, ⟨k78, ⟨k79, ⟨k80, ⟨k81, ⟨k82, ⟨k83, ⟨k84, ⟨k85, ⟨k86, ⟨k87, ⟨k88, ⟨k89, ⟨k90, ⟨k91, ⟨k92, ⟨k93, ⟨k94, ⟨k95, ⟨k96, ⟨k97, ⟨k98, ⟨k99, ⟨k100, ⟨k101, ⟨k102, ⟨k103, ⟨k104, ⟨k105, ⟨k106, ⟨k107, ⟨k108, ⟨k109, ⟨k110, ⟨k111, ⟨k112, ⟨k113, ⟨k114, ⟨k115, ⟨k116, ⟨k117, ⟨k118, ⟨k119, ⟨k120, ⟨k121, ⟨k122, ⟨k123, ⟨k124, ⟨k125, ⟨k126, ⟨k127, ⟨k128, ⟨k129, ⟨k130, ⟨k131, trivial⟩⟩⟩⟩⟩⟩⟩⟩⟩⟩⟩⟩⟩⟩⟩⟩⟩⟩⟩⟩⟩⟩⟩⟩⟩⟩⟩⟩⟩⟩⟩⟩⟩⟩⟩⟩⟩⟩⟩⟩⟩⟩⟩⟩⟩⟩⟩⟩⟩⟩⟩⟩⟩⟩⟩⟩⟩⟩⟩⟩⟩⟩⟩⟩⟩⟩⟩⟩⟩⟩⟩⟩⟩⟩⟩⟩⟩⟩⟩⟩⟩⟩⟩⟩⟩⟩⟩⟩⟩⟩⟩⟩⟩⟩⟩⟩⟩⟩⟩⟩⟩⟩⟩⟩⟩⟩⟩⟩⟩⟩⟩⟩⟩⟩⟩⟩⟩⟩⟩⟩⟩⟩⟩⟩⟩⟩⟩⟩⟩⟩⟩⟩
end Go.Ab.Wave
