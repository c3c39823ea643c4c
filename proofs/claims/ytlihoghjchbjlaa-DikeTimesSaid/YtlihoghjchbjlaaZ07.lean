/- Each function's abstract form is that of the given program. -/
import Derived.Test.YtlihoghjchbjlaaZ01
import Derived.Test.YtlihoghjchbjlaaZ06
import Derived.Test.YtlihoghjchbjlaaProg
import Derived.KernelRfl
set_option linter.unusedSimpArgs false
set_option linter.unusedVariables false
set_option linter.unusedSectionVars false
set_option maxRecDepth 100000
namespace Go.Ab.Dike
open Go Go.Ab Go.Proofs
def labs : List Nat := [0, 0, 1, 115, 116, 117, 118, 119, 120, 121, 122, 123, 124, 125, 126, 127, 128, 129, 130, 131, 132, 133, 134, 135, 136, 137, 138, 139, 140, 141, 142, 143, 144, 145, 146, 147, 148, 149, 150, 151, 152, 56, 153, 154, 155, 156, 157, 158, 159, 160, 161, 37, 40, 162, 163, 164, 165, 166, 167, 168, 169, 170, 171, 172, 173, 174, 175, 176, 177, 178, 179, 180, 181, 182, 183, 184, 185, 186, 187, 188, 189, 190, 191, 192, 193, 194, 195, 196, 82, 55, 57, 58, 59, 197, 198, 199, 200, 201, 202, 203, 204, 205, 206, 207, 208, 209, 210, 211, 212, 213, 214, 215, 216, 217, 218, 219, 220, 221, 222, 223, 224, 225, 226, 227, 0, 0, 0, 0, 0, 0, 0, 0, 0, 0, 0, 0, 0, 0, 0, 0]
def lab (f : Nat) : Nat := cond (Nat.beq f 1000262) 99999 (cond (Nat.beq f 1000079) 99999 (cond (Nat.beq f 1000019) 99999 (cond (Nat.beq f 2000262) 100059 (labs.getD f 0))))
def Fact (f : Nat) : Prop := ∀ af, AP (lab f) = some af → ∃ fn, Try.prog.funcs[f]? = some fn ∧ compFunc Try.prog lab fn = some af
theorem c8 : compFunc Try.prog lab Try.f8 = some F120 := by kernel_rfl
theorem c9 : compFunc Try.prog lab Try.f9 = some F121 := by kernel_rfl
theorem c10 : compFunc Try.prog lab Try.f10 = some F122 := by kernel_rfl
theorem c13 : compFunc Try.prog lab Try.f13 = some F125 := by kernel_rfl
theorem c14 : compFunc Try.prog lab Try.f14 = some F126 := by kernel_rfl
theorem c16 : compFunc Try.prog lab Try.f16 = some F128 := by kernel_rfl
theorem c18 : compFunc Try.prog lab Try.f18 = some F130 := by kernel_rfl
theorem c21 : compFunc Try.prog lab Try.f21 = some F133 := by kernel_rfl
theorem c23 : compFunc Try.prog lab Try.f23 = some F135 := by kernel_rfl
theorem c28 : compFunc Try.prog lab Try.f28 = some F140 := by kernel_rfl
theorem c29 : compFunc Try.prog lab Try.f29 = some F141 := by kernel_rfl
theorem c31 : compFunc Try.prog lab Try.f31 = some F143 := by kernel_rfl
theorem c32 : compFunc Try.prog lab Try.f32 = some F144 := by kernel_rfl
theorem c33 : compFunc Try.prog lab Try.f33 = some F145 := by kernel_rfl
theorem c34 : compFunc Try.prog lab Try.f34 = some F146 := by kernel_rfl
theorem c35 : compFunc Try.prog lab Try.f35 = some F147 := by kernel_rfl
theorem c36 : compFunc Try.prog lab Try.f36 = some F148 := by kernel_rfl
theorem c37 : compFunc Try.prog lab Try.f37 = some F149 := by kernel_rfl
theorem c38 : compFunc Try.prog lab Try.f38 = some F150 := by kernel_rfl
theorem c39 : compFunc Try.prog lab Try.f39 = some F151 := by kernel_rfl
theorem c40 : compFunc Try.prog lab Try.f40 = some F152 := by kernel_rfl
theorem c41 : compFunc Try.prog lab Try.f41 = some F56 := by kernel_rfl
theorem c42 : compFunc Try.prog lab Try.f42 = some F153 := by kernel_rfl
theorem c43 : compFunc Try.prog lab Try.f43 = some F154 := by kernel_rfl
theorem c44 : compFunc Try.prog lab Try.f44 = some F155 := by kernel_rfl
theorem c45 : compFunc Try.prog lab Try.f45 = some F156 := by kernel_rfl
theorem c46 : compFunc Try.prog lab Try.f46 = some F157 := by kernel_rfl
theorem c49 : compFunc Try.prog lab Try.f49 = some F160 := by kernel_rfl
theorem c50 : compFunc Try.prog lab Try.f50 = some F161 := by kernel_rfl
theorem c51 : compFunc Try.prog lab Try.f51 = some F37 := by kernel_rfl
theorem c53 : compFunc Try.prog lab Try.f53 = some F162 := by kernel_rfl
theorem c54 : compFunc Try.prog lab Try.f54 = some F163 := by kernel_rfl
theorem c55 : compFunc Try.prog lab Try.f55 = some F164 := by kernel_rfl
theorem c57 : compFunc Try.prog lab Try.f57 = some F166 := by kernel_rfl
theorem c58 : compFunc Try.prog lab Try.f58 = some F167 := by kernel_rfl
theorem c59 : compFunc Try.prog lab Try.f59 = some F168 := by kernel_rfl
theorem c60 : compFunc Try.prog lab Try.f60 = some F169 := by kernel_rfl
theorem c64 : compFunc Try.prog lab Try.f64 = some F173 := by kernel_rfl
theorem c65 : compFunc Try.prog lab Try.f65 = some F174 := by kernel_rfl
theorem c66 : compFunc Try.prog lab Try.f66 = some F175 := by kernel_rfl
theorem c67 : compFunc Try.prog lab Try.f67 = some F176 := by kernel_rfl
theorem c68 : compFunc Try.prog lab Try.f68 = some F177 := by kernel_rfl
theorem c69 : compFunc Try.prog lab Try.f69 = some F178 := by kernel_rfl
theorem c70 : compFunc Try.prog lab Try.f70 = some F179 := by kernel_rfl
theorem c71 : compFunc Try.prog lab Try.f71 = some F180 := by kernel_rfl
theorem c72 : compFunc Try.prog lab Try.f72 = some F181 := by kernel_rfl
theorem c73 : compFunc Try.prog lab Try.f73 = some F182 := by kernel_rfl
theorem c74 : compFunc Try.prog lab Try.f74 = some F183 := by kernel_rfl
theorem c75 : compFunc Try.prog lab Try.f75 = some F184 := by kernel_rfl
theorem c76 : compFunc Try.prog lab Try.f76 = some F185 := by kernel_rfl
theorem c77 : compFunc Try.prog lab Try.f77 = some F186 := by kernel_rfl
theorem c78 : compFunc Try.prog lab Try.f78 = some F187 := by kernel_rfl
theorem c79 : compFunc Try.prog lab Try.f79 = some F188 := by kernel_rfl
theorem c80 : compFunc Try.prog lab Try.f80 = some F189 := by kernel_rfl
theorem c81 : compFunc Try.prog lab Try.f81 = some F190 := by kernel_rfl
theorem c82 : compFunc Try.prog lab Try.f82 = some F191 := by kernel_rfl
theorem c83 : compFunc Try.prog lab Try.f83 = some F192 := by kernel_rfl
theorem c84 : compFunc Try.prog lab Try.f84 = some F193 := by kernel_rfl
theorem c85 : compFunc Try.prog lab Try.f85 = some F194 := by kernel_rfl
theorem c86 : compFunc Try.prog lab Try.f86 = some F195 := by kernel_rfl
theorem c87 : compFunc Try.prog lab Try.f87 = some F196 := by kernel_rfl
theorem c88 : compFunc Try.prog lab Try.f88 = some F82 := by kernel_rfl
theorem c89 : compFunc Try.prog lab Try.f89 = some F55 := by kernel_rfl
theorem c90 : compFunc Try.prog lab Try.f90 = some F57 := by kernel_rfl
theorem c91 : compFunc Try.prog lab Try.f91 = some F58 := by kernel_rfl
theorem c93 : compFunc Try.prog lab Try.f93 = some F197 := by kernel_rfl
theorem c94 : compFunc Try.prog lab Try.f94 = some F198 := by kernel_rfl
theorem c95 : compFunc Try.prog lab Try.f95 = some F199 := by kernel_rfl
theorem c96 : compFunc Try.prog lab Try.f96 = some F200 := by kernel_rfl
theorem c97 : compFunc Try.prog lab Try.f97 = some F201 := by kernel_rfl
theorem c98 : compFunc Try.prog lab Try.f98 = some F202 := by kernel_rfl
theorem c99 : compFunc Try.prog lab Try.f99 = some F203 := by kernel_rfl
theorem c100 : compFunc Try.prog lab Try.f100 = some F204 := by kernel_rfl
theorem c101 : compFunc Try.prog lab Try.f101 = some F205 := by kernel_rfl
theorem c102 : compFunc Try.prog lab Try.f102 = some F206 := by kernel_rfl
theorem c103 : compFunc Try.prog lab Try.f103 = some F207 := by kernel_rfl
theorem c104 : compFunc Try.prog lab Try.f104 = some F208 := by kernel_rfl
theorem c105 : compFunc Try.prog lab Try.f105 = some F209 := by kernel_rfl
theorem c106 : compFunc Try.prog lab Try.f106 = some F210 := by kernel_rfl
theorem c107 : compFunc Try.prog lab Try.f107 = some F211 := by kernel_rfl
theorem c108 : compFunc Try.prog lab Try.f108 = some F212 := by kernel_rfl
theorem c109 : compFunc Try.prog lab Try.f109 = some F213 := by kernel_rfl
theorem c110 : compFunc Try.prog lab Try.f110 = some F214 := by kernel_rfl
theorem c111 : compFunc Try.prog lab Try.f111 = some F215 := by kernel_rfl
theorem c112 : compFunc Try.prog lab Try.f112 = some F216 := by kernel_rfl
theorem c113 : compFunc Try.prog lab Try.f113 = some F217 := by kernel_rfl
theorem c114 : compFunc Try.prog lab Try.f114 = some F218 := by kernel_rfl
theorem c115 : compFunc Try.prog lab Try.f115 = some F219 := by kernel_rfl
theorem c116 : compFunc Try.prog lab Try.f116 = some F220 := by kernel_rfl
theorem c117 : compFunc Try.prog lab Try.f117 = some F221 := by kernel_rfl
theorem c118 : compFunc Try.prog lab Try.f118 = some F222 := by kernel_rfl
theorem c119 : compFunc Try.prog lab Try.f119 = some F223 := by kernel_rfl
theorem c120 : compFunc Try.prog lab Try.f120 = some F224 := by kernel_rfl
theorem c121 : compFunc Try.prog lab Try.f121 = some F225 := by kernel_rfl
theorem c122 : compFunc Try.prog lab Try.f122 = some F226 := by kernel_rfl
theorem c123 : compFunc Try.prog lab Try.f123 = some F227 := by kernel_rfl
theorem fact_of {f l : Nat} {fn : Func} {af : AFunc} (hl : lab f = l) (ha : AP l = some af) (hf : Try.prog.funcs[f]? = some fn) (hc : compFunc Try.prog lab fn = some af) : Fact f := fun af' h => by
  rw [hl, ha] at h; cases h; exact ⟨fn, hf, hc⟩
theorem fact_off {f l : Nat} (hl : lab f = l) (ha : AP l = none) : Fact f := fun af' h => by
  rw [hl, ha] at h; cases h
theorem fact_no {f : Nat} (hl : lab f = 0) : Fact f := fun af' h => by
  rw [hl] at h; cases h
theorem k0 : Fact 0 := fact_no (by kernel_rfl)
theorem k1 : Fact 1 := fact_no (by kernel_rfl)
theorem k2 : Fact 2 := fact_off (l := 1) (by kernel_rfl) (by kernel_rfl)
theorem k3 : Fact 3 := fact_off (l := 115) (by kernel_rfl) (by kernel_rfl)
theorem k4 : Fact 4 := fact_off (l := 116) (by kernel_rfl) (by kernel_rfl)
theorem k5 : Fact 5 := fact_off (l := 117) (by kernel_rfl) (by kernel_rfl)
theorem k6 : Fact 6 := fact_off (l := 118) (by kernel_rfl) (by kernel_rfl)
theorem k7 : Fact 7 := fact_off (l := 119) (by kernel_rfl) (by kernel_rfl)
theorem k8 : Fact 8 := fact_of (l := 120) (af := F120) (by kernel_rfl) (by kernel_rfl) Try.func8 c8
theorem k9 : Fact 9 := fact_of (l := 121) (af := F121) (by kernel_rfl) (by kernel_rfl) Try.func9 c9
theorem k10 : Fact 10 := fact_of (l := 122) (af := F122) (by kernel_rfl) (by kernel_rfl) Try.func10 c10
theorem k11 : Fact 11 := fact_off (l := 123) (by kernel_rfl) (by kernel_rfl)
theorem k12 : Fact 12 := fact_off (l := 124) (by kernel_rfl) (by kernel_rfl)
theorem k13 : Fact 13 := fact_of (l := 125) (af := F125) (by kernel_rfl) (by kernel_rfl) Try.func13 c13
theorem k14 : Fact 14 := fact_of (l := 126) (af := F126) (by kernel_rfl) (by kernel_rfl) Try.func14 c14
theorem k15 : Fact 15 := fact_off (l := 127) (by kernel_rfl) (by kernel_rfl)
theorem k16 : Fact 16 := fact_of (l := 128) (af := F128) (by kernel_rfl) (by kernel_rfl) Try.func16 c16
theorem k17 : Fact 17 := fact_off (l := 129) (by kernel_rfl) (by kernel_rfl)
theorem k18 : Fact 18 := fact_of (l := 130) (af := F130) (by kernel_rfl) (by kernel_rfl) Try.func18 c18
theorem k19 : Fact 19 := fact_off (l := 131) (by kernel_rfl) (by kernel_rfl)
theorem k20 : Fact 20 := fact_off (l := 132) (by kernel_rfl) (by kernel_rfl)
theorem k21 : Fact 21 := fact_of (l := 133) (af := F133) (by kernel_rfl) (by kernel_rfl) Try.func21 c21
theorem k22 : Fact 22 := fact_off (l := 134) (by kernel_rfl) (by kernel_rfl)
theorem k23 : Fact 23 := fact_of (l := 135) (af := F135) (by kernel_rfl) (by kernel_rfl) Try.func23 c23
theorem k24 : Fact 24 := fact_off (l := 136) (by kernel_rfl) (by kernel_rfl)
theorem k25 : Fact 25 := fact_off (l := 137) (by kernel_rfl) (by kernel_rfl)
theorem k26 : Fact 26 := fact_off (l := 138) (by kernel_rfl) (by kernel_rfl)
theorem k27 : Fact 27 := fact_off (l := 139) (by kernel_rfl) (by kernel_rfl)
theorem k28 : Fact 28 := fact_of (l := 140) (af := F140) (by kernel_rfl) (by kernel_rfl) Try.func28 c28
theorem k29 : Fact 29 := fact_of (l := 141) (af := F141) (by kernel_rfl) (by kernel_rfl) Try.func29 c29
theorem k30 : Fact 30 := fact_off (l := 142) (by kernel_rfl) (by kernel_rfl)
theorem k31 : Fact 31 := fact_of (l := 143) (af := F143) (by kernel_rfl) (by kernel_rfl) Try.func31 c31
theorem k32 : Fact 32 := fact_of (l := 144) (af := F144) (by kernel_rfl) (by kernel_rfl) Try.func32 c32
theorem k33 : Fact 33 := fact_of (l := 145) (af := F145) (by kernel_rfl) (by kernel_rfl) Try.func33 c33
theorem k34 : Fact 34 := fact_of (l := 146) (af := F146) (by kernel_rfl) (by kernel_rfl) Try.func34 c34
theorem k35 : Fact 35 := fact_of (l := 147) (af := F147) (by kernel_rfl) (by kernel_rfl) Try.func35 c35
theorem k36 : Fact 36 := fact_of (l := 148) (af := F148) (by kernel_rfl) (by kernel_rfl) Try.func36 c36
theorem k37 : Fact 37 := fact_of (l := 149) (af := F149) (by kernel_rfl) (by kernel_rfl) Try.func37 c37
theorem k38 : Fact 38 := fact_of (l := 150) (af := F150) (by kernel_rfl) (by kernel_rfl) Try.func38 c38
theorem k39 : Fact 39 := fact_of (l := 151) (af := F151) (by kernel_rfl) (by kernel_rfl) Try.func39 c39
theorem k40 : Fact 40 := fact_of (l := 152) (af := F152) (by kernel_rfl) (by kernel_rfl) Try.func40 c40
theorem k41 : Fact 41 := fact_of (l := 56) (af := F56) (by kernel_rfl) (by kernel_rfl) Try.func41 c41
theorem k42 : Fact 42 := fact_of (l := 153) (af := F153) (by kernel_rfl) (by kernel_rfl) Try.func42 c42
theorem k43 : Fact 43 := fact_of (l := 154) (af := F154) (by kernel_rfl) (by kernel_rfl) Try.func43 c43
theorem k44 : Fact 44 := fact_of (l := 155) (af := F155) (by kernel_rfl) (by kernel_rfl) Try.func44 c44
theorem k45 : Fact 45 := fact_of (l := 156) (af := F156) (by kernel_rfl) (by kernel_rfl) Try.func45 c45
theorem k46 : Fact 46 := fact_of (l := 157) (af := F157) (by kernel_rfl) (by kernel_rfl) Try.func46 c46
theorem k47 : Fact 47 := fact_off (l := 158) (by kernel_rfl) (by kernel_rfl)
theorem k48 : Fact 48 := fact_off (l := 159) (by kernel_rfl) (by kernel_rfl)
theorem k49 : Fact 49 := fact_of (l := 160) (af := F160) (by kernel_rfl) (by kernel_rfl) Try.func49 c49
theorem k50 : Fact 50 := fact_of (l := 161) (af := F161) (by kernel_rfl) (by kernel_rfl) Try.func50 c50
theorem k51 : Fact 51 := fact_of (l := 37) (af := F37) (by kernel_rfl) (by kernel_rfl) Try.func51 c51
theorem k52 : Fact 52 := fact_off (l := 40) (by kernel_rfl) (by kernel_rfl)
theorem k53 : Fact 53 := fact_of (l := 162) (af := F162) (by kernel_rfl) (by kernel_rfl) Try.func53 c53
theorem k54 : Fact 54 := fact_of (l := 163) (af := F163) (by kernel_rfl) (by kernel_rfl) Try.func54 c54
theorem k55 : Fact 55 := fact_of (l := 164) (af := F164) (by kernel_rfl) (by kernel_rfl) Try.func55 c55
theorem k56 : Fact 56 := fact_off (l := 165) (by kernel_rfl) (by kernel_rfl)
theorem k57 : Fact 57 := fact_of (l := 166) (af := F166) (by kernel_rfl) (by kernel_rfl) Try.func57 c57
theorem k58 : Fact 58 := fact_of (l := 167) (af := F167) (by kernel_rfl) (by kernel_rfl) Try.func58 c58
theorem k59 : Fact 59 := fact_of (l := 168) (af := F168) (by kernel_rfl) (by kernel_rfl) Try.func59 c59
theorem k60 : Fact 60 := fact_of (l := 169) (af := F169) (by kernel_rfl) (by kernel_rfl) Try.func60 c60
theorem k61 : Fact 61 := fact_off (l := 170) (by kernel_rfl) (by kernel_rfl)
theorem k62 : Fact 62 := fact_off (l := 171) (by kernel_rfl) (by kernel_rfl)
theorem k63 : Fact 63 := fact_off (l := 172) (by kernel_rfl) (by kernel_rfl)
theorem k64 : Fact 64 := fact_of (l := 173) (af := F173) (by kernel_rfl) (by kernel_rfl) Try.func64 c64
theorem k65 : Fact 65 := fact_of (l := 174) (af := F174) (by kernel_rfl) (by kernel_rfl) Try.func65 c65
theorem k66 : Fact 66 := fact_of (l := 175) (af := F175) (by kernel_rfl) (by kernel_rfl) Try.func66 c66
theorem k67 : Fact 67 := fact_of (l := 176) (af := F176) (by kernel_rfl) (by kernel_rfl) Try.func67 c67
theorem k68 : Fact 68 := fact_of (l := 177) (af := F177) (by kernel_rfl) (by kernel_rfl) Try.func68 c68
theorem k69 : Fact 69 := fact_of (l := 178) (af := F178) (by kernel_rfl) (by kernel_rfl) Try.func69 c69
theorem k70 : Fact 70 := fact_of (l := 179) (af := F179) (by kernel_rfl) (by kernel_rfl) Try.func70 c70
theorem k71 : Fact 71 := fact_of (l := 180) (af := F180) (by kernel_rfl) (by kernel_rfl) Try.func71 c71
theorem k72 : Fact 72 := fact_of (l := 181) (af := F181) (by kernel_rfl) (by kernel_rfl) Try.func72 c72
theorem k73 : Fact 73 := fact_of (l := 182) (af := F182) (by kernel_rfl) (by kernel_rfl) Try.func73 c73
theorem k74 : Fact 74 := fact_of (l := 183) (af := F183) (by kernel_rfl) (by kernel_rfl) Try.func74 c74
theorem k75 : Fact 75 := fact_of (l := 184) (af := F184) (by kernel_rfl) (by kernel_rfl) Try.func75 c75
theorem k76 : Fact 76 := fact_of (l := 185) (af := F185) (by kernel_rfl) (by kernel_rfl) Try.func76 c76
theorem k77 : Fact 77 := fact_of (l := 186) (af := F186) (by kernel_rfl) (by kernel_rfl) Try.func77 c77
theorem k78 : Fact 78 := fact_of (l := 187) (af := F187) (by kernel_rfl) (by kernel_rfl) Try.func78 c78
theorem k79 : Fact 79 := fact_of (l := 188) (af := F188) (by kernel_rfl) (by kernel_rfl) Try.func79 c79
theorem k80 : Fact 80 := fact_of (l := 189) (af := F189) (by kernel_rfl) (by kernel_rfl) Try.func80 c80
theorem k81 : Fact 81 := fact_of (l := 190) (af := F190) (by kernel_rfl) (by kernel_rfl) Try.func81 c81
theorem k82 : Fact 82 := fact_of (l := 191) (af := F191) (by kernel_rfl) (by kernel_rfl) Try.func82 c82
theorem k83 : Fact 83 := fact_of (l := 192) (af := F192) (by kernel_rfl) (by kernel_rfl) Try.func83 c83
theorem k84 : Fact 84 := fact_of (l := 193) (af := F193) (by kernel_rfl) (by kernel_rfl) Try.func84 c84
theorem k85 : Fact 85 := fact_of (l := 194) (af := F194) (by kernel_rfl) (by kernel_rfl) Try.func85 c85
theorem k86 : Fact 86 := fact_of (l := 195) (af := F195) (by kernel_rfl) (by kernel_rfl) Try.func86 c86
theorem k87 : Fact 87 := fact_of (l := 196) (af := F196) (by kernel_rfl) (by kernel_rfl) Try.func87 c87
theorem k88 : Fact 88 := fact_of (l := 82) (af := F82) (by kernel_rfl) (by kernel_rfl) Try.func88 c88
theorem k89 : Fact 89 := fact_of (l := 55) (af := F55) (by kernel_rfl) (by kernel_rfl) Try.func89 c89
theorem k90 : Fact 90 := fact_of (l := 57) (af := F57) (by kernel_rfl) (by kernel_rfl) Try.func90 c90
theorem k91 : Fact 91 := fact_of (l := 58) (af := F58) (by kernel_rfl) (by kernel_rfl) Try.func91 c91
theorem k92 : Fact 92 := fact_off (l := 59) (by kernel_rfl) (by kernel_rfl)
theorem k93 : Fact 93 := fact_of (l := 197) (af := F197) (by kernel_rfl) (by kernel_rfl) Try.func93 c93
theorem k94 : Fact 94 := fact_of (l := 198) (af := F198) (by kernel_rfl) (by kernel_rfl) Try.func94 c94
theorem k95 : Fact 95 := fact_of (l := 199) (af := F199) (by kernel_rfl) (by kernel_rfl) Try.func95 c95
theorem k96 : Fact 96 := fact_of (l := 200) (af := F200) (by kernel_rfl) (by kernel_rfl) Try.func96 c96
theorem k97 : Fact 97 := fact_of (l := 201) (af := F201) (by kernel_rfl) (by kernel_rfl) Try.func97 c97
theorem k98 : Fact 98 := fact_of (l := 202) (af := F202) (by kernel_rfl) (by kernel_rfl) Try.func98 c98
theorem k99 : Fact 99 := fact_of (l := 203) (af := F203) (by kernel_rfl) (by kernel_rfl) Try.func99 c99
theorem k100 : Fact 100 := fact_of (l := 204) (af := F204) (by kernel_rfl) (by kernel_rfl) Try.func100 c100
theorem k101 : Fact 101 := fact_of (l := 205) (af := F205) (by kernel_rfl) (by kernel_rfl) Try.func101 c101
theorem k102 : Fact 102 := fact_of (l := 206) (af := F206) (by kernel_rfl) (by kernel_rfl) Try.func102 c102
theorem k103 : Fact 103 := fact_of (l := 207) (af := F207) (by kernel_rfl) (by kernel_rfl) Try.func103 c103
theorem k104 : Fact 104 := fact_of (l := 208) (af := F208) (by kernel_rfl) (by kernel_rfl) Try.func104 c104
theorem k105 : Fact 105 := fact_of (l := 209) (af := F209) (by kernel_rfl) (by kernel_rfl) Try.func105 c105
theorem k106 : Fact 106 := fact_of (l := 210) (af := F210) (by kernel_rfl) (by kernel_rfl) Try.func106 c106
theorem k107 : Fact 107 := fact_of (l := 211) (af := F211) (by kernel_rfl) (by kernel_rfl) Try.func107 c107
theorem k108 : Fact 108 := fact_of (l := 212) (af := F212) (by kernel_rfl) (by kernel_rfl) Try.func108 c108
theorem k109 : Fact 109 := fact_of (l := 213) (af := F213) (by kernel_rfl) (by kernel_rfl) Try.func109 c109
theorem k110 : Fact 110 := fact_of (l := 214) (af := F214) (by kernel_rfl) (by kernel_rfl) Try.func110 c110
theorem k111 : Fact 111 := fact_of (l := 215) (af := F215) (by kernel_rfl) (by kernel_rfl) Try.func111 c111
theorem k112 : Fact 112 := fact_of (l := 216) (af := F216) (by kernel_rfl) (by kernel_rfl) Try.func112 c112
theorem k113 : Fact 113 := fact_of (l := 217) (af := F217) (by kernel_rfl) (by kernel_rfl) Try.func113 c113
theorem k114 : Fact 114 := fact_of (l := 218) (af := F218) (by kernel_rfl) (by kernel_rfl) Try.func114 c114
theorem k115 : Fact 115 := fact_of (l := 219) (af := F219) (by kernel_rfl) (by kernel_rfl) Try.func115 c115
theorem k116 : Fact 116 := fact_of (l := 220) (af := F220) (by kernel_rfl) (by kernel_rfl) Try.func116 c116
theorem k117 : Fact 117 := fact_of (l := 221) (af := F221) (by kernel_rfl) (by kernel_rfl) Try.func117 c117
theorem k118 : Fact 118 := fact_of (l := 222) (af := F222) (by kernel_rfl) (by kernel_rfl) Try.func118 c118
theorem k119 : Fact 119 := fact_of (l := 223) (af := F223) (by kernel_rfl) (by kernel_rfl) Try.func119 c119
theorem k120 : Fact 120 := fact_of (l := 224) (af := F224) (by kernel_rfl) (by kernel_rfl) Try.func120 c120
theorem k121 : Fact 121 := fact_of (l := 225) (af := F225) (by kernel_rfl) (by kernel_rfl) Try.func121 c121
theorem k122 : Fact 122 := fact_of (l := 226) (af := F226) (by kernel_rfl) (by kernel_rfl) Try.func122 c122
theorem k123 : Fact 123 := fact_of (l := 227) (af := F227) (by kernel_rfl) (by kernel_rfl) Try.func123 c123
theorem k124 : Fact 124 := fact_no (by kernel_rfl)
theorem k125 : Fact 125 := fact_no (by kernel_rfl)
theorem k126 : Fact 126 := fact_no (by kernel_rfl)
theorem k127 : Fact 127 := fact_no (by kernel_rfl)
theorem k128 : Fact 128 := fact_no (by kernel_rfl)
theorem k129 : Fact 129 := fact_no (by kernel_rfl)
theorem k130 : Fact 130 := fact_no (by kernel_rfl)
theorem k131 : Fact 131 := fact_no (by kernel_rfl)
theorem k132 : Fact 132 := fact_no (by kernel_rfl)
theorem k133 : Fact 133 := fact_no (by kernel_rfl)
theorem k134 : Fact 134 := fact_no (by kernel_rfl)
theorem k135 : Fact 135 := fact_no (by kernel_rfl)
theorem k136 : Fact 136 := fact_no (by kernel_rfl)
theorem k137 : Fact 137 := fact_no (by kernel_rfl)
theorem k138 : Fact 138 := fact_no (by kernel_rfl)
theorem k139 : Fact 139 := fact_no (by kernel_rfl)
theorem fact_all : AllFrom Fact 0 140 := ⟨k0, ⟨k1, ⟨k2, ⟨k3, ⟨k4, ⟨k5, ⟨k6, ⟨k7, ⟨k8, ⟨k9, ⟨k10, ⟨k11, ⟨k12, ⟨k13, ⟨k14, ⟨k15, ⟨k16, ⟨k17, ⟨k18, ⟨k19, ⟨k20, ⟨k21, ⟨k22, ⟨k23, ⟨k24, ⟨k25, ⟨k26, ⟨k27, ⟨k28, ⟨k29, ⟨k30, ⟨k31, ⟨k32, ⟨k33, ⟨k34, ⟨k35, ⟨k36, ⟨k37, ⟨k38, ⟨k39, ⟨k40, ⟨k41, ⟨k42, ⟨k43, ⟨k44, ⟨k45, ⟨k46, ⟨k47, ⟨k48, ⟨k49, ⟨k50, ⟨k51, ⟨k52, ⟨k53, ⟨k54, ⟨k55, ⟨k56, ⟨k57, ⟨k58, ⟨k59, ⟨k60, ⟨k61, ⟨k62, ⟨k63, ⟨k64, ⟨k65, ⟨k66, ⟨k67, ⟨k68, ⟨k69, ⟨k70, ⟨k71, ⟨k72, ⟨k73, ⟨k74, ⟨k75, ⟨k76, ⟨k77, ⟨k78, ⟨k79, ⟨k80, ⟨k81, ⟨k82, ⟨k83, ⟨k84, ⟨k85, ⟨k86, ⟨k87, ⟨k88, ⟨k89, ⟨k90, ⟨k91, ⟨k92, ⟨k93, ⟨k94, ⟨k95, ⟨k96, ⟨k97, ⟨k98, ⟨k99, ⟨k100, ⟨k101, ⟨k102, ⟨k103, ⟨k104, ⟨k105, ⟨k106, ⟨k107, ⟨k108, ⟨k109, ⟨k110, ⟨k111, ⟨k112, ⟨k113, ⟨k114, ⟨k115, ⟨k116, ⟨k117, ⟨k118, ⟨k119, ⟨k120, ⟨k121, ⟨k122, ⟨k123, ⟨k124, ⟨k125, ⟨k126, ⟨k127, ⟨k128, ⟨k129, ⟨k130, ⟨k131, ⟨k132, ⟨k133, ⟨k134, ⟨k135, ⟨k136, ⟨k137, ⟨k138, ⟨k139, trivial⟩⟩⟩⟩⟩⟩⟩⟩⟩⟩⟩⟩⟩⟩⟩⟩⟩⟩⟩⟩⟩⟩⟩⟩⟩⟩⟩⟩⟩⟩⟩⟩⟩⟩⟩⟩⟩⟩⟩⟩⟩⟩⟩⟩⟩⟩⟩⟩⟩⟩⟩⟩⟩⟩⟩⟩⟩⟩⟩⟩⟩⟩⟩⟩⟩⟩⟩⟩⟩⟩⟩⟩⟩⟩⟩⟩⟩⟩⟩⟩⟩⟩⟩⟩⟩⟩⟩⟩⟩⟩⟩⟩⟩⟩⟩⟩⟩⟩⟩⟩⟩⟩⟩⟩⟩⟩⟩⟩⟩⟩⟩⟩⟩⟩⟩⟩⟩⟩⟩⟩⟩⟩⟩⟩⟩⟩⟩⟩⟩⟩⟩⟩⟩⟩⟩⟩⟩⟩⟩⟩
end Go.Ab.Dike
