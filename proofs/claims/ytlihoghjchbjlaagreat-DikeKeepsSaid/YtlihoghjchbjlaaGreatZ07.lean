/- Each function's abstract form is that of the given program. -/
import Derived.Test.YtlihoghjchbjlaaGreatZ02
import Derived.Test.YtlihoghjchbjlaaGreatZ06
import Derived.Test.YtlihoghjchbjlaaGreatProg
import Derived.KernelRfl
set_option linter.unusedSimpArgs false
set_option linter.unusedVariables false
set_option linter.unusedSectionVars false
set_option maxRecDepth 100000
namespace Go.Ab.Dikez
open Go Go.Ab Go.Proofs
def labs : List Nat := [0, 0, 1, 228, 229, 230, 231, 232, 121, 143, 146, 150, 233, 147, 234, 148, 149, 235, 236, 132, 237, 238, 239, 240, 241, 242, 243, 244, 151, 245, 246, 247, 248, 249, 250, 251, 133, 19, 252, 16, 141, 138, 137, 122, 139, 126, 140, 253, 125, 130, 145, 135, 173, 174, 175, 193, 194, 195, 196, 254, 255, 256, 176, 177, 178, 179, 180, 181, 182, 183, 257, 169, 258, 259, 184, 185, 186, 166, 187, 188, 189, 190, 191, 192, 136, 260, 261, 262, 263, 171, 170, 264, 160, 163, 164, 44, 38, 45, 39, 47, 172, 152, 56, 153, 154, 155, 156, 157, 128, 161, 265, 58, 162, 167, 168, 200, 201, 202, 199, 203, 204, 205, 206, 159, 0, 197, 37, 42, 13, 60, 61, 62, 63, 64, 65, 66, 67, 68, 82, 266, 267, 268, 269, 270, 271, 198, 207, 208, 209, 55, 57, 83, 84, 85, 86, 87, 88, 89, 90, 91, 272, 273, 274, 275, 276, 277, 278, 112, 210, 211, 212, 213, 214, 215, 216, 217, 218, 219, 220, 93, 94, 95, 96, 97, 98, 99, 100, 101, 102, 103, 104, 105, 106, 114, 221, 222, 223, 224, 225, 226, 107, 108, 109, 110, 227, 111, 113, 0, 0, 0, 0, 0, 0, 0, 0, 0, 0, 0, 0, 0, 0, 0, 0]
def lab (f : Nat) : Nat := cond (Nat.beq f 1000079) 99999 (labs.getD f 0)
open Go.Ab.Dike
def Fact (f : Nat) : Prop := ∀ af, AP (lab f) = some af → ∃ fn, Tryz.prog.funcs[f]? = some fn ∧ compFunc Tryz.prog lab fn = some af
theorem c7 : compFunc Tryz.prog lab Tryz.f7 = some F232 := by kernel_rfl
theorem c8 : compFunc Tryz.prog lab Tryz.f8 = some F121 := by kernel_rfl
theorem c10 : compFunc Tryz.prog lab Tryz.f10 = some F146 := by kernel_rfl
theorem c11 : compFunc Tryz.prog lab Tryz.f11 = some F150 := by kernel_rfl
theorem c13 : compFunc Tryz.prog lab Tryz.f13 = some F147 := by kernel_rfl
theorem c15 : compFunc Tryz.prog lab Tryz.f15 = some F148 := by kernel_rfl
theorem c16 : compFunc Tryz.prog lab Tryz.f16 = some F149 := by kernel_rfl
theorem c28 : compFunc Tryz.prog lab Tryz.f28 = some F151 := by kernel_rfl
theorem c36 : compFunc Tryz.prog lab Tryz.f36 = some F133 := by kernel_rfl
theorem c40 : compFunc Tryz.prog lab Tryz.f40 = some F141 := by kernel_rfl
theorem c41 : compFunc Tryz.prog lab Tryz.f41 = some F138 := by kernel_rfl
theorem c42 : compFunc Tryz.prog lab Tryz.f42 = some F137 := by kernel_rfl
theorem c43 : compFunc Tryz.prog lab Tryz.f43 = some F122 := by kernel_rfl
theorem c44 : compFunc Tryz.prog lab Tryz.f44 = some F139 := by kernel_rfl
theorem c45 : compFunc Tryz.prog lab Tryz.f45 = some F126 := by kernel_rfl
theorem c46 : compFunc Tryz.prog lab Tryz.f46 = some F140 := by kernel_rfl
theorem c47 : compFunc Tryz.prog lab Tryz.f47 = some F253 := by kernel_rfl
theorem c48 : compFunc Tryz.prog lab Tryz.f48 = some F125 := by kernel_rfl
theorem c49 : compFunc Tryz.prog lab Tryz.f49 = some F130 := by kernel_rfl
theorem c50 : compFunc Tryz.prog lab Tryz.f50 = some F145 := by kernel_rfl
theorem c51 : compFunc Tryz.prog lab Tryz.f51 = some F135 := by kernel_rfl
theorem c52 : compFunc Tryz.prog lab Tryz.f52 = some F173 := by kernel_rfl
theorem c53 : compFunc Tryz.prog lab Tryz.f53 = some F174 := by kernel_rfl
theorem c54 : compFunc Tryz.prog lab Tryz.f54 = some F175 := by kernel_rfl
theorem c55 : compFunc Tryz.prog lab Tryz.f55 = some F193 := by kernel_rfl
theorem c56 : compFunc Tryz.prog lab Tryz.f56 = some F194 := by kernel_rfl
theorem c57 : compFunc Tryz.prog lab Tryz.f57 = some F195 := by kernel_rfl
theorem c58 : compFunc Tryz.prog lab Tryz.f58 = some F196 := by kernel_rfl
theorem c62 : compFunc Tryz.prog lab Tryz.f62 = some F176 := by kernel_rfl
theorem c63 : compFunc Tryz.prog lab Tryz.f63 = some F177 := by kernel_rfl
theorem c64 : compFunc Tryz.prog lab Tryz.f64 = some F178 := by kernel_rfl
theorem c65 : compFunc Tryz.prog lab Tryz.f65 = some F179 := by kernel_rfl
theorem c66 : compFunc Tryz.prog lab Tryz.f66 = some F180 := by kernel_rfl
theorem c67 : compFunc Tryz.prog lab Tryz.f67 = some F181 := by kernel_rfl
theorem c68 : compFunc Tryz.prog lab Tryz.f68 = some F182 := by kernel_rfl
theorem c69 : compFunc Tryz.prog lab Tryz.f69 = some F183 := by kernel_rfl
theorem c71 : compFunc Tryz.prog lab Tryz.f71 = some F169 := by kernel_rfl
theorem c74 : compFunc Tryz.prog lab Tryz.f74 = some F184 := by kernel_rfl
theorem c75 : compFunc Tryz.prog lab Tryz.f75 = some F185 := by kernel_rfl
theorem c76 : compFunc Tryz.prog lab Tryz.f76 = some F186 := by kernel_rfl
theorem c77 : compFunc Tryz.prog lab Tryz.f77 = some F166 := by kernel_rfl
theorem c78 : compFunc Tryz.prog lab Tryz.f78 = some F187 := by kernel_rfl
theorem c79 : compFunc Tryz.prog lab Tryz.f79 = some F188 := by kernel_rfl
theorem c80 : compFunc Tryz.prog lab Tryz.f80 = some F189 := by kernel_rfl
theorem c81 : compFunc Tryz.prog lab Tryz.f81 = some F190 := by kernel_rfl
theorem c82 : compFunc Tryz.prog lab Tryz.f82 = some F191 := by kernel_rfl
theorem c83 : compFunc Tryz.prog lab Tryz.f83 = some F192 := by kernel_rfl
theorem c92 : compFunc Tryz.prog lab Tryz.f92 = some F160 := by kernel_rfl
theorem c93 : compFunc Tryz.prog lab Tryz.f93 = some F163 := by kernel_rfl
theorem c94 : compFunc Tryz.prog lab Tryz.f94 = some F164 := by kernel_rfl
theorem c100 : compFunc Tryz.prog lab Tryz.f100 = some F172 := by kernel_rfl
theorem c101 : compFunc Tryz.prog lab Tryz.f101 = some F152 := by kernel_rfl
theorem c102 : compFunc Tryz.prog lab Tryz.f102 = some F56 := by kernel_rfl
theorem c103 : compFunc Tryz.prog lab Tryz.f103 = some F153 := by kernel_rfl
theorem c104 : compFunc Tryz.prog lab Tryz.f104 = some F154 := by kernel_rfl
theorem c105 : compFunc Tryz.prog lab Tryz.f105 = some F155 := by kernel_rfl
theorem c106 : compFunc Tryz.prog lab Tryz.f106 = some F156 := by kernel_rfl
theorem c107 : compFunc Tryz.prog lab Tryz.f107 = some F157 := by kernel_rfl
theorem c108 : compFunc Tryz.prog lab Tryz.f108 = some F128 := by kernel_rfl
theorem c109 : compFunc Tryz.prog lab Tryz.f109 = some F161 := by kernel_rfl
theorem c110 : compFunc Tryz.prog lab Tryz.f110 = some F265 := by kernel_rfl
theorem c111 : compFunc Tryz.prog lab Tryz.f111 = some F58 := by kernel_rfl
theorem c112 : compFunc Tryz.prog lab Tryz.f112 = some F162 := by kernel_rfl
theorem c113 : compFunc Tryz.prog lab Tryz.f113 = some F167 := by kernel_rfl
theorem c114 : compFunc Tryz.prog lab Tryz.f114 = some F168 := by kernel_rfl
theorem c115 : compFunc Tryz.prog lab Tryz.f115 = some F200 := by kernel_rfl
theorem c116 : compFunc Tryz.prog lab Tryz.f116 = some F201 := by kernel_rfl
theorem c117 : compFunc Tryz.prog lab Tryz.f117 = some F202 := by kernel_rfl
theorem c118 : compFunc Tryz.prog lab Tryz.f118 = some F199 := by kernel_rfl
theorem c119 : compFunc Tryz.prog lab Tryz.f119 = some F203 := by kernel_rfl
theorem c120 : compFunc Tryz.prog lab Tryz.f120 = some F204 := by kernel_rfl
theorem c121 : compFunc Tryz.prog lab Tryz.f121 = some F205 := by kernel_rfl
theorem c122 : compFunc Tryz.prog lab Tryz.f122 = some F206 := by kernel_rfl
theorem c125 : compFunc Tryz.prog lab Tryz.f125 = some F197 := by kernel_rfl
theorem c126 : compFunc Tryz.prog lab Tryz.f126 = some F37 := by kernel_rfl
theorem c138 : compFunc Tryz.prog lab Tryz.f138 = some F82 := by kernel_rfl
theorem c139 : compFunc Tryz.prog lab Tryz.f139 = some F266 := by kernel_rfl
theorem c140 : compFunc Tryz.prog lab Tryz.f140 = some F267 := by kernel_rfl
theorem c141 : compFunc Tryz.prog lab Tryz.f141 = some F268 := by kernel_rfl
theorem c142 : compFunc Tryz.prog lab Tryz.f142 = some F269 := by kernel_rfl
theorem c143 : compFunc Tryz.prog lab Tryz.f143 = some F270 := by kernel_rfl
theorem c144 : compFunc Tryz.prog lab Tryz.f144 = some F271 := by kernel_rfl
theorem c145 : compFunc Tryz.prog lab Tryz.f145 = some F198 := by kernel_rfl
theorem c146 : compFunc Tryz.prog lab Tryz.f146 = some F207 := by kernel_rfl
theorem c147 : compFunc Tryz.prog lab Tryz.f147 = some F208 := by kernel_rfl
theorem c148 : compFunc Tryz.prog lab Tryz.f148 = some F209 := by kernel_rfl
theorem c149 : compFunc Tryz.prog lab Tryz.f149 = some F55 := by kernel_rfl
theorem c150 : compFunc Tryz.prog lab Tryz.f150 = some F57 := by kernel_rfl
theorem c151 : compFunc Tryz.prog lab Tryz.f151 = some F83 := by kernel_rfl
theorem c160 : compFunc Tryz.prog lab Tryz.f160 = some F272 := by kernel_rfl
theorem c161 : compFunc Tryz.prog lab Tryz.f161 = some F273 := by kernel_rfl
theorem c162 : compFunc Tryz.prog lab Tryz.f162 = some F274 := by kernel_rfl
theorem c163 : compFunc Tryz.prog lab Tryz.f163 = some F275 := by kernel_rfl
theorem c164 : compFunc Tryz.prog lab Tryz.f164 = some F276 := by kernel_rfl
theorem c165 : compFunc Tryz.prog lab Tryz.f165 = some F277 := by kernel_rfl
theorem c166 : compFunc Tryz.prog lab Tryz.f166 = some F278 := by kernel_rfl
theorem c167 : compFunc Tryz.prog lab Tryz.f167 = some F112 := by kernel_rfl
theorem c168 : compFunc Tryz.prog lab Tryz.f168 = some F210 := by kernel_rfl
theorem c169 : compFunc Tryz.prog lab Tryz.f169 = some F211 := by kernel_rfl
theorem c170 : compFunc Tryz.prog lab Tryz.f170 = some F212 := by kernel_rfl
theorem c171 : compFunc Tryz.prog lab Tryz.f171 = some F213 := by kernel_rfl
theorem c172 : compFunc Tryz.prog lab Tryz.f172 = some F214 := by kernel_rfl
theorem c173 : compFunc Tryz.prog lab Tryz.f173 = some F215 := by kernel_rfl
theorem c174 : compFunc Tryz.prog lab Tryz.f174 = some F216 := by kernel_rfl
theorem c175 : compFunc Tryz.prog lab Tryz.f175 = some F217 := by kernel_rfl
theorem c176 : compFunc Tryz.prog lab Tryz.f176 = some F218 := by kernel_rfl
theorem c177 : compFunc Tryz.prog lab Tryz.f177 = some F219 := by kernel_rfl
theorem c178 : compFunc Tryz.prog lab Tryz.f178 = some F220 := by kernel_rfl
theorem c179 : compFunc Tryz.prog lab Tryz.f179 = some F93 := by kernel_rfl
theorem c193 : compFunc Tryz.prog lab Tryz.f193 = some F114 := by kernel_rfl
theorem c194 : compFunc Tryz.prog lab Tryz.f194 = some F221 := by kernel_rfl
theorem c195 : compFunc Tryz.prog lab Tryz.f195 = some F222 := by kernel_rfl
theorem c196 : compFunc Tryz.prog lab Tryz.f196 = some F223 := by kernel_rfl
theorem c197 : compFunc Tryz.prog lab Tryz.f197 = some F224 := by kernel_rfl
theorem c198 : compFunc Tryz.prog lab Tryz.f198 = some F225 := by kernel_rfl
theorem c199 : compFunc Tryz.prog lab Tryz.f199 = some F226 := by kernel_rfl
theorem c200 : compFunc Tryz.prog lab Tryz.f200 = some F107 := by kernel_rfl
theorem c201 : compFunc Tryz.prog lab Tryz.f201 = some F108 := by kernel_rfl
theorem c204 : compFunc Tryz.prog lab Tryz.f204 = some F227 := by kernel_rfl
theorem fact_of {f l : Nat} {fn : Func} {af : AFunc} (hl : lab f = l) (ha : AP l = some af) (hf : Tryz.prog.funcs[f]? = some fn) (hc : compFunc Tryz.prog lab fn = some af) : Fact f := fun af' h => by
  rw [hl, ha] at h; cases h; exact ⟨fn, hf, hc⟩
theorem fact_off {f l : Nat} (hl : lab f = l) (ha : AP l = none) : Fact f := fun af' h => by
  rw [hl, ha] at h; cases h
theorem fact_no {f : Nat} (hl : lab f = 0) : Fact f := fun af' h => by
  rw [hl] at h; cases h
theorem k0 : Fact 0 := fact_no (by kernel_rfl)
theorem k1 : Fact 1 := fact_no (by kernel_rfl)
theorem k2 : Fact 2 := fact_off (l := 1) (by kernel_rfl) (by kernel_rfl)
theorem k3 : Fact 3 := fact_off (l := 228) (by kernel_rfl) (by kernel_rfl)
theorem k4 : Fact 4 := fact_off (l := 229) (by kernel_rfl) (by kernel_rfl)
theorem k5 : Fact 5 := fact_off (l := 230) (by kernel_rfl) (by kernel_rfl)
theorem k6 : Fact 6 := fact_off (l := 231) (by kernel_rfl) (by kernel_rfl)
theorem k7 : Fact 7 := fact_of (l := 232) (af := F232) (by kernel_rfl) (by kernel_rfl) Tryz.func7 c7
theorem k8 : Fact 8 := fact_of (l := 121) (af := F121) (by kernel_rfl) (by kernel_rfl) Tryz.func8 c8
theorem k9 : Fact 9 := fact_off (l := 143) (by kernel_rfl) (by kernel_rfl)
theorem k10 : Fact 10 := fact_of (l := 146) (af := F146) (by kernel_rfl) (by kernel_rfl) Tryz.func10 c10
theorem k11 : Fact 11 := fact_of (l := 150) (af := F150) (by kernel_rfl) (by kernel_rfl) Tryz.func11 c11
theorem k12 : Fact 12 := fact_off (l := 233) (by kernel_rfl) (by kernel_rfl)
theorem k13 : Fact 13 := fact_of (l := 147) (af := F147) (by kernel_rfl) (by kernel_rfl) Tryz.func13 c13
theorem k14 : Fact 14 := fact_off (l := 234) (by kernel_rfl) (by kernel_rfl)
theorem k15 : Fact 15 := fact_of (l := 148) (af := F148) (by kernel_rfl) (by kernel_rfl) Tryz.func15 c15
theorem k16 : Fact 16 := fact_of (l := 149) (af := F149) (by kernel_rfl) (by kernel_rfl) Tryz.func16 c16
theorem k17 : Fact 17 := fact_off (l := 235) (by kernel_rfl) (by kernel_rfl)
theorem k18 : Fact 18 := fact_off (l := 236) (by kernel_rfl) (by kernel_rfl)
theorem k19 : Fact 19 := fact_off (l := 132) (by kernel_rfl) (by kernel_rfl)
theorem k20 : Fact 20 := fact_off (l := 237) (by kernel_rfl) (by kernel_rfl)
theorem k21 : Fact 21 := fact_off (l := 238) (by kernel_rfl) (by kernel_rfl)
theorem k22 : Fact 22 := fact_off (l := 239) (by kernel_rfl) (by kernel_rfl)
theorem k23 : Fact 23 := fact_off (l := 240) (by kernel_rfl) (by kernel_rfl)
theorem k24 : Fact 24 := fact_off (l := 241) (by kernel_rfl) (by kernel_rfl)
theorem k25 : Fact 25 := fact_off (l := 242) (by kernel_rfl) (by kernel_rfl)
theorem k26 : Fact 26 := fact_off (l := 243) (by kernel_rfl) (by kernel_rfl)
theorem k27 : Fact 27 := fact_off (l := 244) (by kernel_rfl) (by kernel_rfl)
theorem k28 : Fact 28 := fact_of (l := 151) (af := F151) (by kernel_rfl) (by kernel_rfl) Tryz.func28 c28
theorem k29 : Fact 29 := fact_off (l := 245) (by kernel_rfl) (by kernel_rfl)
theorem k30 : Fact 30 := fact_off (l := 246) (by kernel_rfl) (by kernel_rfl)
theorem k31 : Fact 31 := fact_off (l := 247) (by kernel_rfl) (by kernel_rfl)
theorem k32 : Fact 32 := fact_off (l := 248) (by kernel_rfl) (by kernel_rfl)
theorem k33 : Fact 33 := fact_off (l := 249) (by kernel_rfl) (by kernel_rfl)
theorem k34 : Fact 34 := fact_off (l := 250) (by kernel_rfl) (by kernel_rfl)
theorem k35 : Fact 35 := fact_off (l := 251) (by kernel_rfl) (by kernel_rfl)
theorem k36 : Fact 36 := fact_of (l := 133) (af := F133) (by kernel_rfl) (by kernel_rfl) Tryz.func36 c36
theorem k37 : Fact 37 := fact_off (l := 19) (by kernel_rfl) (by kernel_rfl)
theorem k38 : Fact 38 := fact_off (l := 252) (by kernel_rfl) (by kernel_rfl)
theorem k39 : Fact 39 := fact_off (l := 16) (by kernel_rfl) (by kernel_rfl)
theorem k40 : Fact 40 := fact_of (l := 141) (af := F141) (by kernel_rfl) (by kernel_rfl) Tryz.func40 c40
theorem k41 : Fact 41 := fact_of (l := 138) (af := F138) (by kernel_rfl) (by kernel_rfl) Tryz.func41 c41
theorem k42 : Fact 42 := fact_of (l := 137) (af := F137) (by kernel_rfl) (by kernel_rfl) Tryz.func42 c42
theorem k43 : Fact 43 := fact_of (l := 122) (af := F122) (by kernel_rfl) (by kernel_rfl) Tryz.func43 c43
theorem k44 : Fact 44 := fact_of (l := 139) (af := F139) (by kernel_rfl) (by kernel_rfl) Tryz.func44 c44
theorem k45 : Fact 45 := fact_of (l := 126) (af := F126) (by kernel_rfl) (by kernel_rfl) Tryz.func45 c45
theorem k46 : Fact 46 := fact_of (l := 140) (af := F140) (by kernel_rfl) (by kernel_rfl) Tryz.func46 c46
theorem k47 : Fact 47 := fact_of (l := 253) (af := F253) (by kernel_rfl) (by kernel_rfl) Tryz.func47 c47
theorem k48 : Fact 48 := fact_of (l := 125) (af := F125) (by kernel_rfl) (by kernel_rfl) Tryz.func48 c48
theorem k49 : Fact 49 := fact_of (l := 130) (af := F130) (by kernel_rfl) (by kernel_rfl) Tryz.func49 c49
theorem k50 : Fact 50 := fact_of (l := 145) (af := F145) (by kernel_rfl) (by kernel_rfl) Tryz.func50 c50
theorem k51 : Fact 51 := fact_of (l := 135) (af := F135) (by kernel_rfl) (by kernel_rfl) Tryz.func51 c51
theorem k52 : Fact 52 := fact_of (l := 173) (af := F173) (by kernel_rfl) (by kernel_rfl) Tryz.func52 c52
theorem k53 : Fact 53 := fact_of (l := 174) (af := F174) (by kernel_rfl) (by kernel_rfl) Tryz.func53 c53
theorem k54 : Fact 54 := fact_of (l := 175) (af := F175) (by kernel_rfl) (by kernel_rfl) Tryz.func54 c54
theorem k55 : Fact 55 := fact_of (l := 193) (af := F193) (by kernel_rfl) (by kernel_rfl) Tryz.func55 c55
theorem k56 : Fact 56 := fact_of (l := 194) (af := F194) (by kernel_rfl) (by kernel_rfl) Tryz.func56 c56
theorem k57 : Fact 57 := fact_of (l := 195) (af := F195) (by kernel_rfl) (by kernel_rfl) Tryz.func57 c57
theorem k58 : Fact 58 := fact_of (l := 196) (af := F196) (by kernel_rfl) (by kernel_rfl) Tryz.func58 c58
theorem k59 : Fact 59 := fact_off (l := 254) (by kernel_rfl) (by kernel_rfl)
theorem k60 : Fact 60 := fact_off (l := 255) (by kernel_rfl) (by kernel_rfl)
theorem k61 : Fact 61 := fact_off (l := 256) (by kernel_rfl) (by kernel_rfl)
theorem k62 : Fact 62 := fact_of (l := 176) (af := F176) (by kernel_rfl) (by kernel_rfl) Tryz.func62 c62
theorem k63 : Fact 63 := fact_of (l := 177) (af := F177) (by kernel_rfl) (by kernel_rfl) Tryz.func63 c63
theorem k64 : Fact 64 := fact_of (l := 178) (af := F178) (by kernel_rfl) (by kernel_rfl) Tryz.func64 c64
theorem k65 : Fact 65 := fact_of (l := 179) (af := F179) (by kernel_rfl) (by kernel_rfl) Tryz.func65 c65
theorem k66 : Fact 66 := fact_of (l := 180) (af := F180) (by kernel_rfl) (by kernel_rfl) Tryz.func66 c66
theorem k67 : Fact 67 := fact_of (l := 181) (af := F181) (by kernel_rfl) (by kernel_rfl) Tryz.func67 c67
theorem k68 : Fact 68 := fact_of (l := 182) (af := F182) (by kernel_rfl) (by kernel_rfl) Tryz.func68 c68
theorem k69 : Fact 69 := fact_of (l := 183) (af := F183) (by kernel_rfl) (by kernel_rfl) Tryz.func69 c69
theorem k70 : Fact 70 := fact_off (l := 257) (by kernel_rfl) (by kernel_rfl)
theorem k71 : Fact 71 := fact_of (l := 169) (af := F169) (by kernel_rfl) (by kernel_rfl) Tryz.func71 c71
theorem k72 : Fact 72 := fact_off (l := 258) (by kernel_rfl) (by kernel_rfl)
theorem k73 : Fact 73 := fact_off (l := 259) (by kernel_rfl) (by kernel_rfl)
theorem k74 : Fact 74 := fact_of (l := 184) (af := F184) (by kernel_rfl) (by kernel_rfl) Tryz.func74 c74
theorem k75 : Fact 75 := fact_of (l := 185) (af := F185) (by kernel_rfl) (by kernel_rfl) Tryz.func75 c75
theorem k76 : Fact 76 := fact_of (l := 186) (af := F186) (by kernel_rfl) (by kernel_rfl) Tryz.func76 c76
theorem k77 : Fact 77 := fact_of (l := 166) (af := F166) (by kernel_rfl) (by kernel_rfl) Tryz.func77 c77
theorem k78 : Fact 78 := fact_of (l := 187) (af := F187) (by kernel_rfl) (by kernel_rfl) Tryz.func78 c78
theorem k79 : Fact 79 := fact_of (l := 188) (af := F188) (by kernel_rfl) (by kernel_rfl) Tryz.func79 c79
theorem k80 : Fact 80 := fact_of (l := 189) (af := F189) (by kernel_rfl) (by kernel_rfl) Tryz.func80 c80
theorem k81 : Fact 81 := fact_of (l := 190) (af := F190) (by kernel_rfl) (by kernel_rfl) Tryz.func81 c81
theorem k82 : Fact 82 := fact_of (l := 191) (af := F191) (by kernel_rfl) (by kernel_rfl) Tryz.func82 c82
theorem k83 : Fact 83 := fact_of (l := 192) (af := F192) (by kernel_rfl) (by kernel_rfl) Tryz.func83 c83
theorem k84 : Fact 84 := fact_off (l := 136) (by kernel_rfl) (by kernel_rfl)
theorem k85 : Fact 85 := fact_off (l := 260) (by kernel_rfl) (by kernel_rfl)
theorem k86 : Fact 86 := fact_off (l := 261) (by kernel_rfl) (by kernel_rfl)
theorem k87 : Fact 87 := fact_off (l := 262) (by kernel_rfl) (by kernel_rfl)
theorem k88 : Fact 88 := fact_off (l := 263) (by kernel_rfl) (by kernel_rfl)
theorem k89 : Fact 89 := fact_off (l := 171) (by kernel_rfl) (by kernel_rfl)
theorem k90 : Fact 90 := fact_off (l := 170) (by kernel_rfl) (by kernel_rfl)
theorem k91 : Fact 91 := fact_off (l := 264) (by kernel_rfl) (by kernel_rfl)
theorem k92 : Fact 92 := fact_of (l := 160) (af := F160) (by kernel_rfl) (by kernel_rfl) Tryz.func92 c92
theorem k93 : Fact 93 := fact_of (l := 163) (af := F163) (by kernel_rfl) (by kernel_rfl) Tryz.func93 c93
theorem k94 : Fact 94 := fact_of (l := 164) (af := F164) (by kernel_rfl) (by kernel_rfl) Tryz.func94 c94
theorem k95 : Fact 95 := fact_off (l := 44) (by kernel_rfl) (by kernel_rfl)
theorem k96 : Fact 96 := fact_off (l := 38) (by kernel_rfl) (by kernel_rfl)
theorem k97 : Fact 97 := fact_off (l := 45) (by kernel_rfl) (by kernel_rfl)
theorem k98 : Fact 98 := fact_off (l := 39) (by kernel_rfl) (by kernel_rfl)
theorem k99 : Fact 99 := fact_off (l := 47) (by kernel_rfl) (by kernel_rfl)
theorem k100 : Fact 100 := fact_of (l := 172) (af := F172) (by kernel_rfl) (by kernel_rfl) Tryz.func100 c100
theorem k101 : Fact 101 := fact_of (l := 152) (af := F152) (by kernel_rfl) (by kernel_rfl) Tryz.func101 c101
theorem k102 : Fact 102 := fact_of (l := 56) (af := F56) (by kernel_rfl) (by kernel_rfl) Tryz.func102 c102
theorem k103 : Fact 103 := fact_of (l := 153) (af := F153) (by kernel_rfl) (by kernel_rfl) Tryz.func103 c103
theorem k104 : Fact 104 := fact_of (l := 154) (af := F154) (by kernel_rfl) (by kernel_rfl) Tryz.func104 c104
theorem k105 : Fact 105 := fact_of (l := 155) (af := F155) (by kernel_rfl) (by kernel_rfl) Tryz.func105 c105
theorem k106 : Fact 106 := fact_of (l := 156) (af := F156) (by kernel_rfl) (by kernel_rfl) Tryz.func106 c106
theorem k107 : Fact 107 := fact_of (l := 157) (af := F157) (by kernel_rfl) (by kernel_rfl) Tryz.func107 c107
theorem k108 : Fact 108 := fact_of (l := 128) (af := F128) (by kernel_rfl) (by kernel_rfl) Tryz.func108 c108
theorem k109 : Fact 109 := fact_of (l := 161) (af := F161) (by kernel_rfl) (by kernel_rfl) Tryz.func109 c109
theorem k110 : Fact 110 := fact_of (l := 265) (af := F265) (by kernel_rfl) (by kernel_rfl) Tryz.func110 c110
theorem k111 : Fact 111 := fact_of (l := 58) (af := F58) (by kernel_rfl) (by kernel_rfl) Tryz.func111 c111
theorem k112 : Fact 112 := fact_of (l := 162) (af := F162) (by kernel_rfl) (by kernel_rfl) Tryz.func112 c112
theorem k113 : Fact 113 := fact_of (l := 167) (af := F167) (by kernel_rfl) (by kernel_rfl) Tryz.func113 c113
theorem k114 : Fact 114 := fact_of (l := 168) (af := F168) (by kernel_rfl) (by kernel_rfl) Tryz.func114 c114
theorem k115 : Fact 115 := fact_of (l := 200) (af := F200) (by kernel_rfl) (by kernel_rfl) Tryz.func115 c115
theorem k116 : Fact 116 := fact_of (l := 201) (af := F201) (by kernel_rfl) (by kernel_rfl) Tryz.func116 c116
theorem k117 : Fact 117 := fact_of (l := 202) (af := F202) (by kernel_rfl) (by kernel_rfl) Tryz.func117 c117
theorem k118 : Fact 118 := fact_of (l := 199) (af := F199) (by kernel_rfl) (by kernel_rfl) Tryz.func118 c118
theorem k119 : Fact 119 := fact_of (l := 203) (af := F203) (by kernel_rfl) (by kernel_rfl) Tryz.func119 c119
theorem k120 : Fact 120 := fact_of (l := 204) (af := F204) (by kernel_rfl) (by kernel_rfl) Tryz.func120 c120
theorem k121 : Fact 121 := fact_of (l := 205) (af := F205) (by kernel_rfl) (by kernel_rfl) Tryz.func121 c121
theorem k122 : Fact 122 := fact_of (l := 206) (af := F206) (by kernel_rfl) (by kernel_rfl) Tryz.func122 c122
theorem k123 : Fact 123 := fact_off (l := 159) (by kernel_rfl) (by kernel_rfl)
theorem k124 : Fact 124 := fact_no (by kernel_rfl)
theorem k125 : Fact 125 := fact_of (l := 197) (af := F197) (by kernel_rfl) (by kernel_rfl) Tryz.func125 c125
theorem k126 : Fact 126 := fact_of (l := 37) (af := F37) (by kernel_rfl) (by kernel_rfl) Tryz.func126 c126
theorem k127 : Fact 127 := fact_off (l := 42) (by kernel_rfl) (by kernel_rfl)
theorem k128 : Fact 128 := fact_off (l := 13) (by kernel_rfl) (by kernel_rfl)
theorem k129 : Fact 129 := fact_off (l := 60) (by kernel_rfl) (by kernel_rfl)
theorem k130 : Fact 130 := fact_off (l := 61) (by kernel_rfl) (by kernel_rfl)
theorem k131 : Fact 131 := fact_off (l := 62) (by kernel_rfl) (by kernel_rfl)
theorem k132 : Fact 132 := fact_off (l := 63) (by kernel_rfl) (by kernel_rfl)
theorem k133 : Fact 133 := fact_off (l := 64) (by kernel_rfl) (by kernel_rfl)
theorem k134 : Fact 134 := fact_off (l := 65) (by kernel_rfl) (by kernel_rfl)
theorem k135 : Fact 135 := fact_off (l := 66) (by kernel_rfl) (by kernel_rfl)
theorem k136 : Fact 136 := fact_off (l := 67) (by kernel_rfl) (by kernel_rfl)
theorem k137 : Fact 137 := fact_off (l := 68) (by kernel_rfl) (by kernel_rfl)
theorem k138 : Fact 138 := fact_of (l := 82) (af := F82) (by kernel_rfl) (by kernel_rfl) Tryz.func138 c138
theorem k139 : Fact 139 := fact_of (l := 266) (af := F266) (by kernel_rfl) (by kernel_rfl) Tryz.func139 c139
theorem k140 : Fact 140 := fact_of (l := 267) (af := F267) (by kernel_rfl) (by kernel_rfl) Tryz.func140 c140
theorem k141 : Fact 141 := fact_of (l := 268) (af := F268) (by kernel_rfl) (by kernel_rfl) Tryz.func141 c141
theorem k142 : Fact 142 := fact_of (l := 269) (af := F269) (by kernel_rfl) (by kernel_rfl) Tryz.func142 c142
theorem k143 : Fact 143 := fact_of (l := 270) (af := F270) (by kernel_rfl) (by kernel_rfl) Tryz.func143 c143
theorem k144 : Fact 144 := fact_of (l := 271) (af := F271) (by kernel_rfl) (by kernel_rfl) Tryz.func144 c144
theorem k145 : Fact 145 := fact_of (l := 198) (af := F198) (by kernel_rfl) (by kernel_rfl) Tryz.func145 c145
theorem k146 : Fact 146 := fact_of (l := 207) (af := F207) (by kernel_rfl) (by kernel_rfl) Tryz.func146 c146
theorem k147 : Fact 147 := fact_of (l := 208) (af := F208) (by kernel_rfl) (by kernel_rfl) Tryz.func147 c147
theorem k148 : Fact 148 := fact_of (l := 209) (af := F209) (by kernel_rfl) (by kernel_rfl) Tryz.func148 c148
theorem k149 : Fact 149 := fact_of (l := 55) (af := F55) (by kernel_rfl) (by kernel_rfl) Tryz.func149 c149
theorem k150 : Fact 150 := fact_of (l := 57) (af := F57) (by kernel_rfl) (by kernel_rfl) Tryz.func150 c150
theorem k151 : Fact 151 := fact_of (l := 83) (af := F83) (by kernel_rfl) (by kernel_rfl) Tryz.func151 c151
theorem k152 : Fact 152 := fact_off (l := 84) (by kernel_rfl) (by kernel_rfl)
theorem k153 : Fact 153 := fact_off (l := 85) (by kernel_rfl) (by kernel_rfl)
theorem k154 : Fact 154 := fact_off (l := 86) (by kernel_rfl) (by kernel_rfl)
theorem k155 : Fact 155 := fact_off (l := 87) (by kernel_rfl) (by kernel_rfl)
theorem k156 : Fact 156 := fact_off (l := 88) (by kernel_rfl) (by kernel_rfl)
theorem k157 : Fact 157 := fact_off (l := 89) (by kernel_rfl) (by kernel_rfl)
theorem k158 : Fact 158 := fact_off (l := 90) (by kernel_rfl) (by kernel_rfl)
theorem k159 : Fact 159 := fact_off (l := 91) (by kernel_rfl) (by kernel_rfl)
theorem k160 : Fact 160 := fact_of (l := 272) (af := F272) (by kernel_rfl) (by kernel_rfl) Tryz.func160 c160
theorem k161 : Fact 161 := fact_of (l := 273) (af := F273) (by kernel_rfl) (by kernel_rfl) Tryz.func161 c161
theorem k162 : Fact 162 := fact_of (l := 274) (af := F274) (by kernel_rfl) (by kernel_rfl) Tryz.func162 c162
theorem k163 : Fact 163 := fact_of (l := 275) (af := F275) (by kernel_rfl) (by kernel_rfl) Tryz.func163 c163
theorem k164 : Fact 164 := fact_of (l := 276) (af := F276) (by kernel_rfl) (by kernel_rfl) Tryz.func164 c164
theorem k165 : Fact 165 := fact_of (l := 277) (af := F277) (by kernel_rfl) (by kernel_rfl) Tryz.func165 c165
theorem k166 : Fact 166 := fact_of (l := 278) (af := F278) (by kernel_rfl) (by kernel_rfl) Tryz.func166 c166
theorem k167 : Fact 167 := fact_of (l := 112) (af := F112) (by kernel_rfl) (by kernel_rfl) Tryz.func167 c167
theorem k168 : Fact 168 := fact_of (l := 210) (af := F210) (by kernel_rfl) (by kernel_rfl) Tryz.func168 c168
theorem k169 : Fact 169 := fact_of (l := 211) (af := F211) (by kernel_rfl) (by kernel_rfl) Tryz.func169 c169
theorem k170 : Fact 170 := fact_of (l := 212) (af := F212) (by kernel_rfl) (by kernel_rfl) Tryz.func170 c170
theorem k171 : Fact 171 := fact_of (l := 213) (af := F213) (by kernel_rfl) (by kernel_rfl) Tryz.func171 c171
theorem k172 : Fact 172 := fact_of (l := 214) (af := F214) (by kernel_rfl) (by kernel_rfl) Tryz.func172 c172
theorem k173 : Fact 173 := fact_of (l := 215) (af := F215) (by kernel_rfl) (by kernel_rfl) Tryz.func173 c173
theorem k174 : Fact 174 := fact_of (l := 216) (af := F216) (by kernel_rfl) (by kernel_rfl) Tryz.func174 c174
theorem k175 : Fact 175 := fact_of (l := 217) (af := F217) (by kernel_rfl) (by kernel_rfl) Tryz.func175 c175
theorem k176 : Fact 176 := fact_of (l := 218) (af := F218) (by kernel_rfl) (by kernel_rfl) Tryz.func176 c176
theorem k177 : Fact 177 := fact_of (l := 219) (af := F219) (by kernel_rfl) (by kernel_rfl) Tryz.func177 c177
theorem k178 : Fact 178 := fact_of (l := 220) (af := F220) (by kernel_rfl) (by kernel_rfl) Tryz.func178 c178
theorem k179 : Fact 179 := fact_of (l := 93) (af := F93) (by kernel_rfl) (by kernel_rfl) Tryz.func179 c179
theorem k180 : Fact 180 := fact_off (l := 94) (by kernel_rfl) (by kernel_rfl)
theorem k181 : Fact 181 := fact_off (l := 95) (by kernel_rfl) (by kernel_rfl)
theorem k182 : Fact 182 := fact_off (l := 96) (by kernel_rfl) (by kernel_rfl)
theorem k183 : Fact 183 := fact_off (l := 97) (by kernel_rfl) (by kernel_rfl)
theorem k184 : Fact 184 := fact_off (l := 98) (by kernel_rfl) (by kernel_rfl)
theorem k185 : Fact 185 := fact_off (l := 99) (by kernel_rfl) (by kernel_rfl)
theorem k186 : Fact 186 := fact_off (l := 100) (by kernel_rfl) (by kernel_rfl)
theorem k187 : Fact 187 := fact_off (l := 101) (by kernel_rfl) (by kernel_rfl)
theorem k188 : Fact 188 := fact_off (l := 102) (by kernel_rfl) (by kernel_rfl)
theorem k189 : Fact 189 := fact_off (l := 103) (by kernel_rfl) (by kernel_rfl)
theorem k190 : Fact 190 := fact_off (l := 104) (by kernel_rfl) (by kernel_rfl)
theorem k191 : Fact 191 := fact_off (l := 105) (by kernel_rfl) (by kernel_rfl)
theorem k192 : Fact 192 := fact_off (l := 106) (by kernel_rfl) (by kernel_rfl)
theorem k193 : Fact 193 := fact_of (l := 114) (af := F114) (by kernel_rfl) (by kernel_rfl) Tryz.func193 c193
theorem k194 : Fact 194 := fact_of (l := 221) (af := F221) (by kernel_rfl) (by kernel_rfl) Tryz.func194 c194
theorem k195 : Fact 195 := fact_of (l := 222) (af := F222) (by kernel_rfl) (by kernel_rfl) Tryz.func195 c195
theorem k196 : Fact 196 := fact_of (l := 223) (af := F223) (by kernel_rfl) (by kernel_rfl) Tryz.func196 c196
theorem k197 : Fact 197 := fact_of (l := 224) (af := F224) (by kernel_rfl) (by kernel_rfl) Tryz.func197 c197
theorem k198 : Fact 198 := fact_of (l := 225) (af := F225) (by kernel_rfl) (by kernel_rfl) Tryz.func198 c198
theorem k199 : Fact 199 := fact_of (l := 226) (af := F226) (by kernel_rfl) (by kernel_rfl) Tryz.func199 c199
theorem k200 : Fact 200 := fact_of (l := 107) (af := F107) (by kernel_rfl) (by kernel_rfl) Tryz.func200 c200
theorem k201 : Fact 201 := fact_of (l := 108) (af := F108) (by kernel_rfl) (by kernel_rfl) Tryz.func201 c201
theorem k202 : Fact 202 := fact_off (l := 109) (by kernel_rfl) (by kernel_rfl)
theorem k203 : Fact 203 := fact_off (l := 110) (by kernel_rfl) (by kernel_rfl)
theorem k204 : Fact 204 := fact_of (l := 227) (af := F227) (by kernel_rfl) (by kernel_rfl) Tryz.func204 c204
theorem k205 : Fact 205 := fact_off (l := 111) (by kernel_rfl) (by kernel_rfl)
theorem k206 : Fact 206 := fact_off (l := 113) (by kernel_rfl) (by kernel_rfl)
theorem k207 : Fact 207 := fact_no (by kernel_rfl)
theorem k208 : Fact 208 := fact_no (by kernel_rfl)
theorem k209 : Fact 209 := fact_no (by kernel_rfl)
theorem k210 : Fact 210 := fact_no (by kernel_rfl)
theorem k211 : Fact 211 := fact_no (by kernel_rfl)
theorem k212 : Fact 212 := fact_no (by kernel_rfl)
theorem k213 : Fact 213 := fact_no (by kernel_rfl)
theorem k214 : Fact 214 := fact_no (by kernel_rfl)
theorem k215 : Fact 215 := fact_no (by kernel_rfl)
theorem k216 : Fact 216 := fact_no (by kernel_rfl)
theorem k217 : Fact 217 := fact_no (by kernel_rfl)
theorem k218 : Fact 218 := fact_no (by kernel_rfl)
theorem k219 : Fact 219 := fact_no (by kernel_rfl)
theorem k220 : Fact 220 := fact_no (by kernel_rfl)
theorem k221 : Fact 221 := fact_no (by kernel_rfl)
theorem k222 : Fact 222 := fact_no (by kernel_rfl)
theorem fact_all : AllFrom Fact 0 223 := ⟨k0, ⟨k1, ⟨k2, ⟨k3, ⟨k4, ⟨k5, ⟨k6, ⟨k7, ⟨k8, ⟨k9, ⟨k10, ⟨k11, ⟨k12, ⟨k13, ⟨k14, ⟨k15, ⟨k16, ⟨k17, ⟨k18, ⟨k19, ⟨k20, ⟨k21, ⟨k22, ⟨k23, ⟨k24, ⟨k25, ⟨k26, ⟨k27, ⟨k28, ⟨k29, ⟨k30, ⟨k31, ⟨k32, ⟨k33, ⟨k34, ⟨k35, ⟨k36, ⟨k37, ⟨k38, ⟨k39, ⟨k40, ⟨k41, ⟨k42, ⟨k43, ⟨k44, ⟨k45, ⟨k46, ⟨k47, ⟨k48, ⟨k49, ⟨k50, ⟨k51, ⟨k52, ⟨k53, ⟨k54, ⟨k55, ⟨k56, ⟨k57, ⟨k58, ⟨k59, ⟨k60, ⟨k61, ⟨k62, ⟨k63, ⟨k64, ⟨k65, ⟨k66, ⟨k67, ⟨k68, ⟨k69, ⟨k70, ⟨k71, ⟨k72, ⟨k73, ⟨k74, ⟨k75, ⟨k76, ⟨k77, ⟨k78, ⟨k79, ⟨k80, ⟨k81, ⟨k82, ⟨k83, ⟨k84, ⟨k85, ⟨k86, ⟨k87, ⟨k88, ⟨k89, ⟨k90, ⟨k91, ⟨k92, ⟨k93, ⟨k94, ⟨k95, ⟨k96, ⟨k97, ⟨k98, ⟨k99, ⟨k100, ⟨k101, ⟨k102, ⟨k103, ⟨k104, ⟨k105, ⟨k106, ⟨k107, ⟨k108, ⟨k109, ⟨k110, ⟨k111, ⟨k112, ⟨k113, ⟨k114, ⟨k115, ⟨k116, ⟨k117, ⟨k118, ⟨k119, ⟨k120, ⟨k121, ⟨k122, ⟨k123, ⟨k124, ⟨k125, ⟨k126, ⟨k127, ⟨k128, ⟨k129, ⟨k130, ⟨k131, ⟨k132, ⟨k133, ⟨k134, ⟨k135, ⟨k136, ⟨k137, ⟨k138, ⟨k139, ⟨k140, ⟨k141, ⟨k142, ⟨k143, ⟨k144, ⟨k145, ⟨k146, ⟨k147, ⟨k148, ⟨k149, ⟨k150, ⟨k151, ⟨k152, ⟨k153, ⟨k154, ⟨k155, ⟨k156, ⟨k157, ⟨k158, ⟨k159, ⟨k160, ⟨k161, ⟨k162, ⟨k163, ⟨k164, ⟨k165, ⟨k166, ⟨k167, ⟨k168, ⟨k169, ⟨k170, ⟨k171, ⟨k172, ⟨k173, ⟨k174, ⟨k175, ⟨k176, ⟨k177, ⟨k178, ⟨k179, ⟨k180, ⟨k181, ⟨k182, ⟨k183, ⟨k184, ⟨k185, ⟨k186, ⟨k187, ⟨k188, ⟨k189, ⟨k190, ⟨k191, ⟨k192, ⟨k193, ⟨k194, ⟨k195, ⟨k196, ⟨k197, ⟨k198, ⟨k199, ⟨k200, ⟨k201, ⟨k202, ⟨k203, ⟨k204, ⟨k205, ⟨k206, ⟨k207, ⟨k208, ⟨k209, ⟨k210, ⟨k211, ⟨k212, ⟨k213, ⟨k214, ⟨k215, ⟨k216, ⟨k217, ⟨k218, ⟨k219, ⟨k220, ⟨k221, ⟨k222, trivial⟩⟩⟩⟩⟩⟩⟩⟩⟩⟩⟩⟩⟩⟩⟩⟩⟩⟩⟩⟩⟩⟩⟩⟩⟩⟩⟩⟩⟩⟩⟩⟩⟩⟩⟩⟩⟩⟩⟩⟩⟩⟩⟩⟩⟩⟩⟩⟩⟩⟩⟩⟩⟩⟩⟩⟩⟩⟩⟩⟩⟩⟩⟩⟩⟩⟩⟩⟩⟩⟩⟩⟩⟩⟩⟩⟩⟩⟩⟩⟩⟩⟩⟩⟩⟩⟩⟩⟩⟩⟩⟩⟩⟩⟩⟩⟩⟩⟩⟩⟩⟩⟩⟩⟩⟩⟩⟩⟩⟩⟩⟩⟩⟩⟩⟩⟩⟩⟩⟩⟩⟩⟩⟩⟩⟩⟩⟩⟩⟩⟩⟩⟩⟩⟩⟩⟩⟩⟩⟩⟩⟩⟩⟩⟩⟩⟩⟩⟩⟩⟩⟩⟩⟩⟩⟩⟩⟩⟩⟩⟩⟩⟩⟩⟩⟩⟩⟩⟩⟩⟩⟩⟩⟩⟩⟩⟩⟩⟩⟩⟩⟩⟩⟩⟩⟩⟩⟩⟩⟩⟩⟩⟩⟩⟩⟩⟩⟩⟩⟩⟩⟩⟩⟩⟩⟩⟩⟩⟩⟩⟩⟩⟩⟩⟩⟩⟩⟩⟩⟩⟩⟩⟩⟩
end Go.Ab.Dikez
