/- strings.Builder's contracts. -/
import Derived.Test.YtmppgcknmmmioaaGreatDoorZ08
import Derived.Shelf.Strings.Builder1
import Derived.Shelf.Strings.OnBuilder
import Derived.Shelf.Small.Strs
import Derived.Shelf.LaysM
import Derived.Shelf.Strconv.Itoa3
import Derived.Shelf.LaysC
import Derived.Shelf.Strconv.AtoiAll
import Derived.Shelf.Strings.Cut
import Derived.Shelf.Strings.FieldsAny
import Derived.Test.YtmppgcknmmmioaaGreatDoorProg
import Derived.Test.YtmppgcknmmmioaaGreatDoorZ07
import Derived.Test.YtmppgcknmmmioaaGreatDoorZ05
import Derived.Lib.AppendIntMem
set_option linter.unusedSimpArgs false
set_option linter.unusedVariables false
set_option linter.unusedSectionVars false
set_option maxRecDepth 100000
namespace Go.Ab.Grid
open Go Go.Ab Go.Proofs
theorem lab_out {f : Nat} (h : labs.length ≤ f) : AP (lab f) = none := by
  have e9 : AP 119 = none := by kernel_rfl
  have e3 : AP 0 = none := by kernel_rfl
  have e0 : labs.getD f 0 = 0 := by simp [List.getElem?_eq_none h]
  unfold lab
  cases Nat.beq f 3000000 with
  | true => exact e9
  | false =>
    show AP (labs.getD f 0) = none
    rw [e0]; exact e3
theorem labs_len : labs.length = 190 := by kernel_rfl
theorem fact (f : Nat) : Fact f := by
  rcases Nat.lt_or_ge f 190 with h | h
  · exact fact_all.at f (Nat.zero_le _) (by omega)
  · intro af hf; rw [lab_out (by rw [labs_len]; exact h)] at hf; cases hf
def isSqrt : Option AFunc → Bool
  | some .sqrt => true
  | _ => false
theorem sqrt_none : ((List.range 190).all fun f => !isSqrt (AP (lab f))) = true := by kernel_rfl
noncomputable def E (W0 : Array Obj) : Env where
  P := Tryz.prog
  lab := lab
  AP := AP
  ok f af h := fact f af h
  sqrt f h := by
    exfalso
    rcases Nat.lt_or_ge f 190 with h1 | h1
    · have := List.all_eq_true.1 sqrt_none f (List.mem_range.2 h1)
      rw [h] at this
      simp [isSqrt] at this
    · rw [lab_out (by rw [labs_len]; exact h1)] at h; cases h
  mixed := by kernel_rfl
  W0 := W0
end Go.Ab.Grid
namespace Go.Proofs
open Go.Shelf Go.RowKit Go.Sort Go.Lib
def Tryz.lays156_ren : Go.Shelf.Ren := ⟨fun | 156 => 84 | 165 => 108 | 166 => 83 | 169 => 87 | 240 => 107 | 241 => 121 | 276 => 120 | 277 => 133 | n => n, fun | 31 => 120 | 9 => 9 | 3 => 3 | 4 => 4 | 0 => 0 | 20 => 20 | 72 => 119 | 76 => 123 | 70 => 117 | 37 => 62 | 75 => 122 | 127 => 150 | 164 => 162 | 5 => 5 | 80 => 129 | n => n, fun | n => n⟩
theorem Tryz.lays156 : Go.Proofs.Lays.n156 Tryz.prog Tryz.lays156_ren := {
  mixed := by kernel_rfl
  f156 := Tryz.func84.trans (congrArg some (by kernel_rfl))
  f165 := Tryz.func108.trans (congrArg some (by kernel_rfl))
  f166 := Tryz.func83.trans (congrArg some (by kernel_rfl))
  f169 := Tryz.func87.trans (congrArg some (by kernel_rfl))
  f240 := Tryz.func107.trans (congrArg some (by kernel_rfl))
  f241 := Tryz.func121.trans (congrArg some (by kernel_rfl))
  f276 := Tryz.func120.trans (congrArg some (by kernel_rfl))
  f277 := Tryz.func133.trans (congrArg some (by kernel_rfl))
  t0 := Tryz.underlying0
  a0 := Tryz.isAgg0
  z0 := Tryz.sizeOf0
  v0 := Tryz.zeroValue0
  t3 := Tryz.underlying3
  a3 := Tryz.isAgg3
  z3 := Tryz.sizeOf3
  v3 := Tryz.zeroValue3
  t4 := Tryz.underlying4
  a4 := Tryz.isAgg4
  z4 := Tryz.sizeOf4
  v4 := Tryz.zeroValue4
  t9 := Tryz.underlying9
  a9 := Tryz.isAgg9
  z9 := Tryz.sizeOf9
  v9 := Tryz.zeroValue9
  t20 := Tryz.underlying20
  a20 := Tryz.isAgg20
  z20 := Tryz.sizeOf20
  v20 := Tryz.zeroValue20
  t31 := Tryz.underlying120
  a31 := Tryz.isAgg120
  z31 := Tryz.sizeOf120
  v31 := Tryz.zeroValue120
  t37 := Tryz.underlying62
  a37 := Tryz.isAgg62
  z37 := Tryz.sizeOf62
  v37 := Tryz.zeroValue62
  t70 := Tryz.underlying117
  a70 := Tryz.isAgg117
  z70 := Tryz.sizeOf117
  v70 := Tryz.zeroValue117
  t72 := Tryz.underlying119
  a72 := Tryz.isAgg119
  z72 := Tryz.sizeOf119
  v72 := Tryz.zeroValue119
  t75 := Tryz.underlying122
  a75 := Tryz.isAgg122
  z75 := Tryz.sizeOf122
  v75 := Tryz.zeroValue122
  t76 := Tryz.underlying123
  a76 := Tryz.isAgg123
  z76 := Tryz.sizeOf123
  v76 := Tryz.zeroValue123
  t127 := Tryz.underlying150
  a127 := Tryz.isAgg150
  z127 := Tryz.sizeOf150
  v127 := Tryz.zeroValue150
  t164 := Tryz.underlying162
  a164 := Tryz.isAgg162
  z164 := Tryz.sizeOf162
  v164 := Tryz.zeroValue162 }
theorem Tryz.Builder_Extra_156 : Builder.Extra Tryz.prog Tryz.lays156_ren := {
  sizeBuilder := by kernel_rfl
  liesBuilder := by kernel_rfl
  t5 := Tryz.underlying5
  a5 := Tryz.isAgg5
  z5 := Tryz.sizeOf5
  v5 := Tryz.zeroValue5
  infoByte := by kernel_rfl
  cellsByte := by kernel_rfl
  sizeByte := by kernel_rfl
  neB5 := by decide }
def Tryz.lays137_ren : Go.Shelf.Ren := ⟨fun | 137 => 111 | 217 => 123 | 266 => 138 | n => n, fun | 9 => 9 | 5 => 5 | 3 => 3 | n => n, fun | n => n⟩
theorem Tryz.lays137 : Go.Proofs.Lays.n137 Tryz.prog Tryz.lays137_ren := {
  mixed := by kernel_rfl
  f137 := Tryz.func111.trans (congrArg some (by kernel_rfl))
  f217 := Tryz.func123.trans (congrArg some (by kernel_rfl))
  f266 := Tryz.func138.trans (congrArg some (by kernel_rfl))
  t3 := Tryz.underlying3
  a3 := Tryz.isAgg3
  z3 := Tryz.sizeOf3
  v3 := Tryz.zeroValue3
  t5 := Tryz.underlying5
  a5 := Tryz.isAgg5
  z5 := Tryz.sizeOf5
  v5 := Tryz.zeroValue5
  t9 := Tryz.underlying9
  a9 := Tryz.isAgg9
  z9 := Tryz.sizeOf9
  v9 := Tryz.zeroValue9 }
def Tryz.laysM171_ren : Go.Shelf.Ren := ⟨fun | 171 => 85 | 243 => 109 | 246 => 122 | 283 => 134 | 284 => 135 | 285 => 136 | 286 => 137 | 129 => 148 | 317 => 147 | 318 => 149 | 319 => 150 | 320 => 151 | 337 => 155 | 338 => 156 | n => n, fun | 3 => 3 | 9 => 9 | 2 => 2 | 4 => 4 | 171 => 184 | 0 => 0 | 53 => 180 | 37 => 62 | 5 => 5 | 173 => 187 | 212 => 207 | 51 => 168 | 20 => 20 | 213 => 208 | 46 => 158 | 232 => 218 | 233 => 219 | n => n, fun | 17 => 5 | 18 => 6 | 19 => 7 | n => n⟩
theorem Tryz.laysM171 : Go.Proofs.LaysM.n171 Tryz.prog Tryz.laysM171_ren := {
  mixed := by kernel_rfl
  f129 := Tryz.func148.trans (congrArg some (by kernel_rfl))
  f171 := Tryz.func85.trans (congrArg some (by kernel_rfl))
  f243 := Tryz.func109.trans (congrArg some (by kernel_rfl))
  f246 := Tryz.func122.trans (congrArg some (by kernel_rfl))
  f283 := Tryz.func134.trans (congrArg some (by kernel_rfl))
  f284 := Tryz.func135.trans (congrArg some (by kernel_rfl))
  f285 := Tryz.func136.trans (congrArg some (by kernel_rfl))
  f286 := Tryz.func137.trans (congrArg some (by kernel_rfl))
  f317 := Tryz.func147.trans (congrArg some (by kernel_rfl))
  f318 := Tryz.func149.trans (congrArg some (by kernel_rfl))
  f319 := Tryz.func150.trans (congrArg some (by kernel_rfl))
  f320 := Tryz.func151.trans (congrArg some (by kernel_rfl))
  f337 := Tryz.func155.trans (congrArg some (by kernel_rfl))
  f338 := Tryz.func156.trans (congrArg some (by kernel_rfl))
  t0 := Tryz.underlying0
  a0 := Tryz.isAgg0
  z0 := Tryz.sizeOf0
  v0 := Tryz.zeroValue0
  t2 := Tryz.underlying2
  a2 := Tryz.isAgg2
  z2 := Tryz.sizeOf2
  v2 := Tryz.zeroValue2
  t3 := Tryz.underlying3
  a3 := Tryz.isAgg3
  z3 := Tryz.sizeOf3
  v3 := Tryz.zeroValue3
  t4 := Tryz.underlying4
  a4 := Tryz.isAgg4
  z4 := Tryz.sizeOf4
  v4 := Tryz.zeroValue4
  t5 := Tryz.underlying5
  a5 := Tryz.isAgg5
  z5 := Tryz.sizeOf5
  v5 := Tryz.zeroValue5
  t9 := Tryz.underlying9
  a9 := Tryz.isAgg9
  z9 := Tryz.sizeOf9
  v9 := Tryz.zeroValue9
  t20 := Tryz.underlying20
  a20 := Tryz.isAgg20
  z20 := Tryz.sizeOf20
  v20 := Tryz.zeroValue20
  t37 := Tryz.underlying62
  a37 := Tryz.isAgg62
  z37 := Tryz.sizeOf62
  v37 := Tryz.zeroValue62
  t46 := Tryz.underlying158
  a46 := Tryz.isAgg158
  z46 := Tryz.sizeOf158
  v46 := Tryz.zeroValue158
  t51 := Tryz.underlying168
  a51 := Tryz.isAgg168
  z51 := Tryz.sizeOf168
  v51 := Tryz.zeroValue168
  t53 := Tryz.underlying180
  a53 := Tryz.isAgg180
  z53 := Tryz.sizeOf180
  v53 := Tryz.zeroValue180
  t171 := Tryz.underlying184
  a171 := Tryz.isAgg184
  z171 := Tryz.sizeOf184
  v171 := Tryz.zeroValue184
  t173 := Tryz.underlying187
  a173 := Tryz.isAgg187
  z173 := Tryz.sizeOf187
  v173 := Tryz.zeroValue187
  t212 := Tryz.underlying207
  a212 := Tryz.isAgg207
  z212 := Tryz.sizeOf207
  v212 := Tryz.zeroValue207
  t213 := Tryz.underlying208
  a213 := Tryz.isAgg208
  z213 := Tryz.sizeOf208
  t232 := Tryz.underlying218
  a232 := Tryz.isAgg218
  z232 := Tryz.sizeOf218
  v232 := Tryz.zeroValue218
  t233 := Tryz.underlying219
  a233 := Tryz.isAgg219
  z233 := Tryz.sizeOf219
  v233 := Tryz.zeroValue219
  g17 := by kernel_rfl
  g18 := by kernel_rfl
  g19 := by kernel_rfl
  i0 := by kernel_rfl
  i2 := by kernel_rfl
  i3 := by kernel_rfl
  i4 := by kernel_rfl
  i5 := by kernel_rfl
  i9 := by kernel_rfl
  i20 := by kernel_rfl
  i37 := by kernel_rfl
  i46 := by kernel_rfl
  i51 := by kernel_rfl
  i53 := by kernel_rfl
  i171 := by kernel_rfl
  i173 := by kernel_rfl
  i212 := by kernel_rfl
  i232 := by kernel_rfl
  i233 := by kernel_rfl
  m17 := by kernel_rfl
  m18 := by kernel_rfl
  m19 := by kernel_rfl }
def Tryz.laysC172_ren : Go.Shelf.Ren := ⟨fun | 172 => 92 | 244 => 115 | 245 => 116 | 247 => 126 | 279 => 127 | 280 => 128 | 281 => 129 | 282 => 130 | 287 => 144 | 316 => 145 | 171 => 85 | 205 => 146 | 321 => 153 | 322 => 154 | 243 => 109 | 246 => 122 | 283 => 134 | 284 => 135 | 285 => 136 | 286 => 137 | 129 => 148 | 317 => 147 | 318 => 149 | 319 => 150 | 320 => 151 | 337 => 155 | 338 => 156 | n => n, fun | 9 => 9 | 3 => 3 | 75 => 122 | 76 => 123 | 4 => 4 | 5 => 5 | 167 => 172 | 37 => 62 | 0 => 0 | 85 => 173 | 2 => 2 | 168 => 175 | 53 => 180 | 175 => 200 | 46 => 158 | 210 => 204 | 127 => 150 | 145 => 216 | 143 => 214 | 21 => 21 | 171 => 184 | 173 => 187 | 212 => 207 | 51 => 168 | 20 => 20 | 213 => 208 | 232 => 218 | 233 => 219 | 80 => 129 | n => n, fun | 15 => 3 | 16 => 4 | 17 => 5 | 18 => 6 | 19 => 7 | n => n⟩
theorem Tryz.laysC172 : Go.Proofs.LaysC.n172 Tryz.prog Tryz.laysC172_ren := {
  mixed := by kernel_rfl
  f129 := Tryz.func148.trans (congrArg some (by kernel_rfl))
  f171 := Tryz.func85.trans (congrArg some (by kernel_rfl))
  f172 := Tryz.func92.trans (congrArg some (by kernel_rfl))
  f205 := Tryz.func146.trans (congrArg some (by kernel_rfl))
  f243 := Tryz.func109.trans (congrArg some (by kernel_rfl))
  f244 := Tryz.func115.trans (congrArg some (by kernel_rfl))
  f245 := Tryz.func116.trans (congrArg some (by kernel_rfl))
  f246 := Tryz.func122.trans (congrArg some (by kernel_rfl))
  f247 := Tryz.func126.trans (congrArg some (by kernel_rfl))
  f279 := Tryz.func127.trans (congrArg some (by kernel_rfl))
  f280 := Tryz.func128.trans (congrArg some (by kernel_rfl))
  f281 := Tryz.func129.trans (congrArg some (by kernel_rfl))
  f282 := Tryz.func130.trans (congrArg some (by kernel_rfl))
  f283 := Tryz.func134.trans (congrArg some (by kernel_rfl))
  f284 := Tryz.func135.trans (congrArg some (by kernel_rfl))
  f285 := Tryz.func136.trans (congrArg some (by kernel_rfl))
  f286 := Tryz.func137.trans (congrArg some (by kernel_rfl))
  f287 := Tryz.func144.trans (congrArg some (by kernel_rfl))
  f316 := Tryz.func145.trans (congrArg some (by kernel_rfl))
  f317 := Tryz.func147.trans (congrArg some (by kernel_rfl))
  f318 := Tryz.func149.trans (congrArg some (by kernel_rfl))
  f319 := Tryz.func150.trans (congrArg some (by kernel_rfl))
  f320 := Tryz.func151.trans (congrArg some (by kernel_rfl))
  f321 := Tryz.func153.trans (congrArg some (by kernel_rfl))
  f322 := Tryz.func154.trans (congrArg some (by kernel_rfl))
  f337 := Tryz.func155.trans (congrArg some (by kernel_rfl))
  f338 := Tryz.func156.trans (congrArg some (by kernel_rfl))
  t0 := Tryz.underlying0
  a0 := Tryz.isAgg0
  z0 := Tryz.sizeOf0
  v0 := Tryz.zeroValue0
  t2 := Tryz.underlying2
  a2 := Tryz.isAgg2
  z2 := Tryz.sizeOf2
  v2 := Tryz.zeroValue2
  t3 := Tryz.underlying3
  a3 := Tryz.isAgg3
  z3 := Tryz.sizeOf3
  v3 := Tryz.zeroValue3
  t4 := Tryz.underlying4
  a4 := Tryz.isAgg4
  z4 := Tryz.sizeOf4
  v4 := Tryz.zeroValue4
  t5 := Tryz.underlying5
  a5 := Tryz.isAgg5
  z5 := Tryz.sizeOf5
  v5 := Tryz.zeroValue5
  t9 := Tryz.underlying9
  a9 := Tryz.isAgg9
  z9 := Tryz.sizeOf9
  v9 := Tryz.zeroValue9
  t20 := Tryz.underlying20
  a20 := Tryz.isAgg20
  z20 := Tryz.sizeOf20
  v20 := Tryz.zeroValue20
  t21 := Tryz.underlying21
  a21 := Tryz.isAgg21
  z21 := Tryz.sizeOf21
  v21 := Tryz.zeroValue21
  t37 := Tryz.underlying62
  a37 := Tryz.isAgg62
  z37 := Tryz.sizeOf62
  v37 := Tryz.zeroValue62
  t46 := Tryz.underlying158
  a46 := Tryz.isAgg158
  z46 := Tryz.sizeOf158
  v46 := Tryz.zeroValue158
  t51 := Tryz.underlying168
  a51 := Tryz.isAgg168
  z51 := Tryz.sizeOf168
  v51 := Tryz.zeroValue168
  t53 := Tryz.underlying180
  a53 := Tryz.isAgg180
  z53 := Tryz.sizeOf180
  v53 := Tryz.zeroValue180
  t75 := Tryz.underlying122
  a75 := Tryz.isAgg122
  z75 := Tryz.sizeOf122
  v75 := Tryz.zeroValue122
  t76 := Tryz.underlying123
  a76 := Tryz.isAgg123
  z76 := Tryz.sizeOf123
  v76 := Tryz.zeroValue123
  t85 := Tryz.underlying173
  a85 := Tryz.isAgg173
  z85 := Tryz.sizeOf173
  v85 := Tryz.zeroValue173
  t127 := Tryz.underlying150
  a127 := Tryz.isAgg150
  z127 := Tryz.sizeOf150
  v127 := Tryz.zeroValue150
  t143 := Tryz.underlying214
  a143 := Tryz.isAgg214
  z143 := Tryz.sizeOf214
  v143 := Tryz.zeroValue214
  t145 := Tryz.underlying216
  a145 := Tryz.isAgg216
  z145 := Tryz.sizeOf216
  v145 := Tryz.zeroValue216
  t167 := Tryz.underlying172
  a167 := Tryz.isAgg172
  z167 := Tryz.sizeOf172
  v167 := Tryz.zeroValue172
  t168 := Tryz.underlying175
  a168 := Tryz.isAgg175
  z168 := Tryz.sizeOf175
  v168 := Tryz.zeroValue175
  t171 := Tryz.underlying184
  a171 := Tryz.isAgg184
  z171 := Tryz.sizeOf184
  v171 := Tryz.zeroValue184
  t173 := Tryz.underlying187
  a173 := Tryz.isAgg187
  z173 := Tryz.sizeOf187
  v173 := Tryz.zeroValue187
  t175 := Tryz.underlying200
  a175 := Tryz.isAgg200
  z175 := Tryz.sizeOf200
  v175 := Tryz.zeroValue200
  t210 := Tryz.underlying204
  a210 := Tryz.isAgg204
  z210 := Tryz.sizeOf204
  v210 := Tryz.zeroValue204
  t212 := Tryz.underlying207
  a212 := Tryz.isAgg207
  z212 := Tryz.sizeOf207
  v212 := Tryz.zeroValue207
  t213 := Tryz.underlying208
  a213 := Tryz.isAgg208
  z213 := Tryz.sizeOf208
  t232 := Tryz.underlying218
  a232 := Tryz.isAgg218
  z232 := Tryz.sizeOf218
  v232 := Tryz.zeroValue218
  t233 := Tryz.underlying219
  a233 := Tryz.isAgg219
  z233 := Tryz.sizeOf219
  v233 := Tryz.zeroValue219
  g15 := by kernel_rfl
  g16 := by kernel_rfl
  g17 := by kernel_rfl
  g18 := by kernel_rfl
  g19 := by kernel_rfl
  t80 := Tryz.underlying129
  a80 := Tryz.isAgg129
  z80 := Tryz.sizeOf129
  v80 := Tryz.zeroValue129
  i0 := by kernel_rfl
  i2 := by kernel_rfl
  i3 := by kernel_rfl
  i4 := by kernel_rfl
  i5 := by kernel_rfl
  i9 := by kernel_rfl
  i20 := by kernel_rfl
  i21 := by kernel_rfl
  i37 := by kernel_rfl
  i46 := by kernel_rfl
  i51 := by kernel_rfl
  i53 := by kernel_rfl
  i75 := by kernel_rfl
  i76 := by kernel_rfl
  i80 := by kernel_rfl
  i85 := by kernel_rfl
  i127 := by kernel_rfl
  i143 := by kernel_rfl
  i145 := by kernel_rfl
  i167 := by kernel_rfl
  i168 := by kernel_rfl
  i171 := by kernel_rfl
  i173 := by kernel_rfl
  i175 := by kernel_rfl
  i210 := by kernel_rfl
  i212 := by kernel_rfl
  i232 := by kernel_rfl
  i233 := by kernel_rfl
  m15 := by kernel_rfl
  m16 := by kernel_rfl
  m17 := by kernel_rfl
  m18 := by kernel_rfl
  m19 := by kernel_rfl
  c0 := by kernel_rfl
  c2 := by kernel_rfl
  c3 := by kernel_rfl
  c4 := by kernel_rfl
  c5 := by kernel_rfl
  c9 := by kernel_rfl
  c20 := by kernel_rfl
  c21 := by kernel_rfl
  c37 := by kernel_rfl
  c46 := by kernel_rfl
  c51 := by kernel_rfl
  c53 := by kernel_rfl
  c75 := by kernel_rfl
  c76 := by kernel_rfl
  c80 := by kernel_rfl
  c85 := by kernel_rfl
  c127 := by kernel_rfl
  c143 := by kernel_rfl
  c145 := by kernel_rfl
  c167 := by kernel_rfl
  c168 := by kernel_rfl
  c171 := by kernel_rfl
  c173 := by kernel_rfl
  c175 := by kernel_rfl
  c210 := by kernel_rfl
  c212 := by kernel_rfl
  c213 := by kernel_rfl
  c232 := by kernel_rfl
  c233 := by kernel_rfl }
def Tryz.lays145_ren : Go.Shelf.Ren := ⟨fun | 145 => 91 | 220 => 114 | 219 => 125 | 217 => 123 | 225 => 141 | 224 => 142 | 267 => 143 | 266 => 138 | 314 => 152 | n => n, fun | 9 => 9 | 4 => 4 | 59 => 134 | 3 => 3 | 5 => 5 | 46 => 158 | 146 => 178 | 51 => 168 | n => n, fun | 1 => 2 | n => n⟩
theorem Tryz.lays145 : Go.Proofs.Lays.n145 Tryz.prog Tryz.lays145_ren := {
  mixed := by kernel_rfl
  f145 := Tryz.func91.trans (congrArg some (by kernel_rfl))
  f217 := Tryz.func123.trans (congrArg some (by kernel_rfl))
  f219 := Tryz.func125.trans (congrArg some (by kernel_rfl))
  f220 := Tryz.func114.trans (congrArg some (by kernel_rfl))
  f224 := Tryz.func142.trans (congrArg some (by kernel_rfl))
  f225 := Tryz.func141.trans (congrArg some (by kernel_rfl))
  f266 := Tryz.func138.trans (congrArg some (by kernel_rfl))
  f267 := Tryz.func143.trans (congrArg some (by kernel_rfl))
  f314 := Tryz.func152.trans (congrArg some (by kernel_rfl))
  t3 := Tryz.underlying3
  a3 := Tryz.isAgg3
  z3 := Tryz.sizeOf3
  v3 := Tryz.zeroValue3
  t4 := Tryz.underlying4
  a4 := Tryz.isAgg4
  z4 := Tryz.sizeOf4
  v4 := Tryz.zeroValue4
  t5 := Tryz.underlying5
  a5 := Tryz.isAgg5
  z5 := Tryz.sizeOf5
  v5 := Tryz.zeroValue5
  t9 := Tryz.underlying9
  a9 := Tryz.isAgg9
  z9 := Tryz.sizeOf9
  v9 := Tryz.zeroValue9
  t46 := Tryz.underlying158
  a46 := Tryz.isAgg158
  z46 := Tryz.sizeOf158
  v46 := Tryz.zeroValue158
  t51 := Tryz.underlying168
  a51 := Tryz.isAgg168
  z51 := Tryz.sizeOf168
  v51 := Tryz.zeroValue168
  t59 := Tryz.underlying134
  a59 := Tryz.isAgg134
  z59 := Tryz.sizeOf134
  v59 := Tryz.zeroValue134
  t146 := Tryz.underlying178
  a146 := Tryz.isAgg178
  z146 := Tryz.sizeOf178
  v146 := Tryz.zeroValue178
  g1 := by kernel_rfl }
def Tryz.lays157_ren : Go.Shelf.Ren := ⟨fun | 157 => 90 | 229 => 112 | 199 => 113 | 261 => 124 | 311 => 139 | 312 => 140 | n => n, fun | 9 => 9 | 31 => 120 | 3 => 3 | 5 => 5 | 4 => 4 | 119 => 153 | 0 => 0 | 40 => 155 | 152 => 165 | 21 => 21 | 154 => 167 | 51 => 168 | 141 => 170 | 196 => 192 | 193 => 189 | 198 => 194 | 49 => 78 | 194 => 190 | 201 => 197 | 226 => 210 | 46 => 158 | 227 => 211 | n => n, fun | 0 => 0 | 6 => 1 | n => n⟩
theorem Tryz.lays157 : Go.Proofs.Lays.n157 Tryz.prog Tryz.lays157_ren := {
  mixed := by kernel_rfl
  f157 := Tryz.func90.trans (congrArg some (by kernel_rfl))
  f199 := Tryz.func113.trans (congrArg some (by kernel_rfl))
  f229 := Tryz.func112.trans (congrArg some (by kernel_rfl))
  f261 := Tryz.func124.trans (congrArg some (by kernel_rfl))
  f311 := Tryz.func139.trans (congrArg some (by kernel_rfl))
  f312 := Tryz.func140.trans (congrArg some (by kernel_rfl))
  t0 := Tryz.underlying0
  a0 := Tryz.isAgg0
  z0 := Tryz.sizeOf0
  v0 := Tryz.zeroValue0
  t3 := Tryz.underlying3
  a3 := Tryz.isAgg3
  z3 := Tryz.sizeOf3
  v3 := Tryz.zeroValue3
  t4 := Tryz.underlying4
  a4 := Tryz.isAgg4
  z4 := Tryz.sizeOf4
  v4 := Tryz.zeroValue4
  t5 := Tryz.underlying5
  a5 := Tryz.isAgg5
  z5 := Tryz.sizeOf5
  v5 := Tryz.zeroValue5
  t9 := Tryz.underlying9
  a9 := Tryz.isAgg9
  z9 := Tryz.sizeOf9
  v9 := Tryz.zeroValue9
  t21 := Tryz.underlying21
  a21 := Tryz.isAgg21
  z21 := Tryz.sizeOf21
  v21 := Tryz.zeroValue21
  t31 := Tryz.underlying120
  a31 := Tryz.isAgg120
  z31 := Tryz.sizeOf120
  v31 := Tryz.zeroValue120
  t40 := Tryz.underlying155
  a40 := Tryz.isAgg155
  z40 := Tryz.sizeOf155
  v40 := Tryz.zeroValue155
  t46 := Tryz.underlying158
  a46 := Tryz.isAgg158
  z46 := Tryz.sizeOf158
  v46 := Tryz.zeroValue158
  t49 := Tryz.underlying78
  a49 := Tryz.isAgg78
  z49 := Tryz.sizeOf78
  v49 := Tryz.zeroValue78
  t51 := Tryz.underlying168
  a51 := Tryz.isAgg168
  z51 := Tryz.sizeOf168
  v51 := Tryz.zeroValue168
  t119 := Tryz.underlying153
  a119 := Tryz.isAgg153
  z119 := Tryz.sizeOf153
  t141 := Tryz.underlying170
  a141 := Tryz.isAgg170
  z141 := Tryz.sizeOf170
  v141 := Tryz.zeroValue170
  t152 := Tryz.underlying165
  a152 := Tryz.isAgg165
  z152 := Tryz.sizeOf165
  v152 := Tryz.zeroValue165
  t154 := Tryz.underlying167
  a154 := Tryz.isAgg167
  z154 := Tryz.sizeOf167
  v154 := Tryz.zeroValue167
  t193 := Tryz.underlying189
  a193 := Tryz.isAgg189
  z193 := Tryz.sizeOf189
  v193 := Tryz.zeroValue189
  t194 := Tryz.underlying190
  a194 := Tryz.isAgg190
  z194 := Tryz.sizeOf190
  v194 := Tryz.zeroValue190
  t196 := Tryz.underlying192
  a196 := Tryz.isAgg192
  z196 := Tryz.sizeOf192
  v196 := Tryz.zeroValue192
  t198 := Tryz.underlying194
  a198 := Tryz.isAgg194
  z198 := Tryz.sizeOf194
  v198 := Tryz.zeroValue194
  t201 := Tryz.underlying197
  a201 := Tryz.isAgg197
  z201 := Tryz.sizeOf197
  v201 := Tryz.zeroValue197
  t226 := Tryz.underlying210
  a226 := Tryz.isAgg210
  z226 := Tryz.sizeOf210
  v226 := Tryz.zeroValue210
  t227 := Tryz.underlying211
  a227 := Tryz.isAgg211
  z227 := Tryz.sizeOf211
  v227 := Tryz.zeroValue211
  g0 := by kernel_rfl
  g6 := by kernel_rfl }
end Go.Proofs
namespace Go.Ab
section
variable {AP : Nat → Option AFunc} {K : Nat → Option Spec} {m d g : Nat} {cv : CallFn} {cf : Nat → Nat → List Value → Hp → Option (Value × Hp)} {rd : Option Nat} {st : St} {T : List Value} {A : Hp}
def thenPut (dst : Option Nat) (next : List Value → Hp → Option (List Value × Hp)) (T : List Value) : Option (Value × Hp) → Option (List Value × Hp)
  | some (v, A') => next (putA dst T v) A'
  | none => none
theorem thenPut_some {dst : Option Nat} {next : List Value → Hp → Option (List Value × Hp)} {v : Value} : thenPut dst next T (some (v, A)) = next (putA dst T v) A := rfl
theorem operA_plain {dst : Option Nat} {op : AOp} {next : List Value → Hp → Option (List Value × Hp)} : operA ⟨dst, none, [], op⟩ next cv g T A = thenPut dst next T (opA op cv g T A) := by
  cases h : opA op cv g T A <;> simp [operA, wantedA, h, thenPut]
theorem operA_guard {dst : Option Nat} {op : AOp} {x : Nat} {b : Bool} {next : List Value → Hp → Option (List Value × Hp)} : operA ⟨dst, some (x, b), [], op⟩ next cv g T A =
    if wantedA (some (x, b)) T = true then thenPut dst next T (opA op cv g T A) else next (putA dst T undef) A := by
  cases h : opA op cv g T A <;> simp [operA, h, thenPut]
theorem wantedA_some {x : Nat} {b : Bool} : wantedA (some (x, b)) T = match tget T x with
    | .bool b' => b' == b
    | _ => false := rfl
theorem putA_some {x : Nat} {v : Value} : putA (some x) T v = tset T x v := rfl
theorem ev_t {n : Nat} : ev T (.t n) = tget T n := rfl
end
end Go.Ab
namespace Go.Ab
def ren1 (ρ : Nat → Nat) : Value → Value
  | .pointer (some ⟨x, o, s⟩) => .pointer (some ⟨ρ x, o, s⟩)
  | .slice (some ⟨x, o, s⟩) n c => .slice (some ⟨ρ x, o, s⟩) n c
  | v => v
def ren (ρ : Nat → Nat) : Value → Value
  | .agg cs => .agg (cs.toList.map (ren1 ρ)).toArray
  | .tuple cs => .tuple (cs.toList.map (ren1 ρ)).toArray
  | v => ren1 ρ v
def okV1 (k : Nat) : Value → Bool
  | .pointer (some ⟨x, _, none⟩) => decide (x < k)
  | .slice (some ⟨x, _, some _⟩) _ _ => decide (x < k)
  | v => simple v
def okV (k : Nat) : Value → Bool
  | .agg cs => cs.toList.all (okV1 k)
  | .tuple cs => cs.toList.all (okV1 k)
  | v => okV1 k v
def hasV1 (k : Nat) : Value → Bool
  | .slice (some ⟨x, _, some _⟩) _ _ => x == k
  | _ => false
def hasV (k : Nat) : Value → Bool
  | .agg cs => cs.toList.any (hasV1 k)
  | .tuple cs => cs.toList.any (hasV1 k)
  | v => hasV1 k v
section
variable {lab : Nat → Nat} {φ φ0 : NM} {ρ : Nat → Nat} {k : Nat}
theorem relV_simple_inv {v v' : Value} (h : simple v = true) (hr : RelV lab φ v v') : v' = v := by
  cases hr <;> first | rfl | (simp [simple] at h; done) | (simp [simple, errV] at h)
theorem ren1_simple {v : Value} (h : simple v = true) : ren1 ρ v = v := by
  unfold ren1
  split
  · simp [simple] at h
  · simp [simple] at h
  · rfl
theorem relV_ren1 (hφ : ∀ x, x < k → φ0 x = φ (ρ x)) {v v' : Value} (hv : okV1 k v = true) (h : RelV lab φ (ren1 ρ v) v') : RelV lab φ0 v v' := by
  unfold okV1 at hv
  split at hv
  · rename_i x o
    have hx : x < k := by simpa using hv
    simp only [ren1] at h
    cases h with
    | ptr h => exact .ptr (by rw [hφ x hx]; exact h)
  · rename_i x o s n c
    have hx : x < k := by simpa using hv
    simp only [ren1] at h
    cases h with
    | slice h h1 h2 h3 => exact .slice (by rw [hφ x hx]; exact h) h1 h2 h3
  · rw [ren1_simple hv] at h
    rw [relV_simple_inv hv h]
    exact relV_simple hv
theorem relV_ren1' (hφ : ∀ x, x < k → φ0 x = φ (ρ x)) {v v' : Value} (hv : okV1 k v = true) (h : RelV lab φ0 v v') : RelV lab φ (ren1 ρ v) v' := by
  unfold okV1 at hv
  split at hv
  · rename_i x o
    have hx : x < k := by simpa using hv
    simp only [ren1]
    cases h with
    | ptr h => exact .ptr (by rw [← hφ x hx]; exact h)
  · rename_i x o s n c
    have hx : x < k := by simpa using hv
    simp only [ren1]
    cases h with
    | slice h h1 h2 h3 => exact .slice (by rw [← hφ x hx]; exact h) h1 h2 h3
  · rw [relV_simple_inv hv h, ren1_simple hv]
    exact relV_simple hv
theorem relL_ren1 (hφ : ∀ x, x < k → φ0 x = φ (ρ x)) {l l' : List Value} (hv : l.all (okV1 k) = true) (h : RelL lab φ (l.map (ren1 ρ)) l') : RelL lab φ0 l l' :=
  ⟨by simpa using h.1, fun i v v' a b => relV_ren1 hφ (List.all_eq_true.1 hv v (List.mem_of_getElem? a)) (h.2 i (ren1 ρ v) v' (by simp [a]) b)⟩
theorem relL_ren1' (hφ : ∀ x, x < k → φ0 x = φ (ρ x)) {l l' : List Value} (hv : l.all (okV1 k) = true) (h : RelL lab φ0 l l') : RelL lab φ (l.map (ren1 ρ)) l' :=
  ⟨by simpa using h.1, fun i v v' a b => by
    simp only [List.getElem?_map, Option.map_eq_some_iff] at a
    obtain ⟨u, hu, rfl⟩ := a
    exact relV_ren1' hφ (List.all_eq_true.1 hv u (List.mem_of_getElem? hu)) (h.2 i u v' hu b)⟩
theorem RelV.agg_inv {xs : Array Value} {v : Value} (h : RelV lab φ (.agg xs) v) : ∃ ys, v = .agg ys ∧ RelL lab φ xs.toList ys.toList := by
  cases h with
  | agg hs h => exact ⟨_, rfl, RelL.of_arrays hs h⟩
theorem RelV.tuple_inv {xs : Array Value} {v : Value} (h : RelV lab φ (.tuple xs) v) : ∃ ys, v = .tuple ys ∧ RelL lab φ xs.toList ys.toList := by
  cases h with
  | tuple hs h => exact ⟨_, rfl, RelL.of_arrays hs h⟩
theorem ren_other {v : Value} (h1 : ∀ cs, v = .agg cs → False) (h2 : ∀ cs, v = .tuple cs → False) : ren ρ v = ren1 ρ v := by
  unfold ren
  split
  · exact absurd rfl (h1 _)
  · exact absurd rfl (h2 _)
  · rfl
theorem relV_ren (hφ : ∀ x, x < k → φ0 x = φ (ρ x)) {v v' : Value} (hv : okV k v = true) (h : RelV lab φ (ren ρ v) v') : RelV lab φ0 v v' := by
  unfold okV at hv
  split at hv
  · obtain ⟨ys, rfl, hl⟩ := h.agg_inv
    exact RelL.agg (relL_ren1 hφ hv (by simpa using hl))
  · obtain ⟨ys, rfl, hl⟩ := h.tuple_inv
    exact RelL.tuple (relL_ren1 hφ hv (by simpa using hl))
  · rename_i h1 h2
    rw [ren_other h1 h2] at h
    exact relV_ren1 hφ hv h
theorem relV_ren' (hφ : ∀ x, x < k → φ0 x = φ (ρ x)) {v v' : Value} (hv : okV k v = true) (h : RelV lab φ0 v v') : RelV lab φ (ren ρ v) v' := by
  unfold okV at hv
  split at hv
  · obtain ⟨ys, rfl, hl⟩ := h.agg_inv
    exact RelL.agg (by simpa using relL_ren1' hφ hv hl)
  · obtain ⟨ys, rfl, hl⟩ := h.tuple_inv
    exact RelL.tuple (by simpa using relL_ren1' hφ hv hl)
  · rename_i h1 h2
    rw [ren_other h1 h2]
    exact relV_ren1' hφ hv h
theorem relL_ren (hφ : ∀ x, x < k → φ0 x = φ (ρ x)) {l l' : List Value} (hv : l.all (okV k) = true) (h : RelL lab φ (l.map (ren ρ)) l') : RelL lab φ0 l l' :=
  ⟨by simpa using h.1, fun i v v' a b => relV_ren hφ (List.all_eq_true.1 hv v (List.mem_of_getElem? a)) (h.2 i (ren ρ v) v' (by simp [a]) b)⟩
theorem hasV1_some {v v' : Value} (hv : hasV1 k v = true) (h : RelV lab φ (ren1 ρ v) v') : ∃ e, φ (ρ k) = some e := by
  unfold hasV1 at hv
  split at hv
  · rename_i x o s n c
    have hx : x = k := by simpa using hv
    subst hx
    simp only [ren1] at h
    cases h with
    | slice h => exact ⟨_, h⟩
  · cases hv
theorem hasL_some {l l' : List Value} (hv : l.any (hasV1 k) = true) (h : RelL lab φ (l.map (ren1 ρ)) l') : ∃ e, φ (ρ k) = some e := by
  obtain ⟨v, hm, hv⟩ := List.any_eq_true.1 hv
  obtain ⟨i, hi⟩ := List.mem_iff_getElem?.1 hm
  obtain ⟨v', hv', hr⟩ := h.get (i := i) (v := ren1 ρ v) (by simp [hi])
  exact hasV1_some hv hr
theorem hasV_some {v v' : Value} (hv : hasV k v = true) (h : RelV lab φ (ren ρ v) v') : ∃ e, φ (ρ k) = some e := by
  unfold hasV at hv
  split at hv
  · obtain ⟨ys, rfl, hl⟩ := h.agg_inv
    exact hasL_some hv (by simpa using hl)
  · obtain ⟨ys, rfl, hl⟩ := h.tuple_inv
    exact hasL_some hv (by simpa using hl)
  · rename_i h1 h2
    rw [ren_other h1 h2] at h
    exact hasV1_some hv h
end
def Still (w w' : World) : Prop := w.heap.size ≤ w'.heap.size ∧ (∀ b, b < w.heap.size → w'.heap[b]? = w.heap[b]?) ∧ w'.os = w.os ∧ w'.output = w.output ∧ w'.tape = w.tape
section
variable {E : Env} {lim g : Nat} {φ φ' : NM} {A : Hp} {w w' : World}
theorem relB_simple {cs : List Value} {ro : Bool} {e : Ent} (hs : cs.all simple = true) (h : RelB E φ w (.cells cs ro) e) : RelB E φ' w (.cells cs ro) e := by
  obtain ⟨c, el, fr, h1, h2, h4, h5, h6⟩ := h
  refine ⟨c, el, fr, h1, h2, h4, h5, fun i v hv => ?_⟩
  obtain ⟨v', hv', hr⟩ := h6 i v hv
  have := List.all_eq_true.1 hs v (List.mem_of_getElem? hv)
  exact ⟨v', hv', by rw [relV_simple_inv this hr]; exact relV_simple this⟩
theorem relB_ro {cs : List Value} {ro : Bool} {e : Ent} (h : RelB E φ w (.cells cs ro) e) : RelB E φ w (.cells cs true) e := by
  obtain ⟨c, el, fr, h1, h2, h4, h5, h6⟩ := h
  exact ⟨c, el, fr, h1, h2, h4, fun h => (by cases h), h6⟩
theorem Rel.still (hR : Rel E lim φ A w) (hs : Still w w') : Rel E lim φ A w' :=
  ⟨hR.dom, fun x e h => Nat.lt_of_lt_of_le (hR.wf x e h) hs.1, fun x b e hb he => (hR.blk x b e hb he).mono (Ext.refl _) (hs.2.1 _ (hR.wf x e he)), hR.sep, hR.fix.ro_mono (fun b hb => hs.2.1 b (Nat.lt_of_lt_of_le hb hR.fix.le)) fun _ h => h⟩
theorem post_still (hR : Rel E lim φ A w) (hs : Still w w') : Post E lim φ A w g φ A w' :=
  ⟨Ext.refl _, fun _ _ h => .inl h, Nat.le_refl _, hR.still hs, hs.1, fun b hb _ => hs.2.1 b hb, fun x e h h' => (by rw [h] at h'; cases h'), fun _ h => h, hs.2.2⟩
theorem post_adopt (hR : Rel E lim φ A w) (hs : Still w w') (hlim : A.n < lim) {b : ABlk} {e : Ent} (h1 : w.heap.size ≤ e.blk) (h2 : e.blk < w'.heap.size) (hb : RelB E (ins φ A.n e) w' b e) :
    Post E lim φ A w g (ins φ A.n e) (A.push b) w' := by
  have hf := hR.fresh hlim
  have hext := ext_ins (e := e) hf
  refine ⟨hext, ?_, by simp, ?_, hs.1, fun b hb _ => hs.2.1 b hb, ?_, ?_, hs.2.2⟩
  · intro x ex h
    by_cases hx : x = A.n
    · exact .inr (by simp; omega)
    · rw [ins_other hx] at h; exact .inl h
  · have hle := hR.fix.le
    refine ⟨?_, ?_, ?_, ?_, hR.fix.of (fun b hb => hs.2.1 b (by omega)) (fun x e _ ⟨b1, k1, k2⟩ => ⟨b1, by rw [Hp.get_push, if_neg (by have := Hp.lt_of_get k1; omega)]; exact k1, k2⟩) fun x ex hx => ?_⟩
    · intro x ex h
      by_cases hx : x = A.n
      · simp [hx]
      · rw [ins_other hx] at h; have := hR.dom x ex h; simp; omega
    · intro x ex h
      by_cases hx : x = A.n
      · subst hx; rw [ins_same] at h; cases h; exact h2
      · rw [ins_other hx] at h; have := hR.wf x ex h; have := hs.1; omega
    · intro x b' ex hb' h
      rw [Hp.get_push] at hb'
      by_cases hx : x = A.n
      · subst hx; rw [ins_same] at h; cases h; rw [if_pos rfl] at hb'; cases hb'; exact hb
      · rw [ins_other hx] at h; rw [if_neg hx] at hb'
        exact (hR.blk x b' ex hb' h).mono hext (hs.2.1 _ (hR.wf x ex h))
    · intro x y b1 b2 ex ey hxy k1 k2 hx hy hrw
      rw [Hp.get_push] at k1 k2
      by_cases hxn : x = A.n
      · subst hxn
        rw [ins_same] at hx; cases hx
        rw [ins_other (Ne.symm hxy)] at hy
        have := hR.wf y ey hy
        omega
      · rw [ins_other hxn] at hx; rw [if_neg hxn] at k1
        by_cases hyn : y = A.n
        · subst hyn
          rw [ins_same] at hy; cases hy
          have := hR.wf x ex hx
          omega
        · rw [ins_other hyn] at hy; rw [if_neg hyn] at k2
          exact hR.sep x y b1 b2 ex ey hxy k1 k2 hx hy hrw
    · by_cases hxn : x = A.n
      · subst hxn; rw [ins_same] at hx; cases hx; exact .inr (by omega)
      · rw [ins_other hxn] at hx; exact .inl hx
  · intro x ex h hn
    by_cases hx : x = A.n
    · subst hx; rw [ins_same] at h; cases h; exact .inl h1
    · rw [ins_other hx] at h; rw [h] at hn; cases hn
  · rintro x ⟨cs, hcs, hc1⟩
    have := Hp.lt_of_get hcs
    exact ⟨cs, by rw [Hp.get_push, if_neg (by omega)]; exact hcs, hc1⟩
end
def roHp (rows : List (List Value)) : Hp := ⟨rows.length, (rows.map fun r => some (.cells r true)).reverse⟩
theorem roHp_get (rows : List (List Value)) (x : Nat) : (roHp rows).get x = (rows[x]?).map fun r => .cells r true := by
  unfold Hp.get roHp
  by_cases h : x < rows.length
  · simp only [h, if_true]
    rw [List.getElem?_reverse (by simp; omega)]
    simp [show rows.length - 1 - (rows.length - 1 - x) = x by omega, List.getElem?_eq_getElem h]
  · simp [h]
def Pact (E : Env) (f : Nat) (rows : List (List Value)) (args : List Value) (v : Value) (out : Option (List Value)) : Prop :=
  args.all (okV rows.length) = true ∧ (match out with | none => okV rows.length v = true | some c => okV (rows.length + 1) v = true ∧ c.all simple = true) ∧
  ∀ (φ : NM) (w : World) (f' : FuncId) (args' : List Value), E.lab f' = f → (∀ x, rows.length ≤ x → φ x = none) →
    (∀ i r, rows[i]? = some r → ∃ e, φ i = some e ∧ e.blk < w.heap.size ∧ RelB E φ w (.cells r true) e) → RelL E.lab φ args args' → (∀ b, b < E.W0.size → w.heap[b]? = E.W0[b]?) →
    CallsIn (fence none) 0 E.P f' args'.toArray w fun en w' => ∃ v' φ', en = .returned v' ∧ RelV E.lab φ' v v' ∧ Still w w' ∧ (∀ x, x < rows.length → φ' x = φ x) ∧
      (∀ c, out = some c → ∃ e, φ' rows.length = some e ∧ w.heap.size ≤ e.blk ∧ e.blk < w'.heap.size ∧ RelB E φ' w' (.cells c false) e)
def outOk (k : Nat) (v : Value) (A' : Hp) (x0 : Nat) : Option (List Value) → Prop
  | none => okV k v = true
  | some c => okV (k + 1) v = true ∧ c.all simple = true ∧ hasV k v = true ∧ A'.get x0 = some (.cells c false) ∧ k ≤ x0
section
variable {E : Env} {K : Nat → Option Spec}
theorem pact_of_run (hK : SpecsOk E K) {m d f x0 : Nat} {rows : List (List Value)} {args : List Value} {v v0 : Value} {out : Option (List Value)} {A' : Hp} (hfn : ∃ nt rs body, E.AP f = some (.fn nt rs body))
    (hargs : args.all (okV rows.length) = true)
    (h : callA E.AP K m d rows.length f args (roHp rows) = some (v0, A')) (hv : v0 = ren (fun x => if x < rows.length then x else x0) v) (hout : outOk rows.length v A' x0 out) : Pact E f rows args v out := by
  have hs := callA_sound hK h hfn
  have hkeep := callF_keeps hK.keeps (exec_keeps hK.keeps m d) _ _ _ _ _ _ h
  refine ⟨hargs, ?_, ?_⟩
  · cases out with
    | none => exact hout
    | some c => exact ⟨hout.1, hout.2.1⟩
  · intro φ w f' args' hlab hdom hrows hrel hW
    have hall : ∀ x, x < rows.length → ∃ e, φ x = some e ∧ e.blk < w.heap.size ∧ RelB E φ w (.cells rows[x]! true) e := fun x hx => by
      have := hrows x rows[x] (List.getElem?_eq_getElem hx)
      simpa [hx] using this
    have hR : Rel E A'.n φ (roHp rows) w := by
      refine ⟨fun x e hx => ?_, fun x e hx => ?_, fun x b e hb hx => ?_, fun x y b c ex ey _ hb _ _ _ hrw => ?_, hW, fun x e hx _ => ?_⟩
      · rcases Nat.lt_or_ge x rows.length with h | h
        · exact .inl h
        · rw [hdom x h] at hx; cases hx
      · rcases Nat.lt_or_ge x rows.length with h | h
        · obtain ⟨e', he', hlt, _⟩ := hall x h
          rw [hx] at he'; cases he'; exact hlt
        · rw [hdom x h] at hx; cases hx
      · rw [roHp_get, Option.map_eq_some_iff] at hb
        obtain ⟨r, hr, rfl⟩ := hb
        obtain ⟨e', he', _, hB⟩ := hrows x r hr
        rw [hx] at he'; cases he'; exact hB
      · rw [roHp_get, Option.map_eq_some_iff] at hb
        obtain ⟨r, hr, rfl⟩ := hb
        cases hrw
      · rcases Nat.lt_or_ge x rows.length with h' | h'
        · exact ⟨.cells rows[x] true, by rw [roHp_get, List.getElem?_eq_getElem h']; rfl, rfl⟩
        · rw [hdom x h'] at hx; cases hx
    refine CallsIn.mono (hs A'.n φ w f' args' (Nat.le_refl _) hlab hrel hR) ?_
    rintro en w' ⟨v', φA, rfl, hvr, hP⟩
    have hold : ∀ x, x < rows.length → φA x = φ x := fun x hx => by
      obtain ⟨e, he, _⟩ := hall x hx
      rw [he]; exact hP.ext x e he
    have hstill : Still w w' := by
      refine ⟨hP.size, fun b hb => hP.frame b hb fun x e hx _ => ?_, hP.env⟩
      rcases Nat.lt_or_ge x rows.length with h | h
      · exact .inl h
      · rw [hdom x h] at hx; cases hx
    subst hv
    cases out with
    | none =>
      refine ⟨v', φ, rfl, relV_ren (φ := φA) (ρ := fun x => if x < rows.length then x else x0) (k := rows.length) (fun x hx => ?_) hout hvr, hstill, fun _ _ => rfl, fun c hc => by cases hc⟩
      simp only [hx, if_true]; exact (hold x hx).symm
    | some c =>
      obtain ⟨ho1, ho2, ho3, ho4, ho5⟩ := hout
      obtain ⟨e, he⟩ := hasV_some ho3 hvr
      simp only [Nat.lt_irrefl, if_false] at he
      refine ⟨v', fun x => if x < rows.length then φ x else if x = rows.length then φA x0 else none, rfl, relV_ren (φ := φA) (ρ := fun x => if x < rows.length then x else x0) (k := rows.length + 1) (fun x hx => ?_) ho1 hvr, hstill,
        fun x hx => by simp [hx], fun c' hc => ?_⟩
      · rcases Nat.lt_or_ge x rows.length with h | h
        · simp only [h, if_true]; exact (hold x h).symm
        · have : x = rows.length := by omega
          subst this
          simp
      · cases hc
        have hn0 : φ x0 = none := hdom x0 ho5
        refine ⟨e, by simp [he], ?_, hP.rel.wf x0 e he, relB_simple ho2 (hP.rel.blk x0 _ e ho4 he)⟩
        rcases hP.fresh x0 e he hn0 with h | ⟨y, ey, hy, hlo, _, _, _⟩
        · exact h
        · rw [hdom y hlo] at hy; cases hy
def outHp (A : Hp) : Option (List Value) → Hp
  | none => A
  | some c => A.push (.cells c false)
theorem good_of_pact {f : Nat} {rows : List (List Value)} {args : List Value} {v : Value} {out : Option (List Value)} (hp : Pact E f rows args v out) {A : Hp} {ρ : Nat → Nat} {args1 : List Value} {v1 : Value}
    (hrows : ∀ i r, rows[i]? = some r → ∃ ro, A.get (ρ i) = some (.cells r ro)) (hsimple : ∀ r ∈ rows, r.all simple = true)
    (hargs : args1 = args.map (ren ρ)) (hv : v1 = ren (fun x => if x < rows.length then ρ x else A.n) v) (hmem : ∀ i, i < rows.length → ∀ lim φ w args', RelL E.lab φ args1 args' → Rel E lim φ A w → ∃ e, φ (ρ i) = some e) (g : Nat) :
    FnSound E g f args1 A v1 (outHp A out) ∧ HK g A (outHp A out) := by
  obtain ⟨ha, ho, hp⟩ := hp
  refine ⟨?_, ?_⟩
  · intro lim φ w f' args' hlim hlab hrel hR
    have hrel0 := hrel
    rw [hargs] at hrel
    have hφ0 : ∀ x, x < rows.length → (fun x => if x < rows.length then φ (ρ x) else none) x = φ (ρ x) := fun x hx => by simp [hx]
    refine CallsIn.mono (hp (fun x => if x < rows.length then φ (ρ x) else none) w f' args' hlab (fun x hx => by simp [Nat.not_lt.2 hx]) (fun i r hr => ?_) (relL_ren hφ0 ha hrel) hR.fix.same) ?_
    · have hi : i < rows.length := (List.getElem?_eq_some_iff.1 hr).1
      obtain ⟨ro, hro⟩ := hrows i r hr
      obtain ⟨e, he⟩ := hmem i hi lim φ w args' hrel0 hR
      exact ⟨e, by simp [hi, he], hR.wf _ e he, relB_simple (hsimple r (List.mem_of_getElem? hr)) (relB_ro (hR.blk _ _ e hro he))⟩
    · rintro en w' ⟨v', φ', rfl, hvr, hs, hold, hnew⟩
      subst hv
      cases out with
      | none =>
        refine ⟨v', φ, rfl, relV_ren' (φ0 := φ') (k := rows.length) (fun x hx => ?_) ho hvr, post_still hR hs⟩
        rw [hold x hx]; simp [hx]
      | some c =>
        obtain ⟨e, he, hb1, hb2, hb3⟩ := hnew c rfl
        have hlt : A.n < lim := hlim
        refine ⟨v', ins φ A.n e, rfl, relV_ren' (φ0 := φ') (k := rows.length + 1) (fun x hx => ?_) ho.1 hvr, post_adopt hR hs hlt hb1 hb2 (relB_simple ho.2 hb3)⟩
        rcases Nat.lt_or_ge x rows.length with h | h
        · obtain ⟨r, hr⟩ : ∃ r, rows[x]? = some r := ⟨rows[x], List.getElem?_eq_getElem h⟩
          obtain ⟨ro, hro⟩ := hrows x r hr
          have hne : ρ x ≠ A.n := by have := Hp.lt_of_get hro; omega
          rw [hold x h]
          simp only [h, if_true]
          rw [ins_other hne]
        · have : x = rows.length := by omega
          subst this
          rw [he]
          simp [ins_same]
  · cases out with
    | none => exact HK.refl _ _
    | some c => exact HK.push _ _ _
end
end Go.Ab
namespace Go.Ab
open Go.Shelf Go.Proofs Go.RowKit Go.Sort
abbrev strV (l : List UInt8) : Value := .string ⟨⟨l⟩⟩
def decA : Nat → Nat → List UInt8 → List UInt8
  | 0, _, acc => acc
  | f + 1, u, acc => if u < 10 then UInt8.ofNat (48 + u) :: acc else decA f (u / 10) (UInt8.ofNat (48 + u % 10) :: acc)
theorem decA_eq : ∀ (f u : Nat) (acc : List UInt8), u < 10 ^ f → 0 < f → decA f u acc = Lib.decDigits u ++ acc := by
  intro f
  induction f with
  | zero => intro u acc _ h; omega
  | succ f ih =>
    intro u acc hu _
    unfold decA
    rw [Lib.decDigits]
    by_cases h : u < 10
    · simp [h]
    · rw [if_neg h, dif_neg h]
      have hf : 0 < f := by
        rcases Nat.eq_zero_or_pos f with h0 | h0
        · subst h0; simp at hu; omega
        · exact h0
      rw [ih _ _ (by rw [Nat.pow_succ] at hu; omega) hf]
      simp
def itoaA (n : Int) : List UInt8 :=
  match n with
  | .ofNat m => decA 20 m []
  | .negSucc m => 45 :: decA 20 (m + 1) []
theorem itoaA_eq {n : Int} (h0 : -9223372036854775808 ≤ n) (h1 : n ≤ 9223372036854775807) : itoaA n = Lib.itoa n := by
  unfold itoaA Lib.itoa
  cases n with
  | ofNat m =>
    have h1' : (m : Int) ≤ 9223372036854775807 := h1
    show decA 20 m [] = if (m : Int) < 0 then _ else Lib.decDigits m
    rw [if_neg (by omega), decA_eq _ _ _ (Nat.lt_of_le_of_lt (by omega : m ≤ 9223372036854775807) (by decide)) (by omega), List.append_nil]
  | negSucc m =>
    have e : Int.negSucc m < 0 := Int.negSucc_lt_zero m
    have h0' : -((m : Int) + 1) ≥ -9223372036854775808 := by
      have := h0; rw [Int.negSucc_eq] at this; exact this
    rw [if_pos e]
    show 45 :: decA 20 (m + 1) [] = 45 :: Lib.decDigits (m + 1)
    rw [decA_eq _ _ _ (Nat.lt_of_le_of_lt (by omega : m + 1 ≤ 9223372036854775808) (by decide)) (by omega), List.append_nil]
def idxA : List UInt8 → UInt8 → Nat → Int
  | [], _, _ => -1
  | b :: l, c, k => if b == c then (k : Int) else idxA l c (k + 1)
theorem idxA_eq (c : UInt8) : ∀ (l : List UInt8) (k : Nat), idxA l c k = if Lib.indexByte l c = -1 then -1 else Lib.indexByte l c + k := by
  intro l
  induction l with
  | nil => intro k; simp [idxA, Lib.indexByte]
  | cons b l ih =>
    intro k
    unfold idxA Lib.indexByte
    by_cases h : b == c
    · simp [h]
    · simp only [h, Bool.false_eq_true, if_false, ih]
      have := Lib.indexByte_ge l c
      by_cases h1 : Lib.indexByte l c = -1
      · simp [h1]
      · have h2 : (Lib.indexByte l c == -1) = false := by simp [h1]
        simp only [h1, h2, if_false, Bool.false_eq_true]
        rw [if_neg (by omega)]
        push_cast
        omega
def idxB (l : List UInt8) (c : UInt8) : Int := idxA l c 0
theorem idxB_eq (l : List UInt8) (c : UInt8) : idxB l c = Lib.indexByte l c := by
  unfold idxB
  rw [idxA_eq]
  split
  · rename_i h; exact h.symm
  · simp
def strsOf : List Value → Option (List (List UInt8))
  | [] => some []
  | .string s :: l => (strsOf l).map fun r => s.data.toList :: r
  | _ => none
theorem strsOf_some : ∀ {vs : List Value} {r : List (List UInt8)}, strsOf vs = some r → vs = r.map strV
  | [], r, h => by cases h; rfl
  | v :: vs, r, h => by
    unfold strsOf at h
    split at h
    · rename_i heq; cases heq
    · rename_i s l heq
      cases heq
      simp only [Option.map_eq_some_iff] at h
      obtain ⟨r', hr, rfl⟩ := h
      rw [strsOf_some hr]
      rfl
    · cases h
def selfB (x : Nat) : Value → Bool
  | .pointer none => true
  | .pointer (some ⟨y, 0, none⟩) => y == x
  | _ => false
def S336 : Spec := fun g args A => match args with
  | [.pointer (some ⟨x, 0, none⟩), .string u] => match A.get x with
    | some (.bld p v) => if g ≤ x ∧ selfB x p = true then
        match appendTA g (A.set x (some (.bld (.pointer (some ⟨x, 0, none⟩)) v))) v (.string u) with
        | some (v', A') => some (.tuple ⟨[.int .i64 u.size, .nilIface]⟩, A'.set x (some (.bld (.pointer (some ⟨x, 0, none⟩)) v')))
        | none => none
      else none
    | _ => none
  | _ => none
def S340 : Spec := fun g args A => match args with
  | [.pointer (some ⟨x, 0, none⟩)] => match A.get x with
    | some (.bld _ (.slice none 0 0)) => some (strV [], A)
    | some (.bld _ (.slice (some ⟨y, 0, some 1⟩) m _)) => match A.get y with
      | some (.bytes l) => if g ≤ y ∧ l.length = m ∧ 0 < m ∧ m ≤ room then some (strV l, A.set y none) else none
      | _ => none
    | _ => none
  | _ => none
def S338 : Spec := fun _ args A => match args with
  | [.int .i64 n] => if -9223372036854775808 ≤ n ∧ n ≤ 9223372036854775807 then some (strV (itoaA n), A) else none
  | _ => none
def atoiV (l : List UInt8) : Value :=
  match Lib.atoiAll l with
  | .ok v => .tuple ⟨[.int .i64 v, .nilIface]⟩
  | .range => .tuple ⟨[.int .i64 (Lib.atoiSat l), errV]⟩
  | _ => .tuple ⟨[.int .i64 0, errV]⟩
def S345 : Spec := fun _ args A => match args with
  | [.string s] => if s.size ≤ room then some (atoiV s.data.toList, A) else none
  | _ => none
def S354 : Spec := fun _ args A => match args with
  | [.string s, .int .u8 c] => some (.int .i64 (idxB s.data.toList c.toNat.toUInt8), A)
  | _ => none
def S344 : Spec := fun _ args A => match args with
  | [.string s, .string p] => if s.size < 4294967281 then
      let r := Lib.cut s.data.toList p.data.toList
      some (.tuple ⟨[strV r.1, strV r.2.1, .bool r.2.2]⟩, A) else none
  | _ => none
def S343 : Spec := fun _ args A => match args with
  | [.string s] => if s.size < 4294967281 then
      let r := Lib.fieldsD s.data.toList
      some (.slice (some ⟨A.n, 0, some 1⟩) r.length r.length, A.push (.cells (r.map strV) false)) else none
  | _ => none
def S337 : Spec := fun _ args A => match args with
  | [.slice b n c, .string p] => match cellsAt A n (.slice b n c) with
    | some vs => match strsOf vs with
      | some r => if n ≤ room ∧ (Lib.join r p.data.toList).length ≤ room then some (strV (Lib.join r p.data.toList), A) else none
      | none => none
    | none => none
  | _ => none
section
variable {E : Env} {ρ : Ren} {lim g : Nat} {φ : NM} {A A' : Hp} {w w' : World} {v : Value} {args : List Value}
theorem fnSound_of {f : Nat} (h : ∀ (lim : Nat) (φ : NM) (w : World) (f' : FuncId) (args' : List Value), A'.n ≤ lim → E.lab f' = f → RelL E.lab φ args args' → Rel E lim φ A w →
    Calls E.P f' args'.toArray w fun e w' => ∃ v' φ', e = .returned v' ∧ RelV E.lab φ' v v' ∧ Post E lim φ A w g φ' A' w') : FnSound E g f args A v A' :=
  fun lim φ w f' args' h1 h2 h3 h4 => callsIn_wide.2 (h lim φ w f' args' h1 h2 h3 h4)
theorem still_below (h : Below w.heap.size w w') : Still w w' := ⟨h.size, h.block, h.os, h.output, h.tape⟩
theorem args1 {x : Value} {args' : List Value} (h : RelL E.lab φ [x] args') : ∃ y, args' = [y] ∧ RelV E.lab φ x y := by
  obtain ⟨y, ys, rfl, h1, h2⟩ := h.inv_cons
  obtain rfl := h2.inv_nil
  exact ⟨y, rfl, h1⟩
theorem args2 {x1 x2 : Value} {args' : List Value} (h : RelL E.lab φ [x1, x2] args') : ∃ y1 y2, args' = [y1, y2] ∧ RelV E.lab φ x1 y1 ∧ RelV E.lab φ x2 y2 := by
  obtain ⟨y, ys, rfl, h1, h2⟩ := h.inv_cons
  obtain ⟨y2, rfl, h3⟩ := args1 h2
  exact ⟨y, y2, rfl, h1, h3⟩
theorem tabIs_of {P : Program} {name : String} {k : IntKind} {zs : List Int} {gi : Nat} {t : TypeId} {fr : Nat × Nat} (hg : P.globalNamed name = some gi) (h : w.heap[gi]? = some (.cells (zs.map fun z => Value.int k z).toArray t fr)) : Lib.TabIs P w name k zs := by
  unfold Lib.TabIs World.var?
  rw [hg]
  simp [h]
theorem Fix.at {b : Nat} {o : Obj} (h : Fix E φ A w) (hb : E.W0[b]? = some o) : w.heap[b]? = some o := by
  rw [h.same b (Array.getElem?_eq_some_iff.1 hb).1]; exact hb
theorem drewN_below (w : World) (k : Nat) : Below w.heap.size w (w.drewN k) := ⟨rfl, rfl, rfl, Nat.le_refl _, fun _ _ => rfl⟩
theorem S338_ok {T : World → Prop} {f0 : Nat} (C : ∀ (n : Int) (w : World), -9223372036854775808 ≤ n → n ≤ 9223372036854775807 → T w → Calls E.P f0 #[.int .i64 n] w fun e w' => e = .returned (.string ⟨(Lib.itoa n).toArray⟩) ∧ ∃ k os, w' = grow (w.drewN k) os)
    (hu : ∀ f, E.lab f = 338 → f = f0) (htab : ∀ w : World, (∀ b, b < E.W0.size → w.heap[b]? = E.W0[b]?) → T w) (h : S338 g args A = some (v, A')) : FnSound E g 338 args A v A' ∧ HK g A A' := by
  unfold S338 at h
  split at h
  · rename_i n
    split at h
    · rename_i hn
      cases h
      refine ⟨fnSound_of fun lim φ w f' args' hlim hlab hrel hR => ?_, HK.refl _ _⟩
      obtain ⟨y, rfl, hy⟩ := args1 hrel
      have e1 := int_inv hy
      subst e1
      obtain rfl := hu f' hlab
      refine (C n w hn.1 hn.2 (htab w hR.fix.same)).mono ?_
      rintro e w' ⟨rfl, k, os, rfl⟩
      exact ⟨_, φ, rfl, by rw [itoaA_eq hn.1 hn.2]; exact .string _, post_still hR (still_below (Lib.below_grow _ _ (Nat.le_refl _) _ _))⟩
    · cases h
  · cases h
theorem S354_ok (L : Lays.n137 E.P ρ) (hu : ∀ f, E.lab f = 354 → f = ρ.f 137) (h : S354 g args A = some (v, A')) : FnSound E g 354 args A v A' ∧ HK g A A' := by
  unfold S354 at h
  split at h
  · rename_i s c
    cases h
    refine ⟨fnSound_of fun lim φ w f' args' hlim hlab hrel hR => ?_, HK.refl _ _⟩
    obtain ⟨y, y2, rfl, hy, hy2⟩ := args2 hrel
    have e1 := string_inv hy
    subst e1
    have e2 := int_inv hy2
    subst e2
    obtain rfl := hu f' hlab
    refine (Any.strings_IndexByte L s c w).mono ?_
    rintro e w' ⟨rfl, rfl⟩
    exact ⟨_, φ, rfl, by rw [idxB_eq]; exact .int _ _, Post.refl hR⟩
  · cases h
theorem S345_ok (L : LaysC.n172 E.P ρ) (hu : ∀ f, E.lab f = 345 → f = ρ.f 172) (hv : ∀ w : World, (∀ b, b < E.W0.size → w.heap[b]? = E.W0[b]?) → ∃ ev, w.cell? ⟨ρ.g 15, 0, none⟩ = some ev ∧ (ev = .nilIface ∨ ∃ te pe, ev = .iface te pe))
    (hv' : ∀ w : World, (∀ b, b < E.W0.size → w.heap[b]? = E.W0[b]?) → ∃ ev, w.cell? ⟨ρ.g 16, 0, none⟩ = some ev ∧ (ev = .nilIface ∨ ∃ te pe, ev = .iface te pe)) (h : S345 g args A = some (v, A')) : FnSound E g 345 args A v A' ∧ HK g A A' := by
  unfold S345 at h
  split at h
  · rename_i s
    split at h
    · rename_i hn
      unfold room at hn
      cases h
      refine ⟨fnSound_of fun lim φ w f' args' hlim hlab hrel hR => ?_, HK.refl _ _⟩
      obtain ⟨y, rfl, hy⟩ := args1 hrel
      have e1 := string_inv hy
      subst e1
      obtain rfl := hu f' hlab
      have two : ∀ {a b a' b' : Value}, RelV E.lab φ a a' → RelV E.lab φ b b' → RelV E.lab φ (.tuple ⟨[a, b]⟩) (.tuple #[a', b']) := fun h1 h2 => RelL.tuple (.cons h1 (.cons h2 .nil))
      unfold atoiV
      cases ha : Lib.atoiAll s.data.toList with
      | ok n =>
        refine (Any.strconv_Atoi_ok L s (by omega) n ha w).mono ?_
        rintro e w' ⟨rfl, h1⟩
        refine ⟨_, φ, rfl, two (.int _ _) .nilIface, ?_⟩
        rcases h1 with rfl | ⟨t, rfl⟩
        · exact Post.refl hR
        · exact post_still hR (still_below (Lib.bytesWorld_below _ _ _))
      | range =>
        obtain ⟨ev, h1, h2⟩ := hv' w hR.fix.same
        refine (Any.strconv_Atoi_range L s (by omega) ha ev w h1 h2).mono ?_
        rintro e w' ⟨N, rfl, _, _, hb⟩
        exact ⟨_, φ, rfl, two (.int _ _) (.iface _ _), post_still hR (still_below hb)⟩
      | _ =>
        obtain ⟨ev, h1, h2⟩ := hv w hR.fix.same
        refine (Any.strconv_Atoi_syntax L s (by omega) ha ev w h1 h2).mono ?_
        rintro e w' ⟨N, rfl, _, _, hb⟩
        exact ⟨_, φ, rfl, two (.int _ _) (.iface _ _), post_still hR (still_below hb)⟩
    · cases h
  · cases h
theorem S344_ok (L : Lays.n145 E.P ρ) (hu : ∀ f, E.lab f = 344 → f = ρ.f 145) (hm : ∀ w : World, (∀ b, b < E.W0.size → w.heap[b]? = E.W0[b]?) → ∃ m, w.cell? ⟨ρ.g 1, 0, none⟩ = some (.int .i64 m)) (h : S344 g args A = some (v, A')) :
    FnSound E g 344 args A v A' ∧ HK g A A' := by
  unfold S344 at h
  split at h
  · rename_i s p
    split at h
    · rename_i hn
      cases h
      refine ⟨fnSound_of fun lim φ w f' args' hlim hlab hrel hR => ?_, HK.refl _ _⟩
      obtain ⟨y, y2, rfl, hy, hy2⟩ := args2 hrel
      have e1 := string_inv hy
      subst e1
      have e2 := string_inv hy2
      subst e2
      obtain rfl := hu f' hlab
      obtain ⟨m, hm⟩ := hm w hR.fix.same
      refine (Any.strings_Cut L s p m w hn hm).mono ?_
      rintro e w' ⟨rfl, k, rfl⟩
      exact ⟨_, φ, rfl, RelL.tuple (.cons (.string _) (.cons (.string _) (.cons (.bool _) .nil))), post_still hR (still_below (drewN_below w k))⟩
    · cases h
  · cases h
theorem bytes_back (s : ByteArray) : (⟨⟨s.data.toList⟩⟩ : ByteArray) = s := by
  cases s with
  | mk d => cases d with
    | mk l => rfl
theorem S337_ok (L : Lays.n156 E.P ρ) (X : Builder.Extra E.P ρ) (hu : ∀ f, E.lab f = 337 → f = ρ.f 156) (h : S337 g args A = some (v, A')) : FnSound E g 337 args A v A' ∧ HK g A A' := by
  unfold S337 at h
  split at h
  · rename_i b n c p
    split at h
    · rename_i vs hvs
      split at h
      · rename_i r hr
        split at h
        · rename_i hn
          unfold room at hn
          cases h
          refine ⟨fnSound_of fun lim φ w f' args' hlim hlab hrel hR => ?_, HK.refl _ _⟩
          obtain ⟨y, y2, rfl, hy, hy2⟩ := args2 hrel
          have e2 := string_inv hy2
          subst e2
          obtain rfl := hu f' hlab
          obtain ⟨ws, hwl, hwr, hwx⟩ := cellsAt_rel hR hy hvs (fun n' hn' => by
            obtain ⟨b', c', hb⟩ := hn'
            cases hb
            rcases Nat.eq_zero_or_pos n with h | h
            · exact .inl (by omega)
            · exact .inr h)
          obtain ⟨b1, c1, rfl⟩ := relV_len hy rfl
          have hvr := strsOf_some hr
          have hrl : r.length = n := by rw [← hwl, ← hwr.1, hvr, List.length_map]
          by_cases hn0 : n = 0
          · subst hn0
            have : r = [] := List.eq_nil_of_length_eq_zero hrl
            subst this
            refine (Any.strings_Join_none L X b1 c1 p w).mono ?_
            rintro e w' ⟨rfl, rfl⟩
            exact ⟨_, φ, rfl, .string _, Post.refl hR⟩
          · rcases hwx with ⟨hx, h0⟩ | ⟨ad, n', c', hx, hc⟩
            · omega
            · cases hx
              have hcap : n ≤ c1 := by
                cases hy with
                | slice _ hn _ _ => exact hn
              obtain ⟨bk, o, sp⟩ := ad
              have hsp : sp = none := by
                cases hy with
                | slice _ _ _ hq =>
                  rcases hq with hq | ⟨hq, _⟩
                  · omega
                  · cases hq; rfl
              subst hsp
              have hcell : ∀ (j : Nat) x, (r.map fun l => (⟨⟨l⟩⟩ : ByteArray))[j]? = some x → w.cell? ⟨bk, o + j, none⟩ = some (.string x) := by
                intro j x hj
                simp only [List.getElem?_map, Option.map_eq_some_iff] at hj
                obtain ⟨l, hl, rfl⟩ := hj
                have h1 : vs[j]? = some (strV l) := by rw [hvr]; simp [hl]
                obtain ⟨v', hv', hrv⟩ := hwr.get h1
                have := string_inv hrv
                subst this
                have := hc j _ hv'
                rw [Addr.add_lit] at this
                exact this
              have hbk : bk < w.heap.size := by
                have hp : 0 < r.length := by omega
                have := hcell 0 ⟨⟨r[0]⟩⟩ (by simp [hp])
                rcases Nat.lt_or_ge bk w.heap.size with h' | h'
                · exact h'
                · simp [World.cell?, Array.getElem?_eq_none h'] at this
              have hmap : ((r.map fun l => (⟨⟨l⟩⟩ : ByteArray)).map (·.data.toList)) = r := by
                rw [List.map_map]
                exact (List.map_congr_left fun l _ => rfl).trans (List.map_id r)
              have hrl2 : (r.map fun l => (⟨⟨l⟩⟩ : ByteArray)).length = n := by simp [hrl]
              have C := Any.strings_Join L X bk o c1 (r.map fun l => (⟨⟨l⟩⟩ : ByteArray)) p w hcell hbk (by omega) (by omega) (by rw [hmap]; omega)
              rw [hmap, hrl2] at C
              refine C.mono ?_
              rintro e w' ⟨rfl, hb⟩
              exact ⟨_, φ, rfl, .string _, post_still hR (still_below hb)⟩
        · cases h
      · cases h
    · cases h
  · cases h
theorem S343_ok (L : Lays.n157 E.P ρ) (hi9 : (E.P.info? (ρ.t 9)).map (fun i => (i.zero, i.size, i.bytes)) = some (some (.string ByteArray.empty), 1, 16))
    (hi154 : (E.P.info? (ρ.t 154)).map (fun i => (i.zero, i.size, i.bytes)) = some (some (.agg #[.int .i64 0, .int .i64 0]), 2, 16)) {T : World → Prop}
    (C : ∀ (s : ByteArray) (w : World), s.size < 4294967281 → T w → Lib.WhiteTab (ρ.g 6) w → Calls E.P (ρ.f 157) #[.string s] w fun e w' => ∃ A, e = .returned (.slice (some ⟨A, 0, none⟩) (Lib.fieldsD s.data.toList).length (Lib.fieldsD s.data.toList).length) ∧ w.heap.size ≤ A ∧
      w'.ownsRow w.heap.size (ρ.t 9) 1 (.slice (some ⟨A, 0, none⟩) (Lib.fieldsD s.data.toList).length (Lib.fieldsD s.data.toList).length) (Lib.fieldsD s.data.toList).length ((Lib.fieldsD s.data.toList).map fun x => Value.string ⟨x.toArray⟩) ∧ Below w.heap.size w w')
    (hu : ∀ f, E.lab f = 343 → f = ρ.f 157) (hT : ∀ w : World, (∀ b, b < E.W0.size → w.heap[b]? = E.W0[b]?) → T w ∧ Lib.WhiteTab (ρ.g 6) w) (h : S343 g args A = some (v, A')) : FnSound E g 343 args A v A' ∧ HK g A A' := by
  unfold S343 at h
  split at h
  · rename_i s
    split at h
    · rename_i hn
      simp only [Option.some.injEq, Prod.mk.injEq] at h
      obtain ⟨rfl, rfl⟩ := h
      refine ⟨fnSound_of fun lim φ w f' args' hlim hlab hrel hR => ?_, HK.push _ _ _⟩
      obtain ⟨y, rfl, hy⟩ := args1 hrel
      have e1 := string_inv hy
      subst e1
      obtain rfl := hu f' hlab
      obtain ⟨hT1, hW⟩ := hT w hR.fix.same
      refine (C s w hn hT1 hW).mono ?_
      generalize Lib.fieldsD s.data.toList = r
      rintro e w' ⟨N, rfl, hN, hown, hb⟩
      rcases hown.2 with ⟨h1, _⟩ | ⟨g', cap, cur, h1, h2, h3, h4, h5, h6, h7⟩
      · cases h1
      · cases h1
        have hlt : N < w'.heap.size := (Array.getElem?_eq_some_iff.1 h3).1
        refine ⟨_, ins φ A.n ⟨N, 0, cur.size⟩, rfl, .slice (ins_same _ _ _) (Nat.le_refl _) (Nat.le_refl _) (.inr ⟨rfl, ?_⟩), post_adopt hR (still_below hb) (by simp at hlim; omega) hN hlt ?_⟩
        · simp; omega
        · refine ⟨cur, _, (0, 0), h3, rfl, by simp; omega, fun _ => rfl, ?_⟩
          intro i v hv
          simp only [List.getElem?_map, Option.map_eq_some_iff] at hv
          obtain ⟨l, hl, rfl⟩ := hv
          have hi : i < r.length := (List.getElem?_eq_some_iff.1 hl).1
          have h8 : (cur.toList.take (r.length * 1))[i]? = some (.string ⟨l.toArray⟩) := by rw [h7]; simp [hl]
          rw [List.getElem?_take, if_pos (by omega)] at h8
          exact ⟨_, by simpa using h8, .string _⟩
    · cases h
  · cases h
end
end Go.Ab
set_option linter.unusedVariables false
namespace Go.Proofs
open Go.Shelf Go.RowKit
variable {P : Program} {ρ : Ren}
theorem freeze_drew (w : World) (p : Addr) (n : Nat) : (w.drew.freeze p n).heap = (w.freeze p n).heap ∧ (w.drew.freeze p n).os = w.os ∧ (w.drew.freeze p n).output = w.output ∧ (w.drew.freeze p n).tape = w.tape := by
  unfold World.freeze
  split <;> exact ⟨rfl, rfl, rfl, rfl⟩
theorem wpList_append_run {ops : Array Oper} {rest : List Oper} {o : Oper} {a : Act} {w w' : World} {Q : Exit → Act → World → Prop} (hgd : o.guard = none) (sl x : Operand) (t u : TypeId)
    (ho : o.op = .call { callee := .builtin .append, args := #[sl, x], argTypes := #[t, u] }) (v v' : Value) (s : ByteArray) (hs : a.eval sl = v) (hx : a.eval x = .string s)
    (hr : (Builtin.append_ #[t, u] o.type #[v, .string s]).run P w = .ok v' w') (h : wpList P ops Q rest (a.put o.dst v') w') : wpList P ops Q (o :: rest) a w := by
  refine wpList_plain hgd fun K hK => ?_
  unfold Oper.wp execOp
  simp only [ho, resolve, invoke, builtin, Sem.run_bind, Sem.run_pure, Result.andThen_ok, List.map_toArray, List.map_cons, List.map_nil, hs, hx, hr]
  exact hK _ _ h
set_option maxHeartbeats 2000000 in
set_option maxRecDepth 100000 in
theorem writeString_used (L : Lays.n166 P ρ) (X : Builder.Extra P ρ) (b : Nat) (v : Value) (s : ByteArray) (w : World) (R : Value → World → Prop)
    (hbk : w.heap[b]? = some (.cells #[.pointer (some ⟨b, 0, none⟩), v] (ρ.t 72) (0, 0)))
    (H : ∀ (ty : TypeId) (W : World), W.heap = w.heap → W.os = w.os → W.output = w.output → W.tape = w.tape → ∃ v' w2, (Builtin.append_ #[ρ.t 37, ρ.t 9] ty #[v, .string s]).run P W = .ok v' w2 ∧ (∃ ao n cap, v' = .slice ao n cap) ∧
      w2.heap[b]? = some (.cells #[.pointer (some ⟨b, 0, none⟩), v] (ρ.t 72) (0, 0)) ∧ R v' w2) :
    Calls P (ρ.f 166) #[.pointer (some ⟨b, 0, none⟩), .string s] w fun e w' => e = .returned (.tuple #[.int .i64 s.size, .nilIface]) ∧ ∃ v' w2, R v' w2 ∧ w2.heap[b]? = some (.cells #[.pointer (some ⟨b, 0, none⟩), v] (ρ.t 72) (0, 0)) ∧
      w'.heap = (w2.setCell ⟨b, 1, none⟩ v').heap ∧ w'.os = w2.os ∧ w'.output = w2.output ∧ w'.tape = w2.tape := by
  have mixed := L.mixed
  have t72 := L.t72; have a72 := L.a72; have z72 := L.z72; have v72 := L.v72; have u72 := run_underlying L.t72
  have t70 := L.t70; have a70 := L.a70; have z70 := L.z70; have v70 := L.v70; have u70 := run_underlying L.t70
  have t37 := L.t37; have a37 := L.a37; have z37 := L.z37; have v37 := L.v37; have u37 := run_underlying L.t37
  have t3 := L.t3; have a3 := L.a3; have z3 := L.z3; have v3 := L.v3; have u3 := run_underlying L.t3
  have t9 := L.t9; have a9 := L.a9; have z9 := L.z9; have v9 := L.v9; have u9 := run_underlying L.t9
  have t4 := L.t4; have a4 := L.a4; have z4 := L.z4; have v4 := L.v4; have u4 := run_underlying L.t4
  have t164 := L.t164; have a164 := L.a164; have z164 := L.z164; have v164 := L.v164; have u164 := run_underlying L.t164
  have t5 := X.t5; have a5 := X.a5; have z5 := X.z5; have v5 := X.v5; have u5 := run_underlying X.t5
  have e240 : ∀ args w, (callFunc (ρ.f 240) args).run P w = .ok (.enter (ρ.f 240) args) w := enters_of L.f240 (by kernel_rfl) rfl
  have k0 : w.cell? ⟨b, 0, none⟩ = some (.pointer (some ⟨b, 0, none⟩)) := by rw [Lib.cell_of_heap hbk]; rfl
  go_enter L.f166, Body.n166_ntmps ρ
  go_wp2_with (go_at_fn (ρ.f 240); refine (Any.Builder_copyCheck_used { L with } X.toX72 b _ (by exact k0)).mono ?_)
  rintro e w1 ⟨rfl, rfl⟩
  have c1 : w1.cell? ⟨b, 1, none⟩ = some v := by rw [Lib.cell_of_heap hbk]; rfl
  go_wp2_with (at_builtin; (obtain ⟨v', w2, hr, ⟨ao, n', cap, rfl⟩, hb2, hR⟩ := H _ _ rfl rfl rfl rfl); (have d0 : w2.cell? ⟨b, 0, none⟩ = some (.pointer (some ⟨b, 0, none⟩)) := by rw [Lib.cell_of_heap hb2]; rfl); (have d1 : w2.cell? ⟨b, 1, none⟩ = some v := by rw [Lib.cell_of_heap hb2]; rfl); (have f1 : w2.frozen? ⟨b, 1, none⟩ = false := Lib.frozen_of_heap hb2 1); refine wpList_append_run rfl _ _ (ρ.t 37) (ρ.t 9) rfl v (.slice ao n' cap) s rfl rfl hr ?_)
  go_ret2
  exact ⟨rfl, _, w2, hR, hb2, rfl, rfl, rfl, rfl⟩
set_option maxHeartbeats 2000000 in
set_option maxRecDepth 100000 in
theorem writeString_fresh (L : Lays.n166 P ρ) (X : Builder.Extra P ρ) (b : Nat) (v : Value) (s : ByteArray) (w : World) (R : Value → World → Prop)
    (hbk : w.heap[b]? = some (.cells #[.pointer none, v] (ρ.t 72) (0, 0)))
    (H : ∀ (ty : TypeId) (W : World), W.heap = (w.setCell ⟨b, 0, none⟩ (.pointer (some ⟨b, 0, none⟩))).heap → W.os = w.os → W.output = w.output → W.tape = w.tape → ∃ v' w2, (Builtin.append_ #[ρ.t 37, ρ.t 9] ty #[v, .string s]).run P W = .ok v' w2 ∧ (∃ ao n cap, v' = .slice ao n cap) ∧
      w2.heap[b]? = some (.cells #[.pointer (some ⟨b, 0, none⟩), v] (ρ.t 72) (0, 0)) ∧ R v' w2) :
    Calls P (ρ.f 166) #[.pointer (some ⟨b, 0, none⟩), .string s] w fun e w' => e = .returned (.tuple #[.int .i64 s.size, .nilIface]) ∧ ∃ v' w2, R v' w2 ∧ w2.heap[b]? = some (.cells #[.pointer (some ⟨b, 0, none⟩), v] (ρ.t 72) (0, 0)) ∧
      w'.heap = (w2.setCell ⟨b, 1, none⟩ v').heap ∧ w'.os = w2.os ∧ w'.output = w2.output ∧ w'.tape = w2.tape := by
  have mixed := L.mixed
  have t72 := L.t72; have a72 := L.a72; have z72 := L.z72; have v72 := L.v72; have u72 := run_underlying L.t72
  have t70 := L.t70; have a70 := L.a70; have z70 := L.z70; have v70 := L.v70; have u70 := run_underlying L.t70
  have t37 := L.t37; have a37 := L.a37; have z37 := L.z37; have v37 := L.v37; have u37 := run_underlying L.t37
  have t3 := L.t3; have a3 := L.a3; have z3 := L.z3; have v3 := L.v3; have u3 := run_underlying L.t3
  have t9 := L.t9; have a9 := L.a9; have z9 := L.z9; have v9 := L.v9; have u9 := run_underlying L.t9
  have t4 := L.t4; have a4 := L.a4; have z4 := L.z4; have v4 := L.v4; have u4 := run_underlying L.t4
  have t164 := L.t164; have a164 := L.a164; have z164 := L.z164; have v164 := L.v164; have u164 := run_underlying L.t164
  have t5 := X.t5; have a5 := X.a5; have z5 := X.z5; have v5 := X.v5; have u5 := run_underlying X.t5
  have e240 : ∀ args w, (callFunc (ρ.f 240) args).run P w = .ok (.enter (ρ.f 240) args) w := enters_of L.f240 (by kernel_rfl) rfl
  have k0 : w.cell? ⟨b, 0, none⟩ = some (.pointer none) := by rw [Lib.cell_of_heap hbk]; rfl
  have ksh : w.shape? b = some (ρ.t 72, 2) := by simp [World.shape?, hbk]
  have kfz : w.frozen? ⟨b, 0, none⟩ = false := Lib.frozen_of_heap hbk 0
  have k1 : w.cell? ⟨b, 1, none⟩ = some v := by rw [Lib.cell_of_heap hbk]; rfl
  obtain ⟨w1, hw1⟩ : ∃ w1, w1 = w.setCell ⟨b, 0, none⟩ (.pointer (some ⟨b, 0, none⟩)) := ⟨_, rfl⟩
  have c1 : w1.cell? ⟨b, 1, none⟩ = some v := by rw [hw1, World.cell?_setCell_other _ _ _ _ (by simp)]; exact k1
  have H1 : ∀ (ty : TypeId) (W : World), W.heap = w1.heap → W.os = w1.os → W.output = w1.output → W.tape = w1.tape → ∃ v' w2, (Builtin.append_ #[ρ.t 37, ρ.t 9] ty #[v, .string s]).run P W = .ok v' w2 ∧ (∃ ao n cap, v' = .slice ao n cap) ∧
      w2.heap[b]? = some (.cells #[.pointer (some ⟨b, 0, none⟩), v] (ρ.t 72) (0, 0)) ∧ R v' w2 := by rw [hw1]; exact H
  go_enter L.f166, Body.n166_ntmps ρ
  go_wp2_with (go_at_fn (ρ.f 240); refine (Any.Builder_copyCheck_fresh { L with } X.toX72 b _ (by exact k0) (by exact ksh) (by exact kfz)).mono ?_)
  rintro e W1 ⟨rfl, hW1⟩
  have hW : W1 = w1 := hW1.trans hw1.symm
  subst hW
  clear hw1 hW1 H k0 ksh kfz k1 hbk
  go_wp2_with (at_builtin; (obtain ⟨v', w2, hr, ⟨ao, n', cap, rfl⟩, hb2, hR⟩ := H1 _ _ rfl rfl rfl rfl); (have d0 : w2.cell? ⟨b, 0, none⟩ = some (.pointer (some ⟨b, 0, none⟩)) := by rw [Lib.cell_of_heap hb2]; rfl); (have d1 : w2.cell? ⟨b, 1, none⟩ = some v := by rw [Lib.cell_of_heap hb2]; rfl); (have f1 : w2.frozen? ⟨b, 1, none⟩ = false := Lib.frozen_of_heap hb2 1); refine wpList_append_run rfl _ _ (ρ.t 37) (ρ.t 9) rfl v (.slice ao n' cap) s rfl rfl hr ?_)
  go_ret2
  exact ⟨rfl, _, w2, hR, hb2, rfl, rfl, rfl, rfl⟩
set_option maxHeartbeats 2000000 in
set_option maxRecDepth 100000 in
theorem string_row (L : Lays.n169 P ρ) (X : Builder.Extra P ρ) (b g n cap : Nat) (p : Value) (cur : Array Value) (l : List UInt8) (w : World) (h0 : l ≠ []) (hl : l.length = n) (hn : n ≤ 9223372036854775807) (hcap : n ≤ cap) (hcs : n ≤ cur.size)
    (hbk : w.heap[b]? = some (.cells #[p, .slice (some ⟨g, 0, none⟩) n cap] (ρ.t 72) (0, 0))) (hg : w.heap[g]? = some (.cells cur (ρ.t 5) (0, 0))) (hcell : ∀ (j : Nat) x, l[j]? = some x → cur[j]? = some (.int .u8 x.toNat)) :
    Calls P (ρ.f 169) #[.pointer (some ⟨b, 0, none⟩)] w fun e w' => e = .returned (.string ⟨l.toArray⟩) ∧ w'.heap = (w.freeze ⟨g, 0, none⟩ n).heap ∧ w'.os = w.os ∧ w'.output = w.output ∧ w'.tape = w.tape := by
  subst hl
  have hl0 : l.length ≠ 0 := by simpa using h0
  have c1 : w.drew.cell? ⟨b, 1, none⟩ = some (.slice (some ⟨g, 0, none⟩) l.length cap) := by
    have : w.drew.heap[b]? = some (.cells #[p, .slice (some ⟨g, 0, none⟩) l.length cap] (ρ.t 72) (0, 0)) := hbk
    rw [Lib.cell_of_heap this]; rfl
  have hSD : (Builtin.unsafeSliceData_ #[(ρ.t 37)] (ρ.t 127) #[.slice (some ⟨g, 0, none⟩) l.length cap]).run P w.drew = .ok (.pointer (some ⟨g, 0, none⟩)) w.drew :=
    Lib.run_unsafeSliceData_row _ _ _ _ _ _ (by omega)
  have hUS : (Builtin.unsafeString_ #[(ρ.t 127), (ρ.t 3)] (ρ.t 9) #[.pointer (some ⟨g, 0, none⟩), .int .i64 l.length]).run P w.drew = .ok (.string ⟨l.toArray⟩) (w.drew.freeze ⟨g, 0, none⟩ l.length) := by
    refine Lib.run_unsafeString_row w.drew (ρ.t 127) (ρ.t 3) (ρ.t 9) (ρ.t 5) L.t127 X.cellsByte g cur.size (by have hg' : w.drew.heap[g]? = some (.cells cur (ρ.t 5) (0, 0)) := hg; simp [World.shape?, hg']) l h0 hcs hn ?_
    intro j x hx
    have hg' : w.drew.heap[g]? = some (.cells cur (ρ.t 5) (0, 0)) := hg
    rw [Addr.add_lit]
    simp only [World.cell?, hg']
    simpa using hcell j x hx
  have mixed := L.mixed
  have t72 := L.t72; have a72 := L.a72; have z72 := L.z72; have v72 := L.v72; have u72 := run_underlying L.t72
  have t70 := L.t70; have a70 := L.a70; have z70 := L.z70; have v70 := L.v70; have u70 := run_underlying L.t70
  have t37 := L.t37; have a37 := L.a37; have z37 := L.z37; have v37 := L.v37; have u37 := run_underlying L.t37
  have t127 := L.t127; have a127 := L.a127; have z127 := L.z127; have v127 := L.v127; have u127 := run_underlying L.t127
  have t3 := L.t3; have a3 := L.a3; have z3 := L.z3; have v3 := L.v3; have u3 := run_underlying L.t3
  have t9 := L.t9; have a9 := L.a9; have z9 := L.z9; have v9 := L.v9; have u9 := run_underlying L.t9
  have t5 := X.t5; have a5 := X.a5; have z5 := X.z5; have v5 := X.v5; have u5 := run_underlying X.t5
  go_enter L.f169, Body.n169_ntmps ρ
  go_wp2
  go_region_o
  all_goals (go_wp2; go_ret; exact ⟨rfl, freeze_drew _ _ _⟩)
end Go.Proofs
namespace Go.Ab
open Go.Shelf Go.Proofs Go.RowKit Go.Sort
section
variable {E : Env} {ρ : Ren} {lim g : Nat} {φ φ' : NM} {A A' : Hp} {w w' w1 : World} {v : Value} {args : List Value}
theorem post_write (hR : Rel E lim φ A w) {lo x : Nat} {e : Ent} {b b1 : ABlk} (hx : φ x = some e) (hA : A.get x = some b) (hb : b.rw = true) (hb1 : b1.rw = true) (hlo : lo ≤ x) (hxl : x < lim)
    (hsz : w'.heap.size = w.heap.size) (hother : ∀ k, k ≠ e.blk → w'.heap[k]? = w.heap[k]?) (henv : w'.os = w.os ∧ w'.output = w.output ∧ w'.tape = w.tape) (hrb : RelB E φ w' b1 e) : Post E lim φ A w lo φ (A.set x (some b1)) w' := by
  have hset := Hp.get_set hA (some b1)
  have nro := not_ro hA hb
  have hsep : ∀ y b' ey, y ≠ x → A.get y = some b' → φ y = some ey → ey.blk ≠ e.blk := fun y b' ey hy hb' hey => Ne.symm (hR.sep x y _ b' e ey (Ne.symm hy) hA hb' hx hey (ABlk.own_of_rw hb))
  refine ⟨Ext.refl _, fun _ _ h => .inl h, Nat.le_refl _, ?_, by omega, ?_, fun y ey h h' => (by rw [h] at h'; cases h'), ?_, henv⟩
  · refine ⟨fun y ey h => hR.dom y ey h, fun y ey h => by rw [hsz]; exact hR.wf y ey h, ?_, ?_, hR.fix.write hx nro hother fun y hy => by rw [hset, if_neg hy]⟩
    · intro y b' ey h1 hy
      rw [hset] at h1
      by_cases hyx : y = x
      · subst hyx; rw [hx] at hy; cases hy
        rw [if_pos rfl] at h1; cases h1; exact hrb
      · rw [if_neg hyx] at h1; exact (hR.blk y b' ey h1 hy).mono (Ext.refl _) (hother _ (hsep y b' ey hyx h1 hy))
    · intro y z c1 c2 ey ez hyz h1 h2 hy hz hrw
      rw [hset] at h1 h2
      by_cases hyx : y = x
      · subst hyx
        rw [if_neg (Ne.symm hyz)] at h2
        rw [hx] at hy; cases hy
        exact Ne.symm (hsep z c2 ez (Ne.symm hyz) h2 hz)
      · rw [if_neg hyx] at h1
        by_cases hzx : z = x
        · subst hzx; rw [hx] at hz; cases hz
          exact hsep y c1 ey hyx h1 hy
        · rw [if_neg hzx] at h2
          exact hR.sep y z c1 c2 ey ez hyz h1 h2 hy hz hrw
  · intro k _ H
    refine hother k fun hk => ?_
    rcases H x e hx hk.symm with h | h | h
    · omega
    · omega
    · exact absurd h nro
  · rintro y ⟨b0, h, hb0⟩
    refine ⟨b0, ?_, hb0⟩
    rw [hset, if_neg (fun hyx => nro (by rw [← hyx]; exact ⟨b0, h, hb0⟩))]
    exact h
theorem Post.ending (h : Post E lim φ A w g φ' A' w1) (hh : w'.heap = w1.heap) (he : w'.os = w1.os ∧ w'.output = w1.output ∧ w'.tape = w1.tape) : Post E lim φ A w g φ' A' w' :=
  ⟨h.ext, h.dom, h.len, ⟨h.rel.dom, fun x e hx => by rw [hh]; exact h.rel.wf x e hx, fun x b e hb hx => (h.rel.blk x b e hb hx).mono (Ext.refl _) (by rw [hh]), h.rel.sep, h.rel.fix.ro_mono (fun _ _ => by rw [hh]) fun _ h => h⟩, by rw [hh]; exact h.size,
   fun b hb H => by rw [hh]; exact h.frame b hb H, h.fresh, h.ro, ⟨he.1.trans h.env.1, he.2.1.trans h.env.2.1, he.2.2.trans h.env.2.2⟩⟩
theorem appendTA_keeps {s x : Value} (h : appendTA g A s x = some (v, A')) : A.n ≤ A'.n ∧ (∀ z, z < A.n → z < g → A'.get z = A.get z) ∧ ∀ z b, A.get z = some (.bld b v) → True := by
  obtain ⟨u, _, ⟨_, _, rfl, _⟩ | ⟨_, _, _, _, rfl⟩ | ⟨b, m, c, l, _, _, hb, hgb, _, _, _, rfl⟩⟩ := appendTA_some h
  · exact ⟨Nat.le_refl _, fun _ _ _ => rfl, fun _ _ _ => trivial⟩
  · exact ⟨by simp, fun z hz _ => by rw [Hp.get_push, if_neg (by omega)], fun _ _ _ => trivial⟩
  · exact ⟨by simp, fun z hz hg => by rw [Hp.get_push, if_neg (by simp; omega), Hp.get_set hb, if_neg (by omega)], fun _ _ _ => trivial⟩
theorem appendTA_bld {s x p q : Value} {z : Nat} (h : appendTA g A s x = some (v, A')) (hz : A.get z = some (.bld p q)) : A'.get z = some (.bld p q) := by
  have hzn := Hp.lt_of_get hz
  obtain ⟨u, _, ⟨_, _, rfl, _⟩ | ⟨_, _, _, _, rfl⟩ | ⟨b, m, c, l, _, _, hb, hgb, _, _, _, rfl⟩⟩ := appendTA_some h
  · exact hz
  · rw [Hp.get_push, if_neg (by omega)]; exact hz
  · rw [Hp.get_push, if_neg (by simp; omega), Hp.get_set hb, if_neg (fun e => by subst e; rw [hz] at hb; cases hb)]; exact hz
theorem appendTA_slice {s x : Value} (h : appendTA g A s x = some (v, A')) : (v = .slice none 0 0) ∨ ∃ y n c, v = .slice (some ⟨y, 0, some 1⟩) n c := by
  obtain ⟨u, _, ⟨_, rfl, _, h1⟩ | ⟨_, _, _, rfl, _⟩ | ⟨b, m, c, l, _, _, _, _, _, _, rfl, _⟩⟩ := appendTA_some h
  · rcases h1 with h1 | ⟨b, m, c, l, h1, _⟩
    · exact .inl h1
    · exact .inr ⟨b, m, c, h1⟩
  · exact .inr ⟨_, _, _, rfl⟩
  · exact .inr ⟨_, _, _, rfl⟩
theorem setCell_heap {w : World} {b : Nat} {c : Array Value} {t : TypeId} {fr : Nat × Nat} (h : w.heap[b]? = some (.cells c t fr)) (o : Nat) (x : Value) :
    (w.setCell ⟨b, o, none⟩ x).heap[b]? = some (.cells (c.setIfInBounds o x) t fr) := by
  simp [World.setCell, Array.getElem?_modify, h]
theorem setCell_else (w : World) (b k o : Nat) (x : Value) (h : k ≠ b) : (w.setCell ⟨b, o, none⟩ x).heap[k]? = w.heap[k]? := by
  simp only [World.setCell, Array.getElem?_modify]
  rw [if_neg (Ne.symm h)]
theorem S336_ok (L : Lays.n166 E.P ρ) (X : Builder.Extra E.P ρ) (hu : ∀ f, E.lab f = 336 → f = ρ.f 166) (hT : E.lab 3000000 = ρ.t 72) (h8 : u8Ok E.P (ρ.t 5) = true) (h : S336 g args A = some (v, A')) : FnSound E g 336 args A v A' ∧ HK g A A' := by
  unfold S336 at h
  split at h
  rotate_left
  · cases h
  rename_i x u
  split at h
  rotate_left
  · cases h
  rename_i p q hA
  split at h
  rotate_left
  · cases h
  rename_i hg
  obtain ⟨hgx, hp⟩ := hg
  split at h
  rotate_left
  · cases h
  rename_i v1 A2 happ
  cases h
  have hxn := Hp.lt_of_get hA
  have hset := Hp.get_set hA (some (.bld (.pointer (some ⟨x, 0, none⟩)) q))
  have hA1 : (A.set x (some (.bld (.pointer (some ⟨x, 0, none⟩)) q))).get x = some (.bld (.pointer (some ⟨x, 0, none⟩)) q) := by rw [hset, if_pos rfl]
  have hA2 := appendTA_bld happ hA1
  have hk := appendTA_keeps happ
  refine ⟨fnSound_of fun lim φ w f' args' hlim hlab hrel hR => ?_, ?_⟩
  rotate_left
  · refine ⟨by simpa using hk.1, fun z hz hzg => ?_⟩
    rw [Hp.get_set hA2, if_neg (by omega), hk.2.1 z (by simpa using hz) hzg, hset, if_neg (by omega)]
  obtain ⟨y1, y2, rfl, hy1, hy2⟩ := args2 hrel
  have e2 := string_inv hy2
  subst e2
  obtain rfl := hu f' hlab
  cases hy1 with
  | ptr hφ =>
    rename_i e
    obtain ⟨p', q', hb, hoff, hsize, hpr, hqr⟩ := hR.blk x _ e hA hφ
    rw [hT] at hb
    have hlt := hR.wf x e hφ
    have hxl : x < lim := by
      have h1 := hk.1
      simp only [Hp.n_set] at h1 hlim
      omega
    have hself : RelV E.lab φ (.pointer (some ⟨x, 0, none⟩)) (.pointer (some ⟨e.blk, 0, none⟩)) := by
      have := RelV.ptr (lab := E.lab) (o := 0) hφ
      rw [hoff] at this; exact this
    have key : ∀ (w1 : World), w1.heap[e.blk]? = some (.cells #[.pointer (some ⟨e.blk, 0, none⟩), q'] (ρ.t 72) (0, 0)) → w1.heap.size = w.heap.size → (∀ k, k ≠ e.blk → w1.heap[k]? = w.heap[k]?) → w1.os = w.os ∧ w1.output = w.output ∧ w1.tape = w.tape →
        ∀ (ty : TypeId) (W : World), W.heap = w1.heap → W.os = w1.os → W.output = w1.output → W.tape = w1.tape → ∃ v' w2, (Builtin.append_ #[ρ.t 37, ρ.t 9] ty #[q', .string u]).run E.P W = .ok v' w2 ∧ (∃ ao n cap, v' = .slice ao n cap) ∧
          w2.heap[e.blk]? = some (.cells #[.pointer (some ⟨e.blk, 0, none⟩), q'] (ρ.t 72) (0, 0)) ∧ ∃ φ', RelV E.lab φ' v1 v' ∧ Post E lim φ A w g φ' A2 w2 := by
      intro w1 hb1 hs1 ho1 he1 ty W hW hWo hWu hWt
      have hP1 : Post E lim φ A w g φ (A.set x (some (.bld (.pointer (some ⟨x, 0, none⟩)) q))) w1 :=
        post_write hR hφ hA rfl rfl hgx hxl hs1 ho1 he1 ⟨_, _, by rw [hT]; exact hb1, hoff, hsize, hself, hqr⟩
      have hP1' : Post E lim φ A w g φ (A.set x (some (.bld (.pointer (some ⟨x, 0, none⟩)) q))) W := hP1.ending hW ⟨hWo, hWu, hWt⟩
      obtain ⟨v', w2, φ', hr, hv, hp2, hfr⟩ := appendT_run (ty := ty) (by simpa using hlim) L.t37 L.t9 h8 hP1'.rel hqr happ
      refine ⟨v', w2, hr, ?_, ?_, φ', hv, hP1'.trans hp2⟩
      · rcases appendTA_slice happ with rfl | ⟨y, n, c, rfl⟩
        · obtain ⟨b', c', rfl⟩ := relV_len hv rfl; exact ⟨_, _, _, rfl⟩
        · obtain ⟨b', c', rfl⟩ := relV_len hv rfl; exact ⟨_, _, _, rfl⟩
      · rw [hfr e.blk (by rw [hW, hs1]; exact hlt) fun y m c ey hv0 hy => ?_, hW]
        · exact hb1
        · subst hv0
          obtain ⟨b2, hb2⟩ : ∃ l, (A.set x (some (.bld (.pointer (some ⟨x, 0, none⟩)) (.slice (some ⟨y, 0, some 1⟩) m c)))).get y = some (.bytes l) := by
            obtain ⟨u', _, ⟨_, _, _, h1 | ⟨b, m', c', l, h1, h2, _⟩⟩ | ⟨_, _, h1, _⟩ | ⟨b, m', c', l, _, h1, h2, _⟩⟩ := appendTA_some happ
            · cases h1
            · cases h1; exact ⟨l, h2⟩
            · cases h1
            · cases h1; exact ⟨l, h2⟩
          exact hP1'.rel.sep x y _ _ e ey (fun hxy => by subst hxy; rw [hA1] at hb2; cases hb2) hA1 hb2 hφ hy rfl
    have fin : ∀ (w' : World), (∃ v' w2, (∃ φ', RelV E.lab φ' v1 v' ∧ Post E lim φ A w g φ' A2 w2) ∧ w2.heap[e.blk]? = some (.cells #[.pointer (some ⟨e.blk, 0, none⟩), q'] (ρ.t 72) (0, 0)) ∧
        w'.heap = (w2.setCell ⟨e.blk, 1, none⟩ v').heap ∧ w'.os = w2.os ∧ w'.output = w2.output ∧ w'.tape = w2.tape) →
        ∃ φ', Post E lim φ A w g φ' (A2.set x (some (.bld (.pointer (some ⟨x, 0, none⟩)) v1))) w' := by
      rintro w' ⟨v', w2, ⟨φ', hv, hP⟩, hb2, hh, ho, hu', ht⟩
      have hφ' := hP.ext x e hφ
      have hse : RelV E.lab φ' (.pointer (some ⟨x, 0, none⟩)) (.pointer (some ⟨e.blk, 0, none⟩)) := hself.mono hP.ext
      have hc := setCell_heap hb2 1 v'
      refine ⟨φ', hP.trans (post_write hP.rel hφ' hA2 rfl rfl hgx hxl (by rw [hh]; simp [World.setCell]) (fun k hk => by rw [hh]; exact setCell_else w2 e.blk k 1 v' hk) ⟨ho, hu', ht⟩ ⟨.pointer (some ⟨e.blk, 0, none⟩), v', ?_, hoff, hsize, hse, hv⟩)⟩
      rw [hT, hh, hc]
      rfl
    have tup : ∀ φ', RelV E.lab φ' (.tuple ⟨[.int .i64 u.size, .nilIface]⟩) (.tuple #[.int .i64 u.size, .nilIface]) := fun φ' => RelL.tuple (.cons (.int _ _) (.cons .nilIface .nil))
    have arr : ([Value.pointer (some ⟨e.blk, e.off + 0, none⟩), Value.string u] : List Value).toArray = #[.pointer (some ⟨e.blk, 0, none⟩), .string u] := by rw [hoff]
    rw [arr]
    unfold selfB at hp
    split at hp
    ·
      cases hpr
      refine (writeString_fresh L X e.blk q' u w _ hb (key _ (by simpa using setCell_heap hb 0 (.pointer (some ⟨e.blk, 0, none⟩))) (by simp [World.setCell]) (fun k hk => setCell_else w e.blk k 0 _ hk) ⟨rfl, rfl, rfl⟩)).mono ?_
      rintro en w' ⟨rfl, hfin⟩
      obtain ⟨φ', hP⟩ := fin w' hfin
      exact ⟨_, φ', rfl, tup φ', hP⟩
    · rename_i z
      have hzx : z = x := by simpa using hp
      subst hzx
      have hpp : p' = .pointer (some ⟨e.blk, 0, none⟩) := by
        cases hpr with
        | ptr h2 => rw [hφ] at h2; cases h2; rw [hoff]
      subst hpp
      refine (writeString_used L X e.blk q' u w _ hb (key w hb rfl (fun _ _ => rfl) ⟨rfl, rfl, rfl⟩)).mono ?_
      rintro en w' ⟨rfl, hfin⟩
      obtain ⟨φ', hP⟩ := fin w' hfin
      exact ⟨_, φ', rfl, tup φ', hP⟩
    · cases hp
theorem S340_ok (L : Lays.n169 E.P ρ) (X : Builder.Extra E.P ρ) (hu : ∀ f, E.lab f = 340 → f = ρ.f 169) (hT : E.lab 3000000 = ρ.t 72) (h8 : u8Ok E.P (ρ.t 5) = true) (h : S340 g args A = some (v, A')) : FnSound E g 340 args A v A' ∧ HK g A A' := by
  unfold S340 at h
  split at h
  rotate_left
  · cases h
  rename_i x
  split at h
  ·
    rename_i p hA
    cases h
    refine ⟨fnSound_of fun lim φ w f' args' hlim hlab hrel hR => ?_, HK.refl _ _⟩
    obtain ⟨y1, rfl, hy1⟩ := args1 hrel
    obtain rfl := hu f' hlab
    cases hy1 with
    | ptr hφ =>
      rename_i e
      obtain ⟨p', q', hb, hoff, hsize, hpr, hqr⟩ := hR.blk x _ e hA hφ
      obtain ⟨_, _, rfl⟩ := nilSlice_inv hqr
      rw [hT] at hb
      have arr : ([Value.pointer (some ⟨e.blk, e.off + 0, none⟩)] : List Value).toArray = #[.pointer (some ⟨e.blk, 0, none⟩)] := by rw [hoff]
      rw [arr]
      refine (Any.Builder_String_nil L X w.heap.size e.blk p' w hb).mono ?_
      rintro en w' ⟨rfl, hbel⟩
      exact ⟨_, φ, rfl, .string _, post_still hR (still_below hbel)⟩
  · rename_i p y m c hA
    split at h
    rotate_left
    · cases h
    rename_i l hl
    split at h
    rotate_left
    · cases h
    rename_i hg
    obtain ⟨hgy, hlm, hm0, hmr⟩ := hg
    cases h
    unfold room at hmr
    refine ⟨fnSound_of fun lim φ w f' args' hlim hlab hrel hR => ?_, (HK.refl g A).set hl (.inl hgy) none⟩
    obtain ⟨y1, rfl, hy1⟩ := args1 hrel
    obtain rfl := hu f' hlab
    cases hy1 with
    | ptr hφ =>
      rename_i e
      obtain ⟨p', q', hb, hoff, hsize, hpr, hqr⟩ := hR.blk x _ e hA hφ
      rw [hT] at hb
      obtain ⟨en, ap, qq, hen, hnq, hcq, hq, rfl⟩ := slice_inv hqr
      obtain ⟨cur, hh, hcs, hoff2, hle, hcell⟩ := hR.blk y _ en hl hen
      obtain rfl : ap = ⟨en.blk, 0, none⟩ := by
        rcases hq with hq | ⟨hq, _⟩
        · omega
        · rw [hq, hoff2]
      obtain ⟨h81, _⟩ := u8Ok_inv h8
      have arr : ([Value.pointer (some ⟨e.blk, e.off + 0, none⟩)] : List Value).toArray = #[.pointer (some ⟨e.blk, 0, none⟩)] := by rw [hoff]
      rw [arr]
      refine (string_row L X e.blk en.blk m qq p' cur l w (by intro h0; simp [h0] at hlm; omega) hlm (by omega) hnq (by omega) hb (by rw [h81]; exact hh) hcell).mono ?_
      rintro en' w' ⟨rfl, hhp, ho, hu', ht⟩
      have hyn := Hp.lt_of_get hl
      simp only [Hp.n_set] at hlim
      have hfz : (w.freeze ⟨en.blk, 0, none⟩ m).heap.size = w.heap.size ∧ ∀ k, k ≠ en.blk → (w.freeze ⟨en.blk, 0, none⟩ m).heap[k]? = w.heap[k]? := by
        unfold World.freeze
        rw [if_neg (by omega)]
        exact ⟨by simp, fun k hk => by simp only [Array.getElem?_modify]; rw [if_neg (Ne.symm hk)]⟩
      exact ⟨_, φ, rfl, .string _, post_end hR hen hl rfl hgy (by omega) (by rw [hhp]; exact hfz.1) (fun k hk => by rw [hhp]; exact hfz.2 k hk) ⟨ho, hu', ht⟩⟩
  · cases h
end
end Go.Ab
