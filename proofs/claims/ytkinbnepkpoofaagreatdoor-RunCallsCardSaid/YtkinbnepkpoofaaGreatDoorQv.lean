/- Texts joined into one: RCTop Wt BodyRC. -/
import Derived.Test.YtkinbnepkpoofaaGreatDoorQu0
import Derived.Test.YtkinbnepkpoofaaGreatDoorQu1
import Derived.Test.YtkinbnepkpoofaaGreatDoorKg
import Derived.Test.YtkinbnepkpoofaaGreatDoorKc
import Derived.Test.YtkinbnepkpoofaaGreatDoorKe
/- At each byte it comes to true. -/
set_option maxRecDepth 1000000
set_option linter.unusedVariables false
open Go Go.AM
namespace Go.Proofs.YtkinbnepkpoofaaGreatDoor
theorem RCall : ∀ n : Nat, n < 256 → RCchk n = true
 | 0, _ => RCv0
 | 1, _ => RCv1
 | 2, _ => RCv2
 | 3, _ => RCv3
 | 4, _ => RCv4
 | 5, _ => RCv5
 | 6, _ => RCv6
 | 7, _ => RCv7
 | 8, _ => RCv8
 | 9, _ => RCv9
 | 10, _ => RCv10
 | 11, _ => RCv11
 | 12, _ => RCv12
 | 13, _ => RCv13
 | 14, _ => RCv14
 | 15, _ => RCv15
 | 16, _ => RCv16
 | 17, _ => RCv17
 | 18, _ => RCv18
 | 19, _ => RCv19
 | 20, _ => RCv20
 | 21, _ => RCv21
 | 22, _ => RCv22
 | 23, _ => RCv23
 | 24, _ => RCv24
 | 25, _ => RCv25
 | 26, _ => RCv26
 | 27, _ => RCv27
 | 28, _ => RCv28
 | 29, _ => RCv29
 | 30, _ => RCv30
 | 31, _ => RCv31
 | 32, _ => RCv32
 | 33, _ => RCv33
 | 34, _ => RCv34
 | 35, _ => RCv35
 | 36, _ => RCv36
 | 37, _ => RCv37
 | 38, _ => RCv38
 | 39, _ => RCv39
 | 40, _ => RCv40
 | 41, _ => RCv41
 | 42, _ => RCv42
 | 43, _ => RCv43
 | 44, _ => RCv44
 | 45, _ => RCv45
 | 46, _ => RCv46
 | 47, _ => RCv47
 | 48, _ => RCv48
 | 49, _ => RCv49
 | 50, _ => RCv50
 | 51, _ => RCv51
 | 52, _ => RCv52
 | 53, _ => RCv53
 | 54, _ => RCv54
 | 55, _ => RCv55
 | 56, _ => RCv56
 | 57, _ => RCv57
 | 58, _ => RCv58
 | 59, _ => RCv59
 | 60, _ => RCv60
 | 61, _ => RCv61
 | 62, _ => RCv62
 | 63, _ => RCv63
 | 64, _ => RCv64
 | 65, _ => RCv65
 | 66, _ => RCv66
 | 67, _ => RCv67
 | 68, _ => RCv68
 | 69, _ => RCv69
 | 70, _ => RCv70
 | 71, _ => RCv71
 | 72, _ => RCv72
 | 73, _ => RCv73
 | 74, _ => RCv74
 | 75, _ => RCv75
 | 76, _ => RCv76
 | 77, _ => RCv77
 | 78, _ => RCv78
 | 79, _ => RCv79
 | 80, _ => RCv80
 | 81, _ => RCv81
 | 82, _ => RCv82
 | 83, _ => RCv83
 | 84, _ => RCv84
 | 85, _ => RCv85
 | 86, _ => RCv86
 | 87, _ => RCv87
 | 88, _ => RCv88
 | 89, _ => RCv89
 | 90, _ => RCv90
 | 91, _ => RCv91
 | 92, _ => RCv92
 | 93, _ => RCv93
 | 94, _ => RCv94
 | 95, _ => RCv95
 | 96, _ => RCv96
 | 97, _ => RCv97
 | 98, _ => RCv98
 | 99, _ => RCv99
 | 100, _ => RCv100
 | 101, _ => RCv101
 | 102, _ => RCv102
 | 103, _ => RCv103
 | 104, _ => RCv104
 | 105, _ => RCv105
 | 106, _ => RCv106
 | 107, _ => RCv107
 | 108, _ => RCv108
 | 109, _ => RCv109
 | 110, _ => RCv110
 | 111, _ => RCv111
 | 112, _ => RCv112
 | 113, _ => RCv113
 | 114, _ => RCv114
 | 115, _ => RCv115
 | 116, _ => RCv116
 | 117, _ => RCv117
 | 118, _ => RCv118
 | 119, _ => RCv119
 | 120, _ => RCv120
 | 121, _ => RCv121
 | 122, _ => RCv122
 | 123, _ => RCv123
 | 124, _ => RCv124
 | 125, _ => RCv125
 | 126, _ => RCv126
 | 127, _ => RCv127
 | 128, _ => RCv128
 | 129, _ => RCv129
 | 130, _ => RCv130
 | 131, _ => RCv131
 | 132, _ => RCv132
 | 133, _ => RCv133
 | 134, _ => RCv134
 | 135, _ => RCv135
 | 136, _ => RCv136
 | 137, _ => RCv137
 | 138, _ => RCv138
 | 139, _ => RCv139
 | 140, _ => RCv140
 | 141, _ => RCv141
 | 142, _ => RCv142
 | 143, _ => RCv143
 | 144, _ => RCv144
 | 145, _ => RCv145
 | 146, _ => RCv146
 | 147, _ => RCv147
 | 148, _ => RCv148
 | 149, _ => RCv149
 | 150, _ => RCv150
 | 151, _ => RCv151
 | 152, _ => RCv152
 | 153, _ => RCv153
 | 154, _ => RCv154
 | 155, _ => RCv155
 | 156, _ => RCv156
 | 157, _ => RCv157
 | 158, _ => RCv158
 | 159, _ => RCv159
 | 160, _ => RCv160
 | 161, _ => RCv161
 | 162, _ => RCv162
 | 163, _ => RCv163
 | 164, _ => RCv164
 | 165, _ => RCv165
 | 166, _ => RCv166
 | 167, _ => RCv167
 | 168, _ => RCv168
 | 169, _ => RCv169
 | 170, _ => RCv170
 | 171, _ => RCv171
 | 172, _ => RCv172
 | 173, _ => RCv173
 | 174, _ => RCv174
 | 175, _ => RCv175
 | 176, _ => RCv176
 | 177, _ => RCv177
 | 178, _ => RCv178
 | 179, _ => RCv179
 | 180, _ => RCv180
 | 181, _ => RCv181
 | 182, _ => RCv182
 | 183, _ => RCv183
 | 184, _ => RCv184
 | 185, _ => RCv185
 | 186, _ => RCv186
 | 187, _ => RCv187
 | 188, _ => RCv188
 | 189, _ => RCv189
 | 190, _ => RCv190
 | 191, _ => RCv191
 | 192, _ => RCv192
 | 193, _ => RCv193
 | 194, _ => RCv194
 | 195, _ => RCv195
 | 196, _ => RCv196
 | 197, _ => RCv197
 | 198, _ => RCv198
 | 199, _ => RCv199
 | 200, _ => RCv200
 | 201, _ => RCv201
 | 202, _ => RCv202
 | 203, _ => RCv203
 | 204, _ => RCv204
 | 205, _ => RCv205
 | 206, _ => RCv206
 | 207, _ => RCv207
 | 208, _ => RCv208
 | 209, _ => RCv209
 | 210, _ => RCv210
 | 211, _ => RCv211
 | 212, _ => RCv212
 | 213, _ => RCv213
 | 214, _ => RCv214
 | 215, _ => RCv215
 | 216, _ => RCv216
 | 217, _ => RCv217
 | 218, _ => RCv218
 | 219, _ => RCv219
 | 220, _ => RCv220
 | 221, _ => RCv221
 | 222, _ => RCv222
 | 223, _ => RCv223
 | 224, _ => RCv224
 | 225, _ => RCv225
 | 226, _ => RCv226
 | 227, _ => RCv227
 | 228, _ => RCv228
 | 229, _ => RCv229
 | 230, _ => RCv230
 | 231, _ => RCv231
 | 232, _ => RCv232
 | 233, _ => RCv233
 | 234, _ => RCv234
 | 235, _ => RCv235
 | 236, _ => RCv236
 | 237, _ => RCv237
 | 238, _ => RCv238
 | 239, _ => RCv239
 | 240, _ => RCv240
 | 241, _ => RCv241
 | 242, _ => RCv242
 | 243, _ => RCv243
 | 244, _ => RCv244
 | 245, _ => RCv245
 | 246, _ => RCv246
 | 247, _ => RCv247
 | 248, _ => RCv248
 | 249, _ => RCv249
 | 250, _ => RCv250
 | 251, _ => RCv251
 | 252, _ => RCv252
 | 253, _ => RCv253
 | 254, _ => RCv254
 | 255, _ => RCv255
 | n + 256, h => absurd h (by omega)
end Go.Proofs.YtkinbnepkpoofaaGreatDoor
/- What the law's arguments are, as data. -/
set_option linter.unusedVariables false
set_option maxRecDepth 100000
namespace Go.Proofs.YtkinbnepkpoofaaGreatDoor
open Go Go.AM
theorem wt_int {n : Nat} {k : IntKind} {t : TypeId} {cs : List D} (h : wt Tryz.prog (n + 1) t cs) (ht : Tryz.prog.underlying t = some (.int k)) : ∃ m, cs = [.int k m] ∧ k.min ≤ m ∧ m ≤ k.max := by
 unfold wt at h
 rw [ht] at h
 exact h
theorem wt_u8 {n : Nat} {x : D} {t : TypeId} (h : wt Tryz.prog (n + 1) t [x]) (ht : Tryz.prog.underlying t = some (.int .u8)) : ∃ m : Nat, x = .int .u8 m ∧ m < 256 := by
 obtain ⟨c, hc, c0, c1⟩ := wt_int h ht
 have e0 : IntKind.min .u8 = 0 := by decide
 have e1 : IntKind.max .u8 = 255 := by decide
 rw [e0] at c0
 rw [e1] at c1
 refine ⟨c.toNat, ?_, by omega⟩
 rw [Int.toNat_of_nonneg c0]
 cases hc
 rfl
end Go.Proofs.YtkinbnepkpoofaaGreatDoor
/- RunCalls: its runs. -/
set_option linter.unusedVariables false
set_option maxRecDepth 100000
namespace Go.Proofs.YtkinbnepkpoofaaGreatDoor
open Go Go.AM
noncomputable def sp12 : Sz := runK (gB RCLT) 1000 70 12
theorem z12 : OkZ Tryz.prog 12 sp12 := runK_ok hT hm (bookR_ok hn RCLT_ok) 70 12
theorem chk_yes {n : Nat} (h : RCchk n = true) : sp12 [.im (.int .u8 n)] [] = some (false, .im (.bool true), []) := by
 unfold RCchk at h
 unfold sp12
 generalize runK (gB RCLT) 1000 70 12 [.im (.int .u8 n)] [] = q at h ⊢
 split at h
 ·
  rfl
 ·
  cases h
theorem body12 (x0 : D) (t0 : wt Tryz.prog 12 5 [x0]) : sp12 [.im x0] [] = some (false, .im (.bool true), []) := by
 obtain ⟨n, rfl, hn⟩ := wt_u8 t0 Tryz.underlying5
 exact chk_yes (RCall n hn)
end Go.Proofs.YtkinbnepkpoofaaGreatDoor