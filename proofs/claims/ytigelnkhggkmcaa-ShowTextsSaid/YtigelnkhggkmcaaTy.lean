/- Lemmas that the claim leans on. -/
import Derived.Test.YtigelnkhggkmcaaProg
import Derived.Test.YtigelnkhggkmcaaAbs3
set_option linter.all false
/- The types of the seat, as facts for simp. Printed by genty.py of this repo. -/
namespace Go.Proofs.Ytigelnkhggkmcaa
open Go.Abs
@[go_sem] theorem ty_0 : szT Try.prog 2 = some 1 := by kernel_rfl
@[go_sem] theorem ty_1 : byT Try.prog 2 = some 8 := by kernel_rfl
@[go_sem] theorem ty_2 : aggT Try.prog 2 = some false := by kernel_rfl
@[go_sem] theorem ty_3 : ldT Try.prog 2 = some none := by kernel_rfl
@[go_sem] theorem ty_4 : isSl Try.prog 2 = false := by kernel_rfl
@[go_sem] theorem ty_5 : isSt Try.prog 2 = false := by kernel_rfl
@[go_sem] theorem ty_6 : nif Try.prog 2 = true := by kernel_rfl
@[go_sem] theorem ty_7 : isIf Try.prog 2 = false := by kernel_rfl
@[go_sem] theorem ty_8 : isPt Try.prog 2 = false := by kernel_rfl
@[go_sem] theorem ty_9 : isBo Try.prog 2 = false := by kernel_rfl
@[go_sem] theorem ty_10 : slT Try.prog 2 = none := by kernel_rfl
@[go_sem] theorem ty_11 : zeroA Try.prog 2 = some (.int .i64 0) := by kernel_rfl
@[go_sem] theorem ty_12 : szT Try.prog 3 = some 1 := by kernel_rfl
@[go_sem] theorem ty_13 : byT Try.prog 3 = some 8 := by kernel_rfl
@[go_sem] theorem ty_14 : aggT Try.prog 3 = some false := by kernel_rfl
@[go_sem] theorem ty_15 : ldT Try.prog 3 = some none := by kernel_rfl
@[go_sem] theorem ty_16 : isSl Try.prog 3 = false := by kernel_rfl
@[go_sem] theorem ty_17 : isSt Try.prog 3 = false := by kernel_rfl
@[go_sem] theorem ty_18 : nif Try.prog 3 = true := by kernel_rfl
@[go_sem] theorem ty_19 : isIf Try.prog 3 = false := by kernel_rfl
@[go_sem] theorem ty_20 : isPt Try.prog 3 = false := by kernel_rfl
@[go_sem] theorem ty_21 : isBo Try.prog 3 = false := by kernel_rfl
@[go_sem] theorem ty_22 : slT Try.prog 3 = none := by kernel_rfl
@[go_sem] theorem ty_23 : zeroA Try.prog 3 = some (.int .i64 0) := by kernel_rfl
@[go_sem] theorem ty_24 : cvT Try.prog 3 5 = some (.int .u8) := by kernel_rfl
@[go_sem] theorem ty_25 : strK Try.prog 3 5 = none := by kernel_rfl
@[go_sem] theorem ty_26 : isTS Try.prog 3 5 = false := by kernel_rfl
@[go_sem] theorem ty_27 : cvT Try.prog 3 51 = some (.int .u64) := by kernel_rfl
@[go_sem] theorem ty_28 : strK Try.prog 3 51 = none := by kernel_rfl
@[go_sem] theorem ty_29 : isTS Try.prog 3 51 = false := by kernel_rfl
@[go_sem] theorem ty_30 : szT Try.prog 4 = some 1 := by kernel_rfl
@[go_sem] theorem ty_31 : byT Try.prog 4 = some 1 := by kernel_rfl
@[go_sem] theorem ty_32 : aggT Try.prog 4 = some false := by kernel_rfl
@[go_sem] theorem ty_33 : ldT Try.prog 4 = some none := by kernel_rfl
@[go_sem] theorem ty_34 : isSl Try.prog 4 = false := by kernel_rfl
@[go_sem] theorem ty_35 : isSt Try.prog 4 = false := by kernel_rfl
@[go_sem] theorem ty_36 : nif Try.prog 4 = true := by kernel_rfl
@[go_sem] theorem ty_37 : isIf Try.prog 4 = false := by kernel_rfl
@[go_sem] theorem ty_38 : isPt Try.prog 4 = false := by kernel_rfl
@[go_sem] theorem ty_39 : isBo Try.prog 4 = true := by kernel_rfl
@[go_sem] theorem ty_40 : slT Try.prog 4 = none := by kernel_rfl
@[go_sem] theorem ty_41 : zeroA Try.prog 4 = some (.bool false) := by kernel_rfl
@[go_sem] theorem ty_42 : szT Try.prog 5 = some 1 := by kernel_rfl
@[go_sem] theorem ty_43 : byT Try.prog 5 = some 1 := by kernel_rfl
@[go_sem] theorem ty_44 : aggT Try.prog 5 = some false := by kernel_rfl
@[go_sem] theorem ty_45 : ldT Try.prog 5 = some none := by kernel_rfl
@[go_sem] theorem ty_46 : isSl Try.prog 5 = false := by kernel_rfl
@[go_sem] theorem ty_47 : isSt Try.prog 5 = false := by kernel_rfl
@[go_sem] theorem ty_48 : nif Try.prog 5 = true := by kernel_rfl
@[go_sem] theorem ty_49 : isIf Try.prog 5 = false := by kernel_rfl
@[go_sem] theorem ty_50 : isPt Try.prog 5 = false := by kernel_rfl
@[go_sem] theorem ty_51 : isBo Try.prog 5 = false := by kernel_rfl
@[go_sem] theorem ty_52 : slT Try.prog 5 = none := by kernel_rfl
@[go_sem] theorem ty_53 : zeroA Try.prog 5 = some (.int .u8 0) := by kernel_rfl
@[go_sem] theorem ty_54 : cvT Try.prog 5 3 = some (.int .i64) := by kernel_rfl
@[go_sem] theorem ty_55 : strK Try.prog 5 3 = none := by kernel_rfl
@[go_sem] theorem ty_56 : isTS Try.prog 5 3 = false := by kernel_rfl
@[go_sem] theorem ty_57 : cvT Try.prog 5 303 = some (.int .u32) := by kernel_rfl
@[go_sem] theorem ty_58 : strK Try.prog 5 303 = none := by kernel_rfl
@[go_sem] theorem ty_59 : isTS Try.prog 5 303 = false := by kernel_rfl
@[go_sem] theorem ty_60 : szT Try.prog 9 = some 1 := by kernel_rfl
@[go_sem] theorem ty_61 : byT Try.prog 9 = some 16 := by kernel_rfl
@[go_sem] theorem ty_62 : aggT Try.prog 9 = some false := by kernel_rfl
@[go_sem] theorem ty_63 : ldT Try.prog 9 = some none := by kernel_rfl
@[go_sem] theorem ty_64 : isSl Try.prog 9 = false := by kernel_rfl
@[go_sem] theorem ty_65 : isSt Try.prog 9 = true := by kernel_rfl
@[go_sem] theorem ty_66 : nif Try.prog 9 = true := by kernel_rfl
@[go_sem] theorem ty_67 : isIf Try.prog 9 = false := by kernel_rfl
@[go_sem] theorem ty_68 : isPt Try.prog 9 = false := by kernel_rfl
@[go_sem] theorem ty_69 : isBo Try.prog 9 = false := by kernel_rfl
@[go_sem] theorem ty_70 : slT Try.prog 9 = none := by kernel_rfl
@[go_sem] theorem ty_71 : zeroA Try.prog 9 = some (.str ⟨#[]⟩) := by kernel_rfl
@[go_sem] theorem ty_72 : cvT Try.prog 9 29 = none := by kernel_rfl
@[go_sem] theorem ty_73 : strK Try.prog 9 29 = some false := by kernel_rfl
@[go_sem] theorem ty_74 : isTS Try.prog 9 29 = false := by kernel_rfl
@[go_sem] theorem ty_75 : szT Try.prog 12 = some 1 := by kernel_rfl
@[go_sem] theorem ty_76 : byT Try.prog 12 = some 8 := by kernel_rfl
@[go_sem] theorem ty_77 : aggT Try.prog 12 = some false := by kernel_rfl
@[go_sem] theorem ty_78 : ldT Try.prog 12 = some none := by kernel_rfl
@[go_sem] theorem ty_79 : isSl Try.prog 12 = false := by kernel_rfl
@[go_sem] theorem ty_80 : isSt Try.prog 12 = false := by kernel_rfl
@[go_sem] theorem ty_81 : nif Try.prog 12 = true := by kernel_rfl
@[go_sem] theorem ty_82 : isIf Try.prog 12 = false := by kernel_rfl
@[go_sem] theorem ty_83 : isPt Try.prog 12 = false := by kernel_rfl
@[go_sem] theorem ty_84 : isBo Try.prog 12 = false := by kernel_rfl
@[go_sem] theorem ty_85 : slT Try.prog 12 = none := by kernel_rfl
@[go_sem] theorem ty_86 : zeroA Try.prog 12 = some (.int .u64 0) := by kernel_rfl
@[go_sem] theorem ty_87 : szT Try.prog 13 = some 2 := by kernel_rfl
@[go_sem] theorem ty_88 : byT Try.prog 13 = some 24 := by kernel_rfl
@[go_sem] theorem ty_89 : aggT Try.prog 13 = some true := by kernel_rfl
@[go_sem] theorem ty_90 : ldT Try.prog 13 = some (some 2) := by kernel_rfl
@[go_sem] theorem ty_91 : isSl Try.prog 13 = false := by kernel_rfl
@[go_sem] theorem ty_92 : isSt Try.prog 13 = false := by kernel_rfl
@[go_sem] theorem ty_93 : nif Try.prog 13 = true := by kernel_rfl
@[go_sem] theorem ty_94 : isIf Try.prog 13 = false := by kernel_rfl
@[go_sem] theorem ty_95 : isPt Try.prog 13 = false := by kernel_rfl
@[go_sem] theorem ty_96 : isBo Try.prog 13 = false := by kernel_rfl
@[go_sem] theorem ty_97 : slT Try.prog 13 = none := by kernel_rfl
@[go_sem] theorem ty_98 : zeroA Try.prog 13 = some (.agg [.str ⟨#[]⟩, .int .u64 0]) := by kernel_rfl
@[go_sem] theorem ty_99 : fAt Try.prog 13 0 = some 0 := by kernel_rfl
@[go_sem] theorem ty_100 : fLd Try.prog 13 0 = some (0, none) := by kernel_rfl
@[go_sem] theorem ty_101 : fAt Try.prog 13 1 = some 1 := by kernel_rfl
@[go_sem] theorem ty_102 : fLd Try.prog 13 1 = some (1, none) := by kernel_rfl
@[go_sem] theorem ty_103 : bldT Try.prog 13 = some (.inl [(0, 1), (1, 1)]) := by kernel_rfl
@[go_sem] theorem ty_104 : szT Try.prog 20 = some 1 := by kernel_rfl
@[go_sem] theorem ty_105 : byT Try.prog 20 = some 16 := by kernel_rfl
@[go_sem] theorem ty_106 : aggT Try.prog 20 = some false := by kernel_rfl
@[go_sem] theorem ty_107 : ldT Try.prog 20 = some none := by kernel_rfl
@[go_sem] theorem ty_108 : isSl Try.prog 20 = false := by kernel_rfl
@[go_sem] theorem ty_109 : isSt Try.prog 20 = false := by kernel_rfl
@[go_sem] theorem ty_110 : nif Try.prog 20 = false := by kernel_rfl
@[go_sem] theorem ty_111 : isIf Try.prog 20 = true := by kernel_rfl
@[go_sem] theorem ty_112 : isPt Try.prog 20 = false := by kernel_rfl
@[go_sem] theorem ty_113 : isBo Try.prog 20 = false := by kernel_rfl
@[go_sem] theorem ty_114 : slT Try.prog 20 = none := by kernel_rfl
@[go_sem] theorem ty_115 : zeroA Try.prog 20 = some (.nilIface) := by kernel_rfl
@[go_sem] theorem ty_116 : szT Try.prog 21 = some 1 := by kernel_rfl
@[go_sem] theorem ty_117 : byT Try.prog 21 = some 4 := by kernel_rfl
@[go_sem] theorem ty_118 : aggT Try.prog 21 = some false := by kernel_rfl
@[go_sem] theorem ty_119 : ldT Try.prog 21 = some none := by kernel_rfl
@[go_sem] theorem ty_120 : isSl Try.prog 21 = false := by kernel_rfl
@[go_sem] theorem ty_121 : isSt Try.prog 21 = false := by kernel_rfl
@[go_sem] theorem ty_122 : nif Try.prog 21 = true := by kernel_rfl
@[go_sem] theorem ty_123 : isIf Try.prog 21 = false := by kernel_rfl
@[go_sem] theorem ty_124 : isPt Try.prog 21 = false := by kernel_rfl
@[go_sem] theorem ty_125 : isBo Try.prog 21 = false := by kernel_rfl
@[go_sem] theorem ty_126 : slT Try.prog 21 = none := by kernel_rfl
@[go_sem] theorem ty_127 : zeroA Try.prog 21 = some (.int .i32 0) := by kernel_rfl
@[go_sem] theorem ty_128 : cvT Try.prog 21 5 = some (.int .u8) := by kernel_rfl
@[go_sem] theorem ty_129 : strK Try.prog 21 5 = none := by kernel_rfl
@[go_sem] theorem ty_130 : isTS Try.prog 21 5 = false := by kernel_rfl
@[go_sem] theorem ty_131 : cvT Try.prog 21 9 = some .str := by kernel_rfl
@[go_sem] theorem ty_132 : strK Try.prog 21 9 = some true := by kernel_rfl
@[go_sem] theorem ty_133 : isTS Try.prog 21 9 = false := by kernel_rfl
@[go_sem] theorem ty_134 : szT Try.prog 22 = some 1 := by kernel_rfl
@[go_sem] theorem ty_135 : byT Try.prog 22 = some 24 := by kernel_rfl
@[go_sem] theorem ty_136 : aggT Try.prog 22 = some false := by kernel_rfl
@[go_sem] theorem ty_137 : ldT Try.prog 22 = some none := by kernel_rfl
@[go_sem] theorem ty_138 : isSl Try.prog 22 = true := by kernel_rfl
@[go_sem] theorem ty_139 : isSt Try.prog 22 = false := by kernel_rfl
@[go_sem] theorem ty_140 : nif Try.prog 22 = true := by kernel_rfl
@[go_sem] theorem ty_141 : isIf Try.prog 22 = false := by kernel_rfl
@[go_sem] theorem ty_142 : isPt Try.prog 22 = false := by kernel_rfl
@[go_sem] theorem ty_143 : isBo Try.prog 22 = false := by kernel_rfl
@[go_sem] theorem ty_144 : slT Try.prog 22 = some 9 := by kernel_rfl
@[go_sem] theorem ty_145 : zeroA Try.prog 22 = some (.nilsl) := by kernel_rfl
@[go_sem] theorem ty_146 : apT Try.prog 22 22 = some (9, 1, 16) := by kernel_rfl
@[go_sem] theorem ty_147 : szT Try.prog 23 = some 1 := by kernel_rfl
@[go_sem] theorem ty_148 : byT Try.prog 23 = some 24 := by kernel_rfl
@[go_sem] theorem ty_149 : aggT Try.prog 23 = some false := by kernel_rfl
@[go_sem] theorem ty_150 : ldT Try.prog 23 = some none := by kernel_rfl
@[go_sem] theorem ty_151 : isSl Try.prog 23 = true := by kernel_rfl
@[go_sem] theorem ty_152 : isSt Try.prog 23 = false := by kernel_rfl
@[go_sem] theorem ty_153 : nif Try.prog 23 = true := by kernel_rfl
@[go_sem] theorem ty_154 : isIf Try.prog 23 = false := by kernel_rfl
@[go_sem] theorem ty_155 : isPt Try.prog 23 = false := by kernel_rfl
@[go_sem] theorem ty_156 : isBo Try.prog 23 = false := by kernel_rfl
@[go_sem] theorem ty_157 : slT Try.prog 23 = some 143 := by kernel_rfl
@[go_sem] theorem ty_158 : zeroA Try.prog 23 = some (.nilsl) := by kernel_rfl
@[go_sem] theorem ty_159 : apT Try.prog 23 23 = some (143, 2, 16) := by kernel_rfl
@[go_sem] theorem ty_160 : szT Try.prog 29 = some 1 := by kernel_rfl
@[go_sem] theorem ty_161 : byT Try.prog 29 = some 24 := by kernel_rfl
@[go_sem] theorem ty_162 : aggT Try.prog 29 = some false := by kernel_rfl
@[go_sem] theorem ty_163 : ldT Try.prog 29 = some none := by kernel_rfl
@[go_sem] theorem ty_164 : isSl Try.prog 29 = true := by kernel_rfl
@[go_sem] theorem ty_165 : isSt Try.prog 29 = false := by kernel_rfl
@[go_sem] theorem ty_166 : nif Try.prog 29 = true := by kernel_rfl
@[go_sem] theorem ty_167 : isIf Try.prog 29 = false := by kernel_rfl
@[go_sem] theorem ty_168 : isPt Try.prog 29 = false := by kernel_rfl
@[go_sem] theorem ty_169 : isBo Try.prog 29 = false := by kernel_rfl
@[go_sem] theorem ty_170 : slT Try.prog 29 = some 5 := by kernel_rfl
@[go_sem] theorem ty_171 : zeroA Try.prog 29 = some (.nilsl) := by kernel_rfl
@[go_sem] theorem ty_172 : apT Try.prog 29 29 = some (5, 1, 1) := by kernel_rfl
@[go_sem] theorem ty_173 : apT Try.prog 29 9 = some (5, 1, 1) := by kernel_rfl
@[go_sem] theorem ty_174 : cvT Try.prog 29 9 = some .str := by kernel_rfl
@[go_sem] theorem ty_175 : strK Try.prog 29 9 = some true := by kernel_rfl
@[go_sem] theorem ty_176 : isTS Try.prog 29 9 = true := by kernel_rfl
@[go_sem] theorem ty_177 : szT Try.prog 30 = some 1 := by kernel_rfl
@[go_sem] theorem ty_178 : byT Try.prog 30 = some 8 := by kernel_rfl
@[go_sem] theorem ty_179 : aggT Try.prog 30 = some false := by kernel_rfl
@[go_sem] theorem ty_180 : ldT Try.prog 30 = some none := by kernel_rfl
@[go_sem] theorem ty_181 : isSl Try.prog 30 = false := by kernel_rfl
@[go_sem] theorem ty_182 : isSt Try.prog 30 = false := by kernel_rfl
@[go_sem] theorem ty_183 : nif Try.prog 30 = true := by kernel_rfl
@[go_sem] theorem ty_184 : isIf Try.prog 30 = false := by kernel_rfl
@[go_sem] theorem ty_185 : isPt Try.prog 30 = false := by kernel_rfl
@[go_sem] theorem ty_186 : isBo Try.prog 30 = false := by kernel_rfl
@[go_sem] theorem ty_187 : slT Try.prog 30 = none := by kernel_rfl
@[go_sem] theorem ty_188 : zeroA Try.prog 30 = some (.int .i64 0) := by kernel_rfl
@[go_sem] theorem ty_189 : szT Try.prog 33 = some 1 := by kernel_rfl
@[go_sem] theorem ty_190 : byT Try.prog 33 = some 24 := by kernel_rfl
@[go_sem] theorem ty_191 : aggT Try.prog 33 = some false := by kernel_rfl
@[go_sem] theorem ty_192 : ldT Try.prog 33 = some none := by kernel_rfl
@[go_sem] theorem ty_193 : isSl Try.prog 33 = true := by kernel_rfl
@[go_sem] theorem ty_194 : isSt Try.prog 33 = false := by kernel_rfl
@[go_sem] theorem ty_195 : nif Try.prog 33 = true := by kernel_rfl
@[go_sem] theorem ty_196 : isIf Try.prog 33 = false := by kernel_rfl
@[go_sem] theorem ty_197 : isPt Try.prog 33 = false := by kernel_rfl
@[go_sem] theorem ty_198 : isBo Try.prog 33 = false := by kernel_rfl
@[go_sem] theorem ty_199 : slT Try.prog 33 = some 37 := by kernel_rfl
@[go_sem] theorem ty_200 : zeroA Try.prog 33 = some (.nilsl) := by kernel_rfl
@[go_sem] theorem ty_201 : apT Try.prog 33 33 = some (37, 2, 24) := by kernel_rfl
@[go_sem] theorem ty_202 : szT Try.prog 36 = some 2 := by kernel_rfl
@[go_sem] theorem ty_203 : byT Try.prog 36 = some 24 := by kernel_rfl
@[go_sem] theorem ty_204 : aggT Try.prog 36 = some true := by kernel_rfl
@[go_sem] theorem ty_205 : ldT Try.prog 36 = some (some 2) := by kernel_rfl
@[go_sem] theorem ty_206 : isSl Try.prog 36 = false := by kernel_rfl
@[go_sem] theorem ty_207 : isSt Try.prog 36 = false := by kernel_rfl
@[go_sem] theorem ty_208 : nif Try.prog 36 = true := by kernel_rfl
@[go_sem] theorem ty_209 : isIf Try.prog 36 = false := by kernel_rfl
@[go_sem] theorem ty_210 : isPt Try.prog 36 = false := by kernel_rfl
@[go_sem] theorem ty_211 : isBo Try.prog 36 = false := by kernel_rfl
@[go_sem] theorem ty_212 : slT Try.prog 36 = none := by kernel_rfl
@[go_sem] theorem ty_213 : zeroA Try.prog 36 = some (.agg [.str ⟨#[]⟩, .int .i64 0]) := by kernel_rfl
@[go_sem] theorem ty_214 : fAt Try.prog 36 0 = some 0 := by kernel_rfl
@[go_sem] theorem ty_215 : fLd Try.prog 36 0 = some (0, none) := by kernel_rfl
@[go_sem] theorem ty_216 : fAt Try.prog 36 1 = some 1 := by kernel_rfl
@[go_sem] theorem ty_217 : fLd Try.prog 36 1 = some (1, none) := by kernel_rfl
@[go_sem] theorem ty_218 : bldT Try.prog 36 = some (.inl [(0, 1), (1, 1)]) := by kernel_rfl
@[go_sem] theorem ty_219 : szT Try.prog 37 = some 2 := by kernel_rfl
@[go_sem] theorem ty_220 : byT Try.prog 37 = some 24 := by kernel_rfl
@[go_sem] theorem ty_221 : aggT Try.prog 37 = some true := by kernel_rfl
@[go_sem] theorem ty_222 : ldT Try.prog 37 = some (some 2) := by kernel_rfl
@[go_sem] theorem ty_223 : isSl Try.prog 37 = false := by kernel_rfl
@[go_sem] theorem ty_224 : isSt Try.prog 37 = false := by kernel_rfl
@[go_sem] theorem ty_225 : nif Try.prog 37 = true := by kernel_rfl
@[go_sem] theorem ty_226 : isIf Try.prog 37 = false := by kernel_rfl
@[go_sem] theorem ty_227 : isPt Try.prog 37 = false := by kernel_rfl
@[go_sem] theorem ty_228 : isBo Try.prog 37 = false := by kernel_rfl
@[go_sem] theorem ty_229 : slT Try.prog 37 = none := by kernel_rfl
@[go_sem] theorem ty_230 : zeroA Try.prog 37 = some (.agg [.str ⟨#[]⟩, .int .i64 0]) := by kernel_rfl
@[go_sem] theorem ty_231 : fAt Try.prog 37 0 = some 0 := by kernel_rfl
@[go_sem] theorem ty_232 : fLd Try.prog 37 0 = some (0, none) := by kernel_rfl
@[go_sem] theorem ty_233 : fAt Try.prog 37 1 = some 1 := by kernel_rfl
@[go_sem] theorem ty_234 : fLd Try.prog 37 1 = some (1, none) := by kernel_rfl
@[go_sem] theorem ty_235 : bldT Try.prog 37 = some (.inl [(0, 1), (1, 1)]) := by kernel_rfl
@[go_sem] theorem ty_236 : szT Try.prog 41 = some 1 := by kernel_rfl
@[go_sem] theorem ty_237 : byT Try.prog 41 = some 24 := by kernel_rfl
@[go_sem] theorem ty_238 : aggT Try.prog 41 = some false := by kernel_rfl
@[go_sem] theorem ty_239 : ldT Try.prog 41 = some none := by kernel_rfl
@[go_sem] theorem ty_240 : isSl Try.prog 41 = true := by kernel_rfl
@[go_sem] theorem ty_241 : isSt Try.prog 41 = false := by kernel_rfl
@[go_sem] theorem ty_242 : nif Try.prog 41 = true := by kernel_rfl
@[go_sem] theorem ty_243 : isIf Try.prog 41 = false := by kernel_rfl
@[go_sem] theorem ty_244 : isPt Try.prog 41 = false := by kernel_rfl
@[go_sem] theorem ty_245 : isBo Try.prog 41 = false := by kernel_rfl
@[go_sem] theorem ty_246 : slT Try.prog 41 = some 176 := by kernel_rfl
@[go_sem] theorem ty_247 : zeroA Try.prog 41 = some (.nilsl) := by kernel_rfl
@[go_sem] theorem ty_248 : apT Try.prog 41 41 = some (176, 3, 24) := by kernel_rfl
@[go_sem] theorem ty_249 : szT Try.prog 42 = some 7 := by kernel_rfl
@[go_sem] theorem ty_250 : byT Try.prog 42 = some 88 := by kernel_rfl
@[go_sem] theorem ty_251 : aggT Try.prog 42 = some true := by kernel_rfl
@[go_sem] theorem ty_252 : ldT Try.prog 42 = some (some 7) := by kernel_rfl
@[go_sem] theorem ty_253 : isSl Try.prog 42 = false := by kernel_rfl
@[go_sem] theorem ty_254 : isSt Try.prog 42 = false := by kernel_rfl
@[go_sem] theorem ty_255 : nif Try.prog 42 = true := by kernel_rfl
@[go_sem] theorem ty_256 : isIf Try.prog 42 = false := by kernel_rfl
@[go_sem] theorem ty_257 : isPt Try.prog 42 = false := by kernel_rfl
@[go_sem] theorem ty_258 : isBo Try.prog 42 = false := by kernel_rfl
@[go_sem] theorem ty_259 : slT Try.prog 42 = none := by kernel_rfl
@[go_sem] theorem ty_260 : zeroA Try.prog 42 = some (.agg [.int .i64 0, .int .i64 0, .int .i64 0, .int .i64 0, .int .i64 0, .nilsl, .nilsl]) := by kernel_rfl
@[go_sem] theorem ty_261 : fAt Try.prog 42 0 = some 0 := by kernel_rfl
@[go_sem] theorem ty_262 : fLd Try.prog 42 0 = some (0, none) := by kernel_rfl
@[go_sem] theorem ty_263 : fAt Try.prog 42 1 = some 1 := by kernel_rfl
@[go_sem] theorem ty_264 : fLd Try.prog 42 1 = some (1, none) := by kernel_rfl
@[go_sem] theorem ty_265 : fAt Try.prog 42 2 = some 2 := by kernel_rfl
@[go_sem] theorem ty_266 : fLd Try.prog 42 2 = some (2, none) := by kernel_rfl
@[go_sem] theorem ty_267 : fAt Try.prog 42 3 = some 3 := by kernel_rfl
@[go_sem] theorem ty_268 : fLd Try.prog 42 3 = some (3, none) := by kernel_rfl
@[go_sem] theorem ty_269 : fAt Try.prog 42 4 = some 4 := by kernel_rfl
@[go_sem] theorem ty_270 : fLd Try.prog 42 4 = some (4, none) := by kernel_rfl
@[go_sem] theorem ty_271 : fAt Try.prog 42 5 = some 5 := by kernel_rfl
@[go_sem] theorem ty_272 : fLd Try.prog 42 5 = some (5, none) := by kernel_rfl
@[go_sem] theorem ty_273 : fAt Try.prog 42 6 = some 6 := by kernel_rfl
@[go_sem] theorem ty_274 : fLd Try.prog 42 6 = some (6, none) := by kernel_rfl
@[go_sem] theorem ty_275 : bldT Try.prog 42 = some (.inl [(0, 1), (1, 1), (2, 1), (3, 1), (4, 1), (5, 1), (6, 1)]) := by kernel_rfl
@[go_sem] theorem ty_276 : szT Try.prog 43 = some 7 := by kernel_rfl
@[go_sem] theorem ty_277 : byT Try.prog 43 = some 88 := by kernel_rfl
@[go_sem] theorem ty_278 : aggT Try.prog 43 = some true := by kernel_rfl
@[go_sem] theorem ty_279 : ldT Try.prog 43 = some (some 7) := by kernel_rfl
@[go_sem] theorem ty_280 : isSl Try.prog 43 = false := by kernel_rfl
@[go_sem] theorem ty_281 : isSt Try.prog 43 = false := by kernel_rfl
@[go_sem] theorem ty_282 : nif Try.prog 43 = true := by kernel_rfl
@[go_sem] theorem ty_283 : isIf Try.prog 43 = false := by kernel_rfl
@[go_sem] theorem ty_284 : isPt Try.prog 43 = false := by kernel_rfl
@[go_sem] theorem ty_285 : isBo Try.prog 43 = false := by kernel_rfl
@[go_sem] theorem ty_286 : slT Try.prog 43 = none := by kernel_rfl
@[go_sem] theorem ty_287 : zeroA Try.prog 43 = some (.agg [.int .i64 0, .int .i64 0, .int .i64 0, .int .i64 0, .int .i64 0, .nilsl, .nilsl]) := by kernel_rfl
@[go_sem] theorem ty_288 : fAt Try.prog 43 0 = some 0 := by kernel_rfl
@[go_sem] theorem ty_289 : fLd Try.prog 43 0 = some (0, none) := by kernel_rfl
@[go_sem] theorem ty_290 : fAt Try.prog 43 1 = some 1 := by kernel_rfl
@[go_sem] theorem ty_291 : fLd Try.prog 43 1 = some (1, none) := by kernel_rfl
@[go_sem] theorem ty_292 : fAt Try.prog 43 2 = some 2 := by kernel_rfl
@[go_sem] theorem ty_293 : fLd Try.prog 43 2 = some (2, none) := by kernel_rfl
@[go_sem] theorem ty_294 : fAt Try.prog 43 3 = some 3 := by kernel_rfl
@[go_sem] theorem ty_295 : fLd Try.prog 43 3 = some (3, none) := by kernel_rfl
@[go_sem] theorem ty_296 : fAt Try.prog 43 4 = some 4 := by kernel_rfl
@[go_sem] theorem ty_297 : fLd Try.prog 43 4 = some (4, none) := by kernel_rfl
@[go_sem] theorem ty_298 : fAt Try.prog 43 5 = some 5 := by kernel_rfl
@[go_sem] theorem ty_299 : fLd Try.prog 43 5 = some (5, none) := by kernel_rfl
@[go_sem] theorem ty_300 : fAt Try.prog 43 6 = some 6 := by kernel_rfl
@[go_sem] theorem ty_301 : fLd Try.prog 43 6 = some (6, none) := by kernel_rfl
@[go_sem] theorem ty_302 : bldT Try.prog 43 = some (.inl [(0, 1), (1, 1), (2, 1), (3, 1), (4, 1), (5, 1), (6, 1)]) := by kernel_rfl
@[go_sem] theorem ty_303 : szT Try.prog 44 = some 2 := by kernel_rfl
@[go_sem] theorem ty_304 : byT Try.prog 44 = some 32 := by kernel_rfl
@[go_sem] theorem ty_305 : aggT Try.prog 44 = some true := by kernel_rfl
@[go_sem] theorem ty_306 : ldT Try.prog 44 = some (some 2) := by kernel_rfl
@[go_sem] theorem ty_307 : isSl Try.prog 44 = false := by kernel_rfl
@[go_sem] theorem ty_308 : isSt Try.prog 44 = false := by kernel_rfl
@[go_sem] theorem ty_309 : nif Try.prog 44 = true := by kernel_rfl
@[go_sem] theorem ty_310 : isIf Try.prog 44 = false := by kernel_rfl
@[go_sem] theorem ty_311 : isPt Try.prog 44 = false := by kernel_rfl
@[go_sem] theorem ty_312 : isBo Try.prog 44 = false := by kernel_rfl
@[go_sem] theorem ty_313 : slT Try.prog 44 = none := by kernel_rfl
@[go_sem] theorem ty_314 : zeroA Try.prog 44 = some (.agg [.int .i64 0, .nilsl]) := by kernel_rfl
@[go_sem] theorem ty_315 : fAt Try.prog 44 0 = some 0 := by kernel_rfl
@[go_sem] theorem ty_316 : fLd Try.prog 44 0 = some (0, none) := by kernel_rfl
@[go_sem] theorem ty_317 : fAt Try.prog 44 1 = some 1 := by kernel_rfl
@[go_sem] theorem ty_318 : fLd Try.prog 44 1 = some (1, none) := by kernel_rfl
@[go_sem] theorem ty_319 : bldT Try.prog 44 = some (.inl [(0, 1), (1, 1)]) := by kernel_rfl
@[go_sem] theorem ty_320 : szT Try.prog 45 = some 2 := by kernel_rfl
@[go_sem] theorem ty_321 : byT Try.prog 45 = some 32 := by kernel_rfl
@[go_sem] theorem ty_322 : aggT Try.prog 45 = some true := by kernel_rfl
@[go_sem] theorem ty_323 : ldT Try.prog 45 = some (some 2) := by kernel_rfl
@[go_sem] theorem ty_324 : isSl Try.prog 45 = false := by kernel_rfl
@[go_sem] theorem ty_325 : isSt Try.prog 45 = false := by kernel_rfl
@[go_sem] theorem ty_326 : nif Try.prog 45 = true := by kernel_rfl
@[go_sem] theorem ty_327 : isIf Try.prog 45 = false := by kernel_rfl
@[go_sem] theorem ty_328 : isPt Try.prog 45 = false := by kernel_rfl
@[go_sem] theorem ty_329 : isBo Try.prog 45 = false := by kernel_rfl
@[go_sem] theorem ty_330 : slT Try.prog 45 = none := by kernel_rfl
@[go_sem] theorem ty_331 : zeroA Try.prog 45 = some (.agg [.int .i64 0, .nilsl]) := by kernel_rfl
@[go_sem] theorem ty_332 : fAt Try.prog 45 0 = some 0 := by kernel_rfl
@[go_sem] theorem ty_333 : fLd Try.prog 45 0 = some (0, none) := by kernel_rfl
@[go_sem] theorem ty_334 : fAt Try.prog 45 1 = some 1 := by kernel_rfl
@[go_sem] theorem ty_335 : fLd Try.prog 45 1 = some (1, none) := by kernel_rfl
@[go_sem] theorem ty_336 : bldT Try.prog 45 = some (.inl [(0, 1), (1, 1)]) := by kernel_rfl
@[go_sem] theorem ty_337 : szT Try.prog 49 = some 3 := by kernel_rfl
@[go_sem] theorem ty_338 : byT Try.prog 49 = some 24 := by kernel_rfl
@[go_sem] theorem ty_339 : aggT Try.prog 49 = some true := by kernel_rfl
@[go_sem] theorem ty_340 : ldT Try.prog 49 = some (some 3) := by kernel_rfl
@[go_sem] theorem ty_341 : isSl Try.prog 49 = false := by kernel_rfl
@[go_sem] theorem ty_342 : isSt Try.prog 49 = false := by kernel_rfl
@[go_sem] theorem ty_343 : nif Try.prog 49 = true := by kernel_rfl
@[go_sem] theorem ty_344 : isIf Try.prog 49 = false := by kernel_rfl
@[go_sem] theorem ty_345 : isPt Try.prog 49 = false := by kernel_rfl
@[go_sem] theorem ty_346 : isBo Try.prog 49 = false := by kernel_rfl
@[go_sem] theorem ty_347 : slT Try.prog 49 = none := by kernel_rfl
@[go_sem] theorem ty_348 : zeroA Try.prog 49 = some (.agg [.int .i64 0, .int .i64 0, .int .i64 0]) := by kernel_rfl
@[go_sem] theorem ty_349 : bldT Try.prog 49 = some (.inr 1) := by kernel_rfl
@[go_sem] theorem ty_350 : szT Try.prog 51 = some 1 := by kernel_rfl
@[go_sem] theorem ty_351 : byT Try.prog 51 = some 8 := by kernel_rfl
@[go_sem] theorem ty_352 : aggT Try.prog 51 = some false := by kernel_rfl
@[go_sem] theorem ty_353 : ldT Try.prog 51 = some none := by kernel_rfl
@[go_sem] theorem ty_354 : isSl Try.prog 51 = false := by kernel_rfl
@[go_sem] theorem ty_355 : isSt Try.prog 51 = false := by kernel_rfl
@[go_sem] theorem ty_356 : nif Try.prog 51 = true := by kernel_rfl
@[go_sem] theorem ty_357 : isIf Try.prog 51 = false := by kernel_rfl
@[go_sem] theorem ty_358 : isPt Try.prog 51 = false := by kernel_rfl
@[go_sem] theorem ty_359 : isBo Try.prog 51 = false := by kernel_rfl
@[go_sem] theorem ty_360 : slT Try.prog 51 = none := by kernel_rfl
@[go_sem] theorem ty_361 : zeroA Try.prog 51 = some (.int .u64 0) := by kernel_rfl
@[go_sem] theorem ty_362 : cvT Try.prog 51 3 = some (.int .i64) := by kernel_rfl
@[go_sem] theorem ty_363 : strK Try.prog 51 3 = none := by kernel_rfl
@[go_sem] theorem ty_364 : isTS Try.prog 51 3 = false := by kernel_rfl
@[go_sem] theorem ty_365 : szT Try.prog 58 = some 1 := by kernel_rfl
@[go_sem] theorem ty_366 : byT Try.prog 58 = some 24 := by kernel_rfl
@[go_sem] theorem ty_367 : aggT Try.prog 58 = some false := by kernel_rfl
@[go_sem] theorem ty_368 : ldT Try.prog 58 = some none := by kernel_rfl
@[go_sem] theorem ty_369 : isSl Try.prog 58 = true := by kernel_rfl
@[go_sem] theorem ty_370 : isSt Try.prog 58 = false := by kernel_rfl
@[go_sem] theorem ty_371 : nif Try.prog 58 = true := by kernel_rfl
@[go_sem] theorem ty_372 : isIf Try.prog 58 = false := by kernel_rfl
@[go_sem] theorem ty_373 : isPt Try.prog 58 = false := by kernel_rfl
@[go_sem] theorem ty_374 : isBo Try.prog 58 = false := by kernel_rfl
@[go_sem] theorem ty_375 : slT Try.prog 58 = some 3 := by kernel_rfl
@[go_sem] theorem ty_376 : zeroA Try.prog 58 = some (.nilsl) := by kernel_rfl
@[go_sem] theorem ty_377 : apT Try.prog 58 58 = some (3, 1, 8) := by kernel_rfl
@[go_sem] theorem ty_378 : szT Try.prog 59 = some 1 := by kernel_rfl
@[go_sem] theorem ty_379 : byT Try.prog 59 = some 24 := by kernel_rfl
@[go_sem] theorem ty_380 : aggT Try.prog 59 = some false := by kernel_rfl
@[go_sem] theorem ty_381 : ldT Try.prog 59 = some none := by kernel_rfl
@[go_sem] theorem ty_382 : isSl Try.prog 59 = true := by kernel_rfl
@[go_sem] theorem ty_383 : isSt Try.prog 59 = false := by kernel_rfl
@[go_sem] theorem ty_384 : nif Try.prog 59 = true := by kernel_rfl
@[go_sem] theorem ty_385 : isIf Try.prog 59 = false := by kernel_rfl
@[go_sem] theorem ty_386 : isPt Try.prog 59 = false := by kernel_rfl
@[go_sem] theorem ty_387 : isBo Try.prog 59 = false := by kernel_rfl
@[go_sem] theorem ty_388 : slT Try.prog 59 = some 4 := by kernel_rfl
@[go_sem] theorem ty_389 : zeroA Try.prog 59 = some (.nilsl) := by kernel_rfl
@[go_sem] theorem ty_390 : apT Try.prog 59 59 = some (4, 1, 1) := by kernel_rfl
@[go_sem] theorem ty_391 : szT Try.prog 60 = some 6 := by kernel_rfl
@[go_sem] theorem ty_392 : byT Try.prog 60 = some 96 := by kernel_rfl
@[go_sem] theorem ty_393 : aggT Try.prog 60 = some true := by kernel_rfl
@[go_sem] theorem ty_394 : ldT Try.prog 60 = some (some 6) := by kernel_rfl
@[go_sem] theorem ty_395 : isSl Try.prog 60 = false := by kernel_rfl
@[go_sem] theorem ty_396 : isSt Try.prog 60 = false := by kernel_rfl
@[go_sem] theorem ty_397 : nif Try.prog 60 = true := by kernel_rfl
@[go_sem] theorem ty_398 : isIf Try.prog 60 = false := by kernel_rfl
@[go_sem] theorem ty_399 : isPt Try.prog 60 = false := by kernel_rfl
@[go_sem] theorem ty_400 : isBo Try.prog 60 = false := by kernel_rfl
@[go_sem] theorem ty_401 : slT Try.prog 60 = none := by kernel_rfl
@[go_sem] theorem ty_402 : zeroA Try.prog 60 = some (.agg [.int .i64 0, .int .i64 0, .int .i64 0, .nilsl, .nilsl, .nilsl]) := by kernel_rfl
@[go_sem] theorem ty_403 : fAt Try.prog 60 0 = some 0 := by kernel_rfl
@[go_sem] theorem ty_404 : fLd Try.prog 60 0 = some (0, none) := by kernel_rfl
@[go_sem] theorem ty_405 : fAt Try.prog 60 1 = some 1 := by kernel_rfl
@[go_sem] theorem ty_406 : fLd Try.prog 60 1 = some (1, none) := by kernel_rfl
@[go_sem] theorem ty_407 : fAt Try.prog 60 2 = some 2 := by kernel_rfl
@[go_sem] theorem ty_408 : fLd Try.prog 60 2 = some (2, none) := by kernel_rfl
@[go_sem] theorem ty_409 : fAt Try.prog 60 3 = some 3 := by kernel_rfl
@[go_sem] theorem ty_410 : fLd Try.prog 60 3 = some (3, none) := by kernel_rfl
@[go_sem] theorem ty_411 : fAt Try.prog 60 4 = some 4 := by kernel_rfl
@[go_sem] theorem ty_412 : fLd Try.prog 60 4 = some (4, none) := by kernel_rfl
@[go_sem] theorem ty_413 : fAt Try.prog 60 5 = some 5 := by kernel_rfl
@[go_sem] theorem ty_414 : fLd Try.prog 60 5 = some (5, none) := by kernel_rfl
@[go_sem] theorem ty_415 : bldT Try.prog 60 = some (.inl [(0, 1), (1, 1), (2, 1), (3, 1), (4, 1), (5, 1)]) := by kernel_rfl
@[go_sem] theorem ty_416 : szT Try.prog 61 = some 6 := by kernel_rfl
@[go_sem] theorem ty_417 : byT Try.prog 61 = some 96 := by kernel_rfl
@[go_sem] theorem ty_418 : aggT Try.prog 61 = some true := by kernel_rfl
@[go_sem] theorem ty_419 : ldT Try.prog 61 = some (some 6) := by kernel_rfl
@[go_sem] theorem ty_420 : isSl Try.prog 61 = false := by kernel_rfl
@[go_sem] theorem ty_421 : isSt Try.prog 61 = false := by kernel_rfl
@[go_sem] theorem ty_422 : nif Try.prog 61 = true := by kernel_rfl
@[go_sem] theorem ty_423 : isIf Try.prog 61 = false := by kernel_rfl
@[go_sem] theorem ty_424 : isPt Try.prog 61 = false := by kernel_rfl
@[go_sem] theorem ty_425 : isBo Try.prog 61 = false := by kernel_rfl
@[go_sem] theorem ty_426 : slT Try.prog 61 = none := by kernel_rfl
@[go_sem] theorem ty_427 : zeroA Try.prog 61 = some (.agg [.int .i64 0, .int .i64 0, .int .i64 0, .nilsl, .nilsl, .nilsl]) := by kernel_rfl
@[go_sem] theorem ty_428 : fAt Try.prog 61 0 = some 0 := by kernel_rfl
@[go_sem] theorem ty_429 : fLd Try.prog 61 0 = some (0, none) := by kernel_rfl
@[go_sem] theorem ty_430 : fAt Try.prog 61 1 = some 1 := by kernel_rfl
@[go_sem] theorem ty_431 : fLd Try.prog 61 1 = some (1, none) := by kernel_rfl
@[go_sem] theorem ty_432 : fAt Try.prog 61 2 = some 2 := by kernel_rfl
@[go_sem] theorem ty_433 : fLd Try.prog 61 2 = some (2, none) := by kernel_rfl
@[go_sem] theorem ty_434 : fAt Try.prog 61 3 = some 3 := by kernel_rfl
@[go_sem] theorem ty_435 : fLd Try.prog 61 3 = some (3, none) := by kernel_rfl
@[go_sem] theorem ty_436 : fAt Try.prog 61 4 = some 4 := by kernel_rfl
@[go_sem] theorem ty_437 : fLd Try.prog 61 4 = some (4, none) := by kernel_rfl
@[go_sem] theorem ty_438 : fAt Try.prog 61 5 = some 5 := by kernel_rfl
@[go_sem] theorem ty_439 : fLd Try.prog 61 5 = some (5, none) := by kernel_rfl
@[go_sem] theorem ty_440 : bldT Try.prog 61 = some (.inl [(0, 1), (1, 1), (2, 1), (3, 1), (4, 1), (5, 1)]) := by kernel_rfl
@[go_sem] theorem ty_441 : szT Try.prog 62 = some 2 := by kernel_rfl
@[go_sem] theorem ty_442 : byT Try.prog 62 = some 32 := by kernel_rfl
@[go_sem] theorem ty_443 : aggT Try.prog 62 = some true := by kernel_rfl
@[go_sem] theorem ty_444 : ldT Try.prog 62 = some (some 2) := by kernel_rfl
@[go_sem] theorem ty_445 : isSl Try.prog 62 = false := by kernel_rfl
@[go_sem] theorem ty_446 : isSt Try.prog 62 = false := by kernel_rfl
@[go_sem] theorem ty_447 : nif Try.prog 62 = true := by kernel_rfl
@[go_sem] theorem ty_448 : isIf Try.prog 62 = false := by kernel_rfl
@[go_sem] theorem ty_449 : isPt Try.prog 62 = false := by kernel_rfl
@[go_sem] theorem ty_450 : isBo Try.prog 62 = false := by kernel_rfl
@[go_sem] theorem ty_451 : slT Try.prog 62 = none := by kernel_rfl
@[go_sem] theorem ty_452 : zeroA Try.prog 62 = some (.agg [.int .i64 0, .nilsl]) := by kernel_rfl
@[go_sem] theorem ty_453 : fAt Try.prog 62 0 = some 0 := by kernel_rfl
@[go_sem] theorem ty_454 : fLd Try.prog 62 0 = some (0, none) := by kernel_rfl
@[go_sem] theorem ty_455 : fAt Try.prog 62 1 = some 1 := by kernel_rfl
@[go_sem] theorem ty_456 : fLd Try.prog 62 1 = some (1, none) := by kernel_rfl
@[go_sem] theorem ty_457 : bldT Try.prog 62 = some (.inl [(0, 1), (1, 1)]) := by kernel_rfl
@[go_sem] theorem ty_458 : szT Try.prog 63 = some 2 := by kernel_rfl
@[go_sem] theorem ty_459 : byT Try.prog 63 = some 32 := by kernel_rfl
@[go_sem] theorem ty_460 : aggT Try.prog 63 = some true := by kernel_rfl
@[go_sem] theorem ty_461 : ldT Try.prog 63 = some (some 2) := by kernel_rfl
@[go_sem] theorem ty_462 : isSl Try.prog 63 = false := by kernel_rfl
@[go_sem] theorem ty_463 : isSt Try.prog 63 = false := by kernel_rfl
@[go_sem] theorem ty_464 : nif Try.prog 63 = true := by kernel_rfl
@[go_sem] theorem ty_465 : isIf Try.prog 63 = false := by kernel_rfl
@[go_sem] theorem ty_466 : isPt Try.prog 63 = false := by kernel_rfl
@[go_sem] theorem ty_467 : isBo Try.prog 63 = false := by kernel_rfl
@[go_sem] theorem ty_468 : slT Try.prog 63 = none := by kernel_rfl
@[go_sem] theorem ty_469 : zeroA Try.prog 63 = some (.agg [.int .i64 0, .nilsl]) := by kernel_rfl
@[go_sem] theorem ty_470 : fAt Try.prog 63 0 = some 0 := by kernel_rfl
@[go_sem] theorem ty_471 : fLd Try.prog 63 0 = some (0, none) := by kernel_rfl
@[go_sem] theorem ty_472 : fAt Try.prog 63 1 = some 1 := by kernel_rfl
@[go_sem] theorem ty_473 : fLd Try.prog 63 1 = some (1, none) := by kernel_rfl
@[go_sem] theorem ty_474 : bldT Try.prog 63 = some (.inl [(0, 1), (1, 1)]) := by kernel_rfl
@[go_sem] theorem ty_475 : szT Try.prog 75 = some 1 := by kernel_rfl
@[go_sem] theorem ty_476 : byT Try.prog 75 = some 24 := by kernel_rfl
@[go_sem] theorem ty_477 : aggT Try.prog 75 = some false := by kernel_rfl
@[go_sem] theorem ty_478 : ldT Try.prog 75 = some none := by kernel_rfl
@[go_sem] theorem ty_479 : isSl Try.prog 75 = true := by kernel_rfl
@[go_sem] theorem ty_480 : isSt Try.prog 75 = false := by kernel_rfl
@[go_sem] theorem ty_481 : nif Try.prog 75 = true := by kernel_rfl
@[go_sem] theorem ty_482 : isIf Try.prog 75 = false := by kernel_rfl
@[go_sem] theorem ty_483 : isPt Try.prog 75 = false := by kernel_rfl
@[go_sem] theorem ty_484 : isBo Try.prog 75 = false := by kernel_rfl
@[go_sem] theorem ty_485 : slT Try.prog 75 = some 80 := by kernel_rfl
@[go_sem] theorem ty_486 : zeroA Try.prog 75 = some (.nilsl) := by kernel_rfl
@[go_sem] theorem ty_487 : apT Try.prog 75 75 = some (80, 5, 40) := by kernel_rfl
@[go_sem] theorem ty_488 : szT Try.prog 77 = some 4 := by kernel_rfl
@[go_sem] theorem ty_489 : byT Try.prog 77 = some 32 := by kernel_rfl
@[go_sem] theorem ty_490 : aggT Try.prog 77 = some true := by kernel_rfl
@[go_sem] theorem ty_491 : ldT Try.prog 77 = some (some 4) := by kernel_rfl
@[go_sem] theorem ty_492 : isSl Try.prog 77 = false := by kernel_rfl
@[go_sem] theorem ty_493 : isSt Try.prog 77 = false := by kernel_rfl
@[go_sem] theorem ty_494 : nif Try.prog 77 = true := by kernel_rfl
@[go_sem] theorem ty_495 : isIf Try.prog 77 = false := by kernel_rfl
@[go_sem] theorem ty_496 : isPt Try.prog 77 = false := by kernel_rfl
@[go_sem] theorem ty_497 : isBo Try.prog 77 = false := by kernel_rfl
@[go_sem] theorem ty_498 : slT Try.prog 77 = none := by kernel_rfl
@[go_sem] theorem ty_499 : zeroA Try.prog 77 = some (.agg [.int .i64 0, .int .i64 0, .int .i64 0, .int .i64 0]) := by kernel_rfl
@[go_sem] theorem ty_500 : fAt Try.prog 77 0 = some 0 := by kernel_rfl
@[go_sem] theorem ty_501 : fLd Try.prog 77 0 = some (0, none) := by kernel_rfl
@[go_sem] theorem ty_502 : fAt Try.prog 77 1 = some 1 := by kernel_rfl
@[go_sem] theorem ty_503 : fLd Try.prog 77 1 = some (1, none) := by kernel_rfl
@[go_sem] theorem ty_504 : fAt Try.prog 77 2 = some 2 := by kernel_rfl
@[go_sem] theorem ty_505 : fLd Try.prog 77 2 = some (2, none) := by kernel_rfl
@[go_sem] theorem ty_506 : fAt Try.prog 77 3 = some 3 := by kernel_rfl
@[go_sem] theorem ty_507 : fLd Try.prog 77 3 = some (3, none) := by kernel_rfl
@[go_sem] theorem ty_508 : bldT Try.prog 77 = some (.inl [(0, 1), (1, 1), (2, 1), (3, 1)]) := by kernel_rfl
@[go_sem] theorem ty_509 : szT Try.prog 78 = some 4 := by kernel_rfl
@[go_sem] theorem ty_510 : byT Try.prog 78 = some 32 := by kernel_rfl
@[go_sem] theorem ty_511 : aggT Try.prog 78 = some true := by kernel_rfl
@[go_sem] theorem ty_512 : ldT Try.prog 78 = some (some 4) := by kernel_rfl
@[go_sem] theorem ty_513 : isSl Try.prog 78 = false := by kernel_rfl
@[go_sem] theorem ty_514 : isSt Try.prog 78 = false := by kernel_rfl
@[go_sem] theorem ty_515 : nif Try.prog 78 = true := by kernel_rfl
@[go_sem] theorem ty_516 : isIf Try.prog 78 = false := by kernel_rfl
@[go_sem] theorem ty_517 : isPt Try.prog 78 = false := by kernel_rfl
@[go_sem] theorem ty_518 : isBo Try.prog 78 = false := by kernel_rfl
@[go_sem] theorem ty_519 : slT Try.prog 78 = none := by kernel_rfl
@[go_sem] theorem ty_520 : zeroA Try.prog 78 = some (.agg [.int .i64 0, .int .i64 0, .int .i64 0, .int .i64 0]) := by kernel_rfl
@[go_sem] theorem ty_521 : fAt Try.prog 78 0 = some 0 := by kernel_rfl
@[go_sem] theorem ty_522 : fLd Try.prog 78 0 = some (0, none) := by kernel_rfl
@[go_sem] theorem ty_523 : fAt Try.prog 78 1 = some 1 := by kernel_rfl
@[go_sem] theorem ty_524 : fLd Try.prog 78 1 = some (1, none) := by kernel_rfl
@[go_sem] theorem ty_525 : fAt Try.prog 78 2 = some 2 := by kernel_rfl
@[go_sem] theorem ty_526 : fLd Try.prog 78 2 = some (2, none) := by kernel_rfl
@[go_sem] theorem ty_527 : fAt Try.prog 78 3 = some 3 := by kernel_rfl
@[go_sem] theorem ty_528 : fLd Try.prog 78 3 = some (3, none) := by kernel_rfl
@[go_sem] theorem ty_529 : bldT Try.prog 78 = some (.inl [(0, 1), (1, 1), (2, 1), (3, 1)]) := by kernel_rfl
@[go_sem] theorem ty_530 : szT Try.prog 79 = some 5 := by kernel_rfl
@[go_sem] theorem ty_531 : byT Try.prog 79 = some 40 := by kernel_rfl
@[go_sem] theorem ty_532 : aggT Try.prog 79 = some true := by kernel_rfl
@[go_sem] theorem ty_533 : ldT Try.prog 79 = some (some 5) := by kernel_rfl
@[go_sem] theorem ty_534 : isSl Try.prog 79 = false := by kernel_rfl
@[go_sem] theorem ty_535 : isSt Try.prog 79 = false := by kernel_rfl
@[go_sem] theorem ty_536 : nif Try.prog 79 = true := by kernel_rfl
@[go_sem] theorem ty_537 : isIf Try.prog 79 = false := by kernel_rfl
@[go_sem] theorem ty_538 : isPt Try.prog 79 = false := by kernel_rfl
@[go_sem] theorem ty_539 : isBo Try.prog 79 = false := by kernel_rfl
@[go_sem] theorem ty_540 : slT Try.prog 79 = none := by kernel_rfl
@[go_sem] theorem ty_541 : zeroA Try.prog 79 = some (.agg [.int .i64 0, .int .i64 0, .int .i64 0, .int .i64 0, .int .i64 0]) := by kernel_rfl
@[go_sem] theorem ty_542 : fAt Try.prog 79 0 = some 0 := by kernel_rfl
@[go_sem] theorem ty_543 : fLd Try.prog 79 0 = some (0, none) := by kernel_rfl
@[go_sem] theorem ty_544 : fAt Try.prog 79 1 = some 1 := by kernel_rfl
@[go_sem] theorem ty_545 : fLd Try.prog 79 1 = some (1, some 4) := by kernel_rfl
@[go_sem] theorem ty_546 : bldT Try.prog 79 = some (.inl [(0, 1), (1, 4)]) := by kernel_rfl
@[go_sem] theorem ty_547 : szT Try.prog 80 = some 5 := by kernel_rfl
@[go_sem] theorem ty_548 : byT Try.prog 80 = some 40 := by kernel_rfl
@[go_sem] theorem ty_549 : aggT Try.prog 80 = some true := by kernel_rfl
@[go_sem] theorem ty_550 : ldT Try.prog 80 = some (some 5) := by kernel_rfl
@[go_sem] theorem ty_551 : isSl Try.prog 80 = false := by kernel_rfl
@[go_sem] theorem ty_552 : isSt Try.prog 80 = false := by kernel_rfl
@[go_sem] theorem ty_553 : nif Try.prog 80 = true := by kernel_rfl
@[go_sem] theorem ty_554 : isIf Try.prog 80 = false := by kernel_rfl
@[go_sem] theorem ty_555 : isPt Try.prog 80 = false := by kernel_rfl
@[go_sem] theorem ty_556 : isBo Try.prog 80 = false := by kernel_rfl
@[go_sem] theorem ty_557 : slT Try.prog 80 = none := by kernel_rfl
@[go_sem] theorem ty_558 : zeroA Try.prog 80 = some (.agg [.int .i64 0, .int .i64 0, .int .i64 0, .int .i64 0, .int .i64 0]) := by kernel_rfl
@[go_sem] theorem ty_559 : fAt Try.prog 80 0 = some 0 := by kernel_rfl
@[go_sem] theorem ty_560 : fLd Try.prog 80 0 = some (0, none) := by kernel_rfl
@[go_sem] theorem ty_561 : fAt Try.prog 80 1 = some 1 := by kernel_rfl
@[go_sem] theorem ty_562 : fLd Try.prog 80 1 = some (1, some 4) := by kernel_rfl
@[go_sem] theorem ty_563 : bldT Try.prog 80 = some (.inl [(0, 1), (1, 4)]) := by kernel_rfl
@[go_sem] theorem ty_564 : szT Try.prog 82 = some 1 := by kernel_rfl
@[go_sem] theorem ty_565 : byT Try.prog 82 = some 24 := by kernel_rfl
@[go_sem] theorem ty_566 : aggT Try.prog 82 = some false := by kernel_rfl
@[go_sem] theorem ty_567 : ldT Try.prog 82 = some none := by kernel_rfl
@[go_sem] theorem ty_568 : isSl Try.prog 82 = true := by kernel_rfl
@[go_sem] theorem ty_569 : isSt Try.prog 82 = false := by kernel_rfl
@[go_sem] theorem ty_570 : nif Try.prog 82 = true := by kernel_rfl
@[go_sem] theorem ty_571 : isIf Try.prog 82 = false := by kernel_rfl
@[go_sem] theorem ty_572 : isPt Try.prog 82 = false := by kernel_rfl
@[go_sem] theorem ty_573 : isBo Try.prog 82 = false := by kernel_rfl
@[go_sem] theorem ty_574 : slT Try.prog 82 = some 51 := by kernel_rfl
@[go_sem] theorem ty_575 : zeroA Try.prog 82 = some (.nilsl) := by kernel_rfl
@[go_sem] theorem ty_576 : apT Try.prog 82 82 = some (51, 1, 8) := by kernel_rfl
@[go_sem] theorem ty_577 : szT Try.prog 84 = some 1 := by kernel_rfl
@[go_sem] theorem ty_578 : byT Try.prog 84 = some 24 := by kernel_rfl
@[go_sem] theorem ty_579 : aggT Try.prog 84 = some false := by kernel_rfl
@[go_sem] theorem ty_580 : ldT Try.prog 84 = some none := by kernel_rfl
@[go_sem] theorem ty_581 : isSl Try.prog 84 = true := by kernel_rfl
@[go_sem] theorem ty_582 : isSt Try.prog 84 = false := by kernel_rfl
@[go_sem] theorem ty_583 : nif Try.prog 84 = true := by kernel_rfl
@[go_sem] theorem ty_584 : isIf Try.prog 84 = false := by kernel_rfl
@[go_sem] theorem ty_585 : isPt Try.prog 84 = false := by kernel_rfl
@[go_sem] theorem ty_586 : isBo Try.prog 84 = false := by kernel_rfl
@[go_sem] theorem ty_587 : slT Try.prog 84 = some 61 := by kernel_rfl
@[go_sem] theorem ty_588 : zeroA Try.prog 84 = some (.nilsl) := by kernel_rfl
@[go_sem] theorem ty_589 : apT Try.prog 84 84 = some (61, 6, 96) := by kernel_rfl
@[go_sem] theorem ty_590 : szT Try.prog 86 = some 1 := by kernel_rfl
@[go_sem] theorem ty_591 : byT Try.prog 86 = some 8 := by kernel_rfl
@[go_sem] theorem ty_592 : aggT Try.prog 86 = some false := by kernel_rfl
@[go_sem] theorem ty_593 : ldT Try.prog 86 = some none := by kernel_rfl
@[go_sem] theorem ty_594 : isSl Try.prog 86 = false := by kernel_rfl
@[go_sem] theorem ty_595 : isSt Try.prog 86 = false := by kernel_rfl
@[go_sem] theorem ty_596 : nif Try.prog 86 = true := by kernel_rfl
@[go_sem] theorem ty_597 : isIf Try.prog 86 = false := by kernel_rfl
@[go_sem] theorem ty_598 : isPt Try.prog 86 = true := by kernel_rfl
@[go_sem] theorem ty_599 : ptrT Try.prog 86 = true := by kernel_rfl
@[go_sem] theorem ty_600 : isBo Try.prog 86 = false := by kernel_rfl
@[go_sem] theorem ty_601 : slT Try.prog 86 = none := by kernel_rfl
@[go_sem] theorem ty_602 : zeroA Try.prog 86 = some (.nilptr) := by kernel_rfl
@[go_sem] theorem ty_603 : methA Try.prog 86 "Below" = some 199 := by kernel_rfl
@[go_sem] theorem ty_604 : methA Try.prog 86 "Left" = some 71 := by kernel_rfl
@[go_sem] theorem ty_605 : methA Try.prog 86 "Next" = some 232 := by kernel_rfl
@[go_sem] theorem ty_606 : methA Try.prog 86 "Some" = some 125 := by kernel_rfl
@[go_sem] theorem ty_607 : szT Try.prog 92 = some 1 := by kernel_rfl
@[go_sem] theorem ty_608 : byT Try.prog 92 = some 24 := by kernel_rfl
@[go_sem] theorem ty_609 : aggT Try.prog 92 = some false := by kernel_rfl
@[go_sem] theorem ty_610 : ldT Try.prog 92 = some none := by kernel_rfl
@[go_sem] theorem ty_611 : isSl Try.prog 92 = true := by kernel_rfl
@[go_sem] theorem ty_612 : isSt Try.prog 92 = false := by kernel_rfl
@[go_sem] theorem ty_613 : nif Try.prog 92 = true := by kernel_rfl
@[go_sem] theorem ty_614 : isIf Try.prog 92 = false := by kernel_rfl
@[go_sem] theorem ty_615 : isPt Try.prog 92 = false := by kernel_rfl
@[go_sem] theorem ty_616 : isBo Try.prog 92 = false := by kernel_rfl
@[go_sem] theorem ty_617 : slT Try.prog 92 = some 101 := by kernel_rfl
@[go_sem] theorem ty_618 : zeroA Try.prog 92 = some (.nilsl) := by kernel_rfl
@[go_sem] theorem ty_619 : apT Try.prog 92 92 = some (101, 7, 72) := by kernel_rfl
@[go_sem] theorem ty_620 : szT Try.prog 93 = some 1 := by kernel_rfl
@[go_sem] theorem ty_621 : byT Try.prog 93 = some 2 := by kernel_rfl
@[go_sem] theorem ty_622 : aggT Try.prog 93 = some false := by kernel_rfl
@[go_sem] theorem ty_623 : ldT Try.prog 93 = some none := by kernel_rfl
@[go_sem] theorem ty_624 : isSl Try.prog 93 = false := by kernel_rfl
@[go_sem] theorem ty_625 : isSt Try.prog 93 = false := by kernel_rfl
@[go_sem] theorem ty_626 : nif Try.prog 93 = true := by kernel_rfl
@[go_sem] theorem ty_627 : isIf Try.prog 93 = false := by kernel_rfl
@[go_sem] theorem ty_628 : isPt Try.prog 93 = false := by kernel_rfl
@[go_sem] theorem ty_629 : isBo Try.prog 93 = false := by kernel_rfl
@[go_sem] theorem ty_630 : slT Try.prog 93 = none := by kernel_rfl
@[go_sem] theorem ty_631 : zeroA Try.prog 93 = some (.int .u16 0) := by kernel_rfl
@[go_sem] theorem ty_632 : cvT Try.prog 93 3 = some (.int .i64) := by kernel_rfl
@[go_sem] theorem ty_633 : strK Try.prog 93 3 = none := by kernel_rfl
@[go_sem] theorem ty_634 : isTS Try.prog 93 3 = false := by kernel_rfl
@[go_sem] theorem ty_635 : szT Try.prog 95 = some 1 := by kernel_rfl
@[go_sem] theorem ty_636 : byT Try.prog 95 = some 8 := by kernel_rfl
@[go_sem] theorem ty_637 : aggT Try.prog 95 = some false := by kernel_rfl
@[go_sem] theorem ty_638 : ldT Try.prog 95 = some none := by kernel_rfl
@[go_sem] theorem ty_639 : isSl Try.prog 95 = false := by kernel_rfl
@[go_sem] theorem ty_640 : isSt Try.prog 95 = false := by kernel_rfl
@[go_sem] theorem ty_641 : nif Try.prog 95 = true := by kernel_rfl
@[go_sem] theorem ty_642 : isIf Try.prog 95 = false := by kernel_rfl
@[go_sem] theorem ty_643 : isPt Try.prog 95 = true := by kernel_rfl
@[go_sem] theorem ty_644 : ptrT Try.prog 95 = true := by kernel_rfl
@[go_sem] theorem ty_645 : isBo Try.prog 95 = false := by kernel_rfl
@[go_sem] theorem ty_646 : slT Try.prog 95 = none := by kernel_rfl
@[go_sem] theorem ty_647 : zeroA Try.prog 95 = some (.nilptr) := by kernel_rfl
@[go_sem] theorem ty_648 : methA Try.prog 95 "Append" = some 132 := by kernel_rfl
@[go_sem] theorem ty_649 : methA Try.prog 95 "Bytes" = some 130 := by kernel_rfl
@[go_sem] theorem ty_650 : methA Try.prog 95 "Cut" = some 131 := by kernel_rfl
@[go_sem] theorem ty_651 : methA Try.prog 95 "Free" = some 203 := by kernel_rfl
@[go_sem] theorem ty_652 : methA Try.prog 95 "Fuse" = some 64 := by kernel_rfl
@[go_sem] theorem ty_653 : methA Try.prog 95 "Size" = some 128 := by kernel_rfl
@[go_sem] theorem ty_654 : szT Try.prog 97 = some 1 := by kernel_rfl
@[go_sem] theorem ty_655 : byT Try.prog 97 = some 8 := by kernel_rfl
@[go_sem] theorem ty_656 : aggT Try.prog 97 = some false := by kernel_rfl
@[go_sem] theorem ty_657 : ldT Try.prog 97 = some none := by kernel_rfl
@[go_sem] theorem ty_658 : isSl Try.prog 97 = false := by kernel_rfl
@[go_sem] theorem ty_659 : isSt Try.prog 97 = false := by kernel_rfl
@[go_sem] theorem ty_660 : nif Try.prog 97 = true := by kernel_rfl
@[go_sem] theorem ty_661 : isIf Try.prog 97 = false := by kernel_rfl
@[go_sem] theorem ty_662 : isPt Try.prog 97 = true := by kernel_rfl
@[go_sem] theorem ty_663 : ptrT Try.prog 97 = true := by kernel_rfl
@[go_sem] theorem ty_664 : isBo Try.prog 97 = false := by kernel_rfl
@[go_sem] theorem ty_665 : slT Try.prog 97 = none := by kernel_rfl
@[go_sem] theorem ty_666 : zeroA Try.prog 97 = some (.nilptr) := by kernel_rfl
@[go_sem] theorem ty_667 : methA Try.prog 97 "Append" = some 62 := by kernel_rfl
@[go_sem] theorem ty_668 : methA Try.prog 97 "Down" = some 68 := by kernel_rfl
@[go_sem] theorem ty_669 : methA Try.prog 97 "Len" = some 127 := by kernel_rfl
@[go_sem] theorem ty_670 : methA Try.prog 97 "Records" = some 67 := by kernel_rfl
@[go_sem] theorem ty_671 : szT Try.prog 100 = some 7 := by kernel_rfl
@[go_sem] theorem ty_672 : byT Try.prog 100 = some 72 := by kernel_rfl
@[go_sem] theorem ty_673 : aggT Try.prog 100 = some true := by kernel_rfl
@[go_sem] theorem ty_674 : ldT Try.prog 100 = some (some 7) := by kernel_rfl
@[go_sem] theorem ty_675 : isSl Try.prog 100 = false := by kernel_rfl
@[go_sem] theorem ty_676 : isSt Try.prog 100 = false := by kernel_rfl
@[go_sem] theorem ty_677 : nif Try.prog 100 = true := by kernel_rfl
@[go_sem] theorem ty_678 : isIf Try.prog 100 = false := by kernel_rfl
@[go_sem] theorem ty_679 : isPt Try.prog 100 = false := by kernel_rfl
@[go_sem] theorem ty_680 : isBo Try.prog 100 = false := by kernel_rfl
@[go_sem] theorem ty_681 : slT Try.prog 100 = none := by kernel_rfl
@[go_sem] theorem ty_682 : zeroA Try.prog 100 = some (.agg [.int .i64 0, .int .i64 0, .int .i64 0, .int .i64 0, .int .i64 0, .int .i64 0, .nilsl]) := by kernel_rfl
@[go_sem] theorem ty_683 : fAt Try.prog 100 0 = some 0 := by kernel_rfl
@[go_sem] theorem ty_684 : fLd Try.prog 100 0 = some (0, none) := by kernel_rfl
@[go_sem] theorem ty_685 : fAt Try.prog 100 1 = some 1 := by kernel_rfl
@[go_sem] theorem ty_686 : fLd Try.prog 100 1 = some (1, none) := by kernel_rfl
@[go_sem] theorem ty_687 : fAt Try.prog 100 2 = some 2 := by kernel_rfl
@[go_sem] theorem ty_688 : fLd Try.prog 100 2 = some (2, none) := by kernel_rfl
@[go_sem] theorem ty_689 : fAt Try.prog 100 3 = some 3 := by kernel_rfl
@[go_sem] theorem ty_690 : fLd Try.prog 100 3 = some (3, none) := by kernel_rfl
@[go_sem] theorem ty_691 : fAt Try.prog 100 4 = some 4 := by kernel_rfl
@[go_sem] theorem ty_692 : fLd Try.prog 100 4 = some (4, none) := by kernel_rfl
@[go_sem] theorem ty_693 : fAt Try.prog 100 5 = some 5 := by kernel_rfl
@[go_sem] theorem ty_694 : fLd Try.prog 100 5 = some (5, none) := by kernel_rfl
@[go_sem] theorem ty_695 : fAt Try.prog 100 6 = some 6 := by kernel_rfl
@[go_sem] theorem ty_696 : fLd Try.prog 100 6 = some (6, none) := by kernel_rfl
@[go_sem] theorem ty_697 : bldT Try.prog 100 = some (.inl [(0, 1), (1, 1), (2, 1), (3, 1), (4, 1), (5, 1), (6, 1)]) := by kernel_rfl
@[go_sem] theorem ty_698 : szT Try.prog 101 = some 7 := by kernel_rfl
@[go_sem] theorem ty_699 : byT Try.prog 101 = some 72 := by kernel_rfl
@[go_sem] theorem ty_700 : aggT Try.prog 101 = some true := by kernel_rfl
@[go_sem] theorem ty_701 : ldT Try.prog 101 = some (some 7) := by kernel_rfl
@[go_sem] theorem ty_702 : isSl Try.prog 101 = false := by kernel_rfl
@[go_sem] theorem ty_703 : isSt Try.prog 101 = false := by kernel_rfl
@[go_sem] theorem ty_704 : nif Try.prog 101 = true := by kernel_rfl
@[go_sem] theorem ty_705 : isIf Try.prog 101 = false := by kernel_rfl
@[go_sem] theorem ty_706 : isPt Try.prog 101 = false := by kernel_rfl
@[go_sem] theorem ty_707 : isBo Try.prog 101 = false := by kernel_rfl
@[go_sem] theorem ty_708 : slT Try.prog 101 = none := by kernel_rfl
@[go_sem] theorem ty_709 : zeroA Try.prog 101 = some (.agg [.int .i64 0, .int .i64 0, .int .i64 0, .int .i64 0, .int .i64 0, .int .i64 0, .nilsl]) := by kernel_rfl
@[go_sem] theorem ty_710 : fAt Try.prog 101 0 = some 0 := by kernel_rfl
@[go_sem] theorem ty_711 : fLd Try.prog 101 0 = some (0, none) := by kernel_rfl
@[go_sem] theorem ty_712 : fAt Try.prog 101 1 = some 1 := by kernel_rfl
@[go_sem] theorem ty_713 : fLd Try.prog 101 1 = some (1, none) := by kernel_rfl
@[go_sem] theorem ty_714 : fAt Try.prog 101 2 = some 2 := by kernel_rfl
@[go_sem] theorem ty_715 : fLd Try.prog 101 2 = some (2, none) := by kernel_rfl
@[go_sem] theorem ty_716 : fAt Try.prog 101 3 = some 3 := by kernel_rfl
@[go_sem] theorem ty_717 : fLd Try.prog 101 3 = some (3, none) := by kernel_rfl
@[go_sem] theorem ty_718 : fAt Try.prog 101 4 = some 4 := by kernel_rfl
@[go_sem] theorem ty_719 : fLd Try.prog 101 4 = some (4, none) := by kernel_rfl
@[go_sem] theorem ty_720 : fAt Try.prog 101 5 = some 5 := by kernel_rfl
@[go_sem] theorem ty_721 : fLd Try.prog 101 5 = some (5, none) := by kernel_rfl
@[go_sem] theorem ty_722 : fAt Try.prog 101 6 = some 6 := by kernel_rfl
@[go_sem] theorem ty_723 : fLd Try.prog 101 6 = some (6, none) := by kernel_rfl
@[go_sem] theorem ty_724 : bldT Try.prog 101 = some (.inl [(0, 1), (1, 1), (2, 1), (3, 1), (4, 1), (5, 1), (6, 1)]) := by kernel_rfl
@[go_sem] theorem ty_725 : szT Try.prog 126 = some 1 := by kernel_rfl
@[go_sem] theorem ty_726 : byT Try.prog 126 = some 8 := by kernel_rfl
@[go_sem] theorem ty_727 : aggT Try.prog 126 = some false := by kernel_rfl
@[go_sem] theorem ty_728 : ldT Try.prog 126 = some none := by kernel_rfl
@[go_sem] theorem ty_729 : isSl Try.prog 126 = false := by kernel_rfl
@[go_sem] theorem ty_730 : isSt Try.prog 126 = false := by kernel_rfl
@[go_sem] theorem ty_731 : nif Try.prog 126 = true := by kernel_rfl
@[go_sem] theorem ty_732 : isIf Try.prog 126 = false := by kernel_rfl
@[go_sem] theorem ty_733 : isPt Try.prog 126 = true := by kernel_rfl
@[go_sem] theorem ty_734 : ptrT Try.prog 126 = true := by kernel_rfl
@[go_sem] theorem ty_735 : isBo Try.prog 126 = false := by kernel_rfl
@[go_sem] theorem ty_736 : slT Try.prog 126 = none := by kernel_rfl
@[go_sem] theorem ty_737 : zeroA Try.prog 126 = some (.nilptr) := by kernel_rfl
@[go_sem] theorem ty_738 : methA Try.prog 126 "Book" = some 87 := by kernel_rfl
@[go_sem] theorem ty_739 : methA Try.prog 126 "Down" = some 90 := by kernel_rfl
@[go_sem] theorem ty_740 : methA Try.prog 126 "Kept" = some 86 := by kernel_rfl
@[go_sem] theorem ty_741 : methA Try.prog 126 "Put" = some 85 := by kernel_rfl
@[go_sem] theorem ty_742 : szT Try.prog 137 = some 1 := by kernel_rfl
@[go_sem] theorem ty_743 : byT Try.prog 137 = some 24 := by kernel_rfl
@[go_sem] theorem ty_744 : aggT Try.prog 137 = some false := by kernel_rfl
@[go_sem] theorem ty_745 : ldT Try.prog 137 = some none := by kernel_rfl
@[go_sem] theorem ty_746 : isSl Try.prog 137 = true := by kernel_rfl
@[go_sem] theorem ty_747 : isSt Try.prog 137 = false := by kernel_rfl
@[go_sem] theorem ty_748 : nif Try.prog 137 = true := by kernel_rfl
@[go_sem] theorem ty_749 : isIf Try.prog 137 = false := by kernel_rfl
@[go_sem] theorem ty_750 : isPt Try.prog 137 = false := by kernel_rfl
@[go_sem] theorem ty_751 : isBo Try.prog 137 = false := by kernel_rfl
@[go_sem] theorem ty_752 : slT Try.prog 137 = some 45 := by kernel_rfl
@[go_sem] theorem ty_753 : zeroA Try.prog 137 = some (.nilsl) := by kernel_rfl
@[go_sem] theorem ty_754 : apT Try.prog 137 137 = some (45, 2, 32) := by kernel_rfl
@[go_sem] theorem ty_755 : szT Try.prog 138 = some 4 := by kernel_rfl
@[go_sem] theorem ty_756 : byT Try.prog 138 = some 32 := by kernel_rfl
@[go_sem] theorem ty_757 : aggT Try.prog 138 = some true := by kernel_rfl
@[go_sem] theorem ty_758 : ldT Try.prog 138 = some (some 4) := by kernel_rfl
@[go_sem] theorem ty_759 : isSl Try.prog 138 = false := by kernel_rfl
@[go_sem] theorem ty_760 : isSt Try.prog 138 = false := by kernel_rfl
@[go_sem] theorem ty_761 : nif Try.prog 138 = true := by kernel_rfl
@[go_sem] theorem ty_762 : isIf Try.prog 138 = false := by kernel_rfl
@[go_sem] theorem ty_763 : isPt Try.prog 138 = false := by kernel_rfl
@[go_sem] theorem ty_764 : isBo Try.prog 138 = false := by kernel_rfl
@[go_sem] theorem ty_765 : slT Try.prog 138 = none := by kernel_rfl
@[go_sem] theorem ty_766 : zeroA Try.prog 138 = some (.agg [.int .i64 0, .int .i64 0, .int .i64 0, .int .i64 0]) := by kernel_rfl
@[go_sem] theorem ty_767 : fAt Try.prog 138 0 = some 0 := by kernel_rfl
@[go_sem] theorem ty_768 : fLd Try.prog 138 0 = some (0, none) := by kernel_rfl
@[go_sem] theorem ty_769 : fAt Try.prog 138 1 = some 1 := by kernel_rfl
@[go_sem] theorem ty_770 : fLd Try.prog 138 1 = some (1, none) := by kernel_rfl
@[go_sem] theorem ty_771 : fAt Try.prog 138 2 = some 2 := by kernel_rfl
@[go_sem] theorem ty_772 : fLd Try.prog 138 2 = some (2, none) := by kernel_rfl
@[go_sem] theorem ty_773 : fAt Try.prog 138 3 = some 3 := by kernel_rfl
@[go_sem] theorem ty_774 : fLd Try.prog 138 3 = some (3, none) := by kernel_rfl
@[go_sem] theorem ty_775 : bldT Try.prog 138 = some (.inl [(0, 1), (1, 1), (2, 1), (3, 1)]) := by kernel_rfl
@[go_sem] theorem ty_776 : szT Try.prog 139 = some 4 := by kernel_rfl
@[go_sem] theorem ty_777 : byT Try.prog 139 = some 32 := by kernel_rfl
@[go_sem] theorem ty_778 : aggT Try.prog 139 = some true := by kernel_rfl
@[go_sem] theorem ty_779 : ldT Try.prog 139 = some (some 4) := by kernel_rfl
@[go_sem] theorem ty_780 : isSl Try.prog 139 = false := by kernel_rfl
@[go_sem] theorem ty_781 : isSt Try.prog 139 = false := by kernel_rfl
@[go_sem] theorem ty_782 : nif Try.prog 139 = true := by kernel_rfl
@[go_sem] theorem ty_783 : isIf Try.prog 139 = false := by kernel_rfl
@[go_sem] theorem ty_784 : isPt Try.prog 139 = false := by kernel_rfl
@[go_sem] theorem ty_785 : isBo Try.prog 139 = false := by kernel_rfl
@[go_sem] theorem ty_786 : slT Try.prog 139 = none := by kernel_rfl
@[go_sem] theorem ty_787 : zeroA Try.prog 139 = some (.agg [.int .i64 0, .int .i64 0, .int .i64 0, .int .i64 0]) := by kernel_rfl
@[go_sem] theorem ty_788 : fAt Try.prog 139 0 = some 0 := by kernel_rfl
@[go_sem] theorem ty_789 : fLd Try.prog 139 0 = some (0, none) := by kernel_rfl
@[go_sem] theorem ty_790 : fAt Try.prog 139 1 = some 1 := by kernel_rfl
@[go_sem] theorem ty_791 : fLd Try.prog 139 1 = some (1, none) := by kernel_rfl
@[go_sem] theorem ty_792 : fAt Try.prog 139 2 = some 2 := by kernel_rfl
@[go_sem] theorem ty_793 : fLd Try.prog 139 2 = some (2, none) := by kernel_rfl
@[go_sem] theorem ty_794 : fAt Try.prog 139 3 = some 3 := by kernel_rfl
@[go_sem] theorem ty_795 : fLd Try.prog 139 3 = some (3, none) := by kernel_rfl
@[go_sem] theorem ty_796 : bldT Try.prog 139 = some (.inl [(0, 1), (1, 1), (2, 1), (3, 1)]) := by kernel_rfl
@[go_sem] theorem ty_797 : szT Try.prog 142 = some 2 := by kernel_rfl
@[go_sem] theorem ty_798 : byT Try.prog 142 = some 16 := by kernel_rfl
@[go_sem] theorem ty_799 : aggT Try.prog 142 = some true := by kernel_rfl
@[go_sem] theorem ty_800 : ldT Try.prog 142 = some (some 2) := by kernel_rfl
@[go_sem] theorem ty_801 : isSl Try.prog 142 = false := by kernel_rfl
@[go_sem] theorem ty_802 : isSt Try.prog 142 = false := by kernel_rfl
@[go_sem] theorem ty_803 : nif Try.prog 142 = true := by kernel_rfl
@[go_sem] theorem ty_804 : isIf Try.prog 142 = false := by kernel_rfl
@[go_sem] theorem ty_805 : isPt Try.prog 142 = false := by kernel_rfl
@[go_sem] theorem ty_806 : isBo Try.prog 142 = false := by kernel_rfl
@[go_sem] theorem ty_807 : slT Try.prog 142 = none := by kernel_rfl
@[go_sem] theorem ty_808 : zeroA Try.prog 142 = some (.agg [.int .i64 0, .int .i64 0]) := by kernel_rfl
@[go_sem] theorem ty_809 : fAt Try.prog 142 0 = some 0 := by kernel_rfl
@[go_sem] theorem ty_810 : fLd Try.prog 142 0 = some (0, none) := by kernel_rfl
@[go_sem] theorem ty_811 : fAt Try.prog 142 1 = some 1 := by kernel_rfl
@[go_sem] theorem ty_812 : fLd Try.prog 142 1 = some (1, none) := by kernel_rfl
@[go_sem] theorem ty_813 : bldT Try.prog 142 = some (.inl [(0, 1), (1, 1)]) := by kernel_rfl
@[go_sem] theorem ty_814 : szT Try.prog 143 = some 2 := by kernel_rfl
@[go_sem] theorem ty_815 : byT Try.prog 143 = some 16 := by kernel_rfl
@[go_sem] theorem ty_816 : aggT Try.prog 143 = some true := by kernel_rfl
@[go_sem] theorem ty_817 : ldT Try.prog 143 = some (some 2) := by kernel_rfl
@[go_sem] theorem ty_818 : isSl Try.prog 143 = false := by kernel_rfl
@[go_sem] theorem ty_819 : isSt Try.prog 143 = false := by kernel_rfl
@[go_sem] theorem ty_820 : nif Try.prog 143 = true := by kernel_rfl
@[go_sem] theorem ty_821 : isIf Try.prog 143 = false := by kernel_rfl
@[go_sem] theorem ty_822 : isPt Try.prog 143 = false := by kernel_rfl
@[go_sem] theorem ty_823 : isBo Try.prog 143 = false := by kernel_rfl
@[go_sem] theorem ty_824 : slT Try.prog 143 = none := by kernel_rfl
@[go_sem] theorem ty_825 : zeroA Try.prog 143 = some (.agg [.int .i64 0, .int .i64 0]) := by kernel_rfl
@[go_sem] theorem ty_826 : fAt Try.prog 143 0 = some 0 := by kernel_rfl
@[go_sem] theorem ty_827 : fLd Try.prog 143 0 = some (0, none) := by kernel_rfl
@[go_sem] theorem ty_828 : fAt Try.prog 143 1 = some 1 := by kernel_rfl
@[go_sem] theorem ty_829 : fLd Try.prog 143 1 = some (1, none) := by kernel_rfl
@[go_sem] theorem ty_830 : bldT Try.prog 143 = some (.inl [(0, 1), (1, 1)]) := by kernel_rfl
@[go_sem] theorem ty_831 : szT Try.prog 144 = some 1 := by kernel_rfl
@[go_sem] theorem ty_832 : byT Try.prog 144 = some 24 := by kernel_rfl
@[go_sem] theorem ty_833 : aggT Try.prog 144 = some true := by kernel_rfl
@[go_sem] theorem ty_834 : ldT Try.prog 144 = some (some 1) := by kernel_rfl
@[go_sem] theorem ty_835 : isSl Try.prog 144 = false := by kernel_rfl
@[go_sem] theorem ty_836 : isSt Try.prog 144 = false := by kernel_rfl
@[go_sem] theorem ty_837 : nif Try.prog 144 = true := by kernel_rfl
@[go_sem] theorem ty_838 : isIf Try.prog 144 = false := by kernel_rfl
@[go_sem] theorem ty_839 : isPt Try.prog 144 = false := by kernel_rfl
@[go_sem] theorem ty_840 : isBo Try.prog 144 = false := by kernel_rfl
@[go_sem] theorem ty_841 : slT Try.prog 144 = none := by kernel_rfl
@[go_sem] theorem ty_842 : zeroA Try.prog 144 = some (.agg [.nilsl]) := by kernel_rfl
@[go_sem] theorem ty_843 : fAt Try.prog 144 0 = some 0 := by kernel_rfl
@[go_sem] theorem ty_844 : fLd Try.prog 144 0 = some (0, none) := by kernel_rfl
@[go_sem] theorem ty_845 : bldT Try.prog 144 = some (.inl [(0, 1)]) := by kernel_rfl
@[go_sem] theorem ty_846 : szT Try.prog 145 = some 1 := by kernel_rfl
@[go_sem] theorem ty_847 : byT Try.prog 145 = some 24 := by kernel_rfl
@[go_sem] theorem ty_848 : aggT Try.prog 145 = some true := by kernel_rfl
@[go_sem] theorem ty_849 : ldT Try.prog 145 = some (some 1) := by kernel_rfl
@[go_sem] theorem ty_850 : isSl Try.prog 145 = false := by kernel_rfl
@[go_sem] theorem ty_851 : isSt Try.prog 145 = false := by kernel_rfl
@[go_sem] theorem ty_852 : nif Try.prog 145 = true := by kernel_rfl
@[go_sem] theorem ty_853 : isIf Try.prog 145 = false := by kernel_rfl
@[go_sem] theorem ty_854 : isPt Try.prog 145 = false := by kernel_rfl
@[go_sem] theorem ty_855 : isBo Try.prog 145 = false := by kernel_rfl
@[go_sem] theorem ty_856 : slT Try.prog 145 = none := by kernel_rfl
@[go_sem] theorem ty_857 : zeroA Try.prog 145 = some (.agg [.nilsl]) := by kernel_rfl
@[go_sem] theorem ty_858 : fAt Try.prog 145 0 = some 0 := by kernel_rfl
@[go_sem] theorem ty_859 : fLd Try.prog 145 0 = some (0, none) := by kernel_rfl
@[go_sem] theorem ty_860 : bldT Try.prog 145 = some (.inl [(0, 1)]) := by kernel_rfl
@[go_sem] theorem ty_861 : methA Try.prog 145 "siskin/show.part" = some 179 := by kernel_rfl
@[go_sem] theorem ty_862 : methA Try.prog 145 "siskin/show.text" = some 94 := by kernel_rfl
@[go_sem] theorem ty_863 : szT Try.prog 148 = some 1 := by kernel_rfl
@[go_sem] theorem ty_864 : byT Try.prog 148 = some 24 := by kernel_rfl
@[go_sem] theorem ty_865 : aggT Try.prog 148 = some false := by kernel_rfl
@[go_sem] theorem ty_866 : ldT Try.prog 148 = some none := by kernel_rfl
@[go_sem] theorem ty_867 : isSl Try.prog 148 = true := by kernel_rfl
@[go_sem] theorem ty_868 : isSt Try.prog 148 = false := by kernel_rfl
@[go_sem] theorem ty_869 : nif Try.prog 148 = true := by kernel_rfl
@[go_sem] theorem ty_870 : isIf Try.prog 148 = false := by kernel_rfl
@[go_sem] theorem ty_871 : isPt Try.prog 148 = false := by kernel_rfl
@[go_sem] theorem ty_872 : isBo Try.prog 148 = false := by kernel_rfl
@[go_sem] theorem ty_873 : slT Try.prog 148 = some 23 := by kernel_rfl
@[go_sem] theorem ty_874 : zeroA Try.prog 148 = some (.nilsl) := by kernel_rfl
@[go_sem] theorem ty_875 : apT Try.prog 148 148 = some (23, 1, 24) := by kernel_rfl
@[go_sem] theorem ty_876 : szT Try.prog 149 = some 1 := by kernel_rfl
@[go_sem] theorem ty_877 : byT Try.prog 149 = some 8 := by kernel_rfl
@[go_sem] theorem ty_878 : aggT Try.prog 149 = some false := by kernel_rfl
@[go_sem] theorem ty_879 : ldT Try.prog 149 = some none := by kernel_rfl
@[go_sem] theorem ty_880 : isSl Try.prog 149 = false := by kernel_rfl
@[go_sem] theorem ty_881 : isSt Try.prog 149 = false := by kernel_rfl
@[go_sem] theorem ty_882 : nif Try.prog 149 = true := by kernel_rfl
@[go_sem] theorem ty_883 : isIf Try.prog 149 = false := by kernel_rfl
@[go_sem] theorem ty_884 : isPt Try.prog 149 = true := by kernel_rfl
@[go_sem] theorem ty_885 : ptrT Try.prog 149 = true := by kernel_rfl
@[go_sem] theorem ty_886 : isBo Try.prog 149 = false := by kernel_rfl
@[go_sem] theorem ty_887 : slT Try.prog 149 = none := by kernel_rfl
@[go_sem] theorem ty_888 : zeroA Try.prog 149 = some (.nilptr) := by kernel_rfl
@[go_sem] theorem ty_889 : methA Try.prog 149 "Reset" = some 279 := by kernel_rfl
@[go_sem] theorem ty_890 : methA Try.prog 149 "String" = some 97 := by kernel_rfl
@[go_sem] theorem ty_891 : methA Try.prog 149 "WriteString" = some 96 := by kernel_rfl
@[go_sem] theorem ty_892 : methA Try.prog 149 "strings.copyCheck" = some 181 := by kernel_rfl
@[go_sem] theorem ty_893 : cvT Try.prog 149 291 = none := by kernel_rfl
@[go_sem] theorem ty_894 : strK Try.prog 149 291 = none := by kernel_rfl
@[go_sem] theorem ty_895 : isTS Try.prog 149 291 = false := by kernel_rfl
@[go_sem] theorem ty_896 : upT Try.prog 149 291 = some (none, 2) := by kernel_rfl
@[go_sem] theorem ty_897 : szT Try.prog 150 = some 2 := by kernel_rfl
@[go_sem] theorem ty_898 : byT Try.prog 150 = some 32 := by kernel_rfl
@[go_sem] theorem ty_899 : aggT Try.prog 150 = some true := by kernel_rfl
@[go_sem] theorem ty_900 : ldT Try.prog 150 = some (some 2) := by kernel_rfl
@[go_sem] theorem ty_901 : isSl Try.prog 150 = false := by kernel_rfl
@[go_sem] theorem ty_902 : isSt Try.prog 150 = false := by kernel_rfl
@[go_sem] theorem ty_903 : nif Try.prog 150 = true := by kernel_rfl
@[go_sem] theorem ty_904 : isIf Try.prog 150 = false := by kernel_rfl
@[go_sem] theorem ty_905 : isPt Try.prog 150 = false := by kernel_rfl
@[go_sem] theorem ty_906 : isBo Try.prog 150 = false := by kernel_rfl
@[go_sem] theorem ty_907 : slT Try.prog 150 = none := by kernel_rfl
@[go_sem] theorem ty_908 : zeroA Try.prog 150 = some (.agg [.nilptr, .nilsl]) := by kernel_rfl
@[go_sem] theorem ty_909 : fAt Try.prog 150 0 = some 0 := by kernel_rfl
@[go_sem] theorem ty_910 : fLd Try.prog 150 0 = some (0, none) := by kernel_rfl
@[go_sem] theorem ty_911 : fAt Try.prog 150 1 = some 1 := by kernel_rfl
@[go_sem] theorem ty_912 : fLd Try.prog 150 1 = some (1, none) := by kernel_rfl
@[go_sem] theorem ty_913 : bldT Try.prog 150 = some (.inl [(0, 1), (1, 1)]) := by kernel_rfl
@[go_sem] theorem ty_914 : szT Try.prog 151 = some 2 := by kernel_rfl
@[go_sem] theorem ty_915 : byT Try.prog 151 = some 32 := by kernel_rfl
@[go_sem] theorem ty_916 : aggT Try.prog 151 = some true := by kernel_rfl
@[go_sem] theorem ty_917 : ldT Try.prog 151 = some (some 2) := by kernel_rfl
@[go_sem] theorem ty_918 : isSl Try.prog 151 = false := by kernel_rfl
@[go_sem] theorem ty_919 : isSt Try.prog 151 = false := by kernel_rfl
@[go_sem] theorem ty_920 : nif Try.prog 151 = true := by kernel_rfl
@[go_sem] theorem ty_921 : isIf Try.prog 151 = false := by kernel_rfl
@[go_sem] theorem ty_922 : isPt Try.prog 151 = false := by kernel_rfl
@[go_sem] theorem ty_923 : isBo Try.prog 151 = false := by kernel_rfl
@[go_sem] theorem ty_924 : slT Try.prog 151 = none := by kernel_rfl
@[go_sem] theorem ty_925 : zeroA Try.prog 151 = some (.agg [.nilptr, .nilsl]) := by kernel_rfl
@[go_sem] theorem ty_926 : fAt Try.prog 151 0 = some 0 := by kernel_rfl
@[go_sem] theorem ty_927 : fLd Try.prog 151 0 = some (0, none) := by kernel_rfl
@[go_sem] theorem ty_928 : fAt Try.prog 151 1 = some 1 := by kernel_rfl
@[go_sem] theorem ty_929 : fLd Try.prog 151 1 = some (1, none) := by kernel_rfl
@[go_sem] theorem ty_930 : bldT Try.prog 151 = some (.inl [(0, 1), (1, 1)]) := by kernel_rfl
@[go_sem] theorem ty_931 : szT Try.prog 152 = some 1 := by kernel_rfl
@[go_sem] theorem ty_932 : byT Try.prog 152 = some 16 := by kernel_rfl
@[go_sem] theorem ty_933 : aggT Try.prog 152 = some false := by kernel_rfl
@[go_sem] theorem ty_934 : ldT Try.prog 152 = some none := by kernel_rfl
@[go_sem] theorem ty_935 : isSl Try.prog 152 = false := by kernel_rfl
@[go_sem] theorem ty_936 : isSt Try.prog 152 = false := by kernel_rfl
@[go_sem] theorem ty_937 : nif Try.prog 152 = false := by kernel_rfl
@[go_sem] theorem ty_938 : isIf Try.prog 152 = true := by kernel_rfl
@[go_sem] theorem ty_939 : isPt Try.prog 152 = false := by kernel_rfl
@[go_sem] theorem ty_940 : isBo Try.prog 152 = false := by kernel_rfl
@[go_sem] theorem ty_941 : slT Try.prog 152 = none := by kernel_rfl
@[go_sem] theorem ty_942 : zeroA Try.prog 152 = some (.nilIface) := by kernel_rfl
@[go_sem] theorem ty_943 : szT Try.prog 153 = some 1 := by kernel_rfl
@[go_sem] theorem ty_944 : byT Try.prog 153 = some 16 := by kernel_rfl
@[go_sem] theorem ty_945 : aggT Try.prog 153 = some false := by kernel_rfl
@[go_sem] theorem ty_946 : ldT Try.prog 153 = some none := by kernel_rfl
@[go_sem] theorem ty_947 : isSl Try.prog 153 = false := by kernel_rfl
@[go_sem] theorem ty_948 : isSt Try.prog 153 = false := by kernel_rfl
@[go_sem] theorem ty_949 : nif Try.prog 153 = false := by kernel_rfl
@[go_sem] theorem ty_950 : isIf Try.prog 153 = true := by kernel_rfl
@[go_sem] theorem ty_951 : isPt Try.prog 153 = false := by kernel_rfl
@[go_sem] theorem ty_952 : isBo Try.prog 153 = false := by kernel_rfl
@[go_sem] theorem ty_953 : slT Try.prog 153 = none := by kernel_rfl
@[go_sem] theorem ty_954 : zeroA Try.prog 153 = some (.nilIface) := by kernel_rfl
@[go_sem] theorem ty_955 : szT Try.prog 157 = some 1 := by kernel_rfl
@[go_sem] theorem ty_956 : byT Try.prog 157 = some 24 := by kernel_rfl
@[go_sem] theorem ty_957 : aggT Try.prog 157 = some false := by kernel_rfl
@[go_sem] theorem ty_958 : ldT Try.prog 157 = some none := by kernel_rfl
@[go_sem] theorem ty_959 : isSl Try.prog 157 = true := by kernel_rfl
@[go_sem] theorem ty_960 : isSt Try.prog 157 = false := by kernel_rfl
@[go_sem] theorem ty_961 : nif Try.prog 157 = true := by kernel_rfl
@[go_sem] theorem ty_962 : isIf Try.prog 157 = false := by kernel_rfl
@[go_sem] theorem ty_963 : isPt Try.prog 157 = false := by kernel_rfl
@[go_sem] theorem ty_964 : isBo Try.prog 157 = false := by kernel_rfl
@[go_sem] theorem ty_965 : slT Try.prog 157 = some 248 := by kernel_rfl
@[go_sem] theorem ty_966 : zeroA Try.prog 157 = some (.nilsl) := by kernel_rfl
@[go_sem] theorem ty_967 : apT Try.prog 157 157 = some (248, 2, 24) := by kernel_rfl
@[go_sem] theorem ty_968 : szT Try.prog 160 = some 1 := by kernel_rfl
@[go_sem] theorem ty_969 : byT Try.prog 160 = some 8 := by kernel_rfl
@[go_sem] theorem ty_970 : aggT Try.prog 160 = some false := by kernel_rfl
@[go_sem] theorem ty_971 : ldT Try.prog 160 = some none := by kernel_rfl
@[go_sem] theorem ty_972 : isSl Try.prog 160 = false := by kernel_rfl
@[go_sem] theorem ty_973 : isSt Try.prog 160 = false := by kernel_rfl
@[go_sem] theorem ty_974 : nif Try.prog 160 = true := by kernel_rfl
@[go_sem] theorem ty_975 : isIf Try.prog 160 = false := by kernel_rfl
@[go_sem] theorem ty_976 : isPt Try.prog 160 = true := by kernel_rfl
@[go_sem] theorem ty_977 : ptrT Try.prog 160 = true := by kernel_rfl
@[go_sem] theorem ty_978 : isBo Try.prog 160 = false := by kernel_rfl
@[go_sem] theorem ty_979 : slT Try.prog 160 = none := by kernel_rfl
@[go_sem] theorem ty_980 : zeroA Try.prog 160 = some (.nilptr) := by kernel_rfl
@[go_sem] theorem ty_981 : methA Try.prog 160 "siskin/read.all" = some 228 := by kernel_rfl
@[go_sem] theorem ty_982 : methA Try.prog 160 "siskin/read.any" = some 185 := by kernel_rfl
@[go_sem] theorem ty_983 : methA Try.prog 160 "siskin/read.many" = some 227 := by kernel_rfl
@[go_sem] theorem ty_984 : methA Try.prog 160 "siskin/read.one" = some 251 := by kernel_rfl
@[go_sem] theorem ty_985 : methA Try.prog 160 "siskin/read.peek" = some 248 := by kernel_rfl
@[go_sem] theorem ty_986 : methA Try.prog 160 "siskin/read.put" = some 250 := by kernel_rfl
@[go_sem] theorem ty_987 : methA Try.prog 160 "siskin/read.read" = some 100 := by kernel_rfl
@[go_sem] theorem ty_988 : methA Try.prog 160 "siskin/read.take" = some 249 := by kernel_rfl
@[go_sem] theorem ty_989 : szT Try.prog 162 = some 4 := by kernel_rfl
@[go_sem] theorem ty_990 : byT Try.prog 162 = some 80 := by kernel_rfl
@[go_sem] theorem ty_991 : aggT Try.prog 162 = some true := by kernel_rfl
@[go_sem] theorem ty_992 : ldT Try.prog 162 = some (some 4) := by kernel_rfl
@[go_sem] theorem ty_993 : isSl Try.prog 162 = false := by kernel_rfl
@[go_sem] theorem ty_994 : isSt Try.prog 162 = false := by kernel_rfl
@[go_sem] theorem ty_995 : nif Try.prog 162 = true := by kernel_rfl
@[go_sem] theorem ty_996 : isIf Try.prog 162 = false := by kernel_rfl
@[go_sem] theorem ty_997 : isPt Try.prog 162 = false := by kernel_rfl
@[go_sem] theorem ty_998 : isBo Try.prog 162 = false := by kernel_rfl
@[go_sem] theorem ty_999 : slT Try.prog 162 = none := by kernel_rfl
@[go_sem] theorem ty_1000 : zeroA Try.prog 162 = some (.agg [.nilsl, .nilsl, .int .i64 0, .nilsl]) := by kernel_rfl
@[go_sem] theorem ty_1001 : fAt Try.prog 162 0 = some 0 := by kernel_rfl
@[go_sem] theorem ty_1002 : fLd Try.prog 162 0 = some (0, none) := by kernel_rfl
@[go_sem] theorem ty_1003 : fAt Try.prog 162 1 = some 1 := by kernel_rfl
@[go_sem] theorem ty_1004 : fLd Try.prog 162 1 = some (1, none) := by kernel_rfl
@[go_sem] theorem ty_1005 : fAt Try.prog 162 2 = some 2 := by kernel_rfl
@[go_sem] theorem ty_1006 : fLd Try.prog 162 2 = some (2, none) := by kernel_rfl
@[go_sem] theorem ty_1007 : fAt Try.prog 162 3 = some 3 := by kernel_rfl
@[go_sem] theorem ty_1008 : fLd Try.prog 162 3 = some (3, none) := by kernel_rfl
@[go_sem] theorem ty_1009 : bldT Try.prog 162 = some (.inl [(0, 1), (1, 1), (2, 1), (3, 1)]) := by kernel_rfl
@[go_sem] theorem ty_1010 : szT Try.prog 163 = some 4 := by kernel_rfl
@[go_sem] theorem ty_1011 : byT Try.prog 163 = some 80 := by kernel_rfl
@[go_sem] theorem ty_1012 : aggT Try.prog 163 = some true := by kernel_rfl
@[go_sem] theorem ty_1013 : ldT Try.prog 163 = some (some 4) := by kernel_rfl
@[go_sem] theorem ty_1014 : isSl Try.prog 163 = false := by kernel_rfl
@[go_sem] theorem ty_1015 : isSt Try.prog 163 = false := by kernel_rfl
@[go_sem] theorem ty_1016 : nif Try.prog 163 = true := by kernel_rfl
@[go_sem] theorem ty_1017 : isIf Try.prog 163 = false := by kernel_rfl
@[go_sem] theorem ty_1018 : isPt Try.prog 163 = false := by kernel_rfl
@[go_sem] theorem ty_1019 : isBo Try.prog 163 = false := by kernel_rfl
@[go_sem] theorem ty_1020 : slT Try.prog 163 = none := by kernel_rfl
@[go_sem] theorem ty_1021 : zeroA Try.prog 163 = some (.agg [.nilsl, .nilsl, .int .i64 0, .nilsl]) := by kernel_rfl
@[go_sem] theorem ty_1022 : fAt Try.prog 163 0 = some 0 := by kernel_rfl
@[go_sem] theorem ty_1023 : fLd Try.prog 163 0 = some (0, none) := by kernel_rfl
@[go_sem] theorem ty_1024 : fAt Try.prog 163 1 = some 1 := by kernel_rfl
@[go_sem] theorem ty_1025 : fLd Try.prog 163 1 = some (1, none) := by kernel_rfl
@[go_sem] theorem ty_1026 : fAt Try.prog 163 2 = some 2 := by kernel_rfl
@[go_sem] theorem ty_1027 : fLd Try.prog 163 2 = some (2, none) := by kernel_rfl
@[go_sem] theorem ty_1028 : fAt Try.prog 163 3 = some 3 := by kernel_rfl
@[go_sem] theorem ty_1029 : fLd Try.prog 163 3 = some (3, none) := by kernel_rfl
@[go_sem] theorem ty_1030 : bldT Try.prog 163 = some (.inl [(0, 1), (1, 1), (2, 1), (3, 1)]) := by kernel_rfl
@[go_sem] theorem ty_1031 : szT Try.prog 164 = some 2 := by kernel_rfl
@[go_sem] theorem ty_1032 : byT Try.prog 164 = some 16 := by kernel_rfl
@[go_sem] theorem ty_1033 : aggT Try.prog 164 = some true := by kernel_rfl
@[go_sem] theorem ty_1034 : ldT Try.prog 164 = some (some 2) := by kernel_rfl
@[go_sem] theorem ty_1035 : isSl Try.prog 164 = false := by kernel_rfl
@[go_sem] theorem ty_1036 : isSt Try.prog 164 = false := by kernel_rfl
@[go_sem] theorem ty_1037 : nif Try.prog 164 = true := by kernel_rfl
@[go_sem] theorem ty_1038 : isIf Try.prog 164 = false := by kernel_rfl
@[go_sem] theorem ty_1039 : isPt Try.prog 164 = false := by kernel_rfl
@[go_sem] theorem ty_1040 : isBo Try.prog 164 = false := by kernel_rfl
@[go_sem] theorem ty_1041 : slT Try.prog 164 = none := by kernel_rfl
@[go_sem] theorem ty_1042 : zeroA Try.prog 164 = some (.agg [.int .i64 0, .int .i64 0]) := by kernel_rfl
@[go_sem] theorem ty_1043 : fAt Try.prog 164 0 = some 0 := by kernel_rfl
@[go_sem] theorem ty_1044 : fLd Try.prog 164 0 = some (0, none) := by kernel_rfl
@[go_sem] theorem ty_1045 : fAt Try.prog 164 1 = some 1 := by kernel_rfl
@[go_sem] theorem ty_1046 : fLd Try.prog 164 1 = some (1, none) := by kernel_rfl
@[go_sem] theorem ty_1047 : bldT Try.prog 164 = some (.inl [(0, 1), (1, 1)]) := by kernel_rfl
@[go_sem] theorem ty_1048 : szT Try.prog 165 = some 2 := by kernel_rfl
@[go_sem] theorem ty_1049 : byT Try.prog 165 = some 16 := by kernel_rfl
@[go_sem] theorem ty_1050 : aggT Try.prog 165 = some true := by kernel_rfl
@[go_sem] theorem ty_1051 : ldT Try.prog 165 = some (some 2) := by kernel_rfl
@[go_sem] theorem ty_1052 : isSl Try.prog 165 = false := by kernel_rfl
@[go_sem] theorem ty_1053 : isSt Try.prog 165 = false := by kernel_rfl
@[go_sem] theorem ty_1054 : nif Try.prog 165 = true := by kernel_rfl
@[go_sem] theorem ty_1055 : isIf Try.prog 165 = false := by kernel_rfl
@[go_sem] theorem ty_1056 : isPt Try.prog 165 = false := by kernel_rfl
@[go_sem] theorem ty_1057 : isBo Try.prog 165 = false := by kernel_rfl
@[go_sem] theorem ty_1058 : slT Try.prog 165 = none := by kernel_rfl
@[go_sem] theorem ty_1059 : zeroA Try.prog 165 = some (.agg [.int .i64 0, .int .i64 0]) := by kernel_rfl
@[go_sem] theorem ty_1060 : fAt Try.prog 165 0 = some 0 := by kernel_rfl
@[go_sem] theorem ty_1061 : fLd Try.prog 165 0 = some (0, none) := by kernel_rfl
@[go_sem] theorem ty_1062 : fAt Try.prog 165 1 = some 1 := by kernel_rfl
@[go_sem] theorem ty_1063 : fLd Try.prog 165 1 = some (1, none) := by kernel_rfl
@[go_sem] theorem ty_1064 : bldT Try.prog 165 = some (.inl [(0, 1), (1, 1)]) := by kernel_rfl
@[go_sem] theorem ty_1065 : szT Try.prog 167 = some 1 := by kernel_rfl
@[go_sem] theorem ty_1066 : byT Try.prog 167 = some 24 := by kernel_rfl
@[go_sem] theorem ty_1067 : aggT Try.prog 167 = some false := by kernel_rfl
@[go_sem] theorem ty_1068 : ldT Try.prog 167 = some none := by kernel_rfl
@[go_sem] theorem ty_1069 : isSl Try.prog 167 = true := by kernel_rfl
@[go_sem] theorem ty_1070 : isSt Try.prog 167 = false := by kernel_rfl
@[go_sem] theorem ty_1071 : nif Try.prog 167 = true := by kernel_rfl
@[go_sem] theorem ty_1072 : isIf Try.prog 167 = false := by kernel_rfl
@[go_sem] theorem ty_1073 : isPt Try.prog 167 = false := by kernel_rfl
@[go_sem] theorem ty_1074 : isBo Try.prog 167 = false := by kernel_rfl
@[go_sem] theorem ty_1075 : slT Try.prog 167 = some 170 := by kernel_rfl
@[go_sem] theorem ty_1076 : zeroA Try.prog 167 = some (.nilsl) := by kernel_rfl
@[go_sem] theorem ty_1077 : apT Try.prog 167 167 = some (170, 3, 24) := by kernel_rfl
@[go_sem] theorem ty_1078 : szT Try.prog 169 = some 3 := by kernel_rfl
@[go_sem] theorem ty_1079 : byT Try.prog 169 = some 24 := by kernel_rfl
@[go_sem] theorem ty_1080 : aggT Try.prog 169 = some true := by kernel_rfl
@[go_sem] theorem ty_1081 : ldT Try.prog 169 = some (some 3) := by kernel_rfl
@[go_sem] theorem ty_1082 : isSl Try.prog 169 = false := by kernel_rfl
@[go_sem] theorem ty_1083 : isSt Try.prog 169 = false := by kernel_rfl
@[go_sem] theorem ty_1084 : nif Try.prog 169 = true := by kernel_rfl
@[go_sem] theorem ty_1085 : isIf Try.prog 169 = false := by kernel_rfl
@[go_sem] theorem ty_1086 : isPt Try.prog 169 = false := by kernel_rfl
@[go_sem] theorem ty_1087 : isBo Try.prog 169 = false := by kernel_rfl
@[go_sem] theorem ty_1088 : slT Try.prog 169 = none := by kernel_rfl
@[go_sem] theorem ty_1089 : zeroA Try.prog 169 = some (.agg [.int .i64 0, .int .i64 0, .bool false]) := by kernel_rfl
@[go_sem] theorem ty_1090 : fAt Try.prog 169 0 = some 0 := by kernel_rfl
@[go_sem] theorem ty_1091 : fLd Try.prog 169 0 = some (0, none) := by kernel_rfl
@[go_sem] theorem ty_1092 : fAt Try.prog 169 1 = some 1 := by kernel_rfl
@[go_sem] theorem ty_1093 : fLd Try.prog 169 1 = some (1, none) := by kernel_rfl
@[go_sem] theorem ty_1094 : fAt Try.prog 169 2 = some 2 := by kernel_rfl
@[go_sem] theorem ty_1095 : fLd Try.prog 169 2 = some (2, none) := by kernel_rfl
@[go_sem] theorem ty_1096 : bldT Try.prog 169 = some (.inl [(0, 1), (1, 1), (2, 1)]) := by kernel_rfl
@[go_sem] theorem ty_1097 : szT Try.prog 170 = some 3 := by kernel_rfl
@[go_sem] theorem ty_1098 : byT Try.prog 170 = some 24 := by kernel_rfl
@[go_sem] theorem ty_1099 : aggT Try.prog 170 = some true := by kernel_rfl
@[go_sem] theorem ty_1100 : ldT Try.prog 170 = some (some 3) := by kernel_rfl
@[go_sem] theorem ty_1101 : isSl Try.prog 170 = false := by kernel_rfl
@[go_sem] theorem ty_1102 : isSt Try.prog 170 = false := by kernel_rfl
@[go_sem] theorem ty_1103 : nif Try.prog 170 = true := by kernel_rfl
@[go_sem] theorem ty_1104 : isIf Try.prog 170 = false := by kernel_rfl
@[go_sem] theorem ty_1105 : isPt Try.prog 170 = false := by kernel_rfl
@[go_sem] theorem ty_1106 : isBo Try.prog 170 = false := by kernel_rfl
@[go_sem] theorem ty_1107 : slT Try.prog 170 = none := by kernel_rfl
@[go_sem] theorem ty_1108 : zeroA Try.prog 170 = some (.agg [.int .i64 0, .int .i64 0, .bool false]) := by kernel_rfl
@[go_sem] theorem ty_1109 : fAt Try.prog 170 0 = some 0 := by kernel_rfl
@[go_sem] theorem ty_1110 : fLd Try.prog 170 0 = some (0, none) := by kernel_rfl
@[go_sem] theorem ty_1111 : fAt Try.prog 170 1 = some 1 := by kernel_rfl
@[go_sem] theorem ty_1112 : fLd Try.prog 170 1 = some (1, none) := by kernel_rfl
@[go_sem] theorem ty_1113 : fAt Try.prog 170 2 = some 2 := by kernel_rfl
@[go_sem] theorem ty_1114 : fLd Try.prog 170 2 = some (2, none) := by kernel_rfl
@[go_sem] theorem ty_1115 : bldT Try.prog 170 = some (.inl [(0, 1), (1, 1), (2, 1)]) := by kernel_rfl
@[go_sem] theorem ty_1116 : szT Try.prog 172 = some 1 := by kernel_rfl
@[go_sem] theorem ty_1117 : byT Try.prog 172 = some 16 := by kernel_rfl
@[go_sem] theorem ty_1118 : aggT Try.prog 172 = some false := by kernel_rfl
@[go_sem] theorem ty_1119 : ldT Try.prog 172 = some none := by kernel_rfl
@[go_sem] theorem ty_1120 : isSl Try.prog 172 = false := by kernel_rfl
@[go_sem] theorem ty_1121 : isSt Try.prog 172 = false := by kernel_rfl
@[go_sem] theorem ty_1122 : nif Try.prog 172 = false := by kernel_rfl
@[go_sem] theorem ty_1123 : isIf Try.prog 172 = true := by kernel_rfl
@[go_sem] theorem ty_1124 : isPt Try.prog 172 = false := by kernel_rfl
@[go_sem] theorem ty_1125 : isBo Try.prog 172 = false := by kernel_rfl
@[go_sem] theorem ty_1126 : slT Try.prog 172 = none := by kernel_rfl
@[go_sem] theorem ty_1127 : zeroA Try.prog 172 = some (.nilIface) := by kernel_rfl
@[go_sem] theorem ty_1128 : szT Try.prog 173 = some 1 := by kernel_rfl
@[go_sem] theorem ty_1129 : byT Try.prog 173 = some 16 := by kernel_rfl
@[go_sem] theorem ty_1130 : aggT Try.prog 173 = some false := by kernel_rfl
@[go_sem] theorem ty_1131 : ldT Try.prog 173 = some none := by kernel_rfl
@[go_sem] theorem ty_1132 : isSl Try.prog 173 = false := by kernel_rfl
@[go_sem] theorem ty_1133 : isSt Try.prog 173 = false := by kernel_rfl
@[go_sem] theorem ty_1134 : nif Try.prog 173 = false := by kernel_rfl
@[go_sem] theorem ty_1135 : isIf Try.prog 173 = true := by kernel_rfl
@[go_sem] theorem ty_1136 : isPt Try.prog 173 = false := by kernel_rfl
@[go_sem] theorem ty_1137 : isBo Try.prog 173 = false := by kernel_rfl
@[go_sem] theorem ty_1138 : slT Try.prog 173 = none := by kernel_rfl
@[go_sem] theorem ty_1139 : zeroA Try.prog 173 = some (.nilIface) := by kernel_rfl
@[go_sem] theorem ty_1140 : szT Try.prog 175 = some 3 := by kernel_rfl
@[go_sem] theorem ty_1141 : byT Try.prog 175 = some 24 := by kernel_rfl
@[go_sem] theorem ty_1142 : aggT Try.prog 175 = some true := by kernel_rfl
@[go_sem] theorem ty_1143 : ldT Try.prog 175 = some (some 3) := by kernel_rfl
@[go_sem] theorem ty_1144 : isSl Try.prog 175 = false := by kernel_rfl
@[go_sem] theorem ty_1145 : isSt Try.prog 175 = false := by kernel_rfl
@[go_sem] theorem ty_1146 : nif Try.prog 175 = true := by kernel_rfl
@[go_sem] theorem ty_1147 : isIf Try.prog 175 = false := by kernel_rfl
@[go_sem] theorem ty_1148 : isPt Try.prog 175 = false := by kernel_rfl
@[go_sem] theorem ty_1149 : isBo Try.prog 175 = false := by kernel_rfl
@[go_sem] theorem ty_1150 : slT Try.prog 175 = none := by kernel_rfl
@[go_sem] theorem ty_1151 : zeroA Try.prog 175 = some (.agg [.int .i64 0, .int .i64 0, .int .u64 0]) := by kernel_rfl
@[go_sem] theorem ty_1152 : fAt Try.prog 175 0 = some 0 := by kernel_rfl
@[go_sem] theorem ty_1153 : fLd Try.prog 175 0 = some (0, none) := by kernel_rfl
@[go_sem] theorem ty_1154 : fAt Try.prog 175 1 = some 1 := by kernel_rfl
@[go_sem] theorem ty_1155 : fLd Try.prog 175 1 = some (1, none) := by kernel_rfl
@[go_sem] theorem ty_1156 : fAt Try.prog 175 2 = some 2 := by kernel_rfl
@[go_sem] theorem ty_1157 : fLd Try.prog 175 2 = some (2, none) := by kernel_rfl
@[go_sem] theorem ty_1158 : bldT Try.prog 175 = some (.inl [(0, 1), (1, 1), (2, 1)]) := by kernel_rfl
@[go_sem] theorem ty_1159 : szT Try.prog 176 = some 3 := by kernel_rfl
@[go_sem] theorem ty_1160 : byT Try.prog 176 = some 24 := by kernel_rfl
@[go_sem] theorem ty_1161 : aggT Try.prog 176 = some true := by kernel_rfl
@[go_sem] theorem ty_1162 : ldT Try.prog 176 = some (some 3) := by kernel_rfl
@[go_sem] theorem ty_1163 : isSl Try.prog 176 = false := by kernel_rfl
@[go_sem] theorem ty_1164 : isSt Try.prog 176 = false := by kernel_rfl
@[go_sem] theorem ty_1165 : nif Try.prog 176 = true := by kernel_rfl
@[go_sem] theorem ty_1166 : isIf Try.prog 176 = false := by kernel_rfl
@[go_sem] theorem ty_1167 : isPt Try.prog 176 = false := by kernel_rfl
@[go_sem] theorem ty_1168 : isBo Try.prog 176 = false := by kernel_rfl
@[go_sem] theorem ty_1169 : slT Try.prog 176 = none := by kernel_rfl
@[go_sem] theorem ty_1170 : zeroA Try.prog 176 = some (.agg [.int .i64 0, .int .i64 0, .int .u64 0]) := by kernel_rfl
@[go_sem] theorem ty_1171 : fAt Try.prog 176 0 = some 0 := by kernel_rfl
@[go_sem] theorem ty_1172 : fLd Try.prog 176 0 = some (0, none) := by kernel_rfl
@[go_sem] theorem ty_1173 : fAt Try.prog 176 1 = some 1 := by kernel_rfl
@[go_sem] theorem ty_1174 : fLd Try.prog 176 1 = some (1, none) := by kernel_rfl
@[go_sem] theorem ty_1175 : fAt Try.prog 176 2 = some 2 := by kernel_rfl
@[go_sem] theorem ty_1176 : fLd Try.prog 176 2 = some (2, none) := by kernel_rfl
@[go_sem] theorem ty_1177 : bldT Try.prog 176 = some (.inl [(0, 1), (1, 1), (2, 1)]) := by kernel_rfl
@[go_sem] theorem ty_1178 : szT Try.prog 190 = some 1 := by kernel_rfl
@[go_sem] theorem ty_1179 : byT Try.prog 190 = some 24 := by kernel_rfl
@[go_sem] theorem ty_1180 : aggT Try.prog 190 = some true := by kernel_rfl
@[go_sem] theorem ty_1181 : ldT Try.prog 190 = some (some 1) := by kernel_rfl
@[go_sem] theorem ty_1182 : isSl Try.prog 190 = false := by kernel_rfl
@[go_sem] theorem ty_1183 : isSt Try.prog 190 = false := by kernel_rfl
@[go_sem] theorem ty_1184 : nif Try.prog 190 = true := by kernel_rfl
@[go_sem] theorem ty_1185 : isIf Try.prog 190 = false := by kernel_rfl
@[go_sem] theorem ty_1186 : isPt Try.prog 190 = false := by kernel_rfl
@[go_sem] theorem ty_1187 : isBo Try.prog 190 = false := by kernel_rfl
@[go_sem] theorem ty_1188 : slT Try.prog 190 = none := by kernel_rfl
@[go_sem] theorem ty_1189 : zeroA Try.prog 190 = some (.agg [.nilsl]) := by kernel_rfl
@[go_sem] theorem ty_1190 : fAt Try.prog 190 0 = some 0 := by kernel_rfl
@[go_sem] theorem ty_1191 : fLd Try.prog 190 0 = some (0, none) := by kernel_rfl
@[go_sem] theorem ty_1192 : bldT Try.prog 190 = some (.inl [(0, 1)]) := by kernel_rfl
@[go_sem] theorem ty_1193 : szT Try.prog 191 = some 1 := by kernel_rfl
@[go_sem] theorem ty_1194 : byT Try.prog 191 = some 24 := by kernel_rfl
@[go_sem] theorem ty_1195 : aggT Try.prog 191 = some true := by kernel_rfl
@[go_sem] theorem ty_1196 : ldT Try.prog 191 = some (some 1) := by kernel_rfl
@[go_sem] theorem ty_1197 : isSl Try.prog 191 = false := by kernel_rfl
@[go_sem] theorem ty_1198 : isSt Try.prog 191 = false := by kernel_rfl
@[go_sem] theorem ty_1199 : nif Try.prog 191 = true := by kernel_rfl
@[go_sem] theorem ty_1200 : isIf Try.prog 191 = false := by kernel_rfl
@[go_sem] theorem ty_1201 : isPt Try.prog 191 = false := by kernel_rfl
@[go_sem] theorem ty_1202 : isBo Try.prog 191 = false := by kernel_rfl
@[go_sem] theorem ty_1203 : slT Try.prog 191 = none := by kernel_rfl
@[go_sem] theorem ty_1204 : zeroA Try.prog 191 = some (.agg [.nilsl]) := by kernel_rfl
@[go_sem] theorem ty_1205 : fAt Try.prog 191 0 = some 0 := by kernel_rfl
@[go_sem] theorem ty_1206 : fLd Try.prog 191 0 = some (0, none) := by kernel_rfl
@[go_sem] theorem ty_1207 : bldT Try.prog 191 = some (.inl [(0, 1)]) := by kernel_rfl
@[go_sem] theorem ty_1208 : szT Try.prog 192 = some 3 := by kernel_rfl
@[go_sem] theorem ty_1209 : byT Try.prog 192 = some 40 := by kernel_rfl
@[go_sem] theorem ty_1210 : aggT Try.prog 192 = some true := by kernel_rfl
@[go_sem] theorem ty_1211 : ldT Try.prog 192 = some (some 3) := by kernel_rfl
@[go_sem] theorem ty_1212 : isSl Try.prog 192 = false := by kernel_rfl
@[go_sem] theorem ty_1213 : isSt Try.prog 192 = false := by kernel_rfl
@[go_sem] theorem ty_1214 : nif Try.prog 192 = true := by kernel_rfl
@[go_sem] theorem ty_1215 : isIf Try.prog 192 = false := by kernel_rfl
@[go_sem] theorem ty_1216 : isPt Try.prog 192 = false := by kernel_rfl
@[go_sem] theorem ty_1217 : isBo Try.prog 192 = false := by kernel_rfl
@[go_sem] theorem ty_1218 : slT Try.prog 192 = none := by kernel_rfl
@[go_sem] theorem ty_1219 : zeroA Try.prog 192 = some (.agg [.nilsl, .int .i64 0, .int .i64 0]) := by kernel_rfl
@[go_sem] theorem ty_1220 : fAt Try.prog 192 0 = some 0 := by kernel_rfl
@[go_sem] theorem ty_1221 : fLd Try.prog 192 0 = some (0, none) := by kernel_rfl
@[go_sem] theorem ty_1222 : fAt Try.prog 192 1 = some 1 := by kernel_rfl
@[go_sem] theorem ty_1223 : fLd Try.prog 192 1 = some (1, none) := by kernel_rfl
@[go_sem] theorem ty_1224 : fAt Try.prog 192 2 = some 2 := by kernel_rfl
@[go_sem] theorem ty_1225 : fLd Try.prog 192 2 = some (2, none) := by kernel_rfl
@[go_sem] theorem ty_1226 : bldT Try.prog 192 = some (.inl [(0, 1), (1, 1), (2, 1)]) := by kernel_rfl
@[go_sem] theorem ty_1227 : szT Try.prog 193 = some 3 := by kernel_rfl
@[go_sem] theorem ty_1228 : byT Try.prog 193 = some 40 := by kernel_rfl
@[go_sem] theorem ty_1229 : aggT Try.prog 193 = some true := by kernel_rfl
@[go_sem] theorem ty_1230 : ldT Try.prog 193 = some (some 3) := by kernel_rfl
@[go_sem] theorem ty_1231 : isSl Try.prog 193 = false := by kernel_rfl
@[go_sem] theorem ty_1232 : isSt Try.prog 193 = false := by kernel_rfl
@[go_sem] theorem ty_1233 : nif Try.prog 193 = true := by kernel_rfl
@[go_sem] theorem ty_1234 : isIf Try.prog 193 = false := by kernel_rfl
@[go_sem] theorem ty_1235 : isPt Try.prog 193 = false := by kernel_rfl
@[go_sem] theorem ty_1236 : isBo Try.prog 193 = false := by kernel_rfl
@[go_sem] theorem ty_1237 : slT Try.prog 193 = none := by kernel_rfl
@[go_sem] theorem ty_1238 : zeroA Try.prog 193 = some (.agg [.nilsl, .int .i64 0, .int .i64 0]) := by kernel_rfl
@[go_sem] theorem ty_1239 : fAt Try.prog 193 0 = some 0 := by kernel_rfl
@[go_sem] theorem ty_1240 : fLd Try.prog 193 0 = some (0, none) := by kernel_rfl
@[go_sem] theorem ty_1241 : fAt Try.prog 193 1 = some 1 := by kernel_rfl
@[go_sem] theorem ty_1242 : fLd Try.prog 193 1 = some (1, none) := by kernel_rfl
@[go_sem] theorem ty_1243 : fAt Try.prog 193 2 = some 2 := by kernel_rfl
@[go_sem] theorem ty_1244 : fLd Try.prog 193 2 = some (2, none) := by kernel_rfl
@[go_sem] theorem ty_1245 : bldT Try.prog 193 = some (.inl [(0, 1), (1, 1), (2, 1)]) := by kernel_rfl
@[go_sem] theorem ty_1246 : szT Try.prog 198 = some 1 := by kernel_rfl
@[go_sem] theorem ty_1247 : byT Try.prog 198 = some 8 := by kernel_rfl
@[go_sem] theorem ty_1248 : aggT Try.prog 198 = some true := by kernel_rfl
@[go_sem] theorem ty_1249 : ldT Try.prog 198 = some (some 1) := by kernel_rfl
@[go_sem] theorem ty_1250 : isSl Try.prog 198 = false := by kernel_rfl
@[go_sem] theorem ty_1251 : isSt Try.prog 198 = false := by kernel_rfl
@[go_sem] theorem ty_1252 : nif Try.prog 198 = true := by kernel_rfl
@[go_sem] theorem ty_1253 : isIf Try.prog 198 = false := by kernel_rfl
@[go_sem] theorem ty_1254 : isPt Try.prog 198 = false := by kernel_rfl
@[go_sem] theorem ty_1255 : isBo Try.prog 198 = false := by kernel_rfl
@[go_sem] theorem ty_1256 : slT Try.prog 198 = none := by kernel_rfl
@[go_sem] theorem ty_1257 : zeroA Try.prog 198 = some (.agg [.nilptr]) := by kernel_rfl
@[go_sem] theorem ty_1258 : fAt Try.prog 198 0 = some 0 := by kernel_rfl
@[go_sem] theorem ty_1259 : fLd Try.prog 198 0 = some (0, none) := by kernel_rfl
@[go_sem] theorem ty_1260 : bldT Try.prog 198 = some (.inl [(0, 1)]) := by kernel_rfl
@[go_sem] theorem ty_1261 : szT Try.prog 199 = some 1 := by kernel_rfl
@[go_sem] theorem ty_1262 : byT Try.prog 199 = some 8 := by kernel_rfl
@[go_sem] theorem ty_1263 : aggT Try.prog 199 = some true := by kernel_rfl
@[go_sem] theorem ty_1264 : ldT Try.prog 199 = some (some 1) := by kernel_rfl
@[go_sem] theorem ty_1265 : isSl Try.prog 199 = false := by kernel_rfl
@[go_sem] theorem ty_1266 : isSt Try.prog 199 = false := by kernel_rfl
@[go_sem] theorem ty_1267 : nif Try.prog 199 = true := by kernel_rfl
@[go_sem] theorem ty_1268 : isIf Try.prog 199 = false := by kernel_rfl
@[go_sem] theorem ty_1269 : isPt Try.prog 199 = false := by kernel_rfl
@[go_sem] theorem ty_1270 : isBo Try.prog 199 = false := by kernel_rfl
@[go_sem] theorem ty_1271 : slT Try.prog 199 = none := by kernel_rfl
@[go_sem] theorem ty_1272 : zeroA Try.prog 199 = some (.agg [.nilptr]) := by kernel_rfl
@[go_sem] theorem ty_1273 : fAt Try.prog 199 0 = some 0 := by kernel_rfl
@[go_sem] theorem ty_1274 : fLd Try.prog 199 0 = some (0, none) := by kernel_rfl
@[go_sem] theorem ty_1275 : bldT Try.prog 199 = some (.inl [(0, 1)]) := by kernel_rfl
@[go_sem] theorem ty_1276 : szT Try.prog 200 = some 3 := by kernel_rfl
@[go_sem] theorem ty_1277 : byT Try.prog 200 = some 40 := by kernel_rfl
@[go_sem] theorem ty_1278 : aggT Try.prog 200 = some true := by kernel_rfl
@[go_sem] theorem ty_1279 : ldT Try.prog 200 = some (some 3) := by kernel_rfl
@[go_sem] theorem ty_1280 : isSl Try.prog 200 = false := by kernel_rfl
@[go_sem] theorem ty_1281 : isSt Try.prog 200 = false := by kernel_rfl
@[go_sem] theorem ty_1282 : nif Try.prog 200 = true := by kernel_rfl
@[go_sem] theorem ty_1283 : isIf Try.prog 200 = false := by kernel_rfl
@[go_sem] theorem ty_1284 : isPt Try.prog 200 = false := by kernel_rfl
@[go_sem] theorem ty_1285 : isBo Try.prog 200 = false := by kernel_rfl
@[go_sem] theorem ty_1286 : slT Try.prog 200 = none := by kernel_rfl
@[go_sem] theorem ty_1287 : zeroA Try.prog 200 = some (.agg [.nilptr, .nilsl, .bool false]) := by kernel_rfl
@[go_sem] theorem ty_1288 : fAt Try.prog 200 0 = some 0 := by kernel_rfl
@[go_sem] theorem ty_1289 : fLd Try.prog 200 0 = some (0, some 1) := by kernel_rfl
@[go_sem] theorem ty_1290 : fAt Try.prog 200 1 = some 1 := by kernel_rfl
@[go_sem] theorem ty_1291 : fLd Try.prog 200 1 = some (1, none) := by kernel_rfl
@[go_sem] theorem ty_1292 : fAt Try.prog 200 2 = some 2 := by kernel_rfl
@[go_sem] theorem ty_1293 : fLd Try.prog 200 2 = some (2, none) := by kernel_rfl
@[go_sem] theorem ty_1294 : bldT Try.prog 200 = some (.inl [(0, 1), (1, 1), (2, 1)]) := by kernel_rfl
@[go_sem] theorem ty_1295 : szT Try.prog 201 = some 3 := by kernel_rfl
@[go_sem] theorem ty_1296 : byT Try.prog 201 = some 40 := by kernel_rfl
@[go_sem] theorem ty_1297 : aggT Try.prog 201 = some true := by kernel_rfl
@[go_sem] theorem ty_1298 : ldT Try.prog 201 = some (some 3) := by kernel_rfl
@[go_sem] theorem ty_1299 : isSl Try.prog 201 = false := by kernel_rfl
@[go_sem] theorem ty_1300 : isSt Try.prog 201 = false := by kernel_rfl
@[go_sem] theorem ty_1301 : nif Try.prog 201 = true := by kernel_rfl
@[go_sem] theorem ty_1302 : isIf Try.prog 201 = false := by kernel_rfl
@[go_sem] theorem ty_1303 : isPt Try.prog 201 = false := by kernel_rfl
@[go_sem] theorem ty_1304 : isBo Try.prog 201 = false := by kernel_rfl
@[go_sem] theorem ty_1305 : slT Try.prog 201 = none := by kernel_rfl
@[go_sem] theorem ty_1306 : zeroA Try.prog 201 = some (.agg [.nilptr, .nilsl, .bool false]) := by kernel_rfl
@[go_sem] theorem ty_1307 : fAt Try.prog 201 0 = some 0 := by kernel_rfl
@[go_sem] theorem ty_1308 : fLd Try.prog 201 0 = some (0, some 1) := by kernel_rfl
@[go_sem] theorem ty_1309 : fAt Try.prog 201 1 = some 1 := by kernel_rfl
@[go_sem] theorem ty_1310 : fLd Try.prog 201 1 = some (1, none) := by kernel_rfl
@[go_sem] theorem ty_1311 : fAt Try.prog 201 2 = some 2 := by kernel_rfl
@[go_sem] theorem ty_1312 : fLd Try.prog 201 2 = some (2, none) := by kernel_rfl
@[go_sem] theorem ty_1313 : bldT Try.prog 201 = some (.inl [(0, 1), (1, 1), (2, 1)]) := by kernel_rfl
@[go_sem] theorem ty_1314 : szT Try.prog 211 = some 1 := by kernel_rfl
@[go_sem] theorem ty_1315 : byT Try.prog 211 = some 8 := by kernel_rfl
@[go_sem] theorem ty_1316 : aggT Try.prog 211 = some false := by kernel_rfl
@[go_sem] theorem ty_1317 : ldT Try.prog 211 = some none := by kernel_rfl
@[go_sem] theorem ty_1318 : isSl Try.prog 211 = false := by kernel_rfl
@[go_sem] theorem ty_1319 : isSt Try.prog 211 = false := by kernel_rfl
@[go_sem] theorem ty_1320 : nif Try.prog 211 = true := by kernel_rfl
@[go_sem] theorem ty_1321 : isIf Try.prog 211 = false := by kernel_rfl
@[go_sem] theorem ty_1322 : isPt Try.prog 211 = true := by kernel_rfl
@[go_sem] theorem ty_1323 : ptrT Try.prog 211 = true := by kernel_rfl
@[go_sem] theorem ty_1324 : isBo Try.prog 211 = false := by kernel_rfl
@[go_sem] theorem ty_1325 : slT Try.prog 211 = none := by kernel_rfl
@[go_sem] theorem ty_1326 : zeroA Try.prog 211 = some (.nilptr) := by kernel_rfl
@[go_sem] theorem ty_1327 : methA Try.prog 211 "End" = some 146 := by kernel_rfl
@[go_sem] theorem ty_1328 : methA Try.prog 211 "Err" = some 208 := by kernel_rfl
@[go_sem] theorem ty_1329 : methA Try.prog 211 "Fail" = some 144 := by kernel_rfl
@[go_sem] theorem ty_1330 : methA Try.prog 211 "Left" = some 254 := by kernel_rfl
@[go_sem] theorem ty_1331 : methA Try.prog 211 "Num" = some 143 := by kernel_rfl
@[go_sem] theorem ty_1332 : methA Try.prog 211 "Text" = some 145 := by kernel_rfl
@[go_sem] theorem ty_1333 : methA Try.prog 211 "siskin/octet.look" = some 207 := by kernel_rfl
@[go_sem] theorem ty_1334 : methA Try.prog 211 "siskin/octet.most" = some 240 := by kernel_rfl
@[go_sem] theorem ty_1335 : szT Try.prog 217 = some 1 := by kernel_rfl
@[go_sem] theorem ty_1336 : byT Try.prog 217 = some 8 := by kernel_rfl
@[go_sem] theorem ty_1337 : aggT Try.prog 217 = some false := by kernel_rfl
@[go_sem] theorem ty_1338 : ldT Try.prog 217 = some none := by kernel_rfl
@[go_sem] theorem ty_1339 : isSl Try.prog 217 = false := by kernel_rfl
@[go_sem] theorem ty_1340 : isSt Try.prog 217 = false := by kernel_rfl
@[go_sem] theorem ty_1341 : nif Try.prog 217 = true := by kernel_rfl
@[go_sem] theorem ty_1342 : isIf Try.prog 217 = false := by kernel_rfl
@[go_sem] theorem ty_1343 : isPt Try.prog 217 = true := by kernel_rfl
@[go_sem] theorem ty_1344 : ptrT Try.prog 217 = true := by kernel_rfl
@[go_sem] theorem ty_1345 : isBo Try.prog 217 = false := by kernel_rfl
@[go_sem] theorem ty_1346 : slT Try.prog 217 = none := by kernel_rfl
@[go_sem] theorem ty_1347 : zeroA Try.prog 217 = some (.nilptr) := by kernel_rfl
@[go_sem] theorem ty_1348 : methA Try.prog 217 "End" = some 150 := by kernel_rfl
@[go_sem] theorem ty_1349 : methA Try.prog 217 "Fail" = some 148 := by kernel_rfl
@[go_sem] theorem ty_1350 : methA Try.prog 217 "Num" = some 147 := by kernel_rfl
@[go_sem] theorem ty_1351 : methA Try.prog 217 "Text" = some 149 := by kernel_rfl
@[go_sem] theorem ty_1352 : szT Try.prog 218 = some 2 := by kernel_rfl
@[go_sem] theorem ty_1353 : byT Try.prog 218 = some 24 := by kernel_rfl
@[go_sem] theorem ty_1354 : aggT Try.prog 218 = some true := by kernel_rfl
@[go_sem] theorem ty_1355 : ldT Try.prog 218 = some (some 2) := by kernel_rfl
@[go_sem] theorem ty_1356 : isSl Try.prog 218 = false := by kernel_rfl
@[go_sem] theorem ty_1357 : isSt Try.prog 218 = false := by kernel_rfl
@[go_sem] theorem ty_1358 : nif Try.prog 218 = true := by kernel_rfl
@[go_sem] theorem ty_1359 : isIf Try.prog 218 = false := by kernel_rfl
@[go_sem] theorem ty_1360 : isPt Try.prog 218 = false := by kernel_rfl
@[go_sem] theorem ty_1361 : isBo Try.prog 218 = false := by kernel_rfl
@[go_sem] theorem ty_1362 : slT Try.prog 218 = none := by kernel_rfl
@[go_sem] theorem ty_1363 : zeroA Try.prog 218 = some (.agg [.str ⟨#[]⟩, .int .i64 0]) := by kernel_rfl
@[go_sem] theorem ty_1364 : fAt Try.prog 218 0 = some 0 := by kernel_rfl
@[go_sem] theorem ty_1365 : fLd Try.prog 218 0 = some (0, none) := by kernel_rfl
@[go_sem] theorem ty_1366 : fAt Try.prog 218 1 = some 1 := by kernel_rfl
@[go_sem] theorem ty_1367 : fLd Try.prog 218 1 = some (1, none) := by kernel_rfl
@[go_sem] theorem ty_1368 : bldT Try.prog 218 = some (.inl [(0, 1), (1, 1)]) := by kernel_rfl
@[go_sem] theorem ty_1369 : szT Try.prog 219 = some 2 := by kernel_rfl
@[go_sem] theorem ty_1370 : byT Try.prog 219 = some 24 := by kernel_rfl
@[go_sem] theorem ty_1371 : aggT Try.prog 219 = some true := by kernel_rfl
@[go_sem] theorem ty_1372 : ldT Try.prog 219 = some (some 2) := by kernel_rfl
@[go_sem] theorem ty_1373 : isSl Try.prog 219 = false := by kernel_rfl
@[go_sem] theorem ty_1374 : isSt Try.prog 219 = false := by kernel_rfl
@[go_sem] theorem ty_1375 : nif Try.prog 219 = true := by kernel_rfl
@[go_sem] theorem ty_1376 : isIf Try.prog 219 = false := by kernel_rfl
@[go_sem] theorem ty_1377 : isPt Try.prog 219 = false := by kernel_rfl
@[go_sem] theorem ty_1378 : isBo Try.prog 219 = false := by kernel_rfl
@[go_sem] theorem ty_1379 : slT Try.prog 219 = none := by kernel_rfl
@[go_sem] theorem ty_1380 : zeroA Try.prog 219 = some (.agg [.str ⟨#[]⟩, .int .i64 0]) := by kernel_rfl
@[go_sem] theorem ty_1381 : fAt Try.prog 219 0 = some 0 := by kernel_rfl
@[go_sem] theorem ty_1382 : fLd Try.prog 219 0 = some (0, none) := by kernel_rfl
@[go_sem] theorem ty_1383 : fAt Try.prog 219 1 = some 1 := by kernel_rfl
@[go_sem] theorem ty_1384 : fLd Try.prog 219 1 = some (1, none) := by kernel_rfl
@[go_sem] theorem ty_1385 : bldT Try.prog 219 = some (.inl [(0, 1), (1, 1)]) := by kernel_rfl
@[go_sem] theorem ty_1386 : szT Try.prog 224 = some 1 := by kernel_rfl
@[go_sem] theorem ty_1387 : byT Try.prog 224 = some 8 := by kernel_rfl
@[go_sem] theorem ty_1388 : aggT Try.prog 224 = some true := by kernel_rfl
@[go_sem] theorem ty_1389 : ldT Try.prog 224 = some (some 1) := by kernel_rfl
@[go_sem] theorem ty_1390 : isSl Try.prog 224 = false := by kernel_rfl
@[go_sem] theorem ty_1391 : isSt Try.prog 224 = false := by kernel_rfl
@[go_sem] theorem ty_1392 : nif Try.prog 224 = true := by kernel_rfl
@[go_sem] theorem ty_1393 : isIf Try.prog 224 = false := by kernel_rfl
@[go_sem] theorem ty_1394 : isPt Try.prog 224 = false := by kernel_rfl
@[go_sem] theorem ty_1395 : isBo Try.prog 224 = false := by kernel_rfl
@[go_sem] theorem ty_1396 : slT Try.prog 224 = none := by kernel_rfl
@[go_sem] theorem ty_1397 : zeroA Try.prog 224 = some (.agg [.nilptr]) := by kernel_rfl
@[go_sem] theorem ty_1398 : fAt Try.prog 224 0 = some 0 := by kernel_rfl
@[go_sem] theorem ty_1399 : fLd Try.prog 224 0 = some (0, none) := by kernel_rfl
@[go_sem] theorem ty_1400 : bldT Try.prog 224 = some (.inl [(0, 1)]) := by kernel_rfl
@[go_sem] theorem ty_1401 : szT Try.prog 225 = some 1 := by kernel_rfl
@[go_sem] theorem ty_1402 : byT Try.prog 225 = some 8 := by kernel_rfl
@[go_sem] theorem ty_1403 : aggT Try.prog 225 = some true := by kernel_rfl
@[go_sem] theorem ty_1404 : ldT Try.prog 225 = some (some 1) := by kernel_rfl
@[go_sem] theorem ty_1405 : isSl Try.prog 225 = false := by kernel_rfl
@[go_sem] theorem ty_1406 : isSt Try.prog 225 = false := by kernel_rfl
@[go_sem] theorem ty_1407 : nif Try.prog 225 = true := by kernel_rfl
@[go_sem] theorem ty_1408 : isIf Try.prog 225 = false := by kernel_rfl
@[go_sem] theorem ty_1409 : isPt Try.prog 225 = false := by kernel_rfl
@[go_sem] theorem ty_1410 : isBo Try.prog 225 = false := by kernel_rfl
@[go_sem] theorem ty_1411 : slT Try.prog 225 = none := by kernel_rfl
@[go_sem] theorem ty_1412 : zeroA Try.prog 225 = some (.agg [.nilptr]) := by kernel_rfl
@[go_sem] theorem ty_1413 : fAt Try.prog 225 0 = some 0 := by kernel_rfl
@[go_sem] theorem ty_1414 : fLd Try.prog 225 0 = some (0, none) := by kernel_rfl
@[go_sem] theorem ty_1415 : bldT Try.prog 225 = some (.inl [(0, 1)]) := by kernel_rfl
@[go_sem] theorem ty_1416 : methA Try.prog 225 "siskin/ledger.down" = some 159 := by kernel_rfl
@[go_sem] theorem ty_1417 : szT Try.prog 226 = some 3 := by kernel_rfl
@[go_sem] theorem ty_1418 : byT Try.prog 226 = some 40 := by kernel_rfl
@[go_sem] theorem ty_1419 : aggT Try.prog 226 = some true := by kernel_rfl
@[go_sem] theorem ty_1420 : ldT Try.prog 226 = some (some 3) := by kernel_rfl
@[go_sem] theorem ty_1421 : isSl Try.prog 226 = false := by kernel_rfl
@[go_sem] theorem ty_1422 : isSt Try.prog 226 = false := by kernel_rfl
@[go_sem] theorem ty_1423 : nif Try.prog 226 = true := by kernel_rfl
@[go_sem] theorem ty_1424 : isIf Try.prog 226 = false := by kernel_rfl
@[go_sem] theorem ty_1425 : isPt Try.prog 226 = false := by kernel_rfl
@[go_sem] theorem ty_1426 : isBo Try.prog 226 = false := by kernel_rfl
@[go_sem] theorem ty_1427 : slT Try.prog 226 = none := by kernel_rfl
@[go_sem] theorem ty_1428 : zeroA Try.prog 226 = some (.agg [.nilptr, .nilsl, .int .i64 0]) := by kernel_rfl
@[go_sem] theorem ty_1429 : fAt Try.prog 226 0 = some 0 := by kernel_rfl
@[go_sem] theorem ty_1430 : fLd Try.prog 226 0 = some (0, some 1) := by kernel_rfl
@[go_sem] theorem ty_1431 : fAt Try.prog 226 1 = some 1 := by kernel_rfl
@[go_sem] theorem ty_1432 : fLd Try.prog 226 1 = some (1, none) := by kernel_rfl
@[go_sem] theorem ty_1433 : fAt Try.prog 226 2 = some 2 := by kernel_rfl
@[go_sem] theorem ty_1434 : fLd Try.prog 226 2 = some (2, none) := by kernel_rfl
@[go_sem] theorem ty_1435 : bldT Try.prog 226 = some (.inl [(0, 1), (1, 1), (2, 1)]) := by kernel_rfl
@[go_sem] theorem ty_1436 : szT Try.prog 227 = some 3 := by kernel_rfl
@[go_sem] theorem ty_1437 : byT Try.prog 227 = some 40 := by kernel_rfl
@[go_sem] theorem ty_1438 : aggT Try.prog 227 = some true := by kernel_rfl
@[go_sem] theorem ty_1439 : ldT Try.prog 227 = some (some 3) := by kernel_rfl
@[go_sem] theorem ty_1440 : isSl Try.prog 227 = false := by kernel_rfl
@[go_sem] theorem ty_1441 : isSt Try.prog 227 = false := by kernel_rfl
@[go_sem] theorem ty_1442 : nif Try.prog 227 = true := by kernel_rfl
@[go_sem] theorem ty_1443 : isIf Try.prog 227 = false := by kernel_rfl
@[go_sem] theorem ty_1444 : isPt Try.prog 227 = false := by kernel_rfl
@[go_sem] theorem ty_1445 : isBo Try.prog 227 = false := by kernel_rfl
@[go_sem] theorem ty_1446 : slT Try.prog 227 = none := by kernel_rfl
@[go_sem] theorem ty_1447 : zeroA Try.prog 227 = some (.agg [.nilptr, .nilsl, .int .i64 0]) := by kernel_rfl
@[go_sem] theorem ty_1448 : fAt Try.prog 227 0 = some 0 := by kernel_rfl
@[go_sem] theorem ty_1449 : fLd Try.prog 227 0 = some (0, some 1) := by kernel_rfl
@[go_sem] theorem ty_1450 : fAt Try.prog 227 1 = some 1 := by kernel_rfl
@[go_sem] theorem ty_1451 : fLd Try.prog 227 1 = some (1, none) := by kernel_rfl
@[go_sem] theorem ty_1452 : fAt Try.prog 227 2 = some 2 := by kernel_rfl
@[go_sem] theorem ty_1453 : fLd Try.prog 227 2 = some (2, none) := by kernel_rfl
@[go_sem] theorem ty_1454 : bldT Try.prog 227 = some (.inl [(0, 1), (1, 1), (2, 1)]) := by kernel_rfl
@[go_sem] theorem ty_1455 : szT Try.prog 241 = some 1 := by kernel_rfl
@[go_sem] theorem ty_1456 : byT Try.prog 241 = some 24 := by kernel_rfl
@[go_sem] theorem ty_1457 : aggT Try.prog 241 = some false := by kernel_rfl
@[go_sem] theorem ty_1458 : ldT Try.prog 241 = some none := by kernel_rfl
@[go_sem] theorem ty_1459 : isSl Try.prog 241 = true := by kernel_rfl
@[go_sem] theorem ty_1460 : isSt Try.prog 241 = false := by kernel_rfl
@[go_sem] theorem ty_1461 : nif Try.prog 241 = true := by kernel_rfl
@[go_sem] theorem ty_1462 : isIf Try.prog 241 = false := by kernel_rfl
@[go_sem] theorem ty_1463 : isPt Try.prog 241 = false := by kernel_rfl
@[go_sem] theorem ty_1464 : isBo Try.prog 241 = false := by kernel_rfl
@[go_sem] theorem ty_1465 : slT Try.prog 241 = some 216 := by kernel_rfl
@[go_sem] theorem ty_1466 : zeroA Try.prog 241 = some (.nilsl) := by kernel_rfl
@[go_sem] theorem ty_1467 : apT Try.prog 241 241 = some (216, 1, 8) := by kernel_rfl
@[go_sem] theorem ty_1468 : szT Try.prog 246 = some 1 := by kernel_rfl
@[go_sem] theorem ty_1469 : byT Try.prog 246 = some 8 := by kernel_rfl
@[go_sem] theorem ty_1470 : aggT Try.prog 246 = some false := by kernel_rfl
@[go_sem] theorem ty_1471 : ldT Try.prog 246 = some none := by kernel_rfl
@[go_sem] theorem ty_1472 : isSl Try.prog 246 = false := by kernel_rfl
@[go_sem] theorem ty_1473 : isSt Try.prog 246 = false := by kernel_rfl
@[go_sem] theorem ty_1474 : nif Try.prog 246 = true := by kernel_rfl
@[go_sem] theorem ty_1475 : isIf Try.prog 246 = false := by kernel_rfl
@[go_sem] theorem ty_1476 : isPt Try.prog 246 = true := by kernel_rfl
@[go_sem] theorem ty_1477 : ptrT Try.prog 246 = true := by kernel_rfl
@[go_sem] theorem ty_1478 : isBo Try.prog 246 = false := by kernel_rfl
@[go_sem] theorem ty_1479 : slT Try.prog 246 = none := by kernel_rfl
@[go_sem] theorem ty_1480 : zeroA Try.prog 246 = some (.nilptr) := by kernel_rfl
@[go_sem] theorem ty_1481 : szT Try.prog 248 = some 2 := by kernel_rfl
@[go_sem] theorem ty_1482 : byT Try.prog 248 = some 24 := by kernel_rfl
@[go_sem] theorem ty_1483 : aggT Try.prog 248 = some true := by kernel_rfl
@[go_sem] theorem ty_1484 : ldT Try.prog 248 = some (some 2) := by kernel_rfl
@[go_sem] theorem ty_1485 : isSl Try.prog 248 = false := by kernel_rfl
@[go_sem] theorem ty_1486 : isSt Try.prog 248 = false := by kernel_rfl
@[go_sem] theorem ty_1487 : nif Try.prog 248 = true := by kernel_rfl
@[go_sem] theorem ty_1488 : isIf Try.prog 248 = false := by kernel_rfl
@[go_sem] theorem ty_1489 : isPt Try.prog 248 = false := by kernel_rfl
@[go_sem] theorem ty_1490 : isBo Try.prog 248 = false := by kernel_rfl
@[go_sem] theorem ty_1491 : slT Try.prog 248 = none := by kernel_rfl
@[go_sem] theorem ty_1492 : zeroA Try.prog 248 = some (.agg [.str ⟨#[]⟩, .int .i64 0]) := by kernel_rfl
@[go_sem] theorem ty_1493 : fAt Try.prog 248 0 = some 0 := by kernel_rfl
@[go_sem] theorem ty_1494 : fLd Try.prog 248 0 = some (0, none) := by kernel_rfl
@[go_sem] theorem ty_1495 : fAt Try.prog 248 1 = some 1 := by kernel_rfl
@[go_sem] theorem ty_1496 : fLd Try.prog 248 1 = some (1, none) := by kernel_rfl
@[go_sem] theorem ty_1497 : bldT Try.prog 248 = some (.inl [(0, 1), (1, 1)]) := by kernel_rfl
@[go_sem] theorem ty_1498 : szT Try.prog 252 = some 1 := by kernel_rfl
@[go_sem] theorem ty_1499 : byT Try.prog 252 = some 24 := by kernel_rfl
@[go_sem] theorem ty_1500 : aggT Try.prog 252 = some false := by kernel_rfl
@[go_sem] theorem ty_1501 : ldT Try.prog 252 = some none := by kernel_rfl
@[go_sem] theorem ty_1502 : isSl Try.prog 252 = true := by kernel_rfl
@[go_sem] theorem ty_1503 : isSt Try.prog 252 = false := by kernel_rfl
@[go_sem] theorem ty_1504 : nif Try.prog 252 = true := by kernel_rfl
@[go_sem] theorem ty_1505 : isIf Try.prog 252 = false := by kernel_rfl
@[go_sem] theorem ty_1506 : isPt Try.prog 252 = false := by kernel_rfl
@[go_sem] theorem ty_1507 : isBo Try.prog 252 = false := by kernel_rfl
@[go_sem] theorem ty_1508 : slT Try.prog 252 = some 173 := by kernel_rfl
@[go_sem] theorem ty_1509 : zeroA Try.prog 252 = some (.nilsl) := by kernel_rfl
@[go_sem] theorem ty_1510 : apT Try.prog 252 252 = some (173, 1, 16) := by kernel_rfl
@[go_sem] theorem ty_1511 : szT Try.prog 253 = some 2 := by kernel_rfl
@[go_sem] theorem ty_1512 : byT Try.prog 253 = some 16 := by kernel_rfl
@[go_sem] theorem ty_1513 : aggT Try.prog 253 = some true := by kernel_rfl
@[go_sem] theorem ty_1514 : ldT Try.prog 253 = some (some 2) := by kernel_rfl
@[go_sem] theorem ty_1515 : isSl Try.prog 253 = false := by kernel_rfl
@[go_sem] theorem ty_1516 : isSt Try.prog 253 = false := by kernel_rfl
@[go_sem] theorem ty_1517 : nif Try.prog 253 = true := by kernel_rfl
@[go_sem] theorem ty_1518 : isIf Try.prog 253 = false := by kernel_rfl
@[go_sem] theorem ty_1519 : isPt Try.prog 253 = false := by kernel_rfl
@[go_sem] theorem ty_1520 : isBo Try.prog 253 = false := by kernel_rfl
@[go_sem] theorem ty_1521 : slT Try.prog 253 = none := by kernel_rfl
@[go_sem] theorem ty_1522 : zeroA Try.prog 253 = some (.agg [.int .i64 0, .int .i64 0]) := by kernel_rfl
@[go_sem] theorem ty_1523 : fAt Try.prog 253 0 = some 0 := by kernel_rfl
@[go_sem] theorem ty_1524 : fLd Try.prog 253 0 = some (0, some 2) := by kernel_rfl
@[go_sem] theorem ty_1525 : bldT Try.prog 253 = some (.inl [(0, 2)]) := by kernel_rfl
@[go_sem] theorem ty_1526 : szT Try.prog 254 = some 2 := by kernel_rfl
@[go_sem] theorem ty_1527 : byT Try.prog 254 = some 16 := by kernel_rfl
@[go_sem] theorem ty_1528 : aggT Try.prog 254 = some true := by kernel_rfl
@[go_sem] theorem ty_1529 : ldT Try.prog 254 = some (some 2) := by kernel_rfl
@[go_sem] theorem ty_1530 : isSl Try.prog 254 = false := by kernel_rfl
@[go_sem] theorem ty_1531 : isSt Try.prog 254 = false := by kernel_rfl
@[go_sem] theorem ty_1532 : nif Try.prog 254 = true := by kernel_rfl
@[go_sem] theorem ty_1533 : isIf Try.prog 254 = false := by kernel_rfl
@[go_sem] theorem ty_1534 : isPt Try.prog 254 = false := by kernel_rfl
@[go_sem] theorem ty_1535 : isBo Try.prog 254 = false := by kernel_rfl
@[go_sem] theorem ty_1536 : slT Try.prog 254 = none := by kernel_rfl
@[go_sem] theorem ty_1537 : zeroA Try.prog 254 = some (.agg [.int .i64 0, .int .i64 0]) := by kernel_rfl
@[go_sem] theorem ty_1538 : fAt Try.prog 254 0 = some 0 := by kernel_rfl
@[go_sem] theorem ty_1539 : fLd Try.prog 254 0 = some (0, some 2) := by kernel_rfl
@[go_sem] theorem ty_1540 : bldT Try.prog 254 = some (.inl [(0, 2)]) := by kernel_rfl
@[go_sem] theorem ty_1541 : methA Try.prog 254 "siskin/need.deep" = some 280 := by kernel_rfl
@[go_sem] theorem ty_1542 : methA Try.prog 254 "siskin/need.says" = some 281 := by kernel_rfl
@[go_sem] theorem ty_1543 : szT Try.prog 255 = some 1 := by kernel_rfl
@[go_sem] theorem ty_1544 : byT Try.prog 255 = some 16 := by kernel_rfl
@[go_sem] theorem ty_1545 : aggT Try.prog 255 = some true := by kernel_rfl
@[go_sem] theorem ty_1546 : ldT Try.prog 255 = some (some 1) := by kernel_rfl
@[go_sem] theorem ty_1547 : isSl Try.prog 255 = false := by kernel_rfl
@[go_sem] theorem ty_1548 : isSt Try.prog 255 = false := by kernel_rfl
@[go_sem] theorem ty_1549 : nif Try.prog 255 = true := by kernel_rfl
@[go_sem] theorem ty_1550 : isIf Try.prog 255 = false := by kernel_rfl
@[go_sem] theorem ty_1551 : isPt Try.prog 255 = false := by kernel_rfl
@[go_sem] theorem ty_1552 : isBo Try.prog 255 = false := by kernel_rfl
@[go_sem] theorem ty_1553 : slT Try.prog 255 = none := by kernel_rfl
@[go_sem] theorem ty_1554 : zeroA Try.prog 255 = some (.agg [.nilIface]) := by kernel_rfl
@[go_sem] theorem ty_1555 : fAt Try.prog 255 0 = some 0 := by kernel_rfl
@[go_sem] theorem ty_1556 : fLd Try.prog 255 0 = some (0, none) := by kernel_rfl
@[go_sem] theorem ty_1557 : bldT Try.prog 255 = some (.inl [(0, 1)]) := by kernel_rfl
@[go_sem] theorem ty_1558 : szT Try.prog 256 = some 1 := by kernel_rfl
@[go_sem] theorem ty_1559 : byT Try.prog 256 = some 16 := by kernel_rfl
@[go_sem] theorem ty_1560 : aggT Try.prog 256 = some true := by kernel_rfl
@[go_sem] theorem ty_1561 : ldT Try.prog 256 = some (some 1) := by kernel_rfl
@[go_sem] theorem ty_1562 : isSl Try.prog 256 = false := by kernel_rfl
@[go_sem] theorem ty_1563 : isSt Try.prog 256 = false := by kernel_rfl
@[go_sem] theorem ty_1564 : nif Try.prog 256 = true := by kernel_rfl
@[go_sem] theorem ty_1565 : isIf Try.prog 256 = false := by kernel_rfl
@[go_sem] theorem ty_1566 : isPt Try.prog 256 = false := by kernel_rfl
@[go_sem] theorem ty_1567 : isBo Try.prog 256 = false := by kernel_rfl
@[go_sem] theorem ty_1568 : slT Try.prog 256 = none := by kernel_rfl
@[go_sem] theorem ty_1569 : zeroA Try.prog 256 = some (.agg [.nilIface]) := by kernel_rfl
@[go_sem] theorem ty_1570 : fAt Try.prog 256 0 = some 0 := by kernel_rfl
@[go_sem] theorem ty_1571 : fLd Try.prog 256 0 = some (0, none) := by kernel_rfl
@[go_sem] theorem ty_1572 : bldT Try.prog 256 = some (.inl [(0, 1)]) := by kernel_rfl
@[go_sem] theorem ty_1573 : methA Try.prog 256 "siskin/need.deep" = some 282 := by kernel_rfl
@[go_sem] theorem ty_1574 : methA Try.prog 256 "siskin/need.says" = some 283 := by kernel_rfl
@[go_sem] theorem ty_1575 : szT Try.prog 257 = some 3 := by kernel_rfl
@[go_sem] theorem ty_1576 : byT Try.prog 257 = some 40 := by kernel_rfl
@[go_sem] theorem ty_1577 : aggT Try.prog 257 = some true := by kernel_rfl
@[go_sem] theorem ty_1578 : ldT Try.prog 257 = some (some 3) := by kernel_rfl
@[go_sem] theorem ty_1579 : isSl Try.prog 257 = false := by kernel_rfl
@[go_sem] theorem ty_1580 : isSt Try.prog 257 = false := by kernel_rfl
@[go_sem] theorem ty_1581 : nif Try.prog 257 = true := by kernel_rfl
@[go_sem] theorem ty_1582 : isIf Try.prog 257 = false := by kernel_rfl
@[go_sem] theorem ty_1583 : isPt Try.prog 257 = false := by kernel_rfl
@[go_sem] theorem ty_1584 : isBo Try.prog 257 = false := by kernel_rfl
@[go_sem] theorem ty_1585 : slT Try.prog 257 = none := by kernel_rfl
@[go_sem] theorem ty_1586 : zeroA Try.prog 257 = some (.agg [.bool false, .nilIface, .nilIface]) := by kernel_rfl
@[go_sem] theorem ty_1587 : fAt Try.prog 257 0 = some 0 := by kernel_rfl
@[go_sem] theorem ty_1588 : fLd Try.prog 257 0 = some (0, none) := by kernel_rfl
@[go_sem] theorem ty_1589 : fAt Try.prog 257 1 = some 1 := by kernel_rfl
@[go_sem] theorem ty_1590 : fLd Try.prog 257 1 = some (1, none) := by kernel_rfl
@[go_sem] theorem ty_1591 : fAt Try.prog 257 2 = some 2 := by kernel_rfl
@[go_sem] theorem ty_1592 : fLd Try.prog 257 2 = some (2, none) := by kernel_rfl
@[go_sem] theorem ty_1593 : bldT Try.prog 257 = some (.inl [(0, 1), (1, 1), (2, 1)]) := by kernel_rfl
@[go_sem] theorem ty_1594 : szT Try.prog 258 = some 3 := by kernel_rfl
@[go_sem] theorem ty_1595 : byT Try.prog 258 = some 40 := by kernel_rfl
@[go_sem] theorem ty_1596 : aggT Try.prog 258 = some true := by kernel_rfl
@[go_sem] theorem ty_1597 : ldT Try.prog 258 = some (some 3) := by kernel_rfl
@[go_sem] theorem ty_1598 : isSl Try.prog 258 = false := by kernel_rfl
@[go_sem] theorem ty_1599 : isSt Try.prog 258 = false := by kernel_rfl
@[go_sem] theorem ty_1600 : nif Try.prog 258 = true := by kernel_rfl
@[go_sem] theorem ty_1601 : isIf Try.prog 258 = false := by kernel_rfl
@[go_sem] theorem ty_1602 : isPt Try.prog 258 = false := by kernel_rfl
@[go_sem] theorem ty_1603 : isBo Try.prog 258 = false := by kernel_rfl
@[go_sem] theorem ty_1604 : slT Try.prog 258 = none := by kernel_rfl
@[go_sem] theorem ty_1605 : zeroA Try.prog 258 = some (.agg [.bool false, .nilIface, .nilIface]) := by kernel_rfl
@[go_sem] theorem ty_1606 : fAt Try.prog 258 0 = some 0 := by kernel_rfl
@[go_sem] theorem ty_1607 : fLd Try.prog 258 0 = some (0, none) := by kernel_rfl
@[go_sem] theorem ty_1608 : fAt Try.prog 258 1 = some 1 := by kernel_rfl
@[go_sem] theorem ty_1609 : fLd Try.prog 258 1 = some (1, none) := by kernel_rfl
@[go_sem] theorem ty_1610 : fAt Try.prog 258 2 = some 2 := by kernel_rfl
@[go_sem] theorem ty_1611 : fLd Try.prog 258 2 = some (2, none) := by kernel_rfl
@[go_sem] theorem ty_1612 : bldT Try.prog 258 = some (.inl [(0, 1), (1, 1), (2, 1)]) := by kernel_rfl
@[go_sem] theorem ty_1613 : methA Try.prog 258 "siskin/need.deep" = some 284 := by kernel_rfl
@[go_sem] theorem ty_1614 : methA Try.prog 258 "siskin/need.says" = some 285 := by kernel_rfl
@[go_sem] theorem ty_1615 : szT Try.prog 261 = some 1 := by kernel_rfl
@[go_sem] theorem ty_1616 : byT Try.prog 261 = some 8 := by kernel_rfl
@[go_sem] theorem ty_1617 : aggT Try.prog 261 = some false := by kernel_rfl
@[go_sem] theorem ty_1618 : ldT Try.prog 261 = some none := by kernel_rfl
@[go_sem] theorem ty_1619 : isSl Try.prog 261 = false := by kernel_rfl
@[go_sem] theorem ty_1620 : isSt Try.prog 261 = false := by kernel_rfl
@[go_sem] theorem ty_1621 : nif Try.prog 261 = true := by kernel_rfl
@[go_sem] theorem ty_1622 : isIf Try.prog 261 = false := by kernel_rfl
@[go_sem] theorem ty_1623 : isPt Try.prog 261 = true := by kernel_rfl
@[go_sem] theorem ty_1624 : ptrT Try.prog 261 = true := by kernel_rfl
@[go_sem] theorem ty_1625 : isBo Try.prog 261 = false := by kernel_rfl
@[go_sem] theorem ty_1626 : slT Try.prog 261 = none := by kernel_rfl
@[go_sem] theorem ty_1627 : zeroA Try.prog 261 = some (.nilptr) := by kernel_rfl
@[go_sem] theorem ty_1628 : methA Try.prog 261 "All" = some 229 := by kernel_rfl
@[go_sem] theorem ty_1629 : methA Try.prog 261 "Any" = some 192 := by kernel_rfl
@[go_sem] theorem ty_1630 : methA Try.prog 261 "Fail" = some 193 := by kernel_rfl
@[go_sem] theorem ty_1631 : methA Try.prog 261 "Here" = some 194 := by kernel_rfl
@[go_sem] theorem ty_1632 : methA Try.prog 261 "One" = some 252 := by kernel_rfl
@[go_sem] theorem ty_1633 : methA Try.prog 261 "Peek" = some 230 := by kernel_rfl
@[go_sem] theorem ty_1634 : szT Try.prog 262 = some 6 := by kernel_rfl
@[go_sem] theorem ty_1635 : byT Try.prog 262 = some 96 := by kernel_rfl
@[go_sem] theorem ty_1636 : aggT Try.prog 262 = some true := by kernel_rfl
@[go_sem] theorem ty_1637 : ldT Try.prog 262 = some (some 6) := by kernel_rfl
@[go_sem] theorem ty_1638 : isSl Try.prog 262 = false := by kernel_rfl
@[go_sem] theorem ty_1639 : isSt Try.prog 262 = false := by kernel_rfl
@[go_sem] theorem ty_1640 : nif Try.prog 262 = true := by kernel_rfl
@[go_sem] theorem ty_1641 : isIf Try.prog 262 = false := by kernel_rfl
@[go_sem] theorem ty_1642 : isPt Try.prog 262 = false := by kernel_rfl
@[go_sem] theorem ty_1643 : isBo Try.prog 262 = false := by kernel_rfl
@[go_sem] theorem ty_1644 : slT Try.prog 262 = none := by kernel_rfl
@[go_sem] theorem ty_1645 : zeroA Try.prog 262 = some (.agg [.nilsl, .nilsl, .int .i64 0, .nilsl, .int .i64 0, .int .i64 0]) := by kernel_rfl
@[go_sem] theorem ty_1646 : fAt Try.prog 262 0 = some 0 := by kernel_rfl
@[go_sem] theorem ty_1647 : fLd Try.prog 262 0 = some (0, none) := by kernel_rfl
@[go_sem] theorem ty_1648 : fAt Try.prog 262 1 = some 1 := by kernel_rfl
@[go_sem] theorem ty_1649 : fLd Try.prog 262 1 = some (1, none) := by kernel_rfl
@[go_sem] theorem ty_1650 : fAt Try.prog 262 2 = some 2 := by kernel_rfl
@[go_sem] theorem ty_1651 : fLd Try.prog 262 2 = some (2, none) := by kernel_rfl
@[go_sem] theorem ty_1652 : fAt Try.prog 262 3 = some 3 := by kernel_rfl
@[go_sem] theorem ty_1653 : fLd Try.prog 262 3 = some (3, none) := by kernel_rfl
@[go_sem] theorem ty_1654 : fAt Try.prog 262 4 = some 4 := by kernel_rfl
@[go_sem] theorem ty_1655 : fLd Try.prog 262 4 = some (4, none) := by kernel_rfl
@[go_sem] theorem ty_1656 : fAt Try.prog 262 5 = some 5 := by kernel_rfl
@[go_sem] theorem ty_1657 : fLd Try.prog 262 5 = some (5, none) := by kernel_rfl
@[go_sem] theorem ty_1658 : bldT Try.prog 262 = some (.inl [(0, 1), (1, 1), (2, 1), (3, 1), (4, 1), (5, 1)]) := by kernel_rfl
@[go_sem] theorem ty_1659 : szT Try.prog 263 = some 6 := by kernel_rfl
@[go_sem] theorem ty_1660 : byT Try.prog 263 = some 96 := by kernel_rfl
@[go_sem] theorem ty_1661 : aggT Try.prog 263 = some true := by kernel_rfl
@[go_sem] theorem ty_1662 : ldT Try.prog 263 = some (some 6) := by kernel_rfl
@[go_sem] theorem ty_1663 : isSl Try.prog 263 = false := by kernel_rfl
@[go_sem] theorem ty_1664 : isSt Try.prog 263 = false := by kernel_rfl
@[go_sem] theorem ty_1665 : nif Try.prog 263 = true := by kernel_rfl
@[go_sem] theorem ty_1666 : isIf Try.prog 263 = false := by kernel_rfl
@[go_sem] theorem ty_1667 : isPt Try.prog 263 = false := by kernel_rfl
@[go_sem] theorem ty_1668 : isBo Try.prog 263 = false := by kernel_rfl
@[go_sem] theorem ty_1669 : slT Try.prog 263 = none := by kernel_rfl
@[go_sem] theorem ty_1670 : zeroA Try.prog 263 = some (.agg [.nilsl, .nilsl, .int .i64 0, .nilsl, .int .i64 0, .int .i64 0]) := by kernel_rfl
@[go_sem] theorem ty_1671 : fAt Try.prog 263 0 = some 0 := by kernel_rfl
@[go_sem] theorem ty_1672 : fLd Try.prog 263 0 = some (0, none) := by kernel_rfl
@[go_sem] theorem ty_1673 : fAt Try.prog 263 1 = some 1 := by kernel_rfl
@[go_sem] theorem ty_1674 : fLd Try.prog 263 1 = some (1, none) := by kernel_rfl
@[go_sem] theorem ty_1675 : fAt Try.prog 263 2 = some 2 := by kernel_rfl
@[go_sem] theorem ty_1676 : fLd Try.prog 263 2 = some (2, none) := by kernel_rfl
@[go_sem] theorem ty_1677 : fAt Try.prog 263 3 = some 3 := by kernel_rfl
@[go_sem] theorem ty_1678 : fLd Try.prog 263 3 = some (3, none) := by kernel_rfl
@[go_sem] theorem ty_1679 : fAt Try.prog 263 4 = some 4 := by kernel_rfl
@[go_sem] theorem ty_1680 : fLd Try.prog 263 4 = some (4, none) := by kernel_rfl
@[go_sem] theorem ty_1681 : fAt Try.prog 263 5 = some 5 := by kernel_rfl
@[go_sem] theorem ty_1682 : fLd Try.prog 263 5 = some (5, none) := by kernel_rfl
@[go_sem] theorem ty_1683 : bldT Try.prog 263 = some (.inl [(0, 1), (1, 1), (2, 1), (3, 1), (4, 1), (5, 1)]) := by kernel_rfl
@[go_sem] theorem ty_1684 : szT Try.prog 274 = some 3 := by kernel_rfl
@[go_sem] theorem ty_1685 : byT Try.prog 274 = some 40 := by kernel_rfl
@[go_sem] theorem ty_1686 : aggT Try.prog 274 = some true := by kernel_rfl
@[go_sem] theorem ty_1687 : ldT Try.prog 274 = some (some 3) := by kernel_rfl
@[go_sem] theorem ty_1688 : isSl Try.prog 274 = false := by kernel_rfl
@[go_sem] theorem ty_1689 : isSt Try.prog 274 = false := by kernel_rfl
@[go_sem] theorem ty_1690 : nif Try.prog 274 = true := by kernel_rfl
@[go_sem] theorem ty_1691 : isIf Try.prog 274 = false := by kernel_rfl
@[go_sem] theorem ty_1692 : isPt Try.prog 274 = false := by kernel_rfl
@[go_sem] theorem ty_1693 : isBo Try.prog 274 = false := by kernel_rfl
@[go_sem] theorem ty_1694 : slT Try.prog 274 = none := by kernel_rfl
@[go_sem] theorem ty_1695 : zeroA Try.prog 274 = some (.agg [.nilsl, .int .i64 0, .bool false]) := by kernel_rfl
@[go_sem] theorem ty_1696 : fAt Try.prog 274 0 = some 0 := by kernel_rfl
@[go_sem] theorem ty_1697 : fLd Try.prog 274 0 = some (0, none) := by kernel_rfl
@[go_sem] theorem ty_1698 : fAt Try.prog 274 1 = some 1 := by kernel_rfl
@[go_sem] theorem ty_1699 : fLd Try.prog 274 1 = some (1, none) := by kernel_rfl
@[go_sem] theorem ty_1700 : fAt Try.prog 274 2 = some 2 := by kernel_rfl
@[go_sem] theorem ty_1701 : fLd Try.prog 274 2 = some (2, none) := by kernel_rfl
@[go_sem] theorem ty_1702 : bldT Try.prog 274 = some (.inl [(0, 1), (1, 1), (2, 1)]) := by kernel_rfl
@[go_sem] theorem ty_1703 : szT Try.prog 275 = some 3 := by kernel_rfl
@[go_sem] theorem ty_1704 : byT Try.prog 275 = some 40 := by kernel_rfl
@[go_sem] theorem ty_1705 : aggT Try.prog 275 = some true := by kernel_rfl
@[go_sem] theorem ty_1706 : ldT Try.prog 275 = some (some 3) := by kernel_rfl
@[go_sem] theorem ty_1707 : isSl Try.prog 275 = false := by kernel_rfl
@[go_sem] theorem ty_1708 : isSt Try.prog 275 = false := by kernel_rfl
@[go_sem] theorem ty_1709 : nif Try.prog 275 = true := by kernel_rfl
@[go_sem] theorem ty_1710 : isIf Try.prog 275 = false := by kernel_rfl
@[go_sem] theorem ty_1711 : isPt Try.prog 275 = false := by kernel_rfl
@[go_sem] theorem ty_1712 : isBo Try.prog 275 = false := by kernel_rfl
@[go_sem] theorem ty_1713 : slT Try.prog 275 = none := by kernel_rfl
@[go_sem] theorem ty_1714 : zeroA Try.prog 275 = some (.agg [.nilsl, .int .i64 0, .bool false]) := by kernel_rfl
@[go_sem] theorem ty_1715 : fAt Try.prog 275 0 = some 0 := by kernel_rfl
@[go_sem] theorem ty_1716 : fLd Try.prog 275 0 = some (0, none) := by kernel_rfl
@[go_sem] theorem ty_1717 : fAt Try.prog 275 1 = some 1 := by kernel_rfl
@[go_sem] theorem ty_1718 : fLd Try.prog 275 1 = some (1, none) := by kernel_rfl
@[go_sem] theorem ty_1719 : fAt Try.prog 275 2 = some 2 := by kernel_rfl
@[go_sem] theorem ty_1720 : fLd Try.prog 275 2 = some (2, none) := by kernel_rfl
@[go_sem] theorem ty_1721 : bldT Try.prog 275 = some (.inl [(0, 1), (1, 1), (2, 1)]) := by kernel_rfl
@[go_sem] theorem ty_1722 : szT Try.prog 291 = some 1 := by kernel_rfl
@[go_sem] theorem ty_1723 : byT Try.prog 291 = some 8 := by kernel_rfl
@[go_sem] theorem ty_1724 : aggT Try.prog 291 = some false := by kernel_rfl
@[go_sem] theorem ty_1725 : ldT Try.prog 291 = some none := by kernel_rfl
@[go_sem] theorem ty_1726 : isSl Try.prog 291 = false := by kernel_rfl
@[go_sem] theorem ty_1727 : isSt Try.prog 291 = false := by kernel_rfl
@[go_sem] theorem ty_1728 : nif Try.prog 291 = true := by kernel_rfl
@[go_sem] theorem ty_1729 : isIf Try.prog 291 = false := by kernel_rfl
@[go_sem] theorem ty_1730 : isPt Try.prog 291 = false := by kernel_rfl
@[go_sem] theorem ty_1731 : isBo Try.prog 291 = false := by kernel_rfl
@[go_sem] theorem ty_1732 : slT Try.prog 291 = none := by kernel_rfl
@[go_sem] theorem ty_1733 : zeroA Try.prog 291 = some (.nilptr) := by kernel_rfl
@[go_sem] theorem ty_1734 : cvT Try.prog 291 149 = none := by kernel_rfl
@[go_sem] theorem ty_1735 : strK Try.prog 291 149 = none := by kernel_rfl
@[go_sem] theorem ty_1736 : isTS Try.prog 291 149 = false := by kernel_rfl
@[go_sem] theorem ty_1737 : upT Try.prog 291 149 = some (some 151, 2) := by kernel_rfl
@[go_sem] theorem ty_1738 : szT Try.prog 303 = some 1 := by kernel_rfl
@[go_sem] theorem ty_1739 : byT Try.prog 303 = some 4 := by kernel_rfl
@[go_sem] theorem ty_1740 : aggT Try.prog 303 = some false := by kernel_rfl
@[go_sem] theorem ty_1741 : ldT Try.prog 303 = some none := by kernel_rfl
@[go_sem] theorem ty_1742 : isSl Try.prog 303 = false := by kernel_rfl
@[go_sem] theorem ty_1743 : isSt Try.prog 303 = false := by kernel_rfl
@[go_sem] theorem ty_1744 : nif Try.prog 303 = true := by kernel_rfl
@[go_sem] theorem ty_1745 : isIf Try.prog 303 = false := by kernel_rfl
@[go_sem] theorem ty_1746 : isPt Try.prog 303 = false := by kernel_rfl
@[go_sem] theorem ty_1747 : isBo Try.prog 303 = false := by kernel_rfl
@[go_sem] theorem ty_1748 : slT Try.prog 303 = none := by kernel_rfl
@[go_sem] theorem ty_1749 : zeroA Try.prog 303 = some (.int .u32 0) := by kernel_rfl
@[go_sem] theorem ty_1750 : cvT Try.prog 303 5 = some (.int .u8) := by kernel_rfl
@[go_sem] theorem ty_1751 : strK Try.prog 303 5 = none := by kernel_rfl
@[go_sem] theorem ty_1752 : isTS Try.prog 303 5 = false := by kernel_rfl
@[go_sem] theorem ty_1753 : szT Try.prog 308 = some 1 := by kernel_rfl
@[go_sem] theorem ty_1754 : byT Try.prog 308 = some 8 := by kernel_rfl
@[go_sem] theorem ty_1755 : aggT Try.prog 308 = some false := by kernel_rfl
@[go_sem] theorem ty_1756 : ldT Try.prog 308 = some none := by kernel_rfl
@[go_sem] theorem ty_1757 : isSl Try.prog 308 = false := by kernel_rfl
@[go_sem] theorem ty_1758 : isSt Try.prog 308 = false := by kernel_rfl
@[go_sem] theorem ty_1759 : nif Try.prog 308 = true := by kernel_rfl
@[go_sem] theorem ty_1760 : isIf Try.prog 308 = false := by kernel_rfl
@[go_sem] theorem ty_1761 : isPt Try.prog 308 = false := by kernel_rfl
@[go_sem] theorem ty_1762 : isBo Try.prog 308 = false := by kernel_rfl
@[go_sem] theorem ty_1763 : slT Try.prog 308 = none := by kernel_rfl
@[go_sem] theorem ty_1764 : zeroA Try.prog 308 = some (.int .u64 0) := by kernel_rfl
@[go_sem] theorem ty_1765 : szT Try.prog 314 = some 1 := by kernel_rfl
@[go_sem] theorem ty_1766 : byT Try.prog 314 = some 8 := by kernel_rfl
@[go_sem] theorem ty_1767 : aggT Try.prog 314 = some false := by kernel_rfl
@[go_sem] theorem ty_1768 : ldT Try.prog 314 = some none := by kernel_rfl
@[go_sem] theorem ty_1769 : isSl Try.prog 314 = false := by kernel_rfl
@[go_sem] theorem ty_1770 : isSt Try.prog 314 = false := by kernel_rfl
@[go_sem] theorem ty_1771 : nif Try.prog 314 = true := by kernel_rfl
@[go_sem] theorem ty_1772 : isIf Try.prog 314 = false := by kernel_rfl
@[go_sem] theorem ty_1773 : isPt Try.prog 314 = false := by kernel_rfl
@[go_sem] theorem ty_1774 : isBo Try.prog 314 = false := by kernel_rfl
@[go_sem] theorem ty_1775 : slT Try.prog 314 = none := by kernel_rfl
@[go_sem] theorem ty_1776 : zeroA Try.prog 314 = some (.nilFunc) := by kernel_rfl
end Go.Proofs.Ytigelnkhggkmcaa
