/- The functions' abstract code as one system, with what stands for functions without a body. No condition. -/
import Derived.Test.YtjhcempjiokfdaaGreatDoorAbs4
import Derived.Test.YtjhcempjiokfdaaGreatDoorCode4
import Derived.Test.YtjhcempjiokfdaaGreatDoorCode3
import Derived.Test.YtjhcempjiokfdaaGreatDoorCode2
import Derived.KernelRfl
set_option linter.unusedSimpArgs false
set_option linter.unusedVariables false

-- ---- YtjhcempjiokfdaaGreatDoorSys
namespace Go.Proofs.YtjhcempjiokfdaaGreatDoor
open Go.Proofs.Abs
set_option maxRecDepth 100000
def tr : Tr := (.node 198 (.node 95 (.node 48 (.node 25 (.node 13 (.node 7 (.node 4 (.node 3 (.leaf 2 p2) (.leaf 3 p3)) (.node 5 (.leaf 4 p4) (.node 6 (.leaf 5 p5) (.leaf 6 p6)))) (.node 10 (.node 8 (.leaf 7 p7)
  (.node 9 (.leaf 8 p8) (.leaf 9 p9))) (.node 11 (.leaf 10 p10) (.node 12 (.leaf 11 p11) (.leaf 12 p12))))) (.node 19 (.node 16 (.node 14 (.leaf 13 p13) (.node 15 (.leaf 14 p14) (.leaf 15 p15))) (.node
  17 (.leaf 16 p16) (.node 18 (.leaf 17 p17) (.leaf 18 p18)))) (.node 22 (.node 20 (.leaf 19 p19) (.node 21 (.leaf 20 p20) (.leaf 21 p21))) (.node 23 (.leaf 22 p22) (.node 24 (.leaf 23 p23) (.leaf 24
  p24)))))) (.node 36 (.node 30 (.node 27 (.node 26 (.leaf 25 p25) (.leaf 26 p26)) (.node 28 (.leaf 27 p27) (.node 29 (.leaf 28 p28) (.leaf 29 p29)))) (.node 33 (.node 31 (.leaf 30 p30) (.node 32 (.leaf
  31 p31) (.leaf 32 p32))) (.node 34 (.leaf 33 p33) (.node 35 (.leaf 34 p34) (.leaf 35 p35))))) (.node 42 (.node 39 (.node 37 (.leaf 36 p36) (.node 38 (.leaf 37 p37) (.leaf 38 p38))) (.node 40 (.leaf 39
  p39) (.node 41 (.leaf 40 p40) (.leaf 41 p41)))) (.node 45 (.node 43 (.leaf 42 p42) (.node 44 (.leaf 43 p43) (.leaf 44 p44))) (.node 46 (.leaf 45 p45) (.node 47 (.leaf 46 p46) (.leaf 47 p47)))))))
  (.node 71 (.node 59 (.node 53 (.node 50 (.node 49 (.leaf 48 p48) (.leaf 49 p49)) (.node 51 (.leaf 50 p50) (.node 52 (.leaf 51 p51) (.leaf 52 p52)))) (.node 56 (.node 54 (.leaf 53 p53) (.node 55 (.leaf
  54 p54) (.leaf 55 p55))) (.node 57 (.leaf 56 p56) (.node 58 (.leaf 57 p57) (.leaf 58 p58))))) (.node 65 (.node 62 (.node 60 (.leaf 59 p59) (.node 61 (.leaf 60 p60) (.leaf 61 p61))) (.node 63 (.leaf 62
  p62) (.node 64 (.leaf 63 p63) (.leaf 64 p64)))) (.node 68 (.node 66 (.leaf 65 p65) (.node 67 (.leaf 66 p66) (.leaf 67 p67))) (.node 69 (.leaf 68 p68) (.node 70 (.leaf 69 p69) (.leaf 70 p70)))))) (.node
  82 (.node 76 (.node 73 (.node 72 (.leaf 71 p71) (.leaf 72 p72)) (.node 74 (.leaf 73 p73) (.node 75 (.leaf 74 p74) (.leaf 75 p75)))) (.node 79 (.node 77 (.leaf 76 p76) (.node 78 (.leaf 77 p77) (.leaf 78
  p78))) (.node 80 (.leaf 79 p79) (.node 81 (.leaf 80 p80) (.leaf 81 p81))))) (.node 89 (.node 86 (.node 84 (.leaf 82 p82) (.node 85 (.leaf 84 p84) (.leaf 85 p85))) (.node 87 (.leaf 86 p86) (.node 88
  (.leaf 87 p87) (.leaf 88 p88)))) (.node 92 (.node 90 (.leaf 89 p89) (.node 91 (.leaf 90 p90) (.leaf 91 p91))) (.node 93 (.leaf 92 p92) (.node 94 (.leaf 93 p93) (.leaf 94 p94)))))))) (.node 151 (.node
  118 (.node 106 (.node 100 (.node 97 (.node 96 (.leaf 95 p95) (.leaf 96 p96)) (.node 98 (.leaf 97 p97) (.node 99 (.leaf 98 p98) (.leaf 99 p99)))) (.node 103 (.node 101 (.leaf 100 p100) (.node 102 (.leaf
  101 p101) (.leaf 102 p102))) (.node 104 (.leaf 103 p103) (.node 105 (.leaf 104 p104) (.leaf 105 p105))))) (.node 112 (.node 109 (.node 107 (.leaf 106 p106) (.node 108 (.leaf 107 p107) (.leaf 108
  p108))) (.node 110 (.leaf 109 p109) (.node 111 (.leaf 110 p110) (.leaf 111 p111)))) (.node 115 (.node 113 (.leaf 112 p112) (.node 114 (.leaf 113 p113) (.leaf 114 p114))) (.node 116 (.leaf 115 p115)
  (.node 117 (.leaf 116 p116) (.leaf 117 p117)))))) (.node 129 (.node 123 (.node 120 (.node 119 (.leaf 118 p118) (.leaf 119 p119)) (.node 121 (.leaf 120 p120) (.node 122 (.leaf 121 p121) (.leaf 122
  p122)))) (.node 126 (.node 124 (.leaf 123 p123) (.node 125 (.leaf 124 p124) (.leaf 125 p125))) (.node 127 (.leaf 126 p126) (.node 128 (.leaf 127 p127) (.leaf 128 p128))))) (.node 145 (.node 132 (.node
  130 (.leaf 129 p129) (.node 131 (.leaf 130 p130) (.leaf 131 p131))) (.node 133 (.leaf 132 p132) (.node 134 (.leaf 133 p133) (.leaf 134 p134)))) (.node 148 (.node 146 (.leaf 145 p145) (.node 147 (.leaf
  146 p146) (.leaf 147 p147))) (.node 149 (.leaf 148 p148) (.node 150 (.leaf 149 p149) (.leaf 150 p150))))))) (.node 174 (.node 162 (.node 156 (.node 153 (.node 152 (.leaf 151 p151) (.leaf 152 p152))
  (.node 154 (.leaf 153 p153) (.node 155 (.leaf 154 p154) (.leaf 155 p155)))) (.node 159 (.node 157 (.leaf 156 p156) (.node 158 (.leaf 157 p157) (.leaf 158 p158))) (.node 160 (.leaf 159 p159) (.node 161
  (.leaf 160 p160) (.leaf 161 p161))))) (.node 168 (.node 165 (.node 163 (.leaf 162 p162) (.node 164 (.leaf 163 p163) (.leaf 164 p164))) (.node 166 (.leaf 165 p165) (.node 167 (.leaf 166 p166) (.leaf 167
  p167)))) (.node 171 (.node 169 (.leaf 168 p168) (.node 170 (.leaf 169 p169) (.leaf 170 p170))) (.node 172 (.leaf 171 p171) (.node 173 (.leaf 172 p172) (.leaf 173 p173)))))) (.node 186 (.node 180 (.node
  177 (.node 175 (.leaf 174 p174) (.node 176 (.leaf 175 p175) (.leaf 176 p176))) (.node 178 (.leaf 177 p177) (.node 179 (.leaf 178 p178) (.leaf 179 p179)))) (.node 183 (.node 181 (.leaf 180 p180) (.node
  182 (.leaf 181 p181) (.leaf 182 p182))) (.node 184 (.leaf 183 p183) (.node 185 (.leaf 184 p184) (.leaf 185 p185))))) (.node 192 (.node 189 (.node 187 (.leaf 186 p186) (.node 188 (.leaf 187 p187) (.leaf
  188 p188))) (.node 190 (.leaf 189 p189) (.node 191 (.leaf 190 p190) (.leaf 191 p191)))) (.node 195 (.node 193 (.leaf 192 p192) (.node 194 (.leaf 193 p193) (.leaf 194 p194))) (.node 196 (.leaf 195 p195)
  (.node 197 (.leaf 196 p196) (.leaf 197 p197))))))))) (.node 296 (.node 246 (.node 222 (.node 209 (.node 203 (.node 200 (.node 199 (.leaf 198 p198) (.leaf 199 p199)) (.node 201 (.leaf 200 p200) (.node
  202 (.leaf 201 p201) (.leaf 202 p202)))) (.node 206 (.node 204 (.leaf 203 p203) (.node 205 (.leaf 204 p204) (.leaf 205 p205))) (.node 207 (.leaf 206 p206) (.node 208 (.leaf 207 p207) (.leaf 208
  p208))))) (.node 216 (.node 213 (.node 211 (.leaf 209 p209) (.node 212 (.leaf 211 p211) (.leaf 212 p212))) (.node 214 (.leaf 213 p213) (.node 215 (.leaf 214 p214) (.leaf 215 p215)))) (.node 219 (.node
  217 (.leaf 216 p216) (.node 218 (.leaf 217 p217) (.leaf 218 p218))) (.node 220 (.leaf 219 p219) (.node 221 (.leaf 220 p220) (.leaf 221 p221)))))) (.node 234 (.node 227 (.node 224 (.node 223 (.leaf 222
  p222) (.leaf 223 p223)) (.node 225 (.leaf 224 p224) (.node 226 (.leaf 225 p225) (.leaf 226 p226)))) (.node 231 (.node 229 (.leaf 227 p227) (.node 230 (.leaf 229 p229) (.leaf 230 p230))) (.node 232
  (.leaf 231 p231) (.node 233 (.leaf 232 p232) (.leaf 233 p233))))) (.node 240 (.node 237 (.node 235 (.leaf 234 p234) (.node 236 (.leaf 235 p235) (.leaf 236 p236))) (.node 238 (.leaf 237 p237) (.node 239
  (.leaf 238 p238) (.leaf 239 p239)))) (.node 243 (.node 241 (.leaf 240 p240) (.node 242 (.leaf 241 p241) (.leaf 242 p242))) (.node 244 (.leaf 243 p243) (.node 245 (.leaf 244 p244) (.leaf 245 p245)))))))
  (.node 271 (.node 258 (.node 252 (.node 248 (.node 247 (.leaf 246 p246) (.leaf 247 p247)) (.node 249 (.leaf 248 p248) (.node 251 (.leaf 249 p249) (.leaf 251 p251)))) (.node 255 (.node 253 (.leaf 252
  p252) (.node 254 (.leaf 253 p253) (.leaf 254 p254))) (.node 256 (.leaf 255 p255) (.node 257 (.leaf 256 p256) (.leaf 257 p257))))) (.node 264 (.node 261 (.node 259 (.leaf 258 p258) (.node 260 (.leaf 259
  p259) (.leaf 260 p260))) (.node 262 (.leaf 261 p261) (.node 263 (.leaf 262 p262) (.leaf 263 p263)))) (.node 267 (.node 265 (.leaf 264 p264) (.node 266 (.leaf 265 p265) (.leaf 266 p266))) (.node 268
  (.leaf 267 p267) (.node 270 (.leaf 268 p268) (.leaf 270 p270)))))) (.node 283 (.node 277 (.node 274 (.node 272 (.leaf 271 p271) (.node 273 (.leaf 272 p272) (.leaf 273 p273))) (.node 275 (.leaf 274
  p274) (.node 276 (.leaf 275 p275) (.leaf 276 p276)))) (.node 280 (.node 278 (.leaf 277 p277) (.node 279 (.leaf 278 p278) (.leaf 279 p279))) (.node 281 (.leaf 280 p280) (.node 282 (.leaf 281 p281)
  (.leaf 282 p282))))) (.node 290 (.node 287 (.node 284 (.leaf 283 p283) (.node 286 (.leaf 284 p284) (.leaf 286 p286))) (.node 288 (.leaf 287 p287) (.node 289 (.leaf 288 p288) (.leaf 289 p289)))) (.node
  293 (.node 291 (.leaf 290 p290) (.node 292 (.leaf 291 p291) (.leaf 292 p292))) (.node 294 (.leaf 293 p293) (.node 295 (.leaf 294 p294) (.leaf 295 p295)))))))) (.node 344 (.node 321 (.node 308 (.node
  302 (.node 299 (.node 298 (.leaf 296 p296) (.leaf 298 p298)) (.node 300 (.leaf 299 p299) (.node 301 (.leaf 300 p300) (.leaf 301 p301)))) (.node 305 (.node 303 (.leaf 302 p302) (.node 304 (.leaf 303
  p303) (.leaf 304 p304))) (.node 306 (.leaf 305 p305) (.node 307 (.leaf 306 p306) (.leaf 307 p307))))) (.node 314 (.node 311 (.node 309 (.leaf 308 p308) (.node 310 (.leaf 309 p309) (.leaf 310 p310)))
  (.node 312 (.leaf 311 p311) (.node 313 (.leaf 312 p312) (.leaf 313 p313)))) (.node 318 (.node 315 (.leaf 314 p314) (.node 316 (.leaf 315 p315) (.leaf 316 p316))) (.node 319 (.leaf 318 p318) (.node 320
  (.leaf 319 p319) (.leaf 320 p320)))))) (.node 332 (.node 326 (.node 323 (.node 322 (.leaf 321 p321) (.leaf 322 p322)) (.node 324 (.leaf 323 p323) (.node 325 (.leaf 324 p324) (.leaf 325 p325)))) (.node
  329 (.node 327 (.leaf 326 p326) (.node 328 (.leaf 327 p327) (.leaf 328 p328))) (.node 330 (.leaf 329 p329) (.node 331 (.leaf 330 p330) (.leaf 331 p331))))) (.node 338 (.node 335 (.node 333 (.leaf 332
  p332) (.node 334 (.leaf 333 p333) (.leaf 334 p334))) (.node 336 (.leaf 335 p335) (.node 337 (.leaf 336 p336) (.leaf 337 p337)))) (.node 341 (.node 339 (.leaf 338 p338) (.node 340 (.leaf 339 p339)
  (.leaf 340 p340))) (.node 342 (.leaf 341 p341) (.node 343 (.leaf 342 p342) (.leaf 343 p343))))))) (.node 373 (.node 355 (.node 349 (.node 346 (.node 345 (.leaf 344 p344) (.leaf 345 p345)) (.node 347
  (.leaf 346 p346) (.node 348 (.leaf 347 p347) (.leaf 348 p348)))) (.node 352 (.node 350 (.leaf 349 p349) (.node 351 (.leaf 350 p350) (.leaf 351 p351))) (.node 353 (.leaf 352 p352) (.node 354 (.leaf 353
  p353) (.leaf 354 p354))))) (.node 367 (.node 364 (.node 360 (.leaf 355 p355) (.node 363 (.leaf 360 p360) (.leaf 363 p363))) (.node 365 (.leaf 364 p364) (.node 366 (.leaf 365 p365) (.leaf 366 p366))))
  (.node 370 (.node 368 (.leaf 367 p367) (.node 369 (.leaf 368 p368) (.leaf 369 p369))) (.node 371 (.leaf 370 p370) (.node 372 (.leaf 371 p371) (.leaf 372 p372)))))) (.node 392 (.node 379 (.node 376
  (.node 374 (.leaf 373 p373) (.node 375 (.leaf 374 p374) (.leaf 375 p375))) (.node 377 (.leaf 376 p376) (.node 378 (.leaf 377 p377) (.leaf 378 p378)))) (.node 389 (.node 387 (.leaf 379 p379) (.node 388
  (.leaf 387 p387) (.leaf 388 p388))) (.node 390 (.leaf 389 p389) (.node 391 (.leaf 390 p390) (.leaf 391 p391))))) (.node 416 (.node 395 (.node 393 (.leaf 392 p392) (.node 394 (.leaf 393 p393) (.leaf 394
  p394))) (.node 396 (.leaf 395 p395) (.node 414 (.leaf 396 p396) (.leaf 414 p414)))) (.node 419 (.node 417 (.leaf 416 p416) (.node 418 (.leaf 417 p417) (.leaf 418 p418))) (.node 421 (.leaf 419 p419)
  (.node 428 (.leaf 421 p421) (.leaf 428 p428))))))))))
theorem tr_ok : tr.OK Tryz.prog := ⟨⟨⟨⟨⟨⟨⟨⟨c2, c3⟩, ⟨c4, ⟨c5, c6⟩⟩⟩, ⟨⟨c7, ⟨c8, c9⟩⟩, ⟨c10, ⟨c11, c12⟩⟩⟩⟩, ⟨⟨⟨c13, ⟨c14, c15⟩⟩, ⟨c16, ⟨c17, c18⟩⟩⟩, ⟨⟨c19, ⟨c20, c21⟩⟩, ⟨c22, ⟨c23, c24⟩⟩⟩⟩⟩, ⟨⟨⟨⟨c25, c26⟩, ⟨c27, ⟨c28, c29⟩⟩⟩, ⟨⟨c30,
  ⟨c31, c32⟩⟩, ⟨c33, ⟨c34, c35⟩⟩⟩⟩, ⟨⟨⟨c36, ⟨c37, c38⟩⟩, ⟨c39, ⟨c40, c41⟩⟩⟩, ⟨⟨c42, ⟨c43, c44⟩⟩, ⟨c45, ⟨c46, c47⟩⟩⟩⟩⟩⟩, ⟨⟨⟨⟨⟨c48, c49⟩, ⟨c50, ⟨c51, c52⟩⟩⟩, ⟨⟨c53, ⟨c54, c55⟩⟩, ⟨c56, ⟨c57, c58⟩⟩⟩⟩,
  ⟨⟨⟨c59, ⟨c60, c61⟩⟩, ⟨c62, ⟨c63, c64⟩⟩⟩, ⟨⟨c65, ⟨c66, c67⟩⟩, ⟨c68, ⟨c69, c70⟩⟩⟩⟩⟩, ⟨⟨⟨⟨c71, c72⟩, ⟨c73, ⟨c74, c75⟩⟩⟩, ⟨⟨c76, ⟨c77, c78⟩⟩, ⟨c79, ⟨c80, c81⟩⟩⟩⟩, ⟨⟨⟨c82, ⟨c84, c85⟩⟩, ⟨c86, ⟨c87, c88⟩⟩⟩,
  ⟨⟨c89, ⟨c90, c91⟩⟩, ⟨c92, ⟨c93, c94⟩⟩⟩⟩⟩⟩⟩, ⟨⟨⟨⟨⟨⟨c95, c96⟩, ⟨c97, ⟨c98, c99⟩⟩⟩, ⟨⟨c100, ⟨c101, c102⟩⟩, ⟨c103, ⟨c104, c105⟩⟩⟩⟩, ⟨⟨⟨c106, ⟨c107, c108⟩⟩, ⟨c109, ⟨c110, c111⟩⟩⟩, ⟨⟨c112, ⟨c113, c114⟩⟩,
  ⟨c115, ⟨c116, c117⟩⟩⟩⟩⟩, ⟨⟨⟨⟨c118, c119⟩, ⟨c120, ⟨c121, c122⟩⟩⟩, ⟨⟨c123, ⟨c124, c125⟩⟩, ⟨c126, ⟨c127, c128⟩⟩⟩⟩, ⟨⟨⟨c129, ⟨c130, c131⟩⟩, ⟨c132, ⟨c133, c134⟩⟩⟩, ⟨⟨c145, ⟨c146, c147⟩⟩, ⟨c148, ⟨c149,
  c150⟩⟩⟩⟩⟩⟩, ⟨⟨⟨⟨⟨c151, c152⟩, ⟨c153, ⟨c154, c155⟩⟩⟩, ⟨⟨c156, ⟨c157, c158⟩⟩, ⟨c159, ⟨c160, c161⟩⟩⟩⟩, ⟨⟨⟨c162, ⟨c163, c164⟩⟩, ⟨c165, ⟨c166, c167⟩⟩⟩, ⟨⟨c168, ⟨c169, c170⟩⟩, ⟨c171, ⟨c172, c173⟩⟩⟩⟩⟩,
  ⟨⟨⟨⟨c174, ⟨c175, c176⟩⟩, ⟨c177, ⟨c178, c179⟩⟩⟩, ⟨⟨c180, ⟨c181, c182⟩⟩, ⟨c183, ⟨c184, c185⟩⟩⟩⟩, ⟨⟨⟨c186, ⟨c187, c188⟩⟩, ⟨c189, ⟨c190, c191⟩⟩⟩, ⟨⟨c192, ⟨c193, c194⟩⟩, ⟨c195, ⟨c196, c197⟩⟩⟩⟩⟩⟩⟩⟩,
  ⟨⟨⟨⟨⟨⟨⟨c198, c199⟩, ⟨c200, ⟨c201, c202⟩⟩⟩, ⟨⟨c203, ⟨c204, c205⟩⟩, ⟨c206, ⟨c207, c208⟩⟩⟩⟩, ⟨⟨⟨c209, ⟨c211, c212⟩⟩, ⟨c213, ⟨c214, c215⟩⟩⟩, ⟨⟨c216, ⟨c217, c218⟩⟩, ⟨c219, ⟨c220, c221⟩⟩⟩⟩⟩, ⟨⟨⟨⟨c222, c223⟩,
  ⟨c224, ⟨c225, c226⟩⟩⟩, ⟨⟨c227, ⟨c229, c230⟩⟩, ⟨c231, ⟨c232, c233⟩⟩⟩⟩, ⟨⟨⟨c234, ⟨c235, c236⟩⟩, ⟨c237, ⟨c238, c239⟩⟩⟩, ⟨⟨c240, ⟨c241, c242⟩⟩, ⟨c243, ⟨c244, c245⟩⟩⟩⟩⟩⟩, ⟨⟨⟨⟨⟨c246, c247⟩, ⟨c248, ⟨c249,
  c251⟩⟩⟩, ⟨⟨c252, ⟨c253, c254⟩⟩, ⟨c255, ⟨c256, c257⟩⟩⟩⟩, ⟨⟨⟨c258, ⟨c259, c260⟩⟩, ⟨c261, ⟨c262, c263⟩⟩⟩, ⟨⟨c264, ⟨c265, c266⟩⟩, ⟨c267, ⟨c268, c270⟩⟩⟩⟩⟩, ⟨⟨⟨⟨c271, ⟨c272, c273⟩⟩, ⟨c274, ⟨c275, c276⟩⟩⟩,
  ⟨⟨c277, ⟨c278, c279⟩⟩, ⟨c280, ⟨c281, c282⟩⟩⟩⟩, ⟨⟨⟨c283, ⟨c284, c286⟩⟩, ⟨c287, ⟨c288, c289⟩⟩⟩, ⟨⟨c290, ⟨c291, c292⟩⟩, ⟨c293, ⟨c294, c295⟩⟩⟩⟩⟩⟩⟩, ⟨⟨⟨⟨⟨⟨c296, c298⟩, ⟨c299, ⟨c300, c301⟩⟩⟩, ⟨⟨c302, ⟨c303,
  c304⟩⟩, ⟨c305, ⟨c306, c307⟩⟩⟩⟩, ⟨⟨⟨c308, ⟨c309, c310⟩⟩, ⟨c311, ⟨c312, c313⟩⟩⟩, ⟨⟨c314, ⟨c315, c316⟩⟩, ⟨c318, ⟨c319, c320⟩⟩⟩⟩⟩, ⟨⟨⟨⟨c321, c322⟩, ⟨c323, ⟨c324, c325⟩⟩⟩, ⟨⟨c326, ⟨c327, c328⟩⟩, ⟨c329,
  ⟨c330, c331⟩⟩⟩⟩, ⟨⟨⟨c332, ⟨c333, c334⟩⟩, ⟨c335, ⟨c336, c337⟩⟩⟩, ⟨⟨c338, ⟨c339, c340⟩⟩, ⟨c341, ⟨c342, c343⟩⟩⟩⟩⟩⟩, ⟨⟨⟨⟨⟨c344, c345⟩, ⟨c346, ⟨c347, c348⟩⟩⟩, ⟨⟨c349, ⟨c350, c351⟩⟩, ⟨c352, ⟨c353, c354⟩⟩⟩⟩,
  ⟨⟨⟨c355, ⟨c360, c363⟩⟩, ⟨c364, ⟨c365, c366⟩⟩⟩, ⟨⟨c367, ⟨c368, c369⟩⟩, ⟨c370, ⟨c371, c372⟩⟩⟩⟩⟩, ⟨⟨⟨⟨c373, ⟨c374, c375⟩⟩, ⟨c376, ⟨c377, c378⟩⟩⟩, ⟨⟨c379, ⟨c387, c388⟩⟩, ⟨c389, ⟨c390, c391⟩⟩⟩⟩, ⟨⟨⟨c392,
  ⟨c393, c394⟩⟩, ⟨c395, ⟨c396, c414⟩⟩⟩, ⟨⟨c416, ⟨c417, c418⟩⟩, ⟨c419, ⟨c421, c428⟩⟩⟩⟩⟩⟩⟩⟩⟩
def hands : List Hand := [(83, cloneO (.bool false)),
  (135, cloneO (.agg [(i 0), (i 0), (.str []), (.int .u64 0), (.int .u32 0)])),
  (136, cloneO (.agg [(i 0), (i 0), (i 0), (i 0), (i 0), (.str []), nl])),
  (137, cloneO (.agg [(i 0), (i 0), (i 0)])),
  (138, cloneO (.agg [(i 0), (i 0), (i 0), (i 0), (i 0), nl])),
  (139, cloneO (.agg [(i 0), (i 0), (i 0), (.int .u64 0)])),
  (140, cloneO (.agg [(i 0), (i 0), (i 0), nl])),
  (141, cloneO (.agg [(i 0), (i 0), (.str []), nl, nl])),
  (142, cloneO (.agg [(i 0), (i 0), (i 0), (.int .u32 0), (i 0)])),
  (143, cloneO (i 0)),
  (144, cloneO (.int .u32 0)),
  (210, cloneO (.agg [(.int .u64 0), (i 0), (i 0)])),
  (228, loadO .u32),
  (269, cloneO (u 0)),
  (285, addO .i64),
  (297, storeO),
  (317, idxO),
  (356, mark0O),
  (357, casO .i32),
  (358, mark0O),
  (359, markedO),
  (361, markedO),
  (362, addO .i32)]
def mask : Nat := 16293014167993735017117453417381255784278419644600057540582663858402942337010923034235696262909193771691278336
def ext : CallO := handO mask hands
theorem h83 : Hand.Sound Tryz.prog (83, cloneO (.bool false)) := (hand_clone Tryz.func83 (by decide +kernel))
theorem h135 : Hand.Sound Tryz.prog (135, cloneO (.agg [(i 0), (i 0), (.str []), (.int .u64 0), (.int .u32 0)])) := (hand_clone Tryz.func135 (by decide +kernel))
theorem h136 : Hand.Sound Tryz.prog (136, cloneO (.agg [(i 0), (i 0), (i 0), (i 0), (i 0), (.str []), nl])) := (hand_clone Tryz.func136 (by decide +kernel))
theorem h137 : Hand.Sound Tryz.prog (137, cloneO (.agg [(i 0), (i 0), (i 0)])) := (hand_clone Tryz.func137 (by decide +kernel))
theorem h138 : Hand.Sound Tryz.prog (138, cloneO (.agg [(i 0), (i 0), (i 0), (i 0), (i 0), nl])) := (hand_clone Tryz.func138 (by decide +kernel))
theorem h139 : Hand.Sound Tryz.prog (139, cloneO (.agg [(i 0), (i 0), (i 0), (.int .u64 0)])) := (hand_clone Tryz.func139 (by decide +kernel))
theorem h140 : Hand.Sound Tryz.prog (140, cloneO (.agg [(i 0), (i 0), (i 0), nl])) := (hand_clone Tryz.func140 (by decide +kernel))
theorem h141 : Hand.Sound Tryz.prog (141, cloneO (.agg [(i 0), (i 0), (.str []), nl, nl])) := (hand_clone Tryz.func141 (by decide +kernel))
theorem h142 : Hand.Sound Tryz.prog (142, cloneO (.agg [(i 0), (i 0), (i 0), (.int .u32 0), (i 0)])) := (hand_clone Tryz.func142 (by decide +kernel))
theorem h143 : Hand.Sound Tryz.prog (143, cloneO (i 0)) := (hand_clone Tryz.func143 (by decide +kernel))
theorem h144 : Hand.Sound Tryz.prog (144, cloneO (.int .u32 0)) := (hand_clone Tryz.func144 (by decide +kernel))
theorem h210 : Hand.Sound Tryz.prog (210, cloneO (.agg [(.int .u64 0), (i 0), (i 0)])) := (hand_clone Tryz.func210 (by decide +kernel))
theorem h228 : Hand.Sound Tryz.prog (228, loadO .u32) := (hand_load Tryz.func228 (by kernel_rfl) (by kernel_rfl) (by kernel_rfl) .u32 (by kernel_rfl))
theorem h269 : Hand.Sound Tryz.prog (269, cloneO (u 0)) := (hand_clone Tryz.func269 (by decide +kernel))
theorem h285 : Hand.Sound Tryz.prog (285, addO .i64) := (hand_add Tryz.func285 (by kernel_rfl) (by kernel_rfl) (by kernel_rfl) .i64 (by kernel_rfl))
theorem h297 : Hand.Sound Tryz.prog (297, storeO) := (hand_store Tryz.func297 (by kernel_rfl) (by kernel_rfl) (by kernel_rfl) (by kernel_rfl))
theorem h317 : Hand.Sound Tryz.prog (317, idxO) := (hand_idx Tryz.func317 (by kernel_rfl) (by kernel_rfl) (by kernel_rfl) (by kernel_rfl))
theorem h356 : Hand.Sound Tryz.prog (356, mark0O) := (hand_mark0 Tryz.func356 (by kernel_rfl) (by kernel_rfl) (by kernel_rfl) .disable (by kernel_rfl))
theorem h357 : Hand.Sound Tryz.prog (357, casO .i32) := (hand_cas Tryz.func357 (by kernel_rfl) (by kernel_rfl) (by kernel_rfl) .i32 (by kernel_rfl))
theorem h358 : Hand.Sound Tryz.prog (358, mark0O) := (hand_mark0 Tryz.func358 (by kernel_rfl) (by kernel_rfl) (by kernel_rfl) .enable (by kernel_rfl))
theorem h359 : Hand.Sound Tryz.prog (359, markedO) := (hand_marked Tryz.func359 (by kernel_rfl) (by kernel_rfl) (by kernel_rfl) .acquire (by kernel_rfl))
theorem h361 : Hand.Sound Tryz.prog (361, markedO) := (hand_marked Tryz.func361 (by kernel_rfl) (by kernel_rfl) (by kernel_rfl) .releaseMerge (by kernel_rfl))
theorem h362 : Hand.Sound Tryz.prog (362, addO .i32) := (hand_add Tryz.func362 (by kernel_rfl) (by kernel_rfl) (by kernel_rfl) .i32 (by kernel_rfl))
theorem hands_ok : ∀ p ∈ hands, Hand.Sound Tryz.prog p := (fcons h83 (fcons h135 (fcons h136 (fcons h137 (fcons h138 (fcons h139 (fcons h140 (fcons h141 (fcons h142 (fcons h143 (fcons h144 (fcons h210 (fcons h228 (fcons h269 (fcons h285 (fcons h297 (fcons
  h317 (fcons h356 (fcons h357 (fcons h358 (fcons h359 (fcons h361 (fcons h362 fnil)))))))))))))))))))))))
theorem ext_ok : ExtOK Tryz.prog ext := handO_ok hands_ok
end Go.Proofs.YtjhcempjiokfdaaGreatDoor
