/- Part 13 of the proof: CbSeat51L. -/
import Derived.Test.YtehcjdaedhmkdaaGreatDoorB12
import Derived.Test.YtehcjdaedhmkdaaGreatDoorB9
import Derived.Test.YtehcjdaedhmkdaaGreatDoorProg
open Go Go.Sim Go.RowKit
namespace Go.Proofs.YtehcjdaedhmkdaaGreatDoor
set_option maxRecDepth 100000
abbrev OK (n : Nat) (F : PF) : Prop := FnOK Tryz.prog nm (cx.μ n) F
theorem fo {P : Program} {N : Names} {f : FuncId} {fn : Func} {c : Code} {F : PF} (h : P.funcs[f]? = some fn) (hb : fn.body = some c) (hk : (digRs P fn.results.toList, bare F.body, dstsB (F.nargs + (fn.ntmps - F.nargs)) false F.body, fn.name == "runtime.NumGoroutine", Nat.ble (F.nargs + (fn.ntmps - F.nargs)) gh) = (some F.results, digC P N c, true, false, true)) : FnOK P N f F := by
 simp only [Prod.mk.injEq] at hk
 exact ⟨fn, c, h, by simpa using hk.2.2.2.1, hb, hk.1, hk.2.1, hk.2.2.1, Nat.le_of_ble_eq_true hk.2.2.2.2⟩
theorem ok186 : OK 186 F186 := fo Tryz.func86 rfl (by kernel_rfl)
theorem ok118 : OK 118 F118 := fo Tryz.func59 rfl (by kernel_rfl)
theorem ok93 : OK 93 F93 := fo Tryz.func39 rfl (by kernel_rfl)
theorem ok81 : OK 81 F81 := fo Tryz.func13 rfl (by kernel_rfl)
theorem ok69 : OK 69 F69 := fo Tryz.func348 rfl (by kernel_rfl)
theorem ok22 : OK 22 F22 := fo Tryz.func132 rfl (by kernel_rfl)
theorem ok10 : OK 10 F10 := fo Tryz.func269 rfl (by kernel_rfl)
theorem ok9 : OK 9 F9 := fo Tryz.func9 rfl (by kernel_rfl)
theorem ok14 : OK 14 F14 := fo Tryz.func32 rfl (by kernel_rfl)
theorem ok62 : OK 62 F62 := fo Tryz.func333 rfl (by kernel_rfl)
theorem ok30 : OK 30 F30 := fo Tryz.func196 rfl (by kernel_rfl)
theorem ok78 : OK 78 F78 := fo Tryz.func6 rfl (by kernel_rfl)
theorem ok77 : OK 77 F77 := fo Tryz.func5 rfl (by kernel_rfl)
theorem ok76 : OK 76 F76 := fo Tryz.func4 rfl (by kernel_rfl)
theorem ok80 : OK 80 F80 := fo Tryz.func12 rfl (by kernel_rfl)
theorem ok79 : OK 79 F79 := fo Tryz.func11 rfl (by kernel_rfl)
theorem ok87 : OK 87 F87 := fo Tryz.func19 rfl (by kernel_rfl)
theorem ok84 : OK 84 F84 := fo Tryz.func16 rfl (by kernel_rfl)
theorem ok83 : OK 83 F83 := fo Tryz.func15 rfl (by kernel_rfl)
theorem ok82 : OK 82 F82 := fo Tryz.func14 rfl (by kernel_rfl)
theorem ok86 : OK 86 F86 := fo Tryz.func18 rfl (by kernel_rfl)
theorem ok85 : OK 85 F85 := fo Tryz.func17 rfl (by kernel_rfl)
theorem ok90 : OK 90 F90 := fo Tryz.func21 rfl (by kernel_rfl)
theorem ok89 : OK 89 F89 := fo Tryz.func7 rfl (by kernel_rfl)
theorem ok88 : OK 88 F88 := fo Tryz.func20 rfl (by kernel_rfl)
theorem ok92 : OK 92 F92 := fo Tryz.func38 rfl (by kernel_rfl)
theorem ok91 : OK 91 F91 := fo Tryz.func22 rfl (by kernel_rfl)
theorem ok105 : OK 105 F105 := fo Tryz.func51 rfl (by kernel_rfl)
theorem ok99 : OK 99 F99 := fo Tryz.func45 rfl (by kernel_rfl)
theorem ok96 : OK 96 F96 := fo Tryz.func42 rfl (by kernel_rfl)
theorem ok95 : OK 95 F95 := fo Tryz.func41 rfl (by kernel_rfl)
theorem ok94 : OK 94 F94 := fo Tryz.func40 rfl (by kernel_rfl)
theorem ok98 : OK 98 F98 := fo Tryz.func44 rfl (by kernel_rfl)
theorem ok97 : OK 97 F97 := fo Tryz.func43 rfl (by kernel_rfl)
theorem ok102 : OK 102 F102 := fo Tryz.func48 rfl (by kernel_rfl)
theorem ok101 : OK 101 F101 := fo Tryz.func47 rfl (by kernel_rfl)
theorem ok100 : OK 100 F100 := fo Tryz.func46 rfl (by kernel_rfl)
theorem ok104 : OK 104 F104 := fo Tryz.func50 rfl (by kernel_rfl)
theorem ok103 : OK 103 F103 := fo Tryz.func49 rfl (by kernel_rfl)
theorem ok112 : OK 112 F112 := fo Tryz.func53 rfl (by kernel_rfl)
theorem ok108 : OK 108 F108 := fo Tryz.func24 rfl (by kernel_rfl)
theorem ok107 : OK 107 F107 := fo Tryz.func23 rfl (by kernel_rfl)
theorem ok106 : OK 106 F106 := fo Tryz.func52 rfl (by kernel_rfl)
theorem ok111 : OK 111 F111 := fo Tryz.func27 rfl (by kernel_rfl)
theorem ok110 : OK 110 F110 := fo Tryz.func26 rfl (by kernel_rfl)
theorem ok115 : OK 115 F115 := fo Tryz.func56 rfl (by kernel_rfl)
theorem ok114 : OK 114 F114 := fo Tryz.func55 rfl (by kernel_rfl)
theorem ok113 : OK 113 F113 := fo Tryz.func54 rfl (by kernel_rfl)
theorem ok117 : OK 117 F117 := fo Tryz.func58 rfl (by kernel_rfl)
theorem ok116 : OK 116 F116 := fo Tryz.func57 rfl (by kernel_rfl)
theorem ok145 : OK 145 F145 := fo Tryz.func97 rfl (by kernel_rfl)
theorem ok131 : OK 131 F131 := fo Tryz.func72 rfl (by kernel_rfl)
theorem ok125 : OK 125 F125 := fo Tryz.func66 rfl (by kernel_rfl)
theorem ok122 : OK 122 F122 := fo Tryz.func63 rfl (by kernel_rfl)
theorem ok120 : OK 120 F120 := fo Tryz.func61 rfl (by kernel_rfl)
theorem ok119 : OK 119 F119 := fo Tryz.func60 rfl (by kernel_rfl)
theorem ok121 : OK 121 F121 := fo Tryz.func62 rfl (by kernel_rfl)
theorem ok124 : OK 124 F124 := fo Tryz.func65 rfl (by kernel_rfl)
theorem ok123 : OK 123 F123 := fo Tryz.func64 rfl (by kernel_rfl)
theorem ok128 : OK 128 F128 := fo Tryz.func69 rfl (by kernel_rfl)
theorem ok127 : OK 127 F127 := fo Tryz.func68 rfl (by kernel_rfl)
theorem ok126 : OK 126 F126 := fo Tryz.func67 rfl (by kernel_rfl)
theorem ok130 : OK 130 F130 := fo Tryz.func71 rfl (by kernel_rfl)
theorem ok129 : OK 129 F129 := fo Tryz.func70 rfl (by kernel_rfl)
theorem ok139 : OK 139 F139 := fo Tryz.func91 rfl (by kernel_rfl)
theorem ok134 : OK 134 F134 := fo Tryz.func75 rfl (by kernel_rfl)
theorem ok133 : OK 133 F133 := fo Tryz.func74 rfl (by kernel_rfl)
theorem ok132 : OK 132 F132 := fo Tryz.func73 rfl (by kernel_rfl)
theorem ok136 : OK 136 F136 := fo Tryz.func77 rfl (by kernel_rfl)
theorem ok135 : OK 135 F135 := fo Tryz.func76 rfl (by kernel_rfl)
theorem ok142 : OK 142 F142 := fo Tryz.func94 rfl (by kernel_rfl)
theorem ok141 : OK 141 F141 := fo Tryz.func93 rfl (by kernel_rfl)
theorem ok140 : OK 140 F140 := fo Tryz.func92 rfl (by kernel_rfl)
theorem ok144 : OK 144 F144 := fo Tryz.func96 rfl (by kernel_rfl)
theorem ok143 : OK 143 F143 := fo Tryz.func95 rfl (by kernel_rfl)
theorem ok170 : OK 170 F170 := fo Tryz.func122 rfl (by kernel_rfl)
theorem ok159 : OK 159 F159 := fo Tryz.func111 rfl (by kernel_rfl)
theorem ok155 : OK 155 F155 := fo Tryz.func107 rfl (by kernel_rfl)
theorem ok154 : OK 154 F154 := fo Tryz.func106 rfl (by kernel_rfl)
theorem ok146 : OK 146 F146 := fo Tryz.func98 rfl (by kernel_rfl)
theorem ok158 : OK 158 F158 := fo Tryz.func110 rfl (by kernel_rfl)
theorem ok156 : OK 156 F156 := fo Tryz.func108 rfl (by kernel_rfl)
theorem ok165 : OK 165 F165 := fo Tryz.func117 rfl (by kernel_rfl)
theorem ok164 : OK 164 F164 := fo Tryz.func116 rfl (by kernel_rfl)
theorem ok163 : OK 163 F163 := fo Tryz.func115 rfl (by kernel_rfl)
theorem ok169 : OK 169 F169 := fo Tryz.func121 rfl (by kernel_rfl)
theorem ok166 : OK 166 F166 := fo Tryz.func118 rfl (by kernel_rfl)
theorem ok180 : OK 180 F180 := fo Tryz.func80 rfl (by kernel_rfl)
theorem ok173 : OK 173 F173 := fo Tryz.func125 rfl (by kernel_rfl)
theorem ok172 : OK 172 F172 := fo Tryz.func124 rfl (by kernel_rfl)
theorem ok171 : OK 171 F171 := fo Tryz.func123 rfl (by kernel_rfl)
theorem ok179 : OK 179 F179 := fo Tryz.func79 rfl (by kernel_rfl)
theorem ok177 : OK 177 F177 := fo Tryz.func129 rfl (by kernel_rfl)
theorem ok183 : OK 183 F183 := fo Tryz.func83 rfl (by kernel_rfl)
theorem ok182 : OK 182 F182 := fo Tryz.func82 rfl (by kernel_rfl)
theorem ok181 : OK 181 F181 := fo Tryz.func81 rfl (by kernel_rfl)
theorem ok185 : OK 185 F185 := fo Tryz.func85 rfl (by kernel_rfl)
theorem ok184 : OK 184 F184 := fo Tryz.func84 rfl (by kernel_rfl)
theorem ok267 : OK 267 F267 := fo Tryz.func174 rfl (by kernel_rfl)
theorem ok230 : OK 230 F230 := fo Tryz.func184 rfl (by kernel_rfl)
theorem ok213 : OK 213 F213 := fo Tryz.func158 rfl (by kernel_rfl)
theorem ok205 : OK 205 F205 := fo Tryz.func150 rfl (by kernel_rfl)
theorem ok201 : OK 201 F201 := fo Tryz.func146 rfl (by kernel_rfl)
theorem ok192 : OK 192 F192 := fo Tryz.func137 rfl (by kernel_rfl)
theorem ok187 : OK 187 F187 := fo Tryz.func130 rfl (by kernel_rfl)
theorem ok193 : OK 193 F193 := fo Tryz.func138 rfl (by kernel_rfl)
theorem ok204 : OK 204 F204 := fo Tryz.func149 rfl (by kernel_rfl)
theorem ok202 : OK 202 F202 := fo Tryz.func147 rfl (by kernel_rfl)
theorem ok210 : OK 210 F210 := fo Tryz.func155 rfl (by kernel_rfl)
theorem ok209 : OK 209 F209 := fo Tryz.func154 rfl (by kernel_rfl)
theorem ok208 : OK 208 F208 := fo Tryz.func153 rfl (by kernel_rfl)
theorem ok212 : OK 212 F212 := fo Tryz.func157 rfl (by kernel_rfl)
theorem ok211 : OK 211 F211 := fo Tryz.func156 rfl (by kernel_rfl)
theorem ok219 : OK 219 F219 := fo Tryz.func164 rfl (by kernel_rfl)
theorem ok216 : OK 216 F216 := fo Tryz.func161 rfl (by kernel_rfl)
theorem ok215 : OK 215 F215 := fo Tryz.func160 rfl (by kernel_rfl)
theorem ok214 : OK 214 F214 := fo Tryz.func159 rfl (by kernel_rfl)
theorem ok218 : OK 218 F218 := fo Tryz.func163 rfl (by kernel_rfl)
theorem ok217 : OK 217 F217 := fo Tryz.func162 rfl (by kernel_rfl)
theorem ok222 : OK 222 F222 := fo Tryz.func167 rfl (by kernel_rfl)
theorem ok221 : OK 221 F221 := fo Tryz.func166 rfl (by kernel_rfl)
theorem ok220 : OK 220 F220 := fo Tryz.func165 rfl (by kernel_rfl)
theorem ok224 : OK 224 F224 := fo Tryz.func178 rfl (by kernel_rfl)
theorem ok223 : OK 223 F223 := fo Tryz.func177 rfl (by kernel_rfl)
theorem ok244 : OK 244 F244 := fo Tryz.func199 rfl (by kernel_rfl)
theorem ok236 : OK 236 F236 := fo Tryz.func190 rfl (by kernel_rfl)
theorem ok233 : OK 233 F233 := fo Tryz.func187 rfl (by kernel_rfl)
theorem ok232 : OK 232 F232 := fo Tryz.func186 rfl (by kernel_rfl)
theorem ok231 : OK 231 F231 := fo Tryz.func185 rfl (by kernel_rfl)
theorem ok235 : OK 235 F235 := fo Tryz.func189 rfl (by kernel_rfl)
theorem ok234 : OK 234 F234 := fo Tryz.func188 rfl (by kernel_rfl)
theorem ok239 : OK 239 F239 := fo Tryz.func193 rfl (by kernel_rfl)
theorem ok238 : OK 238 F238 := fo Tryz.func192 rfl (by kernel_rfl)
theorem ok237 : OK 237 F237 := fo Tryz.func191 rfl (by kernel_rfl)
theorem ok241 : OK 241 F241 := fo Tryz.func195 rfl (by kernel_rfl)
theorem ok240 : OK 240 F240 := fo Tryz.func194 rfl (by kernel_rfl)
theorem ok259 : OK 259 F259 := fo Tryz.func214 rfl (by kernel_rfl)
theorem ok255 : OK 255 F255 := fo Tryz.func210 rfl (by kernel_rfl)
theorem ok254 : OK 254 F254 := fo Tryz.func209 rfl (by kernel_rfl)
theorem ok253 : OK 253 F253 := fo Tryz.func208 rfl (by kernel_rfl)
theorem ok257 : OK 257 F257 := fo Tryz.func212 rfl (by kernel_rfl)
theorem ok256 : OK 256 F256 := fo Tryz.func211 rfl (by kernel_rfl)
theorem ok263 : OK 263 F263 := fo Tryz.func170 rfl (by kernel_rfl)
theorem ok262 : OK 262 F262 := fo Tryz.func169 rfl (by kernel_rfl)
theorem ok260 : OK 260 F260 := fo Tryz.func215 rfl (by kernel_rfl)
theorem ok266 : OK 266 F266 := fo Tryz.func173 rfl (by kernel_rfl)
theorem ok265 : OK 265 F265 := fo Tryz.func172 rfl (by kernel_rfl)
theorem ok314 : OK 314 F314 := fo Tryz.func273 rfl (by kernel_rfl)
theorem ok302 : OK 302 F302 := fo Tryz.func260 rfl (by kernel_rfl)
theorem ok296 : OK 296 F296 := fo Tryz.func243 rfl (by kernel_rfl)
theorem ok293 : OK 293 F293 := fo Tryz.func240 rfl (by kernel_rfl)
theorem ok290 : OK 290 F290 := fo Tryz.func237 rfl (by kernel_rfl)
theorem ok268 : OK 268 F268 := fo Tryz.func175 rfl (by kernel_rfl)
theorem ok292 : OK 292 F292 := fo Tryz.func239 rfl (by kernel_rfl)
theorem ok295 : OK 295 F295 := fo Tryz.func242 rfl (by kernel_rfl)
theorem ok294 : OK 294 F294 := fo Tryz.func241 rfl (by kernel_rfl)
theorem ok299 : OK 299 F299 := fo Tryz.func246 rfl (by kernel_rfl)
theorem ok298 : OK 298 F298 := fo Tryz.func245 rfl (by kernel_rfl)
theorem ok297 : OK 297 F297 := fo Tryz.func244 rfl (by kernel_rfl)
theorem ok301 : OK 301 F301 := fo Tryz.func259 rfl (by kernel_rfl)
theorem ok300 : OK 300 F300 := fo Tryz.func258 rfl (by kernel_rfl)
theorem ok308 : OK 308 F308 := fo Tryz.func266 rfl (by kernel_rfl)
theorem ok305 : OK 305 F305 := fo Tryz.func263 rfl (by kernel_rfl)
theorem ok304 : OK 304 F304 := fo Tryz.func262 rfl (by kernel_rfl)
theorem ok303 : OK 303 F303 := fo Tryz.func261 rfl (by kernel_rfl)
theorem ok307 : OK 307 F307 := fo Tryz.func265 rfl (by kernel_rfl)
theorem ok306 : OK 306 F306 := fo Tryz.func264 rfl (by kernel_rfl)
theorem ok311 : OK 311 F311 := fo Tryz.func270 rfl (by kernel_rfl)
theorem ok310 : OK 310 F310 := fo Tryz.func268 rfl (by kernel_rfl)
theorem ok309 : OK 309 F309 := fo Tryz.func267 rfl (by kernel_rfl)
theorem ok313 : OK 313 F313 := fo Tryz.func272 rfl (by kernel_rfl)
theorem ok312 : OK 312 F312 := fo Tryz.func271 rfl (by kernel_rfl)
theorem ok341 : OK 341 F341 := fo Tryz.func251 rfl (by kernel_rfl)
theorem ok321 : OK 321 F321 := fo Tryz.func280 rfl (by kernel_rfl)
theorem ok317 : OK 317 F317 := fo Tryz.func276 rfl (by kernel_rfl)
theorem ok316 : OK 316 F316 := fo Tryz.func275 rfl (by kernel_rfl)
theorem ok315 : OK 315 F315 := fo Tryz.func274 rfl (by kernel_rfl)
theorem ok319 : OK 319 F319 := fo Tryz.func278 rfl (by kernel_rfl)
theorem ok318 : OK 318 F318 := fo Tryz.func277 rfl (by kernel_rfl)
theorem ok328 : OK 328 F328 := fo Tryz.func288 rfl (by kernel_rfl)
theorem ok325 : OK 325 F325 := fo Tryz.func284 rfl (by kernel_rfl)
theorem ok322 : OK 322 F322 := fo Tryz.func281 rfl (by kernel_rfl)
theorem ok335 : OK 335 F335 := fo Tryz.func296 rfl (by kernel_rfl)
theorem ok330 : OK 330 F330 := fo Tryz.func290 rfl (by kernel_rfl)
theorem ok368 : OK 368 F368 := fo Tryz.func331 rfl (by kernel_rfl)
theorem ok364 : OK 364 F364 := fo Tryz.func318 rfl (by kernel_rfl)
theorem ok344 : OK 344 F344 := fo Tryz.func255 rfl (by kernel_rfl)
theorem ok342 : OK 342 F342 := fo Tryz.func252 rfl (by kernel_rfl)
theorem ok367 : OK 367 F367 := fo Tryz.func330 rfl (by kernel_rfl)
theorem ok365 : OK 365 F365 := fo Tryz.func328 rfl (by kernel_rfl)
theorem ok376 : OK 376 F376 := fo Tryz.func340 rfl (by kernel_rfl)
theorem ok372 : OK 372 F372 := fo Tryz.func336 rfl (by kernel_rfl)
theorem ok369 : OK 369 F369 := fo Tryz.func332 rfl (by kernel_rfl)
theorem ok388 : OK 388 F388 := fo Tryz.func351 rfl (by kernel_rfl)
theorem ok382 : OK 382 F382 := fo Tryz.func324 rfl (by kernel_rfl)
theorem fok : tabF.All fun n F => FnOK Tryz.prog nm (cx.μ n) F := ⟨ok186, ⟨ok118, ⟨ok93, ⟨ok81, ⟨ok69, ⟨ok22, ⟨ok10, ⟨ok9, trivial, trivial⟩, ⟨ok14, trivial, trivial⟩⟩, ⟨ok62, ⟨ok30, trivial, trivial⟩, trivial⟩⟩, ⟨ok78, ⟨ok77, ⟨ok76, trivial, trivial⟩, trivial⟩, ⟨ok80, ⟨ok79, trivial, trivial⟩, trivial⟩⟩⟩, ⟨ok87, ⟨ok84, ⟨ok83, ⟨ok82, trivial, trivial⟩, trivial⟩, ⟨ok86, ⟨ok85, trivial, trivial⟩, trivial⟩⟩, ⟨ok90, ⟨ok89, ⟨ok88, trivial, trivial⟩, trivial⟩, ⟨ok92, ⟨ok91, trivial, trivial⟩, trivial⟩⟩⟩⟩, ⟨ok105, ⟨ok99, ⟨ok96, ⟨ok95, ⟨ok94, trivial, trivial⟩, trivial⟩, ⟨ok98, ⟨ok97, trivial, trivial⟩, trivial⟩⟩, ⟨ok102, ⟨ok101, ⟨ok100, trivial, trivial⟩, trivial⟩, ⟨ok104, ⟨ok103, trivial, trivial⟩, trivial⟩⟩⟩, ⟨ok112, ⟨ok108, ⟨ok107, ⟨ok106, trivial, trivial⟩, trivial⟩, ⟨ok111, ⟨ok110, trivial, trivial⟩, trivial⟩⟩, ⟨ok115, ⟨ok114, ⟨ok113, trivial, trivial⟩, trivial⟩, ⟨ok117, ⟨ok116, trivial, trivial⟩, trivial⟩⟩⟩⟩⟩, ⟨ok145, ⟨ok131, ⟨ok125, ⟨ok122, ⟨ok120, ⟨ok119, trivial, trivial⟩, ⟨ok121, trivial, trivial⟩⟩, ⟨ok124, ⟨ok123, trivial, trivial⟩, trivial⟩⟩, ⟨ok128, ⟨ok127, ⟨ok126, trivial, trivial⟩, trivial⟩, ⟨ok130, ⟨ok129, trivial, trivial⟩, trivial⟩⟩⟩, ⟨ok139, ⟨ok134, ⟨ok133, ⟨ok132, trivial, trivial⟩, trivial⟩, ⟨ok136, ⟨ok135, trivial, trivial⟩, trivial⟩⟩, ⟨ok142, ⟨ok141, ⟨ok140, trivial, trivial⟩, trivial⟩, ⟨ok144, ⟨ok143, trivial, trivial⟩, trivial⟩⟩⟩⟩, ⟨ok170, ⟨ok159, ⟨ok155, ⟨ok154, ⟨ok146, trivial, trivial⟩, trivial⟩, ⟨ok158, ⟨ok156, trivial, trivial⟩, trivial⟩⟩, ⟨ok165, ⟨ok164, ⟨ok163, trivial, trivial⟩, trivial⟩, ⟨ok169, ⟨ok166, trivial, trivial⟩, trivial⟩⟩⟩, ⟨ok180, ⟨ok173, ⟨ok172, ⟨ok171, trivial, trivial⟩, trivial⟩, ⟨ok179, ⟨ok177, trivial, trivial⟩, trivial⟩⟩, ⟨ok183, ⟨ok182, ⟨ok181, trivial, trivial⟩, trivial⟩, ⟨ok185, ⟨ok184, trivial, trivial⟩, trivial⟩⟩⟩⟩⟩⟩, ⟨ok267, ⟨ok230, ⟨ok213, ⟨ok205, ⟨ok201, ⟨ok192, ⟨ok187, trivial, trivial⟩, ⟨ok193, trivial, trivial⟩⟩, ⟨ok204, ⟨ok202, trivial, trivial⟩, trivial⟩⟩, ⟨ok210, ⟨ok209, ⟨ok208, trivial, trivial⟩, trivial⟩, ⟨ok212, ⟨ok211, trivial, trivial⟩, trivial⟩⟩⟩, ⟨ok219, ⟨ok216, ⟨ok215, ⟨ok214, trivial, trivial⟩, trivial⟩, ⟨ok218, ⟨ok217, trivial, trivial⟩, trivial⟩⟩, ⟨ok222, ⟨ok221, ⟨ok220, trivial, trivial⟩, trivial⟩, ⟨ok224, ⟨ok223, trivial, trivial⟩, trivial⟩⟩⟩⟩, ⟨ok244, ⟨ok236, ⟨ok233, ⟨ok232, ⟨ok231, trivial, trivial⟩, trivial⟩, ⟨ok235, ⟨ok234, trivial, trivial⟩, trivial⟩⟩, ⟨ok239, ⟨ok238, ⟨ok237, trivial, trivial⟩, trivial⟩, ⟨ok241, ⟨ok240, trivial, trivial⟩, trivial⟩⟩⟩, ⟨ok259, ⟨ok255, ⟨ok254, ⟨ok253, trivial, trivial⟩, trivial⟩, ⟨ok257, ⟨ok256, trivial, trivial⟩, trivial⟩⟩, ⟨ok263, ⟨ok262, ⟨ok260, trivial, trivial⟩, trivial⟩, ⟨ok266, ⟨ok265, trivial, trivial⟩, trivial⟩⟩⟩⟩⟩, ⟨ok314, ⟨ok302, ⟨ok296, ⟨ok293, ⟨ok290, ⟨ok268, trivial, trivial⟩, ⟨ok292, trivial, trivial⟩⟩, ⟨ok295, ⟨ok294, trivial, trivial⟩, trivial⟩⟩, ⟨ok299, ⟨ok298, ⟨ok297, trivial, trivial⟩, trivial⟩, ⟨ok301, ⟨ok300, trivial, trivial⟩, trivial⟩⟩⟩, ⟨ok308, ⟨ok305, ⟨ok304, ⟨ok303, trivial, trivial⟩, trivial⟩, ⟨ok307, ⟨ok306, trivial, trivial⟩, trivial⟩⟩, ⟨ok311, ⟨ok310, ⟨ok309, trivial, trivial⟩, trivial⟩, ⟨ok313, ⟨ok312, trivial, trivial⟩, trivial⟩⟩⟩⟩, ⟨ok341, ⟨ok321, ⟨ok317, ⟨ok316, ⟨ok315, trivial, trivial⟩, trivial⟩, ⟨ok319, ⟨ok318, trivial, trivial⟩, trivial⟩⟩, ⟨ok328, ⟨ok325, ⟨ok322, trivial, trivial⟩, trivial⟩, ⟨ok335, ⟨ok330, trivial, trivial⟩, trivial⟩⟩⟩, ⟨ok368, ⟨ok364, ⟨ok344, ⟨ok342, trivial, trivial⟩, trivial⟩, ⟨ok367, ⟨ok365, trivial, trivial⟩, trivial⟩⟩, ⟨ok376, ⟨ok372, ⟨ok369, trivial, trivial⟩, trivial⟩, ⟨ok388, ⟨ok382, trivial, trivial⟩, trivial⟩⟩⟩⟩⟩⟩⟩
theorem nok : NOK Tryz.prog nm cx TA51L.G := nok_of (by kernel_rfl) (by kernel_rfl)
theorem clone147 : XOK Tryz.prog nm cx TA51L.G 147 (.clone (K1 11) 88) := by
 refine ⟨⟨Tryz.f99, 34, _, _, (.a [(I 0), (I 0), (I 0), (I 0), (I 0), (I 0), (I 0), (I 0), (.i .u64 0), (I 0), (.i .u64 0)]), (K1 11), _, _, _, _, _, _, _, _, _, Tryz.func99, rfl, Tryz.underlying34, rfl, rfl, ?_, rfl, rfl, rfl, rfl, rfl, rfl, ?_, ?_⟩, Tryz.f99, Tryz.func99, rfl, by decide⟩
 ·kernel_rfl
 ·kernel_rfl
 ·kernel_rfl
theorem clone148 : XOK Tryz.prog nm cx TA51L.G 148 (.clone (K1 10) 88) := by
 refine ⟨⟨Tryz.f100, 36, _, _, (.a [(I 0), (I 0), (I 0), (I 0), (I 0), (I 0), (I 0), (I 0), (I 0), (.s [])]), (K1 10), _, _, _, _, _, _, _, _, _, Tryz.func100, rfl, Tryz.underlying36, rfl, rfl, ?_, rfl, rfl, rfl, rfl, rfl, rfl, ?_, ?_⟩, Tryz.f100, Tryz.func100, rfl, by decide⟩
 ·kernel_rfl
 ·kernel_rfl
 ·kernel_rfl
theorem clone149 : XOK Tryz.prog nm cx TA51L.G 149 (.clone (K1 7) 64) := by
 refine ⟨⟨Tryz.f101, 37, _, _, (.a [(I 0), (I 0), (I 0), (I 0), (I 0), (I 0), (.s [])]), (K1 7), _, _, _, _, _, _, _, _, _, Tryz.func101, rfl, Tryz.underlying37, rfl, rfl, ?_, rfl, rfl, rfl, rfl, rfl, rfl, ?_, ?_⟩, Tryz.f101, Tryz.func101, rfl, by decide⟩
 ·kernel_rfl
 ·kernel_rfl
 ·kernel_rfl
theorem clone150 : XOK Tryz.prog nm cx TA51L.G 150 (.clone (K1 9) 80) := by
 refine ⟨⟨Tryz.f102, 38, _, _, (.a [(I 0), (I 0), (I 0), (I 0), (I 0), (I 0), (I 0), (I 0), (.s [])]), (K1 9), _, _, _, _, _, _, _, _, _, Tryz.func102, rfl, Tryz.underlying38, rfl, rfl, ?_, rfl, rfl, rfl, rfl, rfl, rfl, ?_, ?_⟩, Tryz.f102, Tryz.func102, rfl, by decide⟩
 ·kernel_rfl
 ·kernel_rfl
 ·kernel_rfl
theorem clone151 : XOK Tryz.prog nm cx TA51L.G 151 (.clone (K1 7) 72) := by
 refine ⟨⟨Tryz.f103, 39, _, _, (.a [(.s []), (I 0), (I 0), (I 0), (I 0), (I 0), (.s [])]), (K1 7), _, _, _, _, _, _, _, _, _, Tryz.func103, rfl, Tryz.underlying39, rfl, rfl, ?_, rfl, rfl, rfl, rfl, rfl, rfl, ?_, ?_⟩, Tryz.f103, Tryz.func103, rfl, by decide⟩
 ·kernel_rfl
 ·kernel_rfl
 ·kernel_rfl
theorem clone152 : XOK Tryz.prog nm cx TA51L.G 152 (.clone (K1 3) 32) := by
 refine ⟨⟨Tryz.f104, 41, _, _, (.a [(.s []), (I 0), (I 0)]), (K1 3), _, _, _, _, _, _, _, _, _, Tryz.func104, rfl, Tryz.underlying41, rfl, rfl, ?_, rfl, rfl, rfl, rfl, rfl, rfl, ?_, ?_⟩, Tryz.f104, Tryz.func104, rfl, by decide⟩
 ·kernel_rfl
 ·kernel_rfl
 ·kernel_rfl
theorem clone153 : XOK Tryz.prog nm cx TA51L.G 153 (.clone (K1 5) 64) := by
 refine ⟨⟨Tryz.f105, 43, _, _, (.a [(I 0), (.s []), (.s []), (.s []), (.i .u64 0)]), (K1 5), _, _, _, _, _, _, _, _, _, Tryz.func105, rfl, Tryz.underlying43, rfl, rfl, ?_, rfl, rfl, rfl, rfl, rfl, rfl, ?_, ?_⟩, Tryz.f105, Tryz.func105, rfl, by decide⟩
 ·kernel_rfl
 ·kernel_rfl
 ·kernel_rfl
theorem clone160 : XOK Tryz.prog nm cx TA51L.G 160 (.clone K0 8) := by
 refine ⟨⟨Tryz.f112, 115, _, _, (I 0), K0, _, _, _, _, _, _, _, _, _, Tryz.func112, rfl, Tryz.underlying115, rfl, rfl, ?_, rfl, rfl, rfl, rfl, rfl, rfl, ?_, ?_⟩, Tryz.f112, Tryz.func112, rfl, by decide⟩
 ·kernel_rfl
 ·kernel_rfl
 ·kernel_rfl
theorem clone161 : XOK Tryz.prog nm cx TA51L.G 161 (.clone (K1 3) 24) := by
 refine ⟨⟨Tryz.f113, 46, _, _, (.a [(I 0), (I 0), (I 0)]), (K1 3), _, _, _, _, _, _, _, _, _, Tryz.func113, rfl, Tryz.underlying46, rfl, rfl, ?_, rfl, rfl, rfl, rfl, rfl, rfl, ?_, ?_⟩, Tryz.f113, Tryz.func113, rfl, by decide⟩
 ·kernel_rfl
 ·kernel_rfl
 ·kernel_rfl
theorem clone162 : XOK Tryz.prog nm cx TA51L.G 162 (.clone (K1 3) 32) := by
 refine ⟨⟨Tryz.f114, 47, _, _, (.a [(I 0), (I 0), (.s [])]), (K1 3), _, _, _, _, _, _, _, _, _, Tryz.func114, rfl, Tryz.underlying47, rfl, rfl, ?_, rfl, rfl, rfl, rfl, rfl, rfl, ?_, ?_⟩, Tryz.f114, Tryz.func114, rfl, by decide⟩
 ·kernel_rfl
 ·kernel_rfl
 ·kernel_rfl
theorem clone225 : XOK Tryz.prog nm cx TA51L.G 225 (.clone (K1 2) 24) := by
 refine ⟨⟨Tryz.f179, 22, _, _, (.a [(.s []), (I 0)]), (K1 2), _, _, _, _, _, _, _, _, _, Tryz.func179, rfl, Tryz.underlying22, rfl, rfl, ?_, rfl, rfl, rfl, rfl, rfl, rfl, ?_, ?_⟩, Tryz.f179, Tryz.func179, rfl, by decide⟩
 ·kernel_rfl
 ·kernel_rfl
 ·kernel_rfl
theorem clone226 : XOK Tryz.prog nm cx TA51L.G 226 (.clone (K1 4) 40) := by
 refine ⟨⟨Tryz.f180, 24, _, _, (.a [(I 0), (I 0), (I 0), (.s [])]), (K1 4), _, _, _, _, _, _, _, _, _, Tryz.func180, rfl, Tryz.underlying24, rfl, rfl, ?_, rfl, rfl, rfl, rfl, rfl, rfl, ?_, ?_⟩, Tryz.f180, Tryz.func180, rfl, by decide⟩
 ·kernel_rfl
 ·kernel_rfl
 ·kernel_rfl
theorem clone227 : XOK Tryz.prog nm cx TA51L.G 227 (.clone (K1 7) 80) := by
 refine ⟨⟨Tryz.f181, 28, _, _, (.a [(I 0), (I 0), (I 0), (I 0), (.s []), (.s []), (.s [])]), (K1 7), _, _, _, _, _, _, _, _, _, Tryz.func181, rfl, Tryz.underlying28, rfl, rfl, ?_, rfl, rfl, rfl, rfl, rfl, rfl, ?_, ?_⟩, Tryz.f181, Tryz.func181, rfl, by decide⟩
 ·kernel_rfl
 ·kernel_rfl
 ·kernel_rfl
theorem clone228 : XOK Tryz.prog nm cx TA51L.G 228 (.clone (K1 6) 56) := by
 refine ⟨⟨Tryz.f182, 30, _, _, (.a [(I 0), (I 0), (I 0), (I 0), (I 0), (.s [])]), (K1 6), _, _, _, _, _, _, _, _, _, Tryz.func182, rfl, Tryz.underlying30, rfl, rfl, ?_, rfl, rfl, rfl, rfl, rfl, rfl, ?_, ?_⟩, Tryz.f182, Tryz.func182, rfl, by decide⟩
 ·kernel_rfl
 ·kernel_rfl
 ·kernel_rfl
theorem clone229 : XOK Tryz.prog nm cx TA51L.G 229 (.clone (K1 7) 64) := by
 refine ⟨⟨Tryz.f183, 31, _, _, (.a [(I 0), (I 0), (I 0), (I 0), (I 0), (I 0), (.s [])]), (K1 7), _, _, _, _, _, _, _, _, _, Tryz.func183, rfl, Tryz.underlying31, rfl, rfl, ?_, rfl, rfl, rfl, rfl, rfl, rfl, ?_, ?_⟩, Tryz.f183, Tryz.func183, rfl, by decide⟩
 ·kernel_rfl
 ·kernel_rfl
 ·kernel_rfl
theorem clone60 : XOK Tryz.prog nm cx TA51L.G 60 (.clone (K1 2) 16) := by
 refine ⟨⟨Tryz.f327, 130, _, _, (.a [(I 0), (I 0)]), (K1 2), _, _, _, _, _, _, _, _, _, Tryz.func327, rfl, Tryz.underlying130, rfl, rfl, ?_, rfl, rfl, rfl, rfl, rfl, rfl, ?_, ?_⟩, Tryz.f327, Tryz.func327, rfl, by decide⟩
 ·kernel_rfl
 ·kernel_rfl
 ·kernel_rfl
theorem clone137 : XOK Tryz.prog nm cx TA51L.G 137 (.clone (K1 4) 32) := by
 refine ⟨⟨Tryz.f89, 54, _, _, (.a [(I 0), (I 0), (I 0), (I 0)]), (K1 4), _, _, _, _, _, _, _, _, _, Tryz.func89, rfl, Tryz.underlying54, rfl, rfl, ?_, rfl, rfl, rfl, rfl, rfl, rfl, ?_, ?_⟩, Tryz.f89, Tryz.func89, rfl, by decide⟩
 ·kernel_rfl
 ·kernel_rfl
 ·kernel_rfl
theorem clone138 : XOK Tryz.prog nm cx TA51L.G 138 (.clone (K1 14) 128) := by
 refine ⟨⟨Tryz.f90, 55, _, _, (.a [(I 0), (I 0), (I 0), (I 0), (I 0), (I 0), (I 0), (I 0), (I 0), (I 0), (I 0), (I 0), (.s []), (.s [])]), (K1 14), _, _, _, _, _, _, _, _, _, Tryz.func90, rfl, Tryz.underlying55, rfl, rfl, ?_, rfl, rfl, rfl, rfl, rfl, rfl, ?_, ?_⟩, Tryz.f90, Tryz.func90, rfl, by decide⟩
 ·kernel_rfl
 ·kernel_rfl
 ·kernel_rfl
theorem clone157 : XOK Tryz.prog nm cx TA51L.G 157 (.clone (K1 4) 40) := by
 refine ⟨⟨Tryz.f109, 155, _, _, (.a [(I 0), (I 0), (I 0), (.s [])]), (K1 4), _, _, _, _, _, _, _, _, _, Tryz.func109, rfl, Tryz.underlying155, rfl, rfl, ?_, rfl, rfl, rfl, rfl, rfl, rfl, ?_, ?_⟩, Tryz.f109, Tryz.func109, rfl, by decide⟩
 ·kernel_rfl
 ·kernel_rfl
 ·kernel_rfl
theorem clone15 : XOK Tryz.prog nm cx TA51L.G 15 (.clone (K1 3) 32) := by
 refine ⟨⟨Tryz.f285, 63, _, _, (.a [(I 0), (I 0), (.s [])]), (K1 3), _, _, _, _, _, _, _, _, _, Tryz.func285, rfl, Tryz.underlying63, rfl, rfl, ?_, rfl, rfl, rfl, rfl, rfl, rfl, ?_, ?_⟩, Tryz.f285, Tryz.func285, rfl, by decide⟩
 ·kernel_rfl
 ·kernel_rfl
 ·kernel_rfl
end Go.Proofs.YtehcjdaedhmkdaaGreatDoor

