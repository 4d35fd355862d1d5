/- Part 13 of the proof: CbSeat52Y. -/
import Derived.Test.YtpjacfiddgajfaaGreatDoorYB12
import Derived.Test.YtpjacfiddgajfaaGreatDoorYB9
import Derived.Test.YtpjacfiddgajfaaGreatDoorProg
open Go Go.Sim Go.RowKit
namespace Go.Proofs.YtpjacfiddgajfaaGreatDoor
set_option maxRecDepth 100000
abbrev OK (n : Nat) (F : PF) : Prop := FnOK Tryz.prog nm (cx.μ n) F
theorem fo {P : Program} {N : Names} {f : FuncId} {fn : Func} {c : Code} {F : PF} (h : P.funcs[f]? = some fn) (hb : fn.body = some c) (hk : (digRs P fn.results.toList, bare F.body, dstsB (F.nargs + (fn.ntmps - F.nargs)) false F.body, fn.name == "runtime.NumGoroutine", Nat.ble (F.nargs + (fn.ntmps - F.nargs)) gh) = (some F.results, digC P N c, true, false, true)) : FnOK P N f F := by
 simp only [Prod.mk.injEq] at hk
 exact ⟨fn, c, h, by simpa using hk.2.2.2.1, hb, hk.1, hk.2.1, hk.2.2.1, Nat.le_of_ble_eq_true hk.2.2.2.2⟩
theorem ok359 : OK 359 F359 := fo Tryz.func134 rfl (by kernel_rfl)
theorem ok155 : OK 155 F155 := fo Tryz.func87 rfl (by kernel_rfl)
theorem ok48 : OK 48 F48 := fo Tryz.func429 rfl (by kernel_rfl)
theorem ok30 : OK 30 F30 := fo Tryz.func275 rfl (by kernel_rfl)
theorem ok21 : OK 21 F21 := fo Tryz.func293 rfl (by kernel_rfl)
theorem ok16 : OK 16 F16 := fo Tryz.func264 rfl (by kernel_rfl)
theorem ok12 : OK 12 F12 := fo Tryz.func204 rfl (by kernel_rfl)
theorem ok10 : OK 10 F10 := fo Tryz.func63 rfl (by kernel_rfl)
theorem ok9 : OK 9 F9 := fo Tryz.func22 rfl (by kernel_rfl)
theorem ok14 : OK 14 F14 := fo Tryz.func39 rfl (by kernel_rfl)
theorem ok19 : OK 19 F19 := fo Tryz.func326 rfl (by kernel_rfl)
theorem ok18 : OK 18 F18 := fo Tryz.func325 rfl (by kernel_rfl)
theorem ok20 : OK 20 F20 := fo Tryz.func360 rfl (by kernel_rfl)
theorem ok26 : OK 26 F26 := fo Tryz.func359 rfl (by kernel_rfl)
theorem ok24 : OK 24 F24 := fo Tryz.func216 rfl (by kernel_rfl)
theorem ok23 : OK 23 F23 := fo Tryz.func414 rfl (by kernel_rfl)
theorem ok22 : OK 22 F22 := fo Tryz.func197 rfl (by kernel_rfl)
theorem ok25 : OK 25 F25 := fo Tryz.func415 rfl (by kernel_rfl)
theorem ok28 : OK 28 F28 := fo Tryz.func363 rfl (by kernel_rfl)
theorem ok27 : OK 27 F27 := fo Tryz.func416 rfl (by kernel_rfl)
theorem ok29 : OK 29 F29 := fo Tryz.func462 rfl (by kernel_rfl)
theorem ok39 : OK 39 F39 := fo Tryz.func213 rfl (by kernel_rfl)
theorem ok35 : OK 35 F35 := fo Tryz.func423 rfl (by kernel_rfl)
theorem ok33 : OK 33 F33 := fo Tryz.func310 rfl (by kernel_rfl)
theorem ok32 : OK 32 F32 := fo Tryz.func463 rfl (by kernel_rfl)
theorem ok31 : OK 31 F31 := fo Tryz.func374 rfl (by kernel_rfl)
theorem ok34 : OK 34 F34 := fo Tryz.func376 rfl (by kernel_rfl)
theorem ok37 : OK 37 F37 := fo Tryz.func371 rfl (by kernel_rfl)
theorem ok36 : OK 36 F36 := fo Tryz.func375 rfl (by kernel_rfl)
theorem ok38 : OK 38 F38 := fo Tryz.func497 rfl (by kernel_rfl)
theorem ok43 : OK 43 F43 := fo Tryz.func435 rfl (by kernel_rfl)
theorem ok41 : OK 41 F41 := fo Tryz.func499 rfl (by kernel_rfl)
theorem ok40 : OK 40 F40 := fo Tryz.func498 rfl (by kernel_rfl)
theorem ok42 : OK 42 F42 := fo Tryz.func377 rfl (by kernel_rfl)
theorem ok46 : OK 46 F46 := fo Tryz.func438 rfl (by kernel_rfl)
theorem ok44 : OK 44 F44 := fo Tryz.func436 rfl (by kernel_rfl)
theorem ok47 : OK 47 F47 := fo Tryz.func431 rfl (by kernel_rfl)
theorem ok68 : OK 68 F68 := fo Tryz.func512 rfl (by kernel_rfl)
theorem ok58 : OK 58 F58 := fo Tryz.func430 rfl (by kernel_rfl)
theorem ok54 : OK 54 F54 := fo Tryz.func373 rfl (by kernel_rfl)
theorem ok52 : OK 52 F52 := fo Tryz.func537 rfl (by kernel_rfl)
theorem ok51 : OK 51 F51 := fo Tryz.func536 rfl (by kernel_rfl)
theorem ok50 : OK 50 F50 := fo Tryz.func345 rfl (by kernel_rfl)
theorem ok53 : OK 53 F53 := fo Tryz.func538 rfl (by kernel_rfl)
theorem ok56 : OK 56 F56 := fo Tryz.func473 rfl (by kernel_rfl)
theorem ok55 : OK 55 F55 := fo Tryz.func427 rfl (by kernel_rfl)
theorem ok57 : OK 57 F57 := fo Tryz.func428 rfl (by kernel_rfl)
theorem ok63 : OK 63 F63 := fo Tryz.func569 rfl (by kernel_rfl)
theorem ok61 : OK 61 F61 := fo Tryz.func567 rfl (by kernel_rfl)
theorem ok59 : OK 59 F59 := fo Tryz.func401 rfl (by kernel_rfl)
theorem ok62 : OK 62 F62 := fo Tryz.func568 rfl (by kernel_rfl)
theorem ok65 : OK 65 F65 := fo Tryz.func267 rfl (by kernel_rfl)
theorem ok64 : OK 64 F64 := fo Tryz.func370 rfl (by kernel_rfl)
theorem ok66 : OK 66 F66 := fo Tryz.func329 rfl (by kernel_rfl)
theorem ok100 : OK 100 F100 := fo Tryz.func36 rfl (by kernel_rfl)
theorem ok85 : OK 85 F85 := fo Tryz.func19 rfl (by kernel_rfl)
theorem ok72 : OK 72 F72 := fo Tryz.func268 rfl (by kernel_rfl)
theorem ok71 : OK 71 F71 := fo Tryz.func328 rfl (by kernel_rfl)
theorem ok69 : OK 69 F69 := fo Tryz.func580 rfl (by kernel_rfl)
theorem ok77 : OK 77 F77 := fo Tryz.func8 rfl (by kernel_rfl)
theorem ok88 : OK 88 F88 := fo Tryz.func30 rfl (by kernel_rfl)
theorem ok87 : OK 87 F87 := fo Tryz.func29 rfl (by kernel_rfl)
theorem ok97 : OK 97 F97 := fo Tryz.func9 rfl (by kernel_rfl)
theorem ok139 : OK 139 F139 := fo Tryz.func20 rfl (by kernel_rfl)
theorem ok110 : OK 110 F110 := fo Tryz.func291 rfl (by kernel_rfl)
theorem ok106 : OK 106 F106 := fo Tryz.func55 rfl (by kernel_rfl)
theorem ok111 : OK 111 F111 := fo Tryz.func292 rfl (by kernel_rfl)
theorem ok146 : OK 146 F146 := fo Tryz.func25 rfl (by kernel_rfl)
theorem ok140 : OK 140 F140 := fo Tryz.func21 rfl (by kernel_rfl)
theorem ok154 : OK 154 F154 := fo Tryz.func85 rfl (by kernel_rfl)
theorem ok262 : OK 262 F262 := fo Tryz.func406 rfl (by kernel_rfl)
theorem ok224 : OK 224 F224 := fo Tryz.func38 rfl (by kernel_rfl)
theorem ok182 : OK 182 F182 := fo Tryz.func354 rfl (by kernel_rfl)
theorem ok177 : OK 177 F177 := fo Tryz.func122 rfl (by kernel_rfl)
theorem ok172 : OK 172 F172 := fo Tryz.func58 rfl (by kernel_rfl)
theorem ok168 : OK 168 F168 := fo Tryz.func420 rfl (by kernel_rfl)
theorem ok158 : OK 158 F158 := fo Tryz.func90 rfl (by kernel_rfl)
theorem ok173 : OK 173 F173 := fo Tryz.func135 rfl (by kernel_rfl)
theorem ok180 : OK 180 F180 := fo Tryz.func352 rfl (by kernel_rfl)
theorem ok179 : OK 179 F179 := fo Tryz.func351 rfl (by kernel_rfl)
theorem ok181 : OK 181 F181 := fo Tryz.func353 rfl (by kernel_rfl)
theorem ok186 : OK 186 F186 := fo Tryz.func358 rfl (by kernel_rfl)
theorem ok184 : OK 184 F184 := fo Tryz.func356 rfl (by kernel_rfl)
theorem ok183 : OK 183 F183 := fo Tryz.func355 rfl (by kernel_rfl)
theorem ok185 : OK 185 F185 := fo Tryz.func357 rfl (by kernel_rfl)
theorem ok207 : OK 207 F207 := fo Tryz.func24 rfl (by kernel_rfl)
theorem ok191 : OK 191 F191 := fo Tryz.func303 rfl (by kernel_rfl)
theorem ok223 : OK 223 F223 := fo Tryz.func37 rfl (by kernel_rfl)
theorem ok245 : OK 245 F245 := fo Tryz.func466 rfl (by kernel_rfl)
theorem ok234 : OK 234 F234 := fo Tryz.func33 rfl (by kernel_rfl)
theorem ok232 : OK 232 F232 := fo Tryz.func49 rfl (by kernel_rfl)
theorem ok231 : OK 231 F231 := fo Tryz.func47 rfl (by kernel_rfl)
theorem ok230 : OK 230 F230 := fo Tryz.func46 rfl (by kernel_rfl)
theorem ok233 : OK 233 F233 := fo Tryz.func50 rfl (by kernel_rfl)
theorem ok243 : OK 243 F243 := fo Tryz.func471 rfl (by kernel_rfl)
theorem ok242 : OK 242 F242 := fo Tryz.func470 rfl (by kernel_rfl)
theorem ok244 : OK 244 F244 := fo Tryz.func464 rfl (by kernel_rfl)
theorem ok256 : OK 256 F256 := fo Tryz.func198 rfl (by kernel_rfl)
theorem ok254 : OK 254 F254 := fo Tryz.func129 rfl (by kernel_rfl)
theorem ok246 : OK 246 F246 := fo Tryz.func467 rfl (by kernel_rfl)
theorem ok255 : OK 255 F255 := fo Tryz.func130 rfl (by kernel_rfl)
theorem ok259 : OK 259 F259 := fo Tryz.func186 rfl (by kernel_rfl)
theorem ok257 : OK 257 F257 := fo Tryz.func199 rfl (by kernel_rfl)
theorem ok260 : OK 260 F260 := fo Tryz.func187 rfl (by kernel_rfl)
theorem ok307 : OK 307 F307 := fo Tryz.func101 rfl (by kernel_rfl)
theorem ok291 : OK 291 F291 := fo Tryz.func40 rfl (by kernel_rfl)
theorem ok268 : OK 268 F268 := fo Tryz.func412 rfl (by kernel_rfl)
theorem ok266 : OK 266 F266 := fo Tryz.func410 rfl (by kernel_rfl)
theorem ok265 : OK 265 F265 := fo Tryz.func409 rfl (by kernel_rfl)
theorem ok263 : OK 263 F263 := fo Tryz.func407 rfl (by kernel_rfl)
theorem ok267 : OK 267 F267 := fo Tryz.func411 rfl (by kernel_rfl)
theorem ok275 : OK 275 F275 := fo Tryz.func367 rfl (by kernel_rfl)
theorem ok274 : OK 274 F274 := fo Tryz.func205 rfl (by kernel_rfl)
theorem ok287 : OK 287 F287 := fo Tryz.func61 rfl (by kernel_rfl)
theorem ok303 : OK 303 F303 := fo Tryz.func97 rfl (by kernel_rfl)
theorem ok301 : OK 301 F301 := fo Tryz.func95 rfl (by kernel_rfl)
theorem ok300 : OK 300 F300 := fo Tryz.func94 rfl (by kernel_rfl)
theorem ok302 : OK 302 F302 := fo Tryz.func96 rfl (by kernel_rfl)
theorem ok305 : OK 305 F305 := fo Tryz.func99 rfl (by kernel_rfl)
theorem ok304 : OK 304 F304 := fo Tryz.func98 rfl (by kernel_rfl)
theorem ok306 : OK 306 F306 := fo Tryz.func100 rfl (by kernel_rfl)
theorem ok330 : OK 330 F330 := fo Tryz.func503 rfl (by kernel_rfl)
theorem ok326 : OK 326 F326 := fo Tryz.func509 rfl (by kernel_rfl)
theorem ok310 : OK 310 F310 := fo Tryz.func62 rfl (by kernel_rfl)
theorem ok309 : OK 309 F309 := fo Tryz.func103 rfl (by kernel_rfl)
theorem ok308 : OK 308 F308 := fo Tryz.func102 rfl (by kernel_rfl)
theorem ok318 : OK 318 F318 := fo Tryz.func500 rfl (by kernel_rfl)
theorem ok328 : OK 328 F328 := fo Tryz.func501 rfl (by kernel_rfl)
theorem ok327 : OK 327 F327 := fo Tryz.func510 rfl (by kernel_rfl)
theorem ok329 : OK 329 F329 := fo Tryz.func502 rfl (by kernel_rfl)
theorem ok341 : OK 341 F341 := fo Tryz.func455 rfl (by kernel_rfl)
theorem ok335 : OK 335 F335 := fo Tryz.func260 rfl (by kernel_rfl)
theorem ok331 : OK 331 F331 := fo Tryz.func504 rfl (by kernel_rfl)
theorem ok336 : OK 336 F336 := fo Tryz.func60 rfl (by kernel_rfl)
theorem ok344 : OK 344 F344 := fo Tryz.func459 rfl (by kernel_rfl)
theorem ok342 : OK 342 F342 := fo Tryz.func456 rfl (by kernel_rfl)
theorem ok358 : OK 358 F358 := fo Tryz.func133 rfl (by kernel_rfl)
theorem ok676 : OK 676 F676 := fo Tryz.func311 rfl (by kernel_rfl)
theorem ok542 : OK 542 F542 := fo Tryz.func173 rfl (by kernel_rfl)
theorem ok508 : OK 508 F508 := fo Tryz.func112 rfl (by kernel_rfl)
theorem ok480 : OK 480 F480 := fo Tryz.func28 rfl (by kernel_rfl)
theorem ok375 : OK 375 F375 := fo Tryz.func543 rfl (by kernel_rfl)
theorem ok365 : OK 365 F365 := fo Tryz.func162 rfl (by kernel_rfl)
theorem ok363 : OK 363 F363 := fo Tryz.func545 rfl (by kernel_rfl)
theorem ok362 : OK 362 F362 := fo Tryz.func544 rfl (by kernel_rfl)
theorem ok374 : OK 374 F374 := fo Tryz.func391 rfl (by kernel_rfl)
theorem ok377 : OK 377 F377 := fo Tryz.func132 rfl (by kernel_rfl)
theorem ok376 : OK 376 F376 := fo Tryz.func539 rfl (by kernel_rfl)
theorem ok382 : OK 382 F382 := fo Tryz.func494 rfl (by kernel_rfl)
theorem ok504 : OK 504 F504 := fo Tryz.func108 rfl (by kernel_rfl)
theorem ok490 : OK 490 F490 := fo Tryz.func54 rfl (by kernel_rfl)
theorem ok489 : OK 489 F489 := fo Tryz.func53 rfl (by kernel_rfl)
theorem ok488 : OK 488 F488 := fo Tryz.func52 rfl (by kernel_rfl)
theorem ok495 : OK 495 F495 := fo Tryz.func419 rfl (by kernel_rfl)
theorem ok506 : OK 506 F506 := fo Tryz.func110 rfl (by kernel_rfl)
theorem ok505 : OK 505 F505 := fo Tryz.func109 rfl (by kernel_rfl)
theorem ok507 : OK 507 F507 := fo Tryz.func111 rfl (by kernel_rfl)
theorem ok522 : OK 522 F522 := fo Tryz.func465 rfl (by kernel_rfl)
theorem ok513 : OK 513 F513 := fo Tryz.func117 rfl (by kernel_rfl)
theorem ok511 : OK 511 F511 := fo Tryz.func115 rfl (by kernel_rfl)
theorem ok510 : OK 510 F510 := fo Tryz.func114 rfl (by kernel_rfl)
theorem ok509 : OK 509 F509 := fo Tryz.func113 rfl (by kernel_rfl)
theorem ok512 : OK 512 F512 := fo Tryz.func116 rfl (by kernel_rfl)
theorem ok515 : OK 515 F515 := fo Tryz.func119 rfl (by kernel_rfl)
theorem ok514 : OK 514 F514 := fo Tryz.func118 rfl (by kernel_rfl)
theorem ok517 : OK 517 F517 := fo Tryz.func15 rfl (by kernel_rfl)
theorem ok538 : OK 538 F538 := fo Tryz.func169 rfl (by kernel_rfl)
theorem ok531 : OK 531 F531 := fo Tryz.func18 rfl (by kernel_rfl)
theorem ok528 : OK 528 F528 := fo Tryz.func10 rfl (by kernel_rfl)
theorem ok537 : OK 537 F537 := fo Tryz.func168 rfl (by kernel_rfl)
theorem ok540 : OK 540 F540 := fo Tryz.func171 rfl (by kernel_rfl)
theorem ok539 : OK 539 F539 := fo Tryz.func170 rfl (by kernel_rfl)
theorem ok541 : OK 541 F541 := fo Tryz.func172 rfl (by kernel_rfl)
theorem ok595 : OK 595 F595 := fo Tryz.func236 rfl (by kernel_rfl)
theorem ok554 : OK 554 F554 := fo Tryz.func184 rfl (by kernel_rfl)
theorem ok547 : OK 547 F547 := fo Tryz.func178 rfl (by kernel_rfl)
theorem ok545 : OK 545 F545 := fo Tryz.func176 rfl (by kernel_rfl)
theorem ok544 : OK 544 F544 := fo Tryz.func175 rfl (by kernel_rfl)
theorem ok543 : OK 543 F543 := fo Tryz.func174 rfl (by kernel_rfl)
theorem ok546 : OK 546 F546 := fo Tryz.func177 rfl (by kernel_rfl)
theorem ok552 : OK 552 F552 := fo Tryz.func182 rfl (by kernel_rfl)
theorem ok548 : OK 548 F548 := fo Tryz.func125 rfl (by kernel_rfl)
theorem ok553 : OK 553 F553 := fo Tryz.func183 rfl (by kernel_rfl)
theorem ok567 : OK 567 F567 := fo Tryz.func32 rfl (by kernel_rfl)
theorem ok561 : OK 561 F561 := fo Tryz.func12 rfl (by kernel_rfl)
theorem ok560 : OK 560 F560 := fo Tryz.func23 rfl (by kernel_rfl)
theorem ok564 : OK 564 F564 := fo Tryz.func17 rfl (by kernel_rfl)
theorem ok569 : OK 569 F569 := fo Tryz.func35 rfl (by kernel_rfl)
theorem ok568 : OK 568 F568 := fo Tryz.func34 rfl (by kernel_rfl)
theorem ok594 : OK 594 F594 := fo Tryz.func362 rfl (by kernel_rfl)
theorem ok607 : OK 607 F607 := fo Tryz.func188 rfl (by kernel_rfl)
theorem ok603 : OK 603 F603 := fo Tryz.func244 rfl (by kernel_rfl)
theorem ok599 : OK 599 F599 := fo Tryz.func240 rfl (by kernel_rfl)
theorem ok598 : OK 598 F598 := fo Tryz.func239 rfl (by kernel_rfl)
theorem ok596 : OK 596 F596 := fo Tryz.func237 rfl (by kernel_rfl)
theorem ok600 : OK 600 F600 := fo Tryz.func241 rfl (by kernel_rfl)
theorem ok605 : OK 605 F605 := fo Tryz.func128 rfl (by kernel_rfl)
theorem ok604 : OK 604 F604 := fo Tryz.func127 rfl (by kernel_rfl)
theorem ok606 : OK 606 F606 := fo Tryz.func192 rfl (by kernel_rfl)
theorem ok619 : OK 619 F619 := fo Tryz.func72 rfl (by kernel_rfl)
theorem ok612 : OK 612 F612 := fo Tryz.func65 rfl (by kernel_rfl)
theorem ok610 : OK 610 F610 := fo Tryz.func59 rfl (by kernel_rfl)
theorem ok616 : OK 616 F616 := fo Tryz.func69 rfl (by kernel_rfl)
theorem ok674 : OK 674 F674 := fo Tryz.func421 rfl (by kernel_rfl)
theorem ok673 : OK 673 F673 := fo Tryz.func418 rfl (by kernel_rfl)
theorem ok675 : OK 675 F675 := fo Tryz.func422 rfl (by kernel_rfl)
theorem ok806 : OK 806 F806 := fo Tryz.func417 rfl (by kernel_rfl)
theorem ok770 : OK 770 F770 := fo Tryz.func190 rfl (by kernel_rfl)
theorem ok687 : OK 687 F687 := fo Tryz.func137 rfl (by kernel_rfl)
theorem ok683 : OK 683 F683 := fo Tryz.func248 rfl (by kernel_rfl)
theorem ok681 : OK 681 F681 := fo Tryz.func196 rfl (by kernel_rfl)
theorem ok680 : OK 680 F680 := fo Tryz.func195 rfl (by kernel_rfl)
theorem ok679 : OK 679 F679 := fo Tryz.func123 rfl (by kernel_rfl)
theorem ok682 : OK 682 F682 := fo Tryz.func247 rfl (by kernel_rfl)
theorem ok685 : OK 685 F685 := fo Tryz.func189 rfl (by kernel_rfl)
theorem ok684 : OK 684 F684 := fo Tryz.func249 rfl (by kernel_rfl)
theorem ok686 : OK 686 F686 := fo Tryz.func131 rfl (by kernel_rfl)
theorem ok695 : OK 695 F695 := fo Tryz.func145 rfl (by kernel_rfl)
theorem ok689 : OK 689 F689 := fo Tryz.func139 rfl (by kernel_rfl)
theorem ok688 : OK 688 F688 := fo Tryz.func138 rfl (by kernel_rfl)
theorem ok690 : OK 690 F690 := fo Tryz.func140 rfl (by kernel_rfl)
theorem ok702 : OK 702 F702 := fo Tryz.func153 rfl (by kernel_rfl)
theorem ok698 : OK 698 F698 := fo Tryz.func149 rfl (by kernel_rfl)
theorem ok727 : OK 727 F727 := fo Tryz.func361 rfl (by kernel_rfl)
theorem ok779 : OK 779 F779 := fo Tryz.func202 rfl (by kernel_rfl)
theorem ok775 : OK 775 F775 := fo Tryz.func258 rfl (by kernel_rfl)
theorem ok773 : OK 773 F773 := fo Tryz.func256 rfl (by kernel_rfl)
theorem ok772 : OK 772 F772 := fo Tryz.func255 rfl (by kernel_rfl)
theorem ok771 : OK 771 F771 := fo Tryz.func191 rfl (by kernel_rfl)
theorem ok774 : OK 774 F774 := fo Tryz.func257 rfl (by kernel_rfl)
theorem ok777 : OK 777 F777 := fo Tryz.func200 rfl (by kernel_rfl)
theorem ok776 : OK 776 F776 := fo Tryz.func259 rfl (by kernel_rfl)
theorem ok778 : OK 778 F778 := fo Tryz.func201 rfl (by kernel_rfl)
theorem ok788 : OK 788 F788 := fo Tryz.func221 rfl (by kernel_rfl)
theorem ok781 : OK 781 F781 := fo Tryz.func5 rfl (by kernel_rfl)
theorem ok780 : OK 780 F780 := fo Tryz.func203 rfl (by kernel_rfl)
theorem ok787 : OK 787 F787 := fo Tryz.func212 rfl (by kernel_rfl)
theorem ok791 : OK 791 F791 := fo Tryz.func225 rfl (by kernel_rfl)
theorem ok790 : OK 790 F790 := fo Tryz.func224 rfl (by kernel_rfl)
theorem ok799 : OK 799 F799 := fo Tryz.func261 rfl (by kernel_rfl)
theorem ok1009 : OK 1009 F1009 := fo Tryz.func6 rfl (by kernel_rfl)
theorem ok871 : OK 871 F871 := fo Tryz.func302 rfl (by kernel_rfl)
theorem ok866 : OK 866 F866 := fo Tryz.func294 rfl (by kernel_rfl)
theorem ok863 : OK 863 F863 := fo Tryz.func262 rfl (by kernel_rfl)
theorem ok862 : OK 862 F862 := fo Tryz.func323 rfl (by kernel_rfl)
theorem ok861 : OK 861 F861 := fo Tryz.func246 rfl (by kernel_rfl)
theorem ok864 : OK 864 F864 := fo Tryz.func263 rfl (by kernel_rfl)
theorem ok868 : OK 868 F868 := fo Tryz.func296 rfl (by kernel_rfl)
theorem ok867 : OK 867 F867 := fo Tryz.func295 rfl (by kernel_rfl)
theorem ok869 : OK 869 F869 := fo Tryz.func297 rfl (by kernel_rfl)
theorem ok926 : OK 926 F926 := fo Tryz.func324 rfl (by kernel_rfl)
theorem ok893 : OK 893 F893 := fo Tryz.func368 rfl (by kernel_rfl)
theorem ok872 : OK 872 F872 := fo Tryz.func304 rfl (by kernel_rfl)
theorem ok894 : OK 894 F894 := fo Tryz.func426 rfl (by kernel_rfl)
theorem ok933 : OK 933 F933 := fo Tryz.func393 rfl (by kernel_rfl)
theorem ok930 : OK 930 F930 := fo Tryz.func369 rfl (by kernel_rfl)
theorem ok1008 : OK 1008 F1008 := fo Tryz.func3 rfl (by kernel_rfl)
theorem ok1018 : OK 1018 F1018 := fo Tryz.func193 rfl (by kernel_rfl)
theorem ok1014 : OK 1014 F1014 := fo Tryz.func56 rfl (by kernel_rfl)
theorem ok1012 : OK 1012 F1012 := fo Tryz.func16 rfl (by kernel_rfl)
theorem ok1011 : OK 1011 F1011 := fo Tryz.func14 rfl (by kernel_rfl)
theorem ok1010 : OK 1010 F1010 := fo Tryz.func7 rfl (by kernel_rfl)
theorem ok1013 : OK 1013 F1013 := fo Tryz.func31 rfl (by kernel_rfl)
theorem ok1016 : OK 1016 F1016 := fo Tryz.func124 rfl (by kernel_rfl)
theorem ok1015 : OK 1015 F1015 := fo Tryz.func57 rfl (by kernel_rfl)
theorem ok1017 : OK 1017 F1017 := fo Tryz.func126 rfl (by kernel_rfl)
theorem ok1025 : OK 1025 F1025 := fo Tryz.func314 rfl (by kernel_rfl)
theorem ok1020 : OK 1020 F1020 := fo Tryz.func250 rfl (by kernel_rfl)
theorem ok1019 : OK 1019 F1019 := fo Tryz.func194 rfl (by kernel_rfl)
theorem ok1021 : OK 1021 F1021 := fo Tryz.func251 rfl (by kernel_rfl)
theorem ok1120 : OK 1120 F1120 := fo Tryz.func11 rfl (by kernel_rfl)
theorem ok1119 : OK 1119 F1119 := fo Tryz.func4 rfl (by kernel_rfl)
theorem ok1121 : OK 1121 F1121 := fo Tryz.func26 rfl (by kernel_rfl)
theorem fok : tabF.All fun n F => FnOK Tryz.prog nm (cx.μ n) F := ⟨ok359, ⟨ok155, ⟨ok48, ⟨ok30, ⟨ok21, ⟨ok16, ⟨ok12, ⟨ok10, ⟨ok9, trivial, trivial⟩, trivial⟩, ⟨ok14, trivial, trivial⟩⟩, ⟨ok19, ⟨ok18, trivial, trivial⟩, ⟨ok20, trivial, trivial⟩⟩⟩, ⟨ok26, ⟨ok24, ⟨ok23, ⟨ok22, trivial, trivial⟩, trivial⟩, ⟨ok25, trivial, trivial⟩⟩, ⟨ok28, ⟨ok27, trivial, trivial⟩, ⟨ok29, trivial, trivial⟩⟩⟩⟩, ⟨ok39, ⟨ok35, ⟨ok33, ⟨ok32, ⟨ok31, trivial, trivial⟩, trivial⟩, ⟨ok34, trivial, trivial⟩⟩, ⟨ok37, ⟨ok36, trivial, trivial⟩, ⟨ok38, trivial, trivial⟩⟩⟩, ⟨ok43, ⟨ok41, ⟨ok40, trivial, trivial⟩, ⟨ok42, trivial, trivial⟩⟩, ⟨ok46, ⟨ok44, trivial, trivial⟩, ⟨ok47, trivial, trivial⟩⟩⟩⟩⟩, ⟨ok68, ⟨ok58, ⟨ok54, ⟨ok52, ⟨ok51, ⟨ok50, trivial, trivial⟩, trivial⟩, ⟨ok53, trivial, trivial⟩⟩, ⟨ok56, ⟨ok55, trivial, trivial⟩, ⟨ok57, trivial, trivial⟩⟩⟩, ⟨ok63, ⟨ok61, ⟨ok59, trivial, trivial⟩, ⟨ok62, trivial, trivial⟩⟩, ⟨ok65, ⟨ok64, trivial, trivial⟩, ⟨ok66, trivial, trivial⟩⟩⟩⟩, ⟨ok100, ⟨ok85, ⟨ok72, ⟨ok71, ⟨ok69, trivial, trivial⟩, trivial⟩, ⟨ok77, trivial, trivial⟩⟩, ⟨ok88, ⟨ok87, trivial, trivial⟩, ⟨ok97, trivial, trivial⟩⟩⟩, ⟨ok139, ⟨ok110, ⟨ok106, trivial, trivial⟩, ⟨ok111, trivial, trivial⟩⟩, ⟨ok146, ⟨ok140, trivial, trivial⟩, ⟨ok154, trivial, trivial⟩⟩⟩⟩⟩⟩, ⟨ok262, ⟨ok224, ⟨ok182, ⟨ok177, ⟨ok172, ⟨ok168, ⟨ok158, trivial, trivial⟩, trivial⟩, ⟨ok173, trivial, trivial⟩⟩, ⟨ok180, ⟨ok179, trivial, trivial⟩, ⟨ok181, trivial, trivial⟩⟩⟩, ⟨ok186, ⟨ok184, ⟨ok183, trivial, trivial⟩, ⟨ok185, trivial, trivial⟩⟩, ⟨ok207, ⟨ok191, trivial, trivial⟩, ⟨ok223, trivial, trivial⟩⟩⟩⟩, ⟨ok245, ⟨ok234, ⟨ok232, ⟨ok231, ⟨ok230, trivial, trivial⟩, trivial⟩, ⟨ok233, trivial, trivial⟩⟩, ⟨ok243, ⟨ok242, trivial, trivial⟩, ⟨ok244, trivial, trivial⟩⟩⟩, ⟨ok256, ⟨ok254, ⟨ok246, trivial, trivial⟩, ⟨ok255, trivial, trivial⟩⟩, ⟨ok259, ⟨ok257, trivial, trivial⟩, ⟨ok260, trivial, trivial⟩⟩⟩⟩⟩, ⟨ok307, ⟨ok291, ⟨ok268, ⟨ok266, ⟨ok265, ⟨ok263, trivial, trivial⟩, trivial⟩, ⟨ok267, trivial, trivial⟩⟩, ⟨ok275, ⟨ok274, trivial, trivial⟩, ⟨ok287, trivial, trivial⟩⟩⟩, ⟨ok303, ⟨ok301, ⟨ok300, trivial, trivial⟩, ⟨ok302, trivial, trivial⟩⟩, ⟨ok305, ⟨ok304, trivial, trivial⟩, ⟨ok306, trivial, trivial⟩⟩⟩⟩, ⟨ok330, ⟨ok326, ⟨ok310, ⟨ok309, ⟨ok308, trivial, trivial⟩, trivial⟩, ⟨ok318, trivial, trivial⟩⟩, ⟨ok328, ⟨ok327, trivial, trivial⟩, ⟨ok329, trivial, trivial⟩⟩⟩, ⟨ok341, ⟨ok335, ⟨ok331, trivial, trivial⟩, ⟨ok336, trivial, trivial⟩⟩, ⟨ok344, ⟨ok342, trivial, trivial⟩, ⟨ok358, trivial, trivial⟩⟩⟩⟩⟩⟩⟩, ⟨ok676, ⟨ok542, ⟨ok508, ⟨ok480, ⟨ok375, ⟨ok365, ⟨ok363, ⟨ok362, trivial, trivial⟩, trivial⟩, ⟨ok374, trivial, trivial⟩⟩, ⟨ok377, ⟨ok376, trivial, trivial⟩, ⟨ok382, trivial, trivial⟩⟩⟩, ⟨ok504, ⟨ok490, ⟨ok489, ⟨ok488, trivial, trivial⟩, trivial⟩, ⟨ok495, trivial, trivial⟩⟩, ⟨ok506, ⟨ok505, trivial, trivial⟩, ⟨ok507, trivial, trivial⟩⟩⟩⟩, ⟨ok522, ⟨ok513, ⟨ok511, ⟨ok510, ⟨ok509, trivial, trivial⟩, trivial⟩, ⟨ok512, trivial, trivial⟩⟩, ⟨ok515, ⟨ok514, trivial, trivial⟩, ⟨ok517, trivial, trivial⟩⟩⟩, ⟨ok538, ⟨ok531, ⟨ok528, trivial, trivial⟩, ⟨ok537, trivial, trivial⟩⟩, ⟨ok540, ⟨ok539, trivial, trivial⟩, ⟨ok541, trivial, trivial⟩⟩⟩⟩⟩, ⟨ok595, ⟨ok554, ⟨ok547, ⟨ok545, ⟨ok544, ⟨ok543, trivial, trivial⟩, trivial⟩, ⟨ok546, trivial, trivial⟩⟩, ⟨ok552, ⟨ok548, trivial, trivial⟩, ⟨ok553, trivial, trivial⟩⟩⟩, ⟨ok567, ⟨ok561, ⟨ok560, trivial, trivial⟩, ⟨ok564, trivial, trivial⟩⟩, ⟨ok569, ⟨ok568, trivial, trivial⟩, ⟨ok594, trivial, trivial⟩⟩⟩⟩, ⟨ok607, ⟨ok603, ⟨ok599, ⟨ok598, ⟨ok596, trivial, trivial⟩, trivial⟩, ⟨ok600, trivial, trivial⟩⟩, ⟨ok605, ⟨ok604, trivial, trivial⟩, ⟨ok606, trivial, trivial⟩⟩⟩, ⟨ok619, ⟨ok612, ⟨ok610, trivial, trivial⟩, ⟨ok616, trivial, trivial⟩⟩, ⟨ok674, ⟨ok673, trivial, trivial⟩, ⟨ok675, trivial, trivial⟩⟩⟩⟩⟩⟩, ⟨ok806, ⟨ok770, ⟨ok687, ⟨ok683, ⟨ok681, ⟨ok680, ⟨ok679, trivial, trivial⟩, trivial⟩, ⟨ok682, trivial, trivial⟩⟩, ⟨ok685, ⟨ok684, trivial, trivial⟩, ⟨ok686, trivial, trivial⟩⟩⟩, ⟨ok695, ⟨ok689, ⟨ok688, trivial, trivial⟩, ⟨ok690, trivial, trivial⟩⟩, ⟨ok702, ⟨ok698, trivial, trivial⟩, ⟨ok727, trivial, trivial⟩⟩⟩⟩, ⟨ok779, ⟨ok775, ⟨ok773, ⟨ok772, ⟨ok771, trivial, trivial⟩, trivial⟩, ⟨ok774, trivial, trivial⟩⟩, ⟨ok777, ⟨ok776, trivial, trivial⟩, ⟨ok778, trivial, trivial⟩⟩⟩, ⟨ok788, ⟨ok781, ⟨ok780, trivial, trivial⟩, ⟨ok787, trivial, trivial⟩⟩, ⟨ok791, ⟨ok790, trivial, trivial⟩, ⟨ok799, trivial, trivial⟩⟩⟩⟩⟩, ⟨ok1009, ⟨ok871, ⟨ok866, ⟨ok863, ⟨ok862, ⟨ok861, trivial, trivial⟩, trivial⟩, ⟨ok864, trivial, trivial⟩⟩, ⟨ok868, ⟨ok867, trivial, trivial⟩, ⟨ok869, trivial, trivial⟩⟩⟩, ⟨ok926, ⟨ok893, ⟨ok872, trivial, trivial⟩, ⟨ok894, trivial, trivial⟩⟩, ⟨ok933, ⟨ok930, trivial, trivial⟩, ⟨ok1008, trivial, trivial⟩⟩⟩⟩, ⟨ok1018, ⟨ok1014, ⟨ok1012, ⟨ok1011, ⟨ok1010, trivial, trivial⟩, trivial⟩, ⟨ok1013, trivial, trivial⟩⟩, ⟨ok1016, ⟨ok1015, trivial, trivial⟩, ⟨ok1017, trivial, trivial⟩⟩⟩, ⟨ok1025, ⟨ok1020, ⟨ok1019, trivial, trivial⟩, ⟨ok1021, trivial, trivial⟩⟩, ⟨ok1120, ⟨ok1119, trivial, trivial⟩, ⟨ok1121, trivial, trivial⟩⟩⟩⟩⟩⟩⟩⟩
theorem nok : NOK Tryz.prog nm cx TA52Y.G := nok_of (by kernel_rfl) (by kernel_rfl)
theorem clone147 : XOK Tryz.prog nm cx TA52Y.G 147 (.clone (K1 11) 88) := by
 refine ⟨⟨Tryz.f78, 39, _, _, (.a [(I 0), (I 0), (I 0), (I 0), (I 0), (I 0), (I 0), (I 0), (.i .u64 0), (I 0), (.i .u64 0)]), (K1 11), _, _, _, _, _, _, _, _, _, Tryz.func78, rfl, Tryz.underlying39, rfl, rfl, ?_, rfl, rfl, rfl, rfl, rfl, rfl, ?_, ?_⟩, Tryz.f78, Tryz.func78, rfl, by decide⟩
 ·kernel_rfl
 ·kernel_rfl
 ·kernel_rfl
theorem clone148 : XOK Tryz.prog nm cx TA52Y.G 148 (.clone (K1 10) 88) := by
 refine ⟨⟨Tryz.f79, 41, _, _, (.a [(I 0), (I 0), (I 0), (I 0), (I 0), (I 0), (I 0), (I 0), (I 0), (.s [])]), (K1 10), _, _, _, _, _, _, _, _, _, Tryz.func79, rfl, Tryz.underlying41, rfl, rfl, ?_, rfl, rfl, rfl, rfl, rfl, rfl, ?_, ?_⟩, Tryz.f79, Tryz.func79, rfl, by decide⟩
 ·kernel_rfl
 ·kernel_rfl
 ·kernel_rfl
theorem clone149 : XOK Tryz.prog nm cx TA52Y.G 149 (.clone (K1 7) 64) := by
 refine ⟨⟨Tryz.f80, 42, _, _, (.a [(I 0), (I 0), (I 0), (I 0), (I 0), (I 0), (.s [])]), (K1 7), _, _, _, _, _, _, _, _, _, Tryz.func80, rfl, Tryz.underlying42, rfl, rfl, ?_, rfl, rfl, rfl, rfl, rfl, rfl, ?_, ?_⟩, Tryz.f80, Tryz.func80, rfl, by decide⟩
 ·kernel_rfl
 ·kernel_rfl
 ·kernel_rfl
theorem clone150 : XOK Tryz.prog nm cx TA52Y.G 150 (.clone (K1 9) 80) := by
 refine ⟨⟨Tryz.f81, 43, _, _, (.a [(I 0), (I 0), (I 0), (I 0), (I 0), (I 0), (I 0), (I 0), (.s [])]), (K1 9), _, _, _, _, _, _, _, _, _, Tryz.func81, rfl, Tryz.underlying43, rfl, rfl, ?_, rfl, rfl, rfl, rfl, rfl, rfl, ?_, ?_⟩, Tryz.f81, Tryz.func81, rfl, by decide⟩
 ·kernel_rfl
 ·kernel_rfl
 ·kernel_rfl
theorem clone151 : XOK Tryz.prog nm cx TA52Y.G 151 (.clone (K1 7) 72) := by
 refine ⟨⟨Tryz.f82, 44, _, _, (.a [(.s []), (I 0), (I 0), (I 0), (I 0), (I 0), (.s [])]), (K1 7), _, _, _, _, _, _, _, _, _, Tryz.func82, rfl, Tryz.underlying44, rfl, rfl, ?_, rfl, rfl, rfl, rfl, rfl, rfl, ?_, ?_⟩, Tryz.f82, Tryz.func82, rfl, by decide⟩
 ·kernel_rfl
 ·kernel_rfl
 ·kernel_rfl
theorem clone152 : XOK Tryz.prog nm cx TA52Y.G 152 (.clone (K1 3) 32) := by
 refine ⟨⟨Tryz.f83, 46, _, _, (.a [(.s []), (I 0), (I 0)]), (K1 3), _, _, _, _, _, _, _, _, _, Tryz.func83, rfl, Tryz.underlying46, rfl, rfl, ?_, rfl, rfl, rfl, rfl, rfl, rfl, ?_, ?_⟩, Tryz.f83, Tryz.func83, rfl, by decide⟩
 ·kernel_rfl
 ·kernel_rfl
 ·kernel_rfl
theorem clone153 : XOK Tryz.prog nm cx TA52Y.G 153 (.clone (K1 5) 64) := by
 refine ⟨⟨Tryz.f84, 48, _, _, (.a [(I 0), (.s []), (.s []), (.s []), (.i .u64 0)]), (K1 5), _, _, _, _, _, _, _, _, _, Tryz.func84, rfl, Tryz.underlying48, rfl, rfl, ?_, rfl, rfl, rfl, rfl, rfl, rfl, ?_, ?_⟩, Tryz.f84, Tryz.func84, rfl, by decide⟩
 ·kernel_rfl
 ·kernel_rfl
 ·kernel_rfl
theorem clone160 : XOK Tryz.prog nm cx TA52Y.G 160 (.clone K0 8) := by
 refine ⟨⟨Tryz.f48, 106, _, _, (I 0), K0, _, _, _, _, _, _, _, _, _, Tryz.func48, rfl, Tryz.underlying106, rfl, rfl, ?_, rfl, rfl, rfl, rfl, rfl, rfl, ?_, ?_⟩, Tryz.f48, Tryz.func48, rfl, by decide⟩
 ·kernel_rfl
 ·kernel_rfl
 ·kernel_rfl
theorem clone161 : XOK Tryz.prog nm cx TA52Y.G 161 (.clone (K1 3) 24) := by
 refine ⟨⟨Tryz.f92, 51, _, _, (.a [(I 0), (I 0), (I 0)]), (K1 3), _, _, _, _, _, _, _, _, _, Tryz.func92, rfl, Tryz.underlying51, rfl, rfl, ?_, rfl, rfl, rfl, rfl, rfl, rfl, ?_, ?_⟩, Tryz.f92, Tryz.func92, rfl, by decide⟩
 ·kernel_rfl
 ·kernel_rfl
 ·kernel_rfl
theorem clone162 : XOK Tryz.prog nm cx TA52Y.G 162 (.clone (K1 3) 32) := by
 refine ⟨⟨Tryz.f93, 52, _, _, (.a [(I 0), (I 0), (.s [])]), (K1 3), _, _, _, _, _, _, _, _, _, Tryz.func93, rfl, Tryz.underlying52, rfl, rfl, ?_, rfl, rfl, rfl, rfl, rfl, rfl, ?_, ?_⟩, Tryz.f93, Tryz.func93, rfl, by decide⟩
 ·kernel_rfl
 ·kernel_rfl
 ·kernel_rfl
theorem clone225 : XOK Tryz.prog nm cx TA52Y.G 225 (.clone (K1 2) 24) := by
 refine ⟨⟨Tryz.f41, 27, _, _, (.a [(.s []), (I 0)]), (K1 2), _, _, _, _, _, _, _, _, _, Tryz.func41, rfl, Tryz.underlying27, rfl, rfl, ?_, rfl, rfl, rfl, rfl, rfl, rfl, ?_, ?_⟩, Tryz.f41, Tryz.func41, rfl, by decide⟩
 ·kernel_rfl
 ·kernel_rfl
 ·kernel_rfl
theorem clone226 : XOK Tryz.prog nm cx TA52Y.G 226 (.clone (K1 4) 40) := by
 refine ⟨⟨Tryz.f42, 29, _, _, (.a [(I 0), (I 0), (I 0), (.s [])]), (K1 4), _, _, _, _, _, _, _, _, _, Tryz.func42, rfl, Tryz.underlying29, rfl, rfl, ?_, rfl, rfl, rfl, rfl, rfl, rfl, ?_, ?_⟩, Tryz.f42, Tryz.func42, rfl, by decide⟩
 ·kernel_rfl
 ·kernel_rfl
 ·kernel_rfl
theorem clone227 : XOK Tryz.prog nm cx TA52Y.G 227 (.clone (K1 7) 80) := by
 refine ⟨⟨Tryz.f43, 33, _, _, (.a [(I 0), (I 0), (I 0), (I 0), (.s []), (.s []), (.s [])]), (K1 7), _, _, _, _, _, _, _, _, _, Tryz.func43, rfl, Tryz.underlying33, rfl, rfl, ?_, rfl, rfl, rfl, rfl, rfl, rfl, ?_, ?_⟩, Tryz.f43, Tryz.func43, rfl, by decide⟩
 ·kernel_rfl
 ·kernel_rfl
 ·kernel_rfl
theorem clone228 : XOK Tryz.prog nm cx TA52Y.G 228 (.clone (K1 6) 56) := by
 refine ⟨⟨Tryz.f44, 35, _, _, (.a [(I 0), (I 0), (I 0), (I 0), (I 0), (.s [])]), (K1 6), _, _, _, _, _, _, _, _, _, Tryz.func44, rfl, Tryz.underlying35, rfl, rfl, ?_, rfl, rfl, rfl, rfl, rfl, rfl, ?_, ?_⟩, Tryz.f44, Tryz.func44, rfl, by decide⟩
 ·kernel_rfl
 ·kernel_rfl
 ·kernel_rfl
theorem clone229 : XOK Tryz.prog nm cx TA52Y.G 229 (.clone (K1 7) 64) := by
 refine ⟨⟨Tryz.f45, 36, _, _, (.a [(I 0), (I 0), (I 0), (I 0), (I 0), (I 0), (.s [])]), (K1 7), _, _, _, _, _, _, _, _, _, Tryz.func45, rfl, Tryz.underlying36, rfl, rfl, ?_, rfl, rfl, rfl, rfl, rfl, rfl, ?_, ?_⟩, Tryz.f45, Tryz.func45, rfl, by decide⟩
 ·kernel_rfl
 ·kernel_rfl
 ·kernel_rfl
theorem clone15 : XOK Tryz.prog nm cx TA52Y.G 15 (.clone (K1 3) 32) := by
 refine ⟨⟨Tryz.f136, 67, _, _, (.a [(I 0), (I 0), (.s [])]), (K1 3), _, _, _, _, _, _, _, _, _, Tryz.func136, rfl, Tryz.underlying67, rfl, rfl, ?_, rfl, rfl, rfl, rfl, rfl, rfl, ?_, ?_⟩, Tryz.f136, Tryz.func136, rfl, by decide⟩
 ·kernel_rfl
 ·kernel_rfl
 ·kernel_rfl
theorem clone60 : XOK Tryz.prog nm cx TA52Y.G 60 (.clone (K1 2) 16) := by
 refine ⟨⟨Tryz.f161, 123, _, _, (.a [(I 0), (I 0)]), (K1 2), _, _, _, _, _, _, _, _, _, Tryz.func161, rfl, Tryz.underlying123, rfl, rfl, ?_, rfl, rfl, rfl, rfl, rfl, rfl, ?_, ?_⟩, Tryz.f161, Tryz.func161, rfl, by decide⟩
 ·kernel_rfl
 ·kernel_rfl
 ·kernel_rfl
end Go.Proofs.YtpjacfiddgajfaaGreatDoor

