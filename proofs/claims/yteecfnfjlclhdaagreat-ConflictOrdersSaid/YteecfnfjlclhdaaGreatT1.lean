/- The functions of the program in the small language. Printed by a program of this work. The functions of the program in the small language. Printed by a program of this work. -/
import Derived.Test.YteecfnfjlclhdaaGreatK5
import Derived.Test.YteecfnfjlclhdaaGreatT0

set_option linter.unusedSimpArgs false
set_option linter.unusedVariables false

/- The functions of the program in the small language. Printed by a program of this work. -/
namespace Go.Proofs.YteecfnfjlclhdaaGreat.V
open Go (IntKind BinOp UnOp)

variable {C : Call} {L : Loop} {π : Id} {k0 : List Id} {e : Env} {s : Sto}
def Ns : IR :=
 (.sq (oP [oG 27 26 25])
 (.sq (.cd (.t 27)
 .sk
 (.ex 0))
 (.sq (.bk 1 (.sq (.op 0 [oD 28 24 26 3, oJ 29 28 3, oo 7 (.alloc [.int .i64 0, .int .i64 0, .int .i64 0]), ou (.st (.t 7) (.t 29) 3)] (some [2, 5, 7, 24, 25, 26]))
 (.op 0 [om 30 5, oC 31 7 1, oA 32 31 1, oC 33 7 2, oA 34 33 1, oo 35 (.bsl t_int 1 false [.int .i64 0] 2 [(0, (.t 32)), (1, (.t 34))]), oo 36 (.app (.t 30) (.t 35) t_int 1), om 5 36] (some [2, 5, 24, 25, 26]))))
 (oP [oI 37 26 1, om 26 37]))))
def Nr : IR := Ns
theorem Z4w : evC C L π k0 Nr e s = evC C L π k0 Ns e s := rfl
def Z4t : FnIR := ⟨45,
 (.sq (oP [oM 2 0 8, oo 4 (.mv (.c (.sl 1 (some true) [])))])
 (.sq (.op 0 [oC 10 2 0, oC 11 10 4, oA 12 11 1, om 13 1, oD 14 12 13 3, oC 15 14 1, oA 16 15 1, oo 17 (.bsl t_int 1 false [.int .i64 0] 1 [(0, (.t 16))]), om 5 17] (some [1, 2, 5]))
 (.sq (.sq (.op 0 [oC 18 2 0, oC 19 18 4, oA 20 19 1, om 21 1, oD 22 20 21 3, oC 23 22 2, oA 24 23 1, oE 25 24, oB 26 0] (some [2, 5, 24, 25, 26]))
 (.kp [2, 5] [4] (.bk 0 (.lp [(t_int, .inl 5)] [2, 5, 24, 25, 26] Nr))))
 (.sq (.op 0 [oJ 39 2 8, om 40 5, oo 41 (cw G8 [(.t 39), (.t 40)]), om 38 41, oL 42 38 0, oL 43 38 1, om 8 42, om 9 43] (some [8]))
 (.sq (oP [om 44 8, om 4 44])
 .rt))))),
 [.t 4]⟩
def Pt : IR :=
 (.sq (oP [oG 17 16 15])
 (.sq (.cd (.t 17)
 .sk
 (.ex 0))
 (.sq (.bk 1 (.sq (.op 0 [oD 18 14 16 3, oJ 19 18 3, oo 7 (.alloc [.int .i64 0, .int .i64 0, .int .i64 0]), ou (.st (.t 7) (.t 19) 3)] (some [5, 7, 14, 15, 16]))
 (.op 0 [om 20 5, oC 21 7 0, oA 22 21 1, oo 23 (.bsl t_int 1 false [.int .i64 0] 1 [(0, (.t 22))]), oo 24 (.app (.t 20) (.t 23) t_int 1), om 5 24] (some [5, 14, 15, 16]))))
 (oP [oI 25 16 1, om 16 25]))))
def H9 : IR := Pt
theorem Z2t : evC C L π k0 H9 e s = evC C L π k0 Pt e s := rfl
def Z2l : FnIR := ⟨30,
 (.sq (oP [oM 2 0 8, oo 4 (.mv (.c (.sl 1 (some true) [])))])
 (.sq (oP [oo 5 (.mv (.c (.sl 1 (some true) [])))])
 (.sq (.sq (.op 0 [oC 8 2 0, oC 9 8 4, oA 10 9 1, om 11 1, oD 12 10 11 3, oC 13 12 2, oA 14 13 1, oE 15 14, oB 16 0] (some [5, 14, 15, 16]))
 (.kp [5] [4] (.bk 0 (.lp [(t_int, .inl 5)] [5, 14, 15, 16] H9))))
 (.sq (oP [om 26 5, oo 27 (.callS (.c (.fn Vs [])) [(.t 26)])])
 (.sq (oP [om 28 5, oo 29 (.callS (.c (.fn Vj [])) [(.t 28)]), om 4 29])
 .rt))))),
 [.t 4]⟩
def Xf : IR :=
 (.sq (.sq (.op 0 [om 17 9, om 18 0, oE 19 18, oG 20 17 19] (some [0, 2, 7, 8, 9, 20]))
 (.cd (.t 20)
 .sk
 (.ex 0)))
 (.sq (.bk 1 (.sq (.op 0 [om 23 7, om 24 9, oD 25 23 24 1, oA 26 25 1, om 27 26, oF 28 27 0, oF 29 27 9, og 30 27 true (.ia (.t 28) (.t 29) 4), og 31 27 true (.fa (.t 30) 0), og 32 27 true (.ld (.t 31) 1 false), og 33 27 true (.bin .eql (.t 32) (ki 1)), oH 34 27 33] (some [0, 2, 7, 8, 9, 34]))
 (.cd (.t 34)
 (.op 0 [om 35 8, om 36 0, om 37 9, oD 38 36 37 4, oC 39 38 3, oA 40 39 1, oD 41 35 40 1, ou (.st (.t 41) (.c (.bool true)) 1)] (some [0, 2, 7, 8, 9]))
 .sk)))
 (oP [om 21 9, oI 22 21 1, om 9 22])))
def M1 : IR := Xf
theorem U7 : evC C L π k0 M1 e s = evC C L π k0 Xf e s := rfl
def Wn : IR :=
 (.sq (.sq (oP [om 42 11, om 43 2, oG 44 42 43])
 (.cd (.t 44)
 .sk
 (.ex 2)))
 (.sq (.bk 3 (.sq (.op 0 [om 47 8, om 48 11, oD 49 47 48 1, oA 50 49 1] (some [2, 8, 10, 11, 50]))
 (.cd (.t 50)
 (.op 0 [om 51 10, om 52 11, oo 53 (.bsl t_int 1 false [.int .i64 0] 1 [(0, (.t 52))]), oo 54 (.app (.t 51) (.t 53) t_int 1), om 10 54] (some [2, 8, 10, 11]))
 .sk)))
 (oP [om 45 11, oI 46 45 1, om 11 46])))
def M0 : IR := Wn
theorem Nu : evC C L π k0 M0 e s = evC C L π k0 Wn e s := rfl
def Gt : FnIR := ⟨56,
 (.sq (oP [oo 6 (.mv (.c (.sl 1 (some true) [])))])
 (.sq (.op 0 [om 12 0, om 13 1, oo 14 (cw Z6k [(.t 12), (.t 13)]), om 7 14] (some [0, 2, 7]))
 (.sq (oP [om 15 2, oo 16 (.mks Zev 1 false [.bool false] (.t 15) (.t 15)), om 8 16])
 (.sq (.sq (oP [oB 9 0])
 (.kp [2, 8] [6] (.bk 0 (.lp [] [0, 2, 7, 8, 9] M1))))
 (.sq (oP [oo 10 (.mv (.c (.sl 1 (some true) [])))])
 (.sq (.sq (oP [oB 11 0])
 (.kp [10] [6] (.bk 2 (.lp [(t_int, .inl 10)] [2, 8, 10, 11] M0))))
 (.sq (oP [om 55 10, om 6 55])
 .rt))))))),
 [.t 6]⟩
def K9 : IR :=
 (.sq (oP [oG 8 7 6])
 (.sq (.cd (.t 8)
 .sk
 (.ex 0))
 (.sq (.bk 1 (.sq (oP [oD 9 5 7 1, oA 10 9 1, om 4 10])
 (.sq (oP [om 11 4, oo 12 (.bin .neq (.t 11) (ki 0))])
 (.cd (.t 12)
 (.sq (oP [om 13 4, om 2 13])
 .rt)
 .sk))))
 (oP [oI 14 7 1, om 7 14]))))
def Z4u : IR := K9
theorem Z3r : evC C L π k0 Z4u e s = evC C L π k0 K9 e s := rfl
def Zb5 : FnIR := ⟨15,
 (.sq (oP [oB 2 0])
 (.sq (.sq (oP [om 5 0, oE 6 5, oB 7 0])
 (.kp [] [2] (.bk 0 (.lp [] [5, 6, 7] Z4u))))
 (.sq (oP [oB 2 0])
 .rt))),
 [.t 2]⟩
def c_cf_nw_meet : FnIR := ⟨49,
 (.sq (oP [oM 4 0 8, oK 8])
 (.sq (.op 0 [oC 12 4 7, oA 13 12 1, oC 14 4 0, oC 15 14 3, oA 16 15 1, om 17 3, oo 18 (cw Z91 [(.t 13), (.t 16), (.t 17)]), om 11 18, oL 19 11 0, oL 20 11 1, om 9 19, om 10 20] (some [1, 2, 4, 9, 10]))
 (.sq (.op 0 [om 21 10, oo 22 (.bin .eql (.t 21) (ki 0)), om 23 22, oF 24 23 9, og 25 23 true (.fa (.t 4) 0), og 26 23 true (.fa (.t 25) 4), og 27 23 true (.ld (.t 26) 1 false), oF 28 23 1, og 29 23 true (.ia (.t 27) (.t 28) 3), og 30 23 true (.fa (.t 29) 1), og 31 23 true (.ld (.t 30) 1 false), og 32 23 true (.ia (.t 24) (.t 31) 1), og 33 23 true (.ld (.t 32) 1 false), og 34 23 true (.bin .eql (.t 33) (ki 1)), oH 35 23 34, om 36 35, oF 37 36 9, og 38 36 true (.fa (.t 4) 0), og 39 36 true (.fa (.t 38) 4), og 40 36 true (.ld (.t 39) 1 false), oF 41 36 2, og 42 36 true (.ia (.t 40) (.t 41) 3), og 43 36 true (.fa (.t 42) 1), og 44 36 true (.ld (.t 43) 1 false), og 45 36 true (.ia (.t 37) (.t 44) 1), og 46 36 true (.ld (.t 45) 1 false), og 47 36 true (.bin .eql (.t 46) (ki 1)), oH 48 36 47, om 8 48] (some [8]))
 .rt))),
 [.t 8]⟩
def Ze7 : IR :=
 (.sq (oP [oG 11 10 9])
 (.sq (.cd (.t 11)
 .sk
 (.ex 0))
 (.sq (.bk 1 (.sq (oP [oD 12 8 10 1, oA 13 12 1, om 7 13])
 (.op 0 [om 14 5, oC 15 2 7, oA 16 15 1, om 17 7, oD 18 16 17 1, oA 19 18 1, oo 20 (.bin .add (.t 14) (.t 19)), om 5 20] (some [2, 5, 8, 9, 10]))))
 (oP [oI 21 10 1, om 10 21]))))
def Ze4 : IR := Ze7
def c_cf_nw_bits : FnIR := ⟨23,
 (.sq (oP [oM 2 0 8, oB 4 0])
 (.sq (oP [oB 5 0])
 (.sq (.sq (oP [om 8 1, oE 9 8, oB 10 0])
 (.kp [5] [4] (.bk 0 (.lp [] [2, 5, 8, 9, 10] Ze4))))
 (.sq (oP [om 22 5, om 4 22])
 .rt)))),
 [.t 4]⟩
def Zes : FnIR := ⟨6,
 (.sq (oP [oM 2 0 8, oM 3 1 1, oo 4 (.mv (.c (.nilf)))])
 (.sq (oP [oo 5 (.mkf Z4y [(.t 2), (.t 3)]), om 4 5])
 .rt)),
 [.t 4]⟩
def Zao : FnIR := ⟨5,
 (.sq (oP [oB 2 0])
 (.sq (oP [om 3 0, oo 4 (.bin .shl (ki 1) (.t 3)), om 2 4])
 .rt)),
 [.t 2]⟩
def Qf : FnIR := ⟨35,
 (.sq (oP [oM 3 0 10, oK 6])
 (.sq (.op 25 [oJ 7 3 10, oC 8 3 9, oA 9 8 1, om 10 1, oD 11 9 10 1, oA 12 11 1, oC 13 3 8, oA 14 13 1, om 15 2, oD 16 14 15 1, oA 17 16 1, oo 18 (cv N7 [(.t 7), (.t 12), (.t 17), (ki 0)]), oo 19 (.un .not (.t 18)), om 20 19, og 21 20 true (.ld (.t 3) 10 true), og 22 20 true (.fa (.t 3) 8), og 23 20 true (.ld (.t 22) 1 false), oF 24 20 1, og 25 20 true (.ia (.t 23) (.t 24) 1), og 26 20 true (.ld (.t 25) 1 false), og 27 20 true (.fa (.t 3) 9), og 28 20 true (.ld (.t 27) 1 false), oF 29 20 2, og 30 20 true (.ia (.t 28) (.t 29) 1), og 31 20 true (.ld (.t 30) 1 false), og 32 20 true (cv N7 [(.t 21), (.t 26), (.t 31), (ki 1)]), og 33 20 true (.un .not (.t 32)), oH 34 20 33, om 6 34] (some [6]))
 .rt)),
 [.t 6]⟩
def Y1 : IR :=
 (.sq (oP [oG 12 11 10])
 (.sq (.cd (.t 12)
 .sk
 (.ex 0))
 (.sq (.bk 1 (.sq (.op 0 [om 13 11, oD 14 9 11 1, oA 15 14 1, om 5 13, om 6 15] (some [0, 1, 5, 6, 9, 10, 11]))
 (.sq (.sq (.op 0 [om 16 5, om 17 1, oE 18 17, oo 19 (.bin .geq (.t 16) (.t 18))] (some [0, 1, 5, 6, 9, 10, 11, 19]))
 (.cd (.t 19)
 (.sq (oP [oB 4 1])
 .rt)
 .sk))
 (.sq (.op 0 [om 20 1, om 21 5, oD 22 20 21 1, oA 23 22 1, om 7 23] (some [0, 1, 6, 7, 9, 10, 11]))
 (.sq (.op 0 [om 24 6, om 25 7, oo 26 (cv Pl [(.t 24), (.t 25)]), om 8 26] (some [0, 1, 8, 9, 10, 11]))
 (.sq (oP [om 27 8, oo 28 (.bin .neq (.t 27) (ki 0))])
 (.cd (.t 28)
 (.sq (oP [om 29 8, om 4 29])
 .rt)
 .sk)))))))
 (oP [oI 30 11 1, om 11 30]))))
def Uc : IR := Y1
theorem Yv : evC C L π k0 Uc e s = evC C L π k0 Y1 e s := rfl
def Pz : FnIR := ⟨36,
 (.sq (oP [oB 4 0])
 (.sq (.sq (oP [om 9 0, oE 10 9, oB 11 0])
 (.kp [0, 1] [4] (.bk 0 (.lp [] [0, 1, 9, 10, 11] Uc))))
 (.sq (.sq (.op 0 [om 31 0, oE 32 31, om 33 1, oE 34 33, oG 35 32 34] (some [35]))
 (.cd (.t 35)
 (.sq (oP [oo 4 (.mv (ki (-1)))])
 .rt)
 .sk))
 (.sq (oP [oB 4 0])
 .rt)))),
 [.t 4]⟩
def Uw : IR :=
 (.sq (.sq (.op 0 [om 6 5, om 7 0, oE 8 7, oG 9 6 8, om 10 9, oF 11 10 5, oF 12 10 1, og 13 10 true (.len false (.t 12)), og 14 10 true (.bin .lss (.t 11) (.t 13)), oH 15 10 14] (some [0, 1, 5, 15]))
 (.cd (.t 15)
 .sk
 (.ex 0)))
 (.sq (.bk 1 (.sq (.op 8 [om 18 0, om 19 5, oD 20 18 19 1, oA 21 20 1, om 22 1, om 23 5, oD 24 22 23 1, oA 25 24 1, oo 26 (.bin .neq (.t 21) (.t 25))] (some [0, 1, 5, 26]))
 (.cd (.t 26)
 (.sq (.op 8 [om 27 0, om 28 5, oD 29 27 28 1, oA 30 29 1, om 31 1, om 32 5, oD 33 31 32 1, oA 34 33 1, oG 35 30 34, om 4 35] (some [4]))
 .rt)
 .sk)))
 (oP [om 16 5, oI 17 16 1, om 5 17])))
def Z2b : IR := Uw
theorem Hc : evC C L π k0 Z2b e s = evC C L π k0 Uw e s := rfl
def Z84 : FnIR := ⟨41,
 (.sq (oP [oK 4])
 (.sq (.sq (oP [oB 5 0])
 (.kp [0, 1] [4] (.bk 0 (.lp [] [0, 1, 5] Z2b))))
 (.sq (.op 0 [om 36 0, oE 37 36, om 38 1, oE 39 38, oG 40 37 39, om 4 40] (some [4]))
 .rt))),
 [.t 4]⟩
def Wm : IR :=
 (.sq (.sq (.op 0 [om 10 9, om 11 1, oE 12 11, oG 13 10 12] (some [1, 2, 3, 4, 9, 13]))
 (.cd (.t 13)
 .sk
 (.ex 0)))
 (.sq (.bk 1 (.sq (.fz [2] (.op 22 [om 16 1, om 17 9, oD 18 16 17 1, oA 19 18 1, om 20 3, oo 21 (.bin .neq (.t 19) (.t 20)), om 22 21, oF 23 22 2, oF 24 22 1, oF 25 22 9, og 26 22 true (.ia (.t 24) (.t 25) 1), og 27 22 true (.ld (.t 26) 1 false), og 28 22 true (cv Q5 [(.t 23), (.t 27)]), og 29 22 true (.un .not (.t 28)), oH 30 22 29, om 31 30, og 32 31 true (.ld (.t 4) 7 true), oF 33 31 3, oF 34 31 1, oF 35 31 9, og 36 31 true (.ia (.t 34) (.t 35) 1), og 37 31 true (.ld (.t 36) 1 false), og 38 31 true (cv Xo [(.t 32), (.t 33), (.t 37)]), og 39 31 true (.un .not (.t 38)), oH 40 31 39] (some [1, 2, 3, 4, 9, 40])))
 (.cd (.t 40)
 (.sq (oP [oK 8])
 .rt)
 .sk)))
 (oP [om 14 9, oI 15 14 1, om 9 15])))
def Z0k : IR := Wm
theorem Qk : evC C L π k0 Z0k e s = evC C L π k0 Wm e s := rfl
def Z61 : FnIR := ⟨41,
 (.sq (oP [oM 4 0 7, oK 8])
 (.sq (.sq (oP [oB 9 0])
 (.kp [] [8] (.bk 0 (.lp [] [1, 2, 3, 4, 9] Z0k))))
 (.sq (oP [oo 8 (.mv (.c (.bool true)))])
 .rt))),
 [.t 8]⟩
def Y3 : IR :=
 (.sq (.sq (.op 0 [om 20 9, oC 21 4 4, oA 22 21 1, oE 23 22, oG 24 20 23] (some [1, 2, 3, 4, 9, 24]))
 (.cd (.t 24)
 .sk
 (.ex 0)))
 (.sq (.bk 1 (.sq (.sq (.fz [1, 2] (.op 28 [om 27 1, om 28 9, oo 29 (cv Q5 [(.t 27), (.t 28)]), oo 30 (.un .not (.t 29)), om 31 30, oN 32 31 2, oN 33 31 9, og 34 31 false (cv Q5 [(.t 32), (.t 33)]), oo 35 (.pick (.t 31) (.c (.bool true)) (.t 34)), om 36 35, oN 37 36 2, og 38 36 false (.len false (.t 37)), og 39 36 false (.bin .gtr (.t 38) (ki 0)), oN 40 36 39, oF 41 40 9, oF 42 40 2, og 43 40 true (.ia (.t 42) (ki 0) 1), og 44 40 true (.ld (.t 43) 1 false), og 45 40 true (.bin .lss (.t 41) (.t 44)), oF 46 40 45, og 47 46 false (.ld (.t 4) 7 true), oN 48 46 9, oN 49 46 2, oN 50 46 2, og 51 46 false (.len false (.t 50)), og 52 46 false (.bin .sub (.t 51) (ki 1)), og 53 46 false (.ia (.t 49) (.t 52) 1), og 54 46 false (.ld (.t 53) 1 false), og 55 46 false (cv Xo [(.t 47), (.t 48), (.t 54)]), og 56 40 true (.pick (.t 46) (.c (.bool true)) (.t 55)), og 57 36 false (.pick (.t 40) (.t 56) (.c (.bool false))), oo 58 (.pick (.t 36) (.c (.bool true)) (.t 57))] (some [1, 2, 3, 4, 9, 58])))
 (.cd (.t 58)
 (.ex 1)
 .sk))
 (.sq (.fz [2] (.op 8 [oJ 59 4 7, om 60 1, om 61 2, oo 62 (cw Xk [(.t 61)]), om 63 9, oo 64 (.bsl t_int 1 false [.int .i64 0] 1 [(0, (.t 63))]), oo 65 (.apx (.t 62) (.t 64) t_int 1 [2, 3, 4, 5]), om 66 3, oo 67 (cw Ph [(.t 59), (.t 60), (.t 65), (.t 66)]), om 10 67] (some [1, 2, 3, 4, 9, 10])))
 (.sq (oP [om 68 10, oo 69 (.isnil true true (.t 68))])
 (.cd (.t 69)
 (.sq (oP [om 70 10, om 8 70])
 .rt)
 .sk)))))
 (oP [om 25 9, oI 26 25 1, om 9 26])))
def Gn : IR := Y3
theorem Yl : evC C L π k0 Gn e s = evC C L π k0 Y3 e s := rfl
def Lg : FnIR := ⟨71,
 (.sq (oP [oM 4 0 7, oo 8 (.mv (.c (.sl 1 (some true) [])))])
 (.sq (.sq (.op 0 [om 11 2, oE 12 11, om 13 3, oo 14 (.bin .eql (.t 12) (.t 13))] (some [1, 2, 3, 4, 14]))
 (.cd (.t 14)
 (.sq (.sq (oP [oJ 15 4 7, om 16 2, oo 17 (cv He [(.t 15), (.t 16)])])
 (.cd (.t 17)
 (.sq (oP [om 18 2, oo 19 (cw Xk [(.t 18)]), om 8 19])
 .rt)
 .sk))
 (.sq (oP [oo 8 (.mv (.c (.sl 1 (some true) [])))])
 .rt))
 .sk))
 (.sq (.sq (oP [oB 9 0])
 (.kp [] [8] (.bk 0 (.lp [] [1, 2, 3, 4, 9] Gn))))
 (.sq (oP [oo 8 (.mv (.c (.sl 1 (some true) [])))])
 .rt)))),
 [.t 8]⟩
def Ze2 : FnIR := ⟨49,
 (.sq (.op 0 [oM 3 0 7, oo 6 (.alloc [.str ⟨#[]⟩, .sl 2 (some true) [], .sl 5 (some true) [], .sl 4 (some true) [], .sl 3 (some true) [], .sl 2 (some true) [], .sl 2 (some true) [], .sl 1 (some true) []]), oo 7 (.mv (.c (.sl 1 (some true) []))), oB 8 0] (some [1, 2, 3, 6]))
 (.sq (.op 0 [oJ 14 3 7, om 15 1, om 16 2, oo 17 (cv Zbf [(.t 14), (.t 15), (.t 16)]), om 13 17, oL 18 13 0, oL 19 13 1, oo 9 (.alloc [.str ⟨#[]⟩, .sl 2 (some true) [], .sl 5 (some true) [], .sl 4 (some true) [], .sl 3 (some true) [], .sl 2 (some true) [], .sl 2 (some true) [], .sl 1 (some true) []]), ou (.st (.t 9) (.t 18) 8), om 10 19] (some [1, 2, 3, 6, 9, 10]))
 (.sq (.sq (oP [om 20 10, oo 21 (.bin .neq (.t 20) (ki 0))])
 (.cd (.t 21)
 (.sq (.op 0 [oJ 22 9 8, om 23 10, ou (.st (.t 6) (.t 22) 8), oo 7 (.mv (.c (.sl 1 (some true) []))), om 8 23] (some [6, 7, 8]))
 .rt)
 .sk))
 (.sq (.op 19 [oJ 25 9 8, oC 26 3 4, oA 27 26 1, om 28 1, oD 29 27 28 3, oC 30 29 1, oA 31 30 1, oC 32 3 4, oA 33 32 1, om 34 2, oD 35 33 34 3, oC 36 35 1, oA 37 36 1, oo 38 (.bsp t_int 1 false [.int .i64 0] 2 [(0, (.t 31)), (1, (.t 37))]), oo 39 (cw G8 [(.t 25), (.t 38)]), om 24 39, oL 40 24 0, oL 41 24 1, om 11 40, om 12 41] (some [6, 9, 12]))
 (.sq (.op 7 [oJ 42 9 8, om 43 12, oJ 44 9 8, om 45 12, oo 46 (cv Z5j [(.t 44), (.t 45)]), oo 47 (.bin .leq (.t 46) (ki 12)), oo 48 (cv Ve [(.t 47), (ki 8)]), ou (.st (.t 6) (.t 42) 8), om 7 43, om 8 48] (some [6, 7, 8]))
 .rt))))),
 [.c 6 8 true, .t 7, .t 8]⟩
def Gm : FnIR := ⟨9,
 (.sq (oP [oK 4])
 (.sq (.op 0 [om 5 0, om 6 1, oo 7 (cv Uh [(.t 5), (.t 6)]), oo 8 (.bin .geq (.t 7) (ki 0)), om 4 8] (some [4]))
 .rt)),
 [.t 4]⟩
def Z9z : FnIR := ⟨12,
 (.sq (oP [oK 4])
 (.sq (.op 0 [oC 5 1 9, oA 6 5 1, oA 7 2 1, oD 8 6 7 1, oA 9 8 1, om 10 0, oo 11 (cv Y9 [(.t 9), (.t 10)]), om 4 11] (some [4]))
 .rt)),
 [.t 4]⟩
def P4 : FnIR := ⟨9,
 (.sq (oP [oK 4])
 (.sq (.op 0 [om 5 0, om 6 1, oo 7 (cv Q4 [(.t 5), (.t 6)]), oo 8 (.bin .geq (.t 7) (ki 0)), om 4 8] (some [4]))
 .rt)),
 [.t 4]⟩
def Zg : IR :=
 (.sq (oP [oo 31 (.bin .lss (.t 30) (ki 11))])
 (.sq (.cd (.t 31)
 .sk
 (.ex 0))
 (.sq (.bk 1 (.sq (oP [oo 32 (.xag (.t 29) (.t 30) 11), om 10 32])
 (.sq (.op 0 [om 34 10, oo 35 (.callS (.t 34) []), om 33 35, oL 36 33 0, oL 37 33 1, om 11 36, om 12 37] (some [11, 12, 29, 30]))
 (.sq (oP [om 38 12, oo 39 (.bin .neq (.t 38) (ki 0))])
 (.cd (.t 39)
 (.sq (.op 0 [om 40 11, om 41 12, om 2 40, om 3 41] (some [2, 3]))
 .rt)
 .sk)))))
 (oP [oI 42 30 1, om 30 42]))))
def Z8e : IR := Zg
theorem Zk : evC C L π k0 Z8e e s = evC C L π k0 Zg e s := rfl
def Zht : FnIR := ⟨43,
 (.sq (oP [oM 1 0 7, oB 2 0, oB 3 0])
 (.sq (oP [oo 13 (.mkp), oo 4 (.alt 1), ou (.st (.t 4) (.t 13) 1)])
 (.sq (.op 0 [oo 14 (.mkp), oo 15 (.mkp), oo 16 (.mkp), oo 5 (.alt 1), oo 6 (.alt 1), oo 7 (.alt 1), ou (.st (.t 5) (.t 14) 1), ou (.st (.t 6) (.t 15) 1), ou (.st (.t 7) (.t 16) 1)] (some [1, 4, 5, 6, 7]))
 (.sq (.op 0 [oo 17 (.mkf Z3b [(.t 1)]), oo 18 (.mkf Z3a [(.t 1), (.t 4), (.t 5)]), oo 19 (.mkf Z39 [(.t 1)]), oo 20 (.mkf Z38 [(.t 1), (.t 4)]), oo 21 (.mkf Z37 [(.t 1)]), oo 22 (.mkf Z36 [(.t 1)]), oo 23 (.mkf Z35 [(.t 1), (.t 6)]), oo 24 (.mkf Z34 [(.t 1)]), oo 25 (.mkf Z33 [(.t 1), (.t 7)]), oo 26 (.mkf Z08 [(.t 1)]), oo 27 (.mkf Z07 [(.t 1)]), oo 28 (.build [.nilf, .nilf, .nilf, .nilf, .nilf, .nilf, .nilf, .nilf, .nilf, .nilf, .nilf] [(0, 1, (.t 17)), (1, 1, (.t 18)), (2, 1, (.t 19)), (3, 1, (.t 20)), (4, 1, (.t 21)), (5, 1, (.t 22)), (6, 1, (.t 23)), (7, 1, (.t 24)), (8, 1, (.t 25)), (9, 1, (.t 26)), (10, 1, (.t 27))]), oo 8 (.alloc [.nilf, .nilf, .nilf, .nilf, .nilf, .nilf, .nilf, .nilf, .nilf, .nilf, .nilf]), ou (.st (.t 8) (.t 28) 11)] (some [8]))
 (.sq (.sq (oP [oJ 29 8 11, oB 30 0])
 (.kp [] [2, 3] (.bk 0 (.lp [] [29, 30] Z8e))))
 (.sq (oP [oB 2 0, oB 3 0])
 .rt)))))),
 [.t 2, .t 3]⟩
def Z8j : FnIR := ⟨9,
 (.sq (oP [oB 5 0])
 (.sq (.op 0 [oJ 6 2 8, om 7 1, oo 8 (cv Qz [(.t 6), (.t 7)]), om 5 8] (some [5]))
 .rt)),
 [.t 5]⟩
def Z0z : FnIR := ⟨13,
 (.sq (oP [oM 2 0 8, oB 4 0])
 (.sq (.op 0 [om 5 1, oC 6 2 0, oC 7 6 4, oA 8 7 1, oE 9 8, oo 10 (.bin .sub (.t 9) (ki 1)), oo 11 (cv Z09 [(.t 5), (ki 0), (.t 10)]), oo 12 (cv Ve [(.t 11), (ki 6)]), om 4 12] (some [4]))
 .rt)),
 [.t 4]⟩
def Nf : IR :=
 (.sq (.sq (.op 0 [om 14 3, om 15 0, oo 16 (.len true (.t 15)), oG 17 14 16] (some [0, 3, 17]))
 (.cd (.t 17)
 .sk
 (.ex 0)))
 (.sq (.bk 1 (.sq (.op 0 [om 20 0, om 21 3, oo 22 (.idx (.t 20) (.t 21)), om 4 22] (some [0, 3, 4]))
 (.sq (.op 0 [om 23 4, oo 24 (.bin .geq (.t 23) (.c (.int .u8 97))), om 25 24, oF 26 25 4, og 27 25 true (.bin .leq (.t 26) (.c (.int .u8 122))), oH 28 25 27, om 29 28, oN 30 29 4, og 31 29 false (.bin .geq (.t 30) (.c (.int .u8 65))), oN 32 29 31, oF 33 32 4, og 34 32 true (.bin .leq (.t 33) (.c (.int .u8 90))), og 35 29 false (.pick (.t 32) (.t 34) (.c (.bool false))), oo 36 (.pick (.t 29) (.c (.bool true)) (.t 35)), om 5 36] (some [0, 3, 4, 5]))
 (.sq (.op 0 [om 37 5, oo 38 (.un .not (.t 37)), om 39 38, oF 40 39 3, og 41 39 true (.bin .eql (.t 40) (ki 0)), oF 42 39 41, oN 43 42 4, og 44 42 false (.bin .neq (.t 43) (.c (.int .u8 95))), oN 45 42 44, oF 46 45 4, og 47 45 true (.bin .lss (.t 46) (.c (.int .u8 48))), oF 48 45 47, oN 49 48 4, og 50 48 false (.bin .gtr (.t 49) (.c (.int .u8 57))), og 51 45 true (.pick (.t 48) (.c (.bool true)) (.t 50)), og 52 42 false (.pick (.t 45) (.t 51) (.c (.bool false))), og 53 39 true (.pick (.t 42) (.c (.bool true)) (.t 52)), oH 54 39 53] (some [0, 3, 54]))
 (.cd (.t 54)
 (.sq (oP [oK 2])
 .rt)
 .sk)))))
 (oP [om 18 3, oI 19 18 1, om 3 19])))
def Z29 : IR := Nf
theorem Z1y : evC C L π k0 Z29 e s = evC C L π k0 Nf e s := rfl
def Z0s : FnIR := ⟨55,
 (.sq (oP [oK 2])
 (.sq (.sq (.op 0 [om 6 0, oo 7 (.len true (.t 6)), oo 8 (.bin .lss (.t 7) (ki 1)), om 9 8, oN 10 9 0, og 11 9 false (.len true (.t 10)), og 12 9 false (.bin .gtr (.t 11) (ki 16)), oo 13 (.pick (.t 9) (.c (.bool true)) (.t 12))] (some [0, 13]))
 (.cd (.t 13)
 (.sq (oP [oK 2])
 .rt)
 .sk))
 (.sq (.sq (oP [oB 3 0])
 (.kp [] [2] (.bk 0 (.lp [] [0, 3] Z29))))
 (.sq (oP [oo 2 (.mv (.c (.bool true)))])
 .rt)))),
 [.t 2]⟩
def Uo : IR :=
 (.sq (.sq (oP [om 23 5, om 24 4, oG 25 23 24])
 (.cd (.t 25)
 .sk
 (.ex 2)))
 (.sq (.bk 3 (.sq (.op 10 [om 28 0, om 29 5, oD 30 28 29 2, oC 31 30 0, oA 32 31 1, om 33 0, om 34 4, oD 35 33 34 2, oC 36 35 0, oA 37 36 1, oo 38 (.bin .eql (.t 32) (.t 37))] (some [0, 4, 5, 38]))
 (.cd (.t 38)
 (.sq (oP [om 39 4, om 2 39, oB 3 5])
 .rt)
 .sk)))
 (oP [om 26 5, oI 27 26 1, om 5 27])))
def Gq : IR := Uo
theorem Gd : evC C L π k0 Gq e s = evC C L π k0 Uo e s := rfl
def W0 : IR :=
 (.sq (.sq (.op 0 [om 9 4, om 10 0, oE 11 10, oG 12 9 11] (some [0, 4, 12]))
 (.cd (.t 12)
 .sk
 (.ex 0)))
 (.sq (.bk 1 (.sq (.sq (.op 0 [om 15 0, om 16 4, oD 17 15 16 2, oC 18 17 0, oA 19 18 1, oo 20 (cv Qt [(.t 19)]), oo 21 (.un .not (.t 20))] (some [0, 4, 21]))
 (.cd (.t 21)
 (.sq (oP [om 22 4, om 2 22, oB 3 4])
 .rt)
 .sk))
 (.sq (.sq (oP [oB 5 0])
 (.kp [0, 4] [2, 3] (.bk 2 (.lp [] [0, 4, 5] Gq))))
 (.sq (.op 0 [om 40 0, om 41 4, oD 42 40 41 2, oC 43 42 1, oA 44 43 1, oo 45 (cv Mb [(.t 44)]), oo 46 (.un .not (.t 45))] (some [0, 4, 46]))
 (.cd (.t 46)
 (.sq (oP [om 47 4, om 2 47, oB 3 2])
 .rt)
 .sk)))))
 (oP [om 13 4, oI 14 13 1, om 4 14])))
def Gr : IR := W0
theorem Ug : evC C L π k0 Gr e s = evC C L π k0 W0 e s := rfl
def Fd : FnIR := ⟨48,
 (.sq (oP [oB 2 0, oB 3 0])
 (.sq (.sq (oP [om 6 0, oE 7 6, oo 8 (.bin .gtr (.t 7) (ki 12))])
 (.cd (.t 8)
 (.sq (oP [oB 2 0, oB 3 8])
 .rt)
 .sk))
 (.sq (.sq (oP [oB 4 0])
 (.kp [] [2, 3] (.bk 0 (.lp [] [0, 4] Gr))))
 (.sq (oP [oB 2 0, oB 3 0])
 .rt)))),
 [.t 2, .t 3]⟩
def Wp : IR :=
 (.sq (.sq (oP [om 29 7, om 30 6, oG 31 29 30])
 (.cd (.t 31)
 .sk
 (.ex 2)))
 (.sq (.bk 3 (.sq (.op 10 [om 34 1, om 35 7, oD 36 34 35 5, oC 37 36 0, oA 38 37 1, om 39 1, om 40 6, oD 41 39 40 5, oC 42 41 0, oA 43 42 1, oo 44 (.bin .eql (.t 38) (.t 43))] (some [0, 1, 6, 7, 44]))
 (.cd (.t 44)
 (.sq (oP [om 45 6, om 4 45, oB 5 5])
 .rt)
 .sk)))
 (oP [om 32 7, oI 33 32 1, om 7 33])))
def M3 : IR := Wp
theorem Nw : evC C L π k0 M3 e s = evC C L π k0 Wp e s := rfl
def Wo : IR :=
 (.sq (.sq (.op 0 [om 46 8, om 47 0, oE 48 47, oG 49 46 48] (some [0, 1, 6, 8, 49]))
 (.cd (.t 49)
 .sk
 (.ex 4)))
 (.sq (.bk 5 (.sq (.op 10 [om 52 0, om 53 8, oD 54 52 53 2, oC 55 54 0, oA 56 55 1, om 57 1, om 58 6, oD 59 57 58 5, oC 60 59 0, oA 61 60 1, oo 62 (.bin .eql (.t 56) (.t 61))] (some [0, 1, 6, 8, 62]))
 (.cd (.t 62)
 (.sq (oP [om 63 6, om 4 63, oB 5 5])
 .rt)
 .sk)))
 (oP [om 50 8, oI 51 50 1, om 8 51])))
def M2 : IR := Wo
theorem Nv : evC C L π k0 M2 e s = evC C L π k0 Wo e s := rfl
def Zl : IR :=
 (.sq (.sq (.op 0 [om 15 6, om 16 1, oE 17 16, oG 18 15 17] (some [0, 1, 6, 18]))
 (.cd (.t 18)
 .sk
 (.ex 0)))
 (.sq (.bk 1 (.sq (.sq (.op 0 [om 21 1, om 22 6, oD 23 21 22 5, oC 24 23 0, oA 25 24 1, oo 26 (cv Qt [(.t 25)]), oo 27 (.un .not (.t 26))] (some [0, 1, 6, 27]))
 (.cd (.t 27)
 (.sq (oP [om 28 6, om 4 28, oB 5 4])
 .rt)
 .sk))
 (.sq (.sq (oP [oB 7 0])
 (.kp [0, 1, 6] [4, 5] (.bk 2 (.lp [] [0, 1, 6, 7] M3))))
 (.sq (.sq (oP [oB 8 0])
 (.kp [0, 1, 6] [4, 5] (.bk 4 (.lp [] [0, 1, 6, 8] M2))))
 (.sq (.sq (.op 0 [om 64 1, om 65 6, oD 66 64 65 5, oC 67 66 1, oA 68 67 1, oo 69 (cv Yf [(.t 68), (ki 0), (ki 1)]), oo 70 (.un .not (.t 69))] (some [0, 1, 6, 70]))
 (.cd (.t 70)
 (.sq (oP [om 71 6, om 4 71, oB 5 15])
 .rt)
 .sk))
 (.sq (.op 24 [om 72 1, om 73 6, oD 74 72 73 5, oC 75 74 2, oA 76 75 1, oo 77 (cv Mb [(.t 76)]), oo 78 (.un .not (.t 77)), om 79 78, oN 80 79 1, oN 81 79 6, og 82 79 false (.ia (.t 80) (.t 81) 5), og 83 79 false (.fa (.t 82) 3), og 84 79 false (.ld (.t 83) 1 false), oN 85 79 1, oN 86 79 6, og 87 79 false (.ia (.t 85) (.t 86) 5), og 88 79 false (.fa (.t 87) 2), og 89 79 false (.ld (.t 88) 1 false), og 90 79 false (cv Z5f [(.t 84), (.t 89)]), og 91 79 false (.un .not (.t 90)), oo 92 (.pick (.t 79) (.c (.bool true)) (.t 91)), om 93 92, oN 94 93 1, oN 95 93 6, og 96 93 false (.ia (.t 94) (.t 95) 5), og 97 93 false (.fa (.t 96) 4), og 98 93 false (.ld (.t 97) 1 false), og 99 93 false (cv Yf [(.t 98), (ki 0), (ki 3)]), og 100 93 false (.un .not (.t 99)), oo 101 (.pick (.t 93) (.c (.bool true)) (.t 100))] (some [0, 1, 6, 101]))
 (.cd (.t 101)
 (.sq (oP [om 102 6, om 4 102, oB 5 2])
 .rt)
 .sk)))))))
 (oP [om 19 6, oI 20 19 1, om 6 20])))
def M4 : IR := Zl
theorem Y0 : evC C L π k0 M4 e s = evC C L π k0 Zl e s := rfl
def Nm : FnIR := ⟨103,
 (.sq (oP [oB 4 0, oB 5 0])
 (.sq (.sq (.op 0 [om 9 0, oE 10 9, om 11 1, oE 12 11, oo 13 (.bin .add (.t 10) (.t 12)), oo 14 (.bin .gtr (.t 13) (ki 40))] (some [0, 1, 14]))
 (.cd (.t 14)
 (.sq (oP [oB 4 0, oB 5 8])
 .rt)
 .sk))
 (.sq (.sq (oP [oB 6 0])
 (.kp [] [4, 5] (.bk 0 (.lp [] [0, 1, 6] M4))))
 (.sq (oP [oB 4 0, oB 5 0])
 .rt)))),
 [.t 4, .t 5]⟩
def Up : IR :=
 (.sq (.sq (.op 0 [om 11 6, om 12 1, oE 13 12, oG 14 11 13] (some [0, 1, 6, 14]))
 (.cd (.t 14)
 .sk
 (.ex 0)))
 (.sq (.bk 1 (.sq (.op 0 [om 17 0, om 18 1, om 19 6, oo 20 (cv Z1k [(.t 17), (.t 18), (.t 19)]), om 7 20] (some [0, 1, 6, 7]))
 (.sq (oP [om 21 7, oo 22 (.bin .neq (.t 21) (ki 0))])
 (.cd (.t 22)
 (.sq (.op 0 [om 23 6, om 24 7, om 4 23, om 5 24] (some [4, 5]))
 .rt)
 .sk))))
 (oP [om 15 6, oI 16 15 1, om 6 16])))
def Gs : IR := Up
theorem Ge : evC C L π k0 Gs e s = evC C L π k0 Up e s := rfl
def Fe : FnIR := ⟨25,
 (.sq (oP [oB 4 0, oB 5 0])
 (.sq (.sq (oP [om 8 1, oE 9 8, oo 10 (.bin .gtr (.t 9) (ki 400))])
 (.cd (.t 10)
 (.sq (oP [oB 4 0, oB 5 8])
 .rt)
 .sk))
 (.sq (.sq (oP [oB 6 0])
 (.kp [] [4, 5] (.bk 0 (.lp [] [0, 1, 6] Gs))))
 (.sq (oP [oB 4 0, oB 5 0])
 .rt)))),
 [.t 4, .t 5]⟩
def Nl : FnIR := ⟨16,
 (.sq (oP [oK 4])
 (.sq (.op 0 [om 5 0, om 6 1, oo 7 (cv Kk [(.t 5), (.t 6)]), om 8 7, oF 9 8 0, oF 10 8 1, og 11 8 true (.ia (.t 9) (.t 10) 4), og 12 8 true (.fa (.t 11) 1), og 13 8 true (.ld (.t 12) 1 false), og 14 8 true (.bin .eql (.t 13) (ki 1)), oH 15 8 14, om 4 15] (some [4]))
 .rt)),
 [.t 4]⟩
def Yr : IR :=
 (.sq (.sq (.op 0 [om 11 7, om 12 2, oE 13 12, oG 14 11 13] (some [0, 1, 2, 7, 14]))
 (.cd (.t 14)
 .sk
 (.ex 0)))
 (.sq (.bk 1 (.sq (.sq (.op 0 [om 17 2, om 18 7, oD 19 17 18 3, oC 20 19 0, oA 21 20 1, om 22 0, oE 23 22, oo 24 (.bin .sub (.t 23) (ki 1)), oo 25 (cv Yf [(.t 21), (ki 0), (.t 24)]), oo 26 (.un .not (.t 25))] (some [0, 1, 2, 7, 26]))
 (.cd (.t 26)
 (.sq (oP [oB 6 6])
 .rt)
 .sk))
 (.sq (.sq (.op 0 [om 27 1, om 28 2, om 29 7, oD 30 28 29 3, oC 31 30 1, oA 32 31 1, oo 33 (cv Ui [(.t 27), (.t 32)]), oo 34 (.un .not (.t 33)), om 35 34, oN 36 35 1, oN 37 35 2, oN 38 35 7, og 39 35 false (.ia (.t 37) (.t 38) 3), og 40 35 false (.fa (.t 39) 2), og 41 35 false (.ld (.t 40) 1 false), og 42 35 false (cv Kk [(.t 36), (.t 41)]), og 43 35 false (.un .not (.t 42)), oo 44 (.pick (.t 35) (.c (.bool true)) (.t 43))] (some [0, 1, 2, 7, 44]))
 (.cd (.t 44)
 (.sq (oP [oB 6 9])
 .rt)
 .sk))
 (.sq (.op 18 [om 45 1, om 46 2, om 47 7, oD 48 46 47 3, oC 49 48 2, oA 50 49 1, oD 51 45 50 4, oC 52 51 1, oA 53 52 1, om 54 0, om 55 2, om 56 7, oD 57 55 56 3, oC 58 57 0, oA 59 58 1, oD 60 54 59 5, oC 61 60 2, oA 62 61 1, oo 63 (.bin .neq (.t 53) (.t 62))] (some [0, 1, 2, 7, 63]))
 (.cd (.t 63)
 (.sq (oP [oB 6 25])
 .rt)
 .sk)))))
 (oP [om 15 7, oI 16 15 1, om 7 16])))
def H0 : IR := Yr
theorem W9 : evC C L π k0 H0 e s = evC C L π k0 Yr e s := rfl
def Hm : FnIR := ⟨64,
 (.sq (oP [oB 6 0])
 (.sq (.sq (oP [om 8 2, oE 9 8, oo 10 (.bin .gtr (.t 9) (ki 16))])
 (.cd (.t 10)
 (.sq (oP [oB 6 8])
 .rt)
 .sk))
 (.sq (.sq (oP [oB 7 0])
 (.kp [] [6] (.bk 0 (.lp [] [0, 1, 2, 7] H0))))
 (.sq (oP [oB 6 0])
 .rt)))),
 [.t 6]⟩
def Vb : IR :=
 (.sq (.sq (oP [om 25 7, om 26 6, oG 27 25 26])
 (.cd (.t 27)
 .sk
 (.ex 2)))
 (.sq (.bk 3 (.sq (.op 10 [om 30 1, om 31 7, oD 32 30 31 2, oC 33 32 0, oA 34 33 1, om 35 1, om 36 6, oD 37 35 36 2, oC 38 37 0, oA 39 38 1, oo 40 (.bin .eql (.t 34) (.t 39))] (some [0, 1, 6, 7, 40]))
 (.cd (.t 40)
 (.sq (oP [om 41 6, om 4 41, oB 5 5])
 .rt)
 .sk)))
 (oP [om 28 7, oI 29 28 1, om 7 29])))
def Lj : IR := Vb
theorem Mo : evC C L π k0 Lj e s = evC C L π k0 Vb e s := rfl
def Yz : IR :=
 (.sq (.sq (.op 0 [om 11 6, om 12 1, oE 13 12, oG 14 11 13] (some [0, 1, 6, 14]))
 (.cd (.t 14)
 .sk
 (.ex 0)))
 (.sq (.bk 1 (.sq (.sq (.op 0 [om 17 1, om 18 6, oD 19 17 18 2, oC 20 19 0, oA 21 20 1, oo 22 (cv Qt [(.t 21)]), oo 23 (.un .not (.t 22))] (some [0, 1, 6, 23]))
 (.cd (.t 23)
 (.sq (oP [om 24 6, om 4 24, oB 5 4])
 .rt)
 .sk))
 (.sq (.sq (oP [oB 7 0])
 (.kp [0, 1, 6] [4, 5] (.bk 2 (.lp [] [0, 1, 6, 7] Lj))))
 (.sq (.op 0 [om 42 0, om 43 1, om 44 6, oD 45 43 44 2, oC 46 45 1, oA 47 46 1, oo 48 (cv Kk [(.t 42), (.t 47)]), oo 49 (.un .not (.t 48))] (some [0, 1, 6, 49]))
 (.cd (.t 49)
 (.sq (oP [om 50 6, om 4 50, oB 5 9])
 .rt)
 .sk)))))
 (oP [om 15 6, oI 16 15 1, om 6 16])))
def Lk : IR := Yz
theorem V7 : evC C L π k0 Lk e s = evC C L π k0 Yz e s := rfl
def Ll : FnIR := ⟨51,
 (.sq (oP [oB 4 0, oB 5 0])
 (.sq (.sq (oP [om 8 1, oE 9 8, oo 10 (.bin .gtr (.t 9) (ki 12))])
 (.cd (.t 10)
 (.sq (oP [oB 4 0, oB 5 8])
 .rt)
 .sk))
 (.sq (.sq (oP [oB 6 0])
 (.kp [] [4, 5] (.bk 0 (.lp [] [0, 1, 6] Lk))))
 (.sq (oP [oB 4 0, oB 5 0])
 .rt)))),
 [.t 4, .t 5]⟩
def Gx : FnIR := ⟨19,
 (.sq (oP [oB 6 0])
 (.sq (.op 7 [oJ 7 2 8, om 8 1, oo 9 (cv Qz [(.t 7), (.t 8)]), oA 10 3 1, om 11 0, oo 12 (.slc false (.t 10) none (some (.t 11)) 1), om 13 1, oo 14 (cv Y9 [(.t 12), (.t 13)]), oo 15 (.un .not (.t 14)), oo 16 (cv Ve [(.t 15), (ki 23)]), oo 17 (.bsp Y8 1 false [.int .i64 0] 2 [(0, (.t 9)), (1, (.t 16))]), oo 18 (cv Km [(.t 17)]), om 6 18] (some [6]))
 .rt)),
 [.t 6]⟩
def Gl : FnIR := ⟨5,
 (.sq (oP [oo 2 (.mv (.c (.sl 1 (some true) [])))])
 (.sq (oP [om 3 0, oo 4 (.callS (.c (.fn Wu [])) [(.c (.sl 1 (some true) [])), (.t 3)]), om 2 4])
 .rt)),
 [.t 2]⟩
def Xx : IR :=
 (.sq (oP [oG 8 7 6])
 (.sq (.cd (.t 8)
 .sk
 (.ex 0))
 (.sq (.bk 1 (.sq (oP [oD 9 5 7 1, oA 10 9 1, om 4 10])
 (.sq (.op 0 [om 11 0, om 12 4, oo 13 (.callS (.t 11) [(.t 12)]), oo 14 (.un .not (.t 13))] (some [0, 5, 6, 7, 14]))
 (.cd (.t 14)
 .rt
 .sk))))
 (oP [oI 15 7 1, om 7 15]))))
def Vx : IR := Xx
theorem M8 : evC C L π k0 Vx e s = evC C L π k0 Xx e s := rfl
def P2 : FnIR := ⟨16,
 (.sq (oP [oA 5 1 1, oE 6 5, oB 7 0])
 (.kp [] [] (.bk 0 (.lp [] [0, 5, 6, 7] Vx)))),
 []⟩
def Pq : FnIR := ⟨15,
 (.sq (oP [oK 4])
 (.sq (.op 0 [om 5 0, oA 6 1 1, oo 7 (.bin .neq (.t 5) (.t 6)), om 8 7, og 9 8 true (.ld (.t 2) 10 true), og 10 8 true (.ld (.t 1) 1 false), oF 11 8 0, og 12 8 true (cv Zv [(.t 9), (.t 10), (.t 11)]), og 13 8 true (.un .not (.t 12)), oH 14 8 13, om 4 14] (some [4]))
 .rt)),
 [.t 4]⟩
def Qe : FnIR := ⟨8,
 (.sq (oP [oo 2 (.mv (.c (.sl 1 (some true) [])))])
 (.sq (.sq (oP [om 3 0, oo 4 (.isnil true false (.t 3))])
 (.cd (.t 4)
 (.sq (oP [oo 2 (.mv (.c (.sl 1 (some true) [])))])
 .rt)
 .sk))
 (.sq (.op 0 [oo 5 (.bsl t_int 1 false [.int .i64 0] 0 []), om 6 0, oo 7 (.app (.t 5) (.t 6) t_int 1), om 2 7] (some [2]))
 .rt))),
 [.t 2]⟩
def Pe : IR :=
 (.sq (oP [oG 21 20 19])
 (.sq (.cd (.t 21)
 .sk
 (.ex 0))
 (.sq (.bk 1 (.sq (oP [oD 22 18 20 1, oA 23 22 1, om 7 23])
 (.sq (.op 0 [om 24 7, oC 25 2 0, oC 26 25 1, oA 27 26 1, oE 28 27, oo 29 (.bin .geq (.t 24) (.t 28))] (some [2, 4, 5, 7, 18, 19, 20, 29]))
 (.cd (.t 29)
 (.op 0 [om 30 4, om 31 7, oC 32 2 0, oC 33 32 1, oA 34 33 1, oE 35 34, oo 36 (.bin .sub (.t 31) (.t 35)), oo 37 (.bsl t_int 1 false [.int .i64 0] 1 [(0, (.t 36))]), oo 38 (.app (.t 30) (.t 37) t_int 1), om 4 38] (some [2, 4, 5, 18, 19, 20]))
 .sk))))
 (oP [oI 39 20 1, om 20 39]))))
def Z0y : IR := Pe
theorem Z02 : evC C L π k0 Z0y e s = evC C L π k0 Pe e s := rfl
def Z6g : FnIR := ⟨42,
 (.sq (oP [oM 2 0 8, oo 4 (.mv (.c (.sl 1 (some true) []))), oo 5 (.mv (.c (.sl 1 (some true) [])))])
 (.sq (.op 0 [oC 9 2 7, oA 10 9 1, oC 11 2 0, oC 12 11 3, oA 13 12 1, om 14 1, oo 15 (cw Fa [(.t 10), (.t 13), (.t 14)]), om 8 15, oL 16 8 0, oL 17 8 1, om 5 16] (some [2, 4, 5]))
 (.sq (.sq (oP [om 18 5, oE 19 18, oB 20 0])
 (.kp [4, 5] [4, 5] (.bk 0 (.lp [(t_int, .inl 4)] [2, 4, 5, 18, 19, 20] Z0y))))
 (.sq (.op 0 [om 40 4, om 41 5, om 4 40, om 5 41] (some [4, 5]))
 .rt)))),
 [.t 4, .t 5]⟩
def Fj : IR :=
 (.sq (.sq (.op 0 [om 12 6, om 13 1, oE 14 13, oG 15 12 14] (some [0, 1, 5, 6, 15]))
 (.cd (.t 15)
 .sk
 (.ex 0)))
 (.sq (.bk 1 (.op 0 [om 18 5, om 19 1, om 20 6, oD 21 19 20 1, oA 22 21 1, oD 23 18 22 1, ou (.st (.t 23) (.c (.bool true)) 1)] (some [0, 1, 5, 6])))
 (oP [om 16 6, oI 17 16 1, om 6 17])))
def Z4f : IR := Fj
theorem Z8p : evC C L π k0 Z4f e s = evC C L π k0 Fj e s := rfl
def K5 : IR :=
 (.sq (.sq (.op 0 [om 31 5, om 32 7, oD 33 31 32 1, oA 34 33 1, om 35 34, oF 36 35 8, oF 37 35 0, oF 38 35 7, og 39 35 true (.ia (.t 37) (.t 38) 4), og 40 35 true (.fa (.t 39) 2), og 41 35 true (.ld (.t 40) 1 false), og 42 35 true (.len false (.t 41)), og 43 35 true (.bin .lss (.t 36) (.t 42)), oH 44 35 43] (some [0, 5, 7, 8, 44]))
 (.cd (.t 44)
 .sk
 (.ex 4)))
 (.sq (.bk 5 (.op 0 [om 47 5, om 48 0, om 49 7, oD 50 48 49 4, oC 51 50 2, oA 52 51 1, om 53 8, oD 54 52 53 1, oA 55 54 1, oD 56 47 55 1, ou (.st (.t 56) (.c (.bool true)) 1)] (some [0, 5, 7, 8])))
 (oP [om 45 8, oI 46 45 1, om 8 46])))
def Ff : IR := K5
theorem Z3n : evC C L π k0 Ff e s = evC C L π k0 K5 e s := rfl
def K6 : IR :=
 (.sq (.sq (oP [om 27 7, oo 28 (.bin .geq (.t 27) (ki 0))])
 (.cd (.t 28)
 .sk
 (.ex 2)))
 (.sq (.bk 3 (.sq (oP [oB 8 0])
 (.kp [0, 5, 7] [4] (.bk 4 (.lp [] [0, 5, 7, 8] Ff)))))
 (oP [om 29 7, oo 30 (.bin .sub (.t 29) (ki 1)), om 7 30])))
def Z4e : IR := K6
theorem Z3o : evC C L π k0 Z4e e s = evC C L π k0 K6 e s := rfl
def Zap : FnIR := ⟨58,
 (.sq (oP [oo 4 (.mv (.c (.sl 1 (some true) [])))])
 (.sq (.op 0 [om 9 0, oE 10 9, oo 11 (.mks Zev 1 false [.bool false] (.t 10) (.t 10)), om 5 11] (some [0, 1, 5]))
 (.sq (.sq (oP [oB 6 0])
 (.kp [0, 5] [4] (.bk 0 (.lp [] [0, 1, 5, 6] Z4f))))
 (.sq (.sq (.op 0 [om 24 0, oE 25 24, oo 26 (.bin .sub (.t 25) (ki 1)), om 7 26] (some [0, 5, 7]))
 (.kp [5] [4] (.bk 2 (.lp [] [0, 5, 7] Z4e))))
 (.sq (oP [om 57 5, om 4 57])
 .rt))))),
 [.t 4]⟩
def Zhs : FnIR := ⟨37,
 (.sq (oP [oM 3 0 1, oo 6 (.mv (.c (.sl 1 (some true) []))), oB 7 0])
 (.sq (.sq (.fz [1] (.op 8 [oA 11 3 1, om 12 1, oo 13 (cv My [(.t 11), (.t 12)]), om 14 2, oE 15 14, oA 16 3 1, oE 17 16, oo 18 (.bin .eql (.t 15) (.t 17)), oo 19 (cv Yg [(.t 18), (ki 10)]), oo 20 (.bsl Y8 1 false [.int .i64 0] 2 [(0, (.t 13)), (1, (.t 19))]), oo 21 (cv Pk [(.t 20)]), om 8 21] (some [1, 2, 3, 8])))
 (.sq (oP [om 22 8, oo 23 (.bin .neq (.t 22) (ki 0))])
 (.cd (.t 23)
 (.sq (oP [om 24 8, oo 6 (.mv (.c (.sl 1 (some true) []))), om 7 24])
 .rt)
 .sk)))
 (.sq (.sq (.op 0 [om 26 2, oo 27 (.mkf Z5h [(.t 3)]), oo 28 (cv Mz [(.t 26), (.t 27)]), om 25 28, oL 29 25 0, oL 30 25 1, om 9 29, om 10 30] (some [1, 2, 10]))
 (.sq (oP [om 31 10, oo 32 (.bin .neq (.t 31) (ki 0))])
 (.cd (.t 32)
 (.sq (oP [om 33 10, oo 6 (.mv (.c (.sl 1 (some true) []))), om 7 33])
 .rt)
 .sk)))
 (.sq (.op 0 [om 34 1, om 35 2, oo 36 (cw Zcs [(.t 34), (.t 35)]), om 6 36, oB 7 0] (some [6, 7]))
 .rt)))),
 [.t 6, .t 7]⟩
def Z74 : IR :=
 (oP [om 7 22])
def Z70 : IR := Z74
def Z73 : IR :=
 (.bk 3 (.sq (.op 11 [oA 23 5 1, om 24 7, oA 25 4 1, oC 26 1 7, oA 27 26 1, om 28 7, oD 29 27 28 1, oA 30 29 1, oo 31 (.bin .shl (ki 1) (.t 30)), oo 32 (.bin .sub (.t 31) (ki 1)), oo 33 (.bin .and (.t 25) (.t 32)), oD 34 23 24 1, ou (.st (.t 34) (.t 33) 1)] (some [1, 4, 7]))
 (.op 6 [oA 35 4 1, oC 36 1 7, oA 37 36 1, om 38 7, oD 39 37 38 1, oA 40 39 1, oo 41 (.bin .shr (.t 35) (.t 40)), ou (.st (.t 4) (.t 41) 1)] (some []))))
def Z6z : IR := Z73
def Z8l : IR :=
 (.sq (oP [oG 13 12 11])
 (.sq (.cd (.t 13)
 .sk
 (.ex 0))
 (.sq (.bk 1 (.sq (oP [om 14 12, oo 4 (.alloc [.int .i64 0]), ou (.st (.t 4) (.t 14) 1)])
 (.sq (.op 0 [oC 15 1 7, oA 16 15 1, oE 17 16, oo 18 (.mks t_int 1 false [.int .i64 0] (.t 17) (.t 17)), oo 5 (.alloc [.sl 1 (some true) []]), ou (.st (.t 5) (.t 18) 1)] (some [0, 1, 2, 4, 5, 11, 12]))
 (.sq (.sq (.kp [0, 1, 2, 4, 5, 11, 12, 20] [] (oP [oA 19 2 1, oo 20 (cw Hv [(.t 19)])]))
 (.bk 2 (.kp [0, 1, 2, 5, 11, 12] [] (.rf (.t 20) 47 0 [1, 4, 5] [21, 22] Z70 Z6z))))
 (.sq (.op 0 [om 42 0, oA 43 5 1, oo 44 (.callS (.t 42) [(.t 43)]), oo 45 (.un .not (.t 44))] (some [0, 1, 2, 11, 12, 45]))
 (.cd (.t 45)
 .rt
 .sk))))))
 (oP [oI 46 12 1, om 12 46]))))
def Z8k : IR := Z8l
def Zbx : FnIR := ⟨47,
 (.sq (.op 0 [oJ 8 1 8, oA 9 2 1, oo 10 (cv Z5j [(.t 8), (.t 9)]), oo 11 (.bin .shl (ki 1) (.t 10)), oB 12 0] (some [0, 1, 2, 11, 12]))
 (.kp [] [] (.bk 0 (.lp [] [0, 1, 2, 11, 12] Z8k)))),
 []⟩
def Z60 : FnIR := ⟨4,
 (.sq (oP [oM 1 0 1, oo 2 (.mv (.c (.nilf)))])
 (.sq (oP [oo 3 (.mkf Mu [(.t 1)]), om 2 3])
 .rt)),
 [.t 2]⟩
def Zdx : FnIR := ⟨10,
 (.sq (oP [oK 4])
 (.sq (.op 0 [om 5 0, om 6 1, oo 7 (cv Fo [(.t 6)]), oo 8 (.bin .sub (.t 7) (ki 1)), oo 9 (cv Yf [(.t 5), (ki 0), (.t 8)]), om 4 9] (some [4]))
 .rt)),
 [.t 4]⟩
def Z2j : FnIR := ⟨12,
 (.sq (.op 0 [oM 4 0 10, oM 6 2 1, oM 7 3 1, oK 8] (some [1, 4, 6, 7]))
 (.sq (.op 0 [om 9 1, oo 10 (.mkf Ul [(.t 4), (.t 7), (.t 6)]), oo 11 (cv Ym [(.t 9), (.t 10)]), om 8 11] (some [8]))
 .rt)),
 [.t 8]⟩
def U0 : FnIR := ⟨20,
 (.sq (oP [oB 4 0])
 (.sq (oP [om 7 0, oo 8 (cv L1 [(.t 7)]), om 5 8])
 (.sq (oP [om 9 1, oo 10 (cv L1 [(.t 9)]), om 6 10])
 (.sq (.sq (oP [om 11 5])
 (.cd (.t 11)
 (.sq (.sq (oP [om 12 6])
 (.cd (.t 12)
 (.sq (oP [oB 4 0])
 .rt)
 .sk))
 (.sq (oP [oo 4 (.mv (ki (-1)))])
 .rt))
 .sk))
 (.sq (.sq (oP [om 13 6])
 (.cd (.t 13)
 (.sq (oP [oB 4 1])
 .rt)
 .sk))
 (.sq (.sq (oP [om 14 0, om 15 1, oG 16 14 15])
 (.cd (.t 16)
 (.sq (oP [oo 4 (.mv (ki (-1)))])
 .rt)
 .sk))
 (.sq (.sq (oP [om 17 0, om 18 1, oo 19 (.bin .gtr (.t 17) (.t 18))])
 (.cd (.t 19)
 (.sq (oP [oB 4 1])
 .rt)
 .sk))
 (.sq (oP [oB 4 0])
 .rt)))))))),
 [.t 4]⟩
def Xp : IR :=
 (.sq (oP [oG 9 8 7])
 (.sq (.cd (.t 9)
 .sk
 (.ex 0))
 (.sq (.bk 1 (.sq (oP [om 10 8, om 5 10])
 (.sq (.op 0 [om 11 1, om 12 0, om 13 5, oD 14 12 13 1, oA 15 14 1, oo 16 (.bin .eql (.t 11) (.t 15))] (some [0, 1, 5, 7, 8, 16]))
 (.cd (.t 16)
 (.sq (oP [om 17 5, om 4 17])
 .rt)
 .sk))))
 (oP [oI 18 8 1, om 8 18]))))
def P3 : IR := Xp
theorem Qj : evC C L π k0 P3 e s = evC C L π k0 Xp e s := rfl
def Lf : FnIR := ⟨19,
 (.sq (oP [oB 4 0])
 (.sq (.sq (oP [om 6 0, oE 7 6, oB 8 0])
 (.kp [] [4] (.bk 0 (.lp [] [0, 1, 7, 8] P3))))
 (.sq (oP [oo 4 (.mv (ki (-1)))])
 .rt))),
 [.t 4]⟩
def Zb4 : FnIR := ⟨14,
 (.sq (oP [oB 1 0, oB 2 0])
 (.sq (.op 8 [oC 3 0 0, oA 4 3 1, oo 5 (cv Z06 [(.t 4)]), oo 6 (cv Zf [(.t 5), (ki 4)]), oC 7 0 1, oA 8 7 1, oE 9 8, oo 10 (.bin .leq (.t 9) (ki 12)), oo 11 (cv Zf [(.t 10), (ki 8)]), oo 12 (.bsp Y8 1 false [.int .i64 0] 2 [(0, (.t 6)), (1, (.t 11))]), oo 13 (cv Xa [(.t 12)]), oB 1 0, om 2 13] (some [1, 2]))
 .rt)),
 [.t 1, .t 2]⟩
def K8 : IR :=
 (.sq (oP [oG 8 7 6])
 (.sq (.cd (.t 8)
 .sk
 (.ex 0))
 (.sq (.bk 1 (.sq (oP [oD 9 5 7 1, oA 10 9 1, om 4 10])
 (.sq (oP [om 11 4, oo 12 (.bin .neq (.t 11) (ki 0))])
 (.cd (.t 12)
 (.sq (oP [om 13 4, om 2 13])
 .rt)
 .sk))))
 (oP [oI 14 7 1, om 7 14]))))
def Z4q : IR := K8
theorem Z3q : evC C L π k0 Z4q e s = evC C L π k0 K8 e s := rfl
def Zav : FnIR := ⟨15,
 (.sq (oP [oB 2 0])
 (.sq (.sq (oP [om 5 0, oE 6 5, oB 7 0])
 (.kp [] [2] (.bk 0 (.lp [] [5, 6, 7] Z4q))))
 (.sq (oP [oB 2 0])
 .rt))),
 [.t 2]⟩
def Z8a : FnIR := ⟨7,
 (.sq (oP [oB 4 0])
 (.sq (.sq (oP [om 5 0])
 (.cd (.t 5)
 (.sq (oP [oB 4 0])
 .rt)
 .sk))
 (.sq (oP [om 6 1, om 4 6])
 .rt))),
 [.t 4]⟩
def Xn : IR :=
 (.sq (oP [oG 9 8 7])
 (.sq (.cd (.t 9)
 .sk
 (.ex 0))
 (.sq (.bk 1 (.sq (oP [om 10 8, om 3 10])
 (.sq (.op 0 [om 11 0, om 12 3, oo 13 (.idx (.t 11) (.t 12)), oo 14 (.conv .i64 (.t 13)), om 4 14] (some [0, 3, 4, 7, 8]))
 (.sq (.op 0 [om 15 4, oo 16 (cv Yh [(.t 15), (ki 97), (ki 122)]), om 17 16, oN 18 17 4, og 19 17 false (cv Yh [(.t 18), (ki 65), (ki 90)]), oo 20 (.pick (.t 17) (.c (.bool true)) (.t 19)), om 5 20] (some [0, 3, 4, 5, 7, 8]))
 (.sq (.op 0 [om 21 5, oo 22 (.un .not (.t 21)), om 23 22, oF 24 23 3, og 25 23 true (.bin .eql (.t 24) (ki 0)), oF 26 23 25, oN 27 26 4, og 28 26 false (.bin .neq (.t 27) (ki 95)), oN 29 26 28, oF 30 29 4, og 31 29 true (cv Yh [(.t 30), (ki 48), (ki 57)]), og 32 29 true (.un .not (.t 31)), og 33 26 false (.pick (.t 29) (.t 32) (.c (.bool false))), og 34 23 true (.pick (.t 26) (.c (.bool true)) (.t 33)), oH 35 23 34] (some [0, 7, 8, 35]))
 (.cd (.t 35)
 (.sq (oP [oK 2])
 .rt)
 .sk))))))
 (oP [oI 36 8 1, om 8 36]))))
def Z2h : IR := Xn
theorem Vc : evC C L π k0 Z2h e s = evC C L π k0 Xn e s := rfl
def Z8d : FnIR := ⟨40,
 (.sq (oP [oK 2])
 (.sq (.sq (oP [om 6 0, oo 7 (.len true (.t 6)), oB 8 0])
 (.kp [0] [2] (.bk 0 (.lp [] [0, 7, 8] Z2h))))
 (.sq (.op 0 [om 37 0, oo 38 (.len true (.t 37)), oo 39 (cv Yh [(.t 38), (ki 1), (ki 16)]), om 2 39] (some [2]))
 .rt))),
 [.t 2]⟩
def Zb3 : FnIR := ⟨11,
 (.sq (oP [oB 3 0, oB 4 0])
 (.sq (.op 0 [oC 5 0 1, oA 6 5 1, oo 7 (.mkf Mk [(.t 1), (.t 2)]), oo 8 (.callS (.c (.fn Q8 [])) [(.t 6), (.t 7)]), oL 9 8 0, oL 10 8 1, om 3 9, om 4 10] (some [3, 4]))
 .rt)),
 [.t 3, .t 4]⟩
def Xt : IR :=
 (.sq (oP [oG 12 11 10])
 (.sq (.cd (.t 12)
 .sk
 (.ex 0))
 (.sq (.bk 1 (.sq (.op 0 [om 13 11, oD 14 9 11 2, oJ 15 14 2, oo 7 (.alloc [.str ⟨#[]⟩, .int .i64 0]), om 6 13, ou (.st (.t 7) (.t 15) 2)] (some [1, 6, 7, 9, 10, 11]))
 (.sq (.op 0 [om 16 1, om 17 6, oJ 18 7 2, oo 19 (.callS (.t 16) [(.t 17), (.t 18)]), om 8 19] (some [1, 6, 8, 9, 10, 11]))
 (.sq (oP [om 20 8, oo 21 (.bin .neq (.t 20) (ki 0))])
 (.cd (.t 21)
 (.sq (.op 0 [om 22 6, om 23 8, om 4 22, om 5 23] (some [4, 5]))
 .rt)
 .sk)))))
 (oP [oI 24 11 1, om 11 24]))))
def P8 : IR := Xt
theorem Qn : evC C L π k0 P8 e s = evC C L π k0 Xt e s := rfl
def Lt : FnIR := ⟨25,
 (.sq (oP [oB 4 0, oB 5 0])
 (.sq (.sq (oP [om 9 0, oE 10 9, oB 11 0])
 (.kp [] [4, 5] (.bk 0 (.lp [] [1, 9, 10, 11] P8))))
 (.sq (oP [oB 4 0, oB 5 0])
 .rt))),
 [.t 4, .t 5]⟩
def Z6d : FnIR := ⟨21,
 (.sq (oP [oM 5 1 2, oB 6 0])
 (.sq (.op 10 [oA 7 2 1, oC 8 5 0, oA 9 8 1, oo 10 (.callS (.c (.fn Xl [])) [(.t 7), (.t 9)]), oA 11 3 1, oC 12 5 0, oA 13 12 1, oo 14 (.callS (.c (.fn Xl [])) [(.t 11), (.t 13)]), oC 15 5 1, oA 16 15 1, oo 17 (cv G7 [(.t 16)]), oo 18 (cv Zf [(.t 17), (ki 2)]), oo 19 (.bsp Y8 1 false [.int .i64 0] 3 [(0, (.t 10)), (1, (.t 14)), (2, (.t 18))]), oo 20 (cv Xa [(.t 19)]), om 6 20] (some [6]))
 .rt)),
 [.t 6]⟩
def Z2e : FnIR := ⟨19,
 (.sq (oP [oB 4 0])
 (.sq (.op 7 [om 6 1, oo 7 (cv Z06 [(.t 6)]), oo 8 (cv Zf [(.t 7), (ki 4)]), om 9 0, om 10 1, oo 11 (.lkp (.t 9) (.t 10) (.str ⟨#[]⟩) (.bool false) false), oo 12 (.un .not (.t 11)), oo 13 (cv Zf [(.t 12), (ki 5)]), oo 14 (.bsp Y8 1 false [.int .i64 0] 2 [(0, (.t 8)), (1, (.t 13))]), oo 15 (cv Xa [(.t 14)]), om 5 15] (some [0, 1, 5]))
 (.sq (oP [om 16 0, om 17 1, ou (.mpu (.t 16) (.t 17) (.c (.bool true)) (.str ⟨#[]⟩))])
 (.sq (oP [om 18 5, om 4 18])
 .rt)))),
 [.t 4]⟩
def Z6a : FnIR := ⟨5,
 (.sq (oP [oK 2])
 (.sq (oP [om 3 0, oo 4 (cv Yh [(.t 3), (ki 1), (ki 16)]), om 2 4])
 .rt)),
 [.t 2]⟩
def Zb2 : FnIR := ⟨12,
 (.sq (oP [oB 1 0, oB 2 0])
 (.sq (.op 0 [oC 3 0 1, oA 4 3 1, oE 5 4, oC 6 0 2, oA 7 6 1, oE 8 7, oo 9 (.bin .add (.t 5) (.t 8)), oo 10 (.bin .leq (.t 9) (ki 40)), oo 11 (cv Zf [(.t 10), (ki 8)]), oB 1 0, om 2 11] (some [1, 2]))
 .rt)),
 [.t 1, .t 2]⟩
def Zb1 : FnIR := ⟨10,
 (.sq (oP [oB 2 0, oB 3 0])
 (.sq (.op 0 [oC 4 0 2, oA 5 4 1, oo 6 (.mkf Mj [(.t 1)]), oo 7 (.callS (.c (.fn V9 [])) [(.t 5), (.t 6)]), oL 8 7 0, oL 9 7 1, om 2 8, om 3 9] (some [2, 3]))
 .rt)),
 [.t 2, .t 3]⟩
def Yu : IR :=
 (.sq (oP [oG 12 11 10])
 (.sq (.cd (.t 12)
 .sk
 (.ex 0))
 (.sq (.bk 1 (.sq (.op 0 [om 13 11, oD 14 9 11 5, oJ 15 14 5, oo 7 (.alloc [.str ⟨#[]⟩, .int .i64 0, .int .i64 0, .int .i64 0, .int .i64 0]), om 6 13, ou (.st (.t 7) (.t 15) 5)] (some [1, 6, 7, 9, 10, 11]))
 (.sq (.op 0 [om 16 1, om 17 6, oJ 18 7 5, oo 19 (.callS (.t 16) [(.t 17), (.t 18)]), om 8 19] (some [1, 6, 8, 9, 10, 11]))
 (.sq (oP [om 20 8, oo 21 (.bin .neq (.t 20) (ki 0))])
 (.cd (.t 21)
 (.sq (.op 0 [om 22 6, om 23 8, om 4 22, om 5 23] (some [4, 5]))
 .rt)
 .sk)))))
 (oP [oI 24 11 1, om 11 24]))))
def Vz : IR := Yu
theorem Vo : evC C L π k0 Vz e s = evC C L π k0 Yu e s := rfl
def P9 : FnIR := ⟨25,
 (.sq (oP [oB 4 0, oB 5 0])
 (.sq (.sq (oP [om 9 0, oE 10 9, oB 11 0])
 (.kp [] [4, 5] (.bk 0 (.lp [] [1, 9, 10, 11] Vz))))
 (.sq (oP [oB 4 0, oB 5 0])
 .rt))),
 [.t 4, .t 5]⟩
def Z1s : FnIR := ⟨35,
 (.sq (oP [oM 4 1 5, oB 5 0])
 (.sq (.op 10 [oA 7 2 1, oC 8 4 0, oA 9 8 1, oo 10 (.callS (.c (.fn Xl [])) [(.t 7), (.t 9)]), oC 11 4 1, oA 12 11 1, oo 13 (cv Yh [(.t 12), (ki 0), (ki 1)]), oo 14 (cv Zf [(.t 13), (ki 15)]), oC 15 4 2, oA 16 15 1, oo 17 (cv G7 [(.t 16)]), oo 18 (cv Zf [(.t 17), (ki 2)]), oo 19 (.bsp Y8 1 false [.int .i64 0] 3 [(0, (.t 10)), (1, (.t 14)), (2, (.t 18))]), oo 20 (cv Xa [(.t 19)]), om 6 20] (some [4, 6]))
 (.sq (.sq (oP [om 21 6, oo 22 (.bin .neq (.t 21) (ki 0))])
 (.cd (.t 22)
 (.sq (oP [om 23 6, om 5 23])
 .rt)
 .sk))
 (.sq (.op 0 [oC 24 4 3, oA 25 24 1, oC 26 4 2, oA 27 26 1, oo 28 (cv Z92 [(.t 25), (.t 27)]), om 29 28, og 30 29 true (.fa (.t 4) 4), og 31 29 true (.ld (.t 30) 1 false), og 32 29 true (cv Yh [(.t 31), (ki 0), (ki 3)]), oH 33 29 32, oo 34 (cv Zf [(.t 33), (ki 2)]), om 5 34] (some [5]))
 .rt)))),
 [.t 5]⟩
def Z89 : FnIR := ⟨15,
 (.sq (oP [oK 6])
 (.sq (.op 0 [om 7 1, om 8 0, oo 9 (.bin .leq (.t 7) (.t 8)), om 10 9, oF 11 10 0, oF 12 10 2, og 13 10 true (.bin .leq (.t 11) (.t 12)), oH 14 10 13, om 6 14] (some [6]))
 .rt)),
 [.t 6]⟩
def Z9y : FnIR := ⟨14,
 (.sq (oP [oK 4])
 (.sq (.op 0 [om 5 1, oo 6 (.bin .geq (.t 5) (ki 0)), om 7 6, oF 8 7 0, oF 9 7 1, og 10 7 true (.bin .shl (ki 1) (.t 9)), og 11 7 true (.bin .sub (.t 10) (ki 1)), og 12 7 true (cv Yh [(.t 8), (ki 0), (.t 11)]), oH 13 7 12, om 4 13] (some [4]))
 .rt)),
 [.t 4]⟩
def Zb0 : FnIR := ⟨10,
 (.sq (oP [oB 1 0, oB 2 0])
 (.sq (.op 7 [oJ 3 0 7, oo 4 (cv Z3w [(.t 3)]), oC 5 0 3, oA 6 5 1, oo 7 (cv Qw [(.t 4), (.t 6)]), oL 8 7 0, oL 9 7 1, om 1 8, om 2 9] (some [1, 2]))
 .rt)),
 [.t 1, .t 2]⟩
def Vy : FnIR := ⟨30,
 (.sq (.op 0 [oM 2 0 1, oM 3 1 1, oB 4 0, oB 5 0] (some [2, 3]))
 (.sq (.sq (oP [oA 9 2 1, oE 10 9, oo 11 (.bin .gtr (.t 10) (ki 40))])
 (.cd (.t 11)
 (.sq (oP [oB 4 0, oB 5 8])
 .rt)
 .sk))
 (.sq (.sq (.op 0 [oA 13 2 1, oo 14 (cv Mz [(.t 13), (.c (.fn Vu []))]), om 12 14, oL 15 12 0, oL 16 12 1, om 6 15, om 7 16] (some [2, 3, 6, 7]))
 (.sq (oP [om 17 7, oo 18 (.bin .neq (.t 17) (ki 0))])
 (.cd (.t 18)
 (.sq (.op 0 [om 19 6, om 20 7, om 4 19, om 5 20] (some [4, 5]))
 .rt)
 .sk)))
 (.sq (.sq (oP [oA 21 3 1, oE 22 21, oo 23 (.bin .gtr (.t 22) (ki 400))])
 (.cd (.t 23)
 (.sq (oP [oB 4 0, oB 5 8])
 .rt)
 .sk))
 (.sq (oP [oo 24 (cv Qu []), oo 8 (.alloc [.str ⟨#[]⟩, .int .i64 0, .bool false, .nilf, .nilf, .str ⟨#[]⟩, .int .i64 0, .bool false, .nilf, .nilf, .str ⟨#[]⟩, .int .i64 0, .bool false, .nilf, .nilf, .str ⟨#[]⟩, .int .i64 0, .bool false, .nilf, .nilf, .str ⟨#[]⟩, .int .i64 0, .bool false, .nilf, .nilf, .str ⟨#[]⟩, .int .i64 0, .bool false, .nilf, .nilf, .str ⟨#[]⟩, .int .i64 0, .bool false, .nilf, .nilf, .str ⟨#[]⟩, .int .i64 0, .bool false, .nilf, .nilf, .str ⟨#[]⟩, .int .i64 0, .bool false, .nilf, .nilf, .str ⟨#[]⟩, .int .i64 0, .bool false, .nilf, .nilf, .str ⟨#[]⟩, .int .i64 0, .bool false, .nilf, .nilf, .str ⟨#[]⟩, .int .i64 0, .bool false, .nilf, .nilf, .str ⟨#[]⟩, .int .i64 0, .bool false, .nilf, .nilf, .str ⟨#[]⟩, .int .i64 0, .bool false, .nilf, .nilf, .str ⟨#[]⟩, .int .i64 0, .bool false, .nilf, .nilf, .str ⟨#[]⟩, .int .i64 0, .bool false, .nilf, .nilf, .str ⟨#[]⟩, .int .i64 0, .bool false, .nilf, .nilf, .str ⟨#[]⟩, .int .i64 0, .bool false, .nilf, .nilf, .str ⟨#[]⟩, .int .i64 0, .bool false, .nilf, .nilf]), ou (.st (.t 8) (.t 24) 95)])
 (.sq (.op 0 [oA 25 3 1, oo 26 (.mkf Vt [(.t 8), (.t 2), (.t 3)]), oo 27 (cv Q6 [(.t 25), (.t 26)]), oL 28 27 0, oL 29 27 1, om 4 28, om 5 29] (some [4, 5]))
 .rt)))))),
 [.t 4, .t 5]⟩
def Hr : IR :=
 (.sq (oP [oG 12 11 10])
 (.sq (.cd (.t 12)
 .sk
 (.ex 0))
 (.sq (.bk 1 (.sq (.op 0 [oD 13 9 11 2, oJ 14 13 2, oo 5 (.alloc [.str ⟨#[]⟩, .int .i64 0]), ou (.st (.t 5) (.t 14) 2)] (some [1, 3, 5, 9, 10, 11]))
 (.op 0 [om 15 3, oC 16 5 1, oA 17 16 1, oo 18 (.bsl t_int 1 false [.int .i64 0] 1 [(0, (.t 17))]), oo 19 (.app (.t 15) (.t 18) t_int 1), om 3 19] (some [1, 3, 9, 10, 11]))))
 (oP [oI 20 11 1, om 11 20]))))
def Z2g : IR := Hr
theorem Z7a : evC C L π k0 Z2g e s = evC C L π k0 Hr e s := rfl
def Hq : IR :=
 (.sq (oP [oG 25 24 23])
 (.sq (.cd (.t 25)
 .sk
 (.ex 2))
 (.sq (.bk 3 (.sq (.op 0 [oD 26 22 24 5, oJ 27 26 5, oo 7 (.alloc [.str ⟨#[]⟩, .int .i64 0, .int .i64 0, .int .i64 0, .int .i64 0]), ou (.st (.t 7) (.t 27) 5)] (some [3, 7, 22, 23, 24]))
 (.op 0 [om 28 3, oC 29 7 2, oA 30 29 1, oo 31 (.bsl t_int 1 false [.int .i64 0] 1 [(0, (.t 30))]), oo 32 (.app (.t 28) (.t 31) t_int 1), om 3 32] (some [3, 22, 23, 24]))))
 (oP [oI 33 24 1, om 24 33]))))
def Z2f : IR := Hq
theorem Z79 : evC C L π k0 Z2f e s = evC C L π k0 Hq e s := rfl
def Z8b : FnIR := ⟨35,
 (.sq (oP [oM 1 0 7, oo 2 (.mv (.c (.sl 1 (some true) [])))])
 (.sq (oP [oo 3 (.mv (.c (.sl 1 (some true) [])))])
 (.sq (.sq (.op 0 [oC 8 1 1, oA 9 8 1, oE 10 9, oB 11 0] (some [1, 3, 9, 10, 11]))
 (.kp [1, 3] [2] (.bk 0 (.lp [(t_int, .inl 3)] [1, 3, 9, 10, 11] Z2g))))
 (.sq (.sq (.op 0 [oC 21 1 2, oA 22 21 1, oE 23 22, oB 24 0] (some [3, 22, 23, 24]))
 (.kp [3] [2] (.bk 2 (.lp [(t_int, .inl 3)] [3, 22, 23, 24] Z2f))))
 (.sq (oP [om 34 3, om 2 34])
 .rt))))),
 [.t 2]⟩
def Zaz : FnIR := ⟨8,
 (.sq (oP [oB 1 0, oB 2 0])
 (.sq (.op 0 [oC 3 0 4, oA 4 3 1, oE 5 4, oo 6 (.bin .leq (.t 5) (ki 16)), oo 7 (cv Zf [(.t 6), (ki 8)]), oB 1 0, om 2 7] (some [1, 2]))
 .rt)),
 [.t 1, .t 2]⟩
def Zay : FnIR := ⟨10,
 (.sq (oP [oB 2 0, oB 3 0])
 (.sq (.op 0 [oC 4 0 4, oA 5 4 1, oo 6 (.mkf Mi [(.t 1), (.t 0)]), oo 7 (.callS (.c (.fn Q7 [])) [(.t 5), (.t 6)]), oL 8 7 0, oL 9 7 1, om 2 8, om 3 9] (some [2, 3]))
 .rt)),
 [.t 2, .t 3]⟩
def Xs : IR :=
 (.sq (oP [oG 12 11 10])
 (.sq (.cd (.t 12)
 .sk
 (.ex 0))
 (.sq (.bk 1 (.sq (.op 0 [om 13 11, oD 14 9 11 3, oJ 15 14 3, oo 7 (.alloc [.str ⟨#[]⟩, .int .i64 0, .sl 3 (some true) []]), om 6 13, ou (.st (.t 7) (.t 15) 3)] (some [1, 6, 7, 9, 10, 11]))
 (.sq (.op 0 [om 16 1, om 17 6, oJ 18 7 3, oo 19 (.callS (.t 16) [(.t 17), (.t 18)]), om 8 19] (some [1, 6, 8, 9, 10, 11]))
 (.sq (oP [om 20 8, oo 21 (.bin .neq (.t 20) (ki 0))])
 (.cd (.t 21)
 (.sq (.op 0 [om 22 6, om 23 8, om 4 22, om 5 23] (some [4, 5]))
 .rt)
 .sk)))))
 (oP [oI 24 11 1, om 11 24]))))
def P7 : IR := Xs
theorem Qm : evC C L π k0 P7 e s = evC C L π k0 Xs e s := rfl
def Ls : FnIR := ⟨25,
 (.sq (oP [oB 4 0, oB 5 0])
 (.sq (.sq (oP [om 9 0, oE 10 9, oB 11 0])
 (.kp [] [4, 5] (.bk 0 (.lp [] [1, 9, 10, 11] P7))))
 (.sq (oP [oB 4 0, oB 5 0])
 .rt))),
 [.t 4, .t 5]⟩
def Z6c : FnIR := ⟨37,
 (.sq (oP [oM 5 1 3, oB 6 0])
 (.sq (.op 13 [oA 10 2 1, oC 11 5 0, oA 12 11 1, oo 13 (.callS (.c (.fn Xl [])) [(.t 10), (.t 12)]), oJ 14 3 7, oC 15 5 1, oA 16 15 1, oo 17 (cv Uk [(.t 14), (.t 16)]), oo 18 (cv Zf [(.t 17), (ki 9)]), oC 19 5 2, oA 20 19 1, oE 21 20, oo 22 (.bin .leq (.t 21) (ki 16)), oo 23 (cv Zf [(.t 22), (ki 8)]), oo 24 (.bsp Y8 1 false [.int .i64 0] 3 [(0, (.t 13)), (1, (.t 18)), (2, (.t 23))]), oo 25 (cv Xa [(.t 24)]), om 7 25] (some [3, 5, 7]))
 (.sq (.op 0 [oC 27 5 2, oA 28 27 1, oo 29 (.mkf N6 [(.t 3)]), oo 30 (cv Ub [(.t 28), (.t 29)]), om 26 30, oL 31 26 0, oL 32 26 1, om 8 31, om 9 32] (some [7, 9]))
 (.sq (.op 0 [om 33 7, om 34 9, oo 35 (.bsp Y8 1 false [.int .i64 0] 2 [(0, (.t 33)), (1, (.t 34))]), oo 36 (cv Xa [(.t 35)]), om 6 36] (some [6]))
 .rt)))),
 [.t 6]⟩
def Np : FnIR := ⟨17,
 (.sq (oP [oM 2 0 7, oK 4])
 (.sq (.op 0 [oJ 5 2 7, om 6 1, oo 7 (cv Kl [(.t 5), (.t 6)]), om 8 7, og 9 8 true (.fa (.t 2) 3), og 10 8 true (.ld (.t 9) 1 false), oF 11 8 1, og 12 8 true (.ia (.t 10) (.t 11) 4), og 13 8 true (.fa (.t 12) 1), og 14 8 true (.ld (.t 13) 1 false), og 15 8 true (.bin .eql (.t 14) (ki 1)), oH 16 8 15, om 4 16] (some [4]))
 .rt)),
 [.t 4]⟩
def X8 : IR :=
 (.sq (oP [oG 12 11 10])
 (.sq (.cd (.t 12)
 .sk
 (.ex 0))
 (.sq (.bk 1 (.sq (.op 0 [om 13 11, oD 14 9 11 3, oJ 15 14 3, oo 7 (.alloc [.int .i64 0, .int .i64 0, .int .i64 0]), om 6 13, ou (.st (.t 7) (.t 15) 3)] (some [1, 6, 7, 9, 10, 11]))
 (.sq (.op 0 [om 16 1, om 17 6, oJ 18 7 3, oo 19 (.callV true (.t 16) [(.t 17), (.t 18)]), om 8 19] (some [1, 6, 8, 9, 10, 11]))
 (.sq (oP [om 20 8, oo 21 (.bin .neq (.t 20) (ki 0))])
 (.cd (.t 21)
 (.sq (.op 0 [om 22 6, om 23 8, om 4 22, om 5 23] (some [4, 5]))
 .rt)
 .sk)))))
 (oP [oI 24 11 1, om 11 24]))))
def Q2 : IR := X8
theorem Ux : evC C L π k0 Q2 e s = evC C L π k0 X8 e s := rfl
def M7 : FnIR := ⟨25,
 (.sq (oP [oB 4 0, oB 5 0])
 (.sq (.sq (oP [om 9 0, oE 10 9, oB 11 0])
 (.kp [] [4, 5] (.bk 0 (.lp [] [1, 9, 10, 11] Q2))))
 (.sq (oP [oB 4 0, oB 5 0])
 .rt))),
 [.t 4, .t 5]⟩
def Z2i : FnIR := ⟨9,
 (.sq (oP [oM 4 1 3, oB 5 0])
 (.sq (.op 0 [oJ 6 2 7, oJ 7 4 3, oo 8 (cv Fb [(.t 6), (.t 7)]), om 5 8] (some [5]))
 .rt)),
 [.t 5]⟩
def Lr : FnIR := ⟨46,
 (.sq (oP [oM 2 0 7, oM 3 1 3, oB 4 0])
 (.sq (.op 16 [oC 6 3 0, oA 7 6 1, oC 8 2 2, oA 9 8 1, oE 10 9, oo 11 (.bin .sub (.t 10) (ki 1)), oo 12 (cv Yh [(.t 7), (ki 0), (.t 11)]), oo 13 (cv Zf [(.t 12), (ki 6)]), oJ 14 2 7, oC 15 3 1, oA 16 15 1, oo 17 (cv Uk [(.t 14), (.t 16)]), om 18 17, og 19 18 true (.ld (.t 2) 7 true), og 20 18 true (.fa (.t 3) 2), og 21 18 true (.ld (.t 20) 1 false), og 22 18 true (cv Kl [(.t 19), (.t 21)]), oH 23 18 22, oo 24 (cv Zf [(.t 23), (ki 9)]), oo 25 (.bsp Y8 1 false [.int .i64 0] 2 [(0, (.t 13)), (1, (.t 24))]), oo 26 (cv Xa [(.t 25)]), om 5 26] (some [2, 3, 5]))
 (.sq (.sq (oP [om 27 5, oo 28 (.bin .neq (.t 27) (ki 0))])
 (.cd (.t 28)
 (.sq (oP [om 29 5, om 4 29])
 .rt)
 .sk))
 (.sq (.op 14 [oC 30 2 3, oA 31 30 1, oC 32 3 2, oA 33 32 1, oD 34 31 33 4, oC 35 34 1, oA 36 35 1, oC 37 2 2, oA 38 37 1, oC 39 3 0, oA 40 39 1, oD 41 38 40 5, oC 42 41 2, oA 43 42 1, oo 44 (.bin .eql (.t 36) (.t 43)), oo 45 (cv Zf [(.t 44), (ki 25)]), om 4 45] (some [4]))
 .rt)))),
 [.t 4]⟩
def Zax : FnIR := ⟨8,
 (.sq (oP [oB 1 0, oB 2 0])
 (.sq (.op 0 [oC 3 0 5, oA 4 3 1, oE 5 4, oo 6 (.bin .leq (.t 5) (ki 12)), oo 7 (cv Zf [(.t 6), (ki 8)]), oB 1 0, om 2 7] (some [1, 2]))
 .rt)),
 [.t 1, .t 2]⟩
def Zaw : FnIR := ⟨10,
 (.sq (oP [oB 2 0, oB 3 0])
 (.sq (.op 0 [oC 4 0 5, oA 5 4 1, oo 6 (.mkf Mh [(.t 1), (.t 0)]), oo 7 (.callS (.c (.fn Vk [])) [(.t 5), (.t 6)]), oL 8 7 0, oL 9 7 1, om 2 8, om 3 9] (some [2, 3]))
 .rt)),
 [.t 2, .t 3]⟩
def X4 : IR :=
 (.sq (oP [oG 12 11 10])
 (.sq (.cd (.t 12)
 .sk
 (.ex 0))
 (.sq (.bk 1 (.sq (.op 0 [om 13 11, oD 14 9 11 2, oJ 15 14 2, oo 7 (.alloc [.str ⟨#[]⟩, .int .i64 0]), om 6 13, ou (.st (.t 7) (.t 15) 2)] (some [1, 6, 7, 9, 10, 11]))
 (.sq (.op 0 [om 16 1, om 17 6, oJ 18 7 2, oo 19 (.callS (.t 16) [(.t 17), (.t 18)]), om 8 19] (some [1, 6, 8, 9, 10, 11]))
 (.sq (oP [om 20 8, oo 21 (.bin .neq (.t 20) (ki 0))])
 (.cd (.t 21)
 (.sq (.op 0 [om 22 6, om 23 8, om 4 22, om 5 23] (some [4, 5]))
 .rt)
 .sk)))))
 (oP [oI 24 11 1, om 11 24]))))
def Ud : IR := X4
theorem U9 : evC C L π k0 Ud e s = evC C L π k0 X4 e s := rfl
def N3 : FnIR := ⟨25,
 (.sq (oP [oB 4 0, oB 5 0])
 (.sq (.sq (oP [om 9 0, oE 10 9, oB 11 0])
 (.kp [] [4, 5] (.bk 0 (.lp [] [1, 9, 10, 11] Ud))))
 (.sq (oP [oB 4 0, oB 5 0])
 .rt))),
 [.t 4, .t 5]⟩
def Z6b : FnIR := ⟨18,
 (.sq (oP [oM 5 1 2, oB 6 0])
 (.sq (.op 7 [oA 7 2 1, oC 8 5 0, oA 9 8 1, oo 10 (.callS (.c (.fn Xl [])) [(.t 7), (.t 9)]), oJ 11 3 7, oC 12 5 1, oA 13 12 1, oo 14 (cv Kl [(.t 11), (.t 13)]), oo 15 (cv Zf [(.t 14), (ki 9)]), oo 16 (.bsp Y8 1 false [.int .i64 0] 2 [(0, (.t 10)), (1, (.t 15))]), oo 17 (cv Xa [(.t 16)]), om 6 17] (some [6]))
 .rt)),
 [.t 6]⟩
def Z8c : FnIR := ⟨11,
 (.sq (oP [oM 2 0 7, oK 4])
 (.sq (.op 0 [om 5 1, oC 6 2 3, oA 7 6 1, oE 8 7, oo 9 (.bin .sub (.t 8) (ki 1)), oo 10 (cv Yh [(.t 5), (ki 0), (.t 9)]), om 4 10] (some [4]))
 .rt)),
 [.t 4]⟩
def Z8g : FnIR := ⟨8,
 (.sq (oP [oB 1 0, oB 2 0])
 (.sq (.op 0 [oC 3 0 6, oA 4 3 1, oE 5 4, oo 6 (.bin .leq (.t 5) (ki 16)), oo 7 (cv Zf [(.t 6), (ki 8)]), oB 1 0, om 2 7] (some [1, 2]))
 .rt)),
 [.t 1, .t 2]⟩
def Z8f : FnIR := ⟨9,
 (.sq (oP [oB 1 0, oB 2 0])
 (.sq (.op 0 [oC 3 0 6, oA 4 3 1, oo 5 (.mkf L0 [(.t 0)]), oo 6 (cv W5 [(.t 4), (.t 5)]), oL 7 6 0, oL 8 6 1, om 1 7, om 2 8] (some [1, 2]))
 .rt)),
 [.t 1, .t 2]⟩
def Ye : IR :=
 (.sq (oP [oG 12 11 10])
 (.sq (.cd (.t 12)
 .sk
 (.ex 0))
 (.sq (.bk 1 (.sq (.op 0 [om 13 11, oD 14 9 11 2, oJ 15 14 2, oo 7 (.alloc [.int .i64 0, .sl 1 (some true) []]), om 6 13, ou (.st (.t 7) (.t 15) 2)] (some [1, 6, 7, 9, 10, 11]))
 (.sq (.op 0 [om 16 1, om 17 6, oJ 18 7 2, oo 19 (.callV true (.t 16) [(.t 17), (.t 18)]), om 8 19] (some [1, 6, 8, 9, 10, 11]))
 (.sq (oP [om 20 8, oo 21 (.bin .neq (.t 20) (ki 0))])
 (.cd (.t 21)
 (.sq (.op 0 [om 22 6, om 23 8, om 4 22, om 5 23] (some [4, 5]))
 .rt)
 .sk)))))
 (oP [oI 24 11 1, om 11 24]))))
def V3 : IR := Ye
theorem Wz : evC C L π k0 V3 e s = evC C L π k0 Ye e s := rfl
def Ue : FnIR := ⟨25,
 (.sq (oP [oB 4 0, oB 5 0])
 (.sq (.sq (oP [om 9 0, oE 10 9, oB 11 0])
 (.kp [] [4, 5] (.bk 0 (.lp [] [1, 9, 10, 11] V3))))
 (.sq (oP [oB 4 0, oB 5 0])
 .rt))),
 [.t 4, .t 5]⟩
def Z4s : FnIR := ⟨27,
 (.sq (oP [oM 4 1 2, oB 5 0])
 (.sq (.op 0 [oC 9 4 1, oA 10 9 1, oo 11 (.mkf Qx [(.t 2), (.t 4)]), oo 12 (cv Fc [(.t 10), (.t 11)]), om 8 12, oL 13 8 0, oL 14 8 1, om 6 13, om 7 14] (some [4, 7]))
 (.sq (.op 10 [oC 15 4 0, oA 16 15 1, oo 17 (cv Yh [(.t 16), (ki 0), (ki 3)]), oo 18 (cv Zf [(.t 17), (ki 15)]), oC 19 4 1, oA 20 19 1, oE 21 20, oo 22 (cv Yh [(.t 21), (ki 1), (ki 16)]), oo 23 (cv Zf [(.t 22), (ki 10)]), om 24 7, oo 25 (.bsp Y8 1 false [.int .i64 0] 3 [(0, (.t 18)), (1, (.t 23)), (2, (.t 24))]), oo 26 (cv Xa [(.t 25)]), om 5 26] (some [5]))
 .rt))),
 [.t 5]⟩
def Ur : IR :=
 (.sq (oP [oG 12 11 10])
 (.sq (.cd (.t 12)
 .sk
 (.ex 0))
 (.sq (.bk 1 (.sq (.op 0 [om 13 11, oD 14 9 11 1, oA 15 14 1, om 6 13, om 7 15] (some [1, 6, 7, 9, 10, 11]))
 (.sq (.op 0 [om 16 1, om 17 6, om 18 7, oo 19 (.callV true (.t 16) [(.t 17), (.t 18)]), om 8 19] (some [1, 6, 8, 9, 10, 11]))
 (.sq (oP [om 20 8, oo 21 (.bin .neq (.t 20) (ki 0))])
 (.cd (.t 21)
 (.sq (.op 0 [om 22 6, om 23 8, om 4 22, om 5 23] (some [4, 5]))
 .rt)
 .sk)))))
 (oP [oI 24 11 1, om 11 24]))))
def Gw : IR := Ur
theorem Gg : evC C L π k0 Gw e s = evC C L π k0 Ur e s := rfl
def Z4r : FnIR := ⟨25,
 (.sq (oP [oB 4 0, oB 5 0])
 (.sq (.sq (oP [om 9 0, oE 10 9, oB 11 0])
 (.kp [] [4, 5] (.bk 0 (.lp [] [1, 9, 10, 11] Gw))))
 (.sq (oP [oB 4 0, oB 5 0])
 .rt))),
 [.t 4, .t 5]⟩
def Z0w : FnIR := ⟨24,
 (.sq (oP [oB 6 0])
 (.sq (.op 12 [om 7 1, oC 8 2 4, oA 9 8 1, oE 10 9, oo 11 (.bin .sub (.t 10) (ki 1)), oo 12 (cv Yh [(.t 7), (ki 0), (.t 11)]), oo 13 (cv Zf [(.t 12), (ki 6)]), oC 14 3 1, oA 15 14 1, om 16 0, oo 17 (.slc false (.t 15) none (some (.t 16)) 1), om 18 1, oo 19 (cv Y9 [(.t 17), (.t 18)]), oo 20 (.un .not (.t 19)), oo 21 (cv Zf [(.t 20), (ki 23)]), oo 22 (.bsp Y8 1 false [.int .i64 0] 2 [(0, (.t 13)), (1, (.t 21))]), oo 23 (cv Xa [(.t 22)]), om 6 23] (some [6]))
 .rt)),
 [.t 6]⟩
def Z66 : FnIR := ⟨5,
 (.sq (oP [oK 2])
 (.sq (oP [om 3 0, oo 4 (cv Yf [(.t 3), (ki 1), (ki 16)]), om 2 4])
 .rt)),
 [.t 2]⟩
def Pd : IR :=
 (.sq (.sq (.op 0 [om 28 8, oC 29 7 2, oA 30 29 1, oE 31 30, oG 32 28 31] (some [0, 1, 2, 7, 8, 32]))
 (.cd (.t 32)
 .sk
 (.ex 0)))
 (.sq (.bk 1 (.sq (.op 0 [oC 35 7 2, oA 36 35 1, om 37 8, oD 38 36 37 1, oA 39 38 1, om 40 2, oo 41 (.bin .sub (.t 40) (ki 1)), oo 42 (cv Yf [(.t 39), (ki 0), (.t 41)]), oo 43 (.un .not (.t 42))] (some [0, 1, 2, 7, 8, 43]))
 (.cd (.t 43)
 (.sq (oP [oB 6 9])
 .rt)
 .sk)))
 (oP [om 33 8, oI 34 33 1, om 8 34])))
def Z0q : IR := Pd
theorem Z01 : evC C L π k0 Z0q e s = evC C L π k0 Pd e s := rfl
def P5 : FnIR := ⟨84,
 (.sq (oP [oB 6 0])
 (.sq (.op 0 [om 9 1, om 10 2, oD 11 9 10 4, oJ 12 11 4, oo 7 (.alloc [.int .i64 0, .int .i64 0, .sl 1 (some true) [], .int .i64 0]), ou (.st (.t 7) (.t 12) 4)] (some [0, 1, 2, 7]))
 (.sq (.sq (.op 0 [oC 13 7 0, oA 14 13 1, oo 15 (cv Yf [(.t 14), (ki 0), (ki 18)]), oo 16 (.un .not (.t 15))] (some [0, 1, 2, 7, 16]))
 (.cd (.t 16)
 (.sq (oP [oB 6 15])
 .rt)
 .sk))
 (.sq (.sq (.op 0 [oC 17 7 1, oA 18 17 1, oo 19 (cv Mb [(.t 18)]), oo 20 (.un .not (.t 19))] (some [0, 1, 2, 7, 20]))
 (.cd (.t 20)
 (.sq (oP [oB 6 2])
 .rt)
 .sk))
 (.sq (.sq (.op 6 [oC 21 7 2, oA 22 21 1, oE 23 22, oC 24 7 0, oA 25 24 1, oo 26 (cv F7 [(.t 25)]), oo 27 (.bin .neq (.t 23) (.t 26))] (some [0, 1, 2, 7, 27]))
 (.cd (.t 27)
 (.sq (oP [oB 6 10])
 .rt)
 .sk))
 (.sq (.sq (oP [oB 8 0])
 (.kp [0, 1, 7] [6] (.bk 0 (.lp [] [0, 1, 2, 7, 8] Z0q))))
 (.sq (.sq (oP [oC 44 7 0, oA 45 44 1])
 (.bk 2 (.sq (oP [oo 50 (.bin .eql (.t 45) (ki 0)), om 49 50])
 (.cd (.t 49)
 (.sq (.sq (.op 0 [oC 51 7 3, oA 52 51 1, oC 53 7 1, oA 54 53 1, oo 55 (cv Z5f [(.t 52), (.t 54)]), oo 56 (.un .not (.t 55))] (some [56]))
 (.cd (.t 56)
 (.sq (oP [oB 6 2])
 .rt)
 .sk))
 (.sq (oP [oB 6 0])
 .rt))
 (.sq (oP [oo 58 (.bin .eql (.t 45) (ki 1)), om 57 58])
 (.cd (.t 57)
 (.sq (.sq (.op 0 [oC 59 7 3, oA 60 59 1, om 61 0, oE 62 61, oo 63 (.bin .sub (.t 62) (ki 1)), oo 64 (cv Yf [(.t 60), (ki 0), (.t 63)]), oo 65 (.un .not (.t 64))] (some [0, 7, 65]))
 (.cd (.t 65)
 (.sq (oP [oB 6 6])
 .rt)
 .sk))
 (.sq (.sq (.op 7 [om 66 0, oC 67 7 3, oA 68 67 1, oD 69 66 68 1, oA 70 69 1, oC 71 7 1, oA 72 71 1, oo 73 (.bin .neq (.t 70) (.t 72))] (some [73]))
 (.cd (.t 73)
 (.sq (oP [oB 6 25])
 .rt)
 .sk))
 (.sq (oP [oB 6 0])
 .rt)))
 (.sq (oP [oo 75 (.bin .eql (.t 45) (ki 14)), om 74 75])
 (.cd (.t 74)
 (.sq (.op 0 [oC 76 7 3, oA 77 76 1, oo 78 (cv Yf [(.t 77), (ki 0), (ki 15)]), oo 79 (.un .not (.t 78))] (some [1, 7, 79]))
 (.cd (.t 79)
 (.sq (oP [oB 6 2])
 .rt)
 .sk))
 (.sq (oP [oC 46 7 3, oA 47 46 1, oo 48 (.bin .neq (.t 47) (ki 0))])
 (.cd (.t 48)
 (.sq (oP [oB 6 3])
 .rt)
 .sk))))))))))
 (.sq (.sq (.op 0 [om 80 1, oJ 81 7 4, oo 82 (cv Hf [(.t 80), (.t 81)]), oo 83 (.un .not (.t 82))] (some [83]))
 (.cd (.t 83)
 (.sq (oP [oB 6 25])
 .rt)
 .sk))
 (.sq (oP [oB 6 0])
 .rt))))))))),
 [.t 6]⟩
def Z82 : FnIR := ⟨10,
 (.sq (oP [oK 4])
 (.sq (.op 0 [om 5 1, om 6 0, oE 7 6, oo 8 (.bin .sub (.t 7) (ki 1)), oo 9 (cv Yf [(.t 5), (ki 0), (.t 8)]), om 4 9] (some [4]))
 .rt)),
 [.t 4]⟩
def V5 : IR :=
 (oP [om 5 7])
def V2 : IR := V5
theorem Z1a : evC C L π k0 V2 e s = evC C L π k0 V5 e s := rfl
def V4 : IR :=
 (.bk 1 (.op 0 [oA 8 2 1, om 9 5, oo 10 (.bsl t_int 1 false [.int .i64 0] 1 [(0, (.t 9))]), oo 11 (.app (.t 8) (.t 10) t_int 1), ou (.st (.t 2) (.t 11) 1)] (some [])))
def V1 : IR := V4
theorem Z19 : evC C L π k0 V1 e s = evC C L π k0 V4 e s := rfl
def Q1 : FnIR := ⟨13,
 (.sq (oP [oM 2 0 1, oo 4 (.mv (.c (.sl 1 (some true) [])))])
 (.sq (.sq (.kp [2, 4, 6] [4] (oP [om 6 1]))
 (.bk 0 (.kp [2] [4] (.tw [(t_int, .inr (2, 0))] (.rf (.t 6) 13 0 [2] [7] V2 V1)))))
 (.sq (oP [oA 12 2 1, om 4 12])
 .rt))),
 [.t 4]⟩
def Fg : FnIR := ⟨19,
 (.sq (oP [oo 6 (.mv (.c (.sl 1 (some true) []))), oB 7 0])
 (.sq (.sq (.op 0 [om 9 0, om 10 1, om 11 2, oo 12 (cv F9 [(.t 9), (.t 10), (.t 11)]), om 8 12] (some [1, 2, 8]))
 (.sq (oP [om 13 8, oo 14 (.bin .neq (.t 13) (ki 0))])
 (.cd (.t 14)
 (.sq (oP [om 15 8, oo 6 (.mv (.c (.sl 1 (some true) []))), om 7 15])
 .rt)
 .sk)))
 (.sq (.op 0 [om 16 1, om 17 2, oo 18 (cw Nk [(.t 16), (.t 17)]), om 6 18, oB 7 0] (some [6, 7]))
 .rt))),
 [.t 6, .t 7]⟩
def K7 : IR :=
 (.sq (oP [oG 8 7 6])
 (.sq (.cd (.t 8)
 .sk
 (.ex 0))
 (.sq (.bk 1 (.sq (oP [oD 9 5 7 1, oA 10 9 1, om 4 10])
 (.sq (oP [om 11 4, oo 12 (.bin .neq (.t 11) (ki 0))])
 (.cd (.t 12)
 (.sq (oP [om 13 4, om 2 13])
 .rt)
 .sk))))
 (oP [oI 14 7 1, om 7 14]))))
def Z4j : IR := K7
theorem Z3p : evC C L π k0 Z4j e s = evC C L π k0 K7 e s := rfl
def Zat : FnIR := ⟨15,
 (.sq (oP [oB 2 0])
 (.sq (.sq (oP [om 5 0, oE 6 5, oB 7 0])
 (.kp [] [2] (.bk 0 (.lp [] [5, 6, 7] Z4j))))
 (.sq (oP [oB 2 0])
 .rt))),
 [.t 2]⟩
def Z4i : FnIR := ⟨14,
 (.sq (oP [oB 4 0])
 (.sq (.op 0 [om 8 0, om 9 1, oo 10 (cv Qw [(.t 8), (.t 9)]), om 7 10, oL 11 7 0, oL 12 7 1, om 5 11, om 6 12] (some [6]))
 (.sq (oP [om 13 6, om 4 13])
 .rt))),
 [.t 4]⟩
def Z86 : FnIR := ⟨7,
 (.sq (oP [oB 4 0])
 (.sq (.sq (oP [om 5 0])
 (.cd (.t 5)
 (.sq (oP [oB 4 0])
 .rt)
 .sk))
 (.sq (oP [om 6 1, om 4 6])
 .rt))),
 [.t 4]⟩
def Uq : IR :=
 (.sq (oP [oG 12 11 10])
 (.sq (.cd (.t 12)
 .sk
 (.ex 0))
 (.sq (.bk 1 (.sq (.op 0 [om 13 11, oD 14 9 11 1, oA 15 14 1, om 6 13, om 7 15] (some [1, 6, 7, 9, 10, 11]))
 (.sq (.op 0 [om 16 1, om 17 6, om 18 7, oo 19 (.callV true (.t 16) [(.t 17), (.t 18)]), om 8 19] (some [1, 6, 8, 9, 10, 11]))
 (.sq (oP [om 20 8, oo 21 (.bin .neq (.t 20) (ki 0))])
 (.cd (.t 21)
 (.sq (.op 0 [om 22 6, om 23 8, om 4 22, om 5 23] (some [4, 5]))
 .rt)
 .sk)))))
 (oP [oI 24 11 1, om 11 24]))))
def Gv : IR := Uq
theorem Gf : evC C L π k0 Gv e s = evC C L π k0 Uq e s := rfl
def Z4l : FnIR := ⟨25,
 (.sq (oP [oB 4 0, oB 5 0])
 (.sq (.sq (oP [om 9 0, oE 10 9, oB 11 0])
 (.kp [] [4, 5] (.bk 0 (.lp [] [1, 9, 10, 11] Gv))))
 (.sq (oP [oB 4 0, oB 5 0])
 .rt))),
 [.t 4, .t 5]⟩
def Ze1 : FnIR := ⟨13,
 (.sq (oP [oB 5 0])
 (.sq (.op 0 [om 6 1, oA 7 2 1, om 8 0, oD 9 7 8 1, oA 10 9 1, oo 11 (cv Z5g [(.t 6), (.t 10)]), oo 12 (cv Yg [(.t 11), (ki 2)]), om 5 12] (some [5]))
 .rt)),
 [.t 5]⟩
def Z9x : FnIR := ⟨14,
 (.sq (oP [oK 4])
 (.sq (.op 0 [om 5 1, oo 6 (.bin .geq (.t 5) (ki 0)), om 7 6, oF 8 7 0, oF 9 7 1, og 10 7 true (.bin .shl (ki 1) (.t 9)), og 11 7 true (.bin .sub (.t 10) (ki 1)), og 12 7 true (cv Vd [(.t 8), (ki 0), (.t 11)]), oH 13 7 12, om 4 13] (some [4]))
 .rt)),
 [.t 4]⟩
def Zeu : IR :=
 (.sq (oP [oG 14 13 12])
 (.sq (.cd (.t 14)
 .sk
 (.ex 0))
 (.sq (.bk 1 (.sq (.op 0 [oD 15 11 13 4, oJ 16 15 4, oo 8 (.alloc [.int .i64 0, .int .i64 0, .sl 1 (some true) [], .int .i64 0]), ou (.st (.t 8) (.t 16) 4)] (some [0, 1, 5, 6, 8, 11, 12, 13]))
 (.sq (.sq (oP [oC 17 8 0, oA 18 17 1, oo 19 (.bin .eql (.t 18) (ki 1))])
 (.cd (.t 19)
 (.sq (.op 0 [om 20 6, om 21 1, oC 22 8 3, oA 23 22 1, oD 24 21 23 1, oA 25 24 1, oo 26 (.bsl t_int 1 false [.int .i64 0] 1 [(0, (.t 25))]), oo 27 (.app (.t 20) (.t 26) t_int 1), om 6 27] (some [0, 1, 5, 6, 11, 12, 13]))
 (.ex 1))
 .sk))
 (.sq (.op 0 [om 28 0, oJ 29 8 4, om 30 6, oo 31 (cv Zbe [(.t 5), (.t 28), (.t 29), (.t 30)]), om 9 31] (some [0, 1, 5, 6, 9, 11, 12, 13]))
 (.op 0 [om 32 6, om 33 9, oo 34 (.bsl t_int 1 false [.int .i64 0] 1 [(0, (.t 33))]), oo 35 (.app (.t 32) (.t 34) t_int 1), om 6 35] (some [0, 1, 5, 6, 11, 12, 13]))))))
 (oP [oI 36 13 1, om 13 36]))))
def Zer : IR := Zeu
def c_gr_valued : FnIR := ⟨38,
 (.sq (oP [oo 4 (.mv (.c (.sl 1 (some true) [])))])
 (.sq (oP [oo 10 (cv Qu []), oo 5 (.alloc [.str ⟨#[]⟩, .int .i64 0, .bool false, .nilf, .nilf, .str ⟨#[]⟩, .int .i64 0, .bool false, .nilf, .nilf, .str ⟨#[]⟩, .int .i64 0, .bool false, .nilf, .nilf, .str ⟨#[]⟩, .int .i64 0, .bool false, .nilf, .nilf, .str ⟨#[]⟩, .int .i64 0, .bool false, .nilf, .nilf, .str ⟨#[]⟩, .int .i64 0, .bool false, .nilf, .nilf, .str ⟨#[]⟩, .int .i64 0, .bool false, .nilf, .nilf, .str ⟨#[]⟩, .int .i64 0, .bool false, .nilf, .nilf, .str ⟨#[]⟩, .int .i64 0, .bool false, .nilf, .nilf, .str ⟨#[]⟩, .int .i64 0, .bool false, .nilf, .nilf, .str ⟨#[]⟩, .int .i64 0, .bool false, .nilf, .nilf, .str ⟨#[]⟩, .int .i64 0, .bool false, .nilf, .nilf, .str ⟨#[]⟩, .int .i64 0, .bool false, .nilf, .nilf, .str ⟨#[]⟩, .int .i64 0, .bool false, .nilf, .nilf, .str ⟨#[]⟩, .int .i64 0, .bool false, .nilf, .nilf, .str ⟨#[]⟩, .int .i64 0, .bool false, .nilf, .nilf, .str ⟨#[]⟩, .int .i64 0, .bool false, .nilf, .nilf, .str ⟨#[]⟩, .int .i64 0, .bool false, .nilf, .nilf, .str ⟨#[]⟩, .int .i64 0, .bool false, .nilf, .nilf]), ou (.st (.t 5) (.t 10) 95)])
 (.sq (oP [oo 6 (.mv (.c (.sl 1 (some true) [])))])
 (.sq (.sq (oP [om 11 0, oE 12 11, oB 13 0])
 (.kp [6] [4] (.bk 0 (.lp [(t_int, .inl 6)] [0, 1, 5, 6, 11, 12, 13] Zer))))
 (.sq (oP [om 37 6, om 4 37])
 .rt))))),
 [.t 4]⟩
def Z1c : IR :=
 (.sq (.sq (oP [om 7 3, oo 8 (.bin .geq (.t 7) (ki 0))])
 (.cd (.t 8)
 .sk
 (.ex 0)))
 (.sq (.bk 1 (.sq (.op 0 [om 11 0, om 12 3, oA 13 1 1, om 14 3, oD 15 13 14 1, oA 16 15 1, oo 17 (.callS (.t 11) [(.t 12), (.t 16)]), oo 18 (.un .not (.t 17))] (some [0, 1, 3, 18]))
 (.cd (.t 18)
 .rt
 .sk)))
 (oP [om 9 3, oo 10 (.bin .sub (.t 9) (ki 1)), om 3 10])))
def Z1b : IR := Z1c
def Z47 : FnIR := ⟨19,
 (.sq (.op 0 [oA 4 1 1, oE 5 4, oo 6 (.bin .sub (.t 5) (ki 1)), om 3 6] (some [0, 1, 3]))
 (.kp [] [] (.bk 0 (.lp [] [0, 1, 3] Z1b)))),
 []⟩

end Go.Proofs.YteecfnfjlclhdaaGreat.V

/- The functions of the program in the small language. Printed by a program of this work. -/
namespace Go.Proofs.YteecfnfjlclhdaaGreat.V
open Go (IntKind BinOp UnOp)

variable {C : Call} {L : Loop} {π : Id} {k0 : List Id} {e : Env} {s : Sto}
def Nq : FnIR := ⟨21,
 (.sq (oP [oK 5])
 (.sq (.op 13 [oC 6 1 0, oC 7 6 0, oC 8 7 2, oA 9 8 1, om 10 0, oD 11 9 10 5, oC 12 11 1, oA 13 12 1, oA 14 2 1, oo 15 (.bin .eql (.t 13) (.t 14)), om 16 15, og 17 16 true (.ld (.t 3) 1 false), oF 18 16 0, og 19 16 true (cv Y9 [(.t 17), (.t 18)]), oH 20 16 19, om 5 20] (some [5]))
 .rt)),
 [.t 5]⟩
def Pa : FnIR := ⟨6,
 (.sq (oP [oK 2])
 (.sq (.op 0 [om 3 0, om 4 0, oo 5 (.bin .neq (.t 3) (.t 4)), om 2 5] (some [2]))
 .rt)),
 [.t 2]⟩
def H6 : FnIR := ⟨8,
 (.sq (oP [oB 4 0])
 (.sq (.op 0 [om 5 1, oo 6 (cv G6 [(.t 5)]), oo 7 (cv Yg [(.t 6), (ki 2)]), om 4 7] (some [4]))
 .rt)),
 [.t 4]⟩
def Z69 : FnIR := ⟨5,
 (.sq (oP [oK 2])
 (.sq (oP [om 3 0, oo 4 (cv Vd [(.t 3), (ki 1), (ki 16)]), om 2 4])
 .rt)),
 [.t 2]⟩
def Z0u : FnIR := ⟨24,
 (.sq (oP [oo 0 (.alloc [.str ⟨#[]⟩, .int .i64 0, .bool false, .nilf, .nilf, .str ⟨#[]⟩, .int .i64 0, .bool false, .nilf, .nilf, .str ⟨#[]⟩, .int .i64 0, .bool false, .nilf, .nilf, .str ⟨#[]⟩, .int .i64 0, .bool false, .nilf, .nilf, .str ⟨#[]⟩, .int .i64 0, .bool false, .nilf, .nilf, .str ⟨#[]⟩, .int .i64 0, .bool false, .nilf, .nilf, .str ⟨#[]⟩, .int .i64 0, .bool false, .nilf, .nilf, .str ⟨#[]⟩, .int .i64 0, .bool false, .nilf, .nilf, .str ⟨#[]⟩, .int .i64 0, .bool false, .nilf, .nilf, .str ⟨#[]⟩, .int .i64 0, .bool false, .nilf, .nilf, .str ⟨#[]⟩, .int .i64 0, .bool false, .nilf, .nilf, .str ⟨#[]⟩, .int .i64 0, .bool false, .nilf, .nilf, .str ⟨#[]⟩, .int .i64 0, .bool false, .nilf, .nilf, .str ⟨#[]⟩, .int .i64 0, .bool false, .nilf, .nilf, .str ⟨#[]⟩, .int .i64 0, .bool false, .nilf, .nilf, .str ⟨#[]⟩, .int .i64 0, .bool false, .nilf, .nilf, .str ⟨#[]⟩, .int .i64 0, .bool false, .nilf, .nilf, .str ⟨#[]⟩, .int .i64 0, .bool false, .nilf, .nilf, .str ⟨#[]⟩, .int .i64 0, .bool false, .nilf, .nilf])])
 (.sq (oP [oo 1 (.mv (.c (.fn N5 [])))])
 (.sq (.op 0 [om 2 1, oo 3 (.build [.str ⟨#[]⟩, .int .i64 0, .bool false, .nilf, .nilf] [(0, 1, (.c (.str ⟨#[99, 111, 110, 115, 116]⟩))), (1, 1, (ki 0)), (2, 1, (.c (.bool true))), (3, 1, (.c (.fn Yb []))), (4, 1, (.t 2))]), om 4 1, oo 5 (.build [.str ⟨#[]⟩, .int .i64 0, .bool false, .nilf, .nilf] [(0, 1, (.c (.str ⟨#[108, 101, 97, 102]⟩))), (1, 1, (ki 0)), (2, 1, (.c (.bool true))), (3, 1, (.c (.fn Yb []))), (4, 1, (.t 4))]), oo 6 (.build [.str ⟨#[]⟩, .int .i64 0, .bool false, .nilf, .nilf] [(0, 1, (.c (.str ⟨#[110, 111, 116]⟩))), (1, 1, (ki 1)), (2, 1, (.c (.bool false))), (3, 1, (.c (.fn Ze []))), (4, 1, (.c (.fn Z31 [])))]), oo 7 (cw Ua [(.c (.str ⟨#[97, 110, 100]⟩)), (.c (.fn G5 []))]), oo 8 (cw Ua [(.c (.str ⟨#[111, 114]⟩)), (.c (.fn G4 []))]), oo 9 (cw Ua [(.c (.str ⟨#[120, 111, 114]⟩)), (.c (.fn G3 []))]), oo 10 (cw Ua [(.c (.str ⟨#[97, 100, 100]⟩)), (.c (.fn G2 []))]), oo 11 (cw Ua [(.c (.str ⟨#[115, 117, 98]⟩)), (.c (.fn G1 []))]), oo 12 (cw Ua [(.c (.str ⟨#[109, 117, 108]⟩)), (.c (.fn Hz []))]), oo 13 (cw Pj [(.c (.str ⟨#[101, 113]⟩)), (.c (.fn Hy []))]), oo 14 (cw Pj [(.c (.str ⟨#[108, 116]⟩)), (.c (.fn Mg []))]), oo 15 (cw Pj [(.c (.str ⟨#[115, 108, 116]⟩)), (.c (.fn Mf []))]), oo 16 (.build [.str ⟨#[]⟩, .int .i64 0, .bool false, .nilf, .nilf] [(0, 1, (.c (.str ⟨#[109, 117, 120]⟩))), (1, 1, (ki 3)), (2, 1, (.c (.bool false))), (3, 1, (.c (.fn Me []))), (4, 1, (.c (.fn Fv [])))]), oo 17 (.build [.str ⟨#[]⟩, .int .i64 0, .bool false, .nilf, .nilf] [(0, 1, (.c (.str ⟨#[106, 111, 105, 110]⟩))), (1, 1, (ki 2)), (2, 1, (.c (.bool false))), (3, 1, (.c (.fn Md []))), (4, 1, (.c (.fn Fu [])))]), oo 18 (.build [.str ⟨#[]⟩, .int .i64 0, .bool false, .nilf, .nilf] [(0, 1, (.c (.str ⟨#[115, 108, 105, 99, 101]⟩))), (1, 1, (ki 1)), (2, 1, (.c (.bool true))), (3, 1, (.c (.fn Mc []))), (4, 1, (.c (.fn Ft [])))]), oo 19 (.build [.str ⟨#[]⟩, .int .i64 0, .bool false, .nilf, .nilf] [(0, 1, (.c (.str ⟨#[122, 101, 120, 116]⟩))), (1, 1, (ki 1)), (2, 1, (.c (.bool false))), (3, 1, (.c (.fn Ya []))), (4, 1, (.c (.fn Fs [])))]), oo 20 (.build [.str ⟨#[]⟩, .int .i64 0, .bool false, .nilf, .nilf] [(0, 1, (.c (.str ⟨#[115, 101, 120, 116]⟩))), (1, 1, (ki 1)), (2, 1, (.c (.bool false))), (3, 1, (.c (.fn Ya []))), (4, 1, (.c (.fn Fr [])))]), oo 21 (.build [.str ⟨#[]⟩, .int .i64 0, .bool false, .nilf, .nilf] [(0, 1, (.c (.str ⟨#[115, 104, 108]⟩))), (1, 1, (ki 2)), (2, 1, (.c (.bool false))), (3, 1, (.c (.fn Yo []))), (4, 1, (.c (.fn Fq [])))]), oo 22 (.build [.str ⟨#[]⟩, .int .i64 0, .bool false, .nilf, .nilf] [(0, 1, (.c (.str ⟨#[115, 104, 114]⟩))), (1, 1, (ki 2)), (2, 1, (.c (.bool false))), (3, 1, (.c (.fn Yo []))), (4, 1, (.c (.fn Fp [])))]), oo 23 (.build [.str ⟨#[]⟩, .int .i64 0, .bool false, .nilf, .nilf, .str ⟨#[]⟩, .int .i64 0, .bool false, .nilf, .nilf, .str ⟨#[]⟩, .int .i64 0, .bool false, .nilf, .nilf, .str ⟨#[]⟩, .int .i64 0, .bool false, .nilf, .nilf, .str ⟨#[]⟩, .int .i64 0, .bool false, .nilf, .nilf, .str ⟨#[]⟩, .int .i64 0, .bool false, .nilf, .nilf, .str ⟨#[]⟩, .int .i64 0, .bool false, .nilf, .nilf, .str ⟨#[]⟩, .int .i64 0, .bool false, .nilf, .nilf, .str ⟨#[]⟩, .int .i64 0, .bool false, .nilf, .nilf, .str ⟨#[]⟩, .int .i64 0, .bool false, .nilf, .nilf, .str ⟨#[]⟩, .int .i64 0, .bool false, .nilf, .nilf, .str ⟨#[]⟩, .int .i64 0, .bool false, .nilf, .nilf, .str ⟨#[]⟩, .int .i64 0, .bool false, .nilf, .nilf, .str ⟨#[]⟩, .int .i64 0, .bool false, .nilf, .nilf, .str ⟨#[]⟩, .int .i64 0, .bool false, .nilf, .nilf, .str ⟨#[]⟩, .int .i64 0, .bool false, .nilf, .nilf, .str ⟨#[]⟩, .int .i64 0, .bool false, .nilf, .nilf, .str ⟨#[]⟩, .int .i64 0, .bool false, .nilf, .nilf, .str ⟨#[]⟩, .int .i64 0, .bool false, .nilf, .nilf] [(0, 5, (.t 3)), (5, 5, (.t 5)), (10, 5, (.t 6)), (15, 5, (.t 7)), (20, 5, (.t 8)), (25, 5, (.t 9)), (30, 5, (.t 10)), (35, 5, (.t 11)), (40, 5, (.t 12)), (45, 5, (.t 13)), (50, 5, (.t 14)), (55, 5, (.t 15)), (60, 5, (.t 16)), (65, 5, (.t 17)), (70, 5, (.t 18)), (75, 5, (.t 19)), (80, 5, (.t 20)), (85, 5, (.t 21)), (90, 5, (.t 22))]), ou (.st (.t 0) (.t 23) 95)] (some [0]))
 .rt))),
 [.c 0 95 true]⟩
def Xr : IR :=
 (.sq (oP [oG 12 11 10])
 (.sq (.cd (.t 12)
 .sk
 (.ex 0))
 (.sq (.bk 1 (.sq (.op 0 [om 13 11, oD 14 9 11 4, oJ 15 14 4, oo 7 (.alloc [.int .i64 0, .int .i64 0, .sl 1 (some true) [], .int .i64 0]), om 6 13, ou (.st (.t 7) (.t 15) 4)] (some [1, 6, 7, 9, 10, 11]))
 (.sq (.op 0 [om 16 1, om 17 6, oJ 18 7 4, oo 19 (.callV true (.t 16) [(.t 17), (.t 18)]), om 8 19] (some [1, 6, 8, 9, 10, 11]))
 (.sq (oP [om 20 8, oo 21 (.bin .neq (.t 20) (ki 0))])
 (.cd (.t 21)
 (.sq (.op 0 [om 22 6, om 23 8, om 4 22, om 5 23] (some [4, 5]))
 .rt)
 .sk)))))
 (oP [oI 24 11 1, om 11 24]))))
def P6 : IR := Xr
theorem Ql : evC C L π k0 P6 e s = evC C L π k0 Xr e s := rfl
def Lq : FnIR := ⟨25,
 (.sq (oP [oB 4 0, oB 5 0])
 (.sq (.sq (oP [om 9 0, oE 10 9, oB 11 0])
 (.kp [] [4, 5] (.bk 0 (.lp [] [1, 9, 10, 11] P6))))
 (.sq (oP [oB 4 0, oB 5 0])
 .rt))),
 [.t 4, .t 5]⟩
def Vm : IR :=
 (.sq (oP [oG 59 58 57])
 (.sq (.cd (.t 59)
 .sk
 (.ex 0))
 (.sq (.bk 1 (.sq (oP [oD 60 56 58 1, oA 61 60 1, om 14 61])
 (.op 0 [om 62 12, oA 63 4 1, om 64 14, oD 65 63 64 4, oC 66 65 1, oA 67 66 1, oo 68 (.bsl t_int 1 false [.int .i64 0] 1 [(0, (.t 67))]), oo 69 (.app (.t 62) (.t 68) t_int 1), om 12 69] (some [4, 6, 9, 12, 56, 57, 58]))))
 (oP [oI 70 58 1, om 58 70]))))
def N2 : IR := Vm
theorem F2 : evC C L π k0 N2 e s = evC C L π k0 Vm e s := rfl
def Yp : FnIR := ⟨80,
 (.sq (oP [oM 5 0 1, oM 6 1 4, oB 7 0])
 (.sq (.sq (.op 6 [oC 15 6 0, oA 16 15 1, oo 17 (cv Vd [(.t 16), (ki 0), (ki 18)]), oo 18 (cv Yg [(.t 17), (ki 15)]), oC 19 6 1, oA 20 19 1, oo 21 (cv G6 [(.t 20)]), oo 22 (cv Yg [(.t 21), (ki 2)]), oo 23 (.bsl Y8 1 false [.int .i64 0] 2 [(0, (.t 18)), (1, (.t 22))]), oo 24 (cv Pk [(.t 23)]), om 8 24] (some [2, 3, 4, 5, 6, 8]))
 (.sq (oP [om 25 8, oo 26 (.bin .neq (.t 25) (ki 0))])
 (.cd (.t 26)
 (.sq (oP [om 27 8, om 7 27])
 .rt)
 .sk)))
 (.sq (.op 0 [oC 28 6 0, oA 29 28 1, oo 30 (.iaa (.t 2) (.t 29) 19 5), oJ 31 30 5, oo 9 (.alloc [.str ⟨#[]⟩, .int .i64 0, .bool false, .nilf, .nilf]), ou (.st (.t 9) (.t 31) 5)] (some [3, 4, 5, 6, 9]))
 (.sq (.op 0 [oC 32 6 2, oA 33 32 1, oo 34 (.mkf Wi [(.t 5)]), oo 35 (cv Ym [(.t 33), (.t 34)]), om 10 35] (some [3, 4, 6, 9, 10]))
 (.sq (.sq (.op 13 [oC 36 6 2, oA 37 36 1, oE 38 37, oC 39 9 1, oA 40 39 1, oo 41 (.bin .eql (.t 38) (.t 40)), oo 42 (cv Yg [(.t 41), (ki 10)]), om 43 10, oo 44 (.un .not (.t 43)), oo 45 (cv Yg [(.t 44), (ki 9)]), oA 46 3 1, oJ 47 6 4, oJ 48 9 5, oo 49 (cv F8 [(.t 46), (.t 47), (.t 48)]), oo 50 (.bsl Y8 1 false [.int .i64 0] 3 [(0, (.t 42)), (1, (.t 45)), (2, (.t 49))]), oo 51 (cv Pk [(.t 50)]), om 11 51] (some [4, 6, 9, 11]))
 (.sq (oP [om 52 11, oo 53 (.bin .neq (.t 52) (ki 0))])
 (.cd (.t 53)
 (.sq (oP [om 54 11, om 7 54])
 .rt)
 .sk)))
 (.sq (oP [oo 12 (.mv (.c (.sl 1 (some true) [])))])
 (.sq (.sq (.op 0 [oC 55 6 2, oA 56 55 1, oE 57 56, oB 58 0] (some [4, 6, 9, 12, 56, 57, 58]))
 (.kp [6, 9, 12] [7] (.bk 0 (.lp [(t_int, .inl 12)] [4, 6, 9, 12, 56, 57, 58] N2))))
 (.sq (.op 0 [oC 71 9 3, oA 72 71 1, oC 73 6 1, oA 74 73 1, om 75 12, oC 76 6 3, oA 77 76 1, oo 78 (.callV true (.t 72) [(.t 74), (.t 75), (.t 77)]), oo 79 (cv Yg [(.t 78), (ki 25)]), om 7 79] (some [7]))
 .rt)))))))),
 [.t 7]⟩
def Z85 : FnIR := ⟨15,
 (.sq (oP [oK 6])
 (.sq (.op 0 [om 7 1, om 8 0, oo 9 (.bin .leq (.t 7) (.t 8)), om 10 9, oF 11 10 0, oF 12 10 2, og 13 10 true (.bin .leq (.t 11) (.t 12)), oH 14 10 13, om 6 14] (some [6]))
 .rt)),
 [.t 6]⟩
def M6 : FnIR := ⟨9,
 (.sq (oP [oK 3])
 (.sq (.op 0 [om 4 0, oA 5 1 1, oo 6 (.bin .sub (.t 5) (ki 1)), oo 7 (cv Vd [(.t 4), (ki 0), (.t 6)]), oo 8 (.un .not (.t 7)), om 3 8] (some [3]))
 .rt)),
 [.t 3]⟩
def Va : FnIR := ⟨49,
 (.sq (oP [oM 4 1 4, oM 5 2 5, oB 6 0])
 (.sq (.sq (oP [oC 7 4 0, oA 8 7 1])
 (.bk 0 (.sq (oP [oo 10 (.bin .eql (.t 8) (ki 0)), om 9 10])
 (.cd (.t 9)
 (.sq (.op 0 [oC 11 4 3, oA 12 11 1, oC 13 4 1, oA 14 13 1, oo 15 (cv Z5g [(.t 12), (.t 14)]), oo 16 (cv Yg [(.t 15), (ki 2)]), om 6 16] (some [6]))
 .rt)
 (.sq (oP [oo 18 (.bin .eql (.t 8) (ki 1)), om 17 18])
 (.cd (.t 17)
 (.sq (.sq (.op 0 [oC 19 4 3, oA 20 19 1, om 21 0, oE 22 21, oo 23 (.bin .sub (.t 22) (ki 1)), oo 24 (cv Vd [(.t 20), (ki 0), (.t 23)]), oo 25 (.un .not (.t 24))] (some [0, 4, 25]))
 (.cd (.t 25)
 (.sq (oP [oB 6 6])
 .rt)
 .sk))
 (.sq (.op 7 [om 26 0, oC 27 4 3, oA 28 27 1, oD 29 26 28 1, oA 30 29 1, oC 31 4 1, oA 32 31 1, oo 33 (.bin .eql (.t 30) (.t 32)), oo 34 (cv Yg [(.t 33), (ki 25)]), om 6 34] (some [6]))
 .rt))
 (.sq (oP [oo 36 (.bin .eql (.t 8) (ki 14)), om 35 36])
 (.cd (.t 35)
 (.sq (.op 0 [oC 37 4 3, oA 38 37 1, oo 39 (cv Vd [(.t 38), (ki 0), (ki 15)]), oo 40 (cv Yg [(.t 39), (ki 2)]), om 6 40] (some [6]))
 .rt)
 .sk))))))))
 (.sq (.op 0 [oC 41 5 2, oA 42 41 1, om 43 42, og 44 43 false (.fa (.t 4) 3), og 45 43 false (.ld (.t 44) 1 false), og 46 43 false (.bin .eql (.t 45) (ki 0)), oo 47 (.pick (.t 43) (.c (.bool true)) (.t 46)), oo 48 (cv Yg [(.t 47), (ki 3)]), om 6 48] (some [6]))
 .rt))),
 [.t 6]⟩
def Zd : FnIR := ⟨14,
 (.sq (oP [oB 2 0])
 (.sq (.sq (oP [om 3 0])
 (.bk 0 (.sq (.sq (oP [oo 5 (.bin .eql (.t 3) (ki 0)), om 4 5])
 (.cd (.t 4)
 .sk
 (oP [oo 6 (.bin .eql (.t 3) (ki 1)), om 4 6])))
 (.cd (.t 4)
 (.sq (oP [oB 2 0])
 .rt)
 (.sq (.sq (oP [oo 8 (.bin .eql (.t 3) (ki 2)), om 7 8])
 (.cd (.t 7)
 .sk
 (.sq (oP [oo 9 (.bin .eql (.t 3) (ki 14)), om 7 9])
 (.cd (.t 7)
 .sk
 (.sq (oP [oo 10 (.bin .eql (.t 3) (ki 15)), om 7 10])
 (.cd (.t 7)
 .sk
 (oP [oo 11 (.bin .eql (.t 3) (ki 16)), om 7 11])))))))
 (.cd (.t 7)
 (.sq (oP [oB 2 1])
 .rt)
 (.sq (oP [oo 13 (.bin .eql (.t 3) (ki 12)), om 12 13])
 (.cd (.t 12)
 (.sq (oP [oB 2 3])
 .rt)
 .sk))))))))
 (.sq (oP [oB 2 2])
 .rt))),
 [.t 2]⟩
def Pr : IR :=
 (.sq (.sq (.op 0 [om 7 6, oC 8 3 2, oA 9 8 1, oE 10 9, oG 11 7 10] (some [0, 3, 5, 6, 11]))
 (.cd (.t 11)
 .sk
 (.ex 0)))
 (.sq (.bk 1 (.op 0 [om 14 5, om 15 0, oC 16 3 2, oA 17 16 1, om 18 6, oD 19 17 18 1, oA 20 19 1, oD 21 15 20 4, oC 22 21 1, oA 23 22 1, oo 24 (.bsl t_int 1 false [.int .i64 0] 1 [(0, (.t 23))]), oo 25 (.app (.t 14) (.t 24) t_int 1), om 5 25] (some [0, 3, 5, 6])))
 (oP [om 12 6, oI 13 12 1, om 6 13])))
def Kz : IR := Pr
theorem Z2r : evC C L π k0 Kz e s = evC C L π k0 Pr e s := rfl
def Z24 : FnIR := ⟨133,
 (.sq (oP [oM 3 1 4, oK 4])
 (.sq (oP [oo 5 (.mv (.c (.sl 1 (some true) [])))])
 (.sq (.sq (oP [oB 6 0])
 (.kp [3, 5] [4] (.bk 0 (.lp [(t_int, .inl 5)] [0, 3, 5, 6] Kz))))
 (.sq (.sq (oP [oC 26 3 0, oA 27 26 1])
 (.bk 2 (.sq (oP [oo 29 (.bin .eql (.t 27) (ki 2)), om 28 29])
 (.cd (.t 28)
 (.sq (.op 5 [om 30 5, oo 31 (.ia (.t 30) (ki 0) 1), oA 32 31 1, oC 33 3 1, oA 34 33 1, oo 35 (.bin .eql (.t 32) (.t 34)), om 4 35] (some [4]))
 .rt)
 (.sq (.sq (oP [oo 37 (.bin .eql (.t 27) (ki 3)), om 36 37])
 (.cd (.t 36)
 .sk
 (.sq (oP [oo 38 (.bin .eql (.t 27) (ki 4)), om 36 38])
 (.cd (.t 36)
 .sk
 (.sq (oP [oo 39 (.bin .eql (.t 27) (ki 5)), om 36 39])
 (.cd (.t 36)
 .sk
 (.sq (oP [oo 40 (.bin .eql (.t 27) (ki 6)), om 36 40])
 (.cd (.t 36)
 .sk
 (.sq (oP [oo 41 (.bin .eql (.t 27) (ki 7)), om 36 41])
 (.cd (.t 36)
 .sk
 (oP [oo 42 (.bin .eql (.t 27) (ki 8)), om 36 42])))))))))))
 (.cd (.t 36)
 (.sq (.op 12 [om 43 5, oo 44 (.ia (.t 43) (ki 0) 1), oA 45 44 1, oC 46 3 1, oA 47 46 1, oo 48 (.bin .eql (.t 45) (.t 47)), om 49 48, oF 50 49 5, og 51 49 true (.ia (.t 50) (ki 1) 1), og 52 49 true (.ld (.t 51) 1 false), og 53 49 true (.fa (.t 3) 1), og 54 49 true (.ld (.t 53) 1 false), og 55 49 true (.bin .eql (.t 52) (.t 54)), oH 56 49 55, om 4 56] (some [4]))
 .rt)
 (.sq (.sq (oP [oo 58 (.bin .eql (.t 27) (ki 9)), om 57 58])
 (.cd (.t 57)
 .sk
 (.sq (oP [oo 59 (.bin .eql (.t 27) (ki 10)), om 57 59])
 (.cd (.t 57)
 .sk
 (oP [oo 60 (.bin .eql (.t 27) (ki 11)), om 57 60])))))
 (.cd (.t 57)
 (.sq (.op 6 [om 61 5, oo 62 (.ia (.t 61) (ki 0) 1), oA 63 62 1, om 64 5, oo 65 (.ia (.t 64) (ki 1) 1), oA 66 65 1, oo 67 (.bin .eql (.t 63) (.t 66)), om 68 67, og 69 68 true (.fa (.t 3) 1), og 70 68 true (.ld (.t 69) 1 false), og 71 68 true (.bin .eql (.t 70) (ki 1)), oH 72 68 71, om 4 72] (some [4]))
 .rt)
 (.sq (oP [oo 74 (.bin .eql (.t 27) (ki 12)), om 73 74])
 (.cd (.t 73)
 (.sq (.op 18 [om 75 5, oo 76 (.ia (.t 75) (ki 0) 1), oA 77 76 1, oo 78 (.bin .eql (.t 77) (ki 1)), om 79 78, oF 80 79 5, og 81 79 true (.ia (.t 80) (ki 1) 1), og 82 79 true (.ld (.t 81) 1 false), og 83 79 true (.fa (.t 3) 1), og 84 79 true (.ld (.t 83) 1 false), og 85 79 true (.bin .eql (.t 82) (.t 84)), oH 86 79 85, om 87 86, oF 88 87 5, og 89 87 true (.ia (.t 88) (ki 2) 1), og 90 87 true (.ld (.t 89) 1 false), og 91 87 true (.fa (.t 3) 1), og 92 87 true (.ld (.t 91) 1 false), og 93 87 true (.bin .eql (.t 90) (.t 92)), oH 94 87 93, om 4 94] (some [4]))
 .rt)
 (.sq (oP [oo 96 (.bin .eql (.t 27) (ki 13)), om 95 96])
 (.cd (.t 95)
 (.sq (.op 9 [om 97 5, oo 98 (.ia (.t 97) (ki 0) 1), oA 99 98 1, om 100 5, oo 101 (.ia (.t 100) (ki 1) 1), oA 102 101 1, oo 103 (.bin .add (.t 99) (.t 102)), oC 104 3 1, oA 105 104 1, oo 106 (.bin .eql (.t 103) (.t 105)), om 4 106] (some [4]))
 .rt)
 (.sq (oP [oo 108 (.bin .eql (.t 27) (ki 14)), om 107 108])
 (.cd (.t 107)
 (.sq (.op 8 [oC 109 3 3, oA 110 109 1, oC 111 3 1, oA 112 111 1, oo 113 (.bin .add (.t 110) (.t 112)), om 114 5, oo 115 (.ia (.t 114) (ki 0) 1), oA 116 115 1, oo 117 (.bin .leq (.t 113) (.t 116)), om 4 117] (some [4]))
 .rt)
 (.sq (.sq (oP [oo 119 (.bin .eql (.t 27) (ki 15)), om 118 119])
 (.cd (.t 118)
 .sk
 (oP [oo 120 (.bin .eql (.t 27) (ki 16)), om 118 120])))
 (.cd (.t 118)
 (.sq (.op 5 [om 121 5, oo 122 (.ia (.t 121) (ki 0) 1), oA 123 122 1, oC 124 3 1, oA 125 124 1, oo 126 (.bin .leq (.t 123) (.t 125)), om 4 126] (some [4]))
 .rt)
 .sk))))))))))))))))
 (.sq (.op 5 [om 127 5, oo 128 (.ia (.t 127) (ki 0) 1), oA 129 128 1, oC 130 3 1, oA 131 130 1, oo 132 (.bin .eql (.t 129) (.t 131)), om 4 132] (some [4]))
 .rt))))),
 [.t 4]⟩
def Z4h : FnIR := ⟨19,
 (.sq (oP [oM 4 1 1, oB 6 0])
 (.sq (.op 0 [om 8 2, oo 9 (.mkf Qv [(.t 4)]), oo 10 (cv Ym [(.t 8), (.t 9)]), om 7 10] (some [0, 4, 7]))
 (.sq (.op 0 [om 11 0, oA 12 4 1, oo 13 (cv My [(.t 11), (.t 12)]), om 14 7, oo 15 (.un .not (.t 14)), oo 16 (cv Yg [(.t 15), (ki 6)]), oo 17 (.bsl Y8 1 false [.int .i64 0] 2 [(0, (.t 13)), (1, (.t 16))]), oo 18 (cv Pk [(.t 17)]), om 6 18] (some [6]))
 .rt))),
 [.t 6]⟩
def Xg : IR :=
 (.sq (oP [oG 15 14 13])
 (.sq (.cd (.t 15)
 .sk
 (.ex 0))
 (.sq (.bk 1 (.sq (.op 0 [om 16 14, oD 17 12 14 4, oJ 18 17 4, oo 8 (.alloc [.int .i64 0, .int .i64 0, .sl 1 (some true) [], .int .i64 0]), om 7 16, ou (.st (.t 8) (.t 18) 4)] (some [5, 6, 7, 8, 12, 13, 14]))
 (.sq (.op 0 [om 19 6, om 20 7, oD 21 19 20 1, oA 22 21 1, om 23 22, og 24 23 true (.fa (.t 8) 0), og 25 23 true (.ld (.t 24) 1 false), og 26 23 true (.bin .eql (.t 25) (ki 1)), oH 27 23 26] (some [5, 6, 8, 12, 13, 14, 27]))
 (.cd (.t 27)
 (.op 0 [om 28 5, oC 29 8 3, oA 30 29 1, oo 31 (.bsl t_int 1 false [.int .i64 0] 1 [(0, (.t 30))]), oo 32 (.app (.t 28) (.t 31) t_int 1), om 5 32] (some [5, 6, 12, 13, 14]))
 .sk))))
 (oP [oI 33 14 1, om 14 33]))))
def M5 : IR := Xg
theorem U8 : evC C L π k0 M5 e s = evC C L π k0 Xg e s := rfl
def Gu : FnIR := ⟨38,
 (.sq (oP [oo 4 (.mv (.c (.sl 1 (some true) [])))])
 (.sq (oP [oo 5 (.mv (.c (.sl 1 (some true) [])))])
 (.sq (.op 0 [om 9 0, om 10 1, oo 11 (cw Z6l [(.t 9), (.t 10)]), om 6 11] (some [0, 5, 6]))
 (.sq (.sq (oP [om 12 0, oE 13 12, oB 14 0])
 (.kp [5] [4] (.bk 0 (.lp [(t_int, .inl 5)] [5, 6, 12, 13, 14] M5))))
 (.sq (oP [om 34 5, oo 35 (.callS (.c (.fn Vs [])) [(.t 34)])])
 (.sq (oP [om 36 5, oo 37 (.callS (.c (.fn Vj [])) [(.t 36)]), om 4 37])
 .rt)))))),
 [.t 4]⟩
def Ze6 : IR :=
 (.sq (oP [oG 17 16 15])
 (.sq (.cd (.t 17)
 .sk
 (.ex 0))
 (.sq (.bk 1 (.sq (oP [oD 18 14 16 1, oA 19 18 1, om 12 19])
 (.op 14 [om 20 9, om 21 1, om 22 12, oD 23 21 22 4, oC 24 23 1, oA 25 24 1, oo 26 (.bsl t_int 1 false [.int .i64 0] 1 [(0, (.t 25))]), oo 27 (.apx (.t 20) (.t 26) t_int 1 [0, 1, 2, 3, 4, 5, 6]), om 28 10, om 29 3, om 30 12, oD 31 29 30 1, oA 32 31 1, oo 33 (.bsl t_int 1 false [.int .i64 0] 1 [(0, (.t 32))]), oo 34 (.app (.t 28) (.t 33) t_int 1), om 9 27, om 10 34] (some [0, 1, 3, 6, 9, 10, 14, 15, 16]))))
 (oP [oI 35 16 1, om 16 35]))))
def Ze0 : IR := Ze6
def c_gr_applied : FnIR := ⟨47,
 (.sq (oP [oM 6 2 4, oB 8 0])
 (.sq (oP [oo 9 (.mv (.c (.sl 1 (some true) []))), oo 10 (.mv (.c (.sl 1 (some true) [])))])
 (.sq (.sq (.op 0 [oC 13 6 2, oA 14 13 1, oE 15 14, oB 16 0] (some [0, 1, 3, 6, 9, 10, 14, 15, 16]))
 (.kp [0, 6, 9, 10] [8] (.bk 0 (.lp [(t_int, .inl 10), (t_int, .inl 9)] [0, 1, 3, 6, 9, 10, 14, 15, 16] Ze0))))
 (.sq (.op 10 [om 36 0, oC 37 6 0, oA 38 37 1, oo 39 (.nck (.t 36)), oo 40 (.iaa (.t 39) (.t 38) 19 5), oC 41 40 4, oA 42 41 1, oJ 43 6 4, om 44 9, om 45 10, oo 46 (.callV true (.t 42) [(.t 43), (.t 44), (.t 45)]), om 8 46] (some [8]))
 .rt)))),
 [.t 8]⟩
def c_gr_op_1 : FnIR := ⟨9,
 (.sq (oP [oM 3 0 4, oB 6 0])
 (.sq (oP [oC 7 3 3, oA 8 7 1, om 6 8])
 .rt)),
 [.t 6]⟩
def Z4p : FnIR := ⟨7,
 (.sq (oP [oK 6])
 (.sq (oP [oo 6 (.mv (.c (.bool true)))])
 .rt)),
 [.t 6]⟩
def Zdy : FnIR := ⟨11,
 (.sq (oP [oM 3 0 1, oK 6])
 (.sq (.op 0 [om 7 1, oo 8 (.mkf Z05 [(.t 3)]), oo 9 (cv Ym [(.t 7), (.t 8)]), oo 10 (.un .not (.t 9)), om 6 10] (some [6]))
 .rt)),
 [.t 6]⟩
def c_gr_op_2 : FnIR := ⟨14,
 (.sq (oP [oM 3 0 4, oB 6 0])
 (.sq (.op 6 [om 7 2, oo 8 (.ia (.t 7) (ki 0) 1), oA 9 8 1, oo 10 (.un .xor (.t 9)), oC 11 3 1, oA 12 11 1, oo 13 (cv Z32 [(.t 10), (.t 12)]), om 6 13] (some [6]))
 .rt)),
 [.t 6]⟩
def c_gr_mask : FnIR := ⟨10,
 (.sq (oP [oB 4 0])
 (.sq (.op 0 [om 5 0, om 6 1, oo 7 (.bin .shl (ki 1) (.t 6)), oo 8 (.bin .sub (.t 7) (ki 1)), oo 9 (.bin .and (.t 5) (.t 8)), om 4 9] (some [4]))
 .rt)),
 [.t 4]⟩
def Z88 : FnIR := ⟨8,
 (.sq (oP [oM 3 1 1, oo 4 (.alloc [.str ⟨#[]⟩, .int .i64 0, .bool false, .nilf, .nilf])])
 (.sq (.op 0 [om 5 0, oo 6 (.mkf Zu [(.t 3)]), oo 7 (.build [.str ⟨#[]⟩, .int .i64 0, .bool false, .nilf, .nilf] [(0, 1, (.t 5)), (1, 1, (ki 2)), (2, 1, (.c (.bool false))), (3, 1, (.c (.fn Ze []))), (4, 1, (.t 6))]), ou (.st (.t 4) (.t 7) 5)] (some [4]))
 .rt)),
 [.c 4 5 true]⟩
def c_gr_op_3 : FnIR := ⟨8,
 (.sq (oP [oB 4 0])
 (.sq (.op 0 [om 5 0, om 6 1, oo 7 (.bin .and (.t 5) (.t 6)), om 4 7] (some [4]))
 .rt)),
 [.t 4]⟩
def c_gr_op_4 : FnIR := ⟨8,
 (.sq (oP [oB 4 0])
 (.sq (.op 0 [om 5 0, om 6 1, oo 7 (.bin .or (.t 5) (.t 6)), om 4 7] (some [4]))
 .rt)),
 [.t 4]⟩
def c_gr_op_5 : FnIR := ⟨8,
 (.sq (oP [oB 4 0])
 (.sq (.op 0 [om 5 0, om 6 1, oo 7 (.bin .xor (.t 5) (.t 6)), om 4 7] (some [4]))
 .rt)),
 [.t 4]⟩
def c_gr_op_6 : FnIR := ⟨8,
 (.sq (oP [oB 4 0])
 (.sq (.op 0 [om 5 0, om 6 1, oo 7 (.bin .add (.t 5) (.t 6)), om 4 7] (some [4]))
 .rt)),
 [.t 4]⟩
def c_gr_op_7 : FnIR := ⟨8,
 (.sq (oP [oB 4 0])
 (.sq (.op 0 [om 5 0, om 6 1, oo 7 (.bin .sub (.t 5) (.t 6)), om 4 7] (some [4]))
 .rt)),
 [.t 4]⟩
def c_gr_op_8 : FnIR := ⟨8,
 (.sq (oP [oB 4 0])
 (.sq (.op 0 [om 5 0, om 6 1, oo 7 (.bin .mul (.t 5) (.t 6)), om 4 7] (some [4]))
 .rt)),
 [.t 4]⟩
def Z4g : FnIR := ⟨8,
 (.sq (oP [oM 3 1 1, oo 4 (.alloc [.str ⟨#[]⟩, .int .i64 0, .bool false, .nilf, .nilf])])
 (.sq (.op 0 [om 5 0, oo 6 (.mkf Yi [(.t 3)]), oo 7 (.build [.str ⟨#[]⟩, .int .i64 0, .bool false, .nilf, .nilf] [(0, 1, (.t 5)), (1, 1, (ki 2)), (2, 1, (.c (.bool false))), (3, 1, (.c (.fn Zq []))), (4, 1, (.t 6))]), ou (.st (.t 4) (.t 7) 5)] (some [4]))
 .rt)),
 [.c 4 5 true]⟩
def c_gr_op_9 : FnIR := ⟨10,
 (.sq (oP [oK 6])
 (.sq (.op 0 [om 7 0, om 8 1, oo 9 (.bin .eql (.t 7) (.t 8)), om 6 9] (some [6]))
 .rt)),
 [.t 6]⟩
def c_gr_op_10 : FnIR := ⟨10,
 (.sq (oP [oK 6])
 (.sq (.op 0 [om 7 0, om 8 1, oG 9 7 8, om 6 9] (some [6]))
 .rt)),
 [.t 6]⟩
def c_gr_op_11 : FnIR := ⟨14,
 (.sq (oP [oK 6])
 (.sq (.op 0 [om 7 0, om 8 2, oo 9 (cv Z3v [(.t 7), (.t 8)]), om 10 1, om 11 2, oo 12 (cv Z3v [(.t 10), (.t 11)]), oG 13 9 12, om 6 13] (some [6]))
 .rt)),
 [.t 6]⟩
def c_gr_signed : FnIR := ⟨16,
 (.sq (oP [oB 4 0])
 (.sq (.sq (.op 0 [om 5 0, om 6 1, oo 7 (.bin .sub (.t 6) (ki 1)), oo 8 (.bin .shr (.t 5) (.t 7)), oo 9 (.bin .and (.t 8) (ki 1)), oo 10 (.bin .eql (.t 9) (ki 1))] (some [0, 1, 10]))
 (.cd (.t 10)
 (.op 0 [om 11 0, om 12 1, oo 13 (.bin .shl (ki 1) (.t 12)), oo 14 (.bin .sub (.t 11) (.t 13)), om 0 14] (some [0]))
 .sk))
 (.sq (oP [om 15 0, om 4 15])
 .rt))),
 [.t 4]⟩
def Zas : FnIR := ⟨25,
 (.sq (oP [oK 6])
 (.sq (.op 0 [om 7 1, oo 8 (.ia (.t 7) (ki 0) 1), oA 9 8 1, oo 10 (.bin .eql (.t 9) (ki 1)), om 11 10, oF 12 11 1, og 13 11 true (.ia (.t 12) (ki 1) 1), og 14 11 true (.ld (.t 13) 1 false), oF 15 11 0, og 16 11 true (.bin .eql (.t 14) (.t 15)), oH 17 11 16, om 18 17, oF 19 18 1, og 20 18 true (.ia (.t 19) (ki 2) 1), og 21 18 true (.ld (.t 20) 1 false), oF 22 18 0, og 23 18 true (.bin .eql (.t 21) (.t 22)), oH 24 18 23, om 6 24] (some [6]))
 .rt)),
 [.t 6]⟩
def c_gr_op_13 : FnIR := ⟨17,
 (.sq (oP [oM 3 0 4, oB 6 0])
 (.sq (.sq (.op 0 [om 7 2, oo 8 (.ia (.t 7) (ki 0) 1), oA 9 8 1, oo 10 (.bin .eql (.t 9) (ki 1))] (some [2, 10]))
 (.cd (.t 10)
 (.sq (.op 0 [om 11 2, oo 12 (.ia (.t 11) (ki 1) 1), oA 13 12 1, om 6 13] (some [6]))
 .rt)
 .sk))
 (.sq (.op 0 [om 14 2, oo 15 (.ia (.t 14) (ki 2) 1), oA 16 15 1, om 6 16] (some [6]))
 .rt))),
 [.t 6]⟩
def Zar : FnIR := ⟨16,
 (.sq (oP [oK 6])
 (.sq (.op 8 [om 7 1, oo 8 (.ia (.t 7) (ki 0) 1), oA 9 8 1, om 10 1, oo 11 (.ia (.t 10) (ki 1) 1), oA 12 11 1, oo 13 (.bin .add (.t 9) (.t 12)), om 14 0, oo 15 (.bin .eql (.t 13) (.t 14)), om 6 15] (some [6]))
 .rt)),
 [.t 6]⟩
def c_gr_op_15 : FnIR := ⟨18,
 (.sq (oP [oM 3 0 4, oB 6 0])
 (.sq (.op 10 [om 7 2, oo 8 (.ia (.t 7) (ki 0) 1), oA 9 8 1, om 10 1, oo 11 (.ia (.t 10) (ki 1) 1), oA 12 11 1, oo 13 (.bin .shl (.t 9) (.t 12)), om 14 2, oo 15 (.ia (.t 14) (ki 1) 1), oA 16 15 1, oo 17 (.bin .or (.t 13) (.t 16)), om 6 17] (some [6]))
 .rt)),
 [.t 6]⟩
def Zaq : FnIR := ⟨14,
 (.sq (oP [oK 6])
 (.sq (.op 0 [om 7 2, om 8 0, oo 9 (.bin .add (.t 7) (.t 8)), om 10 1, oo 11 (.ia (.t 10) (ki 0) 1), oA 12 11 1, oo 13 (.bin .leq (.t 9) (.t 12)), om 6 13] (some [6]))
 .rt)),
 [.t 6]⟩
def c_gr_op_17 : FnIR := ⟨16,
 (.sq (oP [oM 3 0 4, oB 6 0])
 (.sq (.op 8 [om 7 2, oo 8 (.ia (.t 7) (ki 0) 1), oA 9 8 1, oC 10 3 3, oA 11 10 1, oo 12 (.bin .shr (.t 9) (.t 11)), oC 13 3 1, oA 14 13 1, oo 15 (cv Z32 [(.t 12), (.t 14)]), om 6 15] (some [6]))
 .rt)),
 [.t 6]⟩
def Z4k : FnIR := ⟨12,
 (.sq (oP [oK 6])
 (.sq (.op 0 [om 7 1, oo 8 (.ia (.t 7) (ki 0) 1), oA 9 8 1, om 10 0, oo 11 (.bin .leq (.t 9) (.t 10)), om 6 11] (some [6]))
 .rt)),
 [.t 6]⟩
def c_gr_op_18 : FnIR := ⟨10,
 (.sq (oP [oM 3 0 4, oB 6 0])
 (.sq (.op 0 [om 7 2, oo 8 (.ia (.t 7) (ki 0) 1), oA 9 8 1, om 6 9] (some [6]))
 .rt)),
 [.t 6]⟩
def c_gr_op_19 : FnIR := ⟨17,
 (.sq (oP [oM 3 0 4, oB 6 0])
 (.sq (.op 9 [om 7 2, oo 8 (.ia (.t 7) (ki 0) 1), oA 9 8 1, om 10 1, oo 11 (.ia (.t 10) (ki 0) 1), oA 12 11 1, oo 13 (cv Z3v [(.t 9), (.t 12)]), oC 14 3 1, oA 15 14 1, oo 16 (cv Z32 [(.t 13), (.t 15)]), om 6 16] (some [6]))
 .rt)),
 [.t 6]⟩
def Z68 : FnIR := ⟨12,
 (.sq (oP [oK 6])
 (.sq (.op 0 [om 7 1, oo 8 (.ia (.t 7) (ki 0) 1), oA 9 8 1, om 10 0, oo 11 (.bin .eql (.t 9) (.t 10)), om 6 11] (some [6]))
 .rt)),
 [.t 6]⟩
def c_gr_op_20 : FnIR := ⟨20,
 (.sq (oP [oM 3 0 4, oB 6 0])
 (.sq (.op 12 [om 7 2, oo 8 (.ia (.t 7) (ki 0) 1), oA 9 8 1, om 10 2, oo 11 (.ia (.t 10) (ki 1) 1), oA 12 11 1, oC 13 3 1, oA 14 13 1, oo 15 (.mm false (.t 12) (.t 14)), oo 16 (.bin .shl (.t 9) (.t 15)), oC 17 3 1, oA 18 17 1, oo 19 (cv Z32 [(.t 16), (.t 18)]), om 6 19] (some [6]))
 .rt)),
 [.t 6]⟩
def c_gr_op_21 : FnIR := ⟨17,
 (.sq (oP [oM 3 0 4, oB 6 0])
 (.sq (.op 9 [om 7 2, oo 8 (.ia (.t 7) (ki 0) 1), oA 9 8 1, om 10 2, oo 11 (.ia (.t 10) (ki 1) 1), oA 12 11 1, oC 13 3 1, oA 14 13 1, oo 15 (.mm false (.t 12) (.t 14)), oo 16 (.bin .shr (.t 9) (.t 15)), om 6 16] (some [6]))
 .rt)),
 [.t 6]⟩
def Z0v : FnIR := ⟨10,
 (.sq (oP [oK 3])
 (.sq (.op 0 [om 4 0, oA 5 1 1, oE 6 5, oo 7 (.bin .sub (.t 6) (ki 1)), oo 8 (cv Vd [(.t 4), (ki 0), (.t 7)]), oo 9 (.un .not (.t 8)), om 3 9] (some [3]))
 .rt)),
 [.t 3]⟩
def Fk : IR :=
 (.sq (oP [oG 18 17 16])
 (.sq (.cd (.t 18)
 .sk
 (.ex 0))
 (.sq (.bk 1 (.sq (oP [oD 19 15 17 1, oA 20 19 1, om 7 20])
 (.op 0 [oA 21 5 1, om 22 7, oD 23 21 22 1, ou (.st (.t 23) (.c (.bool true)) 1)] (some [0, 4, 5, 15, 16, 17]))))
 (oP [oI 24 17 1, om 17 24]))))
def Z4o : IR := Fk
theorem Z8q : evC C L π k0 Z4o e s = evC C L π k0 Fk e s := rfl
def Uf : IR :=
 (.sq (oP [oG 33 32 31])
 (.sq (.cd (.t 33)
 .sk
 (.ex 4))
 (.sq (.bk 5 (.sq (oP [oD 34 30 32 1, oA 35 34 1, om 11 35])
 (.op 12 [oA 36 5 1, om 37 11, oA 38 5 1, om 39 11, oD 40 38 39 1, oA 41 40 1, om 42 41, og 43 42 false (.ld (.t 5) 1 false), oN 44 42 8, og 45 42 false (.ia (.t 43) (.t 44) 1), og 46 42 false (.ld (.t 45) 1 false), oo 47 (.pick (.t 42) (.c (.bool true)) (.t 46)), oD 48 36 37 1, ou (.st (.t 48) (.t 47) 1)] (some [5, 8, 30, 31, 32]))))
 (oP [oI 49 32 1, om 32 49]))))
def Z4n : IR := Uf
theorem Mp : evC C L π k0 Z4n e s = evC C L π k0 Uf e s := rfl
def Z2o : IR :=
 (.sq (oP [om 8 27])
 (oP [oo 9 (.alloc [.int .i64 0, .int .i64 0, .sl 1 (some true) [], .int .i64 0]), ou (.st (.t 9) (.t 28) 4)]))
def Z2d : IR := Z2o
theorem Zee : evC C L π k0 Z2d e s = evC C L π k0 Z2o e s := rfl
def Z2n : IR :=
 (.bk 3 (.sq (.op 0 [oC 29 9 2, oA 30 29 1, oE 31 30, oB 32 0] (some [5, 8, 30, 31, 32]))
 (.kp [] [] (.bk 4 (.lp [] [5, 8, 30, 31, 32] Z4n)))))
def Z2c : IR := Z2n
theorem Zed : evC C L π k0 Z2c e s = evC C L π k0 Z2n e s := rfl
def Zau : FnIR := ⟨51,
 (.sq (oP [oo 4 (.mv (.c (.sl 1 (some true) [])))])
 (.sq (.op 0 [om 12 0, oE 13 12, oo 14 (.mks Zev 1 false [.bool false] (.t 13) (.t 13)), oo 5 (.alloc [.sl 1 (some true) []]), ou (.st (.t 5) (.t 14) 1)] (some [0, 1, 4, 5]))
 (.sq (.sq (oP [om 15 1, oE 16 15, oB 17 0])
 (.kp [0, 4, 5] [4] (.bk 0 (.lp [] [0, 4, 5, 15, 16, 17] Z4o))))
 (.sq (.sq (.kp [4, 5, 26] [4] (oP [om 25 0, oo 26 (cw X9 [(.t 25)])]))
 (.bk 2 (.kp [5] [4] (.rf (.t 26) 51 0 [5] [27, 28] Z2d Z2c))))
 (.sq (oP [oA 50 5 1, om 4 50])
 .rt))))),
 [.t 4]⟩
def Z87 : FnIR := ⟨7,
 (.sq (oP [oK 3])
 (.sq (.op 0 [om 4 0, oA 5 1 1, oo 6 (.bin .neq (.t 4) (.t 5)), om 3 6] (some [3]))
 .rt)),
 [.t 3]⟩
def Zhr : FnIR := ⟨19,
 (.sq (oP [oM 4 0 4, oB 7 0])
 (.sq (.op 10 [oA 8 3 1, om 9 2, oo 10 (.ia (.t 9) (ki 0) 1), oA 11 10 1, om 12 2, oo 13 (.ia (.t 12) (ki 1) 1), oA 14 13 1, oo 15 (.callV true (.t 8) [(.t 11), (.t 14)]), oC 16 4 1, oA 17 16 1, oo 18 (cv Z32 [(.t 15), (.t 17)]), om 7 18] (some [7]))
 .rt)),
 [.t 7]⟩
def Z4m : FnIR := ⟨18,
 (.sq (oP [oK 6])
 (.sq (.op 9 [om 7 0, oo 8 (.bin .eql (.t 7) (ki 1)), om 9 8, oF 10 9 1, og 11 9 true (.ia (.t 10) (ki 0) 1), og 12 9 true (.ld (.t 11) 1 false), oF 13 9 1, og 14 9 true (.ia (.t 13) (ki 1) 1), og 15 9 true (.ld (.t 14) 1 false), og 16 9 true (.bin .eql (.t 12) (.t 15)), oH 17 9 16, om 6 17] (some [6]))
 .rt)),
 [.t 6]⟩
def Zdz : FnIR := ⟨20,
 (.sq (oP [oM 4 0 4, oB 7 0])
 (.sq (.op 10 [oA 8 3 1, om 9 2, oo 10 (.ia (.t 9) (ki 0) 1), oA 11 10 1, om 12 2, oo 13 (.ia (.t 12) (ki 1) 1), oA 14 13 1, om 15 1, oo 16 (.ia (.t 15) (ki 0) 1), oA 17 16 1, oo 18 (.callV true (.t 8) [(.t 11), (.t 14), (.t 17)]), oo 19 (cv Zfc [(.t 18)]), om 7 19] (some [7]))
 .rt)),
 [.t 7]⟩
def c_gr_truth : FnIR := ⟨4,
 (.sq (oP [oB 2 0])
 (.sq (.sq (oP [om 3 0])
 (.cd (.t 3)
 (.sq (oP [oB 2 1])
 .rt)
 .sk))
 (.sq (oP [oB 2 0])
 .rt))),
 [.t 2]⟩
def Xe : FnIR := ⟨4,
 (.sq (oP [oM 1 0 1, oo 2 (.mv (.c (.nilf)))])
 (.sq (oP [oo 3 (.mkf Y4 [(.t 1)]), om 2 3])
 .rt)),
 [.t 2]⟩
def Zw : IR :=
 (.sq (.sq (oP [om 7 3, oo 8 (.bin .geq (.t 7) (ki 0))])
 (.cd (.t 8)
 .sk
 (.ex 0)))
 (.sq (.bk 1 (.sq (.op 0 [om 11 0, om 12 3, oA 13 1 1, om 14 3, oD 15 13 14 4, oJ 16 15 4, oo 17 (.callS (.t 11) [(.t 12), (.t 16)]), oo 18 (.un .not (.t 17))] (some [0, 1, 3, 18]))
 (.cd (.t 18)
 .rt
 .sk)))
 (oP [om 9 3, oo 10 (.bin .sub (.t 9) (ki 1)), om 3 10])))
def Yj : IR := Zw
theorem W8 : evC C L π k0 Yj e s = evC C L π k0 Zw e s := rfl
def Yy : FnIR := ⟨19,
 (.sq (.op 0 [oA 4 1 1, oE 5 4, oo 6 (.bin .sub (.t 5) (ki 1)), om 3 6] (some [0, 1, 3]))
 (.kp [] [] (.bk 0 (.lp [] [0, 1, 3] Yj)))),
 []⟩

end Go.Proofs.YteecfnfjlclhdaaGreat.V
