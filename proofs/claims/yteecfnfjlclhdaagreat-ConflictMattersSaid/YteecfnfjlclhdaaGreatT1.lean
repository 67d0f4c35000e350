/- The functions of the program in the small language. Printed by a program of this work. The functions of the program in the small language. Printed by a program of this work. -/
import Derived.Test.YteecfnfjlclhdaaGreatK5
import Derived.Test.YteecfnfjlclhdaaGreatT0

set_option linter.unusedSimpArgs false
set_option linter.unusedVariables false

/- The functions of the program in the small language. Printed by a program of this work. -/
namespace Go.Proofs.YteecfnfjlclhdaaGreat.V
open Go (IntKind BinOp UnOp)

variable {C : Call} {L : Loop} {π : Id} {k0 : List Id} {e : Env} {s : Sto}
def F9 : FnIR := ⟨16,
 (.sq (oP [oB 5 0])
 (.sq (.op 0 [om 6 1, oC 7 2 7, oA 8 7 1, om 9 0, oD 10 8 9 1, oA 11 10 1, oo 12 (.bin .shl (ki 1) (.t 11)), oo 13 (.bin .sub (.t 12) (ki 1)), oo 14 (cv Ha [(.t 6), (ki 0), (.t 13)]), oo 15 (cv Xz [(.t 14), (ki 2)]), om 5 15] (some [5]))
 .rt)),
 [.t 5]⟩
def Z1g : FnIR := ⟨49,
 (.sq (oP [oM 4 0 8, oK 8])
 (.sq (.op 0 [oC 12 4 7, oA 13 12 1, oC 14 4 0, oC 15 14 3, oA 16 15 1, om 17 3, oo 18 (cw Ln [(.t 13), (.t 16), (.t 17)]), om 11 18, oL 19 11 0, oL 20 11 1, om 9 19, om 10 20] (some [1, 2, 4, 9, 10]))
 (.sq (.op 0 [om 21 10, oo 22 (.bin .eql (.t 21) (ki 0)), om 23 22, oF 24 23 9, og 25 23 true (.fa (.t 4) 0), og 26 23 true (.fa (.t 25) 4), og 27 23 true (.ld (.t 26) 1 false), oF 28 23 1, og 29 23 true (.ia (.t 27) (.t 28) 3), og 30 23 true (.fa (.t 29) 1), og 31 23 true (.ld (.t 30) 1 false), og 32 23 true (.ia (.t 24) (.t 31) 1), og 33 23 true (.ld (.t 32) 1 false), og 34 23 true (.bin .eql (.t 33) (ki 1)), oH 35 23 34, om 36 35, oF 37 36 9, og 38 36 true (.fa (.t 4) 0), og 39 36 true (.fa (.t 38) 4), og 40 36 true (.ld (.t 39) 1 false), oF 41 36 2, og 42 36 true (.ia (.t 40) (.t 41) 3), og 43 36 true (.fa (.t 42) 1), og 44 36 true (.ld (.t 43) 1 false), og 45 36 true (.ia (.t 37) (.t 44) 1), og 46 36 true (.ld (.t 45) 1 false), og 47 36 true (.bin .eql (.t 46) (ki 1)), oH 48 36 47, om 8 48] (some [8]))
 .rt))),
 [.t 8]⟩
def Z0m : FnIR := ⟨25,
 (.sq (oP [oM 4 0 8, oK 8])
 (.sq (.fz [3] (.op 13 [oJ 9 4 8, om 10 2, oJ 11 4 8, om 12 1, om 13 3, oo 14 (cv Vv [(.t 11), (.t 12), (.t 13)]), oo 15 (cw Vv [(.t 9), (.t 10), (.t 14)]), oJ 16 4 8, om 17 1, oJ 18 4 8, om 19 2, om 20 3, oo 21 (cw Vv [(.t 18), (.t 19), (.t 20)]), oo 22 (cw Vv [(.t 16), (.t 17), (.t 21)]), oo 23 (cv Uv [(.t 15), (.t 22)]), oo 24 (.un .not (.t 23)), om 8 24] (some [8])))
 .rt)),
 [.t 8]⟩
def Ku : IR :=
 (.sq (oP [oG 11 10 9])
 (.sq (.cd (.t 11)
 .sk
 (.ex 0))
 (.sq (.bk 1 (.sq (oP [oD 12 8 10 1, oA 13 12 1, om 7 13])
 (.op 0 [om 14 5, oC 15 2 7, oA 16 15 1, om 17 7, oD 18 16 17 1, oA 19 18 1, oo 20 (.bin .add (.t 14) (.t 19)), om 5 20] (some [2, 5, 8, 9, 10]))))
 (oP [oI 21 10 1, om 10 21]))))
def Z0n : IR := Ku
theorem Z4s : evC C L π k0 Z0n e s = evC C L π k0 Ku e s := rfl
def Z5z : FnIR := ⟨23,
 (.sq (oP [oM 2 0 8, oB 4 0])
 (.sq (oP [oB 5 0])
 (.sq (.sq (oP [om 8 1, oE 9 8, oB 10 0])
 (.kp [5] [4] (.bk 0 (.lp [] [2, 5, 8, 9, 10] Z0n))))
 (.sq (oP [om 22 5, om 4 22])
 .rt)))),
 [.t 4]⟩
def G1 : FnIR := ⟨6,
 (.sq (oP [oM 2 0 8, oM 3 1 1, oo 4 (.mv (.c (.nilf)))])
 (.sq (oP [oo 5 (.mkf Nq [(.t 2), (.t 3)]), om 4 5])
 .rt)),
 [.t 4]⟩
def Za8 : FnIR := ⟨5,
 (.sq (oP [oB 2 0])
 (.sq (oP [om 3 0, oo 4 (.bin .shl (ki 1) (.t 3)), om 2 4])
 .rt)),
 [.t 2]⟩
def Q7 : IR :=
 (.sq (.sq (oP [om 16 8, oo 17 (.bin .geq (.t 16) (ki 0))])
 (.cd (.t 17)
 .sk
 (.ex 0)))
 (.sq (.bk 1 (.sq (.op 0 [om 20 0, om 21 1, om 22 8, oD 23 21 22 1, oA 24 23 1, oD 25 20 24 1, oA 26 25 1, om 9 26] (some [0, 1, 2, 7, 8, 9]))
 (.sq (.op 9 [om 27 7, om 28 1, om 29 8, oD 30 28 29 1, oA 31 30 1, om 32 2, om 33 9, oo 34 (cv Xg [(.t 33)]), oo 35 (.bin .rem (.t 32) (.t 34)), oD 36 27 31 1, ou (.st (.t 36) (.t 35) 1)] (some [0, 1, 2, 7, 8, 9]))
 (.op 0 [om 37 2, om 38 9, oo 39 (cv Xg [(.t 38)]), oo 40 (.bin .quo (.t 37) (.t 39)), om 2 40] (some [0, 1, 2, 7, 8])))))
 (oP [om 18 8, oo 19 (.bin .sub (.t 18) (ki 1)), om 8 19])))
def K0 : IR := Q7
theorem Z0w : evC C L π k0 K0 e s = evC C L π k0 Q7 e s := rfl
def Z0a : FnIR := ⟨42,
 (.sq (oP [oo 6 (.mv (.c (.sl 1 (some true) [])))])
 (.sq (.op 0 [om 10 0, oE 11 10, oo 12 (.mks t_int 1 false [.int .i64 0] (.t 11) (.t 11)), om 7 12] (some [0, 1, 2, 7]))
 (.sq (.sq (.op 0 [om 13 1, oE 14 13, oo 15 (.bin .sub (.t 14) (ki 1)), om 8 15] (some [0, 1, 2, 7, 8]))
 (.kp [7] [6] (.bk 0 (.lp [] [0, 1, 2, 7, 8] K0))))
 (.sq (oP [om 41 7, om 6 41])
 .rt)))),
 [.t 6]⟩
def Ue : IR :=
 (.sq (.sq (.op 0 [om 11 5, om 12 1, oE 13 12, oG 14 11 13] (some [0, 1, 5, 14]))
 (.cd (.t 14)
 .sk
 (.ex 0)))
 (.sq (.bk 1 (.sq (.op 8 [om 17 1, om 18 5, oD 19 17 18 1, oA 20 19 1, om 21 0, om 22 5, oD 23 21 22 1, oA 24 23 1, oo 25 (cv Z2k [(.t 20), (.t 24)]), oo 26 (.un .not (.t 25))] (some [0, 1, 5, 26]))
 (.cd (.t 26)
 (.sq (oP [oK 4])
 .rt)
 .sk)))
 (oP [om 15 5, oI 16 15 1, om 5 16])))
def F2 : IR := Ue
theorem Gn : evC C L π k0 F2 e s = evC C L π k0 Ue e s := rfl
def Z3u : FnIR := ⟨27,
 (.sq (oP [oK 4])
 (.sq (.sq (.op 0 [om 6 0, oE 7 6, om 8 1, oE 9 8, oo 10 (.bin .neq (.t 7) (.t 9))] (some [0, 1, 10]))
 (.cd (.t 10)
 (.sq (oP [oK 4])
 .rt)
 .sk))
 (.sq (.sq (oP [oB 5 0])
 (.kp [] [4] (.bk 0 (.lp [] [0, 1, 5] F2))))
 (.sq (oP [oo 4 (.mv (.c (.bool true)))])
 .rt)))),
 [.t 4]⟩
def Zw : IR :=
 (.sq (.sq (.op 0 [om 19 9, om 20 0, om 21 6, oD 22 20 21 4, oC 23 22 2, oA 24 23 1, oE 25 24, oG 26 19 25] (some [0, 1, 5, 6, 7, 8, 9, 26]))
 (.cd (.t 26)
 .sk
 (.ex 2)))
 (.sq (.bk 3 (.op 28 [om 29 7, om 30 5, om 31 0, om 32 6, oD 33 31 32 4, oC 34 33 2, oA 35 34 1, om 36 9, oD 37 35 36 1, oA 38 37 1, oD 39 30 38 1, oA 40 39 1, oo 41 (.bsl t_int 1 false [.int .i64 0] 1 [(0, (.t 40))]), oo 42 (.apx (.t 29) (.t 41) t_int 1 [0, 1, 2, 3, 4, 5, 6, 7, 8, 9, 10, 11, 12]), om 43 8, om 44 0, om 45 0, om 46 6, oD 47 45 46 4, oC 48 47 2, oA 49 48 1, om 50 9, oD 51 49 50 1, oA 52 51 1, oD 53 44 52 4, oC 54 53 1, oA 55 54 1, oo 56 (.bsl t_int 1 false [.int .i64 0] 1 [(0, (.t 55))]), oo 57 (.app (.t 43) (.t 56) t_int 1), om 7 42, om 8 57] (some [0, 1, 5, 6, 7, 8, 9])))
 (oP [om 27 9, oI 28 27 1, om 9 28])))
def Q6 : IR := Zw
theorem Z8a : evC C L π k0 Q6 e s = evC C L π k0 Zw e s := rfl
def Q8 : IR :=
 (.sq (.sq (.op 0 [om 13 6, om 14 0, oE 15 14, oG 16 13 15] (some [0, 1, 5, 6, 16]))
 (.cd (.t 16)
 .sk
 (.ex 0)))
 (.sq (.bk 1 (.sq (oP [oo 7 (.mv (.c (.sl 1 (some true) []))), oo 8 (.mv (.c (.sl 1 (some true) [])))])
 (.sq (.sq (oP [oB 9 0])
 (.kp [0, 1, 5, 6, 7, 8] [4] (.bk 2 (.lp [(t_int, .inl 8), (t_int, .inl 7)] [0, 1, 5, 6, 7, 8, 9] Q6))))
 (.op 0 [om 58 5, om 59 6, om 60 0, om 61 6, oD 62 60 61 4, oJ 63 62 4, om 64 7, om 65 8, om 66 1, oo 67 (cv Zs [(.t 63), (.t 64), (.t 65), (.t 66)]), oD 68 58 59 1, ou (.st (.t 68) (.t 67) 1)] (some [0, 1, 5, 6])))))
 (oP [om 17 6, oI 18 17 1, om 6 18])))
def K4 : IR := Q8
theorem Z0x : evC C L π k0 K4 e s = evC C L π k0 Q8 e s := rfl
def Z0c : FnIR := ⟨70,
 (.sq (oP [oo 4 (.mv (.c (.sl 1 (some true) [])))])
 (.sq (.op 0 [om 10 0, oE 11 10, oo 12 (.mks t_int 1 false [.int .i64 0] (.t 11) (.t 11)), om 5 12] (some [0, 1, 5]))
 (.sq (.sq (oP [oB 6 0])
 (.kp [5] [4] (.bk 0 (.lp [] [0, 1, 5, 6] K4))))
 (.sq (oP [om 69 5, om 4 69])
 .rt)))),
 [.t 4]⟩
def Uf : IR :=
 (.sq (.sq (.op 0 [om 27 12, om 28 11, oE 29 28, oG 30 27 29] (some [9, 10, 11, 12, 30]))
 (.cd (.t 30)
 .sk
 (.ex 0)))
 (.sq (.bk 1 (.sq (.op 0 [om 33 9, om 34 11, om 35 12, oD 36 34 35 3, oC 37 36 1, oA 38 37 1, oD 39 33 38 1, oA 40 39 1, oo 41 (.bin .eql (.t 40) (ki 1))] (some [9, 10, 11, 12, 41]))
 (.cd (.t 41)
 (.op 14 [om 42 10, om 43 11, om 44 12, oD 45 43 44 3, oC 46 45 0, oA 47 46 1, om 48 9, om 49 11, om 50 12, oD 51 49 50 3, oC 52 51 2, oA 53 52 1, oD 54 48 53 1, oA 55 54 1, oD 56 42 47 1, ou (.st (.t 56) (.t 55) 1)] (some [9, 10, 11, 12]))
 .sk)))
 (oP [om 31 12, oI 32 31 1, om 12 32])))
def F3 : IR := Uf
theorem Gp : evC C L π k0 F3 e s = evC C L π k0 Uf e s := rfl
def Z3v : FnIR := ⟨58,
 (.sq (oP [oM 4 0 7, oo 8 (.mv (.c (.sl 1 (some true) [])))])
 (.sq (.fz [2, 3] (.op 5 [oC 13 4 3, oA 14 13 1, om 15 2, om 16 3, oo 17 (cw Lj [(.t 15), (.t 16)]), oo 18 (cw Qn [(.t 14), (.t 17)]), om 9 18] (some [1, 3, 4, 9])))
 (.sq (oP [om 19 3, oo 20 (cw V1 [(.t 19)]), om 10 20])
 (.sq (.op 0 [oC 21 4 4, oA 22 21 1, om 23 1, oD 24 22 23 3, oC 25 24 2, oA 26 25 1, om 11 26] (some [9, 10, 11]))
 (.sq (.sq (oP [oB 12 0])
 (.kp [10] [8] (.bk 0 (.lp [] [9, 10, 11, 12] F3))))
 (.sq (oP [om 57 10, om 8 57])
 .rt)))))),
 [.t 8]⟩
def Z9k : FnIR := ⟨35,
 (.sq (oP [oM 3 0 10, oK 6])
 (.sq (.op 25 [oJ 7 3 10, oC 8 3 9, oA 9 8 1, om 10 1, oD 11 9 10 1, oA 12 11 1, oC 13 3 8, oA 14 13 1, om 15 2, oD 16 14 15 1, oA 17 16 1, oo 18 (cv Z1o [(.t 7), (.t 12), (.t 17), (ki 0)]), oo 19 (.un .not (.t 18)), om 20 19, og 21 20 true (.ld (.t 3) 10 true), og 22 20 true (.fa (.t 3) 8), og 23 20 true (.ld (.t 22) 1 false), oF 24 20 1, og 25 20 true (.ia (.t 23) (.t 24) 1), og 26 20 true (.ld (.t 25) 1 false), og 27 20 true (.fa (.t 3) 9), og 28 20 true (.ld (.t 27) 1 false), oF 29 20 2, og 30 20 true (.ia (.t 28) (.t 29) 1), og 31 20 true (.ld (.t 30) 1 false), og 32 20 true (cv Z1o [(.t 21), (.t 26), (.t 31), (ki 1)]), og 33 20 true (.un .not (.t 32)), oH 34 20 33, om 6 34] (some [6]))
 .rt)),
 [.t 6]⟩
def Zel : FnIR := ⟨49,
 (.sq (.op 0 [oM 3 0 7, oo 6 (.alloc [.str ⟨#[]⟩, .sl 2 (some true) [], .sl 5 (some true) [], .sl 4 (some true) [], .sl 3 (some true) [], .sl 2 (some true) [], .sl 2 (some true) [], .sl 1 (some true) []]), oo 7 (.mv (.c (.sl 1 (some true) []))), oB 8 0] (some [1, 2, 3, 6]))
 (.sq (.op 0 [oJ 14 3 7, om 15 1, om 16 2, oo 17 (cv Mz [(.t 14), (.t 15), (.t 16)]), om 13 17, oL 18 13 0, oL 19 13 1, oo 9 (.alloc [.str ⟨#[]⟩, .sl 2 (some true) [], .sl 5 (some true) [], .sl 4 (some true) [], .sl 3 (some true) [], .sl 2 (some true) [], .sl 2 (some true) [], .sl 1 (some true) []]), ou (.st (.t 9) (.t 18) 8), om 10 19] (some [1, 2, 3, 6, 9, 10]))
 (.sq (.sq (oP [om 20 10, oo 21 (.bin .neq (.t 20) (ki 0))])
 (.cd (.t 21)
 (.sq (.op 0 [oJ 22 9 8, om 23 10, ou (.st (.t 6) (.t 22) 8), oo 7 (.mv (.c (.sl 1 (some true) []))), om 8 23] (some [6, 7, 8]))
 .rt)
 .sk))
 (.sq (.op 19 [oJ 25 9 8, oC 26 3 4, oA 27 26 1, om 28 1, oD 29 27 28 3, oC 30 29 1, oA 31 30 1, oC 32 3 4, oA 33 32 1, om 34 2, oD 35 33 34 3, oC 36 35 1, oA 37 36 1, oo 38 (.bsp t_int 1 false [.int .i64 0] 2 [(0, (.t 31)), (1, (.t 37))]), oo 39 (cw Z52 [(.t 25), (.t 38)]), om 24 39, oL 40 24 0, oL 41 24 1, om 11 40, om 12 41] (some [6, 9, 12]))
 (.sq (.op 7 [oJ 42 9 8, om 43 12, oJ 44 9 8, om 45 12, oo 46 (cv L3 [(.t 44), (.t 45)]), oo 47 (.bin .leq (.t 46) (ki 12)), oo 48 (cv Xz [(.t 47), (ki 8)]), ou (.st (.t 6) (.t 42) 8), om 7 43, om 8 48] (some [6, 7, 8]))
 .rt))))),
 [.c 6 8 true, .t 7, .t 8]⟩
def Gw : FnIR := ⟨9,
 (.sq (oP [oK 4])
 (.sq (.op 0 [om 5 0, om 6 1, oo 7 (cv U0 [(.t 5), (.t 6)]), oo 8 (.bin .geq (.t 7) (ki 0)), om 4 8] (some [4]))
 .rt)),
 [.t 4]⟩
def Z9j : FnIR := ⟨12,
 (.sq (oP [oK 4])
 (.sq (.op 0 [oC 5 1 9, oA 6 5 1, oA 7 2 1, oD 8 6 7 1, oA 9 8 1, om 10 0, oo 11 (cv Y8 [(.t 9), (.t 10)]), om 4 11] (some [4]))
 .rt)),
 [.t 4]⟩
def P4 : FnIR := ⟨9,
 (.sq (oP [oK 4])
 (.sq (.op 0 [om 5 0, om 6 1, oo 7 (cv Uu [(.t 5), (.t 6)]), oo 8 (.bin .geq (.t 7) (ki 0)), om 4 8] (some [4]))
 .rt)),
 [.t 4]⟩
def Zj : IR :=
 (.sq (oP [oo 31 (.bin .lss (.t 30) (ki 11))])
 (.sq (.cd (.t 31)
 .sk
 (.ex 0))
 (.sq (.bk 1 (.sq (oP [oo 32 (.xag (.t 29) (.t 30) 11), om 10 32])
 (.sq (.op 0 [om 34 10, oo 35 (.callS (.t 34) []), om 33 35, oL 36 33 0, oL 37 33 1, om 11 36, om 12 37] (some [11, 12, 29, 30]))
 (.sq (oP [om 38 12, oo 39 (.bin .neq (.t 38) (ki 0))])
 (.cd (.t 39)
 (.sq (.op 0 [om 40 11, om 41 12, om 2 40, om 3 41] (some [2, 3]))
 .rt)
 .sk)))))
 (oP [oI 42 30 1, om 30 42]))))
def Z7z : IR := Zj
theorem Zm : evC C L π k0 Z7z e s = evC C L π k0 Zj e s := rfl
def Zii : FnIR := ⟨43,
 (.sq (oP [oM 1 0 7, oB 2 0, oB 3 0])
 (.sq (oP [oo 13 (.mkp), oo 4 (.alt 1), ou (.st (.t 4) (.t 13) 1)])
 (.sq (.op 0 [oo 14 (.mkp), oo 15 (.mkp), oo 16 (.mkp), oo 5 (.alt 1), oo 6 (.alt 1), oo 7 (.alt 1), ou (.st (.t 5) (.t 14) 1), ou (.st (.t 6) (.t 15) 1), ou (.st (.t 7) (.t 16) 1)] (some [1, 4, 5, 6, 7]))
 (.sq (.op 0 [oo 17 (.mkf Z2t [(.t 1)]), oo 18 (.mkf Z2s [(.t 1), (.t 4), (.t 5)]), oo 19 (.mkf Z2r [(.t 1)]), oo 20 (.mkf Z2q [(.t 1), (.t 4)]), oo 21 (.mkf Z2p [(.t 1)]), oo 22 (.mkf Z2o [(.t 1)]), oo 23 (.mkf Z2n [(.t 1), (.t 6)]), oo 24 (.mkf Z2m [(.t 1)]), oo 25 (.mkf Z2l [(.t 1), (.t 7)]), oo 26 (.mkf Fz [(.t 1)]), oo 27 (.mkf Fy [(.t 1)]), oo 28 (.build [.nilf, .nilf, .nilf, .nilf, .nilf, .nilf, .nilf, .nilf, .nilf, .nilf, .nilf] [(0, 1, (.t 17)), (1, 1, (.t 18)), (2, 1, (.t 19)), (3, 1, (.t 20)), (4, 1, (.t 21)), (5, 1, (.t 22)), (6, 1, (.t 23)), (7, 1, (.t 24)), (8, 1, (.t 25)), (9, 1, (.t 26)), (10, 1, (.t 27))]), oo 8 (.alloc [.nilf, .nilf, .nilf, .nilf, .nilf, .nilf, .nilf, .nilf, .nilf, .nilf, .nilf]), ou (.st (.t 8) (.t 28) 11)] (some [8]))
 (.sq (.sq (oP [oJ 29 8 11, oB 30 0])
 (.kp [] [2, 3] (.bk 0 (.lp [] [29, 30] Z7z))))
 (.sq (oP [oB 2 0, oB 3 0])
 .rt)))))),
 [.t 2, .t 3]⟩
def Z84 : FnIR := ⟨9,
 (.sq (oP [oB 5 0])
 (.sq (.op 0 [oJ 6 2 8, om 7 1, oo 8 (cv Qx [(.t 6), (.t 7)]), om 5 8] (some [5]))
 .rt)),
 [.t 5]⟩
def Z0l : FnIR := ⟨13,
 (.sq (oP [oM 2 0 8, oB 4 0])
 (.sq (.op 0 [om 5 1, oC 6 2 0, oC 7 6 4, oA 8 7 1, oE 9 8, oo 10 (.bin .sub (.t 9) (ki 1)), oo 11 (cv Ha [(.t 5), (ki 0), (.t 10)]), oo 12 (cv Xz [(.t 11), (ki 6)]), om 4 12] (some [4]))
 .rt)),
 [.t 4]⟩
def Nm : IR :=
 (.sq (.sq (.op 0 [om 14 3, om 15 0, oo 16 (.len true (.t 15)), oG 17 14 16] (some [0, 3, 17]))
 (.cd (.t 17)
 .sk
 (.ex 0)))
 (.sq (.bk 1 (.sq (.op 0 [om 20 0, om 21 3, oo 22 (.idx (.t 20) (.t 21)), om 4 22] (some [0, 3, 4]))
 (.sq (.op 0 [om 23 4, oo 24 (.bin .geq (.t 23) (.c (.int .u8 97))), om 25 24, oF 26 25 4, og 27 25 true (.bin .leq (.t 26) (.c (.int .u8 122))), oH 28 25 27, om 29 28, oN 30 29 4, og 31 29 false (.bin .geq (.t 30) (.c (.int .u8 65))), oN 32 29 31, oF 33 32 4, og 34 32 true (.bin .leq (.t 33) (.c (.int .u8 90))), og 35 29 false (.pick (.t 32) (.t 34) (.c (.bool false))), oo 36 (.pick (.t 29) (.c (.bool true)) (.t 35)), om 5 36] (some [0, 3, 4, 5]))
 (.sq (.op 0 [om 37 5, oo 38 (.un .not (.t 37)), om 39 38, oF 40 39 3, og 41 39 true (.bin .eql (.t 40) (ki 0)), oF 42 39 41, oN 43 42 4, og 44 42 false (.bin .neq (.t 43) (.c (.int .u8 95))), oN 45 42 44, oF 46 45 4, og 47 45 true (.bin .lss (.t 46) (.c (.int .u8 48))), oF 48 45 47, oN 49 48 4, og 50 48 false (.bin .gtr (.t 49) (.c (.int .u8 57))), og 51 45 true (.pick (.t 48) (.c (.bool true)) (.t 50)), og 52 42 false (.pick (.t 45) (.t 51) (.c (.bool false))), og 53 39 true (.pick (.t 42) (.c (.bool true)) (.t 52)), oH 54 39 53] (some [0, 3, 54]))
 (.cd (.t 54)
 (.sq (oP [oK 2])
 .rt)
 .sk)))))
 (oP [om 18 3, oI 19 18 1, om 3 19])))
def Z22 : IR := Nm
theorem Z1l : evC C L π k0 Z22 e s = evC C L π k0 Nm e s := rfl
def Z0e : FnIR := ⟨55,
 (.sq (oP [oK 2])
 (.sq (.sq (.op 0 [om 6 0, oo 7 (.len true (.t 6)), oo 8 (.bin .lss (.t 7) (ki 1)), om 9 8, oN 10 9 0, og 11 9 false (.len true (.t 10)), og 12 9 false (.bin .gtr (.t 11) (ki 16)), oo 13 (.pick (.t 9) (.c (.bool true)) (.t 12))] (some [0, 13]))
 (.cd (.t 13)
 (.sq (oP [oK 2])
 .rt)
 .sk))
 (.sq (.sq (oP [oB 3 0])
 (.kp [] [2] (.bk 0 (.lp [] [0, 3] Z22))))
 (.sq (oP [oo 2 (.mv (.c (.bool true)))])
 .rt)))),
 [.t 2]⟩
def Uc : IR :=
 (.sq (.sq (oP [om 23 5, om 24 4, oG 25 23 24])
 (.cd (.t 25)
 .sk
 (.ex 2)))
 (.sq (.bk 3 (.sq (.op 10 [om 28 0, om 29 5, oD 30 28 29 2, oC 31 30 0, oA 32 31 1, om 33 0, om 34 4, oD 35 33 34 2, oC 36 35 0, oA 37 36 1, oo 38 (.bin .eql (.t 32) (.t 37))] (some [0, 4, 5, 38]))
 (.cd (.t 38)
 (.sq (oP [om 39 4, om 2 39, oB 3 5])
 .rt)
 .sk)))
 (oP [om 26 5, oI 27 26 1, om 5 27])))
def Gy : IR := Uc
theorem Gl : evC C L π k0 Gy e s = evC C L π k0 Uc e s := rfl
def W3 : IR :=
 (.sq (.sq (.op 0 [om 9 4, om 10 0, oE 11 10, oG 12 9 11] (some [0, 4, 12]))
 (.cd (.t 12)
 .sk
 (.ex 0)))
 (.sq (.bk 1 (.sq (.sq (.op 0 [om 15 0, om 16 4, oD 17 15 16 2, oC 18 17 0, oA 19 18 1, oo 20 (cv Qq [(.t 19)]), oo 21 (.un .not (.t 20))] (some [0, 4, 21]))
 (.cd (.t 21)
 (.sq (oP [om 22 4, om 2 22, oB 3 4])
 .rt)
 .sk))
 (.sq (.sq (oP [oB 5 0])
 (.kp [0, 4] [2, 3] (.bk 2 (.lp [] [0, 4, 5] Gy))))
 (.sq (.op 0 [om 40 0, om 41 4, oD 42 40 41 2, oC 43 42 1, oA 44 43 1, oo 45 (cv Mk [(.t 44)]), oo 46 (.un .not (.t 45))] (some [0, 4, 46]))
 (.cd (.t 46)
 (.sq (oP [om 47 4, om 2 47, oB 3 2])
 .rt)
 .sk)))))
 (oP [om 13 4, oI 14 13 1, om 4 14])))
def Gz : IR := W3
theorem Vz : evC C L π k0 Gz e s = evC C L π k0 W3 e s := rfl
def K1 : FnIR := ⟨48,
 (.sq (oP [oB 2 0, oB 3 0])
 (.sq (.sq (oP [om 6 0, oE 7 6, oo 8 (.bin .gtr (.t 7) (ki 12))])
 (.cd (.t 8)
 (.sq (oP [oB 2 0, oB 3 8])
 .rt)
 .sk))
 (.sq (.sq (oP [oB 4 0])
 (.kp [] [2, 3] (.bk 0 (.lp [] [0, 4] Gz))))
 (.sq (oP [oB 2 0, oB 3 0])
 .rt)))),
 [.t 2, .t 3]⟩
def Wn : IR :=
 (.sq (.sq (oP [om 29 7, om 30 6, oG 31 29 30])
 (.cd (.t 31)
 .sk
 (.ex 2)))
 (.sq (.bk 3 (.sq (.op 10 [om 34 1, om 35 7, oD 36 34 35 5, oC 37 36 0, oA 38 37 1, om 39 1, om 40 6, oD 41 39 40 5, oC 42 41 0, oA 43 42 1, oo 44 (.bin .eql (.t 38) (.t 43))] (some [0, 1, 6, 7, 44]))
 (.cd (.t 44)
 (.sq (oP [om 45 6, om 4 45, oB 5 5])
 .rt)
 .sk)))
 (oP [om 32 7, oI 33 32 1, om 7 33])))
def Ma : IR := Wn
theorem Ny : evC C L π k0 Ma e s = evC C L π k0 Wn e s := rfl
def Wm : IR :=
 (.sq (.sq (.op 0 [om 46 8, om 47 0, oE 48 47, oG 49 46 48] (some [0, 1, 6, 8, 49]))
 (.cd (.t 49)
 .sk
 (.ex 4)))
 (.sq (.bk 5 (.sq (.op 10 [om 52 0, om 53 8, oD 54 52 53 2, oC 55 54 0, oA 56 55 1, om 57 1, om 58 6, oD 59 57 58 5, oC 60 59 0, oA 61 60 1, oo 62 (.bin .eql (.t 56) (.t 61))] (some [0, 1, 6, 8, 62]))
 (.cd (.t 62)
 (.sq (oP [om 63 6, om 4 63, oB 5 5])
 .rt)
 .sk)))
 (oP [om 50 8, oI 51 50 1, om 8 51])))
def M9 : IR := Wm
theorem Nx : evC C L π k0 M9 e s = evC C L π k0 Wm e s := rfl
def Zn : IR :=
 (.sq (.sq (.op 0 [om 15 6, om 16 1, oE 17 16, oG 18 15 17] (some [0, 1, 6, 18]))
 (.cd (.t 18)
 .sk
 (.ex 0)))
 (.sq (.bk 1 (.sq (.sq (.op 0 [om 21 1, om 22 6, oD 23 21 22 5, oC 24 23 0, oA 25 24 1, oo 26 (cv Qq [(.t 25)]), oo 27 (.un .not (.t 26))] (some [0, 1, 6, 27]))
 (.cd (.t 27)
 (.sq (oP [om 28 6, om 4 28, oB 5 4])
 .rt)
 .sk))
 (.sq (.sq (oP [oB 7 0])
 (.kp [0, 1, 6] [4, 5] (.bk 2 (.lp [] [0, 1, 6, 7] Ma))))
 (.sq (.sq (oP [oB 8 0])
 (.kp [0, 1, 6] [4, 5] (.bk 4 (.lp [] [0, 1, 6, 8] M9))))
 (.sq (.sq (.op 0 [om 64 1, om 65 6, oD 66 64 65 5, oC 67 66 1, oA 68 67 1, oo 69 (cv Ye [(.t 68), (ki 0), (ki 1)]), oo 70 (.un .not (.t 69))] (some [0, 1, 6, 70]))
 (.cd (.t 70)
 (.sq (oP [om 71 6, om 4 71, oB 5 15])
 .rt)
 .sk))
 (.sq (.op 24 [om 72 1, om 73 6, oD 74 72 73 5, oC 75 74 2, oA 76 75 1, oo 77 (cv Mk [(.t 76)]), oo 78 (.un .not (.t 77)), om 79 78, oN 80 79 1, oN 81 79 6, og 82 79 false (.ia (.t 80) (.t 81) 5), og 83 79 false (.fa (.t 82) 3), og 84 79 false (.ld (.t 83) 1 false), oN 85 79 1, oN 86 79 6, og 87 79 false (.ia (.t 85) (.t 86) 5), og 88 79 false (.fa (.t 87) 2), og 89 79 false (.ld (.t 88) 1 false), og 90 79 false (cv Z2k [(.t 84), (.t 89)]), og 91 79 false (.un .not (.t 90)), oo 92 (.pick (.t 79) (.c (.bool true)) (.t 91)), om 93 92, oN 94 93 1, oN 95 93 6, og 96 93 false (.ia (.t 94) (.t 95) 5), og 97 93 false (.fa (.t 96) 4), og 98 93 false (.ld (.t 97) 1 false), og 99 93 false (cv Ye [(.t 98), (ki 0), (ki 3)]), og 100 93 false (.un .not (.t 99)), oo 101 (.pick (.t 93) (.c (.bool true)) (.t 100))] (some [0, 1, 6, 101]))
 (.cd (.t 101)
 (.sq (oP [om 102 6, om 4 102, oB 5 2])
 .rt)
 .sk)))))))
 (oP [om 19 6, oI 20 19 1, om 6 20])))
def Mb : IR := Zn
theorem Zx : evC C L π k0 Mb e s = evC C L π k0 Zn e s := rfl
def Ub : FnIR := ⟨103,
 (.sq (oP [oB 4 0, oB 5 0])
 (.sq (.sq (.op 0 [om 9 0, oE 10 9, om 11 1, oE 12 11, oo 13 (.bin .add (.t 10) (.t 12)), oo 14 (.bin .gtr (.t 13) (ki 40))] (some [0, 1, 14]))
 (.cd (.t 14)
 (.sq (oP [oB 4 0, oB 5 8])
 .rt)
 .sk))
 (.sq (.sq (oP [oB 6 0])
 (.kp [] [4, 5] (.bk 0 (.lp [] [0, 1, 6] Mb))))
 (.sq (oP [oB 4 0, oB 5 0])
 .rt)))),
 [.t 4, .t 5]⟩
def Ud : IR :=
 (.sq (.sq (.op 0 [om 11 6, om 12 1, oE 13 12, oG 14 11 13] (some [0, 1, 6, 14]))
 (.cd (.t 14)
 .sk
 (.ex 0)))
 (.sq (.bk 1 (.sq (.op 0 [om 17 0, om 18 1, om 19 6, oo 20 (cv Gb [(.t 17), (.t 18), (.t 19)]), om 7 20] (some [0, 1, 6, 7]))
 (.sq (oP [om 21 7, oo 22 (.bin .neq (.t 21) (ki 0))])
 (.cd (.t 22)
 (.sq (.op 0 [om 23 6, om 24 7, om 4 23, om 5 24] (some [4, 5]))
 .rt)
 .sk))))
 (oP [om 15 6, oI 16 15 1, om 6 16])))
def F0 : IR := Ud
theorem Gm : evC C L π k0 F0 e s = evC C L π k0 Ud e s := rfl
def Fl : FnIR := ⟨25,
 (.sq (oP [oB 4 0, oB 5 0])
 (.sq (.sq (oP [om 8 1, oE 9 8, oo 10 (.bin .gtr (.t 9) (ki 400))])
 (.cd (.t 10)
 (.sq (oP [oB 4 0, oB 5 8])
 .rt)
 .sk))
 (.sq (.sq (oP [oB 6 0])
 (.kp [] [4, 5] (.bk 0 (.lp [] [0, 1, 6] F0))))
 (.sq (oP [oB 4 0, oB 5 0])
 .rt)))),
 [.t 4, .t 5]⟩
def Ns : FnIR := ⟨16,
 (.sq (oP [oK 4])
 (.sq (.op 0 [om 5 0, om 6 1, oo 7 (cv H7 [(.t 5), (.t 6)]), om 8 7, oF 9 8 0, oF 10 8 1, og 11 8 true (.ia (.t 9) (.t 10) 4), og 12 8 true (.fa (.t 11) 1), og 13 8 true (.ld (.t 12) 1 false), og 14 8 true (.bin .eql (.t 13) (ki 1)), oH 15 8 14, om 4 15] (some [4]))
 .rt)),
 [.t 4]⟩
def Ys : IR :=
 (.sq (.sq (.op 0 [om 11 7, om 12 2, oE 13 12, oG 14 11 13] (some [0, 1, 2, 7, 14]))
 (.cd (.t 14)
 .sk
 (.ex 0)))
 (.sq (.bk 1 (.sq (.sq (.op 0 [om 17 2, om 18 7, oD 19 17 18 3, oC 20 19 0, oA 21 20 1, om 22 0, oE 23 22, oo 24 (.bin .sub (.t 23) (ki 1)), oo 25 (cv Ye [(.t 21), (ki 0), (.t 24)]), oo 26 (.un .not (.t 25))] (some [0, 1, 2, 7, 26]))
 (.cd (.t 26)
 (.sq (oP [oB 6 6])
 .rt)
 .sk))
 (.sq (.sq (.op 0 [om 27 1, om 28 2, om 29 7, oD 30 28 29 3, oC 31 30 1, oA 32 31 1, oo 33 (cv U4 [(.t 27), (.t 32)]), oo 34 (.un .not (.t 33)), om 35 34, oN 36 35 1, oN 37 35 2, oN 38 35 7, og 39 35 false (.ia (.t 37) (.t 38) 3), og 40 35 false (.fa (.t 39) 2), og 41 35 false (.ld (.t 40) 1 false), og 42 35 false (cv H7 [(.t 36), (.t 41)]), og 43 35 false (.un .not (.t 42)), oo 44 (.pick (.t 35) (.c (.bool true)) (.t 43))] (some [0, 1, 2, 7, 44]))
 (.cd (.t 44)
 (.sq (oP [oB 6 9])
 .rt)
 .sk))
 (.sq (.op 18 [om 45 1, om 46 2, om 47 7, oD 48 46 47 3, oC 49 48 2, oA 50 49 1, oD 51 45 50 4, oC 52 51 1, oA 53 52 1, om 54 0, om 55 2, om 56 7, oD 57 55 56 3, oC 58 57 0, oA 59 58 1, oD 60 54 59 5, oC 61 60 2, oA 62 61 1, oo 63 (.bin .neq (.t 53) (.t 62))] (some [0, 1, 2, 7, 63]))
 (.cd (.t 63)
 (.sq (oP [oB 6 25])
 .rt)
 .sk)))))
 (oP [om 15 7, oI 16 15 1, om 7 16])))
def Hj : IR := Ys
theorem Wc : evC C L π k0 Hj e s = evC C L π k0 Ys e s := rfl
def Nj : FnIR := ⟨64,
 (.sq (oP [oB 6 0])
 (.sq (.sq (oP [om 8 2, oE 9 8, oo 10 (.bin .gtr (.t 9) (ki 16))])
 (.cd (.t 10)
 (.sq (oP [oB 6 8])
 .rt)
 .sk))
 (.sq (.sq (oP [oB 7 0])
 (.kp [] [6] (.bk 0 (.lp [] [0, 1, 2, 7] Hj))))
 (.sq (oP [oB 6 0])
 .rt)))),
 [.t 6]⟩
def V7 : IR :=
 (.sq (.sq (oP [om 25 7, om 26 6, oG 27 25 26])
 (.cd (.t 27)
 .sk
 (.ex 2)))
 (.sq (.bk 3 (.sq (.op 10 [om 30 1, om 31 7, oD 32 30 31 2, oC 33 32 0, oA 34 33 1, om 35 1, om 36 6, oD 37 35 36 2, oC 38 37 0, oA 39 38 1, oo 40 (.bin .eql (.t 34) (.t 39))] (some [0, 1, 6, 7, 40]))
 (.cd (.t 40)
 (.sq (oP [om 41 6, om 4 41, oB 5 5])
 .rt)
 .sk)))
 (oP [om 28 7, oI 29 28 1, om 7 29])))
def K2 : IR := V7
theorem L9 : evC C L π k0 K2 e s = evC C L π k0 V7 e s := rfl
def X4 : IR :=
 (.sq (.sq (.op 0 [om 11 6, om 12 1, oE 13 12, oG 14 11 13] (some [0, 1, 6, 14]))
 (.cd (.t 14)
 .sk
 (.ex 0)))
 (.sq (.bk 1 (.sq (.sq (.op 0 [om 17 1, om 18 6, oD 19 17 18 2, oC 20 19 0, oA 21 20 1, oo 22 (cv Qq [(.t 21)]), oo 23 (.un .not (.t 22))] (some [0, 1, 6, 23]))
 (.cd (.t 23)
 (.sq (oP [om 24 6, om 4 24, oB 5 4])
 .rt)
 .sk))
 (.sq (.sq (oP [oB 7 0])
 (.kp [0, 1, 6] [4, 5] (.bk 2 (.lp [] [0, 1, 6, 7] K2))))
 (.sq (.op 0 [om 42 0, om 43 1, om 44 6, oD 45 43 44 2, oC 46 45 1, oA 47 46 1, oo 48 (cv H7 [(.t 42), (.t 47)]), oo 49 (.un .not (.t 48))] (some [0, 1, 6, 49]))
 (.cd (.t 49)
 (.sq (oP [om 50 6, om 4 50, oB 5 9])
 .rt)
 .sk)))))
 (oP [om 15 6, oI 16 15 1, om 6 16])))
def K3 : IR := X4
theorem Wz : evC C L π k0 K3 e s = evC C L π k0 X4 e s := rfl
def P7 : FnIR := ⟨51,
 (.sq (oP [oB 4 0, oB 5 0])
 (.sq (.sq (oP [om 8 1, oE 9 8, oo 10 (.bin .gtr (.t 9) (ki 12))])
 (.cd (.t 10)
 (.sq (oP [oB 4 0, oB 5 8])
 .rt)
 .sk))
 (.sq (.sq (oP [oB 6 0])
 (.kp [] [4, 5] (.bk 0 (.lp [] [0, 1, 6] K3))))
 (.sq (oP [oB 4 0, oB 5 0])
 .rt)))),
 [.t 4, .t 5]⟩
def Zc0 : FnIR := ⟨19,
 (.sq (oP [oB 6 0])
 (.sq (.op 7 [oJ 7 2 8, om 8 1, oo 9 (cv Qx [(.t 7), (.t 8)]), oA 10 3 1, om 11 0, oo 12 (.slc false (.t 10) none (some (.t 11)) 1), om 13 1, oo 14 (cv Y8 [(.t 12), (.t 13)]), oo 15 (.un .not (.t 14)), oo 16 (cv Xz [(.t 15), (ki 23)]), oo 17 (.bsp Zy 1 false [.int .i64 0] 2 [(0, (.t 9)), (1, (.t 16))]), oo 18 (cv Pg [(.t 17)]), om 6 18] (some [6]))
 .rt)),
 [.t 6]⟩
def Zbw : FnIR := ⟨5,
 (.sq (oP [oo 2 (.mv (.c (.sl 1 (some true) [])))])
 (.sq (oP [om 3 0, oo 4 (.callS (.c (.fn Kx [])) [(.c (.sl 1 (some true) [])), (.t 3)]), om 2 4])
 .rt)),
 [.t 2]⟩
def Z30 : IR :=
 (.sq (oP [oG 8 7 6])
 (.sq (.cd (.t 8)
 .sk
 (.ex 0))
 (.sq (.bk 1 (.sq (oP [oD 9 5 7 1, oA 10 9 1, om 4 10])
 (.sq (.op 0 [om 11 0, om 12 4, oo 13 (.callS (.t 11) [(.t 12)]), oo 14 (.un .not (.t 13))] (some [0, 5, 6, 7, 14]))
 (.cd (.t 14)
 .rt
 .sk))))
 (oP [oI 15 7 1, om 7 15]))))
def Z2z : IR := Z30
def Z5k : FnIR := ⟨16,
 (.sq (oP [oA 5 1 1, oE 6 5, oB 7 0])
 (.kp [] [] (.bk 0 (.lp [] [0, 5, 6, 7] Z2z)))),
 []⟩
def Zaw : FnIR := ⟨15,
 (.sq (oP [oK 4])
 (.sq (.op 0 [om 5 0, oA 6 1 1, oo 7 (.bin .neq (.t 5) (.t 6)), om 8 7, og 9 8 true (.ld (.t 2) 10 true), og 10 8 true (.ld (.t 1) 1 false), oF 11 8 0, og 12 8 true (cv Xv [(.t 9), (.t 10), (.t 11)]), og 13 8 true (.un .not (.t 12)), oH 14 8 13, om 4 14] (some [4]))
 .rt)),
 [.t 4]⟩
def Q5 : FnIR := ⟨8,
 (.sq (oP [oo 2 (.mv (.c (.sl 1 (some true) [])))])
 (.sq (.sq (oP [om 3 0, oo 4 (.isnil true false (.t 3))])
 (.cd (.t 4)
 (.sq (oP [oo 2 (.mv (.c (.sl 1 (some true) [])))])
 .rt)
 .sk))
 (.sq (.op 0 [oo 5 (.bsl t_int 1 false [.int .i64 0] 0 []), om 6 0, oo 7 (.app (.t 5) (.t 6) t_int 1), om 2 7] (some [2]))
 .rt))),
 [.t 2]⟩
def Zer : IR :=
 (.sq (oP [oG 21 20 19])
 (.sq (.cd (.t 21)
 .sk
 (.ex 0))
 (.sq (.bk 1 (.sq (oP [oD 22 18 20 1, oA 23 22 1, om 7 23])
 (.sq (.op 0 [om 24 7, oC 25 2 0, oC 26 25 1, oA 27 26 1, oE 28 27, oo 29 (.bin .geq (.t 24) (.t 28))] (some [2, 4, 5, 7, 18, 19, 20, 29]))
 (.cd (.t 29)
 (.op 0 [om 30 4, om 31 7, oC 32 2 0, oC 33 32 1, oA 34 33 1, oE 35 34, oo 36 (.bin .sub (.t 31) (.t 35)), oo 37 (.bsl t_int 1 false [.int .i64 0] 1 [(0, (.t 36))]), oo 38 (.app (.t 30) (.t 37) t_int 1), om 4 38] (some [2, 4, 5, 18, 19, 20]))
 .sk))))
 (oP [oI 39 20 1, om 20 39]))))
def Zen : IR := Zer
def c_cf_nw_used : FnIR := ⟨42,
 (.sq (oP [oM 2 0 8, oo 4 (.mv (.c (.sl 1 (some true) []))), oo 5 (.mv (.c (.sl 1 (some true) [])))])
 (.sq (.op 0 [oC 9 2 7, oA 10 9 1, oC 11 2 0, oC 12 11 3, oA 13 12 1, om 14 1, oo 15 (cw Z8n [(.t 10), (.t 13), (.t 14)]), om 8 15, oL 16 8 0, oL 17 8 1, om 5 16] (some [2, 4, 5]))
 (.sq (.sq (oP [om 18 5, oE 19 18, oB 20 0])
 (.kp [4, 5] [4, 5] (.bk 0 (.lp [(t_int, .inl 4)] [2, 4, 5, 18, 19, 20] Zen))))
 (.sq (.op 0 [om 40 4, om 41 5, om 4 40, om 5 41] (some [4, 5]))
 .rt)))),
 [.t 4, .t 5]⟩
def Fp : IR :=
 (.sq (.sq (.op 0 [om 12 6, om 13 1, oE 14 13, oG 15 12 14] (some [0, 1, 5, 6, 15]))
 (.cd (.t 15)
 .sk
 (.ex 0)))
 (.sq (.bk 1 (.op 0 [om 18 5, om 19 1, om 20 6, oD 21 19 20 1, oA 22 21 1, oD 23 18 22 1, ou (.st (.t 23) (.c (.bool true)) 1)] (some [0, 1, 5, 6])))
 (oP [om 16 6, oI 17 16 1, om 6 17])))
def Z3y : IR := Fp
theorem Z8b : evC C L π k0 Z3y e s = evC C L π k0 Fp e s := rfl
def Kl : IR :=
 (.sq (.sq (.op 0 [om 31 5, om 32 7, oD 33 31 32 1, oA 34 33 1, om 35 34, oF 36 35 8, oF 37 35 0, oF 38 35 7, og 39 35 true (.ia (.t 37) (.t 38) 4), og 40 35 true (.fa (.t 39) 2), og 41 35 true (.ld (.t 40) 1 false), og 42 35 true (.len false (.t 41)), og 43 35 true (.bin .lss (.t 36) (.t 42)), oH 44 35 43] (some [0, 5, 7, 8, 44]))
 (.cd (.t 44)
 .sk
 (.ex 4)))
 (.sq (.bk 5 (.op 0 [om 47 5, om 48 0, om 49 7, oD 50 48 49 4, oC 51 50 2, oA 52 51 1, om 53 8, oD 54 52 53 1, oA 55 54 1, oD 56 47 55 1, ou (.st (.t 56) (.c (.bool true)) 1)] (some [0, 5, 7, 8])))
 (oP [om 45 8, oI 46 45 1, om 8 46])))
def Fm : IR := Kl
theorem Z36 : evC C L π k0 Fm e s = evC C L π k0 Kl e s := rfl
def Km : IR :=
 (.sq (.sq (oP [om 27 7, oo 28 (.bin .geq (.t 27) (ki 0))])
 (.cd (.t 28)
 .sk
 (.ex 2)))
 (.sq (.bk 3 (.sq (oP [oB 8 0])
 (.kp [0, 5, 7] [4] (.bk 4 (.lp [] [0, 5, 7, 8] Fm)))))
 (oP [om 29 7, oo 30 (.bin .sub (.t 29) (ki 1)), om 7 30])))
def Z3x : IR := Km
theorem Z37 : evC C L π k0 Z3x e s = evC C L π k0 Km e s := rfl
def Za9 : FnIR := ⟨58,
 (.sq (oP [oo 4 (.mv (.c (.sl 1 (some true) [])))])
 (.sq (.op 0 [om 9 0, oE 10 9, oo 11 (.mks t_bool 1 false [.bool false] (.t 10) (.t 10)), om 5 11] (some [0, 1, 5]))
 (.sq (.sq (oP [oB 6 0])
 (.kp [0, 5] [4] (.bk 0 (.lp [] [0, 1, 5, 6] Z3y))))
 (.sq (.sq (.op 0 [om 24 0, oE 25 24, oo 26 (.bin .sub (.t 25) (ki 1)), om 7 26] (some [0, 5, 7]))
 (.kp [5] [4] (.bk 2 (.lp [] [0, 5, 7] Z3x))))
 (.sq (oP [om 57 5, om 4 57])
 .rt))))),
 [.t 4]⟩
def Pk : FnIR := ⟨37,
 (.sq (oP [oM 3 0 1, oo 6 (.mv (.c (.sl 1 (some true) []))), oB 7 0])
 (.sq (.sq (.fz [1] (.op 8 [oA 11 3 1, om 12 1, oo 13 (cv Ll [(.t 11), (.t 12)]), om 14 2, oE 15 14, oA 16 3 1, oE 17 16, oo 18 (.bin .eql (.t 15) (.t 17)), oo 19 (cv Yf [(.t 18), (ki 10)]), oo 20 (.bsl Zy 1 false [.int .i64 0] 2 [(0, (.t 13)), (1, (.t 19))]), oo 21 (cv Pf [(.t 20)]), om 8 21] (some [1, 2, 3, 8])))
 (.sq (oP [om 22 8, oo 23 (.bin .neq (.t 22) (ki 0))])
 (.cd (.t 23)
 (.sq (oP [om 24 8, oo 6 (.mv (.c (.sl 1 (some true) []))), om 7 24])
 .rt)
 .sk)))
 (.sq (.sq (.op 0 [om 26 2, oo 27 (.mkf Qu [(.t 3)]), oo 28 (cv Lm [(.t 26), (.t 27)]), om 25 28, oL 29 25 0, oL 30 25 1, om 9 29, om 10 30] (some [1, 2, 10]))
 (.sq (oP [om 31 10, oo 32 (.bin .neq (.t 31) (ki 0))])
 (.cd (.t 32)
 (.sq (oP [om 33 10, oo 6 (.mv (.c (.sl 1 (some true) []))), om 7 33])
 .rt)
 .sk)))
 (.sq (.op 0 [om 34 1, om 35 2, oo 36 (cw Z3c [(.t 34), (.t 35)]), om 6 36, oB 7 0] (some [6, 7]))
 .rt)))),
 [.t 6, .t 7]⟩
def Xp : IR :=
 (.sq (oP [oG 14 13 12])
 (.sq (.cd (.t 14)
 .sk
 (.ex 0))
 (.sq (.bk 1 (.sq (oP [om 15 13, om 5 15])
 (.sq (.op 8 [om 16 0, om 17 5, oD 18 16 17 1, oA 19 18 1, om 20 1, om 21 5, oD 22 20 21 1, oA 23 22 1, oo 24 (.bin .neq (.t 19) (.t 23))] (some [0, 1, 12, 13, 24]))
 (.cd (.t 24)
 (.sq (oP [oK 4])
 .rt)
 .sk))))
 (oP [oI 25 13 1, om 13 25]))))
def P3 : IR := Xp
theorem Qe : evC C L π k0 P3 e s = evC C L π k0 Xp e s := rfl
def Q4 : FnIR := ⟨26,
 (.sq (oP [oK 4])
 (.sq (.sq (.op 0 [om 6 0, oE 7 6, om 8 1, oE 9 8, oo 10 (.bin .neq (.t 7) (.t 9))] (some [0, 1, 10]))
 (.cd (.t 10)
 (.sq (oP [oK 4])
 .rt)
 .sk))
 (.sq (.sq (oP [om 11 0, oE 12 11, oB 13 0])
 (.kp [] [4] (.bk 0 (.lp [] [0, 1, 12, 13] P3))))
 (.sq (oP [oo 4 (.mv (.c (.bool true)))])
 .rt)))),
 [.t 4]⟩
def Ui : IR :=
 (.sq (oP [oG 36 35 34])
 (.sq (.cd (.t 36)
 .sk
 (.ex 0))
 (.sq (.bk 1 (.sq (.op 0 [oD 37 33 35 3, oJ 38 37 3, oo 11 (.alloc [.int .i64 0, .int .i64 0, .int .i64 0]), ou (.st (.t 11) (.t 38) 3)] (some [3, 7, 9, 11, 33, 34, 35]))
 (.sq (.op 0 [om 39 7, oC 40 11 1, oA 41 40 1, oD 42 39 41 1, oA 43 42 1, oo 44 (.bin .eql (.t 43) (ki 1))] (some [3, 7, 9, 11, 33, 34, 35, 44]))
 (.cd (.t 44)
 (.op 13 [om 45 9, oC 46 3 0, oC 47 46 1, oA 48 47 1, oE 49 48, oC 50 11 0, oA 51 50 1, oo 52 (.bin .add (.t 49) (.t 51)), om 53 7, oC 54 11 2, oA 55 54 1, oD 56 53 55 1, oA 57 56 1, oD 58 45 52 1, ou (.st (.t 58) (.t 57) 1)] (some [3, 7, 9, 33, 34, 35]))
 .sk))))
 (oP [oI 59 35 1, om 35 59]))))
def F7 : IR := Ui
theorem Gs : evC C L π k0 F7 e s = evC C L π k0 Ui e s := rfl
def Z4b : FnIR := ⟨61,
 (.sq (oP [oM 3 0 8, oo 6 (.mv (.c (.sl 1 (some true) [])))])
 (.sq (.op 0 [oC 13 3 7, oA 14 13 1, oC 15 3 0, oC 16 15 3, oA 17 16 1, om 18 2, oo 19 (cw Ln [(.t 14), (.t 17), (.t 18)]), om 12 19, oL 20 12 0, oL 21 12 1, om 7 20, om 8 21] (some [1, 2, 3, 7, 8]))
 (.sq (oP [om 22 2, oo 23 (cw Xu [(.t 22)]), om 9 23])
 (.sq (.sq (oP [om 24 8, oo 25 (.bin .neq (.t 24) (ki 0))])
 (.cd (.t 25)
 (.sq (oP [om 26 9, om 6 26])
 .rt)
 .sk))
 (.sq (.sq (.op 0 [oC 27 3 0, oC 28 27 4, oA 29 28 1, om 30 1, oD 31 29 30 3, oC 32 31 2, oA 33 32 1, oE 34 33, oB 35 0] (some [3, 7, 9, 33, 34, 35]))
 (.kp [9] [6] (.bk 0 (.lp [] [3, 7, 9, 33, 34, 35] F7))))
 (.sq (oP [om 60 9, om 6 60])
 .rt)))))),
 [.t 6]⟩
def Pw : IR :=
 (oP [om 7 22])
def Pu : IR := Pw
theorem Z6h : evC C L π k0 Pu e s = evC C L π k0 Pw e s := rfl
def Pv : IR :=
 (.bk 3 (.sq (.op 11 [oA 23 5 1, om 24 7, oA 25 4 1, oC 26 1 7, oA 27 26 1, om 28 7, oD 29 27 28 1, oA 30 29 1, oo 31 (.bin .shl (ki 1) (.t 30)), oo 32 (.bin .sub (.t 31) (ki 1)), oo 33 (.bin .and (.t 25) (.t 32)), oD 34 23 24 1, ou (.st (.t 34) (.t 33) 1)] (some [1, 4, 7]))
 (.op 6 [oA 35 4 1, oC 36 1 7, oA 37 36 1, om 38 7, oD 39 37 38 1, oA 40 39 1, oo 41 (.bin .shr (.t 35) (.t 40)), ou (.st (.t 4) (.t 41) 1)] (some []))))
def Pt : IR := Pv
theorem Z6g : evC C L π k0 Pt e s = evC C L π k0 Pv e s := rfl
def Wo : IR :=
 (.sq (oP [oG 13 12 11])
 (.sq (.cd (.t 13)
 .sk
 (.ex 0))
 (.sq (.bk 1 (.sq (oP [om 14 12, oo 4 (.alloc [.int .i64 0]), ou (.st (.t 4) (.t 14) 1)])
 (.sq (.op 0 [oC 15 1 7, oA 16 15 1, oE 17 16, oo 18 (.mks t_int 1 false [.int .i64 0] (.t 17) (.t 17)), oo 5 (.alloc [.sl 1 (some true) []]), ou (.st (.t 5) (.t 18) 1)] (some [0, 1, 2, 4, 5, 11, 12]))
 (.sq (.sq (.kp [0, 1, 2, 4, 5, 11, 12, 20] [] (oP [oA 19 2 1, oo 20 (cw Qk [(.t 19)])]))
 (.bk 2 (.kp [0, 1, 2, 5, 11, 12] [] (.rf (.t 20) 47 0 [1, 4, 5] [21, 22] Pu Pt))))
 (.sq (.op 0 [om 42 0, oA 43 5 1, oo 44 (.callS (.t 42) [(.t 43)]), oo 45 (.un .not (.t 44))] (some [0, 1, 2, 11, 12, 45]))
 (.cd (.t 45)
 .rt
 .sk))))))
 (oP [oI 46 12 1, om 12 46]))))
def Me : IR := Wo
theorem Nz : evC C L π k0 Me e s = evC C L π k0 Wo e s := rfl
def F6 : FnIR := ⟨47,
 (.sq (.op 0 [oJ 8 1 8, oA 9 2 1, oo 10 (cv L3 [(.t 8), (.t 9)]), oo 11 (.bin .shl (ki 1) (.t 10)), oB 12 0] (some [0, 1, 2, 11, 12]))
 (.kp [] [] (.bk 0 (.lp [] [0, 1, 2, 11, 12] Me)))),
 []⟩
def V4 : FnIR := ⟨4,
 (.sq (oP [oM 1 0 1, oo 2 (.mv (.c (.nilf)))])
 (.sq (oP [oo 3 (.mkf W6 [(.t 1)]), om 2 3])
 .rt)),
 [.t 2]⟩
def Ze7 : FnIR := ⟨10,
 (.sq (oP [oK 4])
 (.sq (.op 0 [om 5 0, om 6 1, oo 7 (cv Xg [(.t 6)]), oo 8 (.bin .sub (.t 7) (ki 1)), oo 9 (cv Ye [(.t 5), (ki 0), (.t 8)]), om 4 9] (some [4]))
 .rt)),
 [.t 4]⟩
def Zv : FnIR := ⟨221,
 (.sq (oP [oM 4 0 4, oB 8 0])
 (.sq (.op 0 [oC 10 4 1, oA 11 10 1, oo 12 (cv Xg [(.t 11)]), om 9 12] (some [1, 2, 3, 4, 9]))
 (.sq (.sq (oP [oC 13 4 0, oA 14 13 1])
 (.bk 0 (.sq (oP [oo 16 (.bin .eql (.t 14) (ki 0)), om 15 16])
 (.cd (.t 15)
 (.sq (oP [oC 17 4 3, oA 18 17 1, om 8 18])
 .rt)
 (.sq (oP [oo 20 (.bin .eql (.t 14) (ki 1)), om 19 20])
 (.cd (.t 19)
 (.sq (.op 0 [om 21 3, oC 22 4 3, oA 23 22 1, oD 24 21 23 1, oA 25 24 1, om 8 25] (some [8]))
 .rt)
 (.sq (oP [oo 27 (.bin .eql (.t 14) (ki 2)), om 26 27])
 (.cd (.t 26)
 (.sq (.op 0 [om 28 9, oo 29 (.bin .sub (.t 28) (ki 1)), om 30 1, oo 31 (.ia (.t 30) (ki 0) 1), oA 32 31 1, oo 33 (.bin .sub (.t 29) (.t 32)), om 8 33] (some [8]))
 .rt)
 (.sq (oP [oo 35 (.bin .eql (.t 14) (ki 3)), om 34 35])
 (.cd (.t 34)
 (.sq (.op 6 [om 36 1, oo 37 (.ia (.t 36) (ki 0) 1), oA 38 37 1, om 39 1, oo 40 (.ia (.t 39) (ki 1) 1), oA 41 40 1, oo 42 (.bin .and (.t 38) (.t 41)), om 8 42] (some [8]))
 .rt)
 (.sq (oP [oo 44 (.bin .eql (.t 14) (ki 4)), om 43 44])
 (.cd (.t 43)
 (.sq (.op 6 [om 45 1, oo 46 (.ia (.t 45) (ki 0) 1), oA 47 46 1, om 48 1, oo 49 (.ia (.t 48) (ki 1) 1), oA 50 49 1, oo 51 (.bin .or (.t 47) (.t 50)), om 8 51] (some [8]))
 .rt)
 (.sq (oP [oo 53 (.bin .eql (.t 14) (ki 5)), om 52 53])
 (.cd (.t 52)
 (.sq (.op 6 [om 54 1, oo 55 (.ia (.t 54) (ki 0) 1), oA 56 55 1, om 57 1, oo 58 (.ia (.t 57) (ki 1) 1), oA 59 58 1, oo 60 (.bin .xor (.t 56) (.t 59)), om 8 60] (some [8]))
 .rt)
 (.sq (oP [oo 62 (.bin .eql (.t 14) (ki 6)), om 61 62])
 (.cd (.t 61)
 (.sq (.op 8 [om 63 1, oo 64 (.ia (.t 63) (ki 0) 1), oA 65 64 1, om 66 1, oo 67 (.ia (.t 66) (ki 1) 1), oA 68 67 1, oo 69 (.bin .add (.t 65) (.t 68)), om 70 9, oo 71 (.bin .rem (.t 69) (.t 70)), om 8 71] (some [8]))
 .rt)
 (.sq (oP [oo 73 (.bin .eql (.t 14) (ki 7)), om 72 73])
 (.cd (.t 72)
 (.sq (.op 10 [om 74 1, oo 75 (.ia (.t 74) (ki 0) 1), oA 76 75 1, om 77 1, oo 78 (.ia (.t 77) (ki 1) 1), oA 79 78 1, oo 80 (.bin .sub (.t 76) (.t 79)), om 81 9, oo 82 (.bin .add (.t 80) (.t 81)), om 83 9, oo 84 (.bin .rem (.t 82) (.t 83)), om 8 84] (some [8]))
 .rt)
 (.sq (oP [oo 86 (.bin .eql (.t 14) (ki 8)), om 85 86])
 (.cd (.t 85)
 (.sq (.op 8 [om 87 1, oo 88 (.ia (.t 87) (ki 0) 1), oA 89 88 1, om 90 1, oo 91 (.ia (.t 90) (ki 1) 1), oA 92 91 1, oo 93 (.bin .mul (.t 89) (.t 92)), om 94 9, oo 95 (.bin .rem (.t 93) (.t 94)), om 8 95] (some [8]))
 .rt)
 (.sq (oP [oo 97 (.bin .eql (.t 14) (ki 9)), om 96 97])
 (.cd (.t 96)
 (.sq (.op 6 [om 98 1, oo 99 (.ia (.t 98) (ki 0) 1), oA 100 99 1, om 101 1, oo 102 (.ia (.t 101) (ki 1) 1), oA 103 102 1, oo 104 (.bin .eql (.t 100) (.t 103)), oo 105 (cv Z63 [(.t 104)]), om 8 105] (some [8]))
 .rt)
 (.sq (oP [oo 107 (.bin .eql (.t 14) (ki 10)), om 106 107])
 (.cd (.t 106)
 (.sq (.op 6 [om 108 1, oo 109 (.ia (.t 108) (ki 0) 1), oA 110 109 1, om 111 1, oo 112 (.ia (.t 111) (ki 1) 1), oA 113 112 1, oG 114 110 113, oo 115 (cv Z63 [(.t 114)]), om 8 115] (some [8]))
 .rt)
 (.sq (oP [oo 117 (.bin .eql (.t 14) (ki 11)), om 116 117])
 (.cd (.t 116)
 (.sq (.op 13 [om 118 1, oo 119 (.ia (.t 118) (ki 0) 1), oA 120 119 1, om 121 2, oo 122 (.ia (.t 121) (ki 0) 1), oA 123 122 1, oo 124 (cv H6 [(.t 120), (.t 123)]), om 125 1, oo 126 (.ia (.t 125) (ki 1) 1), oA 127 126 1, om 128 2, oo 129 (.ia (.t 128) (ki 1) 1), oA 130 129 1, oo 131 (cv H6 [(.t 127), (.t 130)]), oG 132 124 131, oo 133 (cv Z63 [(.t 132)]), om 8 133] (some [8]))
 .rt)
 (.sq (oP [oo 135 (.bin .eql (.t 14) (ki 12)), om 134 135])
 (.cd (.t 134)
 (.sq (.sq (.op 0 [om 136 1, oo 137 (.ia (.t 136) (ki 0) 1), oA 138 137 1, oo 139 (.bin .eql (.t 138) (ki 1))] (some [1, 139]))
 (.cd (.t 139)
 (.sq (.op 0 [om 140 1, oo 141 (.ia (.t 140) (ki 1) 1), oA 142 141 1, om 8 142] (some [8]))
 .rt)
 .sk))
 (.sq (.op 0 [om 143 1, oo 144 (.ia (.t 143) (ki 2) 1), oA 145 144 1, om 8 145] (some [8]))
 .rt))
 (.sq (oP [oo 147 (.bin .eql (.t 14) (ki 13)), om 146 147])
 (.cd (.t 146)
 (.sq (.op 11 [om 148 1, oo 149 (.ia (.t 148) (ki 0) 1), oA 150 149 1, om 151 2, oo 152 (.ia (.t 151) (ki 1) 1), oA 153 152 1, oo 154 (cv Xg [(.t 153)]), oo 155 (.bin .mul (.t 150) (.t 154)), om 156 1, oo 157 (.ia (.t 156) (ki 1) 1), oA 158 157 1, oo 159 (.bin .add (.t 155) (.t 158)), om 8 159] (some [8]))
 .rt)
 (.sq (oP [oo 161 (.bin .eql (.t 14) (ki 14)), om 160 161])
 (.cd (.t 160)
 (.sq (.op 8 [om 162 1, oo 163 (.ia (.t 162) (ki 0) 1), oA 164 163 1, oC 165 4 3, oA 166 165 1, oo 167 (cv Xg [(.t 166)]), oo 168 (.bin .quo (.t 164) (.t 167)), om 169 9, oo 170 (.bin .rem (.t 168) (.t 169)), om 8 170] (some [8]))
 .rt)
 (.sq (oP [oo 172 (.bin .eql (.t 14) (ki 15)), om 171 172])
 (.cd (.t 171)
 (.sq (.op 0 [om 173 1, oo 174 (.ia (.t 173) (ki 0) 1), oA 175 174 1, om 8 175] (some [8]))
 .rt)
 (.sq (oP [oo 177 (.bin .eql (.t 14) (ki 16)), om 176 177])
 (.cd (.t 176)
 (.sq (.op 10 [om 178 1, oo 179 (.ia (.t 178) (ki 0) 1), oA 180 179 1, om 181 2, oo 182 (.ia (.t 181) (ki 0) 1), oA 183 182 1, oo 184 (cv H6 [(.t 180), (.t 183)]), om 185 9, oo 186 (.bin .add (.t 184) (.t 185)), om 187 9, oo 188 (.bin .rem (.t 186) (.t 187)), om 8 188] (some [8]))
 .rt)
 (.sq (oP [oo 190 (.bin .eql (.t 14) (ki 17)), om 189 190])
 (.cd (.t 189)
 (.sq (.sq (.op 5 [om 191 1, oo 192 (.ia (.t 191) (ki 1) 1), oA 193 192 1, oC 194 4 1, oA 195 194 1, oo 196 (.bin .geq (.t 193) (.t 195))] (some [1, 9, 196]))
 (.cd (.t 196)
 (.sq (oP [oB 8 0])
 .rt)
 .sk))
 (.sq (.op 9 [om 197 1, oo 198 (.ia (.t 197) (ki 0) 1), oA 199 198 1, om 200 1, oo 201 (.ia (.t 200) (ki 1) 1), oA 202 201 1, oo 203 (cv Xg [(.t 202)]), oo 204 (.bin .mul (.t 199) (.t 203)), om 205 9, oo 206 (.bin .rem (.t 204) (.t 205)), om 8 206] (some [8]))
 .rt))
 .sk))))))))))))))))))))))))))))))))))))))
 (.sq (.sq (.op 5 [om 207 1, oo 208 (.ia (.t 207) (ki 1) 1), oA 209 208 1, oC 210 4 1, oA 211 210 1, oo 212 (.bin .geq (.t 209) (.t 211))] (some [1, 212]))
 (.cd (.t 212)
 (.sq (oP [oB 8 0])
 .rt)
 .sk))
 (.sq (.op 7 [om 213 1, oo 214 (.ia (.t 213) (ki 0) 1), oA 215 214 1, om 216 1, oo 217 (.ia (.t 216) (ki 1) 1), oA 218 217 1, oo 219 (cv Xg [(.t 218)]), oo 220 (.bin .quo (.t 215) (.t 219)), om 8 220] (some [8]))
 .rt))))),
 [.t 8]⟩
def K6 : FnIR := ⟨9,
 (.sq (oP [oo 4 (.mv (.c (.sl 1 (some true) [])))])
 (.sq (.op 0 [om 5 0, oo 6 (cw V1 [(.t 5)]), om 7 1, oo 8 (.app (.t 6) (.t 7) t_int 1), om 4 8] (some [4]))
 .rt)),
 [.t 4]⟩
def Zf9 : FnIR := ⟨12,
 (.sq (.op 0 [oM 4 0 10, oM 6 2 1, oM 7 3 1, oK 8] (some [1, 4, 6, 7]))
 (.sq (.op 0 [om 9 1, oo 10 (.mkf Z4h [(.t 4), (.t 7), (.t 6)]), oo 11 (cv Yn [(.t 9), (.t 10)]), om 8 11] (some [8]))
 .rt)),
 [.t 8]⟩
def Xo : IR :=
 (.sq (oP [oG 9 8 7])
 (.sq (.cd (.t 9)
 .sk
 (.ex 0))
 (.sq (.bk 1 (.sq (oP [om 10 8, om 5 10])
 (.sq (.op 0 [om 11 1, om 12 0, om 13 5, oD 14 12 13 1, oA 15 14 1, oo 16 (.bin .eql (.t 11) (.t 15))] (some [0, 1, 5, 7, 8, 16]))
 (.cd (.t 16)
 (.sq (oP [om 17 5, om 4 17])
 .rt)
 .sk))))
 (oP [oI 18 8 1, om 8 18]))))
def P2 : IR := Xo
theorem Qd : evC C L π k0 P2 e s = evC C L π k0 Xo e s := rfl
def Lx : FnIR := ⟨19,
 (.sq (oP [oB 4 0])
 (.sq (.sq (oP [om 6 0, oE 7 6, oB 8 0])
 (.kp [] [4] (.bk 0 (.lp [] [0, 1, 7, 8] P2))))
 (.sq (oP [oo 4 (.mv (ki (-1)))])
 .rt))),
 [.t 4]⟩
def Zav : FnIR := ⟨14,
 (.sq (oP [oB 1 0, oB 2 0])
 (.sq (.op 8 [oC 3 0 0, oA 4 3 1, oo 5 (cv Fx [(.t 4)]), oo 6 (cv Zi [(.t 5), (ki 4)]), oC 7 0 1, oA 8 7 1, oE 9 8, oo 10 (.bin .leq (.t 9) (ki 12)), oo 11 (cv Zi [(.t 10), (ki 8)]), oo 12 (.bsp Zy 1 false [.int .i64 0] 2 [(0, (.t 6)), (1, (.t 11))]), oo 13 (cv Xh [(.t 12)]), oB 1 0, om 2 13] (some [1, 2]))
 .rt)),
 [.t 1, .t 2]⟩
def Kt : IR :=
 (.sq (oP [oG 8 7 6])
 (.sq (.cd (.t 8)
 .sk
 (.ex 0))
 (.sq (.bk 1 (.sq (oP [oD 9 5 7 1, oA 10 9 1, om 4 10])
 (.sq (oP [om 11 4, oo 12 (.bin .neq (.t 11) (ki 0))])
 (.cd (.t 12)
 (.sq (oP [om 13 4, om 2 13])
 .rt)
 .sk))))
 (oP [oI 14 7 1, om 7 14]))))
def Z48 : IR := Kt
theorem Z39 : evC C L π k0 Z48 e s = evC C L π k0 Kt e s := rfl
def Zam : FnIR := ⟨15,
 (.sq (oP [oB 2 0])
 (.sq (.sq (oP [om 5 0, oE 6 5, oB 7 0])
 (.kp [] [2] (.bk 0 (.lp [] [5, 6, 7] Z48))))
 (.sq (oP [oB 2 0])
 .rt))),
 [.t 2]⟩
def Z7v : FnIR := ⟨7,
 (.sq (oP [oB 4 0])
 (.sq (.sq (oP [om 5 0])
 (.cd (.t 5)
 (.sq (oP [oB 4 0])
 .rt)
 .sk))
 (.sq (oP [om 6 1, om 4 6])
 .rt))),
 [.t 4]⟩
def Xm : IR :=
 (.sq (oP [oG 9 8 7])
 (.sq (.cd (.t 9)
 .sk
 (.ex 0))
 (.sq (.bk 1 (.sq (oP [om 10 8, om 3 10])
 (.sq (.op 0 [om 11 0, om 12 3, oo 13 (.idx (.t 11) (.t 12)), oo 14 (.conv .i64 (.t 13)), om 4 14] (some [0, 3, 4, 7, 8]))
 (.sq (.op 0 [om 15 4, oo 16 (cv Yg [(.t 15), (ki 97), (ki 122)]), om 17 16, oN 18 17 4, og 19 17 false (cv Yg [(.t 18), (ki 65), (ki 90)]), oo 20 (.pick (.t 17) (.c (.bool true)) (.t 19)), om 5 20] (some [0, 3, 4, 5, 7, 8]))
 (.sq (.op 0 [om 21 5, oo 22 (.un .not (.t 21)), om 23 22, oF 24 23 3, og 25 23 true (.bin .eql (.t 24) (ki 0)), oF 26 23 25, oN 27 26 4, og 28 26 false (.bin .neq (.t 27) (ki 95)), oN 29 26 28, oF 30 29 4, og 31 29 true (cv Yg [(.t 30), (ki 48), (ki 57)]), og 32 29 true (.un .not (.t 31)), og 33 26 false (.pick (.t 29) (.t 32) (.c (.bool false))), og 34 23 true (.pick (.t 26) (.c (.bool true)) (.t 33)), oH 35 23 34] (some [0, 7, 8, 35]))
 (.cd (.t 35)
 (.sq (oP [oK 2])
 .rt)
 .sk))))))
 (oP [oI 36 8 1, om 8 36]))))
def Z28 : IR := Xm
theorem V8 : evC C L π k0 Z28 e s = evC C L π k0 Xm e s := rfl
def Z7y : FnIR := ⟨40,
 (.sq (oP [oK 2])
 (.sq (.sq (oP [om 6 0, oo 7 (.len true (.t 6)), oB 8 0])
 (.kp [0] [2] (.bk 0 (.lp [] [0, 7, 8] Z28))))
 (.sq (.op 0 [om 37 0, oo 38 (.len true (.t 37)), oo 39 (cv Yg [(.t 38), (ki 1), (ki 16)]), om 2 39] (some [2]))
 .rt))),
 [.t 2]⟩
def Zau : FnIR := ⟨11,
 (.sq (oP [oB 3 0, oB 4 0])
 (.sq (.op 0 [oC 5 0 1, oA 6 5 1, oo 7 (.mkf My [(.t 1), (.t 2)]), oo 8 (.callS (.c (.fn Uy [])) [(.t 6), (.t 7)]), oL 9 8 0, oL 10 8 1, om 3 9, om 4 10] (some [3, 4]))
 .rt)),
 [.t 3, .t 4]⟩
def Xs : IR :=
 (.sq (oP [oG 12 11 10])
 (.sq (.cd (.t 12)
 .sk
 (.ex 0))
 (.sq (.bk 1 (.sq (.op 0 [om 13 11, oD 14 9 11 2, oJ 15 14 2, oo 7 (.alloc [.str ⟨#[]⟩, .int .i64 0]), om 6 13, ou (.st (.t 7) (.t 15) 2)] (some [1, 6, 7, 9, 10, 11]))
 (.sq (.op 0 [om 16 1, om 17 6, oJ 18 7 2, oo 19 (.callS (.t 16) [(.t 17), (.t 18)]), om 8 19] (some [1, 6, 8, 9, 10, 11]))
 (.sq (oP [om 20 8, oo 21 (.bin .neq (.t 20) (ki 0))])
 (.cd (.t 21)
 (.sq (.op 0 [om 22 6, om 23 8, om 4 22, om 5 23] (some [4, 5]))
 .rt)
 .sk)))))
 (oP [oI 24 11 1, om 11 24]))))
def Pa : IR := Xs
theorem Qh : evC C L π k0 Pa e s = evC C L π k0 Xs e s := rfl
def Kd : FnIR := ⟨25,
 (.sq (oP [oB 4 0, oB 5 0])
 (.sq (.sq (oP [om 9 0, oE 10 9, oB 11 0])
 (.kp [] [4, 5] (.bk 0 (.lp [] [1, 9, 10, 11] Pa))))
 (.sq (oP [oB 4 0, oB 5 0])
 .rt))),
 [.t 4, .t 5]⟩
def Z5v : FnIR := ⟨21,
 (.sq (oP [oM 5 1 2, oB 6 0])
 (.sq (.op 10 [oA 7 2 1, oC 8 5 0, oA 9 8 1, oo 10 (.callS (.c (.fn Xk [])) [(.t 7), (.t 9)]), oA 11 3 1, oC 12 5 0, oA 13 12 1, oo 14 (.callS (.c (.fn Xk [])) [(.t 11), (.t 13)]), oC 15 5 1, oA 16 15 1, oo 17 (cv Gf [(.t 16)]), oo 18 (cv Zi [(.t 17), (ki 2)]), oo 19 (.bsp Zy 1 false [.int .i64 0] 3 [(0, (.t 10)), (1, (.t 14)), (2, (.t 18))]), oo 20 (cv Xh [(.t 19)]), om 6 20] (some [6]))
 .rt)),
 [.t 6]⟩
def Z25 : FnIR := ⟨19,
 (.sq (oP [oB 4 0])
 (.sq (.op 7 [om 6 1, oo 7 (cv Fx [(.t 6)]), oo 8 (cv Zi [(.t 7), (ki 4)]), om 9 0, om 10 1, oo 11 (.lkp (.t 9) (.t 10) (.str ⟨#[]⟩) (.bool false) false), oo 12 (.un .not (.t 11)), oo 13 (cv Zi [(.t 12), (ki 5)]), oo 14 (.bsp Zy 1 false [.int .i64 0] 2 [(0, (.t 8)), (1, (.t 13))]), oo 15 (cv Xh [(.t 14)]), om 5 15] (some [0, 1, 5]))
 (.sq (oP [om 16 0, om 17 1, ou (.mpu (.t 16) (.t 17) (.c (.bool true)) (.str ⟨#[]⟩))])
 (.sq (oP [om 18 5, om 4 18])
 .rt)))),
 [.t 4]⟩
def Z5s : FnIR := ⟨5,
 (.sq (oP [oK 2])
 (.sq (oP [om 3 0, oo 4 (cv Yg [(.t 3), (ki 1), (ki 16)]), om 2 4])
 .rt)),
 [.t 2]⟩
def Zat : FnIR := ⟨12,
 (.sq (oP [oB 1 0, oB 2 0])
 (.sq (.op 0 [oC 3 0 1, oA 4 3 1, oE 5 4, oC 6 0 2, oA 7 6 1, oE 8 7, oo 9 (.bin .add (.t 5) (.t 8)), oo 10 (.bin .leq (.t 9) (ki 40)), oo 11 (cv Zi [(.t 10), (ki 8)]), oB 1 0, om 2 11] (some [1, 2]))
 .rt)),
 [.t 1, .t 2]⟩
def Zas : FnIR := ⟨10,
 (.sq (oP [oB 2 0, oB 3 0])
 (.sq (.op 0 [oC 4 0 2, oA 5 4 1, oo 6 (.mkf Mx [(.t 1)]), oo 7 (.callS (.c (.fn V3 [])) [(.t 5), (.t 6)]), oL 8 7 0, oL 9 7 1, om 2 8, om 3 9] (some [2, 3]))
 .rt)),
 [.t 2, .t 3]⟩
def Yv : IR :=
 (.sq (oP [oG 12 11 10])
 (.sq (.cd (.t 12)
 .sk
 (.ex 0))
 (.sq (.bk 1 (.sq (.op 0 [om 13 11, oD 14 9 11 5, oJ 15 14 5, oo 7 (.alloc [.str ⟨#[]⟩, .int .i64 0, .int .i64 0, .int .i64 0, .int .i64 0]), om 6 13, ou (.st (.t 7) (.t 15) 5)] (some [1, 6, 7, 9, 10, 11]))
 (.sq (.op 0 [om 16 1, om 17 6, oJ 18 7 5, oo 19 (.callS (.t 16) [(.t 17), (.t 18)]), om 8 19] (some [1, 6, 8, 9, 10, 11]))
 (.sq (oP [om 20 8, oo 21 (.bin .neq (.t 20) (ki 0))])
 (.cd (.t 21)
 (.sq (.op 0 [om 22 6, om 23 8, om 4 22, om 5 23] (some [4, 5]))
 .rt)
 .sk)))))
 (oP [oI 24 11 1, om 11 24]))))
def Vl : IR := Yv
theorem Ve : evC C L π k0 Vl e s = evC C L π k0 Yv e s := rfl
def Pb : FnIR := ⟨25,
 (.sq (oP [oB 4 0, oB 5 0])
 (.sq (.sq (oP [om 9 0, oE 10 9, oB 11 0])
 (.kp [] [4, 5] (.bk 0 (.lp [] [1, 9, 10, 11] Vl))))
 (.sq (oP [oB 4 0, oB 5 0])
 .rt))),
 [.t 4, .t 5]⟩
def Z1f : FnIR := ⟨35,
 (.sq (oP [oM 4 1 5, oB 5 0])
 (.sq (.op 10 [oA 7 2 1, oC 8 4 0, oA 9 8 1, oo 10 (.callS (.c (.fn Xk [])) [(.t 7), (.t 9)]), oC 11 4 1, oA 12 11 1, oo 13 (cv Yg [(.t 12), (ki 0), (ki 1)]), oo 14 (cv Zi [(.t 13), (ki 15)]), oC 15 4 2, oA 16 15 1, oo 17 (cv Gf [(.t 16)]), oo 18 (cv Zi [(.t 17), (ki 2)]), oo 19 (.bsp Zy 1 false [.int .i64 0] 3 [(0, (.t 10)), (1, (.t 14)), (2, (.t 18))]), oo 20 (cv Xh [(.t 19)]), om 6 20] (some [4, 6]))
 (.sq (.sq (oP [om 21 6, oo 22 (.bin .neq (.t 21) (ki 0))])
 (.cd (.t 22)
 (.sq (oP [om 23 6, om 5 23])
 .rt)
 .sk))
 (.sq (.op 0 [oC 24 4 3, oA 25 24 1, oC 26 4 2, oA 27 26 1, oo 28 (cv Z8o [(.t 25), (.t 27)]), om 29 28, og 30 29 true (.fa (.t 4) 4), og 31 29 true (.ld (.t 30) 1 false), og 32 29 true (cv Yg [(.t 31), (ki 0), (ki 3)]), oH 33 29 32, oo 34 (cv Zi [(.t 33), (ki 2)]), om 5 34] (some [5]))
 .rt)))),
 [.t 5]⟩
def Z7u : FnIR := ⟨15,
 (.sq (oP [oK 6])
 (.sq (.op 0 [om 7 1, om 8 0, oo 9 (.bin .leq (.t 7) (.t 8)), om 10 9, oF 11 10 0, oF 12 10 2, og 13 10 true (.bin .leq (.t 11) (.t 12)), oH 14 10 13, om 6 14] (some [6]))
 .rt)),
 [.t 6]⟩
def Z9i : FnIR := ⟨14,
 (.sq (oP [oK 4])
 (.sq (.op 0 [om 5 1, oo 6 (.bin .geq (.t 5) (ki 0)), om 7 6, oF 8 7 0, oF 9 7 1, og 10 7 true (.bin .shl (ki 1) (.t 9)), og 11 7 true (.bin .sub (.t 10) (ki 1)), og 12 7 true (cv Yg [(.t 8), (ki 0), (.t 11)]), oH 13 7 12, om 4 13] (some [4]))
 .rt)),
 [.t 4]⟩
def Zar : FnIR := ⟨10,
 (.sq (oP [oB 1 0, oB 2 0])
 (.sq (.op 7 [oJ 3 0 7, oo 4 (cv Z3d [(.t 3)]), oC 5 0 3, oA 6 5 1, oo 7 (cv Qv [(.t 4), (.t 6)]), oL 8 7 0, oL 9 7 1, om 1 8, om 2 9] (some [1, 2]))
 .rt)),
 [.t 1, .t 2]⟩
def Vk : FnIR := ⟨30,
 (.sq (.op 0 [oM 2 0 1, oM 3 1 1, oB 4 0, oB 5 0] (some [2, 3]))
 (.sq (.sq (oP [oA 9 2 1, oE 10 9, oo 11 (.bin .gtr (.t 10) (ki 40))])
 (.cd (.t 11)
 (.sq (oP [oB 4 0, oB 5 8])
 .rt)
 .sk))
 (.sq (.sq (.op 0 [oA 13 2 1, oo 14 (cv Lm [(.t 13), (.c (.fn Vj []))]), om 12 14, oL 15 12 0, oL 16 12 1, om 6 15, om 7 16] (some [2, 3, 6, 7]))
 (.sq (oP [om 17 7, oo 18 (.bin .neq (.t 17) (ki 0))])
 (.cd (.t 18)
 (.sq (.op 0 [om 19 6, om 20 7, om 4 19, om 5 20] (some [4, 5]))
 .rt)
 .sk)))
 (.sq (.sq (oP [oA 21 3 1, oE 22 21, oo 23 (.bin .gtr (.t 22) (ki 400))])
 (.cd (.t 23)
 (.sq (oP [oB 4 0, oB 5 8])
 .rt)
 .sk))
 (.sq (oP [oo 24 (cv Qt []), oo 8 (.alloc [.str ⟨#[]⟩, .int .i64 0, .bool false, .nilf, .nilf, .str ⟨#[]⟩, .int .i64 0, .bool false, .nilf, .nilf, .str ⟨#[]⟩, .int .i64 0, .bool false, .nilf, .nilf, .str ⟨#[]⟩, .int .i64 0, .bool false, .nilf, .nilf, .str ⟨#[]⟩, .int .i64 0, .bool false, .nilf, .nilf, .str ⟨#[]⟩, .int .i64 0, .bool false, .nilf, .nilf, .str ⟨#[]⟩, .int .i64 0, .bool false, .nilf, .nilf, .str ⟨#[]⟩, .int .i64 0, .bool false, .nilf, .nilf, .str ⟨#[]⟩, .int .i64 0, .bool false, .nilf, .nilf, .str ⟨#[]⟩, .int .i64 0, .bool false, .nilf, .nilf, .str ⟨#[]⟩, .int .i64 0, .bool false, .nilf, .nilf, .str ⟨#[]⟩, .int .i64 0, .bool false, .nilf, .nilf, .str ⟨#[]⟩, .int .i64 0, .bool false, .nilf, .nilf, .str ⟨#[]⟩, .int .i64 0, .bool false, .nilf, .nilf, .str ⟨#[]⟩, .int .i64 0, .bool false, .nilf, .nilf, .str ⟨#[]⟩, .int .i64 0, .bool false, .nilf, .nilf, .str ⟨#[]⟩, .int .i64 0, .bool false, .nilf, .nilf, .str ⟨#[]⟩, .int .i64 0, .bool false, .nilf, .nilf, .str ⟨#[]⟩, .int .i64 0, .bool false, .nilf, .nilf]), ou (.st (.t 8) (.t 24) 95)])
 (.sq (.op 0 [oA 25 3 1, oo 26 (.mkf Vi [(.t 8), (.t 2), (.t 3)]), oo 27 (cv Uw [(.t 25), (.t 26)]), oL 28 27 0, oL 29 27 1, om 4 28, om 5 29] (some [4, 5]))
 .rt)))))),
 [.t 4, .t 5]⟩
def G5 : IR :=
 (.sq (oP [oG 12 11 10])
 (.sq (.cd (.t 12)
 .sk
 (.ex 0))
 (.sq (.bk 1 (.sq (.op 0 [oD 13 9 11 2, oJ 14 13 2, oo 5 (.alloc [.str ⟨#[]⟩, .int .i64 0]), ou (.st (.t 5) (.t 14) 2)] (some [1, 3, 5, 9, 10, 11]))
 (.op 0 [om 15 3, oC 16 5 1, oA 17 16 1, oo 18 (.bsl t_int 1 false [.int .i64 0] 1 [(0, (.t 17))]), oo 19 (.app (.t 15) (.t 18) t_int 1), om 3 19] (some [1, 3, 9, 10, 11]))))
 (oP [oI 20 11 1, om 11 20]))))
def Z27 : IR := G5
theorem Z6s : evC C L π k0 Z27 e s = evC C L π k0 G5 e s := rfl
def G4 : IR :=
 (.sq (oP [oG 25 24 23])
 (.sq (.cd (.t 25)
 .sk
 (.ex 2))
 (.sq (.bk 3 (.sq (.op 0 [oD 26 22 24 5, oJ 27 26 5, oo 7 (.alloc [.str ⟨#[]⟩, .int .i64 0, .int .i64 0, .int .i64 0, .int .i64 0]), ou (.st (.t 7) (.t 27) 5)] (some [3, 7, 22, 23, 24]))
 (.op 0 [om 28 3, oC 29 7 2, oA 30 29 1, oo 31 (.bsl t_int 1 false [.int .i64 0] 1 [(0, (.t 30))]), oo 32 (.app (.t 28) (.t 31) t_int 1), om 3 32] (some [3, 22, 23, 24]))))
 (oP [oI 33 24 1, om 24 33]))))
def Z26 : IR := G4
theorem Z6r : evC C L π k0 Z26 e s = evC C L π k0 G4 e s := rfl
def Z7w : FnIR := ⟨35,
 (.sq (oP [oM 1 0 7, oo 2 (.mv (.c (.sl 1 (some true) [])))])
 (.sq (oP [oo 3 (.mv (.c (.sl 1 (some true) [])))])
 (.sq (.sq (.op 0 [oC 8 1 1, oA 9 8 1, oE 10 9, oB 11 0] (some [1, 3, 9, 10, 11]))
 (.kp [1, 3] [2] (.bk 0 (.lp [(t_int, .inl 3)] [1, 3, 9, 10, 11] Z27))))
 (.sq (.sq (.op 0 [oC 21 1 2, oA 22 21 1, oE 23 22, oB 24 0] (some [3, 22, 23, 24]))
 (.kp [3] [2] (.bk 2 (.lp [(t_int, .inl 3)] [3, 22, 23, 24] Z26))))
 (.sq (oP [om 34 3, om 2 34])
 .rt))))),
 [.t 2]⟩
def Zaq : FnIR := ⟨8,
 (.sq (oP [oB 1 0, oB 2 0])
 (.sq (.op 0 [oC 3 0 4, oA 4 3 1, oE 5 4, oo 6 (.bin .leq (.t 5) (ki 16)), oo 7 (cv Zi [(.t 6), (ki 8)]), oB 1 0, om 2 7] (some [1, 2]))
 .rt)),
 [.t 1, .t 2]⟩
def Zap : FnIR := ⟨10,
 (.sq (oP [oB 2 0, oB 3 0])
 (.sq (.op 0 [oC 4 0 4, oA 5 4 1, oo 6 (.mkf Mw [(.t 1), (.t 0)]), oo 7 (.callS (.c (.fn Ux [])) [(.t 5), (.t 6)]), oL 8 7 0, oL 9 7 1, om 2 8, om 3 9] (some [2, 3]))
 .rt)),
 [.t 2, .t 3]⟩
def Xr : IR :=
 (.sq (oP [oG 12 11 10])
 (.sq (.cd (.t 12)
 .sk
 (.ex 0))
 (.sq (.bk 1 (.sq (.op 0 [om 13 11, oD 14 9 11 3, oJ 15 14 3, oo 7 (.alloc [.str ⟨#[]⟩, .int .i64 0, .sl 3 (some true) []]), om 6 13, ou (.st (.t 7) (.t 15) 3)] (some [1, 6, 7, 9, 10, 11]))
 (.sq (.op 0 [om 16 1, om 17 6, oJ 18 7 3, oo 19 (.callS (.t 16) [(.t 17), (.t 18)]), om 8 19] (some [1, 6, 8, 9, 10, 11]))
 (.sq (oP [om 20 8, oo 21 (.bin .neq (.t 20) (ki 0))])
 (.cd (.t 21)
 (.sq (.op 0 [om 22 6, om 23 8, om 4 22, om 5 23] (some [4, 5]))
 .rt)
 .sk)))))
 (oP [oI 24 11 1, om 11 24]))))
def P9 : IR := Xr
theorem Qg : evC C L π k0 P9 e s = evC C L π k0 Xr e s := rfl
def Kc : FnIR := ⟨25,
 (.sq (oP [oB 4 0, oB 5 0])
 (.sq (.sq (oP [om 9 0, oE 10 9, oB 11 0])
 (.kp [] [4, 5] (.bk 0 (.lp [] [1, 9, 10, 11] P9))))
 (.sq (oP [oB 4 0, oB 5 0])
 .rt))),
 [.t 4, .t 5]⟩
def Z5u : FnIR := ⟨37,
 (.sq (oP [oM 5 1 3, oB 6 0])
 (.sq (.op 13 [oA 10 2 1, oC 11 5 0, oA 12 11 1, oo 13 (.callS (.c (.fn Xk [])) [(.t 10), (.t 12)]), oJ 14 3 7, oC 15 5 1, oA 16 15 1, oo 17 (cv U7 [(.t 14), (.t 16)]), oo 18 (cv Zi [(.t 17), (ki 9)]), oC 19 5 2, oA 20 19 1, oE 21 20, oo 22 (.bin .leq (.t 21) (ki 16)), oo 23 (cv Zi [(.t 22), (ki 8)]), oo 24 (.bsp Zy 1 false [.int .i64 0] 3 [(0, (.t 13)), (1, (.t 18)), (2, (.t 23))]), oo 25 (cv Xh [(.t 24)]), om 7 25] (some [3, 5, 7]))
 (.sq (.op 0 [oC 27 5 2, oA 28 27 1, oo 29 (.mkf N9 [(.t 3)]), oo 30 (cv Vu [(.t 28), (.t 29)]), om 26 30, oL 31 26 0, oL 32 26 1, om 8 31, om 9 32] (some [7, 9]))
 (.sq (.op 0 [om 33 7, om 34 9, oo 35 (.bsp Zy 1 false [.int .i64 0] 2 [(0, (.t 33)), (1, (.t 34))]), oo 36 (cv Xh [(.t 35)]), om 6 36] (some [6]))
 .rt)))),
 [.t 6]⟩
def Nu : FnIR := ⟨17,
 (.sq (oP [oM 2 0 7, oK 4])
 (.sq (.op 0 [oJ 5 2 7, om 6 1, oo 7 (cv H9 [(.t 5), (.t 6)]), om 8 7, og 9 8 true (.fa (.t 2) 3), og 10 8 true (.ld (.t 9) 1 false), oF 11 8 1, og 12 8 true (.ia (.t 10) (.t 11) 4), og 13 8 true (.fa (.t 12) 1), og 14 8 true (.ld (.t 13) 1 false), og 15 8 true (.bin .eql (.t 14) (ki 1)), oH 16 8 15, om 4 16] (some [4]))
 .rt)),
 [.t 4]⟩
def Xf : IR :=
 (.sq (oP [oG 12 11 10])
 (.sq (.cd (.t 12)
 .sk
 (.ex 0))
 (.sq (.bk 1 (.sq (.op 0 [om 13 11, oD 14 9 11 3, oJ 15 14 3, oo 7 (.alloc [.int .i64 0, .int .i64 0, .int .i64 0]), om 6 13, ou (.st (.t 7) (.t 15) 3)] (some [1, 6, 7, 9, 10, 11]))
 (.sq (.op 0 [om 16 1, om 17 6, oJ 18 7 3, oo 19 (.callV true (.t 16) [(.t 17), (.t 18)]), om 8 19] (some [1, 6, 8, 9, 10, 11]))
 (.sq (oP [om 20 8, oo 21 (.bin .neq (.t 20) (ki 0))])
 (.cd (.t 21)
 (.sq (.op 0 [om 22 6, om 23 8, om 4 22, om 5 23] (some [4, 5]))
 .rt)
 .sk)))))
 (oP [oI 24 11 1, om 11 24]))))
def Ut : IR := Xf
theorem Uq : evC C L π k0 Ut e s = evC C L π k0 Xf e s := rfl
def Md : FnIR := ⟨25,
 (.sq (oP [oB 4 0, oB 5 0])
 (.sq (.sq (oP [om 9 0, oE 10 9, oB 11 0])
 (.kp [] [4, 5] (.bk 0 (.lp [] [1, 9, 10, 11] Ut))))
 (.sq (oP [oB 4 0, oB 5 0])
 .rt))),
 [.t 4, .t 5]⟩
def Z29 : FnIR := ⟨9,
 (.sq (oP [oM 4 1 3, oB 5 0])
 (.sq (.op 0 [oJ 6 2 7, oJ 7 4 3, oo 8 (cv Fh [(.t 6), (.t 7)]), om 5 8] (some [5]))
 .rt)),
 [.t 5]⟩
def Kb : FnIR := ⟨46,
 (.sq (oP [oM 2 0 7, oM 3 1 3, oB 4 0])
 (.sq (.op 16 [oC 6 3 0, oA 7 6 1, oC 8 2 2, oA 9 8 1, oE 10 9, oo 11 (.bin .sub (.t 10) (ki 1)), oo 12 (cv Yg [(.t 7), (ki 0), (.t 11)]), oo 13 (cv Zi [(.t 12), (ki 6)]), oJ 14 2 7, oC 15 3 1, oA 16 15 1, oo 17 (cv U7 [(.t 14), (.t 16)]), om 18 17, og 19 18 true (.ld (.t 2) 7 true), og 20 18 true (.fa (.t 3) 2), og 21 18 true (.ld (.t 20) 1 false), og 22 18 true (cv H9 [(.t 19), (.t 21)]), oH 23 18 22, oo 24 (cv Zi [(.t 23), (ki 9)]), oo 25 (.bsp Zy 1 false [.int .i64 0] 2 [(0, (.t 13)), (1, (.t 24))]), oo 26 (cv Xh [(.t 25)]), om 5 26] (some [2, 3, 5]))
 (.sq (.sq (oP [om 27 5, oo 28 (.bin .neq (.t 27) (ki 0))])
 (.cd (.t 28)
 (.sq (oP [om 29 5, om 4 29])
 .rt)
 .sk))
 (.sq (.op 14 [oC 30 2 3, oA 31 30 1, oC 32 3 2, oA 33 32 1, oD 34 31 33 4, oC 35 34 1, oA 36 35 1, oC 37 2 2, oA 38 37 1, oC 39 3 0, oA 40 39 1, oD 41 38 40 5, oC 42 41 2, oA 43 42 1, oo 44 (.bin .eql (.t 36) (.t 43)), oo 45 (cv Zi [(.t 44), (ki 25)]), om 4 45] (some [4]))
 .rt)))),
 [.t 4]⟩
def Zao : FnIR := ⟨8,
 (.sq (oP [oB 1 0, oB 2 0])
 (.sq (.op 0 [oC 3 0 5, oA 4 3 1, oE 5 4, oo 6 (.bin .leq (.t 5) (ki 12)), oo 7 (cv Zi [(.t 6), (ki 8)]), oB 1 0, om 2 7] (some [1, 2]))
 .rt)),
 [.t 1, .t 2]⟩
def Zan : FnIR := ⟨10,
 (.sq (oP [oB 2 0, oB 3 0])
 (.sq (.op 0 [oC 4 0 5, oA 5 4 1, oo 6 (.mkf Mv [(.t 1), (.t 0)]), oo 7 (.callS (.c (.fn Vc [])) [(.t 5), (.t 6)]), oL 8 7 0, oL 9 7 1, om 2 8, om 3 9] (some [2, 3]))
 .rt)),
 [.t 2, .t 3]⟩
def X6 : IR :=
 (.sq (oP [oG 12 11 10])
 (.sq (.cd (.t 12)
 .sk
 (.ex 0))
 (.sq (.bk 1 (.sq (.op 0 [om 13 11, oD 14 9 11 2, oJ 15 14 2, oo 7 (.alloc [.str ⟨#[]⟩, .int .i64 0]), om 6 13, ou (.st (.t 7) (.t 15) 2)] (some [1, 6, 7, 9, 10, 11]))
 (.sq (.op 0 [om 16 1, om 17 6, oJ 18 7 2, oo 19 (.callS (.t 16) [(.t 17), (.t 18)]), om 8 19] (some [1, 6, 8, 9, 10, 11]))
 (.sq (oP [om 20 8, oo 21 (.bin .neq (.t 20) (ki 0))])
 (.cd (.t 21)
 (.sq (.op 0 [om 22 6, om 23 8, om 4 22, om 5 23] (some [4, 5]))
 .rt)
 .sk)))))
 (oP [oI 24 11 1, om 11 24]))))
def Vx : IR := X6
theorem Vq : evC C L π k0 Vx e s = evC C L π k0 X6 e s := rfl
def Ps : FnIR := ⟨25,
 (.sq (oP [oB 4 0, oB 5 0])
 (.sq (.sq (oP [om 9 0, oE 10 9, oB 11 0])
 (.kp [] [4, 5] (.bk 0 (.lp [] [1, 9, 10, 11] Vx))))
 (.sq (oP [oB 4 0, oB 5 0])
 .rt))),
 [.t 4, .t 5]⟩
def Z5t : FnIR := ⟨18,
 (.sq (oP [oM 5 1 2, oB 6 0])
 (.sq (.op 7 [oA 7 2 1, oC 8 5 0, oA 9 8 1, oo 10 (.callS (.c (.fn Xk [])) [(.t 7), (.t 9)]), oJ 11 3 7, oC 12 5 1, oA 13 12 1, oo 14 (cv H9 [(.t 11), (.t 13)]), oo 15 (cv Zi [(.t 14), (ki 9)]), oo 16 (.bsp Zy 1 false [.int .i64 0] 2 [(0, (.t 10)), (1, (.t 15))]), oo 17 (cv Xh [(.t 16)]), om 6 17] (some [6]))
 .rt)),
 [.t 6]⟩
def Z7x : FnIR := ⟨11,
 (.sq (oP [oM 2 0 7, oK 4])
 (.sq (.op 0 [om 5 1, oC 6 2 3, oA 7 6 1, oE 8 7, oo 9 (.bin .sub (.t 8) (ki 1)), oo 10 (cv Yg [(.t 5), (ki 0), (.t 9)]), om 4 10] (some [4]))
 .rt)),
 [.t 4]⟩
def Z81 : FnIR := ⟨8,
 (.sq (oP [oB 1 0, oB 2 0])
 (.sq (.op 0 [oC 3 0 6, oA 4 3 1, oE 5 4, oo 6 (.bin .leq (.t 5) (ki 16)), oo 7 (cv Zi [(.t 6), (ki 8)]), oB 1 0, om 2 7] (some [1, 2]))
 .rt)),
 [.t 1, .t 2]⟩
def Z80 : FnIR := ⟨9,
 (.sq (oP [oB 1 0, oB 2 0])
 (.sq (.op 0 [oC 3 0 6, oA 4 3 1, oo 5 (.mkf Lo [(.t 0)]), oo 6 (cv W7 [(.t 4), (.t 5)]), oL 7 6 0, oL 8 6 1, om 1 7, om 2 8] (some [1, 2]))
 .rt)),
 [.t 1, .t 2]⟩
def Yd : IR :=
 (.sq (oP [oG 12 11 10])
 (.sq (.cd (.t 12)
 .sk
 (.ex 0))
 (.sq (.bk 1 (.sq (.op 0 [om 13 11, oD 14 9 11 2, oJ 15 14 2, oo 7 (.alloc [.int .i64 0, .sl 1 (some true) []]), om 6 13, ou (.st (.t 7) (.t 15) 2)] (some [1, 6, 7, 9, 10, 11]))
 (.sq (.op 0 [om 16 1, om 17 6, oJ 18 7 2, oo 19 (.callV true (.t 16) [(.t 17), (.t 18)]), om 8 19] (some [1, 6, 8, 9, 10, 11]))
 (.sq (oP [om 20 8, oo 21 (.bin .neq (.t 20) (ki 0))])
 (.cd (.t 21)
 (.sq (.op 0 [om 22 6, om 23 8, om 4 22, om 5 23] (some [4, 5]))
 .rt)
 .sk)))))
 (oP [oI 24 11 1, om 11 24]))))
def Wx : IR := Yd
theorem Wv : evC C L π k0 Wx e s = evC C L π k0 Yd e s := rfl
def Vy : FnIR := ⟨25,
 (.sq (oP [oB 4 0, oB 5 0])
 (.sq (.sq (oP [om 9 0, oE 10 9, oB 11 0])
 (.kp [] [4, 5] (.bk 0 (.lp [] [1, 9, 10, 11] Wx))))
 (.sq (oP [oB 4 0, oB 5 0])
 .rt))),
 [.t 4, .t 5]⟩
def Z4a : FnIR := ⟨27,
 (.sq (oP [oM 4 1 2, oB 5 0])
 (.sq (.op 0 [oC 9 4 1, oA 10 9 1, oo 11 (.mkf Qw [(.t 2), (.t 4)]), oo 12 (cv Fi [(.t 10), (.t 11)]), om 8 12, oL 13 8 0, oL 14 8 1, om 6 13, om 7 14] (some [4, 7]))
 (.sq (.op 10 [oC 15 4 0, oA 16 15 1, oo 17 (cv Yg [(.t 16), (ki 0), (ki 3)]), oo 18 (cv Zi [(.t 17), (ki 15)]), oC 19 4 1, oA 20 19 1, oE 21 20, oo 22 (cv Yg [(.t 21), (ki 1), (ki 16)]), oo 23 (cv Zi [(.t 22), (ki 10)]), om 24 7, oo 25 (.bsp Zy 1 false [.int .i64 0] 3 [(0, (.t 18)), (1, (.t 23)), (2, (.t 24))]), oo 26 (cv Xh [(.t 25)]), om 5 26] (some [5]))
 .rt))),
 [.t 5]⟩
def Uh : IR :=
 (.sq (oP [oG 12 11 10])
 (.sq (.cd (.t 12)
 .sk
 (.ex 0))
 (.sq (.bk 1 (.sq (.op 0 [om 13 11, oD 14 9 11 1, oA 15 14 1, om 6 13, om 7 15] (some [1, 6, 7, 9, 10, 11]))
 (.sq (.op 0 [om 16 1, om 17 6, om 18 7, oo 19 (.callV true (.t 16) [(.t 17), (.t 18)]), om 8 19] (some [1, 6, 8, 9, 10, 11]))
 (.sq (oP [om 20 8, oo 21 (.bin .neq (.t 20) (ki 0))])
 (.cd (.t 21)
 (.sq (.op 0 [om 22 6, om 23 8, om 4 22, om 5 23] (some [4, 5]))
 .rt)
 .sk)))))
 (oP [oI 24 11 1, om 11 24]))))
def F5 : IR := Uh
theorem Gr : evC C L π k0 F5 e s = evC C L π k0 Uh e s := rfl
def Z49 : FnIR := ⟨25,
 (.sq (oP [oB 4 0, oB 5 0])
 (.sq (.sq (oP [om 9 0, oE 10 9, oB 11 0])
 (.kp [] [4, 5] (.bk 0 (.lp [] [1, 9, 10, 11] F5))))
 (.sq (oP [oB 4 0, oB 5 0])
 .rt))),
 [.t 4, .t 5]⟩
def Z0k : FnIR := ⟨24,
 (.sq (oP [oB 6 0])
 (.sq (.op 12 [om 7 1, oC 8 2 4, oA 9 8 1, oE 10 9, oo 11 (.bin .sub (.t 10) (ki 1)), oo 12 (cv Yg [(.t 7), (ki 0), (.t 11)]), oo 13 (cv Zi [(.t 12), (ki 6)]), oC 14 3 1, oA 15 14 1, om 16 0, oo 17 (.slc false (.t 15) none (some (.t 16)) 1), om 18 1, oo 19 (cv Y8 [(.t 17), (.t 18)]), oo 20 (.un .not (.t 19)), oo 21 (cv Zi [(.t 20), (ki 23)]), oo 22 (.bsp Zy 1 false [.int .i64 0] 2 [(0, (.t 13)), (1, (.t 21))]), oo 23 (cv Xh [(.t 22)]), om 6 23] (some [6]))
 .rt)),
 [.t 6]⟩
def Z5n : FnIR := ⟨5,
 (.sq (oP [oK 2])
 (.sq (oP [om 3 0, oo 4 (cv Ye [(.t 3), (ki 1), (ki 16)]), om 2 4])
 .rt)),
 [.t 2]⟩
def Pc : IR :=
 (.sq (.sq (.op 0 [om 28 8, oC 29 7 2, oA 30 29 1, oE 31 30, oG 32 28 31] (some [0, 1, 2, 7, 8, 32]))
 (.cd (.t 32)
 .sk
 (.ex 0)))
 (.sq (.bk 1 (.sq (.op 0 [oC 35 7 2, oA 36 35 1, om 37 8, oD 38 36 37 1, oA 39 38 1, om 40 2, oo 41 (.bin .sub (.t 40) (ki 1)), oo 42 (cv Ye [(.t 39), (ki 0), (.t 41)]), oo 43 (.un .not (.t 42))] (some [0, 1, 2, 7, 8, 43]))
 (.cd (.t 43)
 (.sq (oP [oB 6 9])
 .rt)
 .sk)))
 (oP [om 33 8, oI 34 33 1, om 8 34])))
def Z0b : IR := Pc
theorem Ft : evC C L π k0 Z0b e s = evC C L π k0 Pc e s := rfl
def Wa : FnIR := ⟨84,
 (.sq (oP [oB 6 0])
 (.sq (.op 0 [om 9 1, om 10 2, oD 11 9 10 4, oJ 12 11 4, oo 7 (.alloc [.int .i64 0, .int .i64 0, .sl 1 (some true) [], .int .i64 0]), ou (.st (.t 7) (.t 12) 4)] (some [0, 1, 2, 7]))
 (.sq (.sq (.op 0 [oC 13 7 0, oA 14 13 1, oo 15 (cv Ye [(.t 14), (ki 0), (ki 18)]), oo 16 (.un .not (.t 15))] (some [0, 1, 2, 7, 16]))
 (.cd (.t 16)
 (.sq (oP [oB 6 15])
 .rt)
 .sk))
 (.sq (.sq (.op 0 [oC 17 7 1, oA 18 17 1, oo 19 (cv Mk [(.t 18)]), oo 20 (.un .not (.t 19))] (some [0, 1, 2, 7, 20]))
 (.cd (.t 20)
 (.sq (oP [oB 6 2])
 .rt)
 .sk))
 (.sq (.sq (.op 6 [oC 21 7 2, oA 22 21 1, oE 23 22, oC 24 7 0, oA 25 24 1, oo 26 (cv Ff [(.t 25)]), oo 27 (.bin .neq (.t 23) (.t 26))] (some [0, 1, 2, 7, 27]))
 (.cd (.t 27)
 (.sq (oP [oB 6 10])
 .rt)
 .sk))
 (.sq (.sq (oP [oB 8 0])
 (.kp [0, 1, 7] [6] (.bk 0 (.lp [] [0, 1, 2, 7, 8] Z0b))))
 (.sq (.sq (oP [oC 44 7 0, oA 45 44 1])
 (.bk 2 (.sq (oP [oo 50 (.bin .eql (.t 45) (ki 0)), om 49 50])
 (.cd (.t 49)
 (.sq (.sq (.op 0 [oC 51 7 3, oA 52 51 1, oC 53 7 1, oA 54 53 1, oo 55 (cv Z2k [(.t 52), (.t 54)]), oo 56 (.un .not (.t 55))] (some [56]))
 (.cd (.t 56)
 (.sq (oP [oB 6 2])
 .rt)
 .sk))
 (.sq (oP [oB 6 0])
 .rt))
 (.sq (oP [oo 58 (.bin .eql (.t 45) (ki 1)), om 57 58])
 (.cd (.t 57)
 (.sq (.sq (.op 0 [oC 59 7 3, oA 60 59 1, om 61 0, oE 62 61, oo 63 (.bin .sub (.t 62) (ki 1)), oo 64 (cv Ye [(.t 60), (ki 0), (.t 63)]), oo 65 (.un .not (.t 64))] (some [0, 7, 65]))
 (.cd (.t 65)
 (.sq (oP [oB 6 6])
 .rt)
 .sk))
 (.sq (.sq (.op 7 [om 66 0, oC 67 7 3, oA 68 67 1, oD 69 66 68 1, oA 70 69 1, oC 71 7 1, oA 72 71 1, oo 73 (.bin .neq (.t 70) (.t 72))] (some [73]))
 (.cd (.t 73)
 (.sq (oP [oB 6 25])
 .rt)
 .sk))
 (.sq (oP [oB 6 0])
 .rt)))
 (.sq (oP [oo 75 (.bin .eql (.t 45) (ki 14)), om 74 75])
 (.cd (.t 74)
 (.sq (.op 0 [oC 76 7 3, oA 77 76 1, oo 78 (cv Ye [(.t 77), (ki 0), (ki 15)]), oo 79 (.un .not (.t 78))] (some [1, 7, 79]))
 (.cd (.t 79)
 (.sq (oP [oB 6 2])
 .rt)
 .sk))
 (.sq (oP [oC 46 7 3, oA 47 46 1, oo 48 (.bin .neq (.t 47) (ki 0))])
 (.cd (.t 48)
 (.sq (oP [oB 6 3])
 .rt)
 .sk))))))))))
 (.sq (.sq (.op 0 [om 80 1, oJ 81 7 4, oo 82 (cv Ht [(.t 80), (.t 81)]), oo 83 (.un .not (.t 82))] (some [83]))
 (.cd (.t 83)
 (.sq (oP [oB 6 25])
 .rt)
 .sk))
 (.sq (oP [oB 6 0])
 .rt))))))))),
 [.t 6]⟩
def Z7m : FnIR := ⟨10,
 (.sq (oP [oK 4])
 (.sq (.op 0 [om 5 1, om 6 0, oE 7 6, oo 8 (.bin .sub (.t 7) (ki 1)), oo 9 (cv Ye [(.t 5), (ki 0), (.t 8)]), om 4 9] (some [4]))
 .rt)),
 [.t 4]⟩

end Go.Proofs.YteecfnfjlclhdaaGreat.V

/- The functions of the program in the small language. Printed by a program of this work. -/
namespace Go.Proofs.YteecfnfjlclhdaaGreat.V
open Go (IntKind BinOp UnOp)

variable {C : Call} {L : Loop} {π : Id} {k0 : List Id} {e : Env} {s : Sto}
def Z0u : IR :=
 (oP [om 5 7])
def Z0s : IR := Z0u
def Z0t : IR :=
 (.bk 1 (.op 0 [oA 8 2 1, om 9 5, oo 10 (.bsl t_int 1 false [.int .i64 0] 1 [(0, (.t 9))]), oo 11 (.app (.t 8) (.t 10) t_int 1), ou (.st (.t 2) (.t 11) 1)] (some [])))
def Z0r : IR := Z0t
def Z4m : FnIR := ⟨13,
 (.sq (oP [oM 2 0 1, oo 4 (.mv (.c (.sl 1 (some true) [])))])
 (.sq (.sq (.kp [2, 4, 6] [4] (oP [om 6 1]))
 (.bk 0 (.kp [2] [4] (.tw [(t_int, .inr (2, 0))] (.rf (.t 6) 13 0 [2] [7] Z0s Z0r)))))
 (.sq (oP [oA 12 2 1, om 4 12])
 .rt))),
 [.t 4]⟩
def Zih : FnIR := ⟨19,
 (.sq (oP [oo 6 (.mv (.c (.sl 1 (some true) []))), oB 7 0])
 (.sq (.sq (.op 0 [om 9 0, om 10 1, om 11 2, oo 12 (cv Z8m [(.t 9), (.t 10), (.t 11)]), om 8 12] (some [1, 2, 8]))
 (.sq (oP [om 13 8, oo 14 (.bin .neq (.t 13) (ki 0))])
 (.cd (.t 14)
 (.sq (oP [om 15 8, oo 6 (.mv (.c (.sl 1 (some true) []))), om 7 15])
 .rt)
 .sk)))
 (.sq (.op 0 [om 16 1, om 17 2, oo 18 (cw Z4f [(.t 16), (.t 17)]), om 6 18, oB 7 0] (some [6, 7]))
 .rt))),
 [.t 6, .t 7]⟩
def Kq : IR :=
 (.sq (oP [oG 8 7 6])
 (.sq (.cd (.t 8)
 .sk
 (.ex 0))
 (.sq (.bk 1 (.sq (oP [oD 9 5 7 1, oA 10 9 1, om 4 10])
 (.sq (oP [om 11 4, oo 12 (.bin .neq (.t 11) (ki 0))])
 (.cd (.t 12)
 (.sq (oP [om 13 4, om 2 13])
 .rt)
 .sk))))
 (oP [oI 14 7 1, om 7 14]))))
def Z42 : IR := Kq
theorem Z38 : evC C L π k0 Z42 e s = evC C L π k0 Kq e s := rfl
def Zal : FnIR := ⟨15,
 (.sq (oP [oB 2 0])
 (.sq (.sq (oP [om 5 0, oE 6 5, oB 7 0])
 (.kp [] [2] (.bk 0 (.lp [] [5, 6, 7] Z42))))
 (.sq (oP [oB 2 0])
 .rt))),
 [.t 2]⟩
def Z41 : FnIR := ⟨14,
 (.sq (oP [oB 4 0])
 (.sq (.op 0 [om 8 0, om 9 1, oo 10 (cv Qv [(.t 8), (.t 9)]), om 7 10, oL 11 7 0, oL 12 7 1, om 5 11, om 6 12] (some [6]))
 (.sq (oP [om 13 6, om 4 13])
 .rt))),
 [.t 4]⟩
def Z7q : FnIR := ⟨7,
 (.sq (oP [oB 4 0])
 (.sq (.sq (oP [om 5 0])
 (.cd (.t 5)
 (.sq (oP [oB 4 0])
 .rt)
 .sk))
 (.sq (oP [om 6 1, om 4 6])
 .rt))),
 [.t 4]⟩
def Ug : IR :=
 (.sq (oP [oG 12 11 10])
 (.sq (.cd (.t 12)
 .sk
 (.ex 0))
 (.sq (.bk 1 (.sq (.op 0 [om 13 11, oD 14 9 11 1, oA 15 14 1, om 6 13, om 7 15] (some [1, 6, 7, 9, 10, 11]))
 (.sq (.op 0 [om 16 1, om 17 6, om 18 7, oo 19 (.callV true (.t 16) [(.t 17), (.t 18)]), om 8 19] (some [1, 6, 8, 9, 10, 11]))
 (.sq (oP [om 20 8, oo 21 (.bin .neq (.t 20) (ki 0))])
 (.cd (.t 21)
 (.sq (.op 0 [om 22 6, om 23 8, om 4 22, om 5 23] (some [4, 5]))
 .rt)
 .sk)))))
 (oP [oI 24 11 1, om 11 24]))))
def F4 : IR := Ug
theorem Gq : evC C L π k0 F4 e s = evC C L π k0 Ug e s := rfl
def Z44 : FnIR := ⟨25,
 (.sq (oP [oB 4 0, oB 5 0])
 (.sq (.sq (oP [om 9 0, oE 10 9, oB 11 0])
 (.kp [] [4, 5] (.bk 0 (.lp [] [1, 9, 10, 11] F4))))
 (.sq (oP [oB 4 0, oB 5 0])
 .rt))),
 [.t 4, .t 5]⟩
def Z0j : FnIR := ⟨13,
 (.sq (oP [oB 5 0])
 (.sq (.op 0 [om 6 1, oA 7 2 1, om 8 0, oD 9 7 8 1, oA 10 9 1, oo 11 (cv Z4z [(.t 6), (.t 10)]), oo 12 (cv Yf [(.t 11), (ki 2)]), om 5 12] (some [5]))
 .rt)),
 [.t 5]⟩
def Z9h : FnIR := ⟨14,
 (.sq (oP [oK 4])
 (.sq (.op 0 [om 5 1, oo 6 (.bin .geq (.t 5) (ki 0)), om 7 6, oF 8 7 0, oF 9 7 1, og 10 7 true (.bin .shl (ki 1) (.t 9)), og 11 7 true (.bin .sub (.t 10) (ki 1)), og 12 7 true (cv V9 [(.t 8), (ki 0), (.t 11)]), oH 13 7 12, om 4 13] (some [4]))
 .rt)),
 [.t 4]⟩
def Nn : IR :=
 (.sq (oP [oG 14 13 12])
 (.sq (.cd (.t 14)
 .sk
 (.ex 0))
 (.sq (.bk 1 (.sq (.op 0 [oD 15 11 13 4, oJ 16 15 4, oo 8 (.alloc [.int .i64 0, .int .i64 0, .sl 1 (some true) [], .int .i64 0]), ou (.st (.t 8) (.t 16) 4)] (some [0, 1, 5, 6, 8, 11, 12, 13]))
 (.sq (.sq (oP [oC 17 8 0, oA 18 17 1, oo 19 (.bin .eql (.t 18) (ki 1))])
 (.cd (.t 19)
 (.sq (.op 0 [om 20 6, om 21 1, oC 22 8 3, oA 23 22 1, oD 24 21 23 1, oA 25 24 1, oo 26 (.bsl t_int 1 false [.int .i64 0] 1 [(0, (.t 25))]), oo 27 (.app (.t 20) (.t 26) t_int 1), om 6 27] (some [0, 1, 5, 6, 11, 12, 13]))
 (.ex 1))
 .sk))
 (.sq (.op 0 [om 28 0, oJ 29 8 4, om 30 6, oo 31 (cv Z16 [(.t 5), (.t 28), (.t 29), (.t 30)]), om 9 31] (some [0, 1, 5, 6, 9, 11, 12, 13]))
 (.op 0 [om 32 6, om 33 9, oo 34 (.bsl t_int 1 false [.int .i64 0] 1 [(0, (.t 33))]), oo 35 (.app (.t 32) (.t 34) t_int 1), om 6 35] (some [0, 1, 5, 6, 11, 12, 13]))))))
 (oP [oI 36 13 1, om 13 36]))))
def Z24 : IR := Nn
theorem Z1m : evC C L π k0 Z24 e s = evC C L π k0 Nn e s := rfl
def Z7p : FnIR := ⟨38,
 (.sq (oP [oo 4 (.mv (.c (.sl 1 (some true) [])))])
 (.sq (oP [oo 10 (cv Qt []), oo 5 (.alloc [.str ⟨#[]⟩, .int .i64 0, .bool false, .nilf, .nilf, .str ⟨#[]⟩, .int .i64 0, .bool false, .nilf, .nilf, .str ⟨#[]⟩, .int .i64 0, .bool false, .nilf, .nilf, .str ⟨#[]⟩, .int .i64 0, .bool false, .nilf, .nilf, .str ⟨#[]⟩, .int .i64 0, .bool false, .nilf, .nilf, .str ⟨#[]⟩, .int .i64 0, .bool false, .nilf, .nilf, .str ⟨#[]⟩, .int .i64 0, .bool false, .nilf, .nilf, .str ⟨#[]⟩, .int .i64 0, .bool false, .nilf, .nilf, .str ⟨#[]⟩, .int .i64 0, .bool false, .nilf, .nilf, .str ⟨#[]⟩, .int .i64 0, .bool false, .nilf, .nilf, .str ⟨#[]⟩, .int .i64 0, .bool false, .nilf, .nilf, .str ⟨#[]⟩, .int .i64 0, .bool false, .nilf, .nilf, .str ⟨#[]⟩, .int .i64 0, .bool false, .nilf, .nilf, .str ⟨#[]⟩, .int .i64 0, .bool false, .nilf, .nilf, .str ⟨#[]⟩, .int .i64 0, .bool false, .nilf, .nilf, .str ⟨#[]⟩, .int .i64 0, .bool false, .nilf, .nilf, .str ⟨#[]⟩, .int .i64 0, .bool false, .nilf, .nilf, .str ⟨#[]⟩, .int .i64 0, .bool false, .nilf, .nilf, .str ⟨#[]⟩, .int .i64 0, .bool false, .nilf, .nilf]), ou (.st (.t 5) (.t 10) 95)])
 (.sq (oP [oo 6 (.mv (.c (.sl 1 (some true) [])))])
 (.sq (.sq (oP [om 11 0, oE 12 11, oB 13 0])
 (.kp [6] [4] (.bk 0 (.lp [(t_int, .inl 6)] [0, 1, 5, 6, 11, 12, 13] Z24))))
 (.sq (oP [om 37 6, om 4 37])
 .rt))))),
 [.t 4]⟩
def Xa : IR :=
 (.sq (.sq (oP [om 7 3, oo 8 (.bin .geq (.t 7) (ki 0))])
 (.cd (.t 8)
 .sk
 (.ex 0)))
 (.sq (.bk 1 (.sq (.op 0 [om 11 0, om 12 3, oA 13 1 1, om 14 3, oD 15 13 14 1, oA 16 15 1, oo 17 (.callS (.t 11) [(.t 12), (.t 16)]), oo 18 (.un .not (.t 17))] (some [0, 1, 3, 18]))
 (.cd (.t 18)
 .rt
 .sk)))
 (oP [om 9 3, oo 10 (.bin .sub (.t 9) (ki 1)), om 3 10])))
def Ww : IR := Xa
theorem Po : evC C L π k0 Ww e s = evC C L π k0 Xa e s := rfl
def Vw : FnIR := ⟨19,
 (.sq (.op 0 [oA 4 1 1, oE 5 4, oo 6 (.bin .sub (.t 5) (ki 1)), om 3 6] (some [0, 1, 3]))
 (.kp [] [] (.bk 0 (.lp [] [0, 1, 3] Ww)))),
 []⟩
def Zid : FnIR := ⟨4,
 (.sq (oP [oB 2 0])
 (.sq (.sq (oP [om 3 0])
 (.cd (.t 3)
 (.sq (oP [oB 2 1])
 .rt)
 .sk))
 (.sq (oP [oB 2 0])
 .rt))),
 [.t 2]⟩
def Z7k : FnIR := ⟨15,
 (.sq (oP [oB 4 0])
 (.sq (.sq (.op 0 [om 5 0, om 6 1, oo 7 (.bin .sub (.t 6) (ki 1)), oo 8 (cv Xg [(.t 7)]), oo 9 (.bin .geq (.t 5) (.t 8))] (some [0, 1, 9]))
 (.cd (.t 9)
 (.sq (.op 0 [om 10 0, om 11 1, oo 12 (cv Xg [(.t 11)]), oo 13 (.bin .sub (.t 10) (.t 12)), om 4 13] (some [4]))
 .rt)
 .sk))
 (.sq (oP [om 14 0, om 4 14])
 .rt))),
 [.t 4]⟩
def Zbz : FnIR := ⟨21,
 (.sq (oP [oK 5])
 (.sq (.op 13 [oC 6 1 0, oC 7 6 0, oC 8 7 2, oA 9 8 1, om 10 0, oD 11 9 10 5, oC 12 11 1, oA 13 12 1, oA 14 2 1, oo 15 (.bin .eql (.t 13) (.t 14)), om 16 15, og 17 16 true (.ld (.t 3) 1 false), oF 18 16 0, og 19 16 true (cv Y8 [(.t 17), (.t 18)]), oH 20 16 19, om 5 20] (some [5]))
 .rt)),
 [.t 5]⟩
def Hp : FnIR := ⟨8,
 (.sq (oP [oB 4 0])
 (.sq (.op 0 [om 5 1, oo 6 (cv Ge [(.t 5)]), oo 7 (cv Yf [(.t 6), (ki 2)]), om 4 7] (some [4]))
 .rt)),
 [.t 4]⟩
def Z5q : FnIR := ⟨5,
 (.sq (oP [oK 2])
 (.sq (oP [om 3 0, oo 4 (cv V9 [(.t 3), (ki 1), (ki 16)]), om 2 4])
 .rt)),
 [.t 2]⟩
def Z0h : FnIR := ⟨24,
 (.sq (oP [oo 0 (.alloc [.str ⟨#[]⟩, .int .i64 0, .bool false, .nilf, .nilf, .str ⟨#[]⟩, .int .i64 0, .bool false, .nilf, .nilf, .str ⟨#[]⟩, .int .i64 0, .bool false, .nilf, .nilf, .str ⟨#[]⟩, .int .i64 0, .bool false, .nilf, .nilf, .str ⟨#[]⟩, .int .i64 0, .bool false, .nilf, .nilf, .str ⟨#[]⟩, .int .i64 0, .bool false, .nilf, .nilf, .str ⟨#[]⟩, .int .i64 0, .bool false, .nilf, .nilf, .str ⟨#[]⟩, .int .i64 0, .bool false, .nilf, .nilf, .str ⟨#[]⟩, .int .i64 0, .bool false, .nilf, .nilf, .str ⟨#[]⟩, .int .i64 0, .bool false, .nilf, .nilf, .str ⟨#[]⟩, .int .i64 0, .bool false, .nilf, .nilf, .str ⟨#[]⟩, .int .i64 0, .bool false, .nilf, .nilf, .str ⟨#[]⟩, .int .i64 0, .bool false, .nilf, .nilf, .str ⟨#[]⟩, .int .i64 0, .bool false, .nilf, .nilf, .str ⟨#[]⟩, .int .i64 0, .bool false, .nilf, .nilf, .str ⟨#[]⟩, .int .i64 0, .bool false, .nilf, .nilf, .str ⟨#[]⟩, .int .i64 0, .bool false, .nilf, .nilf, .str ⟨#[]⟩, .int .i64 0, .bool false, .nilf, .nilf, .str ⟨#[]⟩, .int .i64 0, .bool false, .nilf, .nilf])])
 (.sq (oP [oo 1 (.mv (.c (.fn U6 [])))])
 (.sq (.op 0 [om 2 1, oo 3 (.build [.str ⟨#[]⟩, .int .i64 0, .bool false, .nilf, .nilf] [(0, 1, (.c (.str ⟨#[99, 111, 110, 115, 116]⟩))), (1, 1, (ki 0)), (2, 1, (.c (.bool true))), (3, 1, (.c (.fn Ya []))), (4, 1, (.t 2))]), om 4 1, oo 5 (.build [.str ⟨#[]⟩, .int .i64 0, .bool false, .nilf, .nilf] [(0, 1, (.c (.str ⟨#[108, 101, 97, 102]⟩))), (1, 1, (ki 0)), (2, 1, (.c (.bool true))), (3, 1, (.c (.fn Ya []))), (4, 1, (.t 4))]), oo 6 (.build [.str ⟨#[]⟩, .int .i64 0, .bool false, .nilf, .nilf] [(0, 1, (.c (.str ⟨#[110, 111, 116]⟩))), (1, 1, (ki 1)), (2, 1, (.c (.bool false))), (3, 1, (.c (.fn Zg []))), (4, 1, (.c (.fn Gc [])))]), oo 7 (cw Vt [(.c (.str ⟨#[97, 110, 100]⟩)), (.c (.fn N8 []))]), oo 8 (cw Vt [(.c (.str ⟨#[111, 114]⟩)), (.c (.fn N7 []))]), oo 9 (cw Vt [(.c (.str ⟨#[120, 111, 114]⟩)), (.c (.fn N6 []))]), oo 10 (cw Vt [(.c (.str ⟨#[97, 100, 100]⟩)), (.c (.fn N5 []))]), oo 11 (cw Vt [(.c (.str ⟨#[115, 117, 98]⟩)), (.c (.fn N4 []))]), oo 12 (cw Vt [(.c (.str ⟨#[109, 117, 108]⟩)), (.c (.fn N3 []))]), oo 13 (cw Pe [(.c (.str ⟨#[101, 113]⟩)), (.c (.fn N2 []))]), oo 14 (cw Pe [(.c (.str ⟨#[108, 116]⟩)), (.c (.fn Um []))]), oo 15 (cw Pe [(.c (.str ⟨#[115, 108, 116]⟩)), (.c (.fn Ul []))]), oo 16 (.build [.str ⟨#[]⟩, .int .i64 0, .bool false, .nilf, .nilf] [(0, 1, (.c (.str ⟨#[109, 117, 120]⟩))), (1, 1, (ki 3)), (2, 1, (.c (.bool false))), (3, 1, (.c (.fn Mu []))), (4, 1, (.c (.fn Mt [])))]), oo 17 (.build [.str ⟨#[]⟩, .int .i64 0, .bool false, .nilf, .nilf] [(0, 1, (.c (.str ⟨#[106, 111, 105, 110]⟩))), (1, 1, (ki 2)), (2, 1, (.c (.bool false))), (3, 1, (.c (.fn Ms []))), (4, 1, (.c (.fn Mr [])))]), oo 18 (.build [.str ⟨#[]⟩, .int .i64 0, .bool false, .nilf, .nilf] [(0, 1, (.c (.str ⟨#[115, 108, 105, 99, 101]⟩))), (1, 1, (ki 1)), (2, 1, (.c (.bool true))), (3, 1, (.c (.fn Mq []))), (4, 1, (.c (.fn Mp [])))]), oo 19 (.build [.str ⟨#[]⟩, .int .i64 0, .bool false, .nilf, .nilf] [(0, 1, (.c (.str ⟨#[122, 101, 120, 116]⟩))), (1, 1, (ki 1)), (2, 1, (.c (.bool false))), (3, 1, (.c (.fn Y9 []))), (4, 1, (.c (.fn Mo [])))]), oo 20 (.build [.str ⟨#[]⟩, .int .i64 0, .bool false, .nilf, .nilf] [(0, 1, (.c (.str ⟨#[115, 101, 120, 116]⟩))), (1, 1, (ki 1)), (2, 1, (.c (.bool false))), (3, 1, (.c (.fn Y9 []))), (4, 1, (.c (.fn Mn [])))]), oo 21 (.build [.str ⟨#[]⟩, .int .i64 0, .bool false, .nilf, .nilf] [(0, 1, (.c (.str ⟨#[115, 104, 108]⟩))), (1, 1, (ki 2)), (2, 1, (.c (.bool false))), (3, 1, (.c (.fn Yp []))), (4, 1, (.c (.fn Mm [])))]), oo 22 (.build [.str ⟨#[]⟩, .int .i64 0, .bool false, .nilf, .nilf] [(0, 1, (.c (.str ⟨#[115, 104, 114]⟩))), (1, 1, (ki 2)), (2, 1, (.c (.bool false))), (3, 1, (.c (.fn Yp []))), (4, 1, (.c (.fn Ml [])))]), oo 23 (.build [.str ⟨#[]⟩, .int .i64 0, .bool false, .nilf, .nilf, .str ⟨#[]⟩, .int .i64 0, .bool false, .nilf, .nilf, .str ⟨#[]⟩, .int .i64 0, .bool false, .nilf, .nilf, .str ⟨#[]⟩, .int .i64 0, .bool false, .nilf, .nilf, .str ⟨#[]⟩, .int .i64 0, .bool false, .nilf, .nilf, .str ⟨#[]⟩, .int .i64 0, .bool false, .nilf, .nilf, .str ⟨#[]⟩, .int .i64 0, .bool false, .nilf, .nilf, .str ⟨#[]⟩, .int .i64 0, .bool false, .nilf, .nilf, .str ⟨#[]⟩, .int .i64 0, .bool false, .nilf, .nilf, .str ⟨#[]⟩, .int .i64 0, .bool false, .nilf, .nilf, .str ⟨#[]⟩, .int .i64 0, .bool false, .nilf, .nilf, .str ⟨#[]⟩, .int .i64 0, .bool false, .nilf, .nilf, .str ⟨#[]⟩, .int .i64 0, .bool false, .nilf, .nilf, .str ⟨#[]⟩, .int .i64 0, .bool false, .nilf, .nilf, .str ⟨#[]⟩, .int .i64 0, .bool false, .nilf, .nilf, .str ⟨#[]⟩, .int .i64 0, .bool false, .nilf, .nilf, .str ⟨#[]⟩, .int .i64 0, .bool false, .nilf, .nilf, .str ⟨#[]⟩, .int .i64 0, .bool false, .nilf, .nilf, .str ⟨#[]⟩, .int .i64 0, .bool false, .nilf, .nilf] [(0, 5, (.t 3)), (5, 5, (.t 5)), (10, 5, (.t 6)), (15, 5, (.t 7)), (20, 5, (.t 8)), (25, 5, (.t 9)), (30, 5, (.t 10)), (35, 5, (.t 11)), (40, 5, (.t 12)), (45, 5, (.t 13)), (50, 5, (.t 14)), (55, 5, (.t 15)), (60, 5, (.t 16)), (65, 5, (.t 17)), (70, 5, (.t 18)), (75, 5, (.t 19)), (80, 5, (.t 20)), (85, 5, (.t 21)), (90, 5, (.t 22))]), ou (.st (.t 0) (.t 23) 95)] (some [0]))
 .rt))),
 [.c 0 95 true]⟩
def Xq : IR :=
 (.sq (oP [oG 12 11 10])
 (.sq (.cd (.t 12)
 .sk
 (.ex 0))
 (.sq (.bk 1 (.sq (.op 0 [om 13 11, oD 14 9 11 4, oJ 15 14 4, oo 7 (.alloc [.int .i64 0, .int .i64 0, .sl 1 (some true) [], .int .i64 0]), om 6 13, ou (.st (.t 7) (.t 15) 4)] (some [1, 6, 7, 9, 10, 11]))
 (.sq (.op 0 [om 16 1, om 17 6, oJ 18 7 4, oo 19 (.callV true (.t 16) [(.t 17), (.t 18)]), om 8 19] (some [1, 6, 8, 9, 10, 11]))
 (.sq (oP [om 20 8, oo 21 (.bin .neq (.t 20) (ki 0))])
 (.cd (.t 21)
 (.sq (.op 0 [om 22 6, om 23 8, om 4 22, om 5 23] (some [4, 5]))
 .rt)
 .sk)))))
 (oP [oI 24 11 1, om 11 24]))))
def P8 : IR := Xq
theorem Qf : evC C L π k0 P8 e s = evC C L π k0 Xq e s := rfl
def Ka : FnIR := ⟨25,
 (.sq (oP [oB 4 0, oB 5 0])
 (.sq (.sq (oP [om 9 0, oE 10 9, oB 11 0])
 (.kp [] [4, 5] (.bk 0 (.lp [] [1, 9, 10, 11] P8))))
 (.sq (oP [oB 4 0, oB 5 0])
 .rt))),
 [.t 4, .t 5]⟩
def Vd : IR :=
 (.sq (oP [oG 59 58 57])
 (.sq (.cd (.t 59)
 .sk
 (.ex 0))
 (.sq (.bk 1 (.sq (oP [oD 60 56 58 1, oA 61 60 1, om 14 61])
 (.op 0 [om 62 12, oA 63 4 1, om 64 14, oD 65 63 64 4, oC 66 65 1, oA 67 66 1, oo 68 (.bsl t_int 1 false [.int .i64 0] 1 [(0, (.t 67))]), oo 69 (.app (.t 62) (.t 68) t_int 1), om 12 69] (some [4, 6, 9, 12, 56, 57, 58]))))
 (oP [oI 70 58 1, om 58 70]))))
def Pr : IR := Vd
theorem Fb : evC C L π k0 Pr e s = evC C L π k0 Vd e s := rfl
def Yq : FnIR := ⟨80,
 (.sq (oP [oM 5 0 1, oM 6 1 4, oB 7 0])
 (.sq (.sq (.op 6 [oC 15 6 0, oA 16 15 1, oo 17 (cv V9 [(.t 16), (ki 0), (ki 18)]), oo 18 (cv Yf [(.t 17), (ki 15)]), oC 19 6 1, oA 20 19 1, oo 21 (cv Ge [(.t 20)]), oo 22 (cv Yf [(.t 21), (ki 2)]), oo 23 (.bsl Zy 1 false [.int .i64 0] 2 [(0, (.t 18)), (1, (.t 22))]), oo 24 (cv Pf [(.t 23)]), om 8 24] (some [2, 3, 4, 5, 6, 8]))
 (.sq (oP [om 25 8, oo 26 (.bin .neq (.t 25) (ki 0))])
 (.cd (.t 26)
 (.sq (oP [om 27 8, om 7 27])
 .rt)
 .sk)))
 (.sq (.op 0 [oC 28 6 0, oA 29 28 1, oo 30 (.iaa (.t 2) (.t 29) 19 5), oJ 31 30 5, oo 9 (.alloc [.str ⟨#[]⟩, .int .i64 0, .bool false, .nilf, .nilf]), ou (.st (.t 9) (.t 31) 5)] (some [3, 4, 5, 6, 9]))
 (.sq (.op 0 [oC 32 6 2, oA 33 32 1, oo 34 (.mkf Wi [(.t 5)]), oo 35 (cv Yn [(.t 33), (.t 34)]), om 10 35] (some [3, 4, 6, 9, 10]))
 (.sq (.sq (.op 13 [oC 36 6 2, oA 37 36 1, oE 38 37, oC 39 9 1, oA 40 39 1, oo 41 (.bin .eql (.t 38) (.t 40)), oo 42 (cv Yf [(.t 41), (ki 10)]), om 43 10, oo 44 (.un .not (.t 43)), oo 45 (cv Yf [(.t 44), (ki 9)]), oA 46 3 1, oJ 47 6 4, oJ 48 9 5, oo 49 (cv Fg [(.t 46), (.t 47), (.t 48)]), oo 50 (.bsl Zy 1 false [.int .i64 0] 3 [(0, (.t 42)), (1, (.t 45)), (2, (.t 49))]), oo 51 (cv Pf [(.t 50)]), om 11 51] (some [4, 6, 9, 11]))
 (.sq (oP [om 52 11, oo 53 (.bin .neq (.t 52) (ki 0))])
 (.cd (.t 53)
 (.sq (oP [om 54 11, om 7 54])
 .rt)
 .sk)))
 (.sq (oP [oo 12 (.mv (.c (.sl 1 (some true) [])))])
 (.sq (.sq (.op 0 [oC 55 6 2, oA 56 55 1, oE 57 56, oB 58 0] (some [4, 6, 9, 12, 56, 57, 58]))
 (.kp [6, 9, 12] [7] (.bk 0 (.lp [(t_int, .inl 12)] [4, 6, 9, 12, 56, 57, 58] Pr))))
 (.sq (.op 0 [oC 71 9 3, oA 72 71 1, oC 73 6 1, oA 74 73 1, om 75 12, oC 76 6 3, oA 77 76 1, oo 78 (.callV true (.t 72) [(.t 74), (.t 75), (.t 77)]), oo 79 (cv Yf [(.t 78), (ki 25)]), om 7 79] (some [7]))
 .rt)))))))),
 [.t 7]⟩
def Z7o : FnIR := ⟨15,
 (.sq (oP [oK 6])
 (.sq (.op 0 [om 7 1, om 8 0, oo 9 (.bin .leq (.t 7) (.t 8)), om 10 9, oF 11 10 0, oF 12 10 2, og 13 10 true (.bin .leq (.t 11) (.t 12)), oH 14 10 13, om 6 14] (some [6]))
 .rt)),
 [.t 6]⟩
def Mc : FnIR := ⟨9,
 (.sq (oP [oK 3])
 (.sq (.op 0 [om 4 0, oA 5 1 1, oo 6 (.bin .sub (.t 5) (ki 1)), oo 7 (cv V9 [(.t 4), (ki 0), (.t 6)]), oo 8 (.un .not (.t 7)), om 3 8] (some [3]))
 .rt)),
 [.t 3]⟩
def V5 : FnIR := ⟨49,
 (.sq (oP [oM 4 1 4, oM 5 2 5, oB 6 0])
 (.sq (.sq (oP [oC 7 4 0, oA 8 7 1])
 (.bk 0 (.sq (oP [oo 10 (.bin .eql (.t 8) (ki 0)), om 9 10])
 (.cd (.t 9)
 (.sq (.op 0 [oC 11 4 3, oA 12 11 1, oC 13 4 1, oA 14 13 1, oo 15 (cv Z4z [(.t 12), (.t 14)]), oo 16 (cv Yf [(.t 15), (ki 2)]), om 6 16] (some [6]))
 .rt)
 (.sq (oP [oo 18 (.bin .eql (.t 8) (ki 1)), om 17 18])
 (.cd (.t 17)
 (.sq (.sq (.op 0 [oC 19 4 3, oA 20 19 1, om 21 0, oE 22 21, oo 23 (.bin .sub (.t 22) (ki 1)), oo 24 (cv V9 [(.t 20), (ki 0), (.t 23)]), oo 25 (.un .not (.t 24))] (some [0, 4, 25]))
 (.cd (.t 25)
 (.sq (oP [oB 6 6])
 .rt)
 .sk))
 (.sq (.op 7 [om 26 0, oC 27 4 3, oA 28 27 1, oD 29 26 28 1, oA 30 29 1, oC 31 4 1, oA 32 31 1, oo 33 (.bin .eql (.t 30) (.t 32)), oo 34 (cv Yf [(.t 33), (ki 25)]), om 6 34] (some [6]))
 .rt))
 (.sq (oP [oo 36 (.bin .eql (.t 8) (ki 14)), om 35 36])
 (.cd (.t 35)
 (.sq (.op 0 [oC 37 4 3, oA 38 37 1, oo 39 (cv V9 [(.t 38), (ki 0), (ki 15)]), oo 40 (cv Yf [(.t 39), (ki 2)]), om 6 40] (some [6]))
 .rt)
 .sk))))))))
 (.sq (.op 0 [oC 41 5 2, oA 42 41 1, om 43 42, og 44 43 false (.fa (.t 4) 3), og 45 43 false (.ld (.t 44) 1 false), og 46 43 false (.bin .eql (.t 45) (ki 0)), oo 47 (.pick (.t 43) (.c (.bool true)) (.t 46)), oo 48 (cv Yf [(.t 47), (ki 3)]), om 6 48] (some [6]))
 .rt))),
 [.t 6]⟩
def Ze : FnIR := ⟨14,
 (.sq (oP [oB 2 0])
 (.sq (.sq (oP [om 3 0])
 (.bk 0 (.sq (.sq (oP [oo 5 (.bin .eql (.t 3) (ki 0)), om 4 5])
 (.cd (.t 4)
 .sk
 (oP [oo 6 (.bin .eql (.t 3) (ki 1)), om 4 6])))
 (.cd (.t 4)
 (.sq (oP [oB 2 0])
 .rt)
 (.sq (.sq (oP [oo 8 (.bin .eql (.t 3) (ki 2)), om 7 8])
 (.cd (.t 7)
 .sk
 (.sq (oP [oo 9 (.bin .eql (.t 3) (ki 14)), om 7 9])
 (.cd (.t 7)
 .sk
 (.sq (oP [oo 10 (.bin .eql (.t 3) (ki 15)), om 7 10])
 (.cd (.t 7)
 .sk
 (oP [oo 11 (.bin .eql (.t 3) (ki 16)), om 7 11])))))))
 (.cd (.t 7)
 (.sq (oP [oB 2 1])
 .rt)
 (.sq (oP [oo 13 (.bin .eql (.t 3) (ki 12)), om 12 13])
 (.cd (.t 12)
 (.sq (oP [oB 2 3])
 .rt)
 .sk))))))))
 (.sq (oP [oB 2 2])
 .rt))),
 [.t 2]⟩
def Pm : IR :=
 (.sq (.sq (.op 0 [om 7 6, oC 8 3 2, oA 9 8 1, oE 10 9, oG 11 7 10] (some [0, 3, 5, 6, 11]))
 (.cd (.t 11)
 .sk
 (.ex 0)))
 (.sq (.bk 1 (.op 0 [om 14 5, om 15 0, oC 16 3 2, oA 17 16 1, om 18 6, oD 19 17 18 1, oA 20 19 1, oD 21 15 20 4, oC 22 21 1, oA 23 22 1, oo 24 (.bsl t_int 1 false [.int .i64 0] 1 [(0, (.t 23))]), oo 25 (.app (.t 14) (.t 24) t_int 1), om 5 25] (some [0, 3, 5, 6])))
 (oP [om 12 6, oI 13 12 1, om 6 13])))
def Hi : IR := Pm
theorem Z2e : evC C L π k0 Hi e s = evC C L π k0 Pm e s := rfl
def Z1x : FnIR := ⟨133,
 (.sq (oP [oM 3 1 4, oK 4])
 (.sq (oP [oo 5 (.mv (.c (.sl 1 (some true) [])))])
 (.sq (.sq (oP [oB 6 0])
 (.kp [3, 5] [4] (.bk 0 (.lp [(t_int, .inl 5)] [0, 3, 5, 6] Hi))))
 (.sq (.sq (oP [oC 26 3 0, oA 27 26 1])
 (.bk 2 (.sq (oP [oo 29 (.bin .eql (.t 27) (ki 2)), om 28 29])
 (.cd (.t 28)
 (.sq (.op 5 [om 30 5, oo 31 (.ia (.t 30) (ki 0) 1), oA 32 31 1, oC 33 3 1, oA 34 33 1, oo 35 (.bin .eql (.t 32) (.t 34)), om 4 35] (some [4]))
 .rt)
 (.sq (.sq (oP [oo 37 (.bin .eql (.t 27) (ki 3)), om 36 37])
 (.cd (.t 36)
 .sk
 (.sq (oP [oo 38 (.bin .eql (.t 27) (ki 4)), om 36 38])
 (.cd (.t 36)
 .sk
 (.sq (oP [oo 39 (.bin .eql (.t 27) (ki 5)), om 36 39])
 (.cd (.t 36)
 .sk
 (.sq (oP [oo 40 (.bin .eql (.t 27) (ki 6)), om 36 40])
 (.cd (.t 36)
 .sk
 (.sq (oP [oo 41 (.bin .eql (.t 27) (ki 7)), om 36 41])
 (.cd (.t 36)
 .sk
 (oP [oo 42 (.bin .eql (.t 27) (ki 8)), om 36 42])))))))))))
 (.cd (.t 36)
 (.sq (.op 12 [om 43 5, oo 44 (.ia (.t 43) (ki 0) 1), oA 45 44 1, oC 46 3 1, oA 47 46 1, oo 48 (.bin .eql (.t 45) (.t 47)), om 49 48, oF 50 49 5, og 51 49 true (.ia (.t 50) (ki 1) 1), og 52 49 true (.ld (.t 51) 1 false), og 53 49 true (.fa (.t 3) 1), og 54 49 true (.ld (.t 53) 1 false), og 55 49 true (.bin .eql (.t 52) (.t 54)), oH 56 49 55, om 4 56] (some [4]))
 .rt)
 (.sq (.sq (oP [oo 58 (.bin .eql (.t 27) (ki 9)), om 57 58])
 (.cd (.t 57)
 .sk
 (.sq (oP [oo 59 (.bin .eql (.t 27) (ki 10)), om 57 59])
 (.cd (.t 57)
 .sk
 (oP [oo 60 (.bin .eql (.t 27) (ki 11)), om 57 60])))))
 (.cd (.t 57)
 (.sq (.op 6 [om 61 5, oo 62 (.ia (.t 61) (ki 0) 1), oA 63 62 1, om 64 5, oo 65 (.ia (.t 64) (ki 1) 1), oA 66 65 1, oo 67 (.bin .eql (.t 63) (.t 66)), om 68 67, og 69 68 true (.fa (.t 3) 1), og 70 68 true (.ld (.t 69) 1 false), og 71 68 true (.bin .eql (.t 70) (ki 1)), oH 72 68 71, om 4 72] (some [4]))
 .rt)
 (.sq (oP [oo 74 (.bin .eql (.t 27) (ki 12)), om 73 74])
 (.cd (.t 73)
 (.sq (.op 18 [om 75 5, oo 76 (.ia (.t 75) (ki 0) 1), oA 77 76 1, oo 78 (.bin .eql (.t 77) (ki 1)), om 79 78, oF 80 79 5, og 81 79 true (.ia (.t 80) (ki 1) 1), og 82 79 true (.ld (.t 81) 1 false), og 83 79 true (.fa (.t 3) 1), og 84 79 true (.ld (.t 83) 1 false), og 85 79 true (.bin .eql (.t 82) (.t 84)), oH 86 79 85, om 87 86, oF 88 87 5, og 89 87 true (.ia (.t 88) (ki 2) 1), og 90 87 true (.ld (.t 89) 1 false), og 91 87 true (.fa (.t 3) 1), og 92 87 true (.ld (.t 91) 1 false), og 93 87 true (.bin .eql (.t 90) (.t 92)), oH 94 87 93, om 4 94] (some [4]))
 .rt)
 (.sq (oP [oo 96 (.bin .eql (.t 27) (ki 13)), om 95 96])
 (.cd (.t 95)
 (.sq (.op 9 [om 97 5, oo 98 (.ia (.t 97) (ki 0) 1), oA 99 98 1, om 100 5, oo 101 (.ia (.t 100) (ki 1) 1), oA 102 101 1, oo 103 (.bin .add (.t 99) (.t 102)), oC 104 3 1, oA 105 104 1, oo 106 (.bin .eql (.t 103) (.t 105)), om 4 106] (some [4]))
 .rt)
 (.sq (oP [oo 108 (.bin .eql (.t 27) (ki 14)), om 107 108])
 (.cd (.t 107)
 (.sq (.op 8 [oC 109 3 3, oA 110 109 1, oC 111 3 1, oA 112 111 1, oo 113 (.bin .add (.t 110) (.t 112)), om 114 5, oo 115 (.ia (.t 114) (ki 0) 1), oA 116 115 1, oo 117 (.bin .leq (.t 113) (.t 116)), om 4 117] (some [4]))
 .rt)
 (.sq (.sq (oP [oo 119 (.bin .eql (.t 27) (ki 15)), om 118 119])
 (.cd (.t 118)
 .sk
 (oP [oo 120 (.bin .eql (.t 27) (ki 16)), om 118 120])))
 (.cd (.t 118)
 (.sq (.op 5 [om 121 5, oo 122 (.ia (.t 121) (ki 0) 1), oA 123 122 1, oC 124 3 1, oA 125 124 1, oo 126 (.bin .leq (.t 123) (.t 125)), om 4 126] (some [4]))
 .rt)
 .sk))))))))))))))))
 (.sq (.op 5 [om 127 5, oo 128 (.ia (.t 127) (ki 0) 1), oA 129 128 1, oC 130 3 1, oA 131 130 1, oo 132 (.bin .eql (.t 129) (.t 131)), om 4 132] (some [4]))
 .rt))))),
 [.t 4]⟩
def Zie : FnIR := ⟨19,
 (.sq (oP [oM 4 1 1, oB 6 0])
 (.sq (.op 0 [om 8 2, oo 9 (.mkf Z4y [(.t 4)]), oo 10 (cv Yn [(.t 8), (.t 9)]), om 7 10] (some [0, 4, 7]))
 (.sq (.op 0 [om 11 0, oA 12 4 1, oo 13 (cv Ll [(.t 11), (.t 12)]), om 14 7, oo 15 (.un .not (.t 14)), oo 16 (cv Yf [(.t 15), (ki 6)]), oo 17 (.bsl Zy 1 false [.int .i64 0] 2 [(0, (.t 13)), (1, (.t 16))]), oo 18 (cv Pf [(.t 17)]), om 6 18] (some [6]))
 .rt))),
 [.t 6]⟩
def Z85 : IR :=
 (.sq (oP [oG 15 14 13])
 (.sq (.cd (.t 15)
 .sk
 (.ex 0))
 (.sq (.bk 1 (.sq (.op 0 [om 16 14, oD 17 12 14 4, oJ 18 17 4, oo 8 (.alloc [.int .i64 0, .int .i64 0, .sl 1 (some true) [], .int .i64 0]), om 7 16, ou (.st (.t 8) (.t 18) 4)] (some [5, 6, 7, 8, 12, 13, 14]))
 (.sq (.op 0 [om 19 6, om 20 7, oD 21 19 20 1, oA 22 21 1, om 23 22, og 24 23 true (.fa (.t 8) 0), og 25 23 true (.ld (.t 24) 1 false), og 26 23 true (.bin .eql (.t 25) (ki 1)), oH 27 23 26] (some [5, 6, 8, 12, 13, 14, 27]))
 (.cd (.t 27)
 (.op 0 [om 28 5, oC 29 8 3, oA 30 29 1, oo 31 (.bsl t_int 1 false [.int .i64 0] 1 [(0, (.t 30))]), oo 32 (.app (.t 28) (.t 31) t_int 1), om 5 32] (some [5, 6, 12, 13, 14]))
 .sk))))
 (oP [oI 33 14 1, om 14 33]))))
def Z7s : IR := Z85
def Zbx : FnIR := ⟨38,
 (.sq (oP [oo 4 (.mv (.c (.sl 1 (some true) [])))])
 (.sq (oP [oo 5 (.mv (.c (.sl 1 (some true) [])))])
 (.sq (.op 0 [om 9 0, om 10 1, oo 11 (cw Zft [(.t 9), (.t 10)]), om 6 11] (some [0, 5, 6]))
 (.sq (.sq (oP [om 12 0, oE 13 12, oB 14 0])
 (.kp [5] [4] (.bk 0 (.lp [(t_int, .inl 5)] [5, 6, 12, 13, 14] Z7s))))
 (.sq (oP [om 34 5, oo 35 (.callS (.c (.fn Vg [])) [(.t 34)])])
 (.sq (oP [om 36 5, oo 37 (.callS (.c (.fn Vb [])) [(.t 36)]), om 4 37])
 .rt)))))),
 [.t 4]⟩
def Ks : IR :=
 (.sq (oP [oG 17 16 15])
 (.sq (.cd (.t 17)
 .sk
 (.ex 0))
 (.sq (.bk 1 (.sq (oP [oD 18 14 16 1, oA 19 18 1, om 12 19])
 (.op 14 [om 20 9, om 21 1, om 22 12, oD 23 21 22 4, oC 24 23 1, oA 25 24 1, oo 26 (.bsl t_int 1 false [.int .i64 0] 1 [(0, (.t 25))]), oo 27 (.apx (.t 20) (.t 26) t_int 1 [0, 1, 2, 3, 4, 5, 6]), om 28 10, om 29 3, om 30 12, oD 31 29 30 1, oA 32 31 1, oo 33 (.bsl t_int 1 false [.int .i64 0] 1 [(0, (.t 32))]), oo 34 (.app (.t 28) (.t 33) t_int 1), om 9 27, om 10 34] (some [0, 1, 3, 6, 9, 10, 14, 15, 16]))))
 (oP [oI 35 16 1, om 16 35]))))
def Z0i : IR := Ks
theorem Z4r : evC C L π k0 Z0i e s = evC C L π k0 Ks e s := rfl
def Z5r : FnIR := ⟨47,
 (.sq (oP [oM 6 2 4, oB 8 0])
 (.sq (oP [oo 9 (.mv (.c (.sl 1 (some true) []))), oo 10 (.mv (.c (.sl 1 (some true) [])))])
 (.sq (.sq (.op 0 [oC 13 6 2, oA 14 13 1, oE 15 14, oB 16 0] (some [0, 1, 3, 6, 9, 10, 14, 15, 16]))
 (.kp [0, 6, 9, 10] [8] (.bk 0 (.lp [(t_int, .inl 10), (t_int, .inl 9)] [0, 1, 3, 6, 9, 10, 14, 15, 16] Z0i))))
 (.sq (.op 10 [om 36 0, oC 37 6 0, oA 38 37 1, oo 39 (.nck (.t 36)), oo 40 (.iaa (.t 39) (.t 38) 19 5), oC 41 40 4, oA 42 41 1, oJ 43 6 4, om 44 9, om 45 10, oo 46 (.callV true (.t 42) [(.t 43), (.t 44), (.t 45)]), om 8 46] (some [8]))
 .rt)))),
 [.t 8]⟩
def Zeh : FnIR := ⟨9,
 (.sq (oP [oM 3 0 4, oB 6 0])
 (.sq (oP [oC 7 3 3, oA 8 7 1, om 6 8])
 .rt)),
 [.t 6]⟩
def Z47 : FnIR := ⟨7,
 (.sq (oP [oK 6])
 (.sq (oP [oo 6 (.mv (.c (.bool true)))])
 .rt)),
 [.t 6]⟩
def Ze8 : FnIR := ⟨11,
 (.sq (oP [oM 3 0 1, oK 6])
 (.sq (.op 0 [om 7 1, oo 8 (.mkf Fw [(.t 3)]), oo 9 (cv Yn [(.t 7), (.t 8)]), oo 10 (.un .not (.t 9)), om 6 10] (some [6]))
 .rt)),
 [.t 6]⟩
def Zeg : FnIR := ⟨14,
 (.sq (oP [oM 3 0 4, oB 6 0])
 (.sq (.op 6 [om 7 2, oo 8 (.ia (.t 7) (ki 0) 1), oA 9 8 1, oo 10 (.un .xor (.t 9)), oC 11 3 1, oA 12 11 1, oo 13 (cv Gd [(.t 10), (.t 12)]), om 6 13] (some [6]))
 .rt)),
 [.t 6]⟩
def Zej : FnIR := ⟨10,
 (.sq (oP [oB 4 0])
 (.sq (.op 0 [om 5 0, om 6 1, oo 7 (.bin .shl (ki 1) (.t 6)), oo 8 (.bin .sub (.t 7) (ki 1)), oo 9 (.bin .and (.t 5) (.t 8)), om 4 9] (some [4]))
 .rt)),
 [.t 4]⟩
def Z7t : FnIR := ⟨8,
 (.sq (oP [oM 3 1 1, oo 4 (.alloc [.str ⟨#[]⟩, .int .i64 0, .bool false, .nilf, .nilf])])
 (.sq (.op 0 [om 5 0, oo 6 (.mkf Zo [(.t 3)]), oo 7 (.build [.str ⟨#[]⟩, .int .i64 0, .bool false, .nilf, .nilf] [(0, 1, (.t 5)), (1, 1, (ki 2)), (2, 1, (.c (.bool false))), (3, 1, (.c (.fn Zg []))), (4, 1, (.t 6))]), ou (.st (.t 4) (.t 7) 5)] (some [4]))
 .rt)),
 [.c 4 5 true]⟩
def Zef : FnIR := ⟨8,
 (.sq (oP [oB 4 0])
 (.sq (.op 0 [om 5 0, om 6 1, oo 7 (.bin .and (.t 5) (.t 6)), om 4 7] (some [4]))
 .rt)),
 [.t 4]⟩
def Zee : FnIR := ⟨8,
 (.sq (oP [oB 4 0])
 (.sq (.op 0 [om 5 0, om 6 1, oo 7 (.bin .or (.t 5) (.t 6)), om 4 7] (some [4]))
 .rt)),
 [.t 4]⟩
def Zed : FnIR := ⟨8,
 (.sq (oP [oB 4 0])
 (.sq (.op 0 [om 5 0, om 6 1, oo 7 (.bin .xor (.t 5) (.t 6)), om 4 7] (some [4]))
 .rt)),
 [.t 4]⟩
def Zec : FnIR := ⟨8,
 (.sq (oP [oB 4 0])
 (.sq (.op 0 [om 5 0, om 6 1, oo 7 (.bin .add (.t 5) (.t 6)), om 4 7] (some [4]))
 .rt)),
 [.t 4]⟩
def Zeb : FnIR := ⟨8,
 (.sq (oP [oB 4 0])
 (.sq (.op 0 [om 5 0, om 6 1, oo 7 (.bin .sub (.t 5) (.t 6)), om 4 7] (some [4]))
 .rt)),
 [.t 4]⟩
def Zea : FnIR := ⟨8,
 (.sq (oP [oB 4 0])
 (.sq (.op 0 [om 5 0, om 6 1, oo 7 (.bin .mul (.t 5) (.t 6)), om 4 7] (some [4]))
 .rt)),
 [.t 4]⟩
def Z40 : FnIR := ⟨8,
 (.sq (oP [oM 3 1 1, oo 4 (.alloc [.str ⟨#[]⟩, .int .i64 0, .bool false, .nilf, .nilf])])
 (.sq (.op 0 [om 5 0, oo 6 (.mkf Y2 [(.t 3)]), oo 7 (.build [.str ⟨#[]⟩, .int .i64 0, .bool false, .nilf, .nilf] [(0, 1, (.t 5)), (1, 1, (ki 2)), (2, 1, (.c (.bool false))), (3, 1, (.c (.fn Zq []))), (4, 1, (.t 6))]), ou (.st (.t 4) (.t 7) 5)] (some [4]))
 .rt)),
 [.c 4 5 true]⟩
def Ze9 : FnIR := ⟨10,
 (.sq (oP [oK 6])
 (.sq (.op 0 [om 7 0, om 8 1, oo 9 (.bin .eql (.t 7) (.t 8)), om 6 9] (some [6]))
 .rt)),
 [.t 6]⟩
def Zak : FnIR := ⟨10,
 (.sq (oP [oK 6])
 (.sq (.op 0 [om 7 0, om 8 1, oG 9 7 8, om 6 9] (some [6]))
 .rt)),
 [.t 6]⟩
def Zaj : FnIR := ⟨14,
 (.sq (oP [oK 6])
 (.sq (.op 0 [om 7 0, om 8 2, oo 9 (cv H8 [(.t 7), (.t 8)]), om 10 1, om 11 2, oo 12 (cv H8 [(.t 10), (.t 11)]), oG 13 9 12, om 6 13] (some [6]))
 .rt)),
 [.t 6]⟩
def Z3z : FnIR := ⟨16,
 (.sq (oP [oB 4 0])
 (.sq (.sq (.op 0 [om 5 0, om 6 1, oo 7 (.bin .sub (.t 6) (ki 1)), oo 8 (.bin .shr (.t 5) (.t 7)), oo 9 (.bin .and (.t 8) (ki 1)), oo 10 (.bin .eql (.t 9) (ki 1))] (some [0, 1, 10]))
 (.cd (.t 10)
 (.op 0 [om 11 0, om 12 1, oo 13 (.bin .shl (ki 1) (.t 12)), oo 14 (.bin .sub (.t 11) (.t 13)), om 0 14] (some [0]))
 .sk))
 (.sq (oP [om 15 0, om 4 15])
 .rt))),
 [.t 4]⟩
def Zai : FnIR := ⟨25,
 (.sq (oP [oK 6])
 (.sq (.op 0 [om 7 1, oo 8 (.ia (.t 7) (ki 0) 1), oA 9 8 1, oo 10 (.bin .eql (.t 9) (ki 1)), om 11 10, oF 12 11 1, og 13 11 true (.ia (.t 12) (ki 1) 1), og 14 11 true (.ld (.t 13) 1 false), oF 15 11 0, og 16 11 true (.bin .eql (.t 14) (.t 15)), oH 17 11 16, om 18 17, oF 19 18 1, og 20 18 true (.ia (.t 19) (ki 2) 1), og 21 18 true (.ld (.t 20) 1 false), oF 22 18 0, og 23 18 true (.bin .eql (.t 21) (.t 22)), oH 24 18 23, om 6 24] (some [6]))
 .rt)),
 [.t 6]⟩
def Zah : FnIR := ⟨17,
 (.sq (oP [oM 3 0 4, oB 6 0])
 (.sq (.sq (.op 0 [om 7 2, oo 8 (.ia (.t 7) (ki 0) 1), oA 9 8 1, oo 10 (.bin .eql (.t 9) (ki 1))] (some [2, 10]))
 (.cd (.t 10)
 (.sq (.op 0 [om 11 2, oo 12 (.ia (.t 11) (ki 1) 1), oA 13 12 1, om 6 13] (some [6]))
 .rt)
 .sk))
 (.sq (.op 0 [om 14 2, oo 15 (.ia (.t 14) (ki 2) 1), oA 16 15 1, om 6 16] (some [6]))
 .rt))),
 [.t 6]⟩
def Zag : FnIR := ⟨16,
 (.sq (oP [oK 6])
 (.sq (.op 8 [om 7 1, oo 8 (.ia (.t 7) (ki 0) 1), oA 9 8 1, om 10 1, oo 11 (.ia (.t 10) (ki 1) 1), oA 12 11 1, oo 13 (.bin .add (.t 9) (.t 12)), om 14 0, oo 15 (.bin .eql (.t 13) (.t 14)), om 6 15] (some [6]))
 .rt)),
 [.t 6]⟩
def Zaf : FnIR := ⟨18,
 (.sq (oP [oM 3 0 4, oB 6 0])
 (.sq (.op 10 [om 7 2, oo 8 (.ia (.t 7) (ki 0) 1), oA 9 8 1, om 10 1, oo 11 (.ia (.t 10) (ki 1) 1), oA 12 11 1, oo 13 (.bin .shl (.t 9) (.t 12)), om 14 2, oo 15 (.ia (.t 14) (ki 1) 1), oA 16 15 1, oo 17 (.bin .or (.t 13) (.t 16)), om 6 17] (some [6]))
 .rt)),
 [.t 6]⟩
def Zae : FnIR := ⟨14,
 (.sq (oP [oK 6])
 (.sq (.op 0 [om 7 2, om 8 0, oo 9 (.bin .add (.t 7) (.t 8)), om 10 1, oo 11 (.ia (.t 10) (ki 0) 1), oA 12 11 1, oo 13 (.bin .leq (.t 9) (.t 12)), om 6 13] (some [6]))
 .rt)),
 [.t 6]⟩
def Zad : FnIR := ⟨16,
 (.sq (oP [oM 3 0 4, oB 6 0])
 (.sq (.op 8 [om 7 2, oo 8 (.ia (.t 7) (ki 0) 1), oA 9 8 1, oC 10 3 3, oA 11 10 1, oo 12 (.bin .shr (.t 9) (.t 11)), oC 13 3 1, oA 14 13 1, oo 15 (cv Gd [(.t 12), (.t 14)]), om 6 15] (some [6]))
 .rt)),
 [.t 6]⟩
def Z43 : FnIR := ⟨12,
 (.sq (oP [oK 6])
 (.sq (.op 0 [om 7 1, oo 8 (.ia (.t 7) (ki 0) 1), oA 9 8 1, om 10 0, oo 11 (.bin .leq (.t 9) (.t 10)), om 6 11] (some [6]))
 .rt)),
 [.t 6]⟩
def Zac : FnIR := ⟨10,
 (.sq (oP [oM 3 0 4, oB 6 0])
 (.sq (.op 0 [om 7 2, oo 8 (.ia (.t 7) (ki 0) 1), oA 9 8 1, om 6 9] (some [6]))
 .rt)),
 [.t 6]⟩
def Zab : FnIR := ⟨17,
 (.sq (oP [oM 3 0 4, oB 6 0])
 (.sq (.op 9 [om 7 2, oo 8 (.ia (.t 7) (ki 0) 1), oA 9 8 1, om 10 1, oo 11 (.ia (.t 10) (ki 0) 1), oA 12 11 1, oo 13 (cv H8 [(.t 9), (.t 12)]), oC 14 3 1, oA 15 14 1, oo 16 (cv Gd [(.t 13), (.t 15)]), om 6 16] (some [6]))
 .rt)),
 [.t 6]⟩
def Z5p : FnIR := ⟨12,
 (.sq (oP [oK 6])
 (.sq (.op 0 [om 7 1, oo 8 (.ia (.t 7) (ki 0) 1), oA 9 8 1, om 10 0, oo 11 (.bin .eql (.t 9) (.t 10)), om 6 11] (some [6]))
 .rt)),
 [.t 6]⟩
def Z6e : FnIR := ⟨20,
 (.sq (oP [oM 3 0 4, oB 6 0])
 (.sq (.op 12 [om 7 2, oo 8 (.ia (.t 7) (ki 0) 1), oA 9 8 1, om 10 2, oo 11 (.ia (.t 10) (ki 1) 1), oA 12 11 1, oC 13 3 1, oA 14 13 1, oo 15 (.mm false (.t 12) (.t 14)), oo 16 (.bin .shl (.t 9) (.t 15)), oC 17 3 1, oA 18 17 1, oo 19 (cv Gd [(.t 16), (.t 18)]), om 6 19] (some [6]))
 .rt)),
 [.t 6]⟩
def Z6d : FnIR := ⟨17,
 (.sq (oP [oM 3 0 4, oB 6 0])
 (.sq (.op 9 [om 7 2, oo 8 (.ia (.t 7) (ki 0) 1), oA 9 8 1, om 10 2, oo 11 (.ia (.t 10) (ki 1) 1), oA 12 11 1, oC 13 3 1, oA 14 13 1, oo 15 (.mm false (.t 12) (.t 14)), oo 16 (.bin .shr (.t 9) (.t 15)), om 6 16] (some [6]))
 .rt)),
 [.t 6]⟩
def Zei : FnIR := ⟨10,
 (.sq (oP [oK 3])
 (.sq (.op 0 [om 4 0, oA 5 1 1, oE 6 5, oo 7 (.bin .sub (.t 6) (ki 1)), oo 8 (cv V9 [(.t 4), (ki 0), (.t 7)]), oo 9 (.un .not (.t 8)), om 3 9] (some [3]))
 .rt)),
 [.t 3]⟩
def Zin : IR :=
 (.sq (oP [oG 18 17 16])
 (.sq (.cd (.t 18)
 .sk
 (.ex 0))
 (.sq (.bk 1 (.sq (oP [oD 19 15 17 1, oA 20 19 1, om 7 20])
 (.op 0 [oA 21 5 1, om 22 7, oD 23 21 22 1, ou (.st (.t 23) (.c (.bool true)) 1)] (some [0, 4, 5, 15, 16, 17]))))
 (oP [oI 24 17 1, om 17 24]))))
def Zig : IR := Zin
def Zim : IR :=
 (.sq (oP [oG 33 32 31])
 (.sq (.cd (.t 33)
 .sk
 (.ex 4))
 (.sq (.bk 5 (.sq (oP [oD 34 30 32 1, oA 35 34 1, om 11 35])
 (.op 12 [oA 36 5 1, om 37 11, oA 38 5 1, om 39 11, oD 40 38 39 1, oA 41 40 1, om 42 41, og 43 42 false (.ld (.t 5) 1 false), oN 44 42 8, og 45 42 false (.ia (.t 43) (.t 44) 1), og 46 42 false (.ld (.t 45) 1 false), oo 47 (.pick (.t 42) (.c (.bool true)) (.t 46)), oD 48 36 37 1, ou (.st (.t 48) (.t 47) 1)] (some [5, 8, 30, 31, 32]))))
 (oP [oI 49 32 1, om 32 49]))))
def Zif : IR := Zim
def Zfg : IR :=
 (.sq (oP [om 8 27])
 (oP [oo 9 (.alloc [.int .i64 0, .int .i64 0, .sl 1 (some true) [], .int .i64 0]), ou (.st (.t 9) (.t 28) 4)]))
def Zf8 : IR := Zfg
def Zff : IR :=
 (.bk 3 (.sq (.op 0 [oC 29 9 2, oA 30 29 1, oE 31 30, oB 32 0] (some [5, 8, 30, 31, 32]))
 (.kp [] [] (.bk 4 (.lp [] [5, 8, 30, 31, 32] Zif)))))
def Zf7 : IR := Zff
def c_gr_below : FnIR := ⟨51,
 (.sq (oP [oo 4 (.mv (.c (.sl 1 (some true) [])))])
 (.sq (.op 0 [om 12 0, oE 13 12, oo 14 (.mks t_bool 1 false [.bool false] (.t 13) (.t 13)), oo 5 (.alloc [.sl 1 (some true) []]), ou (.st (.t 5) (.t 14) 1)] (some [0, 1, 4, 5]))
 (.sq (.sq (oP [om 15 1, oE 16 15, oB 17 0])
 (.kp [0, 4, 5] [4] (.bk 0 (.lp [] [0, 4, 5, 15, 16, 17] Zig))))
 (.sq (.sq (.kp [4, 5, 26] [4] (oP [om 25 0, oo 26 (cw Vh [(.t 25)])]))
 (.bk 2 (.kp [5] [4] (.rf (.t 26) 51 0 [5] [27, 28] Zf8 Zf7))))
 (.sq (oP [oA 50 5 1, om 4 50])
 .rt))))),
 [.t 4]⟩
def Z7r : FnIR := ⟨7,
 (.sq (oP [oK 3])
 (.sq (.op 0 [om 4 0, oA 5 1 1, oo 6 (.bin .neq (.t 4) (.t 5)), om 3 6] (some [3]))
 .rt)),
 [.t 3]⟩
def Z46 : FnIR := ⟨19,
 (.sq (oP [oM 4 0 4, oB 7 0])
 (.sq (.op 10 [oA 8 3 1, om 9 2, oo 10 (.ia (.t 9) (ki 0) 1), oA 11 10 1, om 12 2, oo 13 (.ia (.t 12) (ki 1) 1), oA 14 13 1, oo 15 (.callV true (.t 8) [(.t 11), (.t 14)]), oC 16 4 1, oA 17 16 1, oo 18 (cv Gd [(.t 15), (.t 17)]), om 7 18] (some [7]))
 .rt)),
 [.t 7]⟩
def Z45 : FnIR := ⟨18,
 (.sq (oP [oK 6])
 (.sq (.op 9 [om 7 0, oo 8 (.bin .eql (.t 7) (ki 1)), om 9 8, oF 10 9 1, og 11 9 true (.ia (.t 10) (ki 0) 1), og 12 9 true (.ld (.t 11) 1 false), oF 13 9 1, og 14 9 true (.ia (.t 13) (ki 1) 1), og 15 9 true (.ld (.t 14) 1 false), og 16 9 true (.bin .eql (.t 12) (.t 15)), oH 17 9 16, om 6 17] (some [6]))
 .rt)),
 [.t 6]⟩
def Z0g : FnIR := ⟨20,
 (.sq (oP [oM 4 0 4, oB 7 0])
 (.sq (.op 10 [oA 8 3 1, om 9 2, oo 10 (.ia (.t 9) (ki 0) 1), oA 11 10 1, om 12 2, oo 13 (.ia (.t 12) (ki 1) 1), oA 14 13 1, om 15 1, oo 16 (.ia (.t 15) (ki 0) 1), oA 17 16 1, oo 18 (.callV true (.t 8) [(.t 11), (.t 14), (.t 17)]), oo 19 (cv Z65 [(.t 18)]), om 7 19] (some [7]))
 .rt)),
 [.t 7]⟩
def Zaa : FnIR := ⟨4,
 (.sq (oP [oB 2 0])
 (.sq (.sq (oP [om 3 0])
 (.cd (.t 3)
 (.sq (oP [oB 2 1])
 .rt)
 .sk))
 (.sq (oP [oB 2 0])
 .rt))),
 [.t 2]⟩
def Hg : FnIR := ⟨4,
 (.sq (oP [oM 1 0 1, oo 2 (.mv (.c (.nilf)))])
 (.sq (oP [oo 3 (.mkf V0 [(.t 1)]), om 2 3])
 .rt)),
 [.t 2]⟩
def Nk : IR :=
 (.sq (.sq (oP [om 7 3, oo 8 (.bin .geq (.t 7) (ki 0))])
 (.cd (.t 8)
 .sk
 (.ex 0)))
 (.sq (.bk 1 (.sq (.op 0 [om 11 0, om 12 3, oA 13 1 1, om 14 3, oD 15 13 14 4, oJ 16 15 4, oo 17 (.callS (.t 11) [(.t 12), (.t 16)]), oo 18 (.un .not (.t 17))] (some [0, 1, 3, 18]))
 (.cd (.t 18)
 .rt
 .sk)))
 (oP [om 9 3, oo 10 (.bin .sub (.t 9) (ki 1)), om 3 10])))
def Ni : IR := Nk
def Ly : FnIR := ⟨19,
 (.sq (.op 0 [oA 4 1 1, oE 5 4, oo 6 (.bin .sub (.t 5) (ki 1)), om 3 6] (some [0, 1, 3]))
 (.kp [] [] (.bk 0 (.lp [] [0, 1, 3] Ni)))),
 []⟩

end Go.Proofs.YteecfnfjlclhdaaGreat.V
