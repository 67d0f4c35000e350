/- The functions of the program in the small language. Printed by a program of this work. The functions of the program in the small language. Printed by a program of this work. -/
import Derived.Test.YteecfnfjlclhdaaGreatK5
import Derived.Test.YteecfnfjlclhdaaGreatT0

set_option linter.unusedSimpArgs false
set_option linter.unusedVariables false

/- The functions of the program in the small language. Printed by a program of this work. -/
namespace Go.Proofs.YteecfnfjlclhdaaGreat.V
open Go (IntKind BinOp UnOp)

variable {C : Call} {L : Loop} {π : Id} {k0 : List Id} {e : Env} {s : Sto}
def Pv : IR :=
 (.sq (.sq (.op 0 [om 14 3, om 15 0, oo 16 (.len true (.t 15)), oo 17 (.bin .lss (.t 14) (.t 16))] (some [0, 3, 17]))
 (.cd (.t 17)
 .sk
 (.ex 0)))
 (.sq (.bk 1 (.sq (.op 0 [om 20 0, om 21 3, oo 22 (.idx (.t 20) (.t 21)), om 4 22] (some [0, 3, 4]))
 (.sq (.op 0 [om 23 4, oo 24 (.bin .geq (.t 23) (.c (.int .u8 97))), om 25 24, og 26 25 true (.mv (.t 4)), og 27 25 true (.bin .leq (.t 26) (.c (.int .u8 122))), oo 28 (.pick (.t 25) (.t 27) (.c (.bool false))), om 29 28, og 30 29 false (.mv (.t 4)), og 31 29 false (.bin .geq (.t 30) (.c (.int .u8 65))), og 32 29 false (.mv (.t 31)), og 33 32 true (.mv (.t 4)), og 34 32 true (.bin .leq (.t 33) (.c (.int .u8 90))), og 35 29 false (.pick (.t 32) (.t 34) (.c (.bool false))), oo 36 (.pick (.t 29) (.c (.bool true)) (.t 35)), om 5 36] (some [0, 3, 4, 5]))
 (.sq (.op 0 [om 37 5, oo 38 (.un .not (.t 37)), om 39 38, og 40 39 true (.mv (.t 3)), og 41 39 true (.bin .eql (.t 40) (ki 0)), og 42 39 true (.mv (.t 41)), og 43 42 false (.mv (.t 4)), og 44 42 false (.bin .neq (.t 43) (.c (.int .u8 95))), og 45 42 false (.mv (.t 44)), og 46 45 true (.mv (.t 4)), og 47 45 true (.bin .lss (.t 46) (.c (.int .u8 48))), og 48 45 true (.mv (.t 47)), og 49 48 false (.mv (.t 4)), og 50 48 false (.bin .gtr (.t 49) (.c (.int .u8 57))), og 51 45 true (.pick (.t 48) (.c (.bool true)) (.t 50)), og 52 42 false (.pick (.t 45) (.t 51) (.c (.bool false))), og 53 39 true (.pick (.t 42) (.c (.bool true)) (.t 52)), oo 54 (.pick (.t 39) (.t 53) (.c (.bool false)))] (some [0, 3, 54]))
 (.cd (.t 54)
 (.sq (.op 0 [oo 2 (.mv (.c (.bool false)))] none)
 .rt)
 .sk)))))
 (.op 0 [om 18 3, oo 19 (.bin .add (.t 18) (ki 1)), om 3 19] none)))
def Z0p : IR := Pv
theorem Z0e : evC C L π k0 Z0p e s = evC C L π k0 Pv e s := rfl
def Fi : FnIR := ⟨55,
 (.sq (.op 0 [oo 2 (.mv (.c (.bool false)))] none)
 (.sq (.sq (.op 0 [om 6 0, oo 7 (.len true (.t 6)), oo 8 (.bin .lss (.t 7) (ki 1)), om 9 8, og 10 9 false (.mv (.t 0)), og 11 9 false (.len true (.t 10)), og 12 9 false (.bin .gtr (.t 11) (ki 16)), oo 13 (.pick (.t 9) (.c (.bool true)) (.t 12))] (some [0, 13]))
 (.cd (.t 13)
 (.sq (.op 0 [oo 2 (.mv (.c (.bool false)))] none)
 .rt)
 .sk))
 (.sq (.sq (.op 0 [oo 3 (.mv (ki 0))] none)
 (.kp [] [2] (.bk 0 (.lp [] [0, 3] Z0p))))
 (.sq (.op 0 [oo 2 (.mv (.c (.bool true)))] none)
 .rt)))),
 [.t 2]⟩
def Uh : IR :=
 (.sq (.sq (.op 0 [om 23 5, om 24 4, oo 25 (.bin .lss (.t 23) (.t 24))] none)
 (.cd (.t 25)
 .sk
 (.ex 2)))
 (.sq (.bk 3 (.sq (.op 10 [om 28 0, om 29 5, oo 30 (.ia (.t 28) (.t 29) 2), oo 31 (.fa (.t 30) 0), oo 32 (.ld (.t 31) 1 false), om 33 0, om 34 4, oo 35 (.ia (.t 33) (.t 34) 2), oo 36 (.fa (.t 35) 0), oo 37 (.ld (.t 36) 1 false), oo 38 (.bin .eql (.t 32) (.t 37))] (some [0, 4, 5, 38]))
 (.cd (.t 38)
 (.sq (.op 0 [om 39 4, om 2 39, oo 3 (.mv (ki 5))] none)
 .rt)
 .sk)))
 (.op 0 [om 26 5, oo 27 (.bin .add (.t 26) (ki 1)), om 5 27] none)))
def Hq : IR := Uh
theorem Hf : evC C L π k0 Hq e s = evC C L π k0 Uh e s := rfl
def Xy : IR :=
 (.sq (.sq (.op 0 [om 9 4, om 10 0, oo 11 (.len false (.t 10)), oo 12 (.bin .lss (.t 9) (.t 11))] (some [0, 4, 12]))
 (.cd (.t 12)
 .sk
 (.ex 0)))
 (.sq (.bk 1 (.sq (.sq (.op 0 [om 15 0, om 16 4, oo 17 (.ia (.t 15) (.t 16) 2), oo 18 (.fa (.t 17) 0), oo 19 (.ld (.t 18) 1 false), oo 20 (cv Qh [(.t 19)]), oo 21 (.un .not (.t 20))] (some [0, 4, 21]))
 (.cd (.t 21)
 (.sq (.op 0 [om 22 4, om 2 22, oo 3 (.mv (ki 4))] none)
 .rt)
 .sk))
 (.sq (.sq (.op 0 [oo 5 (.mv (ki 0))] none)
 (.kp [0, 4] [2, 3] (.bk 2 (.lp [] [0, 4, 5] Hq))))
 (.sq (.op 0 [om 40 0, om 41 4, oo 42 (.ia (.t 40) (.t 41) 2), oo 43 (.fa (.t 42) 1), oo 44 (.ld (.t 43) 1 false), oo 45 (cv Nt [(.t 44)]), oo 46 (.un .not (.t 45))] (some [0, 4, 46]))
 (.cd (.t 46)
 (.sq (.op 0 [om 47 4, om 2 47, oo 3 (.mv (ki 2))] none)
 .rt)
 .sk)))))
 (.op 0 [om 13 4, oo 14 (.bin .add (.t 13) (ki 1)), om 4 14] none)))
def Hr : IR := Xy
theorem Ua : evC C L π k0 Hr e s = evC C L π k0 Xy e s := rfl
def Gb : FnIR := ⟨48,
 (.sq (.op 0 [oo 2 (.mv (ki 0)), oo 3 (.mv (ki 0))] none)
 (.sq (.sq (.op 0 [om 6 0, oo 7 (.len false (.t 6)), oo 8 (.bin .gtr (.t 7) (ki 12))] none)
 (.cd (.t 8)
 (.sq (.op 0 [oo 2 (.mv (ki 0)), oo 3 (.mv (ki 8))] none)
 .rt)
 .sk))
 (.sq (.sq (.op 0 [oo 4 (.mv (ki 0))] none)
 (.kp [] [2, 3] (.bk 0 (.lp [] [0, 4] Hr))))
 (.sq (.op 0 [oo 2 (.mv (ki 0)), oo 3 (.mv (ki 0))] none)
 .rt)))),
 [.t 2, .t 3]⟩
def Wl : IR :=
 (.sq (.sq (.op 0 [om 29 7, om 30 6, oo 31 (.bin .lss (.t 29) (.t 30))] none)
 (.cd (.t 31)
 .sk
 (.ex 2)))
 (.sq (.bk 3 (.sq (.op 10 [om 34 1, om 35 7, oo 36 (.ia (.t 34) (.t 35) 5), oo 37 (.fa (.t 36) 0), oo 38 (.ld (.t 37) 1 false), om 39 1, om 40 6, oo 41 (.ia (.t 39) (.t 40) 5), oo 42 (.fa (.t 41) 0), oo 43 (.ld (.t 42) 1 false), oo 44 (.bin .eql (.t 38) (.t 43))] (some [0, 1, 6, 7, 44]))
 (.cd (.t 44)
 (.sq (.op 0 [om 45 6, om 4 45, oo 5 (.mv (ki 5))] none)
 .rt)
 .sk)))
 (.op 0 [om 32 7, oo 33 (.bin .add (.t 32) (ki 1)), om 7 33] none)))
def Nj : IR := Wl
theorem Nb : evC C L π k0 Nj e s = evC C L π k0 Wl e s := rfl
def Wk : IR :=
 (.sq (.sq (.op 0 [om 46 8, om 47 0, oo 48 (.len false (.t 47)), oo 49 (.bin .lss (.t 46) (.t 48))] (some [0, 1, 6, 8, 49]))
 (.cd (.t 49)
 .sk
 (.ex 4)))
 (.sq (.bk 5 (.sq (.op 10 [om 52 0, om 53 8, oo 54 (.ia (.t 52) (.t 53) 2), oo 55 (.fa (.t 54) 0), oo 56 (.ld (.t 55) 1 false), om 57 1, om 58 6, oo 59 (.ia (.t 57) (.t 58) 5), oo 60 (.fa (.t 59) 0), oo 61 (.ld (.t 60) 1 false), oo 62 (.bin .eql (.t 56) (.t 61))] (some [0, 1, 6, 8, 62]))
 (.cd (.t 62)
 (.sq (.op 0 [om 63 6, om 4 63, oo 5 (.mv (ki 5))] none)
 .rt)
 .sk)))
 (.op 0 [om 50 8, oo 51 (.bin .add (.t 50) (ki 1)), om 8 51] none)))
def Ni : IR := Wk
theorem Na : evC C L π k0 Ni e s = evC C L π k0 Wk e s := rfl
def Zj : IR :=
 (.sq (.sq (.op 0 [om 15 6, om 16 1, oo 17 (.len false (.t 16)), oo 18 (.bin .lss (.t 15) (.t 17))] (some [0, 1, 6, 18]))
 (.cd (.t 18)
 .sk
 (.ex 0)))
 (.sq (.bk 1 (.sq (.sq (.op 0 [om 21 1, om 22 6, oo 23 (.ia (.t 21) (.t 22) 5), oo 24 (.fa (.t 23) 0), oo 25 (.ld (.t 24) 1 false), oo 26 (cv Qh [(.t 25)]), oo 27 (.un .not (.t 26))] (some [0, 1, 6, 27]))
 (.cd (.t 27)
 (.sq (.op 0 [om 28 6, om 4 28, oo 5 (.mv (ki 4))] none)
 .rt)
 .sk))
 (.sq (.sq (.op 0 [oo 7 (.mv (ki 0))] none)
 (.kp [0, 1, 6] [4, 5] (.bk 2 (.lp [] [0, 1, 6, 7] Nj))))
 (.sq (.sq (.op 0 [oo 8 (.mv (ki 0))] none)
 (.kp [0, 1, 6] [4, 5] (.bk 4 (.lp [] [0, 1, 6, 8] Ni))))
 (.sq (.sq (.op 0 [om 64 1, om 65 6, oo 66 (.ia (.t 64) (.t 65) 5), oo 67 (.fa (.t 66) 1), oo 68 (.ld (.t 67) 1 false), oo 69 (cv Yc [(.t 68), (ki 0), (ki 1)]), oo 70 (.un .not (.t 69))] (some [0, 1, 6, 70]))
 (.cd (.t 70)
 (.sq (.op 0 [om 71 6, om 4 71, oo 5 (.mv (ki 15))] none)
 .rt)
 .sk))
 (.sq (.op 24 [om 72 1, om 73 6, oo 74 (.ia (.t 72) (.t 73) 5), oo 75 (.fa (.t 74) 2), oo 76 (.ld (.t 75) 1 false), oo 77 (cv Nt [(.t 76)]), oo 78 (.un .not (.t 77)), om 79 78, og 80 79 false (.mv (.t 1)), og 81 79 false (.mv (.t 6)), og 82 79 false (.ia (.t 80) (.t 81) 5), og 83 79 false (.fa (.t 82) 3), og 84 79 false (.ld (.t 83) 1 false), og 85 79 false (.mv (.t 1)), og 86 79 false (.mv (.t 6)), og 87 79 false (.ia (.t 85) (.t 86) 5), og 88 79 false (.fa (.t 87) 2), og 89 79 false (.ld (.t 88) 1 false), og 90 79 false (cv n_rb_Fits [(.t 84), (.t 89)]), og 91 79 false (.un .not (.t 90)), oo 92 (.pick (.t 79) (.c (.bool true)) (.t 91)), om 93 92, og 94 93 false (.mv (.t 1)), og 95 93 false (.mv (.t 6)), og 96 93 false (.ia (.t 94) (.t 95) 5), og 97 93 false (.fa (.t 96) 4), og 98 93 false (.ld (.t 97) 1 false), og 99 93 false (cv Yc [(.t 98), (ki 0), (ki 3)]), og 100 93 false (.un .not (.t 99)), oo 101 (.pick (.t 93) (.c (.bool true)) (.t 100))] (some [0, 1, 6, 101]))
 (.cd (.t 101)
 (.sq (.op 0 [om 102 6, om 4 102, oo 5 (.mv (ki 2))] none)
 .rt)
 .sk)))))))
 (.op 0 [om 19 6, oo 20 (.bin .add (.t 19) (ki 1)), om 6 20] none)))
def Nk : IR := Zj
theorem Zv : evC C L π k0 Nk e s = evC C L π k0 Zj e s := rfl
def N2 : FnIR := ⟨103,
 (.sq (.op 0 [oo 4 (.mv (ki 0)), oo 5 (.mv (ki 0))] none)
 (.sq (.sq (.op 0 [om 9 0, oo 10 (.len false (.t 9)), om 11 1, oo 12 (.len false (.t 11)), oo 13 (.bin .add (.t 10) (.t 12)), oo 14 (.bin .gtr (.t 13) (ki 40))] (some [0, 1, 14]))
 (.cd (.t 14)
 (.sq (.op 0 [oo 4 (.mv (ki 0)), oo 5 (.mv (ki 8))] none)
 .rt)
 .sk))
 (.sq (.sq (.op 0 [oo 6 (.mv (ki 0))] none)
 (.kp [] [4, 5] (.bk 0 (.lp [] [0, 1, 6] Nk))))
 (.sq (.op 0 [oo 4 (.mv (ki 0)), oo 5 (.mv (ki 0))] none)
 .rt)))),
 [.t 4, .t 5]⟩
def Ui : IR :=
 (.sq (.sq (.op 0 [om 11 6, om 12 1, oo 13 (.len false (.t 12)), oo 14 (.bin .lss (.t 11) (.t 13))] (some [0, 1, 6, 14]))
 (.cd (.t 14)
 .sk
 (.ex 0)))
 (.sq (.bk 1 (.sq (.op 0 [om 17 0, om 18 1, om 19 6, oo 20 (cv Z03 [(.t 17), (.t 18), (.t 19)]), om 7 20] (some [0, 1, 6, 7]))
 (.sq (.op 0 [om 21 7, oo 22 (.bin .neq (.t 21) (ki 0))] none)
 (.cd (.t 22)
 (.sq (.op 0 [om 23 6, om 24 7, om 4 23, om 5 24] (some [4, 5]))
 .rt)
 .sk))))
 (.op 0 [om 15 6, oo 16 (.bin .add (.t 15) (ki 1)), om 6 16] none)))
def Hs : IR := Ui
theorem Hg : evC C L π k0 Hs e s = evC C L π k0 Ui e s := rfl
def Gc : FnIR := ⟨25,
 (.sq (.op 0 [oo 4 (.mv (ki 0)), oo 5 (.mv (ki 0))] none)
 (.sq (.sq (.op 0 [om 8 1, oo 9 (.len false (.t 8)), oo 10 (.bin .gtr (.t 9) (ki 400))] none)
 (.cd (.t 10)
 (.sq (.op 0 [oo 4 (.mv (ki 0)), oo 5 (.mv (ki 8))] none)
 .rt)
 .sk))
 (.sq (.sq (.op 0 [oo 6 (.mv (ki 0))] none)
 (.kp [] [4, 5] (.bk 0 (.lp [] [0, 1, 6] Hs))))
 (.sq (.op 0 [oo 4 (.mv (ki 0)), oo 5 (.mv (ki 0))] none)
 .rt)))),
 [.t 4, .t 5]⟩
def N1 : FnIR := ⟨16,
 (.sq (.op 0 [oo 4 (.mv (.c (.bool false)))] none)
 (.sq (.op 0 [om 5 0, om 6 1, oo 7 (cv Ls [(.t 5), (.t 6)]), om 8 7, og 9 8 true (.mv (.t 0)), og 10 8 true (.mv (.t 1)), og 11 8 true (.ia (.t 9) (.t 10) 4), og 12 8 true (.fa (.t 11) 1), og 13 8 true (.ld (.t 12) 1 false), og 14 8 true (.bin .eql (.t 13) (ki 1)), oo 15 (.pick (.t 8) (.t 14) (.c (.bool false))), om 4 15] (some [4]))
 .rt)),
 [.t 4]⟩
def Yp : IR :=
 (.sq (.sq (.op 0 [om 11 7, om 12 2, oo 13 (.len false (.t 12)), oo 14 (.bin .lss (.t 11) (.t 13))] (some [0, 1, 2, 7, 14]))
 (.cd (.t 14)
 .sk
 (.ex 0)))
 (.sq (.bk 1 (.sq (.sq (.op 0 [om 17 2, om 18 7, oo 19 (.ia (.t 17) (.t 18) 3), oo 20 (.fa (.t 19) 0), oo 21 (.ld (.t 20) 1 false), om 22 0, oo 23 (.len false (.t 22)), oo 24 (.bin .sub (.t 23) (ki 1)), oo 25 (cv Yc [(.t 21), (ki 0), (.t 24)]), oo 26 (.un .not (.t 25))] (some [0, 1, 2, 7, 26]))
 (.cd (.t 26)
 (.sq (.op 0 [oo 6 (.mv (ki 6))] none)
 .rt)
 .sk))
 (.sq (.sq (.op 0 [om 27 1, om 28 2, om 29 7, oo 30 (.ia (.t 28) (.t 29) 3), oo 31 (.fa (.t 30) 1), oo 32 (.ld (.t 31) 1 false), oo 33 (cv Uc [(.t 27), (.t 32)]), oo 34 (.un .not (.t 33)), om 35 34, og 36 35 false (.mv (.t 1)), og 37 35 false (.mv (.t 2)), og 38 35 false (.mv (.t 7)), og 39 35 false (.ia (.t 37) (.t 38) 3), og 40 35 false (.fa (.t 39) 2), og 41 35 false (.ld (.t 40) 1 false), og 42 35 false (cv Ls [(.t 36), (.t 41)]), og 43 35 false (.un .not (.t 42)), oo 44 (.pick (.t 35) (.c (.bool true)) (.t 43))] (some [0, 1, 2, 7, 44]))
 (.cd (.t 44)
 (.sq (.op 0 [oo 6 (.mv (ki 9))] none)
 .rt)
 .sk))
 (.sq (.op 18 [om 45 1, om 46 2, om 47 7, oo 48 (.ia (.t 46) (.t 47) 3), oo 49 (.fa (.t 48) 2), oo 50 (.ld (.t 49) 1 false), oo 51 (.ia (.t 45) (.t 50) 4), oo 52 (.fa (.t 51) 1), oo 53 (.ld (.t 52) 1 false), om 54 0, om 55 2, om 56 7, oo 57 (.ia (.t 55) (.t 56) 3), oo 58 (.fa (.t 57) 0), oo 59 (.ld (.t 58) 1 false), oo 60 (.ia (.t 54) (.t 59) 5), oo 61 (.fa (.t 60) 2), oo 62 (.ld (.t 61) 1 false), oo 63 (.bin .neq (.t 53) (.t 62))] (some [0, 1, 2, 7, 63]))
 (.cd (.t 63)
 (.sq (.op 0 [oo 6 (.mv (ki 25))] none)
 .rt)
 .sk)))))
 (.op 0 [om 15 7, oo 16 (.bin .add (.t 15) (ki 1)), om 7 16] none)))
def K2 : IR := Yp
theorem W6 : evC C L π k0 K2 e s = evC C L π k0 Yp e s := rfl
def Ks : FnIR := ⟨64,
 (.sq (.op 0 [oo 6 (.mv (ki 0))] none)
 (.sq (.sq (.op 0 [om 8 2, oo 9 (.len false (.t 8)), oo 10 (.bin .gtr (.t 9) (ki 16))] none)
 (.cd (.t 10)
 (.sq (.op 0 [oo 6 (.mv (ki 8))] none)
 .rt)
 .sk))
 (.sq (.sq (.op 0 [oo 7 (.mv (ki 0))] none)
 (.kp [] [6] (.bk 0 (.lp [] [0, 1, 2, 7] K2))))
 (.sq (.op 0 [oo 6 (.mv (ki 0))] none)
 .rt)))),
 [.t 6]⟩
def V6 : IR :=
 (.sq (.sq (.op 0 [om 25 7, om 26 6, oo 27 (.bin .lss (.t 25) (.t 26))] none)
 (.cd (.t 27)
 .sk
 (.ex 2)))
 (.sq (.bk 3 (.sq (.op 10 [om 30 1, om 31 7, oo 32 (.ia (.t 30) (.t 31) 2), oo 33 (.fa (.t 32) 0), oo 34 (.ld (.t 33) 1 false), om 35 1, om 36 6, oo 37 (.ia (.t 35) (.t 36) 2), oo 38 (.fa (.t 37) 0), oo 39 (.ld (.t 38) 1 false), oo 40 (.bin .eql (.t 34) (.t 39))] (some [0, 1, 6, 7, 40]))
 (.cd (.t 40)
 (.sq (.op 0 [om 41 6, om 4 41, oo 5 (.mv (ki 5))] none)
 .rt)
 .sk)))
 (.op 0 [om 28 7, oo 29 (.bin .add (.t 28) (ki 1)), om 7 29] none)))
def Mu : IR := V6
theorem M6 : evC C L π k0 Mu e s = evC C L π k0 V6 e s := rfl
def Yw : IR :=
 (.sq (.sq (.op 0 [om 11 6, om 12 1, oo 13 (.len false (.t 12)), oo 14 (.bin .lss (.t 11) (.t 13))] (some [0, 1, 6, 14]))
 (.cd (.t 14)
 .sk
 (.ex 0)))
 (.sq (.bk 1 (.sq (.sq (.op 0 [om 17 1, om 18 6, oo 19 (.ia (.t 17) (.t 18) 2), oo 20 (.fa (.t 19) 0), oo 21 (.ld (.t 20) 1 false), oo 22 (cv Qh [(.t 21)]), oo 23 (.un .not (.t 22))] (some [0, 1, 6, 23]))
 (.cd (.t 23)
 (.sq (.op 0 [om 24 6, om 4 24, oo 5 (.mv (ki 4))] none)
 .rt)
 .sk))
 (.sq (.sq (.op 0 [oo 7 (.mv (ki 0))] none)
 (.kp [0, 1, 6] [4, 5] (.bk 2 (.lp [] [0, 1, 6, 7] Mu))))
 (.sq (.op 0 [om 42 0, om 43 1, om 44 6, oo 45 (.ia (.t 43) (.t 44) 2), oo 46 (.fa (.t 45) 1), oo 47 (.ld (.t 46) 1 false), oo 48 (cv Ls [(.t 42), (.t 47)]), oo 49 (.un .not (.t 48))] (some [0, 1, 6, 49]))
 (.cd (.t 49)
 (.sq (.op 0 [om 50 6, om 4 50, oo 5 (.mv (ki 9))] none)
 .rt)
 .sk)))))
 (.op 0 [om 15 6, oo 16 (.bin .add (.t 15) (ki 1)), om 6 16] none)))
def Mv : IR := Yw
theorem V1 : evC C L π k0 Mv e s = evC C L π k0 Yw e s := rfl
def Mw : FnIR := ⟨51,
 (.sq (.op 0 [oo 4 (.mv (ki 0)), oo 5 (.mv (ki 0))] none)
 (.sq (.sq (.op 0 [om 8 1, oo 9 (.len false (.t 8)), oo 10 (.bin .gtr (.t 9) (ki 12))] none)
 (.cd (.t 10)
 (.sq (.op 0 [oo 4 (.mv (ki 0)), oo 5 (.mv (ki 8))] none)
 .rt)
 .sk))
 (.sq (.sq (.op 0 [oo 6 (.mv (ki 0))] none)
 (.kp [] [4, 5] (.bk 0 (.lp [] [0, 1, 6] Mv))))
 (.sq (.op 0 [oo 4 (.mv (ki 0)), oo 5 (.mv (ki 0))] none)
 .rt)))),
 [.t 4, .t 5]⟩
def Hx : FnIR := ⟨19,
 (.sq (.op 0 [oo 6 (.mv (ki 0))] none)
 (.sq (.op 7 [oo 7 (.ld (.t 2) 8 true), om 8 1, oo 9 (cv Qn [(.t 7), (.t 8)]), oo 10 (.ld (.t 3) 1 false), om 11 0, oo 12 (.slc false (.t 10) none (some (.t 11)) 1), om 13 1, oo 14 (cv Y6 [(.t 12), (.t 13)]), oo 15 (.un .not (.t 14)), oo 16 (cv V9 [(.t 15), (ki 23)]), oo 17 (.bsp Y5 1 false [.int .i64 0] 2 [(0, (.t 9)), (1, (.t 16))]), oo 18 (cv Lu [(.t 17)]), om 6 18] (some [6]))
 .rt)),
 [.t 6]⟩
def Hn : FnIR := ⟨5,
 (.sq (.op 0 [oo 2 (.mv (.c (.sl 1 (some true) [])))] none)
 (.sq (.op 0 [om 3 0, oo 4 (.callS (.c (.fn Wo [])) [(.c (.sl 1 (some true) [])), (.t 3)]), om 2 4] none)
 .rt)),
 [.t 2]⟩
def Xu : IR :=
 (.sq (.op 0 [oo 8 (.bin .lss (.t 7) (.t 6))] none)
 (.sq (.cd (.t 8)
 .sk
 (.ex 0))
 (.sq (.bk 1 (.sq (.op 0 [oo 9 (.ia (.t 5) (.t 7) 1), oo 10 (.ld (.t 9) 1 false), om 4 10] none)
 (.sq (.op 0 [om 11 0, om 12 4, oo 13 (.callS (.t 11) [(.t 12)]), oo 14 (.un .not (.t 13))] (some [0, 5, 6, 7, 14]))
 (.cd (.t 14)
 .rt
 .sk))))
 (.op 0 [oo 15 (.bin .add (.t 7) (ki 1)), om 7 15] none))))
def Vq : IR := Xu
theorem Np : evC C L π k0 Vq e s = evC C L π k0 Xu e s := rfl
def Qs : FnIR := ⟨16,
 (.sq (.op 0 [oo 5 (.ld (.t 1) 1 false), oo 6 (.len false (.t 5)), oo 7 (.mv (ki 0))] none)
 (.kp [] [] (.bk 0 (.lp [] [0, 5, 6, 7] Vq)))),
 []⟩
def Pb : FnIR := ⟨15,
 (.sq (.op 0 [oo 4 (.mv (.c (.bool false)))] none)
 (.sq (.op 0 [om 5 0, oo 6 (.ld (.t 1) 1 false), oo 7 (.bin .neq (.t 5) (.t 6)), om 8 7, og 9 8 true (.ld (.t 2) 10 true), og 10 8 true (.ld (.t 1) 1 false), og 11 8 true (.mv (.t 0)), og 12 8 true (cv Y0 [(.t 9), (.t 10), (.t 11)]), og 13 8 true (.un .not (.t 12)), oo 14 (.pick (.t 8) (.t 13) (.c (.bool false))), om 4 14] (some [4]))
 .rt)),
 [.t 4]⟩
def Q4 : FnIR := ⟨8,
 (.sq (.op 0 [oo 2 (.mv (.c (.sl 1 (some true) [])))] none)
 (.sq (.sq (.op 0 [om 3 0, oo 4 (.isnil true false (.t 3))] none)
 (.cd (.t 4)
 (.sq (.op 0 [oo 2 (.mv (.c (.sl 1 (some true) [])))] none)
 .rt)
 .sk))
 (.sq (.op 0 [oo 5 (.bsl t_int 1 false [.int .i64 0] 0 []), om 6 0, oo 7 (.app (.t 5) (.t 6) t_int 1), om 2 7] (some [2]))
 .rt))),
 [.t 2]⟩
def P2 : IR :=
 (.sq (.op 0 [oo 21 (.bin .lss (.t 20) (.t 19))] none)
 (.sq (.cd (.t 21)
 .sk
 (.ex 0))
 (.sq (.bk 1 (.sq (.op 0 [oo 22 (.ia (.t 18) (.t 20) 1), oo 23 (.ld (.t 22) 1 false), om 7 23] none)
 (.sq (.op 0 [om 24 7, oo 25 (.fa (.t 2) 0), oo 26 (.fa (.t 25) 1), oo 27 (.ld (.t 26) 1 false), oo 28 (.len false (.t 27)), oo 29 (.bin .geq (.t 24) (.t 28))] (some [2, 4, 5, 7, 18, 19, 20, 29]))
 (.cd (.t 29)
 (.op 0 [om 30 4, om 31 7, oo 32 (.fa (.t 2) 0), oo 33 (.fa (.t 32) 1), oo 34 (.ld (.t 33) 1 false), oo 35 (.len false (.t 34)), oo 36 (.bin .sub (.t 31) (.t 35)), oo 37 (.bsl t_int 1 false [.int .i64 0] 1 [(0, (.t 36))]), oo 38 (.app (.t 30) (.t 37) t_int 1), om 4 38] (some [2, 4, 5, 18, 19, 20]))
 .sk))))
 (.op 0 [oo 39 (.bin .add (.t 20) (ki 1)), om 20 39] none))))
def Fp : IR := P2
theorem Gw : evC C L π k0 Fp e s = evC C L π k0 P2 e s := rfl
def c_cf_nw_used : FnIR := ⟨42,
 (.sq (.op 0 [oo 2 (.box (.t 0) 8), oo 4 (.mv (.c (.sl 1 (some true) []))), oo 5 (.mv (.c (.sl 1 (some true) [])))] none)
 (.sq (.op 0 [oo 9 (.fa (.t 2) 7), oo 10 (.ld (.t 9) 1 false), oo 11 (.fa (.t 2) 0), oo 12 (.fa (.t 11) 3), oo 13 (.ld (.t 12) 1 false), om 14 1, oo 15 (cw G8 [(.t 10), (.t 13), (.t 14)]), om 8 15, oo 16 (.ext (.t 8) 0), oo 17 (.ext (.t 8) 1), om 5 16] (some [2, 4, 5]))
 (.sq (.sq (.op 0 [om 18 5, oo 19 (.len false (.t 18)), oo 20 (.mv (ki 0))] none)
 (.kp [4, 5] [4, 5] (.bk 0 (.lp [(t_int, .inl 4)] [2, 4, 5, 18, 19, 20] Fp))))
 (.sq (.op 0 [om 40 4, om 41 5, om 4 40, om 5 41] (some [4, 5]))
 .rt)))),
 [.t 4, .t 5]⟩
def Gh : IR :=
 (.sq (.sq (.op 0 [om 12 6, om 13 1, oo 14 (.len false (.t 13)), oo 15 (.bin .lss (.t 12) (.t 14))] (some [0, 1, 5, 6, 15]))
 (.cd (.t 15)
 .sk
 (.ex 0)))
 (.sq (.bk 1 (.op 0 [om 18 5, om 19 1, om 20 6, oo 21 (.ia (.t 19) (.t 20) 1), oo 22 (.ld (.t 21) 1 false), oo 23 (.ia (.t 18) (.t 22) 1), ou (.st (.t 23) (.c (.bool true)) 1)] (some [0, 1, 5, 6])))
 (.op 0 [om 16 6, oo 17 (.bin .add (.t 16) (ki 1)), om 6 17] none)))
def Z2r : IR := Gh
theorem u_rb_Below_L0 : evC C L π k0 Z2r e s = evC C L π k0 Gh e s := rfl
def Lc : IR :=
 (.sq (.sq (.op 0 [om 31 5, om 32 7, oo 33 (.ia (.t 31) (.t 32) 1), oo 34 (.ld (.t 33) 1 false), om 35 34, og 36 35 true (.mv (.t 8)), og 37 35 true (.mv (.t 0)), og 38 35 true (.mv (.t 7)), og 39 35 true (.ia (.t 37) (.t 38) 4), og 40 35 true (.fa (.t 39) 2), og 41 35 true (.ld (.t 40) 1 false), og 42 35 true (.len false (.t 41)), og 43 35 true (.bin .lss (.t 36) (.t 42)), oo 44 (.pick (.t 35) (.t 43) (.c (.bool false)))] (some [0, 5, 7, 8, 44]))
 (.cd (.t 44)
 .sk
 (.ex 4)))
 (.sq (.bk 5 (.op 0 [om 47 5, om 48 0, om 49 7, oo 50 (.ia (.t 48) (.t 49) 4), oo 51 (.fa (.t 50) 2), oo 52 (.ld (.t 51) 1 false), om 53 8, oo 54 (.ia (.t 52) (.t 53) 1), oo 55 (.ld (.t 54) 1 false), oo 56 (.ia (.t 47) (.t 55) 1), ou (.st (.t 56) (.c (.bool true)) 1)] (some [0, 5, 7, 8])))
 (.op 0 [om 45 8, oo 46 (.bin .add (.t 45) (ki 1)), om 8 46] none)))
def Gd : IR := Lc
theorem Z21 : evC C L π k0 Gd e s = evC C L π k0 Lc e s := rfl
def Ld : IR :=
 (.sq (.sq (.op 0 [om 27 7, oo 28 (.bin .geq (.t 27) (ki 0))] none)
 (.cd (.t 28)
 .sk
 (.ex 2)))
 (.sq (.bk 3 (.sq (.op 0 [oo 8 (.mv (ki 0))] none)
 (.kp [0, 5, 7] [4] (.bk 4 (.lp [] [0, 5, 7, 8] Gd)))))
 (.op 0 [om 29 7, oo 30 (.bin .sub (.t 29) (ki 1)), om 7 30] none)))
def Z2q : IR := Ld
theorem Z22 : evC C L π k0 Z2q e s = evC C L π k0 Ld e s := rfl
def c_rb_Below : FnIR := ⟨58,
 (.sq (.op 0 [oo 4 (.mv (.c (.sl 1 (some true) [])))] none)
 (.sq (.op 0 [om 9 0, oo 10 (.len false (.t 9)), oo 11 (.mks t_bool 1 false [.bool false] (.t 10) (.t 10)), om 5 11] (some [0, 1, 5]))
 (.sq (.sq (.op 0 [oo 6 (.mv (ki 0))] none)
 (.kp [0, 5] [4] (.bk 0 (.lp [] [0, 1, 5, 6] Z2r))))
 (.sq (.sq (.op 0 [om 24 0, oo 25 (.len false (.t 24)), oo 26 (.bin .sub (.t 25) (ki 1)), om 7 26] (some [0, 5, 7]))
 (.kp [5] [4] (.bk 2 (.lp [] [0, 5, 7] Z2q))))
 (.sq (.op 0 [om 57 5, om 4 57] none)
 .rt))))),
 [.t 4]⟩
def c_gr_ValuesOf : FnIR := ⟨37,
 (.sq (.op 0 [oo 3 (.box (.t 0) 1), oo 6 (.mv (.c (.sl 1 (some true) []))), oo 7 (.mv (ki 0))] none)
 (.sq (.sq (.fz [1] (.op 8 [oo 11 (.ld (.t 3) 1 false), om 12 1, oo 13 (cv Me [(.t 11), (.t 12)]), om 14 2, oo 15 (.len false (.t 14)), oo 16 (.ld (.t 3) 1 false), oo 17 (.len false (.t 16)), oo 18 (.bin .eql (.t 15) (.t 17)), oo 19 (cv Yd [(.t 18), (ki 10)]), oo 20 (.bsl Y5 1 false [.int .i64 0] 2 [(0, (.t 13)), (1, (.t 19))]), oo 21 (cv P7 [(.t 20)]), om 8 21] (some [1, 2, 3, 8])))
 (.sq (.op 0 [om 22 8, oo 23 (.bin .neq (.t 22) (ki 0))] none)
 (.cd (.t 23)
 (.sq (.op 0 [om 24 8, oo 6 (.mv (.c (.sl 1 (some true) []))), om 7 24] none)
 .rt)
 .sk)))
 (.sq (.sq (.op 0 [om 26 2, oo 27 (.mkf n_gr_ValuesOf_1 [(.t 3)]), oo 28 (cv Mf [(.t 26), (.t 27)]), om 25 28, oo 29 (.ext (.t 25) 0), oo 30 (.ext (.t 25) 1), om 9 29, om 10 30] (some [1, 2, 10]))
 (.sq (.op 0 [om 31 10, oo 32 (.bin .neq (.t 31) (ki 0))] none)
 (.cd (.t 32)
 (.sq (.op 0 [om 33 10, oo 6 (.mv (.c (.sl 1 (some true) []))), om 7 33] none)
 .rt)
 .sk)))
 (.sq (.op 0 [om 34 1, om 35 2, oo 36 (cw n_gr_valued [(.t 34), (.t 35)]), om 6 36, oo 7 (.mv (ki 0))] (some [6, 7]))
 .rt)))),
 [.t 6, .t 7]⟩
def b_cf_nw_points_1_R0A : IR :=
 (.op 0 [om 7 22] none)
def c_cf_nw_points_1_R0A : IR := b_cf_nw_points_1_R0A
def b_cf_nw_points_1_R0B : IR :=
 (.bk 3 (.sq (.op 11 [oo 23 (.ld (.t 5) 1 false), om 24 7, oo 25 (.ld (.t 4) 1 false), oo 26 (.fa (.t 1) 7), oo 27 (.ld (.t 26) 1 false), om 28 7, oo 29 (.ia (.t 27) (.t 28) 1), oo 30 (.ld (.t 29) 1 false), oo 31 (.bin .shl (ki 1) (.t 30)), oo 32 (.bin .sub (.t 31) (ki 1)), oo 33 (.bin .and (.t 25) (.t 32)), oo 34 (.ia (.t 23) (.t 24) 1), ou (.st (.t 34) (.t 33) 1)] (some [1, 4, 7]))
 (.op 6 [oo 35 (.ld (.t 4) 1 false), oo 36 (.fa (.t 1) 7), oo 37 (.ld (.t 36) 1 false), om 38 7, oo 39 (.ia (.t 37) (.t 38) 1), oo 40 (.ld (.t 39) 1 false), oo 41 (.bin .shr (.t 35) (.t 40)), ou (.st (.t 4) (.t 41) 1)] (some []))))
def c_cf_nw_points_1_R0B : IR := b_cf_nw_points_1_R0B
def b_cf_nw_points_1_L0 : IR :=
 (.sq (.op 0 [oo 13 (.bin .lss (.t 12) (.t 11))] none)
 (.sq (.cd (.t 13)
 .sk
 (.ex 0))
 (.sq (.bk 1 (.sq (.op 0 [om 14 12, oo 4 (.alloc [.int .i64 0]), ou (.st (.t 4) (.t 14) 1)] none)
 (.sq (.op 0 [oo 15 (.fa (.t 1) 7), oo 16 (.ld (.t 15) 1 false), oo 17 (.len false (.t 16)), oo 18 (.mks t_int 1 false [.int .i64 0] (.t 17) (.t 17)), oo 5 (.alloc [.sl 1 (some true) []]), ou (.st (.t 5) (.t 18) 1)] (some [0, 1, 2, 4, 5, 11, 12]))
 (.sq (.sq (.kp [0, 1, 2, 4, 5, 11, 12, 20] [] (.op 0 [oo 19 (.ld (.t 2) 1 false), oo 20 (cw H0 [(.t 19)])] none))
 (.bk 2 (.kp [0, 1, 2, 5, 11, 12] [] (.rf (.t 20) 47 0 [1, 4, 5] [21, 22] c_cf_nw_points_1_R0A c_cf_nw_points_1_R0B))))
 (.sq (.op 0 [om 42 0, oo 43 (.ld (.t 5) 1 false), oo 44 (.callS (.t 42) [(.t 43)]), oo 45 (.un .not (.t 44))] (some [0, 1, 2, 11, 12, 45]))
 (.cd (.t 45)
 .rt
 .sk))))))
 (.op 0 [oo 46 (.bin .add (.t 12) (ki 1)), om 12 46] none))))
def c_cf_nw_points_1_L0 : IR := b_cf_nw_points_1_L0
def c_cf_nw_points_1 : FnIR := ⟨47,
 (.sq (.op 0 [oo 8 (.ld (.t 1) 8 true), oo 9 (.ld (.t 2) 1 false), oo 10 (cv n_cf_nw_bits [(.t 8), (.t 9)]), oo 11 (.bin .shl (ki 1) (.t 10)), oo 12 (.mv (ki 0))] (some [0, 1, 2, 11, 12]))
 (.kp [] [] (.bk 0 (.lp [] [0, 1, 2, 11, 12] c_cf_nw_points_1_L0)))),
 []⟩
def c_sl_Backward_int_int : FnIR := ⟨4,
 (.sq (.op 0 [oo 1 (.box (.t 0) 1), oo 2 (.mv (.c (.nilf)))] none)
 (.sq (.op 0 [oo 3 (.mkf Mb [(.t 1)]), om 2 3] none)
 .rt)),
 [.t 2]⟩
def c_rb_Fits : FnIR := ⟨10,
 (.sq (.op 0 [oo 4 (.mv (.c (.bool false)))] none)
 (.sq (.op 0 [om 5 0, om 6 1, oo 7 (cv n_rb_Power [(.t 6)]), oo 8 (.bin .sub (.t 7) (ki 1)), oo 9 (cv Yc [(.t 5), (ki 0), (.t 8)]), om 4 9] (some [4]))
 .rt)),
 [.t 4]⟩
def Z0y : FnIR := ⟨12,
 (.sq (.op 0 [oo 4 (.box (.t 0) 10), oo 6 (.box (.t 2) 1), oo 7 (.box (.t 3) 1), oo 8 (.mv (.c (.bool false)))] (some [1, 4, 6, 7]))
 (.sq (.op 0 [om 9 1, oo 10 (.mkf Ue [(.t 4), (.t 7), (.t 6)]), oo 11 (cv Yj [(.t 9), (.t 10)]), om 8 11] (some [8]))
 .rt)),
 [.t 8]⟩
def Xm : IR :=
 (.sq (.op 0 [oo 9 (.bin .lss (.t 8) (.t 7))] none)
 (.sq (.cd (.t 9)
 .sk
 (.ex 0))
 (.sq (.bk 1 (.sq (.op 0 [om 10 8, om 5 10] none)
 (.sq (.op 0 [om 11 1, om 12 0, om 13 5, oo 14 (.ia (.t 12) (.t 13) 1), oo 15 (.ld (.t 14) 1 false), oo 16 (.bin .eql (.t 11) (.t 15))] (some [0, 1, 5, 7, 8, 16]))
 (.cd (.t 16)
 (.sq (.op 0 [om 17 5, om 4 17] none)
 .rt)
 .sk))))
 (.op 0 [oo 18 (.bin .add (.t 8) (ki 1)), om 8 18] none))))
def Qt : IR := Xm
theorem Q9 : evC C L π k0 Qt e s = evC C L π k0 Xm e s := rfl
def Ms : FnIR := ⟨19,
 (.sq (.op 0 [oo 4 (.mv (ki 0))] none)
 (.sq (.sq (.op 0 [om 6 0, oo 7 (.len false (.t 6)), oo 8 (.mv (ki 0))] none)
 (.kp [] [4] (.bk 0 (.lp [] [0, 1, 7, 8] Qt))))
 (.sq (.op 0 [oo 4 (.mv (ki (-1)))] none)
 .rt))),
 [.t 4]⟩
def c_ds_CkD_1 : FnIR := ⟨14,
 (.sq (.op 0 [oo 1 (.mv (ki 0)), oo 2 (.mv (ki 0))] none)
 (.sq (.op 8 [oo 3 (.fa (.t 0) 0), oo 4 (.ld (.t 3) 1 false), oo 5 (cv F1 [(.t 4)]), oo 6 (cv Ze [(.t 5), (ki 4)]), oo 7 (.fa (.t 0) 1), oo 8 (.ld (.t 7) 1 false), oo 9 (.len false (.t 8)), oo 10 (.bin .leq (.t 9) (ki 12)), oo 11 (cv Ze [(.t 10), (ki 8)]), oo 12 (.bsp Y5 1 false [.int .i64 0] 2 [(0, (.t 6)), (1, (.t 11))]), oo 13 (cv X6 [(.t 12)]), oo 1 (.mv (ki 0)), om 2 13] (some [1, 2]))
 .rt)),
 [.t 1, .t 2]⟩
def Lg : IR :=
 (.sq (.op 0 [oo 8 (.bin .lss (.t 7) (.t 6))] none)
 (.sq (.cd (.t 8)
 .sk
 (.ex 0))
 (.sq (.bk 1 (.sq (.op 0 [oo 9 (.ia (.t 5) (.t 7) 1), oo 10 (.ld (.t 9) 1 false), om 4 10] none)
 (.sq (.op 0 [om 11 4, oo 12 (.bin .neq (.t 11) (ki 0))] none)
 (.cd (.t 12)
 (.sq (.op 0 [om 13 4, om 2 13] none)
 .rt)
 .sk))))
 (.op 0 [oo 14 (.bin .add (.t 7) (ki 1)), om 7 14] none))))
def Z32 : IR := Lg
theorem Z24 : evC C L π k0 Z32 e s = evC C L π k0 Lg e s := rfl
def c_ds_first : FnIR := ⟨15,
 (.sq (.op 0 [oo 2 (.mv (ki 0))] none)
 (.sq (.sq (.op 0 [om 5 0, oo 6 (.len false (.t 5)), oo 7 (.mv (ki 0))] none)
 (.kp [] [2] (.bk 0 (.lp [] [5, 6, 7] Z32))))
 (.sq (.op 0 [oo 2 (.mv (ki 0))] none)
 .rt))),
 [.t 2]⟩
def c_ds_unless : FnIR := ⟨7,
 (.sq (.op 0 [oo 4 (.mv (ki 0))] none)
 (.sq (.sq (.op 0 [om 5 0] none)
 (.cd (.t 5)
 (.sq (.op 0 [oo 4 (.mv (ki 0))] none)
 .rt)
 .sk))
 (.sq (.op 0 [om 6 1, om 4 6] none)
 .rt))),
 [.t 4]⟩
def Xi : IR :=
 (.sq (.op 0 [oo 9 (.bin .lss (.t 8) (.t 7))] none)
 (.sq (.cd (.t 9)
 .sk
 (.ex 0))
 (.sq (.bk 1 (.sq (.op 0 [om 10 8, om 3 10] none)
 (.sq (.op 0 [om 11 0, om 12 3, oo 13 (.idx (.t 11) (.t 12)), oo 14 (.conv .i64 (.t 13)), om 4 14] (some [0, 3, 4, 7, 8]))
 (.sq (.op 0 [om 15 4, oo 16 (cv Ye [(.t 15), (ki 97), (ki 122)]), om 17 16, og 18 17 false (.mv (.t 4)), og 19 17 false (cv Ye [(.t 18), (ki 65), (ki 90)]), oo 20 (.pick (.t 17) (.c (.bool true)) (.t 19)), om 5 20] (some [0, 3, 4, 5, 7, 8]))
 (.sq (.op 0 [om 21 5, oo 22 (.un .not (.t 21)), om 23 22, og 24 23 true (.mv (.t 3)), og 25 23 true (.bin .eql (.t 24) (ki 0)), og 26 23 true (.mv (.t 25)), og 27 26 false (.mv (.t 4)), og 28 26 false (.bin .neq (.t 27) (ki 95)), og 29 26 false (.mv (.t 28)), og 30 29 true (.mv (.t 4)), og 31 29 true (cv Ye [(.t 30), (ki 48), (ki 57)]), og 32 29 true (.un .not (.t 31)), og 33 26 false (.pick (.t 29) (.t 32) (.c (.bool false))), og 34 23 true (.pick (.t 26) (.c (.bool true)) (.t 33)), oo 35 (.pick (.t 23) (.t 34) (.c (.bool false)))] (some [0, 7, 8, 35]))
 (.cd (.t 35)
 (.sq (.op 0 [oo 2 (.mv (.c (.bool false)))] none)
 .rt)
 .sk))))))
 (.op 0 [oo 36 (.bin .add (.t 8) (ki 1)), om 8 36] none))))
def Z0w : IR := Xi
theorem V7 : evC C L π k0 Z0w e s = evC C L π k0 Xi e s := rfl
def c_ds_isName : FnIR := ⟨40,
 (.sq (.op 0 [oo 2 (.mv (.c (.bool false)))] none)
 (.sq (.sq (.op 0 [om 6 0, oo 7 (.len true (.t 6)), oo 8 (.mv (ki 0))] none)
 (.kp [0] [2] (.bk 0 (.lp [] [0, 7, 8] Z0w))))
 (.sq (.op 0 [om 37 0, oo 38 (.len true (.t 37)), oo 39 (cv Ye [(.t 38), (ki 1), (ki 16)]), om 2 39] (some [2]))
 .rt))),
 [.t 2]⟩
def c_ds_CkD_2 : FnIR := ⟨11,
 (.sq (.op 0 [oo 3 (.mv (ki 0)), oo 4 (.mv (ki 0))] none)
 (.sq (.op 0 [oo 5 (.fa (.t 0) 1), oo 6 (.ld (.t 5) 1 false), oo 7 (.mkf M2 [(.t 1), (.t 2)]), oo 8 (.callS (.c (.fn Uy [])) [(.t 6), (.t 7)]), oo 9 (.ext (.t 8) 0), oo 10 (.ext (.t 8) 1), om 3 9, om 4 10] (some [3, 4]))
 .rt)),
 [.t 3, .t 4]⟩
def Xp : IR :=
 (.sq (.op 0 [oo 12 (.bin .lss (.t 11) (.t 10))] none)
 (.sq (.cd (.t 12)
 .sk
 (.ex 0))
 (.sq (.bk 1 (.sq (.op 0 [om 13 11, oo 14 (.ia (.t 9) (.t 11) 2), oo 15 (.ld (.t 14) 2 true), oo 7 (.alloc [.str ⟨#[]⟩, .int .i64 0]), om 6 13, ou (.st (.t 7) (.t 15) 2)] (some [1, 6, 7, 9, 10, 11]))
 (.sq (.op 0 [om 16 1, om 17 6, oo 18 (.ld (.t 7) 2 true), oo 19 (.callS (.t 16) [(.t 17), (.t 18)]), om 8 19] (some [1, 6, 8, 9, 10, 11]))
 (.sq (.op 0 [om 20 8, oo 21 (.bin .neq (.t 20) (ki 0))] none)
 (.cd (.t 21)
 (.sq (.op 0 [om 22 6, om 23 8, om 4 22, om 5 23] (some [4, 5]))
 .rt)
 .sk)))))
 (.op 0 [oo 24 (.bin .add (.t 11) (ki 1)), om 11 24] none))))
def Qz : IR := Xp
theorem Qc : evC C L π k0 Qz e s = evC C L π k0 Xp e s := rfl
def L5 : FnIR := ⟨25,
 (.sq (.op 0 [oo 4 (.mv (ki 0)), oo 5 (.mv (ki 0))] none)
 (.sq (.sq (.op 0 [om 9 0, oo 10 (.len false (.t 9)), oo 11 (.mv (ki 0))] none)
 (.kp [] [4, 5] (.bk 0 (.lp [] [1, 9, 10, 11] Qz))))
 (.sq (.op 0 [oo 4 (.mv (ki 0)), oo 5 (.mv (ki 0))] none)
 .rt))),
 [.t 4, .t 5]⟩
def c_ds_CkD_2_1 : FnIR := ⟨21,
 (.sq (.op 0 [oo 5 (.box (.t 1) 2), oo 6 (.mv (ki 0))] none)
 (.sq (.op 10 [oo 7 (.ld (.t 2) 1 false), oo 8 (.fa (.t 5) 0), oo 9 (.ld (.t 8) 1 false), oo 10 (.callS (.c (.fn Xg [])) [(.t 7), (.t 9)]), oo 11 (.ld (.t 3) 1 false), oo 12 (.fa (.t 5) 0), oo 13 (.ld (.t 12) 1 false), oo 14 (.callS (.c (.fn Xg [])) [(.t 11), (.t 13)]), oo 15 (.fa (.t 5) 1), oo 16 (.ld (.t 15) 1 false), oo 17 (cv Ha [(.t 16)]), oo 18 (cv Ze [(.t 17), (ki 2)]), oo 19 (.bsp Y5 1 false [.int .i64 0] 3 [(0, (.t 10)), (1, (.t 14)), (2, (.t 18))]), oo 20 (cv X6 [(.t 19)]), om 6 20] (some [6]))
 .rt)),
 [.t 6]⟩
def Z0t : FnIR := ⟨19,
 (.sq (.op 0 [oo 4 (.mv (ki 0))] none)
 (.sq (.op 7 [om 6 1, oo 7 (cv F1 [(.t 6)]), oo 8 (cv Ze [(.t 7), (ki 4)]), om 9 0, om 10 1, oo 11 (.lkp (.t 9) (.t 10) (.str ⟨#[]⟩) (.bool false) false), oo 12 (.un .not (.t 11)), oo 13 (cv Ze [(.t 12), (ki 5)]), oo 14 (.bsp Y5 1 false [.int .i64 0] 2 [(0, (.t 8)), (1, (.t 13))]), oo 15 (cv X6 [(.t 14)]), om 5 15] (some [0, 1, 5]))
 (.sq (.op 0 [om 16 0, om 17 1, ou (.mpu (.t 16) (.t 17) (.c (.bool true)) (.str ⟨#[]⟩))] none)
 (.sq (.op 0 [om 18 5, om 4 18] none)
 .rt)))),
 [.t 4]⟩
def c_ds_isWidth : FnIR := ⟨5,
 (.sq (.op 0 [oo 2 (.mv (.c (.bool false)))] none)
 (.sq (.op 0 [om 3 0, oo 4 (cv Ye [(.t 3), (ki 1), (ki 16)]), om 2 4] none)
 .rt)),
 [.t 2]⟩
def c_ds_CkD_3 : FnIR := ⟨12,
 (.sq (.op 0 [oo 1 (.mv (ki 0)), oo 2 (.mv (ki 0))] none)
 (.sq (.op 0 [oo 3 (.fa (.t 0) 1), oo 4 (.ld (.t 3) 1 false), oo 5 (.len false (.t 4)), oo 6 (.fa (.t 0) 2), oo 7 (.ld (.t 6) 1 false), oo 8 (.len false (.t 7)), oo 9 (.bin .add (.t 5) (.t 8)), oo 10 (.bin .leq (.t 9) (ki 40)), oo 11 (cv Ze [(.t 10), (ki 8)]), oo 1 (.mv (ki 0)), om 2 11] (some [1, 2]))
 .rt)),
 [.t 1, .t 2]⟩
def c_ds_CkD_4 : FnIR := ⟨10,
 (.sq (.op 0 [oo 2 (.mv (ki 0)), oo 3 (.mv (ki 0))] none)
 (.sq (.op 0 [oo 4 (.fa (.t 0) 2), oo 5 (.ld (.t 4) 1 false), oo 6 (.mkf M1 [(.t 1)]), oo 7 (.callS (.c (.fn V4 [])) [(.t 5), (.t 6)]), oo 8 (.ext (.t 7) 0), oo 9 (.ext (.t 7) 1), om 2 8, om 3 9] (some [2, 3]))
 .rt)),
 [.t 2, .t 3]⟩
def Ys : IR :=
 (.sq (.op 0 [oo 12 (.bin .lss (.t 11) (.t 10))] none)
 (.sq (.cd (.t 12)
 .sk
 (.ex 0))
 (.sq (.bk 1 (.sq (.op 0 [om 13 11, oo 14 (.ia (.t 9) (.t 11) 5), oo 15 (.ld (.t 14) 5 true), oo 7 (.alloc [.str ⟨#[]⟩, .int .i64 0, .int .i64 0, .int .i64 0, .int .i64 0]), om 6 13, ou (.st (.t 7) (.t 15) 5)] (some [1, 6, 7, 9, 10, 11]))
 (.sq (.op 0 [om 16 1, om 17 6, oo 18 (.ld (.t 7) 5 true), oo 19 (.callS (.t 16) [(.t 17), (.t 18)]), om 8 19] (some [1, 6, 8, 9, 10, 11]))
 (.sq (.op 0 [om 20 8, oo 21 (.bin .neq (.t 20) (ki 0))] none)
 (.cd (.t 21)
 (.sq (.op 0 [om 22 6, om 23 8, om 4 22, om 5 23] (some [4, 5]))
 .rt)
 .sk)))))
 (.op 0 [oo 24 (.bin .add (.t 11) (ki 1)), om 11 24] none))))
def Vv : IR := Ys
theorem Vf : evC C L π k0 Vv e s = evC C L π k0 Ys e s := rfl
def P0 : FnIR := ⟨25,
 (.sq (.op 0 [oo 4 (.mv (ki 0)), oo 5 (.mv (ki 0))] none)
 (.sq (.sq (.op 0 [om 9 0, oo 10 (.len false (.t 9)), oo 11 (.mv (ki 0))] none)
 (.kp [] [4, 5] (.bk 0 (.lp [] [1, 9, 10, 11] Vv))))
 (.sq (.op 0 [oo 4 (.mv (ki 0)), oo 5 (.mv (ki 0))] none)
 .rt))),
 [.t 4, .t 5]⟩
def Z09 : FnIR := ⟨35,
 (.sq (.op 0 [oo 4 (.box (.t 1) 5), oo 5 (.mv (ki 0))] none)
 (.sq (.op 10 [oo 7 (.ld (.t 2) 1 false), oo 8 (.fa (.t 4) 0), oo 9 (.ld (.t 8) 1 false), oo 10 (.callS (.c (.fn Xg [])) [(.t 7), (.t 9)]), oo 11 (.fa (.t 4) 1), oo 12 (.ld (.t 11) 1 false), oo 13 (cv Ye [(.t 12), (ki 0), (ki 1)]), oo 14 (cv Ze [(.t 13), (ki 15)]), oo 15 (.fa (.t 4) 2), oo 16 (.ld (.t 15) 1 false), oo 17 (cv Ha [(.t 16)]), oo 18 (cv Ze [(.t 17), (ki 2)]), oo 19 (.bsp Y5 1 false [.int .i64 0] 3 [(0, (.t 10)), (1, (.t 14)), (2, (.t 18))]), oo 20 (cv X6 [(.t 19)]), om 6 20] (some [4, 6]))
 (.sq (.sq (.op 0 [om 21 6, oo 22 (.bin .neq (.t 21) (ki 0))] none)
 (.cd (.t 22)
 (.sq (.op 0 [om 23 6, om 5 23] none)
 .rt)
 .sk))
 (.sq (.op 0 [oo 24 (.fa (.t 4) 3), oo 25 (.ld (.t 24) 1 false), oo 26 (.fa (.t 4) 2), oo 27 (.ld (.t 26) 1 false), oo 28 (cv n_ds_fits [(.t 25), (.t 27)]), om 29 28, og 30 29 true (.fa (.t 4) 4), og 31 29 true (.ld (.t 30) 1 false), og 32 29 true (cv Ye [(.t 31), (ki 0), (ki 3)]), oo 33 (.pick (.t 29) (.t 32) (.c (.bool false))), oo 34 (cv Ze [(.t 33), (ki 2)]), om 5 34] (some [5]))
 .rt)))),
 [.t 5]⟩
def c_ds_within : FnIR := ⟨15,
 (.sq (.op 0 [oo 6 (.mv (.c (.bool false)))] none)
 (.sq (.op 0 [om 7 1, om 8 0, oo 9 (.bin .leq (.t 7) (.t 8)), om 10 9, og 11 10 true (.mv (.t 0)), og 12 10 true (.mv (.t 2)), og 13 10 true (.bin .leq (.t 11) (.t 12)), oo 14 (.pick (.t 10) (.t 13) (.c (.bool false))), om 6 14] (some [6]))
 .rt)),
 [.t 6]⟩
def c_ds_fits : FnIR := ⟨14,
 (.sq (.op 0 [oo 4 (.mv (.c (.bool false)))] none)
 (.sq (.op 0 [om 5 1, oo 6 (.bin .geq (.t 5) (ki 0)), om 7 6, og 8 7 true (.mv (.t 0)), og 9 7 true (.mv (.t 1)), og 10 7 true (.bin .shl (ki 1) (.t 9)), og 11 7 true (.bin .sub (.t 10) (ki 1)), og 12 7 true (cv Ye [(.t 8), (ki 0), (.t 11)]), oo 13 (.pick (.t 7) (.t 12) (.c (.bool false))), om 4 13] (some [4]))
 .rt)),
 [.t 4]⟩
def c_ds_CkD_5 : FnIR := ⟨10,
 (.sq (.op 0 [oo 1 (.mv (ki 0)), oo 2 (.mv (ki 0))] none)
 (.sq (.op 7 [oo 3 (.ld (.t 0) 7 true), oo 4 (cv Z29 [(.t 3)]), oo 5 (.fa (.t 0) 3), oo 6 (.ld (.t 5) 1 false), oo 7 (cv Qk [(.t 4), (.t 6)]), oo 8 (.ext (.t 7) 0), oo 9 (.ext (.t 7) 1), om 1 8, om 2 9] (some [1, 2]))
 .rt)),
 [.t 1, .t 2]⟩
def Vu : FnIR := ⟨30,
 (.sq (.op 0 [oo 2 (.box (.t 0) 1), oo 3 (.box (.t 1) 1), oo 4 (.mv (ki 0)), oo 5 (.mv (ki 0))] (some [2, 3]))
 (.sq (.sq (.op 0 [oo 9 (.ld (.t 2) 1 false), oo 10 (.len false (.t 9)), oo 11 (.bin .gtr (.t 10) (ki 40))] none)
 (.cd (.t 11)
 (.sq (.op 0 [oo 4 (.mv (ki 0)), oo 5 (.mv (ki 8))] none)
 .rt)
 .sk))
 (.sq (.sq (.op 0 [oo 13 (.ld (.t 2) 1 false), oo 14 (cv Mf [(.t 13), (.c (.fn Vm []))]), om 12 14, oo 15 (.ext (.t 12) 0), oo 16 (.ext (.t 12) 1), om 6 15, om 7 16] (some [2, 3, 6, 7]))
 (.sq (.op 0 [om 17 7, oo 18 (.bin .neq (.t 17) (ki 0))] none)
 (.cd (.t 18)
 (.sq (.op 0 [om 19 6, om 20 7, om 4 19, om 5 20] (some [4, 5]))
 .rt)
 .sk)))
 (.sq (.sq (.op 0 [oo 21 (.ld (.t 3) 1 false), oo 22 (.len false (.t 21)), oo 23 (.bin .gtr (.t 22) (ki 400))] none)
 (.cd (.t 23)
 (.sq (.op 0 [oo 4 (.mv (ki 0)), oo 5 (.mv (ki 8))] none)
 .rt)
 .sk))
 (.sq (.op 0 [oo 24 (cv Qi []), oo 8 (.alloc [.str ⟨#[]⟩, .int .i64 0, .bool false, .nilf, .nilf, .str ⟨#[]⟩, .int .i64 0, .bool false, .nilf, .nilf, .str ⟨#[]⟩, .int .i64 0, .bool false, .nilf, .nilf, .str ⟨#[]⟩, .int .i64 0, .bool false, .nilf, .nilf, .str ⟨#[]⟩, .int .i64 0, .bool false, .nilf, .nilf, .str ⟨#[]⟩, .int .i64 0, .bool false, .nilf, .nilf, .str ⟨#[]⟩, .int .i64 0, .bool false, .nilf, .nilf, .str ⟨#[]⟩, .int .i64 0, .bool false, .nilf, .nilf, .str ⟨#[]⟩, .int .i64 0, .bool false, .nilf, .nilf, .str ⟨#[]⟩, .int .i64 0, .bool false, .nilf, .nilf, .str ⟨#[]⟩, .int .i64 0, .bool false, .nilf, .nilf, .str ⟨#[]⟩, .int .i64 0, .bool false, .nilf, .nilf, .str ⟨#[]⟩, .int .i64 0, .bool false, .nilf, .nilf, .str ⟨#[]⟩, .int .i64 0, .bool false, .nilf, .nilf, .str ⟨#[]⟩, .int .i64 0, .bool false, .nilf, .nilf, .str ⟨#[]⟩, .int .i64 0, .bool false, .nilf, .nilf, .str ⟨#[]⟩, .int .i64 0, .bool false, .nilf, .nilf, .str ⟨#[]⟩, .int .i64 0, .bool false, .nilf, .nilf, .str ⟨#[]⟩, .int .i64 0, .bool false, .nilf, .nilf]), ou (.st (.t 8) (.t 24) 95)] none)
 (.sq (.op 0 [oo 25 (.ld (.t 3) 1 false), oo 26 (.mkf Vl [(.t 8), (.t 2), (.t 3)]), oo 27 (cv Uw [(.t 25), (.t 26)]), oo 28 (.ext (.t 27) 0), oo 29 (.ext (.t 27) 1), om 4 28, om 5 29] (some [4, 5]))
 .rt)))))),
 [.t 4, .t 5]⟩
def Kx : IR :=
 (.sq (.op 0 [oo 12 (.bin .lss (.t 11) (.t 10))] none)
 (.sq (.cd (.t 12)
 .sk
 (.ex 0))
 (.sq (.bk 1 (.sq (.op 0 [oo 13 (.ia (.t 9) (.t 11) 2), oo 14 (.ld (.t 13) 2 true), oo 5 (.alloc [.str ⟨#[]⟩, .int .i64 0]), ou (.st (.t 5) (.t 14) 2)] (some [1, 3, 5, 9, 10, 11]))
 (.op 0 [om 15 3, oo 16 (.fa (.t 5) 1), oo 17 (.ld (.t 16) 1 false), oo 18 (.bsl t_int 1 false [.int .i64 0] 1 [(0, (.t 17))]), oo 19 (.app (.t 15) (.t 18) t_int 1), om 3 19] (some [1, 3, 9, 10, 11]))))
 (.op 0 [oo 20 (.bin .add (.t 11) (ki 1)), om 11 20] none))))
def Z0v : IR := Kx
theorem u_ds_leaves_L0 : evC C L π k0 Z0v e s = evC C L π k0 Kx e s := rfl
def Kw : IR :=
 (.sq (.op 0 [oo 25 (.bin .lss (.t 24) (.t 23))] none)
 (.sq (.cd (.t 25)
 .sk
 (.ex 2))
 (.sq (.bk 3 (.sq (.op 0 [oo 26 (.ia (.t 22) (.t 24) 5), oo 27 (.ld (.t 26) 5 true), oo 7 (.alloc [.str ⟨#[]⟩, .int .i64 0, .int .i64 0, .int .i64 0, .int .i64 0]), ou (.st (.t 7) (.t 27) 5)] (some [3, 7, 22, 23, 24]))
 (.op 0 [om 28 3, oo 29 (.fa (.t 7) 2), oo 30 (.ld (.t 29) 1 false), oo 31 (.bsl t_int 1 false [.int .i64 0] 1 [(0, (.t 30))]), oo 32 (.app (.t 28) (.t 31) t_int 1), om 3 32] (some [3, 22, 23, 24]))))
 (.op 0 [oo 33 (.bin .add (.t 24) (ki 1)), om 24 33] none))))
def Z0u : IR := Kw
theorem u_ds_leaves_L1 : evC C L π k0 Z0u e s = evC C L π k0 Kw e s := rfl
def c_ds_leaves : FnIR := ⟨35,
 (.sq (.op 0 [oo 1 (.box (.t 0) 7), oo 2 (.mv (.c (.sl 1 (some true) [])))] none)
 (.sq (.op 0 [oo 3 (.mv (.c (.sl 1 (some true) [])))] none)
 (.sq (.sq (.op 0 [oo 8 (.fa (.t 1) 1), oo 9 (.ld (.t 8) 1 false), oo 10 (.len false (.t 9)), oo 11 (.mv (ki 0))] (some [1, 3, 9, 10, 11]))
 (.kp [1, 3] [2] (.bk 0 (.lp [(t_int, .inl 3)] [1, 3, 9, 10, 11] Z0v))))
 (.sq (.sq (.op 0 [oo 21 (.fa (.t 1) 2), oo 22 (.ld (.t 21) 1 false), oo 23 (.len false (.t 22)), oo 24 (.mv (ki 0))] (some [3, 22, 23, 24]))
 (.kp [3] [2] (.bk 2 (.lp [(t_int, .inl 3)] [3, 22, 23, 24] Z0u))))
 (.sq (.op 0 [om 34 3, om 2 34] none)
 .rt))))),
 [.t 2]⟩
def c_ds_CkD_6 : FnIR := ⟨8,
 (.sq (.op 0 [oo 1 (.mv (ki 0)), oo 2 (.mv (ki 0))] none)
 (.sq (.op 0 [oo 3 (.fa (.t 0) 4), oo 4 (.ld (.t 3) 1 false), oo 5 (.len false (.t 4)), oo 6 (.bin .leq (.t 5) (ki 16)), oo 7 (cv Ze [(.t 6), (ki 8)]), oo 1 (.mv (ki 0)), om 2 7] (some [1, 2]))
 .rt)),
 [.t 1, .t 2]⟩
def c_ds_CkD_7 : FnIR := ⟨10,
 (.sq (.op 0 [oo 2 (.mv (ki 0)), oo 3 (.mv (ki 0))] none)
 (.sq (.op 0 [oo 4 (.fa (.t 0) 4), oo 5 (.ld (.t 4) 1 false), oo 6 (.mkf M0 [(.t 1), (.t 0)]), oo 7 (.callS (.c (.fn Ux [])) [(.t 5), (.t 6)]), oo 8 (.ext (.t 7) 0), oo 9 (.ext (.t 7) 1), om 2 8, om 3 9] (some [2, 3]))
 .rt)),
 [.t 2, .t 3]⟩
def Xo : IR :=
 (.sq (.op 0 [oo 12 (.bin .lss (.t 11) (.t 10))] none)
 (.sq (.cd (.t 12)
 .sk
 (.ex 0))
 (.sq (.bk 1 (.sq (.op 0 [om 13 11, oo 14 (.ia (.t 9) (.t 11) 3), oo 15 (.ld (.t 14) 3 true), oo 7 (.alloc [.str ⟨#[]⟩, .int .i64 0, .sl 3 (some true) []]), om 6 13, ou (.st (.t 7) (.t 15) 3)] (some [1, 6, 7, 9, 10, 11]))
 (.sq (.op 0 [om 16 1, om 17 6, oo 18 (.ld (.t 7) 3 true), oo 19 (.callS (.t 16) [(.t 17), (.t 18)]), om 8 19] (some [1, 6, 8, 9, 10, 11]))
 (.sq (.op 0 [om 20 8, oo 21 (.bin .neq (.t 20) (ki 0))] none)
 (.cd (.t 21)
 (.sq (.op 0 [om 22 6, om 23 8, om 4 22, om 5 23] (some [4, 5]))
 .rt)
 .sk)))))
 (.op 0 [oo 24 (.bin .add (.t 11) (ki 1)), om 11 24] none))))
def Qy : IR := Xo
theorem Qb : evC C L π k0 Qy e s = evC C L π k0 Xo e s := rfl
def L4 : FnIR := ⟨25,
 (.sq (.op 0 [oo 4 (.mv (ki 0)), oo 5 (.mv (ki 0))] none)
 (.sq (.sq (.op 0 [om 9 0, oo 10 (.len false (.t 9)), oo 11 (.mv (ki 0))] none)
 (.kp [] [4, 5] (.bk 0 (.lp [] [1, 9, 10, 11] Qy))))
 (.sq (.op 0 [oo 4 (.mv (ki 0)), oo 5 (.mv (ki 0))] none)
 .rt))),
 [.t 4, .t 5]⟩
def c_ds_CkD_7_1 : FnIR := ⟨37,
 (.sq (.op 0 [oo 5 (.box (.t 1) 3), oo 6 (.mv (ki 0))] none)
 (.sq (.op 13 [oo 10 (.ld (.t 2) 1 false), oo 11 (.fa (.t 5) 0), oo 12 (.ld (.t 11) 1 false), oo 13 (.callS (.c (.fn Xg [])) [(.t 10), (.t 12)]), oo 14 (.ld (.t 3) 7 true), oo 15 (.fa (.t 5) 1), oo 16 (.ld (.t 15) 1 false), oo 17 (cv Ud [(.t 14), (.t 16)]), oo 18 (cv Ze [(.t 17), (ki 9)]), oo 19 (.fa (.t 5) 2), oo 20 (.ld (.t 19) 1 false), oo 21 (.len false (.t 20)), oo 22 (.bin .leq (.t 21) (ki 16)), oo 23 (cv Ze [(.t 22), (ki 8)]), oo 24 (.bsp Y5 1 false [.int .i64 0] 3 [(0, (.t 13)), (1, (.t 18)), (2, (.t 23))]), oo 25 (cv X6 [(.t 24)]), om 7 25] (some [3, 5, 7]))
 (.sq (.op 0 [oo 27 (.fa (.t 5) 2), oo 28 (.ld (.t 27) 1 false), oo 29 (.mkf Pn [(.t 3)]), oo 30 (cv U5 [(.t 28), (.t 29)]), om 26 30, oo 31 (.ext (.t 26) 0), oo 32 (.ext (.t 26) 1), om 8 31, om 9 32] (some [7, 9]))
 (.sq (.op 0 [om 33 7, om 34 9, oo 35 (.bsp Y5 1 false [.int .i64 0] 2 [(0, (.t 33)), (1, (.t 34))]), oo 36 (cv X6 [(.t 35)]), om 6 36] (some [6]))
 .rt)))),
 [.t 6]⟩
def N4 : FnIR := ⟨17,
 (.sq (.op 0 [oo 2 (.box (.t 0) 7), oo 4 (.mv (.c (.bool false)))] none)
 (.sq (.op 0 [oo 5 (.ld (.t 2) 7 true), om 6 1, oo 7 (cv Lt [(.t 5), (.t 6)]), om 8 7, og 9 8 true (.fa (.t 2) 3), og 10 8 true (.ld (.t 9) 1 false), og 11 8 true (.mv (.t 1)), og 12 8 true (.ia (.t 10) (.t 11) 4), og 13 8 true (.fa (.t 12) 1), og 14 8 true (.ld (.t 13) 1 false), og 15 8 true (.bin .eql (.t 14) (ki 1)), oo 16 (.pick (.t 8) (.t 15) (.c (.bool false))), om 4 16] (some [4]))
 .rt)),
 [.t 4]⟩
def Yz : IR :=
 (.sq (.op 0 [oo 12 (.bin .lss (.t 11) (.t 10))] none)
 (.sq (.cd (.t 12)
 .sk
 (.ex 0))
 (.sq (.bk 1 (.sq (.op 0 [om 13 11, oo 14 (.ia (.t 9) (.t 11) 3), oo 15 (.ld (.t 14) 3 true), oo 7 (.alloc [.int .i64 0, .int .i64 0, .int .i64 0]), om 6 13, ou (.st (.t 7) (.t 15) 3)] (some [1, 6, 7, 9, 10, 11]))
 (.sq (.op 0 [om 16 1, om 17 6, oo 18 (.ld (.t 7) 3 true), oo 19 (.callV true (.t 16) [(.t 17), (.t 18)]), om 8 19] (some [1, 6, 8, 9, 10, 11]))
 (.sq (.op 0 [om 20 8, oo 21 (.bin .neq (.t 20) (ki 0))] none)
 (.cd (.t 21)
 (.sq (.op 0 [om 22 6, om 23 8, om 4 22, om 5 23] (some [4, 5]))
 .rt)
 .sk)))))
 (.op 0 [oo 24 (.bin .add (.t 11) (ki 1)), om 11 24] none))))
def Ut : IR := Yz
theorem Uq : evC C L π k0 Ut e s = evC C L π k0 Yz e s := rfl
def Nn : FnIR := ⟨25,
 (.sq (.op 0 [oo 4 (.mv (ki 0)), oo 5 (.mv (ki 0))] none)
 (.sq (.sq (.op 0 [om 9 0, oo 10 (.len false (.t 9)), oo 11 (.mv (ki 0))] none)
 (.kp [] [4, 5] (.bk 0 (.lp [] [1, 9, 10, 11] Ut))))
 (.sq (.op 0 [oo 4 (.mv (ki 0)), oo 5 (.mv (ki 0))] none)
 .rt))),
 [.t 4, .t 5]⟩
def Z0x : FnIR := ⟨9,
 (.sq (.op 0 [oo 4 (.box (.t 1) 3), oo 5 (.mv (ki 0))] none)
 (.sq (.op 0 [oo 6 (.ld (.t 2) 7 true), oo 7 (.ld (.t 4) 3 true), oo 8 (cv G9 [(.t 6), (.t 7)]), om 5 8] (some [5]))
 .rt)),
 [.t 5]⟩
def L2 : FnIR := ⟨46,
 (.sq (.op 0 [oo 2 (.box (.t 0) 7), oo 3 (.box (.t 1) 3), oo 4 (.mv (ki 0))] none)
 (.sq (.op 16 [oo 6 (.fa (.t 3) 0), oo 7 (.ld (.t 6) 1 false), oo 8 (.fa (.t 2) 2), oo 9 (.ld (.t 8) 1 false), oo 10 (.len false (.t 9)), oo 11 (.bin .sub (.t 10) (ki 1)), oo 12 (cv Ye [(.t 7), (ki 0), (.t 11)]), oo 13 (cv Ze [(.t 12), (ki 6)]), oo 14 (.ld (.t 2) 7 true), oo 15 (.fa (.t 3) 1), oo 16 (.ld (.t 15) 1 false), oo 17 (cv Ud [(.t 14), (.t 16)]), om 18 17, og 19 18 true (.ld (.t 2) 7 true), og 20 18 true (.fa (.t 3) 2), og 21 18 true (.ld (.t 20) 1 false), og 22 18 true (cv Lt [(.t 19), (.t 21)]), oo 23 (.pick (.t 18) (.t 22) (.c (.bool false))), oo 24 (cv Ze [(.t 23), (ki 9)]), oo 25 (.bsp Y5 1 false [.int .i64 0] 2 [(0, (.t 13)), (1, (.t 24))]), oo 26 (cv X6 [(.t 25)]), om 5 26] (some [2, 3, 5]))
 (.sq (.sq (.op 0 [om 27 5, oo 28 (.bin .neq (.t 27) (ki 0))] none)
 (.cd (.t 28)
 (.sq (.op 0 [om 29 5, om 4 29] none)
 .rt)
 .sk))
 (.sq (.op 14 [oo 30 (.fa (.t 2) 3), oo 31 (.ld (.t 30) 1 false), oo 32 (.fa (.t 3) 2), oo 33 (.ld (.t 32) 1 false), oo 34 (.ia (.t 31) (.t 33) 4), oo 35 (.fa (.t 34) 1), oo 36 (.ld (.t 35) 1 false), oo 37 (.fa (.t 2) 2), oo 38 (.ld (.t 37) 1 false), oo 39 (.fa (.t 3) 0), oo 40 (.ld (.t 39) 1 false), oo 41 (.ia (.t 38) (.t 40) 5), oo 42 (.fa (.t 41) 2), oo 43 (.ld (.t 42) 1 false), oo 44 (.bin .eql (.t 36) (.t 43)), oo 45 (cv Ze [(.t 44), (ki 25)]), om 4 45] (some [4]))
 .rt)))),
 [.t 4]⟩
def c_ds_CkD_8 : FnIR := ⟨8,
 (.sq (.op 0 [oo 1 (.mv (ki 0)), oo 2 (.mv (ki 0))] none)
 (.sq (.op 0 [oo 3 (.fa (.t 0) 5), oo 4 (.ld (.t 3) 1 false), oo 5 (.len false (.t 4)), oo 6 (.bin .leq (.t 5) (ki 12)), oo 7 (cv Ze [(.t 6), (ki 8)]), oo 1 (.mv (ki 0)), om 2 7] (some [1, 2]))
 .rt)),
 [.t 1, .t 2]⟩
def c_ds_CkD_9 : FnIR := ⟨10,
 (.sq (.op 0 [oo 2 (.mv (ki 0)), oo 3 (.mv (ki 0))] none)
 (.sq (.op 0 [oo 4 (.fa (.t 0) 5), oo 5 (.ld (.t 4) 1 false), oo 6 (.mkf Nz [(.t 1), (.t 0)]), oo 7 (.callS (.c (.fn Vb [])) [(.t 5), (.t 6)]), oo 8 (.ext (.t 7) 0), oo 9 (.ext (.t 7) 1), om 2 8, om 3 9] (some [2, 3]))
 .rt)),
 [.t 2, .t 3]⟩
def Yx : IR :=
 (.sq (.op 0 [oo 12 (.bin .lss (.t 11) (.t 10))] none)
 (.sq (.cd (.t 12)
 .sk
 (.ex 0))
 (.sq (.bk 1 (.sq (.op 0 [om 13 11, oo 14 (.ia (.t 9) (.t 11) 2), oo 15 (.ld (.t 14) 2 true), oo 7 (.alloc [.str ⟨#[]⟩, .int .i64 0]), om 6 13, ou (.st (.t 7) (.t 15) 2)] (some [1, 6, 7, 9, 10, 11]))
 (.sq (.op 0 [om 16 1, om 17 6, oo 18 (.ld (.t 7) 2 true), oo 19 (.callS (.t 16) [(.t 17), (.t 18)]), om 8 19] (some [1, 6, 8, 9, 10, 11]))
 (.sq (.op 0 [om 20 8, oo 21 (.bin .neq (.t 20) (ki 0))] none)
 (.cd (.t 21)
 (.sq (.op 0 [om 22 6, om 23 8, om 4 22, om 5 23] (some [4, 5]))
 .rt)
 .sk)))))
 (.op 0 [oo 24 (.bin .add (.t 11) (ki 1)), om 11 24] none))))
def U7 : IR := Yx
theorem U3 : evC C L π k0 U7 e s = evC C L π k0 Yx e s := rfl
def Pk : FnIR := ⟨25,
 (.sq (.op 0 [oo 4 (.mv (ki 0)), oo 5 (.mv (ki 0))] none)
 (.sq (.sq (.op 0 [om 9 0, oo 10 (.len false (.t 9)), oo 11 (.mv (ki 0))] none)
 (.kp [] [4, 5] (.bk 0 (.lp [] [1, 9, 10, 11] U7))))
 (.sq (.op 0 [oo 4 (.mv (ki 0)), oo 5 (.mv (ki 0))] none)
 .rt))),
 [.t 4, .t 5]⟩
def c_ds_CkD_9_1 : FnIR := ⟨18,
 (.sq (.op 0 [oo 5 (.box (.t 1) 2), oo 6 (.mv (ki 0))] none)
 (.sq (.op 7 [oo 7 (.ld (.t 2) 1 false), oo 8 (.fa (.t 5) 0), oo 9 (.ld (.t 8) 1 false), oo 10 (.callS (.c (.fn Xg [])) [(.t 7), (.t 9)]), oo 11 (.ld (.t 3) 7 true), oo 12 (.fa (.t 5) 1), oo 13 (.ld (.t 12) 1 false), oo 14 (cv Lt [(.t 11), (.t 13)]), oo 15 (cv Ze [(.t 14), (ki 9)]), oo 16 (.bsp Y5 1 false [.int .i64 0] 2 [(0, (.t 10)), (1, (.t 15))]), oo 17 (cv X6 [(.t 16)]), om 6 17] (some [6]))
 .rt)),
 [.t 6]⟩
def c_ds_isNode : FnIR := ⟨11,
 (.sq (.op 0 [oo 2 (.box (.t 0) 7), oo 4 (.mv (.c (.bool false)))] none)
 (.sq (.op 0 [om 5 1, oo 6 (.fa (.t 2) 3), oo 7 (.ld (.t 6) 1 false), oo 8 (.len false (.t 7)), oo 9 (.bin .sub (.t 8) (ki 1)), oo 10 (cv Ye [(.t 5), (ki 0), (.t 9)]), om 4 10] (some [4]))
 .rt)),
 [.t 4]⟩
def c_ds_CkD_10 : FnIR := ⟨8,
 (.sq (.op 0 [oo 1 (.mv (ki 0)), oo 2 (.mv (ki 0))] none)
 (.sq (.op 0 [oo 3 (.fa (.t 0) 6), oo 4 (.ld (.t 3) 1 false), oo 5 (.len false (.t 4)), oo 6 (.bin .leq (.t 5) (ki 16)), oo 7 (cv Ze [(.t 6), (ki 8)]), oo 1 (.mv (ki 0)), om 2 7] (some [1, 2]))
 .rt)),
 [.t 1, .t 2]⟩
def c_ds_CkD_11 : FnIR := ⟨9,
 (.sq (.op 0 [oo 1 (.mv (ki 0)), oo 2 (.mv (ki 0))] none)
 (.sq (.op 0 [oo 3 (.fa (.t 0) 6), oo 4 (.ld (.t 3) 1 false), oo 5 (.mkf Mg [(.t 0)]), oo 6 (cv W0 [(.t 4), (.t 5)]), oo 7 (.ext (.t 6) 0), oo 8 (.ext (.t 6) 1), om 1 7, om 2 8] (some [1, 2]))
 .rt)),
 [.t 1, .t 2]⟩
def Yb : IR :=
 (.sq (.op 0 [oo 12 (.bin .lss (.t 11) (.t 10))] none)
 (.sq (.cd (.t 12)
 .sk
 (.ex 0))
 (.sq (.bk 1 (.sq (.op 0 [om 13 11, oo 14 (.ia (.t 9) (.t 11) 2), oo 15 (.ld (.t 14) 2 true), oo 7 (.alloc [.int .i64 0, .sl 1 (some true) []]), om 6 13, ou (.st (.t 7) (.t 15) 2)] (some [1, 6, 7, 9, 10, 11]))
 (.sq (.op 0 [om 16 1, om 17 6, oo 18 (.ld (.t 7) 2 true), oo 19 (.callV true (.t 16) [(.t 17), (.t 18)]), om 8 19] (some [1, 6, 8, 9, 10, 11]))
 (.sq (.op 0 [om 20 8, oo 21 (.bin .neq (.t 20) (ki 0))] none)
 (.cd (.t 21)
 (.sq (.op 0 [om 22 6, om 23 8, om 4 22, om 5 23] (some [4, 5]))
 .rt)
 .sk)))))
 (.op 0 [oo 24 (.bin .add (.t 11) (ki 1)), om 11 24] none))))
def Wx : IR := Yb
theorem Wt : evC C L π k0 Wx e s = evC C L π k0 Yb e s := rfl
def U8 : FnIR := ⟨25,
 (.sq (.op 0 [oo 4 (.mv (ki 0)), oo 5 (.mv (ki 0))] none)
 (.sq (.sq (.op 0 [om 9 0, oo 10 (.len false (.t 9)), oo 11 (.mv (ki 0))] none)
 (.kp [] [4, 5] (.bk 0 (.lp [] [1, 9, 10, 11] Wx))))
 (.sq (.op 0 [oo 4 (.mv (ki 0)), oo 5 (.mv (ki 0))] none)
 .rt))),
 [.t 4, .t 5]⟩
def Z34 : FnIR := ⟨27,
 (.sq (.op 0 [oo 4 (.box (.t 1) 2), oo 5 (.mv (ki 0))] none)
 (.sq (.op 0 [oo 9 (.fa (.t 4) 1), oo 10 (.ld (.t 9) 1 false), oo 11 (.mkf Ql [(.t 2), (.t 4)]), oo 12 (cv Ga [(.t 10), (.t 11)]), om 8 12, oo 13 (.ext (.t 8) 0), oo 14 (.ext (.t 8) 1), om 6 13, om 7 14] (some [4, 7]))
 (.sq (.op 10 [oo 15 (.fa (.t 4) 0), oo 16 (.ld (.t 15) 1 false), oo 17 (cv Ye [(.t 16), (ki 0), (ki 3)]), oo 18 (cv Ze [(.t 17), (ki 15)]), oo 19 (.fa (.t 4) 1), oo 20 (.ld (.t 19) 1 false), oo 21 (.len false (.t 20)), oo 22 (cv Ye [(.t 21), (ki 1), (ki 16)]), oo 23 (cv Ze [(.t 22), (ki 10)]), om 24 7, oo 25 (.bsp Y5 1 false [.int .i64 0] 3 [(0, (.t 18)), (1, (.t 23)), (2, (.t 24))]), oo 26 (cv X6 [(.t 25)]), om 5 26] (some [5]))
 .rt))),
 [.t 5]⟩
def Uk : IR :=
 (.sq (.op 0 [oo 12 (.bin .lss (.t 11) (.t 10))] none)
 (.sq (.cd (.t 12)
 .sk
 (.ex 0))
 (.sq (.bk 1 (.sq (.op 0 [om 13 11, oo 14 (.ia (.t 9) (.t 11) 1), oo 15 (.ld (.t 14) 1 false), om 6 13, om 7 15] (some [1, 6, 7, 9, 10, 11]))
 (.sq (.op 0 [om 16 1, om 17 6, om 18 7, oo 19 (.callV true (.t 16) [(.t 17), (.t 18)]), om 8 19] (some [1, 6, 8, 9, 10, 11]))
 (.sq (.op 0 [om 20 8, oo 21 (.bin .neq (.t 20) (ki 0))] none)
 (.cd (.t 21)
 (.sq (.op 0 [om 22 6, om 23 8, om 4 22, om 5 23] (some [4, 5]))
 .rt)
 .sk)))))
 (.op 0 [oo 24 (.bin .add (.t 11) (ki 1)), om 11 24] none))))
def Hw : IR := Uk
theorem Hi : evC C L π k0 Hw e s = evC C L π k0 Uk e s := rfl
def Z33 : FnIR := ⟨25,
 (.sq (.op 0 [oo 4 (.mv (ki 0)), oo 5 (.mv (ki 0))] none)
 (.sq (.sq (.op 0 [om 9 0, oo 10 (.len false (.t 9)), oo 11 (.mv (ki 0))] none)
 (.kp [] [4, 5] (.bk 0 (.lp [] [1, 9, 10, 11] Hw))))
 (.sq (.op 0 [oo 4 (.mv (ki 0)), oo 5 (.mv (ki 0))] none)
 .rt))),
 [.t 4, .t 5]⟩
def Fm : FnIR := ⟨24,
 (.sq (.op 0 [oo 6 (.mv (ki 0))] none)
 (.sq (.op 12 [om 7 1, oo 8 (.fa (.t 2) 4), oo 9 (.ld (.t 8) 1 false), oo 10 (.len false (.t 9)), oo 11 (.bin .sub (.t 10) (ki 1)), oo 12 (cv Ye [(.t 7), (ki 0), (.t 11)]), oo 13 (cv Ze [(.t 12), (ki 6)]), oo 14 (.fa (.t 3) 1), oo 15 (.ld (.t 14) 1 false), om 16 0, oo 17 (.slc false (.t 15) none (some (.t 16)) 1), om 18 1, oo 19 (cv Y6 [(.t 17), (.t 18)]), oo 20 (.un .not (.t 19)), oo 21 (cv Ze [(.t 20), (ki 23)]), oo 22 (.bsp Y5 1 false [.int .i64 0] 2 [(0, (.t 13)), (1, (.t 21))]), oo 23 (cv X6 [(.t 22)]), om 6 23] (some [6]))
 .rt)),
 [.t 6]⟩
def c_rb_IsWidth : FnIR := ⟨5,
 (.sq (.op 0 [oo 2 (.mv (.c (.bool false)))] none)
 (.sq (.op 0 [om 3 0, oo 4 (cv Yc [(.t 3), (ki 1), (ki 16)]), om 2 4] none)
 .rt)),
 [.t 2]⟩
def P1 : IR :=
 (.sq (.sq (.op 0 [om 28 8, oo 29 (.fa (.t 7) 2), oo 30 (.ld (.t 29) 1 false), oo 31 (.len false (.t 30)), oo 32 (.bin .lss (.t 28) (.t 31))] (some [0, 1, 2, 7, 8, 32]))
 (.cd (.t 32)
 .sk
 (.ex 0)))
 (.sq (.bk 1 (.sq (.op 0 [oo 35 (.fa (.t 7) 2), oo 36 (.ld (.t 35) 1 false), om 37 8, oo 38 (.ia (.t 36) (.t 37) 1), oo 39 (.ld (.t 38) 1 false), om 40 2, oo 41 (.bin .sub (.t 40) (ki 1)), oo 42 (cv Yc [(.t 39), (ki 0), (.t 41)]), oo 43 (.un .not (.t 42))] (some [0, 1, 2, 7, 8, 43]))
 (.cd (.t 43)
 (.sq (.op 0 [oo 6 (.mv (ki 9))] none)
 .rt)
 .sk)))
 (.op 0 [om 33 8, oo 34 (.bin .add (.t 33) (ki 1)), om 8 34] none)))
def Fg : IR := P1
theorem Gv : evC C L π k0 Fg e s = evC C L π k0 P1 e s := rfl
def Qw : FnIR := ⟨84,
 (.sq (.op 0 [oo 6 (.mv (ki 0))] none)
 (.sq (.op 0 [om 9 1, om 10 2, oo 11 (.ia (.t 9) (.t 10) 4), oo 12 (.ld (.t 11) 4 true), oo 7 (.alloc [.int .i64 0, .int .i64 0, .sl 1 (some true) [], .int .i64 0]), ou (.st (.t 7) (.t 12) 4)] (some [0, 1, 2, 7]))
 (.sq (.sq (.op 0 [oo 13 (.fa (.t 7) 0), oo 14 (.ld (.t 13) 1 false), oo 15 (cv Yc [(.t 14), (ki 0), (ki 18)]), oo 16 (.un .not (.t 15))] (some [0, 1, 2, 7, 16]))
 (.cd (.t 16)
 (.sq (.op 0 [oo 6 (.mv (ki 15))] none)
 .rt)
 .sk))
 (.sq (.sq (.op 0 [oo 17 (.fa (.t 7) 1), oo 18 (.ld (.t 17) 1 false), oo 19 (cv Nt [(.t 18)]), oo 20 (.un .not (.t 19))] (some [0, 1, 2, 7, 20]))
 (.cd (.t 20)
 (.sq (.op 0 [oo 6 (.mv (ki 2))] none)
 .rt)
 .sk))
 (.sq (.sq (.op 6 [oo 21 (.fa (.t 7) 2), oo 22 (.ld (.t 21) 1 false), oo 23 (.len false (.t 22)), oo 24 (.fa (.t 7) 0), oo 25 (.ld (.t 24) 1 false), oo 26 (cv G5 [(.t 25)]), oo 27 (.bin .neq (.t 23) (.t 26))] (some [0, 1, 2, 7, 27]))
 (.cd (.t 27)
 (.sq (.op 0 [oo 6 (.mv (ki 10))] none)
 .rt)
 .sk))
 (.sq (.sq (.op 0 [oo 8 (.mv (ki 0))] none)
 (.kp [0, 1, 7] [6] (.bk 0 (.lp [] [0, 1, 2, 7, 8] Fg))))
 (.sq (.sq (.op 0 [oo 44 (.fa (.t 7) 0), oo 45 (.ld (.t 44) 1 false)] none)
 (.bk 2 (.sq (.op 0 [oo 50 (.bin .eql (.t 45) (ki 0)), om 49 50] none)
 (.cd (.t 49)
 (.sq (.sq (.op 0 [oo 51 (.fa (.t 7) 3), oo 52 (.ld (.t 51) 1 false), oo 53 (.fa (.t 7) 1), oo 54 (.ld (.t 53) 1 false), oo 55 (cv n_rb_Fits [(.t 52), (.t 54)]), oo 56 (.un .not (.t 55))] (some [56]))
 (.cd (.t 56)
 (.sq (.op 0 [oo 6 (.mv (ki 2))] none)
 .rt)
 .sk))
 (.sq (.op 0 [oo 6 (.mv (ki 0))] none)
 .rt))
 (.sq (.op 0 [oo 58 (.bin .eql (.t 45) (ki 1)), om 57 58] none)
 (.cd (.t 57)
 (.sq (.sq (.op 0 [oo 59 (.fa (.t 7) 3), oo 60 (.ld (.t 59) 1 false), om 61 0, oo 62 (.len false (.t 61)), oo 63 (.bin .sub (.t 62) (ki 1)), oo 64 (cv Yc [(.t 60), (ki 0), (.t 63)]), oo 65 (.un .not (.t 64))] (some [0, 7, 65]))
 (.cd (.t 65)
 (.sq (.op 0 [oo 6 (.mv (ki 6))] none)
 .rt)
 .sk))
 (.sq (.sq (.op 7 [om 66 0, oo 67 (.fa (.t 7) 3), oo 68 (.ld (.t 67) 1 false), oo 69 (.ia (.t 66) (.t 68) 1), oo 70 (.ld (.t 69) 1 false), oo 71 (.fa (.t 7) 1), oo 72 (.ld (.t 71) 1 false), oo 73 (.bin .neq (.t 70) (.t 72))] (some [73]))
 (.cd (.t 73)
 (.sq (.op 0 [oo 6 (.mv (ki 25))] none)
 .rt)
 .sk))
 (.sq (.op 0 [oo 6 (.mv (ki 0))] none)
 .rt)))
 (.sq (.op 0 [oo 75 (.bin .eql (.t 45) (ki 14)), om 74 75] none)
 (.cd (.t 74)
 (.sq (.op 0 [oo 76 (.fa (.t 7) 3), oo 77 (.ld (.t 76) 1 false), oo 78 (cv Yc [(.t 77), (ki 0), (ki 15)]), oo 79 (.un .not (.t 78))] (some [1, 7, 79]))
 (.cd (.t 79)
 (.sq (.op 0 [oo 6 (.mv (ki 2))] none)
 .rt)
 .sk))
 (.sq (.op 0 [oo 46 (.fa (.t 7) 3), oo 47 (.ld (.t 46) 1 false), oo 48 (.bin .neq (.t 47) (ki 0))] none)
 (.cd (.t 48)
 (.sq (.op 0 [oo 6 (.mv (ki 3))] none)
 .rt)
 .sk))))))))))
 (.sq (.sq (.op 0 [om 80 1, oo 81 (.ld (.t 7) 4 true), oo 82 (cv Kh [(.t 80), (.t 81)]), oo 83 (.un .not (.t 82))] (some [83]))
 (.cd (.t 83)
 (.sq (.op 0 [oo 6 (.mv (ki 25))] none)
 .rt)
 .sk))
 (.sq (.op 0 [oo 6 (.mv (ki 0))] none)
 .rt))))))))),
 [.t 6]⟩
def c_rb_IsNode : FnIR := ⟨10,
 (.sq (.op 0 [oo 4 (.mv (.c (.bool false)))] none)
 (.sq (.op 0 [om 5 1, om 6 0, oo 7 (.len false (.t 6)), oo 8 (.bin .sub (.t 7) (ki 1)), oo 9 (cv Yc [(.t 5), (ki 0), (.t 8)]), om 4 9] (some [4]))
 .rt)),
 [.t 4]⟩
def Wz : IR :=
 (.op 0 [om 5 7] none)
def Ww : IR := Wz
theorem Fx : evC C L π k0 Ww e s = evC C L π k0 Wz e s := rfl
def Wy : IR :=
 (.bk 1 (.op 0 [oo 8 (.ld (.t 2) 1 false), om 9 5, oo 10 (.bsl t_int 1 false [.int .i64 0] 1 [(0, (.t 9))]), oo 11 (.app (.t 8) (.t 10) t_int 1), ou (.st (.t 2) (.t 11) 1)] (some [])))
def Wv : IR := Wy
theorem Fw : evC C L π k0 Wv e s = evC C L π k0 Wy e s := rfl
def Us : FnIR := ⟨13,
 (.sq (.op 0 [oo 2 (.box (.t 0) 1), oo 4 (.mv (.c (.sl 1 (some true) [])))] none)
 (.sq (.sq (.kp [2, 4, 6] [4] (.op 0 [om 6 1] none))
 (.bk 0 (.kp [2] [4] (.tw [(t_int, .inr (2, 0))] (.rf (.t 6) 13 0 [2] [7] Ww Wv)))))
 (.sq (.op 0 [oo 12 (.ld (.t 2) 1 false), om 4 12] none)
 .rt))),
 [.t 4]⟩
def Ge : FnIR := ⟨19,
 (.sq (.op 0 [oo 6 (.mv (.c (.sl 1 (some true) []))), oo 7 (.mv (ki 0))] none)
 (.sq (.sq (.op 0 [om 9 0, om 10 1, om 11 2, oo 12 (cv G7 [(.t 9), (.t 10), (.t 11)]), om 8 12] (some [1, 2, 8]))
 (.sq (.op 0 [om 13 8, oo 14 (.bin .neq (.t 13) (ki 0))] none)
 (.cd (.t 14)
 (.sq (.op 0 [om 15 8, oo 6 (.mv (.c (.sl 1 (some true) []))), om 7 15] none)
 .rt)
 .sk)))
 (.sq (.op 0 [om 16 1, om 17 2, oo 18 (cw N0 [(.t 16), (.t 17)]), om 6 18, oo 7 (.mv (ki 0))] (some [6, 7]))
 .rt))),
 [.t 6, .t 7]⟩
def Lf : IR :=
 (.sq (.op 0 [oo 8 (.bin .lss (.t 7) (.t 6))] none)
 (.sq (.cd (.t 8)
 .sk
 (.ex 0))
 (.sq (.bk 1 (.sq (.op 0 [oo 9 (.ia (.t 5) (.t 7) 1), oo 10 (.ld (.t 9) 1 false), om 4 10] none)
 (.sq (.op 0 [om 11 4, oo 12 (.bin .neq (.t 11) (ki 0))] none)
 (.cd (.t 12)
 (.sq (.op 0 [om 13 4, om 2 13] none)
 .rt)
 .sk))))
 (.op 0 [oo 14 (.bin .add (.t 7) (ki 1)), om 7 14] none))))
def Z2v : IR := Lf
theorem Z23 : evC C L π k0 Z2v e s = evC C L π k0 Lf e s := rfl
def c_gr_first : FnIR := ⟨15,
 (.sq (.op 0 [oo 2 (.mv (ki 0))] none)
 (.sq (.sq (.op 0 [om 5 0, oo 6 (.len false (.t 5)), oo 7 (.mv (ki 0))] none)
 (.kp [] [2] (.bk 0 (.lp [] [5, 6, 7] Z2v))))
 (.sq (.op 0 [oo 2 (.mv (ki 0))] none)
 .rt))),
 [.t 2]⟩
def Z2u : FnIR := ⟨14,
 (.sq (.op 0 [oo 4 (.mv (ki 0))] none)
 (.sq (.op 0 [om 8 0, om 9 1, oo 10 (cv Qk [(.t 8), (.t 9)]), om 7 10, oo 11 (.ext (.t 7) 0), oo 12 (.ext (.t 7) 1), om 5 11, om 6 12] (some [6]))
 (.sq (.op 0 [om 13 6, om 4 13] none)
 .rt))),
 [.t 4]⟩
def c_gr_unless : FnIR := ⟨7,
 (.sq (.op 0 [oo 4 (.mv (ki 0))] none)
 (.sq (.sq (.op 0 [om 5 0] none)
 (.cd (.t 5)
 (.sq (.op 0 [oo 4 (.mv (ki 0))] none)
 .rt)
 .sk))
 (.sq (.op 0 [om 6 1, om 4 6] none)
 .rt))),
 [.t 4]⟩
def Uj : IR :=
 (.sq (.op 0 [oo 12 (.bin .lss (.t 11) (.t 10))] none)
 (.sq (.cd (.t 12)
 .sk
 (.ex 0))
 (.sq (.bk 1 (.sq (.op 0 [om 13 11, oo 14 (.ia (.t 9) (.t 11) 1), oo 15 (.ld (.t 14) 1 false), om 6 13, om 7 15] (some [1, 6, 7, 9, 10, 11]))
 (.sq (.op 0 [om 16 1, om 17 6, om 18 7, oo 19 (.callV true (.t 16) [(.t 17), (.t 18)]), om 8 19] (some [1, 6, 8, 9, 10, 11]))
 (.sq (.op 0 [om 20 8, oo 21 (.bin .neq (.t 20) (ki 0))] none)
 (.cd (.t 21)
 (.sq (.op 0 [om 22 6, om 23 8, om 4 22, om 5 23] (some [4, 5]))
 .rt)
 .sk)))))
 (.op 0 [oo 24 (.bin .add (.t 11) (ki 1)), om 11 24] none))))
def Hv : IR := Uj
theorem Hh : evC C L π k0 Hv e s = evC C L π k0 Uj e s := rfl
def Z2x : FnIR := ⟨25,
 (.sq (.op 0 [oo 4 (.mv (ki 0)), oo 5 (.mv (ki 0))] none)
 (.sq (.sq (.op 0 [om 9 0, oo 10 (.len false (.t 9)), oo 11 (.mv (ki 0))] none)
 (.kp [] [4, 5] (.bk 0 (.lp [] [1, 9, 10, 11] Hv))))
 (.sq (.op 0 [oo 4 (.mv (ki 0)), oo 5 (.mv (ki 0))] none)
 .rt))),
 [.t 4, .t 5]⟩
def c_gr_ValuesOf_1 : FnIR := ⟨13,
 (.sq (.op 0 [oo 5 (.mv (ki 0))] none)
 (.sq (.op 0 [om 6 1, oo 7 (.ld (.t 2) 1 false), om 8 0, oo 9 (.ia (.t 7) (.t 8) 1), oo 10 (.ld (.t 9) 1 false), oo 11 (cv n_gr_fits [(.t 6), (.t 10)]), oo 12 (cv Yd [(.t 11), (ki 2)]), om 5 12] (some [5]))
 .rt)),
 [.t 5]⟩
def c_gr_fits : FnIR := ⟨14,
 (.sq (.op 0 [oo 4 (.mv (.c (.bool false)))] none)
 (.sq (.op 0 [om 5 1, oo 6 (.bin .geq (.t 5) (ki 0)), om 7 6, og 8 7 true (.mv (.t 0)), og 9 7 true (.mv (.t 1)), og 10 7 true (.bin .shl (ki 1) (.t 9)), og 11 7 true (.bin .sub (.t 10) (ki 1)), og 12 7 true (cv V8 [(.t 8), (ki 0), (.t 11)]), oo 13 (.pick (.t 7) (.t 12) (.c (.bool false))), om 4 13] (some [4]))
 .rt)),
 [.t 4]⟩
def b_gr_valued_L0 : IR :=
 (.sq (.op 0 [oo 14 (.bin .lss (.t 13) (.t 12))] none)
 (.sq (.cd (.t 14)
 .sk
 (.ex 0))
 (.sq (.bk 1 (.sq (.op 0 [oo 15 (.ia (.t 11) (.t 13) 4), oo 16 (.ld (.t 15) 4 true), oo 8 (.alloc [.int .i64 0, .int .i64 0, .sl 1 (some true) [], .int .i64 0]), ou (.st (.t 8) (.t 16) 4)] (some [0, 1, 5, 6, 8, 11, 12, 13]))
 (.sq (.sq (.op 0 [oo 17 (.fa (.t 8) 0), oo 18 (.ld (.t 17) 1 false), oo 19 (.bin .eql (.t 18) (ki 1))] none)
 (.cd (.t 19)
 (.sq (.op 0 [om 20 6, om 21 1, oo 22 (.fa (.t 8) 3), oo 23 (.ld (.t 22) 1 false), oo 24 (.ia (.t 21) (.t 23) 1), oo 25 (.ld (.t 24) 1 false), oo 26 (.bsl t_int 1 false [.int .i64 0] 1 [(0, (.t 25))]), oo 27 (.app (.t 20) (.t 26) t_int 1), om 6 27] (some [0, 1, 5, 6, 11, 12, 13]))
 (.ex 1))
 .sk))
 (.sq (.op 0 [om 28 0, oo 29 (.ld (.t 8) 4 true), om 30 6, oo 31 (cv n_gr_applied [(.t 5), (.t 28), (.t 29), (.t 30)]), om 9 31] (some [0, 1, 5, 6, 9, 11, 12, 13]))
 (.op 0 [om 32 6, om 33 9, oo 34 (.bsl t_int 1 false [.int .i64 0] 1 [(0, (.t 33))]), oo 35 (.app (.t 32) (.t 34) t_int 1), om 6 35] (some [0, 1, 5, 6, 11, 12, 13]))))))
 (.op 0 [oo 36 (.bin .add (.t 13) (ki 1)), om 13 36] none))))
def c_gr_valued_L0 : IR := b_gr_valued_L0
def c_gr_valued : FnIR := ⟨38,
 (.sq (.op 0 [oo 4 (.mv (.c (.sl 1 (some true) [])))] none)
 (.sq (.op 0 [oo 10 (cv Qi []), oo 5 (.alloc [.str ⟨#[]⟩, .int .i64 0, .bool false, .nilf, .nilf, .str ⟨#[]⟩, .int .i64 0, .bool false, .nilf, .nilf, .str ⟨#[]⟩, .int .i64 0, .bool false, .nilf, .nilf, .str ⟨#[]⟩, .int .i64 0, .bool false, .nilf, .nilf, .str ⟨#[]⟩, .int .i64 0, .bool false, .nilf, .nilf, .str ⟨#[]⟩, .int .i64 0, .bool false, .nilf, .nilf, .str ⟨#[]⟩, .int .i64 0, .bool false, .nilf, .nilf, .str ⟨#[]⟩, .int .i64 0, .bool false, .nilf, .nilf, .str ⟨#[]⟩, .int .i64 0, .bool false, .nilf, .nilf, .str ⟨#[]⟩, .int .i64 0, .bool false, .nilf, .nilf, .str ⟨#[]⟩, .int .i64 0, .bool false, .nilf, .nilf, .str ⟨#[]⟩, .int .i64 0, .bool false, .nilf, .nilf, .str ⟨#[]⟩, .int .i64 0, .bool false, .nilf, .nilf, .str ⟨#[]⟩, .int .i64 0, .bool false, .nilf, .nilf, .str ⟨#[]⟩, .int .i64 0, .bool false, .nilf, .nilf, .str ⟨#[]⟩, .int .i64 0, .bool false, .nilf, .nilf, .str ⟨#[]⟩, .int .i64 0, .bool false, .nilf, .nilf, .str ⟨#[]⟩, .int .i64 0, .bool false, .nilf, .nilf, .str ⟨#[]⟩, .int .i64 0, .bool false, .nilf, .nilf]), ou (.st (.t 5) (.t 10) 95)] none)
 (.sq (.op 0 [oo 6 (.mv (.c (.sl 1 (some true) [])))] none)
 (.sq (.sq (.op 0 [om 11 0, oo 12 (.len false (.t 11)), oo 13 (.mv (ki 0))] none)
 (.kp [6] [4] (.bk 0 (.lp [(t_int, .inl 6)] [0, 1, 5, 6, 11, 12, 13] c_gr_valued_L0))))
 (.sq (.op 0 [om 37 6, om 4 37] none)
 .rt))))),
 [.t 4]⟩
def Fz : IR :=
 (.sq (.sq (.op 0 [om 7 3, oo 8 (.bin .geq (.t 7) (ki 0))] none)
 (.cd (.t 8)
 .sk
 (.ex 0)))
 (.sq (.bk 1 (.sq (.op 0 [om 11 0, om 12 3, oo 13 (.ld (.t 1) 1 false), om 14 3, oo 15 (.ia (.t 13) (.t 14) 1), oo 16 (.ld (.t 15) 1 false), oo 17 (.callS (.t 11) [(.t 12), (.t 16)]), oo 18 (.un .not (.t 17))] (some [0, 1, 3, 18]))
 (.cd (.t 18)
 .rt
 .sk)))
 (.op 0 [om 9 3, oo 10 (.bin .sub (.t 9) (ki 1)), om 3 10] none)))
def Fy : IR := Fz
def Z2j : FnIR := ⟨19,
 (.sq (.op 0 [oo 4 (.ld (.t 1) 1 false), oo 5 (.len false (.t 4)), oo 6 (.bin .sub (.t 5) (ki 1)), om 3 6] (some [0, 1, 3]))
 (.kp [] [] (.bk 0 (.lp [] [0, 1, 3] Fy)))),
 []⟩
def N5 : FnIR := ⟨21,
 (.sq (.op 0 [oo 5 (.mv (.c (.bool false)))] none)
 (.sq (.op 13 [oo 6 (.fa (.t 1) 0), oo 7 (.fa (.t 6) 0), oo 8 (.fa (.t 7) 2), oo 9 (.ld (.t 8) 1 false), om 10 0, oo 11 (.ia (.t 9) (.t 10) 5), oo 12 (.fa (.t 11) 1), oo 13 (.ld (.t 12) 1 false), oo 14 (.ld (.t 2) 1 false), oo 15 (.bin .eql (.t 13) (.t 14)), om 16 15, og 17 16 true (.ld (.t 3) 1 false), og 18 16 true (.mv (.t 0)), og 19 16 true (cv Y6 [(.t 17), (.t 18)]), oo 20 (.pick (.t 16) (.t 19) (.c (.bool false))), om 5 20] (some [5]))
 .rt)),
 [.t 5]⟩
def K9 : FnIR := ⟨8,
 (.sq (.op 0 [oo 4 (.mv (ki 0))] none)
 (.sq (.op 0 [om 5 1, oo 6 (cv H9 [(.t 5)]), oo 7 (cv Yd [(.t 6), (ki 2)]), om 4 7] (some [4]))
 .rt)),
 [.t 4]⟩
def c_gr_isWidth : FnIR := ⟨5,
 (.sq (.op 0 [oo 2 (.mv (.c (.bool false)))] none)
 (.sq (.op 0 [om 3 0, oo 4 (cv V8 [(.t 3), (ki 1), (ki 16)]), om 2 4] none)
 .rt)),
 [.t 2]⟩
def Fk : FnIR := ⟨24,
 (.sq (.op 0 [oo 0 (.alloc [.str ⟨#[]⟩, .int .i64 0, .bool false, .nilf, .nilf, .str ⟨#[]⟩, .int .i64 0, .bool false, .nilf, .nilf, .str ⟨#[]⟩, .int .i64 0, .bool false, .nilf, .nilf, .str ⟨#[]⟩, .int .i64 0, .bool false, .nilf, .nilf, .str ⟨#[]⟩, .int .i64 0, .bool false, .nilf, .nilf, .str ⟨#[]⟩, .int .i64 0, .bool false, .nilf, .nilf, .str ⟨#[]⟩, .int .i64 0, .bool false, .nilf, .nilf, .str ⟨#[]⟩, .int .i64 0, .bool false, .nilf, .nilf, .str ⟨#[]⟩, .int .i64 0, .bool false, .nilf, .nilf, .str ⟨#[]⟩, .int .i64 0, .bool false, .nilf, .nilf, .str ⟨#[]⟩, .int .i64 0, .bool false, .nilf, .nilf, .str ⟨#[]⟩, .int .i64 0, .bool false, .nilf, .nilf, .str ⟨#[]⟩, .int .i64 0, .bool false, .nilf, .nilf, .str ⟨#[]⟩, .int .i64 0, .bool false, .nilf, .nilf, .str ⟨#[]⟩, .int .i64 0, .bool false, .nilf, .nilf, .str ⟨#[]⟩, .int .i64 0, .bool false, .nilf, .nilf, .str ⟨#[]⟩, .int .i64 0, .bool false, .nilf, .nilf, .str ⟨#[]⟩, .int .i64 0, .bool false, .nilf, .nilf, .str ⟨#[]⟩, .int .i64 0, .bool false, .nilf, .nilf])] none)
 (.sq (.op 0 [oo 1 (.mv (.c (.fn Pm [])))] none)
 (.sq (.op 0 [om 2 1, oo 3 (.build [.str ⟨#[]⟩, .int .i64 0, .bool false, .nilf, .nilf] [(0, 1, (.c (.str ⟨#[99, 111, 110, 115, 116]⟩))), (1, 1, (ki 0)), (2, 1, (.c (.bool true))), (3, 1, (.c (.fn Y9 []))), (4, 1, (.t 2))]), om 4 1, oo 5 (.build [.str ⟨#[]⟩, .int .i64 0, .bool false, .nilf, .nilf] [(0, 1, (.c (.str ⟨#[108, 101, 97, 102]⟩))), (1, 1, (ki 0)), (2, 1, (.c (.bool true))), (3, 1, (.c (.fn Y9 []))), (4, 1, (.t 4))]), oo 6 (.build [.str ⟨#[]⟩, .int .i64 0, .bool false, .nilf, .nilf] [(0, 1, (.c (.str ⟨#[110, 111, 116]⟩))), (1, 1, (ki 1)), (2, 1, (.c (.bool false))), (3, 1, (.c (.fn Zd []))), (4, 1, (.c (.fn Z1h [])))]), oo 7 (cw U4 [(.c (.str ⟨#[97, 110, 100]⟩)), (.c (.fn H8 []))]), oo 8 (cw U4 [(.c (.str ⟨#[111, 114]⟩)), (.c (.fn H7 []))]), oo 9 (cw U4 [(.c (.str ⟨#[120, 111, 114]⟩)), (.c (.fn H6 []))]), oo 10 (cw U4 [(.c (.str ⟨#[97, 100, 100]⟩)), (.c (.fn H5 []))]), oo 11 (cw U4 [(.c (.str ⟨#[115, 117, 98]⟩)), (.c (.fn H4 []))]), oo 12 (cw U4 [(.c (.str ⟨#[109, 117, 108]⟩)), (.c (.fn H3 []))]), oo 13 (cw P6 [(.c (.str ⟨#[101, 113]⟩)), (.c (.fn H2 []))]), oo 14 (cw P6 [(.c (.str ⟨#[108, 116]⟩)), (.c (.fn Ny []))]), oo 15 (cw P6 [(.c (.str ⟨#[115, 108, 116]⟩)), (.c (.fn Nx []))]), oo 16 (.build [.str ⟨#[]⟩, .int .i64 0, .bool false, .nilf, .nilf] [(0, 1, (.c (.str ⟨#[109, 117, 120]⟩))), (1, 1, (ki 3)), (2, 1, (.c (.bool false))), (3, 1, (.c (.fn Nw []))), (4, 1, (.c (.fn Gs [])))]), oo 17 (.build [.str ⟨#[]⟩, .int .i64 0, .bool false, .nilf, .nilf] [(0, 1, (.c (.str ⟨#[106, 111, 105, 110]⟩))), (1, 1, (ki 2)), (2, 1, (.c (.bool false))), (3, 1, (.c (.fn Nv []))), (4, 1, (.c (.fn Gr [])))]), oo 18 (.build [.str ⟨#[]⟩, .int .i64 0, .bool false, .nilf, .nilf] [(0, 1, (.c (.str ⟨#[115, 108, 105, 99, 101]⟩))), (1, 1, (ki 1)), (2, 1, (.c (.bool true))), (3, 1, (.c (.fn Nu []))), (4, 1, (.c (.fn Gq [])))]), oo 19 (.build [.str ⟨#[]⟩, .int .i64 0, .bool false, .nilf, .nilf] [(0, 1, (.c (.str ⟨#[122, 101, 120, 116]⟩))), (1, 1, (ki 1)), (2, 1, (.c (.bool false))), (3, 1, (.c (.fn Y8 []))), (4, 1, (.c (.fn Gp [])))]), oo 20 (.build [.str ⟨#[]⟩, .int .i64 0, .bool false, .nilf, .nilf] [(0, 1, (.c (.str ⟨#[115, 101, 120, 116]⟩))), (1, 1, (ki 1)), (2, 1, (.c (.bool false))), (3, 1, (.c (.fn Y8 []))), (4, 1, (.c (.fn Gn [])))]), oo 21 (.build [.str ⟨#[]⟩, .int .i64 0, .bool false, .nilf, .nilf] [(0, 1, (.c (.str ⟨#[115, 104, 108]⟩))), (1, 1, (ki 2)), (2, 1, (.c (.bool false))), (3, 1, (.c (.fn Yl []))), (4, 1, (.c (.fn Gm [])))]), oo 22 (.build [.str ⟨#[]⟩, .int .i64 0, .bool false, .nilf, .nilf] [(0, 1, (.c (.str ⟨#[115, 104, 114]⟩))), (1, 1, (ki 2)), (2, 1, (.c (.bool false))), (3, 1, (.c (.fn Yl []))), (4, 1, (.c (.fn Gl [])))]), oo 23 (.build [.str ⟨#[]⟩, .int .i64 0, .bool false, .nilf, .nilf, .str ⟨#[]⟩, .int .i64 0, .bool false, .nilf, .nilf, .str ⟨#[]⟩, .int .i64 0, .bool false, .nilf, .nilf, .str ⟨#[]⟩, .int .i64 0, .bool false, .nilf, .nilf, .str ⟨#[]⟩, .int .i64 0, .bool false, .nilf, .nilf, .str ⟨#[]⟩, .int .i64 0, .bool false, .nilf, .nilf, .str ⟨#[]⟩, .int .i64 0, .bool false, .nilf, .nilf, .str ⟨#[]⟩, .int .i64 0, .bool false, .nilf, .nilf, .str ⟨#[]⟩, .int .i64 0, .bool false, .nilf, .nilf, .str ⟨#[]⟩, .int .i64 0, .bool false, .nilf, .nilf, .str ⟨#[]⟩, .int .i64 0, .bool false, .nilf, .nilf, .str ⟨#[]⟩, .int .i64 0, .bool false, .nilf, .nilf, .str ⟨#[]⟩, .int .i64 0, .bool false, .nilf, .nilf, .str ⟨#[]⟩, .int .i64 0, .bool false, .nilf, .nilf, .str ⟨#[]⟩, .int .i64 0, .bool false, .nilf, .nilf, .str ⟨#[]⟩, .int .i64 0, .bool false, .nilf, .nilf, .str ⟨#[]⟩, .int .i64 0, .bool false, .nilf, .nilf, .str ⟨#[]⟩, .int .i64 0, .bool false, .nilf, .nilf, .str ⟨#[]⟩, .int .i64 0, .bool false, .nilf, .nilf] [(0, 5, (.t 3)), (5, 5, (.t 5)), (10, 5, (.t 6)), (15, 5, (.t 7)), (20, 5, (.t 8)), (25, 5, (.t 9)), (30, 5, (.t 10)), (35, 5, (.t 11)), (40, 5, (.t 12)), (45, 5, (.t 13)), (50, 5, (.t 14)), (55, 5, (.t 15)), (60, 5, (.t 16)), (65, 5, (.t 17)), (70, 5, (.t 18)), (75, 5, (.t 19)), (80, 5, (.t 20)), (85, 5, (.t 21)), (90, 5, (.t 22))]), ou (.st (.t 0) (.t 23) 95)] (some [0]))
 .rt))),
 [.c 0 95 true]⟩
def Xn : IR :=
 (.sq (.op 0 [oo 12 (.bin .lss (.t 11) (.t 10))] none)
 (.sq (.cd (.t 12)
 .sk
 (.ex 0))
 (.sq (.bk 1 (.sq (.op 0 [om 13 11, oo 14 (.ia (.t 9) (.t 11) 4), oo 15 (.ld (.t 14) 4 true), oo 7 (.alloc [.int .i64 0, .int .i64 0, .sl 1 (some true) [], .int .i64 0]), om 6 13, ou (.st (.t 7) (.t 15) 4)] (some [1, 6, 7, 9, 10, 11]))
 (.sq (.op 0 [om 16 1, om 17 6, oo 18 (.ld (.t 7) 4 true), oo 19 (.callV true (.t 16) [(.t 17), (.t 18)]), om 8 19] (some [1, 6, 8, 9, 10, 11]))
 (.sq (.op 0 [om 20 8, oo 21 (.bin .neq (.t 20) (ki 0))] none)
 (.cd (.t 21)
 (.sq (.op 0 [om 22 6, om 23 8, om 4 22, om 5 23] (some [4, 5]))
 .rt)
 .sk)))))
 (.op 0 [oo 24 (.bin .add (.t 11) (ki 1)), om 11 24] none))))
def Qx : IR := Xn
theorem Qa : evC C L π k0 Qx e s = evC C L π k0 Xn e s := rfl
def L1 : FnIR := ⟨25,
 (.sq (.op 0 [oo 4 (.mv (ki 0)), oo 5 (.mv (ki 0))] none)
 (.sq (.sq (.op 0 [om 9 0, oo 10 (.len false (.t 9)), oo 11 (.mv (ki 0))] none)
 (.kp [] [4, 5] (.bk 0 (.lp [] [1, 9, 10, 11] Qx))))
 (.sq (.op 0 [oo 4 (.mv (ki 0)), oo 5 (.mv (ki 0))] none)
 .rt))),
 [.t 4, .t 5]⟩
def Vd : IR :=
 (.sq (.op 0 [oo 59 (.bin .lss (.t 58) (.t 57))] none)
 (.sq (.cd (.t 59)
 .sk
 (.ex 0))
 (.sq (.bk 1 (.sq (.op 0 [oo 60 (.ia (.t 56) (.t 58) 1), oo 61 (.ld (.t 60) 1 false), om 14 61] none)
 (.op 0 [om 62 12, oo 63 (.ld (.t 4) 1 false), om 64 14, oo 65 (.ia (.t 63) (.t 64) 4), oo 66 (.fa (.t 65) 1), oo 67 (.ld (.t 66) 1 false), oo 68 (.bsl t_int 1 false [.int .i64 0] 1 [(0, (.t 67))]), oo 69 (.app (.t 62) (.t 68) t_int 1), om 12 69] (some [4, 6, 9, 12, 56, 57, 58]))))
 (.op 0 [oo 70 (.bin .add (.t 58) (ki 1)), om 58 70] none))))
def Pj : IR := Vd
theorem G1 : evC C L π k0 Pj e s = evC C L π k0 Vd e s := rfl
def Ym : FnIR := ⟨80,
 (.sq (.op 0 [oo 5 (.box (.t 0) 1), oo 6 (.box (.t 1) 4), oo 7 (.mv (ki 0))] none)
 (.sq (.sq (.op 6 [oo 15 (.fa (.t 6) 0), oo 16 (.ld (.t 15) 1 false), oo 17 (cv V8 [(.t 16), (ki 0), (ki 18)]), oo 18 (cv Yd [(.t 17), (ki 15)]), oo 19 (.fa (.t 6) 1), oo 20 (.ld (.t 19) 1 false), oo 21 (cv H9 [(.t 20)]), oo 22 (cv Yd [(.t 21), (ki 2)]), oo 23 (.bsl Y5 1 false [.int .i64 0] 2 [(0, (.t 18)), (1, (.t 22))]), oo 24 (cv P7 [(.t 23)]), om 8 24] (some [2, 3, 4, 5, 6, 8]))
 (.sq (.op 0 [om 25 8, oo 26 (.bin .neq (.t 25) (ki 0))] none)
 (.cd (.t 26)
 (.sq (.op 0 [om 27 8, om 7 27] none)
 .rt)
 .sk)))
 (.sq (.op 0 [oo 28 (.fa (.t 6) 0), oo 29 (.ld (.t 28) 1 false), oo 30 (.iaa (.t 2) (.t 29) 19 5), oo 31 (.ld (.t 30) 5 true), oo 9 (.alloc [.str ⟨#[]⟩, .int .i64 0, .bool false, .nilf, .nilf]), ou (.st (.t 9) (.t 31) 5)] (some [3, 4, 5, 6, 9]))
 (.sq (.op 0 [oo 32 (.fa (.t 6) 2), oo 33 (.ld (.t 32) 1 false), oo 34 (.mkf Wf [(.t 5)]), oo 35 (cv Yj [(.t 33), (.t 34)]), om 10 35] (some [3, 4, 6, 9, 10]))
 (.sq (.sq (.op 13 [oo 36 (.fa (.t 6) 2), oo 37 (.ld (.t 36) 1 false), oo 38 (.len false (.t 37)), oo 39 (.fa (.t 9) 1), oo 40 (.ld (.t 39) 1 false), oo 41 (.bin .eql (.t 38) (.t 40)), oo 42 (cv Yd [(.t 41), (ki 10)]), om 43 10, oo 44 (.un .not (.t 43)), oo 45 (cv Yd [(.t 44), (ki 9)]), oo 46 (.ld (.t 3) 1 false), oo 47 (.ld (.t 6) 4 true), oo 48 (.ld (.t 9) 5 true), oo 49 (cv G6 [(.t 46), (.t 47), (.t 48)]), oo 50 (.bsl Y5 1 false [.int .i64 0] 3 [(0, (.t 42)), (1, (.t 45)), (2, (.t 49))]), oo 51 (cv P7 [(.t 50)]), om 11 51] (some [4, 6, 9, 11]))
 (.sq (.op 0 [om 52 11, oo 53 (.bin .neq (.t 52) (ki 0))] none)
 (.cd (.t 53)
 (.sq (.op 0 [om 54 11, om 7 54] none)
 .rt)
 .sk)))
 (.sq (.op 0 [oo 12 (.mv (.c (.sl 1 (some true) [])))] none)
 (.sq (.sq (.op 0 [oo 55 (.fa (.t 6) 2), oo 56 (.ld (.t 55) 1 false), oo 57 (.len false (.t 56)), oo 58 (.mv (ki 0))] (some [4, 6, 9, 12, 56, 57, 58]))
 (.kp [6, 9, 12] [7] (.bk 0 (.lp [(t_int, .inl 12)] [4, 6, 9, 12, 56, 57, 58] Pj))))
 (.sq (.op 0 [oo 71 (.fa (.t 9) 3), oo 72 (.ld (.t 71) 1 false), oo 73 (.fa (.t 6) 1), oo 74 (.ld (.t 73) 1 false), om 75 12, oo 76 (.fa (.t 6) 3), oo 77 (.ld (.t 76) 1 false), oo 78 (.callV true (.t 72) [(.t 74), (.t 75), (.t 77)]), oo 79 (cv Yd [(.t 78), (ki 25)]), om 7 79] (some [7]))
 .rt)))))))),
 [.t 7]⟩
def c_gr_within : FnIR := ⟨15,
 (.sq (.op 0 [oo 6 (.mv (.c (.bool false)))] none)
 (.sq (.op 0 [om 7 1, om 8 0, oo 9 (.bin .leq (.t 7) (.t 8)), om 10 9, og 11 10 true (.mv (.t 0)), og 12 10 true (.mv (.t 2)), og 13 10 true (.bin .leq (.t 11) (.t 12)), oo 14 (.pick (.t 10) (.t 13) (.c (.bool false))), om 6 14] (some [6]))
 .rt)),
 [.t 6]⟩
def Nm : FnIR := ⟨9,
 (.sq (.op 0 [oo 3 (.mv (.c (.bool false)))] none)
 (.sq (.op 0 [om 4 0, oo 5 (.ld (.t 1) 1 false), oo 6 (.bin .sub (.t 5) (ki 1)), oo 7 (cv V8 [(.t 4), (ki 0), (.t 6)]), oo 8 (.un .not (.t 7)), om 3 8] (some [3]))
 .rt)),
 [.t 3]⟩
def V5 : FnIR := ⟨49,
 (.sq (.op 0 [oo 4 (.box (.t 1) 4), oo 5 (.box (.t 2) 5), oo 6 (.mv (ki 0))] none)
 (.sq (.sq (.op 0 [oo 7 (.fa (.t 4) 0), oo 8 (.ld (.t 7) 1 false)] none)
 (.bk 0 (.sq (.op 0 [oo 10 (.bin .eql (.t 8) (ki 0)), om 9 10] none)
 (.cd (.t 9)
 (.sq (.op 0 [oo 11 (.fa (.t 4) 3), oo 12 (.ld (.t 11) 1 false), oo 13 (.fa (.t 4) 1), oo 14 (.ld (.t 13) 1 false), oo 15 (cv n_gr_fits [(.t 12), (.t 14)]), oo 16 (cv Yd [(.t 15), (ki 2)]), om 6 16] (some [6]))
 .rt)
 (.sq (.op 0 [oo 18 (.bin .eql (.t 8) (ki 1)), om 17 18] none)
 (.cd (.t 17)
 (.sq (.sq (.op 0 [oo 19 (.fa (.t 4) 3), oo 20 (.ld (.t 19) 1 false), om 21 0, oo 22 (.len false (.t 21)), oo 23 (.bin .sub (.t 22) (ki 1)), oo 24 (cv V8 [(.t 20), (ki 0), (.t 23)]), oo 25 (.un .not (.t 24))] (some [0, 4, 25]))
 (.cd (.t 25)
 (.sq (.op 0 [oo 6 (.mv (ki 6))] none)
 .rt)
 .sk))
 (.sq (.op 7 [om 26 0, oo 27 (.fa (.t 4) 3), oo 28 (.ld (.t 27) 1 false), oo 29 (.ia (.t 26) (.t 28) 1), oo 30 (.ld (.t 29) 1 false), oo 31 (.fa (.t 4) 1), oo 32 (.ld (.t 31) 1 false), oo 33 (.bin .eql (.t 30) (.t 32)), oo 34 (cv Yd [(.t 33), (ki 25)]), om 6 34] (some [6]))
 .rt))
 (.sq (.op 0 [oo 36 (.bin .eql (.t 8) (ki 14)), om 35 36] none)
 (.cd (.t 35)
 (.sq (.op 0 [oo 37 (.fa (.t 4) 3), oo 38 (.ld (.t 37) 1 false), oo 39 (cv V8 [(.t 38), (ki 0), (ki 15)]), oo 40 (cv Yd [(.t 39), (ki 2)]), om 6 40] (some [6]))
 .rt)
 .sk))))))))
 (.sq (.op 0 [oo 41 (.fa (.t 5) 2), oo 42 (.ld (.t 41) 1 false), om 43 42, og 44 43 false (.fa (.t 4) 3), og 45 43 false (.ld (.t 44) 1 false), og 46 43 false (.bin .eql (.t 45) (ki 0)), oo 47 (.pick (.t 43) (.c (.bool true)) (.t 46)), oo 48 (cv Yd [(.t 47), (ki 3)]), om 6 48] (some [6]))
 .rt))),
 [.t 6]⟩
def Zb : FnIR := ⟨14,
 (.sq (.op 0 [oo 2 (.mv (ki 0))] none)
 (.sq (.sq (.op 0 [om 3 0] none)
 (.bk 0 (.sq (.sq (.op 0 [oo 5 (.bin .eql (.t 3) (ki 0)), om 4 5] none)
 (.cd (.t 4)
 .sk
 (.op 0 [oo 6 (.bin .eql (.t 3) (ki 1)), om 4 6] none)))
 (.cd (.t 4)
 (.sq (.op 0 [oo 2 (.mv (ki 0))] none)
 .rt)
 (.sq (.sq (.op 0 [oo 8 (.bin .eql (.t 3) (ki 2)), om 7 8] none)
 (.cd (.t 7)
 .sk
 (.sq (.op 0 [oo 9 (.bin .eql (.t 3) (ki 14)), om 7 9] none)
 (.cd (.t 7)
 .sk
 (.sq (.op 0 [oo 10 (.bin .eql (.t 3) (ki 15)), om 7 10] none)
 (.cd (.t 7)
 .sk
 (.op 0 [oo 11 (.bin .eql (.t 3) (ki 16)), om 7 11] none)))))))
 (.cd (.t 7)
 (.sq (.op 0 [oo 2 (.mv (ki 1))] none)
 .rt)
 (.sq (.op 0 [oo 13 (.bin .eql (.t 3) (ki 12)), om 12 13] none)
 (.cd (.t 12)
 (.sq (.op 0 [oo 2 (.mv (ki 3))] none)
 .rt)
 .sk))))))))
 (.sq (.op 0 [oo 2 (.mv (ki 2))] none)
 .rt))),
 [.t 2]⟩
def Pc : IR :=
 (.sq (.sq (.op 0 [om 7 6, oo 8 (.fa (.t 3) 2), oo 9 (.ld (.t 8) 1 false), oo 10 (.len false (.t 9)), oo 11 (.bin .lss (.t 7) (.t 10))] (some [0, 3, 5, 6, 11]))
 (.cd (.t 11)
 .sk
 (.ex 0)))
 (.sq (.bk 1 (.op 0 [om 14 5, om 15 0, oo 16 (.fa (.t 3) 2), oo 17 (.ld (.t 16) 1 false), om 18 6, oo 19 (.ia (.t 17) (.t 18) 1), oo 20 (.ld (.t 19) 1 false), oo 21 (.ia (.t 15) (.t 20) 4), oo 22 (.fa (.t 21) 1), oo 23 (.ld (.t 22) 1 false), oo 24 (.bsl t_int 1 false [.int .i64 0] 1 [(0, (.t 23))]), oo 25 (.app (.t 14) (.t 24) t_int 1), om 5 25] (some [0, 3, 5, 6])))
 (.op 0 [om 12 6, oo 13 (.bin .add (.t 12) (ki 1)), om 6 13] none)))
def K1 : IR := Pc
theorem Z16 : evC C L π k0 K1 e s = evC C L π k0 Pc e s := rfl
def Z0k : FnIR := ⟨133,
 (.sq (.op 0 [oo 3 (.box (.t 1) 4), oo 4 (.mv (.c (.bool false)))] none)
 (.sq (.op 0 [oo 5 (.mv (.c (.sl 1 (some true) [])))] none)
 (.sq (.sq (.op 0 [oo 6 (.mv (ki 0))] none)
 (.kp [3, 5] [4] (.bk 0 (.lp [(t_int, .inl 5)] [0, 3, 5, 6] K1))))
 (.sq (.sq (.op 0 [oo 26 (.fa (.t 3) 0), oo 27 (.ld (.t 26) 1 false)] none)
 (.bk 2 (.sq (.op 0 [oo 29 (.bin .eql (.t 27) (ki 2)), om 28 29] none)
 (.cd (.t 28)
 (.sq (.op 5 [om 30 5, oo 31 (.ia (.t 30) (ki 0) 1), oo 32 (.ld (.t 31) 1 false), oo 33 (.fa (.t 3) 1), oo 34 (.ld (.t 33) 1 false), oo 35 (.bin .eql (.t 32) (.t 34)), om 4 35] (some [4]))
 .rt)
 (.sq (.sq (.op 0 [oo 37 (.bin .eql (.t 27) (ki 3)), om 36 37] none)
 (.cd (.t 36)
 .sk
 (.sq (.op 0 [oo 38 (.bin .eql (.t 27) (ki 4)), om 36 38] none)
 (.cd (.t 36)
 .sk
 (.sq (.op 0 [oo 39 (.bin .eql (.t 27) (ki 5)), om 36 39] none)
 (.cd (.t 36)
 .sk
 (.sq (.op 0 [oo 40 (.bin .eql (.t 27) (ki 6)), om 36 40] none)
 (.cd (.t 36)
 .sk
 (.sq (.op 0 [oo 41 (.bin .eql (.t 27) (ki 7)), om 36 41] none)
 (.cd (.t 36)
 .sk
 (.op 0 [oo 42 (.bin .eql (.t 27) (ki 8)), om 36 42] none)))))))))))
 (.cd (.t 36)
 (.sq (.op 12 [om 43 5, oo 44 (.ia (.t 43) (ki 0) 1), oo 45 (.ld (.t 44) 1 false), oo 46 (.fa (.t 3) 1), oo 47 (.ld (.t 46) 1 false), oo 48 (.bin .eql (.t 45) (.t 47)), om 49 48, og 50 49 true (.mv (.t 5)), og 51 49 true (.ia (.t 50) (ki 1) 1), og 52 49 true (.ld (.t 51) 1 false), og 53 49 true (.fa (.t 3) 1), og 54 49 true (.ld (.t 53) 1 false), og 55 49 true (.bin .eql (.t 52) (.t 54)), oo 56 (.pick (.t 49) (.t 55) (.c (.bool false))), om 4 56] (some [4]))
 .rt)
 (.sq (.sq (.op 0 [oo 58 (.bin .eql (.t 27) (ki 9)), om 57 58] none)
 (.cd (.t 57)
 .sk
 (.sq (.op 0 [oo 59 (.bin .eql (.t 27) (ki 10)), om 57 59] none)
 (.cd (.t 57)
 .sk
 (.op 0 [oo 60 (.bin .eql (.t 27) (ki 11)), om 57 60] none)))))
 (.cd (.t 57)
 (.sq (.op 6 [om 61 5, oo 62 (.ia (.t 61) (ki 0) 1), oo 63 (.ld (.t 62) 1 false), om 64 5, oo 65 (.ia (.t 64) (ki 1) 1), oo 66 (.ld (.t 65) 1 false), oo 67 (.bin .eql (.t 63) (.t 66)), om 68 67, og 69 68 true (.fa (.t 3) 1), og 70 68 true (.ld (.t 69) 1 false), og 71 68 true (.bin .eql (.t 70) (ki 1)), oo 72 (.pick (.t 68) (.t 71) (.c (.bool false))), om 4 72] (some [4]))
 .rt)
 (.sq (.op 0 [oo 74 (.bin .eql (.t 27) (ki 12)), om 73 74] none)
 (.cd (.t 73)
 (.sq (.op 18 [om 75 5, oo 76 (.ia (.t 75) (ki 0) 1), oo 77 (.ld (.t 76) 1 false), oo 78 (.bin .eql (.t 77) (ki 1)), om 79 78, og 80 79 true (.mv (.t 5)), og 81 79 true (.ia (.t 80) (ki 1) 1), og 82 79 true (.ld (.t 81) 1 false), og 83 79 true (.fa (.t 3) 1), og 84 79 true (.ld (.t 83) 1 false), og 85 79 true (.bin .eql (.t 82) (.t 84)), oo 86 (.pick (.t 79) (.t 85) (.c (.bool false))), om 87 86, og 88 87 true (.mv (.t 5)), og 89 87 true (.ia (.t 88) (ki 2) 1), og 90 87 true (.ld (.t 89) 1 false), og 91 87 true (.fa (.t 3) 1), og 92 87 true (.ld (.t 91) 1 false), og 93 87 true (.bin .eql (.t 90) (.t 92)), oo 94 (.pick (.t 87) (.t 93) (.c (.bool false))), om 4 94] (some [4]))
 .rt)
 (.sq (.op 0 [oo 96 (.bin .eql (.t 27) (ki 13)), om 95 96] none)
 (.cd (.t 95)
 (.sq (.op 9 [om 97 5, oo 98 (.ia (.t 97) (ki 0) 1), oo 99 (.ld (.t 98) 1 false), om 100 5, oo 101 (.ia (.t 100) (ki 1) 1), oo 102 (.ld (.t 101) 1 false), oo 103 (.bin .add (.t 99) (.t 102)), oo 104 (.fa (.t 3) 1), oo 105 (.ld (.t 104) 1 false), oo 106 (.bin .eql (.t 103) (.t 105)), om 4 106] (some [4]))
 .rt)
 (.sq (.op 0 [oo 108 (.bin .eql (.t 27) (ki 14)), om 107 108] none)
 (.cd (.t 107)
 (.sq (.op 8 [oo 109 (.fa (.t 3) 3), oo 110 (.ld (.t 109) 1 false), oo 111 (.fa (.t 3) 1), oo 112 (.ld (.t 111) 1 false), oo 113 (.bin .add (.t 110) (.t 112)), om 114 5, oo 115 (.ia (.t 114) (ki 0) 1), oo 116 (.ld (.t 115) 1 false), oo 117 (.bin .leq (.t 113) (.t 116)), om 4 117] (some [4]))
 .rt)
 (.sq (.sq (.op 0 [oo 119 (.bin .eql (.t 27) (ki 15)), om 118 119] none)
 (.cd (.t 118)
 .sk
 (.op 0 [oo 120 (.bin .eql (.t 27) (ki 16)), om 118 120] none)))
 (.cd (.t 118)
 (.sq (.op 5 [om 121 5, oo 122 (.ia (.t 121) (ki 0) 1), oo 123 (.ld (.t 122) 1 false), oo 124 (.fa (.t 3) 1), oo 125 (.ld (.t 124) 1 false), oo 126 (.bin .leq (.t 123) (.t 125)), om 4 126] (some [4]))
 .rt)
 .sk))))))))))))))))
 (.sq (.op 5 [om 127 5, oo 128 (.ia (.t 127) (ki 0) 1), oo 129 (.ld (.t 128) 1 false), oo 130 (.fa (.t 3) 1), oo 131 (.ld (.t 130) 1 false), oo 132 (.bin .eql (.t 129) (.t 131)), om 4 132] (some [4]))
 .rt))))),
 [.t 4]⟩
def Z2t : FnIR := ⟨19,
 (.sq (.op 0 [oo 4 (.box (.t 1) 1), oo 6 (.mv (ki 0))] none)
 (.sq (.op 0 [om 8 2, oo 9 (.mkf Qj [(.t 4)]), oo 10 (cv Yj [(.t 8), (.t 9)]), om 7 10] (some [0, 4, 7]))
 (.sq (.op 0 [om 11 0, oo 12 (.ld (.t 4) 1 false), oo 13 (cv Me [(.t 11), (.t 12)]), om 14 7, oo 15 (.un .not (.t 14)), oo 16 (cv Yd [(.t 15), (ki 6)]), oo 17 (.bsl Y5 1 false [.int .i64 0] 2 [(0, (.t 13)), (1, (.t 16))]), oo 18 (cv P7 [(.t 17)]), om 6 18] (some [6]))
 .rt))),
 [.t 6]⟩
def Xb : IR :=
 (.sq (.op 0 [oo 15 (.bin .lss (.t 14) (.t 13))] none)
 (.sq (.cd (.t 15)
 .sk
 (.ex 0))
 (.sq (.bk 1 (.sq (.op 0 [om 16 14, oo 17 (.ia (.t 12) (.t 14) 4), oo 18 (.ld (.t 17) 4 true), oo 8 (.alloc [.int .i64 0, .int .i64 0, .sl 1 (some true) [], .int .i64 0]), om 7 16, ou (.st (.t 8) (.t 18) 4)] (some [5, 6, 7, 8, 12, 13, 14]))
 (.sq (.op 0 [om 19 6, om 20 7, oo 21 (.ia (.t 19) (.t 20) 1), oo 22 (.ld (.t 21) 1 false), om 23 22, og 24 23 true (.fa (.t 8) 0), og 25 23 true (.ld (.t 24) 1 false), og 26 23 true (.bin .eql (.t 25) (ki 1)), oo 27 (.pick (.t 23) (.t 26) (.c (.bool false)))] (some [5, 6, 8, 12, 13, 14, 27]))
 (.cd (.t 27)
 (.op 0 [om 28 5, oo 29 (.fa (.t 8) 3), oo 30 (.ld (.t 29) 1 false), oo 31 (.bsl t_int 1 false [.int .i64 0] 1 [(0, (.t 30))]), oo 32 (.app (.t 28) (.t 31) t_int 1), om 5 32] (some [5, 6, 12, 13, 14]))
 .sk))))
 (.op 0 [oo 33 (.bin .add (.t 14) (ki 1)), om 14 33] none))))
def Nl : IR := Xb
theorem U0 : evC C L π k0 Nl e s = evC C L π k0 Xb e s := rfl
def Hu : FnIR := ⟨38,
 (.sq (.op 0 [oo 4 (.mv (.c (.sl 1 (some true) [])))] none)
 (.sq (.op 0 [oo 5 (.mv (.c (.sl 1 (some true) [])))] none)
 (.sq (.op 0 [om 9 0, om 10 1, oo 11 (cw n_gr_below [(.t 9), (.t 10)]), om 6 11] (some [0, 5, 6]))
 (.sq (.sq (.op 0 [om 12 0, oo 13 (.len false (.t 12)), oo 14 (.mv (ki 0))] none)
 (.kp [5] [4] (.bk 0 (.lp [(t_int, .inl 5)] [5, 6, 12, 13, 14] Nl))))
 (.sq (.op 0 [om 34 5, oo 35 (.callS (.c (.fn Vj [])) [(.t 34)])] none)
 (.sq (.op 0 [om 36 5, oo 37 (.callS (.c (.fn Va [])) [(.t 36)]), om 4 37] none)
 .rt)))))),
 [.t 4]⟩
def b_gr_applied_L0 : IR :=
 (.sq (.op 0 [oo 17 (.bin .lss (.t 16) (.t 15))] none)
 (.sq (.cd (.t 17)
 .sk
 (.ex 0))
 (.sq (.bk 1 (.sq (.op 0 [oo 18 (.ia (.t 14) (.t 16) 1), oo 19 (.ld (.t 18) 1 false), om 12 19] none)
 (.op 14 [om 20 9, om 21 1, om 22 12, oo 23 (.ia (.t 21) (.t 22) 4), oo 24 (.fa (.t 23) 1), oo 25 (.ld (.t 24) 1 false), oo 26 (.bsl t_int 1 false [.int .i64 0] 1 [(0, (.t 25))]), oo 27 (.apx (.t 20) (.t 26) t_int 1 [0, 1, 2, 3, 4, 5, 6]), om 28 10, om 29 3, om 30 12, oo 31 (.ia (.t 29) (.t 30) 1), oo 32 (.ld (.t 31) 1 false), oo 33 (.bsl t_int 1 false [.int .i64 0] 1 [(0, (.t 32))]), oo 34 (.app (.t 28) (.t 33) t_int 1), om 9 27, om 10 34] (some [0, 1, 3, 6, 9, 10, 14, 15, 16]))))
 (.op 0 [oo 35 (.bin .add (.t 16) (ki 1)), om 16 35] none))))
def c_gr_applied_L0 : IR := b_gr_applied_L0
def c_gr_applied : FnIR := ⟨47,
 (.sq (.op 0 [oo 6 (.box (.t 2) 4), oo 8 (.mv (ki 0))] none)
 (.sq (.op 0 [oo 9 (.mv (.c (.sl 1 (some true) []))), oo 10 (.mv (.c (.sl 1 (some true) [])))] none)
 (.sq (.sq (.op 0 [oo 13 (.fa (.t 6) 2), oo 14 (.ld (.t 13) 1 false), oo 15 (.len false (.t 14)), oo 16 (.mv (ki 0))] (some [0, 1, 3, 6, 9, 10, 14, 15, 16]))
 (.kp [0, 6, 9, 10] [8] (.bk 0 (.lp [(t_int, .inl 10), (t_int, .inl 9)] [0, 1, 3, 6, 9, 10, 14, 15, 16] c_gr_applied_L0))))
 (.sq (.op 10 [om 36 0, oo 37 (.fa (.t 6) 0), oo 38 (.ld (.t 37) 1 false), oo 39 (.nck (.t 36)), oo 40 (.iaa (.t 39) (.t 38) 19 5), oo 41 (.fa (.t 40) 4), oo 42 (.ld (.t 41) 1 false), oo 43 (.ld (.t 6) 4 true), om 44 9, om 45 10, oo 46 (.callV true (.t 42) [(.t 43), (.t 44), (.t 45)]), om 8 46] (some [8]))
 .rt)))),
 [.t 8]⟩
def c_gr_op_1 : FnIR := ⟨9,
 (.sq (.op 0 [oo 3 (.box (.t 0) 4), oo 6 (.mv (ki 0))] none)
 (.sq (.op 0 [oo 7 (.fa (.t 3) 3), oo 8 (.ld (.t 7) 1 false), om 6 8] none)
 .rt)),
 [.t 6]⟩
def Z31 : FnIR := ⟨7,
 (.sq (.op 0 [oo 6 (.mv (.c (.bool false)))] none)
 (.sq (.op 0 [oo 6 (.mv (.c (.bool true)))] none)
 .rt)),
 [.t 6]⟩
def c_gr_same : FnIR := ⟨11,
 (.sq (.op 0 [oo 3 (.box (.t 0) 1), oo 6 (.mv (.c (.bool false)))] none)
 (.sq (.op 0 [om 7 1, oo 8 (.mkf F0 [(.t 3)]), oo 9 (cv Yj [(.t 7), (.t 8)]), oo 10 (.un .not (.t 9)), om 6 10] (some [6]))
 .rt)),
 [.t 6]⟩
def c_gr_op_2 : FnIR := ⟨14,
 (.sq (.op 0 [oo 3 (.box (.t 0) 4), oo 6 (.mv (ki 0))] none)
 (.sq (.op 6 [om 7 2, oo 8 (.ia (.t 7) (ki 0) 1), oo 9 (.ld (.t 8) 1 false), oo 10 (.un .xor (.t 9)), oo 11 (.fa (.t 3) 1), oo 12 (.ld (.t 11) 1 false), oo 13 (cv Z1i [(.t 10), (.t 12)]), om 6 13] (some [6]))
 .rt)),
 [.t 6]⟩
def c_gr_mask : FnIR := ⟨10,
 (.sq (.op 0 [oo 4 (.mv (ki 0))] none)
 (.sq (.op 0 [om 5 0, om 6 1, oo 7 (.bin .shl (ki 1) (.t 6)), oo 8 (.bin .sub (.t 7) (ki 1)), oo 9 (.bin .and (.t 5) (.t 8)), om 4 9] (some [4]))
 .rt)),
 [.t 4]⟩
def c_gr_binary : FnIR := ⟨8,
 (.sq (.op 0 [oo 3 (.box (.t 1) 1), oo 4 (.alloc [.str ⟨#[]⟩, .int .i64 0, .bool false, .nilf, .nilf])] none)
 (.sq (.op 0 [om 5 0, oo 6 (.mkf Zp [(.t 3)]), oo 7 (.build [.str ⟨#[]⟩, .int .i64 0, .bool false, .nilf, .nilf] [(0, 1, (.t 5)), (1, 1, (ki 2)), (2, 1, (.c (.bool false))), (3, 1, (.c (.fn Zd []))), (4, 1, (.t 6))]), ou (.st (.t 4) (.t 7) 5)] (some [4]))
 .rt)),
 [.c 4 5 true]⟩

end Go.Proofs.YteecfnfjlclhdaaGreat.V

/- The functions of the program in the small language. Printed by a program of this work. -/
namespace Go.Proofs.YteecfnfjlclhdaaGreat.V
open Go (IntKind BinOp UnOp)

variable {C : Call} {L : Loop} {π : Id} {k0 : List Id} {e : Env} {s : Sto}
def c_gr_op_3 : FnIR := ⟨8,
 (.sq (.op 0 [oo 4 (.mv (ki 0))] none)
 (.sq (.op 0 [om 5 0, om 6 1, oo 7 (.bin .and (.t 5) (.t 6)), om 4 7] (some [4]))
 .rt)),
 [.t 4]⟩
def c_gr_op_4 : FnIR := ⟨8,
 (.sq (.op 0 [oo 4 (.mv (ki 0))] none)
 (.sq (.op 0 [om 5 0, om 6 1, oo 7 (.bin .or (.t 5) (.t 6)), om 4 7] (some [4]))
 .rt)),
 [.t 4]⟩
def c_gr_op_5 : FnIR := ⟨8,
 (.sq (.op 0 [oo 4 (.mv (ki 0))] none)
 (.sq (.op 0 [om 5 0, om 6 1, oo 7 (.bin .xor (.t 5) (.t 6)), om 4 7] (some [4]))
 .rt)),
 [.t 4]⟩
def c_gr_op_6 : FnIR := ⟨8,
 (.sq (.op 0 [oo 4 (.mv (ki 0))] none)
 (.sq (.op 0 [om 5 0, om 6 1, oo 7 (.bin .add (.t 5) (.t 6)), om 4 7] (some [4]))
 .rt)),
 [.t 4]⟩
def c_gr_op_7 : FnIR := ⟨8,
 (.sq (.op 0 [oo 4 (.mv (ki 0))] none)
 (.sq (.op 0 [om 5 0, om 6 1, oo 7 (.bin .sub (.t 5) (.t 6)), om 4 7] (some [4]))
 .rt)),
 [.t 4]⟩
def c_gr_op_8 : FnIR := ⟨8,
 (.sq (.op 0 [oo 4 (.mv (ki 0))] none)
 (.sq (.op 0 [om 5 0, om 6 1, oo 7 (.bin .mul (.t 5) (.t 6)), om 4 7] (some [4]))
 .rt)),
 [.t 4]⟩
def Z2s : FnIR := ⟨8,
 (.sq (.op 0 [oo 3 (.box (.t 1) 1), oo 4 (.alloc [.str ⟨#[]⟩, .int .i64 0, .bool false, .nilf, .nilf])] none)
 (.sq (.op 0 [om 5 0, oo 6 (.mkf Yg [(.t 3)]), oo 7 (.build [.str ⟨#[]⟩, .int .i64 0, .bool false, .nilf, .nilf] [(0, 1, (.t 5)), (1, 1, (ki 2)), (2, 1, (.c (.bool false))), (3, 1, (.c (.fn Zm []))), (4, 1, (.t 6))]), ou (.st (.t 4) (.t 7) 5)] (some [4]))
 .rt)),
 [.c 4 5 true]⟩
def c_gr_op_9 : FnIR := ⟨10,
 (.sq (.op 0 [oo 6 (.mv (.c (.bool false)))] none)
 (.sq (.op 0 [om 7 0, om 8 1, oo 9 (.bin .eql (.t 7) (.t 8)), om 6 9] (some [6]))
 .rt)),
 [.t 6]⟩
def c_gr_op_10 : FnIR := ⟨10,
 (.sq (.op 0 [oo 6 (.mv (.c (.bool false)))] none)
 (.sq (.op 0 [om 7 0, om 8 1, oo 9 (.bin .lss (.t 7) (.t 8)), om 6 9] (some [6]))
 .rt)),
 [.t 6]⟩
def c_gr_op_11 : FnIR := ⟨14,
 (.sq (.op 0 [oo 6 (.mv (.c (.bool false)))] none)
 (.sq (.op 0 [om 7 0, om 8 2, oo 9 (cv Z28 [(.t 7), (.t 8)]), om 10 1, om 11 2, oo 12 (cv Z28 [(.t 10), (.t 11)]), oo 13 (.bin .lss (.t 9) (.t 12)), om 6 13] (some [6]))
 .rt)),
 [.t 6]⟩
def c_gr_signed : FnIR := ⟨16,
 (.sq (.op 0 [oo 4 (.mv (ki 0))] none)
 (.sq (.sq (.op 0 [om 5 0, om 6 1, oo 7 (.bin .sub (.t 6) (ki 1)), oo 8 (.bin .shr (.t 5) (.t 7)), oo 9 (.bin .and (.t 8) (ki 1)), oo 10 (.bin .eql (.t 9) (ki 1))] (some [0, 1, 10]))
 (.cd (.t 10)
 (.op 0 [om 11 0, om 12 1, oo 13 (.bin .shl (ki 1) (.t 12)), oo 14 (.bin .sub (.t 11) (.t 13)), om 0 14] (some [0]))
 .sk))
 (.sq (.op 0 [om 15 0, om 4 15] none)
 .rt))),
 [.t 4]⟩
def c_gr_op_12 : FnIR := ⟨25,
 (.sq (.op 0 [oo 6 (.mv (.c (.bool false)))] none)
 (.sq (.op 0 [om 7 1, oo 8 (.ia (.t 7) (ki 0) 1), oo 9 (.ld (.t 8) 1 false), oo 10 (.bin .eql (.t 9) (ki 1)), om 11 10, og 12 11 true (.mv (.t 1)), og 13 11 true (.ia (.t 12) (ki 1) 1), og 14 11 true (.ld (.t 13) 1 false), og 15 11 true (.mv (.t 0)), og 16 11 true (.bin .eql (.t 14) (.t 15)), oo 17 (.pick (.t 11) (.t 16) (.c (.bool false))), om 18 17, og 19 18 true (.mv (.t 1)), og 20 18 true (.ia (.t 19) (ki 2) 1), og 21 18 true (.ld (.t 20) 1 false), og 22 18 true (.mv (.t 0)), og 23 18 true (.bin .eql (.t 21) (.t 22)), oo 24 (.pick (.t 18) (.t 23) (.c (.bool false))), om 6 24] (some [6]))
 .rt)),
 [.t 6]⟩
def c_gr_op_13 : FnIR := ⟨17,
 (.sq (.op 0 [oo 3 (.box (.t 0) 4), oo 6 (.mv (ki 0))] none)
 (.sq (.sq (.op 0 [om 7 2, oo 8 (.ia (.t 7) (ki 0) 1), oo 9 (.ld (.t 8) 1 false), oo 10 (.bin .eql (.t 9) (ki 1))] (some [2, 10]))
 (.cd (.t 10)
 (.sq (.op 0 [om 11 2, oo 12 (.ia (.t 11) (ki 1) 1), oo 13 (.ld (.t 12) 1 false), om 6 13] (some [6]))
 .rt)
 .sk))
 (.sq (.op 0 [om 14 2, oo 15 (.ia (.t 14) (ki 2) 1), oo 16 (.ld (.t 15) 1 false), om 6 16] (some [6]))
 .rt))),
 [.t 6]⟩
def c_gr_op_14 : FnIR := ⟨16,
 (.sq (.op 0 [oo 6 (.mv (.c (.bool false)))] none)
 (.sq (.op 8 [om 7 1, oo 8 (.ia (.t 7) (ki 0) 1), oo 9 (.ld (.t 8) 1 false), om 10 1, oo 11 (.ia (.t 10) (ki 1) 1), oo 12 (.ld (.t 11) 1 false), oo 13 (.bin .add (.t 9) (.t 12)), om 14 0, oo 15 (.bin .eql (.t 13) (.t 14)), om 6 15] (some [6]))
 .rt)),
 [.t 6]⟩
def c_gr_op_15 : FnIR := ⟨18,
 (.sq (.op 0 [oo 3 (.box (.t 0) 4), oo 6 (.mv (ki 0))] none)
 (.sq (.op 10 [om 7 2, oo 8 (.ia (.t 7) (ki 0) 1), oo 9 (.ld (.t 8) 1 false), om 10 1, oo 11 (.ia (.t 10) (ki 1) 1), oo 12 (.ld (.t 11) 1 false), oo 13 (.bin .shl (.t 9) (.t 12)), om 14 2, oo 15 (.ia (.t 14) (ki 1) 1), oo 16 (.ld (.t 15) 1 false), oo 17 (.bin .or (.t 13) (.t 16)), om 6 17] (some [6]))
 .rt)),
 [.t 6]⟩
def c_gr_op_16 : FnIR := ⟨14,
 (.sq (.op 0 [oo 6 (.mv (.c (.bool false)))] none)
 (.sq (.op 0 [om 7 2, om 8 0, oo 9 (.bin .add (.t 7) (.t 8)), om 10 1, oo 11 (.ia (.t 10) (ki 0) 1), oo 12 (.ld (.t 11) 1 false), oo 13 (.bin .leq (.t 9) (.t 12)), om 6 13] (some [6]))
 .rt)),
 [.t 6]⟩
def c_gr_op_17 : FnIR := ⟨16,
 (.sq (.op 0 [oo 3 (.box (.t 0) 4), oo 6 (.mv (ki 0))] none)
 (.sq (.op 8 [om 7 2, oo 8 (.ia (.t 7) (ki 0) 1), oo 9 (.ld (.t 8) 1 false), oo 10 (.fa (.t 3) 3), oo 11 (.ld (.t 10) 1 false), oo 12 (.bin .shr (.t 9) (.t 11)), oo 13 (.fa (.t 3) 1), oo 14 (.ld (.t 13) 1 false), oo 15 (cv Z1i [(.t 12), (.t 14)]), om 6 15] (some [6]))
 .rt)),
 [.t 6]⟩
def Z2w : FnIR := ⟨12,
 (.sq (.op 0 [oo 6 (.mv (.c (.bool false)))] none)
 (.sq (.op 0 [om 7 1, oo 8 (.ia (.t 7) (ki 0) 1), oo 9 (.ld (.t 8) 1 false), om 10 0, oo 11 (.bin .leq (.t 9) (.t 10)), om 6 11] (some [6]))
 .rt)),
 [.t 6]⟩
def c_gr_op_18 : FnIR := ⟨10,
 (.sq (.op 0 [oo 3 (.box (.t 0) 4), oo 6 (.mv (ki 0))] none)
 (.sq (.op 0 [om 7 2, oo 8 (.ia (.t 7) (ki 0) 1), oo 9 (.ld (.t 8) 1 false), om 6 9] (some [6]))
 .rt)),
 [.t 6]⟩
def c_gr_op_19 : FnIR := ⟨17,
 (.sq (.op 0 [oo 3 (.box (.t 0) 4), oo 6 (.mv (ki 0))] none)
 (.sq (.op 9 [om 7 2, oo 8 (.ia (.t 7) (ki 0) 1), oo 9 (.ld (.t 8) 1 false), om 10 1, oo 11 (.ia (.t 10) (ki 0) 1), oo 12 (.ld (.t 11) 1 false), oo 13 (cv Z28 [(.t 9), (.t 12)]), oo 14 (.fa (.t 3) 1), oo 15 (.ld (.t 14) 1 false), oo 16 (cv Z1i [(.t 13), (.t 15)]), om 6 16] (some [6]))
 .rt)),
 [.t 6]⟩
def c_gr_shifted : FnIR := ⟨12,
 (.sq (.op 0 [oo 6 (.mv (.c (.bool false)))] none)
 (.sq (.op 0 [om 7 1, oo 8 (.ia (.t 7) (ki 0) 1), oo 9 (.ld (.t 8) 1 false), om 10 0, oo 11 (.bin .eql (.t 9) (.t 10)), om 6 11] (some [6]))
 .rt)),
 [.t 6]⟩
def c_gr_op_20 : FnIR := ⟨20,
 (.sq (.op 0 [oo 3 (.box (.t 0) 4), oo 6 (.mv (ki 0))] none)
 (.sq (.op 12 [om 7 2, oo 8 (.ia (.t 7) (ki 0) 1), oo 9 (.ld (.t 8) 1 false), om 10 2, oo 11 (.ia (.t 10) (ki 1) 1), oo 12 (.ld (.t 11) 1 false), oo 13 (.fa (.t 3) 1), oo 14 (.ld (.t 13) 1 false), oo 15 (.mm false (.t 12) (.t 14)), oo 16 (.bin .shl (.t 9) (.t 15)), oo 17 (.fa (.t 3) 1), oo 18 (.ld (.t 17) 1 false), oo 19 (cv Z1i [(.t 16), (.t 18)]), om 6 19] (some [6]))
 .rt)),
 [.t 6]⟩
def c_gr_op_21 : FnIR := ⟨17,
 (.sq (.op 0 [oo 3 (.box (.t 0) 4), oo 6 (.mv (ki 0))] none)
 (.sq (.op 9 [om 7 2, oo 8 (.ia (.t 7) (ki 0) 1), oo 9 (.ld (.t 8) 1 false), om 10 2, oo 11 (.ia (.t 10) (ki 1) 1), oo 12 (.ld (.t 11) 1 false), oo 13 (.fa (.t 3) 1), oo 14 (.ld (.t 13) 1 false), oo 15 (.mm false (.t 12) (.t 14)), oo 16 (.bin .shr (.t 9) (.t 15)), om 6 16] (some [6]))
 .rt)),
 [.t 6]⟩
def Fl : FnIR := ⟨10,
 (.sq (.op 0 [oo 3 (.mv (.c (.bool false)))] none)
 (.sq (.op 0 [om 4 0, oo 5 (.ld (.t 1) 1 false), oo 6 (.len false (.t 5)), oo 7 (.bin .sub (.t 6) (ki 1)), oo 8 (cv V8 [(.t 4), (ki 0), (.t 7)]), oo 9 (.un .not (.t 8)), om 3 9] (some [3]))
 .rt)),
 [.t 3]⟩
def Gi : IR :=
 (.sq (.op 0 [oo 18 (.bin .lss (.t 17) (.t 16))] none)
 (.sq (.cd (.t 18)
 .sk
 (.ex 0))
 (.sq (.bk 1 (.sq (.op 0 [oo 19 (.ia (.t 15) (.t 17) 1), oo 20 (.ld (.t 19) 1 false), om 7 20] none)
 (.op 0 [oo 21 (.ld (.t 5) 1 false), om 22 7, oo 23 (.ia (.t 21) (.t 22) 1), ou (.st (.t 23) (.c (.bool true)) 1)] (some [0, 4, 5, 15, 16, 17]))))
 (.op 0 [oo 24 (.bin .add (.t 17) (ki 1)), om 17 24] none))))
def Z30 : IR := Gi
theorem u_gr_below_L0 : evC C L π k0 Z30 e s = evC C L π k0 Gi e s := rfl
def U9 : IR :=
 (.sq (.op 0 [oo 33 (.bin .lss (.t 32) (.t 31))] none)
 (.sq (.cd (.t 33)
 .sk
 (.ex 4))
 (.sq (.bk 5 (.sq (.op 0 [oo 34 (.ia (.t 30) (.t 32) 1), oo 35 (.ld (.t 34) 1 false), om 11 35] none)
 (.op 12 [oo 36 (.ld (.t 5) 1 false), om 37 11, oo 38 (.ld (.t 5) 1 false), om 39 11, oo 40 (.ia (.t 38) (.t 39) 1), oo 41 (.ld (.t 40) 1 false), om 42 41, og 43 42 false (.ld (.t 5) 1 false), og 44 42 false (.mv (.t 8)), og 45 42 false (.ia (.t 43) (.t 44) 1), og 46 42 false (.ld (.t 45) 1 false), oo 47 (.pick (.t 42) (.c (.bool true)) (.t 46)), oo 48 (.ia (.t 36) (.t 37) 1), ou (.st (.t 48) (.t 47) 1)] (some [5, 8, 30, 31, 32]))))
 (.op 0 [oo 49 (.bin .add (.t 32) (ki 1)), om 32 49] none))))
def Z2z : IR := U9
theorem M7 : evC C L π k0 Z2z e s = evC C L π k0 U9 e s := rfl
def Z13 : IR :=
 (.sq (.op 0 [om 8 27] none)
 (.op 0 [oo 9 (.alloc [.int .i64 0, .int .i64 0, .sl 1 (some true) [], .int .i64 0]), ou (.st (.t 9) (.t 28) 4)] none))
def Z0s : IR := Z13
theorem u_gr_below_R0A : evC C L π k0 Z0s e s = evC C L π k0 Z13 e s := rfl
def Z12 : IR :=
 (.bk 3 (.sq (.op 0 [oo 29 (.fa (.t 9) 2), oo 30 (.ld (.t 29) 1 false), oo 31 (.len false (.t 30)), oo 32 (.mv (ki 0))] (some [5, 8, 30, 31, 32]))
 (.kp [] [] (.bk 4 (.lp [] [5, 8, 30, 31, 32] Z2z)))))
def Z0r : IR := Z12
theorem u_gr_below_R0B : evC C L π k0 Z0r e s = evC C L π k0 Z12 e s := rfl
def c_gr_below : FnIR := ⟨51,
 (.sq (.op 0 [oo 4 (.mv (.c (.sl 1 (some true) [])))] none)
 (.sq (.op 0 [om 12 0, oo 13 (.len false (.t 12)), oo 14 (.mks t_bool 1 false [.bool false] (.t 13) (.t 13)), oo 5 (.alloc [.sl 1 (some true) []]), ou (.st (.t 5) (.t 14) 1)] (some [0, 1, 4, 5]))
 (.sq (.sq (.op 0 [om 15 1, oo 16 (.len false (.t 15)), oo 17 (.mv (ki 0))] none)
 (.kp [0, 4, 5] [4] (.bk 0 (.lp [] [0, 4, 5, 15, 16, 17] Z30))))
 (.sq (.sq (.kp [4, 5, 26] [4] (.op 0 [om 25 0, oo 26 (cw X4 [(.t 25)])] none))
 (.bk 2 (.kp [5] [4] (.rf (.t 26) 51 0 [5] [27, 28] Z0s Z0r))))
 (.sq (.op 0 [oo 50 (.ld (.t 5) 1 false), om 4 50] none)
 .rt))))),
 [.t 4]⟩
def c_gr_same_1 : FnIR := ⟨7,
 (.sq (.op 0 [oo 3 (.mv (.c (.bool false)))] none)
 (.sq (.op 0 [om 4 0, oo 5 (.ld (.t 1) 1 false), oo 6 (.bin .neq (.t 4) (.t 5)), om 3 6] (some [3]))
 .rt)),
 [.t 3]⟩
def c_gr_binary_1 : FnIR := ⟨19,
 (.sq (.op 0 [oo 4 (.box (.t 0) 4), oo 7 (.mv (ki 0))] none)
 (.sq (.op 10 [oo 8 (.ld (.t 3) 1 false), om 9 2, oo 10 (.ia (.t 9) (ki 0) 1), oo 11 (.ld (.t 10) 1 false), om 12 2, oo 13 (.ia (.t 12) (ki 1) 1), oo 14 (.ld (.t 13) 1 false), oo 15 (.callV true (.t 8) [(.t 11), (.t 14)]), oo 16 (.fa (.t 4) 1), oo 17 (.ld (.t 16) 1 false), oo 18 (cv Z1i [(.t 15), (.t 17)]), om 7 18] (some [7]))
 .rt)),
 [.t 7]⟩
def Z2y : FnIR := ⟨18,
 (.sq (.op 0 [oo 6 (.mv (.c (.bool false)))] none)
 (.sq (.op 9 [om 7 0, oo 8 (.bin .eql (.t 7) (ki 1)), om 9 8, og 10 9 true (.mv (.t 1)), og 11 9 true (.ia (.t 10) (ki 0) 1), og 12 9 true (.ld (.t 11) 1 false), og 13 9 true (.mv (.t 1)), og 14 9 true (.ia (.t 13) (ki 1) 1), og 15 9 true (.ld (.t 14) 1 false), og 16 9 true (.bin .eql (.t 12) (.t 15)), oo 17 (.pick (.t 9) (.t 16) (.c (.bool false))), om 6 17] (some [6]))
 .rt)),
 [.t 6]⟩
def c_gr_relation_1 : FnIR := ⟨20,
 (.sq (.op 0 [oo 4 (.box (.t 0) 4), oo 7 (.mv (ki 0))] none)
 (.sq (.op 10 [oo 8 (.ld (.t 3) 1 false), om 9 2, oo 10 (.ia (.t 9) (ki 0) 1), oo 11 (.ld (.t 10) 1 false), om 12 2, oo 13 (.ia (.t 12) (ki 1) 1), oo 14 (.ld (.t 13) 1 false), om 15 1, oo 16 (.ia (.t 15) (ki 0) 1), oo 17 (.ld (.t 16) 1 false), oo 18 (.callV true (.t 8) [(.t 11), (.t 14), (.t 17)]), oo 19 (cv n_gr_truth [(.t 18)]), om 7 19] (some [7]))
 .rt)),
 [.t 7]⟩
def c_gr_truth : FnIR := ⟨4,
 (.sq (.op 0 [oo 2 (.mv (ki 0))] none)
 (.sq (.sq (.op 0 [om 3 0] none)
 (.cd (.t 3)
 (.sq (.op 0 [oo 2 (.mv (ki 1))] none)
 .rt)
 .sk))
 (.sq (.op 0 [oo 2 (.mv (ki 0))] none)
 .rt))),
 [.t 2]⟩
def X9 : FnIR := ⟨4,
 (.sq (.op 0 [oo 1 (.box (.t 0) 1), oo 2 (.mv (.c (.nilf)))] none)
 (.sq (.op 0 [oo 3 (.mkf Zz [(.t 1)]), om 2 3] none)
 .rt)),
 [.t 2]⟩
def Zq : IR :=
 (.sq (.sq (.op 0 [om 7 3, oo 8 (.bin .geq (.t 7) (ki 0))] none)
 (.cd (.t 8)
 .sk
 (.ex 0)))
 (.sq (.bk 1 (.sq (.op 0 [om 11 0, om 12 3, oo 13 (.ld (.t 1) 1 false), om 14 3, oo 15 (.ia (.t 13) (.t 14) 4), oo 16 (.ld (.t 15) 4 true), oo 17 (.callS (.t 11) [(.t 12), (.t 16)]), oo 18 (.un .not (.t 17))] (some [0, 1, 3, 18]))
 (.cd (.t 18)
 .rt
 .sk)))
 (.op 0 [om 9 3, oo 10 (.bin .sub (.t 9) (ki 1)), om 3 10] none)))
def Yh : IR := Zq
theorem W5 : evC C L π k0 Yh e s = evC C L π k0 Zq e s := rfl
def Yv : FnIR := ⟨19,
 (.sq (.op 0 [oo 4 (.ld (.t 1) 1 false), oo 5 (.len false (.t 4)), oo 6 (.bin .sub (.t 5) (ki 1)), om 3 6] (some [0, 1, 3]))
 (.kp [] [] (.bk 0 (.lp [] [0, 1, 3] Yh)))),
 []⟩

end Go.Proofs.YteecfnfjlclhdaaGreat.V
