/- The functions of the program in the small language. Printed by a program of this work. -/
import Derived.Test.YtafomlbikcphgabGreatK4
import Derived.Test.YtafomlbikcphgabGreatT0

set_option linter.unusedSimpArgs false
set_option linter.unusedVariables false

/- The functions of the program in the small language. Printed by a program of this work. -/
namespace Go.Proofs.YtafomlbikcphgabGreat.V
open Go (IntKind BinOp UnOp)

def b_timing_openModel_L1 : IR :=
 (.sq (.op 0 [⟨(some 51), none, .bin .lss (.t 50) (.t 49)⟩] none)
 (.sq (.cd (.t 51)
  .sk
  (.ex 2))
 (.sq (.bk 3 (.sq (.op 0 [⟨(some 52), none, .ia (.t 48) (.t 50) 1⟩,
    ⟨(some 53), none, .ld (.t 52) 1 false⟩,
    ⟨(some 15), none, .mv (.t 53)⟩] none)
  (.op 0 [⟨(some 54), none, .mv (.t 11)⟩,
    ⟨(some 55), none, .mv (.t 15)⟩,
    ⟨(some 56), none, .callS (.t 54) [(.t 55)]⟩] none)))
 (.op 0 [⟨(some 57), none, .bin .add (.t 50) (.c (.int .i64 1))⟩,
   ⟨(some 50), none, .mv (.t 57)⟩] none))))
def c_timing_openModel_L1 : IR := b_timing_openModel_L1
theorem u_timing_openModel_L1 {C : Call} {L : Loop} {π : Id} {k0 : List Id} {e : Env} {s : Sto} : evC C L π k0 c_timing_openModel_L1 e s = evC C L π k0 b_timing_openModel_L1 e s := rfl
def b_timing_openModel_L0 : IR :=
 (.sq (.op 0 [⟨(some 44), none, .bin .lss (.t 43) (.t 42)⟩] none)
 (.sq (.cd (.t 44)
  .sk
  (.ex 0))
 (.sq (.bk 1 (.sq (.op 0 [⟨(some 45), none, .ia (.t 41) (.t 43) 2⟩,
    ⟨(some 46), none, .ld (.t 45) 2 true⟩,
    ⟨(some 13), none, .alloc [.int .i64 0, .sl 1 (some true) []]⟩,
    ⟨none, none, .st (.t 13) (.t 46) 2⟩] (some [0, 4, 5, 6, 8, 10, 11, 13, 41, 42, 43]))
  (.sq (.op 0 [⟨(some 47), none, .fa (.t 13) 1⟩,
    ⟨(some 48), none, .ld (.t 47) 1 false⟩,
    ⟨(some 49), none, .len false (.t 48)⟩,
    ⟨(some 50), none, .mv (.c (.int .i64 0))⟩] (some [0, 4, 5, 6, 8, 10, 11, 41, 42, 43, 48, 49, 50]))
  (.kp [0, 4, 5, 6, 8, 10, 11, 41, 42, 43] [6, 7] (.bk 2 (.lp [] [0, 4, 5, 6, 8, 10, 11, 41, 42, 43, 48, 49, 50] c_timing_openModel_L1))))))
 (.op 0 [⟨(some 58), none, .bin .add (.t 43) (.c (.int .i64 1))⟩,
   ⟨(some 43), none, .mv (.t 58)⟩] none))))
def c_timing_openModel_L0 : IR := b_timing_openModel_L0
theorem u_timing_openModel_L0 {C : Call} {L : Loop} {π : Id} {k0 : List Id} {e : Env} {s : Sto} : evC C L π k0 c_timing_openModel_L0 e s = evC C L π k0 b_timing_openModel_L0 e s := rfl
def b_timing_openModel_L2 : IR :=
 (.sq (.op 0 [⟨(some 63), none, .bin .lss (.t 62) (.t 61)⟩] none)
 (.sq (.cd (.t 63)
  .sk
  (.ex 4))
 (.sq (.bk 5 (.sq (.op 0 [⟨(some 64), none, .ia (.t 60) (.t 62) 1⟩,
    ⟨(some 65), none, .ld (.t 64) 1 false⟩,
    ⟨(some 17), none, .mv (.t 65)⟩] none)
  (.op 0 [⟨(some 66), none, .mv (.t 11)⟩,
    ⟨(some 67), none, .mv (.t 17)⟩,
    ⟨(some 68), none, .callS (.t 66) [(.t 67)]⟩] none)))
 (.op 0 [⟨(some 69), none, .bin .add (.t 62) (.c (.int .i64 1))⟩,
   ⟨(some 62), none, .mv (.t 69)⟩] none))))
def c_timing_openModel_L2 : IR := b_timing_openModel_L2
theorem u_timing_openModel_L2 {C : Call} {L : Loop} {π : Id} {k0 : List Id} {e : Env} {s : Sto} : evC C L π k0 c_timing_openModel_L2 e s = evC C L π k0 b_timing_openModel_L2 e s := rfl
def b_timing_openModel_L3 : IR :=
 (.sq (.op 0 [⟨(some 77), none, .bin .lss (.t 76) (.t 75)⟩] none)
 (.sq (.cd (.t 77)
  .sk
  (.ex 6))
 (.sq (.bk 7 (.sq (.op 0 [⟨(some 78), none, .mv (.t 76)⟩,
    ⟨(some 79), none, .ia (.t 74) (.t 76) 2⟩,
    ⟨(some 80), none, .ld (.t 79) 2 true⟩,
    ⟨(some 20), none, .alloc [.int .i64 0, .sl 1 (some true) []]⟩,
    ⟨(some 19), none, .mv (.t 78)⟩,
    ⟨none, none, .st (.t 20) (.t 80) 2⟩] (some [0, 5, 6, 8, 10, 18, 19, 20, 74, 75, 76]))
  (.op 19 [⟨(some 81), none, .fa (.t 18) 9⟩,
    ⟨(some 82), none, .ld (.t 81) 1 false⟩,
    ⟨(some 83), none, .mv (.t 0)⟩,
    ⟨(some 84), none, .fa (.t 20) 0⟩,
    ⟨(some 85), none, .ld (.t 84) 1 false⟩,
    ⟨(some 86), none, .ia (.t 83) (.t 85) 5⟩,
    ⟨(some 87), none, .fa (.t 86) 4⟩,
    ⟨(some 88), none, .ld (.t 87) 1 false⟩,
    ⟨(some 89), none, .fa (.t 5) 0⟩,
    ⟨(some 90), none, .ld (.t 89) 1 false⟩,
    ⟨(some 91), none, .ld (.t 10) 1 false⟩,
    ⟨(some 92), none, .ld (.t 8) 4 true⟩,
    ⟨(some 93), none, .mv (.t 19)⟩,
    ⟨(some 94), none, .callV true (.c (.fn n_timing_net_cell [])) [(.t 92), (.t 93)]⟩,
    ⟨(some 95), none, .ia (.t 91) (.t 94) 1⟩,
    ⟨(some 96), none, .ld (.t 95) 1 false⟩,
    ⟨(some 97), none, .bin .mul (.t 90) (.t 96)⟩,
    ⟨(some 98), none, .bin .add (.t 88) (.t 97)⟩,
    ⟨(some 99), none, .bsl t_int 1 false [.int .i64 0] 1 [(0, (.t 98))]⟩,
    ⟨(some 100), none, .app (.t 82) (.t 99) t_int 1⟩,
    ⟨(some 101), none, .fa (.t 18) 9⟩,
    ⟨none, none, .st (.t 101) (.t 100) 1⟩] (some [0, 5, 6, 8, 10, 18, 74, 75, 76]))))
 (.op 0 [⟨(some 102), none, .bin .add (.t 76) (.c (.int .i64 1))⟩,
   ⟨(some 76), none, .mv (.t 102)⟩] none))))
def c_timing_openModel_L3 : IR := b_timing_openModel_L3
theorem u_timing_openModel_L3 {C : Call} {L : Loop} {π : Id} {k0 : List Id} {e : Env} {s : Sto} : evC C L π k0 c_timing_openModel_L3 e s = evC C L π k0 b_timing_openModel_L3 e s := rfl
def c_timing_openModel : FnIR := ⟨104,
  (.sq (.op 0 [⟨(some 4), none, .box (.t 1) 3⟩,
    ⟨(some 5), none, .box (.t 2) 5⟩,
    ⟨(some 6), none, .alloc [.int .i64 0, .sl 2 (some true) [], .sl 1 (some true) [], .sl 5 (some true) [], .int .i64 0, .int .i64 0, .int .i64 0, .int .i64 0, .int .i64 0, .sl 1 (some true) []]⟩,
    ⟨(some 7), none, .mv (.c (.int .i64 0))⟩] (some [0, 4, 5, 6]))
  (.sq (.op 0 [⟨(some 22), none, .mv (.t 0)⟩,
    ⟨(some 23), none, .ld (.t 4) 3 true⟩,
    ⟨(some 24), none, .callV false (.c (.fn n_timing_open [])) [(.t 22), (.t 23)]⟩,
    ⟨(some 21), none, .mv (.t 24)⟩,
    ⟨(some 25), none, .ext (.t 21) 0⟩,
    ⟨(some 26), none, .ext (.t 21) 1⟩,
    ⟨(some 8), none, .alloc [.int .i64 0, .sl 2 (some true) [], .sl 1 (some true) [], .sl 5 (some true) []]⟩,
    ⟨none, none, .st (.t 8) (.t 25) 4⟩,
    ⟨(some 9), none, .mv (.t 26)⟩] (some [0, 4, 5, 6, 8, 9]))
  (.sq (.sq (.op 0 [⟨(some 27), none, .mv (.t 9)⟩,
    ⟨(some 28), none, .ld (.t 5) 5 true⟩,
    ⟨(some 29), none, .callV true (.c (.fn n_timing_CheckModel [])) [(.t 28)]⟩,
    ⟨(some 30), none, .bsl t_api_Errno 1 false [.int .i64 0] 2 [(0, (.t 27)), (1, (.t 29))]⟩,
    ⟨(some 31), none, .callV true (.c (.fn n_timing_first [])) [(.t 30)]⟩,
    ⟨(some 9), none, .mv (.t 31)⟩] (some [0, 4, 5, 6, 8, 9]))
  (.sq (.op 0 [⟨(some 32), none, .mv (.t 9)⟩,
    ⟨(some 33), none, .bin .neq (.t 32) (.c (.int .i64 0))⟩] none)
  (.cd (.t 33)
   (.sq (.op 0 [⟨(some 34), none, .build [.int .i64 0, .sl 2 (some true) [], .sl 1 (some true) [], .sl 5 (some true) [], .int .i64 0, .int .i64 0, .int .i64 0, .int .i64 0, .int .i64 0, .sl 1 (some true) []] []⟩,
     ⟨(some 35), none, .mv (.t 9)⟩,
     ⟨none, none, .st (.t 6) (.t 34) 10⟩,
     ⟨(some 7), none, .mv (.t 35)⟩] (some [6, 7]))
   .rt)
   .sk)))
  (.sq (.op 0 [⟨(some 36), none, .ld (.t 8) 4 true⟩,
    ⟨(some 37), none, .callV true (.c (.fn n_timing_net_points [])) [(.t 36)]⟩,
    ⟨(some 38), none, .mks t_int 1 false [.int .i64 0] (.t 37) (.t 37)⟩,
    ⟨(some 10), none, .alloc [.sl 1 (some true) []]⟩,
    ⟨none, none, .st (.t 10) (.t 38) 1⟩] (some [0, 4, 5, 6, 8, 10]))
  (.sq (.op 0 [⟨(some 39), none, .mkf n_timing_openModel_1 [(.t 10)]⟩,
    ⟨(some 11), none, .mv (.t 39)⟩] none)
  (.sq (.sq (.op 0 [⟨(some 40), none, .fa (.t 4) 1⟩,
    ⟨(some 41), none, .ld (.t 40) 1 false⟩,
    ⟨(some 42), none, .len false (.t 41)⟩,
    ⟨(some 43), none, .mv (.c (.int .i64 0))⟩] (some [0, 4, 5, 6, 8, 10, 11, 41, 42, 43]))
  (.kp [0, 4, 5, 6, 8, 10, 11] [6, 7] (.bk 0 (.lp [] [0, 4, 5, 6, 8, 10, 11, 41, 42, 43] c_timing_openModel_L0))))
  (.sq (.sq (.op 0 [⟨(some 59), none, .fa (.t 4) 2⟩,
    ⟨(some 60), none, .ld (.t 59) 1 false⟩,
    ⟨(some 61), none, .len false (.t 60)⟩,
    ⟨(some 62), none, .mv (.c (.int .i64 0))⟩] (some [0, 4, 5, 6, 8, 10, 11, 60, 61, 62]))
  (.kp [0, 4, 5, 6, 8, 10] [6, 7] (.bk 4 (.lp [] [0, 4, 5, 6, 8, 10, 11, 60, 61, 62] c_timing_openModel_L2))))
  (.sq (.op 0 [⟨(some 70), none, .ld (.t 8) 4 true⟩,
    ⟨(some 71), none, .ld (.t 5) 5 true⟩,
    ⟨(some 72), none, .build [.int .i64 0, .sl 2 (some true) [], .sl 1 (some true) [], .sl 5 (some true) [], .int .i64 0, .int .i64 0, .int .i64 0, .int .i64 0, .int .i64 0, .sl 1 (some true) []] [(0, 4, (.t 70)), (4, 5, (.t 71))]⟩,
    ⟨(some 18), none, .alloc [.int .i64 0, .sl 2 (some true) [], .sl 1 (some true) [], .sl 5 (some true) [], .int .i64 0, .int .i64 0, .int .i64 0, .int .i64 0, .int .i64 0, .sl 1 (some true) []]⟩,
    ⟨none, none, .st (.t 18) (.t 72) 10⟩] (some [0, 4, 5, 6, 8, 10, 18]))
  (.sq (.sq (.op 0 [⟨(some 73), none, .fa (.t 4) 1⟩,
    ⟨(some 74), none, .ld (.t 73) 1 false⟩,
    ⟨(some 75), none, .len false (.t 74)⟩,
    ⟨(some 76), none, .mv (.c (.int .i64 0))⟩] (some [0, 5, 6, 8, 10, 18, 74, 75, 76]))
  (.kp [6, 18] [6, 7] (.bk 6 (.lp [(t_int, .inr (18, 9))] [0, 5, 6, 8, 10, 18, 74, 75, 76] c_timing_openModel_L3))))
  (.sq (.op 0 [⟨(some 103), none, .ld (.t 18) 10 true⟩,
    ⟨none, none, .st (.t 6) (.t 103) 10⟩,
    ⟨(some 7), none, .mv (.c (.int .i64 0))⟩] none)
  .rt)))))))))),
  [.c 6 10 true, .t 7]⟩
def b_timing_net_paths_L0 : IR :=
 (.sq (.sq (.op 0 [⟨(some 30), none, .mv (.t 8)⟩,
   ⟨(some 31), none, .ld (.t 3) 4 true⟩,
   ⟨(some 32), none, .callV true (.c (.fn n_timing_net_points [])) [(.t 31)]⟩,
   ⟨(some 33), none, .bin .lss (.t 30) (.t 32)⟩] (some [1, 2, 3, 7, 8, 33]))
 (.cd (.t 33)
  .sk
  (.ex 0)))
 (.sq (.bk 1 (.sq (.fz [1] (.op 12 [⟨(some 36), none, .ld (.t 3) 4 true⟩,
    ⟨(some 37), none, .mv (.t 8)⟩,
    ⟨(some 38), none, .mv (.t 7)⟩,
    ⟨(some 39), none, .callV true (.c (.fn n_timing_net_has [])) [(.t 36), (.t 37), (.t 38)]⟩,
    ⟨(some 40), none, .mv (.t 39)⟩,
    ⟨(some 41), (some (40, true)), .ld (.t 3) 4 true⟩,
    ⟨(some 42), (some (40, true)), .mv (.t 1)⟩,
    ⟨(some 43), (some (40, true)), .callV false (.c (.fn n_slices_Clip_int_int [])) [(.t 42)]⟩,
    ⟨(some 44), (some (40, true)), .mv (.t 8)⟩,
    ⟨(some 45), (some (40, true)), .bsl t_int 1 false [.int .i64 0] 1 [(0, (.t 44))]⟩,
    ⟨(some 46), (some (40, true)), .apn (.t 43) (.t 45) t_int 1⟩,
    ⟨(some 47), (some (40, true)), .mv (.t 2)⟩,
    ⟨(some 48), (some (40, true)), .callS (.c (.fn n_timing_net_paths [])) [(.t 41), (.t 46), (.t 47)]⟩,
    ⟨(some 49), (some (40, true)), .un .not (.t 48)⟩,
    ⟨(some 50), none, .pick (.t 40) (.t 49) (.c (.bool false))⟩] (some [1, 2, 3, 7, 8, 50])))
  (.cd (.t 50)
   (.sq (.op 0 [⟨(some 6), none, .mv (.c (.bool false))⟩] none)
   .rt)
   .sk)))
 (.op 0 [⟨(some 34), none, .mv (.t 8)⟩,
   ⟨(some 35), none, .bin .add (.t 34) (.c (.int .i64 1))⟩,
   ⟨(some 8), none, .mv (.t 35)⟩] none)))
def c_timing_net_paths_L0 : IR := b_timing_net_paths_L0
theorem u_timing_net_paths_L0 {C : Call} {L : Loop} {π : Id} {k0 : List Id} {e : Env} {s : Sto} : evC C L π k0 c_timing_net_paths_L0 e s = evC C L π k0 b_timing_net_paths_L0 e s := rfl
def c_timing_net_paths : FnIR := ⟨51,
  (.fz [1] (.sq (.op 0 [⟨(some 3), none, .box (.t 0) 4⟩,
    ⟨(some 6), none, .mv (.c (.bool false))⟩] none)
  (.sq (.op 0 [⟨(some 9), none, .mv (.t 1)⟩,
    ⟨(some 10), none, .mv (.t 1)⟩,
    ⟨(some 11), none, .len false (.t 10)⟩,
    ⟨(some 12), none, .bin .sub (.t 11) (.c (.int .i64 1))⟩,
    ⟨(some 13), none, .ia (.t 9) (.t 12) 1⟩,
    ⟨(some 14), none, .ld (.t 13) 1 false⟩,
    ⟨(some 7), none, .mv (.t 14)⟩] (some [1, 2, 3, 7]))
  (.sq (.sq (.op 0 [⟨(some 15), none, .ld (.t 3) 4 true⟩,
    ⟨(some 16), none, .mv (.t 7)⟩,
    ⟨(some 17), none, .callV true (.c (.fn n_timing_net_isEnd [])) [(.t 15), (.t 16)]⟩,
    ⟨(some 18), none, .mv (.t 17)⟩,
    ⟨(some 19), (some (18, true)), .mv (.t 2)⟩,
    ⟨(some 20), (some (18, true)), .mv (.t 1)⟩,
    ⟨(some 21), (some (18, true)), .callS (.t 19) [(.t 20)]⟩,
    ⟨(some 22), (some (18, true)), .un .not (.t 21)⟩,
    ⟨(some 23), none, .pick (.t 18) (.t 22) (.c (.bool false))⟩] (some [1, 2, 3, 7, 23]))
  (.cd (.t 23)
   (.sq (.op 0 [⟨(some 6), none, .mv (.c (.bool false))⟩] none)
   .rt)
   .sk))
  (.sq (.sq (.op 0 [⟨(some 24), none, .fa (.t 3) 0⟩,
    ⟨(some 25), none, .fa (.t 24) 0⟩,
    ⟨(some 26), none, .ld (.t 25) 1 false⟩,
    ⟨(some 27), none, .mv (.t 7)⟩,
    ⟨(some 28), none, .bin .add (.t 27) (.c (.int .i64 1))⟩,
    ⟨(some 29), none, .mm true (.t 26) (.t 28)⟩,
    ⟨(some 8), none, .mv (.t 29)⟩] (some [1, 2, 3, 7, 8]))
  (.kp [] [6] (.bk 0 (.lp [] [1, 2, 3, 7, 8] c_timing_net_paths_L0))))
  (.sq (.op 0 [⟨(some 6), none, .mv (.c (.bool true))⟩] none)
  .rt)))))),
  [.t 6]⟩
def c_ratchetref27_LibraryErr : FnIR := ⟨11,
  (.sq (.op 0 [⟨(some 2), none, .mv (.c (.int .i64 0))⟩] none)
  (.sq (.op 0 [⟨(some 6), none, .mv (.t 0)⟩,
    ⟨(some 7), none, .callV true (.c (.fn n_ratchetref27_CheckLibrary [])) [(.t 6)]⟩,
    ⟨(some 5), none, .mv (.t 7)⟩,
    ⟨(some 8), none, .ext (.t 5) 0⟩,
    ⟨(some 9), none, .ext (.t 5) 1⟩,
    ⟨(some 3), none, .mv (.t 8)⟩,
    ⟨(some 4), none, .mv (.t 9)⟩] (some [4]))
  (.sq (.op 0 [⟨(some 10), none, .mv (.t 4)⟩,
    ⟨(some 2), none, .mv (.t 10)⟩] none)
  .rt))),
  [.t 2]⟩
def b_ratchetref27_CheckNet_L1 : IR :=
 (.sq (.sq (.op 0 [⟨(some 55), none, .mv (.t 8)⟩,
   ⟨(some 56), none, .fa (.t 7) 1⟩,
   ⟨(some 57), none, .ld (.t 56) 1 false⟩,
   ⟨(some 58), none, .len false (.t 57)⟩,
   ⟨(some 59), none, .bin .lss (.t 55) (.t 58)⟩] (some [0, 3, 6, 7, 8, 59]))
 (.cd (.t 59)
  .sk
  (.ex 2)))
 (.sq (.bk 3 (.sq (.op 10 [⟨(some 62), none, .fa (.t 7) 1⟩,
    ⟨(some 63), none, .ld (.t 62) 1 false⟩,
    ⟨(some 64), none, .mv (.t 8)⟩,
    ⟨(some 65), none, .ia (.t 63) (.t 64) 1⟩,
    ⟨(some 66), none, .ld (.t 65) 1 false⟩,
    ⟨(some 67), none, .fa (.t 3) 0⟩,
    ⟨(some 68), none, .ld (.t 67) 1 false⟩,
    ⟨(some 69), none, .bin .add (.c (.int .i64 1)) (.t 68)⟩,
    ⟨(some 70), none, .mv (.t 6)⟩,
    ⟨(some 71), none, .bin .add (.t 69) (.t 70)⟩,
    ⟨(some 72), none, .callV true (.c (.fn n_ratchetbase_Within [])) [(.t 66), (.c (.int .i64 0)), (.t 71)]⟩,
    ⟨(some 73), none, .un .not (.t 72)⟩] (some [0, 3, 6, 7, 8, 73]))
  (.cd (.t 73)
   (.sq (.op 0 [⟨(some 74), none, .mv (.t 6)⟩,
     ⟨(some 4), none, .mv (.t 74)⟩,
     ⟨(some 5), none, .mv (.c (.int .i64 9))⟩] none)
   .rt)
   .sk)))
 (.op 0 [⟨(some 60), none, .mv (.t 8)⟩,
   ⟨(some 61), none, .bin .add (.t 60) (.c (.int .i64 1))⟩,
   ⟨(some 8), none, .mv (.t 61)⟩] none)))
def c_ratchetref27_CheckNet_L1 : IR := b_ratchetref27_CheckNet_L1
theorem u_ratchetref27_CheckNet_L1 {C : Call} {L : Loop} {π : Id} {k0 : List Id} {e : Env} {s : Sto} : evC C L π k0 c_ratchetref27_CheckNet_L1 e s = evC C L π k0 b_ratchetref27_CheckNet_L1 e s := rfl
def b_ratchetref27_CheckNet_L0 : IR :=
 (.sq (.sq (.op 0 [⟨(some 24), none, .mv (.t 6)⟩,
   ⟨(some 25), none, .fa (.t 3) 1⟩,
   ⟨(some 26), none, .ld (.t 25) 1 false⟩,
   ⟨(some 27), none, .len false (.t 26)⟩,
   ⟨(some 28), none, .bin .lss (.t 24) (.t 27)⟩] (some [0, 3, 6, 28]))
 (.cd (.t 28)
  .sk
  (.ex 0)))
 (.sq (.bk 1 (.sq (.op 0 [⟨(some 31), none, .fa (.t 3) 1⟩,
    ⟨(some 32), none, .ld (.t 31) 1 false⟩,
    ⟨(some 33), none, .mv (.t 6)⟩,
    ⟨(some 34), none, .ia (.t 32) (.t 33) 2⟩,
    ⟨(some 35), none, .ld (.t 34) 2 true⟩,
    ⟨(some 7), none, .alloc [.int .i64 0, .sl 1 (some true) []]⟩,
    ⟨none, none, .st (.t 7) (.t 35) 2⟩] (some [0, 3, 6, 7]))
  (.sq (.sq (.op 0 [⟨(some 36), none, .fa (.t 7) 0⟩,
    ⟨(some 37), none, .ld (.t 36) 1 false⟩,
    ⟨(some 38), none, .mv (.t 0)⟩,
    ⟨(some 39), none, .len false (.t 38)⟩,
    ⟨(some 40), none, .bin .sub (.t 39) (.c (.int .i64 1))⟩,
    ⟨(some 41), none, .callV true (.c (.fn n_ratchetbase_Within [])) [(.t 37), (.c (.int .i64 0)), (.t 40)]⟩,
    ⟨(some 42), none, .un .not (.t 41)⟩] (some [0, 3, 6, 7, 42]))
  (.cd (.t 42)
   (.sq (.op 0 [⟨(some 43), none, .mv (.t 6)⟩,
     ⟨(some 4), none, .mv (.t 43)⟩,
     ⟨(some 5), none, .mv (.c (.int .i64 6))⟩] none)
   .rt)
   .sk))
  (.sq (.sq (.op 9 [⟨(some 44), none, .fa (.t 7) 1⟩,
    ⟨(some 45), none, .ld (.t 44) 1 false⟩,
    ⟨(some 46), none, .len false (.t 45)⟩,
    ⟨(some 47), none, .mv (.t 0)⟩,
    ⟨(some 48), none, .fa (.t 7) 0⟩,
    ⟨(some 49), none, .ld (.t 48) 1 false⟩,
    ⟨(some 50), none, .ia (.t 47) (.t 49) 5⟩,
    ⟨(some 51), none, .fa (.t 50) 1⟩,
    ⟨(some 52), none, .ld (.t 51) 1 false⟩,
    ⟨(some 53), none, .bin .neq (.t 46) (.t 52)⟩] (some [0, 3, 6, 7, 53]))
  (.cd (.t 53)
   (.sq (.op 0 [⟨(some 54), none, .mv (.t 6)⟩,
     ⟨(some 4), none, .mv (.t 54)⟩,
     ⟨(some 5), none, .mv (.c (.int .i64 10))⟩] none)
   .rt)
   .sk))
  (.sq (.op 0 [⟨(some 8), none, .mv (.c (.int .i64 0))⟩] none)
  (.kp [0, 3, 6] [4, 5] (.bk 2 (.lp [] [0, 3, 6, 7, 8] c_ratchetref27_CheckNet_L1))))))))
 (.op 0 [⟨(some 29), none, .mv (.t 6)⟩,
   ⟨(some 30), none, .bin .add (.t 29) (.c (.int .i64 1))⟩,
   ⟨(some 6), none, .mv (.t 30)⟩] none)))
def c_ratchetref27_CheckNet_L0 : IR := b_ratchetref27_CheckNet_L0
theorem u_ratchetref27_CheckNet_L0 {C : Call} {L : Loop} {π : Id} {k0 : List Id} {e : Env} {s : Sto} : evC C L π k0 c_ratchetref27_CheckNet_L0 e s = evC C L π k0 b_ratchetref27_CheckNet_L0 e s := rfl
def b_ratchetref27_CheckNet_L2 : IR :=
 (.sq (.sq (.op 0 [⟨(some 75), none, .mv (.t 9)⟩,
   ⟨(some 76), none, .fa (.t 3) 2⟩,
   ⟨(some 77), none, .ld (.t 76) 1 false⟩,
   ⟨(some 78), none, .len false (.t 77)⟩,
   ⟨(some 79), none, .bin .lss (.t 75) (.t 78)⟩] (some [3, 9, 79]))
 (.cd (.t 79)
  .sk
  (.ex 4)))
 (.sq (.bk 5 (.sq (.op 12 [⟨(some 82), none, .fa (.t 3) 2⟩,
    ⟨(some 83), none, .ld (.t 82) 1 false⟩,
    ⟨(some 84), none, .mv (.t 9)⟩,
    ⟨(some 85), none, .ia (.t 83) (.t 84) 1⟩,
    ⟨(some 86), none, .ld (.t 85) 1 false⟩,
    ⟨(some 87), none, .fa (.t 3) 0⟩,
    ⟨(some 88), none, .ld (.t 87) 1 false⟩,
    ⟨(some 89), none, .bin .add (.c (.int .i64 1)) (.t 88)⟩,
    ⟨(some 90), none, .fa (.t 3) 1⟩,
    ⟨(some 91), none, .ld (.t 90) 1 false⟩,
    ⟨(some 92), none, .len false (.t 91)⟩,
    ⟨(some 93), none, .bin .add (.t 89) (.t 92)⟩,
    ⟨(some 94), none, .callV true (.c (.fn n_ratchetbase_Within [])) [(.t 86), (.c (.int .i64 0)), (.t 93)]⟩,
    ⟨(some 95), none, .un .not (.t 94)⟩] (some [3, 9, 95]))
  (.cd (.t 95)
   (.sq (.op 0 [⟨(some 96), none, .mv (.t 9)⟩,
     ⟨(some 4), none, .mv (.t 96)⟩,
     ⟨(some 5), none, .mv (.c (.int .i64 9))⟩] none)
   .rt)
   .sk)))
 (.op 0 [⟨(some 80), none, .mv (.t 9)⟩,
   ⟨(some 81), none, .bin .add (.t 80) (.c (.int .i64 1))⟩,
   ⟨(some 9), none, .mv (.t 81)⟩] none)))
def c_ratchetref27_CheckNet_L2 : IR := b_ratchetref27_CheckNet_L2
theorem u_ratchetref27_CheckNet_L2 {C : Call} {L : Loop} {π : Id} {k0 : List Id} {e : Env} {s : Sto} : evC C L π k0 c_ratchetref27_CheckNet_L2 e s = evC C L π k0 b_ratchetref27_CheckNet_L2 e s := rfl
def c_ratchetref27_CheckNet : FnIR := ⟨97,
  (.sq (.op 0 [⟨(some 3), none, .box (.t 1) 3⟩,
    ⟨(some 4), none, .mv (.c (.int .i64 0))⟩,
    ⟨(some 5), none, .mv (.c (.int .i64 0))⟩] none)
  (.sq (.sq (.op 0 [⟨(some 10), none, .fa (.t 3) 0⟩,
    ⟨(some 11), none, .ld (.t 10) 1 false⟩,
    ⟨(some 12), none, .callV true (.c (.fn n_ratchetbase_Within [])) [(.t 11), (.c (.int .i64 0)), (.c (.int .i64 40))]⟩,
    ⟨(some 13), none, .un .not (.t 12)⟩] (some [0, 3, 13]))
  (.cd (.t 13)
   (.sq (.op 0 [⟨(some 4), none, .mv (.c (.int .i64 0))⟩,
     ⟨(some 5), none, .mv (.c (.int .i64 2))⟩] none)
   .rt)
   .sk))
  (.sq (.sq (.op 0 [⟨(some 14), none, .fa (.t 3) 1⟩,
    ⟨(some 15), none, .ld (.t 14) 1 false⟩,
    ⟨(some 16), none, .len false (.t 15)⟩,
    ⟨(some 17), none, .bin .gtr (.t 16) (.c (.int .i64 400))⟩,
    ⟨(some 18), none, .mv (.t 17)⟩,
    ⟨(some 19), (some (18, false)), .fa (.t 3) 2⟩,
    ⟨(some 20), (some (18, false)), .ld (.t 19) 1 false⟩,
    ⟨(some 21), (some (18, false)), .len false (.t 20)⟩,
    ⟨(some 22), (some (18, false)), .bin .gtr (.t 21) (.c (.int .i64 64))⟩,
    ⟨(some 23), none, .pick (.t 18) (.c (.bool true)) (.t 22)⟩] (some [0, 3, 23]))
  (.cd (.t 23)
   (.sq (.op 0 [⟨(some 4), none, .mv (.c (.int .i64 0))⟩,
     ⟨(some 5), none, .mv (.c (.int .i64 8))⟩] none)
   .rt)
   .sk))
  (.sq (.sq (.op 0 [⟨(some 6), none, .mv (.c (.int .i64 0))⟩] none)
  (.kp [3] [4, 5] (.bk 0 (.lp [] [0, 3, 6] c_ratchetref27_CheckNet_L0))))
  (.sq (.sq (.op 0 [⟨(some 9), none, .mv (.c (.int .i64 0))⟩] none)
  (.kp [] [4, 5] (.bk 4 (.lp [] [3, 9] c_ratchetref27_CheckNet_L2))))
  (.sq (.op 0 [⟨(some 4), none, .mv (.c (.int .i64 0))⟩,
    ⟨(some 5), none, .mv (.c (.int .i64 0))⟩] none)
  .rt)))))),
  [.t 4, .t 5]⟩
def b_ratchetref27_Sources_L1 : IR :=
 (.sq (.sq (.op 0 [⟨(some 21), none, .mv (.t 10)⟩,
   ⟨(some 22), none, .fa (.t 4) 1⟩,
   ⟨(some 23), none, .ld (.t 22) 1 false⟩,
   ⟨(some 24), none, .mv (.t 8)⟩,
   ⟨(some 25), none, .ia (.t 23) (.t 24) 2⟩,
   ⟨(some 26), none, .fa (.t 25) 1⟩,
   ⟨(some 27), none, .ld (.t 26) 1 false⟩,
   ⟨(some 28), none, .len false (.t 27)⟩,
   ⟨(some 29), none, .bin .lss (.t 21) (.t 28)⟩] (some [0, 4, 7, 8, 9, 10, 29]))
 (.cd (.t 29)
  .sk
  (.ex 2)))
 (.sq (.bk 3 (.op 0 [⟨(some 32), none, .mv (.t 9)⟩,
    ⟨(some 33), none, .mv (.t 7)⟩,
    ⟨(some 34), none, .fa (.t 4) 1⟩,
    ⟨(some 35), none, .ld (.t 34) 1 false⟩,
    ⟨(some 36), none, .mv (.t 8)⟩,
    ⟨(some 37), none, .ia (.t 35) (.t 36) 2⟩,
    ⟨(some 38), none, .fa (.t 37) 1⟩,
    ⟨(some 39), none, .ld (.t 38) 1 false⟩,
    ⟨(some 40), none, .mv (.t 10)⟩,
    ⟨(some 41), none, .ia (.t 39) (.t 40) 1⟩,
    ⟨(some 42), none, .ld (.t 41) 1 false⟩,
    ⟨(some 43), none, .ia (.t 33) (.t 42) 1⟩,
    ⟨(some 44), none, .ld (.t 43) 1 false⟩,
    ⟨(some 45), none, .bsl t_int 1 false [.int .i64 0] 1 [(0, (.t 44))]⟩,
    ⟨(some 46), none, .app (.t 32) (.t 45) t_int 1⟩,
    ⟨(some 9), none, .mv (.t 46)⟩] (some [0, 4, 7, 8, 9, 10])))
 (.op 0 [⟨(some 30), none, .mv (.t 10)⟩,
   ⟨(some 31), none, .bin .add (.t 30) (.c (.int .i64 1))⟩,
   ⟨(some 10), none, .mv (.t 31)⟩] none)))
def c_ratchetref27_Sources_L1 : IR := b_ratchetref27_Sources_L1
theorem u_ratchetref27_Sources_L1 {C : Call} {L : Loop} {π : Id} {k0 : List Id} {e : Env} {s : Sto} : evC C L π k0 c_ratchetref27_Sources_L1 e s = evC C L π k0 b_ratchetref27_Sources_L1 e s := rfl
def b_ratchetref27_Sources_L0 : IR :=
 (.sq (.sq (.op 0 [⟨(some 14), none, .mv (.t 8)⟩,
   ⟨(some 15), none, .fa (.t 4) 1⟩,
   ⟨(some 16), none, .ld (.t 15) 1 false⟩,
   ⟨(some 17), none, .len false (.t 16)⟩,
   ⟨(some 18), none, .bin .lss (.t 14) (.t 17)⟩] (some [0, 4, 7, 8, 18]))
 (.cd (.t 18)
  .sk
  (.ex 0)))
 (.sq (.bk 1 (.sq (.op 0 [⟨(some 9), none, .mv (.c (.sl 1 (some true) []))⟩] none)
  (.sq (.sq (.op 0 [⟨(some 10), none, .mv (.c (.int .i64 0))⟩] none)
  (.kp [0, 4, 7, 8, 9] [6] (.bk 2 (.lp [(t_int, .inl 9)] [0, 4, 7, 8, 9, 10] c_ratchetref27_Sources_L1))))
  (.op 0 [⟨(some 47), none, .mv (.t 7)⟩,
    ⟨(some 48), none, .mv (.t 0)⟩,
    ⟨(some 49), none, .fa (.t 4) 1⟩,
    ⟨(some 50), none, .ld (.t 49) 1 false⟩,
    ⟨(some 51), none, .mv (.t 8)⟩,
    ⟨(some 52), none, .ia (.t 50) (.t 51) 2⟩,
    ⟨(some 53), none, .fa (.t 52) 0⟩,
    ⟨(some 54), none, .ld (.t 53) 1 false⟩,
    ⟨(some 55), none, .ia (.t 48) (.t 54) 5⟩,
    ⟨(some 56), none, .ld (.t 55) 5 true⟩,
    ⟨(some 57), none, .mv (.t 9)⟩,
    ⟨(some 58), none, .callV true (.c (.fn n_ratchetref27_Value [])) [(.t 56), (.t 57)]⟩,
    ⟨(some 59), none, .bsl t_int 1 false [.int .i64 0] 1 [(0, (.t 58))]⟩,
    ⟨(some 60), none, .app (.t 47) (.t 59) t_int 1⟩,
    ⟨(some 7), none, .mv (.t 60)⟩] (some [0, 4, 7, 8])))))
 (.op 0 [⟨(some 19), none, .mv (.t 8)⟩,
   ⟨(some 20), none, .bin .add (.t 19) (.c (.int .i64 1))⟩,
   ⟨(some 8), none, .mv (.t 20)⟩] none)))
def c_ratchetref27_Sources_L0 : IR := b_ratchetref27_Sources_L0
theorem u_ratchetref27_Sources_L0 {C : Call} {L : Loop} {π : Id} {k0 : List Id} {e : Env} {s : Sto} : evC C L π k0 c_ratchetref27_Sources_L0 e s = evC C L π k0 b_ratchetref27_Sources_L0 e s := rfl
def c_ratchetref27_Sources : FnIR := ⟨62,
  (.sq (.op 0 [⟨(some 4), none, .box (.t 1) 3⟩,
    ⟨(some 6), none, .mv (.c (.sl 1 (some true) []))⟩] none)
  (.sq (.op 0 [⟨(some 11), none, .bsl t_int 1 false [.int .i64 0] 2 [(0, (.c (.int .i64 0))), (1, (.c (.int .i64 1)))]⟩,
    ⟨(some 12), none, .mv (.t 2)⟩,
    ⟨(some 13), none, .app (.t 11) (.t 12) t_int 1⟩,
    ⟨(some 7), none, .mv (.t 13)⟩] (some [0, 4, 7]))
  (.sq (.sq (.op 0 [⟨(some 8), none, .mv (.c (.int .i64 0))⟩] none)
  (.kp [7] [6] (.bk 0 (.lp [(t_int, .inl 7)] [0, 4, 7, 8] c_ratchetref27_Sources_L0))))
  (.sq (.op 0 [⟨(some 61), none, .mv (.t 7)⟩,
    ⟨(some 6), none, .mv (.t 61)⟩] none)
  .rt)))),
  [.t 6]⟩
def c_ratchetref27_Value : FnIR := ⟨12,
  (.sq (.op 0 [⟨(some 2), none, .box (.t 0) 5⟩,
    ⟨(some 4), none, .mv (.c (.int .i64 0))⟩] none)
  (.sq (.fz [1] (.op 5 [⟨(some 5), none, .fa (.t 2) 2⟩,
    ⟨(some 6), none, .ld (.t 5) 1 false⟩,
    ⟨(some 7), none, .mv (.t 1)⟩,
    ⟨(some 8), none, .callV true (.c (.fn n_ratchetref04_Number [])) [(.t 7)]⟩,
    ⟨(some 9), none, .callV true (.c (.fn n_ratchetbase_Power [])) [(.t 8)]⟩,
    ⟨(some 10), none, .bin .quo (.t 6) (.t 9)⟩,
    ⟨(some 11), none, .bin .rem (.t 10) (.c (.int .i64 2))⟩,
    ⟨(some 4), none, .mv (.t 11)⟩] (some [4])))
  .rt)),
  [.t 4]⟩
def b_ratchetref28_load_L1 : IR :=
 (.sq (.sq (.op 0 [⟨(some 16), none, .mv (.t 7)⟩,
   ⟨(some 17), none, .fa (.t 2) 1⟩,
   ⟨(some 18), none, .ld (.t 17) 1 false⟩,
   ⟨(some 19), none, .mv (.t 6)⟩,
   ⟨(some 20), none, .ia (.t 18) (.t 19) 2⟩,
   ⟨(some 21), none, .fa (.t 20) 1⟩,
   ⟨(some 22), none, .ld (.t 21) 1 false⟩,
   ⟨(some 23), none, .len false (.t 22)⟩,
   ⟨(some 24), none, .bin .lss (.t 16) (.t 23)⟩] (some [1, 2, 5, 6, 7, 24]))
 (.cd (.t 24)
  .sk
  (.ex 2)))
 (.sq (.bk 3 (.op 15 [⟨(some 27), none, .mv (.t 5)⟩,
    ⟨(some 28), none, .fa (.t 2) 1⟩,
    ⟨(some 29), none, .ld (.t 28) 1 false⟩,
    ⟨(some 30), none, .mv (.t 6)⟩,
    ⟨(some 31), none, .ia (.t 29) (.t 30) 2⟩,
    ⟨(some 32), none, .fa (.t 31) 1⟩,
    ⟨(some 33), none, .ld (.t 32) 1 false⟩,
    ⟨(some 34), none, .mv (.t 7)⟩,
    ⟨(some 35), none, .ia (.t 33) (.t 34) 1⟩,
    ⟨(some 36), none, .ld (.t 35) 1 false⟩,
    ⟨(some 37), none, .fa (.t 2) 0⟩,
    ⟨(some 38), none, .ld (.t 37) 1 false⟩,
    ⟨(some 39), none, .bin .add (.c (.int .i64 2)) (.t 38)⟩,
    ⟨(some 40), none, .mv (.t 1)⟩,
    ⟨(some 41), none, .bin .add (.t 39) (.t 40)⟩,
    ⟨(some 42), none, .bin .eql (.t 36) (.t 41)⟩,
    ⟨(some 43), none, .callV true (.c (.fn n_ratchetbase_Bit [])) [(.t 42)]⟩,
    ⟨(some 44), none, .bin .add (.t 27) (.t 43)⟩,
    ⟨(some 5), none, .mv (.t 44)⟩] (some [1, 2, 5, 6, 7])))
 (.op 0 [⟨(some 25), none, .mv (.t 7)⟩,
   ⟨(some 26), none, .bin .add (.t 25) (.c (.int .i64 1))⟩,
   ⟨(some 7), none, .mv (.t 26)⟩] none)))
def c_ratchetref28_load_L1 : IR := b_ratchetref28_load_L1
theorem u_ratchetref28_load_L1 {C : Call} {L : Loop} {π : Id} {k0 : List Id} {e : Env} {s : Sto} : evC C L π k0 c_ratchetref28_load_L1 e s = evC C L π k0 b_ratchetref28_load_L1 e s := rfl
def b_ratchetref28_load_L0 : IR :=
 (.sq (.sq (.op 0 [⟨(some 9), none, .mv (.t 6)⟩,
   ⟨(some 10), none, .fa (.t 2) 1⟩,
   ⟨(some 11), none, .ld (.t 10) 1 false⟩,
   ⟨(some 12), none, .len false (.t 11)⟩,
   ⟨(some 13), none, .bin .lss (.t 9) (.t 12)⟩] (some [1, 2, 5, 6, 13]))
 (.cd (.t 13)
  .sk
  (.ex 0)))
 (.sq (.bk 1 (.sq (.op 0 [⟨(some 7), none, .mv (.c (.int .i64 0))⟩] none)
  (.kp [1, 2, 5, 6] [4] (.bk 2 (.lp [] [1, 2, 5, 6, 7] c_ratchetref28_load_L1)))))
 (.op 0 [⟨(some 14), none, .mv (.t 6)⟩,
   ⟨(some 15), none, .bin .add (.t 14) (.c (.int .i64 1))⟩,
   ⟨(some 6), none, .mv (.t 15)⟩] none)))
def c_ratchetref28_load_L0 : IR := b_ratchetref28_load_L0
theorem u_ratchetref28_load_L0 {C : Call} {L : Loop} {π : Id} {k0 : List Id} {e : Env} {s : Sto} : evC C L π k0 c_ratchetref28_load_L0 e s = evC C L π k0 b_ratchetref28_load_L0 e s := rfl
def b_ratchetref28_load_L2 : IR :=
 (.sq (.sq (.op 0 [⟨(some 45), none, .mv (.t 8)⟩,
   ⟨(some 46), none, .fa (.t 2) 2⟩,
   ⟨(some 47), none, .ld (.t 46) 1 false⟩,
   ⟨(some 48), none, .len false (.t 47)⟩,
   ⟨(some 49), none, .bin .lss (.t 45) (.t 48)⟩] (some [1, 2, 5, 8, 49]))
 (.cd (.t 49)
  .sk
  (.ex 4)))
 (.sq (.bk 5 (.op 11 [⟨(some 52), none, .mv (.t 5)⟩,
    ⟨(some 53), none, .fa (.t 2) 2⟩,
    ⟨(some 54), none, .ld (.t 53) 1 false⟩,
    ⟨(some 55), none, .mv (.t 8)⟩,
    ⟨(some 56), none, .ia (.t 54) (.t 55) 1⟩,
    ⟨(some 57), none, .ld (.t 56) 1 false⟩,
    ⟨(some 58), none, .fa (.t 2) 0⟩,
    ⟨(some 59), none, .ld (.t 58) 1 false⟩,
    ⟨(some 60), none, .bin .add (.c (.int .i64 2)) (.t 59)⟩,
    ⟨(some 61), none, .mv (.t 1)⟩,
    ⟨(some 62), none, .bin .add (.t 60) (.t 61)⟩,
    ⟨(some 63), none, .bin .eql (.t 57) (.t 62)⟩,
    ⟨(some 64), none, .callV true (.c (.fn n_ratchetbase_Bit [])) [(.t 63)]⟩,
    ⟨(some 65), none, .bin .add (.t 52) (.t 64)⟩,
    ⟨(some 5), none, .mv (.t 65)⟩] (some [1, 2, 5, 8])))
 (.op 0 [⟨(some 50), none, .mv (.t 8)⟩,
   ⟨(some 51), none, .bin .add (.t 50) (.c (.int .i64 1))⟩,
   ⟨(some 8), none, .mv (.t 51)⟩] none)))
def c_ratchetref28_load_L2 : IR := b_ratchetref28_load_L2
theorem u_ratchetref28_load_L2 {C : Call} {L : Loop} {π : Id} {k0 : List Id} {e : Env} {s : Sto} : evC C L π k0 c_ratchetref28_load_L2 e s = evC C L π k0 b_ratchetref28_load_L2 e s := rfl
def c_ratchetref28_load : FnIR := ⟨67,
  (.sq (.op 0 [⟨(some 2), none, .box (.t 0) 3⟩,
    ⟨(some 4), none, .mv (.c (.int .i64 0))⟩] none)
  (.sq (.op 0 [⟨(some 5), none, .mv (.c (.int .i64 0))⟩] none)
  (.sq (.sq (.op 0 [⟨(some 6), none, .mv (.c (.int .i64 0))⟩] none)
  (.kp [1, 2, 5] [4] (.bk 0 (.lp [] [1, 2, 5, 6] c_ratchetref28_load_L0))))
  (.sq (.sq (.op 0 [⟨(some 8), none, .mv (.c (.int .i64 0))⟩] none)
  (.kp [5] [4] (.bk 4 (.lp [] [1, 2, 5, 8] c_ratchetref28_load_L2))))
  (.sq (.op 0 [⟨(some 66), none, .mv (.t 5)⟩,
    ⟨(some 4), none, .mv (.t 66)⟩] none)
  .rt))))),
  [.t 4]⟩
def b_timing_greatest_L0 : IR :=
 (.sq (.op 0 [⟨(some 12), none, .bin .lss (.t 11) (.t 10)⟩] none)
 (.sq (.cd (.t 12)
  .sk
  (.ex 0))
 (.sq (.bk 1 (.sq (.op 0 [⟨(some 13), none, .ia (.t 9) (.t 11) 1⟩,
    ⟨(some 14), none, .ld (.t 13) 1 false⟩,
    ⟨(some 7), none, .mv (.t 14)⟩] none)
  (.sq (.op 0 [⟨(some 15), none, .mv (.t 7)⟩,
    ⟨(some 16), none, .callV true (.c (.fn n_timing_pointOf [])) [(.t 15)]⟩,
    ⟨(some 8), none, .mv (.t 16)⟩] none)
  (.sq (.op 0 [⟨(some 17), none, .mv (.t 8)⟩,
    ⟨(some 18), none, .bin .geq (.t 17) (.c (.int .i64 0))⟩] none)
  (.cd (.t 18)
   (.op 0 [⟨(some 19), none, .mv (.t 5)⟩,
     ⟨(some 20), none, .mv (.t 1)⟩,
     ⟨(some 21), none, .mv (.t 8)⟩,
     ⟨(some 22), none, .ia (.t 20) (.t 21) 1⟩,
     ⟨(some 23), none, .ld (.t 22) 1 false⟩,
     ⟨(some 24), none, .mm true (.t 19) (.t 23)⟩,
     ⟨(some 5), none, .mv (.t 24)⟩] (some [1, 5, 9, 10, 11]))
   .sk)))))
 (.op 0 [⟨(some 25), none, .bin .add (.t 11) (.c (.int .i64 1))⟩,
   ⟨(some 11), none, .mv (.t 25)⟩] none))))
def c_timing_greatest_L0 : IR := b_timing_greatest_L0
theorem u_timing_greatest_L0 {C : Call} {L : Loop} {π : Id} {k0 : List Id} {e : Env} {s : Sto} : evC C L π k0 c_timing_greatest_L0 e s = evC C L π k0 b_timing_greatest_L0 e s := rfl
def c_timing_greatest : FnIR := ⟨27,
  (.sq (.op 0 [⟨(some 4), none, .mv (.c (.int .i64 0))⟩] none)
  (.sq (.op 0 [⟨(some 5), none, .mv (.c (.int .i64 0))⟩] none)
  (.sq (.sq (.op 0 [⟨(some 9), none, .mv (.t 0)⟩,
    ⟨(some 10), none, .len false (.t 9)⟩,
    ⟨(some 11), none, .mv (.c (.int .i64 0))⟩] none)
  (.kp [5] [4] (.bk 0 (.lp [] [1, 5, 9, 10, 11] c_timing_greatest_L0))))
  (.sq (.op 0 [⟨(some 26), none, .mv (.t 5)⟩,
    ⟨(some 4), none, .mv (.t 26)⟩] none)
  .rt)))),
  [.t 4]⟩
def c_slices_ContainsFunc_int_int : FnIR := ⟨9,
  (.sq (.op 0 [⟨(some 4), none, .mv (.c (.bool false))⟩] none)
  (.sq (.op 0 [⟨(some 5), none, .mv (.t 0)⟩,
    ⟨(some 6), none, .mv (.t 1)⟩,
    ⟨(some 7), none, .callV true (.c (.fn n_slices_IndexFunc_int_int [])) [(.t 5), (.t 6)]⟩,
    ⟨(some 8), none, .bin .geq (.t 7) (.c (.int .i64 0))⟩,
    ⟨(some 4), none, .mv (.t 8)⟩] (some [4]))
  .rt)),
  [.t 4]⟩
def c_timing_timesErr_1 : FnIR := ⟨6,
  (.sq (.op 0 [⟨(some 2), none, .mv (.c (.bool false))⟩] none)
  (.sq (.op 0 [⟨(some 3), none, .mv (.t 0)⟩,
    ⟨(some 4), none, .callV true (.c (.fn n_timing_within [])) [(.t 3), (.c (.int .i64 0)), (.c (.int .i64 1000000))]⟩,
    ⟨(some 5), none, .un .not (.t 4)⟩,
    ⟨(some 2), none, .mv (.t 5)⟩] (some [2]))
  .rt)),
  [.t 2]⟩
def b_slices_Repeat_int_int_L0 : IR :=
 (.sq (.sq (.op 0 [⟨(some 34), none, .mv (.t 8)⟩,
   ⟨(some 35), none, .mv (.t 7)⟩,
   ⟨(some 36), none, .len false (.t 35)⟩,
   ⟨(some 37), none, .bin .lss (.t 34) (.t 36)⟩] (some [7, 8, 37]))
 (.cd (.t 37)
  .sk
  (.ex 0)))
 (.bk 1 (.op 7 [⟨(some 38), none, .mv (.t 8)⟩,
    ⟨(some 39), none, .mv (.t 7)⟩,
    ⟨(some 40), none, .mv (.t 8)⟩,
    ⟨(some 41), none, .prt (.t 39) (some (.t 40)) none 1⟩,
    ⟨(some 42), none, .mv (.t 7)⟩,
    ⟨(some 43), none, .mv (.t 8)⟩,
    ⟨(some 44), none, .prt (.t 42) none (some (.t 43)) 1⟩,
    ⟨(some 45), none, .cpy (.t 41) (.t 44) 1⟩,
    ⟨(some 46), none, .bin .add (.t 38) (.t 45)⟩,
    ⟨(some 8), none, .mv (.t 46)⟩] (some [7, 8]))))
def c_slices_Repeat_int_int_L0 : IR := b_slices_Repeat_int_int_L0
theorem u_slices_Repeat_int_int_L0 {C : Call} {L : Loop} {π : Id} {k0 : List Id} {e : Env} {s : Sto} : evC C L π k0 c_slices_Repeat_int_int_L0 e s = evC C L π k0 b_slices_Repeat_int_int_L0 e s := rfl
def c_slices_Repeat_int_int : FnIR := ⟨48,
  (.sq (.op 0 [⟨(some 4), none, .mv (.c (.sl 1 (some true) []))⟩] none)
  (.sq (.sq (.op 0 [⟨(some 9), none, .mv (.t 1)⟩,
    ⟨(some 10), none, .bin .lss (.t 9) (.c (.int .i64 0))⟩] none)
  (.cd (.t 10)
   (.op 0 [⟨(some 11), none, .bad⟩,
     ⟨none, none, .bad⟩] none)
   .sk))
  (.sq (.op 0 [⟨(some 13), none, .mv (.t 0)⟩,
    ⟨(some 14), none, .len false (.t 13)⟩,
    ⟨(some 15), none, .conv .u64 (.t 14)⟩,
    ⟨(some 16), none, .mv (.t 1)⟩,
    ⟨(some 17), none, .conv .u64 (.t 16)⟩,
    ⟨(some 18), none, .callV true (.c (.fn n_bits_Mul [])) [(.t 15), (.t 17)]⟩,
    ⟨(some 12), none, .mv (.t 18)⟩,
    ⟨(some 19), none, .ext (.t 12) 0⟩,
    ⟨(some 20), none, .ext (.t 12) 1⟩,
    ⟨(some 5), none, .mv (.t 19)⟩,
    ⟨(some 6), none, .mv (.t 20)⟩] (some [0, 5, 6]))
  (.sq (.sq (.op 0 [⟨(some 21), none, .mv (.t 5)⟩,
    ⟨(some 22), none, .bin .gtr (.t 21) (.c (.int .u64 0))⟩,
    ⟨(some 23), none, .mv (.t 22)⟩,
    ⟨(some 24), (some (23, false)), .mv (.t 6)⟩,
    ⟨(some 25), (some (23, false)), .bin .gtr (.t 24) (.c (.int .u64 9223372036854775807))⟩,
    ⟨(some 26), none, .pick (.t 23) (.c (.bool true)) (.t 25)⟩] (some [0, 6, 26]))
  (.cd (.t 26)
   (.op 0 [⟨(some 27), none, .bad⟩,
     ⟨none, none, .bad⟩] none)
   .sk))
  (.sq (.op 0 [⟨(some 28), none, .mv (.t 6)⟩,
    ⟨(some 29), none, .conv .i64 (.t 28)⟩,
    ⟨(some 30), none, .mks t_int 1 false [.int .i64 0] (.t 29) (.t 29)⟩,
    ⟨(some 7), none, .mv (.t 30)⟩] (some [0, 7]))
  (.sq (.op 0 [⟨(some 31), none, .mv (.t 7)⟩,
    ⟨(some 32), none, .mv (.t 0)⟩,
    ⟨(some 33), none, .cpy (.t 31) (.t 32) 1⟩,
    ⟨(some 8), none, .mv (.t 33)⟩] (some [7, 8]))
  (.sq (.kp [7] [4] (.bk 0 (.lp [] [7, 8] c_slices_Repeat_int_int_L0)))
  (.sq (.op 0 [⟨(some 47), none, .mv (.t 7)⟩,
    ⟨(some 4), none, .mv (.t 47)⟩] none)
  .rt)))))))),
  [.t 4]⟩
def c_timing_timed_required_1 : FnIR := ⟨29,
  (.sq (.op 0 [⟨(some 6), none, .mv (.t 0)⟩,
    ⟨(some 7), none, .callV true (.c (.fn n_timing_pointOf [])) [(.t 6)]⟩,
    ⟨(some 5), none, .mv (.t 7)⟩] none)
  (.sq (.op 0 [⟨(some 8), none, .mv (.t 5)⟩,
    ⟨(some 9), none, .bin .geq (.t 8) (.c (.int .i64 0))⟩,
    ⟨(some 10), none, .mv (.t 9)⟩,
    ⟨(some 11), (some (10, true)), .ld (.t 2) 1 false⟩,
    ⟨(some 12), (some (10, true)), .mv (.t 5)⟩,
    ⟨(some 13), (some (10, true)), .ia (.t 11) (.t 12) 1⟩,
    ⟨(some 14), (some (10, true)), .ld (.t 13) 1 false⟩,
    ⟨(some 15), (some (10, true)), .bin .eql (.t 14) (.c (.int .i64 (-1000000000)))⟩,
    ⟨(some 16), (some (10, true)), .mv (.t 15)⟩,
    ⟨(some 17), (some (16, false)), .mv (.t 1)⟩,
    ⟨(some 18), (some (16, false)), .ld (.t 2) 1 false⟩,
    ⟨(some 19), (some (16, false)), .mv (.t 5)⟩,
    ⟨(some 20), (some (16, false)), .ia (.t 18) (.t 19) 1⟩,
    ⟨(some 21), (some (16, false)), .ld (.t 20) 1 false⟩,
    ⟨(some 22), (some (16, false)), .bin .lss (.t 17) (.t 21)⟩,
    ⟨(some 23), (some (10, true)), .pick (.t 16) (.c (.bool true)) (.t 22)⟩,
    ⟨(some 24), none, .pick (.t 10) (.t 23) (.c (.bool false))⟩] (some [1, 2, 5, 24]))
  (.cd (.t 24)
   (.op 0 [⟨(some 25), none, .ld (.t 2) 1 false⟩,
     ⟨(some 26), none, .mv (.t 5)⟩,
     ⟨(some 27), none, .mv (.t 1)⟩,
     ⟨(some 28), none, .ia (.t 25) (.t 26) 1⟩,
     ⟨none, none, .st (.t 28) (.t 27) 1⟩] (some []))
   .sk))),
  []⟩
def c_timing_pointOf : FnIR := ⟨5,
  (.sq (.op 0 [⟨(some 2), none, .mv (.c (.int .i64 0))⟩] none)
  (.sq (.op 0 [⟨(some 3), none, .mv (.t 0)⟩,
    ⟨(some 4), none, .bin .sub (.t 3) (.c (.int .i64 2))⟩,
    ⟨(some 2), none, .mv (.t 4)⟩] none)
  .rt)),
  [.t 2]⟩
def c_slices_Backward_api_MapPlaced_api_MapPlaced : FnIR := ⟨4,
  (.sq (.op 0 [⟨(some 1), none, .box (.t 0) 1⟩,
    ⟨(some 2), none, .mv (.c (.nilf))⟩] none)
  (.sq (.op 0 [⟨(some 3), none, .mkf n_slices_Backward_api_MapPlaced_api_MapPlaced_1 [(.t 1)]⟩,
    ⟨(some 2), none, .mv (.t 3)⟩] none)
  .rt)),
  [.t 2]⟩
def c_timing_net_cell : FnIR := ⟨10,
  (.sq (.op 0 [⟨(some 2), none, .box (.t 0) 4⟩,
    ⟨(some 4), none, .mv (.c (.int .i64 0))⟩] none)
  (.sq (.op 0 [⟨(some 5), none, .fa (.t 2) 0⟩,
    ⟨(some 6), none, .fa (.t 5) 0⟩,
    ⟨(some 7), none, .ld (.t 6) 1 false⟩,
    ⟨(some 8), none, .mv (.t 1)⟩,
    ⟨(some 9), none, .bin .add (.t 7) (.t 8)⟩,
    ⟨(some 4), none, .mv (.t 9)⟩] (some [4]))
  .rt)),
  [.t 4]⟩
def c_slices_Contains_int_int : FnIR := ⟨9,
  (.sq (.op 0 [⟨(some 4), none, .mv (.c (.bool false))⟩] none)
  (.sq (.op 0 [⟨(some 5), none, .mv (.t 0)⟩,
    ⟨(some 6), none, .mv (.t 1)⟩,
    ⟨(some 7), none, .callV true (.c (.fn n_slices_Index_int_int [])) [(.t 5), (.t 6)]⟩,
    ⟨(some 8), none, .bin .geq (.t 7) (.c (.int .i64 0))⟩,
    ⟨(some 4), none, .mv (.t 8)⟩] (some [4]))
  .rt)),
  [.t 4]⟩
def c_mapping_CheckLibrary : FnIR := ⟨23,
  (.sq (.op 0 [⟨(some 1), none, .box (.t 0) 1⟩,
    ⟨(some 2), none, .mv (.c (.int .i64 0))⟩,
    ⟨(some 3), none, .mv (.c (.int .i64 0))⟩] none)
  (.sq (.sq (.op 7 [⟨(some 5), none, .ld (.t 1) 1 false⟩,
    ⟨(some 6), none, .len false (.t 5)⟩,
    ⟨(some 7), none, .bin .gtr (.t 6) (.c (.int .i64 0))⟩,
    ⟨(some 8), none, .callV true (.c (.fn n_mapping_unless [])) [(.t 7), (.c (.int .i64 10))]⟩,
    ⟨(some 9), none, .ld (.t 1) 1 false⟩,
    ⟨(some 10), none, .len false (.t 9)⟩,
    ⟨(some 11), none, .bin .leq (.t 10) (.c (.int .i64 16))⟩,
    ⟨(some 12), none, .callV true (.c (.fn n_mapping_unless [])) [(.t 11), (.c (.int .i64 8))]⟩,
    ⟨(some 13), none, .bsl t_api_Errno 1 false [.int .i64 0] 2 [(0, (.t 8)), (1, (.t 12))]⟩,
    ⟨(some 14), none, .callV true (.c (.fn n_mapping_first [])) [(.t 13)]⟩,
    ⟨(some 4), none, .mv (.t 14)⟩] (some [1, 4]))
  (.sq (.op 0 [⟨(some 15), none, .mv (.t 4)⟩,
    ⟨(some 16), none, .bin .neq (.t 15) (.c (.int .i64 0))⟩] none)
  (.cd (.t 16)
   (.sq (.op 0 [⟨(some 17), none, .mv (.t 4)⟩,
     ⟨(some 2), none, .mv (.c (.int .i64 0))⟩,
     ⟨(some 3), none, .mv (.t 17)⟩] none)
   .rt)
   .sk)))
  (.sq (.op 0 [⟨(some 18), none, .ld (.t 1) 1 false⟩,
    ⟨(some 19), none, .mkf n_mapping_CheckLibrary_1 [(.t 1)]⟩,
    ⟨(some 20), none, .callV true (.c (.fn n_mapping_each_api_MapCell [])) [(.t 18), (.t 19)]⟩,
    ⟨(some 21), none, .ext (.t 20) 0⟩,
    ⟨(some 22), none, .ext (.t 20) 1⟩,
    ⟨(some 2), none, .mv (.t 21)⟩,
    ⟨(some 3), none, .mv (.t 22)⟩] (some [2, 3]))
  .rt))),
  [.t 2, .t 3]⟩
def b_mapping_first_L0 : IR :=
 (.sq (.op 0 [⟨(some 8), none, .bin .lss (.t 7) (.t 6)⟩] none)
 (.sq (.cd (.t 8)
  .sk
  (.ex 0))
 (.sq (.bk 1 (.sq (.op 0 [⟨(some 9), none, .ia (.t 5) (.t 7) 1⟩,
    ⟨(some 10), none, .ld (.t 9) 1 false⟩,
    ⟨(some 4), none, .mv (.t 10)⟩] none)
  (.sq (.op 0 [⟨(some 11), none, .mv (.t 4)⟩,
    ⟨(some 12), none, .bin .neq (.t 11) (.c (.int .i64 0))⟩] none)
  (.cd (.t 12)
   (.sq (.op 0 [⟨(some 13), none, .mv (.t 4)⟩,
     ⟨(some 2), none, .mv (.t 13)⟩] none)
   .rt)
   .sk))))
 (.op 0 [⟨(some 14), none, .bin .add (.t 7) (.c (.int .i64 1))⟩,
   ⟨(some 7), none, .mv (.t 14)⟩] none))))
def c_mapping_first_L0 : IR := b_mapping_first_L0
theorem u_mapping_first_L0 {C : Call} {L : Loop} {π : Id} {k0 : List Id} {e : Env} {s : Sto} : evC C L π k0 c_mapping_first_L0 e s = evC C L π k0 b_mapping_first_L0 e s := rfl
def c_mapping_first : FnIR := ⟨15,
  (.sq (.op 0 [⟨(some 2), none, .mv (.c (.int .i64 0))⟩] none)
  (.sq (.sq (.op 0 [⟨(some 5), none, .mv (.t 0)⟩,
    ⟨(some 6), none, .len false (.t 5)⟩,
    ⟨(some 7), none, .mv (.c (.int .i64 0))⟩] none)
  (.kp [] [2] (.bk 0 (.lp [] [5, 6, 7] c_mapping_first_L0))))
  (.sq (.op 0 [⟨(some 2), none, .mv (.c (.int .i64 0))⟩] none)
  .rt))),
  [.t 2]⟩
def c_mapping_unless : FnIR := ⟨7,
  (.sq (.op 0 [⟨(some 4), none, .mv (.c (.int .i64 0))⟩] none)
  (.sq (.sq (.op 0 [⟨(some 5), none, .mv (.t 0)⟩] none)
  (.cd (.t 5)
   (.sq (.op 0 [⟨(some 4), none, .mv (.c (.int .i64 0))⟩] none)
   .rt)
   .sk))
  (.sq (.op 0 [⟨(some 6), none, .mv (.t 1)⟩,
    ⟨(some 4), none, .mv (.t 6)⟩] none)
  .rt))),
  [.t 4]⟩
def c_mapping_within : FnIR := ⟨15,
  (.sq (.op 0 [⟨(some 6), none, .mv (.c (.bool false))⟩] none)
  (.sq (.op 0 [⟨(some 7), none, .mv (.t 1)⟩,
    ⟨(some 8), none, .mv (.t 0)⟩,
    ⟨(some 9), none, .bin .leq (.t 7) (.t 8)⟩,
    ⟨(some 10), none, .mv (.t 9)⟩,
    ⟨(some 11), (some (10, true)), .mv (.t 0)⟩,
    ⟨(some 12), (some (10, true)), .mv (.t 2)⟩,
    ⟨(some 13), (some (10, true)), .bin .leq (.t 11) (.t 12)⟩,
    ⟨(some 14), none, .pick (.t 10) (.t 13) (.c (.bool false))⟩,
    ⟨(some 6), none, .mv (.t 14)⟩] (some [6]))
  .rt)),
  [.t 6]⟩
def c_mapping_CheckNet_1 : FnIR := ⟨13,
  (.sq (.op 0 [⟨(some 3), none, .box (.t 0) 1⟩,
    ⟨(some 5), none, .mv (.c (.int .i64 0))⟩] none)
  (.sq (.op 0 [⟨(some 7), none, .mv (.t 1)⟩,
    ⟨(some 8), none, .mkf n_mapping_CheckNet_1_1 [(.t 2), (.t 3)]⟩,
    ⟨(some 9), none, .callV true (.c (.fn n_slices_ContainsFunc_int_int [])) [(.t 7), (.t 8)]⟩,
    ⟨(some 6), none, .mv (.t 9)⟩] (some [6]))
  (.sq (.op 0 [⟨(some 10), none, .mv (.t 6)⟩,
    ⟨(some 11), none, .un .not (.t 10)⟩,
    ⟨(some 12), none, .callV true (.c (.fn n_mapping_unless [])) [(.t 11), (.c (.int .i64 9))]⟩,
    ⟨(some 5), none, .mv (.t 12)⟩] (some [5]))
  .rt))),
  [.t 5]⟩
def c_mapping_CheckNet_1_1 : FnIR := ⟨13,
  (.sq (.op 0 [⟨(some 4), none, .mv (.c (.bool false))⟩] none)
  (.sq (.op 0 [⟨(some 5), none, .mv (.t 0)⟩,
    ⟨(some 6), none, .fa (.t 1) 0⟩,
    ⟨(some 7), none, .ld (.t 6) 1 false⟩,
    ⟨(some 8), none, .bin .add (.c (.int .i64 1)) (.t 7)⟩,
    ⟨(some 9), none, .ld (.t 2) 1 false⟩,
    ⟨(some 10), none, .bin .add (.t 8) (.t 9)⟩,
    ⟨(some 11), none, .callV true (.c (.fn n_mapping_within [])) [(.t 5), (.c (.int .i64 0)), (.t 10)]⟩,
    ⟨(some 12), none, .un .not (.t 11)⟩,
    ⟨(some 4), none, .mv (.t 12)⟩] (some [4]))
  .rt)),
  [.t 4]⟩
def b_mapping_each_api_MapPlaced_L0 : IR :=
 (.sq (.op 0 [⟨(some 12), none, .bin .lss (.t 11) (.t 10)⟩] none)
 (.sq (.cd (.t 12)
  .sk
  (.ex 0))
 (.sq (.bk 1 (.sq (.op 0 [⟨(some 13), none, .mv (.t 11)⟩,
    ⟨(some 14), none, .ia (.t 9) (.t 11) 2⟩,
    ⟨(some 15), none, .ld (.t 14) 2 true⟩,
    ⟨(some 7), none, .alloc [.int .i64 0, .sl 1 (some true) []]⟩,
    ⟨(some 6), none, .mv (.t 13)⟩,
    ⟨none, none, .st (.t 7) (.t 15) 2⟩] (some [1, 6, 7, 9, 10, 11]))
  (.sq (.op 0 [⟨(some 16), none, .mv (.t 1)⟩,
    ⟨(some 17), none, .mv (.t 6)⟩,
    ⟨(some 18), none, .ld (.t 7) 2 true⟩,
    ⟨(some 19), none, .callV true (.t 16) [(.t 17), (.t 18)]⟩,
    ⟨(some 8), none, .mv (.t 19)⟩] (some [1, 6, 8, 9, 10, 11]))
  (.sq (.op 0 [⟨(some 20), none, .mv (.t 8)⟩,
    ⟨(some 21), none, .bin .neq (.t 20) (.c (.int .i64 0))⟩] none)
  (.cd (.t 21)
   (.sq (.op 0 [⟨(some 22), none, .mv (.t 6)⟩,
     ⟨(some 23), none, .mv (.t 8)⟩,
     ⟨(some 4), none, .mv (.t 22)⟩,
     ⟨(some 5), none, .mv (.t 23)⟩] (some [4, 5]))
   .rt)
   .sk)))))
 (.op 0 [⟨(some 24), none, .bin .add (.t 11) (.c (.int .i64 1))⟩,
   ⟨(some 11), none, .mv (.t 24)⟩] none))))
def c_mapping_each_api_MapPlaced_L0 : IR := b_mapping_each_api_MapPlaced_L0
theorem u_mapping_each_api_MapPlaced_L0 {C : Call} {L : Loop} {π : Id} {k0 : List Id} {e : Env} {s : Sto} : evC C L π k0 c_mapping_each_api_MapPlaced_L0 e s = evC C L π k0 b_mapping_each_api_MapPlaced_L0 e s := rfl
def c_mapping_each_api_MapPlaced : FnIR := ⟨25,
  (.sq (.op 0 [⟨(some 4), none, .mv (.c (.int .i64 0))⟩,
    ⟨(some 5), none, .mv (.c (.int .i64 0))⟩] none)
  (.sq (.sq (.op 0 [⟨(some 9), none, .mv (.t 0)⟩,
    ⟨(some 10), none, .len false (.t 9)⟩,
    ⟨(some 11), none, .mv (.c (.int .i64 0))⟩] none)
  (.kp [] [4, 5] (.bk 0 (.lp [] [1, 9, 10, 11] c_mapping_each_api_MapPlaced_L0))))
  (.sq (.op 0 [⟨(some 4), none, .mv (.c (.int .i64 0))⟩,
    ⟨(some 5), none, .mv (.c (.int .i64 0))⟩] none)
  .rt))),
  [.t 4, .t 5]⟩
def c_mapping_CheckNet_2 : FnIR := ⟨32,
  (.sq (.op 0 [⟨(some 5), none, .box (.t 1) 2⟩,
    ⟨(some 6), none, .mv (.c (.int .i64 0))⟩] none)
  (.sq (.sq (.op 0 [⟨(some 7), none, .fa (.t 5) 0⟩,
    ⟨(some 8), none, .ld (.t 7) 1 false⟩,
    ⟨(some 9), none, .ld (.t 2) 1 false⟩,
    ⟨(some 10), none, .len false (.t 9)⟩,
    ⟨(some 11), none, .bin .sub (.t 10) (.c (.int .i64 1))⟩,
    ⟨(some 12), none, .callV true (.c (.fn n_mapping_within [])) [(.t 8), (.c (.int .i64 0)), (.t 11)]⟩,
    ⟨(some 13), none, .un .not (.t 12)⟩] (some [0, 2, 3, 5, 13]))
  (.cd (.t 13)
   (.sq (.op 0 [⟨(some 6), none, .mv (.c (.int .i64 6))⟩] none)
   .rt)
   .sk))
  (.sq (.op 15 [⟨(some 14), none, .fa (.t 5) 1⟩,
    ⟨(some 15), none, .ld (.t 14) 1 false⟩,
    ⟨(some 16), none, .len false (.t 15)⟩,
    ⟨(some 17), none, .ld (.t 2) 1 false⟩,
    ⟨(some 18), none, .fa (.t 5) 0⟩,
    ⟨(some 19), none, .ld (.t 18) 1 false⟩,
    ⟨(some 20), none, .ia (.t 17) (.t 19) 5⟩,
    ⟨(some 21), none, .fa (.t 20) 1⟩,
    ⟨(some 22), none, .ld (.t 21) 1 false⟩,
    ⟨(some 23), none, .bin .eql (.t 16) (.t 22)⟩,
    ⟨(some 24), none, .callV true (.c (.fn n_mapping_unless [])) [(.t 23), (.c (.int .i64 10))]⟩,
    ⟨(some 25), none, .ld (.t 3) 1 false⟩,
    ⟨(some 26), none, .mv (.t 0)⟩,
    ⟨(some 27), none, .fa (.t 5) 1⟩,
    ⟨(some 28), none, .ld (.t 27) 1 false⟩,
    ⟨(some 29), none, .callV true (.t 25) [(.t 26), (.t 28)]⟩,
    ⟨(some 30), none, .bsl t_api_Errno 1 false [.int .i64 0] 2 [(0, (.t 24)), (1, (.t 29))]⟩,
    ⟨(some 31), none, .callV true (.c (.fn n_mapping_first [])) [(.t 30)]⟩,
    ⟨(some 6), none, .mv (.t 31)⟩] (some [6]))
  .rt))),
  [.t 6]⟩
def b_mapping_each_int_L0 : IR :=
 (.sq (.op 0 [⟨(some 12), none, .bin .lss (.t 11) (.t 10)⟩] none)
 (.sq (.cd (.t 12)
  .sk
  (.ex 0))
 (.sq (.bk 1 (.sq (.op 0 [⟨(some 13), none, .mv (.t 11)⟩,
    ⟨(some 14), none, .ia (.t 9) (.t 11) 1⟩,
    ⟨(some 15), none, .ld (.t 14) 1 false⟩,
    ⟨(some 6), none, .mv (.t 13)⟩,
    ⟨(some 7), none, .mv (.t 15)⟩] (some [1, 6, 7, 9, 10, 11]))
  (.sq (.op 0 [⟨(some 16), none, .mv (.t 1)⟩,
    ⟨(some 17), none, .mv (.t 6)⟩,
    ⟨(some 18), none, .mv (.t 7)⟩,
    ⟨(some 19), none, .callV true (.t 16) [(.t 17), (.t 18)]⟩,
    ⟨(some 8), none, .mv (.t 19)⟩] (some [1, 6, 8, 9, 10, 11]))
  (.sq (.op 0 [⟨(some 20), none, .mv (.t 8)⟩,
    ⟨(some 21), none, .bin .neq (.t 20) (.c (.int .i64 0))⟩] none)
  (.cd (.t 21)
   (.sq (.op 0 [⟨(some 22), none, .mv (.t 6)⟩,
     ⟨(some 23), none, .mv (.t 8)⟩,
     ⟨(some 4), none, .mv (.t 22)⟩,
     ⟨(some 5), none, .mv (.t 23)⟩] (some [4, 5]))
   .rt)
   .sk)))))
 (.op 0 [⟨(some 24), none, .bin .add (.t 11) (.c (.int .i64 1))⟩,
   ⟨(some 11), none, .mv (.t 24)⟩] none))))
def c_mapping_each_int_L0 : IR := b_mapping_each_int_L0
theorem u_mapping_each_int_L0 {C : Call} {L : Loop} {π : Id} {k0 : List Id} {e : Env} {s : Sto} : evC C L π k0 c_mapping_each_int_L0 e s = evC C L π k0 b_mapping_each_int_L0 e s := rfl
def c_mapping_each_int : FnIR := ⟨25,
  (.sq (.op 0 [⟨(some 4), none, .mv (.c (.int .i64 0))⟩,
    ⟨(some 5), none, .mv (.c (.int .i64 0))⟩] none)
  (.sq (.sq (.op 0 [⟨(some 9), none, .mv (.t 0)⟩,
    ⟨(some 10), none, .len false (.t 9)⟩,
    ⟨(some 11), none, .mv (.c (.int .i64 0))⟩] none)
  (.kp [] [4, 5] (.bk 0 (.lp [] [1, 9, 10, 11] c_mapping_each_int_L0))))
  (.sq (.op 0 [⟨(some 4), none, .mv (.c (.int .i64 0))⟩,
    ⟨(some 5), none, .mv (.c (.int .i64 0))⟩] none)
  .rt))),
  [.t 4, .t 5]⟩
def c_mapping_CheckNet_3 : FnIR := ⟨14,
  (.sq (.op 0 [⟨(some 6), none, .mv (.c (.int .i64 0))⟩] none)
  (.sq (.op 0 [⟨(some 7), none, .ld (.t 2) 1 false⟩,
    ⟨(some 8), none, .fa (.t 3) 1⟩,
    ⟨(some 9), none, .ld (.t 8) 1 false⟩,
    ⟨(some 10), none, .len false (.t 9)⟩,
    ⟨(some 11), none, .mv (.t 1)⟩,
    ⟨(some 12), none, .bsl t_int 1 false [.int .i64 0] 1 [(0, (.t 11))]⟩,
    ⟨(some 13), none, .callV true (.t 7) [(.t 10), (.t 12)]⟩,
    ⟨(some 6), none, .mv (.t 13)⟩] (some [6]))
  .rt)),
  [.t 6]⟩
def b_timing_net_output_L0 : IR :=
 (.sq (.op 0 [⟨(some 21), none, .bin .lss (.t 20) (.t 19)⟩] none)
 (.sq (.cd (.t 21)
  .sk
  (.ex 0))
 (.sq (.bk 1 (.sq (.op 0 [⟨(some 22), none, .mv (.t 20)⟩,
    ⟨(some 23), none, .ia (.t 18) (.t 20) 1⟩,
    ⟨(some 24), none, .ld (.t 23) 1 false⟩,
    ⟨(some 9), none, .mv (.t 22)⟩,
    ⟨(some 10), none, .mv (.t 24)⟩] (some [2, 3, 7, 8, 9, 10, 18, 19, 20]))
  (.op 0 [⟨(some 25), none, .mv (.t 8)⟩,
    ⟨(some 26), none, .mv (.t 2)⟩,
    ⟨(some 27), none, .mv (.t 10)⟩,
    ⟨(some 28), none, .callV true (.t 26) [(.t 27)]⟩,
    ⟨(some 29), none, .mv (.t 9)⟩,
    ⟨(some 30), none, .bin .shl (.t 28) (.t 29)⟩,
    ⟨(some 31), none, .bin .or (.t 25) (.t 30)⟩,
    ⟨(some 8), none, .mv (.t 31)⟩] (some [2, 3, 7, 8, 18, 19, 20]))))
 (.op 0 [⟨(some 32), none, .bin .add (.t 20) (.c (.int .i64 1))⟩,
   ⟨(some 20), none, .mv (.t 32)⟩] none))))
def c_timing_net_output_L0 : IR := b_timing_net_output_L0
theorem u_timing_net_output_L0 {C : Call} {L : Loop} {π : Id} {k0 : List Id} {e : Env} {s : Sto} : evC C L π k0 c_timing_net_output_L0 e s = evC C L π k0 b_timing_net_output_L0 e s := rfl
def c_timing_net_output : FnIR := ⟨43,
  (.sq (.op 0 [⟨(some 3), none, .box (.t 0) 4⟩,
    ⟨(some 6), none, .mv (.c (.int .i64 0))⟩] none)
  (.sq (.op 0 [⟨(some 11), none, .fa (.t 3) 0⟩,
    ⟨(some 12), none, .fa (.t 11) 1⟩,
    ⟨(some 13), none, .ld (.t 12) 1 false⟩,
    ⟨(some 14), none, .mv (.t 1)⟩,
    ⟨(some 15), none, .ia (.t 13) (.t 14) 2⟩,
    ⟨(some 16), none, .ld (.t 15) 2 true⟩,
    ⟨(some 7), none, .alloc [.int .i64 0, .sl 1 (some true) []]⟩,
    ⟨none, none, .st (.t 7) (.t 16) 2⟩,
    ⟨(some 8), none, .mv (.c (.int .i64 0))⟩] (some [2, 3, 7, 8]))
  (.sq (.sq (.op 0 [⟨(some 17), none, .fa (.t 7) 1⟩,
    ⟨(some 18), none, .ld (.t 17) 1 false⟩,
    ⟨(some 19), none, .len false (.t 18)⟩,
    ⟨(some 20), none, .mv (.c (.int .i64 0))⟩] (some [2, 3, 7, 8, 18, 19, 20]))
  (.kp [3, 7, 8] [6] (.bk 0 (.lp [] [2, 3, 7, 8, 18, 19, 20] c_timing_net_output_L0))))
  (.sq (.op 0 [⟨(some 33), none, .fa (.t 3) 3⟩,
    ⟨(some 34), none, .ld (.t 33) 1 false⟩,
    ⟨(some 35), none, .fa (.t 7) 0⟩,
    ⟨(some 36), none, .ld (.t 35) 1 false⟩,
    ⟨(some 37), none, .ia (.t 34) (.t 36) 5⟩,
    ⟨(some 38), none, .fa (.t 37) 2⟩,
    ⟨(some 39), none, .ld (.t 38) 1 false⟩,
    ⟨(some 40), none, .mv (.t 8)⟩,
    ⟨(some 41), none, .bin .shr (.t 39) (.t 40)⟩,
    ⟨(some 42), none, .bin .and (.t 41) (.c (.int .i64 1))⟩,
    ⟨(some 6), none, .mv (.t 42)⟩] (some [6]))
  .rt)))),
  [.t 6]⟩
def c_timing_net_isUsed_1 : FnIR := ⟨17,
  (.sq (.op 0 [⟨(some 4), none, .mv (.c (.int .i64 0))⟩] none)
  (.sq (.sq (.op 0 [⟨(some 5), none, .mv (.t 0)⟩,
    ⟨(some 6), none, .ld (.t 1) 1 false⟩,
    ⟨(some 7), none, .bin .eql (.t 5) (.t 6)⟩] none)
  (.cd (.t 7)
   (.sq (.op 0 [⟨(some 8), none, .ld (.t 2) 1 false⟩,
     ⟨(some 9), none, .mv (.t 0)⟩,
     ⟨(some 10), none, .ia (.t 8) (.t 9) 1⟩,
     ⟨(some 11), none, .ld (.t 10) 1 false⟩,
     ⟨(some 12), none, .bin .sub (.c (.int .i64 1)) (.t 11)⟩,
     ⟨(some 4), none, .mv (.t 12)⟩] (some [4]))
   .rt)
   .sk))
  (.sq (.op 0 [⟨(some 13), none, .ld (.t 2) 1 false⟩,
    ⟨(some 14), none, .mv (.t 0)⟩,
    ⟨(some 15), none, .ia (.t 13) (.t 14) 1⟩,
    ⟨(some 16), none, .ld (.t 15) 1 false⟩,
    ⟨(some 4), none, .mv (.t 16)⟩] (some [4]))
  .rt))),
  [.t 4]⟩
def c_timing_net_values_1 : FnIR := ⟨8,
  (.sq (.op 0 [⟨(some 3), none, .mv (.c (.int .i64 0))⟩] none)
  (.sq (.op 0 [⟨(some 4), none, .ld (.t 1) 1 false⟩,
    ⟨(some 5), none, .mv (.t 0)⟩,
    ⟨(some 6), none, .ia (.t 4) (.t 5) 1⟩,
    ⟨(some 7), none, .ld (.t 6) 1 false⟩,
    ⟨(some 3), none, .mv (.t 7)⟩] (some [3]))
  .rt)),
  [.t 3]⟩
def c_timing_CheckModel : FnIR := ⟨43,
  (.sq (.op 0 [⟨(some 1), none, .box (.t 0) 5⟩,
    ⟨(some 2), none, .mv (.c (.int .i64 0))⟩] none)
  (.sq (.op 0 [⟨(some 3), none, .mv (.c (.fn n_timing_CheckModel_1 []))⟩] none)
  (.sq (.op 0 [⟨(some 4), none, .mv (.c (.fn n_timing_CheckModel_2 []))⟩] none)
  (.sq (.op 0 [⟨(some 6), none, .fa (.t 1) 0⟩,
    ⟨(some 7), none, .ld (.t 6) 1 false⟩,
    ⟨(some 8), none, .callV true (.c (.fn n_timing_within [])) [(.t 7), (.c (.int .i64 0)), (.c (.int .i64 100))]⟩,
    ⟨(some 9), none, .mv (.t 8)⟩,
    ⟨(some 10), (some (9, true)), .mv (.t 3)⟩,
    ⟨(some 11), (some (9, true)), .fa (.t 1) 1⟩,
    ⟨(some 12), (some (9, true)), .ld (.t 11) 1 false⟩,
    ⟨(some 13), (some (9, true)), .callV true (.t 10) [(.t 12)]⟩,
    ⟨(some 14), none, .pick (.t 9) (.t 13) (.c (.bool false))⟩,
    ⟨(some 15), none, .mv (.t 14)⟩,
    ⟨(some 16), (some (15, true)), .mv (.t 3)⟩,
    ⟨(some 17), (some (15, true)), .fa (.t 1) 2⟩,
    ⟨(some 18), (some (15, true)), .ld (.t 17) 1 false⟩,
    ⟨(some 19), (some (15, true)), .callV true (.t 16) [(.t 18)]⟩,
    ⟨(some 20), none, .pick (.t 15) (.t 19) (.c (.bool false))⟩,
    ⟨(some 21), none, .mv (.t 20)⟩,
    ⟨(some 22), (some (21, true)), .mv (.t 4)⟩,
    ⟨(some 23), (some (21, true)), .fa (.t 1) 3⟩,
    ⟨(some 24), (some (21, true)), .ld (.t 23) 1 false⟩,
    ⟨(some 25), (some (21, true)), .callV true (.t 22) [(.t 24)]⟩,
    ⟨(some 26), none, .pick (.t 21) (.t 25) (.c (.bool false))⟩,
    ⟨(some 27), none, .mv (.t 26)⟩,
    ⟨(some 28), (some (27, true)), .mv (.t 4)⟩,
    ⟨(some 29), (some (27, true)), .fa (.t 1) 4⟩,
    ⟨(some 30), (some (27, true)), .ld (.t 29) 1 false⟩,
    ⟨(some 31), (some (27, true)), .callV true (.t 28) [(.t 30)]⟩,
    ⟨(some 32), none, .pick (.t 27) (.t 31) (.c (.bool false))⟩,
    ⟨(some 5), none, .mv (.t 32)⟩] (some [1, 5]))
  (.sq (.op 7 [⟨(some 33), none, .mv (.t 5)⟩,
    ⟨(some 34), none, .callV true (.c (.fn n_timing_unless [])) [(.t 33), (.c (.int .i64 2))]⟩,
    ⟨(some 35), none, .fa (.t 1) 3⟩,
    ⟨(some 36), none, .ld (.t 35) 1 false⟩,
    ⟨(some 37), none, .fa (.t 1) 4⟩,
    ⟨(some 38), none, .ld (.t 37) 1 false⟩,
    ⟨(some 39), none, .bin .leq (.t 36) (.t 38)⟩,
    ⟨(some 40), none, .callV true (.c (.fn n_timing_unless [])) [(.t 39), (.c (.int .i64 9))]⟩,
    ⟨(some 41), none, .bsl t_api_Errno 1 false [.int .i64 0] 2 [(0, (.t 34)), (1, (.t 40))]⟩,
    ⟨(some 42), none, .callV true (.c (.fn n_timing_first [])) [(.t 41)]⟩,
    ⟨(some 2), none, .mv (.t 42)⟩] (some [2]))
  .rt))))),
  [.t 2]⟩
def c_timing_openModel_1 : FnIR := ⟨14,
  (.sq (.op 0 [⟨(some 4), none, .mv (.t 0)⟩,
    ⟨(some 5), none, .callV true (.c (.fn n_timing_pointOf [])) [(.t 4)]⟩,
    ⟨(some 3), none, .mv (.t 5)⟩] none)
  (.sq (.op 0 [⟨(some 6), none, .mv (.t 3)⟩,
    ⟨(some 7), none, .bin .geq (.t 6) (.c (.int .i64 0))⟩] none)
  (.cd (.t 7)
   (.op 0 [⟨(some 8), none, .ld (.t 1) 1 false⟩,
     ⟨(some 9), none, .mv (.t 3)⟩,
     ⟨(some 10), none, .ia (.t 8) (.t 9) 1⟩,
     ⟨(some 11), none, .ld (.t 10) 1 false⟩,
     ⟨(some 12), none, .bin .add (.t 11) (.c (.int .i64 1))⟩,
     ⟨(some 13), none, .ia (.t 8) (.t 9) 1⟩,
     ⟨none, none, .st (.t 13) (.t 12) 1⟩] (some []))
   .sk))),
  []⟩
def c_slices_Clip_int_int : FnIR := ⟨9,
  (.sq (.op 0 [⟨(some 2), none, .mv (.c (.sl 1 (some true) []))⟩] none)
  (.sq (.op 0 [⟨(some 3), none, .mv (.t 0)⟩,
    ⟨(some 4), none, .mv (.t 0)⟩,
    ⟨(some 5), none, .len false (.t 4)⟩,
    ⟨(some 6), none, .mv (.t 0)⟩,
    ⟨(some 7), none, .len false (.t 6)⟩,
    ⟨(some 8), none, .slf (.t 3) none (.t 5) (.t 7) 1⟩,
    ⟨(some 2), none, .mv (.t 8)⟩] (some [2]))
  .rt)),
  [.t 2]⟩
def b_ratchetref27_CheckLibrary_L1 : IR :=
 (.sq (.sq (.op 0 [⟨(some 28), none, .mv (.t 6)⟩,
   ⟨(some 29), none, .mv (.t 4)⟩,
   ⟨(some 30), none, .bin .lss (.t 28) (.t 29)⟩] none)
 (.cd (.t 30)
  .sk
  (.ex 2)))
 (.sq (.bk 3 (.sq (.op 7 [⟨(some 33), none, .mv (.t 0)⟩,
    ⟨(some 34), none, .mv (.t 6)⟩,
    ⟨(some 35), none, .ia (.t 33) (.t 34) 5⟩,
    ⟨(some 36), none, .fa (.t 35) 0⟩,
    ⟨(some 37), none, .ld (.t 36) 1 false⟩,
    ⟨(some 38), none, .fa (.t 5) 0⟩,
    ⟨(some 39), none, .ld (.t 38) 1 false⟩,
    ⟨(some 40), none, .bin .eql (.t 37) (.t 39)⟩] (some [0, 4, 5, 6, 40]))
  (.cd (.t 40)
   (.sq (.op 0 [⟨(some 41), none, .mv (.t 4)⟩,
     ⟨(some 2), none, .mv (.t 41)⟩,
     ⟨(some 3), none, .mv (.c (.int .i64 5))⟩] none)
   .rt)
   .sk)))
 (.op 0 [⟨(some 31), none, .mv (.t 6)⟩,
   ⟨(some 32), none, .bin .add (.t 31) (.c (.int .i64 1))⟩,
   ⟨(some 6), none, .mv (.t 32)⟩] none)))
def c_ratchetref27_CheckLibrary_L1 : IR := b_ratchetref27_CheckLibrary_L1
theorem u_ratchetref27_CheckLibrary_L1 {C : Call} {L : Loop} {π : Id} {k0 : List Id} {e : Env} {s : Sto} : evC C L π k0 c_ratchetref27_CheckLibrary_L1 e s = evC C L π k0 b_ratchetref27_CheckLibrary_L1 e s := rfl
def b_ratchetref27_CheckLibrary_L0 : IR :=
 (.sq (.sq (.op 0 [⟨(some 13), none, .mv (.t 4)⟩,
   ⟨(some 14), none, .mv (.t 0)⟩,
   ⟨(some 15), none, .len false (.t 14)⟩,
   ⟨(some 16), none, .bin .lss (.t 13) (.t 15)⟩] (some [0, 4, 16]))
 (.cd (.t 16)
  .sk
  (.ex 0)))
 (.sq (.bk 1 (.sq (.op 0 [⟨(some 19), none, .mv (.t 0)⟩,
    ⟨(some 20), none, .mv (.t 4)⟩,
    ⟨(some 21), none, .ia (.t 19) (.t 20) 5⟩,
    ⟨(some 22), none, .ld (.t 21) 5 true⟩,
    ⟨(some 5), none, .alloc [.str ⟨#[]⟩, .int .i64 0, .int .i64 0, .int .i64 0, .int .i64 0]⟩,
    ⟨none, none, .st (.t 5) (.t 22) 5⟩] (some [0, 4, 5]))
  (.sq (.sq (.op 0 [⟨(some 23), none, .fa (.t 5) 0⟩,
    ⟨(some 24), none, .ld (.t 23) 1 false⟩,
    ⟨(some 25), none, .callV true (.c (.fn n_ratchetbase_IsName [])) [(.t 24)]⟩,
    ⟨(some 26), none, .un .not (.t 25)⟩] (some [0, 4, 5, 26]))
  (.cd (.t 26)
   (.sq (.op 0 [⟨(some 27), none, .mv (.t 4)⟩,
     ⟨(some 2), none, .mv (.t 27)⟩,
     ⟨(some 3), none, .mv (.c (.int .i64 4))⟩] none)
   .rt)
   .sk))
  (.sq (.sq (.op 0 [⟨(some 6), none, .mv (.c (.int .i64 0))⟩] none)
  (.kp [0, 4, 5] [2, 3] (.bk 2 (.lp [] [0, 4, 5, 6] c_ratchetref27_CheckLibrary_L1))))
  (.sq (.op 12 [⟨(some 42), none, .fa (.t 5) 1⟩,
    ⟨(some 43), none, .ld (.t 42) 1 false⟩,
    ⟨(some 44), none, .callV true (.c (.fn n_ratchetbase_Within [])) [(.t 43), (.c (.int .i64 1)), (.c (.int .i64 3))]⟩,
    ⟨(some 45), none, .un .not (.t 44)⟩,
    ⟨(some 46), none, .mv (.t 45)⟩,
    ⟨(some 47), (some (46, false)), .fa (.t 5) 2⟩,
    ⟨(some 48), (some (46, false)), .ld (.t 47) 1 false⟩,
    ⟨(some 49), (some (46, false)), .fa (.t 5) 1⟩,
    ⟨(some 50), (some (46, false)), .ld (.t 49) 1 false⟩,
    ⟨(some 51), (some (46, false)), .callV true (.c (.fn n_ratchetbase_Power [])) [(.t 50)]⟩,
    ⟨(some 52), (some (46, false)), .callV true (.c (.fn n_ratchetbase_Power [])) [(.t 51)]⟩,
    ⟨(some 53), (some (46, false)), .bin .sub (.t 52) (.c (.int .i64 1))⟩,
    ⟨(some 54), (some (46, false)), .callV true (.c (.fn n_ratchetbase_Within [])) [(.t 48), (.c (.int .i64 0)), (.t 53)]⟩,
    ⟨(some 55), (some (46, false)), .un .not (.t 54)⟩,
    ⟨(some 56), none, .pick (.t 46) (.c (.bool true)) (.t 55)⟩,
    ⟨(some 57), none, .mv (.t 56)⟩,
    ⟨(some 58), (some (57, false)), .fa (.t 5) 3⟩,
    ⟨(some 59), (some (57, false)), .ld (.t 58) 1 false⟩,
    ⟨(some 60), (some (57, false)), .callV true (.c (.fn n_ratchetbase_Within [])) [(.t 59), (.c (.int .i64 1)), (.c (.int .i64 1000))]⟩,
    ⟨(some 61), (some (57, false)), .un .not (.t 60)⟩,
    ⟨(some 62), none, .pick (.t 57) (.c (.bool true)) (.t 61)⟩,
    ⟨(some 63), none, .mv (.t 62)⟩,
    ⟨(some 64), (some (63, false)), .fa (.t 5) 4⟩,
    ⟨(some 65), (some (63, false)), .ld (.t 64) 1 false⟩,
    ⟨(some 66), (some (63, false)), .callV true (.c (.fn n_ratchetbase_Within [])) [(.t 65), (.c (.int .i64 1)), (.c (.int .i64 1000))]⟩,
    ⟨(some 67), (some (63, false)), .un .not (.t 66)⟩,
    ⟨(some 68), none, .pick (.t 63) (.c (.bool true)) (.t 67)⟩] (some [0, 4, 68]))
  (.cd (.t 68)
   (.sq (.op 0 [⟨(some 69), none, .mv (.t 4)⟩,
     ⟨(some 2), none, .mv (.t 69)⟩,
     ⟨(some 3), none, .mv (.c (.int .i64 2))⟩] none)
   .rt)
   .sk))))))
 (.op 0 [⟨(some 17), none, .mv (.t 4)⟩,
   ⟨(some 18), none, .bin .add (.t 17) (.c (.int .i64 1))⟩,
   ⟨(some 4), none, .mv (.t 18)⟩] none)))
def c_ratchetref27_CheckLibrary_L0 : IR := b_ratchetref27_CheckLibrary_L0
theorem u_ratchetref27_CheckLibrary_L0 {C : Call} {L : Loop} {π : Id} {k0 : List Id} {e : Env} {s : Sto} : evC C L π k0 c_ratchetref27_CheckLibrary_L0 e s = evC C L π k0 b_ratchetref27_CheckLibrary_L0 e s := rfl
def c_ratchetref27_CheckLibrary : FnIR := ⟨70,
  (.sq (.op 0 [⟨(some 2), none, .mv (.c (.int .i64 0))⟩,
    ⟨(some 3), none, .mv (.c (.int .i64 0))⟩] none)
  (.sq (.sq (.op 0 [⟨(some 7), none, .mv (.t 0)⟩,
    ⟨(some 8), none, .len false (.t 7)⟩,
    ⟨(some 9), none, .bin .eql (.t 8) (.c (.int .i64 0))⟩] none)
  (.cd (.t 9)
   (.sq (.op 0 [⟨(some 2), none, .mv (.c (.int .i64 0))⟩,
     ⟨(some 3), none, .mv (.c (.int .i64 10))⟩] none)
   .rt)
   .sk))
  (.sq (.sq (.op 0 [⟨(some 10), none, .mv (.t 0)⟩,
    ⟨(some 11), none, .len false (.t 10)⟩,
    ⟨(some 12), none, .bin .gtr (.t 11) (.c (.int .i64 16))⟩] none)
  (.cd (.t 12)
   (.sq (.op 0 [⟨(some 2), none, .mv (.c (.int .i64 0))⟩,
     ⟨(some 3), none, .mv (.c (.int .i64 8))⟩] none)
   .rt)
   .sk))
  (.sq (.sq (.op 0 [⟨(some 4), none, .mv (.c (.int .i64 0))⟩] none)
  (.kp [] [2, 3] (.bk 0 (.lp [] [0, 4] c_ratchetref27_CheckLibrary_L0))))
  (.sq (.op 0 [⟨(some 2), none, .mv (.c (.int .i64 0))⟩,
    ⟨(some 3), none, .mv (.c (.int .i64 0))⟩] none)
  .rt))))),
  [.t 2, .t 3]⟩
def b_ratchetref04_Number_L0 : IR :=
 (.sq (.sq (.op 0 [⟨(some 5), none, .mv (.t 4)⟩,
   ⟨(some 6), none, .mv (.t 0)⟩,
   ⟨(some 7), none, .len false (.t 6)⟩,
   ⟨(some 8), none, .bin .lss (.t 5) (.t 7)⟩] (some [0, 3, 4, 8]))
 (.cd (.t 8)
  .sk
  (.ex 0)))
 (.sq (.bk 1 (.op 7 [⟨(some 11), none, .mv (.t 3)⟩,
    ⟨(some 12), none, .mv (.t 0)⟩,
    ⟨(some 13), none, .mv (.t 4)⟩,
    ⟨(some 14), none, .ia (.t 12) (.t 13) 1⟩,
    ⟨(some 15), none, .ld (.t 14) 1 false⟩,
    ⟨(some 16), none, .mv (.t 4)⟩,
    ⟨(some 17), none, .callV true (.c (.fn n_ratchetbase_Power [])) [(.t 16)]⟩,
    ⟨(some 18), none, .bin .mul (.t 15) (.t 17)⟩,
    ⟨(some 19), none, .bin .add (.t 11) (.t 18)⟩,
    ⟨(some 3), none, .mv (.t 19)⟩] (some [0, 3, 4])))
 (.op 0 [⟨(some 9), none, .mv (.t 4)⟩,
   ⟨(some 10), none, .bin .add (.t 9) (.c (.int .i64 1))⟩,
   ⟨(some 4), none, .mv (.t 10)⟩] none)))
def c_ratchetref04_Number_L0 : IR := b_ratchetref04_Number_L0
theorem u_ratchetref04_Number_L0 {C : Call} {L : Loop} {π : Id} {k0 : List Id} {e : Env} {s : Sto} : evC C L π k0 c_ratchetref04_Number_L0 e s = evC C L π k0 b_ratchetref04_Number_L0 e s := rfl
def c_ratchetref04_Number : FnIR := ⟨21,
  (.sq (.op 0 [⟨(some 2), none, .mv (.c (.int .i64 0))⟩] none)
  (.sq (.op 0 [⟨(some 3), none, .mv (.c (.int .i64 0))⟩] none)
  (.sq (.sq (.op 0 [⟨(some 4), none, .mv (.c (.int .i64 0))⟩] none)
  (.kp [3] [2] (.bk 0 (.lp [] [0, 3, 4] c_ratchetref04_Number_L0))))
  (.sq (.op 0 [⟨(some 20), none, .mv (.t 3)⟩,
    ⟨(some 2), none, .mv (.t 20)⟩] none)
  .rt)))),
  [.t 2]⟩
def c_ratchetbase_Bit : FnIR := ⟨4,
  (.sq (.op 0 [⟨(some 2), none, .mv (.c (.int .i64 0))⟩] none)
  (.sq (.sq (.op 0 [⟨(some 3), none, .mv (.t 0)⟩] none)
  (.cd (.t 3)
   (.sq (.op 0 [⟨(some 2), none, .mv (.c (.int .i64 1))⟩] none)
   .rt)
   .sk))
  (.sq (.op 0 [⟨(some 2), none, .mv (.c (.int .i64 0))⟩] none)
  .rt))),
  [.t 2]⟩
def b_slices_IndexFunc_int_int_L0 : IR :=
 (.sq (.op 0 [⟨(some 9), none, .bin .lss (.t 8) (.t 7)⟩] none)
 (.sq (.cd (.t 9)
  .sk
  (.ex 0))
 (.sq (.bk 1 (.sq (.op 0 [⟨(some 10), none, .mv (.t 8)⟩,
    ⟨(some 5), none, .mv (.t 10)⟩] none)
  (.sq (.op 0 [⟨(some 11), none, .mv (.t 1)⟩,
    ⟨(some 12), none, .mv (.t 0)⟩,
    ⟨(some 13), none, .mv (.t 5)⟩,
    ⟨(some 14), none, .ia (.t 12) (.t 13) 1⟩,
    ⟨(some 15), none, .ld (.t 14) 1 false⟩,
    ⟨(some 16), none, .callV true (.t 11) [(.t 15)]⟩] (some [0, 1, 5, 7, 8, 16]))
  (.cd (.t 16)
   (.sq (.op 0 [⟨(some 17), none, .mv (.t 5)⟩,
     ⟨(some 4), none, .mv (.t 17)⟩] none)
   .rt)
   .sk))))
 (.op 0 [⟨(some 18), none, .bin .add (.t 8) (.c (.int .i64 1))⟩,
   ⟨(some 8), none, .mv (.t 18)⟩] none))))
def c_slices_IndexFunc_int_int_L0 : IR := b_slices_IndexFunc_int_int_L0
theorem u_slices_IndexFunc_int_int_L0 {C : Call} {L : Loop} {π : Id} {k0 : List Id} {e : Env} {s : Sto} : evC C L π k0 c_slices_IndexFunc_int_int_L0 e s = evC C L π k0 b_slices_IndexFunc_int_int_L0 e s := rfl
def c_slices_IndexFunc_int_int : FnIR := ⟨19,
  (.sq (.op 0 [⟨(some 4), none, .mv (.c (.int .i64 0))⟩] none)
  (.sq (.sq (.op 0 [⟨(some 6), none, .mv (.t 0)⟩,
    ⟨(some 7), none, .len false (.t 6)⟩,
    ⟨(some 8), none, .mv (.c (.int .i64 0))⟩] none)
  (.kp [] [4] (.bk 0 (.lp [] [0, 1, 7, 8] c_slices_IndexFunc_int_int_L0))))
  (.sq (.op 0 [⟨(some 4), none, .mv (.c (.int .i64 (-1)))⟩] none)
  .rt))),
  [.t 4]⟩
def c_bits_Mul : FnIR := ⟨30,
  (.sq (.op 0 [⟨(some 4), none, .mv (.c (.int .u64 0))⟩,
    ⟨(some 5), none, .mv (.c (.int .u64 0))⟩] none)
  (.sq (.cd (.c (.bool false))
   (.sq (.op 0 [⟨(some 11), none, .mv (.t 0)⟩,
     ⟨(some 12), none, .conv .u32 (.t 11)⟩,
     ⟨(some 13), none, .mv (.t 1)⟩,
     ⟨(some 14), none, .conv .u32 (.t 13)⟩,
     ⟨(some 15), none, .callV true (.c (.fn n_bits_Mul32 [])) [(.t 12), (.t 14)]⟩,
     ⟨(some 10), none, .mv (.t 15)⟩,
     ⟨(some 16), none, .ext (.t 10) 0⟩,
     ⟨(some 17), none, .ext (.t 10) 1⟩,
     ⟨(some 6), none, .mv (.t 16)⟩,
     ⟨(some 7), none, .mv (.t 17)⟩] (some [6, 7]))
   (.sq (.op 0 [⟨(some 18), none, .mv (.t 6)⟩,
     ⟨(some 19), none, .conv .u64 (.t 18)⟩,
     ⟨(some 20), none, .mv (.t 7)⟩,
     ⟨(some 21), none, .conv .u64 (.t 20)⟩,
     ⟨(some 4), none, .mv (.t 19)⟩,
     ⟨(some 5), none, .mv (.t 21)⟩] (some [4, 5]))
   .rt))
   .sk)
  (.sq (.op 0 [⟨(some 23), none, .mv (.t 0)⟩,
    ⟨(some 24), none, .mv (.t 1)⟩,
    ⟨(some 25), none, .callV true (.c (.fn n_bits_Mul64 [])) [(.t 23), (.t 24)]⟩,
    ⟨(some 22), none, .mv (.t 25)⟩,
    ⟨(some 26), none, .ext (.t 22) 0⟩,
    ⟨(some 27), none, .ext (.t 22) 1⟩,
    ⟨(some 8), none, .mv (.t 26)⟩,
    ⟨(some 9), none, .mv (.t 27)⟩] (some [8, 9]))
  (.sq (.op 0 [⟨(some 28), none, .mv (.t 8)⟩,
    ⟨(some 29), none, .mv (.t 9)⟩,
    ⟨(some 4), none, .mv (.t 28)⟩,
    ⟨(some 5), none, .mv (.t 29)⟩] (some [4, 5]))
  .rt)))),
  [.t 4, .t 5]⟩
def b_slices_Backward_api_MapPlaced_api_MapPlaced_1_L0 : IR :=
 (.sq (.sq (.op 0 [⟨(some 7), none, .mv (.t 3)⟩,
   ⟨(some 8), none, .bin .geq (.t 7) (.c (.int .i64 0))⟩] none)
 (.cd (.t 8)
  .sk
  (.ex 0)))
 (.sq (.bk 1 (.sq (.op 0 [⟨(some 11), none, .mv (.t 0)⟩,
    ⟨(some 12), none, .mv (.t 3)⟩,
    ⟨(some 13), none, .ld (.t 1) 1 false⟩,
    ⟨(some 14), none, .mv (.t 3)⟩,
    ⟨(some 15), none, .ia (.t 13) (.t 14) 2⟩,
    ⟨(some 16), none, .ld (.t 15) 2 true⟩,
    ⟨(some 17), none, .callS (.t 11) [(.t 12), (.t 16)]⟩,
    ⟨(some 18), none, .un .not (.t 17)⟩] (some [0, 1, 3, 18]))
  (.cd (.t 18)
   .rt
   .sk)))
 (.op 0 [⟨(some 9), none, .mv (.t 3)⟩,
   ⟨(some 10), none, .bin .sub (.t 9) (.c (.int .i64 1))⟩,
   ⟨(some 3), none, .mv (.t 10)⟩] none)))
def c_slices_Backward_api_MapPlaced_api_MapPlaced_1_L0 : IR := b_slices_Backward_api_MapPlaced_api_MapPlaced_1_L0
theorem u_slices_Backward_api_MapPlaced_api_MapPlaced_1_L0 {C : Call} {L : Loop} {π : Id} {k0 : List Id} {e : Env} {s : Sto} : evC C L π k0 c_slices_Backward_api_MapPlaced_api_MapPlaced_1_L0 e s = evC C L π k0 b_slices_Backward_api_MapPlaced_api_MapPlaced_1_L0 e s := rfl
def c_slices_Backward_api_MapPlaced_api_MapPlaced_1 : FnIR := ⟨19,
  (.sq (.op 0 [⟨(some 4), none, .ld (.t 1) 1 false⟩,
    ⟨(some 5), none, .len false (.t 4)⟩,
    ⟨(some 6), none, .bin .sub (.t 5) (.c (.int .i64 1))⟩,
    ⟨(some 3), none, .mv (.t 6)⟩] (some [0, 1, 3]))
  (.kp [] [] (.bk 0 (.lp [] [0, 1, 3] c_slices_Backward_api_MapPlaced_api_MapPlaced_1_L0)))),
  []⟩
def b_slices_Index_int_int_L0 : IR :=
 (.sq (.op 0 [⟨(some 9), none, .bin .lss (.t 8) (.t 7)⟩] none)
 (.sq (.cd (.t 9)
  .sk
  (.ex 0))
 (.sq (.bk 1 (.sq (.op 0 [⟨(some 10), none, .mv (.t 8)⟩,
    ⟨(some 5), none, .mv (.t 10)⟩] none)
  (.sq (.op 0 [⟨(some 11), none, .mv (.t 1)⟩,
    ⟨(some 12), none, .mv (.t 0)⟩,
    ⟨(some 13), none, .mv (.t 5)⟩,
    ⟨(some 14), none, .ia (.t 12) (.t 13) 1⟩,
    ⟨(some 15), none, .ld (.t 14) 1 false⟩,
    ⟨(some 16), none, .bin .eql (.t 11) (.t 15)⟩] (some [0, 1, 5, 7, 8, 16]))
  (.cd (.t 16)
   (.sq (.op 0 [⟨(some 17), none, .mv (.t 5)⟩,
     ⟨(some 4), none, .mv (.t 17)⟩] none)
   .rt)
   .sk))))
 (.op 0 [⟨(some 18), none, .bin .add (.t 8) (.c (.int .i64 1))⟩,
   ⟨(some 8), none, .mv (.t 18)⟩] none))))
def c_slices_Index_int_int_L0 : IR := b_slices_Index_int_int_L0
theorem u_slices_Index_int_int_L0 {C : Call} {L : Loop} {π : Id} {k0 : List Id} {e : Env} {s : Sto} : evC C L π k0 c_slices_Index_int_int_L0 e s = evC C L π k0 b_slices_Index_int_int_L0 e s := rfl
def c_slices_Index_int_int : FnIR := ⟨19,
  (.sq (.op 0 [⟨(some 4), none, .mv (.c (.int .i64 0))⟩] none)
  (.sq (.sq (.op 0 [⟨(some 6), none, .mv (.t 0)⟩,
    ⟨(some 7), none, .len false (.t 6)⟩,
    ⟨(some 8), none, .mv (.c (.int .i64 0))⟩] none)
  (.kp [] [4] (.bk 0 (.lp [] [0, 1, 7, 8] c_slices_Index_int_int_L0))))
  (.sq (.op 0 [⟨(some 4), none, .mv (.c (.int .i64 (-1)))⟩] none)
  .rt))),
  [.t 4]⟩
def b_mapping_each_api_MapCell_L0 : IR :=
 (.sq (.op 0 [⟨(some 12), none, .bin .lss (.t 11) (.t 10)⟩] none)
 (.sq (.cd (.t 12)
  .sk
  (.ex 0))
 (.sq (.bk 1 (.sq (.op 0 [⟨(some 13), none, .mv (.t 11)⟩,
    ⟨(some 14), none, .ia (.t 9) (.t 11) 5⟩,
    ⟨(some 15), none, .ld (.t 14) 5 true⟩,
    ⟨(some 7), none, .alloc [.str ⟨#[]⟩, .int .i64 0, .int .i64 0, .int .i64 0, .int .i64 0]⟩,
    ⟨(some 6), none, .mv (.t 13)⟩,
    ⟨none, none, .st (.t 7) (.t 15) 5⟩] (some [1, 6, 7, 9, 10, 11]))
  (.sq (.op 0 [⟨(some 16), none, .mv (.t 1)⟩,
    ⟨(some 17), none, .mv (.t 6)⟩,
    ⟨(some 18), none, .ld (.t 7) 5 true⟩,
    ⟨(some 19), none, .callV true (.t 16) [(.t 17), (.t 18)]⟩,
    ⟨(some 8), none, .mv (.t 19)⟩] (some [1, 6, 8, 9, 10, 11]))
  (.sq (.op 0 [⟨(some 20), none, .mv (.t 8)⟩,
    ⟨(some 21), none, .bin .neq (.t 20) (.c (.int .i64 0))⟩] none)
  (.cd (.t 21)
   (.sq (.op 0 [⟨(some 22), none, .mv (.t 6)⟩,
     ⟨(some 23), none, .mv (.t 8)⟩,
     ⟨(some 4), none, .mv (.t 22)⟩,
     ⟨(some 5), none, .mv (.t 23)⟩] (some [4, 5]))
   .rt)
   .sk)))))
 (.op 0 [⟨(some 24), none, .bin .add (.t 11) (.c (.int .i64 1))⟩,
   ⟨(some 11), none, .mv (.t 24)⟩] none))))
def c_mapping_each_api_MapCell_L0 : IR := b_mapping_each_api_MapCell_L0
theorem u_mapping_each_api_MapCell_L0 {C : Call} {L : Loop} {π : Id} {k0 : List Id} {e : Env} {s : Sto} : evC C L π k0 c_mapping_each_api_MapCell_L0 e s = evC C L π k0 b_mapping_each_api_MapCell_L0 e s := rfl
def c_mapping_each_api_MapCell : FnIR := ⟨25,
  (.sq (.op 0 [⟨(some 4), none, .mv (.c (.int .i64 0))⟩,
    ⟨(some 5), none, .mv (.c (.int .i64 0))⟩] none)
  (.sq (.sq (.op 0 [⟨(some 9), none, .mv (.t 0)⟩,
    ⟨(some 10), none, .len false (.t 9)⟩,
    ⟨(some 11), none, .mv (.c (.int .i64 0))⟩] none)
  (.kp [] [4, 5] (.bk 0 (.lp [] [1, 9, 10, 11] c_mapping_each_api_MapCell_L0))))
  (.sq (.op 0 [⟨(some 4), none, .mv (.c (.int .i64 0))⟩,
    ⟨(some 5), none, .mv (.c (.int .i64 0))⟩] none)
  .rt))),
  [.t 4, .t 5]⟩
def c_mapping_CheckLibrary_1 : FnIR := ⟨9,
  (.sq (.op 0 [⟨(some 4), none, .box (.t 1) 5⟩,
    ⟨(some 5), none, .mv (.c (.int .i64 0))⟩] none)
  (.sq (.op 0 [⟨(some 6), none, .ld (.t 2) 1 false⟩,
    ⟨(some 7), none, .mv (.t 0)⟩,
    ⟨(some 8), none, .callV true (.c (.fn n_mapping_cellErr [])) [(.t 6), (.t 7)]⟩,
    ⟨(some 5), none, .mv (.t 8)⟩] (some [5]))
  .rt)),
  [.t 5]⟩
def c_mapping_cellErr : FnIR := ⟨54,
  (.sq (.op 0 [⟨(some 4), none, .mv (.c (.int .i64 0))⟩] none)
  (.sq (.op 0 [⟨(some 9), none, .mv (.t 0)⟩,
    ⟨(some 10), none, .mv (.t 1)⟩,
    ⟨(some 11), none, .ia (.t 9) (.t 10) 5⟩,
    ⟨(some 12), none, .ld (.t 11) 5 true⟩,
    ⟨(some 5), none, .alloc [.str ⟨#[]⟩, .int .i64 0, .int .i64 0, .int .i64 0, .int .i64 0]⟩,
    ⟨none, none, .st (.t 5) (.t 12) 5⟩] (some [0, 1, 5]))
  (.sq (.op 0 [⟨(some 6), none, .mv (.c (.fn n_mapping_cellErr_1 []))⟩] none)
  (.sq (.op 0 [⟨(some 13), none, .mv (.t 0)⟩,
    ⟨(some 14), none, .mv (.t 1)⟩,
    ⟨(some 15), none, .slc false (.t 13) none (some (.t 14)) 5⟩,
    ⟨(some 16), none, .mkf n_mapping_cellErr_2 [(.t 5)]⟩,
    ⟨(some 17), none, .callV true (.c (.fn n_slices_ContainsFunc_api_MapCell_api_MapCell [])) [(.t 15), (.t 16)]⟩,
    ⟨(some 7), none, .mv (.t 17)⟩] (some [5, 6, 7]))
  (.sq (.op 23 [⟨(some 18), none, .fa (.t 5) 1⟩,
    ⟨(some 19), none, .ld (.t 18) 1 false⟩,
    ⟨(some 20), none, .callV true (.c (.fn n_mapping_within [])) [(.t 19), (.c (.int .i64 1)), (.c (.int .i64 3))]⟩,
    ⟨(some 21), none, .mv (.t 20)⟩,
    ⟨(some 22), (some (21, true)), .fa (.t 5) 2⟩,
    ⟨(some 23), (some (21, true)), .ld (.t 22) 1 false⟩,
    ⟨(some 24), (some (21, true)), .fa (.t 5) 1⟩,
    ⟨(some 25), (some (21, true)), .ld (.t 24) 1 false⟩,
    ⟨(some 26), (some (21, true)), .bin .shl (.c (.int .u64 1)) (.t 25)⟩,
    ⟨(some 27), (some (21, true)), .bin .shl (.c (.int .i64 1)) (.t 26)⟩,
    ⟨(some 28), (some (21, true)), .bin .sub (.t 27) (.c (.int .i64 1))⟩,
    ⟨(some 29), (some (21, true)), .callV true (.c (.fn n_mapping_within [])) [(.t 23), (.c (.int .i64 0)), (.t 28)]⟩,
    ⟨(some 30), none, .pick (.t 21) (.t 29) (.c (.bool false))⟩,
    ⟨(some 31), none, .mv (.t 30)⟩,
    ⟨(some 32), (some (31, true)), .mv (.t 6)⟩,
    ⟨(some 33), (some (31, true)), .fa (.t 5) 3⟩,
    ⟨(some 34), (some (31, true)), .ld (.t 33) 1 false⟩,
    ⟨(some 35), (some (31, true)), .callV true (.t 32) [(.t 34)]⟩,
    ⟨(some 36), none, .pick (.t 31) (.t 35) (.c (.bool false))⟩,
    ⟨(some 37), none, .mv (.t 36)⟩,
    ⟨(some 38), (some (37, true)), .mv (.t 6)⟩,
    ⟨(some 39), (some (37, true)), .fa (.t 5) 4⟩,
    ⟨(some 40), (some (37, true)), .ld (.t 39) 1 false⟩,
    ⟨(some 41), (some (37, true)), .callV true (.t 38) [(.t 40)]⟩,
    ⟨(some 42), none, .pick (.t 37) (.t 41) (.c (.bool false))⟩,
    ⟨(some 8), none, .mv (.t 42)⟩] (some [5, 7, 8]))
  (.sq (.op 0 [⟨(some 43), none, .fa (.t 5) 0⟩,
    ⟨(some 44), none, .ld (.t 43) 1 false⟩,
    ⟨(some 45), none, .callV true (.c (.fn n_mapping_isName [])) [(.t 44)]⟩,
    ⟨(some 46), none, .callV true (.c (.fn n_mapping_unless [])) [(.t 45), (.c (.int .i64 4))]⟩,
    ⟨(some 47), none, .mv (.t 7)⟩,
    ⟨(some 48), none, .un .not (.t 47)⟩,
    ⟨(some 49), none, .callV true (.c (.fn n_mapping_unless [])) [(.t 48), (.c (.int .i64 5))]⟩,
    ⟨(some 50), none, .mv (.t 8)⟩,
    ⟨(some 51), none, .callV true (.c (.fn n_mapping_unless [])) [(.t 50), (.c (.int .i64 2))]⟩,
    ⟨(some 52), none, .bsl t_api_Errno 1 false [.int .i64 0] 3 [(0, (.t 46)), (1, (.t 49)), (2, (.t 51))]⟩,
    ⟨(some 53), none, .callV true (.c (.fn n_mapping_first [])) [(.t 52)]⟩,
    ⟨(some 4), none, .mv (.t 53)⟩] (some [4]))
  .rt)))))),
  [.t 4]⟩
def c_timing_CheckModel_1 : FnIR := ⟨5,
  (.sq (.op 0 [⟨(some 2), none, .mv (.c (.bool false))⟩] none)
  (.sq (.op 0 [⟨(some 3), none, .mv (.t 0)⟩,
    ⟨(some 4), none, .callV true (.c (.fn n_timing_within [])) [(.t 3), (.c (.int .i64 0)), (.c (.int .i64 1000000))]⟩,
    ⟨(some 2), none, .mv (.t 4)⟩] none)
  .rt)),
  [.t 2]⟩
def c_timing_CheckModel_2 : FnIR := ⟨5,
  (.sq (.op 0 [⟨(some 2), none, .mv (.c (.bool false))⟩] none)
  (.sq (.op 0 [⟨(some 3), none, .mv (.t 0)⟩,
    ⟨(some 4), none, .callV true (.c (.fn n_timing_within [])) [(.t 3), (.c (.int .i64 1)), (.c (.int .i64 1000))]⟩,
    ⟨(some 2), none, .mv (.t 4)⟩] none)
  .rt)),
  [.t 2]⟩
def b_ratchetbase_IsName_L0 : IR :=
 (.sq (.sq (.op 0 [⟨(some 14), none, .mv (.t 3)⟩,
   ⟨(some 15), none, .mv (.t 0)⟩,
   ⟨(some 16), none, .len true (.t 15)⟩,
   ⟨(some 17), none, .bin .lss (.t 14) (.t 16)⟩] (some [0, 3, 17]))
 (.cd (.t 17)
  .sk
  (.ex 0)))
 (.sq (.bk 1 (.sq (.op 0 [⟨(some 20), none, .mv (.t 0)⟩,
    ⟨(some 21), none, .mv (.t 3)⟩,
    ⟨(some 22), none, .idx (.t 20) (.t 21)⟩,
    ⟨(some 4), none, .mv (.t 22)⟩] (some [0, 3, 4]))
  (.sq (.op 0 [⟨(some 23), none, .mv (.t 4)⟩,
    ⟨(some 24), none, .bin .geq (.t 23) (.c (.int .u8 97))⟩,
    ⟨(some 25), none, .mv (.t 24)⟩,
    ⟨(some 26), (some (25, true)), .mv (.t 4)⟩,
    ⟨(some 27), (some (25, true)), .bin .leq (.t 26) (.c (.int .u8 122))⟩,
    ⟨(some 28), none, .pick (.t 25) (.t 27) (.c (.bool false))⟩,
    ⟨(some 29), none, .mv (.t 28)⟩,
    ⟨(some 30), (some (29, false)), .mv (.t 4)⟩,
    ⟨(some 31), (some (29, false)), .bin .geq (.t 30) (.c (.int .u8 65))⟩,
    ⟨(some 32), (some (29, false)), .mv (.t 31)⟩,
    ⟨(some 33), (some (32, true)), .mv (.t 4)⟩,
    ⟨(some 34), (some (32, true)), .bin .leq (.t 33) (.c (.int .u8 90))⟩,
    ⟨(some 35), (some (29, false)), .pick (.t 32) (.t 34) (.c (.bool false))⟩,
    ⟨(some 36), none, .pick (.t 29) (.c (.bool true)) (.t 35)⟩,
    ⟨(some 5), none, .mv (.t 36)⟩] (some [0, 3, 4, 5]))
  (.sq (.op 0 [⟨(some 37), none, .mv (.t 5)⟩,
    ⟨(some 38), none, .un .not (.t 37)⟩,
    ⟨(some 39), none, .mv (.t 38)⟩,
    ⟨(some 40), (some (39, true)), .mv (.t 3)⟩,
    ⟨(some 41), (some (39, true)), .bin .eql (.t 40) (.c (.int .i64 0))⟩,
    ⟨(some 42), (some (39, true)), .mv (.t 41)⟩,
    ⟨(some 43), (some (42, false)), .mv (.t 4)⟩,
    ⟨(some 44), (some (42, false)), .bin .neq (.t 43) (.c (.int .u8 95))⟩,
    ⟨(some 45), (some (42, false)), .mv (.t 44)⟩,
    ⟨(some 46), (some (45, true)), .mv (.t 4)⟩,
    ⟨(some 47), (some (45, true)), .bin .lss (.t 46) (.c (.int .u8 48))⟩,
    ⟨(some 48), (some (45, true)), .mv (.t 47)⟩,
    ⟨(some 49), (some (48, false)), .mv (.t 4)⟩,
    ⟨(some 50), (some (48, false)), .bin .gtr (.t 49) (.c (.int .u8 57))⟩,
    ⟨(some 51), (some (45, true)), .pick (.t 48) (.c (.bool true)) (.t 50)⟩,
    ⟨(some 52), (some (42, false)), .pick (.t 45) (.t 51) (.c (.bool false))⟩,
    ⟨(some 53), (some (39, true)), .pick (.t 42) (.c (.bool true)) (.t 52)⟩,
    ⟨(some 54), none, .pick (.t 39) (.t 53) (.c (.bool false))⟩] (some [0, 3, 54]))
  (.cd (.t 54)
   (.sq (.op 0 [⟨(some 2), none, .mv (.c (.bool false))⟩] none)
   .rt)
   .sk)))))
 (.op 0 [⟨(some 18), none, .mv (.t 3)⟩,
   ⟨(some 19), none, .bin .add (.t 18) (.c (.int .i64 1))⟩,
   ⟨(some 3), none, .mv (.t 19)⟩] none)))
def c_ratchetbase_IsName_L0 : IR := b_ratchetbase_IsName_L0
theorem u_ratchetbase_IsName_L0 {C : Call} {L : Loop} {π : Id} {k0 : List Id} {e : Env} {s : Sto} : evC C L π k0 c_ratchetbase_IsName_L0 e s = evC C L π k0 b_ratchetbase_IsName_L0 e s := rfl
def c_ratchetbase_IsName : FnIR := ⟨55,
  (.sq (.op 0 [⟨(some 2), none, .mv (.c (.bool false))⟩] none)
  (.sq (.sq (.op 0 [⟨(some 6), none, .mv (.t 0)⟩,
    ⟨(some 7), none, .len true (.t 6)⟩,
    ⟨(some 8), none, .bin .lss (.t 7) (.c (.int .i64 1))⟩,
    ⟨(some 9), none, .mv (.t 8)⟩,
    ⟨(some 10), (some (9, false)), .mv (.t 0)⟩,
    ⟨(some 11), (some (9, false)), .len true (.t 10)⟩,
    ⟨(some 12), (some (9, false)), .bin .gtr (.t 11) (.c (.int .i64 16))⟩,
    ⟨(some 13), none, .pick (.t 9) (.c (.bool true)) (.t 12)⟩] (some [0, 13]))
  (.cd (.t 13)
   (.sq (.op 0 [⟨(some 2), none, .mv (.c (.bool false))⟩] none)
   .rt)
   .sk))
  (.sq (.sq (.op 0 [⟨(some 3), none, .mv (.c (.int .i64 0))⟩] none)
  (.kp [] [2] (.bk 0 (.lp [] [0, 3] c_ratchetbase_IsName_L0))))
  (.sq (.op 0 [⟨(some 2), none, .mv (.c (.bool true))⟩] none)
  .rt)))),
  [.t 2]⟩
def c_bits_Mul32 : FnIR := ⟨17,
  (.sq (.op 0 [⟨(some 4), none, .mv (.c (.int .u32 0))⟩,
    ⟨(some 5), none, .mv (.c (.int .u32 0))⟩] none)
  (.sq (.op 0 [⟨(some 7), none, .mv (.t 0)⟩,
    ⟨(some 8), none, .conv .u64 (.t 7)⟩,
    ⟨(some 9), none, .mv (.t 1)⟩,
    ⟨(some 10), none, .conv .u64 (.t 9)⟩,
    ⟨(some 11), none, .bin .mul (.t 8) (.t 10)⟩,
    ⟨(some 6), none, .mv (.t 11)⟩] (some [6]))
  (.sq (.op 0 [⟨(some 12), none, .mv (.t 6)⟩,
    ⟨(some 13), none, .bin .shr (.t 12) (.c (.int .u64 32))⟩,
    ⟨(some 14), none, .conv .u32 (.t 13)⟩,
    ⟨(some 15), none, .mv (.t 6)⟩,
    ⟨(some 16), none, .conv .u32 (.t 15)⟩,
    ⟨(some 4), none, .mv (.t 14)⟩,
    ⟨(some 5), none, .mv (.t 16)⟩] (some [4, 5]))
  .rt))),
  [.t 4, .t 5]⟩
def c_bits_Mul64 : FnIR := ⟨51,
  (.sq (.op 0 [⟨(some 4), none, .mv (.c (.int .u64 0))⟩,
    ⟨(some 5), none, .mv (.c (.int .u64 0))⟩] none)
  (.sq (.op 0 [⟨(some 14), none, .mv (.t 0)⟩,
    ⟨(some 15), none, .bin .and (.t 14) (.c (.int .u64 4294967295))⟩,
    ⟨(some 6), none, .mv (.t 15)⟩] none)
  (.sq (.op 0 [⟨(some 16), none, .mv (.t 0)⟩,
    ⟨(some 17), none, .bin .shr (.t 16) (.c (.int .u64 32))⟩,
    ⟨(some 7), none, .mv (.t 17)⟩] none)
  (.sq (.op 0 [⟨(some 18), none, .mv (.t 1)⟩,
    ⟨(some 19), none, .bin .and (.t 18) (.c (.int .u64 4294967295))⟩,
    ⟨(some 8), none, .mv (.t 19)⟩] none)
  (.sq (.op 0 [⟨(some 20), none, .mv (.t 1)⟩,
    ⟨(some 21), none, .bin .shr (.t 20) (.c (.int .u64 32))⟩,
    ⟨(some 9), none, .mv (.t 21)⟩] none)
  (.sq (.op 0 [⟨(some 22), none, .mv (.t 6)⟩,
    ⟨(some 23), none, .mv (.t 8)⟩,
    ⟨(some 24), none, .bin .mul (.t 22) (.t 23)⟩,
    ⟨(some 10), none, .mv (.t 24)⟩] (some [0, 1, 6, 7, 8, 9, 10]))
  (.sq (.op 0 [⟨(some 25), none, .mv (.t 7)⟩,
    ⟨(some 26), none, .mv (.t 8)⟩,
    ⟨(some 27), none, .bin .mul (.t 25) (.t 26)⟩,
    ⟨(some 28), none, .mv (.t 10)⟩,
    ⟨(some 29), none, .bin .shr (.t 28) (.c (.int .u64 32))⟩,
    ⟨(some 30), none, .bin .add (.t 27) (.t 29)⟩,
    ⟨(some 11), none, .mv (.t 30)⟩] (some [0, 1, 6, 7, 9, 11]))
  (.sq (.op 0 [⟨(some 31), none, .mv (.t 11)⟩,
    ⟨(some 32), none, .bin .and (.t 31) (.c (.int .u64 4294967295))⟩,
    ⟨(some 12), none, .mv (.t 32)⟩] none)
  (.sq (.op 0 [⟨(some 33), none, .mv (.t 11)⟩,
    ⟨(some 34), none, .bin .shr (.t 33) (.c (.int .u64 32))⟩,
    ⟨(some 13), none, .mv (.t 34)⟩] none)
  (.sq (.op 0 [⟨(some 35), none, .mv (.t 12)⟩,
    ⟨(some 36), none, .mv (.t 6)⟩,
    ⟨(some 37), none, .mv (.t 9)⟩,
    ⟨(some 38), none, .bin .mul (.t 36) (.t 37)⟩,
    ⟨(some 39), none, .bin .add (.t 35) (.t 38)⟩,
    ⟨(some 12), none, .mv (.t 39)⟩] (some [0, 1, 7, 9, 12, 13]))
  (.sq (.op 0 [⟨(some 40), none, .mv (.t 7)⟩,
    ⟨(some 41), none, .mv (.t 9)⟩,
    ⟨(some 42), none, .bin .mul (.t 40) (.t 41)⟩,
    ⟨(some 43), none, .mv (.t 13)⟩,
    ⟨(some 44), none, .bin .add (.t 42) (.t 43)⟩,
    ⟨(some 45), none, .mv (.t 12)⟩,
    ⟨(some 46), none, .bin .shr (.t 45) (.c (.int .u64 32))⟩,
    ⟨(some 47), none, .bin .add (.t 44) (.t 46)⟩,
    ⟨(some 4), none, .mv (.t 47)⟩] (some [0, 1, 4]))
  (.sq (.op 0 [⟨(some 48), none, .mv (.t 0)⟩,
    ⟨(some 49), none, .mv (.t 1)⟩,
    ⟨(some 50), none, .bin .mul (.t 48) (.t 49)⟩,
    ⟨(some 5), none, .mv (.t 50)⟩] (some [4, 5]))
  .rt)))))))))))),
  [.t 4, .t 5]⟩
def c_mapping_cellErr_1 : FnIR := ⟨5,
  (.sq (.op 0 [⟨(some 2), none, .mv (.c (.bool false))⟩] none)
  (.sq (.op 0 [⟨(some 3), none, .mv (.t 0)⟩,
    ⟨(some 4), none, .callV true (.c (.fn n_mapping_within [])) [(.t 3), (.c (.int .i64 1)), (.c (.int .i64 1000))]⟩,
    ⟨(some 2), none, .mv (.t 4)⟩] none)
  .rt)),
  [.t 2]⟩
def c_slices_ContainsFunc_api_MapCell_api_MapCell : FnIR := ⟨9,
  (.sq (.op 0 [⟨(some 4), none, .mv (.c (.bool false))⟩] none)
  (.sq (.op 0 [⟨(some 5), none, .mv (.t 0)⟩,
    ⟨(some 6), none, .mv (.t 1)⟩,
    ⟨(some 7), none, .callV true (.c (.fn n_slices_IndexFunc_api_MapCell_api_MapCell [])) [(.t 5), (.t 6)]⟩,
    ⟨(some 8), none, .bin .geq (.t 7) (.c (.int .i64 0))⟩,
    ⟨(some 4), none, .mv (.t 8)⟩] (some [4]))
  .rt)),
  [.t 4]⟩
def c_mapping_cellErr_2 : FnIR := ⟨9,
  (.sq (.op 0 [⟨(some 2), none, .box (.t 0) 5⟩,
    ⟨(some 3), none, .mv (.c (.bool false))⟩] none)
  (.sq (.op 0 [⟨(some 4), none, .fa (.t 2) 0⟩,
    ⟨(some 5), none, .ld (.t 4) 1 false⟩,
    ⟨(some 6), none, .fa (.t 1) 0⟩,
    ⟨(some 7), none, .ld (.t 6) 1 false⟩,
    ⟨(some 8), none, .bin .eql (.t 5) (.t 7)⟩,
    ⟨(some 3), none, .mv (.t 8)⟩] (some [3]))
  .rt)),
  [.t 3]⟩
def b_mapping_isName_L0 : IR :=
 (.sq (.op 0 [⟨(some 10), none, .bin .lss (.t 9) (.t 8)⟩] none)
 (.sq (.cd (.t 10)
  .sk
  (.ex 0))
 (.sq (.bk 1 (.sq (.op 0 [⟨(some 11), none, .mv (.t 9)⟩,
    ⟨(some 12), none, .ia (.t 7) (.t 9) 1⟩,
    ⟨(some 13), none, .ld (.t 12) 1 false⟩,
    ⟨(some 3), none, .mv (.t 11)⟩,
    ⟨(some 4), none, .mv (.t 13)⟩] (some [0, 3, 4, 7, 8, 9]))
  (.sq (.op 0 [⟨(some 14), none, .mv (.t 4)⟩,
    ⟨(some 15), none, .bin .leq (.c (.int .u8 97)) (.t 14)⟩,
    ⟨(some 16), none, .mv (.t 15)⟩,
    ⟨(some 17), (some (16, true)), .mv (.t 4)⟩,
    ⟨(some 18), (some (16, true)), .bin .leq (.t 17) (.c (.int .u8 122))⟩,
    ⟨(some 19), none, .pick (.t 16) (.t 18) (.c (.bool false))⟩,
    ⟨(some 20), none, .mv (.t 19)⟩,
    ⟨(some 21), (some (20, false)), .mv (.t 4)⟩,
    ⟨(some 22), (some (20, false)), .bin .leq (.c (.int .u8 65)) (.t 21)⟩,
    ⟨(some 23), (some (20, false)), .mv (.t 22)⟩,
    ⟨(some 24), (some (23, true)), .mv (.t 4)⟩,
    ⟨(some 25), (some (23, true)), .bin .leq (.t 24) (.c (.int .u8 90))⟩,
    ⟨(some 26), (some (20, false)), .pick (.t 23) (.t 25) (.c (.bool false))⟩,
    ⟨(some 27), none, .pick (.t 20) (.c (.bool true)) (.t 26)⟩,
    ⟨(some 5), none, .mv (.t 27)⟩] (some [0, 3, 4, 5, 7, 8, 9]))
  (.sq (.op 0 [⟨(some 28), none, .mv (.t 5)⟩,
    ⟨(some 29), none, .un .not (.t 28)⟩,
    ⟨(some 30), none, .mv (.t 29)⟩,
    ⟨(some 31), (some (30, true)), .mv (.t 3)⟩,
    ⟨(some 32), (some (30, true)), .bin .eql (.t 31) (.c (.int .i64 0))⟩,
    ⟨(some 33), (some (30, true)), .mv (.t 32)⟩,
    ⟨(some 34), (some (33, false)), .mv (.t 4)⟩,
    ⟨(some 35), (some (33, false)), .bin .neq (.t 34) (.c (.int .u8 95))⟩,
    ⟨(some 36), (some (33, false)), .mv (.t 35)⟩,
    ⟨(some 37), (some (36, true)), .mv (.t 4)⟩,
    ⟨(some 38), (some (36, true)), .bin .lss (.t 37) (.c (.int .u8 48))⟩,
    ⟨(some 39), (some (36, true)), .mv (.t 38)⟩,
    ⟨(some 40), (some (39, false)), .mv (.t 4)⟩,
    ⟨(some 41), (some (39, false)), .bin .gtr (.t 40) (.c (.int .u8 57))⟩,
    ⟨(some 42), (some (36, true)), .pick (.t 39) (.c (.bool true)) (.t 41)⟩,
    ⟨(some 43), (some (33, false)), .pick (.t 36) (.t 42) (.c (.bool false))⟩,
    ⟨(some 44), (some (30, true)), .pick (.t 33) (.c (.bool true)) (.t 43)⟩,
    ⟨(some 45), none, .pick (.t 30) (.t 44) (.c (.bool false))⟩] (some [0, 7, 8, 9, 45]))
  (.cd (.t 45)
   (.sq (.op 0 [⟨(some 2), none, .mv (.c (.bool false))⟩] none)
   .rt)
   .sk)))))
 (.op 0 [⟨(some 46), none, .bin .add (.t 9) (.c (.int .i64 1))⟩,
   ⟨(some 9), none, .mv (.t 46)⟩] none))))
def c_mapping_isName_L0 : IR := b_mapping_isName_L0
theorem u_mapping_isName_L0 {C : Call} {L : Loop} {π : Id} {k0 : List Id} {e : Env} {s : Sto} : evC C L π k0 c_mapping_isName_L0 e s = evC C L π k0 b_mapping_isName_L0 e s := rfl
def c_mapping_isName : FnIR := ⟨50,
  (.sq (.op 0 [⟨(some 2), none, .mv (.c (.bool false))⟩] none)
  (.sq (.sq (.op 0 [⟨(some 6), none, .mv (.t 0)⟩,
    ⟨(some 7), none, .s2b (.t 6)⟩,
    ⟨(some 8), none, .len false (.t 7)⟩,
    ⟨(some 9), none, .mv (.c (.int .i64 0))⟩] (some [0, 7, 8, 9]))
  (.kp [0] [2] (.bk 0 (.lp [] [0, 7, 8, 9] c_mapping_isName_L0))))
  (.sq (.op 0 [⟨(some 47), none, .mv (.t 0)⟩,
    ⟨(some 48), none, .len true (.t 47)⟩,
    ⟨(some 49), none, .callV true (.c (.fn n_mapping_within [])) [(.t 48), (.c (.int .i64 1)), (.c (.int .i64 16))]⟩,
    ⟨(some 2), none, .mv (.t 49)⟩] (some [2]))
  .rt))),
  [.t 2]⟩
def b_slices_IndexFunc_api_MapCell_api_MapCell_L0 : IR :=
 (.sq (.op 0 [⟨(some 9), none, .bin .lss (.t 8) (.t 7)⟩] none)
 (.sq (.cd (.t 9)
  .sk
  (.ex 0))
 (.sq (.bk 1 (.sq (.op 0 [⟨(some 10), none, .mv (.t 8)⟩,
    ⟨(some 5), none, .mv (.t 10)⟩] none)
  (.sq (.op 0 [⟨(some 11), none, .mv (.t 1)⟩,
    ⟨(some 12), none, .mv (.t 0)⟩,
    ⟨(some 13), none, .mv (.t 5)⟩,
    ⟨(some 14), none, .ia (.t 12) (.t 13) 5⟩,
    ⟨(some 15), none, .ld (.t 14) 5 true⟩,
    ⟨(some 16), none, .callV true (.t 11) [(.t 15)]⟩] (some [0, 1, 5, 7, 8, 16]))
  (.cd (.t 16)
   (.sq (.op 0 [⟨(some 17), none, .mv (.t 5)⟩,
     ⟨(some 4), none, .mv (.t 17)⟩] none)
   .rt)
   .sk))))
 (.op 0 [⟨(some 18), none, .bin .add (.t 8) (.c (.int .i64 1))⟩,
   ⟨(some 8), none, .mv (.t 18)⟩] none))))
def c_slices_IndexFunc_api_MapCell_api_MapCell_L0 : IR := b_slices_IndexFunc_api_MapCell_api_MapCell_L0
theorem u_slices_IndexFunc_api_MapCell_api_MapCell_L0 {C : Call} {L : Loop} {π : Id} {k0 : List Id} {e : Env} {s : Sto} : evC C L π k0 c_slices_IndexFunc_api_MapCell_api_MapCell_L0 e s = evC C L π k0 b_slices_IndexFunc_api_MapCell_api_MapCell_L0 e s := rfl
def c_slices_IndexFunc_api_MapCell_api_MapCell : FnIR := ⟨19,
  (.sq (.op 0 [⟨(some 4), none, .mv (.c (.int .i64 0))⟩] none)
  (.sq (.sq (.op 0 [⟨(some 6), none, .mv (.t 0)⟩,
    ⟨(some 7), none, .len false (.t 6)⟩,
    ⟨(some 8), none, .mv (.c (.int .i64 0))⟩] none)
  (.kp [] [4] (.bk 0 (.lp [] [0, 1, 7, 8] c_slices_IndexFunc_api_MapCell_api_MapCell_L0))))
  (.sq (.op 0 [⟨(some 4), none, .mv (.c (.int .i64 (-1)))⟩] none)
  .rt))),
  [.t 4]⟩

end Go.Proofs.YtafomlbikcphgabGreat.V
