/- The functions of the program in the small language. Printed by a program of this work. -/
import Derived.Test.YtglelclmlkeheabGreatDoorK5
import Derived.Test.YtglelclmlkeheabGreatDoorT0

set_option linter.unusedSimpArgs false
set_option linter.unusedVariables false

/- The functions of the program in the small language. Printed by a program of this work. -/
namespace Go.Proofs.YtglelclmlkeheabGreatDoor.V
open Go (IntKind BinOp UnOp)

def c_ratchetbase_ArgCount : FnIR := ⟨14,
  (.sq (.op 0 [⟨(some 2), none, .mv (.c (.int .i64 0))⟩] none)
  (.sq (.sq (.op 0 [⟨(some 3), none, .mv (.t 0)⟩] none)
  (.bk 0 (.sq (.sq (.op 0 [⟨(some 5), none, .bin .eql (.t 3) (.c (.int .i64 0))⟩,
     ⟨(some 4), none, .mv (.t 5)⟩] none)
   (.cd (.t 4)
    .sk
    (.op 0 [⟨(some 6), none, .bin .eql (.t 3) (.c (.int .i64 1))⟩,
      ⟨(some 4), none, .mv (.t 6)⟩] none)))
   (.cd (.t 4)
    (.sq (.op 0 [⟨(some 2), none, .mv (.c (.int .i64 0))⟩] none)
    .rt)
    (.sq (.sq (.op 0 [⟨(some 8), none, .bin .eql (.t 3) (.c (.int .i64 2))⟩,
      ⟨(some 7), none, .mv (.t 8)⟩] none)
    (.cd (.t 7)
     .sk
     (.sq (.op 0 [⟨(some 9), none, .bin .eql (.t 3) (.c (.int .i64 14))⟩,
       ⟨(some 7), none, .mv (.t 9)⟩] none)
     (.cd (.t 7)
      .sk
      (.sq (.op 0 [⟨(some 10), none, .bin .eql (.t 3) (.c (.int .i64 15))⟩,
        ⟨(some 7), none, .mv (.t 10)⟩] none)
      (.cd (.t 7)
       .sk
       (.op 0 [⟨(some 11), none, .bin .eql (.t 3) (.c (.int .i64 16))⟩,
         ⟨(some 7), none, .mv (.t 11)⟩] none)))))))
    (.cd (.t 7)
     (.sq (.op 0 [⟨(some 2), none, .mv (.c (.int .i64 1))⟩] none)
     .rt)
     (.sq (.op 0 [⟨(some 13), none, .bin .eql (.t 3) (.c (.int .i64 12))⟩,
       ⟨(some 12), none, .mv (.t 13)⟩] none)
     (.cd (.t 12)
      (.sq (.op 0 [⟨(some 2), none, .mv (.c (.int .i64 3))⟩] none)
      .rt)
      .sk))))))))
  (.sq (.op 0 [⟨(some 2), none, .mv (.c (.int .i64 2))⟩] none)
  .rt))),
  [.t 2]⟩
def b_graph_runs_1_L1 : IR :=
 (.sq (.sq (.op 18 [⟨(some 20), none, .mv (.t 6)⟩,
   ⟨(some 21), none, .bin .geq (.t 20) (.c (.int .i64 0))⟩,
   ⟨(some 22), none, .mv (.t 21)⟩,
   ⟨(some 23), (some (22, true)), .mv (.t 5)⟩,
   ⟨(some 24), (some (22, true)), .ld (.t 3) 1 false⟩,
   ⟨(some 25), (some (22, true)), .mv (.t 6)⟩,
   ⟨(some 26), (some (22, true)), .ia (.t 24) (.t 25) 1⟩,
   ⟨(some 27), (some (22, true)), .ld (.t 26) 1 false⟩,
   ⟨(some 28), (some (22, true)), .ia (.t 23) (.t 27) 1⟩,
   ⟨(some 29), (some (22, true)), .ld (.t 28) 1 false⟩,
   ⟨(some 30), (some (22, true)), .bin .add (.t 29) (.c (.int .i64 1))⟩,
   ⟨(some 31), (some (22, true)), .ld (.t 1) 1 false⟩,
   ⟨(some 32), (some (22, true)), .ld (.t 3) 1 false⟩,
   ⟨(some 33), (some (22, true)), .mv (.t 6)⟩,
   ⟨(some 34), (some (22, true)), .ia (.t 32) (.t 33) 1⟩,
   ⟨(some 35), (some (22, true)), .ld (.t 34) 1 false⟩,
   ⟨(some 36), (some (22, true)), .ia (.t 31) (.t 35) 1⟩,
   ⟨(some 37), (some (22, true)), .ld (.t 36) 1 false⟩,
   ⟨(some 38), (some (22, true)), .callV true (.c (.fn n_graph_fits [])) [(.t 30), (.t 37)]⟩,
   ⟨(some 39), (some (22, true)), .un .not (.t 38)⟩,
   ⟨(some 40), none, .pick (.t 22) (.t 39) (.c (.bool false))⟩] (some [0, 1, 2, 3, 5, 6, 40]))
 (.cd (.t 40)
  .sk
  (.ex 2)))
 (.bk 3 (.sq (.op 0 [⟨(some 41), none, .mv (.t 5)⟩,
    ⟨(some 42), none, .ld (.t 3) 1 false⟩,
    ⟨(some 43), none, .mv (.t 6)⟩,
    ⟨(some 44), none, .ia (.t 42) (.t 43) 1⟩,
    ⟨(some 45), none, .ld (.t 44) 1 false⟩,
    ⟨(some 46), none, .ia (.t 41) (.t 45) 1⟩,
    ⟨none, none, .st (.t 46) (.c (.int .i64 0)) 1⟩] (some [0, 1, 2, 3, 5, 6]))
  (.op 0 [⟨(some 47), none, .mv (.t 6)⟩,
    ⟨(some 48), none, .bin .sub (.t 47) (.c (.int .i64 1))⟩,
    ⟨(some 6), none, .mv (.t 48)⟩] none))))
def c_graph_runs_1_L1 : IR := b_graph_runs_1_L1
theorem u_graph_runs_1_L1 {C : Call} {L : Loop} {π : Id} {k0 : List Id} {e : Env} {s : Sto} : evC C L π k0 c_graph_runs_1_L1 e s = evC C L π k0 b_graph_runs_1_L1 e s := rfl
def b_graph_runs_1_L0 : IR :=
 (.bk 1 (.sq (.sq (.op 0 [⟨(some 10), none, .mv (.t 0)⟩,
    ⟨(some 11), none, .mv (.t 5)⟩,
    ⟨(some 12), none, .ld (.t 2) 1 false⟩,
    ⟨(some 13), none, .mv (.t 5)⟩,
    ⟨(some 14), none, .callB (.c (.fn n_graph_valued [])) [(.t 12), (.t 13)]⟩,
    ⟨(some 15), none, .callB (.t 10) [(.t 11), (.t 14)]⟩,
    ⟨(some 16), none, .un .not (.t 15)⟩] (some [0, 1, 2, 3, 5, 16]))
  (.cd (.t 16)
   .rt
   .sk))
  (.sq (.op 0 [⟨(some 17), none, .ld (.t 3) 1 false⟩,
    ⟨(some 18), none, .len false (.t 17)⟩,
    ⟨(some 19), none, .bin .sub (.t 18) (.c (.int .i64 1))⟩,
    ⟨(some 6), none, .mv (.t 19)⟩] (some [0, 1, 2, 3, 5, 6]))
  (.sq (.kp [0, 1, 2, 3, 5, 6] [] (.bk 2 (.lp [] [0, 1, 2, 3, 5, 6] c_graph_runs_1_L1)))
  (.sq (.sq (.op 0 [⟨(some 49), none, .mv (.t 6)⟩,
    ⟨(some 50), none, .bin .lss (.t 49) (.c (.int .i64 0))⟩] none)
  (.cd (.t 50)
   .rt
   .sk))
  (.op 0 [⟨(some 51), none, .mv (.t 5)⟩,
    ⟨(some 52), none, .ld (.t 3) 1 false⟩,
    ⟨(some 53), none, .mv (.t 6)⟩,
    ⟨(some 54), none, .ia (.t 52) (.t 53) 1⟩,
    ⟨(some 55), none, .ld (.t 54) 1 false⟩,
    ⟨(some 56), none, .ia (.t 51) (.t 55) 1⟩,
    ⟨(some 57), none, .ld (.t 56) 1 false⟩,
    ⟨(some 58), none, .bin .add (.t 57) (.c (.int .i64 1))⟩,
    ⟨(some 59), none, .ia (.t 51) (.t 55) 1⟩,
    ⟨none, none, .st (.t 59) (.t 58) 1⟩] (some [0, 1, 2, 3, 5])))))))
def c_graph_runs_1_L0 : IR := b_graph_runs_1_L0
theorem u_graph_runs_1_L0 {C : Call} {L : Loop} {π : Id} {k0 : List Id} {e : Env} {s : Sto} : evC C L π k0 c_graph_runs_1_L0 e s = evC C L π k0 b_graph_runs_1_L0 e s := rfl
def c_graph_runs_1 : FnIR := ⟨60,
  (.sq (.op 0 [⟨(some 7), none, .ld (.t 1) 1 false⟩,
    ⟨(some 8), none, .len false (.t 7)⟩,
    ⟨(some 9), none, .mks t_int 1 false [.int .i64 0] (.t 8) (.t 8)⟩,
    ⟨(some 5), none, .mv (.t 9)⟩] (some [0, 1, 2, 3, 5]))
  (.kp [] [] (.bk 0 (.lp [] [0, 1, 2, 3, 5] c_graph_runs_1_L0)))),
  []⟩
def b_ratchetbase_nodeErr_L0 : IR :=
 (.sq (.sq (.op 0 [⟨(some 28), none, .mv (.t 8)⟩,
   ⟨(some 29), none, .fa (.t 7) 2⟩,
   ⟨(some 30), none, .ld (.t 29) 1 false⟩,
   ⟨(some 31), none, .len false (.t 30)⟩,
   ⟨(some 32), none, .bin .lss (.t 28) (.t 31)⟩] (some [0, 1, 2, 7, 8, 32]))
 (.cd (.t 32)
  .sk
  (.ex 0)))
 (.sq (.bk 1 (.sq (.op 0 [⟨(some 35), none, .fa (.t 7) 2⟩,
    ⟨(some 36), none, .ld (.t 35) 1 false⟩,
    ⟨(some 37), none, .mv (.t 8)⟩,
    ⟨(some 38), none, .ia (.t 36) (.t 37) 1⟩,
    ⟨(some 39), none, .ld (.t 38) 1 false⟩,
    ⟨(some 40), none, .mv (.t 2)⟩,
    ⟨(some 41), none, .bin .sub (.t 40) (.c (.int .i64 1))⟩,
    ⟨(some 42), none, .callV true (.c (.fn n_ratchetbase_Within [])) [(.t 39), (.c (.int .i64 0)), (.t 41)]⟩,
    ⟨(some 43), none, .un .not (.t 42)⟩] (some [0, 1, 2, 7, 8, 43]))
  (.cd (.t 43)
   (.sq (.op 0 [⟨(some 6), none, .mv (.c (.int .i64 9))⟩] none)
   .rt)
   .sk)))
 (.op 0 [⟨(some 33), none, .mv (.t 8)⟩,
   ⟨(some 34), none, .bin .add (.t 33) (.c (.int .i64 1))⟩,
   ⟨(some 8), none, .mv (.t 34)⟩] none)))
def c_ratchetbase_nodeErr_L0 : IR := b_ratchetbase_nodeErr_L0
theorem u_ratchetbase_nodeErr_L0 {C : Call} {L : Loop} {π : Id} {k0 : List Id} {e : Env} {s : Sto} : evC C L π k0 c_ratchetbase_nodeErr_L0 e s = evC C L π k0 b_ratchetbase_nodeErr_L0 e s := rfl
def c_ratchetbase_nodeErr : FnIR := ⟨84,
  (.sq (.op 0 [⟨(some 6), none, .mv (.c (.int .i64 0))⟩] none)
  (.sq (.op 0 [⟨(some 9), none, .mv (.t 1)⟩,
    ⟨(some 10), none, .mv (.t 2)⟩,
    ⟨(some 11), none, .ia (.t 9) (.t 10) 4⟩,
    ⟨(some 12), none, .ld (.t 11) 4 true⟩,
    ⟨(some 7), none, .alloc [.int .i64 0, .int .i64 0, .sl 1 (some true) [], .int .i64 0]⟩,
    ⟨none, none, .st (.t 7) (.t 12) 4⟩] (some [0, 1, 2, 7]))
  (.sq (.sq (.op 0 [⟨(some 13), none, .fa (.t 7) 0⟩,
    ⟨(some 14), none, .ld (.t 13) 1 false⟩,
    ⟨(some 15), none, .callV true (.c (.fn n_ratchetbase_Within [])) [(.t 14), (.c (.int .i64 0)), (.c (.int .i64 18))]⟩,
    ⟨(some 16), none, .un .not (.t 15)⟩] (some [0, 1, 2, 7, 16]))
  (.cd (.t 16)
   (.sq (.op 0 [⟨(some 6), none, .mv (.c (.int .i64 15))⟩] none)
   .rt)
   .sk))
  (.sq (.sq (.op 0 [⟨(some 17), none, .fa (.t 7) 1⟩,
    ⟨(some 18), none, .ld (.t 17) 1 false⟩,
    ⟨(some 19), none, .callV true (.c (.fn n_ratchetbase_IsWidth [])) [(.t 18)]⟩,
    ⟨(some 20), none, .un .not (.t 19)⟩] (some [0, 1, 2, 7, 20]))
  (.cd (.t 20)
   (.sq (.op 0 [⟨(some 6), none, .mv (.c (.int .i64 2))⟩] none)
   .rt)
   .sk))
  (.sq (.sq (.op 6 [⟨(some 21), none, .fa (.t 7) 2⟩,
    ⟨(some 22), none, .ld (.t 21) 1 false⟩,
    ⟨(some 23), none, .len false (.t 22)⟩,
    ⟨(some 24), none, .fa (.t 7) 0⟩,
    ⟨(some 25), none, .ld (.t 24) 1 false⟩,
    ⟨(some 26), none, .callV true (.c (.fn n_ratchetbase_ArgCount [])) [(.t 25)]⟩,
    ⟨(some 27), none, .bin .neq (.t 23) (.t 26)⟩] (some [0, 1, 2, 7, 27]))
  (.cd (.t 27)
   (.sq (.op 0 [⟨(some 6), none, .mv (.c (.int .i64 10))⟩] none)
   .rt)
   .sk))
  (.sq (.sq (.op 0 [⟨(some 8), none, .mv (.c (.int .i64 0))⟩] none)
  (.kp [0, 1, 7] [6] (.bk 0 (.lp [] [0, 1, 2, 7, 8] c_ratchetbase_nodeErr_L0))))
  (.sq (.sq (.op 0 [⟨(some 44), none, .fa (.t 7) 0⟩,
    ⟨(some 45), none, .ld (.t 44) 1 false⟩] none)
  (.bk 2 (.sq (.op 0 [⟨(some 50), none, .bin .eql (.t 45) (.c (.int .i64 0))⟩,
     ⟨(some 49), none, .mv (.t 50)⟩] none)
   (.cd (.t 49)
    (.sq (.sq (.op 0 [⟨(some 51), none, .fa (.t 7) 3⟩,
      ⟨(some 52), none, .ld (.t 51) 1 false⟩,
      ⟨(some 53), none, .fa (.t 7) 1⟩,
      ⟨(some 54), none, .ld (.t 53) 1 false⟩,
      ⟨(some 55), none, .callV true (.c (.fn n_ratchetbase_Fits [])) [(.t 52), (.t 54)]⟩,
      ⟨(some 56), none, .un .not (.t 55)⟩] (some [56]))
    (.cd (.t 56)
     (.sq (.op 0 [⟨(some 6), none, .mv (.c (.int .i64 2))⟩] none)
     .rt)
     .sk))
    (.sq (.op 0 [⟨(some 6), none, .mv (.c (.int .i64 0))⟩] none)
    .rt))
    (.sq (.op 0 [⟨(some 58), none, .bin .eql (.t 45) (.c (.int .i64 1))⟩,
      ⟨(some 57), none, .mv (.t 58)⟩] none)
    (.cd (.t 57)
     (.sq (.sq (.op 0 [⟨(some 59), none, .fa (.t 7) 3⟩,
       ⟨(some 60), none, .ld (.t 59) 1 false⟩,
       ⟨(some 61), none, .mv (.t 0)⟩,
       ⟨(some 62), none, .len false (.t 61)⟩,
       ⟨(some 63), none, .bin .sub (.t 62) (.c (.int .i64 1))⟩,
       ⟨(some 64), none, .callV true (.c (.fn n_ratchetbase_Within [])) [(.t 60), (.c (.int .i64 0)), (.t 63)]⟩,
       ⟨(some 65), none, .un .not (.t 64)⟩] (some [0, 7, 65]))
     (.cd (.t 65)
      (.sq (.op 0 [⟨(some 6), none, .mv (.c (.int .i64 6))⟩] none)
      .rt)
      .sk))
     (.sq (.sq (.op 7 [⟨(some 66), none, .mv (.t 0)⟩,
       ⟨(some 67), none, .fa (.t 7) 3⟩,
       ⟨(some 68), none, .ld (.t 67) 1 false⟩,
       ⟨(some 69), none, .ia (.t 66) (.t 68) 1⟩,
       ⟨(some 70), none, .ld (.t 69) 1 false⟩,
       ⟨(some 71), none, .fa (.t 7) 1⟩,
       ⟨(some 72), none, .ld (.t 71) 1 false⟩,
       ⟨(some 73), none, .bin .neq (.t 70) (.t 72)⟩] (some [73]))
     (.cd (.t 73)
      (.sq (.op 0 [⟨(some 6), none, .mv (.c (.int .i64 25))⟩] none)
      .rt)
      .sk))
     (.sq (.op 0 [⟨(some 6), none, .mv (.c (.int .i64 0))⟩] none)
     .rt)))
     (.sq (.op 0 [⟨(some 75), none, .bin .eql (.t 45) (.c (.int .i64 14))⟩,
       ⟨(some 74), none, .mv (.t 75)⟩] none)
     (.cd (.t 74)
      (.sq (.op 0 [⟨(some 76), none, .fa (.t 7) 3⟩,
        ⟨(some 77), none, .ld (.t 76) 1 false⟩,
        ⟨(some 78), none, .callV true (.c (.fn n_ratchetbase_Within [])) [(.t 77), (.c (.int .i64 0)), (.c (.int .i64 15))]⟩,
        ⟨(some 79), none, .un .not (.t 78)⟩] (some [1, 7, 79]))
      (.cd (.t 79)
       (.sq (.op 0 [⟨(some 6), none, .mv (.c (.int .i64 2))⟩] none)
       .rt)
       .sk))
      (.sq (.op 0 [⟨(some 46), none, .fa (.t 7) 3⟩,
        ⟨(some 47), none, .ld (.t 46) 1 false⟩,
        ⟨(some 48), none, .bin .neq (.t 47) (.c (.int .i64 0))⟩] none)
      (.cd (.t 48)
       (.sq (.op 0 [⟨(some 6), none, .mv (.c (.int .i64 3))⟩] none)
       .rt)
       .sk))))))))))
  (.sq (.sq (.op 0 [⟨(some 80), none, .mv (.t 1)⟩,
    ⟨(some 81), none, .ld (.t 7) 4 true⟩,
    ⟨(some 82), none, .callV true (.c (.fn n_ratchetbase_widthsFit [])) [(.t 80), (.t 81)]⟩,
    ⟨(some 83), none, .un .not (.t 82)⟩] (some [83]))
  (.cd (.t 83)
   (.sq (.op 0 [⟨(some 6), none, .mv (.c (.int .i64 25))⟩] none)
   .rt)
   .sk))
  (.sq (.op 0 [⟨(some 6), none, .mv (.c (.int .i64 0))⟩] none)
  .rt))))))))),
  [.t 6]⟩
def c_ratchetbase_Power : FnIR := ⟨5,
  (.sq (.op 0 [⟨(some 2), none, .mv (.c (.int .i64 0))⟩] none)
  (.sq (.op 0 [⟨(some 3), none, .mv (.t 0)⟩,
    ⟨(some 4), none, .bin .shl (.c (.int .i64 1)) (.t 3)⟩,
    ⟨(some 2), none, .mv (.t 4)⟩] none)
  .rt)),
  [.t 2]⟩
def c_graph_CheckNodes_1 : FnIR := ⟨8,
  (.sq (.op 0 [⟨(some 4), none, .mv (.c (.int .i64 0))⟩] none)
  (.sq (.op 0 [⟨(some 5), none, .mv (.t 1)⟩,
    ⟨(some 6), none, .callV true (.c (.fn n_graph_isWidth [])) [(.t 5)]⟩,
    ⟨(some 7), none, .callV true (.c (.fn n_graph_unless [])) [(.t 6), (.c (.int .i64 2))]⟩,
    ⟨(some 4), none, .mv (.t 7)⟩] (some [4]))
  .rt)),
  [.t 4]⟩
def c_graph_isWidth : FnIR := ⟨5,
  (.sq (.op 0 [⟨(some 2), none, .mv (.c (.bool false))⟩] none)
  (.sq (.op 0 [⟨(some 3), none, .mv (.t 0)⟩,
    ⟨(some 4), none, .callV true (.c (.fn n_graph_within [])) [(.t 3), (.c (.int .i64 1)), (.c (.int .i64 16))]⟩,
    ⟨(some 2), none, .mv (.t 4)⟩] none)
  .rt)),
  [.t 2]⟩
def b_graph_each_api_Node_L0 : IR :=
 (.sq (.op 0 [⟨(some 12), none, .bin .lss (.t 11) (.t 10)⟩] none)
 (.sq (.cd (.t 12)
  .sk
  (.ex 0))
 (.sq (.bk 1 (.sq (.op 0 [⟨(some 13), none, .mv (.t 11)⟩,
    ⟨(some 14), none, .ia (.t 9) (.t 11) 4⟩,
    ⟨(some 15), none, .ld (.t 14) 4 true⟩,
    ⟨(some 7), none, .alloc [.int .i64 0, .int .i64 0, .sl 1 (some true) [], .int .i64 0]⟩,
    ⟨(some 6), none, .mv (.t 13)⟩,
    ⟨none, none, .st (.t 7) (.t 15) 4⟩] (some [1, 6, 7, 9, 10, 11]))
  (.sq (.op 0 [⟨(some 16), none, .mv (.t 1)⟩,
    ⟨(some 17), none, .mv (.t 6)⟩,
    ⟨(some 18), none, .ld (.t 7) 4 true⟩,
    ⟨(some 19), none, .callV true (.t 16) [(.t 17), (.t 18)]⟩,
    ⟨(some 8), none, .mv (.t 19)⟩] (some [1, 6, 8, 9, 10, 11]))
  (.sq (.op 0 [⟨(some 20), none, .mv (.t 8)⟩,
    ⟨(some 21), none, .bin .neq (.t 20) (.c (.int .i64 0))⟩] none)
  (.cd (.t 21)
   (.sq (.op 0 [⟨(some 22), none, .mv (.t 6)⟩,
     ⟨(some 23), none, .mv (.t 8)⟩,
     ⟨(some 4), none, .mv (.t 22)⟩,
     ⟨(some 5), none, .mv (.t 23)⟩] (some [4, 5]))
   .rt)
   .sk)))))
 (.op 0 [⟨(some 24), none, .bin .add (.t 11) (.c (.int .i64 1))⟩,
   ⟨(some 11), none, .mv (.t 24)⟩] none))))
def c_graph_each_api_Node_L0 : IR := b_graph_each_api_Node_L0
theorem u_graph_each_api_Node_L0 {C : Call} {L : Loop} {π : Id} {k0 : List Id} {e : Env} {s : Sto} : evC C L π k0 c_graph_each_api_Node_L0 e s = evC C L π k0 b_graph_each_api_Node_L0 e s := rfl
def c_graph_each_api_Node : FnIR := ⟨25,
  (.sq (.op 0 [⟨(some 4), none, .mv (.c (.int .i64 0))⟩,
    ⟨(some 5), none, .mv (.c (.int .i64 0))⟩] none)
  (.sq (.sq (.op 0 [⟨(some 9), none, .mv (.t 0)⟩,
    ⟨(some 10), none, .len false (.t 9)⟩,
    ⟨(some 11), none, .mv (.c (.int .i64 0))⟩] none)
  (.kp [] [4, 5] (.bk 0 (.lp [] [1, 9, 10, 11] c_graph_each_api_Node_L0))))
  (.sq (.op 0 [⟨(some 4), none, .mv (.c (.int .i64 0))⟩,
    ⟨(some 5), none, .mv (.c (.int .i64 0))⟩] none)
  .rt))),
  [.t 4, .t 5]⟩
def b_graph_CheckNodes_2_L0 : IR :=
 (.sq (.op 0 [⟨(some 59), none, .bin .lss (.t 58) (.t 57)⟩] none)
 (.sq (.cd (.t 59)
  .sk
  (.ex 0))
 (.sq (.bk 1 (.sq (.op 0 [⟨(some 60), none, .ia (.t 56) (.t 58) 1⟩,
    ⟨(some 61), none, .ld (.t 60) 1 false⟩,
    ⟨(some 14), none, .mv (.t 61)⟩] none)
  (.op 0 [⟨(some 62), none, .mv (.t 12)⟩,
    ⟨(some 63), none, .ld (.t 4) 1 false⟩,
    ⟨(some 64), none, .mv (.t 14)⟩,
    ⟨(some 65), none, .ia (.t 63) (.t 64) 4⟩,
    ⟨(some 66), none, .fa (.t 65) 1⟩,
    ⟨(some 67), none, .ld (.t 66) 1 false⟩,
    ⟨(some 68), none, .bsl t_int 1 false [.int .i64 0] 1 [(0, (.t 67))]⟩,
    ⟨(some 69), none, .app (.t 62) (.t 68) t_int 1⟩,
    ⟨(some 12), none, .mv (.t 69)⟩] (some [4, 6, 9, 12, 56, 57, 58]))))
 (.op 0 [⟨(some 70), none, .bin .add (.t 58) (.c (.int .i64 1))⟩,
   ⟨(some 58), none, .mv (.t 70)⟩] none))))
def c_graph_CheckNodes_2_L0 : IR := b_graph_CheckNodes_2_L0
theorem u_graph_CheckNodes_2_L0 {C : Call} {L : Loop} {π : Id} {k0 : List Id} {e : Env} {s : Sto} : evC C L π k0 c_graph_CheckNodes_2_L0 e s = evC C L π k0 b_graph_CheckNodes_2_L0 e s := rfl
def c_graph_CheckNodes_2 : FnIR := ⟨80,
  (.sq (.op 0 [⟨(some 5), none, .box (.t 0) 1⟩,
    ⟨(some 6), none, .box (.t 1) 4⟩,
    ⟨(some 7), none, .mv (.c (.int .i64 0))⟩] none)
  (.sq (.sq (.op 6 [⟨(some 15), none, .fa (.t 6) 0⟩,
    ⟨(some 16), none, .ld (.t 15) 1 false⟩,
    ⟨(some 17), none, .callV true (.c (.fn n_graph_within [])) [(.t 16), (.c (.int .i64 0)), (.c (.int .i64 18))]⟩,
    ⟨(some 18), none, .callV true (.c (.fn n_graph_unless [])) [(.t 17), (.c (.int .i64 15))]⟩,
    ⟨(some 19), none, .fa (.t 6) 1⟩,
    ⟨(some 20), none, .ld (.t 19) 1 false⟩,
    ⟨(some 21), none, .callV true (.c (.fn n_graph_isWidth [])) [(.t 20)]⟩,
    ⟨(some 22), none, .callV true (.c (.fn n_graph_unless [])) [(.t 21), (.c (.int .i64 2))]⟩,
    ⟨(some 23), none, .bsl t_api_Errno 1 false [.int .i64 0] 2 [(0, (.t 18)), (1, (.t 22))]⟩,
    ⟨(some 24), none, .callV true (.c (.fn n_graph_first [])) [(.t 23)]⟩,
    ⟨(some 8), none, .mv (.t 24)⟩] (some [2, 3, 4, 5, 6, 8]))
  (.sq (.op 0 [⟨(some 25), none, .mv (.t 8)⟩,
    ⟨(some 26), none, .bin .neq (.t 25) (.c (.int .i64 0))⟩] none)
  (.cd (.t 26)
   (.sq (.op 0 [⟨(some 27), none, .mv (.t 8)⟩,
     ⟨(some 7), none, .mv (.t 27)⟩] none)
   .rt)
   .sk)))
  (.sq (.op 0 [⟨(some 28), none, .fa (.t 6) 0⟩,
    ⟨(some 29), none, .ld (.t 28) 1 false⟩,
    ⟨(some 30), none, .iaa (.t 2) (.t 29) 19 5⟩,
    ⟨(some 31), none, .ld (.t 30) 5 true⟩,
    ⟨(some 9), none, .alloc [.str ⟨#[]⟩, .int .i64 0, .bool false, .nilf, .nilf]⟩,
    ⟨none, none, .st (.t 9) (.t 31) 5⟩] (some [3, 4, 5, 6, 9]))
  (.sq (.op 0 [⟨(some 32), none, .fa (.t 6) 2⟩,
    ⟨(some 33), none, .ld (.t 32) 1 false⟩,
    ⟨(some 34), none, .mkf n_graph_CheckNodes_2_1 [(.t 5)]⟩,
    ⟨(some 35), none, .callV true (.c (.fn n_slices_ContainsFunc_int_int [])) [(.t 33), (.t 34)]⟩,
    ⟨(some 10), none, .mv (.t 35)⟩] (some [3, 4, 6, 9, 10]))
  (.sq (.sq (.op 13 [⟨(some 36), none, .fa (.t 6) 2⟩,
    ⟨(some 37), none, .ld (.t 36) 1 false⟩,
    ⟨(some 38), none, .len false (.t 37)⟩,
    ⟨(some 39), none, .fa (.t 9) 1⟩,
    ⟨(some 40), none, .ld (.t 39) 1 false⟩,
    ⟨(some 41), none, .bin .eql (.t 38) (.t 40)⟩,
    ⟨(some 42), none, .callV true (.c (.fn n_graph_unless [])) [(.t 41), (.c (.int .i64 10))]⟩,
    ⟨(some 43), none, .mv (.t 10)⟩,
    ⟨(some 44), none, .un .not (.t 43)⟩,
    ⟨(some 45), none, .callV true (.c (.fn n_graph_unless [])) [(.t 44), (.c (.int .i64 9))]⟩,
    ⟨(some 46), none, .ld (.t 3) 1 false⟩,
    ⟨(some 47), none, .ld (.t 6) 4 true⟩,
    ⟨(some 48), none, .ld (.t 9) 5 true⟩,
    ⟨(some 49), none, .callV true (.c (.fn n_graph_valueErr [])) [(.t 46), (.t 47), (.t 48)]⟩,
    ⟨(some 50), none, .bsl t_api_Errno 1 false [.int .i64 0] 3 [(0, (.t 42)), (1, (.t 45)), (2, (.t 49))]⟩,
    ⟨(some 51), none, .callV true (.c (.fn n_graph_first [])) [(.t 50)]⟩,
    ⟨(some 11), none, .mv (.t 51)⟩] (some [4, 6, 9, 11]))
  (.sq (.op 0 [⟨(some 52), none, .mv (.t 11)⟩,
    ⟨(some 53), none, .bin .neq (.t 52) (.c (.int .i64 0))⟩] none)
  (.cd (.t 53)
   (.sq (.op 0 [⟨(some 54), none, .mv (.t 11)⟩,
     ⟨(some 7), none, .mv (.t 54)⟩] none)
   .rt)
   .sk)))
  (.sq (.op 0 [⟨(some 12), none, .mv (.c (.sl 1 (some true) []))⟩] none)
  (.sq (.sq (.op 0 [⟨(some 55), none, .fa (.t 6) 2⟩,
    ⟨(some 56), none, .ld (.t 55) 1 false⟩,
    ⟨(some 57), none, .len false (.t 56)⟩,
    ⟨(some 58), none, .mv (.c (.int .i64 0))⟩] (some [4, 6, 9, 12, 56, 57, 58]))
  (.kp [6, 9, 12] [7] (.bk 0 (.lp [(t_int, .inl 12)] [4, 6, 9, 12, 56, 57, 58] c_graph_CheckNodes_2_L0))))
  (.sq (.op 0 [⟨(some 71), none, .fa (.t 9) 3⟩,
    ⟨(some 72), none, .ld (.t 71) 1 false⟩,
    ⟨(some 73), none, .fa (.t 6) 1⟩,
    ⟨(some 74), none, .ld (.t 73) 1 false⟩,
    ⟨(some 75), none, .mv (.t 12)⟩,
    ⟨(some 76), none, .fa (.t 6) 3⟩,
    ⟨(some 77), none, .ld (.t 76) 1 false⟩,
    ⟨(some 78), none, .callV true (.t 72) [(.t 74), (.t 75), (.t 77)]⟩,
    ⟨(some 79), none, .callV true (.c (.fn n_graph_unless [])) [(.t 78), (.c (.int .i64 25))]⟩,
    ⟨(some 7), none, .mv (.t 79)⟩] (some [7]))
  .rt)))))))),
  [.t 7]⟩
def c_graph_CheckNodes_2_1 : FnIR := ⟨9,
  (.sq (.op 0 [⟨(some 3), none, .mv (.c (.bool false))⟩] none)
  (.sq (.op 0 [⟨(some 4), none, .mv (.t 0)⟩,
    ⟨(some 5), none, .ld (.t 1) 1 false⟩,
    ⟨(some 6), none, .bin .sub (.t 5) (.c (.int .i64 1))⟩,
    ⟨(some 7), none, .callV true (.c (.fn n_graph_within [])) [(.t 4), (.c (.int .i64 0)), (.t 6)]⟩,
    ⟨(some 8), none, .un .not (.t 7)⟩,
    ⟨(some 3), none, .mv (.t 8)⟩] (some [3]))
  .rt)),
  [.t 3]⟩
def c_graph_valueErr : FnIR := ⟨49,
  (.sq (.op 0 [⟨(some 4), none, .box (.t 1) 4⟩,
    ⟨(some 5), none, .box (.t 2) 5⟩,
    ⟨(some 6), none, .mv (.c (.int .i64 0))⟩] none)
  (.sq (.sq (.op 0 [⟨(some 7), none, .fa (.t 4) 0⟩,
    ⟨(some 8), none, .ld (.t 7) 1 false⟩] none)
  (.bk 0 (.sq (.op 0 [⟨(some 10), none, .bin .eql (.t 8) (.c (.int .i64 0))⟩,
     ⟨(some 9), none, .mv (.t 10)⟩] none)
   (.cd (.t 9)
    (.sq (.op 0 [⟨(some 11), none, .fa (.t 4) 3⟩,
      ⟨(some 12), none, .ld (.t 11) 1 false⟩,
      ⟨(some 13), none, .fa (.t 4) 1⟩,
      ⟨(some 14), none, .ld (.t 13) 1 false⟩,
      ⟨(some 15), none, .callV true (.c (.fn n_graph_fits [])) [(.t 12), (.t 14)]⟩,
      ⟨(some 16), none, .callV true (.c (.fn n_graph_unless [])) [(.t 15), (.c (.int .i64 2))]⟩,
      ⟨(some 6), none, .mv (.t 16)⟩] (some [6]))
    .rt)
    (.sq (.op 0 [⟨(some 18), none, .bin .eql (.t 8) (.c (.int .i64 1))⟩,
      ⟨(some 17), none, .mv (.t 18)⟩] none)
    (.cd (.t 17)
     (.sq (.sq (.op 0 [⟨(some 19), none, .fa (.t 4) 3⟩,
       ⟨(some 20), none, .ld (.t 19) 1 false⟩,
       ⟨(some 21), none, .mv (.t 0)⟩,
       ⟨(some 22), none, .len false (.t 21)⟩,
       ⟨(some 23), none, .bin .sub (.t 22) (.c (.int .i64 1))⟩,
       ⟨(some 24), none, .callV true (.c (.fn n_graph_within [])) [(.t 20), (.c (.int .i64 0)), (.t 23)]⟩,
       ⟨(some 25), none, .un .not (.t 24)⟩] (some [0, 4, 25]))
     (.cd (.t 25)
      (.sq (.op 0 [⟨(some 6), none, .mv (.c (.int .i64 6))⟩] none)
      .rt)
      .sk))
     (.sq (.op 7 [⟨(some 26), none, .mv (.t 0)⟩,
       ⟨(some 27), none, .fa (.t 4) 3⟩,
       ⟨(some 28), none, .ld (.t 27) 1 false⟩,
       ⟨(some 29), none, .ia (.t 26) (.t 28) 1⟩,
       ⟨(some 30), none, .ld (.t 29) 1 false⟩,
       ⟨(some 31), none, .fa (.t 4) 1⟩,
       ⟨(some 32), none, .ld (.t 31) 1 false⟩,
       ⟨(some 33), none, .bin .eql (.t 30) (.t 32)⟩,
       ⟨(some 34), none, .callV true (.c (.fn n_graph_unless [])) [(.t 33), (.c (.int .i64 25))]⟩,
       ⟨(some 6), none, .mv (.t 34)⟩] (some [6]))
     .rt))
     (.sq (.op 0 [⟨(some 36), none, .bin .eql (.t 8) (.c (.int .i64 14))⟩,
       ⟨(some 35), none, .mv (.t 36)⟩] none)
     (.cd (.t 35)
      (.sq (.op 0 [⟨(some 37), none, .fa (.t 4) 3⟩,
        ⟨(some 38), none, .ld (.t 37) 1 false⟩,
        ⟨(some 39), none, .callV true (.c (.fn n_graph_within [])) [(.t 38), (.c (.int .i64 0)), (.c (.int .i64 15))]⟩,
        ⟨(some 40), none, .callV true (.c (.fn n_graph_unless [])) [(.t 39), (.c (.int .i64 2))]⟩,
        ⟨(some 6), none, .mv (.t 40)⟩] (some [6]))
      .rt)
      .sk))))))))
  (.sq (.op 0 [⟨(some 41), none, .fa (.t 5) 2⟩,
    ⟨(some 42), none, .ld (.t 41) 1 false⟩,
    ⟨(some 43), none, .mv (.t 42)⟩,
    ⟨(some 44), (some (43, false)), .fa (.t 4) 3⟩,
    ⟨(some 45), (some (43, false)), .ld (.t 44) 1 false⟩,
    ⟨(some 46), (some (43, false)), .bin .eql (.t 45) (.c (.int .i64 0))⟩,
    ⟨(some 47), none, .pick (.t 43) (.c (.bool true)) (.t 46)⟩,
    ⟨(some 48), none, .callV true (.c (.fn n_graph_unless [])) [(.t 47), (.c (.int .i64 3))]⟩,
    ⟨(some 6), none, .mv (.t 48)⟩] (some [6]))
  .rt))),
  [.t 6]⟩
def c_graph_same_1 : FnIR := ⟨7,
  (.sq (.op 0 [⟨(some 3), none, .mv (.c (.bool false))⟩] none)
  (.sq (.op 0 [⟨(some 4), none, .mv (.t 0)⟩,
    ⟨(some 5), none, .ld (.t 1) 1 false⟩,
    ⟨(some 6), none, .bin .neq (.t 4) (.t 5)⟩,
    ⟨(some 3), none, .mv (.t 6)⟩] (some [3]))
  .rt)),
  [.t 3]⟩
def c_graph_binary_1 : FnIR := ⟨19,
  (.sq (.op 0 [⟨(some 4), none, .box (.t 0) 4⟩,
    ⟨(some 7), none, .mv (.c (.int .i64 0))⟩] none)
  (.sq (.op 10 [⟨(some 8), none, .ld (.t 3) 1 false⟩,
    ⟨(some 9), none, .mv (.t 2)⟩,
    ⟨(some 10), none, .ia (.t 9) (.c (.int .i64 0)) 1⟩,
    ⟨(some 11), none, .ld (.t 10) 1 false⟩,
    ⟨(some 12), none, .mv (.t 2)⟩,
    ⟨(some 13), none, .ia (.t 12) (.c (.int .i64 1)) 1⟩,
    ⟨(some 14), none, .ld (.t 13) 1 false⟩,
    ⟨(some 15), none, .callV true (.t 8) [(.t 11), (.t 14)]⟩,
    ⟨(some 16), none, .fa (.t 4) 1⟩,
    ⟨(some 17), none, .ld (.t 16) 1 false⟩,
    ⟨(some 18), none, .callV true (.c (.fn n_graph_mask [])) [(.t 15), (.t 17)]⟩,
    ⟨(some 7), none, .mv (.t 18)⟩] (some [7]))
  .rt)),
  [.t 7]⟩
def c_graph_compared : FnIR := ⟨18,
  (.sq (.op 0 [⟨(some 6), none, .mv (.c (.bool false))⟩] none)
  (.sq (.op 9 [⟨(some 7), none, .mv (.t 0)⟩,
    ⟨(some 8), none, .bin .eql (.t 7) (.c (.int .i64 1))⟩,
    ⟨(some 9), none, .mv (.t 8)⟩,
    ⟨(some 10), (some (9, true)), .mv (.t 1)⟩,
    ⟨(some 11), (some (9, true)), .ia (.t 10) (.c (.int .i64 0)) 1⟩,
    ⟨(some 12), (some (9, true)), .ld (.t 11) 1 false⟩,
    ⟨(some 13), (some (9, true)), .mv (.t 1)⟩,
    ⟨(some 14), (some (9, true)), .ia (.t 13) (.c (.int .i64 1)) 1⟩,
    ⟨(some 15), (some (9, true)), .ld (.t 14) 1 false⟩,
    ⟨(some 16), (some (9, true)), .bin .eql (.t 12) (.t 15)⟩,
    ⟨(some 17), none, .pick (.t 9) (.t 16) (.c (.bool false))⟩,
    ⟨(some 6), none, .mv (.t 17)⟩] (some [6]))
  .rt)),
  [.t 6]⟩
def c_graph_relation_1 : FnIR := ⟨20,
  (.sq (.op 0 [⟨(some 4), none, .box (.t 0) 4⟩,
    ⟨(some 7), none, .mv (.c (.int .i64 0))⟩] none)
  (.sq (.op 10 [⟨(some 8), none, .ld (.t 3) 1 false⟩,
    ⟨(some 9), none, .mv (.t 2)⟩,
    ⟨(some 10), none, .ia (.t 9) (.c (.int .i64 0)) 1⟩,
    ⟨(some 11), none, .ld (.t 10) 1 false⟩,
    ⟨(some 12), none, .mv (.t 2)⟩,
    ⟨(some 13), none, .ia (.t 12) (.c (.int .i64 1)) 1⟩,
    ⟨(some 14), none, .ld (.t 13) 1 false⟩,
    ⟨(some 15), none, .mv (.t 1)⟩,
    ⟨(some 16), none, .ia (.t 15) (.c (.int .i64 0)) 1⟩,
    ⟨(some 17), none, .ld (.t 16) 1 false⟩,
    ⟨(some 18), none, .callV true (.t 8) [(.t 11), (.t 14), (.t 17)]⟩,
    ⟨(some 19), none, .callV true (.c (.fn n_graph_truth [])) [(.t 18)]⟩,
    ⟨(some 7), none, .mv (.t 19)⟩] (some [7]))
  .rt)),
  [.t 7]⟩
def b_slices_Backward_api_Node_api_Node_1_L0 : IR :=
 (.sq (.sq (.op 0 [⟨(some 7), none, .mv (.t 3)⟩,
   ⟨(some 8), none, .bin .geq (.t 7) (.c (.int .i64 0))⟩] none)
 (.cd (.t 8)
  .sk
  (.ex 0)))
 (.sq (.bk 1 (.sq (.op 0 [⟨(some 11), none, .mv (.t 0)⟩,
    ⟨(some 12), none, .mv (.t 3)⟩,
    ⟨(some 13), none, .ld (.t 1) 1 false⟩,
    ⟨(some 14), none, .mv (.t 3)⟩,
    ⟨(some 15), none, .ia (.t 13) (.t 14) 4⟩,
    ⟨(some 16), none, .ld (.t 15) 4 true⟩,
    ⟨(some 17), none, .callS (.t 11) [(.t 12), (.t 16)]⟩,
    ⟨(some 18), none, .un .not (.t 17)⟩] (some [0, 1, 3, 18]))
  (.cd (.t 18)
   .rt
   .sk)))
 (.op 0 [⟨(some 9), none, .mv (.t 3)⟩,
   ⟨(some 10), none, .bin .sub (.t 9) (.c (.int .i64 1))⟩,
   ⟨(some 3), none, .mv (.t 10)⟩] none)))
def c_slices_Backward_api_Node_api_Node_1_L0 : IR := b_slices_Backward_api_Node_api_Node_1_L0
theorem u_slices_Backward_api_Node_api_Node_1_L0 {C : Call} {L : Loop} {π : Id} {k0 : List Id} {e : Env} {s : Sto} : evC C L π k0 c_slices_Backward_api_Node_api_Node_1_L0 e s = evC C L π k0 b_slices_Backward_api_Node_api_Node_1_L0 e s := rfl
def c_slices_Backward_api_Node_api_Node_1 : FnIR := ⟨19,
  (.sq (.op 0 [⟨(some 4), none, .ld (.t 1) 1 false⟩,
    ⟨(some 5), none, .len false (.t 4)⟩,
    ⟨(some 6), none, .bin .sub (.t 5) (.c (.int .i64 1))⟩,
    ⟨(some 3), none, .mv (.t 6)⟩] (some [0, 1, 3]))
  (.kp [] [] (.bk 0 (.lp [] [0, 1, 3] c_slices_Backward_api_Node_api_Node_1_L0)))),
  []⟩
def b_ratchetbase_widthsFit_L0 : IR :=
 (.sq (.sq (.op 0 [⟨(some 7), none, .mv (.t 6)⟩,
   ⟨(some 8), none, .fa (.t 3) 2⟩,
   ⟨(some 9), none, .ld (.t 8) 1 false⟩,
   ⟨(some 10), none, .len false (.t 9)⟩,
   ⟨(some 11), none, .bin .lss (.t 7) (.t 10)⟩] (some [0, 3, 5, 6, 11]))
 (.cd (.t 11)
  .sk
  (.ex 0)))
 (.sq (.bk 1 (.op 0 [⟨(some 14), none, .mv (.t 5)⟩,
    ⟨(some 15), none, .mv (.t 0)⟩,
    ⟨(some 16), none, .fa (.t 3) 2⟩,
    ⟨(some 17), none, .ld (.t 16) 1 false⟩,
    ⟨(some 18), none, .mv (.t 6)⟩,
    ⟨(some 19), none, .ia (.t 17) (.t 18) 1⟩,
    ⟨(some 20), none, .ld (.t 19) 1 false⟩,
    ⟨(some 21), none, .ia (.t 15) (.t 20) 4⟩,
    ⟨(some 22), none, .fa (.t 21) 1⟩,
    ⟨(some 23), none, .ld (.t 22) 1 false⟩,
    ⟨(some 24), none, .bsl t_int 1 false [.int .i64 0] 1 [(0, (.t 23))]⟩,
    ⟨(some 25), none, .app (.t 14) (.t 24) t_int 1⟩,
    ⟨(some 5), none, .mv (.t 25)⟩] (some [0, 3, 5, 6])))
 (.op 0 [⟨(some 12), none, .mv (.t 6)⟩,
   ⟨(some 13), none, .bin .add (.t 12) (.c (.int .i64 1))⟩,
   ⟨(some 6), none, .mv (.t 13)⟩] none)))
def c_ratchetbase_widthsFit_L0 : IR := b_ratchetbase_widthsFit_L0
theorem u_ratchetbase_widthsFit_L0 {C : Call} {L : Loop} {π : Id} {k0 : List Id} {e : Env} {s : Sto} : evC C L π k0 c_ratchetbase_widthsFit_L0 e s = evC C L π k0 b_ratchetbase_widthsFit_L0 e s := rfl
def c_ratchetbase_widthsFit : FnIR := ⟨133,
  (.sq (.op 0 [⟨(some 3), none, .box (.t 1) 4⟩,
    ⟨(some 4), none, .mv (.c (.bool false))⟩] none)
  (.sq (.op 0 [⟨(some 5), none, .mv (.c (.sl 1 (some true) []))⟩] none)
  (.sq (.sq (.op 0 [⟨(some 6), none, .mv (.c (.int .i64 0))⟩] none)
  (.kp [3, 5] [4] (.bk 0 (.lp [(t_int, .inl 5)] [0, 3, 5, 6] c_ratchetbase_widthsFit_L0))))
  (.sq (.sq (.op 0 [⟨(some 26), none, .fa (.t 3) 0⟩,
    ⟨(some 27), none, .ld (.t 26) 1 false⟩] none)
  (.bk 2 (.sq (.op 0 [⟨(some 29), none, .bin .eql (.t 27) (.c (.int .i64 2))⟩,
     ⟨(some 28), none, .mv (.t 29)⟩] none)
   (.cd (.t 28)
    (.sq (.op 5 [⟨(some 30), none, .mv (.t 5)⟩,
      ⟨(some 31), none, .ia (.t 30) (.c (.int .i64 0)) 1⟩,
      ⟨(some 32), none, .ld (.t 31) 1 false⟩,
      ⟨(some 33), none, .fa (.t 3) 1⟩,
      ⟨(some 34), none, .ld (.t 33) 1 false⟩,
      ⟨(some 35), none, .bin .eql (.t 32) (.t 34)⟩,
      ⟨(some 4), none, .mv (.t 35)⟩] (some [4]))
    .rt)
    (.sq (.sq (.op 0 [⟨(some 37), none, .bin .eql (.t 27) (.c (.int .i64 3))⟩,
      ⟨(some 36), none, .mv (.t 37)⟩] none)
    (.cd (.t 36)
     .sk
     (.sq (.op 0 [⟨(some 38), none, .bin .eql (.t 27) (.c (.int .i64 4))⟩,
       ⟨(some 36), none, .mv (.t 38)⟩] none)
     (.cd (.t 36)
      .sk
      (.sq (.op 0 [⟨(some 39), none, .bin .eql (.t 27) (.c (.int .i64 5))⟩,
        ⟨(some 36), none, .mv (.t 39)⟩] none)
      (.cd (.t 36)
       .sk
       (.sq (.op 0 [⟨(some 40), none, .bin .eql (.t 27) (.c (.int .i64 6))⟩,
         ⟨(some 36), none, .mv (.t 40)⟩] none)
       (.cd (.t 36)
        .sk
        (.sq (.op 0 [⟨(some 41), none, .bin .eql (.t 27) (.c (.int .i64 7))⟩,
          ⟨(some 36), none, .mv (.t 41)⟩] none)
        (.cd (.t 36)
         .sk
         (.op 0 [⟨(some 42), none, .bin .eql (.t 27) (.c (.int .i64 8))⟩,
           ⟨(some 36), none, .mv (.t 42)⟩] none)))))))))))
    (.cd (.t 36)
     (.sq (.op 12 [⟨(some 43), none, .mv (.t 5)⟩,
       ⟨(some 44), none, .ia (.t 43) (.c (.int .i64 0)) 1⟩,
       ⟨(some 45), none, .ld (.t 44) 1 false⟩,
       ⟨(some 46), none, .fa (.t 3) 1⟩,
       ⟨(some 47), none, .ld (.t 46) 1 false⟩,
       ⟨(some 48), none, .bin .eql (.t 45) (.t 47)⟩,
       ⟨(some 49), none, .mv (.t 48)⟩,
       ⟨(some 50), (some (49, true)), .mv (.t 5)⟩,
       ⟨(some 51), (some (49, true)), .ia (.t 50) (.c (.int .i64 1)) 1⟩,
       ⟨(some 52), (some (49, true)), .ld (.t 51) 1 false⟩,
       ⟨(some 53), (some (49, true)), .fa (.t 3) 1⟩,
       ⟨(some 54), (some (49, true)), .ld (.t 53) 1 false⟩,
       ⟨(some 55), (some (49, true)), .bin .eql (.t 52) (.t 54)⟩,
       ⟨(some 56), none, .pick (.t 49) (.t 55) (.c (.bool false))⟩,
       ⟨(some 4), none, .mv (.t 56)⟩] (some [4]))
     .rt)
     (.sq (.sq (.op 0 [⟨(some 58), none, .bin .eql (.t 27) (.c (.int .i64 9))⟩,
       ⟨(some 57), none, .mv (.t 58)⟩] none)
     (.cd (.t 57)
      .sk
      (.sq (.op 0 [⟨(some 59), none, .bin .eql (.t 27) (.c (.int .i64 10))⟩,
        ⟨(some 57), none, .mv (.t 59)⟩] none)
      (.cd (.t 57)
       .sk
       (.op 0 [⟨(some 60), none, .bin .eql (.t 27) (.c (.int .i64 11))⟩,
         ⟨(some 57), none, .mv (.t 60)⟩] none)))))
     (.cd (.t 57)
      (.sq (.op 6 [⟨(some 61), none, .mv (.t 5)⟩,
        ⟨(some 62), none, .ia (.t 61) (.c (.int .i64 0)) 1⟩,
        ⟨(some 63), none, .ld (.t 62) 1 false⟩,
        ⟨(some 64), none, .mv (.t 5)⟩,
        ⟨(some 65), none, .ia (.t 64) (.c (.int .i64 1)) 1⟩,
        ⟨(some 66), none, .ld (.t 65) 1 false⟩,
        ⟨(some 67), none, .bin .eql (.t 63) (.t 66)⟩,
        ⟨(some 68), none, .mv (.t 67)⟩,
        ⟨(some 69), (some (68, true)), .fa (.t 3) 1⟩,
        ⟨(some 70), (some (68, true)), .ld (.t 69) 1 false⟩,
        ⟨(some 71), (some (68, true)), .bin .eql (.t 70) (.c (.int .i64 1))⟩,
        ⟨(some 72), none, .pick (.t 68) (.t 71) (.c (.bool false))⟩,
        ⟨(some 4), none, .mv (.t 72)⟩] (some [4]))
      .rt)
      (.sq (.op 0 [⟨(some 74), none, .bin .eql (.t 27) (.c (.int .i64 12))⟩,
        ⟨(some 73), none, .mv (.t 74)⟩] none)
      (.cd (.t 73)
       (.sq (.op 18 [⟨(some 75), none, .mv (.t 5)⟩,
         ⟨(some 76), none, .ia (.t 75) (.c (.int .i64 0)) 1⟩,
         ⟨(some 77), none, .ld (.t 76) 1 false⟩,
         ⟨(some 78), none, .bin .eql (.t 77) (.c (.int .i64 1))⟩,
         ⟨(some 79), none, .mv (.t 78)⟩,
         ⟨(some 80), (some (79, true)), .mv (.t 5)⟩,
         ⟨(some 81), (some (79, true)), .ia (.t 80) (.c (.int .i64 1)) 1⟩,
         ⟨(some 82), (some (79, true)), .ld (.t 81) 1 false⟩,
         ⟨(some 83), (some (79, true)), .fa (.t 3) 1⟩,
         ⟨(some 84), (some (79, true)), .ld (.t 83) 1 false⟩,
         ⟨(some 85), (some (79, true)), .bin .eql (.t 82) (.t 84)⟩,
         ⟨(some 86), none, .pick (.t 79) (.t 85) (.c (.bool false))⟩,
         ⟨(some 87), none, .mv (.t 86)⟩,
         ⟨(some 88), (some (87, true)), .mv (.t 5)⟩,
         ⟨(some 89), (some (87, true)), .ia (.t 88) (.c (.int .i64 2)) 1⟩,
         ⟨(some 90), (some (87, true)), .ld (.t 89) 1 false⟩,
         ⟨(some 91), (some (87, true)), .fa (.t 3) 1⟩,
         ⟨(some 92), (some (87, true)), .ld (.t 91) 1 false⟩,
         ⟨(some 93), (some (87, true)), .bin .eql (.t 90) (.t 92)⟩,
         ⟨(some 94), none, .pick (.t 87) (.t 93) (.c (.bool false))⟩,
         ⟨(some 4), none, .mv (.t 94)⟩] (some [4]))
       .rt)
       (.sq (.op 0 [⟨(some 96), none, .bin .eql (.t 27) (.c (.int .i64 13))⟩,
         ⟨(some 95), none, .mv (.t 96)⟩] none)
       (.cd (.t 95)
        (.sq (.op 9 [⟨(some 97), none, .mv (.t 5)⟩,
          ⟨(some 98), none, .ia (.t 97) (.c (.int .i64 0)) 1⟩,
          ⟨(some 99), none, .ld (.t 98) 1 false⟩,
          ⟨(some 100), none, .mv (.t 5)⟩,
          ⟨(some 101), none, .ia (.t 100) (.c (.int .i64 1)) 1⟩,
          ⟨(some 102), none, .ld (.t 101) 1 false⟩,
          ⟨(some 103), none, .bin .add (.t 99) (.t 102)⟩,
          ⟨(some 104), none, .fa (.t 3) 1⟩,
          ⟨(some 105), none, .ld (.t 104) 1 false⟩,
          ⟨(some 106), none, .bin .eql (.t 103) (.t 105)⟩,
          ⟨(some 4), none, .mv (.t 106)⟩] (some [4]))
        .rt)
        (.sq (.op 0 [⟨(some 108), none, .bin .eql (.t 27) (.c (.int .i64 14))⟩,
          ⟨(some 107), none, .mv (.t 108)⟩] none)
        (.cd (.t 107)
         (.sq (.op 8 [⟨(some 109), none, .fa (.t 3) 3⟩,
           ⟨(some 110), none, .ld (.t 109) 1 false⟩,
           ⟨(some 111), none, .fa (.t 3) 1⟩,
           ⟨(some 112), none, .ld (.t 111) 1 false⟩,
           ⟨(some 113), none, .bin .add (.t 110) (.t 112)⟩,
           ⟨(some 114), none, .mv (.t 5)⟩,
           ⟨(some 115), none, .ia (.t 114) (.c (.int .i64 0)) 1⟩,
           ⟨(some 116), none, .ld (.t 115) 1 false⟩,
           ⟨(some 117), none, .bin .leq (.t 113) (.t 116)⟩,
           ⟨(some 4), none, .mv (.t 117)⟩] (some [4]))
         .rt)
         (.sq (.sq (.op 0 [⟨(some 119), none, .bin .eql (.t 27) (.c (.int .i64 15))⟩,
           ⟨(some 118), none, .mv (.t 119)⟩] none)
         (.cd (.t 118)
          .sk
          (.op 0 [⟨(some 120), none, .bin .eql (.t 27) (.c (.int .i64 16))⟩,
            ⟨(some 118), none, .mv (.t 120)⟩] none)))
         (.cd (.t 118)
          (.sq (.op 5 [⟨(some 121), none, .mv (.t 5)⟩,
            ⟨(some 122), none, .ia (.t 121) (.c (.int .i64 0)) 1⟩,
            ⟨(some 123), none, .ld (.t 122) 1 false⟩,
            ⟨(some 124), none, .fa (.t 3) 1⟩,
            ⟨(some 125), none, .ld (.t 124) 1 false⟩,
            ⟨(some 126), none, .bin .leq (.t 123) (.t 125)⟩,
            ⟨(some 4), none, .mv (.t 126)⟩] (some [4]))
          .rt)
          .sk))))))))))))))))
  (.sq (.op 5 [⟨(some 127), none, .mv (.t 5)⟩,
    ⟨(some 128), none, .ia (.t 127) (.c (.int .i64 0)) 1⟩,
    ⟨(some 129), none, .ld (.t 128) 1 false⟩,
    ⟨(some 130), none, .fa (.t 3) 1⟩,
    ⟨(some 131), none, .ld (.t 130) 1 false⟩,
    ⟨(some 132), none, .bin .eql (.t 129) (.t 131)⟩,
    ⟨(some 4), none, .mv (.t 132)⟩] (some [4]))
  .rt))))),
  [.t 4]⟩

end Go.Proofs.YtglelclmlkeheabGreatDoor.V
