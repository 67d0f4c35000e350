/- CheckDesign: round by round (printed by gen_ik.py). The errors of a design, by the reference: names, ports, outputs. The errors of a design, by the reference: ports, elements, writes, outputs. The errors of a design, by the reference: elements, writes, outputs. The errors of a design, by the referen -/
import Derived.Test.YteecfnfjlclhdaaGreatS2

set_option linter.unusedSimpArgs false
set_option linter.unusedVariables false

/- CheckDesign: round by round (printed by gen_ik.py). -/
namespace Go.Proofs.YteecfnfjlclhdaaGreat.V
open Go (IntKind BinOp UnOp)
variable {π : Id}
theorem e_cd4 (d : Des) (hd : DesOk d) (K : List ByteArray) (hK : ∀ x ∈ K, okS x) : EE (35 :: π) Z2q [.ref (1 :: π) 0, .ref (4 :: π) 0] (stK1 π K ++ [Y7 (1 :: π) d]) = some (.p (.tup [I (eachK elmE (fun p => p.name) K 0 d.elements).1, I (eachK elmE (fun p => p.name) K 0 d.elements).2]), stK1 π (endK elmE (fun p => p.name) K d.elements) ++ [Y7 (1 :: π) d]) := by
 have hlp := Zg7 (π := π) d.elements (by have := hd.elements; simp only [top63]; omega) hd.elN d.elements [] K
 have hz := Z57 elmE (fun p => p.name) K 0 d.elements
 have hea : EE (7 :: 35 :: π) V3 [.p (W0 d.elements), .fn Mx [.ref (4 :: π) 0]] (stK1 π K) = some (.p (.tup [I (eachK elmE (fun p => p.name) K 0 d.elements).1, I (eachK elmE (fun p => p.name) K 0 d.elements).2]), stK1 π (endK elmE (fun p => p.name) K d.elements)) := by
  simp [Z5d, Z0, Pb]
  rw [hlp _ hK rfl (by simp)]
  by_cases hf : (eachK elmE (fun p => p.name) K 0 d.elements).2 = 0
  ·simp [hf, hz hf]
  ·simp [hf]
 generalize eachK elmE (fun p => p.name) K 0 d.elements = R at *
 generalize entN (endK elmE (fun p => p.name) K d.elements) = M' at *
 simp [e_ds_CkD_4, Z0, Zas, hea]
theorem e_cd7 (d : Des) (hd : DesOk d) : EE (35 :: π) Z2n [.ref (1 :: π) 0, .ref (6 :: π) 0] (stK3 π 6 15 d []) = some (.p (.tup [I (eachK (rulE d.elements d.nodes) (fun p => p.name) [] 0 d.rules).1, I (eachK (rulE d.elements d.nodes) (fun p => p.name) [] 0 d.rules).2]), stK3 π 6 15 d (endK (rulE d.elements d.nodes) (fun p => p.name) [] d.rules)) := by
 have hlp := Zg2 (π := π) d hd.nodes hd.elements d.rules (by have := hd.rules; simp only [top63]; omega) hd.ruN (fun r hr => by have := hd.writes r hr; omega) d.rules [] []
 have hz := Z57 (rulE d.elements d.nodes) (fun p => p.name) [] 0 d.rules
 have hea : EE (7 :: 35 :: π) Ux [.p (Ls d.rules), .fn Mw [.ref (6 :: π) 0, .ref (1 :: π) 0]] (stK3 π 6 15 d []) = some (.p (.tup [I (eachK (rulE d.elements d.nodes) (fun p => p.name) [] 0 d.rules).1, I (eachK (rulE d.elements d.nodes) (fun p => p.name) [] 0 d.rules).2]), stK3 π 6 15 d (endK (rulE d.elements d.nodes) (fun p => p.name) [] d.rules)) := by
  simp [Z9c, Z0, Kc]
  rw [hlp _ (by simp) rfl (by simp)]
  by_cases hf : (eachK (rulE d.elements d.nodes) (fun p => p.name) [] 0 d.rules).2 = 0
  ·simp [hf, hz hf]
  ·simp [hf]
 generalize eachK (rulE d.elements d.nodes) (fun p => p.name) [] 0 d.rules = R at *
 generalize entN (endK (rulE d.elements d.nodes) (fun p => p.name) [] d.rules) = M' at *
 simp only [stK3, Xy, List.map_cons, List.map_nil] at hea
 simp [e_ds_CkD_7, Z0, Zap, hea]
theorem e_cd9 (d : Des) (hd : DesOk d) : EE (35 :: π) Z2l [.ref (1 :: π) 0, .ref (7 :: π) 0] (stK3 π 7 16 d []) = some (.p (.tup [I (eachK (outE d.nodes) (fun p => p.name) [] 0 d.outputs).1, I (eachK (outE d.nodes) (fun p => p.name) [] 0 d.outputs).2]), stK3 π 7 16 d (endK (outE d.nodes) (fun p => p.name) [] d.outputs)) := by
 have hlp := Zg4 (π := π) d hd.nodes d.outputs (by have := hd.outputs; simp only [top63]; omega) hd.ouN d.outputs [] []
 have hz := Z57 (outE d.nodes) (fun p => p.name) [] 0 d.outputs
 have hea : EE (7 :: 35 :: π) Vc [.p (Us d.outputs), .fn Mv [.ref (7 :: π) 0, .ref (1 :: π) 0]] (stK3 π 7 16 d []) = some (.p (.tup [I (eachK (outE d.nodes) (fun p => p.name) [] 0 d.outputs).1, I (eachK (outE d.nodes) (fun p => p.name) [] 0 d.outputs).2]), stK3 π 7 16 d (endK (outE d.nodes) (fun p => p.name) [] d.outputs)) := by
  simp [Z6j, Z0, Ps]
  rw [hlp _ (by simp) rfl (by simp)]
  by_cases hf : (eachK (outE d.nodes) (fun p => p.name) [] 0 d.outputs).2 = 0
  ·simp [hf, hz hf]
  ·simp [hf]
 generalize eachK (outE d.nodes) (fun p => p.name) [] 0 d.outputs = R at *
 generalize entN (endK (outE d.nodes) (fun p => p.name) [] d.outputs) = M' at *
 simp only [stK3, Xy, List.map_cons, List.map_nil] at hea
 simp [e_ds_CkD_9, Z0, Zan, hea]
def X7 : List (Int × Int) → Int × Int
 | [] => (0, 0)
 | x :: r => if x.2 = 0 then X7 r else x
theorem firstP_0 : ∀ l : List (Int × Int), (X7 l).2 = 0 → (X7 l).1 = 0
 | [], _ => rfl
 | x :: r, h => by
  simp only [X7] at h ⊢
  split
  ·rename_i hx; rw [if_pos hx] at h; exact firstP_0 r h
  ·rename_i hx; rw [if_neg hx] at h; exact absurd h hx
def Zct (d : Des) : List (Int × Int) := [(0, Z9 [unlE (nameB d.name) 4, unlE (decide ((d.inputs.length : Int) ≤ 12)) 8]), eachK prtE (fun p => p.name) [] 0 d.inputs, (0, unlE (decide ((d.inputs.length : Int) + d.elements.length ≤ 40)) 8), eachK elmE (fun p => p.name) (endK prtE (fun p => p.name) [] d.inputs) 0 d.elements, X8 (dlv d) d.nodes, (0, unlE (decide ((d.rules.length : Int) ≤ 16)) 8), eachK (rulE d.elements d.nodes) (fun p => p.name) [] 0 d.rules, (0, unlE (decide ((d.outputs.length : Int) ≤ 12)) 8), eachK (outE d.nodes) (fun p => p.name) [] 0 d.outputs, (0, unlE (decide ((d.attrs.length : Int) ≤ 16)) 8), eachE (fun _ a => atbE d.rules.length a) 0 d.attrs]
def desE (d : Des) : Int × Int := X7 (Zct d)
abbrev resP (l : List (Int × Int)) : Option (Ex × Env × Sto) := if (X7 l).2 = 0 then some (.nm, [], []) else some (.rt, [(2, .p (I (X7 l).1)), (3, .p (I (X7 l).2))], [])
def W8 (π : Id) : AV := .agg [.fn Z2t [.ref (1 :: π) 0], .fn Z2s [.ref (1 :: π) 0, .ref (4 :: π) 0, .ref (5 :: π) 0], .fn Z2r [.ref (1 :: π) 0], .fn Z2q [.ref (1 :: π) 0, .ref (4 :: π) 0], .fn Z2p [.ref (1 :: π) 0], .fn Z2o [.ref (1 :: π) 0], .fn Z2n [.ref (1 :: π) 0, .ref (6 :: π) 0], .fn Z2m [.ref (1 :: π) 0], .fn Z2l [.ref (1 :: π) 0, .ref (7 :: π) 0], .fn Fz [.ref (1 :: π) 0], .fn Fy [.ref (1 :: π) 0]]
abbrev stD (π : Id) (d : Des) (Kn Kp Kr Ko : List ByteArray) : Sto := [(7 :: π, .box false [.mp (16 :: π)]), (6 :: π, .box false [.mp (15 :: π)]), (5 :: π, .box false [.mp (14 :: π)]), (16 :: π, .mpb (entN Ko)), (15 :: π, .mpb (entN Kr)), (14 :: π, .mpb (entN Kp)), (4 :: π, .box false [.mp (13 :: π)]), (13 :: π, .mpb (entN Kn)), Y7 (1 :: π) d]
abbrev atD (π : Id) (d : Des) (i : Int) (s : Sto) (x : Env × Sto) : Prop := mask [29, 30] [] x = some ([(29, W8 π), (30, .p (I i))], s)
noncomputable abbrev cdL (π : Id) (x : Env × Sto) : Option (Ex × Env × Sto) := kpO [] [2, 3] [] (bkO 0 (iter (round EE iter π [] [29, 30] Z7z) x))
theorem cdr_11 (d : Des) (Kn Kp Kr Ko : List ByteArray) (x : Env × Sto) (hm : atD π d 11 (stD π d Kn Kp Kr Ko) x) : cdL π x = resP [] := by
 unfold cdL
 rw [Z3 hm]
 simp [Zm, Zj, X7]
theorem cdr_10 (d : Des) (hd : DesOk d) (Kn Kp Kr Ko : List ByteArray) (x : Env × Sto) (hm : atD π d 10 (stD π d Kn Kp Kr Ko) x) : cdL π x = resP [eachE (fun _ a => atbE d.rules.length a) 0 d.attrs] := by
 have hc := e_cd11 (π := π) d hd
 have hn := fun x => cdr_11 (π := π) d Kn Kp Kr Ko x
 have hws : IntKind.i64.wrap 11 = 11 := rfl
 unfold cdL atD stD at hn
 unfold cdL
 rw [Z3 hm]
 unfold W8
 unfold resP X7
 unfold X7
 unfold W8 at hn
 generalize eachE (fun _ a => atbE d.rules.length a) 0 d.attrs = G0 at *
 by_cases h0 : G0.2 = 0
 ·simp [Zm, Zj, hc, h0]
  exact hn _ (by simp [hws])
 ·simp [Zm, Zj, hc, h0]
theorem cdr_9 (d : Des) (hd : DesOk d) (Kn Kp Kr Ko : List ByteArray) (x : Env × Sto) (hm : atD π d 9 (stD π d Kn Kp Kr Ko) x) : cdL π x = resP [(0, unlE (decide ((d.attrs.length : Int) ≤ 16)) 8), eachE (fun _ a => atbE d.rules.length a) 0 d.attrs] := by
 have hc := e_cd10 (π := π) d
 have hn := fun x => cdr_10 (π := π) d hd Kn Kp Kr Ko x
 have hws : IntKind.i64.wrap 10 = 10 := rfl
 unfold cdL atD stD at hn
 unfold cdL
 rw [Z3 hm]
 unfold W8
 generalize [eachE (fun _ a => atbE d.rules.length a) 0 d.attrs] = T at *
 unfold resP X7
 unfold W8 at hn
 generalize unlE (decide ((d.attrs.length : Int) ≤ 16)) 8 = G0 at *
 by_cases h0 : G0 = 0
 ·simp [Zm, Zj, hc, h0]
  exact hn _ (by simp [hws])
 ·simp [Zm, Zj, hc, h0]
theorem cdr_8 (d : Des) (hd : DesOk d) (Kn Kp Kr : List ByteArray) (x : Env × Sto) (hm : atD π d 8 (stD π d Kn Kp Kr []) x) : cdL π x = resP [eachK (outE d.nodes) (fun p => p.name) [] 0 d.outputs, (0, unlE (decide ((d.attrs.length : Int) ≤ 16)) 8), eachE (fun _ a => atbE d.rules.length a) 0 d.attrs] := by
 have hc := e_cd9 (π := π) d hd
 have hn := fun x => cdr_9 (π := π) d hd Kn Kp Kr (endK (outE d.nodes) (fun p => p.name) [] d.outputs) x
 have hws : IntKind.i64.wrap 9 = 9 := rfl
 unfold cdL atD stD at hn
 unfold cdL
 rw [Z3 hm]
 unfold W8
 generalize [(0, unlE (decide ((d.attrs.length : Int) ≤ 16)) 8), eachE (fun _ a => atbE d.rules.length a) 0 d.attrs] = T at *
 unfold resP X7
 unfold W8 at hn
 generalize eachK (outE d.nodes) (fun p => p.name) [] 0 d.outputs = G0 at *
 by_cases h0 : G0.2 = 0
 ·simp [Zm, Zj, hc, h0]
  exact hn _ (by simp [hws])
 ·simp [Zm, Zj, hc, h0]
theorem cdr_7 (d : Des) (hd : DesOk d) (Kn Kp Kr : List ByteArray) (x : Env × Sto) (hm : atD π d 7 (stD π d Kn Kp Kr []) x) : cdL π x = resP [(0, unlE (decide ((d.outputs.length : Int) ≤ 12)) 8), eachK (outE d.nodes) (fun p => p.name) [] 0 d.outputs, (0, unlE (decide ((d.attrs.length : Int) ≤ 16)) 8), eachE (fun _ a => atbE d.rules.length a) 0 d.attrs] := by
 have hc := e_cd8 (π := π) d
 have hn := fun x => cdr_8 (π := π) d hd Kn Kp Kr x
 have hws : IntKind.i64.wrap 8 = 8 := rfl
 unfold cdL atD stD at hn
 unfold cdL
 rw [Z3 hm]
 unfold W8
 generalize [eachK (outE d.nodes) (fun p => p.name) [] 0 d.outputs, (0, unlE (decide ((d.attrs.length : Int) ≤ 16)) 8), eachE (fun _ a => atbE d.rules.length a) 0 d.attrs] = T at *
 unfold resP X7
 unfold W8 at hn
 generalize unlE (decide ((d.outputs.length : Int) ≤ 12)) 8 = G0 at *
 by_cases h0 : G0 = 0
 ·simp [Zm, Zj, hc, h0]
  exact hn _ (by simp [hws])
 ·simp [Zm, Zj, hc, h0]
theorem cdr_6 (d : Des) (hd : DesOk d) (Kn Kp : List ByteArray) (x : Env × Sto) (hm : atD π d 6 (stD π d Kn Kp [] []) x) : cdL π x = resP [eachK (rulE d.elements d.nodes) (fun p => p.name) [] 0 d.rules, (0, unlE (decide ((d.outputs.length : Int) ≤ 12)) 8), eachK (outE d.nodes) (fun p => p.name) [] 0 d.outputs, (0, unlE (decide ((d.attrs.length : Int) ≤ 16)) 8), eachE (fun _ a => atbE d.rules.length a) 0 d.attrs] := by
 have hc := e_cd7 (π := π) d hd
 have hn := fun x => cdr_7 (π := π) d hd Kn Kp (endK (rulE d.elements d.nodes) (fun p => p.name) [] d.rules) x
 have hws : IntKind.i64.wrap 7 = 7 := rfl
 unfold cdL atD stD at hn
 unfold cdL
 rw [Z3 hm]
 unfold W8
 generalize [(0, unlE (decide ((d.outputs.length : Int) ≤ 12)) 8), eachK (outE d.nodes) (fun p => p.name) [] 0 d.outputs, (0, unlE (decide ((d.attrs.length : Int) ≤ 16)) 8), eachE (fun _ a => atbE d.rules.length a) 0 d.attrs] = T at *
 unfold resP X7
 unfold W8 at hn
 generalize eachK (rulE d.elements d.nodes) (fun p => p.name) [] 0 d.rules = G0 at *
 by_cases h0 : G0.2 = 0
 ·simp [Zm, Zj, hc, h0]
  exact hn _ (by simp [hws])
 ·simp [Zm, Zj, hc, h0]
theorem cdr_5 (d : Des) (hd : DesOk d) (Kn Kp : List ByteArray) (x : Env × Sto) (hm : atD π d 5 (stD π d Kn Kp [] []) x) : cdL π x = resP [(0, unlE (decide ((d.rules.length : Int) ≤ 16)) 8), eachK (rulE d.elements d.nodes) (fun p => p.name) [] 0 d.rules, (0, unlE (decide ((d.outputs.length : Int) ≤ 12)) 8), eachK (outE d.nodes) (fun p => p.name) [] 0 d.outputs, (0, unlE (decide ((d.attrs.length : Int) ≤ 16)) 8), eachE (fun _ a => atbE d.rules.length a) 0 d.attrs] := by
 have hc := e_cd6 (π := π) d
 have hn := fun x => cdr_6 (π := π) d hd Kn Kp x
 have hws : IntKind.i64.wrap 6 = 6 := rfl
 unfold cdL atD stD at hn
 unfold cdL
 rw [Z3 hm]
 unfold W8
 generalize [eachK (rulE d.elements d.nodes) (fun p => p.name) [] 0 d.rules, (0, unlE (decide ((d.outputs.length : Int) ≤ 12)) 8), eachK (outE d.nodes) (fun p => p.name) [] 0 d.outputs, (0, unlE (decide ((d.attrs.length : Int) ≤ 16)) 8), eachE (fun _ a => atbE d.rules.length a) 0 d.attrs] = T at *
 unfold resP X7
 unfold W8 at hn
 generalize unlE (decide ((d.rules.length : Int) ≤ 16)) 8 = G0 at *
 by_cases h0 : G0 = 0
 ·simp [Zm, Zj, hc, h0]
  exact hn _ (by simp [hws])
 ·simp [Zm, Zj, hc, h0]
theorem cdr_4 (d : Des) (hd : DesOk d) (Kn Kp : List ByteArray) (x : Env × Sto) (hm : atD π d 4 (stD π d Kn Kp [] []) x) : cdL π x = resP [X8 (dlv d) d.nodes, (0, unlE (decide ((d.rules.length : Int) ≤ 16)) 8), eachK (rulE d.elements d.nodes) (fun p => p.name) [] 0 d.rules, (0, unlE (decide ((d.outputs.length : Int) ≤ 12)) 8), eachK (outE d.nodes) (fun p => p.name) [] 0 d.outputs, (0, unlE (decide ((d.attrs.length : Int) ≤ 16)) 8), eachE (fun _ a => atbE d.rules.length a) 0 d.attrs] := by
 have hc := e_cd5 (π := π) d hd
 have hn := fun x => cdr_5 (π := π) d hd Kn Kp x
 have hws : IntKind.i64.wrap 5 = 5 := rfl
 unfold cdL atD stD at hn
 unfold cdL
 rw [Z3 hm]
 unfold W8
 generalize [(0, unlE (decide ((d.rules.length : Int) ≤ 16)) 8), eachK (rulE d.elements d.nodes) (fun p => p.name) [] 0 d.rules, (0, unlE (decide ((d.outputs.length : Int) ≤ 12)) 8), eachK (outE d.nodes) (fun p => p.name) [] 0 d.outputs, (0, unlE (decide ((d.attrs.length : Int) ≤ 16)) 8), eachE (fun _ a => atbE d.rules.length a) 0 d.attrs] = T at *
 unfold resP X7
 unfold W8 at hn
 generalize X8 (dlv d) d.nodes = G0 at *
 by_cases h0 : G0.2 = 0
 ·simp [Zm, Zj, hc, h0]
  exact hn _ (by simp [hws])
 ·simp [Zm, Zj, hc, h0]
theorem cdr_3 (d : Des) (hd : DesOk d) (Kn Kp : List ByteArray) (hK : ∀ x ∈ Kn, okS x) (x : Env × Sto) (hm : atD π d 3 (stD π d Kn Kp [] []) x) : cdL π x = resP [eachK elmE (fun p => p.name) Kn 0 d.elements, X8 (dlv d) d.nodes, (0, unlE (decide ((d.rules.length : Int) ≤ 16)) 8), eachK (rulE d.elements d.nodes) (fun p => p.name) [] 0 d.rules, (0, unlE (decide ((d.outputs.length : Int) ≤ 12)) 8), eachK (outE d.nodes) (fun p => p.name) [] 0 d.outputs, (0, unlE (decide ((d.attrs.length : Int) ≤ 16)) 8), eachE (fun _ a => atbE d.rules.length a) 0 d.attrs] := by
 have hc := e_cd4 (π := π) d hd Kn hK
 simp only [stK1, stK2, List.cons_append, List.nil_append] at hc
 have hn := fun x => cdr_4 (π := π) d hd (endK elmE (fun p => p.name) Kn d.elements) Kp x
 have hws : IntKind.i64.wrap 4 = 4 := rfl
 unfold cdL atD stD at hn
 unfold cdL
 rw [Z3 hm]
 unfold W8
 generalize [X8 (dlv d) d.nodes, (0, unlE (decide ((d.rules.length : Int) ≤ 16)) 8), eachK (rulE d.elements d.nodes) (fun p => p.name) [] 0 d.rules, (0, unlE (decide ((d.outputs.length : Int) ≤ 12)) 8), eachK (outE d.nodes) (fun p => p.name) [] 0 d.outputs, (0, unlE (decide ((d.attrs.length : Int) ≤ 16)) 8), eachE (fun _ a => atbE d.rules.length a) 0 d.attrs] = T at *
 unfold resP X7
 unfold W8 at hn
 generalize eachK elmE (fun p => p.name) Kn 0 d.elements = G0 at *
 by_cases h0 : G0.2 = 0
 ·simp [Zm, Zj, hc, h0]
  exact hn _ (by simp [hws])
 ·simp [Zm, Zj, hc, h0]
theorem cdr_2 (d : Des) (hd : DesOk d) (Kn Kp : List ByteArray) (hK : ∀ x ∈ Kn, okS x) (x : Env × Sto) (hm : atD π d 2 (stD π d Kn Kp [] []) x) : cdL π x = resP [(0, unlE (decide ((d.inputs.length : Int) + d.elements.length ≤ 40)) 8), eachK elmE (fun p => p.name) Kn 0 d.elements, X8 (dlv d) d.nodes, (0, unlE (decide ((d.rules.length : Int) ≤ 16)) 8), eachK (rulE d.elements d.nodes) (fun p => p.name) [] 0 d.rules, (0, unlE (decide ((d.outputs.length : Int) ≤ 12)) 8), eachK (outE d.nodes) (fun p => p.name) [] 0 d.outputs, (0, unlE (decide ((d.attrs.length : Int) ≤ 16)) 8), eachE (fun _ a => atbE d.rules.length a) 0 d.attrs] := by
 have hc := e_cd3 (π := π) d hd
 have hn := fun x => cdr_3 (π := π) d hd Kn Kp hK x
 have hws : IntKind.i64.wrap 3 = 3 := rfl
 unfold cdL atD stD at hn
 unfold cdL
 rw [Z3 hm]
 unfold W8
 generalize [eachK elmE (fun p => p.name) Kn 0 d.elements, X8 (dlv d) d.nodes, (0, unlE (decide ((d.rules.length : Int) ≤ 16)) 8), eachK (rulE d.elements d.nodes) (fun p => p.name) [] 0 d.rules, (0, unlE (decide ((d.outputs.length : Int) ≤ 12)) 8), eachK (outE d.nodes) (fun p => p.name) [] 0 d.outputs, (0, unlE (decide ((d.attrs.length : Int) ≤ 16)) 8), eachE (fun _ a => atbE d.rules.length a) 0 d.attrs] = T at *
 unfold resP X7
 unfold W8 at hn
 generalize unlE (decide ((d.inputs.length : Int) + d.elements.length ≤ 40)) 8 = G0 at *
 by_cases h0 : G0 = 0
 ·simp [Zm, Zj, hc, h0]
  exact hn _ (by simp [hws])
 ·simp [Zm, Zj, hc, h0]
theorem cdr_1 (d : Des) (hd : DesOk d) (x : Env × Sto) (hm : atD π d 1 (stD π d [] [] [] []) x) : cdL π x = resP [eachK prtE (fun p => p.name) [] 0 d.inputs, (0, unlE (decide ((d.inputs.length : Int) + d.elements.length ≤ 40)) 8), eachK elmE (fun p => p.name) (endK prtE (fun p => p.name) [] d.inputs) 0 d.elements, X8 (dlv d) d.nodes, (0, unlE (decide ((d.rules.length : Int) ≤ 16)) 8), eachK (rulE d.elements d.nodes) (fun p => p.name) [] 0 d.rules, (0, unlE (decide ((d.outputs.length : Int) ≤ 12)) 8), eachK (outE d.nodes) (fun p => p.name) [] 0 d.outputs, (0, unlE (decide ((d.attrs.length : Int) ≤ 16)) 8), eachE (fun _ a => atbE d.rules.length a) 0 d.attrs] := by
 have hc := e_cd2 (π := π) d hd
 simp only [stK1, stK2, List.cons_append, List.nil_append] at hc
 have hn := fun x => cdr_2 (π := π) d hd (endK prtE (fun p => p.name) [] d.inputs) (endK prtE (fun p => p.name) [] d.inputs) (endK_ok _ _ [] d.inputs (by simp) hd.inN) x
 have hws : IntKind.i64.wrap 2 = 2 := rfl
 unfold cdL atD stD at hn
 unfold cdL
 rw [Z3 hm]
 unfold W8
 generalize [(0, unlE (decide ((d.inputs.length : Int) + d.elements.length ≤ 40)) 8), eachK elmE (fun p => p.name) (endK prtE (fun p => p.name) [] d.inputs) 0 d.elements, X8 (dlv d) d.nodes, (0, unlE (decide ((d.rules.length : Int) ≤ 16)) 8), eachK (rulE d.elements d.nodes) (fun p => p.name) [] 0 d.rules, (0, unlE (decide ((d.outputs.length : Int) ≤ 12)) 8), eachK (outE d.nodes) (fun p => p.name) [] 0 d.outputs, (0, unlE (decide ((d.attrs.length : Int) ≤ 16)) 8), eachE (fun _ a => atbE d.rules.length a) 0 d.attrs] = T at *
 unfold resP X7
 unfold W8 at hn
 generalize eachK prtE (fun p => p.name) [] 0 d.inputs = G0 at *
 by_cases h0 : G0.2 = 0
 ·simp [Zm, Zj, hc, h0]
  exact hn _ (by simp [hws])
 ·simp [Zm, Zj, hc, h0]
theorem cdr_0 (d : Des) (hd : DesOk d) (x : Env × Sto) (hm : atD π d 0 (stD π d [] [] [] []) x) : cdL π x = resP [(0, Z9 [unlE (nameB d.name) 4, unlE (decide ((d.inputs.length : Int) ≤ 12)) 8]), eachK prtE (fun p => p.name) [] 0 d.inputs, (0, unlE (decide ((d.inputs.length : Int) + d.elements.length ≤ 40)) 8), eachK elmE (fun p => p.name) (endK prtE (fun p => p.name) [] d.inputs) 0 d.elements, X8 (dlv d) d.nodes, (0, unlE (decide ((d.rules.length : Int) ≤ 16)) 8), eachK (rulE d.elements d.nodes) (fun p => p.name) [] 0 d.rules, (0, unlE (decide ((d.outputs.length : Int) ≤ 12)) 8), eachK (outE d.nodes) (fun p => p.name) [] 0 d.outputs, (0, unlE (decide ((d.attrs.length : Int) ≤ 16)) 8), eachE (fun _ a => atbE d.rules.length a) 0 d.attrs] := by
 have hc := e_cd1 (π := π) d hd
 have hn := fun x => cdr_1 (π := π) d hd  x
 have hws : IntKind.i64.wrap 1 = 1 := rfl
 unfold cdL atD stD at hn
 unfold cdL
 rw [Z3 hm]
 unfold W8
 generalize [eachK prtE (fun p => p.name) [] 0 d.inputs, (0, unlE (decide ((d.inputs.length : Int) + d.elements.length ≤ 40)) 8), eachK elmE (fun p => p.name) (endK prtE (fun p => p.name) [] d.inputs) 0 d.elements, X8 (dlv d) d.nodes, (0, unlE (decide ((d.rules.length : Int) ≤ 16)) 8), eachK (rulE d.elements d.nodes) (fun p => p.name) [] 0 d.rules, (0, unlE (decide ((d.outputs.length : Int) ≤ 12)) 8), eachK (outE d.nodes) (fun p => p.name) [] 0 d.outputs, (0, unlE (decide ((d.attrs.length : Int) ≤ 16)) 8), eachE (fun _ a => atbE d.rules.length a) 0 d.attrs] = T at *
 unfold resP X7
 unfold W8 at hn
 generalize Z9 [unlE (nameB d.name) 4, unlE (decide ((d.inputs.length : Int) ≤ 12)) 8] = G0 at *
 by_cases h0 : G0 = 0
 ·simp [Zm, Zj, hc, h0]
  exact hn _ (by simp [hws])
 ·simp [Zm, Zj, hc, h0]
theorem e_CkD (d : Des) (hd : DesOk d) : EE π Z66 [.p (Z5 d)] [] = some (.p (.tup [I (desE d).1, I (desE d).2]), []) := by
 have h := fun x => cdr_0 (π := π) d hd x
 unfold desE Zct
 generalize [(0, Z9 [unlE (nameB d.name) 4, unlE (decide ((d.inputs.length : Int) ≤ 12)) 8]), eachK prtE (fun p => p.name) [] 0 d.inputs, (0, unlE (decide ((d.inputs.length : Int) + d.elements.length ≤ 40)) 8), eachK elmE (fun p => p.name) (endK prtE (fun p => p.name) [] d.inputs) 0 d.elements, X8 (dlv d) d.nodes, (0, unlE (decide ((d.rules.length : Int) ≤ 16)) 8), eachK (rulE d.elements d.nodes) (fun p => p.name) [] 0 d.rules, (0, unlE (decide ((d.outputs.length : Int) ≤ 12)) 8), eachK (outE d.nodes) (fun p => p.name) [] 0 d.outputs, (0, unlE (decide ((d.attrs.length : Int) ≤ 16)) 8), eachE (fun _ a => atbE d.rules.length a) 0 d.attrs] = T at *
 unfold cdL atD stD W8 at h
 simp [e_ds_CkD, Z0, Zii]
 unfold Z5
 simp
 rw [h _ (by simp [entN])]
 by_cases h0 : (X7 T).2 = 0
 ·rw [resP, if_pos h0]; simp [h0, firstP_0 T h0]
 ·rw [resP, if_neg h0]; simp
@[simp] theorem str_beq (a b : ByteArray) : (a.toList == b.toList) = decide (a = b) := by
 rw [Bool.eq_iff_iff, beq_iff_eq, decide_eq_true_iff, ByteArray.toList_eq, ByteArray.toList_eq, Array.toList_inj]
 exact ⟨fun h => by cases a; cases b; simp at h; subst h; rfl, fun h => by rw [h]⟩
theorem Zfr (s : ByteArray) (hs : s.size ≤ top63) : ∀ (d i : Nat) (x : Env × Sto), i + d = s.size → mask [0, 3] [] x = some ([(0, .p (.str s)), (3, .p (I i))], []) →
  kpO [] [2] [] (bkO 0 (iter (round EE iter π [] [0, 3] Z22) x)) = (if Kw s d i = true then some (.nm, [], []) else some (.rt, [(2, .p (.bool false))], []))
 | 0, i, x, h, hm => by
  rw [Z3 hm]
  have : ¬ (i : Int) < s.size := by omega
  simp [Z1l, Nm, this, Kw]
 | d + 1, i, x, h, hm => by
  rw [Z3 hm]
  have hi : i < s.size := by omega
  have hi' : (i : Int) < s.size := by omega
  have hws := Zf hi hs
  have hg : s[i]? = some s[i] := by simp [hi]
  generalize s[i] = b at hg
  have ih := fun y => Zfr s hs d (i + 1) y (by omega)
  have hok : Kw s (d + 1) i = ((letB b.toNat || (decide (i ≠ 0) && (decide ((b.toNat : Int) = 95) || Z8 b.toNat 48 57))) && Kw s d (i + 1)) := by
   simp only [Kw, chB, hg, Option.getD_some]
  rw [hok]
  generalize Kw s d (i + 1) = R at *
  unfold letB Z8
  have e6 : (b.toNat : Int) < 48 ↔ ¬ 48 ≤ (b.toNat : Int) := by omega
  have e7 : 57 < (b.toNat : Int) ↔ ¬ (b.toNat : Int) ≤ 57 := by omega
  have hw1 : IntKind.i64.wrap 1 = 1 := rfl
  by_cases a8 : i = 0
  ·subst a8
   have hgb : s[0] = b := by simpa [hi] using hg
   by_cases a1 : 97 ≤ (b.toNat : Int) <;> by_cases a2 : (b.toNat : Int) ≤ 122 <;> try (exfalso; omega)
   all_goals by_cases a3 : 65 ≤ (b.toNat : Int) <;> by_cases a4 : (b.toNat : Int) ≤ 90 <;> try (exfalso; omega)
   all_goals simp [Z1l, Nm, hi, hgb, a1, a2, a3, a4]
   all_goals try (first | done | exact ih _ (by simp [hws, hw1]))
  ·by_cases a1 : 97 ≤ (b.toNat : Int) <;> by_cases a2 : (b.toNat : Int) ≤ 122 <;> try (exfalso; omega)
   all_goals by_cases a3 : 65 ≤ (b.toNat : Int) <;> by_cases a4 : (b.toNat : Int) ≤ 90 <;> try (exfalso; omega)
   all_goals by_cases a5 : (b.toNat : Int) = 95 <;> by_cases a6 : 48 ≤ (b.toNat : Int) <;> try (exfalso; omega)
   all_goals by_cases a7 : (b.toNat : Int) ≤ 57 <;> try (exfalso; omega)
   all_goals simp [Z1l, Nm, hi', hg, a1, a2, a3, a4, a5, a6, a7, a8, e6, e7]
   all_goals try (first | done | exact ih _ (by simp [hws, hw1]))
theorem Z5g (s : ByteArray) (hs : s.size ≤ top63) : EE π Qq [.p (.str s)] [] = some (.p (.bool (nameB s)), []) := by
 unfold nameB
 by_cases h1 : (s.size : Int) < 1
 ·have : Z8 (s.size : Int) 1 16 = false := by unfold Z8; simp; omega
  simp [Z7b, Z0, Z0e, h1, this]
 ·by_cases h2 : 16 < (s.size : Int)
  ·have : Z8 (s.size : Int) 1 16 = false := by unfold Z8; simp; omega
   simp [Z7b, Z0, Z0e, h1, h2, this]
  ·have : Z8 (s.size : Int) 1 16 = true := by unfold Z8; simp; omega
   simp [Z7b, Z0, Z0e, h1, h2, this]
   rw [Zfr s hs s.size 0 _ (by omega) (by simp)]
   by_cases hf : Kw s s.size 0 = true
   ·simp [hf]
   ·have : Kw s s.size 0 = false := by simpa using hf
    simp [this]
theorem pin_loop (l : List Prt) (hl : l.length ≤ 1000)  (pre post : List Prt) (y : Prt) (h : l = pre ++ y :: post) : ∀ (suf p1 : List Prt) (x : Env × Sto), pre = p1 ++ suf → mask [0, 4, 5] [] x = some ([(0, .p (Xn l)), (4, .p (I pre.length)), (5, .p (I p1.length))], []) →
  kpO [0, 4] [2, 3] [] (bkO 2 (iter (round EE iter π [] [0, 4, 5] Gy) x)) = (if hasN y.name (suf.map fun p => p.name) = true then some (.rt, [(2, .p (I pre.length)), (3, .p (I 5))], []) else some (.nm, [(0, .p (Xn l)), (4, .p (I pre.length))], []))
 | [], p1, x, h1, hm => by
  rw [Z3 hm]
  have : p1 = pre := by simpa using h1.symm
  subst this
  simp [Gl, Uc, hasN]
 | z :: suf, p1, x, h1, hm => by
  rw [Z3 hm]
  have hg : l[pre.length]? = some y := by rw [h]; simp
  have hg1 : l[p1.length]? = some z := by rw [h, h1]; simp
  have hlt : (p1.length : Int) < pre.length := by rw [h1]; simp; omega
  have hlen : l.length = pre.length + (post.length + 1) := by rw [h]; simp
  have hws := Zf (show p1.length < l.length by omega) (show l.length ≤ top63 by simp only [top63]; omega)
  have ih := fun x => pin_loop l hl pre post y h suf (p1 ++ [z]) x
  by_cases hn : z.name = y.name
  ·simp [Gl, Uc, hlt, hg, hg1, Wt, hn, hasN, evRO]
  ·have hh : hasN y.name ((z :: suf).map fun p => p.name) = hasN y.name (suf.map fun p => p.name) := by simp [hasN, hn]
   rw [hh]
   simp [Gl, Uc, hlt, hg, hg1, Wt, hn, evRO]
   exact ih _ (by simp [h1]) (by simp [hws])
theorem ein_loop (l : List Elm) (hl : l.length ≤ 1000) (N : PV) (pre post : List Elm) (y : Elm) (h : l = pre ++ y :: post) : ∀ (suf p1 : List Elm) (x : Env × Sto), pre = p1 ++ suf → mask [0, 1, 6, 7] [] x = some ([(0, .p N), (1, .p (W0 l)), (6, .p (I pre.length)), (7, .p (I p1.length))], []) →
  kpO [0, 1, 6] [4, 5] [] (bkO 2 (iter (round EE iter π [] [0, 1, 6, 7] Ma) x)) = (if hasN y.name (suf.map fun p => p.name) = true then some (.rt, [(4, .p (I pre.length)), (5, .p (I 5))], []) else some (.nm, [(0, .p N), (1, .p (W0 l)), (6, .p (I pre.length))], []))
 | [], p1, x, h1, hm => by
  rw [Z3 hm]
  have : p1 = pre := by simpa using h1.symm
  subst this
  simp [Ny, Wn, hasN]
 | z :: suf, p1, x, h1, hm => by
  rw [Z3 hm]
  have hg : l[pre.length]? = some y := by rw [h]; simp
  have hg1 : l[p1.length]? = some z := by rw [h, h1]; simp
  have hlt : (p1.length : Int) < pre.length := by rw [h1]; simp; omega
  have hlen : l.length = pre.length + (post.length + 1) := by rw [h]; simp
  have hws := Zf (show p1.length < l.length by omega) (show l.length ≤ top63 by simp only [top63]; omega)
  have ih := fun x => ein_loop l hl N pre post y h suf (p1 ++ [z]) x
  by_cases hn : z.name = y.name
  ·simp [Ny, Wn, hlt, hg, hg1, Zu, hn, hasN, evRO]
  ·have hh : hasN y.name ((z :: suf).map fun p => p.name) = hasN y.name (suf.map fun p => p.name) := by simp [hasN, hn]
   rw [hh]
   simp [Ny, Wn, hlt, hg, hg1, Zu, hn, evRO]
   exact ih _ (by simp [h1]) (by simp [hws])
theorem oin_loop (l : List Otp) (hl : l.length ≤ 1000) (N : PV) (pre post : List Otp) (y : Otp) (h : l = pre ++ y :: post) : ∀ (suf p1 : List Otp) (x : Env × Sto), pre = p1 ++ suf → mask [0, 1, 6, 7] [] x = some ([(0, .p N), (1, .p (Us l)), (6, .p (I pre.length)), (7, .p (I p1.length))], []) →
  kpO [0, 1, 6] [4, 5] [] (bkO 2 (iter (round EE iter π [] [0, 1, 6, 7] K2) x)) = (if hasN y.name (suf.map fun p => p.name) = true then some (.rt, [(4, .p (I pre.length)), (5, .p (I 5))], []) else some (.nm, [(0, .p N), (1, .p (Us l)), (6, .p (I pre.length))], []))
 | [], p1, x, h1, hm => by
  rw [Z3 hm]
  have : p1 = pre := by simpa using h1.symm
  subst this
  simp [L9, V7, hasN]
 | z :: suf, p1, x, h1, hm => by
  rw [Z3 hm]
  have hg : l[pre.length]? = some y := by rw [h]; simp
  have hg1 : l[p1.length]? = some z := by rw [h, h1]; simp
  have hlt : (p1.length : Int) < pre.length := by rw [h1]; simp; omega
  have hlen : l.length = pre.length + (post.length + 1) := by rw [h]; simp
  have hws := Zf (show p1.length < l.length by omega) (show l.length ≤ top63 by simp only [top63]; omega)
  have ih := fun x => oin_loop l hl N pre post y h suf (p1 ++ [z]) x
  by_cases hn : z.name = y.name
  ·simp [L9, V7, hlt, hg, hg1, U9, hn, hasN, evRO]
  ·have hh : hasN y.name ((z :: suf).map fun p => p.name) = hasN y.name (suf.map fun p => p.name) := by simp [hasN, hn]
   rw [hh]
   simp [L9, V7, hlt, hg, hg1, U9, hn, evRO]
   exact ih _ (by simp [h1]) (by simp [hws])
theorem hasN_append (s : ByteArray) (a b : List ByteArray) : hasN s (a ++ b) = (hasN s a || hasN s b) := by simp [hasN]
theorem prts_loop (l : List Prt) (hl : l.length ≤ 1000) (hp : ∀ p ∈ l, okS p.name) : ∀ (suf pre : List Prt) (x : Env × Sto), l = pre ++ suf → mask [0, 4] [] x = some ([(0, .p (Xn l)), (4, .p (I pre.length))], []) →
  kpO [] [2, 3] [] (bkO 0 (iter (round EE iter π [] [0, 4] Gz) x)) = (if (eachK prtE (fun p => p.name) (pre.map fun p => p.name) pre.length suf).2 = 0 then some (.nm, [], []) else some (.rt, [(2, .p (I (eachK prtE (fun p => p.name) (pre.map fun p => p.name) pre.length suf).1)), (3, .p (I (eachK prtE (fun p => p.name) (pre.map fun p => p.name) pre.length suf).2))], []))
 | [], pre, x, h, hm => by
  rw [Z3 hm]
  have : pre = l := by simpa using h.symm
  subst this
  simp [Vz, W3, eachK]
 | y :: suf, pre, x, h, hm => by
  rw [Z3 hm]
  have hg : l[pre.length]? = some y := by rw [h]; simp
  have hlt := Zc h
  have hws := Zf (show pre.length < l.length by omega) (show l.length ≤ top63 by simp only [top63]; omega)
  have ih := fun x => prts_loop l hl hp suf (pre ++ [y]) x
  have hin := pin_loop (π := π) l hl pre suf y h pre []
  have hnm := fun π => Z5g (π := π) y.name (hp y (by rw [h]; simp))
  have hE : prtE (pre.map fun p => p.name) y = if nameB y.name = false then 4 else if hasN y.name (pre.map fun p => p.name) = true then 5 else if Z8 y.width 1 16 = false then 2 else 0 := by
   unfold prtE nmE
   cases nameB y.name <;> cases hasN y.name (pre.map fun p => p.name) <;> cases Z8 y.width 1 16 <;> rfl
  simp only [eachK]
  rw [hE]
  by_cases h1 : nameB y.name = false
  ·simp [Vz, W3, hlt, hg, Wt, hnm, h1]
  ·have h1 : nameB y.name = true := by simpa using h1
   by_cases h2 : hasN y.name (pre.map fun p => p.name) = true
   ·simp only [h2, if_true] at hin
    simp [Vz, W3, hlt, hg, Wt, hnm, h1, h2]
    rw [hin _ rfl (by simp [Wt])]
    simp
   ·have h2 : hasN y.name (pre.map fun p => p.name) = false := by simpa using h2
    simp only [h2, if_false, Bool.false_eq_true] at hin
    by_cases h3 : Z8 y.width 1 16 = false
    ·simp [Vz, W3, hlt, hg, Wt, hnm, h1, h2, h3]
     rw [hin _ rfl (by simp [Wt])]
     simp [hg, Wt, Nh, h3, hlt]
    ·have h3 : Z8 y.width 1 16 = true := by simpa using h3
     simp [Vz, W3, hlt, hg, Wt, hnm, h1, h2, h3]
     rw [hin _ rfl (by simp [Wt])]
     simp [hg, Wt, Nh, h3, hlt]
     rw [show pre.length + 1 = (pre ++ [y]).length by simp, show (pre.map fun p => p.name) ++ [y.name] = (pre ++ [y]).map fun p => p.name by simp]
     exact ih _ (by simp [h]) (by simp [hws])
theorem e_PortsErr (l : List Prt) (hl : l.length ≤ 1000) (hp : ∀ p ∈ l, okS p.name) :
  EE π Li [.p (Xn l)] [] = some (.p (.tup [I (if 12 < l.length then (0, 8) else eachK prtE (fun p => p.name) [] 0 l).1, I (if 12 < l.length then (0, 8) else eachK prtE (fun p => p.name) [] 0 l).2]), []) := by
 by_cases h : 12 < l.length
 ·have h' : (12 : Int) < l.length := by omega
  simp [Z3l, Z0, K1, h, h']
 ·have h' : ¬ (12 : Int) < l.length := by omega
  have hlp := prts_loop (π := π) l hl hp l []
  simp [Z3l, Z0, K1, h, h']
  rw [hlp _ rfl (by simp)]
  have hz := Z57 prtE (fun p : Prt => p.name) [] 0 l
  simp only [List.map_nil, List.length_nil]
  by_cases hf : (eachK prtE (fun p : Prt => p.name) [] 0 l).2 = 0
  ·simp [hf, hz hf]
  ·simp [hf]
theorem e_PortsErrA (l : List Prt) (hp : ∀ p ∈ l, okS p.name) :
  EE π Li [.p (Xn l)] [] = some (.p (.tup [I (if 12 < l.length then (0, 8) else eachK prtE (fun p => p.name) [] 0 l).1, I (if 12 < l.length then (0, 8) else eachK prtE (fun p => p.name) [] 0 l).2]), []) := by
 by_cases hl : l.length ≤ 1000
 ·exact e_PortsErr l hl hp
 ·have h : 12 < l.length := by omega
  have h' : (12 : Int) < l.length := by omega
  simp [Z3l, Z0, K1, h, h']
theorem ein2_loop (l : List Elm) (hl : l.length ≤ 1000) (ins : List Prt) (hil : ins.length ≤ 1000) (pre post : List Elm) (y : Elm) (h : l = pre ++ y :: post) : ∀ (suf p1 : List Prt) (x : Env × Sto), ins = p1 ++ suf → mask [0, 1, 6, 8] [] x = some ([(0, .p (Xn ins)), (1, .p (W0 l)), (6, .p (I pre.length)), (8, .p (I p1.length))], []) →
  kpO [0, 1, 6] [4, 5] [] (bkO 4 (iter (round EE iter π [] [0, 1, 6, 8] M9) x)) = (if hasN y.name (suf.map fun p => p.name) = true then some (.rt, [(4, .p (I pre.length)), (5, .p (I 5))], []) else some (.nm, [(0, .p (Xn ins)), (1, .p (W0 l)), (6, .p (I pre.length))], []))
 | [], p1, x, h1, hm => by
  rw [Z3 hm]
  have : p1 = ins := by simpa using h1.symm
  subst this
  simp [Nx, Wm, hasN]
 | z :: suf, p1, x, h1, hm => by
  rw [Z3 hm]
  have hg : l[pre.length]? = some y := by rw [h]; simp
  have hg1 : ins[p1.length]? = some z := by rw [h1]; simp
  have hlt := Zc h1
  have hws := Zf (show p1.length < ins.length by omega) (show ins.length ≤ top63 by simp only [top63]; omega)
  have ih := fun x => ein2_loop l hl ins hil pre post y h suf (p1 ++ [z]) x
  by_cases hn : z.name = y.name
  ·simp [Nx, Wm, hlt, hg, hg1, Zu, Wt, hn, hasN, evRO]
  ·have hh : hasN y.name ((z :: suf).map fun p => p.name) = hasN y.name (suf.map fun p => p.name) := by simp [hasN, hn]
   rw [hh]
   simp [Nx, Wm, hlt, hg, hg1, Zu, Wt, hn, evRO]
   exact ih _ (by simp [h1]) (by simp [hws])
theorem elmE_eq (K : List ByteArray) (y : Elm) : elmE K y = if nameB y.name = false then 4 else if hasN y.name K = true then 5 else if Z8 y.kind 0 1 = false then 15 else if Z8 y.width 1 16 = false then 2 else if (fitsB y.init y.width && Z8 y.clock 0 3) = false then 2 else 0 := by
 unfold elmE nmE
 cases nameB y.name <;> cases hasN y.name K <;> cases Z8 y.kind 0 1 <;> cases Z8 y.width 1 16 <;> cases (fitsB y.init y.width && Z8 y.clock 0 3) <;> rfl
theorem elms_loop (l : List Elm) (hl : l.length ≤ 1000) (ins : List Prt) (hil : ins.length ≤ 1000) (hp : ∀ p ∈ l, okS p.name) : ∀ (suf pre : List Elm) (x : Env × Sto), l = pre ++ suf → mask [0, 1, 6] [] x = some ([(0, .p (Xn ins)), (1, .p (W0 l)), (6, .p (I pre.length))], []) →
  kpO [] [4, 5] [] (bkO 0 (iter (round EE iter π [] [0, 1, 6] Mb) x)) = (if (eachK elmE (fun p => p.name) (ins.map (fun p => p.name) ++ pre.map fun p => p.name) pre.length suf).2 = 0 then some (.nm, [], []) else some (.rt, [(4, .p (I (eachK elmE (fun p => p.name) (ins.map (fun p => p.name) ++ pre.map fun p => p.name) pre.length suf).1)), (5, .p (I (eachK elmE (fun p => p.name) (ins.map (fun p => p.name) ++ pre.map fun p => p.name) pre.length suf).2))], []))
 | [], pre, x, h, hm => by
  rw [Z3 hm]
  have : pre = l := by simpa using h.symm
  subst this
  simp [Zx, Zn, eachK]
 | y :: suf, pre, x, h, hm => by
  rw [Z3 hm]
  have hg : l[pre.length]? = some y := by rw [h]; simp
  have hlt := Zc h
  have hws := Zf (show pre.length < l.length by omega) (show l.length ≤ top63 by simp only [top63]; omega)
  have ih := fun x => elms_loop l hl ins hil hp suf (pre ++ [y]) x
  have hin := ein_loop (π := π) l hl (Xn ins) pre suf y h pre []
  have hin2 := ein2_loop (π := π) l hl ins hil pre suf y h ins []
  have hnm := fun π => Z5g (π := π) y.name (hp y (by rw [h]; simp))
  have hwk := fun π => X9 (π := π) y.kind 0 1
  have hwc := fun π => X9 (π := π) y.clock 0 3
  have hww := fun π => Nh (π := π) y.width
  simp only [eachK]
  rw [elmE_eq, hasN_append]
  by_cases h1 : nameB y.name = false
  ·simp [Zx, Zn, hlt, hg, Zu, hnm, h1]
  ·have h1 : nameB y.name = true := by simpa using h1
   by_cases h2 : hasN y.name (pre.map fun p => p.name) = true
   ·simp only [h2, if_true] at hin
    simp [Zx, Zn, hlt, hg, Zu, hnm, h1, h2]
    rw [hin _ rfl (by simp [Zu])]
    simp
   ·have h2 : hasN y.name (pre.map fun p => p.name) = false := by simpa using h2
    simp only [h2, if_false, Bool.false_eq_true] at hin
    by_cases h3 : hasN y.name (ins.map fun p => p.name) = true
    ·simp only [h3, if_true] at hin2
     simp [Zx, Zn, hlt, hg, Zu, hnm, h1, h2, h3]
     rw [hin _ rfl (by simp [Zu])]
     simp
     rw [hin2 _ rfl (by simp [Zu])]
     simp
    ·have h3 : hasN y.name (ins.map fun p => p.name) = false := by simpa using h3
     simp only [h3, if_false, Bool.false_eq_true] at hin2
     have go : ∀ (R : Option (Ex × Env × Sto)), True → True := fun _ h => h
     by_cases h4 : Z8 y.kind 0 1 = false
     ·simp [Zx, Zn, hlt, hg, Zu, hnm, h1, h2, h3, h4]
      rw [hin _ rfl (by simp [Zu])]
      simp
      rw [hin2 _ rfl (by simp [Zu])]
      simp [hg, Zu, hwk, h4, hlt]
     ·have h4 : Z8 y.kind 0 1 = true := by simpa using h4
      by_cases h5 : Z8 y.width 1 16 = false
      ·simp [Zx, Zn, hlt, hg, Zu, hnm, h1, h2, h3, h4, h5]
       rw [hin _ rfl (by simp [Zu])]
       simp
       rw [hin2 _ rfl (by simp [Zu])]
       simp [hg, Zu, hwk, hww, h4, h5, hlt, evRO, Z4]
      ·have h5 : Z8 y.width 1 16 = true := by simpa using h5
       have hfi := fun π => e_Fits (π := π) y.init y.width (by have := Zb.1 h5; omega)
       generalize hfb : fitsB y.init y.width = fb at *
       generalize hcb : Z8 y.clock 0 3 = cb at *
       cases fb
       ·simp [Zx, Zn, hlt, hg, Zu, hnm, h1, h2, h3, h4, h5]
        rw [hin _ rfl (by simp [Zu])]
        simp
        rw [hin2 _ rfl (by simp [Zu])]
        simp [hg, Zu, hwk, hww, hfi, hwc, h4, h5, hlt, evRO, Z4]
       ·cases cb
        ·simp [Zx, Zn, hlt, hg, Zu, hnm, h1, h2, h3, h4, h5]
         rw [hin _ rfl (by simp [Zu])]
         simp
         rw [hin2 _ rfl (by simp [Zu])]
         simp [hg, Zu, hwk, hww, hfi, hwc, h4, h5, hlt, evRO, Z4]
        ·simp [Zx, Zn, hlt, hg, Zu, hnm, h1, h2, h3, h4, h5]
         rw [hin _ rfl (by simp [Zu])]
         simp
         rw [hin2 _ rfl (by simp [Zu])]
         simp [hg, Zu, hwk, hww, hfi, hwc, h4, h5, hlt, evRO, Z4]
         rw [show pre.length + 1 = (pre ++ [y]).length by simp, show ins.map (fun p => p.name) ++ ((pre.map fun p => p.name) ++ [y.name]) = ins.map (fun p => p.name) ++ (pre ++ [y]).map fun p => p.name by simp]
         exact ih _ (by simp [h]) (by simp [hws])
theorem Zi4 (ins : List Prt) (hil : ins.length ≤ 1000) (l : List Elm) (hl : l.length ≤ 1000) (hp : ∀ p ∈ l, okS p.name) :
  EE π U5 [.p (Xn ins), .p (W0 l)] [] = some (.p (.tup [I (if 40 < ins.length + l.length then (0, 8) else eachK elmE (fun p => p.name) (ins.map fun p => p.name) 0 l).1, I (if 40 < ins.length + l.length then (0, 8) else eachK elmE (fun p => p.name) (ins.map fun p => p.name) 0 l).2]), []) := by
 have hw : IntKind.i64.wrap ((ins.length : Int) + l.length) = (ins.length : Int) + l.length := w64 ⟨by omega, by omega⟩
 by_cases h : 40 < ins.length + l.length
 ·have h' : (40 : Int) < (ins.length : Int) + l.length := by omega
  simp [Gu, Z0, Ub, h, h', hw]
 ·have h' : ¬ (40 : Int) < (ins.length : Int) + l.length := by omega
  have hlp := elms_loop (π := π) l hl ins hil hp l []
  simp [Gu, Z0, Ub, h, h', hw]
  rw [hlp _ rfl (by simp)]
  have hz := Z57 elmE (fun p : Elm => p.name) (ins.map fun p => p.name) 0 l
  simp only [List.map_nil, List.length_nil, List.append_nil]
  by_cases hf : (eachK elmE (fun p : Elm => p.name) (ins.map fun p => p.name) 0 l).2 = 0
  ·simp [hf, hz hf]
  ·simp [hf]
theorem Zi3 (nodes : List Nod) (n : Int) (hl : nodes.length ≤ 1000) : EE π H7 [.p (Za nodes), .p (I n)] [] = some (.p (.bool (Q0 nodes n)), []) := by
 have hw : IntKind.i64.wrap ((nodes.length : Int) - 1) = (nodes.length : Int) - 1 := w64 ⟨by omega, by omega⟩
 simp [e_rb_IsNode, Z0, Z7m, hw, X9, Q0]
theorem e_IsCond (nodes : List Nod) (n : Int) (hl : nodes.length ≤ 1000) : EE π U4 [.p (Za nodes), .p (I n)] [] = some (.p (.bool (Qz nodes n)), []) := by
 have hn := fun π => Zi3 (π := π) nodes n hl
 unfold Qz
 by_cases h : Q0 nodes n = true
 ·have hi := Hc.1 h
  have hlt : n.toNat < nodes.length := by omega
  have hg : nodes[n.toNat] = nodes.getD n.toNat nod0 := by simp [hlt]
  have hwd : widOf nodes n = (nodes.getD n.toNat nod0).width := rfl
  rw [hwd]
  generalize nodes.getD n.toNat nod0 = x at *
  have hln : n < (nodes.length : Int) := by omega
  simp [Z4j, Z0, Ns, hn, h, hlt, hg, hi.1, hln, Z4]
 ·have h : Q0 nodes n = false := by simpa using h
  simp [Z4j, Z0, Ns, hn, h, Z4]
theorem wrts_loop (els : List Elm) (hel : els.length ≤ 1000) (nodes : List Nod) (hnl : nodes.length ≤ 1000) (l : List Wrt) (hl : l.length ≤ 1000) : ∀ (suf pre : List Wrt) (x : Env × Sto), l = pre ++ suf → mask [0, 1, 2, 7] [] x = some ([(0, .p (W0 els)), (1, .p (Za nodes)), (2, .p (Z1s l)), (7, .p (I pre.length))], []) →
  kpO [] [6] [] (bkO 0 (iter (round EE iter π [] [0, 1, 2, 7] Hj) x)) = (if (eachE (fun _ w => wrtE els nodes w) pre.length suf).2 = 0 then some (.nm, [], []) else some (.rt, [(6, .p (I (eachE (fun _ w => wrtE els nodes w) pre.length suf).2))], []))
 | [], pre, x, h, hm => by
  rw [Z3 hm]
  have : pre = l := by simpa using h.symm
  subst this
  simp [Wc, Ys, eachE]
 | y :: suf, pre, x, h, hm => by
  rw [Z3 hm]
  have hg : l[pre.length]? = some y := by rw [h]; simp
  have hlt := Zc h
  have hws := Zf (show pre.length < l.length by omega) (show l.length ≤ top63 by simp only [top63]; omega)
  have ih := fun x => wrts_loop els hel nodes hnl l hl suf (pre ++ [y]) x
  have hw : IntKind.i64.wrap ((els.length : Int) - 1) = (els.length : Int) - 1 := w64 ⟨by omega, by omega⟩
  have hwi := fun π => X9 (π := π) y.el 0 ((els.length : Int) - 1)
  have hn := fun π => Zi3 (π := π) nodes y.val hnl
  have hc := fun π => e_IsCond (π := π) nodes y.whn hnl
  simp only [eachE]
  by_cases h1 : Z8 y.el 0 ((els.length : Int) - 1) = true
  ·by_cases h2 : Qz nodes y.whn = true
   ·by_cases h3 : Q0 nodes y.val = true
    ·have hE : wrtE els nodes y = unlE (decide (widOf nodes y.val = ewOf els y.el)) 25 := by simp [wrtE, h1, h2, h3, unlE, Z9]
     have hi := Hc.1 h3
     have hj := Zb.1 h1
     have hlt1 : y.val.toNat < nodes.length := by omega
     have hg1 : nodes[y.val.toNat] = nodes.getD y.val.toNat nod0 := by simp [hlt1]
     have hln : y.val < (nodes.length : Int) := by omega
     have hlt' : y.el.toNat < els.length := by omega
     have hg' : els[y.el.toNat] = els.getD y.el.toNat elm0 := by simp [hlt']
     have hln' : y.el < (els.length : Int) := by omega
     have hwd : widOf nodes y.val = (nodes.getD y.val.toNat nod0).width := rfl
     have hwd' : ewOf els y.el = (els.getD y.el.toNat elm0).width := rfl
     rw [hE, hwd, hwd']
     generalize nodes.getD y.val.toNat nod0 = p at *
     generalize els.getD y.el.toNat elm0 = q at *
     by_cases h4 : p.width = q.width
     ·simp [Wc, Ys, hlt, hg, W9, hw, hwi, h1, hc, h2, hn, h3, evRO, hlt1, hg1, hln, hlt', hg', hln', hi.1, hj.1, Zu, h4, unlE, Z4]
      rw [show pre.length + 1 = (pre ++ [y]).length by simp]
      exact ih _ (by simp [h]) (by simp [hws])
     ·simp [Wc, Ys, hlt, hg, W9, hw, hwi, h1, hc, h2, hn, h3, evRO, hlt1, hg1, hln, hlt', hg', hln', hi.1, hj.1, Zu, h4, unlE, Z4]
    ·have h3 : Q0 nodes y.val = false := by simpa using h3
     have hE : wrtE els nodes y = 9 := by simp [wrtE, h1, h2, h3, unlE, Z9]
     rw [hE]
     simp [Wc, Ys, hlt, hg, W9, hw, hwi, h1, hc, h2, hn, h3, evRO, Z4]
   ·have h2 : Qz nodes y.whn = false := by simpa using h2
    have hE : wrtE els nodes y = 9 := by simp [wrtE, h1, h2, unlE, Z9]
    rw [hE]
    simp [Wc, Ys, hlt, hg, W9, hw, hwi, h1, hc, h2, evRO, Z4]
  ·have h1 : Z8 y.el 0 ((els.length : Int) - 1) = false := by simpa using h1
   have hE : wrtE els nodes y = 6 := by simp [wrtE, h1, unlE, Z9]
   rw [hE]
   simp [Wc, Ys, hlt, hg, W9, hw, hwi, h1, evRO, Z4]
theorem e_WritesErr (els : List Elm) (hel : els.length ≤ 1000) (nodes : List Nod) (hnl : nodes.length ≤ 1000) (l : List Wrt) (hl : l.length ≤ 1000) :
  EE π N0 [.p (W0 els), .p (Za nodes), .p (Z1s l)] [] = some (.p (I (if 16 < l.length then 8 else (eachE (fun _ w => wrtE els nodes w) 0 l).2)), []) := by
 by_cases h : 16 < l.length
 ·have h' : (16 : Int) < l.length := by omega
  simp [Z1t, Z0, Nj, h, h']
 ·have h' : ¬ (16 : Int) < l.length := by omega
  have hlp := wrts_loop (π := π) els hel nodes hnl l hl l []
  simp [Z1t, Z0, Nj, h, h']
  rw [hlp _ rfl (by simp)]
  simp only [List.length_nil]
  by_cases hf : (eachE (fun _ w => wrtE els nodes w) 0 l).2 = 0
  ·simp [hf]
  ·simp [hf]
theorem outs_loop (nodes : List Nod) (hnl : nodes.length ≤ 1000) (l : List Otp) (hl : l.length ≤ 1000) (hp : ∀ p ∈ l, okS p.name) : ∀ (suf pre : List Otp) (x : Env × Sto), l = pre ++ suf → mask [0, 1, 6] [] x = some ([(0, .p (Za nodes)), (1, .p (Us l)), (6, .p (I pre.length))], []) →
  kpO [] [4, 5] [] (bkO 0 (iter (round EE iter π [] [0, 1, 6] K3) x)) = (if (eachK (outE nodes) (fun p => p.name) (pre.map fun p => p.name) pre.length suf).2 = 0 then some (.nm, [], []) else some (.rt, [(4, .p (I (eachK (outE nodes) (fun p => p.name) (pre.map fun p => p.name) pre.length suf).1)), (5, .p (I (eachK (outE nodes) (fun p => p.name) (pre.map fun p => p.name) pre.length suf).2))], []))
 | [], pre, x, h, hm => by
  rw [Z3 hm]
  have : pre = l := by simpa using h.symm
  subst this
  simp [Wz, X4, eachK]
 | y :: suf, pre, x, h, hm => by
  rw [Z3 hm]
  have hg : l[pre.length]? = some y := by rw [h]; simp
  have hlt := Zc h
  have hws := Zf (show pre.length < l.length by omega) (show l.length ≤ top63 by simp only [top63]; omega)
  have ih := fun x => outs_loop nodes hnl l hl hp suf (pre ++ [y]) x
  have hin := oin_loop (π := π) l hl (Za nodes) pre suf y h pre []
  have hnm := fun π => Z5g (π := π) y.name (hp y (by rw [h]; simp))
  have hn := fun π => Zi3 (π := π) nodes y.node hnl
  have hE : outE nodes (pre.map fun p => p.name) y = if nameB y.name = false then 4 else if hasN y.name (pre.map fun p => p.name) = true then 5 else if Q0 nodes y.node = false then 9 else 0 := by
   unfold outE nmE
   cases nameB y.name <;> cases hasN y.name (pre.map fun p => p.name) <;> cases Q0 nodes y.node <;> rfl
  simp only [eachK]
  rw [hE]
  by_cases h1 : nameB y.name = false
  ·simp [Wz, X4, hlt, hg, U9, hnm, h1]
  ·have h1 : nameB y.name = true := by simpa using h1
   by_cases h2 : hasN y.name (pre.map fun p => p.name) = true
   ·simp only [h2, if_true] at hin
    simp [Wz, X4, hlt, hg, U9, hnm, h1, h2]
    rw [hin _ rfl (by simp [U9])]
    simp
   ·have h2 : hasN y.name (pre.map fun p => p.name) = false := by simpa using h2
    simp only [h2, if_false, Bool.false_eq_true] at hin
    by_cases h3 : Q0 nodes y.node = false
    ·simp [Wz, X4, hlt, hg, U9, hnm, h1, h2, h3]
     rw [hin _ rfl (by simp [U9])]
     simp [hg, U9, hn, h3, hlt]
    ·have h3 : Q0 nodes y.node = true := by simpa using h3
     simp [Wz, X4, hlt, hg, U9, hnm, h1, h2, h3]
     rw [hin _ rfl (by simp [U9])]
     simp [hg, U9, hn, h3, hlt]
     rw [show pre.length + 1 = (pre ++ [y]).length by simp, show (pre.map fun p => p.name) ++ [y.name] = (pre ++ [y]).map fun p => p.name by simp]
     exact ih _ (by simp [h]) (by simp [hws])
theorem e_OutputsErr (nodes : List Nod) (hnl : nodes.length ≤ 1000) (l : List Otp) (hl : l.length ≤ 1000) (hp : ∀ p ∈ l, okS p.name) :
  EE π Qm [.p (Za nodes), .p (Us l)] [] = some (.p (.tup [I (if 12 < l.length then (0, 8) else eachK (outE nodes) (fun p => p.name) [] 0 l).1, I (if 12 < l.length then (0, 8) else eachK (outE nodes) (fun p => p.name) [] 0 l).2]), []) := by
 by_cases h : 12 < l.length
 ·have h' : (12 : Int) < l.length := by omega
  simp [Z06, Z0, P7, h, h']
 ·have h' : ¬ (12 : Int) < l.length := by omega
  have hlp := outs_loop (π := π) nodes hnl l hl hp l []
  simp [Z06, Z0, P7, h, h']
  rw [hlp _ rfl (by simp)]
  have hz := Z57 (outE nodes) (fun p : Otp => p.name) [] 0 l
  simp only [List.map_nil, List.length_nil]
  by_cases hf : (eachK (outE nodes) (fun p : Otp => p.name) [] 0 l).2 = 0
  ·simp [hf, hz hf]
  ·simp [hf]
theorem Zf6 (ins : List Prt) (hil : ins.length ≤ 1000) (l : List Elm) (hl2 : l.length ≤ 4611686018427387904) (hp : ∀ p ∈ l, okS p.name) :
  EE π U5 [.p (Xn ins), .p (W0 l)] [] = some (.p (.tup [I (if 40 < ins.length + l.length then (0, 8) else eachK elmE (fun p => p.name) (ins.map fun p => p.name) 0 l).1, I (if 40 < ins.length + l.length then (0, 8) else eachK elmE (fun p => p.name) (ins.map fun p => p.name) 0 l).2]), []) := by
 by_cases hl : l.length ≤ 1000
 ·exact Zi4 ins hil l hl hp
 ·have hw : IntKind.i64.wrap ((ins.length : Int) + l.length) = (ins.length : Int) + l.length := w64 ⟨by omega, by omega⟩
  have h : 40 < ins.length + l.length := by omega
  have h' : (40 : Int) < (ins.length : Int) + l.length := by omega
  simp [Gu, Z0, Ub, h, h', hw]
theorem e_WritesErrA (els : List Elm) (hel : els.length ≤ 1000) (nodes : List Nod) (hnl : nodes.length ≤ 1000) (l : List Wrt) :
  EE π N0 [.p (W0 els), .p (Za nodes), .p (Z1s l)] [] = some (.p (I (if 16 < l.length then 8 else (eachE (fun _ w => wrtE els nodes w) 0 l).2)), []) := by
 by_cases hl : l.length ≤ 1000
 ·exact e_WritesErr els hel nodes hnl l hl
 ·have h : 16 < l.length := by omega
  have h' : (16 : Int) < l.length := by omega
  simp [Z1t, Z0, Nj, h, h']
theorem Zi1 (nodes : List Nod) (hnl : nodes.length ≤ 1000) (l : List Otp) (hp : ∀ p ∈ l, okS p.name) :
  EE π Qm [.p (Za nodes), .p (Us l)] [] = some (.p (.tup [I (if 12 < l.length then (0, 8) else eachK (outE nodes) (fun p => p.name) [] 0 l).1, I (if 12 < l.length then (0, 8) else eachK (outE nodes) (fun p => p.name) [] 0 l).2]), []) := by
 by_cases hl : l.length ≤ 1000
 ·exact e_OutputsErr nodes hnl l hl hp
 ·have h : 12 < l.length := by omega
  have h' : (12 : Int) < l.length := by omega
  simp [Z06, Z0, P7, h, h']
theorem has_loop (l : List Int) (hl : l.length ≤ 1000) (k : Int) : ∀ (suf pre : List Int) (y : Env × Sto), l = pre ++ suf →
  mask [0, 1, 5] [] y = some ([(0, .p (Z1 l)), (1, .p (I k)), (5, .p (I pre.length))], []) →
  kpO [] [4] [] (bkO 0 (iter (round EE iter π [] [0, 1, 5] Z7n) y)) = if k ∈ suf then some (.rt, [(4, .p (.bool true))], []) else some (.nm, [], [])
 | [], pre, y, h, hm => by
  rw [Z3 hm]
  have : l = pre := by simpa using h
  simp [Z72, Z0p, ← this]
 | z :: suf, pre, y, h, hm => by
  rw [Z3 hm]
  have hlen : pre.length < l.length := by rw [h]; simp
  have hws := Zf hlen (show l.length ≤ top63 by simp only [top63]; omega)
  have hnext := has_loop l hl k suf (pre ++ [z])
  rw [show (pre ++ [z]).length = pre.length + 1 by simp] at hnext
  by_cases hz : z = k
  ·simp [Z72, Z0p, Zc h, Y3 _ h, hz]
  ·have hk : k ∈ z :: suf ↔ k ∈ suf := by
    rw [List.mem_cons]
    exact ⟨fun h => h.resolve_left fun e => hz e.symm, .inr⟩
   simp only [hk]
   simp [Z72, Z0p, Zc h, Y3 _ h, hz]
   refine hnext _ (by simp [h]) ?_
   simp [hws]
theorem e_Has (l : List Int) (hl : l.length ≤ 1000) (k : Int) : EE π Fe [.p (Z1 l), .p (I k)] [] = some (.p (.bool (decide (k ∈ l))), []) := by
 have hlp := has_loop (π := π) l hl k l []
 simp [e_rb_Has, Z0, Zic]
 rw [hlp _ rfl (by simp)]
 by_cases h : k ∈ l <;> simp [h]
theorem rlv_loop1 (d : Des) (hl : d.inputs.length ≤ 1000) : ∀ (suf pre : List Prt) (x : Env × Sto), d.inputs = pre ++ suf →
  mask [1, 3, 4] [] x = some ([(1, .ref (1 :: π) 0), (3, .ap (1003 :: π)), (4, .p (I pre.length))], [rowL (1003 :: π) (pre.map fun p => p.width), Y7 (1 :: π) d]) →
  kpO [1, 3] [2] [] (bkO 0 (iter (round EE iter π [] [1, 3, 4] Z21) x)) = some (.nm, [(1, .ref (1 :: π) 0), (3, .ap (1003 :: π))], [rowL (1003 :: π) (d.inputs.map fun p => p.width), Y7 (1 :: π) d])
 | [], pre, x, h, hm => by
  rw [Z3 hm]
  have : pre = d.inputs := by simpa using h.symm
  subst this
  simp [Z6q, G3]
 | y :: suf, pre, x, h, hm => by
  rw [Z3 hm]
  have hg : d.inputs[pre.length]? = some y := by rw [h]; simp
  have ih := fun x => rlv_loop1 d hl suf (pre ++ [y]) x
  have hlt := Zc h
  have hws := Zf (show pre.length < d.inputs.length by omega) (show d.inputs.length ≤ top63 by simp only [top63]; omega)
  have hrm : pre.length + 1 ≤ room := by simp only [room]; omega
  simp [Z6q, G3, hlt, hg, Wt, hrm]
  exact ih _ (by simp [h]) (by simp [hws, Yj])
theorem rlv_loop2 (d : Des) (hl : d.elements.length ≤ 1000) (hl' : d.inputs.length ≤ 1000) : ∀ (suf pre : List Elm) (x : Env × Sto), d.elements = pre ++ suf →
  mask [1, 3, 5] [] x = some ([(1, .ref (1 :: π) 0), (3, .ap (1003 :: π)), (5, .p (I pre.length))], [rowL (1003 :: π) (d.inputs.map (fun p => p.width) ++ pre.map fun p => p.width), Y7 (1 :: π) d]) →
  kpO [3] [2] [] (bkO 2 (iter (round EE iter π [] [1, 3, 5] Z20) x)) = some (.nm, [(3, .ap (1003 :: π))], [rowL (1003 :: π) (dlv d)])
 | [], pre, x, h, hm => by
  rw [Z3 hm]
  have : pre = d.elements := by simpa using h.symm
  subst this
  simp [Z6p, G2, dlv]
 | y :: suf, pre, x, h, hm => by
  rw [Z3 hm]
  have hg : d.elements[pre.length]? = some y := by rw [h]; simp
  have ih := fun x => rlv_loop2 d hl hl' suf (pre ++ [y]) x
  have hlt := Zc h
  have hws := Zf (show pre.length < d.elements.length by omega) (show d.elements.length ≤ top63 by simp only [top63]; omega)
  have hrm : d.inputs.length + pre.length + 1 ≤ room := by simp only [room]; omega
  have hfl : flagE (d.inputs.map (fun p => p.width) ++ (pre.map (fun p => p.width) ++ [y.width])) = some false := by rw [← List.append_assoc]; exact Yj _ _
  simp [Z6p, G2, hlt, hg, Zu, hrm]
  exact ih _ (by simp [h]) (by simp [hws, hfl])
theorem Z07 (d : Des) (hl' : d.inputs.length ≤ 1000) (hl : d.elements.length ≤ 1000) :
  EE π Qp [.p (Z5 d)] [] = some (.ap (1003 :: π), [rowL (1003 :: π) (dlv d)]) := by
 have h1 := rlv_loop1 (π := π) d hl' d.inputs []
 have h2 := rlv_loop2 (π := π) d hl hl' d.elements []
 simp [e_rb_Leaves, Z0, Z7l, Z5, thaw, thaw1]
 rw [h1 _ rfl (by simp [flagE])]
 simp [thaw, thaw1]
 rw [h2 _ rfl (by simp)]
 simp
abbrev rulBox (id : Id) (r : Rul) : Id × Blk := (id, .box false [.p (.str r.name), .p (I r.guard), .p (Z1s r.writes)])
abbrev atbBox (id : Id) (a : Atb) : Id × Blk := (id, .box false [.p (I a.kind), .p (Z1 a.rules)])
theorem rin_loop (d : Des) (hl : d.rules.length ≤ 1000) (pre post : List Rul) (y : Rul) (h : d.rules = pre ++ y :: post) : ∀ (suf p1 : List Rul) (x : Env × Sto), pre = p1 ++ suf →
  mask [1, 10, 11, 12] [] x = some ([(1, .ref (1 :: π) 0), (10, .p (I pre.length)), (11, .ref (11 :: π) 0), (12, .p (I p1.length))], [rulBox (11 :: π) y, Y7 (1 :: π) d]) →
  kpO [1, 10, 11] [2, 3] [] (bkO 2 (iter (round EE iter π [] [1, 10, 11, 12] Hm) x)) = (if hasN y.name (suf.map fun p => p.name) = true then some (.rt, [(2, .p (I pre.length)), (3, .p (I 5))], []) else some (.nm, [(1, .ref (1 :: π) 0), (10, .p (I pre.length)), (11, .ref (11 :: π) 0)], [rulBox (11 :: π) y, Y7 (1 :: π) d]))
 | [], p1, x, h1, hm => by
  rw [Z3 hm]
  have : p1 = pre := by simpa using h1.symm
  subst this
  simp [Kz, Vn, hasN]
 | z :: suf, p1, x, h1, hm => by
  rw [Z3 hm]
  have hg1 : d.rules[p1.length]? = some z := by rw [h, h1]; simp
  have hlt : (p1.length : Int) < pre.length := by rw [h1]; simp; omega
  have hlen : d.rules.length = pre.length + (post.length + 1) := by rw [h]; simp
  have hws := Zf (show p1.length < d.rules.length by omega) (show d.rules.length ≤ top63 by simp only [top63]; omega)
  have ih := fun x => rin_loop d hl pre post y h suf (p1 ++ [z]) x
  by_cases hn : z.name = y.name
  ·simp [Kz, Vn, hlt, hg1, Xx, hn, hasN, evRO]
  ·have hh : hasN y.name ((z :: suf).map fun p => p.name) = hasN y.name (suf.map fun p => p.name) := by simp [hasN, hn]
   rw [hh]
   simp [Kz, Vn, hlt, hg1, Xx, hn, evRO]
   exact ih _ (by simp [h1]) (by simp [hws])
theorem rulE_eq (els : List Elm) (nodes : List Nod) (K : List ByteArray) (y : Rul) : rulE els nodes K y = if nameB y.name = false then 4 else if hasN y.name K = true then 5 else if Qz nodes y.guard = false then 9 else if 16 < y.writes.length then 8 else (eachE (fun _ w => wrtE els nodes w) 0 y.writes).2 := by
 unfold rulE nmE
 by_cases hw : 16 < y.writes.length
 ·have : ¬ (y.writes.length : Int) ≤ 16 := by omega
  cases nameB y.name <;> cases hasN y.name K <;> cases Qz nodes y.guard <;> simp [unlE, Z9, hw, this]
 ·have : (y.writes.length : Int) ≤ 16 := by omega
  cases nameB y.name <;> cases hasN y.name K <;> cases Qz nodes y.guard <;> simp [unlE, Z9, hw, this]
  intro h
  exact h.symm
theorem ruls_loop (d : Des) (hr : d.rules.length ≤ 1000) (hrn : ∀ p ∈ d.rules, okS p.name) (hnl : d.nodes.length ≤ 1000) (hel : d.elements.length ≤ 1000) : ∀ (suf pre : List Rul) (x : Env × Sto), d.rules = pre ++ suf → mask [1, 10] [] x = some ([(1, .ref (1 :: π) 0), (10, .p (I pre.length))], [Y7 (1 :: π) d]) →
  kpO [1] [2, 3] [] (bkO 0 (iter (round EE iter π [] [1, 10] Hn) x)) = (if (eachK (rulE d.elements d.nodes) (fun p => p.name) (pre.map fun p => p.name) pre.length suf).2 = 0 then some (.nm, [(1, .ref (1 :: π) 0)], [Y7 (1 :: π) d]) else some (.rt, [(2, .p (I (eachK (rulE d.elements d.nodes) (fun p => p.name) (pre.map fun p => p.name) pre.length suf).1)), (3, .p (I (eachK (rulE d.elements d.nodes) (fun p => p.name) (pre.map fun p => p.name) pre.length suf).2))], []))
 | [], pre, x, h, hm => by
  rw [Z3 hm]
  have : pre.length = d.rules.length := by rw [h]; simp
  simp [We, Yu, eachK, this]
 | y :: suf, pre, x, h, hm => by
  rw [Z3 hm]
  have hmem : y ∈ d.rules := by rw [h]; simp
  have hg : d.rules[pre.length]? = some y := by rw [h]; simp
  have hlt := Zc h
  have hws := Zf (show pre.length < d.rules.length by omega) (show d.rules.length ≤ top63 by simp only [top63]; omega)
  have ih := fun x => ruls_loop d hr hrn hnl hel suf (pre ++ [y]) x
  have hin := rin_loop (π := π) d hr pre suf y h pre []
  have hnm := fun π => Z5g (π := π) y.name (hrn y hmem)
  have hc := fun π => e_IsCond (π := π) d.nodes y.guard hnl
  have hwr := fun π => e_WritesErrA (π := π) d.elements hel d.nodes hnl y.writes
  simp only [eachK]
  rw [rulE_eq]
  by_cases h1 : nameB y.name = false
  ·simp [We, Yu, hlt, hg, Xx, hnm, h1]
  ·have h1 : nameB y.name = true := by simpa using h1
   by_cases h2 : hasN y.name (pre.map fun p => p.name) = true
   ·simp only [h2, if_true] at hin
    simp [We, Yu, hlt, hg, Xx, hnm, h1, h2]
    rw [hin _ rfl (by simp)]
    simp
   ·have h2 : hasN y.name (pre.map fun p => p.name) = false := by simpa using h2
    simp only [h2, if_false, Bool.false_eq_true] at hin
    by_cases h3 : Qz d.nodes y.guard = false
    ·simp [We, Yu, hlt, hg, Xx, hnm, h1, h2, h3]
     rw [hin _ rfl (by simp)]
     simp [hc, h3, Z4]
    ·have h3 : Qz d.nodes y.guard = true := by simpa using h3
     generalize hE : (if 16 < y.writes.length then 8 else (eachE (fun _ w => wrtE d.elements d.nodes w) 0 y.writes).2) = E at *
     by_cases h4 : E = 0
     ·simp [We, Yu, hlt, hg, Xx, hnm, h1, h2, h3, h4]
      rw [hin _ rfl (by simp)]
      simp [hc, h3, hwr, h4, Z4]
      rw [show pre.length + 1 = (pre ++ [y]).length by simp, show (pre.map fun p => p.name) ++ [y.name] = (pre ++ [y]).map fun p => p.name by simp]
      exact ih _ (by simp [h]) (by simp [hws])
     ·simp [We, Yu, hlt, hg, Xx, hnm, h1, h2, h3, h4]
      rw [hin _ rfl (by simp)]
      simp [hc, h3, hwr, h4, Z4]
theorem ain_loop (d : Des) (hr : d.rules.length ≤ 1000) (i : Int) (a : Atb) (ha : a.rules.length ≤ 1000) : ∀ (suf pre : List Int) (x : Env × Sto), a.rules = pre ++ suf →
  mask [1, 16, 17, 18] [] x = some ([(1, .ref (1 :: π) 0), (16, .p (I i)), (17, .ref (17 :: π) 0), (18, .p (I pre.length))], [atbBox (17 :: π) a, Y7 (1 :: π) d]) →
  kpO [1, 16] [2, 3] [] (bkO 6 (iter (round EE iter π [] [1, 16, 17, 18] Hk) x)) = (if (eachE (arE d.rules.length a.rules) pre.length suf).2 = 0 then some (.nm, [(1, .ref (1 :: π) 0), (16, .p (I i))], [Y7 (1 :: π) d]) else some (.rt, [(2, .p (I i)), (3, .p (I (eachE (arE d.rules.length a.rules) pre.length suf).2))], []))
 | [], pre, x, h, hm => by
  rw [Z3 hm]
  have : pre.length = a.rules.length := by rw [h]; simp
  simp [Pd, Wg, eachE, this]
 | y :: suf, pre, x, h, hm => by
  rw [Z3 hm]
  have hg : a.rules[pre.length]? = some y := by rw [h]; simp
  have hlt := Zc h
  have hws := Zf (show pre.length < a.rules.length by omega) (show a.rules.length ≤ top63 by simp only [top63]; omega)
  have hw : IntKind.i64.wrap ((d.rules.length : Int) - 1) = (d.rules.length : Int) - 1 := w64 ⟨by omega, by omega⟩
  have hwi := fun π => X9 (π := π) y 0 ((d.rules.length : Int) - 1)
  have hha := fun π => e_Has (π := π) (a.rules.take pre.length) (by rw [List.length_take]; omega) y
  have hmb : memB (a.rules.take pre.length) y = decide (y ∈ a.rules.take pre.length) := by rw [Bool.eq_iff_iff, Nr, decide_eq_true_iff]
  have hple : pre.length ≤ a.rules.length := by omega
  have hple' : (pre.length : Int) ≤ a.rules.length := by omega
  simp only [Z1, ints, List.map_take] at hha
  have ih := fun x => ain_loop d hr i a ha suf (pre ++ [y]) x
  have hE : arE d.rules.length a.rules pre.length y = if Z8 y 0 ((d.rules.length : Int) - 1) = false then 6 else if decide (y ∈ a.rules.take pre.length) = true then 23 else 0 := by
   unfold arE
   rw [hmb]
   cases Z8 y 0 ((d.rules.length : Int) - 1) <;> cases decide (y ∈ a.rules.take pre.length) <;> rfl
  have hst : eachE (arE d.rules.length a.rules) pre.length (y :: suf) = if arE d.rules.length a.rules pre.length y = 0 then eachE (arE d.rules.length a.rules) (pre.length + 1) suf else ((pre.length : Int), arE d.rules.length a.rules pre.length y) := rfl
  rw [hE] at hst
  rw [hst]
  clear hst hE
  generalize decide (y ∈ a.rules.take pre.length) = b at *
  by_cases h1 : Z8 y 0 ((d.rules.length : Int) - 1) = false
  ·simp [Pd, Wg, hlt, hg, hw, hwi, h1, evRO, Z4]
  ·have h1 : Z8 y 0 ((d.rules.length : Int) - 1) = true := by simpa using h1
   cases b
   ·simp [Pd, Wg, hlt, hg, hw, hwi, h1, evRO, Z4, hple, hha]
    rw [show pre.length + 1 = (pre ++ [y]).length by simp]
    exact ih _ (by simp [h]) (by simp [hws])
   ·simp [Pd, Wg, hlt, hg, hw, hwi, h1, evRO, Z4, hple, hha]
theorem argc_le : ∀ k, argc k ≤ 3
 | k => by unfold argc; (repeat' split) <;> omega
theorem e_nodeErrA (leaves : List Int) (hl : leaves.length ≤ 1000) (nodes : List Nod) (hnl : nodes.length ≤ 100000) (i : Nat) (x : Nod) (hx : nodes[i]? = some x) :
  EE π Gb [.p (Z1 leaves), .p (Za nodes), .p (I i)] [] = some (.p (I (nodeE leaves nodes i x)), []) := by
 by_cases hal : x.args.length ≤ 1000
 ·exact e_nodeErr leaves hl nodes hnl i x hx hal
 have hi := (List.getElem?_eq_some_iff.1 hx).1
 have hx2 := (List.getElem?_eq_some_iff.1 hx).2
 unfold nodeE
 by_cases h1 : Z8 x.op 0 18 = true
 ·have h1' := Zb.1 h1
  by_cases h2 : Z8 x.width 1 16 = true
  ·have hk : x.op.toNat < 19 := by omega
   have hopn : x.op = (x.op.toNat : Int) := by omega
   have hac := fun π => Zgj (π := π) x.op.toNat hk
   rw [← hopn] at hac
   have h3 := argc_le x.op.toNat
   have h3' : ¬ (x.args.length : Int) = (argc x.op.toNat : Int) := by omega
   have h3'' : ¬ x.args.length = argc x.op.toNat := by omega
   simp [Vo, Z0, Wa, hi, hx2, X9, Nh, h1, h2, hac, h3', h3'', Z4, evRO, Z9, unlE]
  ·simp [Vo, Z0, Wa, hi, hx2, X9, Nh, h1, h2, Z4, evRO, Z9, unlE]
 ·simp [Vo, Z0, Wa, hi, hx2, X9, Nh, h1, Z4, evRO, Z9, unlE]
theorem nds_loopA (leaves : List Int) (hl : leaves.length ≤ 1000) (nodes : List Nod) (hnl : nodes.length ≤ 100000) : ∀ (suf pre : List Nod) (x : Env × Sto), nodes = pre ++ suf → mask [0, 1, 6] [] x = some ([(0, .p (Z1 leaves)), (1, .p (Za nodes)), (6, .p (I pre.length))], []) →
  kpO [] [4, 5] [] (bkO 0 (iter (round EE iter π [] [0, 1, 6] F0) x)) = (if (eachE (nodeE leaves nodes) pre.length suf).2 = 0 then some (.nm, [], []) else some (.rt, [(4, .p (I (eachE (nodeE leaves nodes) pre.length suf).1)), (5, .p (I (eachE (nodeE leaves nodes) pre.length suf).2))], []))
 | [], pre, x, h, hm => by
  rw [Z3 hm]
  subst h
  simp [Gm, Ud, eachE]
 | y :: suf, pre, x, h, hm => by
  rw [Z3 hm]
  have hne := fun π => e_nodeErrA (π := π) leaves hl nodes hnl pre.length y (by rw [h]; simp)
  have hlt := Zc h
  have hnext := nds_loopA leaves hl nodes hnl suf (pre ++ [y])
  rw [show (pre ++ [y]).length = pre.length + 1 by simp] at hnext
  have he : eachE (nodeE leaves nodes) pre.length (y :: suf) = if nodeE leaves nodes pre.length y = 0 then eachE (nodeE leaves nodes) (pre.length + 1) suf else (pre.length, nodeE leaves nodes pre.length y) := rfl
  rw [he]
  generalize nodeE leaves nodes pre.length y = c at *
  generalize eachE (nodeE leaves nodes) (pre.length + 1) suf = q at *
  by_cases hc : c = 0
  ·simp [Gm, Ud, Zc h, hne, hc]
   exact hnext _ (by simp [h]) (by simp [Zf (lt_nat h) (show nodes.length ≤ top63 by simp only [top63]; omega)])
  ·simp [Gm, Ud, Zc h, hne, hc]
theorem e_NodesErrBA (leaves : List Int) (hl : leaves.length ≤ 1000) (nodes : List Nod) :
  EE π Fc [.p (Z1 leaves), .p (Za nodes)] [] = some (.p (.tup [I (if 400 < nodes.length then (0, 8) else eachE (nodeE leaves nodes) 0 nodes).1, I (if 400 < nodes.length then (0, 8) else eachE (nodeE leaves nodes) 0 nodes).2]), []) := by
 by_cases h3 : 400 < nodes.length
 ·have h3' : (400 : Int) < nodes.length := by omega
  simp [Z99, Z0, Fl, h3, h3', Z4, evRO]
 ·have h3' : ¬ (400 : Int) < nodes.length := by omega
  simp [Z99, Z0, Fl, h3, h3', Z4, evRO]
  rw [nds_loopA leaves hl nodes (by omega) nodes [] _ rfl (by simp)]
  by_cases hf : (eachE (nodeE leaves nodes) 0 nodes).2 = 0
  ·have h1 : (eachE (nodeE leaves nodes) 0 nodes).1 = 0 := Z58 _ 0 _ hf
   simp [hf, h1]
  ·simp [hf]
theorem atbE_eq (n : Nat) (a : Atb) : atbE n a = if Z8 a.kind 0 3 = false then 15 else if decide (a.rules.length = 0) || decide (16 < a.rules.length) then 10 else (eachE (arE n a.rules) 0 a.rules).2 := by
 unfold atbE
 by_cases h : a.rules.length = 0
 ·have : Z8 (a.rules.length : Int) 1 16 = false := by unfold Z8; simp [h]
  cases Z8 a.kind 0 3 <;> simp [h, this, unlE, Z9]
  simp [Z8, unlE, Z9]
 ·by_cases h2 : 16 < a.rules.length
  ·have : Z8 (a.rules.length : Int) 1 16 = false := by unfold Z8; simp; omega
   cases Z8 a.kind 0 3 <;> simp [h, h2, this, unlE, Z9]
  ·have : Z8 (a.rules.length : Int) 1 16 = true := by unfold Z8; simp; omega
   cases Z8 a.kind 0 3 <;> simp [h, h2, this, unlE, Z9]
   intro h
   exact h.symm
theorem atbs_loop (d : Des) (hat : d.attrs.length ≤ 1000) (hrl : d.rules.length ≤ 1000) : ∀ (suf pre : List Atb) (x : Env × Sto), d.attrs = pre ++ suf → mask [1, 16] [] x = some ([(1, .ref (1 :: π) 0), (16, .p (I pre.length))], [Y7 (1 :: π) d]) →
  kpO [] [2, 3] [] (bkO 4 (iter (round EE iter π [] [1, 16] Hl) x)) = (if (eachE (fun _ a => atbE d.rules.length a) pre.length suf).2 = 0 then some (.nm, [], []) else some (.rt, [(2, .p (I (eachE (fun _ a => atbE d.rules.length a) pre.length suf).1)), (3, .p (I (eachE (fun _ a => atbE d.rules.length a) pre.length suf).2))], []))
 | [], pre, x, h, hm => by
  rw [Z3 hm]
  have : pre.length = d.attrs.length := by rw [h]; simp
  simp [Wd, Yt, eachE, this]
 | y :: suf, pre, x, h, hm => by
  rw [Z3 hm]
  have hmem : y ∈ d.attrs := by rw [h]; simp
  have hg : d.attrs[pre.length]? = some y := by rw [h]; simp
  have hlt := Zc h
  have hws := Zf (show pre.length < d.attrs.length by omega) (show d.attrs.length ≤ top63 by simp only [top63]; omega)
  have ih := fun x => atbs_loop d hat hrl suf (pre ++ [y]) x
  have hin := fun h => ain_loop (π := π) d hrl pre.length y h y.rules []
  have hwi := fun π => X9 (π := π) y.kind 0 3
  have hst : eachE (fun _ a => atbE d.rules.length a) pre.length (y :: suf) = if atbE d.rules.length y = 0 then eachE (fun _ a => atbE d.rules.length a) (pre.length + 1) suf else ((pre.length : Int), atbE d.rules.length y) := rfl
  rw [atbE_eq] at hst
  rw [hst]
  clear hst
  simp only [List.length_nil] at hin
  by_cases h1 : Z8 y.kind 0 3 = false
  ·simp [Wd, Yt, hlt, hg, Pp, hwi, h1, Z4]
  ·have h1 : Z8 y.kind 0 3 = true := by simpa using h1
   by_cases h2 : y.rules.length = 0
   ·have hnil : y.rules = [] := List.length_eq_zero_iff.1 h2
    simp [Wd, Yt, hlt, hg, Pp, hwi, h1, hnil, Z4]
   ·have h2' : ¬ y.rules = [] := fun h => h2 (by simp [h])
    by_cases h3 : 16 < y.rules.length
    ·have h3' : (16 : Int) < y.rules.length := by omega
     simp [Wd, Yt, hlt, hg, Pp, hwi, h1, h2, h2', h3, h3', Z4]
    ·have h3' : ¬ (16 : Int) < y.rules.length := by omega
     have hin := hin (by omega)
     by_cases h4 : (eachE (arE d.rules.length y.rules) 0 y.rules).2 = 0
     ·simp only [h4, if_true] at hin
      simp [Wd, Yt, hlt, hg, Pp, hwi, h1, h2, h2', h3, h3', h4, Z4]
      rw [hin _ rfl (by simp)]
      simp
      rw [show pre.length + 1 = (pre ++ [y]).length by simp]
      exact ih _ (by simp [h]) (by simp [hws])
     ·simp only [h4, if_false] at hin
      simp [Wd, Yt, hlt, hg, Pp, hwi, h1, h2, h2', h3, h3', h4, Z4]
      rw [hin _ rfl (by simp)]
      simp
def Zcx (l : List Prt) : Int × Int := if 12 < l.length then (0, 8) else eachK prtE (fun p => p.name) [] 0 l
def Z6y (ins : List Prt) (l : List Elm) : Int × Int := if 40 < ins.length + l.length then (0, 8) else eachK elmE (fun p => p.name) (ins.map fun p => p.name) 0 l
def Zd2 (L : List Int) (nodes : List Nod) : Int × Int := if 400 < nodes.length then (0, 8) else eachE (nodeE L nodes) 0 nodes
def outsE (nodes : List Nod) (l : List Otp) : Int × Int := if 12 < l.length then (0, 8) else eachK (outE nodes) (fun p => p.name) [] 0 l
def Zcs (d : Des) : List (Int × Int) := [(0, unlE (nameB d.name) 4), Zcx d.inputs, Z6y d.inputs d.elements, Zd2 (dlv d) d.nodes, (0, unlE (decide (d.rules.length ≤ 16)) 8), eachK (rulE d.elements d.nodes) (fun p => p.name) [] 0 d.rules, outsE d.nodes d.outputs, (0, unlE (decide (d.attrs.length ≤ 16)) 8), eachE (fun _ a => atbE d.rules.length a) 0 d.attrs]
structure DesAny (d : Des) : Prop where
 name : okS d.name
 inN : ∀ p ∈ d.inputs, okS p.name
 elN : ∀ p ∈ d.elements, okS p.name
 ruN : ∀ p ∈ d.rules, okS p.name
 ouN : ∀ p ∈ d.outputs, okS p.name
 elements : d.elements.length ≤ 4611686018427387904
theorem DesOk.any {d : Des} (h : DesOk d) : DesAny d := ⟨h.name, h.inN, h.elN, h.ruN, h.ouN, by have := h.elements; omega⟩
theorem e_DesignErrB (d : Des) (hd : DesAny d) : EE π N1 [.p (Z5 d)] [] = some (.p (.tup [I (X7 (Zcs d)).1, I (X7 (Zcs d)).2]), []) := by
 have hnm := fun π => Z5g (π := π) d.name hd.name
 have hp := fun π => e_PortsErrA (π := π) d.inputs hd.inN
 have he := fun (h : (Zcx d.inputs).2 = 0) π => Zf6 (π := π) d.inputs (by unfold Zcx at h; split at h <;> first | contradiction | omega) d.elements hd.elements hd.elN
 have hsh : (Z6y d.inputs d.elements).2 = 0 → d.inputs.length ≤ 1000 ∧ d.elements.length ≤ 1000 := fun h => by
  unfold Z6y at h
  split at h
  ·contradiction
  ·omega
 have hlv := fun (h : (Z6y d.inputs d.elements).2 = 0) π => Z07 (π := π) d (hsh h).1 (hsh h).2
 have hn := fun (h : (dlv d).length ≤ 1000) π => e_NodesErrBA (π := π) (dlv d) h d.nodes
 have hnl : (Zd2 (dlv d) d.nodes).2 = 0 → d.nodes.length ≤ 1000 := fun h => by
  unfold Zd2 at h
  split at h
  ·contradiction
  ·omega
 have hr := fun h1 h2 h3 => ruls_loop (π := π) d h1 hd.ruN h2 h3 d.rules []
 have ho := fun h π => Zi1 (π := π) d.nodes h d.outputs hd.ouN
 have ha := fun h1 h2 => atbs_loop (π := π) d h1 h2 d.attrs []
 have hlen : (Z6y d.inputs d.elements).2 = 0 → (dlv d).length ≤ 1000 := fun h => by
  unfold Z6y at h
  split at h
  ·contradiction
  ·simp [dlv]; omega
 unfold Z5 at hlv
 simp only [List.length_nil, List.map_nil] at hr ha
 unfold Zcs
 change ∀ π, _ = some (AV.p (.tup [I (Zcx d.inputs).1, I (Zcx d.inputs).2]), _) at hp
 change ∀ h π, _ = some (AV.p (.tup [I (Z6y d.inputs d.elements).1, I (Z6y d.inputs d.elements).2]), _) at he
 change ∀ h π, _ = some (AV.p (.tup [I (Zd2 (dlv d) d.nodes).1, I (Zd2 (dlv d) d.nodes).2]), _) at hn
 change ∀ h π, _ = some (AV.p (.tup [I (outsE d.nodes d.outputs).1, I (outsE d.nodes d.outputs).2]), _) at ho
 generalize Zcx d.inputs = P at *
 generalize Z6y d.inputs d.elements = E at *
 generalize Zd2 (dlv d) d.nodes = N at *
 generalize outsE d.nodes d.outputs = O at *
 generalize eachK (rulE d.elements d.nodes) (fun p => p.name) [] 0 d.rules = R at *
 generalize eachE (fun _ a => atbE d.rules.length a) 0 d.attrs = A at *
 by_cases h1 : nameB d.name = false
 ·simp [Xl, Z0, Ym, Z5, hnm, h1, X7, unlE]
 ·have h1 : nameB d.name = true := by simpa using h1
  by_cases h2 : P.2 = 0
  ·have he := he h2
   by_cases h3 : E.2 = 0
   ·have hn := hn (hlen h3)
    have hlv := hlv h3
    by_cases h4 : N.2 = 0
    ·have ho := ho (hnl h4)
     by_cases h5 : d.rules.length ≤ 16
     ·have h5' : ¬ (16 : Int) < d.rules.length := by omega
      have hr := hr (by omega) (hnl h4) (hsh h3).2
      by_cases h6 : R.2 = 0
      ·by_cases h7 : O.2 = 0
       ·by_cases h8 : d.attrs.length ≤ 16
        ·have h8' : ¬ (16 : Int) < d.attrs.length := by omega
         have ha := ha (by omega) (by omega)
         simp [Xl, Z0, Ym, Z5, hnm, h1, X7, unlE, hp, h2, he, h3, hlv, hn, h4, h5, h5', evRO, Z4]
         rw [hr _ rfl (by simp)]
         simp [h6, ho, h7, h8, h8', Z4]
         rw [ha _ rfl (by simp)]
         by_cases h9 : A.2 = 0
         ·simp [h9]
         ·simp [h9]
        ·have h8' : (16 : Int) < d.attrs.length := by omega
         simp [Xl, Z0, Ym, Z5, hnm, h1, X7, unlE, hp, h2, he, h3, hlv, hn, h4, h5, h5', evRO, Z4]
         rw [hr _ rfl (by simp)]
         simp [h6, ho, h7, h8, h8', Z4]
       ·simp [Xl, Z0, Ym, Z5, hnm, h1, X7, unlE, hp, h2, he, h3, hlv, hn, h4, h5, h5', evRO, Z4]
        rw [hr _ rfl (by simp)]
        simp [h6, ho, h7, Z4]
      ·simp [Xl, Z0, Ym, Z5, hnm, h1, X7, unlE, hp, h2, he, h3, hlv, hn, h4, h5, h5', evRO, Z4]
       rw [hr _ rfl (by simp)]
       simp [h6]
     ·have h5' : (16 : Int) < d.rules.length := by omega
      simp [Xl, Z0, Ym, Z5, hnm, h1, X7, unlE, hp, h2, he, h3, hlv, hn, h4, h5, h5', evRO, Z4]
    ·simp [Xl, Z0, Ym, Z5, hnm, h1, X7, unlE, hp, h2, he, h3, hlv, hn, h4, evRO, Z4]
   ·simp [Xl, Z0, Ym, Z5, hnm, h1, X7, unlE, hp, h2, he, h3, Z4]
  ·simp [Xl, Z0, Ym, Z5, hnm, h1, X7, unlE, hp, h2, Z4]
theorem Z56 {α : Type} (er : List ByteArray → α → Int) (nm : α → ByteArray) : ∀ (K : List ByteArray) (i : Nat) (l : List α), (eachK er nm K i l).2 = 0 → ∀ x ∈ l, ∃ K', er K' x = 0
 | _, _, [], _, x, hx => by simp at hx
 | K, i, y :: r, h, x, hx => by
  simp only [eachK] at h
  split at h
  ·rename_i h0
   rcases List.mem_cons.1 hx with rfl | hx
   ·exact ⟨K, h0⟩
   ·exact Z56 er nm _ _ r h x hx
  ·rename_i h0; exact absurd h h0
theorem eachE_zer {α : Type} (err : Nat → α → Int) : ∀ (i : Nat) (l : List α), (∀ j, ∀ x ∈ l, err j x = 0) → eachE err i l = (0, 0)
 | _, [], _ => rfl
 | i, y :: r, h => by
  simp only [eachE, h i y (by simp), if_true]
  exact eachE_zer err (i + 1) r fun j x hx => h j x (by simp [hx])
theorem eachE_mem {α : Type} (err : Nat → α → Int) : ∀ (i : Nat) (l : List α), (eachE err i l).2 = 0 → ∀ x ∈ l, ∃ j, err j x = 0
 | _, [], _, x, hx => by simp at hx
 | i, y :: r, h, x, hx => by
  simp only [eachE] at h
  split at h
  ·rename_i h0
   rcases List.mem_cons.1 hx with rfl | hx
   ·exact ⟨i, h0⟩
   ·exact eachE_mem err _ r h x hx
  ·rename_i h0; exact absurd h h0
theorem P0 (x : Int × Int) (r : List (Int × Int)) : X7 (x :: r) = if x.2 = 0 then X7 r else x := rfl
theorem prt_width {K : List ByteArray} {p : Prt} (h : prtE K p = 0) : Z8 p.width 1 16 = true := by
 unfold prtE at h
 rw [Zp, Zp, Zp] at h
 exact (Qc (by decide)).1 h.2.2.1
theorem elm_width {K : List ByteArray} {p : Elm} (h : elmE K p = 0) : Z8 p.width 1 16 = true := by
 rw [elmE_eq] at h
 cases hw : Z8 p.width 1 16 with
 | true => rfl
 | false =>
  rw [hw] at h
  repeat' split at h
  all_goals first | contradiction | omega | skip
theorem desE_eq (d : Des) : X7 (Zcs d) = desE d := by
 unfold desE Zct Zcs Zcx Z6y Zd2 outsE
 by_cases h1 : nameB d.name = true
 ·by_cases h2 : d.inputs.length ≤ 12
  ·have h2' : (d.inputs.length : Int) ≤ 12 := by omega
   have h2'' : ¬ 12 < d.inputs.length := by omega
   by_cases h3 : (eachK prtE (fun p => p.name) [] 0 d.inputs).2 = 0
   ·rw [endK_z prtE (fun p => p.name) [] 0 d.inputs h3]
    simp only [List.nil_append]
    by_cases h4 : d.inputs.length + d.elements.length ≤ 40
    ·have h4' : (d.inputs.length : Int) + d.elements.length ≤ 40 := by omega
     have h4'' : ¬ 40 < d.inputs.length + d.elements.length := by omega
     by_cases h5 : (eachK elmE (fun p => p.name) (d.inputs.map fun p => p.name) 0 d.elements).2 = 0
     ·have hc : X8 (dlv d) d.nodes = if 400 < d.nodes.length then (0, 8) else eachE (nodeE (dlv d) d.nodes) 0 d.nodes := by
       unfold X8
       have hl : ¬ 40 < (dlv d).length := by simp [dlv]; omega
       have hw : eachE (fun _ n => unlE (Z8 n 1 16) 2) 0 (dlv d) = (0, 0) := eachE_zer _ _ _ fun j x hx => by
        rcases List.mem_append.1 hx with hx | hx
        ·obtain ⟨p, hp, rfl⟩ := List.mem_map.1 hx
         obtain ⟨K, hK⟩ := Z56 _ _ _ _ _ h3 p hp
         rw [prt_width hK]; rfl
        ·obtain ⟨p, hp, rfl⟩ := List.mem_map.1 hx
         obtain ⟨K, hK⟩ := Z56 _ _ _ _ _ h5 p hp
         rw [elm_width hK]; rfl
       rw [if_neg hl, hw]
       simp
      rw [hc]
      have hr : decide ((d.rules.length : Int) ≤ 16) = decide (d.rules.length ≤ 16) := decide_eq_decide.2 (by omega)
      have ha : decide ((d.attrs.length : Int) ≤ 16) = decide (d.attrs.length ≤ 16) := decide_eq_decide.2 (by omega)
      rw [hr, ha]
      by_cases h6 : 12 < d.outputs.length
      ·have h6' : ¬ (d.outputs.length : Int) ≤ 12 := by omega
       simp [P0, h1, h2', h2'', h3, h4', h4'', h5, h6, h6', unlE, Z9]
      ·have h6' : (d.outputs.length : Int) ≤ 12 := by omega
       simp [P0, h1, h2', h2'', h3, h4', h4'', h5, h6, h6', unlE, Z9]
     ·simp [P0, h1, h2', h2'', h3, h4', h4'', h5, unlE, Z9]
    ·have h4' : ¬ (d.inputs.length : Int) + d.elements.length ≤ 40 := by omega
     have h4'' : 40 < d.inputs.length + d.elements.length := by omega
     simp [P0, h1, h2', h2'', h3, h4', h4'', unlE, Z9]
   ·simp [P0, h1, h2', h2'', h3, unlE, Z9]
  ·have h2' : ¬ (d.inputs.length : Int) ≤ 12 := by omega
   have h2'' : 12 < d.inputs.length := by omega
   simp [P0, h1, h2', h2'', unlE, Z9]
 ·have h1 : nameB d.name = false := by simpa using h1
  simp [P0, h1, unlE, Z9]
theorem e_DesignErrR (d : Des) (hd : DesAny d) : EE π N1 [.p (Z5 d)] [] = some (.p (.tup [I (desE d).1, I (desE d).2]), []) := by
 rw [e_DesignErrB d hd, desE_eq]
theorem Z5h (d : Des) (hd : DesAny d) : EE π U3 [.p (Z5 d)] [] = some (.p (I (desE d).2), []) := by
 have h := fun π => e_DesignErrR (π := π) d hd
 have hf := fg_des d
 unfold Z5 at h hf
 simp [Zbs, Z0, Gx, Z5, h, Z4]
theorem Z3o (d : Des) (hd : DesOk d) : EE π U3 [.p (Z5 d)] [] = some (.p (I (desE d).2), []) := Z5h d hd.any
theorem e_CopyPorts (l : List PV) (h : l.length ≤ room) : EE π Hu [.p (.sl 2 none l)] [] = some (.ap (3 :: π), [(3 :: π, .row false Fr 2 (some false) l)]) := by
 rcases l with _ | ⟨a, r⟩
 ·simp [Z6z, Z0, Hz]
 ·have h' : r.length + 1 ≤ room := by simpa using h
  simp [Z6z, Z0, Hz, h']
theorem Zi5 (l : List PV) (h : l.length ≤ room) : EE π Np [.p (.sl 2 none l)] [] = some (.ap (3 :: π), [(3 :: π, .row false Mh 2 (some false) l)]) := by
 rcases l with _ | ⟨a, r⟩
 ·simp [Z4k, Z0, Nt]
 ·have h' : r.length + 1 ≤ room := by simpa using h
  simp [Z4k, Z0, Nt, h']
theorem e_CopyWrites (l : List PV) (h : l.length ≤ room) : EE π Lk [.p (.sl 3 none l)] [] = some (.ap (3 :: π), [(3 :: π, .row false H0 3 (some false) l)]) := by
 rcases l with _ | ⟨a, r⟩
 ·simp [Z5b, Z0, K7]
 ·have h' : r.length + 1 ≤ room := by simpa using h
  simp [Z5b, Z0, K7, h']
abbrev Zdk (x : Rul) : PV := .agg [.str x.name, I x.guard, .sl 3 (some false) (x.writes.map W9)]
abbrev zRul : PV := .agg [.str ⟨#[]⟩, I 0, .sl 3 (some true) []]
abbrev Zhk (x : Atb) : PV := .agg [I x.kind, .sl 1 (some false) (ints x.rules)]
abbrev zAtb : PV := .agg [I 0, .sl 1 (some true) []]
theorem Xd (l : List Rul) : PV.fg.PV.fgL (l.map Zdk) = l.map Xx := Hd _ _ (fun x => by simp [Xx]) l
theorem Xe (l : List Atb) : PV.fg.PV.fgL (l.map Zhk) = l.map Pp := Hd _ _ (fun x => by simp [Pp]) l
abbrev cpBox (π : Id) (d : Des) : Id × Blk := (1 :: π, .box false [.p (.str d.name), .ap (3 :: 9 :: π), .ap (19 :: π), .ap (7 :: 12 :: π), .p (Ls d.rules), .ap (3 :: 15 :: π), .p (Lt d.attrs)])
abbrev cpRest (π : Id) (d : Des) : Sto := [(19 :: π, .row false La 5 (some false) (d.elements.map Zu)), (3 :: 15 :: π, .row false Mh 2 (some false) (d.outputs.map U9)), (7 :: 12 :: π, .row false H1 4 (some false) (d.nodes.map Z69)), (3 :: 9 :: π, .row false Fr 2 (some false) (d.inputs.map Wt)), (2 :: π, .box false [.p (.str ⟨#[]⟩), .p (.sl 2 (some true) []), .p (.sl 5 (some true) []), .p (.sl 4 (some true) []), .p (.sl 3 (some true) []), .p (.sl 2 (some true) []), .p (.sl 2 (some true) [])]), cpBox π d]
theorem cpr_loop (d : Des) (hd : DesOk d) : ∀ (suf pre : List Rul) (x : Env × Sto), d.rules = pre ++ suf → mask [1, 2, 3, 4] [] x = some ([(1, .ref (1 :: π) 0), (2, .ref (2 :: π) 0), (3, .ap (27 :: π)), (4, .p (I pre.length))], (27 :: π, .row false Fq 3 (some false) (pre.map Zdk ++ List.replicate suf.length zRul)) :: cpRest π d) →
  kpO [1, 2, 3] [2] [] (bkO 0 (iter (round EE iter π [] [1, 2, 3, 4] K9) x)) = some (.nm, [(1, .ref (1 :: π) 0), (2, .ref (2 :: π) 0), (3, .ap (27 :: π))], (27 :: π, .row false Fq 3 (some false) (d.rules.map Zdk)) :: cpRest π d)
 | [], pre, x, h, hm => by
  rw [Z3 hm]
  have : pre = d.rules := by simpa using h.symm
  subst this
  simp [Z0z, Qa]
 | y :: suf, pre, x, h, hm => by
  rw [Z3 hm]
  have hmem : y ∈ d.rules := by rw [h]; simp
  have hcw := fun π => e_CopyWrites (π := π) (y.writes.map W9) (by have := hd.writes y hmem; simp only [List.length_map, room]; omega)
  have hg : d.rules[pre.length]? = some y := by rw [h]; simp
  have hlt := Zc h
  have hr := hd.rules
  have hws := Zf (show pre.length < d.rules.length by omega) (show d.rules.length ≤ top63 by simp only [top63]; omega)
  have ih := fun x => cpr_loop d hd suf (pre ++ [y]) x
  have hlen : (pre.length : Int) < (pre.length : Int) + ((suf.length : Int) + 1) := by omega
  simp [Z0z, Qa, hlt, hg, Xx, hcw, Z4, List.replicate_succ, PV.setc]
  exact ih _ (by simp [h]) (by simp [hws])
theorem cpa_loop (d : Des) (hd : DesOk d) (S : Sto) (hS : S = (27 :: π, .row false Fq 3 (some false) (d.rules.map Zdk)) :: cpRest π d) : ∀ (suf pre : List Atb) (x : Env × Sto), d.attrs = pre ++ suf → mask [1, 2, 3, 5, 6] [] x = some ([(1, .ref (1 :: π) 0), (2, .ref (2 :: π) 0), (3, .ap (27 :: π)), (5, .ap (57 :: π)), (6, .p (I pre.length))], (57 :: π, .row false Lb 2 (some false) (pre.map Zhk ++ List.replicate suf.length zAtb)) :: S) →
  kpO [1, 2, 3, 5] [2] [] (bkO 2 (iter (round EE iter π [] [1, 2, 3, 5, 6] K8) x)) = some (.nm, [(1, .ref (1 :: π) 0), (2, .ref (2 :: π) 0), (3, .ap (27 :: π)), (5, .ap (57 :: π))], (57 :: π, .row false Lb 2 (some false) (d.attrs.map Zhk)) :: S)
 | [], pre, x, h, hm => by
  subst hS
  rw [Z3 hm]
  have : pre = d.attrs := by simpa using h.symm
  subst this
  simp [Z0y, Q9]
 | y :: suf, pre, x, h, hm => by
  rw [Z3 hm]
  have hmem : y ∈ d.attrs := by rw [h]; simp
  have hci := fun π => Hf (π := π) (ints y.rules) (by have := hd.atR y hmem; simp only [List.length_map, room]; omega)
  have hg : d.attrs[pre.length]? = some y := by rw [h]; simp
  have hlt := Zc h
  have hr := hd.attrs
  have hws := Zf (show pre.length < d.attrs.length by omega) (show d.attrs.length ≤ top63 by simp only [top63]; omega)
  have ih := fun x => cpa_loop d hd S hS suf (pre ++ [y]) x
  subst hS
  have hlen : (pre.length : Int) < (pre.length : Int) + ((suf.length : Int) + 1) := by omega
  simp [Z0y, Q9, hlt, hg, Pp, hci, Z4, List.replicate_succ, PV.setc, evRO]
  exact ih _ (by simp [h]) (by simp [hws])
abbrev cpA (π : Id) (d : Des) : AV := .agg [.p (.str d.name), .ap (3 :: 9 :: π), .ap (19 :: π), .ap (7 :: 12 :: π), .ap (27 :: π), .ap (3 :: 15 :: π), .ap (57 :: π)]
abbrev cpS (π : Id) (d : Des) : Sto := [(57 :: π, .row false Lb 2 (some false) (d.attrs.map Zhk)), (27 :: π, .row false Fq 3 (some false) (d.rules.map Zdk)), (19 :: π, .row false La 5 (some false) (d.elements.map Zu)), (3 :: 15 :: π, .row false Mh 2 (some false) (d.outputs.map U9)), (7 :: 12 :: π, .row false H1 4 (some false) (d.nodes.map Z69)), (3 :: 9 :: π, .row false Fr 2 (some false) (d.inputs.map Wt))]
theorem Z5i (d : Des) (hd : DesOk d) : EE π Qs [.p (Z5 d)] [] = some (cpA π d, cpS π d) := by
 have h1 := fun π => e_CopyPorts (π := π) (d.inputs.map Wt) (by have := hd.inputs; simp only [List.length_map, room]; omega)
 have h2 := fun π => Zi5 (π := π) (d.outputs.map U9) (by have := hd.outputs; simp only [List.length_map, room]; omega)
 have h3 := fun π => e_CopyNodes (π := π) d.nodes hd.nodes hd.args
 have h4 : d.elements.length ≤ room := by have := hd.elements; simp only [room]; omega
 have h5 : d.rules.length ≤ room := by have := hd.rules; simp only [room]; omega
 have h6 : d.attrs.length ≤ room := by have := hd.attrs; simp only [room]; omega
 simp [Zdr, Z0, Z0f, Z5, h1, h2, h3, h4, h5, evRO]
 rw [cpr_loop d hd d.rules [] _ rfl (by simp)]
 simp [h6]
 rw [cpa_loop d hd _ rfl d.attrs [] _ rfl (by simp)]
 simp
end Go.Proofs.YteecfnfjlclhdaaGreat.V
