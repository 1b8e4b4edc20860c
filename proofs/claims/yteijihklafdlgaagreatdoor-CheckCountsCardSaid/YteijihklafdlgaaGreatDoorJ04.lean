/-
The functions of the program, as the interpreter reads them (made by program).
-/
import Derived.Test.YteijihklafdlgaaGreatDoorJ03
set_option linter.unusedSimpArgs false
set_option linter.unusedVariables false
set_option linter.constructorNameAsVariable false

namespace Jet
open Go

def u8l (l : List Int) : List AV := l.map (AV.int .u8)
def g0 : List AV := u8l [240, 240, 240, 240, 240, 240, 240, 240, 240, 240, 240, 240, 240, 240, 240, 240, 240, 240, 240, 240, 240, 240, 240, 240, 240, 240, 240, 240, 240, 240, 240, 240, 240, 240, 240, 240, 240, 240, 240, 240, 240, 240, 240, 240, 240, 240, 240, 240, 240, 240, 240, 240, 240, 240, 240, 240, 240, 240, 240, 240, 240, 240, 240, 240, 240, 240, 240, 240, 240, 240, 240, 240, 240, 240, 240, 240, 240, 240, 240, 240, 240, 240, 240, 240, 240, 240, 240, 240, 240, 240, 240, 240, 240, 240, 240, 240, 240, 240, 240, 240, 240, 240, 240, 240, 240, 240, 240, 240, 240, 240, 240, 240, 240, 240, 240, 240, 240, 240, 240, 240, 240, 240, 240, 240, 240, 240, 240, 240, 241, 241, 241, 241, 241, 241, 241, 241, 241, 241, 241, 241, 241, 241, 241, 241, 241, 241, 241, 241, 241, 241, 241, 241, 241, 241, 241, 241, 241, 241, 241, 241, 241, 241, 241, 241, 241, 241, 241, 241, 241, 241, 241, 241, 241, 241, 241, 241, 241, 241, 241, 241, 241, 241, 241, 241, 241, 241, 241, 241, 241, 241, 241, 241, 241, 241, 2, 2, 2, 2, 2, 2, 2, 2, 2, 2, 2, 2, 2, 2, 2, 2, 2, 2, 2, 2, 2, 2, 2, 2, 2, 2, 2, 2, 2, 2, 19, 3, 3, 3, 3, 3, 3, 3, 3, 3, 3, 3, 3, 35, 3, 3, 52, 4, 4, 4, 68, 241, 241, 241, 241, 241, 241, 241, 241, 241, 241, 241]
def g1 : List AV := u8l [128, 191, 160, 191, 128, 159, 144, 191, 128, 143, 0, 0, 0, 0, 0, 0, 0, 0, 0, 0, 0, 0, 0, 0, 0, 0, 0, 0, 0, 0, 0, 0]
def g5 : List AV := u8l [0, 0, 0, 0, 0, 0, 0, 0, 0, 1, 1, 1, 1, 1, 0, 0, 0, 0, 0, 0, 0, 0, 0, 0, 0, 0, 0, 0, 0, 0, 0, 0, 1, 0, 0, 0, 0, 0, 0, 0, 0, 0, 0, 0, 0, 0, 0, 0, 0, 0, 0, 0, 0, 0, 0, 0, 0, 0, 0, 0, 0, 0, 0, 0, 0, 0, 0, 0, 0, 0, 0, 0, 0, 0, 0, 0, 0, 0, 0, 0, 0, 0, 0, 0, 0, 0, 0, 0, 0, 0, 0, 0, 0, 0, 0, 0, 0, 0, 0, 0, 0, 0, 0, 0, 0, 0, 0, 0, 0, 0, 0, 0, 0, 0, 0, 0, 0, 0, 0, 0, 0, 0, 0, 0, 0, 0, 0, 0, 0, 0, 0, 0, 0, 0, 0, 0, 0, 0, 0, 0, 0, 0, 0, 0, 0, 0, 0, 0, 0, 0, 0, 0, 0, 0, 0, 0, 0, 0, 0, 0, 0, 0, 0, 0, 0, 0, 0, 0, 0, 0, 0, 0, 0, 0, 0, 0, 0, 0, 0, 0, 0, 0, 0, 0, 0, 0, 0, 0, 0, 0, 0, 0, 0, 0, 0, 0, 0, 0, 0, 0, 0, 0, 0, 0, 0, 0, 0, 0, 0, 0, 0, 0, 0, 0, 0, 0, 0, 0, 0, 0, 0, 0, 0, 0, 0, 0, 0, 0, 0, 0, 0, 0, 0, 0, 0, 0, 0, 0, 0, 0, 0, 0, 0, 0, 0, 0, 0, 0, 0, 0, 0, 0, 0, 0, 0, 0]
def gl : Gl := fun g => match g with
  | 0 => some g0
  | 1 => some g1
  | 5 => some g5
  | _ => none

abbrev f_jettisonlaw11_CheckCounts : Nat := 3
abbrev f_jettisonlaw11_examples : Nat := 10
abbrev f_jettisonlaw11_Shape_shape : Nat := 11
abbrev f_check_Paths : Nat := 12
abbrev f_check_Steps : Nat := 13
abbrev f_check_Code : Nat := 14
abbrev f_jettisonlaw12_examples : Nat := 19
abbrev f_jettisonlaw11_asked : Nat := 37
abbrev f_expr_Size : Nat := 38
abbrev f_jettisonlaw11_feed_next : Nat := 66
abbrev f_jettisonlaw11_feed_items : Nat := 67
abbrev f_expr_walk : Nat := 68
abbrev f_jettisonlaw11_feed_item : Nat := 110
abbrev f_jettisonlaw11_feed_pred : Nat := 148
abbrev f_jettisonlaw11_feed_truth : Nat := 186
abbrev f_jettisonlaw11_feed_number : Nat := 214
abbrev f_jettisonlaw11_feed_ref : Nat := 231
abbrev f_jettisonlaw11_map3 : Nat := 246

inductive BT where
  | nil
  | leaf (k : Nat) (v : AFn)
  | node (k : Nat) (l r : BT)

def BT.get : BT → Nat → Option AFn
  | .nil, _ => none
  | .leaf k v, f => bif Nat.beq f k then some v else none
  | .node k l r, f => bif Nat.blt f k then l.get f else r.get f

def BT.All (p : Nat → AFn → Prop) : BT → Prop
  | .nil => True
  | .leaf k v => p k v
  | .node _ l r => l.All p ∧ r.All p

theorem BT.all_get {p : Nat → AFn → Prop} : ∀ {t : BT}, t.All p → ∀ {f : Nat} {v : AFn}, t.get f = some v → p f v
  | .nil, _, f, v, h => by simp [BT.get] at h
  | .leaf k v', ha, f, v, h => by
    simp only [BT.get, cond_eq_ite] at h
    split at h
    · rename_i e
      have : f = k := Nat.eq_of_beq_eq_true e
      cases h; subst this; exact ha
    · cases h
  | .node k l r, ha, f, v, h => by
    simp only [BT.get, cond_eq_ite] at h
    split at h
    · exact BT.all_get ha.1 h
    · exact BT.all_get ha.2 h

/-- Functions for which a table may answer otherwise. -/
def hooked : List Nat := [f_jettisonlaw11_examples, f_jettisonlaw12_examples, 255]

end Jet

namespace Jet
open Go

/-- jettison/jettisonlaw11.CheckCounts -/
def q_jettisonlaw11_CheckCounts : AFn := ⟨96,
  (.seq (.reg [⟨(some 2), .e (.box (.t 0)), none, 0, 0⟩,
    ⟨(some 3), .e (.box (.t 1)), none, 0, 0⟩,
    ⟨(some 4), .p (.mv (.c (.bool false))), none, 0, 0⟩] false)
  (.seq (.reg [⟨(some 10), .e (.call (.c (.fn (.func 10) [] [])) []), none, 0, 0⟩,
    ⟨(some 5), .p (.mv (.t 10)), none, 0, 0⟩] false)
  (.seq (.seq (.reg [⟨(some 11), .p (.mv (.t 5)), none, 0, 0⟩,
     ⟨(some 12), .p (.un .not (.t 11)), none, 0, 0⟩] false)
   (.cond (.t 12)
    (.seq (.reg [⟨(some 4), .p (.mv (.c (.bool false))), none, 0, 0⟩] false)
    .ret)
    .skip))
  (.seq (.reg [⟨(some 13), .p (.faddr 3 (.t 2)), none, 0, 0⟩,
    ⟨none, .e (.store 1 (.t 13) (.c (.bool true))), none, 0, 0⟩] false)
  (.seq (.reg [⟨(some 14), .p (.faddr 3 (.t 3)), none, 0, 0⟩,
    ⟨none, .e (.store 1 (.t 14) (.c (.bool true))), none, 0, 0⟩] false)
  (.seq (.reg [⟨(some 15), .r (.load 5 true (.t 2)), none, 0, 0⟩,
    ⟨(some 16), .e (.call (.c (.fn (.func 11) [] [])) [(.t 15)]), none, 0, 0⟩,
    ⟨(some 17), .p (.field 0 1 false (.t 16)), none, 0, 0⟩,
    ⟨(some 6), .p (.mv (.t 17)), none, 0, 0⟩] false)
  (.seq (.reg [⟨(some 18), .r (.load 5 true (.t 3)), none, 0, 0⟩,
    ⟨(some 19), .e (.call (.c (.fn (.func 11) [] [])) [(.t 18)]), none, 0, 0⟩,
    ⟨(some 20), .p (.field 0 1 false (.t 19)), none, 0, 0⟩,
    ⟨(some 7), .p (.mv (.t 20)), none, 0, 0⟩] false)
  (.seq (.reg [⟨(some 21), .p (.mv (.t 6)), none, 0, 0⟩,
    ⟨(some 22), .e (.app 7 104 (.c (.sl .full [])) (.t 21)), none, 0, 0⟩,
    ⟨(some 23), .p (.mv (.t 7)), none, 0, 0⟩,
    ⟨(some 24), .e (.app 7 104 (.t 22) (.t 23)), none, 0, 0⟩,
    ⟨(some 8), .p (.mv (.t 24)), none, 0, 0⟩] false)
  (.seq (.reg [⟨(some 25), .p (.mv (.t 6)), none, 0, 0⟩,
    ⟨(some 26), .p (.mv (.t 7)), none, 0, 0⟩,
    ⟨(some 27), .p (.bslice 1 [(.t 25), (.t 26)]), none, 0, 0⟩,
    ⟨(some 28), .p (.build [(.int .i64 0), (.str []), (.str []), (.sl .full []), (.int .i64 0), (.int .i64 0), (.sl .full [])] [(0, 1, (.c (.int .i64 3))), (6, 1, (.t 27))]), none, 0, 0⟩,
    ⟨(some 29), .p (.bslice 7 [(.t 28)]), none, 0, 0⟩,
    ⟨(some 9), .p (.mv (.t 29)), none, 0, 0⟩] false)
  (.seq (.reg [⟨(some 30), .p (.mv (.t 5)), none, 0, 0⟩,
    ⟨(some 31), .p (.mv (.t 30)), none, 0, 0⟩,
    ⟨(some 32), .p (.mv (.t 8)), (some (31, true)), 0, 0⟩,
    ⟨(some 33), .e (.call (.c (.fn (.func 12) [] [])) [(.t 32)]), (some (31, true)), 0, 0⟩,
    ⟨(some 34), .p (.mv (.t 6)), (some (31, true)), 0, 0⟩,
    ⟨(some 35), .e (.call (.c (.fn (.func 12) [] [])) [(.t 34)]), (some (31, true)), 0, 0⟩,
    ⟨(some 36), .p (.mv (.t 7)), (some (31, true)), 0, 0⟩,
    ⟨(some 37), .e (.call (.c (.fn (.func 12) [] [])) [(.t 36)]), (some (31, true)), 0, 0⟩,
    ⟨(some 38), .p (.bin .mul .other (.t 35) (.t 37)), (some (31, true)), 0, 0⟩,
    ⟨(some 39), .p (.bin .eql .other (.t 33) (.t 38)), (some (31, true)), 0, 0⟩,
    ⟨(some 40), .p (.pick (.t 31) (.t 39) (.c (.bool false))), none, 0, 0⟩,
    ⟨(some 41), .p (.mv (.t 40)), none, 0, 0⟩,
    ⟨(some 42), .p (.mv (.t 8)), (some (41, true)), 0, 0⟩,
    ⟨(some 43), .e (.call (.c (.fn (.func 13) [] [])) [(.t 42)]), (some (41, true)), 0, 0⟩,
    ⟨(some 44), .p (.mv (.t 6)), (some (41, true)), 0, 0⟩,
    ⟨(some 45), .e (.call (.c (.fn (.func 13) [] [])) [(.t 44)]), (some (41, true)), 0, 0⟩,
    ⟨(some 46), .p (.mv (.t 7)), (some (41, true)), 0, 0⟩,
    ⟨(some 47), .e (.call (.c (.fn (.func 13) [] [])) [(.t 46)]), (some (41, true)), 0, 0⟩,
    ⟨(some 48), .p (.bin .add .other (.t 45) (.t 47)), (some (41, true)), 0, 0⟩,
    ⟨(some 49), .p (.bin .eql .other (.t 43) (.t 48)), (some (41, true)), 0, 0⟩,
    ⟨(some 50), .p (.pick (.t 41) (.t 49) (.c (.bool false))), none, 0, 0⟩,
    ⟨(some 51), .p (.mv (.t 50)), none, 0, 0⟩,
    ⟨(some 52), .p (.mv (.t 8)), (some (51, true)), 0, 0⟩,
    ⟨(some 53), .e (.call (.c (.fn (.func 14) [] [])) [(.t 52)]), (some (51, true)), 0, 0⟩,
    ⟨(some 54), .p (.mv (.t 6)), (some (51, true)), 0, 0⟩,
    ⟨(some 55), .e (.call (.c (.fn (.func 14) [] [])) [(.t 54)]), (some (51, true)), 0, 0⟩,
    ⟨(some 56), .p (.mv (.t 7)), (some (51, true)), 0, 0⟩,
    ⟨(some 57), .e (.call (.c (.fn (.func 14) [] [])) [(.t 56)]), (some (51, true)), 0, 0⟩,
    ⟨(some 58), .p (.bin .add .other (.t 55) (.t 57)), (some (51, true)), 0, 0⟩,
    ⟨(some 59), .p (.bin .eql .other (.t 53) (.t 58)), (some (51, true)), 0, 0⟩,
    ⟨(some 60), .p (.pick (.t 51) (.t 59) (.c (.bool false))), none, 0, 0⟩,
    ⟨(some 61), .p (.mv (.t 60)), none, 0, 0⟩,
    ⟨(some 62), .p (.mv (.t 9)), (some (61, true)), 0, 0⟩,
    ⟨(some 63), .e (.call (.c (.fn (.func 12) [] [])) [(.t 62)]), (some (61, true)), 0, 0⟩,
    ⟨(some 64), .p (.mv (.t 6)), (some (61, true)), 0, 0⟩,
    ⟨(some 65), .e (.call (.c (.fn (.func 12) [] [])) [(.t 64)]), (some (61, true)), 0, 0⟩,
    ⟨(some 66), .p (.mv (.t 7)), (some (61, true)), 0, 0⟩,
    ⟨(some 67), .e (.call (.c (.fn (.func 12) [] [])) [(.t 66)]), (some (61, true)), 0, 0⟩,
    ⟨(some 68), .p (.bin .add .other (.t 65) (.t 67)), (some (61, true)), 0, 0⟩,
    ⟨(some 69), .p (.bin .eql .other (.t 63) (.t 68)), (some (61, true)), 0, 0⟩,
    ⟨(some 70), .p (.pick (.t 61) (.t 69) (.c (.bool false))), none, 0, 0⟩,
    ⟨(some 71), .p (.mv (.t 70)), none, 0, 0⟩,
    ⟨(some 72), .p (.mv (.t 9)), (some (71, true)), 0, 0⟩,
    ⟨(some 73), .e (.call (.c (.fn (.func 13) [] [])) [(.t 72)]), (some (71, true)), 0, 0⟩,
    ⟨(some 74), .p (.mv (.t 6)), (some (71, true)), 0, 0⟩,
    ⟨(some 75), .e (.call (.c (.fn (.func 13) [] [])) [(.t 74)]), (some (71, true)), 0, 0⟩,
    ⟨(some 76), .p (.mv (.t 7)), (some (71, true)), 0, 0⟩,
    ⟨(some 77), .e (.call (.c (.fn (.func 13) [] [])) [(.t 76)]), (some (71, true)), 0, 0⟩,
    ⟨(some 78), .p (.mnmx true [(.t 75), (.t 77)]), (some (71, true)), 0, 0⟩,
    ⟨(some 79), .p (.bin .eql .other (.t 73) (.t 78)), (some (71, true)), 0, 0⟩,
    ⟨(some 80), .p (.pick (.t 71) (.t 79) (.c (.bool false))), none, 0, 0⟩,
    ⟨(some 81), .p (.mv (.t 80)), none, 0, 0⟩,
    ⟨(some 82), .p (.mv (.t 9)), (some (81, true)), 0, 0⟩,
    ⟨(some 83), .e (.call (.c (.fn (.func 14) [] [])) [(.t 82)]), (some (81, true)), 0, 0⟩,
    ⟨(some 84), .p (.mv (.t 8)), (some (81, true)), 0, 0⟩,
    ⟨(some 85), .e (.call (.c (.fn (.func 14) [] [])) [(.t 84)]), (some (81, true)), 0, 0⟩,
    ⟨(some 86), .p (.bin .eql .other (.t 83) (.t 85)), (some (81, true)), 0, 0⟩,
    ⟨(some 87), .p (.pick (.t 81) (.t 86) (.c (.bool false))), none, 0, 0⟩,
    ⟨(some 88), .p (.mv (.t 87)), none, 0, 0⟩,
    ⟨(some 89), .e (.call (.c (.fn (.func 12) [] [])) [(.c (.sl .full []))]), (some (88, true)), 0, 0⟩,
    ⟨(some 90), .p (.bin .eql .other (.t 89) (.c (.int .i64 1))), (some (88, true)), 0, 0⟩,
    ⟨(some 91), .p (.pick (.t 88) (.t 90) (.c (.bool false))), none, 0, 0⟩,
    ⟨(some 92), .p (.mv (.t 91)), none, 0, 0⟩,
    ⟨(some 93), .e (.call (.c (.fn (.func 13) [] [])) [(.c (.sl .full []))]), (some (92, true)), 0, 0⟩,
    ⟨(some 94), .p (.bin .eql .other (.t 93) (.c (.int .i64 0))), (some (92, true)), 0, 0⟩,
    ⟨(some 95), .p (.pick (.t 92) (.t 94) (.c (.bool false))), none, 0, 0⟩,
    ⟨(some 4), .p (.mv (.t 95)), none, 0, 0⟩] false)
  .ret)))))))))),
  [.t 4]⟩

def q_jettisonlaw11_examples_b0 : ACode :=
  (.seq (.seq (.reg [⟨(some 12), .p (.mv (.t 3)), none, 0, 0⟩,
        ⟨(some 13), .p (.mv (.t 1)), none, 0, 0⟩,
        ⟨(some 14), .p (.len (.t 13)), none, 0, 0⟩,
        ⟨(some 15), .p (.bin .lss .other (.t 12) (.t 14)), none, 0, 0⟩] false)
      (.cond (.t 15)
       .skip
       (.exit 0)))
     (.seq (.block 1
       (.seq (.reg [⟨(some 19), .p (.mv (.t 1)), none, 0, 0⟩,
         ⟨(some 20), .p (.mv (.t 3)), none, 0, 0⟩,
         ⟨(some 21), .p (.iaddrS 1 (.t 19) (.t 20)), none, 0, 0⟩,
         ⟨(some 22), .r (.load 1 false (.t 21)), none, 0, 0⟩,
         ⟨(some 23), .e (.call (.c (.fn (.func 17) [] [])) [(.t 22)]), none, 0, 0⟩,
         ⟨(some 18), .p (.mv (.t 23)), none, 0, 0⟩,
         ⟨(some 24), .p (.ext 0 (.t 18)), none, 0, 0⟩,
         ⟨(some 25), .p (.ext 1 (.t 18)), none, 0, 0⟩,
         ⟨(some 26), .p (.ext 2 (.t 18)), none, 0, 0⟩,
         ⟨(some 4), .al [(.sl .full []), (.int .i64 0), (.str [])], none, 0, 0⟩,
         ⟨none, .e (.store 3 (.t 4) (.t 24)), none, 0, 0⟩,
         ⟨(some 5), .p (.mv (.t 25)), none, 0, 0⟩,
         ⟨(some 6), .p (.mv (.t 26)), none, 0, 0⟩] false)
       (.seq (.reg [⟨(some 27), .p (.mv (.t 6)), none, 0, 0⟩,
         ⟨(some 28), .p (.bin .neq .other (.t 27) (.c (.int .i64 0))), none, 0, 0⟩,
         ⟨(some 29), .p (.mv (.t 28)), none, 0, 0⟩,
         ⟨(some 30), .e (.call (.c (.fn (.func 16) [] [])) []), (some (29, false)), 0, 0⟩,
         ⟨(some 31), .r (.load 3 true (.t 4)), (some (29, false)), 1, 0⟩,
         ⟨(some 32), .e (.call (.c (.fn (.func 15) [] [])) [(.t 30), (.t 31)]), (some (29, false)), 0, 0⟩,
         ⟨(some 33), .p (.mv (.t 2)), (some (29, false)), 2, 0⟩,
         ⟨(some 34), .p (.mv (.t 3)), (some (29, false)), 2, 0⟩,
         ⟨(some 35), .p (.iaddrS 1 (.t 33) (.t 34)), (some (29, false)), 2, 0⟩,
         ⟨(some 36), .r (.load 1 false (.t 35)), (some (29, false)), 2, 0⟩,
         ⟨(some 37), .p (.bin .neq .other (.t 32) (.t 36)), (some (29, false)), 0, 0⟩,
         ⟨(some 38), .p (.pick (.t 29) (.c (.bool true)) (.t 37)), none, 0, 0⟩] true)
       (.cond (.t 38)
        (.seq (.reg [⟨(some 0), .p (.mv (.c (.bool false))), none, 0, 0⟩] false)
        .ret)
        .skip))))
     (.reg [⟨(some 16), .p (.mv (.t 3)), none, 0, 0⟩,
      ⟨(some 17), .p (.bin .add .other (.t 16) (.c (.int .i64 1))), none, 0, 0⟩,
      ⟨(some 3), .p (.mv (.t 17)), none, 0, 0⟩] false)))

/-- jettison/jettisonlaw11.examples -/
def q_jettisonlaw11_examples : AFn := ⟨71,
  (.seq (.reg [⟨(some 0), .p (.mv (.c (.bool false))), none, 0, 0⟩] false)
  (.seq (.reg [⟨(some 10), .p (.bslice 1 [(.c (.str [65, 32, 97, 32, 59, 32, 33, 66, 32, 98, 91, 98, 46, 121, 32, 61, 61, 32, 97, 46, 120, 93, 32, 59, 32, 40, 65, 32, 99, 123, 49, 44, 50, 125, 32, 124, 32, 67, 32, 100, 41, 32, 87, 73, 84, 72, 73, 78, 32, 49, 48, 32, 66, 89, 32, 107])), (.c (.str [68, 32, 97, 32, 87, 73, 84, 72, 73, 78, 32, 49])), (.c (.str [65, 32, 97, 91, 98, 46, 120, 32, 61, 61, 32, 49, 93, 32, 87, 73, 84, 72, 73, 78, 32, 49])), (.c (.str [65, 32, 97, 91, 97, 46, 120, 93, 32, 87, 73, 84, 72, 73, 78, 32, 49])), (.c (.str [33, 65, 32, 97, 32, 59, 32, 66, 32, 98, 32, 87, 73, 84, 72, 73, 78, 32, 49])), (.c (.str [65, 32, 97, 32, 59, 32, 66, 32, 98, 91, 97, 46, 121, 32, 61, 61, 32, 49, 93, 32, 87, 73, 84, 72, 73, 78, 32, 49])), (.c (.str [65, 32, 97, 32, 87, 73, 84, 72, 73, 78, 32, 49, 32, 66, 89, 32, 120]))]), none, 0, 0⟩,
    ⟨(some 1), .p (.mv (.t 10)), none, 0, 0⟩] false)
  (.seq (.reg [⟨(some 11), .p (.bslice 1 [(.c (.int .i64 0)), (.c (.int .i64 5)), (.c (.int .i64 5)), (.c (.int .i64 6)), (.c (.int .i64 1)), (.c (.int .i64 5)), (.c (.int .i64 0))]), none, 0, 0⟩,
    ⟨(some 2), .p (.mv (.t 11)), none, 0, 0⟩] false)
  (.seq (.seq (.reg [⟨(some 3), .p (.mv (.c (.int .i64 0))), none, 0, 0⟩] false)
   (.block 0
    (.loop q_jettisonlaw11_examples_b0)))
  (.seq (.reg [⟨(some 40), .e (.call (.c (.fn (.func 17) [] [])) [(.c (.str [65, 32, 97, 123, 49, 44, 51, 125, 32, 59, 32, 40, 66, 32, 98, 32, 124, 32, 67, 32, 99, 123, 50, 44, 52, 125, 41, 32, 87, 73, 84, 72, 73, 78, 32, 49]))]), none, 0, 0⟩,
    ⟨(some 39), .p (.mv (.t 40)), none, 0, 0⟩,
    ⟨(some 41), .p (.ext 0 (.t 39)), none, 0, 0⟩,
    ⟨(some 42), .p (.ext 1 (.t 39)), none, 0, 0⟩,
    ⟨(some 43), .p (.ext 2 (.t 39)), none, 0, 0⟩,
    ⟨(some 7), .al [(.sl .full []), (.int .i64 0), (.str [])], none, 0, 0⟩,
    ⟨none, .e (.store 3 (.t 7) (.t 41)), none, 0, 0⟩,
    ⟨(some 8), .p (.mv (.t 42)), none, 0, 0⟩,
    ⟨(some 9), .p (.mv (.t 43)), none, 0, 0⟩] false)
  (.seq (.reg [⟨(some 44), .p (.faddr 0 (.t 7)), none, 0, 0⟩,
    ⟨(some 45), .r (.load 1 false (.t 44)), none, 0, 0⟩,
    ⟨(some 46), .e (.call (.c (.fn (.func 12) [] [])) [(.t 45)]), none, 0, 0⟩,
    ⟨(some 47), .p (.bin .eql .other (.t 46) (.c (.int .i64 12))), none, 0, 0⟩,
    ⟨(some 48), .p (.mv (.t 47)), none, 0, 0⟩,
    ⟨(some 49), .p (.faddr 0 (.t 7)), (some (48, true)), 0, 0⟩,
    ⟨(some 50), .r (.load 1 false (.t 49)), (some (48, true)), 0, 0⟩,
    ⟨(some 51), .e (.call (.c (.fn (.func 13) [] [])) [(.t 50)]), (some (48, true)), 0, 0⟩,
    ⟨(some 52), .p (.bin .eql .other (.t 51) (.c (.int .i64 7))), (some (48, true)), 0, 0⟩,
    ⟨(some 53), .p (.pick (.t 48) (.t 52) (.c (.bool false))), none, 0, 0⟩,
    ⟨(some 54), .p (.mv (.t 53)), none, 0, 0⟩,
    ⟨(some 55), .p (.faddr 0 (.t 7)), (some (54, true)), 0, 0⟩,
    ⟨(some 56), .r (.load 1 false (.t 55)), (some (54, true)), 0, 0⟩,
    ⟨(some 57), .e (.call (.c (.fn (.func 14) [] [])) [(.t 56)]), (some (54, true)), 0, 0⟩,
    ⟨(some 58), .p (.bin .eql .other (.t 57) (.c (.int .i64 0))), (some (54, true)), 0, 0⟩,
    ⟨(some 59), .p (.pick (.t 54) (.t 58) (.c (.bool false))), none, 0, 0⟩,
    ⟨(some 60), .p (.mv (.t 59)), none, 0, 0⟩,
    ⟨(some 61), .r (.load 3 true (.t 7)), (some (60, true)), 0, 0⟩,
    ⟨(some 62), .e (.call (.c (.fn (.func 15) [] [])) [(.c (.sl .full [])), (.t 61)]), (some (60, true)), 0, 0⟩,
    ⟨(some 63), .p (.bin .eql .other (.t 62) (.c (.int .i64 4))), (some (60, true)), 0, 0⟩,
    ⟨(some 64), .p (.pick (.t 60) (.t 63) (.c (.bool false))), none, 0, 0⟩,
    ⟨(some 65), .p (.mv (.t 64)), none, 0, 0⟩,
    ⟨(some 66), .e (.call (.c (.fn (.func 16) [] [])) []), (some (65, true)), 0, 0⟩,
    ⟨(some 67), .p (.build [(.sl .full []), (.int .i64 0), (.str [])] []), (some (65, true)), 0, 0⟩,
    ⟨(some 68), .e (.call (.c (.fn (.func 15) [] [])) [(.t 66), (.t 67)]), (some (65, true)), 0, 0⟩,
    ⟨(some 69), .p (.bin .eql .other (.t 68) (.c (.int .i64 1))), (some (65, true)), 0, 0⟩,
    ⟨(some 70), .p (.pick (.t 65) (.t 69) (.c (.bool false))), none, 0, 0⟩,
    ⟨(some 0), .p (.mv (.t 70)), none, 0, 0⟩] false)
  .ret)))))),
  [.t 0]⟩

/-- (jettison/jettisonlaw11.Shape).shape -/
def q_jettisonlaw11_Shape_shape : AFn := ⟨11,
  (.seq (.reg [⟨(some 1), .e (.box (.t 0)), none, 0, 0⟩,
    ⟨(some 2), .al [(.sl .full []), (.int .i64 0), (.str [])], none, 0, 0⟩] false)
  (.seq (.seq (.reg [⟨(some 3), .p (.faddr 3 (.t 1)), none, 0, 0⟩,
     ⟨(some 4), .r (.load 1 false (.t 3)), none, 0, 0⟩,
     ⟨(some 5), .p (.un .not (.t 4)), none, 0, 0⟩] false)
   (.cond (.t 5)
    (.seq (.reg [⟨(some 6), .p (.faddr 0 (.t 1)), none, 0, 0⟩,
      ⟨(some 7), .r (.load 3 true (.t 6)), none, 0, 0⟩,
      ⟨none, .e (.store 3 (.t 2) (.t 7)), none, 0, 0⟩] false)
    .ret)
    .skip))
  (.seq (.reg [⟨(some 8), .p (.faddr 4 (.t 1)), none, 0, 0⟩,
    ⟨(some 9), .r (.load 1 false (.t 8)), none, 0, 0⟩,
    ⟨(some 10), .e (.call (.c (.fn (.func 37) [] [])) [(.t 9)]), none, 0, 0⟩,
    ⟨none, .e (.store 3 (.t 2) (.t 10)), none, 0, 0⟩] false)
  .ret))),
  [.c 2 3 true]⟩

def q_check_Paths_b0 : ACode :=
  (.seq (.reg [⟨(some 40), .p (.bin .lss .other (.t 39) (.t 38)), none, 0, 0⟩] false)
             (.seq (.cond (.t 40)
               .skip
               (.exit 3))
             (.seq (.block 4
               (.seq (.reg [⟨(some 41), .p (.iaddrS 1 (.t 37) (.t 39)), none, 0, 0⟩,
                 ⟨(some 42), .r (.load 1 false (.t 41)), none, 0, 0⟩,
                 ⟨(some 8), .p (.mv (.t 42)), none, 0, 0⟩] false)
               (.reg [⟨(some 43), .p (.mv (.t 6)), none, 0, 0⟩,
                ⟨(some 44), .p (.mv (.t 8)), none, 0, 0⟩,
                ⟨(some 45), .e (.call (.c (.fn (.func 12) [] [])) [(.t 44)]), none, 0, 0⟩,
                ⟨(some 46), .p (.bin .add .other (.t 43) (.t 45)), none, 0, 0⟩,
                ⟨(some 47), .p (.mnmx false [(.t 46), (.c (.int .i64 1048576))]), none, 0, 0⟩,
                ⟨(some 6), .p (.mv (.t 47)), none, 0, 0⟩] false)))
             (.reg [⟨(some 48), .p (.bin .add .other (.t 39) (.c (.int .i64 1))), none, 0, 0⟩,
              ⟨(some 39), .p (.mv (.t 48)), none, 0, 0⟩] false))))

def q_check_Paths_b1 : ACode :=
  (.seq (.reg [⟨(some 12), .p (.bin .lss .other (.t 11) (.t 10)), none, 0, 0⟩] false)
     (.seq (.cond (.t 12)
       .skip
       (.exit 0))
     (.seq (.block 1
       (.seq (.reg [⟨(some 13), .p (.iaddrS 7 (.t 9) (.t 11)), none, 0, 0⟩,
         ⟨(some 14), .r (.load 7 true (.t 13)), none, 0, 0⟩,
         ⟨(some 5), .al [(.int .i64 0), (.str []), (.str []), (.sl .full []), (.int .i64 0), (.int .i64 0), (.sl .full [])], none, 0, 0⟩,
         ⟨none, .e (.store 7 (.t 5) (.t 14)), none, 0, 0⟩] false)
       (.seq (.reg [⟨(some 6), .p (.mv (.c (.int .i64 1))), none, 0, 0⟩] false)
       (.seq (.seq (.reg [⟨(some 15), .p (.faddr 0 (.t 5)), none, 0, 0⟩,
          ⟨(some 16), .r (.load 1 false (.t 15)), none, 0, 0⟩] false)
        (.block 2
         (.seq (.reg [⟨(some 18), .p (.bin .eql .other (.t 16) (.c (.int .i64 1))), none, 0, 0⟩,
           ⟨(some 17), .p (.mv (.t 18)), none, 0, 0⟩] false)
         (.cond (.t 17)
          (.seq (.reg [⟨(some 6), .p (.mv (.c (.int .i64 0))), none, 0, 0⟩] false)
          (.seq (.reg [⟨(some 19), .p (.faddr 4 (.t 5)), none, 0, 0⟩,
            ⟨(some 20), .r (.load 1 false (.t 19)), none, 0, 0⟩,
            ⟨(some 21), .p (.faddr 5 (.t 5)), none, 0, 0⟩,
            ⟨(some 22), .r (.load 1 false (.t 21)), none, 0, 0⟩,
            ⟨(some 23), .p (.bin .leq .other (.t 20) (.t 22)), none, 0, 0⟩] false)
          (.cond (.t 23)
           (.reg [⟨(some 24), .p (.faddr 5 (.t 5)), none, 0, 0⟩,
            ⟨(some 25), .r (.load 1 false (.t 24)), none, 0, 0⟩,
            ⟨(some 26), .p (.convInt .u64 (.t 25)), none, 0, 0⟩,
            ⟨(some 27), .p (.faddr 4 (.t 5)), none, 0, 0⟩,
            ⟨(some 28), .r (.load 1 false (.t 27)), none, 0, 0⟩,
            ⟨(some 29), .p (.convInt .u64 (.t 28)), none, 0, 0⟩,
            ⟨(some 30), .p (.bin .sub .other (.t 26) (.t 29)), none, 0, 0⟩,
            ⟨(some 31), .p (.mnmx false [(.t 30), (.c (.int .u64 1048575))]), none, 0, 0⟩,
            ⟨(some 32), .p (.convInt .i64 (.t 31)), none, 0, 0⟩,
            ⟨(some 33), .p (.bin .add .other (.t 32) (.c (.int .i64 1))), none, 0, 0⟩,
            ⟨(some 6), .p (.mv (.t 33)), none, 0, 0⟩] false)
           .skip)))
          (.seq (.reg [⟨(some 35), .p (.bin .eql .other (.t 16) (.c (.int .i64 3))), none, 0, 0⟩,
            ⟨(some 34), .p (.mv (.t 35)), none, 0, 0⟩] false)
          (.cond (.t 34)
           (.seq (.reg [⟨(some 6), .p (.mv (.c (.int .i64 0))), none, 0, 0⟩] false)
           (.seq (.reg [⟨(some 36), .p (.faddr 6 (.t 5)), none, 0, 0⟩,
             ⟨(some 37), .r (.load 1 false (.t 36)), none, 0, 0⟩,
             ⟨(some 38), .p (.len (.t 37)), none, 0, 0⟩,
             ⟨(some 39), .p (.mv (.c (.int .i64 0))), none, 0, 0⟩] false)
           (.block 3
            (.loop q_check_Paths_b0))))
           .skip))))))
       (.reg [⟨(some 49), .p (.mv (.t 3)), none, 0, 0⟩,
        ⟨(some 50), .p (.mv (.t 6)), none, 0, 0⟩,
        ⟨(some 51), .p (.bin .mul .other (.t 49) (.t 50)), none, 0, 0⟩,
        ⟨(some 52), .p (.mnmx false [(.t 51), (.c (.int .i64 1048576))]), none, 0, 0⟩,
        ⟨(some 3), .p (.mv (.t 52)), none, 0, 0⟩] false)))))
     (.reg [⟨(some 53), .p (.bin .add .other (.t 11) (.c (.int .i64 1))), none, 0, 0⟩,
      ⟨(some 11), .p (.mv (.t 53)), none, 0, 0⟩] false))))

/-- jettison/check.Paths -/
def q_check_Paths : AFn := ⟨55,
  (.seq (.reg [⟨(some 2), .p (.mv (.c (.int .i64 0))), none, 0, 0⟩] false)
  (.seq (.reg [⟨(some 3), .p (.mv (.c (.int .i64 1))), none, 0, 0⟩] false)
  (.seq (.seq (.reg [⟨(some 9), .p (.mv (.t 0)), none, 0, 0⟩,
     ⟨(some 10), .p (.len (.t 9)), none, 0, 0⟩,
     ⟨(some 11), .p (.mv (.c (.int .i64 0))), none, 0, 0⟩] false)
   (.block 0
    (.loop q_check_Paths_b1)))
  (.seq (.reg [⟨(some 54), .p (.mv (.t 3)), none, 0, 0⟩,
    ⟨(some 2), .p (.mv (.t 54)), none, 0, 0⟩] false)
  .ret)))),
  [.t 2]⟩

def q_check_Steps_b0 : ACode :=
  (.seq (.reg [⟨(some 31), .p (.bin .lss .other (.t 30) (.t 29)), none, 0, 0⟩] false)
              (.seq (.cond (.t 31)
                .skip
                (.exit 3))
              (.seq (.block 4
                (.seq (.reg [⟨(some 32), .p (.iaddrS 1 (.t 28) (.t 30)), none, 0, 0⟩,
                  ⟨(some 33), .r (.load 1 false (.t 32)), none, 0, 0⟩,
                  ⟨(some 8), .p (.mv (.t 33)), none, 0, 0⟩] false)
                (.reg [⟨(some 34), .p (.mv (.t 6)), none, 0, 0⟩,
                 ⟨(some 35), .p (.mv (.t 8)), none, 0, 0⟩,
                 ⟨(some 36), .e (.call (.c (.fn (.func 13) [] [])) [(.t 35)]), none, 0, 0⟩,
                 ⟨(some 37), .p (.mnmx true [(.t 34), (.t 36)]), none, 0, 0⟩,
                 ⟨(some 6), .p (.mv (.t 37)), none, 0, 0⟩] false)))
              (.reg [⟨(some 38), .p (.bin .add .other (.t 30) (.c (.int .i64 1))), none, 0, 0⟩,
               ⟨(some 30), .p (.mv (.t 38)), none, 0, 0⟩] false))))

def q_check_Steps_b1 : ACode :=
  (.seq (.reg [⟨(some 12), .p (.bin .lss .other (.t 11) (.t 10)), none, 0, 0⟩] false)
     (.seq (.cond (.t 12)
       .skip
       (.exit 0))
     (.seq (.block 1
       (.seq (.reg [⟨(some 13), .p (.iaddrS 7 (.t 9) (.t 11)), none, 0, 0⟩,
         ⟨(some 14), .r (.load 7 true (.t 13)), none, 0, 0⟩,
         ⟨(some 5), .al [(.int .i64 0), (.str []), (.str []), (.sl .full []), (.int .i64 0), (.int .i64 0), (.sl .full [])], none, 0, 0⟩,
         ⟨none, .e (.store 7 (.t 5) (.t 14)), none, 0, 0⟩] false)
       (.seq (.reg [⟨(some 6), .p (.mv (.c (.int .i64 1))), none, 0, 0⟩] false)
       (.seq (.seq (.reg [⟨(some 15), .p (.faddr 0 (.t 5)), none, 0, 0⟩,
          ⟨(some 16), .r (.load 1 false (.t 15)), none, 0, 0⟩] false)
        (.block 2
         (.seq (.reg [⟨(some 18), .p (.bin .eql .other (.t 16) (.c (.int .i64 1))), none, 0, 0⟩,
           ⟨(some 17), .p (.mv (.t 18)), none, 0, 0⟩] false)
         (.cond (.t 17)
          (.reg [⟨(some 19), .p (.faddr 5 (.t 5)), none, 0, 0⟩,
           ⟨(some 20), .r (.load 1 false (.t 19)), none, 0, 0⟩,
           ⟨(some 21), .p (.mnmx true [(.t 20), (.c (.int .i64 0))]), none, 0, 0⟩,
           ⟨(some 22), .p (.mnmx false [(.t 21), (.c (.int .i64 1048576))]), none, 0, 0⟩,
           ⟨(some 6), .p (.mv (.t 22)), none, 0, 0⟩] false)
          (.seq (.reg [⟨(some 24), .p (.bin .eql .other (.t 16) (.c (.int .i64 2))), none, 0, 0⟩,
            ⟨(some 23), .p (.mv (.t 24)), none, 0, 0⟩] false)
          (.cond (.t 23)
           (.reg [⟨(some 6), .p (.mv (.c (.int .i64 0))), none, 0, 0⟩] false)
           (.seq (.reg [⟨(some 26), .p (.bin .eql .other (.t 16) (.c (.int .i64 3))), none, 0, 0⟩,
             ⟨(some 25), .p (.mv (.t 26)), none, 0, 0⟩] false)
           (.cond (.t 25)
            (.seq (.reg [⟨(some 6), .p (.mv (.c (.int .i64 0))), none, 0, 0⟩] false)
            (.seq (.reg [⟨(some 27), .p (.faddr 6 (.t 5)), none, 0, 0⟩,
              ⟨(some 28), .r (.load 1 false (.t 27)), none, 0, 0⟩,
              ⟨(some 29), .p (.len (.t 28)), none, 0, 0⟩,
              ⟨(some 30), .p (.mv (.c (.int .i64 0))), none, 0, 0⟩] false)
            (.block 3
             (.loop q_check_Steps_b0))))
            .skip))))))))
       (.reg [⟨(some 39), .p (.mv (.t 3)), none, 0, 0⟩,
        ⟨(some 40), .p (.mv (.t 6)), none, 0, 0⟩,
        ⟨(some 41), .p (.bin .add .other (.t 39) (.t 40)), none, 0, 0⟩,
        ⟨(some 42), .p (.mnmx false [(.t 41), (.c (.int .i64 1048576))]), none, 0, 0⟩,
        ⟨(some 3), .p (.mv (.t 42)), none, 0, 0⟩] false)))))
     (.reg [⟨(some 43), .p (.bin .add .other (.t 11) (.c (.int .i64 1))), none, 0, 0⟩,
      ⟨(some 11), .p (.mv (.t 43)), none, 0, 0⟩] false))))

/-- jettison/check.Steps -/
def q_check_Steps : AFn := ⟨45,
  (.seq (.reg [⟨(some 2), .p (.mv (.c (.int .i64 0))), none, 0, 0⟩] false)
  (.seq (.reg [⟨(some 3), .p (.mv (.c (.int .i64 0))), none, 0, 0⟩] false)
  (.seq (.seq (.reg [⟨(some 9), .p (.mv (.t 0)), none, 0, 0⟩,
     ⟨(some 10), .p (.len (.t 9)), none, 0, 0⟩,
     ⟨(some 11), .p (.mv (.c (.int .i64 0))), none, 0, 0⟩] false)
   (.block 0
    (.loop q_check_Steps_b1)))
  (.seq (.reg [⟨(some 44), .p (.mv (.t 3)), none, 0, 0⟩,
    ⟨(some 2), .p (.mv (.t 44)), none, 0, 0⟩] false)
  .ret)))),
  [.t 2]⟩

def q_check_Code_b0 : ACode :=
  (.seq (.reg [⟨(some 32), .p (.bin .lss .other (.t 31) (.t 30)), none, 0, 0⟩] false)
         (.seq (.cond (.t 32)
           .skip
           (.exit 4))
         (.seq (.block 5
           (.seq (.reg [⟨(some 33), .p (.iaddrS 1 (.t 29) (.t 31)), none, 0, 0⟩,
             ⟨(some 34), .r (.load 1 false (.t 33)), none, 0, 0⟩,
             ⟨(some 9), .p (.mv (.t 34)), none, 0, 0⟩] false)
           (.reg [⟨(some 35), .p (.mv (.t 3)), none, 0, 0⟩,
            ⟨(some 36), .p (.mv (.t 9)), none, 0, 0⟩,
            ⟨(some 37), .e (.call (.c (.fn (.func 14) [] [])) [(.t 36)]), none, 0, 0⟩,
            ⟨(some 38), .p (.bin .add .other (.t 35) (.t 37)), none, 0, 0⟩,
            ⟨(some 3), .p (.mv (.t 38)), none, 0, 0⟩] false)))
         (.reg [⟨(some 39), .p (.bin .add .other (.t 31) (.c (.int .i64 1))), none, 0, 0⟩,
          ⟨(some 31), .p (.mv (.t 39)), none, 0, 0⟩] false))))

def q_check_Code_b1 : ACode :=
  (.seq (.reg [⟨(some 20), .p (.bin .lss .other (.t 19) (.t 18)), none, 0, 0⟩] false)
          (.seq (.cond (.t 20)
            .skip
            (.exit 2))
          (.seq (.block 3
            (.seq (.reg [⟨(some 21), .p (.iaddrS 6 (.t 17) (.t 19)), none, 0, 0⟩,
              ⟨(some 22), .r (.load 6 true (.t 21)), none, 0, 0⟩,
              ⟨(some 7), .al [(.int .i64 0), (.str []), (.int .i64 0), (.str []), (.str []), (.sl .full [])], none, 0, 0⟩,
              ⟨none, .e (.store 6 (.t 7) (.t 22)), none, 0, 0⟩] false)
            (.reg [⟨(some 23), .p (.mv (.t 3)), none, 0, 0⟩,
             ⟨(some 24), .r (.load 6 true (.t 7)), none, 0, 0⟩,
             ⟨(some 25), .e (.call (.c (.fn (.func 38) [] [])) [(.t 24)]), none, 0, 0⟩,
             ⟨(some 26), .p (.bin .add .other (.t 23) (.t 25)), none, 0, 0⟩,
             ⟨(some 3), .p (.mv (.t 26)), none, 0, 0⟩] false)))
          (.reg [⟨(some 27), .p (.bin .add .other (.t 19) (.c (.int .i64 1))), none, 0, 0⟩,
           ⟨(some 19), .p (.mv (.t 27)), none, 0, 0⟩] false))))

def q_check_Code_b2 : ACode :=
  (.seq (.reg [⟨(some 13), .p (.bin .lss .other (.t 12) (.t 11)), none, 0, 0⟩] false)
     (.seq (.cond (.t 13)
       .skip
       (.exit 0))
     (.seq (.block 1
       (.seq (.reg [⟨(some 14), .p (.iaddrS 7 (.t 10) (.t 12)), none, 0, 0⟩,
         ⟨(some 15), .r (.load 7 true (.t 14)), none, 0, 0⟩,
         ⟨(some 5), .al [(.int .i64 0), (.str []), (.str []), (.sl .full []), (.int .i64 0), (.int .i64 0), (.sl .full [])], none, 0, 0⟩,
         ⟨none, .e (.store 7 (.t 5) (.t 15)), none, 0, 0⟩] false)
       (.seq (.seq (.reg [⟨(some 16), .p (.faddr 3 (.t 5)), none, 0, 0⟩,
          ⟨(some 17), .r (.load 1 false (.t 16)), none, 0, 0⟩,
          ⟨(some 18), .p (.len (.t 17)), none, 0, 0⟩,
          ⟨(some 19), .p (.mv (.c (.int .i64 0))), none, 0, 0⟩] false)
        (.block 2
         (.loop q_check_Code_b1)))
       (.seq (.reg [⟨(some 28), .p (.faddr 6 (.t 5)), none, 0, 0⟩,
         ⟨(some 29), .r (.load 1 false (.t 28)), none, 0, 0⟩,
         ⟨(some 30), .p (.len (.t 29)), none, 0, 0⟩,
         ⟨(some 31), .p (.mv (.c (.int .i64 0))), none, 0, 0⟩] false)
       (.block 4
        (.loop q_check_Code_b0))))))
     (.reg [⟨(some 40), .p (.bin .add .other (.t 12) (.c (.int .i64 1))), none, 0, 0⟩,
      ⟨(some 12), .p (.mv (.t 40)), none, 0, 0⟩] false))))

/-- jettison/check.Code -/
def q_check_Code : AFn := ⟨42,
  (.seq (.reg [⟨(some 2), .p (.mv (.c (.int .i64 0))), none, 0, 0⟩] false)
  (.seq (.reg [⟨(some 3), .p (.mv (.c (.int .i64 0))), none, 0, 0⟩] false)
  (.seq (.seq (.reg [⟨(some 10), .p (.mv (.t 0)), none, 0, 0⟩,
     ⟨(some 11), .p (.len (.t 10)), none, 0, 0⟩,
     ⟨(some 12), .p (.mv (.c (.int .i64 0))), none, 0, 0⟩] false)
   (.block 0
    (.loop q_check_Code_b2)))
  (.seq (.reg [⟨(some 41), .p (.mv (.t 3)), none, 0, 0⟩,
    ⟨(some 2), .p (.mv (.t 41)), none, 0, 0⟩] false)
  .ret)))),
  [.t 2]⟩

/-- jettison/check.Check -/
def q_check_Check : AFn := ⟨55,
  (.seq (.reg [⟨(some 3), .e (.box (.t 1)), none, 0, 0⟩,
    ⟨(some 4), .p (.mv (.c (.int .i64 0))), none, 0, 0⟩] false)
  (.seq (.seq (.reg [⟨(some 7), .p (.mv (.t 0)), none, 0, 0⟩,
     ⟨(some 8), .e (.call (.c (.fn (.func 39) [] [])) [(.t 7)]), none, 0, 0⟩,
     ⟨(some 5), .p (.mv (.t 8)), none, 0, 0⟩] false)
   (.seq (.reg [⟨(some 9), .p (.mv (.t 5)), none, 0, 0⟩,
     ⟨(some 10), .p (.bin .neq .other (.t 9) (.c (.int .i64 0))), none, 0, 0⟩] false)
   (.cond (.t 10)
    (.seq (.reg [⟨(some 11), .p (.mv (.t 5)), none, 0, 0⟩,
      ⟨(some 4), .p (.mv (.t 11)), none, 0, 0⟩] false)
    .ret)
    .skip)))
  (.seq (.block 0
    (.seq (.reg [⟨(some 13), .r (.load 3 true (.t 3)), none, 0, 0⟩,
      ⟨(some 14), .e (.call (.c (.fn (.func 40) [] [])) [(.t 13)]), none, 0, 0⟩,
      ⟨(some 15), .p (.un .not (.t 14)), none, 0, 0⟩,
      ⟨(some 16), .p (.mv (.t 15)), none, 0, 0⟩,
      ⟨(some 17), .p (.faddr 0 (.t 3)), (some (16, false)), 0, 0⟩,
      ⟨(some 18), .r (.load 1 false (.t 17)), (some (16, false)), 0, 0⟩,
      ⟨(some 19), .e (.call (.c (.fn (.func 41) [] [])) [(.t 18)]), (some (16, false)), 0, 0⟩,
      ⟨(some 20), .p (.un .not (.t 19)), (some (16, false)), 0, 0⟩,
      ⟨(some 21), .p (.pick (.t 16) (.c (.bool true)) (.t 20)), none, 0, 0⟩,
      ⟨(some 12), .p (.mv (.t 21)), none, 0, 0⟩] false)
    (.cond (.t 12)
     (.seq (.reg [⟨(some 4), .p (.mv (.c (.int .i64 1))), none, 0, 0⟩] false)
     .ret)
     (.seq (.reg [⟨(some 23), .p (.faddr 0 (.t 3)), none, 0, 0⟩,
       ⟨(some 24), .r (.load 1 false (.t 23)), none, 0, 0⟩,
       ⟨(some 25), .e (.call (.c (.fn (.func 42) [] [])) [(.t 24)]), none, 0, 0⟩,
       ⟨(some 26), .p (.bin .gtr .other (.t 25) (.c (.int .i64 12))), none, 0, 0⟩,
       ⟨(some 27), .p (.mv (.t 26)), none, 0, 0⟩,
       ⟨(some 28), .p (.faddr 0 (.t 3)), (some (27, false)), 0, 0⟩,
       ⟨(some 29), .r (.load 1 false (.t 28)), (some (27, false)), 0, 0⟩,
       ⟨(some 30), .e (.call (.c (.fn (.func 12) [] [])) [(.t 29)]), (some (27, false)), 0, 0⟩,
       ⟨(some 31), .p (.bin .gtr .other (.t 30) (.c (.int .i64 32))), (some (27, false)), 0, 0⟩,
       ⟨(some 32), .p (.pick (.t 27) (.c (.bool true)) (.t 31)), none, 0, 0⟩,
       ⟨(some 33), .p (.mv (.t 32)), none, 0, 0⟩,
       ⟨(some 34), .p (.faddr 0 (.t 3)), (some (33, false)), 0, 0⟩,
       ⟨(some 35), .r (.load 1 false (.t 34)), (some (33, false)), 0, 0⟩,
       ⟨(some 36), .e (.call (.c (.fn (.func 13) [] [])) [(.t 35)]), (some (33, false)), 0, 0⟩,
       ⟨(some 37), .p (.bin .gtr .other (.t 36) (.c (.int .i64 12))), (some (33, false)), 0, 0⟩,
       ⟨(some 38), .p (.pick (.t 33) (.c (.bool true)) (.t 37)), none, 0, 0⟩,
       ⟨(some 39), .p (.mv (.t 38)), none, 0, 0⟩,
       ⟨(some 40), .p (.faddr 0 (.t 3)), (some (39, false)), 0, 0⟩,
       ⟨(some 41), .r (.load 1 false (.t 40)), (some (39, false)), 0, 0⟩,
       ⟨(some 42), .e (.call (.c (.fn (.func 14) [] [])) [(.t 41)]), (some (39, false)), 0, 0⟩,
       ⟨(some 43), .p (.bin .gtr .other (.t 42) (.c (.int .i64 256))), (some (39, false)), 0, 0⟩,
       ⟨(some 44), .p (.pick (.t 39) (.c (.bool true)) (.t 43)), none, 0, 0⟩,
       ⟨(some 22), .p (.mv (.t 44)), none, 0, 0⟩] false)
     (.cond (.t 22)
      (.seq (.reg [⟨(some 4), .p (.mv (.c (.int .i64 4))), none, 0, 0⟩] false)
      .ret)
      .skip)))))
  (.seq (.reg [⟨(some 45), .p (.mv (.t 0)), none, 0, 0⟩,
    ⟨(some 46), .p (.faddr 2 (.t 3)), none, 0, 0⟩,
    ⟨(some 47), .r (.load 1 false (.t 46)), none, 0, 0⟩,
    ⟨(some 48), .e (.mkM), none, 0, 0⟩,
    ⟨(some 49), .p (.build [(.sl .full []), (.str []), .nilm] [(0, 1, (.t 45)), (1, 1, (.t 47)), (2, 1, (.t 48))]), none, 0, 0⟩,
    ⟨(some 50), .e (.box (.t 49)), none, 0, 0⟩,
    ⟨(some 6), .p (.mv (.t 50)), none, 0, 0⟩] false)
  (.seq (.reg [⟨(some 51), .p (.mv (.t 6)), none, 0, 0⟩,
    ⟨(some 52), .p (.faddr 0 (.t 3)), none, 0, 0⟩,
    ⟨(some 53), .r (.load 1 false (.t 52)), none, 0, 0⟩,
    ⟨(some 54), .e (.call (.c (.fn (.func 43) [] [])) [(.t 51), (.t 53)]), none, 0, 0⟩,
    ⟨(some 4), .p (.mv (.t 54)), none, 0, 0⟩] false)
  .ret))))),
  [.t 4]⟩

/-- jettison/jettisonlaw11.kinds -/
def q_jettisonlaw11_kinds : AFn := ⟨8,
  (.seq (.reg [⟨(some 0), .p (.mv (.c (.sl .full []))), none, 0, 0⟩] false)
  (.seq (.reg [⟨(some 1), .p (.bslice 1 [(.c (.str [107])), (.c (.str [120]))]), none, 0, 0⟩,
    ⟨(some 2), .p (.build [(.str []), (.sl .full [])] [(0, 1, (.c (.str [65]))), (1, 1, (.t 1))]), none, 0, 0⟩,
    ⟨(some 3), .p (.bslice 1 [(.c (.str [107])), (.c (.str [121]))]), none, 0, 0⟩,
    ⟨(some 4), .p (.build [(.str []), (.sl .full [])] [(0, 1, (.c (.str [66]))), (1, 1, (.t 3))]), none, 0, 0⟩,
    ⟨(some 5), .p (.bslice 1 [(.c (.str [107])), (.c (.str [120])), (.c (.str [121]))]), none, 0, 0⟩,
    ⟨(some 6), .p (.build [(.str []), (.sl .full [])] [(0, 1, (.c (.str [67]))), (1, 1, (.t 5))]), none, 0, 0⟩,
    ⟨(some 7), .p (.bslice 2 [(.t 2), (.t 4), (.t 6)]), none, 0, 0⟩,
    ⟨(some 0), .p (.mv (.t 7)), none, 0, 0⟩] false)
  .ret)),
  [.t 0]⟩

/-- jettison/parse.Parse -/
def q_parse_Parse : AFn := ⟨10,
  (.seq (.reg [⟨(some 2), .al [(.sl .full []), (.int .i64 0), (.str [])], none, 0, 0⟩,
    ⟨(some 3), .p (.mv (.c (.int .i64 0))), none, 0, 0⟩,
    ⟨(some 4), .p (.mv (.c (.int .i64 0))), none, 0, 0⟩] false)
  (.seq (.reg [⟨(some 5), .p (.mv (.t 0)), none, 0, 0⟩,
    ⟨(some 6), .e (.call (.c (.fn (.func 44) [] [])) [(.t 5), (.c (.fn (.func 45) [] []))]), none, 0, 0⟩,
    ⟨(some 7), .p (.ext 0 (.t 6)), none, 0, 0⟩,
    ⟨(some 8), .p (.ext 1 (.t 6)), none, 0, 0⟩,
    ⟨(some 9), .p (.ext 2 (.t 6)), none, 0, 0⟩,
    ⟨none, .e (.store 3 (.t 2) (.t 7)), none, 0, 0⟩,
    ⟨(some 3), .p (.mv (.t 8)), none, 0, 0⟩,
    ⟨(some 4), .p (.mv (.t 9)), none, 0, 0⟩] false)
  .ret)),
  [.c 2 3 true, .t 3, .t 4]⟩

/-- jettison/schema.Find -/
def q_schema_Find : AFn := ⟨8,
  (.seq (.reg [⟨(some 3), .e (.box (.t 1)), none, 0, 0⟩,
    ⟨(some 4), .p (.mv (.c (.int .i64 0))), none, 0, 0⟩] false)
  (.seq (.reg [⟨(some 5), .p (.mv (.t 0)), none, 0, 0⟩,
    ⟨(some 6), .p (.mkF (.func 51) [] [(.t 3)]), none, 0, 0⟩,
    ⟨(some 7), .e (.call (.c (.fn (.func 50) [] [])) [(.t 5), (.t 6)]), none, 0, 0⟩,
    ⟨(some 4), .p (.mv (.t 7)), none, 0, 0⟩] false)
  .ret)),
  [.t 4]⟩

def q_jettisonlaw11_asked_r0 : ACode :=
  (.seq (.reg [⟨(some 17), .p (.mv (.t 3)), none, 0, 0⟩,
    ⟨(some 18), .e (.call (.c (.fn (.func 67) [] [])) [(.t 17), (.c (.int .i64 1)), (.c (.int .i64 3))]), none, 0, 0⟩,
    ⟨(some 19), .p (.faddr 0 (.t 4)), none, 0, 0⟩,
    ⟨none, .e (.store 1 (.t 19) (.t 18)), none, 0, 0⟩] false)
  (.seq (.reg [⟨(some 20), .r (.load 3 true (.t 4)), none, 0, 0⟩,
    ⟨none, .e (.store 3 (.t 2) (.t 20)), none, 0, 0⟩] false)
  .ret))

/-- jettison/jettisonlaw11.asked -/
def q_jettisonlaw11_asked : AFn := ⟨21,
  (.seq (.reg [⟨(some 2), .al [(.sl .full []), (.int .i64 0), (.str [])], none, 0, 0⟩] false)
  (.seq (.reg [⟨(some 5), .p (.mv (.t 0)), none, 0, 0⟩,
    ⟨(some 6), .p (.build [(.sl .full []), (.int .i64 0), (.sl .full []), (.sl .full []), (.int .i64 0)] [(0, 1, (.t 5))]), none, 0, 0⟩,
    ⟨(some 7), .e (.box (.t 6)), none, 0, 0⟩,
    ⟨(some 3), .p (.mv (.t 7)), none, 0, 0⟩] false)
  (.seq (.reg [⟨(some 8), .p (.mv (.t 3)), none, 0, 0⟩,
    ⟨(some 9), .e (.call (.c (.fn (.func 66) [] [])) [(.t 8)]), none, 0, 0⟩,
    ⟨(some 10), .p (.bin .rem .other (.t 9) (.c (.int .i64 12))), none, 0, 0⟩,
    ⟨(some 11), .p (.build [(.sl .full []), (.int .i64 0), (.str [])] [(1, 1, (.t 10))]), none, 0, 0⟩,
    ⟨(some 4), .al [(.sl .full []), (.int .i64 0), (.str [])], none, 0, 0⟩,
    ⟨none, .e (.store 3 (.t 4) (.t 11)), none, 0, 0⟩] false)
  (.seq (.seq (.reg [⟨(some 12), .p (.mv (.t 3)), none, 0, 0⟩,
     ⟨(some 13), .e (.call (.c (.fn (.func 66) [] [])) [(.t 12)]), none, 0, 0⟩,
     ⟨(some 14), .p (.bin .rem .other (.t 13) (.c (.int .i64 2))), none, 0, 0⟩,
     ⟨(some 15), .p (.bin .eql .other (.t 14) (.c (.int .i64 0))), none, 0, 0⟩] false)
   (.cond (.t 15)
    (.reg [⟨(some 16), .p (.faddr 2 (.t 4)), none, 0, 0⟩,
     ⟨none, .e (.store 1 (.t 16) (.c (.str [107]))), none, 0, 0⟩] false)
    .skip))
  q_jettisonlaw11_asked_r0)))),
  [.c 2 3 true]⟩

/-- jettison/expr.Size -/
def q_expr_Size : AFn := ⟨8,
  (.seq (.reg [⟨(some 1), .e (.box (.t 0)), none, 0, 0⟩,
    ⟨(some 2), .p (.mv (.c (.int .i64 0))), none, 0, 0⟩] false)
  (.seq (.reg [⟨(some 3), .al [(.int .i64 0)], none, 0, 0⟩,
    ⟨none, .e (.store 1 (.t 3) (.c (.int .i64 0))), none, 0, 0⟩] false)
  (.seq (.reg [⟨(some 4), .r (.load 6 true (.t 1)), none, 0, 0⟩,
    ⟨(some 5), .p (.mkF (.func 69) [] [(.t 3)]), none, 0, 0⟩,
    ⟨(some 6), .e (.call (.c (.fn (.func 68) [] [])) [(.t 4), (.t 5)]), none, 0, 0⟩] false)
  (.seq (.reg [⟨(some 7), .r (.load 1 false (.t 3)), none, 0, 0⟩,
    ⟨(some 2), .p (.mv (.t 7)), none, 0, 0⟩] false)
  .ret)))),
  [.t 2]⟩

def q_schema_Right_b0 : ACode :=
  (.seq (.reg [⟨(some 16), .p (.bin .lss .other (.t 15) (.t 14)), none, 0, 0⟩] false)
     (.seq (.cond (.t 16)
       .skip
       (.exit 0))
     (.seq (.block 1
       (.seq (.reg [⟨(some 17), .p (.mv (.t 15)), none, 0, 0⟩,
         ⟨(some 18), .p (.iaddrS 2 (.t 13) (.t 15)), none, 0, 0⟩,
         ⟨(some 19), .r (.load 2 true (.t 18)), none, 0, 0⟩,
         ⟨(some 4), .al [(.str []), (.sl .full [])], none, 0, 0⟩,
         ⟨(some 3), .p (.mv (.t 17)), none, 0, 0⟩,
         ⟨none, .e (.store 2 (.t 4) (.t 19)), none, 0, 0⟩] false)
       (.block 2
        (.seq (.reg [⟨(some 21), .p (.faddr 1 (.t 4)), none, 0, 0⟩,
          ⟨(some 22), .r (.load 1 false (.t 21)), none, 0, 0⟩,
          ⟨(some 23), .p (.len (.t 22)), none, 0, 0⟩,
          ⟨(some 24), .p (.bin .gtr .other (.t 23) (.c (.int .i64 8))), none, 0, 0⟩,
          ⟨(some 20), .p (.mv (.t 24)), none, 0, 0⟩] false)
        (.cond (.t 20)
         (.seq (.reg [⟨(some 2), .p (.mv (.c (.int .i64 4))), none, 0, 0⟩] false)
         .ret)
         (.seq (.reg [⟨(some 26), .p (.faddr 0 (.t 4)), none, 0, 0⟩,
           ⟨(some 27), .r (.load 1 false (.t 26)), none, 0, 0⟩,
           ⟨(some 28), .e (.call (.c (.fn (.func 70) [] [])) [(.t 27)]), none, 0, 0⟩,
           ⟨(some 29), .p (.un .not (.t 28)), none, 0, 0⟩,
           ⟨(some 30), .p (.mv (.t 29)), none, 0, 0⟩,
           ⟨(some 31), .p (.mv (.t 0)), (some (30, false)), 0, 0⟩,
           ⟨(some 32), .p (.faddr 0 (.t 4)), (some (30, false)), 0, 0⟩,
           ⟨(some 33), .r (.load 1 false (.t 32)), (some (30, false)), 0, 0⟩,
           ⟨(some 34), .e (.call (.c (.fn (.func 26) [] [])) [(.t 31), (.t 33)]), (some (30, false)), 0, 0⟩,
           ⟨(some 35), .p (.mv (.t 3)), (some (30, false)), 0, 0⟩,
           ⟨(some 36), .p (.bin .neq .other (.t 34) (.t 35)), (some (30, false)), 0, 0⟩,
           ⟨(some 37), .p (.pick (.t 30) (.c (.bool true)) (.t 36)), none, 0, 0⟩,
           ⟨(some 38), .p (.mv (.t 37)), none, 0, 0⟩,
           ⟨(some 39), .p (.faddr 1 (.t 4)), (some (38, false)), 0, 0⟩,
           ⟨(some 40), .r (.load 1 false (.t 39)), (some (38, false)), 0, 0⟩,
           ⟨(some 41), .e (.call (.c (.fn (.func 71) [] [])) [(.t 40)]), (some (38, false)), 0, 0⟩,
           ⟨(some 42), .p (.un .not (.t 41)), (some (38, false)), 0, 0⟩,
           ⟨(some 43), .p (.pick (.t 38) (.c (.bool true)) (.t 42)), none, 0, 0⟩,
           ⟨(some 25), .p (.mv (.t 43)), none, 0, 0⟩] false)
         (.cond (.t 25)
          (.seq (.reg [⟨(some 2), .p (.mv (.c (.int .i64 5))), none, 0, 0⟩] false)
          .ret)
          .skip)))))))
     (.reg [⟨(some 44), .p (.bin .add .other (.t 15) (.c (.int .i64 1))), none, 0, 0⟩,
      ⟨(some 15), .p (.mv (.t 44)), none, 0, 0⟩] false))))

/-- jettison/schema.Right -/
def q_schema_Right : AFn := ⟨45,
  (.seq (.reg [⟨(some 2), .p (.mv (.c (.int .i64 0))), none, 0, 0⟩] false)
  (.seq (.seq (.reg [⟨(some 5), .p (.mv (.t 0)), none, 0, 0⟩,
     ⟨(some 6), .p (.len (.t 5)), none, 0, 0⟩,
     ⟨(some 7), .p (.bin .eql .other (.t 6) (.c (.int .i64 0))), none, 0, 0⟩,
     ⟨(some 8), .p (.mv (.t 7)), none, 0, 0⟩,
     ⟨(some 9), .p (.mv (.t 0)), (some (8, false)), 0, 0⟩,
     ⟨(some 10), .p (.len (.t 9)), (some (8, false)), 0, 0⟩,
     ⟨(some 11), .p (.bin .gtr .other (.t 10) (.c (.int .i64 16))), (some (8, false)), 0, 0⟩,
     ⟨(some 12), .p (.pick (.t 8) (.c (.bool true)) (.t 11)), none, 0, 0⟩] false)
   (.cond (.t 12)
    (.seq (.reg [⟨(some 2), .p (.mv (.c (.int .i64 4))), none, 0, 0⟩] false)
    .ret)
    .skip))
  (.seq (.seq (.reg [⟨(some 13), .p (.mv (.t 0)), none, 0, 0⟩,
     ⟨(some 14), .p (.len (.t 13)), none, 0, 0⟩,
     ⟨(some 15), .p (.mv (.c (.int .i64 0))), none, 0, 0⟩] false)
   (.block 0
    (.loop q_schema_Right_b0)))
  (.seq (.reg [⟨(some 2), .p (.mv (.c (.int .i64 0))), none, 0, 0⟩] false)
  .ret)))),
  [.t 2]⟩

/-- jettison/pattern.Right -/
def q_pattern_Right : AFn := ⟨26,
  (.seq (.reg [⟨(some 1), .e (.box (.t 0)), none, 0, 0⟩,
    ⟨(some 2), .p (.mv (.c (.bool false))), none, 0, 0⟩] false)
  (.seq (.reg [⟨(some 3), .p (.faddr 0 (.t 1)), none, 0, 0⟩,
    ⟨(some 4), .r (.load 1 false (.t 3)), none, 0, 0⟩,
    ⟨(some 5), .e (.call (.c (.fn (.func 72) [] [])) [(.t 4)]), none, 0, 0⟩,
    ⟨(some 6), .p (.mv (.t 5)), none, 0, 0⟩,
    ⟨(some 7), .p (.faddr 1 (.t 1)), (some (6, true)), 0, 0⟩,
    ⟨(some 8), .r (.load 1 false (.t 7)), (some (6, true)), 0, 0⟩,
    ⟨(some 9), .p (.bin .geq .other (.t 8) (.c (.int .i64 0))), (some (6, true)), 0, 0⟩,
    ⟨(some 10), .p (.pick (.t 6) (.t 9) (.c (.bool false))), none, 0, 0⟩,
    ⟨(some 11), .p (.mv (.t 10)), none, 0, 0⟩,
    ⟨(some 12), .p (.faddr 1 (.t 1)), (some (11, true)), 0, 0⟩,
    ⟨(some 13), .r (.load 1 false (.t 12)), (some (11, true)), 0, 0⟩,
    ⟨(some 14), .p (.bin .leq .other (.t 13) (.c (.int .i64 1000000000))), (some (11, true)), 0, 0⟩,
    ⟨(some 15), .p (.pick (.t 11) (.t 14) (.c (.bool false))), none, 0, 0⟩,
    ⟨(some 16), .p (.mv (.t 15)), none, 0, 0⟩,
    ⟨(some 17), .p (.faddr 2 (.t 1)), (some (16, true)), 0, 0⟩,
    ⟨(some 18), .r (.load 1 false (.t 17)), (some (16, true)), 0, 0⟩,
    ⟨(some 19), .p (.bin .eql .other (.t 18) (.c (.str []))), (some (16, true)), 0, 0⟩,
    ⟨(some 20), .p (.mv (.t 19)), (some (16, true)), 0, 0⟩,
    ⟨(some 21), .p (.faddr 2 (.t 1)), (some (20, false)), 0, 0⟩,
    ⟨(some 22), .r (.load 1 false (.t 21)), (some (20, false)), 0, 0⟩,
    ⟨(some 23), .e (.call (.c (.fn (.func 70) [] [])) [(.t 22)]), (some (20, false)), 0, 0⟩,
    ⟨(some 24), .p (.pick (.t 20) (.c (.bool true)) (.t 23)), (some (16, true)), 0, 0⟩,
    ⟨(some 25), .p (.pick (.t 16) (.t 24) (.c (.bool false))), none, 0, 0⟩,
    ⟨(some 2), .p (.mv (.t 25)), none, 0, 0⟩] false)
  .ret)),
  [.t 2]⟩

/-- jettison/check.placed -/
def q_check_placed : AFn := ⟨32,
  (.seq (.reg [⟨(some 2), .p (.mv (.c (.bool false))), none, 0, 0⟩] false)
  (.seq (.reg [⟨(some 3), .p (.mv (.c (.fn (.func 73) [] []))), none, 0, 0⟩] false)
  (.seq (.reg [⟨(some 5), .p (.mv (.t 0)), none, 0, 0⟩,
    ⟨(some 6), .p (.len (.t 5)), none, 0, 0⟩,
    ⟨(some 7), .p (.bin .gtr .other (.t 6) (.c (.int .i64 0))), none, 0, 0⟩,
    ⟨(some 8), .p (.mv (.t 7)), none, 0, 0⟩,
    ⟨(some 9), .p (.mv (.t 3)), (some (8, true)), 0, 0⟩,
    ⟨(some 10), .p (.mv (.t 0)), (some (8, true)), 0, 0⟩,
    ⟨(some 11), .p (.iaddrS 7 (.t 10) (.c (.int .i64 0))), (some (8, true)), 0, 0⟩,
    ⟨(some 12), .r (.load 7 true (.t 11)), (some (8, true)), 0, 0⟩,
    ⟨(some 13), .e (.call (.t 9) [(.t 12)]), (some (8, true)), 0, 0⟩,
    ⟨(some 14), .p (.mv (.t 13)), (some (8, true)), 0, 0⟩,
    ⟨(some 15), .p (.mv (.t 3)), (some (14, false)), 0, 0⟩,
    ⟨(some 16), .p (.mv (.t 0)), (some (14, false)), 0, 0⟩,
    ⟨(some 17), .p (.mv (.t 0)), (some (14, false)), 0, 0⟩,
    ⟨(some 18), .p (.len (.t 17)), (some (14, false)), 0, 0⟩,
    ⟨(some 19), .p (.bin .sub .other (.t 18) (.c (.int .i64 1))), (some (14, false)), 0, 0⟩,
    ⟨(some 20), .p (.iaddrS 7 (.t 16) (.t 19)), (some (14, false)), 0, 0⟩,
    ⟨(some 21), .r (.load 7 true (.t 20)), (some (14, false)), 0, 0⟩,
    ⟨(some 22), .e (.call (.t 15) [(.t 21)]), (some (14, false)), 0, 0⟩,
    ⟨(some 23), .p (.pick (.t 14) (.c (.bool true)) (.t 22)), (some (8, true)), 0, 0⟩,
    ⟨(some 24), .p (.pick (.t 8) (.t 23) (.c (.bool false))), none, 0, 0⟩,
    ⟨(some 4), .p (.mv (.t 24)), none, 0, 0⟩] false)
  (.seq (.reg [⟨(some 25), .p (.mv (.t 4)), none, 0, 0⟩,
    ⟨(some 26), .p (.un .not (.t 25)), none, 0, 0⟩,
    ⟨(some 27), .p (.mv (.t 26)), none, 0, 0⟩,
    ⟨(some 28), .p (.mv (.t 0)), (some (27, true)), 0, 0⟩,
    ⟨(some 29), .e (.call (.c (.fn (.func 74) [] [])) [(.t 28), (.c (.fn (.func 75) [] []))]), (some (27, true)), 0, 0⟩,
    ⟨(some 30), .p (.un .not (.t 29)), (some (27, true)), 0, 0⟩,
    ⟨(some 31), .p (.pick (.t 27) (.t 30) (.c (.bool false))), none, 0, 0⟩,
    ⟨(some 2), .p (.mv (.t 31)), none, 0, 0⟩] false)
  .ret)))),
  [.t 2]⟩

def q_pattern_Count_b0 : ACode :=
  (.seq (.reg [⟨(some 20), .p (.bin .lss .other (.t 19) (.t 18)), none, 0, 0⟩] false)
         (.seq (.cond (.t 20)
           .skip
           (.exit 2))
         (.seq (.block 3
           (.seq (.reg [⟨(some 21), .p (.iaddrS 1 (.t 17) (.t 19)), none, 0, 0⟩,
             ⟨(some 22), .r (.load 1 false (.t 21)), none, 0, 0⟩,
             ⟨(some 7), .p (.mv (.t 22)), none, 0, 0⟩] false)
           (.reg [⟨(some 23), .p (.mv (.t 3)), none, 0, 0⟩,
            ⟨(some 24), .p (.mv (.t 7)), none, 0, 0⟩,
            ⟨(some 25), .e (.call (.c (.fn (.func 42) [] [])) [(.t 24)]), none, 0, 0⟩,
            ⟨(some 26), .p (.bin .add .other (.t 23) (.t 25)), none, 0, 0⟩,
            ⟨(some 3), .p (.mv (.t 26)), none, 0, 0⟩] false)))
         (.reg [⟨(some 27), .p (.bin .add .other (.t 19) (.c (.int .i64 1))), none, 0, 0⟩,
          ⟨(some 19), .p (.mv (.t 27)), none, 0, 0⟩] false))))

def q_pattern_Count_b1 : ACode :=
  (.seq (.reg [⟨(some 13), .p (.bin .lss .other (.t 12) (.t 11)), none, 0, 0⟩] false)
     (.seq (.cond (.t 13)
       .skip
       (.exit 0))
     (.seq (.block 1
       (.seq (.reg [⟨(some 14), .p (.iaddrS 7 (.t 10) (.t 12)), none, 0, 0⟩,
         ⟨(some 15), .r (.load 7 true (.t 14)), none, 0, 0⟩,
         ⟨(some 5), .al [(.int .i64 0), (.str []), (.str []), (.sl .full []), (.int .i64 0), (.int .i64 0), (.sl .full [])], none, 0, 0⟩,
         ⟨none, .e (.store 7 (.t 5) (.t 15)), none, 0, 0⟩] false)
       (.seq (.reg [⟨(some 16), .p (.faddr 6 (.t 5)), none, 0, 0⟩,
         ⟨(some 17), .r (.load 1 false (.t 16)), none, 0, 0⟩,
         ⟨(some 18), .p (.len (.t 17)), none, 0, 0⟩,
         ⟨(some 19), .p (.mv (.c (.int .i64 0))), none, 0, 0⟩] false)
       (.block 2
        (.loop q_pattern_Count_b0)))))
     (.reg [⟨(some 28), .p (.bin .add .other (.t 12) (.c (.int .i64 1))), none, 0, 0⟩,
      ⟨(some 12), .p (.mv (.t 28)), none, 0, 0⟩] false))))

/-- jettison/pattern.Count -/
def q_pattern_Count : AFn := ⟨30,
  (.seq (.reg [⟨(some 2), .p (.mv (.c (.int .i64 0))), none, 0, 0⟩] false)
  (.seq (.reg [⟨(some 8), .p (.mv (.t 0)), none, 0, 0⟩,
    ⟨(some 9), .p (.len (.t 8)), none, 0, 0⟩,
    ⟨(some 3), .p (.mv (.t 9)), none, 0, 0⟩] false)
  (.seq (.seq (.reg [⟨(some 10), .p (.mv (.t 0)), none, 0, 0⟩,
     ⟨(some 11), .p (.len (.t 10)), none, 0, 0⟩,
     ⟨(some 12), .p (.mv (.c (.int .i64 0))), none, 0, 0⟩] false)
   (.block 0
    (.loop q_pattern_Count_b1)))
  (.seq (.reg [⟨(some 29), .p (.mv (.t 3)), none, 0, 0⟩,
    ⟨(some 2), .p (.mv (.t 29)), none, 0, 0⟩] false)
  .ret)))),
  [.t 2]⟩

def q_check_checker_items_b0 : ACode :=
  (.seq (.reg [⟨(some 30), .p (.bin .lss .other (.t 29) (.t 28)), none, 0, 0⟩] false)
         (.seq (.cond (.t 30)
           .skip
           (.exit 2))
         (.seq (.block 3
           (.seq (.reg [⟨(some 31), .p (.iaddrS 1 (.t 27) (.t 29)), none, 0, 0⟩,
             ⟨(some 32), .r (.load 1 false (.t 31)), none, 0, 0⟩,
             ⟨(some 9), .p (.mv (.t 32)), none, 0, 0⟩] false)
           (.seq (.reg [⟨(some 33), .p (.mv (.t 0)), none, 0, 0⟩,
             ⟨(some 34), .p (.mv (.t 9)), none, 0, 0⟩,
             ⟨(some 35), .e (.call (.c (.fn (.func 43) [] [])) [(.t 33), (.t 34)]), none, 0, 0⟩,
             ⟨(some 10), .p (.mv (.t 35)), none, 0, 0⟩] false)
           (.seq (.reg [⟨(some 36), .p (.mv (.t 10)), none, 0, 0⟩,
             ⟨(some 37), .p (.bin .neq .other (.t 36) (.c (.int .i64 0))), none, 0, 0⟩] false)
           (.cond (.t 37)
            (.seq (.reg [⟨(some 38), .p (.mv (.t 10)), none, 0, 0⟩,
              ⟨(some 4), .p (.mv (.t 38)), none, 0, 0⟩] false)
            .ret)
            .skip)))))
         (.reg [⟨(some 39), .p (.bin .add .other (.t 29) (.c (.int .i64 1))), none, 0, 0⟩,
          ⟨(some 29), .p (.mv (.t 39)), none, 0, 0⟩] false))))

def q_check_checker_items_b1 : ACode :=
  (.seq (.reg [⟨(some 14), .p (.bin .lss .other (.t 13) (.t 12)), none, 0, 0⟩] false)
     (.seq (.cond (.t 14)
       .skip
       (.exit 0))
     (.seq (.block 1
       (.seq (.reg [⟨(some 15), .p (.iaddrS 7 (.t 11) (.t 13)), none, 0, 0⟩,
         ⟨(some 16), .r (.load 7 true (.t 15)), none, 0, 0⟩,
         ⟨(some 6), .al [(.int .i64 0), (.str []), (.str []), (.sl .full []), (.int .i64 0), (.int .i64 0), (.sl .full [])], none, 0, 0⟩,
         ⟨none, .e (.store 7 (.t 6) (.t 16)), none, 0, 0⟩] false)
       (.seq (.seq (.reg [⟨(some 17), .p (.faddr 0 (.t 6)), none, 0, 0⟩,
          ⟨(some 18), .r (.load 1 false (.t 17)), none, 0, 0⟩,
          ⟨(some 19), .p (.bin .neq .other (.t 18) (.c (.int .i64 3))), none, 0, 0⟩] false)
        (.cond (.t 19)
         (.seq (.reg [⟨(some 20), .p (.mv (.t 0)), none, 0, 0⟩,
           ⟨(some 21), .r (.load 7 true (.t 6)), none, 0, 0⟩,
           ⟨(some 22), .e (.call (.c (.fn (.func 78) [] [])) [(.t 20), (.t 21)]), none, 0, 0⟩,
           ⟨(some 7), .p (.mv (.t 22)), none, 0, 0⟩] false)
         (.seq (.reg [⟨(some 23), .p (.mv (.t 7)), none, 0, 0⟩,
           ⟨(some 24), .p (.bin .neq .other (.t 23) (.c (.int .i64 0))), none, 0, 0⟩] false)
         (.cond (.t 24)
          (.seq (.reg [⟨(some 25), .p (.mv (.t 7)), none, 0, 0⟩,
            ⟨(some 4), .p (.mv (.t 25)), none, 0, 0⟩] false)
          .ret)
          .skip)))
         .skip))
       (.seq (.reg [⟨(some 26), .p (.faddr 6 (.t 6)), none, 0, 0⟩,
         ⟨(some 27), .r (.load 1 false (.t 26)), none, 0, 0⟩,
         ⟨(some 28), .p (.len (.t 27)), none, 0, 0⟩,
         ⟨(some 29), .p (.mv (.c (.int .i64 0))), none, 0, 0⟩] false)
       (.block 2
        (.loop q_check_checker_items_b0))))))
     (.reg [⟨(some 40), .p (.bin .add .other (.t 13) (.c (.int .i64 1))), none, 0, 0⟩,
      ⟨(some 13), .p (.mv (.t 40)), none, 0, 0⟩] false))))

/-- (*jettison/check.checker).items -/
def q_check_checker_items : AFn := ⟨41,
  (.seq (.reg [⟨(some 4), .p (.mv (.c (.int .i64 0))), none, 0, 0⟩] false)
  (.seq (.seq (.reg [⟨(some 11), .p (.mv (.t 1)), none, 0, 0⟩,
     ⟨(some 12), .p (.len (.t 11)), none, 0, 0⟩,
     ⟨(some 13), .p (.mv (.c (.int .i64 0))), none, 0, 0⟩] false)
   (.block 0
    (.loop q_check_checker_items_b1)))
  (.seq (.reg [⟨(some 4), .p (.mv (.c (.int .i64 0))), none, 0, 0⟩] false)
  .ret))),
  [.t 4]⟩

/-- jettison/parse.run[jettison/pattern.Query] -/
def q_parse_run_pattern_Query : AFn := ⟨40,
  (.seq (.reg [⟨(some 4), .al [(.sl .full []), (.int .i64 0), (.str [])], none, 0, 0⟩,
    ⟨(some 5), .al [(.int .i64 0)], none, 0, 0⟩,
    ⟨(some 6), .al [(.int .i64 0)], none, 0, 0⟩] false)
  (.seq (.reg [⟨(some 10), .p (.mv (.t 0)), none, 0, 0⟩,
    ⟨(some 11), .e (.call (.c (.fn (.func 79) [] [])) [(.t 10)]), none, 0, 0⟩,
    ⟨(some 9), .p (.mv (.t 11)), none, 0, 0⟩,
    ⟨(some 12), .p (.ext 0 (.t 9)), none, 0, 0⟩,
    ⟨(some 13), .p (.ext 1 (.t 9)), none, 0, 0⟩,
    ⟨(some 14), .p (.ext 2 (.t 9)), none, 0, 0⟩,
    ⟨(some 7), .p (.mv (.t 12)), none, 0, 0⟩,
    ⟨none, .e (.store 1 (.t 5) (.t 13)), none, 0, 0⟩,
    ⟨none, .e (.store 1 (.t 6) (.t 14)), none, 0, 0⟩] false)
  (.seq (.seq (.reg [⟨(some 15), .r (.load 1 false (.t 6)), none, 0, 0⟩,
     ⟨(some 16), .p (.bin .neq .other (.t 15) (.c (.int .i64 0))), none, 0, 0⟩] false)
   (.cond (.t 16)
    (.seq (.reg [⟨(some 17), .r (.load 3 true (.t 4)), none, 0, 0⟩,
      ⟨(some 18), .r (.load 1 false (.t 5)), none, 0, 1⟩,
      ⟨(some 19), .r (.load 1 false (.t 6)), none, 0, 2⟩,
      ⟨none, .e (.store 3 (.t 4) (.t 17)), none, 0, 0⟩,
      ⟨none, .e (.store 1 (.t 5) (.t 18)), none, 0, 0⟩,
      ⟨none, .e (.store 1 (.t 6) (.t 19)), none, 0, 0⟩] true)
    .ret)
    .skip))
  (.seq (.reg [⟨(some 20), .p (.mkF (.func 80) [] [(.t 4), (.t 5), (.t 6)]), none, 0, 0⟩,
    ⟨none, .e (.defer (.t 20) []), none, 0, 0⟩] false)
  (.seq (.reg [⟨(some 21), .p (.mv (.t 7)), none, 0, 0⟩,
    ⟨(some 22), .p (.mv (.t 0)), none, 0, 0⟩,
    ⟨(some 23), .p (.lenS (.t 22)), none, 0, 0⟩,
    ⟨(some 24), .p (.build [(.sl .full []), (.int .i64 0), (.int .i64 0), (.int .i64 0)] [(0, 1, (.t 21)), (1, 1, (.t 23))]), none, 0, 0⟩,
    ⟨(some 25), .e (.box (.t 24)), none, 0, 0⟩,
    ⟨(some 8), .p (.mv (.t 25)), none, 0, 0⟩] false)
  (.seq (.reg [⟨(some 26), .p (.mv (.t 1)), none, 0, 0⟩,
    ⟨(some 27), .p (.mv (.t 8)), none, 0, 0⟩,
    ⟨(some 28), .e (.call (.t 26) [(.t 27)]), none, 0, 0⟩,
    ⟨none, .e (.store 3 (.t 4) (.t 28)), none, 0, 0⟩] false)
  (.seq (.reg [⟨(some 29), .p (.mv (.t 8)), none, 0, 0⟩,
    ⟨(some 30), .p (.mv (.t 8)), none, 0, 0⟩,
    ⟨(some 31), .p (.nilchk (.t 30)), none, 0, 0⟩,
    ⟨(some 32), .p (.faddr 0 (.t 31)), none, 0, 0⟩,
    ⟨(some 33), .r (.load 1 false (.t 32)), none, 0, 0⟩,
    ⟨(some 34), .p (.len (.t 33)), none, 0, 0⟩,
    ⟨(some 35), .p (.bin .eql .other (.t 34) (.c (.int .i64 0))), none, 0, 0⟩,
    ⟨(some 36), .e (.call (.c (.fn (.func 81) [] [])) [(.t 29), (.t 35)]), none, 0, 0⟩] false)
  (.seq (.reg [⟨(some 37), .r (.load 3 true (.t 4)), none, 0, 0⟩,
    ⟨(some 38), .p (.mv (.t 0)), none, 0, 0⟩,
    ⟨(some 39), .p (.lenS (.t 38)), none, 0, 0⟩,
    ⟨none, .e (.store 3 (.t 4) (.t 37)), none, 0, 0⟩,
    ⟨none, .e (.store 1 (.t 5) (.t 39)), none, 0, 0⟩,
    ⟨none, .e (.store 1 (.t 6) (.c (.int .i64 0))), none, 0, 0⟩] false)
  .ret)))))))),
  [.c 4 3 true, .c 5 1 false, .c 6 1 false]⟩

/-- (*jettison/parse.parser).query -/
def q_parse_parser_query : AFn := ⟨18,
  (.seq (.reg [⟨(some 2), .al [(.sl .full []), (.int .i64 0), (.str [])], none, 0, 0⟩] false)
  (.seq (.reg [⟨(some 4), .p (.mv (.t 0)), none, 0, 0⟩,
    ⟨(some 5), .e (.call (.c (.fn (.func 82) [] [])) [(.t 4)]), none, 0, 0⟩,
    ⟨(some 6), .p (.build [(.sl .full []), (.int .i64 0), (.str [])] [(0, 1, (.t 5))]), none, 0, 0⟩,
    ⟨(some 3), .al [(.sl .full []), (.int .i64 0), (.str [])], none, 0, 0⟩,
    ⟨none, .e (.store 3 (.t 3) (.t 6)), none, 0, 0⟩] false)
  (.seq (.reg [⟨(some 7), .p (.mv (.t 0)), none, 0, 0⟩,
    ⟨(some 8), .e (.call (.c (.fn (.func 83) [] [])) [(.t 7), (.c (.str [87, 73, 84, 72, 73, 78]))]), none, 0, 0⟩] false)
  (.seq (.reg [⟨(some 9), .p (.mv (.t 0)), none, 0, 0⟩,
    ⟨(some 10), .e (.call (.c (.fn (.func 84) [] [])) [(.t 9), (.c (.int .i64 0)), (.c (.int .i64 1000000000))]), none, 0, 0⟩,
    ⟨(some 11), .p (.faddr 1 (.t 3)), none, 0, 0⟩,
    ⟨none, .e (.store 1 (.t 11) (.t 10)), none, 0, 0⟩] false)
  (.seq (.seq (.reg [⟨(some 12), .p (.mv (.t 0)), none, 0, 0⟩,
     ⟨(some 13), .e (.call (.c (.fn (.func 85) [] [])) [(.t 12), (.c (.str [66, 89]))]), none, 0, 0⟩] false)
   (.cond (.t 13)
    (.reg [⟨(some 14), .p (.mv (.t 0)), none, 0, 0⟩,
     ⟨(some 15), .e (.call (.c (.fn (.func 86) [] [])) [(.t 14)]), none, 0, 0⟩,
     ⟨(some 16), .p (.faddr 2 (.t 3)), none, 0, 0⟩,
     ⟨none, .e (.store 1 (.t 16) (.t 15)), none, 0, 0⟩] false)
    .skip))
  (.seq (.reg [⟨(some 17), .r (.load 3 true (.t 3)), none, 0, 0⟩,
    ⟨none, .e (.store 3 (.t 2) (.t 17)), none, 0, 0⟩] false)
  .ret)))))),
  [.c 2 3 true]⟩

/-- strconv.FormatInt -/
def q_strconv_FormatInt : AFn := ⟨8,
  (.seq (.reg [⟨(some 4), .p (.mv (.c (.str []))), none, 0, 0⟩] false)
  (.seq (.reg [⟨(some 5), .p (.mv (.t 0)), none, 0, 0⟩,
    ⟨(some 6), .p (.mv (.t 1)), none, 0, 0⟩,
    ⟨(some 7), .e (.call (.c (.fn (.func 89) [] [])) [(.t 5), (.t 6)]), none, 0, 0⟩,
    ⟨(some 4), .p (.mv (.t 7)), none, 0, 0⟩] false)
  .ret)),
  [.t 4]⟩

def q_slices_IndexFunc_schema_Kind_schema_Kind_b0 : ACode :=
  (.seq (.reg [⟨(some 9), .p (.bin .lss .other (.t 8) (.t 7)), none, 0, 0⟩] false)
     (.seq (.cond (.t 9)
       .skip
       (.exit 0))
     (.seq (.block 1
       (.seq (.reg [⟨(some 10), .p (.mv (.t 8)), none, 0, 0⟩,
         ⟨(some 5), .p (.mv (.t 10)), none, 0, 0⟩] false)
       (.seq (.reg [⟨(some 11), .p (.mv (.t 1)), none, 0, 0⟩,
         ⟨(some 12), .p (.mv (.t 0)), none, 0, 0⟩,
         ⟨(some 13), .p (.mv (.t 5)), none, 0, 0⟩,
         ⟨(some 14), .p (.iaddrS 2 (.t 12) (.t 13)), none, 0, 0⟩,
         ⟨(some 15), .r (.load 2 true (.t 14)), none, 0, 0⟩,
         ⟨(some 16), .e (.call (.t 11) [(.t 15)]), none, 0, 0⟩] false)
       (.cond (.t 16)
        (.seq (.reg [⟨(some 17), .p (.mv (.t 5)), none, 0, 0⟩,
          ⟨(some 4), .p (.mv (.t 17)), none, 0, 0⟩] false)
        .ret)
        .skip))))
     (.reg [⟨(some 18), .p (.bin .add .other (.t 8) (.c (.int .i64 1))), none, 0, 0⟩,
      ⟨(some 8), .p (.mv (.t 18)), none, 0, 0⟩] false))))

/-- slices.IndexFunc[[]jettison/schema.Kind,jettison/schema.Kind] -/
def q_slices_IndexFunc_schema_Kind_schema_Kind : AFn := ⟨19,
  (.seq (.reg [⟨(some 4), .p (.mv (.c (.int .i64 0))), none, 0, 0⟩] false)
  (.seq (.seq (.reg [⟨(some 6), .p (.mv (.t 0)), none, 0, 0⟩,
     ⟨(some 7), .p (.len (.t 6)), none, 0, 0⟩,
     ⟨(some 8), .p (.mv (.c (.int .i64 0))), none, 0, 0⟩] false)
   (.block 0
    (.loop q_slices_IndexFunc_schema_Kind_schema_Kind_b0)))
  (.seq (.reg [⟨(some 4), .p (.mv (.c (.int .i64 (-1)))), none, 0, 0⟩] false)
  .ret))),
  [.t 4]⟩

/-- jettison/schema.Find$1 -/
def q_schema_Find_1 : AFn := ⟨8,
  (.seq (.reg [⟨(some 2), .e (.box (.t 0)), none, 0, 0⟩,
    ⟨(some 3), .p (.mv (.c (.bool false))), none, 0, 0⟩] false)
  (.seq (.reg [⟨(some 4), .p (.faddr 0 (.t 2)), none, 0, 0⟩,
    ⟨(some 5), .r (.load 1 false (.t 4)), none, 0, 0⟩,
    ⟨(some 6), .r (.load 1 false (.t 1)), none, 0, 0⟩,
    ⟨(some 7), .p (.bin .eql .other (.t 5) (.t 6)), none, 0, 0⟩,
    ⟨(some 3), .p (.mv (.t 7)), none, 0, 0⟩] false)
  .ret)),
  [.t 3]⟩

/-- jettison/expr.levels -/
def q_expr_levels : AFn := ⟨8,
  (.seq (.reg [⟨(some 0), .p (.mv (.c (.sl .full []))), none, 0, 0⟩] false)
  (.seq (.reg [⟨(some 1), .p (.bslice 1 [(.c (.str [124, 124]))]), none, 0, 0⟩,
    ⟨(some 2), .p (.bslice 1 [(.c (.str [38, 38]))]), none, 0, 0⟩,
    ⟨(some 3), .p (.bslice 1 [(.c (.str [61, 61])), (.c (.str [33, 61]))]), none, 0, 0⟩,
    ⟨(some 4), .p (.bslice 1 [(.c (.str [60])), (.c (.str [60, 61])), (.c (.str [62])), (.c (.str [62, 61]))]), none, 0, 0⟩,
    ⟨(some 5), .p (.bslice 1 [(.c (.str [43])), (.c (.str [45]))]), none, 0, 0⟩,
    ⟨(some 6), .p (.bslice 1 [(.c (.str [42])), (.c (.str [47])), (.c (.str [37]))]), none, 0, 0⟩,
    ⟨(some 7), .p (.bslice 1 [(.t 1), (.t 2), (.t 3), (.t 4), (.t 5), (.t 6)]), none, 0, 0⟩,
    ⟨(some 0), .p (.mv (.t 7)), none, 0, 0⟩] false)
  .ret)),
  [.t 0]⟩

/-- (*jettison/jettisonlaw11.feed).next -/
def q_jettisonlaw11_feed_next : AFn := ⟨32,
  (.seq (.reg [⟨(some 2), .p (.mv (.c (.int .i64 0))), none, 0, 0⟩] false)
  (.seq (.seq (.reg [⟨(some 3), .p (.mv (.t 0)), none, 0, 0⟩,
     ⟨(some 4), .p (.nilchk (.t 3)), none, 0, 0⟩,
     ⟨(some 5), .p (.faddr 1 (.t 4)), none, 0, 0⟩,
     ⟨(some 6), .r (.load 1 false (.t 5)), none, 0, 0⟩,
     ⟨(some 7), .p (.mv (.t 0)), none, 0, 0⟩,
     ⟨(some 8), .p (.nilchk (.t 7)), none, 0, 0⟩,
     ⟨(some 9), .p (.faddr 0 (.t 8)), none, 0, 0⟩,
     ⟨(some 10), .r (.load 1 false (.t 9)), none, 0, 0⟩,
     ⟨(some 11), .p (.len (.t 10)), none, 0, 0⟩,
     ⟨(some 12), .p (.bin .geq .other (.t 6) (.t 11)), none, 0, 0⟩] true)
   (.cond (.t 12)
    (.seq (.reg [⟨(some 2), .p (.mv (.c (.int .i64 0))), none, 0, 0⟩] false)
    .ret)
    .skip))
  (.seq (.reg [⟨(some 13), .p (.mv (.t 0)), none, 0, 0⟩,
    ⟨(some 14), .p (.nilchk (.t 13)), none, 0, 0⟩,
    ⟨(some 15), .p (.faddr 1 (.t 14)), none, 0, 0⟩,
    ⟨(some 16), .r (.load 1 false (.t 15)), none, 0, 0⟩,
    ⟨(some 17), .p (.bin .add .other (.t 16) (.c (.int .i64 1))), none, 0, 0⟩,
    ⟨(some 18), .p (.nilchk (.t 13)), none, 0, 0⟩,
    ⟨(some 19), .p (.faddr 1 (.t 18)), none, 0, 0⟩,
    ⟨none, .e (.store 1 (.t 19) (.t 17)), none, 0, 0⟩] false)
  (.seq (.reg [⟨(some 20), .p (.mv (.t 0)), none, 0, 0⟩,
    ⟨(some 21), .p (.nilchk (.t 20)), none, 0, 0⟩,
    ⟨(some 22), .p (.faddr 0 (.t 21)), none, 0, 0⟩,
    ⟨(some 23), .r (.load 1 false (.t 22)), none, 0, 0⟩,
    ⟨(some 24), .p (.mv (.t 0)), none, 0, 0⟩,
    ⟨(some 25), .p (.nilchk (.t 24)), none, 0, 0⟩,
    ⟨(some 26), .p (.faddr 1 (.t 25)), none, 0, 0⟩,
    ⟨(some 27), .r (.load 1 false (.t 26)), none, 0, 0⟩,
    ⟨(some 28), .p (.bin .sub .other (.t 27) (.c (.int .i64 1))), none, 0, 0⟩,
    ⟨(some 29), .p (.iaddrS 1 (.t 23) (.t 28)), none, 0, 0⟩,
    ⟨(some 30), .r (.load 1 false (.t 29)), none, 0, 0⟩,
    ⟨(some 31), .p (.convInt .i64 (.t 30)), none, 0, 0⟩,
    ⟨(some 2), .p (.mv (.t 31)), none, 0, 0⟩] true)
  .ret)))),
  [.t 2]⟩

def q_jettisonlaw11_feed_items_b0 : ACode :=
  (.seq (.seq (.reg [⟨(some 13), .p (.mv (.t 8)), none, 0, 0⟩,
        ⟨(some 14), .p (.mv (.t 2)), none, 0, 0⟩,
        ⟨(some 15), .p (.bin .lss .other (.t 13) (.t 14)), none, 0, 0⟩,
        ⟨(some 16), .p (.mv (.t 15)), none, 0, 0⟩,
        ⟨(some 17), .p (.mv (.t 0)), (some (16, true)), 0, 0⟩,
        ⟨(some 18), .p (.nilchk (.t 17)), (some (16, true)), 0, 0⟩,
        ⟨(some 19), .p (.faddr 1 (.t 18)), (some (16, true)), 0, 0⟩,
        ⟨(some 20), .r (.load 1 false (.t 19)), (some (16, true)), 0, 0⟩,
        ⟨(some 21), .p (.mv (.t 0)), (some (16, true)), 0, 0⟩,
        ⟨(some 22), .p (.nilchk (.t 21)), (some (16, true)), 0, 0⟩,
        ⟨(some 23), .p (.faddr 0 (.t 22)), (some (16, true)), 0, 0⟩,
        ⟨(some 24), .r (.load 1 false (.t 23)), (some (16, true)), 0, 0⟩,
        ⟨(some 25), .p (.len (.t 24)), (some (16, true)), 0, 0⟩,
        ⟨(some 26), .p (.bin .lss .other (.t 20) (.t 25)), (some (16, true)), 0, 0⟩,
        ⟨(some 27), .p (.pick (.t 16) (.t 26) (.c (.bool false))), none, 0, 0⟩,
        ⟨(some 28), .p (.mv (.t 27)), none, 0, 0⟩,
        ⟨(some 29), .p (.mv (.t 0)), (some (28, true)), 0, 0⟩,
        ⟨(some 30), .p (.nilchk (.t 29)), (some (28, true)), 0, 0⟩,
        ⟨(some 31), .p (.faddr 4 (.t 30)), (some (28, true)), 0, 0⟩,
        ⟨(some 32), .r (.load 1 false (.t 31)), (some (28, true)), 0, 0⟩,
        ⟨(some 33), .p (.bin .lss .other (.t 32) (.c (.int .i64 6))), (some (28, true)), 0, 0⟩,
        ⟨(some 34), .p (.pick (.t 28) (.t 33) (.c (.bool false))), none, 0, 0⟩] true)
      (.cond (.t 34)
       .skip
       (.exit 0)))
     (.seq (.block 1
       (.reg [⟨(some 37), .p (.mv (.t 7)), none, 0, 0⟩,
        ⟨(some 38), .p (.mv (.t 0)), none, 0, 0⟩,
        ⟨(some 39), .p (.mv (.t 1)), none, 0, 0⟩,
        ⟨(some 40), .p (.mv (.t 8)), none, 0, 0⟩,
        ⟨(some 41), .p (.bin .add .other (.t 40) (.c (.int .i64 1))), none, 0, 0⟩,
        ⟨(some 42), .p (.mv (.t 2)), none, 0, 0⟩,
        ⟨(some 43), .p (.bin .lss .other (.t 41) (.t 42)), none, 0, 0⟩,
        ⟨(some 44), .e (.call (.c (.fn (.func 110) [] [])) [(.t 38), (.t 39), (.t 43)]), none, 0, 0⟩,
        ⟨(some 45), .p (.bslice 7 [(.t 44)]), none, 0, 0⟩,
        ⟨(some 46), .e (.app 7 104 (.t 37) (.t 45)), none, 0, 0⟩,
        ⟨(some 7), .p (.mv (.t 46)), none, 0, 0⟩] false))
     (.reg [⟨(some 35), .p (.mv (.t 8)), none, 0, 0⟩,
      ⟨(some 36), .p (.bin .add .other (.t 35) (.c (.int .i64 1))), none, 0, 0⟩,
      ⟨(some 8), .p (.mv (.t 36)), none, 0, 0⟩] false)))

def q_jettisonlaw11_feed_items_r0 : ACode :=
  (.seq (.seq (.reg [⟨(some 47), .p (.mv (.t 7)), none, 0, 0⟩,
     ⟨(some 48), .p (.mv (.t 7)), none, 0, 0⟩,
     ⟨(some 49), .p (.len (.t 48)), none, 0, 0⟩,
     ⟨(some 50), .p (.bin .sub .other (.t 49) (.c (.int .i64 1))), none, 0, 0⟩,
     ⟨(some 51), .p (.iaddrS 7 (.t 47) (.t 50)), none, 0, 0⟩,
     ⟨(some 52), .p (.faddr 0 (.t 51)), none, 0, 0⟩,
     ⟨(some 53), .r (.load 1 false (.t 52)), none, 0, 0⟩,
     ⟨(some 54), .p (.bin .eql .other (.t 53) (.c (.int .i64 2))), none, 0, 0⟩] false)
   (.cond (.t 54)
    (.reg [⟨(some 55), .p (.mv (.t 7)), none, 0, 0⟩,
     ⟨(some 56), .p (.mv (.t 0)), none, 0, 0⟩,
     ⟨(some 57), .e (.call (.c (.fn (.func 110) [] [])) [(.t 56), (.c (.int .i64 0)), (.c (.bool false))]), none, 0, 0⟩,
     ⟨(some 58), .p (.bslice 7 [(.t 57)]), none, 0, 0⟩,
     ⟨(some 59), .e (.app 7 104 (.t 55) (.t 58)), none, 0, 0⟩,
     ⟨(some 7), .p (.mv (.t 59)), none, 0, 0⟩] false)
    .skip))
  (.seq (.reg [⟨(some 60), .p (.mv (.t 7)), none, 0, 0⟩,
    ⟨(some 6), .p (.mv (.t 60)), none, 0, 0⟩] false)
  .ret))

/-- (*jettison/jettisonlaw11.feed).items -/
def q_jettisonlaw11_feed_items : AFn := ⟨61,
  (.seq (.reg [⟨(some 6), .p (.mv (.c (.sl .full []))), none, 0, 0⟩] false)
  (.seq (.reg [⟨(some 9), .p (.mv (.t 0)), none, 0, 0⟩,
    ⟨(some 10), .p (.mv (.t 1)), none, 0, 0⟩,
    ⟨(some 11), .e (.call (.c (.fn (.func 110) [] [])) [(.t 9), (.t 10), (.c (.bool false))]), none, 0, 0⟩,
    ⟨(some 12), .p (.bslice 7 [(.t 11)]), none, 0, 0⟩,
    ⟨(some 7), .p (.mv (.t 12)), none, 0, 0⟩] false)
  (.seq (.seq (.reg [⟨(some 8), .p (.mv (.c (.int .i64 1))), none, 0, 0⟩] false)
   (.block 0
    (.loop q_jettisonlaw11_feed_items_b0)))
  q_jettisonlaw11_feed_items_r0))),
  [.t 6]⟩

def q_expr_walk_b0 : ACode :=
  (.seq (.reg [⟨(some 13), .p (.bin .lss .other (.t 12) (.t 11)), none, 0, 0⟩] false)
    (.seq (.cond (.t 13)
      .skip
      (.exit 0))
    (.seq (.block 1
      (.seq (.reg [⟨(some 14), .p (.iaddrS 6 (.t 10) (.t 12)), none, 0, 0⟩,
        ⟨(some 15), .r (.load 6 true (.t 14)), none, 0, 0⟩,
        ⟨(some 5), .al [(.int .i64 0), (.str []), (.int .i64 0), (.str []), (.str []), (.sl .full [])], none, 0, 0⟩,
        ⟨none, .e (.store 6 (.t 5) (.t 15)), none, 0, 0⟩] false)
      (.reg [⟨(some 16), .r (.load 6 true (.t 5)), none, 0, 0⟩,
       ⟨(some 17), .p (.mv (.t 1)), none, 0, 0⟩,
       ⟨(some 18), .e (.call (.c (.fn (.func 68) [] [])) [(.t 16), (.t 17)]), none, 0, 0⟩] false)))
    (.reg [⟨(some 19), .p (.bin .add .other (.t 12) (.c (.int .i64 1))), none, 0, 0⟩,
     ⟨(some 12), .p (.mv (.t 19)), none, 0, 0⟩] false))))

/-- jettison/expr.walk -/
def q_expr_walk : AFn := ⟨20,
  (.seq (.reg [⟨(some 2), .e (.box (.t 0)), none, 0, 0⟩] false)
  (.seq (.reg [⟨(some 6), .p (.mv (.t 1)), none, 0, 0⟩,
    ⟨(some 7), .r (.load 6 true (.t 2)), none, 0, 0⟩,
    ⟨(some 8), .e (.call (.t 6) [(.t 7)]), none, 0, 0⟩] false)
  (.seq (.reg [⟨(some 9), .p (.faddr 5 (.t 2)), none, 0, 0⟩,
    ⟨(some 10), .r (.load 1 false (.t 9)), none, 0, 0⟩,
    ⟨(some 11), .p (.len (.t 10)), none, 0, 0⟩,
    ⟨(some 12), .p (.mv (.c (.int .i64 0))), none, 0, 0⟩] false)
  (.block 0
   (.loop q_expr_walk_b0))))),
  []⟩

/-- jettison/expr.Size$1 -/
def q_expr_Size_1 : AFn := ⟨5,
  (.seq (.reg [⟨(some 2), .e (.box (.t 0)), none, 0, 0⟩] false)
  (.reg [⟨(some 3), .r (.load 1 false (.t 1)), none, 0, 0⟩,
   ⟨(some 4), .p (.bin .add .other (.t 3) (.c (.int .i64 1))), none, 0, 0⟩,
   ⟨none, .e (.store 1 (.t 1) (.t 4)), none, 0, 0⟩] false)),
  []⟩

def q_schema_IsName_b0 : ACode :=
  (.seq (.reg [⟨(some 27), .e (.next (.t 26)), none, 0, 0⟩,
       ⟨(some 28), .p (.ext 0 (.t 27)), none, 0, 0⟩] false)
     (.seq (.cond (.t 28)
       .skip
       (.exit 0))
     (.block 1
      (.seq (.reg [⟨(some 29), .p (.ext 1 (.t 27)), none, 0, 0⟩,
        ⟨(some 30), .p (.ext 2 (.t 27)), none, 0, 0⟩,
        ⟨(some 3), .p (.mv (.t 29)), none, 0, 0⟩,
        ⟨(some 4), .p (.mv (.t 30)), none, 0, 0⟩] false)
      (.seq (.reg [⟨(some 31), .p (.mv (.t 4)), none, 0, 0⟩,
        ⟨(some 32), .e (.call (.c (.fn (.func 112) [] [])) [(.t 31)]), none, 0, 0⟩,
        ⟨(some 33), .p (.un .not (.t 32)), none, 0, 0⟩,
        ⟨(some 34), .p (.mv (.t 33)), none, 0, 0⟩,
        ⟨(some 35), .p (.mv (.t 3)), (some (34, true)), 0, 0⟩,
        ⟨(some 36), .p (.bin .eql .other (.t 35) (.c (.int .i64 0))), (some (34, true)), 0, 0⟩,
        ⟨(some 37), .p (.mv (.t 36)), (some (34, true)), 0, 0⟩,
        ⟨(some 38), .p (.mv (.t 4)), (some (37, false)), 0, 0⟩,
        ⟨(some 39), .e (.call (.c (.fn (.func 113) [] [])) [(.t 38)]), (some (37, false)), 0, 0⟩,
        ⟨(some 40), .p (.un .not (.t 39)), (some (37, false)), 0, 0⟩,
        ⟨(some 41), .p (.pick (.t 37) (.c (.bool true)) (.t 40)), (some (34, true)), 0, 0⟩,
        ⟨(some 42), .p (.pick (.t 34) (.t 41) (.c (.bool false))), none, 0, 0⟩] false)
      (.cond (.t 42)
       (.seq (.reg [⟨(some 2), .p (.mv (.c (.bool false))), none, 0, 0⟩] false)
       .ret)
       .skip))))))

/-- jettison/schema.IsName -/
def q_schema_IsName : AFn := ⟨43,
  (.seq (.reg [⟨(some 2), .p (.mv (.c (.bool false))), none, 0, 0⟩] false)
  (.seq (.seq (.reg [⟨(some 5), .p (.mv (.t 0)), none, 0, 0⟩,
     ⟨(some 6), .p (.bin .eql .other (.t 5) (.c (.str []))), none, 0, 0⟩,
     ⟨(some 7), .p (.mv (.t 6)), none, 0, 0⟩,
     ⟨(some 8), .p (.mv (.t 0)), (some (7, false)), 0, 0⟩,
     ⟨(some 9), .p (.lenS (.t 8)), (some (7, false)), 0, 0⟩,
     ⟨(some 10), .p (.bin .gtr .other (.t 9) (.c (.int .i64 24))), (some (7, false)), 0, 0⟩,
     ⟨(some 11), .p (.pick (.t 7) (.c (.bool true)) (.t 10)), none, 0, 0⟩,
     ⟨(some 12), .p (.mv (.t 11)), none, 0, 0⟩,
     ⟨(some 13), .p (.mv (.t 0)), (some (12, false)), 0, 0⟩,
     ⟨(some 14), .p (.bin .eql .other (.t 13) (.c (.str [87, 73, 84, 72, 73, 78]))), (some (12, false)), 0, 0⟩,
     ⟨(some 15), .p (.pick (.t 12) (.c (.bool true)) (.t 14)), none, 0, 0⟩,
     ⟨(some 16), .p (.mv (.t 15)), none, 0, 0⟩,
     ⟨(some 17), .p (.mv (.t 0)), (some (16, false)), 0, 0⟩,
     ⟨(some 18), .p (.bin .eql .other (.t 17) (.c (.str [66, 89]))), (some (16, false)), 0, 0⟩,
     ⟨(some 19), .p (.pick (.t 16) (.c (.bool true)) (.t 18)), none, 0, 0⟩,
     ⟨(some 20), .p (.mv (.t 19)), none, 0, 0⟩,
     ⟨(some 21), .p (.mv (.t 0)), (some (20, false)), 0, 0⟩,
     ⟨(some 22), .e (.call (.c (.fn (.func 111) [] [])) [(.t 21)]), (some (20, false)), 0, 0⟩,
     ⟨(some 23), .p (.un .not (.t 22)), (some (20, false)), 0, 0⟩,
     ⟨(some 24), .p (.pick (.t 20) (.c (.bool true)) (.t 23)), none, 0, 0⟩] false)
   (.cond (.t 24)
    (.seq (.reg [⟨(some 2), .p (.mv (.c (.bool false))), none, 0, 0⟩] false)
    .ret)
    .skip))
  (.seq (.seq (.reg [⟨(some 25), .p (.mv (.t 0)), none, 0, 0⟩,
     ⟨(some 26), .e (.range (.t 25)), none, 0, 0⟩] false)
   (.block 0
    (.loop q_schema_IsName_b0)))
  (.seq (.reg [⟨(some 2), .p (.mv (.c (.bool true))), none, 0, 0⟩] false)
  .ret)))),
  [.t 2]⟩

def q_schema_names_b0 : ACode :=
  (.seq (.reg [⟨(some 8), .p (.bin .lss .other (.t 7) (.t 6)), none, 0, 0⟩] false)
     (.seq (.cond (.t 8)
       .skip
       (.exit 0))
     (.seq (.block 1
       (.seq (.reg [⟨(some 9), .p (.mv (.t 7)), none, 0, 0⟩,
         ⟨(some 10), .p (.iaddrS 1 (.t 5) (.t 7)), none, 0, 0⟩,
         ⟨(some 11), .r (.load 1 false (.t 10)), none, 0, 0⟩,
         ⟨(some 3), .p (.mv (.t 9)), none, 0, 0⟩,
         ⟨(some 4), .p (.mv (.t 11)), none, 0, 0⟩] false)
       (.seq (.reg [⟨(some 12), .p (.mv (.t 4)), none, 0, 0⟩,
         ⟨(some 13), .e (.call (.c (.fn (.func 70) [] [])) [(.t 12)]), none, 0, 0⟩,
         ⟨(some 14), .p (.un .not (.t 13)), none, 0, 0⟩,
         ⟨(some 15), .p (.mv (.t 14)), none, 0, 0⟩,
         ⟨(some 16), .p (.mv (.t 0)), (some (15, false)), 0, 0⟩,
         ⟨(some 17), .p (.mv (.t 4)), (some (15, false)), 0, 0⟩,
         ⟨(some 18), .e (.call (.c (.fn (.func 114) [] [])) [(.t 16), (.t 17)]), (some (15, false)), 0, 0⟩,
         ⟨(some 19), .p (.mv (.t 3)), (some (15, false)), 0, 0⟩,
         ⟨(some 20), .p (.bin .neq .other (.t 18) (.t 19)), (some (15, false)), 0, 0⟩,
         ⟨(some 21), .p (.pick (.t 15) (.c (.bool true)) (.t 20)), none, 0, 0⟩] false)
       (.cond (.t 21)
        (.seq (.reg [⟨(some 2), .p (.mv (.c (.bool false))), none, 0, 0⟩] false)
        .ret)
        .skip))))
     (.reg [⟨(some 22), .p (.bin .add .other (.t 7) (.c (.int .i64 1))), none, 0, 0⟩,
      ⟨(some 7), .p (.mv (.t 22)), none, 0, 0⟩] false))))

/-- jettison/schema.names -/
def q_schema_names : AFn := ⟨23,
  (.seq (.reg [⟨(some 2), .p (.mv (.c (.bool false))), none, 0, 0⟩] false)
  (.seq (.seq (.reg [⟨(some 5), .p (.mv (.t 0)), none, 0, 0⟩,
     ⟨(some 6), .p (.len (.t 5)), none, 0, 0⟩,
     ⟨(some 7), .p (.mv (.c (.int .i64 0))), none, 0, 0⟩] false)
   (.block 0
    (.loop q_schema_names_b0)))
  (.seq (.reg [⟨(some 2), .p (.mv (.c (.bool true))), none, 0, 0⟩] false)
  .ret))),
  [.t 2]⟩

/-- jettison/pattern.RightItems -/
def q_pattern_RightItems : AFn := ⟨10,
  (.seq (.reg [⟨(some 2), .p (.mv (.c (.bool false))), none, 0, 0⟩] false)
  (.seq (.reg [⟨(some 3), .p (.mv (.t 0)), none, 0, 0⟩,
    ⟨(some 4), .p (.len (.t 3)), none, 0, 0⟩,
    ⟨(some 5), .p (.bin .gtr .other (.t 4) (.c (.int .i64 0))), none, 0, 0⟩,
    ⟨(some 6), .p (.mv (.t 5)), none, 0, 0⟩,
    ⟨(some 7), .p (.mv (.t 0)), (some (6, true)), 0, 0⟩,
    ⟨(some 8), .e (.call (.c (.fn (.func 115) [] [])) [(.t 7), (.c (.fn (.func 116) [] []))]), (some (6, true)), 0, 0⟩,
    ⟨(some 9), .p (.pick (.t 6) (.t 8) (.c (.bool false))), none, 0, 0⟩,
    ⟨(some 2), .p (.mv (.t 9)), none, 0, 0⟩] false)
  .ret)),
  [.t 2]⟩

/-- jettison/check.placed$1 -/
def q_check_placed_1 : AFn := ⟨6,
  (.seq (.reg [⟨(some 1), .e (.box (.t 0)), none, 0, 0⟩,
    ⟨(some 2), .p (.mv (.c (.bool false))), none, 0, 0⟩] false)
  (.seq (.reg [⟨(some 3), .p (.faddr 0 (.t 1)), none, 0, 0⟩,
    ⟨(some 4), .r (.load 1 false (.t 3)), none, 0, 0⟩,
    ⟨(some 5), .p (.bin .eql .other (.t 4) (.c (.int .i64 2))), none, 0, 0⟩,
    ⟨(some 2), .p (.mv (.t 5)), none, 0, 0⟩] false)
  .ret)),
  [.t 2]⟩

/-- slices.ContainsFunc[[]jettison/pattern.Item,jettison/pattern.Item] -/
def q_slices_ContainsFunc_pattern_Item_pattern_Item : AFn := ⟨9,
  (.seq (.reg [⟨(some 4), .p (.mv (.c (.bool false))), none, 0, 0⟩] false)
  (.seq (.reg [⟨(some 5), .p (.mv (.t 0)), none, 0, 0⟩,
    ⟨(some 6), .p (.mv (.t 1)), none, 0, 0⟩,
    ⟨(some 7), .e (.call (.c (.fn (.func 117) [] [])) [(.t 5), (.t 6)]), none, 0, 0⟩,
    ⟨(some 8), .p (.bin .geq .other (.t 7) (.c (.int .i64 0))), none, 0, 0⟩,
    ⟨(some 4), .p (.mv (.t 8)), none, 0, 0⟩] false)
  .ret)),
  [.t 4]⟩

/-- jettison/check.placed$2 -/
def q_check_placed_2 : AFn := ⟨6,
  (.seq (.reg [⟨(some 1), .e (.box (.t 0)), none, 0, 0⟩,
    ⟨(some 2), .p (.mv (.c (.bool false))), none, 0, 0⟩] false)
  (.seq (.reg [⟨(some 3), .p (.faddr 6 (.t 1)), none, 0, 0⟩,
    ⟨(some 4), .r (.load 1 false (.t 3)), none, 0, 0⟩,
    ⟨(some 5), .e (.call (.c (.fn (.func 76) [] [])) [(.t 4), (.c (.fn (.func 77) [] []))]), none, 0, 0⟩,
    ⟨(some 2), .p (.mv (.t 5)), none, 0, 0⟩] false)
  .ret)),
  [.t 2]⟩

/-- slices.ContainsFunc[[][]jettison/pattern.Item,[]jettison/pattern.Item] -/
def q_slices_ContainsFunc_pattern_Item_pattern_Itemx : AFn := ⟨9,
  (.seq (.reg [⟨(some 4), .p (.mv (.c (.bool false))), none, 0, 0⟩] false)
  (.seq (.reg [⟨(some 5), .p (.mv (.t 0)), none, 0, 0⟩,
    ⟨(some 6), .p (.mv (.t 1)), none, 0, 0⟩,
    ⟨(some 7), .e (.call (.c (.fn (.func 118) [] [])) [(.t 5), (.t 6)]), none, 0, 0⟩,
    ⟨(some 8), .p (.bin .geq .other (.t 7) (.c (.int .i64 0))), none, 0, 0⟩,
    ⟨(some 4), .p (.mv (.t 8)), none, 0, 0⟩] false)
  .ret)),
  [.t 4]⟩

/-- jettison/check.placed$2$1 -/
def q_check_placed_2_1 : AFn := ⟨6,
  (.seq (.reg [⟨(some 2), .p (.mv (.c (.bool false))), none, 0, 0⟩] false)
  (.seq (.reg [⟨(some 3), .p (.mv (.t 0)), none, 0, 0⟩,
    ⟨(some 4), .e (.call (.c (.fn (.func 41) [] [])) [(.t 3)]), none, 0, 0⟩,
    ⟨(some 5), .p (.un .not (.t 4)), none, 0, 0⟩,
    ⟨(some 2), .p (.mv (.t 5)), none, 0, 0⟩] false)
  .ret)),
  [.t 2]⟩

def q_check_checker_item_b0 : ACode :=
  (.seq (.reg [⟨(some 43), .p (.bin .lss .other (.t 42) (.t 41)), none, 0, 0⟩] false)
     (.seq (.cond (.t 43)
       .skip
       (.exit 0))
     (.seq (.block 1
       (.seq (.reg [⟨(some 44), .p (.iaddrS 6 (.t 40) (.t 42)), none, 0, 0⟩,
         ⟨(some 45), .r (.load 6 true (.t 44)), none, 0, 0⟩,
         ⟨(some 7), .al [(.int .i64 0), (.str []), (.int .i64 0), (.str []), (.str []), (.sl .full [])], none, 0, 0⟩,
         ⟨none, .e (.store 6 (.t 7) (.t 45)), none, 0, 0⟩] false)
       (.block 2
        (.seq (.reg [⟨(some 47), .r (.load 6 true (.t 7)), none, 0, 0⟩,
          ⟨(some 48), .e (.call (.c (.fn (.func 120) [] [])) [(.t 47)]), none, 0, 0⟩,
          ⟨(some 49), .p (.bin .neq .other (.t 48) (.c (.int .i64 2))), none, 0, 0⟩,
          ⟨(some 46), .p (.mv (.t 49)), none, 0, 0⟩] false)
        (.cond (.t 46)
         (.seq (.reg [⟨(some 4), .p (.mv (.c (.int .i64 6))), none, 0, 0⟩] false)
         .ret)
         (.seq (.reg [⟨(some 51), .p (.mv (.t 0)), none, 0, 0⟩,
           ⟨(some 52), .r (.load 6 true (.t 7)), none, 0, 0⟩,
           ⟨(some 53), .p (.faddr 2 (.t 3)), none, 0, 0⟩,
           ⟨(some 54), .r (.load 1 false (.t 53)), none, 0, 0⟩,
           ⟨(some 55), .p (.mv (.t 5)), none, 0, 0⟩,
           ⟨(some 56), .e (.call (.c (.fn (.func 121) [] [])) [(.t 51), (.t 52), (.t 54), (.t 55)]), none, 0, 0⟩,
           ⟨(some 57), .p (.un .not (.t 56)), none, 0, 0⟩,
           ⟨(some 50), .p (.mv (.t 57)), none, 0, 0⟩] false)
         (.cond (.t 50)
          (.seq (.reg [⟨(some 4), .p (.mv (.c (.int .i64 5))), none, 0, 0⟩] false)
          .ret)
          .skip)))))))
     (.reg [⟨(some 58), .p (.bin .add .other (.t 42) (.c (.int .i64 1))), none, 0, 0⟩,
      ⟨(some 42), .p (.mv (.t 58)), none, 0, 0⟩] false))))

/-- (*jettison/check.checker).item -/
def q_check_checker_item : AFn := ⟨78,
  (.seq (.reg [⟨(some 3), .e (.box (.t 1)), none, 0, 0⟩,
    ⟨(some 4), .p (.mv (.c (.int .i64 0))), none, 0, 0⟩] false)
  (.seq (.reg [⟨(some 8), .p (.mv (.t 0)), none, 0, 0⟩,
    ⟨(some 9), .p (.nilchk (.t 8)), none, 0, 0⟩,
    ⟨(some 10), .p (.faddr 0 (.t 9)), none, 0, 0⟩,
    ⟨(some 11), .r (.load 1 false (.t 10)), none, 0, 0⟩,
    ⟨(some 12), .p (.faddr 1 (.t 3)), none, 0, 0⟩,
    ⟨(some 13), .r (.load 1 false (.t 12)), none, 0, 0⟩,
    ⟨(some 14), .e (.call (.c (.fn (.func 26) [] [])) [(.t 11), (.t 13)]), none, 0, 0⟩,
    ⟨(some 5), .p (.mv (.t 14)), none, 0, 0⟩] true)
  (.seq (.seq (.reg [⟨(some 15), .p (.mv (.t 5)), none, 0, 0⟩,
     ⟨(some 16), .p (.bin .lss .other (.t 15) (.c (.int .i64 0))), none, 0, 0⟩,
     ⟨(some 17), .p (.mv (.t 16)), none, 0, 0⟩,
     ⟨(some 18), .p (.mv (.t 0)), (some (17, false)), 0, 0⟩,
     ⟨(some 19), .p (.nilchk (.t 18)), (some (17, false)), 0, 0⟩,
     ⟨(some 20), .p (.faddr 1 (.t 19)), (some (17, false)), 0, 0⟩,
     ⟨(some 21), .r (.load 1 false (.t 20)), (some (17, false)), 0, 0⟩,
     ⟨(some 22), .p (.bin .neq .other (.t 21) (.c (.str []))), (some (17, false)), 0, 0⟩,
     ⟨(some 23), .p (.mv (.t 22)), (some (17, false)), 0, 0⟩,
     ⟨(some 24), .p (.mv (.t 0)), (some (23, true)), 0, 0⟩,
     ⟨(some 25), .p (.nilchk (.t 24)), (some (23, true)), 0, 0⟩,
     ⟨(some 26), .p (.faddr 0 (.t 25)), (some (23, true)), 0, 0⟩,
     ⟨(some 27), .r (.load 1 false (.t 26)), (some (23, true)), 0, 0⟩,
     ⟨(some 28), .p (.mv (.t 5)), (some (23, true)), 0, 0⟩,
     ⟨(some 29), .p (.iaddrS 2 (.t 27) (.t 28)), (some (23, true)), 0, 0⟩,
     ⟨(some 30), .r (.load 2 true (.t 29)), (some (23, true)), 0, 0⟩,
     ⟨(some 31), .p (.mv (.t 0)), (some (23, true)), 0, 0⟩,
     ⟨(some 32), .p (.nilchk (.t 31)), (some (23, true)), 0, 0⟩,
     ⟨(some 33), .p (.faddr 1 (.t 32)), (some (23, true)), 0, 0⟩,
     ⟨(some 34), .r (.load 1 false (.t 33)), (some (23, true)), 0, 0⟩,
     ⟨(some 35), .e (.call (.c (.fn (.func 119) [] [])) [(.t 30), (.t 34)]), (some (23, true)), 0, 0⟩,
     ⟨(some 36), .p (.bin .lss .other (.t 35) (.c (.int .i64 0))), (some (23, true)), 0, 0⟩,
     ⟨(some 37), .p (.pick (.t 23) (.t 36) (.c (.bool false))), (some (17, false)), 0, 0⟩,
     ⟨(some 38), .p (.pick (.t 17) (.c (.bool true)) (.t 37)), none, 0, 0⟩] true)
   (.cond (.t 38)
    (.seq (.reg [⟨(some 4), .p (.mv (.c (.int .i64 5))), none, 0, 0⟩] false)
    .ret)
    .skip))
  (.seq (.seq (.reg [⟨(some 39), .p (.faddr 3 (.t 3)), none, 0, 0⟩,
     ⟨(some 40), .r (.load 1 false (.t 39)), none, 0, 0⟩,
     ⟨(some 41), .p (.len (.t 40)), none, 0, 0⟩,
     ⟨(some 42), .p (.mv (.c (.int .i64 0))), none, 0, 0⟩] false)
   (.block 0
    (.loop q_check_checker_item_b0)))
  (.seq (.seq (.reg [⟨(some 59), .p (.faddr 0 (.t 3)), none, 0, 0⟩,
     ⟨(some 60), .r (.load 1 false (.t 59)), none, 0, 0⟩,
     ⟨(some 61), .p (.bin .neq .other (.t 60) (.c (.int .i64 2))), none, 0, 0⟩] false)
   (.cond (.t 61)
    (.reg [⟨(some 62), .p (.mv (.t 0)), none, 0, 1⟩,
     ⟨(some 63), .p (.nilchk (.t 62)), none, 0, 1⟩,
     ⟨(some 64), .p (.faddr 2 (.t 63)), none, 0, 1⟩,
     ⟨(some 65), .r (.load 1 false (.t 64)), none, 0, 1⟩,
     ⟨(some 66), .p (.faddr 2 (.t 3)), none, 0, 1⟩,
     ⟨(some 67), .r (.load 1 false (.t 66)), none, 0, 1⟩,
     ⟨(some 68), .p (.mv (.t 0)), none, 0, 0⟩,
     ⟨(some 69), .p (.nilchk (.t 68)), none, 0, 0⟩,
     ⟨(some 70), .p (.faddr 2 (.t 69)), none, 0, 0⟩,
     ⟨(some 71), .r (.load 1 false (.t 70)), none, 0, 0⟩,
     ⟨(some 72), .p (.faddr 2 (.t 3)), none, 0, 0⟩,
     ⟨(some 73), .r (.load 1 false (.t 72)), none, 0, 0⟩,
     ⟨(some 74), .r (.lookup .s (.sl .full []) false (.t 71) (.t 73)), none, 0, 0⟩,
     ⟨(some 75), .p (.mv (.t 5)), none, 0, 0⟩,
     ⟨(some 76), .p (.bslice 1 [(.t 75)]), none, 0, 0⟩,
     ⟨(some 77), .e (.app 1 8 (.t 74) (.t 76)), none, 0, 0⟩,
     ⟨none, .e (.mupd .s (.t 65) (.t 67) (.t 77)), none, 0, 0⟩] true)
    .skip))
  (.seq (.reg [⟨(some 4), .p (.mv (.c (.int .i64 0))), none, 0, 0⟩] false)
  .ret)))))),
  [.t 4]⟩

def q_lex_All_b0 : ACode :=
  (.block 1
     (.seq (.reg [⟨(some 10), .p (.mv (.t 0)), none, 0, 0⟩,
       ⟨(some 11), .p (.lenS (.t 10)), none, 0, 0⟩,
       ⟨(some 12), .p (.mv (.t 0)), none, 0, 0⟩,
       ⟨(some 13), .p (.mv (.t 3)), none, 0, 0⟩,
       ⟨(some 14), .p (.slcStr (.t 12) (some (.t 13)) none), none, 0, 0⟩,
       ⟨(some 15), .e (.call (.c (.fn (.func 122) [] [])) [(.t 14), (.c (.str [9, 10, 13, 32]))]), none, 0, 0⟩,
       ⟨(some 16), .p (.lenS (.t 15)), none, 0, 0⟩,
       ⟨(some 17), .p (.bin .sub .other (.t 11) (.t 16)), none, 0, 0⟩,
       ⟨(some 3), .p (.mv (.t 17)), none, 0, 0⟩] false)
     (.seq (.seq (.reg [⟨(some 18), .p (.mv (.t 3)), none, 0, 0⟩,
        ⟨(some 19), .p (.mv (.t 0)), none, 0, 0⟩,
        ⟨(some 20), .p (.lenS (.t 19)), none, 0, 0⟩,
        ⟨(some 21), .p (.bin .eql .other (.t 18) (.t 20)), none, 0, 0⟩] false)
      (.cond (.t 21)
       (.seq (.reg [⟨(some 22), .p (.mv (.t 2)), none, 0, 0⟩,
         ⟨(some 23), .p (.mv (.t 3)), none, 0, 0⟩,
         ⟨(some 2), .p (.mv (.t 22)), none, 0, 0⟩,
         ⟨(some 3), .p (.mv (.t 23)), none, 0, 0⟩,
         ⟨(some 4), .p (.mv (.c (.int .i64 0))), none, 0, 0⟩] false)
       .ret)
       .skip))
     (.seq (.reg [⟨(some 25), .p (.mv (.t 0)), none, 0, 0⟩,
       ⟨(some 26), .p (.mv (.t 3)), none, 0, 0⟩,
       ⟨(some 27), .p (.slcStr (.t 25) (some (.t 26)) none), none, 0, 0⟩,
       ⟨(some 28), .e (.call (.c (.fn (.func 123) [] [])) [(.t 27)]), none, 0, 0⟩,
       ⟨(some 24), .p (.mv (.t 28)), none, 0, 0⟩,
       ⟨(some 29), .p (.ext 0 (.t 24)), none, 0, 0⟩,
       ⟨(some 30), .p (.ext 1 (.t 24)), none, 0, 0⟩,
       ⟨(some 5), .al [(.int .i64 0), (.str []), (.int .i64 0), (.int .i64 0)], none, 0, 0⟩,
       ⟨none, .e (.store 4 (.t 5) (.t 29)), none, 0, 0⟩,
       ⟨(some 6), .p (.mv (.t 30)), none, 0, 0⟩] false)
     (.seq (.seq (.reg [⟨(some 31), .p (.mv (.t 6)), none, 0, 0⟩,
        ⟨(some 32), .p (.un .not (.t 31)), none, 0, 0⟩] false)
      (.cond (.t 32)
       (.seq (.reg [⟨(some 33), .p (.mv (.t 3)), none, 0, 0⟩,
         ⟨(some 2), .p (.mv (.c (.sl .full []))), none, 0, 0⟩,
         ⟨(some 3), .p (.mv (.t 33)), none, 0, 0⟩,
         ⟨(some 4), .p (.mv (.c (.int .i64 2))), none, 0, 0⟩] false)
       .ret)
       .skip))
     (.seq (.reg [⟨(some 34), .p (.mv (.t 3)), none, 0, 0⟩,
       ⟨(some 35), .p (.faddr 3 (.t 5)), none, 0, 0⟩,
       ⟨none, .e (.store 1 (.t 35) (.t 34)), none, 0, 0⟩] false)
     (.seq (.reg [⟨(some 36), .p (.mv (.t 2)), none, 0, 0⟩,
       ⟨(some 37), .r (.load 4 true (.t 5)), none, 0, 0⟩,
       ⟨(some 38), .p (.bslice 4 [(.t 37)]), none, 0, 0⟩,
       ⟨(some 39), .e (.app 4 40 (.t 36) (.t 38)), none, 0, 0⟩,
       ⟨(some 2), .p (.mv (.t 39)), none, 0, 0⟩] false)
     (.reg [⟨(some 40), .p (.mv (.t 3)), none, 0, 0⟩,
      ⟨(some 41), .p (.faddr 1 (.t 5)), none, 0, 0⟩,
      ⟨(some 42), .r (.load 1 false (.t 41)), none, 0, 0⟩,
      ⟨(some 43), .p (.lenS (.t 42)), none, 0, 0⟩,
      ⟨(some 44), .p (.bin .add .other (.t 40) (.t 43)), none, 0, 0⟩,
      ⟨(some 3), .p (.mv (.t 44)), none, 0, 0⟩] false))))))))

/-- jettison/lex.All -/
def q_lex_All : AFn := ⟨45,
  (.seq (.reg [⟨(some 2), .p (.mv (.c (.sl .full []))), none, 0, 0⟩,
    ⟨(some 3), .p (.mv (.c (.int .i64 0))), none, 0, 0⟩,
    ⟨(some 4), .p (.mv (.c (.int .i64 0))), none, 0, 0⟩] false)
  (.seq (.seq (.reg [⟨(some 7), .p (.mv (.t 0)), none, 0, 0⟩,
     ⟨(some 8), .p (.lenS (.t 7)), none, 0, 0⟩,
     ⟨(some 9), .p (.bin .gtr .other (.t 8) (.c (.int .i64 2048))), none, 0, 0⟩] false)
   (.cond (.t 9)
    (.seq (.reg [⟨(some 2), .p (.mv (.c (.sl .full []))), none, 0, 0⟩,
      ⟨(some 3), .p (.mv (.c (.int .i64 2048))), none, 0, 0⟩,
      ⟨(some 4), .p (.mv (.c (.int .i64 4))), none, 0, 0⟩] false)
    .ret)
    .skip))
  (.block 0
   (.loop q_lex_All_b0)))),
  [.t 2, .t 3, .t 4]⟩

/-- jettison/parse.run[jettison/pattern.Query]$1 -/
def q_parse_run_pattern_Query_1 : AFn := ⟨22,
  (.seq (.reg [⟨(some 7), .e (.recov), none, 0, 0⟩,
    ⟨(some 3), .p (.mv (.t 7)), none, 0, 0⟩] false)
  (.seq (.reg [⟨(some 9), .p (.mv (.t 3)), none, 0, 0⟩,
    ⟨(some 10), .p (.tass 150 (.agg [(.int .i64 0), (.int .i64 0)]) true (.t 9)), none, 0, 0⟩,
    ⟨(some 8), .p (.mv (.t 10)), none, 0, 0⟩,
    ⟨(some 11), .p (.ext 0 (.t 8)), none, 0, 0⟩,
    ⟨(some 12), .p (.ext 1 (.t 8)), none, 0, 0⟩,
    ⟨(some 4), .al [(.int .i64 0), (.int .i64 0)], none, 0, 0⟩,
    ⟨none, .e (.store 2 (.t 4) (.t 11)), none, 0, 0⟩,
    ⟨(some 5), .p (.mv (.t 12)), none, 0, 0⟩] false)
  (.seq (.reg [⟨(some 13), .p (.mv (.t 5)), none, 0, 0⟩] false)
  (.cond (.t 13)
   (.seq (.reg [⟨(some 6), .al [(.sl .full []), (.int .i64 0), (.str [])], none, 0, 0⟩] false)
   (.reg [⟨(some 14), .r (.load 3 true (.t 6)), none, 0, 0⟩,
    ⟨(some 15), .p (.faddr 1 (.t 4)), none, 0, 1⟩,
    ⟨(some 16), .r (.load 1 false (.t 15)), none, 0, 1⟩,
    ⟨(some 17), .p (.faddr 0 (.t 4)), none, 0, 2⟩,
    ⟨(some 18), .r (.load 1 false (.t 17)), none, 0, 2⟩,
    ⟨none, .e (.store 3 (.t 0) (.t 14)), none, 0, 0⟩,
    ⟨none, .e (.store 1 (.t 1) (.t 16)), none, 0, 0⟩,
    ⟨none, .e (.store 1 (.t 2) (.t 18)), none, 0, 0⟩] true))
   (.seq (.reg [⟨(some 19), .p (.mv (.t 3)), none, 0, 0⟩,
     ⟨(some 20), .p (.bin .neq .iface (.t 19) (.c .nili)), none, 0, 0⟩] false)
   (.cond (.t 20)
    (.reg [⟨(some 21), .p (.mv (.t 3)), none, 0, 0⟩,
     ⟨none, .e (.panic (.t 21)), none, 0, 0⟩] false)
    .skip)))))),
  []⟩

/-- (*jettison/parse.parser).must -/
def q_parse_parser_must : AFn := ⟨8,
  (.seq (.reg [⟨(some 4), .p (.mv (.t 1)), none, 0, 0⟩,
    ⟨(some 5), .p (.un .not (.t 4)), none, 0, 0⟩] false)
  (.cond (.t 5)
   (.reg [⟨(some 6), .p (.mv (.t 0)), none, 0, 0⟩,
    ⟨(some 7), .e (.call (.c (.fn (.func 124) [] [])) [(.t 6), (.c (.int .i64 3))]), none, 0, 0⟩] false)
   .skip)),
  []⟩

def q_parse_parser_list_b0 : ACode :=
  (.seq (.seq (.reg [⟨(some 7), .p (.mv (.t 0)), none, 0, 0⟩,
        ⟨(some 8), .e (.call (.c (.fn (.func 85) [] [])) [(.t 7), (.c (.str [59]))]), none, 0, 0⟩] false)
      (.cond (.t 8)
       .skip
       (.exit 0)))
     (.block 1
      (.reg [⟨(some 9), .p (.mv (.t 3)), none, 0, 0⟩,
       ⟨(some 10), .p (.mv (.t 0)), none, 0, 0⟩,
       ⟨(some 11), .e (.call (.c (.fn (.func 125) [] [])) [(.t 10)]), none, 0, 0⟩,
       ⟨(some 12), .p (.bslice 7 [(.t 11)]), none, 0, 0⟩,
       ⟨(some 13), .e (.app 7 104 (.t 9) (.t 12)), none, 0, 0⟩,
       ⟨(some 3), .p (.mv (.t 13)), none, 0, 0⟩] false)))

/-- (*jettison/parse.parser).list -/
def q_parse_parser_list : AFn := ⟨15,
  (.seq (.reg [⟨(some 2), .p (.mv (.c (.sl .full []))), none, 0, 0⟩] false)
  (.seq (.reg [⟨(some 4), .p (.mv (.t 0)), none, 0, 0⟩,
    ⟨(some 5), .e (.call (.c (.fn (.func 125) [] [])) [(.t 4)]), none, 0, 0⟩,
    ⟨(some 6), .p (.bslice 7 [(.t 5)]), none, 0, 0⟩,
    ⟨(some 3), .p (.mv (.t 6)), none, 0, 0⟩] false)
  (.seq (.block 0
    (.loop q_parse_parser_list_b0))
  (.seq (.reg [⟨(some 14), .p (.mv (.t 3)), none, 0, 0⟩,
    ⟨(some 2), .p (.mv (.t 14)), none, 0, 0⟩] false)
  .ret)))),
  [.t 2]⟩

/-- (*jettison/parse.parser).take -/
def q_parse_parser_take : AFn := ⟨9,
  (.reg [⟨(some 4), .p (.mv (.t 0)), none, 0, 0⟩,
   ⟨(some 5), .p (.mv (.t 0)), none, 0, 0⟩,
   ⟨(some 6), .p (.mv (.t 1)), none, 0, 0⟩,
   ⟨(some 7), .e (.call (.c (.fn (.func 85) [] [])) [(.t 5), (.t 6)]), none, 0, 0⟩,
   ⟨(some 8), .e (.call (.c (.fn (.func 81) [] [])) [(.t 4), (.t 7)]), none, 0, 0⟩] false),
  []⟩

/-- (*jettison/parse.parser).number -/
def q_parse_parser_number : AFn := ⟨24,
  (.seq (.reg [⟨(some 6), .p (.mv (.c (.int .i64 0))), none, 0, 0⟩] false)
  (.seq (.reg [⟨(some 8), .p (.mv (.t 0)), none, 0, 0⟩,
    ⟨(some 9), .e (.call (.c (.fn (.func 126) [] [])) [(.t 8)]), none, 0, 0⟩,
    ⟨(some 10), .p (.field 2 1 false (.t 9)), none, 0, 0⟩,
    ⟨(some 7), .p (.mv (.t 10)), none, 0, 0⟩] false)
  (.seq (.reg [⟨(some 11), .p (.mv (.t 0)), none, 0, 0⟩,
    ⟨(some 12), .p (.mv (.t 7)), none, 0, 0⟩,
    ⟨(some 13), .p (.mv (.t 1)), none, 0, 0⟩,
    ⟨(some 14), .p (.bin .geq .other (.t 12) (.t 13)), none, 0, 0⟩,
    ⟨(some 15), .p (.mv (.t 14)), none, 0, 0⟩,
    ⟨(some 16), .p (.mv (.t 7)), (some (15, true)), 0, 0⟩,
    ⟨(some 17), .p (.mv (.t 2)), (some (15, true)), 0, 0⟩,
    ⟨(some 18), .p (.bin .leq .other (.t 16) (.t 17)), (some (15, true)), 0, 0⟩,
    ⟨(some 19), .p (.pick (.t 15) (.t 18) (.c (.bool false))), none, 0, 0⟩,
    ⟨(some 20), .e (.call (.c (.fn (.func 81) [] [])) [(.t 11), (.t 19)]), none, 0, 0⟩] false)
  (.seq (.reg [⟨(some 21), .p (.mv (.t 0)), none, 0, 0⟩,
    ⟨(some 22), .e (.call (.c (.fn (.func 127) [] [])) [(.t 21), (.c (.int .i64 2))]), none, 0, 0⟩,
    ⟨(some 23), .p (.field 2 1 false (.t 22)), none, 0, 0⟩,
    ⟨(some 6), .p (.mv (.t 23)), none, 0, 0⟩] false)
  .ret)))),
  [.t 6]⟩

/-- (*jettison/parse.parser).eat -/
def q_parse_parser_eat : AFn := ⟨33,
  (.seq (.reg [⟨(some 4), .p (.mv (.c (.bool false))), none, 0, 0⟩] false)
  (.seq (.seq (.reg [⟨(some 5), .p (.mv (.t 0)), none, 0, 0⟩,
     ⟨(some 6), .p (.mv (.t 1)), none, 0, 0⟩,
     ⟨(some 7), .e (.call (.c (.fn (.func 128) [] [])) [(.t 5), (.t 6)]), none, 0, 0⟩,
     ⟨(some 8), .p (.un .not (.t 7)), none, 0, 0⟩] false)
   (.cond (.t 8)
    (.seq (.reg [⟨(some 4), .p (.mv (.c (.bool false))), none, 0, 0⟩] false)
    .ret)
    .skip))
  (.seq (.seq (.reg [⟨(some 9), .p (.mv (.t 1)), none, 0, 0⟩] false)
   (.block 0
    (.seq (.seq (.reg [⟨(some 11), .p (.bin .eql .other (.t 9) (.c (.str [40]))), none, 0, 0⟩,
       ⟨(some 10), .p (.mv (.t 11)), none, 0, 0⟩] false)
     (.cond (.t 10)
      .skip
      (.reg [⟨(some 12), .p (.bin .eql .other (.t 9) (.c (.str [91]))), none, 0, 0⟩,
       ⟨(some 10), .p (.mv (.t 12)), none, 0, 0⟩] false)))
    (.cond (.t 10)
     (.reg [⟨(some 13), .p (.mv (.t 0)), none, 0, 0⟩,
      ⟨(some 14), .e (.call (.c (.fn (.func 129) [] [])) [(.t 13)]), none, 0, 0⟩] false)
     (.seq (.seq (.reg [⟨(some 16), .p (.bin .eql .other (.t 9) (.c (.str [41]))), none, 0, 0⟩,
        ⟨(some 15), .p (.mv (.t 16)), none, 0, 0⟩] false)
      (.cond (.t 15)
       .skip
       (.reg [⟨(some 17), .p (.bin .eql .other (.t 9) (.c (.str [93]))), none, 0, 0⟩,
        ⟨(some 15), .p (.mv (.t 17)), none, 0, 0⟩] false)))
     (.cond (.t 15)
      (.reg [⟨(some 18), .p (.mv (.t 0)), none, 0, 0⟩,
       ⟨(some 19), .p (.nilchk (.t 18)), none, 0, 0⟩,
       ⟨(some 20), .p (.faddr 2 (.t 19)), none, 0, 0⟩,
       ⟨(some 21), .r (.load 1 false (.t 20)), none, 0, 0⟩,
       ⟨(some 22), .p (.bin .sub .other (.t 21) (.c (.int .i64 1))), none, 0, 0⟩,
       ⟨(some 23), .p (.nilchk (.t 18)), none, 0, 0⟩,
       ⟨(some 24), .p (.faddr 2 (.t 23)), none, 0, 0⟩,
       ⟨none, .e (.store 1 (.t 24) (.t 22)), none, 0, 0⟩] false)
      .skip))))))
  (.seq (.reg [⟨(some 25), .p (.mv (.t 0)), none, 0, 0⟩,
    ⟨(some 26), .p (.mv (.t 0)), none, 0, 0⟩,
    ⟨(some 27), .p (.nilchk (.t 26)), none, 0, 0⟩,
    ⟨(some 28), .p (.faddr 0 (.t 27)), none, 0, 0⟩,
    ⟨(some 29), .r (.load 1 false (.t 28)), none, 0, 0⟩,
    ⟨(some 30), .p (.slcSl 4 (.t 29) (some (.c (.int .i64 1))) none none), none, 0, 0⟩,
    ⟨(some 31), .p (.nilchk (.t 25)), none, 0, 0⟩,
    ⟨(some 32), .p (.faddr 0 (.t 31)), none, 0, 0⟩,
    ⟨none, .e (.store 1 (.t 32) (.t 30)), none, 0, 0⟩] false)
  (.seq (.reg [⟨(some 4), .p (.mv (.c (.bool true))), none, 0, 0⟩] false)
  .ret))))),
  [.t 4]⟩

/-- (*jettison/parse.parser).name -/
def q_parse_parser_name : AFn := ⟨6,
  (.seq (.reg [⟨(some 2), .p (.mv (.c (.str []))), none, 0, 0⟩] false)
  (.seq (.reg [⟨(some 3), .p (.mv (.t 0)), none, 0, 0⟩,
    ⟨(some 4), .e (.call (.c (.fn (.func 127) [] [])) [(.t 3), (.c (.int .i64 1))]), none, 0, 0⟩,
    ⟨(some 5), .p (.field 1 1 false (.t 4)), none, 0, 0⟩,
    ⟨(some 2), .p (.mv (.t 5)), none, 0, 0⟩] false)
  .ret)),
  [.t 2]⟩

/-- internal/strconv.FormatInt -/
def q_internal_strconv_FormatInt : AFn := ⟨54,
  (.seq (.reg [⟨(some 4), .p (.mv (.c (.str []))), none, 0, 0⟩] false)
  (.seq (.seq (.reg [⟨(some 10), .p (.mv (.t 1)), none, 0, 0⟩,
     ⟨(some 11), .p (.bin .eql .other (.t 10) (.c (.int .i64 10))), none, 0, 0⟩] false)
   (.cond (.t 11)
    (.seq (.seq (.reg [⟨(some 12), .p (.mv (.t 0)), none, 0, 0⟩,
       ⟨(some 13), .p (.bin .leq .other (.c (.int .i64 0)) (.t 12)), none, 0, 0⟩,
       ⟨(some 14), .p (.mv (.t 13)), none, 0, 0⟩,
       ⟨(some 15), .p (.mv (.t 0)), (some (14, true)), 0, 0⟩,
       ⟨(some 16), .p (.bin .lss .other (.t 15) (.c (.int .i64 100))), (some (14, true)), 0, 0⟩,
       ⟨(some 17), .p (.pick (.t 14) (.t 16) (.c (.bool false))), none, 0, 0⟩] false)
     (.cond (.t 17)
      (.seq (.reg [⟨(some 18), .p (.mv (.t 0)), none, 0, 0⟩,
        ⟨(some 19), .e (.call (.c (.fn (.func 135) [] [])) [(.t 18)]), none, 0, 0⟩,
        ⟨(some 4), .p (.mv (.t 19)), none, 0, 0⟩] false)
      .ret)
      .skip))
    (.seq (.reg [⟨(some 5), .al [(.int .u8 0), (.int .u8 0), (.int .u8 0), (.int .u8 0), (.int .u8 0), (.int .u8 0), (.int .u8 0), (.int .u8 0), (.int .u8 0), (.int .u8 0), (.int .u8 0), (.int .u8 0), (.int .u8 0), (.int .u8 0), (.int .u8 0), (.int .u8 0), (.int .u8 0), (.int .u8 0), (.int .u8 0), (.int .u8 0), (.int .u8 0), (.int .u8 0), (.int .u8 0), (.int .u8 0)], none, 0, 0⟩] false)
    (.seq (.reg [⟨(some 20), .p (.mv (.t 0)), none, 0, 0⟩,
      ⟨(some 21), .p (.convInt .u64 (.t 20)), none, 0, 0⟩,
      ⟨(some 6), .p (.mv (.t 21)), none, 0, 0⟩] false)
    (.seq (.seq (.reg [⟨(some 22), .p (.mv (.t 0)), none, 0, 0⟩,
       ⟨(some 23), .p (.bin .lss .other (.t 22) (.c (.int .i64 0))), none, 0, 0⟩] false)
     (.cond (.t 23)
      (.reg [⟨(some 24), .p (.mv (.t 6)), none, 0, 0⟩,
       ⟨(some 25), .p (.un .neg (.t 24)), none, 0, 0⟩,
       ⟨(some 6), .p (.mv (.t 25)), none, 0, 0⟩] false)
      .skip))
    (.seq (.reg [⟨(some 26), .p (.mv (.t 6)), none, 0, 0⟩,
      ⟨(some 27), .e (.call (.c (.fn (.func 136) [] [])) [(.t 26)]), none, 0, 0⟩,
      ⟨(some 7), .p (.mv (.t 27)), none, 0, 0⟩] false)
    (.seq (.reg [⟨(some 28), .p (.mv (.t 7)), none, 0, 0⟩,
      ⟨(some 29), .p (.bin .add .other (.c (.int .i64 1)) (.t 28)), none, 0, 0⟩,
      ⟨(some 30), .p (.slcArr 24 1 (.t 5) (some (.c (.int .i64 1))) (some (.t 29)) none), none, 0, 0⟩,
      ⟨(some 31), .p (.mv (.t 6)), none, 0, 0⟩,
      ⟨(some 32), .e (.call (.c (.fn (.func 137) [] [])) [(.t 30), (.t 31)]), none, 0, 0⟩] false)
    (.seq (.seq (.reg [⟨(some 33), .p (.mv (.t 0)), none, 0, 0⟩,
       ⟨(some 34), .p (.bin .lss .other (.t 33) (.c (.int .i64 0))), none, 0, 0⟩] false)
     (.cond (.t 34)
      (.seq (.reg [⟨(some 35), .p (.iaddrA 24 1 (.t 5) (.c (.int .i64 0))), none, 0, 0⟩,
        ⟨none, .e (.store 1 (.t 35) (.c (.int .u8 45))), none, 0, 0⟩] false)
      (.seq (.reg [⟨(some 36), .p (.mv (.t 7)), none, 0, 0⟩,
        ⟨(some 37), .p (.bin .add .other (.c (.int .i64 1)) (.t 36)), none, 0, 0⟩,
        ⟨(some 38), .p (.slcArr 24 1 (.t 5) none (some (.t 37)) none), none, 0, 0⟩,
        ⟨(some 39), .r (.bstr (.t 38)), none, 0, 0⟩,
        ⟨(some 4), .p (.mv (.t 39)), none, 0, 0⟩] false)
      .ret))
      .skip))
    (.seq (.reg [⟨(some 40), .p (.mv (.t 7)), none, 0, 0⟩,
      ⟨(some 41), .p (.bin .add .other (.c (.int .i64 1)) (.t 40)), none, 0, 0⟩,
      ⟨(some 42), .p (.slcArr 24 1 (.t 5) (some (.c (.int .i64 1))) (some (.t 41)) none), none, 0, 0⟩,
      ⟨(some 43), .r (.bstr (.t 42)), none, 0, 0⟩,
      ⟨(some 4), .p (.mv (.t 43)), none, 0, 0⟩] false)
    .ret))))))))
    .skip))
  (.seq (.reg [⟨(some 45), .p (.mv (.t 0)), none, 0, 0⟩,
    ⟨(some 46), .p (.convInt .u64 (.t 45)), none, 0, 0⟩,
    ⟨(some 47), .p (.mv (.t 1)), none, 0, 0⟩,
    ⟨(some 48), .p (.mv (.t 0)), none, 0, 0⟩,
    ⟨(some 49), .p (.bin .lss .other (.t 48) (.c (.int .i64 0))), none, 0, 0⟩,
    ⟨(some 50), .e (.call (.c (.fn (.func 138) [] [])) [(.c (.sl .full [])), (.t 46), (.t 47), (.t 49), (.c (.bool false))]), none, 0, 0⟩,
    ⟨(some 44), .p (.mv (.t 50)), none, 0, 0⟩,
    ⟨(some 51), .p (.ext 0 (.t 44)), none, 0, 0⟩,
    ⟨(some 52), .p (.ext 1 (.t 44)), none, 0, 0⟩,
    ⟨(some 8), .p (.mv (.t 51)), none, 0, 0⟩,
    ⟨(some 9), .p (.mv (.t 52)), none, 0, 0⟩] false)
  (.seq (.reg [⟨(some 53), .p (.mv (.t 9)), none, 0, 0⟩,
    ⟨(some 4), .p (.mv (.t 53)), none, 0, 0⟩] false)
  .ret)))),
  [.t 4]⟩

def q_jettisonlaw11_feed_item_r0 : ACode :=
  (.seq (.reg [⟨(some 95), .p (.mv (.t 0)), none, 0, 0⟩,
    ⟨(some 96), .p (.mv (.t 9)), none, 0, 0⟩,
    ⟨(some 97), .p (.mv (.t 8)), none, 0, 0⟩,
    ⟨(some 98), .e (.call (.c (.fn (.func 148) [] [])) [(.t 95), (.t 96), (.t 97)]), none, 0, 0⟩,
    ⟨(some 99), .p (.faddr 3 (.t 10)), none, 0, 0⟩,
    ⟨none, .e (.store 1 (.t 99) (.t 98)), none, 0, 0⟩] false)
  (.seq (.reg [⟨(some 100), .p (.mv (.t 0)), none, 0, 0⟩,
    ⟨(some 101), .p (.mv (.t 0)), none, 0, 0⟩,
    ⟨(some 102), .p (.nilchk (.t 101)), none, 0, 0⟩,
    ⟨(some 103), .p (.faddr 2 (.t 102)), none, 0, 0⟩,
    ⟨(some 104), .r (.load 1 false (.t 103)), none, 0, 0⟩,
    ⟨(some 105), .p (.mv (.t 9)), none, 0, 0⟩,
    ⟨(some 106), .p (.bslice 1 [(.t 105)]), none, 0, 0⟩,
    ⟨(some 107), .e (.app 1 16 (.t 104) (.t 106)), none, 0, 0⟩,
    ⟨(some 108), .p (.nilchk (.t 100)), none, 0, 0⟩,
    ⟨(some 109), .p (.faddr 2 (.t 108)), none, 0, 0⟩,
    ⟨none, .e (.store 1 (.t 109) (.t 107)), none, 0, 0⟩] false)
  (.seq (.reg [⟨(some 110), .p (.mv (.t 0)), none, 0, 0⟩,
    ⟨(some 111), .p (.mv (.t 0)), none, 0, 0⟩,
    ⟨(some 112), .p (.nilchk (.t 111)), none, 0, 0⟩,
    ⟨(some 113), .p (.faddr 3 (.t 112)), none, 0, 0⟩,
    ⟨(some 114), .r (.load 1 false (.t 113)), none, 0, 0⟩,
    ⟨(some 115), .p (.mv (.t 8)), none, 0, 0⟩,
    ⟨(some 116), .p (.bslice 1 [(.t 115)]), none, 0, 0⟩,
    ⟨(some 117), .e (.app 1 16 (.t 114) (.t 116)), none, 0, 0⟩,
    ⟨(some 118), .p (.nilchk (.t 110)), none, 0, 0⟩,
    ⟨(some 119), .p (.faddr 3 (.t 118)), none, 0, 0⟩,
    ⟨none, .e (.store 1 (.t 119) (.t 117)), none, 0, 0⟩] false)
  (.seq (.reg [⟨(some 120), .r (.load 7 true (.t 10)), none, 0, 0⟩,
    ⟨none, .e (.store 7 (.t 6) (.t 120)), none, 0, 0⟩] false)
  .ret))))

def q_jettisonlaw11_feed_item_r1 : ACode :=
  (.seq (.seq (.reg [⟨(some 79), .p (.mv (.t 7)), none, 0, 0⟩,
     ⟨(some 80), .p (.bin .rem .other (.t 79) (.c (.int .i64 8))), none, 0, 0⟩,
     ⟨(some 81), .p (.bin .eql .other (.t 80) (.c (.int .i64 5))), none, 0, 0⟩] false)
   (.cond (.t 81)
    (.seq (.reg [⟨(some 82), .p (.faddr 0 (.t 10)), none, 0, 0⟩,
      ⟨none, .e (.store 1 (.t 82) (.c (.int .i64 1))), none, 0, 0⟩] false)
    (.seq (.reg [⟨(some 83), .p (.mv (.t 7)), none, 0, 0⟩,
      ⟨(some 84), .p (.bin .quo .other (.t 83) (.c (.int .i64 8))), none, 0, 0⟩,
      ⟨(some 85), .p (.bin .rem .other (.t 84) (.c (.int .i64 2))), none, 0, 0⟩,
      ⟨(some 86), .p (.bin .add .other (.c (.int .i64 1)) (.t 85)), none, 0, 0⟩,
      ⟨(some 87), .p (.faddr 4 (.t 10)), none, 0, 0⟩,
      ⟨none, .e (.store 1 (.t 87) (.t 86)), none, 0, 0⟩] false)
    (.reg [⟨(some 88), .p (.faddr 4 (.t 10)), none, 0, 0⟩,
     ⟨(some 89), .r (.load 1 false (.t 88)), none, 0, 0⟩,
     ⟨(some 90), .p (.mv (.t 7)), none, 0, 0⟩,
     ⟨(some 91), .p (.bin .quo .other (.t 90) (.c (.int .i64 16))), none, 0, 0⟩,
     ⟨(some 92), .p (.bin .rem .other (.t 91) (.c (.int .i64 2))), none, 0, 0⟩,
     ⟨(some 93), .p (.bin .add .other (.t 89) (.t 92)), none, 0, 0⟩,
     ⟨(some 94), .p (.faddr 5 (.t 10)), none, 0, 0⟩,
     ⟨none, .e (.store 1 (.t 94) (.t 93)), none, 0, 0⟩] false)))
    .skip))
  q_jettisonlaw11_feed_item_r0)

def q_jettisonlaw11_feed_item_r2 : ACode :=
  (.seq (.seq (.reg [⟨(some 49), .p (.mv (.t 1)), none, 0, 0⟩,
     ⟨(some 50), .p (.bin .gtr .other (.t 49) (.c (.int .i64 0))), none, 0, 0⟩,
     ⟨(some 51), .p (.mv (.t 50)), none, 0, 0⟩,
     ⟨(some 52), .p (.mv (.t 7)), (some (51, true)), 0, 0⟩,
     ⟨(some 53), .p (.bin .rem .other (.t 52) (.c (.int .i64 8))), (some (51, true)), 0, 0⟩,
     ⟨(some 54), .p (.bin .eql .other (.t 53) (.c (.int .i64 6))), (some (51, true)), 0, 0⟩,
     ⟨(some 55), .p (.pick (.t 51) (.t 54) (.c (.bool false))), none, 0, 0⟩,
     ⟨(some 56), .p (.mv (.t 55)), none, 0, 0⟩,
     ⟨(some 57), .p (.mv (.t 0)), (some (56, true)), 0, 0⟩,
     ⟨(some 58), .p (.nilchk (.t 57)), (some (56, true)), 0, 0⟩,
     ⟨(some 59), .p (.faddr 4 (.t 58)), (some (56, true)), 0, 0⟩,
     ⟨(some 60), .r (.load 1 false (.t 59)), (some (56, true)), 0, 0⟩,
     ⟨(some 61), .p (.bin .lss .other (.t 60) (.c (.int .i64 5))), (some (56, true)), 0, 0⟩,
     ⟨(some 62), .p (.pick (.t 56) (.t 61) (.c (.bool false))), none, 0, 0⟩] false)
   (.cond (.t 62)
    (.seq (.reg [⟨(some 63), .p (.mv (.t 0)), none, 0, 0⟩,
      ⟨(some 64), .p (.mv (.t 1)), none, 0, 0⟩,
      ⟨(some 65), .p (.bin .sub .other (.t 64) (.c (.int .i64 1))), none, 0, 0⟩,
      ⟨(some 66), .e (.call (.c (.fn (.func 67) [] [])) [(.t 63), (.t 65), (.c (.int .i64 2))]), none, 0, 0⟩,
      ⟨(some 67), .p (.bslice 1 [(.t 66)]), none, 0, 0⟩,
      ⟨(some 68), .p (.build [(.int .i64 0), (.str []), (.str []), (.sl .full []), (.int .i64 0), (.int .i64 0), (.sl .full [])] [(0, 1, (.c (.int .i64 3))), (6, 1, (.t 67))]), none, 0, 0⟩,
      ⟨none, .e (.store 7 (.t 10) (.t 68)), none, 0, 0⟩] false)
    (.seq (.reg [⟨(some 69), .p (.faddr 6 (.t 10)), none, 0, 1⟩,
      ⟨(some 70), .r (.load 1 false (.t 69)), none, 0, 1⟩,
      ⟨(some 71), .p (.mv (.t 0)), none, 0, 0⟩,
      ⟨(some 72), .p (.mv (.t 1)), none, 0, 0⟩,
      ⟨(some 73), .p (.bin .sub .other (.t 72) (.c (.int .i64 1))), none, 0, 0⟩,
      ⟨(some 74), .e (.call (.c (.fn (.func 67) [] [])) [(.t 71), (.t 73), (.c (.int .i64 2))]), none, 0, 0⟩,
      ⟨(some 75), .p (.bslice 1 [(.t 74)]), none, 0, 0⟩,
      ⟨(some 76), .e (.app 1 24 (.t 70) (.t 75)), none, 0, 0⟩,
      ⟨(some 77), .p (.faddr 6 (.t 10)), none, 0, 0⟩,
      ⟨none, .e (.store 1 (.t 77) (.t 76)), none, 0, 0⟩] true)
    (.seq (.reg [⟨(some 78), .r (.load 7 true (.t 10)), none, 0, 0⟩,
      ⟨none, .e (.store 7 (.t 6) (.t 78)), none, 0, 0⟩] false)
    .ret)))
    .skip))
  q_jettisonlaw11_feed_item_r1)

/-- (*jettison/jettisonlaw11.feed).item -/
def q_jettisonlaw11_feed_item : AFn := ⟨121,
  (.seq (.reg [⟨(some 6), .al [(.int .i64 0), (.str []), (.str []), (.sl .full []), (.int .i64 0), (.int .i64 0), (.sl .full [])], none, 0, 0⟩] false)
  (.seq (.reg [⟨(some 11), .p (.mv (.t 0)), none, 0, 0⟩,
    ⟨(some 12), .e (.call (.c (.fn (.func 66) [] [])) [(.t 11)]), none, 0, 0⟩,
    ⟨(some 7), .p (.mv (.t 12)), none, 0, 0⟩] false)
  (.seq (.reg [⟨(some 13), .p (.mv (.t 0)), none, 0, 0⟩,
    ⟨(some 14), .p (.nilchk (.t 13)), none, 0, 0⟩,
    ⟨(some 15), .p (.faddr 4 (.t 14)), none, 0, 0⟩,
    ⟨(some 16), .r (.load 1 false (.t 15)), none, 0, 0⟩,
    ⟨(some 17), .p (.bin .add .other (.t 16) (.c (.int .i64 1))), none, 0, 0⟩,
    ⟨(some 18), .p (.nilchk (.t 13)), none, 0, 0⟩,
    ⟨(some 19), .p (.faddr 4 (.t 18)), none, 0, 0⟩,
    ⟨none, .e (.store 1 (.t 19) (.t 17)), none, 0, 0⟩] false)
  (.seq (.reg [⟨(some 20), .p (.bslice 1 [(.c (.str [65])), (.c (.str [66])), (.c (.str [67]))]), none, 0, 0⟩,
    ⟨(some 21), .p (.mv (.t 7)), none, 0, 0⟩,
    ⟨(some 22), .p (.bin .rem .other (.t 21) (.c (.int .i64 3))), none, 0, 0⟩,
    ⟨(some 23), .p (.iaddrS 1 (.t 20) (.t 22)), none, 0, 0⟩,
    ⟨(some 24), .r (.load 1 false (.t 23)), none, 0, 0⟩,
    ⟨(some 8), .p (.mv (.t 24)), none, 0, 0⟩] false)
  (.seq (.reg [⟨(some 25), .p (.bslice 1 [(.c (.str [97])), (.c (.str [98])), (.c (.str [99])), (.c (.str [100])), (.c (.str [101])), (.c (.str [102])), (.c (.str [103])), (.c (.str [104])), (.c (.str [105])), (.c (.str [106])), (.c (.str [108])), (.c (.str [109]))]), none, 0, 0⟩,
    ⟨(some 26), .p (.mv (.t 0)), none, 0, 0⟩,
    ⟨(some 27), .p (.nilchk (.t 26)), none, 0, 0⟩,
    ⟨(some 28), .p (.faddr 4 (.t 27)), none, 0, 0⟩,
    ⟨(some 29), .r (.load 1 false (.t 28)), none, 0, 0⟩,
    ⟨(some 30), .p (.bin .rem .other (.t 29) (.c (.int .i64 12))), none, 0, 0⟩,
    ⟨(some 31), .p (.iaddrS 1 (.t 25) (.t 30)), none, 0, 0⟩,
    ⟨(some 32), .r (.load 1 false (.t 31)), none, 0, 0⟩,
    ⟨(some 9), .p (.mv (.t 32)), none, 0, 0⟩] false)
  (.seq (.reg [⟨(some 33), .p (.mv (.t 8)), none, 0, 0⟩,
    ⟨(some 34), .p (.mv (.t 9)), none, 0, 0⟩,
    ⟨(some 35), .p (.build [(.int .i64 0), (.str []), (.str []), (.sl .full []), (.int .i64 0), (.int .i64 0), (.sl .full [])] [(1, 1, (.t 33)), (2, 1, (.t 34))]), none, 0, 0⟩,
    ⟨(some 10), .al [(.int .i64 0), (.str []), (.str []), (.sl .full []), (.int .i64 0), (.int .i64 0), (.sl .full [])], none, 0, 0⟩,
    ⟨none, .e (.store 7 (.t 10) (.t 35)), none, 0, 0⟩] false)
  (.seq (.seq (.reg [⟨(some 36), .p (.mv (.t 2)), none, 0, 0⟩,
     ⟨(some 37), .p (.mv (.t 36)), none, 0, 0⟩,
     ⟨(some 38), .p (.mv (.t 7)), (some (37, true)), 0, 0⟩,
     ⟨(some 39), .p (.bin .rem .other (.t 38) (.c (.int .i64 8))), (some (37, true)), 0, 0⟩,
     ⟨(some 40), .p (.bin .eql .other (.t 39) (.c (.int .i64 7))), (some (37, true)), 0, 0⟩,
     ⟨(some 41), .p (.pick (.t 37) (.t 40) (.c (.bool false))), none, 0, 0⟩] false)
   (.cond (.t 41)
    (.seq (.reg [⟨(some 42), .p (.faddr 0 (.t 10)), none, 0, 0⟩,
      ⟨none, .e (.store 1 (.t 42) (.c (.int .i64 2))), none, 0, 0⟩] false)
    (.seq (.reg [⟨(some 43), .p (.mv (.t 0)), none, 0, 0⟩,
      ⟨(some 44), .p (.mv (.t 9)), none, 0, 0⟩,
      ⟨(some 45), .p (.mv (.t 8)), none, 0, 0⟩,
      ⟨(some 46), .e (.call (.c (.fn (.func 148) [] [])) [(.t 43), (.t 44), (.t 45)]), none, 0, 0⟩,
      ⟨(some 47), .p (.faddr 3 (.t 10)), none, 0, 0⟩,
      ⟨none, .e (.store 1 (.t 47) (.t 46)), none, 0, 0⟩] false)
    (.seq (.reg [⟨(some 48), .r (.load 7 true (.t 10)), none, 0, 0⟩,
      ⟨none, .e (.store 7 (.t 6) (.t 48)), none, 0, 0⟩] false)
    .ret)))
    .skip))
  q_jettisonlaw11_feed_item_r2))))))),
  [.c 6 7 true]⟩

def q_unicode_utf8_ValidString_b0 : ACode :=
  (.seq (.seq (.reg [⟨(some 42), .p (.mv (.t 0)), none, 0, 0⟩,
                ⟨(some 43), .p (.lenS (.t 42)), none, 0, 0⟩,
                ⟨(some 44), .p (.bin .gtr .other (.t 43) (.c (.int .i64 32))), none, 0, 0⟩,
                ⟨(some 45), .p (.mv (.t 44)), none, 0, 0⟩,
                ⟨(some 46), .p (.mv (.t 0)), (some (45, true)), 0, 0⟩,
                ⟨(some 47), .e (.call (.c (.fn (.func 149) [] [])) [(.t 46)]), (some (45, true)), 0, 0⟩,
                ⟨(some 48), .p (.mv (.t 0)), (some (45, true)), 1, 0⟩,
                ⟨(some 49), .p (.slcStr (.t 48) (some (.c (.int .i64 8))) none), (some (45, true)), 1, 0⟩,
                ⟨(some 50), .e (.call (.c (.fn (.func 149) [] [])) [(.t 49)]), (some (45, true)), 0, 0⟩,
                ⟨(some 51), .p (.bin .or .other (.t 47) (.t 50)), (some (45, true)), 0, 2⟩,
                ⟨(some 52), .p (.mv (.t 0)), (some (45, true)), 2, 0⟩,
                ⟨(some 53), .p (.slcStr (.t 52) (some (.c (.int .i64 16))) none), (some (45, true)), 2, 0⟩,
                ⟨(some 54), .e (.call (.c (.fn (.func 149) [] [])) [(.t 53)]), (some (45, true)), 0, 0⟩,
                ⟨(some 55), .p (.mv (.t 0)), (some (45, true)), 3, 0⟩,
                ⟨(some 56), .p (.slcStr (.t 55) (some (.c (.int .i64 24))) none), (some (45, true)), 3, 0⟩,
                ⟨(some 57), .e (.call (.c (.fn (.func 149) [] [])) [(.t 56)]), (some (45, true)), 0, 0⟩,
                ⟨(some 58), .p (.bin .or .other (.t 54) (.t 57)), (some (45, true)), 0, 0⟩,
                ⟨(some 59), .p (.bin .or .other (.t 51) (.t 58)), (some (45, true)), 0, 0⟩,
                ⟨(some 60), .p (.bin .and .other (.t 59) (.c (.int .u64 9259542123273814144))), (some (45, true)), 0, 0⟩,
                ⟨(some 61), .p (.bin .eql .other (.t 60) (.c (.int .u64 0))), (some (45, true)), 0, 0⟩,
                ⟨(some 62), .p (.pick (.t 45) (.t 61) (.c (.bool false))), none, 0, 0⟩] true)
              (.cond (.t 62)
               .skip
               (.exit 2)))
             (.block 3
              (.reg [⟨(some 63), .p (.mv (.t 0)), none, 0, 0⟩,
               ⟨(some 64), .p (.slcStr (.t 63) (some (.c (.int .i64 32))) none), none, 0, 0⟩,
               ⟨(some 0), .p (.mv (.t 64)), none, 0, 0⟩] false)))

def q_unicode_utf8_ValidString_b1 : ACode :=
  (.seq (.seq (.reg [⟨(some 7), .p (.mv (.t 0)), none, 0, 0⟩,
        ⟨(some 8), .p (.lenS (.t 7)), none, 0, 0⟩,
        ⟨(some 9), .p (.bin .gtr .other (.t 8) (.c (.int .i64 0))), none, 0, 0⟩] false)
      (.cond (.t 9)
       .skip
       (.exit 0)))
     (.block 1
      (.seq (.reg [⟨(some 10), .p (.mv (.t 0)), none, 0, 0⟩,
        ⟨(some 11), .p (.idxStr (.t 10) (.c (.int .i64 0))), none, 0, 0⟩,
        ⟨(some 3), .p (.mv (.t 11)), none, 0, 0⟩] false)
      (.seq (.seq (.reg [⟨(some 12), .p (.mv (.t 3)), none, 0, 0⟩,
         ⟨(some 13), .p (.bin .lss .other (.t 12) (.c (.int .u8 128))), none, 0, 0⟩] false)
       (.cond (.t 13)
        (.seq (.reg [⟨(some 14), .p (.mv (.t 0)), none, 0, 0⟩,
          ⟨(some 15), .p (.slcStr (.t 14) (some (.c (.int .i64 1))) none), none, 0, 0⟩,
          ⟨(some 0), .p (.mv (.t 15)), none, 0, 0⟩] false)
        (.seq (.seq (.reg [⟨(some 16), .p (.mv (.t 0)), none, 0, 0⟩,
           ⟨(some 17), .p (.lenS (.t 16)), none, 0, 0⟩,
           ⟨(some 18), .p (.bin .gtr .other (.t 17) (.c (.int .i64 8))), none, 0, 0⟩,
           ⟨(some 19), .p (.mv (.t 18)), none, 0, 0⟩,
           ⟨(some 20), .p (.mv (.t 0)), (some (19, true)), 0, 0⟩,
           ⟨(some 21), .e (.call (.c (.fn (.func 149) [] [])) [(.t 20)]), (some (19, true)), 0, 0⟩,
           ⟨(some 22), .p (.bin .and .other (.t 21) (.c (.int .u64 9259542123273814144))), (some (19, true)), 0, 0⟩,
           ⟨(some 23), .p (.bin .eql .other (.t 22) (.c (.int .u64 0))), (some (19, true)), 0, 0⟩,
           ⟨(some 24), .p (.pick (.t 19) (.t 23) (.c (.bool false))), none, 0, 0⟩] false)
         (.cond (.t 24)
          (.seq (.reg [⟨(some 25), .p (.mv (.t 0)), none, 0, 0⟩,
            ⟨(some 26), .p (.slcStr (.t 25) (some (.c (.int .i64 8))) none), none, 0, 0⟩,
            ⟨(some 0), .p (.mv (.t 26)), none, 0, 0⟩] false)
          (.seq (.reg [⟨(some 27), .p (.mv (.t 0)), none, 0, 0⟩,
            ⟨(some 28), .p (.lenS (.t 27)), none, 0, 0⟩,
            ⟨(some 29), .p (.bin .gtr .other (.t 28) (.c (.int .i64 16))), none, 0, 0⟩,
            ⟨(some 30), .p (.mv (.t 29)), none, 0, 0⟩,
            ⟨(some 31), .p (.mv (.t 0)), (some (30, true)), 0, 0⟩,
            ⟨(some 32), .e (.call (.c (.fn (.func 149) [] [])) [(.t 31)]), (some (30, true)), 0, 0⟩,
            ⟨(some 33), .p (.mv (.t 0)), (some (30, true)), 1, 0⟩,
            ⟨(some 34), .p (.slcStr (.t 33) (some (.c (.int .i64 8))) none), (some (30, true)), 1, 0⟩,
            ⟨(some 35), .e (.call (.c (.fn (.func 149) [] [])) [(.t 34)]), (some (30, true)), 0, 0⟩,
            ⟨(some 36), .p (.bin .or .other (.t 32) (.t 35)), (some (30, true)), 0, 0⟩,
            ⟨(some 37), .p (.bin .and .other (.t 36) (.c (.int .u64 9259542123273814144))), (some (30, true)), 0, 0⟩,
            ⟨(some 38), .p (.bin .eql .other (.t 37) (.c (.int .u64 0))), (some (30, true)), 0, 0⟩,
            ⟨(some 39), .p (.pick (.t 30) (.t 38) (.c (.bool false))), none, 0, 0⟩] true)
          (.cond (.t 39)
           (.seq (.reg [⟨(some 40), .p (.mv (.t 0)), none, 0, 0⟩,
             ⟨(some 41), .p (.slcStr (.t 40) (some (.c (.int .i64 16))) none), none, 0, 0⟩,
             ⟨(some 0), .p (.mv (.t 41)), none, 0, 0⟩] false)
           (.block 2
            (.loop q_unicode_utf8_ValidString_b0)))
           .skip)))
          .skip))
        (.exit 1)))
        .skip))
      (.seq (.reg [⟨(some 65), .p (.mv (.t 3)), none, 0, 0⟩,
        ⟨(some 66), .p (.iaddrA 256 1 (.c (.ept g0)) (.t 65)), none, 0, 0⟩,
        ⟨(some 67), .r (.load 1 false (.t 66)), none, 0, 0⟩,
        ⟨(some 4), .p (.mv (.t 67)), none, 0, 0⟩] false)
      (.seq (.reg [⟨(some 68), .p (.mv (.t 4)), none, 0, 0⟩,
        ⟨(some 69), .p (.bin .and .other (.t 68) (.c (.int .u8 7))), none, 0, 0⟩,
        ⟨(some 70), .p (.convInt .i64 (.t 69)), none, 0, 0⟩,
        ⟨(some 5), .p (.mv (.t 70)), none, 0, 0⟩] false)
      (.seq (.reg [⟨(some 71), .p (.mv (.t 4)), none, 0, 0⟩,
        ⟨(some 72), .p (.bin .shr .other (.t 71) (.c (.int .u64 4))), none, 0, 0⟩,
        ⟨(some 73), .p (.iaddrA 16 2 (.c (.ept g1)) (.t 72)), none, 0, 0⟩,
        ⟨(some 74), .r (.load 2 true (.t 73)), none, 0, 0⟩,
        ⟨(some 6), .al [(.int .u8 0), (.int .u8 0)], none, 0, 0⟩,
        ⟨none, .e (.store 2 (.t 6) (.t 74)), none, 0, 0⟩] false)
      (.seq (.reg [⟨(some 75), .p (.mv (.t 5)), none, 0, 0⟩] false)
      (.block 4
       (.seq (.reg [⟨(some 77), .p (.bin .eql .other (.t 75) (.c (.int .i64 2))), none, 0, 0⟩,
         ⟨(some 76), .p (.mv (.t 77)), none, 0, 0⟩] false)
       (.cond (.t 76)
        (.seq (.seq (.reg [⟨(some 78), .p (.mv (.t 0)), none, 0, 0⟩,
           ⟨(some 79), .p (.lenS (.t 78)), none, 0, 0⟩,
           ⟨(some 80), .p (.bin .lss .other (.t 79) (.c (.int .i64 2))), none, 0, 0⟩,
           ⟨(some 81), .p (.mv (.t 80)), none, 0, 0⟩,
           ⟨(some 82), .p (.mv (.t 0)), (some (81, false)), 0, 0⟩,
           ⟨(some 83), .p (.idxStr (.t 82) (.c (.int .i64 1))), (some (81, false)), 0, 0⟩,
           ⟨(some 84), .p (.faddr 0 (.t 6)), (some (81, false)), 0, 0⟩,
           ⟨(some 85), .r (.load 1 false (.t 84)), (some (81, false)), 0, 0⟩,
           ⟨(some 86), .p (.bin .lss .other (.t 83) (.t 85)), (some (81, false)), 0, 0⟩,
           ⟨(some 87), .p (.pick (.t 81) (.c (.bool true)) (.t 86)), none, 0, 0⟩,
           ⟨(some 88), .p (.mv (.t 87)), none, 0, 0⟩,
           ⟨(some 89), .p (.faddr 1 (.t 6)), (some (88, false)), 0, 0⟩,
           ⟨(some 90), .r (.load 1 false (.t 89)), (some (88, false)), 0, 0⟩,
           ⟨(some 91), .p (.mv (.t 0)), (some (88, false)), 0, 0⟩,
           ⟨(some 92), .p (.idxStr (.t 91) (.c (.int .i64 1))), (some (88, false)), 0, 0⟩,
           ⟨(some 93), .p (.bin .lss .other (.t 90) (.t 92)), (some (88, false)), 0, 0⟩,
           ⟨(some 94), .p (.pick (.t 88) (.c (.bool true)) (.t 93)), none, 0, 0⟩] true)
         (.cond (.t 94)
          (.seq (.reg [⟨(some 2), .p (.mv (.c (.bool false))), none, 0, 0⟩] false)
          .ret)
          .skip))
        (.reg [⟨(some 95), .p (.mv (.t 0)), none, 0, 0⟩,
         ⟨(some 96), .p (.slcStr (.t 95) (some (.c (.int .i64 2))) none), none, 0, 0⟩,
         ⟨(some 0), .p (.mv (.t 96)), none, 0, 0⟩] false))
        (.seq (.reg [⟨(some 98), .p (.bin .eql .other (.t 75) (.c (.int .i64 3))), none, 0, 0⟩,
          ⟨(some 97), .p (.mv (.t 98)), none, 0, 0⟩] false)
        (.cond (.t 97)
         (.seq (.seq (.reg [⟨(some 99), .p (.mv (.t 0)), none, 0, 0⟩,
            ⟨(some 100), .p (.lenS (.t 99)), none, 0, 0⟩,
            ⟨(some 101), .p (.bin .lss .other (.t 100) (.c (.int .i64 3))), none, 0, 0⟩,
            ⟨(some 102), .p (.mv (.t 101)), none, 0, 0⟩,
            ⟨(some 103), .p (.mv (.t 0)), (some (102, false)), 0, 0⟩,
            ⟨(some 104), .p (.idxStr (.t 103) (.c (.int .i64 1))), (some (102, false)), 0, 0⟩,
            ⟨(some 105), .p (.faddr 0 (.t 6)), (some (102, false)), 0, 0⟩,
            ⟨(some 106), .r (.load 1 false (.t 105)), (some (102, false)), 0, 0⟩,
            ⟨(some 107), .p (.bin .lss .other (.t 104) (.t 106)), (some (102, false)), 0, 0⟩,
            ⟨(some 108), .p (.pick (.t 102) (.c (.bool true)) (.t 107)), none, 0, 0⟩,
            ⟨(some 109), .p (.mv (.t 108)), none, 0, 0⟩,
            ⟨(some 110), .p (.faddr 1 (.t 6)), (some (109, false)), 0, 0⟩,
            ⟨(some 111), .r (.load 1 false (.t 110)), (some (109, false)), 0, 0⟩,
            ⟨(some 112), .p (.mv (.t 0)), (some (109, false)), 0, 0⟩,
            ⟨(some 113), .p (.idxStr (.t 112) (.c (.int .i64 1))), (some (109, false)), 0, 0⟩,
            ⟨(some 114), .p (.bin .lss .other (.t 111) (.t 113)), (some (109, false)), 0, 0⟩,
            ⟨(some 115), .p (.pick (.t 109) (.c (.bool true)) (.t 114)), none, 0, 0⟩,
            ⟨(some 116), .p (.mv (.t 115)), none, 0, 0⟩,
            ⟨(some 117), .p (.mv (.t 0)), (some (116, false)), 0, 0⟩,
            ⟨(some 118), .p (.idxStr (.t 117) (.c (.int .i64 2))), (some (116, false)), 0, 0⟩,
            ⟨(some 119), .p (.bin .lss .other (.t 118) (.c (.int .u8 128))), (some (116, false)), 0, 0⟩,
            ⟨(some 120), .p (.pick (.t 116) (.c (.bool true)) (.t 119)), none, 0, 0⟩,
            ⟨(some 121), .p (.mv (.t 120)), none, 0, 0⟩,
            ⟨(some 122), .p (.mv (.t 0)), (some (121, false)), 0, 0⟩,
            ⟨(some 123), .p (.idxStr (.t 122) (.c (.int .i64 2))), (some (121, false)), 0, 0⟩,
            ⟨(some 124), .p (.bin .lss .other (.c (.int .u8 191)) (.t 123)), (some (121, false)), 0, 0⟩,
            ⟨(some 125), .p (.pick (.t 121) (.c (.bool true)) (.t 124)), none, 0, 0⟩] true)
          (.cond (.t 125)
           (.seq (.reg [⟨(some 2), .p (.mv (.c (.bool false))), none, 0, 0⟩] false)
           .ret)
           .skip))
         (.reg [⟨(some 126), .p (.mv (.t 0)), none, 0, 0⟩,
          ⟨(some 127), .p (.slcStr (.t 126) (some (.c (.int .i64 3))) none), none, 0, 0⟩,
          ⟨(some 0), .p (.mv (.t 127)), none, 0, 0⟩] false))
         (.seq (.reg [⟨(some 129), .p (.bin .eql .other (.t 75) (.c (.int .i64 4))), none, 0, 0⟩,
           ⟨(some 128), .p (.mv (.t 129)), none, 0, 0⟩] false)
         (.cond (.t 128)
          (.seq (.seq (.reg [⟨(some 130), .p (.mv (.t 0)), none, 0, 0⟩,
             ⟨(some 131), .p (.lenS (.t 130)), none, 0, 0⟩,
             ⟨(some 132), .p (.bin .lss .other (.t 131) (.c (.int .i64 4))), none, 0, 0⟩,
             ⟨(some 133), .p (.mv (.t 132)), none, 0, 0⟩,
             ⟨(some 134), .p (.mv (.t 0)), (some (133, false)), 0, 0⟩,
             ⟨(some 135), .p (.idxStr (.t 134) (.c (.int .i64 1))), (some (133, false)), 0, 0⟩,
             ⟨(some 136), .p (.faddr 0 (.t 6)), (some (133, false)), 0, 0⟩,
             ⟨(some 137), .r (.load 1 false (.t 136)), (some (133, false)), 0, 0⟩,
             ⟨(some 138), .p (.bin .lss .other (.t 135) (.t 137)), (some (133, false)), 0, 0⟩,
             ⟨(some 139), .p (.pick (.t 133) (.c (.bool true)) (.t 138)), none, 0, 0⟩,
             ⟨(some 140), .p (.mv (.t 139)), none, 0, 0⟩,
             ⟨(some 141), .p (.faddr 1 (.t 6)), (some (140, false)), 0, 0⟩,
             ⟨(some 142), .r (.load 1 false (.t 141)), (some (140, false)), 0, 0⟩,
             ⟨(some 143), .p (.mv (.t 0)), (some (140, false)), 0, 0⟩,
             ⟨(some 144), .p (.idxStr (.t 143) (.c (.int .i64 1))), (some (140, false)), 0, 0⟩,
             ⟨(some 145), .p (.bin .lss .other (.t 142) (.t 144)), (some (140, false)), 0, 0⟩,
             ⟨(some 146), .p (.pick (.t 140) (.c (.bool true)) (.t 145)), none, 0, 0⟩,
             ⟨(some 147), .p (.mv (.t 146)), none, 0, 0⟩,
             ⟨(some 148), .p (.mv (.t 0)), (some (147, false)), 0, 0⟩,
             ⟨(some 149), .p (.idxStr (.t 148) (.c (.int .i64 2))), (some (147, false)), 0, 0⟩,
             ⟨(some 150), .p (.bin .lss .other (.t 149) (.c (.int .u8 128))), (some (147, false)), 0, 0⟩,
             ⟨(some 151), .p (.pick (.t 147) (.c (.bool true)) (.t 150)), none, 0, 0⟩,
             ⟨(some 152), .p (.mv (.t 151)), none, 0, 0⟩,
             ⟨(some 153), .p (.mv (.t 0)), (some (152, false)), 0, 0⟩,
             ⟨(some 154), .p (.idxStr (.t 153) (.c (.int .i64 2))), (some (152, false)), 0, 0⟩,
             ⟨(some 155), .p (.bin .lss .other (.c (.int .u8 191)) (.t 154)), (some (152, false)), 0, 0⟩,
             ⟨(some 156), .p (.pick (.t 152) (.c (.bool true)) (.t 155)), none, 0, 0⟩,
             ⟨(some 157), .p (.mv (.t 156)), none, 0, 0⟩,
             ⟨(some 158), .p (.mv (.t 0)), (some (157, false)), 0, 0⟩,
             ⟨(some 159), .p (.idxStr (.t 158) (.c (.int .i64 3))), (some (157, false)), 0, 0⟩,
             ⟨(some 160), .p (.bin .lss .other (.t 159) (.c (.int .u8 128))), (some (157, false)), 0, 0⟩,
             ⟨(some 161), .p (.pick (.t 157) (.c (.bool true)) (.t 160)), none, 0, 0⟩,
             ⟨(some 162), .p (.mv (.t 161)), none, 0, 0⟩,
             ⟨(some 163), .p (.mv (.t 0)), (some (162, false)), 0, 0⟩,
             ⟨(some 164), .p (.idxStr (.t 163) (.c (.int .i64 3))), (some (162, false)), 0, 0⟩,
             ⟨(some 165), .p (.bin .lss .other (.c (.int .u8 191)) (.t 164)), (some (162, false)), 0, 0⟩,
             ⟨(some 166), .p (.pick (.t 162) (.c (.bool true)) (.t 165)), none, 0, 0⟩] true)
           (.cond (.t 166)
            (.seq (.reg [⟨(some 2), .p (.mv (.c (.bool false))), none, 0, 0⟩] false)
            .ret)
            .skip))
          (.reg [⟨(some 167), .p (.mv (.t 0)), none, 0, 0⟩,
           ⟨(some 168), .p (.slcStr (.t 167) (some (.c (.int .i64 4))) none), none, 0, 0⟩,
           ⟨(some 0), .p (.mv (.t 168)), none, 0, 0⟩] false))
          (.seq (.reg [⟨(some 2), .p (.mv (.c (.bool false))), none, 0, 0⟩] false)
          .ret))))))))))))))))

/-- unicode/utf8.ValidString -/
def q_unicode_utf8_ValidString : AFn := ⟨169,
  (.seq (.reg [⟨(some 2), .p (.mv (.c (.bool false))), none, 0, 0⟩] false)
  (.seq (.block 0
    (.loop q_unicode_utf8_ValidString_b1))
  (.seq (.reg [⟨(some 2), .p (.mv (.c (.bool true))), none, 0, 0⟩] false)
  .ret))),
  [.t 2]⟩

/-- jettison/schema.letter -/
def q_schema_letter : AFn := ⟨25,
  (.seq (.reg [⟨(some 2), .p (.mv (.c (.bool false))), none, 0, 0⟩] false)
  (.seq (.reg [⟨(some 3), .p (.mv (.t 0)), none, 0, 0⟩,
    ⟨(some 4), .p (.bin .geq .other (.t 3) (.c (.int .i32 97))), none, 0, 0⟩,
    ⟨(some 5), .p (.mv (.t 4)), none, 0, 0⟩,
    ⟨(some 6), .p (.mv (.t 0)), (some (5, true)), 0, 0⟩,
    ⟨(some 7), .p (.bin .leq .other (.t 6) (.c (.int .i32 122))), (some (5, true)), 0, 0⟩,
    ⟨(some 8), .p (.pick (.t 5) (.t 7) (.c (.bool false))), none, 0, 0⟩,
    ⟨(some 9), .p (.mv (.t 8)), none, 0, 0⟩,
    ⟨(some 10), .p (.mv (.t 0)), (some (9, false)), 0, 0⟩,
    ⟨(some 11), .p (.bin .geq .other (.t 10) (.c (.int .i32 65))), (some (9, false)), 0, 0⟩,
    ⟨(some 12), .p (.mv (.t 11)), (some (9, false)), 0, 0⟩,
    ⟨(some 13), .p (.mv (.t 0)), (some (12, true)), 0, 0⟩,
    ⟨(some 14), .p (.bin .leq .other (.t 13) (.c (.int .i32 90))), (some (12, true)), 0, 0⟩,
    ⟨(some 15), .p (.pick (.t 12) (.t 14) (.c (.bool false))), (some (9, false)), 0, 0⟩,
    ⟨(some 16), .p (.pick (.t 9) (.c (.bool true)) (.t 15)), none, 0, 0⟩,
    ⟨(some 17), .p (.mv (.t 16)), none, 0, 0⟩,
    ⟨(some 18), .p (.mv (.t 0)), (some (17, false)), 0, 0⟩,
    ⟨(some 19), .p (.bin .eql .other (.t 18) (.c (.int .i32 95))), (some (17, false)), 0, 0⟩,
    ⟨(some 20), .p (.pick (.t 17) (.c (.bool true)) (.t 19)), none, 0, 0⟩,
    ⟨(some 21), .p (.mv (.t 20)), none, 0, 0⟩,
    ⟨(some 22), .p (.mv (.t 0)), (some (21, false)), 0, 0⟩,
    ⟨(some 23), .p (.bin .geq .other (.t 22) (.c (.int .i32 128))), (some (21, false)), 0, 0⟩,
    ⟨(some 24), .p (.pick (.t 21) (.c (.bool true)) (.t 23)), none, 0, 0⟩,
    ⟨(some 2), .p (.mv (.t 24)), none, 0, 0⟩] false)
  .ret)),
  [.t 2]⟩

/-- jettison/schema.digit -/
def q_schema_digit : AFn := ⟨9,
  (.seq (.reg [⟨(some 2), .p (.mv (.c (.bool false))), none, 0, 0⟩] false)
  (.seq (.reg [⟨(some 3), .p (.mv (.t 0)), none, 0, 0⟩,
    ⟨(some 4), .p (.bin .geq .other (.t 3) (.c (.int .i32 48))), none, 0, 0⟩,
    ⟨(some 5), .p (.mv (.t 4)), none, 0, 0⟩,
    ⟨(some 6), .p (.mv (.t 0)), (some (5, true)), 0, 0⟩,
    ⟨(some 7), .p (.bin .leq .other (.t 6) (.c (.int .i32 57))), (some (5, true)), 0, 0⟩,
    ⟨(some 8), .p (.pick (.t 5) (.t 7) (.c (.bool false))), none, 0, 0⟩,
    ⟨(some 2), .p (.mv (.t 8)), none, 0, 0⟩] false)
  .ret)),
  [.t 2]⟩

def q_slices_Index_string_string_b0 : ACode :=
  (.seq (.reg [⟨(some 9), .p (.bin .lss .other (.t 8) (.t 7)), none, 0, 0⟩] false)
     (.seq (.cond (.t 9)
       .skip
       (.exit 0))
     (.seq (.block 1
       (.seq (.reg [⟨(some 10), .p (.mv (.t 8)), none, 0, 0⟩,
         ⟨(some 5), .p (.mv (.t 10)), none, 0, 0⟩] false)
       (.seq (.reg [⟨(some 11), .p (.mv (.t 1)), none, 0, 0⟩,
         ⟨(some 12), .p (.mv (.t 0)), none, 0, 0⟩,
         ⟨(some 13), .p (.mv (.t 5)), none, 0, 0⟩,
         ⟨(some 14), .p (.iaddrS 1 (.t 12) (.t 13)), none, 0, 0⟩,
         ⟨(some 15), .r (.load 1 false (.t 14)), none, 0, 0⟩,
         ⟨(some 16), .p (.bin .eql .other (.t 11) (.t 15)), none, 0, 0⟩] false)
       (.cond (.t 16)
        (.seq (.reg [⟨(some 17), .p (.mv (.t 5)), none, 0, 0⟩,
          ⟨(some 4), .p (.mv (.t 17)), none, 0, 0⟩] false)
        .ret)
        .skip))))
     (.reg [⟨(some 18), .p (.bin .add .other (.t 8) (.c (.int .i64 1))), none, 0, 0⟩,
      ⟨(some 8), .p (.mv (.t 18)), none, 0, 0⟩] false))))

/-- slices.Index[[]string,string] -/
def q_slices_Index_string_string : AFn := ⟨19,
  (.seq (.reg [⟨(some 4), .p (.mv (.c (.int .i64 0))), none, 0, 0⟩] false)
  (.seq (.seq (.reg [⟨(some 6), .p (.mv (.t 0)), none, 0, 0⟩,
     ⟨(some 7), .p (.len (.t 6)), none, 0, 0⟩,
     ⟨(some 8), .p (.mv (.c (.int .i64 0))), none, 0, 0⟩] false)
   (.block 0
    (.loop q_slices_Index_string_string_b0)))
  (.seq (.reg [⟨(some 4), .p (.mv (.c (.int .i64 (-1)))), none, 0, 0⟩] false)
  .ret))),
  [.t 4]⟩

/-- jettison/pattern.every[jettison/pattern.Item] -/
def q_pattern_every_pattern_Item : AFn := ⟨9,
  (.seq (.reg [⟨(some 3), .e (.box (.t 1)), none, 0, 0⟩,
    ⟨(some 4), .p (.mv (.c (.bool false))), none, 0, 0⟩] false)
  (.seq (.reg [⟨(some 5), .p (.mv (.t 0)), none, 0, 0⟩,
    ⟨(some 6), .p (.mkF (.func 150) [] [(.t 3)]), none, 0, 0⟩,
    ⟨(some 7), .e (.call (.c (.fn (.func 74) [] [])) [(.t 5), (.t 6)]), none, 0, 0⟩,
    ⟨(some 8), .p (.un .not (.t 7)), none, 0, 0⟩,
    ⟨(some 4), .p (.mv (.t 8)), none, 0, 0⟩] false)
  .ret)),
  [.t 4]⟩

/-- (jettison/pattern.Item).right -/
def q_pattern_Item_right : AFn := ⟨92,
  (.seq (.reg [⟨(some 1), .e (.box (.t 0)), none, 0, 0⟩,
    ⟨(some 2), .p (.mv (.c (.bool false))), none, 0, 0⟩] false)
  (.seq (.reg [⟨(some 4), .p (.faddr 4 (.t 1)), none, 0, 0⟩,
    ⟨(some 5), .r (.load 1 false (.t 4)), none, 0, 0⟩,
    ⟨(some 6), .p (.bin .eql .other (.t 5) (.c (.int .i64 0))), none, 0, 0⟩,
    ⟨(some 7), .p (.mv (.t 6)), none, 0, 0⟩,
    ⟨(some 8), .p (.faddr 5 (.t 1)), (some (7, true)), 0, 0⟩,
    ⟨(some 9), .r (.load 1 false (.t 8)), (some (7, true)), 0, 0⟩,
    ⟨(some 10), .p (.bin .eql .other (.t 9) (.c (.int .i64 0))), (some (7, true)), 0, 0⟩,
    ⟨(some 11), .p (.pick (.t 7) (.t 10) (.c (.bool false))), none, 0, 0⟩,
    ⟨(some 3), .p (.mv (.t 11)), none, 0, 0⟩] false)
  (.seq (.seq (.reg [⟨(some 12), .p (.faddr 0 (.t 1)), none, 0, 0⟩,
     ⟨(some 13), .r (.load 1 false (.t 12)), none, 0, 0⟩] false)
   (.block 0
    (.seq (.reg [⟨(some 15), .p (.bin .eql .other (.t 13) (.c (.int .i64 3))), none, 0, 0⟩,
      ⟨(some 14), .p (.mv (.t 15)), none, 0, 0⟩] false)
    (.cond (.t 14)
     (.seq (.reg [⟨(some 16), .p (.faddr 6 (.t 1)), none, 0, 0⟩,
       ⟨(some 17), .r (.load 1 false (.t 16)), none, 0, 0⟩,
       ⟨(some 18), .p (.len (.t 17)), none, 0, 0⟩,
       ⟨(some 19), .p (.bin .gtr .other (.t 18) (.c (.int .i64 1))), none, 0, 0⟩,
       ⟨(some 20), .p (.mv (.t 19)), none, 0, 0⟩,
       ⟨(some 21), .p (.faddr 6 (.t 1)), (some (20, true)), 0, 0⟩,
       ⟨(some 22), .r (.load 1 false (.t 21)), (some (20, true)), 0, 0⟩,
       ⟨(some 23), .e (.call (.c (.fn (.func 151) [] [])) [(.t 22), (.c (.fn (.func 72) [] []))]), (some (20, true)), 0, 0⟩,
       ⟨(some 24), .p (.pick (.t 20) (.t 23) (.c (.bool false))), none, 0, 0⟩,
       ⟨(some 25), .p (.mv (.t 24)), none, 0, 0⟩,
       ⟨(some 26), .p (.faddr 1 (.t 1)), (some (25, true)), 0, 0⟩,
       ⟨(some 27), .r (.load 1 false (.t 26)), (some (25, true)), 0, 0⟩,
       ⟨(some 28), .p (.bin .eql .other (.t 27) (.c (.str []))), (some (25, true)), 0, 0⟩,
       ⟨(some 29), .p (.pick (.t 25) (.t 28) (.c (.bool false))), none, 0, 0⟩,
       ⟨(some 30), .p (.mv (.t 29)), none, 0, 0⟩,
       ⟨(some 31), .p (.faddr 2 (.t 1)), (some (30, true)), 0, 0⟩,
       ⟨(some 32), .r (.load 1 false (.t 31)), (some (30, true)), 0, 0⟩,
       ⟨(some 33), .p (.bin .eql .other (.t 32) (.c (.str []))), (some (30, true)), 0, 0⟩,
       ⟨(some 34), .p (.pick (.t 30) (.t 33) (.c (.bool false))), none, 0, 0⟩,
       ⟨(some 35), .p (.mv (.t 34)), none, 0, 0⟩,
       ⟨(some 36), .p (.faddr 3 (.t 1)), (some (35, true)), 0, 0⟩,
       ⟨(some 37), .r (.load 1 false (.t 36)), (some (35, true)), 0, 0⟩,
       ⟨(some 38), .p (.len (.t 37)), (some (35, true)), 0, 0⟩,
       ⟨(some 39), .p (.bin .eql .other (.t 38) (.c (.int .i64 0))), (some (35, true)), 0, 0⟩,
       ⟨(some 40), .p (.pick (.t 35) (.t 39) (.c (.bool false))), none, 0, 0⟩,
       ⟨(some 41), .p (.mv (.t 40)), none, 0, 0⟩,
       ⟨(some 42), .p (.mv (.t 3)), (some (41, true)), 0, 0⟩,
       ⟨(some 43), .p (.pick (.t 41) (.t 42) (.c (.bool false))), none, 0, 0⟩,
       ⟨(some 2), .p (.mv (.t 43)), none, 0, 0⟩] false)
     .ret)
     (.seq (.reg [⟨(some 45), .p (.bin .eql .other (.t 13) (.c (.int .i64 1))), none, 0, 0⟩,
       ⟨(some 44), .p (.mv (.t 45)), none, 0, 0⟩] false)
     (.cond (.t 44)
      (.reg [⟨(some 46), .p (.faddr 4 (.t 1)), none, 0, 0⟩,
       ⟨(some 47), .r (.load 1 false (.t 46)), none, 0, 0⟩,
       ⟨(some 48), .p (.bin .geq .other (.t 47) (.c (.int .i64 1))), none, 0, 0⟩,
       ⟨(some 49), .p (.mv (.t 48)), none, 0, 0⟩,
       ⟨(some 50), .p (.faddr 4 (.t 1)), (some (49, true)), 0, 0⟩,
       ⟨(some 51), .r (.load 1 false (.t 50)), (some (49, true)), 0, 0⟩,
       ⟨(some 52), .p (.faddr 5 (.t 1)), (some (49, true)), 0, 0⟩,
       ⟨(some 53), .r (.load 1 false (.t 52)), (some (49, true)), 0, 0⟩,
       ⟨(some 54), .p (.bin .leq .other (.t 51) (.t 53)), (some (49, true)), 0, 0⟩,
       ⟨(some 55), .p (.pick (.t 49) (.t 54) (.c (.bool false))), none, 0, 0⟩,
       ⟨(some 56), .p (.mv (.t 55)), none, 0, 0⟩,
       ⟨(some 57), .p (.faddr 5 (.t 1)), (some (56, true)), 0, 0⟩,
       ⟨(some 58), .r (.load 1 false (.t 57)), (some (56, true)), 0, 0⟩,
       ⟨(some 59), .p (.bin .leq .other (.t 58) (.c (.int .i64 4))), (some (56, true)), 0, 0⟩,
       ⟨(some 60), .p (.pick (.t 56) (.t 59) (.c (.bool false))), none, 0, 0⟩,
       ⟨(some 3), .p (.mv (.t 60)), none, 0, 0⟩] false)
      (.seq (.seq (.reg [⟨(some 62), .p (.bin .eql .other (.t 13) (.c (.int .i64 0))), none, 0, 0⟩,
         ⟨(some 61), .p (.mv (.t 62)), none, 0, 0⟩] false)
       (.cond (.t 61)
        .skip
        (.reg [⟨(some 63), .p (.bin .eql .other (.t 13) (.c (.int .i64 2))), none, 0, 0⟩,
         ⟨(some 61), .p (.mv (.t 63)), none, 0, 0⟩] false)))
      (.cond (.t 61)
       .skip
       (.seq (.reg [⟨(some 2), .p (.mv (.c (.bool false))), none, 0, 0⟩] false)
       .ret)))))))))
  (.seq (.reg [⟨(some 64), .p (.mv (.t 3)), none, 0, 0⟩,
    ⟨(some 65), .p (.mv (.t 64)), none, 0, 0⟩,
    ⟨(some 66), .p (.faddr 1 (.t 1)), (some (65, true)), 0, 0⟩,
    ⟨(some 67), .r (.load 1 false (.t 66)), (some (65, true)), 0, 0⟩,
    ⟨(some 68), .e (.call (.c (.fn (.func 70) [] [])) [(.t 67)]), (some (65, true)), 0, 0⟩,
    ⟨(some 69), .p (.pick (.t 65) (.t 68) (.c (.bool false))), none, 0, 0⟩,
    ⟨(some 70), .p (.mv (.t 69)), none, 0, 0⟩,
    ⟨(some 71), .p (.faddr 2 (.t 1)), (some (70, true)), 0, 0⟩,
    ⟨(some 72), .r (.load 1 false (.t 71)), (some (70, true)), 0, 0⟩,
    ⟨(some 73), .e (.call (.c (.fn (.func 70) [] [])) [(.t 72)]), (some (70, true)), 0, 0⟩,
    ⟨(some 74), .p (.pick (.t 70) (.t 73) (.c (.bool false))), none, 0, 0⟩,
    ⟨(some 75), .p (.mv (.t 74)), none, 0, 0⟩,
    ⟨(some 76), .p (.faddr 3 (.t 1)), (some (75, true)), 0, 0⟩,
    ⟨(some 77), .r (.load 1 false (.t 76)), (some (75, true)), 0, 0⟩,
    ⟨(some 78), .p (.len (.t 77)), (some (75, true)), 0, 0⟩,
    ⟨(some 79), .p (.bin .leq .other (.t 78) (.c (.int .i64 1))), (some (75, true)), 0, 0⟩,
    ⟨(some 80), .p (.pick (.t 75) (.t 79) (.c (.bool false))), none, 0, 0⟩,
    ⟨(some 81), .p (.mv (.t 80)), none, 0, 0⟩,
    ⟨(some 82), .p (.faddr 3 (.t 1)), (some (81, true)), 0, 0⟩,
    ⟨(some 83), .r (.load 1 false (.t 82)), (some (81, true)), 0, 0⟩,
    ⟨(some 84), .e (.call (.c (.fn (.func 152) [] [])) [(.t 83), (.c (.fn (.func 153) [] []))]), (some (81, true)), 0, 0⟩,
    ⟨(some 85), .p (.pick (.t 81) (.t 84) (.c (.bool false))), none, 0, 0⟩,
    ⟨(some 86), .p (.mv (.t 85)), none, 0, 0⟩,
    ⟨(some 87), .p (.faddr 6 (.t 1)), (some (86, true)), 0, 0⟩,
    ⟨(some 88), .r (.load 1 false (.t 87)), (some (86, true)), 0, 0⟩,
    ⟨(some 89), .p (.len (.t 88)), (some (86, true)), 0, 0⟩,
    ⟨(some 90), .p (.bin .eql .other (.t 89) (.c (.int .i64 0))), (some (86, true)), 0, 0⟩,
    ⟨(some 91), .p (.pick (.t 86) (.t 90) (.c (.bool false))), none, 0, 0⟩,
    ⟨(some 2), .p (.mv (.t 91)), none, 0, 0⟩] false)
  .ret)))),
  [.t 2]⟩

def q_slices_IndexFunc_pattern_Item_pattern_Item_b0 : ACode :=
  (.seq (.reg [⟨(some 9), .p (.bin .lss .other (.t 8) (.t 7)), none, 0, 0⟩] false)
     (.seq (.cond (.t 9)
       .skip
       (.exit 0))
     (.seq (.block 1
       (.seq (.reg [⟨(some 10), .p (.mv (.t 8)), none, 0, 0⟩,
         ⟨(some 5), .p (.mv (.t 10)), none, 0, 0⟩] false)
       (.seq (.reg [⟨(some 11), .p (.mv (.t 1)), none, 0, 0⟩,
         ⟨(some 12), .p (.mv (.t 0)), none, 0, 0⟩,
         ⟨(some 13), .p (.mv (.t 5)), none, 0, 0⟩,
         ⟨(some 14), .p (.iaddrS 7 (.t 12) (.t 13)), none, 0, 0⟩,
         ⟨(some 15), .r (.load 7 true (.t 14)), none, 0, 0⟩,
         ⟨(some 16), .e (.call (.t 11) [(.t 15)]), none, 0, 0⟩] false)
       (.cond (.t 16)
        (.seq (.reg [⟨(some 17), .p (.mv (.t 5)), none, 0, 0⟩,
          ⟨(some 4), .p (.mv (.t 17)), none, 0, 0⟩] false)
        .ret)
        .skip))))
     (.reg [⟨(some 18), .p (.bin .add .other (.t 8) (.c (.int .i64 1))), none, 0, 0⟩,
      ⟨(some 8), .p (.mv (.t 18)), none, 0, 0⟩] false))))

/-- slices.IndexFunc[[]jettison/pattern.Item,jettison/pattern.Item] -/
def q_slices_IndexFunc_pattern_Item_pattern_Item : AFn := ⟨19,
  (.seq (.reg [⟨(some 4), .p (.mv (.c (.int .i64 0))), none, 0, 0⟩] false)
  (.seq (.seq (.reg [⟨(some 6), .p (.mv (.t 0)), none, 0, 0⟩,
     ⟨(some 7), .p (.len (.t 6)), none, 0, 0⟩,
     ⟨(some 8), .p (.mv (.c (.int .i64 0))), none, 0, 0⟩] false)
   (.block 0
    (.loop q_slices_IndexFunc_pattern_Item_pattern_Item_b0)))
  (.seq (.reg [⟨(some 4), .p (.mv (.c (.int .i64 (-1)))), none, 0, 0⟩] false)
  .ret))),
  [.t 4]⟩

def q_slices_IndexFunc_pattern_Item_pattern_Itemx_b0 : ACode :=
  (.seq (.reg [⟨(some 9), .p (.bin .lss .other (.t 8) (.t 7)), none, 0, 0⟩] false)
     (.seq (.cond (.t 9)
       .skip
       (.exit 0))
     (.seq (.block 1
       (.seq (.reg [⟨(some 10), .p (.mv (.t 8)), none, 0, 0⟩,
         ⟨(some 5), .p (.mv (.t 10)), none, 0, 0⟩] false)
       (.seq (.reg [⟨(some 11), .p (.mv (.t 1)), none, 0, 0⟩,
         ⟨(some 12), .p (.mv (.t 0)), none, 0, 0⟩,
         ⟨(some 13), .p (.mv (.t 5)), none, 0, 0⟩,
         ⟨(some 14), .p (.iaddrS 1 (.t 12) (.t 13)), none, 0, 0⟩,
         ⟨(some 15), .r (.load 1 false (.t 14)), none, 0, 0⟩,
         ⟨(some 16), .e (.call (.t 11) [(.t 15)]), none, 0, 0⟩] false)
       (.cond (.t 16)
        (.seq (.reg [⟨(some 17), .p (.mv (.t 5)), none, 0, 0⟩,
          ⟨(some 4), .p (.mv (.t 17)), none, 0, 0⟩] false)
        .ret)
        .skip))))
     (.reg [⟨(some 18), .p (.bin .add .other (.t 8) (.c (.int .i64 1))), none, 0, 0⟩,
      ⟨(some 8), .p (.mv (.t 18)), none, 0, 0⟩] false))))

/-- slices.IndexFunc[[][]jettison/pattern.Item,[]jettison/pattern.Item] -/
def q_slices_IndexFunc_pattern_Item_pattern_Itemx : AFn := ⟨19,
  (.seq (.reg [⟨(some 4), .p (.mv (.c (.int .i64 0))), none, 0, 0⟩] false)
  (.seq (.seq (.reg [⟨(some 6), .p (.mv (.t 0)), none, 0, 0⟩,
     ⟨(some 7), .p (.len (.t 6)), none, 0, 0⟩,
     ⟨(some 8), .p (.mv (.c (.int .i64 0))), none, 0, 0⟩] false)
   (.block 0
    (.loop q_slices_IndexFunc_pattern_Item_pattern_Itemx_b0)))
  (.seq (.reg [⟨(some 4), .p (.mv (.c (.int .i64 (-1)))), none, 0, 0⟩] false)
  .ret))),
  [.t 4]⟩

/-- jettison/schema.Field -/
def q_schema_Field : AFn := ⟨9,
  (.seq (.reg [⟨(some 2), .e (.box (.t 0)), none, 0, 0⟩,
    ⟨(some 4), .p (.mv (.c (.int .i64 0))), none, 0, 0⟩] false)
  (.seq (.reg [⟨(some 5), .p (.faddr 1 (.t 2)), none, 0, 0⟩,
    ⟨(some 6), .r (.load 1 false (.t 5)), none, 0, 0⟩,
    ⟨(some 7), .p (.mv (.t 1)), none, 0, 0⟩,
    ⟨(some 8), .e (.call (.c (.fn (.func 114) [] [])) [(.t 6), (.t 7)]), none, 0, 0⟩,
    ⟨(some 4), .p (.mv (.t 8)), none, 0, 0⟩] false)
  .ret)),
  [.t 4]⟩

/-- jettison/expr.Type -/
def q_expr_Type : AFn := ⟨8,
  (.seq (.reg [⟨(some 1), .e (.box (.t 0)), none, 0, 0⟩,
    ⟨(some 2), .p (.mv (.c (.int .i64 0))), none, 0, 0⟩] false)
  (.seq (.seq (.reg [⟨(some 3), .r (.load 6 true (.t 1)), none, 0, 0⟩,
     ⟨(some 4), .e (.call (.c (.fn (.func 153) [] [])) [(.t 3)]), none, 0, 0⟩,
     ⟨(some 5), .p (.un .not (.t 4)), none, 0, 0⟩] false)
   (.cond (.t 5)
    (.seq (.reg [⟨(some 2), .p (.mv (.c (.int .i64 0))), none, 0, 0⟩] false)
    .ret)
    .skip))
  (.seq (.reg [⟨(some 6), .r (.load 6 true (.t 1)), none, 0, 0⟩,
    ⟨(some 7), .e (.call (.c (.fn (.func 154) [] [])) [(.t 6)]), none, 0, 0⟩,
    ⟨(some 2), .p (.mv (.t 7)), none, 0, 0⟩] false)
  .ret))),
  [.t 2]⟩

/-- (*jettison/check.checker).refs -/
def q_check_checker_refs : AFn := ⟨36,
  (.seq (.reg [⟨(some 4), .e (.box (.t 0)), none, 0, 0⟩,
    ⟨(some 5), .e (.box (.t 1)), none, 0, 0⟩,
    ⟨(some 6), .e (.box (.t 2)), none, 0, 0⟩,
    ⟨(some 7), .e (.box (.t 3)), none, 0, 0⟩,
    ⟨(some 8), .p (.mv (.c (.bool false))), none, 0, 0⟩] false)
  (.seq (.seq (.reg [⟨(some 10), .p (.faddr 0 (.t 5)), none, 0, 0⟩,
     ⟨(some 11), .r (.load 1 false (.t 10)), none, 0, 0⟩,
     ⟨(some 12), .p (.bin .neq .other (.t 11) (.c (.int .i64 1))), none, 0, 0⟩] false)
   (.cond (.t 12)
    (.seq (.reg [⟨(some 13), .p (.faddr 5 (.t 5)), none, 0, 0⟩,
      ⟨(some 14), .r (.load 1 false (.t 13)), none, 0, 0⟩,
      ⟨(some 15), .p (.mkF (.func 156) [] [(.t 4), (.t 6), (.t 7)]), none, 0, 0⟩,
      ⟨(some 16), .e (.call (.c (.fn (.func 155) [] [])) [(.t 14), (.t 15)]), none, 0, 0⟩,
      ⟨(some 17), .p (.un .not (.t 16)), none, 0, 0⟩,
      ⟨(some 8), .p (.mv (.t 17)), none, 0, 0⟩] false)
    .ret)
    .skip))
  (.seq (.reg [⟨(some 18), .r (.load 1 false (.t 4)), none, 0, 0⟩,
    ⟨(some 19), .p (.nilchk (.t 18)), none, 0, 0⟩,
    ⟨(some 20), .p (.faddr 2 (.t 19)), none, 0, 0⟩,
    ⟨(some 21), .r (.load 1 false (.t 20)), none, 0, 0⟩,
    ⟨(some 22), .p (.faddr 3 (.t 5)), none, 0, 0⟩,
    ⟨(some 23), .r (.load 1 false (.t 22)), none, 0, 0⟩,
    ⟨(some 24), .r (.lookup .s (.sl .full []) false (.t 21) (.t 23)), none, 0, 0⟩,
    ⟨(some 9), .p (.mv (.t 24)), none, 0, 0⟩] true)
  (.seq (.seq (.reg [⟨(some 25), .p (.faddr 3 (.t 5)), none, 0, 0⟩,
     ⟨(some 26), .r (.load 1 false (.t 25)), none, 0, 0⟩,
     ⟨(some 27), .r (.load 1 false (.t 6)), none, 0, 0⟩,
     ⟨(some 28), .p (.bin .eql .other (.t 26) (.t 27)), none, 0, 0⟩] false)
   (.cond (.t 28)
    (.reg [⟨(some 29), .r (.load 1 false (.t 7)), none, 0, 0⟩,
     ⟨(some 30), .p (.bslice 1 [(.t 29)]), none, 0, 0⟩,
     ⟨(some 9), .p (.mv (.t 30)), none, 0, 0⟩] false)
    .skip))
  (.seq (.reg [⟨(some 31), .r (.load 1 false (.t 4)), none, 0, 0⟩,
    ⟨(some 32), .p (.mv (.t 9)), none, 0, 0⟩,
    ⟨(some 33), .p (.faddr 4 (.t 5)), none, 0, 0⟩,
    ⟨(some 34), .r (.load 1 false (.t 33)), none, 0, 0⟩,
    ⟨(some 35), .e (.call (.c (.fn (.func 157) [] [])) [(.t 31), (.t 32), (.t 34)]), none, 0, 0⟩,
    ⟨(some 8), .p (.mv (.t 35)), none, 0, 0⟩] false)
  .ret))))),
  [.t 8]⟩

/-- strings.TrimLeft -/
def q_strings_TrimLeft : AFn := ⟨37,
  (.seq (.reg [⟨(some 4), .p (.mv (.c (.str []))), none, 0, 0⟩] false)
  (.seq (.seq (.reg [⟨(some 7), .p (.mv (.t 0)), none, 0, 0⟩,
     ⟨(some 8), .p (.bin .eql .other (.t 7) (.c (.str []))), none, 0, 0⟩,
     ⟨(some 9), .p (.mv (.t 8)), none, 0, 0⟩,
     ⟨(some 10), .p (.mv (.t 1)), (some (9, false)), 0, 0⟩,
     ⟨(some 11), .p (.bin .eql .other (.t 10) (.c (.str []))), (some (9, false)), 0, 0⟩,
     ⟨(some 12), .p (.pick (.t 9) (.c (.bool true)) (.t 11)), none, 0, 0⟩] false)
   (.cond (.t 12)
    (.seq (.reg [⟨(some 13), .p (.mv (.t 0)), none, 0, 0⟩,
      ⟨(some 4), .p (.mv (.t 13)), none, 0, 0⟩] false)
    .ret)
    .skip))
  (.seq (.seq (.reg [⟨(some 14), .p (.mv (.t 1)), none, 0, 0⟩,
     ⟨(some 15), .p (.lenS (.t 14)), none, 0, 0⟩,
     ⟨(some 16), .p (.bin .eql .other (.t 15) (.c (.int .i64 1))), none, 0, 0⟩,
     ⟨(some 17), .p (.mv (.t 16)), none, 0, 0⟩,
     ⟨(some 18), .p (.mv (.t 1)), (some (17, true)), 0, 0⟩,
     ⟨(some 19), .p (.idxStr (.t 18) (.c (.int .i64 0))), (some (17, true)), 0, 0⟩,
     ⟨(some 20), .p (.bin .lss .other (.t 19) (.c (.int .u8 128))), (some (17, true)), 0, 0⟩,
     ⟨(some 21), .p (.pick (.t 17) (.t 20) (.c (.bool false))), none, 0, 0⟩] false)
   (.cond (.t 21)
    (.seq (.reg [⟨(some 22), .p (.mv (.t 0)), none, 0, 0⟩,
      ⟨(some 23), .p (.mv (.t 1)), none, 0, 0⟩,
      ⟨(some 24), .p (.idxStr (.t 23) (.c (.int .i64 0))), none, 0, 0⟩,
      ⟨(some 25), .e (.call (.c (.fn (.func 158) [] [])) [(.t 22), (.t 24)]), none, 0, 0⟩,
      ⟨(some 4), .p (.mv (.t 25)), none, 0, 0⟩] false)
    .ret)
    .skip))
  (.seq (.seq (.reg [⟨(some 27), .p (.mv (.t 1)), none, 0, 0⟩,
     ⟨(some 28), .e (.call (.c (.fn (.func 159) [] [])) [(.t 27)]), none, 0, 0⟩,
     ⟨(some 26), .p (.mv (.t 28)), none, 0, 0⟩,
     ⟨(some 29), .p (.ext 0 (.t 26)), none, 0, 0⟩,
     ⟨(some 30), .p (.ext 1 (.t 26)), none, 0, 0⟩,
     ⟨(some 5), .al [(.bool false), (.bool false), (.bool false), (.bool false), (.bool false), (.bool false), (.bool false), (.bool false), (.bool false), (.bool false), (.bool false), (.bool false), (.bool false), (.bool false), (.bool false), (.bool false), (.bool false), (.bool false), (.bool false), (.bool false), (.bool false), (.bool false), (.bool false), (.bool false), (.bool false), (.bool false), (.bool false), (.bool false), (.bool false), (.bool false), (.bool false), (.bool false), (.bool false), (.bool false), (.bool false), (.bool false), (.bool false), (.bool false), (.bool false), (.bool false), (.bool false), (.bool false), (.bool false), (.bool false), (.bool false), (.bool false), (.bool false), (.bool false), (.bool false), (.bool false), (.bool false), (.bool false), (.bool false), (.bool false), (.bool false), (.bool false), (.bool false), (.bool false), (.bool false), (.bool false), (.bool false), (.bool false), (.bool false), (.bool false), (.bool false), (.bool false), (.bool false), (.bool false), (.bool false), (.bool false), (.bool false), (.bool false), (.bool false), (.bool false), (.bool false), (.bool false), (.bool false), (.bool false), (.bool false), (.bool false), (.bool false), (.bool false), (.bool false), (.bool false), (.bool false), (.bool false), (.bool false), (.bool false), (.bool false), (.bool false), (.bool false), (.bool false), (.bool false), (.bool false), (.bool false), (.bool false), (.bool false), (.bool false), (.bool false), (.bool false), (.bool false), (.bool false), (.bool false), (.bool false), (.bool false), (.bool false), (.bool false), (.bool false), (.bool false), (.bool false), (.bool false), (.bool false), (.bool false), (.bool false), (.bool false), (.bool false), (.bool false), (.bool false), (.bool false), (.bool false), (.bool false), (.bool false), (.bool false), (.bool false), (.bool false), (.bool false), (.bool false), (.bool false), (.bool false), (.bool false), (.bool false), (.bool false), (.bool false), (.bool false), (.bool false), (.bool false), (.bool false), (.bool false), (.bool false), (.bool false), (.bool false), (.bool false), (.bool false), (.bool false), (.bool false), (.bool false), (.bool false), (.bool false), (.bool false), (.bool false), (.bool false), (.bool false), (.bool false), (.bool false), (.bool false), (.bool false), (.bool false), (.bool false), (.bool false), (.bool false), (.bool false), (.bool false), (.bool false), (.bool false), (.bool false), (.bool false), (.bool false), (.bool false), (.bool false), (.bool false), (.bool false), (.bool false), (.bool false), (.bool false), (.bool false), (.bool false), (.bool false), (.bool false), (.bool false), (.bool false), (.bool false), (.bool false), (.bool false), (.bool false), (.bool false), (.bool false), (.bool false), (.bool false), (.bool false), (.bool false), (.bool false), (.bool false), (.bool false), (.bool false), (.bool false), (.bool false), (.bool false), (.bool false), (.bool false), (.bool false), (.bool false), (.bool false), (.bool false), (.bool false), (.bool false), (.bool false), (.bool false), (.bool false), (.bool false), (.bool false), (.bool false), (.bool false), (.bool false), (.bool false), (.bool false), (.bool false), (.bool false), (.bool false), (.bool false), (.bool false), (.bool false), (.bool false), (.bool false), (.bool false), (.bool false), (.bool false), (.bool false), (.bool false), (.bool false), (.bool false), (.bool false), (.bool false), (.bool false), (.bool false), (.bool false), (.bool false), (.bool false), (.bool false), (.bool false), (.bool false), (.bool false), (.bool false), (.bool false), (.bool false), (.bool false), (.bool false), (.bool false), (.bool false), (.bool false), (.bool false), (.bool false), (.bool false), (.bool false), (.bool false), (.bool false), (.bool false)], none, 0, 0⟩,
     ⟨none, .e (.store 256 (.t 5) (.t 29)), none, 0, 0⟩,
     ⟨(some 6), .p (.mv (.t 30)), none, 0, 0⟩] false)
   (.seq (.reg [⟨(some 31), .p (.mv (.t 6)), none, 0, 0⟩] false)
   (.cond (.t 31)
    (.seq (.reg [⟨(some 32), .p (.mv (.t 0)), none, 0, 0⟩,
      ⟨(some 33), .e (.call (.c (.fn (.func 160) [] [])) [(.t 32), (.t 5)]), none, 0, 0⟩,
      ⟨(some 4), .p (.mv (.t 33)), none, 0, 0⟩] false)
    .ret)
    .skip)))
  (.seq (.reg [⟨(some 34), .p (.mv (.t 0)), none, 0, 0⟩,
    ⟨(some 35), .p (.mv (.t 1)), none, 0, 0⟩,
    ⟨(some 36), .e (.call (.c (.fn (.func 161) [] [])) [(.t 34), (.t 35)]), none, 0, 0⟩,
    ⟨(some 4), .p (.mv (.t 36)), none, 0, 0⟩] false)
  .ret))))),
  [.t 4]⟩

/-- jettison/lex.next -/
def q_lex_next : AFn := ⟨24,
  (.seq (.reg [⟨(some 2), .al [(.int .i64 0), (.str []), (.int .i64 0), (.int .i64 0)], none, 0, 0⟩,
    ⟨(some 3), .p (.mv (.c (.bool false))), none, 0, 0⟩] false)
  (.seq (.block 0
    (.seq (.reg [⟨(some 5), .p (.mv (.t 0)), none, 0, 0⟩,
      ⟨(some 6), .e (.call (.c (.fn (.func 162) [] [])) [(.t 5), (.c (.fn (.func 163) [] []))]), none, 0, 0⟩,
      ⟨(some 7), .p (.bin .gtr .other (.t 6) (.c (.int .i64 0))), none, 0, 0⟩,
      ⟨(some 4), .p (.mv (.t 7)), none, 0, 0⟩] false)
    (.cond (.t 4)
     (.seq (.reg [⟨(some 8), .p (.mv (.t 0)), none, 0, 0⟩,
       ⟨(some 9), .e (.call (.c (.fn (.func 164) [] [])) [(.t 8)]), none, 0, 0⟩,
       ⟨(some 10), .p (.ext 0 (.t 9)), none, 0, 0⟩,
       ⟨(some 11), .p (.ext 1 (.t 9)), none, 0, 0⟩,
       ⟨none, .e (.store 4 (.t 2) (.t 10)), none, 0, 0⟩,
       ⟨(some 3), .p (.mv (.t 11)), none, 0, 0⟩] false)
     .ret)
     (.seq (.reg [⟨(some 13), .p (.mv (.t 0)), none, 0, 0⟩,
       ⟨(some 14), .e (.call (.c (.fn (.func 162) [] [])) [(.t 13), (.c (.fn (.func 165) [] []))]), none, 0, 0⟩,
       ⟨(some 15), .p (.bin .gtr .other (.t 14) (.c (.int .i64 0))), none, 0, 0⟩,
       ⟨(some 12), .p (.mv (.t 15)), none, 0, 0⟩] false)
     (.cond (.t 12)
      (.seq (.reg [⟨(some 16), .p (.mv (.t 0)), none, 0, 0⟩,
        ⟨(some 17), .e (.call (.c (.fn (.func 166) [] [])) [(.t 16)]), none, 0, 0⟩,
        ⟨(some 18), .p (.ext 0 (.t 17)), none, 0, 0⟩,
        ⟨(some 19), .p (.ext 1 (.t 17)), none, 0, 0⟩,
        ⟨none, .e (.store 4 (.t 2) (.t 18)), none, 0, 0⟩,
        ⟨(some 3), .p (.mv (.t 19)), none, 0, 0⟩] false)
      .ret)
      .skip)))))
  (.seq (.reg [⟨(some 20), .p (.mv (.t 0)), none, 0, 0⟩,
    ⟨(some 21), .e (.call (.c (.fn (.func 167) [] [])) [(.t 20)]), none, 0, 0⟩,
    ⟨(some 22), .p (.ext 0 (.t 21)), none, 0, 0⟩,
    ⟨(some 23), .p (.ext 1 (.t 21)), none, 0, 0⟩,
    ⟨none, .e (.store 4 (.t 2) (.t 22)), none, 0, 0⟩,
    ⟨(some 3), .p (.mv (.t 23)), none, 0, 0⟩] false)
  .ret))),
  [.c 2 4 true, .t 3]⟩

/-- (*jettison/parse.parser).fail -/
def q_parse_parser_fail : AFn := ⟨26,
  (.seq (.reg [⟨(some 5), .p (.mv (.t 0)), none, 0, 0⟩,
    ⟨(some 6), .p (.nilchk (.t 5)), none, 0, 0⟩,
    ⟨(some 7), .p (.faddr 1 (.t 6)), none, 0, 0⟩,
    ⟨(some 8), .r (.load 1 false (.t 7)), none, 0, 0⟩,
    ⟨(some 4), .p (.mv (.t 8)), none, 0, 0⟩] false)
  (.seq (.seq (.reg [⟨(some 9), .p (.mv (.t 0)), none, 0, 0⟩,
     ⟨(some 10), .p (.nilchk (.t 9)), none, 0, 0⟩,
     ⟨(some 11), .p (.faddr 0 (.t 10)), none, 0, 0⟩,
     ⟨(some 12), .r (.load 1 false (.t 11)), none, 0, 0⟩,
     ⟨(some 13), .p (.len (.t 12)), none, 0, 0⟩,
     ⟨(some 14), .p (.bin .gtr .other (.t 13) (.c (.int .i64 0))), none, 0, 0⟩] false)
   (.cond (.t 14)
    (.reg [⟨(some 15), .p (.mv (.t 0)), none, 0, 0⟩,
     ⟨(some 16), .p (.nilchk (.t 15)), none, 0, 0⟩,
     ⟨(some 17), .p (.faddr 0 (.t 16)), none, 0, 0⟩,
     ⟨(some 18), .r (.load 1 false (.t 17)), none, 0, 0⟩,
     ⟨(some 19), .p (.iaddrS 4 (.t 18) (.c (.int .i64 0))), none, 0, 0⟩,
     ⟨(some 20), .p (.faddr 3 (.t 19)), none, 0, 0⟩,
     ⟨(some 21), .r (.load 1 false (.t 20)), none, 0, 0⟩,
     ⟨(some 4), .p (.mv (.t 21)), none, 0, 0⟩] false)
    .skip))
  (.reg [⟨(some 22), .p (.mv (.t 1)), none, 0, 0⟩,
   ⟨(some 23), .p (.mv (.t 4)), none, 0, 0⟩,
   ⟨(some 24), .p (.build [(.int .i64 0), (.int .i64 0)] [(0, 1, (.t 22)), (1, 1, (.t 23))]), none, 0, 0⟩,
   ⟨(some 25), .p (.mkI 150 (.t 24)), none, 0, 0⟩,
   ⟨none, .e (.panic (.t 25)), none, 0, 0⟩] false))),
  []⟩

/-- (*jettison/parse.parser).item -/
def q_parse_parser_item : AFn := ⟨60,
  (.seq (.reg [⟨(some 2), .al [(.int .i64 0), (.str []), (.str []), (.sl .full []), (.int .i64 0), (.int .i64 0), (.sl .full [])], none, 0, 0⟩] false)
  (.seq (.seq (.reg [⟨(some 4), .p (.mv (.t 0)), none, 0, 0⟩,
     ⟨(some 5), .p (.nilchk (.t 4)), none, 0, 0⟩,
     ⟨(some 6), .p (.faddr 3 (.t 5)), none, 0, 0⟩,
     ⟨(some 7), .r (.load 1 false (.t 6)), none, 0, 0⟩,
     ⟨(some 8), .p (.bin .geq .other (.t 7) (.c (.int .i64 12))), none, 0, 0⟩] false)
   (.cond (.t 8)
    (.reg [⟨(some 9), .p (.mv (.t 0)), none, 0, 0⟩,
     ⟨(some 10), .e (.call (.c (.fn (.func 124) [] [])) [(.t 9), (.c (.int .i64 4))]), none, 0, 0⟩] false)
    .skip))
  (.seq (.reg [⟨(some 11), .p (.mv (.t 0)), none, 0, 0⟩,
    ⟨(some 12), .p (.nilchk (.t 11)), none, 0, 0⟩,
    ⟨(some 13), .p (.faddr 3 (.t 12)), none, 0, 0⟩,
    ⟨(some 14), .r (.load 1 false (.t 13)), none, 0, 0⟩,
    ⟨(some 15), .p (.bin .add .other (.t 14) (.c (.int .i64 1))), none, 0, 0⟩,
    ⟨(some 16), .p (.nilchk (.t 11)), none, 0, 0⟩,
    ⟨(some 17), .p (.faddr 3 (.t 16)), none, 0, 0⟩,
    ⟨none, .e (.store 1 (.t 17) (.t 15)), none, 0, 0⟩] false)
  (.seq (.seq (.reg [⟨(some 18), .p (.mv (.t 0)), none, 0, 0⟩,
     ⟨(some 19), .e (.call (.c (.fn (.func 85) [] [])) [(.t 18), (.c (.str [40]))]), none, 0, 0⟩] false)
   (.cond (.t 19)
    (.seq (.reg [⟨(some 20), .p (.mv (.t 0)), none, 0, 0⟩,
      ⟨(some 21), .e (.call (.c (.fn (.func 168) [] [])) [(.t 20)]), none, 0, 0⟩,
      ⟨none, .e (.store 7 (.t 2) (.t 21)), none, 0, 0⟩] false)
    .ret)
    .skip))
  (.seq (.reg [⟨(some 3), .al [(.int .i64 0), (.str []), (.str []), (.sl .full []), (.int .i64 0), (.int .i64 0), (.sl .full [])], none, 0, 0⟩] false)
  (.seq (.seq (.reg [⟨(some 22), .p (.mv (.t 0)), none, 0, 0⟩,
     ⟨(some 23), .e (.call (.c (.fn (.func 85) [] [])) [(.t 22), (.c (.str [33]))]), none, 0, 0⟩] false)
   (.cond (.t 23)
    (.reg [⟨(some 24), .p (.faddr 0 (.t 3)), none, 0, 0⟩,
     ⟨none, .e (.store 1 (.t 24) (.c (.int .i64 2))), none, 0, 0⟩] false)
    .skip))
  (.seq (.reg [⟨(some 25), .p (.mv (.t 0)), none, 0, 0⟩,
    ⟨(some 26), .e (.call (.c (.fn (.func 86) [] [])) [(.t 25)]), none, 0, 0⟩,
    ⟨(some 27), .p (.mv (.t 0)), none, 0, 0⟩,
    ⟨(some 28), .e (.call (.c (.fn (.func 86) [] [])) [(.t 27)]), none, 0, 0⟩,
    ⟨(some 29), .p (.faddr 1 (.t 3)), none, 0, 0⟩,
    ⟨none, .e (.store 1 (.t 29) (.t 26)), none, 0, 0⟩,
    ⟨(some 30), .p (.faddr 2 (.t 3)), none, 0, 0⟩,
    ⟨none, .e (.store 1 (.t 30) (.t 28)), none, 0, 0⟩] false)
  (.seq (.seq (.reg [⟨(some 31), .p (.faddr 0 (.t 3)), none, 0, 0⟩,
     ⟨(some 32), .r (.load 1 false (.t 31)), none, 0, 0⟩,
     ⟨(some 33), .p (.bin .eql .other (.t 32) (.c (.int .i64 0))), none, 0, 0⟩,
     ⟨(some 34), .p (.mv (.t 33)), none, 0, 0⟩,
     ⟨(some 35), .p (.mv (.t 0)), (some (34, true)), 0, 0⟩,
     ⟨(some 36), .e (.call (.c (.fn (.func 85) [] [])) [(.t 35), (.c (.str [123]))]), (some (34, true)), 0, 0⟩,
     ⟨(some 37), .p (.pick (.t 34) (.t 36) (.c (.bool false))), none, 0, 0⟩] false)
   (.cond (.t 37)
    (.seq (.reg [⟨(some 38), .p (.faddr 0 (.t 3)), none, 0, 0⟩,
      ⟨none, .e (.store 1 (.t 38) (.c (.int .i64 1))), none, 0, 0⟩] false)
    (.seq (.reg [⟨(some 39), .p (.mv (.t 0)), none, 0, 0⟩,
      ⟨(some 40), .e (.call (.c (.fn (.func 84) [] [])) [(.t 39), (.c (.int .i64 1)), (.c (.int .i64 4))]), none, 0, 0⟩,
      ⟨(some 41), .p (.faddr 4 (.t 3)), none, 0, 0⟩,
      ⟨none, .e (.store 1 (.t 41) (.t 40)), none, 0, 0⟩] false)
    (.seq (.reg [⟨(some 42), .p (.mv (.t 0)), none, 0, 0⟩,
      ⟨(some 43), .e (.call (.c (.fn (.func 83) [] [])) [(.t 42), (.c (.str [44]))]), none, 0, 0⟩] false)
    (.seq (.reg [⟨(some 44), .p (.mv (.t 0)), none, 0, 0⟩,
      ⟨(some 45), .p (.faddr 4 (.t 3)), none, 0, 0⟩,
      ⟨(some 46), .r (.load 1 false (.t 45)), none, 0, 0⟩,
      ⟨(some 47), .e (.call (.c (.fn (.func 84) [] [])) [(.t 44), (.t 46), (.c (.int .i64 4))]), none, 0, 0⟩,
      ⟨(some 48), .p (.faddr 5 (.t 3)), none, 0, 0⟩,
      ⟨none, .e (.store 1 (.t 48) (.t 47)), none, 0, 0⟩] false)
    (.reg [⟨(some 49), .p (.mv (.t 0)), none, 0, 0⟩,
     ⟨(some 50), .e (.call (.c (.fn (.func 83) [] [])) [(.t 49), (.c (.str [125]))]), none, 0, 0⟩] false)))))
    .skip))
  (.seq (.seq (.reg [⟨(some 51), .p (.mv (.t 0)), none, 0, 0⟩,
     ⟨(some 52), .e (.call (.c (.fn (.func 85) [] [])) [(.t 51), (.c (.str [91]))]), none, 0, 0⟩] false)
   (.cond (.t 52)
    (.seq (.reg [⟨(some 53), .p (.mv (.t 0)), none, 0, 0⟩,
      ⟨(some 54), .e (.call (.c (.fn (.func 169) [] [])) [(.t 53)]), none, 0, 0⟩,
      ⟨(some 55), .p (.bslice 6 [(.t 54)]), none, 0, 0⟩,
      ⟨(some 56), .p (.faddr 3 (.t 3)), none, 0, 0⟩,
      ⟨none, .e (.store 1 (.t 56) (.t 55)), none, 0, 0⟩] false)
    (.reg [⟨(some 57), .p (.mv (.t 0)), none, 0, 0⟩,
     ⟨(some 58), .e (.call (.c (.fn (.func 83) [] [])) [(.t 57), (.c (.str [93]))]), none, 0, 0⟩] false))
    .skip))
  (.seq (.reg [⟨(some 59), .r (.load 7 true (.t 3)), none, 0, 0⟩,
    ⟨none, .e (.store 7 (.t 2) (.t 59)), none, 0, 0⟩] false)
  .ret)))))))))),
  [.c 2 7 true]⟩

/-- (*jettison/parse.parser).peek -/
def q_parse_parser_peek : AFn := ⟨16,
  (.seq (.reg [⟨(some 2), .al [(.int .i64 0), (.str []), (.int .i64 0), (.int .i64 0)], none, 0, 0⟩] false)
  (.seq (.seq (.reg [⟨(some 3), .p (.mv (.t 0)), none, 0, 0⟩,
     ⟨(some 4), .p (.nilchk (.t 3)), none, 0, 0⟩,
     ⟨(some 5), .p (.faddr 0 (.t 4)), none, 0, 0⟩,
     ⟨(some 6), .r (.load 1 false (.t 5)), none, 0, 0⟩,
     ⟨(some 7), .p (.len (.t 6)), none, 0, 0⟩,
     ⟨(some 8), .p (.bin .eql .other (.t 7) (.c (.int .i64 0))), none, 0, 0⟩] false)
   (.cond (.t 8)
    (.seq (.reg [⟨(some 9), .p (.build [(.int .i64 0), (.str []), (.int .i64 0), (.int .i64 0)] []), none, 0, 0⟩,
      ⟨none, .e (.store 4 (.t 2) (.t 9)), none, 0, 0⟩] false)
    .ret)
    .skip))
  (.seq (.reg [⟨(some 10), .p (.mv (.t 0)), none, 0, 0⟩,
    ⟨(some 11), .p (.nilchk (.t 10)), none, 0, 0⟩,
    ⟨(some 12), .p (.faddr 0 (.t 11)), none, 0, 0⟩,
    ⟨(some 13), .r (.load 1 false (.t 12)), none, 0, 0⟩,
    ⟨(some 14), .p (.iaddrS 4 (.t 13) (.c (.int .i64 0))), none, 0, 0⟩,
    ⟨(some 15), .r (.load 4 true (.t 14)), none, 0, 0⟩,
    ⟨none, .e (.store 4 (.t 2) (.t 15)), none, 0, 0⟩] false)
  .ret))),
  [.c 2 4 true]⟩

/-- (*jettison/parse.parser).word -/
def q_parse_parser_word : AFn := ⟨23,
  (.seq (.reg [⟨(some 4), .al [(.int .i64 0), (.str []), (.int .i64 0), (.int .i64 0)], none, 0, 0⟩] false)
  (.seq (.reg [⟨(some 6), .p (.mv (.t 0)), none, 0, 0⟩,
    ⟨(some 7), .e (.call (.c (.fn (.func 126) [] [])) [(.t 6)]), none, 0, 0⟩,
    ⟨(some 5), .al [(.int .i64 0), (.str []), (.int .i64 0), (.int .i64 0)], none, 0, 0⟩,
    ⟨none, .e (.store 4 (.t 5) (.t 7)), none, 0, 0⟩] false)
  (.seq (.reg [⟨(some 8), .p (.mv (.t 0)), none, 0, 0⟩,
    ⟨(some 9), .p (.faddr 0 (.t 5)), none, 0, 0⟩,
    ⟨(some 10), .r (.load 1 false (.t 9)), none, 0, 0⟩,
    ⟨(some 11), .p (.mv (.t 1)), none, 0, 0⟩,
    ⟨(some 12), .p (.bin .eql .other (.t 10) (.t 11)), none, 0, 0⟩,
    ⟨(some 13), .e (.call (.c (.fn (.func 81) [] [])) [(.t 8), (.t 12)]), none, 0, 0⟩] false)
  (.seq (.reg [⟨(some 14), .p (.mv (.t 0)), none, 0, 0⟩,
    ⟨(some 15), .p (.mv (.t 0)), none, 0, 0⟩,
    ⟨(some 16), .p (.nilchk (.t 15)), none, 0, 0⟩,
    ⟨(some 17), .p (.faddr 0 (.t 16)), none, 0, 0⟩,
    ⟨(some 18), .r (.load 1 false (.t 17)), none, 0, 0⟩,
    ⟨(some 19), .p (.slcSl 4 (.t 18) (some (.c (.int .i64 1))) none none), none, 0, 0⟩,
    ⟨(some 20), .p (.nilchk (.t 14)), none, 0, 0⟩,
    ⟨(some 21), .p (.faddr 0 (.t 20)), none, 0, 0⟩,
    ⟨none, .e (.store 1 (.t 21) (.t 19)), none, 0, 0⟩] false)
  (.seq (.reg [⟨(some 22), .r (.load 4 true (.t 5)), none, 0, 0⟩,
    ⟨none, .e (.store 4 (.t 4) (.t 22)), none, 0, 0⟩] false)
  .ret))))),
  [.c 4 4 true]⟩

/-- (*jettison/parse.parser).is -/
def q_parse_parser_is : AFn := ⟨22,
  (.seq (.reg [⟨(some 4), .p (.mv (.c (.bool false))), none, 0, 0⟩] false)
  (.seq (.reg [⟨(some 6), .p (.mv (.t 0)), none, 0, 0⟩,
    ⟨(some 7), .e (.call (.c (.fn (.func 126) [] [])) [(.t 6)]), none, 0, 0⟩,
    ⟨(some 5), .al [(.int .i64 0), (.str []), (.int .i64 0), (.int .i64 0)], none, 0, 0⟩,
    ⟨none, .e (.store 4 (.t 5) (.t 7)), none, 0, 0⟩] false)
  (.seq (.reg [⟨(some 8), .p (.faddr 0 (.t 5)), none, 0, 0⟩,
    ⟨(some 9), .r (.load 1 false (.t 8)), none, 0, 0⟩,
    ⟨(some 10), .p (.bin .eql .other (.t 9) (.c (.int .i64 3))), none, 0, 0⟩,
    ⟨(some 11), .p (.mv (.t 10)), none, 0, 0⟩,
    ⟨(some 12), .p (.faddr 0 (.t 5)), (some (11, false)), 0, 0⟩,
    ⟨(some 13), .r (.load 1 false (.t 12)), (some (11, false)), 0, 0⟩,
    ⟨(some 14), .p (.bin .eql .other (.t 13) (.c (.int .i64 4))), (some (11, false)), 0, 0⟩,
    ⟨(some 15), .p (.pick (.t 11) (.c (.bool true)) (.t 14)), none, 0, 0⟩,
    ⟨(some 16), .p (.mv (.t 15)), none, 0, 0⟩,
    ⟨(some 17), .p (.faddr 1 (.t 5)), (some (16, true)), 0, 0⟩,
    ⟨(some 18), .r (.load 1 false (.t 17)), (some (16, true)), 0, 0⟩,
    ⟨(some 19), .p (.mv (.t 1)), (some (16, true)), 0, 0⟩,
    ⟨(some 20), .p (.bin .eql .other (.t 18) (.t 19)), (some (16, true)), 0, 0⟩,
    ⟨(some 21), .p (.pick (.t 16) (.t 20) (.c (.bool false))), none, 0, 0⟩,
    ⟨(some 4), .p (.mv (.t 21)), none, 0, 0⟩] false)
  .ret))),
  [.t 4]⟩

/-- (*jettison/parse.parser).enter -/
def q_parse_parser_enter : AFn := ⟨16,
  (.seq (.reg [⟨(some 2), .p (.mv (.t 0)), none, 0, 0⟩,
    ⟨(some 3), .p (.nilchk (.t 2)), none, 0, 0⟩,
    ⟨(some 4), .p (.faddr 2 (.t 3)), none, 0, 0⟩,
    ⟨(some 5), .r (.load 1 false (.t 4)), none, 0, 0⟩,
    ⟨(some 6), .p (.bin .add .other (.t 5) (.c (.int .i64 1))), none, 0, 0⟩,
    ⟨(some 7), .p (.nilchk (.t 2)), none, 0, 0⟩,
    ⟨(some 8), .p (.faddr 2 (.t 7)), none, 0, 0⟩,
    ⟨none, .e (.store 1 (.t 8) (.t 6)), none, 0, 0⟩] false)
  (.seq (.reg [⟨(some 9), .p (.mv (.t 0)), none, 0, 0⟩,
    ⟨(some 10), .p (.nilchk (.t 9)), none, 0, 0⟩,
    ⟨(some 11), .p (.faddr 2 (.t 10)), none, 0, 0⟩,
    ⟨(some 12), .r (.load 1 false (.t 11)), none, 0, 0⟩,
    ⟨(some 13), .p (.bin .gtr .other (.t 12) (.c (.int .i64 16))), none, 0, 0⟩] false)
  (.cond (.t 13)
   (.reg [⟨(some 14), .p (.mv (.t 0)), none, 0, 0⟩,
    ⟨(some 15), .e (.call (.c (.fn (.func 124) [] [])) [(.t 14), (.c (.int .i64 4))]), none, 0, 0⟩] false)
   .skip))),
  []⟩

/-- strconv.Itoa -/
def q_strconv_Itoa : AFn := ⟨5,
  (.seq (.reg [⟨(some 2), .p (.mv (.c (.str []))), none, 0, 0⟩] false)
  (.seq (.reg [⟨(some 3), .p (.mv (.t 0)), none, 0, 0⟩,
    ⟨(some 4), .e (.call (.c (.fn (.func 173) [] [])) [(.t 3)]), none, 0, 0⟩,
    ⟨(some 2), .p (.mv (.t 4)), none, 0, 0⟩] false)
  .ret)),
  [.t 2]⟩

/-- internal/strconv.small -/
def q_internal_strconv_small : AFn := ⟨15,
  (.seq (.reg [⟨(some 2), .p (.mv (.c (.str []))), none, 0, 0⟩] false)
  (.seq (.seq (.reg [⟨(some 3), .p (.mv (.t 0)), none, 0, 0⟩,
     ⟨(some 4), .p (.bin .lss .other (.t 3) (.c (.int .i64 10))), none, 0, 0⟩] false)
   (.cond (.t 4)
    (.seq (.reg [⟨(some 5), .p (.mv (.t 0)), none, 0, 0⟩,
      ⟨(some 6), .p (.mv (.t 0)), none, 0, 0⟩,
      ⟨(some 7), .p (.bin .add .other (.t 6) (.c (.int .i64 1))), none, 0, 0⟩,
      ⟨(some 8), .p (.slcStr (.c (.str [48, 49, 50, 51, 52, 53, 54, 55, 56, 57, 97, 98, 99, 100, 101, 102, 103, 104, 105, 106, 107, 108, 109, 110, 111, 112, 113, 114, 115, 116, 117, 118, 119, 120, 121, 122])) (some (.t 5)) (some (.t 7))), none, 0, 0⟩,
      ⟨(some 2), .p (.mv (.t 8)), none, 0, 0⟩] false)
    .ret)
    .skip))
  (.seq (.reg [⟨(some 9), .p (.mv (.t 0)), none, 0, 0⟩,
    ⟨(some 10), .p (.bin .mul .other (.t 9) (.c (.int .i64 2))), none, 0, 0⟩,
    ⟨(some 11), .p (.mv (.t 0)), none, 0, 0⟩,
    ⟨(some 12), .p (.bin .mul .other (.t 11) (.c (.int .i64 2))), none, 0, 0⟩,
    ⟨(some 13), .p (.bin .add .other (.t 12) (.c (.int .i64 2))), none, 0, 0⟩,
    ⟨(some 14), .p (.slcStr (.c (.str [48, 48, 48, 49, 48, 50, 48, 51, 48, 52, 48, 53, 48, 54, 48, 55, 48, 56, 48, 57, 49, 48, 49, 49, 49, 50, 49, 51, 49, 52, 49, 53, 49, 54, 49, 55, 49, 56, 49, 57, 50, 48, 50, 49, 50, 50, 50, 51, 50, 52, 50, 53, 50, 54, 50, 55, 50, 56, 50, 57, 51, 48, 51, 49, 51, 50, 51, 51, 51, 52, 51, 53, 51, 54, 51, 55, 51, 56, 51, 57, 52, 48, 52, 49, 52, 50, 52, 51, 52, 52, 52, 53, 52, 54, 52, 55, 52, 56, 52, 57, 53, 48, 53, 49, 53, 50, 53, 51, 53, 52, 53, 53, 53, 54, 53, 55, 53, 56, 53, 57, 54, 48, 54, 49, 54, 50, 54, 51, 54, 52, 54, 53, 54, 54, 54, 55, 54, 56, 54, 57, 55, 48, 55, 49, 55, 50, 55, 51, 55, 52, 55, 53, 55, 54, 55, 55, 55, 56, 55, 57, 56, 48, 56, 49, 56, 50, 56, 51, 56, 52, 56, 53, 56, 54, 56, 55, 56, 56, 56, 57, 57, 48, 57, 49, 57, 50, 57, 51, 57, 52, 57, 53, 57, 54, 57, 55, 57, 56, 57, 57])) (some (.t 10)) (some (.t 13))), none, 0, 0⟩,
    ⟨(some 2), .p (.mv (.t 14)), none, 0, 0⟩] false)
  .ret))),
  [.t 2]⟩

/-- internal/strconv.numDigits -/
def q_internal_strconv_numDigits : AFn := ⟨15,
  (.seq (.reg [⟨(some 2), .p (.mv (.c (.int .i64 0))), none, 0, 0⟩] false)
  (.seq (.reg [⟨(some 4), .p (.mv (.t 0)), none, 0, 0⟩,
    ⟨(some 5), .e (.call (.c (.fn (.func 177) [] [])) [(.t 4)]), none, 0, 0⟩,
    ⟨(some 6), .e (.call (.c (.fn (.func 176) [] [])) [(.t 5)]), none, 0, 0⟩,
    ⟨(some 3), .p (.mv (.t 6)), none, 0, 0⟩] false)
  (.seq (.reg [⟨(some 7), .p (.mv (.t 3)), none, 0, 0⟩,
    ⟨(some 8), .p (.mv (.t 0)), none, 0, 0⟩,
    ⟨(some 9), .p (.mv (.t 3)), none, 0, 0⟩,
    ⟨(some 10), .e (.bad), none, 0, 0⟩,
    ⟨(some 11), .r (.load 1 false (.t 10)), none, 0, 0⟩,
    ⟨(some 12), .p (.bin .geq .other (.t 8) (.t 11)), none, 0, 0⟩,
    ⟨(some 13), .e (.call (.c (.fn (.func 178) [] [])) [(.t 12)]), none, 0, 0⟩,
    ⟨(some 14), .p (.bin .add .other (.t 7) (.t 13)), none, 0, 0⟩,
    ⟨(some 2), .p (.mv (.t 14)), none, 0, 0⟩] false)
  .ret))),
  [.t 2]⟩

def q_internal_strconv_formatBase10_b0 : ACode :=
  (.seq (.seq (.reg [⟨(some 19), .p (.mv (.t 4)), none, 0, 0⟩,
        ⟨(some 20), .p (.bin .geq .other (.t 19) (.c (.int .i64 8))), none, 0, 0⟩] false)
      (.cond (.t 20)
       .skip
       (.exit 0)))
     (.block 1
      (.seq (.reg [⟨(some 21), .p (.mv (.t 1)), none, 0, 0⟩,
        ⟨(some 22), .p (.bin .rem .other (.t 21) (.c (.int .u64 100000000))), none, 0, 0⟩,
        ⟨(some 23), .p (.convInt .u32 (.t 22)), none, 0, 0⟩,
        ⟨(some 5), .p (.mv (.t 23)), none, 0, 0⟩] false)
      (.seq (.reg [⟨(some 24), .p (.mv (.t 1)), none, 0, 0⟩,
        ⟨(some 25), .p (.bin .quo .other (.t 24) (.c (.int .u64 100000000))), none, 0, 0⟩,
        ⟨(some 1), .p (.mv (.t 25)), none, 0, 0⟩] false)
      (.seq (.reg [⟨(some 26), .p (.mv (.t 5)), none, 0, 0⟩,
        ⟨(some 27), .p (.bin .quo .other (.t 26) (.c (.int .u32 10000))), none, 0, 0⟩,
        ⟨(some 28), .p (.mv (.t 5)), none, 0, 0⟩,
        ⟨(some 29), .p (.bin .rem .other (.t 28) (.c (.int .u32 10000))), none, 0, 0⟩,
        ⟨(some 6), .p (.mv (.t 27)), none, 0, 0⟩,
        ⟨(some 7), .p (.mv (.t 29)), none, 0, 0⟩] false)
      (.seq (.reg [⟨(some 30), .p (.mv (.t 7)), none, 0, 0⟩,
        ⟨(some 31), .p (.bin .quo .other (.t 30) (.c (.int .u32 100))), none, 0, 0⟩,
        ⟨(some 32), .p (.bin .mul .other (.t 31) (.c (.int .u32 2))), none, 0, 0⟩,
        ⟨(some 33), .p (.mv (.t 7)), none, 0, 0⟩,
        ⟨(some 34), .p (.bin .rem .other (.t 33) (.c (.int .u32 100))), none, 0, 0⟩,
        ⟨(some 35), .p (.bin .mul .other (.t 34) (.c (.int .u32 2))), none, 0, 0⟩,
        ⟨(some 8), .p (.mv (.t 32)), none, 0, 0⟩,
        ⟨(some 9), .p (.mv (.t 35)), none, 0, 0⟩] false)
      (.seq (.reg [⟨(some 36), .p (.mv (.t 6)), none, 0, 0⟩,
        ⟨(some 37), .p (.bin .quo .other (.t 36) (.c (.int .u32 100))), none, 0, 0⟩,
        ⟨(some 38), .p (.bin .mul .other (.t 37) (.c (.int .u32 2))), none, 0, 0⟩,
        ⟨(some 39), .p (.mv (.t 6)), none, 0, 0⟩,
        ⟨(some 40), .p (.bin .rem .other (.t 39) (.c (.int .u32 100))), none, 0, 0⟩,
        ⟨(some 41), .p (.bin .mul .other (.t 40) (.c (.int .u32 2))), none, 0, 0⟩,
        ⟨(some 10), .p (.mv (.t 38)), none, 0, 0⟩,
        ⟨(some 11), .p (.mv (.t 41)), none, 0, 0⟩] false)
      (.seq (.reg [⟨(some 42), .p (.mv (.t 0)), none, 0, 0⟩,
        ⟨(some 43), .p (.mv (.t 4)), none, 0, 0⟩,
        ⟨(some 44), .p (.bin .sub .other (.t 43) (.c (.int .i64 1))), none, 0, 0⟩,
        ⟨(some 45), .p (.mv (.t 0)), none, 0, 1⟩,
        ⟨(some 46), .p (.mv (.t 4)), none, 0, 1⟩,
        ⟨(some 47), .p (.bin .sub .other (.t 46) (.c (.int .i64 2))), none, 0, 1⟩,
        ⟨(some 48), .p (.mv (.t 9)), none, 0, 0⟩,
        ⟨(some 49), .p (.bin .add .other (.t 48) (.c (.int .u32 1))), none, 0, 0⟩,
        ⟨(some 50), .p (.idxStr (.c (.str [48, 48, 48, 49, 48, 50, 48, 51, 48, 52, 48, 53, 48, 54, 48, 55, 48, 56, 48, 57, 49, 48, 49, 49, 49, 50, 49, 51, 49, 52, 49, 53, 49, 54, 49, 55, 49, 56, 49, 57, 50, 48, 50, 49, 50, 50, 50, 51, 50, 52, 50, 53, 50, 54, 50, 55, 50, 56, 50, 57, 51, 48, 51, 49, 51, 50, 51, 51, 51, 52, 51, 53, 51, 54, 51, 55, 51, 56, 51, 57, 52, 48, 52, 49, 52, 50, 52, 51, 52, 52, 52, 53, 52, 54, 52, 55, 52, 56, 52, 57, 53, 48, 53, 49, 53, 50, 53, 51, 53, 52, 53, 53, 53, 54, 53, 55, 53, 56, 53, 57, 54, 48, 54, 49, 54, 50, 54, 51, 54, 52, 54, 53, 54, 54, 54, 55, 54, 56, 54, 57, 55, 48, 55, 49, 55, 50, 55, 51, 55, 52, 55, 53, 55, 54, 55, 55, 55, 56, 55, 57, 56, 48, 56, 49, 56, 50, 56, 51, 56, 52, 56, 53, 56, 54, 56, 55, 56, 56, 56, 57, 57, 48, 57, 49, 57, 50, 57, 51, 57, 52, 57, 53, 57, 54, 57, 55, 57, 56, 57, 57])) (.t 49)), none, 0, 0⟩,
        ⟨(some 51), .p (.mv (.t 9)), none, 0, 1⟩,
        ⟨(some 52), .p (.idxStr (.c (.str [48, 48, 48, 49, 48, 50, 48, 51, 48, 52, 48, 53, 48, 54, 48, 55, 48, 56, 48, 57, 49, 48, 49, 49, 49, 50, 49, 51, 49, 52, 49, 53, 49, 54, 49, 55, 49, 56, 49, 57, 50, 48, 50, 49, 50, 50, 50, 51, 50, 52, 50, 53, 50, 54, 50, 55, 50, 56, 50, 57, 51, 48, 51, 49, 51, 50, 51, 51, 51, 52, 51, 53, 51, 54, 51, 55, 51, 56, 51, 57, 52, 48, 52, 49, 52, 50, 52, 51, 52, 52, 52, 53, 52, 54, 52, 55, 52, 56, 52, 57, 53, 48, 53, 49, 53, 50, 53, 51, 53, 52, 53, 53, 53, 54, 53, 55, 53, 56, 53, 57, 54, 48, 54, 49, 54, 50, 54, 51, 54, 52, 54, 53, 54, 54, 54, 55, 54, 56, 54, 57, 55, 48, 55, 49, 55, 50, 55, 51, 55, 52, 55, 53, 55, 54, 55, 55, 55, 56, 55, 57, 56, 48, 56, 49, 56, 50, 56, 51, 56, 52, 56, 53, 56, 54, 56, 55, 56, 56, 56, 57, 57, 48, 57, 49, 57, 50, 57, 51, 57, 52, 57, 53, 57, 54, 57, 55, 57, 56, 57, 57])) (.t 51)), none, 0, 1⟩,
        ⟨(some 53), .p (.iaddrS 1 (.t 42) (.t 44)), none, 0, 0⟩,
        ⟨none, .e (.store 1 (.t 53) (.t 50)), none, 0, 0⟩,
        ⟨(some 54), .p (.iaddrS 1 (.t 45) (.t 47)), none, 0, 0⟩,
        ⟨none, .e (.store 1 (.t 54) (.t 52)), none, 0, 0⟩] true)
      (.seq (.reg [⟨(some 55), .p (.mv (.t 0)), none, 0, 0⟩,
        ⟨(some 56), .p (.mv (.t 4)), none, 0, 0⟩,
        ⟨(some 57), .p (.bin .sub .other (.t 56) (.c (.int .i64 3))), none, 0, 0⟩,
        ⟨(some 58), .p (.mv (.t 0)), none, 0, 1⟩,
        ⟨(some 59), .p (.mv (.t 4)), none, 0, 1⟩,
        ⟨(some 60), .p (.bin .sub .other (.t 59) (.c (.int .i64 4))), none, 0, 1⟩,
        ⟨(some 61), .p (.mv (.t 8)), none, 0, 0⟩,
        ⟨(some 62), .p (.bin .add .other (.t 61) (.c (.int .u32 1))), none, 0, 0⟩,
        ⟨(some 63), .p (.idxStr (.c (.str [48, 48, 48, 49, 48, 50, 48, 51, 48, 52, 48, 53, 48, 54, 48, 55, 48, 56, 48, 57, 49, 48, 49, 49, 49, 50, 49, 51, 49, 52, 49, 53, 49, 54, 49, 55, 49, 56, 49, 57, 50, 48, 50, 49, 50, 50, 50, 51, 50, 52, 50, 53, 50, 54, 50, 55, 50, 56, 50, 57, 51, 48, 51, 49, 51, 50, 51, 51, 51, 52, 51, 53, 51, 54, 51, 55, 51, 56, 51, 57, 52, 48, 52, 49, 52, 50, 52, 51, 52, 52, 52, 53, 52, 54, 52, 55, 52, 56, 52, 57, 53, 48, 53, 49, 53, 50, 53, 51, 53, 52, 53, 53, 53, 54, 53, 55, 53, 56, 53, 57, 54, 48, 54, 49, 54, 50, 54, 51, 54, 52, 54, 53, 54, 54, 54, 55, 54, 56, 54, 57, 55, 48, 55, 49, 55, 50, 55, 51, 55, 52, 55, 53, 55, 54, 55, 55, 55, 56, 55, 57, 56, 48, 56, 49, 56, 50, 56, 51, 56, 52, 56, 53, 56, 54, 56, 55, 56, 56, 56, 57, 57, 48, 57, 49, 57, 50, 57, 51, 57, 52, 57, 53, 57, 54, 57, 55, 57, 56, 57, 57])) (.t 62)), none, 0, 0⟩,
        ⟨(some 64), .p (.mv (.t 8)), none, 0, 1⟩,
        ⟨(some 65), .p (.idxStr (.c (.str [48, 48, 48, 49, 48, 50, 48, 51, 48, 52, 48, 53, 48, 54, 48, 55, 48, 56, 48, 57, 49, 48, 49, 49, 49, 50, 49, 51, 49, 52, 49, 53, 49, 54, 49, 55, 49, 56, 49, 57, 50, 48, 50, 49, 50, 50, 50, 51, 50, 52, 50, 53, 50, 54, 50, 55, 50, 56, 50, 57, 51, 48, 51, 49, 51, 50, 51, 51, 51, 52, 51, 53, 51, 54, 51, 55, 51, 56, 51, 57, 52, 48, 52, 49, 52, 50, 52, 51, 52, 52, 52, 53, 52, 54, 52, 55, 52, 56, 52, 57, 53, 48, 53, 49, 53, 50, 53, 51, 53, 52, 53, 53, 53, 54, 53, 55, 53, 56, 53, 57, 54, 48, 54, 49, 54, 50, 54, 51, 54, 52, 54, 53, 54, 54, 54, 55, 54, 56, 54, 57, 55, 48, 55, 49, 55, 50, 55, 51, 55, 52, 55, 53, 55, 54, 55, 55, 55, 56, 55, 57, 56, 48, 56, 49, 56, 50, 56, 51, 56, 52, 56, 53, 56, 54, 56, 55, 56, 56, 56, 57, 57, 48, 57, 49, 57, 50, 57, 51, 57, 52, 57, 53, 57, 54, 57, 55, 57, 56, 57, 57])) (.t 64)), none, 0, 1⟩,
        ⟨(some 66), .p (.iaddrS 1 (.t 55) (.t 57)), none, 0, 0⟩,
        ⟨none, .e (.store 1 (.t 66) (.t 63)), none, 0, 0⟩,
        ⟨(some 67), .p (.iaddrS 1 (.t 58) (.t 60)), none, 0, 0⟩,
        ⟨none, .e (.store 1 (.t 67) (.t 65)), none, 0, 0⟩] true)
      (.seq (.reg [⟨(some 68), .p (.mv (.t 0)), none, 0, 0⟩,
        ⟨(some 69), .p (.mv (.t 4)), none, 0, 0⟩,
        ⟨(some 70), .p (.bin .sub .other (.t 69) (.c (.int .i64 5))), none, 0, 0⟩,
        ⟨(some 71), .p (.mv (.t 0)), none, 0, 1⟩,
        ⟨(some 72), .p (.mv (.t 4)), none, 0, 1⟩,
        ⟨(some 73), .p (.bin .sub .other (.t 72) (.c (.int .i64 6))), none, 0, 1⟩,
        ⟨(some 74), .p (.mv (.t 11)), none, 0, 0⟩,
        ⟨(some 75), .p (.bin .add .other (.t 74) (.c (.int .u32 1))), none, 0, 0⟩,
        ⟨(some 76), .p (.idxStr (.c (.str [48, 48, 48, 49, 48, 50, 48, 51, 48, 52, 48, 53, 48, 54, 48, 55, 48, 56, 48, 57, 49, 48, 49, 49, 49, 50, 49, 51, 49, 52, 49, 53, 49, 54, 49, 55, 49, 56, 49, 57, 50, 48, 50, 49, 50, 50, 50, 51, 50, 52, 50, 53, 50, 54, 50, 55, 50, 56, 50, 57, 51, 48, 51, 49, 51, 50, 51, 51, 51, 52, 51, 53, 51, 54, 51, 55, 51, 56, 51, 57, 52, 48, 52, 49, 52, 50, 52, 51, 52, 52, 52, 53, 52, 54, 52, 55, 52, 56, 52, 57, 53, 48, 53, 49, 53, 50, 53, 51, 53, 52, 53, 53, 53, 54, 53, 55, 53, 56, 53, 57, 54, 48, 54, 49, 54, 50, 54, 51, 54, 52, 54, 53, 54, 54, 54, 55, 54, 56, 54, 57, 55, 48, 55, 49, 55, 50, 55, 51, 55, 52, 55, 53, 55, 54, 55, 55, 55, 56, 55, 57, 56, 48, 56, 49, 56, 50, 56, 51, 56, 52, 56, 53, 56, 54, 56, 55, 56, 56, 56, 57, 57, 48, 57, 49, 57, 50, 57, 51, 57, 52, 57, 53, 57, 54, 57, 55, 57, 56, 57, 57])) (.t 75)), none, 0, 0⟩,
        ⟨(some 77), .p (.mv (.t 11)), none, 0, 1⟩,
        ⟨(some 78), .p (.idxStr (.c (.str [48, 48, 48, 49, 48, 50, 48, 51, 48, 52, 48, 53, 48, 54, 48, 55, 48, 56, 48, 57, 49, 48, 49, 49, 49, 50, 49, 51, 49, 52, 49, 53, 49, 54, 49, 55, 49, 56, 49, 57, 50, 48, 50, 49, 50, 50, 50, 51, 50, 52, 50, 53, 50, 54, 50, 55, 50, 56, 50, 57, 51, 48, 51, 49, 51, 50, 51, 51, 51, 52, 51, 53, 51, 54, 51, 55, 51, 56, 51, 57, 52, 48, 52, 49, 52, 50, 52, 51, 52, 52, 52, 53, 52, 54, 52, 55, 52, 56, 52, 57, 53, 48, 53, 49, 53, 50, 53, 51, 53, 52, 53, 53, 53, 54, 53, 55, 53, 56, 53, 57, 54, 48, 54, 49, 54, 50, 54, 51, 54, 52, 54, 53, 54, 54, 54, 55, 54, 56, 54, 57, 55, 48, 55, 49, 55, 50, 55, 51, 55, 52, 55, 53, 55, 54, 55, 55, 55, 56, 55, 57, 56, 48, 56, 49, 56, 50, 56, 51, 56, 52, 56, 53, 56, 54, 56, 55, 56, 56, 56, 57, 57, 48, 57, 49, 57, 50, 57, 51, 57, 52, 57, 53, 57, 54, 57, 55, 57, 56, 57, 57])) (.t 77)), none, 0, 1⟩,
        ⟨(some 79), .p (.iaddrS 1 (.t 68) (.t 70)), none, 0, 0⟩,
        ⟨none, .e (.store 1 (.t 79) (.t 76)), none, 0, 0⟩,
        ⟨(some 80), .p (.iaddrS 1 (.t 71) (.t 73)), none, 0, 0⟩,
        ⟨none, .e (.store 1 (.t 80) (.t 78)), none, 0, 0⟩] true)
      (.seq (.reg [⟨(some 81), .p (.mv (.t 0)), none, 0, 0⟩,
        ⟨(some 82), .p (.mv (.t 4)), none, 0, 0⟩,
        ⟨(some 83), .p (.bin .sub .other (.t 82) (.c (.int .i64 7))), none, 0, 0⟩,
        ⟨(some 84), .p (.mv (.t 0)), none, 0, 1⟩,
        ⟨(some 85), .p (.mv (.t 4)), none, 0, 1⟩,
        ⟨(some 86), .p (.bin .sub .other (.t 85) (.c (.int .i64 8))), none, 0, 1⟩,
        ⟨(some 87), .p (.mv (.t 10)), none, 0, 0⟩,
        ⟨(some 88), .p (.bin .add .other (.t 87) (.c (.int .u32 1))), none, 0, 0⟩,
        ⟨(some 89), .p (.idxStr (.c (.str [48, 48, 48, 49, 48, 50, 48, 51, 48, 52, 48, 53, 48, 54, 48, 55, 48, 56, 48, 57, 49, 48, 49, 49, 49, 50, 49, 51, 49, 52, 49, 53, 49, 54, 49, 55, 49, 56, 49, 57, 50, 48, 50, 49, 50, 50, 50, 51, 50, 52, 50, 53, 50, 54, 50, 55, 50, 56, 50, 57, 51, 48, 51, 49, 51, 50, 51, 51, 51, 52, 51, 53, 51, 54, 51, 55, 51, 56, 51, 57, 52, 48, 52, 49, 52, 50, 52, 51, 52, 52, 52, 53, 52, 54, 52, 55, 52, 56, 52, 57, 53, 48, 53, 49, 53, 50, 53, 51, 53, 52, 53, 53, 53, 54, 53, 55, 53, 56, 53, 57, 54, 48, 54, 49, 54, 50, 54, 51, 54, 52, 54, 53, 54, 54, 54, 55, 54, 56, 54, 57, 55, 48, 55, 49, 55, 50, 55, 51, 55, 52, 55, 53, 55, 54, 55, 55, 55, 56, 55, 57, 56, 48, 56, 49, 56, 50, 56, 51, 56, 52, 56, 53, 56, 54, 56, 55, 56, 56, 56, 57, 57, 48, 57, 49, 57, 50, 57, 51, 57, 52, 57, 53, 57, 54, 57, 55, 57, 56, 57, 57])) (.t 88)), none, 0, 0⟩,
        ⟨(some 90), .p (.mv (.t 10)), none, 0, 1⟩,
        ⟨(some 91), .p (.idxStr (.c (.str [48, 48, 48, 49, 48, 50, 48, 51, 48, 52, 48, 53, 48, 54, 48, 55, 48, 56, 48, 57, 49, 48, 49, 49, 49, 50, 49, 51, 49, 52, 49, 53, 49, 54, 49, 55, 49, 56, 49, 57, 50, 48, 50, 49, 50, 50, 50, 51, 50, 52, 50, 53, 50, 54, 50, 55, 50, 56, 50, 57, 51, 48, 51, 49, 51, 50, 51, 51, 51, 52, 51, 53, 51, 54, 51, 55, 51, 56, 51, 57, 52, 48, 52, 49, 52, 50, 52, 51, 52, 52, 52, 53, 52, 54, 52, 55, 52, 56, 52, 57, 53, 48, 53, 49, 53, 50, 53, 51, 53, 52, 53, 53, 53, 54, 53, 55, 53, 56, 53, 57, 54, 48, 54, 49, 54, 50, 54, 51, 54, 52, 54, 53, 54, 54, 54, 55, 54, 56, 54, 57, 55, 48, 55, 49, 55, 50, 55, 51, 55, 52, 55, 53, 55, 54, 55, 55, 55, 56, 55, 57, 56, 48, 56, 49, 56, 50, 56, 51, 56, 52, 56, 53, 56, 54, 56, 55, 56, 56, 56, 57, 57, 48, 57, 49, 57, 50, 57, 51, 57, 52, 57, 53, 57, 54, 57, 55, 57, 56, 57, 57])) (.t 90)), none, 0, 1⟩,
        ⟨(some 92), .p (.iaddrS 1 (.t 81) (.t 83)), none, 0, 0⟩,
        ⟨none, .e (.store 1 (.t 92) (.t 89)), none, 0, 0⟩,
        ⟨(some 93), .p (.iaddrS 1 (.t 84) (.t 86)), none, 0, 0⟩,
        ⟨none, .e (.store 1 (.t 93) (.t 91)), none, 0, 0⟩] true)
      (.reg [⟨(some 94), .p (.mv (.t 4)), none, 0, 0⟩,
       ⟨(some 95), .p (.bin .sub .other (.t 94) (.c (.int .i64 8))), none, 0, 0⟩,
       ⟨(some 4), .p (.mv (.t 95)), none, 0, 0⟩] false))))))))))))

/-- internal/strconv.formatBase10 -/
def q_internal_strconv_formatBase10 : AFn := ⟨167,
  (.seq (.reg [⟨(some 17), .p (.mv (.t 0)), none, 0, 0⟩,
    ⟨(some 18), .p (.len (.t 17)), none, 0, 0⟩,
    ⟨(some 4), .p (.mv (.t 18)), none, 0, 0⟩] false)
  (.seq (.block 0
    (.loop q_internal_strconv_formatBase10_b0))
  (.seq (.reg [⟨(some 96), .p (.mv (.t 1)), none, 0, 0⟩,
    ⟨(some 97), .p (.convInt .u32 (.t 96)), none, 0, 0⟩,
    ⟨(some 12), .p (.mv (.t 97)), none, 0, 0⟩] false)
  (.seq (.seq (.reg [⟨(some 98), .p (.mv (.t 4)), none, 0, 0⟩,
     ⟨(some 99), .p (.bin .geq .other (.t 98) (.c (.int .i64 4))), none, 0, 0⟩] false)
   (.cond (.t 99)
    (.seq (.reg [⟨(some 100), .p (.mv (.t 12)), none, 0, 0⟩,
      ⟨(some 101), .p (.bin .rem .other (.t 100) (.c (.int .u32 10000))), none, 0, 0⟩,
      ⟨(some 13), .p (.mv (.t 101)), none, 0, 0⟩] false)
    (.seq (.reg [⟨(some 102), .p (.mv (.t 12)), none, 0, 0⟩,
      ⟨(some 103), .p (.bin .quo .other (.t 102) (.c (.int .u32 10000))), none, 0, 0⟩,
      ⟨(some 12), .p (.mv (.t 103)), none, 0, 0⟩] false)
    (.seq (.reg [⟨(some 104), .p (.mv (.t 13)), none, 0, 0⟩,
      ⟨(some 105), .p (.bin .quo .other (.t 104) (.c (.int .u32 100))), none, 0, 0⟩,
      ⟨(some 106), .p (.bin .mul .other (.t 105) (.c (.int .u32 2))), none, 0, 0⟩,
      ⟨(some 107), .p (.mv (.t 13)), none, 0, 0⟩,
      ⟨(some 108), .p (.bin .rem .other (.t 107) (.c (.int .u32 100))), none, 0, 0⟩,
      ⟨(some 109), .p (.bin .mul .other (.t 108) (.c (.int .u32 2))), none, 0, 0⟩,
      ⟨(some 14), .p (.mv (.t 106)), none, 0, 0⟩,
      ⟨(some 15), .p (.mv (.t 109)), none, 0, 0⟩] false)
    (.seq (.reg [⟨(some 110), .p (.mv (.t 0)), none, 0, 0⟩,
      ⟨(some 111), .p (.mv (.t 4)), none, 0, 0⟩,
      ⟨(some 112), .p (.bin .sub .other (.t 111) (.c (.int .i64 1))), none, 0, 0⟩,
      ⟨(some 113), .p (.mv (.t 0)), none, 0, 1⟩,
      ⟨(some 114), .p (.mv (.t 4)), none, 0, 1⟩,
      ⟨(some 115), .p (.bin .sub .other (.t 114) (.c (.int .i64 2))), none, 0, 1⟩,
      ⟨(some 116), .p (.mv (.t 15)), none, 0, 0⟩,
      ⟨(some 117), .p (.bin .add .other (.t 116) (.c (.int .u32 1))), none, 0, 0⟩,
      ⟨(some 118), .p (.idxStr (.c (.str [48, 48, 48, 49, 48, 50, 48, 51, 48, 52, 48, 53, 48, 54, 48, 55, 48, 56, 48, 57, 49, 48, 49, 49, 49, 50, 49, 51, 49, 52, 49, 53, 49, 54, 49, 55, 49, 56, 49, 57, 50, 48, 50, 49, 50, 50, 50, 51, 50, 52, 50, 53, 50, 54, 50, 55, 50, 56, 50, 57, 51, 48, 51, 49, 51, 50, 51, 51, 51, 52, 51, 53, 51, 54, 51, 55, 51, 56, 51, 57, 52, 48, 52, 49, 52, 50, 52, 51, 52, 52, 52, 53, 52, 54, 52, 55, 52, 56, 52, 57, 53, 48, 53, 49, 53, 50, 53, 51, 53, 52, 53, 53, 53, 54, 53, 55, 53, 56, 53, 57, 54, 48, 54, 49, 54, 50, 54, 51, 54, 52, 54, 53, 54, 54, 54, 55, 54, 56, 54, 57, 55, 48, 55, 49, 55, 50, 55, 51, 55, 52, 55, 53, 55, 54, 55, 55, 55, 56, 55, 57, 56, 48, 56, 49, 56, 50, 56, 51, 56, 52, 56, 53, 56, 54, 56, 55, 56, 56, 56, 57, 57, 48, 57, 49, 57, 50, 57, 51, 57, 52, 57, 53, 57, 54, 57, 55, 57, 56, 57, 57])) (.t 117)), none, 0, 0⟩,
      ⟨(some 119), .p (.mv (.t 15)), none, 0, 1⟩,
      ⟨(some 120), .p (.idxStr (.c (.str [48, 48, 48, 49, 48, 50, 48, 51, 48, 52, 48, 53, 48, 54, 48, 55, 48, 56, 48, 57, 49, 48, 49, 49, 49, 50, 49, 51, 49, 52, 49, 53, 49, 54, 49, 55, 49, 56, 49, 57, 50, 48, 50, 49, 50, 50, 50, 51, 50, 52, 50, 53, 50, 54, 50, 55, 50, 56, 50, 57, 51, 48, 51, 49, 51, 50, 51, 51, 51, 52, 51, 53, 51, 54, 51, 55, 51, 56, 51, 57, 52, 48, 52, 49, 52, 50, 52, 51, 52, 52, 52, 53, 52, 54, 52, 55, 52, 56, 52, 57, 53, 48, 53, 49, 53, 50, 53, 51, 53, 52, 53, 53, 53, 54, 53, 55, 53, 56, 53, 57, 54, 48, 54, 49, 54, 50, 54, 51, 54, 52, 54, 53, 54, 54, 54, 55, 54, 56, 54, 57, 55, 48, 55, 49, 55, 50, 55, 51, 55, 52, 55, 53, 55, 54, 55, 55, 55, 56, 55, 57, 56, 48, 56, 49, 56, 50, 56, 51, 56, 52, 56, 53, 56, 54, 56, 55, 56, 56, 56, 57, 57, 48, 57, 49, 57, 50, 57, 51, 57, 52, 57, 53, 57, 54, 57, 55, 57, 56, 57, 57])) (.t 119)), none, 0, 1⟩,
      ⟨(some 121), .p (.iaddrS 1 (.t 110) (.t 112)), none, 0, 0⟩,
      ⟨none, .e (.store 1 (.t 121) (.t 118)), none, 0, 0⟩,
      ⟨(some 122), .p (.iaddrS 1 (.t 113) (.t 115)), none, 0, 0⟩,
      ⟨none, .e (.store 1 (.t 122) (.t 120)), none, 0, 0⟩] true)
    (.seq (.reg [⟨(some 123), .p (.mv (.t 0)), none, 0, 0⟩,
      ⟨(some 124), .p (.mv (.t 4)), none, 0, 0⟩,
      ⟨(some 125), .p (.bin .sub .other (.t 124) (.c (.int .i64 3))), none, 0, 0⟩,
      ⟨(some 126), .p (.mv (.t 0)), none, 0, 1⟩,
      ⟨(some 127), .p (.mv (.t 4)), none, 0, 1⟩,
      ⟨(some 128), .p (.bin .sub .other (.t 127) (.c (.int .i64 4))), none, 0, 1⟩,
      ⟨(some 129), .p (.mv (.t 14)), none, 0, 0⟩,
      ⟨(some 130), .p (.bin .add .other (.t 129) (.c (.int .u32 1))), none, 0, 0⟩,
      ⟨(some 131), .p (.idxStr (.c (.str [48, 48, 48, 49, 48, 50, 48, 51, 48, 52, 48, 53, 48, 54, 48, 55, 48, 56, 48, 57, 49, 48, 49, 49, 49, 50, 49, 51, 49, 52, 49, 53, 49, 54, 49, 55, 49, 56, 49, 57, 50, 48, 50, 49, 50, 50, 50, 51, 50, 52, 50, 53, 50, 54, 50, 55, 50, 56, 50, 57, 51, 48, 51, 49, 51, 50, 51, 51, 51, 52, 51, 53, 51, 54, 51, 55, 51, 56, 51, 57, 52, 48, 52, 49, 52, 50, 52, 51, 52, 52, 52, 53, 52, 54, 52, 55, 52, 56, 52, 57, 53, 48, 53, 49, 53, 50, 53, 51, 53, 52, 53, 53, 53, 54, 53, 55, 53, 56, 53, 57, 54, 48, 54, 49, 54, 50, 54, 51, 54, 52, 54, 53, 54, 54, 54, 55, 54, 56, 54, 57, 55, 48, 55, 49, 55, 50, 55, 51, 55, 52, 55, 53, 55, 54, 55, 55, 55, 56, 55, 57, 56, 48, 56, 49, 56, 50, 56, 51, 56, 52, 56, 53, 56, 54, 56, 55, 56, 56, 56, 57, 57, 48, 57, 49, 57, 50, 57, 51, 57, 52, 57, 53, 57, 54, 57, 55, 57, 56, 57, 57])) (.t 130)), none, 0, 0⟩,
      ⟨(some 132), .p (.mv (.t 14)), none, 0, 1⟩,
      ⟨(some 133), .p (.idxStr (.c (.str [48, 48, 48, 49, 48, 50, 48, 51, 48, 52, 48, 53, 48, 54, 48, 55, 48, 56, 48, 57, 49, 48, 49, 49, 49, 50, 49, 51, 49, 52, 49, 53, 49, 54, 49, 55, 49, 56, 49, 57, 50, 48, 50, 49, 50, 50, 50, 51, 50, 52, 50, 53, 50, 54, 50, 55, 50, 56, 50, 57, 51, 48, 51, 49, 51, 50, 51, 51, 51, 52, 51, 53, 51, 54, 51, 55, 51, 56, 51, 57, 52, 48, 52, 49, 52, 50, 52, 51, 52, 52, 52, 53, 52, 54, 52, 55, 52, 56, 52, 57, 53, 48, 53, 49, 53, 50, 53, 51, 53, 52, 53, 53, 53, 54, 53, 55, 53, 56, 53, 57, 54, 48, 54, 49, 54, 50, 54, 51, 54, 52, 54, 53, 54, 54, 54, 55, 54, 56, 54, 57, 55, 48, 55, 49, 55, 50, 55, 51, 55, 52, 55, 53, 55, 54, 55, 55, 55, 56, 55, 57, 56, 48, 56, 49, 56, 50, 56, 51, 56, 52, 56, 53, 56, 54, 56, 55, 56, 56, 56, 57, 57, 48, 57, 49, 57, 50, 57, 51, 57, 52, 57, 53, 57, 54, 57, 55, 57, 56, 57, 57])) (.t 132)), none, 0, 1⟩,
      ⟨(some 134), .p (.iaddrS 1 (.t 123) (.t 125)), none, 0, 0⟩,
      ⟨none, .e (.store 1 (.t 134) (.t 131)), none, 0, 0⟩,
      ⟨(some 135), .p (.iaddrS 1 (.t 126) (.t 128)), none, 0, 0⟩,
      ⟨none, .e (.store 1 (.t 135) (.t 133)), none, 0, 0⟩] true)
    (.reg [⟨(some 136), .p (.mv (.t 4)), none, 0, 0⟩,
     ⟨(some 137), .p (.bin .sub .other (.t 136) (.c (.int .i64 4))), none, 0, 0⟩,
     ⟨(some 4), .p (.mv (.t 137)), none, 0, 0⟩] false))))))
    .skip))
  (.seq (.seq (.reg [⟨(some 138), .p (.mv (.t 4)), none, 0, 0⟩,
     ⟨(some 139), .p (.bin .geq .other (.t 138) (.c (.int .i64 2))), none, 0, 0⟩] false)
   (.cond (.t 139)
    (.seq (.reg [⟨(some 140), .p (.mv (.t 12)), none, 0, 0⟩,
      ⟨(some 141), .p (.bin .rem .other (.t 140) (.c (.int .u32 100))), none, 0, 0⟩,
      ⟨(some 142), .p (.bin .mul .other (.t 141) (.c (.int .u32 2))), none, 0, 0⟩,
      ⟨(some 16), .p (.mv (.t 142)), none, 0, 0⟩] false)
    (.seq (.reg [⟨(some 143), .p (.mv (.t 12)), none, 0, 0⟩,
      ⟨(some 144), .p (.bin .quo .other (.t 143) (.c (.int .u32 100))), none, 0, 0⟩,
      ⟨(some 12), .p (.mv (.t 144)), none, 0, 0⟩] false)
    (.seq (.reg [⟨(some 145), .p (.mv (.t 0)), none, 0, 0⟩,
      ⟨(some 146), .p (.mv (.t 4)), none, 0, 0⟩,
      ⟨(some 147), .p (.bin .sub .other (.t 146) (.c (.int .i64 1))), none, 0, 0⟩,
      ⟨(some 148), .p (.mv (.t 0)), none, 0, 1⟩,
      ⟨(some 149), .p (.mv (.t 4)), none, 0, 1⟩,
      ⟨(some 150), .p (.bin .sub .other (.t 149) (.c (.int .i64 2))), none, 0, 1⟩,
      ⟨(some 151), .p (.mv (.t 16)), none, 0, 0⟩,
      ⟨(some 152), .p (.bin .add .other (.t 151) (.c (.int .u32 1))), none, 0, 0⟩,
      ⟨(some 153), .p (.idxStr (.c (.str [48, 48, 48, 49, 48, 50, 48, 51, 48, 52, 48, 53, 48, 54, 48, 55, 48, 56, 48, 57, 49, 48, 49, 49, 49, 50, 49, 51, 49, 52, 49, 53, 49, 54, 49, 55, 49, 56, 49, 57, 50, 48, 50, 49, 50, 50, 50, 51, 50, 52, 50, 53, 50, 54, 50, 55, 50, 56, 50, 57, 51, 48, 51, 49, 51, 50, 51, 51, 51, 52, 51, 53, 51, 54, 51, 55, 51, 56, 51, 57, 52, 48, 52, 49, 52, 50, 52, 51, 52, 52, 52, 53, 52, 54, 52, 55, 52, 56, 52, 57, 53, 48, 53, 49, 53, 50, 53, 51, 53, 52, 53, 53, 53, 54, 53, 55, 53, 56, 53, 57, 54, 48, 54, 49, 54, 50, 54, 51, 54, 52, 54, 53, 54, 54, 54, 55, 54, 56, 54, 57, 55, 48, 55, 49, 55, 50, 55, 51, 55, 52, 55, 53, 55, 54, 55, 55, 55, 56, 55, 57, 56, 48, 56, 49, 56, 50, 56, 51, 56, 52, 56, 53, 56, 54, 56, 55, 56, 56, 56, 57, 57, 48, 57, 49, 57, 50, 57, 51, 57, 52, 57, 53, 57, 54, 57, 55, 57, 56, 57, 57])) (.t 152)), none, 0, 0⟩,
      ⟨(some 154), .p (.mv (.t 16)), none, 0, 1⟩,
      ⟨(some 155), .p (.idxStr (.c (.str [48, 48, 48, 49, 48, 50, 48, 51, 48, 52, 48, 53, 48, 54, 48, 55, 48, 56, 48, 57, 49, 48, 49, 49, 49, 50, 49, 51, 49, 52, 49, 53, 49, 54, 49, 55, 49, 56, 49, 57, 50, 48, 50, 49, 50, 50, 50, 51, 50, 52, 50, 53, 50, 54, 50, 55, 50, 56, 50, 57, 51, 48, 51, 49, 51, 50, 51, 51, 51, 52, 51, 53, 51, 54, 51, 55, 51, 56, 51, 57, 52, 48, 52, 49, 52, 50, 52, 51, 52, 52, 52, 53, 52, 54, 52, 55, 52, 56, 52, 57, 53, 48, 53, 49, 53, 50, 53, 51, 53, 52, 53, 53, 53, 54, 53, 55, 53, 56, 53, 57, 54, 48, 54, 49, 54, 50, 54, 51, 54, 52, 54, 53, 54, 54, 54, 55, 54, 56, 54, 57, 55, 48, 55, 49, 55, 50, 55, 51, 55, 52, 55, 53, 55, 54, 55, 55, 55, 56, 55, 57, 56, 48, 56, 49, 56, 50, 56, 51, 56, 52, 56, 53, 56, 54, 56, 55, 56, 56, 56, 57, 57, 48, 57, 49, 57, 50, 57, 51, 57, 52, 57, 53, 57, 54, 57, 55, 57, 56, 57, 57])) (.t 154)), none, 0, 1⟩,
      ⟨(some 156), .p (.iaddrS 1 (.t 145) (.t 147)), none, 0, 0⟩,
      ⟨none, .e (.store 1 (.t 156) (.t 153)), none, 0, 0⟩,
      ⟨(some 157), .p (.iaddrS 1 (.t 148) (.t 150)), none, 0, 0⟩,
      ⟨none, .e (.store 1 (.t 157) (.t 155)), none, 0, 0⟩] true)
    (.reg [⟨(some 158), .p (.mv (.t 4)), none, 0, 0⟩,
     ⟨(some 159), .p (.bin .sub .other (.t 158) (.c (.int .i64 2))), none, 0, 0⟩,
     ⟨(some 4), .p (.mv (.t 159)), none, 0, 0⟩] false))))
    .skip))
  (.seq (.reg [⟨(some 160), .p (.mv (.t 4)), none, 0, 0⟩,
    ⟨(some 161), .p (.bin .gtr .other (.t 160) (.c (.int .i64 0))), none, 0, 0⟩] false)
  (.cond (.t 161)
   (.reg [⟨(some 162), .p (.mv (.t 0)), none, 0, 0⟩,
    ⟨(some 163), .p (.mv (.t 12)), none, 0, 0⟩,
    ⟨(some 164), .p (.bin .add .other (.c (.int .u32 48)) (.t 163)), none, 0, 0⟩,
    ⟨(some 165), .p (.convInt .u8 (.t 164)), none, 0, 0⟩,
    ⟨(some 166), .p (.iaddrS 1 (.t 162) (.c (.int .i64 0))), none, 0, 0⟩,
    ⟨none, .e (.store 1 (.t 166) (.t 165)), none, 0, 0⟩] false)
   .skip))))))),
  []⟩

def q_internal_strconv_formatBits_b0 : ACode :=
  (.seq (.seq (.reg [⟨(some 66), .p (.mv (.t 1)), none, 0, 0⟩,
          ⟨(some 67), .p (.mv (.t 17)), none, 0, 0⟩,
          ⟨(some 68), .p (.bin .geq .other (.t 66) (.t 67)), none, 0, 0⟩] false)
        (.cond (.t 68)
         .skip
         (.exit 2)))
       (.block 3
        (.seq (.reg [⟨(some 69), .p (.mv (.t 13)), none, 0, 0⟩,
          ⟨(some 70), .p (.bin .sub .other (.t 69) (.c (.int .i64 1))), none, 0, 0⟩,
          ⟨(some 13), .p (.mv (.t 70)), none, 0, 0⟩] false)
        (.seq (.reg [⟨(some 71), .p (.mv (.t 1)), none, 0, 0⟩,
          ⟨(some 72), .p (.mv (.t 17)), none, 0, 0⟩,
          ⟨(some 73), .p (.bin .quo .other (.t 71) (.t 72)), none, 0, 0⟩,
          ⟨(some 18), .p (.mv (.t 73)), none, 0, 0⟩] false)
        (.seq (.reg [⟨(some 74), .p (.mv (.t 13)), none, 0, 0⟩,
          ⟨(some 75), .p (.mv (.t 1)), none, 0, 0⟩,
          ⟨(some 76), .p (.mv (.t 18)), none, 0, 0⟩,
          ⟨(some 77), .p (.mv (.t 17)), none, 0, 0⟩,
          ⟨(some 78), .p (.bin .mul .other (.t 76) (.t 77)), none, 0, 0⟩,
          ⟨(some 79), .p (.bin .sub .other (.t 75) (.t 78)), none, 0, 0⟩,
          ⟨(some 80), .p (.idxStr (.c (.str [48, 49, 50, 51, 52, 53, 54, 55, 56, 57, 97, 98, 99, 100, 101, 102, 103, 104, 105, 106, 107, 108, 109, 110, 111, 112, 113, 114, 115, 116, 117, 118, 119, 120, 121, 122])) (.t 79)), none, 0, 0⟩,
          ⟨(some 81), .p (.iaddrA 65 1 (.t 12) (.t 74)), none, 0, 0⟩,
          ⟨none, .e (.store 1 (.t 81) (.t 80)), none, 0, 0⟩] false)
        (.reg [⟨(some 82), .p (.mv (.t 18)), none, 0, 0⟩,
         ⟨(some 1), .p (.mv (.t 82)), none, 0, 0⟩] false))))))

def q_internal_strconv_formatBits_b1 : ACode :=
  (.seq (.seq (.reg [⟨(some 44), .p (.mv (.t 1)), none, 0, 0⟩,
          ⟨(some 45), .p (.mv (.t 15)), none, 0, 0⟩,
          ⟨(some 46), .p (.bin .geq .other (.t 44) (.t 45)), none, 0, 0⟩] false)
        (.cond (.t 46)
         .skip
         (.exit 0)))
       (.block 1
        (.seq (.reg [⟨(some 47), .p (.mv (.t 13)), none, 0, 0⟩,
          ⟨(some 48), .p (.bin .sub .other (.t 47) (.c (.int .i64 1))), none, 0, 0⟩,
          ⟨(some 13), .p (.mv (.t 48)), none, 0, 0⟩] false)
        (.seq (.reg [⟨(some 49), .p (.mv (.t 13)), none, 0, 0⟩,
          ⟨(some 50), .p (.mv (.t 1)), none, 0, 0⟩,
          ⟨(some 51), .p (.mv (.t 16)), none, 0, 0⟩,
          ⟨(some 52), .p (.bin .and .other (.t 50) (.t 51)), none, 0, 0⟩,
          ⟨(some 53), .p (.idxStr (.c (.str [48, 49, 50, 51, 52, 53, 54, 55, 56, 57, 97, 98, 99, 100, 101, 102, 103, 104, 105, 106, 107, 108, 109, 110, 111, 112, 113, 114, 115, 116, 117, 118, 119, 120, 121, 122])) (.t 52)), none, 0, 0⟩,
          ⟨(some 54), .p (.iaddrA 65 1 (.t 12) (.t 49)), none, 0, 0⟩,
          ⟨none, .e (.store 1 (.t 54) (.t 53)), none, 0, 0⟩] false)
        (.reg [⟨(some 55), .p (.mv (.t 1)), none, 0, 0⟩,
         ⟨(some 56), .p (.mv (.t 14)), none, 0, 0⟩,
         ⟨(some 57), .p (.bin .shr .other (.t 55) (.t 56)), none, 0, 0⟩,
         ⟨(some 1), .p (.mv (.t 57)), none, 0, 0⟩] false)))))

/-- internal/strconv.formatBits -/
def q_internal_strconv_formatBits : AFn := ⟨102,
  (.seq (.reg [⟨(some 10), .p (.mv (.c (.sl .full []))), none, 0, 0⟩,
    ⟨(some 11), .p (.mv (.c (.str []))), none, 0, 0⟩] false)
  (.seq (.seq (.reg [⟨(some 19), .p (.mv (.t 2)), none, 0, 0⟩,
     ⟨(some 20), .p (.bin .lss .other (.t 19) (.c (.int .i64 2))), none, 0, 0⟩,
     ⟨(some 21), .p (.mv (.t 20)), none, 0, 0⟩,
     ⟨(some 22), .p (.mv (.t 2)), (some (21, false)), 0, 0⟩,
     ⟨(some 23), .p (.bin .eql .other (.t 22) (.c (.int .i64 10))), (some (21, false)), 0, 0⟩,
     ⟨(some 24), .p (.pick (.t 21) (.c (.bool true)) (.t 23)), none, 0, 0⟩,
     ⟨(some 25), .p (.mv (.t 24)), none, 0, 0⟩,
     ⟨(some 26), .p (.mv (.t 2)), (some (25, false)), 0, 0⟩,
     ⟨(some 27), .p (.bin .gtr .other (.t 26) (.c (.int .i64 36))), (some (25, false)), 0, 0⟩,
     ⟨(some 28), .p (.pick (.t 25) (.c (.bool true)) (.t 27)), none, 0, 0⟩] false)
   (.cond (.t 28)
    (.reg [⟨(some 29), .p (.mkI 9 (.c (.str [115, 116, 114, 99, 111, 110, 118, 58, 32, 105, 108, 108, 101, 103, 97, 108, 32, 65, 112, 112, 101, 110, 100, 73, 110, 116, 47, 70, 111, 114, 109, 97, 116, 73, 110, 116, 32, 98, 97, 115, 101]))), none, 0, 0⟩,
     ⟨none, .e (.panic (.t 29)), none, 0, 0⟩] false)
    .skip))
  (.seq (.reg [⟨(some 12), .al [(.int .u8 0), (.int .u8 0), (.int .u8 0), (.int .u8 0), (.int .u8 0), (.int .u8 0), (.int .u8 0), (.int .u8 0), (.int .u8 0), (.int .u8 0), (.int .u8 0), (.int .u8 0), (.int .u8 0), (.int .u8 0), (.int .u8 0), (.int .u8 0), (.int .u8 0), (.int .u8 0), (.int .u8 0), (.int .u8 0), (.int .u8 0), (.int .u8 0), (.int .u8 0), (.int .u8 0), (.int .u8 0), (.int .u8 0), (.int .u8 0), (.int .u8 0), (.int .u8 0), (.int .u8 0), (.int .u8 0), (.int .u8 0), (.int .u8 0), (.int .u8 0), (.int .u8 0), (.int .u8 0), (.int .u8 0), (.int .u8 0), (.int .u8 0), (.int .u8 0), (.int .u8 0), (.int .u8 0), (.int .u8 0), (.int .u8 0), (.int .u8 0), (.int .u8 0), (.int .u8 0), (.int .u8 0), (.int .u8 0), (.int .u8 0), (.int .u8 0), (.int .u8 0), (.int .u8 0), (.int .u8 0), (.int .u8 0), (.int .u8 0), (.int .u8 0), (.int .u8 0), (.int .u8 0), (.int .u8 0), (.int .u8 0), (.int .u8 0), (.int .u8 0), (.int .u8 0), (.int .u8 0)], none, 0, 0⟩] false)
  (.seq (.reg [⟨(some 13), .p (.mv (.c (.int .i64 65))), none, 0, 0⟩] false)
  (.seq (.seq (.reg [⟨(some 30), .p (.mv (.t 3)), none, 0, 0⟩] false)
   (.cond (.t 30)
    (.reg [⟨(some 31), .p (.mv (.t 1)), none, 0, 0⟩,
     ⟨(some 32), .p (.un .neg (.t 31)), none, 0, 0⟩,
     ⟨(some 1), .p (.mv (.t 32)), none, 0, 0⟩] false)
    .skip))
  (.seq (.seq (.reg [⟨(some 33), .p (.mv (.t 2)), none, 0, 0⟩,
     ⟨(some 34), .e (.call (.c (.fn (.func 179) [] [])) [(.t 33)]), none, 0, 0⟩] false)
   (.cond (.t 34)
    (.seq (.reg [⟨(some 35), .p (.mv (.t 2)), none, 0, 0⟩,
      ⟨(some 36), .p (.convInt .u64 (.t 35)), none, 0, 0⟩,
      ⟨(some 37), .e (.call (.c (.fn (.func 180) [] [])) [(.t 36)]), none, 0, 0⟩,
      ⟨(some 38), .p (.convInt .u64 (.t 37)), none, 0, 0⟩,
      ⟨(some 14), .p (.mv (.t 38)), none, 0, 0⟩] false)
    (.seq (.reg [⟨(some 39), .p (.mv (.t 2)), none, 0, 0⟩,
      ⟨(some 40), .p (.convInt .u64 (.t 39)), none, 0, 0⟩,
      ⟨(some 15), .p (.mv (.t 40)), none, 0, 0⟩] false)
    (.seq (.reg [⟨(some 41), .p (.mv (.t 2)), none, 0, 0⟩,
      ⟨(some 42), .p (.convInt .u64 (.t 41)), none, 0, 0⟩,
      ⟨(some 43), .p (.bin .sub .other (.t 42) (.c (.int .u64 1))), none, 0, 0⟩,
      ⟨(some 16), .p (.mv (.t 43)), none, 0, 0⟩] false)
    (.seq (.block 0
      (.loop q_internal_strconv_formatBits_b1))
    (.seq (.reg [⟨(some 58), .p (.mv (.t 13)), none, 0, 0⟩,
      ⟨(some 59), .p (.bin .sub .other (.t 58) (.c (.int .i64 1))), none, 0, 0⟩,
      ⟨(some 13), .p (.mv (.t 59)), none, 0, 0⟩] false)
    (.reg [⟨(some 60), .p (.mv (.t 13)), none, 0, 0⟩,
     ⟨(some 61), .p (.mv (.t 1)), none, 0, 0⟩,
     ⟨(some 62), .p (.idxStr (.c (.str [48, 49, 50, 51, 52, 53, 54, 55, 56, 57, 97, 98, 99, 100, 101, 102, 103, 104, 105, 106, 107, 108, 109, 110, 111, 112, 113, 114, 115, 116, 117, 118, 119, 120, 121, 122])) (.t 61)), none, 0, 0⟩,
     ⟨(some 63), .p (.iaddrA 65 1 (.t 12) (.t 60)), none, 0, 0⟩,
     ⟨none, .e (.store 1 (.t 63) (.t 62)), none, 0, 0⟩] false))))))
    (.seq (.reg [⟨(some 64), .p (.mv (.t 2)), none, 0, 0⟩,
      ⟨(some 65), .p (.convInt .u64 (.t 64)), none, 0, 0⟩,
      ⟨(some 17), .p (.mv (.t 65)), none, 0, 0⟩] false)
    (.seq (.block 2
      (.loop q_internal_strconv_formatBits_b0))
    (.seq (.reg [⟨(some 83), .p (.mv (.t 13)), none, 0, 0⟩,
      ⟨(some 84), .p (.bin .sub .other (.t 83) (.c (.int .i64 1))), none, 0, 0⟩,
      ⟨(some 13), .p (.mv (.t 84)), none, 0, 0⟩] false)
    (.reg [⟨(some 85), .p (.mv (.t 13)), none, 0, 0⟩,
     ⟨(some 86), .p (.mv (.t 1)), none, 0, 0⟩,
     ⟨(some 87), .p (.idxStr (.c (.str [48, 49, 50, 51, 52, 53, 54, 55, 56, 57, 97, 98, 99, 100, 101, 102, 103, 104, 105, 106, 107, 108, 109, 110, 111, 112, 113, 114, 115, 116, 117, 118, 119, 120, 121, 122])) (.t 86)), none, 0, 0⟩,
     ⟨(some 88), .p (.iaddrA 65 1 (.t 12) (.t 85)), none, 0, 0⟩,
     ⟨none, .e (.store 1 (.t 88) (.t 87)), none, 0, 0⟩] false))))))
  (.seq (.seq (.reg [⟨(some 89), .p (.mv (.t 3)), none, 0, 0⟩] false)
   (.cond (.t 89)
    (.seq (.reg [⟨(some 90), .p (.mv (.t 13)), none, 0, 0⟩,
      ⟨(some 91), .p (.bin .sub .other (.t 90) (.c (.int .i64 1))), none, 0, 0⟩,
      ⟨(some 13), .p (.mv (.t 91)), none, 0, 0⟩] false)
    (.reg [⟨(some 92), .p (.mv (.t 13)), none, 0, 0⟩,
     ⟨(some 93), .p (.iaddrA 65 1 (.t 12) (.t 92)), none, 0, 0⟩,
     ⟨none, .e (.store 1 (.t 93) (.c (.int .u8 45))), none, 0, 0⟩] false))
    .skip))
  (.seq (.seq (.reg [⟨(some 94), .p (.mv (.t 4)), none, 0, 0⟩] false)
   (.cond (.t 94)
    (.seq (.reg [⟨(some 95), .p (.mv (.t 0)), none, 0, 0⟩,
      ⟨(some 96), .p (.mv (.t 13)), none, 0, 0⟩,
      ⟨(some 97), .p (.slcArr 65 1 (.t 12) (some (.t 96)) none none), none, 0, 0⟩,
      ⟨(some 98), .e (.app 1 1 (.t 95) (.t 97)), none, 0, 0⟩,
      ⟨(some 10), .p (.mv (.t 98)), none, 0, 0⟩] false)
    .ret)
    .skip))
  (.seq (.reg [⟨(some 99), .p (.mv (.t 13)), none, 0, 0⟩,
    ⟨(some 100), .p (.slcArr 65 1 (.t 12) (some (.t 99)) none none), none, 0, 0⟩,
    ⟨(some 101), .r (.bstr (.t 100)), none, 0, 0⟩,
    ⟨(some 11), .p (.mv (.t 101)), none, 0, 0⟩] false)
  .ret))))))))),
  [.t 10, .t 11]⟩

/-- (*jettison/jettisonlaw11.feed).pred -/
def q_jettisonlaw11_feed_pred : AFn := ⟨16,
  (.seq (.reg [⟨(some 6), .p (.mv (.c (.sl .full []))), none, 0, 0⟩] false)
  (.seq (.seq (.reg [⟨(some 7), .p (.mv (.t 0)), none, 0, 0⟩,
     ⟨(some 8), .e (.call (.c (.fn (.func 66) [] [])) [(.t 7)]), none, 0, 0⟩,
     ⟨(some 9), .p (.bin .rem .other (.t 8) (.c (.int .i64 2))), none, 0, 0⟩,
     ⟨(some 10), .p (.bin .eql .other (.t 9) (.c (.int .i64 0))), none, 0, 0⟩] false)
   (.cond (.t 10)
    (.seq (.reg [⟨(some 6), .p (.mv (.c (.sl .full []))), none, 0, 0⟩] false)
    .ret)
    .skip))
  (.seq (.reg [⟨(some 11), .p (.mv (.t 0)), none, 0, 0⟩,
    ⟨(some 12), .p (.mv (.t 1)), none, 0, 0⟩,
    ⟨(some 13), .p (.mv (.t 2)), none, 0, 0⟩,
    ⟨(some 14), .e (.call (.c (.fn (.func 186) [] [])) [(.t 11), (.t 12), (.t 13), (.c (.int .i64 1))]), none, 0, 0⟩,
    ⟨(some 15), .p (.bslice 6 [(.t 14)]), none, 0, 0⟩,
    ⟨(some 6), .p (.mv (.t 15)), none, 0, 0⟩] false)
  .ret))),
  [.t 6]⟩

/-- unicode/utf8.word[string] -/
def q_unicode_utf8_word_string : AFn := ⟨59,
  (.seq (.reg [⟨(some 2), .p (.mv (.c (.int .u64 0))), none, 0, 0⟩] false)
  (.seq (.cond (.c (.bool false))
    (.seq (.reg [⟨(some 3), .p (.mv (.t 0)), none, 0, 0⟩,
      ⟨(some 4), .p (.idxStr (.t 3) (.c (.int .i64 0))), none, 0, 0⟩,
      ⟨(some 5), .p (.convInt .u64 (.t 4)), none, 0, 0⟩,
      ⟨(some 6), .p (.mv (.t 0)), none, 0, 0⟩,
      ⟨(some 7), .p (.idxStr (.t 6) (.c (.int .i64 1))), none, 0, 0⟩,
      ⟨(some 8), .p (.convInt .u64 (.t 7)), none, 0, 0⟩,
      ⟨(some 9), .p (.bin .shl .other (.t 8) (.c (.int .u64 8))), none, 0, 0⟩,
      ⟨(some 10), .p (.bin .or .other (.t 5) (.t 9)), none, 0, 0⟩,
      ⟨(some 11), .p (.mv (.t 0)), none, 0, 0⟩,
      ⟨(some 12), .p (.idxStr (.t 11) (.c (.int .i64 2))), none, 0, 0⟩,
      ⟨(some 13), .p (.convInt .u64 (.t 12)), none, 0, 0⟩,
      ⟨(some 14), .p (.bin .shl .other (.t 13) (.c (.int .u64 16))), none, 0, 0⟩,
      ⟨(some 15), .p (.bin .or .other (.t 10) (.t 14)), none, 0, 0⟩,
      ⟨(some 16), .p (.mv (.t 0)), none, 0, 0⟩,
      ⟨(some 17), .p (.idxStr (.t 16) (.c (.int .i64 3))), none, 0, 0⟩,
      ⟨(some 18), .p (.convInt .u64 (.t 17)), none, 0, 0⟩,
      ⟨(some 19), .p (.bin .shl .other (.t 18) (.c (.int .u64 24))), none, 0, 0⟩,
      ⟨(some 20), .p (.bin .or .other (.t 15) (.t 19)), none, 0, 0⟩,
      ⟨(some 2), .p (.mv (.t 20)), none, 0, 0⟩] true)
    .ret)
    .skip)
  (.seq (.reg [⟨(some 21), .p (.mv (.t 0)), none, 0, 0⟩,
    ⟨(some 22), .p (.idxStr (.t 21) (.c (.int .i64 0))), none, 0, 0⟩,
    ⟨(some 23), .p (.convInt .u64 (.t 22)), none, 0, 0⟩,
    ⟨(some 24), .p (.mv (.t 0)), none, 0, 0⟩,
    ⟨(some 25), .p (.idxStr (.t 24) (.c (.int .i64 1))), none, 0, 0⟩,
    ⟨(some 26), .p (.convInt .u64 (.t 25)), none, 0, 0⟩,
    ⟨(some 27), .p (.bin .shl .other (.t 26) (.c (.int .u64 8))), none, 0, 0⟩,
    ⟨(some 28), .p (.bin .or .other (.t 23) (.t 27)), none, 0, 0⟩,
    ⟨(some 29), .p (.mv (.t 0)), none, 0, 0⟩,
    ⟨(some 30), .p (.idxStr (.t 29) (.c (.int .i64 2))), none, 0, 0⟩,
    ⟨(some 31), .p (.convInt .u64 (.t 30)), none, 0, 0⟩,
    ⟨(some 32), .p (.bin .shl .other (.t 31) (.c (.int .u64 16))), none, 0, 0⟩,
    ⟨(some 33), .p (.bin .or .other (.t 28) (.t 32)), none, 0, 0⟩,
    ⟨(some 34), .p (.mv (.t 0)), none, 0, 0⟩,
    ⟨(some 35), .p (.idxStr (.t 34) (.c (.int .i64 3))), none, 0, 0⟩,
    ⟨(some 36), .p (.convInt .u64 (.t 35)), none, 0, 0⟩,
    ⟨(some 37), .p (.bin .shl .other (.t 36) (.c (.int .u64 24))), none, 0, 0⟩,
    ⟨(some 38), .p (.bin .or .other (.t 33) (.t 37)), none, 0, 0⟩,
    ⟨(some 39), .p (.mv (.t 0)), none, 0, 0⟩,
    ⟨(some 40), .p (.idxStr (.t 39) (.c (.int .i64 4))), none, 0, 0⟩,
    ⟨(some 41), .p (.convInt .u64 (.t 40)), none, 0, 0⟩,
    ⟨(some 42), .p (.bin .shl .other (.t 41) (.c (.int .u64 32))), none, 0, 0⟩,
    ⟨(some 43), .p (.bin .or .other (.t 38) (.t 42)), none, 0, 0⟩,
    ⟨(some 44), .p (.mv (.t 0)), none, 0, 0⟩,
    ⟨(some 45), .p (.idxStr (.t 44) (.c (.int .i64 5))), none, 0, 0⟩,
    ⟨(some 46), .p (.convInt .u64 (.t 45)), none, 0, 0⟩,
    ⟨(some 47), .p (.bin .shl .other (.t 46) (.c (.int .u64 40))), none, 0, 0⟩,
    ⟨(some 48), .p (.bin .or .other (.t 43) (.t 47)), none, 0, 0⟩,
    ⟨(some 49), .p (.mv (.t 0)), none, 0, 0⟩,
    ⟨(some 50), .p (.idxStr (.t 49) (.c (.int .i64 6))), none, 0, 0⟩,
    ⟨(some 51), .p (.convInt .u64 (.t 50)), none, 0, 0⟩,
    ⟨(some 52), .p (.bin .shl .other (.t 51) (.c (.int .u64 48))), none, 0, 0⟩,
    ⟨(some 53), .p (.bin .or .other (.t 48) (.t 52)), none, 0, 0⟩,
    ⟨(some 54), .p (.mv (.t 0)), none, 0, 0⟩,
    ⟨(some 55), .p (.idxStr (.t 54) (.c (.int .i64 7))), none, 0, 0⟩,
    ⟨(some 56), .p (.convInt .u64 (.t 55)), none, 0, 0⟩,
    ⟨(some 57), .p (.bin .shl .other (.t 56) (.c (.int .u64 56))), none, 0, 0⟩,
    ⟨(some 58), .p (.bin .or .other (.t 53) (.t 57)), none, 0, 0⟩,
    ⟨(some 2), .p (.mv (.t 58)), none, 0, 0⟩] true)
  .ret))),
  [.t 2]⟩

/-- jettison/pattern.every[jettison/pattern.Item]$1 -/
def q_pattern_every_pattern_Item_1 : AFn := ⟨8,
  (.seq (.reg [⟨(some 2), .e (.box (.t 0)), none, 0, 0⟩,
    ⟨(some 3), .p (.mv (.c (.bool false))), none, 0, 0⟩] false)
  (.seq (.reg [⟨(some 4), .r (.load 1 false (.t 1)), none, 0, 0⟩,
    ⟨(some 5), .r (.load 7 true (.t 2)), none, 0, 0⟩,
    ⟨(some 6), .e (.call (.t 4) [(.t 5)]), none, 0, 0⟩,
    ⟨(some 7), .p (.un .not (.t 6)), none, 0, 0⟩,
    ⟨(some 3), .p (.mv (.t 7)), none, 0, 0⟩] false)
  .ret)),
  [.t 3]⟩

/-- jettison/pattern.every[[]jettison/pattern.Item] -/
def q_pattern_every_pattern_Itemx : AFn := ⟨9,
  (.seq (.reg [⟨(some 3), .e (.box (.t 1)), none, 0, 0⟩,
    ⟨(some 4), .p (.mv (.c (.bool false))), none, 0, 0⟩] false)
  (.seq (.reg [⟨(some 5), .p (.mv (.t 0)), none, 0, 0⟩,
    ⟨(some 6), .p (.mkF (.func 187) [] [(.t 3)]), none, 0, 0⟩,
    ⟨(some 7), .e (.call (.c (.fn (.func 76) [] [])) [(.t 5), (.t 6)]), none, 0, 0⟩,
    ⟨(some 8), .p (.un .not (.t 7)), none, 0, 0⟩,
    ⟨(some 4), .p (.mv (.t 8)), none, 0, 0⟩] false)
  .ret)),
  [.t 4]⟩

/-- jettison/pattern.every[jettison/expr.Expr] -/
def q_pattern_every_expr_Expr : AFn := ⟨9,
  (.seq (.reg [⟨(some 3), .e (.box (.t 1)), none, 0, 0⟩,
    ⟨(some 4), .p (.mv (.c (.bool false))), none, 0, 0⟩] false)
  (.seq (.reg [⟨(some 5), .p (.mv (.t 0)), none, 0, 0⟩,
    ⟨(some 6), .p (.mkF (.func 188) [] [(.t 3)]), none, 0, 0⟩,
    ⟨(some 7), .e (.call (.c (.fn (.func 155) [] [])) [(.t 5), (.t 6)]), none, 0, 0⟩,
    ⟨(some 8), .p (.un .not (.t 7)), none, 0, 0⟩,
    ⟨(some 4), .p (.mv (.t 8)), none, 0, 0⟩] false)
  .ret)),
  [.t 4]⟩

/-- jettison/expr.Right -/
def q_expr_Right : AFn := ⟨48,
  (.seq (.reg [⟨(some 1), .e (.box (.t 0)), none, 0, 0⟩,
    ⟨(some 2), .p (.mv (.c (.bool false))), none, 0, 0⟩] false)
  (.seq (.reg [⟨(some 6), .r (.load 6 true (.t 1)), none, 0, 0⟩,
    ⟨(some 7), .e (.call (.c (.fn (.func 189) [] [])) [(.t 6)]), none, 0, 0⟩,
    ⟨(some 5), .p (.mv (.t 7)), none, 0, 0⟩,
    ⟨(some 8), .p (.ext 0 (.t 5)), none, 0, 0⟩,
    ⟨(some 9), .p (.ext 1 (.t 5)), none, 0, 0⟩,
    ⟨(some 3), .al [(.bool false), (.bool false), (.int .i64 0)], none, 0, 0⟩,
    ⟨none, .e (.store 3 (.t 3) (.t 8)), none, 0, 0⟩,
    ⟨(some 4), .p (.mv (.t 9)), none, 0, 0⟩] false)
  (.seq (.reg [⟨(some 10), .p (.mv (.t 4)), none, 0, 0⟩,
    ⟨(some 11), .p (.mv (.t 10)), none, 0, 0⟩,
    ⟨(some 12), .p (.faddr 5 (.t 1)), (some (11, true)), 0, 0⟩,
    ⟨(some 13), .r (.load 1 false (.t 12)), (some (11, true)), 0, 0⟩,
    ⟨(some 14), .p (.len (.t 13)), (some (11, true)), 0, 0⟩,
    ⟨(some 15), .p (.faddr 2 (.t 3)), (some (11, true)), 0, 0⟩,
    ⟨(some 16), .r (.load 1 false (.t 15)), (some (11, true)), 0, 0⟩,
    ⟨(some 17), .p (.bin .eql .other (.t 14) (.t 16)), (some (11, true)), 0, 0⟩,
    ⟨(some 18), .p (.pick (.t 11) (.t 17) (.c (.bool false))), none, 0, 0⟩,
    ⟨(some 19), .p (.mv (.t 18)), none, 0, 0⟩,
    ⟨(some 20), .p (.faddr 0 (.t 3)), (some (19, true)), 0, 0⟩,
    ⟨(some 21), .r (.load 1 false (.t 20)), (some (19, true)), 0, 0⟩,
    ⟨(some 22), .p (.mv (.t 21)), (some (19, true)), 0, 0⟩,
    ⟨(some 23), .p (.faddr 1 (.t 1)), (some (22, false)), 0, 0⟩,
    ⟨(some 24), .r (.load 1 false (.t 23)), (some (22, false)), 0, 0⟩,
    ⟨(some 25), .p (.bin .eql .other (.t 24) (.c (.str []))), (some (22, false)), 0, 0⟩,
    ⟨(some 26), .p (.pick (.t 22) (.c (.bool true)) (.t 25)), (some (19, true)), 0, 0⟩,
    ⟨(some 27), .p (.pick (.t 19) (.t 26) (.c (.bool false))), none, 0, 0⟩,
    ⟨(some 28), .p (.mv (.t 27)), none, 0, 0⟩,
    ⟨(some 29), .p (.faddr 1 (.t 3)), (some (28, true)), 0, 0⟩,
    ⟨(some 30), .r (.load 1 false (.t 29)), (some (28, true)), 0, 0⟩,
    ⟨(some 31), .p (.mv (.t 30)), (some (28, true)), 0, 0⟩,
    ⟨(some 32), .p (.faddr 3 (.t 1)), (some (31, false)), 0, 0⟩,
    ⟨(some 33), .r (.load 1 false (.t 32)), (some (31, false)), 0, 0⟩,
    ⟨(some 34), .p (.bin .eql .other (.t 33) (.c (.str []))), (some (31, false)), 0, 0⟩,
    ⟨(some 35), .p (.mv (.t 34)), (some (31, false)), 0, 0⟩,
    ⟨(some 36), .p (.faddr 4 (.t 1)), (some (35, true)), 0, 0⟩,
    ⟨(some 37), .r (.load 1 false (.t 36)), (some (35, true)), 0, 0⟩,
    ⟨(some 38), .p (.bin .eql .other (.t 37) (.c (.str []))), (some (35, true)), 0, 0⟩,
    ⟨(some 39), .p (.pick (.t 35) (.t 38) (.c (.bool false))), (some (31, false)), 0, 0⟩,
    ⟨(some 40), .p (.pick (.t 31) (.c (.bool true)) (.t 39)), (some (28, true)), 0, 0⟩,
    ⟨(some 41), .p (.pick (.t 28) (.t 40) (.c (.bool false))), none, 0, 0⟩,
    ⟨(some 42), .p (.mv (.t 41)), none, 0, 0⟩,
    ⟨(some 43), .p (.faddr 5 (.t 1)), (some (42, true)), 0, 0⟩,
    ⟨(some 44), .r (.load 1 false (.t 43)), (some (42, true)), 0, 0⟩,
    ⟨(some 45), .e (.call (.c (.fn (.func 155) [] [])) [(.t 44), (.c (.fn (.func 190) [] []))]), (some (42, true)), 0, 0⟩,
    ⟨(some 46), .p (.un .not (.t 45)), (some (42, true)), 0, 0⟩,
    ⟨(some 47), .p (.pick (.t 42) (.t 46) (.c (.bool false))), none, 0, 0⟩,
    ⟨(some 2), .p (.mv (.t 47)), none, 0, 0⟩] false)
  .ret))),
  [.t 2]⟩

/-- (jettison/expr.Expr).types -/
def q_expr_Expr_types : AFn := ⟨42,
  (.seq (.reg [⟨(some 1), .e (.box (.t 0)), none, 0, 0⟩,
    ⟨(some 2), .p (.mv (.c (.int .i64 0))), none, 0, 0⟩] false)
  (.seq (.reg [⟨(some 3), .al [(.int .i64 0)], none, 0, 0⟩,
    ⟨none, .e (.store 1 (.t 3) (.c (.int .i64 1))), none, 0, 0⟩,
    ⟨(some 4), .p (.mv (.c (.int .i64 1))), none, 0, 0⟩] false)
  (.seq (.block 0
    (.seq (.reg [⟨(some 6), .p (.faddr 0 (.t 1)), none, 0, 0⟩,
      ⟨(some 7), .r (.load 1 false (.t 6)), none, 0, 0⟩,
      ⟨(some 8), .p (.bin .lss .other (.t 7) (.c (.int .i64 2))), none, 0, 0⟩,
      ⟨(some 5), .p (.mv (.t 8)), none, 0, 0⟩] false)
    (.cond (.t 5)
     (.seq (.reg [⟨(some 2), .p (.mv (.c (.int .i64 1))), none, 0, 0⟩] false)
     .ret)
     (.seq (.seq (.reg [⟨(some 10), .p (.faddr 0 (.t 1)), none, 0, 0⟩,
        ⟨(some 11), .r (.load 1 false (.t 10)), none, 0, 0⟩,
        ⟨(some 12), .p (.bin .eql .other (.t 11) (.c (.int .i64 2))), none, 0, 0⟩,
        ⟨(some 13), .p (.mv (.t 12)), none, 0, 0⟩,
        ⟨(some 14), .p (.faddr 1 (.t 1)), (some (13, true)), 0, 0⟩,
        ⟨(some 15), .r (.load 1 false (.t 14)), (some (13, true)), 0, 0⟩,
        ⟨(some 16), .p (.bin .eql .other (.t 15) (.c (.str [33]))), (some (13, true)), 0, 0⟩,
        ⟨(some 17), .p (.pick (.t 13) (.t 16) (.c (.bool false))), none, 0, 0⟩,
        ⟨(some 9), .p (.mv (.t 17)), none, 0, 0⟩] false)
      (.cond (.t 9)
       .skip
       (.reg [⟨(some 18), .p (.faddr 0 (.t 1)), none, 0, 0⟩,
        ⟨(some 19), .r (.load 1 false (.t 18)), none, 0, 0⟩,
        ⟨(some 20), .p (.bin .eql .other (.t 19) (.c (.int .i64 3))), none, 0, 0⟩,
        ⟨(some 21), .p (.mv (.t 20)), none, 0, 0⟩,
        ⟨(some 22), .p (.faddr 1 (.t 1)), (some (21, true)), 0, 0⟩,
        ⟨(some 23), .r (.load 1 false (.t 22)), (some (21, true)), 0, 0⟩,
        ⟨(some 24), .e (.call (.c (.fn (.func 191) [] [])) [(.t 23)]), (some (21, true)), 0, 0⟩,
        ⟨(some 25), .p (.bin .lss .other (.t 24) (.c (.int .i64 3))), (some (21, true)), 0, 0⟩,
        ⟨(some 26), .p (.pick (.t 21) (.t 25) (.c (.bool false))), none, 0, 0⟩,
        ⟨(some 9), .p (.mv (.t 26)), none, 0, 0⟩] false)))
     (.cond (.t 9)
      (.reg [⟨none, .e (.store 1 (.t 3) (.c (.int .i64 2))), none, 0, 0⟩,
       ⟨(some 4), .p (.mv (.c (.int .i64 2))), none, 0, 0⟩] false)
      (.seq (.reg [⟨(some 28), .p (.faddr 0 (.t 1)), none, 0, 0⟩,
        ⟨(some 29), .r (.load 1 false (.t 28)), none, 0, 0⟩,
        ⟨(some 30), .p (.bin .eql .other (.t 29) (.c (.int .i64 3))), none, 0, 0⟩,
        ⟨(some 31), .p (.mv (.t 30)), none, 0, 0⟩,
        ⟨(some 32), .p (.faddr 1 (.t 1)), (some (31, true)), 0, 0⟩,
        ⟨(some 33), .r (.load 1 false (.t 32)), (some (31, true)), 0, 0⟩,
        ⟨(some 34), .e (.call (.c (.fn (.func 191) [] [])) [(.t 33)]), (some (31, true)), 0, 0⟩,
        ⟨(some 35), .p (.bin .lss .other (.t 34) (.c (.int .i64 5))), (some (31, true)), 0, 0⟩,
        ⟨(some 36), .p (.pick (.t 31) (.t 35) (.c (.bool false))), none, 0, 0⟩,
        ⟨(some 27), .p (.mv (.t 36)), none, 0, 0⟩] false)
      (.cond (.t 27)
       (.reg [⟨(some 4), .p (.mv (.c (.int .i64 2))), none, 0, 0⟩] false)
       .skip)))))))
  (.seq (.seq (.reg [⟨(some 37), .p (.faddr 5 (.t 1)), none, 0, 0⟩,
     ⟨(some 38), .r (.load 1 false (.t 37)), none, 0, 0⟩,
     ⟨(some 39), .p (.mkF (.func 192) [] [(.t 3)]), none, 0, 0⟩,
     ⟨(some 40), .e (.call (.c (.fn (.func 155) [] [])) [(.t 38), (.t 39)]), none, 0, 0⟩] false)
   (.cond (.t 40)
    (.seq (.reg [⟨(some 2), .p (.mv (.c (.int .i64 0))), none, 0, 0⟩] false)
    .ret)
    .skip))
  (.seq (.reg [⟨(some 41), .p (.mv (.t 4)), none, 0, 0⟩,
    ⟨(some 2), .p (.mv (.t 41)), none, 0, 0⟩] false)
  .ret))))),
  [.t 2]⟩

/-- slices.ContainsFunc[[]jettison/expr.Expr,jettison/expr.Expr] -/
def q_slices_ContainsFunc_expr_Expr_expr_Expr : AFn := ⟨9,
  (.seq (.reg [⟨(some 4), .p (.mv (.c (.bool false))), none, 0, 0⟩] false)
  (.seq (.reg [⟨(some 5), .p (.mv (.t 0)), none, 0, 0⟩,
    ⟨(some 6), .p (.mv (.t 1)), none, 0, 0⟩,
    ⟨(some 7), .e (.call (.c (.fn (.func 193) [] [])) [(.t 5), (.t 6)]), none, 0, 0⟩,
    ⟨(some 8), .p (.bin .geq .other (.t 7) (.c (.int .i64 0))), none, 0, 0⟩,
    ⟨(some 4), .p (.mv (.t 8)), none, 0, 0⟩] false)
  .ret)),
  [.t 4]⟩

/-- (*jettison/check.checker).refs$1 -/
def q_check_checker_refs_1 : AFn := ⟨12,
  (.seq (.reg [⟨(some 4), .e (.box (.t 0)), none, 0, 0⟩,
    ⟨(some 5), .p (.mv (.c (.bool false))), none, 0, 0⟩] false)
  (.seq (.reg [⟨(some 6), .r (.load 1 false (.t 1)), none, 0, 0⟩,
    ⟨(some 7), .r (.load 6 true (.t 4)), none, 0, 0⟩,
    ⟨(some 8), .r (.load 1 false (.t 2)), none, 0, 0⟩,
    ⟨(some 9), .r (.load 1 false (.t 3)), none, 0, 0⟩,
    ⟨(some 10), .e (.call (.c (.fn (.func 121) [] [])) [(.t 6), (.t 7), (.t 8), (.t 9)]), none, 0, 0⟩,
    ⟨(some 11), .p (.un .not (.t 10)), none, 0, 0⟩,
    ⟨(some 5), .p (.mv (.t 11)), none, 0, 0⟩] false)
  .ret)),
  [.t 5]⟩

/-- (*jettison/check.checker).has -/
def q_check_checker_has : AFn := ⟨16,
  (.seq (.reg [⟨(some 3), .e (.box (.t 0)), none, 0, 0⟩,
    ⟨(some 5), .e (.box (.t 2)), none, 0, 0⟩,
    ⟨(some 6), .p (.mv (.c (.bool false))), none, 0, 0⟩] false)
  (.seq (.reg [⟨(some 7), .p (.mv (.t 1)), none, 0, 0⟩,
    ⟨(some 8), .p (.len (.t 7)), none, 0, 0⟩,
    ⟨(some 9), .p (.bin .gtr .other (.t 8) (.c (.int .i64 0))), none, 0, 0⟩,
    ⟨(some 10), .p (.mv (.t 9)), none, 0, 0⟩,
    ⟨(some 11), .p (.mv (.t 1)), (some (10, true)), 0, 0⟩,
    ⟨(some 12), .p (.mkF (.func 195) [] [(.t 3), (.t 5)]), (some (10, true)), 0, 0⟩,
    ⟨(some 13), .e (.call (.c (.fn (.func 194) [] [])) [(.t 11), (.t 12)]), (some (10, true)), 0, 0⟩,
    ⟨(some 14), .p (.un .not (.t 13)), (some (10, true)), 0, 0⟩,
    ⟨(some 15), .p (.pick (.t 10) (.t 14) (.c (.bool false))), none, 0, 0⟩,
    ⟨(some 6), .p (.mv (.t 15)), none, 0, 0⟩] false)
  .ret)),
  [.t 6]⟩

def q_strings_trimLeftByte_b0 : ACode :=
  (.seq (.seq (.reg [⟨(some 5), .p (.mv (.t 0)), none, 0, 0⟩,
        ⟨(some 6), .p (.lenS (.t 5)), none, 0, 0⟩,
        ⟨(some 7), .p (.bin .gtr .other (.t 6) (.c (.int .i64 0))), none, 0, 0⟩,
        ⟨(some 8), .p (.mv (.t 7)), none, 0, 0⟩,
        ⟨(some 9), .p (.mv (.t 0)), (some (8, true)), 0, 0⟩,
        ⟨(some 10), .p (.idxStr (.t 9) (.c (.int .i64 0))), (some (8, true)), 0, 0⟩,
        ⟨(some 11), .p (.mv (.t 1)), (some (8, true)), 0, 0⟩,
        ⟨(some 12), .p (.bin .eql .other (.t 10) (.t 11)), (some (8, true)), 0, 0⟩,
        ⟨(some 13), .p (.pick (.t 8) (.t 12) (.c (.bool false))), none, 0, 0⟩] false)
      (.cond (.t 13)
       .skip
       (.exit 0)))
     (.block 1
      (.reg [⟨(some 14), .p (.mv (.t 0)), none, 0, 0⟩,
       ⟨(some 15), .p (.slcStr (.t 14) (some (.c (.int .i64 1))) none), none, 0, 0⟩,
       ⟨(some 0), .p (.mv (.t 15)), none, 0, 0⟩] false)))

/-- strings.trimLeftByte -/
def q_strings_trimLeftByte : AFn := ⟨17,
  (.seq (.reg [⟨(some 4), .p (.mv (.c (.str []))), none, 0, 0⟩] false)
  (.seq (.block 0
    (.loop q_strings_trimLeftByte_b0))
  (.seq (.reg [⟨(some 16), .p (.mv (.t 0)), none, 0, 0⟩,
    ⟨(some 4), .p (.mv (.t 16)), none, 0, 0⟩] false)
  .ret))),
  [.t 4]⟩

def q_strings_makeASCIISet_b0 : ACode :=
  (.seq (.seq (.reg [⟨(some 6), .p (.mv (.t 4)), none, 0, 0⟩,
        ⟨(some 7), .p (.mv (.t 0)), none, 0, 0⟩,
        ⟨(some 8), .p (.lenS (.t 7)), none, 0, 0⟩,
        ⟨(some 9), .p (.bin .lss .other (.t 6) (.t 8)), none, 0, 0⟩] false)
      (.cond (.t 9)
       .skip
       (.exit 0)))
     (.seq (.block 1
       (.seq (.reg [⟨(some 12), .p (.mv (.t 0)), none, 0, 0⟩,
         ⟨(some 13), .p (.mv (.t 4)), none, 0, 0⟩,
         ⟨(some 14), .p (.idxStr (.t 12) (.t 13)), none, 0, 0⟩,
         ⟨(some 5), .p (.mv (.t 14)), none, 0, 0⟩] false)
       (.seq (.seq (.reg [⟨(some 15), .p (.mv (.t 5)), none, 0, 0⟩,
          ⟨(some 16), .p (.bin .geq .other (.t 15) (.c (.int .u8 128))), none, 0, 0⟩] false)
        (.cond (.t 16)
         (.seq (.reg [⟨(some 17), .r (.load 256 true (.t 2)), none, 0, 0⟩,
           ⟨none, .e (.store 256 (.t 2) (.t 17)), none, 0, 0⟩,
           ⟨(some 3), .p (.mv (.c (.bool false))), none, 0, 0⟩] false)
         .ret)
         .skip))
       (.reg [⟨(some 18), .p (.mv (.t 5)), none, 0, 0⟩,
        ⟨(some 19), .p (.iaddrA 256 1 (.t 2) (.t 18)), none, 0, 0⟩,
        ⟨none, .e (.store 1 (.t 19) (.c (.bool true))), none, 0, 0⟩] false))))
     (.reg [⟨(some 10), .p (.mv (.t 4)), none, 0, 0⟩,
      ⟨(some 11), .p (.bin .add .other (.t 10) (.c (.int .i64 1))), none, 0, 0⟩,
      ⟨(some 4), .p (.mv (.t 11)), none, 0, 0⟩] false)))

/-- strings.makeASCIISet -/
def q_strings_makeASCIISet : AFn := ⟨21,
  (.seq (.reg [⟨(some 2), .al [(.bool false), (.bool false), (.bool false), (.bool false), (.bool false), (.bool false), (.bool false), (.bool false), (.bool false), (.bool false), (.bool false), (.bool false), (.bool false), (.bool false), (.bool false), (.bool false), (.bool false), (.bool false), (.bool false), (.bool false), (.bool false), (.bool false), (.bool false), (.bool false), (.bool false), (.bool false), (.bool false), (.bool false), (.bool false), (.bool false), (.bool false), (.bool false), (.bool false), (.bool false), (.bool false), (.bool false), (.bool false), (.bool false), (.bool false), (.bool false), (.bool false), (.bool false), (.bool false), (.bool false), (.bool false), (.bool false), (.bool false), (.bool false), (.bool false), (.bool false), (.bool false), (.bool false), (.bool false), (.bool false), (.bool false), (.bool false), (.bool false), (.bool false), (.bool false), (.bool false), (.bool false), (.bool false), (.bool false), (.bool false), (.bool false), (.bool false), (.bool false), (.bool false), (.bool false), (.bool false), (.bool false), (.bool false), (.bool false), (.bool false), (.bool false), (.bool false), (.bool false), (.bool false), (.bool false), (.bool false), (.bool false), (.bool false), (.bool false), (.bool false), (.bool false), (.bool false), (.bool false), (.bool false), (.bool false), (.bool false), (.bool false), (.bool false), (.bool false), (.bool false), (.bool false), (.bool false), (.bool false), (.bool false), (.bool false), (.bool false), (.bool false), (.bool false), (.bool false), (.bool false), (.bool false), (.bool false), (.bool false), (.bool false), (.bool false), (.bool false), (.bool false), (.bool false), (.bool false), (.bool false), (.bool false), (.bool false), (.bool false), (.bool false), (.bool false), (.bool false), (.bool false), (.bool false), (.bool false), (.bool false), (.bool false), (.bool false), (.bool false), (.bool false), (.bool false), (.bool false), (.bool false), (.bool false), (.bool false), (.bool false), (.bool false), (.bool false), (.bool false), (.bool false), (.bool false), (.bool false), (.bool false), (.bool false), (.bool false), (.bool false), (.bool false), (.bool false), (.bool false), (.bool false), (.bool false), (.bool false), (.bool false), (.bool false), (.bool false), (.bool false), (.bool false), (.bool false), (.bool false), (.bool false), (.bool false), (.bool false), (.bool false), (.bool false), (.bool false), (.bool false), (.bool false), (.bool false), (.bool false), (.bool false), (.bool false), (.bool false), (.bool false), (.bool false), (.bool false), (.bool false), (.bool false), (.bool false), (.bool false), (.bool false), (.bool false), (.bool false), (.bool false), (.bool false), (.bool false), (.bool false), (.bool false), (.bool false), (.bool false), (.bool false), (.bool false), (.bool false), (.bool false), (.bool false), (.bool false), (.bool false), (.bool false), (.bool false), (.bool false), (.bool false), (.bool false), (.bool false), (.bool false), (.bool false), (.bool false), (.bool false), (.bool false), (.bool false), (.bool false), (.bool false), (.bool false), (.bool false), (.bool false), (.bool false), (.bool false), (.bool false), (.bool false), (.bool false), (.bool false), (.bool false), (.bool false), (.bool false), (.bool false), (.bool false), (.bool false), (.bool false), (.bool false), (.bool false), (.bool false), (.bool false), (.bool false), (.bool false), (.bool false), (.bool false), (.bool false), (.bool false), (.bool false), (.bool false), (.bool false), (.bool false), (.bool false), (.bool false), (.bool false), (.bool false), (.bool false), (.bool false), (.bool false), (.bool false), (.bool false), (.bool false), (.bool false), (.bool false), (.bool false), (.bool false), (.bool false), (.bool false), (.bool false), (.bool false)], none, 0, 0⟩,
    ⟨(some 3), .p (.mv (.c (.bool false))), none, 0, 0⟩] false)
  (.seq (.seq (.reg [⟨(some 4), .p (.mv (.c (.int .i64 0))), none, 0, 0⟩] false)
   (.block 0
    (.loop q_strings_makeASCIISet_b0)))
  (.seq (.reg [⟨(some 20), .r (.load 256 true (.t 2)), none, 0, 0⟩,
    ⟨none, .e (.store 256 (.t 2) (.t 20)), none, 0, 0⟩,
    ⟨(some 3), .p (.mv (.c (.bool true))), none, 0, 0⟩] false)
  .ret))),
  [.c 2 256 true, .t 3]⟩

def q_strings_trimLeftASCII_b0 : ACode :=
  (.seq (.seq (.reg [⟨(some 5), .p (.mv (.t 0)), none, 0, 0⟩,
        ⟨(some 6), .p (.lenS (.t 5)), none, 0, 0⟩,
        ⟨(some 7), .p (.bin .gtr .other (.t 6) (.c (.int .i64 0))), none, 0, 0⟩] false)
      (.cond (.t 7)
       .skip
       (.exit 0)))
     (.block 1
      (.seq (.seq (.reg [⟨(some 8), .p (.mv (.t 1)), none, 0, 0⟩,
         ⟨(some 9), .p (.mv (.t 0)), none, 0, 0⟩,
         ⟨(some 10), .p (.idxStr (.t 9) (.c (.int .i64 0))), none, 0, 0⟩,
         ⟨(some 11), .e (.call (.c (.fn (.func 196) [] [])) [(.t 8), (.t 10)]), none, 0, 0⟩,
         ⟨(some 12), .p (.un .not (.t 11)), none, 0, 0⟩] false)
       (.cond (.t 12)
        (.exit 0)
        .skip))
      (.reg [⟨(some 13), .p (.mv (.t 0)), none, 0, 0⟩,
       ⟨(some 14), .p (.slcStr (.t 13) (some (.c (.int .i64 1))) none), none, 0, 0⟩,
       ⟨(some 0), .p (.mv (.t 14)), none, 0, 0⟩] false))))

/-- strings.trimLeftASCII -/
def q_strings_trimLeftASCII : AFn := ⟨16,
  (.seq (.reg [⟨(some 4), .p (.mv (.c (.str []))), none, 0, 0⟩] false)
  (.seq (.block 0
    (.loop q_strings_trimLeftASCII_b0))
  (.seq (.reg [⟨(some 15), .p (.mv (.t 0)), none, 0, 0⟩,
    ⟨(some 4), .p (.mv (.t 15)), none, 0, 0⟩] false)
  .ret))),
  [.t 4]⟩

def q_strings_trimLeftUnicode_b0 : ACode :=
  (.seq (.seq (.reg [⟨(some 7), .p (.mv (.t 0)), none, 0, 0⟩,
        ⟨(some 8), .p (.lenS (.t 7)), none, 0, 0⟩,
        ⟨(some 9), .p (.bin .gtr .other (.t 8) (.c (.int .i64 0))), none, 0, 0⟩] false)
      (.cond (.t 9)
       .skip
       (.exit 0)))
     (.block 1
      (.seq (.reg [⟨(some 11), .p (.mv (.t 0)), none, 0, 0⟩,
        ⟨(some 12), .e (.call (.c (.fn (.func 197) [] [])) [(.t 11)]), none, 0, 0⟩,
        ⟨(some 10), .p (.mv (.t 12)), none, 0, 0⟩,
        ⟨(some 13), .p (.ext 0 (.t 10)), none, 0, 0⟩,
        ⟨(some 14), .p (.ext 1 (.t 10)), none, 0, 0⟩,
        ⟨(some 5), .p (.mv (.t 13)), none, 0, 0⟩,
        ⟨(some 6), .p (.mv (.t 14)), none, 0, 0⟩] false)
      (.seq (.seq (.reg [⟨(some 15), .p (.mv (.t 1)), none, 0, 0⟩,
         ⟨(some 16), .p (.mv (.t 5)), none, 0, 0⟩,
         ⟨(some 17), .e (.call (.c (.fn (.func 198) [] [])) [(.t 15), (.t 16)]), none, 0, 0⟩,
         ⟨(some 18), .p (.un .not (.t 17)), none, 0, 0⟩] false)
       (.cond (.t 18)
        (.exit 0)
        .skip))
      (.reg [⟨(some 19), .p (.mv (.t 0)), none, 0, 0⟩,
       ⟨(some 20), .p (.mv (.t 6)), none, 0, 0⟩,
       ⟨(some 21), .p (.slcStr (.t 19) (some (.t 20)) none), none, 0, 0⟩,
       ⟨(some 0), .p (.mv (.t 21)), none, 0, 0⟩] false)))))

/-- strings.trimLeftUnicode -/
def q_strings_trimLeftUnicode : AFn := ⟨23,
  (.seq (.reg [⟨(some 4), .p (.mv (.c (.str []))), none, 0, 0⟩] false)
  (.seq (.block 0
    (.loop q_strings_trimLeftUnicode_b0))
  (.seq (.reg [⟨(some 22), .p (.mv (.t 0)), none, 0, 0⟩,
    ⟨(some 4), .p (.mv (.t 22)), none, 0, 0⟩] false)
  .ret))),
  [.t 4]⟩

def q_lex_first_b0 : ACode :=
  (.seq (.reg [⟨(some 10), .e (.next (.t 9)), none, 0, 0⟩,
       ⟨(some 11), .p (.ext 0 (.t 10)), none, 0, 0⟩] false)
     (.seq (.cond (.t 11)
       .skip
       (.exit 0))
     (.block 1
      (.seq (.reg [⟨(some 12), .p (.ext 1 (.t 10)), none, 0, 0⟩,
        ⟨(some 13), .p (.ext 2 (.t 10)), none, 0, 0⟩,
        ⟨(some 5), .p (.mv (.t 12)), none, 0, 0⟩,
        ⟨(some 6), .p (.mv (.t 13)), none, 0, 0⟩] false)
      (.seq (.reg [⟨(some 14), .p (.mv (.t 6)), none, 0, 0⟩,
        ⟨(some 15), .p (.bin .eql .other (.t 14) (.c (.int .i32 65533))), none, 0, 0⟩,
        ⟨(some 16), .p (.mv (.t 15)), none, 0, 0⟩,
        ⟨(some 17), .p (.mv (.t 0)), (some (16, true)), 0, 0⟩,
        ⟨(some 18), .p (.mv (.t 5)), (some (16, true)), 0, 0⟩,
        ⟨(some 19), .p (.slcStr (.t 17) (some (.t 18)) none), (some (16, true)), 0, 0⟩,
        ⟨(some 20), .e (.call (.c (.fn (.func 199) [] [])) [(.t 19), (.c (.str [239, 191, 189]))]), (some (16, true)), 0, 0⟩,
        ⟨(some 21), .p (.un .not (.t 20)), (some (16, true)), 0, 0⟩,
        ⟨(some 22), .p (.pick (.t 16) (.t 21) (.c (.bool false))), none, 0, 0⟩,
        ⟨(some 7), .p (.mv (.t 22)), none, 0, 0⟩] false)
      (.seq (.reg [⟨(some 23), .p (.mv (.t 7)), none, 0, 0⟩,
        ⟨(some 24), .p (.mv (.t 23)), none, 0, 0⟩,
        ⟨(some 25), .p (.mv (.t 1)), (some (24, false)), 0, 0⟩,
        ⟨(some 26), .p (.mv (.t 6)), (some (24, false)), 0, 0⟩,
        ⟨(some 27), .e (.call (.t 25) [(.t 26)]), (some (24, false)), 0, 0⟩,
        ⟨(some 28), .p (.un .not (.t 27)), (some (24, false)), 0, 0⟩,
        ⟨(some 29), .p (.pick (.t 24) (.c (.bool true)) (.t 28)), none, 0, 0⟩] false)
      (.cond (.t 29)
       (.seq (.reg [⟨(some 30), .p (.mv (.t 5)), none, 0, 0⟩,
         ⟨(some 4), .p (.mv (.t 30)), none, 0, 0⟩] false)
       .ret)
       .skip)))))))

/-- jettison/lex.first -/
def q_lex_first : AFn := ⟨33,
  (.seq (.reg [⟨(some 4), .p (.mv (.c (.int .i64 0))), none, 0, 0⟩] false)
  (.seq (.seq (.reg [⟨(some 8), .p (.mv (.t 0)), none, 0, 0⟩,
     ⟨(some 9), .e (.range (.t 8)), none, 0, 0⟩] false)
   (.block 0
    (.loop q_lex_first_b0)))
  (.seq (.reg [⟨(some 31), .p (.mv (.t 0)), none, 0, 0⟩,
    ⟨(some 32), .p (.lenS (.t 31)), none, 0, 0⟩,
    ⟨(some 4), .p (.mv (.t 32)), none, 0, 0⟩] false)
  .ret))),
  [.t 4]⟩

/-- jettison/lex.letter -/
def q_lex_letter : AFn := ⟨6,
  (.seq (.reg [⟨(some 2), .p (.mv (.c (.bool false))), none, 0, 0⟩] false)
  (.seq (.reg [⟨(some 3), .p (.mv (.t 0)), none, 0, 0⟩,
    ⟨(some 4), .p (.convChr (.t 3)), none, 0, 0⟩,
    ⟨(some 5), .e (.call (.c (.fn (.func 70) [] [])) [(.t 4)]), none, 0, 0⟩,
    ⟨(some 2), .p (.mv (.t 5)), none, 0, 0⟩] false)
  .ret)),
  [.t 2]⟩

/-- jettison/lex.name -/
def q_lex_name : AFn := ⟨24,
  (.seq (.reg [⟨(some 2), .al [(.int .i64 0), (.str []), (.int .i64 0), (.int .i64 0)], none, 0, 0⟩,
    ⟨(some 3), .p (.mv (.c (.bool false))), none, 0, 0⟩] false)
  (.seq (.reg [⟨(some 5), .p (.mv (.t 0)), none, 0, 0⟩,
    ⟨(some 6), .p (.mv (.t 0)), none, 0, 0⟩,
    ⟨(some 7), .e (.call (.c (.fn (.func 162) [] [])) [(.t 6), (.c (.fn (.func 200) [] []))]), none, 0, 0⟩,
    ⟨(some 8), .p (.slcStr (.t 5) none (some (.t 7))), none, 0, 0⟩,
    ⟨(some 9), .p (.build [(.int .i64 0), (.str []), (.int .i64 0), (.int .i64 0)] [(0, 1, (.c (.int .i64 1))), (1, 1, (.t 8))]), none, 0, 0⟩,
    ⟨(some 4), .al [(.int .i64 0), (.str []), (.int .i64 0), (.int .i64 0)], none, 0, 0⟩,
    ⟨none, .e (.store 4 (.t 4) (.t 9)), none, 0, 0⟩] false)
  (.seq (.seq (.reg [⟨(some 10), .p (.faddr 1 (.t 4)), none, 0, 0⟩,
     ⟨(some 11), .r (.load 1 false (.t 10)), none, 0, 0⟩,
     ⟨(some 12), .p (.bin .eql .other (.t 11) (.c (.str [87, 73, 84, 72, 73, 78]))), none, 0, 0⟩,
     ⟨(some 13), .p (.mv (.t 12)), none, 0, 0⟩,
     ⟨(some 14), .p (.faddr 1 (.t 4)), (some (13, false)), 0, 0⟩,
     ⟨(some 15), .r (.load 1 false (.t 14)), (some (13, false)), 0, 0⟩,
     ⟨(some 16), .p (.bin .eql .other (.t 15) (.c (.str [66, 89]))), (some (13, false)), 0, 0⟩,
     ⟨(some 17), .p (.pick (.t 13) (.c (.bool true)) (.t 16)), none, 0, 0⟩] false)
   (.cond (.t 17)
    (.seq (.reg [⟨(some 18), .p (.faddr 0 (.t 4)), none, 0, 0⟩,
      ⟨none, .e (.store 1 (.t 18) (.c (.int .i64 4))), none, 0, 0⟩] false)
    (.seq (.reg [⟨(some 19), .r (.load 4 true (.t 4)), none, 0, 0⟩,
      ⟨none, .e (.store 4 (.t 2) (.t 19)), none, 0, 0⟩,
      ⟨(some 3), .p (.mv (.c (.bool true))), none, 0, 0⟩] false)
    .ret))
    .skip))
  (.seq (.reg [⟨(some 20), .r (.load 4 true (.t 4)), none, 0, 1⟩,
    ⟨(some 21), .p (.faddr 1 (.t 4)), none, 0, 0⟩,
    ⟨(some 22), .r (.load 1 false (.t 21)), none, 0, 0⟩,
    ⟨(some 23), .e (.call (.c (.fn (.func 70) [] [])) [(.t 22)]), none, 0, 0⟩,
    ⟨none, .e (.store 4 (.t 2) (.t 20)), none, 0, 0⟩,
    ⟨(some 3), .p (.mv (.t 23)), none, 0, 0⟩] true)
  .ret)))),
  [.c 2 4 true, .t 3]⟩

/-- jettison/lex.digit -/
def q_lex_digit : AFn := ⟨5,
  (.seq (.reg [⟨(some 2), .p (.mv (.c (.bool false))), none, 0, 0⟩] false)
  (.seq (.reg [⟨(some 3), .p (.mv (.t 0)), none, 0, 0⟩,
    ⟨(some 4), .e (.call (.c (.fn (.func 198) [] [])) [(.c (.str [48, 49, 50, 51, 52, 53, 54, 55, 56, 57])), (.t 3)]), none, 0, 0⟩,
    ⟨(some 2), .p (.mv (.t 4)), none, 0, 0⟩] false)
  .ret)),
  [.t 2]⟩

end Jet
