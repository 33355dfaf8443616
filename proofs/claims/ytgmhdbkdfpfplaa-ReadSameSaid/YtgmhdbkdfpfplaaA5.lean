/- bytebarnref07.Same. -/
import Derived.Test.YtgmhdbkdfpfplaaA4
set_option linter.unusedVariables false
set_option linter.unusedSimpArgs false
namespace Go.Ab
open Go.Proofs
/- bytebarn/bytebarnref07.Same -/
def cc12 : CC :=
 .seq (.reg [
   ⟨(some 2), .box (.t 0), none⟩,
   ⟨(some 3), .box (.t 1), none⟩,
   ⟨(some 4), .mv (.c (.p (.bool false))), none⟩])
 (.seq (.seq (.reg [
   ⟨(some 10), .fa 0 (.t 2), none⟩,
   ⟨(some 11), .ld 1 false (.t 10), none⟩,
   ⟨(some 12), .len false (.t 11), none⟩,
   ⟨(some 13), .fa 0 (.t 3), none⟩,
   ⟨(some 14), .ld 1 false (.t 13), none⟩,
   ⟨(some 15), .len false (.t 14), none⟩,
   ⟨(some 16), .cmp .neq (.t 12) (.t 15), none⟩,
   ⟨(some 17), .mv (.t 16), none⟩,
   ⟨(some 18), .fa 1 (.t 2), (some (17, false))⟩,
   ⟨(some 19), .ld 1 false (.t 18), (some (17, false))⟩,
   ⟨(some 20), .len false (.t 19), (some (17, false))⟩,
   ⟨(some 21), .fa 1 (.t 3), (some (17, false))⟩,
   ⟨(some 22), .ld 1 false (.t 21), (some (17, false))⟩,
   ⟨(some 23), .len false (.t 22), (some (17, false))⟩,
   ⟨(some 24), .cmp .neq (.t 20) (.t 23), (some (17, false))⟩,
   ⟨(some 25), .pick (.t 17) (.c (.p (.bool true))) (.t 24), none⟩,
   ⟨(some 26), .mv (.t 25), none⟩,
   ⟨(some 27), .fa 3 (.t 2), (some (26, false))⟩,
   ⟨(some 28), .ld 1 false (.t 27), (some (26, false))⟩,
   ⟨(some 29), .len false (.t 28), (some (26, false))⟩,
   ⟨(some 30), .fa 3 (.t 3), (some (26, false))⟩,
   ⟨(some 31), .ld 1 false (.t 30), (some (26, false))⟩,
   ⟨(some 32), .len false (.t 31), (some (26, false))⟩,
   ⟨(some 33), .cmp .neq (.t 29) (.t 32), (some (26, false))⟩,
   ⟨(some 34), .pick (.t 26) (.c (.p (.bool true))) (.t 33), none⟩,
   ⟨(some 35), .mv (.t 34), none⟩,
   ⟨(some 36), .fa 4 (.t 2), (some (35, false))⟩,
   ⟨(some 37), .ld 1 false (.t 36), (some (35, false))⟩,
   ⟨(some 38), .len false (.t 37), (some (35, false))⟩,
   ⟨(some 39), .fa 4 (.t 3), (some (35, false))⟩,
   ⟨(some 40), .ld 1 false (.t 39), (some (35, false))⟩,
   ⟨(some 41), .len false (.t 40), (some (35, false))⟩,
   ⟨(some 42), .cmp .neq (.t 38) (.t 41), (some (35, false))⟩,
   ⟨(some 43), .pick (.t 35) (.c (.p (.bool true))) (.t 42), none⟩,
   ⟨(some 44), .mv (.t 43), none⟩,
   ⟨(some 45), .fa 5 (.t 2), (some (44, false))⟩,
   ⟨(some 46), .ld 1 false (.t 45), (some (44, false))⟩,
   ⟨(some 47), .len false (.t 46), (some (44, false))⟩,
   ⟨(some 48), .fa 5 (.t 3), (some (44, false))⟩,
   ⟨(some 49), .ld 1 false (.t 48), (some (44, false))⟩,
   ⟨(some 50), .len false (.t 49), (some (44, false))⟩,
   ⟨(some 51), .cmp .neq (.t 47) (.t 50), (some (44, false))⟩,
   ⟨(some 52), .pick (.t 44) (.c (.p (.bool true))) (.t 51), none⟩,
   ⟨(some 53), .mv (.t 52), none⟩,
   ⟨(some 54), .fa 6 (.t 2), (some (53, false))⟩,
   ⟨(some 55), .ld 1 false (.t 54), (some (53, false))⟩,
   ⟨(some 56), .len false (.t 55), (some (53, false))⟩,
   ⟨(some 57), .fa 6 (.t 3), (some (53, false))⟩,
   ⟨(some 58), .ld 1 false (.t 57), (some (53, false))⟩,
   ⟨(some 59), .len false (.t 58), (some (53, false))⟩,
   ⟨(some 60), .cmp .neq (.t 56) (.t 59), (some (53, false))⟩,
   ⟨(some 61), .pick (.t 53) (.c (.p (.bool true))) (.t 60), none⟩])
 (.cond (.t 61)
  (.seq (.reg [
    ⟨(some 4), .mv (.c (.p (.bool false))), none⟩])
  (.ret))
  (.skip)))
 (.seq (.seq (.reg [
   ⟨(some 62), .fa 8 (.t 2), none⟩,
   ⟨(some 63), .ld 1 false (.t 62), none⟩,
   ⟨(some 64), .len false (.t 63), none⟩,
   ⟨(some 65), .fa 8 (.t 3), none⟩,
   ⟨(some 66), .ld 1 false (.t 65), none⟩,
   ⟨(some 67), .len false (.t 66), none⟩,
   ⟨(some 68), .cmp .neq (.t 64) (.t 67), none⟩,
   ⟨(some 69), .mv (.t 68), none⟩,
   ⟨(some 70), .fa 9 (.t 2), (some (69, false))⟩,
   ⟨(some 71), .ld 1 false (.t 70), (some (69, false))⟩,
   ⟨(some 72), .len false (.t 71), (some (69, false))⟩,
   ⟨(some 73), .fa 9 (.t 3), (some (69, false))⟩,
   ⟨(some 74), .ld 1 false (.t 73), (some (69, false))⟩,
   ⟨(some 75), .len false (.t 74), (some (69, false))⟩,
   ⟨(some 76), .cmp .neq (.t 72) (.t 75), (some (69, false))⟩,
   ⟨(some 77), .pick (.t 69) (.c (.p (.bool true))) (.t 76), none⟩,
   ⟨(some 78), .mv (.t 77), none⟩,
   ⟨(some 79), .fa 10 (.t 2), (some (78, false))⟩,
   ⟨(some 80), .ld 1 false (.t 79), (some (78, false))⟩,
   ⟨(some 81), .len false (.t 80), (some (78, false))⟩,
   ⟨(some 82), .fa 10 (.t 3), (some (78, false))⟩,
   ⟨(some 83), .ld 1 false (.t 82), (some (78, false))⟩,
   ⟨(some 84), .len false (.t 83), (some (78, false))⟩,
   ⟨(some 85), .cmp .neq (.t 81) (.t 84), (some (78, false))⟩,
   ⟨(some 86), .pick (.t 78) (.c (.p (.bool true))) (.t 85), none⟩,
   ⟨(some 87), .mv (.t 86), none⟩,
   ⟨(some 88), .fa 2 (.t 2), (some (87, false))⟩,
   ⟨(some 89), .ld 1 false (.t 88), (some (87, false))⟩,
   ⟨(some 90), .fa 2 (.t 3), (some (87, false))⟩,
   ⟨(some 91), .ld 1 false (.t 90), (some (87, false))⟩,
   ⟨(some 92), .call 68 [(.t 89), (.t 91)], (some (87, false))⟩,
   ⟨(some 93), .not (.t 92), (some (87, false))⟩,
   ⟨(some 94), .pick (.t 87) (.c (.p (.bool true))) (.t 93), none⟩,
   ⟨(some 95), .mv (.t 94), none⟩,
   ⟨(some 96), .fa 7 (.t 2), (some (95, false))⟩,
   ⟨(some 97), .ld 1 false (.t 96), (some (95, false))⟩,
   ⟨(some 98), .fa 7 (.t 3), (some (95, false))⟩,
   ⟨(some 99), .ld 1 false (.t 98), (some (95, false))⟩,
   ⟨(some 100), .call 68 [(.t 97), (.t 99)], (some (95, false))⟩,
   ⟨(some 101), .not (.t 100), (some (95, false))⟩,
   ⟨(some 102), .pick (.t 95) (.c (.p (.bool true))) (.t 101), none⟩])
 (.cond (.t 102)
  (.seq (.reg [
    ⟨(some 4), .mv (.c (.p (.bool false))), none⟩])
  (.ret))
  (.skip)))
 (.seq (.seq (.reg [
   ⟨(some 5), .mv (.c (.p (.int .i64 0))), none⟩])
 (.block 0 (.loop [2, 3, 5]
   (.seq (.seq (.reg [
     ⟨(some 103), .mv (.t 5), none⟩,
     ⟨(some 104), .fa 0 (.t 2), none⟩,
     ⟨(some 105), .ld 1 false (.t 104), none⟩,
     ⟨(some 106), .len false (.t 105), none⟩,
     ⟨(some 107), .cmp .lss (.t 103) (.t 106), none⟩])
   (.cond (.t 107)
    (.skip)
    (.exit 0)))
   (.seq (.block 1 (.seq (.regd [
      ⟨(some 110), .fa 0 (.t 2), none⟩,
      ⟨(some 111), .ld 1 false (.t 110), none⟩,
      ⟨(some 112), .mv (.t 5), none⟩,
      ⟨(some 113), .ia 2 (.t 111) (.t 112), none⟩,
      ⟨(some 114), .fa 0 (.t 113), none⟩,
      ⟨(some 115), .ld 1 false (.t 114), none⟩,
      ⟨(some 116), .fa 0 (.t 3), none⟩,
      ⟨(some 117), .ld 1 false (.t 116), none⟩,
      ⟨(some 118), .mv (.t 5), none⟩,
      ⟨(some 119), .ia 2 (.t 117) (.t 118), none⟩,
      ⟨(some 120), .fa 0 (.t 119), none⟩,
      ⟨(some 121), .ld 1 false (.t 120), none⟩,
      ⟨(some 122), .call 69 [(.t 115), (.t 121)], none⟩,
      ⟨(some 123), .not (.t 122), none⟩,
      ⟨(some 124), .mv (.t 123), none⟩,
      ⟨(some 125), .fa 0 (.t 2), (some (124, false))⟩,
      ⟨(some 126), .ld 1 false (.t 125), (some (124, false))⟩,
      ⟨(some 127), .mv (.t 5), (some (124, false))⟩,
      ⟨(some 128), .ia 2 (.t 126) (.t 127), (some (124, false))⟩,
      ⟨(some 129), .fa 1 (.t 128), (some (124, false))⟩,
      ⟨(some 130), .ld 1 false (.t 129), (some (124, false))⟩,
      ⟨(some 131), .fa 0 (.t 3), (some (124, false))⟩,
      ⟨(some 132), .ld 1 false (.t 131), (some (124, false))⟩,
      ⟨(some 133), .mv (.t 5), (some (124, false))⟩,
      ⟨(some 134), .ia 2 (.t 132) (.t 133), (some (124, false))⟩,
      ⟨(some 135), .fa 1 (.t 134), (some (124, false))⟩,
      ⟨(some 136), .ld 1 false (.t 135), (some (124, false))⟩,
      ⟨(some 137), .call 69 [(.t 130), (.t 136)], (some (124, false))⟩,
      ⟨(some 138), .not (.t 137), (some (124, false))⟩,
      ⟨(some 139), .pick (.t 124) (.c (.p (.bool true))) (.t 138), none⟩] [[], [], [], [], [], [], [], [], [], [], [], [], [], [], [], [], [], [], [], [], [], [], [], [], [], [], [], [], [], []] [false, false, false, false, false, false, true, true, true, true, true, true, true, true, true, false, false, false, false, false, false, false, false, true, true, true, true, true, true, true])
    (.cond (.t 139)
     (.seq (.reg [
       ⟨(some 4), .mv (.c (.p (.bool false))), none⟩])
     (.ret))
     (.skip))))
   (.reg [
     ⟨(some 108), .mv (.t 5), none⟩,
     ⟨(some 109), .ari .add .i64 (.t 108) (.c (.p (.int .i64 1))), none⟩,
     ⟨(some 5), .mv (.t 109), none⟩]))))))
 (.seq (.seq (.reg [
   ⟨(some 6), .mv (.c (.p (.int .i64 0))), none⟩])
 (.block 2 (.loop [2, 3, 6]
   (.seq (.seq (.reg [
     ⟨(some 140), .mv (.t 6), none⟩,
     ⟨(some 141), .fa 1 (.t 2), none⟩,
     ⟨(some 142), .ld 1 false (.t 141), none⟩,
     ⟨(some 143), .len false (.t 142), none⟩,
     ⟨(some 144), .cmp .lss (.t 140) (.t 143), none⟩])
   (.cond (.t 144)
    (.skip)
    (.exit 2)))
   (.seq (.block 3 (.seq (.regd [
      ⟨(some 147), .fa 1 (.t 2), none⟩,
      ⟨(some 148), .ld 1 false (.t 147), none⟩,
      ⟨(some 149), .mv (.t 6), none⟩,
      ⟨(some 150), .ia 9 (.t 148) (.t 149), none⟩,
      ⟨(some 151), .ld 9 true (.t 150), none⟩,
      ⟨(some 152), .fa 1 (.t 3), none⟩,
      ⟨(some 153), .ld 1 false (.t 152), none⟩,
      ⟨(some 154), .mv (.t 6), none⟩,
      ⟨(some 155), .ia 9 (.t 153) (.t 154), none⟩,
      ⟨(some 156), .ld 9 true (.t 155), none⟩,
      ⟨(some 157), .aeq true [(0, 2), (1, 2), (2, 0), (3, 0), (4, 0), (5, 0), (6, 1), (7, 0), (8, 1)] (.t 151) (.t 156), none⟩] [[], [], [], [], [], [], [], [], [], [], []] [false, false, false, false, false, true, true, true, true, true, true])
    (.cond (.t 157)
     (.seq (.reg [
       ⟨(some 4), .mv (.c (.p (.bool false))), none⟩])
     (.ret))
     (.skip))))
   (.reg [
     ⟨(some 145), .mv (.t 6), none⟩,
     ⟨(some 146), .ari .add .i64 (.t 145) (.c (.p (.int .i64 1))), none⟩,
     ⟨(some 6), .mv (.t 146), none⟩]))))))
 (.seq (.seq (.reg [
   ⟨(some 7), .mv (.c (.p (.int .i64 0))), none⟩])
 (.block 4 (.loop [2, 3, 7]
   (.seq (.seq (.reg [
     ⟨(some 158), .mv (.t 7), none⟩,
     ⟨(some 159), .fa 3 (.t 2), none⟩,
     ⟨(some 160), .ld 1 false (.t 159), none⟩,
     ⟨(some 161), .len false (.t 160), none⟩,
     ⟨(some 162), .cmp .lss (.t 158) (.t 161), none⟩])
   (.cond (.t 162)
    (.skip)
    (.exit 4)))
   (.seq (.block 5 (.seq (.regd [
      ⟨(some 165), .fa 3 (.t 2), none⟩,
      ⟨(some 166), .ld 1 false (.t 165), none⟩,
      ⟨(some 167), .mv (.t 7), none⟩,
      ⟨(some 168), .ia 3 (.t 166) (.t 167), none⟩,
      ⟨(some 169), .ld 3 true (.t 168), none⟩,
      ⟨(some 170), .fa 3 (.t 3), none⟩,
      ⟨(some 171), .ld 1 false (.t 170), none⟩,
      ⟨(some 172), .mv (.t 7), none⟩,
      ⟨(some 173), .ia 3 (.t 171) (.t 172), none⟩,
      ⟨(some 174), .ld 3 true (.t 173), none⟩,
      ⟨(some 175), .aeq true [(0, 0), (1, 0), (2, 1)] (.t 169) (.t 174), none⟩] [[], [], [], [], [], [], [], [], [], [], []] [false, false, false, false, false, true, true, true, true, true, true])
    (.cond (.t 175)
     (.seq (.reg [
       ⟨(some 4), .mv (.c (.p (.bool false))), none⟩])
     (.ret))
     (.skip))))
   (.reg [
     ⟨(some 163), .mv (.t 7), none⟩,
     ⟨(some 164), .ari .add .i64 (.t 163) (.c (.p (.int .i64 1))), none⟩,
     ⟨(some 7), .mv (.t 164), none⟩]))))))
 (.seq (.seq (.reg [
   ⟨(some 8), .mv (.c (.p (.int .i64 0))), none⟩])
 (.block 6 (.loop [2, 3, 8]
   (.seq (.seq (.reg [
     ⟨(some 176), .mv (.t 8), none⟩,
     ⟨(some 177), .fa 4 (.t 2), none⟩,
     ⟨(some 178), .ld 1 false (.t 177), none⟩,
     ⟨(some 179), .len false (.t 178), none⟩,
     ⟨(some 180), .cmp .lss (.t 176) (.t 179), none⟩])
   (.cond (.t 180)
    (.skip)
    (.exit 6)))
   (.seq (.block 7 (.seq (.regd [
      ⟨(some 183), .fa 4 (.t 2), none⟩,
      ⟨(some 184), .ld 1 false (.t 183), none⟩,
      ⟨(some 185), .mv (.t 8), none⟩,
      ⟨(some 186), .ia 3 (.t 184) (.t 185), none⟩,
      ⟨(some 187), .ld 3 true (.t 186), none⟩,
      ⟨(some 188), .fa 4 (.t 3), none⟩,
      ⟨(some 189), .ld 1 false (.t 188), none⟩,
      ⟨(some 190), .mv (.t 8), none⟩,
      ⟨(some 191), .ia 3 (.t 189) (.t 190), none⟩,
      ⟨(some 192), .ld 3 true (.t 191), none⟩,
      ⟨(some 193), .aeq true [(0, 0), (1, 0), (2, 1)] (.t 187) (.t 192), none⟩] [[], [], [], [], [], [], [], [], [], [], []] [false, false, false, false, false, true, true, true, true, true, true])
    (.cond (.t 193)
     (.seq (.reg [
       ⟨(some 4), .mv (.c (.p (.bool false))), none⟩])
     (.ret))
     (.skip))))
   (.reg [
     ⟨(some 181), .mv (.t 8), none⟩,
     ⟨(some 182), .ari .add .i64 (.t 181) (.c (.p (.int .i64 1))), none⟩,
     ⟨(some 8), .mv (.t 182), none⟩]))))))
 (.seq (.seq (.reg [
   ⟨(some 9), .mv (.c (.p (.int .i64 0))), none⟩])
 (.block 8 (.loop [2, 3, 9]
   (.seq (.seq (.reg [
     ⟨(some 194), .mv (.t 9), none⟩,
     ⟨(some 195), .fa 6 (.t 2), none⟩,
     ⟨(some 196), .ld 1 false (.t 195), none⟩,
     ⟨(some 197), .len false (.t 196), none⟩,
     ⟨(some 198), .cmp .lss (.t 194) (.t 197), none⟩])
   (.cond (.t 198)
    (.skip)
    (.exit 8)))
   (.seq (.block 9 (.seq (.regd [
      ⟨(some 201), .fa 6 (.t 2), none⟩,
      ⟨(some 202), .ld 1 false (.t 201), none⟩,
      ⟨(some 203), .mv (.t 9), none⟩,
      ⟨(some 204), .ia 3 (.t 202) (.t 203), none⟩,
      ⟨(some 205), .ld 3 true (.t 204), none⟩,
      ⟨(some 206), .fa 6 (.t 3), none⟩,
      ⟨(some 207), .ld 1 false (.t 206), none⟩,
      ⟨(some 208), .mv (.t 9), none⟩,
      ⟨(some 209), .ia 3 (.t 207) (.t 208), none⟩,
      ⟨(some 210), .ld 3 true (.t 209), none⟩,
      ⟨(some 211), .aeq true [(0, 2), (1, 0), (2, 0)] (.t 205) (.t 210), none⟩] [[], [], [], [], [], [], [], [], [], [], []] [false, false, false, false, false, true, true, true, true, true, true])
    (.cond (.t 211)
     (.seq (.reg [
       ⟨(some 4), .mv (.c (.p (.bool false))), none⟩])
     (.ret))
     (.skip))))
   (.reg [
     ⟨(some 199), .mv (.t 9), none⟩,
     ⟨(some 200), .ari .add .i64 (.t 199) (.c (.p (.int .i64 1))), none⟩,
     ⟨(some 9), .mv (.t 200), none⟩]))))))
 (.seq (.reg [
   ⟨(some 212), .ld 11 true (.t 2), none⟩,
   ⟨(some 213), .ld 11 true (.t 3), none⟩,
   ⟨(some 214), .call 70 [(.t 212), (.t 213)], none⟩,
   ⟨(some 4), .mv (.t 214), none⟩])
 (.ret)))))))))
def ann12 : List (List Nat) := [[2, 3, 5], [2, 3, 6], [2, 3, 7], [2, 3, 8], [2, 3, 9]]
theorem comp12 : comp Try.prog Try.f12.ntmps (Try.f12.body.getD .skip) ann12 = some (cc12, []) := by kernel_rfl
theorem body12 : Try.f12.body = some (Try.f12.body.getD .skip) := by kernel_rfl
theorem name12 : (Try.f12.name == "runtime.NumGoroutine") = false := by kernel_rfl
theorem res12 : resC Try.prog Try.f12.results.toList = some [.t 4] := by kernel_rfl
theorem ar12 : Nat.ble 2 Try.f12.ntmps = true := by kernel_rfl
set_option maxHeartbeats 2000000 in
theorem spec12 (x y : List PV) (hx : HasL TModule x) (hy : HasL TModule y) : Runs Try.prog 12 [.agg (plainP x), .agg (plainP y)] [] (.ret (.p (.bool (sameC x y))) []) := by
  refine runs_len fun _ => ?_
  refine runs_of_wp 14 Try.func12 body12 name12 comp12 res12 (Nat.le_of_ble_eq_true ar12) ?_
  generalize hI : stdI = LI
  generalize hB : stdB = LB
  generalize hE : stdE = LE
  obtain ⟨a0n, a0, a1n, a1, a2n, a2, a3n, a3, a4n, a4, a5n, a5, a6n, a6, a7n, a7, a8n, a8, a9n, a9, a10n, a10, rfl, ga0, ea0, ga1, ea1, ga2, ea2, ga3, ea3, ga4, ea4, ga5, ea5, ga6, ea6, ga7, ea7, ga8, ea8, ga9, ea9, ga10, ea10⟩ := has_module hx
  obtain ⟨b0n, b0, b1n, b1, b2n, b2, b3n, b3, b4n, b4, b5n, b5, b6n, b6, b7n, b7, b8n, b8, b9n, b9, b10n, b10, rfl, gb0, eb0, gb1, eb1, gb2, eb2, gb3, eb3, gb4, eb4, gb5, eb5, gb6, eb6, gb7, eb7, gb8, eb8, gb9, eb9, gb10, eb10⟩ := has_module hy
  have la0 : LI (.len a0) = a0.length := by rw [← hI]; rfl
  have lb0 : LI (.len b0) = b0.length := by rw [← hI]; rfl
  have la1 : LI (.len a1) = a1.length := by rw [← hI]; rfl
  have lb1 : LI (.len b1) = b1.length := by rw [← hI]; rfl
  have la2 : LI (.len a2) = a2.length := by rw [← hI]; rfl
  have lb2 : LI (.len b2) = b2.length := by rw [← hI]; rfl
  have la3 : LI (.len a3) = a3.length := by rw [← hI]; rfl
  have lb3 : LI (.len b3) = b3.length := by rw [← hI]; rfl
  have la4 : LI (.len a4) = a4.length := by rw [← hI]; rfl
  have lb4 : LI (.len b4) = b4.length := by rw [← hI]; rfl
  have la5 : LI (.len a5) = a5.length := by rw [← hI]; rfl
  have lb5 : LI (.len b5) = b5.length := by rw [← hI]; rfl
  have la6 : LI (.len a6) = a6.length := by rw [← hI]; rfl
  have lb6 : LI (.len b6) = b6.length := by rw [← hI]; rfl
  have la7 : LI (.len a7) = a7.length := by rw [← hI]; rfl
  have lb7 : LI (.len b7) = b7.length := by rw [← hI]; rfl
  have la8 : LI (.len a8) = a8.length := by rw [← hI]; rfl
  have lb8 : LI (.len b8) = b8.length := by rw [← hI]; rfl
  have la9 : LI (.len a9) = a9.length := by rw [← hI]; rfl
  have lb9 : LI (.len b9) = b9.length := by rw [← hI]; rfl
  have la10 : LI (.len a10) = a10.length := by rw [← hI]; rfl
  have lb10 : LI (.len b10) = b10.length := by rw [← hI]; rfl
  generalize hR : Runs Try.prog = R
  generalize hr : sameC _ _ = r
  cbv
  cases hal0 : LB (.cmp .neq (LI (.len a0)) (LI (.len b0)))
  · rw [← hB, B_neq, la0, lb0] at hal0
    have hal0 : a0.length = b0.length := by simp only [bne_eq_false_iff_eq] at hal0; exact Int.ofNat_inj.1 hal0
    cbv
    cases hal1 : LB (.cmp .neq (LI (.len a1)) (LI (.len b1)))
    · rw [← hB, B_neq, la1, lb1] at hal1
      have hal1 : a1.length = b1.length := by simp only [bne_eq_false_iff_eq] at hal1; exact Int.ofNat_inj.1 hal1
      cbv
      cases hal3 : LB (.cmp .neq (LI (.len a3)) (LI (.len b3)))
      · rw [← hB, B_neq, la3, lb3] at hal3
        have hal3 : a3.length = b3.length := by simp only [bne_eq_false_iff_eq] at hal3; exact Int.ofNat_inj.1 hal3
        cbv
        cases hal4 : LB (.cmp .neq (LI (.len a4)) (LI (.len b4)))
        · rw [← hB, B_neq, la4, lb4] at hal4
          have hal4 : a4.length = b4.length := by simp only [bne_eq_false_iff_eq] at hal4; exact Int.ofNat_inj.1 hal4
          cbv
          cases hal5 : LB (.cmp .neq (LI (.len a5)) (LI (.len b5)))
          · rw [← hB, B_neq, la5, lb5] at hal5
            have hal5 : a5.length = b5.length := by simp only [bne_eq_false_iff_eq] at hal5; exact Int.ofNat_inj.1 hal5
            cbv
            cases hal6 : LB (.cmp .neq (LI (.len a6)) (LI (.len b6)))
            · rw [← hB, B_neq, la6, lb6] at hal6
              have hal6 : a6.length = b6.length := by simp only [bne_eq_false_iff_eq] at hal6; exact Int.ofNat_inj.1 hal6
              cbv
              cases hal8 : LB (.cmp .neq (LI (.len a8)) (LI (.len b8)))
              · rw [← hB, B_neq, la8, lb8] at hal8
                have hal8 : a8.length = b8.length := by simp only [bne_eq_false_iff_eq] at hal8; exact Int.ofNat_inj.1 hal8
                cbv
                cases hal9 : LB (.cmp .neq (LI (.len a9)) (LI (.len b9)))
                · rw [← hB, B_neq, la9, lb9] at hal9
                  have hal9 : a9.length = b9.length := by simp only [bne_eq_false_iff_eq] at hal9; exact Int.ofNat_inj.1 hal9
                  cbv
                  cases hal10 : LB (.cmp .neq (LI (.len a10)) (LI (.len b10)))
                  · rw [← hB, B_neq, la10, lb10] at hal10
                    have hal10 : a10.length = b10.length := by simp only [bne_eq_false_iff_eq] at hal10; exact Int.ofNat_inj.1 hal10
                    cbv
                    have qa2 := spec68 a2n b2n a2 b2 ea2 eb2
                    rw [hR] at qa2
                    generalize has2 : sameE a2 b2 = ab2 at qa2
                    refine ⟨[], trivial, ?_⟩
                    cbv
                    refine ⟨[], rfl, _, qa2, Or.inl rfl, ?_⟩
                    cbv
                    cases hnab2 : LB (.not ab2)
                    · rw [← hB, B_not] at hnab2
                      have hnab2 : ab2 = true := by simpa using hnab2
                      subst hnab2
                      cbv
                      have qa7 := spec68 a7n b7n a7 b7 ea7 eb7
                      rw [hR] at qa7
                      generalize has7 : sameE a7 b7 = ab7 at qa7
                      refine ⟨[], trivial, ?_⟩
                      cbv
                      refine ⟨[], rfl, _, qa7, Or.inl rfl, ?_⟩
                      cbv
                      cases hnab7 : LB (.not ab7)
                      · rw [← hB, B_not] at hnab7
                        have hnab7 : ab7 = true := by simpa using hnab7
                        subst hnab7
                        cbv
                        refine loopR (α := Nat × Int) [] 2 (Nat.zero_le _) (fun s a => s.sett 5 (.p (.int .i64 a.2))) (fun a => a0.length - a.1) (fun a => a.2 = a.1 ∧ a.1 ≤ a0.length ∧ firsts a.1 a0 b0) (0, 0) ⟨rfl, Nat.zero_le _, firsts_zero _ _⟩ (by cbv) ?_
                        rintro S hS inv hinv ⟨k, K⟩ ⟨hK, hk, ht⟩
                        subst hS
                        simp only at hK hk ht
                        have hb := ea0.1
                        cbv
                        cases hc : LB (.cmp .lss K (LI (.len a0)))
                        · rw [← hB, B_lss, la0, hK] at hc
                          have hc : ¬ k < a0.length := by simpa using hc
                          cbv
                          have has0 : sameE a0 b0 = true := firsts_all ht (by omega) (by omega)
                          clear hinv
                          refine loopR (α := Nat × Int) [] 2 (Nat.zero_le _) (fun s a => s.sett 6 (.p (.int .i64 a.2))) (fun a => a1.length - a.1) (fun a => a.2 = a.1 ∧ a.1 ≤ a1.length ∧ firsts a.1 a1 b1) (0, 0) ⟨rfl, Nat.zero_le _, firsts_zero _ _⟩ (by cbv) ?_
                          rintro S hS inv hinv ⟨k, K⟩ ⟨hK, hk, ht⟩
                          subst hS
                          simp only at hK hk ht
                          have hb := ea1.1
                          cbv
                          cases hc : LB (.cmp .lss K (LI (.len a1)))
                          · rw [← hB, B_lss, la1, hK] at hc
                            have hc : ¬ k < a1.length := by simpa using hc
                            cbv
                            have has1 : sameE a1 b1 = true := firsts_all ht (by omega) (by omega)
                            clear hinv
                            refine loopR (α := Nat × Int) [] 2 (Nat.zero_le _) (fun s a => s.sett 7 (.p (.int .i64 a.2))) (fun a => a3.length - a.1) (fun a => a.2 = a.1 ∧ a.1 ≤ a3.length ∧ firsts a.1 a3 b3) (0, 0) ⟨rfl, Nat.zero_le _, firsts_zero _ _⟩ (by cbv) ?_
                            rintro S hS inv hinv ⟨k, K⟩ ⟨hK, hk, ht⟩
                            subst hS
                            simp only at hK hk ht
                            have hb := ea3.1
                            cbv
                            cases hc : LB (.cmp .lss K (LI (.len a3)))
                            · rw [← hB, B_lss, la3, hK] at hc
                              have hc : ¬ k < a3.length := by simpa using hc
                              cbv
                              have has3 : sameE a3 b3 = true := firsts_all ht (by omega) (by omega)
                              clear hinv
                              refine loopR (α := Nat × Int) [] 2 (Nat.zero_le _) (fun s a => s.sett 8 (.p (.int .i64 a.2))) (fun a => a4.length - a.1) (fun a => a.2 = a.1 ∧ a.1 ≤ a4.length ∧ firsts a.1 a4 b4) (0, 0) ⟨rfl, Nat.zero_le _, firsts_zero _ _⟩ (by cbv) ?_
                              rintro S hS inv hinv ⟨k, K⟩ ⟨hK, hk, ht⟩
                              subst hS
                              simp only at hK hk ht
                              have hb := ea4.1
                              cbv
                              cases hc : LB (.cmp .lss K (LI (.len a4)))
                              · rw [← hB, B_lss, la4, hK] at hc
                                have hc : ¬ k < a4.length := by simpa using hc
                                cbv
                                have has4 : sameE a4 b4 = true := firsts_all ht (by omega) (by omega)
                                clear hinv
                                refine loopR (α := Nat × Int) [] 2 (Nat.zero_le _) (fun s a => s.sett 9 (.p (.int .i64 a.2))) (fun a => a6.length - a.1) (fun a => a.2 = a.1 ∧ a.1 ≤ a6.length ∧ firsts a.1 a6 b6) (0, 0) ⟨rfl, Nat.zero_le _, firsts_zero _ _⟩ (by cbv) ?_
                                rintro S hS inv hinv ⟨k, K⟩ ⟨hK, hk, ht⟩
                                subst hS
                                simp only at hK hk ht
                                have hb := ea6.1
                                cbv
                                cases hc : LB (.cmp .lss K (LI (.len a6)))
                                · rw [← hB, B_lss, la6, hK] at hc
                                  have hc : ¬ k < a6.length := by simpa using hc
                                  cbv
                                  have has6 : sameE a6 b6 = true := firsts_all ht (by omega) (by omega)
                                  clear hinv
                                  have q70 := spec70 a0n b0n a0 b0 a1n b1n a1 b1 a2n b2n a2 b2 a3n b3n a3 b3 a4n b4n a4 b4 a5n b5n a5 b5 a6n b6n a6 b6 a7n b7n a7 b7 a8n b8n a8 b8 a9n b9n a9 b9 a10n b10n a10 b10 ea5 eb5 ea8 eb8 ea9 eb9 ea10 eb10 hal5 hal8 hal9 hal10
                                  rw [hR] at q70
                                  generalize hs70 : (sameE a5 b5 && (sameE a8 b8 && (sameE a9 b9 && sameE a10 b10))) = s70 at q70
                                  refine ⟨[], trivial, ?_⟩
                                  cbv
                                  refine ⟨[], rfl, _, q70, Or.inl rfl, ?_⟩
                                  cbv
                                  refine ⟨[], 0, Nat.le_refl _, ?_⟩
                                  cbv
                                  rw [show r = s70 by rw [← hr, ← hs70]; simp only [sameC_cons, sameC_nil, same1_int, same1_bool, same1_str, same1_isl, has0, has1, has2, has3, has4, has6, has7, Bool.true_and, Bool.false_and, Bool.and_true, Bool.and_false]]
                                · rw [← hB, B_lss, la6, hK] at hc
                                  have hc : k < a6.length := by simpa using hc
                                  obtain ⟨x, hx, hx'⟩ := ea6.at hc
                                  obtain ⟨y, hy, hy'⟩ := eb6.at (k := k) (by omega)
                                  obtain ⟨p0, p1, p2, rfl⟩ := has_export hx'
                                  obtain ⟨q0, q1, q2, rfl⟩ := has_export hy'
                                  cbv
                                  refine ⟨k, _, hK, hx, rfl, ?_⟩
                                  cbv
                                  refine ⟨k, _, hK, hy, rfl, ?_⟩
                                  cbv
                                  split
                                  · rename_i hd
                                    rw [← hB] at hd
                                    have hd : sameC [.str p0, .int .u8 p1, .int .i64 p2] [.str q0, .int .u8 q1, .int .i64 q2] = false := by
                                      cases he : sameC [.str p0, .int .u8 p1, .int .i64 p2] [.str q0, .int .u8 q1, .int .i64 q2] with
                                      | false => rfl
                                      | true =>
                                        simp [sameC_cons, sameC_nil, same1_int, same1_bool, same1_str, same1_isl] at he
                                        simp [B_neq, B_eql, B_and, B_not, B_eq, B_seq, he] at hd
                                    have has6 : sameE a6 b6 = false := sameE_at hx hy (by exact hd)
                                    refine ⟨[], 0, Nat.le_refl _, ?_⟩
                                    cbv
                                    rw [show r = false by rw [← hr]; simp only [sameC_cons, sameC_nil, same1_int, same1_bool, same1_str, same1_isl, has6, Bool.true_and, Bool.false_and, Bool.and_true, Bool.and_false]]
                                  · rename_i hd
                                    rw [← hB] at hd
                                    have hd : sameC [.str p0, .int .u8 p1, .int .i64 p2] [.str q0, .int .u8 q1, .int .i64 q2] = true := by
                                      simpa [B_neq, B_eql, B_and, B_not, B_eq, B_seq, sameC_cons, sameC_nil, same1_int, same1_bool, same1_str, same1_isl] using hd
                                    cbv
                                    refine ⟨[], _, ?_, hinv (k + 1, LI (.ari .add .i64 K 1)) ⟨?_, hc, firsts_succ hx hy ht (by exact hd)⟩⟩
                                    · simp only; omega
                                    · simp only
                                      rw [← hI, hK]
                                      exact I_inc (by omega)
                              · rw [← hB, B_lss, la4, hK] at hc
                                have hc : k < a4.length := by simpa using hc
                                obtain ⟨x, hx, hx'⟩ := ea4.at hc
                                obtain ⟨y, hy, hy'⟩ := eb4.at (k := k) (by omega)
                                obtain ⟨p0, p1, p2, rfl⟩ := has_limits hx'
                                obtain ⟨q0, q1, q2, rfl⟩ := has_limits hy'
                                cbv
                                refine ⟨k, _, hK, hx, rfl, ?_⟩
                                cbv
                                refine ⟨k, _, hK, hy, rfl, ?_⟩
                                cbv
                                split
                                · rename_i hd
                                  rw [← hB] at hd
                                  have hd : sameC [.int .i64 p0, .int .i64 p1, .bool p2] [.int .i64 q0, .int .i64 q1, .bool q2] = false := by
                                    cases he : sameC [.int .i64 p0, .int .i64 p1, .bool p2] [.int .i64 q0, .int .i64 q1, .bool q2] with
                                    | false => rfl
                                    | true =>
                                      simp [sameC_cons, sameC_nil, same1_int, same1_bool, same1_str, same1_isl] at he
                                      simp [B_neq, B_eql, B_and, B_not, B_eq, B_seq, he] at hd
                                  have has4 : sameE a4 b4 = false := sameE_at hx hy (by exact hd)
                                  refine ⟨[], 0, Nat.le_refl _, ?_⟩
                                  cbv
                                  rw [show r = false by rw [← hr]; simp only [sameC_cons, sameC_nil, same1_int, same1_bool, same1_str, same1_isl, has4, Bool.true_and, Bool.false_and, Bool.and_true, Bool.and_false]]
                                · rename_i hd
                                  rw [← hB] at hd
                                  have hd : sameC [.int .i64 p0, .int .i64 p1, .bool p2] [.int .i64 q0, .int .i64 q1, .bool q2] = true := by
                                    simpa [B_neq, B_eql, B_and, B_not, B_eq, B_seq, sameC_cons, sameC_nil, same1_int, same1_bool, same1_str, same1_isl] using hd
                                  cbv
                                  refine ⟨[], _, ?_, hinv (k + 1, LI (.ari .add .i64 K 1)) ⟨?_, hc, firsts_succ hx hy ht (by exact hd)⟩⟩
                                  · simp only; omega
                                  · simp only
                                    rw [← hI, hK]
                                    exact I_inc (by omega)
                            · rw [← hB, B_lss, la3, hK] at hc
                              have hc : k < a3.length := by simpa using hc
                              obtain ⟨x, hx, hx'⟩ := ea3.at hc
                              obtain ⟨y, hy, hy'⟩ := eb3.at (k := k) (by omega)
                              obtain ⟨p0, p1, p2, rfl⟩ := has_limits hx'
                              obtain ⟨q0, q1, q2, rfl⟩ := has_limits hy'
                              cbv
                              refine ⟨k, _, hK, hx, rfl, ?_⟩
                              cbv
                              refine ⟨k, _, hK, hy, rfl, ?_⟩
                              cbv
                              split
                              · rename_i hd
                                rw [← hB] at hd
                                have hd : sameC [.int .i64 p0, .int .i64 p1, .bool p2] [.int .i64 q0, .int .i64 q1, .bool q2] = false := by
                                  cases he : sameC [.int .i64 p0, .int .i64 p1, .bool p2] [.int .i64 q0, .int .i64 q1, .bool q2] with
                                  | false => rfl
                                  | true =>
                                    simp [sameC_cons, sameC_nil, same1_int, same1_bool, same1_str, same1_isl] at he
                                    simp [B_neq, B_eql, B_and, B_not, B_eq, B_seq, he] at hd
                                have has3 : sameE a3 b3 = false := sameE_at hx hy (by exact hd)
                                refine ⟨[], 0, Nat.le_refl _, ?_⟩
                                cbv
                                rw [show r = false by rw [← hr]; simp only [sameC_cons, sameC_nil, same1_int, same1_bool, same1_str, same1_isl, has3, Bool.true_and, Bool.false_and, Bool.and_true, Bool.and_false]]
                              · rename_i hd
                                rw [← hB] at hd
                                have hd : sameC [.int .i64 p0, .int .i64 p1, .bool p2] [.int .i64 q0, .int .i64 q1, .bool q2] = true := by
                                  simpa [B_neq, B_eql, B_and, B_not, B_eq, B_seq, sameC_cons, sameC_nil, same1_int, same1_bool, same1_str, same1_isl] using hd
                                cbv
                                refine ⟨[], _, ?_, hinv (k + 1, LI (.ari .add .i64 K 1)) ⟨?_, hc, firsts_succ hx hy ht (by exact hd)⟩⟩
                                · simp only; omega
                                · simp only
                                  rw [← hI, hK]
                                  exact I_inc (by omega)
                          · rw [← hB, B_lss, la1, hK] at hc
                            have hc : k < a1.length := by simpa using hc
                            obtain ⟨x, hx, hx'⟩ := ea1.at hc
                            obtain ⟨y, hy, hy'⟩ := eb1.at (k := k) (by omega)
                            obtain ⟨p0, p1, p2, p3, p4, p5, p6, p7, p8, rfl⟩ := has_import hx'
                            obtain ⟨q0, q1, q2, q3, q4, q5, q6, q7, q8, rfl⟩ := has_import hy'
                            cbv
                            refine ⟨k, _, hK, hx, rfl, ?_⟩
                            cbv
                            refine ⟨k, _, hK, hy, rfl, ?_⟩
                            cbv
                            split
                            · rename_i hd
                              rw [← hB] at hd
                              have hd : sameC [.str p0, .str p1, .int .u8 p2, .int .i64 p3, .int .i64 p4, .int .i64 p5, .bool p6, .int .u8 p7, .bool p8] [.str q0, .str q1, .int .u8 q2, .int .i64 q3, .int .i64 q4, .int .i64 q5, .bool q6, .int .u8 q7, .bool q8] = false := by
                                cases he : sameC [.str p0, .str p1, .int .u8 p2, .int .i64 p3, .int .i64 p4, .int .i64 p5, .bool p6, .int .u8 p7, .bool p8] [.str q0, .str q1, .int .u8 q2, .int .i64 q3, .int .i64 q4, .int .i64 q5, .bool q6, .int .u8 q7, .bool q8] with
                                | false => rfl
                                | true =>
                                  simp [sameC_cons, sameC_nil, same1_int, same1_bool, same1_str, same1_isl] at he
                                  simp [B_neq, B_eql, B_and, B_not, B_eq, B_seq, he] at hd
                              have has1 : sameE a1 b1 = false := sameE_at hx hy (by exact hd)
                              refine ⟨[], 0, Nat.le_refl _, ?_⟩
                              cbv
                              rw [show r = false by rw [← hr]; simp only [sameC_cons, sameC_nil, same1_int, same1_bool, same1_str, same1_isl, has1, Bool.true_and, Bool.false_and, Bool.and_true, Bool.and_false]]
                            · rename_i hd
                              rw [← hB] at hd
                              have hd : sameC [.str p0, .str p1, .int .u8 p2, .int .i64 p3, .int .i64 p4, .int .i64 p5, .bool p6, .int .u8 p7, .bool p8] [.str q0, .str q1, .int .u8 q2, .int .i64 q3, .int .i64 q4, .int .i64 q5, .bool q6, .int .u8 q7, .bool q8] = true := by
                                simpa [B_neq, B_eql, B_and, B_not, B_eq, B_seq, sameC_cons, sameC_nil, same1_int, same1_bool, same1_str, same1_isl] using hd
                              cbv
                              refine ⟨[], _, ?_, hinv (k + 1, LI (.ari .add .i64 K 1)) ⟨?_, hc, firsts_succ hx hy ht (by exact hd)⟩⟩
                              · simp only; omega
                              · simp only
                                rw [← hI, hK]
                                exact I_inc (by omega)
                        · rw [← hB, B_lss, la0, hK] at hc
                          have hc : k < a0.length := by simpa using hc
                          obtain ⟨x, hx, hx'⟩ := ea0.at hc
                          obtain ⟨y, hy, hy'⟩ := eb0.at (k := k) (by omega)
                          obtain ⟨p0n, p0, p1n, p1, rfl, gp0, ep0, gp1, ep1⟩ := has_type hx'
                          obtain ⟨q0n, q0, q1n, q1, rfl, gq0, eq0, gq1, eq1⟩ := has_type hy'
                          cbv
                          refine ⟨k, _, hK, hx, rfl, ?_⟩
                          cbv
                          refine ⟨k, _, hK, hy, rfl, ?_⟩
                          cbv
                          have qp0 := spec69 p0n q0n p0 q0 ep0 eq0
                          rw [hR] at qp0
                          generalize hps0 : sameE p0 q0 = pq0 at qp0
                          refine ⟨[], rfl, ?_⟩
                          cbv
                          refine ⟨[], rfl, _, qp0, Or.inl rfl, ?_⟩
                          cbv
                          cases hnpq0 : LB (.not pq0)
                          · rw [← hB, B_not] at hnpq0
                            have hnpq0 : pq0 = true := by simpa using hnpq0
                            subst hnpq0
                            cbv
                            refine ⟨k, _, hK, hx, rfl, ?_⟩
                            cbv
                            refine ⟨k, _, hK, hy, rfl, ?_⟩
                            cbv
                            have qp1 := spec69 p1n q1n p1 q1 ep1 eq1
                            rw [hR] at qp1
                            generalize hps1 : sameE p1 q1 = pq1 at qp1
                            refine ⟨[], rfl, ?_⟩
                            cbv
                            refine ⟨[], rfl, _, qp1, Or.inl rfl, ?_⟩
                            cbv
                            cases hnpq1 : LB (.not pq1)
                            · rw [← hB, B_not] at hnpq1
                              have hnpq1 : pq1 = true := by simpa using hnpq1
                              subst hnpq1
                              cbv
                              refine ⟨[], _, ?_, hinv (k + 1, LI (.ari .add .i64 K 1)) ⟨?_, hc, firsts_succ hx hy ht (by simp only [sameC_cons, sameC_nil, same1_int, same1_bool, same1_str, same1_isl, hps0, hps1, Bool.true_and, Bool.false_and, Bool.and_true, Bool.and_false])⟩⟩
                              · simp only; omega
                              · simp only
                                rw [← hI, hK]
                                exact I_inc (by omega)
                            · rw [← hB, B_not] at hnpq1
                              have hnpq1 : pq1 = false := by simpa using hnpq1
                              subst hnpq1
                              cbv
                              have has0 : sameE a0 b0 = false := sameE_at hx hy (by simp only [sameC_cons, sameC_nil, same1_int, same1_bool, same1_str, same1_isl, hps1, Bool.true_and, Bool.false_and, Bool.and_true, Bool.and_false])
                              refine ⟨[], 0, Nat.le_refl _, ?_⟩
                              cbv
                              rw [show r = false by rw [← hr]; simp only [sameC_cons, sameC_nil, same1_int, same1_bool, same1_str, same1_isl, has0, Bool.true_and, Bool.false_and, Bool.and_true, Bool.and_false]]
                          · rw [← hB, B_not] at hnpq0
                            have hnpq0 : pq0 = false := by simpa using hnpq0
                            subst hnpq0
                            cbv
                            have has0 : sameE a0 b0 = false := sameE_at hx hy (by simp only [sameC_cons, sameC_nil, same1_int, same1_bool, same1_str, same1_isl, hps0, Bool.true_and, Bool.false_and, Bool.and_true, Bool.and_false])
                            refine ⟨[], 0, Nat.le_refl _, ?_⟩
                            cbv
                            rw [show r = false by rw [← hr]; simp only [sameC_cons, sameC_nil, same1_int, same1_bool, same1_str, same1_isl, has0, Bool.true_and, Bool.false_and, Bool.and_true, Bool.and_false]]
                      · rw [← hB, B_not] at hnab7
                        have hnab7 : ab7 = false := by simpa using hnab7
                        subst hnab7
                        cbv
                        refine ⟨[], 0, Nat.le_refl _, ?_⟩
                        cbv
                        rw [show r = false by rw [← hr]; simp only [sameC_cons, sameC_nil, same1_int, same1_bool, same1_str, same1_isl, has7, Bool.true_and, Bool.false_and, Bool.and_true, Bool.and_false]]
                    · rw [← hB, B_not] at hnab2
                      have hnab2 : ab2 = false := by simpa using hnab2
                      subst hnab2
                      cbv
                      refine ⟨[], 0, Nat.le_refl _, ?_⟩
                      cbv
                      rw [show r = false by rw [← hr]; simp only [sameC_cons, sameC_nil, same1_int, same1_bool, same1_str, same1_isl, has2, Bool.true_and, Bool.false_and, Bool.and_true, Bool.and_false]]
                  · rw [← hB, B_neq, la10, lb10] at hal10
                    have has10 : sameE a10 b10 = false := sameE_len (fun h => by rw [h] at hal10; simp at hal10)
                    cbv
                    refine ⟨[], 0, Nat.le_refl _, ?_⟩
                    cbv
                    rw [show r = false by rw [← hr]; simp only [sameC_cons, sameC_nil, same1_int, same1_bool, same1_str, same1_isl, has10, Bool.true_and, Bool.false_and, Bool.and_true, Bool.and_false]]
                · rw [← hB, B_neq, la9, lb9] at hal9
                  have has9 : sameE a9 b9 = false := sameE_len (fun h => by rw [h] at hal9; simp at hal9)
                  cbv
                  refine ⟨[], 0, Nat.le_refl _, ?_⟩
                  cbv
                  rw [show r = false by rw [← hr]; simp only [sameC_cons, sameC_nil, same1_int, same1_bool, same1_str, same1_isl, has9, Bool.true_and, Bool.false_and, Bool.and_true, Bool.and_false]]
              · rw [← hB, B_neq, la8, lb8] at hal8
                have has8 : sameE a8 b8 = false := sameE_len (fun h => by rw [h] at hal8; simp at hal8)
                cbv
                refine ⟨[], 0, Nat.le_refl _, ?_⟩
                cbv
                rw [show r = false by rw [← hr]; simp only [sameC_cons, sameC_nil, same1_int, same1_bool, same1_str, same1_isl, has8, Bool.true_and, Bool.false_and, Bool.and_true, Bool.and_false]]
            · rw [← hB, B_neq, la6, lb6] at hal6
              have has6 : sameE a6 b6 = false := sameE_len (fun h => by rw [h] at hal6; simp at hal6)
              cbv
              refine ⟨[], 0, Nat.le_refl _, ?_⟩
              cbv
              rw [show r = false by rw [← hr]; simp only [sameC_cons, sameC_nil, same1_int, same1_bool, same1_str, same1_isl, has6, Bool.true_and, Bool.false_and, Bool.and_true, Bool.and_false]]
          · rw [← hB, B_neq, la5, lb5] at hal5
            have has5 : sameE a5 b5 = false := sameE_len (fun h => by rw [h] at hal5; simp at hal5)
            cbv
            refine ⟨[], 0, Nat.le_refl _, ?_⟩
            cbv
            rw [show r = false by rw [← hr]; simp only [sameC_cons, sameC_nil, same1_int, same1_bool, same1_str, same1_isl, has5, Bool.true_and, Bool.false_and, Bool.and_true, Bool.and_false]]
        · rw [← hB, B_neq, la4, lb4] at hal4
          have has4 : sameE a4 b4 = false := sameE_len (fun h => by rw [h] at hal4; simp at hal4)
          cbv
          refine ⟨[], 0, Nat.le_refl _, ?_⟩
          cbv
          rw [show r = false by rw [← hr]; simp only [sameC_cons, sameC_nil, same1_int, same1_bool, same1_str, same1_isl, has4, Bool.true_and, Bool.false_and, Bool.and_true, Bool.and_false]]
      · rw [← hB, B_neq, la3, lb3] at hal3
        have has3 : sameE a3 b3 = false := sameE_len (fun h => by rw [h] at hal3; simp at hal3)
        cbv
        refine ⟨[], 0, Nat.le_refl _, ?_⟩
        cbv
        rw [show r = false by rw [← hr]; simp only [sameC_cons, sameC_nil, same1_int, same1_bool, same1_str, same1_isl, has3, Bool.true_and, Bool.false_and, Bool.and_true, Bool.and_false]]
    · rw [← hB, B_neq, la1, lb1] at hal1
      have has1 : sameE a1 b1 = false := sameE_len (fun h => by rw [h] at hal1; simp at hal1)
      cbv
      refine ⟨[], 0, Nat.le_refl _, ?_⟩
      cbv
      rw [show r = false by rw [← hr]; simp only [sameC_cons, sameC_nil, same1_int, same1_bool, same1_str, same1_isl, has1, Bool.true_and, Bool.false_and, Bool.and_true, Bool.and_false]]
  · rw [← hB, B_neq, la0, lb0] at hal0
    have has0 : sameE a0 b0 = false := sameE_len (fun h => by rw [h] at hal0; simp at hal0)
    cbv
    refine ⟨[], 0, Nat.le_refl _, ?_⟩
    cbv
    rw [show r = false by rw [← hr]; simp only [sameC_cons, sameC_nil, same1_int, same1_bool, same1_str, same1_isl, has0, Bool.true_and, Bool.false_and, Bool.and_true, Bool.and_false]]
end Go.Ab
/- Copies. -/
set_option linter.unusedVariables false
set_option linter.unusedSimpArgs false
namespace Go.Ab

mutual
/-- A copy that one owns; r: whether nil is kept apart from what is empty. -/
def tw (r : Bool) : PV → PV
  | .isl n z els => .own (match r with | true => n | false => !els.isEmpty) z (twEs r els)
  | c => c
def twC (r : Bool) : List PV → List PV
  | [] => []
  | c :: l => tw r c :: twC r l
def twEs (r : Bool) : List (List PV) → List (List PV)
  | [] => []
  | e :: l => twC r e :: twEs r l
end
theorem twC_map (r : Bool) (l : List PV) : twC r l = l.map (tw r) := by induction l with | nil => rfl | cons a l ih => simp [twC, ih]
theorem twEs_map (r : Bool) (l : List (List PV)) : twEs r l = l.map (twC r) := by induction l with | nil => rfl | cons a l ih => simp [twEs, ih]
theorem twEs_len (r : Bool) (l : List (List PV)) : (twEs r l).length = l.length := by simp [twEs_map]
theorem twEs_succ {r : Bool} {E : List (List PV)} {k : Nat} {x : List PV} (hx : E[k]? = some x) : twEs r (E.take (k + 1)) = twEs r (E.take k) ++ [twC r x] := by
  rw [twEs_map, twEs_map, List.take_add_one, hx]
  simp
theorem twEs_all {r : Bool} {E : List (List PV)} {k : Nat} (h : E.length ≤ k) : twEs r (E.take k) = twEs r E := by
  rw [List.take_of_length_le h]
theorem nrmEs_app (a b : List (List PV)) : nrmEs (a ++ b) = nrmEs a ++ nrmEs b := by simp [nrmEs_map]
mutual
theorem nrm_tw (r : Bool) : ∀ c : PV, nrm (tw r c) = nrm c
  | .isl n z els => by simp only [tw, nrm, nrm_twEs r els]
  | .int _ _ | .bool _ | .str _ | .own _ _ _ | .nilp | .nilf | .nili | .nilm | .fn _ | .ifs _ _ | .ifa _ _ | .any => rfl
theorem nrm_twC (r : Bool) : ∀ l : List PV, nrmC (twC r l) = nrmC l
  | [] => rfl
  | c :: l => by simp only [twC, nrmC, nrm_tw r c, nrm_twC r l]
theorem nrm_twEs (r : Bool) : ∀ l : List (List PV), nrmEs (twEs r l) = nrmEs l
  | [] => rfl
  | e :: l => by simp only [twEs, nrmEs, nrm_twC r e, nrm_twEs r l]
end
mutual
theorem owns_tw (r : Bool) : ∀ (t : Ty) (c : PV), Has t c → Owns t (tw r c)
  | .int _, c, h => by
    obtain ⟨n, rfl, h⟩ := h
    exact ⟨n, rfl⟩
  | .bool, c, h => by
    obtain ⟨b, rfl⟩ := h
    exact ⟨b, rfl⟩
  | .str, c, h => by
    obtain ⟨s, rfl⟩ := h
    exact ⟨s, rfl⟩
  | .sl es, c, h => by
    obtain ⟨nn, els, rfl, h1, h2, h3⟩ := h
    refine ⟨_, _, rfl, by rw [twEs_len]; exact h2, fun e he => ?_⟩
    rw [twEs_map] at he
    obtain ⟨e', he', rfl⟩ := List.mem_map.1 he
    exact owns_twC r es e' (h3 e' he')
theorem owns_twC (r : Bool) : ∀ (ts : List Ty) (cs : List PV), HasL ts cs → OwnsL ts (twC r cs)
  | [], cs, h => by
    rw [show cs = [] from h]
    rfl
  | t :: ts, cs, h => by
    obtain ⟨c, l, rfl, h1, h2⟩ := h
    exact ⟨_, _, rfl, owns_tw r t c h1, owns_twC r ts l h2⟩
end
theorem owns_twEs {r : Bool} {ts : List Ty} {E : List (List PV)} (h : HasE ts E) : OwnsE ts (twEs r E) := by
  refine ⟨by rw [twEs_len]; exact h.1, fun e he => ?_⟩
  rw [twEs_map] at he
  obtain ⟨e', he', rfl⟩ := List.mem_map.1 he
  exact owns_twC r ts e' (h.2 e' he')
theorem tw_flat (r : Bool) : ∀ (ts : List Ty) (cs : List PV), flatT ts = true → HasL ts cs → twC r cs = cs
  | [], cs, _, h => by rw [show cs = [] from h]; rfl
  | t :: ts, cs, hf, h => by
    obtain ⟨c, l, rfl, h1, h2⟩ := h
    cases t with
    | sl _ => cases hf
    | int k =>
      obtain ⟨n, rfl, _⟩ := h1
      simp only [twC, tw, tw_flat r ts l hf h2]
    | bool =>
      obtain ⟨n, rfl⟩ := h1
      simp only [twC, tw, tw_flat r ts l hf h2]
    | str =>
      obtain ⟨n, rfl⟩ := h1
      simp only [twC, tw, tw_flat r ts l hf h2]
theorem twEs_flat {r : Bool} {ts : List Ty} {E : List (List PV)} (hf : flatT ts = true) (h : HasE ts E) : twEs r E = E := by
  rw [twEs_map]
  conv => rhs; rw [← List.map_id E]
  exact List.map_congr_left fun e he => tw_flat r ts e hf (h.2 e he)
theorem noOwn_has : ∀ (ts : List Ty) (cs : List PV), HasL ts cs → noOwnB cs = true ∧ cs.length = ts.length
  | [], cs, h => by rw [show cs = [] from h]; exact ⟨rfl, rfl⟩
  | t :: ts, cs, h => by
    obtain ⟨c, l, rfl, h1, h2⟩ := h
    obtain ⟨h3, h4⟩ := noOwn_has ts l h2
    refine ⟨?_, by simp [h4]⟩
    cases t with
    | sl _ => obtain ⟨nn, els, rfl, _⟩ := h1; simpa [noOwnB] using h3
    | int k => obtain ⟨n, rfl, _⟩ := h1; simpa [noOwnB] using h3
    | bool => obtain ⟨n, rfl⟩ := h1; simpa [noOwnB] using h3
    | str => obtain ⟨n, rfl⟩ := h1; simpa [noOwnB] using h3
/-- A cell of a box, set. -/
def AS.bx (s : AS) (b j : Nat) (v : TV) : AS := ⟨s.t, setO s.h b (match nthO s.h b with | some (.box cs) => (match putCells cs j [v] with | some cs' => .box cs' | none => .dead) | _ => .dead)⟩
def AS.ob (s : AS) (r : Nat) (o : Ob) : AS := ⟨s.t, setO s.h r o⟩
theorem invE {inv : Nat → AS → Prop} {n : Nat} {s t : AS} (h : inv n s) (e : t = s) : inv n t := by rw [e]; exact h
end Go.Ab
/- bytebarnref07.Twin. -/
set_option linter.unusedVariables false
set_option linter.unusedSimpArgs false
namespace Go.Ab
open Go.Proofs
/- bytebarn/bytebarnref06.Twin -/
def cc71 : CC :=
 .seq (.reg [
   ⟨(some 2), .mv (.c (.p (.isl false 0 []))), none⟩])
 (.seq (.reg [
   ⟨(some 3), .mv (.c (.p (.isl false 0 []))), none⟩])
 (.seq (.seq (.reg [
   ⟨(some 4), .mv (.c (.p (.int .i64 0))), none⟩])
 (.block 0 (.loop [0, 3, 4]
   (.seq (.seq (.reg [
     ⟨(some 6), .mv (.t 4), none⟩,
     ⟨(some 7), .mv (.t 0), none⟩,
     ⟨(some 8), .len false (.t 7), none⟩,
     ⟨(some 9), .cmp .lss (.t 6) (.t 8), none⟩])
   (.cond (.t 9)
    (.skip)
    (.exit 0)))
   (.seq (.block 1 (.seq (.reg [
      ⟨(some 12), .mv (.t 0), none⟩,
      ⟨(some 13), .mv (.t 4), none⟩,
      ⟨(some 14), .ia 4 (.t 12) (.t 13), none⟩,
      ⟨(some 15), .ld 4 true (.t 14), none⟩,
      ⟨(some 5), .alloc [(.int .u8 0), (.int .i64 0), (.int .i64 0), (.isl false 0 [])], none⟩,
      ⟨none, .st 4 (.t 5) (.t 15), none⟩])
    (.seq (.reg [
      ⟨(some 16), .fa 3 (.t 5), none⟩,
      ⟨(some 17), .ld 1 false (.t 16), none⟩,
      ⟨(some 18), .app 1 8 (.c (.p (.isl false 0 []))) (.t 17), none⟩,
      ⟨(some 19), .fa 3 (.t 5), none⟩,
      ⟨none, .st 1 (.t 19) (.t 18), none⟩])
    (.reg [
      ⟨(some 20), .mv (.t 3), none⟩,
      ⟨(some 21), .ld 4 true (.t 5), none⟩,
      ⟨(some 22), .bsl 4 [[(.int .u8 0), (.int .i64 0), (.int .i64 0), (.isl false 0 [])]] [(0, (.t 21))], none⟩,
      ⟨(some 23), .app 4 48 (.t 20) (.t 22), none⟩,
      ⟨(some 3), .mv (.t 23), none⟩]))))
   (.reg [
     ⟨(some 10), .mv (.t 4), none⟩,
     ⟨(some 11), .ari .add .i64 (.t 10) (.c (.p (.int .i64 1))), none⟩,
     ⟨(some 4), .mv (.t 11), none⟩]))))))
 (.seq (.reg [
   ⟨(some 24), .mv (.t 3), none⟩,
   ⟨(some 2), .mv (.t 24), none⟩])
 (.ret))))
def ann71 : List (List Nat) := [[0, 3, 4]]
theorem comp71 : comp Try.prog Try.f71.ntmps (Try.f71.body.getD .skip) ann71 = some (cc71, []) := by kernel_rfl
theorem body71 : Try.f71.body = some (Try.f71.body.getD .skip) := by kernel_rfl
theorem name71 : (Try.f71.name == "runtime.NumGoroutine") = false := by kernel_rfl
theorem res71 : resC Try.prog Try.f71.results.toList = some [.t 2] := by kernel_rfl
theorem ar71 : Nat.ble 1 Try.f71.ntmps = true := by kernel_rfl
theorem spec71 (n : Bool) (E : List (List PV)) (N : Int) (hN : N = E.length) (hE : HasE TIns E) : Runs Try.prog 71 [.p (.isl n 4 E)] [] (.ret (.sl (!E.isEmpty) ⟨0, []⟩ 4 0 N) [.row (!E.isEmpty) 4 (twEs false E)]) := by
  refine runs_len fun _ => ?_
  refine runs_of_wp 2 Try.func71 body71 name71 comp71 res71 (Nat.le_of_ble_eq_true ar71) ?_
  generalize hI : stdI = LI
  generalize hB : stdB = LB
  generalize hLE : stdE = LE
  generalize hR : Runs Try.prog = R
  generalize hr1 : (!E.isEmpty) = r1
  generalize hr2 : twEs false E = r2
  have hz := hE.1
  have l1 : LI (.len E) = E.length := by rw [← hI]; rfl
  cbv
  refine loopR (α := Nat × Int × Bool × Int × List (List PV)) [.thaw 3 4] 1 (Nat.zero_le _) (fun s a => ⟨setT (setT s.t 4 (.p (.int .i64 a.2.1))) 3 (.sl a.2.2.1 ⟨0, []⟩ 4 0 a.2.2.2.1), [.row a.2.2.1 4 a.2.2.2.2]⟩) (fun a => E.length - a.1)
    (fun a => a.2.1 = a.1 ∧ a.1 ≤ E.length ∧ a.2.2.2.2 = twEs false (E.take a.1) ∧ a.2.2.1 = (!(E.take a.1).isEmpty) ∧ a.2.2.2.1 = a.1) (0, 0, false, 0, []) ⟨rfl, Nat.zero_le _, rfl, rfl, rfl⟩ (by cbv) ?_
  rintro S1 hS inv hinv ⟨k, K, nn, M, els⟩ ⟨hK, hk, ht, hnn, hM⟩
  subst hS
  simp only at hK hk ht hnn hM
  cbv
  cases hc : LB (.cmp .lss K (LI (.len E)))
  · rw [← hB, B_lss, l1, hK] at hc
    have hc : ¬ k < E.length := by simpa using hc
    cbv
    refine ⟨[], 1, Nat.zero_le _, ?_⟩
    cbv
    rw [ht, ← hr2, twEs_all (by omega), hnn, ← hr1, List.take_of_length_le (by omega), hM, hN, show k = E.length by omega]
  · rw [← hB, B_lss, l1, hK] at hc
    have hc : k < E.length := by simpa using hc
    obtain ⟨x, hx, hx'⟩ := hE.at hc
    obtain ⟨a0, a1, a2, a3n, a3, rfl, ga3, ea3⟩ := has_ins hx'
    have l3 : LI (.len a3) = a3.length := by rw [← hI]; rfl
    have hz3 := ea3.1
    obtain ⟨b, hb⟩ : ∃ b : Bool, b = (!a3.isEmpty) := ⟨_, rfl⟩
    cbv
    refine ⟨k, _, hK, hx, rfl, ?_⟩
    cbv
    refine ⟨[], trivial, ?_⟩
    cbv
    refine ⟨0, b, a3, LI (.len a3), rfl, Nat.zero_le _, rfl, hb, l3, by omega, ?_⟩
    cbv
    refine ⟨[], trivial, ?_⟩
    cbv
    obtain ⟨els2, he2⟩ : ∃ l, l = els ++ [[.int .u8 a0, .int .i64 a1, .int .i64 a2, .own b 1 a3]] := ⟨_, rfl⟩
    refine ⟨⟨by rw [← hI]; rfl, trivial⟩, k, true, els2, LI (.ari .add .i64 K 1), hM, ?_, ?_, ?_, ?_, ?_, ?_⟩
    · rw [ht, twEs_len, List.length_take]; omega
    · rw [he2, List.take_of_length_le (by rw [ht, twEs_len, List.length_take]; omega)]
    · cases nn <;> rfl
    · rw [← hI, hK, I_inc (by omega), he2, ht, List.length_append, twEs_len, List.length_take]; simp; omega
    · rw [he2, ht, List.length_append, twEs_len, List.length_take]; simp; omega
    cbv
    have hh := hinv (k + 1, LI (.ari .add .i64 K 1), true, LI (.ari .add .i64 K 1), els2) ⟨by
      simp only
      rw [← hI, hK]
      exact I_inc (by omega), hc, by
      simp only
      rw [twEs_succ hx, he2, ht]
      simp only [twC, tw, twEs_flat (ts := TI64) rfl ea3, hb], by
      simp only
      rw [List.take_add_one, hx]
      simp, by
      simp only
      rw [← hI, hK]
      exact I_inc (by omega)⟩
    simp only at hh
    generalize hmu : E.length - (k + 1) = mu at hh
    refine ⟨[.mov 4 0], mu, by omega, ?_⟩
    refine invE hh ?_
    cbv
/- bytebarn/bytebarnref07.Twin -/
def cc13 : CC :=
 .seq (.reg [
   ⟨(some 1), .box (.t 0), none⟩,
   ⟨(some 2), .alloc [(.isl false 0 []), (.isl false 0 []), (.isl false 0 []), (.isl false 0 []), (.isl false 0 []), (.isl false 0 []), (.isl false 0 []), (.isl false 0 []), (.isl false 0 []), (.isl false 0 []), (.isl false 0 [])], none⟩])
 (.seq (.reg [
   ⟨(some 3), .alloc [(.isl false 0 []), (.isl false 0 []), (.isl false 0 []), (.isl false 0 []), (.isl false 0 []), (.isl false 0 []), (.isl false 0 []), (.isl false 0 []), (.isl false 0 []), (.isl false 0 []), (.isl false 0 [])], none⟩])
 (.seq (.seq (.reg [
   ⟨(some 4), .mv (.c (.p (.int .i64 0))), none⟩])
 (.block 0 (.loop [1, 2, 3, 4]
   (.seq (.seq (.reg [
     ⟨(some 14), .mv (.t 4), none⟩,
     ⟨(some 15), .fa 0 (.t 1), none⟩,
     ⟨(some 16), .ld 1 false (.t 15), none⟩,
     ⟨(some 17), .len false (.t 16), none⟩,
     ⟨(some 18), .cmp .lss (.t 14) (.t 17), none⟩])
   (.cond (.t 18)
    (.skip)
    (.exit 0)))
   (.seq (.block 1 (.seq (.reg [
      ⟨(some 21), .fa 0 (.t 1), none⟩,
      ⟨(some 22), .ld 1 false (.t 21), none⟩,
      ⟨(some 23), .mv (.t 4), none⟩,
      ⟨(some 24), .ia 2 (.t 22) (.t 23), none⟩,
      ⟨(some 25), .ld 2 true (.t 24), none⟩,
      ⟨(some 5), .alloc [(.isl false 0 []), (.isl false 0 [])], none⟩,
      ⟨none, .st 2 (.t 5) (.t 25), none⟩])
    (.regd [
      ⟨(some 26), .fa 0 (.t 3), none⟩,
      ⟨(some 27), .ld 1 false (.t 26), none⟩,
      ⟨(some 28), .fa 0 (.t 5), none⟩,
      ⟨(some 29), .ld 1 false (.t 28), none⟩,
      ⟨(some 30), .app 1 1 (.c (.p (.isl false 0 []))) (.t 29), none⟩,
      ⟨(some 31), .fa 1 (.t 5), none⟩,
      ⟨(some 32), .ld 1 false (.t 31), none⟩,
      ⟨(some 33), .app 1 1 (.c (.p (.isl false 0 []))) (.t 32), none⟩,
      ⟨(some 34), .build [(.isl false 0 []), (.isl false 0 [])] [(0, 1, (.t 30)), (1, 1, (.t 33))], none⟩,
      ⟨(some 35), .bsl 2 [[(.isl false 0 []), (.isl false 0 [])]] [(0, (.t 34))], none⟩,
      ⟨(some 36), .app 2 48 (.t 27) (.t 35), none⟩,
      ⟨(some 37), .fa 0 (.t 3), none⟩,
      ⟨none, .st 1 (.t 37) (.t 36), none⟩] [[], [], [], [], [1], [], [4], [1], [], [1], [], [], []] [false, false, false, false, false, false, false, true, true, true, true, true, true])))
   (.reg [
     ⟨(some 19), .mv (.t 4), none⟩,
     ⟨(some 20), .ari .add .i64 (.t 19) (.c (.p (.int .i64 1))), none⟩,
     ⟨(some 4), .mv (.t 20), none⟩]))))))
 (.seq (.reg [
   ⟨(some 38), .fa 1 (.t 3), none⟩,
   ⟨(some 39), .ld 1 false (.t 38), none⟩,
   ⟨(some 40), .fa 1 (.t 1), none⟩,
   ⟨(some 41), .ld 1 false (.t 40), none⟩,
   ⟨(some 42), .app 9 80 (.t 39) (.t 41), none⟩,
   ⟨(some 43), .fa 1 (.t 3), none⟩,
   ⟨none, .st 1 (.t 43) (.t 42), none⟩])
 (.seq (.reg [
   ⟨(some 44), .fa 2 (.t 3), none⟩,
   ⟨(some 45), .ld 1 false (.t 44), none⟩,
   ⟨(some 46), .fa 2 (.t 1), none⟩,
   ⟨(some 47), .ld 1 false (.t 46), none⟩,
   ⟨(some 48), .app 1 8 (.t 45) (.t 47), none⟩,
   ⟨(some 49), .fa 2 (.t 3), none⟩,
   ⟨none, .st 1 (.t 49) (.t 48), none⟩])
 (.seq (.reg [
   ⟨(some 50), .fa 3 (.t 3), none⟩,
   ⟨(some 51), .ld 1 false (.t 50), none⟩,
   ⟨(some 52), .fa 3 (.t 1), none⟩,
   ⟨(some 53), .ld 1 false (.t 52), none⟩,
   ⟨(some 54), .app 3 24 (.t 51) (.t 53), none⟩,
   ⟨(some 55), .fa 3 (.t 3), none⟩,
   ⟨none, .st 1 (.t 55) (.t 54), none⟩])
 (.seq (.reg [
   ⟨(some 56), .fa 4 (.t 3), none⟩,
   ⟨(some 57), .ld 1 false (.t 56), none⟩,
   ⟨(some 58), .fa 4 (.t 1), none⟩,
   ⟨(some 59), .ld 1 false (.t 58), none⟩,
   ⟨(some 60), .app 3 24 (.t 57) (.t 59), none⟩,
   ⟨(some 61), .fa 4 (.t 3), none⟩,
   ⟨none, .st 1 (.t 61) (.t 60), none⟩])
 (.seq (.seq (.reg [
   ⟨(some 6), .mv (.c (.p (.int .i64 0))), none⟩])
 (.block 2 (.loop [1, 2, 3, 6]
   (.seq (.seq (.reg [
     ⟨(some 62), .mv (.t 6), none⟩,
     ⟨(some 63), .fa 5 (.t 1), none⟩,
     ⟨(some 64), .ld 1 false (.t 63), none⟩,
     ⟨(some 65), .len false (.t 64), none⟩,
     ⟨(some 66), .cmp .lss (.t 62) (.t 65), none⟩])
   (.cond (.t 66)
    (.skip)
    (.exit 2)))
   (.seq (.block 3 (.seq (.reg [
      ⟨(some 69), .fa 5 (.t 1), none⟩,
      ⟨(some 70), .ld 1 false (.t 69), none⟩,
      ⟨(some 71), .mv (.t 6), none⟩,
      ⟨(some 72), .ia 3 (.t 70) (.t 71), none⟩,
      ⟨(some 73), .ld 3 true (.t 72), none⟩,
      ⟨(some 7), .alloc [(.int .u8 0), (.bool false), (.isl false 0 [])], none⟩,
      ⟨none, .st 3 (.t 7) (.t 73), none⟩])
    (.seq (.reg [
      ⟨(some 74), .fa 2 (.t 7), none⟩,
      ⟨(some 75), .ld 1 false (.t 74), none⟩,
      ⟨(some 76), .call 71 [(.t 75)], none⟩,
      ⟨(some 77), .fa 2 (.t 7), none⟩,
      ⟨none, .st 1 (.t 77) (.t 76), none⟩])
    (.reg [
      ⟨(some 78), .fa 5 (.t 3), none⟩,
      ⟨(some 79), .ld 1 false (.t 78), none⟩,
      ⟨(some 80), .ld 3 true (.t 7), none⟩,
      ⟨(some 81), .bsl 3 [[(.int .u8 0), (.bool false), (.isl false 0 [])]] [(0, (.t 80))], none⟩,
      ⟨(some 82), .app 3 32 (.t 79) (.t 81), none⟩,
      ⟨(some 83), .fa 5 (.t 3), none⟩,
      ⟨none, .st 1 (.t 83) (.t 82), none⟩]))))
   (.reg [
     ⟨(some 67), .mv (.t 6), none⟩,
     ⟨(some 68), .ari .add .i64 (.t 67) (.c (.p (.int .i64 1))), none⟩,
     ⟨(some 6), .mv (.t 68), none⟩]))))))
 (.seq (.reg [
   ⟨(some 84), .fa 6 (.t 3), none⟩,
   ⟨(some 85), .ld 1 false (.t 84), none⟩,
   ⟨(some 86), .fa 6 (.t 1), none⟩,
   ⟨(some 87), .ld 1 false (.t 86), none⟩,
   ⟨(some 88), .app 3 32 (.t 85) (.t 87), none⟩,
   ⟨(some 89), .fa 6 (.t 3), none⟩,
   ⟨none, .st 1 (.t 89) (.t 88), none⟩])
 (.seq (.reg [
   ⟨(some 90), .fa 7 (.t 3), none⟩,
   ⟨(some 91), .ld 1 false (.t 90), none⟩,
   ⟨(some 92), .fa 7 (.t 1), none⟩,
   ⟨(some 93), .ld 1 false (.t 92), none⟩,
   ⟨(some 94), .app 1 8 (.t 91) (.t 93), none⟩,
   ⟨(some 95), .fa 7 (.t 3), none⟩,
   ⟨none, .st 1 (.t 95) (.t 94), none⟩])
 (.seq (.seq (.reg [
   ⟨(some 8), .mv (.c (.p (.int .i64 0))), none⟩])
 (.block 4 (.loop [1, 2, 3, 8]
   (.seq (.seq (.reg [
     ⟨(some 96), .mv (.t 8), none⟩,
     ⟨(some 97), .fa 8 (.t 1), none⟩,
     ⟨(some 98), .ld 1 false (.t 97), none⟩,
     ⟨(some 99), .len false (.t 98), none⟩,
     ⟨(some 100), .cmp .lss (.t 96) (.t 99), none⟩])
   (.cond (.t 100)
    (.skip)
    (.exit 4)))
   (.seq (.block 5 (.seq (.reg [
      ⟨(some 103), .fa 8 (.t 1), none⟩,
      ⟨(some 104), .ld 1 false (.t 103), none⟩,
      ⟨(some 105), .mv (.t 8), none⟩,
      ⟨(some 106), .ia 3 (.t 104) (.t 105), none⟩,
      ⟨(some 107), .ld 3 true (.t 106), none⟩,
      ⟨(some 9), .alloc [(.int .i64 0), (.isl false 0 []), (.isl false 0 [])], none⟩,
      ⟨none, .st 3 (.t 9) (.t 107), none⟩])
    (.regd [
      ⟨(some 108), .fa 8 (.t 3), none⟩,
      ⟨(some 109), .ld 1 false (.t 108), none⟩,
      ⟨(some 110), .fa 0 (.t 9), none⟩,
      ⟨(some 111), .ld 1 false (.t 110), none⟩,
      ⟨(some 112), .fa 1 (.t 9), none⟩,
      ⟨(some 113), .ld 1 false (.t 112), none⟩,
      ⟨(some 114), .call 71 [(.t 113)], none⟩,
      ⟨(some 115), .fa 2 (.t 9), none⟩,
      ⟨(some 116), .ld 1 false (.t 115), none⟩,
      ⟨(some 117), .app 1 8 (.c (.p (.isl false 0 []))) (.t 116), none⟩,
      ⟨(some 118), .build [(.int .i64 0), (.isl false 0 []), (.isl false 0 [])] [(0, 1, (.t 111)), (1, 1, (.t 114)), (2, 1, (.t 117))], none⟩,
      ⟨(some 119), .bsl 3 [[(.int .i64 0), (.isl false 0 []), (.isl false 0 [])]] [(0, (.t 118))], none⟩,
      ⟨(some 120), .app 3 56 (.t 109) (.t 119), none⟩,
      ⟨(some 121), .fa 8 (.t 3), none⟩,
      ⟨none, .st 1 (.t 121) (.t 120), none⟩] [[], [], [], [], [], [], [1, 3], [], [6], [1, 3], [], [1], [], [], []] [false, false, false, false, false, false, false, false, false, true, true, true, true, true, true])))
   (.reg [
     ⟨(some 101), .mv (.t 8), none⟩,
     ⟨(some 102), .ari .add .i64 (.t 101) (.c (.p (.int .i64 1))), none⟩,
     ⟨(some 8), .mv (.t 102), none⟩]))))))
 (.seq (.seq (.reg [
   ⟨(some 10), .mv (.c (.p (.int .i64 0))), none⟩])
 (.block 6 (.loop [1, 2, 3, 10]
   (.seq (.seq (.reg [
     ⟨(some 122), .mv (.t 10), none⟩,
     ⟨(some 123), .fa 9 (.t 1), none⟩,
     ⟨(some 124), .ld 1 false (.t 123), none⟩,
     ⟨(some 125), .len false (.t 124), none⟩,
     ⟨(some 126), .cmp .lss (.t 122) (.t 125), none⟩])
   (.cond (.t 126)
    (.skip)
    (.exit 6)))
   (.seq (.block 7 (.seq (.reg [
      ⟨(some 129), .fa 9 (.t 1), none⟩,
      ⟨(some 130), .ld 1 false (.t 129), none⟩,
      ⟨(some 131), .mv (.t 10), none⟩,
      ⟨(some 132), .ia 2 (.t 130) (.t 131), none⟩,
      ⟨(some 133), .ld 2 true (.t 132), none⟩,
      ⟨(some 11), .alloc [(.isl false 0 []), (.isl false 0 [])], none⟩,
      ⟨none, .st 2 (.t 11) (.t 133), none⟩])
    (.regd [
      ⟨(some 134), .fa 9 (.t 3), none⟩,
      ⟨(some 135), .ld 1 false (.t 134), none⟩,
      ⟨(some 136), .fa 0 (.t 11), none⟩,
      ⟨(some 137), .ld 1 false (.t 136), none⟩,
      ⟨(some 138), .app 2 16 (.c (.p (.isl false 0 []))) (.t 137), none⟩,
      ⟨(some 139), .fa 1 (.t 11), none⟩,
      ⟨(some 140), .ld 1 false (.t 139), none⟩,
      ⟨(some 141), .call 71 [(.t 140)], none⟩,
      ⟨(some 142), .build [(.isl false 0 []), (.isl false 0 [])] [(0, 1, (.t 138)), (1, 1, (.t 141))], none⟩,
      ⟨(some 143), .bsl 2 [[(.isl false 0 []), (.isl false 0 [])]] [(0, (.t 142))], none⟩,
      ⟨(some 144), .app 2 48 (.t 135) (.t 143), none⟩,
      ⟨(some 145), .fa 9 (.t 3), none⟩,
      ⟨none, .st 1 (.t 145) (.t 144), none⟩] [[], [], [], [], [1], [], [4], [1], [], [1], [], [], []] [false, false, false, false, false, false, false, true, true, true, true, true, true])))
   (.reg [
     ⟨(some 127), .mv (.t 10), none⟩,
     ⟨(some 128), .ari .add .i64 (.t 127) (.c (.p (.int .i64 1))), none⟩,
     ⟨(some 10), .mv (.t 128), none⟩]))))))
 (.seq (.seq (.reg [
   ⟨(some 12), .mv (.c (.p (.int .i64 0))), none⟩])
 (.block 8 (.loop [1, 2, 3, 12]
   (.seq (.seq (.reg [
     ⟨(some 146), .mv (.t 12), none⟩,
     ⟨(some 147), .fa 10 (.t 1), none⟩,
     ⟨(some 148), .ld 1 false (.t 147), none⟩,
     ⟨(some 149), .len false (.t 148), none⟩,
     ⟨(some 150), .cmp .lss (.t 146) (.t 149), none⟩])
   (.cond (.t 150)
    (.skip)
    (.exit 8)))
   (.seq (.block 9 (.seq (.reg [
      ⟨(some 153), .fa 10 (.t 1), none⟩,
      ⟨(some 154), .ld 1 false (.t 153), none⟩,
      ⟨(some 155), .mv (.t 12), none⟩,
      ⟨(some 156), .ia 3 (.t 154) (.t 155), none⟩,
      ⟨(some 157), .ld 3 true (.t 156), none⟩,
      ⟨(some 13), .alloc [(.int .i64 0), (.isl false 0 []), (.isl false 0 [])], none⟩,
      ⟨none, .st 3 (.t 13) (.t 157), none⟩])
    (.regd [
      ⟨(some 158), .fa 10 (.t 3), none⟩,
      ⟨(some 159), .ld 1 false (.t 158), none⟩,
      ⟨(some 160), .fa 0 (.t 13), none⟩,
      ⟨(some 161), .ld 1 false (.t 160), none⟩,
      ⟨(some 162), .fa 1 (.t 13), none⟩,
      ⟨(some 163), .ld 1 false (.t 162), none⟩,
      ⟨(some 164), .call 71 [(.t 163)], none⟩,
      ⟨(some 165), .fa 2 (.t 13), none⟩,
      ⟨(some 166), .ld 1 false (.t 165), none⟩,
      ⟨(some 167), .app 1 1 (.c (.p (.isl false 0 []))) (.t 166), none⟩,
      ⟨(some 168), .build [(.int .i64 0), (.isl false 0 []), (.isl false 0 [])] [(0, 1, (.t 161)), (1, 1, (.t 164)), (2, 1, (.t 167))], none⟩,
      ⟨(some 169), .bsl 3 [[(.int .i64 0), (.isl false 0 []), (.isl false 0 [])]] [(0, (.t 168))], none⟩,
      ⟨(some 170), .app 3 56 (.t 159) (.t 169), none⟩,
      ⟨(some 171), .fa 10 (.t 3), none⟩,
      ⟨none, .st 1 (.t 171) (.t 170), none⟩] [[], [], [], [], [], [], [1, 3], [], [6], [1, 3], [], [1], [], [], []] [false, false, false, false, false, false, false, false, false, true, true, true, true, true, true])))
   (.reg [
     ⟨(some 151), .mv (.t 12), none⟩,
     ⟨(some 152), .ari .add .i64 (.t 151) (.c (.p (.int .i64 1))), none⟩,
     ⟨(some 12), .mv (.t 152), none⟩]))))))
 (.seq (.reg [
   ⟨(some 172), .ld 11 true (.t 3), none⟩,
   ⟨none, .st 11 (.t 2) (.t 172), none⟩])
 (.ret))))))))))))))
def ann13 : List (List Nat) := [[1, 2, 3, 4], [1, 2, 3, 6], [1, 2, 3, 8], [1, 2, 3, 10], [1, 2, 3, 12]]
theorem comp13 : comp Try.prog Try.f13.ntmps (Try.f13.body.getD .skip) ann13 = some (cc13, []) := by kernel_rfl
theorem body13 : Try.f13.body = some (Try.f13.body.getD .skip) := by kernel_rfl
theorem name13 : (Try.f13.name == "runtime.NumGoroutine") = false := by kernel_rfl
theorem res13 : resC Try.prog Try.f13.results.toList = some [.cell 2 11 true] := by kernel_rfl
theorem ar13 : Nat.ble 1 Try.f13.ntmps = true := by kernel_rfl
set_option maxHeartbeats 4000000 in
theorem spec13 (a0n b0 : Bool) (a0 r0 : List (List PV)) (N0 : Int) (a1n b1 : Bool) (a1 r1 : List (List PV)) (N1 : Int) (a2n b2 : Bool) (a2 r2 : List (List PV)) (N2 : Int) (a3n b3 : Bool) (a3 r3 : List (List PV)) (N3 : Int) (a4n b4 : Bool) (a4 r4 : List (List PV)) (N4 : Int) (a5n b5 : Bool) (a5 r5 : List (List PV)) (N5 : Int) (a6n b6 : Bool) (a6 r6 : List (List PV)) (N6 : Int) (a7n b7 : Bool) (a7 r7 : List (List PV)) (N7 : Int) (a8n b8 : Bool) (a8 r8 : List (List PV)) (N8 : Int) (a9n b9 : Bool) (a9 r9 : List (List PV)) (N9 : Int) (a10n b10 : Bool) (a10 r10 : List (List PV)) (N10 : Int) (ga0 : a0n = false → a0 = []) (ea0 : HasE TType a0) (hN0 : N0 = a0.length) (hb0 : b0 = !a0.isEmpty) (hr0 : r0 = twEs false a0) (ga1 : a1n = false → a1 = []) (ea1 : HasE TImport a1) (hN1 : N1 = a1.length) (hb1 : b1 = !a1.isEmpty) (hr1 : r1 = twEs false a1) (ga2 : a2n = false → a2 = []) (ea2 : HasE TI64 a2) (hN2 : N2 = a2.length) (hb2 : b2 = !a2.isEmpty) (hr2 : r2 = twEs false a2) (ga3 : a3n = false → a3 = []) (ea3 : HasE TLimits a3) (hN3 : N3 = a3.length) (hb3 : b3 = !a3.isEmpty) (hr3 : r3 = twEs false a3) (ga4 : a4n = false → a4 = []) (ea4 : HasE TLimits a4) (hN4 : N4 = a4.length) (hb4 : b4 = !a4.isEmpty) (hr4 : r4 = twEs false a4) (ga5 : a5n = false → a5 = []) (ea5 : HasE TGlobal a5) (hN5 : N5 = a5.length) (hb5 : b5 = !a5.isEmpty) (hr5 : r5 = twEs false a5) (ga6 : a6n = false → a6 = []) (ea6 : HasE TExport a6) (hN6 : N6 = a6.length) (hb6 : b6 = !a6.isEmpty) (hr6 : r6 = twEs false a6) (ga7 : a7n = false → a7 = []) (ea7 : HasE TI64 a7) (hN7 : N7 = a7.length) (hb7 : b7 = !a7.isEmpty) (hr7 : r7 = twEs false a7) (ga8 : a8n = false → a8 = []) (ea8 : HasE TElem a8) (hN8 : N8 = a8.length) (hb8 : b8 = !a8.isEmpty) (hr8 : r8 = twEs false a8) (ga9 : a9n = false → a9 = []) (ea9 : HasE TCode a9) (hN9 : N9 = a9.length) (hb9 : b9 = !a9.isEmpty) (hr9 : r9 = twEs false a9) (ga10 : a10n = false → a10 = []) (ea10 : HasE TData a10) (hN10 : N10 = a10.length) (hb10 : b10 = !a10.isEmpty) (hr10 : r10 = twEs false a10) : Runs Try.prog 13 [.agg (plainP [.isl a0n 2 a0, .isl a1n 9 a1, .isl a2n 1 a2, .isl a3n 3 a3, .isl a4n 3 a4, .isl a5n 3 a5, .isl a6n 3 a6, .isl a7n 1 a7, .isl a8n 3 a8, .isl a9n 2 a9, .isl a10n 3 a10])] [] (.ret (.agg [.sl b0 ⟨0, []⟩ 2 0 N0, .sl b1 ⟨1, []⟩ 9 0 N1, .sl b2 ⟨2, []⟩ 1 0 N2, .sl b3 ⟨3, []⟩ 3 0 N3, .sl b4 ⟨4, []⟩ 3 0 N4, .sl b5 ⟨5, []⟩ 3 0 N5, .sl b6 ⟨6, []⟩ 3 0 N6, .sl b7 ⟨7, []⟩ 1 0 N7, .sl b8 ⟨8, []⟩ 3 0 N8, .sl b9 ⟨9, []⟩ 2 0 N9, .sl b10 ⟨10, []⟩ 3 0 N10]) [.row b0 2 r0, .row b1 9 r1, .row b2 1 r2, .row b3 3 r3, .row b4 3 r4, .row b5 3 r5, .row b6 3 r6, .row b7 1 r7, .row b8 3 r8, .row b9 2 r9, .row b10 3 r10]) := by
  refine runs_len fun _ => ?_
  refine runs_of_wp 11 Try.func13 body13 name13 comp13 res13 (Nat.le_of_ble_eq_true ar13) ?_
  generalize hI : stdI = LI
  generalize hB : stdB = LB
  generalize hE : stdE = LE
  have la0 : LI (.len a0) = a0.length := by rw [← hI]; rfl
  have la1 : LI (.len a1) = a1.length := by rw [← hI]; rfl
  have la2 : LI (.len a2) = a2.length := by rw [← hI]; rfl
  have la3 : LI (.len a3) = a3.length := by rw [← hI]; rfl
  have la4 : LI (.len a4) = a4.length := by rw [← hI]; rfl
  have la5 : LI (.len a5) = a5.length := by rw [← hI]; rfl
  have la6 : LI (.len a6) = a6.length := by rw [← hI]; rfl
  have la7 : LI (.len a7) = a7.length := by rw [← hI]; rfl
  have la8 : LI (.len a8) = a8.length := by rw [← hI]; rfl
  have la9 : LI (.len a9) = a9.length := by rw [← hI]; rfl
  have la10 : LI (.len a10) = a10.length := by rw [← hI]; rfl
  generalize hR : Runs Try.prog = R
  cbv
  refine loopR (α := Nat × Int × Bool × Int × List (List PV)) [.thawB 2 0 2] 4 (Nat.zero_le _) (fun s a => ((s.sett 4 (.p (.int .i64 a.2.1))).bx 2 0 (.sl a.2.2.1 ⟨3, []⟩ 2 0 a.2.2.2.1)).ob 3 (.row a.2.2.1 2 a.2.2.2.2)) (fun a => a0.length - a.1)
    (fun a => a.2.1 = a.1 ∧ a.1 ≤ a0.length ∧ a.2.2.2.2 = twEs false (a0.take a.1) ∧ a.2.2.1 = (!(a0.take a.1).isEmpty) ∧ a.2.2.2.1 = a.1) (0, 0, false, 0, []) ⟨rfl, Nat.zero_le _, rfl, rfl, rfl⟩ (by cbv) ?_
  rintro S1 hS inv hinv ⟨k, K, nn, M, els⟩ ⟨hK, hk, ht, hnn, hM⟩
  subst hS
  simp only at hK hk ht hnn hM
  have hz := ea0.1
  cbv
  cases hc : LB (.cmp .lss K (LI (.len a0)))
  · rw [← hB, B_lss, la0, hK] at hc
    have hc : ¬ k < a0.length := by simpa using hc
    clear hinv
    have e1 : r0 = els := by rw [ht, hr0, twEs_all (by omega)]
    subst e1
    have e2 : b0 = nn := by rw [hnn, hb0, List.take_of_length_le (by omega)]
    subst e2
    have e3 : N0 = M := by rw [hM, hN0, show k = a0.length by omega]
    subst e3
    clear ht hnn hM
    cbv
    refine ⟨[], trivial, ?_⟩
    cbv
    refine ⟨0, b1, r1, N1, rfl, Nat.zero_le _, by rw [hr1, twEs_flat rfl ea1]; rfl, by rw [hb1]; rfl, by rw [hN1, hr1, twEs_len], by rw [hr1, twEs_len]; have := ea1.1; omega, ?_⟩
    cbv
    refine ⟨[], trivial, ?_⟩
    cbv
    refine ⟨0, b2, r2, N2, rfl, Nat.zero_le _, by rw [hr2, twEs_flat rfl ea2]; rfl, by rw [hb2]; rfl, by rw [hN2, hr2, twEs_len], by rw [hr2, twEs_len]; have := ea2.1; omega, ?_⟩
    cbv
    refine ⟨[], trivial, ?_⟩
    cbv
    refine ⟨0, b3, r3, N3, rfl, Nat.zero_le _, by rw [hr3, twEs_flat rfl ea3]; rfl, by rw [hb3]; rfl, by rw [hN3, hr3, twEs_len], by rw [hr3, twEs_len]; have := ea3.1; omega, ?_⟩
    cbv
    refine ⟨[], trivial, ?_⟩
    cbv
    refine ⟨0, b4, r4, N4, rfl, Nat.zero_le _, by rw [hr4, twEs_flat rfl ea4]; rfl, by rw [hb4]; rfl, by rw [hN4, hr4, twEs_len], by rw [hr4, twEs_len]; have := ea4.1; omega, ?_⟩
    cbv
    refine loopR (α := Nat × Int × Bool × Int × List (List PV)) [.thawB 2 5 3] 9 (Nat.zero_le _) (fun s a => ((s.sett 6 (.p (.int .i64 a.2.1))).bx 2 5 (.sl a.2.2.1 ⟨8, []⟩ 3 0 a.2.2.2.1)).ob 8 (.row a.2.2.1 3 a.2.2.2.2)) (fun a => a5.length - a.1)
      (fun a => a.2.1 = a.1 ∧ a.1 ≤ a5.length ∧ a.2.2.2.2 = twEs false (a5.take a.1) ∧ a.2.2.1 = (!(a5.take a.1).isEmpty) ∧ a.2.2.2.1 = a.1) (0, 0, false, 0, []) ⟨rfl, Nat.zero_le _, rfl, rfl, rfl⟩ (by cbv) ?_
    rintro S1 hS inv hinv ⟨k, K, nn, M, els⟩ ⟨hK, hk, ht, hnn, hM⟩
    subst hS
    simp only at hK hk ht hnn hM
    have hz := ea5.1
    cbv
    cases hc : LB (.cmp .lss K (LI (.len a5)))
    · rw [← hB, B_lss, la5, hK] at hc
      have hc : ¬ k < a5.length := by simpa using hc
      clear hinv
      have e1 : r5 = els := by rw [ht, hr5, twEs_all (by omega)]
      subst e1
      have e2 : b5 = nn := by rw [hnn, hb5, List.take_of_length_le (by omega)]
      subst e2
      have e3 : N5 = M := by rw [hM, hN5, show k = a5.length by omega]
      subst e3
      clear ht hnn hM
      cbv
      refine ⟨[], trivial, ?_⟩
      cbv
      refine ⟨0, b6, r6, N6, rfl, Nat.zero_le _, by rw [hr6, twEs_flat rfl ea6]; rfl, by rw [hb6]; rfl, by rw [hN6, hr6, twEs_len], by rw [hr6, twEs_len]; have := ea6.1; omega, ?_⟩
      cbv
      refine ⟨[], trivial, ?_⟩
      cbv
      refine ⟨0, b7, r7, N7, rfl, Nat.zero_le _, by rw [hr7, twEs_flat rfl ea7]; rfl, by rw [hb7]; rfl, by rw [hN7, hr7, twEs_len], by rw [hr7, twEs_len]; have := ea7.1; omega, ?_⟩
      cbv
      refine loopR (α := Nat × Int × Bool × Int × List (List PV)) [.thawB 2 8 3] 12 (Nat.zero_le _) (fun s a => ((s.sett 8 (.p (.int .i64 a.2.1))).bx 2 8 (.sl a.2.2.1 ⟨11, []⟩ 3 0 a.2.2.2.1)).ob 11 (.row a.2.2.1 3 a.2.2.2.2)) (fun a => a8.length - a.1)
        (fun a => a.2.1 = a.1 ∧ a.1 ≤ a8.length ∧ a.2.2.2.2 = twEs false (a8.take a.1) ∧ a.2.2.1 = (!(a8.take a.1).isEmpty) ∧ a.2.2.2.1 = a.1) (0, 0, false, 0, []) ⟨rfl, Nat.zero_le _, rfl, rfl, rfl⟩ (by cbv) ?_
      rintro S1 hS inv hinv ⟨k, K, nn, M, els⟩ ⟨hK, hk, ht, hnn, hM⟩
      subst hS
      simp only at hK hk ht hnn hM
      have hz := ea8.1
      cbv
      cases hc : LB (.cmp .lss K (LI (.len a8)))
      · rw [← hB, B_lss, la8, hK] at hc
        have hc : ¬ k < a8.length := by simpa using hc
        clear hinv
        have e1 : r8 = els := by rw [ht, hr8, twEs_all (by omega)]
        subst e1
        have e2 : b8 = nn := by rw [hnn, hb8, List.take_of_length_le (by omega)]
        subst e2
        have e3 : N8 = M := by rw [hM, hN8, show k = a8.length by omega]
        subst e3
        clear ht hnn hM
        cbv
        refine loopR (α := Nat × Int × Bool × Int × List (List PV)) [.thawB 2 9 2] 13 (Nat.zero_le _) (fun s a => ((s.sett 10 (.p (.int .i64 a.2.1))).bx 2 9 (.sl a.2.2.1 ⟨12, []⟩ 2 0 a.2.2.2.1)).ob 12 (.row a.2.2.1 2 a.2.2.2.2)) (fun a => a9.length - a.1)
          (fun a => a.2.1 = a.1 ∧ a.1 ≤ a9.length ∧ a.2.2.2.2 = twEs false (a9.take a.1) ∧ a.2.2.1 = (!(a9.take a.1).isEmpty) ∧ a.2.2.2.1 = a.1) (0, 0, false, 0, []) ⟨rfl, Nat.zero_le _, rfl, rfl, rfl⟩ (by cbv) ?_
        rintro S1 hS inv hinv ⟨k, K, nn, M, els⟩ ⟨hK, hk, ht, hnn, hM⟩
        subst hS
        simp only at hK hk ht hnn hM
        have hz := ea9.1
        cbv
        cases hc : LB (.cmp .lss K (LI (.len a9)))
        · rw [← hB, B_lss, la9, hK] at hc
          have hc : ¬ k < a9.length := by simpa using hc
          clear hinv
          have e1 : r9 = els := by rw [ht, hr9, twEs_all (by omega)]
          subst e1
          have e2 : b9 = nn := by rw [hnn, hb9, List.take_of_length_le (by omega)]
          subst e2
          have e3 : N9 = M := by rw [hM, hN9, show k = a9.length by omega]
          subst e3
          clear ht hnn hM
          cbv
          refine loopR (α := Nat × Int × Bool × Int × List (List PV)) [.thawB 2 10 3] 14 (Nat.zero_le _) (fun s a => ((s.sett 12 (.p (.int .i64 a.2.1))).bx 2 10 (.sl a.2.2.1 ⟨13, []⟩ 3 0 a.2.2.2.1)).ob 13 (.row a.2.2.1 3 a.2.2.2.2)) (fun a => a10.length - a.1)
            (fun a => a.2.1 = a.1 ∧ a.1 ≤ a10.length ∧ a.2.2.2.2 = twEs false (a10.take a.1) ∧ a.2.2.1 = (!(a10.take a.1).isEmpty) ∧ a.2.2.2.1 = a.1) (0, 0, false, 0, []) ⟨rfl, Nat.zero_le _, rfl, rfl, rfl⟩ (by cbv) ?_
          rintro S1 hS inv hinv ⟨k, K, nn, M, els⟩ ⟨hK, hk, ht, hnn, hM⟩
          subst hS
          simp only at hK hk ht hnn hM
          have hz := ea10.1
          cbv
          cases hc : LB (.cmp .lss K (LI (.len a10)))
          · rw [← hB, B_lss, la10, hK] at hc
            have hc : ¬ k < a10.length := by simpa using hc
            clear hinv
            have e1 : r10 = els := by rw [ht, hr10, twEs_all (by omega)]
            subst e1
            have e2 : b10 = nn := by rw [hnn, hb10, List.take_of_length_le (by omega)]
            subst e2
            have e3 : N10 = M := by rw [hM, hN10, show k = a10.length by omega]
            subst e3
            clear ht hnn hM
            cbv
            refine ⟨[.drop 0, .drop 2, .dead, .mov 1 14, .mov 3 0, .mov 4 1, .mov 5 2, .mov 6 3, .mov 7 4, .mov 8 5, .mov 9 6, .mov 10 7, .mov 11 8, .mov 12 9, .mov 13 10], 11, Nat.zero_le _, ?_⟩
            cbv
          · rw [← hB, B_lss, la10, hK] at hc
            have hc : k < a10.length := by simpa using hc
            obtain ⟨x, hx, hx'⟩ := ea10.at hc
            obtain ⟨p0, p1n, p1, p2n, p2, rfl, gp1, ep1, gp2, ep2⟩ := has_data hx'
            have lp1 : LI (.len p1) = p1.length := by rw [← hI]; rfl
            have hzp1 := ep1.1
            obtain ⟨c1, hcb1⟩ : ∃ b : Bool, b = (!p1.isEmpty) := ⟨_, rfl⟩
            obtain ⟨q1, hq1⟩ : ∃ q, q = twEs false p1 := ⟨_, rfl⟩
            obtain ⟨Q1, hQ1⟩ : ∃ Q : Int, Q = p1.length := ⟨_, rfl⟩
            have t1 := spec71 p1n p1 Q1 hQ1 ep1
            rw [← hq1, ← hcb1, hR] at t1
            have lq1 : LI (.len q1) = Q1 := by rw [← hI, I_len, hq1, twEs_len, hQ1]
            have lp2 : LI (.len p2) = p2.length := by rw [← hI]; rfl
            have hzp2 := ep2.1
            obtain ⟨c2, hcb2⟩ : ∃ b : Bool, b = (!p2.isEmpty) := ⟨_, rfl⟩
            cbv
            refine ⟨k, _, hK, hx, rfl, ?_⟩
            cbv
            refine ⟨[], rfl, ?_⟩
            cbv
            refine ⟨[], rfl, _, t1, Or.inl rfl, ?_⟩
            cbv
            refine ⟨[], rfl, ?_⟩
            cbv
            refine ⟨0, c2, p2, LI (.len p2), rfl, Nat.zero_le _, rfl, hcb2, lp2, by omega, ?_⟩
            cbv
            refine ⟨[], rfl, ?_⟩
            cbv
            obtain ⟨els2, he2⟩ : ∃ l, l = els ++ [[.int .i64 p0, .own c1 4 q1, .own c2 1 p2]] := ⟨_, rfl⟩
            refine ⟨⟨by rw [← hI]; rfl, ⟨⟨lq1.symm, trivial⟩, trivial⟩⟩, k, true, els2, LI (.ari .add .i64 K 1), hM, ?_, ?_, ?_, ?_, ?_, ?_⟩
            · rw [ht, twEs_len, List.length_take]; omega
            · rw [he2, List.take_of_length_le (by rw [ht, twEs_len, List.length_take]; omega)]
            · cases nn <;> rfl
            · rw [← hI, hK, I_inc (by omega), he2, ht, List.length_append, twEs_len, List.length_take]; simp; omega
            · rw [he2, ht, List.length_append, twEs_len, List.length_take]; simp; omega
            cbv
            have hh := hinv (k + 1, LI (.ari .add .i64 K 1), true, LI (.ari .add .i64 K 1), els2) ⟨by
              simp only
              rw [← hI, hK]
              exact I_inc (by omega), hc, by
              simp only
              rw [twEs_succ hx, he2, ht]
              simp only [twC, tw, ← hq1, hcb1, twEs_flat rfl ep2, hcb2], by
              simp only
              rw [List.take_add_one, hx]
              simp, by
              simp only
              rw [← hI, hK]
              exact I_inc (by omega)⟩
            simp only at hh
            generalize hmu : a10.length - (k + 1) = mu at hh
            refine ⟨[.mov 17 13], mu, by omega, ?_⟩
            refine invE hh ?_
            cbv
        · rw [← hB, B_lss, la9, hK] at hc
          have hc : k < a9.length := by simpa using hc
          obtain ⟨x, hx, hx'⟩ := ea9.at hc
          obtain ⟨p0n, p0, p1n, p1, rfl, gp0, ep0, gp1, ep1⟩ := has_code hx'
          have lp0 : LI (.len p0) = p0.length := by rw [← hI]; rfl
          have hzp0 := ep0.1
          obtain ⟨c0, hcb0⟩ : ∃ b : Bool, b = (!p0.isEmpty) := ⟨_, rfl⟩
          have lp1 : LI (.len p1) = p1.length := by rw [← hI]; rfl
          have hzp1 := ep1.1
          obtain ⟨c1, hcb1⟩ : ∃ b : Bool, b = (!p1.isEmpty) := ⟨_, rfl⟩
          obtain ⟨q1, hq1⟩ : ∃ q, q = twEs false p1 := ⟨_, rfl⟩
          obtain ⟨Q1, hQ1⟩ : ∃ Q : Int, Q = p1.length := ⟨_, rfl⟩
          have t1 := spec71 p1n p1 Q1 hQ1 ep1
          rw [← hq1, ← hcb1, hR] at t1
          have lq1 : LI (.len q1) = Q1 := by rw [← hI, I_len, hq1, twEs_len, hQ1]
          cbv
          refine ⟨k, _, hK, hx, rfl, ?_⟩
          cbv
          refine ⟨[], rfl, ?_⟩
          cbv
          refine ⟨0, c0, p0, LI (.len p0), rfl, Nat.zero_le _, rfl, hcb0, lp0, by omega, ?_⟩
          cbv
          refine ⟨[], rfl, ?_⟩
          cbv
          refine ⟨[], rfl, _, t1, Or.inl rfl, ?_⟩
          cbv
          refine ⟨[], rfl, ?_⟩
          cbv
          obtain ⟨els2, he2⟩ : ∃ l, l = els ++ [[.own c0 2 p0, .own c1 4 q1]] := ⟨_, rfl⟩
          refine ⟨⟨by rw [← hI]; rfl, ⟨⟨lq1.symm, trivial⟩, trivial⟩⟩, k, true, els2, LI (.ari .add .i64 K 1), hM, ?_, ?_, ?_, ?_, ?_, ?_⟩
          · rw [ht, twEs_len, List.length_take]; omega
          · rw [he2, List.take_of_length_le (by rw [ht, twEs_len, List.length_take]; omega)]
          · cases nn <;> rfl
          · rw [← hI, hK, I_inc (by omega), he2, ht, List.length_append, twEs_len, List.length_take]; simp; omega
          · rw [he2, ht, List.length_append, twEs_len, List.length_take]; simp; omega
          cbv
          have hh := hinv (k + 1, LI (.ari .add .i64 K 1), true, LI (.ari .add .i64 K 1), els2) ⟨by
            simp only
            rw [← hI, hK]
            exact I_inc (by omega), hc, by
            simp only
            rw [twEs_succ hx, he2, ht]
            simp only [twC, tw, twEs_flat rfl ep0, hcb0, ← hq1, hcb1], by
            simp only
            rw [List.take_add_one, hx]
            simp, by
            simp only
            rw [← hI, hK]
            exact I_inc (by omega)⟩
          simp only at hh
          generalize hmu : a9.length - (k + 1) = mu at hh
          refine ⟨[.mov 16 12], mu, by omega, ?_⟩
          refine invE hh ?_
          cbv
      · rw [← hB, B_lss, la8, hK] at hc
        have hc : k < a8.length := by simpa using hc
        obtain ⟨x, hx, hx'⟩ := ea8.at hc
        obtain ⟨p0, p1n, p1, p2n, p2, rfl, gp1, ep1, gp2, ep2⟩ := has_elem hx'
        have lp1 : LI (.len p1) = p1.length := by rw [← hI]; rfl
        have hzp1 := ep1.1
        obtain ⟨c1, hcb1⟩ : ∃ b : Bool, b = (!p1.isEmpty) := ⟨_, rfl⟩
        obtain ⟨q1, hq1⟩ : ∃ q, q = twEs false p1 := ⟨_, rfl⟩
        obtain ⟨Q1, hQ1⟩ : ∃ Q : Int, Q = p1.length := ⟨_, rfl⟩
        have t1 := spec71 p1n p1 Q1 hQ1 ep1
        rw [← hq1, ← hcb1, hR] at t1
        have lq1 : LI (.len q1) = Q1 := by rw [← hI, I_len, hq1, twEs_len, hQ1]
        have lp2 : LI (.len p2) = p2.length := by rw [← hI]; rfl
        have hzp2 := ep2.1
        obtain ⟨c2, hcb2⟩ : ∃ b : Bool, b = (!p2.isEmpty) := ⟨_, rfl⟩
        cbv
        refine ⟨k, _, hK, hx, rfl, ?_⟩
        cbv
        refine ⟨[], rfl, ?_⟩
        cbv
        refine ⟨[], rfl, _, t1, Or.inl rfl, ?_⟩
        cbv
        refine ⟨[], rfl, ?_⟩
        cbv
        refine ⟨0, c2, p2, LI (.len p2), rfl, Nat.zero_le _, rfl, hcb2, lp2, by omega, ?_⟩
        cbv
        refine ⟨[], rfl, ?_⟩
        cbv
        obtain ⟨els2, he2⟩ : ∃ l, l = els ++ [[.int .i64 p0, .own c1 4 q1, .own c2 1 p2]] := ⟨_, rfl⟩
        refine ⟨⟨by rw [← hI]; rfl, ⟨⟨lq1.symm, trivial⟩, trivial⟩⟩, k, true, els2, LI (.ari .add .i64 K 1), hM, ?_, ?_, ?_, ?_, ?_, ?_⟩
        · rw [ht, twEs_len, List.length_take]; omega
        · rw [he2, List.take_of_length_le (by rw [ht, twEs_len, List.length_take]; omega)]
        · cases nn <;> rfl
        · rw [← hI, hK, I_inc (by omega), he2, ht, List.length_append, twEs_len, List.length_take]; simp; omega
        · rw [he2, ht, List.length_append, twEs_len, List.length_take]; simp; omega
        cbv
        have hh := hinv (k + 1, LI (.ari .add .i64 K 1), true, LI (.ari .add .i64 K 1), els2) ⟨by
          simp only
          rw [← hI, hK]
          exact I_inc (by omega), hc, by
          simp only
          rw [twEs_succ hx, he2, ht]
          simp only [twC, tw, ← hq1, hcb1, twEs_flat rfl ep2, hcb2], by
          simp only
          rw [List.take_add_one, hx]
          simp, by
          simp only
          rw [← hI, hK]
          exact I_inc (by omega)⟩
        simp only at hh
        generalize hmu : a8.length - (k + 1) = mu at hh
        refine ⟨[.mov 15 11], mu, by omega, ?_⟩
        refine invE hh ?_
        cbv
    · rw [← hB, B_lss, la5, hK] at hc
      have hc : k < a5.length := by simpa using hc
      obtain ⟨x, hx, hx'⟩ := ea5.at hc
      obtain ⟨p0, p1, p2n, p2, rfl, gp2, ep2⟩ := has_global hx'
      have lp2 : LI (.len p2) = p2.length := by rw [← hI]; rfl
      have hzp2 := ep2.1
      obtain ⟨c2, hcb2⟩ : ∃ b : Bool, b = (!p2.isEmpty) := ⟨_, rfl⟩
      obtain ⟨q2, hq2⟩ : ∃ q, q = twEs false p2 := ⟨_, rfl⟩
      obtain ⟨Q2, hQ2⟩ : ∃ Q : Int, Q = p2.length := ⟨_, rfl⟩
      have t2 := spec71 p2n p2 Q2 hQ2 ep2
      rw [← hq2, ← hcb2, hR] at t2
      have lq2 : LI (.len q2) = Q2 := by rw [← hI, I_len, hq2, twEs_len, hQ2]
      cbv
      refine ⟨k, _, hK, hx, rfl, ?_⟩
      cbv
      refine ⟨[], trivial, ?_⟩
      cbv
      refine ⟨[], rfl, _, t2, Or.inl rfl, ?_⟩
      cbv
      refine ⟨[], trivial, ?_⟩
      cbv
      obtain ⟨els2, he2⟩ : ∃ l, l = els ++ [[.int .u8 p0, .bool p1, .own c2 4 q2]] := ⟨_, rfl⟩
      refine ⟨⟨by rw [← hI]; rfl, ⟨⟨lq2.symm, trivial⟩, trivial⟩⟩, k, true, els2, LI (.ari .add .i64 K 1), hM, ?_, ?_, ?_, ?_, ?_, ?_⟩
      · rw [ht, twEs_len, List.length_take]; omega
      · rw [he2, List.take_of_length_le (by rw [ht, twEs_len, List.length_take]; omega)]
      · cases nn <;> rfl
      · rw [← hI, hK, I_inc (by omega), he2, ht, List.length_append, twEs_len, List.length_take]; simp; omega
      · rw [he2, ht, List.length_append, twEs_len, List.length_take]; simp; omega
      cbv
      have hh := hinv (k + 1, LI (.ari .add .i64 K 1), true, LI (.ari .add .i64 K 1), els2) ⟨by
        simp only
        rw [← hI, hK]
        exact I_inc (by omega), hc, by
        simp only
        rw [twEs_succ hx, he2, ht]
        simp only [twC, tw, ← hq2, hcb2], by
        simp only
        rw [List.take_add_one, hx]
        simp, by
        simp only
        rw [← hI, hK]
        exact I_inc (by omega)⟩
      simp only at hh
      generalize hmu : a5.length - (k + 1) = mu at hh
      refine ⟨[.mov 12 8], mu, by omega, ?_⟩
      refine invE hh ?_
      cbv
  · rw [← hB, B_lss, la0, hK] at hc
    have hc : k < a0.length := by simpa using hc
    obtain ⟨x, hx, hx'⟩ := ea0.at hc
    obtain ⟨p0n, p0, p1n, p1, rfl, gp0, ep0, gp1, ep1⟩ := has_type hx'
    have lp0 : LI (.len p0) = p0.length := by rw [← hI]; rfl
    have hzp0 := ep0.1
    obtain ⟨c0, hcb0⟩ : ∃ b : Bool, b = (!p0.isEmpty) := ⟨_, rfl⟩
    have lp1 : LI (.len p1) = p1.length := by rw [← hI]; rfl
    have hzp1 := ep1.1
    obtain ⟨c1, hcb1⟩ : ∃ b : Bool, b = (!p1.isEmpty) := ⟨_, rfl⟩
    cbv
    refine ⟨k, _, hK, hx, rfl, ?_⟩
    cbv
    refine ⟨[], rfl, ?_⟩
    cbv
    refine ⟨0, c0, p0, LI (.len p0), rfl, Nat.zero_le _, rfl, hcb0, lp0, by omega, ?_⟩
    cbv
    refine ⟨[], rfl, ?_⟩
    cbv
    refine ⟨0, c1, p1, LI (.len p1), rfl, Nat.zero_le _, rfl, hcb1, lp1, by omega, ?_⟩
    cbv
    refine ⟨[], rfl, ?_⟩
    cbv
    obtain ⟨els2, he2⟩ : ∃ l, l = els ++ [[.own c0 1 p0, .own c1 1 p1]] := ⟨_, rfl⟩
    refine ⟨⟨by rw [← hI]; rfl, trivial⟩, k, true, els2, LI (.ari .add .i64 K 1), hM, ?_, ?_, ?_, ?_, ?_, ?_⟩
    · rw [ht, twEs_len, List.length_take]; omega
    · rw [he2, List.take_of_length_le (by rw [ht, twEs_len, List.length_take]; omega)]
    · cases nn <;> rfl
    · rw [← hI, hK, I_inc (by omega), he2, ht, List.length_append, twEs_len, List.length_take]; simp; omega
    · rw [he2, ht, List.length_append, twEs_len, List.length_take]; simp; omega
    cbv
    have hh := hinv (k + 1, LI (.ari .add .i64 K 1), true, LI (.ari .add .i64 K 1), els2) ⟨by
      simp only
      rw [← hI, hK]
      exact I_inc (by omega), hc, by
      simp only
      rw [twEs_succ hx, he2, ht]
      simp only [twC, tw, twEs_flat rfl ep0, hcb0, twEs_flat rfl ep1, hcb1], by
      simp only
      rw [List.take_add_one, hx]
      simp, by
      simp only
      rw [← hI, hK]
      exact I_inc (by omega)⟩
    simp only at hh
    generalize hmu : a0.length - (k + 1) = mu at hh
    refine ⟨[.mov 8 3], mu, by omega, ?_⟩
    refine invE hh ?_
    cbv
end Go.Ab
/- Copies, element by element. -/
set_option linter.unusedVariables false
set_option linter.unusedSimpArgs false
namespace Go.Ab

/-- The first k elements are copies. -/
def mix (E : List (List PV)) (k : Nat) : List (List PV) := twEs true (E.take k) ++ E.drop k
theorem mix_zero (E : List (List PV)) : mix E 0 = E := by simp [mix, twEs]
theorem mix_len (E : List (List PV)) (k : Nat) : (mix E k).length = E.length := by simp [mix, twEs_len]; omega
theorem mix_at {E : List (List PV)} {k : Nat} {x : List PV} (hx : E[k]? = some x) : (mix E k)[k]? = some x := by
  have hk : k < E.length := (List.getElem?_eq_some_iff.1 hx).1
  unfold mix
  rw [List.getElem?_append_right (by rw [twEs_len, List.length_take]; omega), twEs_len, List.length_take, List.getElem?_drop]
  rw [show k + (k - min k E.length) = k by omega, hx]
theorem mix_set {E : List (List PV)} {k : Nat} {x : List PV} (hx : E[k]? = some x) : (mix E k).set k (twC true x) = mix E (k + 1) := by
  have hk : k < E.length := (List.getElem?_eq_some_iff.1 hx).1
  unfold mix
  rw [twEs_succ hx, List.set_append_right _ _ (by rw [twEs_len, List.length_take]; omega), twEs_len, List.length_take, show k - min k E.length = 0 by omega, List.append_assoc]
  congr 1
  rw [List.drop_eq_getElem_cons hk, List.set_cons_zero]
  rfl
theorem mix_all {E : List (List PV)} {k : Nat} (h : E.length ≤ k) : mix E k = twEs true E := by
  unfold mix
  rw [List.take_of_length_le h, List.drop_eq_nil_of_le h, List.append_nil]
end Go.Ab
/- Clones of slices. -/
set_option linter.unusedVariables false
set_option linter.unusedSimpArgs false
namespace Go.Ab
open Go.Proofs
/- slices.Clone(()uint8,uint8) -/
def cc38 : CC :=
 .seq (.reg [
   ⟨(some 2), .mv (.c (.p (.isl false 0 []))), none⟩])
 (.seq (.seq (.reg [
   ⟨(some 3), .mv (.t 0), none⟩,
   ⟨(some 4), .eqnil 0 false (.t 3), none⟩])
 (.cond (.t 4)
  (.seq (.reg [
    ⟨(some 2), .mv (.c (.p (.isl false 0 []))), none⟩])
  (.ret))
  (.skip)))
 (.seq (.reg [
   ⟨(some 5), .bsl 1 [] [], none⟩,
   ⟨(some 6), .mv (.t 0), none⟩,
   ⟨(some 7), .app 1 1 (.t 5) (.t 6), none⟩,
   ⟨(some 2), .mv (.t 7), none⟩])
 (.ret)))
def ann38 : List (List Nat) := []
theorem comp38 : comp Try.prog Try.f38.ntmps (Try.f38.body.getD .skip) ann38 = some (cc38, []) := by kernel_rfl
theorem body38 : Try.f38.body = some (Try.f38.body.getD .skip) := by kernel_rfl
theorem name38 : (Try.f38.name == "runtime.NumGoroutine") = false := by kernel_rfl
theorem res38 : resC Try.prog Try.f38.results.toList = some [.t 2] := by kernel_rfl
theorem ar38 : Nat.ble 1 Try.f38.ntmps = true := by kernel_rfl
theorem spec38 (nn : Bool) (E : List (List PV)) (N : Int) (hN : N = E.length) (hn : nn = false → E = []) (hz : E.length ≤ 1048576) : Runs Try.prog 38 [.p (.isl nn 1 E)] [] (.ret (.sl nn ⟨0, []⟩ 1 0 N) [.row nn 1 E]) := by
  refine runs_len fun _ => ?_
  refine runs_of_wp 1 Try.func38 body38 name38 comp38 res38 (Nat.le_of_ble_eq_true ar38) ?_
  generalize hI : stdI = LI
  generalize hB : stdB = LB
  generalize hE : stdE = LE
  generalize hR : Runs Try.prog = R
  cases nn
  · have hE0 : E = [] := hn rfl
    subst hE0
    have hN : N = 0 := by rw [hN]; rfl
    subst hN
    cbv
    cases hb : LB (.not false)
    · rw [← hB] at hb; cases hb
    cbv
    refine ⟨[.thaw 2 1], 1, Nat.zero_le _, ?_⟩
    cbv
  · clear hn
    cbv
    cases hb : LB (.not true)
    · cbv
      refine ⟨[], trivial, ?_⟩
      cbv
      refine ⟨0, true, E, N, rfl, Nat.zero_le _, rfl, rfl, hN, by omega, ?_⟩
      cbv
      refine ⟨[.mov 1 0], 1, Nat.zero_le _, ?_⟩
      cbv
    · rw [← hB] at hb; cases hb
/- slices.Clone(()bytebarn/api.Import,bytebarn/api.Import) -/
def cc39 : CC :=
 .seq (.reg [
   ⟨(some 2), .mv (.c (.p (.isl false 0 []))), none⟩])
 (.seq (.seq (.reg [
   ⟨(some 3), .mv (.t 0), none⟩,
   ⟨(some 4), .eqnil 0 false (.t 3), none⟩])
 (.cond (.t 4)
  (.seq (.reg [
    ⟨(some 2), .mv (.c (.p (.isl false 0 []))), none⟩])
  (.ret))
  (.skip)))
 (.seq (.reg [
   ⟨(some 5), .bsl 9 [] [], none⟩,
   ⟨(some 6), .mv (.t 0), none⟩,
   ⟨(some 7), .app 9 80 (.t 5) (.t 6), none⟩,
   ⟨(some 2), .mv (.t 7), none⟩])
 (.ret)))
def ann39 : List (List Nat) := []
theorem comp39 : comp Try.prog Try.f39.ntmps (Try.f39.body.getD .skip) ann39 = some (cc39, []) := by kernel_rfl
theorem body39 : Try.f39.body = some (Try.f39.body.getD .skip) := by kernel_rfl
theorem name39 : (Try.f39.name == "runtime.NumGoroutine") = false := by kernel_rfl
theorem res39 : resC Try.prog Try.f39.results.toList = some [.t 2] := by kernel_rfl
theorem ar39 : Nat.ble 1 Try.f39.ntmps = true := by kernel_rfl
theorem spec39 (nn : Bool) (E : List (List PV)) (N : Int) (hN : N = E.length) (hn : nn = false → E = []) (hz : E.length ≤ 1048576) : Runs Try.prog 39 [.p (.isl nn 9 E)] [] (.ret (.sl nn ⟨0, []⟩ 9 0 N) [.row nn 9 E]) := by
  refine runs_len fun _ => ?_
  refine runs_of_wp 1 Try.func39 body39 name39 comp39 res39 (Nat.le_of_ble_eq_true ar39) ?_
  generalize hI : stdI = LI
  generalize hB : stdB = LB
  generalize hE : stdE = LE
  generalize hR : Runs Try.prog = R
  cases nn
  · have hE0 : E = [] := hn rfl
    subst hE0
    have hN : N = 0 := by rw [hN]; rfl
    subst hN
    cbv
    cases hb : LB (.not false)
    · rw [← hB] at hb; cases hb
    cbv
    refine ⟨[.thaw 2 9], 1, Nat.zero_le _, ?_⟩
    cbv
  · clear hn
    cbv
    cases hb : LB (.not true)
    · cbv
      refine ⟨[], trivial, ?_⟩
      cbv
      refine ⟨0, true, E, N, rfl, Nat.zero_le _, rfl, rfl, hN, by omega, ?_⟩
      cbv
      refine ⟨[.mov 1 0], 1, Nat.zero_le _, ?_⟩
      cbv
    · rw [← hB] at hb; cases hb
/- slices.Clone(()int,int) -/
def cc40 : CC :=
 .seq (.reg [
   ⟨(some 2), .mv (.c (.p (.isl false 0 []))), none⟩])
 (.seq (.seq (.reg [
   ⟨(some 3), .mv (.t 0), none⟩,
   ⟨(some 4), .eqnil 0 false (.t 3), none⟩])
 (.cond (.t 4)
  (.seq (.reg [
    ⟨(some 2), .mv (.c (.p (.isl false 0 []))), none⟩])
  (.ret))
  (.skip)))
 (.seq (.reg [
   ⟨(some 5), .bsl 1 [] [], none⟩,
   ⟨(some 6), .mv (.t 0), none⟩,
   ⟨(some 7), .app 1 8 (.t 5) (.t 6), none⟩,
   ⟨(some 2), .mv (.t 7), none⟩])
 (.ret)))
def ann40 : List (List Nat) := []
theorem comp40 : comp Try.prog Try.f40.ntmps (Try.f40.body.getD .skip) ann40 = some (cc40, []) := by kernel_rfl
theorem body40 : Try.f40.body = some (Try.f40.body.getD .skip) := by kernel_rfl
theorem name40 : (Try.f40.name == "runtime.NumGoroutine") = false := by kernel_rfl
theorem res40 : resC Try.prog Try.f40.results.toList = some [.t 2] := by kernel_rfl
theorem ar40 : Nat.ble 1 Try.f40.ntmps = true := by kernel_rfl
theorem spec40 (nn : Bool) (E : List (List PV)) (N : Int) (hN : N = E.length) (hn : nn = false → E = []) (hz : E.length ≤ 1048576) : Runs Try.prog 40 [.p (.isl nn 1 E)] [] (.ret (.sl nn ⟨0, []⟩ 1 0 N) [.row nn 1 E]) := by
  refine runs_len fun _ => ?_
  refine runs_of_wp 1 Try.func40 body40 name40 comp40 res40 (Nat.le_of_ble_eq_true ar40) ?_
  generalize hI : stdI = LI
  generalize hB : stdB = LB
  generalize hE : stdE = LE
  generalize hR : Runs Try.prog = R
  cases nn
  · have hE0 : E = [] := hn rfl
    subst hE0
    have hN : N = 0 := by rw [hN]; rfl
    subst hN
    cbv
    cases hb : LB (.not false)
    · rw [← hB] at hb; cases hb
    cbv
    refine ⟨[.thaw 2 1], 1, Nat.zero_le _, ?_⟩
    cbv
  · clear hn
    cbv
    cases hb : LB (.not true)
    · cbv
      refine ⟨[], trivial, ?_⟩
      cbv
      refine ⟨0, true, E, N, rfl, Nat.zero_le _, rfl, rfl, hN, by omega, ?_⟩
      cbv
      refine ⟨[.mov 1 0], 1, Nat.zero_le _, ?_⟩
      cbv
    · rw [← hB] at hb; cases hb
/- slices.Clone(()bytebarn/api.Limits,bytebarn/api.Limits) -/
def cc41 : CC :=
 .seq (.reg [
   ⟨(some 2), .mv (.c (.p (.isl false 0 []))), none⟩])
 (.seq (.seq (.reg [
   ⟨(some 3), .mv (.t 0), none⟩,
   ⟨(some 4), .eqnil 0 false (.t 3), none⟩])
 (.cond (.t 4)
  (.seq (.reg [
    ⟨(some 2), .mv (.c (.p (.isl false 0 []))), none⟩])
  (.ret))
  (.skip)))
 (.seq (.reg [
   ⟨(some 5), .bsl 3 [] [], none⟩,
   ⟨(some 6), .mv (.t 0), none⟩,
   ⟨(some 7), .app 3 24 (.t 5) (.t 6), none⟩,
   ⟨(some 2), .mv (.t 7), none⟩])
 (.ret)))
def ann41 : List (List Nat) := []
theorem comp41 : comp Try.prog Try.f41.ntmps (Try.f41.body.getD .skip) ann41 = some (cc41, []) := by kernel_rfl
theorem body41 : Try.f41.body = some (Try.f41.body.getD .skip) := by kernel_rfl
theorem name41 : (Try.f41.name == "runtime.NumGoroutine") = false := by kernel_rfl
theorem res41 : resC Try.prog Try.f41.results.toList = some [.t 2] := by kernel_rfl
theorem ar41 : Nat.ble 1 Try.f41.ntmps = true := by kernel_rfl
theorem spec41 (nn : Bool) (E : List (List PV)) (N : Int) (hN : N = E.length) (hn : nn = false → E = []) (hz : E.length ≤ 1048576) : Runs Try.prog 41 [.p (.isl nn 3 E)] [] (.ret (.sl nn ⟨0, []⟩ 3 0 N) [.row nn 3 E]) := by
  refine runs_len fun _ => ?_
  refine runs_of_wp 1 Try.func41 body41 name41 comp41 res41 (Nat.le_of_ble_eq_true ar41) ?_
  generalize hI : stdI = LI
  generalize hB : stdB = LB
  generalize hE : stdE = LE
  generalize hR : Runs Try.prog = R
  cases nn
  · have hE0 : E = [] := hn rfl
    subst hE0
    have hN : N = 0 := by rw [hN]; rfl
    subst hN
    cbv
    cases hb : LB (.not false)
    · rw [← hB] at hb; cases hb
    cbv
    refine ⟨[.thaw 2 3], 1, Nat.zero_le _, ?_⟩
    cbv
  · clear hn
    cbv
    cases hb : LB (.not true)
    · cbv
      refine ⟨[], trivial, ?_⟩
      cbv
      refine ⟨0, true, E, N, rfl, Nat.zero_le _, rfl, rfl, hN, by omega, ?_⟩
      cbv
      refine ⟨[.mov 1 0], 1, Nat.zero_le _, ?_⟩
      cbv
    · rw [← hB] at hb; cases hb
/- slices.Clone(()bytebarn/api.Export,bytebarn/api.Export) -/
def cc45 : CC :=
 .seq (.reg [
   ⟨(some 2), .mv (.c (.p (.isl false 0 []))), none⟩])
 (.seq (.seq (.reg [
   ⟨(some 3), .mv (.t 0), none⟩,
   ⟨(some 4), .eqnil 0 false (.t 3), none⟩])
 (.cond (.t 4)
  (.seq (.reg [
    ⟨(some 2), .mv (.c (.p (.isl false 0 []))), none⟩])
  (.ret))
  (.skip)))
 (.seq (.reg [
   ⟨(some 5), .bsl 3 [] [], none⟩,
   ⟨(some 6), .mv (.t 0), none⟩,
   ⟨(some 7), .app 3 32 (.t 5) (.t 6), none⟩,
   ⟨(some 2), .mv (.t 7), none⟩])
 (.ret)))
def ann45 : List (List Nat) := []
theorem comp45 : comp Try.prog Try.f45.ntmps (Try.f45.body.getD .skip) ann45 = some (cc45, []) := by kernel_rfl
theorem body45 : Try.f45.body = some (Try.f45.body.getD .skip) := by kernel_rfl
theorem name45 : (Try.f45.name == "runtime.NumGoroutine") = false := by kernel_rfl
theorem res45 : resC Try.prog Try.f45.results.toList = some [.t 2] := by kernel_rfl
theorem ar45 : Nat.ble 1 Try.f45.ntmps = true := by kernel_rfl
theorem spec45 (nn : Bool) (E : List (List PV)) (N : Int) (hN : N = E.length) (hn : nn = false → E = []) (hz : E.length ≤ 1048576) : Runs Try.prog 45 [.p (.isl nn 3 E)] [] (.ret (.sl nn ⟨0, []⟩ 3 0 N) [.row nn 3 E]) := by
  refine runs_len fun _ => ?_
  refine runs_of_wp 1 Try.func45 body45 name45 comp45 res45 (Nat.le_of_ble_eq_true ar45) ?_
  generalize hI : stdI = LI
  generalize hB : stdB = LB
  generalize hE : stdE = LE
  generalize hR : Runs Try.prog = R
  cases nn
  · have hE0 : E = [] := hn rfl
    subst hE0
    have hN : N = 0 := by rw [hN]; rfl
    subst hN
    cbv
    cases hb : LB (.not false)
    · rw [← hB] at hb; cases hb
    cbv
    refine ⟨[.thaw 2 3], 1, Nat.zero_le _, ?_⟩
    cbv
  · clear hn
    cbv
    cases hb : LB (.not true)
    · cbv
      refine ⟨[], trivial, ?_⟩
      cbv
      refine ⟨0, true, E, N, rfl, Nat.zero_le _, rfl, rfl, hN, by omega, ?_⟩
      cbv
      refine ⟨[.mov 1 0], 1, Nat.zero_le _, ?_⟩
      cbv
    · rw [← hB] at hb; cases hb
/- slices.Clone(()bytebarn/api.Locals,bytebarn/api.Locals) -/
def cc50 : CC :=
 .seq (.reg [
   ⟨(some 2), .mv (.c (.p (.isl false 0 []))), none⟩])
 (.seq (.seq (.reg [
   ⟨(some 3), .mv (.t 0), none⟩,
   ⟨(some 4), .eqnil 0 false (.t 3), none⟩])
 (.cond (.t 4)
  (.seq (.reg [
    ⟨(some 2), .mv (.c (.p (.isl false 0 []))), none⟩])
  (.ret))
  (.skip)))
 (.seq (.reg [
   ⟨(some 5), .bsl 2 [] [], none⟩,
   ⟨(some 6), .mv (.t 0), none⟩,
   ⟨(some 7), .app 2 16 (.t 5) (.t 6), none⟩,
   ⟨(some 2), .mv (.t 7), none⟩])
 (.ret)))
def ann50 : List (List Nat) := []
theorem comp50 : comp Try.prog Try.f50.ntmps (Try.f50.body.getD .skip) ann50 = some (cc50, []) := by kernel_rfl
theorem body50 : Try.f50.body = some (Try.f50.body.getD .skip) := by kernel_rfl
theorem name50 : (Try.f50.name == "runtime.NumGoroutine") = false := by kernel_rfl
theorem res50 : resC Try.prog Try.f50.results.toList = some [.t 2] := by kernel_rfl
theorem ar50 : Nat.ble 1 Try.f50.ntmps = true := by kernel_rfl
theorem spec50 (nn : Bool) (E : List (List PV)) (N : Int) (hN : N = E.length) (hn : nn = false → E = []) (hz : E.length ≤ 1048576) : Runs Try.prog 50 [.p (.isl nn 2 E)] [] (.ret (.sl nn ⟨0, []⟩ 2 0 N) [.row nn 2 E]) := by
  refine runs_len fun _ => ?_
  refine runs_of_wp 1 Try.func50 body50 name50 comp50 res50 (Nat.le_of_ble_eq_true ar50) ?_
  generalize hI : stdI = LI
  generalize hB : stdB = LB
  generalize hE : stdE = LE
  generalize hR : Runs Try.prog = R
  cases nn
  · have hE0 : E = [] := hn rfl
    subst hE0
    have hN : N = 0 := by rw [hN]; rfl
    subst hN
    cbv
    cases hb : LB (.not false)
    · rw [← hB] at hb; cases hb
    cbv
    refine ⟨[.thaw 2 2], 1, Nat.zero_le _, ?_⟩
    cbv
  · clear hn
    cbv
    cases hb : LB (.not true)
    · cbv
      refine ⟨[], trivial, ?_⟩
      cbv
      refine ⟨0, true, E, N, rfl, Nat.zero_le _, rfl, rfl, hN, by omega, ?_⟩
      cbv
      refine ⟨[.mov 1 0], 1, Nat.zero_le _, ?_⟩
      cbv
    · rw [← hB] at hb; cases hb
/- bytes.Clone -/
def cc53 : CC :=
 .seq (.reg [
   ⟨(some 2), .mv (.c (.p (.isl false 0 []))), none⟩])
 (.seq (.seq (.reg [
   ⟨(some 3), .mv (.t 0), none⟩,
   ⟨(some 4), .eqnil 0 false (.t 3), none⟩])
 (.cond (.t 4)
  (.seq (.reg [
    ⟨(some 2), .mv (.c (.p (.isl false 0 []))), none⟩])
  (.ret))
  (.skip)))
 (.seq (.reg [
   ⟨(some 5), .bsl 1 [] [], none⟩,
   ⟨(some 6), .mv (.t 0), none⟩,
   ⟨(some 7), .app 1 1 (.t 5) (.t 6), none⟩,
   ⟨(some 2), .mv (.t 7), none⟩])
 (.ret)))
def ann53 : List (List Nat) := []
theorem comp53 : comp Try.prog Try.f53.ntmps (Try.f53.body.getD .skip) ann53 = some (cc53, []) := by kernel_rfl
theorem body53 : Try.f53.body = some (Try.f53.body.getD .skip) := by kernel_rfl
theorem name53 : (Try.f53.name == "runtime.NumGoroutine") = false := by kernel_rfl
theorem res53 : resC Try.prog Try.f53.results.toList = some [.t 2] := by kernel_rfl
theorem ar53 : Nat.ble 1 Try.f53.ntmps = true := by kernel_rfl
theorem spec53 (nn : Bool) (E : List (List PV)) (N : Int) (hN : N = E.length) (hn : nn = false → E = []) (hz : E.length ≤ 1048576) : Runs Try.prog 53 [.p (.isl nn 1 E)] [] (.ret (.sl nn ⟨0, []⟩ 1 0 N) [.row nn 1 E]) := by
  refine runs_len fun _ => ?_
  refine runs_of_wp 1 Try.func53 body53 name53 comp53 res53 (Nat.le_of_ble_eq_true ar53) ?_
  generalize hI : stdI = LI
  generalize hB : stdB = LB
  generalize hE : stdE = LE
  generalize hR : Runs Try.prog = R
  cases nn
  · have hE0 : E = [] := hn rfl
    subst hE0
    have hN : N = 0 := by rw [hN]; rfl
    subst hN
    cbv
    cases hb : LB (.not false)
    · rw [← hB] at hb; cases hb
    cbv
    refine ⟨[.thaw 2 1], 1, Nat.zero_le _, ?_⟩
    cbv
  · clear hn
    cbv
    cases hb : LB (.not true)
    · cbv
      refine ⟨[], trivial, ?_⟩
      cbv
      refine ⟨0, true, E, N, rfl, Nat.zero_le _, rfl, rfl, hN, by omega, ?_⟩
      cbv
      refine ⟨[.mov 1 0], 1, Nat.zero_le _, ?_⟩
      cbv
    · rw [← hB] at hb; cases hb
/- slices.Clone(()bytebarn/api.Type,bytebarn/api.Type) -/
def cc96 : CC :=
 .seq (.reg [
   ⟨(some 2), .mv (.c (.p (.isl false 0 []))), none⟩])
 (.seq (.seq (.reg [
   ⟨(some 3), .mv (.t 0), none⟩,
   ⟨(some 4), .eqnil 0 false (.t 3), none⟩])
 (.cond (.t 4)
  (.seq (.reg [
    ⟨(some 2), .mv (.c (.p (.isl false 0 []))), none⟩])
  (.ret))
  (.skip)))
 (.seq (.reg [
   ⟨(some 5), .bsl 2 [] [], none⟩,
   ⟨(some 6), .mv (.t 0), none⟩,
   ⟨(some 7), .app 2 48 (.t 5) (.t 6), none⟩,
   ⟨(some 2), .mv (.t 7), none⟩])
 (.ret)))
def ann96 : List (List Nat) := []
theorem comp96 : comp Try.prog Try.f96.ntmps (Try.f96.body.getD .skip) ann96 = some (cc96, []) := by kernel_rfl
theorem body96 : Try.f96.body = some (Try.f96.body.getD .skip) := by kernel_rfl
theorem name96 : (Try.f96.name == "runtime.NumGoroutine") = false := by kernel_rfl
theorem res96 : resC Try.prog Try.f96.results.toList = some [.t 2] := by kernel_rfl
theorem ar96 : Nat.ble 1 Try.f96.ntmps = true := by kernel_rfl
theorem spec96 (nn : Bool) (E : List (List PV)) (N : Int) (hN : N = E.length) (hn : nn = false → E = []) (hz : E.length ≤ 1048576) : Runs Try.prog 96 [.p (.isl nn 2 E)] [] (.ret (.sl nn ⟨0, []⟩ 2 0 N) [.row nn 2 E]) := by
  refine runs_len fun _ => ?_
  refine runs_of_wp 1 Try.func96 body96 name96 comp96 res96 (Nat.le_of_ble_eq_true ar96) ?_
  generalize hI : stdI = LI
  generalize hB : stdB = LB
  generalize hE : stdE = LE
  generalize hR : Runs Try.prog = R
  cases nn
  · have hE0 : E = [] := hn rfl
    subst hE0
    have hN : N = 0 := by rw [hN]; rfl
    subst hN
    cbv
    cases hb : LB (.not false)
    · rw [← hB] at hb; cases hb
    cbv
    refine ⟨[.thaw 2 2], 1, Nat.zero_le _, ?_⟩
    cbv
  · clear hn
    cbv
    cases hb : LB (.not true)
    · cbv
      refine ⟨[], trivial, ?_⟩
      cbv
      refine ⟨0, true, E, N, rfl, Nat.zero_le _, rfl, rfl, hN, by omega, ?_⟩
      cbv
      refine ⟨[.mov 1 0], 1, Nat.zero_le _, ?_⟩
      cbv
    · rw [← hB] at hb; cases hb
/- slices.Clone(()bytebarn/api.Global,bytebarn/api.Global) -/
def cc97 : CC :=
 .seq (.reg [
   ⟨(some 2), .mv (.c (.p (.isl false 0 []))), none⟩])
 (.seq (.seq (.reg [
   ⟨(some 3), .mv (.t 0), none⟩,
   ⟨(some 4), .eqnil 0 false (.t 3), none⟩])
 (.cond (.t 4)
  (.seq (.reg [
    ⟨(some 2), .mv (.c (.p (.isl false 0 []))), none⟩])
  (.ret))
  (.skip)))
 (.seq (.reg [
   ⟨(some 5), .bsl 3 [] [], none⟩,
   ⟨(some 6), .mv (.t 0), none⟩,
   ⟨(some 7), .app 3 32 (.t 5) (.t 6), none⟩,
   ⟨(some 2), .mv (.t 7), none⟩])
 (.ret)))
def ann97 : List (List Nat) := []
theorem comp97 : comp Try.prog Try.f97.ntmps (Try.f97.body.getD .skip) ann97 = some (cc97, []) := by kernel_rfl
theorem body97 : Try.f97.body = some (Try.f97.body.getD .skip) := by kernel_rfl
theorem name97 : (Try.f97.name == "runtime.NumGoroutine") = false := by kernel_rfl
theorem res97 : resC Try.prog Try.f97.results.toList = some [.t 2] := by kernel_rfl
theorem ar97 : Nat.ble 1 Try.f97.ntmps = true := by kernel_rfl
theorem spec97 (nn : Bool) (E : List (List PV)) (N : Int) (hN : N = E.length) (hn : nn = false → E = []) (hz : E.length ≤ 1048576) : Runs Try.prog 97 [.p (.isl nn 3 E)] [] (.ret (.sl nn ⟨0, []⟩ 3 0 N) [.row nn 3 E]) := by
  refine runs_len fun _ => ?_
  refine runs_of_wp 1 Try.func97 body97 name97 comp97 res97 (Nat.le_of_ble_eq_true ar97) ?_
  generalize hI : stdI = LI
  generalize hB : stdB = LB
  generalize hE : stdE = LE
  generalize hR : Runs Try.prog = R
  cases nn
  · have hE0 : E = [] := hn rfl
    subst hE0
    have hN : N = 0 := by rw [hN]; rfl
    subst hN
    cbv
    cases hb : LB (.not false)
    · rw [← hB] at hb; cases hb
    cbv
    refine ⟨[.thaw 2 3], 1, Nat.zero_le _, ?_⟩
    cbv
  · clear hn
    cbv
    cases hb : LB (.not true)
    · cbv
      refine ⟨[], trivial, ?_⟩
      cbv
      refine ⟨0, true, E, N, rfl, Nat.zero_le _, rfl, rfl, hN, by omega, ?_⟩
      cbv
      refine ⟨[.mov 1 0], 1, Nat.zero_le _, ?_⟩
      cbv
    · rw [← hB] at hb; cases hb
/- slices.Clone(()bytebarn/api.Ins,bytebarn/api.Ins) -/
def cc98 : CC :=
 .seq (.reg [
   ⟨(some 2), .mv (.c (.p (.isl false 0 []))), none⟩])
 (.seq (.seq (.reg [
   ⟨(some 3), .mv (.t 0), none⟩,
   ⟨(some 4), .eqnil 0 false (.t 3), none⟩])
 (.cond (.t 4)
  (.seq (.reg [
    ⟨(some 2), .mv (.c (.p (.isl false 0 []))), none⟩])
  (.ret))
  (.skip)))
 (.seq (.reg [
   ⟨(some 5), .bsl 4 [] [], none⟩,
   ⟨(some 6), .mv (.t 0), none⟩,
   ⟨(some 7), .app 4 48 (.t 5) (.t 6), none⟩,
   ⟨(some 2), .mv (.t 7), none⟩])
 (.ret)))
def ann98 : List (List Nat) := []
theorem comp98 : comp Try.prog Try.f98.ntmps (Try.f98.body.getD .skip) ann98 = some (cc98, []) := by kernel_rfl
theorem body98 : Try.f98.body = some (Try.f98.body.getD .skip) := by kernel_rfl
theorem name98 : (Try.f98.name == "runtime.NumGoroutine") = false := by kernel_rfl
theorem res98 : resC Try.prog Try.f98.results.toList = some [.t 2] := by kernel_rfl
theorem ar98 : Nat.ble 1 Try.f98.ntmps = true := by kernel_rfl
theorem spec98 (nn : Bool) (E : List (List PV)) (N : Int) (hN : N = E.length) (hn : nn = false → E = []) (hz : E.length ≤ 1048576) : Runs Try.prog 98 [.p (.isl nn 4 E)] [] (.ret (.sl nn ⟨0, []⟩ 4 0 N) [.row nn 4 E]) := by
  refine runs_len fun _ => ?_
  refine runs_of_wp 1 Try.func98 body98 name98 comp98 res98 (Nat.le_of_ble_eq_true ar98) ?_
  generalize hI : stdI = LI
  generalize hB : stdB = LB
  generalize hE : stdE = LE
  generalize hR : Runs Try.prog = R
  cases nn
  · have hE0 : E = [] := hn rfl
    subst hE0
    have hN : N = 0 := by rw [hN]; rfl
    subst hN
    cbv
    cases hb : LB (.not false)
    · rw [← hB] at hb; cases hb
    cbv
    refine ⟨[.thaw 2 4], 1, Nat.zero_le _, ?_⟩
    cbv
  · clear hn
    cbv
    cases hb : LB (.not true)
    · cbv
      refine ⟨[], trivial, ?_⟩
      cbv
      refine ⟨0, true, E, N, rfl, Nat.zero_le _, rfl, rfl, hN, by omega, ?_⟩
      cbv
      refine ⟨[.mov 1 0], 1, Nat.zero_le _, ?_⟩
      cbv
    · rw [← hB] at hb; cases hb
/- slices.Clone(()bytebarn/api.Elem,bytebarn/api.Elem) -/
def cc99 : CC :=
 .seq (.reg [
   ⟨(some 2), .mv (.c (.p (.isl false 0 []))), none⟩])
 (.seq (.seq (.reg [
   ⟨(some 3), .mv (.t 0), none⟩,
   ⟨(some 4), .eqnil 0 false (.t 3), none⟩])
 (.cond (.t 4)
  (.seq (.reg [
    ⟨(some 2), .mv (.c (.p (.isl false 0 []))), none⟩])
  (.ret))
  (.skip)))
 (.seq (.reg [
   ⟨(some 5), .bsl 3 [] [], none⟩,
   ⟨(some 6), .mv (.t 0), none⟩,
   ⟨(some 7), .app 3 56 (.t 5) (.t 6), none⟩,
   ⟨(some 2), .mv (.t 7), none⟩])
 (.ret)))
def ann99 : List (List Nat) := []
theorem comp99 : comp Try.prog Try.f99.ntmps (Try.f99.body.getD .skip) ann99 = some (cc99, []) := by kernel_rfl
theorem body99 : Try.f99.body = some (Try.f99.body.getD .skip) := by kernel_rfl
theorem name99 : (Try.f99.name == "runtime.NumGoroutine") = false := by kernel_rfl
theorem res99 : resC Try.prog Try.f99.results.toList = some [.t 2] := by kernel_rfl
theorem ar99 : Nat.ble 1 Try.f99.ntmps = true := by kernel_rfl
theorem spec99 (nn : Bool) (E : List (List PV)) (N : Int) (hN : N = E.length) (hn : nn = false → E = []) (hz : E.length ≤ 1048576) : Runs Try.prog 99 [.p (.isl nn 3 E)] [] (.ret (.sl nn ⟨0, []⟩ 3 0 N) [.row nn 3 E]) := by
  refine runs_len fun _ => ?_
  refine runs_of_wp 1 Try.func99 body99 name99 comp99 res99 (Nat.le_of_ble_eq_true ar99) ?_
  generalize hI : stdI = LI
  generalize hB : stdB = LB
  generalize hE : stdE = LE
  generalize hR : Runs Try.prog = R
  cases nn
  · have hE0 : E = [] := hn rfl
    subst hE0
    have hN : N = 0 := by rw [hN]; rfl
    subst hN
    cbv
    cases hb : LB (.not false)
    · rw [← hB] at hb; cases hb
    cbv
    refine ⟨[.thaw 2 3], 1, Nat.zero_le _, ?_⟩
    cbv
  · clear hn
    cbv
    cases hb : LB (.not true)
    · cbv
      refine ⟨[], trivial, ?_⟩
      cbv
      refine ⟨0, true, E, N, rfl, Nat.zero_le _, rfl, rfl, hN, by omega, ?_⟩
      cbv
      refine ⟨[.mov 1 0], 1, Nat.zero_le _, ?_⟩
      cbv
    · rw [← hB] at hb; cases hb
/- slices.Clone(()bytebarn/api.Code,bytebarn/api.Code) -/
def cc100 : CC :=
 .seq (.reg [
   ⟨(some 2), .mv (.c (.p (.isl false 0 []))), none⟩])
 (.seq (.seq (.reg [
   ⟨(some 3), .mv (.t 0), none⟩,
   ⟨(some 4), .eqnil 0 false (.t 3), none⟩])
 (.cond (.t 4)
  (.seq (.reg [
    ⟨(some 2), .mv (.c (.p (.isl false 0 []))), none⟩])
  (.ret))
  (.skip)))
 (.seq (.reg [
   ⟨(some 5), .bsl 2 [] [], none⟩,
   ⟨(some 6), .mv (.t 0), none⟩,
   ⟨(some 7), .app 2 48 (.t 5) (.t 6), none⟩,
   ⟨(some 2), .mv (.t 7), none⟩])
 (.ret)))
def ann100 : List (List Nat) := []
theorem comp100 : comp Try.prog Try.f100.ntmps (Try.f100.body.getD .skip) ann100 = some (cc100, []) := by kernel_rfl
theorem body100 : Try.f100.body = some (Try.f100.body.getD .skip) := by kernel_rfl
theorem name100 : (Try.f100.name == "runtime.NumGoroutine") = false := by kernel_rfl
theorem res100 : resC Try.prog Try.f100.results.toList = some [.t 2] := by kernel_rfl
theorem ar100 : Nat.ble 1 Try.f100.ntmps = true := by kernel_rfl
theorem spec100 (nn : Bool) (E : List (List PV)) (N : Int) (hN : N = E.length) (hn : nn = false → E = []) (hz : E.length ≤ 1048576) : Runs Try.prog 100 [.p (.isl nn 2 E)] [] (.ret (.sl nn ⟨0, []⟩ 2 0 N) [.row nn 2 E]) := by
  refine runs_len fun _ => ?_
  refine runs_of_wp 1 Try.func100 body100 name100 comp100 res100 (Nat.le_of_ble_eq_true ar100) ?_
  generalize hI : stdI = LI
  generalize hB : stdB = LB
  generalize hE : stdE = LE
  generalize hR : Runs Try.prog = R
  cases nn
  · have hE0 : E = [] := hn rfl
    subst hE0
    have hN : N = 0 := by rw [hN]; rfl
    subst hN
    cbv
    cases hb : LB (.not false)
    · rw [← hB] at hb; cases hb
    cbv
    refine ⟨[.thaw 2 2], 1, Nat.zero_le _, ?_⟩
    cbv
  · clear hn
    cbv
    cases hb : LB (.not true)
    · cbv
      refine ⟨[], trivial, ?_⟩
      cbv
      refine ⟨0, true, E, N, rfl, Nat.zero_le _, rfl, rfl, hN, by omega, ?_⟩
      cbv
      refine ⟨[.mov 1 0], 1, Nat.zero_le _, ?_⟩
      cbv
    · rw [← hB] at hb; cases hb
/- slices.Clone(()bytebarn/api.Data,bytebarn/api.Data) -/
def cc101 : CC :=
 .seq (.reg [
   ⟨(some 2), .mv (.c (.p (.isl false 0 []))), none⟩])
 (.seq (.seq (.reg [
   ⟨(some 3), .mv (.t 0), none⟩,
   ⟨(some 4), .eqnil 0 false (.t 3), none⟩])
 (.cond (.t 4)
  (.seq (.reg [
    ⟨(some 2), .mv (.c (.p (.isl false 0 []))), none⟩])
  (.ret))
  (.skip)))
 (.seq (.reg [
   ⟨(some 5), .bsl 3 [] [], none⟩,
   ⟨(some 6), .mv (.t 0), none⟩,
   ⟨(some 7), .app 3 56 (.t 5) (.t 6), none⟩,
   ⟨(some 2), .mv (.t 7), none⟩])
 (.ret)))
def ann101 : List (List Nat) := []
theorem comp101 : comp Try.prog Try.f101.ntmps (Try.f101.body.getD .skip) ann101 = some (cc101, []) := by kernel_rfl
theorem body101 : Try.f101.body = some (Try.f101.body.getD .skip) := by kernel_rfl
theorem name101 : (Try.f101.name == "runtime.NumGoroutine") = false := by kernel_rfl
theorem res101 : resC Try.prog Try.f101.results.toList = some [.t 2] := by kernel_rfl
theorem ar101 : Nat.ble 1 Try.f101.ntmps = true := by kernel_rfl
theorem spec101 (nn : Bool) (E : List (List PV)) (N : Int) (hN : N = E.length) (hn : nn = false → E = []) (hz : E.length ≤ 1048576) : Runs Try.prog 101 [.p (.isl nn 3 E)] [] (.ret (.sl nn ⟨0, []⟩ 3 0 N) [.row nn 3 E]) := by
  refine runs_len fun _ => ?_
  refine runs_of_wp 1 Try.func101 body101 name101 comp101 res101 (Nat.le_of_ble_eq_true ar101) ?_
  generalize hI : stdI = LI
  generalize hB : stdB = LB
  generalize hE : stdE = LE
  generalize hR : Runs Try.prog = R
  cases nn
  · have hE0 : E = [] := hn rfl
    subst hE0
    have hN : N = 0 := by rw [hN]; rfl
    subst hN
    cbv
    cases hb : LB (.not false)
    · rw [← hB] at hb; cases hb
    cbv
    refine ⟨[.thaw 2 3], 1, Nat.zero_le _, ?_⟩
    cbv
  · clear hn
    cbv
    cases hb : LB (.not true)
    · cbv
      refine ⟨[], trivial, ?_⟩
      cbv
      refine ⟨0, true, E, N, rfl, Nat.zero_le _, rfl, rfl, hN, by omega, ?_⟩
      cbv
      refine ⟨[.mov 1 0], 1, Nat.zero_le _, ?_⟩
      cbv
    · rw [← hB] at hb; cases hb
end Go.Ab
/- ins.Twin. -/
set_option linter.unusedVariables false
set_option linter.unusedSimpArgs false
namespace Go.Ab
open Go.Proofs
/- bytebarn/ins.Twin -/
def cc44 : CC :=
 .seq (.reg [
   ⟨(some 2), .mv (.c (.p (.isl false 0 []))), none⟩])
 (.seq (.reg [
   ⟨(some 4), .mv (.t 0), none⟩,
   ⟨(some 5), .call 98 [(.t 4)], none⟩,
   ⟨(some 0), .mv (.t 5), none⟩])
 (.seq (.seq (.reg [
   ⟨(some 6), .mv (.t 0), none⟩,
   ⟨(some 7), .len false (.t 6), none⟩,
   ⟨(some 8), .mv (.c (.p (.int .i64 0))), none⟩])
 (.block 0 (.loop [0, 7, 8]
   (.seq (.reg [
     ⟨(some 9), .cmp .lss (.t 8) (.t 7), none⟩])
   (.seq (.cond (.t 9)
    (.skip)
    (.exit 0))
   (.seq (.block 1 (.seq (.reg [
      ⟨(some 10), .mv (.t 8), none⟩,
      ⟨(some 3), .mv (.t 10), none⟩])
    (.reg [
      ⟨(some 11), .mv (.t 0), none⟩,
      ⟨(some 12), .mv (.t 3), none⟩,
      ⟨(some 13), .mv (.t 0), none⟩,
      ⟨(some 14), .mv (.t 3), none⟩,
      ⟨(some 15), .ia 4 (.t 13) (.t 14), none⟩,
      ⟨(some 16), .fa 3 (.t 15), none⟩,
      ⟨(some 17), .ld 1 false (.t 16), none⟩,
      ⟨(some 18), .call 40 [(.t 17)], none⟩,
      ⟨(some 19), .ia 4 (.t 11) (.t 12), none⟩,
      ⟨(some 20), .fa 3 (.t 19), none⟩,
      ⟨none, .st 1 (.t 20) (.t 18), none⟩])))
   (.reg [
     ⟨(some 21), .ari .add .i64 (.t 8) (.c (.p (.int .i64 1))), none⟩,
     ⟨(some 8), .mv (.t 21), none⟩])))))))
 (.seq (.reg [
   ⟨(some 22), .mv (.t 0), none⟩,
   ⟨(some 2), .mv (.t 22), none⟩])
 (.ret))))
def ann44 : List (List Nat) := [[0, 7, 8]]
theorem comp44 : comp Try.prog Try.f44.ntmps (Try.f44.body.getD .skip) ann44 = some (cc44, []) := by kernel_rfl
theorem body44 : Try.f44.body = some (Try.f44.body.getD .skip) := by kernel_rfl
theorem name44 : (Try.f44.name == "runtime.NumGoroutine") = false := by kernel_rfl
theorem res44 : resC Try.prog Try.f44.results.toList = some [.t 2] := by kernel_rfl
theorem ar44 : Nat.ble 1 Try.f44.ntmps = true := by kernel_rfl
theorem spec44 (nn : Bool) (E : List (List PV)) (N : Int) (hN : N = E.length) (hn : nn = false → E = []) (hE : HasE TIns E) : Runs Try.prog 44 [.p (.isl nn 4 E)] [] (.ret (.sl nn ⟨0, []⟩ 4 0 N) [.row nn 4 (twEs true E)]) := by
  refine runs_len fun _ => ?_
  refine runs_of_wp 2 Try.func44 body44 name44 comp44 res44 (Nat.le_of_ble_eq_true ar44) ?_
  generalize hI : stdI = LI
  generalize hB : stdB = LB
  generalize hLE : stdE = LE
  have hz := hE.1
  have q0 := spec98 nn E N hN hn hE.1
  generalize hr : twEs true E = r
  have hR : Runs Try.prog = Runs Try.prog := rfl
  generalize hR : Runs Try.prog = R at q0 ⊢
  cbv
  refine ⟨[], trivial, ?_⟩
  cbv
  refine ⟨[], rfl, _, q0, Or.inl rfl, ?_⟩
  cbv
  refine loopR (α := Nat × Int × List (List PV)) [] 1 (Nat.zero_le _) (fun s a => (s.sett 8 (.p (.int .i64 a.2.1))).ob 0 (.row nn 4 a.2.2)) (fun a => E.length - a.1) (fun a => a.2.1 = a.1 ∧ a.1 ≤ E.length ∧ a.2.2 = mix E a.1) (0, 0, E) ⟨rfl, Nat.zero_le _, (mix_zero E).symm⟩ (by cbv) ?_
  rintro S1 hS inv hinv ⟨k, K, els⟩ ⟨hK, hk, ht⟩
  subst hS
  simp only at hK hk ht
  cbv
  cases hc : LB (.cmp .lss K N)
  · rw [← hB, B_lss, hN, hK] at hc
    have hc : ¬ k < E.length := by simpa using hc
    have e1 : r = els := by rw [ht, ← hr, mix_all (by omega)]
    subst e1
    cbv
    refine ⟨[], 1, Nat.zero_le _, ?_⟩
    cbv
  · rw [← hB, B_lss, hN, hK] at hc
    have hc : k < E.length := by simpa using hc
    have hKN : K < N := by rw [hK, hN]; exact Int.ofNat_lt.2 hc
    obtain ⟨x, hx, hx'⟩ := hE.at hc
    have hx2 : els[k]? = some x := by rw [ht]; exact mix_at hx
    have hs := mix_set hx
    obtain ⟨a0, a1, a2, a3n, a3, rfl, ga3, ea3⟩ := has_ins hx'
    obtain ⟨N3, hN3⟩ : ∃ N3 : Int, N3 = a3.length := ⟨_, rfl⟩
    have q3 := spec40 a3n a3 N3 hN3 ga3 ea3.1
    rw [hR] at q3
    have l3 : LI (.len a3) = N3 := by rw [← hI, hN3]; rfl
    obtain ⟨els2, he2⟩ : ∃ l, l = els.set k [.int .u8 a0, .int .i64 a1, .int .i64 a2, .own a3n 1 a3] := ⟨_, rfl⟩
    cbv
    refine ⟨k, k, hK, hKN, by rw [hK]; exact Int.zero_add _, ?_⟩
    cbv
    refine ⟨nn, els, _, rfl, hx2, ?_⟩
    cbv
    refine ⟨[], trivial, ?_⟩
    cbv
    refine ⟨[], rfl, _, q3, Or.inl rfl, ?_⟩
    cbv
    refine ⟨k, k, hK, hKN, by rw [hK]; exact Int.zero_add _, ?_⟩
    cbv
    refine ⟨⟨l3.symm, trivial⟩, nn, els, _, _, els2, rfl, hx2, rfl, rfl, rfl, by rw [he2]; rfl, rfl, ?_⟩
    cbv
    have hh := hinv (k + 1, LI (.ari .add .i64 K 1), els2) ⟨by
      simp only
      rw [← hI, hK]
      exact I_inc (by omega), hc, by
      simp only
      rw [he2, ht, ← hs]
      simp only [twC, tw, twEs_flat (ts := TI64) rfl ea3]⟩
    simp only at hh
    generalize hmu : E.length - (k + 1) = mu at hh
    refine ⟨[], mu, by omega, ?_⟩
    refine invE hh ?_
    cbv
end Go.Ab
/- What read.Twin does to parts. -/
set_option linter.unusedVariables false
set_option linter.unusedSimpArgs false
namespace Go.Ab
open Go.Proofs
/- bytebarn/read.Twin$1 -/
def cc37 : CC :=
 .regd [
   ⟨(some 2), .mv (.t 0), none⟩,
   ⟨(some 3), .mv (.t 0), none⟩,
   ⟨(some 4), .mv (.t 0), none⟩,
   ⟨(some 5), .nilck (.t 4), none⟩,
   ⟨(some 6), .fa 0 (.t 5), none⟩,
   ⟨(some 7), .ld 1 false (.t 6), none⟩,
   ⟨(some 8), .call 38 [(.t 7)], none⟩,
   ⟨(some 9), .mv (.t 0), none⟩,
   ⟨(some 10), .nilck (.t 9), none⟩,
   ⟨(some 11), .fa 1 (.t 10), none⟩,
   ⟨(some 12), .ld 1 false (.t 11), none⟩,
   ⟨(some 13), .call 38 [(.t 12)], none⟩,
   ⟨(some 14), .nilck (.t 2), none⟩,
   ⟨(some 15), .fa 0 (.t 14), none⟩,
   ⟨none, .st 1 (.t 15) (.t 8), none⟩,
   ⟨(some 16), .nilck (.t 3), none⟩,
   ⟨(some 17), .fa 1 (.t 16), none⟩,
   ⟨none, .st 1 (.t 17) (.t 13), none⟩] [[], [], [], [], [], [], [], [], [], [], [6], [], [], [], [], [], [], []] [false, false, false, false, false, false, false, false, false, false, false, true, true, true, true, true, true, true]
def ann37 : List (List Nat) := []
theorem comp37 : comp Try.prog Try.f37.ntmps (Try.f37.body.getD .skip) ann37 = some (cc37, []) := by kernel_rfl
theorem body37 : Try.f37.body = some (Try.f37.body.getD .skip) := by kernel_rfl
theorem name37 : (Try.f37.name == "runtime.NumGoroutine") = false := by kernel_rfl
theorem res37 : resC Try.prog Try.f37.results.toList = some [] := by kernel_rfl
theorem ar37 : Nat.ble 1 Try.f37.ntmps = true := by kernel_rfl
theorem spec37 (nn : Bool) (E : List (List PV)) (k : Nat) (x : List PV) (hx' : HasL TType x) (hx : E[k]? = some x) : Runs Try.prog 37 [.ptr ⟨0, []⟩ 2 k 0] [.row nn 2 E] (.ret (.tup []) [.row nn 2 (E.set k (twC true x))]) := by
  refine runs_len fun _ => ?_
  refine runs_of_wp 2 Try.func37 body37 name37 comp37 res37 (Nat.le_of_ble_eq_true ar37) ?_
  generalize hI : stdI = LI
  generalize hB : stdB = LB
  generalize hE : stdE = LE
  generalize hR : Runs Try.prog = R
  obtain ⟨a0n, a0, a1n, a1, rfl, ga0, ea0, ga1, ea1⟩ := has_type hx'
  have hlk : k < E.length := (List.getElem?_eq_some_iff.1 hx).1
  obtain ⟨N0, hN0⟩ : ∃ N : Int, N = a0.length := ⟨_, rfl⟩
  have q0 := spec38 a0n a0 N0 hN0 ga0 ea0.1
  rw [hR] at q0
  have l0 : LI (.len a0) = N0 := by rw [← hI, I_len, hN0]
  obtain ⟨N1, hN1⟩ : ∃ N : Int, N = a1.length := ⟨_, rfl⟩
  have q1 := spec38 a1n a1 N1 hN1 ga1 ea1.1
  rw [hR] at q1
  have l1 : LI (.len a1) = N1 := by rw [← hI, I_len, hN1]
  obtain ⟨E1, hE1⟩ : ∃ l, l = E.set k [.own a0n 1 a0, .isl a1n 1 a1] := ⟨_, rfl⟩
  have gE1 : E1[k]? = some [.own a0n 1 a0, .isl a1n 1 a1] := by rw [hE1]; exact List.getElem?_set_self (by exact hlk)
  obtain ⟨E2, hE2⟩ : ∃ l, l = E1.set k [.own a0n 1 a0, .own a1n 1 a1] := ⟨_, rfl⟩
  have gE2 : E2[k]? = some [.own a0n 1 a0, .own a1n 1 a1] := by rw [hE2]; exact List.getElem?_set_self (by rw [hE1, List.length_set]; exact hlk)
  have hout : E.set k (twC true [.isl a0n 1 a0, .isl a1n 1 a1]) = E2 := by
    rw [hE2, hE1, List.set_set]
    simp only [twC, tw, twEs_flat rfl ea0, twEs_flat rfl ea1]
  rw [hout]
  cbv
  refine ⟨nn, E, _, rfl, hx, ?_⟩
  cbv
  refine ⟨[], rfl, ?_⟩
  cbv
  refine ⟨[], rfl, _, q0, Or.inl rfl, ?_⟩
  cbv
  refine ⟨nn, E, _, rfl, hx, ?_⟩
  cbv
  refine ⟨[], rfl, ?_⟩
  cbv
  refine ⟨[], rfl, _, q1, Or.inl rfl, ?_⟩
  cbv
  refine ⟨⟨l0.symm, trivial⟩, nn, E, _, _, E1, rfl, hx, rfl, rfl, rfl, by rw [hE1]; rfl, rfl, ?_⟩
  cbv
  refine ⟨⟨l1.symm, trivial⟩, nn, E1, _, _, E2, rfl, gE1, rfl, rfl, rfl, by rw [hE2]; rfl, rfl, ?_⟩
  cbv
  refine ⟨[], 1, Nat.le_refl _, ?_⟩
  cbv
/- bytebarn/read.Twin$2 -/
def cc43 : CC :=
 .reg [
   ⟨(some 2), .mv (.t 0), none⟩,
   ⟨(some 3), .mv (.t 0), none⟩,
   ⟨(some 4), .nilck (.t 3), none⟩,
   ⟨(some 5), .fa 2 (.t 4), none⟩,
   ⟨(some 6), .ld 1 false (.t 5), none⟩,
   ⟨(some 7), .call 44 [(.t 6)], none⟩,
   ⟨(some 8), .nilck (.t 2), none⟩,
   ⟨(some 9), .fa 2 (.t 8), none⟩,
   ⟨none, .st 1 (.t 9) (.t 7), none⟩]
def ann43 : List (List Nat) := []
theorem comp43 : comp Try.prog Try.f43.ntmps (Try.f43.body.getD .skip) ann43 = some (cc43, []) := by kernel_rfl
theorem body43 : Try.f43.body = some (Try.f43.body.getD .skip) := by kernel_rfl
theorem name43 : (Try.f43.name == "runtime.NumGoroutine") = false := by kernel_rfl
theorem res43 : resC Try.prog Try.f43.results.toList = some [] := by kernel_rfl
theorem ar43 : Nat.ble 1 Try.f43.ntmps = true := by kernel_rfl
theorem spec43 (nn : Bool) (E : List (List PV)) (k : Nat) (x : List PV) (hx' : HasL TGlobal x) (hx : E[k]? = some x) : Runs Try.prog 43 [.ptr ⟨0, []⟩ 3 k 0] [.row nn 3 E] (.ret (.tup []) [.row nn 3 (E.set k (twC true x))]) := by
  refine runs_len fun _ => ?_
  refine runs_of_wp 1 Try.func43 body43 name43 comp43 res43 (Nat.le_of_ble_eq_true ar43) ?_
  generalize hI : stdI = LI
  generalize hB : stdB = LB
  generalize hE : stdE = LE
  generalize hR : Runs Try.prog = R
  obtain ⟨a0, a1, a2n, a2, rfl, ga2, ea2⟩ := has_global hx'
  have hlk : k < E.length := (List.getElem?_eq_some_iff.1 hx).1
  obtain ⟨N2, hN2⟩ : ∃ N : Int, N = a2.length := ⟨_, rfl⟩
  obtain ⟨R2, hR2⟩ : ∃ R, R = twEs true a2 := ⟨_, rfl⟩
  have q2 := spec44 a2n a2 N2 hN2 ga2 ea2
  rw [← hR2] at q2
  rw [hR] at q2
  have l2 : LI (.len R2) = N2 := by rw [← hI, I_len, hR2, twEs_len, hN2]
  obtain ⟨E1, hE1⟩ : ∃ l, l = E.set k [.int .u8 a0, .bool a1, .own a2n 4 R2] := ⟨_, rfl⟩
  have gE1 : E1[k]? = some [.int .u8 a0, .bool a1, .own a2n 4 R2] := by rw [hE1]; exact List.getElem?_set_self (by exact hlk)
  have hout : E.set k (twC true [.int .u8 a0, .bool a1, .isl a2n 4 a2]) = E1 := by
    rw [hE1]
    simp only [twC, tw, ← hR2]
  rw [hout]
  cbv
  refine ⟨nn, E, _, rfl, hx, ?_⟩
  cbv
  refine ⟨[], trivial, ?_⟩
  cbv
  refine ⟨[], rfl, _, q2, Or.inl rfl, ?_⟩
  cbv
  refine ⟨⟨l2.symm, trivial⟩, nn, E, _, _, E1, rfl, hx, rfl, rfl, rfl, by rw [hE1]; rfl, rfl, ?_⟩
  cbv
  refine ⟨[], 1, Nat.le_refl _, ?_⟩
  cbv
/- bytebarn/read.Twin$3 -/
def cc47 : CC :=
 .regd [
   ⟨(some 2), .mv (.t 0), none⟩,
   ⟨(some 3), .mv (.t 0), none⟩,
   ⟨(some 4), .mv (.t 0), none⟩,
   ⟨(some 5), .nilck (.t 4), none⟩,
   ⟨(some 6), .fa 1 (.t 5), none⟩,
   ⟨(some 7), .ld 1 false (.t 6), none⟩,
   ⟨(some 8), .call 44 [(.t 7)], none⟩,
   ⟨(some 9), .mv (.t 0), none⟩,
   ⟨(some 10), .nilck (.t 9), none⟩,
   ⟨(some 11), .fa 2 (.t 10), none⟩,
   ⟨(some 12), .ld 1 false (.t 11), none⟩,
   ⟨(some 13), .call 40 [(.t 12)], none⟩,
   ⟨(some 14), .nilck (.t 2), none⟩,
   ⟨(some 15), .fa 1 (.t 14), none⟩,
   ⟨none, .st 1 (.t 15) (.t 8), none⟩,
   ⟨(some 16), .nilck (.t 3), none⟩,
   ⟨(some 17), .fa 2 (.t 16), none⟩,
   ⟨none, .st 1 (.t 17) (.t 13), none⟩] [[], [], [], [], [], [], [], [], [], [], [6], [], [], [], [], [], [], []] [false, false, false, false, false, false, false, false, false, false, false, true, true, true, true, true, true, true]
def ann47 : List (List Nat) := []
theorem comp47 : comp Try.prog Try.f47.ntmps (Try.f47.body.getD .skip) ann47 = some (cc47, []) := by kernel_rfl
theorem body47 : Try.f47.body = some (Try.f47.body.getD .skip) := by kernel_rfl
theorem name47 : (Try.f47.name == "runtime.NumGoroutine") = false := by kernel_rfl
theorem res47 : resC Try.prog Try.f47.results.toList = some [] := by kernel_rfl
theorem ar47 : Nat.ble 1 Try.f47.ntmps = true := by kernel_rfl
theorem spec47 (nn : Bool) (E : List (List PV)) (k : Nat) (x : List PV) (hx' : HasL TElem x) (hx : E[k]? = some x) : Runs Try.prog 47 [.ptr ⟨0, []⟩ 3 k 0] [.row nn 3 E] (.ret (.tup []) [.row nn 3 (E.set k (twC true x))]) := by
  refine runs_len fun _ => ?_
  refine runs_of_wp 2 Try.func47 body47 name47 comp47 res47 (Nat.le_of_ble_eq_true ar47) ?_
  generalize hI : stdI = LI
  generalize hB : stdB = LB
  generalize hE : stdE = LE
  generalize hR : Runs Try.prog = R
  obtain ⟨a0, a1n, a1, a2n, a2, rfl, ga1, ea1, ga2, ea2⟩ := has_elem hx'
  have hlk : k < E.length := (List.getElem?_eq_some_iff.1 hx).1
  obtain ⟨N1, hN1⟩ : ∃ N : Int, N = a1.length := ⟨_, rfl⟩
  obtain ⟨R1, hR1⟩ : ∃ R, R = twEs true a1 := ⟨_, rfl⟩
  have q1 := spec44 a1n a1 N1 hN1 ga1 ea1
  rw [← hR1] at q1
  rw [hR] at q1
  have l1 : LI (.len R1) = N1 := by rw [← hI, I_len, hR1, twEs_len, hN1]
  obtain ⟨N2, hN2⟩ : ∃ N : Int, N = a2.length := ⟨_, rfl⟩
  have q2 := spec40 a2n a2 N2 hN2 ga2 ea2.1
  rw [hR] at q2
  have l2 : LI (.len a2) = N2 := by rw [← hI, I_len, hN2]
  obtain ⟨E1, hE1⟩ : ∃ l, l = E.set k [.int .i64 a0, .own a1n 4 R1, .isl a2n 1 a2] := ⟨_, rfl⟩
  have gE1 : E1[k]? = some [.int .i64 a0, .own a1n 4 R1, .isl a2n 1 a2] := by rw [hE1]; exact List.getElem?_set_self (by exact hlk)
  obtain ⟨E2, hE2⟩ : ∃ l, l = E1.set k [.int .i64 a0, .own a1n 4 R1, .own a2n 1 a2] := ⟨_, rfl⟩
  have gE2 : E2[k]? = some [.int .i64 a0, .own a1n 4 R1, .own a2n 1 a2] := by rw [hE2]; exact List.getElem?_set_self (by rw [hE1, List.length_set]; exact hlk)
  have hout : E.set k (twC true [.int .i64 a0, .isl a1n 4 a1, .isl a2n 1 a2]) = E2 := by
    rw [hE2, hE1, List.set_set]
    simp only [twC, tw, ← hR1, twEs_flat rfl ea2]
  rw [hout]
  cbv
  refine ⟨nn, E, _, rfl, hx, ?_⟩
  cbv
  refine ⟨[], rfl, ?_⟩
  cbv
  refine ⟨[], rfl, _, q1, Or.inl rfl, ?_⟩
  cbv
  refine ⟨nn, E, _, rfl, hx, ?_⟩
  cbv
  refine ⟨[], rfl, ?_⟩
  cbv
  refine ⟨[], rfl, _, q2, Or.inl rfl, ?_⟩
  cbv
  refine ⟨⟨l1.symm, trivial⟩, nn, E, _, _, E1, rfl, hx, rfl, rfl, rfl, by rw [hE1]; rfl, rfl, ?_⟩
  cbv
  refine ⟨⟨l2.symm, trivial⟩, nn, E1, _, _, E2, rfl, gE1, rfl, rfl, rfl, by rw [hE2]; rfl, rfl, ?_⟩
  cbv
  refine ⟨[], 1, Nat.le_refl _, ?_⟩
  cbv
/- bytebarn/read.Twin$4 -/
def cc49 : CC :=
 .regd [
   ⟨(some 2), .mv (.t 0), none⟩,
   ⟨(some 3), .mv (.t 0), none⟩,
   ⟨(some 4), .mv (.t 0), none⟩,
   ⟨(some 5), .nilck (.t 4), none⟩,
   ⟨(some 6), .fa 0 (.t 5), none⟩,
   ⟨(some 7), .ld 1 false (.t 6), none⟩,
   ⟨(some 8), .call 50 [(.t 7)], none⟩,
   ⟨(some 9), .mv (.t 0), none⟩,
   ⟨(some 10), .nilck (.t 9), none⟩,
   ⟨(some 11), .fa 1 (.t 10), none⟩,
   ⟨(some 12), .ld 1 false (.t 11), none⟩,
   ⟨(some 13), .call 44 [(.t 12)], none⟩,
   ⟨(some 14), .nilck (.t 2), none⟩,
   ⟨(some 15), .fa 0 (.t 14), none⟩,
   ⟨none, .st 1 (.t 15) (.t 8), none⟩,
   ⟨(some 16), .nilck (.t 3), none⟩,
   ⟨(some 17), .fa 1 (.t 16), none⟩,
   ⟨none, .st 1 (.t 17) (.t 13), none⟩] [[], [], [], [], [], [], [], [], [], [], [6], [], [], [], [], [], [], []] [false, false, false, false, false, false, false, false, false, false, false, true, true, true, true, true, true, true]
def ann49 : List (List Nat) := []
theorem comp49 : comp Try.prog Try.f49.ntmps (Try.f49.body.getD .skip) ann49 = some (cc49, []) := by kernel_rfl
theorem body49 : Try.f49.body = some (Try.f49.body.getD .skip) := by kernel_rfl
theorem name49 : (Try.f49.name == "runtime.NumGoroutine") = false := by kernel_rfl
theorem res49 : resC Try.prog Try.f49.results.toList = some [] := by kernel_rfl
theorem ar49 : Nat.ble 1 Try.f49.ntmps = true := by kernel_rfl
theorem spec49 (nn : Bool) (E : List (List PV)) (k : Nat) (x : List PV) (hx' : HasL TCode x) (hx : E[k]? = some x) : Runs Try.prog 49 [.ptr ⟨0, []⟩ 2 k 0] [.row nn 2 E] (.ret (.tup []) [.row nn 2 (E.set k (twC true x))]) := by
  refine runs_len fun _ => ?_
  refine runs_of_wp 2 Try.func49 body49 name49 comp49 res49 (Nat.le_of_ble_eq_true ar49) ?_
  generalize hI : stdI = LI
  generalize hB : stdB = LB
  generalize hE : stdE = LE
  generalize hR : Runs Try.prog = R
  obtain ⟨a0n, a0, a1n, a1, rfl, ga0, ea0, ga1, ea1⟩ := has_code hx'
  have hlk : k < E.length := (List.getElem?_eq_some_iff.1 hx).1
  obtain ⟨N0, hN0⟩ : ∃ N : Int, N = a0.length := ⟨_, rfl⟩
  have q0 := spec50 a0n a0 N0 hN0 ga0 ea0.1
  rw [hR] at q0
  have l0 : LI (.len a0) = N0 := by rw [← hI, I_len, hN0]
  obtain ⟨N1, hN1⟩ : ∃ N : Int, N = a1.length := ⟨_, rfl⟩
  obtain ⟨R1, hR1⟩ : ∃ R, R = twEs true a1 := ⟨_, rfl⟩
  have q1 := spec44 a1n a1 N1 hN1 ga1 ea1
  rw [← hR1] at q1
  rw [hR] at q1
  have l1 : LI (.len R1) = N1 := by rw [← hI, I_len, hR1, twEs_len, hN1]
  obtain ⟨E1, hE1⟩ : ∃ l, l = E.set k [.own a0n 2 a0, .isl a1n 4 a1] := ⟨_, rfl⟩
  have gE1 : E1[k]? = some [.own a0n 2 a0, .isl a1n 4 a1] := by rw [hE1]; exact List.getElem?_set_self (by exact hlk)
  obtain ⟨E2, hE2⟩ : ∃ l, l = E1.set k [.own a0n 2 a0, .own a1n 4 R1] := ⟨_, rfl⟩
  have gE2 : E2[k]? = some [.own a0n 2 a0, .own a1n 4 R1] := by rw [hE2]; exact List.getElem?_set_self (by rw [hE1, List.length_set]; exact hlk)
  have hout : E.set k (twC true [.isl a0n 2 a0, .isl a1n 4 a1]) = E2 := by
    rw [hE2, hE1, List.set_set]
    simp only [twC, tw, twEs_flat rfl ea0, ← hR1]
  rw [hout]
  cbv
  refine ⟨nn, E, _, rfl, hx, ?_⟩
  cbv
  refine ⟨[], rfl, ?_⟩
  cbv
  refine ⟨[], rfl, _, q0, Or.inl rfl, ?_⟩
  cbv
  refine ⟨nn, E, _, rfl, hx, ?_⟩
  cbv
  refine ⟨[], rfl, ?_⟩
  cbv
  refine ⟨[], rfl, _, q1, Or.inl rfl, ?_⟩
  cbv
  refine ⟨⟨l0.symm, trivial⟩, nn, E, _, _, E1, rfl, hx, rfl, rfl, rfl, by rw [hE1]; rfl, rfl, ?_⟩
  cbv
  refine ⟨⟨l1.symm, trivial⟩, nn, E1, _, _, E2, rfl, gE1, rfl, rfl, rfl, by rw [hE2]; rfl, rfl, ?_⟩
  cbv
  refine ⟨[], 1, Nat.le_refl _, ?_⟩
  cbv
/- bytebarn/read.Twin$5 -/
def cc52 : CC :=
 .regd [
   ⟨(some 2), .mv (.t 0), none⟩,
   ⟨(some 3), .mv (.t 0), none⟩,
   ⟨(some 4), .mv (.t 0), none⟩,
   ⟨(some 5), .nilck (.t 4), none⟩,
   ⟨(some 6), .fa 1 (.t 5), none⟩,
   ⟨(some 7), .ld 1 false (.t 6), none⟩,
   ⟨(some 8), .call 44 [(.t 7)], none⟩,
   ⟨(some 9), .mv (.t 0), none⟩,
   ⟨(some 10), .nilck (.t 9), none⟩,
   ⟨(some 11), .fa 2 (.t 10), none⟩,
   ⟨(some 12), .ld 1 false (.t 11), none⟩,
   ⟨(some 13), .call 53 [(.t 12)], none⟩,
   ⟨(some 14), .nilck (.t 2), none⟩,
   ⟨(some 15), .fa 1 (.t 14), none⟩,
   ⟨none, .st 1 (.t 15) (.t 8), none⟩,
   ⟨(some 16), .nilck (.t 3), none⟩,
   ⟨(some 17), .fa 2 (.t 16), none⟩,
   ⟨none, .st 1 (.t 17) (.t 13), none⟩] [[], [], [], [], [], [], [], [], [], [], [6], [], [], [], [], [], [], []] [false, false, false, false, false, false, false, false, false, false, false, true, true, true, true, true, true, true]
def ann52 : List (List Nat) := []
theorem comp52 : comp Try.prog Try.f52.ntmps (Try.f52.body.getD .skip) ann52 = some (cc52, []) := by kernel_rfl
theorem body52 : Try.f52.body = some (Try.f52.body.getD .skip) := by kernel_rfl
theorem name52 : (Try.f52.name == "runtime.NumGoroutine") = false := by kernel_rfl
theorem res52 : resC Try.prog Try.f52.results.toList = some [] := by kernel_rfl
theorem ar52 : Nat.ble 1 Try.f52.ntmps = true := by kernel_rfl
theorem spec52 (nn : Bool) (E : List (List PV)) (k : Nat) (x : List PV) (hx' : HasL TData x) (hx : E[k]? = some x) : Runs Try.prog 52 [.ptr ⟨0, []⟩ 3 k 0] [.row nn 3 E] (.ret (.tup []) [.row nn 3 (E.set k (twC true x))]) := by
  refine runs_len fun _ => ?_
  refine runs_of_wp 2 Try.func52 body52 name52 comp52 res52 (Nat.le_of_ble_eq_true ar52) ?_
  generalize hI : stdI = LI
  generalize hB : stdB = LB
  generalize hE : stdE = LE
  generalize hR : Runs Try.prog = R
  obtain ⟨a0, a1n, a1, a2n, a2, rfl, ga1, ea1, ga2, ea2⟩ := has_data hx'
  have hlk : k < E.length := (List.getElem?_eq_some_iff.1 hx).1
  obtain ⟨N1, hN1⟩ : ∃ N : Int, N = a1.length := ⟨_, rfl⟩
  obtain ⟨R1, hR1⟩ : ∃ R, R = twEs true a1 := ⟨_, rfl⟩
  have q1 := spec44 a1n a1 N1 hN1 ga1 ea1
  rw [← hR1] at q1
  rw [hR] at q1
  have l1 : LI (.len R1) = N1 := by rw [← hI, I_len, hR1, twEs_len, hN1]
  obtain ⟨N2, hN2⟩ : ∃ N : Int, N = a2.length := ⟨_, rfl⟩
  have q2 := spec53 a2n a2 N2 hN2 ga2 ea2.1
  rw [hR] at q2
  have l2 : LI (.len a2) = N2 := by rw [← hI, I_len, hN2]
  obtain ⟨E1, hE1⟩ : ∃ l, l = E.set k [.int .i64 a0, .own a1n 4 R1, .isl a2n 1 a2] := ⟨_, rfl⟩
  have gE1 : E1[k]? = some [.int .i64 a0, .own a1n 4 R1, .isl a2n 1 a2] := by rw [hE1]; exact List.getElem?_set_self (by exact hlk)
  obtain ⟨E2, hE2⟩ : ∃ l, l = E1.set k [.int .i64 a0, .own a1n 4 R1, .own a2n 1 a2] := ⟨_, rfl⟩
  have gE2 : E2[k]? = some [.int .i64 a0, .own a1n 4 R1, .own a2n 1 a2] := by rw [hE2]; exact List.getElem?_set_self (by rw [hE1, List.length_set]; exact hlk)
  have hout : E.set k (twC true [.int .i64 a0, .isl a1n 4 a1, .isl a2n 1 a2]) = E2 := by
    rw [hE2, hE1, List.set_set]
    simp only [twC, tw, ← hR1, twEs_flat rfl ea2]
  rw [hout]
  cbv
  refine ⟨nn, E, _, rfl, hx, ?_⟩
  cbv
  refine ⟨[], rfl, ?_⟩
  cbv
  refine ⟨[], rfl, _, q1, Or.inl rfl, ?_⟩
  cbv
  refine ⟨nn, E, _, rfl, hx, ?_⟩
  cbv
  refine ⟨[], rfl, ?_⟩
  cbv
  refine ⟨[], rfl, _, q2, Or.inl rfl, ?_⟩
  cbv
  refine ⟨⟨l1.symm, trivial⟩, nn, E, _, _, E1, rfl, hx, rfl, rfl, rfl, by rw [hE1]; rfl, rfl, ?_⟩
  cbv
  refine ⟨⟨l2.symm, trivial⟩, nn, E1, _, _, E2, rfl, gE1, rfl, rfl, rfl, by rw [hE2]; rfl, rfl, ?_⟩
  cbv
  refine ⟨[], 1, Nat.le_refl _, ?_⟩
  cbv
end Go.Ab
/- read.Twin. -/
set_option linter.unusedVariables false
set_option linter.unusedSimpArgs false
namespace Go.Ab
open Go.Proofs
/- bytebarn/read.twins(bytebarn/api.Type) -/
def cc36 : CC :=
 .seq (.reg [
   ⟨(some 4), .mv (.c (.p (.isl false 0 []))), none⟩])
 (.seq (.reg [
   ⟨(some 6), .mv (.t 0), none⟩,
   ⟨(some 7), .call 96 [(.t 6)], none⟩,
   ⟨(some 0), .mv (.t 7), none⟩])
 (.seq (.seq (.reg [
   ⟨(some 8), .mv (.t 0), none⟩,
   ⟨(some 9), .len false (.t 8), none⟩,
   ⟨(some 10), .mv (.c (.p (.int .i64 0))), none⟩])
 (.block 0 (.loop [0, 1, 9, 10]
   (.seq (.reg [
     ⟨(some 11), .cmp .lss (.t 10) (.t 9), none⟩])
   (.seq (.cond (.t 11)
    (.skip)
    (.exit 0))
   (.seq (.block 1 (.seq (.reg [
      ⟨(some 12), .mv (.t 10), none⟩,
      ⟨(some 5), .mv (.t 12), none⟩])
    (.reg [
      ⟨(some 13), .mv (.t 1), none⟩,
      ⟨(some 14), .mv (.t 0), none⟩,
      ⟨(some 15), .mv (.t 5), none⟩,
      ⟨(some 16), .ia 2 (.t 14) (.t 15), none⟩,
      ⟨(some 17), .calld (.t 13) [(.t 16)], none⟩])))
   (.reg [
     ⟨(some 18), .ari .add .i64 (.t 10) (.c (.p (.int .i64 1))), none⟩,
     ⟨(some 10), .mv (.t 18), none⟩])))))))
 (.seq (.reg [
   ⟨(some 19), .mv (.t 0), none⟩,
   ⟨(some 4), .mv (.t 19), none⟩])
 (.ret))))
def ann36 : List (List Nat) := [[0, 1, 9, 10]]
theorem comp36 : comp Try.prog Try.f36.ntmps (Try.f36.body.getD .skip) ann36 = some (cc36, []) := by kernel_rfl
theorem body36 : Try.f36.body = some (Try.f36.body.getD .skip) := by kernel_rfl
theorem name36 : (Try.f36.name == "runtime.NumGoroutine") = false := by kernel_rfl
theorem res36 : resC Try.prog Try.f36.results.toList = some [.t 4] := by kernel_rfl
theorem ar36 : Nat.ble 2 Try.f36.ntmps = true := by kernel_rfl
theorem spec36 (g : Nat) (hg : ∀ (nn : Bool) (E : List (List PV)) (k : Nat) (x : List PV), HasL TType x → E[k]? = some x → Runs Try.prog g [.ptr ⟨0, []⟩ 2 k 0] [.row nn 2 E] (.ret (.tup []) [.row nn 2 (E.set k (twC true x))])) (nn : Bool) (E : List (List PV)) (N : Int) (hN : N = E.length) (hn : nn = false → E = []) (hE : HasE TType E) : Runs Try.prog 36 [.p (.isl nn 2 E), .p (.fn g)] [] (.ret (.sl nn ⟨0, []⟩ 2 0 N) [.row nn 2 (twEs true E)]) := by
  refine runs_len fun _ => ?_
  refine runs_of_wp 2 Try.func36 body36 name36 comp36 res36 (Nat.le_of_ble_eq_true ar36) ?_
  generalize hI : stdI = LI
  generalize hB : stdB = LB
  generalize hLE : stdE = LE
  have hz := hE.1
  have q0 := spec96 nn E N hN hn hE.1
  generalize hr : twEs true E = r
  generalize hR : Runs Try.prog = R at q0 hg ⊢
  cbv
  refine ⟨[], trivial, ?_⟩
  cbv
  refine ⟨[], rfl, _, q0, Or.inl rfl, ?_⟩
  cbv
  refine loopR (α := Nat × Int × List (List PV)) [] 1 (Nat.zero_le _) (fun s a => (s.sett 10 (.p (.int .i64 a.2.1))).ob 0 (.row nn 2 a.2.2)) (fun a => E.length - a.1) (fun a => a.2.1 = a.1 ∧ a.1 ≤ E.length ∧ a.2.2 = mix E a.1) (0, 0, E) ⟨rfl, Nat.zero_le _, (mix_zero E).symm⟩ (by cbv) ?_
  rintro S1 hS inv hinv ⟨k, K, els⟩ ⟨hK, hk, ht⟩
  subst hS
  simp only at hK hk ht
  cbv
  cases hc : LB (.cmp .lss K N)
  · rw [← hB, B_lss, hN, hK] at hc
    have hc : ¬ k < E.length := by simpa using hc
    have e1 : r = els := by rw [ht, ← hr, mix_all (by omega)]
    subst e1
    cbv
    refine ⟨[], 1, Nat.zero_le _, ?_⟩
    cbv
  · rw [← hB, B_lss, hN, hK] at hc
    have hc : k < E.length := by simpa using hc
    have hKN : K < N := by rw [hK, hN]; exact Int.ofNat_lt.2 hc
    obtain ⟨x, hx, hx'⟩ := hE.at hc
    have hx2 : els[k]? = some x := by rw [ht]; exact mix_at hx
    have hs := mix_set hx
    obtain ⟨els2, he2⟩ : ∃ l, l = els.set k (twC true x) := ⟨_, rfl⟩
    have q1 := hg nn els k x hx' hx2
    rw [← he2] at q1
    cbv
    refine ⟨k, k, hK, hKN, by rw [hK]; exact Int.zero_add _, ?_⟩
    cbv
    refine ⟨[], trivial, ?_⟩
    cbv
    refine ⟨[], rfl, _, q1, Or.inl rfl, ?_⟩
    cbv
    have hh := hinv (k + 1, LI (.ari .add .i64 K 1), els2) ⟨by
      simp only
      rw [← hI, hK]
      exact I_inc (by omega), hc, by
      simp only
      rw [he2, ht, ← hs]⟩
    simp only at hh
    generalize hmu : E.length - (k + 1) = mu at hh
    refine ⟨[], mu, by omega, ?_⟩
    refine invE hh ?_
    cbv
/- bytebarn/read.twins(bytebarn/api.Global) -/
def cc42 : CC :=
 .seq (.reg [
   ⟨(some 4), .mv (.c (.p (.isl false 0 []))), none⟩])
 (.seq (.reg [
   ⟨(some 6), .mv (.t 0), none⟩,
   ⟨(some 7), .call 97 [(.t 6)], none⟩,
   ⟨(some 0), .mv (.t 7), none⟩])
 (.seq (.seq (.reg [
   ⟨(some 8), .mv (.t 0), none⟩,
   ⟨(some 9), .len false (.t 8), none⟩,
   ⟨(some 10), .mv (.c (.p (.int .i64 0))), none⟩])
 (.block 0 (.loop [0, 1, 9, 10]
   (.seq (.reg [
     ⟨(some 11), .cmp .lss (.t 10) (.t 9), none⟩])
   (.seq (.cond (.t 11)
    (.skip)
    (.exit 0))
   (.seq (.block 1 (.seq (.reg [
      ⟨(some 12), .mv (.t 10), none⟩,
      ⟨(some 5), .mv (.t 12), none⟩])
    (.reg [
      ⟨(some 13), .mv (.t 1), none⟩,
      ⟨(some 14), .mv (.t 0), none⟩,
      ⟨(some 15), .mv (.t 5), none⟩,
      ⟨(some 16), .ia 3 (.t 14) (.t 15), none⟩,
      ⟨(some 17), .calld (.t 13) [(.t 16)], none⟩])))
   (.reg [
     ⟨(some 18), .ari .add .i64 (.t 10) (.c (.p (.int .i64 1))), none⟩,
     ⟨(some 10), .mv (.t 18), none⟩])))))))
 (.seq (.reg [
   ⟨(some 19), .mv (.t 0), none⟩,
   ⟨(some 4), .mv (.t 19), none⟩])
 (.ret))))
def ann42 : List (List Nat) := [[0, 1, 9, 10]]
theorem comp42 : comp Try.prog Try.f42.ntmps (Try.f42.body.getD .skip) ann42 = some (cc42, []) := by kernel_rfl
theorem body42 : Try.f42.body = some (Try.f42.body.getD .skip) := by kernel_rfl
theorem name42 : (Try.f42.name == "runtime.NumGoroutine") = false := by kernel_rfl
theorem res42 : resC Try.prog Try.f42.results.toList = some [.t 4] := by kernel_rfl
theorem ar42 : Nat.ble 2 Try.f42.ntmps = true := by kernel_rfl
theorem spec42 (g : Nat) (hg : ∀ (nn : Bool) (E : List (List PV)) (k : Nat) (x : List PV), HasL TGlobal x → E[k]? = some x → Runs Try.prog g [.ptr ⟨0, []⟩ 3 k 0] [.row nn 3 E] (.ret (.tup []) [.row nn 3 (E.set k (twC true x))])) (nn : Bool) (E : List (List PV)) (N : Int) (hN : N = E.length) (hn : nn = false → E = []) (hE : HasE TGlobal E) : Runs Try.prog 42 [.p (.isl nn 3 E), .p (.fn g)] [] (.ret (.sl nn ⟨0, []⟩ 3 0 N) [.row nn 3 (twEs true E)]) := by
  refine runs_len fun _ => ?_
  refine runs_of_wp 2 Try.func42 body42 name42 comp42 res42 (Nat.le_of_ble_eq_true ar42) ?_
  generalize hI : stdI = LI
  generalize hB : stdB = LB
  generalize hLE : stdE = LE
  have hz := hE.1
  have q0 := spec97 nn E N hN hn hE.1
  generalize hr : twEs true E = r
  generalize hR : Runs Try.prog = R at q0 hg ⊢
  cbv
  refine ⟨[], trivial, ?_⟩
  cbv
  refine ⟨[], rfl, _, q0, Or.inl rfl, ?_⟩
  cbv
  refine loopR (α := Nat × Int × List (List PV)) [] 1 (Nat.zero_le _) (fun s a => (s.sett 10 (.p (.int .i64 a.2.1))).ob 0 (.row nn 3 a.2.2)) (fun a => E.length - a.1) (fun a => a.2.1 = a.1 ∧ a.1 ≤ E.length ∧ a.2.2 = mix E a.1) (0, 0, E) ⟨rfl, Nat.zero_le _, (mix_zero E).symm⟩ (by cbv) ?_
  rintro S1 hS inv hinv ⟨k, K, els⟩ ⟨hK, hk, ht⟩
  subst hS
  simp only at hK hk ht
  cbv
  cases hc : LB (.cmp .lss K N)
  · rw [← hB, B_lss, hN, hK] at hc
    have hc : ¬ k < E.length := by simpa using hc
    have e1 : r = els := by rw [ht, ← hr, mix_all (by omega)]
    subst e1
    cbv
    refine ⟨[], 1, Nat.zero_le _, ?_⟩
    cbv
  · rw [← hB, B_lss, hN, hK] at hc
    have hc : k < E.length := by simpa using hc
    have hKN : K < N := by rw [hK, hN]; exact Int.ofNat_lt.2 hc
    obtain ⟨x, hx, hx'⟩ := hE.at hc
    have hx2 : els[k]? = some x := by rw [ht]; exact mix_at hx
    have hs := mix_set hx
    obtain ⟨els2, he2⟩ : ∃ l, l = els.set k (twC true x) := ⟨_, rfl⟩
    have q1 := hg nn els k x hx' hx2
    rw [← he2] at q1
    cbv
    refine ⟨k, k, hK, hKN, by rw [hK]; exact Int.zero_add _, ?_⟩
    cbv
    refine ⟨[], trivial, ?_⟩
    cbv
    refine ⟨[], rfl, _, q1, Or.inl rfl, ?_⟩
    cbv
    have hh := hinv (k + 1, LI (.ari .add .i64 K 1), els2) ⟨by
      simp only
      rw [← hI, hK]
      exact I_inc (by omega), hc, by
      simp only
      rw [he2, ht, ← hs]⟩
    simp only at hh
    generalize hmu : E.length - (k + 1) = mu at hh
    refine ⟨[], mu, by omega, ?_⟩
    refine invE hh ?_
    cbv
/- bytebarn/read.twins(bytebarn/api.Elem) -/
def cc46 : CC :=
 .seq (.reg [
   ⟨(some 4), .mv (.c (.p (.isl false 0 []))), none⟩])
 (.seq (.reg [
   ⟨(some 6), .mv (.t 0), none⟩,
   ⟨(some 7), .call 99 [(.t 6)], none⟩,
   ⟨(some 0), .mv (.t 7), none⟩])
 (.seq (.seq (.reg [
   ⟨(some 8), .mv (.t 0), none⟩,
   ⟨(some 9), .len false (.t 8), none⟩,
   ⟨(some 10), .mv (.c (.p (.int .i64 0))), none⟩])
 (.block 0 (.loop [0, 1, 9, 10]
   (.seq (.reg [
     ⟨(some 11), .cmp .lss (.t 10) (.t 9), none⟩])
   (.seq (.cond (.t 11)
    (.skip)
    (.exit 0))
   (.seq (.block 1 (.seq (.reg [
      ⟨(some 12), .mv (.t 10), none⟩,
      ⟨(some 5), .mv (.t 12), none⟩])
    (.reg [
      ⟨(some 13), .mv (.t 1), none⟩,
      ⟨(some 14), .mv (.t 0), none⟩,
      ⟨(some 15), .mv (.t 5), none⟩,
      ⟨(some 16), .ia 3 (.t 14) (.t 15), none⟩,
      ⟨(some 17), .calld (.t 13) [(.t 16)], none⟩])))
   (.reg [
     ⟨(some 18), .ari .add .i64 (.t 10) (.c (.p (.int .i64 1))), none⟩,
     ⟨(some 10), .mv (.t 18), none⟩])))))))
 (.seq (.reg [
   ⟨(some 19), .mv (.t 0), none⟩,
   ⟨(some 4), .mv (.t 19), none⟩])
 (.ret))))
def ann46 : List (List Nat) := [[0, 1, 9, 10]]
theorem comp46 : comp Try.prog Try.f46.ntmps (Try.f46.body.getD .skip) ann46 = some (cc46, []) := by kernel_rfl
theorem body46 : Try.f46.body = some (Try.f46.body.getD .skip) := by kernel_rfl
theorem name46 : (Try.f46.name == "runtime.NumGoroutine") = false := by kernel_rfl
theorem res46 : resC Try.prog Try.f46.results.toList = some [.t 4] := by kernel_rfl
theorem ar46 : Nat.ble 2 Try.f46.ntmps = true := by kernel_rfl
theorem spec46 (g : Nat) (hg : ∀ (nn : Bool) (E : List (List PV)) (k : Nat) (x : List PV), HasL TElem x → E[k]? = some x → Runs Try.prog g [.ptr ⟨0, []⟩ 3 k 0] [.row nn 3 E] (.ret (.tup []) [.row nn 3 (E.set k (twC true x))])) (nn : Bool) (E : List (List PV)) (N : Int) (hN : N = E.length) (hn : nn = false → E = []) (hE : HasE TElem E) : Runs Try.prog 46 [.p (.isl nn 3 E), .p (.fn g)] [] (.ret (.sl nn ⟨0, []⟩ 3 0 N) [.row nn 3 (twEs true E)]) := by
  refine runs_len fun _ => ?_
  refine runs_of_wp 2 Try.func46 body46 name46 comp46 res46 (Nat.le_of_ble_eq_true ar46) ?_
  generalize hI : stdI = LI
  generalize hB : stdB = LB
  generalize hLE : stdE = LE
  have hz := hE.1
  have q0 := spec99 nn E N hN hn hE.1
  generalize hr : twEs true E = r
  generalize hR : Runs Try.prog = R at q0 hg ⊢
  cbv
  refine ⟨[], trivial, ?_⟩
  cbv
  refine ⟨[], rfl, _, q0, Or.inl rfl, ?_⟩
  cbv
  refine loopR (α := Nat × Int × List (List PV)) [] 1 (Nat.zero_le _) (fun s a => (s.sett 10 (.p (.int .i64 a.2.1))).ob 0 (.row nn 3 a.2.2)) (fun a => E.length - a.1) (fun a => a.2.1 = a.1 ∧ a.1 ≤ E.length ∧ a.2.2 = mix E a.1) (0, 0, E) ⟨rfl, Nat.zero_le _, (mix_zero E).symm⟩ (by cbv) ?_
  rintro S1 hS inv hinv ⟨k, K, els⟩ ⟨hK, hk, ht⟩
  subst hS
  simp only at hK hk ht
  cbv
  cases hc : LB (.cmp .lss K N)
  · rw [← hB, B_lss, hN, hK] at hc
    have hc : ¬ k < E.length := by simpa using hc
    have e1 : r = els := by rw [ht, ← hr, mix_all (by omega)]
    subst e1
    cbv
    refine ⟨[], 1, Nat.zero_le _, ?_⟩
    cbv
  · rw [← hB, B_lss, hN, hK] at hc
    have hc : k < E.length := by simpa using hc
    have hKN : K < N := by rw [hK, hN]; exact Int.ofNat_lt.2 hc
    obtain ⟨x, hx, hx'⟩ := hE.at hc
    have hx2 : els[k]? = some x := by rw [ht]; exact mix_at hx
    have hs := mix_set hx
    obtain ⟨els2, he2⟩ : ∃ l, l = els.set k (twC true x) := ⟨_, rfl⟩
    have q1 := hg nn els k x hx' hx2
    rw [← he2] at q1
    cbv
    refine ⟨k, k, hK, hKN, by rw [hK]; exact Int.zero_add _, ?_⟩
    cbv
    refine ⟨[], trivial, ?_⟩
    cbv
    refine ⟨[], rfl, _, q1, Or.inl rfl, ?_⟩
    cbv
    have hh := hinv (k + 1, LI (.ari .add .i64 K 1), els2) ⟨by
      simp only
      rw [← hI, hK]
      exact I_inc (by omega), hc, by
      simp only
      rw [he2, ht, ← hs]⟩
    simp only at hh
    generalize hmu : E.length - (k + 1) = mu at hh
    refine ⟨[], mu, by omega, ?_⟩
    refine invE hh ?_
    cbv
/- bytebarn/read.twins(bytebarn/api.Code) -/
def cc48 : CC :=
 .seq (.reg [
   ⟨(some 4), .mv (.c (.p (.isl false 0 []))), none⟩])
 (.seq (.reg [
   ⟨(some 6), .mv (.t 0), none⟩,
   ⟨(some 7), .call 100 [(.t 6)], none⟩,
   ⟨(some 0), .mv (.t 7), none⟩])
 (.seq (.seq (.reg [
   ⟨(some 8), .mv (.t 0), none⟩,
   ⟨(some 9), .len false (.t 8), none⟩,
   ⟨(some 10), .mv (.c (.p (.int .i64 0))), none⟩])
 (.block 0 (.loop [0, 1, 9, 10]
   (.seq (.reg [
     ⟨(some 11), .cmp .lss (.t 10) (.t 9), none⟩])
   (.seq (.cond (.t 11)
    (.skip)
    (.exit 0))
   (.seq (.block 1 (.seq (.reg [
      ⟨(some 12), .mv (.t 10), none⟩,
      ⟨(some 5), .mv (.t 12), none⟩])
    (.reg [
      ⟨(some 13), .mv (.t 1), none⟩,
      ⟨(some 14), .mv (.t 0), none⟩,
      ⟨(some 15), .mv (.t 5), none⟩,
      ⟨(some 16), .ia 2 (.t 14) (.t 15), none⟩,
      ⟨(some 17), .calld (.t 13) [(.t 16)], none⟩])))
   (.reg [
     ⟨(some 18), .ari .add .i64 (.t 10) (.c (.p (.int .i64 1))), none⟩,
     ⟨(some 10), .mv (.t 18), none⟩])))))))
 (.seq (.reg [
   ⟨(some 19), .mv (.t 0), none⟩,
   ⟨(some 4), .mv (.t 19), none⟩])
 (.ret))))
def ann48 : List (List Nat) := [[0, 1, 9, 10]]
theorem comp48 : comp Try.prog Try.f48.ntmps (Try.f48.body.getD .skip) ann48 = some (cc48, []) := by kernel_rfl
theorem body48 : Try.f48.body = some (Try.f48.body.getD .skip) := by kernel_rfl
theorem name48 : (Try.f48.name == "runtime.NumGoroutine") = false := by kernel_rfl
theorem res48 : resC Try.prog Try.f48.results.toList = some [.t 4] := by kernel_rfl
theorem ar48 : Nat.ble 2 Try.f48.ntmps = true := by kernel_rfl
theorem spec48 (g : Nat) (hg : ∀ (nn : Bool) (E : List (List PV)) (k : Nat) (x : List PV), HasL TCode x → E[k]? = some x → Runs Try.prog g [.ptr ⟨0, []⟩ 2 k 0] [.row nn 2 E] (.ret (.tup []) [.row nn 2 (E.set k (twC true x))])) (nn : Bool) (E : List (List PV)) (N : Int) (hN : N = E.length) (hn : nn = false → E = []) (hE : HasE TCode E) : Runs Try.prog 48 [.p (.isl nn 2 E), .p (.fn g)] [] (.ret (.sl nn ⟨0, []⟩ 2 0 N) [.row nn 2 (twEs true E)]) := by
  refine runs_len fun _ => ?_
  refine runs_of_wp 2 Try.func48 body48 name48 comp48 res48 (Nat.le_of_ble_eq_true ar48) ?_
  generalize hI : stdI = LI
  generalize hB : stdB = LB
  generalize hLE : stdE = LE
  have hz := hE.1
  have q0 := spec100 nn E N hN hn hE.1
  generalize hr : twEs true E = r
  generalize hR : Runs Try.prog = R at q0 hg ⊢
  cbv
  refine ⟨[], trivial, ?_⟩
  cbv
  refine ⟨[], rfl, _, q0, Or.inl rfl, ?_⟩
  cbv
  refine loopR (α := Nat × Int × List (List PV)) [] 1 (Nat.zero_le _) (fun s a => (s.sett 10 (.p (.int .i64 a.2.1))).ob 0 (.row nn 2 a.2.2)) (fun a => E.length - a.1) (fun a => a.2.1 = a.1 ∧ a.1 ≤ E.length ∧ a.2.2 = mix E a.1) (0, 0, E) ⟨rfl, Nat.zero_le _, (mix_zero E).symm⟩ (by cbv) ?_
  rintro S1 hS inv hinv ⟨k, K, els⟩ ⟨hK, hk, ht⟩
  subst hS
  simp only at hK hk ht
  cbv
  cases hc : LB (.cmp .lss K N)
  · rw [← hB, B_lss, hN, hK] at hc
    have hc : ¬ k < E.length := by simpa using hc
    have e1 : r = els := by rw [ht, ← hr, mix_all (by omega)]
    subst e1
    cbv
    refine ⟨[], 1, Nat.zero_le _, ?_⟩
    cbv
  · rw [← hB, B_lss, hN, hK] at hc
    have hc : k < E.length := by simpa using hc
    have hKN : K < N := by rw [hK, hN]; exact Int.ofNat_lt.2 hc
    obtain ⟨x, hx, hx'⟩ := hE.at hc
    have hx2 : els[k]? = some x := by rw [ht]; exact mix_at hx
    have hs := mix_set hx
    obtain ⟨els2, he2⟩ : ∃ l, l = els.set k (twC true x) := ⟨_, rfl⟩
    have q1 := hg nn els k x hx' hx2
    rw [← he2] at q1
    cbv
    refine ⟨k, k, hK, hKN, by rw [hK]; exact Int.zero_add _, ?_⟩
    cbv
    refine ⟨[], trivial, ?_⟩
    cbv
    refine ⟨[], rfl, _, q1, Or.inl rfl, ?_⟩
    cbv
    have hh := hinv (k + 1, LI (.ari .add .i64 K 1), els2) ⟨by
      simp only
      rw [← hI, hK]
      exact I_inc (by omega), hc, by
      simp only
      rw [he2, ht, ← hs]⟩
    simp only at hh
    generalize hmu : E.length - (k + 1) = mu at hh
    refine ⟨[], mu, by omega, ?_⟩
    refine invE hh ?_
    cbv
/- bytebarn/read.twins(bytebarn/api.Data) -/
def cc51 : CC :=
 .seq (.reg [
   ⟨(some 4), .mv (.c (.p (.isl false 0 []))), none⟩])
 (.seq (.reg [
   ⟨(some 6), .mv (.t 0), none⟩,
   ⟨(some 7), .call 101 [(.t 6)], none⟩,
   ⟨(some 0), .mv (.t 7), none⟩])
 (.seq (.seq (.reg [
   ⟨(some 8), .mv (.t 0), none⟩,
   ⟨(some 9), .len false (.t 8), none⟩,
   ⟨(some 10), .mv (.c (.p (.int .i64 0))), none⟩])
 (.block 0 (.loop [0, 1, 9, 10]
   (.seq (.reg [
     ⟨(some 11), .cmp .lss (.t 10) (.t 9), none⟩])
   (.seq (.cond (.t 11)
    (.skip)
    (.exit 0))
   (.seq (.block 1 (.seq (.reg [
      ⟨(some 12), .mv (.t 10), none⟩,
      ⟨(some 5), .mv (.t 12), none⟩])
    (.reg [
      ⟨(some 13), .mv (.t 1), none⟩,
      ⟨(some 14), .mv (.t 0), none⟩,
      ⟨(some 15), .mv (.t 5), none⟩,
      ⟨(some 16), .ia 3 (.t 14) (.t 15), none⟩,
      ⟨(some 17), .calld (.t 13) [(.t 16)], none⟩])))
   (.reg [
     ⟨(some 18), .ari .add .i64 (.t 10) (.c (.p (.int .i64 1))), none⟩,
     ⟨(some 10), .mv (.t 18), none⟩])))))))
 (.seq (.reg [
   ⟨(some 19), .mv (.t 0), none⟩,
   ⟨(some 4), .mv (.t 19), none⟩])
 (.ret))))
def ann51 : List (List Nat) := [[0, 1, 9, 10]]
theorem comp51 : comp Try.prog Try.f51.ntmps (Try.f51.body.getD .skip) ann51 = some (cc51, []) := by kernel_rfl
theorem body51 : Try.f51.body = some (Try.f51.body.getD .skip) := by kernel_rfl
theorem name51 : (Try.f51.name == "runtime.NumGoroutine") = false := by kernel_rfl
theorem res51 : resC Try.prog Try.f51.results.toList = some [.t 4] := by kernel_rfl
theorem ar51 : Nat.ble 2 Try.f51.ntmps = true := by kernel_rfl
theorem spec51 (g : Nat) (hg : ∀ (nn : Bool) (E : List (List PV)) (k : Nat) (x : List PV), HasL TData x → E[k]? = some x → Runs Try.prog g [.ptr ⟨0, []⟩ 3 k 0] [.row nn 3 E] (.ret (.tup []) [.row nn 3 (E.set k (twC true x))])) (nn : Bool) (E : List (List PV)) (N : Int) (hN : N = E.length) (hn : nn = false → E = []) (hE : HasE TData E) : Runs Try.prog 51 [.p (.isl nn 3 E), .p (.fn g)] [] (.ret (.sl nn ⟨0, []⟩ 3 0 N) [.row nn 3 (twEs true E)]) := by
  refine runs_len fun _ => ?_
  refine runs_of_wp 2 Try.func51 body51 name51 comp51 res51 (Nat.le_of_ble_eq_true ar51) ?_
  generalize hI : stdI = LI
  generalize hB : stdB = LB
  generalize hLE : stdE = LE
  have hz := hE.1
  have q0 := spec101 nn E N hN hn hE.1
  generalize hr : twEs true E = r
  generalize hR : Runs Try.prog = R at q0 hg ⊢
  cbv
  refine ⟨[], trivial, ?_⟩
  cbv
  refine ⟨[], rfl, _, q0, Or.inl rfl, ?_⟩
  cbv
  refine loopR (α := Nat × Int × List (List PV)) [] 1 (Nat.zero_le _) (fun s a => (s.sett 10 (.p (.int .i64 a.2.1))).ob 0 (.row nn 3 a.2.2)) (fun a => E.length - a.1) (fun a => a.2.1 = a.1 ∧ a.1 ≤ E.length ∧ a.2.2 = mix E a.1) (0, 0, E) ⟨rfl, Nat.zero_le _, (mix_zero E).symm⟩ (by cbv) ?_
  rintro S1 hS inv hinv ⟨k, K, els⟩ ⟨hK, hk, ht⟩
  subst hS
  simp only at hK hk ht
  cbv
  cases hc : LB (.cmp .lss K N)
  · rw [← hB, B_lss, hN, hK] at hc
    have hc : ¬ k < E.length := by simpa using hc
    have e1 : r = els := by rw [ht, ← hr, mix_all (by omega)]
    subst e1
    cbv
    refine ⟨[], 1, Nat.zero_le _, ?_⟩
    cbv
  · rw [← hB, B_lss, hN, hK] at hc
    have hc : k < E.length := by simpa using hc
    have hKN : K < N := by rw [hK, hN]; exact Int.ofNat_lt.2 hc
    obtain ⟨x, hx, hx'⟩ := hE.at hc
    have hx2 : els[k]? = some x := by rw [ht]; exact mix_at hx
    have hs := mix_set hx
    obtain ⟨els2, he2⟩ : ∃ l, l = els.set k (twC true x) := ⟨_, rfl⟩
    have q1 := hg nn els k x hx' hx2
    rw [← he2] at q1
    cbv
    refine ⟨k, k, hK, hKN, by rw [hK]; exact Int.zero_add _, ?_⟩
    cbv
    refine ⟨[], trivial, ?_⟩
    cbv
    refine ⟨[], rfl, _, q1, Or.inl rfl, ?_⟩
    cbv
    have hh := hinv (k + 1, LI (.ari .add .i64 K 1), els2) ⟨by
      simp only
      rw [← hI, hK]
      exact I_inc (by omega), hc, by
      simp only
      rw [he2, ht, ← hs]⟩
    simp only at hh
    generalize hmu : E.length - (k + 1) = mu at hh
    refine ⟨[], mu, by omega, ?_⟩
    refine invE hh ?_
    cbv
/- bytebarn/read.Twin -/
def cc10 : CC :=
 .seq (.reg [
   ⟨(some 1), .box (.t 0), none⟩,
   ⟨(some 2), .alloc [(.isl false 0 []), (.isl false 0 []), (.isl false 0 []), (.isl false 0 []), (.isl false 0 []), (.isl false 0 []), (.isl false 0 []), (.isl false 0 []), (.isl false 0 []), (.isl false 0 []), (.isl false 0 [])], none⟩])
 (.seq (.reg [
   ⟨(some 3), .fa 0 (.t 1), none⟩,
   ⟨(some 4), .ld 1 false (.t 3), none⟩,
   ⟨(some 5), .call 36 [(.t 4), (.c (.p (.fn 37)))], none⟩,
   ⟨(some 6), .fa 0 (.t 1), none⟩,
   ⟨none, .st 1 (.t 6) (.t 5), none⟩])
 (.seq (.regd [
   ⟨(some 7), .fa 1 (.t 1), none⟩,
   ⟨(some 8), .ld 1 false (.t 7), none⟩,
   ⟨(some 9), .call 39 [(.t 8)], none⟩,
   ⟨(some 10), .fa 2 (.t 1), none⟩,
   ⟨(some 11), .ld 1 false (.t 10), none⟩,
   ⟨(some 12), .call 40 [(.t 11)], none⟩,
   ⟨(some 13), .fa 3 (.t 1), none⟩,
   ⟨(some 14), .ld 1 false (.t 13), none⟩,
   ⟨(some 15), .call 41 [(.t 14)], none⟩,
   ⟨(some 16), .fa 4 (.t 1), none⟩,
   ⟨(some 17), .ld 1 false (.t 16), none⟩,
   ⟨(some 18), .call 41 [(.t 17)], none⟩,
   ⟨(some 19), .fa 1 (.t 1), none⟩,
   ⟨none, .st 1 (.t 19) (.t 9), none⟩,
   ⟨(some 20), .fa 2 (.t 1), none⟩,
   ⟨none, .st 1 (.t 20) (.t 12), none⟩,
   ⟨(some 21), .fa 3 (.t 1), none⟩,
   ⟨none, .st 1 (.t 21) (.t 15), none⟩,
   ⟨(some 22), .fa 4 (.t 1), none⟩,
   ⟨none, .st 1 (.t 22) (.t 18), none⟩] [[], [], [], [], [2], [], [], [2, 5], [], [], [2, 5, 8], [], [], [], [], [], [], [], [], []] [false, false, false, false, false, false, false, false, false, false, false, false, false, true, true, true, true, true, true, true])
 (.seq (.reg [
   ⟨(some 23), .fa 5 (.t 1), none⟩,
   ⟨(some 24), .ld 1 false (.t 23), none⟩,
   ⟨(some 25), .call 42 [(.t 24), (.c (.p (.fn 43)))], none⟩,
   ⟨(some 26), .fa 5 (.t 1), none⟩,
   ⟨none, .st 1 (.t 26) (.t 25), none⟩])
 (.seq (.regd [
   ⟨(some 27), .fa 6 (.t 1), none⟩,
   ⟨(some 28), .ld 1 false (.t 27), none⟩,
   ⟨(some 29), .call 45 [(.t 28)], none⟩,
   ⟨(some 30), .fa 7 (.t 1), none⟩,
   ⟨(some 31), .ld 1 false (.t 30), none⟩,
   ⟨(some 32), .call 40 [(.t 31)], none⟩,
   ⟨(some 33), .fa 6 (.t 1), none⟩,
   ⟨none, .st 1 (.t 33) (.t 29), none⟩,
   ⟨(some 34), .fa 7 (.t 1), none⟩,
   ⟨none, .st 1 (.t 34) (.t 32), none⟩] [[], [], [], [], [2], [], [], [], [], []] [false, false, false, false, false, false, false, true, true, true])
 (.seq (.reg [
   ⟨(some 35), .fa 8 (.t 1), none⟩,
   ⟨(some 36), .ld 1 false (.t 35), none⟩,
   ⟨(some 37), .call 46 [(.t 36), (.c (.p (.fn 47)))], none⟩,
   ⟨(some 38), .fa 8 (.t 1), none⟩,
   ⟨none, .st 1 (.t 38) (.t 37), none⟩])
 (.seq (.reg [
   ⟨(some 39), .fa 9 (.t 1), none⟩,
   ⟨(some 40), .ld 1 false (.t 39), none⟩,
   ⟨(some 41), .call 48 [(.t 40), (.c (.p (.fn 49)))], none⟩,
   ⟨(some 42), .fa 9 (.t 1), none⟩,
   ⟨none, .st 1 (.t 42) (.t 41), none⟩])
 (.seq (.reg [
   ⟨(some 43), .fa 10 (.t 1), none⟩,
   ⟨(some 44), .ld 1 false (.t 43), none⟩,
   ⟨(some 45), .call 51 [(.t 44), (.c (.p (.fn 52)))], none⟩,
   ⟨(some 46), .fa 10 (.t 1), none⟩,
   ⟨none, .st 1 (.t 46) (.t 45), none⟩])
 (.seq (.reg [
   ⟨(some 47), .ld 11 true (.t 1), none⟩,
   ⟨none, .st 11 (.t 2) (.t 47), none⟩])
 (.ret)))))))))
def ann10 : List (List Nat) := []
theorem comp10 : comp Try.prog Try.f10.ntmps (Try.f10.body.getD .skip) ann10 = some (cc10, []) := by kernel_rfl
theorem body10 : Try.f10.body = some (Try.f10.body.getD .skip) := by kernel_rfl
theorem name10 : (Try.f10.name == "runtime.NumGoroutine") = false := by kernel_rfl
theorem res10 : resC Try.prog Try.f10.results.toList = some [.cell 2 11 true] := by kernel_rfl
theorem ar10 : Nat.ble 1 Try.f10.ntmps = true := by kernel_rfl
set_option maxHeartbeats 4000000 in
theorem spec10 (a0n b0 : Bool) (a0 r0 : List (List PV)) (N0 : Int) (a1n b1 : Bool) (a1 r1 : List (List PV)) (N1 : Int) (a2n b2 : Bool) (a2 r2 : List (List PV)) (N2 : Int) (a3n b3 : Bool) (a3 r3 : List (List PV)) (N3 : Int) (a4n b4 : Bool) (a4 r4 : List (List PV)) (N4 : Int) (a5n b5 : Bool) (a5 r5 : List (List PV)) (N5 : Int) (a6n b6 : Bool) (a6 r6 : List (List PV)) (N6 : Int) (a7n b7 : Bool) (a7 r7 : List (List PV)) (N7 : Int) (a8n b8 : Bool) (a8 r8 : List (List PV)) (N8 : Int) (a9n b9 : Bool) (a9 r9 : List (List PV)) (N9 : Int) (a10n b10 : Bool) (a10 r10 : List (List PV)) (N10 : Int) (ga0 : a0n = false → a0 = []) (ea0 : HasE TType a0) (hN0 : N0 = a0.length) (hb0 : b0 = a0n) (hr0 : r0 = twEs true a0) (ga1 : a1n = false → a1 = []) (ea1 : HasE TImport a1) (hN1 : N1 = a1.length) (hb1 : b1 = a1n) (hr1 : r1 = twEs true a1) (ga2 : a2n = false → a2 = []) (ea2 : HasE TI64 a2) (hN2 : N2 = a2.length) (hb2 : b2 = a2n) (hr2 : r2 = twEs true a2) (ga3 : a3n = false → a3 = []) (ea3 : HasE TLimits a3) (hN3 : N3 = a3.length) (hb3 : b3 = a3n) (hr3 : r3 = twEs true a3) (ga4 : a4n = false → a4 = []) (ea4 : HasE TLimits a4) (hN4 : N4 = a4.length) (hb4 : b4 = a4n) (hr4 : r4 = twEs true a4) (ga5 : a5n = false → a5 = []) (ea5 : HasE TGlobal a5) (hN5 : N5 = a5.length) (hb5 : b5 = a5n) (hr5 : r5 = twEs true a5) (ga6 : a6n = false → a6 = []) (ea6 : HasE TExport a6) (hN6 : N6 = a6.length) (hb6 : b6 = a6n) (hr6 : r6 = twEs true a6) (ga7 : a7n = false → a7 = []) (ea7 : HasE TI64 a7) (hN7 : N7 = a7.length) (hb7 : b7 = a7n) (hr7 : r7 = twEs true a7) (ga8 : a8n = false → a8 = []) (ea8 : HasE TElem a8) (hN8 : N8 = a8.length) (hb8 : b8 = a8n) (hr8 : r8 = twEs true a8) (ga9 : a9n = false → a9 = []) (ea9 : HasE TCode a9) (hN9 : N9 = a9.length) (hb9 : b9 = a9n) (hr9 : r9 = twEs true a9) (ga10 : a10n = false → a10 = []) (ea10 : HasE TData a10) (hN10 : N10 = a10.length) (hb10 : b10 = a10n) (hr10 : r10 = twEs true a10) : Runs Try.prog 10 [.agg (plainP [.isl a0n 2 a0, .isl a1n 9 a1, .isl a2n 1 a2, .isl a3n 3 a3, .isl a4n 3 a4, .isl a5n 3 a5, .isl a6n 3 a6, .isl a7n 1 a7, .isl a8n 3 a8, .isl a9n 2 a9, .isl a10n 3 a10])] [] (.ret (.agg [.sl a0n ⟨0, []⟩ 2 0 N0, .sl a1n ⟨1, []⟩ 9 0 N1, .sl a2n ⟨2, []⟩ 1 0 N2, .sl a3n ⟨3, []⟩ 3 0 N3, .sl a4n ⟨4, []⟩ 3 0 N4, .sl a5n ⟨5, []⟩ 3 0 N5, .sl a6n ⟨6, []⟩ 3 0 N6, .sl a7n ⟨7, []⟩ 1 0 N7, .sl a8n ⟨8, []⟩ 3 0 N8, .sl a9n ⟨9, []⟩ 2 0 N9, .sl a10n ⟨10, []⟩ 3 0 N10]) [.row a0n 2 r0, .row a1n 9 r1, .row a2n 1 r2, .row a3n 3 r3, .row a4n 3 r4, .row a5n 3 r5, .row a6n 3 r6, .row a7n 1 r7, .row a8n 3 r8, .row a9n 2 r9, .row a10n 3 r10]) := by
  refine runs_len fun _ => ?_
  refine runs_of_wp 3 Try.func10 body10 name10 comp10 res10 (Nat.le_of_ble_eq_true ar10) ?_
  generalize hI : stdI = LI
  generalize hB : stdB = LB
  generalize hE : stdE = LE
  have q0 := spec36 37 (fun nn E k x h1 h2 => spec37 nn E k x h1 h2) a0n a0 N0 hN0 ga0 ea0
  rw [← hr0] at q0
  have q1 := spec39 a1n a1 N1 hN1 ga1 ea1.1
  have f1 : r1 = a1 := by rw [hr1]; exact twEs_flat rfl ea1
  have q2 := spec40 a2n a2 N2 hN2 ga2 ea2.1
  have f2 : r2 = a2 := by rw [hr2]; exact twEs_flat rfl ea2
  have q3 := spec41 a3n a3 N3 hN3 ga3 ea3.1
  have f3 : r3 = a3 := by rw [hr3]; exact twEs_flat rfl ea3
  have q4 := spec41 a4n a4 N4 hN4 ga4 ea4.1
  have f4 : r4 = a4 := by rw [hr4]; exact twEs_flat rfl ea4
  have q5 := spec42 43 (fun nn E k x h1 h2 => spec43 nn E k x h1 h2) a5n a5 N5 hN5 ga5 ea5
  rw [← hr5] at q5
  have q6 := spec45 a6n a6 N6 hN6 ga6 ea6.1
  have f6 : r6 = a6 := by rw [hr6]; exact twEs_flat rfl ea6
  have q7 := spec40 a7n a7 N7 hN7 ga7 ea7.1
  have f7 : r7 = a7 := by rw [hr7]; exact twEs_flat rfl ea7
  have q8 := spec46 47 (fun nn E k x h1 h2 => spec47 nn E k x h1 h2) a8n a8 N8 hN8 ga8 ea8
  rw [← hr8] at q8
  have q9 := spec48 49 (fun nn E k x h1 h2 => spec49 nn E k x h1 h2) a9n a9 N9 hN9 ga9 ea9
  rw [← hr9] at q9
  have q10 := spec51 52 (fun nn E k x h1 h2 => spec52 nn E k x h1 h2) a10n a10 N10 hN10 ga10 ea10
  rw [← hr10] at q10
  generalize hR : Runs Try.prog = R at q0 q1 q2 q3 q4 q5 q6 q7 q8 q9 q10 ⊢
  clear hr1
  subst f1
  clear hr2
  subst f2
  clear hr3
  subst f3
  clear hr4
  subst f4
  clear hr6
  subst f6
  clear hr7
  subst f7
  cbv
  refine ⟨[], trivial, ?_⟩
  cbv
  refine ⟨[], rfl, _, q0, Or.inl rfl, ?_⟩
  cbv
  refine ⟨[], rfl, ?_⟩
  cbv
  refine ⟨[], rfl, _, q1, Or.inl rfl, ?_⟩
  cbv
  refine ⟨[], rfl, ?_⟩
  cbv
  refine ⟨[], rfl, _, q2, Or.inl rfl, ?_⟩
  cbv
  refine ⟨[], rfl, ?_⟩
  cbv
  refine ⟨[], rfl, _, q3, Or.inl rfl, ?_⟩
  cbv
  refine ⟨[], rfl, ?_⟩
  cbv
  refine ⟨[], rfl, _, q4, Or.inl rfl, ?_⟩
  cbv
  refine ⟨[], trivial, ?_⟩
  cbv
  refine ⟨[], rfl, _, q5, Or.inl rfl, ?_⟩
  cbv
  refine ⟨[], rfl, ?_⟩
  cbv
  refine ⟨[], rfl, _, q6, Or.inl rfl, ?_⟩
  cbv
  refine ⟨[], rfl, ?_⟩
  cbv
  refine ⟨[], rfl, _, q7, Or.inl rfl, ?_⟩
  cbv
  refine ⟨[], trivial, ?_⟩
  cbv
  refine ⟨[], rfl, _, q8, Or.inl rfl, ?_⟩
  cbv
  refine ⟨[], trivial, ?_⟩
  cbv
  refine ⟨[], rfl, _, q9, Or.inl rfl, ?_⟩
  cbv
  refine ⟨[], trivial, ?_⟩
  cbv
  refine ⟨[], rfl, _, q10, Or.inl rfl, ?_⟩
  cbv
  refine ⟨[.drop 0, .dead, .mov 1 13, .mov 2 0, .mov 3 1, .mov 4 2, .mov 5 3, .mov 6 4, .mov 7 5, .mov 8 6, .mov 9 7, .mov 10 8, .mov 11 9, .mov 12 10], 11, Nat.zero_le _, ?_⟩
  cbv
end Go.Ab
/- Copies that are lent. -/
set_option linter.unusedVariables false
set_option linter.unusedSimpArgs false
namespace Go.Ab
theorem frzC_map (l : List PV) : frzC l = l.map frzP := by induction l with | nil => rfl | cons a l ih => simp [frzC, ih]
theorem frzEs_map (l : List (List PV)) : frzEs l = l.map frzC := by induction l with | nil => rfl | cons a l ih => simp [frzEs, ih]
mutual
theorem nrm_frz : ∀ c : PV, nrm (frzP c) = nrm c
  | .own n z els => by simp only [frzP, nrm, nrm_frzEs els]
  | .int _ _ | .bool _ | .str _ | .isl _ _ _ | .nilp | .nilf | .nili | .nilm | .fn _ | .ifs _ _ | .ifa _ _ | .any => rfl
theorem nrm_frzC : ∀ l : List PV, nrmC (frzC l) = nrmC l
  | [] => rfl
  | c :: l => by simp only [frzC, nrmC, nrm_frz c, nrm_frzC l]
theorem nrm_frzEs : ∀ l : List (List PV), nrmEs (frzEs l) = nrmEs l
  | [] => rfl
  | e :: l => by simp only [frzEs, nrmEs, nrm_frzC e, nrm_frzEs l]
end
mutual
theorem has_frz (r : Bool) : ∀ (t : Ty) (c : PV), Has t c → Has t (frzP (tw r c))
  | .int _, c, h => by
    obtain ⟨n, rfl, h⟩ := h
    exact ⟨n, rfl, h⟩
  | .bool, c, h => by
    obtain ⟨b, rfl⟩ := h
    exact ⟨b, rfl⟩
  | .str, c, h => by
    obtain ⟨s, rfl⟩ := h
    exact ⟨s, rfl⟩
  | .sl es, c, h => by
    obtain ⟨nn, els, rfl, h1, h2, h3⟩ := h
    refine ⟨_, _, rfl, ?_, by rw [frzEs_map, List.length_map, twEs_len]; exact h2, fun e he => ?_⟩
    · intro h
      cases r with
      | true => rw [h1 h]; rfl
      | false =>
        cases els with
        | nil => rfl
        | cons a l => simp at h
    · rw [frzEs_map, twEs_map, List.map_map] at he
      obtain ⟨e', he', rfl⟩ := List.mem_map.1 he
      exact has_frzC r es e' (h3 e' he')
theorem has_frzC (r : Bool) : ∀ (ts : List Ty) (cs : List PV), HasL ts cs → HasL ts (frzC (twC r cs))
  | [], cs, h => by
    rw [show cs = [] from h]
    rfl
  | t :: ts, cs, h => by
    obtain ⟨c, l, rfl, h1, h2⟩ := h
    exact ⟨_, _, rfl, has_frz r t c h1, has_frzC r ts l h2⟩
end
theorem fsub_all (els : List (List PV)) (N : Int) (hN : N = els.length) : stdE (.fsub els 0 N) = frzEs els := by
  show frzEs ((els.drop (0 : Int).toNat).take N.toNat) = frzEs els
  rw [hN]
  simp
theorem has_lent {r : Bool} {ts : List Ty} {a b : List (List PV)} {N : Int} (hb : b = twEs r a) (hN : N = a.length) (h : HasE ts a) : HasE ts (stdE (.fsub b 0 N)) := by
  rw [fsub_all _ _ (by rw [hb, twEs_len]; exact hN), hb]
  refine ⟨by rw [frzEs_map, List.length_map, twEs_len]; exact h.1, fun e he => ?_⟩
  rw [frzEs_map, twEs_map, List.map_map] at he
  obtain ⟨e', he', rfl⟩ := List.mem_map.1 he
  exact has_frzC r ts e' (h.2 e' he')
theorem same_lent {r : Bool} {a b : List (List PV)} {N : Int} (hb : b = twEs r a) (hN : N = a.length) : nrmEs (stdE (.fsub b 0 N)) = nrmEs a := by
  rw [fsub_all _ _ (by rw [hb, twEs_len]; exact hN), hb, nrm_frzEs, nrm_twEs]
theorem nil_lent {r f : Bool} {a b : List (List PV)} {n : Bool} {N : Int} (hb : b = twEs r a) (hN : N = a.length) (hn : n = false → a = []) : n = false → stdE (.fsub b 0 N) = [] := by
  intro h
  have := hn h
  subst this
  rw [fsub_all _ _ (by rw [hb, twEs_len]; exact hN), hb]
  rfl
theorem nil_flag {a : List (List PV)} {b : Bool} (h : b = !a.isEmpty) : b = false → a = [] := by
  intro hb
  rw [hb] at h
  cases a with
  | nil => rfl
  | cons _ _ => simp at h
theorem Rcast {R : Nat → List TV → List Ob → Out → Prop} {f : Nat} {vs vs' : List TV} {h h' : List Ob} {out : Out} (q : R f vs' h' out) (e1 : vs = vs') (e2 : h = h') : R f vs h out := by rw [e1, e2]; exact q
theorem closedB (b : Bool) : (Out.ret (.p (.bool b)) []).closed := ⟨trivial, fun _ h => nomatch h⟩
theorem sameE_of {a b : List (List PV)} (h : nrmEs a = nrmEs b) : sameE a b = true := (sameE_iff _ _).2 h
theorem own_u8 {e : List PV} (h : OwnsL TU8 e) : ∃ a0, e = [.int .u8 a0] := by
  obtain ⟨_, _, rfl, ⟨a0, rfl⟩, rfl⟩ := h
  exact ⟨a0, rfl⟩
theorem own_i64 {e : List PV} (h : OwnsL TI64 e) : ∃ a0, e = [.int .i64 a0] := by
  obtain ⟨_, _, rfl, ⟨a0, rfl⟩, rfl⟩ := h
  exact ⟨a0, rfl⟩
theorem own_ins {e : List PV} (h : OwnsL TIns e) : ∃ a0 a1 a2 a3n a3, e = [.int .u8 a0, .int .i64 a1, .int .i64 a2, .own a3n 1 a3] ∧ OwnsE TI64 a3 := by
  obtain ⟨_, _, rfl, ⟨a0, rfl⟩, ⟨_, _, rfl, ⟨a1, rfl⟩, ⟨_, _, rfl, ⟨a2, rfl⟩, ⟨_, _, rfl, ⟨a3n, a3, rfl, g3, f3⟩, rfl⟩⟩⟩⟩ := h
  exact ⟨a0, a1, a2, a3n, a3, rfl, ⟨g3, f3⟩⟩
theorem own_type {e : List PV} (h : OwnsL TType e) : ∃ a0n a0 a1n a1, e = [.own a0n 1 a0, .own a1n 1 a1] ∧ OwnsE TU8 a0 ∧ OwnsE TU8 a1 := by
  obtain ⟨_, _, rfl, ⟨a0n, a0, rfl, g0, f0⟩, ⟨_, _, rfl, ⟨a1n, a1, rfl, g1, f1⟩, rfl⟩⟩ := h
  exact ⟨a0n, a0, a1n, a1, rfl, ⟨g0, f0⟩, ⟨g1, f1⟩⟩
theorem own_limits {e : List PV} (h : OwnsL TLimits e) : ∃ a0 a1 a2, e = [.int .i64 a0, .int .i64 a1, .bool a2] := by
  obtain ⟨_, _, rfl, ⟨a0, rfl⟩, ⟨_, _, rfl, ⟨a1, rfl⟩, ⟨_, _, rfl, ⟨a2, rfl⟩, rfl⟩⟩⟩ := h
  exact ⟨a0, a1, a2, rfl⟩
theorem own_import {e : List PV} (h : OwnsL TImport e) : ∃ a0 a1 a2 a3 a4 a5 a6 a7 a8, e = [.str a0, .str a1, .int .u8 a2, .int .i64 a3, .int .i64 a4, .int .i64 a5, .bool a6, .int .u8 a7, .bool a8] := by
  obtain ⟨_, _, rfl, ⟨a0, rfl⟩, ⟨_, _, rfl, ⟨a1, rfl⟩, ⟨_, _, rfl, ⟨a2, rfl⟩, ⟨_, _, rfl, ⟨a3, rfl⟩, ⟨_, _, rfl, ⟨a4, rfl⟩, ⟨_, _, rfl, ⟨a5, rfl⟩, ⟨_, _, rfl, ⟨a6, rfl⟩, ⟨_, _, rfl, ⟨a7, rfl⟩, ⟨_, _, rfl, ⟨a8, rfl⟩, rfl⟩⟩⟩⟩⟩⟩⟩⟩⟩ := h
  exact ⟨a0, a1, a2, a3, a4, a5, a6, a7, a8, rfl⟩
theorem own_global {e : List PV} (h : OwnsL TGlobal e) : ∃ a0 a1 a2n a2, e = [.int .u8 a0, .bool a1, .own a2n 4 a2] ∧ OwnsE TIns a2 := by
  obtain ⟨_, _, rfl, ⟨a0, rfl⟩, ⟨_, _, rfl, ⟨a1, rfl⟩, ⟨_, _, rfl, ⟨a2n, a2, rfl, g2, f2⟩, rfl⟩⟩⟩ := h
  exact ⟨a0, a1, a2n, a2, rfl, ⟨g2, f2⟩⟩
theorem own_export {e : List PV} (h : OwnsL TExport e) : ∃ a0 a1 a2, e = [.str a0, .int .u8 a1, .int .i64 a2] := by
  obtain ⟨_, _, rfl, ⟨a0, rfl⟩, ⟨_, _, rfl, ⟨a1, rfl⟩, ⟨_, _, rfl, ⟨a2, rfl⟩, rfl⟩⟩⟩ := h
  exact ⟨a0, a1, a2, rfl⟩
theorem own_elem {e : List PV} (h : OwnsL TElem e) : ∃ a0 a1n a1 a2n a2, e = [.int .i64 a0, .own a1n 4 a1, .own a2n 1 a2] ∧ OwnsE TIns a1 ∧ OwnsE TI64 a2 := by
  obtain ⟨_, _, rfl, ⟨a0, rfl⟩, ⟨_, _, rfl, ⟨a1n, a1, rfl, g1, f1⟩, ⟨_, _, rfl, ⟨a2n, a2, rfl, g2, f2⟩, rfl⟩⟩⟩ := h
  exact ⟨a0, a1n, a1, a2n, a2, rfl, ⟨g1, f1⟩, ⟨g2, f2⟩⟩
theorem own_data {e : List PV} (h : OwnsL TData e) : ∃ a0 a1n a1 a2n a2, e = [.int .i64 a0, .own a1n 4 a1, .own a2n 1 a2] ∧ OwnsE TIns a1 ∧ OwnsE TU8 a2 := by
  obtain ⟨_, _, rfl, ⟨a0, rfl⟩, ⟨_, _, rfl, ⟨a1n, a1, rfl, g1, f1⟩, ⟨_, _, rfl, ⟨a2n, a2, rfl, g2, f2⟩, rfl⟩⟩⟩ := h
  exact ⟨a0, a1n, a1, a2n, a2, rfl, ⟨g1, f1⟩, ⟨g2, f2⟩⟩
theorem own_locals {e : List PV} (h : OwnsL TLocals e) : ∃ a0 a1, e = [.int .i64 a0, .int .u8 a1] := by
  obtain ⟨_, _, rfl, ⟨a0, rfl⟩, ⟨_, _, rfl, ⟨a1, rfl⟩, rfl⟩⟩ := h
  exact ⟨a0, a1, rfl⟩
theorem own_code {e : List PV} (h : OwnsL TCode e) : ∃ a0n a0 a1n a1, e = [.own a0n 2 a0, .own a1n 4 a1] ∧ OwnsE TLocals a0 ∧ OwnsE TIns a1 := by
  obtain ⟨_, _, rfl, ⟨a0n, a0, rfl, g0, f0⟩, ⟨_, _, rfl, ⟨a1n, a1, rfl, g1, f1⟩, rfl⟩⟩ := h
  exact ⟨a0n, a0, a1n, a1, rfl, ⟨g0, f0⟩, ⟨g1, f1⟩⟩
theorem own_module {e : List PV} (h : OwnsL TModule e) : ∃ a0n a0 a1n a1 a2n a2 a3n a3 a4n a4 a5n a5 a6n a6 a7n a7 a8n a8 a9n a9 a10n a10, e = [.own a0n 2 a0, .own a1n 9 a1, .own a2n 1 a2, .own a3n 3 a3, .own a4n 3 a4, .own a5n 3 a5, .own a6n 3 a6, .own a7n 1 a7, .own a8n 3 a8, .own a9n 2 a9, .own a10n 3 a10] ∧ OwnsE TType a0 ∧ OwnsE TImport a1 ∧ OwnsE TI64 a2 ∧ OwnsE TLimits a3 ∧ OwnsE TLimits a4 ∧ OwnsE TGlobal a5 ∧ OwnsE TExport a6 ∧ OwnsE TI64 a7 ∧ OwnsE TElem a8 ∧ OwnsE TCode a9 ∧ OwnsE TData a10 := by
  obtain ⟨_, _, rfl, ⟨a0n, a0, rfl, g0, f0⟩, ⟨_, _, rfl, ⟨a1n, a1, rfl, g1, f1⟩, ⟨_, _, rfl, ⟨a2n, a2, rfl, g2, f2⟩, ⟨_, _, rfl, ⟨a3n, a3, rfl, g3, f3⟩, ⟨_, _, rfl, ⟨a4n, a4, rfl, g4, f4⟩, ⟨_, _, rfl, ⟨a5n, a5, rfl, g5, f5⟩, ⟨_, _, rfl, ⟨a6n, a6, rfl, g6, f6⟩, ⟨_, _, rfl, ⟨a7n, a7, rfl, g7, f7⟩, ⟨_, _, rfl, ⟨a8n, a8, rfl, g8, f8⟩, ⟨_, _, rfl, ⟨a9n, a9, rfl, g9, f9⟩, ⟨_, _, rfl, ⟨a10n, a10, rfl, g10, f10⟩, rfl⟩⟩⟩⟩⟩⟩⟩⟩⟩⟩⟩ := h
  exact ⟨a0n, a0, a1n, a1, a2n, a2, a3n, a3, a4n, a4, a5n, a5, a6n, a6, a7n, a7, a8n, a8, a9n, a9, a10n, a10, rfl, ⟨g0, f0⟩, ⟨g1, f1⟩, ⟨g2, f2⟩, ⟨g3, f3⟩, ⟨g4, f4⟩, ⟨g5, f5⟩, ⟨g6, f6⟩, ⟨g7, f7⟩, ⟨g8, f8⟩, ⟨g9, f9⟩, ⟨g10, f10⟩⟩
end Go.Ab
