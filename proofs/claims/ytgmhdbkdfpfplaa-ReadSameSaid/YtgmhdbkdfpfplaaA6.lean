/- bytebarnlaw07.ReadSame. -/
import Derived.Test.YtgmhdbkdfpfplaaA4
import Derived.Test.YtgmhdbkdfpfplaaA5
import Derived.Test.YtgmhdbkdfpfplaaA3
import Derived.Test.YtgmhdbkdfpfplaaRows
import Derived.ProofKit
import Derived.JoinedOf
import Derived.Handed
set_option linter.unusedVariables false
set_option linter.unusedSimpArgs false
namespace Go.Ab
open Go.Proofs
/- bytebarn/bytebarnlaw07.ReadSame -/
def cc3 : CC :=
 .seq (.reg [
   ⟨(some 2), .box (.t 0), none⟩,
   ⟨(some 3), .box (.t 1), none⟩,
   ⟨(some 4), .mv (.c (.p (.bool false))), none⟩])
 (.seq (.seq (.reg [
   ⟨(some 18), .ld 11 true (.t 2), none⟩,
   ⟨(some 19), .call 9 [(.t 18)], none⟩,
   ⟨(some 20), .mv (.t 19), none⟩,
   ⟨(some 21), .ld 11 true (.t 3), (some (20, false))⟩,
   ⟨(some 22), .call 9 [(.t 21)], (some (20, false))⟩,
   ⟨(some 23), .pick (.t 20) (.c (.p (.bool true))) (.t 22), none⟩])
 (.cond (.t 23)
  (.seq (.reg [
    ⟨(some 4), .mv (.c (.p (.bool true))), none⟩])
  (.ret))
  (.skip)))
 (.seq (.reg [
   ⟨(some 24), .ld 11 true (.t 2), none⟩,
   ⟨(some 25), .call 10 [(.t 24)], none⟩,
   ⟨(some 5), .alloc [(.isl false 0 []), (.isl false 0 []), (.isl false 0 []), (.isl false 0 []), (.isl false 0 []), (.isl false 0 []), (.isl false 0 []), (.isl false 0 []), (.isl false 0 []), (.isl false 0 []), (.isl false 0 [])], none⟩,
   ⟨none, .st 11 (.t 5) (.t 25), none⟩])
 (.seq (.regd [
   ⟨(some 26), .ld 11 true (.t 2), none⟩,
   ⟨(some 27), .ld 11 true (.t 3), none⟩,
   ⟨(some 28), .call 11 [(.t 26), (.t 27)], none⟩,
   ⟨(some 29), .ld 11 true (.t 2), none⟩,
   ⟨(some 30), .ld 11 true (.t 3), none⟩,
   ⟨(some 31), .call 12 [(.t 29), (.t 30)], none⟩,
   ⟨(some 32), .beq false (.t 28) (.t 31), none⟩,
   ⟨(some 33), .mv (.t 32), none⟩,
   ⟨(some 34), .ld 11 true (.t 5), (some (33, true))⟩,
   ⟨(some 35), .ld 11 true (.t 2), (some (33, true))⟩,
   ⟨(some 36), .call 12 [(.t 34), (.t 35)], (some (33, true))⟩,
   ⟨(some 37), .pick (.t 33) (.t 36) (.c (.p (.bool false))), none⟩,
   ⟨(some 6), .mv (.t 37), none⟩] [[], [], [], [2], [2], [], [], [], [], [], [], [], []] [false, false, false, false, false, true, true, true, false, true, true, true, true])
 (.seq (.reg [
   ⟨(some 38), .ld 11 true (.t 2), none⟩,
   ⟨(some 39), .call 13 [(.t 38)], none⟩,
   ⟨(some 7), .alloc [(.isl false 0 []), (.isl false 0 []), (.isl false 0 []), (.isl false 0 []), (.isl false 0 []), (.isl false 0 []), (.isl false 0 []), (.isl false 0 []), (.isl false 0 []), (.isl false 0 []), (.isl false 0 [])], none⟩,
   ⟨none, .st 11 (.t 7) (.t 39), none⟩])
 (.seq (.seq (.reg [
   ⟨(some 8), .mv (.c (.p (.int .i64 0))), none⟩])
 (.block 0 (.loop [2, 5, 6, 7, 8]
   (.seq (.seq (.reg [
     ⟨(some 40), .mv (.t 8), none⟩,
     ⟨(some 41), .fa 0 (.t 5), none⟩,
     ⟨(some 42), .ld 1 false (.t 41), none⟩,
     ⟨(some 43), .len false (.t 42), none⟩,
     ⟨(some 44), .cmp .lss (.t 40) (.t 43), none⟩])
   (.cond (.t 44)
    (.skip)
    (.exit 0)))
   (.seq (.block 1 (.seq (.reg [
      ⟨(some 9), .mv (.c (.p (.int .i64 0))), none⟩])
    (.block 2 (.loop [2, 5, 6, 7, 8, 9]
      (.seq (.seq (.reg [
        ⟨(some 47), .mv (.t 9), none⟩,
        ⟨(some 48), .fa 0 (.t 5), none⟩,
        ⟨(some 49), .ld 1 false (.t 48), none⟩,
        ⟨(some 50), .mv (.t 8), none⟩,
        ⟨(some 51), .ia 2 (.t 49) (.t 50), none⟩,
        ⟨(some 52), .fa 0 (.t 51), none⟩,
        ⟨(some 53), .ld 1 false (.t 52), none⟩,
        ⟨(some 54), .len false (.t 53), none⟩,
        ⟨(some 55), .cmp .lss (.t 47) (.t 54), none⟩])
      (.cond (.t 55)
       (.skip)
       (.exit 2)))
      (.seq (.block 3 (.reg [
         ⟨(some 58), .fa 0 (.t 5), none⟩,
         ⟨(some 59), .ld 1 false (.t 58), none⟩,
         ⟨(some 60), .mv (.t 8), none⟩,
         ⟨(some 61), .ia 2 (.t 59) (.t 60), none⟩,
         ⟨(some 62), .fa 0 (.t 61), none⟩,
         ⟨(some 63), .ld 1 false (.t 62), none⟩,
         ⟨(some 64), .mv (.t 9), none⟩,
         ⟨(some 65), .ia 1 (.t 63) (.t 64), none⟩,
         ⟨(some 66), .ld 1 false (.t 65), none⟩,
         ⟨(some 67), .ari .add .u8 (.t 66) (.c (.p (.int .u8 1))), none⟩,
         ⟨(some 68), .ia 1 (.t 63) (.t 64), none⟩,
         ⟨none, .st 1 (.t 68) (.t 67), none⟩]))
      (.reg [
        ⟨(some 56), .mv (.t 9), none⟩,
        ⟨(some 57), .ari .add .i64 (.t 56) (.c (.p (.int .i64 1))), none⟩,
        ⟨(some 9), .mv (.t 57), none⟩])))))))
   (.reg [
     ⟨(some 45), .mv (.t 8), none⟩,
     ⟨(some 46), .ari .add .i64 (.t 45) (.c (.p (.int .i64 1))), none⟩,
     ⟨(some 8), .mv (.t 46), none⟩]))))))
 (.seq (.seq (.reg [
   ⟨(some 10), .mv (.c (.p (.int .i64 0))), none⟩])
 (.block 4 (.loop [2, 5, 6, 7, 10]
   (.seq (.seq (.reg [
     ⟨(some 69), .mv (.t 10), none⟩,
     ⟨(some 70), .fa 9 (.t 5), none⟩,
     ⟨(some 71), .ld 1 false (.t 70), none⟩,
     ⟨(some 72), .len false (.t 71), none⟩,
     ⟨(some 73), .cmp .lss (.t 69) (.t 72), none⟩])
   (.cond (.t 73)
    (.skip)
    (.exit 4)))
   (.seq (.block 5 (.seq (.seq (.reg [
      ⟨(some 11), .mv (.c (.p (.int .i64 0))), none⟩])
    (.block 6 (.loop [2, 5, 6, 7, 10, 11]
      (.seq (.seq (.reg [
        ⟨(some 76), .mv (.t 11), none⟩,
        ⟨(some 77), .fa 9 (.t 5), none⟩,
        ⟨(some 78), .ld 1 false (.t 77), none⟩,
        ⟨(some 79), .mv (.t 10), none⟩,
        ⟨(some 80), .ia 2 (.t 78) (.t 79), none⟩,
        ⟨(some 81), .fa 1 (.t 80), none⟩,
        ⟨(some 82), .ld 1 false (.t 81), none⟩,
        ⟨(some 83), .len false (.t 82), none⟩,
        ⟨(some 84), .cmp .lss (.t 76) (.t 83), none⟩])
      (.cond (.t 84)
       (.skip)
       (.exit 6)))
      (.seq (.block 7 (.reg [
         ⟨(some 87), .fa 9 (.t 5), none⟩,
         ⟨(some 88), .ld 1 false (.t 87), none⟩,
         ⟨(some 89), .mv (.t 10), none⟩,
         ⟨(some 90), .ia 2 (.t 88) (.t 89), none⟩,
         ⟨(some 91), .fa 1 (.t 90), none⟩,
         ⟨(some 92), .ld 1 false (.t 91), none⟩,
         ⟨(some 93), .mv (.t 11), none⟩,
         ⟨(some 94), .ia 4 (.t 92) (.t 93), none⟩,
         ⟨(some 95), .fa 1 (.t 94), none⟩,
         ⟨(some 96), .ld 1 false (.t 95), none⟩,
         ⟨(some 97), .ari .add .i64 (.t 96) (.c (.p (.int .i64 1))), none⟩,
         ⟨(some 98), .ia 4 (.t 92) (.t 93), none⟩,
         ⟨(some 99), .fa 1 (.t 98), none⟩,
         ⟨none, .st 1 (.t 99) (.t 97), none⟩]))
      (.reg [
        ⟨(some 85), .mv (.t 11), none⟩,
        ⟨(some 86), .ari .add .i64 (.t 85) (.c (.p (.int .i64 1))), none⟩,
        ⟨(some 11), .mv (.t 86), none⟩]))))))
    (.seq (.reg [
      ⟨(some 12), .mv (.c (.p (.int .i64 0))), none⟩])
    (.block 8 (.loop [2, 5, 6, 7, 10, 12]
      (.seq (.seq (.reg [
        ⟨(some 100), .mv (.t 12), none⟩,
        ⟨(some 101), .fa 9 (.t 5), none⟩,
        ⟨(some 102), .ld 1 false (.t 101), none⟩,
        ⟨(some 103), .mv (.t 10), none⟩,
        ⟨(some 104), .ia 2 (.t 102) (.t 103), none⟩,
        ⟨(some 105), .fa 0 (.t 104), none⟩,
        ⟨(some 106), .ld 1 false (.t 105), none⟩,
        ⟨(some 107), .len false (.t 106), none⟩,
        ⟨(some 108), .cmp .lss (.t 100) (.t 107), none⟩])
      (.cond (.t 108)
       (.skip)
       (.exit 8)))
      (.seq (.block 9 (.reg [
         ⟨(some 111), .fa 9 (.t 5), none⟩,
         ⟨(some 112), .ld 1 false (.t 111), none⟩,
         ⟨(some 113), .mv (.t 10), none⟩,
         ⟨(some 114), .ia 2 (.t 112) (.t 113), none⟩,
         ⟨(some 115), .fa 0 (.t 114), none⟩,
         ⟨(some 116), .ld 1 false (.t 115), none⟩,
         ⟨(some 117), .mv (.t 12), none⟩,
         ⟨(some 118), .ia 2 (.t 116) (.t 117), none⟩,
         ⟨(some 119), .fa 0 (.t 118), none⟩,
         ⟨(some 120), .ld 1 false (.t 119), none⟩,
         ⟨(some 121), .ari .add .i64 (.t 120) (.c (.p (.int .i64 1))), none⟩,
         ⟨(some 122), .ia 2 (.t 116) (.t 117), none⟩,
         ⟨(some 123), .fa 0 (.t 122), none⟩,
         ⟨none, .st 1 (.t 123) (.t 121), none⟩]))
      (.reg [
        ⟨(some 109), .mv (.t 12), none⟩,
        ⟨(some 110), .ari .add .i64 (.t 109) (.c (.p (.int .i64 1))), none⟩,
        ⟨(some 12), .mv (.t 110), none⟩]))))))))
   (.reg [
     ⟨(some 74), .mv (.t 10), none⟩,
     ⟨(some 75), .ari .add .i64 (.t 74) (.c (.p (.int .i64 1))), none⟩,
     ⟨(some 10), .mv (.t 75), none⟩]))))))
 (.seq (.seq (.reg [
   ⟨(some 13), .mv (.c (.p (.int .i64 0))), none⟩])
 (.block 10 (.loop [2, 5, 6, 7, 13]
   (.seq (.seq (.reg [
     ⟨(some 124), .mv (.t 13), none⟩,
     ⟨(some 125), .fa 10 (.t 5), none⟩,
     ⟨(some 126), .ld 1 false (.t 125), none⟩,
     ⟨(some 127), .len false (.t 126), none⟩,
     ⟨(some 128), .cmp .lss (.t 124) (.t 127), none⟩])
   (.cond (.t 128)
    (.skip)
    (.exit 10)))
   (.seq (.block 11 (.seq (.reg [
      ⟨(some 14), .mv (.c (.p (.int .i64 0))), none⟩])
    (.block 12 (.loop [2, 5, 6, 7, 13, 14]
      (.seq (.seq (.reg [
        ⟨(some 131), .mv (.t 14), none⟩,
        ⟨(some 132), .fa 10 (.t 5), none⟩,
        ⟨(some 133), .ld 1 false (.t 132), none⟩,
        ⟨(some 134), .mv (.t 13), none⟩,
        ⟨(some 135), .ia 3 (.t 133) (.t 134), none⟩,
        ⟨(some 136), .fa 2 (.t 135), none⟩,
        ⟨(some 137), .ld 1 false (.t 136), none⟩,
        ⟨(some 138), .len false (.t 137), none⟩,
        ⟨(some 139), .cmp .lss (.t 131) (.t 138), none⟩])
      (.cond (.t 139)
       (.skip)
       (.exit 12)))
      (.seq (.block 13 (.reg [
         ⟨(some 142), .fa 10 (.t 5), none⟩,
         ⟨(some 143), .ld 1 false (.t 142), none⟩,
         ⟨(some 144), .mv (.t 13), none⟩,
         ⟨(some 145), .ia 3 (.t 143) (.t 144), none⟩,
         ⟨(some 146), .fa 2 (.t 145), none⟩,
         ⟨(some 147), .ld 1 false (.t 146), none⟩,
         ⟨(some 148), .mv (.t 14), none⟩,
         ⟨(some 149), .ia 1 (.t 147) (.t 148), none⟩,
         ⟨(some 150), .ld 1 false (.t 149), none⟩,
         ⟨(some 151), .ari .add .u8 (.t 150) (.c (.p (.int .u8 1))), none⟩,
         ⟨(some 152), .ia 1 (.t 147) (.t 148), none⟩,
         ⟨none, .st 1 (.t 152) (.t 151), none⟩]))
      (.reg [
        ⟨(some 140), .mv (.t 14), none⟩,
        ⟨(some 141), .ari .add .i64 (.t 140) (.c (.p (.int .i64 1))), none⟩,
        ⟨(some 14), .mv (.t 141), none⟩])))))))
   (.reg [
     ⟨(some 129), .mv (.t 13), none⟩,
     ⟨(some 130), .ari .add .i64 (.t 129) (.c (.p (.int .i64 1))), none⟩,
     ⟨(some 13), .mv (.t 130), none⟩]))))))
 (.seq (.seq (.reg [
   ⟨(some 15), .mv (.c (.p (.int .i64 0))), none⟩])
 (.block 14 (.loop [2, 5, 6, 7, 15]
   (.seq (.seq (.reg [
     ⟨(some 153), .mv (.t 15), none⟩,
     ⟨(some 154), .fa 8 (.t 5), none⟩,
     ⟨(some 155), .ld 1 false (.t 154), none⟩,
     ⟨(some 156), .len false (.t 155), none⟩,
     ⟨(some 157), .cmp .lss (.t 153) (.t 156), none⟩])
   (.cond (.t 157)
    (.skip)
    (.exit 14)))
   (.seq (.block 15 (.seq (.reg [
      ⟨(some 16), .mv (.c (.p (.int .i64 0))), none⟩])
    (.block 16 (.loop [2, 5, 6, 7, 15, 16]
      (.seq (.seq (.reg [
        ⟨(some 160), .mv (.t 16), none⟩,
        ⟨(some 161), .fa 8 (.t 5), none⟩,
        ⟨(some 162), .ld 1 false (.t 161), none⟩,
        ⟨(some 163), .mv (.t 15), none⟩,
        ⟨(some 164), .ia 3 (.t 162) (.t 163), none⟩,
        ⟨(some 165), .fa 2 (.t 164), none⟩,
        ⟨(some 166), .ld 1 false (.t 165), none⟩,
        ⟨(some 167), .len false (.t 166), none⟩,
        ⟨(some 168), .cmp .lss (.t 160) (.t 167), none⟩])
      (.cond (.t 168)
       (.skip)
       (.exit 16)))
      (.seq (.block 17 (.reg [
         ⟨(some 171), .fa 8 (.t 5), none⟩,
         ⟨(some 172), .ld 1 false (.t 171), none⟩,
         ⟨(some 173), .mv (.t 15), none⟩,
         ⟨(some 174), .ia 3 (.t 172) (.t 173), none⟩,
         ⟨(some 175), .fa 2 (.t 174), none⟩,
         ⟨(some 176), .ld 1 false (.t 175), none⟩,
         ⟨(some 177), .mv (.t 16), none⟩,
         ⟨(some 178), .ia 1 (.t 176) (.t 177), none⟩,
         ⟨(some 179), .ld 1 false (.t 178), none⟩,
         ⟨(some 180), .ari .add .i64 (.t 179) (.c (.p (.int .i64 1))), none⟩,
         ⟨(some 181), .ia 1 (.t 176) (.t 177), none⟩,
         ⟨none, .st 1 (.t 181) (.t 180), none⟩]))
      (.reg [
        ⟨(some 169), .mv (.t 16), none⟩,
        ⟨(some 170), .ari .add .i64 (.t 169) (.c (.p (.int .i64 1))), none⟩,
        ⟨(some 16), .mv (.t 170), none⟩])))))))
   (.reg [
     ⟨(some 158), .mv (.t 15), none⟩,
     ⟨(some 159), .ari .add .i64 (.t 158) (.c (.p (.int .i64 1))), none⟩,
     ⟨(some 15), .mv (.t 159), none⟩]))))))
 (.seq (.seq (.reg [
   ⟨(some 17), .mv (.c (.p (.int .i64 0))), none⟩])
 (.block 18 (.loop [2, 5, 6, 7, 17]
   (.seq (.seq (.reg [
     ⟨(some 182), .mv (.t 17), none⟩,
     ⟨(some 183), .fa 1 (.t 5), none⟩,
     ⟨(some 184), .ld 1 false (.t 183), none⟩,
     ⟨(some 185), .len false (.t 184), none⟩,
     ⟨(some 186), .cmp .lss (.t 182) (.t 185), none⟩])
   (.cond (.t 186)
    (.skip)
    (.exit 18)))
   (.seq (.block 19 (.reg [
      ⟨(some 189), .fa 1 (.t 5), none⟩,
      ⟨(some 190), .ld 1 false (.t 189), none⟩,
      ⟨(some 191), .mv (.t 17), none⟩,
      ⟨(some 192), .ia 9 (.t 190) (.t 191), none⟩,
      ⟨(some 193), .fa 2 (.t 192), none⟩,
      ⟨(some 194), .ld 1 false (.t 193), none⟩,
      ⟨(some 195), .ari .add .u8 (.t 194) (.c (.p (.int .u8 1))), none⟩,
      ⟨(some 196), .ia 9 (.t 190) (.t 191), none⟩,
      ⟨(some 197), .fa 2 (.t 196), none⟩,
      ⟨none, .st 1 (.t 197) (.t 195), none⟩]))
   (.reg [
     ⟨(some 187), .mv (.t 17), none⟩,
     ⟨(some 188), .ari .add .i64 (.t 187) (.c (.p (.int .i64 1))), none⟩,
     ⟨(some 17), .mv (.t 188), none⟩]))))))
 (.seq (.reg [
   ⟨(some 198), .mv (.t 6), none⟩,
   ⟨(some 199), .mv (.t 198), none⟩,
   ⟨(some 200), .ld 11 true (.t 2), (some (199, true))⟩,
   ⟨(some 201), .ld 11 true (.t 7), (some (199, true))⟩,
   ⟨(some 202), .call 12 [(.t 200), (.t 201)], (some (199, true))⟩,
   ⟨(some 203), .pick (.t 199) (.t 202) (.c (.p (.bool false))), none⟩,
   ⟨(some 4), .mv (.t 203), none⟩])
 (.ret)))))))))))
def ann3 : List (List Nat) := [[2, 5, 6, 7, 8], [2, 5, 6, 7, 8, 9], [2, 5, 6, 7, 10], [2, 5, 6, 7, 10, 11], [2, 5, 6, 7, 10, 12], [2, 5, 6, 7, 13], [2, 5, 6, 7, 13, 14], [2, 5, 6, 7, 15], [2, 5, 6, 7, 15, 16], [2, 5, 6, 7, 17]]
theorem comp3 : comp Try.prog Try.f3.ntmps (Try.f3.body.getD .skip) ann3 = some (cc3, []) := by kernel_rfl
theorem body3 : Try.f3.body = some (Try.f3.body.getD .skip) := by kernel_rfl
theorem name3 : (Try.f3.name == "runtime.NumGoroutine") = false := by kernel_rfl
theorem res3 : resC Try.prog Try.f3.results.toList = some [.t 4] := by kernel_rfl
theorem ar3 : Nat.ble 2 Try.f3.ntmps = true := by kernel_rfl
theorem mod_parts {a0n : Bool} {a0 : List (List PV)} {a1n : Bool} {a1 : List (List PV)} {a2n : Bool} {a2 : List (List PV)} {a3n : Bool} {a3 : List (List PV)} {a4n : Bool} {a4 : List (List PV)} {a5n : Bool} {a5 : List (List PV)} {a6n : Bool} {a6 : List (List PV)} {a7n : Bool} {a7 : List (List PV)} {a8n : Bool} {a8 : List (List PV)} {a9n : Bool} {a9 : List (List PV)} {a10n : Bool} {a10 : List (List PV)} (h : HasL TModule [.isl a0n 2 a0, .isl a1n 9 a1, .isl a2n 1 a2, .isl a3n 3 a3, .isl a4n 3 a4, .isl a5n 3 a5, .isl a6n 3 a6, .isl a7n 1 a7, .isl a8n 3 a8, .isl a9n 2 a9, .isl a10n 3 a10]) : (a0n = false → a0 = []) ∧ HasE TType a0 ∧ (a1n = false → a1 = []) ∧ HasE TImport a1 ∧ (a2n = false → a2 = []) ∧ HasE TI64 a2 ∧ (a3n = false → a3 = []) ∧ HasE TLimits a3 ∧ (a4n = false → a4 = []) ∧ HasE TLimits a4 ∧ (a5n = false → a5 = []) ∧ HasE TGlobal a5 ∧ (a6n = false → a6 = []) ∧ HasE TExport a6 ∧ (a7n = false → a7 = []) ∧ HasE TI64 a7 ∧ (a8n = false → a8 = []) ∧ HasE TElem a8 ∧ (a9n = false → a9 = []) ∧ HasE TCode a9 ∧ (a10n = false → a10 = []) ∧ HasE TData a10 := by
  obtain ⟨b0n, b0, b1n, b1, b2n, b2, b3n, b3, b4n, b4, b5n, b5, b6n, b6, b7n, b7, b8n, b8, b9n, b9, b10n, b10, e, g0, e0, g1, e1, g2, e2, g3, e3, g4, e4, g5, e5, g6, e6, g7, e7, g8, e8, g9, e9, g10, e10⟩ := has_module h
  cases e
  exact ⟨g0, e0, g1, e1, g2, e2, g3, e3, g4, e4, g5, e5, g6, e6, g7, e7, g8, e8, g9, e9, g10, e10⟩
set_option maxHeartbeats 8000000 in
theorem spec3 (x y : List PV) (hx : BigL TModule x) (hy : BigL TModule y) : Runs Try.prog 3 [.agg (plainP x), .agg (plainP y)] [] (.ret (.p (.bool true)) []) := by
  refine runs_len fun _ => ?_
  refine runs_of_wp 13 Try.func3 body3 name3 comp3 res3 (Nat.le_of_ble_eq_true ar3) ?_
  generalize hI : stdI = LI
  generalize hB : stdB = LB
  generalize hE : stdE = LE
  obtain ⟨u1, sm1, qg1⟩ := spec9 x hx
  obtain ⟨u2, sm2, qg2⟩ := spec9 y hy
  obtain ⟨a0n, a0, a1n, a1, a2n, a2, a3n, a3, a4n, a4, a5n, a5, a6n, a6, a7n, a7, a8n, a8, a9n, a9, a10n, a10, rfl, gga0, gea0, gga1, gea1, gga2, gea2, gga3, gea3, gga4, gea4, gga5, gea5, gga6, gea6, gga7, gea7, gga8, gea8, gga9, gea9, gga10, gea10⟩ := big_module hx
  obtain ⟨m0n, m0, m1n, m1, m2n, m2, m3n, m3, m4n, m4, m5n, m5, m6n, m6, m7n, m7, m8n, m8, m9n, m9, m10n, m10, rfl, ggm0, gem0, ggm1, gem1, ggm2, gem2, ggm3, gem3, ggm4, gem4, ggm5, gem5, ggm6, gem6, ggm7, gem7, ggm8, gem8, ggm9, gem9, ggm10, gem10⟩ := big_module hy
  generalize hR : Runs Try.prog = R at qg1 qg2 ⊢
  cbv
  refine ⟨[], trivial, ?_⟩
  cbv
  refine ⟨[], rfl, _, qg1, Or.inl rfl, ?_⟩
  cbv
  cases u1
  · cbv
    refine ⟨[], trivial, ?_⟩
    cbv
    refine ⟨[], rfl, _, qg2, Or.inl rfl, ?_⟩
    cbv
    cases u2
    · have hx := sm1 rfl
      have hy := sm2 rfl
      obtain ⟨ga0, ea0, ga1, ea1, ga2, ea2, ga3, ea3, ga4, ea4, ga5, ea5, ga6, ea6, ga7, ea7, ga8, ea8, ga9, ea9, ga10, ea10⟩ := mod_parts hx
      obtain ⟨gm0, em0, gm1, em1, gm2, em2, gm3, em3, gm4, em4, gm5, em5, gm6, em6, gm7, em7, gm8, em8, gm9, em9, gm10, em10⟩ := mod_parts hy
      obtain ⟨N0, hN0⟩ : ∃ N : Int, N = a0.length := ⟨_, rfl⟩
      obtain ⟨b0, hb0⟩ : ∃ b : Bool, b = !a0.isEmpty := ⟨_, rfl⟩
      obtain ⟨r0, hr0⟩ : ∃ r, r = twEs true a0 := ⟨_, rfl⟩
      obtain ⟨s0, hs0⟩ : ∃ r, r = twEs false a0 := ⟨_, rfl⟩
      obtain ⟨N1, hN1⟩ : ∃ N : Int, N = a1.length := ⟨_, rfl⟩
      obtain ⟨b1, hb1⟩ : ∃ b : Bool, b = !a1.isEmpty := ⟨_, rfl⟩
      obtain ⟨r1, hr1⟩ : ∃ r, r = twEs true a1 := ⟨_, rfl⟩
      obtain ⟨s1, hs1⟩ : ∃ r, r = twEs false a1 := ⟨_, rfl⟩
      obtain ⟨N2, hN2⟩ : ∃ N : Int, N = a2.length := ⟨_, rfl⟩
      obtain ⟨b2, hb2⟩ : ∃ b : Bool, b = !a2.isEmpty := ⟨_, rfl⟩
      obtain ⟨r2, hr2⟩ : ∃ r, r = twEs true a2 := ⟨_, rfl⟩
      obtain ⟨s2, hs2⟩ : ∃ r, r = twEs false a2 := ⟨_, rfl⟩
      obtain ⟨N3, hN3⟩ : ∃ N : Int, N = a3.length := ⟨_, rfl⟩
      obtain ⟨b3, hb3⟩ : ∃ b : Bool, b = !a3.isEmpty := ⟨_, rfl⟩
      obtain ⟨r3, hr3⟩ : ∃ r, r = twEs true a3 := ⟨_, rfl⟩
      obtain ⟨s3, hs3⟩ : ∃ r, r = twEs false a3 := ⟨_, rfl⟩
      obtain ⟨N4, hN4⟩ : ∃ N : Int, N = a4.length := ⟨_, rfl⟩
      obtain ⟨b4, hb4⟩ : ∃ b : Bool, b = !a4.isEmpty := ⟨_, rfl⟩
      obtain ⟨r4, hr4⟩ : ∃ r, r = twEs true a4 := ⟨_, rfl⟩
      obtain ⟨s4, hs4⟩ : ∃ r, r = twEs false a4 := ⟨_, rfl⟩
      obtain ⟨N5, hN5⟩ : ∃ N : Int, N = a5.length := ⟨_, rfl⟩
      obtain ⟨b5, hb5⟩ : ∃ b : Bool, b = !a5.isEmpty := ⟨_, rfl⟩
      obtain ⟨r5, hr5⟩ : ∃ r, r = twEs true a5 := ⟨_, rfl⟩
      obtain ⟨s5, hs5⟩ : ∃ r, r = twEs false a5 := ⟨_, rfl⟩
      obtain ⟨N6, hN6⟩ : ∃ N : Int, N = a6.length := ⟨_, rfl⟩
      obtain ⟨b6, hb6⟩ : ∃ b : Bool, b = !a6.isEmpty := ⟨_, rfl⟩
      obtain ⟨r6, hr6⟩ : ∃ r, r = twEs true a6 := ⟨_, rfl⟩
      obtain ⟨s6, hs6⟩ : ∃ r, r = twEs false a6 := ⟨_, rfl⟩
      obtain ⟨N7, hN7⟩ : ∃ N : Int, N = a7.length := ⟨_, rfl⟩
      obtain ⟨b7, hb7⟩ : ∃ b : Bool, b = !a7.isEmpty := ⟨_, rfl⟩
      obtain ⟨r7, hr7⟩ : ∃ r, r = twEs true a7 := ⟨_, rfl⟩
      obtain ⟨s7, hs7⟩ : ∃ r, r = twEs false a7 := ⟨_, rfl⟩
      obtain ⟨N8, hN8⟩ : ∃ N : Int, N = a8.length := ⟨_, rfl⟩
      obtain ⟨b8, hb8⟩ : ∃ b : Bool, b = !a8.isEmpty := ⟨_, rfl⟩
      obtain ⟨r8, hr8⟩ : ∃ r, r = twEs true a8 := ⟨_, rfl⟩
      obtain ⟨s8, hs8⟩ : ∃ r, r = twEs false a8 := ⟨_, rfl⟩
      obtain ⟨N9, hN9⟩ : ∃ N : Int, N = a9.length := ⟨_, rfl⟩
      obtain ⟨b9, hb9⟩ : ∃ b : Bool, b = !a9.isEmpty := ⟨_, rfl⟩
      obtain ⟨r9, hr9⟩ : ∃ r, r = twEs true a9 := ⟨_, rfl⟩
      obtain ⟨s9, hs9⟩ : ∃ r, r = twEs false a9 := ⟨_, rfl⟩
      obtain ⟨N10, hN10⟩ : ∃ N : Int, N = a10.length := ⟨_, rfl⟩
      obtain ⟨b10, hb10⟩ : ∃ b : Bool, b = !a10.isEmpty := ⟨_, rfl⟩
      obtain ⟨r10, hr10⟩ : ∃ r, r = twEs true a10 := ⟨_, rfl⟩
      obtain ⟨s10, hs10⟩ : ∃ r, r = twEs false a10 := ⟨_, rfl⟩
      have qt := spec10 a0n a0n a0 r0 N0 a1n a1n a1 r1 N1 a2n a2n a2 r2 N2 a3n a3n a3 r3 N3 a4n a4n a4 r4 N4 a5n a5n a5 r5 N5 a6n a6n a6 r6 N6 a7n a7n a7 r7 N7 a8n a8n a8 r8 N8 a9n a9n a9 r9 N9 a10n a10n a10 r10 N10 ga0 ea0 hN0 rfl hr0 ga1 ea1 hN1 rfl hr1 ga2 ea2 hN2 rfl hr2 ga3 ea3 hN3 rfl hr3 ga4 ea4 hN4 rfl hr4 ga5 ea5 hN5 rfl hr5 ga6 ea6 hN6 rfl hr6 ga7 ea7 hN7 rfl hr7 ga8 ea8 hN8 rfl hr8 ga9 ea9 hN9 rfl hr9 ga10 ea10 hN10 rfl hr10
      have qw := spec13 a0n b0 a0 s0 N0 a1n b1 a1 s1 N1 a2n b2 a2 s2 N2 a3n b3 a3 s3 N3 a4n b4 a4 s4 N4 a5n b5 a5 s5 N5 a6n b6 a6 s6 N6 a7n b7 a7 s7 N7 a8n b8 a8 s8 N8 a9n b9 a9 s9 N9 a10n b10 a10 s10 N10 ga0 ea0 hN0 hb0 hs0 ga1 ea1 hN1 hb1 hs1 ga2 ea2 hN2 hb2 hs2 ga3 ea3 hN3 hb3 hs3 ga4 ea4 hN4 hb4 hs4 ga5 ea5 hN5 hb5 hs5 ga6 ea6 hN6 hb6 hs6 ga7 ea7 hN7 hb7 hs7 ga8 ea8 hN8 hb8 hs8 ga9 ea9 hN9 hb9 hs9 ga10 ea10 hN10 hb10 hs10
      have q1 := spec11 _ _ hx hy
      have q2 := spec12 _ _ hx hy
      obtain ⟨F0, hF0⟩ : ∃ F, F = stdE (.fsub r0 0 N0) := ⟨_, rfl⟩
      obtain ⟨W0, hW0⟩ : ∃ F, F = stdE (.fsub s0 0 N0) := ⟨_, rfl⟩
      obtain ⟨F1, hF1⟩ : ∃ F, F = stdE (.fsub r1 0 N1) := ⟨_, rfl⟩
      obtain ⟨W1, hW1⟩ : ∃ F, F = stdE (.fsub s1 0 N1) := ⟨_, rfl⟩
      obtain ⟨F2, hF2⟩ : ∃ F, F = stdE (.fsub r2 0 N2) := ⟨_, rfl⟩
      obtain ⟨W2, hW2⟩ : ∃ F, F = stdE (.fsub s2 0 N2) := ⟨_, rfl⟩
      obtain ⟨F3, hF3⟩ : ∃ F, F = stdE (.fsub r3 0 N3) := ⟨_, rfl⟩
      obtain ⟨W3, hW3⟩ : ∃ F, F = stdE (.fsub s3 0 N3) := ⟨_, rfl⟩
      obtain ⟨F4, hF4⟩ : ∃ F, F = stdE (.fsub r4 0 N4) := ⟨_, rfl⟩
      obtain ⟨W4, hW4⟩ : ∃ F, F = stdE (.fsub s4 0 N4) := ⟨_, rfl⟩
      obtain ⟨F5, hF5⟩ : ∃ F, F = stdE (.fsub r5 0 N5) := ⟨_, rfl⟩
      obtain ⟨W5, hW5⟩ : ∃ F, F = stdE (.fsub s5 0 N5) := ⟨_, rfl⟩
      obtain ⟨F6, hF6⟩ : ∃ F, F = stdE (.fsub r6 0 N6) := ⟨_, rfl⟩
      obtain ⟨W6, hW6⟩ : ∃ F, F = stdE (.fsub s6 0 N6) := ⟨_, rfl⟩
      obtain ⟨F7, hF7⟩ : ∃ F, F = stdE (.fsub r7 0 N7) := ⟨_, rfl⟩
      obtain ⟨W7, hW7⟩ : ∃ F, F = stdE (.fsub s7 0 N7) := ⟨_, rfl⟩
      obtain ⟨F8, hF8⟩ : ∃ F, F = stdE (.fsub r8 0 N8) := ⟨_, rfl⟩
      obtain ⟨W8, hW8⟩ : ∃ F, F = stdE (.fsub s8 0 N8) := ⟨_, rfl⟩
      obtain ⟨F9, hF9⟩ : ∃ F, F = stdE (.fsub r9 0 N9) := ⟨_, rfl⟩
      obtain ⟨W9, hW9⟩ : ∃ F, F = stdE (.fsub s9 0 N9) := ⟨_, rfl⟩
      obtain ⟨F10, hF10⟩ : ∃ F, F = stdE (.fsub r10 0 N10) := ⟨_, rfl⟩
      obtain ⟨W10, hW10⟩ : ∃ F, F = stdE (.fsub s10 0 N10) := ⟨_, rfl⟩
      have hFh0 : HasE TType F0 := by rw [hF0]; exact has_lent hr0 hN0 ea0
      have hWh0 : HasE TType W0 := by rw [hW0]; exact has_lent hs0 hN0 ea0
      have hFs0 : nrmEs F0 = nrmEs a0 := by rw [hF0]; exact same_lent hr0 hN0
      have hWs0 : nrmEs W0 = nrmEs a0 := by rw [hW0]; exact same_lent hs0 hN0
      have hFn0 : a0n = false → F0 = [] := by rw [hF0]; exact nil_lent (f := true) hr0 hN0 ga0
      have hWn0 : b0 = false → W0 = [] := by rw [hW0]; exact nil_lent (f := true) hs0 hN0 (nil_flag hb0)
      have hFh1 : HasE TImport F1 := by rw [hF1]; exact has_lent hr1 hN1 ea1
      have hWh1 : HasE TImport W1 := by rw [hW1]; exact has_lent hs1 hN1 ea1
      have hFs1 : nrmEs F1 = nrmEs a1 := by rw [hF1]; exact same_lent hr1 hN1
      have hWs1 : nrmEs W1 = nrmEs a1 := by rw [hW1]; exact same_lent hs1 hN1
      have hFn1 : a1n = false → F1 = [] := by rw [hF1]; exact nil_lent (f := true) hr1 hN1 ga1
      have hWn1 : b1 = false → W1 = [] := by rw [hW1]; exact nil_lent (f := true) hs1 hN1 (nil_flag hb1)
      have hFh2 : HasE TI64 F2 := by rw [hF2]; exact has_lent hr2 hN2 ea2
      have hWh2 : HasE TI64 W2 := by rw [hW2]; exact has_lent hs2 hN2 ea2
      have hFs2 : nrmEs F2 = nrmEs a2 := by rw [hF2]; exact same_lent hr2 hN2
      have hWs2 : nrmEs W2 = nrmEs a2 := by rw [hW2]; exact same_lent hs2 hN2
      have hFn2 : a2n = false → F2 = [] := by rw [hF2]; exact nil_lent (f := true) hr2 hN2 ga2
      have hWn2 : b2 = false → W2 = [] := by rw [hW2]; exact nil_lent (f := true) hs2 hN2 (nil_flag hb2)
      have hFh3 : HasE TLimits F3 := by rw [hF3]; exact has_lent hr3 hN3 ea3
      have hWh3 : HasE TLimits W3 := by rw [hW3]; exact has_lent hs3 hN3 ea3
      have hFs3 : nrmEs F3 = nrmEs a3 := by rw [hF3]; exact same_lent hr3 hN3
      have hWs3 : nrmEs W3 = nrmEs a3 := by rw [hW3]; exact same_lent hs3 hN3
      have hFn3 : a3n = false → F3 = [] := by rw [hF3]; exact nil_lent (f := true) hr3 hN3 ga3
      have hWn3 : b3 = false → W3 = [] := by rw [hW3]; exact nil_lent (f := true) hs3 hN3 (nil_flag hb3)
      have hFh4 : HasE TLimits F4 := by rw [hF4]; exact has_lent hr4 hN4 ea4
      have hWh4 : HasE TLimits W4 := by rw [hW4]; exact has_lent hs4 hN4 ea4
      have hFs4 : nrmEs F4 = nrmEs a4 := by rw [hF4]; exact same_lent hr4 hN4
      have hWs4 : nrmEs W4 = nrmEs a4 := by rw [hW4]; exact same_lent hs4 hN4
      have hFn4 : a4n = false → F4 = [] := by rw [hF4]; exact nil_lent (f := true) hr4 hN4 ga4
      have hWn4 : b4 = false → W4 = [] := by rw [hW4]; exact nil_lent (f := true) hs4 hN4 (nil_flag hb4)
      have hFh5 : HasE TGlobal F5 := by rw [hF5]; exact has_lent hr5 hN5 ea5
      have hWh5 : HasE TGlobal W5 := by rw [hW5]; exact has_lent hs5 hN5 ea5
      have hFs5 : nrmEs F5 = nrmEs a5 := by rw [hF5]; exact same_lent hr5 hN5
      have hWs5 : nrmEs W5 = nrmEs a5 := by rw [hW5]; exact same_lent hs5 hN5
      have hFn5 : a5n = false → F5 = [] := by rw [hF5]; exact nil_lent (f := true) hr5 hN5 ga5
      have hWn5 : b5 = false → W5 = [] := by rw [hW5]; exact nil_lent (f := true) hs5 hN5 (nil_flag hb5)
      have hFh6 : HasE TExport F6 := by rw [hF6]; exact has_lent hr6 hN6 ea6
      have hWh6 : HasE TExport W6 := by rw [hW6]; exact has_lent hs6 hN6 ea6
      have hFs6 : nrmEs F6 = nrmEs a6 := by rw [hF6]; exact same_lent hr6 hN6
      have hWs6 : nrmEs W6 = nrmEs a6 := by rw [hW6]; exact same_lent hs6 hN6
      have hFn6 : a6n = false → F6 = [] := by rw [hF6]; exact nil_lent (f := true) hr6 hN6 ga6
      have hWn6 : b6 = false → W6 = [] := by rw [hW6]; exact nil_lent (f := true) hs6 hN6 (nil_flag hb6)
      have hFh7 : HasE TI64 F7 := by rw [hF7]; exact has_lent hr7 hN7 ea7
      have hWh7 : HasE TI64 W7 := by rw [hW7]; exact has_lent hs7 hN7 ea7
      have hFs7 : nrmEs F7 = nrmEs a7 := by rw [hF7]; exact same_lent hr7 hN7
      have hWs7 : nrmEs W7 = nrmEs a7 := by rw [hW7]; exact same_lent hs7 hN7
      have hFn7 : a7n = false → F7 = [] := by rw [hF7]; exact nil_lent (f := true) hr7 hN7 ga7
      have hWn7 : b7 = false → W7 = [] := by rw [hW7]; exact nil_lent (f := true) hs7 hN7 (nil_flag hb7)
      have hFh8 : HasE TElem F8 := by rw [hF8]; exact has_lent hr8 hN8 ea8
      have hWh8 : HasE TElem W8 := by rw [hW8]; exact has_lent hs8 hN8 ea8
      have hFs8 : nrmEs F8 = nrmEs a8 := by rw [hF8]; exact same_lent hr8 hN8
      have hWs8 : nrmEs W8 = nrmEs a8 := by rw [hW8]; exact same_lent hs8 hN8
      have hFn8 : a8n = false → F8 = [] := by rw [hF8]; exact nil_lent (f := true) hr8 hN8 ga8
      have hWn8 : b8 = false → W8 = [] := by rw [hW8]; exact nil_lent (f := true) hs8 hN8 (nil_flag hb8)
      have hFh9 : HasE TCode F9 := by rw [hF9]; exact has_lent hr9 hN9 ea9
      have hWh9 : HasE TCode W9 := by rw [hW9]; exact has_lent hs9 hN9 ea9
      have hFs9 : nrmEs F9 = nrmEs a9 := by rw [hF9]; exact same_lent hr9 hN9
      have hWs9 : nrmEs W9 = nrmEs a9 := by rw [hW9]; exact same_lent hs9 hN9
      have hFn9 : a9n = false → F9 = [] := by rw [hF9]; exact nil_lent (f := true) hr9 hN9 ga9
      have hWn9 : b9 = false → W9 = [] := by rw [hW9]; exact nil_lent (f := true) hs9 hN9 (nil_flag hb9)
      have hFh10 : HasE TData F10 := by rw [hF10]; exact has_lent hr10 hN10 ea10
      have hWh10 : HasE TData W10 := by rw [hW10]; exact has_lent hs10 hN10 ea10
      have hFs10 : nrmEs F10 = nrmEs a10 := by rw [hF10]; exact same_lent hr10 hN10
      have hWs10 : nrmEs W10 = nrmEs a10 := by rw [hW10]; exact same_lent hs10 hN10
      have hFn10 : a10n = false → F10 = [] := by rw [hF10]; exact nil_lent (f := true) hr10 hN10 ga10
      have hWn10 : b10 = false → W10 = [] := by rw [hW10]; exact nil_lent (f := true) hs10 hN10 (nil_flag hb10)
      have hFL : HasL TModule [.isl a0n 2 F0, .isl a1n 9 F1, .isl a2n 1 F2, .isl a3n 3 F3, .isl a4n 3 F4, .isl a5n 3 F5, .isl a6n 3 F6, .isl a7n 1 F7, .isl a8n 3 F8, .isl a9n 2 F9, .isl a10n 3 F10] := ⟨_, _, rfl, ⟨_, _, rfl, hFn0, (hFh0).1, (hFh0).2⟩, ⟨_, _, rfl, ⟨_, _, rfl, hFn1, (hFh1).1, (hFh1).2⟩, ⟨_, _, rfl, ⟨_, _, rfl, hFn2, (hFh2).1, (hFh2).2⟩, ⟨_, _, rfl, ⟨_, _, rfl, hFn3, (hFh3).1, (hFh3).2⟩, ⟨_, _, rfl, ⟨_, _, rfl, hFn4, (hFh4).1, (hFh4).2⟩, ⟨_, _, rfl, ⟨_, _, rfl, hFn5, (hFh5).1, (hFh5).2⟩, ⟨_, _, rfl, ⟨_, _, rfl, hFn6, (hFh6).1, (hFh6).2⟩, ⟨_, _, rfl, ⟨_, _, rfl, hFn7, (hFh7).1, (hFh7).2⟩, ⟨_, _, rfl, ⟨_, _, rfl, hFn8, (hFh8).1, (hFh8).2⟩, ⟨_, _, rfl, ⟨_, _, rfl, hFn9, (hFh9).1, (hFh9).2⟩, ⟨_, _, rfl, ⟨_, _, rfl, hFn10, (hFh10).1, (hFh10).2⟩, rfl⟩⟩⟩⟩⟩⟩⟩⟩⟩⟩⟩
      have hWL : HasL TModule [.isl b0 2 W0, .isl b1 9 W1, .isl b2 1 W2, .isl b3 3 W3, .isl b4 3 W4, .isl b5 3 W5, .isl b6 3 W6, .isl b7 1 W7, .isl b8 3 W8, .isl b9 2 W9, .isl b10 3 W10] := ⟨_, _, rfl, ⟨_, _, rfl, hWn0, (hWh0).1, (hWh0).2⟩, ⟨_, _, rfl, ⟨_, _, rfl, hWn1, (hWh1).1, (hWh1).2⟩, ⟨_, _, rfl, ⟨_, _, rfl, hWn2, (hWh2).1, (hWh2).2⟩, ⟨_, _, rfl, ⟨_, _, rfl, hWn3, (hWh3).1, (hWh3).2⟩, ⟨_, _, rfl, ⟨_, _, rfl, hWn4, (hWh4).1, (hWh4).2⟩, ⟨_, _, rfl, ⟨_, _, rfl, hWn5, (hWh5).1, (hWh5).2⟩, ⟨_, _, rfl, ⟨_, _, rfl, hWn6, (hWh6).1, (hWh6).2⟩, ⟨_, _, rfl, ⟨_, _, rfl, hWn7, (hWh7).1, (hWh7).2⟩, ⟨_, _, rfl, ⟨_, _, rfl, hWn8, (hWh8).1, (hWh8).2⟩, ⟨_, _, rfl, ⟨_, _, rfl, hWn9, (hWh9).1, (hWh9).2⟩, ⟨_, _, rfl, ⟨_, _, rfl, hWn10, (hWh10).1, (hWh10).2⟩, rfl⟩⟩⟩⟩⟩⟩⟩⟩⟩⟩⟩
      have q3 := spec12 [.isl a0n 2 F0, .isl a1n 9 F1, .isl a2n 1 F2, .isl a3n 3 F3, .isl a4n 3 F4, .isl a5n 3 F5, .isl a6n 3 F6, .isl a7n 1 F7, .isl a8n 3 F8, .isl a9n 2 F9, .isl a10n 3 F10] [.isl a0n 2 a0, .isl a1n 9 a1, .isl a2n 1 a2, .isl a3n 3 a3, .isl a4n 3 a4, .isl a5n 3 a5, .isl a6n 3 a6, .isl a7n 1 a7, .isl a8n 3 a8, .isl a9n 2 a9, .isl a10n 3 a10] hFL hx
      have q4 := spec12 [.isl a0n 2 a0, .isl a1n 9 a1, .isl a2n 1 a2, .isl a3n 3 a3, .isl a4n 3 a4, .isl a5n 3 a5, .isl a6n 3 a6, .isl a7n 1 a7, .isl a8n 3 a8, .isl a9n 2 a9, .isl a10n 3 a10] [.isl b0 2 W0, .isl b1 9 W1, .isl b2 1 W2, .isl b3 3 W3, .isl b4 3 W4, .isl b5 3 W5, .isl b6 3 W6, .isl b7 1 W7, .isl b8 3 W8, .isl b9 2 W9, .isl b10 3 W10] hx hWL
      have e3 : sameC [.isl a0n 2 F0, .isl a1n 9 F1, .isl a2n 1 F2, .isl a3n 3 F3, .isl a4n 3 F4, .isl a5n 3 F5, .isl a6n 3 F6, .isl a7n 1 F7, .isl a8n 3 F8, .isl a9n 2 F9, .isl a10n 3 F10] [.isl a0n 2 a0, .isl a1n 9 a1, .isl a2n 1 a2, .isl a3n 3 a3, .isl a4n 3 a4, .isl a5n 3 a5, .isl a6n 3 a6, .isl a7n 1 a7, .isl a8n 3 a8, .isl a9n 2 a9, .isl a10n 3 a10] = true := by
        rw [sameC_iff]
        simp only [nrmC, nrm, hFs0, hFs1, hFs2, hFs3, hFs4, hFs5, hFs6, hFs7, hFs8, hFs9, hFs10]
      have e4 : sameC [.isl a0n 2 a0, .isl a1n 9 a1, .isl a2n 1 a2, .isl a3n 3 a3, .isl a4n 3 a4, .isl a5n 3 a5, .isl a6n 3 a6, .isl a7n 1 a7, .isl a8n 3 a8, .isl a9n 2 a9, .isl a10n 3 a10] [.isl b0 2 W0, .isl b1 9 W1, .isl b2 1 W2, .isl b3 3 W3, .isl b4 3 W4, .isl b5 3 W5, .isl b6 3 W6, .isl b7 1 W7, .isl b8 3 W8, .isl b9 2 W9, .isl b10 3 W10] = true := by
        rw [sameC_iff]
        simp only [nrmC, nrm, hWs0, hWs1, hWs2, hWs3, hWs4, hWs5, hWs6, hWs7, hWs8, hWs9, hWs10]
      rw [e3] at q3
      rw [e4] at q4
      generalize hsm : sameC [.isl a0n 2 a0, .isl a1n 9 a1, .isl a2n 1 a2, .isl a3n 3 a3, .isl a4n 3 a4, .isl a5n 3 a5, .isl a6n 3 a6, .isl a7n 1 a7, .isl a8n 3 a8, .isl a9n 2 a9, .isl a10n 3 a10] [.isl m0n 2 m0, .isl m1n 9 m1, .isl m2n 1 m2, .isl m3n 3 m3, .isl m4n 3 m4, .isl m5n 3 m5, .isl m6n 3 m6, .isl m7n 1 m7, .isl m8n 3 m8, .isl m9n 2 m9, .isl m10n 3 m10] = sm at q1 q2
      have or0 : OwnsE TType r0 := by rw [hr0]; exact owns_twEs ea0
      have on0 : N0 = r0.length := by rw [hr0, twEs_len]; exact hN0
      have or1 : OwnsE TImport r1 := by rw [hr1]; exact owns_twEs ea1
      have on1 : N1 = r1.length := by rw [hr1, twEs_len]; exact hN1
      have or2 : OwnsE TI64 r2 := by rw [hr2]; exact owns_twEs ea2
      have on2 : N2 = r2.length := by rw [hr2, twEs_len]; exact hN2
      have or3 : OwnsE TLimits r3 := by rw [hr3]; exact owns_twEs ea3
      have on3 : N3 = r3.length := by rw [hr3, twEs_len]; exact hN3
      have or4 : OwnsE TLimits r4 := by rw [hr4]; exact owns_twEs ea4
      have on4 : N4 = r4.length := by rw [hr4, twEs_len]; exact hN4
      have or5 : OwnsE TGlobal r5 := by rw [hr5]; exact owns_twEs ea5
      have on5 : N5 = r5.length := by rw [hr5, twEs_len]; exact hN5
      have or6 : OwnsE TExport r6 := by rw [hr6]; exact owns_twEs ea6
      have on6 : N6 = r6.length := by rw [hr6, twEs_len]; exact hN6
      have or7 : OwnsE TI64 r7 := by rw [hr7]; exact owns_twEs ea7
      have on7 : N7 = r7.length := by rw [hr7, twEs_len]; exact hN7
      have or8 : OwnsE TElem r8 := by rw [hr8]; exact owns_twEs ea8
      have on8 : N8 = r8.length := by rw [hr8, twEs_len]; exact hN8
      have or9 : OwnsE TCode r9 := by rw [hr9]; exact owns_twEs ea9
      have on9 : N9 = r9.length := by rw [hr9, twEs_len]; exact hN9
      have or10 : OwnsE TData r10 := by rw [hr10]; exact owns_twEs ea10
      have on10 : N10 = r10.length := by rw [hr10, twEs_len]; exact hN10
      clear ga0 gm0 hFn0 hWn0 hFs0 hWs0 hFh0 hWh0 hs0 hb0 hr0 ea0 em0 hN0
      clear ga1 gm1 hFn1 hWn1 hFs1 hWs1 hFh1 hWh1 hs1 hb1 hr1 ea1 em1 hN1
      clear ga2 gm2 hFn2 hWn2 hFs2 hWs2 hFh2 hWh2 hs2 hb2 hr2 ea2 em2 hN2
      clear ga3 gm3 hFn3 hWn3 hFs3 hWs3 hFh3 hWh3 hs3 hb3 hr3 ea3 em3 hN3
      clear ga4 gm4 hFn4 hWn4 hFs4 hWs4 hFh4 hWh4 hs4 hb4 hr4 ea4 em4 hN4
      clear ga5 gm5 hFn5 hWn5 hFs5 hWs5 hFh5 hWh5 hs5 hb5 hr5 ea5 em5 hN5
      clear ga6 gm6 hFn6 hWn6 hFs6 hWs6 hFh6 hWh6 hs6 hb6 hr6 ea6 em6 hN6
      clear ga7 gm7 hFn7 hWn7 hFs7 hWs7 hFh7 hWh7 hs7 hb7 hr7 ea7 em7 hN7
      clear ga8 gm8 hFn8 hWn8 hFs8 hWs8 hFh8 hWh8 hs8 hb8 hr8 ea8 em8 hN8
      clear ga9 gm9 hFn9 hWn9 hFs9 hWs9 hFh9 hWh9 hs9 hb9 hr9 ea9 em9 hN9
      clear ga10 gm10 hFn10 hWn10 hFs10 hWs10 hFh10 hWh10 hs10 hb10 hr10 ea10 em10 hN10
      clear hFL hWL e3 e4 hx hy
      rw [hE] at hF0 hW0
      subst hF0 hW0
      rw [hE] at hF1 hW1
      subst hF1 hW1
      rw [hE] at hF2 hW2
      subst hF2 hW2
      rw [hE] at hF3 hW3
      subst hF3 hW3
      rw [hE] at hF4 hW4
      subst hF4 hW4
      rw [hE] at hF5 hW5
      subst hF5 hW5
      rw [hE] at hF6 hW6
      subst hF6 hW6
      rw [hE] at hF7 hW7
      subst hF7 hW7
      rw [hE] at hF8 hW8
      subst hF8 hW8
      rw [hE] at hF9 hW9
      subst hF9 hW9
      rw [hE] at hF10 hW10
      subst hF10 hW10
      rw [hR] at qt qw q1 q2 q3 q4
      cbv
      refine ⟨[], trivial, ?_⟩
      cbv
      refine ⟨[], rfl, _, qt, Or.inl rfl, ?_⟩
      cbv
      refine ⟨[], rfl, ?_⟩
      cbv
      refine ⟨[], rfl, _, q1, Or.inl rfl, ?_⟩
      cbv
      refine ⟨[], rfl, ?_⟩
      cbv
      refine ⟨[], rfl, _, q2, Or.inl rfl, ?_⟩
      cbv
      have hbe : LB (.eq sm sm) = true := by rw [← hB, B_eq]; simp
      cases hbf : LB (.eq sm sm)
      · rw [hbe] at hbf
        cases hbf
      · cbv
        refine ⟨[], rfl, ?_⟩
        cbv
        refine ⟨[2, 3, 4, 5, 6, 7, 8, 9, 10, 11, 12], rfl, .ret (.p (.bool true)) [], Rcast q3 ?_ ?_, Or.inr (closedB true), ?_, ?_, ?_⟩
        · cbv
        · cbv
        · cbv
        · cbv
        · cbv
          refine ⟨[], trivial, ?_⟩
          cbv
          refine ⟨[], rfl, _, qw, Or.inl rfl, ?_⟩
          cbv
          refine loopR (α := Nat × Int × List (List PV)) [] 26 (Nat.zero_le _) (fun s a => (s.sett 8 (.p (.int .i64 a.2.1))).ob 2 (.row a0n 2 a.2.2)) (fun a => r0.length - a.1) (fun a => a.2.1 = a.1 ∧ a.1 ≤ r0.length ∧ a.2.2.length = r0.length ∧ OwnsE TType a.2.2) (0, 0, r0) ⟨rfl, Nat.zero_le _, rfl, or0⟩ (by cbv) ?_
          rintro S hS inv hinv ⟨k, K, els⟩ ⟨hK, hk, hl, ho⟩
          subst hS
          simp only at hK hk hl ho
          have hz := or0.1
          cbv
          cases hc : LB (.cmp .lss K N0)
          · clear hinv
            cbv
            refine loopR (α := Nat × Int × List (List PV)) [] 26 (Nat.zero_le _) (fun s a => (s.sett 10 (.p (.int .i64 a.2.1))).ob 11 (.row a9n 2 a.2.2)) (fun a => r9.length - a.1) (fun a => a.2.1 = a.1 ∧ a.1 ≤ r9.length ∧ a.2.2.length = r9.length ∧ OwnsE TCode a.2.2) (0, 0, r9) ⟨rfl, Nat.zero_le _, rfl, or9⟩ (by cbv) ?_
            rintro S hS inv hinv ⟨k, K, els⟩ ⟨hK, hk, hl, ho⟩
            subst hS
            simp only at hK hk hl ho
            have hz := or9.1
            cbv
            cases hc : LB (.cmp .lss K N9)
            · clear hinv
              cbv
              refine loopR (α := Nat × Int × List (List PV)) [] 26 (Nat.zero_le _) (fun s a => (s.sett 13 (.p (.int .i64 a.2.1))).ob 12 (.row a10n 3 a.2.2)) (fun a => r10.length - a.1) (fun a => a.2.1 = a.1 ∧ a.1 ≤ r10.length ∧ a.2.2.length = r10.length ∧ OwnsE TData a.2.2) (0, 0, r10) ⟨rfl, Nat.zero_le _, rfl, or10⟩ (by cbv) ?_
              rintro S hS inv hinv ⟨k, K, els⟩ ⟨hK, hk, hl, ho⟩
              subst hS
              simp only at hK hk hl ho
              have hz := or10.1
              cbv
              cases hc : LB (.cmp .lss K N10)
              · clear hinv
                cbv
                refine loopR (α := Nat × Int × List (List PV)) [] 26 (Nat.zero_le _) (fun s a => (s.sett 15 (.p (.int .i64 a.2.1))).ob 10 (.row a8n 3 a.2.2)) (fun a => r8.length - a.1) (fun a => a.2.1 = a.1 ∧ a.1 ≤ r8.length ∧ a.2.2.length = r8.length ∧ OwnsE TElem a.2.2) (0, 0, r8) ⟨rfl, Nat.zero_le _, rfl, or8⟩ (by cbv) ?_
                rintro S hS inv hinv ⟨k, K, els⟩ ⟨hK, hk, hl, ho⟩
                subst hS
                simp only at hK hk hl ho
                have hz := or8.1
                cbv
                cases hc : LB (.cmp .lss K N8)
                · clear hinv
                  cbv
                  refine loopR (α := Nat × Int × List (List PV)) [] 26 (Nat.zero_le _) (fun s a => (s.sett 17 (.p (.int .i64 a.2.1))).ob 3 (.row a1n 9 a.2.2)) (fun a => r1.length - a.1) (fun a => a.2.1 = a.1 ∧ a.1 ≤ r1.length ∧ a.2.2.length = r1.length ∧ OwnsE TImport a.2.2) (0, 0, r1) ⟨rfl, Nat.zero_le _, rfl, or1⟩ (by cbv) ?_
                  rintro S hS inv hinv ⟨k, K, els⟩ ⟨hK, hk, hl, ho⟩
                  subst hS
                  simp only at hK hk hl ho
                  have hz := or1.1
                  cbv
                  cases hc : LB (.cmp .lss K N1)
                  · clear hinv
                    cbv
                    refine ⟨[], trivial, ?_⟩
                    cbv
                    refine ⟨[14, 15, 16, 17, 18, 19, 20, 21, 22, 23, 24], rfl, .ret (.p (.bool true)) [], Rcast q4 ?_ ?_, Or.inr (closedB true), ?_, ?_, ?_⟩
                    · cbv
                    · cbv
                    · cbv
                    · cbv
                    · cbv
                      refine ⟨[], 0, Nat.zero_le _, ?_⟩
                      cbv
                  · rw [← hB, B_lss, on1, hK] at hc
                    have hc : k < r1.length := by simpa using hc
                    have hKN : K < N1 := by rw [hK, on1]; exact Int.ofNat_lt.2 hc
                    obtain ⟨x, hx, hx'⟩ := ho.at (k := k) (by omega)
                    obtain ⟨p0, p1, p2, p3, p4, p5, p6, p7, p8, rfl⟩ := own_import hx'
                    cbv
                    refine ⟨k, k, hK, hKN, by rw [hK]; exact Int.zero_add _, ?_⟩
                    cbv
                    refine ⟨a1n, els, _, rfl, hx, ?_⟩
                    cbv
                    obtain ⟨elsN, heN⟩ : ∃ l, l = els.set k [.str p0, .str p1, .int .u8 (LI (.ari .add .u8 p2 1)), .int .i64 p3, .int .i64 p4, .int .i64 p5, .bool p6, .int .u8 p7, .bool p8] := ⟨_, rfl⟩
                    refine ⟨k, k, hK, hKN, by rw [hK]; exact Int.zero_add _, ?_⟩
                    cbv
                    refine ⟨a1n, els, _, _, elsN, rfl, hx, rfl, rfl, rfl, by rw [heN]; rfl, rfl, ?_⟩
                    cbv
                    have hlN : elsN.length = r1.length := by rw [heN, List.length_set]; exact hl
                    have hoN : OwnsE TImport elsN := by rw [heN]; exact ho.set (⟨_, _, rfl, ⟨_, rfl⟩, ⟨_, _, rfl, ⟨_, rfl⟩, ⟨_, _, rfl, ⟨_, rfl⟩, ⟨_, _, rfl, ⟨_, rfl⟩, ⟨_, _, rfl, ⟨_, rfl⟩, ⟨_, _, rfl, ⟨_, rfl⟩, ⟨_, _, rfl, ⟨_, rfl⟩, ⟨_, _, rfl, ⟨_, rfl⟩, ⟨_, _, rfl, ⟨_, rfl⟩, rfl⟩⟩⟩⟩⟩⟩⟩⟩⟩)
                    have hh := hinv (k + 1, LI (.ari .add .i64 K 1), elsN) ⟨by
                      simp only
                      rw [← hI, hK]
                      exact I_inc (by omega), hc, hlN, hoN⟩
                    simp only at hh
                    generalize hmu : r1.length - (k + 1) = mu at hh
                    refine ⟨[], mu, by omega, ?_⟩
                    refine invE hh ?_
                    cbv
                · rw [← hB, B_lss, on8, hK] at hc
                  have hc : k < r8.length := by simpa using hc
                  have hKN : K < N8 := by rw [hK, on8]; exact Int.ofNat_lt.2 hc
                  obtain ⟨x, hx, hx'⟩ := ho.at (k := k) (by omega)
                  obtain ⟨p0, p1n, p1, p2n, p2, rfl, op1, op2⟩ := own_elem hx'
                  cbv
                  refine loopR (α := Nat × Int × List (List PV) × List (List PV)) [] 26 (Nat.zero_le _) (fun s a => (s.sett 16 (.p (.int .i64 a.2.1))).ob 10 (.row a8n 3 a.2.2.1)) (fun a => p2.length - a.1) (fun a => a.2.1 = a.1 ∧ a.1 ≤ p2.length ∧ a.2.2.1.length = r8.length ∧ OwnsE TElem a.2.2.1 ∧ a.2.2.1[k]? = some [.int .i64 p0, .own p1n 4 p1, .own p2n 1 a.2.2.2] ∧ a.2.2.2.length = p2.length ∧ OwnsE TI64 a.2.2.2) (0, 0, els, p2) ⟨rfl, Nat.zero_le _, hl, ho, hx, rfl, op2⟩ (by cbv) ?_
                  rintro S1 hS1 inv1 hinv1 ⟨j, J, els1, v1⟩ ⟨hJ, hj, hl1, ho1, hx1, hv1, ov1⟩
                  subst hS1
                  simp only at hJ hj hl1 ho1 hx1 hv1 ov1
                  have hzv1 := ov1.1
                  have lv1 : LI (.len v1) = v1.length := by rw [← hI]; rfl
                  cbv
                  refine ⟨k, k, hK, hKN, by rw [hK]; exact Int.zero_add _, ?_⟩
                  cbv
                  refine ⟨a8n, els1, _, rfl, hx1, ?_⟩
                  cbv
                  cases hcj : LB (.cmp .lss J (LI (.len v1)))
                  · clear hinv1
                    cbv
                    have hh := hinv (k + 1, LI (.ari .add .i64 K 1), els1) ⟨by
                      simp only
                      rw [← hI, hK]
                      exact I_inc (by omega), hc, hl1, ho1⟩
                    simp only at hh
                    generalize hmu : r8.length - (k + 1) = mu at hh
                    refine ⟨[], mu, by omega, ?_⟩
                    refine invE hh ?_
                    cbv
                  · rw [← hB, B_lss, lv1, hJ] at hcj
                    have hcj : j < v1.length := by simpa using hcj
                    have hJL : J < LI (.len v1) := by rw [hJ, lv1]; exact Int.ofNat_lt.2 hcj
                    obtain ⟨y, hy, hy'⟩ := ov1.at hcj
                    obtain ⟨z0, rfl⟩ := own_i64 hy'
                    obtain ⟨v, hv⟩ : ∃ l, l = v1.set j [.int .i64 (LI (.ari .add .i64 z0 1))] := ⟨_, rfl⟩
                    obtain ⟨elsN, heN⟩ : ∃ l, l = els1.set k [.int .i64 p0, .own p1n 4 p1, .own p2n 1 v] := ⟨_, rfl⟩
                    have hra : rowAt a8n els1 [(k, 2)] = some (p2n, v1) := by simp only [rowAt, hx1]; rfl
                    have hrp : rowPut els1 [(k, 2)] (v1.set j [.int .i64 (LI (.ari .add .i64 z0 1))]) = some elsN := by simp only [rowPut, hx1, heN, hv]; rfl
                    have ov : OwnsE TI64 v := by rw [hv]; exact ov1.set (⟨_, _, rfl, ⟨_, rfl⟩, rfl⟩)
                    have hoN : OwnsE TElem elsN := by rw [heN]; exact ho1.set (⟨_, _, rfl, ⟨_, rfl⟩, ⟨_, _, rfl, ⟨_, _, rfl, op1.1, op1.2⟩, ⟨_, _, rfl, ⟨_, _, rfl, ov.1, ov.2⟩, rfl⟩⟩⟩)
                    have hlN : elsN.length = r8.length := by rw [heN, List.length_set]; exact hl1
                    have hxN : elsN[k]? = some [.int .i64 p0, .own p1n 4 p1, .own p2n 1 v] := by rw [heN]; exact List.getElem?_set_self (by rw [hl1]; exact hc)
                    cbv
                    refine ⟨k, k, hK, hKN, by rw [hK]; exact Int.zero_add _, ?_⟩
                    cbv
                    refine ⟨a8n, els1, _, rfl, hx1, ?_⟩
                    cbv
                    refine ⟨j, j, hJ, hJL, by rw [hJ]; exact Int.zero_add _, ?_⟩
                    cbv
                    refine ⟨p2n, v1, _, hra, hy, ?_⟩
                    cbv
                    refine ⟨j, j, hJ, hJL, by rw [hJ]; exact Int.zero_add _, ?_⟩
                    cbv
                    refine ⟨p2n, v1, _, _, elsN, hra, hy, rfl, rfl, rfl, hrp, rfl, ?_⟩
                    cbv
                    have hh := hinv1 (j + 1, LI (.ari .add .i64 J 1), elsN, v) ⟨by
                      simp only
                      rw [← hI, hJ]
                      exact I_inc (by omega), by omega, hlN, hoN, hxN, by rw [hv, List.length_set]; exact hv1, ov⟩
                    simp only at hh
                    generalize hmu : p2.length - (j + 1) = mu at hh
                    refine ⟨[], mu, by omega, ?_⟩
                    refine invE hh ?_
                    cbv
              · rw [← hB, B_lss, on10, hK] at hc
                have hc : k < r10.length := by simpa using hc
                have hKN : K < N10 := by rw [hK, on10]; exact Int.ofNat_lt.2 hc
                obtain ⟨x, hx, hx'⟩ := ho.at (k := k) (by omega)
                obtain ⟨p0, p1n, p1, p2n, p2, rfl, op1, op2⟩ := own_data hx'
                cbv
                refine loopR (α := Nat × Int × List (List PV) × List (List PV)) [] 26 (Nat.zero_le _) (fun s a => (s.sett 14 (.p (.int .i64 a.2.1))).ob 12 (.row a10n 3 a.2.2.1)) (fun a => p2.length - a.1) (fun a => a.2.1 = a.1 ∧ a.1 ≤ p2.length ∧ a.2.2.1.length = r10.length ∧ OwnsE TData a.2.2.1 ∧ a.2.2.1[k]? = some [.int .i64 p0, .own p1n 4 p1, .own p2n 1 a.2.2.2] ∧ a.2.2.2.length = p2.length ∧ OwnsE TU8 a.2.2.2) (0, 0, els, p2) ⟨rfl, Nat.zero_le _, hl, ho, hx, rfl, op2⟩ (by cbv) ?_
                rintro S1 hS1 inv1 hinv1 ⟨j, J, els1, v1⟩ ⟨hJ, hj, hl1, ho1, hx1, hv1, ov1⟩
                subst hS1
                simp only at hJ hj hl1 ho1 hx1 hv1 ov1
                have hzv1 := ov1.1
                have lv1 : LI (.len v1) = v1.length := by rw [← hI]; rfl
                cbv
                refine ⟨k, k, hK, hKN, by rw [hK]; exact Int.zero_add _, ?_⟩
                cbv
                refine ⟨a10n, els1, _, rfl, hx1, ?_⟩
                cbv
                cases hcj : LB (.cmp .lss J (LI (.len v1)))
                · clear hinv1
                  cbv
                  have hh := hinv (k + 1, LI (.ari .add .i64 K 1), els1) ⟨by
                    simp only
                    rw [← hI, hK]
                    exact I_inc (by omega), hc, hl1, ho1⟩
                  simp only at hh
                  generalize hmu : r10.length - (k + 1) = mu at hh
                  refine ⟨[], mu, by omega, ?_⟩
                  refine invE hh ?_
                  cbv
                · rw [← hB, B_lss, lv1, hJ] at hcj
                  have hcj : j < v1.length := by simpa using hcj
                  have hJL : J < LI (.len v1) := by rw [hJ, lv1]; exact Int.ofNat_lt.2 hcj
                  obtain ⟨y, hy, hy'⟩ := ov1.at hcj
                  obtain ⟨z0, rfl⟩ := own_u8 hy'
                  obtain ⟨v, hv⟩ : ∃ l, l = v1.set j [.int .u8 (LI (.ari .add .u8 z0 1))] := ⟨_, rfl⟩
                  obtain ⟨elsN, heN⟩ : ∃ l, l = els1.set k [.int .i64 p0, .own p1n 4 p1, .own p2n 1 v] := ⟨_, rfl⟩
                  have hra : rowAt a10n els1 [(k, 2)] = some (p2n, v1) := by simp only [rowAt, hx1]; rfl
                  have hrp : rowPut els1 [(k, 2)] (v1.set j [.int .u8 (LI (.ari .add .u8 z0 1))]) = some elsN := by simp only [rowPut, hx1, heN, hv]; rfl
                  have ov : OwnsE TU8 v := by rw [hv]; exact ov1.set (⟨_, _, rfl, ⟨_, rfl⟩, rfl⟩)
                  have hoN : OwnsE TData elsN := by rw [heN]; exact ho1.set (⟨_, _, rfl, ⟨_, rfl⟩, ⟨_, _, rfl, ⟨_, _, rfl, op1.1, op1.2⟩, ⟨_, _, rfl, ⟨_, _, rfl, ov.1, ov.2⟩, rfl⟩⟩⟩)
                  have hlN : elsN.length = r10.length := by rw [heN, List.length_set]; exact hl1
                  have hxN : elsN[k]? = some [.int .i64 p0, .own p1n 4 p1, .own p2n 1 v] := by rw [heN]; exact List.getElem?_set_self (by rw [hl1]; exact hc)
                  cbv
                  refine ⟨k, k, hK, hKN, by rw [hK]; exact Int.zero_add _, ?_⟩
                  cbv
                  refine ⟨a10n, els1, _, rfl, hx1, ?_⟩
                  cbv
                  refine ⟨j, j, hJ, hJL, by rw [hJ]; exact Int.zero_add _, ?_⟩
                  cbv
                  refine ⟨p2n, v1, _, hra, hy, ?_⟩
                  cbv
                  refine ⟨j, j, hJ, hJL, by rw [hJ]; exact Int.zero_add _, ?_⟩
                  cbv
                  refine ⟨p2n, v1, _, _, elsN, hra, hy, rfl, rfl, rfl, hrp, rfl, ?_⟩
                  cbv
                  have hh := hinv1 (j + 1, LI (.ari .add .i64 J 1), elsN, v) ⟨by
                    simp only
                    rw [← hI, hJ]
                    exact I_inc (by omega), by omega, hlN, hoN, hxN, by rw [hv, List.length_set]; exact hv1, ov⟩
                  simp only at hh
                  generalize hmu : p2.length - (j + 1) = mu at hh
                  refine ⟨[], mu, by omega, ?_⟩
                  refine invE hh ?_
                  cbv
            · rw [← hB, B_lss, on9, hK] at hc
              have hc : k < r9.length := by simpa using hc
              have hKN : K < N9 := by rw [hK, on9]; exact Int.ofNat_lt.2 hc
              obtain ⟨x, hx, hx'⟩ := ho.at (k := k) (by omega)
              obtain ⟨p0n, p0, p1n, p1, rfl, op0, op1⟩ := own_code hx'
              cbv
              refine loopR (α := Nat × Int × List (List PV) × List (List PV)) [] 26 (Nat.zero_le _) (fun s a => (s.sett 11 (.p (.int .i64 a.2.1))).ob 11 (.row a9n 2 a.2.2.1)) (fun a => p1.length - a.1) (fun a => a.2.1 = a.1 ∧ a.1 ≤ p1.length ∧ a.2.2.1.length = r9.length ∧ OwnsE TCode a.2.2.1 ∧ a.2.2.1[k]? = some [.own p0n 2 p0, .own p1n 4 a.2.2.2] ∧ a.2.2.2.length = p1.length ∧ OwnsE TIns a.2.2.2) (0, 0, els, p1) ⟨rfl, Nat.zero_le _, hl, ho, hx, rfl, op1⟩ (by cbv) ?_
              rintro S1 hS1 inv1 hinv1 ⟨j, J, els1, v1⟩ ⟨hJ, hj, hl1, ho1, hx1, hv1, ov1⟩
              subst hS1
              simp only at hJ hj hl1 ho1 hx1 hv1 ov1
              have hzv1 := ov1.1
              have lv1 : LI (.len v1) = v1.length := by rw [← hI]; rfl
              cbv
              refine ⟨k, k, hK, hKN, by rw [hK]; exact Int.zero_add _, ?_⟩
              cbv
              refine ⟨a9n, els1, _, rfl, hx1, ?_⟩
              cbv
              cases hcj : LB (.cmp .lss J (LI (.len v1)))
              · clear hinv1
                cbv
                refine loopR (α := Nat × Int × List (List PV) × List (List PV)) [] 26 (Nat.zero_le _) (fun s a => (s.sett 12 (.p (.int .i64 a.2.1))).ob 11 (.row a9n 2 a.2.2.1)) (fun a => p0.length - a.1) (fun a => a.2.1 = a.1 ∧ a.1 ≤ p0.length ∧ a.2.2.1.length = r9.length ∧ OwnsE TCode a.2.2.1 ∧ a.2.2.1[k]? = some [.own p0n 2 a.2.2.2, .own p1n 4 v1] ∧ a.2.2.2.length = p0.length ∧ OwnsE TLocals a.2.2.2) (0, 0, els1, p0) ⟨rfl, Nat.zero_le _, hl1, ho1, hx1, rfl, op0⟩ (by cbv) ?_
                rintro S2 hS2 inv2 hinv2 ⟨j, J, els2, v2⟩ ⟨hJ, hj, hl2, ho2, hx2, hv2, ov2⟩
                subst hS2
                simp only at hJ hj hl2 ho2 hx2 hv2 ov2
                have hzv2 := ov2.1
                have lv2 : LI (.len v2) = v2.length := by rw [← hI]; rfl
                cbv
                refine ⟨k, k, hK, hKN, by rw [hK]; exact Int.zero_add _, ?_⟩
                cbv
                refine ⟨a9n, els2, _, rfl, hx2, ?_⟩
                cbv
                cases hcj : LB (.cmp .lss J (LI (.len v2)))
                · clear hinv2
                  cbv
                  have hh := hinv (k + 1, LI (.ari .add .i64 K 1), els2) ⟨by
                    simp only
                    rw [← hI, hK]
                    exact I_inc (by omega), hc, hl2, ho2⟩
                  simp only at hh
                  generalize hmu : r9.length - (k + 1) = mu at hh
                  refine ⟨[], mu, by omega, ?_⟩
                  refine invE hh ?_
                  cbv
                · rw [← hB, B_lss, lv2, hJ] at hcj
                  have hcj : j < v2.length := by simpa using hcj
                  have hJL : J < LI (.len v2) := by rw [hJ, lv2]; exact Int.ofNat_lt.2 hcj
                  obtain ⟨y, hy, hy'⟩ := ov2.at hcj
                  obtain ⟨z0, z1, rfl⟩ := own_locals hy'
                  obtain ⟨v, hv⟩ : ∃ l, l = v2.set j [.int .i64 (LI (.ari .add .i64 z0 1)), .int .u8 z1] := ⟨_, rfl⟩
                  obtain ⟨elsN, heN⟩ : ∃ l, l = els2.set k [.own p0n 2 v, .own p1n 4 v1] := ⟨_, rfl⟩
                  have hra : rowAt a9n els2 [(k, 0)] = some (p0n, v2) := by simp only [rowAt, hx2]; rfl
                  have hrp : rowPut els2 [(k, 0)] (v2.set j [.int .i64 (LI (.ari .add .i64 z0 1)), .int .u8 z1]) = some elsN := by simp only [rowPut, hx2, heN, hv]; rfl
                  have ov : OwnsE TLocals v := by rw [hv]; exact ov2.set (⟨_, _, rfl, ⟨_, rfl⟩, ⟨_, _, rfl, ⟨_, rfl⟩, rfl⟩⟩)
                  have hoN : OwnsE TCode elsN := by rw [heN]; exact ho2.set (⟨_, _, rfl, ⟨_, _, rfl, ov.1, ov.2⟩, ⟨_, _, rfl, ⟨_, _, rfl, ov1.1, ov1.2⟩, rfl⟩⟩)
                  have hlN : elsN.length = r9.length := by rw [heN, List.length_set]; exact hl2
                  have hxN : elsN[k]? = some [.own p0n 2 v, .own p1n 4 v1] := by rw [heN]; exact List.getElem?_set_self (by rw [hl2]; exact hc)
                  cbv
                  refine ⟨k, k, hK, hKN, by rw [hK]; exact Int.zero_add _, ?_⟩
                  cbv
                  refine ⟨a9n, els2, _, rfl, hx2, ?_⟩
                  cbv
                  refine ⟨j, j, hJ, hJL, by rw [hJ]; exact Int.zero_add _, ?_⟩
                  cbv
                  refine ⟨p0n, v2, _, hra, hy, ?_⟩
                  cbv
                  refine ⟨j, j, hJ, hJL, by rw [hJ]; exact Int.zero_add _, ?_⟩
                  cbv
                  refine ⟨p0n, v2, _, _, elsN, hra, hy, rfl, rfl, rfl, hrp, rfl, ?_⟩
                  cbv
                  have hh := hinv2 (j + 1, LI (.ari .add .i64 J 1), elsN, v) ⟨by
                    simp only
                    rw [← hI, hJ]
                    exact I_inc (by omega), by omega, hlN, hoN, hxN, by rw [hv, List.length_set]; exact hv2, ov⟩
                  simp only at hh
                  generalize hmu : p0.length - (j + 1) = mu at hh
                  refine ⟨[], mu, by omega, ?_⟩
                  refine invE hh ?_
                  cbv
              · rw [← hB, B_lss, lv1, hJ] at hcj
                have hcj : j < v1.length := by simpa using hcj
                have hJL : J < LI (.len v1) := by rw [hJ, lv1]; exact Int.ofNat_lt.2 hcj
                obtain ⟨y, hy, hy'⟩ := ov1.at hcj
                obtain ⟨z0, z1, z2, z3n, z3, rfl, oz3⟩ := own_ins hy'
                obtain ⟨v, hv⟩ : ∃ l, l = v1.set j [.int .u8 z0, .int .i64 (LI (.ari .add .i64 z1 1)), .int .i64 z2, .own z3n 1 z3] := ⟨_, rfl⟩
                obtain ⟨elsN, heN⟩ : ∃ l, l = els1.set k [.own p0n 2 p0, .own p1n 4 v] := ⟨_, rfl⟩
                have hra : rowAt a9n els1 [(k, 1)] = some (p1n, v1) := by simp only [rowAt, hx1]; rfl
                have hrp : rowPut els1 [(k, 1)] (v1.set j [.int .u8 z0, .int .i64 (LI (.ari .add .i64 z1 1)), .int .i64 z2, .own z3n 1 z3]) = some elsN := by simp only [rowPut, hx1, heN, hv]; rfl
                have ov : OwnsE TIns v := by rw [hv]; exact ov1.set (⟨_, _, rfl, ⟨_, rfl⟩, ⟨_, _, rfl, ⟨_, rfl⟩, ⟨_, _, rfl, ⟨_, rfl⟩, ⟨_, _, rfl, ⟨_, _, rfl, oz3.1, oz3.2⟩, rfl⟩⟩⟩⟩)
                have hoN : OwnsE TCode elsN := by rw [heN]; exact ho1.set (⟨_, _, rfl, ⟨_, _, rfl, op0.1, op0.2⟩, ⟨_, _, rfl, ⟨_, _, rfl, ov.1, ov.2⟩, rfl⟩⟩)
                have hlN : elsN.length = r9.length := by rw [heN, List.length_set]; exact hl1
                have hxN : elsN[k]? = some [.own p0n 2 p0, .own p1n 4 v] := by rw [heN]; exact List.getElem?_set_self (by rw [hl1]; exact hc)
                cbv
                refine ⟨k, k, hK, hKN, by rw [hK]; exact Int.zero_add _, ?_⟩
                cbv
                refine ⟨a9n, els1, _, rfl, hx1, ?_⟩
                cbv
                refine ⟨j, j, hJ, hJL, by rw [hJ]; exact Int.zero_add _, ?_⟩
                cbv
                refine ⟨p1n, v1, _, hra, hy, ?_⟩
                cbv
                refine ⟨j, j, hJ, hJL, by rw [hJ]; exact Int.zero_add _, ?_⟩
                cbv
                refine ⟨p1n, v1, _, _, elsN, hra, hy, rfl, rfl, rfl, hrp, rfl, ?_⟩
                cbv
                have hh := hinv1 (j + 1, LI (.ari .add .i64 J 1), elsN, v) ⟨by
                  simp only
                  rw [← hI, hJ]
                  exact I_inc (by omega), by omega, hlN, hoN, hxN, by rw [hv, List.length_set]; exact hv1, ov⟩
                simp only at hh
                generalize hmu : p1.length - (j + 1) = mu at hh
                refine ⟨[], mu, by omega, ?_⟩
                refine invE hh ?_
                cbv
          · rw [← hB, B_lss, on0, hK] at hc
            have hc : k < r0.length := by simpa using hc
            have hKN : K < N0 := by rw [hK, on0]; exact Int.ofNat_lt.2 hc
            obtain ⟨x, hx, hx'⟩ := ho.at (k := k) (by omega)
            obtain ⟨p0n, p0, p1n, p1, rfl, op0, op1⟩ := own_type hx'
            cbv
            refine loopR (α := Nat × Int × List (List PV) × List (List PV)) [] 26 (Nat.zero_le _) (fun s a => (s.sett 9 (.p (.int .i64 a.2.1))).ob 2 (.row a0n 2 a.2.2.1)) (fun a => p0.length - a.1) (fun a => a.2.1 = a.1 ∧ a.1 ≤ p0.length ∧ a.2.2.1.length = r0.length ∧ OwnsE TType a.2.2.1 ∧ a.2.2.1[k]? = some [.own p0n 1 a.2.2.2, .own p1n 1 p1] ∧ a.2.2.2.length = p0.length ∧ OwnsE TU8 a.2.2.2) (0, 0, els, p0) ⟨rfl, Nat.zero_le _, hl, ho, hx, rfl, op0⟩ (by cbv) ?_
            rintro S1 hS1 inv1 hinv1 ⟨j, J, els1, v1⟩ ⟨hJ, hj, hl1, ho1, hx1, hv1, ov1⟩
            subst hS1
            simp only at hJ hj hl1 ho1 hx1 hv1 ov1
            have hzv1 := ov1.1
            have lv1 : LI (.len v1) = v1.length := by rw [← hI]; rfl
            cbv
            refine ⟨k, k, hK, hKN, by rw [hK]; exact Int.zero_add _, ?_⟩
            cbv
            refine ⟨a0n, els1, _, rfl, hx1, ?_⟩
            cbv
            cases hcj : LB (.cmp .lss J (LI (.len v1)))
            · clear hinv1
              cbv
              have hh := hinv (k + 1, LI (.ari .add .i64 K 1), els1) ⟨by
                simp only
                rw [← hI, hK]
                exact I_inc (by omega), hc, hl1, ho1⟩
              simp only at hh
              generalize hmu : r0.length - (k + 1) = mu at hh
              refine ⟨[], mu, by omega, ?_⟩
              refine invE hh ?_
              cbv
            · rw [← hB, B_lss, lv1, hJ] at hcj
              have hcj : j < v1.length := by simpa using hcj
              have hJL : J < LI (.len v1) := by rw [hJ, lv1]; exact Int.ofNat_lt.2 hcj
              obtain ⟨y, hy, hy'⟩ := ov1.at hcj
              obtain ⟨z0, rfl⟩ := own_u8 hy'
              obtain ⟨v, hv⟩ : ∃ l, l = v1.set j [.int .u8 (LI (.ari .add .u8 z0 1))] := ⟨_, rfl⟩
              obtain ⟨elsN, heN⟩ : ∃ l, l = els1.set k [.own p0n 1 v, .own p1n 1 p1] := ⟨_, rfl⟩
              have hra : rowAt a0n els1 [(k, 0)] = some (p0n, v1) := by simp only [rowAt, hx1]; rfl
              have hrp : rowPut els1 [(k, 0)] (v1.set j [.int .u8 (LI (.ari .add .u8 z0 1))]) = some elsN := by simp only [rowPut, hx1, heN, hv]; rfl
              have ov : OwnsE TU8 v := by rw [hv]; exact ov1.set (⟨_, _, rfl, ⟨_, rfl⟩, rfl⟩)
              have hoN : OwnsE TType elsN := by rw [heN]; exact ho1.set (⟨_, _, rfl, ⟨_, _, rfl, ov.1, ov.2⟩, ⟨_, _, rfl, ⟨_, _, rfl, op1.1, op1.2⟩, rfl⟩⟩)
              have hlN : elsN.length = r0.length := by rw [heN, List.length_set]; exact hl1
              have hxN : elsN[k]? = some [.own p0n 1 v, .own p1n 1 p1] := by rw [heN]; exact List.getElem?_set_self (by rw [hl1]; exact hc)
              cbv
              refine ⟨k, k, hK, hKN, by rw [hK]; exact Int.zero_add _, ?_⟩
              cbv
              refine ⟨a0n, els1, _, rfl, hx1, ?_⟩
              cbv
              refine ⟨j, j, hJ, hJL, by rw [hJ]; exact Int.zero_add _, ?_⟩
              cbv
              refine ⟨p0n, v1, _, hra, hy, ?_⟩
              cbv
              refine ⟨j, j, hJ, hJL, by rw [hJ]; exact Int.zero_add _, ?_⟩
              cbv
              refine ⟨p0n, v1, _, _, elsN, hra, hy, rfl, rfl, rfl, hrp, rfl, ?_⟩
              cbv
              have hh := hinv1 (j + 1, LI (.ari .add .i64 J 1), elsN, v) ⟨by
                simp only
                rw [← hI, hJ]
                exact I_inc (by omega), by omega, hlN, hoN, hxN, by rw [hv, List.length_set]; exact hv1, ov⟩
              simp only at hh
              generalize hmu : p0.length - (j + 1) = mu at hh
              refine ⟨[], mu, by omega, ?_⟩
              refine invE hh ?_
              cbv
    · cbv
      refine ⟨[], 0, Nat.le_refl _, ?_⟩
      cbv
  · cbv
    refine ⟨[], 0, Nat.le_refl _, ?_⟩
    cbv
end Go.Ab
/- Types of the program as shapes. -/
set_option linter.unusedVariables false
set_option linter.unusedSimpArgs false
namespace Go.Ab
def tysF (g : TypeId → Option (List Ty)) : List TypeId → Option (List Ty)
  | [] => some []
  | t :: ts => match g t, tysF g ts with | some a, some b => some (a ++ b) | _, _ => none
/-- The cells of a type. -/
def tysOf (P : Program) : Nat → TypeId → Option (List Ty)
  | 0, _ => none
  | n + 1, t => match P.underlying t with
    | some (.int k) => some [.int k]
    | some .bool => some [.bool]
    | some .string => some [.str]
    | some (.slice e) => match tysOf P n e with | some l => (match Nat.beq l.length (P.cellsOf e) with | true => some [.sl l] | false => none) | none => none
    | some (.struct fs) => tysF (tysOf P n) (fs.toList.map (·.type))
    | _ => none
theorem hasL_app {a b : List Ty} {x y : List PV} (h1 : HasL a x) (h2 : HasL b y) : HasL (a ++ b) (x ++ y) := by
  induction a generalizing x with
  | nil => rw [show x = [] from h1]; exact h2
  | cons t a ih =>
    obtain ⟨c, l, rfl, h3, h4⟩ := h1
    exact ⟨c, l ++ y, rfl, h3, ih h4⟩
theorem wtf_has {P : Program} {n : Nat} (ih : ∀ t l pvs, tysOf P n t = some l → WT P 1048576 n t pvs → HasL l pvs) : ∀ (ts : List TypeId) (l : List Ty) (pvs : List PV), tysF (tysOf P n) ts = some l → WTF (WT P 1048576 n) ts pvs → HasL l pvs
  | [], l, pvs, h, hw => by
    cases h
    exact hw
  | t :: ts, l, pvs, h, hw => by
    obtain ⟨a, b, rfl, h1, h2⟩ := hw
    simp only [tysF] at h
    split at h
    · rename_i x y e1 e2
      cases h
      exact hasL_app (ih t x a e1 h1) (wtf_has ih ts y b e2 h2)
    · cases h
theorem wt_has {P : Program} : ∀ (n : Nat) (t : TypeId) (l : List Ty) (pvs : List PV), tysOf P n t = some l → WT P 1048576 n t pvs → HasL l pvs
  | 0, t, l, pvs, h, hw => by cases h
  | n + 1, t, l, pvs, h, hw => by
    simp only [tysOf] at h
    simp only [WT] at hw
    split at h
    · rename_i k e
      rw [e] at hw
      cases h
      obtain ⟨m, rfl, h1⟩ := hw
      exact ⟨_, _, rfl, ⟨m, rfl, h1⟩, rfl⟩
    · rename_i e
      rw [e] at hw
      cases h
      obtain ⟨m, rfl⟩ := hw
      exact ⟨_, _, rfl, ⟨m, rfl⟩, rfl⟩
    · rename_i e
      rw [e] at hw
      cases h
      obtain ⟨m, rfl, _⟩ := hw
      exact ⟨_, _, rfl, ⟨m, rfl⟩, rfl⟩
    · rename_i el e
      rw [e] at hw
      obtain ⟨nn, els, rfl, h1, h2, h3⟩ := hw
      split at h
      · rename_i l' e2
        split at h
        · rename_i e3
          cases h
          refine ⟨_, _, rfl, ⟨nn, els, by rw [Nat.eq_of_beq_eq_true e3], h1, h2, fun x hx => wt_has n el l' x e2 (h3 x hx)⟩, rfl⟩
        · cases h
      · cases h
    · rename_i fs e
      rw [e] at hw
      exact wtf_has (fun t l pvs => wt_has n t l pvs) _ _ _ h hw
    · cases h
theorem wts_two {P : Program} {B n : Nat} {t1 t2 : TypeId} {vs : List TV} (h : WTs P B n [t1, t2] vs) : ∃ v1 v2, vs = [v1, v2] ∧ WTv P B n t1 v1 ∧ WTv P B n t2 v2 := by
  match vs, h with
  | [v1, v2], ⟨h1, h2, _⟩ => exact ⟨v1, v2, rfl, h1, h2⟩
theorem wtv_agg {P : Program} {n : Nat} {t : TypeId} {v : TV} {l : List Ty} (h : WTv P 1048576 n t v) (ha : aggT P t = some true) (hl : tysOf P n t = some l) : ∃ x, v = .agg (plainP x) ∧ HasL l x := by
  rcases h with ⟨_, x, rfl, hx⟩ | ⟨h1, _⟩
  · exact ⟨x, rfl, wt_has n t _ _ hl hx⟩
  · rw [ha] at h1; cases h1
theorem bigL_app {a b : List Ty} {x y : List PV} (h1 : BigL a x) (h2 : BigL b y) : BigL (a ++ b) (x ++ y) := by
  induction a generalizing x with
  | nil => rw [show x = [] from h1]; exact h2
  | cons t a ih =>
    obtain ⟨c, l, rfl, h3, h4⟩ := h1
    exact ⟨c, l ++ y, rfl, h3, ih h4⟩
theorem wtf_big {P : Program} {n : Nat} (ih : ∀ t l pvs, tysOf P n t = some l → WT P 140737488355328 n t pvs → BigL l pvs) : ∀ (ts : List TypeId) (l : List Ty) (pvs : List PV), tysF (tysOf P n) ts = some l → WTF (WT P 140737488355328 n) ts pvs → BigL l pvs
  | [], l, pvs, h, hw => by
    cases h
    exact hw
  | t :: ts, l, pvs, h, hw => by
    obtain ⟨a, b, rfl, h1, h2⟩ := hw
    simp only [tysF] at h
    split at h
    · rename_i x y e1 e2
      cases h
      exact bigL_app (ih t x a e1 h1) (wtf_big ih ts y b e2 h2)
    · cases h
theorem wt_big {P : Program} : ∀ (n : Nat) (t : TypeId) (l : List Ty) (pvs : List PV), tysOf P n t = some l → WT P 140737488355328 n t pvs → BigL l pvs
  | 0, t, l, pvs, h, hw => by cases h
  | n + 1, t, l, pvs, h, hw => by
    simp only [tysOf] at h
    simp only [WT] at hw
    split at h
    · rename_i k e
      rw [e] at hw
      cases h
      obtain ⟨m, rfl, h1⟩ := hw
      exact ⟨_, _, rfl, ⟨m, rfl, h1⟩, rfl⟩
    · rename_i e
      rw [e] at hw
      cases h
      obtain ⟨m, rfl⟩ := hw
      exact ⟨_, _, rfl, ⟨m, rfl⟩, rfl⟩
    · rename_i e
      rw [e] at hw
      cases h
      obtain ⟨m, rfl, hm⟩ := hw
      exact ⟨_, _, rfl, ⟨m, rfl, hm⟩, rfl⟩
    · rename_i el e
      rw [e] at hw
      obtain ⟨nn, els, rfl, h1, h2, h3⟩ := hw
      split at h
      · rename_i l' e2
        split at h
        · rename_i e3
          cases h
          refine ⟨_, _, rfl, ⟨nn, els, by rw [Nat.eq_of_beq_eq_true e3], h1, h2, fun x hx => wt_big n el l' x e2 (h3 x hx)⟩, rfl⟩
        · cases h
      · cases h
    · rename_i fs e
      rw [e] at hw
      exact wtf_big (fun t l pvs => wt_big n t l pvs) _ _ _ h hw
    · cases h
theorem wtv_aggB {P : Program} {n : Nat} {t : TypeId} {v : TV} {l : List Ty} (h : WTv P 140737488355328 n t v) (ha : aggT P t = some true) (hl : tysOf P n t = some l) : ∃ x, v = .agg (plainP x) ∧ BigL l x := by
  rcases h with ⟨_, x, rfl, hx⟩ | ⟨h1, _⟩
  · exact ⟨x, rfl, wt_big n t _ _ hl hx⟩
  · rw [ha] at h1; cases h1
end Go.Ab
/- What weighs no more than may be is not long. -/
set_option linter.unusedVariables false
set_option linter.unusedSimpArgs false
namespace Go.Ab
variable {H : Type} {P : Program}
def Light (P : Program) (t : TypeId) (d : DataW H) : Prop := ∀ w ∈ d.weights P t, w ≤ reachBytes
theorem light_all {e : TypeId} : ∀ {l : List (DataW H)}, (∀ w ∈ DataW.weightsAll P e l, w ≤ reachBytes) → ∀ d ∈ l, Light P e d
  | [], _, d, hd => nomatch hd
  | a :: l, h, d, hd => by
    simp only [DataW.weightsAll, List.mem_append] at h
    rcases List.mem_cons.1 hd with rfl | hd
    · exact fun w hw => h w (.inl hw)
    · exact light_all (fun w hw => h w (.inr hw)) d hd
theorem light_each : ∀ {ts : List TypeId} {l : List (DataW H)}, (∀ w ∈ DataW.weightsEach P ts l, w ≤ reachBytes) → ∀ (i : Nat) (t : TypeId) (d : DataW H), ts[i]? = some t → l[i]? = some d → Light P t d
  | [], _, _, i, t, d, e, _ => by simp at e
  | _ :: _, [], _, i, t, d, _, e => by simp at e
  | t0 :: ts, a :: l, h, i, t, d, e1, e2 => by
    simp only [DataW.weightsEach, List.mem_append] at h
    cases i with
    | zero =>
      simp only [List.getElem?_cons_zero, Option.some.injEq] at e1 e2
      subst e1 e2
      exact fun w hw => h w (.inl hw)
    | succ i => exact light_each (fun w hw => h w (.inr hw)) i t d (by simpa using e1) (by simpa using e2)
theorem fit_light : Fit (H := H) P 140737488355328 (Light P) := by
  refine ⟨fun t s h => ?_, fun t e elems spare ht hb h => ?_, fun t fs parts ht h i f d e1 e2 => ?_, fun t m e parts ht h => ?_⟩
  · have := h s.length (by simp [DataW.weights])
    unfold reachBytes at this
    omega
  · unfold Light at h
    simp only [DataW.weights, ht, List.mem_cons, List.mem_append] at h
    refine ⟨?_, light_all fun w hw => h w (.inr (.inl hw))⟩
    have h1 := h _ (.inl rfl)
    have h2 : (elems.length + spare.length) * 1 ≤ (elems.length + spare.length) * P.bytesOf e := Nat.mul_le_mul_left _ hb
    unfold reachBytes at h1
    omega
  · unfold Light at h
    simp only [DataW.weights, ht] at h
    exact light_each h i f.type d (by rw [List.getElem?_map]; simp [e1]) e2
  · unfold Light at h
    simp only [DataW.weights, ht] at h
    exact light_all h
theorem fitL_light : ∀ {ts us : List TypeId} {ds gs : List (DataW H)}, (∀ w ∈ DataW.weightsEach P (ts ++ us) (ds ++ gs), w ≤ reachBytes) → ts.length = ds.length → FitL (Light P) ts ds
  | [], _, [], _, _, _ => trivial
  | [], _, _ :: _, _, _, hl => by simp at hl
  | _ :: _, _, [], _, _, hl => by simp at hl
  | t :: ts, us, d :: ds, gs, h, hl => by
    simp only [List.cons_append, DataW.weightsEach, List.mem_append] at h
    exact ⟨fun w hw => h w (.inl hw), fitL_light (us := us) (gs := gs) (fun w hw => h w (.inr hw)) (by simpa using hl)⟩
end Go.Ab
/- bytebarnlaw07.ReadSame returns true and leaves its arguments as they were, whatever the two modules are. No condition. -/
set_option linter.unusedVariables false
set_option linter.unusedSimpArgs false
namespace Go.Proofs.Ytgmhdbkdfpfplaa
open Go.ChangeShapes Go.WideShapes Go.ChangeAt Go.RowKit Go.Ab

theorem Try.own : ownKnob Try.prog.godebug = none := by kernel_rfl
theorem Try.laidOut : laidOutB Try.prog = true := by kernel_rfl

theorem pars3 : Try.f3.params.toList = [32, 32] := by kernel_rfl
theorem agg32 : aggT Try.prog 32 = some true := by kernel_rfl
theorem tys32 : tysOf Try.prog 8 32 = some TModule := by kernel_rfl
theorem runs3 (vs : List TV) (h : WTs Try.prog 140737488355328 8 Try.f3.params.toList vs) : ∃ objs, Runs Try.prog 3 vs [] (.ret (.p (.bool true)) objs) := by
  rw [pars3] at h
  obtain ⟨v1, v2, rfl, h1, h2⟩ := wts_two h
  obtain ⟨x, rfl, hx⟩ := wtv_aggB h1 agg32 tys32
  obtain ⟨y, rfl, hy⟩ := wtv_aggB h2 agg32 tys32
  exact ⟨[], spec3 x y hx hy⟩

set_option maxRecDepth 100000 in
theorem readSame_lifted (os : Os) (started : os.Started) (H : Type) (enc : TypeId × Value → H) :
    ReturnsInHanded {} Try.checked os 3 .any (Rows.readSameSpec.pre6 enc Try.prog Try.f3 Rows.readSameRow.domain false) (Rows.readSameSpec.post enc Try.prog Try.f3 false true false false) := by
  have e : Rows.readSameSpec.pre6 enc Try.prog Try.f3 Rows.readSameRow.domain false = fun w args => (Rows.readSameSpec.pre enc Try.prog Try.f3 Rows.readSameRow.domain false w args ∧ (fun (_ : World) (_ : Array Value) => True) w args) ∧ sizedMet enc Try.prog Try.f3 (OpenSpec.ofChange Rows.readSameSpec) false w args := by
    funext w args
    exact propext ⟨fun h => ⟨⟨h.1, trivial⟩, h.2⟩, fun h => ⟨h.1.1, h.2⟩⟩
  have hw := ChangeSpec.witness6 (enc := enc) (C := Try.checked) (s := Rows.readSameSpec) (conds := Rows.readSameRow.domain) (apart := false) (fn := Try.f3) (f := 3) (os := os) false
        ⟨#[], #[.agg #[.slice none 0 0, .slice none 0 0, .slice none 0 0, .slice none 0 0, .slice none 0 0, .slice none 0 0, .slice none 0 0, .slice none 0 0, .slice none 0 0, .slice none 0 0, .slice none 0 0], .agg #[.slice none 0 0, .slice none 0 0, .slice none 0 0, .slice none 0 0, .slice none 0 0, .slice none 0 0, .slice none 0 0, .slice none 0 0, .slice none 0 0, .slice none 0 0, .slice none 0 0]], []⟩ 8 (by kernel_rfl) (by kernel_rfl) (by kernel_rfl) (by kernel_rfl)
  rw [e]
  refine returnsInHanded_of_change_and (C := Try.checked) (X := fun _ _ => True) (fun _ _ _ _ h => h) Try.own started (by kernel_rfl) Try.func3 ?_ ?_
  · obtain ⟨w, tape, i, h1, h2, h3, h4, h5, h6⟩ := hw
    exact ⟨w, tape, i, h1, h2, h3, h4, ⟨⟨h5.1, trivial⟩, h5.2⟩, h6⟩
  · intro W base args ds gs before hval hW _ hwt _ _
    have hlen := hW
    obtain ⟨p, q, hA, _⟩ := hlen
    exact law_contract (P := Try.prog) (B := 140737488355328) (n := 8) (tb := 4) Try.func3 body3 name3 Try.laidOut (by kernel_rfl) (by kernel_rfl) (by kernel_rfl) (by kernel_rfl) rfl
      (fun ds hl => by
        match ds, hl with
        | [d1, d2], _ => rfl) runs3 hval hW fit_light (fitL_light (fun w hw => by simpa using List.all_eq_true.1 hwt w hw) (trodAll_length hA).2.symm)

theorem readSame_holds : Rows.ReadSameSaid :=
  OpenClaim.holds_of_wide 3 Try.f3 rfl rfl rfl rfl rfl rfl rfl ⟨rfl, rfl, rfl, rfl, rfl⟩ rfl rfl rfl rfl rfl (by kernel_rfl) Try.func3 (by kernel_rfl)
    (of_decide_eq_true (by kernel_rfl)) (by unfold Func.isWrapper; first | (rw [if_pos (by decide +kernel)]; kernel_rfl) | (rw [if_neg (by decide +kernel)]; exact ⟨rfl, rfl⟩))
    (fun os started H enc _ => readSame_lifted os started H enc)
#print axioms readSame_holds
end Go.Proofs.Ytgmhdbkdfpfplaa
