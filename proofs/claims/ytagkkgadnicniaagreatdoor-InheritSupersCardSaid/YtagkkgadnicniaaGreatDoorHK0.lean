/-
  Printed by facts.py: closed calls and their answers.
-/
import Derived.Test.YtagkkgadnicniaaGreatDoorHB
set_option maxRecDepth 20000
namespace Go.Zev.Is
open Go Go.Zev Go.Proofs
noncomputable def w0 : AV := .fs 4 false [[.b false, .s 3 7630441, .s 1 120, .nsl], [.b false, .s 3 7630441, .s 1 121, .nsl]]
noncomputable def w1 : AV := .fs 2 false [[.s 3 7630441, .s 1 97]]
noncomputable def w2 : AV := .fs 9 false [[.i .i64 3, .i .i32 0, .s 0 0, .s 0 0, .fs 8 true [[.i .i64 11, .i .i32 0, .s 0 0, .s 1 102, .s 0 0, .nsl, .s 0 0, .i .i64 0]], .nsl, .nsl, .nsl, .i .i64 0]]
noncomputable def w3 : AV := .fs 6 false [[.b false, .b true, .s 0 0, .s 0 0, w1, .nsl], [.b false, .b false, .s 4 1684631414, .s 1 102, .nsl, .nsl], [.b false, .b false, .s 4 1684631414, .s 1 103, .nsl, w2]]
noncomputable def w4 : AV := .fs 4 false [[.b false, .s 3 7630441, .s 1 120, .nsl]]
noncomputable def w5 : AV := .fs 9 false [[.i .i64 11, .i .i32 0, .s 0 0, .s 0 0, .fs 8 false [[.i .i64 1, .i .i32 1, .s 0 0, .s 0 0, .s 0 0, .nsl, .s 0 0, .i .i64 0]], .nsl, .nsl, .nsl, .i .i64 0]]
noncomputable def w6 : AV := .fs 8 true [[.i .i64 6, .i .i32 0, .s 0 0, .s 1 120, .s 0 0, .nsl, .s 0 0, .i .i64 0], [.i .i64 1, .i .i32 1, .s 0 0, .s 0 0, .s 0 0, .nsl, .s 0 0, .i .i64 0]]
noncomputable def w7 : AV := .fs 9 false [[.i .i64 2, .i .i32 0, .s 0 0, .s 0 0, w6, .nsl, .nsl, .nsl, .i .i64 0], [.i .i64 3, .i .i32 0, .s 0 0, .s 0 0, .fs 8 true [[.i .i64 12, .i .i32 0, .s 0 0, .s 1 102, .s 0 0, .nsl, .s 0 0, .i .i64 0]], .nsl, .nsl, .nsl, .i .i64 0], [.i .i64 7, .i .i32 0, .s 0 0, .s 0 0, .fs 8 true [[.i .i64 8, .i .i32 0, .s 0 0, .s 1 121, .s 0 0, .nsl, .s 0 0, .i .i64 0]], .nsl, .nsl, .nsl, .i .i64 0]]
noncomputable def w8 : AV := .fs 4 false [[.s 1 65, .s 0 0, w0, w3], [.s 1 66, .s 1 65, w4, .fs 6 false [[.b false, .b true, .s 0 0, .s 0 0, .nsl, w5], [.b false, .b false, .s 4 1684631414, .s 1 102, .nsl, w7]]]]
noncomputable def ka0 : List AV := [.s 162 0x7d207d203b792e726570757320746e697270203b2928662e7265707573203b31203d2078207b202928662064696f76207d203b2931287265707573207b20292842203b7820746e69207b20412073646e657478652042207373616c63207d207d203b292866207b202928672064696f76207d207b202928662064696f76207d207b20296120746e692841203b7920746e69203b7820746e69207b2041207373616c63]
noncomputable def kl0 : List Known := ⟨12, ka0, .tup [.agg [w8], .i .i64 0, .i .i64 0]⟩ :: []
noncomputable def w9 : AV := .fs 9 false [[.i .i64 3, .i .i32 0, .s 0 0, .s 0 0, .fs 8 false [[.i .i64 11, .i .i32 0, .s 0 0, .s 1 102, .s 0 0, .nsl, .s 1 65, .i .i64 1]], .nsl, .nsl, .nsl, .i .i64 0]]
noncomputable def w10 : AV := .fs 6 false [[.b false, .b true, .s 0 0, .s 0 0, w1, .nsl], [.b false, .b false, .s 4 1684631414, .s 1 102, .nsl, .nsl], [.b false, .b false, .s 4 1684631414, .s 1 103, .nsl, w9]]
noncomputable def w11 : AV := .fs 8 false [[.i .i64 6, .i .i32 0, .s 0 0, .s 1 120, .s 0 0, .nsl, .s 1 66, .i .i64 0], [.i .i64 1, .i .i32 1, .s 0 0, .s 0 0, .s 0 0, .nsl, .s 0 0, .i .i64 0]]
noncomputable def w12 : AV := .fs 9 false [[.i .i64 2, .i .i32 0, .s 0 0, .s 0 0, w11, .nsl, .nsl, .nsl, .i .i64 0], [.i .i64 3, .i .i32 0, .s 0 0, .s 0 0, .fs 8 false [[.i .i64 12, .i .i32 0, .s 0 0, .s 1 102, .s 0 0, .nsl, .s 1 65, .i .i64 1]], .nsl, .nsl, .nsl, .i .i64 0], [.i .i64 7, .i .i32 0, .s 0 0, .s 0 0, .fs 8 false [[.i .i64 8, .i .i32 0, .s 0 0, .s 1 121, .s 0 0, .nsl, .s 1 65, .i .i64 1]], .nsl, .nsl, .nsl, .i .i64 0]]
noncomputable def w13 : AV := .fs 4 false [[.s 1 65, .s 0 0, w0, w10], [.s 1 66, .s 1 65, w4, .fs 6 false [[.b false, .b true, .s 0 0, .s 0 0, .nsl, w5], [.b false, .b false, .s 4 1684631414, .s 1 102, .nsl, w12]]]]
noncomputable def kl1 : List Known := ⟨13, [.agg [w8]], .tup [.agg [w13], .i .i64 0, .s 0 0]⟩ :: kl0
noncomputable def kl2 : List Known := ⟨9, [], .b true⟩ :: kl1
noncomputable abbrev mAll : FuncId → Option (List AV → Option AV) := memoL 12800 kl2
end Go.Zev.Is
