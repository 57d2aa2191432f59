/- Functions. -/
import Derived.Test.YtnfoaablgldjcaaGreatGSl
set_option linter.unusedVariables false
set_option maxRecDepth 100000
set_option maxHeartbeats 0
namespace Go.Sy
noncomputable section
/- quarry/gas.Base -/
def fb47 : AFunc2 := ⟨102, [.tmp g4], .seq (.reg [
oBox w2 44 g0,
oP w4 (pMv (gC (.w (.s (zu64)))))]) (.seq (.seq (.reg [
oP w5 (pFaddr 0 g2),
oR w6 (rLoad none g5),
oP w7 (pMv g1),
oCall w8 57 [g6, g7],
oP w9 (pNot g8)]) (.cond g9 (.seq (.reg [
oP w4 (pMv (gC (.w (.s (zu64)))))]) (.ret)) (.skip))) (.seq (.block 0 (.seq (.seq (.reg [
oP w11 (pMv g1),
oCall w12 61 [g11, (gC (.w (.s (ni64 16)))), (gC (.w (.s (ni64 29))))],
oP w10 (pMv g12)]) (.cond g10 (.skip) (.seq (.reg [
oP w13 (pMv g1),
oCall w14 61 [g13, (gC (.w (.s (ni64 81)))), (gC (.w (.s (ni64 83))))],
oP w10 (pMv g14)]) (.cond g10 (.skip) (.reg [
oP w15 (pMv g1),
oCall w16 61 [g15, (gC (.w (.s (ni64 96)))), (gC (.w (.s (ni64 159))))],
oP w10 (pMv g16)]))))) (.cond g10 (.seq (.reg [
oP w4 (pMv (gC (.w (.s (nu64 3)))))]) (.ret)) (.seq (.seq (.reg [
oP w18 (pMv g1),
oCall w19 61 [g18, (gC (.w (.s (ni64 50)))), (gC (.w (.s (ni64 52))))],
oP w17 (pMv g19)]) (.cond g17 (.skip) (.seq (.reg [
oP w20 (pMv g1),
oCall w21 61 [g20, (gC (.w (.s (ni64 65)))), (gC (.w (.s (ni64 70))))],
oP w17 (pMv g21)]) (.cond g17 (.skip) (.reg [
oP w22 (pMv g1),
oCall w23 61 [g22, (gC (.w (.s (ni64 88)))), (gC (.w (.s (ni64 90))))],
oP w17 (pMv g23)]))))) (.cond g17 (.seq (.reg [
oP w4 (pMv (gC (.w (.s (nu64 2)))))]) (.ret)) (.seq (.reg [
oP w25 (pMv g1),
oCall w26 61 [g25, (gC (.w (.s (ni64 160)))), (gC (.w (.s (ni64 164))))],
oP w24 (pMv g26)]) (.cond g24 (.seq (.reg [
oP w4 (pMv (gC (.w (.s (nu64 375)))))]) (.ret)) (.skip)))))))) (.seq (.seq (.reg [
oP w27 (pMv g1)]) (.block 1 (.seq (.seq (.reg [
oK w29 (bCmp 0 intEq .eq false g27 (gC (.w (.s (ni64 48))))),
oP w28 (pMv g29)]) (.cond g28 (.skip) (.seq (.reg [
oK w30 (bCmp 0 intEq .eq false g27 (gC (.w (.s (ni64 54))))),
oP w28 (pMv g30)]) (.cond g28 (.skip) (.seq (.reg [
oK w31 (bCmp 0 intEq .eq false g27 (gC (.w (.s (ni64 56))))),
oP w28 (pMv g31)]) (.cond g28 (.skip) (.seq (.reg [
oK w32 (bCmp 0 intEq .eq false g27 (gC (.w (.s (ni64 58))))),
oP w28 (pMv g32)]) (.cond g28 (.skip) (.seq (.reg [
oK w33 (bCmp 0 intEq .eq false g27 (gC (.w (.s (ni64 61))))),
oP w28 (pMv g33)]) (.cond g28 (.skip) (.seq (.reg [
oK w34 (bCmp 0 intEq .eq false g27 (gC (.w (.s (ni64 72))))),
oP w28 (pMv g34)]) (.cond g28 (.skip) (.seq (.reg [
oK w35 (bCmp 0 intEq .eq false g27 (gC (.w (.s (ni64 74))))),
oP w28 (pMv g35)]) (.cond g28 (.skip) (.seq (.reg [
oK w36 (bCmp 0 intEq .eq false g27 (gC (.w (.s (ni64 80))))),
oP w28 (pMv g36)]) (.cond g28 (.skip) (.reg [
oK w37 (bCmp 0 intEq .eq false g27 (gC (.w (.s (ni64 95))))),
oP w28 (pMv g37)]))))))))))))))))) (.cond g28 (.seq (.reg [
oP w4 (pMv (gC (.w (.s (nu64 2)))))]) (.ret)) (.seq (.seq (.reg [
oK w39 (bCmp 0 intEq .eq false g27 (gC (.w (.s (ni64 1))))),
oP w38 (pMv g39)]) (.cond g38 (.skip) (.seq (.reg [
oK w40 (bCmp 0 intEq .eq false g27 (gC (.w (.s (ni64 3))))),
oP w38 (pMv g40)]) (.cond g38 (.skip) (.seq (.reg [
oK w41 (bCmp 0 intEq .eq false g27 (gC (.w (.s (ni64 53))))),
oP w38 (pMv g41)]) (.cond g38 (.skip) (.seq (.reg [
oK w42 (bCmp 0 intEq .eq false g27 (gC (.w (.s (ni64 55))))),
oP w38 (pMv g42)]) (.cond g38 (.skip) (.seq (.reg [
oK w43 (bCmp 0 intEq .eq false g27 (gC (.w (.s (ni64 57))))),
oP w38 (pMv g43)]) (.cond g38 (.skip) (.seq (.reg [
oK w44 (bCmp 0 intEq .eq false g27 (gC (.w (.s (ni64 62))))),
oP w38 (pMv g44)]) (.cond g38 (.skip) (.seq (.reg [
oK w45 (bCmp 0 intEq .eq false g27 (gC (.w (.s (ni64 73))))),
oP w38 (pMv g45)]) (.cond g38 (.skip) (.reg [
oK w46 (bCmp 0 intEq .eq false g27 (gC (.w (.s (ni64 94))))),
oP w38 (pMv g46)]))))))))))))))) (.cond g38 (.seq (.reg [
oP w4 (pMv (gC (.w (.s (nu64 3)))))]) (.ret)) (.seq (.seq (.reg [
oK w48 (bCmp 0 intEq .eq false g27 (gC (.w (.s (ni64 2))))),
oP w47 (pMv g48)]) (.cond g47 (.skip) (.seq (.reg [
oK w49 (bCmp 0 intEq .eq false g27 (gC (.w (.s (ni64 4))))),
oP w47 (pMv g49)]) (.cond g47 (.skip) (.seq (.reg [
oK w50 (bCmp 0 intEq .eq false g27 (gC (.w (.s (ni64 5))))),
oP w47 (pMv g50)]) (.cond g47 (.skip) (.seq (.reg [
oK w51 (bCmp 0 intEq .eq false g27 (gC (.w (.s (ni64 6))))),
oP w47 (pMv g51)]) (.cond g47 (.skip) (.seq (.reg [
oK w52 (bCmp 0 intEq .eq false g27 (gC (.w (.s (ni64 7))))),
oP w47 (pMv g52)]) (.cond g47 (.skip) (.seq (.reg [
oK w53 (bCmp 0 intEq .eq false g27 (gC (.w (.s (ni64 11))))),
oP w47 (pMv g53)]) (.cond g47 (.skip) (.reg [
oK w54 (bCmp 0 intEq .eq false g27 (gC (.w (.s (ni64 71))))),
oP w47 (pMv g54)]))))))))))))) (.cond g47 (.seq (.reg [
oP w4 (pMv (gC (.w (.s (nu64 5)))))]) (.ret)) (.seq (.seq (.reg [
oK w56 (bCmp 0 intEq .eq false g27 (gC (.w (.s (ni64 8))))),
oP w55 (pMv g56)]) (.cond g55 (.skip) (.seq (.reg [
oK w57 (bCmp 0 intEq .eq false g27 (gC (.w (.s (ni64 9))))),
oP w55 (pMv g57)]) (.cond g55 (.skip) (.reg [
oK w58 (bCmp 0 intEq .eq false g27 (gC (.w (.s (ni64 86))))),
oP w55 (pMv g58)]))))) (.cond g55 (.seq (.reg [
oP w4 (pMv (gC (.w (.s (nu64 8)))))]) (.ret)) (.seq (.seq (.reg [
oK w60 (bCmp 0 intEq .eq false g27 (gC (.w (.s (ni64 10))))),
oP w59 (pMv g60)]) (.cond g59 (.skip) (.reg [
oK w61 (bCmp 0 intEq .eq false g27 (gC (.w (.s (ni64 87))))),
oP w59 (pMv g61)]))) (.cond g59 (.seq (.reg [
oP w4 (pMv (gC (.w (.s (nu64 10)))))]) (.ret)) (.seq (.reg [
oK w63 (bCmp 0 intEq .eq false g27 (gC (.w (.s (ni64 32))))),
oP w62 (pMv g63)]) (.cond g62 (.seq (.reg [
oP w4 (pMv (gC (.w (.s (nu64 30)))))]) (.ret)) (.seq (.reg [
oK w65 (bCmp 0 intEq .eq false g27 (gC (.w (.s (ni64 64))))),
oP w64 (pMv g65)]) (.cond g64 (.seq (.reg [
oP w4 (pMv (gC (.w (.s (nu64 20)))))]) (.ret)) (.seq (.reg [
oK w67 (bCmp 0 intEq .eq false g27 (gC (.w (.s (ni64 91))))),
oP w66 (pMv g67)]) (.cond g66 (.seq (.reg [
oP w4 (pMv (gC (.w (.s (nu64 1)))))]) (.ret)) (.seq (.seq (.reg [
oK w69 (bCmp 0 intEq .eq false g27 (gC (.w (.s (ni64 92))))),
oP w68 (pMv g69)]) (.cond g68 (.skip) (.reg [
oK w70 (bCmp 0 intEq .eq false g27 (gC (.w (.s (ni64 93))))),
oP w68 (pMv g70)]))) (.cond g68 (.seq (.reg [
oP w4 (pMv (gC (.w (.s (nu64 100)))))]) (.ret)) (.seq (.reg [
oK w72 (bCmp 0 intEq .eq false g27 (gC (.w (.s (ni64 49))))),
oP w71 (pMv g72)]) (.cond g71 (.seq (.reg [
oP w73 (pFaddr 10 g2),
oR w74 (rLoad none g73),
oP w4 (pMv g74)]) (.ret)) (.seq (.seq (.reg [
oK w76 (bCmp 0 intEq .eq false g27 (gC (.w (.s (ni64 59))))),
oP w75 (pMv g76)]) (.cond g75 (.skip) (.reg [
oK w77 (bCmp 0 intEq .eq false g27 (gC (.w (.s (ni64 60))))),
oP w75 (pMv g77)]))) (.cond g75 (.seq (.reg [
oP w78 (pFaddr 11 g2),
oR w79 (rLoad none g78),
oP w4 (pMv g79)]) (.ret)) (.seq (.reg [
oK w81 (bCmp 0 intEq .eq false g27 (gC (.w (.s (ni64 63))))),
oP w80 (pMv g81)]) (.cond g80 (.seq (.reg [
oP w82 (pFaddr 12 g2),
oR w83 (rLoad none g82),
oP w4 (pMv g83)]) (.ret)) (.seq (.reg [
oK w85 (bCmp 0 intEq .eq false g27 (gC (.w (.s (ni64 84))))),
oP w84 (pMv g85)]) (.cond g84 (.seq (.reg [
oP w86 (pFaddr 13 g2),
oR w87 (rLoad none g86),
oP w4 (pMv g87)]) (.ret)) (.seq (.seq (.reg [
oK w89 (bCmp 0 intEq .eq false g27 (gC (.w (.s (ni64 241))))),
oP w88 (pMv g89)]) (.cond g88 (.skip) (.seq (.reg [
oK w90 (bCmp 0 intEq .eq false g27 (gC (.w (.s (ni64 242))))),
oP w88 (pMv g90)]) (.cond g88 (.skip) (.seq (.reg [
oK w91 (bCmp 0 intEq .eq false g27 (gC (.w (.s (ni64 244))))),
oP w88 (pMv g91)]) (.cond g88 (.skip) (.reg [
oK w92 (bCmp 0 intEq .eq false g27 (gC (.w (.s (ni64 250))))),
oP w88 (pMv g92)]))))))) (.cond g88 (.seq (.reg [
oP w93 (pFaddr 14 g2),
oR w94 (rLoad none g93),
oP w4 (pMv g94)]) (.ret)) (.seq (.reg [
oK w96 (bCmp 0 intEq .eq false g27 (gC (.w (.s (ni64 255))))),
oP w95 (pMv g96)]) (.cond g95 (.seq (.reg [
oP w97 (pFaddr 18 g2),
oR w98 (rLoad none g97),
oP w4 (pMv g98)]) (.ret)) (.seq (.seq (.reg [
oK w100 (bCmp 0 intEq .eq false g27 (gC (.w (.s (ni64 240))))),
oP w99 (pMv g100)]) (.cond g99 (.skip) (.reg [
oK w101 (bCmp 0 intEq .eq false g27 (gC (.w (.s (ni64 245))))),
oP w99 (pMv g101)]))) (.cond g99 (.seq (.reg [
oP w4 (pMv (gC (.w (.s (nu64 32000)))))]) (.ret)) (.skip))))))))))))))))))))))))))))))))))) (.seq (.reg [
oP w4 (pMv (gC (.w (.s (zu64)))))]) (.ret)))))⟩
theorem fp47 : ∃ fn, fb47 = denF fn ∧ ∃ func code hint, FnOk Go.Proofs.Tryz.prog TT 47 fn func code hint := f2_mk (func := Go.Proofs.Tryz.f47) (code := bodyOf Go.Proofs.Tryz.f47) (hint := hintL []) (n := 102) (res := [.tmp 4]) Go.Proofs.Tryz.func47 Go.Proofs.Tryz.call47 (by kernel_rfl) (by kernel_rfl) (by kernel_rfl) (by kernel_rfl) (by kernel_rfl)
/- (*quarry/vm.machine).makes -/
def fb48 : AFunc2 := ⟨129, [.cell (rLoad (some 23) g6)], .seq (.reg [
oBox w4 129 g1,
oAlloc w6 131 [zi64, .nils, zu64, zu8, zu8, zu8, zu8, zu8, zu8, zu8, zu8, zu8, zu8, zu8, zu8, zu8, zu8, zu8, zu8, zu8, zu8, zu8, zu8]]) (.seq (.draw [
⟨0, ⟨(some 12), .p (.mv (.t 0)), none⟩, 0, 0⟩,
⟨1, ⟨(some 13), .p (.nilCheck (.t 12)), none⟩, 1, 0⟩,
⟨2, ⟨(some 14), .p (.faddr 89 (.t 13)), none⟩, 3, 0⟩,
⟨3, ⟨(some 15), .r (.load none (.t 14)), none⟩, 7, 0⟩,
⟨4, ⟨(some 16), .p (.faddr 0 (.t 4)), none⟩, 0, 0⟩,
⟨5, ⟨(some 17), .r (.load (some 20) (.t 16)), none⟩, 16, 0⟩,
⟨6, ⟨(some 18), .b (.call 62 [(.t 15), (.t 17)]), none⟩, 63, 0⟩,
⟨7, ⟨(some 7), .p (.mv (.t 18)), none⟩, 127, 0⟩]) (.seq (.seq (.reg [
oP w19 (pMv g0),
oP w20 (pFaddr 0 g4),
oR w21 (rLoad (some 20) g20),
oP w22 (pFaddr 60 g4),
oR w23 (rLoad (some 4) g22),
oCall w24 63 [g19, g21, g23],
oP w25 (pNot g24),
oP w26 (pMv g25),
oGd g26 false w27 (oP w27 (pMv g7)),
oGd g26 false w28 (oK w28 (bCmp 0 intEq .eq false g27 (gC (.w (.s (nu64 18446744073709551615)))))),
oP w29 (pGen fun _ t => opPick t (.t 26) (.c (.w (.s (.bool true)))) (.t 28))]) (.cond g29 (.seq (.reg [
oP w30 (pFaddr 65 g4),
oR w31 (rLoad none g30),
oCall w32 64 [g31],
oK wZ (bSt 23 g6 g32)]) (.ret)) (.skip))) (.seq (.draw [
⟨0, ⟨(some 33), .p (.mv (.t 0)), none⟩, 0, 0⟩,
⟨1, ⟨(some 34), .p (.nilCheck (.t 33)), none⟩, 1, 0⟩,
⟨2, ⟨(some 35), .p (.faddr 89 (.t 34)), none⟩, 3, 0⟩,
⟨3, ⟨(some 36), .r (.load none (.t 35)), none⟩, 7, 0⟩,
⟨4, ⟨(some 37), .p (.faddr 0 (.t 4)), none⟩, 0, 0⟩,
⟨5, ⟨(some 38), .r (.load (some 20) (.t 37)), none⟩, 16, 0⟩,
⟨6, ⟨(some 39), .p (.mv (.t 7)), none⟩, 0, 0⟩,
⟨7, ⟨(some 40), .p (.ar 0 (.t 39) (.c (.w (.s (nu64 1))))), none⟩, 64, 0⟩,
⟨8, ⟨(some 41), .b (.call 65 [(.t 36), (.t 38), (.t 40)]), none⟩, 255, 0⟩]) (.seq (.reg [
oP w42 (pMv g2),
oP w43 (pMv g7),
oCallv w44 g42 [g43],
oAlloc w8 30 zz0,
oK wZ (bSt 20 g8 g44)]) (.seq (.seq (.reg [
oP w45 (pMv g0),
oCall w46 66 [g45, (gC (.w (.s (ni64 9))))]]) (.cond g46 (.draw [
⟨0, ⟨(some 47), .p (.mv (.t 0)), none⟩, 0, 0⟩,
⟨1, ⟨(some 48), .p (.nilCheck (.t 47)), none⟩, 1, 0⟩,
⟨2, ⟨(some 49), .p (.faddr 89 (.t 48)), none⟩, 3, 0⟩,
⟨3, ⟨(some 50), .r (.load none (.t 49)), none⟩, 7, 0⟩,
⟨4, ⟨(some 51), .r (.load (some 20) (.t 8)), none⟩, 0, 0⟩,
⟨5, ⟨(some 52), .b (.call 67 [(.t 50), (.t 51)]), none⟩, 31, 0⟩]) (.skip))) (.seq (.seq (.draw [
⟨0, ⟨(some 53), .p (.mv (.t 0)), none⟩, 0, 0⟩,
⟨1, ⟨(some 54), .p (.nilCheck (.t 53)), none⟩, 1, 0⟩,
⟨2, ⟨(some 55), .p (.faddr 89 (.t 54)), none⟩, 3, 0⟩,
⟨3, ⟨(some 56), .r (.load none (.t 55)), none⟩, 7, 0⟩,
⟨4, ⟨(some 57), .r (.load (some 20) (.t 8)), none⟩, 0, 0⟩,
⟨5, ⟨(some 58), .b (.call 62 [(.t 56), (.t 57)]), none⟩, 31, 0⟩,
⟨6, ⟨(some 59), .b (.cmp 1 .int (.t 58) (.c (.w (.s (zu64))))), none⟩, 63, 0⟩,
⟨7, ⟨(some 60), .p (.mv (.t 59)), none⟩, 127, 0⟩,
⟨8, ⟨(some 61), .p (.mv (.t 0)), some (60, false)⟩, 255, 0⟩,
⟨9, ⟨(some 62), .p (.nilCheck (.t 61)), some (60, false)⟩, 511, 0⟩,
⟨10, ⟨(some 63), .p (.faddr 89 (.t 62)), some (60, false)⟩, 1023, 0⟩,
⟨11, ⟨(some 64), .r (.load none (.t 63)), some (60, false)⟩, 2047, 0⟩,
⟨12, ⟨(some 65), .r (.load (some 20) (.t 8)), some (60, false)⟩, 255, 0⟩,
⟨13, ⟨(some 66), .b (.call 35 [(.t 64), (.t 65)]), some (60, false)⟩, 8191, 0⟩,
⟨14, ⟨(some 67), .p (.len (.t 66)), some (60, false)⟩, 16383, 0⟩,
⟨15, ⟨(some 68), .b (.cmp 4 .int (.t 67) (.c (.w (.s (zi64))))), some (60, false)⟩, 32767, 0⟩,
⟨16, ⟨(some 69), .p (.pick (.t 60) (.c (.w (.s (.bool true)))) (.t 68)), none⟩, 65535, 0⟩,
⟨17, ⟨(some 70), .p (.mv (.t 69)), none⟩, 131071, 0⟩,
⟨18, ⟨(some 71), .p (.mv (.t 0)), some (70, false)⟩, 262143, 0⟩,
⟨19, ⟨(some 72), .p (.nilCheck (.t 71)), some (70, false)⟩, 524287, 0⟩,
⟨20, ⟨(some 73), .p (.faddr 89 (.t 72)), some (70, false)⟩, 1048575, 0⟩,
⟨21, ⟨(some 74), .r (.load none (.t 73)), some (70, false)⟩, 2097151, 0⟩,
⟨22, ⟨(some 75), .r (.load (some 20) (.t 8)), some (70, false)⟩, 262143, 0⟩,
⟨23, ⟨(some 76), .b (.call 23 [(.t 74), (.t 75)]), some (70, false)⟩, 8388607, 0⟩,
⟨24, ⟨(some 77), .p (.pick (.t 70) (.c (.w (.s (.bool true)))) (.t 76)), none⟩, 16777215, 0⟩]) (.cond g77 (.seq (.reg [
oCall w78 68 [],
oK wZ (bSt 23 g6 g78)]) (.ret)) (.skip))) (.seq (.reg [
oP w79 (pMv g0),
oP w80 (pGen fun _ t => opNil t (.t 79)),
oP w81 (pFaddr 89 g80),
oR w82 (rLoad none g81),
oCall w83 69 [g82],
oP w9 (pMv g83)]) (.seq (.draw [
⟨0, ⟨(some 84), .p (.mv (.t 0)), none⟩, 0, 0⟩,
⟨1, ⟨(some 85), .p (.nilCheck (.t 84)), none⟩, 1, 0⟩,
⟨2, ⟨(some 86), .p (.faddr 89 (.t 85)), none⟩, 3, 0⟩,
⟨3, ⟨(some 87), .r (.load none (.t 86)), none⟩, 7, 0⟩,
⟨4, ⟨(some 88), .r (.load (some 20) (.t 8)), none⟩, 0, 0⟩,
⟨5, ⟨(some 89), .b (.call 70 [(.t 87), (.t 88)]), none⟩, 31, 0⟩]) (.seq (.seq (.reg [
oP w90 (pMv g0),
oCall w91 66 [g90, (gC (.w (.s (ni64 3))))]]) (.cond g91 (.draw [
⟨0, ⟨(some 92), .p (.mv (.t 0)), none⟩, 0, 0⟩,
⟨1, ⟨(some 93), .p (.nilCheck (.t 92)), none⟩, 1, 0⟩,
⟨2, ⟨(some 94), .p (.faddr 89 (.t 93)), none⟩, 3, 0⟩,
⟨3, ⟨(some 95), .r (.load none (.t 94)), none⟩, 7, 0⟩,
⟨4, ⟨(some 96), .r (.load (some 20) (.t 8)), none⟩, 0, 0⟩,
⟨5, ⟨(some 97), .b (.call 65 [(.t 95), (.t 96), (.c (.w (.s (nu64 1))))]), none⟩, 31, 0⟩]) (.skip))) (.seq (.reg [
oP w98 (pMv g0),
oP w99 (pFaddr 0 g4),
oR w100 (rLoad (some 20) g99),
oR w101 (rLoad (some 20) g8),
oP w102 (pFaddr 60 g4),
oR w103 (rLoad (some 4) g102),
oCall w104 71 [g98, g100, g101, g103]]) (.seq (.reg [
oP w105 (pFaddr 64 g4),
oR w106 (rLoad none g105),
oP w10 (pMv g106)]) (.seq (.draw [
⟨0, ⟨(some 107), .r (.load (some 20) (.t 8)), none⟩, 0, 0⟩,
⟨1, ⟨(some 108), .r (.load (some 20) (.t 8)), none⟩, 0, 0⟩,
⟨2, ⟨(some 109), .p (.faddr 20 (.t 4)), none⟩, 1, 0⟩,
⟨3, ⟨none, .b (.store 20 (.t 109) (.t 107)), none⟩, 5, 0⟩,
⟨4, ⟨(some 110), .p (.faddr 40 (.t 4)), none⟩, 15, 0⟩,
⟨5, ⟨none, .b (.store 20 (.t 110) (.t 108)), none⟩, 31, 0⟩,
⟨6, ⟨(some 111), .p (.faddr 64 (.t 4)), none⟩, 63, 0⟩,
⟨7, ⟨none, .b (.store 1 (.t 111) (.c (.w (.s (.nils))))), none⟩, 127, 0⟩]) (.seq (.draw [
⟨0, ⟨(some 112), .p (.mv (.t 0)), none⟩, 0, 0⟩,
⟨1, ⟨(some 113), .r (.load (some 20) (.t 8)), none⟩, 0, 0⟩,
⟨2, ⟨(some 114), .p (.mv (.t 0)), none⟩, 0, 0⟩,
⟨3, ⟨(some 115), .r (.load (some 68) (.t 4)), none⟩, 0, 0⟩,
⟨4, ⟨(some 116), .p (.mv (.t 10)), none⟩, 0, 0⟩,
⟨7, ⟨(some 11), .m (.alloc 131 [zi64, .nils, zu64, zu8, zu8, zu8, zu8, zu8, zu8, zu8, zu8, zu8, zu8, zu8, zu8, zu8, zu8, zu8, zu8, zu8, zu8, zu8, zu8]), none⟩, 0, 2048⟩,
⟨5, ⟨(some 117), .b (.call 73 [(.t 114), (.t 115), (.t 116)]), none⟩, 28, 0⟩,
⟨6, ⟨(some 118), .b (.call 72 [(.t 112), (.t 113), (.t 117)]), none⟩, 63, 0⟩,
⟨8, ⟨none, .b (.store 23 (.t 11) (.t 118)), none⟩, 255, 0⟩]) (.seq (.seq (.reg [
oP w119 (pFaddr 0 g11),
oR w120 (rLoad none g119),
oK w121 (bCmp 1 nEq .eq true g120 (gC (.w (.s (zi64)))))]) (.cond g121 (.reg [
oP w122 (pMv g0),
oP w123 (pGen fun _ t => opNil t (.t 122)),
oP w124 (pFaddr 89 g123),
oR w125 (rLoad none g124),
oP w126 (pMv g9),
oCall w127 74 [g125, g126]]) (.skip))) (.seq (.reg [
oR w128 (rLoad (some 23) g11),
oK wZ (bSt 23 g6 g128)]) (.ret))))))))))))))))⟩
theorem fp48 : ∃ fn, fb48 = denF fn ∧ ∃ func code hint, FnOk Go.Proofs.Tryz.prog TT 48 fn func code hint := f2_mk (func := Go.Proofs.Tryz.f48) (code := bodyOf Go.Proofs.Tryz.f48) (hint := hintL [(1, [(0, 0), (1, 0), (2, 0), (3, 0), (4, 0), (5, 0), (6, 0), (7, 0)]), (4, [(0, 0), (1, 0), (2, 0), (3, 0), (4, 0), (5, 0), (6, 0), (7, 0), (8, 0)]), (7, [(0, 0), (1, 0), (2, 0), (3, 0), (4, 0), (5, 0)]), (8, [(0, 0), (1, 0), (2, 0), (3, 0), (4, 0), (5, 0), (6, 0), (7, 0), (8, 0), (9, 0), (10, 0), (11, 0), (12, 0), (13, 0), (14, 0), (15, 0), (16, 0), (17, 0), (18, 0), (19, 0), (20, 0), (21, 0), (22, 0), (23, 0), (24, 0)]), (11, [(0, 0), (1, 0), (2, 0), (3, 0), (4, 0), (5, 0)]), (13, [(0, 0), (1, 0), (2, 0), (3, 0), (4, 0), (5, 0)]), (16, [(0, 0), (1, 0), (2, 0), (3, 0), (4, 0), (5, 0), (6, 0), (7, 0)]), (17, [(0, 0), (1, 0), (2, 0), (3, 0), (4, 0), (7, 2048), (5, 0), (6, 0), (8, 0)])]) (n := 129) (res := [.cell 6 (some 23)]) Go.Proofs.Tryz.func48 Go.Proofs.Tryz.call48 (by kernel_rfl) (by kernel_rfl) (by kernel_rfl) (by kernel_rfl) (by kernel_rfl)
/- quarry/book.Made -/
def fb50 : AFunc2 := ⟨13, [.cell (rLoad (some 20) g4)], .seq (.reg [
oBox w2 30 g0,
oAlloc w4 30 zz0]) (.seq (.reg [
oP w5 (pGen fun _ t => opASlice t 20 1 (.t 2) none none),
oCall w6 78 [g5],
oP w7 (pMv g1),
oCall w8 79 [g7],
oM w9 (.bslice 166 2 [.bool false, .nils, .nils] [(0, 3, (.t 6)), (3, 3, (.t 8))]),
oCall w10 77 [g9],
oCall w11 76 [g10],
oCall w12 75 [g11],
oK wZ (bSt 20 g4 g12)]) (.ret))⟩
theorem fp50 : ∃ fn, fb50 = denF fn ∧ ∃ func code hint, FnOk Go.Proofs.Tryz.prog TT 50 fn func code hint := f2_mk (func := Go.Proofs.Tryz.f50) (code := bodyOf Go.Proofs.Tryz.f50) (hint := hintL []) (n := 13) (res := [.cell 4 (some 20)]) Go.Proofs.Tryz.func50 Go.Proofs.Tryz.call50 (by kernel_rfl) (by kernel_rfl) (by kernel_rfl) (by kernel_rfl) (by kernel_rfl)
/- (*quarry/vm.machine).calls -/
def fb51 : AFunc2 := ⟨50, [.cell (rLoad (some 23) g4)], .seq (.reg [
oBox w2 121 g0,
oBox w3 129 g1,
oAlloc w4 131 [zi64, .nils, zu64, zu8, zu8, zu8, zu8, zu8, zu8, zu8, zu8, zu8, zu8, zu8, zu8, zu8, zu8, zu8, zu8, zu8, zu8, zu8, zu8]]) (.seq (.seq (.reg [
oR w5 (rLoad none g2),
oP w6 (pFaddr 0 g3),
oR w7 (rLoad (some 20) g6),
oP w8 (pFaddr 60 g3),
oR w9 (rLoad (some 4) g8),
oCall w10 63 [g5, g7, g9],
oP w11 (pNot g10)]) (.cond g11 (.seq (.reg [
oP w12 (pFaddr 65 g3),
oR w13 (rLoad none g12),
oCall w14 64 [g13],
oK wZ (bSt 23 g4 g14)]) (.ret)) (.skip))) (.seq (.seq (.draw [
⟨0, ⟨(some 15), .r (.load none (.t 2)), none⟩, 0, 0⟩,
⟨1, ⟨(some 16), .p (.nilCheck (.t 15)), none⟩, 1, 0⟩,
⟨2, ⟨(some 17), .p (.faddr 89 (.t 16)), none⟩, 3, 0⟩,
⟨3, ⟨(some 18), .r (.load none (.t 17)), none⟩, 7, 0⟩,
⟨4, ⟨(some 19), .p (.faddr 20 (.t 3)), none⟩, 0, 0⟩,
⟨5, ⟨(some 20), .r (.load (some 20) (.t 19)), none⟩, 16, 0⟩,
⟨6, ⟨(some 21), .b (.call 33 [(.t 18), (.t 20)]), none⟩, 63, 0⟩,
⟨7, ⟨(some 22), .p (.not (.t 21)), none⟩, 127, 0⟩,
⟨8, ⟨(some 23), .p (.mv (.t 22)), none⟩, 255, 0⟩,
⟨9, ⟨(some 24), .r (.load none (.t 2)), some (23, true)⟩, 511, 0⟩,
⟨10, ⟨(some 25), .b (.call 66 [(.t 24), (.c (.w (.s (ni64 3))))]), some (23, true)⟩, 1023, 0⟩,
⟨11, ⟨(some 26), .p (.pick (.t 23) (.t 25) (.c (.w (.s (.bool false))))), none⟩, 2047, 0⟩,
⟨12, ⟨(some 27), .p (.mv (.t 26)), none⟩, 4095, 0⟩,
⟨13, ⟨(some 28), .p (.faddr 60 (.t 3)), some (27, true)⟩, 8191, 0⟩,
⟨14, ⟨(some 29), .r (.load (some 4) (.t 28)), some (27, true)⟩, 16383, 0⟩,
⟨15, ⟨(some 30), .p (.build [zu64, zu64, zu64, zu64] []), some (27, true)⟩, 8191, 0⟩,
⟨16, ⟨(some 31), .b (.cmp 0 (.agg (.one (.arr 4 22 .u64))) (.t 29) (.t 30)), some (27, true)⟩, 65535, 0⟩,
⟨17, ⟨(some 32), .p (.pick (.t 27) (.t 31) (.c (.w (.s (.bool false))))), none⟩, 131071, 0⟩,
⟨18, ⟨(some 33), .p (.mv (.t 32)), none⟩, 262143, 0⟩,
⟨19, ⟨(some 34), .r (.load none (.t 2)), some (33, true)⟩, 524287, 0⟩,
⟨20, ⟨(some 35), .p (.nilCheck (.t 34)), some (33, true)⟩, 1048575, 0⟩,
⟨21, ⟨(some 36), .p (.faddr 0 (.t 35)), some (33, true)⟩, 2097151, 0⟩,
⟨22, ⟨(some 37), .r (.load none (.t 36)), some (33, true)⟩, 4194303, 0⟩,
⟨23, ⟨(some 38), .p (.faddr 20 (.t 3)), some (33, true)⟩, 524287, 0⟩,
⟨24, ⟨(some 39), .r (.load (some 20) (.t 38)), some (33, true)⟩, 8912895, 0⟩,
⟨25, ⟨(some 40), .b (.call 80 [(.t 37), (.t 39)]), some (33, true)⟩, 33554431, 0⟩,
⟨26, ⟨(some 41), .b (.cmp 0 .int (.t 40) (.c (.w (.s (zi64))))), some (33, true)⟩, 67108863, 0⟩,
⟨27, ⟨(some 42), .p (.pick (.t 33) (.t 41) (.c (.w (.s (.bool false))))), none⟩, 134217727, 0⟩]) (.cond g42 (.seq (.reg [
oP w43 (pFaddr 65 g3),
oR w44 (rLoad none g43),
oP w45 (pBuild [zi64, .nils, zu64, zu8, zu8, zu8, zu8, zu8, zu8, zu8, zu8, zu8, zu8, zu8, zu8, zu8, zu8, zu8, zu8, zu8, zu8, zu8, zu8] [(2, 1, g44)]),
oK wZ (bSt 23 g4 g45)]) (.ret)) (.skip))) (.seq (.reg [
oR w46 (rLoad none g2),
oR w47 (rLoad (some 68) g3),
oP w48 (pGen fun _ t => opMkfn t 82 [(.t 2), (.t 3)]),
oCall w49 81 [g46, g47, g48],
oK wZ (bSt 23 g4 g49)]) (.ret))))⟩
theorem fp51 : ∃ fn, fb51 = denF fn ∧ ∃ func code hint, FnOk Go.Proofs.Tryz.prog TT 51 fn func code hint := f2_mk (func := Go.Proofs.Tryz.f51) (code := bodyOf Go.Proofs.Tryz.f51) (hint := hintL [(3, [(0, 0), (1, 0), (2, 0), (3, 0), (4, 0), (5, 0), (6, 0), (7, 0), (8, 0), (9, 0), (10, 0), (11, 0), (12, 0), (13, 0), (14, 0), (15, 0), (16, 0), (17, 0), (18, 0), (19, 0), (20, 0), (21, 0), (22, 0), (23, 0), (24, 0), (25, 0), (26, 0), (27, 0)])]) (n := 50) (res := [.cell 4 (some 23)]) Go.Proofs.Tryz.func51 Go.Proofs.Tryz.call51 (by kernel_rfl) (by kernel_rfl) (by kernel_rfl) (by kernel_rfl) (by kernel_rfl)
/- quarry/gas.plain -/
def fb52 : AFunc2 := ⟨11, [.tmp g2], .seq (.reg [
oBox w1 44 g0,
oP w2 (pMv (gC (.w (.s (.bool false)))))]) (.seq (.reg [
oP w3 (pFaddr 0 g1),
oR w4 (rLoad none g3),
oK w5 (bCmp 2 lLt cGe true g4 (gC (.w (.s (ni64 5))))),
oP w6 (pMv g5),
oGd g6 false w7 (oP w7 (pFaddr 0 g1)),
oGd g6 false w8 (oR w8 (rLoad none g7)),
oGd g6 false w9 (oK w9 (bCmp 0 intEq .eq false g8 (gC (.w (.s (ni64 6)))))),
oP w10 (pGen fun _ t => opPick t (.t 6) (.c (.w (.s (.bool true)))) (.t 9)),
oP w2 (pMv g10)]) (.ret))⟩
theorem fp52 : ∃ fn, fb52 = denF fn ∧ ∃ func code hint, FnOk Go.Proofs.Tryz.prog TT 52 fn func code hint := f2_mk (func := Go.Proofs.Tryz.f52) (code := bodyOf Go.Proofs.Tryz.f52) (hint := hintL []) (n := 11) (res := [.tmp 2]) Go.Proofs.Tryz.func52 Go.Proofs.Tryz.call52 (by kernel_rfl) (by kernel_rfl) (by kernel_rfl) (by kernel_rfl) (by kernel_rfl)
/- quarry/gas.writes -/
def fb53 : AFunc2 := ⟨14, [.cell (rLoad (some 3) g2)], .seq (.reg [
oBox w1 44 g0,
oAlloc w2 138 [zu64, zu64, zu64]]) (.seq (.block 0 (.seq (.reg [
oP w4 (pFaddr 0 g1),
oR w5 (rLoad none g4),
oK w6 (bCmp 5 gLe cGe false g5 (gC (.w (.s (ni64 9))))),
oP w3 (pMv g6)]) (.cond g3 (.seq (.reg [
oP w7 (pBuild [zu64, zu64, zu64] [(0, 1, (gC (.w (.s (nu64 100))))), (1, 1, (gC (.w (.s (nu64 20000))))), (2, 1, (gC (.w (.s (nu64 2900)))))]),
oK wZ (bSt 3 g2 g7)]) (.ret)) (.seq (.reg [
oP w9 (pFaddr 0 g1),
oR w10 (rLoad none g9),
oK w11 (bCmp 5 gLe cGe false g10 (gC (.w (.s (ni64 7))))),
oP w8 (pMv g11)]) (.cond g8 (.seq (.reg [
oP w12 (pBuild [zu64, zu64, zu64] [(0, 1, (gC (.w (.s (nu64 800))))), (1, 1, (gC (.w (.s (nu64 20000))))), (2, 1, (gC (.w (.s (nu64 5000)))))]),
oK wZ (bSt 3 g2 g12)]) (.ret)) (.skip)))))) (.seq (.reg [
oP w13 (pBuild [zu64, zu64, zu64] [(0, 1, (gC (.w (.s (nu64 200))))), (1, 1, (gC (.w (.s (nu64 20000))))), (2, 1, (gC (.w (.s (nu64 5000)))))]),
oK wZ (bSt 3 g2 g13)]) (.ret)))⟩
theorem fp53 : ∃ fn, fb53 = denF fn ∧ ∃ func code hint, FnOk Go.Proofs.Tryz.prog TT 53 fn func code hint := f2_mk (func := Go.Proofs.Tryz.f53) (code := bodyOf Go.Proofs.Tryz.f53) (hint := hintL []) (n := 14) (res := [.cell 2 (some 3)]) Go.Proofs.Tryz.func53 Go.Proofs.Tryz.call53 (by kernel_rfl) (by kernel_rfl) (by kernel_rfl) (by kernel_rfl) (by kernel_rfl)
/- (*quarry/state.State).Empty -/
def fb55 : AFunc2 := ⟨30, [.tmp g4], .seq (.reg [
oBox w3 30 g1,
oP w4 (pMv (gC (.w (.s (.bool false)))))]) (.seq (.reg [
oP w6 (pMv g0),
oR w7 (rLoad (some 20) g3),
oCall w8 39 [g6, g7],
oP w5 (pMv g8)]) (.seq (.reg [
oP w9 (pMv g5),
oP w10 (pGen fun _ t => opNil t (.t 9)),
oP w11 (pFaddr 0 g10),
oR w12 (rLoad none g11),
oK w13 (bCmp 0 intEq .eq false g12 (gC (.w (.s (zu64))))),
oP w14 (pMv g13),
oGd g14 true w15 (oP w15 (pMv g5)),
oGd g14 true w16 (oP w16 (pGen fun _ t => opNil t (.t 15))),
oGd g14 true w17 (oP w17 (pFaddr 1 g16)),
oGd g14 true w18 (oR w18 (rLoad (some 4) g17)),
oGd g14 true w19 (oP w19 (pBuild [zu64, zu64, zu64, zu64] [])),
oGd g14 true w20 (oK w20 (b2 (fun x y s K => cmpA 0 (.agg (.one (.arr 4 22 .u64))) x y s fun b s => K (vBool b) s) g18 g19)),
oP w21 (pGen fun _ t => opPick t (.t 14) (.t 20) (.c (.w (.s (.bool false))))),
oP w22 (pMv g21),
oGd g22 true w23 (oP w23 (pMv g5)),
oGd g22 true w24 (oP w24 (pGen fun _ t => opNil t (.t 23))),
oGd g22 true w25 (oP w25 (pFaddr 5 g24)),
oGd g22 true w26 (oR w26 (rLoad none g25)),
oGd g22 true w27 (oP w27 (pGen fun _ t => opLen t (.t 26))),
oGd g22 true w28 (oK w28 (bCmp 0 intEq .eq false g27 (gC (.w (.s (zi64)))))),
oP w29 (pGen fun _ t => opPick t (.t 22) (.t 28) (.c (.w (.s (.bool false))))),
oP w4 (pMv g29)]) (.ret)))⟩
theorem fp55 : ∃ fn, fb55 = denF fn ∧ ∃ func code hint, FnOk Go.Proofs.Tryz.prog TT 55 fn func code hint := f2_mk (func := Go.Proofs.Tryz.f55) (code := bodyOf Go.Proofs.Tryz.f55) (hint := hintL []) (n := 30) (res := [.tmp 4]) Go.Proofs.Tryz.func55 Go.Proofs.Tryz.call55 (by kernel_rfl) (by kernel_rfl) (by kernel_rfl) (by kernel_rfl) (by kernel_rfl)
/- (*quarry/state.State).Begin -/
def fb56 : AFunc2 := ⟨13, [], .reg [
oP w2 (pMv g0),
oM w3 (.mkmap),
oM w4 (.mkmap),
oM w5 (.mkmap),
oM w6 (.mkmap),
oM w7 (.mkmap),
oM w8 (.mkmap),
oM w9 (.mkmap),
oP w10 (pBuild [.nilm, .nilm, .nilm, .nilm, .nilm, .nilm, .nilm, zu64, .nils, .nils, .nils, zi64] [(0, 1, g3), (1, 1, g4), (2, 1, g5), (3, 1, g6), (4, 1, g7), (5, 1, g8), (6, 1, g9)]),
oP w11 (pGen fun _ t => opNil t (.t 2)),
oP w12 (pFaddr 1 g11),
oK wZ (bSt 12 g12 g10)]⟩
theorem fp56 : ∃ fn, fb56 = denF fn ∧ ∃ func code hint, FnOk Go.Proofs.Tryz.prog TT 56 fn func code hint := f2_mk (func := Go.Proofs.Tryz.f56) (code := bodyOf Go.Proofs.Tryz.f56) (hint := hintL []) (n := 13) (res := []) Go.Proofs.Tryz.func56 Go.Proofs.Tryz.call56 (by kernel_rfl) (by kernel_rfl) (by kernel_rfl) (by kernel_rfl) (by kernel_rfl)
/- quarry/fork.Op -/
def fb57 : AFunc2 := ⟨19, [.tmp g4], .seq (.reg [
oP w4 (pMv (gC (.w (.s (.bool false)))))]) (.seq (.reg [
oP w6 (pMv g1),
oCall w7 85 [g6],
oP w5 (pMv g7)]) (.seq (.reg [
oP w8 (pMv g5),
oK w9 (bCmp 5 gLe cGe false g8 (gC (.w (.s (zi64))))),
oP w10 (pMv g9),
oGd g10 true w11 (oP w11 (pMv g0)),
oGd g10 true w12 (oP w12 (pMv g5)),
oGd g10 true w13 (oK w13 (bCmp 5 gLe cGe false g11 g12)),
oP w14 (pGen fun _ t => opPick t (.t 10) (.t 13) (.c (.w (.s (.bool false))))),
oP w15 (pMv g14),
oGd g15 true w16 (oP w16 (pMv g0)),
oGd g15 true w17 (oK w17 (bCmp 3 intLe .le false g16 (gC (.w (.s (ni64 15)))))),
oP w18 (pGen fun _ t => opPick t (.t 15) (.t 17) (.c (.w (.s (.bool false))))),
oP w4 (pMv g18)]) (.ret)))⟩
theorem fp57 : ∃ fn, fb57 = denF fn ∧ ∃ func code hint, FnOk Go.Proofs.Tryz.prog TT 57 fn func code hint := f2_mk (func := Go.Proofs.Tryz.f57) (code := bodyOf Go.Proofs.Tryz.f57) (hint := hintL []) (n := 19) (res := [.tmp 4]) Go.Proofs.Tryz.func57 Go.Proofs.Tryz.call57 (by kernel_rfl) (by kernel_rfl) (by kernel_rfl) (by kernel_rfl) (by kernel_rfl)
/- quarry/code.shape -/
def fb58 : AFunc2 := ⟨53, [.tmp g2, .tmp g3], .seq (.reg [
oP w2 (pMv (gC (.w (.s (zi64))))),
oP w3 (pMv (gC (.w (.s (zi64)))))]) (.seq (.seq (.reg [
oP w4 (pMv g0)]) (.block 0 (.seq (.seq (.reg [
oK w6 (bCmp 0 intEq .eq false g4 (gC (.w (.s (zi64))))),
oP w5 (pMv g6)]) (.cond g5 (.skip) (.reg [
oK w7 (bCmp 0 intEq .eq false g4 (gC (.w (.s (ni64 91))))),
oP w5 (pMv g7)]))) (.cond g5 (.seq (.reg [
oP w2 (pMv (gC (.w (.s (zi64))))),
oP w3 (pMv (gC (.w (.s (zi64)))))]) (.ret)) (.seq (.seq (.reg [
oK w9 (bCmp 0 intEq .eq false g4 (gC (.w (.s (ni64 21))))),
oP w8 (pMv g9)]) (.cond g8 (.skip) (.seq (.reg [
oK w10 (bCmp 0 intEq .eq false g4 (gC (.w (.s (ni64 25))))),
oP w8 (pMv g10)]) (.cond g8 (.skip) (.seq (.reg [
oK w11 (bCmp 0 intEq .eq false g4 (gC (.w (.s (ni64 49))))),
oP w8 (pMv g11)]) (.cond g8 (.skip) (.seq (.reg [
oK w12 (bCmp 0 intEq .eq false g4 (gC (.w (.s (ni64 53))))),
oP w8 (pMv g12)]) (.cond g8 (.skip) (.seq (.reg [
oK w13 (bCmp 0 intEq .eq false g4 (gC (.w (.s (ni64 59))))),
oP w8 (pMv g13)]) (.cond g8 (.skip) (.seq (.reg [
oK w14 (bCmp 0 intEq .eq false g4 (gC (.w (.s (ni64 63))))),
oP w8 (pMv g14)]) (.cond g8 (.skip) (.seq (.reg [
oK w15 (bCmp 0 intEq .eq false g4 (gC (.w (.s (ni64 64))))),
oP w8 (pMv g15)]) (.cond g8 (.skip) (.seq (.reg [
oK w16 (bCmp 0 intEq .eq false g4 (gC (.w (.s (ni64 73))))),
oP w8 (pMv g16)]) (.cond g8 (.skip) (.seq (.reg [
oK w17 (bCmp 0 intEq .eq false g4 (gC (.w (.s (ni64 81))))),
oP w8 (pMv g17)]) (.cond g8 (.skip) (.seq (.reg [
oK w18 (bCmp 0 intEq .eq false g4 (gC (.w (.s (ni64 84))))),
oP w8 (pMv g18)]) (.cond g8 (.skip) (.reg [
oK w19 (bCmp 0 intEq .eq false g4 (gC (.w (.s (ni64 92))))),
oP w8 (pMv g19)]))))))))))))))))))))) (.cond g8 (.seq (.reg [
oP w2 (pMv (gC (.w (.s (ni64 1))))),
oP w3 (pMv (gC (.w (.s (ni64 1)))))]) (.ret)) (.seq (.seq (.reg [
oK w21 (bCmp 0 intEq .eq false g4 (gC (.w (.s (ni64 80))))),
oP w20 (pMv g21)]) (.cond g20 (.skip) (.seq (.reg [
oK w22 (bCmp 0 intEq .eq false g4 (gC (.w (.s (ni64 86))))),
oP w20 (pMv g22)]) (.cond g20 (.skip) (.reg [
oK w23 (bCmp 0 intEq .eq false g4 (gC (.w (.s (ni64 255))))),
oP w20 (pMv g23)]))))) (.cond g20 (.seq (.reg [
oP w2 (pMv (gC (.w (.s (ni64 1))))),
oP w3 (pMv (gC (.w (.s (zi64)))))]) (.ret)) (.seq (.seq (.reg [
oK w25 (bCmp 0 intEq .eq false g4 (gC (.w (.s (ni64 82))))),
oP w24 (pMv g25)]) (.cond g24 (.skip) (.seq (.reg [
oK w26 (bCmp 0 intEq .eq false g4 (gC (.w (.s (ni64 83))))),
oP w24 (pMv g26)]) (.cond g24 (.skip) (.seq (.reg [
oK w27 (bCmp 0 intEq .eq false g4 (gC (.w (.s (ni64 85))))),
oP w24 (pMv g27)]) (.cond g24 (.skip) (.seq (.reg [
oK w28 (bCmp 0 intEq .eq false g4 (gC (.w (.s (ni64 87))))),
oP w24 (pMv g28)]) (.cond g24 (.skip) (.seq (.reg [
oK w29 (bCmp 0 intEq .eq false g4 (gC (.w (.s (ni64 93))))),
oP w24 (pMv g29)]) (.cond g24 (.skip) (.seq (.reg [
oK w30 (bCmp 0 intEq .eq false g4 (gC (.w (.s (ni64 243))))),
oP w24 (pMv g30)]) (.cond g24 (.skip) (.reg [
oK w31 (bCmp 0 intEq .eq false g4 (gC (.w (.s (ni64 253))))),
oP w24 (pMv g31)]))))))))))))) (.cond g24 (.seq (.reg [
oP w2 (pMv (gC (.w (.s (ni64 2))))),
oP w3 (pMv (gC (.w (.s (zi64)))))]) (.ret)) (.seq (.seq (.reg [
oK w33 (bCmp 0 intEq .eq false g4 (gC (.w (.s (ni64 8))))),
oP w32 (pMv g33)]) (.cond g32 (.skip) (.seq (.reg [
oK w34 (bCmp 0 intEq .eq false g4 (gC (.w (.s (ni64 9))))),
oP w32 (pMv g34)]) (.cond g32 (.skip) (.reg [
oK w35 (bCmp 0 intEq .eq false g4 (gC (.w (.s (ni64 240))))),
oP w32 (pMv g35)]))))) (.cond g32 (.seq (.reg [
oP w2 (pMv (gC (.w (.s (ni64 3))))),
oP w3 (pMv (gC (.w (.s (ni64 1)))))]) (.ret)) (.seq (.seq (.reg [
oK w37 (bCmp 0 intEq .eq false g4 (gC (.w (.s (ni64 55))))),
oP w36 (pMv g37)]) (.cond g36 (.skip) (.seq (.reg [
oK w38 (bCmp 0 intEq .eq false g4 (gC (.w (.s (ni64 57))))),
oP w36 (pMv g38)]) (.cond g36 (.skip) (.seq (.reg [
oK w39 (bCmp 0 intEq .eq false g4 (gC (.w (.s (ni64 62))))),
oP w36 (pMv g39)]) (.cond g36 (.skip) (.reg [
oK w40 (bCmp 0 intEq .eq false g4 (gC (.w (.s (ni64 94))))),
oP w36 (pMv g40)]))))))) (.cond g36 (.seq (.reg [
oP w2 (pMv (gC (.w (.s (ni64 3))))),
oP w3 (pMv (gC (.w (.s (zi64)))))]) (.ret)) (.seq (.reg [
oK w42 (bCmp 0 intEq .eq false g4 (gC (.w (.s (ni64 60))))),
oP w41 (pMv g42)]) (.cond g41 (.seq (.reg [
oP w2 (pMv (gC (.w (.s (ni64 4))))),
oP w3 (pMv (gC (.w (.s (zi64)))))]) (.ret)) (.seq (.reg [
oK w44 (bCmp 0 intEq .eq false g4 (gC (.w (.s (ni64 245))))),
oP w43 (pMv g44)]) (.cond g43 (.seq (.reg [
oP w2 (pMv (gC (.w (.s (ni64 4))))),
oP w3 (pMv (gC (.w (.s (ni64 1)))))]) (.ret)) (.seq (.seq (.reg [
oK w46 (bCmp 0 intEq .eq false g4 (gC (.w (.s (ni64 244))))),
oP w45 (pMv g46)]) (.cond g45 (.skip) (.reg [
oK w47 (bCmp 0 intEq .eq false g4 (gC (.w (.s (ni64 250))))),
oP w45 (pMv g47)]))) (.cond g45 (.seq (.reg [
oP w2 (pMv (gC (.w (.s (ni64 6))))),
oP w3 (pMv (gC (.w (.s (ni64 1)))))]) (.ret)) (.seq (.seq (.reg [
oK w49 (bCmp 0 intEq .eq false g4 (gC (.w (.s (ni64 241))))),
oP w48 (pMv g49)]) (.cond g48 (.skip) (.reg [
oK w50 (bCmp 0 intEq .eq false g4 (gC (.w (.s (ni64 242))))),
oP w48 (pMv g50)]))) (.cond g48 (.seq (.reg [
oP w2 (pMv (gC (.w (.s (ni64 7))))),
oP w3 (pMv (gC (.w (.s (ni64 1)))))]) (.ret)) (.skip))))))))))))))))))))))) (.seq (.seq (.reg [
oP w51 (pMv g0),
oK w52 (bCmp 2 lLt cGe true g51 (gC (.w (.s (ni64 48)))))]) (.cond g52 (.seq (.reg [
oP w2 (pMv (gC (.w (.s (ni64 2))))),
oP w3 (pMv (gC (.w (.s (ni64 1)))))]) (.ret)) (.skip))) (.seq (.reg [
oP w2 (pMv (gC (.w (.s (zi64))))),
oP w3 (pMv (gC (.w (.s (ni64 1)))))]) (.ret))))⟩
theorem fp58 : ∃ fn, fb58 = denF fn ∧ ∃ func code hint, FnOk Go.Proofs.Tryz.prog TT 58 fn func code hint := f2_mk (func := Go.Proofs.Tryz.f58) (code := bodyOf Go.Proofs.Tryz.f58) (hint := hintL []) (n := 53) (res := [.tmp 2, .tmp 3]) Go.Proofs.Tryz.func58 Go.Proofs.Tryz.call58 (by kernel_rfl) (by kernel_rfl) (by kernel_rfl) (by kernel_rfl) (by kernel_rfl)
/- slices.Clone[[]quarry/api.Hash,quarry/api.Hash] -/
def fb59 : AFunc2 := ⟨8, [.tmp g2], .seq (.reg [
oP w2 (pMv (gC (.w (.s (.nils)))))]) (.seq (.seq (.reg [
oP w3 (pMv g0),
oK w4 (b2 (fun x y s K => cmpA 0 .slice x y s fun b s => K (vBool b) s) g3 (gC (.w (.s (.nils)))))]) (.cond g4 (.seq (.reg [
oP w2 (pMv (gC (.w (.s (.nils)))))]) (.ret)) (.skip))) (.seq (.reg [
oM w5 (.bslice 90 0 (lrep (zu8) 32) []),
oP w6 (pMv g0),
oK w7 (b2 (bAppend 90 32 32) g5 g6),
oP w2 (pMv g7)]) (.ret)))⟩
theorem fp59 : ∃ fn, fb59 = denF fn ∧ ∃ func code hint, FnOk Go.Proofs.Tryz.prog TT 59 fn func code hint := f2_mk (func := Go.Proofs.Tryz.f59) (code := bodyOf Go.Proofs.Tryz.f59) (hint := hintL []) (n := 8) (res := [.tmp 2]) Go.Proofs.Tryz.func59 Go.Proofs.Tryz.call59 (by kernel_rfl) (by kernel_rfl) (by kernel_rfl) (by kernel_rfl) (by kernel_rfl)
/- quarry/fork.pick -/
def fb60 : AFunc2 := ⟨22, [.tmp g4], .seq (.reg [
oP w4 (pMv (gC (.w (.s (zu64)))))]) (.seq (.reg [
oP w5 (pMv (gC (.w (.s (zu64)))))]) (.seq (.seq (.reg [
oP w8 (pMv g1),
oP w9 (pGen fun _ t => opLen t (.t 8)),
oP w10 (pMv (gC (.w (.s (zi64)))))]) (.block 0 (.loop (.seq (.reg [
oK w11 (bCmp 2 lLt cGe true g10 g9)]) (.seq (.cond g11 (.skip) (.exit 0)) (.seq (.block 1 (.seq (.reg [
oP w12 (pIaddrS 2 g8 g10),
oR w13 (rLoad (some 2) g12),
oAlloc w7 150 [zi64, zu64],
oK wZ (bSt 2 g7 g13)]) (.seq (.reg [
oP w14 (pMv g0),
oP w15 (pFaddr 0 g7),
oR w16 (rLoad none g15),
oK w17 (bCmp 5 gLe cGe false g14 g16)]) (.cond g17 (.reg [
oP w18 (pFaddr 1 g7),
oR w19 (rLoad none g18),
oP w5 (pMv g19)]) (.skip))))) (.reg [
oP w20 (pAr 0 g10 (gC (.w (.s (ni64 1))))),
oP w10 (pMv g20)]))))))) (.seq (.reg [
oP w21 (pMv g5),
oP w4 (pMv g21)]) (.ret))))⟩
theorem fp60 : ∃ fn, fb60 = denF fn ∧ ∃ func code hint, FnOk Go.Proofs.Tryz.prog TT 60 fn func code hint := f2_mk (func := Go.Proofs.Tryz.f60) (code := bodyOf Go.Proofs.Tryz.f60) (hint := hintL []) (n := 22) (res := [.tmp 4]) Go.Proofs.Tryz.func60 Go.Proofs.Tryz.call60 (by kernel_rfl) (by kernel_rfl) (by kernel_rfl) (by kernel_rfl) (by kernel_rfl)
/- quarry/gas.within -/
def fb61 : AFunc2 := ⟨15, [.tmp g6], .seq (.reg [
oP w6 (pMv (gC (.w (.s (.bool false)))))]) (.seq (.reg [
oP w7 (pMv g0),
oP w8 (pMv g1),
oK w9 (bCmp 5 gLe cGe false g7 g8),
oP w10 (pMv g9),
oGd g10 true w11 (oP w11 (pMv g0)),
oGd g10 true w12 (oP w12 (pMv g2)),
oGd g10 true w13 (oK w13 (bCmp 3 intLe .le false g11 g12)),
oP w14 (pGen fun _ t => opPick t (.t 10) (.t 13) (.c (.w (.s (.bool false))))),
oP w6 (pMv g14)]) (.ret))⟩
theorem fp61 : ∃ fn, fb61 = denF fn ∧ ∃ func code hint, FnOk Go.Proofs.Tryz.prog TT 61 fn func code hint := f2_mk (func := Go.Proofs.Tryz.f61) (code := bodyOf Go.Proofs.Tryz.f61) (hint := hintL []) (n := 15) (res := [.tmp 6]) Go.Proofs.Tryz.func61 Go.Proofs.Tryz.call61 (by kernel_rfl) (by kernel_rfl) (by kernel_rfl) (by kernel_rfl) (by kernel_rfl)
/- (*quarry/state.State).Nonce -/
def fb62 : AFunc2 := ⟨11, [.tmp g4], .seq (.reg [
oBox w3 30 g1,
oP w4 (pMv (gC (.w (.s (zu64)))))]) (.seq (.reg [
oP w5 (pMv g0),
oR w6 (rLoad (some 20) g3),
oCall w7 39 [g5, g6],
oP w8 (pGen fun _ t => opNil t (.t 7)),
oP w9 (pFaddr 0 g8),
oR w10 (rLoad none g9),
oP w4 (pMv g10)]) (.ret))⟩
theorem fp62 : ∃ fn, fb62 = denF fn ∧ ∃ func code hint, FnOk Go.Proofs.Tryz.prog TT 62 fn func code hint := f2_mk (func := Go.Proofs.Tryz.f62) (code := bodyOf Go.Proofs.Tryz.f62) (hint := hintL []) (n := 11) (res := [.tmp 4]) Go.Proofs.Tryz.func62 Go.Proofs.Tryz.call62 (by kernel_rfl) (by kernel_rfl) (by kernel_rfl) (by kernel_rfl) (by kernel_rfl)
/- (*quarry/vm.machine).has -/
def fb63 : AFunc2 := ⟨16, [.tmp g6], .seq (.reg [
oBox w4 30 g1,
oBox w5 24 g2,
oP w6 (pMv (gC (.w (.s (.bool false)))))]) (.seq (.draw [
⟨0, ⟨(some 7), .p (.mv (.t 0)), none⟩, 0, 0⟩,
⟨1, ⟨(some 8), .p (.nilCheck (.t 7)), none⟩, 1, 0⟩,
⟨2, ⟨(some 9), .p (.faddr 89 (.t 8)), none⟩, 3, 0⟩,
⟨3, ⟨(some 10), .r (.load none (.t 9)), none⟩, 7, 0⟩,
⟨4, ⟨(some 11), .r (.load (some 20) (.t 4)), none⟩, 0, 0⟩,
⟨6, ⟨(some 13), .r (.load (some 4) (.t 5)), none⟩, 0, 0⟩,
⟨5, ⟨(some 12), .b (.call 34 [(.t 10), (.t 11)]), none⟩, 31, 0⟩,
⟨7, ⟨(some 14), .b (.call 86 [(.t 12), (.t 13)]), none⟩, 127, 0⟩,
⟨8, ⟨(some 15), .b (.cmp 5 .int (.t 14) (.c (.w (.s (zi64))))), none⟩, 255, 0⟩,
⟨9, ⟨(some 6), .p (.mv (.t 15)), none⟩, 511, 0⟩]) (.ret))⟩
theorem fp63 : ∃ fn, fb63 = denF fn ∧ ∃ func code hint, FnOk Go.Proofs.Tryz.prog TT 63 fn func code hint := f2_mk (func := Go.Proofs.Tryz.f63) (code := bodyOf Go.Proofs.Tryz.f63) (hint := hintL [(1, [(0, 0), (1, 0), (2, 0), (3, 0), (4, 0), (6, 0), (5, 0), (7, 0), (8, 0), (9, 0)])]) (n := 16) (res := [.tmp 6]) Go.Proofs.Tryz.func63 Go.Proofs.Tryz.call63 (by kernel_rfl) (by kernel_rfl) (by kernel_rfl) (by kernel_rfl) (by kernel_rfl)
/- quarry/vm.refused -/
def fb64 : AFunc2 := ⟨5, [.cell (rLoad (some 23) g2)], .seq (.reg [
oAlloc w2 131 [zi64, .nils, zu64, zu8, zu8, zu8, zu8, zu8, zu8, zu8, zu8, zu8, zu8, zu8, zu8, zu8, zu8, zu8, zu8, zu8, zu8, zu8, zu8]]) (.seq (.reg [
oP w3 (pMv g0),
oP w4 (pBuild [zi64, .nils, zu64, zu8, zu8, zu8, zu8, zu8, zu8, zu8, zu8, zu8, zu8, zu8, zu8, zu8, zu8, zu8, zu8, zu8, zu8, zu8, zu8] [(0, 1, (gC (.w (.s (ni64 3))))), (2, 1, g3)]),
oK wZ (bSt 23 g2 g4)]) (.ret))⟩
theorem fp64 : ∃ fn, fb64 = denF fn ∧ ∃ func code hint, FnOk Go.Proofs.Tryz.prog TT 64 fn func code hint := f2_mk (func := Go.Proofs.Tryz.f64) (code := bodyOf Go.Proofs.Tryz.f64) (hint := hintL []) (n := 5) (res := [.cell 2 (some 23)]) Go.Proofs.Tryz.func64 Go.Proofs.Tryz.call64 (by kernel_rfl) (by kernel_rfl) (by kernel_rfl) (by kernel_rfl) (by kernel_rfl)
/- (*quarry/state.State).SetNonce -/
def fb65 : AFunc2 := ⟨22, [], .seq (.reg [
oBox w4 30 g1]) (.seq (.reg [
oP w8 (pMv g0),
oR w9 (rLoad (some 20) g4),
oCall w10 87 [g8, g9],
oAlloc w6 98 [.nilp],
oK wZ (bSt 1 g6 g10)]) (.seq (.reg [
oR w11 (rLoad none g6),
oP w12 (pGen fun _ t => opNil t (.t 11)),
oP w13 (pFaddr 0 g12),
oR w14 (rLoad none g13),
oAlloc w7 22 [zu64],
oK wZ (bSt 1 g7 g14)]) (.seq (.reg [
oR w15 (rLoad none g6),
oP w16 (pMv g2),
oP w17 (pGen fun _ t => opNil t (.t 15)),
oP w18 (pFaddr 0 g17),
oK wZ (bSt 1 g18 g16)]) (.reg [
oP w19 (pMv g0),
oP w20 (pGen fun _ t => opMkfn t 89 [(.t 7), (.t 6)]),
oCall w21 88 [g19, g20]]))))⟩
theorem fp65 : ∃ fn, fb65 = denF fn ∧ ∃ func code hint, FnOk Go.Proofs.Tryz.prog TT 65 fn func code hint := f2_mk (func := Go.Proofs.Tryz.f65) (code := bodyOf Go.Proofs.Tryz.f65) (hint := hintL []) (n := 22) (res := []) Go.Proofs.Tryz.func65 Go.Proofs.Tryz.call65 (by kernel_rfl) (by kernel_rfl) (by kernel_rfl) (by kernel_rfl) (by kernel_rfl)
/- (*quarry/vm.machine).from -/
def fb66 : AFunc2 := ⟨11, [.tmp g4], .seq (.reg [
oP w4 (pMv (gC (.w (.s (.bool false)))))]) (.seq (.reg [
oP w5 (pMv g0),
oP w6 (pGen fun _ t => opNil t (.t 5)),
oP w7 (pFaddr 0 g6),
oR w8 (rLoad none g7),
oP w9 (pMv g1),
oK w10 (bCmp 5 gLe cGe false g8 g9),
oP w4 (pMv g10)]) (.ret))⟩
theorem fp66 : ∃ fn, fb66 = denF fn ∧ ∃ func code hint, FnOk Go.Proofs.Tryz.prog TT 66 fn func code hint := f2_mk (func := Go.Proofs.Tryz.f66) (code := bodyOf Go.Proofs.Tryz.f66) (hint := hintL []) (n := 11) (res := [.tmp 4]) Go.Proofs.Tryz.func66 Go.Proofs.Tryz.call66 (by kernel_rfl) (by kernel_rfl) (by kernel_rfl) (by kernel_rfl) (by kernel_rfl)
/- (*quarry/state.State).Heat -/
def fb67 : AFunc2 := ⟨23, [.tmp g4], .seq (.reg [
oBox w3 30 g1,
oP w4 (pMv (gC (.w (.s (.bool false)))))]) (.seq (.draw [
⟨0, ⟨(some 6), .p (.mv (.t 0)), none⟩, 0, 0⟩,
⟨1, ⟨(some 7), .p (.nilCheck (.t 6)), none⟩, 1, 0⟩,
⟨2, ⟨(some 8), .p (.faddr 1 (.t 7)), none⟩, 3, 0⟩,
⟨3, ⟨(some 9), .p (.faddr 2 (.t 8)), none⟩, 7, 0⟩,
⟨4, ⟨(some 10), .r (.load none (.t 9)), none⟩, 15, 0⟩,
⟨5, ⟨(some 11), .r (.load (some 20) (.t 3)), none⟩, 0, 0⟩,
⟨6, ⟨(some 12), .b (.call 41 [(.t 10), (.t 11)]), none⟩, 63, 0⟩,
⟨7, ⟨(some 5), .p (.mv (.t 12)), none⟩, 127, 0⟩]) (.seq (.draw [
⟨0, ⟨(some 13), .p (.mv (.t 0)), none⟩, 0, 0⟩,
⟨1, ⟨(some 14), .p (.mv (.t 0)), none⟩, 0, 0⟩,
⟨2, ⟨(some 15), .p (.nilCheck (.t 14)), none⟩, 2, 0⟩,
⟨3, ⟨(some 16), .p (.faddr 1 (.t 15)), none⟩, 6, 0⟩,
⟨4, ⟨(some 17), .p (.faddr 2 (.t 16)), none⟩, 14, 0⟩,
⟨5, ⟨(some 18), .r (.load none (.t 17)), none⟩, 30, 0⟩,
⟨6, ⟨(some 19), .r (.load (some 20) (.t 3)), none⟩, 0, 0⟩,
⟨7, ⟨(some 20), .p (.build [] []), none⟩, 0, 0⟩,
⟨8, ⟨(some 21), .b (.call 90 [(.t 13), (.t 18), (.t 19), (.t 20)]), none⟩, 255, 0⟩]) (.seq (.reg [
oP w22 (pMv g5),
oP w4 (pMv g22)]) (.ret))))⟩
theorem fp67 : ∃ fn, fb67 = denF fn ∧ ∃ func code hint, FnOk Go.Proofs.Tryz.prog TT 67 fn func code hint := f2_mk (func := Go.Proofs.Tryz.f67) (code := bodyOf Go.Proofs.Tryz.f67) (hint := hintL [(1, [(0, 0), (1, 0), (2, 0), (3, 0), (4, 0), (5, 0), (6, 0), (7, 0)]), (2, [(0, 0), (1, 0), (2, 0), (3, 0), (4, 0), (5, 0), (6, 0), (7, 0), (8, 0)])]) (n := 23) (res := [.tmp 4]) Go.Proofs.Tryz.func67 Go.Proofs.Tryz.call67 (by kernel_rfl) (by kernel_rfl) (by kernel_rfl) (by kernel_rfl) (by kernel_rfl)
/- quarry/vm.failed -/
def fb68 : AFunc2 := ⟨2, [.cell (rLoad (some 23) g0)], .seq (.reg [
oAlloc w0 131 [zi64, .nils, zu64, zu8, zu8, zu8, zu8, zu8, zu8, zu8, zu8, zu8, zu8, zu8, zu8, zu8, zu8, zu8, zu8, zu8, zu8, zu8, zu8]]) (.seq (.reg [
oP w1 (pBuild [zi64, .nils, zu64, zu8, zu8, zu8, zu8, zu8, zu8, zu8, zu8, zu8, zu8, zu8, zu8, zu8, zu8, zu8, zu8, zu8, zu8, zu8, zu8] [(0, 1, (gC (.w (.s (ni64 2)))))]),
oK wZ (bSt 23 g0 g1)]) (.ret))⟩
theorem fp68 : ∃ fn, fb68 = denF fn ∧ ∃ func code hint, FnOk Go.Proofs.Tryz.prog TT 68 fn func code hint := f2_mk (func := Go.Proofs.Tryz.f68) (code := bodyOf Go.Proofs.Tryz.f68) (hint := hintL []) (n := 2) (res := [.cell 0 (some 23)]) Go.Proofs.Tryz.func68 Go.Proofs.Tryz.call68 (by kernel_rfl) (by kernel_rfl) (by kernel_rfl) (by kernel_rfl) (by kernel_rfl)
/- (*quarry/state.State).Mark -/
def fb69 : AFunc2 := ⟨38, [.tmp g2], .seq (.reg [
oP w2 (pMv (gC (.w (.s (zi64)))))]) (.seq (.reg [
oP w4 (pMv g0),
oP w5 (pGen fun _ t => opNil t (.t 4)),
oP w6 (pFaddr 1 g5),
oP w7 (pFaddr 11 g6),
oR w8 (rLoad none g7),
oP w3 (pMv g8)]) (.seq (.reg [
oP w9 (pMv g0),
oP w10 (pGen fun _ t => opNil t (.t 9)),
oP w11 (pFaddr 1 g10),
oP w12 (pFaddr 11 g11),
oR w13 (rLoad none g12),
oP w14 (pAr 0 g13 (gC (.w (.s (ni64 1))))),
oP w15 (pGen fun _ t => opNil t (.t 9)),
oP w16 (pFaddr 1 g15),
oP w17 (pFaddr 11 g16),
oK wZ (bSt 1 g17 g14)]) (.seq (.draw [
⟨0, ⟨(some 18), .p (.mv (.t 0)), none⟩, 0, 0⟩,
⟨1, ⟨(some 19), .p (.mv (.t 0)), none⟩, 0, 0⟩,
⟨2, ⟨(some 20), .p (.nilCheck (.t 19)), none⟩, 2, 0⟩,
⟨3, ⟨(some 21), .p (.faddr 1 (.t 20)), none⟩, 6, 0⟩,
⟨4, ⟨(some 22), .p (.faddr 10 (.t 21)), none⟩, 14, 0⟩,
⟨5, ⟨(some 23), .r (.load none (.t 22)), none⟩, 30, 0⟩,
⟨6, ⟨(some 24), .p (.mv (.t 3)), none⟩, 0, 0⟩,
⟨7, ⟨(some 25), .p (.mv (.t 0)), none⟩, 0, 0⟩,
⟨8, ⟨(some 26), .p (.nilCheck (.t 25)), none⟩, 128, 0⟩,
⟨9, ⟨(some 27), .p (.faddr 1 (.t 26)), none⟩, 384, 0⟩,
⟨10, ⟨(some 28), .p (.faddr 9 (.t 27)), none⟩, 896, 0⟩,
⟨11, ⟨(some 29), .r (.load none (.t 28)), none⟩, 1920, 0⟩,
⟨12, ⟨(some 30), .p (.len (.t 29)), none⟩, 3968, 0⟩,
⟨13, ⟨(some 31), .p (.build [zi64, zi64] [(0, 1, (.t 24)), (1, 1, (.t 30))]), none⟩, 8128, 0⟩,
⟨14, ⟨(some 32), .m (.bslice 177 1 [zi64, zi64] [(0, 2, (.t 31))]), none⟩, 16320, 0⟩,
⟨15, ⟨(some 33), .b (.append 177 2 16 (.t 23) (.t 32)), none⟩, 32766, 0⟩,
⟨16, ⟨(some 34), .p (.nilCheck (.t 18)), none⟩, 65535, 0⟩,
⟨17, ⟨(some 35), .p (.faddr 1 (.t 34)), none⟩, 131071, 0⟩,
⟨18, ⟨(some 36), .p (.faddr 10 (.t 35)), none⟩, 262143, 0⟩,
⟨19, ⟨none, .b (.store 1 (.t 36) (.t 33)), none⟩, 524287, 0⟩]) (.seq (.reg [
oP w37 (pMv g3),
oP w2 (pMv g37)]) (.ret)))))⟩
theorem fp69 : ∃ fn, fb69 = denF fn ∧ ∃ func code hint, FnOk Go.Proofs.Tryz.prog TT 69 fn func code hint := f2_mk (func := Go.Proofs.Tryz.f69) (code := bodyOf Go.Proofs.Tryz.f69) (hint := hintL [(3, [(0, 0), (1, 0), (2, 0), (3, 0), (4, 0), (5, 0), (6, 0), (7, 0), (8, 0), (9, 0), (10, 0), (11, 0), (12, 0), (13, 0), (14, 0), (15, 0), (16, 0), (17, 0), (18, 0), (19, 0)])]) (n := 38) (res := [.tmp 2]) Go.Proofs.Tryz.func69 Go.Proofs.Tryz.call69 (by kernel_rfl) (by kernel_rfl) (by kernel_rfl) (by kernel_rfl) (by kernel_rfl)
/- (*quarry/state.State).Make -/
def fb70 : AFunc2 := ⟨49, [], .seq (.reg [
oBox w3 30 g1]) (.seq (.reg [
oP w7 (pMv g0),
oR w8 (rLoad (some 20) g3),
oCall w9 87 [g7, g8],
oP w4 (pMv g9)]) (.seq (.seq (.reg [
oP w10 (pMv g4),
oP w11 (pGen fun _ t => opNil t (.t 10)),
oP w12 (pFaddr 6 g11),
oR w13 (rLoad none g12),
oK w14 (b1 bRange g13)]) (.block 0 (.loop (.seq (.reg [
oK w15 (b1 bNext g14),
oP w16 (pExt g15 0)]) (.seq (.cond g16 (.skip) (.exit 0)) (.block 1 (.seq (.reg [
oK w17 (b1 bEntry g14),
oP w18 (pExt g17 0),
oP w19 (pExt g17 1),
oAlloc w5 24 [zu64, zu64, zu64, zu64],
oAlloc w6 24 [zu64, zu64, zu64, zu64],
oK wZ (bSt 4 g5 g18),
oK wZ (bSt 4 g6 g19)]) (.reg [
oP w20 (pMv g0),
oR w21 (rLoad (some 20) g3),
oR w22 (rLoad (some 4) g5),
oP w23 (pBuild [zu8, zu8, zu8, zu8, zu8, zu8, zu8, zu8, zu8, zu8, zu8, zu8, zu8, zu8, zu8, zu8, zu8, zu8, zu8, zu8, zu64, zu64, zu64, zu64] [(0, 20, g21), (20, 4, g22)]),
oR w24 (rLoad (some 4) g6),
oCall w25 91 [g20, g23, g24]])))))))) (.seq (.draw [
⟨0, ⟨(some 26), .p (.mv (.t 0)), none⟩, 0, 0⟩,
⟨1, ⟨(some 27), .p (.mv (.t 0)), none⟩, 0, 0⟩,
⟨2, ⟨(some 28), .p (.nilCheck (.t 27)), none⟩, 2, 0⟩,
⟨3, ⟨(some 29), .p (.faddr 0 (.t 28)), none⟩, 6, 0⟩,
⟨4, ⟨(some 30), .r (.load none (.t 29)), none⟩, 14, 0⟩,
⟨5, ⟨(some 31), .r (.load (some 20) (.t 3)), none⟩, 0, 0⟩,
⟨6, ⟨(some 32), .p (.mv (.t 4)), none⟩, 0, 0⟩,
⟨7, ⟨(some 33), .p (.nilCheck (.t 32)), none⟩, 64, 0⟩,
⟨8, ⟨(some 34), .p (.faddr 1 (.t 33)), none⟩, 192, 0⟩,
⟨9, ⟨(some 35), .r (.load (some 4) (.t 34)), none⟩, 448, 0⟩,
⟨10, ⟨(some 36), .m (.mkmap), none⟩, 0, 0⟩,
⟨11, ⟨(some 37), .p (.build [zu64, zu64, zu64, zu64, zu64, .nils, .nilm] [(1, 4, (.t 35)), (6, 1, (.t 36))]), none⟩, 1984, 0⟩,
⟨12, ⟨(some 38), .m (.box 97 (.t 37)), none⟩, 4032, 1⟩,
⟨13, ⟨(some 39), .b (.call 92 [(.t 26), (.t 30), (.t 31), (.t 38)]), none⟩, 8191, 0⟩]) (.draw [
⟨0, ⟨(some 40), .p (.mv (.t 0)), none⟩, 0, 0⟩,
⟨1, ⟨(some 41), .p (.mv (.t 0)), none⟩, 0, 0⟩,
⟨2, ⟨(some 42), .p (.nilCheck (.t 41)), none⟩, 2, 0⟩,
⟨3, ⟨(some 43), .p (.faddr 1 (.t 42)), none⟩, 6, 0⟩,
⟨4, ⟨(some 44), .p (.faddr 1 (.t 43)), none⟩, 14, 0⟩,
⟨5, ⟨(some 45), .r (.load none (.t 44)), none⟩, 30, 0⟩,
⟨6, ⟨(some 46), .r (.load (some 20) (.t 3)), none⟩, 0, 0⟩,
⟨7, ⟨(some 47), .p (.build [] []), none⟩, 0, 0⟩,
⟨8, ⟨(some 48), .b (.call 90 [(.t 40), (.t 45), (.t 46), (.t 47)]), none⟩, 255, 0⟩]))))⟩
theorem fp70 : ∃ fn, fb70 = denF fn ∧ ∃ func code hint, FnOk Go.Proofs.Tryz.prog TT 70 fn func code hint := f2_mk (func := Go.Proofs.Tryz.f70) (code := bodyOf Go.Proofs.Tryz.f70) (hint := hintL [(6, [(0, 0), (1, 0), (2, 0), (3, 0), (4, 0), (5, 0), (6, 0), (7, 0), (8, 0), (9, 0), (10, 0), (11, 0), (12, 1), (13, 0)]), (7, [(0, 0), (1, 0), (2, 0), (3, 0), (4, 0), (5, 0), (6, 0), (7, 0), (8, 0)])]) (n := 49) (res := []) Go.Proofs.Tryz.func70 Go.Proofs.Tryz.call70 (by kernel_rfl) (by kernel_rfl) (by kernel_rfl) (by kernel_rfl) (by kernel_rfl)
/- (*quarry/vm.machine).pays -/
def fb71 : AFunc2 := ⟨39, [], .seq (.reg [
oBox w5 30 g1,
oBox w6 30 g2,
oBox w7 24 g3]) (.seq (.seq (.reg [
oR w8 (rLoad (some 4) g7),
oP w9 (pBuild [zu64, zu64, zu64, zu64] []),
oK w10 (b2 (fun x y s K => cmpA 0 (.agg (.one (.arr 4 22 .u64))) x y s fun b s => K (vBool b) s) g8 g9)]) (.cond g10 (.ret) (.skip))) (.seq (.draw [
⟨0, ⟨(some 11), .p (.mv (.t 0)), none⟩, 0, 0⟩,
⟨1, ⟨(some 12), .p (.nilCheck (.t 11)), none⟩, 1, 0⟩,
⟨2, ⟨(some 13), .p (.faddr 89 (.t 12)), none⟩, 3, 0⟩,
⟨3, ⟨(some 14), .r (.load none (.t 13)), none⟩, 7, 0⟩,
⟨4, ⟨(some 15), .r (.load (some 20) (.t 5)), none⟩, 0, 0⟩,
⟨5, ⟨(some 16), .p (.mv (.t 0)), none⟩, 0, 0⟩,
⟨6, ⟨(some 17), .p (.nilCheck (.t 16)), none⟩, 32, 0⟩,
⟨7, ⟨(some 18), .p (.faddr 89 (.t 17)), none⟩, 96, 0⟩,
⟨8, ⟨(some 19), .r (.load none (.t 18)), none⟩, 224, 0⟩,
⟨9, ⟨(some 20), .r (.load (some 20) (.t 5)), none⟩, 0, 0⟩,
⟨11, ⟨(some 22), .r (.load (some 4) (.t 7)), none⟩, 0, 0⟩,
⟨10, ⟨(some 21), .b (.call 34 [(.t 19), (.t 20)]), none⟩, 992, 0⟩,
⟨12, ⟨(some 23), .b (.call 94 [(.t 21), (.t 22)]), none⟩, 4064, 0⟩,
⟨13, ⟨(some 24), .b (.call 93 [(.t 14), (.t 15), (.t 23)]), none⟩, 8191, 0⟩]) (.draw [
⟨0, ⟨(some 25), .p (.mv (.t 0)), none⟩, 0, 0⟩,
⟨1, ⟨(some 26), .p (.nilCheck (.t 25)), none⟩, 1, 0⟩,
⟨2, ⟨(some 27), .p (.faddr 89 (.t 26)), none⟩, 3, 0⟩,
⟨3, ⟨(some 28), .r (.load none (.t 27)), none⟩, 7, 0⟩,
⟨4, ⟨(some 29), .r (.load (some 20) (.t 6)), none⟩, 0, 0⟩,
⟨5, ⟨(some 30), .p (.mv (.t 0)), none⟩, 0, 0⟩,
⟨6, ⟨(some 31), .p (.nilCheck (.t 30)), none⟩, 32, 0⟩,
⟨7, ⟨(some 32), .p (.faddr 89 (.t 31)), none⟩, 96, 0⟩,
⟨8, ⟨(some 33), .r (.load none (.t 32)), none⟩, 224, 0⟩,
⟨9, ⟨(some 34), .r (.load (some 20) (.t 6)), none⟩, 0, 0⟩,
⟨11, ⟨(some 36), .r (.load (some 4) (.t 7)), none⟩, 0, 0⟩,
⟨10, ⟨(some 35), .b (.call 34 [(.t 33), (.t 34)]), none⟩, 992, 0⟩,
⟨12, ⟨(some 37), .b (.call 95 [(.t 35), (.t 36)]), none⟩, 4064, 0⟩,
⟨13, ⟨(some 38), .b (.call 93 [(.t 28), (.t 29), (.t 37)]), none⟩, 8191, 0⟩])))⟩
theorem fp71 : ∃ fn, fb71 = denF fn ∧ ∃ func code hint, FnOk Go.Proofs.Tryz.prog TT 71 fn func code hint := f2_mk (func := Go.Proofs.Tryz.f71) (code := bodyOf Go.Proofs.Tryz.f71) (hint := hintL [(2, [(0, 0), (1, 0), (2, 0), (3, 0), (4, 0), (5, 0), (6, 0), (7, 0), (8, 0), (9, 0), (11, 0), (10, 0), (12, 0), (13, 0)]), (3, [(0, 0), (1, 0), (2, 0), (3, 0), (4, 0), (5, 0), (6, 0), (7, 0), (8, 0), (9, 0), (11, 0), (10, 0), (12, 0), (13, 0)])]) (n := 39) (res := []) Go.Proofs.Tryz.func71 Go.Proofs.Tryz.call71 (by kernel_rfl) (by kernel_rfl) (by kernel_rfl) (by kernel_rfl) (by kernel_rfl)
/- (*quarry/vm.machine).lays -/
def fb72 : AFunc2 := ⟨79, [.cell (rLoad (some 23) g6)], .seq (.reg [
oBox w4 30 g1,
oBox w5 131 g2,
oAlloc w6 131 [zi64, .nils, zu64, zu8, zu8, zu8, zu8, zu8, zu8, zu8, zu8, zu8, zu8, zu8, zu8, zu8, zu8, zu8, zu8, zu8, zu8, zu8, zu8]]) (.seq (.seq (.reg [
oP w9 (pFaddr 0 g5),
oR w10 (rLoad none g9),
oK w11 (bCmp 1 nEq .eq true g10 (gC (.w (.s (zi64)))))]) (.cond g11 (.seq (.reg [
oR w12 (rLoad (some 23) g5),
oK wZ (bSt 23 g6 g12)]) (.ret)) (.skip))) (.seq (.draw [
⟨0, ⟨(some 13), .p (.faddr 1 (.t 5)), none⟩, 0, 0⟩,
⟨1, ⟨(some 14), .r (.load none (.t 13)), none⟩, 1, 0⟩,
⟨2, ⟨(some 15), .p (.faddr 1 (.t 5)), none⟩, 0, 0⟩,
⟨3, ⟨(some 16), .r (.load none (.t 15)), none⟩, 4, 0⟩,
⟨4, ⟨(some 17), .p (.len (.t 16)), none⟩, 12, 0⟩,
⟨5, ⟨(some 18), .p (.conv .u64 (.t 17)), none⟩, 28, 0⟩,
⟨6, ⟨(some 19), .p (.ar 2 (.c (.w (.s (nu64 200)))) (.t 18)), none⟩, 60, 0⟩,
⟨7, ⟨(some 7), .p (.mv (.t 14)), none⟩, 3, 0⟩,
⟨8, ⟨(some 8), .p (.mv (.t 19)), none⟩, 255, 0⟩]) (.seq (.block 0 (.seq (.seq (.reg [
oP w21 (pMv g0),
oP w22 (pGen fun _ t => opNil t (.t 21)),
oP w23 (pFaddr 1 g22),
oP w24 (pFaddr 9 g23),
oR w25 (rLoad none g24),
oK w26 (bCmp 1 nEq .eq true g25 (gC (.w (.s (zi64))))),
oP w27 (pMv g26),
oGd g27 true w28 (oP w28 (pMv g7)),
oGd g27 true w29 (oP w29 (pGen fun _ t => opLen t (.t 28))),
oGd g27 true w30 (oP w30 (pMv g0)),
oGd g27 true w31 (oP w31 (pGen fun _ t => opNil t (.t 30))),
oGd g27 true w32 (oP w32 (pFaddr 1 g31)),
oGd g27 true w33 (oP w33 (pFaddr 9 g32)),
oGd g27 true w34 (oR w34 (rLoad none g33)),
oGd g27 true w35 (oK w35 (bCmp 4 nLe .le true g29 g34)),
oP w36 (pGen fun _ t => opPick t (.t 27) (.t 35) (.c (.w (.s (.bool false))))),
oP w20 (pMv g36)]) (.cond g20 (.skip) (.reg [
oP w37 (pMv g0),
oCall w38 66 [g37, (gC (.w (.s (ni64 10))))],
oP w39 (pMv g38),
oGd g39 true w40 (oP w40 (pMv g7)),
oGd g39 true w41 (oP w41 (pGen fun _ t => opLen t (.t 40))),
oGd g39 true w42 (oK w42 (bCmp 4 nLe .le true g41 (gC (.w (.s (zi64)))))),
oP w43 (pGen fun _ t => opPick t (.t 39) (.t 42) (.c (.w (.s (.bool false))))),
oP w44 (pMv g43),
oGd g44 true w45 (oP w45 (pMv g7)),
oGd g44 true w46 (oP w46 (pIaddrS 1 g45 (gC (.w (.s (zi64)))))),
oGd g44 true w47 (oR w47 (rLoad none g46)),
oGd g44 true w48 (oK w48 (bCmp 0 intEq .eq false g47 (gC (.w (.s (nu8 239)))))),
oP w49 (pGen fun _ t => opPick t (.t 44) (.t 48) (.c (.w (.s (.bool false))))),
oP w20 (pMv g49)]))) (.cond g20 (.seq (.reg [
oCall w50 68 [],
oK wZ (bSt 23 g6 g50)]) (.ret)) (.seq (.reg [
oP w52 (pMv g8),
oP w53 (pFaddr 2 g5),
oR w54 (rLoad none g53),
oK w55 (bCmp 4 nLe .le true g52 g54),
oP w56 (pMv g55),
oGd g56 true w57 (oP w57 (pMv g0)),
oGd g56 true w58 (oCall w58 66 [g57, (gC (.w (.s (ni64 1))))]),
oP w59 (pGen fun _ t => opPick t (.t 56) (.t 58) (.c (.w (.s (.bool false))))),
oP w51 (pMv g59)]) (.cond g51 (.seq (.reg [
oCall w60 68 [],
oK wZ (bSt 23 g6 g60)]) (.ret)) (.seq (.reg [
oP w62 (pMv g8),
oP w63 (pFaddr 2 g5),
oR w64 (rLoad none g63),
oK w65 (bCmp 4 nLe .le true g62 g64),
oP w61 (pMv g65)]) (.cond g61 (.reg [
oP w7 (pMv (gC (.w (.s (.nils))))),
oP w8 (pMv (gC (.w (.s (zu64)))))]) (.skip)))))))) (.seq (.draw [
⟨0, ⟨(some 66), .p (.mv (.t 0)), none⟩, 0, 0⟩,
⟨1, ⟨(some 67), .p (.nilCheck (.t 66)), none⟩, 1, 0⟩,
⟨2, ⟨(some 68), .p (.faddr 89 (.t 67)), none⟩, 3, 0⟩,
⟨3, ⟨(some 69), .r (.load none (.t 68)), none⟩, 7, 0⟩,
⟨4, ⟨(some 70), .r (.load (some 20) (.t 4)), none⟩, 0, 0⟩,
⟨5, ⟨(some 71), .p (.mv (.t 7)), none⟩, 0, 0⟩,
⟨6, ⟨(some 72), .b (.call 96 [(.t 69), (.t 70), (.t 71)]), none⟩, 63, 0⟩]) (.seq (.reg [
oP w73 (pFaddr 2 g5),
oR w74 (rLoad none g73),
oP w75 (pMv g8),
oP w76 (pAr 1 g74 g75),
oR w77 (rLoad (some 20) g4),
oP w78 (pBuild [zi64, .nils, zu64, zu8, zu8, zu8, zu8, zu8, zu8, zu8, zu8, zu8, zu8, zu8, zu8, zu8, zu8, zu8, zu8, zu8, zu8, zu8, zu8] [(2, 1, g76), (3, 20, g77)]),
oK wZ (bSt 23 g6 g78)]) (.ret))))))⟩
theorem fp72 : ∃ fn, fb72 = denF fn ∧ ∃ func code hint, FnOk Go.Proofs.Tryz.prog TT 72 fn func code hint := f2_mk (func := Go.Proofs.Tryz.f72) (code := bodyOf Go.Proofs.Tryz.f72) (hint := hintL [(3, [(0, 0), (1, 0), (2, 0), (3, 0), (4, 0), (5, 0), (6, 0), (7, 0), (8, 0)]), (11, [(0, 0), (1, 0), (2, 0), (3, 0), (4, 0), (5, 0), (6, 0)])]) (n := 79) (res := [.cell 6 (some 23)]) Go.Proofs.Tryz.func72 Go.Proofs.Tryz.call72 (by kernel_rfl) (by kernel_rfl) (by kernel_rfl) (by kernel_rfl) (by kernel_rfl)
/- (*quarry/vm.machine).runs -/
def fb73 : AFunc2 := ⟨48, [.cell (rLoad (some 23) g6)], .seq (.reg [
oBox w4 129 g1,
oAlloc w6 131 [zi64, .nils, zu64, zu8, zu8, zu8, zu8, zu8, zu8, zu8, zu8, zu8, zu8, zu8, zu8, zu8, zu8, zu8, zu8, zu8, zu8, zu8, zu8]]) (.seq (.reg [
oP w8 (pGen fun _ t => opMkfn t 97 [(.t 6)]),
oP wZ (pGen fun _ _ => none)]) (.seq (.reg [
oP w9 (pMv g0),
oR w10 (rLoad (some 68) g4),
oP w11 (pMv g2),
oP w12 (pBuild [.nilp, zu8, zu8, zu8, zu8, zu8, zu8, zu8, zu8, zu8, zu8, zu8, zu8, zu8, zu8, zu8, zu8, zu8, zu8, zu8, zu8, zu8, zu8, zu8, zu8, zu8, zu8, zu8, zu8, zu8, zu8, zu8, zu8, zu8, zu8, zu8, zu8, zu8, zu8, zu8, zu8, zu8, zu8, zu8, zu8, zu8, zu8, zu8, zu8, zu8, zu8, zu8, zu8, zu8, zu8, zu8, zu8, zu8, zu8, zu8, zu8, zu64, zu64, zu64, zu64, .nils, zu64, .bool false, zi64, .nils, .nils, .nils, .nils, zi64, .nilp, .nilm] [(0, 1, g9), (1, 68, g10), (69, 1, g11)]),
oBox w13 192 g12,
oP w7 (pMv g13)]) (.seq (.block 0 (.loop (.seq (.seq (.reg [
oP w14 (pMv g7),
oP w15 (pGen fun _ t => opNil t (.t 14)),
oP w16 (pFaddr 74 g15),
oR w17 (rLoad none g16),
oK w18 (b2 (fun x y s K => cmpA 0 .ptr x y s fun b s => K (vBool b) s) g17 (gC (.w (.s (.nilp)))))]) (.cond g18 (.skip) (.exit 0))) (.block 1 (.seq (.seq (.reg [
oP w19 (pMv g7),
oP w20 (pGen fun _ t => opNil t (.t 19)),
oP w21 (pFaddr 73 g20),
oR w22 (rLoad none g21),
oP w23 (pMv g2),
oP w24 (pGen fun _ t => opLen t (.t 23)),
oK w25 (bCmp 5 gLe cGe false g22 g24)]) (.cond g25 (.seq (.reg [
oP w26 (pMv g7),
oP w27 (pGen fun _ t => opNil t (.t 26)),
oP w28 (pFaddr 1 g27),
oP w29 (pFaddr 65 g28),
oR w30 (rLoad none g29),
oP w31 (pBuild [zi64, .nils, zu64, zu8, zu8, zu8, zu8, zu8, zu8, zu8, zu8, zu8, zu8, zu8, zu8, zu8, zu8, zu8, zu8, zu8, zu8, zu8, zu8] [(2, 1, g30)]),
oK wZ (bSt 23 g6 g31)]) (.ret)) (.skip))) (.reg [
oP w32 (pMv g7),
oP w33 (pMv g2),
oP w34 (pMv g7),
oP w35 (pGen fun _ t => opNil t (.t 34)),
oP w36 (pFaddr 73 g35),
oR w37 (rLoad none g36),
oP w38 (pIaddrS 1 g33 g37),
oR w39 (rLoad none g38),
oP w40 (pConv .i64 g39),
oCall w41 98 [g32, g40]])))))) (.seq (.reg [
oP w42 (pMv g7),
oP w43 (pGen fun _ t => opNil t (.t 42)),
oP w44 (pFaddr 74 g43),
oR w45 (rLoad none g44),
oP w46 (pGen fun _ t => opNil t (.t 45)),
oR w47 (rLoad (some 23) g46),
oK wZ (bSt 23 g6 g47)]) (.ret)))))⟩
theorem fp73 : ∃ fn, fb73 = denF fn ∧ ∃ func code hint, FnOk Go.Proofs.Tryz.prog TT 73 fn func code hint := f2_mk (func := Go.Proofs.Tryz.f73) (code := bodyOf Go.Proofs.Tryz.f73) (hint := hintL []) (n := 48) (res := [.cell 6 (some 23)]) Go.Proofs.Tryz.func73 Go.Proofs.Tryz.call73 (by kernel_rfl) (by kernel_rfl) (by kernel_rfl) (by kernel_rfl) (by kernel_rfl)
/- (*quarry/state.State).Back -/
def fb74 : AFunc2 := ⟨76, [.tmp g4], .seq (.reg [
oBox w3 3 g1,
oP w4 (pMv (gC (.w (.s (.bool false)))))]) (.seq (.reg [
oP w7 (pMv g0),
oP w8 (pGen fun _ t => opNil t (.t 7)),
oP w9 (pFaddr 1 g8),
oP w10 (pFaddr 10 g9),
oR w11 (rLoad none g10),
oP w12 (pGen fun _ t => opMkfn t 100 [(.t 3)]),
oCall w13 99 [g11, g12],
oP w5 (pMv g13)]) (.seq (.seq (.reg [
oP w14 (pMv g5),
oK w15 (bCmp 2 lLt cGe true g14 (gC (.w (.s (zi64)))))]) (.cond g15 (.seq (.reg [
oP w4 (pMv (gC (.w (.s (.bool false)))))]) (.ret)) (.skip))) (.seq (.seq (.reg [
oP w16 (pMv g0),
oP w17 (pGen fun _ t => opNil t (.t 16)),
oP w18 (pFaddr 1 g17),
oP w19 (pFaddr 9 g18),
oR w20 (rLoad none g19),
oP w21 (pGen fun _ t => opLen t (.t 20)),
oP w22 (pAr 1 g21 (gC (.w (.s (ni64 1))))),
oP w6 (pMv g22)]) (.block 0 (.loop (.seq (.seq (.reg [
oP w23 (pMv g6),
oP w24 (pMv g0),
oP w25 (pGen fun _ t => opNil t (.t 24)),
oP w26 (pFaddr 1 g25),
oP w27 (pFaddr 10 g26),
oR w28 (rLoad none g27),
oP w29 (pMv g5),
oP w30 (pIaddrS 2 g28 g29),
oP w31 (pFaddr 1 g30),
oR w32 (rLoad none g31),
oK w33 (bCmp 5 gLe cGe false g23 g32)]) (.cond g33 (.skip) (.exit 0))) (.seq (.block 1 (.reg [
oP w36 (pMv g0),
oP w37 (pGen fun _ t => opNil t (.t 36)),
oP w38 (pFaddr 1 g37),
oP w39 (pFaddr 9 g38),
oR w40 (rLoad none g39),
oP w41 (pMv g6),
oP w42 (pIaddrS 1 g40 g41),
oR w43 (rLoad none g42),
oCallv w44 g43 []])) (.reg [
oP w34 (pMv g6),
oP w35 (pAr 1 g34 (gC (.w (.s (ni64 1))))),
oP w6 (pMv g35)])))))) (.seq (.draw [
⟨0, ⟨(some 45), .p (.mv (.t 0)), none⟩, 0, 0⟩,
⟨1, ⟨(some 46), .p (.mv (.t 0)), none⟩, 0, 0⟩,
⟨2, ⟨(some 47), .p (.nilCheck (.t 46)), none⟩, 2, 0⟩,
⟨3, ⟨(some 48), .p (.faddr 1 (.t 47)), none⟩, 6, 0⟩,
⟨4, ⟨(some 49), .p (.faddr 9 (.t 48)), none⟩, 14, 0⟩,
⟨5, ⟨(some 50), .r (.load none (.t 49)), none⟩, 30, 0⟩,
⟨6, ⟨(some 51), .p (.mv (.t 0)), none⟩, 0, 0⟩,
⟨7, ⟨(some 52), .p (.nilCheck (.t 51)), none⟩, 64, 0⟩,
⟨8, ⟨(some 53), .p (.faddr 1 (.t 52)), none⟩, 192, 0⟩,
⟨9, ⟨(some 54), .p (.faddr 10 (.t 53)), none⟩, 448, 0⟩,
⟨10, ⟨(some 55), .r (.load none (.t 54)), none⟩, 960, 0⟩,
⟨11, ⟨(some 56), .p (.mv (.t 5)), none⟩, 0, 0⟩,
⟨12, ⟨(some 57), .p (.iaddrS 2 (.t 55) (.t 56)), none⟩, 4032, 0⟩,
⟨13, ⟨(some 58), .p (.faddr 1 (.t 57)), none⟩, 8128, 0⟩,
⟨14, ⟨(some 59), .r (.load none (.t 58)), none⟩, 16320, 0⟩,
⟨15, ⟨(some 60), .p (.slice 1 (.t 50) none (some (.t 59))), none⟩, 32766, 0⟩,
⟨16, ⟨(some 61), .p (.nilCheck (.t 45)), none⟩, 65535, 0⟩,
⟨17, ⟨(some 62), .p (.faddr 1 (.t 61)), none⟩, 131071, 0⟩,
⟨18, ⟨(some 63), .p (.faddr 9 (.t 62)), none⟩, 262143, 0⟩,
⟨19, ⟨none, .b (.store 1 (.t 63) (.t 60)), none⟩, 524287, 0⟩]) (.seq (.reg [
oP w64 (pMv g0),
oP w65 (pMv g0),
oP w66 (pGen fun _ t => opNil t (.t 65)),
oP w67 (pFaddr 1 g66),
oP w68 (pFaddr 10 g67),
oR w69 (rLoad none g68),
oP w70 (pMv g5),
oP w71 (pAr 0 g70 (gC (.w (.s (ni64 1))))),
oP w72 (pGen fun _ t => opSlice t 2 (.t 69) none (some (.t 71))),
oP w73 (pGen fun _ t => opNil t (.t 64)),
oP w74 (pFaddr 1 g73),
oP w75 (pFaddr 10 g74),
oK wZ (bSt 1 g75 g72)]) (.seq (.reg [
oP w4 (pMv (gC (.w (.s (.bool true)))))]) (.ret)))))))⟩
theorem fp74 : ∃ fn, fb74 = denF fn ∧ ∃ func code hint, FnOk Go.Proofs.Tryz.prog TT 74 fn func code hint := f2_mk (func := Go.Proofs.Tryz.f74) (code := bodyOf Go.Proofs.Tryz.f74) (hint := hintL [(8, [(0, 0), (1, 0), (2, 0), (3, 0), (4, 0), (5, 0), (6, 0), (7, 0), (8, 0), (9, 0), (10, 0), (11, 0), (12, 0), (13, 0), (14, 0), (15, 0), (16, 0), (17, 0), (18, 0), (19, 0)])]) (n := 76) (res := [.tmp 4]) Go.Proofs.Tryz.func74 Go.Proofs.Tryz.call74 (by kernel_rfl) (by kernel_rfl) (by kernel_rfl) (by kernel_rfl) (by kernel_rfl)
/- quarry/book.last -/
def fb75 : AFunc2 := ⟨9, [.cell (rLoad (some 20) g2)], .seq (.reg [
oAlloc w2 30 zz0]) (.seq (.reg [
oP w4 (pMv g0),
oCall w5 101 [g4],
oAlloc w3 50 zz1,
oK wZ (bSt 32 g3 g5)]) (.seq (.reg [
oP w6 (pGen fun _ t => opASlice t 32 1 (.t 3) (some (.c (.w (.s (ni64 12))))) none),
oP w7 (pGen fun _ t => opS2a t 20 (.t 6)),
oR w8 (rLoad (some 20) g7),
oK wZ (bSt 20 g2 g8)]) (.ret)))⟩
theorem fp75 : ∃ fn, fb75 = denF fn ∧ ∃ func code hint, FnOk Go.Proofs.Tryz.prog TT 75 fn func code hint := f2_mk (func := Go.Proofs.Tryz.f75) (code := bodyOf Go.Proofs.Tryz.f75) (hint := hintL []) (n := 9) (res := [.cell 2 (some 20)]) Go.Proofs.Tryz.func75 Go.Proofs.Tryz.call75 (by kernel_rfl) (by kernel_rfl) (by kernel_rfl) (by kernel_rfl) (by kernel_rfl)
/- quarry/book.form -/
def fb76 : AFunc2 := ⟨11, [.tmp g2], .seq (.reg [
oBox w1 166 g0,
oP w2 (pMv (gC (.w (.s (.nils)))))]) (.seq (.reg [
oR w6 (rLoad (some 3) g1),
oCall w7 102 [g6],
oP w5 (pMv g7),
oP w8 (pExt g5 0),
oP w9 (pExt g5 1),
oP w3 (pMv g8),
oP w4 (pMv g9)]) (.seq (.reg [
oP w10 (pMv g3),
oP w2 (pMv g10)]) (.ret)))⟩
theorem fp76 : ∃ fn, fb76 = denF fn ∧ ∃ func code hint, FnOk Go.Proofs.Tryz.prog TT 76 fn func code hint := f2_mk (func := Go.Proofs.Tryz.f76) (code := bodyOf Go.Proofs.Tryz.f76) (hint := hintL []) (n := 11) (res := [.tmp 2]) Go.Proofs.Tryz.func76 Go.Proofs.Tryz.call76 (by kernel_rfl) (by kernel_rfl) (by kernel_rfl) (by kernel_rfl) (by kernel_rfl)
/- quarry/book.list -/
def fb77 : AFunc2 := ⟨5, [.cell (rLoad (some 3) g2)], .seq (.reg [
oAlloc w2 166 [.bool false, .nils, .nils]]) (.seq (.reg [
oP w3 (pMv g0),
oP w4 (pBuild [.bool false, .nils, .nils] [(0, 1, (gC (.w (.s (.bool true))))), (2, 1, g3)]),
oK wZ (bSt 3 g2 g4)]) (.ret))⟩
theorem fp77 : ∃ fn, fb77 = denF fn ∧ ∃ func code hint, FnOk Go.Proofs.Tryz.prog TT 77 fn func code hint := f2_mk (func := Go.Proofs.Tryz.f77) (code := bodyOf Go.Proofs.Tryz.f77) (hint := hintL []) (n := 5) (res := [.cell 2 (some 3)]) Go.Proofs.Tryz.func77 Go.Proofs.Tryz.call77 (by kernel_rfl) (by kernel_rfl) (by kernel_rfl) (by kernel_rfl) (by kernel_rfl)
/- quarry/book.text -/
def fb78 : AFunc2 := ⟨5, [.cell (rLoad (some 3) g2)], .seq (.reg [
oAlloc w2 166 [.bool false, .nils, .nils]]) (.seq (.reg [
oP w3 (pMv g0),
oP w4 (pBuild [.bool false, .nils, .nils] [(1, 1, g3)]),
oK wZ (bSt 3 g2 g4)]) (.ret))⟩
theorem fp78 : ∃ fn, fb78 = denF fn ∧ ∃ func code hint, FnOk Go.Proofs.Tryz.prog TT 78 fn func code hint := f2_mk (func := Go.Proofs.Tryz.f78) (code := bodyOf Go.Proofs.Tryz.f78) (hint := hintL []) (n := 5) (res := [.cell 2 (some 3)]) Go.Proofs.Tryz.func78 Go.Proofs.Tryz.call78 (by kernel_rfl) (by kernel_rfl) (by kernel_rfl) (by kernel_rfl) (by kernel_rfl)
/- quarry/book.number -/
def fb79 : AFunc2 := ⟨6, [.cell (rLoad (some 3) g2)], .seq (.reg [
oAlloc w2 166 [.bool false, .nils, .nils]]) (.seq (.reg [
oP w3 (pMv g0),
oCall w4 26 [g3],
oCall w5 103 [g4],
oK wZ (bSt 3 g2 g5)]) (.ret))⟩
theorem fp79 : ∃ fn, fb79 = denF fn ∧ ∃ func code hint, FnOk Go.Proofs.Tryz.prog TT 79 fn func code hint := f2_mk (func := Go.Proofs.Tryz.f79) (code := bodyOf Go.Proofs.Tryz.f79) (hint := hintL []) (n := 6) (res := [.cell 2 (some 3)]) Go.Proofs.Tryz.func79 Go.Proofs.Tryz.call79 (by kernel_rfl) (by kernel_rfl) (by kernel_rfl) (by kernel_rfl) (by kernel_rfl)
/- quarry/fork.Native -/
def fb80 : AFunc2 := ⟨33, [.tmp g4], .seq (.reg [
oBox w3 30 g1,
oP w4 (pMv (gC (.w (.s (zi64)))))]) (.seq (.reg [
oP w6 (pIaddrA 20 1 g3 (gC (.w (.s (ni64 19))))),
oR w7 (rLoad none g6),
oP w8 (pConv .i64 g7),
oP w5 (pMv g8)]) (.seq (.seq (.reg [
oR w9 (rLoad (some 20) g3),
oP w10 (pMv g5),
oP w11 (pConv .u8 g10),
oP w12 (pBuild zz0 [(19, 1, g11)]),
oK w13 (b2 (fun x y s K => cmpA 1 (.agg (.one (.arr 20 5 .u8))) x y s fun b s => K (vBool b) s) g9 g12),
oP w14 (pMv g13),
oGd g14 false w15 (oP w15 (pMv g0)),
oGd g14 false w16 (oK w16 (bCmp 2 lLt cGe true g15 (gC (.w (.s (zi64)))))),
oP w17 (pGen fun _ t => opPick t (.t 14) (.c (.w (.s (.bool true)))) (.t 16)),
oP w18 (pMv g17),
oGd g18 false w19 (oP w19 (pMv g0)),
oGd g18 false w20 (oK w20 (bCmp 4 nLe .le true g19 (gC (.w (.s (ni64 15)))))),
oP w21 (pGen fun _ t => opPick t (.t 18) (.c (.w (.s (.bool true)))) (.t 20))]) (.cond g21 (.seq (.reg [
oP w4 (pMv (gC (.w (.s (zi64)))))]) (.ret)) (.skip))) (.seq (.seq (.reg [
oP w22 (pMv g5),
oP w23 (pMv g0),
oP w24 (pBuild [zi64, zu64] [(0, 1, (gC (.w (.s (zi64))))), (1, 1, (gC (.w (.s (nu64 4)))))]),
oP w25 (pBuild [zi64, zu64] [(0, 1, (gC (.w (.s (ni64 4))))), (1, 1, (gC (.w (.s (nu64 8)))))]),
oP w26 (pBuild [zi64, zu64] [(0, 1, (gC (.w (.s (ni64 7))))), (1, 1, (gC (.w (.s (nu64 9)))))]),
oP w27 (pBuild [zi64, zu64] [(0, 1, (gC (.w (.s (ni64 15))))), (1, 1, (gC (.w (.s (nu64 10)))))]),
oM w28 (.bslice 150 4 [zi64, zu64] [(0, 2, (.t 24)), (2, 2, (.t 25)), (4, 2, (.t 26)), (6, 2, (.t 27))]),
oCall w29 60 [g23, g28],
oP w30 (pConv .i64 g29),
oK w31 (bCmp 3 intLe .le false g22 g30)]) (.cond g31 (.seq (.reg [
oP w32 (pMv g5),
oP w4 (pMv g32)]) (.ret)) (.skip))) (.seq (.reg [
oP w4 (pMv (gC (.w (.s (zi64)))))]) (.ret)))))⟩
theorem fp80 : ∃ fn, fb80 = denF fn ∧ ∃ func code hint, FnOk Go.Proofs.Tryz.prog TT 80 fn func code hint := f2_mk (func := Go.Proofs.Tryz.f80) (code := bodyOf Go.Proofs.Tryz.f80) (hint := hintL []) (n := 33) (res := [.tmp 4]) Go.Proofs.Tryz.func80 Go.Proofs.Tryz.call80 (by kernel_rfl) (by kernel_rfl) (by kernel_rfl) (by kernel_rfl) (by kernel_rfl)
/- (*quarry/vm.machine).enters -/
def fb81 : AFunc2 := ⟨29, [.cell (rLoad (some 23) g6)], .seq (.reg [
oBox w4 129 g1,
oAlloc w6 131 [zi64, .nils, zu64, zu8, zu8, zu8, zu8, zu8, zu8, zu8, zu8, zu8, zu8, zu8, zu8, zu8, zu8, zu8, zu8, zu8, zu8, zu8, zu8]]) (.seq (.reg [
oP w9 (pMv g0),
oP w10 (pGen fun _ t => opNil t (.t 9)),
oP w11 (pFaddr 89 g10),
oR w12 (rLoad none g11),
oCall w13 69 [g12],
oP w7 (pMv g13)]) (.seq (.reg [
oP w14 (pMv g2),
oCallv w15 g14 []]) (.seq (.reg [
oP w16 (pMv g0),
oR w17 (rLoad (some 68) g4),
oCall w18 104 [g16, g17],
oAlloc w8 131 [zi64, .nils, zu64, zu8, zu8, zu8, zu8, zu8, zu8, zu8, zu8, zu8, zu8, zu8, zu8, zu8, zu8, zu8, zu8, zu8, zu8, zu8, zu8],
oK wZ (bSt 23 g8 g18)]) (.seq (.seq (.reg [
oP w19 (pFaddr 0 g8),
oR w20 (rLoad none g19),
oK w21 (bCmp 1 nEq .eq true g20 (gC (.w (.s (zi64)))))]) (.cond g21 (.reg [
oP w22 (pMv g0),
oP w23 (pGen fun _ t => opNil t (.t 22)),
oP w24 (pFaddr 89 g23),
oR w25 (rLoad none g24),
oP w26 (pMv g7),
oCall w27 74 [g25, g26]]) (.skip))) (.seq (.reg [
oR w28 (rLoad (some 23) g8),
oK wZ (bSt 23 g6 g28)]) (.ret))))))⟩
theorem fp81 : ∃ fn, fb81 = denF fn ∧ ∃ func code hint, FnOk Go.Proofs.Tryz.prog TT 81 fn func code hint := f2_mk (func := Go.Proofs.Tryz.f81) (code := bodyOf Go.Proofs.Tryz.f81) (hint := hintL []) (n := 29) (res := [.cell 6 (some 23)]) Go.Proofs.Tryz.func81 Go.Proofs.Tryz.call81 (by kernel_rfl) (by kernel_rfl) (by kernel_rfl) (by kernel_rfl) (by kernel_rfl)
/- (*quarry/vm.machine).calls$1 -/
def fb82 : AFunc2 := ⟨32, [], .seq (.seq (.draw [
⟨0, ⟨(some 2), .r (.load none (.t 0)), none⟩, 0, 0⟩,
⟨1, ⟨(some 3), .p (.nilCheck (.t 2)), none⟩, 1, 0⟩,
⟨2, ⟨(some 4), .p (.faddr 89 (.t 3)), none⟩, 3, 0⟩,
⟨3, ⟨(some 5), .r (.load none (.t 4)), none⟩, 7, 0⟩,
⟨4, ⟨(some 6), .p (.faddr 20 (.t 1)), none⟩, 0, 0⟩,
⟨5, ⟨(some 7), .r (.load (some 20) (.t 6)), none⟩, 16, 0⟩,
⟨6, ⟨(some 8), .b (.call 33 [(.t 5), (.t 7)]), none⟩, 63, 0⟩,
⟨7, ⟨(some 9), .p (.not (.t 8)), none⟩, 127, 0⟩]) (.cond g9 (.draw [
⟨0, ⟨(some 10), .r (.load none (.t 0)), none⟩, 0, 0⟩,
⟨1, ⟨(some 11), .p (.nilCheck (.t 10)), none⟩, 1, 0⟩,
⟨2, ⟨(some 12), .p (.faddr 89 (.t 11)), none⟩, 3, 0⟩,
⟨3, ⟨(some 13), .r (.load none (.t 12)), none⟩, 7, 0⟩,
⟨4, ⟨(some 14), .p (.faddr 20 (.t 1)), none⟩, 0, 0⟩,
⟨5, ⟨(some 15), .r (.load (some 20) (.t 14)), none⟩, 16, 0⟩,
⟨6, ⟨(some 16), .b (.call 83 [(.t 13), (.t 15)]), none⟩, 63, 0⟩]) (.skip))) (.seq (.draw [
⟨0, ⟨(some 17), .r (.load none (.t 0)), none⟩, 0, 0⟩,
⟨1, ⟨(some 18), .p (.nilCheck (.t 17)), none⟩, 1, 0⟩,
⟨2, ⟨(some 19), .p (.faddr 89 (.t 18)), none⟩, 3, 0⟩,
⟨3, ⟨(some 20), .r (.load none (.t 19)), none⟩, 7, 0⟩,
⟨4, ⟨(some 21), .p (.faddr 20 (.t 1)), none⟩, 0, 0⟩,
⟨5, ⟨(some 22), .r (.load (some 20) (.t 21)), none⟩, 16, 0⟩,
⟨6, ⟨(some 23), .b (.call 84 [(.t 20), (.t 22)]), none⟩, 63, 0⟩]) (.reg [
oR w24 (rLoad none g0),
oP w25 (pFaddr 0 g1),
oR w26 (rLoad (some 20) g25),
oP w27 (pFaddr 20 g1),
oR w28 (rLoad (some 20) g27),
oP w29 (pFaddr 60 g1),
oR w30 (rLoad (some 4) g29),
oCall w31 71 [g24, g26, g28, g30]]))⟩
theorem fp82 : ∃ fn, fb82 = denF fn ∧ ∃ func code hint, FnOk Go.Proofs.Tryz.prog TT 82 fn func code hint := f2_mk (func := Go.Proofs.Tryz.f82) (code := bodyOf Go.Proofs.Tryz.f82) (hint := hintL [(0, [(0, 0), (1, 0), (2, 0), (3, 0), (4, 0), (5, 0), (6, 0), (7, 0)]), (1, [(0, 0), (1, 0), (2, 0), (3, 0), (4, 0), (5, 0), (6, 0)]), (2, [(0, 0), (1, 0), (2, 0), (3, 0), (4, 0), (5, 0), (6, 0)])]) (n := 32) (res := []) Go.Proofs.Tryz.func82 Go.Proofs.Tryz.call82 (by kernel_rfl) (by kernel_rfl) (by kernel_rfl) (by kernel_rfl) (by kernel_rfl)
/- (*quarry/state.State).Open -/
def fb83 : AFunc2 := ⟨7, [], .seq (.reg [
oBox w3 30 g1]) (.reg [
oP w4 (pMv g0),
oR w5 (rLoad (some 20) g3),
oCall w6 87 [g4, g5]])⟩
theorem fp83 : ∃ fn, fb83 = denF fn ∧ ∃ func code hint, FnOk Go.Proofs.Tryz.prog TT 83 fn func code hint := f2_mk (func := Go.Proofs.Tryz.f83) (code := bodyOf Go.Proofs.Tryz.f83) (hint := hintL []) (n := 7) (res := []) Go.Proofs.Tryz.func83 Go.Proofs.Tryz.call83 (by kernel_rfl) (by kernel_rfl) (by kernel_rfl) (by kernel_rfl) (by kernel_rfl)
/- (*quarry/state.State).Touch -/
def fb84 : AFunc2 := ⟨13, [], .seq (.reg [
oBox w3 30 g1]) (.draw [
⟨0, ⟨(some 4), .p (.mv (.t 0)), none⟩, 0, 0⟩,
⟨1, ⟨(some 5), .p (.mv (.t 0)), none⟩, 0, 0⟩,
⟨2, ⟨(some 6), .p (.nilCheck (.t 5)), none⟩, 2, 0⟩,
⟨3, ⟨(some 7), .p (.faddr 1 (.t 6)), none⟩, 6, 0⟩,
⟨4, ⟨(some 8), .p (.faddr 0 (.t 7)), none⟩, 14, 0⟩,
⟨5, ⟨(some 9), .r (.load none (.t 8)), none⟩, 30, 0⟩,
⟨6, ⟨(some 10), .r (.load (some 20) (.t 3)), none⟩, 0, 0⟩,
⟨7, ⟨(some 11), .p (.build [] []), none⟩, 0, 0⟩,
⟨8, ⟨(some 12), .b (.call 90 [(.t 4), (.t 9), (.t 10), (.t 11)]), none⟩, 255, 0⟩])⟩
theorem fp84 : ∃ fn, fb84 = denF fn ∧ ∃ func code hint, FnOk Go.Proofs.Tryz.prog TT 84 fn func code hint := f2_mk (func := Go.Proofs.Tryz.f84) (code := bodyOf Go.Proofs.Tryz.f84) (hint := hintL [(1, [(0, 0), (1, 0), (2, 0), (3, 0), (4, 0), (5, 0), (6, 0), (7, 0), (8, 0)])]) (n := 13) (res := []) Go.Proofs.Tryz.func84 Go.Proofs.Tryz.call84 (by kernel_rfl) (by kernel_rfl) (by kernel_rfl) (by kernel_rfl) (by kernel_rfl)
/- quarry/fork.since -/
def fb85 : AFunc2 := ⟨76, [.tmp g2], .seq (.reg [
oP w2 (pMv (gC (.w (.s (zi64)))))]) (.seq (.block 0 (.seq (.reg [
oP w4 (pMv g0),
oK w5 (bCmp 2 lLt cGe true g4 (gC (.w (.s (zi64))))),
oP w3 (pMv g5)]) (.cond g3 (.seq (.reg [
oP w2 (pMv (gC (.w (.s (.int .i64 (.lit (.negSucc 0)))))))]) (.ret)) (.seq (.seq (.reg [
oP w7 (pMv g0),
oK w8 (bCmp 3 intLe .le false g7 (gC (.w (.s (ni64 11))))),
oP w6 (pMv g8)]) (.cond g6 (.skip) (.seq (.reg [
oP w9 (pMv g0),
oK w10 (bCmp 5 gLe cGe false g9 (gC (.w (.s (ni64 16))))),
oP w11 (pMv g10),
oGd g11 true w12 (oP w12 (pMv g0)),
oGd g11 true w13 (oK w13 (bCmp 3 intLe .le false g12 (gC (.w (.s (ni64 26)))))),
oP w14 (pGen fun _ t => opPick t (.t 11) (.t 13) (.c (.w (.s (.bool false))))),
oP w6 (pMv g14)]) (.cond g6 (.skip) (.seq (.reg [
oP w15 (pMv g0),
oK w16 (bCmp 0 intEq .eq false g15 (gC (.w (.s (ni64 32))))),
oP w6 (pMv g16)]) (.cond g6 (.skip) (.seq (.reg [
oP w17 (pMv g0),
oK w18 (bCmp 5 gLe cGe false g17 (gC (.w (.s (ni64 48))))),
oP w19 (pMv g18),
oGd g19 true w20 (oP w20 (pMv g0)),
oGd g19 true w21 (oK w21 (bCmp 3 intLe .le false g20 (gC (.w (.s (ni64 60)))))),
oP w22 (pGen fun _ t => opPick t (.t 19) (.t 21) (.c (.w (.s (.bool false))))),
oP w6 (pMv g22)]) (.cond g6 (.skip) (.seq (.reg [
oP w23 (pMv g0),
oK w24 (bCmp 5 gLe cGe false g23 (gC (.w (.s (ni64 64))))),
oP w25 (pMv g24),
oGd g25 true w26 (oP w26 (pMv g0)),
oGd g25 true w27 (oK w27 (bCmp 3 intLe .le false g26 (gC (.w (.s (ni64 69)))))),
oP w28 (pGen fun _ t => opPick t (.t 25) (.t 27) (.c (.w (.s (.bool false))))),
oP w6 (pMv g28)]) (.cond g6 (.skip) (.seq (.reg [
oP w29 (pMv g0),
oK w30 (bCmp 5 gLe cGe false g29 (gC (.w (.s (ni64 80))))),
oP w31 (pMv g30),
oGd g31 true w32 (oP w32 (pMv g0)),
oGd g31 true w33 (oK w33 (bCmp 3 intLe .le false g32 (gC (.w (.s (ni64 91)))))),
oP w34 (pGen fun _ t => opPick t (.t 31) (.t 33) (.c (.w (.s (.bool false))))),
oP w6 (pMv g34)]) (.cond g6 (.skip) (.seq (.reg [
oP w35 (pMv g0),
oK w36 (bCmp 5 gLe cGe false g35 (gC (.w (.s (ni64 96))))),
oP w37 (pMv g36),
oGd g37 true w38 (oP w38 (pMv g0)),
oGd g37 true w39 (oK w39 (bCmp 3 intLe .le false g38 (gC (.w (.s (ni64 164)))))),
oP w40 (pGen fun _ t => opPick t (.t 37) (.t 39) (.c (.w (.s (.bool false))))),
oP w6 (pMv g40)]) (.cond g6 (.skip) (.seq (.reg [
oP w41 (pMv g0),
oK w42 (bCmp 5 gLe cGe false g41 (gC (.w (.s (ni64 240))))),
oP w43 (pMv g42),
oGd g43 true w44 (oP w44 (pMv g0)),
oGd g43 true w45 (oK w45 (bCmp 3 intLe .le false g44 (gC (.w (.s (ni64 243)))))),
oP w46 (pGen fun _ t => opPick t (.t 43) (.t 45) (.c (.w (.s (.bool false))))),
oP w6 (pMv g46)]) (.cond g6 (.skip) (.reg [
oP w47 (pMv g0),
oK w48 (bCmp 0 intEq .eq false g47 (gC (.w (.s (ni64 255))))),
oP w6 (pMv g48)]))))))))))))))))) (.cond g6 (.seq (.reg [
oP w2 (pMv (gC (.w (.s (zi64)))))]) (.ret)) (.skip)))))) (.seq (.seq (.reg [
oP w49 (pMv g0)]) (.block 1 (.seq (.reg [
oK w51 (bCmp 0 intEq .eq false g49 (gC (.w (.s (ni64 244))))),
oP w50 (pMv g51)]) (.cond g50 (.seq (.reg [
oP w2 (pMv (gC (.w (.s (ni64 1)))))]) (.ret)) (.seq (.seq (.reg [
oK w53 (bCmp 0 intEq .eq false g49 (gC (.w (.s (ni64 61))))),
oP w52 (pMv g53)]) (.cond g52 (.skip) (.seq (.reg [
oK w54 (bCmp 0 intEq .eq false g49 (gC (.w (.s (ni64 62))))),
oP w52 (pMv g54)]) (.cond g52 (.skip) (.seq (.reg [
oK w55 (bCmp 0 intEq .eq false g49 (gC (.w (.s (ni64 250))))),
oP w52 (pMv g55)]) (.cond g52 (.skip) (.reg [
oK w56 (bCmp 0 intEq .eq false g49 (gC (.w (.s (ni64 253))))),
oP w52 (pMv g56)]))))))) (.cond g52 (.seq (.reg [
oP w2 (pMv (gC (.w (.s (ni64 4)))))]) (.ret)) (.seq (.seq (.reg [
oK w58 (bCmp 0 intEq .eq false g49 (gC (.w (.s (ni64 27))))),
oP w57 (pMv g58)]) (.cond g57 (.skip) (.seq (.reg [
oK w59 (bCmp 0 intEq .eq false g49 (gC (.w (.s (ni64 28))))),
oP w57 (pMv g59)]) (.cond g57 (.skip) (.seq (.reg [
oK w60 (bCmp 0 intEq .eq false g49 (gC (.w (.s (ni64 29))))),
oP w57 (pMv g60)]) (.cond g57 (.skip) (.seq (.reg [
oK w61 (bCmp 0 intEq .eq false g49 (gC (.w (.s (ni64 63))))),
oP w57 (pMv g61)]) (.cond g57 (.skip) (.reg [
oK w62 (bCmp 0 intEq .eq false g49 (gC (.w (.s (ni64 245))))),
oP w57 (pMv g62)]))))))))) (.cond g57 (.seq (.reg [
oP w2 (pMv (gC (.w (.s (ni64 5)))))]) (.ret)) (.seq (.seq (.reg [
oK w64 (bCmp 0 intEq .eq false g49 (gC (.w (.s (ni64 70))))),
oP w63 (pMv g64)]) (.cond g63 (.skip) (.reg [
oK w65 (bCmp 0 intEq .eq false g49 (gC (.w (.s (ni64 71))))),
oP w63 (pMv g65)]))) (.cond g63 (.seq (.reg [
oP w2 (pMv (gC (.w (.s (ni64 7)))))]) (.ret)) (.seq (.reg [
oK w67 (bCmp 0 intEq .eq false g49 (gC (.w (.s (ni64 72))))),
oP w66 (pMv g67)]) (.cond g66 (.seq (.reg [
oP w2 (pMv (gC (.w (.s (ni64 10)))))]) (.ret)) (.seq (.reg [
oK w69 (bCmp 0 intEq .eq false g49 (gC (.w (.s (ni64 95))))),
oP w68 (pMv g69)]) (.cond g68 (.seq (.reg [
oP w2 (pMv (gC (.w (.s (ni64 14)))))]) (.ret)) (.seq (.seq (.reg [
oK w71 (bCmp 0 intEq .eq false g49 (gC (.w (.s (ni64 73))))),
oP w70 (pMv g71)]) (.cond g70 (.skip) (.seq (.reg [
oK w72 (bCmp 0 intEq .eq false g49 (gC (.w (.s (ni64 74))))),
oP w70 (pMv g72)]) (.cond g70 (.skip) (.seq (.reg [
oK w73 (bCmp 0 intEq .eq false g49 (gC (.w (.s (ni64 92))))),
oP w70 (pMv g73)]) (.cond g70 (.skip) (.seq (.reg [
oK w74 (bCmp 0 intEq .eq false g49 (gC (.w (.s (ni64 93))))),
oP w70 (pMv g74)]) (.cond g70 (.skip) (.reg [
oK w75 (bCmp 0 intEq .eq false g49 (gC (.w (.s (ni64 94))))),
oP w70 (pMv g75)]))))))))) (.cond g70 (.seq (.reg [
oP w2 (pMv (gC (.w (.s (ni64 15)))))]) (.ret)) (.skip))))))))))))))))) (.seq (.reg [
oP w2 (pMv (gC (.w (.s (.int .i64 (.lit (.negSucc 0)))))))]) (.ret))))⟩
theorem fp85 : ∃ fn, fb85 = denF fn ∧ ∃ func code hint, FnOk Go.Proofs.Tryz.prog TT 85 fn func code hint := f2_mk (func := Go.Proofs.Tryz.f85) (code := bodyOf Go.Proofs.Tryz.f85) (hint := hintL []) (n := 76) (res := [.tmp 2]) Go.Proofs.Tryz.func85 Go.Proofs.Tryz.call85 (by kernel_rfl) (by kernel_rfl) (by kernel_rfl) (by kernel_rfl) (by kernel_rfl)
/- quarry/word.Cmp -/
def fb86 : AFunc2 := ⟨26, [.tmp g4], .seq (.reg [
oBox w2 24 g0,
oBox w3 24 g1,
oP w4 (pMv (gC (.w (.s (zi64)))))]) (.seq (.seq (.reg [
oP w5 (pMv (gC (.w (.s (ni64 3)))))]) (.block 0 (.loop (.seq (.seq (.reg [
oP w6 (pMv g5),
oK w7 (bCmp 5 gLe cGe false g6 (gC (.w (.s (zi64)))))]) (.cond g7 (.skip) (.exit 0))) (.seq (.block 1 (.block 2 (.seq (.draw [
⟨0, ⟨(some 11), .p (.mv (.t 5)), none⟩, 0, 0⟩,
⟨1, ⟨(some 12), .p (.iaddrA 4 1 (.t 2) (.t 11)), none⟩, 1, 0⟩,
⟨2, ⟨(some 13), .r (.load none (.t 12)), none⟩, 3, 0⟩,
⟨3, ⟨(some 14), .p (.mv (.t 5)), none⟩, 0, 0⟩,
⟨4, ⟨(some 15), .p (.iaddrA 4 1 (.t 3) (.t 14)), none⟩, 8, 0⟩,
⟨5, ⟨(some 16), .r (.load none (.t 15)), none⟩, 24, 0⟩,
⟨6, ⟨(some 17), .b (.cmp 2 .int (.t 13) (.t 16)), none⟩, 63, 0⟩,
⟨7, ⟨(some 10), .p (.mv (.t 17)), none⟩, 127, 0⟩]) (.cond g10 (.seq (.reg [
oP w4 (pMv (gC (.w (.s (.int .i64 (.lit (.negSucc 0)))))))]) (.ret)) (.seq (.draw [
⟨0, ⟨(some 19), .p (.mv (.t 5)), none⟩, 0, 0⟩,
⟨1, ⟨(some 20), .p (.iaddrA 4 1 (.t 2) (.t 19)), none⟩, 1, 0⟩,
⟨2, ⟨(some 21), .r (.load none (.t 20)), none⟩, 3, 0⟩,
⟨3, ⟨(some 22), .p (.mv (.t 5)), none⟩, 0, 0⟩,
⟨4, ⟨(some 23), .p (.iaddrA 4 1 (.t 3) (.t 22)), none⟩, 8, 0⟩,
⟨5, ⟨(some 24), .r (.load none (.t 23)), none⟩, 24, 0⟩,
⟨6, ⟨(some 25), .b (.cmp 4 .int (.t 21) (.t 24)), none⟩, 63, 0⟩,
⟨7, ⟨(some 18), .p (.mv (.t 25)), none⟩, 127, 0⟩]) (.cond g18 (.seq (.reg [
oP w4 (pMv (gC (.w (.s (ni64 1)))))]) (.ret)) (.skip))))))) (.reg [
oP w8 (pMv g5),
oP w9 (pAr 1 g8 (gC (.w (.s (ni64 1))))),
oP w5 (pMv g9)])))))) (.seq (.reg [
oP w4 (pMv (gC (.w (.s (zi64)))))]) (.ret)))⟩
theorem fp86 : ∃ fn, fb86 = denF fn ∧ ∃ func code hint, FnOk Go.Proofs.Tryz.prog TT 86 fn func code hint := f2_mk (func := Go.Proofs.Tryz.f86) (code := bodyOf Go.Proofs.Tryz.f86) (hint := hintL [(4, [(0, 0), (1, 0), (2, 0), (3, 0), (4, 0), (5, 0), (6, 0), (7, 0)]), (6, [(0, 0), (1, 0), (2, 0), (3, 0), (4, 0), (5, 0), (6, 0), (7, 0)])]) (n := 26) (res := [.tmp 4]) Go.Proofs.Tryz.func86 Go.Proofs.Tryz.call86 (by kernel_rfl) (by kernel_rfl) (by kernel_rfl) (by kernel_rfl) (by kernel_rfl)
/- (*quarry/state.State).opened -/
def fb87 : AFunc2 := ⟨28, [.tmp g4], .seq (.reg [
oBox w3 30 g1,
oP w4 (pMv (gC (.w (.s (.nilp)))))]) (.seq (.reg [
oP w5 (pMv g0),
oR w6 (rLoad (some 20) g3),
oCall w7 84 [g5, g6]]) (.seq (.seq (.reg [
oP w8 (pMv g0),
oR w9 (rLoad (some 20) g3),
oCall w10 33 [g8, g9],
oP w11 (pNot g10)]) (.cond g11 (.draw [
⟨0, ⟨(some 12), .p (.mv (.t 0)), none⟩, 0, 0⟩,
⟨1, ⟨(some 13), .p (.mv (.t 0)), none⟩, 0, 0⟩,
⟨2, ⟨(some 14), .p (.nilCheck (.t 13)), none⟩, 2, 0⟩,
⟨3, ⟨(some 15), .p (.faddr 0 (.t 14)), none⟩, 6, 0⟩,
⟨4, ⟨(some 16), .r (.load none (.t 15)), none⟩, 14, 0⟩,
⟨5, ⟨(some 17), .r (.load (some 20) (.t 3)), none⟩, 0, 0⟩,
⟨6, ⟨(some 18), .m (.mkmap), none⟩, 0, 0⟩,
⟨7, ⟨(some 19), .p (.build [zu64, zu64, zu64, zu64, zu64, .nils, .nilm] [(6, 1, (.t 18))]), none⟩, 64, 0⟩,
⟨8, ⟨(some 20), .m (.box 97 (.t 19)), none⟩, 192, 1⟩,
⟨9, ⟨(some 21), .b (.call 92 [(.t 12), (.t 16), (.t 17), (.t 20)]), none⟩, 511, 0⟩]) (.skip))) (.seq (.draw [
⟨0, ⟨(some 22), .p (.mv (.t 0)), none⟩, 0, 0⟩,
⟨1, ⟨(some 23), .p (.nilCheck (.t 22)), none⟩, 1, 0⟩,
⟨2, ⟨(some 24), .p (.faddr 0 (.t 23)), none⟩, 3, 0⟩,
⟨3, ⟨(some 25), .r (.load none (.t 24)), none⟩, 7, 0⟩,
⟨4, ⟨(some 26), .r (.load (some 20) (.t 3)), none⟩, 0, 0⟩,
⟨5, ⟨(some 27), .r (.lookup (.one (.arr 20 5 .u8)) (.s (.nilp)) (.t 25) (.t 26) false), none⟩, 31, 0⟩,
⟨6, ⟨(some 4), .p (.mv (.t 27)), none⟩, 63, 0⟩]) (.ret))))⟩
theorem fp87 : ∃ fn, fb87 = denF fn ∧ ∃ func code hint, FnOk Go.Proofs.Tryz.prog TT 87 fn func code hint := f2_mk (func := Go.Proofs.Tryz.f87) (code := bodyOf Go.Proofs.Tryz.f87) (hint := hintL [(3, [(0, 0), (1, 0), (2, 0), (3, 0), (4, 0), (5, 0), (6, 0), (7, 0), (8, 1), (9, 0)]), (4, [(0, 0), (1, 0), (2, 0), (3, 0), (4, 0), (5, 0), (6, 0)])]) (n := 28) (res := [.tmp 4]) Go.Proofs.Tryz.func87 Go.Proofs.Tryz.call87 (by kernel_rfl) (by kernel_rfl) (by kernel_rfl) (by kernel_rfl) (by kernel_rfl)
/- (*quarry/state.State).undoable -/
def fb88 : AFunc2 := ⟨16, [], .reg [
oP w4 (pMv g0),
oP w5 (pMv g0),
oP w6 (pGen fun _ t => opNil t (.t 5)),
oP w7 (pFaddr 1 g6),
oP w8 (pFaddr 9 g7),
oR w9 (rLoad none g8),
oP w10 (pMv g1),
oM w11 (.bslice 1 1 [.nilfn] [(0, 1, (.t 10))]),
oK w12 (b2 (bAppend 1 1 8) g9 g11),
oP w13 (pGen fun _ t => opNil t (.t 4)),
oP w14 (pFaddr 1 g13),
oP w15 (pFaddr 9 g14),
oK wZ (bSt 1 g15 g12)]⟩
theorem fp88 : ∃ fn, fb88 = denF fn ∧ ∃ func code hint, FnOk Go.Proofs.Tryz.prog TT 88 fn func code hint := f2_mk (func := Go.Proofs.Tryz.f88) (code := bodyOf Go.Proofs.Tryz.f88) (hint := hintL []) (n := 16) (res := []) Go.Proofs.Tryz.func88 Go.Proofs.Tryz.call88 (by kernel_rfl) (by kernel_rfl) (by kernel_rfl) (by kernel_rfl) (by kernel_rfl)
/- quarry/state.put[quarry/api.Address,struct{}] -/
def fb90 : AFunc2 := ⟨22, [], .seq (.reg [
oBox w5 101 g1,
oBox w6 30 g2,
oBox w7 146 g3]) (.seq (.reg [
oR w11 (rLoad none g5),
oR w12 (rLoad (some 20) g6),
oR w13 (rGen fun t s => match s with | .mk _ _ φ => opLook φ t s (.one (.arr 20 5 .u8)) (.agg []) (.t 11) (.t 12) true),
oP w10 (pMv g13),
oP w14 (pExt g10 0),
oP w15 (pExt g10 1),
oAlloc w8 146 [],
oAlloc w9 4 [.bool false],
oK wZ (bSt 0 g8 g14),
oK wZ (bSt 1 g9 g15)]) (.seq (.reg [
oR w16 (rLoad none g5),
oR w17 (rLoad (some 20) g6),
oR w18 (rLoad (some 0) g7),
oK wZ (b3 (bMupd (.one (.arr 20 5 .u8))) g16 g17 g18)]) (.reg [
oP w19 (pMv g0),
oP w20 (pGen fun _ t => opMkfn t 105 [(.t 9), (.t 8), (.t 5), (.t 6)]),
oCall w21 88 [g19, g20]])))⟩
theorem fp90 : ∃ fn, fb90 = denF fn ∧ ∃ func code hint, FnOk Go.Proofs.Tryz.prog TT 90 fn func code hint := f2_mk (func := Go.Proofs.Tryz.f90) (code := bodyOf Go.Proofs.Tryz.f90) (hint := hintL []) (n := 22) (res := []) Go.Proofs.Tryz.func90 Go.Proofs.Tryz.call90 (by kernel_rfl) (by kernel_rfl) (by kernel_rfl) (by kernel_rfl) (by kernel_rfl)
/- (*quarry/state.State).first -/
def fb91 : AFunc2 := ⟨27, [], .seq (.reg [
oBox w4 180 g1,
oBox w5 24 g2]) (.seq (.draw [
⟨0, ⟨(some 9), .p (.mv (.t 0)), none⟩, 0, 0⟩,
⟨1, ⟨(some 10), .p (.nilCheck (.t 9)), none⟩, 1, 0⟩,
⟨2, ⟨(some 11), .p (.faddr 1 (.t 10)), none⟩, 3, 0⟩,
⟨3, ⟨(some 12), .p (.faddr 6 (.t 11)), none⟩, 7, 0⟩,
⟨4, ⟨(some 13), .r (.load none (.t 12)), none⟩, 15, 0⟩,
⟨5, ⟨(some 14), .r (.load (some 24) (.t 4)), none⟩, 0, 0⟩,
⟨6, ⟨(some 15), .r (.lookup (.str [(0, 30, .arr 20 5 .u8), (20, 24, .arr 4 22 .u64)]) (.agg [zu64, zu64, zu64, zu64]) (.t 13) (.t 14) true), none⟩, 63, 0⟩,
⟨7, ⟨(some 8), .p (.mv (.t 15)), none⟩, 127, 0⟩,
⟨8, ⟨(some 16), .p (.ext (.t 8) 0), none⟩, 255, 0⟩,
⟨9, ⟨(some 17), .p (.ext (.t 8) 1), none⟩, 255, 0⟩,
⟨10, ⟨(some 6), .m (.alloc 24 [zu64, zu64, zu64, zu64]), none⟩, 0, 0⟩,
⟨11, ⟨none, .b (.store 4 (.t 6) (.t 16)), none⟩, 1535, 0⟩,
⟨12, ⟨(some 7), .p (.mv (.t 17)), none⟩, 4095, 0⟩]) (.seq (.reg [
oP w18 (pMv g7),
oP w19 (pNot g18)]) (.cond g19 (.draw [
⟨0, ⟨(some 20), .p (.mv (.t 0)), none⟩, 0, 0⟩,
⟨1, ⟨(some 21), .p (.nilCheck (.t 20)), none⟩, 1, 0⟩,
⟨2, ⟨(some 22), .p (.faddr 1 (.t 21)), none⟩, 3, 0⟩,
⟨3, ⟨(some 23), .p (.faddr 6 (.t 22)), none⟩, 7, 0⟩,
⟨4, ⟨(some 24), .r (.load none (.t 23)), none⟩, 15, 0⟩,
⟨5, ⟨(some 25), .r (.load (some 24) (.t 4)), none⟩, 0, 0⟩,
⟨6, ⟨(some 26), .r (.load (some 4) (.t 5)), none⟩, 0, 0⟩,
⟨7, ⟨none, .b (.mupd (.str [(0, 30, .arr 20 5 .u8), (20, 24, .arr 4 22 .u64)]) (.t 24) (.t 25) (.t 26)), none⟩, 127, 0⟩]) (.skip))))⟩
theorem fp91 : ∃ fn, fb91 = denF fn ∧ ∃ func code hint, FnOk Go.Proofs.Tryz.prog TT 91 fn func code hint := f2_mk (func := Go.Proofs.Tryz.f91) (code := bodyOf Go.Proofs.Tryz.f91) (hint := hintL [(1, [(0, 0), (1, 0), (2, 0), (3, 0), (4, 0), (5, 0), (6, 0), (7, 0), (8, 0), (9, 0), (10, 0), (11, 0), (12, 0)]), (3, [(0, 0), (1, 0), (2, 0), (3, 0), (4, 0), (5, 0), (6, 0), (7, 0)])]) (n := 27) (res := []) Go.Proofs.Tryz.func91 Go.Proofs.Tryz.call91 (by kernel_rfl) (by kernel_rfl) (by kernel_rfl) (by kernel_rfl) (by kernel_rfl)
/- quarry/state.put[quarry/api.Address,*quarry/state.account] -/
def fb92 : AFunc2 := ⟨22, [], .seq (.reg [
oBox w5 100 g1,
oBox w6 30 g2]) (.seq (.reg [
oR w11 (rLoad none g5),
oR w12 (rLoad (some 20) g6),
oR w13 (rGen fun t s => match s with | .mk _ _ φ => opLook φ t s (.one (.arr 20 5 .u8)) (.s (.nilp)) (.t 11) (.t 12) true),
oP w10 (pMv g13),
oP w14 (pExt g10 0),
oP w15 (pExt g10 1),
oAlloc w8 98 [.nilp],
oAlloc w9 4 [.bool false],
oK wZ (bSt 1 g8 g14),
oK wZ (bSt 1 g9 g15)]) (.seq (.reg [
oR w16 (rLoad none g5),
oR w17 (rLoad (some 20) g6),
oP w18 (pMv g3),
oK wZ (b3 (bMupd (.one (.arr 20 5 .u8))) g16 g17 g18)]) (.reg [
oP w19 (pMv g0),
oP w20 (pGen fun _ t => opMkfn t 106 [(.t 9), (.t 8), (.t 5), (.t 6)]),
oCall w21 88 [g19, g20]])))⟩
theorem fp92 : ∃ fn, fb92 = denF fn ∧ ∃ func code hint, FnOk Go.Proofs.Tryz.prog TT 92 fn func code hint := f2_mk (func := Go.Proofs.Tryz.f92) (code := bodyOf Go.Proofs.Tryz.f92) (hint := hintL []) (n := 22) (res := []) Go.Proofs.Tryz.func92 Go.Proofs.Tryz.call92 (by kernel_rfl) (by kernel_rfl) (by kernel_rfl) (by kernel_rfl) (by kernel_rfl)
/- (*quarry/state.State).SetBalance -/
def fb93 : AFunc2 := ⟨22, [], .seq (.reg [
oBox w4 30 g1,
oBox w5 24 g2]) (.seq (.reg [
oP w8 (pMv g0),
oR w9 (rLoad (some 20) g4),
oCall w10 87 [g8, g9],
oAlloc w6 98 [.nilp],
oK wZ (bSt 1 g6 g10)]) (.seq (.reg [
oR w11 (rLoad none g6),
oP w12 (pGen fun _ t => opNil t (.t 11)),
oP w13 (pFaddr 1 g12),
oR w14 (rLoad (some 4) g13),
oAlloc w7 24 [zu64, zu64, zu64, zu64],
oK wZ (bSt 4 g7 g14)]) (.seq (.reg [
oR w15 (rLoad none g6),
oR w16 (rLoad (some 4) g5),
oP w17 (pGen fun _ t => opNil t (.t 15)),
oP w18 (pFaddr 1 g17),
oK wZ (bSt 4 g18 g16)]) (.reg [
oP w19 (pMv g0),
oP w20 (pGen fun _ t => opMkfn t 107 [(.t 7), (.t 6)]),
oCall w21 88 [g19, g20]]))))⟩
theorem fp93 : ∃ fn, fb93 = denF fn ∧ ∃ func code hint, FnOk Go.Proofs.Tryz.prog TT 93 fn func code hint := f2_mk (func := Go.Proofs.Tryz.f93) (code := bodyOf Go.Proofs.Tryz.f93) (hint := hintL []) (n := 22) (res := []) Go.Proofs.Tryz.func93 Go.Proofs.Tryz.call93 (by kernel_rfl) (by kernel_rfl) (by kernel_rfl) (by kernel_rfl) (by kernel_rfl)
/- quarry/word.Sub -/
def fb94 : AFunc2 := ⟨25, [.cell (rLoad (some 4) g4)], .seq (.reg [
oBox w2 24 g0,
oBox w3 24 g1,
oAlloc w4 24 [zu64, zu64, zu64, zu64]]) (.seq (.reg [
oP w5 (pMv (gC (.w (.s (zu64)))))]) (.seq (.seq (.reg [
oP w7 (pMv (gC (.w (.s (zi64)))))]) (.block 0 (.loop (.seq (.reg [
oK w8 (bCmp 2 lLt cGe true g7 (gC (.w (.s (ni64 4)))))]) (.seq (.cond g8 (.skip) (.exit 0)) (.seq (.block 1 (.seq (.reg [
oP w9 (pMv g7),
oP w6 (pMv g9)]) (.draw [
⟨0, ⟨(some 11), .p (.mv (.t 6)), none⟩, 0, 0⟩,
⟨1, ⟨(some 12), .p (.mv (.t 6)), none⟩, 0, 0⟩,
⟨2, ⟨(some 13), .p (.iaddrA 4 1 (.t 2) (.t 12)), none⟩, 2, 0⟩,
⟨3, ⟨(some 14), .r (.load none (.t 13)), none⟩, 6, 0⟩,
⟨4, ⟨(some 15), .p (.mv (.t 6)), none⟩, 0, 0⟩,
⟨5, ⟨(some 16), .p (.iaddrA 4 1 (.t 3) (.t 15)), none⟩, 16, 0⟩,
⟨6, ⟨(some 17), .r (.load none (.t 16)), none⟩, 48, 0⟩,
⟨7, ⟨(some 18), .p (.mv (.t 5)), none⟩, 0, 0⟩,
⟨8, ⟨(some 19), .b (.call 108 [(.t 14), (.t 17), (.t 18)]), none⟩, 254, 0⟩,
⟨9, ⟨(some 10), .p (.mv (.t 19)), none⟩, 510, 0⟩,
⟨10, ⟨(some 20), .p (.ext (.t 10) 0), none⟩, 1022, 0⟩,
⟨11, ⟨(some 21), .p (.ext (.t 10) 1), none⟩, 1022, 0⟩,
⟨12, ⟨(some 22), .p (.iaddrA 4 1 (.t 2) (.t 11)), none⟩, 2047, 0⟩,
⟨13, ⟨none, .b (.store 1 (.t 22) (.t 20)), none⟩, 6143, 0⟩,
⟨14, ⟨(some 5), .p (.mv (.t 21)), none⟩, 16383, 0⟩]))) (.reg [
oP w23 (pAr 0 g7 (gC (.w (.s (ni64 1))))),
oP w7 (pMv g23)]))))))) (.seq (.reg [
oR w24 (rLoad (some 4) g2),
oK wZ (bSt 4 g4 g24)]) (.ret))))⟩
theorem fp94 : ∃ fn, fb94 = denF fn ∧ ∃ func code hint, FnOk Go.Proofs.Tryz.prog TT 94 fn func code hint := f2_mk (func := Go.Proofs.Tryz.f94) (code := bodyOf Go.Proofs.Tryz.f94) (hint := hintL [(5, [(0, 0), (1, 0), (2, 0), (3, 0), (4, 0), (5, 0), (6, 0), (7, 0), (8, 0), (9, 0), (10, 0), (11, 0), (12, 0), (13, 0), (14, 0)])]) (n := 25) (res := [.cell 4 (some 4)]) Go.Proofs.Tryz.func94 Go.Proofs.Tryz.call94 (by kernel_rfl) (by kernel_rfl) (by kernel_rfl) (by kernel_rfl) (by kernel_rfl)
/- quarry/word.Add -/
def fb95 : AFunc2 := ⟨14, [.cell (rLoad (some 4) g4)], .seq (.reg [
oBox w2 24 g0,
oBox w3 24 g1,
oAlloc w4 24 [zu64, zu64, zu64, zu64]]) (.seq (.reg [
oR w8 (rLoad (some 4) g2),
oR w9 (rLoad (some 4) g3),
oCall w10 109 [g8, g9],
oP w7 (pMv g10),
oP w11 (pExt g7 0),
oP w12 (pExt g7 1),
oAlloc w5 24 [zu64, zu64, zu64, zu64],
oK wZ (bSt 4 g5 g11),
oP w6 (pMv g12)]) (.seq (.reg [
oR w13 (rLoad (some 4) g5),
oK wZ (bSt 4 g4 g13)]) (.ret)))⟩
theorem fp95 : ∃ fn, fb95 = denF fn ∧ ∃ func code hint, FnOk Go.Proofs.Tryz.prog TT 95 fn func code hint := f2_mk (func := Go.Proofs.Tryz.f95) (code := bodyOf Go.Proofs.Tryz.f95) (hint := hintL []) (n := 14) (res := [.cell 4 (some 4)]) Go.Proofs.Tryz.func95 Go.Proofs.Tryz.call95 (by kernel_rfl) (by kernel_rfl) (by kernel_rfl) (by kernel_rfl) (by kernel_rfl)
/- (*quarry/state.State).SetCode -/
def fb96 : AFunc2 := ⟨23, [], .seq (.reg [
oBox w4 30 g1]) (.seq (.reg [
oP w8 (pMv g0),
oR w9 (rLoad (some 20) g4),
oCall w10 87 [g8, g9],
oAlloc w6 98 [.nilp],
oK wZ (bSt 1 g6 g10)]) (.seq (.reg [
oR w11 (rLoad none g6),
oP w12 (pGen fun _ t => opNil t (.t 11)),
oP w13 (pFaddr 5 g12),
oR w14 (rLoad none g13),
oAlloc w7 25 [.nils],
oK wZ (bSt 1 g7 g14)]) (.seq (.draw [
⟨0, ⟨(some 15), .r (.load none (.t 6)), none⟩, 0, 0⟩,
⟨1, ⟨(some 16), .p (.mv (.t 2)), none⟩, 0, 0⟩,
⟨2, ⟨(some 17), .b (.call 43 [(.t 16)]), none⟩, 2, 0⟩,
⟨3, ⟨(some 18), .p (.nilCheck (.t 15)), none⟩, 7, 0⟩,
⟨4, ⟨(some 19), .p (.faddr 5 (.t 18)), none⟩, 15, 0⟩,
⟨5, ⟨none, .b (.store 1 (.t 19) (.t 17)), none⟩, 31, 0⟩]) (.reg [
oP w20 (pMv g0),
oP w21 (pGen fun _ t => opMkfn t 110 [(.t 7), (.t 6)]),
oCall w22 88 [g20, g21]]))))⟩
theorem fp96 : ∃ fn, fb96 = denF fn ∧ ∃ func code hint, FnOk Go.Proofs.Tryz.prog TT 96 fn func code hint := f2_mk (func := Go.Proofs.Tryz.f96) (code := bodyOf Go.Proofs.Tryz.f96) (hint := hintL [(3, [(0, 0), (1, 0), (2, 0), (3, 0), (4, 0), (5, 0)])]) (n := 23) (res := []) Go.Proofs.Tryz.func96 Go.Proofs.Tryz.call96 (by kernel_rfl) (by kernel_rfl) (by kernel_rfl) (by kernel_rfl) (by kernel_rfl)
/- (*quarry/vm.frame).step -/
def fb98 : AFunc2 := ⟨187, [], .seq (.reg [
oP w7 (pMv g0),
oP w8 (pGen fun _ t => opNil t (.t 7)),
oP w9 (pFaddr 0 g8),
oR w10 (rLoad none g9),
oP w11 (pGen fun _ t => opNil t (.t 10)),
oP w12 (pFaddr 90 g11),
oR w13 (rLoad none g12),
oP w14 (pAr 0 g13 (gC (.w (.s (nu64 1))))),
oP w15 (pGen fun _ t => opNil t (.t 10)),
oP w16 (pFaddr 90 g15),
oK wZ (bSt 1 g16 g14)]) (.seq (.reg [
oP w17 (pMv g0),
oP w18 (pGen fun _ t => opNil t (.t 17)),
oP w19 (pFaddr 0 g18),
oR w20 (rLoad none g19),
oP w21 (pMv g1),
oP w22 (pGen fun _ t => opNil t (.t 20)),
oP w23 (pFaddr 91 g22),
oP w24 (pIaddrA 256 4 g23 g21),
oR w25 (rLoad (some 4) g24),
oAlloc w4 123 [.bool false, zi64, zi64, zu64],
oK wZ (bSt 4 g4 g25)]) (.seq (.draw [
⟨0, ⟨(some 26), .p (.faddr 0 (.t 4)), none⟩, 0, 0⟩,
⟨1, ⟨(some 27), .r (.load none (.t 26)), none⟩, 1, 0⟩,
⟨2, ⟨(some 28), .p (.mv (.t 27)), none⟩, 3, 0⟩,
⟨3, ⟨(some 29), .p (.mv (.t 0)), some (28, true)⟩, 7, 0⟩,
⟨4, ⟨(some 30), .p (.nilCheck (.t 29)), some (28, true)⟩, 15, 0⟩,
⟨5, ⟨(some 31), .p (.faddr 70 (.t 30)), some (28, true)⟩, 31, 0⟩,
⟨6, ⟨(some 32), .r (.load none (.t 31)), some (28, true)⟩, 63, 0⟩,
⟨7, ⟨(some 33), .p (.len (.t 32)), some (28, true)⟩, 127, 0⟩,
⟨8, ⟨(some 34), .p (.faddr 1 (.t 4)), some (28, true)⟩, 7, 0⟩,
⟨9, ⟨(some 35), .r (.load none (.t 34)), some (28, true)⟩, 263, 0⟩,
⟨10, ⟨(some 36), .b (.cmp 5 .int (.t 33) (.t 35)), some (28, true)⟩, 1023, 0⟩,
⟨11, ⟨(some 37), .p (.pick (.t 28) (.t 36) (.c (.w (.s (.bool false))))), none⟩, 2047, 0⟩,
⟨12, ⟨(some 38), .p (.mv (.t 37)), none⟩, 4095, 0⟩,
⟨13, ⟨(some 39), .p (.mv (.t 0)), some (38, true)⟩, 8191, 0⟩,
⟨14, ⟨(some 40), .p (.nilCheck (.t 39)), some (38, true)⟩, 16383, 0⟩,
⟨15, ⟨(some 41), .p (.faddr 70 (.t 40)), some (38, true)⟩, 32767, 0⟩,
⟨16, ⟨(some 42), .r (.load none (.t 41)), some (38, true)⟩, 65535, 0⟩,
⟨17, ⟨(some 43), .p (.len (.t 42)), some (38, true)⟩, 131071, 0⟩,
⟨18, ⟨(some 44), .p (.faddr 1 (.t 4)), some (38, true)⟩, 8191, 0⟩,
⟨19, ⟨(some 45), .r (.load none (.t 44)), some (38, true)⟩, 270335, 0⟩,
⟨20, ⟨(some 46), .p (.ar 1 (.t 43) (.t 45)), some (38, true)⟩, 1048575, 0⟩,
⟨21, ⟨(some 47), .p (.faddr 2 (.t 4)), some (38, true)⟩, 8191, 0⟩,
⟨22, ⟨(some 48), .r (.load none (.t 47)), some (38, true)⟩, 2105343, 0⟩,
⟨23, ⟨(some 49), .p (.ar 0 (.t 46) (.t 48)), some (38, true)⟩, 8388607, 0⟩,
⟨24, ⟨(some 50), .b (.cmp 3 .int (.t 49) (.c (.w (.s (ni64 1024))))), some (38, true)⟩, 16777215, 0⟩,
⟨25, ⟨(some 51), .p (.pick (.t 38) (.t 50) (.c (.w (.s (.bool false))))), none⟩, 33554431, 0⟩,
⟨26, ⟨(some 52), .b (.call 111 [(.t 51)]), none⟩, 67108863, 0⟩]) (.seq (.reg [
oP w53 (pMv g0),
oP w54 (pGen fun _ t => opNil t (.t 53)),
oP w55 (pFaddr 1 g54),
oP w56 (pFaddr 66 g55),
oR w57 (rLoad none g56),
oP w58 (pNot g57),
oP w59 (pMv g58),
oGd g59 false w60 (oP w60 (pMv g0)),
oGd g59 false w61 (oP w61 (pMv g1)),
oGd g59 false w62 (oCall w62 112 [g60, g61]),
oGd g59 false w63 (oP w63 (pNot g62)),
oP w64 (pGen fun _ t => opPick t (.t 59) (.c (.w (.s (.bool true)))) (.t 63)),
oCall w65 111 [g64]]) (.seq (.reg [
oP w66 (pMv g0),
oP w67 (pFaddr 3 g4),
oR w68 (rLoad none g67),
oCall w69 113 [g66, g68]]) (.seq (.reg [
oP w70 (pMv g0),
oP w71 (pGen fun _ t => opNil t (.t 70)),
oP w72 (pFaddr 73 g71),
oR w73 (rLoad none g72),
oP w74 (pAr 0 g73 (gC (.w (.s (ni64 1))))),
oP w75 (pGen fun _ t => opNil t (.t 70)),
oP w76 (pFaddr 73 g75),
oK wZ (bSt 1 g76 g74)]) (.block 0 (.seq (.reg [
oP w81 (pMv g1),
oK w82 (bCmp 3 intLe .le false g81 (gC (.w (.s (ni64 29))))),
oP w80 (pMv g82)]) (.cond g80 (.reg [
oP w83 (pMv g0),
oP w84 (pMv g1),
oCall w85 114 [g83, g84]]) (.seq (.reg [
oP w87 (pMv g1),
oK w88 (bCmp 0 intEq .eq false g87 (gC (.w (.s (ni64 32))))),
oP w86 (pMv g88)]) (.cond g86 (.reg [
oP w89 (pMv g0),
oCall w90 115 [g89]]) (.seq (.reg [
oP w92 (pMv g1),
oK w93 (bCmp 3 intLe .le false g92 (gC (.w (.s (ni64 63))))),
oP w91 (pMv g93)]) (.cond g91 (.reg [
oP w94 (pMv g0),
oP w95 (pMv g1),
oCall w96 116 [g94, g95]]) (.seq (.reg [
oP w98 (pMv g1),
oK w99 (bCmp 3 intLe .le false g98 (gC (.w (.s (ni64 74))))),
oP w97 (pMv g99)]) (.cond g97 (.reg [
oP w100 (pMv g0),
oP w101 (pMv g1),
oCall w102 117 [g100, g101]]) (.seq (.reg [
oP w104 (pMv g1),
oK w105 (bCmp 3 intLe .le false g104 (gC (.w (.s (ni64 94))))),
oP w103 (pMv g105)]) (.cond g103 (.reg [
oP w106 (pMv g0),
oP w107 (pMv g1),
oCall w108 118 [g106, g107]]) (.seq (.reg [
oP w110 (pMv g1),
oK w111 (bCmp 3 intLe .le false g110 (gC (.w (.s (ni64 127))))),
oP w109 (pMv g111)]) (.cond g109 (.reg [
oP w112 (pMv g0),
oP w113 (pMv g1),
oP w114 (pAr 1 g113 (gC (.w (.s (ni64 95))))),
oCall w115 119 [g112, g114]]) (.seq (.reg [
oP w117 (pMv g1),
oK w118 (bCmp 3 intLe .le false g117 (gC (.w (.s (ni64 143))))),
oP w116 (pMv g118)]) (.cond g116 (.draw [
⟨0, ⟨(some 119), .p (.mv (.t 0)), none⟩, 0, 0⟩,
⟨1, ⟨(some 120), .p (.mv (.t 0)), none⟩, 0, 0⟩,
⟨2, ⟨(some 121), .p (.nilCheck (.t 120)), none⟩, 2, 0⟩,
⟨3, ⟨(some 122), .p (.faddr 70 (.t 121)), none⟩, 6, 0⟩,
⟨4, ⟨(some 123), .r (.load none (.t 122)), none⟩, 14, 0⟩,
⟨5, ⟨(some 124), .p (.mv (.t 0)), none⟩, 0, 0⟩,
⟨6, ⟨(some 125), .p (.nilCheck (.t 124)), none⟩, 32, 0⟩,
⟨7, ⟨(some 126), .p (.faddr 70 (.t 125)), none⟩, 96, 0⟩,
⟨8, ⟨(some 127), .r (.load none (.t 126)), none⟩, 224, 0⟩,
⟨9, ⟨(some 128), .p (.len (.t 127)), none⟩, 480, 0⟩,
⟨10, ⟨(some 129), .p (.ar 1 (.t 128) (.c (.w (.s (ni64 1))))), none⟩, 992, 0⟩,
⟨11, ⟨(some 130), .p (.mv (.t 1)), none⟩, 0, 0⟩,
⟨12, ⟨(some 131), .p (.ar 1 (.t 130) (.c (.w (.s (ni64 128))))), none⟩, 2048, 0⟩,
⟨13, ⟨(some 132), .p (.ar 1 (.t 129) (.t 131)), none⟩, 8160, 0⟩,
⟨14, ⟨(some 133), .p (.iaddrS 4 (.t 123) (.t 132)), none⟩, 16382, 0⟩,
⟨15, ⟨(some 134), .r (.load (some 4) (.t 133)), none⟩, 32766, 0⟩,
⟨16, ⟨(some 135), .b (.call 120 [(.t 119), (.t 134)]), none⟩, 65535, 0⟩]) (.seq (.reg [
oP w137 (pMv g1),
oK w138 (bCmp 3 intLe .le false g137 (gC (.w (.s (ni64 159))))),
oP w136 (pMv g138)]) (.cond g136 (.seq (.draw [
⟨0, ⟨(some 139), .p (.mv (.t 0)), none⟩, 0, 0⟩,
⟨1, ⟨(some 140), .p (.nilCheck (.t 139)), none⟩, 1, 0⟩,
⟨2, ⟨(some 141), .p (.faddr 70 (.t 140)), none⟩, 3, 0⟩,
⟨3, ⟨(some 142), .r (.load none (.t 141)), none⟩, 7, 0⟩,
⟨4, ⟨(some 143), .p (.len (.t 142)), none⟩, 15, 0⟩,
⟨5, ⟨(some 144), .p (.ar 1 (.t 143) (.c (.w (.s (ni64 1))))), none⟩, 31, 0⟩,
⟨6, ⟨(some 145), .p (.mv (.t 0)), none⟩, 0, 0⟩,
⟨7, ⟨(some 146), .p (.nilCheck (.t 145)), none⟩, 64, 0⟩,
⟨8, ⟨(some 147), .p (.faddr 70 (.t 146)), none⟩, 192, 0⟩,
⟨9, ⟨(some 148), .r (.load none (.t 147)), none⟩, 448, 0⟩,
⟨10, ⟨(some 149), .p (.len (.t 148)), none⟩, 960, 0⟩,
⟨11, ⟨(some 150), .p (.ar 1 (.t 149) (.c (.w (.s (ni64 2))))), none⟩, 1984, 0⟩,
⟨12, ⟨(some 151), .p (.mv (.t 1)), none⟩, 0, 0⟩,
⟨13, ⟨(some 152), .p (.ar 1 (.t 151) (.c (.w (.s (ni64 144))))), none⟩, 4096, 0⟩,
⟨14, ⟨(some 153), .p (.ar 1 (.t 150) (.t 152)), none⟩, 16320, 0⟩,
⟨15, ⟨(some 5), .p (.mv (.t 144)), none⟩, 63, 0⟩,
⟨16, ⟨(some 6), .p (.mv (.t 153)), none⟩, 65535, 0⟩]) (.draw [
⟨0, ⟨(some 154), .p (.mv (.t 0)), none⟩, 0, 0⟩,
⟨1, ⟨(some 155), .p (.nilCheck (.t 154)), none⟩, 1, 0⟩,
⟨2, ⟨(some 156), .p (.faddr 70 (.t 155)), none⟩, 3, 0⟩,
⟨3, ⟨(some 157), .r (.load none (.t 156)), none⟩, 7, 0⟩,
⟨4, ⟨(some 158), .p (.mv (.t 5)), none⟩, 0, 0⟩,
⟨5, ⟨(some 159), .p (.mv (.t 0)), none⟩, 0, 0⟩,
⟨6, ⟨(some 160), .p (.nilCheck (.t 159)), none⟩, 32, 0⟩,
⟨7, ⟨(some 161), .p (.faddr 70 (.t 160)), none⟩, 96, 0⟩,
⟨8, ⟨(some 162), .r (.load none (.t 161)), none⟩, 224, 0⟩,
⟨9, ⟨(some 163), .p (.mv (.t 6)), none⟩, 0, 0⟩,
⟨10, ⟨(some 164), .p (.mv (.t 0)), none⟩, 0, 0⟩,
⟨11, ⟨(some 165), .p (.nilCheck (.t 164)), none⟩, 1024, 0⟩,
⟨12, ⟨(some 166), .p (.faddr 70 (.t 165)), none⟩, 3072, 0⟩,
⟨13, ⟨(some 167), .r (.load none (.t 166)), none⟩, 7168, 0⟩,
⟨14, ⟨(some 168), .p (.mv (.t 6)), none⟩, 0, 0⟩,
⟨15, ⟨(some 169), .p (.iaddrS 4 (.t 167) (.t 168)), none⟩, 31744, 0⟩,
⟨16, ⟨(some 170), .r (.load (some 4) (.t 169)), none⟩, 64512, 0⟩,
⟨17, ⟨(some 171), .p (.mv (.t 0)), none⟩, 0, 0⟩,
⟨18, ⟨(some 172), .p (.nilCheck (.t 171)), none⟩, 131072, 0⟩,
⟨19, ⟨(some 173), .p (.faddr 70 (.t 172)), none⟩, 393216, 0⟩,
⟨20, ⟨(some 174), .r (.load none (.t 173)), none⟩, 917504, 0⟩,
⟨21, ⟨(some 175), .p (.mv (.t 5)), none⟩, 0, 0⟩,
⟨22, ⟨(some 176), .p (.iaddrS 4 (.t 174) (.t 175)), none⟩, 4063232, 0⟩,
⟨23, ⟨(some 177), .r (.load (some 4) (.t 176)), none⟩, 8257536, 0⟩,
⟨24, ⟨(some 178), .p (.iaddrS 4 (.t 157) (.t 158)), none⟩, 16776703, 0⟩,
⟨25, ⟨none, .b (.store 4 (.t 178) (.t 170)), none⟩, 33553919, 0⟩,
⟨26, ⟨(some 179), .p (.iaddrS 4 (.t 162) (.t 163)), none⟩, 67108863, 0⟩,
⟨27, ⟨none, .b (.store 4 (.t 179) (.t 177)), none⟩, 134217727, 0⟩])) (.seq (.reg [
oP w181 (pMv g1),
oK w182 (bCmp 3 intLe .le false g181 (gC (.w (.s (ni64 164))))),
oP w180 (pMv g182)]) (.cond g180 (.reg [
oP w183 (pMv g0),
oP w184 (pMv g1),
oP w185 (pAr 1 g184 (gC (.w (.s (ni64 160))))),
oCall w186 121 [g183, g185]]) (.reg [
oP w77 (pMv g0),
oP w78 (pMv g1),
oCall w79 122 [g77, g78]])))))))))))))))))))))))))⟩
theorem fp98 : ∃ fn, fb98 = denF fn ∧ ∃ func code hint, FnOk Go.Proofs.Tryz.prog TT 98 fn func code hint := f2_mk (func := Go.Proofs.Tryz.f98) (code := bodyOf Go.Proofs.Tryz.f98) (hint := hintL [(2, [(0, 0), (1, 0), (2, 0), (3, 0), (4, 0), (5, 0), (6, 0), (7, 0), (8, 0), (9, 0), (10, 0), (11, 0), (12, 0), (13, 0), (14, 0), (15, 0), (16, 0), (17, 0), (18, 0), (19, 0), (20, 0), (21, 0), (22, 0), (23, 0), (24, 0), (25, 0), (26, 0)]), (20, [(0, 0), (1, 0), (2, 0), (3, 0), (4, 0), (5, 0), (6, 0), (7, 0), (8, 0), (9, 0), (10, 0), (11, 0), (12, 0), (13, 0), (14, 0), (15, 0), (16, 0)]), (22, [(0, 0), (1, 0), (2, 0), (3, 0), (4, 0), (5, 0), (6, 0), (7, 0), (8, 0), (9, 0), (10, 0), (11, 0), (12, 0), (13, 0), (14, 0), (15, 0), (16, 0)]), (23, [(0, 0), (1, 0), (2, 0), (3, 0), (4, 0), (5, 0), (6, 0), (7, 0), (8, 0), (9, 0), (10, 0), (11, 0), (12, 0), (13, 0), (14, 0), (15, 0), (16, 0), (17, 0), (18, 0), (19, 0), (20, 0), (21, 0), (22, 0), (23, 0), (24, 0), (25, 0), (26, 0), (27, 0)])]) (n := 187) (res := []) Go.Proofs.Tryz.func98 Go.Proofs.Tryz.call98 (by kernel_rfl) (by kernel_rfl) (by kernel_rfl) (by kernel_rfl) (by kernel_rfl)
/- slices.IndexFunc[[]quarry/state.mark,quarry/state.mark] -/
def fb99 : AFunc2 := ⟨19, [.tmp g4], .seq (.reg [
oP w4 (pMv (gC (.w (.s (zi64)))))]) (.seq (.seq (.reg [
oP w6 (pMv g0),
oP w7 (pGen fun _ t => opLen t (.t 6)),
oP w8 (pMv (gC (.w (.s (zi64)))))]) (.block 0 (.loop (.seq (.reg [
oK w9 (bCmp 2 lLt cGe true g8 g7)]) (.seq (.cond g9 (.skip) (.exit 0)) (.seq (.block 1 (.seq (.reg [
oP w10 (pMv g8),
oP w5 (pMv g10)]) (.seq (.reg [
oP w11 (pMv g1),
oP w12 (pMv g0),
oP w13 (pMv g5),
oP w14 (pIaddrS 2 g12 g13),
oR w15 (rLoad (some 2) g14),
oCallv w16 g11 [g15]]) (.cond g16 (.seq (.reg [
oP w17 (pMv g5),
oP w4 (pMv g17)]) (.ret)) (.skip))))) (.reg [
oP w18 (pAr 0 g8 (gC (.w (.s (ni64 1))))),
oP w8 (pMv g18)]))))))) (.seq (.reg [
oP w4 (pMv (gC (.w (.s (.int .i64 (.lit (.negSucc 0)))))))]) (.ret)))⟩
theorem fp99 : ∃ fn, fb99 = denF fn ∧ ∃ func code hint, FnOk Go.Proofs.Tryz.prog TT 99 fn func code hint := f2_mk (func := Go.Proofs.Tryz.f99) (code := bodyOf Go.Proofs.Tryz.f99) (hint := hintL []) (n := 19) (res := [.tmp 4]) Go.Proofs.Tryz.func99 Go.Proofs.Tryz.call99 (by kernel_rfl) (by kernel_rfl) (by kernel_rfl) (by kernel_rfl) (by kernel_rfl)
/- (*quarry/state.State).Back$1 -/
def fb100 : AFunc2 := ⟨8, [.tmp g3], .seq (.reg [
oBox w2 177 g0,
oP w3 (pMv (gC (.w (.s (.bool false)))))]) (.seq (.reg [
oP w4 (pFaddr 0 g2),
oR w5 (rLoad none g4),
oR w6 (rLoad none g1),
oK w7 (bCmp 0 intEq .eq false g5 g6),
oP w3 (pMv g7)]) (.ret))⟩
theorem fp100 : ∃ fn, fb100 = denF fn ∧ ∃ func code hint, FnOk Go.Proofs.Tryz.prog TT 100 fn func code hint := f2_mk (func := Go.Proofs.Tryz.f100) (code := bodyOf Go.Proofs.Tryz.f100) (hint := hintL []) (n := 8) (res := [.tmp 3]) Go.Proofs.Tryz.func100 Go.Proofs.Tryz.call100 (by kernel_rfl) (by kernel_rfl) (by kernel_rfl) (by kernel_rfl) (by kernel_rfl)
/- quarry/hash.Keccak -/
def fb101 : AFunc2 := ⟨27, [.cell (rLoad (some 32) g2)], .seq (.reg [
oAlloc w2 50 zz1]) (.seq (.reg [
oCall w4 123 [],
oP w3 (pMv g4)]) (.seq (.block 0 (.loop (.seq (.seq (.reg [
oP w5 (pMv g0),
oP w6 (pGen fun _ t => opLen t (.t 5)),
oK w7 (bCmp 5 gLe cGe false g6 (gC (.w (.s (ni64 136)))))]) (.cond g7 (.skip) (.exit 0))) (.seq (.block 1 (.draw [
⟨0, ⟨(some 10), .p (.mv (.t 3)), none⟩, 0, 0⟩,
⟨1, ⟨(some 11), .p (.nilCheck (.t 10)), none⟩, 1, 0⟩,
⟨2, ⟨(some 12), .p (.faddr 0 (.t 11)), none⟩, 3, 0⟩,
⟨3, ⟨(some 13), .p (.mv (.t 0)), none⟩, 0, 0⟩,
⟨4, ⟨(some 14), .p (.slice 1 (.t 13) none (some (.c (.w (.s (ni64 136)))))), none⟩, 8, 0⟩,
⟨5, ⟨(some 15), .b (.call 124 [(.t 12), (.t 14)]), none⟩, 31, 0⟩])) (.reg [
oP w8 (pMv g0),
oP w9 (pGen fun _ t => opSlice t 1 (.t 8) (some (.c (.w (.s (ni64 136))))) none),
oP w0 (pMv g9)]))))) (.seq (.reg [
oP w16 (pMv g3),
oP w17 (pMv g3),
oP w18 (pGen fun _ t => opNil t (.t 17)),
oP w19 (pFaddr 25 g18),
oR w20 (rLoad none g19),
oP w21 (pMv g0),
oK w22 (b2 (bAppend 5 1 1) g20 g21),
oP w23 (pGen fun _ t => opNil t (.t 16)),
oP w24 (pFaddr 25 g23),
oK wZ (bSt 1 g24 g22)]) (.seq (.reg [
oP w25 (pMv g3),
oCall w26 125 [g25],
oK wZ (bSt 32 g2 g26)]) (.ret)))))⟩
theorem fp101 : ∃ fn, fb101 = denF fn ∧ ∃ func code hint, FnOk Go.Proofs.Tryz.prog TT 101 fn func code hint := f2_mk (func := Go.Proofs.Tryz.f101) (code := bodyOf Go.Proofs.Tryz.f101) (hint := hintL [(4, [(0, 0), (1, 0), (2, 0), (3, 0), (4, 0), (5, 0)])]) (n := 27) (res := [.cell 2 (some 32)]) Go.Proofs.Tryz.func101 Go.Proofs.Tryz.call101 (by kernel_rfl) (by kernel_rfl) (by kernel_rfl) (by kernel_rfl) (by kernel_rfl)
/- quarry/rlp.Encode -/
def fb102 : AFunc2 := ⟨8, [.tmp g2, .tmp g3], .seq (.reg [
oBox w1 166 g0,
oP w2 (pMv (gC (.w (.s (.nils))))),
oP w3 (pMv (gC (.w (.s (zi64)))))]) (.seq (.reg [
oR w4 (rLoad (some 3) g1),
oCall w5 126 [g4, (gC (.w (.s (zi64))))],
oP w6 (pExt g5 0),
oP w7 (pExt g5 1),
oP w2 (pMv g6),
oP w3 (pMv g7)]) (.ret))⟩
theorem fp102 : ∃ fn, fb102 = denF fn ∧ ∃ func code hint, FnOk Go.Proofs.Tryz.prog TT 102 fn func code hint := f2_mk (func := Go.Proofs.Tryz.f102) (code := bodyOf Go.Proofs.Tryz.f102) (hint := hintL []) (n := 8) (res := [.tmp 2, .tmp 3]) Go.Proofs.Tryz.func102 Go.Proofs.Tryz.call102 (by kernel_rfl) (by kernel_rfl) (by kernel_rfl) (by kernel_rfl) (by kernel_rfl)
/- quarry/rlp.Of -/
def fb103 : AFunc2 := ⟨6, [.cell (rLoad (some 3) g2)], .seq (.reg [
oBox w1 24 g0,
oAlloc w2 166 [.bool false, .nils, .nils]]) (.seq (.reg [
oR w3 (rLoad (some 4) g1),
oCall w4 127 [g3],
oP w5 (pBuild [.bool false, .nils, .nils] [(1, 1, g4)]),
oK wZ (bSt 3 g2 g5)]) (.ret))⟩
theorem fp103 : ∃ fn, fb103 = denF fn ∧ ∃ func code hint, FnOk Go.Proofs.Tryz.prog TT 103 fn func code hint := f2_mk (func := Go.Proofs.Tryz.f103) (code := bodyOf Go.Proofs.Tryz.f103) (hint := hintL []) (n := 6) (res := [.cell 2 (some 3)]) Go.Proofs.Tryz.func103 Go.Proofs.Tryz.call103 (by kernel_rfl) (by kernel_rfl) (by kernel_rfl) (by kernel_rfl) (by kernel_rfl)
/- (*quarry/vm.machine).inside -/
def fb104 : AFunc2 := ⟨48, [.cell (rLoad (some 23) g4)], .seq (.reg [
oBox w3 129 g1,
oAlloc w4 131 [zi64, .nils, zu64, zu8, zu8, zu8, zu8, zu8, zu8, zu8, zu8, zu8, zu8, zu8, zu8, zu8, zu8, zu8, zu8, zu8, zu8, zu8, zu8]]) (.seq (.seq (.draw [
⟨0, ⟨(some 9), .p (.mv (.t 0)), none⟩, 0, 0⟩,
⟨1, ⟨(some 10), .p (.nilCheck (.t 9)), none⟩, 1, 0⟩,
⟨2, ⟨(some 11), .p (.faddr 0 (.t 10)), none⟩, 3, 0⟩,
⟨3, ⟨(some 12), .r (.load none (.t 11)), none⟩, 7, 0⟩,
⟨4, ⟨(some 13), .p (.faddr 40 (.t 3)), none⟩, 0, 0⟩,
⟨5, ⟨(some 14), .r (.load (some 20) (.t 13)), none⟩, 16, 0⟩,
⟨6, ⟨(some 15), .b (.call 80 [(.t 12), (.t 14)]), none⟩, 63, 0⟩,
⟨7, ⟨(some 5), .p (.mv (.t 15)), none⟩, 127, 0⟩]) (.seq (.reg [
oP w16 (pMv g5),
oK w17 (bCmp 1 nEq .eq true g16 (gC (.w (.s (zi64)))))]) (.cond g17 (.seq (.draw [
⟨0, ⟨(some 19), .p (.mv (.t 0)), none⟩, 0, 0⟩,
⟨1, ⟨(some 20), .p (.nilCheck (.t 19)), none⟩, 1, 0⟩,
⟨2, ⟨(some 21), .p (.faddr 0 (.t 20)), none⟩, 3, 0⟩,
⟨3, ⟨(some 22), .r (.load none (.t 21)), none⟩, 7, 0⟩,
⟨4, ⟨(some 23), .p (.mv (.t 5)), none⟩, 0, 0⟩,
⟨5, ⟨(some 24), .p (.faddr 64 (.t 3)), none⟩, 0, 0⟩,
⟨6, ⟨(some 25), .r (.load none (.t 24)), none⟩, 32, 0⟩,
⟨7, ⟨(some 26), .p (.faddr 65 (.t 3)), none⟩, 0, 0⟩,
⟨8, ⟨(some 27), .r (.load none (.t 26)), none⟩, 128, 0⟩,
⟨9, ⟨(some 28), .b (.call 128 [(.t 22), (.t 23), (.t 25), (.t 27)]), none⟩, 511, 0⟩,
⟨10, ⟨(some 18), .p (.mv (.t 28)), none⟩, 1023, 0⟩,
⟨11, ⟨(some 29), .p (.ext (.t 18) 0), none⟩, 2047, 0⟩,
⟨12, ⟨(some 30), .p (.ext (.t 18) 1), none⟩, 2047, 0⟩,
⟨13, ⟨(some 31), .p (.ext (.t 18) 2), none⟩, 2047, 0⟩,
⟨14, ⟨(some 6), .p (.mv (.t 29)), none⟩, 4095, 0⟩,
⟨15, ⟨(some 7), .p (.mv (.t 30)), none⟩, 24575, 0⟩,
⟨16, ⟨(some 8), .p (.mv (.t 31)), none⟩, 65535, 0⟩]) (.seq (.seq (.reg [
oP w32 (pMv g8),
oP w33 (pNot g32)]) (.cond g33 (.seq (.reg [
oCall w34 68 [],
oK wZ (bSt 23 g4 g34)]) (.ret)) (.skip))) (.seq (.reg [
oP w35 (pMv g6),
oP w36 (pMv g7),
oP w37 (pBuild [zi64, .nils, zu64, zu8, zu8, zu8, zu8, zu8, zu8, zu8, zu8, zu8, zu8, zu8, zu8, zu8, zu8, zu8, zu8, zu8, zu8, zu8, zu8] [(1, 1, g35), (2, 1, g36)]),
oK wZ (bSt 23 g4 g37)]) (.ret)))) (.skip)))) (.seq (.draw [
⟨0, ⟨(some 38), .p (.mv (.t 0)), none⟩, 0, 0⟩,
⟨1, ⟨(some 39), .r (.load (some 68) (.t 3)), none⟩, 0, 0⟩,
⟨2, ⟨(some 40), .p (.mv (.t 0)), none⟩, 0, 0⟩,
⟨3, ⟨(some 41), .p (.nilCheck (.t 40)), none⟩, 4, 0⟩,
⟨4, ⟨(some 42), .p (.faddr 89 (.t 41)), none⟩, 12, 0⟩,
⟨5, ⟨(some 43), .r (.load none (.t 42)), none⟩, 28, 0⟩,
⟨6, ⟨(some 44), .p (.faddr 40 (.t 3)), none⟩, 0, 0⟩,
⟨7, ⟨(some 45), .r (.load (some 20) (.t 44)), none⟩, 64, 0⟩,
⟨8, ⟨(some 46), .b (.call 35 [(.t 43), (.t 45)]), none⟩, 252, 0⟩,
⟨9, ⟨(some 47), .b (.call 73 [(.t 38), (.t 39), (.t 46)]), none⟩, 511, 0⟩,
⟨10, ⟨none, .b (.store 23 (.t 4) (.t 47)), none⟩, 1023, 0⟩]) (.ret)))⟩
theorem fp104 : ∃ fn, fb104 = denF fn ∧ ∃ func code hint, FnOk Go.Proofs.Tryz.prog TT 104 fn func code hint := f2_mk (func := Go.Proofs.Tryz.f104) (code := bodyOf Go.Proofs.Tryz.f104) (hint := hintL [(1, [(0, 0), (1, 0), (2, 0), (3, 0), (4, 0), (5, 0), (6, 0), (7, 0)]), (3, [(0, 0), (1, 0), (2, 0), (3, 0), (4, 0), (5, 0), (6, 0), (7, 0), (8, 0), (9, 0), (10, 0), (11, 0), (12, 0), (13, 0), (14, 0), (15, 0), (16, 0)]), (7, [(0, 0), (1, 0), (2, 0), (3, 0), (4, 0), (5, 0), (6, 0), (7, 0), (8, 0), (9, 0), (10, 0)])]) (n := 48) (res := [.cell 4 (some 23)]) Go.Proofs.Tryz.func104 Go.Proofs.Tryz.call104 (by kernel_rfl) (by kernel_rfl) (by kernel_rfl) (by kernel_rfl) (by kernel_rfl)
/- quarry/state.put[quarry/api.Address,struct{}]$1 -/
def fb105 : AFunc2 := ⟨10, [], .seq (.reg [
oR w4 (rLoad none g0)]) (.cond g4 (.reg [
oR w5 (rLoad none g2),
oR w6 (rLoad (some 20) g3),
oR w7 (rLoad (some 0) g1),
oK wZ (b3 (bMupd (.one (.arr 20 5 .u8))) g5 g6 g7)]) (.reg [
oR w8 (rLoad none g2),
oR w9 (rLoad (some 20) g3),
oK wZ (b2 (bDel (.one (.arr 20 5 .u8))) g8 g9)]))⟩
theorem fp105 : ∃ fn, fb105 = denF fn ∧ ∃ func code hint, FnOk Go.Proofs.Tryz.prog TT 105 fn func code hint := f2_mk (func := Go.Proofs.Tryz.f105) (code := bodyOf Go.Proofs.Tryz.f105) (hint := hintL []) (n := 10) (res := []) Go.Proofs.Tryz.func105 Go.Proofs.Tryz.call105 (by kernel_rfl) (by kernel_rfl) (by kernel_rfl) (by kernel_rfl) (by kernel_rfl)
/- quarry/state.put[quarry/api.Address,*quarry/state.account]$1 -/
def fb106 : AFunc2 := ⟨10, [], .seq (.reg [
oR w4 (rLoad none g0)]) (.cond g4 (.reg [
oR w5 (rLoad none g2),
oR w6 (rLoad (some 20) g3),
oR w7 (rLoad none g1),
oK wZ (b3 (bMupd (.one (.arr 20 5 .u8))) g5 g6 g7)]) (.reg [
oR w8 (rLoad none g2),
oR w9 (rLoad (some 20) g3),
oK wZ (b2 (bDel (.one (.arr 20 5 .u8))) g8 g9)]))⟩
theorem fp106 : ∃ fn, fb106 = denF fn ∧ ∃ func code hint, FnOk Go.Proofs.Tryz.prog TT 106 fn func code hint := f2_mk (func := Go.Proofs.Tryz.f106) (code := bodyOf Go.Proofs.Tryz.f106) (hint := hintL []) (n := 10) (res := []) Go.Proofs.Tryz.func106 Go.Proofs.Tryz.call106 (by kernel_rfl) (by kernel_rfl) (by kernel_rfl) (by kernel_rfl) (by kernel_rfl)
/- (*quarry/state.State).SetBalance$1 -/
def fb107 : AFunc2 := ⟨6, [], .reg [
oR w2 (rLoad none g1),
oR w3 (rLoad (some 4) g0),
oP w4 (pGen fun _ t => opNil t (.t 2)),
oP w5 (pFaddr 1 g4),
oK wZ (bSt 4 g5 g3)]⟩
theorem fp107 : ∃ fn, fb107 = denF fn ∧ ∃ func code hint, FnOk Go.Proofs.Tryz.prog TT 107 fn func code hint := f2_mk (func := Go.Proofs.Tryz.f107) (code := bodyOf Go.Proofs.Tryz.f107) (hint := hintL []) (n := 6) (res := []) Go.Proofs.Tryz.func107 Go.Proofs.Tryz.call107 (by kernel_rfl) (by kernel_rfl) (by kernel_rfl) (by kernel_rfl) (by kernel_rfl)
/- quarry/word.added -/
def fb109 : AFunc2 := ⟨27, [.cell (rLoad (some 4) g4), .tmp g5], .seq (.reg [
oBox w2 24 g0,
oBox w3 24 g1,
oAlloc w4 24 [zu64, zu64, zu64, zu64],
oP w5 (pMv (gC (.w (.s (zu64)))))]) (.seq (.reg [
oP w6 (pMv (gC (.w (.s (zu64)))))]) (.seq (.seq (.reg [
oP w8 (pMv (gC (.w (.s (zi64)))))]) (.block 0 (.loop (.seq (.reg [
oK w9 (bCmp 2 lLt cGe true g8 (gC (.w (.s (ni64 4)))))]) (.seq (.cond g9 (.skip) (.exit 0)) (.seq (.block 1 (.seq (.reg [
oP w10 (pMv g8),
oP w7 (pMv g10)]) (.draw [
⟨0, ⟨(some 12), .p (.mv (.t 7)), none⟩, 0, 0⟩,
⟨1, ⟨(some 13), .p (.mv (.t 7)), none⟩, 0, 0⟩,
⟨2, ⟨(some 14), .p (.iaddrA 4 1 (.t 2) (.t 13)), none⟩, 2, 0⟩,
⟨3, ⟨(some 15), .r (.load none (.t 14)), none⟩, 6, 0⟩,
⟨4, ⟨(some 16), .p (.mv (.t 7)), none⟩, 0, 0⟩,
⟨5, ⟨(some 17), .p (.iaddrA 4 1 (.t 3) (.t 16)), none⟩, 16, 0⟩,
⟨6, ⟨(some 18), .r (.load none (.t 17)), none⟩, 48, 0⟩,
⟨7, ⟨(some 19), .p (.mv (.t 6)), none⟩, 0, 0⟩,
⟨8, ⟨(some 20), .b (.call 129 [(.t 15), (.t 18), (.t 19)]), none⟩, 254, 0⟩,
⟨9, ⟨(some 11), .p (.mv (.t 20)), none⟩, 510, 0⟩,
⟨10, ⟨(some 21), .p (.ext (.t 11) 0), none⟩, 1022, 0⟩,
⟨11, ⟨(some 22), .p (.ext (.t 11) 1), none⟩, 1022, 0⟩,
⟨12, ⟨(some 23), .p (.iaddrA 4 1 (.t 2) (.t 12)), none⟩, 2047, 0⟩,
⟨13, ⟨none, .b (.store 1 (.t 23) (.t 21)), none⟩, 6143, 0⟩,
⟨14, ⟨(some 6), .p (.mv (.t 22)), none⟩, 16383, 0⟩]))) (.reg [
oP w24 (pAr 0 g8 (gC (.w (.s (ni64 1))))),
oP w8 (pMv g24)]))))))) (.seq (.reg [
oR w25 (rLoad (some 4) g2),
oP w26 (pMv g6),
oK wZ (bSt 4 g4 g25),
oP w5 (pMv g26)]) (.ret))))⟩
theorem fp109 : ∃ fn, fb109 = denF fn ∧ ∃ func code hint, FnOk Go.Proofs.Tryz.prog TT 109 fn func code hint := f2_mk (func := Go.Proofs.Tryz.f109) (code := bodyOf Go.Proofs.Tryz.f109) (hint := hintL [(5, [(0, 0), (1, 0), (2, 0), (3, 0), (4, 0), (5, 0), (6, 0), (7, 0), (8, 0), (9, 0), (10, 0), (11, 0), (12, 0), (13, 0), (14, 0)])]) (n := 27) (res := [.cell 4 (some 4), .tmp 5]) Go.Proofs.Tryz.func109 Go.Proofs.Tryz.call109 (by kernel_rfl) (by kernel_rfl) (by kernel_rfl) (by kernel_rfl) (by kernel_rfl)
/- quarry/vm.must -/
def fb111 : AFunc2 := ⟨5, [], .seq (.reg [
oP w2 (pMv g0),
oP w3 (pNot g2)]) (.cond g3 (.reg [
oCall w4 130 []]) (.skip))⟩
theorem fp111 : ∃ fn, fb111 = denF fn ∧ ∃ func code hint, FnOk Go.Proofs.Tryz.prog TT 111 fn func code hint := f2_mk (func := Go.Proofs.Tryz.f111) (code := bodyOf Go.Proofs.Tryz.f111) (hint := hintL []) (n := 5) (res := []) Go.Proofs.Tryz.func111 Go.Proofs.Tryz.call111 (by kernel_rfl) (by kernel_rfl) (by kernel_rfl) (by kernel_rfl) (by kernel_rfl)
/- (*quarry/vm.frame).changes -/
def fb112 : AFunc2 := ⟨33, [.tmp g4], .seq (.reg [
oP w4 (pMv (gC (.w (.s (.bool false)))))]) (.seq (.seq (.reg [
oP w5 (pMv g1)]) (.block 0 (.seq (.seq (.reg [
oK w7 (bCmp 0 intEq .eq false g5 (gC (.w (.s (ni64 85))))),
oP w6 (pMv g7)]) (.cond g6 (.skip) (.seq (.reg [
oK w8 (bCmp 0 intEq .eq false g5 (gC (.w (.s (ni64 93))))),
oP w6 (pMv g8)]) (.cond g6 (.skip) (.seq (.reg [
oK w9 (bCmp 0 intEq .eq false g5 (gC (.w (.s (ni64 160))))),
oP w6 (pMv g9)]) (.cond g6 (.skip) (.seq (.reg [
oK w10 (bCmp 0 intEq .eq false g5 (gC (.w (.s (ni64 161))))),
oP w6 (pMv g10)]) (.cond g6 (.skip) (.seq (.reg [
oK w11 (bCmp 0 intEq .eq false g5 (gC (.w (.s (ni64 162))))),
oP w6 (pMv g11)]) (.cond g6 (.skip) (.seq (.reg [
oK w12 (bCmp 0 intEq .eq false g5 (gC (.w (.s (ni64 163))))),
oP w6 (pMv g12)]) (.cond g6 (.skip) (.seq (.reg [
oK w13 (bCmp 0 intEq .eq false g5 (gC (.w (.s (ni64 164))))),
oP w6 (pMv g13)]) (.cond g6 (.skip) (.seq (.reg [
oK w14 (bCmp 0 intEq .eq false g5 (gC (.w (.s (ni64 240))))),
oP w6 (pMv g14)]) (.cond g6 (.skip) (.seq (.reg [
oK w15 (bCmp 0 intEq .eq false g5 (gC (.w (.s (ni64 245))))),
oP w6 (pMv g15)]) (.cond g6 (.skip) (.reg [
oK w16 (bCmp 0 intEq .eq false g5 (gC (.w (.s (ni64 255))))),
oP w6 (pMv g16)]))))))))))))))))))) (.cond g6 (.seq (.reg [
oP w4 (pMv (gC (.w (.s (.bool true)))))]) (.ret)) (.seq (.reg [
oK w18 (bCmp 0 intEq .eq false g5 (gC (.w (.s (ni64 241))))),
oP w17 (pMv g18)]) (.cond g17 (.seq (.draw [
⟨0, ⟨(some 19), .p (.mv (.t 0)), none⟩, 0, 0⟩,
⟨1, ⟨(some 20), .p (.nilCheck (.t 19)), none⟩, 1, 0⟩,
⟨2, ⟨(some 21), .p (.faddr 70 (.t 20)), none⟩, 3, 0⟩,
⟨3, ⟨(some 22), .r (.load none (.t 21)), none⟩, 7, 0⟩,
⟨4, ⟨(some 23), .p (.mv (.t 0)), none⟩, 0, 0⟩,
⟨5, ⟨(some 24), .p (.nilCheck (.t 23)), none⟩, 16, 0⟩,
⟨6, ⟨(some 25), .p (.faddr 70 (.t 24)), none⟩, 48, 0⟩,
⟨7, ⟨(some 26), .r (.load none (.t 25)), none⟩, 112, 0⟩,
⟨8, ⟨(some 27), .p (.len (.t 26)), none⟩, 240, 0⟩,
⟨9, ⟨(some 28), .p (.ar 1 (.t 27) (.c (.w (.s (ni64 3))))), none⟩, 496, 0⟩,
⟨10, ⟨(some 29), .p (.iaddrS 4 (.t 22) (.t 28)), none⟩, 1023, 0⟩,
⟨11, ⟨(some 30), .r (.load (some 4) (.t 29)), none⟩, 2047, 0⟩,
⟨12, ⟨(some 31), .p (.build [zu64, zu64, zu64, zu64] []), none⟩, 0, 0⟩,
⟨13, ⟨(some 32), .b (.cmp 1 (.agg (.one (.arr 4 22 .u64))) (.t 30) (.t 31)), none⟩, 8191, 0⟩,
⟨14, ⟨(some 4), .p (.mv (.t 32)), none⟩, 16383, 0⟩]) (.ret)) (.skip))))))) (.seq (.reg [
oP w4 (pMv (gC (.w (.s (.bool false)))))]) (.ret)))⟩
theorem fp112 : ∃ fn, fb112 = denF fn ∧ ∃ func code hint, FnOk Go.Proofs.Tryz.prog TT 112 fn func code hint := f2_mk (func := Go.Proofs.Tryz.f112) (code := bodyOf Go.Proofs.Tryz.f112) (hint := hintL [(14, [(0, 0), (1, 0), (2, 0), (3, 0), (4, 0), (5, 0), (6, 0), (7, 0), (8, 0), (9, 0), (10, 0), (11, 0), (12, 0), (13, 0), (14, 0)])]) (n := 33) (res := [.tmp 4]) Go.Proofs.Tryz.func112 Go.Proofs.Tryz.call112 (by kernel_rfl) (by kernel_rfl) (by kernel_rfl) (by kernel_rfl) (by kernel_rfl)
/- (*quarry/vm.frame).pay -/
def fb113 : AFunc2 := ⟨22, [], .seq (.reg [
oP w4 (pMv g1),
oP w5 (pMv g0),
oP w6 (pGen fun _ t => opNil t (.t 5)),
oP w7 (pFaddr 1 g6),
oP w8 (pFaddr 65 g7),
oR w9 (rLoad none g8),
oK w10 (bCmp 3 intLe .le false g4 g9),
oCall w11 111 [g10]]) (.reg [
oP w12 (pMv g0),
oP w13 (pGen fun _ t => opNil t (.t 12)),
oP w14 (pFaddr 1 g13),
oP w15 (pFaddr 65 g14),
oR w16 (rLoad none g15),
oP w17 (pMv g1),
oP w18 (pAr 1 g16 g17),
oP w19 (pGen fun _ t => opNil t (.t 12)),
oP w20 (pFaddr 1 g19),
oP w21 (pFaddr 65 g20),
oK wZ (bSt 1 g21 g18)])⟩
theorem fp113 : ∃ fn, fb113 = denF fn ∧ ∃ func code hint, FnOk Go.Proofs.Tryz.prog TT 113 fn func code hint := f2_mk (func := Go.Proofs.Tryz.f113) (code := bodyOf Go.Proofs.Tryz.f113) (hint := hintL []) (n := 22) (res := []) Go.Proofs.Tryz.func113 Go.Proofs.Tryz.call113 (by kernel_rfl) (by kernel_rfl) (by kernel_rfl) (by kernel_rfl) (by kernel_rfl)
/- (*quarry/vm.frame).reckons -/
def fb114 : AFunc2 := ⟨125, [], .seq (.reg [
oP w9 (pBuild zz2 [(1, 1, (gC (.w (.s (.fn 95 []))))), (2, 1, (gC (.w (.s (.fn 131 []))))), (3, 1, (gC (.w (.s (.fn 94 []))))), (4, 1, (gC (.w (.s (.fn 132 []))))), (5, 1, (gC (.w (.s (.fn 133 []))))), (6, 1, (gC (.w (.s (.fn 134 []))))), (7, 1, (gC (.w (.s (.fn 135 []))))), (10, 1, (gC (.w (.s (.fn 136 []))))), (11, 1, (gC (.w (.s (.fn 137 []))))), (22, 1, (gC (.w (.s (.fn 138 []))))), (23, 1, (gC (.w (.s (.fn 139 []))))), (24, 1, (gC (.w (.s (.fn 140 []))))), (26, 1, (gC (.w (.s (.fn 141 []))))), (27, 1, (gC (.w (.s (.fn 142 []))))), (28, 1, (gC (.w (.s (.fn 143 []))))), (29, 1, (gC (.w (.s (.fn 144 [])))))]),
oAlloc w4 217 zz2,
oK wZ (bSt 30 g4 g9)]) (.seq (.seq (.reg [
oP w10 (pMv g1),
oK w11 (bCmp 0 intEq .eq false g10 (gC (.w (.s (zi64)))))]) (.cond g11 (.seq (.reg [
oP w12 (pMv g0),
oCall w13 145 [g12, (gC (.w (.s (zi64)))), (gC (.w (.s (.nils))))]]) (.ret)) (.skip))) (.seq (.reg [
oP w14 (pMv g0),
oCall w15 146 [g14],
oAlloc w5 24 [zu64, zu64, zu64, zu64],
oK wZ (bSt 4 g5 g15)]) (.seq (.reg [
oP w16 (pMv g1)]) (.block 0 (.seq (.reg [
oK w41 (bCmp 0 intEq .eq false g16 (gC (.w (.s (ni64 8))))),
oP w40 (pMv g41)]) (.cond g40 (.seq (.reg [
oP w42 (pMv g0),
oCall w43 146 [g42],
oAlloc w6 24 [zu64, zu64, zu64, zu64],
oK wZ (bSt 4 g6 g43)]) (.draw [
⟨0, ⟨(some 44), .p (.mv (.t 0)), none⟩, 0, 0⟩,
⟨1, ⟨(some 45), .r (.load (some 4) (.t 5)), none⟩, 0, 0⟩,
⟨2, ⟨(some 46), .r (.load (some 4) (.t 6)), none⟩, 0, 0⟩,
⟨3, ⟨(some 47), .p (.mv (.t 0)), none⟩, 0, 0⟩,
⟨4, ⟨(some 48), .b (.call 146 [(.t 47)]), none⟩, 8, 0⟩,
⟨5, ⟨(some 49), .b (.call 147 [(.t 45), (.t 46), (.t 48)]), none⟩, 30, 0⟩,
⟨6, ⟨(some 50), .b (.call 120 [(.t 44), (.t 49)]), none⟩, 63, 0⟩])) (.seq (.reg [
oK w52 (bCmp 0 intEq .eq false g16 (gC (.w (.s (ni64 9))))),
oP w51 (pMv g52)]) (.cond g51 (.seq (.reg [
oP w53 (pMv g0),
oCall w54 146 [g53],
oAlloc w7 24 [zu64, zu64, zu64, zu64],
oK wZ (bSt 4 g7 g54)]) (.draw [
⟨0, ⟨(some 55), .p (.mv (.t 0)), none⟩, 0, 0⟩,
⟨1, ⟨(some 56), .r (.load (some 4) (.t 5)), none⟩, 0, 0⟩,
⟨2, ⟨(some 57), .r (.load (some 4) (.t 7)), none⟩, 0, 0⟩,
⟨3, ⟨(some 58), .p (.mv (.t 0)), none⟩, 0, 0⟩,
⟨4, ⟨(some 59), .b (.call 146 [(.t 58)]), none⟩, 8, 0⟩,
⟨5, ⟨(some 60), .b (.call 148 [(.t 56), (.t 57), (.t 59)]), none⟩, 30, 0⟩,
⟨6, ⟨(some 61), .b (.call 120 [(.t 55), (.t 60)]), none⟩, 63, 0⟩])) (.seq (.reg [
oK w63 (bCmp 0 intEq .eq false g16 (gC (.w (.s (ni64 16))))),
oP w62 (pMv g63)]) (.cond g62 (.draw [
⟨0, ⟨(some 64), .p (.mv (.t 0)), none⟩, 0, 0⟩,
⟨1, ⟨(some 65), .r (.load (some 4) (.t 5)), none⟩, 0, 0⟩,
⟨2, ⟨(some 66), .p (.mv (.t 0)), none⟩, 0, 0⟩,
⟨3, ⟨(some 67), .b (.call 146 [(.t 66)]), none⟩, 4, 0⟩,
⟨4, ⟨(some 68), .b (.call 86 [(.t 65), (.t 67)]), none⟩, 14, 0⟩,
⟨5, ⟨(some 69), .b (.cmp 2 .int (.t 68) (.c (.w (.s (zi64))))), none⟩, 30, 0⟩,
⟨6, ⟨(some 70), .b (.call 149 [(.t 69)]), none⟩, 62, 0⟩,
⟨7, ⟨(some 71), .b (.call 120 [(.t 64), (.t 70)]), none⟩, 127, 0⟩]) (.seq (.reg [
oK w73 (bCmp 0 intEq .eq false g16 (gC (.w (.s (ni64 17))))),
oP w72 (pMv g73)]) (.cond g72 (.draw [
⟨0, ⟨(some 74), .p (.mv (.t 0)), none⟩, 0, 0⟩,
⟨1, ⟨(some 75), .r (.load (some 4) (.t 5)), none⟩, 0, 0⟩,
⟨2, ⟨(some 76), .p (.mv (.t 0)), none⟩, 0, 0⟩,
⟨3, ⟨(some 77), .b (.call 146 [(.t 76)]), none⟩, 4, 0⟩,
⟨4, ⟨(some 78), .b (.call 86 [(.t 75), (.t 77)]), none⟩, 14, 0⟩,
⟨5, ⟨(some 79), .b (.cmp 4 .int (.t 78) (.c (.w (.s (zi64))))), none⟩, 30, 0⟩,
⟨6, ⟨(some 80), .b (.call 149 [(.t 79)]), none⟩, 62, 0⟩,
⟨7, ⟨(some 81), .b (.call 120 [(.t 74), (.t 80)]), none⟩, 127, 0⟩]) (.seq (.reg [
oK w83 (bCmp 0 intEq .eq false g16 (gC (.w (.s (ni64 18))))),
oP w82 (pMv g83)]) (.cond g82 (.draw [
⟨0, ⟨(some 84), .p (.mv (.t 0)), none⟩, 0, 0⟩,
⟨1, ⟨(some 85), .r (.load (some 4) (.t 5)), none⟩, 0, 0⟩,
⟨2, ⟨(some 86), .p (.mv (.t 0)), none⟩, 0, 0⟩,
⟨3, ⟨(some 87), .b (.call 146 [(.t 86)]), none⟩, 4, 0⟩,
⟨4, ⟨(some 88), .b (.call 150 [(.t 85), (.t 87)]), none⟩, 14, 0⟩,
⟨5, ⟨(some 89), .b (.cmp 2 .int (.t 88) (.c (.w (.s (zi64))))), none⟩, 30, 0⟩,
⟨6, ⟨(some 90), .b (.call 149 [(.t 89)]), none⟩, 62, 0⟩,
⟨7, ⟨(some 91), .b (.call 120 [(.t 84), (.t 90)]), none⟩, 127, 0⟩]) (.seq (.reg [
oK w93 (bCmp 0 intEq .eq false g16 (gC (.w (.s (ni64 19))))),
oP w92 (pMv g93)]) (.cond g92 (.draw [
⟨0, ⟨(some 94), .p (.mv (.t 0)), none⟩, 0, 0⟩,
⟨1, ⟨(some 95), .r (.load (some 4) (.t 5)), none⟩, 0, 0⟩,
⟨2, ⟨(some 96), .p (.mv (.t 0)), none⟩, 0, 0⟩,
⟨3, ⟨(some 97), .b (.call 146 [(.t 96)]), none⟩, 4, 0⟩,
⟨4, ⟨(some 98), .b (.call 150 [(.t 95), (.t 97)]), none⟩, 14, 0⟩,
⟨5, ⟨(some 99), .b (.cmp 4 .int (.t 98) (.c (.w (.s (zi64))))), none⟩, 30, 0⟩,
⟨6, ⟨(some 100), .b (.call 149 [(.t 99)]), none⟩, 62, 0⟩,
⟨7, ⟨(some 101), .b (.call 120 [(.t 94), (.t 100)]), none⟩, 127, 0⟩]) (.seq (.reg [
oK w103 (bCmp 0 intEq .eq false g16 (gC (.w (.s (ni64 20))))),
oP w102 (pMv g103)]) (.cond g102 (.draw [
⟨0, ⟨(some 104), .p (.mv (.t 0)), none⟩, 0, 0⟩,
⟨1, ⟨(some 105), .r (.load (some 4) (.t 5)), none⟩, 0, 0⟩,
⟨2, ⟨(some 106), .p (.mv (.t 0)), none⟩, 0, 0⟩,
⟨3, ⟨(some 107), .b (.call 146 [(.t 106)]), none⟩, 4, 0⟩,
⟨4, ⟨(some 108), .b (.cmp 0 (.agg (.one (.arr 4 22 .u64))) (.t 105) (.t 107)), none⟩, 14, 0⟩,
⟨5, ⟨(some 109), .b (.call 149 [(.t 108)]), none⟩, 30, 0⟩,
⟨6, ⟨(some 110), .b (.call 120 [(.t 104), (.t 109)]), none⟩, 63, 0⟩]) (.seq (.reg [
oK w112 (bCmp 0 intEq .eq false g16 (gC (.w (.s (ni64 21))))),
oP w111 (pMv g112)]) (.cond g111 (.reg [
oP w113 (pMv g0),
oR w114 (rLoad (some 4) g5),
oP w115 (pBuild [zu64, zu64, zu64, zu64] []),
oK w116 (b2 (fun x y s K => cmpA 0 (.agg (.one (.arr 4 22 .u64))) x y s fun b s => K (vBool b) s) g114 g115),
oCall w117 149 [g116],
oCall w118 120 [g113, g117]]) (.seq (.reg [
oK w120 (bCmp 0 intEq .eq false g16 (gC (.w (.s (ni64 25))))),
oP w119 (pMv g120)]) (.cond g119 (.reg [
oP w121 (pMv g0),
oR w122 (rLoad (some 4) g5),
oCall w123 151 [g122],
oCall w124 120 [g121, g123]]) (.seq (.reg [
oP w17 (pMv g0),
oCall w18 146 [g17],
oAlloc w8 24 [zu64, zu64, zu64, zu64],
oK wZ (bSt 4 g8 g18)]) (.seq (.seq (.reg [
oP w19 (pMv g1),
oK w20 (bCmp 0 intEq .eq false g19 (gC (.w (.s (ni64 10)))))]) (.cond g20 (.draw [
⟨0, ⟨(some 21), .p (.mv (.t 0)), none⟩, 0, 0⟩,
⟨1, ⟨(some 22), .p (.mv (.t 0)), none⟩, 0, 0⟩,
⟨2, ⟨(some 23), .p (.nilCheck (.t 22)), none⟩, 2, 0⟩,
⟨3, ⟨(some 24), .p (.faddr 0 (.t 23)), none⟩, 6, 0⟩,
⟨4, ⟨(some 25), .r (.load none (.t 24)), none⟩, 14, 0⟩,
⟨5, ⟨(some 26), .p (.nilCheck (.t 25)), none⟩, 30, 0⟩,
⟨6, ⟨(some 27), .p (.faddr 1 (.t 26)), none⟩, 62, 0⟩,
⟨7, ⟨(some 28), .r (.load (some 26) (.t 27)), none⟩, 126, 0⟩,
⟨8, ⟨(some 29), .r (.load (some 4) (.t 8)), none⟩, 0, 0⟩,
⟨9, ⟨(some 30), .b (.call 152 [(.t 28), (.t 29)]), none⟩, 510, 0⟩,
⟨10, ⟨(some 31), .b (.call 113 [(.t 21), (.t 30)]), none⟩, 1023, 0⟩]) (.skip))) (.draw [
⟨0, ⟨(some 32), .p (.mv (.t 0)), none⟩, 0, 0⟩,
⟨1, ⟨(some 33), .p (.mv (.t 1)), none⟩, 0, 0⟩,
⟨2, ⟨(some 34), .p (.iaddrA 30 1 (.t 4) (.t 33)), none⟩, 2, 0⟩,
⟨3, ⟨(some 35), .r (.load none (.t 34)), none⟩, 6, 0⟩,
⟨4, ⟨(some 36), .r (.load (some 4) (.t 5)), none⟩, 0, 0⟩,
⟨5, ⟨(some 37), .r (.load (some 4) (.t 8)), none⟩, 0, 0⟩,
⟨6, ⟨(some 38), .b (.callv (.t 35) [(.t 36), (.t 37)]), none⟩, 62, 0⟩,
⟨7, ⟨(some 39), .b (.call 120 [(.t 32), (.t 38)]), none⟩, 127, 0⟩])))))))))))))))))))))))))⟩
theorem fp114 : ∃ fn, fb114 = denF fn ∧ ∃ func code hint, FnOk Go.Proofs.Tryz.prog TT 114 fn func code hint := f2_mk (func := Go.Proofs.Tryz.f114) (code := bodyOf Go.Proofs.Tryz.f114) (hint := hintL [(11, [(0, 0), (1, 0), (2, 0), (3, 0), (4, 0), (5, 0), (6, 0)]), (14, [(0, 0), (1, 0), (2, 0), (3, 0), (4, 0), (5, 0), (6, 0)]), (16, [(0, 0), (1, 0), (2, 0), (3, 0), (4, 0), (5, 0), (6, 0), (7, 0)]), (18, [(0, 0), (1, 0), (2, 0), (3, 0), (4, 0), (5, 0), (6, 0), (7, 0)]), (20, [(0, 0), (1, 0), (2, 0), (3, 0), (4, 0), (5, 0), (6, 0), (7, 0)]), (22, [(0, 0), (1, 0), (2, 0), (3, 0), (4, 0), (5, 0), (6, 0), (7, 0)]), (24, [(0, 0), (1, 0), (2, 0), (3, 0), (4, 0), (5, 0), (6, 0)]), (7, [(0, 0), (1, 0), (2, 0), (3, 0), (4, 0), (5, 0), (6, 0), (7, 0), (8, 0), (9, 0), (10, 0)]), (8, [(0, 0), (1, 0), (2, 0), (3, 0), (4, 0), (5, 0), (6, 0), (7, 0)])]) (n := 125) (res := []) Go.Proofs.Tryz.func114 Go.Proofs.Tryz.call114 (by kernel_rfl) (by kernel_rfl) (by kernel_rfl) (by kernel_rfl) (by kernel_rfl)
/- (*quarry/vm.frame).hashes -/
def fb115 : AFunc2 := ⟨23, [], .seq (.reg [
oP w3 (pMv g0),
oCall w4 153 [g3],
oAlloc w2 225 [zu64, zu64, zu64, zu64, zu64, zu64, zu64, zu64],
oK wZ (bSt 8 g2 g4)]) (.seq (.reg [
oP w5 (pMv g0),
oP w6 (pFaddr 4 g2),
oR w7 (rLoad (some 4) g6),
oCall w8 155 [g7, (gC (.w (.s (nu64 6))))],
oP w9 (pExt g8 0),
oP w10 (pExt g8 1),
oCall w11 154 [g5, g9, g10]]) (.seq (.reg [
oP w12 (pMv g0),
oR w13 (rLoad (some 8) g2),
oM w14 (.bslice 225 1 [zu64, zu64, zu64, zu64, zu64, zu64, zu64, zu64] [(0, 8, (.t 13))]),
oCall w15 156 [g12, g14]]) (.reg [
oP w16 (pMv g0),
oP w17 (pMv g0),
oR w18 (rLoad (some 8) g2),
oCall w19 158 [g17, g18],
oCall w20 101 [g19],
oCall w21 157 [g20],
oCall w22 120 [g16, g21]])))⟩
theorem fp115 : ∃ fn, fb115 = denF fn ∧ ∃ func code hint, FnOk Go.Proofs.Tryz.prog TT 115 fn func code hint := f2_mk (func := Go.Proofs.Tryz.f115) (code := bodyOf Go.Proofs.Tryz.f115) (hint := hintL []) (n := 23) (res := []) Go.Proofs.Tryz.func115 Go.Proofs.Tryz.call115 (by kernel_rfl) (by kernel_rfl) (by kernel_rfl) (by kernel_rfl) (by kernel_rfl)
/- (*quarry/vm.frame).surrounds -/
def fb116 : AFunc2 := ⟨281, [], .seq (.reg [
oP w19 (pMv g1)]) (.block 0 (.seq (.reg [
oK w21 (bCmp 0 intEq .eq false g19 (gC (.w (.s (ni64 48))))),
oP w20 (pMv g21)]) (.cond g20 (.reg [
oP w22 (pMv g0),
oP w23 (pMv g0),
oP w24 (pGen fun _ t => opNil t (.t 23)),
oP w25 (pFaddr 1 g24),
oP w26 (pFaddr 20 g25),
oR w27 (rLoad (some 20) g26),
oCall w28 159 [g27],
oCall w29 120 [g22, g28]]) (.seq (.reg [
oK w31 (bCmp 0 intEq .eq false g19 (gC (.w (.s (ni64 49))))),
oP w30 (pMv g31)]) (.cond g30 (.seq (.reg [
oP w32 (pMv g0),
oCall w33 160 [g32],
oAlloc w4 30 zz0,
oK wZ (bSt 20 g4 g33)]) (.seq (.reg [
oP w34 (pMv g0),
oR w35 (rLoad (some 20) g4),
oCall w36 161 [g34, g35]]) (.draw [
⟨0, ⟨(some 37), .p (.mv (.t 0)), none⟩, 0, 0⟩,
⟨1, ⟨(some 38), .p (.mv (.t 0)), none⟩, 0, 0⟩,
⟨2, ⟨(some 39), .p (.nilCheck (.t 38)), none⟩, 2, 0⟩,
⟨3, ⟨(some 40), .p (.faddr 0 (.t 39)), none⟩, 6, 0⟩,
⟨4, ⟨(some 41), .r (.load none (.t 40)), none⟩, 14, 0⟩,
⟨5, ⟨(some 42), .p (.nilCheck (.t 41)), none⟩, 30, 0⟩,
⟨6, ⟨(some 43), .p (.faddr 89 (.t 42)), none⟩, 62, 0⟩,
⟨7, ⟨(some 44), .r (.load none (.t 43)), none⟩, 126, 0⟩,
⟨8, ⟨(some 45), .r (.load (some 20) (.t 4)), none⟩, 0, 0⟩,
⟨9, ⟨(some 46), .b (.call 34 [(.t 44), (.t 45)]), none⟩, 510, 0⟩,
⟨10, ⟨(some 47), .b (.call 120 [(.t 37), (.t 46)]), none⟩, 1023, 0⟩]))) (.seq (.reg [
oK w49 (bCmp 0 intEq .eq false g19 (gC (.w (.s (ni64 50))))),
oP w48 (pMv g49)]) (.cond g48 (.reg [
oP w50 (pMv g0),
oP w51 (pMv g0),
oP w52 (pGen fun _ t => opNil t (.t 51)),
oP w53 (pFaddr 0 g52),
oR w54 (rLoad none g53),
oP w55 (pGen fun _ t => opNil t (.t 54)),
oP w56 (pFaddr 64 g55),
oP w57 (pFaddr 0 g56),
oR w58 (rLoad (some 20) g57),
oCall w59 159 [g58],
oCall w60 120 [g50, g59]]) (.seq (.reg [
oK w62 (bCmp 0 intEq .eq false g19 (gC (.w (.s (ni64 51))))),
oP w61 (pMv g62)]) (.cond g61 (.reg [
oP w63 (pMv g0),
oP w64 (pMv g0),
oP w65 (pGen fun _ t => opNil t (.t 64)),
oP w66 (pFaddr 1 g65),
oP w67 (pFaddr 0 g66),
oR w68 (rLoad (some 20) g67),
oCall w69 159 [g68],
oCall w70 120 [g63, g69]]) (.seq (.reg [
oK w72 (bCmp 0 intEq .eq false g19 (gC (.w (.s (ni64 52))))),
oP w71 (pMv g72)]) (.cond g71 (.reg [
oP w73 (pMv g0),
oP w74 (pMv g0),
oP w75 (pGen fun _ t => opNil t (.t 74)),
oP w76 (pFaddr 1 g75),
oP w77 (pFaddr 60 g76),
oR w78 (rLoad (some 4) g77),
oCall w79 120 [g73, g78]]) (.seq (.reg [
oK w81 (bCmp 0 intEq .eq false g19 (gC (.w (.s (ni64 53))))),
oP w80 (pMv g81)]) (.cond g80 (.seq (.draw [
⟨0, ⟨(some 83), .p (.mv (.t 0)), none⟩, 0, 0⟩,
⟨1, ⟨(some 84), .p (.nilCheck (.t 83)), none⟩, 1, 0⟩,
⟨2, ⟨(some 85), .p (.faddr 1 (.t 84)), none⟩, 3, 0⟩,
⟨3, ⟨(some 86), .p (.faddr 64 (.t 85)), none⟩, 7, 0⟩,
⟨4, ⟨(some 87), .r (.load none (.t 86)), none⟩, 15, 0⟩,
⟨5, ⟨(some 88), .p (.mv (.t 0)), none⟩, 0, 0⟩,
⟨12, ⟨(some 5), .m (.alloc 24 [zu64, zu64, zu64, zu64]), none⟩, 0, 3072⟩,
⟨6, ⟨(some 89), .b (.call 146 [(.t 88)]), none⟩, 32, 0⟩,
⟨7, ⟨(some 90), .b (.call 162 [(.t 87), (.t 89), (.c (.w (.s (ni64 32))))]), none⟩, 127, 0⟩,
⟨8, ⟨(some 91), .b (.call 10 [(.t 90)]), none⟩, 255, 0⟩,
⟨9, ⟨(some 82), .p (.mv (.t 91)), none⟩, 511, 0⟩,
⟨10, ⟨(some 92), .p (.ext (.t 82) 0), none⟩, 1023, 0⟩,
⟨11, ⟨(some 93), .p (.ext (.t 82) 1), none⟩, 1023, 0⟩,
⟨13, ⟨none, .b (.store 4 (.t 5) (.t 92)), none⟩, 6143, 0⟩,
⟨14, ⟨(some 6), .p (.mv (.t 93)), none⟩, 16383, 0⟩]) (.reg [
oP w94 (pMv g0),
oR w95 (rLoad (some 4) g5),
oCall w96 120 [g94, g95]])) (.seq (.reg [
oK w98 (bCmp 0 intEq .eq false g19 (gC (.w (.s (ni64 54))))),
oP w97 (pMv g98)]) (.cond g97 (.reg [
oP w99 (pMv g0),
oP w100 (pMv g0),
oP w101 (pGen fun _ t => opNil t (.t 100)),
oP w102 (pFaddr 1 g101),
oP w103 (pFaddr 64 g102),
oR w104 (rLoad none g103),
oP w105 (pGen fun _ t => opLen t (.t 104)),
oCall w106 163 [g105],
oCall w107 120 [g99, g106]]) (.seq (.seq (.reg [
oK w109 (bCmp 0 intEq .eq false g19 (gC (.w (.s (ni64 55))))),
oP w108 (pMv g109)]) (.cond g108 (.skip) (.reg [
oK w110 (bCmp 0 intEq .eq false g19 (gC (.w (.s (ni64 57))))),
oP w108 (pMv g110)]))) (.cond g108 (.seq (.reg [
oP w111 (pMv g0),
oP w112 (pGen fun _ t => opNil t (.t 111)),
oP w113 (pFaddr 1 g112),
oP w114 (pFaddr 64 g113),
oR w115 (rLoad none g114),
oP w7 (pMv g115)]) (.seq (.seq (.reg [
oP w116 (pMv g1),
oK w117 (bCmp 0 intEq .eq false g116 (gC (.w (.s (ni64 57)))))]) (.cond g117 (.reg [
oP w118 (pMv g0),
oP w119 (pGen fun _ t => opNil t (.t 118)),
oP w120 (pFaddr 69 g119),
oR w121 (rLoad none g120),
oP w7 (pMv g121)]) (.skip))) (.seq (.reg [
oP w122 (pMv g0),
oCall w123 146 [g122],
oP w124 (pMv g0),
oCall w125 146 [g124],
oAlloc w8 24 [zu64, zu64, zu64, zu64],
oAlloc w9 24 [zu64, zu64, zu64, zu64],
oK wZ (bSt 4 g8 g123),
oK wZ (bSt 4 g9 g125)]) (.draw [
⟨0, ⟨(some 126), .p (.mv (.t 0)), none⟩, 0, 0⟩,
⟨1, ⟨(some 127), .r (.load (some 4) (.t 8)), none⟩, 0, 0⟩,
⟨2, ⟨(some 128), .p (.mv (.t 0)), none⟩, 0, 0⟩,
⟨5, ⟨(some 131), .p (.mv (.t 7)), none⟩, 0, 0⟩,
⟨6, ⟨(some 132), .r (.load (some 4) (.t 9)), none⟩, 0, 0⟩,
⟨3, ⟨(some 129), .b (.call 146 [(.t 128)]), none⟩, 4, 0⟩,
⟨4, ⟨(some 130), .p (.build [zu64, zu64, zu64, zu64, zu64, zu64, zu64, zu64] [(0, 4, (.t 127)), (4, 4, (.t 129))]), none⟩, 14, 0⟩,
⟨7, ⟨(some 133), .b (.call 164 [(.t 126), (.t 130), (.t 131), (.t 132)]), none⟩, 127, 0⟩])))) (.seq (.reg [
oK w135 (bCmp 0 intEq .eq false g19 (gC (.w (.s (ni64 56))))),
oP w134 (pMv g135)]) (.cond g134 (.reg [
oP w136 (pMv g0),
oP w137 (pMv g0),
oP w138 (pGen fun _ t => opNil t (.t 137)),
oP w139 (pFaddr 69 g138),
oR w140 (rLoad none g139),
oP w141 (pGen fun _ t => opLen t (.t 140)),
oCall w142 163 [g141],
oCall w143 120 [g136, g142]]) (.seq (.reg [
oK w145 (bCmp 0 intEq .eq false g19 (gC (.w (.s (ni64 58))))),
oP w144 (pMv g145)]) (.cond g144 (.reg [
oP w146 (pMv g0),
oP w147 (pMv g0),
oP w148 (pGen fun _ t => opNil t (.t 147)),
oP w149 (pFaddr 0 g148),
oR w150 (rLoad none g149),
oP w151 (pGen fun _ t => opNil t (.t 150)),
oP w152 (pFaddr 64 g151),
oP w153 (pFaddr 20 g152),
oR w154 (rLoad (some 4) g153),
oCall w155 120 [g146, g154]]) (.seq (.reg [
oK w157 (bCmp 0 intEq .eq false g19 (gC (.w (.s (ni64 59))))),
oP w156 (pMv g157)]) (.cond g156 (.seq (.reg [
oP w158 (pMv g0),
oCall w159 160 [g158],
oAlloc w10 30 zz0,
oK wZ (bSt 20 g10 g159)]) (.seq (.reg [
oP w160 (pMv g0),
oR w161 (rLoad (some 20) g10),
oCall w162 161 [g160, g161]]) (.draw [
⟨0, ⟨(some 163), .p (.mv (.t 0)), none⟩, 0, 0⟩,
⟨1, ⟨(some 164), .p (.mv (.t 0)), none⟩, 0, 0⟩,
⟨2, ⟨(some 165), .p (.nilCheck (.t 164)), none⟩, 2, 0⟩,
⟨3, ⟨(some 166), .p (.faddr 0 (.t 165)), none⟩, 6, 0⟩,
⟨4, ⟨(some 167), .r (.load none (.t 166)), none⟩, 14, 0⟩,
⟨5, ⟨(some 168), .p (.nilCheck (.t 167)), none⟩, 30, 0⟩,
⟨6, ⟨(some 169), .p (.faddr 89 (.t 168)), none⟩, 62, 0⟩,
⟨7, ⟨(some 170), .r (.load none (.t 169)), none⟩, 126, 0⟩,
⟨8, ⟨(some 171), .r (.load (some 20) (.t 10)), none⟩, 0, 0⟩,
⟨9, ⟨(some 172), .b (.call 35 [(.t 170), (.t 171)]), none⟩, 510, 0⟩,
⟨10, ⟨(some 173), .p (.len (.t 172)), none⟩, 1022, 0⟩,
⟨11, ⟨(some 174), .b (.call 163 [(.t 173)]), none⟩, 2046, 0⟩,
⟨12, ⟨(some 175), .b (.call 120 [(.t 163), (.t 174)]), none⟩, 4095, 0⟩]))) (.seq (.reg [
oK w177 (bCmp 0 intEq .eq false g19 (gC (.w (.s (ni64 60))))),
oP w176 (pMv g177)]) (.cond g176 (.seq (.reg [
oP w178 (pMv g0),
oCall w179 160 [g178],
oAlloc w11 30 zz0,
oK wZ (bSt 20 g11 g179)]) (.seq (.reg [
oP w180 (pMv g0),
oR w181 (rLoad (some 20) g11),
oCall w182 161 [g180, g181]]) (.seq (.reg [
oP w183 (pMv g0),
oCall w184 146 [g183],
oP w185 (pMv g0),
oCall w186 146 [g185],
oAlloc w12 24 [zu64, zu64, zu64, zu64],
oAlloc w13 24 [zu64, zu64, zu64, zu64],
oK wZ (bSt 4 g12 g184),
oK wZ (bSt 4 g13 g186)]) (.draw [
⟨0, ⟨(some 187), .p (.mv (.t 0)), none⟩, 0, 0⟩,
⟨1, ⟨(some 188), .r (.load (some 4) (.t 12)), none⟩, 0, 0⟩,
⟨2, ⟨(some 189), .p (.mv (.t 0)), none⟩, 0, 0⟩,
⟨5, ⟨(some 192), .p (.mv (.t 0)), none⟩, 0, 0⟩,
⟨6, ⟨(some 193), .p (.nilCheck (.t 192)), none⟩, 32, 0⟩,
⟨7, ⟨(some 194), .p (.faddr 0 (.t 193)), none⟩, 96, 0⟩,
⟨8, ⟨(some 195), .r (.load none (.t 194)), none⟩, 224, 0⟩,
⟨9, ⟨(some 196), .p (.nilCheck (.t 195)), none⟩, 480, 0⟩,
⟨10, ⟨(some 197), .p (.faddr 89 (.t 196)), none⟩, 992, 0⟩,
⟨11, ⟨(some 198), .r (.load none (.t 197)), none⟩, 2016, 0⟩,
⟨12, ⟨(some 199), .r (.load (some 20) (.t 11)), none⟩, 0, 0⟩,
⟨14, ⟨(some 201), .r (.load (some 4) (.t 13)), none⟩, 0, 0⟩,
⟨3, ⟨(some 190), .b (.call 146 [(.t 189)]), none⟩, 4, 0⟩,
⟨4, ⟨(some 191), .p (.build [zu64, zu64, zu64, zu64, zu64, zu64, zu64, zu64] [(0, 4, (.t 188)), (4, 4, (.t 190))]), none⟩, 14, 0⟩,
⟨13, ⟨(some 200), .b (.call 35 [(.t 198), (.t 199)]), none⟩, 8172, 0⟩,
⟨15, ⟨(some 202), .b (.call 164 [(.t 187), (.t 191), (.t 200), (.t 201)]), none⟩, 32767, 0⟩])))) (.seq (.reg [
oK w204 (bCmp 0 intEq .eq false g19 (gC (.w (.s (ni64 61))))),
oP w203 (pMv g204)]) (.cond g203 (.reg [
oP w205 (pMv g0),
oP w206 (pMv g0),
oP w207 (pGen fun _ t => opNil t (.t 206)),
oP w208 (pFaddr 72 g207),
oR w209 (rLoad none g208),
oP w210 (pGen fun _ t => opLen t (.t 209)),
oCall w211 163 [g210],
oCall w212 120 [g205, g211]]) (.seq (.reg [
oK w214 (bCmp 0 intEq .eq false g19 (gC (.w (.s (ni64 62))))),
oP w213 (pMv g214)]) (.cond g213 (.seq (.reg [
oP w215 (pMv g0),
oCall w216 146 [g215],
oP w217 (pMv g0),
oCall w218 146 [g217],
oAlloc w14 24 [zu64, zu64, zu64, zu64],
oAlloc w15 24 [zu64, zu64, zu64, zu64],
oK wZ (bSt 4 g14 g216),
oK wZ (bSt 4 g15 g218)]) (.seq (.reg [
oP w219 (pMv g0),
oCall w220 146 [g219],
oAlloc w16 24 [zu64, zu64, zu64, zu64],
oK wZ (bSt 4 g16 g220)]) (.seq (.reg [
oR w221 (rLoad (some 4) g15),
oR w222 (rLoad (some 4) g16),
oCall w223 95 [g221, g222],
oAlloc w17 24 [zu64, zu64, zu64, zu64],
oK wZ (bSt 4 g17 g223)]) (.seq (.draw [
⟨0, ⟨(some 224), .r (.load (some 4) (.t 17)), none⟩, 0, 0⟩,
⟨1, ⟨(some 225), .r (.load (some 4) (.t 15)), none⟩, 0, 0⟩,
⟨2, ⟨(some 226), .b (.call 86 [(.t 224), (.t 225)]), none⟩, 3, 0⟩,
⟨3, ⟨(some 227), .b (.cmp 5 .int (.t 226) (.c (.w (.s (zi64))))), none⟩, 7, 0⟩,
⟨4, ⟨(some 228), .p (.mv (.t 227)), none⟩, 15, 0⟩,
⟨5, ⟨(some 229), .r (.load (some 4) (.t 17)), some (228, true)⟩, 31, 0⟩,
⟨6, ⟨(some 230), .p (.mv (.t 0)), some (228, true)⟩, 31, 0⟩,
⟨7, ⟨(some 231), .p (.nilCheck (.t 230)), some (228, true)⟩, 95, 0⟩,
⟨8, ⟨(some 232), .p (.faddr 72 (.t 231)), some (228, true)⟩, 223, 0⟩,
⟨9, ⟨(some 233), .r (.load none (.t 232)), some (228, true)⟩, 479, 0⟩,
⟨10, ⟨(some 234), .p (.len (.t 233)), some (228, true)⟩, 991, 0⟩,
⟨11, ⟨(some 235), .b (.call 163 [(.t 234)]), some (228, true)⟩, 2015, 0⟩,
⟨12, ⟨(some 236), .b (.call 86 [(.t 229), (.t 235)]), some (228, true)⟩, 4095, 0⟩,
⟨13, ⟨(some 237), .b (.cmp 3 .int (.t 236) (.c (.w (.s (zi64))))), some (228, true)⟩, 8191, 0⟩,
⟨14, ⟨(some 238), .p (.pick (.t 228) (.t 237) (.c (.w (.s (.bool false))))), none⟩, 16383, 0⟩,
⟨15, ⟨(some 239), .b (.call 111 [(.t 238)]), none⟩, 32767, 0⟩]) (.draw [
⟨0, ⟨(some 240), .p (.mv (.t 0)), none⟩, 0, 0⟩,
⟨1, ⟨(some 241), .r (.load (some 4) (.t 14)), none⟩, 0, 0⟩,
⟨2, ⟨(some 242), .r (.load (some 4) (.t 16)), none⟩, 0, 0⟩,
⟨3, ⟨(some 243), .p (.build [zu64, zu64, zu64, zu64, zu64, zu64, zu64, zu64] [(0, 4, (.t 241)), (4, 4, (.t 242))]), none⟩, 6, 0⟩,
⟨4, ⟨(some 244), .p (.mv (.t 0)), none⟩, 0, 0⟩,
⟨5, ⟨(some 245), .p (.nilCheck (.t 244)), none⟩, 16, 0⟩,
⟨6, ⟨(some 246), .p (.faddr 72 (.t 245)), none⟩, 48, 0⟩,
⟨7, ⟨(some 247), .r (.load none (.t 246)), none⟩, 112, 0⟩,
⟨8, ⟨(some 248), .r (.load (some 4) (.t 15)), none⟩, 0, 0⟩,
⟨9, ⟨(some 249), .b (.call 164 [(.t 240), (.t 243), (.t 247), (.t 248)]), none⟩, 511, 0⟩]))))) (.seq (.reg [
oK w251 (bCmp 0 intEq .eq false g19 (gC (.w (.s (ni64 63))))),
oP w250 (pMv g251)]) (.cond g250 (.seq (.reg [
oP w252 (pMv g0),
oCall w253 160 [g252],
oAlloc w18 30 zz0,
oK wZ (bSt 20 g18 g253)]) (.seq (.reg [
oP w254 (pMv g0),
oR w255 (rLoad (some 20) g18),
oCall w256 161 [g254, g255]]) (.seq (.draw [
⟨0, ⟨(some 257), .p (.mv (.t 0)), none⟩, 0, 0⟩,
⟨1, ⟨(some 258), .p (.nilCheck (.t 257)), none⟩, 1, 0⟩,
⟨2, ⟨(some 259), .p (.faddr 0 (.t 258)), none⟩, 3, 0⟩,
⟨3, ⟨(some 260), .r (.load none (.t 259)), none⟩, 7, 0⟩,
⟨4, ⟨(some 261), .p (.nilCheck (.t 260)), none⟩, 15, 0⟩,
⟨5, ⟨(some 262), .p (.faddr 89 (.t 261)), none⟩, 31, 0⟩,
⟨6, ⟨(some 263), .r (.load none (.t 262)), none⟩, 63, 0⟩,
⟨7, ⟨(some 264), .r (.load (some 20) (.t 18)), none⟩, 0, 0⟩,
⟨8, ⟨(some 265), .b (.call 55 [(.t 263), (.t 264)]), none⟩, 255, 0⟩]) (.cond g265 (.reg [
oP w266 (pMv g0),
oP w267 (pBuild [zu64, zu64, zu64, zu64] []),
oCall w268 120 [g266, g267]]) (.draw [
⟨0, ⟨(some 269), .p (.mv (.t 0)), none⟩, 0, 0⟩,
⟨1, ⟨(some 270), .p (.mv (.t 0)), none⟩, 0, 0⟩,
⟨2, ⟨(some 271), .p (.nilCheck (.t 270)), none⟩, 2, 0⟩,
⟨3, ⟨(some 272), .p (.faddr 0 (.t 271)), none⟩, 6, 0⟩,
⟨4, ⟨(some 273), .r (.load none (.t 272)), none⟩, 14, 0⟩,
⟨5, ⟨(some 274), .p (.nilCheck (.t 273)), none⟩, 30, 0⟩,
⟨6, ⟨(some 275), .p (.faddr 89 (.t 274)), none⟩, 62, 0⟩,
⟨7, ⟨(some 276), .r (.load none (.t 275)), none⟩, 126, 0⟩,
⟨8, ⟨(some 277), .r (.load (some 20) (.t 18)), none⟩, 0, 0⟩,
⟨9, ⟨(some 278), .b (.call 165 [(.t 276), (.t 277)]), none⟩, 510, 0⟩,
⟨10, ⟨(some 279), .b (.call 157 [(.t 278)]), none⟩, 1022, 0⟩,
⟨11, ⟨(some 280), .b (.call 120 [(.t 269), (.t 279)]), none⟩, 2047, 0⟩]))))) (.skip))))))))))))))))))))))))))))))))⟩
theorem fp116 : ∃ fn, fb116 = denF fn ∧ ∃ func code hint, FnOk Go.Proofs.Tryz.prog TT 116 fn func code hint := f2_mk (func := Go.Proofs.Tryz.f116) (code := bodyOf Go.Proofs.Tryz.f116) (hint := hintL [(6, [(0, 0), (1, 0), (2, 0), (3, 0), (4, 0), (5, 0), (6, 0), (7, 0), (8, 0), (9, 0), (10, 0)]), (14, [(0, 0), (1, 0), (2, 0), (3, 0), (4, 0), (5, 0), (12, 3072), (6, 0), (7, 0), (8, 0), (9, 0), (10, 0), (11, 0), (13, 0), (14, 0)]), (24, [(0, 0), (1, 0), (2, 0), (5, 0), (6, 0), (3, 0), (4, 0), (7, 0)]), (32, [(0, 0), (1, 0), (2, 0), (3, 0), (4, 0), (5, 0), (6, 0), (7, 0), (8, 0), (9, 0), (10, 0), (11, 0), (12, 0)]), (37, [(0, 0), (1, 0), (2, 0), (5, 0), (6, 0), (7, 0), (8, 0), (9, 0), (10, 0), (11, 0), (12, 0), (14, 0), (3, 0), (4, 0), (13, 0), (15, 0)]), (44, [(0, 0), (1, 0), (2, 0), (3, 0), (4, 0), (5, 0), (6, 0), (7, 0), (8, 0), (9, 0), (10, 0), (11, 0), (12, 0), (13, 0), (14, 0), (15, 0)]), (45, [(0, 0), (1, 0), (2, 0), (3, 0), (4, 0), (5, 0), (6, 0), (7, 0), (8, 0), (9, 0)]), (49, [(0, 0), (1, 0), (2, 0), (3, 0), (4, 0), (5, 0), (6, 0), (7, 0), (8, 0)]), (51, [(0, 0), (1, 0), (2, 0), (3, 0), (4, 0), (5, 0), (6, 0), (7, 0), (8, 0), (9, 0), (10, 0), (11, 0)])]) (n := 281) (res := []) Go.Proofs.Tryz.func116 Go.Proofs.Tryz.call116 (by kernel_rfl) (by kernel_rfl) (by kernel_rfl) (by kernel_rfl) (by kernel_rfl)
end
end Go.Sy
