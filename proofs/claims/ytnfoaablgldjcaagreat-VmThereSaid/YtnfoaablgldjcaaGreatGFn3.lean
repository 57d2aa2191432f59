/- Functions. -/
import Derived.Test.YtnfoaablgldjcaaGreatGSl
set_option linter.unusedVariables false
set_option maxRecDepth 100000
set_option maxHeartbeats 0
namespace Go.Sy
noncomputable section
/- (*quarry/vm.frame).sends -/
def fb176 : AFunc2 := ⟨145, [], .seq (.reg [
oP w14 (pMv g0),
oCall w15 146 [g14],
oP w16 (pMv g0),
oCall w17 160 [g16],
oAlloc w4 24 [zu64, zu64, zu64, zu64],
oAlloc w5 30 zz0,
oK wZ (bSt 4 g4 g15),
oK wZ (bSt 20 g5 g17)]) (.seq (.reg [
oP w18 (pBuild [zu64, zu64, zu64, zu64] []),
oAlloc w6 24 [zu64, zu64, zu64, zu64],
oK wZ (bSt 4 g6 g18)]) (.seq (.seq (.reg [
oP w19 (pMv g1),
oK w20 (bCmp 0 intEq .eq false g19 (gC (.w (.s (ni64 241))))),
oP w21 (pMv g20),
oGd g21 false w22 (oP w22 (pMv g1)),
oGd g21 false w23 (oK w23 (bCmp 0 intEq .eq false g22 (gC (.w (.s (ni64 242)))))),
oP w24 (pGen fun _ t => opPick t (.t 21) (.c (.w (.s (.bool true)))) (.t 23))]) (.cond g24 (.reg [
oP w25 (pMv g0),
oCall w26 146 [g25],
oK wZ (bSt 4 g6 g26)]) (.skip))) (.seq (.reg [
oP w27 (pMv g0),
oCall w28 153 [g27],
oP w29 (pMv g0),
oCall w30 153 [g29],
oAlloc w7 225 [zu64, zu64, zu64, zu64, zu64, zu64, zu64, zu64],
oAlloc w8 225 [zu64, zu64, zu64, zu64, zu64, zu64, zu64, zu64],
oK wZ (bSt 8 g7 g28),
oK wZ (bSt 8 g8 g30)]) (.seq (.reg [
oR w31 (rLoad (some 4) g6),
oP w32 (pBuild [zu64, zu64, zu64, zu64] []),
oK w33 (b2 (fun x y s K => cmpA 1 (.agg (.one (.arr 4 22 .u64))) x y s fun b s => K (vBool b) s) g31 g32),
oP w9 (pMv g33)]) (.seq (.reg [
oP w34 (pMv g0),
oR w35 (rLoad (some 8) g7),
oR w36 (rLoad (some 8) g8),
oM w37 (.bslice 225 2 [zu64, zu64, zu64, zu64, zu64, zu64, zu64, zu64] [(0, 8, (.t 35)), (8, 8, (.t 36))]),
oCall w38 156 [g34, g37]]) (.seq (.reg [
oP w39 (pMv g0),
oR w40 (rLoad (some 20) g5),
oCall w41 161 [g39, g40]]) (.seq (.seq (.reg [
oP w42 (pMv g9)]) (.cond g42 (.reg [
oP w43 (pMv g0),
oCall w44 113 [g43, (gC (.w (.s (nu64 9000))))]]) (.skip))) (.seq (.seq (.reg [
oP w45 (pMv g1),
oK w46 (bCmp 0 intEq .eq false g45 (gC (.w (.s (ni64 241))))),
oP w47 (pMv g46),
oGd g47 true w48 (oP w48 (pMv g0)),
oGd g47 true w49 (oR w49 (rLoad (some 20) g5)),
oGd g47 true w50 (oP w50 (pMv g9)),
oGd g47 true w51 (oCall w51 213 [g48, g49, g50]),
oP w52 (pGen fun _ t => opPick t (.t 47) (.t 51) (.c (.w (.s (.bool false)))))]) (.cond g52 (.reg [
oP w53 (pMv g0),
oCall w54 113 [g53, (gC (.w (.s (nu64 25000))))]]) (.skip))) (.seq (.draw [
⟨0, ⟨(some 56), .p (.mv (.t 0)), none⟩, 0, 0⟩,
⟨1, ⟨(some 57), .p (.nilCheck (.t 56)), none⟩, 1, 0⟩,
⟨2, ⟨(some 58), .p (.faddr 0 (.t 57)), none⟩, 3, 0⟩,
⟨3, ⟨(some 59), .r (.load none (.t 58)), none⟩, 7, 0⟩,
⟨4, ⟨(some 60), .p (.nilCheck (.t 59)), none⟩, 15, 0⟩,
⟨5, ⟨(some 61), .p (.faddr 1 (.t 60)), none⟩, 31, 0⟩,
⟨6, ⟨(some 62), .r (.load (some 26) (.t 61)), none⟩, 63, 0⟩,
⟨7, ⟨(some 63), .p (.mv (.t 0)), none⟩, 0, 0⟩,
⟨8, ⟨(some 64), .p (.nilCheck (.t 63)), none⟩, 128, 0⟩,
⟨9, ⟨(some 65), .p (.faddr 1 (.t 64)), none⟩, 384, 0⟩,
⟨10, ⟨(some 66), .p (.faddr 65 (.t 65)), none⟩, 896, 0⟩,
⟨11, ⟨(some 67), .r (.load none (.t 66)), none⟩, 1920, 0⟩,
⟨12, ⟨(some 68), .r (.load (some 4) (.t 4)), none⟩, 0, 0⟩,
⟨13, ⟨(some 69), .b (.call 17 [(.t 62), (.t 67), (.t 68)]), none⟩, 8191, 0⟩,
⟨14, ⟨(some 55), .p (.mv (.t 69)), none⟩, 16383, 0⟩,
⟨15, ⟨(some 70), .p (.ext (.t 55) 0), none⟩, 32767, 0⟩,
⟨16, ⟨(some 71), .p (.ext (.t 55) 1), none⟩, 32767, 0⟩,
⟨17, ⟨(some 10), .p (.mv (.t 70)), none⟩, 65535, 0⟩,
⟨18, ⟨(some 11), .p (.mv (.t 71)), none⟩, 262143, 0⟩]) (.seq (.reg [
oP w72 (pMv g11),
oCall w73 111 [g72]]) (.seq (.reg [
oP w74 (pMv g0),
oP w75 (pMv g10),
oCall w76 113 [g74, g75]]) (.seq (.seq (.reg [
oP w77 (pMv g9)]) (.cond g77 (.reg [
oP w78 (pMv g10),
oP w79 (pAr 0 g78 (gC (.w (.s (nu64 2300))))),
oP w10 (pMv g79)]) (.skip))) (.seq (.draw [
⟨0, ⟨(some 80), .p (.mv (.t 0)), none⟩, 0, 0⟩,
⟨1, ⟨(some 81), .p (.nilCheck (.t 80)), none⟩, 1, 0⟩,
⟨2, ⟨(some 82), .p (.faddr 1 (.t 81)), none⟩, 3, 0⟩,
⟨3, ⟨(some 83), .p (.faddr 20 (.t 82)), none⟩, 7, 0⟩,
⟨4, ⟨(some 84), .r (.load (some 20) (.t 83)), none⟩, 15, 0⟩,
⟨5, ⟨(some 85), .r (.load (some 20) (.t 5)), none⟩, 0, 0⟩,
⟨6, ⟨(some 86), .r (.load (some 20) (.t 5)), none⟩, 0, 0⟩,
⟨7, ⟨(some 87), .r (.load (some 4) (.t 6)), none⟩, 0, 0⟩,
⟨8, ⟨(some 88), .p (.mv (.t 0)), none⟩, 0, 0⟩,
⟨9, ⟨(some 89), .r (.load (some 8) (.t 7)), none⟩, 0, 0⟩,
⟨12, ⟨(some 92), .p (.mv (.t 10)), none⟩, 0, 0⟩,
⟨13, ⟨(some 93), .p (.mv (.t 0)), none⟩, 0, 0⟩,
⟨14, ⟨(some 94), .p (.nilCheck (.t 93)), none⟩, 8192, 0⟩,
⟨15, ⟨(some 95), .p (.faddr 1 (.t 94)), none⟩, 24576, 0⟩,
⟨16, ⟨(some 96), .p (.faddr 66 (.t 95)), none⟩, 57344, 0⟩,
⟨17, ⟨(some 97), .r (.load none (.t 96)), none⟩, 122880, 0⟩,
⟨18, ⟨(some 98), .p (.mv (.t 0)), none⟩, 0, 0⟩,
⟨19, ⟨(some 99), .p (.nilCheck (.t 98)), none⟩, 262144, 0⟩,
⟨20, ⟨(some 100), .p (.faddr 1 (.t 99)), none⟩, 786432, 0⟩,
⟨21, ⟨(some 101), .p (.faddr 67 (.t 100)), none⟩, 1835008, 0⟩,
⟨22, ⟨(some 102), .r (.load none (.t 101)), none⟩, 3932160, 0⟩,
⟨23, ⟨(some 103), .p (.ar 0 (.t 102) (.c (.w (.s (ni64 1))))), none⟩, 8126464, 0⟩,
⟨25, ⟨(some 12), .m (.alloc 129 [zu8, zu8, zu8, zu8, zu8, zu8, zu8, zu8, zu8, zu8, zu8, zu8, zu8, zu8, zu8, zu8, zu8, zu8, zu8, zu8, zu8, zu8, zu8, zu8, zu8, zu8, zu8, zu8, zu8, zu8, zu8, zu8, zu8, zu8, zu8, zu8, zu8, zu8, zu8, zu8, zu8, zu8, zu8, zu8, zu8, zu8, zu8, zu8, zu8, zu8, zu8, zu8, zu8, zu8, zu8, zu8, zu8, zu8, zu8, zu8, zu64, zu64, zu64, zu64, .nils, zu64, .bool false, zi64]), none⟩, 0, 2048⟩,
⟨10, ⟨(some 90), .b (.call 158 [(.t 88), (.t 89)]), none⟩, 768, 0⟩,
⟨11, ⟨(some 91), .b (.append 5 1 1 (.c (.w (.s (.nils)))) (.t 90)), none⟩, 1792, 0⟩,
⟨24, ⟨(some 104), .p (.build [zu8, zu8, zu8, zu8, zu8, zu8, zu8, zu8, zu8, zu8, zu8, zu8, zu8, zu8, zu8, zu8, zu8, zu8, zu8, zu8, zu8, zu8, zu8, zu8, zu8, zu8, zu8, zu8, zu8, zu8, zu8, zu8, zu8, zu8, zu8, zu8, zu8, zu8, zu8, zu8, zu8, zu8, zu8, zu8, zu8, zu8, zu8, zu8, zu8, zu8, zu8, zu8, zu8, zu8, zu8, zu8, zu8, zu8, zu8, zu8, zu64, zu64, zu64, zu64, .nils, zu64, .bool false, zi64] [(0, 20, (.t 84)), (20, 20, (.t 85)), (40, 20, (.t 86)), (60, 4, (.t 87)), (64, 1, (.t 91)), (65, 1, (.t 92)), (66, 1, (.t 97)), (67, 1, (.t 103))]), none⟩, 16777215, 0⟩,
⟨26, ⟨none, .b (.store 68 (.t 12) (.t 104)), none⟩, 67108863, 0⟩]) (.seq (.reg [
oP w105 (pMv g10),
oCall w106 64 [g105],
oAlloc w13 131 [zi64, .nils, zu64, zu8, zu8, zu8, zu8, zu8, zu8, zu8, zu8, zu8, zu8, zu8, zu8, zu8, zu8, zu8, zu8, zu8, zu8, zu8, zu8],
oK wZ (bSt 23 g13 g106)]) (.seq (.seq (.reg [
oP w107 (pMv g0),
oP w108 (pGen fun _ t => opNil t (.t 107)),
oP w109 (pFaddr 1 g108),
oP w110 (pFaddr 67 g109),
oR w111 (rLoad none g110),
oK w112 (bCmp 2 lLt cGe true g111 (gC (.w (.s (ni64 1024)))))]) (.cond g112 (.reg [
oP w113 (pMv g0),
oP w114 (pMv g1),
oR w115 (rLoad (some 68) g12),
oCall w116 216 [g113, g114, g115],
oK wZ (bSt 23 g13 g116)]) (.skip))) (.seq (.draw [
⟨0, ⟨(some 117), .p (.mv (.t 0)), none⟩, 0, 0⟩,
⟨1, ⟨(some 118), .p (.nilCheck (.t 117)), none⟩, 1, 0⟩,
⟨2, ⟨(some 119), .p (.faddr 1 (.t 118)), none⟩, 3, 0⟩,
⟨3, ⟨(some 120), .p (.faddr 65 (.t 119)), none⟩, 7, 0⟩,
⟨4, ⟨(some 121), .r (.load none (.t 120)), none⟩, 15, 0⟩,
⟨5, ⟨(some 122), .p (.faddr 2 (.t 13)), none⟩, 0, 0⟩,
⟨6, ⟨(some 123), .r (.load none (.t 122)), none⟩, 32, 0⟩,
⟨7, ⟨(some 124), .p (.ar 0 (.t 121) (.t 123)), none⟩, 127, 0⟩,
⟨8, ⟨(some 125), .p (.nilCheck (.t 117)), none⟩, 255, 0⟩,
⟨9, ⟨(some 126), .p (.faddr 1 (.t 125)), none⟩, 511, 0⟩,
⟨10, ⟨(some 127), .p (.faddr 65 (.t 126)), none⟩, 1023, 0⟩,
⟨11, ⟨none, .b (.store 1 (.t 127) (.t 124)), none⟩, 2047, 0⟩]) (.seq (.reg [
oP w128 (pMv g0),
oP w129 (pFaddr 1 g13),
oR w130 (rLoad none g129),
oP w131 (pGen fun _ t => opNil t (.t 128)),
oP w132 (pFaddr 72 g131),
oK wZ (bSt 1 g132 g130)]) (.seq (.draw [
⟨0, ⟨(some 133), .p (.mv (.t 0)), none⟩, 0, 0⟩,
⟨1, ⟨(some 134), .r (.load (some 8) (.t 8)), none⟩, 0, 0⟩,
⟨3, ⟨(some 136), .p (.faddr 1 (.t 13)), none⟩, 0, 0⟩,
⟨4, ⟨(some 137), .r (.load none (.t 136)), none⟩, 8, 0⟩,
⟨2, ⟨(some 135), .b (.call 158 [(.t 133), (.t 134)]), none⟩, 3, 0⟩,
⟨5, ⟨(some 138), .b (.copy 1 (.t 135) (.t 137)), none⟩, 31, 0⟩]) (.reg [
oP w139 (pMv g0),
oP w140 (pFaddr 0 g13),
oR w141 (rLoad none g140),
oK w142 (bCmp 0 intEq .eq false g141 (gC (.w (.s (zi64))))),
oCall w143 149 [g142],
oCall w144 120 [g139, g143]])))))))))))))))))))⟩
theorem fp176 : ∃ fn, fb176 = denF fn ∧ ∃ func code hint, FnOk Go.Proofs.Tryz.prog TT 176 fn func code hint := f2_mk (func := Go.Proofs.Tryz.f176) (code := bodyOf Go.Proofs.Tryz.f176) (hint := hintL [(12, [(0, 0), (1, 0), (2, 0), (3, 0), (4, 0), (5, 0), (6, 0), (7, 0), (8, 0), (9, 0), (10, 0), (11, 0), (12, 0), (13, 0), (14, 0), (15, 0), (16, 0), (17, 0), (18, 0)]), (17, [(0, 0), (1, 0), (2, 0), (3, 0), (4, 0), (5, 0), (6, 0), (7, 0), (8, 0), (9, 0), (12, 0), (13, 0), (14, 0), (15, 0), (16, 0), (17, 0), (18, 0), (19, 0), (20, 0), (21, 0), (22, 0), (23, 0), (25, 2048), (10, 0), (11, 0), (24, 0), (26, 0)]), (21, [(0, 0), (1, 0), (2, 0), (3, 0), (4, 0), (5, 0), (6, 0), (7, 0), (8, 0), (9, 0), (10, 0), (11, 0)]), (23, [(0, 0), (1, 0), (3, 0), (4, 0), (2, 0), (5, 0)])]) (n := 145) (res := []) Go.Proofs.Tryz.func176 Go.Proofs.Tryz.call176 (by kernel_rfl) (by kernel_rfl) (by kernel_rfl) (by kernel_rfl) (by kernel_rfl)
/- (*quarry/hash.lanes).permute -/
def fb177 : AFunc2 := ⟨23, [], .seq (.reg [
oCall w4 217 [],
oP w5 (pMv (gC (.w (.s (zi64)))))]) (.block 0 (.loop (.seq (.reg [
oK w6 (bCmp 2 lLt cGe true g5 (gC (.w (.s (ni64 24)))))]) (.seq (.cond g6 (.skip) (.exit 0)) (.seq (.block 1 (.seq (.reg [
oP w7 (pIndex none 24 1 g4 g5),
oP w3 (pMv g7)]) (.seq (.reg [
oP w8 (pMv g0),
oCall w9 218 [g8]]) (.seq (.reg [
oP w10 (pMv g0),
oCall w11 219 [g10]]) (.seq (.reg [
oP w12 (pMv g0),
oCall w13 220 [g12]]) (.draw [
⟨0, ⟨(some 14), .p (.mv (.t 0)), none⟩, 0, 0⟩,
⟨1, ⟨(some 15), .p (.nilCheck (.t 14)), none⟩, 1, 0⟩,
⟨2, ⟨(some 16), .p (.iaddrA 25 1 (.t 15) (.c (.w (.s (zi64))))), none⟩, 3, 0⟩,
⟨3, ⟨(some 17), .r (.load none (.t 16)), none⟩, 7, 0⟩,
⟨4, ⟨(some 18), .p (.mv (.t 3)), none⟩, 0, 0⟩,
⟨5, ⟨(some 19), .p (.bt 2 (.t 17) (.t 18)), none⟩, 31, 0⟩,
⟨6, ⟨(some 20), .p (.nilCheck (.t 14)), none⟩, 1, 0⟩,
⟨7, ⟨(some 21), .p (.iaddrA 25 1 (.t 20) (.c (.w (.s (zi64))))), none⟩, 127, 0⟩,
⟨8, ⟨none, .b (.store 1 (.t 21) (.t 19)), none⟩, 255, 0⟩])))))) (.reg [
oP w22 (pAr 0 g5 (gC (.w (.s (ni64 1))))),
oP w5 (pMv g22)]))))))⟩
theorem fp177 : ∃ fn, fb177 = denF fn ∧ ∃ func code hint, FnOk Go.Proofs.Tryz.prog TT 177 fn func code hint := f2_mk (func := Go.Proofs.Tryz.f177) (code := bodyOf Go.Proofs.Tryz.f177) (hint := hintL [(6, [(0, 0), (1, 0), (2, 0), (3, 0), (4, 0), (5, 0), (6, 0), (7, 0), (8, 0)])]) (n := 23) (res := []) Go.Proofs.Tryz.func177 Go.Proofs.Tryz.call177 (by kernel_rfl) (by kernel_rfl) (by kernel_rfl) (by kernel_rfl) (by kernel_rfl)
/- quarry/rlp.head -/
def fb178 : AFunc2 := ⟨26, [.tmp g4], .seq (.reg [
oP w4 (pMv (gC (.w (.s (.nils)))))]) (.seq (.seq (.reg [
oP w6 (pMv g1),
oK w7 (bCmp 3 intLe .le false g6 (gC (.w (.s (ni64 55)))))]) (.cond g7 (.seq (.reg [
oP w8 (pMv g0),
oP w9 (pMv g1),
oP w10 (pAr 0 g8 g9),
oP w11 (pConv .u8 g10),
oM w12 (.bslice 5 1 [zu8] [(0, 1, (.t 11))]),
oP w4 (pMv g12)]) (.ret)) (.skip))) (.seq (.reg [
oP w13 (pMv g1),
oP w14 (pConv .u64 g13),
oM w15 (.bslice 22 1 [zu64] [(0, 1, (.t 14))]),
oCall w16 221 [g15],
oP w5 (pMv g16)]) (.seq (.reg [
oP w17 (pMv g0),
oP w18 (pAr 0 g17 (gC (.w (.s (ni64 55))))),
oP w19 (pMv g5),
oP w20 (pGen fun _ t => opLen t (.t 19)),
oP w21 (pAr 0 g18 g20),
oP w22 (pConv .u8 g21),
oM w23 (.bslice 5 1 [zu8] [(0, 1, (.t 22))]),
oP w24 (pMv g5),
oK w25 (b2 (bAppend 5 1 1) g23 g24),
oP w4 (pMv g25)]) (.ret))))⟩
theorem fp178 : ∃ fn, fb178 = denF fn ∧ ∃ func code hint, FnOk Go.Proofs.Tryz.prog TT 178 fn func code hint := f2_mk (func := Go.Proofs.Tryz.f178) (code := bodyOf Go.Proofs.Tryz.f178) (hint := hintL []) (n := 26) (res := [.tmp 4]) Go.Proofs.Tryz.func178 Go.Proofs.Tryz.call178 (by kernel_rfl) (by kernel_rfl) (by kernel_rfl) (by kernel_rfl) (by kernel_rfl)
/- quarry/word.Bits -/
def fb179 : AFunc2 := ⟨19, [.tmp g2], .seq (.reg [
oBox w1 24 g0,
oP w2 (pMv (gC (.w (.s (zi64)))))]) (.seq (.seq (.reg [
oP w3 (pMv (gC (.w (.s (ni64 3)))))]) (.block 0 (.loop (.seq (.seq (.reg [
oP w4 (pMv g3),
oK w5 (bCmp 5 gLe cGe false g4 (gC (.w (.s (zi64)))))]) (.cond g5 (.skip) (.exit 0))) (.seq (.block 1 (.seq (.reg [
oP w8 (pMv g3),
oP w9 (pIaddrA 4 1 g1 g8),
oR w10 (rLoad none g9),
oK w11 (bCmp 1 nEq .eq true g10 (gC (.w (.s (zu64)))))]) (.cond g11 (.seq (.reg [
oP w12 (pMv g3),
oP w13 (pAr 2 (gC (.w (.s (ni64 64)))) g12),
oP w14 (pMv g3),
oP w15 (pIaddrA 4 1 g1 g14),
oR w16 (rLoad none g15),
oCall w17 222 [g16],
oP w18 (pAr 0 g13 g17),
oP w2 (pMv g18)]) (.ret)) (.skip)))) (.reg [
oP w6 (pMv g3),
oP w7 (pAr 1 g6 (gC (.w (.s (ni64 1))))),
oP w3 (pMv g7)])))))) (.seq (.reg [
oP w2 (pMv (gC (.w (.s (zi64)))))]) (.ret)))⟩
theorem fp179 : ∃ fn, fb179 = denF fn ∧ ∃ func code hint, FnOk Go.Proofs.Tryz.prog TT 179 fn func code hint := f2_mk (func := Go.Proofs.Tryz.f179) (code := bodyOf Go.Proofs.Tryz.f179) (hint := hintL []) (n := 19) (res := [.tmp 2]) Go.Proofs.Tryz.func179 Go.Proofs.Tryz.call179 (by kernel_rfl) (by kernel_rfl) (by kernel_rfl) (by kernel_rfl) (by kernel_rfl)
/- quarry/pre.Price -/
def fb180 : AFunc2 := ⟨86, [.tmp g6, .tmp g7], .seq (.reg [
oP w6 (pMv (gC (.w (.s (zu64))))),
oP w7 (pMv (gC (.w (.s (zi64)))))]) (.seq (.seq (.reg [
oP w12 (pMv g1),
oK w13 (bCmp 2 lLt cGe true g12 (gC (.w (.s (ni64 1))))),
oP w14 (pMv g13),
oGd g14 false w15 (oP w15 (pMv g1)),
oGd g14 false w16 (oK w16 (bCmp 4 nLe .le true g15 (gC (.w (.s (ni64 10)))))),
oP w17 (pGen fun _ t => opPick t (.t 14) (.c (.w (.s (.bool true)))) (.t 16)),
oP w18 (pMv g17),
oGd g18 false w19 (oP w19 (pMv g0)),
oGd g18 false w20 (oP w20 (pMv g1)),
oGd g18 false w21 (oP w21 (pConv .u8 g20)),
oGd g18 false w22 (oP w22 (pBuild zz0 [(19, 1, g21)])),
oGd g18 false w23 (oCall w23 80 [g19, g22]),
oGd g18 false w24 (oP w24 (pMv g1)),
oGd g18 false w25 (oK w25 (bCmp 1 nEq .eq true g23 g24)),
oP w26 (pGen fun _ t => opPick t (.t 18) (.c (.w (.s (.bool true)))) (.t 25))]) (.cond g26 (.seq (.reg [
oP w6 (pMv (gC (.w (.s (zu64))))),
oP w7 (pMv (gC (.w (.s (ni64 1)))))]) (.ret)) (.skip))) (.seq (.reg [
oP w27 (pMv g2),
oP w28 (pGen fun _ t => opLen t (.t 27)),
oP w29 (pAr 0 g28 (gC (.w (.s (ni64 32))))),
oP w30 (pAr 1 g29 (gC (.w (.s (ni64 1))))),
oP w31 (pGen fun φ t => opDv φ t (.t 30) (.c (.w (.s (ni64 32))))),
oP w8 (pMv g31)]) (.seq (.reg [
oP w32 (pMv g0),
oK w33 (bCmp 5 gLe cGe false g32 (gC (.w (.s (ni64 7))))),
oAlloc w9 4 [.bool false],
oK wZ (bSt 1 g9 g33)]) (.seq (.reg [
oP w34 (pGen fun _ t => opMkfn t 223 [(.t 9)]),
oP w10 (pMv g34)]) (.seq (.reg [
oP w11 (pMv (gC (.w (.s (zu64)))))]) (.seq (.seq (.reg [
oP w35 (pMv g1)]) (.block 0 (.seq (.reg [
oK w37 (bCmp 0 intEq .eq false g35 (gC (.w (.s (ni64 1))))),
oP w36 (pMv g37)]) (.cond g36 (.reg [
oP w11 (pMv (gC (.w (.s (nu64 3000)))))]) (.seq (.reg [
oK w39 (bCmp 0 intEq .eq false g35 (gC (.w (.s (ni64 2))))),
oP w38 (pMv g39)]) (.cond g38 (.reg [
oP w40 (pMv g8),
oCall w41 224 [(gC (.w (.s (nu64 60)))), (gC (.w (.s (nu64 12)))), g40],
oP w11 (pMv g41)]) (.seq (.reg [
oK w43 (bCmp 0 intEq .eq false g35 (gC (.w (.s (ni64 3))))),
oP w42 (pMv g43)]) (.cond g42 (.reg [
oP w44 (pMv g8),
oCall w45 224 [(gC (.w (.s (nu64 600)))), (gC (.w (.s (nu64 120)))), g44],
oP w11 (pMv g45)]) (.seq (.reg [
oK w47 (bCmp 0 intEq .eq false g35 (gC (.w (.s (ni64 4))))),
oP w46 (pMv g47)]) (.cond g46 (.reg [
oP w48 (pMv g8),
oCall w49 224 [(gC (.w (.s (nu64 15)))), (gC (.w (.s (nu64 3)))), g48],
oP w11 (pMv g49)]) (.seq (.reg [
oK w51 (bCmp 0 intEq .eq false g35 (gC (.w (.s (ni64 5))))),
oP w50 (pMv g51)]) (.cond g50 (.reg [
oP w52 (pMv g2),
oCall w53 225 [g52],
oP w54 (pMv g0),
oK w55 (bCmp 5 gLe cGe false g54 (gC (.w (.s (ni64 9))))),
oCall w56 226 [g53, g55],
oP w11 (pMv g56)]) (.seq (.reg [
oK w58 (bCmp 0 intEq .eq false g35 (gC (.w (.s (ni64 6))))),
oP w57 (pMv g58)]) (.cond g57 (.reg [
oP w59 (pMv g10),
oCallv w60 g59 [(gC (.w (.s (nu64 150)))), (gC (.w (.s (nu64 500))))],
oP w11 (pMv g60)]) (.seq (.reg [
oK w62 (bCmp 0 intEq .eq false g35 (gC (.w (.s (ni64 7))))),
oP w61 (pMv g62)]) (.cond g61 (.reg [
oP w63 (pMv g10),
oCallv w64 g63 [(gC (.w (.s (nu64 6000)))), (gC (.w (.s (nu64 40000))))],
oP w11 (pMv g64)]) (.seq (.reg [
oK w66 (bCmp 0 intEq .eq false g35 (gC (.w (.s (ni64 8))))),
oP w65 (pMv g66)]) (.cond g65 (.reg [
oP w67 (pMv g10),
oCallv w68 g67 [(gC (.w (.s (nu64 45000)))), (gC (.w (.s (nu64 100000))))],
oP w69 (pMv g10),
oCallv w70 g69 [(gC (.w (.s (nu64 34000)))), (gC (.w (.s (nu64 80000))))],
oP w71 (pMv g2),
oP w72 (pGen fun _ t => opLen t (.t 71)),
oP w73 (pGen fun φ t => opDv φ t (.t 72) (.c (.w (.s (ni64 192))))),
oCall w74 224 [g68, g70, g73],
oP w11 (pMv g74)]) (.seq (.reg [
oK w76 (bCmp 0 intEq .eq false g35 (gC (.w (.s (ni64 9))))),
oP w75 (pMv g76)]) (.cond g75 (.seq (.reg [
oP w77 (pMv g2),
oP w78 (pGen fun _ t => opLen t (.t 77)),
oK w79 (bCmp 0 intEq .eq false g78 (gC (.w (.s (ni64 213)))))]) (.cond g79 (.reg [
oP w80 (pMv g2),
oP w81 (pGen fun _ t => opSlice t 1 (.t 80) none (some (.c (.w (.s (ni64 4)))))),
oCall w82 227 [g81],
oP w11 (pMv g82)]) (.skip))) (.seq (.reg [
oK w84 (bCmp 0 intEq .eq false g35 (gC (.w (.s (ni64 10))))),
oP w83 (pMv g84)]) (.cond g83 (.reg [
oP w11 (pMv (gC (.w (.s (nu64 50000)))))]) (.skip))))))))))))))))))))))) (.seq (.reg [
oP w85 (pMv g11),
oP w6 (pMv g85),
oP w7 (pMv (gC (.w (.s (zi64)))))]) (.ret))))))))⟩
theorem fp180 : ∃ fn, fb180 = denF fn ∧ ∃ func code hint, FnOk Go.Proofs.Tryz.prog TT 180 fn func code hint := f2_mk (func := Go.Proofs.Tryz.f180) (code := bodyOf Go.Proofs.Tryz.f180) (hint := hintL []) (n := 86) (res := [.tmp 6, .tmp 7]) Go.Proofs.Tryz.func180 Go.Proofs.Tryz.call180 (by kernel_rfl) (by kernel_rfl) (by kernel_rfl) (by kernel_rfl) (by kernel_rfl)
/- quarry/pre.copied -/
def fb184 : AFunc2 := ⟨6, [.tmp g2, .tmp g3], .seq (.reg [
oP w2 (pMv (gC (.w (.s (.nils))))),
oP w3 (pMv (gC (.w (.s (.bool false)))))]) (.seq (.reg [
oP w4 (pMv g0),
oCall w5 234 [g4],
oP w2 (pMv g5),
oP w3 (pMv (gC (.w (.s (.bool true)))))]) (.ret))⟩
theorem fp184 : ∃ fn, fb184 = denF fn ∧ ∃ func code hint, FnOk Go.Proofs.Tryz.prog TT 184 fn func code hint := f2_mk (func := Go.Proofs.Tryz.f184) (code := bodyOf Go.Proofs.Tryz.f184) (hint := hintL []) (n := 6) (res := [.tmp 2, .tmp 3]) Go.Proofs.Tryz.func184 Go.Proofs.Tryz.call184 (by kernel_rfl) (by kernel_rfl) (by kernel_rfl) (by kernel_rfl) (by kernel_rfl)
/- quarry/word.Wide -/
def fb191 : AFunc2 := ⟨72, [.cell (rLoad (some 4) g4), .cell (rLoad (some 4) g5)], .seq (.reg [
oBox w2 24 g0,
oBox w3 24 g1,
oAlloc w4 24 [zu64, zu64, zu64, zu64],
oAlloc w5 24 [zu64, zu64, zu64, zu64]]) (.seq (.reg [
oAlloc w6 312 [zu64, zu64, zu64, zu64, zu64, zu64, zu64, zu64]]) (.seq (.seq (.reg [
oR w15 (rLoad (some 4) g2),
oP w16 (pMv (gC (.w (.s (zi64)))))]) (.block 0 (.loop (.seq (.reg [
oK w17 (bCmp 2 lLt cGe true g16 (gC (.w (.s (ni64 4)))))]) (.seq (.cond g17 (.skip) (.exit 0)) (.seq (.block 1 (.seq (.reg [
oP w18 (pMv g16),
oP w19 (pIndex none 4 1 g15 g16),
oP w7 (pMv g18),
oP w8 (pMv g19)]) (.seq (.reg [
oP w9 (pMv (gC (.w (.s (zu64)))))]) (.seq (.seq (.reg [
oR w20 (rLoad (some 4) g3),
oP w21 (pMv (gC (.w (.s (zi64)))))]) (.block 2 (.loop (.seq (.reg [
oK w22 (bCmp 2 lLt cGe true g21 (gC (.w (.s (ni64 4)))))]) (.seq (.cond g22 (.skip) (.exit 2)) (.seq (.block 3 (.seq (.reg [
oP w23 (pMv g21),
oP w24 (pIndex none 4 1 g20 g21),
oP w10 (pMv g23),
oP w11 (pMv g24)]) (.seq (.reg [
oP w26 (pMv g8),
oP w27 (pMv g11),
oCall w28 253 [g26, g27],
oP w25 (pMv g28),
oP w29 (pExt g25 0),
oP w30 (pExt g25 1),
oP w12 (pMv g29),
oP w13 (pMv g30)]) (.seq (.reg [
oP w14 (pMv (gC (.w (.s (zu64)))))]) (.seq (.reg [
oP w32 (pMv g13),
oP w33 (pMv g7),
oP w34 (pMv g10),
oP w35 (pAr 0 g33 g34),
oP w36 (pIaddrA 8 1 g6 g35),
oR w37 (rLoad none g36),
oCall w38 129 [g32, g37, (gC (.w (.s (zu64))))],
oP w31 (pMv g38),
oP w39 (pExt g31 0),
oP w40 (pExt g31 1),
oP w13 (pMv g39),
oP w14 (pMv g40)]) (.seq (.reg [
oP w41 (pMv g12),
oP w42 (pMv g14),
oP w43 (pAr 0 g41 g42),
oP w12 (pMv g43)]) (.seq (.reg [
oP w45 (pMv g13),
oP w46 (pMv g9),
oCall w47 129 [g45, g46, (gC (.w (.s (zu64))))],
oP w44 (pMv g47),
oP w48 (pExt g44 0),
oP w49 (pExt g44 1),
oP w13 (pMv g48),
oP w14 (pMv g49)]) (.reg [
oP w50 (pMv g7),
oP w51 (pMv g10),
oP w52 (pAr 0 g50 g51),
oP w53 (pMv g13),
oP w54 (pMv g12),
oP w55 (pMv g14),
oP w56 (pAr 0 g54 g55),
oP w57 (pIaddrA 8 1 g6 g52),
oK wZ (bSt 1 g57 g53),
oP w9 (pMv g56)])))))))) (.reg [
oP w58 (pAr 0 g21 (gC (.w (.s (ni64 1))))),
oP w21 (pMv g58)]))))))) (.reg [
oP w59 (pMv g7),
oP w60 (pAr 0 g59 (gC (.w (.s (ni64 4))))),
oP w61 (pMv g9),
oP w62 (pIaddrA 8 1 g6 g60),
oK wZ (bSt 1 g62 g61)]))))) (.reg [
oP w63 (pAr 0 g16 (gC (.w (.s (ni64 1))))),
oP w16 (pMv g63)]))))))) (.seq (.draw [
⟨0, ⟨(some 64), .p (.aslice 4 1 (.t 5) none none), none⟩, 0, 0⟩,
⟨1, ⟨(some 65), .p (.aslice 8 1 (.t 6) none (some (.c (.w (.s (ni64 4)))))), none⟩, 0, 0⟩,
⟨2, ⟨(some 66), .b (.copy 1 (.t 64) (.t 65)), none⟩, 3, 0⟩]) (.seq (.draw [
⟨0, ⟨(some 67), .p (.aslice 4 1 (.t 4) none none), none⟩, 0, 0⟩,
⟨1, ⟨(some 68), .p (.aslice 8 1 (.t 6) (some (.c (.w (.s (ni64 4))))) none), none⟩, 0, 0⟩,
⟨2, ⟨(some 69), .b (.copy 1 (.t 67) (.t 68)), none⟩, 3, 0⟩]) (.seq (.reg [
oR w70 (rLoad (some 4) g4),
oR w71 (rLoad (some 4) g5),
oK wZ (bSt 4 g4 g70),
oK wZ (bSt 4 g5 g71)]) (.ret))))))⟩
theorem fp191 : ∃ fn, fb191 = denF fn ∧ ∃ func code hint, FnOk Go.Proofs.Tryz.prog TT 191 fn func code hint := f2_mk (func := Go.Proofs.Tryz.f191) (code := bodyOf Go.Proofs.Tryz.f191) (hint := hintL [(18, [(0, 0), (1, 0), (2, 0)]), (19, [(0, 0), (1, 0), (2, 0)])]) (n := 72) (res := [.cell 4 (some 4), .cell 5 (some 4)]) Go.Proofs.Tryz.func191 Go.Proofs.Tryz.call191 (by kernel_rfl) (by kernel_rfl) (by kernel_rfl) (by kernel_rfl) (by kernel_rfl)
/- quarry/word.divmod -/
def fb192 : AFunc2 := ⟨16, [.cell (rLoad (some 4) g4), .cell (rLoad (some 4) g5)], .seq (.reg [
oBox w2 24 g0,
oBox w3 24 g1,
oAlloc w4 24 [zu64, zu64, zu64, zu64],
oAlloc w5 24 [zu64, zu64, zu64, zu64]]) (.seq (.seq (.reg [
oR w6 (rLoad (some 4) g3),
oP w7 (pBuild [zu64, zu64, zu64, zu64] []),
oK w8 (b2 (fun x y s K => cmpA 0 (.agg (.one (.arr 4 22 .u64))) x y s fun b s => K (vBool b) s) g6 g7)]) (.cond g8 (.seq (.reg [
oP w9 (pBuild [zu64, zu64, zu64, zu64] []),
oP w10 (pBuild [zu64, zu64, zu64, zu64] []),
oK wZ (bSt 4 g4 g9),
oK wZ (bSt 4 g5 g10)]) (.ret)) (.skip))) (.seq (.draw [
⟨0, ⟨(some 11), .p (.aslice 4 1 (.t 2) none none), none⟩, 0, 0⟩,
⟨1, ⟨(some 12), .p (.aslice 4 1 (.t 3) none none), none⟩, 0, 0⟩,
⟨2, ⟨(some 13), .b (.call 197 [(.t 11), (.t 12)]), none⟩, 3, 0⟩,
⟨3, ⟨(some 14), .p (.ext (.t 13) 0), none⟩, 7, 0⟩,
⟨4, ⟨(some 15), .p (.ext (.t 13) 1), none⟩, 7, 0⟩,
⟨5, ⟨none, .b (.store 4 (.t 4) (.t 14)), none⟩, 31, 0⟩,
⟨6, ⟨none, .b (.store 4 (.t 5) (.t 15)), none⟩, 63, 0⟩]) (.ret)))⟩
theorem fp192 : ∃ fn, fb192 = denF fn ∧ ∃ func code hint, FnOk Go.Proofs.Tryz.prog TT 192 fn func code hint := f2_mk (func := Go.Proofs.Tryz.f192) (code := bodyOf Go.Proofs.Tryz.f192) (hint := hintL [(3, [(0, 0), (1, 0), (2, 0), (3, 0), (4, 0), (5, 0), (6, 0)])]) (n := 16) (res := [.cell 4 (some 4), .cell 5 (some 4)]) Go.Proofs.Tryz.func192 Go.Proofs.Tryz.call192 (by kernel_rfl) (by kernel_rfl) (by kernel_rfl) (by kernel_rfl) (by kernel_rfl)
/- quarry/word.signed -/
def fb193 : AFunc2 := ⟨10, [.cell (rLoad (some 4) g4)], .seq (.reg [
oBox w2 24 g0,
oAlloc w4 24 [zu64, zu64, zu64, zu64]]) (.seq (.seq (.reg [
oP w5 (pMv g1)]) (.cond g5 (.seq (.reg [
oP w6 (pBuild [zu64, zu64, zu64, zu64] []),
oR w7 (rLoad (some 4) g2),
oCall w8 94 [g6, g7],
oK wZ (bSt 4 g4 g8)]) (.ret)) (.skip))) (.seq (.reg [
oR w9 (rLoad (some 4) g2),
oK wZ (bSt 4 g4 g9)]) (.ret)))⟩
theorem fp193 : ∃ fn, fb193 = denF fn ∧ ∃ func code hint, FnOk Go.Proofs.Tryz.prog TT 193 fn func code hint := f2_mk (func := Go.Proofs.Tryz.f193) (code := bodyOf Go.Proofs.Tryz.f193) (hint := hintL []) (n := 10) (res := [.cell 4 (some 4)]) Go.Proofs.Tryz.func193 Go.Proofs.Tryz.call193 (by kernel_rfl) (by kernel_rfl) (by kernel_rfl) (by kernel_rfl) (by kernel_rfl)
/- quarry/word.size0 -/
def fb194 : AFunc2 := ⟨7, [.cell (rLoad (some 4) g2)], .seq (.reg [
oBox w1 24 g0,
oAlloc w2 24 [zu64, zu64, zu64, zu64]]) (.seq (.draw [
⟨0, ⟨(some 3), .r (.load (some 4) (.t 1)), none⟩, 0, 0⟩,
⟨1, ⟨(some 4), .r (.load (some 4) (.t 1)), none⟩, 0, 0⟩,
⟨2, ⟨(some 5), .b (.call 195 [(.t 4)]), none⟩, 2, 0⟩,
⟨3, ⟨(some 6), .b (.call 193 [(.t 3), (.t 5)]), none⟩, 7, 0⟩,
⟨4, ⟨none, .b (.store 4 (.t 2) (.t 6)), none⟩, 15, 0⟩]) (.ret))⟩
theorem fp194 : ∃ fn, fb194 = denF fn ∧ ∃ func code hint, FnOk Go.Proofs.Tryz.prog TT 194 fn func code hint := f2_mk (func := Go.Proofs.Tryz.f194) (code := bodyOf Go.Proofs.Tryz.f194) (hint := hintL [(1, [(0, 0), (1, 0), (2, 0), (3, 0), (4, 0)])]) (n := 7) (res := [.cell 2 (some 4)]) Go.Proofs.Tryz.func194 Go.Proofs.Tryz.call194 (by kernel_rfl) (by kernel_rfl) (by kernel_rfl) (by kernel_rfl) (by kernel_rfl)
/- quarry/word.below0 -/
def fb195 : AFunc2 := ⟨7, [.tmp g2], .seq (.reg [
oBox w1 24 g0,
oP w2 (pMv (gC (.w (.s (.bool false)))))]) (.seq (.reg [
oP w3 (pIaddrA 4 1 g1 (gC (.w (.s (ni64 3))))),
oR w4 (rLoad none g3),
oP w5 (pShr g4 (gC (.w (.s (nu64 63))))),
oK w6 (bCmp 0 intEq .eq false g5 (gC (.w (.s (nu64 1))))),
oP w2 (pMv g6)]) (.ret))⟩
theorem fp195 : ∃ fn, fb195 = denF fn ∧ ∃ func code hint, FnOk Go.Proofs.Tryz.prog TT 195 fn func code hint := f2_mk (func := Go.Proofs.Tryz.f195) (code := bodyOf Go.Proofs.Tryz.f195) (hint := hintL []) (n := 7) (res := [.tmp 2]) Go.Proofs.Tryz.func195 Go.Proofs.Tryz.call195 (by kernel_rfl) (by kernel_rfl) (by kernel_rfl) (by kernel_rfl) (by kernel_rfl)
/- quarry/word.amount -/
def fb196 : AFunc2 := ⟨17, [.tmp g2], .seq (.reg [
oBox w1 24 g0,
oP w2 (pMv (gC (.w (.s (zi64)))))]) (.seq (.seq (.reg [
oR w6 (rLoad (some 4) g1),
oCall w7 38 [g6],
oP w5 (pMv g7),
oP w8 (pExt g5 0),
oP w9 (pExt g5 1),
oP w3 (pMv g8),
oP w4 (pMv g9)]) (.seq (.reg [
oP w10 (pMv g4),
oP w11 (pMv g10),
oGd g11 true w12 (oP w12 (pMv g3)),
oGd g11 true w13 (oK w13 (bCmp 2 lLt cGe true g12 (gC (.w (.s (nu64 256)))))),
oP w14 (pGen fun _ t => opPick t (.t 11) (.t 13) (.c (.w (.s (.bool false)))))]) (.cond g14 (.seq (.reg [
oP w15 (pMv g3),
oP w16 (pConv .i64 g15),
oP w2 (pMv g16)]) (.ret)) (.skip)))) (.seq (.reg [
oP w2 (pMv (gC (.w (.s (ni64 256)))))]) (.ret)))⟩
theorem fp196 : ∃ fn, fb196 = denF fn ∧ ∃ func code hint, FnOk Go.Proofs.Tryz.prog TT 196 fn func code hint := f2_mk (func := Go.Proofs.Tryz.f196) (code := bodyOf Go.Proofs.Tryz.f196) (hint := hintL []) (n := 17) (res := [.tmp 2]) Go.Proofs.Tryz.func196 Go.Proofs.Tryz.call196 (by kernel_rfl) (by kernel_rfl) (by kernel_rfl) (by kernel_rfl) (by kernel_rfl)
/- quarry/word.divide -/
def fb197 : AFunc2 := ⟨22, [.cell (rLoad (some 4) g4), .cell (rLoad (some 4) g5)], .seq (.reg [
oAlloc w4 24 [zu64, zu64, zu64, zu64],
oAlloc w5 24 [zu64, zu64, zu64, zu64]]) (.seq (.reg [
oP w9 (pMv g0),
oP w10 (pMv g1),
oCall w11 254 [g9, g10],
oP w8 (pMv g11),
oP w12 (pExt g8 0),
oP w13 (pExt g8 1),
oP w6 (pMv g12),
oP w7 (pMv g13)]) (.seq (.reg [
oP w14 (pGen fun _ t => opASlice t 4 1 (.t 4) none none),
oP w15 (pMv g6),
oK w16 (b2 (bCopy 1) g14 g15)]) (.seq (.reg [
oP w17 (pGen fun _ t => opASlice t 4 1 (.t 5) none none),
oP w18 (pMv g7),
oK w19 (b2 (bCopy 1) g17 g18)]) (.seq (.reg [
oR w20 (rLoad (some 4) g4),
oR w21 (rLoad (some 4) g5),
oK wZ (bSt 4 g4 g20),
oK wZ (bSt 4 g5 g21)]) (.ret)))))⟩
theorem fp197 : ∃ fn, fb197 = denF fn ∧ ∃ func code hint, FnOk Go.Proofs.Tryz.prog TT 197 fn func code hint := f2_mk (func := Go.Proofs.Tryz.f197) (code := bodyOf Go.Proofs.Tryz.f197) (hint := hintL []) (n := 22) (res := [.cell 4 (some 4), .cell 5 (some 4)]) Go.Proofs.Tryz.func197 Go.Proofs.Tryz.call197 (by kernel_rfl) (by kernel_rfl) (by kernel_rfl) (by kernel_rfl) (by kernel_rfl)
/- quarry/gas.counted -/
def fb198 : AFunc2 := ⟨17, [.tmp g2, .tmp g3], .seq (.reg [
oBox w1 24 g0,
oP w2 (pMv (gC (.w (.s (zu64))))),
oP w3 (pMv (gC (.w (.s (.bool false)))))]) (.seq (.reg [
oR w7 (rLoad (some 4) g1),
oCall w8 38 [g7],
oP w6 (pMv g8),
oP w9 (pExt g6 0),
oP w10 (pExt g6 1),
oP w4 (pMv g9),
oP w5 (pMv g10)]) (.seq (.reg [
oP w11 (pMv g4),
oP w12 (pMv g5),
oP w13 (pMv g12),
oGd g13 true w14 (oP w14 (pMv g4)),
oGd g13 true w15 (oK w15 (bCmp 3 intLe .le false g14 (gC (.w (.s (nu64 2199023255552)))))),
oP w16 (pGen fun _ t => opPick t (.t 13) (.t 15) (.c (.w (.s (.bool false))))),
oP w2 (pMv g11),
oP w3 (pMv g16)]) (.ret)))⟩
theorem fp198 : ∃ fn, fb198 = denF fn ∧ ∃ func code hint, FnOk Go.Proofs.Tryz.prog TT 198 fn func code hint := f2_mk (func := Go.Proofs.Tryz.f198) (code := bodyOf Go.Proofs.Tryz.f198) (hint := hintL []) (n := 17) (res := [.tmp 2, .tmp 3]) Go.Proofs.Tryz.func198 Go.Proofs.Tryz.call198 (by kernel_rfl) (by kernel_rfl) (by kernel_rfl) (by kernel_rfl) (by kernel_rfl)
/- quarry/gas.words -/
def fb199 : AFunc2 := ⟨10, [.tmp g2], .seq (.reg [
oP w2 (pMv (gC (.w (.s (zu64)))))]) (.seq (.reg [
oP w3 (pMv g0),
oP w4 (pGen fun φ t => opDv φ t (.t 3) (.c (.w (.s (nu64 32))))),
oP w5 (pMv g0),
oP w6 (pGen fun φ t => opMd φ t (.t 5) (.c (.w (.s (nu64 32))))),
oP w7 (pAr 0 g6 (gC (.w (.s (nu64 31))))),
oP w8 (pGen fun φ t => opDv φ t (.t 7) (.c (.w (.s (nu64 32))))),
oP w9 (pAr 0 g4 g8),
oP w2 (pMv g9)]) (.ret))⟩
theorem fp199 : ∃ fn, fb199 = denF fn ∧ ∃ func code hint, FnOk Go.Proofs.Tryz.prog TT 199 fn func code hint := f2_mk (func := Go.Proofs.Tryz.f199) (code := bodyOf Go.Proofs.Tryz.f199) (hint := hintL []) (n := 10) (res := [.tmp 2]) Go.Proofs.Tryz.func199 Go.Proofs.Tryz.call199 (by kernel_rfl) (by kernel_rfl) (by kernel_rfl) (by kernel_rfl) (by kernel_rfl)
/- quarry/gas.Grow -/
def fb200 : AFunc2 := ⟨63, [.tmp g6, .tmp g7, .tmp g8], .seq (.reg [
oBox w4 24 g1,
oBox w5 24 g2,
oP w6 (pMv (gC (.w (.s (zu64))))),
oP w7 (pMv (gC (.w (.s (zu64))))),
oP w8 (pMv (gC (.w (.s (.bool false)))))]) (.seq (.seq (.reg [
oR w15 (rLoad (some 4) g5),
oP w16 (pBuild [zu64, zu64, zu64, zu64] []),
oK w17 (b2 (fun x y s K => cmpA 0 (.agg (.one (.arr 4 22 .u64))) x y s fun b s => K (vBool b) s) g15 g16)]) (.cond g17 (.seq (.reg [
oP w18 (pMv g0),
oP w6 (pMv g18),
oP w7 (pMv (gC (.w (.s (zu64))))),
oP w8 (pMv (gC (.w (.s (.bool true)))))]) (.ret)) (.skip))) (.seq (.reg [
oR w20 (rLoad (some 4) g4),
oCall w21 38 [g20],
oP w19 (pMv g21),
oP w22 (pExt g19 0),
oP w23 (pExt g19 1),
oP w9 (pMv g22),
oP w10 (pMv g23)]) (.seq (.reg [
oR w25 (rLoad (some 4) g5),
oCall w26 38 [g25],
oP w24 (pMv g26),
oP w27 (pExt g24 0),
oP w28 (pExt g24 1),
oP w11 (pMv g27),
oP w12 (pMv g28)]) (.seq (.reg [
oP w30 (pMv g9),
oP w31 (pMv g11),
oCall w32 129 [g30, g31, (gC (.w (.s (zu64))))],
oP w29 (pMv g32),
oP w33 (pExt g29 0),
oP w34 (pExt g29 1),
oP w13 (pMv g33),
oP w14 (pMv g34)]) (.seq (.seq (.reg [
oP w35 (pMv g10),
oP w36 (pNot g35),
oP w37 (pMv g36),
oGd g37 false w38 (oP w38 (pMv g12)),
oGd g37 false w39 (oP w39 (pNot g38)),
oP w40 (pGen fun _ t => opPick t (.t 37) (.c (.w (.s (.bool true)))) (.t 39)),
oP w41 (pMv g40),
oGd g41 false w42 (oP w42 (pMv g14)),
oGd g41 false w43 (oK w43 (bCmp 4 nLe .le true g42 (gC (.w (.s (zu64)))))),
oP w44 (pGen fun _ t => opPick t (.t 41) (.c (.w (.s (.bool true)))) (.t 43)),
oP w45 (pMv g44),
oGd g45 false w46 (oP w46 (pMv g13)),
oGd g45 false w47 (oCall w47 199 [g46]),
oGd g45 false w48 (oK w48 (bCmp 4 nLe .le true g47 (gC (.w (.s (nu64 34359738368)))))),
oP w49 (pGen fun _ t => opPick t (.t 45) (.c (.w (.s (.bool true)))) (.t 48))]) (.cond g49 (.seq (.reg [
oP w6 (pMv (gC (.w (.s (zu64))))),
oP w7 (pMv (gC (.w (.s (zu64))))),
oP w8 (pMv (gC (.w (.s (.bool false)))))]) (.ret)) (.skip))) (.seq (.reg [
oP w50 (pMv g0),
oP w51 (pMv g13),
oCall w52 199 [g51],
oP w53 (pAr 2 (gC (.w (.s (nu64 32)))) g52),
oK w54 (b2 (mmA true) g50 g53),
oP w6 (pMv g54)]) (.seq (.reg [
oP w55 (pMv g6),
oP w56 (pMv g6),
oP w57 (pGen fun φ t => opDv φ t (.t 56) (.c (.w (.s (nu64 32))))),
oCall w58 255 [g57],
oP w59 (pMv g0),
oP w60 (pGen fun φ t => opDv φ t (.t 59) (.c (.w (.s (nu64 32))))),
oCall w61 255 [g60],
oP w62 (pAr 1 g58 g61),
oP w6 (pMv g55),
oP w7 (pMv g62),
oP w8 (pMv (gC (.w (.s (.bool true)))))]) (.ret))))))))⟩
theorem fp200 : ∃ fn, fb200 = denF fn ∧ ∃ func code hint, FnOk Go.Proofs.Tryz.prog TT 200 fn func code hint := f2_mk (func := Go.Proofs.Tryz.f200) (code := bodyOf Go.Proofs.Tryz.f200) (hint := hintL []) (n := 63) (res := [.tmp 6, .tmp 7, .tmp 8]) Go.Proofs.Tryz.func200 Go.Proofs.Tryz.call200 (by kernel_rfl) (by kernel_rfl) (by kernel_rfl) (by kernel_rfl) (by kernel_rfl)
/- quarry/vm.account -/
def fb201 : AFunc2 := ⟨9, [.cell (rLoad (some 20) g2)], .seq (.reg [
oBox w1 24 g0,
oAlloc w2 30 zz0]) (.seq (.reg [
oR w4 (rLoad (some 4) g1),
oCall w5 19 [g4],
oAlloc w3 50 zz1,
oK wZ (bSt 32 g3 g5)]) (.seq (.reg [
oP w6 (pGen fun _ t => opASlice t 32 1 (.t 3) (some (.c (.w (.s (ni64 12))))) none),
oP w7 (pGen fun _ t => opS2a t 20 (.t 6)),
oR w8 (rLoad (some 20) g7),
oK wZ (bSt 20 g2 g8)]) (.ret)))⟩
theorem fp201 : ∃ fn, fb201 = denF fn ∧ ∃ func code hint, FnOk Go.Proofs.Tryz.prog TT 201 fn func code hint := f2_mk (func := Go.Proofs.Tryz.f201) (code := bodyOf Go.Proofs.Tryz.f201) (hint := hintL []) (n := 9) (res := [.cell 2 (some 20)]) Go.Proofs.Tryz.func201 Go.Proofs.Tryz.call201 (by kernel_rfl) (by kernel_rfl) (by kernel_rfl) (by kernel_rfl) (by kernel_rfl)
/- (quarry/state.set[quarry/state.place]).has -/
def fb202 : AFunc2 := ⟨14, [.tmp g4], .seq (.reg [
oBox w3 180 g1,
oP w4 (pMv (gC (.w (.s (.bool false)))))]) (.seq (.reg [
oP w8 (pMv g0),
oR w9 (rLoad (some 24) g3),
oR w10 (rGen fun t s => match s with | .mk _ _ φ => opLook φ t s (.str [(0, 30, .arr 20 5 .u8), (20, 24, .arr 4 22 .u64)]) (.agg []) (.t 8) (.t 9) true),
oP w7 (pMv g10),
oP w11 (pExt g7 0),
oP w12 (pExt g7 1),
oAlloc w5 146 [],
oK wZ (bSt 0 g5 g11),
oP w6 (pMv g12)]) (.seq (.reg [
oP w13 (pMv g6),
oP w4 (pMv g13)]) (.ret)))⟩
theorem fp202 : ∃ fn, fb202 = denF fn ∧ ∃ func code hint, FnOk Go.Proofs.Tryz.prog TT 202 fn func code hint := f2_mk (func := Go.Proofs.Tryz.f202) (code := bodyOf Go.Proofs.Tryz.f202) (hint := hintL []) (n := 14) (res := [.tmp 4]) Go.Proofs.Tryz.func202 Go.Proofs.Tryz.call202 (by kernel_rfl) (by kernel_rfl) (by kernel_rfl) (by kernel_rfl) (by kernel_rfl)
/- quarry/state.put[quarry/state.place,struct{}] -/
def fb203 : AFunc2 := ⟨22, [], .seq (.reg [
oBox w5 103 g1,
oBox w6 180 g2,
oBox w7 146 g3]) (.seq (.reg [
oR w11 (rLoad none g5),
oR w12 (rLoad (some 24) g6),
oR w13 (rGen fun t s => match s with | .mk _ _ φ => opLook φ t s (.str [(0, 30, .arr 20 5 .u8), (20, 24, .arr 4 22 .u64)]) (.agg []) (.t 11) (.t 12) true),
oP w10 (pMv g13),
oP w14 (pExt g10 0),
oP w15 (pExt g10 1),
oAlloc w8 146 [],
oAlloc w9 4 [.bool false],
oK wZ (bSt 0 g8 g14),
oK wZ (bSt 1 g9 g15)]) (.seq (.reg [
oR w16 (rLoad none g5),
oR w17 (rLoad (some 24) g6),
oR w18 (rLoad (some 0) g7),
oK wZ (b3 (bMupd (.str [(0, 30, .arr 20 5 .u8), (20, 24, .arr 4 22 .u64)])) g16 g17 g18)]) (.reg [
oP w19 (pMv g0),
oP w20 (pGen fun _ t => opMkfn t 256 [(.t 9), (.t 8), (.t 5), (.t 6)]),
oCall w21 88 [g19, g20]])))⟩
theorem fp203 : ∃ fn, fb203 = denF fn ∧ ∃ func code hint, FnOk Go.Proofs.Tryz.prog TT 203 fn func code hint := f2_mk (func := Go.Proofs.Tryz.f203) (code := bodyOf Go.Proofs.Tryz.f203) (hint := hintL []) (n := 22) (res := []) Go.Proofs.Tryz.func203 Go.Proofs.Tryz.call203 (by kernel_rfl) (by kernel_rfl) (by kernel_rfl) (by kernel_rfl) (by kernel_rfl)
/- (*quarry/state.State).Original -/
def fb204 : AFunc2 := ⟨31, [.cell (rLoad (some 4) g6)], .seq (.reg [
oBox w4 30 g1,
oBox w5 24 g2,
oAlloc w6 24 [zu64, zu64, zu64, zu64]]) (.seq (.seq (.reg [
oP w9 (pMv g0),
oR w10 (rLoad (some 20) g4),
oCall w11 214 [g9, g10]]) (.cond g11 (.seq (.reg [
oP w12 (pBuild [zu64, zu64, zu64, zu64] []),
oK wZ (bSt 4 g6 g12)]) (.ret)) (.skip))) (.seq (.seq (.draw [
⟨0, ⟨(some 14), .p (.mv (.t 0)), none⟩, 0, 0⟩,
⟨1, ⟨(some 15), .p (.nilCheck (.t 14)), none⟩, 1, 0⟩,
⟨2, ⟨(some 16), .p (.faddr 1 (.t 15)), none⟩, 3, 0⟩,
⟨3, ⟨(some 17), .p (.faddr 6 (.t 16)), none⟩, 7, 0⟩,
⟨4, ⟨(some 18), .r (.load none (.t 17)), none⟩, 15, 0⟩,
⟨5, ⟨(some 19), .r (.load (some 20) (.t 4)), none⟩, 0, 0⟩,
⟨6, ⟨(some 20), .r (.load (some 4) (.t 5)), none⟩, 0, 0⟩,
⟨7, ⟨(some 21), .p (.build [zu8, zu8, zu8, zu8, zu8, zu8, zu8, zu8, zu8, zu8, zu8, zu8, zu8, zu8, zu8, zu8, zu8, zu8, zu8, zu8, zu64, zu64, zu64, zu64] [(0, 20, (.t 19)), (20, 4, (.t 20))]), none⟩, 96, 0⟩,
⟨8, ⟨(some 22), .r (.lookup (.str [(0, 30, .arr 20 5 .u8), (20, 24, .arr 4 22 .u64)]) (.agg [zu64, zu64, zu64, zu64]) (.t 18) (.t 21) true), none⟩, 255, 0⟩,
⟨9, ⟨(some 13), .p (.mv (.t 22)), none⟩, 511, 0⟩,
⟨10, ⟨(some 23), .p (.ext (.t 13) 0), none⟩, 1023, 0⟩,
⟨11, ⟨(some 24), .p (.ext (.t 13) 1), none⟩, 1023, 0⟩,
⟨12, ⟨(some 7), .m (.alloc 24 [zu64, zu64, zu64, zu64]), none⟩, 0, 0⟩,
⟨13, ⟨none, .b (.store 4 (.t 7) (.t 23)), none⟩, 6143, 0⟩,
⟨14, ⟨(some 8), .p (.mv (.t 24)), none⟩, 16383, 0⟩]) (.seq (.reg [
oP w25 (pMv g8)]) (.cond g25 (.seq (.reg [
oR w26 (rLoad (some 4) g7),
oK wZ (bSt 4 g6 g26)]) (.ret)) (.skip)))) (.seq (.reg [
oP w27 (pMv g0),
oR w28 (rLoad (some 20) g4),
oR w29 (rLoad (some 4) g5),
oCall w30 31 [g27, g28, g29],
oK wZ (bSt 4 g6 g30)]) (.ret))))⟩
theorem fp204 : ∃ fn, fb204 = denF fn ∧ ∃ func code hint, FnOk Go.Proofs.Tryz.prog TT 204 fn func code hint := f2_mk (func := Go.Proofs.Tryz.f204) (code := bodyOf Go.Proofs.Tryz.f204) (hint := hintL [(3, [(0, 0), (1, 0), (2, 0), (3, 0), (4, 0), (5, 0), (6, 0), (7, 0), (8, 0), (9, 0), (10, 0), (11, 0), (12, 0), (13, 0), (14, 0)])]) (n := 31) (res := [.cell 6 (some 4)]) Go.Proofs.Tryz.func204 Go.Proofs.Tryz.call204 (by kernel_rfl) (by kernel_rfl) (by kernel_rfl) (by kernel_rfl) (by kernel_rfl)
/- (*quarry/state.State).AddRefund -/
def fb205 : AFunc2 := ⟨22, [], .seq (.reg [
oP w7 (pMv g0),
oP w8 (pGen fun _ t => opNil t (.t 7)),
oP w9 (pFaddr 1 g8),
oP w10 (pFaddr 7 g9),
oR w11 (rLoad none g10),
oP w12 (pMv g1),
oCall w13 129 [g11, g12, (gC (.w (.s (zu64))))],
oP w6 (pMv g13),
oP w14 (pExt g6 0),
oP w15 (pExt g6 1),
oP w4 (pMv g14),
oP w5 (pMv g15)]) (.reg [
oP w16 (pMv g0),
oP w17 (pMv g4),
oP w18 (pMv g5),
oP w19 (pAr 1 (gC (.w (.s (zu64)))) g18),
oP w20 (pBt 1 g17 g19),
oCall w21 257 [g16, g20]])⟩
theorem fp205 : ∃ fn, fb205 = denF fn ∧ ∃ func code hint, FnOk Go.Proofs.Tryz.prog TT 205 fn func code hint := f2_mk (func := Go.Proofs.Tryz.f205) (code := bodyOf Go.Proofs.Tryz.f205) (hint := hintL []) (n := 22) (res := []) Go.Proofs.Tryz.func205 Go.Proofs.Tryz.call205 (by kernel_rfl) (by kernel_rfl) (by kernel_rfl) (by kernel_rfl) (by kernel_rfl)
/- (*quarry/state.State).SubRefund -/
def fb206 : AFunc2 := ⟨19, [], .draw [
⟨0, ⟨(some 4), .p (.mv (.t 0)), none⟩, 0, 0⟩,
⟨1, ⟨(some 5), .p (.mv (.t 0)), none⟩, 0, 0⟩,
⟨2, ⟨(some 6), .p (.nilCheck (.t 5)), none⟩, 2, 0⟩,
⟨3, ⟨(some 7), .p (.faddr 1 (.t 6)), none⟩, 6, 0⟩,
⟨4, ⟨(some 8), .p (.faddr 7 (.t 7)), none⟩, 14, 0⟩,
⟨5, ⟨(some 9), .r (.load none (.t 8)), none⟩, 30, 0⟩,
⟨6, ⟨(some 10), .p (.mv (.t 1)), none⟩, 0, 0⟩,
⟨7, ⟨(some 11), .p (.mv (.t 0)), none⟩, 0, 0⟩,
⟨8, ⟨(some 12), .p (.nilCheck (.t 11)), none⟩, 128, 0⟩,
⟨9, ⟨(some 13), .p (.faddr 1 (.t 12)), none⟩, 384, 0⟩,
⟨10, ⟨(some 14), .p (.faddr 7 (.t 13)), none⟩, 896, 0⟩,
⟨11, ⟨(some 15), .r (.load none (.t 14)), none⟩, 1920, 0⟩,
⟨12, ⟨(some 16), .b (.mm false (.t 10) (.t 15)), none⟩, 4032, 0⟩,
⟨13, ⟨(some 17), .p (.ar 1 (.t 9) (.t 16)), none⟩, 8190, 0⟩,
⟨14, ⟨(some 18), .b (.call 257 [(.t 4), (.t 17)]), none⟩, 16383, 0⟩]⟩
theorem fp206 : ∃ fn, fb206 = denF fn ∧ ∃ func code hint, FnOk Go.Proofs.Tryz.prog TT 206 fn func code hint := f2_mk (func := Go.Proofs.Tryz.f206) (code := bodyOf Go.Proofs.Tryz.f206) (hint := hintL [(0, [(0, 0), (1, 0), (2, 0), (3, 0), (4, 0), (5, 0), (6, 0), (7, 0), (8, 0), (9, 0), (10, 0), (11, 0), (12, 0), (13, 0), (14, 0)])]) (n := 19) (res := []) Go.Proofs.Tryz.func206 Go.Proofs.Tryz.call206 (by kernel_rfl) (by kernel_rfl) (by kernel_rfl) (by kernel_rfl) (by kernel_rfl)
/- (*quarry/state.State).SetSlot -/
def fb207 : AFunc2 := ⟨39, [], .seq (.reg [
oBox w5 30 g1,
oBox w6 24 g2,
oBox w7 24 g3]) (.seq (.reg [
oP w9 (pMv g0),
oR w10 (rLoad (some 20) g5),
oCall w11 87 [g9, g10],
oP w8 (pMv g11)]) (.seq (.draw [
⟨0, ⟨(some 12), .p (.mv (.t 0)), none⟩, 0, 0⟩,
⟨1, ⟨(some 13), .r (.load (some 20) (.t 5)), none⟩, 0, 0⟩,
⟨2, ⟨(some 14), .r (.load (some 4) (.t 6)), none⟩, 0, 0⟩,
⟨3, ⟨(some 15), .p (.build [zu8, zu8, zu8, zu8, zu8, zu8, zu8, zu8, zu8, zu8, zu8, zu8, zu8, zu8, zu8, zu8, zu8, zu8, zu8, zu8, zu64, zu64, zu64, zu64] [(0, 20, (.t 13)), (20, 4, (.t 14))]), none⟩, 6, 0⟩,
⟨4, ⟨(some 16), .p (.mv (.t 8)), none⟩, 0, 0⟩,
⟨5, ⟨(some 17), .p (.nilCheck (.t 16)), none⟩, 16, 0⟩,
⟨6, ⟨(some 18), .p (.faddr 6 (.t 17)), none⟩, 48, 0⟩,
⟨7, ⟨(some 19), .r (.load none (.t 18)), none⟩, 112, 0⟩,
⟨8, ⟨(some 20), .r (.load (some 4) (.t 6)), none⟩, 0, 0⟩,
⟨9, ⟨(some 21), .r (.lookup (.one (.arr 4 22 .u64)) (.agg [zu64, zu64, zu64, zu64]) (.t 19) (.t 20) false), none⟩, 496, 0⟩,
⟨10, ⟨(some 22), .b (.call 91 [(.t 12), (.t 15), (.t 21)]), none⟩, 1023, 0⟩]) (.seq (.draw [
⟨0, ⟨(some 23), .p (.mv (.t 0)), none⟩, 0, 0⟩,
⟨1, ⟨(some 24), .p (.mv (.t 8)), none⟩, 0, 0⟩,
⟨2, ⟨(some 25), .p (.nilCheck (.t 24)), none⟩, 2, 0⟩,
⟨3, ⟨(some 26), .p (.faddr 6 (.t 25)), none⟩, 6, 0⟩,
⟨4, ⟨(some 27), .r (.load none (.t 26)), none⟩, 14, 0⟩,
⟨5, ⟨(some 28), .r (.load (some 4) (.t 6)), none⟩, 0, 0⟩,
⟨6, ⟨(some 29), .r (.load (some 4) (.t 7)), none⟩, 0, 0⟩,
⟨7, ⟨(some 30), .b (.call 258 [(.t 23), (.t 27), (.t 28), (.t 29)]), none⟩, 127, 0⟩]) (.seq (.reg [
oR w31 (rLoad (some 4) g7),
oP w32 (pBuild [zu64, zu64, zu64, zu64] []),
oK w33 (b2 (fun x y s K => cmpA 0 (.agg (.one (.arr 4 22 .u64))) x y s fun b s => K (vBool b) s) g31 g32)]) (.cond g33 (.draw [
⟨0, ⟨(some 34), .p (.mv (.t 8)), none⟩, 0, 0⟩,
⟨1, ⟨(some 35), .p (.nilCheck (.t 34)), none⟩, 1, 0⟩,
⟨2, ⟨(some 36), .p (.faddr 6 (.t 35)), none⟩, 3, 0⟩,
⟨3, ⟨(some 37), .r (.load none (.t 36)), none⟩, 7, 0⟩,
⟨4, ⟨(some 38), .r (.load (some 4) (.t 6)), none⟩, 0, 0⟩,
⟨5, ⟨none, .b (.del (.one (.arr 4 22 .u64)) (.t 37) (.t 38)), none⟩, 31, 0⟩]) (.skip))))))⟩
theorem fp207 : ∃ fn, fb207 = denF fn ∧ ∃ func code hint, FnOk Go.Proofs.Tryz.prog TT 207 fn func code hint := f2_mk (func := Go.Proofs.Tryz.f207) (code := bodyOf Go.Proofs.Tryz.f207) (hint := hintL [(2, [(0, 0), (1, 0), (2, 0), (3, 0), (4, 0), (5, 0), (6, 0), (7, 0), (8, 0), (9, 0), (10, 0)]), (3, [(0, 0), (1, 0), (2, 0), (3, 0), (4, 0), (5, 0), (6, 0), (7, 0)]), (5, [(0, 0), (1, 0), (2, 0), (3, 0), (4, 0), (5, 0)])]) (n := 39) (res := []) Go.Proofs.Tryz.func207 Go.Proofs.Tryz.call207 (by kernel_rfl) (by kernel_rfl) (by kernel_rfl) (by kernel_rfl) (by kernel_rfl)
/- quarry/code.Jumps -/
def fb208 : AFunc2 := ⟨27, [.tmp g2], .seq (.reg [
oP w2 (pMv (gC (.w (.s (.nils)))))]) (.seq (.reg [
oP w3 (pMv (gC (.w (.s (.nils)))))]) (.seq (.seq (.reg [
oP w4 (pMv (gC (.w (.s (zi64)))))]) (.block 0 (.loop (.seq (.seq (.reg [
oP w5 (pMv g4),
oP w6 (pMv g0),
oP w7 (pGen fun _ t => opLen t (.t 6)),
oK w8 (bCmp 2 lLt cGe true g5 g7)]) (.cond g8 (.skip) (.exit 0))) (.seq (.block 1 (.seq (.reg [
oP w17 (pMv g0),
oP w18 (pMv g4),
oP w19 (pIaddrS 1 g17 g18),
oR w20 (rLoad none g19),
oK w21 (bCmp 0 intEq .eq false g20 (gC (.w (.s (nu8 91)))))]) (.cond g21 (.reg [
oP w22 (pMv g3),
oP w23 (pMv g4),
oM w24 (.bslice 3 1 [zi64] [(0, 1, (.t 23))]),
oK w25 (b2 (bAppend 3 1 8) g22 g24),
oP w3 (pMv g25)]) (.skip)))) (.reg [
oP w9 (pMv g4),
oP w10 (pMv g0),
oP w11 (pMv g4),
oP w12 (pIaddrS 1 g10 g11),
oR w13 (rLoad none g12),
oCall w14 259 [g13],
oP w15 (pAr 0 (gC (.w (.s (ni64 1)))) g14),
oP w16 (pAr 0 g9 g15),
oP w4 (pMv g16)])))))) (.seq (.reg [
oP w26 (pMv g3),
oP w2 (pMv g26)]) (.ret))))⟩
theorem fp208 : ∃ fn, fb208 = denF fn ∧ ∃ func code hint, FnOk Go.Proofs.Tryz.prog TT 208 fn func code hint := f2_mk (func := Go.Proofs.Tryz.f208) (code := bodyOf Go.Proofs.Tryz.f208) (hint := hintL []) (n := 27) (res := [.tmp 2]) Go.Proofs.Tryz.func208 Go.Proofs.Tryz.call208 (by kernel_rfl) (by kernel_rfl) (by kernel_rfl) (by kernel_rfl) (by kernel_rfl)
/- quarry/state.put[quarry/state.place,quarry/api.Word] -/
def fb209 : AFunc2 := ⟨22, [], .seq (.reg [
oBox w5 105 g1,
oBox w6 180 g2,
oBox w7 24 g3]) (.seq (.reg [
oR w11 (rLoad none g5),
oR w12 (rLoad (some 24) g6),
oR w13 (rGen fun t s => match s with | .mk _ _ φ => opLook φ t s (.str [(0, 30, .arr 20 5 .u8), (20, 24, .arr 4 22 .u64)]) (.agg [zu64, zu64, zu64, zu64]) (.t 11) (.t 12) true),
oP w10 (pMv g13),
oP w14 (pExt g10 0),
oP w15 (pExt g10 1),
oAlloc w8 24 [zu64, zu64, zu64, zu64],
oAlloc w9 4 [.bool false],
oK wZ (bSt 4 g8 g14),
oK wZ (bSt 1 g9 g15)]) (.seq (.reg [
oR w16 (rLoad none g5),
oR w17 (rLoad (some 24) g6),
oR w18 (rLoad (some 4) g7),
oK wZ (b3 (bMupd (.str [(0, 30, .arr 20 5 .u8), (20, 24, .arr 4 22 .u64)])) g16 g17 g18)]) (.reg [
oP w19 (pMv g0),
oP w20 (pGen fun _ t => opMkfn t 260 [(.t 9), (.t 8), (.t 5), (.t 6)]),
oCall w21 88 [g19, g20]])))⟩
theorem fp209 : ∃ fn, fb209 = denF fn ∧ ∃ func code hint, FnOk Go.Proofs.Tryz.prog TT 209 fn func code hint := f2_mk (func := Go.Proofs.Tryz.f209) (code := bodyOf Go.Proofs.Tryz.f209) (hint := hintL []) (n := 22) (res := []) Go.Proofs.Tryz.func209 Go.Proofs.Tryz.call209 (by kernel_rfl) (by kernel_rfl) (by kernel_rfl) (by kernel_rfl) (by kernel_rfl)
/- (*quarry/vm.frame).creates$1 -/
def fb211 : AFunc2 := ⟨24, [.cell (rLoad (some 20) g6)], .seq (.reg [
oAlloc w6 30 zz0]) (.seq (.seq (.reg [
oR w7 (rLoad none g1),
oK w8 (bCmp 0 intEq .eq false g7 (gC (.w (.s (ni64 245)))))]) (.cond g8 (.seq (.draw [
⟨0, ⟨(some 9), .r (.load none (.t 2)), none⟩, 0, 0⟩,
⟨1, ⟨(some 10), .p (.nilCheck (.t 9)), none⟩, 1, 0⟩,
⟨2, ⟨(some 11), .p (.faddr 1 (.t 10)), none⟩, 3, 0⟩,
⟨3, ⟨(some 12), .p (.faddr 20 (.t 11)), none⟩, 7, 0⟩,
⟨4, ⟨(some 13), .r (.load (some 20) (.t 12)), none⟩, 15, 0⟩,
⟨5, ⟨(some 14), .r (.load (some 4) (.t 3)), none⟩, 0, 0⟩,
⟨6, ⟨(some 15), .r (.load none (.t 4)), none⟩, 0, 0⟩,
⟨7, ⟨(some 16), .b (.call 212 [(.t 13), (.t 14), (.t 15)]), none⟩, 127, 0⟩,
⟨8, ⟨none, .b (.store 20 (.t 6) (.t 16)), none⟩, 255, 0⟩]) (.ret)) (.skip))) (.seq (.reg [
oR w17 (rLoad none g2),
oP w18 (pGen fun _ t => opNil t (.t 17)),
oP w19 (pFaddr 1 g18),
oP w20 (pFaddr 20 g19),
oR w21 (rLoad (some 20) g20),
oP w22 (pMv g0),
oCall w23 50 [g21, g22],
oK wZ (bSt 20 g6 g23)]) (.ret)))⟩
theorem fp211 : ∃ fn, fb211 = denF fn ∧ ∃ func code hint, FnOk Go.Proofs.Tryz.prog TT 211 fn func code hint := f2_mk (func := Go.Proofs.Tryz.f211) (code := bodyOf Go.Proofs.Tryz.f211) (hint := hintL [(2, [(0, 0), (1, 0), (2, 0), (3, 0), (4, 0), (5, 0), (6, 0), (7, 0), (8, 0)])]) (n := 24) (res := [.cell 6 (some 20)]) Go.Proofs.Tryz.func211 Go.Proofs.Tryz.call211 (by kernel_rfl) (by kernel_rfl) (by kernel_rfl) (by kernel_rfl) (by kernel_rfl)
/- quarry/book.Salted -/
def fb212 : AFunc2 := ⟨23, [.cell (rLoad (some 20) g6)], .seq (.reg [
oBox w3 30 g0,
oBox w4 24 g1,
oAlloc w6 30 zz0]) (.seq (.reg [
oR w10 (rLoad (some 4) g4),
oCall w11 19 [g10],
oP w12 (pMv g2),
oCall w13 101 [g12],
oAlloc w7 50 zz1,
oAlloc w8 50 zz1,
oK wZ (bSt 32 g7 g11),
oK wZ (bSt 32 g8 g13)]) (.seq (.reg [
oM w14 (.bslice 5 1 [zu8] [(0, 1, (.c (.w (.s (nu8 255)))))]),
oP w15 (pGen fun _ t => opASlice t 20 1 (.t 3) none none),
oK w16 (b2 (bAppend 5 1 1) g14 g15),
oP w9 (pMv g16)]) (.seq (.draw [
⟨0, ⟨(some 17), .p (.mv (.t 9)), none⟩, 0, 0⟩,
⟨1, ⟨(some 18), .p (.aslice 32 1 (.t 7) none none), none⟩, 0, 0⟩,
⟨3, ⟨(some 20), .p (.aslice 32 1 (.t 8) none none), none⟩, 0, 0⟩,
⟨2, ⟨(some 19), .b (.append 5 1 1 (.t 17) (.t 18)), none⟩, 3, 0⟩,
⟨4, ⟨(some 21), .b (.append 5 1 1 (.t 19) (.t 20)), none⟩, 15, 0⟩,
⟨5, ⟨(some 22), .b (.call 75 [(.t 21)]), none⟩, 31, 0⟩,
⟨6, ⟨none, .b (.store 20 (.t 6) (.t 22)), none⟩, 63, 0⟩]) (.ret))))⟩
theorem fp212 : ∃ fn, fb212 = denF fn ∧ ∃ func code hint, FnOk Go.Proofs.Tryz.prog TT 212 fn func code hint := f2_mk (func := Go.Proofs.Tryz.f212) (code := bodyOf Go.Proofs.Tryz.f212) (hint := hintL [(3, [(0, 0), (1, 0), (3, 0), (2, 0), (4, 0), (5, 0), (6, 0)])]) (n := 23) (res := [.cell 6 (some 20)]) Go.Proofs.Tryz.func212 Go.Proofs.Tryz.call212 (by kernel_rfl) (by kernel_rfl) (by kernel_rfl) (by kernel_rfl) (by kernel_rfl)
/- (*quarry/vm.frame).fresh -/
def fb213 : AFunc2 := ⟨35, [.tmp g6], .seq (.reg [
oBox w4 30 g1,
oP w6 (pMv (gC (.w (.s (.bool false)))))]) (.seq (.seq (.reg [
oP w7 (pMv g0),
oP w8 (pGen fun _ t => opNil t (.t 7)),
oP w9 (pFaddr 0 g8),
oR w10 (rLoad none g9),
oCall w11 66 [g10, (gC (.w (.s (ni64 3))))],
oP w12 (pNot g11)]) (.cond g12 (.seq (.draw [
⟨0, ⟨(some 13), .p (.mv (.t 0)), none⟩, 0, 0⟩,
⟨1, ⟨(some 14), .p (.nilCheck (.t 13)), none⟩, 1, 0⟩,
⟨2, ⟨(some 15), .p (.faddr 0 (.t 14)), none⟩, 3, 0⟩,
⟨3, ⟨(some 16), .r (.load none (.t 15)), none⟩, 7, 0⟩,
⟨4, ⟨(some 17), .p (.nilCheck (.t 16)), none⟩, 15, 0⟩,
⟨5, ⟨(some 18), .p (.faddr 89 (.t 17)), none⟩, 31, 0⟩,
⟨6, ⟨(some 19), .r (.load none (.t 18)), none⟩, 63, 0⟩,
⟨7, ⟨(some 20), .r (.load (some 20) (.t 4)), none⟩, 0, 0⟩,
⟨8, ⟨(some 21), .b (.call 33 [(.t 19), (.t 20)]), none⟩, 255, 0⟩,
⟨9, ⟨(some 22), .p (.not (.t 21)), none⟩, 511, 0⟩,
⟨10, ⟨(some 6), .p (.mv (.t 22)), none⟩, 1023, 0⟩]) (.ret)) (.skip))) (.seq (.draw [
⟨0, ⟨(some 23), .p (.mv (.t 2)), none⟩, 0, 0⟩,
⟨1, ⟨(some 24), .p (.mv (.t 23)), none⟩, 1, 0⟩,
⟨2, ⟨(some 25), .p (.mv (.t 0)), some (24, true)⟩, 3, 0⟩,
⟨3, ⟨(some 26), .p (.nilCheck (.t 25)), some (24, true)⟩, 7, 0⟩,
⟨4, ⟨(some 27), .p (.faddr 0 (.t 26)), some (24, true)⟩, 15, 0⟩,
⟨5, ⟨(some 28), .r (.load none (.t 27)), some (24, true)⟩, 31, 0⟩,
⟨6, ⟨(some 29), .p (.nilCheck (.t 28)), some (24, true)⟩, 63, 0⟩,
⟨7, ⟨(some 30), .p (.faddr 89 (.t 29)), some (24, true)⟩, 127, 0⟩,
⟨8, ⟨(some 31), .r (.load none (.t 30)), some (24, true)⟩, 255, 0⟩,
⟨9, ⟨(some 32), .r (.load (some 20) (.t 4)), some (24, true)⟩, 3, 0⟩,
⟨10, ⟨(some 33), .b (.call 55 [(.t 31), (.t 32)]), some (24, true)⟩, 1023, 0⟩,
⟨11, ⟨(some 34), .p (.pick (.t 24) (.t 33) (.c (.w (.s (.bool false))))), none⟩, 2047, 0⟩,
⟨12, ⟨(some 6), .p (.mv (.t 34)), none⟩, 4095, 0⟩]) (.ret)))⟩
theorem fp213 : ∃ fn, fb213 = denF fn ∧ ∃ func code hint, FnOk Go.Proofs.Tryz.prog TT 213 fn func code hint := f2_mk (func := Go.Proofs.Tryz.f213) (code := bodyOf Go.Proofs.Tryz.f213) (hint := hintL [(2, [(0, 0), (1, 0), (2, 0), (3, 0), (4, 0), (5, 0), (6, 0), (7, 0), (8, 0), (9, 0), (10, 0)]), (3, [(0, 0), (1, 0), (2, 0), (3, 0), (4, 0), (5, 0), (6, 0), (7, 0), (8, 0), (9, 0), (10, 0), (11, 0), (12, 0)])]) (n := 35) (res := [.tmp 6]) Go.Proofs.Tryz.func213 Go.Proofs.Tryz.call213 (by kernel_rfl) (by kernel_rfl) (by kernel_rfl) (by kernel_rfl) (by kernel_rfl)
/- (*quarry/state.State).Made -/
def fb214 : AFunc2 := ⟨12, [.tmp g4], .seq (.reg [
oBox w3 30 g1,
oP w4 (pMv (gC (.w (.s (.bool false)))))]) (.seq (.draw [
⟨0, ⟨(some 5), .p (.mv (.t 0)), none⟩, 0, 0⟩,
⟨1, ⟨(some 6), .p (.nilCheck (.t 5)), none⟩, 1, 0⟩,
⟨2, ⟨(some 7), .p (.faddr 1 (.t 6)), none⟩, 3, 0⟩,
⟨3, ⟨(some 8), .p (.faddr 1 (.t 7)), none⟩, 7, 0⟩,
⟨4, ⟨(some 9), .r (.load none (.t 8)), none⟩, 15, 0⟩,
⟨5, ⟨(some 10), .r (.load (some 20) (.t 3)), none⟩, 0, 0⟩,
⟨6, ⟨(some 11), .b (.call 41 [(.t 9), (.t 10)]), none⟩, 63, 0⟩,
⟨7, ⟨(some 4), .p (.mv (.t 11)), none⟩, 127, 0⟩]) (.ret))⟩
theorem fp214 : ∃ fn, fb214 = denF fn ∧ ∃ func code hint, FnOk Go.Proofs.Tryz.prog TT 214 fn func code hint := f2_mk (func := Go.Proofs.Tryz.f214) (code := bodyOf Go.Proofs.Tryz.f214) (hint := hintL [(1, [(0, 0), (1, 0), (2, 0), (3, 0), (4, 0), (5, 0), (6, 0), (7, 0)])]) (n := 12) (res := [.tmp 4]) Go.Proofs.Tryz.func214 Go.Proofs.Tryz.call214 (by kernel_rfl) (by kernel_rfl) (by kernel_rfl) (by kernel_rfl) (by kernel_rfl)
/- (*quarry/state.State).Destroy -/
def fb215 : AFunc2 := ⟨13, [], .seq (.reg [
oBox w3 30 g1]) (.draw [
⟨0, ⟨(some 4), .p (.mv (.t 0)), none⟩, 0, 0⟩,
⟨1, ⟨(some 5), .p (.mv (.t 0)), none⟩, 0, 0⟩,
⟨2, ⟨(some 6), .p (.nilCheck (.t 5)), none⟩, 2, 0⟩,
⟨3, ⟨(some 7), .p (.faddr 1 (.t 6)), none⟩, 6, 0⟩,
⟨4, ⟨(some 8), .p (.faddr 3 (.t 7)), none⟩, 14, 0⟩,
⟨5, ⟨(some 9), .r (.load none (.t 8)), none⟩, 30, 0⟩,
⟨6, ⟨(some 10), .r (.load (some 20) (.t 3)), none⟩, 0, 0⟩,
⟨7, ⟨(some 11), .p (.build [] []), none⟩, 0, 0⟩,
⟨8, ⟨(some 12), .b (.call 90 [(.t 4), (.t 9), (.t 10), (.t 11)]), none⟩, 255, 0⟩])⟩
theorem fp215 : ∃ fn, fb215 = denF fn ∧ ∃ func code hint, FnOk Go.Proofs.Tryz.prog TT 215 fn func code hint := f2_mk (func := Go.Proofs.Tryz.f215) (code := bodyOf Go.Proofs.Tryz.f215) (hint := hintL [(1, [(0, 0), (1, 0), (2, 0), (3, 0), (4, 0), (5, 0), (6, 0), (7, 0), (8, 0)])]) (n := 13) (res := []) Go.Proofs.Tryz.func215 Go.Proofs.Tryz.call215 (by kernel_rfl) (by kernel_rfl) (by kernel_rfl) (by kernel_rfl) (by kernel_rfl)
/- (*quarry/vm.frame).sent -/
def fb216 : AFunc2 := ⟨80, [.cell (rLoad (some 23) g6)], .seq (.reg [
oBox w3 187 g0,
oBox w5 129 g2,
oAlloc w6 131 [zi64, .nils, zu64, zu8, zu8, zu8, zu8, zu8, zu8, zu8, zu8, zu8, zu8, zu8, zu8, zu8, zu8, zu8, zu8, zu8, zu8, zu8, zu8]]) (.seq (.seq (.reg [
oP w7 (pMv g1)]) (.block 0 (.seq (.reg [
oK w9 (bCmp 0 intEq .eq false g7 (gC (.w (.s (ni64 241))))),
oP w8 (pMv g9)]) (.cond g8 (.seq (.draw [
⟨0, ⟨(some 10), .r (.load none (.t 3)), none⟩, 0, 0⟩,
⟨1, ⟨(some 11), .p (.nilCheck (.t 10)), none⟩, 1, 0⟩,
⟨2, ⟨(some 12), .p (.faddr 0 (.t 11)), none⟩, 3, 0⟩,
⟨3, ⟨(some 13), .r (.load none (.t 12)), none⟩, 7, 0⟩,
⟨4, ⟨(some 14), .r (.load (some 68) (.t 5)), none⟩, 0, 0⟩,
⟨5, ⟨(some 15), .b (.call 51 [(.t 13), (.t 14)]), none⟩, 31, 0⟩,
⟨6, ⟨none, .b (.store 23 (.t 6) (.t 15)), none⟩, 63, 0⟩]) (.ret)) (.seq (.reg [
oK w17 (bCmp 0 intEq .eq false g7 (gC (.w (.s (ni64 242))))),
oP w16 (pMv g17)]) (.cond g16 (.seq (.seq (.draw [
⟨0, ⟨(some 18), .r (.load none (.t 3)), none⟩, 0, 0⟩,
⟨1, ⟨(some 19), .p (.nilCheck (.t 18)), none⟩, 1, 0⟩,
⟨2, ⟨(some 20), .p (.faddr 0 (.t 19)), none⟩, 3, 0⟩,
⟨3, ⟨(some 21), .r (.load none (.t 20)), none⟩, 7, 0⟩,
⟨4, ⟨(some 22), .r (.load none (.t 3)), none⟩, 0, 0⟩,
⟨5, ⟨(some 23), .p (.nilCheck (.t 22)), none⟩, 16, 0⟩,
⟨6, ⟨(some 24), .p (.faddr 1 (.t 23)), none⟩, 48, 0⟩,
⟨7, ⟨(some 25), .p (.faddr 20 (.t 24)), none⟩, 112, 0⟩,
⟨8, ⟨(some 26), .r (.load (some 20) (.t 25)), none⟩, 240, 0⟩,
⟨9, ⟨(some 27), .p (.faddr 60 (.t 5)), none⟩, 0, 0⟩,
⟨10, ⟨(some 28), .r (.load (some 4) (.t 27)), none⟩, 512, 0⟩,
⟨11, ⟨(some 29), .b (.call 63 [(.t 21), (.t 26), (.t 28)]), none⟩, 2047, 0⟩,
⟨12, ⟨(some 30), .p (.not (.t 29)), none⟩, 4095, 0⟩]) (.cond g30 (.seq (.reg [
oP w31 (pFaddr 65 g5),
oR w32 (rLoad none g31),
oCall w33 64 [g32],
oK wZ (bSt 23 g6 g33)]) (.ret)) (.skip))) (.seq (.reg [
oR w34 (rLoad none g3),
oP w35 (pGen fun _ t => opNil t (.t 34)),
oP w36 (pFaddr 1 g35),
oP w37 (pFaddr 20 g36),
oR w38 (rLoad (some 20) g37),
oP w39 (pFaddr 20 g5),
oK wZ (bSt 20 g39 g38)]) (.seq (.draw [
⟨0, ⟨(some 40), .r (.load none (.t 3)), none⟩, 0, 0⟩,
⟨1, ⟨(some 41), .p (.nilCheck (.t 40)), none⟩, 1, 0⟩,
⟨2, ⟨(some 42), .p (.faddr 0 (.t 41)), none⟩, 3, 0⟩,
⟨3, ⟨(some 43), .r (.load none (.t 42)), none⟩, 7, 0⟩,
⟨4, ⟨(some 44), .r (.load (some 68) (.t 5)), none⟩, 0, 0⟩,
⟨5, ⟨(some 45), .b (.call 81 [(.t 43), (.t 44), (.c (.w (.s (.fn 261 []))))]), none⟩, 31, 0⟩,
⟨6, ⟨none, .b (.store 23 (.t 6) (.t 45)), none⟩, 63, 0⟩]) (.ret)))) (.seq (.reg [
oK w47 (bCmp 0 intEq .eq false g7 (gC (.w (.s (ni64 244))))),
oP w46 (pMv g47)]) (.cond g46 (.seq (.draw [
⟨0, ⟨(some 48), .r (.load none (.t 3)), none⟩, 0, 0⟩,
⟨1, ⟨(some 49), .p (.nilCheck (.t 48)), none⟩, 1, 0⟩,
⟨2, ⟨(some 50), .p (.faddr 1 (.t 49)), none⟩, 3, 0⟩,
⟨3, ⟨(some 51), .p (.faddr 20 (.t 50)), none⟩, 7, 0⟩,
⟨4, ⟨(some 52), .r (.load (some 20) (.t 51)), none⟩, 15, 0⟩,
⟨5, ⟨(some 53), .r (.load none (.t 3)), none⟩, 0, 0⟩,
⟨6, ⟨(some 54), .p (.nilCheck (.t 53)), none⟩, 32, 0⟩,
⟨7, ⟨(some 55), .p (.faddr 1 (.t 54)), none⟩, 96, 0⟩,
⟨8, ⟨(some 56), .p (.faddr 0 (.t 55)), none⟩, 224, 0⟩,
⟨9, ⟨(some 57), .r (.load (some 20) (.t 56)), none⟩, 480, 0⟩,
⟨10, ⟨(some 58), .r (.load none (.t 3)), none⟩, 0, 0⟩,
⟨11, ⟨(some 59), .p (.nilCheck (.t 58)), none⟩, 1024, 0⟩,
⟨12, ⟨(some 60), .p (.faddr 1 (.t 59)), none⟩, 3072, 0⟩,
⟨13, ⟨(some 61), .p (.faddr 60 (.t 60)), none⟩, 7168, 0⟩,
⟨14, ⟨(some 62), .r (.load (some 4) (.t 61)), none⟩, 15360, 0⟩,
⟨15, ⟨(some 63), .p (.faddr 20 (.t 5)), none⟩, 31, 0⟩,
⟨16, ⟨none, .b (.store 20 (.t 63) (.t 52)), none⟩, 32799, 0⟩,
⟨17, ⟨(some 64), .p (.faddr 0 (.t 5)), none⟩, 99327, 0⟩,
⟨18, ⟨none, .b (.store 20 (.t 64) (.t 57)), none⟩, 230399, 0⟩,
⟨19, ⟨(some 65), .p (.faddr 60 (.t 5)), none⟩, 524287, 0⟩,
⟨20, ⟨none, .b (.store 4 (.t 65) (.t 62)), none⟩, 1048575, 0⟩]) (.seq (.draw [
⟨0, ⟨(some 66), .r (.load none (.t 3)), none⟩, 0, 0⟩,
⟨1, ⟨(some 67), .p (.nilCheck (.t 66)), none⟩, 1, 0⟩,
⟨2, ⟨(some 68), .p (.faddr 0 (.t 67)), none⟩, 3, 0⟩,
⟨3, ⟨(some 69), .r (.load none (.t 68)), none⟩, 7, 0⟩,
⟨4, ⟨(some 70), .r (.load (some 68) (.t 5)), none⟩, 0, 0⟩,
⟨5, ⟨(some 71), .b (.call 81 [(.t 69), (.t 70), (.c (.w (.s (.fn 262 []))))]), none⟩, 31, 0⟩,
⟨6, ⟨none, .b (.store 23 (.t 6) (.t 71)), none⟩, 63, 0⟩]) (.ret))) (.skip))))))))) (.seq (.reg [
oP w72 (pFaddr 66 g5),
oK wZ (bSt 1 g72 (gC (.w (.s (.bool true)))))]) (.seq (.draw [
⟨0, ⟨(some 73), .r (.load none (.t 3)), none⟩, 0, 0⟩,
⟨1, ⟨(some 74), .p (.nilCheck (.t 73)), none⟩, 1, 0⟩,
⟨2, ⟨(some 75), .p (.faddr 0 (.t 74)), none⟩, 3, 0⟩,
⟨3, ⟨(some 76), .r (.load none (.t 75)), none⟩, 7, 0⟩,
⟨4, ⟨(some 77), .r (.load (some 68) (.t 5)), none⟩, 0, 0⟩,
⟨5, ⟨(some 78), .p (.mkfunc 263 [(.t 3), (.t 5)]), none⟩, 0, 0⟩,
⟨6, ⟨(some 79), .b (.call 81 [(.t 76), (.t 77), (.t 78)]), none⟩, 63, 0⟩,
⟨7, ⟨none, .b (.store 23 (.t 6) (.t 79)), none⟩, 127, 0⟩]) (.ret))))⟩
theorem fp216 : ∃ fn, fb216 = denF fn ∧ ∃ func code hint, FnOk Go.Proofs.Tryz.prog TT 216 fn func code hint := f2_mk (func := Go.Proofs.Tryz.f216) (code := bodyOf Go.Proofs.Tryz.f216) (hint := hintL [(3, [(0, 0), (1, 0), (2, 0), (3, 0), (4, 0), (5, 0), (6, 0)]), (5, [(0, 0), (1, 0), (2, 0), (3, 0), (4, 0), (5, 0), (6, 0), (7, 0), (8, 0), (9, 0), (10, 0), (11, 0), (12, 0)]), (8, [(0, 0), (1, 0), (2, 0), (3, 0), (4, 0), (5, 0), (6, 0)]), (10, [(0, 0), (1, 0), (2, 0), (3, 0), (4, 0), (5, 0), (6, 0), (7, 0), (8, 0), (9, 0), (10, 0), (11, 0), (12, 0), (13, 0), (14, 0), (15, 0), (16, 0), (17, 0), (18, 0), (19, 0), (20, 0)]), (11, [(0, 0), (1, 0), (2, 0), (3, 0), (4, 0), (5, 0), (6, 0)]), (13, [(0, 0), (1, 0), (2, 0), (3, 0), (4, 0), (5, 0), (6, 0), (7, 0)])]) (n := 80) (res := [.cell 6 (some 23)]) Go.Proofs.Tryz.func216 Go.Proofs.Tryz.call216 (by kernel_rfl) (by kernel_rfl) (by kernel_rfl) (by kernel_rfl) (by kernel_rfl)
/- quarry/hash.constants -/
def fb217 : AFunc2 := ⟨34, [.cell (rLoad (some 24) g0)], .seq (.reg [
oAlloc w0 269 zz6]) (.seq (.reg [
oAlloc w1 269 zz6]) (.seq (.reg [
oP w2 (pMv (gC (.w (.s (nu8 1)))))]) (.seq (.seq (.reg [
oP w6 (pMv (gC (.w (.s (zi64)))))]) (.block 0 (.loop (.seq (.reg [
oK w7 (bCmp 2 lLt cGe true g6 (gC (.w (.s (ni64 24)))))]) (.seq (.cond g7 (.skip) (.exit 0)) (.seq (.block 1 (.seq (.reg [
oP w8 (pMv g6),
oP w3 (pMv g8)]) (.seq (.reg [
oP w9 (pMv (gC (.w (.s (zi64)))))]) (.block 2 (.loop (.seq (.reg [
oK w10 (bCmp 2 lLt cGe true g9 (gC (.w (.s (ni64 7)))))]) (.seq (.cond g10 (.skip) (.exit 2)) (.seq (.block 3 (.seq (.reg [
oP w11 (pMv g9),
oP w4 (pMv g11)]) (.seq (.draw [
⟨0, ⟨(some 12), .p (.mv (.t 3)), none⟩, 0, 0⟩,
⟨1, ⟨(some 13), .p (.iaddrA 24 1 (.t 1) (.t 12)), none⟩, 1, 0⟩,
⟨2, ⟨(some 14), .r (.load none (.t 13)), none⟩, 3, 0⟩,
⟨3, ⟨(some 15), .p (.mv (.t 2)), none⟩, 0, 0⟩,
⟨4, ⟨(some 16), .p (.bt 0 (.t 15) (.c (.w (.s (nu8 1))))), none⟩, 8, 0⟩,
⟨5, ⟨(some 17), .p (.conv .u64 (.t 16)), none⟩, 24, 0⟩,
⟨6, ⟨(some 18), .p (.mv (.t 4)), none⟩, 0, 0⟩,
⟨7, ⟨(some 19), .p (.shl (.c (.w (.s (nu64 1)))) (.t 18)), none⟩, 64, 0⟩,
⟨8, ⟨(some 20), .p (.ar 1 (.t 19) (.c (.w (.s (nu64 1))))), none⟩, 192, 0⟩,
⟨9, ⟨(some 21), .p (.shl (.t 17) (.t 20)), none⟩, 504, 0⟩,
⟨10, ⟨(some 22), .p (.bt 1 (.t 14) (.t 21)), none⟩, 1023, 0⟩,
⟨11, ⟨(some 23), .p (.iaddrA 24 1 (.t 1) (.t 12)), none⟩, 2047, 0⟩,
⟨12, ⟨none, .b (.store 1 (.t 23) (.t 22)), none⟩, 4095, 0⟩]) (.seq (.reg [
oP w24 (pMv g2),
oP w25 (pShr g24 (gC (.w (.s (nu64 7))))),
oP w5 (pMv g25)]) (.reg [
oP w26 (pMv g2),
oP w27 (pShl g26 (gC (.w (.s (nu64 1))))),
oP w28 (pMv g5),
oP w29 (pAr 2 g28 (gC (.w (.s (nu8 113))))),
oP w30 (pBt 2 g27 g29),
oP w2 (pMv g30)]))))) (.reg [
oP w31 (pAr 0 g9 (gC (.w (.s (ni64 1))))),
oP w9 (pMv g31)]))))))))) (.reg [
oP w32 (pAr 0 g6 (gC (.w (.s (ni64 1))))),
oP w6 (pMv g32)]))))))) (.seq (.reg [
oR w33 (rLoad (some 24) g1),
oK wZ (bSt 24 g0 g33)]) (.ret)))))⟩
theorem fp217 : ∃ fn, fb217 = denF fn ∧ ∃ func code hint, FnOk Go.Proofs.Tryz.prog TT 217 fn func code hint := f2_mk (func := Go.Proofs.Tryz.f217) (code := bodyOf Go.Proofs.Tryz.f217) (hint := hintL [(9, [(0, 0), (1, 0), (2, 0), (3, 0), (4, 0), (5, 0), (6, 0), (7, 0), (8, 0), (9, 0), (10, 0), (11, 0), (12, 0)])]) (n := 34) (res := [.cell 0 (some 24)]) Go.Proofs.Tryz.func217 Go.Proofs.Tryz.call217 (by kernel_rfl) (by kernel_rfl) (by kernel_rfl) (by kernel_rfl) (by kernel_rfl)
/- (*quarry/hash.lanes).theta -/
def fb218 : AFunc2 := ⟨48, [], .seq (.reg [
oAlloc w2 329 [zu64, zu64, zu64, zu64, zu64]]) (.seq (.seq (.reg [
oP w7 (pMv g0),
oP w8 (pMv (gC (.w (.s (zi64)))))]) (.block 0 (.loop (.seq (.reg [
oK w9 (bCmp 2 lLt cGe true g8 (gC (.w (.s (ni64 25)))))]) (.seq (.cond g9 (.skip) (.exit 0)) (.seq (.block 1 (.seq (.draw [
⟨0, ⟨(some 10), .p (.mv (.t 8)), none⟩, 0, 0⟩,
⟨1, ⟨(some 11), .p (.nilCheck (.t 7)), none⟩, 0, 0⟩,
⟨2, ⟨(some 12), .p (.iaddrA 25 1 (.t 11) (.t 8)), none⟩, 2, 0⟩,
⟨3, ⟨(some 13), .r (.load none (.t 12)), none⟩, 6, 0⟩,
⟨4, ⟨(some 3), .p (.mv (.t 10)), none⟩, 1, 0⟩,
⟨5, ⟨(some 4), .p (.mv (.t 13)), none⟩, 31, 0⟩]) (.reg [
oP w14 (pMv g3),
oP w15 (pGen fun φ t => opMd φ t (.t 14) (.c (.w (.s (ni64 5))))),
oP w16 (pIaddrA 5 1 g2 g15),
oR w17 (rLoad none g16),
oP w18 (pMv g4),
oP w19 (pBt 2 g17 g18),
oP w20 (pIaddrA 5 1 g2 g15),
oK wZ (bSt 1 g20 g19)]))) (.reg [
oP w21 (pAr 0 g8 (gC (.w (.s (ni64 1))))),
oP w8 (pMv g21)]))))))) (.seq (.reg [
oP w22 (pMv (gC (.w (.s (zi64)))))]) (.block 2 (.loop (.seq (.reg [
oK w23 (bCmp 2 lLt cGe true g22 (gC (.w (.s (ni64 25)))))]) (.seq (.cond g23 (.skip) (.exit 2)) (.seq (.block 3 (.seq (.reg [
oP w24 (pMv g22),
oP w5 (pMv g24)]) (.seq (.reg [
oP w25 (pMv g5),
oP w26 (pGen fun φ t => opMd φ t (.t 25) (.c (.w (.s (ni64 5))))),
oP w6 (pMv g26)]) (.draw [
⟨0, ⟨(some 27), .p (.mv (.t 0)), none⟩, 0, 0⟩,
⟨1, ⟨(some 28), .p (.mv (.t 5)), none⟩, 0, 0⟩,
⟨2, ⟨(some 29), .p (.nilCheck (.t 27)), none⟩, 1, 0⟩,
⟨3, ⟨(some 30), .p (.iaddrA 25 1 (.t 29) (.t 28)), none⟩, 7, 0⟩,
⟨4, ⟨(some 31), .r (.load none (.t 30)), none⟩, 15, 0⟩,
⟨5, ⟨(some 32), .p (.mv (.t 6)), none⟩, 0, 0⟩,
⟨6, ⟨(some 33), .p (.ar 0 (.t 32) (.c (.w (.s (ni64 4))))), none⟩, 32, 0⟩,
⟨7, ⟨(some 34), .p (.md (.t 33) (.c (.w (.s (ni64 5))))), none⟩, 96, 0⟩,
⟨8, ⟨(some 35), .p (.iaddrA 5 1 (.t 2) (.t 34)), none⟩, 224, 0⟩,
⟨9, ⟨(some 36), .r (.load none (.t 35)), none⟩, 480, 0⟩,
⟨10, ⟨(some 37), .p (.mv (.t 6)), none⟩, 0, 0⟩,
⟨11, ⟨(some 38), .p (.ar 0 (.t 37) (.c (.w (.s (ni64 1))))), none⟩, 1024, 0⟩,
⟨12, ⟨(some 39), .p (.md (.t 38) (.c (.w (.s (ni64 5))))), none⟩, 3072, 0⟩,
⟨13, ⟨(some 40), .p (.iaddrA 5 1 (.t 2) (.t 39)), none⟩, 7168, 0⟩,
⟨14, ⟨(some 41), .r (.load none (.t 40)), none⟩, 15360, 0⟩,
⟨18, ⟨(some 45), .p (.nilCheck (.t 27)), none⟩, 1, 0⟩,
⟨15, ⟨(some 42), .b (.call 264 [(.t 41), (.c (.w (.s (ni64 1))))]), none⟩, 31744, 0⟩,
⟨16, ⟨(some 43), .p (.bt 2 (.t 36) (.t 42)), none⟩, 65504, 0⟩,
⟨17, ⟨(some 44), .p (.bt 2 (.t 31) (.t 43)), none⟩, 131071, 0⟩,
⟨19, ⟨(some 46), .p (.iaddrA 25 1 (.t 45) (.t 28)), none⟩, 524287, 0⟩,
⟨20, ⟨none, .b (.store 1 (.t 46) (.t 44)), none⟩, 1048575, 0⟩])))) (.reg [
oP w47 (pAr 0 g22 (gC (.w (.s (ni64 1))))),
oP w22 (pMv g47)]))))))))⟩
theorem fp218 : ∃ fn, fb218 = denF fn ∧ ∃ func code hint, FnOk Go.Proofs.Tryz.prog TT 218 fn func code hint := f2_mk (func := Go.Proofs.Tryz.f218) (code := bodyOf Go.Proofs.Tryz.f218) (hint := hintL [(3, [(0, 0), (1, 0), (2, 0), (3, 0), (4, 0), (5, 0)]), (10, [(0, 0), (1, 0), (2, 0), (3, 0), (4, 0), (5, 0), (6, 0), (7, 0), (8, 0), (9, 0), (10, 0), (11, 0), (12, 0), (13, 0), (14, 0), (18, 0), (15, 0), (16, 0), (17, 0), (19, 0), (20, 0)])]) (n := 48) (res := []) Go.Proofs.Tryz.func218 Go.Proofs.Tryz.call218 (by kernel_rfl) (by kernel_rfl) (by kernel_rfl) (by kernel_rfl) (by kernel_rfl)
/- (*quarry/hash.lanes).turn -/
def fb219 : AFunc2 := ⟨44, [], .seq (.draw [
⟨0, ⟨(some 7), .p (.mv (.t 0)), none⟩, 0, 0⟩,
⟨1, ⟨(some 8), .p (.nilCheck (.t 7)), none⟩, 1, 0⟩,
⟨2, ⟨(some 9), .p (.iaddrA 25 1 (.t 8) (.c (.w (.s (ni64 1))))), none⟩, 3, 0⟩,
⟨3, ⟨(some 10), .r (.load none (.t 9)), none⟩, 7, 0⟩,
⟨4, ⟨(some 2), .p (.mv (.c (.w (.s (ni64 1))))), none⟩, 0, 0⟩,
⟨5, ⟨(some 3), .p (.mv (.c (.w (.s (zi64))))), none⟩, 16, 0⟩,
⟨6, ⟨(some 4), .p (.mv (.t 10)), none⟩, 63, 0⟩]) (.seq (.reg [
oP w11 (pMv (gC (.w (.s (zi64)))))]) (.block 0 (.loop (.seq (.reg [
oK w12 (bCmp 2 lLt cGe true g11 (gC (.w (.s (ni64 24)))))]) (.seq (.cond g12 (.skip) (.exit 0)) (.seq (.block 1 (.seq (.reg [
oP w13 (pMv g11),
oP w5 (pMv g13)]) (.seq (.reg [
oP w14 (pMv g3),
oP w15 (pMv g2),
oP w16 (pAr 2 (gC (.w (.s (ni64 2)))) g15),
oP w17 (pMv g3),
oP w18 (pAr 2 (gC (.w (.s (ni64 3)))) g17),
oP w19 (pAr 0 g16 g18),
oP w20 (pGen fun φ t => opMd φ t (.t 19) (.c (.w (.s (ni64 5))))),
oP w2 (pMv g14),
oP w3 (pMv g20)]) (.seq (.reg [
oP w21 (pMv g2),
oP w22 (pMv g3),
oP w23 (pAr 2 (gC (.w (.s (ni64 5)))) g22),
oP w24 (pAr 0 g21 g23),
oP w6 (pMv g24)]) (.draw [
⟨0, ⟨(some 25), .p (.mv (.t 0)), none⟩, 0, 0⟩,
⟨1, ⟨(some 26), .p (.mv (.t 6)), none⟩, 0, 0⟩,
⟨2, ⟨(some 27), .p (.mv (.t 4)), none⟩, 0, 0⟩,
⟨3, ⟨(some 28), .p (.mv (.t 5)), none⟩, 0, 0⟩,
⟨4, ⟨(some 29), .p (.ar 0 (.t 28) (.c (.w (.s (ni64 1))))), none⟩, 8, 0⟩,
⟨5, ⟨(some 30), .p (.mv (.t 5)), none⟩, 0, 0⟩,
⟨6, ⟨(some 31), .p (.ar 0 (.t 30) (.c (.w (.s (ni64 2))))), none⟩, 32, 0⟩,
⟨7, ⟨(some 32), .p (.ar 2 (.t 29) (.t 31)), none⟩, 120, 0⟩,
⟨8, ⟨(some 33), .p (.dv (.t 32) (.c (.w (.s (ni64 2))))), none⟩, 248, 0⟩,
⟨9, ⟨(some 34), .p (.md (.t 33) (.c (.w (.s (ni64 64))))), none⟩, 504, 0⟩,
⟨11, ⟨(some 36), .p (.mv (.t 0)), none⟩, 0, 0⟩,
⟨12, ⟨(some 37), .p (.mv (.t 6)), none⟩, 0, 0⟩,
⟨13, ⟨(some 38), .p (.nilCheck (.t 36)), none⟩, 2048, 0⟩,
⟨14, ⟨(some 39), .p (.iaddrA 25 1 (.t 38) (.t 37)), none⟩, 14336, 0⟩,
⟨15, ⟨(some 40), .r (.load none (.t 39)), none⟩, 30720, 0⟩,
⟨16, ⟨(some 41), .p (.nilCheck (.t 25)), none⟩, 1, 0⟩,
⟨10, ⟨(some 35), .b (.call 264 [(.t 27), (.t 34)]), none⟩, 1020, 0⟩,
⟨17, ⟨(some 42), .p (.iaddrA 25 1 (.t 41) (.t 26)), none⟩, 131071, 0⟩,
⟨18, ⟨none, .b (.store 1 (.t 42) (.t 35)), none⟩, 262143, 0⟩,
⟨19, ⟨(some 4), .p (.mv (.t 40)), none⟩, 524287, 0⟩]))))) (.reg [
oP w43 (pAr 0 g11 (gC (.w (.s (ni64 1))))),
oP w11 (pMv g43)])))))))⟩
theorem fp219 : ∃ fn, fb219 = denF fn ∧ ∃ func code hint, FnOk Go.Proofs.Tryz.prog TT 219 fn func code hint := f2_mk (func := Go.Proofs.Tryz.f219) (code := bodyOf Go.Proofs.Tryz.f219) (hint := hintL [(0, [(0, 0), (1, 0), (2, 0), (3, 0), (4, 0), (5, 0), (6, 0)]), (6, [(0, 0), (1, 0), (2, 0), (3, 0), (4, 0), (5, 0), (6, 0), (7, 0), (8, 0), (9, 0), (11, 0), (12, 0), (13, 0), (14, 0), (15, 0), (16, 0), (10, 0), (17, 0), (18, 0), (19, 0)])]) (n := 44) (res := []) Go.Proofs.Tryz.func219 Go.Proofs.Tryz.call219 (by kernel_rfl) (by kernel_rfl) (by kernel_rfl) (by kernel_rfl) (by kernel_rfl)
/- (*quarry/hash.lanes).chi -/
def fb220 : AFunc2 := ⟨43, [], .seq (.reg [
oP w2 (pMv (gC (.w (.s (zi64)))))]) (.block 0 (.loop (.seq (.seq (.reg [
oP w5 (pMv g2),
oK w6 (bCmp 2 lLt cGe true g5 (gC (.w (.s (ni64 25)))))]) (.cond g6 (.skip) (.exit 0))) (.seq (.block 1 (.seq (.reg [
oP w9 (pMv g0),
oP w10 (pGen fun _ t => opNil t (.t 9)),
oP w11 (pMv g2),
oP w12 (pMv g2),
oP w13 (pAr 0 g12 (gC (.w (.s (ni64 5))))),
oP w14 (pGen fun _ t => opASlice t 25 1 (.t 10) (some (.t 11)) (some (.t 13))),
oP w15 (pGen fun _ t => opS2a t 5 (.t 14)),
oR w16 (rLoad (some 5) g15),
oAlloc w3 329 [zu64, zu64, zu64, zu64, zu64],
oK wZ (bSt 5 g3 g16)]) (.seq (.reg [
oP w17 (pMv (gC (.w (.s (zi64)))))]) (.block 2 (.loop (.seq (.reg [
oK w18 (bCmp 2 lLt cGe true g17 (gC (.w (.s (ni64 5)))))]) (.seq (.cond g18 (.skip) (.exit 2)) (.seq (.block 3 (.seq (.reg [
oP w19 (pMv g17),
oP w4 (pMv g19)]) (.draw [
⟨0, ⟨(some 20), .p (.mv (.t 0)), none⟩, 0, 0⟩,
⟨1, ⟨(some 21), .p (.mv (.t 2)), none⟩, 0, 0⟩,
⟨2, ⟨(some 22), .p (.mv (.t 4)), none⟩, 0, 0⟩,
⟨3, ⟨(some 23), .p (.ar 0 (.t 21) (.t 22)), none⟩, 6, 0⟩,
⟨4, ⟨(some 24), .p (.mv (.t 4)), none⟩, 0, 0⟩,
⟨5, ⟨(some 25), .p (.iaddrA 5 1 (.t 3) (.t 24)), none⟩, 16, 0⟩,
⟨6, ⟨(some 26), .r (.load none (.t 25)), none⟩, 48, 0⟩,
⟨7, ⟨(some 27), .p (.mv (.t 4)), none⟩, 0, 0⟩,
⟨8, ⟨(some 28), .p (.ar 0 (.t 27) (.c (.w (.s (ni64 1))))), none⟩, 128, 0⟩,
⟨9, ⟨(some 29), .p (.md (.t 28) (.c (.w (.s (ni64 5))))), none⟩, 384, 0⟩,
⟨10, ⟨(some 30), .p (.iaddrA 5 1 (.t 3) (.t 29)), none⟩, 896, 0⟩,
⟨11, ⟨(some 31), .r (.load none (.t 30)), none⟩, 1920, 0⟩,
⟨12, ⟨(some 32), .p (.bt 2 (.c (.w (.s (nu64 18446744073709551615)))) (.t 31)), none⟩, 3968, 0⟩,
⟨13, ⟨(some 33), .p (.mv (.t 4)), none⟩, 0, 0⟩,
⟨14, ⟨(some 34), .p (.ar 0 (.t 33) (.c (.w (.s (ni64 2))))), none⟩, 8192, 0⟩,
⟨15, ⟨(some 35), .p (.md (.t 34) (.c (.w (.s (ni64 5))))), none⟩, 24576, 0⟩,
⟨16, ⟨(some 36), .p (.iaddrA 5 1 (.t 3) (.t 35)), none⟩, 57344, 0⟩,
⟨17, ⟨(some 37), .r (.load none (.t 36)), none⟩, 122880, 0⟩,
⟨18, ⟨(some 38), .p (.bt 0 (.t 32) (.t 37)), none⟩, 262016, 0⟩,
⟨19, ⟨(some 39), .p (.bt 2 (.t 26) (.t 38)), none⟩, 524272, 0⟩,
⟨20, ⟨(some 40), .p (.nilCheck (.t 20)), none⟩, 1, 0⟩,
⟨21, ⟨(some 41), .p (.iaddrA 25 1 (.t 40) (.t 23)), none⟩, 2097151, 0⟩,
⟨22, ⟨none, .b (.store 1 (.t 41) (.t 39)), none⟩, 4194303, 0⟩]))) (.reg [
oP w42 (pAr 0 g17 (gC (.w (.s (ni64 1))))),
oP w17 (pMv g42)]))))))))) (.reg [
oP w7 (pMv g2),
oP w8 (pAr 0 g7 (gC (.w (.s (ni64 5))))),
oP w2 (pMv g8)])))))⟩
theorem fp220 : ∃ fn, fb220 = denF fn ∧ ∃ func code hint, FnOk Go.Proofs.Tryz.prog TT 220 fn func code hint := f2_mk (func := Go.Proofs.Tryz.f220) (code := bodyOf Go.Proofs.Tryz.f220) (hint := hintL [(7, [(0, 0), (1, 0), (2, 0), (3, 0), (4, 0), (5, 0), (6, 0), (7, 0), (8, 0), (9, 0), (10, 0), (11, 0), (12, 0), (13, 0), (14, 0), (15, 0), (16, 0), (17, 0), (18, 0), (19, 0), (20, 0), (21, 0), (22, 0)])]) (n := 43) (res := []) Go.Proofs.Tryz.func220 Go.Proofs.Tryz.call220 (by kernel_rfl) (by kernel_rfl) (by kernel_rfl) (by kernel_rfl) (by kernel_rfl)
/- math/bits.Len64 -/
def fb222 : AFunc2 := ⟨25, [.tmp g2], .seq (.reg [
oP w2 (pMv (gC (.w (.s (zi64)))))]) (.seq (.seq (.reg [
oP w3 (pMv g0),
oK w4 (bCmp 5 gLe cGe false g3 (gC (.w (.s (nu64 4294967296)))))]) (.cond g4 (.seq (.reg [
oP w5 (pMv g0),
oP w6 (pShr g5 (gC (.w (.s (nu64 32))))),
oP w0 (pMv g6)]) (.reg [
oP w2 (pMv (gC (.w (.s (ni64 32)))))])) (.skip))) (.seq (.seq (.reg [
oP w7 (pMv g0),
oK w8 (bCmp 5 gLe cGe false g7 (gC (.w (.s (nu64 65536)))))]) (.cond g8 (.seq (.reg [
oP w9 (pMv g0),
oP w10 (pShr g9 (gC (.w (.s (nu64 16))))),
oP w0 (pMv g10)]) (.reg [
oP w11 (pMv g2),
oP w12 (pAr 0 g11 (gC (.w (.s (ni64 16))))),
oP w2 (pMv g12)])) (.skip))) (.seq (.seq (.reg [
oP w13 (pMv g0),
oK w14 (bCmp 5 gLe cGe false g13 (gC (.w (.s (nu64 256)))))]) (.cond g14 (.seq (.reg [
oP w15 (pMv g0),
oP w16 (pShr g15 (gC (.w (.s (nu64 8))))),
oP w0 (pMv g16)]) (.reg [
oP w17 (pMv g2),
oP w18 (pAr 0 g17 (gC (.w (.s (ni64 8))))),
oP w2 (pMv g18)])) (.skip))) (.seq (.reg [
oP w19 (pMv g2),
oP w20 (pMv g0),
oP w21 (pConv .u8 g20),
oP w22 (pGen fun _ t => opSidx t [0, 1, 2, 2, 3, 3, 3, 3, 4, 4, 4, 4, 4, 4, 4, 4, 5, 5, 5, 5, 5, 5, 5, 5, 5, 5, 5, 5, 5, 5, 5, 5, 6, 6, 6, 6, 6, 6, 6, 6, 6, 6, 6, 6, 6, 6, 6, 6, 6, 6, 6, 6, 6, 6, 6, 6, 6, 6, 6, 6, 6, 6, 6, 6, 7, 7, 7, 7, 7, 7, 7, 7, 7, 7, 7, 7, 7, 7, 7, 7, 7, 7, 7, 7, 7, 7, 7, 7, 7, 7, 7, 7, 7, 7, 7, 7, 7, 7, 7, 7, 7, 7, 7, 7, 7, 7, 7, 7, 7, 7, 7, 7, 7, 7, 7, 7, 7, 7, 7, 7, 7, 7, 7, 7, 7, 7, 7, 7, 8, 8, 8, 8, 8, 8, 8, 8, 8, 8, 8, 8, 8, 8, 8, 8, 8, 8, 8, 8, 8, 8, 8, 8, 8, 8, 8, 8, 8, 8, 8, 8, 8, 8, 8, 8, 8, 8, 8, 8, 8, 8, 8, 8, 8, 8, 8, 8, 8, 8, 8, 8, 8, 8, 8, 8, 8, 8, 8, 8, 8, 8, 8, 8, 8, 8, 8, 8, 8, 8, 8, 8, 8, 8, 8, 8, 8, 8, 8, 8, 8, 8, 8, 8, 8, 8, 8, 8, 8, 8, 8, 8, 8, 8, 8, 8, 8, 8, 8, 8, 8, 8, 8, 8, 8, 8, 8, 8, 8, 8, 8, 8, 8, 8, 8, 8, 8, 8, 8, 8, 8, 8, 8, 8, 8, 8, 8, 8] (.t 21)),
oP w23 (pConv .i64 g22),
oP w24 (pAr 0 g19 g23),
oP w2 (pMv g24)]) (.ret)))))⟩
theorem fp222 : ∃ fn, fb222 = denF fn ∧ ∃ func code hint, FnOk Go.Proofs.Tryz.prog TT 222 fn func code hint := f2_mk (func := Go.Proofs.Tryz.f222) (code := bodyOf Go.Proofs.Tryz.f222) (hint := hintL []) (n := 25) (res := [.tmp 2]) Go.Proofs.Tryz.func222 Go.Proofs.Tryz.call222 (by kernel_rfl) (by kernel_rfl) (by kernel_rfl) (by kernel_rfl) (by kernel_rfl)
/- quarry/pre.linear -/
def fb224 : AFunc2 := ⟨29, [.tmp g6], .seq (.reg [
oP w6 (pMv (gC (.w (.s (zu64)))))]) (.seq (.reg [
oP w12 (pMv g1),
oP w13 (pMv g2),
oP w14 (pConv .u64 g13),
oCall w15 253 [g12, g14],
oP w11 (pMv g15),
oP w16 (pExt g11 0),
oP w17 (pExt g11 1),
oP w7 (pMv g16),
oP w8 (pMv g17)]) (.seq (.reg [
oP w19 (pMv g0),
oP w20 (pMv g8),
oCall w21 129 [g19, g20, (gC (.w (.s (zu64))))],
oP w18 (pMv g21),
oP w22 (pExt g18 0),
oP w23 (pExt g18 1),
oP w9 (pMv g22),
oP w10 (pMv g23)]) (.seq (.seq (.reg [
oP w24 (pMv g7),
oP w25 (pMv g10),
oP w26 (pAr 0 g24 g25),
oK w27 (bCmp 4 nLe .le true g26 (gC (.w (.s (zu64)))))]) (.cond g27 (.seq (.reg [
oP w6 (pMv (gC (.w (.s (nu64 18446744073709551615)))))]) (.ret)) (.skip))) (.seq (.reg [
oP w28 (pMv g9),
oP w6 (pMv g28)]) (.ret)))))⟩
theorem fp224 : ∃ fn, fb224 = denF fn ∧ ∃ func code hint, FnOk Go.Proofs.Tryz.prog TT 224 fn func code hint := f2_mk (func := Go.Proofs.Tryz.f224) (code := bodyOf Go.Proofs.Tryz.f224) (hint := hintL []) (n := 29) (res := [.tmp 6]) Go.Proofs.Tryz.func224 Go.Proofs.Tryz.call224 (by kernel_rfl) (by kernel_rfl) (by kernel_rfl) (by kernel_rfl) (by kernel_rfl)
/- slices.Clone[[]byte,byte] -/
def fb234 : AFunc2 := ⟨8, [.tmp g2], .seq (.reg [
oP w2 (pMv (gC (.w (.s (.nils)))))]) (.seq (.seq (.reg [
oP w3 (pMv g0),
oK w4 (b2 (fun x y s K => cmpA 0 .slice x y s fun b s => K (vBool b) s) g3 (gC (.w (.s (.nils)))))]) (.cond g4 (.seq (.reg [
oP w2 (pMv (gC (.w (.s (.nils)))))]) (.ret)) (.skip))) (.seq (.reg [
oM w5 (.bslice 5 0 [zu8] []),
oP w6 (pMv g0),
oK w7 (b2 (bAppend 5 1 1) g5 g6),
oP w2 (pMv g7)]) (.ret)))⟩
theorem fp234 : ∃ fn, fb234 = denF fn ∧ ∃ func code hint, FnOk Go.Proofs.Tryz.prog TT 234 fn func code hint := f2_mk (func := Go.Proofs.Tryz.f234) (code := bodyOf Go.Proofs.Tryz.f234) (hint := hintL []) (n := 8) (res := [.tmp 2]) Go.Proofs.Tryz.func234 Go.Proofs.Tryz.call234 (by kernel_rfl) (by kernel_rfl) (by kernel_rfl) (by kernel_rfl) (by kernel_rfl)
/- math/bits.Mul64 -/
def fb253 : AFunc2 := ⟨51, [.tmp g4, .tmp g5], .seq (.reg [
oP w4 (pMv (gC (.w (.s (zu64))))),
oP w5 (pMv (gC (.w (.s (zu64)))))]) (.seq (.reg [
oP w14 (pMv g0),
oP w15 (pBt 0 g14 (gC (.w (.s (nu64 4294967295))))),
oP w6 (pMv g15)]) (.seq (.reg [
oP w16 (pMv g0),
oP w17 (pShr g16 (gC (.w (.s (nu64 32))))),
oP w7 (pMv g17)]) (.seq (.reg [
oP w18 (pMv g1),
oP w19 (pBt 0 g18 (gC (.w (.s (nu64 4294967295))))),
oP w8 (pMv g19)]) (.seq (.reg [
oP w20 (pMv g1),
oP w21 (pShr g20 (gC (.w (.s (nu64 32))))),
oP w9 (pMv g21)]) (.seq (.reg [
oP w22 (pMv g6),
oP w23 (pMv g8),
oP w24 (pAr 2 g22 g23),
oP w10 (pMv g24)]) (.seq (.reg [
oP w25 (pMv g7),
oP w26 (pMv g8),
oP w27 (pAr 2 g25 g26),
oP w28 (pMv g10),
oP w29 (pShr g28 (gC (.w (.s (nu64 32))))),
oP w30 (pAr 0 g27 g29),
oP w11 (pMv g30)]) (.seq (.reg [
oP w31 (pMv g11),
oP w32 (pBt 0 g31 (gC (.w (.s (nu64 4294967295))))),
oP w12 (pMv g32)]) (.seq (.reg [
oP w33 (pMv g11),
oP w34 (pShr g33 (gC (.w (.s (nu64 32))))),
oP w13 (pMv g34)]) (.seq (.reg [
oP w35 (pMv g12),
oP w36 (pMv g6),
oP w37 (pMv g9),
oP w38 (pAr 2 g36 g37),
oP w39 (pAr 0 g35 g38),
oP w12 (pMv g39)]) (.seq (.reg [
oP w40 (pMv g7),
oP w41 (pMv g9),
oP w42 (pAr 2 g40 g41),
oP w43 (pMv g13),
oP w44 (pAr 0 g42 g43),
oP w45 (pMv g12),
oP w46 (pShr g45 (gC (.w (.s (nu64 32))))),
oP w47 (pAr 0 g44 g46),
oP w4 (pMv g47)]) (.seq (.reg [
oP w48 (pMv g0),
oP w49 (pMv g1),
oP w50 (pAr 2 g48 g49),
oP w5 (pMv g50)]) (.ret))))))))))))⟩
theorem fp253 : ∃ fn, fb253 = denF fn ∧ ∃ func code hint, FnOk Go.Proofs.Tryz.prog TT 253 fn func code hint := f2_mk (func := Go.Proofs.Tryz.f253) (code := bodyOf Go.Proofs.Tryz.f253) (hint := hintL []) (n := 51) (res := [.tmp 4, .tmp 5]) Go.Proofs.Tryz.func253 Go.Proofs.Tryz.call253 (by kernel_rfl) (by kernel_rfl) (by kernel_rfl) (by kernel_rfl) (by kernel_rfl)
/- quarry/limb.DivMod -/
def fb254 : AFunc2 := ⟨102, [.tmp g4, .tmp g5], .seq (.reg [
oP w4 (pMv (gC (.w (.s (.nils))))),
oP w5 (pMv (gC (.w (.s (.nils)))))]) (.seq (.reg [
oP w13 (pMv g0),
oCall w14 296 [g13],
oP w15 (pMv g1),
oCall w16 296 [g15],
oP w0 (pMv g14),
oP w1 (pMv g16)]) (.seq (.reg [
oP w17 (pMv g1),
oP w18 (pGen fun _ t => opLen t (.t 17)),
oP w19 (pMv g0),
oP w20 (pGen fun _ t => opLen t (.t 19)),
oP w6 (pMv g18),
oP w7 (pMv g20)]) (.seq (.seq (.reg [
oP w21 (pMv g7),
oP w22 (pMv g6),
oK w23 (bCmp 2 lLt cGe true g21 g22)]) (.cond g23 (.seq (.reg [
oP w24 (pMv g0),
oK w25 (b2 (bAppend 22 1 8) (gC (.w (.s (.nils)))) g24),
oCall w26 296 [g25],
oP w4 (pMv (gC (.w (.s (.nils))))),
oP w5 (pMv g26)]) (.ret)) (.skip))) (.seq (.reg [
oP w27 (pMv g1),
oP w28 (pMv g6),
oP w29 (pAr 1 g28 (gC (.w (.s (ni64 1))))),
oP w30 (pIaddrS 1 g27 g29),
oR w31 (rLoad none g30),
oCall w32 325 [g31],
oP w8 (pMv g32)]) (.seq (.reg [
oP w33 (pMv g1),
oP w34 (pMv g8),
oP w35 (pMv g6),
oCall w36 326 [g33, g34, g35],
oP w37 (pMv g0),
oP w38 (pMv g8),
oP w39 (pMv g7),
oP w40 (pAr 0 g39 (gC (.w (.s (ni64 1))))),
oCall w41 326 [g37, g38, g40],
oP w9 (pMv g36),
oP w10 (pMv g41)]) (.seq (.reg [
oP w42 (pMv g7),
oP w43 (pMv g6),
oP w44 (pAr 1 g42 g43),
oP w45 (pAr 0 g44 (gC (.w (.s (ni64 1))))),
oM w46 (.mkslice 22 8 [zu64] (.t 45) (.t 45)),
oP w4 (pMv g46)]) (.seq (.seq (.reg [
oP w47 (pMv g7),
oP w48 (pMv g6),
oP w49 (pAr 1 g47 g48),
oP w11 (pMv g49)]) (.block 0 (.loop (.seq (.seq (.reg [
oP w50 (pMv g11),
oK w51 (bCmp 5 gLe cGe false g50 (gC (.w (.s (zi64)))))]) (.cond g51 (.skip) (.exit 0))) (.seq (.block 1 (.reg [
oP w54 (pMv g4),
oP w55 (pMv g11),
oP w56 (pMv g10),
oP w57 (pMv g11),
oP w58 (pMv g11),
oP w59 (pMv g6),
oP w60 (pAr 0 g58 g59),
oP w61 (pAr 0 g60 (gC (.w (.s (ni64 1))))),
oP w62 (pGen fun _ t => opSlice t 1 (.t 56) (some (.t 57)) (some (.t 61))),
oP w63 (pMv g9),
oCall w64 327 [g62, g63],
oP w65 (pIaddrS 1 g54 g55),
oK wZ (bSt 1 g65 g64)])) (.reg [
oP w52 (pMv g11),
oP w53 (pAr 1 g52 (gC (.w (.s (ni64 1))))),
oP w11 (pMv g53)])))))) (.seq (.reg [
oP w66 (pMv g6),
oM w67 (.mkslice 22 8 [zu64] (.t 66) (.t 66)),
oP w5 (pMv g67)]) (.seq (.seq (.reg [
oP w68 (pMv g6),
oP w69 (pMv (gC (.w (.s (zi64)))))]) (.block 2 (.loop (.seq (.reg [
oK w70 (bCmp 2 lLt cGe true g69 g68)]) (.seq (.cond g70 (.skip) (.exit 2)) (.seq (.block 3 (.seq (.reg [
oP w71 (pMv g69),
oP w12 (pMv g71)]) (.seq (.reg [
oP w72 (pMv g5),
oP w73 (pMv g12),
oP w74 (pMv g10),
oP w75 (pMv g12),
oP w76 (pIaddrS 1 g74 g75),
oR w77 (rLoad none g76),
oP w78 (pMv g8),
oP w79 (pShr g77 g78),
oP w80 (pIaddrS 1 g72 g73),
oK wZ (bSt 1 g80 g79)]) (.seq (.reg [
oP w81 (pMv g8),
oK w82 (bCmp 4 nLe .le true g81 (gC (.w (.s (zi64)))))]) (.cond g82 (.draw [
⟨0, ⟨(some 83), .p (.mv (.t 5)), none⟩, 0, 0⟩,
⟨1, ⟨(some 84), .p (.mv (.t 12)), none⟩, 0, 0⟩,
⟨2, ⟨(some 85), .p (.iaddrS 1 (.t 83) (.t 84)), none⟩, 3, 0⟩,
⟨3, ⟨(some 86), .r (.load none (.t 85)), none⟩, 7, 0⟩,
⟨4, ⟨(some 87), .p (.mv (.t 10)), none⟩, 0, 0⟩,
⟨5, ⟨(some 88), .p (.mv (.t 12)), none⟩, 0, 0⟩,
⟨6, ⟨(some 89), .p (.ar 0 (.t 88) (.c (.w (.s (ni64 1))))), none⟩, 32, 0⟩,
⟨7, ⟨(some 90), .p (.iaddrS 1 (.t 87) (.t 89)), none⟩, 112, 0⟩,
⟨8, ⟨(some 91), .r (.load none (.t 90)), none⟩, 240, 0⟩,
⟨9, ⟨(some 92), .p (.mv (.t 8)), none⟩, 0, 0⟩,
⟨10, ⟨(some 93), .p (.ar 1 (.c (.w (.s (ni64 64)))) (.t 92)), none⟩, 512, 0⟩,
⟨11, ⟨(some 94), .p (.shl (.t 91) (.t 93)), none⟩, 2032, 0⟩,
⟨12, ⟨(some 95), .p (.bt 1 (.t 86) (.t 94)), none⟩, 4095, 0⟩,
⟨13, ⟨(some 96), .p (.iaddrS 1 (.t 83) (.t 84)), none⟩, 8191, 0⟩,
⟨14, ⟨none, .b (.store 1 (.t 96) (.t 95)), none⟩, 16383, 0⟩]) (.skip)))))) (.reg [
oP w97 (pAr 0 g69 (gC (.w (.s (ni64 1))))),
oP w69 (pMv g97)]))))))) (.seq (.reg [
oP w98 (pMv g4),
oCall w99 296 [g98],
oP w100 (pMv g5),
oCall w101 296 [g100],
oP w4 (pMv g99),
oP w5 (pMv g101)]) (.ret)))))))))))⟩
theorem fp254 : ∃ fn, fb254 = denF fn ∧ ∃ func code hint, FnOk Go.Proofs.Tryz.prog TT 254 fn func code hint := f2_mk (func := Go.Proofs.Tryz.f254) (code := bodyOf Go.Proofs.Tryz.f254) (hint := hintL [(18, [(0, 0), (1, 0), (2, 0), (3, 0), (4, 0), (5, 0), (6, 0), (7, 0), (8, 0), (9, 0), (10, 0), (11, 0), (12, 0), (13, 0), (14, 0)])]) (n := 102) (res := [.tmp 4, .tmp 5]) Go.Proofs.Tryz.func254 Go.Proofs.Tryz.call254 (by kernel_rfl) (by kernel_rfl) (by kernel_rfl) (by kernel_rfl) (by kernel_rfl)
/- quarry/gas.memory -/
def fb255 : AFunc2 := ⟨19, [.tmp g2], .seq (.reg [
oP w2 (pMv (gC (.w (.s (zu64)))))]) (.seq (.reg [
oP w6 (pMv g0),
oP w7 (pMv g0),
oCall w8 253 [g6, g7],
oP w5 (pMv g8),
oP w9 (pExt g5 0),
oP w10 (pExt g5 1),
oP w3 (pMv g9),
oP w4 (pMv g10)]) (.seq (.reg [
oP w11 (pMv g0),
oP w12 (pAr 2 (gC (.w (.s (nu64 3)))) g11),
oP w13 (pMv g3),
oP w14 (pShl g13 (gC (.w (.s (nu64 55))))),
oP w15 (pMv g4),
oP w16 (pShr g15 (gC (.w (.s (nu64 9))))),
oP w17 (pBt 1 g14 g16),
oP w18 (pAr 0 g12 g17),
oP w2 (pMv g18)]) (.ret)))⟩
theorem fp255 : ∃ fn, fb255 = denF fn ∧ ∃ func code hint, FnOk Go.Proofs.Tryz.prog TT 255 fn func code hint := f2_mk (func := Go.Proofs.Tryz.f255) (code := bodyOf Go.Proofs.Tryz.f255) (hint := hintL []) (n := 19) (res := [.tmp 2]) Go.Proofs.Tryz.func255 Go.Proofs.Tryz.call255 (by kernel_rfl) (by kernel_rfl) (by kernel_rfl) (by kernel_rfl) (by kernel_rfl)
/- (*quarry/state.State).refunded -/
def fb257 : AFunc2 := ⟨18, [], .seq (.reg [
oBox w2 40 g0]) (.seq (.reg [
oR w5 (rLoad none g2),
oP w6 (pGen fun _ t => opNil t (.t 5)),
oP w7 (pFaddr 1 g6),
oP w8 (pFaddr 7 g7),
oR w9 (rLoad none g8),
oAlloc w4 22 [zu64],
oK wZ (bSt 1 g4 g9)]) (.seq (.reg [
oR w10 (rLoad none g2),
oP w11 (pMv g1),
oP w12 (pGen fun _ t => opNil t (.t 10)),
oP w13 (pFaddr 1 g12),
oP w14 (pFaddr 7 g13),
oK wZ (bSt 1 g14 g11)]) (.reg [
oR w15 (rLoad none g2),
oP w16 (pGen fun _ t => opMkfn t 328 [(.t 4), (.t 2)]),
oCall w17 88 [g15, g16]])))⟩
theorem fp257 : ∃ fn, fb257 = denF fn ∧ ∃ func code hint, FnOk Go.Proofs.Tryz.prog TT 257 fn func code hint := f2_mk (func := Go.Proofs.Tryz.f257) (code := bodyOf Go.Proofs.Tryz.f257) (hint := hintL []) (n := 18) (res := []) Go.Proofs.Tryz.func257 Go.Proofs.Tryz.call257 (by kernel_rfl) (by kernel_rfl) (by kernel_rfl) (by kernel_rfl) (by kernel_rfl)
/- quarry/state.put[quarry/api.Word,quarry/api.Word] -/
def fb258 : AFunc2 := ⟨22, [], .seq (.reg [
oBox w5 95 g1,
oBox w6 24 g2,
oBox w7 24 g3]) (.seq (.reg [
oR w11 (rLoad none g5),
oR w12 (rLoad (some 4) g6),
oR w13 (rGen fun t s => match s with | .mk _ _ φ => opLook φ t s (.one (.arr 4 22 .u64)) (.agg [zu64, zu64, zu64, zu64]) (.t 11) (.t 12) true),
oP w10 (pMv g13),
oP w14 (pExt g10 0),
oP w15 (pExt g10 1),
oAlloc w8 24 [zu64, zu64, zu64, zu64],
oAlloc w9 4 [.bool false],
oK wZ (bSt 4 g8 g14),
oK wZ (bSt 1 g9 g15)]) (.seq (.reg [
oR w16 (rLoad none g5),
oR w17 (rLoad (some 4) g6),
oR w18 (rLoad (some 4) g7),
oK wZ (b3 (bMupd (.one (.arr 4 22 .u64))) g16 g17 g18)]) (.reg [
oP w19 (pMv g0),
oP w20 (pGen fun _ t => opMkfn t 329 [(.t 9), (.t 8), (.t 5), (.t 6)]),
oCall w21 88 [g19, g20]])))⟩
theorem fp258 : ∃ fn, fb258 = denF fn ∧ ∃ func code hint, FnOk Go.Proofs.Tryz.prog TT 258 fn func code hint := f2_mk (func := Go.Proofs.Tryz.f258) (code := bodyOf Go.Proofs.Tryz.f258) (hint := hintL []) (n := 22) (res := []) Go.Proofs.Tryz.func258 Go.Proofs.Tryz.call258 (by kernel_rfl) (by kernel_rfl) (by kernel_rfl) (by kernel_rfl) (by kernel_rfl)
/- quarry/code.own -/
def fb259 : AFunc2 := ⟨12, [.tmp g2], .seq (.reg [
oP w2 (pMv (gC (.w (.s (zi64)))))]) (.seq (.seq (.reg [
oP w3 (pMv g0),
oK w4 (bCmp 4 nLe .le true g3 (gC (.w (.s (nu8 95))))),
oP w5 (pMv g4),
oGd g5 true w6 (oP w6 (pMv g0)),
oGd g5 true w7 (oK w7 (bCmp 3 intLe .le false g6 (gC (.w (.s (nu8 127)))))),
oP w8 (pGen fun _ t => opPick t (.t 5) (.t 7) (.c (.w (.s (.bool false)))))]) (.cond g8 (.seq (.reg [
oP w9 (pMv g0),
oP w10 (pConv .i64 g9),
oP w11 (pAr 1 g10 (gC (.w (.s (ni64 95))))),
oP w2 (pMv g11)]) (.ret)) (.skip))) (.seq (.reg [
oP w2 (pMv (gC (.w (.s (zi64)))))]) (.ret)))⟩
theorem fp259 : ∃ fn, fb259 = denF fn ∧ ∃ func code hint, FnOk Go.Proofs.Tryz.prog TT 259 fn func code hint := f2_mk (func := Go.Proofs.Tryz.f259) (code := bodyOf Go.Proofs.Tryz.f259) (hint := hintL []) (n := 12) (res := [.tmp 2]) Go.Proofs.Tryz.func259 Go.Proofs.Tryz.call259 (by kernel_rfl) (by kernel_rfl) (by kernel_rfl) (by kernel_rfl) (by kernel_rfl)
/- (*quarry/vm.frame).sent$1 -/
def fb261 : AFunc2 := ⟨0, [], .skip⟩
theorem fp261 : ∃ fn, fb261 = denF fn ∧ ∃ func code hint, FnOk Go.Proofs.Tryz.prog TT 261 fn func code hint := f2_mk (func := Go.Proofs.Tryz.f261) (code := bodyOf Go.Proofs.Tryz.f261) (hint := hintL []) (n := 0) (res := []) Go.Proofs.Tryz.func261 Go.Proofs.Tryz.call261 (by kernel_rfl) (by kernel_rfl) (by kernel_rfl) (by kernel_rfl) (by kernel_rfl)
/- (*quarry/vm.frame).sent$2 -/
def fb262 : AFunc2 := ⟨0, [], .skip⟩
theorem fp262 : ∃ fn, fb262 = denF fn ∧ ∃ func code hint, FnOk Go.Proofs.Tryz.prog TT 262 fn func code hint := f2_mk (func := Go.Proofs.Tryz.f262) (code := bodyOf Go.Proofs.Tryz.f262) (hint := hintL []) (n := 0) (res := []) Go.Proofs.Tryz.func262 Go.Proofs.Tryz.call262 (by kernel_rfl) (by kernel_rfl) (by kernel_rfl) (by kernel_rfl) (by kernel_rfl)
/- (*quarry/vm.frame).sent$3 -/
def fb263 : AFunc2 := ⟨12, [], .draw [
⟨0, ⟨(some 2), .r (.load none (.t 0)), none⟩, 0, 0⟩,
⟨1, ⟨(some 3), .p (.nilCheck (.t 2)), none⟩, 1, 0⟩,
⟨2, ⟨(some 4), .p (.faddr 0 (.t 3)), none⟩, 3, 0⟩,
⟨3, ⟨(some 5), .r (.load none (.t 4)), none⟩, 7, 0⟩,
⟨4, ⟨(some 6), .p (.nilCheck (.t 5)), none⟩, 15, 0⟩,
⟨5, ⟨(some 7), .p (.faddr 89 (.t 6)), none⟩, 31, 0⟩,
⟨6, ⟨(some 8), .r (.load none (.t 7)), none⟩, 63, 0⟩,
⟨7, ⟨(some 9), .p (.faddr 20 (.t 1)), none⟩, 0, 0⟩,
⟨8, ⟨(some 10), .r (.load (some 20) (.t 9)), none⟩, 128, 0⟩,
⟨9, ⟨(some 11), .b (.call 84 [(.t 8), (.t 10)]), none⟩, 511, 0⟩]⟩
theorem fp263 : ∃ fn, fb263 = denF fn ∧ ∃ func code hint, FnOk Go.Proofs.Tryz.prog TT 263 fn func code hint := f2_mk (func := Go.Proofs.Tryz.f263) (code := bodyOf Go.Proofs.Tryz.f263) (hint := hintL [(0, [(0, 0), (1, 0), (2, 0), (3, 0), (4, 0), (5, 0), (6, 0), (7, 0), (8, 0), (9, 0)])]) (n := 12) (res := []) Go.Proofs.Tryz.func263 Go.Proofs.Tryz.call263 (by kernel_rfl) (by kernel_rfl) (by kernel_rfl) (by kernel_rfl) (by kernel_rfl)
/- math/bits.RotateLeft64 -/
def fb264 : AFunc2 := ⟨17, [.tmp g4], .seq (.reg [
oP w4 (pMv (gC (.w (.s (zu64)))))]) (.seq (.reg [
oP w6 (pMv g1),
oP w7 (pConv .u64 g6),
oP w8 (pBt 0 g7 (gC (.w (.s (nu64 63))))),
oP w5 (pMv g8)]) (.seq (.reg [
oP w9 (pMv g0),
oP w10 (pMv g5),
oP w11 (pShl g9 g10),
oP w12 (pMv g0),
oP w13 (pMv g5),
oP w14 (pAr 1 (gC (.w (.s (nu64 64)))) g13),
oP w15 (pShr g12 g14),
oP w16 (pBt 1 g11 g15),
oP w4 (pMv g16)]) (.ret)))⟩
theorem fp264 : ∃ fn, fb264 = denF fn ∧ ∃ func code hint, FnOk Go.Proofs.Tryz.prog TT 264 fn func code hint := f2_mk (func := Go.Proofs.Tryz.f264) (code := bodyOf Go.Proofs.Tryz.f264) (hint := hintL []) (n := 17) (res := [.tmp 4]) Go.Proofs.Tryz.func264 Go.Proofs.Tryz.call264 (by kernel_rfl) (by kernel_rfl) (by kernel_rfl) (by kernel_rfl) (by kernel_rfl)
/- quarry/limb.Trim -/
def fb296 : AFunc2 := ⟨22, [.tmp g2], .seq (.reg [
oP w2 (pMv (gC (.w (.s (.nils)))))]) (.seq (.reg [
oP w4 (pMv g0),
oP w5 (pGen fun _ t => opLen t (.t 4)),
oP w3 (pMv g5)]) (.seq (.block 0 (.loop (.seq (.seq (.reg [
oP w6 (pMv g3),
oK w7 (bCmp 4 nLe .le true g6 (gC (.w (.s (zi64))))),
oP w8 (pMv g7),
oGd g8 true w9 (oP w9 (pMv g0)),
oGd g8 true w10 (oP w10 (pMv g3)),
oGd g8 true w11 (oP w11 (pAr 1 g10 (gC (.w (.s (ni64 1)))))),
oGd g8 true w12 (oP w12 (pIaddrS 1 g9 g11)),
oGd g8 true w13 (oR w13 (rLoad none g12)),
oGd g8 true w14 (oK w14 (bCmp 0 intEq .eq false g13 (gC (.w (.s (zu64)))))),
oP w15 (pGen fun _ t => opPick t (.t 8) (.t 14) (.c (.w (.s (.bool false)))))]) (.cond g15 (.skip) (.exit 0))) (.block 1 (.reg [
oP w16 (pMv g3),
oP w17 (pAr 1 g16 (gC (.w (.s (ni64 1))))),
oP w3 (pMv g17)]))))) (.seq (.reg [
oP w18 (pMv g0),
oP w19 (pMv g3),
oP w20 (pMv g3),
oP w21 (pGen fun _ t => opSlice3 t (.t 18) (.t 19) (.t 20)),
oP w2 (pMv g21)]) (.ret))))⟩
theorem fp296 : ∃ fn, fb296 = denF fn ∧ ∃ func code hint, FnOk Go.Proofs.Tryz.prog TT 296 fn func code hint := f2_mk (func := Go.Proofs.Tryz.f296) (code := bodyOf Go.Proofs.Tryz.f296) (hint := hintL []) (n := 22) (res := [.tmp 2]) Go.Proofs.Tryz.func296 Go.Proofs.Tryz.call296 (by kernel_rfl) (by kernel_rfl) (by kernel_rfl) (by kernel_rfl) (by kernel_rfl)
/- math/bits.LeadingZeros64 -/
def fb325 : AFunc2 := ⟨6, [.tmp g2], .seq (.reg [
oP w2 (pMv (gC (.w (.s (zi64)))))]) (.seq (.reg [
oP w3 (pMv g0),
oCall w4 222 [g3],
oP w5 (pAr 1 (gC (.w (.s (ni64 64)))) g4),
oP w2 (pMv g5)]) (.ret))⟩
theorem fp325 : ∃ fn, fb325 = denF fn ∧ ∃ func code hint, FnOk Go.Proofs.Tryz.prog TT 325 fn func code hint := f2_mk (func := Go.Proofs.Tryz.f325) (code := bodyOf Go.Proofs.Tryz.f325) (hint := hintL []) (n := 6) (res := [.tmp 2]) Go.Proofs.Tryz.func325 Go.Proofs.Tryz.call325 (by kernel_rfl) (by kernel_rfl) (by kernel_rfl) (by kernel_rfl) (by kernel_rfl)
/- quarry/limb.shifted -/
def fb326 : AFunc2 := ⟨48, [.tmp g6], .seq (.reg [
oP w6 (pMv (gC (.w (.s (.nils)))))]) (.seq (.reg [
oP w9 (pMv g2),
oM w10 (.mkslice 22 8 [zu64] (.t 9) (.t 9)),
oP w7 (pMv g10)]) (.seq (.reg [
oP w11 (pMv g7),
oP w12 (pMv g0),
oK w13 (b2 (bCopy 1) g11 g12)]) (.seq (.seq (.reg [
oP w14 (pMv g2),
oP w15 (pAr 1 g14 (gC (.w (.s (ni64 1))))),
oP w8 (pMv g15)]) (.block 0 (.loop (.seq (.seq (.reg [
oP w16 (pMv g8),
oK w17 (bCmp 5 gLe cGe false g16 (gC (.w (.s (zi64))))),
oP w18 (pMv g17),
oGd g18 true w19 (oP w19 (pMv g1)),
oGd g18 true w20 (oK w20 (bCmp 4 nLe .le true g19 (gC (.w (.s (zi64)))))),
oP w21 (pGen fun _ t => opPick t (.t 18) (.t 20) (.c (.w (.s (.bool false)))))]) (.cond g21 (.skip) (.exit 0))) (.seq (.block 1 (.seq (.reg [
oP w24 (pMv g7),
oP w25 (pMv g8),
oP w26 (pIaddrS 1 g24 g25),
oR w27 (rLoad none g26),
oP w28 (pMv g1),
oP w29 (pShl g27 g28),
oP w30 (pIaddrS 1 g24 g25),
oK wZ (bSt 1 g30 g29)]) (.seq (.reg [
oP w31 (pMv g8),
oK w32 (bCmp 4 nLe .le true g31 (gC (.w (.s (zi64)))))]) (.cond g32 (.draw [
⟨0, ⟨(some 33), .p (.mv (.t 7)), none⟩, 0, 0⟩,
⟨1, ⟨(some 34), .p (.mv (.t 8)), none⟩, 0, 0⟩,
⟨2, ⟨(some 35), .p (.iaddrS 1 (.t 33) (.t 34)), none⟩, 3, 0⟩,
⟨3, ⟨(some 36), .r (.load none (.t 35)), none⟩, 7, 0⟩,
⟨4, ⟨(some 37), .p (.mv (.t 7)), none⟩, 0, 0⟩,
⟨5, ⟨(some 38), .p (.mv (.t 8)), none⟩, 0, 0⟩,
⟨6, ⟨(some 39), .p (.ar 1 (.t 38) (.c (.w (.s (ni64 1))))), none⟩, 32, 0⟩,
⟨7, ⟨(some 40), .p (.iaddrS 1 (.t 37) (.t 39)), none⟩, 112, 0⟩,
⟨8, ⟨(some 41), .r (.load none (.t 40)), none⟩, 240, 0⟩,
⟨9, ⟨(some 42), .p (.mv (.t 1)), none⟩, 0, 0⟩,
⟨10, ⟨(some 43), .p (.ar 1 (.c (.w (.s (ni64 64)))) (.t 42)), none⟩, 512, 0⟩,
⟨11, ⟨(some 44), .p (.sr (.t 41) (.t 43)), none⟩, 2032, 0⟩,
⟨12, ⟨(some 45), .p (.bt 1 (.t 36) (.t 44)), none⟩, 4095, 0⟩,
⟨13, ⟨(some 46), .p (.iaddrS 1 (.t 33) (.t 34)), none⟩, 8191, 0⟩,
⟨14, ⟨none, .b (.store 1 (.t 46) (.t 45)), none⟩, 16383, 0⟩]) (.skip))))) (.reg [
oP w22 (pMv g8),
oP w23 (pAr 1 g22 (gC (.w (.s (ni64 1))))),
oP w8 (pMv g23)])))))) (.seq (.reg [
oP w47 (pMv g7),
oP w6 (pMv g47)]) (.ret)))))⟩
theorem fp326 : ∃ fn, fb326 = denF fn ∧ ∃ func code hint, FnOk Go.Proofs.Tryz.prog TT 326 fn func code hint := f2_mk (func := Go.Proofs.Tryz.f326) (code := bodyOf Go.Proofs.Tryz.f326) (hint := hintL [(8, [(0, 0), (1, 0), (2, 0), (3, 0), (4, 0), (5, 0), (6, 0), (7, 0), (8, 0), (9, 0), (10, 0), (11, 0), (12, 0), (13, 0), (14, 0)])]) (n := 48) (res := [.tmp 6]) Go.Proofs.Tryz.func326 Go.Proofs.Tryz.call326 (by kernel_rfl) (by kernel_rfl) (by kernel_rfl) (by kernel_rfl) (by kernel_rfl)
/- quarry/limb.step -/
def fb327 : AFunc2 := ⟨137, [.tmp g4], .seq (.reg [
oP w4 (pMv (gC (.w (.s (zu64)))))]) (.seq (.reg [
oP w15 (pMv g1),
oP w16 (pGen fun _ t => opLen t (.t 15)),
oP w5 (pMv g16)]) (.seq (.reg [
oP w6 (pMv (gC (.w (.s (nu64 18446744073709551615)))))]) (.seq (.seq (.draw [
⟨0, ⟨(some 17), .p (.mv (.t 0)), none⟩, 0, 0⟩,
⟨1, ⟨(some 18), .p (.mv (.t 5)), none⟩, 0, 0⟩,
⟨2, ⟨(some 19), .p (.iaddrS 1 (.t 17) (.t 18)), none⟩, 3, 0⟩,
⟨3, ⟨(some 20), .r (.load none (.t 19)), none⟩, 7, 0⟩,
⟨4, ⟨(some 21), .p (.mv (.t 1)), none⟩, 0, 0⟩,
⟨5, ⟨(some 22), .p (.mv (.t 5)), none⟩, 0, 0⟩,
⟨6, ⟨(some 23), .p (.ar 1 (.t 22) (.c (.w (.s (ni64 1))))), none⟩, 32, 0⟩,
⟨7, ⟨(some 24), .p (.iaddrS 1 (.t 21) (.t 23)), none⟩, 112, 0⟩,
⟨8, ⟨(some 25), .r (.load none (.t 24)), none⟩, 240, 0⟩,
⟨9, ⟨(some 26), .b (.cmp 2 .int (.t 20) (.t 25)), none⟩, 511, 0⟩]) (.cond g26 (.draw [
⟨0, ⟨(some 28), .p (.mv (.t 0)), none⟩, 0, 0⟩,
⟨1, ⟨(some 29), .p (.mv (.t 5)), none⟩, 0, 0⟩,
⟨2, ⟨(some 30), .p (.iaddrS 1 (.t 28) (.t 29)), none⟩, 3, 0⟩,
⟨3, ⟨(some 31), .r (.load none (.t 30)), none⟩, 7, 0⟩,
⟨4, ⟨(some 32), .p (.mv (.t 0)), none⟩, 0, 0⟩,
⟨5, ⟨(some 33), .p (.mv (.t 5)), none⟩, 0, 0⟩,
⟨6, ⟨(some 34), .p (.ar 1 (.t 33) (.c (.w (.s (ni64 1))))), none⟩, 32, 0⟩,
⟨7, ⟨(some 35), .p (.iaddrS 1 (.t 32) (.t 34)), none⟩, 112, 0⟩,
⟨8, ⟨(some 36), .r (.load none (.t 35)), none⟩, 240, 0⟩,
⟨9, ⟨(some 37), .p (.mv (.t 1)), none⟩, 0, 0⟩,
⟨10, ⟨(some 38), .p (.mv (.t 5)), none⟩, 0, 0⟩,
⟨11, ⟨(some 39), .p (.ar 1 (.t 38) (.c (.w (.s (ni64 1))))), none⟩, 1024, 0⟩,
⟨12, ⟨(some 40), .p (.iaddrS 1 (.t 37) (.t 39)), none⟩, 3584, 0⟩,
⟨13, ⟨(some 41), .r (.load none (.t 40)), none⟩, 7680, 0⟩,
⟨14, ⟨(some 42), .b (.call 382 [(.t 31), (.t 36), (.t 41)]), none⟩, 16383, 0⟩,
⟨15, ⟨(some 27), .p (.mv (.t 42)), none⟩, 32767, 0⟩,
⟨16, ⟨(some 43), .p (.ext (.t 27) 0), none⟩, 65535, 0⟩,
⟨17, ⟨(some 44), .p (.ext (.t 27) 1), none⟩, 65535, 0⟩,
⟨18, ⟨(some 6), .p (.mv (.t 43)), none⟩, 131071, 0⟩]) (.skip))) (.seq (.reg [
oP w7 (pMv (gC (.w (.s (zu64))))),
oP w8 (pMv (gC (.w (.s (zu64)))))]) (.seq (.seq (.reg [
oP w45 (pMv g1),
oP w46 (pGen fun _ t => opLen t (.t 45)),
oP w47 (pMv (gC (.w (.s (zi64)))))]) (.block 0 (.loop (.seq (.reg [
oK w48 (bCmp 2 lLt cGe true g47 g46)]) (.seq (.cond g48 (.skip) (.exit 0)) (.seq (.block 1 (.seq (.reg [
oP w49 (pMv g47),
oP w9 (pMv g49)]) (.seq (.reg [
oP w51 (pMv g6),
oP w52 (pMv g1),
oP w53 (pMv g9),
oP w54 (pIaddrS 1 g52 g53),
oR w55 (rLoad none g54),
oCall w56 253 [g51, g55],
oP w50 (pMv g56),
oP w57 (pExt g50 0),
oP w58 (pExt g50 1),
oP w10 (pMv g57),
oP w11 (pMv g58)]) (.seq (.reg [
oP w12 (pMv (gC (.w (.s (zu64)))))]) (.seq (.reg [
oP w60 (pMv g11),
oP w61 (pMv g8),
oCall w62 129 [g60, g61, (gC (.w (.s (zu64))))],
oP w59 (pMv g62),
oP w63 (pExt g59 0),
oP w64 (pExt g59 1),
oP w11 (pMv g63),
oP w12 (pMv g64)]) (.seq (.reg [
oP w66 (pMv g0),
oP w67 (pMv g9),
oP w68 (pMv g0),
oP w69 (pMv g9),
oP w70 (pIaddrS 1 g68 g69),
oR w71 (rLoad none g70),
oP w72 (pMv g11),
oP w73 (pMv g7),
oCall w74 108 [g71, g72, g73],
oP w65 (pMv g74),
oP w75 (pExt g65 0),
oP w76 (pExt g65 1),
oP w77 (pIaddrS 1 g66 g67),
oK wZ (bSt 1 g77 g75),
oP w7 (pMv g76)]) (.reg [
oP w78 (pMv g10),
oP w79 (pMv g12),
oP w80 (pAr 0 g78 g79),
oP w8 (pMv g80)]))))))) (.reg [
oP w81 (pAr 0 g47 (gC (.w (.s (ni64 1))))),
oP w47 (pMv g81)]))))))) (.seq (.reg [
oP w83 (pMv g0),
oP w84 (pMv g5),
oP w85 (pMv g0),
oP w86 (pMv g5),
oP w87 (pIaddrS 1 g85 g86),
oR w88 (rLoad none g87),
oP w89 (pMv g8),
oP w90 (pMv g7),
oCall w91 108 [g88, g89, g90],
oP w82 (pMv g91),
oP w92 (pExt g82 0),
oP w93 (pExt g82 1),
oP w94 (pIaddrS 1 g83 g84),
oK wZ (bSt 1 g94 g92),
oP w7 (pMv g93)]) (.seq (.block 2 (.loop (.seq (.seq (.reg [
oP w95 (pMv g7),
oK w96 (bCmp 1 nEq .eq true g95 (gC (.w (.s (zu64)))))]) (.cond g96 (.skip) (.exit 2))) (.block 3 (.seq (.reg [
oP w97 (pMv g6),
oP w98 (pAr 1 g97 (gC (.w (.s (nu64 1))))),
oP w6 (pMv g98)]) (.seq (.reg [
oP w13 (pMv (gC (.w (.s (zu64)))))]) (.seq (.seq (.reg [
oP w99 (pMv g1),
oP w100 (pGen fun _ t => opLen t (.t 99)),
oP w101 (pMv (gC (.w (.s (zi64)))))]) (.block 4 (.loop (.seq (.reg [
oK w102 (bCmp 2 lLt cGe true g101 g100)]) (.seq (.cond g102 (.skip) (.exit 4)) (.seq (.block 5 (.seq (.reg [
oP w103 (pMv g101),
oP w14 (pMv g103)]) (.draw [
⟨0, ⟨(some 105), .p (.mv (.t 0)), none⟩, 0, 0⟩,
⟨1, ⟨(some 106), .p (.mv (.t 14)), none⟩, 0, 0⟩,
⟨2, ⟨(some 107), .p (.mv (.t 0)), none⟩, 0, 0⟩,
⟨3, ⟨(some 108), .p (.mv (.t 14)), none⟩, 0, 0⟩,
⟨4, ⟨(some 109), .p (.iaddrS 1 (.t 107) (.t 108)), none⟩, 12, 0⟩,
⟨5, ⟨(some 110), .r (.load none (.t 109)), none⟩, 28, 0⟩,
⟨6, ⟨(some 111), .p (.mv (.t 1)), none⟩, 0, 0⟩,
⟨7, ⟨(some 112), .p (.mv (.t 14)), none⟩, 0, 0⟩,
⟨8, ⟨(some 113), .p (.iaddrS 1 (.t 111) (.t 112)), none⟩, 192, 0⟩,
⟨9, ⟨(some 114), .r (.load none (.t 113)), none⟩, 448, 0⟩,
⟨10, ⟨(some 115), .p (.mv (.t 13)), none⟩, 0, 0⟩,
⟨11, ⟨(some 116), .b (.call 129 [(.t 110), (.t 114), (.t 115)]), none⟩, 2044, 0⟩,
⟨12, ⟨(some 104), .p (.mv (.t 116)), none⟩, 4092, 0⟩,
⟨13, ⟨(some 117), .p (.ext (.t 104) 0), none⟩, 8188, 0⟩,
⟨14, ⟨(some 118), .p (.ext (.t 104) 1), none⟩, 8188, 0⟩,
⟨15, ⟨(some 119), .p (.iaddrS 1 (.t 105) (.t 106)), none⟩, 16383, 0⟩,
⟨16, ⟨none, .b (.store 1 (.t 119) (.t 117)), none⟩, 49151, 0⟩,
⟨17, ⟨(some 13), .p (.mv (.t 118)), none⟩, 131071, 0⟩]))) (.reg [
oP w120 (pAr 0 g101 (gC (.w (.s (ni64 1))))),
oP w101 (pMv g120)]))))))) (.seq (.reg [
oP w122 (pMv g0),
oP w123 (pMv g5),
oP w124 (pMv g0),
oP w125 (pMv g5),
oP w126 (pIaddrS 1 g124 g125),
oR w127 (rLoad none g126),
oP w128 (pMv g13),
oCall w129 129 [g127, (gC (.w (.s (zu64)))), g128],
oP w121 (pMv g129),
oP w130 (pExt g121 0),
oP w131 (pExt g121 1),
oP w132 (pIaddrS 1 g122 g123),
oK wZ (bSt 1 g132 g130),
oP w13 (pMv g131)]) (.reg [
oP w133 (pMv g7),
oP w134 (pMv g13),
oP w135 (pAr 1 g133 g134),
oP w7 (pMv g135)]))))))))) (.seq (.reg [
oP w136 (pMv g6),
oP w4 (pMv g136)]) (.ret)))))))))⟩
theorem fp327 : ∃ fn, fb327 = denF fn ∧ ∃ func code hint, FnOk Go.Proofs.Tryz.prog TT 327 fn func code hint := f2_mk (func := Go.Proofs.Tryz.f327) (code := bodyOf Go.Proofs.Tryz.f327) (hint := hintL [(3, [(0, 0), (1, 0), (2, 0), (3, 0), (4, 0), (5, 0), (6, 0), (7, 0), (8, 0), (9, 0)]), (4, [(0, 0), (1, 0), (2, 0), (3, 0), (4, 0), (5, 0), (6, 0), (7, 0), (8, 0), (9, 0), (10, 0), (11, 0), (12, 0), (13, 0), (14, 0), (15, 0), (16, 0), (17, 0), (18, 0)]), (22, [(0, 0), (1, 0), (2, 0), (3, 0), (4, 0), (5, 0), (6, 0), (7, 0), (8, 0), (9, 0), (10, 0), (11, 0), (12, 0), (13, 0), (14, 0), (15, 0), (16, 0), (17, 0)])]) (n := 137) (res := [.tmp 4]) Go.Proofs.Tryz.func327 Go.Proofs.Tryz.call327 (by kernel_rfl) (by kernel_rfl) (by kernel_rfl) (by kernel_rfl) (by kernel_rfl)
/- math/bits.Div64 -/
def fb382 : AFunc2 := ⟨135, [.tmp g6, .tmp g7], .seq (.reg [
oP w6 (pMv (gC (.w (.s (zu64))))),
oP w7 (pMv (gC (.w (.s (zu64)))))]) (.seq (.seq (.reg [
oP w19 (pMv g2),
oK w20 (bCmp 0 intEq .eq false g19 (gC (.w (.s (zu64)))))]) (.cond g20 (.reg [
oP w21 (pGen fun _ _ => none),
oAny none (.b (.panic (.t 21)))]) (.skip))) (.seq (.seq (.reg [
oP w22 (pMv g2),
oP w23 (pMv g0),
oK w24 (bCmp 3 intLe .le false g22 g23)]) (.cond g24 (.reg [
oP w25 (pGen fun _ _ => none),
oAny none (.b (.panic (.t 25)))]) (.skip))) (.seq (.seq (.reg [
oP w26 (pMv g0),
oK w27 (bCmp 0 intEq .eq false g26 (gC (.w (.s (zu64)))))]) (.cond g27 (.seq (.draw [
⟨0, ⟨(some 28), .p (.mv (.t 1)), none⟩, 0, 0⟩,
⟨1, ⟨(some 29), .p (.mv (.t 2)), none⟩, 0, 0⟩,
⟨2, ⟨(some 30), .p (.dv (.t 28) (.t 29)), none⟩, 3, 0⟩,
⟨3, ⟨(some 31), .p (.mv (.t 1)), none⟩, 0, 0⟩,
⟨4, ⟨(some 32), .p (.mv (.t 2)), none⟩, 0, 0⟩,
⟨5, ⟨(some 33), .p (.md (.t 31) (.t 32)), none⟩, 24, 0⟩,
⟨6, ⟨(some 6), .p (.mv (.t 30)), none⟩, 7, 0⟩,
⟨7, ⟨(some 7), .p (.mv (.t 33)), none⟩, 127, 0⟩]) (.ret)) (.skip))) (.seq (.reg [
oP w34 (pMv g2),
oCall w35 325 [g34],
oP w36 (pConv .u64 g35),
oP w8 (pMv g36)]) (.seq (.reg [
oP w37 (pMv g2),
oP w38 (pMv g8),
oP w39 (pShl g37 g38),
oP w2 (pMv g39)]) (.seq (.reg [
oP w40 (pMv g2),
oP w41 (pShr g40 (gC (.w (.s (nu64 32))))),
oP w9 (pMv g41)]) (.seq (.reg [
oP w42 (pMv g2),
oP w43 (pBt 0 g42 (gC (.w (.s (nu64 4294967295))))),
oP w10 (pMv g43)]) (.seq (.reg [
oP w44 (pMv g0),
oP w45 (pMv g8),
oP w46 (pShl g44 g45),
oP w47 (pMv g1),
oP w48 (pMv g8),
oP w49 (pAr 1 (gC (.w (.s (nu64 64)))) g48),
oP w50 (pShr g47 g49),
oP w51 (pBt 1 g46 g50),
oP w11 (pMv g51)]) (.seq (.reg [
oP w52 (pMv g1),
oP w53 (pMv g8),
oP w54 (pShl g52 g53),
oP w12 (pMv g54)]) (.seq (.reg [
oP w55 (pMv g12),
oP w56 (pShr g55 (gC (.w (.s (nu64 32))))),
oP w13 (pMv g56)]) (.seq (.reg [
oP w57 (pMv g12),
oP w58 (pBt 0 g57 (gC (.w (.s (nu64 4294967295))))),
oP w14 (pMv g58)]) (.seq (.reg [
oP w59 (pMv g11),
oP w60 (pMv g9),
oP w61 (pGen fun φ t => opDv φ t (.t 59) (.t 60)),
oP w15 (pMv g61)]) (.seq (.reg [
oP w62 (pMv g11),
oP w63 (pMv g15),
oP w64 (pMv g9),
oP w65 (pAr 2 g63 g64),
oP w66 (pAr 1 g62 g65),
oP w16 (pMv g66)]) (.seq (.block 0 (.loop (.seq (.seq (.reg [
oP w67 (pMv g15),
oK w68 (bCmp 5 gLe cGe false g67 (gC (.w (.s (nu64 4294967296))))),
oP w69 (pMv g68),
oGd g69 false w70 (oP w70 (pMv g15)),
oGd g69 false w71 (oP w71 (pMv g10)),
oGd g69 false w72 (oP w72 (pAr 2 g70 g71)),
oGd g69 false w73 (oP w73 (pMv g16)),
oGd g69 false w74 (oP w74 (pAr 2 (gC (.w (.s (nu64 4294967296)))) g73)),
oGd g69 false w75 (oP w75 (pMv g13)),
oGd g69 false w76 (oP w76 (pAr 0 g74 g75)),
oGd g69 false w77 (oK w77 (bCmp 4 nLe .le true g72 g76)),
oP w78 (pGen fun _ t => opPick t (.t 69) (.c (.w (.s (.bool true)))) (.t 77))]) (.cond g78 (.skip) (.exit 0))) (.block 1 (.seq (.reg [
oP w79 (pMv g15),
oP w80 (pAr 1 g79 (gC (.w (.s (nu64 1))))),
oP w15 (pMv g80)]) (.seq (.reg [
oP w81 (pMv g16),
oP w82 (pMv g9),
oP w83 (pAr 0 g81 g82),
oP w16 (pMv g83)]) (.seq (.reg [
oP w84 (pMv g16),
oK w85 (bCmp 5 gLe cGe false g84 (gC (.w (.s (nu64 4294967296)))))]) (.cond g85 (.exit 0) (.skip))))))))) (.seq (.reg [
oP w86 (pMv g11),
oP w87 (pAr 2 g86 (gC (.w (.s (nu64 4294967296))))),
oP w88 (pMv g13),
oP w89 (pAr 0 g87 g88),
oP w90 (pMv g15),
oP w91 (pMv g2),
oP w92 (pAr 2 g90 g91),
oP w93 (pAr 1 g89 g92),
oP w17 (pMv g93)]) (.seq (.reg [
oP w94 (pMv g17),
oP w95 (pMv g9),
oP w96 (pGen fun φ t => opDv φ t (.t 94) (.t 95)),
oP w18 (pMv g96)]) (.seq (.reg [
oP w97 (pMv g17),
oP w98 (pMv g18),
oP w99 (pMv g9),
oP w100 (pAr 2 g98 g99),
oP w101 (pAr 1 g97 g100),
oP w16 (pMv g101)]) (.seq (.block 2 (.loop (.seq (.seq (.reg [
oP w102 (pMv g18),
oK w103 (bCmp 5 gLe cGe false g102 (gC (.w (.s (nu64 4294967296))))),
oP w104 (pMv g103),
oGd g104 false w105 (oP w105 (pMv g18)),
oGd g104 false w106 (oP w106 (pMv g10)),
oGd g104 false w107 (oP w107 (pAr 2 g105 g106)),
oGd g104 false w108 (oP w108 (pMv g16)),
oGd g104 false w109 (oP w109 (pAr 2 (gC (.w (.s (nu64 4294967296)))) g108)),
oGd g104 false w110 (oP w110 (pMv g14)),
oGd g104 false w111 (oP w111 (pAr 0 g109 g110)),
oGd g104 false w112 (oK w112 (bCmp 4 nLe .le true g107 g111)),
oP w113 (pGen fun _ t => opPick t (.t 104) (.c (.w (.s (.bool true)))) (.t 112))]) (.cond g113 (.skip) (.exit 2))) (.block 3 (.seq (.reg [
oP w114 (pMv g18),
oP w115 (pAr 1 g114 (gC (.w (.s (nu64 1))))),
oP w18 (pMv g115)]) (.seq (.reg [
oP w116 (pMv g16),
oP w117 (pMv g9),
oP w118 (pAr 0 g116 g117),
oP w16 (pMv g118)]) (.seq (.reg [
oP w119 (pMv g16),
oK w120 (bCmp 5 gLe cGe false g119 (gC (.w (.s (nu64 4294967296)))))]) (.cond g120 (.exit 2) (.skip))))))))) (.seq (.reg [
oP w121 (pMv g15),
oP w122 (pAr 2 g121 (gC (.w (.s (nu64 4294967296))))),
oP w123 (pMv g18),
oP w124 (pAr 0 g122 g123),
oP w125 (pMv g17),
oP w126 (pAr 2 g125 (gC (.w (.s (nu64 4294967296))))),
oP w127 (pMv g14),
oP w128 (pAr 0 g126 g127),
oP w129 (pMv g18),
oP w130 (pMv g2),
oP w131 (pAr 2 g129 g130),
oP w132 (pAr 1 g128 g131),
oP w133 (pMv g8),
oP w134 (pShr g132 g133),
oP w6 (pMv g124),
oP w7 (pMv g134)]) (.ret))))))))))))))))))))⟩
theorem fp382 : ∃ fn, fb382 = denF fn ∧ ∃ func code hint, FnOk Go.Proofs.Tryz.prog TT 382 fn func code hint := f2_mk (func := Go.Proofs.Tryz.f382) (code := bodyOf Go.Proofs.Tryz.f382) (hint := hintL [(6, [(0, 0), (1, 0), (2, 0), (3, 0), (4, 0), (5, 0), (6, 0), (7, 0)])]) (n := 135) (res := [.tmp 6, .tmp 7]) Go.Proofs.Tryz.func382 Go.Proofs.Tryz.call382 (by kernel_rfl) (by kernel_rfl) (by kernel_rfl) (by kernel_rfl) (by kernel_rfl)
end
end Go.Sy
