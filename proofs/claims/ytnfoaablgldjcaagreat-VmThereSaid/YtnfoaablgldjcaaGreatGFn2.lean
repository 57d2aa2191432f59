/- Functions. -/
import Derived.Test.YtnfoaablgldjcaaGreatGSl
set_option linter.unusedVariables false
set_option maxRecDepth 100000
set_option maxHeartbeats 0
namespace Go.Sy
noncomputable section
/- (*quarry/vm.frame).blocks -/
def fb117 : AFunc2 := ⟨174, [], .seq (.reg [
oP w6 (pMv g1)]) (.block 0 (.seq (.reg [
oK w8 (bCmp 0 intEq .eq false g6 (gC (.w (.s (ni64 64))))),
oP w7 (pMv g8)]) (.cond g7 (.reg [
oP w9 (pMv g0),
oP w10 (pMv g0),
oP w11 (pMv g0),
oCall w12 146 [g11],
oCall w13 166 [g10, g12],
oCall w14 120 [g9, g13]]) (.seq (.reg [
oK w16 (bCmp 0 intEq .eq false g6 (gC (.w (.s (ni64 65))))),
oP w15 (pMv g16)]) (.cond g15 (.reg [
oP w17 (pMv g0),
oP w18 (pMv g0),
oP w19 (pGen fun _ t => opNil t (.t 18)),
oP w20 (pFaddr 0 g19),
oR w21 (rLoad none g20),
oP w22 (pGen fun _ t => opNil t (.t 21)),
oP w23 (pFaddr 27 g22),
oP w24 (pFaddr 0 g23),
oR w25 (rLoad (some 20) g24),
oCall w26 159 [g25],
oCall w27 120 [g17, g26]]) (.seq (.reg [
oK w29 (bCmp 0 intEq .eq false g6 (gC (.w (.s (ni64 66))))),
oP w28 (pMv g29)]) (.cond g28 (.reg [
oP w30 (pMv g0),
oP w31 (pMv g0),
oP w32 (pGen fun _ t => opNil t (.t 31)),
oP w33 (pFaddr 0 g32),
oR w34 (rLoad none g33),
oP w35 (pGen fun _ t => opNil t (.t 34)),
oP w36 (pFaddr 27 g35),
oP w37 (pFaddr 21 g36),
oR w38 (rLoad none g37),
oCall w39 26 [g38],
oCall w40 120 [g30, g39]]) (.seq (.reg [
oK w42 (bCmp 0 intEq .eq false g6 (gC (.w (.s (ni64 67))))),
oP w41 (pMv g42)]) (.cond g41 (.reg [
oP w43 (pMv g0),
oP w44 (pMv g0),
oP w45 (pGen fun _ t => opNil t (.t 44)),
oP w46 (pFaddr 0 g45),
oR w47 (rLoad none g46),
oP w48 (pGen fun _ t => opNil t (.t 47)),
oP w49 (pFaddr 27 g48),
oP w50 (pFaddr 20 g49),
oR w51 (rLoad none g50),
oCall w52 26 [g51],
oCall w53 120 [g43, g52]]) (.seq (.reg [
oK w55 (bCmp 0 intEq .eq false g6 (gC (.w (.s (ni64 68))))),
oP w54 (pMv g55)]) (.cond g54 (.reg [
oP w56 (pMv g0),
oP w57 (pMv g0),
oP w58 (pGen fun _ t => opNil t (.t 57)),
oP w59 (pFaddr 0 g58),
oR w60 (rLoad none g59),
oP w61 (pGen fun _ t => opNil t (.t 60)),
oP w62 (pFaddr 27 g61),
oP w63 (pFaddr 23 g62),
oR w64 (rLoad (some 4) g63),
oCall w65 120 [g56, g64]]) (.seq (.reg [
oK w67 (bCmp 0 intEq .eq false g6 (gC (.w (.s (ni64 69))))),
oP w66 (pMv g67)]) (.cond g66 (.reg [
oP w68 (pMv g0),
oP w69 (pMv g0),
oP w70 (pGen fun _ t => opNil t (.t 69)),
oP w71 (pFaddr 0 g70),
oR w72 (rLoad none g71),
oP w73 (pGen fun _ t => opNil t (.t 72)),
oP w74 (pFaddr 27 g73),
oP w75 (pFaddr 22 g74),
oR w76 (rLoad none g75),
oCall w77 26 [g76],
oCall w78 120 [g68, g77]]) (.seq (.reg [
oK w80 (bCmp 0 intEq .eq false g6 (gC (.w (.s (ni64 70))))),
oP w79 (pMv g80)]) (.cond g79 (.reg [
oP w81 (pMv g0),
oP w82 (pMv g0),
oP w83 (pGen fun _ t => opNil t (.t 82)),
oP w84 (pFaddr 0 g83),
oR w85 (rLoad none g84),
oP w86 (pGen fun _ t => opNil t (.t 85)),
oP w87 (pFaddr 27 g86),
oP w88 (pFaddr 35 g87),
oR w89 (rLoad none g88),
oCall w90 26 [g89],
oCall w91 120 [g81, g90]]) (.seq (.reg [
oK w93 (bCmp 0 intEq .eq false g6 (gC (.w (.s (ni64 71))))),
oP w92 (pMv g93)]) (.cond g92 (.draw [
⟨0, ⟨(some 94), .p (.mv (.t 0)), none⟩, 0, 0⟩,
⟨1, ⟨(some 95), .p (.mv (.t 0)), none⟩, 0, 0⟩,
⟨2, ⟨(some 96), .p (.nilCheck (.t 95)), none⟩, 2, 0⟩,
⟨3, ⟨(some 97), .p (.faddr 0 (.t 96)), none⟩, 6, 0⟩,
⟨4, ⟨(some 98), .r (.load none (.t 97)), none⟩, 14, 0⟩,
⟨5, ⟨(some 99), .p (.nilCheck (.t 98)), none⟩, 30, 0⟩,
⟨6, ⟨(some 100), .p (.faddr 89 (.t 99)), none⟩, 62, 0⟩,
⟨7, ⟨(some 101), .r (.load none (.t 100)), none⟩, 126, 0⟩,
⟨8, ⟨(some 102), .p (.mv (.t 0)), none⟩, 0, 0⟩,
⟨9, ⟨(some 103), .p (.nilCheck (.t 102)), none⟩, 256, 0⟩,
⟨10, ⟨(some 104), .p (.faddr 1 (.t 103)), none⟩, 768, 0⟩,
⟨11, ⟨(some 105), .p (.faddr 20 (.t 104)), none⟩, 1792, 0⟩,
⟨12, ⟨(some 106), .r (.load (some 20) (.t 105)), none⟩, 3840, 0⟩,
⟨13, ⟨(some 107), .b (.call 34 [(.t 101), (.t 106)]), none⟩, 8190, 0⟩,
⟨14, ⟨(some 108), .b (.call 120 [(.t 94), (.t 107)]), none⟩, 16383, 0⟩]) (.seq (.reg [
oK w110 (bCmp 0 intEq .eq false g6 (gC (.w (.s (ni64 72))))),
oP w109 (pMv g110)]) (.cond g109 (.reg [
oP w111 (pMv g0),
oP w112 (pMv g0),
oP w113 (pGen fun _ t => opNil t (.t 112)),
oP w114 (pFaddr 0 g113),
oR w115 (rLoad none g114),
oP w116 (pGen fun _ t => opNil t (.t 115)),
oP w117 (pFaddr 27 g116),
oP w118 (pFaddr 27 g117),
oR w119 (rLoad (some 4) g118),
oCall w120 120 [g111, g119]]) (.seq (.reg [
oK w122 (bCmp 0 intEq .eq false g6 (gC (.w (.s (ni64 73))))),
oP w121 (pMv g122)]) (.cond g121 (.seq (.reg [
oP w124 (pMv g0),
oCall w125 146 [g124],
oCall w126 38 [g125],
oP w123 (pMv g126),
oP w127 (pExt g123 0),
oP w128 (pExt g123 1),
oP w4 (pMv g127),
oP w5 (pMv g128)]) (.seq (.reg [
oP w129 (pMv g5),
oP w130 (pNot g129),
oP w131 (pMv g130),
oGd g131 false w132 (oP w132 (pMv g4)),
oGd g131 false w133 (oP w133 (pMv g0)),
oGd g131 false w134 (oP w134 (pGen fun _ t => opNil t (.t 133))),
oGd g131 false w135 (oP w135 (pFaddr 0 g134)),
oGd g131 false w136 (oR w136 (rLoad none g135)),
oGd g131 false w137 (oP w137 (pGen fun _ t => opNil t (.t 136))),
oGd g131 false w138 (oP w138 (pFaddr 64 g137)),
oGd g131 false w139 (oP w139 (pFaddr 24 g138)),
oGd g131 false w140 (oR w140 (rLoad none g139)),
oGd g131 false w141 (oP w141 (pGen fun _ t => opLen t (.t 140))),
oGd g131 false w142 (oP w142 (pConv .u64 g141)),
oGd g131 false w143 (oK w143 (bCmp 5 gLe cGe false g132 g142)),
oP w144 (pGen fun _ t => opPick t (.t 131) (.c (.w (.s (.bool true)))) (.t 143))]) (.cond g144 (.reg [
oP w145 (pMv g0),
oP w146 (pBuild [zu64, zu64, zu64, zu64] []),
oCall w147 120 [g145, g146]]) (.reg [
oP w148 (pMv g0),
oP w149 (pMv g0),
oP w150 (pGen fun _ t => opNil t (.t 149)),
oP w151 (pFaddr 0 g150),
oR w152 (rLoad none g151),
oP w153 (pGen fun _ t => opNil t (.t 152)),
oP w154 (pFaddr 64 g153),
oP w155 (pFaddr 24 g154),
oR w156 (rLoad none g155),
oP w157 (pMv g4),
oP w158 (pIaddrS 32 g156 g157),
oR w159 (rLoad (some 32) g158),
oCall w160 157 [g159],
oCall w161 120 [g148, g160]])))) (.seq (.reg [
oK w163 (bCmp 0 intEq .eq false g6 (gC (.w (.s (ni64 74))))),
oP w162 (pMv g163)]) (.cond g162 (.reg [
oP w164 (pMv g0),
oP w165 (pMv g0),
oP w166 (pGen fun _ t => opNil t (.t 165)),
oP w167 (pFaddr 0 g166),
oR w168 (rLoad none g167),
oP w169 (pGen fun _ t => opNil t (.t 168)),
oP w170 (pFaddr 27 g169),
oP w171 (pFaddr 31 g170),
oR w172 (rLoad (some 4) g171),
oCall w173 120 [g164, g172]]) (.skip))))))))))))))))))))))))⟩
theorem fp117 : ∃ fn, fb117 = denF fn ∧ ∃ func code hint, FnOk Go.Proofs.Tryz.prog TT 117 fn func code hint := f2_mk (func := Go.Proofs.Tryz.f117) (code := bodyOf Go.Proofs.Tryz.f117) (hint := hintL [(16, [(0, 0), (1, 0), (2, 0), (3, 0), (4, 0), (5, 0), (6, 0), (7, 0), (8, 0), (9, 0), (10, 0), (11, 0), (12, 0), (13, 0), (14, 0)])]) (n := 174) (res := []) Go.Proofs.Tryz.func117 Go.Proofs.Tryz.call117 (by kernel_rfl) (by kernel_rfl) (by kernel_rfl) (by kernel_rfl) (by kernel_rfl)
/- (*quarry/vm.frame).stores -/
def fb118 : AFunc2 := ⟨269, [], .seq (.reg [
oP w18 (pMv g1)]) (.block 0 (.seq (.reg [
oK w20 (bCmp 0 intEq .eq false g18 (gC (.w (.s (ni64 80))))),
oP w19 (pMv g20)]) (.cond g19 (.reg [
oP w21 (pMv g0),
oCall w22 146 [g21]]) (.seq (.reg [
oK w24 (bCmp 0 intEq .eq false g18 (gC (.w (.s (ni64 81))))),
oP w23 (pMv g24)]) (.cond g23 (.seq (.reg [
oP w25 (pMv g0),
oCall w26 146 [g25],
oCall w27 163 [(gC (.w (.s (ni64 32))))],
oP w28 (pBuild [zu64, zu64, zu64, zu64, zu64, zu64, zu64, zu64] [(0, 4, g26), (4, 4, g27)]),
oAlloc w4 225 [zu64, zu64, zu64, zu64, zu64, zu64, zu64, zu64],
oK wZ (bSt 8 g4 g28)]) (.seq (.reg [
oP w29 (pMv g0),
oR w30 (rLoad (some 8) g4),
oM w31 (.bslice 225 1 [zu64, zu64, zu64, zu64, zu64, zu64, zu64, zu64] [(0, 8, (.t 30))]),
oCall w32 156 [g29, g31]]) (.seq (.reg [
oP w34 (pMv g0),
oR w35 (rLoad (some 8) g4),
oCall w36 158 [g34, g35],
oCall w37 10 [g36],
oP w33 (pMv g37),
oP w38 (pExt g33 0),
oP w39 (pExt g33 1),
oAlloc w5 24 [zu64, zu64, zu64, zu64],
oK wZ (bSt 4 g5 g38),
oP w6 (pMv g39)]) (.reg [
oP w40 (pMv g0),
oR w41 (rLoad (some 4) g5),
oCall w42 120 [g40, g41]])))) (.seq (.reg [
oK w44 (bCmp 0 intEq .eq false g18 (gC (.w (.s (ni64 82))))),
oP w43 (pMv g44)]) (.cond g43 (.seq (.reg [
oP w45 (pMv g0),
oCall w46 146 [g45],
oCall w47 163 [(gC (.w (.s (ni64 32))))],
oP w48 (pBuild [zu64, zu64, zu64, zu64, zu64, zu64, zu64, zu64] [(0, 4, g46), (4, 4, g47)]),
oAlloc w7 225 [zu64, zu64, zu64, zu64, zu64, zu64, zu64, zu64],
oK wZ (bSt 8 g7 g48)]) (.seq (.reg [
oP w49 (pMv g0),
oCall w50 146 [g49],
oCall w51 19 [g50],
oAlloc w8 50 zz1,
oK wZ (bSt 32 g8 g51)]) (.seq (.reg [
oP w52 (pMv g0),
oR w53 (rLoad (some 8) g7),
oM w54 (.bslice 225 1 [zu64, zu64, zu64, zu64, zu64, zu64, zu64, zu64] [(0, 8, (.t 53))]),
oCall w55 156 [g52, g54]]) (.draw [
⟨0, ⟨(some 56), .p (.mv (.t 0)), none⟩, 0, 0⟩,
⟨1, ⟨(some 57), .r (.load (some 8) (.t 7)), none⟩, 0, 0⟩,
⟨3, ⟨(some 59), .p (.aslice 32 1 (.t 8) none none), none⟩, 0, 0⟩,
⟨2, ⟨(some 58), .b (.call 158 [(.t 56), (.t 57)]), none⟩, 3, 0⟩,
⟨4, ⟨(some 60), .b (.copy 1 (.t 58) (.t 59)), none⟩, 15, 0⟩])))) (.seq (.reg [
oK w62 (bCmp 0 intEq .eq false g18 (gC (.w (.s (ni64 83))))),
oP w61 (pMv g62)]) (.cond g61 (.seq (.reg [
oP w63 (pMv g0),
oCall w64 146 [g63],
oCall w65 163 [(gC (.w (.s (ni64 1))))],
oP w66 (pBuild [zu64, zu64, zu64, zu64, zu64, zu64, zu64, zu64] [(0, 4, g64), (4, 4, g65)]),
oAlloc w9 225 [zu64, zu64, zu64, zu64, zu64, zu64, zu64, zu64],
oK wZ (bSt 8 g9 g66)]) (.seq (.reg [
oP w67 (pMv g0),
oCall w68 146 [g67],
oCall w69 19 [g68],
oAlloc w10 50 zz1,
oK wZ (bSt 32 g10 g69)]) (.seq (.reg [
oP w70 (pMv g0),
oR w71 (rLoad (some 8) g9),
oM w72 (.bslice 225 1 [zu64, zu64, zu64, zu64, zu64, zu64, zu64, zu64] [(0, 8, (.t 71))]),
oCall w73 156 [g70, g72]]) (.draw [
⟨0, ⟨(some 74), .p (.mv (.t 0)), none⟩, 0, 0⟩,
⟨1, ⟨(some 75), .r (.load (some 8) (.t 9)), none⟩, 0, 0⟩,
⟨3, ⟨(some 77), .p (.aslice 32 1 (.t 10) (some (.c (.w (.s (ni64 31))))) none), none⟩, 0, 0⟩,
⟨2, ⟨(some 76), .b (.call 158 [(.t 74), (.t 75)]), none⟩, 3, 0⟩,
⟨4, ⟨(some 78), .b (.copy 1 (.t 76) (.t 77)), none⟩, 15, 0⟩])))) (.seq (.reg [
oK w80 (bCmp 0 intEq .eq false g18 (gC (.w (.s (ni64 84))))),
oP w79 (pMv g80)]) (.cond g79 (.seq (.reg [
oP w81 (pMv g0),
oCall w82 146 [g81],
oAlloc w11 24 [zu64, zu64, zu64, zu64],
oK wZ (bSt 4 g11 g82)]) (.seq (.seq (.draw [
⟨0, ⟨(some 83), .p (.mv (.t 0)), none⟩, 0, 0⟩,
⟨1, ⟨(some 84), .p (.nilCheck (.t 83)), none⟩, 1, 0⟩,
⟨2, ⟨(some 85), .p (.faddr 0 (.t 84)), none⟩, 3, 0⟩,
⟨3, ⟨(some 86), .r (.load none (.t 85)), none⟩, 7, 0⟩,
⟨4, ⟨(some 87), .b (.call 66 [(.t 86), (.c (.w (.s (ni64 9))))]), none⟩, 15, 0⟩,
⟨5, ⟨(some 88), .p (.mv (.t 87)), none⟩, 31, 0⟩,
⟨6, ⟨(some 89), .p (.mv (.t 0)), some (88, true)⟩, 63, 0⟩,
⟨7, ⟨(some 90), .p (.nilCheck (.t 89)), some (88, true)⟩, 127, 0⟩,
⟨8, ⟨(some 91), .p (.faddr 0 (.t 90)), some (88, true)⟩, 255, 0⟩,
⟨9, ⟨(some 92), .r (.load none (.t 91)), some (88, true)⟩, 511, 0⟩,
⟨10, ⟨(some 93), .p (.nilCheck (.t 92)), some (88, true)⟩, 1023, 0⟩,
⟨11, ⟨(some 94), .p (.faddr 89 (.t 93)), some (88, true)⟩, 2047, 0⟩,
⟨12, ⟨(some 95), .r (.load none (.t 94)), some (88, true)⟩, 4095, 0⟩,
⟨13, ⟨(some 96), .p (.mv (.t 0)), some (88, true)⟩, 63, 0⟩,
⟨14, ⟨(some 97), .p (.nilCheck (.t 96)), some (88, true)⟩, 8255, 0⟩,
⟨15, ⟨(some 98), .p (.faddr 1 (.t 97)), some (88, true)⟩, 24639, 0⟩,
⟨16, ⟨(some 99), .p (.faddr 20 (.t 98)), some (88, true)⟩, 57407, 0⟩,
⟨17, ⟨(some 100), .r (.load (some 20) (.t 99)), some (88, true)⟩, 122943, 0⟩,
⟨18, ⟨(some 101), .r (.load (some 4) (.t 11)), some (88, true)⟩, 63, 0⟩,
⟨19, ⟨(some 102), .b (.call 167 [(.t 95), (.t 100), (.t 101)]), some (88, true)⟩, 524287, 0⟩,
⟨20, ⟨(some 103), .p (.pick (.t 88) (.t 102) (.c (.w (.s (.bool false))))), none⟩, 1048575, 0⟩]) (.cond g103 (.reg [
oP w104 (pMv g0),
oP w105 (pMv g0),
oP w106 (pGen fun _ t => opNil t (.t 105)),
oP w107 (pFaddr 0 g106),
oR w108 (rLoad none g107),
oP w109 (pGen fun _ t => opNil t (.t 108)),
oP w110 (pFaddr 1 g109),
oP w111 (pFaddr 17 g110),
oR w112 (rLoad none g111),
oCall w113 113 [g104, g112]]) (.reg [
oP w114 (pMv g0),
oP w115 (pMv g0),
oP w116 (pGen fun _ t => opNil t (.t 115)),
oP w117 (pFaddr 0 g116),
oR w118 (rLoad none g117),
oP w119 (pGen fun _ t => opNil t (.t 118)),
oP w120 (pFaddr 1 g119),
oP w121 (pFaddr 16 g120),
oR w122 (rLoad none g121),
oCall w123 113 [g114, g122]]))) (.draw [
⟨0, ⟨(some 124), .p (.mv (.t 0)), none⟩, 0, 0⟩,
⟨1, ⟨(some 125), .p (.mv (.t 0)), none⟩, 0, 0⟩,
⟨2, ⟨(some 126), .p (.nilCheck (.t 125)), none⟩, 2, 0⟩,
⟨3, ⟨(some 127), .p (.faddr 0 (.t 126)), none⟩, 6, 0⟩,
⟨4, ⟨(some 128), .r (.load none (.t 127)), none⟩, 14, 0⟩,
⟨5, ⟨(some 129), .p (.nilCheck (.t 128)), none⟩, 30, 0⟩,
⟨6, ⟨(some 130), .p (.faddr 89 (.t 129)), none⟩, 62, 0⟩,
⟨7, ⟨(some 131), .r (.load none (.t 130)), none⟩, 126, 0⟩,
⟨8, ⟨(some 132), .p (.mv (.t 0)), none⟩, 0, 0⟩,
⟨9, ⟨(some 133), .p (.nilCheck (.t 132)), none⟩, 256, 0⟩,
⟨10, ⟨(some 134), .p (.faddr 1 (.t 133)), none⟩, 768, 0⟩,
⟨11, ⟨(some 135), .p (.faddr 20 (.t 134)), none⟩, 1792, 0⟩,
⟨12, ⟨(some 136), .r (.load (some 20) (.t 135)), none⟩, 3840, 0⟩,
⟨13, ⟨(some 137), .r (.load (some 4) (.t 11)), none⟩, 0, 0⟩,
⟨14, ⟨(some 138), .b (.call 31 [(.t 131), (.t 136), (.t 137)]), none⟩, 16382, 0⟩,
⟨15, ⟨(some 139), .b (.call 120 [(.t 124), (.t 138)]), none⟩, 32767, 0⟩]))) (.seq (.reg [
oK w141 (bCmp 0 intEq .eq false g18 (gC (.w (.s (ni64 85))))),
oP w140 (pMv g141)]) (.cond g140 (.seq (.reg [
oP w142 (pMv g0),
oCall w143 146 [g142],
oAlloc w12 24 [zu64, zu64, zu64, zu64],
oK wZ (bSt 4 g12 g143)]) (.draw [
⟨0, ⟨(some 144), .p (.mv (.t 0)), none⟩, 0, 0⟩,
⟨1, ⟨(some 145), .r (.load (some 4) (.t 12)), none⟩, 0, 0⟩,
⟨2, ⟨(some 146), .p (.mv (.t 0)), none⟩, 0, 0⟩,
⟨3, ⟨(some 147), .b (.call 146 [(.t 146)]), none⟩, 4, 0⟩,
⟨4, ⟨(some 148), .b (.call 168 [(.t 144), (.t 145), (.t 147)]), none⟩, 15, 0⟩])) (.seq (.reg [
oK w150 (bCmp 0 intEq .eq false g18 (gC (.w (.s (ni64 86))))),
oP w149 (pMv g150)]) (.cond g149 (.reg [
oP w151 (pMv g0),
oP w152 (pMv g0),
oCall w153 146 [g152],
oCall w154 169 [g151, g153]]) (.seq (.reg [
oK w156 (bCmp 0 intEq .eq false g18 (gC (.w (.s (ni64 87))))),
oP w155 (pMv g156)]) (.cond g155 (.seq (.reg [
oP w157 (pMv g0),
oCall w158 146 [g157],
oAlloc w13 24 [zu64, zu64, zu64, zu64],
oK wZ (bSt 4 g13 g158)]) (.seq (.reg [
oP w159 (pMv g0),
oCall w160 146 [g159],
oP w161 (pBuild [zu64, zu64, zu64, zu64] []),
oK w162 (b2 (fun x y s K => cmpA 1 (.agg (.one (.arr 4 22 .u64))) x y s fun b s => K (vBool b) s) g160 g161)]) (.cond g162 (.reg [
oP w163 (pMv g0),
oR w164 (rLoad (some 4) g13),
oCall w165 169 [g163, g164]]) (.skip)))) (.seq (.reg [
oK w167 (bCmp 0 intEq .eq false g18 (gC (.w (.s (ni64 88))))),
oP w166 (pMv g167)]) (.cond g166 (.reg [
oP w168 (pMv g0),
oP w169 (pMv g0),
oP w170 (pGen fun _ t => opNil t (.t 169)),
oP w171 (pFaddr 73 g170),
oR w172 (rLoad none g171),
oP w173 (pAr 1 g172 (gC (.w (.s (ni64 1))))),
oCall w174 163 [g173],
oCall w175 120 [g168, g174]]) (.seq (.reg [
oK w177 (bCmp 0 intEq .eq false g18 (gC (.w (.s (ni64 89))))),
oP w176 (pMv g177)]) (.cond g176 (.reg [
oP w178 (pMv g0),
oP w179 (pMv g0),
oP w180 (pGen fun _ t => opNil t (.t 179)),
oP w181 (pFaddr 71 g180),
oR w182 (rLoad none g181),
oP w183 (pGen fun _ t => opLen t (.t 182)),
oCall w184 163 [g183],
oCall w185 120 [g178, g184]]) (.seq (.reg [
oK w187 (bCmp 0 intEq .eq false g18 (gC (.w (.s (ni64 90))))),
oP w186 (pMv g187)]) (.cond g186 (.reg [
oP w188 (pMv g0),
oP w189 (pMv g0),
oP w190 (pGen fun _ t => opNil t (.t 189)),
oP w191 (pFaddr 1 g190),
oP w192 (pFaddr 65 g191),
oR w193 (rLoad none g192),
oCall w194 26 [g193],
oCall w195 120 [g188, g194]]) (.seq (.reg [
oK w197 (bCmp 0 intEq .eq false g18 (gC (.w (.s (ni64 92))))),
oP w196 (pMv g197)]) (.cond g196 (.draw [
⟨0, ⟨(some 198), .p (.mv (.t 0)), none⟩, 0, 0⟩,
⟨1, ⟨(some 199), .p (.mv (.t 0)), none⟩, 0, 0⟩,
⟨2, ⟨(some 200), .p (.nilCheck (.t 199)), none⟩, 2, 0⟩,
⟨3, ⟨(some 201), .p (.faddr 0 (.t 200)), none⟩, 6, 0⟩,
⟨4, ⟨(some 202), .r (.load none (.t 201)), none⟩, 14, 0⟩,
⟨5, ⟨(some 203), .p (.nilCheck (.t 202)), none⟩, 30, 0⟩,
⟨6, ⟨(some 204), .p (.faddr 89 (.t 203)), none⟩, 62, 0⟩,
⟨7, ⟨(some 205), .r (.load none (.t 204)), none⟩, 126, 0⟩,
⟨8, ⟨(some 206), .p (.mv (.t 0)), none⟩, 0, 0⟩,
⟨9, ⟨(some 207), .p (.nilCheck (.t 206)), none⟩, 256, 0⟩,
⟨10, ⟨(some 208), .p (.faddr 1 (.t 207)), none⟩, 768, 0⟩,
⟨11, ⟨(some 209), .p (.faddr 20 (.t 208)), none⟩, 1792, 0⟩,
⟨12, ⟨(some 210), .r (.load (some 20) (.t 209)), none⟩, 3840, 0⟩,
⟨13, ⟨(some 211), .p (.mv (.t 0)), none⟩, 0, 0⟩,
⟨14, ⟨(some 212), .b (.call 146 [(.t 211)]), none⟩, 8192, 0⟩,
⟨15, ⟨(some 213), .b (.call 170 [(.t 205), (.t 210), (.t 212)]), none⟩, 32766, 0⟩,
⟨16, ⟨(some 214), .b (.call 120 [(.t 198), (.t 213)]), none⟩, 65535, 0⟩]) (.seq (.reg [
oK w216 (bCmp 0 intEq .eq false g18 (gC (.w (.s (ni64 93))))),
oP w215 (pMv g216)]) (.cond g215 (.seq (.reg [
oP w217 (pMv g0),
oCall w218 146 [g217],
oAlloc w14 24 [zu64, zu64, zu64, zu64],
oK wZ (bSt 4 g14 g218)]) (.draw [
⟨0, ⟨(some 219), .p (.mv (.t 0)), none⟩, 0, 0⟩,
⟨1, ⟨(some 220), .p (.nilCheck (.t 219)), none⟩, 1, 0⟩,
⟨2, ⟨(some 221), .p (.faddr 0 (.t 220)), none⟩, 3, 0⟩,
⟨3, ⟨(some 222), .r (.load none (.t 221)), none⟩, 7, 0⟩,
⟨4, ⟨(some 223), .p (.nilCheck (.t 222)), none⟩, 15, 0⟩,
⟨5, ⟨(some 224), .p (.faddr 89 (.t 223)), none⟩, 31, 0⟩,
⟨6, ⟨(some 225), .r (.load none (.t 224)), none⟩, 63, 0⟩,
⟨7, ⟨(some 226), .p (.mv (.t 0)), none⟩, 0, 0⟩,
⟨8, ⟨(some 227), .p (.nilCheck (.t 226)), none⟩, 128, 0⟩,
⟨9, ⟨(some 228), .p (.faddr 1 (.t 227)), none⟩, 384, 0⟩,
⟨10, ⟨(some 229), .p (.faddr 20 (.t 228)), none⟩, 896, 0⟩,
⟨11, ⟨(some 230), .r (.load (some 20) (.t 229)), none⟩, 1920, 0⟩,
⟨12, ⟨(some 231), .r (.load (some 4) (.t 14)), none⟩, 0, 0⟩,
⟨13, ⟨(some 232), .p (.mv (.t 0)), none⟩, 0, 0⟩,
⟨14, ⟨(some 233), .b (.call 146 [(.t 232)]), none⟩, 8192, 0⟩,
⟨15, ⟨(some 234), .b (.call 171 [(.t 225), (.t 230), (.t 231), (.t 233)]), none⟩, 32767, 0⟩])) (.seq (.reg [
oK w236 (bCmp 0 intEq .eq false g18 (gC (.w (.s (ni64 94))))),
oP w235 (pMv g236)]) (.cond g235 (.seq (.reg [
oP w237 (pMv g0),
oCall w238 146 [g237],
oP w239 (pMv g0),
oCall w240 146 [g239],
oAlloc w15 24 [zu64, zu64, zu64, zu64],
oAlloc w16 24 [zu64, zu64, zu64, zu64],
oK wZ (bSt 4 g15 g238),
oK wZ (bSt 4 g16 g240)]) (.seq (.reg [
oP w241 (pMv g0),
oCall w242 146 [g241],
oAlloc w17 24 [zu64, zu64, zu64, zu64],
oK wZ (bSt 4 g17 g242)]) (.seq (.reg [
oP w243 (pMv g0),
oR w244 (rLoad (some 4) g17),
oCall w245 155 [g244, (gC (.w (.s (nu64 3))))],
oP w246 (pExt g245 0),
oP w247 (pExt g245 1),
oCall w248 154 [g243, g246, g247]]) (.seq (.reg [
oP w249 (pMv g0),
oR w250 (rLoad (some 4) g15),
oR w251 (rLoad (some 4) g17),
oP w252 (pBuild [zu64, zu64, zu64, zu64, zu64, zu64, zu64, zu64] [(0, 4, g250), (4, 4, g251)]),
oR w253 (rLoad (some 4) g16),
oR w254 (rLoad (some 4) g17),
oP w255 (pBuild [zu64, zu64, zu64, zu64, zu64, zu64, zu64, zu64] [(0, 4, g253), (4, 4, g254)]),
oM w256 (.bslice 225 2 [zu64, zu64, zu64, zu64, zu64, zu64, zu64, zu64] [(0, 8, (.t 252)), (8, 8, (.t 255))]),
oCall w257 156 [g249, g256]]) (.draw [
⟨0, ⟨(some 258), .p (.mv (.t 0)), none⟩, 0, 0⟩,
⟨1, ⟨(some 259), .r (.load (some 4) (.t 15)), none⟩, 0, 0⟩,
⟨2, ⟨(some 260), .r (.load (some 4) (.t 17)), none⟩, 0, 0⟩,
⟨3, ⟨(some 261), .p (.build [zu64, zu64, zu64, zu64, zu64, zu64, zu64, zu64] [(0, 4, (.t 259)), (4, 4, (.t 260))]), none⟩, 6, 0⟩,
⟨5, ⟨(some 263), .p (.mv (.t 0)), none⟩, 0, 0⟩,
⟨6, ⟨(some 264), .r (.load (some 4) (.t 16)), none⟩, 0, 0⟩,
⟨7, ⟨(some 265), .r (.load (some 4) (.t 17)), none⟩, 0, 0⟩,
⟨8, ⟨(some 266), .p (.build [zu64, zu64, zu64, zu64, zu64, zu64, zu64, zu64] [(0, 4, (.t 264)), (4, 4, (.t 265))]), none⟩, 192, 0⟩,
⟨4, ⟨(some 262), .b (.call 158 [(.t 258), (.t 261)]), none⟩, 15, 0⟩,
⟨9, ⟨(some 267), .b (.call 158 [(.t 263), (.t 266)]), none⟩, 511, 0⟩,
⟨10, ⟨(some 268), .b (.copy 1 (.t 262) (.t 267)), none⟩, 1023, 0⟩]))))) (.skip))))))))))))))))))))))))))))))⟩
theorem fp118 : ∃ fn, fb118 = denF fn ∧ ∃ func code hint, FnOk Go.Proofs.Tryz.prog TT 118 fn func code hint := f2_mk (func := Go.Proofs.Tryz.f118) (code := bodyOf Go.Proofs.Tryz.f118) (hint := hintL [(12, [(0, 0), (1, 0), (3, 0), (2, 0), (4, 0)]), (17, [(0, 0), (1, 0), (3, 0), (2, 0), (4, 0)]), (20, [(0, 0), (1, 0), (2, 0), (3, 0), (4, 0), (5, 0), (6, 0), (7, 0), (8, 0), (9, 0), (10, 0), (11, 0), (12, 0), (13, 0), (14, 0), (15, 0), (16, 0), (17, 0), (18, 0), (19, 0), (20, 0)]), (23, [(0, 0), (1, 0), (2, 0), (3, 0), (4, 0), (5, 0), (6, 0), (7, 0), (8, 0), (9, 0), (10, 0), (11, 0), (12, 0), (13, 0), (14, 0), (15, 0)]), (26, [(0, 0), (1, 0), (2, 0), (3, 0), (4, 0)]), (40, [(0, 0), (1, 0), (2, 0), (3, 0), (4, 0), (5, 0), (6, 0), (7, 0), (8, 0), (9, 0), (10, 0), (11, 0), (12, 0), (13, 0), (14, 0), (15, 0), (16, 0)]), (43, [(0, 0), (1, 0), (2, 0), (3, 0), (4, 0), (5, 0), (6, 0), (7, 0), (8, 0), (9, 0), (10, 0), (11, 0), (12, 0), (13, 0), (14, 0), (15, 0)]), (49, [(0, 0), (1, 0), (2, 0), (3, 0), (5, 0), (6, 0), (7, 0), (8, 0), (4, 0), (9, 0), (10, 0)])]) (n := 269) (res := []) Go.Proofs.Tryz.func118 Go.Proofs.Tryz.call118 (by kernel_rfl) (by kernel_rfl) (by kernel_rfl) (by kernel_rfl) (by kernel_rfl)
/- (*quarry/vm.frame).pushes -/
def fb119 : AFunc2 := ⟨32, [], .seq (.draw [
⟨0, ⟨(some 7), .p (.mv (.t 0)), none⟩, 0, 0⟩,
⟨1, ⟨(some 8), .p (.nilCheck (.t 7)), none⟩, 1, 0⟩,
⟨2, ⟨(some 9), .p (.faddr 69 (.t 8)), none⟩, 3, 0⟩,
⟨3, ⟨(some 10), .r (.load none (.t 9)), none⟩, 7, 0⟩,
⟨4, ⟨(some 11), .p (.mv (.t 0)), none⟩, 0, 0⟩,
⟨5, ⟨(some 12), .p (.nilCheck (.t 11)), none⟩, 16, 0⟩,
⟨6, ⟨(some 13), .p (.faddr 73 (.t 12)), none⟩, 48, 0⟩,
⟨7, ⟨(some 14), .r (.load none (.t 13)), none⟩, 112, 0⟩,
⟨9, ⟨(some 16), .p (.mv (.t 1)), none⟩, 0, 0⟩,
⟨15, ⟨(some 4), .m (.alloc 24 [zu64, zu64, zu64, zu64]), none⟩, 0, 3072⟩,
⟨8, ⟨(some 15), .b (.call 163 [(.t 14)]), none⟩, 240, 0⟩,
⟨10, ⟨(some 17), .b (.call 162 [(.t 10), (.t 15), (.t 16)]), none⟩, 1023, 0⟩,
⟨11, ⟨(some 18), .b (.call 10 [(.t 17)]), none⟩, 2047, 0⟩,
⟨12, ⟨(some 6), .p (.mv (.t 18)), none⟩, 4095, 0⟩,
⟨13, ⟨(some 19), .p (.ext (.t 6) 0), none⟩, 8191, 0⟩,
⟨14, ⟨(some 20), .p (.ext (.t 6) 1), none⟩, 8191, 0⟩,
⟨16, ⟨none, .b (.store 4 (.t 4) (.t 19)), none⟩, 49151, 0⟩,
⟨17, ⟨(some 5), .p (.mv (.t 20)), none⟩, 131071, 0⟩]) (.seq (.reg [
oP w21 (pMv g0),
oR w22 (rLoad (some 4) g4),
oCall w23 120 [g21, g22]]) (.reg [
oP w24 (pMv g0),
oP w25 (pGen fun _ t => opNil t (.t 24)),
oP w26 (pFaddr 73 g25),
oR w27 (rLoad none g26),
oP w28 (pMv g1),
oP w29 (pAr 0 g27 g28),
oP w30 (pGen fun _ t => opNil t (.t 24)),
oP w31 (pFaddr 73 g30),
oK wZ (bSt 1 g31 g29)]))⟩
theorem fp119 : ∃ fn, fb119 = denF fn ∧ ∃ func code hint, FnOk Go.Proofs.Tryz.prog TT 119 fn func code hint := f2_mk (func := Go.Proofs.Tryz.f119) (code := bodyOf Go.Proofs.Tryz.f119) (hint := hintL [(0, [(0, 0), (1, 0), (2, 0), (3, 0), (4, 0), (5, 0), (6, 0), (7, 0), (9, 0), (15, 3072), (8, 0), (10, 0), (11, 0), (12, 0), (13, 0), (14, 0), (16, 0), (17, 0)])]) (n := 32) (res := []) Go.Proofs.Tryz.func119 Go.Proofs.Tryz.call119 (by kernel_rfl) (by kernel_rfl) (by kernel_rfl) (by kernel_rfl) (by kernel_rfl)
/- (*quarry/vm.frame).push -/
def fb120 : AFunc2 := ⟨14, [], .seq (.reg [
oBox w3 24 g1]) (.draw [
⟨0, ⟨(some 4), .p (.mv (.t 0)), none⟩, 0, 0⟩,
⟨1, ⟨(some 5), .p (.mv (.t 0)), none⟩, 0, 0⟩,
⟨2, ⟨(some 6), .p (.nilCheck (.t 5)), none⟩, 2, 0⟩,
⟨3, ⟨(some 7), .p (.faddr 70 (.t 6)), none⟩, 6, 0⟩,
⟨4, ⟨(some 8), .r (.load none (.t 7)), none⟩, 14, 0⟩,
⟨5, ⟨(some 9), .r (.load (some 4) (.t 3)), none⟩, 0, 0⟩,
⟨6, ⟨(some 10), .m (.bslice 24 1 [zu64, zu64, zu64, zu64] [(0, 4, (.t 9))]), none⟩, 32, 0⟩,
⟨7, ⟨(some 11), .b (.append 24 4 32 (.t 8) (.t 10)), none⟩, 126, 0⟩,
⟨8, ⟨(some 12), .p (.nilCheck (.t 4)), none⟩, 255, 0⟩,
⟨9, ⟨(some 13), .p (.faddr 70 (.t 12)), none⟩, 511, 0⟩,
⟨10, ⟨none, .b (.store 1 (.t 13) (.t 11)), none⟩, 1023, 0⟩])⟩
theorem fp120 : ∃ fn, fb120 = denF fn ∧ ∃ func code hint, FnOk Go.Proofs.Tryz.prog TT 120 fn func code hint := f2_mk (func := Go.Proofs.Tryz.f120) (code := bodyOf Go.Proofs.Tryz.f120) (hint := hintL [(1, [(0, 0), (1, 0), (2, 0), (3, 0), (4, 0), (5, 0), (6, 0), (7, 0), (8, 0), (9, 0), (10, 0)])]) (n := 14) (res := []) Go.Proofs.Tryz.func120 Go.Proofs.Tryz.call120 (by kernel_rfl) (by kernel_rfl) (by kernel_rfl) (by kernel_rfl) (by kernel_rfl)
/- (*quarry/vm.frame).logs -/
def fb121 : AFunc2 := ⟨51, [], .seq (.reg [
oP w6 (pMv g0),
oCall w7 153 [g6],
oAlloc w4 225 [zu64, zu64, zu64, zu64, zu64, zu64, zu64, zu64],
oK wZ (bSt 8 g4 g7)]) (.seq (.reg [
oP w8 (pMv g0),
oP w9 (pGen fun _ t => opNil t (.t 8)),
oP w10 (pFaddr 1 g9),
oP w11 (pFaddr 20 g10),
oR w12 (rLoad (some 20) g11),
oP w13 (pBuild [zu8, zu8, zu8, zu8, zu8, zu8, zu8, zu8, zu8, zu8, zu8, zu8, zu8, zu8, zu8, zu8, zu8, zu8, zu8, zu8, .nils, .nils] [(0, 20, g12)]),
oAlloc w5 113 [zu8, zu8, zu8, zu8, zu8, zu8, zu8, zu8, zu8, zu8, zu8, zu8, zu8, zu8, zu8, zu8, zu8, zu8, zu8, zu8, .nils, .nils],
oK wZ (bSt 22 g5 g13)]) (.seq (.seq (.reg [
oP w14 (pMv g1),
oP w15 (pMv (gC (.w (.s (zi64)))))]) (.block 0 (.loop (.seq (.reg [
oK w16 (bCmp 2 lLt cGe true g15 g14)]) (.seq (.cond g16 (.skip) (.exit 0)) (.seq (.block 1 (.draw [
⟨0, ⟨(some 17), .p (.faddr 20 (.t 5)), none⟩, 0, 0⟩,
⟨1, ⟨(some 18), .r (.load none (.t 17)), none⟩, 1, 0⟩,
⟨2, ⟨(some 19), .p (.mv (.t 0)), none⟩, 0, 0⟩,
⟨3, ⟨(some 20), .b (.call 146 [(.t 19)]), none⟩, 4, 0⟩,
⟨4, ⟨(some 21), .b (.call 19 [(.t 20)]), none⟩, 12, 0⟩,
⟨5, ⟨(some 22), .m (.bslice 90 1 (lrep (zu8) 32) [(0, 32, (.t 21))]), none⟩, 28, 2048⟩,
⟨6, ⟨(some 23), .b (.append 90 32 32 (.t 18) (.t 22)), none⟩, 63, 0⟩,
⟨7, ⟨(some 24), .p (.faddr 20 (.t 5)), none⟩, 127, 0⟩,
⟨8, ⟨none, .b (.store 1 (.t 24) (.t 23)), none⟩, 255, 0⟩])) (.reg [
oP w25 (pAr 0 g15 (gC (.w (.s (ni64 1))))),
oP w15 (pMv g25)]))))))) (.seq (.reg [
oP w26 (pMv g0),
oP w27 (pMv g1),
oP w28 (pFaddr 4 g4),
oR w29 (rLoad (some 4) g28),
oCall w30 172 [g27, g29],
oP w31 (pExt g30 0),
oP w32 (pExt g30 1),
oCall w33 154 [g26, g31, g32]]) (.seq (.reg [
oP w34 (pMv g0),
oR w35 (rLoad (some 8) g4),
oM w36 (.bslice 225 1 [zu64, zu64, zu64, zu64, zu64, zu64, zu64, zu64] [(0, 8, (.t 35))]),
oCall w37 156 [g34, g36]]) (.seq (.reg [
oP w38 (pMv g0),
oR w39 (rLoad (some 8) g4),
oCall w40 158 [g38, g39],
oP w41 (pFaddr 21 g5),
oK wZ (bSt 1 g41 g40)]) (.draw [
⟨0, ⟨(some 42), .p (.mv (.t 0)), none⟩, 0, 0⟩,
⟨1, ⟨(some 43), .p (.nilCheck (.t 42)), none⟩, 1, 0⟩,
⟨2, ⟨(some 44), .p (.faddr 0 (.t 43)), none⟩, 3, 0⟩,
⟨3, ⟨(some 45), .r (.load none (.t 44)), none⟩, 7, 0⟩,
⟨4, ⟨(some 46), .p (.nilCheck (.t 45)), none⟩, 15, 0⟩,
⟨5, ⟨(some 47), .p (.faddr 89 (.t 46)), none⟩, 31, 0⟩,
⟨6, ⟨(some 48), .r (.load none (.t 47)), none⟩, 63, 0⟩,
⟨7, ⟨(some 49), .r (.load (some 22) (.t 5)), none⟩, 0, 0⟩,
⟨8, ⟨(some 50), .b (.call 173 [(.t 48), (.t 49)]), none⟩, 255, 0⟩]))))))⟩
theorem fp121 : ∃ fn, fb121 = denF fn ∧ ∃ func code hint, FnOk Go.Proofs.Tryz.prog TT 121 fn func code hint := f2_mk (func := Go.Proofs.Tryz.f121) (code := bodyOf Go.Proofs.Tryz.f121) (hint := hintL [(4, [(0, 0), (1, 0), (2, 0), (3, 0), (4, 0), (5, 2048), (6, 0), (7, 0), (8, 0)]), (9, [(0, 0), (1, 0), (2, 0), (3, 0), (4, 0), (5, 0), (6, 0), (7, 0), (8, 0)])]) (n := 51) (res := []) Go.Proofs.Tryz.func121 Go.Proofs.Tryz.call121 (by kernel_rfl) (by kernel_rfl) (by kernel_rfl) (by kernel_rfl) (by kernel_rfl)
/- (*quarry/vm.frame).messages -/
def fb122 : AFunc2 := ⟨39, [], .seq (.reg [
oP w6 (pMv g1)]) (.block 0 (.seq (.seq (.reg [
oK w11 (bCmp 0 intEq .eq false g6 (gC (.w (.s (ni64 240))))),
oP w10 (pMv g11)]) (.cond g10 (.skip) (.reg [
oK w12 (bCmp 0 intEq .eq false g6 (gC (.w (.s (ni64 245))))),
oP w10 (pMv g12)]))) (.cond g10 (.reg [
oP w13 (pMv g0),
oP w14 (pMv g1),
oCall w15 174 [g13, g14]]) (.seq (.seq (.reg [
oK w17 (bCmp 0 intEq .eq false g6 (gC (.w (.s (ni64 243))))),
oP w16 (pMv g17)]) (.cond g16 (.skip) (.reg [
oK w18 (bCmp 0 intEq .eq false g6 (gC (.w (.s (ni64 253))))),
oP w16 (pMv g18)]))) (.cond g16 (.seq (.reg [
oP w19 (pMv g0),
oCall w20 153 [g19],
oAlloc w4 225 [zu64, zu64, zu64, zu64, zu64, zu64, zu64, zu64],
oK wZ (bSt 8 g4 g20)]) (.seq (.reg [
oP w21 (pMv g0),
oR w22 (rLoad (some 8) g4),
oM w23 (.bslice 225 1 [zu64, zu64, zu64, zu64, zu64, zu64, zu64, zu64] [(0, 8, (.t 22))]),
oCall w24 156 [g21, g23]]) (.seq (.reg [
oP w5 (pMv (gC (.w (.s (zi64)))))]) (.seq (.seq (.reg [
oP w25 (pMv g1),
oK w26 (bCmp 0 intEq .eq false g25 (gC (.w (.s (ni64 253)))))]) (.cond g26 (.reg [
oP w5 (pMv (gC (.w (.s (ni64 1)))))]) (.skip))) (.reg [
oP w27 (pMv g0),
oP w28 (pMv g5),
oP w29 (pMv g0),
oR w30 (rLoad (some 8) g4),
oCall w31 158 [g29, g30],
oCall w32 145 [g27, g28, g31]]))))) (.seq (.reg [
oK w34 (bCmp 0 intEq .eq false g6 (gC (.w (.s (ni64 255))))),
oP w33 (pMv g34)]) (.cond g33 (.reg [
oP w35 (pMv g0),
oP w36 (pMv g0),
oCall w37 160 [g36],
oCall w38 175 [g35, g37]]) (.reg [
oP w7 (pMv g0),
oP w8 (pMv g1),
oCall w9 176 [g7, g8]]))))))))⟩
theorem fp122 : ∃ fn, fb122 = denF fn ∧ ∃ func code hint, FnOk Go.Proofs.Tryz.prog TT 122 fn func code hint := f2_mk (func := Go.Proofs.Tryz.f122) (code := bodyOf Go.Proofs.Tryz.f122) (hint := hintL []) (n := 39) (res := []) Go.Proofs.Tryz.func122 Go.Proofs.Tryz.call122 (by kernel_rfl) (by kernel_rfl) (by kernel_rfl) (by kernel_rfl) (by kernel_rfl)
/- quarry/hash.New -/
def fb123 : AFunc2 := ⟨3, [.tmp g0], .seq (.reg [
oP w0 (pMv (gC (.w (.s (.nilp)))))]) (.seq (.reg [
oP w1 (pBuild [zu64, zu64, zu64, zu64, zu64, zu64, zu64, zu64, zu64, zu64, zu64, zu64, zu64, zu64, zu64, zu64, zu64, zu64, zu64, zu64, zu64, zu64, zu64, zu64, zu64, .nils] []),
oBox w2 211 g1,
oP w0 (pMv g2)]) (.ret))⟩
theorem fp123 : ∃ fn, fb123 = denF fn ∧ ∃ func code hint, FnOk Go.Proofs.Tryz.prog TT 123 fn func code hint := f2_mk (func := Go.Proofs.Tryz.f123) (code := bodyOf Go.Proofs.Tryz.f123) (hint := hintL []) (n := 3) (res := [.tmp 0]) Go.Proofs.Tryz.func123 Go.Proofs.Tryz.call123 (by kernel_rfl) (by kernel_rfl) (by kernel_rfl) (by kernel_rfl) (by kernel_rfl)
/- (*quarry/hash.lanes).absorb -/
def fb124 : AFunc2 := ⟨31, [], .seq (.seq (.reg [
oP w6 (pMv g1),
oP w7 (pGen fun _ t => opLen t (.t 6)),
oP w8 (pMv (gC (.w (.s (zi64)))))]) (.block 0 (.loop (.seq (.reg [
oK w9 (bCmp 2 lLt cGe true g8 g7)]) (.seq (.cond g9 (.skip) (.exit 0)) (.seq (.block 1 (.seq (.reg [
oP w10 (pMv g8),
oP w11 (pIaddrS 1 g6 g8),
oR w12 (rLoad none g11),
oP w4 (pMv g10),
oP w5 (pMv g12)]) (.draw [
⟨0, ⟨(some 13), .p (.mv (.t 0)), none⟩, 0, 0⟩,
⟨1, ⟨(some 14), .p (.mv (.t 4)), none⟩, 0, 0⟩,
⟨2, ⟨(some 15), .p (.dv (.t 14) (.c (.w (.s (ni64 8))))), none⟩, 2, 0⟩,
⟨3, ⟨(some 16), .p (.nilCheck (.t 13)), none⟩, 1, 0⟩,
⟨4, ⟨(some 17), .p (.iaddrA 25 1 (.t 16) (.t 15)), none⟩, 15, 0⟩,
⟨5, ⟨(some 18), .r (.load none (.t 17)), none⟩, 31, 0⟩,
⟨6, ⟨(some 19), .p (.mv (.t 5)), none⟩, 0, 0⟩,
⟨7, ⟨(some 20), .p (.conv .u64 (.t 19)), none⟩, 64, 0⟩,
⟨8, ⟨(some 21), .p (.mv (.t 4)), none⟩, 0, 0⟩,
⟨9, ⟨(some 22), .p (.md (.t 21) (.c (.w (.s (ni64 8))))), none⟩, 256, 0⟩,
⟨10, ⟨(some 23), .p (.ar 2 (.t 22) (.c (.w (.s (ni64 8))))), none⟩, 768, 0⟩,
⟨11, ⟨(some 24), .p (.shl (.t 20) (.t 23)), none⟩, 1984, 0⟩,
⟨12, ⟨(some 25), .p (.bt 2 (.t 18) (.t 24)), none⟩, 4095, 0⟩,
⟨13, ⟨(some 26), .p (.nilCheck (.t 13)), none⟩, 1, 0⟩,
⟨14, ⟨(some 27), .p (.iaddrA 25 1 (.t 26) (.t 15)), none⟩, 16383, 0⟩,
⟨15, ⟨none, .b (.store 1 (.t 27) (.t 25)), none⟩, 32767, 0⟩]))) (.reg [
oP w28 (pAr 0 g8 (gC (.w (.s (ni64 1))))),
oP w8 (pMv g28)]))))))) (.reg [
oP w29 (pMv g0),
oCall w30 177 [g29]])⟩
theorem fp124 : ∃ fn, fb124 = denF fn ∧ ∃ func code hint, FnOk Go.Proofs.Tryz.prog TT 124 fn func code hint := f2_mk (func := Go.Proofs.Tryz.f124) (code := bodyOf Go.Proofs.Tryz.f124) (hint := hintL [(3, [(0, 0), (1, 0), (2, 0), (3, 0), (4, 0), (5, 0), (6, 0), (7, 0), (8, 0), (9, 0), (10, 0), (11, 0), (12, 0), (13, 0), (14, 0), (15, 0)])]) (n := 31) (res := []) Go.Proofs.Tryz.func124 Go.Proofs.Tryz.call124 (by kernel_rfl) (by kernel_rfl) (by kernel_rfl) (by kernel_rfl) (by kernel_rfl)
/- (*quarry/hash.Sponge).Sum -/
def fb125 : AFunc2 := ⟨45, [.cell (rLoad (some 32) g2)], .seq (.reg [
oAlloc w2 50 zz1]) (.seq (.reg [
oAlloc w3 242 zz3]) (.seq (.draw [
⟨0, ⟨(some 7), .p (.aslice 136 1 (.t 3) none none), none⟩, 0, 0⟩,
⟨1, ⟨(some 8), .p (.mv (.t 0)), none⟩, 0, 0⟩,
⟨2, ⟨(some 9), .p (.nilCheck (.t 8)), none⟩, 2, 0⟩,
⟨3, ⟨(some 10), .p (.faddr 25 (.t 9)), none⟩, 6, 0⟩,
⟨4, ⟨(some 11), .r (.load none (.t 10)), none⟩, 14, 0⟩,
⟨5, ⟨(some 12), .b (.copy 1 (.t 7) (.t 11)), none⟩, 31, 0⟩]) (.seq (.reg [
oP w13 (pMv g0),
oP w14 (pGen fun _ t => opNil t (.t 13)),
oP w15 (pFaddr 25 g14),
oR w16 (rLoad none g15),
oP w17 (pGen fun _ t => opLen t (.t 16)),
oP w18 (pIaddrA 136 1 g3 g17),
oK wZ (bSt 1 g18 (gC (.w (.s (nu8 1)))))]) (.seq (.reg [
oP w19 (pIaddrA 136 1 g3 (gC (.w (.s (ni64 135))))),
oR w20 (rLoad none g19),
oP w21 (pBt 1 g20 (gC (.w (.s (nu8 128))))),
oP w22 (pIaddrA 136 1 g3 (gC (.w (.s (ni64 135))))),
oK wZ (bSt 1 g22 g21)]) (.seq (.reg [
oP w23 (pMv g0),
oP w24 (pGen fun _ t => opNil t (.t 23)),
oP w25 (pFaddr 0 g24),
oR w26 (rLoad (some 25) g25),
oAlloc w4 209 zz4,
oK wZ (bSt 25 g4 g26)]) (.seq (.reg [
oP w27 (pGen fun _ t => opASlice t 136 1 (.t 3) none none),
oCall w28 124 [g4, g27]]) (.seq (.reg [
oAlloc w5 50 zz1]) (.seq (.seq (.reg [
oP w29 (pMv (gC (.w (.s (zi64)))))]) (.block 0 (.loop (.seq (.reg [
oK w30 (bCmp 2 lLt cGe true g29 (gC (.w (.s (ni64 32)))))]) (.seq (.cond g30 (.skip) (.exit 0)) (.seq (.block 1 (.seq (.reg [
oP w31 (pMv g29),
oP w6 (pMv g31)]) (.reg [
oP w32 (pMv g6),
oP w33 (pMv g6),
oP w34 (pGen fun φ t => opDv φ t (.t 33) (.c (.w (.s (ni64 8))))),
oP w35 (pIaddrA 25 1 g4 g34),
oR w36 (rLoad none g35),
oP w37 (pMv g6),
oP w38 (pGen fun φ t => opMd φ t (.t 37) (.c (.w (.s (ni64 8))))),
oP w39 (pAr 2 g38 (gC (.w (.s (ni64 8))))),
oP w40 (pShr g36 g39),
oP w41 (pConv .u8 g40),
oP w42 (pIaddrA 32 1 g5 g32),
oK wZ (bSt 1 g42 g41)]))) (.reg [
oP w43 (pAr 0 g29 (gC (.w (.s (ni64 1))))),
oP w29 (pMv g43)]))))))) (.seq (.reg [
oR w44 (rLoad (some 32) g5),
oK wZ (bSt 32 g2 g44)]) (.ret))))))))))⟩
theorem fp125 : ∃ fn, fb125 = denF fn ∧ ∃ func code hint, FnOk Go.Proofs.Tryz.prog TT 125 fn func code hint := f2_mk (func := Go.Proofs.Tryz.f125) (code := bodyOf Go.Proofs.Tryz.f125) (hint := hintL [(2, [(0, 0), (1, 0), (2, 0), (3, 0), (4, 0), (5, 0)])]) (n := 45) (res := [.cell 2 (some 32)]) Go.Proofs.Tryz.func125 Go.Proofs.Tryz.call125 (by kernel_rfl) (by kernel_rfl) (by kernel_rfl) (by kernel_rfl) (by kernel_rfl)
/- quarry/rlp.encode -/
def fb126 : AFunc2 := ⟨65, [.tmp g4, .tmp g5], .seq (.reg [
oBox w2 166 g0,
oP w4 (pMv (gC (.w (.s (.nils))))),
oP w5 (pMv (gC (.w (.s (zi64)))))]) (.seq (.seq (.reg [
oP w11 (pFaddr 0 g2),
oR w12 (rLoad none g11),
oP w13 (pNot g12)]) (.cond g13 (.seq (.seq (.reg [
oP w14 (pFaddr 1 g2),
oR w15 (rLoad none g14),
oP w16 (pGen fun _ t => opLen t (.t 15)),
oK w17 (bCmp 0 intEq .eq false g16 (gC (.w (.s (ni64 1))))),
oP w18 (pMv g17),
oGd g18 true w19 (oP w19 (pFaddr 1 g2)),
oGd g18 true w20 (oR w20 (rLoad none g19)),
oGd g18 true w21 (oP w21 (pIaddrS 1 g20 (gC (.w (.s (zi64)))))),
oGd g18 true w22 (oR w22 (rLoad none g21)),
oGd g18 true w23 (oK w23 (bCmp 2 lLt cGe true g22 (gC (.w (.s (nu8 128)))))),
oP w24 (pGen fun _ t => opPick t (.t 18) (.t 23) (.c (.w (.s (.bool false)))))]) (.cond g24 (.seq (.reg [
oP w25 (pFaddr 1 g2),
oR w26 (rLoad none g25),
oP w27 (pIaddrS 1 g26 (gC (.w (.s (zi64))))),
oR w28 (rLoad none g27),
oM w29 (.bslice 5 1 [zu8] [(0, 1, (.t 28))]),
oP w4 (pMv g29),
oP w5 (pMv (gC (.w (.s (zi64)))))]) (.ret)) (.skip))) (.seq (.draw [
⟨0, ⟨(some 30), .p (.faddr 1 (.t 2)), none⟩, 0, 0⟩,
⟨1, ⟨(some 31), .r (.load none (.t 30)), none⟩, 1, 0⟩,
⟨2, ⟨(some 32), .p (.len (.t 31)), none⟩, 3, 0⟩,
⟨4, ⟨(some 34), .p (.faddr 1 (.t 2)), none⟩, 0, 0⟩,
⟨5, ⟨(some 35), .r (.load none (.t 34)), none⟩, 16, 0⟩,
⟨3, ⟨(some 33), .b (.call 178 [(.c (.w (.s (ni64 128)))), (.t 32)]), none⟩, 7, 0⟩,
⟨6, ⟨(some 36), .b (.append 5 1 1 (.t 33) (.t 35)), none⟩, 63, 0⟩,
⟨7, ⟨(some 4), .p (.mv (.t 36)), none⟩, 127, 0⟩,
⟨8, ⟨(some 5), .p (.mv (.c (.w (.s (zi64))))), none⟩, 255, 0⟩]) (.ret))) (.skip))) (.seq (.seq (.reg [
oP w37 (pMv g1),
oK w38 (bCmp 0 intEq .eq false g37 (gC (.w (.s (ni64 1024)))))]) (.cond g38 (.seq (.reg [
oP w4 (pMv (gC (.w (.s (.nils))))),
oP w5 (pMv (gC (.w (.s (ni64 7)))))]) (.ret)) (.skip))) (.seq (.reg [
oP w6 (pMv (gC (.w (.s (.nils)))))]) (.seq (.seq (.reg [
oP w39 (pFaddr 2 g2),
oR w40 (rLoad none g39),
oP w41 (pGen fun _ t => opLen t (.t 40)),
oP w42 (pMv (gC (.w (.s (zi64)))))]) (.block 0 (.loop (.seq (.reg [
oK w43 (bCmp 2 lLt cGe true g42 g41)]) (.seq (.cond g43 (.skip) (.exit 0)) (.seq (.block 1 (.seq (.reg [
oP w44 (pIaddrS 3 g40 g42),
oR w45 (rLoad (some 3) g44),
oAlloc w8 166 [.bool false, .nils, .nils],
oK wZ (bSt 3 g8 g45)]) (.seq (.reg [
oR w47 (rLoad (some 3) g8),
oP w48 (pMv g1),
oP w49 (pAr 0 g48 (gC (.w (.s (ni64 1))))),
oCall w50 126 [g47, g49],
oP w46 (pMv g50),
oP w51 (pExt g46 0),
oP w52 (pExt g46 1),
oP w9 (pMv g51),
oP w10 (pMv g52)]) (.seq (.seq (.reg [
oP w53 (pMv g10),
oK w54 (bCmp 1 nEq .eq true g53 (gC (.w (.s (zi64)))))]) (.cond g54 (.seq (.reg [
oP w55 (pMv g10),
oP w4 (pMv (gC (.w (.s (.nils))))),
oP w5 (pMv g55)]) (.ret)) (.skip))) (.reg [
oP w56 (pMv g6),
oP w57 (pMv g9),
oK w58 (b2 (bAppend 5 1 1) g56 g57),
oP w6 (pMv g58)]))))) (.reg [
oP w59 (pAr 0 g42 (gC (.w (.s (ni64 1))))),
oP w42 (pMv g59)]))))))) (.seq (.reg [
oP w60 (pMv g6),
oP w61 (pGen fun _ t => opLen t (.t 60)),
oCall w62 178 [(gC (.w (.s (ni64 192)))), g61],
oP w63 (pMv g6),
oK w64 (b2 (bAppend 5 1 1) g62 g63),
oP w4 (pMv g64),
oP w5 (pMv (gC (.w (.s (zi64)))))]) (.ret))))))⟩
theorem fp126 : ∃ fn, fb126 = denF fn ∧ ∃ func code hint, FnOk Go.Proofs.Tryz.prog TT 126 fn func code hint := f2_mk (func := Go.Proofs.Tryz.f126) (code := bodyOf Go.Proofs.Tryz.f126) (hint := hintL [(4, [(0, 0), (1, 0), (2, 0), (4, 0), (5, 0), (3, 0), (6, 0), (7, 0), (8, 0)])]) (n := 65) (res := [.tmp 4, .tmp 5]) Go.Proofs.Tryz.func126 Go.Proofs.Tryz.call126 (by kernel_rfl) (by kernel_rfl) (by kernel_rfl) (by kernel_rfl) (by kernel_rfl)
/- quarry/word.Short -/
def fb127 : AFunc2 := ⟨15, [.tmp g2], .seq (.reg [
oBox w1 24 g0,
oP w2 (pMv (gC (.w (.s (.nils)))))]) (.seq (.reg [
oR w5 (rLoad (some 4) g1),
oCall w6 19 [g5],
oAlloc w3 50 zz1,
oK wZ (bSt 32 g3 g6)]) (.seq (.reg [
oR w7 (rLoad (some 4) g1),
oCall w8 179 [g7],
oP w9 (pAr 0 g8 (gC (.w (.s (ni64 7))))),
oP w10 (pGen fun φ t => opDv φ t (.t 9) (.c (.w (.s (ni64 8))))),
oP w4 (pMv g10)]) (.seq (.reg [
oP w11 (pMv g4),
oP w12 (pAr 1 (gC (.w (.s (ni64 32)))) g11),
oP w13 (pGen fun _ t => opASlice t 32 1 (.t 3) (some (.t 12)) none),
oK w14 (b2 (bAppend 5 1 1) (gC (.w (.s (.nils)))) g13),
oP w2 (pMv g14)]) (.ret))))⟩
theorem fp127 : ∃ fn, fb127 = denF fn ∧ ∃ func code hint, FnOk Go.Proofs.Tryz.prog TT 127 fn func code hint := f2_mk (func := Go.Proofs.Tryz.f127) (code := bodyOf Go.Proofs.Tryz.f127) (hint := hintL []) (n := 15) (res := [.tmp 2]) Go.Proofs.Tryz.func127 Go.Proofs.Tryz.call127 (by kernel_rfl) (by kernel_rfl) (by kernel_rfl) (by kernel_rfl) (by kernel_rfl)
/- quarry/pre.Run -/
def fb128 : AFunc2 := ⟨47, [.tmp g8, .tmp g9, .tmp g10], .seq (.reg [
oP w8 (pMv (gC (.w (.s (.nils))))),
oP w9 (pMv (gC (.w (.s (zu64))))),
oP w10 (pMv (gC (.w (.s (.bool false)))))]) (.seq (.reg [
oP w15 (pMv g0),
oP w16 (pMv g1),
oP w17 (pMv g2),
oCall w18 180 [g15, g16, g17],
oP w14 (pMv g18),
oP w19 (pExt g14 0),
oP w20 (pExt g14 1),
oP w11 (pMv g19),
oP w12 (pMv g20)]) (.seq (.seq (.reg [
oP w21 (pMv g12),
oK w22 (bCmp 1 nEq .eq true g21 (gC (.w (.s (zi64))))),
oP w23 (pMv g22),
oGd g23 false w24 (oP w24 (pMv g11)),
oGd g23 false w25 (oP w25 (pMv g3)),
oGd g23 false w26 (oK w26 (bCmp 4 nLe .le true g24 g25)),
oP w27 (pGen fun _ t => opPick t (.t 23) (.c (.w (.s (.bool true)))) (.t 26)),
oP w28 (pMv g27),
oGd g28 false w29 (oP w29 (pMv g11)),
oGd g28 false w30 (oK w30 (bCmp 0 intEq .eq false g29 (gC (.w (.s (nu64 18446744073709551615)))))),
oP w31 (pGen fun _ t => opPick t (.t 28) (.c (.w (.s (.bool true)))) (.t 30))]) (.cond g31 (.seq (.reg [
oP w8 (pMv (gC (.w (.s (.nils))))),
oP w9 (pMv (gC (.w (.s (zu64))))),
oP w10 (pMv (gC (.w (.s (.bool false)))))]) (.ret)) (.skip))) (.seq (.reg [
oP w32 (pBuild zz5 [(1, 1, (gC (.w (.s (.fn 181 []))))), (2, 1, (gC (.w (.s (.fn 182 []))))), (3, 1, (gC (.w (.s (.fn 183 []))))), (4, 1, (gC (.w (.s (.fn 184 []))))), (5, 1, (gC (.w (.s (.fn 185 []))))), (6, 1, (gC (.w (.s (.fn 186 []))))), (7, 1, (gC (.w (.s (.fn 187 []))))), (8, 1, (gC (.w (.s (.fn 188 []))))), (9, 1, (gC (.w (.s (.fn 189 []))))), (10, 1, (gC (.w (.s (.fn 190 [])))))]),
oAlloc w13 248 zz5,
oK wZ (bSt 11 g13 g32)]) (.seq (.seq (.reg [
oP w34 (pMv g1),
oP w35 (pIaddrA 11 1 g13 g34),
oR w36 (rLoad none g35),
oP w37 (pMv g2),
oCallv w38 g36 [g37],
oP w33 (pMv g38),
oP w39 (pExt g33 0),
oP w40 (pExt g33 1),
oP w8 (pMv g39),
oP w10 (pMv g40)]) (.seq (.reg [
oP w41 (pMv g10),
oP w42 (pNot g41)]) (.cond g42 (.seq (.reg [
oP w8 (pMv (gC (.w (.s (.nils))))),
oP w9 (pMv (gC (.w (.s (zu64))))),
oP w10 (pMv (gC (.w (.s (.bool false)))))]) (.ret)) (.skip)))) (.seq (.reg [
oP w43 (pMv g8),
oP w44 (pMv g3),
oP w45 (pMv g11),
oP w46 (pAr 1 g44 g45),
oP w8 (pMv g43),
oP w9 (pMv g46),
oP w10 (pMv (gC (.w (.s (.bool true)))))]) (.ret))))))⟩
theorem fp128 : ∃ fn, fb128 = denF fn ∧ ∃ func code hint, FnOk Go.Proofs.Tryz.prog TT 128 fn func code hint := f2_mk (func := Go.Proofs.Tryz.f128) (code := bodyOf Go.Proofs.Tryz.f128) (hint := hintL []) (n := 47) (res := [.tmp 8, .tmp 9, .tmp 10]) Go.Proofs.Tryz.func128 Go.Proofs.Tryz.call128 (by kernel_rfl) (by kernel_rfl) (by kernel_rfl) (by kernel_rfl) (by kernel_rfl)
/- quarry/vm.fail -/
def fb130 : AFunc2 := ⟨2, [], .reg [
oP w0 (pBuild [] []),
oP w1 (pGen fun _ t => opMkif t 185 (.t 0)),
oAny none (.b (.panic (.t 1)))]⟩
theorem fp130 : ∃ fn, fb130 = denF fn ∧ ∃ func code hint, FnOk Go.Proofs.Tryz.prog TT 130 fn func code hint := f2_mk (func := Go.Proofs.Tryz.f130) (code := bodyOf Go.Proofs.Tryz.f130) (hint := hintL []) (n := 2) (res := []) Go.Proofs.Tryz.func130 Go.Proofs.Tryz.call130 (by kernel_rfl) (by kernel_rfl) (by kernel_rfl) (by kernel_rfl) (by kernel_rfl)
/- quarry/word.Mul -/
def fb131 : AFunc2 := ⟨14, [.cell (rLoad (some 4) g4)], .seq (.reg [
oBox w2 24 g0,
oBox w3 24 g1,
oAlloc w4 24 [zu64, zu64, zu64, zu64]]) (.seq (.reg [
oR w8 (rLoad (some 4) g2),
oR w9 (rLoad (some 4) g3),
oCall w10 191 [g8, g9],
oP w7 (pMv g10),
oP w11 (pExt g7 0),
oP w12 (pExt g7 1),
oAlloc w5 24 [zu64, zu64, zu64, zu64],
oAlloc w6 24 [zu64, zu64, zu64, zu64],
oK wZ (bSt 4 g5 g11),
oK wZ (bSt 4 g6 g12)]) (.seq (.reg [
oR w13 (rLoad (some 4) g6),
oK wZ (bSt 4 g4 g13)]) (.ret)))⟩
theorem fp131 : ∃ fn, fb131 = denF fn ∧ ∃ func code hint, FnOk Go.Proofs.Tryz.prog TT 131 fn func code hint := f2_mk (func := Go.Proofs.Tryz.f131) (code := bodyOf Go.Proofs.Tryz.f131) (hint := hintL []) (n := 14) (res := [.cell 4 (some 4)]) Go.Proofs.Tryz.func131 Go.Proofs.Tryz.call131 (by kernel_rfl) (by kernel_rfl) (by kernel_rfl) (by kernel_rfl) (by kernel_rfl)
/- quarry/word.Div -/
def fb132 : AFunc2 := ⟨14, [.cell (rLoad (some 4) g4)], .seq (.reg [
oBox w2 24 g0,
oBox w3 24 g1,
oAlloc w4 24 [zu64, zu64, zu64, zu64]]) (.seq (.reg [
oR w8 (rLoad (some 4) g2),
oR w9 (rLoad (some 4) g3),
oCall w10 192 [g8, g9],
oP w7 (pMv g10),
oP w11 (pExt g7 0),
oP w12 (pExt g7 1),
oAlloc w5 24 [zu64, zu64, zu64, zu64],
oAlloc w6 24 [zu64, zu64, zu64, zu64],
oK wZ (bSt 4 g5 g11),
oK wZ (bSt 4 g6 g12)]) (.seq (.reg [
oR w13 (rLoad (some 4) g5),
oK wZ (bSt 4 g4 g13)]) (.ret)))⟩
theorem fp132 : ∃ fn, fb132 = denF fn ∧ ∃ func code hint, FnOk Go.Proofs.Tryz.prog TT 132 fn func code hint := f2_mk (func := Go.Proofs.Tryz.f132) (code := bodyOf Go.Proofs.Tryz.f132) (hint := hintL []) (n := 14) (res := [.cell 4 (some 4)]) Go.Proofs.Tryz.func132 Go.Proofs.Tryz.call132 (by kernel_rfl) (by kernel_rfl) (by kernel_rfl) (by kernel_rfl) (by kernel_rfl)
/- quarry/word.Sdiv -/
def fb133 : AFunc2 := ⟨16, [.cell (rLoad (some 4) g4)], .seq (.reg [
oBox w2 24 g0,
oBox w3 24 g1,
oAlloc w4 24 [zu64, zu64, zu64, zu64]]) (.seq (.draw [
⟨0, ⟨(some 5), .r (.load (some 4) (.t 2)), none⟩, 0, 0⟩,
⟨2, ⟨(some 7), .r (.load (some 4) (.t 3)), none⟩, 0, 0⟩,
⟨5, ⟨(some 10), .r (.load (some 4) (.t 2)), none⟩, 0, 0⟩,
⟨7, ⟨(some 12), .r (.load (some 4) (.t 3)), none⟩, 0, 0⟩,
⟨1, ⟨(some 6), .b (.call 194 [(.t 5)]), none⟩, 1, 0⟩,
⟨3, ⟨(some 8), .b (.call 194 [(.t 7)]), none⟩, 7, 0⟩,
⟨4, ⟨(some 9), .b (.call 132 [(.t 6), (.t 8)]), none⟩, 15, 0⟩,
⟨6, ⟨(some 11), .b (.call 195 [(.t 10)]), none⟩, 63, 0⟩,
⟨8, ⟨(some 13), .b (.call 195 [(.t 12)]), none⟩, 255, 0⟩,
⟨9, ⟨(some 14), .b (.cmp 1 .bool (.t 11) (.t 13)), none⟩, 511, 0⟩,
⟨10, ⟨(some 15), .b (.call 193 [(.t 9), (.t 14)]), none⟩, 1023, 0⟩,
⟨11, ⟨none, .b (.store 4 (.t 4) (.t 15)), none⟩, 2047, 0⟩]) (.ret))⟩
theorem fp133 : ∃ fn, fb133 = denF fn ∧ ∃ func code hint, FnOk Go.Proofs.Tryz.prog TT 133 fn func code hint := f2_mk (func := Go.Proofs.Tryz.f133) (code := bodyOf Go.Proofs.Tryz.f133) (hint := hintL [(1, [(0, 0), (2, 0), (5, 0), (7, 0), (1, 0), (3, 0), (4, 0), (6, 0), (8, 0), (9, 0), (10, 0), (11, 0)])]) (n := 16) (res := [.cell 4 (some 4)]) Go.Proofs.Tryz.func133 Go.Proofs.Tryz.call133 (by kernel_rfl) (by kernel_rfl) (by kernel_rfl) (by kernel_rfl) (by kernel_rfl)
/- quarry/word.Mod -/
def fb134 : AFunc2 := ⟨14, [.cell (rLoad (some 4) g4)], .seq (.reg [
oBox w2 24 g0,
oBox w3 24 g1,
oAlloc w4 24 [zu64, zu64, zu64, zu64]]) (.seq (.reg [
oR w8 (rLoad (some 4) g2),
oR w9 (rLoad (some 4) g3),
oCall w10 192 [g8, g9],
oP w7 (pMv g10),
oP w11 (pExt g7 0),
oP w12 (pExt g7 1),
oAlloc w5 24 [zu64, zu64, zu64, zu64],
oAlloc w6 24 [zu64, zu64, zu64, zu64],
oK wZ (bSt 4 g5 g11),
oK wZ (bSt 4 g6 g12)]) (.seq (.reg [
oR w13 (rLoad (some 4) g6),
oK wZ (bSt 4 g4 g13)]) (.ret)))⟩
theorem fp134 : ∃ fn, fb134 = denF fn ∧ ∃ func code hint, FnOk Go.Proofs.Tryz.prog TT 134 fn func code hint := f2_mk (func := Go.Proofs.Tryz.f134) (code := bodyOf Go.Proofs.Tryz.f134) (hint := hintL []) (n := 14) (res := [.cell 4 (some 4)]) Go.Proofs.Tryz.func134 Go.Proofs.Tryz.call134 (by kernel_rfl) (by kernel_rfl) (by kernel_rfl) (by kernel_rfl) (by kernel_rfl)
/- quarry/word.Smod -/
def fb135 : AFunc2 := ⟨13, [.cell (rLoad (some 4) g4)], .seq (.reg [
oBox w2 24 g0,
oBox w3 24 g1,
oAlloc w4 24 [zu64, zu64, zu64, zu64]]) (.seq (.draw [
⟨0, ⟨(some 5), .r (.load (some 4) (.t 2)), none⟩, 0, 0⟩,
⟨2, ⟨(some 7), .r (.load (some 4) (.t 3)), none⟩, 0, 0⟩,
⟨5, ⟨(some 10), .r (.load (some 4) (.t 2)), none⟩, 0, 0⟩,
⟨1, ⟨(some 6), .b (.call 194 [(.t 5)]), none⟩, 1, 0⟩,
⟨3, ⟨(some 8), .b (.call 194 [(.t 7)]), none⟩, 7, 0⟩,
⟨4, ⟨(some 9), .b (.call 134 [(.t 6), (.t 8)]), none⟩, 15, 0⟩,
⟨6, ⟨(some 11), .b (.call 195 [(.t 10)]), none⟩, 63, 0⟩,
⟨7, ⟨(some 12), .b (.call 193 [(.t 9), (.t 11)]), none⟩, 127, 0⟩,
⟨8, ⟨none, .b (.store 4 (.t 4) (.t 12)), none⟩, 255, 0⟩]) (.ret))⟩
theorem fp135 : ∃ fn, fb135 = denF fn ∧ ∃ func code hint, FnOk Go.Proofs.Tryz.prog TT 135 fn func code hint := f2_mk (func := Go.Proofs.Tryz.f135) (code := bodyOf Go.Proofs.Tryz.f135) (hint := hintL [(1, [(0, 0), (2, 0), (5, 0), (1, 0), (3, 0), (4, 0), (6, 0), (7, 0), (8, 0)])]) (n := 13) (res := [.cell 4 (some 4)]) Go.Proofs.Tryz.func135 Go.Proofs.Tryz.call135 (by kernel_rfl) (by kernel_rfl) (by kernel_rfl) (by kernel_rfl) (by kernel_rfl)
/- quarry/word.Exp -/
def fb136 : AFunc2 := ⟨31, [.cell (rLoad (some 4) g4)], .seq (.reg [
oBox w2 24 g0,
oBox w3 24 g1,
oAlloc w4 24 [zu64, zu64, zu64, zu64]]) (.seq (.reg [
oCall w7 26 [(gC (.w (.s (nu64 1))))],
oAlloc w5 24 [zu64, zu64, zu64, zu64],
oK wZ (bSt 4 g5 g7)]) (.seq (.seq (.reg [
oR w8 (rLoad (some 4) g3),
oCall w9 179 [g8],
oP w10 (pAr 1 g9 (gC (.w (.s (ni64 1))))),
oP w6 (pMv g10)]) (.block 0 (.loop (.seq (.seq (.reg [
oP w11 (pMv g6),
oK w12 (bCmp 5 gLe cGe false g11 (gC (.w (.s (zi64)))))]) (.cond g12 (.skip) (.exit 0))) (.seq (.block 1 (.seq (.reg [
oR w15 (rLoad (some 4) g5),
oR w16 (rLoad (some 4) g5),
oCall w17 131 [g15, g16],
oK wZ (bSt 4 g5 g17)]) (.seq (.reg [
oP w18 (pMv g6),
oP w19 (pGen fun φ t => opDv φ t (.t 18) (.c (.w (.s (ni64 64))))),
oP w20 (pIaddrA 4 1 g3 g19),
oR w21 (rLoad none g20),
oP w22 (pMv g6),
oP w23 (pGen fun φ t => opMd φ t (.t 22) (.c (.w (.s (ni64 64))))),
oP w24 (pShr g21 g23),
oP w25 (pBt 0 g24 (gC (.w (.s (nu64 1))))),
oK w26 (bCmp 0 intEq .eq false g25 (gC (.w (.s (nu64 1)))))]) (.cond g26 (.reg [
oR w27 (rLoad (some 4) g5),
oR w28 (rLoad (some 4) g2),
oCall w29 131 [g27, g28],
oK wZ (bSt 4 g5 g29)]) (.skip))))) (.reg [
oP w13 (pMv g6),
oP w14 (pAr 1 g13 (gC (.w (.s (ni64 1))))),
oP w6 (pMv g14)])))))) (.seq (.reg [
oR w30 (rLoad (some 4) g5),
oK wZ (bSt 4 g4 g30)]) (.ret))))⟩
theorem fp136 : ∃ fn, fb136 = denF fn ∧ ∃ func code hint, FnOk Go.Proofs.Tryz.prog TT 136 fn func code hint := f2_mk (func := Go.Proofs.Tryz.f136) (code := bodyOf Go.Proofs.Tryz.f136) (hint := hintL []) (n := 31) (res := [.cell 4 (some 4)]) Go.Proofs.Tryz.func136 Go.Proofs.Tryz.call136 (by kernel_rfl) (by kernel_rfl) (by kernel_rfl) (by kernel_rfl) (by kernel_rfl)
/- quarry/word.Signextend -/
def fb137 : AFunc2 := ⟨30, [.cell (rLoad (some 4) g4)], .seq (.reg [
oBox w2 24 g0,
oBox w3 24 g1,
oAlloc w4 24 [zu64, zu64, zu64, zu64]]) (.seq (.reg [
oR w9 (rLoad (some 4) g2),
oCall w10 38 [g9],
oP w8 (pMv g10),
oP w11 (pExt g8 0),
oP w12 (pExt g8 1),
oP w5 (pMv g11),
oP w6 (pMv g12)]) (.seq (.seq (.reg [
oP w13 (pMv g6),
oP w14 (pNot g13),
oP w15 (pMv g14),
oGd g15 false w16 (oP w16 (pMv g5)),
oGd g15 false w17 (oK w17 (bCmp 5 gLe cGe false g16 (gC (.w (.s (nu64 31)))))),
oP w18 (pGen fun _ t => opPick t (.t 15) (.c (.w (.s (.bool true)))) (.t 17))]) (.cond g18 (.seq (.reg [
oR w19 (rLoad (some 4) g3),
oK wZ (bSt 4 g4 g19)]) (.ret)) (.skip))) (.seq (.reg [
oP w20 (pMv g5),
oP w21 (pAr 2 (gC (.w (.s (nu64 8)))) g20),
oP w22 (pAr 0 g21 (gC (.w (.s (nu64 7))))),
oP w23 (pAr 1 (gC (.w (.s (nu64 255)))) g22),
oCall w24 26 [g23],
oAlloc w7 24 [zu64, zu64, zu64, zu64],
oK wZ (bSt 4 g7 g24)]) (.seq (.draw [
⟨0, ⟨(some 25), .r (.load (some 4) (.t 7)), none⟩, 0, 0⟩,
⟨1, ⟨(some 26), .r (.load (some 4) (.t 7)), none⟩, 0, 0⟩,
⟨2, ⟨(some 27), .r (.load (some 4) (.t 3)), none⟩, 0, 0⟩,
⟨3, ⟨(some 28), .b (.call 142 [(.t 26), (.t 27)]), none⟩, 6, 0⟩,
⟨4, ⟨(some 29), .b (.call 144 [(.t 25), (.t 28)]), none⟩, 15, 0⟩,
⟨5, ⟨none, .b (.store 4 (.t 4) (.t 29)), none⟩, 31, 0⟩]) (.ret)))))⟩
theorem fp137 : ∃ fn, fb137 = denF fn ∧ ∃ func code hint, FnOk Go.Proofs.Tryz.prog TT 137 fn func code hint := f2_mk (func := Go.Proofs.Tryz.f137) (code := bodyOf Go.Proofs.Tryz.f137) (hint := hintL [(5, [(0, 0), (1, 0), (2, 0), (3, 0), (4, 0), (5, 0)])]) (n := 30) (res := [.cell 4 (some 4)]) Go.Proofs.Tryz.func137 Go.Proofs.Tryz.call137 (by kernel_rfl) (by kernel_rfl) (by kernel_rfl) (by kernel_rfl) (by kernel_rfl)
/- quarry/word.And -/
def fb138 : AFunc2 := ⟨19, [.cell (rLoad (some 4) g4)], .seq (.reg [
oBox w2 24 g0,
oBox w3 24 g1,
oAlloc w4 24 [zu64, zu64, zu64, zu64]]) (.seq (.seq (.reg [
oP w6 (pMv (gC (.w (.s (zi64)))))]) (.block 0 (.loop (.seq (.reg [
oK w7 (bCmp 2 lLt cGe true g6 (gC (.w (.s (ni64 4)))))]) (.seq (.cond g7 (.skip) (.exit 0)) (.seq (.block 1 (.seq (.reg [
oP w8 (pMv g6),
oP w5 (pMv g8)]) (.draw [
⟨0, ⟨(some 9), .p (.mv (.t 5)), none⟩, 0, 0⟩,
⟨1, ⟨(some 10), .p (.iaddrA 4 1 (.t 2) (.t 9)), none⟩, 1, 0⟩,
⟨2, ⟨(some 11), .r (.load none (.t 10)), none⟩, 3, 0⟩,
⟨3, ⟨(some 12), .p (.mv (.t 5)), none⟩, 0, 0⟩,
⟨4, ⟨(some 13), .p (.iaddrA 4 1 (.t 3) (.t 12)), none⟩, 8, 0⟩,
⟨5, ⟨(some 14), .r (.load none (.t 13)), none⟩, 24, 0⟩,
⟨6, ⟨(some 15), .p (.bt 0 (.t 11) (.t 14)), none⟩, 63, 0⟩,
⟨7, ⟨(some 16), .p (.iaddrA 4 1 (.t 2) (.t 9)), none⟩, 127, 0⟩,
⟨8, ⟨none, .b (.store 1 (.t 16) (.t 15)), none⟩, 255, 0⟩]))) (.reg [
oP w17 (pAr 0 g6 (gC (.w (.s (ni64 1))))),
oP w6 (pMv g17)]))))))) (.seq (.reg [
oR w18 (rLoad (some 4) g2),
oK wZ (bSt 4 g4 g18)]) (.ret)))⟩
theorem fp138 : ∃ fn, fb138 = denF fn ∧ ∃ func code hint, FnOk Go.Proofs.Tryz.prog TT 138 fn func code hint := f2_mk (func := Go.Proofs.Tryz.f138) (code := bodyOf Go.Proofs.Tryz.f138) (hint := hintL [(4, [(0, 0), (1, 0), (2, 0), (3, 0), (4, 0), (5, 0), (6, 0), (7, 0), (8, 0)])]) (n := 19) (res := [.cell 4 (some 4)]) Go.Proofs.Tryz.func138 Go.Proofs.Tryz.call138 (by kernel_rfl) (by kernel_rfl) (by kernel_rfl) (by kernel_rfl) (by kernel_rfl)
/- quarry/word.Or -/
def fb139 : AFunc2 := ⟨19, [.cell (rLoad (some 4) g4)], .seq (.reg [
oBox w2 24 g0,
oBox w3 24 g1,
oAlloc w4 24 [zu64, zu64, zu64, zu64]]) (.seq (.seq (.reg [
oP w6 (pMv (gC (.w (.s (zi64)))))]) (.block 0 (.loop (.seq (.reg [
oK w7 (bCmp 2 lLt cGe true g6 (gC (.w (.s (ni64 4)))))]) (.seq (.cond g7 (.skip) (.exit 0)) (.seq (.block 1 (.seq (.reg [
oP w8 (pMv g6),
oP w5 (pMv g8)]) (.draw [
⟨0, ⟨(some 9), .p (.mv (.t 5)), none⟩, 0, 0⟩,
⟨1, ⟨(some 10), .p (.iaddrA 4 1 (.t 2) (.t 9)), none⟩, 1, 0⟩,
⟨2, ⟨(some 11), .r (.load none (.t 10)), none⟩, 3, 0⟩,
⟨3, ⟨(some 12), .p (.mv (.t 5)), none⟩, 0, 0⟩,
⟨4, ⟨(some 13), .p (.iaddrA 4 1 (.t 3) (.t 12)), none⟩, 8, 0⟩,
⟨5, ⟨(some 14), .r (.load none (.t 13)), none⟩, 24, 0⟩,
⟨6, ⟨(some 15), .p (.bt 1 (.t 11) (.t 14)), none⟩, 63, 0⟩,
⟨7, ⟨(some 16), .p (.iaddrA 4 1 (.t 2) (.t 9)), none⟩, 127, 0⟩,
⟨8, ⟨none, .b (.store 1 (.t 16) (.t 15)), none⟩, 255, 0⟩]))) (.reg [
oP w17 (pAr 0 g6 (gC (.w (.s (ni64 1))))),
oP w6 (pMv g17)]))))))) (.seq (.reg [
oR w18 (rLoad (some 4) g2),
oK wZ (bSt 4 g4 g18)]) (.ret)))⟩
theorem fp139 : ∃ fn, fb139 = denF fn ∧ ∃ func code hint, FnOk Go.Proofs.Tryz.prog TT 139 fn func code hint := f2_mk (func := Go.Proofs.Tryz.f139) (code := bodyOf Go.Proofs.Tryz.f139) (hint := hintL [(4, [(0, 0), (1, 0), (2, 0), (3, 0), (4, 0), (5, 0), (6, 0), (7, 0), (8, 0)])]) (n := 19) (res := [.cell 4 (some 4)]) Go.Proofs.Tryz.func139 Go.Proofs.Tryz.call139 (by kernel_rfl) (by kernel_rfl) (by kernel_rfl) (by kernel_rfl) (by kernel_rfl)
/- quarry/word.Xor -/
def fb140 : AFunc2 := ⟨19, [.cell (rLoad (some 4) g4)], .seq (.reg [
oBox w2 24 g0,
oBox w3 24 g1,
oAlloc w4 24 [zu64, zu64, zu64, zu64]]) (.seq (.seq (.reg [
oP w6 (pMv (gC (.w (.s (zi64)))))]) (.block 0 (.loop (.seq (.reg [
oK w7 (bCmp 2 lLt cGe true g6 (gC (.w (.s (ni64 4)))))]) (.seq (.cond g7 (.skip) (.exit 0)) (.seq (.block 1 (.seq (.reg [
oP w8 (pMv g6),
oP w5 (pMv g8)]) (.draw [
⟨0, ⟨(some 9), .p (.mv (.t 5)), none⟩, 0, 0⟩,
⟨1, ⟨(some 10), .p (.iaddrA 4 1 (.t 2) (.t 9)), none⟩, 1, 0⟩,
⟨2, ⟨(some 11), .r (.load none (.t 10)), none⟩, 3, 0⟩,
⟨3, ⟨(some 12), .p (.mv (.t 5)), none⟩, 0, 0⟩,
⟨4, ⟨(some 13), .p (.iaddrA 4 1 (.t 3) (.t 12)), none⟩, 8, 0⟩,
⟨5, ⟨(some 14), .r (.load none (.t 13)), none⟩, 24, 0⟩,
⟨6, ⟨(some 15), .p (.bt 2 (.t 11) (.t 14)), none⟩, 63, 0⟩,
⟨7, ⟨(some 16), .p (.iaddrA 4 1 (.t 2) (.t 9)), none⟩, 127, 0⟩,
⟨8, ⟨none, .b (.store 1 (.t 16) (.t 15)), none⟩, 255, 0⟩]))) (.reg [
oP w17 (pAr 0 g6 (gC (.w (.s (ni64 1))))),
oP w6 (pMv g17)]))))))) (.seq (.reg [
oR w18 (rLoad (some 4) g2),
oK wZ (bSt 4 g4 g18)]) (.ret)))⟩
theorem fp140 : ∃ fn, fb140 = denF fn ∧ ∃ func code hint, FnOk Go.Proofs.Tryz.prog TT 140 fn func code hint := f2_mk (func := Go.Proofs.Tryz.f140) (code := bodyOf Go.Proofs.Tryz.f140) (hint := hintL [(4, [(0, 0), (1, 0), (2, 0), (3, 0), (4, 0), (5, 0), (6, 0), (7, 0), (8, 0)])]) (n := 19) (res := [.cell 4 (some 4)]) Go.Proofs.Tryz.func140 Go.Proofs.Tryz.call140 (by kernel_rfl) (by kernel_rfl) (by kernel_rfl) (by kernel_rfl) (by kernel_rfl)
/- quarry/word.Byte -/
def fb141 : AFunc2 := ⟨27, [.cell (rLoad (some 4) g4)], .seq (.reg [
oBox w2 24 g0,
oBox w3 24 g1,
oAlloc w4 24 [zu64, zu64, zu64, zu64]]) (.seq (.reg [
oR w9 (rLoad (some 4) g2),
oCall w10 38 [g9],
oP w8 (pMv g10),
oP w11 (pExt g8 0),
oP w12 (pExt g8 1),
oP w5 (pMv g11),
oP w6 (pMv g12)]) (.seq (.seq (.reg [
oP w13 (pMv g6),
oP w14 (pNot g13),
oP w15 (pMv g14),
oGd g15 false w16 (oP w16 (pMv g5)),
oGd g15 false w17 (oK w17 (bCmp 5 gLe cGe false g16 (gC (.w (.s (nu64 32)))))),
oP w18 (pGen fun _ t => opPick t (.t 15) (.c (.w (.s (.bool true)))) (.t 17))]) (.cond g18 (.seq (.reg [
oP w19 (pBuild [zu64, zu64, zu64, zu64] []),
oK wZ (bSt 4 g4 g19)]) (.ret)) (.skip))) (.seq (.reg [
oR w20 (rLoad (some 4) g3),
oCall w21 19 [g20],
oAlloc w7 50 zz1,
oK wZ (bSt 32 g7 g21)]) (.seq (.reg [
oP w22 (pMv g5),
oP w23 (pIaddrA 32 1 g7 g22),
oR w24 (rLoad none g23),
oP w25 (pConv .u64 g24),
oCall w26 26 [g25],
oK wZ (bSt 4 g4 g26)]) (.ret)))))⟩
theorem fp141 : ∃ fn, fb141 = denF fn ∧ ∃ func code hint, FnOk Go.Proofs.Tryz.prog TT 141 fn func code hint := f2_mk (func := Go.Proofs.Tryz.f141) (code := bodyOf Go.Proofs.Tryz.f141) (hint := hintL []) (n := 27) (res := [.cell 4 (some 4)]) Go.Proofs.Tryz.func141 Go.Proofs.Tryz.call141 (by kernel_rfl) (by kernel_rfl) (by kernel_rfl) (by kernel_rfl) (by kernel_rfl)
/- quarry/word.Shl -/
def fb142 : AFunc2 := ⟨53, [.cell (rLoad (some 4) g4)], .seq (.reg [
oBox w2 24 g0,
oBox w3 24 g1,
oAlloc w4 24 [zu64, zu64, zu64, zu64]]) (.seq (.reg [
oAlloc w5 24 [zu64, zu64, zu64, zu64]]) (.seq (.reg [
oR w8 (rLoad (some 4) g2),
oCall w9 196 [g8],
oP w6 (pMv g9)]) (.seq (.seq (.reg [
oP w10 (pMv g6),
oP w11 (pGen fun φ t => opDv φ t (.t 10) (.c (.w (.s (ni64 64))))),
oP w7 (pMv g11)]) (.block 0 (.loop (.seq (.seq (.reg [
oP w12 (pMv g7),
oK w13 (bCmp 2 lLt cGe true g12 (gC (.w (.s (ni64 4)))))]) (.cond g13 (.skip) (.exit 0))) (.seq (.block 1 (.seq (.reg [
oP w16 (pMv g7),
oP w17 (pMv g7),
oP w18 (pMv g6),
oP w19 (pGen fun φ t => opDv φ t (.t 18) (.c (.w (.s (ni64 64))))),
oP w20 (pAr 1 g17 g19),
oP w21 (pIaddrA 4 1 g3 g20),
oR w22 (rLoad none g21),
oP w23 (pMv g6),
oP w24 (pGen fun φ t => opMd φ t (.t 23) (.c (.w (.s (ni64 64))))),
oP w25 (pShl g22 g24),
oP w26 (pIaddrA 4 1 g5 g16),
oK wZ (bSt 1 g26 g25)]) (.seq (.reg [
oP w27 (pMv g7),
oP w28 (pMv g6),
oP w29 (pGen fun φ t => opDv φ t (.t 28) (.c (.w (.s (ni64 64))))),
oK w30 (bCmp 4 nLe .le true g27 g29),
oP w31 (pMv g30),
oGd g31 true w32 (oP w32 (pMv g6)),
oGd g31 true w33 (oP w33 (pGen fun φ t => opMd φ t (.t 32) (.c (.w (.s (ni64 64)))))),
oGd g31 true w34 (oK w34 (bCmp 4 nLe .le true g33 (gC (.w (.s (zi64)))))),
oP w35 (pGen fun _ t => opPick t (.t 31) (.t 34) (.c (.w (.s (.bool false)))))]) (.cond g35 (.draw [
⟨0, ⟨(some 36), .p (.mv (.t 7)), none⟩, 0, 0⟩,
⟨1, ⟨(some 37), .p (.iaddrA 4 1 (.t 5) (.t 36)), none⟩, 1, 0⟩,
⟨2, ⟨(some 38), .r (.load none (.t 37)), none⟩, 3, 0⟩,
⟨3, ⟨(some 39), .p (.mv (.t 7)), none⟩, 0, 0⟩,
⟨4, ⟨(some 40), .p (.mv (.t 6)), none⟩, 0, 0⟩,
⟨5, ⟨(some 41), .p (.dv (.t 40) (.c (.w (.s (ni64 64))))), none⟩, 16, 0⟩,
⟨6, ⟨(some 42), .p (.ar 1 (.t 39) (.t 41)), none⟩, 56, 0⟩,
⟨7, ⟨(some 43), .p (.ar 1 (.t 42) (.c (.w (.s (ni64 1))))), none⟩, 120, 0⟩,
⟨8, ⟨(some 44), .p (.iaddrA 4 1 (.t 3) (.t 43)), none⟩, 248, 0⟩,
⟨9, ⟨(some 45), .r (.load none (.t 44)), none⟩, 504, 0⟩,
⟨10, ⟨(some 46), .p (.mv (.t 6)), none⟩, 0, 0⟩,
⟨11, ⟨(some 47), .p (.md (.t 46) (.c (.w (.s (ni64 64))))), none⟩, 1024, 0⟩,
⟨12, ⟨(some 48), .p (.ar 1 (.c (.w (.s (ni64 64)))) (.t 47)), none⟩, 3072, 0⟩,
⟨13, ⟨(some 49), .p (.sr (.t 45) (.t 48)), none⟩, 8184, 0⟩,
⟨14, ⟨(some 50), .p (.bt 1 (.t 38) (.t 49)), none⟩, 16383, 0⟩,
⟨15, ⟨(some 51), .p (.iaddrA 4 1 (.t 5) (.t 36)), none⟩, 32767, 0⟩,
⟨16, ⟨none, .b (.store 1 (.t 51) (.t 50)), none⟩, 65535, 0⟩]) (.skip))))) (.reg [
oP w14 (pMv g7),
oP w15 (pAr 0 g14 (gC (.w (.s (ni64 1))))),
oP w7 (pMv g15)])))))) (.seq (.reg [
oR w52 (rLoad (some 4) g5),
oK wZ (bSt 4 g4 g52)]) (.ret)))))⟩
theorem fp142 : ∃ fn, fb142 = denF fn ∧ ∃ func code hint, FnOk Go.Proofs.Tryz.prog TT 142 fn func code hint := f2_mk (func := Go.Proofs.Tryz.f142) (code := bodyOf Go.Proofs.Tryz.f142) (hint := hintL [(8, [(0, 0), (1, 0), (2, 0), (3, 0), (4, 0), (5, 0), (6, 0), (7, 0), (8, 0), (9, 0), (10, 0), (11, 0), (12, 0), (13, 0), (14, 0), (15, 0), (16, 0)])]) (n := 53) (res := [.cell 4 (some 4)]) Go.Proofs.Tryz.func142 Go.Proofs.Tryz.call142 (by kernel_rfl) (by kernel_rfl) (by kernel_rfl) (by kernel_rfl) (by kernel_rfl)
/- quarry/word.Shr -/
def fb143 : AFunc2 := ⟨56, [.cell (rLoad (some 4) g4)], .seq (.reg [
oBox w2 24 g0,
oBox w3 24 g1,
oAlloc w4 24 [zu64, zu64, zu64, zu64]]) (.seq (.reg [
oAlloc w5 24 [zu64, zu64, zu64, zu64]]) (.seq (.reg [
oR w8 (rLoad (some 4) g2),
oCall w9 196 [g8],
oP w6 (pMv g9)]) (.seq (.seq (.reg [
oP w7 (pMv (gC (.w (.s (zi64)))))]) (.block 0 (.loop (.seq (.seq (.reg [
oP w10 (pMv g7),
oP w11 (pMv g6),
oP w12 (pGen fun φ t => opDv φ t (.t 11) (.c (.w (.s (ni64 64))))),
oP w13 (pAr 0 g10 g12),
oK w14 (bCmp 2 lLt cGe true g13 (gC (.w (.s (ni64 4)))))]) (.cond g14 (.skip) (.exit 0))) (.seq (.block 1 (.seq (.reg [
oP w17 (pMv g7),
oP w18 (pMv g7),
oP w19 (pMv g6),
oP w20 (pGen fun φ t => opDv φ t (.t 19) (.c (.w (.s (ni64 64))))),
oP w21 (pAr 0 g18 g20),
oP w22 (pIaddrA 4 1 g3 g21),
oR w23 (rLoad none g22),
oP w24 (pMv g6),
oP w25 (pGen fun φ t => opMd φ t (.t 24) (.c (.w (.s (ni64 64))))),
oP w26 (pShr g23 g25),
oP w27 (pIaddrA 4 1 g5 g17),
oK wZ (bSt 1 g27 g26)]) (.seq (.reg [
oP w28 (pMv g7),
oP w29 (pMv g6),
oP w30 (pGen fun φ t => opDv φ t (.t 29) (.c (.w (.s (ni64 64))))),
oP w31 (pAr 0 g28 g30),
oP w32 (pAr 0 g31 (gC (.w (.s (ni64 1))))),
oK w33 (bCmp 2 lLt cGe true g32 (gC (.w (.s (ni64 4))))),
oP w34 (pMv g33),
oGd g34 true w35 (oP w35 (pMv g6)),
oGd g34 true w36 (oP w36 (pGen fun φ t => opMd φ t (.t 35) (.c (.w (.s (ni64 64)))))),
oGd g34 true w37 (oK w37 (bCmp 4 nLe .le true g36 (gC (.w (.s (zi64)))))),
oP w38 (pGen fun _ t => opPick t (.t 34) (.t 37) (.c (.w (.s (.bool false)))))]) (.cond g38 (.draw [
⟨0, ⟨(some 39), .p (.mv (.t 7)), none⟩, 0, 0⟩,
⟨1, ⟨(some 40), .p (.iaddrA 4 1 (.t 5) (.t 39)), none⟩, 1, 0⟩,
⟨2, ⟨(some 41), .r (.load none (.t 40)), none⟩, 3, 0⟩,
⟨3, ⟨(some 42), .p (.mv (.t 7)), none⟩, 0, 0⟩,
⟨4, ⟨(some 43), .p (.mv (.t 6)), none⟩, 0, 0⟩,
⟨5, ⟨(some 44), .p (.dv (.t 43) (.c (.w (.s (ni64 64))))), none⟩, 16, 0⟩,
⟨6, ⟨(some 45), .p (.ar 0 (.t 42) (.t 44)), none⟩, 56, 0⟩,
⟨7, ⟨(some 46), .p (.ar 0 (.t 45) (.c (.w (.s (ni64 1))))), none⟩, 120, 0⟩,
⟨8, ⟨(some 47), .p (.iaddrA 4 1 (.t 3) (.t 46)), none⟩, 248, 0⟩,
⟨9, ⟨(some 48), .r (.load none (.t 47)), none⟩, 504, 0⟩,
⟨10, ⟨(some 49), .p (.mv (.t 6)), none⟩, 0, 0⟩,
⟨11, ⟨(some 50), .p (.md (.t 49) (.c (.w (.s (ni64 64))))), none⟩, 1024, 0⟩,
⟨12, ⟨(some 51), .p (.ar 1 (.c (.w (.s (ni64 64)))) (.t 50)), none⟩, 3072, 0⟩,
⟨13, ⟨(some 52), .p (.shl (.t 48) (.t 51)), none⟩, 8184, 0⟩,
⟨14, ⟨(some 53), .p (.bt 1 (.t 41) (.t 52)), none⟩, 16383, 0⟩,
⟨15, ⟨(some 54), .p (.iaddrA 4 1 (.t 5) (.t 39)), none⟩, 32767, 0⟩,
⟨16, ⟨none, .b (.store 1 (.t 54) (.t 53)), none⟩, 65535, 0⟩]) (.skip))))) (.reg [
oP w15 (pMv g7),
oP w16 (pAr 0 g15 (gC (.w (.s (ni64 1))))),
oP w7 (pMv g16)])))))) (.seq (.reg [
oR w55 (rLoad (some 4) g5),
oK wZ (bSt 4 g4 g55)]) (.ret)))))⟩
theorem fp143 : ∃ fn, fb143 = denF fn ∧ ∃ func code hint, FnOk Go.Proofs.Tryz.prog TT 143 fn func code hint := f2_mk (func := Go.Proofs.Tryz.f143) (code := bodyOf Go.Proofs.Tryz.f143) (hint := hintL [(8, [(0, 0), (1, 0), (2, 0), (3, 0), (4, 0), (5, 0), (6, 0), (7, 0), (8, 0), (9, 0), (10, 0), (11, 0), (12, 0), (13, 0), (14, 0), (15, 0), (16, 0)])]) (n := 56) (res := [.cell 4 (some 4)]) Go.Proofs.Tryz.func143 Go.Proofs.Tryz.call143 (by kernel_rfl) (by kernel_rfl) (by kernel_rfl) (by kernel_rfl) (by kernel_rfl)
/- quarry/word.Sar -/
def fb144 : AFunc2 := ⟨15, [.cell (rLoad (some 4) g4)], .seq (.reg [
oBox w2 24 g0,
oBox w3 24 g1,
oAlloc w4 24 [zu64, zu64, zu64, zu64]]) (.seq (.seq (.reg [
oR w5 (rLoad (some 4) g3),
oCall w6 195 [g5]]) (.cond g6 (.seq (.draw [
⟨0, ⟨(some 7), .r (.load (some 4) (.t 2)), none⟩, 0, 0⟩,
⟨1, ⟨(some 8), .r (.load (some 4) (.t 3)), none⟩, 0, 0⟩,
⟨2, ⟨(some 9), .b (.call 151 [(.t 8)]), none⟩, 2, 0⟩,
⟨3, ⟨(some 10), .b (.call 143 [(.t 7), (.t 9)]), none⟩, 7, 0⟩,
⟨4, ⟨(some 11), .b (.call 151 [(.t 10)]), none⟩, 15, 0⟩,
⟨5, ⟨none, .b (.store 4 (.t 4) (.t 11)), none⟩, 31, 0⟩]) (.ret)) (.skip))) (.seq (.reg [
oR w12 (rLoad (some 4) g2),
oR w13 (rLoad (some 4) g3),
oCall w14 143 [g12, g13],
oK wZ (bSt 4 g4 g14)]) (.ret)))⟩
theorem fp144 : ∃ fn, fb144 = denF fn ∧ ∃ func code hint, FnOk Go.Proofs.Tryz.prog TT 144 fn func code hint := f2_mk (func := Go.Proofs.Tryz.f144) (code := bodyOf Go.Proofs.Tryz.f144) (hint := hintL [(2, [(0, 0), (1, 0), (2, 0), (3, 0), (4, 0), (5, 0)])]) (n := 15) (res := [.cell 4 (some 4)]) Go.Proofs.Tryz.func144 Go.Proofs.Tryz.call144 (by kernel_rfl) (by kernel_rfl) (by kernel_rfl) (by kernel_rfl) (by kernel_rfl)
/- (*quarry/vm.frame).end -/
def fb145 : AFunc2 := ⟨19, [], .draw [
⟨0, ⟨(some 6), .p (.mv (.t 0)), none⟩, 0, 0⟩,
⟨1, ⟨(some 7), .p (.mv (.t 1)), none⟩, 0, 0⟩,
⟨2, ⟨(some 8), .p (.mv (.t 2)), none⟩, 0, 0⟩,
⟨4, ⟨(some 10), .p (.mv (.t 0)), none⟩, 0, 0⟩,
⟨5, ⟨(some 11), .p (.nilCheck (.t 10)), none⟩, 16, 0⟩,
⟨6, ⟨(some 12), .p (.faddr 1 (.t 11)), none⟩, 48, 0⟩,
⟨7, ⟨(some 13), .p (.faddr 65 (.t 12)), none⟩, 112, 0⟩,
⟨8, ⟨(some 14), .r (.load none (.t 13)), none⟩, 240, 0⟩,
⟨3, ⟨(some 9), .b (.append 5 1 1 (.c (.w (.s (.nils)))) (.t 8)), none⟩, 4, 0⟩,
⟨9, ⟨(some 15), .p (.build [zi64, .nils, zu64, zu8, zu8, zu8, zu8, zu8, zu8, zu8, zu8, zu8, zu8, zu8, zu8, zu8, zu8, zu8, zu8, zu8, zu8, zu8, zu8] [(0, 1, (.t 7)), (1, 1, (.t 9)), (2, 1, (.t 14))]), none⟩, 510, 0⟩,
⟨10, ⟨(some 16), .m (.box 131 (.t 15)), none⟩, 1022, 1024⟩,
⟨11, ⟨(some 17), .p (.nilCheck (.t 6)), none⟩, 2047, 0⟩,
⟨12, ⟨(some 18), .p (.faddr 74 (.t 17)), none⟩, 4095, 0⟩,
⟨13, ⟨none, .b (.store 1 (.t 18) (.t 16)), none⟩, 8191, 0⟩]⟩
theorem fp145 : ∃ fn, fb145 = denF fn ∧ ∃ func code hint, FnOk Go.Proofs.Tryz.prog TT 145 fn func code hint := f2_mk (func := Go.Proofs.Tryz.f145) (code := bodyOf Go.Proofs.Tryz.f145) (hint := hintL [(0, [(0, 0), (1, 0), (2, 0), (4, 0), (5, 0), (6, 0), (7, 0), (8, 0), (3, 0), (9, 0), (10, 1024), (11, 0), (12, 0), (13, 0)])]) (n := 19) (res := []) Go.Proofs.Tryz.func145 Go.Proofs.Tryz.call145 (by kernel_rfl) (by kernel_rfl) (by kernel_rfl) (by kernel_rfl) (by kernel_rfl)
/- (*quarry/vm.frame).pop -/
def fb146 : AFunc2 := ⟨31, [.cell (rLoad (some 4) g2)], .seq (.reg [
oAlloc w2 24 [zu64, zu64, zu64, zu64]]) (.seq (.draw [
⟨0, ⟨(some 4), .p (.mv (.t 0)), none⟩, 0, 0⟩,
⟨1, ⟨(some 5), .p (.nilCheck (.t 4)), none⟩, 1, 0⟩,
⟨2, ⟨(some 6), .p (.faddr 70 (.t 5)), none⟩, 3, 0⟩,
⟨3, ⟨(some 7), .r (.load none (.t 6)), none⟩, 7, 0⟩,
⟨4, ⟨(some 8), .p (.mv (.t 0)), none⟩, 0, 0⟩,
⟨5, ⟨(some 9), .p (.nilCheck (.t 8)), none⟩, 16, 0⟩,
⟨6, ⟨(some 10), .p (.faddr 70 (.t 9)), none⟩, 48, 0⟩,
⟨7, ⟨(some 11), .r (.load none (.t 10)), none⟩, 112, 0⟩,
⟨8, ⟨(some 12), .p (.len (.t 11)), none⟩, 240, 0⟩,
⟨9, ⟨(some 13), .p (.ar 1 (.t 12) (.c (.w (.s (ni64 1))))), none⟩, 496, 0⟩,
⟨10, ⟨(some 14), .p (.iaddrS 4 (.t 7) (.t 13)), none⟩, 1023, 0⟩,
⟨11, ⟨(some 15), .r (.load (some 4) (.t 14)), none⟩, 2047, 0⟩,
⟨12, ⟨(some 3), .m (.alloc 24 [zu64, zu64, zu64, zu64]), none⟩, 0, 0⟩,
⟨13, ⟨none, .b (.store 4 (.t 3) (.t 15)), none⟩, 8191, 0⟩]) (.seq (.draw [
⟨0, ⟨(some 16), .p (.mv (.t 0)), none⟩, 0, 0⟩,
⟨1, ⟨(some 17), .p (.mv (.t 0)), none⟩, 0, 0⟩,
⟨2, ⟨(some 18), .p (.nilCheck (.t 17)), none⟩, 2, 0⟩,
⟨3, ⟨(some 19), .p (.faddr 70 (.t 18)), none⟩, 6, 0⟩,
⟨4, ⟨(some 20), .r (.load none (.t 19)), none⟩, 14, 0⟩,
⟨5, ⟨(some 21), .p (.mv (.t 0)), none⟩, 0, 0⟩,
⟨6, ⟨(some 22), .p (.nilCheck (.t 21)), none⟩, 32, 0⟩,
⟨7, ⟨(some 23), .p (.faddr 70 (.t 22)), none⟩, 96, 0⟩,
⟨8, ⟨(some 24), .r (.load none (.t 23)), none⟩, 224, 0⟩,
⟨9, ⟨(some 25), .p (.len (.t 24)), none⟩, 480, 0⟩,
⟨10, ⟨(some 26), .p (.ar 1 (.t 25) (.c (.w (.s (ni64 1))))), none⟩, 992, 0⟩,
⟨11, ⟨(some 27), .p (.slice 4 (.t 20) none (some (.t 26))), none⟩, 2046, 0⟩,
⟨12, ⟨(some 28), .p (.nilCheck (.t 16)), none⟩, 4095, 0⟩,
⟨13, ⟨(some 29), .p (.faddr 70 (.t 28)), none⟩, 8191, 0⟩,
⟨14, ⟨none, .b (.store 1 (.t 29) (.t 27)), none⟩, 16383, 0⟩]) (.seq (.reg [
oR w30 (rLoad (some 4) g3),
oK wZ (bSt 4 g2 g30)]) (.ret))))⟩
theorem fp146 : ∃ fn, fb146 = denF fn ∧ ∃ func code hint, FnOk Go.Proofs.Tryz.prog TT 146 fn func code hint := f2_mk (func := Go.Proofs.Tryz.f146) (code := bodyOf Go.Proofs.Tryz.f146) (hint := hintL [(1, [(0, 0), (1, 0), (2, 0), (3, 0), (4, 0), (5, 0), (6, 0), (7, 0), (8, 0), (9, 0), (10, 0), (11, 0), (12, 0), (13, 0)]), (2, [(0, 0), (1, 0), (2, 0), (3, 0), (4, 0), (5, 0), (6, 0), (7, 0), (8, 0), (9, 0), (10, 0), (11, 0), (12, 0), (13, 0), (14, 0)])]) (n := 31) (res := [.cell 2 (some 4)]) Go.Proofs.Tryz.func146 Go.Proofs.Tryz.call146 (by kernel_rfl) (by kernel_rfl) (by kernel_rfl) (by kernel_rfl) (by kernel_rfl)
/- quarry/word.Addmod -/
def fb147 : AFunc2 := ⟨31, [.cell (rLoad (some 4) g6)], .seq (.reg [
oBox w3 24 g0,
oBox w4 24 g1,
oBox w5 24 g2,
oAlloc w6 24 [zu64, zu64, zu64, zu64]]) (.seq (.seq (.reg [
oR w11 (rLoad (some 4) g5),
oP w12 (pBuild [zu64, zu64, zu64, zu64] []),
oK w13 (b2 (fun x y s K => cmpA 0 (.agg (.one (.arr 4 22 .u64))) x y s fun b s => K (vBool b) s) g11 g12)]) (.cond g13 (.seq (.reg [
oR w14 (rLoad (some 4) g5),
oK wZ (bSt 4 g6 g14)]) (.ret)) (.skip))) (.seq (.reg [
oR w16 (rLoad (some 4) g3),
oR w17 (rLoad (some 4) g4),
oCall w18 109 [g16, g17],
oP w15 (pMv g18),
oP w19 (pExt g15 0),
oP w20 (pExt g15 1),
oAlloc w7 24 [zu64, zu64, zu64, zu64],
oK wZ (bSt 4 g7 g19),
oP w8 (pMv g20)]) (.seq (.draw [
⟨0, ⟨(some 22), .p (.aslice 4 1 (.t 7) none none), none⟩, 0, 0⟩,
⟨1, ⟨(some 23), .p (.mv (.t 8)), none⟩, 0, 0⟩,
⟨2, ⟨(some 24), .m (.bslice 22 1 [zu64] [(0, 1, (.t 23))]), none⟩, 2, 0⟩,
⟨4, ⟨(some 26), .p (.aslice 4 1 (.t 5) none none), none⟩, 0, 0⟩,
⟨9, ⟨(some 9), .m (.alloc 24 [zu64, zu64, zu64, zu64]), none⟩, 0, 2049⟩,
⟨10, ⟨(some 10), .m (.alloc 24 [zu64, zu64, zu64, zu64]), none⟩, 0, 2050⟩,
⟨3, ⟨(some 25), .b (.append 22 1 8 (.t 22) (.t 24)), none⟩, 7, 0⟩,
⟨5, ⟨(some 27), .b (.call 197 [(.t 25), (.t 26)]), none⟩, 31, 0⟩,
⟨6, ⟨(some 21), .p (.mv (.t 27)), none⟩, 63, 0⟩,
⟨7, ⟨(some 28), .p (.ext (.t 21) 0), none⟩, 127, 0⟩,
⟨8, ⟨(some 29), .p (.ext (.t 21) 1), none⟩, 127, 0⟩,
⟨11, ⟨none, .b (.store 4 (.t 9) (.t 28)), none⟩, 1791, 0⟩,
⟨12, ⟨none, .b (.store 4 (.t 10) (.t 29)), none⟩, 4095, 0⟩]) (.seq (.reg [
oR w30 (rLoad (some 4) g10),
oK wZ (bSt 4 g6 g30)]) (.ret)))))⟩
theorem fp147 : ∃ fn, fb147 = denF fn ∧ ∃ func code hint, FnOk Go.Proofs.Tryz.prog TT 147 fn func code hint := f2_mk (func := Go.Proofs.Tryz.f147) (code := bodyOf Go.Proofs.Tryz.f147) (hint := hintL [(4, [(0, 0), (1, 0), (2, 0), (4, 0), (9, 2049), (10, 2050), (3, 0), (5, 0), (6, 0), (7, 0), (8, 0), (11, 0), (12, 0)])]) (n := 31) (res := [.cell 6 (some 4)]) Go.Proofs.Tryz.func147 Go.Proofs.Tryz.call147 (by kernel_rfl) (by kernel_rfl) (by kernel_rfl) (by kernel_rfl) (by kernel_rfl)
/- quarry/word.Mulmod -/
def fb148 : AFunc2 := ⟨30, [.cell (rLoad (some 4) g6)], .seq (.reg [
oBox w3 24 g0,
oBox w4 24 g1,
oBox w5 24 g2,
oAlloc w6 24 [zu64, zu64, zu64, zu64]]) (.seq (.seq (.reg [
oR w11 (rLoad (some 4) g5),
oP w12 (pBuild [zu64, zu64, zu64, zu64] []),
oK w13 (b2 (fun x y s K => cmpA 0 (.agg (.one (.arr 4 22 .u64))) x y s fun b s => K (vBool b) s) g11 g12)]) (.cond g13 (.seq (.reg [
oR w14 (rLoad (some 4) g5),
oK wZ (bSt 4 g6 g14)]) (.ret)) (.skip))) (.seq (.reg [
oR w16 (rLoad (some 4) g3),
oR w17 (rLoad (some 4) g4),
oCall w18 191 [g16, g17],
oP w15 (pMv g18),
oP w19 (pExt g15 0),
oP w20 (pExt g15 1),
oAlloc w7 24 [zu64, zu64, zu64, zu64],
oAlloc w8 24 [zu64, zu64, zu64, zu64],
oK wZ (bSt 4 g7 g19),
oK wZ (bSt 4 g8 g20)]) (.seq (.draw [
⟨0, ⟨(some 22), .p (.aslice 4 1 (.t 8) none none), none⟩, 0, 0⟩,
⟨1, ⟨(some 23), .p (.aslice 4 1 (.t 7) none none), none⟩, 0, 0⟩,
⟨3, ⟨(some 25), .p (.aslice 4 1 (.t 5) none none), none⟩, 0, 0⟩,
⟨8, ⟨(some 9), .m (.alloc 24 [zu64, zu64, zu64, zu64]), none⟩, 0, 2048⟩,
⟨9, ⟨(some 10), .m (.alloc 24 [zu64, zu64, zu64, zu64]), none⟩, 0, 2049⟩,
⟨2, ⟨(some 24), .b (.append 22 1 8 (.t 22) (.t 23)), none⟩, 3, 0⟩,
⟨4, ⟨(some 26), .b (.call 197 [(.t 24), (.t 25)]), none⟩, 15, 0⟩,
⟨5, ⟨(some 21), .p (.mv (.t 26)), none⟩, 31, 0⟩,
⟨6, ⟨(some 27), .p (.ext (.t 21) 0), none⟩, 63, 0⟩,
⟨7, ⟨(some 28), .p (.ext (.t 21) 1), none⟩, 63, 0⟩,
⟨10, ⟨none, .b (.store 4 (.t 9) (.t 27)), none⟩, 895, 0⟩,
⟨11, ⟨none, .b (.store 4 (.t 10) (.t 28)), none⟩, 2047, 0⟩]) (.seq (.reg [
oR w29 (rLoad (some 4) g10),
oK wZ (bSt 4 g6 g29)]) (.ret)))))⟩
theorem fp148 : ∃ fn, fb148 = denF fn ∧ ∃ func code hint, FnOk Go.Proofs.Tryz.prog TT 148 fn func code hint := f2_mk (func := Go.Proofs.Tryz.f148) (code := bodyOf Go.Proofs.Tryz.f148) (hint := hintL [(4, [(0, 0), (1, 0), (3, 0), (8, 2048), (9, 2049), (2, 0), (4, 0), (5, 0), (6, 0), (7, 0), (10, 0), (11, 0)])]) (n := 30) (res := [.cell 6 (some 4)]) Go.Proofs.Tryz.func148 Go.Proofs.Tryz.call148 (by kernel_rfl) (by kernel_rfl) (by kernel_rfl) (by kernel_rfl) (by kernel_rfl)
/- quarry/vm.truth -/
def fb149 : AFunc2 := ⟨6, [.cell (rLoad (some 4) g2)], .seq (.reg [
oAlloc w2 24 [zu64, zu64, zu64, zu64]]) (.seq (.seq (.reg [
oP w3 (pMv g0)]) (.cond g3 (.seq (.reg [
oCall w4 26 [(gC (.w (.s (nu64 1))))],
oK wZ (bSt 4 g2 g4)]) (.ret)) (.skip))) (.seq (.reg [
oP w5 (pBuild [zu64, zu64, zu64, zu64] []),
oK wZ (bSt 4 g2 g5)]) (.ret)))⟩
theorem fp149 : ∃ fn, fb149 = denF fn ∧ ∃ func code hint, FnOk Go.Proofs.Tryz.prog TT 149 fn func code hint := f2_mk (func := Go.Proofs.Tryz.f149) (code := bodyOf Go.Proofs.Tryz.f149) (hint := hintL []) (n := 6) (res := [.cell 2 (some 4)]) Go.Proofs.Tryz.func149 Go.Proofs.Tryz.call149 (by kernel_rfl) (by kernel_rfl) (by kernel_rfl) (by kernel_rfl) (by kernel_rfl)
/- quarry/word.Scmp -/
def fb150 : AFunc2 := ⟨16, [.tmp g4], .seq (.reg [
oBox w2 24 g0,
oBox w3 24 g1,
oP w4 (pMv (gC (.w (.s (zi64)))))]) (.seq (.reg [
oP w5 (pIaddrA 4 1 g2 (gC (.w (.s (ni64 3))))),
oR w6 (rLoad none g5),
oP w7 (pBt 2 g6 (gC (.w (.s (nu64 9223372036854775808))))),
oP w8 (pIaddrA 4 1 g2 (gC (.w (.s (ni64 3))))),
oK wZ (bSt 1 g8 g7)]) (.seq (.reg [
oP w9 (pIaddrA 4 1 g3 (gC (.w (.s (ni64 3))))),
oR w10 (rLoad none g9),
oP w11 (pBt 2 g10 (gC (.w (.s (nu64 9223372036854775808))))),
oP w12 (pIaddrA 4 1 g3 (gC (.w (.s (ni64 3))))),
oK wZ (bSt 1 g12 g11)]) (.seq (.reg [
oR w13 (rLoad (some 4) g2),
oR w14 (rLoad (some 4) g3),
oCall w15 86 [g13, g14],
oP w4 (pMv g15)]) (.ret))))⟩
theorem fp150 : ∃ fn, fb150 = denF fn ∧ ∃ func code hint, FnOk Go.Proofs.Tryz.prog TT 150 fn func code hint := f2_mk (func := Go.Proofs.Tryz.f150) (code := bodyOf Go.Proofs.Tryz.f150) (hint := hintL []) (n := 16) (res := [.tmp 4]) Go.Proofs.Tryz.func150 Go.Proofs.Tryz.call150 (by kernel_rfl) (by kernel_rfl) (by kernel_rfl) (by kernel_rfl) (by kernel_rfl)
/- quarry/word.Not -/
def fb151 : AFunc2 := ⟨15, [.cell (rLoad (some 4) g2)], .seq (.reg [
oBox w1 24 g0,
oAlloc w2 24 [zu64, zu64, zu64, zu64]]) (.seq (.seq (.reg [
oP w4 (pMv (gC (.w (.s (zi64)))))]) (.block 0 (.loop (.seq (.reg [
oK w5 (bCmp 2 lLt cGe true g4 (gC (.w (.s (ni64 4)))))]) (.seq (.cond g5 (.skip) (.exit 0)) (.seq (.block 1 (.seq (.reg [
oP w6 (pMv g4),
oP w3 (pMv g6)]) (.reg [
oP w7 (pMv g3),
oP w8 (pMv g3),
oP w9 (pIaddrA 4 1 g1 g8),
oR w10 (rLoad none g9),
oP w11 (pBt 2 (gC (.w (.s (nu64 18446744073709551615)))) g10),
oP w12 (pIaddrA 4 1 g1 g7),
oK wZ (bSt 1 g12 g11)]))) (.reg [
oP w13 (pAr 0 g4 (gC (.w (.s (ni64 1))))),
oP w4 (pMv g13)]))))))) (.seq (.reg [
oR w14 (rLoad (some 4) g1),
oK wZ (bSt 4 g2 g14)]) (.ret)))⟩
theorem fp151 : ∃ fn, fb151 = denF fn ∧ ∃ func code hint, FnOk Go.Proofs.Tryz.prog TT 151 fn func code hint := f2_mk (func := Go.Proofs.Tryz.f151) (code := bodyOf Go.Proofs.Tryz.f151) (hint := hintL []) (n := 15) (res := [.cell 2 (some 4)]) Go.Proofs.Tryz.func151 Go.Proofs.Tryz.call151 (by kernel_rfl) (by kernel_rfl) (by kernel_rfl) (by kernel_rfl) (by kernel_rfl)
/- quarry/gas.Exp -/
def fb152 : AFunc2 := ⟨12, [.tmp g4], .seq (.reg [
oBox w2 44 g0,
oBox w3 24 g1,
oP w4 (pMv (gC (.w (.s (zu64)))))]) (.seq (.draw [
⟨0, ⟨(some 5), .p (.faddr 21 (.t 2)), none⟩, 0, 0⟩,
⟨1, ⟨(some 6), .r (.load none (.t 5)), none⟩, 1, 0⟩,
⟨2, ⟨(some 7), .r (.load (some 4) (.t 3)), none⟩, 0, 0⟩,
⟨3, ⟨(some 8), .b (.call 127 [(.t 7)]), none⟩, 4, 0⟩,
⟨4, ⟨(some 9), .p (.len (.t 8)), none⟩, 12, 0⟩,
⟨5, ⟨(some 10), .p (.conv .u64 (.t 9)), none⟩, 28, 0⟩,
⟨6, ⟨(some 11), .p (.ar 2 (.t 6) (.t 10)), none⟩, 63, 0⟩,
⟨7, ⟨(some 4), .p (.mv (.t 11)), none⟩, 127, 0⟩]) (.ret))⟩
theorem fp152 : ∃ fn, fb152 = denF fn ∧ ∃ func code hint, FnOk Go.Proofs.Tryz.prog TT 152 fn func code hint := f2_mk (func := Go.Proofs.Tryz.f152) (code := bodyOf Go.Proofs.Tryz.f152) (hint := hintL [(1, [(0, 0), (1, 0), (2, 0), (3, 0), (4, 0), (5, 0), (6, 0), (7, 0)])]) (n := 12) (res := [.tmp 4]) Go.Proofs.Tryz.func152 Go.Proofs.Tryz.call152 (by kernel_rfl) (by kernel_rfl) (by kernel_rfl) (by kernel_rfl) (by kernel_rfl)
/- (*quarry/vm.frame).taken -/
def fb153 : AFunc2 := ⟨10, [.cell (rLoad (some 8) g2)], .seq (.reg [
oAlloc w2 225 [zu64, zu64, zu64, zu64, zu64, zu64, zu64, zu64]]) (.seq (.reg [
oP w4 (pMv g0),
oCall w5 146 [g4],
oAlloc w3 24 [zu64, zu64, zu64, zu64],
oK wZ (bSt 4 g3 g5)]) (.seq (.draw [
⟨0, ⟨(some 6), .r (.load (some 4) (.t 3)), none⟩, 0, 0⟩,
⟨1, ⟨(some 7), .p (.mv (.t 0)), none⟩, 0, 0⟩,
⟨2, ⟨(some 8), .b (.call 146 [(.t 7)]), none⟩, 2, 0⟩,
⟨3, ⟨(some 9), .p (.build [zu64, zu64, zu64, zu64, zu64, zu64, zu64, zu64] [(0, 4, (.t 6)), (4, 4, (.t 8))]), none⟩, 7, 0⟩,
⟨4, ⟨none, .b (.store 8 (.t 2) (.t 9)), none⟩, 15, 0⟩]) (.ret)))⟩
theorem fp153 : ∃ fn, fb153 = denF fn ∧ ∃ func code hint, FnOk Go.Proofs.Tryz.prog TT 153 fn func code hint := f2_mk (func := Go.Proofs.Tryz.f153) (code := bodyOf Go.Proofs.Tryz.f153) (hint := hintL [(2, [(0, 0), (1, 0), (2, 0), (3, 0), (4, 0)])]) (n := 10) (res := [.cell 2 (some 8)]) Go.Proofs.Tryz.func153 Go.Proofs.Tryz.call153 (by kernel_rfl) (by kernel_rfl) (by kernel_rfl) (by kernel_rfl) (by kernel_rfl)
/- (*quarry/vm.frame).paid -/
def fb154 : AFunc2 := ⟨11, [], .seq (.reg [
oP w6 (pMv g2),
oCall w7 111 [g6]]) (.reg [
oP w8 (pMv g0),
oP w9 (pMv g1),
oCall w10 113 [g8, g9]])⟩
theorem fp154 : ∃ fn, fb154 = denF fn ∧ ∃ func code hint, FnOk Go.Proofs.Tryz.prog TT 154 fn func code hint := f2_mk (func := Go.Proofs.Tryz.f154) (code := bodyOf Go.Proofs.Tryz.f154) (hint := hintL []) (n := 11) (res := []) Go.Proofs.Tryz.func154 Go.Proofs.Tryz.call154 (by kernel_rfl) (by kernel_rfl) (by kernel_rfl) (by kernel_rfl) (by kernel_rfl)
/- quarry/gas.Words -/
def fb155 : AFunc2 := ⟨19, [.tmp g4, .tmp g5], .seq (.reg [
oBox w2 24 g0,
oP w4 (pMv (gC (.w (.s (zu64))))),
oP w5 (pMv (gC (.w (.s (.bool false)))))]) (.seq (.reg [
oR w9 (rLoad (some 4) g2),
oCall w10 198 [g9],
oP w8 (pMv g10),
oP w11 (pExt g8 0),
oP w12 (pExt g8 1),
oP w6 (pMv g11),
oP w7 (pMv g12)]) (.seq (.seq (.reg [
oP w13 (pMv g7),
oP w14 (pNot g13)]) (.cond g14 (.seq (.reg [
oP w4 (pMv (gC (.w (.s (zu64))))),
oP w5 (pMv (gC (.w (.s (.bool false)))))]) (.ret)) (.skip))) (.seq (.reg [
oP w15 (pMv g6),
oCall w16 199 [g15],
oP w17 (pMv g1),
oP w18 (pAr 2 g16 g17),
oP w4 (pMv g18),
oP w5 (pMv (gC (.w (.s (.bool true)))))]) (.ret))))⟩
theorem fp155 : ∃ fn, fb155 = denF fn ∧ ∃ func code hint, FnOk Go.Proofs.Tryz.prog TT 155 fn func code hint := f2_mk (func := Go.Proofs.Tryz.f155) (code := bodyOf Go.Proofs.Tryz.f155) (hint := hintL []) (n := 19) (res := [.tmp 4, .tmp 5]) Go.Proofs.Tryz.func155 Go.Proofs.Tryz.call155 (by kernel_rfl) (by kernel_rfl) (by kernel_rfl) (by kernel_rfl) (by kernel_rfl)
/- (*quarry/vm.frame).reach -/
def fb156 : AFunc2 := ⟨70, [], .seq (.reg [
oP w12 (pMv g0),
oP w13 (pGen fun _ t => opNil t (.t 12)),
oP w14 (pFaddr 71 g13),
oR w15 (rLoad none g14),
oP w16 (pGen fun _ t => opLen t (.t 15)),
oP w17 (pConv .u64 g16),
oP w4 (pMv g17),
oP w5 (pMv (gC (.w (.s (zu64)))))]) (.seq (.seq (.reg [
oP w18 (pMv g1),
oP w19 (pGen fun _ t => opLen t (.t 18)),
oP w20 (pMv (gC (.w (.s (zi64)))))]) (.block 0 (.loop (.seq (.reg [
oK w21 (bCmp 2 lLt cGe true g20 g19)]) (.seq (.cond g21 (.skip) (.exit 0)) (.seq (.block 1 (.seq (.reg [
oP w22 (pIaddrS 8 g18 g20),
oR w23 (rLoad (some 8) g22),
oAlloc w7 225 [zu64, zu64, zu64, zu64, zu64, zu64, zu64, zu64],
oK wZ (bSt 8 g7 g23)]) (.seq (.draw [
⟨0, ⟨(some 25), .p (.mv (.t 0)), none⟩, 0, 0⟩,
⟨1, ⟨(some 26), .p (.nilCheck (.t 25)), none⟩, 1, 0⟩,
⟨2, ⟨(some 27), .p (.faddr 71 (.t 26)), none⟩, 3, 0⟩,
⟨3, ⟨(some 28), .r (.load none (.t 27)), none⟩, 7, 0⟩,
⟨4, ⟨(some 29), .p (.len (.t 28)), none⟩, 15, 0⟩,
⟨5, ⟨(some 30), .p (.conv .u64 (.t 29)), none⟩, 31, 0⟩,
⟨6, ⟨(some 31), .p (.faddr 0 (.t 7)), none⟩, 0, 0⟩,
⟨7, ⟨(some 32), .r (.load (some 4) (.t 31)), none⟩, 64, 0⟩,
⟨8, ⟨(some 33), .p (.faddr 4 (.t 7)), none⟩, 0, 0⟩,
⟨9, ⟨(some 34), .r (.load (some 4) (.t 33)), none⟩, 256, 0⟩,
⟨10, ⟨(some 35), .b (.call 200 [(.t 30), (.t 32), (.t 34)]), none⟩, 1023, 0⟩,
⟨11, ⟨(some 24), .p (.mv (.t 35)), none⟩, 2047, 0⟩,
⟨12, ⟨(some 36), .p (.ext (.t 24) 0), none⟩, 4095, 0⟩,
⟨13, ⟨(some 37), .p (.ext (.t 24) 1), none⟩, 4095, 0⟩,
⟨14, ⟨(some 38), .p (.ext (.t 24) 2), none⟩, 4095, 0⟩,
⟨15, ⟨(some 8), .p (.mv (.t 36)), none⟩, 8191, 0⟩,
⟨16, ⟨(some 9), .p (.mv (.t 37)), none⟩, 49151, 0⟩,
⟨17, ⟨(some 10), .p (.mv (.t 38)), none⟩, 131071, 0⟩]) (.seq (.reg [
oP w39 (pMv g10),
oCall w40 111 [g39]]) (.reg [
oP w41 (pMv g4),
oP w42 (pMv g8),
oK w43 (b2 (mmA true) g41 g42),
oP w44 (pMv g5),
oP w45 (pMv g9),
oK w46 (b2 (mmA true) g44 g45),
oP w4 (pMv g43),
oP w5 (pMv g46)]))))) (.reg [
oP w47 (pAr 0 g20 (gC (.w (.s (ni64 1))))),
oP w20 (pMv g47)]))))))) (.seq (.reg [
oP w48 (pMv g0),
oP w49 (pMv g5),
oCall w50 113 [g48, g49]]) (.seq (.reg [
oP w51 (pMv g4),
oP w52 (pConv .i64 g51),
oP w53 (pMv g0),
oP w54 (pGen fun _ t => opNil t (.t 53)),
oP w55 (pFaddr 71 g54),
oR w56 (rLoad none g55),
oP w57 (pGen fun _ t => opLen t (.t 56)),
oP w58 (pAr 1 g52 g57),
oP w11 (pMv g58)]) (.seq (.reg [
oP w59 (pMv g11),
oK w60 (bCmp 4 nLe .le true g59 (gC (.w (.s (zi64)))))]) (.cond g60 (.reg [
oP w61 (pMv g0),
oP w62 (pMv g0),
oP w63 (pGen fun _ t => opNil t (.t 62)),
oP w64 (pFaddr 71 g63),
oR w65 (rLoad none g64),
oP w66 (pMv g11),
oK w67 (b2 (bAppendz 5 1 1 [zu8]) g65 g66),
oP w68 (pGen fun _ t => opNil t (.t 61)),
oP w69 (pFaddr 71 g68),
oK wZ (bSt 1 g69 g67)]) (.skip))))))⟩
theorem fp156 : ∃ fn, fb156 = denF fn ∧ ∃ func code hint, FnOk Go.Proofs.Tryz.prog TT 156 fn func code hint := f2_mk (func := Go.Proofs.Tryz.f156) (code := bodyOf Go.Proofs.Tryz.f156) (hint := hintL [(4, [(0, 0), (1, 0), (2, 0), (3, 0), (4, 0), (5, 0), (6, 0), (7, 0), (8, 0), (9, 0), (10, 0), (11, 0), (12, 0), (13, 0), (14, 0), (15, 0), (16, 0), (17, 0)])]) (n := 70) (res := []) Go.Proofs.Tryz.func156 Go.Proofs.Tryz.call156 (by kernel_rfl) (by kernel_rfl) (by kernel_rfl) (by kernel_rfl) (by kernel_rfl)
/- quarry/vm.hashed -/
def fb157 : AFunc2 := ⟨11, [.cell (rLoad (some 4) g2)], .seq (.reg [
oBox w1 90 g0,
oAlloc w2 24 [zu64, zu64, zu64, zu64]]) (.seq (.reg [
oP w6 (pGen fun _ t => opASlice t 32 1 (.t 1) none none),
oCall w7 10 [g6],
oP w5 (pMv g7),
oP w8 (pExt g5 0),
oP w9 (pExt g5 1),
oAlloc w3 24 [zu64, zu64, zu64, zu64],
oK wZ (bSt 4 g3 g8),
oP w4 (pMv g9)]) (.seq (.reg [
oR w10 (rLoad (some 4) g3),
oK wZ (bSt 4 g2 g10)]) (.ret)))⟩
theorem fp157 : ∃ fn, fb157 = denF fn ∧ ∃ func code hint, FnOk Go.Proofs.Tryz.prog TT 157 fn func code hint := f2_mk (func := Go.Proofs.Tryz.f157) (code := bodyOf Go.Proofs.Tryz.f157) (hint := hintL []) (n := 11) (res := [.cell 2 (some 4)]) Go.Proofs.Tryz.func157 Go.Proofs.Tryz.call157 (by kernel_rfl) (by kernel_rfl) (by kernel_rfl) (by kernel_rfl) (by kernel_rfl)
/- (*quarry/vm.frame).bytes -/
def fb158 : AFunc2 := ⟨26, [.tmp g4], .seq (.reg [
oBox w3 225 g1,
oP w4 (pMv (gC (.w (.s (.nils)))))]) (.seq (.seq (.reg [
oP w6 (pFaddr 4 g3),
oR w7 (rLoad (some 4) g6),
oP w8 (pBuild [zu64, zu64, zu64, zu64] []),
oK w9 (b2 (fun x y s K => cmpA 0 (.agg (.one (.arr 4 22 .u64))) x y s fun b s => K (vBool b) s) g7 g8)]) (.cond g9 (.seq (.reg [
oP w4 (pMv (gC (.w (.s (.nils)))))]) (.ret)) (.skip))) (.seq (.reg [
oP w10 (pFaddr 0 g3),
oP w11 (pIaddrA 4 1 g10 (gC (.w (.s (zi64))))),
oR w12 (rLoad none g11),
oP w13 (pConv .i64 g12),
oP w5 (pMv g13)]) (.seq (.draw [
⟨0, ⟨(some 14), .p (.mv (.t 0)), none⟩, 0, 0⟩,
⟨1, ⟨(some 15), .p (.nilCheck (.t 14)), none⟩, 1, 0⟩,
⟨2, ⟨(some 16), .p (.faddr 71 (.t 15)), none⟩, 3, 0⟩,
⟨3, ⟨(some 17), .r (.load none (.t 16)), none⟩, 7, 0⟩,
⟨4, ⟨(some 18), .p (.mv (.t 5)), none⟩, 0, 0⟩,
⟨5, ⟨(some 19), .p (.mv (.t 5)), none⟩, 0, 0⟩,
⟨6, ⟨(some 20), .p (.faddr 4 (.t 3)), none⟩, 0, 0⟩,
⟨7, ⟨(some 21), .p (.iaddrA 4 1 (.t 20) (.c (.w (.s (zi64))))), none⟩, 64, 0⟩,
⟨8, ⟨(some 22), .r (.load none (.t 21)), none⟩, 192, 0⟩,
⟨9, ⟨(some 23), .p (.conv .i64 (.t 22)), none⟩, 448, 0⟩,
⟨10, ⟨(some 24), .p (.ar 0 (.t 19) (.t 23)), none⟩, 992, 0⟩,
⟨11, ⟨(some 25), .p (.slice 1 (.t 17) (some (.t 18)) (some (.t 24))), none⟩, 2047, 0⟩,
⟨12, ⟨(some 4), .p (.mv (.t 25)), none⟩, 4095, 0⟩]) (.ret))))⟩
theorem fp158 : ∃ fn, fb158 = denF fn ∧ ∃ func code hint, FnOk Go.Proofs.Tryz.prog TT 158 fn func code hint := f2_mk (func := Go.Proofs.Tryz.f158) (code := bodyOf Go.Proofs.Tryz.f158) (hint := hintL [(4, [(0, 0), (1, 0), (2, 0), (3, 0), (4, 0), (5, 0), (6, 0), (7, 0), (8, 0), (9, 0), (10, 0), (11, 0), (12, 0)])]) (n := 26) (res := [.tmp 4]) Go.Proofs.Tryz.func158 Go.Proofs.Tryz.call158 (by kernel_rfl) (by kernel_rfl) (by kernel_rfl) (by kernel_rfl) (by kernel_rfl)
/- quarry/vm.number -/
def fb159 : AFunc2 := ⟨11, [.cell (rLoad (some 4) g2)], .seq (.reg [
oBox w1 30 g0,
oAlloc w2 24 [zu64, zu64, zu64, zu64]]) (.seq (.reg [
oP w6 (pGen fun _ t => opASlice t 20 1 (.t 1) none none),
oCall w7 10 [g6],
oP w5 (pMv g7),
oP w8 (pExt g5 0),
oP w9 (pExt g5 1),
oAlloc w3 24 [zu64, zu64, zu64, zu64],
oK wZ (bSt 4 g3 g8),
oP w4 (pMv g9)]) (.seq (.reg [
oR w10 (rLoad (some 4) g3),
oK wZ (bSt 4 g2 g10)]) (.ret)))⟩
theorem fp159 : ∃ fn, fb159 = denF fn ∧ ∃ func code hint, FnOk Go.Proofs.Tryz.prog TT 159 fn func code hint := f2_mk (func := Go.Proofs.Tryz.f159) (code := bodyOf Go.Proofs.Tryz.f159) (hint := hintL []) (n := 11) (res := [.cell 2 (some 4)]) Go.Proofs.Tryz.func159 Go.Proofs.Tryz.call159 (by kernel_rfl) (by kernel_rfl) (by kernel_rfl) (by kernel_rfl) (by kernel_rfl)
/- (*quarry/vm.frame).account -/
def fb160 : AFunc2 := ⟨6, [.cell (rLoad (some 20) g2)], .seq (.reg [
oAlloc w2 30 zz0]) (.seq (.reg [
oP w3 (pMv g0),
oCall w4 146 [g3],
oCall w5 201 [g4],
oK wZ (bSt 20 g2 g5)]) (.ret))⟩
theorem fp160 : ∃ fn, fb160 = denF fn ∧ ∃ func code hint, FnOk Go.Proofs.Tryz.prog TT 160 fn func code hint := f2_mk (func := Go.Proofs.Tryz.f160) (code := bodyOf Go.Proofs.Tryz.f160) (hint := hintL []) (n := 6) (res := [.cell 2 (some 20)]) Go.Proofs.Tryz.func160 Go.Proofs.Tryz.call160 (by kernel_rfl) (by kernel_rfl) (by kernel_rfl) (by kernel_rfl) (by kernel_rfl)
/- (*quarry/vm.frame).warm -/
def fb161 : AFunc2 := ⟨39, [], .seq (.reg [
oBox w3 30 g1]) (.seq (.seq (.reg [
oP w4 (pMv g0),
oP w5 (pGen fun _ t => opNil t (.t 4)),
oP w6 (pFaddr 0 g5),
oR w7 (rLoad none g6),
oCall w8 66 [g7, (gC (.w (.s (ni64 9))))],
oP w9 (pNot g8)]) (.cond g9 (.ret) (.skip))) (.seq (.draw [
⟨0, ⟨(some 10), .p (.mv (.t 0)), none⟩, 0, 0⟩,
⟨1, ⟨(some 11), .p (.nilCheck (.t 10)), none⟩, 1, 0⟩,
⟨2, ⟨(some 12), .p (.faddr 0 (.t 11)), none⟩, 3, 0⟩,
⟨3, ⟨(some 13), .r (.load none (.t 12)), none⟩, 7, 0⟩,
⟨4, ⟨(some 14), .p (.nilCheck (.t 13)), none⟩, 15, 0⟩,
⟨5, ⟨(some 15), .p (.faddr 89 (.t 14)), none⟩, 31, 0⟩,
⟨6, ⟨(some 16), .r (.load none (.t 15)), none⟩, 63, 0⟩,
⟨7, ⟨(some 17), .r (.load (some 20) (.t 3)), none⟩, 0, 0⟩,
⟨8, ⟨(some 18), .b (.call 67 [(.t 16), (.t 17)]), none⟩, 255, 0⟩]) (.cond g18 (.reg [
oP w19 (pMv g0),
oP w20 (pMv g0),
oP w21 (pGen fun _ t => opNil t (.t 20)),
oP w22 (pFaddr 0 g21),
oR w23 (rLoad none g22),
oP w24 (pGen fun _ t => opNil t (.t 23)),
oP w25 (pFaddr 1 g24),
oP w26 (pFaddr 17 g25),
oR w27 (rLoad none g26),
oCall w28 113 [g19, g27]]) (.reg [
oP w29 (pMv g0),
oP w30 (pMv g0),
oP w31 (pGen fun _ t => opNil t (.t 30)),
oP w32 (pFaddr 0 g31),
oR w33 (rLoad none g32),
oP w34 (pGen fun _ t => opNil t (.t 33)),
oP w35 (pFaddr 1 g34),
oP w36 (pFaddr 15 g35),
oR w37 (rLoad none g36),
oCall w38 113 [g29, g37]]))))⟩
theorem fp161 : ∃ fn, fb161 = denF fn ∧ ∃ func code hint, FnOk Go.Proofs.Tryz.prog TT 161 fn func code hint := f2_mk (func := Go.Proofs.Tryz.f161) (code := bodyOf Go.Proofs.Tryz.f161) (hint := hintL [(2, [(0, 0), (1, 0), (2, 0), (3, 0), (4, 0), (5, 0), (6, 0), (7, 0), (8, 0)])]) (n := 39) (res := []) Go.Proofs.Tryz.func161 Go.Proofs.Tryz.call161 (by kernel_rfl) (by kernel_rfl) (by kernel_rfl) (by kernel_rfl) (by kernel_rfl)
/- quarry/vm.cut -/
def fb162 : AFunc2 := ⟨31, [.tmp g6], .seq (.reg [
oBox w4 24 g1,
oP w6 (pMv (gC (.w (.s (.nils)))))]) (.seq (.reg [
oP w10 (pMv g2),
oM w11 (.mkslice 5 1 [zu8] (.t 10) (.t 10)),
oP w7 (pMv g11)]) (.seq (.seq (.reg [
oR w13 (rLoad (some 4) g4),
oCall w14 38 [g13],
oP w12 (pMv g14),
oP w15 (pExt g12 0),
oP w16 (pExt g12 1),
oP w8 (pMv g15),
oP w9 (pMv g16)]) (.seq (.reg [
oP w17 (pMv g9),
oP w18 (pMv g17),
oGd g18 true w19 (oP w19 (pMv g8)),
oGd g18 true w20 (oP w20 (pMv g0)),
oGd g18 true w21 (oP w21 (pGen fun _ t => opLen t (.t 20))),
oGd g18 true w22 (oP w22 (pConv .u64 g21)),
oGd g18 true w23 (oK w23 (bCmp 2 lLt cGe true g19 g22)),
oP w24 (pGen fun _ t => opPick t (.t 18) (.t 23) (.c (.w (.s (.bool false)))))]) (.cond g24 (.reg [
oP w25 (pMv g7),
oP w26 (pMv g0),
oP w27 (pMv g8),
oP w28 (pGen fun _ t => opSlice t 1 (.t 26) (some (.t 27)) none),
oK w29 (b2 (bCopy 1) g25 g28)]) (.skip)))) (.seq (.reg [
oP w30 (pMv g7),
oP w6 (pMv g30)]) (.ret))))⟩
theorem fp162 : ∃ fn, fb162 = denF fn ∧ ∃ func code hint, FnOk Go.Proofs.Tryz.prog TT 162 fn func code hint := f2_mk (func := Go.Proofs.Tryz.f162) (code := bodyOf Go.Proofs.Tryz.f162) (hint := hintL []) (n := 31) (res := [.tmp 6]) Go.Proofs.Tryz.func162 Go.Proofs.Tryz.call162 (by kernel_rfl) (by kernel_rfl) (by kernel_rfl) (by kernel_rfl) (by kernel_rfl)
/- quarry/vm.long -/
def fb163 : AFunc2 := ⟨6, [.cell (rLoad (some 4) g2)], .seq (.reg [
oAlloc w2 24 [zu64, zu64, zu64, zu64]]) (.seq (.reg [
oP w3 (pMv g0),
oP w4 (pConv .u64 g3),
oCall w5 26 [g4],
oK wZ (bSt 4 g2 g5)]) (.ret))⟩
theorem fp163 : ∃ fn, fb163 = denF fn ∧ ∃ func code hint, FnOk Go.Proofs.Tryz.prog TT 163 fn func code hint := f2_mk (func := Go.Proofs.Tryz.f163) (code := bodyOf Go.Proofs.Tryz.f163) (hint := hintL []) (n := 6) (res := [.cell 2 (some 4)]) Go.Proofs.Tryz.func163 Go.Proofs.Tryz.call163 (by kernel_rfl) (by kernel_rfl) (by kernel_rfl) (by kernel_rfl) (by kernel_rfl)
/- (*quarry/vm.frame).copies -/
def fb164 : AFunc2 := ⟨30, [], .seq (.reg [
oBox w5 225 g1,
oBox w7 24 g3]) (.seq (.reg [
oP w8 (pMv g0),
oP w9 (pFaddr 4 g5),
oR w10 (rLoad (some 4) g9),
oCall w11 155 [g10, (gC (.w (.s (nu64 3))))],
oP w12 (pExt g11 0),
oP w13 (pExt g11 1),
oCall w14 154 [g8, g12, g13]]) (.seq (.reg [
oP w15 (pMv g0),
oR w16 (rLoad (some 8) g5),
oM w17 (.bslice 225 1 [zu64, zu64, zu64, zu64, zu64, zu64, zu64, zu64] [(0, 8, (.t 16))]),
oCall w18 156 [g15, g17]]) (.draw [
⟨0, ⟨(some 19), .p (.mv (.t 0)), none⟩, 0, 0⟩,
⟨1, ⟨(some 20), .r (.load (some 8) (.t 5)), none⟩, 0, 0⟩,
⟨3, ⟨(some 22), .p (.mv (.t 2)), none⟩, 0, 0⟩,
⟨4, ⟨(some 23), .r (.load (some 4) (.t 7)), none⟩, 0, 0⟩,
⟨5, ⟨(some 24), .p (.mv (.t 0)), none⟩, 0, 0⟩,
⟨6, ⟨(some 25), .r (.load (some 8) (.t 5)), none⟩, 0, 0⟩,
⟨2, ⟨(some 21), .b (.call 158 [(.t 19), (.t 20)]), none⟩, 3, 0⟩,
⟨7, ⟨(some 26), .b (.call 158 [(.t 24), (.t 25)]), none⟩, 103, 0⟩,
⟨8, ⟨(some 27), .p (.len (.t 26)), none⟩, 231, 0⟩,
⟨9, ⟨(some 28), .b (.call 162 [(.t 22), (.t 23), (.t 27)]), none⟩, 511, 0⟩,
⟨10, ⟨(some 29), .b (.copy 1 (.t 21) (.t 28)), none⟩, 1023, 0⟩])))⟩
theorem fp164 : ∃ fn, fb164 = denF fn ∧ ∃ func code hint, FnOk Go.Proofs.Tryz.prog TT 164 fn func code hint := f2_mk (func := Go.Proofs.Tryz.f164) (code := bodyOf Go.Proofs.Tryz.f164) (hint := hintL [(3, [(0, 0), (1, 0), (3, 0), (4, 0), (5, 0), (6, 0), (2, 0), (7, 0), (8, 0), (9, 0), (10, 0)])]) (n := 30) (res := []) Go.Proofs.Tryz.func164 Go.Proofs.Tryz.call164 (by kernel_rfl) (by kernel_rfl) (by kernel_rfl) (by kernel_rfl) (by kernel_rfl)
/- (*quarry/vm.frame).ahead -/
def fb166 : AFunc2 := ⟨73, [.cell (rLoad (some 4) g4)], .seq (.reg [
oBox w3 24 g1,
oAlloc w4 24 [zu64, zu64, zu64, zu64]]) (.seq (.reg [
oR w8 (rLoad (some 4) g3),
oCall w9 38 [g8],
oP w7 (pMv g9),
oP w10 (pExt g7 0),
oP w11 (pExt g7 1),
oP w5 (pMv g10),
oP w6 (pMv g11)]) (.seq (.seq (.draw [
⟨0, ⟨(some 12), .p (.mv (.t 6)), none⟩, 0, 0⟩,
⟨1, ⟨(some 13), .p (.not (.t 12)), none⟩, 1, 0⟩,
⟨2, ⟨(some 14), .p (.mv (.t 13)), none⟩, 3, 0⟩,
⟨3, ⟨(some 15), .p (.mv (.t 5)), some (14, false)⟩, 7, 0⟩,
⟨4, ⟨(some 16), .p (.mv (.t 0)), some (14, false)⟩, 7, 0⟩,
⟨5, ⟨(some 17), .p (.nilCheck (.t 16)), some (14, false)⟩, 23, 0⟩,
⟨6, ⟨(some 18), .p (.faddr 0 (.t 17)), some (14, false)⟩, 55, 0⟩,
⟨7, ⟨(some 19), .r (.load none (.t 18)), some (14, false)⟩, 119, 0⟩,
⟨8, ⟨(some 20), .p (.nilCheck (.t 19)), some (14, false)⟩, 247, 0⟩,
⟨9, ⟨(some 21), .p (.faddr 27 (.t 20)), some (14, false)⟩, 503, 0⟩,
⟨10, ⟨(some 22), .p (.faddr 20 (.t 21)), some (14, false)⟩, 1015, 0⟩,
⟨11, ⟨(some 23), .r (.load none (.t 22)), some (14, false)⟩, 2039, 0⟩,
⟨12, ⟨(some 24), .b (.cmp 5 .int (.t 15) (.t 23)), some (14, false)⟩, 4095, 0⟩,
⟨13, ⟨(some 25), .p (.pick (.t 14) (.c (.w (.s (.bool true)))) (.t 24)), none⟩, 8191, 0⟩,
⟨14, ⟨(some 26), .p (.mv (.t 25)), none⟩, 16383, 0⟩,
⟨15, ⟨(some 27), .p (.mv (.t 0)), some (26, false)⟩, 32767, 0⟩,
⟨16, ⟨(some 28), .p (.nilCheck (.t 27)), some (26, false)⟩, 65535, 0⟩,
⟨17, ⟨(some 29), .p (.faddr 0 (.t 28)), some (26, false)⟩, 131071, 0⟩,
⟨18, ⟨(some 30), .r (.load none (.t 29)), some (26, false)⟩, 262143, 0⟩,
⟨19, ⟨(some 31), .p (.nilCheck (.t 30)), some (26, false)⟩, 524287, 0⟩,
⟨20, ⟨(some 32), .p (.faddr 27 (.t 31)), some (26, false)⟩, 1048575, 0⟩,
⟨21, ⟨(some 33), .p (.faddr 20 (.t 32)), some (26, false)⟩, 2097151, 0⟩,
⟨22, ⟨(some 34), .r (.load none (.t 33)), some (26, false)⟩, 4194303, 0⟩,
⟨23, ⟨(some 35), .p (.ar 1 (.t 34) (.c (.w (.s (nu64 1))))), some (26, false)⟩, 8388607, 0⟩,
⟨24, ⟨(some 36), .p (.mv (.t 5)), some (26, false)⟩, 32767, 0⟩,
⟨25, ⟨(some 37), .p (.ar 1 (.t 35) (.t 36)), some (26, false)⟩, 33554431, 0⟩,
⟨26, ⟨(some 38), .p (.mv (.t 0)), some (26, false)⟩, 32767, 0⟩,
⟨27, ⟨(some 39), .p (.nilCheck (.t 38)), some (26, false)⟩, 67141631, 0⟩,
⟨28, ⟨(some 40), .p (.faddr 0 (.t 39)), some (26, false)⟩, 201359359, 0⟩,
⟨29, ⟨(some 41), .r (.load none (.t 40)), some (26, false)⟩, 469794815, 0⟩,
⟨30, ⟨(some 42), .p (.nilCheck (.t 41)), some (26, false)⟩, 1006665727, 0⟩,
⟨31, ⟨(some 43), .p (.faddr 27 (.t 42)), some (26, false)⟩, 2080407551, 0⟩,
⟨32, ⟨(some 44), .p (.faddr 36 (.t 43)), some (26, false)⟩, 4227891199, 0⟩,
⟨33, ⟨(some 45), .r (.load none (.t 44)), some (26, false)⟩, 8522858495, 0⟩,
⟨34, ⟨(some 46), .p (.len (.t 45)), some (26, false)⟩, 17112793087, 0⟩,
⟨35, ⟨(some 47), .p (.conv .u64 (.t 46)), some (26, false)⟩, 34292662271, 0⟩,
⟨36, ⟨(some 48), .b (.cmp 5 .int (.t 37) (.t 47)), some (26, false)⟩, 68719476735, 0⟩,
⟨37, ⟨(some 49), .p (.pick (.t 26) (.c (.w (.s (.bool true)))) (.t 48)), none⟩, 137438953471, 0⟩]) (.cond g49 (.seq (.reg [
oP w50 (pBuild [zu64, zu64, zu64, zu64] []),
oK wZ (bSt 4 g4 g50)]) (.ret)) (.skip))) (.seq (.draw [
⟨0, ⟨(some 51), .p (.mv (.t 0)), none⟩, 0, 0⟩,
⟨1, ⟨(some 52), .p (.nilCheck (.t 51)), none⟩, 1, 0⟩,
⟨2, ⟨(some 53), .p (.faddr 0 (.t 52)), none⟩, 3, 0⟩,
⟨3, ⟨(some 54), .r (.load none (.t 53)), none⟩, 7, 0⟩,
⟨4, ⟨(some 55), .p (.nilCheck (.t 54)), none⟩, 15, 0⟩,
⟨5, ⟨(some 56), .p (.faddr 27 (.t 55)), none⟩, 31, 0⟩,
⟨6, ⟨(some 57), .p (.faddr 36 (.t 56)), none⟩, 63, 0⟩,
⟨7, ⟨(some 58), .r (.load none (.t 57)), none⟩, 127, 0⟩,
⟨8, ⟨(some 59), .p (.mv (.t 0)), none⟩, 0, 0⟩,
⟨9, ⟨(some 60), .p (.nilCheck (.t 59)), none⟩, 256, 0⟩,
⟨10, ⟨(some 61), .p (.faddr 0 (.t 60)), none⟩, 768, 0⟩,
⟨11, ⟨(some 62), .r (.load none (.t 61)), none⟩, 1792, 0⟩,
⟨12, ⟨(some 63), .p (.nilCheck (.t 62)), none⟩, 3840, 0⟩,
⟨13, ⟨(some 64), .p (.faddr 27 (.t 63)), none⟩, 7936, 0⟩,
⟨14, ⟨(some 65), .p (.faddr 20 (.t 64)), none⟩, 16128, 0⟩,
⟨15, ⟨(some 66), .r (.load none (.t 65)), none⟩, 32512, 0⟩,
⟨16, ⟨(some 67), .p (.ar 1 (.t 66) (.c (.w (.s (nu64 1))))), none⟩, 65280, 0⟩,
⟨17, ⟨(some 68), .p (.mv (.t 5)), none⟩, 0, 0⟩,
⟨18, ⟨(some 69), .p (.ar 1 (.t 67) (.t 68)), none⟩, 261888, 0⟩,
⟨19, ⟨(some 70), .p (.iaddrS 32 (.t 58) (.t 69)), none⟩, 524287, 0⟩,
⟨20, ⟨(some 71), .r (.load (some 32) (.t 70)), none⟩, 1048575, 0⟩,
⟨21, ⟨(some 72), .b (.call 157 [(.t 71)]), none⟩, 2097151, 0⟩,
⟨22, ⟨none, .b (.store 4 (.t 4) (.t 72)), none⟩, 4194303, 0⟩]) (.ret))))⟩
theorem fp166 : ∃ fn, fb166 = denF fn ∧ ∃ func code hint, FnOk Go.Proofs.Tryz.prog TT 166 fn func code hint := f2_mk (func := Go.Proofs.Tryz.f166) (code := bodyOf Go.Proofs.Tryz.f166) (hint := hintL [(2, [(0, 0), (1, 0), (2, 0), (3, 0), (4, 0), (5, 0), (6, 0), (7, 0), (8, 0), (9, 0), (10, 0), (11, 0), (12, 0), (13, 0), (14, 0), (15, 0), (16, 0), (17, 0), (18, 0), (19, 0), (20, 0), (21, 0), (22, 0), (23, 0), (24, 0), (25, 0), (26, 0), (27, 0), (28, 0), (29, 0), (30, 0), (31, 0), (32, 0), (33, 0), (34, 0), (35, 0), (36, 0), (37, 0)]), (4, [(0, 0), (1, 0), (2, 0), (3, 0), (4, 0), (5, 0), (6, 0), (7, 0), (8, 0), (9, 0), (10, 0), (11, 0), (12, 0), (13, 0), (14, 0), (15, 0), (16, 0), (17, 0), (18, 0), (19, 0), (20, 0), (21, 0), (22, 0)])]) (n := 73) (res := [.cell 4 (some 4)]) Go.Proofs.Tryz.func166 Go.Proofs.Tryz.call166 (by kernel_rfl) (by kernel_rfl) (by kernel_rfl) (by kernel_rfl) (by kernel_rfl)
/- (*quarry/state.State).HeatSlot -/
def fb167 : AFunc2 := ⟨29, [.tmp g6], .seq (.reg [
oBox w4 30 g1,
oBox w5 24 g2,
oP w6 (pMv (gC (.w (.s (.bool false)))))]) (.seq (.draw [
⟨0, ⟨(some 8), .p (.mv (.t 0)), none⟩, 0, 0⟩,
⟨1, ⟨(some 9), .p (.nilCheck (.t 8)), none⟩, 1, 0⟩,
⟨2, ⟨(some 10), .p (.faddr 1 (.t 9)), none⟩, 3, 0⟩,
⟨3, ⟨(some 11), .p (.faddr 4 (.t 10)), none⟩, 7, 0⟩,
⟨4, ⟨(some 12), .r (.load none (.t 11)), none⟩, 15, 0⟩,
⟨5, ⟨(some 13), .r (.load (some 20) (.t 4)), none⟩, 0, 0⟩,
⟨6, ⟨(some 14), .r (.load (some 4) (.t 5)), none⟩, 0, 0⟩,
⟨7, ⟨(some 15), .p (.build [zu8, zu8, zu8, zu8, zu8, zu8, zu8, zu8, zu8, zu8, zu8, zu8, zu8, zu8, zu8, zu8, zu8, zu8, zu8, zu8, zu64, zu64, zu64, zu64] [(0, 20, (.t 13)), (20, 4, (.t 14))]), none⟩, 96, 0⟩,
⟨8, ⟨(some 16), .b (.call 202 [(.t 12), (.t 15)]), none⟩, 255, 0⟩,
⟨9, ⟨(some 7), .p (.mv (.t 16)), none⟩, 511, 0⟩]) (.seq (.draw [
⟨0, ⟨(some 17), .p (.mv (.t 0)), none⟩, 0, 0⟩,
⟨1, ⟨(some 18), .p (.mv (.t 0)), none⟩, 0, 0⟩,
⟨2, ⟨(some 19), .p (.nilCheck (.t 18)), none⟩, 2, 0⟩,
⟨3, ⟨(some 20), .p (.faddr 1 (.t 19)), none⟩, 6, 0⟩,
⟨4, ⟨(some 21), .p (.faddr 4 (.t 20)), none⟩, 14, 0⟩,
⟨5, ⟨(some 22), .r (.load none (.t 21)), none⟩, 30, 0⟩,
⟨6, ⟨(some 23), .r (.load (some 20) (.t 4)), none⟩, 0, 0⟩,
⟨7, ⟨(some 24), .r (.load (some 4) (.t 5)), none⟩, 0, 0⟩,
⟨8, ⟨(some 25), .p (.build [zu8, zu8, zu8, zu8, zu8, zu8, zu8, zu8, zu8, zu8, zu8, zu8, zu8, zu8, zu8, zu8, zu8, zu8, zu8, zu8, zu64, zu64, zu64, zu64] [(0, 20, (.t 23)), (20, 4, (.t 24))]), none⟩, 192, 0⟩,
⟨9, ⟨(some 26), .p (.build [] []), none⟩, 0, 0⟩,
⟨10, ⟨(some 27), .b (.call 203 [(.t 17), (.t 22), (.t 25), (.t 26)]), none⟩, 1023, 0⟩]) (.seq (.reg [
oP w28 (pMv g7),
oP w6 (pMv g28)]) (.ret))))⟩
theorem fp167 : ∃ fn, fb167 = denF fn ∧ ∃ func code hint, FnOk Go.Proofs.Tryz.prog TT 167 fn func code hint := f2_mk (func := Go.Proofs.Tryz.f167) (code := bodyOf Go.Proofs.Tryz.f167) (hint := hintL [(1, [(0, 0), (1, 0), (2, 0), (3, 0), (4, 0), (5, 0), (6, 0), (7, 0), (8, 0), (9, 0)]), (2, [(0, 0), (1, 0), (2, 0), (3, 0), (4, 0), (5, 0), (6, 0), (7, 0), (8, 0), (9, 0), (10, 0)])]) (n := 29) (res := [.tmp 6]) Go.Proofs.Tryz.func167 Go.Proofs.Tryz.call167 (by kernel_rfl) (by kernel_rfl) (by kernel_rfl) (by kernel_rfl) (by kernel_rfl)
/- (*quarry/vm.frame).slot -/
def fb168 : AFunc2 := ⟨117, [], .seq (.reg [
oBox w4 24 g1,
oBox w5 24 g2]) (.seq (.draw [
⟨0, ⟨(some 11), .p (.mv (.t 0)), none⟩, 0, 0⟩,
⟨1, ⟨(some 12), .p (.nilCheck (.t 11)), none⟩, 1, 0⟩,
⟨2, ⟨(some 13), .p (.faddr 0 (.t 12)), none⟩, 3, 0⟩,
⟨3, ⟨(some 14), .r (.load none (.t 13)), none⟩, 7, 0⟩,
⟨4, ⟨(some 15), .p (.nilCheck (.t 14)), none⟩, 15, 0⟩,
⟨5, ⟨(some 16), .p (.faddr 89 (.t 15)), none⟩, 31, 0⟩,
⟨6, ⟨(some 17), .r (.load none (.t 16)), none⟩, 63, 0⟩,
⟨7, ⟨(some 18), .p (.mv (.t 0)), none⟩, 0, 0⟩,
⟨8, ⟨(some 19), .p (.nilCheck (.t 18)), none⟩, 128, 0⟩,
⟨9, ⟨(some 20), .p (.faddr 1 (.t 19)), none⟩, 384, 0⟩,
⟨10, ⟨(some 21), .p (.faddr 20 (.t 20)), none⟩, 896, 0⟩,
⟨11, ⟨(some 22), .r (.load (some 20) (.t 21)), none⟩, 1920, 0⟩,
⟨12, ⟨(some 23), .r (.load (some 4) (.t 4)), none⟩, 0, 0⟩,
⟨14, ⟨(some 25), .p (.mv (.t 0)), none⟩, 0, 0⟩,
⟨15, ⟨(some 26), .p (.nilCheck (.t 25)), none⟩, 16384, 0⟩,
⟨16, ⟨(some 27), .p (.faddr 0 (.t 26)), none⟩, 49152, 0⟩,
⟨17, ⟨(some 28), .r (.load none (.t 27)), none⟩, 114688, 0⟩,
⟨18, ⟨(some 29), .p (.nilCheck (.t 28)), none⟩, 245760, 0⟩,
⟨19, ⟨(some 30), .p (.faddr 89 (.t 29)), none⟩, 507904, 0⟩,
⟨20, ⟨(some 31), .r (.load none (.t 30)), none⟩, 1032192, 0⟩,
⟨21, ⟨(some 32), .p (.mv (.t 0)), none⟩, 0, 0⟩,
⟨22, ⟨(some 33), .p (.nilCheck (.t 32)), none⟩, 2097152, 0⟩,
⟨23, ⟨(some 34), .p (.faddr 1 (.t 33)), none⟩, 6291456, 0⟩,
⟨24, ⟨(some 35), .p (.faddr 20 (.t 34)), none⟩, 14680064, 0⟩,
⟨25, ⟨(some 36), .r (.load (some 20) (.t 35)), none⟩, 31457280, 0⟩,
⟨26, ⟨(some 37), .r (.load (some 4) (.t 4)), none⟩, 0, 0⟩,
⟨28, ⟨(some 39), .r (.load (some 4) (.t 5)), none⟩, 0, 0⟩,
⟨29, ⟨(some 40), .p (.mv (.t 0)), none⟩, 0, 0⟩,
⟨30, ⟨(some 41), .p (.nilCheck (.t 40)), none⟩, 536870912, 0⟩,
⟨31, ⟨(some 42), .p (.faddr 1 (.t 41)), none⟩, 1610612736, 0⟩,
⟨32, ⟨(some 43), .p (.faddr 65 (.t 42)), none⟩, 3758096384, 0⟩,
⟨33, ⟨(some 44), .r (.load none (.t 43)), none⟩, 8053063680, 0⟩,
⟨35, ⟨(some 6), .m (.alloc 82 [zu64, zu64, zu64, zu64, zu64, zu64, zu64, zu64, zu64, zu64, zu64, zu64, .bool false, zu64]), none⟩, 0, 2048⟩,
⟨13, ⟨(some 24), .b (.call 204 [(.t 17), (.t 22), (.t 23)]), none⟩, 8191, 0⟩,
⟨27, ⟨(some 38), .b (.call 31 [(.t 31), (.t 36), (.t 37)]), none⟩, 134217727, 0⟩,
⟨34, ⟨(some 45), .p (.build [zu64, zu64, zu64, zu64, zu64, zu64, zu64, zu64, zu64, zu64, zu64, zu64, .bool false, zu64] [(0, 4, (.t 24)), (4, 4, (.t 38)), (8, 4, (.t 39)), (13, 1, (.t 44))]), none⟩, 17179869183, 0⟩,
⟨36, ⟨none, .b (.store 14 (.t 6) (.t 45)), none⟩, 68719476735, 0⟩]) (.seq (.seq (.reg [
oP w46 (pMv g0),
oP w47 (pGen fun _ t => opNil t (.t 46)),
oP w48 (pFaddr 0 g47),
oR w49 (rLoad none g48),
oCall w50 66 [g49, (gC (.w (.s (ni64 9))))]]) (.cond g50 (.draw [
⟨0, ⟨(some 51), .p (.mv (.t 0)), none⟩, 0, 0⟩,
⟨1, ⟨(some 52), .p (.nilCheck (.t 51)), none⟩, 1, 0⟩,
⟨2, ⟨(some 53), .p (.faddr 0 (.t 52)), none⟩, 3, 0⟩,
⟨3, ⟨(some 54), .r (.load none (.t 53)), none⟩, 7, 0⟩,
⟨4, ⟨(some 55), .p (.nilCheck (.t 54)), none⟩, 15, 0⟩,
⟨5, ⟨(some 56), .p (.faddr 89 (.t 55)), none⟩, 31, 0⟩,
⟨6, ⟨(some 57), .r (.load none (.t 56)), none⟩, 63, 0⟩,
⟨7, ⟨(some 58), .p (.mv (.t 0)), none⟩, 0, 0⟩,
⟨8, ⟨(some 59), .p (.nilCheck (.t 58)), none⟩, 128, 0⟩,
⟨9, ⟨(some 60), .p (.faddr 1 (.t 59)), none⟩, 384, 0⟩,
⟨10, ⟨(some 61), .p (.faddr 20 (.t 60)), none⟩, 896, 0⟩,
⟨11, ⟨(some 62), .r (.load (some 20) (.t 61)), none⟩, 1920, 0⟩,
⟨12, ⟨(some 63), .r (.load (some 4) (.t 4)), none⟩, 0, 0⟩,
⟨13, ⟨(some 64), .b (.call 167 [(.t 57), (.t 62), (.t 63)]), none⟩, 8191, 0⟩,
⟨14, ⟨(some 65), .p (.faddr 12 (.t 6)), none⟩, 16383, 0⟩,
⟨15, ⟨none, .b (.store 1 (.t 65) (.t 64)), none⟩, 32767, 0⟩]) (.skip))) (.seq (.draw [
⟨0, ⟨(some 67), .p (.mv (.t 0)), none⟩, 0, 0⟩,
⟨1, ⟨(some 68), .p (.nilCheck (.t 67)), none⟩, 1, 0⟩,
⟨2, ⟨(some 69), .p (.faddr 0 (.t 68)), none⟩, 3, 0⟩,
⟨3, ⟨(some 70), .r (.load none (.t 69)), none⟩, 7, 0⟩,
⟨4, ⟨(some 71), .p (.nilCheck (.t 70)), none⟩, 15, 0⟩,
⟨5, ⟨(some 72), .p (.faddr 1 (.t 71)), none⟩, 31, 0⟩,
⟨6, ⟨(some 73), .r (.load (some 26) (.t 72)), none⟩, 63, 0⟩,
⟨7, ⟨(some 74), .r (.load (some 14) (.t 6)), none⟩, 0, 0⟩,
⟨8, ⟨(some 75), .b (.call 29 [(.t 73), (.t 74)]), none⟩, 255, 0⟩,
⟨9, ⟨(some 66), .p (.mv (.t 75)), none⟩, 511, 0⟩,
⟨10, ⟨(some 76), .p (.ext (.t 66) 0), none⟩, 1023, 0⟩,
⟨11, ⟨(some 77), .p (.ext (.t 66) 1), none⟩, 1023, 0⟩,
⟨12, ⟨(some 78), .p (.ext (.t 66) 2), none⟩, 1023, 0⟩,
⟨13, ⟨(some 79), .p (.ext (.t 66) 3), none⟩, 1023, 0⟩,
⟨14, ⟨(some 7), .p (.mv (.t 76)), none⟩, 2047, 0⟩,
⟨15, ⟨(some 8), .p (.mv (.t 77)), none⟩, 20479, 0⟩,
⟨16, ⟨(some 9), .p (.mv (.t 78)), none⟩, 57343, 0⟩,
⟨17, ⟨(some 10), .p (.mv (.t 79)), none⟩, 131071, 0⟩]) (.seq (.reg [
oP w80 (pMv g0),
oP w81 (pMv g7),
oP w82 (pMv g10),
oCall w83 154 [g80, g81, g82]]) (.seq (.reg [
oP w84 (pMv g0),
oP w85 (pGen fun _ t => opNil t (.t 84)),
oP w86 (pFaddr 0 g85),
oR w87 (rLoad none g86),
oP w88 (pGen fun _ t => opNil t (.t 87)),
oP w89 (pFaddr 89 g88),
oR w90 (rLoad none g89),
oP w91 (pMv g8),
oCall w92 205 [g90, g91]]) (.seq (.reg [
oP w93 (pMv g0),
oP w94 (pGen fun _ t => opNil t (.t 93)),
oP w95 (pFaddr 0 g94),
oR w96 (rLoad none g95),
oP w97 (pGen fun _ t => opNil t (.t 96)),
oP w98 (pFaddr 89 g97),
oR w99 (rLoad none g98),
oP w100 (pMv g9),
oCall w101 206 [g99, g100]]) (.draw [
⟨0, ⟨(some 102), .p (.mv (.t 0)), none⟩, 0, 0⟩,
⟨1, ⟨(some 103), .p (.nilCheck (.t 102)), none⟩, 1, 0⟩,
⟨2, ⟨(some 104), .p (.faddr 0 (.t 103)), none⟩, 3, 0⟩,
⟨3, ⟨(some 105), .r (.load none (.t 104)), none⟩, 7, 0⟩,
⟨4, ⟨(some 106), .p (.nilCheck (.t 105)), none⟩, 15, 0⟩,
⟨5, ⟨(some 107), .p (.faddr 89 (.t 106)), none⟩, 31, 0⟩,
⟨6, ⟨(some 108), .r (.load none (.t 107)), none⟩, 63, 0⟩,
⟨7, ⟨(some 109), .p (.mv (.t 0)), none⟩, 0, 0⟩,
⟨8, ⟨(some 110), .p (.nilCheck (.t 109)), none⟩, 128, 0⟩,
⟨9, ⟨(some 111), .p (.faddr 1 (.t 110)), none⟩, 384, 0⟩,
⟨10, ⟨(some 112), .p (.faddr 20 (.t 111)), none⟩, 896, 0⟩,
⟨11, ⟨(some 113), .r (.load (some 20) (.t 112)), none⟩, 1920, 0⟩,
⟨12, ⟨(some 114), .r (.load (some 4) (.t 4)), none⟩, 0, 0⟩,
⟨13, ⟨(some 115), .r (.load (some 4) (.t 5)), none⟩, 0, 0⟩,
⟨14, ⟨(some 116), .b (.call 207 [(.t 108), (.t 113), (.t 114), (.t 115)]), none⟩, 16383, 0⟩])))))))⟩
theorem fp168 : ∃ fn, fb168 = denF fn ∧ ∃ func code hint, FnOk Go.Proofs.Tryz.prog TT 168 fn func code hint := f2_mk (func := Go.Proofs.Tryz.f168) (code := bodyOf Go.Proofs.Tryz.f168) (hint := hintL [(1, [(0, 0), (1, 0), (2, 0), (3, 0), (4, 0), (5, 0), (6, 0), (7, 0), (8, 0), (9, 0), (10, 0), (11, 0), (12, 0), (14, 0), (15, 0), (16, 0), (17, 0), (18, 0), (19, 0), (20, 0), (21, 0), (22, 0), (23, 0), (24, 0), (25, 0), (26, 0), (28, 0), (29, 0), (30, 0), (31, 0), (32, 0), (33, 0), (35, 2048), (13, 0), (27, 0), (34, 0), (36, 0)]), (3, [(0, 0), (1, 0), (2, 0), (3, 0), (4, 0), (5, 0), (6, 0), (7, 0), (8, 0), (9, 0), (10, 0), (11, 0), (12, 0), (13, 0), (14, 0), (15, 0)]), (4, [(0, 0), (1, 0), (2, 0), (3, 0), (4, 0), (5, 0), (6, 0), (7, 0), (8, 0), (9, 0), (10, 0), (11, 0), (12, 0), (13, 0), (14, 0), (15, 0), (16, 0), (17, 0)]), (8, [(0, 0), (1, 0), (2, 0), (3, 0), (4, 0), (5, 0), (6, 0), (7, 0), (8, 0), (9, 0), (10, 0), (11, 0), (12, 0), (13, 0), (14, 0)])]) (n := 117) (res := []) Go.Proofs.Tryz.func168 Go.Proofs.Tryz.call168 (by kernel_rfl) (by kernel_rfl) (by kernel_rfl) (by kernel_rfl) (by kernel_rfl)
/- (*quarry/vm.frame).jump -/
def fb169 : AFunc2 := ⟨68, [], .seq (.reg [
oBox w3 24 g1]) (.seq (.seq (.reg [
oP w8 (pMv g0),
oP w9 (pGen fun _ t => opNil t (.t 8)),
oP w10 (pFaddr 75 g9),
oR w11 (rLoad none g10),
oK w12 (b2 (fun x y s K => cmpA 0 .map x y s fun b s => K (vBool b) s) g11 (gC (.w (.s (.nilm)))))]) (.cond g12 (.seq (.reg [
oP w13 (pMv g0),
oM w14 (.mkmap),
oP w15 (pGen fun _ t => opNil t (.t 13)),
oP w16 (pFaddr 75 g15),
oK wZ (bSt 1 g16 g14)]) (.seq (.reg [
oP w17 (pMv g0),
oP w18 (pGen fun _ t => opNil t (.t 17)),
oP w19 (pFaddr 69 g18),
oR w20 (rLoad none g19),
oCall w21 208 [g20],
oP w22 (pGen fun _ t => opLen t (.t 21)),
oP w23 (pMv (gC (.w (.s (zi64)))))]) (.block 0 (.loop (.seq (.reg [
oK w24 (bCmp 2 lLt cGe true g23 g22)]) (.seq (.cond g24 (.skip) (.exit 0)) (.seq (.block 1 (.seq (.reg [
oP w25 (pIaddrS 1 g21 g23),
oR w26 (rLoad none g25),
oP w5 (pMv g26)]) (.reg [
oP w27 (pMv g0),
oP w28 (pGen fun _ t => opNil t (.t 27)),
oP w29 (pFaddr 75 g28),
oR w30 (rLoad none g29),
oP w31 (pMv g5),
oP w32 (pBuild [] []),
oK wZ (b3 (bMupd (.one (.int .i64))) g30 g31 g32)]))) (.reg [
oP w33 (pAr 0 g23 (gC (.w (.s (ni64 1))))),
oP w23 (pMv g33)])))))))) (.skip))) (.seq (.reg [
oR w35 (rLoad (some 4) g3),
oCall w36 38 [g35],
oP w34 (pMv g36),
oP w37 (pExt g34 0),
oP w38 (pExt g34 1),
oP w6 (pMv g37),
oP w7 (pMv g38)]) (.seq (.reg [
oP w39 (pMv g7),
oP w40 (pMv g39),
oGd g40 true w41 (oP w41 (pMv g6)),
oGd g40 true w42 (oP w42 (pMv g0)),
oGd g40 true w43 (oP w43 (pGen fun _ t => opNil t (.t 42))),
oGd g40 true w44 (oP w44 (pFaddr 69 g43)),
oGd g40 true w45 (oR w45 (rLoad none g44)),
oGd g40 true w46 (oP w46 (pGen fun _ t => opLen t (.t 45))),
oGd g40 true w47 (oP w47 (pConv .u64 g46)),
oGd g40 true w48 (oK w48 (bCmp 2 lLt cGe true g41 g47)),
oP w49 (pGen fun _ t => opPick t (.t 40) (.t 48) (.c (.w (.s (.bool false))))),
oCall w50 111 [g49]]) (.seq (.reg [
oP w52 (pMv g0),
oP w53 (pGen fun _ t => opNil t (.t 52)),
oP w54 (pFaddr 75 g53),
oR w55 (rLoad none g54),
oP w56 (pMv g6),
oP w57 (pConv .i64 g56),
oR w58 (rGen fun t s => match s with | .mk _ _ φ => opLook φ t s (.one (.int .i64)) (.agg []) (.t 55) (.t 57) true),
oP w51 (pMv g58),
oP w59 (pExt g51 0),
oP w60 (pExt g51 1),
oP w7 (pMv g60)]) (.seq (.reg [
oP w61 (pMv g7),
oCall w62 111 [g61]]) (.reg [
oP w63 (pMv g0),
oP w64 (pMv g6),
oP w65 (pConv .i64 g64),
oP w66 (pGen fun _ t => opNil t (.t 63)),
oP w67 (pFaddr 73 g66),
oK wZ (bSt 1 g67 g65)]))))))⟩
theorem fp169 : ∃ fn, fb169 = denF fn ∧ ∃ func code hint, FnOk Go.Proofs.Tryz.prog TT 169 fn func code hint := f2_mk (func := Go.Proofs.Tryz.f169) (code := bodyOf Go.Proofs.Tryz.f169) (hint := hintL []) (n := 68) (res := []) Go.Proofs.Tryz.func169 Go.Proofs.Tryz.call169 (by kernel_rfl) (by kernel_rfl) (by kernel_rfl) (by kernel_rfl) (by kernel_rfl)
/- (*quarry/state.State).Transient -/
def fb170 : AFunc2 := ⟨16, [.cell (rLoad (some 4) g6)], .seq (.reg [
oBox w4 30 g1,
oBox w5 24 g2,
oAlloc w6 24 [zu64, zu64, zu64, zu64]]) (.seq (.draw [
⟨0, ⟨(some 7), .p (.mv (.t 0)), none⟩, 0, 0⟩,
⟨1, ⟨(some 8), .p (.nilCheck (.t 7)), none⟩, 1, 0⟩,
⟨2, ⟨(some 9), .p (.faddr 1 (.t 8)), none⟩, 3, 0⟩,
⟨3, ⟨(some 10), .p (.faddr 5 (.t 9)), none⟩, 7, 0⟩,
⟨4, ⟨(some 11), .r (.load none (.t 10)), none⟩, 15, 0⟩,
⟨5, ⟨(some 12), .r (.load (some 20) (.t 4)), none⟩, 0, 0⟩,
⟨6, ⟨(some 13), .r (.load (some 4) (.t 5)), none⟩, 0, 0⟩,
⟨7, ⟨(some 14), .p (.build [zu8, zu8, zu8, zu8, zu8, zu8, zu8, zu8, zu8, zu8, zu8, zu8, zu8, zu8, zu8, zu8, zu8, zu8, zu8, zu8, zu64, zu64, zu64, zu64] [(0, 20, (.t 12)), (20, 4, (.t 13))]), none⟩, 96, 0⟩,
⟨8, ⟨(some 15), .r (.lookup (.str [(0, 30, .arr 20 5 .u8), (20, 24, .arr 4 22 .u64)]) (.agg [zu64, zu64, zu64, zu64]) (.t 11) (.t 14) false), none⟩, 255, 0⟩,
⟨9, ⟨none, .b (.store 4 (.t 6) (.t 15)), none⟩, 511, 0⟩]) (.ret))⟩
theorem fp170 : ∃ fn, fb170 = denF fn ∧ ∃ func code hint, FnOk Go.Proofs.Tryz.prog TT 170 fn func code hint := f2_mk (func := Go.Proofs.Tryz.f170) (code := bodyOf Go.Proofs.Tryz.f170) (hint := hintL [(1, [(0, 0), (1, 0), (2, 0), (3, 0), (4, 0), (5, 0), (6, 0), (7, 0), (8, 0), (9, 0)])]) (n := 16) (res := [.cell 6 (some 4)]) Go.Proofs.Tryz.func170 Go.Proofs.Tryz.call170 (by kernel_rfl) (by kernel_rfl) (by kernel_rfl) (by kernel_rfl) (by kernel_rfl)
/- (*quarry/state.State).SetTransient -/
def fb171 : AFunc2 := ⟨19, [], .seq (.reg [
oBox w5 30 g1,
oBox w6 24 g2,
oBox w7 24 g3]) (.draw [
⟨0, ⟨(some 8), .p (.mv (.t 0)), none⟩, 0, 0⟩,
⟨1, ⟨(some 9), .p (.mv (.t 0)), none⟩, 0, 0⟩,
⟨2, ⟨(some 10), .p (.nilCheck (.t 9)), none⟩, 2, 0⟩,
⟨3, ⟨(some 11), .p (.faddr 1 (.t 10)), none⟩, 6, 0⟩,
⟨4, ⟨(some 12), .p (.faddr 5 (.t 11)), none⟩, 14, 0⟩,
⟨5, ⟨(some 13), .r (.load none (.t 12)), none⟩, 30, 0⟩,
⟨6, ⟨(some 14), .r (.load (some 20) (.t 5)), none⟩, 0, 0⟩,
⟨7, ⟨(some 15), .r (.load (some 4) (.t 6)), none⟩, 0, 0⟩,
⟨8, ⟨(some 16), .p (.build [zu8, zu8, zu8, zu8, zu8, zu8, zu8, zu8, zu8, zu8, zu8, zu8, zu8, zu8, zu8, zu8, zu8, zu8, zu8, zu8, zu64, zu64, zu64, zu64] [(0, 20, (.t 14)), (20, 4, (.t 15))]), none⟩, 192, 0⟩,
⟨9, ⟨(some 17), .r (.load (some 4) (.t 7)), none⟩, 0, 0⟩,
⟨10, ⟨(some 18), .b (.call 209 [(.t 8), (.t 13), (.t 16), (.t 17)]), none⟩, 1023, 0⟩])⟩
theorem fp171 : ∃ fn, fb171 = denF fn ∧ ∃ func code hint, FnOk Go.Proofs.Tryz.prog TT 171 fn func code hint := f2_mk (func := Go.Proofs.Tryz.f171) (code := bodyOf Go.Proofs.Tryz.f171) (hint := hintL [(1, [(0, 0), (1, 0), (2, 0), (3, 0), (4, 0), (5, 0), (6, 0), (7, 0), (8, 0), (9, 0), (10, 0)])]) (n := 19) (res := []) Go.Proofs.Tryz.func171 Go.Proofs.Tryz.call171 (by kernel_rfl) (by kernel_rfl) (by kernel_rfl) (by kernel_rfl) (by kernel_rfl)
/- quarry/gas.Log -/
def fb172 : AFunc2 := ⟨21, [.tmp g4, .tmp g5], .seq (.reg [
oBox w3 24 g1,
oP w4 (pMv (gC (.w (.s (zu64))))),
oP w5 (pMv (gC (.w (.s (.bool false)))))]) (.seq (.reg [
oR w9 (rLoad (some 4) g3),
oCall w10 198 [g9],
oP w8 (pMv g10),
oP w11 (pExt g8 0),
oP w12 (pExt g8 1),
oP w6 (pMv g11),
oP w7 (pMv g12)]) (.seq (.seq (.reg [
oP w13 (pMv g7),
oP w14 (pNot g13)]) (.cond g14 (.seq (.reg [
oP w4 (pMv (gC (.w (.s (zu64))))),
oP w5 (pMv (gC (.w (.s (.bool false)))))]) (.ret)) (.skip))) (.seq (.reg [
oP w15 (pMv g0),
oP w16 (pConv .u64 g15),
oP w17 (pAr 2 (gC (.w (.s (nu64 375)))) g16),
oP w18 (pMv g6),
oP w19 (pAr 2 (gC (.w (.s (nu64 8)))) g18),
oP w20 (pAr 0 g17 g19),
oP w4 (pMv g20),
oP w5 (pMv (gC (.w (.s (.bool true)))))]) (.ret))))⟩
theorem fp172 : ∃ fn, fb172 = denF fn ∧ ∃ func code hint, FnOk Go.Proofs.Tryz.prog TT 172 fn func code hint := f2_mk (func := Go.Proofs.Tryz.f172) (code := bodyOf Go.Proofs.Tryz.f172) (hint := hintL []) (n := 21) (res := [.tmp 4, .tmp 5]) Go.Proofs.Tryz.func172 Go.Proofs.Tryz.call172 (by kernel_rfl) (by kernel_rfl) (by kernel_rfl) (by kernel_rfl) (by kernel_rfl)
/- (*quarry/state.State).AddLog -/
def fb173 : AFunc2 := ⟨27, [], .seq (.reg [
oBox w2 40 g0,
oBox w3 113 g1]) (.seq (.reg [
oR w5 (rLoad none g2),
oP w6 (pGen fun _ t => opNil t (.t 5)),
oP w7 (pFaddr 1 g6),
oP w8 (pFaddr 8 g7),
oR w9 (rLoad none g8),
oP w10 (pGen fun _ t => opLen t (.t 9)),
oAlloc w4 3 [zi64],
oK wZ (bSt 1 g4 g10)]) (.seq (.draw [
⟨0, ⟨(some 11), .r (.load none (.t 2)), none⟩, 0, 0⟩,
⟨1, ⟨(some 12), .r (.load none (.t 2)), none⟩, 0, 0⟩,
⟨2, ⟨(some 13), .p (.nilCheck (.t 12)), none⟩, 2, 0⟩,
⟨3, ⟨(some 14), .p (.faddr 1 (.t 13)), none⟩, 6, 0⟩,
⟨4, ⟨(some 15), .p (.faddr 8 (.t 14)), none⟩, 14, 0⟩,
⟨5, ⟨(some 16), .r (.load none (.t 15)), none⟩, 30, 0⟩,
⟨6, ⟨(some 17), .r (.load (some 22) (.t 3)), none⟩, 0, 0⟩,
⟨7, ⟨(some 18), .b (.call 40 [(.t 17)]), none⟩, 64, 0⟩,
⟨8, ⟨(some 19), .m (.bslice 113 1 [zu8, zu8, zu8, zu8, zu8, zu8, zu8, zu8, zu8, zu8, zu8, zu8, zu8, zu8, zu8, zu8, zu8, zu8, zu8, zu8, .nils, .nils] [(0, 22, (.t 18))]), none⟩, 192, 1024⟩,
⟨9, ⟨(some 20), .b (.append 113 22 72 (.t 16) (.t 19)), none⟩, 510, 0⟩,
⟨10, ⟨(some 21), .p (.nilCheck (.t 11)), none⟩, 1023, 0⟩,
⟨11, ⟨(some 22), .p (.faddr 1 (.t 21)), none⟩, 2047, 0⟩,
⟨12, ⟨(some 23), .p (.faddr 8 (.t 22)), none⟩, 4095, 0⟩,
⟨13, ⟨none, .b (.store 1 (.t 23) (.t 20)), none⟩, 8191, 0⟩]) (.reg [
oR w24 (rLoad none g2),
oP w25 (pGen fun _ t => opMkfn t 210 [(.t 2), (.t 4)]),
oCall w26 88 [g24, g25]])))⟩
theorem fp173 : ∃ fn, fb173 = denF fn ∧ ∃ func code hint, FnOk Go.Proofs.Tryz.prog TT 173 fn func code hint := f2_mk (func := Go.Proofs.Tryz.f173) (code := bodyOf Go.Proofs.Tryz.f173) (hint := hintL [(2, [(0, 0), (1, 0), (2, 0), (3, 0), (4, 0), (5, 0), (6, 0), (7, 0), (8, 1024), (9, 0), (10, 0), (11, 0), (12, 0), (13, 0)])]) (n := 27) (res := []) Go.Proofs.Tryz.func173 Go.Proofs.Tryz.call173 (by kernel_rfl) (by kernel_rfl) (by kernel_rfl) (by kernel_rfl) (by kernel_rfl)
/- (*quarry/vm.frame).creates -/
def fb174 : AFunc2 := ⟨157, [], .seq (.reg [
oBox w2 187 g0,
oBox w3 3 g1]) (.seq (.reg [
oR w11 (rLoad none g2),
oCall w12 146 [g11],
oAlloc w4 24 [zu64, zu64, zu64, zu64],
oK wZ (bSt 4 g4 g12)]) (.seq (.reg [
oR w13 (rLoad none g2),
oCall w14 153 [g13],
oAlloc w5 225 [zu64, zu64, zu64, zu64, zu64, zu64, zu64, zu64],
oK wZ (bSt 8 g5 g14)]) (.seq (.reg [
oP w15 (pBuild [zu64, zu64, zu64, zu64] []),
oAlloc w6 24 [zu64, zu64, zu64, zu64],
oK wZ (bSt 4 g6 g15)]) (.seq (.seq (.reg [
oR w16 (rLoad none g3),
oK w17 (bCmp 0 intEq .eq false g16 (gC (.w (.s (ni64 245)))))]) (.cond g17 (.reg [
oR w18 (rLoad none g2),
oCall w19 146 [g18],
oK wZ (bSt 4 g6 g19)]) (.skip))) (.seq (.reg [
oR w20 (rLoad none g2),
oR w21 (rLoad (some 8) g5),
oM w22 (.bslice 225 1 [zu64, zu64, zu64, zu64, zu64, zu64, zu64, zu64] [(0, 8, (.t 21))]),
oCall w23 156 [g20, g22]]) (.seq (.draw [
⟨0, ⟨(some 24), .r (.load none (.t 2)), none⟩, 0, 0⟩,
⟨1, ⟨(some 25), .p (.nilCheck (.t 24)), none⟩, 1, 0⟩,
⟨2, ⟨(some 26), .p (.faddr 0 (.t 25)), none⟩, 3, 0⟩,
⟨3, ⟨(some 27), .r (.load none (.t 26)), none⟩, 7, 0⟩,
⟨4, ⟨(some 28), .p (.nilCheck (.t 27)), none⟩, 15, 0⟩,
⟨5, ⟨(some 29), .p (.faddr 1 (.t 28)), none⟩, 31, 0⟩,
⟨6, ⟨(some 30), .p (.faddr 8 (.t 29)), none⟩, 63, 0⟩,
⟨7, ⟨(some 31), .r (.load none (.t 30)), none⟩, 127, 0⟩,
⟨8, ⟨(some 32), .b (.cmp 0 .int (.t 31) (.c (.w (.s (zi64))))), none⟩, 255, 0⟩,
⟨9, ⟨(some 33), .p (.mv (.t 32)), none⟩, 511, 0⟩,
⟨10, ⟨(some 34), .p (.faddr 4 (.t 5)), some (33, false)⟩, 1023, 0⟩,
⟨11, ⟨(some 35), .r (.load (some 4) (.t 34)), some (33, false)⟩, 2047, 0⟩,
⟨12, ⟨(some 36), .r (.load none (.t 2)), some (33, false)⟩, 1023, 0⟩,
⟨13, ⟨(some 37), .p (.nilCheck (.t 36)), some (33, false)⟩, 5119, 0⟩,
⟨14, ⟨(some 38), .p (.faddr 0 (.t 37)), some (33, false)⟩, 13311, 0⟩,
⟨15, ⟨(some 39), .r (.load none (.t 38)), some (33, false)⟩, 29695, 0⟩,
⟨16, ⟨(some 40), .p (.nilCheck (.t 39)), some (33, false)⟩, 62463, 0⟩,
⟨17, ⟨(some 41), .p (.faddr 1 (.t 40)), some (33, false)⟩, 127999, 0⟩,
⟨18, ⟨(some 42), .p (.faddr 8 (.t 41)), some (33, false)⟩, 259071, 0⟩,
⟨19, ⟨(some 43), .r (.load none (.t 42)), some (33, false)⟩, 521215, 0⟩,
⟨20, ⟨(some 44), .b (.call 163 [(.t 43)]), some (33, false)⟩, 1045503, 0⟩,
⟨21, ⟨(some 45), .b (.call 86 [(.t 35), (.t 44)]), some (33, false)⟩, 2097151, 0⟩,
⟨22, ⟨(some 46), .b (.cmp 3 .int (.t 45) (.c (.w (.s (zi64))))), some (33, false)⟩, 4194303, 0⟩,
⟨23, ⟨(some 47), .p (.pick (.t 33) (.c (.w (.s (.bool true)))) (.t 46)), none⟩, 8388607, 0⟩,
⟨24, ⟨(some 48), .b (.call 111 [(.t 47)]), none⟩, 16777215, 0⟩]) (.seq (.draw [
⟨0, ⟨(some 49), .r (.load none (.t 2)), none⟩, 0, 0⟩,
⟨1, ⟨(some 50), .p (.faddr 4 (.t 5)), none⟩, 0, 0⟩,
⟨2, ⟨(some 51), .r (.load (some 4) (.t 50)), none⟩, 2, 0⟩,
⟨3, ⟨(some 52), .r (.load none (.t 2)), none⟩, 0, 0⟩,
⟨4, ⟨(some 53), .p (.nilCheck (.t 52)), none⟩, 8, 0⟩,
⟨5, ⟨(some 54), .p (.faddr 0 (.t 53)), none⟩, 24, 0⟩,
⟨6, ⟨(some 55), .r (.load none (.t 54)), none⟩, 56, 0⟩,
⟨7, ⟨(some 56), .p (.nilCheck (.t 55)), none⟩, 120, 0⟩,
⟨8, ⟨(some 57), .p (.faddr 1 (.t 56)), none⟩, 248, 0⟩,
⟨9, ⟨(some 58), .p (.faddr 7 (.t 57)), none⟩, 504, 0⟩,
⟨10, ⟨(some 59), .r (.load none (.t 58)), none⟩, 1016, 0⟩,
⟨11, ⟨(some 60), .b (.call 155 [(.t 51), (.t 59)]), none⟩, 2046, 0⟩,
⟨12, ⟨(some 61), .p (.ext (.t 60) 0), none⟩, 4094, 0⟩,
⟨13, ⟨(some 62), .p (.ext (.t 60) 1), none⟩, 4094, 0⟩,
⟨14, ⟨(some 63), .b (.call 154 [(.t 49), (.t 61), (.t 62)]), none⟩, 16383, 0⟩]) (.seq (.seq (.reg [
oR w64 (rLoad none g3),
oK w65 (bCmp 0 intEq .eq false g64 (gC (.w (.s (ni64 245)))))]) (.cond g65 (.draw [
⟨0, ⟨(some 66), .r (.load none (.t 2)), none⟩, 0, 0⟩,
⟨1, ⟨(some 67), .p (.faddr 4 (.t 5)), none⟩, 0, 0⟩,
⟨2, ⟨(some 68), .r (.load (some 4) (.t 67)), none⟩, 2, 0⟩,
⟨3, ⟨(some 69), .b (.call 155 [(.t 68), (.c (.w (.s (nu64 6))))]), none⟩, 6, 0⟩,
⟨4, ⟨(some 70), .p (.ext (.t 69) 0), none⟩, 14, 0⟩,
⟨5, ⟨(some 71), .p (.ext (.t 69) 1), none⟩, 14, 0⟩,
⟨6, ⟨(some 72), .b (.call 154 [(.t 66), (.t 70), (.t 71)]), none⟩, 63, 0⟩]) (.skip))) (.seq (.reg [
oR w73 (rLoad none g2),
oR w74 (rLoad (some 8) g5),
oCall w75 158 [g73, g74],
oK w76 (b2 (bAppend 5 1 1) (gC (.w (.s (.nils)))) g75),
oAlloc w7 25 [.nils],
oK wZ (bSt 1 g7 g76)]) (.seq (.reg [
oR w77 (rLoad none g2),
oP w78 (pGen fun _ t => opNil t (.t 77)),
oP w79 (pFaddr 72 g78),
oK wZ (bSt 1 g79 (gC (.w (.s (.nils)))))]) (.seq (.seq (.reg [
oR w80 (rLoad none g2),
oP w81 (pGen fun _ t => opNil t (.t 80)),
oP w82 (pFaddr 1 g81),
oP w83 (pFaddr 67 g82),
oR w84 (rLoad none g83),
oK w85 (bCmp 0 intEq .eq false g84 (gC (.w (.s (ni64 1024)))))]) (.cond g85 (.seq (.reg [
oR w86 (rLoad none g2),
oP w87 (pBuild [zu64, zu64, zu64, zu64] []),
oCall w88 120 [g86, g87]]) (.ret)) (.skip))) (.seq (.reg [
oR w89 (rLoad none g2),
oP w90 (pGen fun _ t => opNil t (.t 89)),
oP w91 (pFaddr 1 g90),
oP w92 (pFaddr 65 g91),
oR w93 (rLoad none g92),
oP w8 (pMv g93)]) (.seq (.seq (.reg [
oR w94 (rLoad none g2),
oP w95 (pGen fun _ t => opNil t (.t 94)),
oP w96 (pFaddr 0 g95),
oR w97 (rLoad none g96),
oCall w98 66 [g97, (gC (.w (.s (ni64 2))))]]) (.cond g98 (.reg [
oP w99 (pMv g8),
oP w100 (pMv g8),
oP w101 (pGen fun φ t => opDv φ t (.t 100) (.c (.w (.s (nu64 64))))),
oP w102 (pAr 1 g99 g101),
oP w8 (pMv g102)]) (.skip))) (.seq (.reg [
oR w103 (rLoad none g2),
oP w104 (pMv g8),
oCall w105 113 [g103, g104]]) (.seq (.draw [
⟨0, ⟨(some 106), .r (.load none (.t 2)), none⟩, 0, 0⟩,
⟨1, ⟨(some 107), .p (.nilCheck (.t 106)), none⟩, 1, 0⟩,
⟨2, ⟨(some 108), .p (.faddr 1 (.t 107)), none⟩, 3, 0⟩,
⟨3, ⟨(some 109), .p (.faddr 20 (.t 108)), none⟩, 7, 0⟩,
⟨4, ⟨(some 110), .r (.load (some 20) (.t 109)), none⟩, 15, 0⟩,
⟨5, ⟨(some 111), .r (.load (some 4) (.t 4)), none⟩, 0, 0⟩,
⟨6, ⟨(some 112), .r (.load none (.t 7)), none⟩, 0, 0⟩,
⟨7, ⟨(some 113), .p (.mv (.t 8)), none⟩, 0, 0⟩,
⟨8, ⟨(some 114), .r (.load none (.t 2)), none⟩, 0, 0⟩,
⟨9, ⟨(some 115), .p (.nilCheck (.t 114)), none⟩, 256, 0⟩,
⟨10, ⟨(some 116), .p (.faddr 1 (.t 115)), none⟩, 768, 0⟩,
⟨11, ⟨(some 117), .p (.faddr 66 (.t 116)), none⟩, 1792, 0⟩,
⟨12, ⟨(some 118), .r (.load none (.t 117)), none⟩, 3840, 0⟩,
⟨13, ⟨(some 119), .r (.load none (.t 2)), none⟩, 0, 0⟩,
⟨14, ⟨(some 120), .p (.nilCheck (.t 119)), none⟩, 8192, 0⟩,
⟨15, ⟨(some 121), .p (.faddr 1 (.t 120)), none⟩, 24576, 0⟩,
⟨16, ⟨(some 122), .p (.faddr 67 (.t 121)), none⟩, 57344, 0⟩,
⟨17, ⟨(some 123), .r (.load none (.t 122)), none⟩, 122880, 0⟩,
⟨18, ⟨(some 124), .p (.ar 0 (.t 123) (.c (.w (.s (ni64 1))))), none⟩, 253952, 0⟩,
⟨19, ⟨(some 125), .p (.build [zu8, zu8, zu8, zu8, zu8, zu8, zu8, zu8, zu8, zu8, zu8, zu8, zu8, zu8, zu8, zu8, zu8, zu8, zu8, zu8, zu8, zu8, zu8, zu8, zu8, zu8, zu8, zu8, zu8, zu8, zu8, zu8, zu8, zu8, zu8, zu8, zu8, zu8, zu8, zu8, zu8, zu8, zu8, zu8, zu8, zu8, zu8, zu8, zu8, zu8, zu8, zu8, zu8, zu8, zu8, zu8, zu8, zu8, zu8, zu8, zu64, zu64, zu64, zu64, .nils, zu64, .bool false, zi64] [(0, 20, (.t 110)), (60, 4, (.t 111)), (64, 1, (.t 112)), (65, 1, (.t 113)), (66, 1, (.t 118)), (67, 1, (.t 124))]), none⟩, 524287, 0⟩,
⟨20, ⟨(some 9), .m (.alloc 129 [zu8, zu8, zu8, zu8, zu8, zu8, zu8, zu8, zu8, zu8, zu8, zu8, zu8, zu8, zu8, zu8, zu8, zu8, zu8, zu8, zu8, zu8, zu8, zu8, zu8, zu8, zu8, zu8, zu8, zu8, zu8, zu8, zu8, zu8, zu8, zu8, zu8, zu8, zu8, zu8, zu8, zu8, zu8, zu8, zu8, zu8, zu8, zu8, zu8, zu8, zu8, zu8, zu8, zu8, zu8, zu8, zu8, zu8, zu8, zu8, zu64, zu64, zu64, zu64, .nils, zu64, .bool false, zi64]), none⟩, 0, 0⟩,
⟨21, ⟨none, .b (.store 68 (.t 9) (.t 125)), none⟩, 2097151, 0⟩]) (.seq (.draw [
⟨0, ⟨(some 126), .r (.load none (.t 2)), none⟩, 0, 0⟩,
⟨1, ⟨(some 127), .p (.nilCheck (.t 126)), none⟩, 1, 0⟩,
⟨2, ⟨(some 128), .p (.faddr 0 (.t 127)), none⟩, 3, 0⟩,
⟨3, ⟨(some 129), .r (.load none (.t 128)), none⟩, 7, 0⟩,
⟨4, ⟨(some 130), .r (.load (some 68) (.t 9)), none⟩, 0, 0⟩,
⟨5, ⟨(some 131), .p (.mkfunc 211 [(.t 3), (.t 2), (.t 6), (.t 7)]), none⟩, 0, 0⟩,
⟨7, ⟨(some 10), .m (.alloc 131 [zi64, .nils, zu64, zu8, zu8, zu8, zu8, zu8, zu8, zu8, zu8, zu8, zu8, zu8, zu8, zu8, zu8, zu8, zu8, zu8, zu8, zu8, zu8]), none⟩, 0, 65536⟩,
⟨6, ⟨(some 132), .b (.call 48 [(.t 129), (.t 130), (.t 131)]), none⟩, 63, 0⟩,
⟨8, ⟨none, .b (.store 23 (.t 10) (.t 132)), none⟩, 255, 0⟩]) (.seq (.draw [
⟨0, ⟨(some 133), .r (.load none (.t 2)), none⟩, 0, 0⟩,
⟨1, ⟨(some 134), .p (.nilCheck (.t 133)), none⟩, 1, 0⟩,
⟨2, ⟨(some 135), .p (.faddr 1 (.t 134)), none⟩, 3, 0⟩,
⟨3, ⟨(some 136), .p (.faddr 65 (.t 135)), none⟩, 7, 0⟩,
⟨4, ⟨(some 137), .r (.load none (.t 136)), none⟩, 15, 0⟩,
⟨5, ⟨(some 138), .p (.faddr 2 (.t 10)), none⟩, 0, 0⟩,
⟨6, ⟨(some 139), .r (.load none (.t 138)), none⟩, 32, 0⟩,
⟨7, ⟨(some 140), .p (.ar 0 (.t 137) (.t 139)), none⟩, 127, 0⟩,
⟨8, ⟨(some 141), .p (.nilCheck (.t 133)), none⟩, 255, 0⟩,
⟨9, ⟨(some 142), .p (.faddr 1 (.t 141)), none⟩, 511, 0⟩,
⟨10, ⟨(some 143), .p (.faddr 65 (.t 142)), none⟩, 1023, 0⟩,
⟨11, ⟨none, .b (.store 1 (.t 143) (.t 140)), none⟩, 2047, 0⟩]) (.seq (.seq (.reg [
oP w144 (pFaddr 0 g10),
oR w145 (rLoad none g144),
oK w146 (bCmp 0 intEq .eq false g145 (gC (.w (.s (ni64 1)))))]) (.cond g146 (.reg [
oR w147 (rLoad none g2),
oP w148 (pFaddr 1 g10),
oR w149 (rLoad none g148),
oP w150 (pGen fun _ t => opNil t (.t 147)),
oP w151 (pFaddr 72 g150),
oK wZ (bSt 1 g151 g149)]) (.skip))) (.draw [
⟨0, ⟨(some 152), .r (.load none (.t 2)), none⟩, 0, 0⟩,
⟨1, ⟨(some 153), .p (.faddr 3 (.t 10)), none⟩, 0, 0⟩,
⟨2, ⟨(some 154), .r (.load (some 20) (.t 153)), none⟩, 2, 0⟩,
⟨3, ⟨(some 155), .b (.call 159 [(.t 154)]), none⟩, 6, 0⟩,
⟨4, ⟨(some 156), .b (.call 120 [(.t 152), (.t 155)]), none⟩, 15, 0⟩])))))))))))))))))))⟩
theorem fp174 : ∃ fn, fb174 = denF fn ∧ ∃ func code hint, FnOk Go.Proofs.Tryz.prog TT 174 fn func code hint := f2_mk (func := Go.Proofs.Tryz.f174) (code := bodyOf Go.Proofs.Tryz.f174) (hint := hintL [(7, [(0, 0), (1, 0), (2, 0), (3, 0), (4, 0), (5, 0), (6, 0), (7, 0), (8, 0), (9, 0), (10, 0), (11, 0), (12, 0), (13, 0), (14, 0), (15, 0), (16, 0), (17, 0), (18, 0), (19, 0), (20, 0), (21, 0), (22, 0), (23, 0), (24, 0)]), (8, [(0, 0), (1, 0), (2, 0), (3, 0), (4, 0), (5, 0), (6, 0), (7, 0), (8, 0), (9, 0), (10, 0), (11, 0), (12, 0), (13, 0), (14, 0)]), (10, [(0, 0), (1, 0), (2, 0), (3, 0), (4, 0), (5, 0), (6, 0)]), (19, [(0, 0), (1, 0), (2, 0), (3, 0), (4, 0), (5, 0), (6, 0), (7, 0), (8, 0), (9, 0), (10, 0), (11, 0), (12, 0), (13, 0), (14, 0), (15, 0), (16, 0), (17, 0), (18, 0), (19, 0), (20, 0), (21, 0)]), (20, [(0, 0), (1, 0), (2, 0), (3, 0), (4, 0), (5, 0), (7, 65536), (6, 0), (8, 0)]), (21, [(0, 0), (1, 0), (2, 0), (3, 0), (4, 0), (5, 0), (6, 0), (7, 0), (8, 0), (9, 0), (10, 0), (11, 0)]), (24, [(0, 0), (1, 0), (2, 0), (3, 0), (4, 0)])]) (n := 157) (res := []) Go.Proofs.Tryz.func174 Go.Proofs.Tryz.call174 (by kernel_rfl) (by kernel_rfl) (by kernel_rfl) (by kernel_rfl) (by kernel_rfl)
/- (*quarry/vm.frame).goes -/
def fb175 : AFunc2 := ⟨174, [], .seq (.reg [
oBox w3 30 g1]) (.seq (.seq (.draw [
⟨0, ⟨(some 5), .p (.mv (.t 0)), none⟩, 0, 0⟩,
⟨1, ⟨(some 6), .p (.nilCheck (.t 5)), none⟩, 1, 0⟩,
⟨2, ⟨(some 7), .p (.faddr 0 (.t 6)), none⟩, 3, 0⟩,
⟨3, ⟨(some 8), .r (.load none (.t 7)), none⟩, 7, 0⟩,
⟨4, ⟨(some 9), .b (.call 66 [(.t 8), (.c (.w (.s (ni64 9))))]), none⟩, 15, 0⟩,
⟨5, ⟨(some 10), .p (.mv (.t 9)), none⟩, 31, 0⟩,
⟨6, ⟨(some 11), .p (.mv (.t 0)), some (10, true)⟩, 63, 0⟩,
⟨7, ⟨(some 12), .p (.nilCheck (.t 11)), some (10, true)⟩, 127, 0⟩,
⟨8, ⟨(some 13), .p (.faddr 0 (.t 12)), some (10, true)⟩, 255, 0⟩,
⟨9, ⟨(some 14), .r (.load none (.t 13)), some (10, true)⟩, 511, 0⟩,
⟨10, ⟨(some 15), .p (.nilCheck (.t 14)), some (10, true)⟩, 1023, 0⟩,
⟨11, ⟨(some 16), .p (.faddr 89 (.t 15)), some (10, true)⟩, 2047, 0⟩,
⟨12, ⟨(some 17), .r (.load none (.t 16)), some (10, true)⟩, 4095, 0⟩,
⟨13, ⟨(some 18), .r (.load (some 20) (.t 3)), some (10, true)⟩, 63, 0⟩,
⟨14, ⟨(some 19), .b (.call 67 [(.t 17), (.t 18)]), some (10, true)⟩, 16383, 0⟩,
⟨15, ⟨(some 20), .p (.not (.t 19)), some (10, true)⟩, 32767, 0⟩,
⟨16, ⟨(some 21), .p (.pick (.t 10) (.t 20) (.c (.w (.s (.bool false))))), none⟩, 65535, 0⟩]) (.cond g21 (.reg [
oP w22 (pMv g0),
oP w23 (pMv g0),
oP w24 (pGen fun _ t => opNil t (.t 23)),
oP w25 (pFaddr 0 g24),
oR w26 (rLoad none g25),
oP w27 (pGen fun _ t => opNil t (.t 26)),
oP w28 (pFaddr 1 g27),
oP w29 (pFaddr 15 g28),
oR w30 (rLoad none g29),
oCall w31 113 [g22, g30]]) (.skip))) (.seq (.draw [
⟨0, ⟨(some 32), .p (.mv (.t 0)), none⟩, 0, 0⟩,
⟨1, ⟨(some 33), .p (.nilCheck (.t 32)), none⟩, 1, 0⟩,
⟨2, ⟨(some 34), .p (.faddr 0 (.t 33)), none⟩, 3, 0⟩,
⟨3, ⟨(some 35), .r (.load none (.t 34)), none⟩, 7, 0⟩,
⟨4, ⟨(some 36), .p (.nilCheck (.t 35)), none⟩, 15, 0⟩,
⟨5, ⟨(some 37), .p (.faddr 89 (.t 36)), none⟩, 31, 0⟩,
⟨6, ⟨(some 38), .r (.load none (.t 37)), none⟩, 63, 0⟩,
⟨7, ⟨(some 39), .p (.mv (.t 0)), none⟩, 0, 0⟩,
⟨8, ⟨(some 40), .p (.nilCheck (.t 39)), none⟩, 128, 0⟩,
⟨9, ⟨(some 41), .p (.faddr 1 (.t 40)), none⟩, 384, 0⟩,
⟨10, ⟨(some 42), .p (.faddr 20 (.t 41)), none⟩, 896, 0⟩,
⟨11, ⟨(some 43), .r (.load (some 20) (.t 42)), none⟩, 1920, 0⟩,
⟨13, ⟨(some 4), .m (.alloc 24 [zu64, zu64, zu64, zu64]), none⟩, 0, 1024⟩,
⟨12, ⟨(some 44), .b (.call 34 [(.t 38), (.t 43)]), none⟩, 4095, 0⟩,
⟨14, ⟨none, .b (.store 4 (.t 4) (.t 44)), none⟩, 16383, 0⟩]) (.seq (.seq (.draw [
⟨0, ⟨(some 45), .p (.mv (.t 0)), none⟩, 0, 0⟩,
⟨1, ⟨(some 46), .r (.load (some 20) (.t 3)), none⟩, 0, 0⟩,
⟨2, ⟨(some 47), .r (.load (some 4) (.t 4)), none⟩, 0, 0⟩,
⟨3, ⟨(some 48), .p (.build [zu64, zu64, zu64, zu64] []), none⟩, 0, 0⟩,
⟨4, ⟨(some 49), .b (.cmp 1 (.agg (.one (.arr 4 22 .u64))) (.t 47) (.t 48)), none⟩, 12, 0⟩,
⟨5, ⟨(some 50), .b (.call 213 [(.t 45), (.t 46), (.t 49)]), none⟩, 31, 0⟩]) (.cond g50 (.reg [
oP w51 (pMv g0),
oP w52 (pMv g0),
oP w53 (pGen fun _ t => opNil t (.t 52)),
oP w54 (pFaddr 0 g53),
oR w55 (rLoad none g54),
oP w56 (pGen fun _ t => opNil t (.t 55)),
oP w57 (pFaddr 1 g56),
oP w58 (pFaddr 19 g57),
oR w59 (rLoad none g58),
oCall w60 113 [g51, g59]]) (.skip))) (.seq (.seq (.draw [
⟨0, ⟨(some 61), .p (.mv (.t 0)), none⟩, 0, 0⟩,
⟨1, ⟨(some 62), .p (.nilCheck (.t 61)), none⟩, 1, 0⟩,
⟨2, ⟨(some 63), .p (.faddr 0 (.t 62)), none⟩, 3, 0⟩,
⟨3, ⟨(some 64), .r (.load none (.t 63)), none⟩, 7, 0⟩,
⟨4, ⟨(some 65), .p (.nilCheck (.t 64)), none⟩, 15, 0⟩,
⟨5, ⟨(some 66), .p (.faddr 89 (.t 65)), none⟩, 31, 0⟩,
⟨6, ⟨(some 67), .r (.load none (.t 66)), none⟩, 63, 0⟩,
⟨7, ⟨(some 68), .p (.mv (.t 0)), none⟩, 0, 0⟩,
⟨8, ⟨(some 69), .p (.nilCheck (.t 68)), none⟩, 128, 0⟩,
⟨9, ⟨(some 70), .p (.faddr 1 (.t 69)), none⟩, 384, 0⟩,
⟨10, ⟨(some 71), .p (.faddr 20 (.t 70)), none⟩, 896, 0⟩,
⟨11, ⟨(some 72), .r (.load (some 20) (.t 71)), none⟩, 1920, 0⟩,
⟨12, ⟨(some 73), .b (.call 25 [(.t 67), (.t 72)]), none⟩, 4095, 0⟩,
⟨13, ⟨(some 74), .p (.not (.t 73)), none⟩, 8191, 0⟩]) (.cond g74 (.draw [
⟨0, ⟨(some 75), .p (.mv (.t 0)), none⟩, 0, 0⟩,
⟨1, ⟨(some 76), .p (.nilCheck (.t 75)), none⟩, 1, 0⟩,
⟨2, ⟨(some 77), .p (.faddr 0 (.t 76)), none⟩, 3, 0⟩,
⟨3, ⟨(some 78), .r (.load none (.t 77)), none⟩, 7, 0⟩,
⟨4, ⟨(some 79), .p (.nilCheck (.t 78)), none⟩, 15, 0⟩,
⟨5, ⟨(some 80), .p (.faddr 89 (.t 79)), none⟩, 31, 0⟩,
⟨6, ⟨(some 81), .r (.load none (.t 80)), none⟩, 63, 0⟩,
⟨7, ⟨(some 82), .p (.mv (.t 0)), none⟩, 0, 0⟩,
⟨8, ⟨(some 83), .p (.nilCheck (.t 82)), none⟩, 128, 0⟩,
⟨9, ⟨(some 84), .p (.faddr 0 (.t 83)), none⟩, 384, 0⟩,
⟨10, ⟨(some 85), .r (.load none (.t 84)), none⟩, 896, 0⟩,
⟨11, ⟨(some 86), .p (.nilCheck (.t 85)), none⟩, 1920, 0⟩,
⟨12, ⟨(some 87), .p (.faddr 1 (.t 86)), none⟩, 3968, 0⟩,
⟨13, ⟨(some 88), .p (.faddr 20 (.t 87)), none⟩, 8064, 0⟩,
⟨14, ⟨(some 89), .r (.load none (.t 88)), none⟩, 16256, 0⟩,
⟨15, ⟨(some 90), .b (.call 205 [(.t 81), (.t 89)]), none⟩, 32767, 0⟩]) (.skip))) (.seq (.draw [
⟨0, ⟨(some 91), .p (.mv (.t 0)), none⟩, 0, 0⟩,
⟨1, ⟨(some 92), .p (.nilCheck (.t 91)), none⟩, 1, 0⟩,
⟨2, ⟨(some 93), .p (.faddr 0 (.t 92)), none⟩, 3, 0⟩,
⟨3, ⟨(some 94), .r (.load none (.t 93)), none⟩, 7, 0⟩,
⟨4, ⟨(some 95), .p (.nilCheck (.t 94)), none⟩, 15, 0⟩,
⟨5, ⟨(some 96), .p (.faddr 89 (.t 95)), none⟩, 31, 0⟩,
⟨6, ⟨(some 97), .r (.load none (.t 96)), none⟩, 63, 0⟩,
⟨7, ⟨(some 98), .r (.load (some 20) (.t 3)), none⟩, 0, 0⟩,
⟨8, ⟨(some 99), .b (.call 83 [(.t 97), (.t 98)]), none⟩, 255, 0⟩]) (.seq (.seq (.draw [
⟨0, ⟨(some 100), .p (.mv (.t 0)), none⟩, 0, 0⟩,
⟨1, ⟨(some 101), .p (.nilCheck (.t 100)), none⟩, 1, 0⟩,
⟨2, ⟨(some 102), .p (.faddr 0 (.t 101)), none⟩, 3, 0⟩,
⟨3, ⟨(some 103), .r (.load none (.t 102)), none⟩, 7, 0⟩,
⟨4, ⟨(some 104), .b (.call 66 [(.t 103), (.c (.w (.s (ni64 15))))]), none⟩, 15, 0⟩,
⟨5, ⟨(some 105), .p (.mv (.t 104)), none⟩, 31, 0⟩,
⟨6, ⟨(some 106), .p (.mv (.t 0)), some (105, true)⟩, 63, 0⟩,
⟨7, ⟨(some 107), .p (.nilCheck (.t 106)), some (105, true)⟩, 127, 0⟩,
⟨8, ⟨(some 108), .p (.faddr 0 (.t 107)), some (105, true)⟩, 255, 0⟩,
⟨9, ⟨(some 109), .r (.load none (.t 108)), some (105, true)⟩, 511, 0⟩,
⟨10, ⟨(some 110), .p (.nilCheck (.t 109)), some (105, true)⟩, 1023, 0⟩,
⟨11, ⟨(some 111), .p (.faddr 89 (.t 110)), some (105, true)⟩, 2047, 0⟩,
⟨12, ⟨(some 112), .r (.load none (.t 111)), some (105, true)⟩, 4095, 0⟩,
⟨13, ⟨(some 113), .p (.mv (.t 0)), some (105, true)⟩, 63, 0⟩,
⟨14, ⟨(some 114), .p (.nilCheck (.t 113)), some (105, true)⟩, 8255, 0⟩,
⟨15, ⟨(some 115), .p (.faddr 1 (.t 114)), some (105, true)⟩, 24639, 0⟩,
⟨16, ⟨(some 116), .p (.faddr 20 (.t 115)), some (105, true)⟩, 57407, 0⟩,
⟨17, ⟨(some 117), .r (.load (some 20) (.t 116)), some (105, true)⟩, 122943, 0⟩,
⟨18, ⟨(some 118), .b (.call 214 [(.t 112), (.t 117)]), some (105, true)⟩, 262143, 0⟩,
⟨19, ⟨(some 119), .p (.not (.t 118)), some (105, true)⟩, 524287, 0⟩,
⟨20, ⟨(some 120), .p (.pick (.t 105) (.t 119) (.c (.w (.s (.bool false))))), none⟩, 1048575, 0⟩]) (.cond g120 (.draw [
⟨0, ⟨(some 121), .p (.mv (.t 0)), none⟩, 0, 0⟩,
⟨1, ⟨(some 122), .p (.nilCheck (.t 121)), none⟩, 1, 0⟩,
⟨2, ⟨(some 123), .p (.faddr 0 (.t 122)), none⟩, 3, 0⟩,
⟨3, ⟨(some 124), .r (.load none (.t 123)), none⟩, 7, 0⟩,
⟨4, ⟨(some 125), .p (.mv (.t 0)), none⟩, 0, 0⟩,
⟨5, ⟨(some 126), .p (.nilCheck (.t 125)), none⟩, 16, 0⟩,
⟨6, ⟨(some 127), .p (.faddr 1 (.t 126)), none⟩, 48, 0⟩,
⟨7, ⟨(some 128), .p (.faddr 20 (.t 127)), none⟩, 112, 0⟩,
⟨8, ⟨(some 129), .r (.load (some 20) (.t 128)), none⟩, 240, 0⟩,
⟨9, ⟨(some 130), .r (.load (some 20) (.t 3)), none⟩, 0, 0⟩,
⟨10, ⟨(some 131), .r (.load (some 4) (.t 4)), none⟩, 0, 0⟩,
⟨11, ⟨(some 132), .b (.call 71 [(.t 124), (.t 129), (.t 130), (.t 131)]), none⟩, 2047, 0⟩]) (.seq (.draw [
⟨0, ⟨(some 133), .p (.mv (.t 0)), none⟩, 0, 0⟩,
⟨1, ⟨(some 134), .p (.nilCheck (.t 133)), none⟩, 1, 0⟩,
⟨2, ⟨(some 135), .p (.faddr 0 (.t 134)), none⟩, 3, 0⟩,
⟨3, ⟨(some 136), .r (.load none (.t 135)), none⟩, 7, 0⟩,
⟨4, ⟨(some 137), .p (.mv (.t 0)), none⟩, 0, 0⟩,
⟨5, ⟨(some 138), .p (.nilCheck (.t 137)), none⟩, 16, 0⟩,
⟨6, ⟨(some 139), .p (.faddr 1 (.t 138)), none⟩, 48, 0⟩,
⟨7, ⟨(some 140), .p (.faddr 20 (.t 139)), none⟩, 112, 0⟩,
⟨8, ⟨(some 141), .r (.load (some 20) (.t 140)), none⟩, 240, 0⟩,
⟨9, ⟨(some 142), .r (.load (some 20) (.t 3)), none⟩, 0, 0⟩,
⟨10, ⟨(some 143), .r (.load (some 4) (.t 4)), none⟩, 0, 0⟩,
⟨11, ⟨(some 144), .b (.call 71 [(.t 136), (.t 141), (.t 142), (.t 143)]), none⟩, 2047, 0⟩]) (.seq (.draw [
⟨0, ⟨(some 145), .p (.mv (.t 0)), none⟩, 0, 0⟩,
⟨1, ⟨(some 146), .p (.nilCheck (.t 145)), none⟩, 1, 0⟩,
⟨2, ⟨(some 147), .p (.faddr 0 (.t 146)), none⟩, 3, 0⟩,
⟨3, ⟨(some 148), .r (.load none (.t 147)), none⟩, 7, 0⟩,
⟨4, ⟨(some 149), .p (.nilCheck (.t 148)), none⟩, 15, 0⟩,
⟨5, ⟨(some 150), .p (.faddr 89 (.t 149)), none⟩, 31, 0⟩,
⟨6, ⟨(some 151), .r (.load none (.t 150)), none⟩, 63, 0⟩,
⟨7, ⟨(some 152), .p (.mv (.t 0)), none⟩, 0, 0⟩,
⟨8, ⟨(some 153), .p (.nilCheck (.t 152)), none⟩, 128, 0⟩,
⟨9, ⟨(some 154), .p (.faddr 1 (.t 153)), none⟩, 384, 0⟩,
⟨10, ⟨(some 155), .p (.faddr 20 (.t 154)), none⟩, 896, 0⟩,
⟨11, ⟨(some 156), .r (.load (some 20) (.t 155)), none⟩, 1920, 0⟩,
⟨12, ⟨(some 157), .p (.build [zu64, zu64, zu64, zu64] []), none⟩, 0, 0⟩,
⟨13, ⟨(some 158), .b (.call 93 [(.t 151), (.t 156), (.t 157)]), none⟩, 8191, 0⟩]) (.draw [
⟨0, ⟨(some 159), .p (.mv (.t 0)), none⟩, 0, 0⟩,
⟨1, ⟨(some 160), .p (.nilCheck (.t 159)), none⟩, 1, 0⟩,
⟨2, ⟨(some 161), .p (.faddr 0 (.t 160)), none⟩, 3, 0⟩,
⟨3, ⟨(some 162), .r (.load none (.t 161)), none⟩, 7, 0⟩,
⟨4, ⟨(some 163), .p (.nilCheck (.t 162)), none⟩, 15, 0⟩,
⟨5, ⟨(some 164), .p (.faddr 89 (.t 163)), none⟩, 31, 0⟩,
⟨6, ⟨(some 165), .r (.load none (.t 164)), none⟩, 63, 0⟩,
⟨7, ⟨(some 166), .p (.mv (.t 0)), none⟩, 0, 0⟩,
⟨8, ⟨(some 167), .p (.nilCheck (.t 166)), none⟩, 128, 0⟩,
⟨9, ⟨(some 168), .p (.faddr 1 (.t 167)), none⟩, 384, 0⟩,
⟨10, ⟨(some 169), .p (.faddr 20 (.t 168)), none⟩, 896, 0⟩,
⟨11, ⟨(some 170), .r (.load (some 20) (.t 169)), none⟩, 1920, 0⟩,
⟨12, ⟨(some 171), .b (.call 215 [(.t 165), (.t 170)]), none⟩, 4095, 0⟩]))))) (.reg [
oP w172 (pMv g0),
oCall w173 145 [g172, (gC (.w (.s (zi64)))), (gC (.w (.s (.nils))))]])))))))⟩
theorem fp175 : ∃ fn, fb175 = denF fn ∧ ∃ func code hint, FnOk Go.Proofs.Tryz.prog TT 175 fn func code hint := f2_mk (func := Go.Proofs.Tryz.f175) (code := bodyOf Go.Proofs.Tryz.f175) (hint := hintL [(1, [(0, 0), (1, 0), (2, 0), (3, 0), (4, 0), (5, 0), (6, 0), (7, 0), (8, 0), (9, 0), (10, 0), (11, 0), (12, 0), (13, 0), (14, 0), (15, 0), (16, 0)]), (3, [(0, 0), (1, 0), (2, 0), (3, 0), (4, 0), (5, 0), (6, 0), (7, 0), (8, 0), (9, 0), (10, 0), (11, 0), (13, 1024), (12, 0), (14, 0)]), (4, [(0, 0), (1, 0), (2, 0), (3, 0), (4, 0), (5, 0)]), (6, [(0, 0), (1, 0), (2, 0), (3, 0), (4, 0), (5, 0), (6, 0), (7, 0), (8, 0), (9, 0), (10, 0), (11, 0), (12, 0), (13, 0)]), (7, [(0, 0), (1, 0), (2, 0), (3, 0), (4, 0), (5, 0), (6, 0), (7, 0), (8, 0), (9, 0), (10, 0), (11, 0), (12, 0), (13, 0), (14, 0), (15, 0)]), (8, [(0, 0), (1, 0), (2, 0), (3, 0), (4, 0), (5, 0), (6, 0), (7, 0), (8, 0)]), (9, [(0, 0), (1, 0), (2, 0), (3, 0), (4, 0), (5, 0), (6, 0), (7, 0), (8, 0), (9, 0), (10, 0), (11, 0), (12, 0), (13, 0), (14, 0), (15, 0), (16, 0), (17, 0), (18, 0), (19, 0), (20, 0)]), (10, [(0, 0), (1, 0), (2, 0), (3, 0), (4, 0), (5, 0), (6, 0), (7, 0), (8, 0), (9, 0), (10, 0), (11, 0)]), (11, [(0, 0), (1, 0), (2, 0), (3, 0), (4, 0), (5, 0), (6, 0), (7, 0), (8, 0), (9, 0), (10, 0), (11, 0)]), (12, [(0, 0), (1, 0), (2, 0), (3, 0), (4, 0), (5, 0), (6, 0), (7, 0), (8, 0), (9, 0), (10, 0), (11, 0), (12, 0), (13, 0)]), (13, [(0, 0), (1, 0), (2, 0), (3, 0), (4, 0), (5, 0), (6, 0), (7, 0), (8, 0), (9, 0), (10, 0), (11, 0), (12, 0)])]) (n := 174) (res := []) Go.Proofs.Tryz.func175 Go.Proofs.Tryz.call175 (by kernel_rfl) (by kernel_rfl) (by kernel_rfl) (by kernel_rfl) (by kernel_rfl)
end
end Go.Sy
