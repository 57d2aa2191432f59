/- Functions. -/
import Derived.Test.YtnfoaablgldjcaaGreatGSl
set_option linter.unusedVariables false
set_option maxRecDepth 100000
set_option maxHeartbeats 0
namespace Go.Sy
noncomputable section
/- quarry/quarrylaw19.VmGives -/
def fb5 : AFunc2 := ⟨127, [.tmp g2], .seq (.reg [
oBox w1 27 g0,
oP w2 (pMv (gC (.w (.s (.bool false)))))]) (.seq (.reg [
oR w21 (rLoad (some 11) g1),
oCall w22 8 [g21],
oP w3 (pMv g22)]) (.seq (.reg [
oCall w24 9 [],
oP w23 (pMv g24),
oP w25 (pExt g23 0),
oP w26 (pExt g23 1),
oP w27 (pExt g23 2),
oAlloc w4 30 zz0,
oAlloc w5 30 zz0,
oAlloc w6 30 zz0,
oK wZ (bSt 20 g4 g25),
oK wZ (bSt 20 g5 g26),
oK wZ (bSt 20 g6 g27)]) (.seq (.reg [
oR w28 (rLoad (some 11) g1),
oCall w29 20 [g28, (gC (.w (.s (ni64 3))))],
oP w30 (pConv .u64 g29),
oCall w31 26 [g30],
oAlloc w7 24 [zu64, zu64, zu64, zu64],
oK wZ (bSt 4 g7 g31)]) (.seq (.reg [
oP w32 (pFaddr 2 g1),
oP w33 (pIaddrA 4 1 g32 (gC (.w (.s (zi64))))),
oR w34 (rLoad none g33),
oP w35 (pGen fun φ t => opMd φ t (.t 34) (.c (.w (.s (nu64 3))))),
oCall w36 26 [g35],
oAlloc w8 24 [zu64, zu64, zu64, zu64],
oK wZ (bSt 4 g8 g36)]) (.seq (.reg [
oR w37 (rLoad (some 4) g8),
oCall w38 14 [g37],
oCall w39 13 [(gC (.w (.s (zi64))))],
oM w40 (.bslice 5 1 [zu8] [(0, 1, (.c (.w (.s (nu8 85)))))]),
oM w41 (.bslice 25 3 [.nils] [(0, 1, (.t 38)), (1, 1, (.t 39)), (2, 1, (.t 40))]),
oCall w42 11 [g41],
oP w9 (pMv g42)]) (.seq (.reg [
oR w43 (rLoad (some 20) g4),
oP w44 (pMv g9),
oP w45 (pBuild [zu8, zu8, zu8, zu8, zu8, zu8, zu8, zu8, zu8, zu8, zu8, zu8, zu8, zu8, zu8, zu8, zu8, zu8, zu8, zu8, zu64, zu64, zu64, zu64, zu64, .nils, .nils] [(0, 20, g43), (20, 1, (gC (.w (.s (nu64 1))))), (25, 1, g44)]),
oAlloc w10 63 [zu8, zu8, zu8, zu8, zu8, zu8, zu8, zu8, zu8, zu8, zu8, zu8, zu8, zu8, zu8, zu8, zu8, zu8, zu8, zu8, zu64, zu64, zu64, zu64, zu64, .nils, .nils],
oK wZ (bSt 27 g10 g45)]) (.seq (.reg [
oP w46 (pFaddr 26 g10),
oR w47 (rLoad none g46),
oR w48 (rLoad (some 4) g7),
oP w49 (pBuild [zu64, zu64, zu64, zu64, zu64, zu64, zu64, zu64] [(4, 4, g48)]),
oM w50 (.bslice 65 1 [zu64, zu64, zu64, zu64, zu64, zu64, zu64, zu64] [(0, 8, (.t 49))]),
oK w51 (b2 (bAppend 65 8 64) g47 g50),
oP w52 (pFaddr 26 g10),
oK wZ (bSt 1 g52 g51)]) (.seq (.reg [
oR w54 (rLoad (some 27) g10),
oR w55 (rLoad (some 20) g5),
oP w56 (pBuild [zu8, zu8, zu8, zu8, zu8, zu8, zu8, zu8, zu8, zu8, zu8, zu8, zu8, zu8, zu8, zu8, zu8, zu8, zu8, zu8, zu64, zu64, zu64, zu64, zu64, .nils, .nils] [(0, 20, g55), (20, 1, (gC (.w (.s (nu64 1)))))]),
oM w57 (.bslice 63 2 [zu8, zu8, zu8, zu8, zu8, zu8, zu8, zu8, zu8, zu8, zu8, zu8, zu8, zu8, zu8, zu8, zu8, zu8, zu8, zu8, zu64, zu64, zu64, zu64, zu64, .nils, .nils] [(0, 27, (.t 54)), (27, 27, (.t 56))]),
oCall w58 27 [g57],
oP w53 (pMv g58),
oP w59 (pExt g53 0),
oP w60 (pExt g53 1),
oP w11 (pMv g59),
oP w12 (pMv g60)]) (.seq (.seq (.reg [
oP w61 (pMv g11),
oK w62 (b2 (fun x y s K => cmpA 0 .ptr x y s fun b s => K (vBool b) s) g61 (gC (.w (.s (.nilp))))),
oP w63 (pMv g62),
oGd g63 false w64 (oCall w64 18 []),
oGd g63 false w65 (oP w65 (pNot g64)),
oP w66 (pGen fun _ t => opPick t (.t 63) (.c (.w (.s (.bool true)))) (.t 65))]) (.cond g66 (.seq (.reg [
oP w2 (pMv (gC (.w (.s (.bool false)))))]) (.ret)) (.skip))) (.seq (.reg [
oP w68 (pMv g3),
oP w69 (pBuild [zu8, zu8, zu8, zu8, zu8, zu8, zu8, zu8, zu8, zu8, zu8, zu8, zu8, zu8, zu8, zu8, zu8, zu8, zu8, zu8, zu64, zu64, zu64, zu64, zu64, zu64, zu64, zu64, zu64, zu64, zu64, zu64, zu64, zu64, zu64, zu64, .nils] []),
oP w70 (pBuild [zu8, zu8, zu8, zu8, zu8, zu8, zu8, zu8, zu8, zu8, zu8, zu8, zu8, zu8, zu8, zu8, zu8, zu8, zu8, zu8, zu64, zu64, zu64, zu64, .nils] []),
oP w71 (pMv g11),
oR w72 (rLoad (some 20) g5),
oR w73 (rLoad (some 20) g4),
oP w74 (pBuild [.bool false, zu8, zu8, zu8, zu8, zu8, zu8, zu8, zu8, zu8, zu8, zu8, zu8, zu8, zu8, zu8, zu8, zu8, zu8, zu8, zu8, zu8, zu8, zu8, zu8, zu8, zu8, zu8, zu8, zu8, zu8, zu8, zu8, zu8, zu8, zu8, zu8, zu8, zu8, zu8, zu8, zu64, zu64, zu64, zu64, .nils, zu64, .bool false, zi64] [(1, 20, g72), (21, 20, g73), (46, 1, (gC (.w (.s (nu64 100000)))))]),
oCall w75 28 [g68, g69, g70, g71, g74],
oP w67 (pMv g75),
oP w76 (pExt g67 0),
oP w77 (pExt g67 1),
oAlloc w13 39 [zi64, .nils, zu64, zu8, zu8, zu8, zu8, zu8, zu8, zu8, zu8, zu8, zu8, zu8, zu8, zu8, zu8, zu8, zu8, zu8, zu8, zu8, zu8, zu64],
oK wZ (bSt 24 g13 g76),
oP w14 (pMv g77)]) (.seq (.reg [
oP w79 (pMv g3),
oCall w80 16 [g79],
oP w78 (pMv g80),
oP w81 (pExt g78 0),
oP w82 (pExt g78 1),
oAlloc w15 44 [zi64, zu64, zu64, zu64, zu64, zu64, zu64, zu64, zi64, zi64, zu64, zu64, zu64, zu64, zu64, zu64, zu64, zu64, zu64, zu64, zu64, zu64, zu64, zu64, zu64, zu64],
oK wZ (bSt 26 g15 g81),
oP w16 (pMv g82)]) (.seq (.reg [
oR w84 (rLoad (some 26) g15),
oR w85 (rLoad (some 4) g7),
oR w86 (rLoad (some 4) g7),
oR w87 (rLoad (some 4) g8),
oP w88 (pBuild [zu64, zu64, zu64, zu64, zu64, zu64, zu64, zu64, zu64, zu64, zu64, zu64, .bool false, zu64] [(0, 4, g85), (4, 4, g86), (8, 4, g87), (13, 1, (gC (.w (.s (nu64 99994)))))]),
oCall w89 29 [g84, g88],
oP w83 (pMv g89),
oP w90 (pExt g83 0),
oP w91 (pExt g83 1),
oP w92 (pExt g83 2),
oP w93 (pExt g83 3),
oP w17 (pMv g90),
oP w18 (pMv g91),
oP w19 (pMv g92),
oP w20 (pMv g93)]) (.seq (.draw [
⟨0, ⟨(some 94), .p (.mv (.t 14)), none⟩, 0, 0⟩,
⟨1, ⟨(some 95), .b (.cmp 0 .int (.t 94) (.c (.w (.s (zi64))))), none⟩, 1, 0⟩,
⟨2, ⟨(some 96), .p (.mv (.t 95)), none⟩, 3, 0⟩,
⟨3, ⟨(some 97), .p (.mv (.t 20)), some (96, true)⟩, 7, 0⟩,
⟨4, ⟨(some 98), .p (.pick (.t 96) (.t 97) (.c (.w (.s (.bool false))))), none⟩, 15, 0⟩,
⟨5, ⟨(some 99), .p (.mv (.t 98)), none⟩, 31, 0⟩,
⟨6, ⟨(some 100), .p (.faddr 0 (.t 13)), some (99, true)⟩, 63, 0⟩,
⟨7, ⟨(some 101), .r (.load none (.t 100)), some (99, true)⟩, 127, 0⟩,
⟨8, ⟨(some 102), .b (.cmp 0 .int (.t 101) (.c (.w (.s (zi64))))), some (99, true)⟩, 255, 0⟩,
⟨9, ⟨(some 103), .p (.pick (.t 99) (.t 102) (.c (.w (.s (.bool false))))), none⟩, 511, 0⟩,
⟨10, ⟨(some 104), .p (.mv (.t 103)), none⟩, 1023, 0⟩,
⟨11, ⟨(some 105), .p (.faddr 2 (.t 13)), some (104, true)⟩, 2047, 0⟩,
⟨12, ⟨(some 106), .r (.load none (.t 105)), some (104, true)⟩, 4095, 0⟩,
⟨13, ⟨(some 107), .p (.mv (.t 17)), some (104, true)⟩, 2047, 0⟩,
⟨14, ⟨(some 108), .p (.ar 1 (.c (.w (.s (nu64 99994)))) (.t 107)), some (104, true)⟩, 10239, 0⟩,
⟨15, ⟨(some 109), .b (.cmp 0 .int (.t 106) (.t 108)), some (104, true)⟩, 32767, 0⟩,
⟨16, ⟨(some 110), .p (.pick (.t 104) (.t 109) (.c (.w (.s (.bool false))))), none⟩, 65535, 0⟩,
⟨17, ⟨(some 111), .p (.mv (.t 110)), none⟩, 131071, 0⟩,
⟨18, ⟨(some 112), .p (.mv (.t 11)), some (111, true)⟩, 262143, 0⟩,
⟨20, ⟨(some 114), .p (.mv (.t 18)), some (111, true)⟩, 262143, 0⟩,
⟨21, ⟨(some 115), .p (.mv (.t 19)), some (111, true)⟩, 262143, 0⟩,
⟨22, ⟨(some 116), .p (.ar 1 (.t 114) (.t 115)), some (111, true)⟩, 3407871, 0⟩,
⟨19, ⟨(some 113), .b (.call 30 [(.t 112)]), some (111, true)⟩, 524287, 0⟩,
⟨23, ⟨(some 117), .b (.cmp 0 .int (.t 113) (.t 116)), some (111, true)⟩, 8388607, 0⟩,
⟨24, ⟨(some 118), .p (.pick (.t 111) (.t 117) (.c (.w (.s (.bool false))))), none⟩, 16777215, 0⟩,
⟨25, ⟨(some 119), .p (.mv (.t 118)), none⟩, 33554431, 0⟩,
⟨26, ⟨(some 120), .p (.mv (.t 11)), some (119, true)⟩, 67108863, 0⟩,
⟨27, ⟨(some 121), .r (.load (some 20) (.t 4)), some (119, true)⟩, 67108863, 0⟩,
⟨28, ⟨(some 122), .p (.build [zu64, zu64, zu64, zu64] []), some (119, true)⟩, 67108863, 0⟩,
⟨30, ⟨(some 124), .r (.load (some 4) (.t 8)), some (119, true)⟩, 67108863, 0⟩,
⟨29, ⟨(some 123), .b (.call 31 [(.t 120), (.t 121), (.t 122)]), some (119, true)⟩, 536870911, 0⟩,
⟨31, ⟨(some 125), .b (.cmp 0 (.agg (.one (.arr 4 22 .u64))) (.t 123) (.t 124)), some (119, true)⟩, 2147483647, 0⟩,
⟨32, ⟨(some 126), .p (.pick (.t 119) (.t 125) (.c (.w (.s (.bool false))))), none⟩, 4294967295, 0⟩,
⟨33, ⟨(some 2), .p (.mv (.t 126)), none⟩, 8589934591, 0⟩]) (.ret))))))))))))))⟩
theorem fp5 : ∃ fn, fb5 = denF fn ∧ ∃ func code hint, FnOk Go.Proofs.Tryz.prog TT 5 fn func code hint := f2_mk (func := Go.Proofs.Tryz.f5) (code := bodyOf Go.Proofs.Tryz.f5) (hint := hintL [(14, [(0, 0), (1, 0), (2, 0), (3, 0), (4, 0), (5, 0), (6, 0), (7, 0), (8, 0), (9, 0), (10, 0), (11, 0), (12, 0), (13, 0), (14, 0), (15, 0), (16, 0), (17, 0), (18, 0), (20, 0), (21, 0), (22, 0), (19, 0), (23, 0), (24, 0), (25, 0), (26, 0), (27, 0), (28, 0), (30, 0), (29, 0), (31, 0), (32, 0), (33, 0)])]) (n := 127) (res := [.tmp 2]) Go.Proofs.Tryz.func5 Go.Proofs.Tryz.call5 (by kernel_rfl) (by kernel_rfl) (by kernel_rfl) (by kernel_rfl) (by kernel_rfl)
/- quarry/quarrylaw19.VmThere -/
def fb7 : AFunc2 := ⟨75, [.tmp g2], .seq (.reg [
oBox w1 27 g0,
oP w2 (pMv (gC (.w (.s (.bool false)))))]) (.seq (.reg [
oR w12 (rLoad (some 11) g1),
oCall w13 8 [g12],
oP w3 (pMv g13)]) (.seq (.reg [
oR w14 (rLoad (some 11) g1),
oCall w15 20 [g14, (gC (.w (.s (ni64 256))))],
oP w4 (pMv g15)]) (.seq (.reg [
oP w5 (pMv (gC (.w (.s (.nils)))))]) (.seq (.seq (.reg [
oP w6 (pMv (gC (.w (.s (zi64)))))]) (.block 0 (.loop (.seq (.seq (.reg [
oP w16 (pMv g6),
oK w17 (bCmp 2 lLt cGe true g16 (gC (.w (.s (ni64 20)))))]) (.cond g17 (.skip) (.exit 0))) (.seq (.block 1 (.reg [
oP w20 (pMv g5),
oM w21 (.bslice 5 2 [zu8] [(0, 1, (.c (.w (.s (nu8 96))))), (1, 1, (.c (.w (.s (nu8 1)))))]),
oK w22 (b2 (bAppend 5 1 1) g20 g21),
oP w5 (pMv g22)])) (.reg [
oP w18 (pMv g6),
oP w19 (pAr 0 g18 (gC (.w (.s (ni64 1))))),
oP w6 (pMv g19)])))))) (.seq (.reg [
oP w24 (pMv g3),
oP w25 (pMv g5),
oP w26 (pMv g4),
oP w27 (pConv .u8 g26),
oM w28 (.bslice 5 1 [zu8] [(0, 1, (.t 27))]),
oK w29 (b2 (bAppend 5 1 1) g25 g28),
oP w30 (pBuild [zu64, zu64, zu64, zu64] []),
oCall w31 15 [g24, g29, (gC (.w (.s (.nils)))), (gC (.w (.s (.nils)))), g30, (gC (.w (.s (nu64 100000))))],
oP w23 (pMv g31),
oP w32 (pExt g23 0),
oP w33 (pExt g23 1),
oAlloc w7 39 [zi64, .nils, zu64, zu8, zu8, zu8, zu8, zu8, zu8, zu8, zu8, zu8, zu8, zu8, zu8, zu8, zu8, zu8, zu8, zu8, zu8, zu8, zu8, zu64],
oK wZ (bSt 24 g7 g32),
oP w8 (pMv g33)]) (.seq (.seq (.reg [
oP w34 (pMv g8),
oK w35 (b2 (fun x y s K => cmpA 0 .ptr x y s fun b s => K (vBool b) s) g34 (gC (.w (.s (.nilp))))),
oP w36 (pMv g35),
oGd g36 false w37 (oCall w37 18 []),
oGd g36 false w38 (oP w38 (pNot g37)),
oP w39 (pGen fun _ t => opPick t (.t 36) (.c (.w (.s (.bool true)))) (.t 38))]) (.cond g39 (.seq (.reg [
oP w2 (pMv (gC (.w (.s (.bool false)))))]) (.ret)) (.skip))) (.seq (.reg [
oP w41 (pMv g3),
oP w42 (pMv g4),
oCall w43 36 [g41, g42],
oP w40 (pMv g43),
oP w44 (pExt g40 0),
oP w45 (pExt g40 1),
oP w46 (pExt g40 2),
oP w9 (pMv g44),
oP w10 (pMv g45),
oP w11 (pMv g46)]) (.seq (.seq (.reg [
oP w47 (pMv g11),
oP w48 (pNot g47)]) (.cond g48 (.seq (.reg [
oP w49 (pFaddr 0 g7),
oR w50 (rLoad none g49),
oK w51 (bCmp 0 intEq .eq false g50 (gC (.w (.s (ni64 2))))),
oP w52 (pMv g51),
oGd g52 true w53 (oP w53 (pFaddr 2 g7)),
oGd g52 true w54 (oR w54 (rLoad none g53)),
oGd g52 true w55 (oK w55 (bCmp 0 intEq .eq false g54 (gC (.w (.s (zu64)))))),
oP w56 (pGen fun _ t => opPick t (.t 52) (.t 55) (.c (.w (.s (.bool false))))),
oP w2 (pMv g56)]) (.ret)) (.skip))) (.seq (.seq (.reg [
oP w57 (pMv g4),
oK w58 (bCmp 2 lLt cGe true g57 (gC (.w (.s (ni64 32))))),
oP w59 (pMv g58),
oGd g59 false w60 (oP w60 (pMv g4)),
oGd g59 false w61 (oK w61 (bCmp 5 gLe cGe false g60 (gC (.w (.s (ni64 95)))))),
oGd g59 false w62 (oP w62 (pMv g61)),
oGd g62 true w63 (oP w63 (pMv g4)),
oGd g62 true w64 (oK w64 (bCmp 2 lLt cGe true g63 (gC (.w (.s (ni64 160)))))),
oGd g59 false w65 (oP w65 (pGen fun _ t => opPick t (.t 62) (.t 64) (.c (.w (.s (.bool false)))))),
oP w66 (pGen fun _ t => opPick t (.t 59) (.c (.w (.s (.bool true)))) (.t 65))]) (.cond g66 (.seq (.reg [
oP w67 (pFaddr 0 g7),
oR w68 (rLoad none g67),
oK w69 (bCmp 0 intEq .eq false g68 (gC (.w (.s (zi64))))),
oP w70 (pMv g69),
oGd g70 true w71 (oP w71 (pFaddr 23 g7)),
oGd g70 true w72 (oR w72 (rLoad none g71)),
oGd g70 true w73 (oK w73 (bCmp 5 gLe cGe false g72 (gC (.w (.s (nu64 20)))))),
oP w74 (pGen fun _ t => opPick t (.t 70) (.t 73) (.c (.w (.s (.bool false))))),
oP w2 (pMv g74)]) (.ret)) (.skip))) (.seq (.reg [
oP w2 (pMv (gC (.w (.s (.bool true)))))]) (.ret)))))))))))⟩
theorem fp7 : ∃ fn, fb7 = denF fn ∧ ∃ func code hint, FnOk Go.Proofs.Tryz.prog TT 7 fn func code hint := f2_mk (func := Go.Proofs.Tryz.f7) (code := bodyOf Go.Proofs.Tryz.f7) (hint := hintL []) (n := 75) (res := [.tmp 2]) Go.Proofs.Tryz.func7 Go.Proofs.Tryz.call7 (by kernel_rfl) (by kernel_rfl) (by kernel_rfl) (by kernel_rfl) (by kernel_rfl)
/- (quarry/quarrylaw19.Small).fork -/
def fb8 : AFunc2 := ⟨8, [.tmp g2], .seq (.reg [
oBox w1 27 g0,
oP w2 (pMv (gC (.w (.s (zi64)))))]) (.seq (.reg [
oP w3 (pFaddr 0 g1),
oR w4 (rLoad none g3),
oP w5 (pGen fun φ t => opMd φ t (.t 4) (.c (.w (.s (ni64 16))))),
oP w6 (pAr 0 g5 (gC (.w (.s (ni64 16))))),
oP w7 (pGen fun φ t => opMd φ t (.t 6) (.c (.w (.s (ni64 16))))),
oP w2 (pMv g7)]) (.ret))⟩
theorem fp8 : ∃ fn, fb8 = denF fn ∧ ∃ func code hint, FnOk Go.Proofs.Tryz.prog TT 8 fn func code hint := f2_mk (func := Go.Proofs.Tryz.f8) (code := bodyOf Go.Proofs.Tryz.f8) (hint := hintL []) (n := 8) (res := [.tmp 2]) Go.Proofs.Tryz.func8 Go.Proofs.Tryz.call8 (by kernel_rfl) (by kernel_rfl) (by kernel_rfl) (by kernel_rfl) (by kernel_rfl)
def fa8 : AFunc := ⟨8, [.tmp 2], .seq (.reg [
⟨(some 1), .m (.box 27 (.t 0)), none⟩,
⟨(some 2), .p (.mv (.c (.w (.s (zi64))))), none⟩]) (.seq (.reg [
⟨(some 3), .p (.faddr 0 (.t 1)), none⟩,
⟨(some 4), .r (.load none (.t 3)), none⟩,
⟨(some 5), .p (.md (.t 4) (.c (.w (.s (ni64 16))))), none⟩,
⟨(some 6), .p (.ar 0 (.t 5) (.c (.w (.s (ni64 16))))), none⟩,
⟨(some 7), .p (.md (.t 6) (.c (.w (.s (ni64 16))))), none⟩,
⟨(some 2), .p (.mv (.t 7)), none⟩]) (.ret))⟩
theorem fo8 : ∃ func code hint, FnOk Go.Proofs.Tryz.prog TT 8 fa8 func code hint := ⟨Go.Proofs.Tryz.f8, bodyOf Go.Proofs.Tryz.f8, hintL [], ⟨Go.Proofs.Tryz.func8, Go.Proofs.Tryz.call8, by kernel_rfl, by kernel_rfl, by kernel_rfl, by kernel_rfl⟩⟩
/- quarry/quarrylaw19.who -/
def fb9 : AFunc2 := ⟨6, [.cell (rLoad (some 20) g0), .cell (rLoad (some 20) g1), .cell (rLoad (some 20) g2)], .seq (.reg [
oAlloc w0 30 zz0,
oAlloc w1 30 zz0,
oAlloc w2 30 zz0]) (.seq (.reg [
oP w3 (pBuild zz0 [(0, 1, (gC (.w (.s (nu8 170)))))]),
oP w4 (pBuild zz0 [(0, 1, (gC (.w (.s (nu8 187)))))]),
oP w5 (pBuild zz0 [(0, 1, (gC (.w (.s (nu8 204)))))]),
oK wZ (bSt 20 g0 g3),
oK wZ (bSt 20 g1 g4),
oK wZ (bSt 20 g2 g5)]) (.ret))⟩
theorem fp9 : ∃ fn, fb9 = denF fn ∧ ∃ func code hint, FnOk Go.Proofs.Tryz.prog TT 9 fn func code hint := f2_mk (func := Go.Proofs.Tryz.f9) (code := bodyOf Go.Proofs.Tryz.f9) (hint := hintL []) (n := 6) (res := [.cell 0 (some 20), .cell 1 (some 20), .cell 2 (some 20)]) Go.Proofs.Tryz.func9 Go.Proofs.Tryz.call9 (by kernel_rfl) (by kernel_rfl) (by kernel_rfl) (by kernel_rfl) (by kernel_rfl)
/- quarry/word.From -/
def fb10 : AFunc2 := ⟨38, [.cell (rLoad (some 4) g2), .tmp g3], .seq (.reg [
oAlloc w2 24 [zu64, zu64, zu64, zu64],
oP w3 (pMv (gC (.w (.s (.bool false)))))]) (.seq (.seq (.reg [
oP w8 (pMv g0),
oP w9 (pGen fun _ t => opLen t (.t 8)),
oK w10 (bCmp 4 nLe .le true g9 (gC (.w (.s (ni64 32)))))]) (.cond g10 (.seq (.reg [
oP w11 (pBuild [zu64, zu64, zu64, zu64] []),
oK wZ (bSt 4 g2 g11),
oP w3 (pMv (gC (.w (.s (.bool false)))))]) (.ret)) (.skip))) (.seq (.reg [
oAlloc w4 24 [zu64, zu64, zu64, zu64]]) (.seq (.seq (.reg [
oP w12 (pMv g0),
oP w13 (pGen fun _ t => opLen t (.t 12)),
oP w14 (pMv (gC (.w (.s (zi64)))))]) (.block 0 (.loop (.seq (.reg [
oK w15 (bCmp 2 lLt cGe true g14 g13)]) (.seq (.cond g15 (.skip) (.exit 0)) (.seq (.block 1 (.seq (.reg [
oP w16 (pMv g14),
oP w17 (pIaddrS 1 g12 g14),
oR w18 (rLoad none g17),
oP w5 (pMv g16),
oP w6 (pMv g18)]) (.seq (.reg [
oP w19 (pMv g0),
oP w20 (pGen fun _ t => opLen t (.t 19)),
oP w21 (pAr 1 g20 (gC (.w (.s (ni64 1))))),
oP w22 (pMv g5),
oP w23 (pAr 1 g21 g22),
oP w7 (pMv g23)]) (.draw [
⟨0, ⟨(some 24), .p (.mv (.t 7)), none⟩, 0, 0⟩,
⟨1, ⟨(some 25), .p (.dv (.t 24) (.c (.w (.s (ni64 8))))), none⟩, 1, 0⟩,
⟨2, ⟨(some 26), .p (.iaddrA 4 1 (.t 4) (.t 25)), none⟩, 3, 0⟩,
⟨3, ⟨(some 27), .r (.load none (.t 26)), none⟩, 7, 0⟩,
⟨4, ⟨(some 28), .p (.mv (.t 6)), none⟩, 0, 0⟩,
⟨5, ⟨(some 29), .p (.conv .u64 (.t 28)), none⟩, 16, 0⟩,
⟨6, ⟨(some 30), .p (.mv (.t 7)), none⟩, 0, 0⟩,
⟨7, ⟨(some 31), .p (.md (.t 30) (.c (.w (.s (ni64 8))))), none⟩, 64, 0⟩,
⟨8, ⟨(some 32), .p (.ar 2 (.t 31) (.c (.w (.s (ni64 8))))), none⟩, 192, 0⟩,
⟨9, ⟨(some 33), .p (.shl (.t 29) (.t 32)), none⟩, 496, 0⟩,
⟨10, ⟨(some 34), .p (.bt 1 (.t 27) (.t 33)), none⟩, 1023, 0⟩,
⟨11, ⟨(some 35), .p (.iaddrA 4 1 (.t 4) (.t 25)), none⟩, 2047, 0⟩,
⟨12, ⟨none, .b (.store 1 (.t 35) (.t 34)), none⟩, 4095, 0⟩])))) (.reg [
oP w36 (pAr 0 g14 (gC (.w (.s (ni64 1))))),
oP w14 (pMv g36)]))))))) (.seq (.reg [
oR w37 (rLoad (some 4) g4),
oK wZ (bSt 4 g2 g37),
oP w3 (pMv (gC (.w (.s (.bool true)))))]) (.ret)))))⟩
theorem fp10 : ∃ fn, fb10 = denF fn ∧ ∃ func code hint, FnOk Go.Proofs.Tryz.prog TT 10 fn func code hint := f2_mk (func := Go.Proofs.Tryz.f10) (code := bodyOf Go.Proofs.Tryz.f10) (hint := hintL [(8, [(0, 0), (1, 0), (2, 0), (3, 0), (4, 0), (5, 0), (6, 0), (7, 0), (8, 0), (9, 0), (10, 0), (11, 0), (12, 0)])]) (n := 38) (res := [.cell 2 (some 4), .tmp 3]) Go.Proofs.Tryz.func10 Go.Proofs.Tryz.call10 (by kernel_rfl) (by kernel_rfl) (by kernel_rfl) (by kernel_rfl) (by kernel_rfl)
/- quarry/quarrylaw19.cat -/
def fb11 : AFunc2 := ⟨18, [.tmp g2], .seq (.reg [
oP w2 (pMv (gC (.w (.s (.nils)))))]) (.seq (.reg [
oP w3 (pMv (gC (.w (.s (.nils)))))]) (.seq (.seq (.reg [
oP w4 (pMv (gC (.w (.s (zi64)))))]) (.block 0 (.loop (.seq (.seq (.reg [
oP w5 (pMv g4),
oP w6 (pMv g0),
oP w7 (pGen fun _ t => opLen t (.t 6)),
oK w8 (bCmp 2 lLt cGe true g5 g7)]) (.cond g8 (.skip) (.exit 0))) (.seq (.block 1 (.reg [
oP w11 (pMv g3),
oP w12 (pMv g0),
oP w13 (pMv g4),
oP w14 (pIaddrS 1 g12 g13),
oR w15 (rLoad none g14),
oK w16 (b2 (bAppend 5 1 1) g11 g15),
oP w3 (pMv g16)])) (.reg [
oP w9 (pMv g4),
oP w10 (pAr 0 g9 (gC (.w (.s (ni64 1))))),
oP w4 (pMv g10)])))))) (.seq (.reg [
oP w17 (pMv g3),
oP w2 (pMv g17)]) (.ret))))⟩
theorem fp11 : ∃ fn, fb11 = denF fn ∧ ∃ func code hint, FnOk Go.Proofs.Tryz.prog TT 11 fn func code hint := f2_mk (func := Go.Proofs.Tryz.f11) (code := bodyOf Go.Proofs.Tryz.f11) (hint := hintL []) (n := 18) (res := [.tmp 2]) Go.Proofs.Tryz.func11 Go.Proofs.Tryz.call11 (by kernel_rfl) (by kernel_rfl) (by kernel_rfl) (by kernel_rfl) (by kernel_rfl)
/- quarry/quarrylaw19.num -/
def fb13 : AFunc2 := ⟨7, [.tmp g2], .seq (.reg [
oP w2 (pMv (gC (.w (.s (.nils)))))]) (.seq (.reg [
oP w3 (pMv g0),
oP w4 (pConv .u64 g3),
oP w5 (pBuild [zu64, zu64, zu64, zu64] [(0, 1, g4)]),
oCall w6 14 [g5],
oP w2 (pMv g6)]) (.ret))⟩
theorem fp13 : ∃ fn, fb13 = denF fn ∧ ∃ func code hint, FnOk Go.Proofs.Tryz.prog TT 13 fn func code hint := f2_mk (func := Go.Proofs.Tryz.f13) (code := bodyOf Go.Proofs.Tryz.f13) (hint := hintL []) (n := 7) (res := [.tmp 2]) Go.Proofs.Tryz.func13 Go.Proofs.Tryz.call13 (by kernel_rfl) (by kernel_rfl) (by kernel_rfl) (by kernel_rfl) (by kernel_rfl)
/- quarry/quarrylaw19.push -/
def fb14 : AFunc2 := ⟨9, [.tmp g2], .seq (.reg [
oBox w1 24 g0,
oP w2 (pMv (gC (.w (.s (.nils)))))]) (.seq (.reg [
oR w4 (rLoad (some 4) g1),
oCall w5 19 [g4],
oAlloc w3 50 zz1,
oK wZ (bSt 32 g3 g5)]) (.seq (.reg [
oM w6 (.bslice 5 1 [zu8] [(0, 1, (.c (.w (.s (nu8 127)))))]),
oP w7 (pGen fun _ t => opASlice t 32 1 (.t 3) none none),
oK w8 (b2 (bAppend 5 1 1) g6 g7),
oP w2 (pMv g8)]) (.ret)))⟩
theorem fp14 : ∃ fn, fb14 = denF fn ∧ ∃ func code hint, FnOk Go.Proofs.Tryz.prog TT 14 fn func code hint := f2_mk (func := Go.Proofs.Tryz.f14) (code := bodyOf Go.Proofs.Tryz.f14) (hint := hintL []) (n := 9) (res := [.tmp 2]) Go.Proofs.Tryz.func14 Go.Proofs.Tryz.call14 (by kernel_rfl) (by kernel_rfl) (by kernel_rfl) (by kernel_rfl) (by kernel_rfl)
/- quarry/quarrylaw19.plays -/
def fb15 : AFunc2 := ⟨76, [.cell (rLoad (some 24) g12), .tmp g13], .seq (.reg [
oBox w10 24 g4,
oAlloc w12 39 [zi64, .nils, zu64, zu8, zu8, zu8, zu8, zu8, zu8, zu8, zu8, zu8, zu8, zu8, zu8, zu8, zu8, zu8, zu8, zu8, zu8, zu8, zu8, zu64],
oP w13 (pMv (gC (.w (.s (.nilp)))))]) (.seq (.reg [
oCall w23 9 [],
oP w22 (pMv g23),
oP w24 (pExt g22 0),
oP w25 (pExt g22 1),
oP w26 (pExt g22 2),
oAlloc w14 30 zz0,
oAlloc w15 30 zz0,
oAlloc w16 30 zz0,
oK wZ (bSt 20 g14 g24),
oK wZ (bSt 20 g15 g25),
oK wZ (bSt 20 g16 g26)]) (.seq (.reg [
oR w27 (rLoad (some 20) g14),
oP w28 (pBuild [zu64, zu64, zu64, zu64] [(0, 1, (gC (.w (.s (nu64 1000)))))]),
oP w29 (pMv g1),
oP w30 (pBuild [zu8, zu8, zu8, zu8, zu8, zu8, zu8, zu8, zu8, zu8, zu8, zu8, zu8, zu8, zu8, zu8, zu8, zu8, zu8, zu8, zu64, zu64, zu64, zu64, zu64, .nils, .nils] [(0, 20, g27), (20, 1, (gC (.w (.s (nu64 1))))), (21, 4, g28), (25, 1, g29)]),
oR w31 (rLoad (some 20) g15),
oP w32 (pBuild [zu64, zu64, zu64, zu64] [(0, 1, (gC (.w (.s (nu64 1000000)))))]),
oP w33 (pBuild [zu8, zu8, zu8, zu8, zu8, zu8, zu8, zu8, zu8, zu8, zu8, zu8, zu8, zu8, zu8, zu8, zu8, zu8, zu8, zu8, zu64, zu64, zu64, zu64, zu64, .nils, .nils] [(0, 20, g31), (20, 1, (gC (.w (.s (nu64 1))))), (21, 4, g32)]),
oM w34 (.bslice 63 2 [zu8, zu8, zu8, zu8, zu8, zu8, zu8, zu8, zu8, zu8, zu8, zu8, zu8, zu8, zu8, zu8, zu8, zu8, zu8, zu8, zu64, zu64, zu64, zu64, zu64, .nils, .nils] [(0, 27, (.t 30)), (27, 27, (.t 33))]),
oP w17 (pMv g34)]) (.seq (.seq (.reg [
oP w35 (pMv g2),
oP w36 (pGen fun _ t => opLen t (.t 35)),
oK w37 (bCmp 4 nLe .le true g36 (gC (.w (.s (zi64)))))]) (.cond g37 (.reg [
oP w38 (pMv g17),
oR w39 (rLoad (some 20) g16),
oP w40 (pMv g2),
oP w41 (pBuild [zu8, zu8, zu8, zu8, zu8, zu8, zu8, zu8, zu8, zu8, zu8, zu8, zu8, zu8, zu8, zu8, zu8, zu8, zu8, zu8, zu64, zu64, zu64, zu64, zu64, .nils, .nils] [(0, 20, g39), (20, 1, (gC (.w (.s (nu64 1))))), (25, 1, g40)]),
oM w42 (.bslice 63 1 [zu8, zu8, zu8, zu8, zu8, zu8, zu8, zu8, zu8, zu8, zu8, zu8, zu8, zu8, zu8, zu8, zu8, zu8, zu8, zu8, zu64, zu64, zu64, zu64, zu64, .nils, .nils] [(0, 27, (.t 41))]),
oK w43 (b2 (bAppend 63 27 112) g38 g42),
oP w17 (pMv g43)]) (.skip))) (.seq (.reg [
oP w45 (pMv g17),
oCall w46 27 [g45],
oP w44 (pMv g46),
oP w47 (pExt g44 0),
oP w48 (pExt g44 1),
oP w18 (pMv g47),
oP w19 (pMv g48)]) (.seq (.seq (.reg [
oP w49 (pMv g18),
oK w50 (b2 (fun x y s K => cmpA 0 .ptr x y s fun b s => K (vBool b) s) g49 (gC (.w (.s (.nilp)))))]) (.cond g50 (.seq (.reg [
oP w51 (pBuild [zi64, .nils, zu64, zu8, zu8, zu8, zu8, zu8, zu8, zu8, zu8, zu8, zu8, zu8, zu8, zu8, zu8, zu8, zu8, zu8, zu8, zu8, zu8, zu64] [(0, 1, (gC (.w (.s (ni64 9)))))]),
oK wZ (bSt 24 g12 g51),
oP w13 (pMv (gC (.w (.s (.nilp)))))]) (.ret)) (.skip))) (.seq (.reg [
oP w53 (pMv g0),
oP w54 (pBuild zz1 [(0, 1, (gC (.w (.s (nu8 1)))))]),
oP w55 (pBuild zz1 [(0, 1, (gC (.w (.s (nu8 2)))))]),
oP w56 (pBuild zz1 [(0, 1, (gC (.w (.s (nu8 3)))))]),
oM w57 (.bslice 90 3 (lrep (zu8) 32) [(0, 32, (.t 54)), (32, 32, (.t 55)), (64, 32, (.t 56))]),
oP w58 (pBuild [zu8, zu8, zu8, zu8, zu8, zu8, zu8, zu8, zu8, zu8, zu8, zu8, zu8, zu8, zu8, zu8, zu8, zu8, zu8, zu8, zu64, zu64, zu64, zu64, zu64, zu64, zu64, zu64, zu64, zu64, zu64, zu64, zu64, zu64, zu64, zu64, .nils] [(20, 1, (gC (.w (.s (nu64 1000))))), (36, 1, g57)]),
oR w59 (rLoad (some 20) g15),
oP w60 (pBuild [zu8, zu8, zu8, zu8, zu8, zu8, zu8, zu8, zu8, zu8, zu8, zu8, zu8, zu8, zu8, zu8, zu8, zu8, zu8, zu8, zu64, zu64, zu64, zu64, .nils] [(0, 20, g59)]),
oP w61 (pMv g18),
oR w62 (rLoad (some 20) g15),
oR w63 (rLoad (some 20) g14),
oR w64 (rLoad (some 4) g10),
oP w65 (pMv g3),
oP w66 (pMv g5),
oP w67 (pBuild [.bool false, zu8, zu8, zu8, zu8, zu8, zu8, zu8, zu8, zu8, zu8, zu8, zu8, zu8, zu8, zu8, zu8, zu8, zu8, zu8, zu8, zu8, zu8, zu8, zu8, zu8, zu8, zu8, zu8, zu8, zu8, zu8, zu8, zu8, zu8, zu8, zu8, zu8, zu8, zu8, zu8, zu64, zu64, zu64, zu64, .nils, zu64, .bool false, zi64] [(1, 20, g62), (21, 20, g63), (41, 4, g64), (45, 1, g65), (46, 1, g66)]),
oCall w68 28 [g53, g58, g60, g61, g67],
oP w52 (pMv g68),
oP w69 (pExt g52 0),
oP w70 (pExt g52 1),
oAlloc w20 39 [zi64, .nils, zu64, zu8, zu8, zu8, zu8, zu8, zu8, zu8, zu8, zu8, zu8, zu8, zu8, zu8, zu8, zu8, zu8, zu8, zu8, zu8, zu8, zu64],
oK wZ (bSt 24 g20 g69),
oP w21 (pMv g70)]) (.seq (.seq (.reg [
oP w71 (pMv g21),
oK w72 (bCmp 1 nEq .eq true g71 (gC (.w (.s (zi64)))))]) (.cond g72 (.seq (.reg [
oP w73 (pBuild [zi64, .nils, zu64, zu8, zu8, zu8, zu8, zu8, zu8, zu8, zu8, zu8, zu8, zu8, zu8, zu8, zu8, zu8, zu8, zu8, zu8, zu8, zu8, zu64] [(0, 1, (gC (.w (.s (ni64 9)))))]),
oK wZ (bSt 24 g12 g73),
oP w13 (pMv (gC (.w (.s (.nilp)))))]) (.ret)) (.skip))) (.seq (.reg [
oR w74 (rLoad (some 24) g20),
oP w75 (pMv g18),
oK wZ (bSt 24 g12 g74),
oP w13 (pMv g75)]) (.ret)))))))))⟩
theorem fp15 : ∃ fn, fb15 = denF fn ∧ ∃ func code hint, FnOk Go.Proofs.Tryz.prog TT 15 fn func code hint := f2_mk (func := Go.Proofs.Tryz.f15) (code := bodyOf Go.Proofs.Tryz.f15) (hint := hintL []) (n := 76) (res := [.cell 12 (some 24), .tmp 13]) Go.Proofs.Tryz.func15 Go.Proofs.Tryz.call15 (by kernel_rfl) (by kernel_rfl) (by kernel_rfl) (by kernel_rfl) (by kernel_rfl)
/- quarry/quarryref13.Of -/
def fb16 : AFunc2 := ⟨123, [.cell (rLoad (some 26) g2), .tmp g3], .seq (.reg [
oAlloc w2 44 [zi64, zu64, zu64, zu64, zu64, zu64, zu64, zu64, zi64, zi64, zu64, zu64, zu64, zu64, zu64, zu64, zu64, zu64, zu64, zu64, zu64, zu64, zu64, zu64, zu64, zu64],
oP w3 (pMv (gC (.w (.s (.bool false)))))]) (.seq (.seq (.reg [
oP w4 (pMv g0),
oK w5 (bCmp 2 lLt cGe true g4 (gC (.w (.s (zi64))))),
oP w6 (pMv g5),
oGd g6 false w7 (oP w7 (pMv g0)),
oGd g6 false w8 (oK w8 (bCmp 4 nLe .le true g7 (gC (.w (.s (ni64 15)))))),
oP w9 (pGen fun _ t => opPick t (.t 6) (.c (.w (.s (.bool true)))) (.t 8))]) (.cond g9 (.seq (.reg [
oP w10 (pBuild [zi64, zu64, zu64, zu64, zu64, zu64, zu64, zu64, zi64, zi64, zu64, zu64, zu64, zu64, zu64, zu64, zu64, zu64, zu64, zu64, zu64, zu64, zu64, zu64, zu64, zu64] []),
oK wZ (bSt 26 g2 g10),
oP w3 (pMv (gC (.w (.s (.bool false)))))]) (.ret)) (.skip))) (.seq (.reg [
oP w11 (pMv g0),
oP w12 (pMv g0),
oP w13 (pBuild [zu64, zu64] [(0, 1, (gC (.w (.s (nu64 1))))), (1, 1, (gC (.w (.s (nu64 32000)))))]),
oM w14 (.bslice 92 1 [zu64, zu64] [(0, 2, (.t 13))]),
oCall w15 37 [g12, (gC (.w (.s (zu64)))), g14],
oP w16 (pMv g0),
oP w17 (pBuild [zu64, zu64] [(0, 1, (gC (.w (.s (nu64 7))))), (1, 1, (gC (.w (.s (nu64 16)))))]),
oM w18 (.bslice 92 1 [zu64, zu64] [(0, 2, (.t 17))]),
oCall w19 37 [g16, (gC (.w (.s (nu64 68)))), g18],
oP w20 (pMv g0),
oP w21 (pBuild [zu64, zu64] [(0, 1, (gC (.w (.s (nu64 9))))), (1, 1, (gC (.w (.s (nu64 2400)))))]),
oM w22 (.bslice 92 1 [zu64, zu64] [(0, 2, (.t 21))]),
oCall w23 37 [g20, (gC (.w (.s (zu64)))), g22],
oP w24 (pMv g0),
oP w25 (pBuild [zu64, zu64] [(0, 1, (gC (.w (.s (nu64 9))))), (1, 1, (gC (.w (.s (nu64 1900)))))]),
oM w26 (.bslice 92 1 [zu64, zu64] [(0, 2, (.t 25))]),
oCall w27 37 [g24, (gC (.w (.s (zu64)))), g26],
oP w28 (pMv g0),
oP w29 (pBuild [zu64, zu64] [(0, 1, (gC (.w (.s (nu64 14))))), (1, 1, (gC (.w (.s (nu64 2)))))]),
oM w30 (.bslice 92 1 [zu64, zu64] [(0, 2, (.t 29))]),
oCall w31 37 [g28, (gC (.w (.s (zu64)))), g30],
oP w32 (pMv g0),
oP w33 (pBuild [zu64, zu64] [(0, 1, (gC (.w (.s (nu64 14))))), (1, 1, (gC (.w (.s (nu64 49152)))))]),
oM w34 (.bslice 92 1 [zu64, zu64] [(0, 2, (.t 33))]),
oCall w35 37 [g32, (gC (.w (.s (zu64)))), g34],
oP w36 (pConv .i64 g35),
oP w37 (pMv g0),
oP w38 (pBuild [zu64, zu64] [(0, 1, (gC (.w (.s (nu64 3))))), (1, 1, (gC (.w (.s (nu64 24576)))))]),
oM w39 (.bslice 92 1 [zu64, zu64] [(0, 2, (.t 38))]),
oCall w40 37 [g37, (gC (.w (.s (zu64)))), g39],
oP w41 (pConv .i64 g40),
oP w42 (pMv g0),
oP w43 (pBuild [zu64, zu64] [(0, 1, (gC (.w (.s (nu64 2))))), (1, 1, (gC (.w (.s (nu64 400)))))]),
oP w44 (pBuild [zu64, zu64] [(0, 1, (gC (.w (.s (nu64 7))))), (1, 1, (gC (.w (.s (nu64 700)))))]),
oP w45 (pBuild [zu64, zu64] [(0, 1, (gC (.w (.s (nu64 9))))), (1, 1, (gC (.w (.s (zu64)))))]),
oM w46 (.bslice 92 3 [zu64, zu64] [(0, 2, (.t 43)), (2, 2, (.t 44)), (4, 2, (.t 45))]),
oCall w47 37 [g42, (gC (.w (.s (nu64 20)))), g46],
oP w48 (pMv g0),
oP w49 (pBuild [zu64, zu64] [(0, 1, (gC (.w (.s (nu64 2))))), (1, 1, (gC (.w (.s (nu64 700)))))]),
oP w50 (pBuild [zu64, zu64] [(0, 1, (gC (.w (.s (nu64 9))))), (1, 1, (gC (.w (.s (zu64)))))]),
oM w51 (.bslice 92 2 [zu64, zu64] [(0, 2, (.t 49)), (2, 2, (.t 50))]),
oCall w52 37 [g48, (gC (.w (.s (nu64 20)))), g51],
oP w53 (pMv g0),
oP w54 (pBuild [zu64, zu64] [(0, 1, (gC (.w (.s (nu64 5))))), (1, 1, (gC (.w (.s (nu64 400)))))]),
oP w55 (pBuild [zu64, zu64] [(0, 1, (gC (.w (.s (nu64 7))))), (1, 1, (gC (.w (.s (nu64 700)))))]),
oP w56 (pBuild [zu64, zu64] [(0, 1, (gC (.w (.s (nu64 9))))), (1, 1, (gC (.w (.s (zu64)))))]),
oM w57 (.bslice 92 3 [zu64, zu64] [(0, 2, (.t 54)), (2, 2, (.t 55)), (4, 2, (.t 56))]),
oCall w58 37 [g53, (gC (.w (.s (zu64)))), g57],
oP w59 (pMv g0),
oP w60 (pBuild [zu64, zu64] [(0, 1, (gC (.w (.s (nu64 2))))), (1, 1, (gC (.w (.s (nu64 200)))))]),
oP w61 (pBuild [zu64, zu64] [(0, 1, (gC (.w (.s (nu64 7))))), (1, 1, (gC (.w (.s (nu64 800)))))]),
oP w62 (pBuild [zu64, zu64] [(0, 1, (gC (.w (.s (nu64 9))))), (1, 1, (gC (.w (.s (zu64)))))]),
oM w63 (.bslice 92 3 [zu64, zu64] [(0, 2, (.t 60)), (2, 2, (.t 61)), (4, 2, (.t 62))]),
oCall w64 37 [g59, (gC (.w (.s (nu64 50)))), g63],
oP w65 (pMv g0),
oP w66 (pBuild [zu64, zu64] [(0, 1, (gC (.w (.s (nu64 2))))), (1, 1, (gC (.w (.s (nu64 700)))))]),
oP w67 (pBuild [zu64, zu64] [(0, 1, (gC (.w (.s (nu64 9))))), (1, 1, (gC (.w (.s (zu64)))))]),
oM w68 (.bslice 92 2 [zu64, zu64] [(0, 2, (.t 66)), (2, 2, (.t 67))]),
oCall w69 37 [g65, (gC (.w (.s (nu64 40)))), g68],
oP w70 (pMv g0),
oP w71 (pBuild [zu64, zu64] [(0, 1, (gC (.w (.s (nu64 9))))), (1, 1, (gC (.w (.s (nu64 2600)))))]),
oM w72 (.bslice 92 1 [zu64, zu64] [(0, 2, (.t 71))]),
oCall w73 37 [g70, (gC (.w (.s (zu64)))), g72],
oP w74 (pMv g0),
oP w75 (pBuild [zu64, zu64] [(0, 1, (gC (.w (.s (nu64 9))))), (1, 1, (gC (.w (.s (nu64 2100)))))]),
oM w76 (.bslice 92 1 [zu64, zu64] [(0, 2, (.t 75))]),
oCall w77 37 [g74, (gC (.w (.s (zu64)))), g76],
oP w78 (pMv g0),
oP w79 (pBuild [zu64, zu64] [(0, 1, (gC (.w (.s (nu64 9))))), (1, 1, (gC (.w (.s (nu64 100)))))]),
oM w80 (.bslice 92 1 [zu64, zu64] [(0, 2, (.t 79))]),
oCall w81 37 [g78, (gC (.w (.s (zu64)))), g80],
oP w82 (pMv g0),
oP w83 (pBuild [zu64, zu64] [(0, 1, (gC (.w (.s (nu64 2))))), (1, 1, (gC (.w (.s (nu64 5000)))))]),
oM w84 (.bslice 92 1 [zu64, zu64] [(0, 2, (.t 83))]),
oCall w85 37 [g82, (gC (.w (.s (zu64)))), g84],
oP w86 (pMv g0),
oP w87 (pBuild [zu64, zu64] [(0, 1, (gC (.w (.s (nu64 2))))), (1, 1, (gC (.w (.s (nu64 25000)))))]),
oM w88 (.bslice 92 1 [zu64, zu64] [(0, 2, (.t 87))]),
oCall w89 37 [g86, (gC (.w (.s (zu64)))), g88],
oP w90 (pMv g0),
oP w91 (pBuild [zu64, zu64] [(0, 1, (gC (.w (.s (nu64 10))))), (1, 1, (gC (.w (.s (zu64)))))]),
oM w92 (.bslice 92 1 [zu64, zu64] [(0, 2, (.t 91))]),
oCall w93 37 [g90, (gC (.w (.s (nu64 24000)))), g92],
oP w94 (pMv g0),
oP w95 (pBuild [zu64, zu64] [(0, 1, (gC (.w (.s (nu64 3))))), (1, 1, (gC (.w (.s (nu64 50)))))]),
oM w96 (.bslice 92 1 [zu64, zu64] [(0, 2, (.t 95))]),
oCall w97 37 [g94, (gC (.w (.s (nu64 10)))), g96],
oP w98 (pMv g0),
oP w99 (pBuild [zu64, zu64] [(0, 1, (gC (.w (.s (nu64 10))))), (1, 1, (gC (.w (.s (nu64 4800)))))]),
oM w100 (.bslice 92 1 [zu64, zu64] [(0, 2, (.t 99))]),
oCall w101 37 [g98, (gC (.w (.s (nu64 15000)))), g100],
oP w102 (pMv g0),
oP w103 (pBuild [zu64, zu64] [(0, 1, (gC (.w (.s (nu64 10))))), (1, 1, (gC (.w (.s (nu64 5)))))]),
oM w104 (.bslice 92 1 [zu64, zu64] [(0, 2, (.t 103))]),
oCall w105 37 [g102, (gC (.w (.s (nu64 2)))), g104],
oP w106 (pMv g0),
oP w107 (pBuild [zu64, zu64] [(0, 1, (gC (.w (.s (nu64 4))))), (1, 1, (gC (.w (.s (nu64 3000000000000000000)))))]),
oP w108 (pBuild [zu64, zu64] [(0, 1, (gC (.w (.s (nu64 5))))), (1, 1, (gC (.w (.s (nu64 2000000000000000000)))))]),
oP w109 (pBuild [zu64, zu64] [(0, 1, (gC (.w (.s (nu64 13))))), (1, 1, (gC (.w (.s (zu64)))))]),
oM w110 (.bslice 92 3 [zu64, zu64] [(0, 2, (.t 107)), (2, 2, (.t 108)), (4, 2, (.t 109))]),
oCall w111 37 [g106, (gC (.w (.s (nu64 5000000000000000000)))), g110],
oP w112 (pMv g0),
oP w113 (pBuild [zu64, zu64] [(0, 1, (gC (.w (.s (nu64 4))))), (1, 1, (gC (.w (.s (nu64 3000000)))))]),
oP w114 (pBuild [zu64, zu64] [(0, 1, (gC (.w (.s (nu64 5))))), (1, 1, (gC (.w (.s (nu64 5000000)))))]),
oP w115 (pBuild [zu64, zu64] [(0, 1, (gC (.w (.s (nu64 8))))), (1, 1, (gC (.w (.s (nu64 9000000)))))]),
oP w116 (pBuild [zu64, zu64] [(0, 1, (gC (.w (.s (nu64 10))))), (1, 1, (gC (.w (.s (nu64 9700000)))))]),
oP w117 (pBuild [zu64, zu64] [(0, 1, (gC (.w (.s (nu64 11))))), (1, 1, (gC (.w (.s (nu64 10700000)))))]),
oP w118 (pBuild [zu64, zu64] [(0, 1, (gC (.w (.s (nu64 12))))), (1, 1, (gC (.w (.s (nu64 11400000)))))]),
oP w119 (pBuild [zu64, zu64] [(0, 1, (gC (.w (.s (nu64 13))))), (1, 1, (gC (.w (.s (zu64)))))]),
oM w120 (.bslice 92 7 [zu64, zu64] [(0, 2, (.t 113)), (2, 2, (.t 114)), (4, 2, (.t 115)), (6, 2, (.t 116)), (8, 2, (.t 117)), (10, 2, (.t 118)), (12, 2, (.t 119))]),
oCall w121 37 [g112, (gC (.w (.s (zu64)))), g120],
oP w122 (pBuild [zi64, zu64, zu64, zu64, zu64, zu64, zu64, zu64, zi64, zi64, zu64, zu64, zu64, zu64, zu64, zu64, zu64, zu64, zu64, zu64, zu64, zu64, zu64, zu64, zu64, zu64] [(0, 1, g11), (1, 1, (gC (.w (.s (nu64 21000))))), (3, 1, (gC (.w (.s (nu64 4))))), (2, 1, g15), (4, 1, g19), (5, 1, g23), (6, 1, g27), (7, 1, g31), (8, 1, g36), (9, 1, g41), (10, 1, g47), (11, 1, g52), (12, 1, g58), (13, 1, g64), (14, 1, g69), (15, 1, g73), (16, 1, g77), (17, 1, g81), (18, 1, g85), (19, 1, g89), (20, 1, g93), (21, 1, g97), (22, 1, g101), (23, 1, g105), (24, 1, g111), (25, 1, g121)]),
oK wZ (bSt 26 g2 g122),
oP w3 (pMv (gC (.w (.s (.bool true)))))]) (.ret)))⟩
theorem fp16 : ∃ fn, fb16 = denF fn ∧ ∃ func code hint, FnOk Go.Proofs.Tryz.prog TT 16 fn func code hint := f2_mk (func := Go.Proofs.Tryz.f16) (code := bodyOf Go.Proofs.Tryz.f16) (hint := hintL []) (n := 123) (res := [.cell 2 (some 26), .tmp 3]) Go.Proofs.Tryz.func16 Go.Proofs.Tryz.call16 (by kernel_rfl) (by kernel_rfl) (by kernel_rfl) (by kernel_rfl) (by kernel_rfl)
/- quarry/gas.Part -/
def fb17 : AFunc2 := ⟨37, [.tmp g6, .tmp g7], .seq (.reg [
oBox w3 44 g0,
oBox w5 24 g2,
oP w6 (pMv (gC (.w (.s (zu64))))),
oP w7 (pMv (gC (.w (.s (.bool false)))))]) (.seq (.reg [
oR w12 (rLoad (some 4) g5),
oCall w13 38 [g12],
oP w11 (pMv g13),
oP w14 (pExt g11 0),
oP w15 (pExt g11 1),
oP w8 (pMv g14),
oP w9 (pMv g15)]) (.seq (.seq (.reg [
oP w16 (pFaddr 0 g3),
oR w17 (rLoad none g16),
oK w18 (bCmp 2 lLt cGe true g17 (gC (.w (.s (ni64 2)))))]) (.cond g18 (.seq (.seq (.reg [
oP w19 (pMv g9),
oP w20 (pNot g19),
oP w21 (pMv g20),
oGd g21 false w22 (oP w22 (pMv g8)),
oGd g21 false w23 (oP w23 (pMv g1)),
oGd g21 false w24 (oK w24 (bCmp 4 nLe .le true g22 g23)),
oP w25 (pGen fun _ t => opPick t (.t 21) (.c (.w (.s (.bool true)))) (.t 24))]) (.cond g25 (.seq (.reg [
oP w6 (pMv (gC (.w (.s (zu64))))),
oP w7 (pMv (gC (.w (.s (.bool false)))))]) (.ret)) (.skip))) (.seq (.reg [
oP w26 (pMv g8),
oP w6 (pMv g26),
oP w7 (pMv (gC (.w (.s (.bool true)))))]) (.ret))) (.skip))) (.seq (.reg [
oP w27 (pMv g1),
oP w28 (pMv g1),
oP w29 (pGen fun φ t => opDv φ t (.t 28) (.c (.w (.s (nu64 64))))),
oP w30 (pAr 1 g27 g29),
oP w10 (pMv g30)]) (.seq (.seq (.reg [
oP w31 (pMv g9),
oP w32 (pNot g31)]) (.cond g32 (.seq (.reg [
oP w33 (pMv g10),
oP w6 (pMv g33),
oP w7 (pMv (gC (.w (.s (.bool true)))))]) (.ret)) (.skip))) (.seq (.reg [
oP w34 (pMv g8),
oP w35 (pMv g10),
oK w36 (b2 (mmA false) g34 g35),
oP w6 (pMv g36),
oP w7 (pMv (gC (.w (.s (.bool true)))))]) (.ret))))))⟩
theorem fp17 : ∃ fn, fb17 = denF fn ∧ ∃ func code hint, FnOk Go.Proofs.Tryz.prog TT 17 fn func code hint := f2_mk (func := Go.Proofs.Tryz.f17) (code := bodyOf Go.Proofs.Tryz.f17) (hint := hintL []) (n := 37) (res := [.tmp 6, .tmp 7]) Go.Proofs.Tryz.func17 Go.Proofs.Tryz.call17 (by kernel_rfl) (by kernel_rfl) (by kernel_rfl) (by kernel_rfl) (by kernel_rfl)
/- quarry/quarrylaw19.wakes -/
def fb18 : AFunc2 := ⟨57, [.tmp g0], .seq (.reg [
oP w0 (pMv (gC (.w (.s (.bool false)))))]) (.seq (.reg [
oP w7 (pBuild zz0 [(0, 1, (gC (.w (.s (nu8 170)))))]),
oP w8 (pBuild zz0 [(0, 1, (gC (.w (.s (nu8 187)))))]),
oAlloc w1 30 zz0,
oAlloc w2 30 zz0,
oK wZ (bSt 20 g1 g7),
oK wZ (bSt 20 g2 g8)]) (.seq (.reg [
oR w10 (rLoad (some 20) g1),
oM w11 (.bslice 5 13 [zu8] [(0, 1, (.c (.w (.s (nu8 96))))), (1, 1, (.c (.w (.s (nu8 5))))), (2, 1, (.c (.w (.s (nu8 96))))), (3, 1, (.c (.w (.s (nu8 3))))), (4, 1, (.c (.w (.s (nu8 1))))), (5, 1, (.c (.w (.s (nu8 96))))), (6, 1, (.c (.w (.s (zu8))))), (7, 1, (.c (.w (.s (nu8 82))))), (8, 1, (.c (.w (.s (nu8 96))))), (9, 1, (.c (.w (.s (nu8 32))))), (10, 1, (.c (.w (.s (nu8 96))))), (11, 1, (.c (.w (.s (zu8))))), (12, 1, (.c (.w (.s (nu8 243)))))]),
oP w12 (pBuild [zu8, zu8, zu8, zu8, zu8, zu8, zu8, zu8, zu8, zu8, zu8, zu8, zu8, zu8, zu8, zu8, zu8, zu8, zu8, zu8, zu64, zu64, zu64, zu64, zu64, .nils, .nils] [(0, 20, g10), (25, 1, g11)]),
oR w13 (rLoad (some 20) g2),
oP w14 (pBuild [zu64, zu64, zu64, zu64] [(0, 1, (gC (.w (.s (nu64 100)))))]),
oP w15 (pBuild [zu8, zu8, zu8, zu8, zu8, zu8, zu8, zu8, zu8, zu8, zu8, zu8, zu8, zu8, zu8, zu8, zu8, zu8, zu8, zu8, zu64, zu64, zu64, zu64, zu64, .nils, .nils] [(0, 20, g13), (21, 4, g14)]),
oM w16 (.bslice 63 2 [zu8, zu8, zu8, zu8, zu8, zu8, zu8, zu8, zu8, zu8, zu8, zu8, zu8, zu8, zu8, zu8, zu8, zu8, zu8, zu8, zu64, zu64, zu64, zu64, zu64, .nils, .nils] [(0, 27, (.t 12)), (27, 27, (.t 15))]),
oCall w17 27 [g16],
oP w9 (pMv g17),
oP w18 (pExt g9 0),
oP w19 (pExt g9 1),
oP w3 (pMv g18),
oP w4 (pMv g19)]) (.seq (.seq (.reg [
oP w20 (pMv g3),
oK w21 (b2 (fun x y s K => cmpA 0 .ptr x y s fun b s => K (vBool b) s) g20 (gC (.w (.s (.nilp)))))]) (.cond g21 (.seq (.reg [
oP w0 (pMv (gC (.w (.s (.bool false)))))]) (.ret)) (.skip))) (.seq (.reg [
oP w23 (pBuild [zu8, zu8, zu8, zu8, zu8, zu8, zu8, zu8, zu8, zu8, zu8, zu8, zu8, zu8, zu8, zu8, zu8, zu8, zu8, zu8, zu64, zu64, zu64, zu64, zu64, zu64, zu64, zu64, zu64, zu64, zu64, zu64, zu64, zu64, zu64, zu64, .nils] []),
oP w24 (pBuild [zu8, zu8, zu8, zu8, zu8, zu8, zu8, zu8, zu8, zu8, zu8, zu8, zu8, zu8, zu8, zu8, zu8, zu8, zu8, zu8, zu64, zu64, zu64, zu64, .nils] []),
oP w25 (pMv g3),
oR w26 (rLoad (some 20) g2),
oR w27 (rLoad (some 20) g1),
oP w28 (pBuild [.bool false, zu8, zu8, zu8, zu8, zu8, zu8, zu8, zu8, zu8, zu8, zu8, zu8, zu8, zu8, zu8, zu8, zu8, zu8, zu8, zu8, zu8, zu8, zu8, zu8, zu8, zu8, zu8, zu8, zu8, zu8, zu8, zu8, zu8, zu8, zu8, zu8, zu8, zu8, zu8, zu8, zu64, zu64, zu64, zu64, .nils, zu64, .bool false, zi64] [(1, 20, g26), (21, 20, g27), (46, 1, (gC (.w (.s (nu64 100000)))))]),
oCall w29 28 [(gC (.w (.s (zi64)))), g23, g24, g25, g28],
oP w22 (pMv g29),
oP w30 (pExt g22 0),
oP w31 (pExt g22 1),
oAlloc w5 39 [zi64, .nils, zu64, zu8, zu8, zu8, zu8, zu8, zu8, zu8, zu8, zu8, zu8, zu8, zu8, zu8, zu8, zu8, zu8, zu8, zu8, zu8, zu8, zu64],
oK wZ (bSt 24 g5 g30),
oP w6 (pMv g31)]) (.seq (.reg [
oP w32 (pMv g6),
oK w33 (bCmp 0 intEq .eq false g32 (gC (.w (.s (zi64))))),
oP w34 (pMv g33),
oGd g34 true w35 (oP w35 (pFaddr 0 g5)),
oGd g34 true w36 (oR w36 (rLoad none g35)),
oGd g34 true w37 (oK w37 (bCmp 0 intEq .eq false g36 (gC (.w (.s (zi64)))))),
oP w38 (pGen fun _ t => opPick t (.t 34) (.t 37) (.c (.w (.s (.bool false))))),
oP w39 (pMv g38),
oGd g39 true w40 (oP w40 (pFaddr 1 g5)),
oGd g39 true w41 (oR w41 (rLoad none g40)),
oGd g39 true w42 (oP w42 (pGen fun _ t => opLen t (.t 41))),
oGd g39 true w43 (oK w43 (bCmp 0 intEq .eq false g42 (gC (.w (.s (ni64 32)))))),
oP w44 (pGen fun _ t => opPick t (.t 39) (.t 43) (.c (.w (.s (.bool false))))),
oP w45 (pMv g44),
oGd g45 true w46 (oP w46 (pFaddr 1 g5)),
oGd g45 true w47 (oR w47 (rLoad none g46)),
oGd g45 true w48 (oP w48 (pIaddrS 1 g47 (gC (.w (.s (ni64 31)))))),
oGd g45 true w49 (oR w49 (rLoad none g48)),
oGd g45 true w50 (oK w50 (bCmp 0 intEq .eq false g49 (gC (.w (.s (nu8 8)))))),
oP w51 (pGen fun _ t => opPick t (.t 45) (.t 50) (.c (.w (.s (.bool false))))),
oP w52 (pMv g51),
oGd g52 true w53 (oP w53 (pFaddr 23 g5)),
oGd g52 true w54 (oR w54 (rLoad none g53)),
oGd g52 true w55 (oK w55 (bCmp 0 intEq .eq false g54 (gC (.w (.s (nu64 8)))))),
oP w56 (pGen fun _ t => opPick t (.t 52) (.t 55) (.c (.w (.s (.bool false))))),
oP w0 (pMv g56)]) (.ret))))))⟩
theorem fp18 : ∃ fn, fb18 = denF fn ∧ ∃ func code hint, FnOk Go.Proofs.Tryz.prog TT 18 fn func code hint := f2_mk (func := Go.Proofs.Tryz.f18) (code := bodyOf Go.Proofs.Tryz.f18) (hint := hintL []) (n := 57) (res := [.tmp 0]) Go.Proofs.Tryz.func18 Go.Proofs.Tryz.call18 (by kernel_rfl) (by kernel_rfl) (by kernel_rfl) (by kernel_rfl) (by kernel_rfl)
/- quarry/word.Bytes -/
def fb19 : AFunc2 := ⟨24, [.cell (rLoad (some 32) g2)], .seq (.reg [
oBox w1 24 g0,
oAlloc w2 50 zz1]) (.seq (.reg [
oAlloc w3 50 zz1]) (.seq (.seq (.reg [
oP w6 (pMv (gC (.w (.s (zi64)))))]) (.block 0 (.loop (.seq (.reg [
oK w7 (bCmp 2 lLt cGe true g6 (gC (.w (.s (ni64 32)))))]) (.seq (.cond g7 (.skip) (.exit 0)) (.seq (.block 1 (.seq (.reg [
oP w8 (pMv g6),
oP w4 (pMv g8)]) (.seq (.reg [
oP w9 (pMv g4),
oP w10 (pAr 1 (gC (.w (.s (ni64 31)))) g9),
oP w5 (pMv g10)]) (.reg [
oP w11 (pMv g4),
oP w12 (pMv g5),
oP w13 (pGen fun φ t => opDv φ t (.t 12) (.c (.w (.s (ni64 8))))),
oP w14 (pIaddrA 4 1 g1 g13),
oR w15 (rLoad none g14),
oP w16 (pMv g5),
oP w17 (pGen fun φ t => opMd φ t (.t 16) (.c (.w (.s (ni64 8))))),
oP w18 (pAr 2 g17 (gC (.w (.s (ni64 8))))),
oP w19 (pShr g15 g18),
oP w20 (pConv .u8 g19),
oP w21 (pIaddrA 32 1 g3 g11),
oK wZ (bSt 1 g21 g20)])))) (.reg [
oP w22 (pAr 0 g6 (gC (.w (.s (ni64 1))))),
oP w6 (pMv g22)]))))))) (.seq (.reg [
oR w23 (rLoad (some 32) g3),
oK wZ (bSt 32 g2 g23)]) (.ret))))⟩
theorem fp19 : ∃ fn, fb19 = denF fn ∧ ∃ func code hint, FnOk Go.Proofs.Tryz.prog TT 19 fn func code hint := f2_mk (func := Go.Proofs.Tryz.f19) (code := bodyOf Go.Proofs.Tryz.f19) (hint := hintL []) (n := 24) (res := [.cell 2 (some 32)]) Go.Proofs.Tryz.func19 Go.Proofs.Tryz.call19 (by kernel_rfl) (by kernel_rfl) (by kernel_rfl) (by kernel_rfl) (by kernel_rfl)
/- (quarry/quarrylaw19.Small).n -/
def fb20 : AFunc2 := ⟨13, [.tmp g4], .seq (.reg [
oBox w2 27 g0,
oP w4 (pMv (gC (.w (.s (zi64)))))]) (.seq (.reg [
oP w5 (pFaddr 1 g2),
oR w6 (rLoad none g5),
oP w7 (pMv g1),
oP w8 (pGen fun φ t => opMd φ t (.t 6) (.t 7)),
oP w9 (pMv g1),
oP w10 (pAr 0 g8 g9),
oP w11 (pMv g1),
oP w12 (pGen fun φ t => opMd φ t (.t 10) (.t 11)),
oP w4 (pMv g12)]) (.ret))⟩
theorem fp20 : ∃ fn, fb20 = denF fn ∧ ∃ func code hint, FnOk Go.Proofs.Tryz.prog TT 20 fn func code hint := f2_mk (func := Go.Proofs.Tryz.f20) (code := bodyOf Go.Proofs.Tryz.f20) (hint := hintL []) (n := 13) (res := [.tmp 4]) Go.Proofs.Tryz.func20 Go.Proofs.Tryz.call20 (by kernel_rfl) (by kernel_rfl) (by kernel_rfl) (by kernel_rfl) (by kernel_rfl)
def fa20 : AFunc := ⟨13, [.tmp 4], .seq (.reg [
⟨(some 2), .m (.box 27 (.t 0)), none⟩,
⟨(some 4), .p (.mv (.c (.w (.s (zi64))))), none⟩]) (.seq (.reg [
⟨(some 5), .p (.faddr 1 (.t 2)), none⟩,
⟨(some 6), .r (.load none (.t 5)), none⟩,
⟨(some 7), .p (.mv (.t 1)), none⟩,
⟨(some 8), .p (.md (.t 6) (.t 7)), none⟩,
⟨(some 9), .p (.mv (.t 1)), none⟩,
⟨(some 10), .p (.ar 0 (.t 8) (.t 9)), none⟩,
⟨(some 11), .p (.mv (.t 1)), none⟩,
⟨(some 12), .p (.md (.t 10) (.t 11)), none⟩,
⟨(some 4), .p (.mv (.t 12)), none⟩]) (.ret))⟩
theorem fo20 : ∃ func code hint, FnOk Go.Proofs.Tryz.prog TT 20 fa20 func code hint := ⟨Go.Proofs.Tryz.f20, bodyOf Go.Proofs.Tryz.f20, hintL [], ⟨Go.Proofs.Tryz.func20, Go.Proofs.Tryz.call20, by kernel_rfl, by kernel_rfl, by kernel_rfl, by kernel_rfl⟩⟩
/- (*quarry/state.State).Stored -/
def fb23 : AFunc2 := ⟨13, [.tmp g4], .seq (.reg [
oBox w3 30 g1,
oP w4 (pMv (gC (.w (.s (.bool false)))))]) (.seq (.reg [
oP w5 (pMv g0),
oR w6 (rLoad (some 20) g3),
oCall w7 39 [g5, g6],
oP w8 (pGen fun _ t => opNil t (.t 7)),
oP w9 (pFaddr 6 g8),
oR w10 (rLoad none g9),
oR w11 (rGen fun t s => opMlen t s (.t 10)),
oK w12 (bCmp 4 nLe .le true g11 (gC (.w (.s (zi64))))),
oP w4 (pMv g12)]) (.ret))⟩
theorem fp23 : ∃ fn, fb23 = denF fn ∧ ∃ func code hint, FnOk Go.Proofs.Tryz.prog TT 23 fn func code hint := f2_mk (func := Go.Proofs.Tryz.f23) (code := bodyOf Go.Proofs.Tryz.f23) (hint := hintL []) (n := 13) (res := [.tmp 4]) Go.Proofs.Tryz.func23 Go.Proofs.Tryz.call23 (by kernel_rfl) (by kernel_rfl) (by kernel_rfl) (by kernel_rfl) (by kernel_rfl)
/- (*quarry/state.State).Destroyed -/
def fb25 : AFunc2 := ⟨12, [.tmp g4], .seq (.reg [
oBox w3 30 g1,
oP w4 (pMv (gC (.w (.s (.bool false)))))]) (.seq (.draw [
⟨0, ⟨(some 5), .p (.mv (.t 0)), none⟩, 0, 0⟩,
⟨1, ⟨(some 6), .p (.nilCheck (.t 5)), none⟩, 1, 0⟩,
⟨2, ⟨(some 7), .p (.faddr 1 (.t 6)), none⟩, 3, 0⟩,
⟨3, ⟨(some 8), .p (.faddr 3 (.t 7)), none⟩, 7, 0⟩,
⟨4, ⟨(some 9), .r (.load none (.t 8)), none⟩, 15, 0⟩,
⟨5, ⟨(some 10), .r (.load (some 20) (.t 3)), none⟩, 0, 0⟩,
⟨6, ⟨(some 11), .b (.call 41 [(.t 9), (.t 10)]), none⟩, 63, 0⟩,
⟨7, ⟨(some 4), .p (.mv (.t 11)), none⟩, 127, 0⟩]) (.ret))⟩
theorem fp25 : ∃ fn, fb25 = denF fn ∧ ∃ func code hint, FnOk Go.Proofs.Tryz.prog TT 25 fn func code hint := f2_mk (func := Go.Proofs.Tryz.f25) (code := bodyOf Go.Proofs.Tryz.f25) (hint := hintL [(1, [(0, 0), (1, 0), (2, 0), (3, 0), (4, 0), (5, 0), (6, 0), (7, 0)])]) (n := 12) (res := [.tmp 4]) Go.Proofs.Tryz.func25 Go.Proofs.Tryz.call25 (by kernel_rfl) (by kernel_rfl) (by kernel_rfl) (by kernel_rfl) (by kernel_rfl)
/- quarry/word.Of -/
def fb26 : AFunc2 := ⟨5, [.cell (rLoad (some 4) g2)], .seq (.reg [
oAlloc w2 24 [zu64, zu64, zu64, zu64]]) (.seq (.reg [
oP w3 (pMv g0),
oP w4 (pBuild [zu64, zu64, zu64, zu64] [(0, 1, g3)]),
oK wZ (bSt 4 g2 g4)]) (.ret))⟩
theorem fp26 : ∃ fn, fb26 = denF fn ∧ ∃ func code hint, FnOk Go.Proofs.Tryz.prog TT 26 fn func code hint := f2_mk (func := Go.Proofs.Tryz.f26) (code := bodyOf Go.Proofs.Tryz.f26) (hint := hintL []) (n := 5) (res := [.cell 2 (some 4)]) Go.Proofs.Tryz.func26 Go.Proofs.Tryz.call26 (by kernel_rfl) (by kernel_rfl) (by kernel_rfl) (by kernel_rfl) (by kernel_rfl)
def fa26 : AFunc := ⟨5, [.cell 2 (some 4)], .seq (.reg [
⟨(some 2), .m (.alloc 24 [zu64, zu64, zu64, zu64]), none⟩]) (.seq (.reg [
⟨(some 3), .p (.mv (.t 0)), none⟩,
⟨(some 4), .p (.build [zu64, zu64, zu64, zu64] [(0, 1, (.t 3))]), none⟩,
⟨none, .b (.store 4 (.t 2) (.t 4)), none⟩]) (.ret))⟩
theorem fo26 : ∃ func code hint, FnOk Go.Proofs.Tryz.prog TT 26 fa26 func code hint := ⟨Go.Proofs.Tryz.f26, bodyOf Go.Proofs.Tryz.f26, hintL [], ⟨Go.Proofs.Tryz.func26, Go.Proofs.Tryz.call26, by kernel_rfl, by kernel_rfl, by kernel_rfl, by kernel_rfl⟩⟩
/- quarry/state.Load -/
def fb27 : AFunc2 := ⟨70, [.tmp g2, .tmp g3], .seq (.reg [
oP w2 (pMv (gC (.w (.s (.nilp))))),
oP w3 (pMv (gC (.w (.s (zi64)))))]) (.seq (.reg [
oCall w10 42 [],
oP w4 (pMv g10)]) (.seq (.seq (.reg [
oP w11 (pMv g0),
oP w12 (pGen fun _ t => opLen t (.t 11)),
oP w13 (pMv (gC (.w (.s (zi64)))))]) (.block 0 (.loop (.seq (.reg [
oK w14 (bCmp 2 lLt cGe true g13 g12)]) (.seq (.cond g14 (.skip) (.exit 0)) (.seq (.block 1 (.seq (.reg [
oP w15 (pIaddrS 27 g11 g13),
oR w16 (rLoad (some 27) g15),
oAlloc w6 63 [zu8, zu8, zu8, zu8, zu8, zu8, zu8, zu8, zu8, zu8, zu8, zu8, zu8, zu8, zu8, zu8, zu8, zu8, zu8, zu8, zu64, zu64, zu64, zu64, zu64, .nils, .nils],
oK wZ (bSt 27 g6 g16)]) (.seq (.seq (.reg [
oP w17 (pMv g4),
oP w18 (pFaddr 0 g6),
oR w19 (rLoad (some 20) g18),
oCall w20 33 [g17, g19]]) (.cond g20 (.seq (.reg [
oP w2 (pMv (gC (.w (.s (.nilp))))),
oP w3 (pMv (gC (.w (.s (ni64 9)))))]) (.ret)) (.skip))) (.seq (.draw [
⟨0, ⟨(some 21), .p (.faddr 20 (.t 6)), none⟩, 0, 0⟩,
⟨1, ⟨(some 22), .r (.load none (.t 21)), none⟩, 1, 0⟩,
⟨2, ⟨(some 23), .p (.faddr 21 (.t 6)), none⟩, 0, 0⟩,
⟨3, ⟨(some 24), .r (.load (some 4) (.t 23)), none⟩, 4, 0⟩,
⟨4, ⟨(some 25), .p (.faddr 25 (.t 6)), none⟩, 0, 0⟩,
⟨5, ⟨(some 26), .r (.load none (.t 25)), none⟩, 16, 0⟩,
⟨7, ⟨(some 28), .m (.mkmap), none⟩, 0, 1024⟩,
⟨6, ⟨(some 27), .b (.call 43 [(.t 26)]), none⟩, 48, 0⟩,
⟨8, ⟨(some 29), .p (.build [zu64, zu64, zu64, zu64, zu64, .nils, .nilm] [(0, 1, (.t 22)), (1, 4, (.t 24)), (5, 1, (.t 27)), (6, 1, (.t 28))]), none⟩, 255, 0⟩,
⟨9, ⟨(some 30), .m (.box 97 (.t 29)), none⟩, 511, 1025⟩,
⟨10, ⟨(some 7), .p (.mv (.t 30)), none⟩, 1023, 0⟩]) (.seq (.seq (.reg [
oP w31 (pFaddr 26 g6),
oR w32 (rLoad none g31),
oP w33 (pGen fun _ t => opLen t (.t 32)),
oP w34 (pMv (gC (.w (.s (zi64)))))]) (.block 2 (.loop (.seq (.reg [
oK w35 (bCmp 2 lLt cGe true g34 g33)]) (.seq (.cond g35 (.skip) (.exit 2)) (.seq (.block 3 (.seq (.reg [
oP w36 (pIaddrS 8 g32 g34),
oR w37 (rLoad (some 8) g36),
oAlloc w9 65 [zu64, zu64, zu64, zu64, zu64, zu64, zu64, zu64],
oK wZ (bSt 8 g9 g37)]) (.draw [
⟨0, ⟨(some 38), .p (.mv (.t 7)), none⟩, 0, 0⟩,
⟨1, ⟨(some 39), .p (.nilCheck (.t 38)), none⟩, 1, 0⟩,
⟨2, ⟨(some 40), .p (.faddr 6 (.t 39)), none⟩, 3, 0⟩,
⟨3, ⟨(some 41), .r (.load none (.t 40)), none⟩, 7, 0⟩,
⟨4, ⟨(some 42), .p (.faddr 0 (.t 9)), none⟩, 0, 0⟩,
⟨5, ⟨(some 43), .r (.load (some 4) (.t 42)), none⟩, 16, 0⟩,
⟨6, ⟨(some 44), .p (.faddr 4 (.t 9)), none⟩, 0, 0⟩,
⟨7, ⟨(some 45), .r (.load (some 4) (.t 44)), none⟩, 64, 0⟩,
⟨8, ⟨none, .b (.mupd (.one (.arr 4 22 .u64)) (.t 41) (.t 43) (.t 45)), none⟩, 255, 0⟩]))) (.reg [
oP w46 (pAr 0 g34 (gC (.w (.s (ni64 1))))),
oP w34 (pMv g46)]))))))) (.seq (.seq (.draw [
⟨0, ⟨(some 47), .p (.mv (.t 7)), none⟩, 0, 0⟩,
⟨1, ⟨(some 48), .p (.nilCheck (.t 47)), none⟩, 1, 0⟩,
⟨2, ⟨(some 49), .p (.faddr 6 (.t 48)), none⟩, 3, 0⟩,
⟨3, ⟨(some 50), .r (.load none (.t 49)), none⟩, 7, 0⟩,
⟨4, ⟨(some 51), .r (.mlen (.t 50)), none⟩, 15, 0⟩,
⟨5, ⟨(some 52), .p (.faddr 26 (.t 6)), none⟩, 0, 0⟩,
⟨6, ⟨(some 53), .r (.load none (.t 52)), none⟩, 32, 0⟩,
⟨7, ⟨(some 54), .p (.len (.t 53)), none⟩, 96, 0⟩,
⟨8, ⟨(some 55), .b (.cmp 1 .int (.t 51) (.t 54)), none⟩, 255, 0⟩]) (.cond g55 (.seq (.reg [
oP w2 (pMv (gC (.w (.s (.nilp))))),
oP w3 (pMv (gC (.w (.s (ni64 9)))))]) (.ret)) (.skip))) (.seq (.reg [
oP w56 (pMv g7),
oP w57 (pGen fun _ t => opNil t (.t 56)),
oP w58 (pFaddr 6 g57),
oR w59 (rLoad none g58),
oCall w60 44 [g59, (gC (.w (.s (.fn 45 []))))]]) (.draw [
⟨0, ⟨(some 61), .p (.mv (.t 4)), none⟩, 0, 0⟩,
⟨1, ⟨(some 62), .p (.nilCheck (.t 61)), none⟩, 1, 0⟩,
⟨2, ⟨(some 63), .p (.faddr 0 (.t 62)), none⟩, 3, 0⟩,
⟨3, ⟨(some 64), .r (.load none (.t 63)), none⟩, 7, 0⟩,
⟨4, ⟨(some 65), .p (.faddr 0 (.t 6)), none⟩, 0, 0⟩,
⟨5, ⟨(some 66), .r (.load (some 20) (.t 65)), none⟩, 16, 0⟩,
⟨6, ⟨(some 67), .p (.mv (.t 7)), none⟩, 0, 0⟩,
⟨7, ⟨none, .b (.mupd (.one (.arr 20 5 .u8)) (.t 64) (.t 66) (.t 67)), none⟩, 127, 0⟩])))))))) (.reg [
oP w68 (pAr 0 g13 (gC (.w (.s (ni64 1))))),
oP w13 (pMv g68)]))))))) (.seq (.reg [
oP w69 (pMv g4),
oP w2 (pMv g69),
oP w3 (pMv (gC (.w (.s (zi64)))))]) (.ret))))⟩
theorem fp27 : ∃ fn, fb27 = denF fn ∧ ∃ func code hint, FnOk Go.Proofs.Tryz.prog TT 27 fn func code hint := f2_mk (func := Go.Proofs.Tryz.f27) (code := bodyOf Go.Proofs.Tryz.f27) (hint := hintL [(7, [(0, 0), (1, 0), (2, 0), (3, 0), (4, 0), (5, 0), (7, 1024), (6, 0), (8, 0), (9, 1025), (10, 0)]), (11, [(0, 0), (1, 0), (2, 0), (3, 0), (4, 0), (5, 0), (6, 0), (7, 0), (8, 0)]), (13, [(0, 0), (1, 0), (2, 0), (3, 0), (4, 0), (5, 0), (6, 0), (7, 0), (8, 0)]), (16, [(0, 0), (1, 0), (2, 0), (3, 0), (4, 0), (5, 0), (6, 0), (7, 0)])]) (n := 70) (res := [.tmp 2, .tmp 3]) Go.Proofs.Tryz.func27 Go.Proofs.Tryz.call27 (by kernel_rfl) (by kernel_rfl) (by kernel_rfl) (by kernel_rfl) (by kernel_rfl)
/- quarry/vm.Run -/
def fb28 : AFunc2 := ⟨132, [.cell (rLoad (some 24) g10), .tmp g11], .seq (.reg [
oBox w6 74 g1,
oBox w7 76 g2,
oBox w9 78 g4,
oAlloc w10 39 [zi64, .nils, zu64, zu8, zu8, zu8, zu8, zu8, zu8, zu8, zu8, zu8, zu8, zu8, zu8, zu8, zu8, zu8, zu8, zu8, zu8, zu8, zu8, zu64],
oP w11 (pMv (gC (.w (.s (zi64)))))]) (.seq (.reg [
oP w22 (pMv g0),
oCall w23 46 [g22],
oP w21 (pMv g23),
oP w24 (pExt g21 0),
oP w25 (pExt g21 1),
oAlloc w12 44 [zi64, zu64, zu64, zu64, zu64, zu64, zu64, zu64, zi64, zi64, zu64, zu64, zu64, zu64, zu64, zu64, zu64, zu64, zu64, zu64, zu64, zu64, zu64, zu64, zu64, zu64],
oK wZ (bSt 26 g12 g24),
oP w13 (pMv g25)]) (.seq (.seq (.reg [
oP w26 (pMv g13),
oK w27 (bCmp 1 nEq .eq true g26 (gC (.w (.s (zi64))))),
oP w28 (pMv g27),
oGd g28 false w29 (oP w29 (pMv g3)),
oGd g28 false w30 (oK w30 (b2 (fun x y s K => cmpA 0 .ptr x y s fun b s => K (vBool b) s) g29 (gC (.w (.s (.nilp)))))),
oP w31 (pGen fun _ t => opPick t (.t 28) (.c (.w (.s (.bool true)))) (.t 30)),
oP w32 (pMv g31),
oGd g32 false w33 (oP w33 (pFaddr 48 g9)),
oGd g32 false w34 (oR w34 (rLoad none g33)),
oGd g32 false w35 (oK w35 (bCmp 2 lLt cGe true g34 (gC (.w (.s (zi64)))))),
oP w36 (pGen fun _ t => opPick t (.t 32) (.c (.w (.s (.bool true)))) (.t 35)),
oP w37 (pMv g36),
oGd g37 false w38 (oP w38 (pFaddr 48 g9)),
oGd g37 false w39 (oR w39 (rLoad none g38)),
oGd g37 false w40 (oK w40 (bCmp 4 nLe .le true g39 (gC (.w (.s (ni64 1024)))))),
oP w41 (pGen fun _ t => opPick t (.t 37) (.c (.w (.s (.bool true)))) (.t 40)),
oP w42 (pMv g41),
oGd g42 false w43 (oP w43 (pFaddr 46 g9)),
oGd g42 false w44 (oR w44 (rLoad none g43)),
oGd g42 false w45 (oK w45 (bCmp 4 nLe .le true g44 (gC (.w (.s (nu64 9223372036854775807)))))),
oP w46 (pGen fun _ t => opPick t (.t 42) (.c (.w (.s (.bool true)))) (.t 45)),
oP w47 (pMv g46),
oGd g47 false w48 (oP w48 (pFaddr 36 g6)),
oGd g47 false w49 (oR w49 (rLoad none g48)),
oGd g47 false w50 (oP w50 (pGen fun _ t => opLen t (.t 49))),
oGd g47 false w51 (oK w51 (bCmp 4 nLe .le true g50 (gC (.w (.s (ni64 256)))))),
oP w52 (pGen fun _ t => opPick t (.t 47) (.c (.w (.s (.bool true)))) (.t 51)),
oP w53 (pMv g52),
oGd g53 false w54 (oP w54 (pFaddr 0 g9)),
oGd g53 false w55 (oR w55 (rLoad none g54)),
oGd g53 false w56 (oP w56 (pMv g55)),
oGd g56 true w57 (oP w57 (pFaddr 47 g9)),
oGd g56 true w58 (oR w58 (rLoad none g57)),
oGd g53 false w59 (oP w59 (pGen fun _ t => opPick t (.t 56) (.t 58) (.c (.w (.s (.bool false)))))),
oP w60 (pGen fun _ t => opPick t (.t 53) (.c (.w (.s (.bool true)))) (.t 59))]) (.cond g60 (.seq (.reg [
oP w61 (pBuild [zi64, .nils, zu64, zu8, zu8, zu8, zu8, zu8, zu8, zu8, zu8, zu8, zu8, zu8, zu8, zu8, zu8, zu8, zu8, zu8, zu8, zu8, zu8, zu64] []),
oK wZ (bSt 24 g10 g61),
oP w11 (pMv (gC (.w (.s (ni64 1)))))]) (.ret)) (.skip))) (.seq (.reg [
oP w62 (pMv g0),
oR w63 (rLoad (some 26) g12),
oR w64 (rLoad (some 37) g6),
oR w65 (rLoad (some 25) g7),
oP w66 (pMv g3),
oP w67 (pBuild [zi64, zi64, zu64, zu64, zu64, zu64, zu64, zu64, zu64, zi64, zi64, zu64, zu64, zu64, zu64, zu64, zu64, zu64, zu64, zu64, zu64, zu64, zu64, zu64, zu64, zu64, zu64, zu8, zu8, zu8, zu8, zu8, zu8, zu8, zu8, zu8, zu8, zu8, zu8, zu8, zu8, zu8, zu8, zu8, zu8, zu8, zu8, zu64, zu64, zu64, zu64, zu64, zu64, zu64, zu64, zu64, zu64, zu64, zu64, zu64, zu64, zu64, zu64, .nils, zu8, zu8, zu8, zu8, zu8, zu8, zu8, zu8, zu8, zu8, zu8, zu8, zu8, zu8, zu8, zu8, zu8, zu8, zu8, zu8, zu64, zu64, zu64, zu64, .nils, .nilp, zu64, .bool false, zi64, zi64, zu64, .bool false, zi64, zi64, zu64, .bool false, zi64, zi64, zu64, .bool false, zi64, zi64, zu64, .bool false, zi64, zi64, zu64, .bool false, zi64, zi64, zu64, .bool false, zi64, zi64, zu64, .bool false, zi64, zi64, zu64, .bool false, zi64, zi64, zu64, .bool false, zi64, zi64, zu64, .bool false, zi64, zi64, zu64, .bool false, zi64, zi64, zu64, .bool false, zi64, zi64, zu64, .bool false, zi64, zi64, zu64, .bool false, zi64, zi64, zu64, .bool false, zi64, zi64, zu64, .bool false, zi64, zi64, zu64, .bool false, zi64, zi64, zu64, .bool false, zi64, zi64, zu64, .bool false, zi64, zi64, zu64, .bool false, zi64, zi64, zu64, .bool false, zi64, zi64, zu64, .bool false, zi64, zi64, zu64, .bool false, zi64, zi64, zu64, .bool false, zi64, zi64, zu64, .bool false, zi64, zi64, zu64, .bool false, zi64, zi64, zu64, .bool false, zi64, zi64, zu64, .bool false, zi64, zi64, zu64, .bool false, zi64, zi64, zu64, .bool false, zi64, zi64, zu64, .bool false, zi64, zi64, zu64, .bool false, zi64, zi64, zu64, .bool false, zi64, zi64, zu64, .bool false, zi64, zi64, zu64, .bool false, zi64, zi64, zu64, .bool false, zi64, zi64, zu64, .bool false, zi64, zi64, zu64, .bool false, zi64, zi64, zu64, .bool false, zi64, zi64, zu64, .bool false, zi64, zi64, zu64, .bool false, zi64, zi64, zu64, .bool false, zi64, zi64, zu64, .bool false, zi64, zi64, zu64, .bool false, zi64, zi64, zu64, .bool false, zi64, zi64, zu64, .bool false, zi64, zi64, zu64, .bool false, zi64, zi64, zu64, .bool false, zi64, zi64, zu64, .bool false, zi64, zi64, zu64, .bool false, zi64, zi64, zu64, .bool false, zi64, zi64, zu64, .bool false, zi64, zi64, zu64, .bool false, zi64, zi64, zu64, .bool false, zi64, zi64, zu64, .bool false, zi64, zi64, zu64, .bool false, zi64, zi64, zu64, .bool false, zi64, zi64, zu64, .bool false, zi64, zi64, zu64, .bool false, zi64, zi64, zu64, .bool false, zi64, zi64, zu64, .bool false, zi64, zi64, zu64, .bool false, zi64, zi64, zu64, .bool false, zi64, zi64, zu64, .bool false, zi64, zi64, zu64, .bool false, zi64, zi64, zu64, .bool false, zi64, zi64, zu64, .bool false, zi64, zi64, zu64, .bool false, zi64, zi64, zu64, .bool false, zi64, zi64, zu64, .bool false, zi64, zi64, zu64, .bool false, zi64, zi64, zu64, .bool false, zi64, zi64, zu64, .bool false, zi64, zi64, zu64, .bool false, zi64, zi64, zu64, .bool false, zi64, zi64, zu64, .bool false, zi64, zi64, zu64, .bool false, zi64, zi64, zu64, .bool false, zi64, zi64, zu64, .bool false, zi64, zi64, zu64, .bool false, zi64, zi64, zu64, .bool false, zi64, zi64, zu64, .bool false, zi64, zi64, zu64, .bool false, zi64, zi64, zu64, .bool false, zi64, zi64, zu64, .bool false, zi64, zi64, zu64, .bool false, zi64, zi64, zu64, .bool false, zi64, zi64, zu64, .bool false, zi64, zi64, zu64, .bool false, zi64, zi64, zu64, .bool false, zi64, zi64, zu64, .bool false, zi64, zi64, zu64, .bool false, zi64, zi64, zu64, .bool false, zi64, zi64, zu64, .bool false, zi64, zi64, zu64, .bool false, zi64, zi64, zu64, .bool false, zi64, zi64, zu64, .bool false, zi64, zi64, zu64, .bool false, zi64, zi64, zu64, .bool false, zi64, zi64, zu64, .bool false, zi64, zi64, zu64, .bool false, zi64, zi64, zu64, .bool false, zi64, zi64, zu64, .bool false, zi64, zi64, zu64, .bool false, zi64, zi64, zu64, .bool false, zi64, zi64, zu64, .bool false, zi64, zi64, zu64, .bool false, zi64, zi64, zu64, .bool false, zi64, zi64, zu64, .bool false, zi64, zi64, zu64, .bool false, zi64, zi64, zu64, .bool false, zi64, zi64, zu64, .bool false, zi64, zi64, zu64, .bool false, zi64, zi64, zu64, .bool false, zi64, zi64, zu64, .bool false, zi64, zi64, zu64, .bool false, zi64, zi64, zu64, .bool false, zi64, zi64, zu64, .bool false, zi64, zi64, zu64, .bool false, zi64, zi64, zu64, .bool false, zi64, zi64, zu64, .bool false, zi64, zi64, zu64, .bool false, zi64, zi64, zu64, .bool false, zi64, zi64, zu64, .bool false, zi64, zi64, zu64, .bool false, zi64, zi64, zu64, .bool false, zi64, zi64, zu64, .bool false, zi64, zi64, zu64, .bool false, zi64, zi64, zu64, .bool false, zi64, zi64, zu64, .bool false, zi64, zi64, zu64, .bool false, zi64, zi64, zu64, .bool false, zi64, zi64, zu64, .bool false, zi64, zi64, zu64, .bool false, zi64, zi64, zu64, .bool false, zi64, zi64, zu64, .bool false, zi64, zi64, zu64, .bool false, zi64, zi64, zu64, .bool false, zi64, zi64, zu64, .bool false, zi64, zi64, zu64, .bool false, zi64, zi64, zu64, .bool false, zi64, zi64, zu64, .bool false, zi64, zi64, zu64, .bool false, zi64, zi64, zu64, .bool false, zi64, zi64, zu64, .bool false, zi64, zi64, zu64, .bool false, zi64, zi64, zu64, .bool false, zi64, zi64, zu64, .bool false, zi64, zi64, zu64, .bool false, zi64, zi64, zu64, .bool false, zi64, zi64, zu64, .bool false, zi64, zi64, zu64, .bool false, zi64, zi64, zu64, .bool false, zi64, zi64, zu64, .bool false, zi64, zi64, zu64, .bool false, zi64, zi64, zu64, .bool false, zi64, zi64, zu64, .bool false, zi64, zi64, zu64, .bool false, zi64, zi64, zu64, .bool false, zi64, zi64, zu64, .bool false, zi64, zi64, zu64, .bool false, zi64, zi64, zu64, .bool false, zi64, zi64, zu64, .bool false, zi64, zi64, zu64, .bool false, zi64, zi64, zu64, .bool false, zi64, zi64, zu64, .bool false, zi64, zi64, zu64, .bool false, zi64, zi64, zu64, .bool false, zi64, zi64, zu64, .bool false, zi64, zi64, zu64, .bool false, zi64, zi64, zu64, .bool false, zi64, zi64, zu64, .bool false, zi64, zi64, zu64, .bool false, zi64, zi64, zu64, .bool false, zi64, zi64, zu64, .bool false, zi64, zi64, zu64, .bool false, zi64, zi64, zu64, .bool false, zi64, zi64, zu64, .bool false, zi64, zi64, zu64, .bool false, zi64, zi64, zu64, .bool false, zi64, zi64, zu64, .bool false, zi64, zi64, zu64, .bool false, zi64, zi64, zu64, .bool false, zi64, zi64, zu64, .bool false, zi64, zi64, zu64, .bool false, zi64, zi64, zu64, .bool false, zi64, zi64, zu64, .bool false, zi64, zi64, zu64, .bool false, zi64, zi64, zu64, .bool false, zi64, zi64, zu64, .bool false, zi64, zi64, zu64, .bool false, zi64, zi64, zu64, .bool false, zi64, zi64, zu64, .bool false, zi64, zi64, zu64, .bool false, zi64, zi64, zu64, .bool false, zi64, zi64, zu64, .bool false, zi64, zi64, zu64, .bool false, zi64, zi64, zu64, .bool false, zi64, zi64, zu64, .bool false, zi64, zi64, zu64, .bool false, zi64, zi64, zu64, .bool false, zi64, zi64, zu64, .bool false, zi64, zi64, zu64, .bool false, zi64, zi64, zu64, .bool false, zi64, zi64, zu64, .bool false, zi64, zi64, zu64, .bool false, zi64, zi64, zu64, .bool false, zi64, zi64, zu64, .bool false, zi64, zi64, zu64, .bool false, zi64, zi64, zu64, .bool false, zi64, zi64, zu64, .bool false, zi64, zi64, zu64, .bool false, zi64, zi64, zu64, .bool false, zi64, zi64, zu64, .bool false, zi64, zi64, zu64, .bool false, zi64, zi64, zu64, .bool false, zi64, zi64, zu64, .bool false, zi64, zi64, zu64, .bool false, zi64, zi64, zu64, .bool false, zi64, zi64, zu64, .bool false, zi64, zi64, zu64, .bool false, zi64, zi64, zu64, .bool false, zi64, zi64, zu64, .bool false, zi64, zi64, zu64, .bool false, zi64, zi64, zu64, .bool false, zi64, zi64, zu64, .bool false, zi64, zi64, zu64, .bool false, zi64, zi64, zu64, .bool false, zi64, zi64, zu64, .bool false, zi64, zi64, zu64, .bool false, zi64, zi64, zu64, .bool false, zi64, zi64, zu64, .bool false, zi64, zi64, zu64, .bool false, zi64, zi64, zu64, .bool false, zi64, zi64, zu64, .bool false, zi64, zi64, zu64, .bool false, zi64, zi64, zu64, .bool false, zi64, zi64, zu64, .bool false, zi64, zi64, zu64, .bool false, zi64, zi64, zu64, .bool false, zi64, zi64, zu64, .bool false, zi64, zi64, zu64, .bool false, zi64, zi64, zu64, .bool false, zi64, zi64, zu64, .bool false, zi64, zi64, zu64, .bool false, zi64, zi64, zu64, .bool false, zi64, zi64, zu64, .bool false, zi64, zi64, zu64, .bool false, zi64, zi64, zu64, .bool false, zi64, zi64, zu64, .bool false, zi64, zi64, zu64, .bool false, zi64, zi64, zu64, .bool false, zi64, zi64, zu64, .bool false, zi64, zi64, zu64, .bool false, zi64, zi64, zu64, .bool false, zi64, zi64, zu64] [(0, 1, g62), (1, 26, g63), (27, 37, g64), (64, 25, g65), (89, 1, g66)]),
oBox w68 126 g67,
oP w14 (pMv g68)]) (.seq (.seq (.reg [
oP w69 (pMv (gC (.w (.s (zi64)))))]) (.block 0 (.loop (.seq (.reg [
oK w70 (bCmp 2 lLt cGe true g69 (gC (.w (.s (ni64 256)))))]) (.seq (.cond g70 (.skip) (.exit 0)) (.seq (.block 1 (.seq (.reg [
oP w71 (pMv g69),
oP w15 (pMv g71)]) (.seq (.reg [
oP w73 (pMv g0),
oP w74 (pMv g15),
oCall w75 36 [g73, g74],
oP w72 (pMv g75),
oP w76 (pExt g72 0),
oP w77 (pExt g72 1),
oP w78 (pExt g72 2),
oP w16 (pMv g76),
oP w17 (pMv g77),
oP w18 (pMv g78)]) (.draw [
⟨0, ⟨(some 79), .p (.mv (.t 14)), none⟩, 0, 0⟩,
⟨1, ⟨(some 80), .p (.mv (.t 15)), none⟩, 0, 0⟩,
⟨2, ⟨(some 81), .p (.mv (.t 18)), none⟩, 0, 0⟩,
⟨3, ⟨(some 82), .p (.mv (.t 16)), none⟩, 0, 0⟩,
⟨4, ⟨(some 83), .p (.mv (.t 17)), none⟩, 0, 0⟩,
⟨5, ⟨(some 84), .r (.load (some 26) (.t 12)), none⟩, 0, 0⟩,
⟨6, ⟨(some 85), .p (.mv (.t 15)), none⟩, 0, 0⟩,
⟨9, ⟨(some 88), .p (.nilCheck (.t 79)), none⟩, 1, 0⟩,
⟨10, ⟨(some 89), .p (.faddr 91 (.t 88)), none⟩, 513, 0⟩,
⟨7, ⟨(some 86), .b (.call 47 [(.t 84), (.t 85)]), none⟩, 96, 0⟩,
⟨8, ⟨(some 87), .p (.build [.bool false, zi64, zi64, zu64] [(0, 1, (.t 81)), (1, 1, (.t 82)), (2, 1, (.t 83)), (3, 1, (.t 86))]), none⟩, 252, 0⟩,
⟨11, ⟨(some 90), .p (.iaddrA 256 4 (.t 89) (.t 80)), none⟩, 2047, 0⟩,
⟨12, ⟨none, .b (.store 4 (.t 90) (.t 87)), none⟩, 4095, 0⟩])))) (.reg [
oP w91 (pAr 0 g69 (gC (.w (.s (ni64 1))))),
oP w69 (pMv g91)]))))))) (.seq (.reg [
oP w92 (pFaddr 1 g9),
oR w93 (rLoad (some 20) g92),
oP w94 (pFaddr 21 g9),
oR w95 (rLoad (some 20) g94),
oP w96 (pFaddr 21 g9),
oR w97 (rLoad (some 20) g96),
oP w98 (pFaddr 41 g9),
oR w99 (rLoad (some 4) g98),
oP w100 (pFaddr 45 g9),
oR w101 (rLoad none g100),
oP w102 (pFaddr 46 g9),
oR w103 (rLoad none g102),
oP w104 (pFaddr 47 g9),
oR w105 (rLoad none g104),
oP w106 (pFaddr 48 g9),
oR w107 (rLoad none g106),
oP w108 (pBuild [zu8, zu8, zu8, zu8, zu8, zu8, zu8, zu8, zu8, zu8, zu8, zu8, zu8, zu8, zu8, zu8, zu8, zu8, zu8, zu8, zu8, zu8, zu8, zu8, zu8, zu8, zu8, zu8, zu8, zu8, zu8, zu8, zu8, zu8, zu8, zu8, zu8, zu8, zu8, zu8, zu8, zu8, zu8, zu8, zu8, zu8, zu8, zu8, zu8, zu8, zu8, zu8, zu8, zu8, zu8, zu8, zu8, zu8, zu8, zu8, zu64, zu64, zu64, zu64, .nils, zu64, .bool false, zi64] [(0, 20, g93), (20, 20, g95), (40, 20, g97), (60, 4, g99), (64, 1, g101), (65, 1, g103), (66, 1, g105), (67, 1, g107)]),
oAlloc w19 129 [zu8, zu8, zu8, zu8, zu8, zu8, zu8, zu8, zu8, zu8, zu8, zu8, zu8, zu8, zu8, zu8, zu8, zu8, zu8, zu8, zu8, zu8, zu8, zu8, zu8, zu8, zu8, zu8, zu8, zu8, zu8, zu8, zu8, zu8, zu8, zu8, zu8, zu8, zu8, zu8, zu8, zu8, zu8, zu8, zu8, zu8, zu8, zu8, zu8, zu8, zu8, zu8, zu8, zu8, zu8, zu8, zu8, zu8, zu8, zu8, zu64, zu64, zu64, zu64, .nils, zu64, .bool false, zi64],
oK wZ (bSt 68 g19 g108)]) (.seq (.reg [
oAlloc w20 131 [zi64, .nils, zu64, zu8, zu8, zu8, zu8, zu8, zu8, zu8, zu8, zu8, zu8, zu8, zu8, zu8, zu8, zu8, zu8, zu8, zu8, zu8, zu8]]) (.seq (.seq (.reg [
oP w109 (pFaddr 0 g9),
oR w110 (rLoad none g109)]) (.cond g110 (.reg [
oP w111 (pMv g14),
oR w112 (rLoad (some 68) g19),
oP w113 (pGen fun _ t => opMkfn t 49 [(.t 9)]),
oCall w114 48 [g111, g112, g113],
oK wZ (bSt 23 g20 g114)]) (.reg [
oP w115 (pMv g14),
oR w116 (rLoad (some 68) g19),
oCall w117 51 [g115, g116],
oK wZ (bSt 23 g20 g117)]))) (.seq (.draw [
⟨0, ⟨(some 118), .p (.faddr 0 (.t 20)), none⟩, 0, 0⟩,
⟨1, ⟨(some 119), .r (.load none (.t 118)), none⟩, 1, 0⟩,
⟨2, ⟨(some 120), .p (.faddr 1 (.t 20)), none⟩, 0, 0⟩,
⟨3, ⟨(some 121), .r (.load none (.t 120)), none⟩, 4, 0⟩,
⟨5, ⟨(some 123), .p (.faddr 2 (.t 20)), none⟩, 0, 0⟩,
⟨6, ⟨(some 124), .r (.load none (.t 123)), none⟩, 32, 0⟩,
⟨7, ⟨(some 125), .p (.faddr 3 (.t 20)), none⟩, 0, 0⟩,
⟨8, ⟨(some 126), .r (.load (some 20) (.t 125)), none⟩, 128, 0⟩,
⟨9, ⟨(some 127), .p (.mv (.t 14)), none⟩, 0, 0⟩,
⟨10, ⟨(some 128), .p (.nilCheck (.t 127)), none⟩, 512, 0⟩,
⟨11, ⟨(some 129), .p (.faddr 90 (.t 128)), none⟩, 1536, 0⟩,
⟨12, ⟨(some 130), .r (.load none (.t 129)), none⟩, 3584, 0⟩,
⟨4, ⟨(some 122), .b (.append 5 1 1 (.c (.w (.s (.nils)))) (.t 121)), none⟩, 12, 0⟩,
⟨13, ⟨(some 131), .p (.build [zi64, .nils, zu64, zu8, zu8, zu8, zu8, zu8, zu8, zu8, zu8, zu8, zu8, zu8, zu8, zu8, zu8, zu8, zu8, zu8, zu8, zu8, zu8, zu64] [(0, 1, (.t 119)), (1, 1, (.t 122)), (2, 1, (.t 124)), (3, 20, (.t 126)), (23, 1, (.t 130))]), none⟩, 8191, 0⟩,
⟨14, ⟨none, .b (.store 24 (.t 10) (.t 131)), none⟩, 16383, 0⟩,
⟨15, ⟨(some 11), .p (.mv (.c (.w (.s (zi64))))), none⟩, 32767, 0⟩]) (.ret)))))))))⟩
theorem fp28 : ∃ fn, fb28 = denF fn ∧ ∃ func code hint, FnOk Go.Proofs.Tryz.prog TT 28 fn func code hint := f2_mk (func := Go.Proofs.Tryz.f28) (code := bodyOf Go.Proofs.Tryz.f28) (hint := hintL [(9, [(0, 0), (1, 0), (2, 0), (3, 0), (4, 0), (5, 0), (6, 0), (9, 0), (10, 0), (7, 0), (8, 0), (11, 0), (12, 0)]), (16, [(0, 0), (1, 0), (2, 0), (3, 0), (5, 0), (6, 0), (7, 0), (8, 0), (9, 0), (10, 0), (11, 0), (12, 0), (4, 0), (13, 0), (14, 0), (15, 0)])]) (n := 132) (res := [.cell 10 (some 24), .tmp 11]) Go.Proofs.Tryz.func28 Go.Proofs.Tryz.call28 (by kernel_rfl) (by kernel_rfl) (by kernel_rfl) (by kernel_rfl) (by kernel_rfl)
/- quarry/gas.Store -/
def fb29 : AFunc2 := ⟨106, [.tmp g4, .tmp g5, .tmp g6, .tmp g7], .seq (.reg [
oBox w2 44 g0,
oBox w3 82 g1,
oP w4 (pMv (gC (.w (.s (zu64))))),
oP w5 (pMv (gC (.w (.s (zu64))))),
oP w6 (pMv (gC (.w (.s (zu64))))),
oP w7 (pMv (gC (.w (.s (.bool false)))))]) (.seq (.reg [
oP w10 (pBuild [zu64, zu64, zu64, zu64] []),
oAlloc w8 24 [zu64, zu64, zu64, zu64],
oK wZ (bSt 4 g8 g10)]) (.seq (.block 0 (.seq (.reg [
oR w12 (rLoad (some 26) g2),
oCall w13 52 [g12],
oP w11 (pMv g13)]) (.cond g11 (.seq (.reg [
oP w4 (pMv (gC (.w (.s (nu64 5000)))))]) (.seq (.seq (.reg [
oP w14 (pFaddr 4 g3),
oR w15 (rLoad (some 4) g14),
oR w16 (rLoad (some 4) g8),
oK w17 (b2 (fun x y s K => cmpA 0 (.agg (.one (.arr 4 22 .u64))) x y s fun b s => K (vBool b) s) g15 g16),
oP w18 (pMv g17),
oGd g18 true w19 (oP w19 (pFaddr 8 g3)),
oGd g18 true w20 (oR w20 (rLoad (some 4) g19)),
oGd g18 true w21 (oR w21 (rLoad (some 4) g8)),
oGd g18 true w22 (oK w22 (b2 (fun x y s K => cmpA 1 (.agg (.one (.arr 4 22 .u64))) x y s fun b s => K (vBool b) s) g20 g21)),
oP w23 (pGen fun _ t => opPick t (.t 18) (.t 22) (.c (.w (.s (.bool false)))))]) (.cond g23 (.reg [
oP w4 (pMv (gC (.w (.s (nu64 20000)))))]) (.skip))) (.seq (.seq (.reg [
oP w24 (pFaddr 4 g3),
oR w25 (rLoad (some 4) g24),
oR w26 (rLoad (some 4) g8),
oK w27 (b2 (fun x y s K => cmpA 1 (.agg (.one (.arr 4 22 .u64))) x y s fun b s => K (vBool b) s) g25 g26),
oP w28 (pMv g27),
oGd g28 true w29 (oP w29 (pFaddr 8 g3)),
oGd g28 true w30 (oR w30 (rLoad (some 4) g29)),
oGd g28 true w31 (oR w31 (rLoad (some 4) g8)),
oGd g28 true w32 (oK w32 (b2 (fun x y s K => cmpA 0 (.agg (.one (.arr 4 22 .u64))) x y s fun b s => K (vBool b) s) g30 g31)),
oP w33 (pGen fun _ t => opPick t (.t 28) (.t 32) (.c (.w (.s (.bool false)))))]) (.cond g33 (.reg [
oP w34 (pFaddr 22 g2),
oR w35 (rLoad none g34),
oP w5 (pMv g35)]) (.skip))) (.seq (.reg [
oP w36 (pMv g4),
oP w37 (pMv g5),
oP w4 (pMv g36),
oP w5 (pMv g37),
oP w6 (pMv (gC (.w (.s (zu64))))),
oP w7 (pMv (gC (.w (.s (.bool true)))))]) (.ret))))) (.seq (.reg [
oP w39 (pFaddr 0 g2),
oR w40 (rLoad none g39),
oK w41 (bCmp 5 gLe cGe false g40 (gC (.w (.s (ni64 7))))),
oP w42 (pMv g41),
oGd g42 true w43 (oP w43 (pFaddr 13 g3)),
oGd g42 true w44 (oR w44 (rLoad none g43)),
oGd g42 true w45 (oK w45 (bCmp 3 intLe .le false g44 (gC (.w (.s (nu64 2300)))))),
oP w46 (pGen fun _ t => opPick t (.t 42) (.t 45) (.c (.w (.s (.bool false))))),
oP w38 (pMv g46)]) (.cond g38 (.seq (.reg [
oP w4 (pMv (gC (.w (.s (zu64))))),
oP w5 (pMv (gC (.w (.s (zu64))))),
oP w6 (pMv (gC (.w (.s (zu64))))),
oP w7 (pMv (gC (.w (.s (.bool false)))))]) (.ret)) (.skip)))))) (.seq (.reg [
oR w47 (rLoad (some 26) g2),
oCall w48 53 [g47],
oAlloc w9 138 [zu64, zu64, zu64],
oK wZ (bSt 3 g9 g48)]) (.seq (.reg [
oP w49 (pFaddr 0 g9),
oR w50 (rLoad none g49),
oP w4 (pMv g50)]) (.seq (.block 1 (.seq (.reg [
oP w58 (pFaddr 4 g3),
oR w59 (rLoad (some 4) g58),
oP w60 (pFaddr 8 g3),
oR w61 (rLoad (some 4) g60),
oK w62 (b2 (fun x y s K => cmpA 0 (.agg (.one (.arr 4 22 .u64))) x y s fun b s => K (vBool b) s) g59 g61),
oP w57 (pMv g62)]) (.cond g57 (.skip) (.seq (.reg [
oP w64 (pFaddr 0 g3),
oR w65 (rLoad (some 4) g64),
oP w66 (pFaddr 4 g3),
oR w67 (rLoad (some 4) g66),
oK w68 (b2 (fun x y s K => cmpA 0 (.agg (.one (.arr 4 22 .u64))) x y s fun b s => K (vBool b) s) g65 g67),
oP w69 (pMv g68),
oGd g69 true w70 (oP w70 (pFaddr 0 g3)),
oGd g69 true w71 (oR w71 (rLoad (some 4) g70)),
oGd g69 true w72 (oR w72 (rLoad (some 4) g8)),
oGd g69 true w73 (oK w73 (b2 (fun x y s K => cmpA 0 (.agg (.one (.arr 4 22 .u64))) x y s fun b s => K (vBool b) s) g71 g72)),
oP w74 (pGen fun _ t => opPick t (.t 69) (.t 73) (.c (.w (.s (.bool false))))),
oP w63 (pMv g74)]) (.cond g63 (.reg [
oP w75 (pFaddr 1 g9),
oR w76 (rLoad none g75),
oP w4 (pMv g76)]) (.seq (.reg [
oP w78 (pFaddr 0 g3),
oR w79 (rLoad (some 4) g78),
oP w80 (pFaddr 4 g3),
oR w81 (rLoad (some 4) g80),
oK w82 (b2 (fun x y s K => cmpA 0 (.agg (.one (.arr 4 22 .u64))) x y s fun b s => K (vBool b) s) g79 g81),
oP w77 (pMv g82)]) (.cond g77 (.seq (.reg [
oP w83 (pFaddr 2 g9),
oR w84 (rLoad none g83),
oP w4 (pMv g84)]) (.seq (.reg [
oP w85 (pFaddr 8 g3),
oR w86 (rLoad (some 4) g85),
oR w87 (rLoad (some 4) g8),
oK w88 (b2 (fun x y s K => cmpA 0 (.agg (.one (.arr 4 22 .u64))) x y s fun b s => K (vBool b) s) g86 g87)]) (.cond g88 (.reg [
oP w89 (pFaddr 22 g2),
oR w90 (rLoad none g89),
oP w5 (pMv g90)]) (.skip)))) (.reg [
oR w52 (rLoad (some 26) g2),
oR w53 (rLoad (some 14) g3),
oCall w54 54 [g52, g53],
oP w51 (pMv g54),
oP w55 (pExt g51 0),
oP w56 (pExt g51 1),
oP w5 (pMv g55),
oP w6 (pMv g56)])))))))) (.seq (.seq (.reg [
oP w91 (pFaddr 0 g2),
oR w92 (rLoad none g91),
oK w93 (bCmp 5 gLe cGe false g92 (gC (.w (.s (ni64 9))))),
oP w94 (pMv g93),
oGd g94 true w95 (oP w95 (pFaddr 12 g3)),
oGd g94 true w96 (oR w96 (rLoad none g95)),
oGd g94 true w97 (oP w97 (pNot g96)),
oP w98 (pGen fun _ t => opPick t (.t 94) (.t 97) (.c (.w (.s (.bool false)))))]) (.cond g98 (.reg [
oP w99 (pMv g4),
oP w100 (pFaddr 16 g2),
oR w101 (rLoad none g100),
oP w102 (pAr 0 g99 g101),
oP w4 (pMv g102)]) (.skip))) (.seq (.reg [
oP w103 (pMv g4),
oP w104 (pMv g5),
oP w105 (pMv g6),
oP w4 (pMv g103),
oP w5 (pMv g104),
oP w6 (pMv g105),
oP w7 (pMv (gC (.w (.s (.bool true)))))]) (.ret))))))))⟩
theorem fp29 : ∃ fn, fb29 = denF fn ∧ ∃ func code hint, FnOk Go.Proofs.Tryz.prog TT 29 fn func code hint := f2_mk (func := Go.Proofs.Tryz.f29) (code := bodyOf Go.Proofs.Tryz.f29) (hint := hintL []) (n := 106) (res := [.tmp 4, .tmp 5, .tmp 6, .tmp 7]) Go.Proofs.Tryz.func29 Go.Proofs.Tryz.call29 (by kernel_rfl) (by kernel_rfl) (by kernel_rfl) (by kernel_rfl) (by kernel_rfl)
/- (*quarry/state.State).Refund -/
def fb30 : AFunc2 := ⟨8, [.tmp g2], .seq (.reg [
oP w2 (pMv (gC (.w (.s (zu64)))))]) (.seq (.reg [
oP w3 (pMv g0),
oP w4 (pGen fun _ t => opNil t (.t 3)),
oP w5 (pFaddr 1 g4),
oP w6 (pFaddr 7 g5),
oR w7 (rLoad none g6),
oP w2 (pMv g7)]) (.ret))⟩
theorem fp30 : ∃ fn, fb30 = denF fn ∧ ∃ func code hint, FnOk Go.Proofs.Tryz.prog TT 30 fn func code hint := f2_mk (func := Go.Proofs.Tryz.f30) (code := bodyOf Go.Proofs.Tryz.f30) (hint := hintL []) (n := 8) (res := [.tmp 2]) Go.Proofs.Tryz.func30 Go.Proofs.Tryz.call30 (by kernel_rfl) (by kernel_rfl) (by kernel_rfl) (by kernel_rfl) (by kernel_rfl)
/- (*quarry/state.State).Slot -/
def fb31 : AFunc2 := ⟨15, [.cell (rLoad (some 4) g6)], .seq (.reg [
oBox w4 30 g1,
oBox w5 24 g2,
oAlloc w6 24 [zu64, zu64, zu64, zu64]]) (.seq (.draw [
⟨0, ⟨(some 7), .p (.mv (.t 0)), none⟩, 0, 0⟩,
⟨1, ⟨(some 8), .r (.load (some 20) (.t 4)), none⟩, 0, 0⟩,
⟨6, ⟨(some 13), .r (.load (some 4) (.t 5)), none⟩, 0, 0⟩,
⟨2, ⟨(some 9), .b (.call 39 [(.t 7), (.t 8)]), none⟩, 3, 0⟩,
⟨3, ⟨(some 10), .p (.nilCheck (.t 9)), none⟩, 7, 0⟩,
⟨4, ⟨(some 11), .p (.faddr 6 (.t 10)), none⟩, 15, 0⟩,
⟨5, ⟨(some 12), .r (.load none (.t 11)), none⟩, 31, 0⟩,
⟨7, ⟨(some 14), .r (.lookup (.one (.arr 4 22 .u64)) (.agg [zu64, zu64, zu64, zu64]) (.t 12) (.t 13) false), none⟩, 127, 0⟩,
⟨8, ⟨none, .b (.store 4 (.t 6) (.t 14)), none⟩, 255, 0⟩]) (.ret))⟩
theorem fp31 : ∃ fn, fb31 = denF fn ∧ ∃ func code hint, FnOk Go.Proofs.Tryz.prog TT 31 fn func code hint := f2_mk (func := Go.Proofs.Tryz.f31) (code := bodyOf Go.Proofs.Tryz.f31) (hint := hintL [(1, [(0, 0), (1, 0), (6, 0), (2, 0), (3, 0), (4, 0), (5, 0), (7, 0), (8, 0)])]) (n := 15) (res := [.cell 6 (some 4)]) Go.Proofs.Tryz.func31 Go.Proofs.Tryz.call31 (by kernel_rfl) (by kernel_rfl) (by kernel_rfl) (by kernel_rfl) (by kernel_rfl)
/- (*quarry/state.State).Exists -/
def fb33 : AFunc2 := ⟨12, [.tmp g4], .seq (.reg [
oBox w3 30 g1,
oP w4 (pMv (gC (.w (.s (.bool false)))))]) (.seq (.draw [
⟨0, ⟨(some 5), .p (.mv (.t 0)), none⟩, 0, 0⟩,
⟨1, ⟨(some 6), .p (.nilCheck (.t 5)), none⟩, 1, 0⟩,
⟨2, ⟨(some 7), .p (.faddr 0 (.t 6)), none⟩, 3, 0⟩,
⟨3, ⟨(some 8), .r (.load none (.t 7)), none⟩, 7, 0⟩,
⟨4, ⟨(some 9), .r (.load (some 20) (.t 3)), none⟩, 0, 0⟩,
⟨5, ⟨(some 10), .r (.lookup (.one (.arr 20 5 .u8)) (.s (.nilp)) (.t 8) (.t 9) false), none⟩, 31, 0⟩,
⟨6, ⟨(some 11), .b (.cmp 1 .ptr (.t 10) (.c (.w (.s (.nilp))))), none⟩, 63, 0⟩,
⟨7, ⟨(some 4), .p (.mv (.t 11)), none⟩, 127, 0⟩]) (.ret))⟩
theorem fp33 : ∃ fn, fb33 = denF fn ∧ ∃ func code hint, FnOk Go.Proofs.Tryz.prog TT 33 fn func code hint := f2_mk (func := Go.Proofs.Tryz.f33) (code := bodyOf Go.Proofs.Tryz.f33) (hint := hintL [(1, [(0, 0), (1, 0), (2, 0), (3, 0), (4, 0), (5, 0), (6, 0), (7, 0)])]) (n := 12) (res := [.tmp 4]) Go.Proofs.Tryz.func33 Go.Proofs.Tryz.call33 (by kernel_rfl) (by kernel_rfl) (by kernel_rfl) (by kernel_rfl) (by kernel_rfl)
/- (*quarry/state.State).Balance -/
def fb34 : AFunc2 := ⟨11, [.cell (rLoad (some 4) g4)], .seq (.reg [
oBox w3 30 g1,
oAlloc w4 24 [zu64, zu64, zu64, zu64]]) (.seq (.reg [
oP w5 (pMv g0),
oR w6 (rLoad (some 20) g3),
oCall w7 39 [g5, g6],
oP w8 (pGen fun _ t => opNil t (.t 7)),
oP w9 (pFaddr 1 g8),
oR w10 (rLoad (some 4) g9),
oK wZ (bSt 4 g4 g10)]) (.ret))⟩
theorem fp34 : ∃ fn, fb34 = denF fn ∧ ∃ func code hint, FnOk Go.Proofs.Tryz.prog TT 34 fn func code hint := f2_mk (func := Go.Proofs.Tryz.f34) (code := bodyOf Go.Proofs.Tryz.f34) (hint := hintL []) (n := 11) (res := [.cell 4 (some 4)]) Go.Proofs.Tryz.func34 Go.Proofs.Tryz.call34 (by kernel_rfl) (by kernel_rfl) (by kernel_rfl) (by kernel_rfl) (by kernel_rfl)
/- (*quarry/state.State).Code -/
def fb35 : AFunc2 := ⟨12, [.tmp g4], .seq (.reg [
oBox w3 30 g1,
oP w4 (pMv (gC (.w (.s (.nils)))))]) (.seq (.reg [
oP w5 (pMv g0),
oR w6 (rLoad (some 20) g3),
oCall w7 39 [g5, g6],
oP w8 (pGen fun _ t => opNil t (.t 7)),
oP w9 (pFaddr 5 g8),
oR w10 (rLoad none g9),
oCall w11 43 [g10],
oP w4 (pMv g11)]) (.ret))⟩
theorem fp35 : ∃ fn, fb35 = denF fn ∧ ∃ func code hint, FnOk Go.Proofs.Tryz.prog TT 35 fn func code hint := f2_mk (func := Go.Proofs.Tryz.f35) (code := bodyOf Go.Proofs.Tryz.f35) (hint := hintL []) (n := 12) (res := [.tmp 4]) Go.Proofs.Tryz.func35 Go.Proofs.Tryz.call35 (by kernel_rfl) (by kernel_rfl) (by kernel_rfl) (by kernel_rfl) (by kernel_rfl)
/- quarry/code.Pops -/
def fb36 : AFunc2 := ⟨63, [.tmp g4, .tmp g5, .tmp g6], .seq (.reg [
oP w4 (pMv (gC (.w (.s (zi64))))),
oP w5 (pMv (gC (.w (.s (zi64))))),
oP w6 (pMv (gC (.w (.s (.bool false)))))]) (.seq (.seq (.reg [
oP w9 (pMv g0),
oP w10 (pMv g1),
oCall w11 57 [g9, g10],
oP w12 (pNot g11)]) (.cond g12 (.seq (.reg [
oP w4 (pMv (gC (.w (.s (zi64))))),
oP w5 (pMv (gC (.w (.s (zi64))))),
oP w6 (pMv (gC (.w (.s (.bool false)))))]) (.ret)) (.skip))) (.seq (.block 0 (.seq (.reg [
oP w14 (pMv g1),
oK w15 (bCmp 5 gLe cGe false g14 (gC (.w (.s (ni64 95))))),
oP w16 (pMv g15),
oGd g16 true w17 (oP w17 (pMv g1)),
oGd g16 true w18 (oK w18 (bCmp 3 intLe .le false g17 (gC (.w (.s (ni64 127)))))),
oP w19 (pGen fun _ t => opPick t (.t 16) (.t 18) (.c (.w (.s (.bool false))))),
oP w13 (pMv g19)]) (.cond g13 (.seq (.reg [
oP w4 (pMv (gC (.w (.s (zi64))))),
oP w5 (pMv (gC (.w (.s (ni64 1))))),
oP w6 (pMv (gC (.w (.s (.bool true)))))]) (.ret)) (.seq (.reg [
oP w21 (pMv g1),
oK w22 (bCmp 5 gLe cGe false g21 (gC (.w (.s (ni64 128))))),
oP w23 (pMv g22),
oGd g23 true w24 (oP w24 (pMv g1)),
oGd g23 true w25 (oK w25 (bCmp 2 lLt cGe true g24 (gC (.w (.s (ni64 144)))))),
oP w26 (pGen fun _ t => opPick t (.t 23) (.t 25) (.c (.w (.s (.bool false))))),
oP w20 (pMv g26)]) (.cond g20 (.seq (.reg [
oP w27 (pMv g1),
oP w28 (pAr 1 g27 (gC (.w (.s (ni64 128))))),
oP w29 (pAr 0 g28 (gC (.w (.s (ni64 1))))),
oP w30 (pMv g1),
oP w31 (pAr 1 g30 (gC (.w (.s (ni64 128))))),
oP w32 (pAr 0 g31 (gC (.w (.s (ni64 2))))),
oP w4 (pMv g29),
oP w5 (pMv g32),
oP w6 (pMv (gC (.w (.s (.bool true)))))]) (.ret)) (.seq (.reg [
oP w34 (pMv g1),
oK w35 (bCmp 5 gLe cGe false g34 (gC (.w (.s (ni64 144))))),
oP w36 (pMv g35),
oGd g36 true w37 (oP w37 (pMv g1)),
oGd g36 true w38 (oK w38 (bCmp 2 lLt cGe true g37 (gC (.w (.s (ni64 160)))))),
oP w39 (pGen fun _ t => opPick t (.t 36) (.t 38) (.c (.w (.s (.bool false))))),
oP w33 (pMv g39)]) (.cond g33 (.seq (.reg [
oP w40 (pMv g1),
oP w41 (pAr 1 g40 (gC (.w (.s (ni64 144))))),
oP w42 (pAr 0 g41 (gC (.w (.s (ni64 2))))),
oP w43 (pMv g1),
oP w44 (pAr 1 g43 (gC (.w (.s (ni64 144))))),
oP w45 (pAr 0 g44 (gC (.w (.s (ni64 2))))),
oP w4 (pMv g42),
oP w5 (pMv g45),
oP w6 (pMv (gC (.w (.s (.bool true)))))]) (.ret)) (.seq (.reg [
oP w47 (pMv g1),
oK w48 (bCmp 5 gLe cGe false g47 (gC (.w (.s (ni64 160))))),
oP w49 (pMv g48),
oGd g49 true w50 (oP w50 (pMv g1)),
oGd g49 true w51 (oK w51 (bCmp 3 intLe .le false g50 (gC (.w (.s (ni64 164)))))),
oP w52 (pGen fun _ t => opPick t (.t 49) (.t 51) (.c (.w (.s (.bool false))))),
oP w46 (pMv g52)]) (.cond g46 (.seq (.reg [
oP w53 (pMv g1),
oP w54 (pAr 1 g53 (gC (.w (.s (ni64 160))))),
oP w55 (pAr 0 g54 (gC (.w (.s (ni64 2))))),
oP w4 (pMv g55),
oP w5 (pMv (gC (.w (.s (zi64))))),
oP w6 (pMv (gC (.w (.s (.bool true)))))]) (.ret)) (.skip)))))))))) (.seq (.reg [
oP w57 (pMv g1),
oCall w58 58 [g57],
oP w56 (pMv g58),
oP w59 (pExt g56 0),
oP w60 (pExt g56 1),
oP w7 (pMv g59),
oP w8 (pMv g60)]) (.seq (.reg [
oP w61 (pMv g7),
oP w62 (pMv g8),
oP w4 (pMv g61),
oP w5 (pMv g62),
oP w6 (pMv (gC (.w (.s (.bool true)))))]) (.ret)))))⟩
theorem fp36 : ∃ fn, fb36 = denF fn ∧ ∃ func code hint, FnOk Go.Proofs.Tryz.prog TT 36 fn func code hint := f2_mk (func := Go.Proofs.Tryz.f36) (code := bodyOf Go.Proofs.Tryz.f36) (hint := hintL []) (n := 63) (res := [.tmp 4, .tmp 5, .tmp 6]) Go.Proofs.Tryz.func36 Go.Proofs.Tryz.call36 (by kernel_rfl) (by kernel_rfl) (by kernel_rfl) (by kernel_rfl) (by kernel_rfl)
/- quarry/quarryref13.from -/
def fb37 : AFunc2 := ⟨28, [.tmp g6], .seq (.reg [
oP w6 (pMv (gC (.w (.s (zu64)))))]) (.seq (.seq (.reg [
oP w7 (pMv (gC (.w (.s (zi64)))))]) (.block 0 (.loop (.seq (.seq (.reg [
oP w8 (pMv g7),
oP w9 (pMv g2),
oP w10 (pGen fun _ t => opLen t (.t 9)),
oK w11 (bCmp 2 lLt cGe true g8 g10)]) (.cond g11 (.skip) (.exit 0))) (.seq (.block 1 (.seq (.reg [
oP w14 (pMv g0),
oP w15 (pMv g2),
oP w16 (pMv g7),
oP w17 (pIaddrS 2 g15 g16),
oP w18 (pIaddrA 2 1 g17 (gC (.w (.s (zi64))))),
oR w19 (rLoad none g18),
oP w20 (pConv .i64 g19),
oK w21 (bCmp 5 gLe cGe false g14 g20)]) (.cond g21 (.reg [
oP w22 (pMv g2),
oP w23 (pMv g7),
oP w24 (pIaddrS 2 g22 g23),
oP w25 (pIaddrA 2 1 g24 (gC (.w (.s (ni64 1))))),
oR w26 (rLoad none g25),
oP w1 (pMv g26)]) (.skip)))) (.reg [
oP w12 (pMv g7),
oP w13 (pAr 0 g12 (gC (.w (.s (ni64 1))))),
oP w7 (pMv g13)])))))) (.seq (.reg [
oP w27 (pMv g1),
oP w6 (pMv g27)]) (.ret)))⟩
theorem fp37 : ∃ fn, fb37 = denF fn ∧ ∃ func code hint, FnOk Go.Proofs.Tryz.prog TT 37 fn func code hint := f2_mk (func := Go.Proofs.Tryz.f37) (code := bodyOf Go.Proofs.Tryz.f37) (hint := hintL []) (n := 28) (res := [.tmp 6]) Go.Proofs.Tryz.func37 Go.Proofs.Tryz.call37 (by kernel_rfl) (by kernel_rfl) (by kernel_rfl) (by kernel_rfl) (by kernel_rfl)
/- quarry/word.Small -/
def fb38 : AFunc2 := ⟨15, [.tmp g2, .tmp g3], .seq (.reg [
oBox w1 24 g0,
oP w2 (pMv (gC (.w (.s (zu64))))),
oP w3 (pMv (gC (.w (.s (.bool false)))))]) (.seq (.seq (.reg [
oP w4 (pIaddrA 4 1 g1 (gC (.w (.s (ni64 1))))),
oR w5 (rLoad none g4),
oP w6 (pIaddrA 4 1 g1 (gC (.w (.s (ni64 2))))),
oR w7 (rLoad none g6),
oP w8 (pBt 1 g5 g7),
oP w9 (pIaddrA 4 1 g1 (gC (.w (.s (ni64 3))))),
oR w10 (rLoad none g9),
oP w11 (pBt 1 g8 g10),
oK w12 (bCmp 1 nEq .eq true g11 (gC (.w (.s (zu64)))))]) (.cond g12 (.seq (.reg [
oP w2 (pMv (gC (.w (.s (zu64))))),
oP w3 (pMv (gC (.w (.s (.bool false)))))]) (.ret)) (.skip))) (.seq (.reg [
oP w13 (pIaddrA 4 1 g1 (gC (.w (.s (zi64))))),
oR w14 (rLoad none g13),
oP w2 (pMv g14),
oP w3 (pMv (gC (.w (.s (.bool true)))))]) (.ret)))⟩
theorem fp38 : ∃ fn, fb38 = denF fn ∧ ∃ func code hint, FnOk Go.Proofs.Tryz.prog TT 38 fn func code hint := f2_mk (func := Go.Proofs.Tryz.f38) (code := bodyOf Go.Proofs.Tryz.f38) (hint := hintL []) (n := 15) (res := [.tmp 2, .tmp 3]) Go.Proofs.Tryz.func38 Go.Proofs.Tryz.call38 (by kernel_rfl) (by kernel_rfl) (by kernel_rfl) (by kernel_rfl) (by kernel_rfl)
/- (*quarry/state.State).at -/
def fb39 : AFunc2 := ⟨17, [.tmp g4], .seq (.reg [
oBox w3 30 g1,
oP w4 (pMv (gC (.w (.s (.nilp)))))]) (.seq (.seq (.draw [
⟨0, ⟨(some 6), .p (.mv (.t 0)), none⟩, 0, 0⟩,
⟨1, ⟨(some 7), .p (.nilCheck (.t 6)), none⟩, 1, 0⟩,
⟨2, ⟨(some 8), .p (.faddr 0 (.t 7)), none⟩, 3, 0⟩,
⟨3, ⟨(some 9), .r (.load none (.t 8)), none⟩, 7, 0⟩,
⟨4, ⟨(some 10), .r (.load (some 20) (.t 3)), none⟩, 0, 0⟩,
⟨5, ⟨(some 11), .r (.lookup (.one (.arr 20 5 .u8)) (.s (.nilp)) (.t 9) (.t 10) false), none⟩, 31, 0⟩,
⟨6, ⟨(some 5), .p (.mv (.t 11)), none⟩, 63, 0⟩]) (.seq (.reg [
oP w12 (pMv g5),
oK w13 (b2 (fun x y s K => cmpA 1 .ptr x y s fun b s => K (vBool b) s) g12 (gC (.w (.s (.nilp)))))]) (.cond g13 (.seq (.reg [
oP w14 (pMv g5),
oP w4 (pMv g14)]) (.ret)) (.skip)))) (.seq (.reg [
oP w15 (pBuild [zu64, zu64, zu64, zu64, zu64, .nils, .nilm] []),
oBox w16 97 g15,
oP w4 (pMv g16)]) (.ret)))⟩
theorem fp39 : ∃ fn, fb39 = denF fn ∧ ∃ func code hint, FnOk Go.Proofs.Tryz.prog TT 39 fn func code hint := f2_mk (func := Go.Proofs.Tryz.f39) (code := bodyOf Go.Proofs.Tryz.f39) (hint := hintL [(1, [(0, 0), (1, 0), (2, 0), (3, 0), (4, 0), (5, 0), (6, 0)])]) (n := 17) (res := [.tmp 4]) Go.Proofs.Tryz.func39 Go.Proofs.Tryz.call39 (by kernel_rfl) (by kernel_rfl) (by kernel_rfl) (by kernel_rfl) (by kernel_rfl)
/- quarry/state.twin -/
def fb40 : AFunc2 := ⟨12, [.cell (rLoad (some 22) g2)], .seq (.reg [
oBox w1 113 g0,
oAlloc w2 113 [zu8, zu8, zu8, zu8, zu8, zu8, zu8, zu8, zu8, zu8, zu8, zu8, zu8, zu8, zu8, zu8, zu8, zu8, zu8, zu8, .nils, .nils]]) (.seq (.draw [
⟨0, ⟨(some 3), .p (.faddr 0 (.t 1)), none⟩, 0, 0⟩,
⟨1, ⟨(some 4), .r (.load (some 20) (.t 3)), none⟩, 1, 0⟩,
⟨2, ⟨(some 5), .p (.faddr 20 (.t 1)), none⟩, 0, 0⟩,
⟨3, ⟨(some 6), .r (.load none (.t 5)), none⟩, 4, 0⟩,
⟨5, ⟨(some 8), .p (.faddr 21 (.t 1)), none⟩, 0, 0⟩,
⟨6, ⟨(some 9), .r (.load none (.t 8)), none⟩, 32, 0⟩,
⟨4, ⟨(some 7), .b (.call 59 [(.t 6)]), none⟩, 12, 0⟩,
⟨7, ⟨(some 10), .b (.call 43 [(.t 9)]), none⟩, 124, 0⟩,
⟨8, ⟨(some 11), .p (.build [zu8, zu8, zu8, zu8, zu8, zu8, zu8, zu8, zu8, zu8, zu8, zu8, zu8, zu8, zu8, zu8, zu8, zu8, zu8, zu8, .nils, .nils] [(0, 20, (.t 4)), (20, 1, (.t 7)), (21, 1, (.t 10))]), none⟩, 255, 0⟩,
⟨9, ⟨none, .b (.store 22 (.t 2) (.t 11)), none⟩, 511, 0⟩]) (.ret))⟩
theorem fp40 : ∃ fn, fb40 = denF fn ∧ ∃ func code hint, FnOk Go.Proofs.Tryz.prog TT 40 fn func code hint := f2_mk (func := Go.Proofs.Tryz.f40) (code := bodyOf Go.Proofs.Tryz.f40) (hint := hintL [(1, [(0, 0), (1, 0), (2, 0), (3, 0), (5, 0), (6, 0), (4, 0), (7, 0), (8, 0), (9, 0)])]) (n := 12) (res := [.cell 2 (some 22)]) Go.Proofs.Tryz.func40 Go.Proofs.Tryz.call40 (by kernel_rfl) (by kernel_rfl) (by kernel_rfl) (by kernel_rfl) (by kernel_rfl)
/- (quarry/state.set[quarry/api.Address]).has -/
def fb41 : AFunc2 := ⟨14, [.tmp g4], .seq (.reg [
oBox w3 30 g1,
oP w4 (pMv (gC (.w (.s (.bool false)))))]) (.seq (.reg [
oP w8 (pMv g0),
oR w9 (rLoad (some 20) g3),
oR w10 (rGen fun t s => match s with | .mk _ _ φ => opLook φ t s (.one (.arr 20 5 .u8)) (.agg []) (.t 8) (.t 9) true),
oP w7 (pMv g10),
oP w11 (pExt g7 0),
oP w12 (pExt g7 1),
oAlloc w5 146 [],
oK wZ (bSt 0 g5 g11),
oP w6 (pMv g12)]) (.seq (.reg [
oP w13 (pMv g6),
oP w4 (pMv g13)]) (.ret)))⟩
theorem fp41 : ∃ fn, fb41 = denF fn ∧ ∃ func code hint, FnOk Go.Proofs.Tryz.prog TT 41 fn func code hint := f2_mk (func := Go.Proofs.Tryz.f41) (code := bodyOf Go.Proofs.Tryz.f41) (hint := hintL []) (n := 14) (res := [.tmp 4]) Go.Proofs.Tryz.func41 Go.Proofs.Tryz.call41 (by kernel_rfl) (by kernel_rfl) (by kernel_rfl) (by kernel_rfl) (by kernel_rfl)
/- quarry/state.New -/
def fb42 : AFunc2 := ⟨8, [.tmp g0], .seq (.reg [
oP w0 (pMv (gC (.w (.s (.nilp)))))]) (.seq (.reg [
oM w2 (.mkmap),
oP w3 (pBuild [.nilm, .nilm, .nilm, .nilm, .nilm, .nilm, .nilm, .nilm, zu64, .nils, .nils, .nils, zi64] [(0, 1, g2)]),
oBox w4 111 g3,
oP w1 (pMv g4)]) (.seq (.reg [
oP w5 (pMv g1),
oCall w6 56 [g5]]) (.seq (.reg [
oP w7 (pMv g1),
oP w0 (pMv g7)]) (.ret))))⟩
theorem fp42 : ∃ fn, fb42 = denF fn ∧ ∃ func code hint, FnOk Go.Proofs.Tryz.prog TT 42 fn func code hint := f2_mk (func := Go.Proofs.Tryz.f42) (code := bodyOf Go.Proofs.Tryz.f42) (hint := hintL []) (n := 8) (res := [.tmp 0]) Go.Proofs.Tryz.func42 Go.Proofs.Tryz.call42 (by kernel_rfl) (by kernel_rfl) (by kernel_rfl) (by kernel_rfl) (by kernel_rfl)
/- bytes.Clone -/
def fb43 : AFunc2 := ⟨8, [.tmp g2], .seq (.reg [
oP w2 (pMv (gC (.w (.s (.nils)))))]) (.seq (.seq (.reg [
oP w3 (pMv g0),
oK w4 (b2 (fun x y s K => cmpA 0 .slice x y s fun b s => K (vBool b) s) g3 (gC (.w (.s (.nils)))))]) (.cond g4 (.seq (.reg [
oP w2 (pMv (gC (.w (.s (.nils)))))]) (.ret)) (.skip))) (.seq (.reg [
oM w5 (.bslice 5 0 [zu8] []),
oP w6 (pMv g0),
oK w7 (b2 (bAppend 5 1 1) g5 g6),
oP w2 (pMv g7)]) (.ret)))⟩
theorem fp43 : ∃ fn, fb43 = denF fn ∧ ∃ func code hint, FnOk Go.Proofs.Tryz.prog TT 43 fn func code hint := f2_mk (func := Go.Proofs.Tryz.f43) (code := bodyOf Go.Proofs.Tryz.f43) (hint := hintL []) (n := 8) (res := [.tmp 2]) Go.Proofs.Tryz.func43 Go.Proofs.Tryz.call43 (by kernel_rfl) (by kernel_rfl) (by kernel_rfl) (by kernel_rfl) (by kernel_rfl)
/- maps.DeleteFunc[map[quarry/api.Word]quarry/api.Word,quarry/api.Word,quarry/api.Word] -/
def fb44 : AFunc2 := ⟨19, [], .seq (.reg [
oP w6 (pMv g0),
oK w7 (b1 bRange g6)]) (.block 0 (.loop (.seq (.reg [
oK w8 (b1 bNext g7),
oP w9 (pExt g8 0)]) (.seq (.cond g9 (.skip) (.exit 0)) (.block 1 (.seq (.reg [
oK w10 (b1 bEntry g7),
oP w11 (pExt g10 0),
oP w12 (pExt g10 1),
oAlloc w4 24 [zu64, zu64, zu64, zu64],
oAlloc w5 24 [zu64, zu64, zu64, zu64],
oK wZ (bSt 4 g4 g11),
oK wZ (bSt 4 g5 g12)]) (.seq (.reg [
oP w13 (pMv g1),
oR w14 (rLoad (some 4) g4),
oR w15 (rLoad (some 4) g5),
oCallv w16 g13 [g14, g15]]) (.cond g16 (.reg [
oP w17 (pMv g0),
oR w18 (rLoad (some 4) g4),
oK wZ (b2 (bDel (.one (.arr 4 22 .u64))) g17 g18)]) (.skip)))))))))⟩
theorem fp44 : ∃ fn, fb44 = denF fn ∧ ∃ func code hint, FnOk Go.Proofs.Tryz.prog TT 44 fn func code hint := f2_mk (func := Go.Proofs.Tryz.f44) (code := bodyOf Go.Proofs.Tryz.f44) (hint := hintL []) (n := 19) (res := []) Go.Proofs.Tryz.func44 Go.Proofs.Tryz.call44 (by kernel_rfl) (by kernel_rfl) (by kernel_rfl) (by kernel_rfl) (by kernel_rfl)
/- quarry/state.Load$1 -/
def fb45 : AFunc2 := ⟨8, [.tmp g4], .seq (.reg [
oBox w2 24 g0,
oBox w3 24 g1,
oP w4 (pMv (gC (.w (.s (.bool false)))))]) (.seq (.reg [
oR w5 (rLoad (some 4) g3),
oP w6 (pBuild [zu64, zu64, zu64, zu64] []),
oK w7 (b2 (fun x y s K => cmpA 0 (.agg (.one (.arr 4 22 .u64))) x y s fun b s => K (vBool b) s) g5 g6),
oP w4 (pMv g7)]) (.ret))⟩
theorem fp45 : ∃ fn, fb45 = denF fn ∧ ∃ func code hint, FnOk Go.Proofs.Tryz.prog TT 45 fn func code hint := f2_mk (func := Go.Proofs.Tryz.f45) (code := bodyOf Go.Proofs.Tryz.f45) (hint := hintL []) (n := 8) (res := [.tmp 4]) Go.Proofs.Tryz.func45 Go.Proofs.Tryz.call45 (by kernel_rfl) (by kernel_rfl) (by kernel_rfl) (by kernel_rfl) (by kernel_rfl)
/- quarry/fork.Of -/
def fb46 : AFunc2 := ⟨133, [.cell (rLoad (some 26) g2), .tmp g3], .seq (.reg [
oAlloc w2 44 [zi64, zu64, zu64, zu64, zu64, zu64, zu64, zu64, zi64, zi64, zu64, zu64, zu64, zu64, zu64, zu64, zu64, zu64, zu64, zu64, zu64, zu64, zu64, zu64, zu64, zu64],
oP w3 (pMv (gC (.w (.s (zi64)))))]) (.seq (.seq (.reg [
oP w4 (pMv g0),
oK w5 (bCmp 2 lLt cGe true g4 (gC (.w (.s (zi64))))),
oP w6 (pMv g5),
oGd g6 false w7 (oP w7 (pMv g0)),
oGd g6 false w8 (oK w8 (bCmp 4 nLe .le true g7 (gC (.w (.s (ni64 15)))))),
oP w9 (pGen fun _ t => opPick t (.t 6) (.c (.w (.s (.bool true)))) (.t 8))]) (.cond g9 (.seq (.reg [
oP w10 (pBuild [zi64, zu64, zu64, zu64, zu64, zu64, zu64, zu64, zi64, zi64, zu64, zu64, zu64, zu64, zu64, zu64, zu64, zu64, zu64, zu64, zu64, zu64, zu64, zu64, zu64, zu64] []),
oK wZ (bSt 26 g2 g10),
oP w3 (pMv (gC (.w (.s (ni64 1)))))]) (.ret)) (.skip))) (.seq (.reg [
oP w11 (pMv g0),
oP w12 (pMv g0),
oP w13 (pBuild [zi64, zu64] [(0, 1, (gC (.w (.s (ni64 1))))), (1, 1, (gC (.w (.s (nu64 32000)))))]),
oM w14 (.bslice 150 1 [zi64, zu64] [(0, 2, (.t 13))]),
oCall w15 60 [g12, g14],
oP w16 (pMv g0),
oP w17 (pBuild [zi64, zu64] [(0, 1, (gC (.w (.s (zi64))))), (1, 1, (gC (.w (.s (nu64 68)))))]),
oP w18 (pBuild [zi64, zu64] [(0, 1, (gC (.w (.s (ni64 7))))), (1, 1, (gC (.w (.s (nu64 16)))))]),
oM w19 (.bslice 150 2 [zi64, zu64] [(0, 2, (.t 17)), (2, 2, (.t 18))]),
oCall w20 60 [g16, g19],
oP w21 (pMv g0),
oP w22 (pBuild [zi64, zu64] [(0, 1, (gC (.w (.s (ni64 9))))), (1, 1, (gC (.w (.s (nu64 2400)))))]),
oM w23 (.bslice 150 1 [zi64, zu64] [(0, 2, (.t 22))]),
oCall w24 60 [g21, g23],
oP w25 (pMv g0),
oP w26 (pBuild [zi64, zu64] [(0, 1, (gC (.w (.s (ni64 9))))), (1, 1, (gC (.w (.s (nu64 1900)))))]),
oM w27 (.bslice 150 1 [zi64, zu64] [(0, 2, (.t 26))]),
oCall w28 60 [g25, g27],
oP w29 (pMv g0),
oP w30 (pBuild [zi64, zu64] [(0, 1, (gC (.w (.s (ni64 14))))), (1, 1, (gC (.w (.s (nu64 2)))))]),
oM w31 (.bslice 150 1 [zi64, zu64] [(0, 2, (.t 30))]),
oCall w32 60 [g29, g31],
oP w33 (pMv g0),
oP w34 (pBuild [zi64, zu64] [(0, 1, (gC (.w (.s (ni64 14))))), (1, 1, (gC (.w (.s (nu64 49152)))))]),
oM w35 (.bslice 150 1 [zi64, zu64] [(0, 2, (.t 34))]),
oCall w36 60 [g33, g35],
oP w37 (pConv .i64 g36),
oP w38 (pMv g0),
oP w39 (pBuild [zi64, zu64] [(0, 1, (gC (.w (.s (ni64 3))))), (1, 1, (gC (.w (.s (nu64 24576)))))]),
oM w40 (.bslice 150 1 [zi64, zu64] [(0, 2, (.t 39))]),
oCall w41 60 [g38, g40],
oP w42 (pConv .i64 g41),
oP w43 (pMv g0),
oP w44 (pBuild [zi64, zu64] [(0, 1, (gC (.w (.s (zi64))))), (1, 1, (gC (.w (.s (nu64 20)))))]),
oP w45 (pBuild [zi64, zu64] [(0, 1, (gC (.w (.s (ni64 2))))), (1, 1, (gC (.w (.s (nu64 400)))))]),
oP w46 (pBuild [zi64, zu64] [(0, 1, (gC (.w (.s (ni64 7))))), (1, 1, (gC (.w (.s (nu64 700)))))]),
oP w47 (pBuild [zi64, zu64] [(0, 1, (gC (.w (.s (ni64 9))))), (1, 1, (gC (.w (.s (zu64)))))]),
oM w48 (.bslice 150 4 [zi64, zu64] [(0, 2, (.t 44)), (2, 2, (.t 45)), (4, 2, (.t 46)), (6, 2, (.t 47))]),
oCall w49 60 [g43, g48],
oP w50 (pMv g0),
oP w51 (pBuild [zi64, zu64] [(0, 1, (gC (.w (.s (zi64))))), (1, 1, (gC (.w (.s (nu64 20)))))]),
oP w52 (pBuild [zi64, zu64] [(0, 1, (gC (.w (.s (ni64 2))))), (1, 1, (gC (.w (.s (nu64 700)))))]),
oP w53 (pBuild [zi64, zu64] [(0, 1, (gC (.w (.s (ni64 9))))), (1, 1, (gC (.w (.s (zu64)))))]),
oM w54 (.bslice 150 3 [zi64, zu64] [(0, 2, (.t 51)), (2, 2, (.t 52)), (4, 2, (.t 53))]),
oCall w55 60 [g50, g54],
oP w56 (pMv g0),
oP w57 (pBuild [zi64, zu64] [(0, 1, (gC (.w (.s (ni64 5))))), (1, 1, (gC (.w (.s (nu64 400)))))]),
oP w58 (pBuild [zi64, zu64] [(0, 1, (gC (.w (.s (ni64 7))))), (1, 1, (gC (.w (.s (nu64 700)))))]),
oP w59 (pBuild [zi64, zu64] [(0, 1, (gC (.w (.s (ni64 9))))), (1, 1, (gC (.w (.s (zu64)))))]),
oM w60 (.bslice 150 3 [zi64, zu64] [(0, 2, (.t 57)), (2, 2, (.t 58)), (4, 2, (.t 59))]),
oCall w61 60 [g56, g60],
oP w62 (pMv g0),
oP w63 (pBuild [zi64, zu64] [(0, 1, (gC (.w (.s (zi64))))), (1, 1, (gC (.w (.s (nu64 50)))))]),
oP w64 (pBuild [zi64, zu64] [(0, 1, (gC (.w (.s (ni64 2))))), (1, 1, (gC (.w (.s (nu64 200)))))]),
oP w65 (pBuild [zi64, zu64] [(0, 1, (gC (.w (.s (ni64 7))))), (1, 1, (gC (.w (.s (nu64 800)))))]),
oP w66 (pBuild [zi64, zu64] [(0, 1, (gC (.w (.s (ni64 9))))), (1, 1, (gC (.w (.s (zu64)))))]),
oM w67 (.bslice 150 4 [zi64, zu64] [(0, 2, (.t 63)), (2, 2, (.t 64)), (4, 2, (.t 65)), (6, 2, (.t 66))]),
oCall w68 60 [g62, g67],
oP w69 (pMv g0),
oP w70 (pBuild [zi64, zu64] [(0, 1, (gC (.w (.s (zi64))))), (1, 1, (gC (.w (.s (nu64 40)))))]),
oP w71 (pBuild [zi64, zu64] [(0, 1, (gC (.w (.s (ni64 2))))), (1, 1, (gC (.w (.s (nu64 700)))))]),
oP w72 (pBuild [zi64, zu64] [(0, 1, (gC (.w (.s (ni64 9))))), (1, 1, (gC (.w (.s (zu64)))))]),
oM w73 (.bslice 150 3 [zi64, zu64] [(0, 2, (.t 70)), (2, 2, (.t 71)), (4, 2, (.t 72))]),
oCall w74 60 [g69, g73],
oP w75 (pMv g0),
oP w76 (pBuild [zi64, zu64] [(0, 1, (gC (.w (.s (ni64 9))))), (1, 1, (gC (.w (.s (nu64 2600)))))]),
oM w77 (.bslice 150 1 [zi64, zu64] [(0, 2, (.t 76))]),
oCall w78 60 [g75, g77],
oP w79 (pMv g0),
oP w80 (pBuild [zi64, zu64] [(0, 1, (gC (.w (.s (ni64 9))))), (1, 1, (gC (.w (.s (nu64 2100)))))]),
oM w81 (.bslice 150 1 [zi64, zu64] [(0, 2, (.t 80))]),
oCall w82 60 [g79, g81],
oP w83 (pMv g0),
oP w84 (pBuild [zi64, zu64] [(0, 1, (gC (.w (.s (ni64 9))))), (1, 1, (gC (.w (.s (nu64 100)))))]),
oM w85 (.bslice 150 1 [zi64, zu64] [(0, 2, (.t 84))]),
oCall w86 60 [g83, g85],
oP w87 (pMv g0),
oP w88 (pBuild [zi64, zu64] [(0, 1, (gC (.w (.s (ni64 2))))), (1, 1, (gC (.w (.s (nu64 5000)))))]),
oM w89 (.bslice 150 1 [zi64, zu64] [(0, 2, (.t 88))]),
oCall w90 60 [g87, g89],
oP w91 (pMv g0),
oP w92 (pBuild [zi64, zu64] [(0, 1, (gC (.w (.s (ni64 2))))), (1, 1, (gC (.w (.s (nu64 25000)))))]),
oM w93 (.bslice 150 1 [zi64, zu64] [(0, 2, (.t 92))]),
oCall w94 60 [g91, g93],
oP w95 (pMv g0),
oP w96 (pBuild [zi64, zu64] [(0, 1, (gC (.w (.s (zi64))))), (1, 1, (gC (.w (.s (nu64 24000)))))]),
oP w97 (pBuild [zi64, zu64] [(0, 1, (gC (.w (.s (ni64 10))))), (1, 1, (gC (.w (.s (zu64)))))]),
oM w98 (.bslice 150 2 [zi64, zu64] [(0, 2, (.t 96)), (2, 2, (.t 97))]),
oCall w99 60 [g95, g98],
oP w100 (pMv g0),
oP w101 (pBuild [zi64, zu64] [(0, 1, (gC (.w (.s (zi64))))), (1, 1, (gC (.w (.s (nu64 10)))))]),
oP w102 (pBuild [zi64, zu64] [(0, 1, (gC (.w (.s (ni64 3))))), (1, 1, (gC (.w (.s (nu64 50)))))]),
oM w103 (.bslice 150 2 [zi64, zu64] [(0, 2, (.t 101)), (2, 2, (.t 102))]),
oCall w104 60 [g100, g103],
oP w105 (pMv g0),
oP w106 (pBuild [zi64, zu64] [(0, 1, (gC (.w (.s (zi64))))), (1, 1, (gC (.w (.s (nu64 15000)))))]),
oP w107 (pBuild [zi64, zu64] [(0, 1, (gC (.w (.s (ni64 10))))), (1, 1, (gC (.w (.s (nu64 4800)))))]),
oM w108 (.bslice 150 2 [zi64, zu64] [(0, 2, (.t 106)), (2, 2, (.t 107))]),
oCall w109 60 [g105, g108],
oP w110 (pMv g0),
oP w111 (pBuild [zi64, zu64] [(0, 1, (gC (.w (.s (zi64))))), (1, 1, (gC (.w (.s (nu64 2)))))]),
oP w112 (pBuild [zi64, zu64] [(0, 1, (gC (.w (.s (ni64 10))))), (1, 1, (gC (.w (.s (nu64 5)))))]),
oM w113 (.bslice 150 2 [zi64, zu64] [(0, 2, (.t 111)), (2, 2, (.t 112))]),
oCall w114 60 [g110, g113],
oP w115 (pMv g0),
oP w116 (pBuild [zi64, zu64] [(0, 1, (gC (.w (.s (zi64))))), (1, 1, (gC (.w (.s (nu64 5000000000000000000)))))]),
oP w117 (pBuild [zi64, zu64] [(0, 1, (gC (.w (.s (ni64 4))))), (1, 1, (gC (.w (.s (nu64 3000000000000000000)))))]),
oP w118 (pBuild [zi64, zu64] [(0, 1, (gC (.w (.s (ni64 5))))), (1, 1, (gC (.w (.s (nu64 2000000000000000000)))))]),
oP w119 (pBuild [zi64, zu64] [(0, 1, (gC (.w (.s (ni64 13))))), (1, 1, (gC (.w (.s (zu64)))))]),
oM w120 (.bslice 150 4 [zi64, zu64] [(0, 2, (.t 116)), (2, 2, (.t 117)), (4, 2, (.t 118)), (6, 2, (.t 119))]),
oCall w121 60 [g115, g120],
oP w122 (pMv g0),
oP w123 (pBuild [zi64, zu64] [(0, 1, (gC (.w (.s (ni64 4))))), (1, 1, (gC (.w (.s (nu64 3000000)))))]),
oP w124 (pBuild [zi64, zu64] [(0, 1, (gC (.w (.s (ni64 5))))), (1, 1, (gC (.w (.s (nu64 5000000)))))]),
oP w125 (pBuild [zi64, zu64] [(0, 1, (gC (.w (.s (ni64 8))))), (1, 1, (gC (.w (.s (nu64 9000000)))))]),
oP w126 (pBuild [zi64, zu64] [(0, 1, (gC (.w (.s (ni64 10))))), (1, 1, (gC (.w (.s (nu64 9700000)))))]),
oP w127 (pBuild [zi64, zu64] [(0, 1, (gC (.w (.s (ni64 11))))), (1, 1, (gC (.w (.s (nu64 10700000)))))]),
oP w128 (pBuild [zi64, zu64] [(0, 1, (gC (.w (.s (ni64 12))))), (1, 1, (gC (.w (.s (nu64 11400000)))))]),
oP w129 (pBuild [zi64, zu64] [(0, 1, (gC (.w (.s (ni64 13))))), (1, 1, (gC (.w (.s (zu64)))))]),
oM w130 (.bslice 150 7 [zi64, zu64] [(0, 2, (.t 123)), (2, 2, (.t 124)), (4, 2, (.t 125)), (6, 2, (.t 126)), (8, 2, (.t 127)), (10, 2, (.t 128)), (12, 2, (.t 129))]),
oCall w131 60 [g122, g130],
oP w132 (pBuild [zi64, zu64, zu64, zu64, zu64, zu64, zu64, zu64, zi64, zi64, zu64, zu64, zu64, zu64, zu64, zu64, zu64, zu64, zu64, zu64, zu64, zu64, zu64, zu64, zu64, zu64] [(0, 1, g11), (1, 1, (gC (.w (.s (nu64 21000))))), (2, 1, g15), (3, 1, (gC (.w (.s (nu64 4))))), (4, 1, g20), (5, 1, g24), (6, 1, g28), (7, 1, g32), (8, 1, g37), (9, 1, g42), (10, 1, g49), (11, 1, g55), (12, 1, g61), (13, 1, g68), (14, 1, g74), (15, 1, g78), (16, 1, g82), (17, 1, g86), (18, 1, g90), (19, 1, g94), (20, 1, g99), (21, 1, g104), (22, 1, g109), (23, 1, g114), (24, 1, g121), (25, 1, g131)]),
oK wZ (bSt 26 g2 g132),
oP w3 (pMv (gC (.w (.s (zi64)))))]) (.ret)))⟩
theorem fp46 : ∃ fn, fb46 = denF fn ∧ ∃ func code hint, FnOk Go.Proofs.Tryz.prog TT 46 fn func code hint := f2_mk (func := Go.Proofs.Tryz.f46) (code := bodyOf Go.Proofs.Tryz.f46) (hint := hintL []) (n := 133) (res := [.cell 2 (some 26), .tmp 3]) Go.Proofs.Tryz.func46 Go.Proofs.Tryz.call46 (by kernel_rfl) (by kernel_rfl) (by kernel_rfl) (by kernel_rfl) (by kernel_rfl)
end
end Go.Sy
