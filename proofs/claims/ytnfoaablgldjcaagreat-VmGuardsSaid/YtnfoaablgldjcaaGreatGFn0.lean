/- Functions. -/
import Derived.Test.YtnfoaablgldjcaaGreatGSl
set_option linter.unusedVariables false
set_option maxRecDepth 100000
set_option maxHeartbeats 0
namespace Go.Sy
noncomputable section
/- quarry/quarrylaw19.VmPart -/
def fb3 : AFunc2 := ⟨122, [.tmp g2], .seq (.reg [
oBox w1 27 g0,
oP w2 (pMv (gC (.w (.s (.bool false)))))]) (.seq (.reg [
oR w20 (rLoad (some 11) g1),
oCall w21 8 [g20],
oP w3 (pMv g21)]) (.seq (.reg [
oCall w23 9 [],
oP w22 (pMv g23),
oP w24 (pExt g22 0),
oP w25 (pExt g22 1),
oP w26 (pExt g22 2),
oAlloc w4 30 zz0,
oAlloc w5 30 zz0,
oAlloc w6 30 zz0,
oK wZ (bSt 20 g4 g24),
oK wZ (bSt 20 g5 g25),
oK wZ (bSt 20 g6 g26)]) (.seq (.reg [
oP w28 (pGen fun _ t => opASlice t 20 1 (.t 6) none none),
oCall w29 10 [g28],
oP w27 (pMv g29),
oP w30 (pExt g27 0),
oP w31 (pExt g27 1),
oAlloc w7 24 [.int .u64 (.lit (.ofNat 0)), .int .u64 (.lit (.ofNat 0)), .int .u64 (.lit (.ofNat 0)), .int .u64 (.lit (.ofNat 0))],
oK wZ (bSt 4 g7 g30),
oP w8 (pMv g31)]) (.seq (.reg [
oM w32 (.bslice 5 4 [.int .u8 (.lit (.ofNat 0))] [(0, 1, (.c (.w (.s (.int .u8 (.lit (.ofNat 90))))))), (1, 1, (.c (.w (.s (.int .u8 (.lit (.ofNat 96))))))), (2, 1, (.c (.w (.s (.int .u8 (.lit (.ofNat 0))))))), (3, 1, (.c (.w (.s (.int .u8 (.lit (.ofNat 82)))))))]),
oCall w33 12 [(gC (.w (.s (.int .i64 (.lit (.ofNat 32))))))],
oM w34 (.bslice 25 2 [.nils] [(0, 1, (.t 32)), (1, 1, (.t 33))]),
oCall w35 11 [g34],
oP w9 (pMv g35)]) (.seq (.draw [
⟨5, ⟨(some 41), .r (.load (some 4) (.t 7)), none⟩, 0, 0⟩,
⟨7, ⟨(some 43), .p (.faddr 2 (.t 1)), none⟩, 0, 0⟩,
⟨8, ⟨(some 44), .r (.load (some 4) (.t 43)), none⟩, 128, 0⟩,
⟨10, ⟨(some 46), .m (.bslice 5 2 [.int .u8 (.lit (.ofNat 0))] [(0, 1, (.c (.w (.s (.int .u8 (.lit (.ofNat 241))))))), (1, 1, (.c (.w (.s (.int .u8 (.lit (.ofNat 80)))))))]), none⟩, 0, 8388608⟩,
⟨0, ⟨(some 36), .b (.call 13 [(.c (.w (.s (.int .i64 (.lit (.ofNat 32))))))]), none⟩, 0, 0⟩,
⟨1, ⟨(some 37), .b (.call 13 [(.c (.w (.s (.int .i64 (.lit (.ofNat 0))))))]), none⟩, 1, 0⟩,
⟨2, ⟨(some 38), .b (.call 13 [(.c (.w (.s (.int .i64 (.lit (.ofNat 0))))))]), none⟩, 3, 0⟩,
⟨3, ⟨(some 39), .b (.call 13 [(.c (.w (.s (.int .i64 (.lit (.ofNat 0))))))]), none⟩, 7, 0⟩,
⟨4, ⟨(some 40), .b (.call 13 [(.c (.w (.s (.int .i64 (.lit (.ofNat 0))))))]), none⟩, 15, 0⟩,
⟨6, ⟨(some 42), .b (.call 14 [(.t 41)]), none⟩, 63, 0⟩,
⟨9, ⟨(some 45), .b (.call 14 [(.t 44)]), none⟩, 511, 0⟩,
⟨11, ⟨(some 47), .b (.call 12 [(.c (.w (.s (.int .i64 (.lit (.ofNat 32))))))]), none⟩, 1023, 0⟩,
⟨12, ⟨(some 48), .m (.bslice 25 9 [.nils] [(0, 1, (.t 36)), (1, 1, (.t 37)), (2, 1, (.t 38)), (3, 1, (.t 39)), (4, 1, (.t 40)), (5, 1, (.t 42)), (6, 1, (.t 45)), (7, 1, (.t 46)), (8, 1, (.t 47))]), none⟩, 4095, 8388609⟩,
⟨13, ⟨(some 49), .b (.call 11 [(.t 48)]), none⟩, 8191, 0⟩,
⟨14, ⟨(some 10), .p (.mv (.t 49)), none⟩, 16383, 0⟩]) (.seq (.reg [
oP w51 (pMv g3),
oP w52 (pMv g10),
oP w53 (pMv g9),
oP w54 (pBuild [.int .u64 (.lit (.ofNat 0)), .int .u64 (.lit (.ofNat 0)), .int .u64 (.lit (.ofNat 0)), .int .u64 (.lit (.ofNat 0))] []),
oCall w55 15 [g51, g52, g53, (gC (.w (.s (.nils)))), g54, (gC (.w (.s (.int .u64 (.lit (.ofNat 100000))))))],
oP w50 (pMv g55),
oP w56 (pExt g50 0),
oP w57 (pExt g50 1),
oAlloc w11 39 [.int .i64 (.lit (.ofNat 0)), .nils, .int .u64 (.lit (.ofNat 0)), .int .u8 (.lit (.ofNat 0)), .int .u8 (.lit (.ofNat 0)), .int .u8 (.lit (.ofNat 0)), .int .u8 (.lit (.ofNat 0)), .int .u8 (.lit (.ofNat 0)), .int .u8 (.lit (.ofNat 0)), .int .u8 (.lit (.ofNat 0)), .int .u8 (.lit (.ofNat 0)), .int .u8 (.lit (.ofNat 0)), .int .u8 (.lit (.ofNat 0)), .int .u8 (.lit (.ofNat 0)), .int .u8 (.lit (.ofNat 0)), .int .u8 (.lit (.ofNat 0)), .int .u8 (.lit (.ofNat 0)), .int .u8 (.lit (.ofNat 0)), .int .u8 (.lit (.ofNat 0)), .int .u8 (.lit (.ofNat 0)), .int .u8 (.lit (.ofNat 0)), .int .u8 (.lit (.ofNat 0)), .int .u8 (.lit (.ofNat 0)), .int .u64 (.lit (.ofNat 0))],
oK wZ (bSt 24 g11 g56),
oP w12 (pMv g57)]) (.seq (.reg [
oP w59 (pMv g3),
oCall w60 16 [g59],
oP w58 (pMv g60),
oP w61 (pExt g58 0),
oP w62 (pExt g58 1),
oAlloc w13 44 [.int .i64 (.lit (.ofNat 0)), .int .u64 (.lit (.ofNat 0)), .int .u64 (.lit (.ofNat 0)), .int .u64 (.lit (.ofNat 0)), .int .u64 (.lit (.ofNat 0)), .int .u64 (.lit (.ofNat 0)), .int .u64 (.lit (.ofNat 0)), .int .u64 (.lit (.ofNat 0)), .int .i64 (.lit (.ofNat 0)), .int .i64 (.lit (.ofNat 0)), .int .u64 (.lit (.ofNat 0)), .int .u64 (.lit (.ofNat 0)), .int .u64 (.lit (.ofNat 0)), .int .u64 (.lit (.ofNat 0)), .int .u64 (.lit (.ofNat 0)), .int .u64 (.lit (.ofNat 0)), .int .u64 (.lit (.ofNat 0)), .int .u64 (.lit (.ofNat 0)), .int .u64 (.lit (.ofNat 0)), .int .u64 (.lit (.ofNat 0)), .int .u64 (.lit (.ofNat 0)), .int .u64 (.lit (.ofNat 0)), .int .u64 (.lit (.ofNat 0)), .int .u64 (.lit (.ofNat 0)), .int .u64 (.lit (.ofNat 0)), .int .u64 (.lit (.ofNat 0))],
oK wZ (bSt 26 g13 g61),
oP w14 (pMv g62)]) (.seq (.reg [
oP w63 (pFaddr 14 g13),
oR w64 (rLoad none g63),
oP w65 (pAr 1 (gC (.w (.s (.int .u64 (.lit (.ofNat 99979)))))) g64),
oP w66 (pAr 1 g65 (gC (.w (.s (.int .u64 (.lit (.ofNat 3))))))),
oP w15 (pMv g66)]) (.seq (.seq (.reg [
oP w67 (pMv g3),
oK w68 (bCmp 5 gLe cGe false g67 (gC (.w (.s (.int .i64 (.lit (.ofNat 9)))))))]) (.cond g68 (.reg [
oP w69 (pMv g15),
oP w70 (pAr 1 g69 (gC (.w (.s (.int .u64 (.lit (.ofNat 2600))))))),
oP w15 (pMv g70)]) (.skip))) (.seq (.reg [
oR w72 (rLoad (some 26) g13),
oP w73 (pMv g15),
oP w74 (pFaddr 2 g1),
oR w75 (rLoad (some 4) g74),
oCall w76 17 [g72, g73, g75],
oP w71 (pMv g76),
oP w77 (pExt g71 0),
oP w78 (pExt g71 1),
oP w16 (pMv g77),
oP w17 (pMv g78)]) (.seq (.seq (.reg [
oP w79 (pMv g17),
oP w80 (pNot g79)]) (.cond g80 (.seq (.reg [
oP w81 (pMv g12),
oK w82 (b2 (fun x y s K => cmpA 1 .ptr x y s fun b s => K (vBool b) s) g81 (gC (.w (.s (.nilp))))),
oP w83 (pMv g82),
oGd g83 true w84 (oP w84 (pFaddr 0 g11)),
oGd g83 true w85 (oR w85 (rLoad none g84)),
oGd g83 true w86 (oK w86 (bCmp 0 intEq .eq false g85 (gC (.w (.s (.int .i64 (.lit (.ofNat 2)))))))),
oP w87 (pGen fun _ t => opPick t (.t 83) (.t 86) (.c (.w (.s (.bool false))))),
oP w88 (pMv g87),
oGd g88 true w89 (oCall w89 18 []),
oP w90 (pGen fun _ t => opPick t (.t 88) (.t 89) (.c (.w (.s (.bool false))))),
oP w2 (pMv g90)]) (.ret)) (.skip))) (.seq (.seq (.reg [
oP w91 (pMv g12),
oK w92 (b2 (fun x y s K => cmpA 0 .ptr x y s fun b s => K (vBool b) s) g91 (gC (.w (.s (.nilp))))),
oP w93 (pMv g92),
oGd g93 false w94 (oP w94 (pFaddr 0 g11)),
oGd g93 false w95 (oR w95 (rLoad none g94)),
oGd g93 false w96 (oK w96 (bCmp 1 nEq .eq true g95 (gC (.w (.s (.int .i64 (.lit (.ofNat 0)))))))),
oP w97 (pGen fun _ t => opPick t (.t 93) (.c (.w (.s (.bool true)))) (.t 96)),
oP w98 (pMv g97),
oGd g98 false w99 (oP w99 (pFaddr 1 g11)),
oGd g98 false w100 (oR w100 (rLoad none g99)),
oGd g98 false w101 (oP w101 (pGen fun _ t => opLen t (.t 100))),
oGd g98 false w102 (oK w102 (bCmp 1 nEq .eq true g101 (gC (.w (.s (.int .i64 (.lit (.ofNat 32)))))))),
oP w103 (pGen fun _ t => opPick t (.t 98) (.c (.w (.s (.bool true)))) (.t 102)),
oP w104 (pMv g103),
oGd g104 false w105 (oCall w105 18 []),
oGd g104 false w106 (oP w106 (pNot g105)),
oP w107 (pGen fun _ t => opPick t (.t 104) (.c (.w (.s (.bool true)))) (.t 106))]) (.cond g107 (.seq (.reg [
oP w2 (pMv (gC (.w (.s (.bool false)))))]) (.ret)) (.skip))) (.seq (.reg [
oP w108 (pBuild [.int .u64 (.lit (.ofNat 0)), .int .u64 (.lit (.ofNat 0)), .int .u64 (.lit (.ofNat 0)), .int .u64 (.lit (.ofNat 0))] []),
oAlloc w18 24 [.int .u64 (.lit (.ofNat 0)), .int .u64 (.lit (.ofNat 0)), .int .u64 (.lit (.ofNat 0)), .int .u64 (.lit (.ofNat 0))],
oK wZ (bSt 4 g18 g108)]) (.seq (.seq (.reg [
oP w109 (pMv g16),
oK w110 (bCmp 5 gLe cGe false g109 (gC (.w (.s (.int .u64 (.lit (.ofNat 17)))))))]) (.cond g110 (.reg [
oP w111 (pMv g16),
oP w112 (pAr 1 g111 (gC (.w (.s (.int .u64 (.lit (.ofNat 2))))))),
oP w113 (pBuild [.int .u64 (.lit (.ofNat 0)), .int .u64 (.lit (.ofNat 0)), .int .u64 (.lit (.ofNat 0)), .int .u64 (.lit (.ofNat 0))] [(0, 1, g112)]),
oK wZ (bSt 4 g18 g113)]) (.skip))) (.seq (.reg [
oR w114 (rLoad (some 4) g18),
oCall w115 19 [g114],
oAlloc w19 50 zz1,
oK wZ (bSt 32 g19 g115)]) (.seq (.draw [
⟨0, ⟨(some 116), .p (.faddr 1 (.t 11)), none⟩, 0, 0⟩,
⟨1, ⟨(some 117), .r (.load none (.t 116)), none⟩, 1, 0⟩,
⟨2, ⟨(some 118), .r (.cstr (.t 117)), none⟩, 3, 0⟩,
⟨3, ⟨(some 119), .p (.aslice 32 1 (.t 19) none none), none⟩, 0, 0⟩,
⟨4, ⟨(some 120), .r (.cstr (.t 119)), none⟩, 8, 0⟩,
⟨5, ⟨(some 121), .b (.cmp 0 .str (.t 118) (.t 120)), none⟩, 31, 0⟩,
⟨6, ⟨(some 2), .p (.mv (.t 121)), none⟩, 63, 0⟩]) (.ret)))))))))))))))))⟩
theorem fp3 : ∃ fn, fb3 = denF fn ∧ ∃ func code hint, FnOk Go.Proofs.Tryz.prog TT 3 fn func code hint := f2_mk (func := Go.Proofs.Tryz.f3) (code := bodyOf Go.Proofs.Tryz.f3) (hint := hintL [(5, [(5, 0), (7, 0), (8, 0), (10, 8388608), (0, 0), (1, 0), (2, 0), (3, 0), (4, 0), (6, 0), (9, 0), (11, 0), (12, 8388609), (13, 0), (14, 0)]), (20, [(0, 0), (1, 0), (2, 0), (3, 0), (4, 0), (5, 0), (6, 0)])]) (n := 122) (res := [.tmp 2]) Go.Proofs.Tryz.func3 Go.Proofs.Tryz.call3 (by kernel_rfl) (by kernel_rfl) (by kernel_rfl) (by kernel_rfl) (by kernel_rfl)
/- quarry/quarrylaw19.VmGuards -/
def fb4 : AFunc2 := ⟨131, [.tmp g2], .seq (.reg [
oBox w1 27 g0,
oP w2 (pMv (gC (.w (.s (.bool false)))))]) (.seq (.reg [
oR w13 (rLoad (some 11) g1),
oCall w14 8 [g13],
oP w3 (pMv g14)]) (.seq (.seq (.reg [
oP w15 (pMv g3),
oK w16 (bCmp 2 lLt cGe true g15 (gC (.w (.s (.int .i64 (.lit (.ofNat 4)))))))]) (.cond g16 (.reg [
oP w17 (pMv g3),
oP w18 (pAr 0 g17 (gC (.w (.s (.int .i64 (.lit (.ofNat 4))))))),
oP w3 (pMv g18)]) (.skip))) (.seq (.reg [
oCall w20 9 [],
oP w19 (pMv g20),
oP w21 (pExt g19 0),
oP w22 (pExt g19 1),
oP w23 (pExt g19 2),
oAlloc w4 30 zz0,
oAlloc w5 30 zz0,
oAlloc w6 30 zz0,
oK wZ (bSt 20 g4 g21),
oK wZ (bSt 20 g5 g22),
oK wZ (bSt 20 g6 g23)]) (.seq (.reg [
oCall w24 13 [(gC (.w (.s (.int .i64 (.lit (.ofNat 1))))))],
oCall w25 13 [(gC (.w (.s (.int .i64 (.lit (.ofNat 1))))))],
oM w26 (.bslice 5 1 [.int .u8 (.lit (.ofNat 0))] [(0, 1, (.c (.w (.s (.int .u8 (.lit (.ofNat 85)))))))]),
oM w27 (.bslice 25 3 [.nils] [(0, 1, (.t 24)), (1, 1, (.t 25)), (2, 1, (.t 26))]),
oCall w28 11 [g27],
oCall w29 13 [(gC (.w (.s (.int .i64 (.lit (.ofNat 0))))))],
oCall w30 13 [(gC (.w (.s (.int .i64 (.lit (.ofNat 0))))))],
oM w31 (.bslice 5 1 [.int .u8 (.lit (.ofNat 0))] [(0, 1, (.c (.w (.s (.int .u8 (.lit (.ofNat 160)))))))]),
oM w32 (.bslice 25 3 [.nils] [(0, 1, (.t 29)), (1, 1, (.t 30)), (2, 1, (.t 31))]),
oCall w33 11 [g32],
oCall w34 13 [(gC (.w (.s (.int .i64 (.lit (.ofNat 0))))))],
oCall w35 13 [(gC (.w (.s (.int .i64 (.lit (.ofNat 0))))))],
oCall w36 13 [(gC (.w (.s (.int .i64 (.lit (.ofNat 0))))))],
oM w37 (.bslice 5 1 [.int .u8 (.lit (.ofNat 0))] [(0, 1, (.c (.w (.s (.int .u8 (.lit (.ofNat 240)))))))]),
oM w38 (.bslice 25 4 [.nils] [(0, 1, (.t 34)), (1, 1, (.t 35)), (2, 1, (.t 36)), (3, 1, (.t 37))]),
oCall w39 11 [g38],
oCall w40 13 [(gC (.w (.s (.int .i64 (.lit (.ofNat 0))))))],
oCall w41 13 [(gC (.w (.s (.int .i64 (.lit (.ofNat 0))))))],
oCall w42 13 [(gC (.w (.s (.int .i64 (.lit (.ofNat 0))))))],
oCall w43 13 [(gC (.w (.s (.int .i64 (.lit (.ofNat 0))))))],
oCall w44 13 [(gC (.w (.s (.int .i64 (.lit (.ofNat 1))))))],
oCall w45 13 [(gC (.w (.s (.int .i64 (.lit (.ofNat 153))))))],
oCall w46 13 [(gC (.w (.s (.int .i64 (.lit (.ofNat 1000))))))],
oM w47 (.bslice 5 1 [.int .u8 (.lit (.ofNat 0))] [(0, 1, (.c (.w (.s (.int .u8 (.lit (.ofNat 241)))))))]),
oM w48 (.bslice 25 8 [.nils] [(0, 1, (.t 40)), (1, 1, (.t 41)), (2, 1, (.t 42)), (3, 1, (.t 43)), (4, 1, (.t 44)), (5, 1, (.t 45)), (6, 1, (.t 46)), (7, 1, (.t 47))]),
oCall w49 11 [g48],
oM w50 (.bslice 5 2 [.int .u8 (.lit (.ofNat 0))] [(0, 1, (.c (.w (.s (.int .u8 (.lit (.ofNat 51))))))), (1, 1, (.c (.w (.s (.int .u8 (.lit (.ofNat 255)))))))]),
oCall w51 13 [(gC (.w (.s (.int .i64 (.lit (.ofNat 1))))))],
oM w52 (.bslice 5 1 [.int .u8 (.lit (.ofNat 0))] [(0, 1, (.c (.w (.s (.int .u8 (.lit (.ofNat 84)))))))]),
oM w53 (.bslice 25 2 [.nils] [(0, 1, (.t 51)), (1, 1, (.t 52))]),
oCall w54 11 [g53],
oCall w55 13 [(gC (.w (.s (.int .i64 (.lit (.ofNat 0))))))],
oCall w56 13 [(gC (.w (.s (.int .i64 (.lit (.ofNat 0))))))],
oCall w57 13 [(gC (.w (.s (.int .i64 (.lit (.ofNat 0))))))],
oCall w58 13 [(gC (.w (.s (.int .i64 (.lit (.ofNat 0))))))],
oCall w59 13 [(gC (.w (.s (.int .i64 (.lit (.ofNat 0))))))],
oCall w60 13 [(gC (.w (.s (.int .i64 (.lit (.ofNat 4))))))],
oCall w61 13 [(gC (.w (.s (.int .i64 (.lit (.ofNat 1000))))))],
oM w62 (.bslice 5 1 [.int .u8 (.lit (.ofNat 0))] [(0, 1, (.c (.w (.s (.int .u8 (.lit (.ofNat 241)))))))]),
oM w63 (.bslice 25 8 [.nils] [(0, 1, (.t 55)), (1, 1, (.t 56)), (2, 1, (.t 57)), (3, 1, (.t 58)), (4, 1, (.t 59)), (5, 1, (.t 60)), (6, 1, (.t 61)), (7, 1, (.t 62))]),
oCall w64 11 [g63],
oM w65 (.bslice 25 7 [.nils] [(0, 1, (.t 28)), (1, 1, (.t 33)), (2, 1, (.t 39)), (3, 1, (.t 49)), (4, 1, (.t 50)), (5, 1, (.t 54)), (6, 1, (.t 64))]),
oP w7 (pMv g65)]) (.seq (.reg [
oR w66 (rLoad (some 11) g1),
oP w67 (pMv g7),
oP w68 (pGen fun _ t => opLen t (.t 67)),
oCall w69 20 [g66, g68],
oP w8 (pMv g69)]) (.seq (.draw [
⟨4, ⟨(some 74), .r (.load (some 20) (.t 6)), none⟩, 0, 0⟩,
⟨8, ⟨(some 78), .m (.bslice 5 4 [.int .u8 (.lit (.ofNat 0))] [(0, 1, (.c (.w (.s (.int .u8 (.lit (.ofNat 250))))))), (1, 1, (.c (.w (.s (.int .u8 (.lit (.ofNat 96))))))), (2, 1, (.c (.w (.s (.int .u8 (.lit (.ofNat 0))))))), (3, 1, (.c (.w (.s (.int .u8 (.lit (.ofNat 82)))))))]), none⟩, 0, 8388608⟩,
⟨0, ⟨(some 70), .b (.call 13 [(.c (.w (.s (.int .i64 (.lit (.ofNat 0))))))]), none⟩, 0, 0⟩,
⟨1, ⟨(some 71), .b (.call 13 [(.c (.w (.s (.int .i64 (.lit (.ofNat 0))))))]), none⟩, 1, 0⟩,
⟨2, ⟨(some 72), .b (.call 13 [(.c (.w (.s (.int .i64 (.lit (.ofNat 0))))))]), none⟩, 3, 0⟩,
⟨3, ⟨(some 73), .b (.call 13 [(.c (.w (.s (.int .i64 (.lit (.ofNat 0))))))]), none⟩, 7, 0⟩,
⟨5, ⟨(some 75), .b (.call 21 [(.t 74)]), none⟩, 31, 0⟩,
⟨6, ⟨(some 76), .b (.call 14 [(.t 75)]), none⟩, 63, 0⟩,
⟨7, ⟨(some 77), .b (.call 13 [(.c (.w (.s (.int .i64 (.lit (.ofNat 90000))))))]), none⟩, 127, 0⟩,
⟨9, ⟨(some 79), .b (.call 12 [(.c (.w (.s (.int .i64 (.lit (.ofNat 32))))))]), none⟩, 255, 0⟩,
⟨10, ⟨(some 80), .m (.bslice 25 8 [.nils] [(0, 1, (.t 70)), (1, 1, (.t 71)), (2, 1, (.t 72)), (3, 1, (.t 73)), (4, 1, (.t 76)), (5, 1, (.t 77)), (6, 1, (.t 78)), (7, 1, (.t 79))]), none⟩, 1023, 8388609⟩,
⟨11, ⟨(some 81), .b (.call 11 [(.t 80)]), none⟩, 2047, 0⟩,
⟨12, ⟨(some 9), .p (.mv (.t 81)), none⟩, 4095, 0⟩]) (.seq (.reg [
oP w83 (pMv g3),
oP w84 (pMv g9),
oP w85 (pMv g7),
oP w86 (pMv g8),
oP w87 (pIaddrS 1 g85 g86),
oR w88 (rLoad none g87),
oP w89 (pBuild [.int .u64 (.lit (.ofNat 0)), .int .u64 (.lit (.ofNat 0)), .int .u64 (.lit (.ofNat 0)), .int .u64 (.lit (.ofNat 0))] []),
oCall w90 15 [g83, g84, g88, (gC (.w (.s (.nils)))), g89, (gC (.w (.s (.int .u64 (.lit (.ofNat 200000))))))],
oP w82 (pMv g90),
oP w91 (pExt g82 0),
oP w92 (pExt g82 1),
oAlloc w10 39 [.int .i64 (.lit (.ofNat 0)), .nils, .int .u64 (.lit (.ofNat 0)), .int .u8 (.lit (.ofNat 0)), .int .u8 (.lit (.ofNat 0)), .int .u8 (.lit (.ofNat 0)), .int .u8 (.lit (.ofNat 0)), .int .u8 (.lit (.ofNat 0)), .int .u8 (.lit (.ofNat 0)), .int .u8 (.lit (.ofNat 0)), .int .u8 (.lit (.ofNat 0)), .int .u8 (.lit (.ofNat 0)), .int .u8 (.lit (.ofNat 0)), .int .u8 (.lit (.ofNat 0)), .int .u8 (.lit (.ofNat 0)), .int .u8 (.lit (.ofNat 0)), .int .u8 (.lit (.ofNat 0)), .int .u8 (.lit (.ofNat 0)), .int .u8 (.lit (.ofNat 0)), .int .u8 (.lit (.ofNat 0)), .int .u8 (.lit (.ofNat 0)), .int .u8 (.lit (.ofNat 0)), .int .u8 (.lit (.ofNat 0)), .int .u64 (.lit (.ofNat 0))],
oK wZ (bSt 24 g10 g91),
oP w11 (pMv g92)]) (.seq (.reg [
oP w93 (pBuild [.int .u64 (.lit (.ofNat 0)), .int .u64 (.lit (.ofNat 0)), .int .u64 (.lit (.ofNat 0)), .int .u64 (.lit (.ofNat 0))] []),
oAlloc w12 24 [.int .u64 (.lit (.ofNat 0)), .int .u64 (.lit (.ofNat 0)), .int .u64 (.lit (.ofNat 0)), .int .u64 (.lit (.ofNat 0))],
oK wZ (bSt 4 g12 g93)]) (.seq (.seq (.reg [
oP w94 (pMv g8),
oK w95 (bCmp 5 gLe cGe false g94 (gC (.w (.s (.int .i64 (.lit (.ofNat 5)))))))]) (.cond g95 (.reg [
oP w96 (pBuild [.int .u64 (.lit (.ofNat 0)), .int .u64 (.lit (.ofNat 0)), .int .u64 (.lit (.ofNat 0)), .int .u64 (.lit (.ofNat 0))] [(0, 1, (gC (.w (.s (.int .u64 (.lit (.ofNat 1)))))))]),
oK wZ (bSt 4 g12 g96)]) (.skip))) (.seq (.reg [
oP w97 (pMv g11),
oK w98 (b2 (fun x y s K => cmpA 1 .ptr x y s fun b s => K (vBool b) s) g97 (gC (.w (.s (.nilp))))),
oP w99 (pMv g98),
oGd g99 true w100 (oP w100 (pFaddr 0 g10)),
oGd g99 true w101 (oR w101 (rLoad none g100)),
oGd g99 true w102 (oK w102 (bCmp 0 intEq .eq false g101 (gC (.w (.s (.int .i64 (.lit (.ofNat 0)))))))),
oP w103 (pGen fun _ t => opPick t (.t 99) (.t 102) (.c (.w (.s (.bool false))))),
oP w104 (pMv g103),
oGd g104 true w105 (oP w105 (pFaddr 1 g10)),
oGd g104 true w106 (oR w106 (rLoad none g105)),
oGd g104 true w107 (oR w107 (rLoad (some 4) g12)),
oGd g104 true w108 (oCall w108 22 [g106, g107]),
oP w109 (pGen fun _ t => opPick t (.t 104) (.t 108) (.c (.w (.s (.bool false))))),
oP w110 (pMv g109),
oGd g110 true w111 (oP w111 (pMv g11)),
oGd g110 true w112 (oR w112 (rLoad (some 20) g6)),
oGd g110 true w113 (oCall w113 23 [g111, g112]),
oGd g110 true w114 (oP w114 (pNot g113)),
oP w115 (pGen fun _ t => opPick t (.t 110) (.t 114) (.c (.w (.s (.bool false))))),
oP w116 (pMv g115),
oGd g116 true w117 (oP w117 (pMv g11)),
oGd g116 true w118 (oCall w118 24 [g117]),
oGd g116 true w119 (oP w119 (pGen fun _ t => opLen t (.t 118))),
oGd g116 true w120 (oK w120 (bCmp 0 intEq .eq false g119 (gC (.w (.s (.int .i64 (.lit (.ofNat 0)))))))),
oP w121 (pGen fun _ t => opPick t (.t 116) (.t 120) (.c (.w (.s (.bool false))))),
oP w122 (pMv g121),
oGd g122 true w123 (oP w123 (pMv g11)),
oGd g122 true w124 (oR w124 (rLoad (some 20) g6)),
oGd g122 true w125 (oCall w125 25 [g123, g124]),
oGd g122 true w126 (oP w126 (pNot g125)),
oP w127 (pGen fun _ t => opPick t (.t 122) (.t 126) (.c (.w (.s (.bool false))))),
oP w128 (pMv g127),
oGd g128 true w129 (oCall w129 18 []),
oP w130 (pGen fun _ t => opPick t (.t 128) (.t 129) (.c (.w (.s (.bool false))))),
oP w2 (pMv g130)]) (.ret)))))))))))⟩
theorem fp4 : ∃ fn, fb4 = denF fn ∧ ∃ func code hint, FnOk Go.Proofs.Tryz.prog TT 4 fn func code hint := f2_mk (func := Go.Proofs.Tryz.f4) (code := bodyOf Go.Proofs.Tryz.f4) (hint := hintL [(7, [(4, 0), (8, 8388608), (0, 0), (1, 0), (2, 0), (3, 0), (5, 0), (6, 0), (7, 0), (9, 0), (10, 8388609), (11, 0), (12, 0)])]) (n := 131) (res := [.tmp 2]) Go.Proofs.Tryz.func4 Go.Proofs.Tryz.call4 (by kernel_rfl) (by kernel_rfl) (by kernel_rfl) (by kernel_rfl) (by kernel_rfl)
/- quarry/quarrylaw19.VmGone -/
def fb6 : AFunc2 := ⟨117, [.tmp g2], .seq (.reg [
oBox w1 27 g0,
oP w2 (pMv (gC (.w (.s (.bool false)))))]) (.seq (.reg [
oR w14 (rLoad (some 11) g1),
oCall w15 8 [g14],
oP w3 (pMv g15)]) (.seq (.reg [
oCall w17 9 [],
oP w16 (pMv g17),
oP w18 (pExt g16 0),
oP w19 (pExt g16 1),
oP w20 (pExt g16 2),
oAlloc w4 30 zz0,
oAlloc w5 30 zz0,
oAlloc w6 30 zz0,
oK wZ (bSt 20 g4 g18),
oK wZ (bSt 20 g5 g19),
oK wZ (bSt 20 g6 g20)]) (.seq (.draw [
⟨0, ⟨(some 21), .r (.load (some 20) (.t 4)), none⟩, 0, 0⟩,
⟨1, ⟨(some 22), .r (.load (some 20) (.t 5)), none⟩, 0, 0⟩,
⟨2, ⟨(some 23), .r (.load (some 20) (.t 6)), none⟩, 0, 0⟩,
⟨3, ⟨(some 24), .m (.bslice 30 3 (lrep (.int .u8 (.lit (.ofNat 0))) 20) [(0, 20, (.t 21)), (20, 20, (.t 22)), (40, 20, (.t 23))]), none⟩, 7, 1048576⟩,
⟨4, ⟨(some 25), .r (.load (some 11) (.t 1)), none⟩, 0, 0⟩,
⟨8, ⟨(some 7), .m (.alloc 30 (lrep (.int .u8 (.lit (.ofNat 0))) 20)), none⟩, 0, 1048577⟩,
⟨5, ⟨(some 26), .b (.call 20 [(.t 25), (.c (.w (.s (.int .i64 (.lit (.ofNat 3))))))]), none⟩, 16, 0⟩,
⟨6, ⟨(some 27), .p (.iaddrS 20 (.t 24) (.t 26)), none⟩, 63, 0⟩,
⟨7, ⟨(some 28), .r (.load (some 20) (.t 27)), none⟩, 127, 0⟩,
⟨9, ⟨none, .b (.store 20 (.t 7) (.t 28)), none⟩, 511, 0⟩]) (.seq (.reg [
oP w30 (pGen fun _ t => opASlice t 20 1 (.t 7) none none),
oCall w31 10 [g30],
oP w29 (pMv g31),
oP w32 (pExt g29 0),
oP w33 (pExt g29 1),
oAlloc w8 24 [.int .u64 (.lit (.ofNat 0)), .int .u64 (.lit (.ofNat 0)), .int .u64 (.lit (.ofNat 0)), .int .u64 (.lit (.ofNat 0))],
oK wZ (bSt 4 g8 g32),
oP w9 (pMv g33)]) (.seq (.reg [
oP w35 (pMv g3),
oR w36 (rLoad (some 4) g8),
oCall w37 14 [g36],
oM w38 (.bslice 5 1 [.int .u8 (.lit (.ofNat 0))] [(0, 1, (.c (.w (.s (.int .u8 (.lit (.ofNat 255)))))))]),
oM w39 (.bslice 25 2 [.nils] [(0, 1, (.t 37)), (1, 1, (.t 38))]),
oCall w40 11 [g39],
oP w41 (pBuild [.int .u64 (.lit (.ofNat 0)), .int .u64 (.lit (.ofNat 0)), .int .u64 (.lit (.ofNat 0)), .int .u64 (.lit (.ofNat 0))] []),
oCall w42 15 [g35, g40, (gC (.w (.s (.nils)))), (gC (.w (.s (.nils)))), g41, (gC (.w (.s (.int .u64 (.lit (.ofNat 100000))))))],
oP w34 (pMv g42),
oP w43 (pExt g34 0),
oP w44 (pExt g34 1),
oAlloc w10 39 [.int .i64 (.lit (.ofNat 0)), .nils, .int .u64 (.lit (.ofNat 0)), .int .u8 (.lit (.ofNat 0)), .int .u8 (.lit (.ofNat 0)), .int .u8 (.lit (.ofNat 0)), .int .u8 (.lit (.ofNat 0)), .int .u8 (.lit (.ofNat 0)), .int .u8 (.lit (.ofNat 0)), .int .u8 (.lit (.ofNat 0)), .int .u8 (.lit (.ofNat 0)), .int .u8 (.lit (.ofNat 0)), .int .u8 (.lit (.ofNat 0)), .int .u8 (.lit (.ofNat 0)), .int .u8 (.lit (.ofNat 0)), .int .u8 (.lit (.ofNat 0)), .int .u8 (.lit (.ofNat 0)), .int .u8 (.lit (.ofNat 0)), .int .u8 (.lit (.ofNat 0)), .int .u8 (.lit (.ofNat 0)), .int .u8 (.lit (.ofNat 0)), .int .u8 (.lit (.ofNat 0)), .int .u8 (.lit (.ofNat 0)), .int .u64 (.lit (.ofNat 0))],
oK wZ (bSt 24 g10 g43),
oP w11 (pMv g44)]) (.seq (.seq (.reg [
oP w45 (pMv g11),
oK w46 (b2 (fun x y s K => cmpA 0 .ptr x y s fun b s => K (vBool b) s) g45 (gC (.w (.s (.nilp))))),
oP w47 (pMv g46),
oGd g47 false w48 (oP w48 (pFaddr 0 g10)),
oGd g47 false w49 (oR w49 (rLoad none g48)),
oGd g47 false w50 (oK w50 (bCmp 1 nEq .eq true g49 (gC (.w (.s (.int .i64 (.lit (.ofNat 0)))))))),
oP w51 (pGen fun _ t => opPick t (.t 47) (.c (.w (.s (.bool true)))) (.t 50)),
oP w52 (pMv g51),
oGd g52 false w53 (oCall w53 18 []),
oGd g52 false w54 (oP w54 (pNot g53)),
oP w55 (pGen fun _ t => opPick t (.t 52) (.c (.w (.s (.bool true)))) (.t 54))]) (.cond g55 (.seq (.reg [
oP w2 (pMv (gC (.w (.s (.bool false)))))]) (.ret)) (.skip))) (.seq (.reg [
oP w56 (pMv g11),
oP w57 (pMv g3),
oK w58 (bCmp 5 gLe cGe false g57 (gC (.w (.s (.int .i64 (.lit (.ofNat 3))))))),
oCall w59 32 [g56, g58]]) (.seq (.seq (.reg [
oP w60 (pMv g3),
oK w61 (bCmp 2 lLt cGe true g60 (gC (.w (.s (.int .i64 (.lit (.ofNat 15)))))))]) (.cond g61 (.seq (.reg [
oP w62 (pBuild [.int .u64 (.lit (.ofNat 0)), .int .u64 (.lit (.ofNat 0)), .int .u64 (.lit (.ofNat 0)), .int .u64 (.lit (.ofNat 0))] []),
oAlloc w12 24 [.int .u64 (.lit (.ofNat 0)), .int .u64 (.lit (.ofNat 0)), .int .u64 (.lit (.ofNat 0)), .int .u64 (.lit (.ofNat 0))],
oK wZ (bSt 4 g12 g62)]) (.seq (.seq (.reg [
oR w63 (rLoad (some 20) g7)]) (.block 0 (.seq (.reg [
oR w65 (rLoad (some 20) g5),
oK w66 (b2 (fun x y s K => cmpA 0 (.agg (.one (.arr 20 5 .u8))) x y s fun b s => K (vBool b) s) g63 g65),
oP w64 (pMv g66)]) (.cond g64 (.reg [
oP w67 (pBuild [.int .u64 (.lit (.ofNat 0)), .int .u64 (.lit (.ofNat 0)), .int .u64 (.lit (.ofNat 0)), .int .u64 (.lit (.ofNat 0))] [(0, 1, (gC (.w (.s (.int .u64 (.lit (.ofNat 1001000)))))))]),
oK wZ (bSt 4 g12 g67)]) (.seq (.reg [
oR w69 (rLoad (some 20) g6),
oK w70 (b2 (fun x y s K => cmpA 0 (.agg (.one (.arr 20 5 .u8))) x y s fun b s => K (vBool b) s) g63 g69),
oP w68 (pMv g70)]) (.cond g68 (.reg [
oP w71 (pBuild [.int .u64 (.lit (.ofNat 0)), .int .u64 (.lit (.ofNat 0)), .int .u64 (.lit (.ofNat 0)), .int .u64 (.lit (.ofNat 0))] [(0, 1, (gC (.w (.s (.int .u64 (.lit (.ofNat 1000)))))))]),
oK wZ (bSt 4 g12 g71)]) (.skip))))))) (.seq (.draw [
⟨0, ⟨(some 72), .p (.mv (.t 11)), none⟩, 0, 0⟩,
⟨1, ⟨(some 73), .r (.load (some 20) (.t 4)), none⟩, 0, 0⟩,
⟨2, ⟨(some 74), .b (.call 33 [(.t 72), (.t 73)]), none⟩, 3, 0⟩,
⟨3, ⟨(some 75), .p (.not (.t 74)), none⟩, 7, 0⟩,
⟨4, ⟨(some 76), .p (.mv (.t 75)), none⟩, 15, 0⟩,
⟨5, ⟨(some 77), .p (.mv (.t 11)), some (76, true)⟩, 31, 0⟩,
⟨6, ⟨(some 78), .r (.load (some 20) (.t 7)), some (76, true)⟩, 31, 0⟩,
⟨8, ⟨(some 80), .r (.load (some 4) (.t 12)), some (76, true)⟩, 31, 0⟩,
⟨7, ⟨(some 79), .b (.call 34 [(.t 77), (.t 78)]), some (76, true)⟩, 127, 0⟩,
⟨9, ⟨(some 81), .b (.cmp 0 (.agg (.one (.arr 4 22 .u64))) (.t 79) (.t 80)), some (76, true)⟩, 511, 0⟩,
⟨10, ⟨(some 82), .p (.pick (.t 76) (.t 81) (.c (.w (.s (.bool false))))), none⟩, 1023, 0⟩,
⟨11, ⟨(some 2), .p (.mv (.t 82)), none⟩, 2047, 0⟩]) (.ret)))) (.skip))) (.seq (.reg [
oP w83 (pBuild [.int .u64 (.lit (.ofNat 0)), .int .u64 (.lit (.ofNat 0)), .int .u64 (.lit (.ofNat 0)), .int .u64 (.lit (.ofNat 0))] []),
oAlloc w13 24 [.int .u64 (.lit (.ofNat 0)), .int .u64 (.lit (.ofNat 0)), .int .u64 (.lit (.ofNat 0)), .int .u64 (.lit (.ofNat 0))],
oK wZ (bSt 4 g13 g83)]) (.seq (.seq (.reg [
oR w84 (rLoad (some 20) g7),
oR w85 (rLoad (some 20) g4),
oK w86 (b2 (fun x y s K => cmpA 0 (.agg (.one (.arr 20 5 .u8))) x y s fun b s => K (vBool b) s) g84 g85)]) (.cond g86 (.reg [
oP w87 (pBuild [.int .u64 (.lit (.ofNat 0)), .int .u64 (.lit (.ofNat 0)), .int .u64 (.lit (.ofNat 0)), .int .u64 (.lit (.ofNat 0))] [(0, 1, (gC (.w (.s (.int .u64 (.lit (.ofNat 1000)))))))]),
oK wZ (bSt 4 g13 g87)]) (.skip))) (.seq (.draw [
⟨0, ⟨(some 88), .p (.mv (.t 11)), none⟩, 0, 0⟩,
⟨1, ⟨(some 89), .r (.load (some 20) (.t 4)), none⟩, 0, 0⟩,
⟨2, ⟨(some 90), .b (.call 33 [(.t 88), (.t 89)]), none⟩, 3, 0⟩,
⟨3, ⟨(some 91), .p (.mv (.t 90)), none⟩, 7, 0⟩,
⟨4, ⟨(some 92), .p (.mv (.t 11)), some (91, true)⟩, 15, 0⟩,
⟨5, ⟨(some 93), .r (.load (some 20) (.t 4)), some (91, true)⟩, 15, 0⟩,
⟨7, ⟨(some 95), .r (.load (some 4) (.t 13)), some (91, true)⟩, 15, 0⟩,
⟨6, ⟨(some 94), .b (.call 34 [(.t 92), (.t 93)]), some (91, true)⟩, 63, 0⟩,
⟨8, ⟨(some 96), .b (.cmp 0 (.agg (.one (.arr 4 22 .u64))) (.t 94) (.t 95)), some (91, true)⟩, 255, 0⟩,
⟨9, ⟨(some 97), .p (.pick (.t 91) (.t 96) (.c (.w (.s (.bool false))))), none⟩, 511, 0⟩,
⟨10, ⟨(some 98), .p (.mv (.t 97)), none⟩, 1023, 0⟩,
⟨11, ⟨(some 99), .p (.mv (.t 11)), some (98, true)⟩, 2047, 0⟩,
⟨12, ⟨(some 100), .r (.load (some 20) (.t 4)), some (98, true)⟩, 2047, 0⟩,
⟨13, ⟨(some 101), .b (.call 35 [(.t 99), (.t 100)]), some (98, true)⟩, 8191, 0⟩,
⟨14, ⟨(some 102), .p (.len (.t 101)), some (98, true)⟩, 16383, 0⟩,
⟨15, ⟨(some 103), .b (.cmp 0 .int (.t 102) (.c (.w (.s (.int .i64 (.lit (.ofNat 34))))))), some (98, true)⟩, 32767, 0⟩,
⟨16, ⟨(some 104), .p (.pick (.t 98) (.t 103) (.c (.w (.s (.bool false))))), none⟩, 65535, 0⟩,
⟨17, ⟨(some 105), .p (.mv (.t 104)), none⟩, 131071, 0⟩,
⟨18, ⟨(some 106), .r (.load (some 20) (.t 7)), some (105, true)⟩, 262143, 0⟩,
⟨19, ⟨(some 107), .r (.load (some 20) (.t 6)), some (105, true)⟩, 262143, 0⟩,
⟨20, ⟨(some 108), .b (.cmp 1 (.agg (.one (.arr 20 5 .u8))) (.t 106) (.t 107)), some (105, true)⟩, 1048575, 0⟩,
⟨21, ⟨(some 109), .p (.mv (.t 108)), some (105, true)⟩, 2097151, 0⟩,
⟨22, ⟨(some 110), .p (.mv (.t 11)), some (109, false)⟩, 4194303, 0⟩,
⟨23, ⟨(some 111), .r (.load (some 20) (.t 6)), some (109, false)⟩, 4194303, 0⟩,
⟨25, ⟨(some 113), .p (.build [.int .u64 (.lit (.ofNat 0)), .int .u64 (.lit (.ofNat 0)), .int .u64 (.lit (.ofNat 0)), .int .u64 (.lit (.ofNat 0))] [(0, 1, (.c (.w (.s (.int .u64 (.lit (.ofNat 1000)))))))]), some (109, false)⟩, 4194303, 0⟩,
⟨24, ⟨(some 112), .b (.call 34 [(.t 110), (.t 111)]), some (109, false)⟩, 16777215, 0⟩,
⟨26, ⟨(some 114), .b (.cmp 0 (.agg (.one (.arr 4 22 .u64))) (.t 112) (.t 113)), some (109, false)⟩, 67108863, 0⟩,
⟨27, ⟨(some 115), .p (.pick (.t 109) (.c (.w (.s (.bool true)))) (.t 114)), some (105, true)⟩, 134217727, 0⟩,
⟨28, ⟨(some 116), .p (.pick (.t 105) (.t 115) (.c (.w (.s (.bool false))))), none⟩, 268435455, 0⟩,
⟨29, ⟨(some 2), .p (.mv (.t 116)), none⟩, 536870911, 0⟩]) (.ret))))))))))))⟩
theorem fp6 : ∃ fn, fb6 = denF fn ∧ ∃ func code hint, FnOk Go.Proofs.Tryz.prog TT 6 fn func code hint := f2_mk (func := Go.Proofs.Tryz.f6) (code := bodyOf Go.Proofs.Tryz.f6) (hint := hintL [(3, [(0, 0), (1, 0), (2, 0), (3, 1048576), (4, 0), (8, 1048577), (5, 0), (6, 0), (7, 0), (9, 0)]), (16, [(0, 0), (1, 0), (2, 0), (3, 0), (4, 0), (5, 0), (6, 0), (8, 0), (7, 0), (9, 0), (10, 0), (11, 0)]), (20, [(0, 0), (1, 0), (2, 0), (3, 0), (4, 0), (5, 0), (7, 0), (6, 0), (8, 0), (9, 0), (10, 0), (11, 0), (12, 0), (13, 0), (14, 0), (15, 0), (16, 0), (17, 0), (18, 0), (19, 0), (20, 0), (21, 0), (22, 0), (23, 0), (25, 0), (24, 0), (26, 0), (27, 0), (28, 0), (29, 0)])]) (n := 117) (res := [.tmp 2]) Go.Proofs.Tryz.func6 Go.Proofs.Tryz.call6 (by kernel_rfl) (by kernel_rfl) (by kernel_rfl) (by kernel_rfl) (by kernel_rfl)
/- (quarry/quarrylaw19.Small).fork -/
def fb8 : AFunc2 := ⟨8, [.tmp g2], .seq (.reg [
oBox w1 27 g0,
oP w2 (pMv (gC (.w (.s (.int .i64 (.lit (.ofNat 0)))))))]) (.seq (.reg [
oP w3 (pFaddr 0 g1),
oR w4 (rLoad none g3),
oP w5 (pGen fun φ t => opMd φ t (.t 4) (.c (.w (.s (.int .i64 (.lit (.ofNat 16))))))),
oP w6 (pAr 0 g5 (gC (.w (.s (.int .i64 (.lit (.ofNat 16))))))),
oP w7 (pGen fun φ t => opMd φ t (.t 6) (.c (.w (.s (.int .i64 (.lit (.ofNat 16))))))),
oP w2 (pMv g7)]) (.ret))⟩
theorem fp8 : ∃ fn, fb8 = denF fn ∧ ∃ func code hint, FnOk Go.Proofs.Tryz.prog TT 8 fn func code hint := f2_mk (func := Go.Proofs.Tryz.f8) (code := bodyOf Go.Proofs.Tryz.f8) (hint := hintL []) (n := 8) (res := [.tmp 2]) Go.Proofs.Tryz.func8 Go.Proofs.Tryz.call8 (by kernel_rfl) (by kernel_rfl) (by kernel_rfl) (by kernel_rfl) (by kernel_rfl)
def fa8 : AFunc := ⟨8, [.tmp 2], .seq (.reg [
⟨(some 1), .m (.box 27 (.t 0)), none⟩,
⟨(some 2), .p (.mv (.c (.w (.s (.int .i64 (.lit (.ofNat 0))))))), none⟩]) (.seq (.reg [
⟨(some 3), .p (.faddr 0 (.t 1)), none⟩,
⟨(some 4), .r (.load none (.t 3)), none⟩,
⟨(some 5), .p (.md (.t 4) (.c (.w (.s (.int .i64 (.lit (.ofNat 16))))))), none⟩,
⟨(some 6), .p (.ar 0 (.t 5) (.c (.w (.s (.int .i64 (.lit (.ofNat 16))))))), none⟩,
⟨(some 7), .p (.md (.t 6) (.c (.w (.s (.int .i64 (.lit (.ofNat 16))))))), none⟩,
⟨(some 2), .p (.mv (.t 7)), none⟩]) (.ret))⟩
theorem fo8 : ∃ func code hint, FnOk Go.Proofs.Tryz.prog TT 8 fa8 func code hint := ⟨Go.Proofs.Tryz.f8, bodyOf Go.Proofs.Tryz.f8, hintL [], ⟨Go.Proofs.Tryz.func8, Go.Proofs.Tryz.call8, by kernel_rfl, by kernel_rfl, by kernel_rfl, by kernel_rfl⟩⟩
/- quarry/quarrylaw19.who -/
def fb9 : AFunc2 := ⟨6, [.cell (rLoad (some 20) g0), .cell (rLoad (some 20) g1), .cell (rLoad (some 20) g2)], .seq (.reg [
oAlloc w0 30 zz0,
oAlloc w1 30 zz0,
oAlloc w2 30 zz0]) (.seq (.reg [
oP w3 (pBuild zz0 [(0, 1, (gC (.w (.s (.int .u8 (.lit (.ofNat 170)))))))]),
oP w4 (pBuild zz0 [(0, 1, (gC (.w (.s (.int .u8 (.lit (.ofNat 187)))))))]),
oP w5 (pBuild zz0 [(0, 1, (gC (.w (.s (.int .u8 (.lit (.ofNat 204)))))))]),
oK wZ (bSt 20 g0 g3),
oK wZ (bSt 20 g1 g4),
oK wZ (bSt 20 g2 g5)]) (.ret))⟩
theorem fp9 : ∃ fn, fb9 = denF fn ∧ ∃ func code hint, FnOk Go.Proofs.Tryz.prog TT 9 fn func code hint := f2_mk (func := Go.Proofs.Tryz.f9) (code := bodyOf Go.Proofs.Tryz.f9) (hint := hintL []) (n := 6) (res := [.cell 0 (some 20), .cell 1 (some 20), .cell 2 (some 20)]) Go.Proofs.Tryz.func9 Go.Proofs.Tryz.call9 (by kernel_rfl) (by kernel_rfl) (by kernel_rfl) (by kernel_rfl) (by kernel_rfl)
/- quarry/word.From -/
def fb10 : AFunc2 := ⟨38, [.cell (rLoad (some 4) g2), .tmp g3], .seq (.reg [
oAlloc w2 24 [.int .u64 (.lit (.ofNat 0)), .int .u64 (.lit (.ofNat 0)), .int .u64 (.lit (.ofNat 0)), .int .u64 (.lit (.ofNat 0))],
oP w3 (pMv (gC (.w (.s (.bool false)))))]) (.seq (.seq (.reg [
oP w8 (pMv g0),
oP w9 (pGen fun _ t => opLen t (.t 8)),
oK w10 (bCmp 4 nLe .le true g9 (gC (.w (.s (.int .i64 (.lit (.ofNat 32)))))))]) (.cond g10 (.seq (.reg [
oP w11 (pBuild [.int .u64 (.lit (.ofNat 0)), .int .u64 (.lit (.ofNat 0)), .int .u64 (.lit (.ofNat 0)), .int .u64 (.lit (.ofNat 0))] []),
oK wZ (bSt 4 g2 g11),
oP w3 (pMv (gC (.w (.s (.bool false)))))]) (.ret)) (.skip))) (.seq (.reg [
oAlloc w4 24 [.int .u64 (.lit (.ofNat 0)), .int .u64 (.lit (.ofNat 0)), .int .u64 (.lit (.ofNat 0)), .int .u64 (.lit (.ofNat 0))]]) (.seq (.seq (.reg [
oP w12 (pMv g0),
oP w13 (pGen fun _ t => opLen t (.t 12)),
oP w14 (pMv (gC (.w (.s (.int .i64 (.lit (.ofNat 0)))))))]) (.block 0 (.loop (.seq (.reg [
oK w15 (bCmp 2 lLt cGe true g14 g13)]) (.seq (.cond g15 (.skip) (.exit 0)) (.seq (.block 1 (.seq (.reg [
oP w16 (pMv g14),
oP w17 (pIaddrS 1 g12 g14),
oR w18 (rLoad none g17),
oP w5 (pMv g16),
oP w6 (pMv g18)]) (.seq (.reg [
oP w19 (pMv g0),
oP w20 (pGen fun _ t => opLen t (.t 19)),
oP w21 (pAr 1 g20 (gC (.w (.s (.int .i64 (.lit (.ofNat 1))))))),
oP w22 (pMv g5),
oP w23 (pAr 1 g21 g22),
oP w7 (pMv g23)]) (.draw [
⟨0, ⟨(some 24), .p (.mv (.t 7)), none⟩, 0, 0⟩,
⟨1, ⟨(some 25), .p (.dv (.t 24) (.c (.w (.s (.int .i64 (.lit (.ofNat 8))))))), none⟩, 1, 0⟩,
⟨2, ⟨(some 26), .p (.iaddrA 4 1 (.t 4) (.t 25)), none⟩, 3, 0⟩,
⟨3, ⟨(some 27), .r (.load none (.t 26)), none⟩, 7, 0⟩,
⟨4, ⟨(some 28), .p (.mv (.t 6)), none⟩, 0, 0⟩,
⟨5, ⟨(some 29), .p (.conv .u64 (.t 28)), none⟩, 16, 0⟩,
⟨6, ⟨(some 30), .p (.mv (.t 7)), none⟩, 0, 0⟩,
⟨7, ⟨(some 31), .p (.md (.t 30) (.c (.w (.s (.int .i64 (.lit (.ofNat 8))))))), none⟩, 64, 0⟩,
⟨8, ⟨(some 32), .p (.ar 2 (.t 31) (.c (.w (.s (.int .i64 (.lit (.ofNat 8))))))), none⟩, 192, 0⟩,
⟨9, ⟨(some 33), .p (.shl (.t 29) (.t 32)), none⟩, 496, 0⟩,
⟨10, ⟨(some 34), .p (.bt 1 (.t 27) (.t 33)), none⟩, 1023, 0⟩,
⟨11, ⟨(some 35), .p (.iaddrA 4 1 (.t 4) (.t 25)), none⟩, 2047, 0⟩,
⟨12, ⟨none, .b (.store 1 (.t 35) (.t 34)), none⟩, 4095, 0⟩])))) (.reg [
oP w36 (pAr 0 g14 (gC (.w (.s (.int .i64 (.lit (.ofNat 1))))))),
oP w14 (pMv g36)]))))))) (.seq (.reg [
oR w37 (rLoad (some 4) g4),
oK wZ (bSt 4 g2 g37),
oP w3 (pMv (gC (.w (.s (.bool true)))))]) (.ret)))))⟩
theorem fp10 : ∃ fn, fb10 = denF fn ∧ ∃ func code hint, FnOk Go.Proofs.Tryz.prog TT 10 fn func code hint := f2_mk (func := Go.Proofs.Tryz.f10) (code := bodyOf Go.Proofs.Tryz.f10) (hint := hintL [(8, [(0, 0), (1, 0), (2, 0), (3, 0), (4, 0), (5, 0), (6, 0), (7, 0), (8, 0), (9, 0), (10, 0), (11, 0), (12, 0)])]) (n := 38) (res := [.cell 2 (some 4), .tmp 3]) Go.Proofs.Tryz.func10 Go.Proofs.Tryz.call10 (by kernel_rfl) (by kernel_rfl) (by kernel_rfl) (by kernel_rfl) (by kernel_rfl)
/- quarry/quarrylaw19.cat -/
def fb11 : AFunc2 := ⟨18, [.tmp g2], .seq (.reg [
oP w2 (pMv (gC (.w (.s (.nils)))))]) (.seq (.reg [
oP w3 (pMv (gC (.w (.s (.nils)))))]) (.seq (.seq (.reg [
oP w4 (pMv (gC (.w (.s (.int .i64 (.lit (.ofNat 0)))))))]) (.block 0 (.loop (.seq (.seq (.reg [
oP w5 (pMv g4),
oP w6 (pMv g0),
oP w7 (pGen fun _ t => opLen t (.t 6)),
oK w8 (bCmp 2 lLt cGe true g5 g7)]) (.cond g8 (.skip) (.exit 0))) (.seq (.block 1 (.reg [
oP w11 (pMv g3),
oP w12 (pMv g0),
oP w13 (pMv g4),
oP w14 (pIaddrS 1 g12 g13),
oR w15 (rLoad none g14),
oK w16 (b2 (bAppend 5 1 1) g11 g15),
oP w3 (pMv g16)])) (.reg [
oP w9 (pMv g4),
oP w10 (pAr 0 g9 (gC (.w (.s (.int .i64 (.lit (.ofNat 1))))))),
oP w4 (pMv g10)])))))) (.seq (.reg [
oP w17 (pMv g3),
oP w2 (pMv g17)]) (.ret))))⟩
theorem fp11 : ∃ fn, fb11 = denF fn ∧ ∃ func code hint, FnOk Go.Proofs.Tryz.prog TT 11 fn func code hint := f2_mk (func := Go.Proofs.Tryz.f11) (code := bodyOf Go.Proofs.Tryz.f11) (hint := hintL []) (n := 18) (res := [.tmp 2]) Go.Proofs.Tryz.func11 Go.Proofs.Tryz.call11 (by kernel_rfl) (by kernel_rfl) (by kernel_rfl) (by kernel_rfl) (by kernel_rfl)
/- quarry/quarrylaw19.ret -/
def fb12 : AFunc2 := ⟨9, [.tmp g2], .seq (.reg [
oP w2 (pMv (gC (.w (.s (.nils)))))]) (.seq (.reg [
oP w3 (pMv g0),
oCall w4 13 [g3],
oCall w5 13 [(gC (.w (.s (.int .i64 (.lit (.ofNat 0))))))],
oM w6 (.bslice 5 1 [.int .u8 (.lit (.ofNat 0))] [(0, 1, (.c (.w (.s (.int .u8 (.lit (.ofNat 243)))))))]),
oM w7 (.bslice 25 3 [.nils] [(0, 1, (.t 4)), (1, 1, (.t 5)), (2, 1, (.t 6))]),
oCall w8 11 [g7],
oP w2 (pMv g8)]) (.ret))⟩
theorem fp12 : ∃ fn, fb12 = denF fn ∧ ∃ func code hint, FnOk Go.Proofs.Tryz.prog TT 12 fn func code hint := f2_mk (func := Go.Proofs.Tryz.f12) (code := bodyOf Go.Proofs.Tryz.f12) (hint := hintL []) (n := 9) (res := [.tmp 2]) Go.Proofs.Tryz.func12 Go.Proofs.Tryz.call12 (by kernel_rfl) (by kernel_rfl) (by kernel_rfl) (by kernel_rfl) (by kernel_rfl)
/- quarry/quarrylaw19.num -/
def fb13 : AFunc2 := ⟨7, [.tmp g2], .seq (.reg [
oP w2 (pMv (gC (.w (.s (.nils)))))]) (.seq (.reg [
oP w3 (pMv g0),
oP w4 (pConv .u64 g3),
oP w5 (pBuild [.int .u64 (.lit (.ofNat 0)), .int .u64 (.lit (.ofNat 0)), .int .u64 (.lit (.ofNat 0)), .int .u64 (.lit (.ofNat 0))] [(0, 1, g4)]),
oCall w6 14 [g5],
oP w2 (pMv g6)]) (.ret))⟩
theorem fp13 : ∃ fn, fb13 = denF fn ∧ ∃ func code hint, FnOk Go.Proofs.Tryz.prog TT 13 fn func code hint := f2_mk (func := Go.Proofs.Tryz.f13) (code := bodyOf Go.Proofs.Tryz.f13) (hint := hintL []) (n := 7) (res := [.tmp 2]) Go.Proofs.Tryz.func13 Go.Proofs.Tryz.call13 (by kernel_rfl) (by kernel_rfl) (by kernel_rfl) (by kernel_rfl) (by kernel_rfl)
/- quarry/quarrylaw19.push -/
def fb14 : AFunc2 := ⟨9, [.tmp g2], .seq (.reg [
oBox w1 24 g0,
oP w2 (pMv (gC (.w (.s (.nils)))))]) (.seq (.reg [
oR w4 (rLoad (some 4) g1),
oCall w5 19 [g4],
oAlloc w3 50 zz1,
oK wZ (bSt 32 g3 g5)]) (.seq (.reg [
oM w6 (.bslice 5 1 [.int .u8 (.lit (.ofNat 0))] [(0, 1, (.c (.w (.s (.int .u8 (.lit (.ofNat 127)))))))]),
oP w7 (pGen fun _ t => opASlice t 32 1 (.t 3) none none),
oK w8 (b2 (bAppend 5 1 1) g6 g7),
oP w2 (pMv g8)]) (.ret)))⟩
theorem fp14 : ∃ fn, fb14 = denF fn ∧ ∃ func code hint, FnOk Go.Proofs.Tryz.prog TT 14 fn func code hint := f2_mk (func := Go.Proofs.Tryz.f14) (code := bodyOf Go.Proofs.Tryz.f14) (hint := hintL []) (n := 9) (res := [.tmp 2]) Go.Proofs.Tryz.func14 Go.Proofs.Tryz.call14 (by kernel_rfl) (by kernel_rfl) (by kernel_rfl) (by kernel_rfl) (by kernel_rfl)
/- quarry/quarrylaw19.plays -/
def fb15 : AFunc2 := ⟨76, [.cell (rLoad (some 24) g12), .tmp g13], .seq (.reg [
oBox w10 24 g4,
oAlloc w12 39 [.int .i64 (.lit (.ofNat 0)), .nils, .int .u64 (.lit (.ofNat 0)), .int .u8 (.lit (.ofNat 0)), .int .u8 (.lit (.ofNat 0)), .int .u8 (.lit (.ofNat 0)), .int .u8 (.lit (.ofNat 0)), .int .u8 (.lit (.ofNat 0)), .int .u8 (.lit (.ofNat 0)), .int .u8 (.lit (.ofNat 0)), .int .u8 (.lit (.ofNat 0)), .int .u8 (.lit (.ofNat 0)), .int .u8 (.lit (.ofNat 0)), .int .u8 (.lit (.ofNat 0)), .int .u8 (.lit (.ofNat 0)), .int .u8 (.lit (.ofNat 0)), .int .u8 (.lit (.ofNat 0)), .int .u8 (.lit (.ofNat 0)), .int .u8 (.lit (.ofNat 0)), .int .u8 (.lit (.ofNat 0)), .int .u8 (.lit (.ofNat 0)), .int .u8 (.lit (.ofNat 0)), .int .u8 (.lit (.ofNat 0)), .int .u64 (.lit (.ofNat 0))],
oP w13 (pMv (gC (.w (.s (.nilp)))))]) (.seq (.reg [
oCall w23 9 [],
oP w22 (pMv g23),
oP w24 (pExt g22 0),
oP w25 (pExt g22 1),
oP w26 (pExt g22 2),
oAlloc w14 30 zz0,
oAlloc w15 30 zz0,
oAlloc w16 30 zz0,
oK wZ (bSt 20 g14 g24),
oK wZ (bSt 20 g15 g25),
oK wZ (bSt 20 g16 g26)]) (.seq (.reg [
oR w27 (rLoad (some 20) g14),
oP w28 (pBuild [.int .u64 (.lit (.ofNat 0)), .int .u64 (.lit (.ofNat 0)), .int .u64 (.lit (.ofNat 0)), .int .u64 (.lit (.ofNat 0))] [(0, 1, (gC (.w (.s (.int .u64 (.lit (.ofNat 1000)))))))]),
oP w29 (pMv g1),
oP w30 (pBuild [.int .u8 (.lit (.ofNat 0)), .int .u8 (.lit (.ofNat 0)), .int .u8 (.lit (.ofNat 0)), .int .u8 (.lit (.ofNat 0)), .int .u8 (.lit (.ofNat 0)), .int .u8 (.lit (.ofNat 0)), .int .u8 (.lit (.ofNat 0)), .int .u8 (.lit (.ofNat 0)), .int .u8 (.lit (.ofNat 0)), .int .u8 (.lit (.ofNat 0)), .int .u8 (.lit (.ofNat 0)), .int .u8 (.lit (.ofNat 0)), .int .u8 (.lit (.ofNat 0)), .int .u8 (.lit (.ofNat 0)), .int .u8 (.lit (.ofNat 0)), .int .u8 (.lit (.ofNat 0)), .int .u8 (.lit (.ofNat 0)), .int .u8 (.lit (.ofNat 0)), .int .u8 (.lit (.ofNat 0)), .int .u8 (.lit (.ofNat 0)), .int .u64 (.lit (.ofNat 0)), .int .u64 (.lit (.ofNat 0)), .int .u64 (.lit (.ofNat 0)), .int .u64 (.lit (.ofNat 0)), .int .u64 (.lit (.ofNat 0)), .nils, .nils] [(0, 20, g27), (20, 1, (gC (.w (.s (.int .u64 (.lit (.ofNat 1))))))), (21, 4, g28), (25, 1, g29)]),
oR w31 (rLoad (some 20) g15),
oP w32 (pBuild [.int .u64 (.lit (.ofNat 0)), .int .u64 (.lit (.ofNat 0)), .int .u64 (.lit (.ofNat 0)), .int .u64 (.lit (.ofNat 0))] [(0, 1, (gC (.w (.s (.int .u64 (.lit (.ofNat 1000000)))))))]),
oP w33 (pBuild [.int .u8 (.lit (.ofNat 0)), .int .u8 (.lit (.ofNat 0)), .int .u8 (.lit (.ofNat 0)), .int .u8 (.lit (.ofNat 0)), .int .u8 (.lit (.ofNat 0)), .int .u8 (.lit (.ofNat 0)), .int .u8 (.lit (.ofNat 0)), .int .u8 (.lit (.ofNat 0)), .int .u8 (.lit (.ofNat 0)), .int .u8 (.lit (.ofNat 0)), .int .u8 (.lit (.ofNat 0)), .int .u8 (.lit (.ofNat 0)), .int .u8 (.lit (.ofNat 0)), .int .u8 (.lit (.ofNat 0)), .int .u8 (.lit (.ofNat 0)), .int .u8 (.lit (.ofNat 0)), .int .u8 (.lit (.ofNat 0)), .int .u8 (.lit (.ofNat 0)), .int .u8 (.lit (.ofNat 0)), .int .u8 (.lit (.ofNat 0)), .int .u64 (.lit (.ofNat 0)), .int .u64 (.lit (.ofNat 0)), .int .u64 (.lit (.ofNat 0)), .int .u64 (.lit (.ofNat 0)), .int .u64 (.lit (.ofNat 0)), .nils, .nils] [(0, 20, g31), (20, 1, (gC (.w (.s (.int .u64 (.lit (.ofNat 1))))))), (21, 4, g32)]),
oM w34 (.bslice 63 2 [.int .u8 (.lit (.ofNat 0)), .int .u8 (.lit (.ofNat 0)), .int .u8 (.lit (.ofNat 0)), .int .u8 (.lit (.ofNat 0)), .int .u8 (.lit (.ofNat 0)), .int .u8 (.lit (.ofNat 0)), .int .u8 (.lit (.ofNat 0)), .int .u8 (.lit (.ofNat 0)), .int .u8 (.lit (.ofNat 0)), .int .u8 (.lit (.ofNat 0)), .int .u8 (.lit (.ofNat 0)), .int .u8 (.lit (.ofNat 0)), .int .u8 (.lit (.ofNat 0)), .int .u8 (.lit (.ofNat 0)), .int .u8 (.lit (.ofNat 0)), .int .u8 (.lit (.ofNat 0)), .int .u8 (.lit (.ofNat 0)), .int .u8 (.lit (.ofNat 0)), .int .u8 (.lit (.ofNat 0)), .int .u8 (.lit (.ofNat 0)), .int .u64 (.lit (.ofNat 0)), .int .u64 (.lit (.ofNat 0)), .int .u64 (.lit (.ofNat 0)), .int .u64 (.lit (.ofNat 0)), .int .u64 (.lit (.ofNat 0)), .nils, .nils] [(0, 27, (.t 30)), (27, 27, (.t 33))]),
oP w17 (pMv g34)]) (.seq (.seq (.reg [
oP w35 (pMv g2),
oP w36 (pGen fun _ t => opLen t (.t 35)),
oK w37 (bCmp 4 nLe .le true g36 (gC (.w (.s (.int .i64 (.lit (.ofNat 0)))))))]) (.cond g37 (.reg [
oP w38 (pMv g17),
oR w39 (rLoad (some 20) g16),
oP w40 (pMv g2),
oP w41 (pBuild [.int .u8 (.lit (.ofNat 0)), .int .u8 (.lit (.ofNat 0)), .int .u8 (.lit (.ofNat 0)), .int .u8 (.lit (.ofNat 0)), .int .u8 (.lit (.ofNat 0)), .int .u8 (.lit (.ofNat 0)), .int .u8 (.lit (.ofNat 0)), .int .u8 (.lit (.ofNat 0)), .int .u8 (.lit (.ofNat 0)), .int .u8 (.lit (.ofNat 0)), .int .u8 (.lit (.ofNat 0)), .int .u8 (.lit (.ofNat 0)), .int .u8 (.lit (.ofNat 0)), .int .u8 (.lit (.ofNat 0)), .int .u8 (.lit (.ofNat 0)), .int .u8 (.lit (.ofNat 0)), .int .u8 (.lit (.ofNat 0)), .int .u8 (.lit (.ofNat 0)), .int .u8 (.lit (.ofNat 0)), .int .u8 (.lit (.ofNat 0)), .int .u64 (.lit (.ofNat 0)), .int .u64 (.lit (.ofNat 0)), .int .u64 (.lit (.ofNat 0)), .int .u64 (.lit (.ofNat 0)), .int .u64 (.lit (.ofNat 0)), .nils, .nils] [(0, 20, g39), (20, 1, (gC (.w (.s (.int .u64 (.lit (.ofNat 1))))))), (25, 1, g40)]),
oM w42 (.bslice 63 1 [.int .u8 (.lit (.ofNat 0)), .int .u8 (.lit (.ofNat 0)), .int .u8 (.lit (.ofNat 0)), .int .u8 (.lit (.ofNat 0)), .int .u8 (.lit (.ofNat 0)), .int .u8 (.lit (.ofNat 0)), .int .u8 (.lit (.ofNat 0)), .int .u8 (.lit (.ofNat 0)), .int .u8 (.lit (.ofNat 0)), .int .u8 (.lit (.ofNat 0)), .int .u8 (.lit (.ofNat 0)), .int .u8 (.lit (.ofNat 0)), .int .u8 (.lit (.ofNat 0)), .int .u8 (.lit (.ofNat 0)), .int .u8 (.lit (.ofNat 0)), .int .u8 (.lit (.ofNat 0)), .int .u8 (.lit (.ofNat 0)), .int .u8 (.lit (.ofNat 0)), .int .u8 (.lit (.ofNat 0)), .int .u8 (.lit (.ofNat 0)), .int .u64 (.lit (.ofNat 0)), .int .u64 (.lit (.ofNat 0)), .int .u64 (.lit (.ofNat 0)), .int .u64 (.lit (.ofNat 0)), .int .u64 (.lit (.ofNat 0)), .nils, .nils] [(0, 27, (.t 41))]),
oK w43 (b2 (bAppend 63 27 112) g38 g42),
oP w17 (pMv g43)]) (.skip))) (.seq (.reg [
oP w45 (pMv g17),
oCall w46 27 [g45],
oP w44 (pMv g46),
oP w47 (pExt g44 0),
oP w48 (pExt g44 1),
oP w18 (pMv g47),
oP w19 (pMv g48)]) (.seq (.seq (.reg [
oP w49 (pMv g18),
oK w50 (b2 (fun x y s K => cmpA 0 .ptr x y s fun b s => K (vBool b) s) g49 (gC (.w (.s (.nilp)))))]) (.cond g50 (.seq (.reg [
oP w51 (pBuild [.int .i64 (.lit (.ofNat 0)), .nils, .int .u64 (.lit (.ofNat 0)), .int .u8 (.lit (.ofNat 0)), .int .u8 (.lit (.ofNat 0)), .int .u8 (.lit (.ofNat 0)), .int .u8 (.lit (.ofNat 0)), .int .u8 (.lit (.ofNat 0)), .int .u8 (.lit (.ofNat 0)), .int .u8 (.lit (.ofNat 0)), .int .u8 (.lit (.ofNat 0)), .int .u8 (.lit (.ofNat 0)), .int .u8 (.lit (.ofNat 0)), .int .u8 (.lit (.ofNat 0)), .int .u8 (.lit (.ofNat 0)), .int .u8 (.lit (.ofNat 0)), .int .u8 (.lit (.ofNat 0)), .int .u8 (.lit (.ofNat 0)), .int .u8 (.lit (.ofNat 0)), .int .u8 (.lit (.ofNat 0)), .int .u8 (.lit (.ofNat 0)), .int .u8 (.lit (.ofNat 0)), .int .u8 (.lit (.ofNat 0)), .int .u64 (.lit (.ofNat 0))] [(0, 1, (gC (.w (.s (.int .i64 (.lit (.ofNat 9)))))))]),
oK wZ (bSt 24 g12 g51),
oP w13 (pMv (gC (.w (.s (.nilp)))))]) (.ret)) (.skip))) (.seq (.reg [
oP w53 (pMv g0),
oP w54 (pBuild zz1 [(0, 1, (gC (.w (.s (.int .u8 (.lit (.ofNat 1)))))))]),
oP w55 (pBuild zz1 [(0, 1, (gC (.w (.s (.int .u8 (.lit (.ofNat 2)))))))]),
oP w56 (pBuild zz1 [(0, 1, (gC (.w (.s (.int .u8 (.lit (.ofNat 3)))))))]),
oM w57 (.bslice 90 3 (lrep (.int .u8 (.lit (.ofNat 0))) 32) [(0, 32, (.t 54)), (32, 32, (.t 55)), (64, 32, (.t 56))]),
oP w58 (pBuild [.int .u8 (.lit (.ofNat 0)), .int .u8 (.lit (.ofNat 0)), .int .u8 (.lit (.ofNat 0)), .int .u8 (.lit (.ofNat 0)), .int .u8 (.lit (.ofNat 0)), .int .u8 (.lit (.ofNat 0)), .int .u8 (.lit (.ofNat 0)), .int .u8 (.lit (.ofNat 0)), .int .u8 (.lit (.ofNat 0)), .int .u8 (.lit (.ofNat 0)), .int .u8 (.lit (.ofNat 0)), .int .u8 (.lit (.ofNat 0)), .int .u8 (.lit (.ofNat 0)), .int .u8 (.lit (.ofNat 0)), .int .u8 (.lit (.ofNat 0)), .int .u8 (.lit (.ofNat 0)), .int .u8 (.lit (.ofNat 0)), .int .u8 (.lit (.ofNat 0)), .int .u8 (.lit (.ofNat 0)), .int .u8 (.lit (.ofNat 0)), .int .u64 (.lit (.ofNat 0)), .int .u64 (.lit (.ofNat 0)), .int .u64 (.lit (.ofNat 0)), .int .u64 (.lit (.ofNat 0)), .int .u64 (.lit (.ofNat 0)), .int .u64 (.lit (.ofNat 0)), .int .u64 (.lit (.ofNat 0)), .int .u64 (.lit (.ofNat 0)), .int .u64 (.lit (.ofNat 0)), .int .u64 (.lit (.ofNat 0)), .int .u64 (.lit (.ofNat 0)), .int .u64 (.lit (.ofNat 0)), .int .u64 (.lit (.ofNat 0)), .int .u64 (.lit (.ofNat 0)), .int .u64 (.lit (.ofNat 0)), .int .u64 (.lit (.ofNat 0)), .nils] [(20, 1, (gC (.w (.s (.int .u64 (.lit (.ofNat 1000))))))), (36, 1, g57)]),
oR w59 (rLoad (some 20) g15),
oP w60 (pBuild [.int .u8 (.lit (.ofNat 0)), .int .u8 (.lit (.ofNat 0)), .int .u8 (.lit (.ofNat 0)), .int .u8 (.lit (.ofNat 0)), .int .u8 (.lit (.ofNat 0)), .int .u8 (.lit (.ofNat 0)), .int .u8 (.lit (.ofNat 0)), .int .u8 (.lit (.ofNat 0)), .int .u8 (.lit (.ofNat 0)), .int .u8 (.lit (.ofNat 0)), .int .u8 (.lit (.ofNat 0)), .int .u8 (.lit (.ofNat 0)), .int .u8 (.lit (.ofNat 0)), .int .u8 (.lit (.ofNat 0)), .int .u8 (.lit (.ofNat 0)), .int .u8 (.lit (.ofNat 0)), .int .u8 (.lit (.ofNat 0)), .int .u8 (.lit (.ofNat 0)), .int .u8 (.lit (.ofNat 0)), .int .u8 (.lit (.ofNat 0)), .int .u64 (.lit (.ofNat 0)), .int .u64 (.lit (.ofNat 0)), .int .u64 (.lit (.ofNat 0)), .int .u64 (.lit (.ofNat 0)), .nils] [(0, 20, g59)]),
oP w61 (pMv g18),
oR w62 (rLoad (some 20) g15),
oR w63 (rLoad (some 20) g14),
oR w64 (rLoad (some 4) g10),
oP w65 (pMv g3),
oP w66 (pMv g5),
oP w67 (pBuild [.bool false, .int .u8 (.lit (.ofNat 0)), .int .u8 (.lit (.ofNat 0)), .int .u8 (.lit (.ofNat 0)), .int .u8 (.lit (.ofNat 0)), .int .u8 (.lit (.ofNat 0)), .int .u8 (.lit (.ofNat 0)), .int .u8 (.lit (.ofNat 0)), .int .u8 (.lit (.ofNat 0)), .int .u8 (.lit (.ofNat 0)), .int .u8 (.lit (.ofNat 0)), .int .u8 (.lit (.ofNat 0)), .int .u8 (.lit (.ofNat 0)), .int .u8 (.lit (.ofNat 0)), .int .u8 (.lit (.ofNat 0)), .int .u8 (.lit (.ofNat 0)), .int .u8 (.lit (.ofNat 0)), .int .u8 (.lit (.ofNat 0)), .int .u8 (.lit (.ofNat 0)), .int .u8 (.lit (.ofNat 0)), .int .u8 (.lit (.ofNat 0)), .int .u8 (.lit (.ofNat 0)), .int .u8 (.lit (.ofNat 0)), .int .u8 (.lit (.ofNat 0)), .int .u8 (.lit (.ofNat 0)), .int .u8 (.lit (.ofNat 0)), .int .u8 (.lit (.ofNat 0)), .int .u8 (.lit (.ofNat 0)), .int .u8 (.lit (.ofNat 0)), .int .u8 (.lit (.ofNat 0)), .int .u8 (.lit (.ofNat 0)), .int .u8 (.lit (.ofNat 0)), .int .u8 (.lit (.ofNat 0)), .int .u8 (.lit (.ofNat 0)), .int .u8 (.lit (.ofNat 0)), .int .u8 (.lit (.ofNat 0)), .int .u8 (.lit (.ofNat 0)), .int .u8 (.lit (.ofNat 0)), .int .u8 (.lit (.ofNat 0)), .int .u8 (.lit (.ofNat 0)), .int .u8 (.lit (.ofNat 0)), .int .u64 (.lit (.ofNat 0)), .int .u64 (.lit (.ofNat 0)), .int .u64 (.lit (.ofNat 0)), .int .u64 (.lit (.ofNat 0)), .nils, .int .u64 (.lit (.ofNat 0)), .bool false, .int .i64 (.lit (.ofNat 0))] [(1, 20, g62), (21, 20, g63), (41, 4, g64), (45, 1, g65), (46, 1, g66)]),
oCall w68 28 [g53, g58, g60, g61, g67],
oP w52 (pMv g68),
oP w69 (pExt g52 0),
oP w70 (pExt g52 1),
oAlloc w20 39 [.int .i64 (.lit (.ofNat 0)), .nils, .int .u64 (.lit (.ofNat 0)), .int .u8 (.lit (.ofNat 0)), .int .u8 (.lit (.ofNat 0)), .int .u8 (.lit (.ofNat 0)), .int .u8 (.lit (.ofNat 0)), .int .u8 (.lit (.ofNat 0)), .int .u8 (.lit (.ofNat 0)), .int .u8 (.lit (.ofNat 0)), .int .u8 (.lit (.ofNat 0)), .int .u8 (.lit (.ofNat 0)), .int .u8 (.lit (.ofNat 0)), .int .u8 (.lit (.ofNat 0)), .int .u8 (.lit (.ofNat 0)), .int .u8 (.lit (.ofNat 0)), .int .u8 (.lit (.ofNat 0)), .int .u8 (.lit (.ofNat 0)), .int .u8 (.lit (.ofNat 0)), .int .u8 (.lit (.ofNat 0)), .int .u8 (.lit (.ofNat 0)), .int .u8 (.lit (.ofNat 0)), .int .u8 (.lit (.ofNat 0)), .int .u64 (.lit (.ofNat 0))],
oK wZ (bSt 24 g20 g69),
oP w21 (pMv g70)]) (.seq (.seq (.reg [
oP w71 (pMv g21),
oK w72 (bCmp 1 nEq .eq true g71 (gC (.w (.s (.int .i64 (.lit (.ofNat 0)))))))]) (.cond g72 (.seq (.reg [
oP w73 (pBuild [.int .i64 (.lit (.ofNat 0)), .nils, .int .u64 (.lit (.ofNat 0)), .int .u8 (.lit (.ofNat 0)), .int .u8 (.lit (.ofNat 0)), .int .u8 (.lit (.ofNat 0)), .int .u8 (.lit (.ofNat 0)), .int .u8 (.lit (.ofNat 0)), .int .u8 (.lit (.ofNat 0)), .int .u8 (.lit (.ofNat 0)), .int .u8 (.lit (.ofNat 0)), .int .u8 (.lit (.ofNat 0)), .int .u8 (.lit (.ofNat 0)), .int .u8 (.lit (.ofNat 0)), .int .u8 (.lit (.ofNat 0)), .int .u8 (.lit (.ofNat 0)), .int .u8 (.lit (.ofNat 0)), .int .u8 (.lit (.ofNat 0)), .int .u8 (.lit (.ofNat 0)), .int .u8 (.lit (.ofNat 0)), .int .u8 (.lit (.ofNat 0)), .int .u8 (.lit (.ofNat 0)), .int .u8 (.lit (.ofNat 0)), .int .u64 (.lit (.ofNat 0))] [(0, 1, (gC (.w (.s (.int .i64 (.lit (.ofNat 9)))))))]),
oK wZ (bSt 24 g12 g73),
oP w13 (pMv (gC (.w (.s (.nilp)))))]) (.ret)) (.skip))) (.seq (.reg [
oR w74 (rLoad (some 24) g20),
oP w75 (pMv g18),
oK wZ (bSt 24 g12 g74),
oP w13 (pMv g75)]) (.ret)))))))))⟩
theorem fp15 : ∃ fn, fb15 = denF fn ∧ ∃ func code hint, FnOk Go.Proofs.Tryz.prog TT 15 fn func code hint := f2_mk (func := Go.Proofs.Tryz.f15) (code := bodyOf Go.Proofs.Tryz.f15) (hint := hintL []) (n := 76) (res := [.cell 12 (some 24), .tmp 13]) Go.Proofs.Tryz.func15 Go.Proofs.Tryz.call15 (by kernel_rfl) (by kernel_rfl) (by kernel_rfl) (by kernel_rfl) (by kernel_rfl)
/- quarry/quarryref13.Of -/
def fb16 : AFunc2 := ⟨123, [.cell (rLoad (some 26) g2), .tmp g3], .seq (.reg [
oAlloc w2 44 [.int .i64 (.lit (.ofNat 0)), .int .u64 (.lit (.ofNat 0)), .int .u64 (.lit (.ofNat 0)), .int .u64 (.lit (.ofNat 0)), .int .u64 (.lit (.ofNat 0)), .int .u64 (.lit (.ofNat 0)), .int .u64 (.lit (.ofNat 0)), .int .u64 (.lit (.ofNat 0)), .int .i64 (.lit (.ofNat 0)), .int .i64 (.lit (.ofNat 0)), .int .u64 (.lit (.ofNat 0)), .int .u64 (.lit (.ofNat 0)), .int .u64 (.lit (.ofNat 0)), .int .u64 (.lit (.ofNat 0)), .int .u64 (.lit (.ofNat 0)), .int .u64 (.lit (.ofNat 0)), .int .u64 (.lit (.ofNat 0)), .int .u64 (.lit (.ofNat 0)), .int .u64 (.lit (.ofNat 0)), .int .u64 (.lit (.ofNat 0)), .int .u64 (.lit (.ofNat 0)), .int .u64 (.lit (.ofNat 0)), .int .u64 (.lit (.ofNat 0)), .int .u64 (.lit (.ofNat 0)), .int .u64 (.lit (.ofNat 0)), .int .u64 (.lit (.ofNat 0))],
oP w3 (pMv (gC (.w (.s (.bool false)))))]) (.seq (.seq (.reg [
oP w4 (pMv g0),
oK w5 (bCmp 2 lLt cGe true g4 (gC (.w (.s (.int .i64 (.lit (.ofNat 0))))))),
oP w6 (pMv g5),
oGd g6 false w7 (oP w7 (pMv g0)),
oGd g6 false w8 (oK w8 (bCmp 4 nLe .le true g7 (gC (.w (.s (.int .i64 (.lit (.ofNat 15)))))))),
oP w9 (pGen fun _ t => opPick t (.t 6) (.c (.w (.s (.bool true)))) (.t 8))]) (.cond g9 (.seq (.reg [
oP w10 (pBuild [.int .i64 (.lit (.ofNat 0)), .int .u64 (.lit (.ofNat 0)), .int .u64 (.lit (.ofNat 0)), .int .u64 (.lit (.ofNat 0)), .int .u64 (.lit (.ofNat 0)), .int .u64 (.lit (.ofNat 0)), .int .u64 (.lit (.ofNat 0)), .int .u64 (.lit (.ofNat 0)), .int .i64 (.lit (.ofNat 0)), .int .i64 (.lit (.ofNat 0)), .int .u64 (.lit (.ofNat 0)), .int .u64 (.lit (.ofNat 0)), .int .u64 (.lit (.ofNat 0)), .int .u64 (.lit (.ofNat 0)), .int .u64 (.lit (.ofNat 0)), .int .u64 (.lit (.ofNat 0)), .int .u64 (.lit (.ofNat 0)), .int .u64 (.lit (.ofNat 0)), .int .u64 (.lit (.ofNat 0)), .int .u64 (.lit (.ofNat 0)), .int .u64 (.lit (.ofNat 0)), .int .u64 (.lit (.ofNat 0)), .int .u64 (.lit (.ofNat 0)), .int .u64 (.lit (.ofNat 0)), .int .u64 (.lit (.ofNat 0)), .int .u64 (.lit (.ofNat 0))] []),
oK wZ (bSt 26 g2 g10),
oP w3 (pMv (gC (.w (.s (.bool false)))))]) (.ret)) (.skip))) (.seq (.reg [
oP w11 (pMv g0),
oP w12 (pMv g0),
oP w13 (pBuild [.int .u64 (.lit (.ofNat 0)), .int .u64 (.lit (.ofNat 0))] [(0, 1, (gC (.w (.s (.int .u64 (.lit (.ofNat 1))))))), (1, 1, (gC (.w (.s (.int .u64 (.lit (.ofNat 32000)))))))]),
oM w14 (.bslice 92 1 [.int .u64 (.lit (.ofNat 0)), .int .u64 (.lit (.ofNat 0))] [(0, 2, (.t 13))]),
oCall w15 37 [g12, (gC (.w (.s (.int .u64 (.lit (.ofNat 0)))))), g14],
oP w16 (pMv g0),
oP w17 (pBuild [.int .u64 (.lit (.ofNat 0)), .int .u64 (.lit (.ofNat 0))] [(0, 1, (gC (.w (.s (.int .u64 (.lit (.ofNat 7))))))), (1, 1, (gC (.w (.s (.int .u64 (.lit (.ofNat 16)))))))]),
oM w18 (.bslice 92 1 [.int .u64 (.lit (.ofNat 0)), .int .u64 (.lit (.ofNat 0))] [(0, 2, (.t 17))]),
oCall w19 37 [g16, (gC (.w (.s (.int .u64 (.lit (.ofNat 68)))))), g18],
oP w20 (pMv g0),
oP w21 (pBuild [.int .u64 (.lit (.ofNat 0)), .int .u64 (.lit (.ofNat 0))] [(0, 1, (gC (.w (.s (.int .u64 (.lit (.ofNat 9))))))), (1, 1, (gC (.w (.s (.int .u64 (.lit (.ofNat 2400)))))))]),
oM w22 (.bslice 92 1 [.int .u64 (.lit (.ofNat 0)), .int .u64 (.lit (.ofNat 0))] [(0, 2, (.t 21))]),
oCall w23 37 [g20, (gC (.w (.s (.int .u64 (.lit (.ofNat 0)))))), g22],
oP w24 (pMv g0),
oP w25 (pBuild [.int .u64 (.lit (.ofNat 0)), .int .u64 (.lit (.ofNat 0))] [(0, 1, (gC (.w (.s (.int .u64 (.lit (.ofNat 9))))))), (1, 1, (gC (.w (.s (.int .u64 (.lit (.ofNat 1900)))))))]),
oM w26 (.bslice 92 1 [.int .u64 (.lit (.ofNat 0)), .int .u64 (.lit (.ofNat 0))] [(0, 2, (.t 25))]),
oCall w27 37 [g24, (gC (.w (.s (.int .u64 (.lit (.ofNat 0)))))), g26],
oP w28 (pMv g0),
oP w29 (pBuild [.int .u64 (.lit (.ofNat 0)), .int .u64 (.lit (.ofNat 0))] [(0, 1, (gC (.w (.s (.int .u64 (.lit (.ofNat 14))))))), (1, 1, (gC (.w (.s (.int .u64 (.lit (.ofNat 2)))))))]),
oM w30 (.bslice 92 1 [.int .u64 (.lit (.ofNat 0)), .int .u64 (.lit (.ofNat 0))] [(0, 2, (.t 29))]),
oCall w31 37 [g28, (gC (.w (.s (.int .u64 (.lit (.ofNat 0)))))), g30],
oP w32 (pMv g0),
oP w33 (pBuild [.int .u64 (.lit (.ofNat 0)), .int .u64 (.lit (.ofNat 0))] [(0, 1, (gC (.w (.s (.int .u64 (.lit (.ofNat 14))))))), (1, 1, (gC (.w (.s (.int .u64 (.lit (.ofNat 49152)))))))]),
oM w34 (.bslice 92 1 [.int .u64 (.lit (.ofNat 0)), .int .u64 (.lit (.ofNat 0))] [(0, 2, (.t 33))]),
oCall w35 37 [g32, (gC (.w (.s (.int .u64 (.lit (.ofNat 0)))))), g34],
oP w36 (pConv .i64 g35),
oP w37 (pMv g0),
oP w38 (pBuild [.int .u64 (.lit (.ofNat 0)), .int .u64 (.lit (.ofNat 0))] [(0, 1, (gC (.w (.s (.int .u64 (.lit (.ofNat 3))))))), (1, 1, (gC (.w (.s (.int .u64 (.lit (.ofNat 24576)))))))]),
oM w39 (.bslice 92 1 [.int .u64 (.lit (.ofNat 0)), .int .u64 (.lit (.ofNat 0))] [(0, 2, (.t 38))]),
oCall w40 37 [g37, (gC (.w (.s (.int .u64 (.lit (.ofNat 0)))))), g39],
oP w41 (pConv .i64 g40),
oP w42 (pMv g0),
oP w43 (pBuild [.int .u64 (.lit (.ofNat 0)), .int .u64 (.lit (.ofNat 0))] [(0, 1, (gC (.w (.s (.int .u64 (.lit (.ofNat 2))))))), (1, 1, (gC (.w (.s (.int .u64 (.lit (.ofNat 400)))))))]),
oP w44 (pBuild [.int .u64 (.lit (.ofNat 0)), .int .u64 (.lit (.ofNat 0))] [(0, 1, (gC (.w (.s (.int .u64 (.lit (.ofNat 7))))))), (1, 1, (gC (.w (.s (.int .u64 (.lit (.ofNat 700)))))))]),
oP w45 (pBuild [.int .u64 (.lit (.ofNat 0)), .int .u64 (.lit (.ofNat 0))] [(0, 1, (gC (.w (.s (.int .u64 (.lit (.ofNat 9))))))), (1, 1, (gC (.w (.s (.int .u64 (.lit (.ofNat 0)))))))]),
oM w46 (.bslice 92 3 [.int .u64 (.lit (.ofNat 0)), .int .u64 (.lit (.ofNat 0))] [(0, 2, (.t 43)), (2, 2, (.t 44)), (4, 2, (.t 45))]),
oCall w47 37 [g42, (gC (.w (.s (.int .u64 (.lit (.ofNat 20)))))), g46],
oP w48 (pMv g0),
oP w49 (pBuild [.int .u64 (.lit (.ofNat 0)), .int .u64 (.lit (.ofNat 0))] [(0, 1, (gC (.w (.s (.int .u64 (.lit (.ofNat 2))))))), (1, 1, (gC (.w (.s (.int .u64 (.lit (.ofNat 700)))))))]),
oP w50 (pBuild [.int .u64 (.lit (.ofNat 0)), .int .u64 (.lit (.ofNat 0))] [(0, 1, (gC (.w (.s (.int .u64 (.lit (.ofNat 9))))))), (1, 1, (gC (.w (.s (.int .u64 (.lit (.ofNat 0)))))))]),
oM w51 (.bslice 92 2 [.int .u64 (.lit (.ofNat 0)), .int .u64 (.lit (.ofNat 0))] [(0, 2, (.t 49)), (2, 2, (.t 50))]),
oCall w52 37 [g48, (gC (.w (.s (.int .u64 (.lit (.ofNat 20)))))), g51],
oP w53 (pMv g0),
oP w54 (pBuild [.int .u64 (.lit (.ofNat 0)), .int .u64 (.lit (.ofNat 0))] [(0, 1, (gC (.w (.s (.int .u64 (.lit (.ofNat 5))))))), (1, 1, (gC (.w (.s (.int .u64 (.lit (.ofNat 400)))))))]),
oP w55 (pBuild [.int .u64 (.lit (.ofNat 0)), .int .u64 (.lit (.ofNat 0))] [(0, 1, (gC (.w (.s (.int .u64 (.lit (.ofNat 7))))))), (1, 1, (gC (.w (.s (.int .u64 (.lit (.ofNat 700)))))))]),
oP w56 (pBuild [.int .u64 (.lit (.ofNat 0)), .int .u64 (.lit (.ofNat 0))] [(0, 1, (gC (.w (.s (.int .u64 (.lit (.ofNat 9))))))), (1, 1, (gC (.w (.s (.int .u64 (.lit (.ofNat 0)))))))]),
oM w57 (.bslice 92 3 [.int .u64 (.lit (.ofNat 0)), .int .u64 (.lit (.ofNat 0))] [(0, 2, (.t 54)), (2, 2, (.t 55)), (4, 2, (.t 56))]),
oCall w58 37 [g53, (gC (.w (.s (.int .u64 (.lit (.ofNat 0)))))), g57],
oP w59 (pMv g0),
oP w60 (pBuild [.int .u64 (.lit (.ofNat 0)), .int .u64 (.lit (.ofNat 0))] [(0, 1, (gC (.w (.s (.int .u64 (.lit (.ofNat 2))))))), (1, 1, (gC (.w (.s (.int .u64 (.lit (.ofNat 200)))))))]),
oP w61 (pBuild [.int .u64 (.lit (.ofNat 0)), .int .u64 (.lit (.ofNat 0))] [(0, 1, (gC (.w (.s (.int .u64 (.lit (.ofNat 7))))))), (1, 1, (gC (.w (.s (.int .u64 (.lit (.ofNat 800)))))))]),
oP w62 (pBuild [.int .u64 (.lit (.ofNat 0)), .int .u64 (.lit (.ofNat 0))] [(0, 1, (gC (.w (.s (.int .u64 (.lit (.ofNat 9))))))), (1, 1, (gC (.w (.s (.int .u64 (.lit (.ofNat 0)))))))]),
oM w63 (.bslice 92 3 [.int .u64 (.lit (.ofNat 0)), .int .u64 (.lit (.ofNat 0))] [(0, 2, (.t 60)), (2, 2, (.t 61)), (4, 2, (.t 62))]),
oCall w64 37 [g59, (gC (.w (.s (.int .u64 (.lit (.ofNat 50)))))), g63],
oP w65 (pMv g0),
oP w66 (pBuild [.int .u64 (.lit (.ofNat 0)), .int .u64 (.lit (.ofNat 0))] [(0, 1, (gC (.w (.s (.int .u64 (.lit (.ofNat 2))))))), (1, 1, (gC (.w (.s (.int .u64 (.lit (.ofNat 700)))))))]),
oP w67 (pBuild [.int .u64 (.lit (.ofNat 0)), .int .u64 (.lit (.ofNat 0))] [(0, 1, (gC (.w (.s (.int .u64 (.lit (.ofNat 9))))))), (1, 1, (gC (.w (.s (.int .u64 (.lit (.ofNat 0)))))))]),
oM w68 (.bslice 92 2 [.int .u64 (.lit (.ofNat 0)), .int .u64 (.lit (.ofNat 0))] [(0, 2, (.t 66)), (2, 2, (.t 67))]),
oCall w69 37 [g65, (gC (.w (.s (.int .u64 (.lit (.ofNat 40)))))), g68],
oP w70 (pMv g0),
oP w71 (pBuild [.int .u64 (.lit (.ofNat 0)), .int .u64 (.lit (.ofNat 0))] [(0, 1, (gC (.w (.s (.int .u64 (.lit (.ofNat 9))))))), (1, 1, (gC (.w (.s (.int .u64 (.lit (.ofNat 2600)))))))]),
oM w72 (.bslice 92 1 [.int .u64 (.lit (.ofNat 0)), .int .u64 (.lit (.ofNat 0))] [(0, 2, (.t 71))]),
oCall w73 37 [g70, (gC (.w (.s (.int .u64 (.lit (.ofNat 0)))))), g72],
oP w74 (pMv g0),
oP w75 (pBuild [.int .u64 (.lit (.ofNat 0)), .int .u64 (.lit (.ofNat 0))] [(0, 1, (gC (.w (.s (.int .u64 (.lit (.ofNat 9))))))), (1, 1, (gC (.w (.s (.int .u64 (.lit (.ofNat 2100)))))))]),
oM w76 (.bslice 92 1 [.int .u64 (.lit (.ofNat 0)), .int .u64 (.lit (.ofNat 0))] [(0, 2, (.t 75))]),
oCall w77 37 [g74, (gC (.w (.s (.int .u64 (.lit (.ofNat 0)))))), g76],
oP w78 (pMv g0),
oP w79 (pBuild [.int .u64 (.lit (.ofNat 0)), .int .u64 (.lit (.ofNat 0))] [(0, 1, (gC (.w (.s (.int .u64 (.lit (.ofNat 9))))))), (1, 1, (gC (.w (.s (.int .u64 (.lit (.ofNat 100)))))))]),
oM w80 (.bslice 92 1 [.int .u64 (.lit (.ofNat 0)), .int .u64 (.lit (.ofNat 0))] [(0, 2, (.t 79))]),
oCall w81 37 [g78, (gC (.w (.s (.int .u64 (.lit (.ofNat 0)))))), g80],
oP w82 (pMv g0),
oP w83 (pBuild [.int .u64 (.lit (.ofNat 0)), .int .u64 (.lit (.ofNat 0))] [(0, 1, (gC (.w (.s (.int .u64 (.lit (.ofNat 2))))))), (1, 1, (gC (.w (.s (.int .u64 (.lit (.ofNat 5000)))))))]),
oM w84 (.bslice 92 1 [.int .u64 (.lit (.ofNat 0)), .int .u64 (.lit (.ofNat 0))] [(0, 2, (.t 83))]),
oCall w85 37 [g82, (gC (.w (.s (.int .u64 (.lit (.ofNat 0)))))), g84],
oP w86 (pMv g0),
oP w87 (pBuild [.int .u64 (.lit (.ofNat 0)), .int .u64 (.lit (.ofNat 0))] [(0, 1, (gC (.w (.s (.int .u64 (.lit (.ofNat 2))))))), (1, 1, (gC (.w (.s (.int .u64 (.lit (.ofNat 25000)))))))]),
oM w88 (.bslice 92 1 [.int .u64 (.lit (.ofNat 0)), .int .u64 (.lit (.ofNat 0))] [(0, 2, (.t 87))]),
oCall w89 37 [g86, (gC (.w (.s (.int .u64 (.lit (.ofNat 0)))))), g88],
oP w90 (pMv g0),
oP w91 (pBuild [.int .u64 (.lit (.ofNat 0)), .int .u64 (.lit (.ofNat 0))] [(0, 1, (gC (.w (.s (.int .u64 (.lit (.ofNat 10))))))), (1, 1, (gC (.w (.s (.int .u64 (.lit (.ofNat 0)))))))]),
oM w92 (.bslice 92 1 [.int .u64 (.lit (.ofNat 0)), .int .u64 (.lit (.ofNat 0))] [(0, 2, (.t 91))]),
oCall w93 37 [g90, (gC (.w (.s (.int .u64 (.lit (.ofNat 24000)))))), g92],
oP w94 (pMv g0),
oP w95 (pBuild [.int .u64 (.lit (.ofNat 0)), .int .u64 (.lit (.ofNat 0))] [(0, 1, (gC (.w (.s (.int .u64 (.lit (.ofNat 3))))))), (1, 1, (gC (.w (.s (.int .u64 (.lit (.ofNat 50)))))))]),
oM w96 (.bslice 92 1 [.int .u64 (.lit (.ofNat 0)), .int .u64 (.lit (.ofNat 0))] [(0, 2, (.t 95))]),
oCall w97 37 [g94, (gC (.w (.s (.int .u64 (.lit (.ofNat 10)))))), g96],
oP w98 (pMv g0),
oP w99 (pBuild [.int .u64 (.lit (.ofNat 0)), .int .u64 (.lit (.ofNat 0))] [(0, 1, (gC (.w (.s (.int .u64 (.lit (.ofNat 10))))))), (1, 1, (gC (.w (.s (.int .u64 (.lit (.ofNat 4800)))))))]),
oM w100 (.bslice 92 1 [.int .u64 (.lit (.ofNat 0)), .int .u64 (.lit (.ofNat 0))] [(0, 2, (.t 99))]),
oCall w101 37 [g98, (gC (.w (.s (.int .u64 (.lit (.ofNat 15000)))))), g100],
oP w102 (pMv g0),
oP w103 (pBuild [.int .u64 (.lit (.ofNat 0)), .int .u64 (.lit (.ofNat 0))] [(0, 1, (gC (.w (.s (.int .u64 (.lit (.ofNat 10))))))), (1, 1, (gC (.w (.s (.int .u64 (.lit (.ofNat 5)))))))]),
oM w104 (.bslice 92 1 [.int .u64 (.lit (.ofNat 0)), .int .u64 (.lit (.ofNat 0))] [(0, 2, (.t 103))]),
oCall w105 37 [g102, (gC (.w (.s (.int .u64 (.lit (.ofNat 2)))))), g104],
oP w106 (pMv g0),
oP w107 (pBuild [.int .u64 (.lit (.ofNat 0)), .int .u64 (.lit (.ofNat 0))] [(0, 1, (gC (.w (.s (.int .u64 (.lit (.ofNat 4))))))), (1, 1, (gC (.w (.s (.int .u64 (.lit (.ofNat 3000000000000000000)))))))]),
oP w108 (pBuild [.int .u64 (.lit (.ofNat 0)), .int .u64 (.lit (.ofNat 0))] [(0, 1, (gC (.w (.s (.int .u64 (.lit (.ofNat 5))))))), (1, 1, (gC (.w (.s (.int .u64 (.lit (.ofNat 2000000000000000000)))))))]),
oP w109 (pBuild [.int .u64 (.lit (.ofNat 0)), .int .u64 (.lit (.ofNat 0))] [(0, 1, (gC (.w (.s (.int .u64 (.lit (.ofNat 13))))))), (1, 1, (gC (.w (.s (.int .u64 (.lit (.ofNat 0)))))))]),
oM w110 (.bslice 92 3 [.int .u64 (.lit (.ofNat 0)), .int .u64 (.lit (.ofNat 0))] [(0, 2, (.t 107)), (2, 2, (.t 108)), (4, 2, (.t 109))]),
oCall w111 37 [g106, (gC (.w (.s (.int .u64 (.lit (.ofNat 5000000000000000000)))))), g110],
oP w112 (pMv g0),
oP w113 (pBuild [.int .u64 (.lit (.ofNat 0)), .int .u64 (.lit (.ofNat 0))] [(0, 1, (gC (.w (.s (.int .u64 (.lit (.ofNat 4))))))), (1, 1, (gC (.w (.s (.int .u64 (.lit (.ofNat 3000000)))))))]),
oP w114 (pBuild [.int .u64 (.lit (.ofNat 0)), .int .u64 (.lit (.ofNat 0))] [(0, 1, (gC (.w (.s (.int .u64 (.lit (.ofNat 5))))))), (1, 1, (gC (.w (.s (.int .u64 (.lit (.ofNat 5000000)))))))]),
oP w115 (pBuild [.int .u64 (.lit (.ofNat 0)), .int .u64 (.lit (.ofNat 0))] [(0, 1, (gC (.w (.s (.int .u64 (.lit (.ofNat 8))))))), (1, 1, (gC (.w (.s (.int .u64 (.lit (.ofNat 9000000)))))))]),
oP w116 (pBuild [.int .u64 (.lit (.ofNat 0)), .int .u64 (.lit (.ofNat 0))] [(0, 1, (gC (.w (.s (.int .u64 (.lit (.ofNat 10))))))), (1, 1, (gC (.w (.s (.int .u64 (.lit (.ofNat 9700000)))))))]),
oP w117 (pBuild [.int .u64 (.lit (.ofNat 0)), .int .u64 (.lit (.ofNat 0))] [(0, 1, (gC (.w (.s (.int .u64 (.lit (.ofNat 11))))))), (1, 1, (gC (.w (.s (.int .u64 (.lit (.ofNat 10700000)))))))]),
oP w118 (pBuild [.int .u64 (.lit (.ofNat 0)), .int .u64 (.lit (.ofNat 0))] [(0, 1, (gC (.w (.s (.int .u64 (.lit (.ofNat 12))))))), (1, 1, (gC (.w (.s (.int .u64 (.lit (.ofNat 11400000)))))))]),
oP w119 (pBuild [.int .u64 (.lit (.ofNat 0)), .int .u64 (.lit (.ofNat 0))] [(0, 1, (gC (.w (.s (.int .u64 (.lit (.ofNat 13))))))), (1, 1, (gC (.w (.s (.int .u64 (.lit (.ofNat 0)))))))]),
oM w120 (.bslice 92 7 [.int .u64 (.lit (.ofNat 0)), .int .u64 (.lit (.ofNat 0))] [(0, 2, (.t 113)), (2, 2, (.t 114)), (4, 2, (.t 115)), (6, 2, (.t 116)), (8, 2, (.t 117)), (10, 2, (.t 118)), (12, 2, (.t 119))]),
oCall w121 37 [g112, (gC (.w (.s (.int .u64 (.lit (.ofNat 0)))))), g120],
oP w122 (pBuild [.int .i64 (.lit (.ofNat 0)), .int .u64 (.lit (.ofNat 0)), .int .u64 (.lit (.ofNat 0)), .int .u64 (.lit (.ofNat 0)), .int .u64 (.lit (.ofNat 0)), .int .u64 (.lit (.ofNat 0)), .int .u64 (.lit (.ofNat 0)), .int .u64 (.lit (.ofNat 0)), .int .i64 (.lit (.ofNat 0)), .int .i64 (.lit (.ofNat 0)), .int .u64 (.lit (.ofNat 0)), .int .u64 (.lit (.ofNat 0)), .int .u64 (.lit (.ofNat 0)), .int .u64 (.lit (.ofNat 0)), .int .u64 (.lit (.ofNat 0)), .int .u64 (.lit (.ofNat 0)), .int .u64 (.lit (.ofNat 0)), .int .u64 (.lit (.ofNat 0)), .int .u64 (.lit (.ofNat 0)), .int .u64 (.lit (.ofNat 0)), .int .u64 (.lit (.ofNat 0)), .int .u64 (.lit (.ofNat 0)), .int .u64 (.lit (.ofNat 0)), .int .u64 (.lit (.ofNat 0)), .int .u64 (.lit (.ofNat 0)), .int .u64 (.lit (.ofNat 0))] [(0, 1, g11), (1, 1, (gC (.w (.s (.int .u64 (.lit (.ofNat 21000))))))), (3, 1, (gC (.w (.s (.int .u64 (.lit (.ofNat 4))))))), (2, 1, g15), (4, 1, g19), (5, 1, g23), (6, 1, g27), (7, 1, g31), (8, 1, g36), (9, 1, g41), (10, 1, g47), (11, 1, g52), (12, 1, g58), (13, 1, g64), (14, 1, g69), (15, 1, g73), (16, 1, g77), (17, 1, g81), (18, 1, g85), (19, 1, g89), (20, 1, g93), (21, 1, g97), (22, 1, g101), (23, 1, g105), (24, 1, g111), (25, 1, g121)]),
oK wZ (bSt 26 g2 g122),
oP w3 (pMv (gC (.w (.s (.bool true)))))]) (.ret)))⟩
theorem fp16 : ∃ fn, fb16 = denF fn ∧ ∃ func code hint, FnOk Go.Proofs.Tryz.prog TT 16 fn func code hint := f2_mk (func := Go.Proofs.Tryz.f16) (code := bodyOf Go.Proofs.Tryz.f16) (hint := hintL []) (n := 123) (res := [.cell 2 (some 26), .tmp 3]) Go.Proofs.Tryz.func16 Go.Proofs.Tryz.call16 (by kernel_rfl) (by kernel_rfl) (by kernel_rfl) (by kernel_rfl) (by kernel_rfl)
/- quarry/gas.Part -/
def fb17 : AFunc2 := ⟨37, [.tmp g6, .tmp g7], .seq (.reg [
oBox w3 44 g0,
oBox w5 24 g2,
oP w6 (pMv (gC (.w (.s (.int .u64 (.lit (.ofNat 0))))))),
oP w7 (pMv (gC (.w (.s (.bool false)))))]) (.seq (.reg [
oR w12 (rLoad (some 4) g5),
oCall w13 38 [g12],
oP w11 (pMv g13),
oP w14 (pExt g11 0),
oP w15 (pExt g11 1),
oP w8 (pMv g14),
oP w9 (pMv g15)]) (.seq (.seq (.reg [
oP w16 (pFaddr 0 g3),
oR w17 (rLoad none g16),
oK w18 (bCmp 2 lLt cGe true g17 (gC (.w (.s (.int .i64 (.lit (.ofNat 2)))))))]) (.cond g18 (.seq (.seq (.reg [
oP w19 (pMv g9),
oP w20 (pNot g19),
oP w21 (pMv g20),
oGd g21 false w22 (oP w22 (pMv g8)),
oGd g21 false w23 (oP w23 (pMv g1)),
oGd g21 false w24 (oK w24 (bCmp 4 nLe .le true g22 g23)),
oP w25 (pGen fun _ t => opPick t (.t 21) (.c (.w (.s (.bool true)))) (.t 24))]) (.cond g25 (.seq (.reg [
oP w6 (pMv (gC (.w (.s (.int .u64 (.lit (.ofNat 0))))))),
oP w7 (pMv (gC (.w (.s (.bool false)))))]) (.ret)) (.skip))) (.seq (.reg [
oP w26 (pMv g8),
oP w6 (pMv g26),
oP w7 (pMv (gC (.w (.s (.bool true)))))]) (.ret))) (.skip))) (.seq (.reg [
oP w27 (pMv g1),
oP w28 (pMv g1),
oP w29 (pGen fun φ t => opDv φ t (.t 28) (.c (.w (.s (.int .u64 (.lit (.ofNat 64))))))),
oP w30 (pAr 1 g27 g29),
oP w10 (pMv g30)]) (.seq (.seq (.reg [
oP w31 (pMv g9),
oP w32 (pNot g31)]) (.cond g32 (.seq (.reg [
oP w33 (pMv g10),
oP w6 (pMv g33),
oP w7 (pMv (gC (.w (.s (.bool true)))))]) (.ret)) (.skip))) (.seq (.reg [
oP w34 (pMv g8),
oP w35 (pMv g10),
oK w36 (b2 (mmA false) g34 g35),
oP w6 (pMv g36),
oP w7 (pMv (gC (.w (.s (.bool true)))))]) (.ret))))))⟩
theorem fp17 : ∃ fn, fb17 = denF fn ∧ ∃ func code hint, FnOk Go.Proofs.Tryz.prog TT 17 fn func code hint := f2_mk (func := Go.Proofs.Tryz.f17) (code := bodyOf Go.Proofs.Tryz.f17) (hint := hintL []) (n := 37) (res := [.tmp 6, .tmp 7]) Go.Proofs.Tryz.func17 Go.Proofs.Tryz.call17 (by kernel_rfl) (by kernel_rfl) (by kernel_rfl) (by kernel_rfl) (by kernel_rfl)
/- quarry/quarrylaw19.wakes -/
def fb18 : AFunc2 := ⟨57, [.tmp g0], .seq (.reg [
oP w0 (pMv (gC (.w (.s (.bool false)))))]) (.seq (.reg [
oP w7 (pBuild zz0 [(0, 1, (gC (.w (.s (.int .u8 (.lit (.ofNat 170)))))))]),
oP w8 (pBuild zz0 [(0, 1, (gC (.w (.s (.int .u8 (.lit (.ofNat 187)))))))]),
oAlloc w1 30 zz0,
oAlloc w2 30 zz0,
oK wZ (bSt 20 g1 g7),
oK wZ (bSt 20 g2 g8)]) (.seq (.reg [
oR w10 (rLoad (some 20) g1),
oM w11 (.bslice 5 13 [.int .u8 (.lit (.ofNat 0))] [(0, 1, (.c (.w (.s (.int .u8 (.lit (.ofNat 96))))))), (1, 1, (.c (.w (.s (.int .u8 (.lit (.ofNat 5))))))), (2, 1, (.c (.w (.s (.int .u8 (.lit (.ofNat 96))))))), (3, 1, (.c (.w (.s (.int .u8 (.lit (.ofNat 3))))))), (4, 1, (.c (.w (.s (.int .u8 (.lit (.ofNat 1))))))), (5, 1, (.c (.w (.s (.int .u8 (.lit (.ofNat 96))))))), (6, 1, (.c (.w (.s (.int .u8 (.lit (.ofNat 0))))))), (7, 1, (.c (.w (.s (.int .u8 (.lit (.ofNat 82))))))), (8, 1, (.c (.w (.s (.int .u8 (.lit (.ofNat 96))))))), (9, 1, (.c (.w (.s (.int .u8 (.lit (.ofNat 32))))))), (10, 1, (.c (.w (.s (.int .u8 (.lit (.ofNat 96))))))), (11, 1, (.c (.w (.s (.int .u8 (.lit (.ofNat 0))))))), (12, 1, (.c (.w (.s (.int .u8 (.lit (.ofNat 243)))))))]),
oP w12 (pBuild [.int .u8 (.lit (.ofNat 0)), .int .u8 (.lit (.ofNat 0)), .int .u8 (.lit (.ofNat 0)), .int .u8 (.lit (.ofNat 0)), .int .u8 (.lit (.ofNat 0)), .int .u8 (.lit (.ofNat 0)), .int .u8 (.lit (.ofNat 0)), .int .u8 (.lit (.ofNat 0)), .int .u8 (.lit (.ofNat 0)), .int .u8 (.lit (.ofNat 0)), .int .u8 (.lit (.ofNat 0)), .int .u8 (.lit (.ofNat 0)), .int .u8 (.lit (.ofNat 0)), .int .u8 (.lit (.ofNat 0)), .int .u8 (.lit (.ofNat 0)), .int .u8 (.lit (.ofNat 0)), .int .u8 (.lit (.ofNat 0)), .int .u8 (.lit (.ofNat 0)), .int .u8 (.lit (.ofNat 0)), .int .u8 (.lit (.ofNat 0)), .int .u64 (.lit (.ofNat 0)), .int .u64 (.lit (.ofNat 0)), .int .u64 (.lit (.ofNat 0)), .int .u64 (.lit (.ofNat 0)), .int .u64 (.lit (.ofNat 0)), .nils, .nils] [(0, 20, g10), (25, 1, g11)]),
oR w13 (rLoad (some 20) g2),
oP w14 (pBuild [.int .u64 (.lit (.ofNat 0)), .int .u64 (.lit (.ofNat 0)), .int .u64 (.lit (.ofNat 0)), .int .u64 (.lit (.ofNat 0))] [(0, 1, (gC (.w (.s (.int .u64 (.lit (.ofNat 100)))))))]),
oP w15 (pBuild [.int .u8 (.lit (.ofNat 0)), .int .u8 (.lit (.ofNat 0)), .int .u8 (.lit (.ofNat 0)), .int .u8 (.lit (.ofNat 0)), .int .u8 (.lit (.ofNat 0)), .int .u8 (.lit (.ofNat 0)), .int .u8 (.lit (.ofNat 0)), .int .u8 (.lit (.ofNat 0)), .int .u8 (.lit (.ofNat 0)), .int .u8 (.lit (.ofNat 0)), .int .u8 (.lit (.ofNat 0)), .int .u8 (.lit (.ofNat 0)), .int .u8 (.lit (.ofNat 0)), .int .u8 (.lit (.ofNat 0)), .int .u8 (.lit (.ofNat 0)), .int .u8 (.lit (.ofNat 0)), .int .u8 (.lit (.ofNat 0)), .int .u8 (.lit (.ofNat 0)), .int .u8 (.lit (.ofNat 0)), .int .u8 (.lit (.ofNat 0)), .int .u64 (.lit (.ofNat 0)), .int .u64 (.lit (.ofNat 0)), .int .u64 (.lit (.ofNat 0)), .int .u64 (.lit (.ofNat 0)), .int .u64 (.lit (.ofNat 0)), .nils, .nils] [(0, 20, g13), (21, 4, g14)]),
oM w16 (.bslice 63 2 [.int .u8 (.lit (.ofNat 0)), .int .u8 (.lit (.ofNat 0)), .int .u8 (.lit (.ofNat 0)), .int .u8 (.lit (.ofNat 0)), .int .u8 (.lit (.ofNat 0)), .int .u8 (.lit (.ofNat 0)), .int .u8 (.lit (.ofNat 0)), .int .u8 (.lit (.ofNat 0)), .int .u8 (.lit (.ofNat 0)), .int .u8 (.lit (.ofNat 0)), .int .u8 (.lit (.ofNat 0)), .int .u8 (.lit (.ofNat 0)), .int .u8 (.lit (.ofNat 0)), .int .u8 (.lit (.ofNat 0)), .int .u8 (.lit (.ofNat 0)), .int .u8 (.lit (.ofNat 0)), .int .u8 (.lit (.ofNat 0)), .int .u8 (.lit (.ofNat 0)), .int .u8 (.lit (.ofNat 0)), .int .u8 (.lit (.ofNat 0)), .int .u64 (.lit (.ofNat 0)), .int .u64 (.lit (.ofNat 0)), .int .u64 (.lit (.ofNat 0)), .int .u64 (.lit (.ofNat 0)), .int .u64 (.lit (.ofNat 0)), .nils, .nils] [(0, 27, (.t 12)), (27, 27, (.t 15))]),
oCall w17 27 [g16],
oP w9 (pMv g17),
oP w18 (pExt g9 0),
oP w19 (pExt g9 1),
oP w3 (pMv g18),
oP w4 (pMv g19)]) (.seq (.seq (.reg [
oP w20 (pMv g3),
oK w21 (b2 (fun x y s K => cmpA 0 .ptr x y s fun b s => K (vBool b) s) g20 (gC (.w (.s (.nilp)))))]) (.cond g21 (.seq (.reg [
oP w0 (pMv (gC (.w (.s (.bool false)))))]) (.ret)) (.skip))) (.seq (.reg [
oP w23 (pBuild [.int .u8 (.lit (.ofNat 0)), .int .u8 (.lit (.ofNat 0)), .int .u8 (.lit (.ofNat 0)), .int .u8 (.lit (.ofNat 0)), .int .u8 (.lit (.ofNat 0)), .int .u8 (.lit (.ofNat 0)), .int .u8 (.lit (.ofNat 0)), .int .u8 (.lit (.ofNat 0)), .int .u8 (.lit (.ofNat 0)), .int .u8 (.lit (.ofNat 0)), .int .u8 (.lit (.ofNat 0)), .int .u8 (.lit (.ofNat 0)), .int .u8 (.lit (.ofNat 0)), .int .u8 (.lit (.ofNat 0)), .int .u8 (.lit (.ofNat 0)), .int .u8 (.lit (.ofNat 0)), .int .u8 (.lit (.ofNat 0)), .int .u8 (.lit (.ofNat 0)), .int .u8 (.lit (.ofNat 0)), .int .u8 (.lit (.ofNat 0)), .int .u64 (.lit (.ofNat 0)), .int .u64 (.lit (.ofNat 0)), .int .u64 (.lit (.ofNat 0)), .int .u64 (.lit (.ofNat 0)), .int .u64 (.lit (.ofNat 0)), .int .u64 (.lit (.ofNat 0)), .int .u64 (.lit (.ofNat 0)), .int .u64 (.lit (.ofNat 0)), .int .u64 (.lit (.ofNat 0)), .int .u64 (.lit (.ofNat 0)), .int .u64 (.lit (.ofNat 0)), .int .u64 (.lit (.ofNat 0)), .int .u64 (.lit (.ofNat 0)), .int .u64 (.lit (.ofNat 0)), .int .u64 (.lit (.ofNat 0)), .int .u64 (.lit (.ofNat 0)), .nils] []),
oP w24 (pBuild [.int .u8 (.lit (.ofNat 0)), .int .u8 (.lit (.ofNat 0)), .int .u8 (.lit (.ofNat 0)), .int .u8 (.lit (.ofNat 0)), .int .u8 (.lit (.ofNat 0)), .int .u8 (.lit (.ofNat 0)), .int .u8 (.lit (.ofNat 0)), .int .u8 (.lit (.ofNat 0)), .int .u8 (.lit (.ofNat 0)), .int .u8 (.lit (.ofNat 0)), .int .u8 (.lit (.ofNat 0)), .int .u8 (.lit (.ofNat 0)), .int .u8 (.lit (.ofNat 0)), .int .u8 (.lit (.ofNat 0)), .int .u8 (.lit (.ofNat 0)), .int .u8 (.lit (.ofNat 0)), .int .u8 (.lit (.ofNat 0)), .int .u8 (.lit (.ofNat 0)), .int .u8 (.lit (.ofNat 0)), .int .u8 (.lit (.ofNat 0)), .int .u64 (.lit (.ofNat 0)), .int .u64 (.lit (.ofNat 0)), .int .u64 (.lit (.ofNat 0)), .int .u64 (.lit (.ofNat 0)), .nils] []),
oP w25 (pMv g3),
oR w26 (rLoad (some 20) g2),
oR w27 (rLoad (some 20) g1),
oP w28 (pBuild [.bool false, .int .u8 (.lit (.ofNat 0)), .int .u8 (.lit (.ofNat 0)), .int .u8 (.lit (.ofNat 0)), .int .u8 (.lit (.ofNat 0)), .int .u8 (.lit (.ofNat 0)), .int .u8 (.lit (.ofNat 0)), .int .u8 (.lit (.ofNat 0)), .int .u8 (.lit (.ofNat 0)), .int .u8 (.lit (.ofNat 0)), .int .u8 (.lit (.ofNat 0)), .int .u8 (.lit (.ofNat 0)), .int .u8 (.lit (.ofNat 0)), .int .u8 (.lit (.ofNat 0)), .int .u8 (.lit (.ofNat 0)), .int .u8 (.lit (.ofNat 0)), .int .u8 (.lit (.ofNat 0)), .int .u8 (.lit (.ofNat 0)), .int .u8 (.lit (.ofNat 0)), .int .u8 (.lit (.ofNat 0)), .int .u8 (.lit (.ofNat 0)), .int .u8 (.lit (.ofNat 0)), .int .u8 (.lit (.ofNat 0)), .int .u8 (.lit (.ofNat 0)), .int .u8 (.lit (.ofNat 0)), .int .u8 (.lit (.ofNat 0)), .int .u8 (.lit (.ofNat 0)), .int .u8 (.lit (.ofNat 0)), .int .u8 (.lit (.ofNat 0)), .int .u8 (.lit (.ofNat 0)), .int .u8 (.lit (.ofNat 0)), .int .u8 (.lit (.ofNat 0)), .int .u8 (.lit (.ofNat 0)), .int .u8 (.lit (.ofNat 0)), .int .u8 (.lit (.ofNat 0)), .int .u8 (.lit (.ofNat 0)), .int .u8 (.lit (.ofNat 0)), .int .u8 (.lit (.ofNat 0)), .int .u8 (.lit (.ofNat 0)), .int .u8 (.lit (.ofNat 0)), .int .u8 (.lit (.ofNat 0)), .int .u64 (.lit (.ofNat 0)), .int .u64 (.lit (.ofNat 0)), .int .u64 (.lit (.ofNat 0)), .int .u64 (.lit (.ofNat 0)), .nils, .int .u64 (.lit (.ofNat 0)), .bool false, .int .i64 (.lit (.ofNat 0))] [(1, 20, g26), (21, 20, g27), (46, 1, (gC (.w (.s (.int .u64 (.lit (.ofNat 100000)))))))]),
oCall w29 28 [(gC (.w (.s (.int .i64 (.lit (.ofNat 0)))))), g23, g24, g25, g28],
oP w22 (pMv g29),
oP w30 (pExt g22 0),
oP w31 (pExt g22 1),
oAlloc w5 39 [.int .i64 (.lit (.ofNat 0)), .nils, .int .u64 (.lit (.ofNat 0)), .int .u8 (.lit (.ofNat 0)), .int .u8 (.lit (.ofNat 0)), .int .u8 (.lit (.ofNat 0)), .int .u8 (.lit (.ofNat 0)), .int .u8 (.lit (.ofNat 0)), .int .u8 (.lit (.ofNat 0)), .int .u8 (.lit (.ofNat 0)), .int .u8 (.lit (.ofNat 0)), .int .u8 (.lit (.ofNat 0)), .int .u8 (.lit (.ofNat 0)), .int .u8 (.lit (.ofNat 0)), .int .u8 (.lit (.ofNat 0)), .int .u8 (.lit (.ofNat 0)), .int .u8 (.lit (.ofNat 0)), .int .u8 (.lit (.ofNat 0)), .int .u8 (.lit (.ofNat 0)), .int .u8 (.lit (.ofNat 0)), .int .u8 (.lit (.ofNat 0)), .int .u8 (.lit (.ofNat 0)), .int .u8 (.lit (.ofNat 0)), .int .u64 (.lit (.ofNat 0))],
oK wZ (bSt 24 g5 g30),
oP w6 (pMv g31)]) (.seq (.reg [
oP w32 (pMv g6),
oK w33 (bCmp 0 intEq .eq false g32 (gC (.w (.s (.int .i64 (.lit (.ofNat 0))))))),
oP w34 (pMv g33),
oGd g34 true w35 (oP w35 (pFaddr 0 g5)),
oGd g34 true w36 (oR w36 (rLoad none g35)),
oGd g34 true w37 (oK w37 (bCmp 0 intEq .eq false g36 (gC (.w (.s (.int .i64 (.lit (.ofNat 0)))))))),
oP w38 (pGen fun _ t => opPick t (.t 34) (.t 37) (.c (.w (.s (.bool false))))),
oP w39 (pMv g38),
oGd g39 true w40 (oP w40 (pFaddr 1 g5)),
oGd g39 true w41 (oR w41 (rLoad none g40)),
oGd g39 true w42 (oP w42 (pGen fun _ t => opLen t (.t 41))),
oGd g39 true w43 (oK w43 (bCmp 0 intEq .eq false g42 (gC (.w (.s (.int .i64 (.lit (.ofNat 32)))))))),
oP w44 (pGen fun _ t => opPick t (.t 39) (.t 43) (.c (.w (.s (.bool false))))),
oP w45 (pMv g44),
oGd g45 true w46 (oP w46 (pFaddr 1 g5)),
oGd g45 true w47 (oR w47 (rLoad none g46)),
oGd g45 true w48 (oP w48 (pIaddrS 1 g47 (gC (.w (.s (.int .i64 (.lit (.ofNat 31)))))))),
oGd g45 true w49 (oR w49 (rLoad none g48)),
oGd g45 true w50 (oK w50 (bCmp 0 intEq .eq false g49 (gC (.w (.s (.int .u8 (.lit (.ofNat 8)))))))),
oP w51 (pGen fun _ t => opPick t (.t 45) (.t 50) (.c (.w (.s (.bool false))))),
oP w52 (pMv g51),
oGd g52 true w53 (oP w53 (pFaddr 23 g5)),
oGd g52 true w54 (oR w54 (rLoad none g53)),
oGd g52 true w55 (oK w55 (bCmp 0 intEq .eq false g54 (gC (.w (.s (.int .u64 (.lit (.ofNat 8)))))))),
oP w56 (pGen fun _ t => opPick t (.t 52) (.t 55) (.c (.w (.s (.bool false))))),
oP w0 (pMv g56)]) (.ret))))))⟩
theorem fp18 : ∃ fn, fb18 = denF fn ∧ ∃ func code hint, FnOk Go.Proofs.Tryz.prog TT 18 fn func code hint := f2_mk (func := Go.Proofs.Tryz.f18) (code := bodyOf Go.Proofs.Tryz.f18) (hint := hintL []) (n := 57) (res := [.tmp 0]) Go.Proofs.Tryz.func18 Go.Proofs.Tryz.call18 (by kernel_rfl) (by kernel_rfl) (by kernel_rfl) (by kernel_rfl) (by kernel_rfl)
/- quarry/word.Bytes -/
def fb19 : AFunc2 := ⟨24, [.cell (rLoad (some 32) g2)], .seq (.reg [
oBox w1 24 g0,
oAlloc w2 50 zz1]) (.seq (.reg [
oAlloc w3 50 zz1]) (.seq (.seq (.reg [
oP w6 (pMv (gC (.w (.s (.int .i64 (.lit (.ofNat 0)))))))]) (.block 0 (.loop (.seq (.reg [
oK w7 (bCmp 2 lLt cGe true g6 (gC (.w (.s (.int .i64 (.lit (.ofNat 32)))))))]) (.seq (.cond g7 (.skip) (.exit 0)) (.seq (.block 1 (.seq (.reg [
oP w8 (pMv g6),
oP w4 (pMv g8)]) (.seq (.reg [
oP w9 (pMv g4),
oP w10 (pAr 1 (gC (.w (.s (.int .i64 (.lit (.ofNat 31)))))) g9),
oP w5 (pMv g10)]) (.reg [
oP w11 (pMv g4),
oP w12 (pMv g5),
oP w13 (pGen fun φ t => opDv φ t (.t 12) (.c (.w (.s (.int .i64 (.lit (.ofNat 8))))))),
oP w14 (pIaddrA 4 1 g1 g13),
oR w15 (rLoad none g14),
oP w16 (pMv g5),
oP w17 (pGen fun φ t => opMd φ t (.t 16) (.c (.w (.s (.int .i64 (.lit (.ofNat 8))))))),
oP w18 (pAr 2 g17 (gC (.w (.s (.int .i64 (.lit (.ofNat 8))))))),
oP w19 (pShr g15 g18),
oP w20 (pConv .u8 g19),
oP w21 (pIaddrA 32 1 g3 g11),
oK wZ (bSt 1 g21 g20)])))) (.reg [
oP w22 (pAr 0 g6 (gC (.w (.s (.int .i64 (.lit (.ofNat 1))))))),
oP w6 (pMv g22)]))))))) (.seq (.reg [
oR w23 (rLoad (some 32) g3),
oK wZ (bSt 32 g2 g23)]) (.ret))))⟩
theorem fp19 : ∃ fn, fb19 = denF fn ∧ ∃ func code hint, FnOk Go.Proofs.Tryz.prog TT 19 fn func code hint := f2_mk (func := Go.Proofs.Tryz.f19) (code := bodyOf Go.Proofs.Tryz.f19) (hint := hintL []) (n := 24) (res := [.cell 2 (some 32)]) Go.Proofs.Tryz.func19 Go.Proofs.Tryz.call19 (by kernel_rfl) (by kernel_rfl) (by kernel_rfl) (by kernel_rfl) (by kernel_rfl)
/- (quarry/quarrylaw19.Small).n -/
def fb20 : AFunc2 := ⟨13, [.tmp g4], .seq (.reg [
oBox w2 27 g0,
oP w4 (pMv (gC (.w (.s (.int .i64 (.lit (.ofNat 0)))))))]) (.seq (.reg [
oP w5 (pFaddr 1 g2),
oR w6 (rLoad none g5),
oP w7 (pMv g1),
oP w8 (pGen fun φ t => opMd φ t (.t 6) (.t 7)),
oP w9 (pMv g1),
oP w10 (pAr 0 g8 g9),
oP w11 (pMv g1),
oP w12 (pGen fun φ t => opMd φ t (.t 10) (.t 11)),
oP w4 (pMv g12)]) (.ret))⟩
theorem fp20 : ∃ fn, fb20 = denF fn ∧ ∃ func code hint, FnOk Go.Proofs.Tryz.prog TT 20 fn func code hint := f2_mk (func := Go.Proofs.Tryz.f20) (code := bodyOf Go.Proofs.Tryz.f20) (hint := hintL []) (n := 13) (res := [.tmp 4]) Go.Proofs.Tryz.func20 Go.Proofs.Tryz.call20 (by kernel_rfl) (by kernel_rfl) (by kernel_rfl) (by kernel_rfl) (by kernel_rfl)
def fa20 : AFunc := ⟨13, [.tmp 4], .seq (.reg [
⟨(some 2), .m (.box 27 (.t 0)), none⟩,
⟨(some 4), .p (.mv (.c (.w (.s (.int .i64 (.lit (.ofNat 0))))))), none⟩]) (.seq (.reg [
⟨(some 5), .p (.faddr 1 (.t 2)), none⟩,
⟨(some 6), .r (.load none (.t 5)), none⟩,
⟨(some 7), .p (.mv (.t 1)), none⟩,
⟨(some 8), .p (.md (.t 6) (.t 7)), none⟩,
⟨(some 9), .p (.mv (.t 1)), none⟩,
⟨(some 10), .p (.ar 0 (.t 8) (.t 9)), none⟩,
⟨(some 11), .p (.mv (.t 1)), none⟩,
⟨(some 12), .p (.md (.t 10) (.t 11)), none⟩,
⟨(some 4), .p (.mv (.t 12)), none⟩]) (.ret))⟩
theorem fo20 : ∃ func code hint, FnOk Go.Proofs.Tryz.prog TT 20 fa20 func code hint := ⟨Go.Proofs.Tryz.f20, bodyOf Go.Proofs.Tryz.f20, hintL [], ⟨Go.Proofs.Tryz.func20, Go.Proofs.Tryz.call20, by kernel_rfl, by kernel_rfl, by kernel_rfl, by kernel_rfl⟩⟩
/- quarry/quarrylaw19.addr -/
def fb21 : AFunc2 := ⟨11, [.cell (rLoad (some 4) g2)], .seq (.reg [
oBox w1 30 g0,
oAlloc w2 24 [.int .u64 (.lit (.ofNat 0)), .int .u64 (.lit (.ofNat 0)), .int .u64 (.lit (.ofNat 0)), .int .u64 (.lit (.ofNat 0))]]) (.seq (.reg [
oP w6 (pGen fun _ t => opASlice t 20 1 (.t 1) none none),
oCall w7 10 [g6],
oP w5 (pMv g7),
oP w8 (pExt g5 0),
oP w9 (pExt g5 1),
oAlloc w3 24 [.int .u64 (.lit (.ofNat 0)), .int .u64 (.lit (.ofNat 0)), .int .u64 (.lit (.ofNat 0)), .int .u64 (.lit (.ofNat 0))],
oK wZ (bSt 4 g3 g8),
oP w4 (pMv g9)]) (.seq (.reg [
oR w10 (rLoad (some 4) g3),
oK wZ (bSt 4 g2 g10)]) (.ret)))⟩
theorem fp21 : ∃ fn, fb21 = denF fn ∧ ∃ func code hint, FnOk Go.Proofs.Tryz.prog TT 21 fn func code hint := f2_mk (func := Go.Proofs.Tryz.f21) (code := bodyOf Go.Proofs.Tryz.f21) (hint := hintL []) (n := 11) (res := [.cell 2 (some 4)]) Go.Proofs.Tryz.func21 Go.Proofs.Tryz.call21 (by kernel_rfl) (by kernel_rfl) (by kernel_rfl) (by kernel_rfl) (by kernel_rfl)
/- quarry/quarrylaw19.is -/
def fb22 : AFunc2 := ⟨13, [.tmp g4], .seq (.reg [
oBox w3 24 g1,
oP w4 (pMv (gC (.w (.s (.bool false)))))]) (.seq (.reg [
oR w6 (rLoad (some 4) g3),
oCall w7 19 [g6],
oAlloc w5 50 zz1,
oK wZ (bSt 32 g5 g7)]) (.seq (.draw [
⟨0, ⟨(some 8), .p (.mv (.t 0)), none⟩, 0, 0⟩,
⟨1, ⟨(some 9), .r (.cstr (.t 8)), none⟩, 1, 0⟩,
⟨2, ⟨(some 10), .p (.aslice 32 1 (.t 5) none none), none⟩, 0, 0⟩,
⟨3, ⟨(some 11), .r (.cstr (.t 10)), none⟩, 4, 0⟩,
⟨4, ⟨(some 12), .b (.cmp 0 .str (.t 9) (.t 11)), none⟩, 15, 0⟩,
⟨5, ⟨(some 4), .p (.mv (.t 12)), none⟩, 31, 0⟩]) (.ret)))⟩
theorem fp22 : ∃ fn, fb22 = denF fn ∧ ∃ func code hint, FnOk Go.Proofs.Tryz.prog TT 22 fn func code hint := f2_mk (func := Go.Proofs.Tryz.f22) (code := bodyOf Go.Proofs.Tryz.f22) (hint := hintL [(2, [(0, 0), (1, 0), (2, 0), (3, 0), (4, 0), (5, 0)])]) (n := 13) (res := [.tmp 4]) Go.Proofs.Tryz.func22 Go.Proofs.Tryz.call22 (by kernel_rfl) (by kernel_rfl) (by kernel_rfl) (by kernel_rfl) (by kernel_rfl)
/- (*quarry/state.State).Stored -/
def fb23 : AFunc2 := ⟨13, [.tmp g4], .seq (.reg [
oBox w3 30 g1,
oP w4 (pMv (gC (.w (.s (.bool false)))))]) (.seq (.reg [
oP w5 (pMv g0),
oR w6 (rLoad (some 20) g3),
oCall w7 39 [g5, g6],
oP w8 (pGen fun _ t => opNil t (.t 7)),
oP w9 (pFaddr 6 g8),
oR w10 (rLoad none g9),
oR w11 (rGen fun t s => opMlen t s (.t 10)),
oK w12 (bCmp 4 nLe .le true g11 (gC (.w (.s (.int .i64 (.lit (.ofNat 0))))))),
oP w4 (pMv g12)]) (.ret))⟩
theorem fp23 : ∃ fn, fb23 = denF fn ∧ ∃ func code hint, FnOk Go.Proofs.Tryz.prog TT 23 fn func code hint := f2_mk (func := Go.Proofs.Tryz.f23) (code := bodyOf Go.Proofs.Tryz.f23) (hint := hintL []) (n := 13) (res := [.tmp 4]) Go.Proofs.Tryz.func23 Go.Proofs.Tryz.call23 (by kernel_rfl) (by kernel_rfl) (by kernel_rfl) (by kernel_rfl) (by kernel_rfl)
/- (*quarry/state.State).Logs -/
def fb24 : AFunc2 := ⟨31, [.tmp g2], .seq (.reg [
oP w2 (pMv (gC (.w (.s (.nils)))))]) (.seq (.reg [
oP w6 (pMv g0),
oP w7 (pGen fun _ t => opNil t (.t 6)),
oP w8 (pFaddr 1 g7),
oP w9 (pFaddr 8 g8),
oR w10 (rLoad none g9),
oP w11 (pGen fun _ t => opLen t (.t 10)),
oM w12 (.mkslice 113 72 [.int .u8 (.lit (.ofNat 0)), .int .u8 (.lit (.ofNat 0)), .int .u8 (.lit (.ofNat 0)), .int .u8 (.lit (.ofNat 0)), .int .u8 (.lit (.ofNat 0)), .int .u8 (.lit (.ofNat 0)), .int .u8 (.lit (.ofNat 0)), .int .u8 (.lit (.ofNat 0)), .int .u8 (.lit (.ofNat 0)), .int .u8 (.lit (.ofNat 0)), .int .u8 (.lit (.ofNat 0)), .int .u8 (.lit (.ofNat 0)), .int .u8 (.lit (.ofNat 0)), .int .u8 (.lit (.ofNat 0)), .int .u8 (.lit (.ofNat 0)), .int .u8 (.lit (.ofNat 0)), .int .u8 (.lit (.ofNat 0)), .int .u8 (.lit (.ofNat 0)), .int .u8 (.lit (.ofNat 0)), .int .u8 (.lit (.ofNat 0)), .nils, .nils] (.t 11) (.t 11)),
oP w3 (pMv g12)]) (.seq (.seq (.reg [
oP w13 (pMv g0),
oP w14 (pGen fun _ t => opNil t (.t 13)),
oP w15 (pFaddr 1 g14),
oP w16 (pFaddr 8 g15),
oR w17 (rLoad none g16),
oP w18 (pGen fun _ t => opLen t (.t 17)),
oP w19 (pMv (gC (.w (.s (.int .i64 (.lit (.ofNat 0)))))))]) (.block 0 (.loop (.seq (.reg [
oK w20 (bCmp 2 lLt cGe true g19 g18)]) (.seq (.cond g20 (.skip) (.exit 0)) (.seq (.block 1 (.seq (.reg [
oP w21 (pMv g19),
oP w22 (pIaddrS 22 g17 g19),
oR w23 (rLoad (some 22) g22),
oAlloc w5 113 [.int .u8 (.lit (.ofNat 0)), .int .u8 (.lit (.ofNat 0)), .int .u8 (.lit (.ofNat 0)), .int .u8 (.lit (.ofNat 0)), .int .u8 (.lit (.ofNat 0)), .int .u8 (.lit (.ofNat 0)), .int .u8 (.lit (.ofNat 0)), .int .u8 (.lit (.ofNat 0)), .int .u8 (.lit (.ofNat 0)), .int .u8 (.lit (.ofNat 0)), .int .u8 (.lit (.ofNat 0)), .int .u8 (.lit (.ofNat 0)), .int .u8 (.lit (.ofNat 0)), .int .u8 (.lit (.ofNat 0)), .int .u8 (.lit (.ofNat 0)), .int .u8 (.lit (.ofNat 0)), .int .u8 (.lit (.ofNat 0)), .int .u8 (.lit (.ofNat 0)), .int .u8 (.lit (.ofNat 0)), .int .u8 (.lit (.ofNat 0)), .nils, .nils],
oP w4 (pMv g21),
oK wZ (bSt 22 g5 g23)]) (.reg [
oP w24 (pMv g3),
oP w25 (pMv g4),
oR w26 (rLoad (some 22) g5),
oCall w27 40 [g26],
oP w28 (pIaddrS 22 g24 g25),
oK wZ (bSt 22 g28 g27)]))) (.reg [
oP w29 (pAr 0 g19 (gC (.w (.s (.int .i64 (.lit (.ofNat 1))))))),
oP w19 (pMv g29)]))))))) (.seq (.reg [
oP w30 (pMv g3),
oP w2 (pMv g30)]) (.ret))))⟩
theorem fp24 : ∃ fn, fb24 = denF fn ∧ ∃ func code hint, FnOk Go.Proofs.Tryz.prog TT 24 fn func code hint := f2_mk (func := Go.Proofs.Tryz.f24) (code := bodyOf Go.Proofs.Tryz.f24) (hint := hintL []) (n := 31) (res := [.tmp 2]) Go.Proofs.Tryz.func24 Go.Proofs.Tryz.call24 (by kernel_rfl) (by kernel_rfl) (by kernel_rfl) (by kernel_rfl) (by kernel_rfl)
/- (*quarry/state.State).Destroyed -/
def fb25 : AFunc2 := ⟨12, [.tmp g4], .seq (.reg [
oBox w3 30 g1,
oP w4 (pMv (gC (.w (.s (.bool false)))))]) (.seq (.draw [
⟨0, ⟨(some 5), .p (.mv (.t 0)), none⟩, 0, 0⟩,
⟨1, ⟨(some 6), .p (.nilCheck (.t 5)), none⟩, 1, 0⟩,
⟨2, ⟨(some 7), .p (.faddr 1 (.t 6)), none⟩, 3, 0⟩,
⟨3, ⟨(some 8), .p (.faddr 3 (.t 7)), none⟩, 7, 0⟩,
⟨4, ⟨(some 9), .r (.load none (.t 8)), none⟩, 15, 0⟩,
⟨5, ⟨(some 10), .r (.load (some 20) (.t 3)), none⟩, 0, 0⟩,
⟨6, ⟨(some 11), .b (.call 41 [(.t 9), (.t 10)]), none⟩, 63, 0⟩,
⟨7, ⟨(some 4), .p (.mv (.t 11)), none⟩, 127, 0⟩]) (.ret))⟩
theorem fp25 : ∃ fn, fb25 = denF fn ∧ ∃ func code hint, FnOk Go.Proofs.Tryz.prog TT 25 fn func code hint := f2_mk (func := Go.Proofs.Tryz.f25) (code := bodyOf Go.Proofs.Tryz.f25) (hint := hintL [(1, [(0, 0), (1, 0), (2, 0), (3, 0), (4, 0), (5, 0), (6, 0), (7, 0)])]) (n := 12) (res := [.tmp 4]) Go.Proofs.Tryz.func25 Go.Proofs.Tryz.call25 (by kernel_rfl) (by kernel_rfl) (by kernel_rfl) (by kernel_rfl) (by kernel_rfl)
/- quarry/word.Of -/
def fb26 : AFunc2 := ⟨5, [.cell (rLoad (some 4) g2)], .seq (.reg [
oAlloc w2 24 [.int .u64 (.lit (.ofNat 0)), .int .u64 (.lit (.ofNat 0)), .int .u64 (.lit (.ofNat 0)), .int .u64 (.lit (.ofNat 0))]]) (.seq (.reg [
oP w3 (pMv g0),
oP w4 (pBuild [.int .u64 (.lit (.ofNat 0)), .int .u64 (.lit (.ofNat 0)), .int .u64 (.lit (.ofNat 0)), .int .u64 (.lit (.ofNat 0))] [(0, 1, g3)]),
oK wZ (bSt 4 g2 g4)]) (.ret))⟩
theorem fp26 : ∃ fn, fb26 = denF fn ∧ ∃ func code hint, FnOk Go.Proofs.Tryz.prog TT 26 fn func code hint := f2_mk (func := Go.Proofs.Tryz.f26) (code := bodyOf Go.Proofs.Tryz.f26) (hint := hintL []) (n := 5) (res := [.cell 2 (some 4)]) Go.Proofs.Tryz.func26 Go.Proofs.Tryz.call26 (by kernel_rfl) (by kernel_rfl) (by kernel_rfl) (by kernel_rfl) (by kernel_rfl)
def fa26 : AFunc := ⟨5, [.cell 2 (some 4)], .seq (.reg [
⟨(some 2), .m (.alloc 24 [.int .u64 (.lit (.ofNat 0)), .int .u64 (.lit (.ofNat 0)), .int .u64 (.lit (.ofNat 0)), .int .u64 (.lit (.ofNat 0))]), none⟩]) (.seq (.reg [
⟨(some 3), .p (.mv (.t 0)), none⟩,
⟨(some 4), .p (.build [.int .u64 (.lit (.ofNat 0)), .int .u64 (.lit (.ofNat 0)), .int .u64 (.lit (.ofNat 0)), .int .u64 (.lit (.ofNat 0))] [(0, 1, (.t 3))]), none⟩,
⟨none, .b (.store 4 (.t 2) (.t 4)), none⟩]) (.ret))⟩
theorem fo26 : ∃ func code hint, FnOk Go.Proofs.Tryz.prog TT 26 fa26 func code hint := ⟨Go.Proofs.Tryz.f26, bodyOf Go.Proofs.Tryz.f26, hintL [], ⟨Go.Proofs.Tryz.func26, Go.Proofs.Tryz.call26, by kernel_rfl, by kernel_rfl, by kernel_rfl, by kernel_rfl⟩⟩
/- quarry/state.Load -/
def fb27 : AFunc2 := ⟨70, [.tmp g2, .tmp g3], .seq (.reg [
oP w2 (pMv (gC (.w (.s (.nilp))))),
oP w3 (pMv (gC (.w (.s (.int .i64 (.lit (.ofNat 0)))))))]) (.seq (.reg [
oCall w10 42 [],
oP w4 (pMv g10)]) (.seq (.seq (.reg [
oP w11 (pMv g0),
oP w12 (pGen fun _ t => opLen t (.t 11)),
oP w13 (pMv (gC (.w (.s (.int .i64 (.lit (.ofNat 0)))))))]) (.block 0 (.loop (.seq (.reg [
oK w14 (bCmp 2 lLt cGe true g13 g12)]) (.seq (.cond g14 (.skip) (.exit 0)) (.seq (.block 1 (.seq (.reg [
oP w15 (pIaddrS 27 g11 g13),
oR w16 (rLoad (some 27) g15),
oAlloc w6 63 [.int .u8 (.lit (.ofNat 0)), .int .u8 (.lit (.ofNat 0)), .int .u8 (.lit (.ofNat 0)), .int .u8 (.lit (.ofNat 0)), .int .u8 (.lit (.ofNat 0)), .int .u8 (.lit (.ofNat 0)), .int .u8 (.lit (.ofNat 0)), .int .u8 (.lit (.ofNat 0)), .int .u8 (.lit (.ofNat 0)), .int .u8 (.lit (.ofNat 0)), .int .u8 (.lit (.ofNat 0)), .int .u8 (.lit (.ofNat 0)), .int .u8 (.lit (.ofNat 0)), .int .u8 (.lit (.ofNat 0)), .int .u8 (.lit (.ofNat 0)), .int .u8 (.lit (.ofNat 0)), .int .u8 (.lit (.ofNat 0)), .int .u8 (.lit (.ofNat 0)), .int .u8 (.lit (.ofNat 0)), .int .u8 (.lit (.ofNat 0)), .int .u64 (.lit (.ofNat 0)), .int .u64 (.lit (.ofNat 0)), .int .u64 (.lit (.ofNat 0)), .int .u64 (.lit (.ofNat 0)), .int .u64 (.lit (.ofNat 0)), .nils, .nils],
oK wZ (bSt 27 g6 g16)]) (.seq (.seq (.reg [
oP w17 (pMv g4),
oP w18 (pFaddr 0 g6),
oR w19 (rLoad (some 20) g18),
oCall w20 33 [g17, g19]]) (.cond g20 (.seq (.reg [
oP w2 (pMv (gC (.w (.s (.nilp))))),
oP w3 (pMv (gC (.w (.s (.int .i64 (.lit (.ofNat 9)))))))]) (.ret)) (.skip))) (.seq (.draw [
⟨0, ⟨(some 21), .p (.faddr 20 (.t 6)), none⟩, 0, 0⟩,
⟨1, ⟨(some 22), .r (.load none (.t 21)), none⟩, 1, 0⟩,
⟨2, ⟨(some 23), .p (.faddr 21 (.t 6)), none⟩, 0, 0⟩,
⟨3, ⟨(some 24), .r (.load (some 4) (.t 23)), none⟩, 4, 0⟩,
⟨4, ⟨(some 25), .p (.faddr 25 (.t 6)), none⟩, 0, 0⟩,
⟨5, ⟨(some 26), .r (.load none (.t 25)), none⟩, 16, 0⟩,
⟨7, ⟨(some 28), .m (.mkmap), none⟩, 0, 1024⟩,
⟨6, ⟨(some 27), .b (.call 43 [(.t 26)]), none⟩, 48, 0⟩,
⟨8, ⟨(some 29), .p (.build [.int .u64 (.lit (.ofNat 0)), .int .u64 (.lit (.ofNat 0)), .int .u64 (.lit (.ofNat 0)), .int .u64 (.lit (.ofNat 0)), .int .u64 (.lit (.ofNat 0)), .nils, .nilm] [(0, 1, (.t 22)), (1, 4, (.t 24)), (5, 1, (.t 27)), (6, 1, (.t 28))]), none⟩, 255, 0⟩,
⟨9, ⟨(some 30), .m (.box 97 (.t 29)), none⟩, 511, 1025⟩,
⟨10, ⟨(some 7), .p (.mv (.t 30)), none⟩, 1023, 0⟩]) (.seq (.seq (.reg [
oP w31 (pFaddr 26 g6),
oR w32 (rLoad none g31),
oP w33 (pGen fun _ t => opLen t (.t 32)),
oP w34 (pMv (gC (.w (.s (.int .i64 (.lit (.ofNat 0)))))))]) (.block 2 (.loop (.seq (.reg [
oK w35 (bCmp 2 lLt cGe true g34 g33)]) (.seq (.cond g35 (.skip) (.exit 2)) (.seq (.block 3 (.seq (.reg [
oP w36 (pIaddrS 8 g32 g34),
oR w37 (rLoad (some 8) g36),
oAlloc w9 65 [.int .u64 (.lit (.ofNat 0)), .int .u64 (.lit (.ofNat 0)), .int .u64 (.lit (.ofNat 0)), .int .u64 (.lit (.ofNat 0)), .int .u64 (.lit (.ofNat 0)), .int .u64 (.lit (.ofNat 0)), .int .u64 (.lit (.ofNat 0)), .int .u64 (.lit (.ofNat 0))],
oK wZ (bSt 8 g9 g37)]) (.draw [
⟨0, ⟨(some 38), .p (.mv (.t 7)), none⟩, 0, 0⟩,
⟨1, ⟨(some 39), .p (.nilCheck (.t 38)), none⟩, 1, 0⟩,
⟨2, ⟨(some 40), .p (.faddr 6 (.t 39)), none⟩, 3, 0⟩,
⟨3, ⟨(some 41), .r (.load none (.t 40)), none⟩, 7, 0⟩,
⟨4, ⟨(some 42), .p (.faddr 0 (.t 9)), none⟩, 0, 0⟩,
⟨5, ⟨(some 43), .r (.load (some 4) (.t 42)), none⟩, 16, 0⟩,
⟨6, ⟨(some 44), .p (.faddr 4 (.t 9)), none⟩, 0, 0⟩,
⟨7, ⟨(some 45), .r (.load (some 4) (.t 44)), none⟩, 64, 0⟩,
⟨8, ⟨none, .b (.mupd (.one (.arr 4 22 .u64)) (.t 41) (.t 43) (.t 45)), none⟩, 255, 0⟩]))) (.reg [
oP w46 (pAr 0 g34 (gC (.w (.s (.int .i64 (.lit (.ofNat 1))))))),
oP w34 (pMv g46)]))))))) (.seq (.seq (.draw [
⟨0, ⟨(some 47), .p (.mv (.t 7)), none⟩, 0, 0⟩,
⟨1, ⟨(some 48), .p (.nilCheck (.t 47)), none⟩, 1, 0⟩,
⟨2, ⟨(some 49), .p (.faddr 6 (.t 48)), none⟩, 3, 0⟩,
⟨3, ⟨(some 50), .r (.load none (.t 49)), none⟩, 7, 0⟩,
⟨4, ⟨(some 51), .r (.mlen (.t 50)), none⟩, 15, 0⟩,
⟨5, ⟨(some 52), .p (.faddr 26 (.t 6)), none⟩, 0, 0⟩,
⟨6, ⟨(some 53), .r (.load none (.t 52)), none⟩, 32, 0⟩,
⟨7, ⟨(some 54), .p (.len (.t 53)), none⟩, 96, 0⟩,
⟨8, ⟨(some 55), .b (.cmp 1 .int (.t 51) (.t 54)), none⟩, 255, 0⟩]) (.cond g55 (.seq (.reg [
oP w2 (pMv (gC (.w (.s (.nilp))))),
oP w3 (pMv (gC (.w (.s (.int .i64 (.lit (.ofNat 9)))))))]) (.ret)) (.skip))) (.seq (.reg [
oP w56 (pMv g7),
oP w57 (pGen fun _ t => opNil t (.t 56)),
oP w58 (pFaddr 6 g57),
oR w59 (rLoad none g58),
oCall w60 44 [g59, (gC (.w (.s (.fn 45 []))))]]) (.draw [
⟨0, ⟨(some 61), .p (.mv (.t 4)), none⟩, 0, 0⟩,
⟨1, ⟨(some 62), .p (.nilCheck (.t 61)), none⟩, 1, 0⟩,
⟨2, ⟨(some 63), .p (.faddr 0 (.t 62)), none⟩, 3, 0⟩,
⟨3, ⟨(some 64), .r (.load none (.t 63)), none⟩, 7, 0⟩,
⟨4, ⟨(some 65), .p (.faddr 0 (.t 6)), none⟩, 0, 0⟩,
⟨5, ⟨(some 66), .r (.load (some 20) (.t 65)), none⟩, 16, 0⟩,
⟨6, ⟨(some 67), .p (.mv (.t 7)), none⟩, 0, 0⟩,
⟨7, ⟨none, .b (.mupd (.one (.arr 20 5 .u8)) (.t 64) (.t 66) (.t 67)), none⟩, 127, 0⟩])))))))) (.reg [
oP w68 (pAr 0 g13 (gC (.w (.s (.int .i64 (.lit (.ofNat 1))))))),
oP w13 (pMv g68)]))))))) (.seq (.reg [
oP w69 (pMv g4),
oP w2 (pMv g69),
oP w3 (pMv (gC (.w (.s (.int .i64 (.lit (.ofNat 0)))))))]) (.ret))))⟩
theorem fp27 : ∃ fn, fb27 = denF fn ∧ ∃ func code hint, FnOk Go.Proofs.Tryz.prog TT 27 fn func code hint := f2_mk (func := Go.Proofs.Tryz.f27) (code := bodyOf Go.Proofs.Tryz.f27) (hint := hintL [(7, [(0, 0), (1, 0), (2, 0), (3, 0), (4, 0), (5, 0), (7, 1024), (6, 0), (8, 0), (9, 1025), (10, 0)]), (11, [(0, 0), (1, 0), (2, 0), (3, 0), (4, 0), (5, 0), (6, 0), (7, 0), (8, 0)]), (13, [(0, 0), (1, 0), (2, 0), (3, 0), (4, 0), (5, 0), (6, 0), (7, 0), (8, 0)]), (16, [(0, 0), (1, 0), (2, 0), (3, 0), (4, 0), (5, 0), (6, 0), (7, 0)])]) (n := 70) (res := [.tmp 2, .tmp 3]) Go.Proofs.Tryz.func27 Go.Proofs.Tryz.call27 (by kernel_rfl) (by kernel_rfl) (by kernel_rfl) (by kernel_rfl) (by kernel_rfl)
/- quarry/vm.Run -/
def fb28 : AFunc2 := ⟨132, [.cell (rLoad (some 24) g10), .tmp g11], .seq (.reg [
oBox w6 74 g1,
oBox w7 76 g2,
oBox w9 78 g4,
oAlloc w10 39 [.int .i64 (.lit (.ofNat 0)), .nils, .int .u64 (.lit (.ofNat 0)), .int .u8 (.lit (.ofNat 0)), .int .u8 (.lit (.ofNat 0)), .int .u8 (.lit (.ofNat 0)), .int .u8 (.lit (.ofNat 0)), .int .u8 (.lit (.ofNat 0)), .int .u8 (.lit (.ofNat 0)), .int .u8 (.lit (.ofNat 0)), .int .u8 (.lit (.ofNat 0)), .int .u8 (.lit (.ofNat 0)), .int .u8 (.lit (.ofNat 0)), .int .u8 (.lit (.ofNat 0)), .int .u8 (.lit (.ofNat 0)), .int .u8 (.lit (.ofNat 0)), .int .u8 (.lit (.ofNat 0)), .int .u8 (.lit (.ofNat 0)), .int .u8 (.lit (.ofNat 0)), .int .u8 (.lit (.ofNat 0)), .int .u8 (.lit (.ofNat 0)), .int .u8 (.lit (.ofNat 0)), .int .u8 (.lit (.ofNat 0)), .int .u64 (.lit (.ofNat 0))],
oP w11 (pMv (gC (.w (.s (.int .i64 (.lit (.ofNat 0)))))))]) (.seq (.reg [
oP w22 (pMv g0),
oCall w23 46 [g22],
oP w21 (pMv g23),
oP w24 (pExt g21 0),
oP w25 (pExt g21 1),
oAlloc w12 44 [.int .i64 (.lit (.ofNat 0)), .int .u64 (.lit (.ofNat 0)), .int .u64 (.lit (.ofNat 0)), .int .u64 (.lit (.ofNat 0)), .int .u64 (.lit (.ofNat 0)), .int .u64 (.lit (.ofNat 0)), .int .u64 (.lit (.ofNat 0)), .int .u64 (.lit (.ofNat 0)), .int .i64 (.lit (.ofNat 0)), .int .i64 (.lit (.ofNat 0)), .int .u64 (.lit (.ofNat 0)), .int .u64 (.lit (.ofNat 0)), .int .u64 (.lit (.ofNat 0)), .int .u64 (.lit (.ofNat 0)), .int .u64 (.lit (.ofNat 0)), .int .u64 (.lit (.ofNat 0)), .int .u64 (.lit (.ofNat 0)), .int .u64 (.lit (.ofNat 0)), .int .u64 (.lit (.ofNat 0)), .int .u64 (.lit (.ofNat 0)), .int .u64 (.lit (.ofNat 0)), .int .u64 (.lit (.ofNat 0)), .int .u64 (.lit (.ofNat 0)), .int .u64 (.lit (.ofNat 0)), .int .u64 (.lit (.ofNat 0)), .int .u64 (.lit (.ofNat 0))],
oK wZ (bSt 26 g12 g24),
oP w13 (pMv g25)]) (.seq (.seq (.reg [
oP w26 (pMv g13),
oK w27 (bCmp 1 nEq .eq true g26 (gC (.w (.s (.int .i64 (.lit (.ofNat 0))))))),
oP w28 (pMv g27),
oGd g28 false w29 (oP w29 (pMv g3)),
oGd g28 false w30 (oK w30 (b2 (fun x y s K => cmpA 0 .ptr x y s fun b s => K (vBool b) s) g29 (gC (.w (.s (.nilp)))))),
oP w31 (pGen fun _ t => opPick t (.t 28) (.c (.w (.s (.bool true)))) (.t 30)),
oP w32 (pMv g31),
oGd g32 false w33 (oP w33 (pFaddr 48 g9)),
oGd g32 false w34 (oR w34 (rLoad none g33)),
oGd g32 false w35 (oK w35 (bCmp 2 lLt cGe true g34 (gC (.w (.s (.int .i64 (.lit (.ofNat 0)))))))),
oP w36 (pGen fun _ t => opPick t (.t 32) (.c (.w (.s (.bool true)))) (.t 35)),
oP w37 (pMv g36),
oGd g37 false w38 (oP w38 (pFaddr 48 g9)),
oGd g37 false w39 (oR w39 (rLoad none g38)),
oGd g37 false w40 (oK w40 (bCmp 4 nLe .le true g39 (gC (.w (.s (.int .i64 (.lit (.ofNat 1024)))))))),
oP w41 (pGen fun _ t => opPick t (.t 37) (.c (.w (.s (.bool true)))) (.t 40)),
oP w42 (pMv g41),
oGd g42 false w43 (oP w43 (pFaddr 46 g9)),
oGd g42 false w44 (oR w44 (rLoad none g43)),
oGd g42 false w45 (oK w45 (bCmp 4 nLe .le true g44 (gC (.w (.s (.int .u64 (.lit (.ofNat 9223372036854775807)))))))),
oP w46 (pGen fun _ t => opPick t (.t 42) (.c (.w (.s (.bool true)))) (.t 45)),
oP w47 (pMv g46),
oGd g47 false w48 (oP w48 (pFaddr 36 g6)),
oGd g47 false w49 (oR w49 (rLoad none g48)),
oGd g47 false w50 (oP w50 (pGen fun _ t => opLen t (.t 49))),
oGd g47 false w51 (oK w51 (bCmp 4 nLe .le true g50 (gC (.w (.s (.int .i64 (.lit (.ofNat 256)))))))),
oP w52 (pGen fun _ t => opPick t (.t 47) (.c (.w (.s (.bool true)))) (.t 51)),
oP w53 (pMv g52),
oGd g53 false w54 (oP w54 (pFaddr 0 g9)),
oGd g53 false w55 (oR w55 (rLoad none g54)),
oGd g53 false w56 (oP w56 (pMv g55)),
oGd g56 true w57 (oP w57 (pFaddr 47 g9)),
oGd g56 true w58 (oR w58 (rLoad none g57)),
oGd g53 false w59 (oP w59 (pGen fun _ t => opPick t (.t 56) (.t 58) (.c (.w (.s (.bool false)))))),
oP w60 (pGen fun _ t => opPick t (.t 53) (.c (.w (.s (.bool true)))) (.t 59))]) (.cond g60 (.seq (.reg [
oP w61 (pBuild [.int .i64 (.lit (.ofNat 0)), .nils, .int .u64 (.lit (.ofNat 0)), .int .u8 (.lit (.ofNat 0)), .int .u8 (.lit (.ofNat 0)), .int .u8 (.lit (.ofNat 0)), .int .u8 (.lit (.ofNat 0)), .int .u8 (.lit (.ofNat 0)), .int .u8 (.lit (.ofNat 0)), .int .u8 (.lit (.ofNat 0)), .int .u8 (.lit (.ofNat 0)), .int .u8 (.lit (.ofNat 0)), .int .u8 (.lit (.ofNat 0)), .int .u8 (.lit (.ofNat 0)), .int .u8 (.lit (.ofNat 0)), .int .u8 (.lit (.ofNat 0)), .int .u8 (.lit (.ofNat 0)), .int .u8 (.lit (.ofNat 0)), .int .u8 (.lit (.ofNat 0)), .int .u8 (.lit (.ofNat 0)), .int .u8 (.lit (.ofNat 0)), .int .u8 (.lit (.ofNat 0)), .int .u8 (.lit (.ofNat 0)), .int .u64 (.lit (.ofNat 0))] []),
oK wZ (bSt 24 g10 g61),
oP w11 (pMv (gC (.w (.s (.int .i64 (.lit (.ofNat 1)))))))]) (.ret)) (.skip))) (.seq (.reg [
oP w62 (pMv g0),
oR w63 (rLoad (some 26) g12),
oR w64 (rLoad (some 37) g6),
oR w65 (rLoad (some 25) g7),
oP w66 (pMv g3),
oP w67 (pBuild [.int .i64 (.lit (.ofNat 0)), .int .i64 (.lit (.ofNat 0)), .int .u64 (.lit (.ofNat 0)), .int .u64 (.lit (.ofNat 0)), .int .u64 (.lit (.ofNat 0)), .int .u64 (.lit (.ofNat 0)), .int .u64 (.lit (.ofNat 0)), .int .u64 (.lit (.ofNat 0)), .int .u64 (.lit (.ofNat 0)), .int .i64 (.lit (.ofNat 0)), .int .i64 (.lit (.ofNat 0)), .int .u64 (.lit (.ofNat 0)), .int .u64 (.lit (.ofNat 0)), .int .u64 (.lit (.ofNat 0)), .int .u64 (.lit (.ofNat 0)), .int .u64 (.lit (.ofNat 0)), .int .u64 (.lit (.ofNat 0)), .int .u64 (.lit (.ofNat 0)), .int .u64 (.lit (.ofNat 0)), .int .u64 (.lit (.ofNat 0)), .int .u64 (.lit (.ofNat 0)), .int .u64 (.lit (.ofNat 0)), .int .u64 (.lit (.ofNat 0)), .int .u64 (.lit (.ofNat 0)), .int .u64 (.lit (.ofNat 0)), .int .u64 (.lit (.ofNat 0)), .int .u64 (.lit (.ofNat 0)), .int .u8 (.lit (.ofNat 0)), .int .u8 (.lit (.ofNat 0)), .int .u8 (.lit (.ofNat 0)), .int .u8 (.lit (.ofNat 0)), .int .u8 (.lit (.ofNat 0)), .int .u8 (.lit (.ofNat 0)), .int .u8 (.lit (.ofNat 0)), .int .u8 (.lit (.ofNat 0)), .int .u8 (.lit (.ofNat 0)), .int .u8 (.lit (.ofNat 0)), .int .u8 (.lit (.ofNat 0)), .int .u8 (.lit (.ofNat 0)), .int .u8 (.lit (.ofNat 0)), .int .u8 (.lit (.ofNat 0)), .int .u8 (.lit (.ofNat 0)), .int .u8 (.lit (.ofNat 0)), .int .u8 (.lit (.ofNat 0)), .int .u8 (.lit (.ofNat 0)), .int .u8 (.lit (.ofNat 0)), .int .u8 (.lit (.ofNat 0)), .int .u64 (.lit (.ofNat 0)), .int .u64 (.lit (.ofNat 0)), .int .u64 (.lit (.ofNat 0)), .int .u64 (.lit (.ofNat 0)), .int .u64 (.lit (.ofNat 0)), .int .u64 (.lit (.ofNat 0)), .int .u64 (.lit (.ofNat 0)), .int .u64 (.lit (.ofNat 0)), .int .u64 (.lit (.ofNat 0)), .int .u64 (.lit (.ofNat 0)), .int .u64 (.lit (.ofNat 0)), .int .u64 (.lit (.ofNat 0)), .int .u64 (.lit (.ofNat 0)), .int .u64 (.lit (.ofNat 0)), .int .u64 (.lit (.ofNat 0)), .int .u64 (.lit (.ofNat 0)), .nils, .int .u8 (.lit (.ofNat 0)), .int .u8 (.lit (.ofNat 0)), .int .u8 (.lit (.ofNat 0)), .int .u8 (.lit (.ofNat 0)), .int .u8 (.lit (.ofNat 0)), .int .u8 (.lit (.ofNat 0)), .int .u8 (.lit (.ofNat 0)), .int .u8 (.lit (.ofNat 0)), .int .u8 (.lit (.ofNat 0)), .int .u8 (.lit (.ofNat 0)), .int .u8 (.lit (.ofNat 0)), .int .u8 (.lit (.ofNat 0)), .int .u8 (.lit (.ofNat 0)), .int .u8 (.lit (.ofNat 0)), .int .u8 (.lit (.ofNat 0)), .int .u8 (.lit (.ofNat 0)), .int .u8 (.lit (.ofNat 0)), .int .u8 (.lit (.ofNat 0)), .int .u8 (.lit (.ofNat 0)), .int .u8 (.lit (.ofNat 0)), .int .u64 (.lit (.ofNat 0)), .int .u64 (.lit (.ofNat 0)), .int .u64 (.lit (.ofNat 0)), .int .u64 (.lit (.ofNat 0)), .nils, .nilp, .int .u64 (.lit (.ofNat 0)), .bool false, .int .i64 (.lit (.ofNat 0)), .int .i64 (.lit (.ofNat 0)), .int .u64 (.lit (.ofNat 0)), .bool false, .int .i64 (.lit (.ofNat 0)), .int .i64 (.lit (.ofNat 0)), .int .u64 (.lit (.ofNat 0)), .bool false, .int .i64 (.lit (.ofNat 0)), .int .i64 (.lit (.ofNat 0)), .int .u64 (.lit (.ofNat 0)), .bool false, .int .i64 (.lit (.ofNat 0)), .int .i64 (.lit (.ofNat 0)), .int .u64 (.lit (.ofNat 0)), .bool false, .int .i64 (.lit (.ofNat 0)), .int .i64 (.lit (.ofNat 0)), .int .u64 (.lit (.ofNat 0)), .bool false, .int .i64 (.lit (.ofNat 0)), .int .i64 (.lit (.ofNat 0)), .int .u64 (.lit (.ofNat 0)), .bool false, .int .i64 (.lit (.ofNat 0)), .int .i64 (.lit (.ofNat 0)), .int .u64 (.lit (.ofNat 0)), .bool false, .int .i64 (.lit (.ofNat 0)), .int .i64 (.lit (.ofNat 0)), .int .u64 (.lit (.ofNat 0)), .bool false, .int .i64 (.lit (.ofNat 0)), .int .i64 (.lit (.ofNat 0)), .int .u64 (.lit (.ofNat 0)), .bool false, .int .i64 (.lit (.ofNat 0)), .int .i64 (.lit (.ofNat 0)), .int .u64 (.lit (.ofNat 0)), .bool false, .int .i64 (.lit (.ofNat 0)), .int .i64 (.lit (.ofNat 0)), .int .u64 (.lit (.ofNat 0)), .bool false, .int .i64 (.lit (.ofNat 0)), .int .i64 (.lit (.ofNat 0)), .int .u64 (.lit (.ofNat 0)), .bool false, .int .i64 (.lit (.ofNat 0)), .int .i64 (.lit (.ofNat 0)), .int .u64 (.lit (.ofNat 0)), .bool false, .int .i64 (.lit (.ofNat 0)), .int .i64 (.lit (.ofNat 0)), .int .u64 (.lit (.ofNat 0)), .bool false, .int .i64 (.lit (.ofNat 0)), .int .i64 (.lit (.ofNat 0)), .int .u64 (.lit (.ofNat 0)), .bool false, .int .i64 (.lit (.ofNat 0)), .int .i64 (.lit (.ofNat 0)), .int .u64 (.lit (.ofNat 0)), .bool false, .int .i64 (.lit (.ofNat 0)), .int .i64 (.lit (.ofNat 0)), .int .u64 (.lit (.ofNat 0)), .bool false, .int .i64 (.lit (.ofNat 0)), .int .i64 (.lit (.ofNat 0)), .int .u64 (.lit (.ofNat 0)), .bool false, .int .i64 (.lit (.ofNat 0)), .int .i64 (.lit (.ofNat 0)), .int .u64 (.lit (.ofNat 0)), .bool false, .int .i64 (.lit (.ofNat 0)), .int .i64 (.lit (.ofNat 0)), .int .u64 (.lit (.ofNat 0)), .bool false, .int .i64 (.lit (.ofNat 0)), .int .i64 (.lit (.ofNat 0)), .int .u64 (.lit (.ofNat 0)), .bool false, .int .i64 (.lit (.ofNat 0)), .int .i64 (.lit (.ofNat 0)), .int .u64 (.lit (.ofNat 0)), .bool false, .int .i64 (.lit (.ofNat 0)), .int .i64 (.lit (.ofNat 0)), .int .u64 (.lit (.ofNat 0)), .bool false, .int .i64 (.lit (.ofNat 0)), .int .i64 (.lit (.ofNat 0)), .int .u64 (.lit (.ofNat 0)), .bool false, .int .i64 (.lit (.ofNat 0)), .int .i64 (.lit (.ofNat 0)), .int .u64 (.lit (.ofNat 0)), .bool false, .int .i64 (.lit (.ofNat 0)), .int .i64 (.lit (.ofNat 0)), .int .u64 (.lit (.ofNat 0)), .bool false, .int .i64 (.lit (.ofNat 0)), .int .i64 (.lit (.ofNat 0)), .int .u64 (.lit (.ofNat 0)), .bool false, .int .i64 (.lit (.ofNat 0)), .int .i64 (.lit (.ofNat 0)), .int .u64 (.lit (.ofNat 0)), .bool false, .int .i64 (.lit (.ofNat 0)), .int .i64 (.lit (.ofNat 0)), .int .u64 (.lit (.ofNat 0)), .bool false, .int .i64 (.lit (.ofNat 0)), .int .i64 (.lit (.ofNat 0)), .int .u64 (.lit (.ofNat 0)), .bool false, .int .i64 (.lit (.ofNat 0)), .int .i64 (.lit (.ofNat 0)), .int .u64 (.lit (.ofNat 0)), .bool false, .int .i64 (.lit (.ofNat 0)), .int .i64 (.lit (.ofNat 0)), .int .u64 (.lit (.ofNat 0)), .bool false, .int .i64 (.lit (.ofNat 0)), .int .i64 (.lit (.ofNat 0)), .int .u64 (.lit (.ofNat 0)), .bool false, .int .i64 (.lit (.ofNat 0)), .int .i64 (.lit (.ofNat 0)), .int .u64 (.lit (.ofNat 0)), .bool false, .int .i64 (.lit (.ofNat 0)), .int .i64 (.lit (.ofNat 0)), .int .u64 (.lit (.ofNat 0)), .bool false, .int .i64 (.lit (.ofNat 0)), .int .i64 (.lit (.ofNat 0)), .int .u64 (.lit (.ofNat 0)), .bool false, .int .i64 (.lit (.ofNat 0)), .int .i64 (.lit (.ofNat 0)), .int .u64 (.lit (.ofNat 0)), .bool false, .int .i64 (.lit (.ofNat 0)), .int .i64 (.lit (.ofNat 0)), .int .u64 (.lit (.ofNat 0)), .bool false, .int .i64 (.lit (.ofNat 0)), .int .i64 (.lit (.ofNat 0)), .int .u64 (.lit (.ofNat 0)), .bool false, .int .i64 (.lit (.ofNat 0)), .int .i64 (.lit (.ofNat 0)), .int .u64 (.lit (.ofNat 0)), .bool false, .int .i64 (.lit (.ofNat 0)), .int .i64 (.lit (.ofNat 0)), .int .u64 (.lit (.ofNat 0)), .bool false, .int .i64 (.lit (.ofNat 0)), .int .i64 (.lit (.ofNat 0)), .int .u64 (.lit (.ofNat 0)), .bool false, .int .i64 (.lit (.ofNat 0)), .int .i64 (.lit (.ofNat 0)), .int .u64 (.lit (.ofNat 0)), .bool false, .int .i64 (.lit (.ofNat 0)), .int .i64 (.lit (.ofNat 0)), .int .u64 (.lit (.ofNat 0)), .bool false, .int .i64 (.lit (.ofNat 0)), .int .i64 (.lit (.ofNat 0)), .int .u64 (.lit (.ofNat 0)), .bool false, .int .i64 (.lit (.ofNat 0)), .int .i64 (.lit (.ofNat 0)), .int .u64 (.lit (.ofNat 0)), .bool false, .int .i64 (.lit (.ofNat 0)), .int .i64 (.lit (.ofNat 0)), .int .u64 (.lit (.ofNat 0)), .bool false, .int .i64 (.lit (.ofNat 0)), .int .i64 (.lit (.ofNat 0)), .int .u64 (.lit (.ofNat 0)), .bool false, .int .i64 (.lit (.ofNat 0)), .int .i64 (.lit (.ofNat 0)), .int .u64 (.lit (.ofNat 0)), .bool false, .int .i64 (.lit (.ofNat 0)), .int .i64 (.lit (.ofNat 0)), .int .u64 (.lit (.ofNat 0)), .bool false, .int .i64 (.lit (.ofNat 0)), .int .i64 (.lit (.ofNat 0)), .int .u64 (.lit (.ofNat 0)), .bool false, .int .i64 (.lit (.ofNat 0)), .int .i64 (.lit (.ofNat 0)), .int .u64 (.lit (.ofNat 0)), .bool false, .int .i64 (.lit (.ofNat 0)), .int .i64 (.lit (.ofNat 0)), .int .u64 (.lit (.ofNat 0)), .bool false, .int .i64 (.lit (.ofNat 0)), .int .i64 (.lit (.ofNat 0)), .int .u64 (.lit (.ofNat 0)), .bool false, .int .i64 (.lit (.ofNat 0)), .int .i64 (.lit (.ofNat 0)), .int .u64 (.lit (.ofNat 0)), .bool false, .int .i64 (.lit (.ofNat 0)), .int .i64 (.lit (.ofNat 0)), .int .u64 (.lit (.ofNat 0)), .bool false, .int .i64 (.lit (.ofNat 0)), .int .i64 (.lit (.ofNat 0)), .int .u64 (.lit (.ofNat 0)), .bool false, .int .i64 (.lit (.ofNat 0)), .int .i64 (.lit (.ofNat 0)), .int .u64 (.lit (.ofNat 0)), .bool false, .int .i64 (.lit (.ofNat 0)), .int .i64 (.lit (.ofNat 0)), .int .u64 (.lit (.ofNat 0)), .bool false, .int .i64 (.lit (.ofNat 0)), .int .i64 (.lit (.ofNat 0)), .int .u64 (.lit (.ofNat 0)), .bool false, .int .i64 (.lit (.ofNat 0)), .int .i64 (.lit (.ofNat 0)), .int .u64 (.lit (.ofNat 0)), .bool false, .int .i64 (.lit (.ofNat 0)), .int .i64 (.lit (.ofNat 0)), .int .u64 (.lit (.ofNat 0)), .bool false, .int .i64 (.lit (.ofNat 0)), .int .i64 (.lit (.ofNat 0)), .int .u64 (.lit (.ofNat 0)), .bool false, .int .i64 (.lit (.ofNat 0)), .int .i64 (.lit (.ofNat 0)), .int .u64 (.lit (.ofNat 0)), .bool false, .int .i64 (.lit (.ofNat 0)), .int .i64 (.lit (.ofNat 0)), .int .u64 (.lit (.ofNat 0)), .bool false, .int .i64 (.lit (.ofNat 0)), .int .i64 (.lit (.ofNat 0)), .int .u64 (.lit (.ofNat 0)), .bool false, .int .i64 (.lit (.ofNat 0)), .int .i64 (.lit (.ofNat 0)), .int .u64 (.lit (.ofNat 0)), .bool false, .int .i64 (.lit (.ofNat 0)), .int .i64 (.lit (.ofNat 0)), .int .u64 (.lit (.ofNat 0)), .bool false, .int .i64 (.lit (.ofNat 0)), .int .i64 (.lit (.ofNat 0)), .int .u64 (.lit (.ofNat 0)), .bool false, .int .i64 (.lit (.ofNat 0)), .int .i64 (.lit (.ofNat 0)), .int .u64 (.lit (.ofNat 0)), .bool false, .int .i64 (.lit (.ofNat 0)), .int .i64 (.lit (.ofNat 0)), .int .u64 (.lit (.ofNat 0)), .bool false, .int .i64 (.lit (.ofNat 0)), .int .i64 (.lit (.ofNat 0)), .int .u64 (.lit (.ofNat 0)), .bool false, .int .i64 (.lit (.ofNat 0)), .int .i64 (.lit (.ofNat 0)), .int .u64 (.lit (.ofNat 0)), .bool false, .int .i64 (.lit (.ofNat 0)), .int .i64 (.lit (.ofNat 0)), .int .u64 (.lit (.ofNat 0)), .bool false, .int .i64 (.lit (.ofNat 0)), .int .i64 (.lit (.ofNat 0)), .int .u64 (.lit (.ofNat 0)), .bool false, .int .i64 (.lit (.ofNat 0)), .int .i64 (.lit (.ofNat 0)), .int .u64 (.lit (.ofNat 0)), .bool false, .int .i64 (.lit (.ofNat 0)), .int .i64 (.lit (.ofNat 0)), .int .u64 (.lit (.ofNat 0)), .bool false, .int .i64 (.lit (.ofNat 0)), .int .i64 (.lit (.ofNat 0)), .int .u64 (.lit (.ofNat 0)), .bool false, .int .i64 (.lit (.ofNat 0)), .int .i64 (.lit (.ofNat 0)), .int .u64 (.lit (.ofNat 0)), .bool false, .int .i64 (.lit (.ofNat 0)), .int .i64 (.lit (.ofNat 0)), .int .u64 (.lit (.ofNat 0)), .bool false, .int .i64 (.lit (.ofNat 0)), .int .i64 (.lit (.ofNat 0)), .int .u64 (.lit (.ofNat 0)), .bool false, .int .i64 (.lit (.ofNat 0)), .int .i64 (.lit (.ofNat 0)), .int .u64 (.lit (.ofNat 0)), .bool false, .int .i64 (.lit (.ofNat 0)), .int .i64 (.lit (.ofNat 0)), .int .u64 (.lit (.ofNat 0)), .bool false, .int .i64 (.lit (.ofNat 0)), .int .i64 (.lit (.ofNat 0)), .int .u64 (.lit (.ofNat 0)), .bool false, .int .i64 (.lit (.ofNat 0)), .int .i64 (.lit (.ofNat 0)), .int .u64 (.lit (.ofNat 0)), .bool false, .int .i64 (.lit (.ofNat 0)), .int .i64 (.lit (.ofNat 0)), .int .u64 (.lit (.ofNat 0)), .bool false, .int .i64 (.lit (.ofNat 0)), .int .i64 (.lit (.ofNat 0)), .int .u64 (.lit (.ofNat 0)), .bool false, .int .i64 (.lit (.ofNat 0)), .int .i64 (.lit (.ofNat 0)), .int .u64 (.lit (.ofNat 0)), .bool false, .int .i64 (.lit (.ofNat 0)), .int .i64 (.lit (.ofNat 0)), .int .u64 (.lit (.ofNat 0)), .bool false, .int .i64 (.lit (.ofNat 0)), .int .i64 (.lit (.ofNat 0)), .int .u64 (.lit (.ofNat 0)), .bool false, .int .i64 (.lit (.ofNat 0)), .int .i64 (.lit (.ofNat 0)), .int .u64 (.lit (.ofNat 0)), .bool false, .int .i64 (.lit (.ofNat 0)), .int .i64 (.lit (.ofNat 0)), .int .u64 (.lit (.ofNat 0)), .bool false, .int .i64 (.lit (.ofNat 0)), .int .i64 (.lit (.ofNat 0)), .int .u64 (.lit (.ofNat 0)), .bool false, .int .i64 (.lit (.ofNat 0)), .int .i64 (.lit (.ofNat 0)), .int .u64 (.lit (.ofNat 0)), .bool false, .int .i64 (.lit (.ofNat 0)), .int .i64 (.lit (.ofNat 0)), .int .u64 (.lit (.ofNat 0)), .bool false, .int .i64 (.lit (.ofNat 0)), .int .i64 (.lit (.ofNat 0)), .int .u64 (.lit (.ofNat 0)), .bool false, .int .i64 (.lit (.ofNat 0)), .int .i64 (.lit (.ofNat 0)), .int .u64 (.lit (.ofNat 0)), .bool false, .int .i64 (.lit (.ofNat 0)), .int .i64 (.lit (.ofNat 0)), .int .u64 (.lit (.ofNat 0)), .bool false, .int .i64 (.lit (.ofNat 0)), .int .i64 (.lit (.ofNat 0)), .int .u64 (.lit (.ofNat 0)), .bool false, .int .i64 (.lit (.ofNat 0)), .int .i64 (.lit (.ofNat 0)), .int .u64 (.lit (.ofNat 0)), .bool false, .int .i64 (.lit (.ofNat 0)), .int .i64 (.lit (.ofNat 0)), .int .u64 (.lit (.ofNat 0)), .bool false, .int .i64 (.lit (.ofNat 0)), .int .i64 (.lit (.ofNat 0)), .int .u64 (.lit (.ofNat 0)), .bool false, .int .i64 (.lit (.ofNat 0)), .int .i64 (.lit (.ofNat 0)), .int .u64 (.lit (.ofNat 0)), .bool false, .int .i64 (.lit (.ofNat 0)), .int .i64 (.lit (.ofNat 0)), .int .u64 (.lit (.ofNat 0)), .bool false, .int .i64 (.lit (.ofNat 0)), .int .i64 (.lit (.ofNat 0)), .int .u64 (.lit (.ofNat 0)), .bool false, .int .i64 (.lit (.ofNat 0)), .int .i64 (.lit (.ofNat 0)), .int .u64 (.lit (.ofNat 0)), .bool false, .int .i64 (.lit (.ofNat 0)), .int .i64 (.lit (.ofNat 0)), .int .u64 (.lit (.ofNat 0)), .bool false, .int .i64 (.lit (.ofNat 0)), .int .i64 (.lit (.ofNat 0)), .int .u64 (.lit (.ofNat 0)), .bool false, .int .i64 (.lit (.ofNat 0)), .int .i64 (.lit (.ofNat 0)), .int .u64 (.lit (.ofNat 0)), .bool false, .int .i64 (.lit (.ofNat 0)), .int .i64 (.lit (.ofNat 0)), .int .u64 (.lit (.ofNat 0)), .bool false, .int .i64 (.lit (.ofNat 0)), .int .i64 (.lit (.ofNat 0)), .int .u64 (.lit (.ofNat 0)), .bool false, .int .i64 (.lit (.ofNat 0)), .int .i64 (.lit (.ofNat 0)), .int .u64 (.lit (.ofNat 0)), .bool false, .int .i64 (.lit (.ofNat 0)), .int .i64 (.lit (.ofNat 0)), .int .u64 (.lit (.ofNat 0)), .bool false, .int .i64 (.lit (.ofNat 0)), .int .i64 (.lit (.ofNat 0)), .int .u64 (.lit (.ofNat 0)), .bool false, .int .i64 (.lit (.ofNat 0)), .int .i64 (.lit (.ofNat 0)), .int .u64 (.lit (.ofNat 0)), .bool false, .int .i64 (.lit (.ofNat 0)), .int .i64 (.lit (.ofNat 0)), .int .u64 (.lit (.ofNat 0)), .bool false, .int .i64 (.lit (.ofNat 0)), .int .i64 (.lit (.ofNat 0)), .int .u64 (.lit (.ofNat 0)), .bool false, .int .i64 (.lit (.ofNat 0)), .int .i64 (.lit (.ofNat 0)), .int .u64 (.lit (.ofNat 0)), .bool false, .int .i64 (.lit (.ofNat 0)), .int .i64 (.lit (.ofNat 0)), .int .u64 (.lit (.ofNat 0)), .bool false, .int .i64 (.lit (.ofNat 0)), .int .i64 (.lit (.ofNat 0)), .int .u64 (.lit (.ofNat 0)), .bool false, .int .i64 (.lit (.ofNat 0)), .int .i64 (.lit (.ofNat 0)), .int .u64 (.lit (.ofNat 0)), .bool false, .int .i64 (.lit (.ofNat 0)), .int .i64 (.lit (.ofNat 0)), .int .u64 (.lit (.ofNat 0)), .bool false, .int .i64 (.lit (.ofNat 0)), .int .i64 (.lit (.ofNat 0)), .int .u64 (.lit (.ofNat 0)), .bool false, .int .i64 (.lit (.ofNat 0)), .int .i64 (.lit (.ofNat 0)), .int .u64 (.lit (.ofNat 0)), .bool false, .int .i64 (.lit (.ofNat 0)), .int .i64 (.lit (.ofNat 0)), .int .u64 (.lit (.ofNat 0)), .bool false, .int .i64 (.lit (.ofNat 0)), .int .i64 (.lit (.ofNat 0)), .int .u64 (.lit (.ofNat 0)), .bool false, .int .i64 (.lit (.ofNat 0)), .int .i64 (.lit (.ofNat 0)), .int .u64 (.lit (.ofNat 0)), .bool false, .int .i64 (.lit (.ofNat 0)), .int .i64 (.lit (.ofNat 0)), .int .u64 (.lit (.ofNat 0)), .bool false, .int .i64 (.lit (.ofNat 0)), .int .i64 (.lit (.ofNat 0)), .int .u64 (.lit (.ofNat 0)), .bool false, .int .i64 (.lit (.ofNat 0)), .int .i64 (.lit (.ofNat 0)), .int .u64 (.lit (.ofNat 0)), .bool false, .int .i64 (.lit (.ofNat 0)), .int .i64 (.lit (.ofNat 0)), .int .u64 (.lit (.ofNat 0)), .bool false, .int .i64 (.lit (.ofNat 0)), .int .i64 (.lit (.ofNat 0)), .int .u64 (.lit (.ofNat 0)), .bool false, .int .i64 (.lit (.ofNat 0)), .int .i64 (.lit (.ofNat 0)), .int .u64 (.lit (.ofNat 0)), .bool false, .int .i64 (.lit (.ofNat 0)), .int .i64 (.lit (.ofNat 0)), .int .u64 (.lit (.ofNat 0)), .bool false, .int .i64 (.lit (.ofNat 0)), .int .i64 (.lit (.ofNat 0)), .int .u64 (.lit (.ofNat 0)), .bool false, .int .i64 (.lit (.ofNat 0)), .int .i64 (.lit (.ofNat 0)), .int .u64 (.lit (.ofNat 0)), .bool false, .int .i64 (.lit (.ofNat 0)), .int .i64 (.lit (.ofNat 0)), .int .u64 (.lit (.ofNat 0)), .bool false, .int .i64 (.lit (.ofNat 0)), .int .i64 (.lit (.ofNat 0)), .int .u64 (.lit (.ofNat 0)), .bool false, .int .i64 (.lit (.ofNat 0)), .int .i64 (.lit (.ofNat 0)), .int .u64 (.lit (.ofNat 0)), .bool false, .int .i64 (.lit (.ofNat 0)), .int .i64 (.lit (.ofNat 0)), .int .u64 (.lit (.ofNat 0)), .bool false, .int .i64 (.lit (.ofNat 0)), .int .i64 (.lit (.ofNat 0)), .int .u64 (.lit (.ofNat 0)), .bool false, .int .i64 (.lit (.ofNat 0)), .int .i64 (.lit (.ofNat 0)), .int .u64 (.lit (.ofNat 0)), .bool false, .int .i64 (.lit (.ofNat 0)), .int .i64 (.lit (.ofNat 0)), .int .u64 (.lit (.ofNat 0)), .bool false, .int .i64 (.lit (.ofNat 0)), .int .i64 (.lit (.ofNat 0)), .int .u64 (.lit (.ofNat 0)), .bool false, .int .i64 (.lit (.ofNat 0)), .int .i64 (.lit (.ofNat 0)), .int .u64 (.lit (.ofNat 0)), .bool false, .int .i64 (.lit (.ofNat 0)), .int .i64 (.lit (.ofNat 0)), .int .u64 (.lit (.ofNat 0)), .bool false, .int .i64 (.lit (.ofNat 0)), .int .i64 (.lit (.ofNat 0)), .int .u64 (.lit (.ofNat 0)), .bool false, .int .i64 (.lit (.ofNat 0)), .int .i64 (.lit (.ofNat 0)), .int .u64 (.lit (.ofNat 0)), .bool false, .int .i64 (.lit (.ofNat 0)), .int .i64 (.lit (.ofNat 0)), .int .u64 (.lit (.ofNat 0)), .bool false, .int .i64 (.lit (.ofNat 0)), .int .i64 (.lit (.ofNat 0)), .int .u64 (.lit (.ofNat 0)), .bool false, .int .i64 (.lit (.ofNat 0)), .int .i64 (.lit (.ofNat 0)), .int .u64 (.lit (.ofNat 0)), .bool false, .int .i64 (.lit (.ofNat 0)), .int .i64 (.lit (.ofNat 0)), .int .u64 (.lit (.ofNat 0)), .bool false, .int .i64 (.lit (.ofNat 0)), .int .i64 (.lit (.ofNat 0)), .int .u64 (.lit (.ofNat 0)), .bool false, .int .i64 (.lit (.ofNat 0)), .int .i64 (.lit (.ofNat 0)), .int .u64 (.lit (.ofNat 0)), .bool false, .int .i64 (.lit (.ofNat 0)), .int .i64 (.lit (.ofNat 0)), .int .u64 (.lit (.ofNat 0)), .bool false, .int .i64 (.lit (.ofNat 0)), .int .i64 (.lit (.ofNat 0)), .int .u64 (.lit (.ofNat 0)), .bool false, .int .i64 (.lit (.ofNat 0)), .int .i64 (.lit (.ofNat 0)), .int .u64 (.lit (.ofNat 0)), .bool false, .int .i64 (.lit (.ofNat 0)), .int .i64 (.lit (.ofNat 0)), .int .u64 (.lit (.ofNat 0)), .bool false, .int .i64 (.lit (.ofNat 0)), .int .i64 (.lit (.ofNat 0)), .int .u64 (.lit (.ofNat 0)), .bool false, .int .i64 (.lit (.ofNat 0)), .int .i64 (.lit (.ofNat 0)), .int .u64 (.lit (.ofNat 0)), .bool false, .int .i64 (.lit (.ofNat 0)), .int .i64 (.lit (.ofNat 0)), .int .u64 (.lit (.ofNat 0)), .bool false, .int .i64 (.lit (.ofNat 0)), .int .i64 (.lit (.ofNat 0)), .int .u64 (.lit (.ofNat 0)), .bool false, .int .i64 (.lit (.ofNat 0)), .int .i64 (.lit (.ofNat 0)), .int .u64 (.lit (.ofNat 0)), .bool false, .int .i64 (.lit (.ofNat 0)), .int .i64 (.lit (.ofNat 0)), .int .u64 (.lit (.ofNat 0)), .bool false, .int .i64 (.lit (.ofNat 0)), .int .i64 (.lit (.ofNat 0)), .int .u64 (.lit (.ofNat 0)), .bool false, .int .i64 (.lit (.ofNat 0)), .int .i64 (.lit (.ofNat 0)), .int .u64 (.lit (.ofNat 0)), .bool false, .int .i64 (.lit (.ofNat 0)), .int .i64 (.lit (.ofNat 0)), .int .u64 (.lit (.ofNat 0)), .bool false, .int .i64 (.lit (.ofNat 0)), .int .i64 (.lit (.ofNat 0)), .int .u64 (.lit (.ofNat 0)), .bool false, .int .i64 (.lit (.ofNat 0)), .int .i64 (.lit (.ofNat 0)), .int .u64 (.lit (.ofNat 0)), .bool false, .int .i64 (.lit (.ofNat 0)), .int .i64 (.lit (.ofNat 0)), .int .u64 (.lit (.ofNat 0)), .bool false, .int .i64 (.lit (.ofNat 0)), .int .i64 (.lit (.ofNat 0)), .int .u64 (.lit (.ofNat 0)), .bool false, .int .i64 (.lit (.ofNat 0)), .int .i64 (.lit (.ofNat 0)), .int .u64 (.lit (.ofNat 0)), .bool false, .int .i64 (.lit (.ofNat 0)), .int .i64 (.lit (.ofNat 0)), .int .u64 (.lit (.ofNat 0)), .bool false, .int .i64 (.lit (.ofNat 0)), .int .i64 (.lit (.ofNat 0)), .int .u64 (.lit (.ofNat 0)), .bool false, .int .i64 (.lit (.ofNat 0)), .int .i64 (.lit (.ofNat 0)), .int .u64 (.lit (.ofNat 0)), .bool false, .int .i64 (.lit (.ofNat 0)), .int .i64 (.lit (.ofNat 0)), .int .u64 (.lit (.ofNat 0)), .bool false, .int .i64 (.lit (.ofNat 0)), .int .i64 (.lit (.ofNat 0)), .int .u64 (.lit (.ofNat 0)), .bool false, .int .i64 (.lit (.ofNat 0)), .int .i64 (.lit (.ofNat 0)), .int .u64 (.lit (.ofNat 0)), .bool false, .int .i64 (.lit (.ofNat 0)), .int .i64 (.lit (.ofNat 0)), .int .u64 (.lit (.ofNat 0)), .bool false, .int .i64 (.lit (.ofNat 0)), .int .i64 (.lit (.ofNat 0)), .int .u64 (.lit (.ofNat 0)), .bool false, .int .i64 (.lit (.ofNat 0)), .int .i64 (.lit (.ofNat 0)), .int .u64 (.lit (.ofNat 0)), .bool false, .int .i64 (.lit (.ofNat 0)), .int .i64 (.lit (.ofNat 0)), .int .u64 (.lit (.ofNat 0)), .bool false, .int .i64 (.lit (.ofNat 0)), .int .i64 (.lit (.ofNat 0)), .int .u64 (.lit (.ofNat 0)), .bool false, .int .i64 (.lit (.ofNat 0)), .int .i64 (.lit (.ofNat 0)), .int .u64 (.lit (.ofNat 0)), .bool false, .int .i64 (.lit (.ofNat 0)), .int .i64 (.lit (.ofNat 0)), .int .u64 (.lit (.ofNat 0)), .bool false, .int .i64 (.lit (.ofNat 0)), .int .i64 (.lit (.ofNat 0)), .int .u64 (.lit (.ofNat 0)), .bool false, .int .i64 (.lit (.ofNat 0)), .int .i64 (.lit (.ofNat 0)), .int .u64 (.lit (.ofNat 0)), .bool false, .int .i64 (.lit (.ofNat 0)), .int .i64 (.lit (.ofNat 0)), .int .u64 (.lit (.ofNat 0)), .bool false, .int .i64 (.lit (.ofNat 0)), .int .i64 (.lit (.ofNat 0)), .int .u64 (.lit (.ofNat 0)), .bool false, .int .i64 (.lit (.ofNat 0)), .int .i64 (.lit (.ofNat 0)), .int .u64 (.lit (.ofNat 0)), .bool false, .int .i64 (.lit (.ofNat 0)), .int .i64 (.lit (.ofNat 0)), .int .u64 (.lit (.ofNat 0)), .bool false, .int .i64 (.lit (.ofNat 0)), .int .i64 (.lit (.ofNat 0)), .int .u64 (.lit (.ofNat 0)), .bool false, .int .i64 (.lit (.ofNat 0)), .int .i64 (.lit (.ofNat 0)), .int .u64 (.lit (.ofNat 0)), .bool false, .int .i64 (.lit (.ofNat 0)), .int .i64 (.lit (.ofNat 0)), .int .u64 (.lit (.ofNat 0)), .bool false, .int .i64 (.lit (.ofNat 0)), .int .i64 (.lit (.ofNat 0)), .int .u64 (.lit (.ofNat 0)), .bool false, .int .i64 (.lit (.ofNat 0)), .int .i64 (.lit (.ofNat 0)), .int .u64 (.lit (.ofNat 0)), .bool false, .int .i64 (.lit (.ofNat 0)), .int .i64 (.lit (.ofNat 0)), .int .u64 (.lit (.ofNat 0)), .bool false, .int .i64 (.lit (.ofNat 0)), .int .i64 (.lit (.ofNat 0)), .int .u64 (.lit (.ofNat 0)), .bool false, .int .i64 (.lit (.ofNat 0)), .int .i64 (.lit (.ofNat 0)), .int .u64 (.lit (.ofNat 0)), .bool false, .int .i64 (.lit (.ofNat 0)), .int .i64 (.lit (.ofNat 0)), .int .u64 (.lit (.ofNat 0)), .bool false, .int .i64 (.lit (.ofNat 0)), .int .i64 (.lit (.ofNat 0)), .int .u64 (.lit (.ofNat 0)), .bool false, .int .i64 (.lit (.ofNat 0)), .int .i64 (.lit (.ofNat 0)), .int .u64 (.lit (.ofNat 0)), .bool false, .int .i64 (.lit (.ofNat 0)), .int .i64 (.lit (.ofNat 0)), .int .u64 (.lit (.ofNat 0)), .bool false, .int .i64 (.lit (.ofNat 0)), .int .i64 (.lit (.ofNat 0)), .int .u64 (.lit (.ofNat 0)), .bool false, .int .i64 (.lit (.ofNat 0)), .int .i64 (.lit (.ofNat 0)), .int .u64 (.lit (.ofNat 0)), .bool false, .int .i64 (.lit (.ofNat 0)), .int .i64 (.lit (.ofNat 0)), .int .u64 (.lit (.ofNat 0)), .bool false, .int .i64 (.lit (.ofNat 0)), .int .i64 (.lit (.ofNat 0)), .int .u64 (.lit (.ofNat 0)), .bool false, .int .i64 (.lit (.ofNat 0)), .int .i64 (.lit (.ofNat 0)), .int .u64 (.lit (.ofNat 0)), .bool false, .int .i64 (.lit (.ofNat 0)), .int .i64 (.lit (.ofNat 0)), .int .u64 (.lit (.ofNat 0)), .bool false, .int .i64 (.lit (.ofNat 0)), .int .i64 (.lit (.ofNat 0)), .int .u64 (.lit (.ofNat 0)), .bool false, .int .i64 (.lit (.ofNat 0)), .int .i64 (.lit (.ofNat 0)), .int .u64 (.lit (.ofNat 0)), .bool false, .int .i64 (.lit (.ofNat 0)), .int .i64 (.lit (.ofNat 0)), .int .u64 (.lit (.ofNat 0)), .bool false, .int .i64 (.lit (.ofNat 0)), .int .i64 (.lit (.ofNat 0)), .int .u64 (.lit (.ofNat 0)), .bool false, .int .i64 (.lit (.ofNat 0)), .int .i64 (.lit (.ofNat 0)), .int .u64 (.lit (.ofNat 0)), .bool false, .int .i64 (.lit (.ofNat 0)), .int .i64 (.lit (.ofNat 0)), .int .u64 (.lit (.ofNat 0)), .bool false, .int .i64 (.lit (.ofNat 0)), .int .i64 (.lit (.ofNat 0)), .int .u64 (.lit (.ofNat 0)), .bool false, .int .i64 (.lit (.ofNat 0)), .int .i64 (.lit (.ofNat 0)), .int .u64 (.lit (.ofNat 0)), .bool false, .int .i64 (.lit (.ofNat 0)), .int .i64 (.lit (.ofNat 0)), .int .u64 (.lit (.ofNat 0)), .bool false, .int .i64 (.lit (.ofNat 0)), .int .i64 (.lit (.ofNat 0)), .int .u64 (.lit (.ofNat 0)), .bool false, .int .i64 (.lit (.ofNat 0)), .int .i64 (.lit (.ofNat 0)), .int .u64 (.lit (.ofNat 0)), .bool false, .int .i64 (.lit (.ofNat 0)), .int .i64 (.lit (.ofNat 0)), .int .u64 (.lit (.ofNat 0)), .bool false, .int .i64 (.lit (.ofNat 0)), .int .i64 (.lit (.ofNat 0)), .int .u64 (.lit (.ofNat 0)), .bool false, .int .i64 (.lit (.ofNat 0)), .int .i64 (.lit (.ofNat 0)), .int .u64 (.lit (.ofNat 0)), .bool false, .int .i64 (.lit (.ofNat 0)), .int .i64 (.lit (.ofNat 0)), .int .u64 (.lit (.ofNat 0)), .bool false, .int .i64 (.lit (.ofNat 0)), .int .i64 (.lit (.ofNat 0)), .int .u64 (.lit (.ofNat 0)), .bool false, .int .i64 (.lit (.ofNat 0)), .int .i64 (.lit (.ofNat 0)), .int .u64 (.lit (.ofNat 0)), .bool false, .int .i64 (.lit (.ofNat 0)), .int .i64 (.lit (.ofNat 0)), .int .u64 (.lit (.ofNat 0)), .bool false, .int .i64 (.lit (.ofNat 0)), .int .i64 (.lit (.ofNat 0)), .int .u64 (.lit (.ofNat 0)), .bool false, .int .i64 (.lit (.ofNat 0)), .int .i64 (.lit (.ofNat 0)), .int .u64 (.lit (.ofNat 0)), .bool false, .int .i64 (.lit (.ofNat 0)), .int .i64 (.lit (.ofNat 0)), .int .u64 (.lit (.ofNat 0)), .bool false, .int .i64 (.lit (.ofNat 0)), .int .i64 (.lit (.ofNat 0)), .int .u64 (.lit (.ofNat 0)), .bool false, .int .i64 (.lit (.ofNat 0)), .int .i64 (.lit (.ofNat 0)), .int .u64 (.lit (.ofNat 0)), .bool false, .int .i64 (.lit (.ofNat 0)), .int .i64 (.lit (.ofNat 0)), .int .u64 (.lit (.ofNat 0)), .bool false, .int .i64 (.lit (.ofNat 0)), .int .i64 (.lit (.ofNat 0)), .int .u64 (.lit (.ofNat 0)), .bool false, .int .i64 (.lit (.ofNat 0)), .int .i64 (.lit (.ofNat 0)), .int .u64 (.lit (.ofNat 0)), .bool false, .int .i64 (.lit (.ofNat 0)), .int .i64 (.lit (.ofNat 0)), .int .u64 (.lit (.ofNat 0)), .bool false, .int .i64 (.lit (.ofNat 0)), .int .i64 (.lit (.ofNat 0)), .int .u64 (.lit (.ofNat 0)), .bool false, .int .i64 (.lit (.ofNat 0)), .int .i64 (.lit (.ofNat 0)), .int .u64 (.lit (.ofNat 0)), .bool false, .int .i64 (.lit (.ofNat 0)), .int .i64 (.lit (.ofNat 0)), .int .u64 (.lit (.ofNat 0)), .bool false, .int .i64 (.lit (.ofNat 0)), .int .i64 (.lit (.ofNat 0)), .int .u64 (.lit (.ofNat 0)), .bool false, .int .i64 (.lit (.ofNat 0)), .int .i64 (.lit (.ofNat 0)), .int .u64 (.lit (.ofNat 0)), .bool false, .int .i64 (.lit (.ofNat 0)), .int .i64 (.lit (.ofNat 0)), .int .u64 (.lit (.ofNat 0)), .bool false, .int .i64 (.lit (.ofNat 0)), .int .i64 (.lit (.ofNat 0)), .int .u64 (.lit (.ofNat 0)), .bool false, .int .i64 (.lit (.ofNat 0)), .int .i64 (.lit (.ofNat 0)), .int .u64 (.lit (.ofNat 0)), .bool false, .int .i64 (.lit (.ofNat 0)), .int .i64 (.lit (.ofNat 0)), .int .u64 (.lit (.ofNat 0)), .bool false, .int .i64 (.lit (.ofNat 0)), .int .i64 (.lit (.ofNat 0)), .int .u64 (.lit (.ofNat 0)), .bool false, .int .i64 (.lit (.ofNat 0)), .int .i64 (.lit (.ofNat 0)), .int .u64 (.lit (.ofNat 0)), .bool false, .int .i64 (.lit (.ofNat 0)), .int .i64 (.lit (.ofNat 0)), .int .u64 (.lit (.ofNat 0)), .bool false, .int .i64 (.lit (.ofNat 0)), .int .i64 (.lit (.ofNat 0)), .int .u64 (.lit (.ofNat 0)), .bool false, .int .i64 (.lit (.ofNat 0)), .int .i64 (.lit (.ofNat 0)), .int .u64 (.lit (.ofNat 0)), .bool false, .int .i64 (.lit (.ofNat 0)), .int .i64 (.lit (.ofNat 0)), .int .u64 (.lit (.ofNat 0)), .bool false, .int .i64 (.lit (.ofNat 0)), .int .i64 (.lit (.ofNat 0)), .int .u64 (.lit (.ofNat 0)), .bool false, .int .i64 (.lit (.ofNat 0)), .int .i64 (.lit (.ofNat 0)), .int .u64 (.lit (.ofNat 0)), .bool false, .int .i64 (.lit (.ofNat 0)), .int .i64 (.lit (.ofNat 0)), .int .u64 (.lit (.ofNat 0)), .bool false, .int .i64 (.lit (.ofNat 0)), .int .i64 (.lit (.ofNat 0)), .int .u64 (.lit (.ofNat 0)), .bool false, .int .i64 (.lit (.ofNat 0)), .int .i64 (.lit (.ofNat 0)), .int .u64 (.lit (.ofNat 0))] [(0, 1, g62), (1, 26, g63), (27, 37, g64), (64, 25, g65), (89, 1, g66)]),
oBox w68 126 g67,
oP w14 (pMv g68)]) (.seq (.seq (.reg [
oP w69 (pMv (gC (.w (.s (.int .i64 (.lit (.ofNat 0)))))))]) (.block 0 (.loop (.seq (.reg [
oK w70 (bCmp 2 lLt cGe true g69 (gC (.w (.s (.int .i64 (.lit (.ofNat 256)))))))]) (.seq (.cond g70 (.skip) (.exit 0)) (.seq (.block 1 (.seq (.reg [
oP w71 (pMv g69),
oP w15 (pMv g71)]) (.seq (.reg [
oP w73 (pMv g0),
oP w74 (pMv g15),
oCall w75 36 [g73, g74],
oP w72 (pMv g75),
oP w76 (pExt g72 0),
oP w77 (pExt g72 1),
oP w78 (pExt g72 2),
oP w16 (pMv g76),
oP w17 (pMv g77),
oP w18 (pMv g78)]) (.draw [
⟨0, ⟨(some 79), .p (.mv (.t 14)), none⟩, 0, 0⟩,
⟨1, ⟨(some 80), .p (.mv (.t 15)), none⟩, 0, 0⟩,
⟨2, ⟨(some 81), .p (.mv (.t 18)), none⟩, 0, 0⟩,
⟨3, ⟨(some 82), .p (.mv (.t 16)), none⟩, 0, 0⟩,
⟨4, ⟨(some 83), .p (.mv (.t 17)), none⟩, 0, 0⟩,
⟨5, ⟨(some 84), .r (.load (some 26) (.t 12)), none⟩, 0, 0⟩,
⟨6, ⟨(some 85), .p (.mv (.t 15)), none⟩, 0, 0⟩,
⟨9, ⟨(some 88), .p (.nilCheck (.t 79)), none⟩, 1, 0⟩,
⟨10, ⟨(some 89), .p (.faddr 91 (.t 88)), none⟩, 513, 0⟩,
⟨7, ⟨(some 86), .b (.call 47 [(.t 84), (.t 85)]), none⟩, 96, 0⟩,
⟨8, ⟨(some 87), .p (.build [.bool false, .int .i64 (.lit (.ofNat 0)), .int .i64 (.lit (.ofNat 0)), .int .u64 (.lit (.ofNat 0))] [(0, 1, (.t 81)), (1, 1, (.t 82)), (2, 1, (.t 83)), (3, 1, (.t 86))]), none⟩, 252, 0⟩,
⟨11, ⟨(some 90), .p (.iaddrA 256 4 (.t 89) (.t 80)), none⟩, 2047, 0⟩,
⟨12, ⟨none, .b (.store 4 (.t 90) (.t 87)), none⟩, 4095, 0⟩])))) (.reg [
oP w91 (pAr 0 g69 (gC (.w (.s (.int .i64 (.lit (.ofNat 1))))))),
oP w69 (pMv g91)]))))))) (.seq (.reg [
oP w92 (pFaddr 1 g9),
oR w93 (rLoad (some 20) g92),
oP w94 (pFaddr 21 g9),
oR w95 (rLoad (some 20) g94),
oP w96 (pFaddr 21 g9),
oR w97 (rLoad (some 20) g96),
oP w98 (pFaddr 41 g9),
oR w99 (rLoad (some 4) g98),
oP w100 (pFaddr 45 g9),
oR w101 (rLoad none g100),
oP w102 (pFaddr 46 g9),
oR w103 (rLoad none g102),
oP w104 (pFaddr 47 g9),
oR w105 (rLoad none g104),
oP w106 (pFaddr 48 g9),
oR w107 (rLoad none g106),
oP w108 (pBuild [.int .u8 (.lit (.ofNat 0)), .int .u8 (.lit (.ofNat 0)), .int .u8 (.lit (.ofNat 0)), .int .u8 (.lit (.ofNat 0)), .int .u8 (.lit (.ofNat 0)), .int .u8 (.lit (.ofNat 0)), .int .u8 (.lit (.ofNat 0)), .int .u8 (.lit (.ofNat 0)), .int .u8 (.lit (.ofNat 0)), .int .u8 (.lit (.ofNat 0)), .int .u8 (.lit (.ofNat 0)), .int .u8 (.lit (.ofNat 0)), .int .u8 (.lit (.ofNat 0)), .int .u8 (.lit (.ofNat 0)), .int .u8 (.lit (.ofNat 0)), .int .u8 (.lit (.ofNat 0)), .int .u8 (.lit (.ofNat 0)), .int .u8 (.lit (.ofNat 0)), .int .u8 (.lit (.ofNat 0)), .int .u8 (.lit (.ofNat 0)), .int .u8 (.lit (.ofNat 0)), .int .u8 (.lit (.ofNat 0)), .int .u8 (.lit (.ofNat 0)), .int .u8 (.lit (.ofNat 0)), .int .u8 (.lit (.ofNat 0)), .int .u8 (.lit (.ofNat 0)), .int .u8 (.lit (.ofNat 0)), .int .u8 (.lit (.ofNat 0)), .int .u8 (.lit (.ofNat 0)), .int .u8 (.lit (.ofNat 0)), .int .u8 (.lit (.ofNat 0)), .int .u8 (.lit (.ofNat 0)), .int .u8 (.lit (.ofNat 0)), .int .u8 (.lit (.ofNat 0)), .int .u8 (.lit (.ofNat 0)), .int .u8 (.lit (.ofNat 0)), .int .u8 (.lit (.ofNat 0)), .int .u8 (.lit (.ofNat 0)), .int .u8 (.lit (.ofNat 0)), .int .u8 (.lit (.ofNat 0)), .int .u8 (.lit (.ofNat 0)), .int .u8 (.lit (.ofNat 0)), .int .u8 (.lit (.ofNat 0)), .int .u8 (.lit (.ofNat 0)), .int .u8 (.lit (.ofNat 0)), .int .u8 (.lit (.ofNat 0)), .int .u8 (.lit (.ofNat 0)), .int .u8 (.lit (.ofNat 0)), .int .u8 (.lit (.ofNat 0)), .int .u8 (.lit (.ofNat 0)), .int .u8 (.lit (.ofNat 0)), .int .u8 (.lit (.ofNat 0)), .int .u8 (.lit (.ofNat 0)), .int .u8 (.lit (.ofNat 0)), .int .u8 (.lit (.ofNat 0)), .int .u8 (.lit (.ofNat 0)), .int .u8 (.lit (.ofNat 0)), .int .u8 (.lit (.ofNat 0)), .int .u8 (.lit (.ofNat 0)), .int .u8 (.lit (.ofNat 0)), .int .u64 (.lit (.ofNat 0)), .int .u64 (.lit (.ofNat 0)), .int .u64 (.lit (.ofNat 0)), .int .u64 (.lit (.ofNat 0)), .nils, .int .u64 (.lit (.ofNat 0)), .bool false, .int .i64 (.lit (.ofNat 0))] [(0, 20, g93), (20, 20, g95), (40, 20, g97), (60, 4, g99), (64, 1, g101), (65, 1, g103), (66, 1, g105), (67, 1, g107)]),
oAlloc w19 129 [.int .u8 (.lit (.ofNat 0)), .int .u8 (.lit (.ofNat 0)), .int .u8 (.lit (.ofNat 0)), .int .u8 (.lit (.ofNat 0)), .int .u8 (.lit (.ofNat 0)), .int .u8 (.lit (.ofNat 0)), .int .u8 (.lit (.ofNat 0)), .int .u8 (.lit (.ofNat 0)), .int .u8 (.lit (.ofNat 0)), .int .u8 (.lit (.ofNat 0)), .int .u8 (.lit (.ofNat 0)), .int .u8 (.lit (.ofNat 0)), .int .u8 (.lit (.ofNat 0)), .int .u8 (.lit (.ofNat 0)), .int .u8 (.lit (.ofNat 0)), .int .u8 (.lit (.ofNat 0)), .int .u8 (.lit (.ofNat 0)), .int .u8 (.lit (.ofNat 0)), .int .u8 (.lit (.ofNat 0)), .int .u8 (.lit (.ofNat 0)), .int .u8 (.lit (.ofNat 0)), .int .u8 (.lit (.ofNat 0)), .int .u8 (.lit (.ofNat 0)), .int .u8 (.lit (.ofNat 0)), .int .u8 (.lit (.ofNat 0)), .int .u8 (.lit (.ofNat 0)), .int .u8 (.lit (.ofNat 0)), .int .u8 (.lit (.ofNat 0)), .int .u8 (.lit (.ofNat 0)), .int .u8 (.lit (.ofNat 0)), .int .u8 (.lit (.ofNat 0)), .int .u8 (.lit (.ofNat 0)), .int .u8 (.lit (.ofNat 0)), .int .u8 (.lit (.ofNat 0)), .int .u8 (.lit (.ofNat 0)), .int .u8 (.lit (.ofNat 0)), .int .u8 (.lit (.ofNat 0)), .int .u8 (.lit (.ofNat 0)), .int .u8 (.lit (.ofNat 0)), .int .u8 (.lit (.ofNat 0)), .int .u8 (.lit (.ofNat 0)), .int .u8 (.lit (.ofNat 0)), .int .u8 (.lit (.ofNat 0)), .int .u8 (.lit (.ofNat 0)), .int .u8 (.lit (.ofNat 0)), .int .u8 (.lit (.ofNat 0)), .int .u8 (.lit (.ofNat 0)), .int .u8 (.lit (.ofNat 0)), .int .u8 (.lit (.ofNat 0)), .int .u8 (.lit (.ofNat 0)), .int .u8 (.lit (.ofNat 0)), .int .u8 (.lit (.ofNat 0)), .int .u8 (.lit (.ofNat 0)), .int .u8 (.lit (.ofNat 0)), .int .u8 (.lit (.ofNat 0)), .int .u8 (.lit (.ofNat 0)), .int .u8 (.lit (.ofNat 0)), .int .u8 (.lit (.ofNat 0)), .int .u8 (.lit (.ofNat 0)), .int .u8 (.lit (.ofNat 0)), .int .u64 (.lit (.ofNat 0)), .int .u64 (.lit (.ofNat 0)), .int .u64 (.lit (.ofNat 0)), .int .u64 (.lit (.ofNat 0)), .nils, .int .u64 (.lit (.ofNat 0)), .bool false, .int .i64 (.lit (.ofNat 0))],
oK wZ (bSt 68 g19 g108)]) (.seq (.reg [
oAlloc w20 131 [.int .i64 (.lit (.ofNat 0)), .nils, .int .u64 (.lit (.ofNat 0)), .int .u8 (.lit (.ofNat 0)), .int .u8 (.lit (.ofNat 0)), .int .u8 (.lit (.ofNat 0)), .int .u8 (.lit (.ofNat 0)), .int .u8 (.lit (.ofNat 0)), .int .u8 (.lit (.ofNat 0)), .int .u8 (.lit (.ofNat 0)), .int .u8 (.lit (.ofNat 0)), .int .u8 (.lit (.ofNat 0)), .int .u8 (.lit (.ofNat 0)), .int .u8 (.lit (.ofNat 0)), .int .u8 (.lit (.ofNat 0)), .int .u8 (.lit (.ofNat 0)), .int .u8 (.lit (.ofNat 0)), .int .u8 (.lit (.ofNat 0)), .int .u8 (.lit (.ofNat 0)), .int .u8 (.lit (.ofNat 0)), .int .u8 (.lit (.ofNat 0)), .int .u8 (.lit (.ofNat 0)), .int .u8 (.lit (.ofNat 0))]]) (.seq (.seq (.reg [
oP w109 (pFaddr 0 g9),
oR w110 (rLoad none g109)]) (.cond g110 (.reg [
oP w111 (pMv g14),
oR w112 (rLoad (some 68) g19),
oP w113 (pGen fun _ t => opMkfn t 49 [(.t 9)]),
oCall w114 48 [g111, g112, g113],
oK wZ (bSt 23 g20 g114)]) (.reg [
oP w115 (pMv g14),
oR w116 (rLoad (some 68) g19),
oCall w117 51 [g115, g116],
oK wZ (bSt 23 g20 g117)]))) (.seq (.draw [
⟨0, ⟨(some 118), .p (.faddr 0 (.t 20)), none⟩, 0, 0⟩,
⟨1, ⟨(some 119), .r (.load none (.t 118)), none⟩, 1, 0⟩,
⟨2, ⟨(some 120), .p (.faddr 1 (.t 20)), none⟩, 0, 0⟩,
⟨3, ⟨(some 121), .r (.load none (.t 120)), none⟩, 4, 0⟩,
⟨5, ⟨(some 123), .p (.faddr 2 (.t 20)), none⟩, 0, 0⟩,
⟨6, ⟨(some 124), .r (.load none (.t 123)), none⟩, 32, 0⟩,
⟨7, ⟨(some 125), .p (.faddr 3 (.t 20)), none⟩, 0, 0⟩,
⟨8, ⟨(some 126), .r (.load (some 20) (.t 125)), none⟩, 128, 0⟩,
⟨9, ⟨(some 127), .p (.mv (.t 14)), none⟩, 0, 0⟩,
⟨10, ⟨(some 128), .p (.nilCheck (.t 127)), none⟩, 512, 0⟩,
⟨11, ⟨(some 129), .p (.faddr 90 (.t 128)), none⟩, 1536, 0⟩,
⟨12, ⟨(some 130), .r (.load none (.t 129)), none⟩, 3584, 0⟩,
⟨4, ⟨(some 122), .b (.append 5 1 1 (.c (.w (.s (.nils)))) (.t 121)), none⟩, 12, 0⟩,
⟨13, ⟨(some 131), .p (.build [.int .i64 (.lit (.ofNat 0)), .nils, .int .u64 (.lit (.ofNat 0)), .int .u8 (.lit (.ofNat 0)), .int .u8 (.lit (.ofNat 0)), .int .u8 (.lit (.ofNat 0)), .int .u8 (.lit (.ofNat 0)), .int .u8 (.lit (.ofNat 0)), .int .u8 (.lit (.ofNat 0)), .int .u8 (.lit (.ofNat 0)), .int .u8 (.lit (.ofNat 0)), .int .u8 (.lit (.ofNat 0)), .int .u8 (.lit (.ofNat 0)), .int .u8 (.lit (.ofNat 0)), .int .u8 (.lit (.ofNat 0)), .int .u8 (.lit (.ofNat 0)), .int .u8 (.lit (.ofNat 0)), .int .u8 (.lit (.ofNat 0)), .int .u8 (.lit (.ofNat 0)), .int .u8 (.lit (.ofNat 0)), .int .u8 (.lit (.ofNat 0)), .int .u8 (.lit (.ofNat 0)), .int .u8 (.lit (.ofNat 0)), .int .u64 (.lit (.ofNat 0))] [(0, 1, (.t 119)), (1, 1, (.t 122)), (2, 1, (.t 124)), (3, 20, (.t 126)), (23, 1, (.t 130))]), none⟩, 8191, 0⟩,
⟨14, ⟨none, .b (.store 24 (.t 10) (.t 131)), none⟩, 16383, 0⟩,
⟨15, ⟨(some 11), .p (.mv (.c (.w (.s (.int .i64 (.lit (.ofNat 0))))))), none⟩, 32767, 0⟩]) (.ret)))))))))⟩
theorem fp28 : ∃ fn, fb28 = denF fn ∧ ∃ func code hint, FnOk Go.Proofs.Tryz.prog TT 28 fn func code hint := f2_mk (func := Go.Proofs.Tryz.f28) (code := bodyOf Go.Proofs.Tryz.f28) (hint := hintL [(9, [(0, 0), (1, 0), (2, 0), (3, 0), (4, 0), (5, 0), (6, 0), (9, 0), (10, 0), (7, 0), (8, 0), (11, 0), (12, 0)]), (16, [(0, 0), (1, 0), (2, 0), (3, 0), (5, 0), (6, 0), (7, 0), (8, 0), (9, 0), (10, 0), (11, 0), (12, 0), (4, 0), (13, 0), (14, 0), (15, 0)])]) (n := 132) (res := [.cell 10 (some 24), .tmp 11]) Go.Proofs.Tryz.func28 Go.Proofs.Tryz.call28 (by kernel_rfl) (by kernel_rfl) (by kernel_rfl) (by kernel_rfl) (by kernel_rfl)
/- (*quarry/state.State).Slot -/
def fb31 : AFunc2 := ⟨15, [.cell (rLoad (some 4) g6)], .seq (.reg [
oBox w4 30 g1,
oBox w5 24 g2,
oAlloc w6 24 [.int .u64 (.lit (.ofNat 0)), .int .u64 (.lit (.ofNat 0)), .int .u64 (.lit (.ofNat 0)), .int .u64 (.lit (.ofNat 0))]]) (.seq (.draw [
⟨0, ⟨(some 7), .p (.mv (.t 0)), none⟩, 0, 0⟩,
⟨1, ⟨(some 8), .r (.load (some 20) (.t 4)), none⟩, 0, 0⟩,
⟨6, ⟨(some 13), .r (.load (some 4) (.t 5)), none⟩, 0, 0⟩,
⟨2, ⟨(some 9), .b (.call 39 [(.t 7), (.t 8)]), none⟩, 3, 0⟩,
⟨3, ⟨(some 10), .p (.nilCheck (.t 9)), none⟩, 7, 0⟩,
⟨4, ⟨(some 11), .p (.faddr 6 (.t 10)), none⟩, 15, 0⟩,
⟨5, ⟨(some 12), .r (.load none (.t 11)), none⟩, 31, 0⟩,
⟨7, ⟨(some 14), .r (.lookup (.one (.arr 4 22 .u64)) (.agg [.int .u64 (.lit (.ofNat 0)), .int .u64 (.lit (.ofNat 0)), .int .u64 (.lit (.ofNat 0)), .int .u64 (.lit (.ofNat 0))]) (.t 12) (.t 13) false), none⟩, 127, 0⟩,
⟨8, ⟨none, .b (.store 4 (.t 6) (.t 14)), none⟩, 255, 0⟩]) (.ret))⟩
theorem fp31 : ∃ fn, fb31 = denF fn ∧ ∃ func code hint, FnOk Go.Proofs.Tryz.prog TT 31 fn func code hint := f2_mk (func := Go.Proofs.Tryz.f31) (code := bodyOf Go.Proofs.Tryz.f31) (hint := hintL [(1, [(0, 0), (1, 0), (6, 0), (2, 0), (3, 0), (4, 0), (5, 0), (7, 0), (8, 0)])]) (n := 15) (res := [.cell 6 (some 4)]) Go.Proofs.Tryz.func31 Go.Proofs.Tryz.call31 (by kernel_rfl) (by kernel_rfl) (by kernel_rfl) (by kernel_rfl) (by kernel_rfl)
/- (*quarry/state.State).End -/
def fb32 : AFunc2 := ⟨44, [], .seq (.seq (.reg [
oP w6 (pMv g0),
oP w7 (pGen fun _ t => opNil t (.t 6)),
oP w8 (pFaddr 1 g7),
oP w9 (pFaddr 3 g8),
oR w10 (rLoad none g9),
oK w11 (b1 bRange g10)]) (.block 0 (.loop (.seq (.reg [
oK w12 (b1 bNext g11),
oP w13 (pExt g12 0)]) (.seq (.cond g13 (.skip) (.exit 0)) (.block 1 (.seq (.reg [
oK w14 (b1 bEntry g11),
oP w15 (pExt g14 0),
oAlloc w4 30 zz0,
oK wZ (bSt 20 g4 g15)]) (.draw [
⟨0, ⟨(some 16), .p (.mv (.t 0)), none⟩, 0, 0⟩,
⟨1, ⟨(some 17), .p (.nilCheck (.t 16)), none⟩, 1, 0⟩,
⟨2, ⟨(some 18), .p (.faddr 0 (.t 17)), none⟩, 3, 0⟩,
⟨3, ⟨(some 19), .r (.load none (.t 18)), none⟩, 7, 0⟩,
⟨4, ⟨(some 20), .r (.load (some 20) (.t 4)), none⟩, 0, 0⟩,
⟨5, ⟨none, .b (.del (.one (.arr 20 5 .u8)) (.t 19) (.t 20)), none⟩, 31, 0⟩])))))))) (.seq (.seq (.reg [
oP w21 (pMv g0),
oP w22 (pGen fun _ t => opNil t (.t 21)),
oP w23 (pFaddr 1 g22),
oP w24 (pFaddr 0 g23),
oR w25 (rLoad none g24),
oK w26 (b1 bRange g25)]) (.block 2 (.loop (.seq (.reg [
oK w27 (b1 bNext g26),
oP w28 (pExt g27 0)]) (.seq (.cond g28 (.skip) (.exit 2)) (.block 3 (.seq (.reg [
oK w29 (b1 bEntry g26),
oP w30 (pExt g29 0),
oAlloc w5 30 zz0,
oK wZ (bSt 20 g5 g30)]) (.seq (.reg [
oP w31 (pMv g1),
oP w32 (pMv g31),
oGd g32 true w33 (oP w33 (pMv g0)),
oGd g32 true w34 (oR w34 (rLoad (some 20) g5)),
oGd g32 true w35 (oCall w35 55 [g33, g34]),
oP w36 (pGen fun _ t => opPick t (.t 32) (.t 35) (.c (.w (.s (.bool false)))))]) (.cond g36 (.draw [
⟨0, ⟨(some 37), .p (.mv (.t 0)), none⟩, 0, 0⟩,
⟨1, ⟨(some 38), .p (.nilCheck (.t 37)), none⟩, 1, 0⟩,
⟨2, ⟨(some 39), .p (.faddr 0 (.t 38)), none⟩, 3, 0⟩,
⟨3, ⟨(some 40), .r (.load none (.t 39)), none⟩, 7, 0⟩,
⟨4, ⟨(some 41), .r (.load (some 20) (.t 5)), none⟩, 0, 0⟩,
⟨5, ⟨none, .b (.del (.one (.arr 20 5 .u8)) (.t 40) (.t 41)), none⟩, 31, 0⟩]) (.skip)))))))))) (.reg [
oP w42 (pMv g0),
oCall w43 56 [g42]]))⟩
theorem fp32 : ∃ fn, fb32 = denF fn ∧ ∃ func code hint, FnOk Go.Proofs.Tryz.prog TT 32 fn func code hint := f2_mk (func := Go.Proofs.Tryz.f32) (code := bodyOf Go.Proofs.Tryz.f32) (hint := hintL [(3, [(0, 0), (1, 0), (2, 0), (3, 0), (4, 0), (5, 0)]), (8, [(0, 0), (1, 0), (2, 0), (3, 0), (4, 0), (5, 0)])]) (n := 44) (res := []) Go.Proofs.Tryz.func32 Go.Proofs.Tryz.call32 (by kernel_rfl) (by kernel_rfl) (by kernel_rfl) (by kernel_rfl) (by kernel_rfl)
/- (*quarry/state.State).Exists -/
def fb33 : AFunc2 := ⟨12, [.tmp g4], .seq (.reg [
oBox w3 30 g1,
oP w4 (pMv (gC (.w (.s (.bool false)))))]) (.seq (.draw [
⟨0, ⟨(some 5), .p (.mv (.t 0)), none⟩, 0, 0⟩,
⟨1, ⟨(some 6), .p (.nilCheck (.t 5)), none⟩, 1, 0⟩,
⟨2, ⟨(some 7), .p (.faddr 0 (.t 6)), none⟩, 3, 0⟩,
⟨3, ⟨(some 8), .r (.load none (.t 7)), none⟩, 7, 0⟩,
⟨4, ⟨(some 9), .r (.load (some 20) (.t 3)), none⟩, 0, 0⟩,
⟨5, ⟨(some 10), .r (.lookup (.one (.arr 20 5 .u8)) (.s (.nilp)) (.t 8) (.t 9) false), none⟩, 31, 0⟩,
⟨6, ⟨(some 11), .b (.cmp 1 .ptr (.t 10) (.c (.w (.s (.nilp))))), none⟩, 63, 0⟩,
⟨7, ⟨(some 4), .p (.mv (.t 11)), none⟩, 127, 0⟩]) (.ret))⟩
theorem fp33 : ∃ fn, fb33 = denF fn ∧ ∃ func code hint, FnOk Go.Proofs.Tryz.prog TT 33 fn func code hint := f2_mk (func := Go.Proofs.Tryz.f33) (code := bodyOf Go.Proofs.Tryz.f33) (hint := hintL [(1, [(0, 0), (1, 0), (2, 0), (3, 0), (4, 0), (5, 0), (6, 0), (7, 0)])]) (n := 12) (res := [.tmp 4]) Go.Proofs.Tryz.func33 Go.Proofs.Tryz.call33 (by kernel_rfl) (by kernel_rfl) (by kernel_rfl) (by kernel_rfl) (by kernel_rfl)
/- (*quarry/state.State).Balance -/
def fb34 : AFunc2 := ⟨11, [.cell (rLoad (some 4) g4)], .seq (.reg [
oBox w3 30 g1,
oAlloc w4 24 [.int .u64 (.lit (.ofNat 0)), .int .u64 (.lit (.ofNat 0)), .int .u64 (.lit (.ofNat 0)), .int .u64 (.lit (.ofNat 0))]]) (.seq (.reg [
oP w5 (pMv g0),
oR w6 (rLoad (some 20) g3),
oCall w7 39 [g5, g6],
oP w8 (pGen fun _ t => opNil t (.t 7)),
oP w9 (pFaddr 1 g8),
oR w10 (rLoad (some 4) g9),
oK wZ (bSt 4 g4 g10)]) (.ret))⟩
theorem fp34 : ∃ fn, fb34 = denF fn ∧ ∃ func code hint, FnOk Go.Proofs.Tryz.prog TT 34 fn func code hint := f2_mk (func := Go.Proofs.Tryz.f34) (code := bodyOf Go.Proofs.Tryz.f34) (hint := hintL []) (n := 11) (res := [.cell 4 (some 4)]) Go.Proofs.Tryz.func34 Go.Proofs.Tryz.call34 (by kernel_rfl) (by kernel_rfl) (by kernel_rfl) (by kernel_rfl) (by kernel_rfl)
/- (*quarry/state.State).Code -/
def fb35 : AFunc2 := ⟨12, [.tmp g4], .seq (.reg [
oBox w3 30 g1,
oP w4 (pMv (gC (.w (.s (.nils)))))]) (.seq (.reg [
oP w5 (pMv g0),
oR w6 (rLoad (some 20) g3),
oCall w7 39 [g5, g6],
oP w8 (pGen fun _ t => opNil t (.t 7)),
oP w9 (pFaddr 5 g8),
oR w10 (rLoad none g9),
oCall w11 43 [g10],
oP w4 (pMv g11)]) (.ret))⟩
theorem fp35 : ∃ fn, fb35 = denF fn ∧ ∃ func code hint, FnOk Go.Proofs.Tryz.prog TT 35 fn func code hint := f2_mk (func := Go.Proofs.Tryz.f35) (code := bodyOf Go.Proofs.Tryz.f35) (hint := hintL []) (n := 12) (res := [.tmp 4]) Go.Proofs.Tryz.func35 Go.Proofs.Tryz.call35 (by kernel_rfl) (by kernel_rfl) (by kernel_rfl) (by kernel_rfl) (by kernel_rfl)
/- quarry/code.Pops -/
def fb36 : AFunc2 := ⟨63, [.tmp g4, .tmp g5, .tmp g6], .seq (.reg [
oP w4 (pMv (gC (.w (.s (.int .i64 (.lit (.ofNat 0))))))),
oP w5 (pMv (gC (.w (.s (.int .i64 (.lit (.ofNat 0))))))),
oP w6 (pMv (gC (.w (.s (.bool false)))))]) (.seq (.seq (.reg [
oP w9 (pMv g0),
oP w10 (pMv g1),
oCall w11 57 [g9, g10],
oP w12 (pNot g11)]) (.cond g12 (.seq (.reg [
oP w4 (pMv (gC (.w (.s (.int .i64 (.lit (.ofNat 0))))))),
oP w5 (pMv (gC (.w (.s (.int .i64 (.lit (.ofNat 0))))))),
oP w6 (pMv (gC (.w (.s (.bool false)))))]) (.ret)) (.skip))) (.seq (.block 0 (.seq (.reg [
oP w14 (pMv g1),
oK w15 (bCmp 5 gLe cGe false g14 (gC (.w (.s (.int .i64 (.lit (.ofNat 95))))))),
oP w16 (pMv g15),
oGd g16 true w17 (oP w17 (pMv g1)),
oGd g16 true w18 (oK w18 (bCmp 3 intLe .le false g17 (gC (.w (.s (.int .i64 (.lit (.ofNat 127)))))))),
oP w19 (pGen fun _ t => opPick t (.t 16) (.t 18) (.c (.w (.s (.bool false))))),
oP w13 (pMv g19)]) (.cond g13 (.seq (.reg [
oP w4 (pMv (gC (.w (.s (.int .i64 (.lit (.ofNat 0))))))),
oP w5 (pMv (gC (.w (.s (.int .i64 (.lit (.ofNat 1))))))),
oP w6 (pMv (gC (.w (.s (.bool true)))))]) (.ret)) (.seq (.reg [
oP w21 (pMv g1),
oK w22 (bCmp 5 gLe cGe false g21 (gC (.w (.s (.int .i64 (.lit (.ofNat 128))))))),
oP w23 (pMv g22),
oGd g23 true w24 (oP w24 (pMv g1)),
oGd g23 true w25 (oK w25 (bCmp 2 lLt cGe true g24 (gC (.w (.s (.int .i64 (.lit (.ofNat 144)))))))),
oP w26 (pGen fun _ t => opPick t (.t 23) (.t 25) (.c (.w (.s (.bool false))))),
oP w20 (pMv g26)]) (.cond g20 (.seq (.reg [
oP w27 (pMv g1),
oP w28 (pAr 1 g27 (gC (.w (.s (.int .i64 (.lit (.ofNat 128))))))),
oP w29 (pAr 0 g28 (gC (.w (.s (.int .i64 (.lit (.ofNat 1))))))),
oP w30 (pMv g1),
oP w31 (pAr 1 g30 (gC (.w (.s (.int .i64 (.lit (.ofNat 128))))))),
oP w32 (pAr 0 g31 (gC (.w (.s (.int .i64 (.lit (.ofNat 2))))))),
oP w4 (pMv g29),
oP w5 (pMv g32),
oP w6 (pMv (gC (.w (.s (.bool true)))))]) (.ret)) (.seq (.reg [
oP w34 (pMv g1),
oK w35 (bCmp 5 gLe cGe false g34 (gC (.w (.s (.int .i64 (.lit (.ofNat 144))))))),
oP w36 (pMv g35),
oGd g36 true w37 (oP w37 (pMv g1)),
oGd g36 true w38 (oK w38 (bCmp 2 lLt cGe true g37 (gC (.w (.s (.int .i64 (.lit (.ofNat 160)))))))),
oP w39 (pGen fun _ t => opPick t (.t 36) (.t 38) (.c (.w (.s (.bool false))))),
oP w33 (pMv g39)]) (.cond g33 (.seq (.reg [
oP w40 (pMv g1),
oP w41 (pAr 1 g40 (gC (.w (.s (.int .i64 (.lit (.ofNat 144))))))),
oP w42 (pAr 0 g41 (gC (.w (.s (.int .i64 (.lit (.ofNat 2))))))),
oP w43 (pMv g1),
oP w44 (pAr 1 g43 (gC (.w (.s (.int .i64 (.lit (.ofNat 144))))))),
oP w45 (pAr 0 g44 (gC (.w (.s (.int .i64 (.lit (.ofNat 2))))))),
oP w4 (pMv g42),
oP w5 (pMv g45),
oP w6 (pMv (gC (.w (.s (.bool true)))))]) (.ret)) (.seq (.reg [
oP w47 (pMv g1),
oK w48 (bCmp 5 gLe cGe false g47 (gC (.w (.s (.int .i64 (.lit (.ofNat 160))))))),
oP w49 (pMv g48),
oGd g49 true w50 (oP w50 (pMv g1)),
oGd g49 true w51 (oK w51 (bCmp 3 intLe .le false g50 (gC (.w (.s (.int .i64 (.lit (.ofNat 164)))))))),
oP w52 (pGen fun _ t => opPick t (.t 49) (.t 51) (.c (.w (.s (.bool false))))),
oP w46 (pMv g52)]) (.cond g46 (.seq (.reg [
oP w53 (pMv g1),
oP w54 (pAr 1 g53 (gC (.w (.s (.int .i64 (.lit (.ofNat 160))))))),
oP w55 (pAr 0 g54 (gC (.w (.s (.int .i64 (.lit (.ofNat 2))))))),
oP w4 (pMv g55),
oP w5 (pMv (gC (.w (.s (.int .i64 (.lit (.ofNat 0))))))),
oP w6 (pMv (gC (.w (.s (.bool true)))))]) (.ret)) (.skip)))))))))) (.seq (.reg [
oP w57 (pMv g1),
oCall w58 58 [g57],
oP w56 (pMv g58),
oP w59 (pExt g56 0),
oP w60 (pExt g56 1),
oP w7 (pMv g59),
oP w8 (pMv g60)]) (.seq (.reg [
oP w61 (pMv g7),
oP w62 (pMv g8),
oP w4 (pMv g61),
oP w5 (pMv g62),
oP w6 (pMv (gC (.w (.s (.bool true)))))]) (.ret)))))⟩
theorem fp36 : ∃ fn, fb36 = denF fn ∧ ∃ func code hint, FnOk Go.Proofs.Tryz.prog TT 36 fn func code hint := f2_mk (func := Go.Proofs.Tryz.f36) (code := bodyOf Go.Proofs.Tryz.f36) (hint := hintL []) (n := 63) (res := [.tmp 4, .tmp 5, .tmp 6]) Go.Proofs.Tryz.func36 Go.Proofs.Tryz.call36 (by kernel_rfl) (by kernel_rfl) (by kernel_rfl) (by kernel_rfl) (by kernel_rfl)
/- quarry/quarryref13.from -/
def fb37 : AFunc2 := ⟨28, [.tmp g6], .seq (.reg [
oP w6 (pMv (gC (.w (.s (.int .u64 (.lit (.ofNat 0)))))))]) (.seq (.seq (.reg [
oP w7 (pMv (gC (.w (.s (.int .i64 (.lit (.ofNat 0)))))))]) (.block 0 (.loop (.seq (.seq (.reg [
oP w8 (pMv g7),
oP w9 (pMv g2),
oP w10 (pGen fun _ t => opLen t (.t 9)),
oK w11 (bCmp 2 lLt cGe true g8 g10)]) (.cond g11 (.skip) (.exit 0))) (.seq (.block 1 (.seq (.reg [
oP w14 (pMv g0),
oP w15 (pMv g2),
oP w16 (pMv g7),
oP w17 (pIaddrS 2 g15 g16),
oP w18 (pIaddrA 2 1 g17 (gC (.w (.s (.int .i64 (.lit (.ofNat 0))))))),
oR w19 (rLoad none g18),
oP w20 (pConv .i64 g19),
oK w21 (bCmp 5 gLe cGe false g14 g20)]) (.cond g21 (.reg [
oP w22 (pMv g2),
oP w23 (pMv g7),
oP w24 (pIaddrS 2 g22 g23),
oP w25 (pIaddrA 2 1 g24 (gC (.w (.s (.int .i64 (.lit (.ofNat 1))))))),
oR w26 (rLoad none g25),
oP w1 (pMv g26)]) (.skip)))) (.reg [
oP w12 (pMv g7),
oP w13 (pAr 0 g12 (gC (.w (.s (.int .i64 (.lit (.ofNat 1))))))),
oP w7 (pMv g13)])))))) (.seq (.reg [
oP w27 (pMv g1),
oP w6 (pMv g27)]) (.ret)))⟩
theorem fp37 : ∃ fn, fb37 = denF fn ∧ ∃ func code hint, FnOk Go.Proofs.Tryz.prog TT 37 fn func code hint := f2_mk (func := Go.Proofs.Tryz.f37) (code := bodyOf Go.Proofs.Tryz.f37) (hint := hintL []) (n := 28) (res := [.tmp 6]) Go.Proofs.Tryz.func37 Go.Proofs.Tryz.call37 (by kernel_rfl) (by kernel_rfl) (by kernel_rfl) (by kernel_rfl) (by kernel_rfl)
/- quarry/word.Small -/
def fb38 : AFunc2 := ⟨15, [.tmp g2, .tmp g3], .seq (.reg [
oBox w1 24 g0,
oP w2 (pMv (gC (.w (.s (.int .u64 (.lit (.ofNat 0))))))),
oP w3 (pMv (gC (.w (.s (.bool false)))))]) (.seq (.seq (.reg [
oP w4 (pIaddrA 4 1 g1 (gC (.w (.s (.int .i64 (.lit (.ofNat 1))))))),
oR w5 (rLoad none g4),
oP w6 (pIaddrA 4 1 g1 (gC (.w (.s (.int .i64 (.lit (.ofNat 2))))))),
oR w7 (rLoad none g6),
oP w8 (pBt 1 g5 g7),
oP w9 (pIaddrA 4 1 g1 (gC (.w (.s (.int .i64 (.lit (.ofNat 3))))))),
oR w10 (rLoad none g9),
oP w11 (pBt 1 g8 g10),
oK w12 (bCmp 1 nEq .eq true g11 (gC (.w (.s (.int .u64 (.lit (.ofNat 0)))))))]) (.cond g12 (.seq (.reg [
oP w2 (pMv (gC (.w (.s (.int .u64 (.lit (.ofNat 0))))))),
oP w3 (pMv (gC (.w (.s (.bool false)))))]) (.ret)) (.skip))) (.seq (.reg [
oP w13 (pIaddrA 4 1 g1 (gC (.w (.s (.int .i64 (.lit (.ofNat 0))))))),
oR w14 (rLoad none g13),
oP w2 (pMv g14),
oP w3 (pMv (gC (.w (.s (.bool true)))))]) (.ret)))⟩
theorem fp38 : ∃ fn, fb38 = denF fn ∧ ∃ func code hint, FnOk Go.Proofs.Tryz.prog TT 38 fn func code hint := f2_mk (func := Go.Proofs.Tryz.f38) (code := bodyOf Go.Proofs.Tryz.f38) (hint := hintL []) (n := 15) (res := [.tmp 2, .tmp 3]) Go.Proofs.Tryz.func38 Go.Proofs.Tryz.call38 (by kernel_rfl) (by kernel_rfl) (by kernel_rfl) (by kernel_rfl) (by kernel_rfl)
end
end Go.Sy
