/- Functions. -/
import Derived.Test.YtnfoaablgldjcaaGreatGSl
set_option linter.unusedVariables false
set_option maxRecDepth 100000
set_option maxHeartbeats 0
namespace Go.Sy
noncomputable section
/- (*quarry/state.State).at -/
def fb39 : AFunc2 := ⟨17, [.tmp g4], .seq (.reg [
oBox w3 30 g1,
oP w4 (pMv (gC (.w (.s (.nilp)))))]) (.seq (.seq (.draw [
⟨0, ⟨(some 6), .p (.mv (.t 0)), none⟩, 0, 0⟩,
⟨1, ⟨(some 7), .p (.nilCheck (.t 6)), none⟩, 1, 0⟩,
⟨2, ⟨(some 8), .p (.faddr 0 (.t 7)), none⟩, 3, 0⟩,
⟨3, ⟨(some 9), .r (.load none (.t 8)), none⟩, 7, 0⟩,
⟨4, ⟨(some 10), .r (.load (some 20) (.t 3)), none⟩, 0, 0⟩,
⟨5, ⟨(some 11), .r (.lookup (.one (.arr 20 5 .u8)) (.s (.nilp)) (.t 9) (.t 10) false), none⟩, 31, 0⟩,
⟨6, ⟨(some 5), .p (.mv (.t 11)), none⟩, 63, 0⟩]) (.seq (.reg [
oP w12 (pMv g5),
oK w13 (b2 (fun x y s K => cmpA 1 .ptr x y s fun b s => K (vBool b) s) g12 (gC (.w (.s (.nilp)))))]) (.cond g13 (.seq (.reg [
oP w14 (pMv g5),
oP w4 (pMv g14)]) (.ret)) (.skip)))) (.seq (.reg [
oP w15 (pBuild [.int .u64 (.lit (.ofNat 0)), .int .u64 (.lit (.ofNat 0)), .int .u64 (.lit (.ofNat 0)), .int .u64 (.lit (.ofNat 0)), .int .u64 (.lit (.ofNat 0)), .nils, .nilm] []),
oBox w16 97 g15,
oP w4 (pMv g16)]) (.ret)))⟩
theorem fp39 : ∃ fn, fb39 = denF fn ∧ ∃ func code hint, FnOk Go.Proofs.Tryz.prog TT 39 fn func code hint := f2_mk (func := Go.Proofs.Tryz.f39) (code := bodyOf Go.Proofs.Tryz.f39) (hint := hintL [(1, [(0, 0), (1, 0), (2, 0), (3, 0), (4, 0), (5, 0), (6, 0)])]) (n := 17) (res := [.tmp 4]) Go.Proofs.Tryz.func39 Go.Proofs.Tryz.call39 (by kernel_rfl) (by kernel_rfl) (by kernel_rfl) (by kernel_rfl) (by kernel_rfl)
/- (quarry/state.set[quarry/api.Address]).has -/
def fb41 : AFunc2 := ⟨14, [.tmp g4], .seq (.reg [
oBox w3 30 g1,
oP w4 (pMv (gC (.w (.s (.bool false)))))]) (.seq (.reg [
oP w8 (pMv g0),
oR w9 (rLoad (some 20) g3),
oR w10 (rGen fun t s => match s with | .mk _ _ φ => opLook φ t s (.one (.arr 20 5 .u8)) (.agg []) (.t 8) (.t 9) true),
oP w7 (pMv g10),
oP w11 (pExt g7 0),
oP w12 (pExt g7 1),
oAlloc w5 146 [],
oK wZ (bSt 0 g5 g11),
oP w6 (pMv g12)]) (.seq (.reg [
oP w13 (pMv g6),
oP w4 (pMv g13)]) (.ret)))⟩
theorem fp41 : ∃ fn, fb41 = denF fn ∧ ∃ func code hint, FnOk Go.Proofs.Tryz.prog TT 41 fn func code hint := f2_mk (func := Go.Proofs.Tryz.f41) (code := bodyOf Go.Proofs.Tryz.f41) (hint := hintL []) (n := 14) (res := [.tmp 4]) Go.Proofs.Tryz.func41 Go.Proofs.Tryz.call41 (by kernel_rfl) (by kernel_rfl) (by kernel_rfl) (by kernel_rfl) (by kernel_rfl)
/- quarry/state.New -/
def fb42 : AFunc2 := ⟨8, [.tmp g0], .seq (.reg [
oP w0 (pMv (gC (.w (.s (.nilp)))))]) (.seq (.reg [
oM w2 (.mkmap),
oP w3 (pBuild [.nilm, .nilm, .nilm, .nilm, .nilm, .nilm, .nilm, .nilm, .int .u64 (.lit (.ofNat 0)), .nils, .nils, .nils, .int .i64 (.lit (.ofNat 0))] [(0, 1, g2)]),
oBox w4 111 g3,
oP w1 (pMv g4)]) (.seq (.reg [
oP w5 (pMv g1),
oCall w6 56 [g5]]) (.seq (.reg [
oP w7 (pMv g1),
oP w0 (pMv g7)]) (.ret))))⟩
theorem fp42 : ∃ fn, fb42 = denF fn ∧ ∃ func code hint, FnOk Go.Proofs.Tryz.prog TT 42 fn func code hint := f2_mk (func := Go.Proofs.Tryz.f42) (code := bodyOf Go.Proofs.Tryz.f42) (hint := hintL []) (n := 8) (res := [.tmp 0]) Go.Proofs.Tryz.func42 Go.Proofs.Tryz.call42 (by kernel_rfl) (by kernel_rfl) (by kernel_rfl) (by kernel_rfl) (by kernel_rfl)
/- bytes.Clone -/
def fb43 : AFunc2 := ⟨8, [.tmp g2], .seq (.reg [
oP w2 (pMv (gC (.w (.s (.nils)))))]) (.seq (.seq (.reg [
oP w3 (pMv g0),
oK w4 (b2 (fun x y s K => cmpA 0 .slice x y s fun b s => K (vBool b) s) g3 (gC (.w (.s (.nils)))))]) (.cond g4 (.seq (.reg [
oP w2 (pMv (gC (.w (.s (.nils)))))]) (.ret)) (.skip))) (.seq (.reg [
oM w5 (.bslice 5 0 [.int .u8 (.lit (.ofNat 0))] []),
oP w6 (pMv g0),
oK w7 (b2 (bAppend 5 1 1) g5 g6),
oP w2 (pMv g7)]) (.ret)))⟩
theorem fp43 : ∃ fn, fb43 = denF fn ∧ ∃ func code hint, FnOk Go.Proofs.Tryz.prog TT 43 fn func code hint := f2_mk (func := Go.Proofs.Tryz.f43) (code := bodyOf Go.Proofs.Tryz.f43) (hint := hintL []) (n := 8) (res := [.tmp 2]) Go.Proofs.Tryz.func43 Go.Proofs.Tryz.call43 (by kernel_rfl) (by kernel_rfl) (by kernel_rfl) (by kernel_rfl) (by kernel_rfl)
/- maps.DeleteFunc[map[quarry/api.Word]quarry/api.Word,quarry/api.Word,quarry/api.Word] -/
def fb44 : AFunc2 := ⟨19, [], .seq (.reg [
oP w6 (pMv g0),
oK w7 (b1 bRange g6)]) (.block 0 (.loop (.seq (.reg [
oK w8 (b1 bNext g7),
oP w9 (pExt g8 0)]) (.seq (.cond g9 (.skip) (.exit 0)) (.block 1 (.seq (.reg [
oK w10 (b1 bEntry g7),
oP w11 (pExt g10 0),
oP w12 (pExt g10 1),
oAlloc w4 24 [.int .u64 (.lit (.ofNat 0)), .int .u64 (.lit (.ofNat 0)), .int .u64 (.lit (.ofNat 0)), .int .u64 (.lit (.ofNat 0))],
oAlloc w5 24 [.int .u64 (.lit (.ofNat 0)), .int .u64 (.lit (.ofNat 0)), .int .u64 (.lit (.ofNat 0)), .int .u64 (.lit (.ofNat 0))],
oK wZ (bSt 4 g4 g11),
oK wZ (bSt 4 g5 g12)]) (.seq (.reg [
oP w13 (pMv g1),
oR w14 (rLoad (some 4) g4),
oR w15 (rLoad (some 4) g5),
oCallv w16 g13 [g14, g15]]) (.cond g16 (.reg [
oP w17 (pMv g0),
oR w18 (rLoad (some 4) g4),
oK wZ (b2 (bDel (.one (.arr 4 22 .u64))) g17 g18)]) (.skip)))))))))⟩
theorem fp44 : ∃ fn, fb44 = denF fn ∧ ∃ func code hint, FnOk Go.Proofs.Tryz.prog TT 44 fn func code hint := f2_mk (func := Go.Proofs.Tryz.f44) (code := bodyOf Go.Proofs.Tryz.f44) (hint := hintL []) (n := 19) (res := []) Go.Proofs.Tryz.func44 Go.Proofs.Tryz.call44 (by kernel_rfl) (by kernel_rfl) (by kernel_rfl) (by kernel_rfl) (by kernel_rfl)
/- quarry/fork.Of -/
def fb46 : AFunc2 := ⟨133, [.cell (rLoad (some 26) g2), .tmp g3], .seq (.reg [
oAlloc w2 44 [.int .i64 (.lit (.ofNat 0)), .int .u64 (.lit (.ofNat 0)), .int .u64 (.lit (.ofNat 0)), .int .u64 (.lit (.ofNat 0)), .int .u64 (.lit (.ofNat 0)), .int .u64 (.lit (.ofNat 0)), .int .u64 (.lit (.ofNat 0)), .int .u64 (.lit (.ofNat 0)), .int .i64 (.lit (.ofNat 0)), .int .i64 (.lit (.ofNat 0)), .int .u64 (.lit (.ofNat 0)), .int .u64 (.lit (.ofNat 0)), .int .u64 (.lit (.ofNat 0)), .int .u64 (.lit (.ofNat 0)), .int .u64 (.lit (.ofNat 0)), .int .u64 (.lit (.ofNat 0)), .int .u64 (.lit (.ofNat 0)), .int .u64 (.lit (.ofNat 0)), .int .u64 (.lit (.ofNat 0)), .int .u64 (.lit (.ofNat 0)), .int .u64 (.lit (.ofNat 0)), .int .u64 (.lit (.ofNat 0)), .int .u64 (.lit (.ofNat 0)), .int .u64 (.lit (.ofNat 0)), .int .u64 (.lit (.ofNat 0)), .int .u64 (.lit (.ofNat 0))],
oP w3 (pMv (gC (.w (.s (.int .i64 (.lit (.ofNat 0)))))))]) (.seq (.seq (.reg [
oP w4 (pMv g0),
oK w5 (bCmp 2 lLt cGe true g4 (gC (.w (.s (.int .i64 (.lit (.ofNat 0))))))),
oP w6 (pMv g5),
oGd g6 false w7 (oP w7 (pMv g0)),
oGd g6 false w8 (oK w8 (bCmp 4 nLe .le true g7 (gC (.w (.s (.int .i64 (.lit (.ofNat 15)))))))),
oP w9 (pGen fun _ t => opPick t (.t 6) (.c (.w (.s (.bool true)))) (.t 8))]) (.cond g9 (.seq (.reg [
oP w10 (pBuild [.int .i64 (.lit (.ofNat 0)), .int .u64 (.lit (.ofNat 0)), .int .u64 (.lit (.ofNat 0)), .int .u64 (.lit (.ofNat 0)), .int .u64 (.lit (.ofNat 0)), .int .u64 (.lit (.ofNat 0)), .int .u64 (.lit (.ofNat 0)), .int .u64 (.lit (.ofNat 0)), .int .i64 (.lit (.ofNat 0)), .int .i64 (.lit (.ofNat 0)), .int .u64 (.lit (.ofNat 0)), .int .u64 (.lit (.ofNat 0)), .int .u64 (.lit (.ofNat 0)), .int .u64 (.lit (.ofNat 0)), .int .u64 (.lit (.ofNat 0)), .int .u64 (.lit (.ofNat 0)), .int .u64 (.lit (.ofNat 0)), .int .u64 (.lit (.ofNat 0)), .int .u64 (.lit (.ofNat 0)), .int .u64 (.lit (.ofNat 0)), .int .u64 (.lit (.ofNat 0)), .int .u64 (.lit (.ofNat 0)), .int .u64 (.lit (.ofNat 0)), .int .u64 (.lit (.ofNat 0)), .int .u64 (.lit (.ofNat 0)), .int .u64 (.lit (.ofNat 0))] []),
oK wZ (bSt 26 g2 g10),
oP w3 (pMv (gC (.w (.s (.int .i64 (.lit (.ofNat 1)))))))]) (.ret)) (.skip))) (.seq (.reg [
oP w11 (pMv g0),
oP w12 (pMv g0),
oP w13 (pBuild [.int .i64 (.lit (.ofNat 0)), .int .u64 (.lit (.ofNat 0))] [(0, 1, (gC (.w (.s (.int .i64 (.lit (.ofNat 1))))))), (1, 1, (gC (.w (.s (.int .u64 (.lit (.ofNat 32000)))))))]),
oM w14 (.bslice 150 1 [.int .i64 (.lit (.ofNat 0)), .int .u64 (.lit (.ofNat 0))] [(0, 2, (.t 13))]),
oCall w15 60 [g12, g14],
oP w16 (pMv g0),
oP w17 (pBuild [.int .i64 (.lit (.ofNat 0)), .int .u64 (.lit (.ofNat 0))] [(0, 1, (gC (.w (.s (.int .i64 (.lit (.ofNat 0))))))), (1, 1, (gC (.w (.s (.int .u64 (.lit (.ofNat 68)))))))]),
oP w18 (pBuild [.int .i64 (.lit (.ofNat 0)), .int .u64 (.lit (.ofNat 0))] [(0, 1, (gC (.w (.s (.int .i64 (.lit (.ofNat 7))))))), (1, 1, (gC (.w (.s (.int .u64 (.lit (.ofNat 16)))))))]),
oM w19 (.bslice 150 2 [.int .i64 (.lit (.ofNat 0)), .int .u64 (.lit (.ofNat 0))] [(0, 2, (.t 17)), (2, 2, (.t 18))]),
oCall w20 60 [g16, g19],
oP w21 (pMv g0),
oP w22 (pBuild [.int .i64 (.lit (.ofNat 0)), .int .u64 (.lit (.ofNat 0))] [(0, 1, (gC (.w (.s (.int .i64 (.lit (.ofNat 9))))))), (1, 1, (gC (.w (.s (.int .u64 (.lit (.ofNat 2400)))))))]),
oM w23 (.bslice 150 1 [.int .i64 (.lit (.ofNat 0)), .int .u64 (.lit (.ofNat 0))] [(0, 2, (.t 22))]),
oCall w24 60 [g21, g23],
oP w25 (pMv g0),
oP w26 (pBuild [.int .i64 (.lit (.ofNat 0)), .int .u64 (.lit (.ofNat 0))] [(0, 1, (gC (.w (.s (.int .i64 (.lit (.ofNat 9))))))), (1, 1, (gC (.w (.s (.int .u64 (.lit (.ofNat 1900)))))))]),
oM w27 (.bslice 150 1 [.int .i64 (.lit (.ofNat 0)), .int .u64 (.lit (.ofNat 0))] [(0, 2, (.t 26))]),
oCall w28 60 [g25, g27],
oP w29 (pMv g0),
oP w30 (pBuild [.int .i64 (.lit (.ofNat 0)), .int .u64 (.lit (.ofNat 0))] [(0, 1, (gC (.w (.s (.int .i64 (.lit (.ofNat 14))))))), (1, 1, (gC (.w (.s (.int .u64 (.lit (.ofNat 2)))))))]),
oM w31 (.bslice 150 1 [.int .i64 (.lit (.ofNat 0)), .int .u64 (.lit (.ofNat 0))] [(0, 2, (.t 30))]),
oCall w32 60 [g29, g31],
oP w33 (pMv g0),
oP w34 (pBuild [.int .i64 (.lit (.ofNat 0)), .int .u64 (.lit (.ofNat 0))] [(0, 1, (gC (.w (.s (.int .i64 (.lit (.ofNat 14))))))), (1, 1, (gC (.w (.s (.int .u64 (.lit (.ofNat 49152)))))))]),
oM w35 (.bslice 150 1 [.int .i64 (.lit (.ofNat 0)), .int .u64 (.lit (.ofNat 0))] [(0, 2, (.t 34))]),
oCall w36 60 [g33, g35],
oP w37 (pConv .i64 g36),
oP w38 (pMv g0),
oP w39 (pBuild [.int .i64 (.lit (.ofNat 0)), .int .u64 (.lit (.ofNat 0))] [(0, 1, (gC (.w (.s (.int .i64 (.lit (.ofNat 3))))))), (1, 1, (gC (.w (.s (.int .u64 (.lit (.ofNat 24576)))))))]),
oM w40 (.bslice 150 1 [.int .i64 (.lit (.ofNat 0)), .int .u64 (.lit (.ofNat 0))] [(0, 2, (.t 39))]),
oCall w41 60 [g38, g40],
oP w42 (pConv .i64 g41),
oP w43 (pMv g0),
oP w44 (pBuild [.int .i64 (.lit (.ofNat 0)), .int .u64 (.lit (.ofNat 0))] [(0, 1, (gC (.w (.s (.int .i64 (.lit (.ofNat 0))))))), (1, 1, (gC (.w (.s (.int .u64 (.lit (.ofNat 20)))))))]),
oP w45 (pBuild [.int .i64 (.lit (.ofNat 0)), .int .u64 (.lit (.ofNat 0))] [(0, 1, (gC (.w (.s (.int .i64 (.lit (.ofNat 2))))))), (1, 1, (gC (.w (.s (.int .u64 (.lit (.ofNat 400)))))))]),
oP w46 (pBuild [.int .i64 (.lit (.ofNat 0)), .int .u64 (.lit (.ofNat 0))] [(0, 1, (gC (.w (.s (.int .i64 (.lit (.ofNat 7))))))), (1, 1, (gC (.w (.s (.int .u64 (.lit (.ofNat 700)))))))]),
oP w47 (pBuild [.int .i64 (.lit (.ofNat 0)), .int .u64 (.lit (.ofNat 0))] [(0, 1, (gC (.w (.s (.int .i64 (.lit (.ofNat 9))))))), (1, 1, (gC (.w (.s (.int .u64 (.lit (.ofNat 0)))))))]),
oM w48 (.bslice 150 4 [.int .i64 (.lit (.ofNat 0)), .int .u64 (.lit (.ofNat 0))] [(0, 2, (.t 44)), (2, 2, (.t 45)), (4, 2, (.t 46)), (6, 2, (.t 47))]),
oCall w49 60 [g43, g48],
oP w50 (pMv g0),
oP w51 (pBuild [.int .i64 (.lit (.ofNat 0)), .int .u64 (.lit (.ofNat 0))] [(0, 1, (gC (.w (.s (.int .i64 (.lit (.ofNat 0))))))), (1, 1, (gC (.w (.s (.int .u64 (.lit (.ofNat 20)))))))]),
oP w52 (pBuild [.int .i64 (.lit (.ofNat 0)), .int .u64 (.lit (.ofNat 0))] [(0, 1, (gC (.w (.s (.int .i64 (.lit (.ofNat 2))))))), (1, 1, (gC (.w (.s (.int .u64 (.lit (.ofNat 700)))))))]),
oP w53 (pBuild [.int .i64 (.lit (.ofNat 0)), .int .u64 (.lit (.ofNat 0))] [(0, 1, (gC (.w (.s (.int .i64 (.lit (.ofNat 9))))))), (1, 1, (gC (.w (.s (.int .u64 (.lit (.ofNat 0)))))))]),
oM w54 (.bslice 150 3 [.int .i64 (.lit (.ofNat 0)), .int .u64 (.lit (.ofNat 0))] [(0, 2, (.t 51)), (2, 2, (.t 52)), (4, 2, (.t 53))]),
oCall w55 60 [g50, g54],
oP w56 (pMv g0),
oP w57 (pBuild [.int .i64 (.lit (.ofNat 0)), .int .u64 (.lit (.ofNat 0))] [(0, 1, (gC (.w (.s (.int .i64 (.lit (.ofNat 5))))))), (1, 1, (gC (.w (.s (.int .u64 (.lit (.ofNat 400)))))))]),
oP w58 (pBuild [.int .i64 (.lit (.ofNat 0)), .int .u64 (.lit (.ofNat 0))] [(0, 1, (gC (.w (.s (.int .i64 (.lit (.ofNat 7))))))), (1, 1, (gC (.w (.s (.int .u64 (.lit (.ofNat 700)))))))]),
oP w59 (pBuild [.int .i64 (.lit (.ofNat 0)), .int .u64 (.lit (.ofNat 0))] [(0, 1, (gC (.w (.s (.int .i64 (.lit (.ofNat 9))))))), (1, 1, (gC (.w (.s (.int .u64 (.lit (.ofNat 0)))))))]),
oM w60 (.bslice 150 3 [.int .i64 (.lit (.ofNat 0)), .int .u64 (.lit (.ofNat 0))] [(0, 2, (.t 57)), (2, 2, (.t 58)), (4, 2, (.t 59))]),
oCall w61 60 [g56, g60],
oP w62 (pMv g0),
oP w63 (pBuild [.int .i64 (.lit (.ofNat 0)), .int .u64 (.lit (.ofNat 0))] [(0, 1, (gC (.w (.s (.int .i64 (.lit (.ofNat 0))))))), (1, 1, (gC (.w (.s (.int .u64 (.lit (.ofNat 50)))))))]),
oP w64 (pBuild [.int .i64 (.lit (.ofNat 0)), .int .u64 (.lit (.ofNat 0))] [(0, 1, (gC (.w (.s (.int .i64 (.lit (.ofNat 2))))))), (1, 1, (gC (.w (.s (.int .u64 (.lit (.ofNat 200)))))))]),
oP w65 (pBuild [.int .i64 (.lit (.ofNat 0)), .int .u64 (.lit (.ofNat 0))] [(0, 1, (gC (.w (.s (.int .i64 (.lit (.ofNat 7))))))), (1, 1, (gC (.w (.s (.int .u64 (.lit (.ofNat 800)))))))]),
oP w66 (pBuild [.int .i64 (.lit (.ofNat 0)), .int .u64 (.lit (.ofNat 0))] [(0, 1, (gC (.w (.s (.int .i64 (.lit (.ofNat 9))))))), (1, 1, (gC (.w (.s (.int .u64 (.lit (.ofNat 0)))))))]),
oM w67 (.bslice 150 4 [.int .i64 (.lit (.ofNat 0)), .int .u64 (.lit (.ofNat 0))] [(0, 2, (.t 63)), (2, 2, (.t 64)), (4, 2, (.t 65)), (6, 2, (.t 66))]),
oCall w68 60 [g62, g67],
oP w69 (pMv g0),
oP w70 (pBuild [.int .i64 (.lit (.ofNat 0)), .int .u64 (.lit (.ofNat 0))] [(0, 1, (gC (.w (.s (.int .i64 (.lit (.ofNat 0))))))), (1, 1, (gC (.w (.s (.int .u64 (.lit (.ofNat 40)))))))]),
oP w71 (pBuild [.int .i64 (.lit (.ofNat 0)), .int .u64 (.lit (.ofNat 0))] [(0, 1, (gC (.w (.s (.int .i64 (.lit (.ofNat 2))))))), (1, 1, (gC (.w (.s (.int .u64 (.lit (.ofNat 700)))))))]),
oP w72 (pBuild [.int .i64 (.lit (.ofNat 0)), .int .u64 (.lit (.ofNat 0))] [(0, 1, (gC (.w (.s (.int .i64 (.lit (.ofNat 9))))))), (1, 1, (gC (.w (.s (.int .u64 (.lit (.ofNat 0)))))))]),
oM w73 (.bslice 150 3 [.int .i64 (.lit (.ofNat 0)), .int .u64 (.lit (.ofNat 0))] [(0, 2, (.t 70)), (2, 2, (.t 71)), (4, 2, (.t 72))]),
oCall w74 60 [g69, g73],
oP w75 (pMv g0),
oP w76 (pBuild [.int .i64 (.lit (.ofNat 0)), .int .u64 (.lit (.ofNat 0))] [(0, 1, (gC (.w (.s (.int .i64 (.lit (.ofNat 9))))))), (1, 1, (gC (.w (.s (.int .u64 (.lit (.ofNat 2600)))))))]),
oM w77 (.bslice 150 1 [.int .i64 (.lit (.ofNat 0)), .int .u64 (.lit (.ofNat 0))] [(0, 2, (.t 76))]),
oCall w78 60 [g75, g77],
oP w79 (pMv g0),
oP w80 (pBuild [.int .i64 (.lit (.ofNat 0)), .int .u64 (.lit (.ofNat 0))] [(0, 1, (gC (.w (.s (.int .i64 (.lit (.ofNat 9))))))), (1, 1, (gC (.w (.s (.int .u64 (.lit (.ofNat 2100)))))))]),
oM w81 (.bslice 150 1 [.int .i64 (.lit (.ofNat 0)), .int .u64 (.lit (.ofNat 0))] [(0, 2, (.t 80))]),
oCall w82 60 [g79, g81],
oP w83 (pMv g0),
oP w84 (pBuild [.int .i64 (.lit (.ofNat 0)), .int .u64 (.lit (.ofNat 0))] [(0, 1, (gC (.w (.s (.int .i64 (.lit (.ofNat 9))))))), (1, 1, (gC (.w (.s (.int .u64 (.lit (.ofNat 100)))))))]),
oM w85 (.bslice 150 1 [.int .i64 (.lit (.ofNat 0)), .int .u64 (.lit (.ofNat 0))] [(0, 2, (.t 84))]),
oCall w86 60 [g83, g85],
oP w87 (pMv g0),
oP w88 (pBuild [.int .i64 (.lit (.ofNat 0)), .int .u64 (.lit (.ofNat 0))] [(0, 1, (gC (.w (.s (.int .i64 (.lit (.ofNat 2))))))), (1, 1, (gC (.w (.s (.int .u64 (.lit (.ofNat 5000)))))))]),
oM w89 (.bslice 150 1 [.int .i64 (.lit (.ofNat 0)), .int .u64 (.lit (.ofNat 0))] [(0, 2, (.t 88))]),
oCall w90 60 [g87, g89],
oP w91 (pMv g0),
oP w92 (pBuild [.int .i64 (.lit (.ofNat 0)), .int .u64 (.lit (.ofNat 0))] [(0, 1, (gC (.w (.s (.int .i64 (.lit (.ofNat 2))))))), (1, 1, (gC (.w (.s (.int .u64 (.lit (.ofNat 25000)))))))]),
oM w93 (.bslice 150 1 [.int .i64 (.lit (.ofNat 0)), .int .u64 (.lit (.ofNat 0))] [(0, 2, (.t 92))]),
oCall w94 60 [g91, g93],
oP w95 (pMv g0),
oP w96 (pBuild [.int .i64 (.lit (.ofNat 0)), .int .u64 (.lit (.ofNat 0))] [(0, 1, (gC (.w (.s (.int .i64 (.lit (.ofNat 0))))))), (1, 1, (gC (.w (.s (.int .u64 (.lit (.ofNat 24000)))))))]),
oP w97 (pBuild [.int .i64 (.lit (.ofNat 0)), .int .u64 (.lit (.ofNat 0))] [(0, 1, (gC (.w (.s (.int .i64 (.lit (.ofNat 10))))))), (1, 1, (gC (.w (.s (.int .u64 (.lit (.ofNat 0)))))))]),
oM w98 (.bslice 150 2 [.int .i64 (.lit (.ofNat 0)), .int .u64 (.lit (.ofNat 0))] [(0, 2, (.t 96)), (2, 2, (.t 97))]),
oCall w99 60 [g95, g98],
oP w100 (pMv g0),
oP w101 (pBuild [.int .i64 (.lit (.ofNat 0)), .int .u64 (.lit (.ofNat 0))] [(0, 1, (gC (.w (.s (.int .i64 (.lit (.ofNat 0))))))), (1, 1, (gC (.w (.s (.int .u64 (.lit (.ofNat 10)))))))]),
oP w102 (pBuild [.int .i64 (.lit (.ofNat 0)), .int .u64 (.lit (.ofNat 0))] [(0, 1, (gC (.w (.s (.int .i64 (.lit (.ofNat 3))))))), (1, 1, (gC (.w (.s (.int .u64 (.lit (.ofNat 50)))))))]),
oM w103 (.bslice 150 2 [.int .i64 (.lit (.ofNat 0)), .int .u64 (.lit (.ofNat 0))] [(0, 2, (.t 101)), (2, 2, (.t 102))]),
oCall w104 60 [g100, g103],
oP w105 (pMv g0),
oP w106 (pBuild [.int .i64 (.lit (.ofNat 0)), .int .u64 (.lit (.ofNat 0))] [(0, 1, (gC (.w (.s (.int .i64 (.lit (.ofNat 0))))))), (1, 1, (gC (.w (.s (.int .u64 (.lit (.ofNat 15000)))))))]),
oP w107 (pBuild [.int .i64 (.lit (.ofNat 0)), .int .u64 (.lit (.ofNat 0))] [(0, 1, (gC (.w (.s (.int .i64 (.lit (.ofNat 10))))))), (1, 1, (gC (.w (.s (.int .u64 (.lit (.ofNat 4800)))))))]),
oM w108 (.bslice 150 2 [.int .i64 (.lit (.ofNat 0)), .int .u64 (.lit (.ofNat 0))] [(0, 2, (.t 106)), (2, 2, (.t 107))]),
oCall w109 60 [g105, g108],
oP w110 (pMv g0),
oP w111 (pBuild [.int .i64 (.lit (.ofNat 0)), .int .u64 (.lit (.ofNat 0))] [(0, 1, (gC (.w (.s (.int .i64 (.lit (.ofNat 0))))))), (1, 1, (gC (.w (.s (.int .u64 (.lit (.ofNat 2)))))))]),
oP w112 (pBuild [.int .i64 (.lit (.ofNat 0)), .int .u64 (.lit (.ofNat 0))] [(0, 1, (gC (.w (.s (.int .i64 (.lit (.ofNat 10))))))), (1, 1, (gC (.w (.s (.int .u64 (.lit (.ofNat 5)))))))]),
oM w113 (.bslice 150 2 [.int .i64 (.lit (.ofNat 0)), .int .u64 (.lit (.ofNat 0))] [(0, 2, (.t 111)), (2, 2, (.t 112))]),
oCall w114 60 [g110, g113],
oP w115 (pMv g0),
oP w116 (pBuild [.int .i64 (.lit (.ofNat 0)), .int .u64 (.lit (.ofNat 0))] [(0, 1, (gC (.w (.s (.int .i64 (.lit (.ofNat 0))))))), (1, 1, (gC (.w (.s (.int .u64 (.lit (.ofNat 5000000000000000000)))))))]),
oP w117 (pBuild [.int .i64 (.lit (.ofNat 0)), .int .u64 (.lit (.ofNat 0))] [(0, 1, (gC (.w (.s (.int .i64 (.lit (.ofNat 4))))))), (1, 1, (gC (.w (.s (.int .u64 (.lit (.ofNat 3000000000000000000)))))))]),
oP w118 (pBuild [.int .i64 (.lit (.ofNat 0)), .int .u64 (.lit (.ofNat 0))] [(0, 1, (gC (.w (.s (.int .i64 (.lit (.ofNat 5))))))), (1, 1, (gC (.w (.s (.int .u64 (.lit (.ofNat 2000000000000000000)))))))]),
oP w119 (pBuild [.int .i64 (.lit (.ofNat 0)), .int .u64 (.lit (.ofNat 0))] [(0, 1, (gC (.w (.s (.int .i64 (.lit (.ofNat 13))))))), (1, 1, (gC (.w (.s (.int .u64 (.lit (.ofNat 0)))))))]),
oM w120 (.bslice 150 4 [.int .i64 (.lit (.ofNat 0)), .int .u64 (.lit (.ofNat 0))] [(0, 2, (.t 116)), (2, 2, (.t 117)), (4, 2, (.t 118)), (6, 2, (.t 119))]),
oCall w121 60 [g115, g120],
oP w122 (pMv g0),
oP w123 (pBuild [.int .i64 (.lit (.ofNat 0)), .int .u64 (.lit (.ofNat 0))] [(0, 1, (gC (.w (.s (.int .i64 (.lit (.ofNat 4))))))), (1, 1, (gC (.w (.s (.int .u64 (.lit (.ofNat 3000000)))))))]),
oP w124 (pBuild [.int .i64 (.lit (.ofNat 0)), .int .u64 (.lit (.ofNat 0))] [(0, 1, (gC (.w (.s (.int .i64 (.lit (.ofNat 5))))))), (1, 1, (gC (.w (.s (.int .u64 (.lit (.ofNat 5000000)))))))]),
oP w125 (pBuild [.int .i64 (.lit (.ofNat 0)), .int .u64 (.lit (.ofNat 0))] [(0, 1, (gC (.w (.s (.int .i64 (.lit (.ofNat 8))))))), (1, 1, (gC (.w (.s (.int .u64 (.lit (.ofNat 9000000)))))))]),
oP w126 (pBuild [.int .i64 (.lit (.ofNat 0)), .int .u64 (.lit (.ofNat 0))] [(0, 1, (gC (.w (.s (.int .i64 (.lit (.ofNat 10))))))), (1, 1, (gC (.w (.s (.int .u64 (.lit (.ofNat 9700000)))))))]),
oP w127 (pBuild [.int .i64 (.lit (.ofNat 0)), .int .u64 (.lit (.ofNat 0))] [(0, 1, (gC (.w (.s (.int .i64 (.lit (.ofNat 11))))))), (1, 1, (gC (.w (.s (.int .u64 (.lit (.ofNat 10700000)))))))]),
oP w128 (pBuild [.int .i64 (.lit (.ofNat 0)), .int .u64 (.lit (.ofNat 0))] [(0, 1, (gC (.w (.s (.int .i64 (.lit (.ofNat 12))))))), (1, 1, (gC (.w (.s (.int .u64 (.lit (.ofNat 11400000)))))))]),
oP w129 (pBuild [.int .i64 (.lit (.ofNat 0)), .int .u64 (.lit (.ofNat 0))] [(0, 1, (gC (.w (.s (.int .i64 (.lit (.ofNat 13))))))), (1, 1, (gC (.w (.s (.int .u64 (.lit (.ofNat 0)))))))]),
oM w130 (.bslice 150 7 [.int .i64 (.lit (.ofNat 0)), .int .u64 (.lit (.ofNat 0))] [(0, 2, (.t 123)), (2, 2, (.t 124)), (4, 2, (.t 125)), (6, 2, (.t 126)), (8, 2, (.t 127)), (10, 2, (.t 128)), (12, 2, (.t 129))]),
oCall w131 60 [g122, g130],
oP w132 (pBuild [.int .i64 (.lit (.ofNat 0)), .int .u64 (.lit (.ofNat 0)), .int .u64 (.lit (.ofNat 0)), .int .u64 (.lit (.ofNat 0)), .int .u64 (.lit (.ofNat 0)), .int .u64 (.lit (.ofNat 0)), .int .u64 (.lit (.ofNat 0)), .int .u64 (.lit (.ofNat 0)), .int .i64 (.lit (.ofNat 0)), .int .i64 (.lit (.ofNat 0)), .int .u64 (.lit (.ofNat 0)), .int .u64 (.lit (.ofNat 0)), .int .u64 (.lit (.ofNat 0)), .int .u64 (.lit (.ofNat 0)), .int .u64 (.lit (.ofNat 0)), .int .u64 (.lit (.ofNat 0)), .int .u64 (.lit (.ofNat 0)), .int .u64 (.lit (.ofNat 0)), .int .u64 (.lit (.ofNat 0)), .int .u64 (.lit (.ofNat 0)), .int .u64 (.lit (.ofNat 0)), .int .u64 (.lit (.ofNat 0)), .int .u64 (.lit (.ofNat 0)), .int .u64 (.lit (.ofNat 0)), .int .u64 (.lit (.ofNat 0)), .int .u64 (.lit (.ofNat 0))] [(0, 1, g11), (1, 1, (gC (.w (.s (.int .u64 (.lit (.ofNat 21000))))))), (2, 1, g15), (3, 1, (gC (.w (.s (.int .u64 (.lit (.ofNat 4))))))), (4, 1, g20), (5, 1, g24), (6, 1, g28), (7, 1, g32), (8, 1, g37), (9, 1, g42), (10, 1, g49), (11, 1, g55), (12, 1, g61), (13, 1, g68), (14, 1, g74), (15, 1, g78), (16, 1, g82), (17, 1, g86), (18, 1, g90), (19, 1, g94), (20, 1, g99), (21, 1, g104), (22, 1, g109), (23, 1, g114), (24, 1, g121), (25, 1, g131)]),
oK wZ (bSt 26 g2 g132),
oP w3 (pMv (gC (.w (.s (.int .i64 (.lit (.ofNat 0)))))))]) (.ret)))⟩
theorem fp46 : ∃ fn, fb46 = denF fn ∧ ∃ func code hint, FnOk Go.Proofs.Tryz.prog TT 46 fn func code hint := f2_mk (func := Go.Proofs.Tryz.f46) (code := bodyOf Go.Proofs.Tryz.f46) (hint := hintL []) (n := 133) (res := [.cell 2 (some 26), .tmp 3]) Go.Proofs.Tryz.func46 Go.Proofs.Tryz.call46 (by kernel_rfl) (by kernel_rfl) (by kernel_rfl) (by kernel_rfl) (by kernel_rfl)
/- quarry/gas.Base -/
def fb47 : AFunc2 := ⟨102, [.tmp g4], .seq (.reg [
oBox w2 44 g0,
oP w4 (pMv (gC (.w (.s (.int .u64 (.lit (.ofNat 0)))))))]) (.seq (.seq (.reg [
oP w5 (pFaddr 0 g2),
oR w6 (rLoad none g5),
oP w7 (pMv g1),
oCall w8 57 [g6, g7],
oP w9 (pNot g8)]) (.cond g9 (.seq (.reg [
oP w4 (pMv (gC (.w (.s (.int .u64 (.lit (.ofNat 0)))))))]) (.ret)) (.skip))) (.seq (.block 0 (.seq (.seq (.reg [
oP w11 (pMv g1),
oCall w12 61 [g11, (gC (.w (.s (.int .i64 (.lit (.ofNat 16)))))), (gC (.w (.s (.int .i64 (.lit (.ofNat 29))))))],
oP w10 (pMv g12)]) (.cond g10 (.skip) (.seq (.reg [
oP w13 (pMv g1),
oCall w14 61 [g13, (gC (.w (.s (.int .i64 (.lit (.ofNat 81)))))), (gC (.w (.s (.int .i64 (.lit (.ofNat 83))))))],
oP w10 (pMv g14)]) (.cond g10 (.skip) (.reg [
oP w15 (pMv g1),
oCall w16 61 [g15, (gC (.w (.s (.int .i64 (.lit (.ofNat 96)))))), (gC (.w (.s (.int .i64 (.lit (.ofNat 159))))))],
oP w10 (pMv g16)]))))) (.cond g10 (.seq (.reg [
oP w4 (pMv (gC (.w (.s (.int .u64 (.lit (.ofNat 3)))))))]) (.ret)) (.seq (.seq (.reg [
oP w18 (pMv g1),
oCall w19 61 [g18, (gC (.w (.s (.int .i64 (.lit (.ofNat 50)))))), (gC (.w (.s (.int .i64 (.lit (.ofNat 52))))))],
oP w17 (pMv g19)]) (.cond g17 (.skip) (.seq (.reg [
oP w20 (pMv g1),
oCall w21 61 [g20, (gC (.w (.s (.int .i64 (.lit (.ofNat 65)))))), (gC (.w (.s (.int .i64 (.lit (.ofNat 70))))))],
oP w17 (pMv g21)]) (.cond g17 (.skip) (.reg [
oP w22 (pMv g1),
oCall w23 61 [g22, (gC (.w (.s (.int .i64 (.lit (.ofNat 88)))))), (gC (.w (.s (.int .i64 (.lit (.ofNat 90))))))],
oP w17 (pMv g23)]))))) (.cond g17 (.seq (.reg [
oP w4 (pMv (gC (.w (.s (.int .u64 (.lit (.ofNat 2)))))))]) (.ret)) (.seq (.reg [
oP w25 (pMv g1),
oCall w26 61 [g25, (gC (.w (.s (.int .i64 (.lit (.ofNat 160)))))), (gC (.w (.s (.int .i64 (.lit (.ofNat 164))))))],
oP w24 (pMv g26)]) (.cond g24 (.seq (.reg [
oP w4 (pMv (gC (.w (.s (.int .u64 (.lit (.ofNat 375)))))))]) (.ret)) (.skip)))))))) (.seq (.seq (.reg [
oP w27 (pMv g1)]) (.block 1 (.seq (.seq (.reg [
oK w29 (bCmp 0 intEq .eq false g27 (gC (.w (.s (.int .i64 (.lit (.ofNat 48))))))),
oP w28 (pMv g29)]) (.cond g28 (.skip) (.seq (.reg [
oK w30 (bCmp 0 intEq .eq false g27 (gC (.w (.s (.int .i64 (.lit (.ofNat 54))))))),
oP w28 (pMv g30)]) (.cond g28 (.skip) (.seq (.reg [
oK w31 (bCmp 0 intEq .eq false g27 (gC (.w (.s (.int .i64 (.lit (.ofNat 56))))))),
oP w28 (pMv g31)]) (.cond g28 (.skip) (.seq (.reg [
oK w32 (bCmp 0 intEq .eq false g27 (gC (.w (.s (.int .i64 (.lit (.ofNat 58))))))),
oP w28 (pMv g32)]) (.cond g28 (.skip) (.seq (.reg [
oK w33 (bCmp 0 intEq .eq false g27 (gC (.w (.s (.int .i64 (.lit (.ofNat 61))))))),
oP w28 (pMv g33)]) (.cond g28 (.skip) (.seq (.reg [
oK w34 (bCmp 0 intEq .eq false g27 (gC (.w (.s (.int .i64 (.lit (.ofNat 72))))))),
oP w28 (pMv g34)]) (.cond g28 (.skip) (.seq (.reg [
oK w35 (bCmp 0 intEq .eq false g27 (gC (.w (.s (.int .i64 (.lit (.ofNat 74))))))),
oP w28 (pMv g35)]) (.cond g28 (.skip) (.seq (.reg [
oK w36 (bCmp 0 intEq .eq false g27 (gC (.w (.s (.int .i64 (.lit (.ofNat 80))))))),
oP w28 (pMv g36)]) (.cond g28 (.skip) (.reg [
oK w37 (bCmp 0 intEq .eq false g27 (gC (.w (.s (.int .i64 (.lit (.ofNat 95))))))),
oP w28 (pMv g37)]))))))))))))))))) (.cond g28 (.seq (.reg [
oP w4 (pMv (gC (.w (.s (.int .u64 (.lit (.ofNat 2)))))))]) (.ret)) (.seq (.seq (.reg [
oK w39 (bCmp 0 intEq .eq false g27 (gC (.w (.s (.int .i64 (.lit (.ofNat 1))))))),
oP w38 (pMv g39)]) (.cond g38 (.skip) (.seq (.reg [
oK w40 (bCmp 0 intEq .eq false g27 (gC (.w (.s (.int .i64 (.lit (.ofNat 3))))))),
oP w38 (pMv g40)]) (.cond g38 (.skip) (.seq (.reg [
oK w41 (bCmp 0 intEq .eq false g27 (gC (.w (.s (.int .i64 (.lit (.ofNat 53))))))),
oP w38 (pMv g41)]) (.cond g38 (.skip) (.seq (.reg [
oK w42 (bCmp 0 intEq .eq false g27 (gC (.w (.s (.int .i64 (.lit (.ofNat 55))))))),
oP w38 (pMv g42)]) (.cond g38 (.skip) (.seq (.reg [
oK w43 (bCmp 0 intEq .eq false g27 (gC (.w (.s (.int .i64 (.lit (.ofNat 57))))))),
oP w38 (pMv g43)]) (.cond g38 (.skip) (.seq (.reg [
oK w44 (bCmp 0 intEq .eq false g27 (gC (.w (.s (.int .i64 (.lit (.ofNat 62))))))),
oP w38 (pMv g44)]) (.cond g38 (.skip) (.seq (.reg [
oK w45 (bCmp 0 intEq .eq false g27 (gC (.w (.s (.int .i64 (.lit (.ofNat 73))))))),
oP w38 (pMv g45)]) (.cond g38 (.skip) (.reg [
oK w46 (bCmp 0 intEq .eq false g27 (gC (.w (.s (.int .i64 (.lit (.ofNat 94))))))),
oP w38 (pMv g46)]))))))))))))))) (.cond g38 (.seq (.reg [
oP w4 (pMv (gC (.w (.s (.int .u64 (.lit (.ofNat 3)))))))]) (.ret)) (.seq (.seq (.reg [
oK w48 (bCmp 0 intEq .eq false g27 (gC (.w (.s (.int .i64 (.lit (.ofNat 2))))))),
oP w47 (pMv g48)]) (.cond g47 (.skip) (.seq (.reg [
oK w49 (bCmp 0 intEq .eq false g27 (gC (.w (.s (.int .i64 (.lit (.ofNat 4))))))),
oP w47 (pMv g49)]) (.cond g47 (.skip) (.seq (.reg [
oK w50 (bCmp 0 intEq .eq false g27 (gC (.w (.s (.int .i64 (.lit (.ofNat 5))))))),
oP w47 (pMv g50)]) (.cond g47 (.skip) (.seq (.reg [
oK w51 (bCmp 0 intEq .eq false g27 (gC (.w (.s (.int .i64 (.lit (.ofNat 6))))))),
oP w47 (pMv g51)]) (.cond g47 (.skip) (.seq (.reg [
oK w52 (bCmp 0 intEq .eq false g27 (gC (.w (.s (.int .i64 (.lit (.ofNat 7))))))),
oP w47 (pMv g52)]) (.cond g47 (.skip) (.seq (.reg [
oK w53 (bCmp 0 intEq .eq false g27 (gC (.w (.s (.int .i64 (.lit (.ofNat 11))))))),
oP w47 (pMv g53)]) (.cond g47 (.skip) (.reg [
oK w54 (bCmp 0 intEq .eq false g27 (gC (.w (.s (.int .i64 (.lit (.ofNat 71))))))),
oP w47 (pMv g54)]))))))))))))) (.cond g47 (.seq (.reg [
oP w4 (pMv (gC (.w (.s (.int .u64 (.lit (.ofNat 5)))))))]) (.ret)) (.seq (.seq (.reg [
oK w56 (bCmp 0 intEq .eq false g27 (gC (.w (.s (.int .i64 (.lit (.ofNat 8))))))),
oP w55 (pMv g56)]) (.cond g55 (.skip) (.seq (.reg [
oK w57 (bCmp 0 intEq .eq false g27 (gC (.w (.s (.int .i64 (.lit (.ofNat 9))))))),
oP w55 (pMv g57)]) (.cond g55 (.skip) (.reg [
oK w58 (bCmp 0 intEq .eq false g27 (gC (.w (.s (.int .i64 (.lit (.ofNat 86))))))),
oP w55 (pMv g58)]))))) (.cond g55 (.seq (.reg [
oP w4 (pMv (gC (.w (.s (.int .u64 (.lit (.ofNat 8)))))))]) (.ret)) (.seq (.seq (.reg [
oK w60 (bCmp 0 intEq .eq false g27 (gC (.w (.s (.int .i64 (.lit (.ofNat 10))))))),
oP w59 (pMv g60)]) (.cond g59 (.skip) (.reg [
oK w61 (bCmp 0 intEq .eq false g27 (gC (.w (.s (.int .i64 (.lit (.ofNat 87))))))),
oP w59 (pMv g61)]))) (.cond g59 (.seq (.reg [
oP w4 (pMv (gC (.w (.s (.int .u64 (.lit (.ofNat 10)))))))]) (.ret)) (.seq (.reg [
oK w63 (bCmp 0 intEq .eq false g27 (gC (.w (.s (.int .i64 (.lit (.ofNat 32))))))),
oP w62 (pMv g63)]) (.cond g62 (.seq (.reg [
oP w4 (pMv (gC (.w (.s (.int .u64 (.lit (.ofNat 30)))))))]) (.ret)) (.seq (.reg [
oK w65 (bCmp 0 intEq .eq false g27 (gC (.w (.s (.int .i64 (.lit (.ofNat 64))))))),
oP w64 (pMv g65)]) (.cond g64 (.seq (.reg [
oP w4 (pMv (gC (.w (.s (.int .u64 (.lit (.ofNat 20)))))))]) (.ret)) (.seq (.reg [
oK w67 (bCmp 0 intEq .eq false g27 (gC (.w (.s (.int .i64 (.lit (.ofNat 91))))))),
oP w66 (pMv g67)]) (.cond g66 (.seq (.reg [
oP w4 (pMv (gC (.w (.s (.int .u64 (.lit (.ofNat 1)))))))]) (.ret)) (.seq (.seq (.reg [
oK w69 (bCmp 0 intEq .eq false g27 (gC (.w (.s (.int .i64 (.lit (.ofNat 92))))))),
oP w68 (pMv g69)]) (.cond g68 (.skip) (.reg [
oK w70 (bCmp 0 intEq .eq false g27 (gC (.w (.s (.int .i64 (.lit (.ofNat 93))))))),
oP w68 (pMv g70)]))) (.cond g68 (.seq (.reg [
oP w4 (pMv (gC (.w (.s (.int .u64 (.lit (.ofNat 100)))))))]) (.ret)) (.seq (.reg [
oK w72 (bCmp 0 intEq .eq false g27 (gC (.w (.s (.int .i64 (.lit (.ofNat 49))))))),
oP w71 (pMv g72)]) (.cond g71 (.seq (.reg [
oP w73 (pFaddr 10 g2),
oR w74 (rLoad none g73),
oP w4 (pMv g74)]) (.ret)) (.seq (.seq (.reg [
oK w76 (bCmp 0 intEq .eq false g27 (gC (.w (.s (.int .i64 (.lit (.ofNat 59))))))),
oP w75 (pMv g76)]) (.cond g75 (.skip) (.reg [
oK w77 (bCmp 0 intEq .eq false g27 (gC (.w (.s (.int .i64 (.lit (.ofNat 60))))))),
oP w75 (pMv g77)]))) (.cond g75 (.seq (.reg [
oP w78 (pFaddr 11 g2),
oR w79 (rLoad none g78),
oP w4 (pMv g79)]) (.ret)) (.seq (.reg [
oK w81 (bCmp 0 intEq .eq false g27 (gC (.w (.s (.int .i64 (.lit (.ofNat 63))))))),
oP w80 (pMv g81)]) (.cond g80 (.seq (.reg [
oP w82 (pFaddr 12 g2),
oR w83 (rLoad none g82),
oP w4 (pMv g83)]) (.ret)) (.seq (.reg [
oK w85 (bCmp 0 intEq .eq false g27 (gC (.w (.s (.int .i64 (.lit (.ofNat 84))))))),
oP w84 (pMv g85)]) (.cond g84 (.seq (.reg [
oP w86 (pFaddr 13 g2),
oR w87 (rLoad none g86),
oP w4 (pMv g87)]) (.ret)) (.seq (.seq (.reg [
oK w89 (bCmp 0 intEq .eq false g27 (gC (.w (.s (.int .i64 (.lit (.ofNat 241))))))),
oP w88 (pMv g89)]) (.cond g88 (.skip) (.seq (.reg [
oK w90 (bCmp 0 intEq .eq false g27 (gC (.w (.s (.int .i64 (.lit (.ofNat 242))))))),
oP w88 (pMv g90)]) (.cond g88 (.skip) (.seq (.reg [
oK w91 (bCmp 0 intEq .eq false g27 (gC (.w (.s (.int .i64 (.lit (.ofNat 244))))))),
oP w88 (pMv g91)]) (.cond g88 (.skip) (.reg [
oK w92 (bCmp 0 intEq .eq false g27 (gC (.w (.s (.int .i64 (.lit (.ofNat 250))))))),
oP w88 (pMv g92)]))))))) (.cond g88 (.seq (.reg [
oP w93 (pFaddr 14 g2),
oR w94 (rLoad none g93),
oP w4 (pMv g94)]) (.ret)) (.seq (.reg [
oK w96 (bCmp 0 intEq .eq false g27 (gC (.w (.s (.int .i64 (.lit (.ofNat 255))))))),
oP w95 (pMv g96)]) (.cond g95 (.seq (.reg [
oP w97 (pFaddr 18 g2),
oR w98 (rLoad none g97),
oP w4 (pMv g98)]) (.ret)) (.seq (.seq (.reg [
oK w100 (bCmp 0 intEq .eq false g27 (gC (.w (.s (.int .i64 (.lit (.ofNat 240))))))),
oP w99 (pMv g100)]) (.cond g99 (.skip) (.reg [
oK w101 (bCmp 0 intEq .eq false g27 (gC (.w (.s (.int .i64 (.lit (.ofNat 245))))))),
oP w99 (pMv g101)]))) (.cond g99 (.seq (.reg [
oP w4 (pMv (gC (.w (.s (.int .u64 (.lit (.ofNat 32000)))))))]) (.ret)) (.skip))))))))))))))))))))))))))))))))))) (.seq (.reg [
oP w4 (pMv (gC (.w (.s (.int .u64 (.lit (.ofNat 0)))))))]) (.ret)))))⟩
theorem fp47 : ∃ fn, fb47 = denF fn ∧ ∃ func code hint, FnOk Go.Proofs.Tryz.prog TT 47 fn func code hint := f2_mk (func := Go.Proofs.Tryz.f47) (code := bodyOf Go.Proofs.Tryz.f47) (hint := hintL []) (n := 102) (res := [.tmp 4]) Go.Proofs.Tryz.func47 Go.Proofs.Tryz.call47 (by kernel_rfl) (by kernel_rfl) (by kernel_rfl) (by kernel_rfl) (by kernel_rfl)
/- (*quarry/vm.machine).calls -/
def fb51 : AFunc2 := ⟨50, [.cell (rLoad (some 23) g4)], .seq (.reg [
oBox w2 121 g0,
oBox w3 129 g1,
oAlloc w4 131 [.int .i64 (.lit (.ofNat 0)), .nils, .int .u64 (.lit (.ofNat 0)), .int .u8 (.lit (.ofNat 0)), .int .u8 (.lit (.ofNat 0)), .int .u8 (.lit (.ofNat 0)), .int .u8 (.lit (.ofNat 0)), .int .u8 (.lit (.ofNat 0)), .int .u8 (.lit (.ofNat 0)), .int .u8 (.lit (.ofNat 0)), .int .u8 (.lit (.ofNat 0)), .int .u8 (.lit (.ofNat 0)), .int .u8 (.lit (.ofNat 0)), .int .u8 (.lit (.ofNat 0)), .int .u8 (.lit (.ofNat 0)), .int .u8 (.lit (.ofNat 0)), .int .u8 (.lit (.ofNat 0)), .int .u8 (.lit (.ofNat 0)), .int .u8 (.lit (.ofNat 0)), .int .u8 (.lit (.ofNat 0)), .int .u8 (.lit (.ofNat 0)), .int .u8 (.lit (.ofNat 0)), .int .u8 (.lit (.ofNat 0))]]) (.seq (.seq (.reg [
oR w5 (rLoad none g2),
oP w6 (pFaddr 0 g3),
oR w7 (rLoad (some 20) g6),
oP w8 (pFaddr 60 g3),
oR w9 (rLoad (some 4) g8),
oCall w10 63 [g5, g7, g9],
oP w11 (pNot g10)]) (.cond g11 (.seq (.reg [
oP w12 (pFaddr 65 g3),
oR w13 (rLoad none g12),
oCall w14 64 [g13],
oK wZ (bSt 23 g4 g14)]) (.ret)) (.skip))) (.seq (.seq (.draw [
⟨0, ⟨(some 15), .r (.load none (.t 2)), none⟩, 0, 0⟩,
⟨1, ⟨(some 16), .p (.nilCheck (.t 15)), none⟩, 1, 0⟩,
⟨2, ⟨(some 17), .p (.faddr 89 (.t 16)), none⟩, 3, 0⟩,
⟨3, ⟨(some 18), .r (.load none (.t 17)), none⟩, 7, 0⟩,
⟨4, ⟨(some 19), .p (.faddr 20 (.t 3)), none⟩, 0, 0⟩,
⟨5, ⟨(some 20), .r (.load (some 20) (.t 19)), none⟩, 16, 0⟩,
⟨6, ⟨(some 21), .b (.call 33 [(.t 18), (.t 20)]), none⟩, 63, 0⟩,
⟨7, ⟨(some 22), .p (.not (.t 21)), none⟩, 127, 0⟩,
⟨8, ⟨(some 23), .p (.mv (.t 22)), none⟩, 255, 0⟩,
⟨9, ⟨(some 24), .r (.load none (.t 2)), some (23, true)⟩, 511, 0⟩,
⟨10, ⟨(some 25), .b (.call 66 [(.t 24), (.c (.w (.s (.int .i64 (.lit (.ofNat 3))))))]), some (23, true)⟩, 1023, 0⟩,
⟨11, ⟨(some 26), .p (.pick (.t 23) (.t 25) (.c (.w (.s (.bool false))))), none⟩, 2047, 0⟩,
⟨12, ⟨(some 27), .p (.mv (.t 26)), none⟩, 4095, 0⟩,
⟨13, ⟨(some 28), .p (.faddr 60 (.t 3)), some (27, true)⟩, 8191, 0⟩,
⟨14, ⟨(some 29), .r (.load (some 4) (.t 28)), some (27, true)⟩, 16383, 0⟩,
⟨15, ⟨(some 30), .p (.build [.int .u64 (.lit (.ofNat 0)), .int .u64 (.lit (.ofNat 0)), .int .u64 (.lit (.ofNat 0)), .int .u64 (.lit (.ofNat 0))] []), some (27, true)⟩, 8191, 0⟩,
⟨16, ⟨(some 31), .b (.cmp 0 (.agg (.one (.arr 4 22 .u64))) (.t 29) (.t 30)), some (27, true)⟩, 65535, 0⟩,
⟨17, ⟨(some 32), .p (.pick (.t 27) (.t 31) (.c (.w (.s (.bool false))))), none⟩, 131071, 0⟩,
⟨18, ⟨(some 33), .p (.mv (.t 32)), none⟩, 262143, 0⟩,
⟨19, ⟨(some 34), .r (.load none (.t 2)), some (33, true)⟩, 524287, 0⟩,
⟨20, ⟨(some 35), .p (.nilCheck (.t 34)), some (33, true)⟩, 1048575, 0⟩,
⟨21, ⟨(some 36), .p (.faddr 0 (.t 35)), some (33, true)⟩, 2097151, 0⟩,
⟨22, ⟨(some 37), .r (.load none (.t 36)), some (33, true)⟩, 4194303, 0⟩,
⟨23, ⟨(some 38), .p (.faddr 20 (.t 3)), some (33, true)⟩, 524287, 0⟩,
⟨24, ⟨(some 39), .r (.load (some 20) (.t 38)), some (33, true)⟩, 8912895, 0⟩,
⟨25, ⟨(some 40), .b (.call 80 [(.t 37), (.t 39)]), some (33, true)⟩, 33554431, 0⟩,
⟨26, ⟨(some 41), .b (.cmp 0 .int (.t 40) (.c (.w (.s (.int .i64 (.lit (.ofNat 0))))))), some (33, true)⟩, 67108863, 0⟩,
⟨27, ⟨(some 42), .p (.pick (.t 33) (.t 41) (.c (.w (.s (.bool false))))), none⟩, 134217727, 0⟩]) (.cond g42 (.seq (.reg [
oP w43 (pFaddr 65 g3),
oR w44 (rLoad none g43),
oP w45 (pBuild [.int .i64 (.lit (.ofNat 0)), .nils, .int .u64 (.lit (.ofNat 0)), .int .u8 (.lit (.ofNat 0)), .int .u8 (.lit (.ofNat 0)), .int .u8 (.lit (.ofNat 0)), .int .u8 (.lit (.ofNat 0)), .int .u8 (.lit (.ofNat 0)), .int .u8 (.lit (.ofNat 0)), .int .u8 (.lit (.ofNat 0)), .int .u8 (.lit (.ofNat 0)), .int .u8 (.lit (.ofNat 0)), .int .u8 (.lit (.ofNat 0)), .int .u8 (.lit (.ofNat 0)), .int .u8 (.lit (.ofNat 0)), .int .u8 (.lit (.ofNat 0)), .int .u8 (.lit (.ofNat 0)), .int .u8 (.lit (.ofNat 0)), .int .u8 (.lit (.ofNat 0)), .int .u8 (.lit (.ofNat 0)), .int .u8 (.lit (.ofNat 0)), .int .u8 (.lit (.ofNat 0)), .int .u8 (.lit (.ofNat 0))] [(2, 1, g44)]),
oK wZ (bSt 23 g4 g45)]) (.ret)) (.skip))) (.seq (.reg [
oR w46 (rLoad none g2),
oR w47 (rLoad (some 68) g3),
oP w48 (pGen fun _ t => opMkfn t 82 [(.t 2), (.t 3)]),
oCall w49 81 [g46, g47, g48],
oK wZ (bSt 23 g4 g49)]) (.ret))))⟩
theorem fp51 : ∃ fn, fb51 = denF fn ∧ ∃ func code hint, FnOk Go.Proofs.Tryz.prog TT 51 fn func code hint := f2_mk (func := Go.Proofs.Tryz.f51) (code := bodyOf Go.Proofs.Tryz.f51) (hint := hintL [(3, [(0, 0), (1, 0), (2, 0), (3, 0), (4, 0), (5, 0), (6, 0), (7, 0), (8, 0), (9, 0), (10, 0), (11, 0), (12, 0), (13, 0), (14, 0), (15, 0), (16, 0), (17, 0), (18, 0), (19, 0), (20, 0), (21, 0), (22, 0), (23, 0), (24, 0), (25, 0), (26, 0), (27, 0)])]) (n := 50) (res := [.cell 4 (some 23)]) Go.Proofs.Tryz.func51 Go.Proofs.Tryz.call51 (by kernel_rfl) (by kernel_rfl) (by kernel_rfl) (by kernel_rfl) (by kernel_rfl)
/- (*quarry/state.State).Empty -/
def fb55 : AFunc2 := ⟨30, [.tmp g4], .seq (.reg [
oBox w3 30 g1,
oP w4 (pMv (gC (.w (.s (.bool false)))))]) (.seq (.reg [
oP w6 (pMv g0),
oR w7 (rLoad (some 20) g3),
oCall w8 39 [g6, g7],
oP w5 (pMv g8)]) (.seq (.reg [
oP w9 (pMv g5),
oP w10 (pGen fun _ t => opNil t (.t 9)),
oP w11 (pFaddr 0 g10),
oR w12 (rLoad none g11),
oK w13 (bCmp 0 intEq .eq false g12 (gC (.w (.s (.int .u64 (.lit (.ofNat 0))))))),
oP w14 (pMv g13),
oGd g14 true w15 (oP w15 (pMv g5)),
oGd g14 true w16 (oP w16 (pGen fun _ t => opNil t (.t 15))),
oGd g14 true w17 (oP w17 (pFaddr 1 g16)),
oGd g14 true w18 (oR w18 (rLoad (some 4) g17)),
oGd g14 true w19 (oP w19 (pBuild [.int .u64 (.lit (.ofNat 0)), .int .u64 (.lit (.ofNat 0)), .int .u64 (.lit (.ofNat 0)), .int .u64 (.lit (.ofNat 0))] [])),
oGd g14 true w20 (oK w20 (b2 (fun x y s K => cmpA 0 (.agg (.one (.arr 4 22 .u64))) x y s fun b s => K (vBool b) s) g18 g19)),
oP w21 (pGen fun _ t => opPick t (.t 14) (.t 20) (.c (.w (.s (.bool false))))),
oP w22 (pMv g21),
oGd g22 true w23 (oP w23 (pMv g5)),
oGd g22 true w24 (oP w24 (pGen fun _ t => opNil t (.t 23))),
oGd g22 true w25 (oP w25 (pFaddr 5 g24)),
oGd g22 true w26 (oR w26 (rLoad none g25)),
oGd g22 true w27 (oP w27 (pGen fun _ t => opLen t (.t 26))),
oGd g22 true w28 (oK w28 (bCmp 0 intEq .eq false g27 (gC (.w (.s (.int .i64 (.lit (.ofNat 0)))))))),
oP w29 (pGen fun _ t => opPick t (.t 22) (.t 28) (.c (.w (.s (.bool false))))),
oP w4 (pMv g29)]) (.ret)))⟩
theorem fp55 : ∃ fn, fb55 = denF fn ∧ ∃ func code hint, FnOk Go.Proofs.Tryz.prog TT 55 fn func code hint := f2_mk (func := Go.Proofs.Tryz.f55) (code := bodyOf Go.Proofs.Tryz.f55) (hint := hintL []) (n := 30) (res := [.tmp 4]) Go.Proofs.Tryz.func55 Go.Proofs.Tryz.call55 (by kernel_rfl) (by kernel_rfl) (by kernel_rfl) (by kernel_rfl) (by kernel_rfl)
/- (*quarry/state.State).Begin -/
def fb56 : AFunc2 := ⟨13, [], .reg [
oP w2 (pMv g0),
oM w3 (.mkmap),
oM w4 (.mkmap),
oM w5 (.mkmap),
oM w6 (.mkmap),
oM w7 (.mkmap),
oM w8 (.mkmap),
oM w9 (.mkmap),
oP w10 (pBuild [.nilm, .nilm, .nilm, .nilm, .nilm, .nilm, .nilm, .int .u64 (.lit (.ofNat 0)), .nils, .nils, .nils, .int .i64 (.lit (.ofNat 0))] [(0, 1, g3), (1, 1, g4), (2, 1, g5), (3, 1, g6), (4, 1, g7), (5, 1, g8), (6, 1, g9)]),
oP w11 (pGen fun _ t => opNil t (.t 2)),
oP w12 (pFaddr 1 g11),
oK wZ (bSt 12 g12 g10)]⟩
theorem fp56 : ∃ fn, fb56 = denF fn ∧ ∃ func code hint, FnOk Go.Proofs.Tryz.prog TT 56 fn func code hint := f2_mk (func := Go.Proofs.Tryz.f56) (code := bodyOf Go.Proofs.Tryz.f56) (hint := hintL []) (n := 13) (res := []) Go.Proofs.Tryz.func56 Go.Proofs.Tryz.call56 (by kernel_rfl) (by kernel_rfl) (by kernel_rfl) (by kernel_rfl) (by kernel_rfl)
/- quarry/fork.Op -/
def fb57 : AFunc2 := ⟨19, [.tmp g4], .seq (.reg [
oP w4 (pMv (gC (.w (.s (.bool false)))))]) (.seq (.reg [
oP w6 (pMv g1),
oCall w7 85 [g6],
oP w5 (pMv g7)]) (.seq (.reg [
oP w8 (pMv g5),
oK w9 (bCmp 5 gLe cGe false g8 (gC (.w (.s (.int .i64 (.lit (.ofNat 0))))))),
oP w10 (pMv g9),
oGd g10 true w11 (oP w11 (pMv g0)),
oGd g10 true w12 (oP w12 (pMv g5)),
oGd g10 true w13 (oK w13 (bCmp 5 gLe cGe false g11 g12)),
oP w14 (pGen fun _ t => opPick t (.t 10) (.t 13) (.c (.w (.s (.bool false))))),
oP w15 (pMv g14),
oGd g15 true w16 (oP w16 (pMv g0)),
oGd g15 true w17 (oK w17 (bCmp 3 intLe .le false g16 (gC (.w (.s (.int .i64 (.lit (.ofNat 15)))))))),
oP w18 (pGen fun _ t => opPick t (.t 15) (.t 17) (.c (.w (.s (.bool false))))),
oP w4 (pMv g18)]) (.ret)))⟩
theorem fp57 : ∃ fn, fb57 = denF fn ∧ ∃ func code hint, FnOk Go.Proofs.Tryz.prog TT 57 fn func code hint := f2_mk (func := Go.Proofs.Tryz.f57) (code := bodyOf Go.Proofs.Tryz.f57) (hint := hintL []) (n := 19) (res := [.tmp 4]) Go.Proofs.Tryz.func57 Go.Proofs.Tryz.call57 (by kernel_rfl) (by kernel_rfl) (by kernel_rfl) (by kernel_rfl) (by kernel_rfl)
/- quarry/code.shape -/
def fb58 : AFunc2 := ⟨53, [.tmp g2, .tmp g3], .seq (.reg [
oP w2 (pMv (gC (.w (.s (.int .i64 (.lit (.ofNat 0))))))),
oP w3 (pMv (gC (.w (.s (.int .i64 (.lit (.ofNat 0)))))))]) (.seq (.seq (.reg [
oP w4 (pMv g0)]) (.block 0 (.seq (.seq (.reg [
oK w6 (bCmp 0 intEq .eq false g4 (gC (.w (.s (.int .i64 (.lit (.ofNat 0))))))),
oP w5 (pMv g6)]) (.cond g5 (.skip) (.reg [
oK w7 (bCmp 0 intEq .eq false g4 (gC (.w (.s (.int .i64 (.lit (.ofNat 91))))))),
oP w5 (pMv g7)]))) (.cond g5 (.seq (.reg [
oP w2 (pMv (gC (.w (.s (.int .i64 (.lit (.ofNat 0))))))),
oP w3 (pMv (gC (.w (.s (.int .i64 (.lit (.ofNat 0)))))))]) (.ret)) (.seq (.seq (.reg [
oK w9 (bCmp 0 intEq .eq false g4 (gC (.w (.s (.int .i64 (.lit (.ofNat 21))))))),
oP w8 (pMv g9)]) (.cond g8 (.skip) (.seq (.reg [
oK w10 (bCmp 0 intEq .eq false g4 (gC (.w (.s (.int .i64 (.lit (.ofNat 25))))))),
oP w8 (pMv g10)]) (.cond g8 (.skip) (.seq (.reg [
oK w11 (bCmp 0 intEq .eq false g4 (gC (.w (.s (.int .i64 (.lit (.ofNat 49))))))),
oP w8 (pMv g11)]) (.cond g8 (.skip) (.seq (.reg [
oK w12 (bCmp 0 intEq .eq false g4 (gC (.w (.s (.int .i64 (.lit (.ofNat 53))))))),
oP w8 (pMv g12)]) (.cond g8 (.skip) (.seq (.reg [
oK w13 (bCmp 0 intEq .eq false g4 (gC (.w (.s (.int .i64 (.lit (.ofNat 59))))))),
oP w8 (pMv g13)]) (.cond g8 (.skip) (.seq (.reg [
oK w14 (bCmp 0 intEq .eq false g4 (gC (.w (.s (.int .i64 (.lit (.ofNat 63))))))),
oP w8 (pMv g14)]) (.cond g8 (.skip) (.seq (.reg [
oK w15 (bCmp 0 intEq .eq false g4 (gC (.w (.s (.int .i64 (.lit (.ofNat 64))))))),
oP w8 (pMv g15)]) (.cond g8 (.skip) (.seq (.reg [
oK w16 (bCmp 0 intEq .eq false g4 (gC (.w (.s (.int .i64 (.lit (.ofNat 73))))))),
oP w8 (pMv g16)]) (.cond g8 (.skip) (.seq (.reg [
oK w17 (bCmp 0 intEq .eq false g4 (gC (.w (.s (.int .i64 (.lit (.ofNat 81))))))),
oP w8 (pMv g17)]) (.cond g8 (.skip) (.seq (.reg [
oK w18 (bCmp 0 intEq .eq false g4 (gC (.w (.s (.int .i64 (.lit (.ofNat 84))))))),
oP w8 (pMv g18)]) (.cond g8 (.skip) (.reg [
oK w19 (bCmp 0 intEq .eq false g4 (gC (.w (.s (.int .i64 (.lit (.ofNat 92))))))),
oP w8 (pMv g19)]))))))))))))))))))))) (.cond g8 (.seq (.reg [
oP w2 (pMv (gC (.w (.s (.int .i64 (.lit (.ofNat 1))))))),
oP w3 (pMv (gC (.w (.s (.int .i64 (.lit (.ofNat 1)))))))]) (.ret)) (.seq (.seq (.reg [
oK w21 (bCmp 0 intEq .eq false g4 (gC (.w (.s (.int .i64 (.lit (.ofNat 80))))))),
oP w20 (pMv g21)]) (.cond g20 (.skip) (.seq (.reg [
oK w22 (bCmp 0 intEq .eq false g4 (gC (.w (.s (.int .i64 (.lit (.ofNat 86))))))),
oP w20 (pMv g22)]) (.cond g20 (.skip) (.reg [
oK w23 (bCmp 0 intEq .eq false g4 (gC (.w (.s (.int .i64 (.lit (.ofNat 255))))))),
oP w20 (pMv g23)]))))) (.cond g20 (.seq (.reg [
oP w2 (pMv (gC (.w (.s (.int .i64 (.lit (.ofNat 1))))))),
oP w3 (pMv (gC (.w (.s (.int .i64 (.lit (.ofNat 0)))))))]) (.ret)) (.seq (.seq (.reg [
oK w25 (bCmp 0 intEq .eq false g4 (gC (.w (.s (.int .i64 (.lit (.ofNat 82))))))),
oP w24 (pMv g25)]) (.cond g24 (.skip) (.seq (.reg [
oK w26 (bCmp 0 intEq .eq false g4 (gC (.w (.s (.int .i64 (.lit (.ofNat 83))))))),
oP w24 (pMv g26)]) (.cond g24 (.skip) (.seq (.reg [
oK w27 (bCmp 0 intEq .eq false g4 (gC (.w (.s (.int .i64 (.lit (.ofNat 85))))))),
oP w24 (pMv g27)]) (.cond g24 (.skip) (.seq (.reg [
oK w28 (bCmp 0 intEq .eq false g4 (gC (.w (.s (.int .i64 (.lit (.ofNat 87))))))),
oP w24 (pMv g28)]) (.cond g24 (.skip) (.seq (.reg [
oK w29 (bCmp 0 intEq .eq false g4 (gC (.w (.s (.int .i64 (.lit (.ofNat 93))))))),
oP w24 (pMv g29)]) (.cond g24 (.skip) (.seq (.reg [
oK w30 (bCmp 0 intEq .eq false g4 (gC (.w (.s (.int .i64 (.lit (.ofNat 243))))))),
oP w24 (pMv g30)]) (.cond g24 (.skip) (.reg [
oK w31 (bCmp 0 intEq .eq false g4 (gC (.w (.s (.int .i64 (.lit (.ofNat 253))))))),
oP w24 (pMv g31)]))))))))))))) (.cond g24 (.seq (.reg [
oP w2 (pMv (gC (.w (.s (.int .i64 (.lit (.ofNat 2))))))),
oP w3 (pMv (gC (.w (.s (.int .i64 (.lit (.ofNat 0)))))))]) (.ret)) (.seq (.seq (.reg [
oK w33 (bCmp 0 intEq .eq false g4 (gC (.w (.s (.int .i64 (.lit (.ofNat 8))))))),
oP w32 (pMv g33)]) (.cond g32 (.skip) (.seq (.reg [
oK w34 (bCmp 0 intEq .eq false g4 (gC (.w (.s (.int .i64 (.lit (.ofNat 9))))))),
oP w32 (pMv g34)]) (.cond g32 (.skip) (.reg [
oK w35 (bCmp 0 intEq .eq false g4 (gC (.w (.s (.int .i64 (.lit (.ofNat 240))))))),
oP w32 (pMv g35)]))))) (.cond g32 (.seq (.reg [
oP w2 (pMv (gC (.w (.s (.int .i64 (.lit (.ofNat 3))))))),
oP w3 (pMv (gC (.w (.s (.int .i64 (.lit (.ofNat 1)))))))]) (.ret)) (.seq (.seq (.reg [
oK w37 (bCmp 0 intEq .eq false g4 (gC (.w (.s (.int .i64 (.lit (.ofNat 55))))))),
oP w36 (pMv g37)]) (.cond g36 (.skip) (.seq (.reg [
oK w38 (bCmp 0 intEq .eq false g4 (gC (.w (.s (.int .i64 (.lit (.ofNat 57))))))),
oP w36 (pMv g38)]) (.cond g36 (.skip) (.seq (.reg [
oK w39 (bCmp 0 intEq .eq false g4 (gC (.w (.s (.int .i64 (.lit (.ofNat 62))))))),
oP w36 (pMv g39)]) (.cond g36 (.skip) (.reg [
oK w40 (bCmp 0 intEq .eq false g4 (gC (.w (.s (.int .i64 (.lit (.ofNat 94))))))),
oP w36 (pMv g40)]))))))) (.cond g36 (.seq (.reg [
oP w2 (pMv (gC (.w (.s (.int .i64 (.lit (.ofNat 3))))))),
oP w3 (pMv (gC (.w (.s (.int .i64 (.lit (.ofNat 0)))))))]) (.ret)) (.seq (.reg [
oK w42 (bCmp 0 intEq .eq false g4 (gC (.w (.s (.int .i64 (.lit (.ofNat 60))))))),
oP w41 (pMv g42)]) (.cond g41 (.seq (.reg [
oP w2 (pMv (gC (.w (.s (.int .i64 (.lit (.ofNat 4))))))),
oP w3 (pMv (gC (.w (.s (.int .i64 (.lit (.ofNat 0)))))))]) (.ret)) (.seq (.reg [
oK w44 (bCmp 0 intEq .eq false g4 (gC (.w (.s (.int .i64 (.lit (.ofNat 245))))))),
oP w43 (pMv g44)]) (.cond g43 (.seq (.reg [
oP w2 (pMv (gC (.w (.s (.int .i64 (.lit (.ofNat 4))))))),
oP w3 (pMv (gC (.w (.s (.int .i64 (.lit (.ofNat 1)))))))]) (.ret)) (.seq (.seq (.reg [
oK w46 (bCmp 0 intEq .eq false g4 (gC (.w (.s (.int .i64 (.lit (.ofNat 244))))))),
oP w45 (pMv g46)]) (.cond g45 (.skip) (.reg [
oK w47 (bCmp 0 intEq .eq false g4 (gC (.w (.s (.int .i64 (.lit (.ofNat 250))))))),
oP w45 (pMv g47)]))) (.cond g45 (.seq (.reg [
oP w2 (pMv (gC (.w (.s (.int .i64 (.lit (.ofNat 6))))))),
oP w3 (pMv (gC (.w (.s (.int .i64 (.lit (.ofNat 1)))))))]) (.ret)) (.seq (.seq (.reg [
oK w49 (bCmp 0 intEq .eq false g4 (gC (.w (.s (.int .i64 (.lit (.ofNat 241))))))),
oP w48 (pMv g49)]) (.cond g48 (.skip) (.reg [
oK w50 (bCmp 0 intEq .eq false g4 (gC (.w (.s (.int .i64 (.lit (.ofNat 242))))))),
oP w48 (pMv g50)]))) (.cond g48 (.seq (.reg [
oP w2 (pMv (gC (.w (.s (.int .i64 (.lit (.ofNat 7))))))),
oP w3 (pMv (gC (.w (.s (.int .i64 (.lit (.ofNat 1)))))))]) (.ret)) (.skip))))))))))))))))))))))) (.seq (.seq (.reg [
oP w51 (pMv g0),
oK w52 (bCmp 2 lLt cGe true g51 (gC (.w (.s (.int .i64 (.lit (.ofNat 48)))))))]) (.cond g52 (.seq (.reg [
oP w2 (pMv (gC (.w (.s (.int .i64 (.lit (.ofNat 2))))))),
oP w3 (pMv (gC (.w (.s (.int .i64 (.lit (.ofNat 1)))))))]) (.ret)) (.skip))) (.seq (.reg [
oP w2 (pMv (gC (.w (.s (.int .i64 (.lit (.ofNat 0))))))),
oP w3 (pMv (gC (.w (.s (.int .i64 (.lit (.ofNat 1)))))))]) (.ret))))⟩
theorem fp58 : ∃ fn, fb58 = denF fn ∧ ∃ func code hint, FnOk Go.Proofs.Tryz.prog TT 58 fn func code hint := f2_mk (func := Go.Proofs.Tryz.f58) (code := bodyOf Go.Proofs.Tryz.f58) (hint := hintL []) (n := 53) (res := [.tmp 2, .tmp 3]) Go.Proofs.Tryz.func58 Go.Proofs.Tryz.call58 (by kernel_rfl) (by kernel_rfl) (by kernel_rfl) (by kernel_rfl) (by kernel_rfl)
/- quarry/fork.pick -/
def fb60 : AFunc2 := ⟨22, [.tmp g4], .seq (.reg [
oP w4 (pMv (gC (.w (.s (.int .u64 (.lit (.ofNat 0)))))))]) (.seq (.reg [
oP w5 (pMv (gC (.w (.s (.int .u64 (.lit (.ofNat 0)))))))]) (.seq (.seq (.reg [
oP w8 (pMv g1),
oP w9 (pGen fun _ t => opLen t (.t 8)),
oP w10 (pMv (gC (.w (.s (.int .i64 (.lit (.ofNat 0)))))))]) (.block 0 (.loop (.seq (.reg [
oK w11 (bCmp 2 lLt cGe true g10 g9)]) (.seq (.cond g11 (.skip) (.exit 0)) (.seq (.block 1 (.seq (.reg [
oP w12 (pIaddrS 2 g8 g10),
oR w13 (rLoad (some 2) g12),
oAlloc w7 150 [.int .i64 (.lit (.ofNat 0)), .int .u64 (.lit (.ofNat 0))],
oK wZ (bSt 2 g7 g13)]) (.seq (.reg [
oP w14 (pMv g0),
oP w15 (pFaddr 0 g7),
oR w16 (rLoad none g15),
oK w17 (bCmp 5 gLe cGe false g14 g16)]) (.cond g17 (.reg [
oP w18 (pFaddr 1 g7),
oR w19 (rLoad none g18),
oP w5 (pMv g19)]) (.skip))))) (.reg [
oP w20 (pAr 0 g10 (gC (.w (.s (.int .i64 (.lit (.ofNat 1))))))),
oP w10 (pMv g20)]))))))) (.seq (.reg [
oP w21 (pMv g5),
oP w4 (pMv g21)]) (.ret))))⟩
theorem fp60 : ∃ fn, fb60 = denF fn ∧ ∃ func code hint, FnOk Go.Proofs.Tryz.prog TT 60 fn func code hint := f2_mk (func := Go.Proofs.Tryz.f60) (code := bodyOf Go.Proofs.Tryz.f60) (hint := hintL []) (n := 22) (res := [.tmp 4]) Go.Proofs.Tryz.func60 Go.Proofs.Tryz.call60 (by kernel_rfl) (by kernel_rfl) (by kernel_rfl) (by kernel_rfl) (by kernel_rfl)
/- quarry/gas.within -/
def fb61 : AFunc2 := ⟨15, [.tmp g6], .seq (.reg [
oP w6 (pMv (gC (.w (.s (.bool false)))))]) (.seq (.reg [
oP w7 (pMv g0),
oP w8 (pMv g1),
oK w9 (bCmp 5 gLe cGe false g7 g8),
oP w10 (pMv g9),
oGd g10 true w11 (oP w11 (pMv g0)),
oGd g10 true w12 (oP w12 (pMv g2)),
oGd g10 true w13 (oK w13 (bCmp 3 intLe .le false g11 g12)),
oP w14 (pGen fun _ t => opPick t (.t 10) (.t 13) (.c (.w (.s (.bool false))))),
oP w6 (pMv g14)]) (.ret))⟩
theorem fp61 : ∃ fn, fb61 = denF fn ∧ ∃ func code hint, FnOk Go.Proofs.Tryz.prog TT 61 fn func code hint := f2_mk (func := Go.Proofs.Tryz.f61) (code := bodyOf Go.Proofs.Tryz.f61) (hint := hintL []) (n := 15) (res := [.tmp 6]) Go.Proofs.Tryz.func61 Go.Proofs.Tryz.call61 (by kernel_rfl) (by kernel_rfl) (by kernel_rfl) (by kernel_rfl) (by kernel_rfl)
/- (*quarry/vm.machine).has -/
def fb63 : AFunc2 := ⟨16, [.tmp g6], .seq (.reg [
oBox w4 30 g1,
oBox w5 24 g2,
oP w6 (pMv (gC (.w (.s (.bool false)))))]) (.seq (.draw [
⟨0, ⟨(some 7), .p (.mv (.t 0)), none⟩, 0, 0⟩,
⟨1, ⟨(some 8), .p (.nilCheck (.t 7)), none⟩, 1, 0⟩,
⟨2, ⟨(some 9), .p (.faddr 89 (.t 8)), none⟩, 3, 0⟩,
⟨3, ⟨(some 10), .r (.load none (.t 9)), none⟩, 7, 0⟩,
⟨4, ⟨(some 11), .r (.load (some 20) (.t 4)), none⟩, 0, 0⟩,
⟨6, ⟨(some 13), .r (.load (some 4) (.t 5)), none⟩, 0, 0⟩,
⟨5, ⟨(some 12), .b (.call 34 [(.t 10), (.t 11)]), none⟩, 31, 0⟩,
⟨7, ⟨(some 14), .b (.call 86 [(.t 12), (.t 13)]), none⟩, 127, 0⟩,
⟨8, ⟨(some 15), .b (.cmp 5 .int (.t 14) (.c (.w (.s (.int .i64 (.lit (.ofNat 0))))))), none⟩, 255, 0⟩,
⟨9, ⟨(some 6), .p (.mv (.t 15)), none⟩, 511, 0⟩]) (.ret))⟩
theorem fp63 : ∃ fn, fb63 = denF fn ∧ ∃ func code hint, FnOk Go.Proofs.Tryz.prog TT 63 fn func code hint := f2_mk (func := Go.Proofs.Tryz.f63) (code := bodyOf Go.Proofs.Tryz.f63) (hint := hintL [(1, [(0, 0), (1, 0), (2, 0), (3, 0), (4, 0), (6, 0), (5, 0), (7, 0), (8, 0), (9, 0)])]) (n := 16) (res := [.tmp 6]) Go.Proofs.Tryz.func63 Go.Proofs.Tryz.call63 (by kernel_rfl) (by kernel_rfl) (by kernel_rfl) (by kernel_rfl) (by kernel_rfl)
/- quarry/vm.refused -/
def fb64 : AFunc2 := ⟨5, [.cell (rLoad (some 23) g2)], .seq (.reg [
oAlloc w2 131 [.int .i64 (.lit (.ofNat 0)), .nils, .int .u64 (.lit (.ofNat 0)), .int .u8 (.lit (.ofNat 0)), .int .u8 (.lit (.ofNat 0)), .int .u8 (.lit (.ofNat 0)), .int .u8 (.lit (.ofNat 0)), .int .u8 (.lit (.ofNat 0)), .int .u8 (.lit (.ofNat 0)), .int .u8 (.lit (.ofNat 0)), .int .u8 (.lit (.ofNat 0)), .int .u8 (.lit (.ofNat 0)), .int .u8 (.lit (.ofNat 0)), .int .u8 (.lit (.ofNat 0)), .int .u8 (.lit (.ofNat 0)), .int .u8 (.lit (.ofNat 0)), .int .u8 (.lit (.ofNat 0)), .int .u8 (.lit (.ofNat 0)), .int .u8 (.lit (.ofNat 0)), .int .u8 (.lit (.ofNat 0)), .int .u8 (.lit (.ofNat 0)), .int .u8 (.lit (.ofNat 0)), .int .u8 (.lit (.ofNat 0))]]) (.seq (.reg [
oP w3 (pMv g0),
oP w4 (pBuild [.int .i64 (.lit (.ofNat 0)), .nils, .int .u64 (.lit (.ofNat 0)), .int .u8 (.lit (.ofNat 0)), .int .u8 (.lit (.ofNat 0)), .int .u8 (.lit (.ofNat 0)), .int .u8 (.lit (.ofNat 0)), .int .u8 (.lit (.ofNat 0)), .int .u8 (.lit (.ofNat 0)), .int .u8 (.lit (.ofNat 0)), .int .u8 (.lit (.ofNat 0)), .int .u8 (.lit (.ofNat 0)), .int .u8 (.lit (.ofNat 0)), .int .u8 (.lit (.ofNat 0)), .int .u8 (.lit (.ofNat 0)), .int .u8 (.lit (.ofNat 0)), .int .u8 (.lit (.ofNat 0)), .int .u8 (.lit (.ofNat 0)), .int .u8 (.lit (.ofNat 0)), .int .u8 (.lit (.ofNat 0)), .int .u8 (.lit (.ofNat 0)), .int .u8 (.lit (.ofNat 0)), .int .u8 (.lit (.ofNat 0))] [(0, 1, (gC (.w (.s (.int .i64 (.lit (.ofNat 3))))))), (2, 1, g3)]),
oK wZ (bSt 23 g2 g4)]) (.ret))⟩
theorem fp64 : ∃ fn, fb64 = denF fn ∧ ∃ func code hint, FnOk Go.Proofs.Tryz.prog TT 64 fn func code hint := f2_mk (func := Go.Proofs.Tryz.f64) (code := bodyOf Go.Proofs.Tryz.f64) (hint := hintL []) (n := 5) (res := [.cell 2 (some 23)]) Go.Proofs.Tryz.func64 Go.Proofs.Tryz.call64 (by kernel_rfl) (by kernel_rfl) (by kernel_rfl) (by kernel_rfl) (by kernel_rfl)
/- (*quarry/vm.machine).from -/
def fb66 : AFunc2 := ⟨11, [.tmp g4], .seq (.reg [
oP w4 (pMv (gC (.w (.s (.bool false)))))]) (.seq (.reg [
oP w5 (pMv g0),
oP w6 (pGen fun _ t => opNil t (.t 5)),
oP w7 (pFaddr 0 g6),
oR w8 (rLoad none g7),
oP w9 (pMv g1),
oK w10 (bCmp 5 gLe cGe false g8 g9),
oP w4 (pMv g10)]) (.ret))⟩
theorem fp66 : ∃ fn, fb66 = denF fn ∧ ∃ func code hint, FnOk Go.Proofs.Tryz.prog TT 66 fn func code hint := f2_mk (func := Go.Proofs.Tryz.f66) (code := bodyOf Go.Proofs.Tryz.f66) (hint := hintL []) (n := 11) (res := [.tmp 4]) Go.Proofs.Tryz.func66 Go.Proofs.Tryz.call66 (by kernel_rfl) (by kernel_rfl) (by kernel_rfl) (by kernel_rfl) (by kernel_rfl)
/- (*quarry/state.State).Heat -/
def fb67 : AFunc2 := ⟨23, [.tmp g4], .seq (.reg [
oBox w3 30 g1,
oP w4 (pMv (gC (.w (.s (.bool false)))))]) (.seq (.draw [
⟨0, ⟨(some 6), .p (.mv (.t 0)), none⟩, 0, 0⟩,
⟨1, ⟨(some 7), .p (.nilCheck (.t 6)), none⟩, 1, 0⟩,
⟨2, ⟨(some 8), .p (.faddr 1 (.t 7)), none⟩, 3, 0⟩,
⟨3, ⟨(some 9), .p (.faddr 2 (.t 8)), none⟩, 7, 0⟩,
⟨4, ⟨(some 10), .r (.load none (.t 9)), none⟩, 15, 0⟩,
⟨5, ⟨(some 11), .r (.load (some 20) (.t 3)), none⟩, 0, 0⟩,
⟨6, ⟨(some 12), .b (.call 41 [(.t 10), (.t 11)]), none⟩, 63, 0⟩,
⟨7, ⟨(some 5), .p (.mv (.t 12)), none⟩, 127, 0⟩]) (.seq (.draw [
⟨0, ⟨(some 13), .p (.mv (.t 0)), none⟩, 0, 0⟩,
⟨1, ⟨(some 14), .p (.mv (.t 0)), none⟩, 0, 0⟩,
⟨2, ⟨(some 15), .p (.nilCheck (.t 14)), none⟩, 2, 0⟩,
⟨3, ⟨(some 16), .p (.faddr 1 (.t 15)), none⟩, 6, 0⟩,
⟨4, ⟨(some 17), .p (.faddr 2 (.t 16)), none⟩, 14, 0⟩,
⟨5, ⟨(some 18), .r (.load none (.t 17)), none⟩, 30, 0⟩,
⟨6, ⟨(some 19), .r (.load (some 20) (.t 3)), none⟩, 0, 0⟩,
⟨7, ⟨(some 20), .p (.build [] []), none⟩, 0, 0⟩,
⟨8, ⟨(some 21), .b (.call 90 [(.t 13), (.t 18), (.t 19), (.t 20)]), none⟩, 255, 0⟩]) (.seq (.reg [
oP w22 (pMv g5),
oP w4 (pMv g22)]) (.ret))))⟩
theorem fp67 : ∃ fn, fb67 = denF fn ∧ ∃ func code hint, FnOk Go.Proofs.Tryz.prog TT 67 fn func code hint := f2_mk (func := Go.Proofs.Tryz.f67) (code := bodyOf Go.Proofs.Tryz.f67) (hint := hintL [(1, [(0, 0), (1, 0), (2, 0), (3, 0), (4, 0), (5, 0), (6, 0), (7, 0)]), (2, [(0, 0), (1, 0), (2, 0), (3, 0), (4, 0), (5, 0), (6, 0), (7, 0), (8, 0)])]) (n := 23) (res := [.tmp 4]) Go.Proofs.Tryz.func67 Go.Proofs.Tryz.call67 (by kernel_rfl) (by kernel_rfl) (by kernel_rfl) (by kernel_rfl) (by kernel_rfl)
/- quarry/vm.failed -/
def fb68 : AFunc2 := ⟨2, [.cell (rLoad (some 23) g0)], .seq (.reg [
oAlloc w0 131 [.int .i64 (.lit (.ofNat 0)), .nils, .int .u64 (.lit (.ofNat 0)), .int .u8 (.lit (.ofNat 0)), .int .u8 (.lit (.ofNat 0)), .int .u8 (.lit (.ofNat 0)), .int .u8 (.lit (.ofNat 0)), .int .u8 (.lit (.ofNat 0)), .int .u8 (.lit (.ofNat 0)), .int .u8 (.lit (.ofNat 0)), .int .u8 (.lit (.ofNat 0)), .int .u8 (.lit (.ofNat 0)), .int .u8 (.lit (.ofNat 0)), .int .u8 (.lit (.ofNat 0)), .int .u8 (.lit (.ofNat 0)), .int .u8 (.lit (.ofNat 0)), .int .u8 (.lit (.ofNat 0)), .int .u8 (.lit (.ofNat 0)), .int .u8 (.lit (.ofNat 0)), .int .u8 (.lit (.ofNat 0)), .int .u8 (.lit (.ofNat 0)), .int .u8 (.lit (.ofNat 0)), .int .u8 (.lit (.ofNat 0))]]) (.seq (.reg [
oP w1 (pBuild [.int .i64 (.lit (.ofNat 0)), .nils, .int .u64 (.lit (.ofNat 0)), .int .u8 (.lit (.ofNat 0)), .int .u8 (.lit (.ofNat 0)), .int .u8 (.lit (.ofNat 0)), .int .u8 (.lit (.ofNat 0)), .int .u8 (.lit (.ofNat 0)), .int .u8 (.lit (.ofNat 0)), .int .u8 (.lit (.ofNat 0)), .int .u8 (.lit (.ofNat 0)), .int .u8 (.lit (.ofNat 0)), .int .u8 (.lit (.ofNat 0)), .int .u8 (.lit (.ofNat 0)), .int .u8 (.lit (.ofNat 0)), .int .u8 (.lit (.ofNat 0)), .int .u8 (.lit (.ofNat 0)), .int .u8 (.lit (.ofNat 0)), .int .u8 (.lit (.ofNat 0)), .int .u8 (.lit (.ofNat 0)), .int .u8 (.lit (.ofNat 0)), .int .u8 (.lit (.ofNat 0)), .int .u8 (.lit (.ofNat 0))] [(0, 1, (gC (.w (.s (.int .i64 (.lit (.ofNat 2)))))))]),
oK wZ (bSt 23 g0 g1)]) (.ret))⟩
theorem fp68 : ∃ fn, fb68 = denF fn ∧ ∃ func code hint, FnOk Go.Proofs.Tryz.prog TT 68 fn func code hint := f2_mk (func := Go.Proofs.Tryz.f68) (code := bodyOf Go.Proofs.Tryz.f68) (hint := hintL []) (n := 2) (res := [.cell 0 (some 23)]) Go.Proofs.Tryz.func68 Go.Proofs.Tryz.call68 (by kernel_rfl) (by kernel_rfl) (by kernel_rfl) (by kernel_rfl) (by kernel_rfl)
/- (*quarry/state.State).Mark -/
def fb69 : AFunc2 := ⟨38, [.tmp g2], .seq (.reg [
oP w2 (pMv (gC (.w (.s (.int .i64 (.lit (.ofNat 0)))))))]) (.seq (.reg [
oP w4 (pMv g0),
oP w5 (pGen fun _ t => opNil t (.t 4)),
oP w6 (pFaddr 1 g5),
oP w7 (pFaddr 11 g6),
oR w8 (rLoad none g7),
oP w3 (pMv g8)]) (.seq (.reg [
oP w9 (pMv g0),
oP w10 (pGen fun _ t => opNil t (.t 9)),
oP w11 (pFaddr 1 g10),
oP w12 (pFaddr 11 g11),
oR w13 (rLoad none g12),
oP w14 (pAr 0 g13 (gC (.w (.s (.int .i64 (.lit (.ofNat 1))))))),
oP w15 (pGen fun _ t => opNil t (.t 9)),
oP w16 (pFaddr 1 g15),
oP w17 (pFaddr 11 g16),
oK wZ (bSt 1 g17 g14)]) (.seq (.draw [
⟨0, ⟨(some 18), .p (.mv (.t 0)), none⟩, 0, 0⟩,
⟨1, ⟨(some 19), .p (.mv (.t 0)), none⟩, 0, 0⟩,
⟨2, ⟨(some 20), .p (.nilCheck (.t 19)), none⟩, 2, 0⟩,
⟨3, ⟨(some 21), .p (.faddr 1 (.t 20)), none⟩, 6, 0⟩,
⟨4, ⟨(some 22), .p (.faddr 10 (.t 21)), none⟩, 14, 0⟩,
⟨5, ⟨(some 23), .r (.load none (.t 22)), none⟩, 30, 0⟩,
⟨6, ⟨(some 24), .p (.mv (.t 3)), none⟩, 0, 0⟩,
⟨7, ⟨(some 25), .p (.mv (.t 0)), none⟩, 0, 0⟩,
⟨8, ⟨(some 26), .p (.nilCheck (.t 25)), none⟩, 128, 0⟩,
⟨9, ⟨(some 27), .p (.faddr 1 (.t 26)), none⟩, 384, 0⟩,
⟨10, ⟨(some 28), .p (.faddr 9 (.t 27)), none⟩, 896, 0⟩,
⟨11, ⟨(some 29), .r (.load none (.t 28)), none⟩, 1920, 0⟩,
⟨12, ⟨(some 30), .p (.len (.t 29)), none⟩, 3968, 0⟩,
⟨13, ⟨(some 31), .p (.build [.int .i64 (.lit (.ofNat 0)), .int .i64 (.lit (.ofNat 0))] [(0, 1, (.t 24)), (1, 1, (.t 30))]), none⟩, 8128, 0⟩,
⟨14, ⟨(some 32), .m (.bslice 177 1 [.int .i64 (.lit (.ofNat 0)), .int .i64 (.lit (.ofNat 0))] [(0, 2, (.t 31))]), none⟩, 16320, 0⟩,
⟨15, ⟨(some 33), .b (.append 177 2 16 (.t 23) (.t 32)), none⟩, 32766, 0⟩,
⟨16, ⟨(some 34), .p (.nilCheck (.t 18)), none⟩, 65535, 0⟩,
⟨17, ⟨(some 35), .p (.faddr 1 (.t 34)), none⟩, 131071, 0⟩,
⟨18, ⟨(some 36), .p (.faddr 10 (.t 35)), none⟩, 262143, 0⟩,
⟨19, ⟨none, .b (.store 1 (.t 36) (.t 33)), none⟩, 524287, 0⟩]) (.seq (.reg [
oP w37 (pMv g3),
oP w2 (pMv g37)]) (.ret)))))⟩
theorem fp69 : ∃ fn, fb69 = denF fn ∧ ∃ func code hint, FnOk Go.Proofs.Tryz.prog TT 69 fn func code hint := f2_mk (func := Go.Proofs.Tryz.f69) (code := bodyOf Go.Proofs.Tryz.f69) (hint := hintL [(3, [(0, 0), (1, 0), (2, 0), (3, 0), (4, 0), (5, 0), (6, 0), (7, 0), (8, 0), (9, 0), (10, 0), (11, 0), (12, 0), (13, 0), (14, 0), (15, 0), (16, 0), (17, 0), (18, 0), (19, 0)])]) (n := 38) (res := [.tmp 2]) Go.Proofs.Tryz.func69 Go.Proofs.Tryz.call69 (by kernel_rfl) (by kernel_rfl) (by kernel_rfl) (by kernel_rfl) (by kernel_rfl)
/- (*quarry/vm.machine).pays -/
def fb71 : AFunc2 := ⟨39, [], .seq (.reg [
oBox w5 30 g1,
oBox w6 30 g2,
oBox w7 24 g3]) (.seq (.seq (.reg [
oR w8 (rLoad (some 4) g7),
oP w9 (pBuild [.int .u64 (.lit (.ofNat 0)), .int .u64 (.lit (.ofNat 0)), .int .u64 (.lit (.ofNat 0)), .int .u64 (.lit (.ofNat 0))] []),
oK w10 (b2 (fun x y s K => cmpA 0 (.agg (.one (.arr 4 22 .u64))) x y s fun b s => K (vBool b) s) g8 g9)]) (.cond g10 (.ret) (.skip))) (.seq (.draw [
⟨0, ⟨(some 11), .p (.mv (.t 0)), none⟩, 0, 0⟩,
⟨1, ⟨(some 12), .p (.nilCheck (.t 11)), none⟩, 1, 0⟩,
⟨2, ⟨(some 13), .p (.faddr 89 (.t 12)), none⟩, 3, 0⟩,
⟨3, ⟨(some 14), .r (.load none (.t 13)), none⟩, 7, 0⟩,
⟨4, ⟨(some 15), .r (.load (some 20) (.t 5)), none⟩, 0, 0⟩,
⟨5, ⟨(some 16), .p (.mv (.t 0)), none⟩, 0, 0⟩,
⟨6, ⟨(some 17), .p (.nilCheck (.t 16)), none⟩, 32, 0⟩,
⟨7, ⟨(some 18), .p (.faddr 89 (.t 17)), none⟩, 96, 0⟩,
⟨8, ⟨(some 19), .r (.load none (.t 18)), none⟩, 224, 0⟩,
⟨9, ⟨(some 20), .r (.load (some 20) (.t 5)), none⟩, 0, 0⟩,
⟨11, ⟨(some 22), .r (.load (some 4) (.t 7)), none⟩, 0, 0⟩,
⟨10, ⟨(some 21), .b (.call 34 [(.t 19), (.t 20)]), none⟩, 992, 0⟩,
⟨12, ⟨(some 23), .b (.call 94 [(.t 21), (.t 22)]), none⟩, 4064, 0⟩,
⟨13, ⟨(some 24), .b (.call 93 [(.t 14), (.t 15), (.t 23)]), none⟩, 8191, 0⟩]) (.draw [
⟨0, ⟨(some 25), .p (.mv (.t 0)), none⟩, 0, 0⟩,
⟨1, ⟨(some 26), .p (.nilCheck (.t 25)), none⟩, 1, 0⟩,
⟨2, ⟨(some 27), .p (.faddr 89 (.t 26)), none⟩, 3, 0⟩,
⟨3, ⟨(some 28), .r (.load none (.t 27)), none⟩, 7, 0⟩,
⟨4, ⟨(some 29), .r (.load (some 20) (.t 6)), none⟩, 0, 0⟩,
⟨5, ⟨(some 30), .p (.mv (.t 0)), none⟩, 0, 0⟩,
⟨6, ⟨(some 31), .p (.nilCheck (.t 30)), none⟩, 32, 0⟩,
⟨7, ⟨(some 32), .p (.faddr 89 (.t 31)), none⟩, 96, 0⟩,
⟨8, ⟨(some 33), .r (.load none (.t 32)), none⟩, 224, 0⟩,
⟨9, ⟨(some 34), .r (.load (some 20) (.t 6)), none⟩, 0, 0⟩,
⟨11, ⟨(some 36), .r (.load (some 4) (.t 7)), none⟩, 0, 0⟩,
⟨10, ⟨(some 35), .b (.call 34 [(.t 33), (.t 34)]), none⟩, 992, 0⟩,
⟨12, ⟨(some 37), .b (.call 95 [(.t 35), (.t 36)]), none⟩, 4064, 0⟩,
⟨13, ⟨(some 38), .b (.call 93 [(.t 28), (.t 29), (.t 37)]), none⟩, 8191, 0⟩])))⟩
theorem fp71 : ∃ fn, fb71 = denF fn ∧ ∃ func code hint, FnOk Go.Proofs.Tryz.prog TT 71 fn func code hint := f2_mk (func := Go.Proofs.Tryz.f71) (code := bodyOf Go.Proofs.Tryz.f71) (hint := hintL [(2, [(0, 0), (1, 0), (2, 0), (3, 0), (4, 0), (5, 0), (6, 0), (7, 0), (8, 0), (9, 0), (11, 0), (10, 0), (12, 0), (13, 0)]), (3, [(0, 0), (1, 0), (2, 0), (3, 0), (4, 0), (5, 0), (6, 0), (7, 0), (8, 0), (9, 0), (11, 0), (10, 0), (12, 0), (13, 0)])]) (n := 39) (res := []) Go.Proofs.Tryz.func71 Go.Proofs.Tryz.call71 (by kernel_rfl) (by kernel_rfl) (by kernel_rfl) (by kernel_rfl) (by kernel_rfl)
/- (*quarry/state.State).Back -/
def fb74 : AFunc2 := ⟨76, [.tmp g4], .seq (.reg [
oBox w3 3 g1,
oP w4 (pMv (gC (.w (.s (.bool false)))))]) (.seq (.reg [
oP w7 (pMv g0),
oP w8 (pGen fun _ t => opNil t (.t 7)),
oP w9 (pFaddr 1 g8),
oP w10 (pFaddr 10 g9),
oR w11 (rLoad none g10),
oP w12 (pGen fun _ t => opMkfn t 100 [(.t 3)]),
oCall w13 99 [g11, g12],
oP w5 (pMv g13)]) (.seq (.seq (.reg [
oP w14 (pMv g5),
oK w15 (bCmp 2 lLt cGe true g14 (gC (.w (.s (.int .i64 (.lit (.ofNat 0)))))))]) (.cond g15 (.seq (.reg [
oP w4 (pMv (gC (.w (.s (.bool false)))))]) (.ret)) (.skip))) (.seq (.seq (.reg [
oP w16 (pMv g0),
oP w17 (pGen fun _ t => opNil t (.t 16)),
oP w18 (pFaddr 1 g17),
oP w19 (pFaddr 9 g18),
oR w20 (rLoad none g19),
oP w21 (pGen fun _ t => opLen t (.t 20)),
oP w22 (pAr 1 g21 (gC (.w (.s (.int .i64 (.lit (.ofNat 1))))))),
oP w6 (pMv g22)]) (.block 0 (.loop (.seq (.seq (.reg [
oP w23 (pMv g6),
oP w24 (pMv g0),
oP w25 (pGen fun _ t => opNil t (.t 24)),
oP w26 (pFaddr 1 g25),
oP w27 (pFaddr 10 g26),
oR w28 (rLoad none g27),
oP w29 (pMv g5),
oP w30 (pIaddrS 2 g28 g29),
oP w31 (pFaddr 1 g30),
oR w32 (rLoad none g31),
oK w33 (bCmp 5 gLe cGe false g23 g32)]) (.cond g33 (.skip) (.exit 0))) (.seq (.block 1 (.reg [
oP w36 (pMv g0),
oP w37 (pGen fun _ t => opNil t (.t 36)),
oP w38 (pFaddr 1 g37),
oP w39 (pFaddr 9 g38),
oR w40 (rLoad none g39),
oP w41 (pMv g6),
oP w42 (pIaddrS 1 g40 g41),
oR w43 (rLoad none g42),
oCallv w44 g43 []])) (.reg [
oP w34 (pMv g6),
oP w35 (pAr 1 g34 (gC (.w (.s (.int .i64 (.lit (.ofNat 1))))))),
oP w6 (pMv g35)])))))) (.seq (.draw [
⟨0, ⟨(some 45), .p (.mv (.t 0)), none⟩, 0, 0⟩,
⟨1, ⟨(some 46), .p (.mv (.t 0)), none⟩, 0, 0⟩,
⟨2, ⟨(some 47), .p (.nilCheck (.t 46)), none⟩, 2, 0⟩,
⟨3, ⟨(some 48), .p (.faddr 1 (.t 47)), none⟩, 6, 0⟩,
⟨4, ⟨(some 49), .p (.faddr 9 (.t 48)), none⟩, 14, 0⟩,
⟨5, ⟨(some 50), .r (.load none (.t 49)), none⟩, 30, 0⟩,
⟨6, ⟨(some 51), .p (.mv (.t 0)), none⟩, 0, 0⟩,
⟨7, ⟨(some 52), .p (.nilCheck (.t 51)), none⟩, 64, 0⟩,
⟨8, ⟨(some 53), .p (.faddr 1 (.t 52)), none⟩, 192, 0⟩,
⟨9, ⟨(some 54), .p (.faddr 10 (.t 53)), none⟩, 448, 0⟩,
⟨10, ⟨(some 55), .r (.load none (.t 54)), none⟩, 960, 0⟩,
⟨11, ⟨(some 56), .p (.mv (.t 5)), none⟩, 0, 0⟩,
⟨12, ⟨(some 57), .p (.iaddrS 2 (.t 55) (.t 56)), none⟩, 4032, 0⟩,
⟨13, ⟨(some 58), .p (.faddr 1 (.t 57)), none⟩, 8128, 0⟩,
⟨14, ⟨(some 59), .r (.load none (.t 58)), none⟩, 16320, 0⟩,
⟨15, ⟨(some 60), .p (.slice 1 (.t 50) none (some (.t 59))), none⟩, 32766, 0⟩,
⟨16, ⟨(some 61), .p (.nilCheck (.t 45)), none⟩, 65535, 0⟩,
⟨17, ⟨(some 62), .p (.faddr 1 (.t 61)), none⟩, 131071, 0⟩,
⟨18, ⟨(some 63), .p (.faddr 9 (.t 62)), none⟩, 262143, 0⟩,
⟨19, ⟨none, .b (.store 1 (.t 63) (.t 60)), none⟩, 524287, 0⟩]) (.seq (.reg [
oP w64 (pMv g0),
oP w65 (pMv g0),
oP w66 (pGen fun _ t => opNil t (.t 65)),
oP w67 (pFaddr 1 g66),
oP w68 (pFaddr 10 g67),
oR w69 (rLoad none g68),
oP w70 (pMv g5),
oP w71 (pAr 0 g70 (gC (.w (.s (.int .i64 (.lit (.ofNat 1))))))),
oP w72 (pGen fun _ t => opSlice t 2 (.t 69) none (some (.t 71))),
oP w73 (pGen fun _ t => opNil t (.t 64)),
oP w74 (pFaddr 1 g73),
oP w75 (pFaddr 10 g74),
oK wZ (bSt 1 g75 g72)]) (.seq (.reg [
oP w4 (pMv (gC (.w (.s (.bool true)))))]) (.ret)))))))⟩
theorem fp74 : ∃ fn, fb74 = denF fn ∧ ∃ func code hint, FnOk Go.Proofs.Tryz.prog TT 74 fn func code hint := f2_mk (func := Go.Proofs.Tryz.f74) (code := bodyOf Go.Proofs.Tryz.f74) (hint := hintL [(8, [(0, 0), (1, 0), (2, 0), (3, 0), (4, 0), (5, 0), (6, 0), (7, 0), (8, 0), (9, 0), (10, 0), (11, 0), (12, 0), (13, 0), (14, 0), (15, 0), (16, 0), (17, 0), (18, 0), (19, 0)])]) (n := 76) (res := [.tmp 4]) Go.Proofs.Tryz.func74 Go.Proofs.Tryz.call74 (by kernel_rfl) (by kernel_rfl) (by kernel_rfl) (by kernel_rfl) (by kernel_rfl)
/- quarry/fork.Native -/
def fb80 : AFunc2 := ⟨33, [.tmp g4], .seq (.reg [
oBox w3 30 g1,
oP w4 (pMv (gC (.w (.s (.int .i64 (.lit (.ofNat 0)))))))]) (.seq (.reg [
oP w6 (pIaddrA 20 1 g3 (gC (.w (.s (.int .i64 (.lit (.ofNat 19))))))),
oR w7 (rLoad none g6),
oP w8 (pConv .i64 g7),
oP w5 (pMv g8)]) (.seq (.seq (.reg [
oR w9 (rLoad (some 20) g3),
oP w10 (pMv g5),
oP w11 (pConv .u8 g10),
oP w12 (pBuild zz0 [(19, 1, g11)]),
oK w13 (b2 (fun x y s K => cmpA 1 (.agg (.one (.arr 20 5 .u8))) x y s fun b s => K (vBool b) s) g9 g12),
oP w14 (pMv g13),
oGd g14 false w15 (oP w15 (pMv g0)),
oGd g14 false w16 (oK w16 (bCmp 2 lLt cGe true g15 (gC (.w (.s (.int .i64 (.lit (.ofNat 0)))))))),
oP w17 (pGen fun _ t => opPick t (.t 14) (.c (.w (.s (.bool true)))) (.t 16)),
oP w18 (pMv g17),
oGd g18 false w19 (oP w19 (pMv g0)),
oGd g18 false w20 (oK w20 (bCmp 4 nLe .le true g19 (gC (.w (.s (.int .i64 (.lit (.ofNat 15)))))))),
oP w21 (pGen fun _ t => opPick t (.t 18) (.c (.w (.s (.bool true)))) (.t 20))]) (.cond g21 (.seq (.reg [
oP w4 (pMv (gC (.w (.s (.int .i64 (.lit (.ofNat 0)))))))]) (.ret)) (.skip))) (.seq (.seq (.reg [
oP w22 (pMv g5),
oP w23 (pMv g0),
oP w24 (pBuild [.int .i64 (.lit (.ofNat 0)), .int .u64 (.lit (.ofNat 0))] [(0, 1, (gC (.w (.s (.int .i64 (.lit (.ofNat 0))))))), (1, 1, (gC (.w (.s (.int .u64 (.lit (.ofNat 4)))))))]),
oP w25 (pBuild [.int .i64 (.lit (.ofNat 0)), .int .u64 (.lit (.ofNat 0))] [(0, 1, (gC (.w (.s (.int .i64 (.lit (.ofNat 4))))))), (1, 1, (gC (.w (.s (.int .u64 (.lit (.ofNat 8)))))))]),
oP w26 (pBuild [.int .i64 (.lit (.ofNat 0)), .int .u64 (.lit (.ofNat 0))] [(0, 1, (gC (.w (.s (.int .i64 (.lit (.ofNat 7))))))), (1, 1, (gC (.w (.s (.int .u64 (.lit (.ofNat 9)))))))]),
oP w27 (pBuild [.int .i64 (.lit (.ofNat 0)), .int .u64 (.lit (.ofNat 0))] [(0, 1, (gC (.w (.s (.int .i64 (.lit (.ofNat 15))))))), (1, 1, (gC (.w (.s (.int .u64 (.lit (.ofNat 10)))))))]),
oM w28 (.bslice 150 4 [.int .i64 (.lit (.ofNat 0)), .int .u64 (.lit (.ofNat 0))] [(0, 2, (.t 24)), (2, 2, (.t 25)), (4, 2, (.t 26)), (6, 2, (.t 27))]),
oCall w29 60 [g23, g28],
oP w30 (pConv .i64 g29),
oK w31 (bCmp 3 intLe .le false g22 g30)]) (.cond g31 (.seq (.reg [
oP w32 (pMv g5),
oP w4 (pMv g32)]) (.ret)) (.skip))) (.seq (.reg [
oP w4 (pMv (gC (.w (.s (.int .i64 (.lit (.ofNat 0)))))))]) (.ret)))))⟩
theorem fp80 : ∃ fn, fb80 = denF fn ∧ ∃ func code hint, FnOk Go.Proofs.Tryz.prog TT 80 fn func code hint := f2_mk (func := Go.Proofs.Tryz.f80) (code := bodyOf Go.Proofs.Tryz.f80) (hint := hintL []) (n := 33) (res := [.tmp 4]) Go.Proofs.Tryz.func80 Go.Proofs.Tryz.call80 (by kernel_rfl) (by kernel_rfl) (by kernel_rfl) (by kernel_rfl) (by kernel_rfl)
/- (*quarry/vm.machine).enters -/
def fb81 : AFunc2 := ⟨29, [.cell (rLoad (some 23) g6)], .seq (.reg [
oBox w4 129 g1,
oAlloc w6 131 [.int .i64 (.lit (.ofNat 0)), .nils, .int .u64 (.lit (.ofNat 0)), .int .u8 (.lit (.ofNat 0)), .int .u8 (.lit (.ofNat 0)), .int .u8 (.lit (.ofNat 0)), .int .u8 (.lit (.ofNat 0)), .int .u8 (.lit (.ofNat 0)), .int .u8 (.lit (.ofNat 0)), .int .u8 (.lit (.ofNat 0)), .int .u8 (.lit (.ofNat 0)), .int .u8 (.lit (.ofNat 0)), .int .u8 (.lit (.ofNat 0)), .int .u8 (.lit (.ofNat 0)), .int .u8 (.lit (.ofNat 0)), .int .u8 (.lit (.ofNat 0)), .int .u8 (.lit (.ofNat 0)), .int .u8 (.lit (.ofNat 0)), .int .u8 (.lit (.ofNat 0)), .int .u8 (.lit (.ofNat 0)), .int .u8 (.lit (.ofNat 0)), .int .u8 (.lit (.ofNat 0)), .int .u8 (.lit (.ofNat 0))]]) (.seq (.reg [
oP w9 (pMv g0),
oP w10 (pGen fun _ t => opNil t (.t 9)),
oP w11 (pFaddr 89 g10),
oR w12 (rLoad none g11),
oCall w13 69 [g12],
oP w7 (pMv g13)]) (.seq (.reg [
oP w14 (pMv g2),
oCallv w15 g14 []]) (.seq (.reg [
oP w16 (pMv g0),
oR w17 (rLoad (some 68) g4),
oCall w18 104 [g16, g17],
oAlloc w8 131 [.int .i64 (.lit (.ofNat 0)), .nils, .int .u64 (.lit (.ofNat 0)), .int .u8 (.lit (.ofNat 0)), .int .u8 (.lit (.ofNat 0)), .int .u8 (.lit (.ofNat 0)), .int .u8 (.lit (.ofNat 0)), .int .u8 (.lit (.ofNat 0)), .int .u8 (.lit (.ofNat 0)), .int .u8 (.lit (.ofNat 0)), .int .u8 (.lit (.ofNat 0)), .int .u8 (.lit (.ofNat 0)), .int .u8 (.lit (.ofNat 0)), .int .u8 (.lit (.ofNat 0)), .int .u8 (.lit (.ofNat 0)), .int .u8 (.lit (.ofNat 0)), .int .u8 (.lit (.ofNat 0)), .int .u8 (.lit (.ofNat 0)), .int .u8 (.lit (.ofNat 0)), .int .u8 (.lit (.ofNat 0)), .int .u8 (.lit (.ofNat 0)), .int .u8 (.lit (.ofNat 0)), .int .u8 (.lit (.ofNat 0))],
oK wZ (bSt 23 g8 g18)]) (.seq (.seq (.reg [
oP w19 (pFaddr 0 g8),
oR w20 (rLoad none g19),
oK w21 (bCmp 1 nEq .eq true g20 (gC (.w (.s (.int .i64 (.lit (.ofNat 0)))))))]) (.cond g21 (.reg [
oP w22 (pMv g0),
oP w23 (pGen fun _ t => opNil t (.t 22)),
oP w24 (pFaddr 89 g23),
oR w25 (rLoad none g24),
oP w26 (pMv g7),
oCall w27 74 [g25, g26]]) (.skip))) (.seq (.reg [
oR w28 (rLoad (some 23) g8),
oK wZ (bSt 23 g6 g28)]) (.ret))))))⟩
theorem fp81 : ∃ fn, fb81 = denF fn ∧ ∃ func code hint, FnOk Go.Proofs.Tryz.prog TT 81 fn func code hint := f2_mk (func := Go.Proofs.Tryz.f81) (code := bodyOf Go.Proofs.Tryz.f81) (hint := hintL []) (n := 29) (res := [.cell 6 (some 23)]) Go.Proofs.Tryz.func81 Go.Proofs.Tryz.call81 (by kernel_rfl) (by kernel_rfl) (by kernel_rfl) (by kernel_rfl) (by kernel_rfl)
/- (*quarry/vm.machine).calls$1 -/
def fb82 : AFunc2 := ⟨32, [], .seq (.seq (.draw [
⟨0, ⟨(some 2), .r (.load none (.t 0)), none⟩, 0, 0⟩,
⟨1, ⟨(some 3), .p (.nilCheck (.t 2)), none⟩, 1, 0⟩,
⟨2, ⟨(some 4), .p (.faddr 89 (.t 3)), none⟩, 3, 0⟩,
⟨3, ⟨(some 5), .r (.load none (.t 4)), none⟩, 7, 0⟩,
⟨4, ⟨(some 6), .p (.faddr 20 (.t 1)), none⟩, 0, 0⟩,
⟨5, ⟨(some 7), .r (.load (some 20) (.t 6)), none⟩, 16, 0⟩,
⟨6, ⟨(some 8), .b (.call 33 [(.t 5), (.t 7)]), none⟩, 63, 0⟩,
⟨7, ⟨(some 9), .p (.not (.t 8)), none⟩, 127, 0⟩]) (.cond g9 (.draw [
⟨0, ⟨(some 10), .r (.load none (.t 0)), none⟩, 0, 0⟩,
⟨1, ⟨(some 11), .p (.nilCheck (.t 10)), none⟩, 1, 0⟩,
⟨2, ⟨(some 12), .p (.faddr 89 (.t 11)), none⟩, 3, 0⟩,
⟨3, ⟨(some 13), .r (.load none (.t 12)), none⟩, 7, 0⟩,
⟨4, ⟨(some 14), .p (.faddr 20 (.t 1)), none⟩, 0, 0⟩,
⟨5, ⟨(some 15), .r (.load (some 20) (.t 14)), none⟩, 16, 0⟩,
⟨6, ⟨(some 16), .b (.call 83 [(.t 13), (.t 15)]), none⟩, 63, 0⟩]) (.skip))) (.seq (.draw [
⟨0, ⟨(some 17), .r (.load none (.t 0)), none⟩, 0, 0⟩,
⟨1, ⟨(some 18), .p (.nilCheck (.t 17)), none⟩, 1, 0⟩,
⟨2, ⟨(some 19), .p (.faddr 89 (.t 18)), none⟩, 3, 0⟩,
⟨3, ⟨(some 20), .r (.load none (.t 19)), none⟩, 7, 0⟩,
⟨4, ⟨(some 21), .p (.faddr 20 (.t 1)), none⟩, 0, 0⟩,
⟨5, ⟨(some 22), .r (.load (some 20) (.t 21)), none⟩, 16, 0⟩,
⟨6, ⟨(some 23), .b (.call 84 [(.t 20), (.t 22)]), none⟩, 63, 0⟩]) (.reg [
oR w24 (rLoad none g0),
oP w25 (pFaddr 0 g1),
oR w26 (rLoad (some 20) g25),
oP w27 (pFaddr 20 g1),
oR w28 (rLoad (some 20) g27),
oP w29 (pFaddr 60 g1),
oR w30 (rLoad (some 4) g29),
oCall w31 71 [g24, g26, g28, g30]]))⟩
theorem fp82 : ∃ fn, fb82 = denF fn ∧ ∃ func code hint, FnOk Go.Proofs.Tryz.prog TT 82 fn func code hint := f2_mk (func := Go.Proofs.Tryz.f82) (code := bodyOf Go.Proofs.Tryz.f82) (hint := hintL [(0, [(0, 0), (1, 0), (2, 0), (3, 0), (4, 0), (5, 0), (6, 0), (7, 0)]), (1, [(0, 0), (1, 0), (2, 0), (3, 0), (4, 0), (5, 0), (6, 0)]), (2, [(0, 0), (1, 0), (2, 0), (3, 0), (4, 0), (5, 0), (6, 0)])]) (n := 32) (res := []) Go.Proofs.Tryz.func82 Go.Proofs.Tryz.call82 (by kernel_rfl) (by kernel_rfl) (by kernel_rfl) (by kernel_rfl) (by kernel_rfl)
/- (*quarry/state.State).Open -/
def fb83 : AFunc2 := ⟨7, [], .seq (.reg [
oBox w3 30 g1]) (.reg [
oP w4 (pMv g0),
oR w5 (rLoad (some 20) g3),
oCall w6 87 [g4, g5]])⟩
theorem fp83 : ∃ fn, fb83 = denF fn ∧ ∃ func code hint, FnOk Go.Proofs.Tryz.prog TT 83 fn func code hint := f2_mk (func := Go.Proofs.Tryz.f83) (code := bodyOf Go.Proofs.Tryz.f83) (hint := hintL []) (n := 7) (res := []) Go.Proofs.Tryz.func83 Go.Proofs.Tryz.call83 (by kernel_rfl) (by kernel_rfl) (by kernel_rfl) (by kernel_rfl) (by kernel_rfl)
/- (*quarry/state.State).Touch -/
def fb84 : AFunc2 := ⟨13, [], .seq (.reg [
oBox w3 30 g1]) (.draw [
⟨0, ⟨(some 4), .p (.mv (.t 0)), none⟩, 0, 0⟩,
⟨1, ⟨(some 5), .p (.mv (.t 0)), none⟩, 0, 0⟩,
⟨2, ⟨(some 6), .p (.nilCheck (.t 5)), none⟩, 2, 0⟩,
⟨3, ⟨(some 7), .p (.faddr 1 (.t 6)), none⟩, 6, 0⟩,
⟨4, ⟨(some 8), .p (.faddr 0 (.t 7)), none⟩, 14, 0⟩,
⟨5, ⟨(some 9), .r (.load none (.t 8)), none⟩, 30, 0⟩,
⟨6, ⟨(some 10), .r (.load (some 20) (.t 3)), none⟩, 0, 0⟩,
⟨7, ⟨(some 11), .p (.build [] []), none⟩, 0, 0⟩,
⟨8, ⟨(some 12), .b (.call 90 [(.t 4), (.t 9), (.t 10), (.t 11)]), none⟩, 255, 0⟩])⟩
theorem fp84 : ∃ fn, fb84 = denF fn ∧ ∃ func code hint, FnOk Go.Proofs.Tryz.prog TT 84 fn func code hint := f2_mk (func := Go.Proofs.Tryz.f84) (code := bodyOf Go.Proofs.Tryz.f84) (hint := hintL [(1, [(0, 0), (1, 0), (2, 0), (3, 0), (4, 0), (5, 0), (6, 0), (7, 0), (8, 0)])]) (n := 13) (res := []) Go.Proofs.Tryz.func84 Go.Proofs.Tryz.call84 (by kernel_rfl) (by kernel_rfl) (by kernel_rfl) (by kernel_rfl) (by kernel_rfl)
/- quarry/fork.since -/
def fb85 : AFunc2 := ⟨76, [.tmp g2], .seq (.reg [
oP w2 (pMv (gC (.w (.s (.int .i64 (.lit (.ofNat 0)))))))]) (.seq (.block 0 (.seq (.reg [
oP w4 (pMv g0),
oK w5 (bCmp 2 lLt cGe true g4 (gC (.w (.s (.int .i64 (.lit (.ofNat 0))))))),
oP w3 (pMv g5)]) (.cond g3 (.seq (.reg [
oP w2 (pMv (gC (.w (.s (.int .i64 (.lit (.negSucc 0)))))))]) (.ret)) (.seq (.seq (.reg [
oP w7 (pMv g0),
oK w8 (bCmp 3 intLe .le false g7 (gC (.w (.s (.int .i64 (.lit (.ofNat 11))))))),
oP w6 (pMv g8)]) (.cond g6 (.skip) (.seq (.reg [
oP w9 (pMv g0),
oK w10 (bCmp 5 gLe cGe false g9 (gC (.w (.s (.int .i64 (.lit (.ofNat 16))))))),
oP w11 (pMv g10),
oGd g11 true w12 (oP w12 (pMv g0)),
oGd g11 true w13 (oK w13 (bCmp 3 intLe .le false g12 (gC (.w (.s (.int .i64 (.lit (.ofNat 26)))))))),
oP w14 (pGen fun _ t => opPick t (.t 11) (.t 13) (.c (.w (.s (.bool false))))),
oP w6 (pMv g14)]) (.cond g6 (.skip) (.seq (.reg [
oP w15 (pMv g0),
oK w16 (bCmp 0 intEq .eq false g15 (gC (.w (.s (.int .i64 (.lit (.ofNat 32))))))),
oP w6 (pMv g16)]) (.cond g6 (.skip) (.seq (.reg [
oP w17 (pMv g0),
oK w18 (bCmp 5 gLe cGe false g17 (gC (.w (.s (.int .i64 (.lit (.ofNat 48))))))),
oP w19 (pMv g18),
oGd g19 true w20 (oP w20 (pMv g0)),
oGd g19 true w21 (oK w21 (bCmp 3 intLe .le false g20 (gC (.w (.s (.int .i64 (.lit (.ofNat 60)))))))),
oP w22 (pGen fun _ t => opPick t (.t 19) (.t 21) (.c (.w (.s (.bool false))))),
oP w6 (pMv g22)]) (.cond g6 (.skip) (.seq (.reg [
oP w23 (pMv g0),
oK w24 (bCmp 5 gLe cGe false g23 (gC (.w (.s (.int .i64 (.lit (.ofNat 64))))))),
oP w25 (pMv g24),
oGd g25 true w26 (oP w26 (pMv g0)),
oGd g25 true w27 (oK w27 (bCmp 3 intLe .le false g26 (gC (.w (.s (.int .i64 (.lit (.ofNat 69)))))))),
oP w28 (pGen fun _ t => opPick t (.t 25) (.t 27) (.c (.w (.s (.bool false))))),
oP w6 (pMv g28)]) (.cond g6 (.skip) (.seq (.reg [
oP w29 (pMv g0),
oK w30 (bCmp 5 gLe cGe false g29 (gC (.w (.s (.int .i64 (.lit (.ofNat 80))))))),
oP w31 (pMv g30),
oGd g31 true w32 (oP w32 (pMv g0)),
oGd g31 true w33 (oK w33 (bCmp 3 intLe .le false g32 (gC (.w (.s (.int .i64 (.lit (.ofNat 91)))))))),
oP w34 (pGen fun _ t => opPick t (.t 31) (.t 33) (.c (.w (.s (.bool false))))),
oP w6 (pMv g34)]) (.cond g6 (.skip) (.seq (.reg [
oP w35 (pMv g0),
oK w36 (bCmp 5 gLe cGe false g35 (gC (.w (.s (.int .i64 (.lit (.ofNat 96))))))),
oP w37 (pMv g36),
oGd g37 true w38 (oP w38 (pMv g0)),
oGd g37 true w39 (oK w39 (bCmp 3 intLe .le false g38 (gC (.w (.s (.int .i64 (.lit (.ofNat 164)))))))),
oP w40 (pGen fun _ t => opPick t (.t 37) (.t 39) (.c (.w (.s (.bool false))))),
oP w6 (pMv g40)]) (.cond g6 (.skip) (.seq (.reg [
oP w41 (pMv g0),
oK w42 (bCmp 5 gLe cGe false g41 (gC (.w (.s (.int .i64 (.lit (.ofNat 240))))))),
oP w43 (pMv g42),
oGd g43 true w44 (oP w44 (pMv g0)),
oGd g43 true w45 (oK w45 (bCmp 3 intLe .le false g44 (gC (.w (.s (.int .i64 (.lit (.ofNat 243)))))))),
oP w46 (pGen fun _ t => opPick t (.t 43) (.t 45) (.c (.w (.s (.bool false))))),
oP w6 (pMv g46)]) (.cond g6 (.skip) (.reg [
oP w47 (pMv g0),
oK w48 (bCmp 0 intEq .eq false g47 (gC (.w (.s (.int .i64 (.lit (.ofNat 255))))))),
oP w6 (pMv g48)]))))))))))))))))) (.cond g6 (.seq (.reg [
oP w2 (pMv (gC (.w (.s (.int .i64 (.lit (.ofNat 0)))))))]) (.ret)) (.skip)))))) (.seq (.seq (.reg [
oP w49 (pMv g0)]) (.block 1 (.seq (.reg [
oK w51 (bCmp 0 intEq .eq false g49 (gC (.w (.s (.int .i64 (.lit (.ofNat 244))))))),
oP w50 (pMv g51)]) (.cond g50 (.seq (.reg [
oP w2 (pMv (gC (.w (.s (.int .i64 (.lit (.ofNat 1)))))))]) (.ret)) (.seq (.seq (.reg [
oK w53 (bCmp 0 intEq .eq false g49 (gC (.w (.s (.int .i64 (.lit (.ofNat 61))))))),
oP w52 (pMv g53)]) (.cond g52 (.skip) (.seq (.reg [
oK w54 (bCmp 0 intEq .eq false g49 (gC (.w (.s (.int .i64 (.lit (.ofNat 62))))))),
oP w52 (pMv g54)]) (.cond g52 (.skip) (.seq (.reg [
oK w55 (bCmp 0 intEq .eq false g49 (gC (.w (.s (.int .i64 (.lit (.ofNat 250))))))),
oP w52 (pMv g55)]) (.cond g52 (.skip) (.reg [
oK w56 (bCmp 0 intEq .eq false g49 (gC (.w (.s (.int .i64 (.lit (.ofNat 253))))))),
oP w52 (pMv g56)]))))))) (.cond g52 (.seq (.reg [
oP w2 (pMv (gC (.w (.s (.int .i64 (.lit (.ofNat 4)))))))]) (.ret)) (.seq (.seq (.reg [
oK w58 (bCmp 0 intEq .eq false g49 (gC (.w (.s (.int .i64 (.lit (.ofNat 27))))))),
oP w57 (pMv g58)]) (.cond g57 (.skip) (.seq (.reg [
oK w59 (bCmp 0 intEq .eq false g49 (gC (.w (.s (.int .i64 (.lit (.ofNat 28))))))),
oP w57 (pMv g59)]) (.cond g57 (.skip) (.seq (.reg [
oK w60 (bCmp 0 intEq .eq false g49 (gC (.w (.s (.int .i64 (.lit (.ofNat 29))))))),
oP w57 (pMv g60)]) (.cond g57 (.skip) (.seq (.reg [
oK w61 (bCmp 0 intEq .eq false g49 (gC (.w (.s (.int .i64 (.lit (.ofNat 63))))))),
oP w57 (pMv g61)]) (.cond g57 (.skip) (.reg [
oK w62 (bCmp 0 intEq .eq false g49 (gC (.w (.s (.int .i64 (.lit (.ofNat 245))))))),
oP w57 (pMv g62)]))))))))) (.cond g57 (.seq (.reg [
oP w2 (pMv (gC (.w (.s (.int .i64 (.lit (.ofNat 5)))))))]) (.ret)) (.seq (.seq (.reg [
oK w64 (bCmp 0 intEq .eq false g49 (gC (.w (.s (.int .i64 (.lit (.ofNat 70))))))),
oP w63 (pMv g64)]) (.cond g63 (.skip) (.reg [
oK w65 (bCmp 0 intEq .eq false g49 (gC (.w (.s (.int .i64 (.lit (.ofNat 71))))))),
oP w63 (pMv g65)]))) (.cond g63 (.seq (.reg [
oP w2 (pMv (gC (.w (.s (.int .i64 (.lit (.ofNat 7)))))))]) (.ret)) (.seq (.reg [
oK w67 (bCmp 0 intEq .eq false g49 (gC (.w (.s (.int .i64 (.lit (.ofNat 72))))))),
oP w66 (pMv g67)]) (.cond g66 (.seq (.reg [
oP w2 (pMv (gC (.w (.s (.int .i64 (.lit (.ofNat 10)))))))]) (.ret)) (.seq (.reg [
oK w69 (bCmp 0 intEq .eq false g49 (gC (.w (.s (.int .i64 (.lit (.ofNat 95))))))),
oP w68 (pMv g69)]) (.cond g68 (.seq (.reg [
oP w2 (pMv (gC (.w (.s (.int .i64 (.lit (.ofNat 14)))))))]) (.ret)) (.seq (.seq (.reg [
oK w71 (bCmp 0 intEq .eq false g49 (gC (.w (.s (.int .i64 (.lit (.ofNat 73))))))),
oP w70 (pMv g71)]) (.cond g70 (.skip) (.seq (.reg [
oK w72 (bCmp 0 intEq .eq false g49 (gC (.w (.s (.int .i64 (.lit (.ofNat 74))))))),
oP w70 (pMv g72)]) (.cond g70 (.skip) (.seq (.reg [
oK w73 (bCmp 0 intEq .eq false g49 (gC (.w (.s (.int .i64 (.lit (.ofNat 92))))))),
oP w70 (pMv g73)]) (.cond g70 (.skip) (.seq (.reg [
oK w74 (bCmp 0 intEq .eq false g49 (gC (.w (.s (.int .i64 (.lit (.ofNat 93))))))),
oP w70 (pMv g74)]) (.cond g70 (.skip) (.reg [
oK w75 (bCmp 0 intEq .eq false g49 (gC (.w (.s (.int .i64 (.lit (.ofNat 94))))))),
oP w70 (pMv g75)]))))))))) (.cond g70 (.seq (.reg [
oP w2 (pMv (gC (.w (.s (.int .i64 (.lit (.ofNat 15)))))))]) (.ret)) (.skip))))))))))))))))) (.seq (.reg [
oP w2 (pMv (gC (.w (.s (.int .i64 (.lit (.negSucc 0)))))))]) (.ret))))⟩
theorem fp85 : ∃ fn, fb85 = denF fn ∧ ∃ func code hint, FnOk Go.Proofs.Tryz.prog TT 85 fn func code hint := f2_mk (func := Go.Proofs.Tryz.f85) (code := bodyOf Go.Proofs.Tryz.f85) (hint := hintL []) (n := 76) (res := [.tmp 2]) Go.Proofs.Tryz.func85 Go.Proofs.Tryz.call85 (by kernel_rfl) (by kernel_rfl) (by kernel_rfl) (by kernel_rfl) (by kernel_rfl)
/- quarry/word.Cmp -/
def fb86 : AFunc2 := ⟨26, [.tmp g4], .seq (.reg [
oBox w2 24 g0,
oBox w3 24 g1,
oP w4 (pMv (gC (.w (.s (.int .i64 (.lit (.ofNat 0)))))))]) (.seq (.seq (.reg [
oP w5 (pMv (gC (.w (.s (.int .i64 (.lit (.ofNat 3)))))))]) (.block 0 (.loop (.seq (.seq (.reg [
oP w6 (pMv g5),
oK w7 (bCmp 5 gLe cGe false g6 (gC (.w (.s (.int .i64 (.lit (.ofNat 0)))))))]) (.cond g7 (.skip) (.exit 0))) (.seq (.block 1 (.block 2 (.seq (.draw [
⟨0, ⟨(some 11), .p (.mv (.t 5)), none⟩, 0, 0⟩,
⟨1, ⟨(some 12), .p (.iaddrA 4 1 (.t 2) (.t 11)), none⟩, 1, 0⟩,
⟨2, ⟨(some 13), .r (.load none (.t 12)), none⟩, 3, 0⟩,
⟨3, ⟨(some 14), .p (.mv (.t 5)), none⟩, 0, 0⟩,
⟨4, ⟨(some 15), .p (.iaddrA 4 1 (.t 3) (.t 14)), none⟩, 8, 0⟩,
⟨5, ⟨(some 16), .r (.load none (.t 15)), none⟩, 24, 0⟩,
⟨6, ⟨(some 17), .b (.cmp 2 .int (.t 13) (.t 16)), none⟩, 63, 0⟩,
⟨7, ⟨(some 10), .p (.mv (.t 17)), none⟩, 127, 0⟩]) (.cond g10 (.seq (.reg [
oP w4 (pMv (gC (.w (.s (.int .i64 (.lit (.negSucc 0)))))))]) (.ret)) (.seq (.draw [
⟨0, ⟨(some 19), .p (.mv (.t 5)), none⟩, 0, 0⟩,
⟨1, ⟨(some 20), .p (.iaddrA 4 1 (.t 2) (.t 19)), none⟩, 1, 0⟩,
⟨2, ⟨(some 21), .r (.load none (.t 20)), none⟩, 3, 0⟩,
⟨3, ⟨(some 22), .p (.mv (.t 5)), none⟩, 0, 0⟩,
⟨4, ⟨(some 23), .p (.iaddrA 4 1 (.t 3) (.t 22)), none⟩, 8, 0⟩,
⟨5, ⟨(some 24), .r (.load none (.t 23)), none⟩, 24, 0⟩,
⟨6, ⟨(some 25), .b (.cmp 4 .int (.t 21) (.t 24)), none⟩, 63, 0⟩,
⟨7, ⟨(some 18), .p (.mv (.t 25)), none⟩, 127, 0⟩]) (.cond g18 (.seq (.reg [
oP w4 (pMv (gC (.w (.s (.int .i64 (.lit (.ofNat 1)))))))]) (.ret)) (.skip))))))) (.reg [
oP w8 (pMv g5),
oP w9 (pAr 1 g8 (gC (.w (.s (.int .i64 (.lit (.ofNat 1))))))),
oP w5 (pMv g9)])))))) (.seq (.reg [
oP w4 (pMv (gC (.w (.s (.int .i64 (.lit (.ofNat 0)))))))]) (.ret)))⟩
theorem fp86 : ∃ fn, fb86 = denF fn ∧ ∃ func code hint, FnOk Go.Proofs.Tryz.prog TT 86 fn func code hint := f2_mk (func := Go.Proofs.Tryz.f86) (code := bodyOf Go.Proofs.Tryz.f86) (hint := hintL [(4, [(0, 0), (1, 0), (2, 0), (3, 0), (4, 0), (5, 0), (6, 0), (7, 0)]), (6, [(0, 0), (1, 0), (2, 0), (3, 0), (4, 0), (5, 0), (6, 0), (7, 0)])]) (n := 26) (res := [.tmp 4]) Go.Proofs.Tryz.func86 Go.Proofs.Tryz.call86 (by kernel_rfl) (by kernel_rfl) (by kernel_rfl) (by kernel_rfl) (by kernel_rfl)
/- (*quarry/state.State).opened -/
def fb87 : AFunc2 := ⟨28, [.tmp g4], .seq (.reg [
oBox w3 30 g1,
oP w4 (pMv (gC (.w (.s (.nilp)))))]) (.seq (.reg [
oP w5 (pMv g0),
oR w6 (rLoad (some 20) g3),
oCall w7 84 [g5, g6]]) (.seq (.seq (.reg [
oP w8 (pMv g0),
oR w9 (rLoad (some 20) g3),
oCall w10 33 [g8, g9],
oP w11 (pNot g10)]) (.cond g11 (.draw [
⟨0, ⟨(some 12), .p (.mv (.t 0)), none⟩, 0, 0⟩,
⟨1, ⟨(some 13), .p (.mv (.t 0)), none⟩, 0, 0⟩,
⟨2, ⟨(some 14), .p (.nilCheck (.t 13)), none⟩, 2, 0⟩,
⟨3, ⟨(some 15), .p (.faddr 0 (.t 14)), none⟩, 6, 0⟩,
⟨4, ⟨(some 16), .r (.load none (.t 15)), none⟩, 14, 0⟩,
⟨5, ⟨(some 17), .r (.load (some 20) (.t 3)), none⟩, 0, 0⟩,
⟨6, ⟨(some 18), .m (.mkmap), none⟩, 0, 0⟩,
⟨7, ⟨(some 19), .p (.build [.int .u64 (.lit (.ofNat 0)), .int .u64 (.lit (.ofNat 0)), .int .u64 (.lit (.ofNat 0)), .int .u64 (.lit (.ofNat 0)), .int .u64 (.lit (.ofNat 0)), .nils, .nilm] [(6, 1, (.t 18))]), none⟩, 64, 0⟩,
⟨8, ⟨(some 20), .m (.box 97 (.t 19)), none⟩, 192, 1⟩,
⟨9, ⟨(some 21), .b (.call 92 [(.t 12), (.t 16), (.t 17), (.t 20)]), none⟩, 511, 0⟩]) (.skip))) (.seq (.draw [
⟨0, ⟨(some 22), .p (.mv (.t 0)), none⟩, 0, 0⟩,
⟨1, ⟨(some 23), .p (.nilCheck (.t 22)), none⟩, 1, 0⟩,
⟨2, ⟨(some 24), .p (.faddr 0 (.t 23)), none⟩, 3, 0⟩,
⟨3, ⟨(some 25), .r (.load none (.t 24)), none⟩, 7, 0⟩,
⟨4, ⟨(some 26), .r (.load (some 20) (.t 3)), none⟩, 0, 0⟩,
⟨5, ⟨(some 27), .r (.lookup (.one (.arr 20 5 .u8)) (.s (.nilp)) (.t 25) (.t 26) false), none⟩, 31, 0⟩,
⟨6, ⟨(some 4), .p (.mv (.t 27)), none⟩, 63, 0⟩]) (.ret))))⟩
theorem fp87 : ∃ fn, fb87 = denF fn ∧ ∃ func code hint, FnOk Go.Proofs.Tryz.prog TT 87 fn func code hint := f2_mk (func := Go.Proofs.Tryz.f87) (code := bodyOf Go.Proofs.Tryz.f87) (hint := hintL [(3, [(0, 0), (1, 0), (2, 0), (3, 0), (4, 0), (5, 0), (6, 0), (7, 0), (8, 1), (9, 0)]), (4, [(0, 0), (1, 0), (2, 0), (3, 0), (4, 0), (5, 0), (6, 0)])]) (n := 28) (res := [.tmp 4]) Go.Proofs.Tryz.func87 Go.Proofs.Tryz.call87 (by kernel_rfl) (by kernel_rfl) (by kernel_rfl) (by kernel_rfl) (by kernel_rfl)
/- (*quarry/state.State).undoable -/
def fb88 : AFunc2 := ⟨16, [], .reg [
oP w4 (pMv g0),
oP w5 (pMv g0),
oP w6 (pGen fun _ t => opNil t (.t 5)),
oP w7 (pFaddr 1 g6),
oP w8 (pFaddr 9 g7),
oR w9 (rLoad none g8),
oP w10 (pMv g1),
oM w11 (.bslice 1 1 [.nilfn] [(0, 1, (.t 10))]),
oK w12 (b2 (bAppend 1 1 8) g9 g11),
oP w13 (pGen fun _ t => opNil t (.t 4)),
oP w14 (pFaddr 1 g13),
oP w15 (pFaddr 9 g14),
oK wZ (bSt 1 g15 g12)]⟩
theorem fp88 : ∃ fn, fb88 = denF fn ∧ ∃ func code hint, FnOk Go.Proofs.Tryz.prog TT 88 fn func code hint := f2_mk (func := Go.Proofs.Tryz.f88) (code := bodyOf Go.Proofs.Tryz.f88) (hint := hintL []) (n := 16) (res := []) Go.Proofs.Tryz.func88 Go.Proofs.Tryz.call88 (by kernel_rfl) (by kernel_rfl) (by kernel_rfl) (by kernel_rfl) (by kernel_rfl)
/- quarry/state.put[quarry/api.Address,struct{}] -/
def fb90 : AFunc2 := ⟨22, [], .seq (.reg [
oBox w5 101 g1,
oBox w6 30 g2,
oBox w7 146 g3]) (.seq (.reg [
oR w11 (rLoad none g5),
oR w12 (rLoad (some 20) g6),
oR w13 (rGen fun t s => match s with | .mk _ _ φ => opLook φ t s (.one (.arr 20 5 .u8)) (.agg []) (.t 11) (.t 12) true),
oP w10 (pMv g13),
oP w14 (pExt g10 0),
oP w15 (pExt g10 1),
oAlloc w8 146 [],
oAlloc w9 4 [.bool false],
oK wZ (bSt 0 g8 g14),
oK wZ (bSt 1 g9 g15)]) (.seq (.reg [
oR w16 (rLoad none g5),
oR w17 (rLoad (some 20) g6),
oR w18 (rLoad (some 0) g7),
oK wZ (b3 (bMupd (.one (.arr 20 5 .u8))) g16 g17 g18)]) (.reg [
oP w19 (pMv g0),
oP w20 (pGen fun _ t => opMkfn t 105 [(.t 9), (.t 8), (.t 5), (.t 6)]),
oCall w21 88 [g19, g20]])))⟩
theorem fp90 : ∃ fn, fb90 = denF fn ∧ ∃ func code hint, FnOk Go.Proofs.Tryz.prog TT 90 fn func code hint := f2_mk (func := Go.Proofs.Tryz.f90) (code := bodyOf Go.Proofs.Tryz.f90) (hint := hintL []) (n := 22) (res := []) Go.Proofs.Tryz.func90 Go.Proofs.Tryz.call90 (by kernel_rfl) (by kernel_rfl) (by kernel_rfl) (by kernel_rfl) (by kernel_rfl)
/- quarry/state.put[quarry/api.Address,*quarry/state.account] -/
def fb92 : AFunc2 := ⟨22, [], .seq (.reg [
oBox w5 100 g1,
oBox w6 30 g2]) (.seq (.reg [
oR w11 (rLoad none g5),
oR w12 (rLoad (some 20) g6),
oR w13 (rGen fun t s => match s with | .mk _ _ φ => opLook φ t s (.one (.arr 20 5 .u8)) (.s (.nilp)) (.t 11) (.t 12) true),
oP w10 (pMv g13),
oP w14 (pExt g10 0),
oP w15 (pExt g10 1),
oAlloc w8 98 [.nilp],
oAlloc w9 4 [.bool false],
oK wZ (bSt 1 g8 g14),
oK wZ (bSt 1 g9 g15)]) (.seq (.reg [
oR w16 (rLoad none g5),
oR w17 (rLoad (some 20) g6),
oP w18 (pMv g3),
oK wZ (b3 (bMupd (.one (.arr 20 5 .u8))) g16 g17 g18)]) (.reg [
oP w19 (pMv g0),
oP w20 (pGen fun _ t => opMkfn t 106 [(.t 9), (.t 8), (.t 5), (.t 6)]),
oCall w21 88 [g19, g20]])))⟩
theorem fp92 : ∃ fn, fb92 = denF fn ∧ ∃ func code hint, FnOk Go.Proofs.Tryz.prog TT 92 fn func code hint := f2_mk (func := Go.Proofs.Tryz.f92) (code := bodyOf Go.Proofs.Tryz.f92) (hint := hintL []) (n := 22) (res := []) Go.Proofs.Tryz.func92 Go.Proofs.Tryz.call92 (by kernel_rfl) (by kernel_rfl) (by kernel_rfl) (by kernel_rfl) (by kernel_rfl)
/- (*quarry/state.State).SetBalance -/
def fb93 : AFunc2 := ⟨22, [], .seq (.reg [
oBox w4 30 g1,
oBox w5 24 g2]) (.seq (.reg [
oP w8 (pMv g0),
oR w9 (rLoad (some 20) g4),
oCall w10 87 [g8, g9],
oAlloc w6 98 [.nilp],
oK wZ (bSt 1 g6 g10)]) (.seq (.reg [
oR w11 (rLoad none g6),
oP w12 (pGen fun _ t => opNil t (.t 11)),
oP w13 (pFaddr 1 g12),
oR w14 (rLoad (some 4) g13),
oAlloc w7 24 [.int .u64 (.lit (.ofNat 0)), .int .u64 (.lit (.ofNat 0)), .int .u64 (.lit (.ofNat 0)), .int .u64 (.lit (.ofNat 0))],
oK wZ (bSt 4 g7 g14)]) (.seq (.reg [
oR w15 (rLoad none g6),
oR w16 (rLoad (some 4) g5),
oP w17 (pGen fun _ t => opNil t (.t 15)),
oP w18 (pFaddr 1 g17),
oK wZ (bSt 4 g18 g16)]) (.reg [
oP w19 (pMv g0),
oP w20 (pGen fun _ t => opMkfn t 107 [(.t 7), (.t 6)]),
oCall w21 88 [g19, g20]]))))⟩
theorem fp93 : ∃ fn, fb93 = denF fn ∧ ∃ func code hint, FnOk Go.Proofs.Tryz.prog TT 93 fn func code hint := f2_mk (func := Go.Proofs.Tryz.f93) (code := bodyOf Go.Proofs.Tryz.f93) (hint := hintL []) (n := 22) (res := []) Go.Proofs.Tryz.func93 Go.Proofs.Tryz.call93 (by kernel_rfl) (by kernel_rfl) (by kernel_rfl) (by kernel_rfl) (by kernel_rfl)
/- quarry/word.Sub -/
def fb94 : AFunc2 := ⟨25, [.cell (rLoad (some 4) g4)], .seq (.reg [
oBox w2 24 g0,
oBox w3 24 g1,
oAlloc w4 24 [.int .u64 (.lit (.ofNat 0)), .int .u64 (.lit (.ofNat 0)), .int .u64 (.lit (.ofNat 0)), .int .u64 (.lit (.ofNat 0))]]) (.seq (.reg [
oP w5 (pMv (gC (.w (.s (.int .u64 (.lit (.ofNat 0)))))))]) (.seq (.seq (.reg [
oP w7 (pMv (gC (.w (.s (.int .i64 (.lit (.ofNat 0)))))))]) (.block 0 (.loop (.seq (.reg [
oK w8 (bCmp 2 lLt cGe true g7 (gC (.w (.s (.int .i64 (.lit (.ofNat 4)))))))]) (.seq (.cond g8 (.skip) (.exit 0)) (.seq (.block 1 (.seq (.reg [
oP w9 (pMv g7),
oP w6 (pMv g9)]) (.draw [
⟨0, ⟨(some 11), .p (.mv (.t 6)), none⟩, 0, 0⟩,
⟨1, ⟨(some 12), .p (.mv (.t 6)), none⟩, 0, 0⟩,
⟨2, ⟨(some 13), .p (.iaddrA 4 1 (.t 2) (.t 12)), none⟩, 2, 0⟩,
⟨3, ⟨(some 14), .r (.load none (.t 13)), none⟩, 6, 0⟩,
⟨4, ⟨(some 15), .p (.mv (.t 6)), none⟩, 0, 0⟩,
⟨5, ⟨(some 16), .p (.iaddrA 4 1 (.t 3) (.t 15)), none⟩, 16, 0⟩,
⟨6, ⟨(some 17), .r (.load none (.t 16)), none⟩, 48, 0⟩,
⟨7, ⟨(some 18), .p (.mv (.t 5)), none⟩, 0, 0⟩,
⟨8, ⟨(some 19), .b (.call 108 [(.t 14), (.t 17), (.t 18)]), none⟩, 254, 0⟩,
⟨9, ⟨(some 10), .p (.mv (.t 19)), none⟩, 510, 0⟩,
⟨10, ⟨(some 20), .p (.ext (.t 10) 0), none⟩, 1022, 0⟩,
⟨11, ⟨(some 21), .p (.ext (.t 10) 1), none⟩, 1022, 0⟩,
⟨12, ⟨(some 22), .p (.iaddrA 4 1 (.t 2) (.t 11)), none⟩, 2047, 0⟩,
⟨13, ⟨none, .b (.store 1 (.t 22) (.t 20)), none⟩, 6143, 0⟩,
⟨14, ⟨(some 5), .p (.mv (.t 21)), none⟩, 16383, 0⟩]))) (.reg [
oP w23 (pAr 0 g7 (gC (.w (.s (.int .i64 (.lit (.ofNat 1))))))),
oP w7 (pMv g23)]))))))) (.seq (.reg [
oR w24 (rLoad (some 4) g2),
oK wZ (bSt 4 g4 g24)]) (.ret))))⟩
theorem fp94 : ∃ fn, fb94 = denF fn ∧ ∃ func code hint, FnOk Go.Proofs.Tryz.prog TT 94 fn func code hint := f2_mk (func := Go.Proofs.Tryz.f94) (code := bodyOf Go.Proofs.Tryz.f94) (hint := hintL [(5, [(0, 0), (1, 0), (2, 0), (3, 0), (4, 0), (5, 0), (6, 0), (7, 0), (8, 0), (9, 0), (10, 0), (11, 0), (12, 0), (13, 0), (14, 0)])]) (n := 25) (res := [.cell 4 (some 4)]) Go.Proofs.Tryz.func94 Go.Proofs.Tryz.call94 (by kernel_rfl) (by kernel_rfl) (by kernel_rfl) (by kernel_rfl) (by kernel_rfl)
/- quarry/word.Add -/
def fb95 : AFunc2 := ⟨14, [.cell (rLoad (some 4) g4)], .seq (.reg [
oBox w2 24 g0,
oBox w3 24 g1,
oAlloc w4 24 [.int .u64 (.lit (.ofNat 0)), .int .u64 (.lit (.ofNat 0)), .int .u64 (.lit (.ofNat 0)), .int .u64 (.lit (.ofNat 0))]]) (.seq (.reg [
oR w8 (rLoad (some 4) g2),
oR w9 (rLoad (some 4) g3),
oCall w10 109 [g8, g9],
oP w7 (pMv g10),
oP w11 (pExt g7 0),
oP w12 (pExt g7 1),
oAlloc w5 24 [.int .u64 (.lit (.ofNat 0)), .int .u64 (.lit (.ofNat 0)), .int .u64 (.lit (.ofNat 0)), .int .u64 (.lit (.ofNat 0))],
oK wZ (bSt 4 g5 g11),
oP w6 (pMv g12)]) (.seq (.reg [
oR w13 (rLoad (some 4) g5),
oK wZ (bSt 4 g4 g13)]) (.ret)))⟩
theorem fp95 : ∃ fn, fb95 = denF fn ∧ ∃ func code hint, FnOk Go.Proofs.Tryz.prog TT 95 fn func code hint := f2_mk (func := Go.Proofs.Tryz.f95) (code := bodyOf Go.Proofs.Tryz.f95) (hint := hintL []) (n := 14) (res := [.cell 4 (some 4)]) Go.Proofs.Tryz.func95 Go.Proofs.Tryz.call95 (by kernel_rfl) (by kernel_rfl) (by kernel_rfl) (by kernel_rfl) (by kernel_rfl)
/- (*quarry/vm.frame).step -/
def fb98 : AFunc2 := ⟨187, [], .seq (.reg [
oP w7 (pMv g0),
oP w8 (pGen fun _ t => opNil t (.t 7)),
oP w9 (pFaddr 0 g8),
oR w10 (rLoad none g9),
oP w11 (pGen fun _ t => opNil t (.t 10)),
oP w12 (pFaddr 90 g11),
oR w13 (rLoad none g12),
oP w14 (pAr 0 g13 (gC (.w (.s (.int .u64 (.lit (.ofNat 1))))))),
oP w15 (pGen fun _ t => opNil t (.t 10)),
oP w16 (pFaddr 90 g15),
oK wZ (bSt 1 g16 g14)]) (.seq (.reg [
oP w17 (pMv g0),
oP w18 (pGen fun _ t => opNil t (.t 17)),
oP w19 (pFaddr 0 g18),
oR w20 (rLoad none g19),
oP w21 (pMv g1),
oP w22 (pGen fun _ t => opNil t (.t 20)),
oP w23 (pFaddr 91 g22),
oP w24 (pIaddrA 256 4 g23 g21),
oR w25 (rLoad (some 4) g24),
oAlloc w4 123 [.bool false, .int .i64 (.lit (.ofNat 0)), .int .i64 (.lit (.ofNat 0)), .int .u64 (.lit (.ofNat 0))],
oK wZ (bSt 4 g4 g25)]) (.seq (.draw [
⟨0, ⟨(some 26), .p (.faddr 0 (.t 4)), none⟩, 0, 0⟩,
⟨1, ⟨(some 27), .r (.load none (.t 26)), none⟩, 1, 0⟩,
⟨2, ⟨(some 28), .p (.mv (.t 27)), none⟩, 3, 0⟩,
⟨3, ⟨(some 29), .p (.mv (.t 0)), some (28, true)⟩, 7, 0⟩,
⟨4, ⟨(some 30), .p (.nilCheck (.t 29)), some (28, true)⟩, 15, 0⟩,
⟨5, ⟨(some 31), .p (.faddr 70 (.t 30)), some (28, true)⟩, 31, 0⟩,
⟨6, ⟨(some 32), .r (.load none (.t 31)), some (28, true)⟩, 63, 0⟩,
⟨7, ⟨(some 33), .p (.len (.t 32)), some (28, true)⟩, 127, 0⟩,
⟨8, ⟨(some 34), .p (.faddr 1 (.t 4)), some (28, true)⟩, 7, 0⟩,
⟨9, ⟨(some 35), .r (.load none (.t 34)), some (28, true)⟩, 263, 0⟩,
⟨10, ⟨(some 36), .b (.cmp 5 .int (.t 33) (.t 35)), some (28, true)⟩, 1023, 0⟩,
⟨11, ⟨(some 37), .p (.pick (.t 28) (.t 36) (.c (.w (.s (.bool false))))), none⟩, 2047, 0⟩,
⟨12, ⟨(some 38), .p (.mv (.t 37)), none⟩, 4095, 0⟩,
⟨13, ⟨(some 39), .p (.mv (.t 0)), some (38, true)⟩, 8191, 0⟩,
⟨14, ⟨(some 40), .p (.nilCheck (.t 39)), some (38, true)⟩, 16383, 0⟩,
⟨15, ⟨(some 41), .p (.faddr 70 (.t 40)), some (38, true)⟩, 32767, 0⟩,
⟨16, ⟨(some 42), .r (.load none (.t 41)), some (38, true)⟩, 65535, 0⟩,
⟨17, ⟨(some 43), .p (.len (.t 42)), some (38, true)⟩, 131071, 0⟩,
⟨18, ⟨(some 44), .p (.faddr 1 (.t 4)), some (38, true)⟩, 8191, 0⟩,
⟨19, ⟨(some 45), .r (.load none (.t 44)), some (38, true)⟩, 270335, 0⟩,
⟨20, ⟨(some 46), .p (.ar 1 (.t 43) (.t 45)), some (38, true)⟩, 1048575, 0⟩,
⟨21, ⟨(some 47), .p (.faddr 2 (.t 4)), some (38, true)⟩, 8191, 0⟩,
⟨22, ⟨(some 48), .r (.load none (.t 47)), some (38, true)⟩, 2105343, 0⟩,
⟨23, ⟨(some 49), .p (.ar 0 (.t 46) (.t 48)), some (38, true)⟩, 8388607, 0⟩,
⟨24, ⟨(some 50), .b (.cmp 3 .int (.t 49) (.c (.w (.s (.int .i64 (.lit (.ofNat 1024))))))), some (38, true)⟩, 16777215, 0⟩,
⟨25, ⟨(some 51), .p (.pick (.t 38) (.t 50) (.c (.w (.s (.bool false))))), none⟩, 33554431, 0⟩,
⟨26, ⟨(some 52), .b (.call 111 [(.t 51)]), none⟩, 67108863, 0⟩]) (.seq (.reg [
oP w53 (pMv g0),
oP w54 (pGen fun _ t => opNil t (.t 53)),
oP w55 (pFaddr 1 g54),
oP w56 (pFaddr 66 g55),
oR w57 (rLoad none g56),
oP w58 (pNot g57),
oP w59 (pMv g58),
oGd g59 false w60 (oP w60 (pMv g0)),
oGd g59 false w61 (oP w61 (pMv g1)),
oGd g59 false w62 (oCall w62 112 [g60, g61]),
oGd g59 false w63 (oP w63 (pNot g62)),
oP w64 (pGen fun _ t => opPick t (.t 59) (.c (.w (.s (.bool true)))) (.t 63)),
oCall w65 111 [g64]]) (.seq (.reg [
oP w66 (pMv g0),
oP w67 (pFaddr 3 g4),
oR w68 (rLoad none g67),
oCall w69 113 [g66, g68]]) (.seq (.reg [
oP w70 (pMv g0),
oP w71 (pGen fun _ t => opNil t (.t 70)),
oP w72 (pFaddr 73 g71),
oR w73 (rLoad none g72),
oP w74 (pAr 0 g73 (gC (.w (.s (.int .i64 (.lit (.ofNat 1))))))),
oP w75 (pGen fun _ t => opNil t (.t 70)),
oP w76 (pFaddr 73 g75),
oK wZ (bSt 1 g76 g74)]) (.block 0 (.seq (.reg [
oP w81 (pMv g1),
oK w82 (bCmp 3 intLe .le false g81 (gC (.w (.s (.int .i64 (.lit (.ofNat 29))))))),
oP w80 (pMv g82)]) (.cond g80 (.reg [
oP w83 (pMv g0),
oP w84 (pMv g1),
oCall w85 114 [g83, g84]]) (.seq (.reg [
oP w87 (pMv g1),
oK w88 (bCmp 0 intEq .eq false g87 (gC (.w (.s (.int .i64 (.lit (.ofNat 32))))))),
oP w86 (pMv g88)]) (.cond g86 (.reg [
oP w89 (pMv g0),
oCall w90 115 [g89]]) (.seq (.reg [
oP w92 (pMv g1),
oK w93 (bCmp 3 intLe .le false g92 (gC (.w (.s (.int .i64 (.lit (.ofNat 63))))))),
oP w91 (pMv g93)]) (.cond g91 (.reg [
oP w94 (pMv g0),
oP w95 (pMv g1),
oCall w96 116 [g94, g95]]) (.seq (.reg [
oP w98 (pMv g1),
oK w99 (bCmp 3 intLe .le false g98 (gC (.w (.s (.int .i64 (.lit (.ofNat 74))))))),
oP w97 (pMv g99)]) (.cond g97 (.reg [
oP w100 (pMv g0),
oP w101 (pMv g1),
oCall w102 117 [g100, g101]]) (.seq (.reg [
oP w104 (pMv g1),
oK w105 (bCmp 3 intLe .le false g104 (gC (.w (.s (.int .i64 (.lit (.ofNat 94))))))),
oP w103 (pMv g105)]) (.cond g103 (.reg [
oP w106 (pMv g0),
oP w107 (pMv g1),
oCall w108 118 [g106, g107]]) (.seq (.reg [
oP w110 (pMv g1),
oK w111 (bCmp 3 intLe .le false g110 (gC (.w (.s (.int .i64 (.lit (.ofNat 127))))))),
oP w109 (pMv g111)]) (.cond g109 (.reg [
oP w112 (pMv g0),
oP w113 (pMv g1),
oP w114 (pAr 1 g113 (gC (.w (.s (.int .i64 (.lit (.ofNat 95))))))),
oCall w115 119 [g112, g114]]) (.seq (.reg [
oP w117 (pMv g1),
oK w118 (bCmp 3 intLe .le false g117 (gC (.w (.s (.int .i64 (.lit (.ofNat 143))))))),
oP w116 (pMv g118)]) (.cond g116 (.draw [
⟨0, ⟨(some 119), .p (.mv (.t 0)), none⟩, 0, 0⟩,
⟨1, ⟨(some 120), .p (.mv (.t 0)), none⟩, 0, 0⟩,
⟨2, ⟨(some 121), .p (.nilCheck (.t 120)), none⟩, 2, 0⟩,
⟨3, ⟨(some 122), .p (.faddr 70 (.t 121)), none⟩, 6, 0⟩,
⟨4, ⟨(some 123), .r (.load none (.t 122)), none⟩, 14, 0⟩,
⟨5, ⟨(some 124), .p (.mv (.t 0)), none⟩, 0, 0⟩,
⟨6, ⟨(some 125), .p (.nilCheck (.t 124)), none⟩, 32, 0⟩,
⟨7, ⟨(some 126), .p (.faddr 70 (.t 125)), none⟩, 96, 0⟩,
⟨8, ⟨(some 127), .r (.load none (.t 126)), none⟩, 224, 0⟩,
⟨9, ⟨(some 128), .p (.len (.t 127)), none⟩, 480, 0⟩,
⟨10, ⟨(some 129), .p (.ar 1 (.t 128) (.c (.w (.s (.int .i64 (.lit (.ofNat 1))))))), none⟩, 992, 0⟩,
⟨11, ⟨(some 130), .p (.mv (.t 1)), none⟩, 0, 0⟩,
⟨12, ⟨(some 131), .p (.ar 1 (.t 130) (.c (.w (.s (.int .i64 (.lit (.ofNat 128))))))), none⟩, 2048, 0⟩,
⟨13, ⟨(some 132), .p (.ar 1 (.t 129) (.t 131)), none⟩, 8160, 0⟩,
⟨14, ⟨(some 133), .p (.iaddrS 4 (.t 123) (.t 132)), none⟩, 16382, 0⟩,
⟨15, ⟨(some 134), .r (.load (some 4) (.t 133)), none⟩, 32766, 0⟩,
⟨16, ⟨(some 135), .b (.call 120 [(.t 119), (.t 134)]), none⟩, 65535, 0⟩]) (.seq (.reg [
oP w137 (pMv g1),
oK w138 (bCmp 3 intLe .le false g137 (gC (.w (.s (.int .i64 (.lit (.ofNat 159))))))),
oP w136 (pMv g138)]) (.cond g136 (.seq (.draw [
⟨0, ⟨(some 139), .p (.mv (.t 0)), none⟩, 0, 0⟩,
⟨1, ⟨(some 140), .p (.nilCheck (.t 139)), none⟩, 1, 0⟩,
⟨2, ⟨(some 141), .p (.faddr 70 (.t 140)), none⟩, 3, 0⟩,
⟨3, ⟨(some 142), .r (.load none (.t 141)), none⟩, 7, 0⟩,
⟨4, ⟨(some 143), .p (.len (.t 142)), none⟩, 15, 0⟩,
⟨5, ⟨(some 144), .p (.ar 1 (.t 143) (.c (.w (.s (.int .i64 (.lit (.ofNat 1))))))), none⟩, 31, 0⟩,
⟨6, ⟨(some 145), .p (.mv (.t 0)), none⟩, 0, 0⟩,
⟨7, ⟨(some 146), .p (.nilCheck (.t 145)), none⟩, 64, 0⟩,
⟨8, ⟨(some 147), .p (.faddr 70 (.t 146)), none⟩, 192, 0⟩,
⟨9, ⟨(some 148), .r (.load none (.t 147)), none⟩, 448, 0⟩,
⟨10, ⟨(some 149), .p (.len (.t 148)), none⟩, 960, 0⟩,
⟨11, ⟨(some 150), .p (.ar 1 (.t 149) (.c (.w (.s (.int .i64 (.lit (.ofNat 2))))))), none⟩, 1984, 0⟩,
⟨12, ⟨(some 151), .p (.mv (.t 1)), none⟩, 0, 0⟩,
⟨13, ⟨(some 152), .p (.ar 1 (.t 151) (.c (.w (.s (.int .i64 (.lit (.ofNat 144))))))), none⟩, 4096, 0⟩,
⟨14, ⟨(some 153), .p (.ar 1 (.t 150) (.t 152)), none⟩, 16320, 0⟩,
⟨15, ⟨(some 5), .p (.mv (.t 144)), none⟩, 63, 0⟩,
⟨16, ⟨(some 6), .p (.mv (.t 153)), none⟩, 65535, 0⟩]) (.draw [
⟨0, ⟨(some 154), .p (.mv (.t 0)), none⟩, 0, 0⟩,
⟨1, ⟨(some 155), .p (.nilCheck (.t 154)), none⟩, 1, 0⟩,
⟨2, ⟨(some 156), .p (.faddr 70 (.t 155)), none⟩, 3, 0⟩,
⟨3, ⟨(some 157), .r (.load none (.t 156)), none⟩, 7, 0⟩,
⟨4, ⟨(some 158), .p (.mv (.t 5)), none⟩, 0, 0⟩,
⟨5, ⟨(some 159), .p (.mv (.t 0)), none⟩, 0, 0⟩,
⟨6, ⟨(some 160), .p (.nilCheck (.t 159)), none⟩, 32, 0⟩,
⟨7, ⟨(some 161), .p (.faddr 70 (.t 160)), none⟩, 96, 0⟩,
⟨8, ⟨(some 162), .r (.load none (.t 161)), none⟩, 224, 0⟩,
⟨9, ⟨(some 163), .p (.mv (.t 6)), none⟩, 0, 0⟩,
⟨10, ⟨(some 164), .p (.mv (.t 0)), none⟩, 0, 0⟩,
⟨11, ⟨(some 165), .p (.nilCheck (.t 164)), none⟩, 1024, 0⟩,
⟨12, ⟨(some 166), .p (.faddr 70 (.t 165)), none⟩, 3072, 0⟩,
⟨13, ⟨(some 167), .r (.load none (.t 166)), none⟩, 7168, 0⟩,
⟨14, ⟨(some 168), .p (.mv (.t 6)), none⟩, 0, 0⟩,
⟨15, ⟨(some 169), .p (.iaddrS 4 (.t 167) (.t 168)), none⟩, 31744, 0⟩,
⟨16, ⟨(some 170), .r (.load (some 4) (.t 169)), none⟩, 64512, 0⟩,
⟨17, ⟨(some 171), .p (.mv (.t 0)), none⟩, 0, 0⟩,
⟨18, ⟨(some 172), .p (.nilCheck (.t 171)), none⟩, 131072, 0⟩,
⟨19, ⟨(some 173), .p (.faddr 70 (.t 172)), none⟩, 393216, 0⟩,
⟨20, ⟨(some 174), .r (.load none (.t 173)), none⟩, 917504, 0⟩,
⟨21, ⟨(some 175), .p (.mv (.t 5)), none⟩, 0, 0⟩,
⟨22, ⟨(some 176), .p (.iaddrS 4 (.t 174) (.t 175)), none⟩, 4063232, 0⟩,
⟨23, ⟨(some 177), .r (.load (some 4) (.t 176)), none⟩, 8257536, 0⟩,
⟨24, ⟨(some 178), .p (.iaddrS 4 (.t 157) (.t 158)), none⟩, 16776703, 0⟩,
⟨25, ⟨none, .b (.store 4 (.t 178) (.t 170)), none⟩, 33553919, 0⟩,
⟨26, ⟨(some 179), .p (.iaddrS 4 (.t 162) (.t 163)), none⟩, 67108863, 0⟩,
⟨27, ⟨none, .b (.store 4 (.t 179) (.t 177)), none⟩, 134217727, 0⟩])) (.seq (.reg [
oP w181 (pMv g1),
oK w182 (bCmp 3 intLe .le false g181 (gC (.w (.s (.int .i64 (.lit (.ofNat 164))))))),
oP w180 (pMv g182)]) (.cond g180 (.reg [
oP w183 (pMv g0),
oP w184 (pMv g1),
oP w185 (pAr 1 g184 (gC (.w (.s (.int .i64 (.lit (.ofNat 160))))))),
oCall w186 121 [g183, g185]]) (.reg [
oP w77 (pMv g0),
oP w78 (pMv g1),
oCall w79 122 [g77, g78]])))))))))))))))))))))))))⟩
theorem fp98 : ∃ fn, fb98 = denF fn ∧ ∃ func code hint, FnOk Go.Proofs.Tryz.prog TT 98 fn func code hint := f2_mk (func := Go.Proofs.Tryz.f98) (code := bodyOf Go.Proofs.Tryz.f98) (hint := hintL [(2, [(0, 0), (1, 0), (2, 0), (3, 0), (4, 0), (5, 0), (6, 0), (7, 0), (8, 0), (9, 0), (10, 0), (11, 0), (12, 0), (13, 0), (14, 0), (15, 0), (16, 0), (17, 0), (18, 0), (19, 0), (20, 0), (21, 0), (22, 0), (23, 0), (24, 0), (25, 0), (26, 0)]), (20, [(0, 0), (1, 0), (2, 0), (3, 0), (4, 0), (5, 0), (6, 0), (7, 0), (8, 0), (9, 0), (10, 0), (11, 0), (12, 0), (13, 0), (14, 0), (15, 0), (16, 0)]), (22, [(0, 0), (1, 0), (2, 0), (3, 0), (4, 0), (5, 0), (6, 0), (7, 0), (8, 0), (9, 0), (10, 0), (11, 0), (12, 0), (13, 0), (14, 0), (15, 0), (16, 0)]), (23, [(0, 0), (1, 0), (2, 0), (3, 0), (4, 0), (5, 0), (6, 0), (7, 0), (8, 0), (9, 0), (10, 0), (11, 0), (12, 0), (13, 0), (14, 0), (15, 0), (16, 0), (17, 0), (18, 0), (19, 0), (20, 0), (21, 0), (22, 0), (23, 0), (24, 0), (25, 0), (26, 0), (27, 0)])]) (n := 187) (res := []) Go.Proofs.Tryz.func98 Go.Proofs.Tryz.call98 (by kernel_rfl) (by kernel_rfl) (by kernel_rfl) (by kernel_rfl) (by kernel_rfl)
/- slices.IndexFunc[[]quarry/state.mark,quarry/state.mark] -/
def fb99 : AFunc2 := ⟨19, [.tmp g4], .seq (.reg [
oP w4 (pMv (gC (.w (.s (.int .i64 (.lit (.ofNat 0)))))))]) (.seq (.seq (.reg [
oP w6 (pMv g0),
oP w7 (pGen fun _ t => opLen t (.t 6)),
oP w8 (pMv (gC (.w (.s (.int .i64 (.lit (.ofNat 0)))))))]) (.block 0 (.loop (.seq (.reg [
oK w9 (bCmp 2 lLt cGe true g8 g7)]) (.seq (.cond g9 (.skip) (.exit 0)) (.seq (.block 1 (.seq (.reg [
oP w10 (pMv g8),
oP w5 (pMv g10)]) (.seq (.reg [
oP w11 (pMv g1),
oP w12 (pMv g0),
oP w13 (pMv g5),
oP w14 (pIaddrS 2 g12 g13),
oR w15 (rLoad (some 2) g14),
oCallv w16 g11 [g15]]) (.cond g16 (.seq (.reg [
oP w17 (pMv g5),
oP w4 (pMv g17)]) (.ret)) (.skip))))) (.reg [
oP w18 (pAr 0 g8 (gC (.w (.s (.int .i64 (.lit (.ofNat 1))))))),
oP w8 (pMv g18)]))))))) (.seq (.reg [
oP w4 (pMv (gC (.w (.s (.int .i64 (.lit (.negSucc 0)))))))]) (.ret)))⟩
theorem fp99 : ∃ fn, fb99 = denF fn ∧ ∃ func code hint, FnOk Go.Proofs.Tryz.prog TT 99 fn func code hint := f2_mk (func := Go.Proofs.Tryz.f99) (code := bodyOf Go.Proofs.Tryz.f99) (hint := hintL []) (n := 19) (res := [.tmp 4]) Go.Proofs.Tryz.func99 Go.Proofs.Tryz.call99 (by kernel_rfl) (by kernel_rfl) (by kernel_rfl) (by kernel_rfl) (by kernel_rfl)
/- (*quarry/state.State).Back$1 -/
def fb100 : AFunc2 := ⟨8, [.tmp g3], .seq (.reg [
oBox w2 177 g0,
oP w3 (pMv (gC (.w (.s (.bool false)))))]) (.seq (.reg [
oP w4 (pFaddr 0 g2),
oR w5 (rLoad none g4),
oR w6 (rLoad none g1),
oK w7 (bCmp 0 intEq .eq false g5 g6),
oP w3 (pMv g7)]) (.ret))⟩
theorem fp100 : ∃ fn, fb100 = denF fn ∧ ∃ func code hint, FnOk Go.Proofs.Tryz.prog TT 100 fn func code hint := f2_mk (func := Go.Proofs.Tryz.f100) (code := bodyOf Go.Proofs.Tryz.f100) (hint := hintL []) (n := 8) (res := [.tmp 3]) Go.Proofs.Tryz.func100 Go.Proofs.Tryz.call100 (by kernel_rfl) (by kernel_rfl) (by kernel_rfl) (by kernel_rfl) (by kernel_rfl)
/- (*quarry/vm.machine).inside -/
def fb104 : AFunc2 := ⟨48, [.cell (rLoad (some 23) g4)], .seq (.reg [
oBox w3 129 g1,
oAlloc w4 131 [.int .i64 (.lit (.ofNat 0)), .nils, .int .u64 (.lit (.ofNat 0)), .int .u8 (.lit (.ofNat 0)), .int .u8 (.lit (.ofNat 0)), .int .u8 (.lit (.ofNat 0)), .int .u8 (.lit (.ofNat 0)), .int .u8 (.lit (.ofNat 0)), .int .u8 (.lit (.ofNat 0)), .int .u8 (.lit (.ofNat 0)), .int .u8 (.lit (.ofNat 0)), .int .u8 (.lit (.ofNat 0)), .int .u8 (.lit (.ofNat 0)), .int .u8 (.lit (.ofNat 0)), .int .u8 (.lit (.ofNat 0)), .int .u8 (.lit (.ofNat 0)), .int .u8 (.lit (.ofNat 0)), .int .u8 (.lit (.ofNat 0)), .int .u8 (.lit (.ofNat 0)), .int .u8 (.lit (.ofNat 0)), .int .u8 (.lit (.ofNat 0)), .int .u8 (.lit (.ofNat 0)), .int .u8 (.lit (.ofNat 0))]]) (.seq (.seq (.draw [
⟨0, ⟨(some 9), .p (.mv (.t 0)), none⟩, 0, 0⟩,
⟨1, ⟨(some 10), .p (.nilCheck (.t 9)), none⟩, 1, 0⟩,
⟨2, ⟨(some 11), .p (.faddr 0 (.t 10)), none⟩, 3, 0⟩,
⟨3, ⟨(some 12), .r (.load none (.t 11)), none⟩, 7, 0⟩,
⟨4, ⟨(some 13), .p (.faddr 40 (.t 3)), none⟩, 0, 0⟩,
⟨5, ⟨(some 14), .r (.load (some 20) (.t 13)), none⟩, 16, 0⟩,
⟨6, ⟨(some 15), .b (.call 80 [(.t 12), (.t 14)]), none⟩, 63, 0⟩,
⟨7, ⟨(some 5), .p (.mv (.t 15)), none⟩, 127, 0⟩]) (.seq (.reg [
oP w16 (pMv g5),
oK w17 (bCmp 1 nEq .eq true g16 (gC (.w (.s (.int .i64 (.lit (.ofNat 0)))))))]) (.cond g17 (.seq (.draw [
⟨0, ⟨(some 19), .p (.mv (.t 0)), none⟩, 0, 0⟩,
⟨1, ⟨(some 20), .p (.nilCheck (.t 19)), none⟩, 1, 0⟩,
⟨2, ⟨(some 21), .p (.faddr 0 (.t 20)), none⟩, 3, 0⟩,
⟨3, ⟨(some 22), .r (.load none (.t 21)), none⟩, 7, 0⟩,
⟨4, ⟨(some 23), .p (.mv (.t 5)), none⟩, 0, 0⟩,
⟨5, ⟨(some 24), .p (.faddr 64 (.t 3)), none⟩, 0, 0⟩,
⟨6, ⟨(some 25), .r (.load none (.t 24)), none⟩, 32, 0⟩,
⟨7, ⟨(some 26), .p (.faddr 65 (.t 3)), none⟩, 0, 0⟩,
⟨8, ⟨(some 27), .r (.load none (.t 26)), none⟩, 128, 0⟩,
⟨9, ⟨(some 28), .b (.call 128 [(.t 22), (.t 23), (.t 25), (.t 27)]), none⟩, 511, 0⟩,
⟨10, ⟨(some 18), .p (.mv (.t 28)), none⟩, 1023, 0⟩,
⟨11, ⟨(some 29), .p (.ext (.t 18) 0), none⟩, 2047, 0⟩,
⟨12, ⟨(some 30), .p (.ext (.t 18) 1), none⟩, 2047, 0⟩,
⟨13, ⟨(some 31), .p (.ext (.t 18) 2), none⟩, 2047, 0⟩,
⟨14, ⟨(some 6), .p (.mv (.t 29)), none⟩, 4095, 0⟩,
⟨15, ⟨(some 7), .p (.mv (.t 30)), none⟩, 24575, 0⟩,
⟨16, ⟨(some 8), .p (.mv (.t 31)), none⟩, 65535, 0⟩]) (.seq (.seq (.reg [
oP w32 (pMv g8),
oP w33 (pNot g32)]) (.cond g33 (.seq (.reg [
oCall w34 68 [],
oK wZ (bSt 23 g4 g34)]) (.ret)) (.skip))) (.seq (.reg [
oP w35 (pMv g6),
oP w36 (pMv g7),
oP w37 (pBuild [.int .i64 (.lit (.ofNat 0)), .nils, .int .u64 (.lit (.ofNat 0)), .int .u8 (.lit (.ofNat 0)), .int .u8 (.lit (.ofNat 0)), .int .u8 (.lit (.ofNat 0)), .int .u8 (.lit (.ofNat 0)), .int .u8 (.lit (.ofNat 0)), .int .u8 (.lit (.ofNat 0)), .int .u8 (.lit (.ofNat 0)), .int .u8 (.lit (.ofNat 0)), .int .u8 (.lit (.ofNat 0)), .int .u8 (.lit (.ofNat 0)), .int .u8 (.lit (.ofNat 0)), .int .u8 (.lit (.ofNat 0)), .int .u8 (.lit (.ofNat 0)), .int .u8 (.lit (.ofNat 0)), .int .u8 (.lit (.ofNat 0)), .int .u8 (.lit (.ofNat 0)), .int .u8 (.lit (.ofNat 0)), .int .u8 (.lit (.ofNat 0)), .int .u8 (.lit (.ofNat 0)), .int .u8 (.lit (.ofNat 0))] [(1, 1, g35), (2, 1, g36)]),
oK wZ (bSt 23 g4 g37)]) (.ret)))) (.skip)))) (.seq (.draw [
⟨0, ⟨(some 38), .p (.mv (.t 0)), none⟩, 0, 0⟩,
⟨1, ⟨(some 39), .r (.load (some 68) (.t 3)), none⟩, 0, 0⟩,
⟨2, ⟨(some 40), .p (.mv (.t 0)), none⟩, 0, 0⟩,
⟨3, ⟨(some 41), .p (.nilCheck (.t 40)), none⟩, 4, 0⟩,
⟨4, ⟨(some 42), .p (.faddr 89 (.t 41)), none⟩, 12, 0⟩,
⟨5, ⟨(some 43), .r (.load none (.t 42)), none⟩, 28, 0⟩,
⟨6, ⟨(some 44), .p (.faddr 40 (.t 3)), none⟩, 0, 0⟩,
⟨7, ⟨(some 45), .r (.load (some 20) (.t 44)), none⟩, 64, 0⟩,
⟨8, ⟨(some 46), .b (.call 35 [(.t 43), (.t 45)]), none⟩, 252, 0⟩,
⟨9, ⟨(some 47), .b (.call 73 [(.t 38), (.t 39), (.t 46)]), none⟩, 511, 0⟩,
⟨10, ⟨none, .b (.store 23 (.t 4) (.t 47)), none⟩, 1023, 0⟩]) (.ret)))⟩
theorem fp104 : ∃ fn, fb104 = denF fn ∧ ∃ func code hint, FnOk Go.Proofs.Tryz.prog TT 104 fn func code hint := f2_mk (func := Go.Proofs.Tryz.f104) (code := bodyOf Go.Proofs.Tryz.f104) (hint := hintL [(1, [(0, 0), (1, 0), (2, 0), (3, 0), (4, 0), (5, 0), (6, 0), (7, 0)]), (3, [(0, 0), (1, 0), (2, 0), (3, 0), (4, 0), (5, 0), (6, 0), (7, 0), (8, 0), (9, 0), (10, 0), (11, 0), (12, 0), (13, 0), (14, 0), (15, 0), (16, 0)]), (7, [(0, 0), (1, 0), (2, 0), (3, 0), (4, 0), (5, 0), (6, 0), (7, 0), (8, 0), (9, 0), (10, 0)])]) (n := 48) (res := [.cell 4 (some 23)]) Go.Proofs.Tryz.func104 Go.Proofs.Tryz.call104 (by kernel_rfl) (by kernel_rfl) (by kernel_rfl) (by kernel_rfl) (by kernel_rfl)
/- quarry/state.put[quarry/api.Address,struct{}]$1 -/
def fb105 : AFunc2 := ⟨10, [], .seq (.reg [
oR w4 (rLoad none g0)]) (.cond g4 (.reg [
oR w5 (rLoad none g2),
oR w6 (rLoad (some 20) g3),
oR w7 (rLoad (some 0) g1),
oK wZ (b3 (bMupd (.one (.arr 20 5 .u8))) g5 g6 g7)]) (.reg [
oR w8 (rLoad none g2),
oR w9 (rLoad (some 20) g3),
oK wZ (b2 (bDel (.one (.arr 20 5 .u8))) g8 g9)]))⟩
theorem fp105 : ∃ fn, fb105 = denF fn ∧ ∃ func code hint, FnOk Go.Proofs.Tryz.prog TT 105 fn func code hint := f2_mk (func := Go.Proofs.Tryz.f105) (code := bodyOf Go.Proofs.Tryz.f105) (hint := hintL []) (n := 10) (res := []) Go.Proofs.Tryz.func105 Go.Proofs.Tryz.call105 (by kernel_rfl) (by kernel_rfl) (by kernel_rfl) (by kernel_rfl) (by kernel_rfl)
/- quarry/word.added -/
def fb109 : AFunc2 := ⟨27, [.cell (rLoad (some 4) g4), .tmp g5], .seq (.reg [
oBox w2 24 g0,
oBox w3 24 g1,
oAlloc w4 24 [.int .u64 (.lit (.ofNat 0)), .int .u64 (.lit (.ofNat 0)), .int .u64 (.lit (.ofNat 0)), .int .u64 (.lit (.ofNat 0))],
oP w5 (pMv (gC (.w (.s (.int .u64 (.lit (.ofNat 0)))))))]) (.seq (.reg [
oP w6 (pMv (gC (.w (.s (.int .u64 (.lit (.ofNat 0)))))))]) (.seq (.seq (.reg [
oP w8 (pMv (gC (.w (.s (.int .i64 (.lit (.ofNat 0)))))))]) (.block 0 (.loop (.seq (.reg [
oK w9 (bCmp 2 lLt cGe true g8 (gC (.w (.s (.int .i64 (.lit (.ofNat 4)))))))]) (.seq (.cond g9 (.skip) (.exit 0)) (.seq (.block 1 (.seq (.reg [
oP w10 (pMv g8),
oP w7 (pMv g10)]) (.draw [
⟨0, ⟨(some 12), .p (.mv (.t 7)), none⟩, 0, 0⟩,
⟨1, ⟨(some 13), .p (.mv (.t 7)), none⟩, 0, 0⟩,
⟨2, ⟨(some 14), .p (.iaddrA 4 1 (.t 2) (.t 13)), none⟩, 2, 0⟩,
⟨3, ⟨(some 15), .r (.load none (.t 14)), none⟩, 6, 0⟩,
⟨4, ⟨(some 16), .p (.mv (.t 7)), none⟩, 0, 0⟩,
⟨5, ⟨(some 17), .p (.iaddrA 4 1 (.t 3) (.t 16)), none⟩, 16, 0⟩,
⟨6, ⟨(some 18), .r (.load none (.t 17)), none⟩, 48, 0⟩,
⟨7, ⟨(some 19), .p (.mv (.t 6)), none⟩, 0, 0⟩,
⟨8, ⟨(some 20), .b (.call 129 [(.t 15), (.t 18), (.t 19)]), none⟩, 254, 0⟩,
⟨9, ⟨(some 11), .p (.mv (.t 20)), none⟩, 510, 0⟩,
⟨10, ⟨(some 21), .p (.ext (.t 11) 0), none⟩, 1022, 0⟩,
⟨11, ⟨(some 22), .p (.ext (.t 11) 1), none⟩, 1022, 0⟩,
⟨12, ⟨(some 23), .p (.iaddrA 4 1 (.t 2) (.t 12)), none⟩, 2047, 0⟩,
⟨13, ⟨none, .b (.store 1 (.t 23) (.t 21)), none⟩, 6143, 0⟩,
⟨14, ⟨(some 6), .p (.mv (.t 22)), none⟩, 16383, 0⟩]))) (.reg [
oP w24 (pAr 0 g8 (gC (.w (.s (.int .i64 (.lit (.ofNat 1))))))),
oP w8 (pMv g24)]))))))) (.seq (.reg [
oR w25 (rLoad (some 4) g2),
oP w26 (pMv g6),
oK wZ (bSt 4 g4 g25),
oP w5 (pMv g26)]) (.ret))))⟩
theorem fp109 : ∃ fn, fb109 = denF fn ∧ ∃ func code hint, FnOk Go.Proofs.Tryz.prog TT 109 fn func code hint := f2_mk (func := Go.Proofs.Tryz.f109) (code := bodyOf Go.Proofs.Tryz.f109) (hint := hintL [(5, [(0, 0), (1, 0), (2, 0), (3, 0), (4, 0), (5, 0), (6, 0), (7, 0), (8, 0), (9, 0), (10, 0), (11, 0), (12, 0), (13, 0), (14, 0)])]) (n := 27) (res := [.cell 4 (some 4), .tmp 5]) Go.Proofs.Tryz.func109 Go.Proofs.Tryz.call109 (by kernel_rfl) (by kernel_rfl) (by kernel_rfl) (by kernel_rfl) (by kernel_rfl)
/- quarry/vm.must -/
def fb111 : AFunc2 := ⟨5, [], .seq (.reg [
oP w2 (pMv g0),
oP w3 (pNot g2)]) (.cond g3 (.reg [
oCall w4 130 []]) (.skip))⟩
theorem fp111 : ∃ fn, fb111 = denF fn ∧ ∃ func code hint, FnOk Go.Proofs.Tryz.prog TT 111 fn func code hint := f2_mk (func := Go.Proofs.Tryz.f111) (code := bodyOf Go.Proofs.Tryz.f111) (hint := hintL []) (n := 5) (res := []) Go.Proofs.Tryz.func111 Go.Proofs.Tryz.call111 (by kernel_rfl) (by kernel_rfl) (by kernel_rfl) (by kernel_rfl) (by kernel_rfl)
/- (*quarry/vm.frame).changes -/
def fb112 : AFunc2 := ⟨33, [.tmp g4], .seq (.reg [
oP w4 (pMv (gC (.w (.s (.bool false)))))]) (.seq (.seq (.reg [
oP w5 (pMv g1)]) (.block 0 (.seq (.seq (.reg [
oK w7 (bCmp 0 intEq .eq false g5 (gC (.w (.s (.int .i64 (.lit (.ofNat 85))))))),
oP w6 (pMv g7)]) (.cond g6 (.skip) (.seq (.reg [
oK w8 (bCmp 0 intEq .eq false g5 (gC (.w (.s (.int .i64 (.lit (.ofNat 93))))))),
oP w6 (pMv g8)]) (.cond g6 (.skip) (.seq (.reg [
oK w9 (bCmp 0 intEq .eq false g5 (gC (.w (.s (.int .i64 (.lit (.ofNat 160))))))),
oP w6 (pMv g9)]) (.cond g6 (.skip) (.seq (.reg [
oK w10 (bCmp 0 intEq .eq false g5 (gC (.w (.s (.int .i64 (.lit (.ofNat 161))))))),
oP w6 (pMv g10)]) (.cond g6 (.skip) (.seq (.reg [
oK w11 (bCmp 0 intEq .eq false g5 (gC (.w (.s (.int .i64 (.lit (.ofNat 162))))))),
oP w6 (pMv g11)]) (.cond g6 (.skip) (.seq (.reg [
oK w12 (bCmp 0 intEq .eq false g5 (gC (.w (.s (.int .i64 (.lit (.ofNat 163))))))),
oP w6 (pMv g12)]) (.cond g6 (.skip) (.seq (.reg [
oK w13 (bCmp 0 intEq .eq false g5 (gC (.w (.s (.int .i64 (.lit (.ofNat 164))))))),
oP w6 (pMv g13)]) (.cond g6 (.skip) (.seq (.reg [
oK w14 (bCmp 0 intEq .eq false g5 (gC (.w (.s (.int .i64 (.lit (.ofNat 240))))))),
oP w6 (pMv g14)]) (.cond g6 (.skip) (.seq (.reg [
oK w15 (bCmp 0 intEq .eq false g5 (gC (.w (.s (.int .i64 (.lit (.ofNat 245))))))),
oP w6 (pMv g15)]) (.cond g6 (.skip) (.reg [
oK w16 (bCmp 0 intEq .eq false g5 (gC (.w (.s (.int .i64 (.lit (.ofNat 255))))))),
oP w6 (pMv g16)]))))))))))))))))))) (.cond g6 (.seq (.reg [
oP w4 (pMv (gC (.w (.s (.bool true)))))]) (.ret)) (.seq (.reg [
oK w18 (bCmp 0 intEq .eq false g5 (gC (.w (.s (.int .i64 (.lit (.ofNat 241))))))),
oP w17 (pMv g18)]) (.cond g17 (.seq (.draw [
⟨0, ⟨(some 19), .p (.mv (.t 0)), none⟩, 0, 0⟩,
⟨1, ⟨(some 20), .p (.nilCheck (.t 19)), none⟩, 1, 0⟩,
⟨2, ⟨(some 21), .p (.faddr 70 (.t 20)), none⟩, 3, 0⟩,
⟨3, ⟨(some 22), .r (.load none (.t 21)), none⟩, 7, 0⟩,
⟨4, ⟨(some 23), .p (.mv (.t 0)), none⟩, 0, 0⟩,
⟨5, ⟨(some 24), .p (.nilCheck (.t 23)), none⟩, 16, 0⟩,
⟨6, ⟨(some 25), .p (.faddr 70 (.t 24)), none⟩, 48, 0⟩,
⟨7, ⟨(some 26), .r (.load none (.t 25)), none⟩, 112, 0⟩,
⟨8, ⟨(some 27), .p (.len (.t 26)), none⟩, 240, 0⟩,
⟨9, ⟨(some 28), .p (.ar 1 (.t 27) (.c (.w (.s (.int .i64 (.lit (.ofNat 3))))))), none⟩, 496, 0⟩,
⟨10, ⟨(some 29), .p (.iaddrS 4 (.t 22) (.t 28)), none⟩, 1023, 0⟩,
⟨11, ⟨(some 30), .r (.load (some 4) (.t 29)), none⟩, 2047, 0⟩,
⟨12, ⟨(some 31), .p (.build [.int .u64 (.lit (.ofNat 0)), .int .u64 (.lit (.ofNat 0)), .int .u64 (.lit (.ofNat 0)), .int .u64 (.lit (.ofNat 0))] []), none⟩, 0, 0⟩,
⟨13, ⟨(some 32), .b (.cmp 1 (.agg (.one (.arr 4 22 .u64))) (.t 30) (.t 31)), none⟩, 8191, 0⟩,
⟨14, ⟨(some 4), .p (.mv (.t 32)), none⟩, 16383, 0⟩]) (.ret)) (.skip))))))) (.seq (.reg [
oP w4 (pMv (gC (.w (.s (.bool false)))))]) (.ret)))⟩
theorem fp112 : ∃ fn, fb112 = denF fn ∧ ∃ func code hint, FnOk Go.Proofs.Tryz.prog TT 112 fn func code hint := f2_mk (func := Go.Proofs.Tryz.f112) (code := bodyOf Go.Proofs.Tryz.f112) (hint := hintL [(14, [(0, 0), (1, 0), (2, 0), (3, 0), (4, 0), (5, 0), (6, 0), (7, 0), (8, 0), (9, 0), (10, 0), (11, 0), (12, 0), (13, 0), (14, 0)])]) (n := 33) (res := [.tmp 4]) Go.Proofs.Tryz.func112 Go.Proofs.Tryz.call112 (by kernel_rfl) (by kernel_rfl) (by kernel_rfl) (by kernel_rfl) (by kernel_rfl)
/- (*quarry/vm.frame).pay -/
def fb113 : AFunc2 := ⟨22, [], .seq (.reg [
oP w4 (pMv g1),
oP w5 (pMv g0),
oP w6 (pGen fun _ t => opNil t (.t 5)),
oP w7 (pFaddr 1 g6),
oP w8 (pFaddr 65 g7),
oR w9 (rLoad none g8),
oK w10 (bCmp 3 intLe .le false g4 g9),
oCall w11 111 [g10]]) (.reg [
oP w12 (pMv g0),
oP w13 (pGen fun _ t => opNil t (.t 12)),
oP w14 (pFaddr 1 g13),
oP w15 (pFaddr 65 g14),
oR w16 (rLoad none g15),
oP w17 (pMv g1),
oP w18 (pAr 1 g16 g17),
oP w19 (pGen fun _ t => opNil t (.t 12)),
oP w20 (pFaddr 1 g19),
oP w21 (pFaddr 65 g20),
oK wZ (bSt 1 g21 g18)])⟩
theorem fp113 : ∃ fn, fb113 = denF fn ∧ ∃ func code hint, FnOk Go.Proofs.Tryz.prog TT 113 fn func code hint := f2_mk (func := Go.Proofs.Tryz.f113) (code := bodyOf Go.Proofs.Tryz.f113) (hint := hintL []) (n := 22) (res := []) Go.Proofs.Tryz.func113 Go.Proofs.Tryz.call113 (by kernel_rfl) (by kernel_rfl) (by kernel_rfl) (by kernel_rfl) (by kernel_rfl)
/- (*quarry/vm.frame).reckons -/
def fb114 : AFunc2 := ⟨125, [], .seq (.reg [
oP w9 (pBuild zz2 [(1, 1, (gC (.w (.s (.fn 95 []))))), (2, 1, (gC (.w (.s (.fn 131 []))))), (3, 1, (gC (.w (.s (.fn 94 []))))), (4, 1, (gC (.w (.s (.fn 132 []))))), (5, 1, (gC (.w (.s (.fn 133 []))))), (6, 1, (gC (.w (.s (.fn 134 []))))), (7, 1, (gC (.w (.s (.fn 135 []))))), (10, 1, (gC (.w (.s (.fn 136 []))))), (11, 1, (gC (.w (.s (.fn 137 []))))), (22, 1, (gC (.w (.s (.fn 138 []))))), (23, 1, (gC (.w (.s (.fn 139 []))))), (24, 1, (gC (.w (.s (.fn 140 []))))), (26, 1, (gC (.w (.s (.fn 141 []))))), (27, 1, (gC (.w (.s (.fn 142 []))))), (28, 1, (gC (.w (.s (.fn 143 []))))), (29, 1, (gC (.w (.s (.fn 144 [])))))]),
oAlloc w4 217 zz2,
oK wZ (bSt 30 g4 g9)]) (.seq (.seq (.reg [
oP w10 (pMv g1),
oK w11 (bCmp 0 intEq .eq false g10 (gC (.w (.s (.int .i64 (.lit (.ofNat 0)))))))]) (.cond g11 (.seq (.reg [
oP w12 (pMv g0),
oCall w13 145 [g12, (gC (.w (.s (.int .i64 (.lit (.ofNat 0)))))), (gC (.w (.s (.nils))))]]) (.ret)) (.skip))) (.seq (.reg [
oP w14 (pMv g0),
oCall w15 146 [g14],
oAlloc w5 24 [.int .u64 (.lit (.ofNat 0)), .int .u64 (.lit (.ofNat 0)), .int .u64 (.lit (.ofNat 0)), .int .u64 (.lit (.ofNat 0))],
oK wZ (bSt 4 g5 g15)]) (.seq (.reg [
oP w16 (pMv g1)]) (.block 0 (.seq (.reg [
oK w41 (bCmp 0 intEq .eq false g16 (gC (.w (.s (.int .i64 (.lit (.ofNat 8))))))),
oP w40 (pMv g41)]) (.cond g40 (.seq (.reg [
oP w42 (pMv g0),
oCall w43 146 [g42],
oAlloc w6 24 [.int .u64 (.lit (.ofNat 0)), .int .u64 (.lit (.ofNat 0)), .int .u64 (.lit (.ofNat 0)), .int .u64 (.lit (.ofNat 0))],
oK wZ (bSt 4 g6 g43)]) (.draw [
⟨0, ⟨(some 44), .p (.mv (.t 0)), none⟩, 0, 0⟩,
⟨1, ⟨(some 45), .r (.load (some 4) (.t 5)), none⟩, 0, 0⟩,
⟨2, ⟨(some 46), .r (.load (some 4) (.t 6)), none⟩, 0, 0⟩,
⟨3, ⟨(some 47), .p (.mv (.t 0)), none⟩, 0, 0⟩,
⟨4, ⟨(some 48), .b (.call 146 [(.t 47)]), none⟩, 8, 0⟩,
⟨5, ⟨(some 49), .b (.call 147 [(.t 45), (.t 46), (.t 48)]), none⟩, 30, 0⟩,
⟨6, ⟨(some 50), .b (.call 120 [(.t 44), (.t 49)]), none⟩, 63, 0⟩])) (.seq (.reg [
oK w52 (bCmp 0 intEq .eq false g16 (gC (.w (.s (.int .i64 (.lit (.ofNat 9))))))),
oP w51 (pMv g52)]) (.cond g51 (.seq (.reg [
oP w53 (pMv g0),
oCall w54 146 [g53],
oAlloc w7 24 [.int .u64 (.lit (.ofNat 0)), .int .u64 (.lit (.ofNat 0)), .int .u64 (.lit (.ofNat 0)), .int .u64 (.lit (.ofNat 0))],
oK wZ (bSt 4 g7 g54)]) (.draw [
⟨0, ⟨(some 55), .p (.mv (.t 0)), none⟩, 0, 0⟩,
⟨1, ⟨(some 56), .r (.load (some 4) (.t 5)), none⟩, 0, 0⟩,
⟨2, ⟨(some 57), .r (.load (some 4) (.t 7)), none⟩, 0, 0⟩,
⟨3, ⟨(some 58), .p (.mv (.t 0)), none⟩, 0, 0⟩,
⟨4, ⟨(some 59), .b (.call 146 [(.t 58)]), none⟩, 8, 0⟩,
⟨5, ⟨(some 60), .b (.call 148 [(.t 56), (.t 57), (.t 59)]), none⟩, 30, 0⟩,
⟨6, ⟨(some 61), .b (.call 120 [(.t 55), (.t 60)]), none⟩, 63, 0⟩])) (.seq (.reg [
oK w63 (bCmp 0 intEq .eq false g16 (gC (.w (.s (.int .i64 (.lit (.ofNat 16))))))),
oP w62 (pMv g63)]) (.cond g62 (.draw [
⟨0, ⟨(some 64), .p (.mv (.t 0)), none⟩, 0, 0⟩,
⟨1, ⟨(some 65), .r (.load (some 4) (.t 5)), none⟩, 0, 0⟩,
⟨2, ⟨(some 66), .p (.mv (.t 0)), none⟩, 0, 0⟩,
⟨3, ⟨(some 67), .b (.call 146 [(.t 66)]), none⟩, 4, 0⟩,
⟨4, ⟨(some 68), .b (.call 86 [(.t 65), (.t 67)]), none⟩, 14, 0⟩,
⟨5, ⟨(some 69), .b (.cmp 2 .int (.t 68) (.c (.w (.s (.int .i64 (.lit (.ofNat 0))))))), none⟩, 30, 0⟩,
⟨6, ⟨(some 70), .b (.call 149 [(.t 69)]), none⟩, 62, 0⟩,
⟨7, ⟨(some 71), .b (.call 120 [(.t 64), (.t 70)]), none⟩, 127, 0⟩]) (.seq (.reg [
oK w73 (bCmp 0 intEq .eq false g16 (gC (.w (.s (.int .i64 (.lit (.ofNat 17))))))),
oP w72 (pMv g73)]) (.cond g72 (.draw [
⟨0, ⟨(some 74), .p (.mv (.t 0)), none⟩, 0, 0⟩,
⟨1, ⟨(some 75), .r (.load (some 4) (.t 5)), none⟩, 0, 0⟩,
⟨2, ⟨(some 76), .p (.mv (.t 0)), none⟩, 0, 0⟩,
⟨3, ⟨(some 77), .b (.call 146 [(.t 76)]), none⟩, 4, 0⟩,
⟨4, ⟨(some 78), .b (.call 86 [(.t 75), (.t 77)]), none⟩, 14, 0⟩,
⟨5, ⟨(some 79), .b (.cmp 4 .int (.t 78) (.c (.w (.s (.int .i64 (.lit (.ofNat 0))))))), none⟩, 30, 0⟩,
⟨6, ⟨(some 80), .b (.call 149 [(.t 79)]), none⟩, 62, 0⟩,
⟨7, ⟨(some 81), .b (.call 120 [(.t 74), (.t 80)]), none⟩, 127, 0⟩]) (.seq (.reg [
oK w83 (bCmp 0 intEq .eq false g16 (gC (.w (.s (.int .i64 (.lit (.ofNat 18))))))),
oP w82 (pMv g83)]) (.cond g82 (.draw [
⟨0, ⟨(some 84), .p (.mv (.t 0)), none⟩, 0, 0⟩,
⟨1, ⟨(some 85), .r (.load (some 4) (.t 5)), none⟩, 0, 0⟩,
⟨2, ⟨(some 86), .p (.mv (.t 0)), none⟩, 0, 0⟩,
⟨3, ⟨(some 87), .b (.call 146 [(.t 86)]), none⟩, 4, 0⟩,
⟨4, ⟨(some 88), .b (.call 150 [(.t 85), (.t 87)]), none⟩, 14, 0⟩,
⟨5, ⟨(some 89), .b (.cmp 2 .int (.t 88) (.c (.w (.s (.int .i64 (.lit (.ofNat 0))))))), none⟩, 30, 0⟩,
⟨6, ⟨(some 90), .b (.call 149 [(.t 89)]), none⟩, 62, 0⟩,
⟨7, ⟨(some 91), .b (.call 120 [(.t 84), (.t 90)]), none⟩, 127, 0⟩]) (.seq (.reg [
oK w93 (bCmp 0 intEq .eq false g16 (gC (.w (.s (.int .i64 (.lit (.ofNat 19))))))),
oP w92 (pMv g93)]) (.cond g92 (.draw [
⟨0, ⟨(some 94), .p (.mv (.t 0)), none⟩, 0, 0⟩,
⟨1, ⟨(some 95), .r (.load (some 4) (.t 5)), none⟩, 0, 0⟩,
⟨2, ⟨(some 96), .p (.mv (.t 0)), none⟩, 0, 0⟩,
⟨3, ⟨(some 97), .b (.call 146 [(.t 96)]), none⟩, 4, 0⟩,
⟨4, ⟨(some 98), .b (.call 150 [(.t 95), (.t 97)]), none⟩, 14, 0⟩,
⟨5, ⟨(some 99), .b (.cmp 4 .int (.t 98) (.c (.w (.s (.int .i64 (.lit (.ofNat 0))))))), none⟩, 30, 0⟩,
⟨6, ⟨(some 100), .b (.call 149 [(.t 99)]), none⟩, 62, 0⟩,
⟨7, ⟨(some 101), .b (.call 120 [(.t 94), (.t 100)]), none⟩, 127, 0⟩]) (.seq (.reg [
oK w103 (bCmp 0 intEq .eq false g16 (gC (.w (.s (.int .i64 (.lit (.ofNat 20))))))),
oP w102 (pMv g103)]) (.cond g102 (.draw [
⟨0, ⟨(some 104), .p (.mv (.t 0)), none⟩, 0, 0⟩,
⟨1, ⟨(some 105), .r (.load (some 4) (.t 5)), none⟩, 0, 0⟩,
⟨2, ⟨(some 106), .p (.mv (.t 0)), none⟩, 0, 0⟩,
⟨3, ⟨(some 107), .b (.call 146 [(.t 106)]), none⟩, 4, 0⟩,
⟨4, ⟨(some 108), .b (.cmp 0 (.agg (.one (.arr 4 22 .u64))) (.t 105) (.t 107)), none⟩, 14, 0⟩,
⟨5, ⟨(some 109), .b (.call 149 [(.t 108)]), none⟩, 30, 0⟩,
⟨6, ⟨(some 110), .b (.call 120 [(.t 104), (.t 109)]), none⟩, 63, 0⟩]) (.seq (.reg [
oK w112 (bCmp 0 intEq .eq false g16 (gC (.w (.s (.int .i64 (.lit (.ofNat 21))))))),
oP w111 (pMv g112)]) (.cond g111 (.reg [
oP w113 (pMv g0),
oR w114 (rLoad (some 4) g5),
oP w115 (pBuild [.int .u64 (.lit (.ofNat 0)), .int .u64 (.lit (.ofNat 0)), .int .u64 (.lit (.ofNat 0)), .int .u64 (.lit (.ofNat 0))] []),
oK w116 (b2 (fun x y s K => cmpA 0 (.agg (.one (.arr 4 22 .u64))) x y s fun b s => K (vBool b) s) g114 g115),
oCall w117 149 [g116],
oCall w118 120 [g113, g117]]) (.seq (.reg [
oK w120 (bCmp 0 intEq .eq false g16 (gC (.w (.s (.int .i64 (.lit (.ofNat 25))))))),
oP w119 (pMv g120)]) (.cond g119 (.reg [
oP w121 (pMv g0),
oR w122 (rLoad (some 4) g5),
oCall w123 151 [g122],
oCall w124 120 [g121, g123]]) (.seq (.reg [
oP w17 (pMv g0),
oCall w18 146 [g17],
oAlloc w8 24 [.int .u64 (.lit (.ofNat 0)), .int .u64 (.lit (.ofNat 0)), .int .u64 (.lit (.ofNat 0)), .int .u64 (.lit (.ofNat 0))],
oK wZ (bSt 4 g8 g18)]) (.seq (.seq (.reg [
oP w19 (pMv g1),
oK w20 (bCmp 0 intEq .eq false g19 (gC (.w (.s (.int .i64 (.lit (.ofNat 10)))))))]) (.cond g20 (.draw [
⟨0, ⟨(some 21), .p (.mv (.t 0)), none⟩, 0, 0⟩,
⟨1, ⟨(some 22), .p (.mv (.t 0)), none⟩, 0, 0⟩,
⟨2, ⟨(some 23), .p (.nilCheck (.t 22)), none⟩, 2, 0⟩,
⟨3, ⟨(some 24), .p (.faddr 0 (.t 23)), none⟩, 6, 0⟩,
⟨4, ⟨(some 25), .r (.load none (.t 24)), none⟩, 14, 0⟩,
⟨5, ⟨(some 26), .p (.nilCheck (.t 25)), none⟩, 30, 0⟩,
⟨6, ⟨(some 27), .p (.faddr 1 (.t 26)), none⟩, 62, 0⟩,
⟨7, ⟨(some 28), .r (.load (some 26) (.t 27)), none⟩, 126, 0⟩,
⟨8, ⟨(some 29), .r (.load (some 4) (.t 8)), none⟩, 0, 0⟩,
⟨9, ⟨(some 30), .b (.call 152 [(.t 28), (.t 29)]), none⟩, 510, 0⟩,
⟨10, ⟨(some 31), .b (.call 113 [(.t 21), (.t 30)]), none⟩, 1023, 0⟩]) (.skip))) (.draw [
⟨0, ⟨(some 32), .p (.mv (.t 0)), none⟩, 0, 0⟩,
⟨1, ⟨(some 33), .p (.mv (.t 1)), none⟩, 0, 0⟩,
⟨2, ⟨(some 34), .p (.iaddrA 30 1 (.t 4) (.t 33)), none⟩, 2, 0⟩,
⟨3, ⟨(some 35), .r (.load none (.t 34)), none⟩, 6, 0⟩,
⟨4, ⟨(some 36), .r (.load (some 4) (.t 5)), none⟩, 0, 0⟩,
⟨5, ⟨(some 37), .r (.load (some 4) (.t 8)), none⟩, 0, 0⟩,
⟨6, ⟨(some 38), .b (.callv (.t 35) [(.t 36), (.t 37)]), none⟩, 62, 0⟩,
⟨7, ⟨(some 39), .b (.call 120 [(.t 32), (.t 38)]), none⟩, 127, 0⟩])))))))))))))))))))))))))⟩
theorem fp114 : ∃ fn, fb114 = denF fn ∧ ∃ func code hint, FnOk Go.Proofs.Tryz.prog TT 114 fn func code hint := f2_mk (func := Go.Proofs.Tryz.f114) (code := bodyOf Go.Proofs.Tryz.f114) (hint := hintL [(11, [(0, 0), (1, 0), (2, 0), (3, 0), (4, 0), (5, 0), (6, 0)]), (14, [(0, 0), (1, 0), (2, 0), (3, 0), (4, 0), (5, 0), (6, 0)]), (16, [(0, 0), (1, 0), (2, 0), (3, 0), (4, 0), (5, 0), (6, 0), (7, 0)]), (18, [(0, 0), (1, 0), (2, 0), (3, 0), (4, 0), (5, 0), (6, 0), (7, 0)]), (20, [(0, 0), (1, 0), (2, 0), (3, 0), (4, 0), (5, 0), (6, 0), (7, 0)]), (22, [(0, 0), (1, 0), (2, 0), (3, 0), (4, 0), (5, 0), (6, 0), (7, 0)]), (24, [(0, 0), (1, 0), (2, 0), (3, 0), (4, 0), (5, 0), (6, 0)]), (7, [(0, 0), (1, 0), (2, 0), (3, 0), (4, 0), (5, 0), (6, 0), (7, 0), (8, 0), (9, 0), (10, 0)]), (8, [(0, 0), (1, 0), (2, 0), (3, 0), (4, 0), (5, 0), (6, 0), (7, 0)])]) (n := 125) (res := []) Go.Proofs.Tryz.func114 Go.Proofs.Tryz.call114 (by kernel_rfl) (by kernel_rfl) (by kernel_rfl) (by kernel_rfl) (by kernel_rfl)
/- (*quarry/vm.frame).surrounds -/
def fb116 : AFunc2 := ⟨281, [], .seq (.reg [
oP w19 (pMv g1)]) (.block 0 (.seq (.reg [
oK w21 (bCmp 0 intEq .eq false g19 (gC (.w (.s (.int .i64 (.lit (.ofNat 48))))))),
oP w20 (pMv g21)]) (.cond g20 (.reg [
oP w22 (pMv g0),
oP w23 (pMv g0),
oP w24 (pGen fun _ t => opNil t (.t 23)),
oP w25 (pFaddr 1 g24),
oP w26 (pFaddr 20 g25),
oR w27 (rLoad (some 20) g26),
oCall w28 159 [g27],
oCall w29 120 [g22, g28]]) (.seq (.reg [
oK w31 (bCmp 0 intEq .eq false g19 (gC (.w (.s (.int .i64 (.lit (.ofNat 49))))))),
oP w30 (pMv g31)]) (.cond g30 (.seq (.reg [
oP w32 (pMv g0),
oCall w33 160 [g32],
oAlloc w4 30 zz0,
oK wZ (bSt 20 g4 g33)]) (.seq (.reg [
oP w34 (pMv g0),
oR w35 (rLoad (some 20) g4),
oCall w36 161 [g34, g35]]) (.draw [
⟨0, ⟨(some 37), .p (.mv (.t 0)), none⟩, 0, 0⟩,
⟨1, ⟨(some 38), .p (.mv (.t 0)), none⟩, 0, 0⟩,
⟨2, ⟨(some 39), .p (.nilCheck (.t 38)), none⟩, 2, 0⟩,
⟨3, ⟨(some 40), .p (.faddr 0 (.t 39)), none⟩, 6, 0⟩,
⟨4, ⟨(some 41), .r (.load none (.t 40)), none⟩, 14, 0⟩,
⟨5, ⟨(some 42), .p (.nilCheck (.t 41)), none⟩, 30, 0⟩,
⟨6, ⟨(some 43), .p (.faddr 89 (.t 42)), none⟩, 62, 0⟩,
⟨7, ⟨(some 44), .r (.load none (.t 43)), none⟩, 126, 0⟩,
⟨8, ⟨(some 45), .r (.load (some 20) (.t 4)), none⟩, 0, 0⟩,
⟨9, ⟨(some 46), .b (.call 34 [(.t 44), (.t 45)]), none⟩, 510, 0⟩,
⟨10, ⟨(some 47), .b (.call 120 [(.t 37), (.t 46)]), none⟩, 1023, 0⟩]))) (.seq (.reg [
oK w49 (bCmp 0 intEq .eq false g19 (gC (.w (.s (.int .i64 (.lit (.ofNat 50))))))),
oP w48 (pMv g49)]) (.cond g48 (.reg [
oP w50 (pMv g0),
oP w51 (pMv g0),
oP w52 (pGen fun _ t => opNil t (.t 51)),
oP w53 (pFaddr 0 g52),
oR w54 (rLoad none g53),
oP w55 (pGen fun _ t => opNil t (.t 54)),
oP w56 (pFaddr 64 g55),
oP w57 (pFaddr 0 g56),
oR w58 (rLoad (some 20) g57),
oCall w59 159 [g58],
oCall w60 120 [g50, g59]]) (.seq (.reg [
oK w62 (bCmp 0 intEq .eq false g19 (gC (.w (.s (.int .i64 (.lit (.ofNat 51))))))),
oP w61 (pMv g62)]) (.cond g61 (.reg [
oP w63 (pMv g0),
oP w64 (pMv g0),
oP w65 (pGen fun _ t => opNil t (.t 64)),
oP w66 (pFaddr 1 g65),
oP w67 (pFaddr 0 g66),
oR w68 (rLoad (some 20) g67),
oCall w69 159 [g68],
oCall w70 120 [g63, g69]]) (.seq (.reg [
oK w72 (bCmp 0 intEq .eq false g19 (gC (.w (.s (.int .i64 (.lit (.ofNat 52))))))),
oP w71 (pMv g72)]) (.cond g71 (.reg [
oP w73 (pMv g0),
oP w74 (pMv g0),
oP w75 (pGen fun _ t => opNil t (.t 74)),
oP w76 (pFaddr 1 g75),
oP w77 (pFaddr 60 g76),
oR w78 (rLoad (some 4) g77),
oCall w79 120 [g73, g78]]) (.seq (.reg [
oK w81 (bCmp 0 intEq .eq false g19 (gC (.w (.s (.int .i64 (.lit (.ofNat 53))))))),
oP w80 (pMv g81)]) (.cond g80 (.seq (.draw [
⟨0, ⟨(some 83), .p (.mv (.t 0)), none⟩, 0, 0⟩,
⟨1, ⟨(some 84), .p (.nilCheck (.t 83)), none⟩, 1, 0⟩,
⟨2, ⟨(some 85), .p (.faddr 1 (.t 84)), none⟩, 3, 0⟩,
⟨3, ⟨(some 86), .p (.faddr 64 (.t 85)), none⟩, 7, 0⟩,
⟨4, ⟨(some 87), .r (.load none (.t 86)), none⟩, 15, 0⟩,
⟨5, ⟨(some 88), .p (.mv (.t 0)), none⟩, 0, 0⟩,
⟨12, ⟨(some 5), .m (.alloc 24 [.int .u64 (.lit (.ofNat 0)), .int .u64 (.lit (.ofNat 0)), .int .u64 (.lit (.ofNat 0)), .int .u64 (.lit (.ofNat 0))]), none⟩, 0, 3072⟩,
⟨6, ⟨(some 89), .b (.call 146 [(.t 88)]), none⟩, 32, 0⟩,
⟨7, ⟨(some 90), .b (.call 162 [(.t 87), (.t 89), (.c (.w (.s (.int .i64 (.lit (.ofNat 32))))))]), none⟩, 127, 0⟩,
⟨8, ⟨(some 91), .b (.call 10 [(.t 90)]), none⟩, 255, 0⟩,
⟨9, ⟨(some 82), .p (.mv (.t 91)), none⟩, 511, 0⟩,
⟨10, ⟨(some 92), .p (.ext (.t 82) 0), none⟩, 1023, 0⟩,
⟨11, ⟨(some 93), .p (.ext (.t 82) 1), none⟩, 1023, 0⟩,
⟨13, ⟨none, .b (.store 4 (.t 5) (.t 92)), none⟩, 6143, 0⟩,
⟨14, ⟨(some 6), .p (.mv (.t 93)), none⟩, 16383, 0⟩]) (.reg [
oP w94 (pMv g0),
oR w95 (rLoad (some 4) g5),
oCall w96 120 [g94, g95]])) (.seq (.reg [
oK w98 (bCmp 0 intEq .eq false g19 (gC (.w (.s (.int .i64 (.lit (.ofNat 54))))))),
oP w97 (pMv g98)]) (.cond g97 (.reg [
oP w99 (pMv g0),
oP w100 (pMv g0),
oP w101 (pGen fun _ t => opNil t (.t 100)),
oP w102 (pFaddr 1 g101),
oP w103 (pFaddr 64 g102),
oR w104 (rLoad none g103),
oP w105 (pGen fun _ t => opLen t (.t 104)),
oCall w106 163 [g105],
oCall w107 120 [g99, g106]]) (.seq (.seq (.reg [
oK w109 (bCmp 0 intEq .eq false g19 (gC (.w (.s (.int .i64 (.lit (.ofNat 55))))))),
oP w108 (pMv g109)]) (.cond g108 (.skip) (.reg [
oK w110 (bCmp 0 intEq .eq false g19 (gC (.w (.s (.int .i64 (.lit (.ofNat 57))))))),
oP w108 (pMv g110)]))) (.cond g108 (.seq (.reg [
oP w111 (pMv g0),
oP w112 (pGen fun _ t => opNil t (.t 111)),
oP w113 (pFaddr 1 g112),
oP w114 (pFaddr 64 g113),
oR w115 (rLoad none g114),
oP w7 (pMv g115)]) (.seq (.seq (.reg [
oP w116 (pMv g1),
oK w117 (bCmp 0 intEq .eq false g116 (gC (.w (.s (.int .i64 (.lit (.ofNat 57)))))))]) (.cond g117 (.reg [
oP w118 (pMv g0),
oP w119 (pGen fun _ t => opNil t (.t 118)),
oP w120 (pFaddr 69 g119),
oR w121 (rLoad none g120),
oP w7 (pMv g121)]) (.skip))) (.seq (.reg [
oP w122 (pMv g0),
oCall w123 146 [g122],
oP w124 (pMv g0),
oCall w125 146 [g124],
oAlloc w8 24 [.int .u64 (.lit (.ofNat 0)), .int .u64 (.lit (.ofNat 0)), .int .u64 (.lit (.ofNat 0)), .int .u64 (.lit (.ofNat 0))],
oAlloc w9 24 [.int .u64 (.lit (.ofNat 0)), .int .u64 (.lit (.ofNat 0)), .int .u64 (.lit (.ofNat 0)), .int .u64 (.lit (.ofNat 0))],
oK wZ (bSt 4 g8 g123),
oK wZ (bSt 4 g9 g125)]) (.draw [
⟨0, ⟨(some 126), .p (.mv (.t 0)), none⟩, 0, 0⟩,
⟨1, ⟨(some 127), .r (.load (some 4) (.t 8)), none⟩, 0, 0⟩,
⟨2, ⟨(some 128), .p (.mv (.t 0)), none⟩, 0, 0⟩,
⟨5, ⟨(some 131), .p (.mv (.t 7)), none⟩, 0, 0⟩,
⟨6, ⟨(some 132), .r (.load (some 4) (.t 9)), none⟩, 0, 0⟩,
⟨3, ⟨(some 129), .b (.call 146 [(.t 128)]), none⟩, 4, 0⟩,
⟨4, ⟨(some 130), .p (.build [.int .u64 (.lit (.ofNat 0)), .int .u64 (.lit (.ofNat 0)), .int .u64 (.lit (.ofNat 0)), .int .u64 (.lit (.ofNat 0)), .int .u64 (.lit (.ofNat 0)), .int .u64 (.lit (.ofNat 0)), .int .u64 (.lit (.ofNat 0)), .int .u64 (.lit (.ofNat 0))] [(0, 4, (.t 127)), (4, 4, (.t 129))]), none⟩, 14, 0⟩,
⟨7, ⟨(some 133), .b (.call 164 [(.t 126), (.t 130), (.t 131), (.t 132)]), none⟩, 127, 0⟩])))) (.seq (.reg [
oK w135 (bCmp 0 intEq .eq false g19 (gC (.w (.s (.int .i64 (.lit (.ofNat 56))))))),
oP w134 (pMv g135)]) (.cond g134 (.reg [
oP w136 (pMv g0),
oP w137 (pMv g0),
oP w138 (pGen fun _ t => opNil t (.t 137)),
oP w139 (pFaddr 69 g138),
oR w140 (rLoad none g139),
oP w141 (pGen fun _ t => opLen t (.t 140)),
oCall w142 163 [g141],
oCall w143 120 [g136, g142]]) (.seq (.reg [
oK w145 (bCmp 0 intEq .eq false g19 (gC (.w (.s (.int .i64 (.lit (.ofNat 58))))))),
oP w144 (pMv g145)]) (.cond g144 (.reg [
oP w146 (pMv g0),
oP w147 (pMv g0),
oP w148 (pGen fun _ t => opNil t (.t 147)),
oP w149 (pFaddr 0 g148),
oR w150 (rLoad none g149),
oP w151 (pGen fun _ t => opNil t (.t 150)),
oP w152 (pFaddr 64 g151),
oP w153 (pFaddr 20 g152),
oR w154 (rLoad (some 4) g153),
oCall w155 120 [g146, g154]]) (.seq (.reg [
oK w157 (bCmp 0 intEq .eq false g19 (gC (.w (.s (.int .i64 (.lit (.ofNat 59))))))),
oP w156 (pMv g157)]) (.cond g156 (.seq (.reg [
oP w158 (pMv g0),
oCall w159 160 [g158],
oAlloc w10 30 zz0,
oK wZ (bSt 20 g10 g159)]) (.seq (.reg [
oP w160 (pMv g0),
oR w161 (rLoad (some 20) g10),
oCall w162 161 [g160, g161]]) (.draw [
⟨0, ⟨(some 163), .p (.mv (.t 0)), none⟩, 0, 0⟩,
⟨1, ⟨(some 164), .p (.mv (.t 0)), none⟩, 0, 0⟩,
⟨2, ⟨(some 165), .p (.nilCheck (.t 164)), none⟩, 2, 0⟩,
⟨3, ⟨(some 166), .p (.faddr 0 (.t 165)), none⟩, 6, 0⟩,
⟨4, ⟨(some 167), .r (.load none (.t 166)), none⟩, 14, 0⟩,
⟨5, ⟨(some 168), .p (.nilCheck (.t 167)), none⟩, 30, 0⟩,
⟨6, ⟨(some 169), .p (.faddr 89 (.t 168)), none⟩, 62, 0⟩,
⟨7, ⟨(some 170), .r (.load none (.t 169)), none⟩, 126, 0⟩,
⟨8, ⟨(some 171), .r (.load (some 20) (.t 10)), none⟩, 0, 0⟩,
⟨9, ⟨(some 172), .b (.call 35 [(.t 170), (.t 171)]), none⟩, 510, 0⟩,
⟨10, ⟨(some 173), .p (.len (.t 172)), none⟩, 1022, 0⟩,
⟨11, ⟨(some 174), .b (.call 163 [(.t 173)]), none⟩, 2046, 0⟩,
⟨12, ⟨(some 175), .b (.call 120 [(.t 163), (.t 174)]), none⟩, 4095, 0⟩]))) (.seq (.reg [
oK w177 (bCmp 0 intEq .eq false g19 (gC (.w (.s (.int .i64 (.lit (.ofNat 60))))))),
oP w176 (pMv g177)]) (.cond g176 (.seq (.reg [
oP w178 (pMv g0),
oCall w179 160 [g178],
oAlloc w11 30 zz0,
oK wZ (bSt 20 g11 g179)]) (.seq (.reg [
oP w180 (pMv g0),
oR w181 (rLoad (some 20) g11),
oCall w182 161 [g180, g181]]) (.seq (.reg [
oP w183 (pMv g0),
oCall w184 146 [g183],
oP w185 (pMv g0),
oCall w186 146 [g185],
oAlloc w12 24 [.int .u64 (.lit (.ofNat 0)), .int .u64 (.lit (.ofNat 0)), .int .u64 (.lit (.ofNat 0)), .int .u64 (.lit (.ofNat 0))],
oAlloc w13 24 [.int .u64 (.lit (.ofNat 0)), .int .u64 (.lit (.ofNat 0)), .int .u64 (.lit (.ofNat 0)), .int .u64 (.lit (.ofNat 0))],
oK wZ (bSt 4 g12 g184),
oK wZ (bSt 4 g13 g186)]) (.draw [
⟨0, ⟨(some 187), .p (.mv (.t 0)), none⟩, 0, 0⟩,
⟨1, ⟨(some 188), .r (.load (some 4) (.t 12)), none⟩, 0, 0⟩,
⟨2, ⟨(some 189), .p (.mv (.t 0)), none⟩, 0, 0⟩,
⟨5, ⟨(some 192), .p (.mv (.t 0)), none⟩, 0, 0⟩,
⟨6, ⟨(some 193), .p (.nilCheck (.t 192)), none⟩, 32, 0⟩,
⟨7, ⟨(some 194), .p (.faddr 0 (.t 193)), none⟩, 96, 0⟩,
⟨8, ⟨(some 195), .r (.load none (.t 194)), none⟩, 224, 0⟩,
⟨9, ⟨(some 196), .p (.nilCheck (.t 195)), none⟩, 480, 0⟩,
⟨10, ⟨(some 197), .p (.faddr 89 (.t 196)), none⟩, 992, 0⟩,
⟨11, ⟨(some 198), .r (.load none (.t 197)), none⟩, 2016, 0⟩,
⟨12, ⟨(some 199), .r (.load (some 20) (.t 11)), none⟩, 0, 0⟩,
⟨14, ⟨(some 201), .r (.load (some 4) (.t 13)), none⟩, 0, 0⟩,
⟨3, ⟨(some 190), .b (.call 146 [(.t 189)]), none⟩, 4, 0⟩,
⟨4, ⟨(some 191), .p (.build [.int .u64 (.lit (.ofNat 0)), .int .u64 (.lit (.ofNat 0)), .int .u64 (.lit (.ofNat 0)), .int .u64 (.lit (.ofNat 0)), .int .u64 (.lit (.ofNat 0)), .int .u64 (.lit (.ofNat 0)), .int .u64 (.lit (.ofNat 0)), .int .u64 (.lit (.ofNat 0))] [(0, 4, (.t 188)), (4, 4, (.t 190))]), none⟩, 14, 0⟩,
⟨13, ⟨(some 200), .b (.call 35 [(.t 198), (.t 199)]), none⟩, 8172, 0⟩,
⟨15, ⟨(some 202), .b (.call 164 [(.t 187), (.t 191), (.t 200), (.t 201)]), none⟩, 32767, 0⟩])))) (.seq (.reg [
oK w204 (bCmp 0 intEq .eq false g19 (gC (.w (.s (.int .i64 (.lit (.ofNat 61))))))),
oP w203 (pMv g204)]) (.cond g203 (.reg [
oP w205 (pMv g0),
oP w206 (pMv g0),
oP w207 (pGen fun _ t => opNil t (.t 206)),
oP w208 (pFaddr 72 g207),
oR w209 (rLoad none g208),
oP w210 (pGen fun _ t => opLen t (.t 209)),
oCall w211 163 [g210],
oCall w212 120 [g205, g211]]) (.seq (.reg [
oK w214 (bCmp 0 intEq .eq false g19 (gC (.w (.s (.int .i64 (.lit (.ofNat 62))))))),
oP w213 (pMv g214)]) (.cond g213 (.seq (.reg [
oP w215 (pMv g0),
oCall w216 146 [g215],
oP w217 (pMv g0),
oCall w218 146 [g217],
oAlloc w14 24 [.int .u64 (.lit (.ofNat 0)), .int .u64 (.lit (.ofNat 0)), .int .u64 (.lit (.ofNat 0)), .int .u64 (.lit (.ofNat 0))],
oAlloc w15 24 [.int .u64 (.lit (.ofNat 0)), .int .u64 (.lit (.ofNat 0)), .int .u64 (.lit (.ofNat 0)), .int .u64 (.lit (.ofNat 0))],
oK wZ (bSt 4 g14 g216),
oK wZ (bSt 4 g15 g218)]) (.seq (.reg [
oP w219 (pMv g0),
oCall w220 146 [g219],
oAlloc w16 24 [.int .u64 (.lit (.ofNat 0)), .int .u64 (.lit (.ofNat 0)), .int .u64 (.lit (.ofNat 0)), .int .u64 (.lit (.ofNat 0))],
oK wZ (bSt 4 g16 g220)]) (.seq (.reg [
oR w221 (rLoad (some 4) g15),
oR w222 (rLoad (some 4) g16),
oCall w223 95 [g221, g222],
oAlloc w17 24 [.int .u64 (.lit (.ofNat 0)), .int .u64 (.lit (.ofNat 0)), .int .u64 (.lit (.ofNat 0)), .int .u64 (.lit (.ofNat 0))],
oK wZ (bSt 4 g17 g223)]) (.seq (.draw [
⟨0, ⟨(some 224), .r (.load (some 4) (.t 17)), none⟩, 0, 0⟩,
⟨1, ⟨(some 225), .r (.load (some 4) (.t 15)), none⟩, 0, 0⟩,
⟨2, ⟨(some 226), .b (.call 86 [(.t 224), (.t 225)]), none⟩, 3, 0⟩,
⟨3, ⟨(some 227), .b (.cmp 5 .int (.t 226) (.c (.w (.s (.int .i64 (.lit (.ofNat 0))))))), none⟩, 7, 0⟩,
⟨4, ⟨(some 228), .p (.mv (.t 227)), none⟩, 15, 0⟩,
⟨5, ⟨(some 229), .r (.load (some 4) (.t 17)), some (228, true)⟩, 31, 0⟩,
⟨6, ⟨(some 230), .p (.mv (.t 0)), some (228, true)⟩, 31, 0⟩,
⟨7, ⟨(some 231), .p (.nilCheck (.t 230)), some (228, true)⟩, 95, 0⟩,
⟨8, ⟨(some 232), .p (.faddr 72 (.t 231)), some (228, true)⟩, 223, 0⟩,
⟨9, ⟨(some 233), .r (.load none (.t 232)), some (228, true)⟩, 479, 0⟩,
⟨10, ⟨(some 234), .p (.len (.t 233)), some (228, true)⟩, 991, 0⟩,
⟨11, ⟨(some 235), .b (.call 163 [(.t 234)]), some (228, true)⟩, 2015, 0⟩,
⟨12, ⟨(some 236), .b (.call 86 [(.t 229), (.t 235)]), some (228, true)⟩, 4095, 0⟩,
⟨13, ⟨(some 237), .b (.cmp 3 .int (.t 236) (.c (.w (.s (.int .i64 (.lit (.ofNat 0))))))), some (228, true)⟩, 8191, 0⟩,
⟨14, ⟨(some 238), .p (.pick (.t 228) (.t 237) (.c (.w (.s (.bool false))))), none⟩, 16383, 0⟩,
⟨15, ⟨(some 239), .b (.call 111 [(.t 238)]), none⟩, 32767, 0⟩]) (.draw [
⟨0, ⟨(some 240), .p (.mv (.t 0)), none⟩, 0, 0⟩,
⟨1, ⟨(some 241), .r (.load (some 4) (.t 14)), none⟩, 0, 0⟩,
⟨2, ⟨(some 242), .r (.load (some 4) (.t 16)), none⟩, 0, 0⟩,
⟨3, ⟨(some 243), .p (.build [.int .u64 (.lit (.ofNat 0)), .int .u64 (.lit (.ofNat 0)), .int .u64 (.lit (.ofNat 0)), .int .u64 (.lit (.ofNat 0)), .int .u64 (.lit (.ofNat 0)), .int .u64 (.lit (.ofNat 0)), .int .u64 (.lit (.ofNat 0)), .int .u64 (.lit (.ofNat 0))] [(0, 4, (.t 241)), (4, 4, (.t 242))]), none⟩, 6, 0⟩,
⟨4, ⟨(some 244), .p (.mv (.t 0)), none⟩, 0, 0⟩,
⟨5, ⟨(some 245), .p (.nilCheck (.t 244)), none⟩, 16, 0⟩,
⟨6, ⟨(some 246), .p (.faddr 72 (.t 245)), none⟩, 48, 0⟩,
⟨7, ⟨(some 247), .r (.load none (.t 246)), none⟩, 112, 0⟩,
⟨8, ⟨(some 248), .r (.load (some 4) (.t 15)), none⟩, 0, 0⟩,
⟨9, ⟨(some 249), .b (.call 164 [(.t 240), (.t 243), (.t 247), (.t 248)]), none⟩, 511, 0⟩]))))) (.seq (.reg [
oK w251 (bCmp 0 intEq .eq false g19 (gC (.w (.s (.int .i64 (.lit (.ofNat 63))))))),
oP w250 (pMv g251)]) (.cond g250 (.seq (.reg [
oP w252 (pMv g0),
oCall w253 160 [g252],
oAlloc w18 30 zz0,
oK wZ (bSt 20 g18 g253)]) (.seq (.reg [
oP w254 (pMv g0),
oR w255 (rLoad (some 20) g18),
oCall w256 161 [g254, g255]]) (.seq (.draw [
⟨0, ⟨(some 257), .p (.mv (.t 0)), none⟩, 0, 0⟩,
⟨1, ⟨(some 258), .p (.nilCheck (.t 257)), none⟩, 1, 0⟩,
⟨2, ⟨(some 259), .p (.faddr 0 (.t 258)), none⟩, 3, 0⟩,
⟨3, ⟨(some 260), .r (.load none (.t 259)), none⟩, 7, 0⟩,
⟨4, ⟨(some 261), .p (.nilCheck (.t 260)), none⟩, 15, 0⟩,
⟨5, ⟨(some 262), .p (.faddr 89 (.t 261)), none⟩, 31, 0⟩,
⟨6, ⟨(some 263), .r (.load none (.t 262)), none⟩, 63, 0⟩,
⟨7, ⟨(some 264), .r (.load (some 20) (.t 18)), none⟩, 0, 0⟩,
⟨8, ⟨(some 265), .b (.call 55 [(.t 263), (.t 264)]), none⟩, 255, 0⟩]) (.cond g265 (.reg [
oP w266 (pMv g0),
oP w267 (pBuild [.int .u64 (.lit (.ofNat 0)), .int .u64 (.lit (.ofNat 0)), .int .u64 (.lit (.ofNat 0)), .int .u64 (.lit (.ofNat 0))] []),
oCall w268 120 [g266, g267]]) (.draw [
⟨0, ⟨(some 269), .p (.mv (.t 0)), none⟩, 0, 0⟩,
⟨1, ⟨(some 270), .p (.mv (.t 0)), none⟩, 0, 0⟩,
⟨2, ⟨(some 271), .p (.nilCheck (.t 270)), none⟩, 2, 0⟩,
⟨3, ⟨(some 272), .p (.faddr 0 (.t 271)), none⟩, 6, 0⟩,
⟨4, ⟨(some 273), .r (.load none (.t 272)), none⟩, 14, 0⟩,
⟨5, ⟨(some 274), .p (.nilCheck (.t 273)), none⟩, 30, 0⟩,
⟨6, ⟨(some 275), .p (.faddr 89 (.t 274)), none⟩, 62, 0⟩,
⟨7, ⟨(some 276), .r (.load none (.t 275)), none⟩, 126, 0⟩,
⟨8, ⟨(some 277), .r (.load (some 20) (.t 18)), none⟩, 0, 0⟩,
⟨9, ⟨(some 278), .b (.call 165 [(.t 276), (.t 277)]), none⟩, 510, 0⟩,
⟨10, ⟨(some 279), .b (.call 157 [(.t 278)]), none⟩, 1022, 0⟩,
⟨11, ⟨(some 280), .b (.call 120 [(.t 269), (.t 279)]), none⟩, 2047, 0⟩]))))) (.skip))))))))))))))))))))))))))))))))⟩
theorem fp116 : ∃ fn, fb116 = denF fn ∧ ∃ func code hint, FnOk Go.Proofs.Tryz.prog TT 116 fn func code hint := f2_mk (func := Go.Proofs.Tryz.f116) (code := bodyOf Go.Proofs.Tryz.f116) (hint := hintL [(6, [(0, 0), (1, 0), (2, 0), (3, 0), (4, 0), (5, 0), (6, 0), (7, 0), (8, 0), (9, 0), (10, 0)]), (14, [(0, 0), (1, 0), (2, 0), (3, 0), (4, 0), (5, 0), (12, 3072), (6, 0), (7, 0), (8, 0), (9, 0), (10, 0), (11, 0), (13, 0), (14, 0)]), (24, [(0, 0), (1, 0), (2, 0), (5, 0), (6, 0), (3, 0), (4, 0), (7, 0)]), (32, [(0, 0), (1, 0), (2, 0), (3, 0), (4, 0), (5, 0), (6, 0), (7, 0), (8, 0), (9, 0), (10, 0), (11, 0), (12, 0)]), (37, [(0, 0), (1, 0), (2, 0), (5, 0), (6, 0), (7, 0), (8, 0), (9, 0), (10, 0), (11, 0), (12, 0), (14, 0), (3, 0), (4, 0), (13, 0), (15, 0)]), (44, [(0, 0), (1, 0), (2, 0), (3, 0), (4, 0), (5, 0), (6, 0), (7, 0), (8, 0), (9, 0), (10, 0), (11, 0), (12, 0), (13, 0), (14, 0), (15, 0)]), (45, [(0, 0), (1, 0), (2, 0), (3, 0), (4, 0), (5, 0), (6, 0), (7, 0), (8, 0), (9, 0)]), (49, [(0, 0), (1, 0), (2, 0), (3, 0), (4, 0), (5, 0), (6, 0), (7, 0), (8, 0)]), (51, [(0, 0), (1, 0), (2, 0), (3, 0), (4, 0), (5, 0), (6, 0), (7, 0), (8, 0), (9, 0), (10, 0), (11, 0)])]) (n := 281) (res := []) Go.Proofs.Tryz.func116 Go.Proofs.Tryz.call116 (by kernel_rfl) (by kernel_rfl) (by kernel_rfl) (by kernel_rfl) (by kernel_rfl)
/- (*quarry/vm.frame).stores -/
def fb118 : AFunc2 := ⟨269, [], .seq (.reg [
oP w18 (pMv g1)]) (.block 0 (.seq (.reg [
oK w20 (bCmp 0 intEq .eq false g18 (gC (.w (.s (.int .i64 (.lit (.ofNat 80))))))),
oP w19 (pMv g20)]) (.cond g19 (.reg [
oP w21 (pMv g0),
oCall w22 146 [g21]]) (.seq (.reg [
oK w24 (bCmp 0 intEq .eq false g18 (gC (.w (.s (.int .i64 (.lit (.ofNat 81))))))),
oP w23 (pMv g24)]) (.cond g23 (.seq (.reg [
oP w25 (pMv g0),
oCall w26 146 [g25],
oCall w27 163 [(gC (.w (.s (.int .i64 (.lit (.ofNat 32))))))],
oP w28 (pBuild [.int .u64 (.lit (.ofNat 0)), .int .u64 (.lit (.ofNat 0)), .int .u64 (.lit (.ofNat 0)), .int .u64 (.lit (.ofNat 0)), .int .u64 (.lit (.ofNat 0)), .int .u64 (.lit (.ofNat 0)), .int .u64 (.lit (.ofNat 0)), .int .u64 (.lit (.ofNat 0))] [(0, 4, g26), (4, 4, g27)]),
oAlloc w4 225 [.int .u64 (.lit (.ofNat 0)), .int .u64 (.lit (.ofNat 0)), .int .u64 (.lit (.ofNat 0)), .int .u64 (.lit (.ofNat 0)), .int .u64 (.lit (.ofNat 0)), .int .u64 (.lit (.ofNat 0)), .int .u64 (.lit (.ofNat 0)), .int .u64 (.lit (.ofNat 0))],
oK wZ (bSt 8 g4 g28)]) (.seq (.reg [
oP w29 (pMv g0),
oR w30 (rLoad (some 8) g4),
oM w31 (.bslice 225 1 [.int .u64 (.lit (.ofNat 0)), .int .u64 (.lit (.ofNat 0)), .int .u64 (.lit (.ofNat 0)), .int .u64 (.lit (.ofNat 0)), .int .u64 (.lit (.ofNat 0)), .int .u64 (.lit (.ofNat 0)), .int .u64 (.lit (.ofNat 0)), .int .u64 (.lit (.ofNat 0))] [(0, 8, (.t 30))]),
oCall w32 156 [g29, g31]]) (.seq (.reg [
oP w34 (pMv g0),
oR w35 (rLoad (some 8) g4),
oCall w36 158 [g34, g35],
oCall w37 10 [g36],
oP w33 (pMv g37),
oP w38 (pExt g33 0),
oP w39 (pExt g33 1),
oAlloc w5 24 [.int .u64 (.lit (.ofNat 0)), .int .u64 (.lit (.ofNat 0)), .int .u64 (.lit (.ofNat 0)), .int .u64 (.lit (.ofNat 0))],
oK wZ (bSt 4 g5 g38),
oP w6 (pMv g39)]) (.reg [
oP w40 (pMv g0),
oR w41 (rLoad (some 4) g5),
oCall w42 120 [g40, g41]])))) (.seq (.reg [
oK w44 (bCmp 0 intEq .eq false g18 (gC (.w (.s (.int .i64 (.lit (.ofNat 82))))))),
oP w43 (pMv g44)]) (.cond g43 (.seq (.reg [
oP w45 (pMv g0),
oCall w46 146 [g45],
oCall w47 163 [(gC (.w (.s (.int .i64 (.lit (.ofNat 32))))))],
oP w48 (pBuild [.int .u64 (.lit (.ofNat 0)), .int .u64 (.lit (.ofNat 0)), .int .u64 (.lit (.ofNat 0)), .int .u64 (.lit (.ofNat 0)), .int .u64 (.lit (.ofNat 0)), .int .u64 (.lit (.ofNat 0)), .int .u64 (.lit (.ofNat 0)), .int .u64 (.lit (.ofNat 0))] [(0, 4, g46), (4, 4, g47)]),
oAlloc w7 225 [.int .u64 (.lit (.ofNat 0)), .int .u64 (.lit (.ofNat 0)), .int .u64 (.lit (.ofNat 0)), .int .u64 (.lit (.ofNat 0)), .int .u64 (.lit (.ofNat 0)), .int .u64 (.lit (.ofNat 0)), .int .u64 (.lit (.ofNat 0)), .int .u64 (.lit (.ofNat 0))],
oK wZ (bSt 8 g7 g48)]) (.seq (.reg [
oP w49 (pMv g0),
oCall w50 146 [g49],
oCall w51 19 [g50],
oAlloc w8 50 zz1,
oK wZ (bSt 32 g8 g51)]) (.seq (.reg [
oP w52 (pMv g0),
oR w53 (rLoad (some 8) g7),
oM w54 (.bslice 225 1 [.int .u64 (.lit (.ofNat 0)), .int .u64 (.lit (.ofNat 0)), .int .u64 (.lit (.ofNat 0)), .int .u64 (.lit (.ofNat 0)), .int .u64 (.lit (.ofNat 0)), .int .u64 (.lit (.ofNat 0)), .int .u64 (.lit (.ofNat 0)), .int .u64 (.lit (.ofNat 0))] [(0, 8, (.t 53))]),
oCall w55 156 [g52, g54]]) (.draw [
⟨0, ⟨(some 56), .p (.mv (.t 0)), none⟩, 0, 0⟩,
⟨1, ⟨(some 57), .r (.load (some 8) (.t 7)), none⟩, 0, 0⟩,
⟨3, ⟨(some 59), .p (.aslice 32 1 (.t 8) none none), none⟩, 0, 0⟩,
⟨2, ⟨(some 58), .b (.call 158 [(.t 56), (.t 57)]), none⟩, 3, 0⟩,
⟨4, ⟨(some 60), .b (.copy 1 (.t 58) (.t 59)), none⟩, 15, 0⟩])))) (.seq (.reg [
oK w62 (bCmp 0 intEq .eq false g18 (gC (.w (.s (.int .i64 (.lit (.ofNat 83))))))),
oP w61 (pMv g62)]) (.cond g61 (.seq (.reg [
oP w63 (pMv g0),
oCall w64 146 [g63],
oCall w65 163 [(gC (.w (.s (.int .i64 (.lit (.ofNat 1))))))],
oP w66 (pBuild [.int .u64 (.lit (.ofNat 0)), .int .u64 (.lit (.ofNat 0)), .int .u64 (.lit (.ofNat 0)), .int .u64 (.lit (.ofNat 0)), .int .u64 (.lit (.ofNat 0)), .int .u64 (.lit (.ofNat 0)), .int .u64 (.lit (.ofNat 0)), .int .u64 (.lit (.ofNat 0))] [(0, 4, g64), (4, 4, g65)]),
oAlloc w9 225 [.int .u64 (.lit (.ofNat 0)), .int .u64 (.lit (.ofNat 0)), .int .u64 (.lit (.ofNat 0)), .int .u64 (.lit (.ofNat 0)), .int .u64 (.lit (.ofNat 0)), .int .u64 (.lit (.ofNat 0)), .int .u64 (.lit (.ofNat 0)), .int .u64 (.lit (.ofNat 0))],
oK wZ (bSt 8 g9 g66)]) (.seq (.reg [
oP w67 (pMv g0),
oCall w68 146 [g67],
oCall w69 19 [g68],
oAlloc w10 50 zz1,
oK wZ (bSt 32 g10 g69)]) (.seq (.reg [
oP w70 (pMv g0),
oR w71 (rLoad (some 8) g9),
oM w72 (.bslice 225 1 [.int .u64 (.lit (.ofNat 0)), .int .u64 (.lit (.ofNat 0)), .int .u64 (.lit (.ofNat 0)), .int .u64 (.lit (.ofNat 0)), .int .u64 (.lit (.ofNat 0)), .int .u64 (.lit (.ofNat 0)), .int .u64 (.lit (.ofNat 0)), .int .u64 (.lit (.ofNat 0))] [(0, 8, (.t 71))]),
oCall w73 156 [g70, g72]]) (.draw [
⟨0, ⟨(some 74), .p (.mv (.t 0)), none⟩, 0, 0⟩,
⟨1, ⟨(some 75), .r (.load (some 8) (.t 9)), none⟩, 0, 0⟩,
⟨3, ⟨(some 77), .p (.aslice 32 1 (.t 10) (some (.c (.w (.s (.int .i64 (.lit (.ofNat 31))))))) none), none⟩, 0, 0⟩,
⟨2, ⟨(some 76), .b (.call 158 [(.t 74), (.t 75)]), none⟩, 3, 0⟩,
⟨4, ⟨(some 78), .b (.copy 1 (.t 76) (.t 77)), none⟩, 15, 0⟩])))) (.seq (.reg [
oK w80 (bCmp 0 intEq .eq false g18 (gC (.w (.s (.int .i64 (.lit (.ofNat 84))))))),
oP w79 (pMv g80)]) (.cond g79 (.seq (.reg [
oP w81 (pMv g0),
oCall w82 146 [g81],
oAlloc w11 24 [.int .u64 (.lit (.ofNat 0)), .int .u64 (.lit (.ofNat 0)), .int .u64 (.lit (.ofNat 0)), .int .u64 (.lit (.ofNat 0))],
oK wZ (bSt 4 g11 g82)]) (.seq (.seq (.draw [
⟨0, ⟨(some 83), .p (.mv (.t 0)), none⟩, 0, 0⟩,
⟨1, ⟨(some 84), .p (.nilCheck (.t 83)), none⟩, 1, 0⟩,
⟨2, ⟨(some 85), .p (.faddr 0 (.t 84)), none⟩, 3, 0⟩,
⟨3, ⟨(some 86), .r (.load none (.t 85)), none⟩, 7, 0⟩,
⟨4, ⟨(some 87), .b (.call 66 [(.t 86), (.c (.w (.s (.int .i64 (.lit (.ofNat 9))))))]), none⟩, 15, 0⟩,
⟨5, ⟨(some 88), .p (.mv (.t 87)), none⟩, 31, 0⟩,
⟨6, ⟨(some 89), .p (.mv (.t 0)), some (88, true)⟩, 63, 0⟩,
⟨7, ⟨(some 90), .p (.nilCheck (.t 89)), some (88, true)⟩, 127, 0⟩,
⟨8, ⟨(some 91), .p (.faddr 0 (.t 90)), some (88, true)⟩, 255, 0⟩,
⟨9, ⟨(some 92), .r (.load none (.t 91)), some (88, true)⟩, 511, 0⟩,
⟨10, ⟨(some 93), .p (.nilCheck (.t 92)), some (88, true)⟩, 1023, 0⟩,
⟨11, ⟨(some 94), .p (.faddr 89 (.t 93)), some (88, true)⟩, 2047, 0⟩,
⟨12, ⟨(some 95), .r (.load none (.t 94)), some (88, true)⟩, 4095, 0⟩,
⟨13, ⟨(some 96), .p (.mv (.t 0)), some (88, true)⟩, 63, 0⟩,
⟨14, ⟨(some 97), .p (.nilCheck (.t 96)), some (88, true)⟩, 8255, 0⟩,
⟨15, ⟨(some 98), .p (.faddr 1 (.t 97)), some (88, true)⟩, 24639, 0⟩,
⟨16, ⟨(some 99), .p (.faddr 20 (.t 98)), some (88, true)⟩, 57407, 0⟩,
⟨17, ⟨(some 100), .r (.load (some 20) (.t 99)), some (88, true)⟩, 122943, 0⟩,
⟨18, ⟨(some 101), .r (.load (some 4) (.t 11)), some (88, true)⟩, 63, 0⟩,
⟨19, ⟨(some 102), .b (.call 167 [(.t 95), (.t 100), (.t 101)]), some (88, true)⟩, 524287, 0⟩,
⟨20, ⟨(some 103), .p (.pick (.t 88) (.t 102) (.c (.w (.s (.bool false))))), none⟩, 1048575, 0⟩]) (.cond g103 (.reg [
oP w104 (pMv g0),
oP w105 (pMv g0),
oP w106 (pGen fun _ t => opNil t (.t 105)),
oP w107 (pFaddr 0 g106),
oR w108 (rLoad none g107),
oP w109 (pGen fun _ t => opNil t (.t 108)),
oP w110 (pFaddr 1 g109),
oP w111 (pFaddr 17 g110),
oR w112 (rLoad none g111),
oCall w113 113 [g104, g112]]) (.reg [
oP w114 (pMv g0),
oP w115 (pMv g0),
oP w116 (pGen fun _ t => opNil t (.t 115)),
oP w117 (pFaddr 0 g116),
oR w118 (rLoad none g117),
oP w119 (pGen fun _ t => opNil t (.t 118)),
oP w120 (pFaddr 1 g119),
oP w121 (pFaddr 16 g120),
oR w122 (rLoad none g121),
oCall w123 113 [g114, g122]]))) (.draw [
⟨0, ⟨(some 124), .p (.mv (.t 0)), none⟩, 0, 0⟩,
⟨1, ⟨(some 125), .p (.mv (.t 0)), none⟩, 0, 0⟩,
⟨2, ⟨(some 126), .p (.nilCheck (.t 125)), none⟩, 2, 0⟩,
⟨3, ⟨(some 127), .p (.faddr 0 (.t 126)), none⟩, 6, 0⟩,
⟨4, ⟨(some 128), .r (.load none (.t 127)), none⟩, 14, 0⟩,
⟨5, ⟨(some 129), .p (.nilCheck (.t 128)), none⟩, 30, 0⟩,
⟨6, ⟨(some 130), .p (.faddr 89 (.t 129)), none⟩, 62, 0⟩,
⟨7, ⟨(some 131), .r (.load none (.t 130)), none⟩, 126, 0⟩,
⟨8, ⟨(some 132), .p (.mv (.t 0)), none⟩, 0, 0⟩,
⟨9, ⟨(some 133), .p (.nilCheck (.t 132)), none⟩, 256, 0⟩,
⟨10, ⟨(some 134), .p (.faddr 1 (.t 133)), none⟩, 768, 0⟩,
⟨11, ⟨(some 135), .p (.faddr 20 (.t 134)), none⟩, 1792, 0⟩,
⟨12, ⟨(some 136), .r (.load (some 20) (.t 135)), none⟩, 3840, 0⟩,
⟨13, ⟨(some 137), .r (.load (some 4) (.t 11)), none⟩, 0, 0⟩,
⟨14, ⟨(some 138), .b (.call 31 [(.t 131), (.t 136), (.t 137)]), none⟩, 16382, 0⟩,
⟨15, ⟨(some 139), .b (.call 120 [(.t 124), (.t 138)]), none⟩, 32767, 0⟩]))) (.seq (.reg [
oK w141 (bCmp 0 intEq .eq false g18 (gC (.w (.s (.int .i64 (.lit (.ofNat 85))))))),
oP w140 (pMv g141)]) (.cond g140 (.seq (.reg [
oP w142 (pMv g0),
oCall w143 146 [g142],
oAlloc w12 24 [.int .u64 (.lit (.ofNat 0)), .int .u64 (.lit (.ofNat 0)), .int .u64 (.lit (.ofNat 0)), .int .u64 (.lit (.ofNat 0))],
oK wZ (bSt 4 g12 g143)]) (.draw [
⟨0, ⟨(some 144), .p (.mv (.t 0)), none⟩, 0, 0⟩,
⟨1, ⟨(some 145), .r (.load (some 4) (.t 12)), none⟩, 0, 0⟩,
⟨2, ⟨(some 146), .p (.mv (.t 0)), none⟩, 0, 0⟩,
⟨3, ⟨(some 147), .b (.call 146 [(.t 146)]), none⟩, 4, 0⟩,
⟨4, ⟨(some 148), .b (.call 168 [(.t 144), (.t 145), (.t 147)]), none⟩, 15, 0⟩])) (.seq (.reg [
oK w150 (bCmp 0 intEq .eq false g18 (gC (.w (.s (.int .i64 (.lit (.ofNat 86))))))),
oP w149 (pMv g150)]) (.cond g149 (.reg [
oP w151 (pMv g0),
oP w152 (pMv g0),
oCall w153 146 [g152],
oCall w154 169 [g151, g153]]) (.seq (.reg [
oK w156 (bCmp 0 intEq .eq false g18 (gC (.w (.s (.int .i64 (.lit (.ofNat 87))))))),
oP w155 (pMv g156)]) (.cond g155 (.seq (.reg [
oP w157 (pMv g0),
oCall w158 146 [g157],
oAlloc w13 24 [.int .u64 (.lit (.ofNat 0)), .int .u64 (.lit (.ofNat 0)), .int .u64 (.lit (.ofNat 0)), .int .u64 (.lit (.ofNat 0))],
oK wZ (bSt 4 g13 g158)]) (.seq (.reg [
oP w159 (pMv g0),
oCall w160 146 [g159],
oP w161 (pBuild [.int .u64 (.lit (.ofNat 0)), .int .u64 (.lit (.ofNat 0)), .int .u64 (.lit (.ofNat 0)), .int .u64 (.lit (.ofNat 0))] []),
oK w162 (b2 (fun x y s K => cmpA 1 (.agg (.one (.arr 4 22 .u64))) x y s fun b s => K (vBool b) s) g160 g161)]) (.cond g162 (.reg [
oP w163 (pMv g0),
oR w164 (rLoad (some 4) g13),
oCall w165 169 [g163, g164]]) (.skip)))) (.seq (.reg [
oK w167 (bCmp 0 intEq .eq false g18 (gC (.w (.s (.int .i64 (.lit (.ofNat 88))))))),
oP w166 (pMv g167)]) (.cond g166 (.reg [
oP w168 (pMv g0),
oP w169 (pMv g0),
oP w170 (pGen fun _ t => opNil t (.t 169)),
oP w171 (pFaddr 73 g170),
oR w172 (rLoad none g171),
oP w173 (pAr 1 g172 (gC (.w (.s (.int .i64 (.lit (.ofNat 1))))))),
oCall w174 163 [g173],
oCall w175 120 [g168, g174]]) (.seq (.reg [
oK w177 (bCmp 0 intEq .eq false g18 (gC (.w (.s (.int .i64 (.lit (.ofNat 89))))))),
oP w176 (pMv g177)]) (.cond g176 (.reg [
oP w178 (pMv g0),
oP w179 (pMv g0),
oP w180 (pGen fun _ t => opNil t (.t 179)),
oP w181 (pFaddr 71 g180),
oR w182 (rLoad none g181),
oP w183 (pGen fun _ t => opLen t (.t 182)),
oCall w184 163 [g183],
oCall w185 120 [g178, g184]]) (.seq (.reg [
oK w187 (bCmp 0 intEq .eq false g18 (gC (.w (.s (.int .i64 (.lit (.ofNat 90))))))),
oP w186 (pMv g187)]) (.cond g186 (.reg [
oP w188 (pMv g0),
oP w189 (pMv g0),
oP w190 (pGen fun _ t => opNil t (.t 189)),
oP w191 (pFaddr 1 g190),
oP w192 (pFaddr 65 g191),
oR w193 (rLoad none g192),
oCall w194 26 [g193],
oCall w195 120 [g188, g194]]) (.seq (.reg [
oK w197 (bCmp 0 intEq .eq false g18 (gC (.w (.s (.int .i64 (.lit (.ofNat 92))))))),
oP w196 (pMv g197)]) (.cond g196 (.draw [
⟨0, ⟨(some 198), .p (.mv (.t 0)), none⟩, 0, 0⟩,
⟨1, ⟨(some 199), .p (.mv (.t 0)), none⟩, 0, 0⟩,
⟨2, ⟨(some 200), .p (.nilCheck (.t 199)), none⟩, 2, 0⟩,
⟨3, ⟨(some 201), .p (.faddr 0 (.t 200)), none⟩, 6, 0⟩,
⟨4, ⟨(some 202), .r (.load none (.t 201)), none⟩, 14, 0⟩,
⟨5, ⟨(some 203), .p (.nilCheck (.t 202)), none⟩, 30, 0⟩,
⟨6, ⟨(some 204), .p (.faddr 89 (.t 203)), none⟩, 62, 0⟩,
⟨7, ⟨(some 205), .r (.load none (.t 204)), none⟩, 126, 0⟩,
⟨8, ⟨(some 206), .p (.mv (.t 0)), none⟩, 0, 0⟩,
⟨9, ⟨(some 207), .p (.nilCheck (.t 206)), none⟩, 256, 0⟩,
⟨10, ⟨(some 208), .p (.faddr 1 (.t 207)), none⟩, 768, 0⟩,
⟨11, ⟨(some 209), .p (.faddr 20 (.t 208)), none⟩, 1792, 0⟩,
⟨12, ⟨(some 210), .r (.load (some 20) (.t 209)), none⟩, 3840, 0⟩,
⟨13, ⟨(some 211), .p (.mv (.t 0)), none⟩, 0, 0⟩,
⟨14, ⟨(some 212), .b (.call 146 [(.t 211)]), none⟩, 8192, 0⟩,
⟨15, ⟨(some 213), .b (.call 170 [(.t 205), (.t 210), (.t 212)]), none⟩, 32766, 0⟩,
⟨16, ⟨(some 214), .b (.call 120 [(.t 198), (.t 213)]), none⟩, 65535, 0⟩]) (.seq (.reg [
oK w216 (bCmp 0 intEq .eq false g18 (gC (.w (.s (.int .i64 (.lit (.ofNat 93))))))),
oP w215 (pMv g216)]) (.cond g215 (.seq (.reg [
oP w217 (pMv g0),
oCall w218 146 [g217],
oAlloc w14 24 [.int .u64 (.lit (.ofNat 0)), .int .u64 (.lit (.ofNat 0)), .int .u64 (.lit (.ofNat 0)), .int .u64 (.lit (.ofNat 0))],
oK wZ (bSt 4 g14 g218)]) (.draw [
⟨0, ⟨(some 219), .p (.mv (.t 0)), none⟩, 0, 0⟩,
⟨1, ⟨(some 220), .p (.nilCheck (.t 219)), none⟩, 1, 0⟩,
⟨2, ⟨(some 221), .p (.faddr 0 (.t 220)), none⟩, 3, 0⟩,
⟨3, ⟨(some 222), .r (.load none (.t 221)), none⟩, 7, 0⟩,
⟨4, ⟨(some 223), .p (.nilCheck (.t 222)), none⟩, 15, 0⟩,
⟨5, ⟨(some 224), .p (.faddr 89 (.t 223)), none⟩, 31, 0⟩,
⟨6, ⟨(some 225), .r (.load none (.t 224)), none⟩, 63, 0⟩,
⟨7, ⟨(some 226), .p (.mv (.t 0)), none⟩, 0, 0⟩,
⟨8, ⟨(some 227), .p (.nilCheck (.t 226)), none⟩, 128, 0⟩,
⟨9, ⟨(some 228), .p (.faddr 1 (.t 227)), none⟩, 384, 0⟩,
⟨10, ⟨(some 229), .p (.faddr 20 (.t 228)), none⟩, 896, 0⟩,
⟨11, ⟨(some 230), .r (.load (some 20) (.t 229)), none⟩, 1920, 0⟩,
⟨12, ⟨(some 231), .r (.load (some 4) (.t 14)), none⟩, 0, 0⟩,
⟨13, ⟨(some 232), .p (.mv (.t 0)), none⟩, 0, 0⟩,
⟨14, ⟨(some 233), .b (.call 146 [(.t 232)]), none⟩, 8192, 0⟩,
⟨15, ⟨(some 234), .b (.call 171 [(.t 225), (.t 230), (.t 231), (.t 233)]), none⟩, 32767, 0⟩])) (.seq (.reg [
oK w236 (bCmp 0 intEq .eq false g18 (gC (.w (.s (.int .i64 (.lit (.ofNat 94))))))),
oP w235 (pMv g236)]) (.cond g235 (.seq (.reg [
oP w237 (pMv g0),
oCall w238 146 [g237],
oP w239 (pMv g0),
oCall w240 146 [g239],
oAlloc w15 24 [.int .u64 (.lit (.ofNat 0)), .int .u64 (.lit (.ofNat 0)), .int .u64 (.lit (.ofNat 0)), .int .u64 (.lit (.ofNat 0))],
oAlloc w16 24 [.int .u64 (.lit (.ofNat 0)), .int .u64 (.lit (.ofNat 0)), .int .u64 (.lit (.ofNat 0)), .int .u64 (.lit (.ofNat 0))],
oK wZ (bSt 4 g15 g238),
oK wZ (bSt 4 g16 g240)]) (.seq (.reg [
oP w241 (pMv g0),
oCall w242 146 [g241],
oAlloc w17 24 [.int .u64 (.lit (.ofNat 0)), .int .u64 (.lit (.ofNat 0)), .int .u64 (.lit (.ofNat 0)), .int .u64 (.lit (.ofNat 0))],
oK wZ (bSt 4 g17 g242)]) (.seq (.reg [
oP w243 (pMv g0),
oR w244 (rLoad (some 4) g17),
oCall w245 155 [g244, (gC (.w (.s (.int .u64 (.lit (.ofNat 3))))))],
oP w246 (pExt g245 0),
oP w247 (pExt g245 1),
oCall w248 154 [g243, g246, g247]]) (.seq (.reg [
oP w249 (pMv g0),
oR w250 (rLoad (some 4) g15),
oR w251 (rLoad (some 4) g17),
oP w252 (pBuild [.int .u64 (.lit (.ofNat 0)), .int .u64 (.lit (.ofNat 0)), .int .u64 (.lit (.ofNat 0)), .int .u64 (.lit (.ofNat 0)), .int .u64 (.lit (.ofNat 0)), .int .u64 (.lit (.ofNat 0)), .int .u64 (.lit (.ofNat 0)), .int .u64 (.lit (.ofNat 0))] [(0, 4, g250), (4, 4, g251)]),
oR w253 (rLoad (some 4) g16),
oR w254 (rLoad (some 4) g17),
oP w255 (pBuild [.int .u64 (.lit (.ofNat 0)), .int .u64 (.lit (.ofNat 0)), .int .u64 (.lit (.ofNat 0)), .int .u64 (.lit (.ofNat 0)), .int .u64 (.lit (.ofNat 0)), .int .u64 (.lit (.ofNat 0)), .int .u64 (.lit (.ofNat 0)), .int .u64 (.lit (.ofNat 0))] [(0, 4, g253), (4, 4, g254)]),
oM w256 (.bslice 225 2 [.int .u64 (.lit (.ofNat 0)), .int .u64 (.lit (.ofNat 0)), .int .u64 (.lit (.ofNat 0)), .int .u64 (.lit (.ofNat 0)), .int .u64 (.lit (.ofNat 0)), .int .u64 (.lit (.ofNat 0)), .int .u64 (.lit (.ofNat 0)), .int .u64 (.lit (.ofNat 0))] [(0, 8, (.t 252)), (8, 8, (.t 255))]),
oCall w257 156 [g249, g256]]) (.draw [
⟨0, ⟨(some 258), .p (.mv (.t 0)), none⟩, 0, 0⟩,
⟨1, ⟨(some 259), .r (.load (some 4) (.t 15)), none⟩, 0, 0⟩,
⟨2, ⟨(some 260), .r (.load (some 4) (.t 17)), none⟩, 0, 0⟩,
⟨3, ⟨(some 261), .p (.build [.int .u64 (.lit (.ofNat 0)), .int .u64 (.lit (.ofNat 0)), .int .u64 (.lit (.ofNat 0)), .int .u64 (.lit (.ofNat 0)), .int .u64 (.lit (.ofNat 0)), .int .u64 (.lit (.ofNat 0)), .int .u64 (.lit (.ofNat 0)), .int .u64 (.lit (.ofNat 0))] [(0, 4, (.t 259)), (4, 4, (.t 260))]), none⟩, 6, 0⟩,
⟨5, ⟨(some 263), .p (.mv (.t 0)), none⟩, 0, 0⟩,
⟨6, ⟨(some 264), .r (.load (some 4) (.t 16)), none⟩, 0, 0⟩,
⟨7, ⟨(some 265), .r (.load (some 4) (.t 17)), none⟩, 0, 0⟩,
⟨8, ⟨(some 266), .p (.build [.int .u64 (.lit (.ofNat 0)), .int .u64 (.lit (.ofNat 0)), .int .u64 (.lit (.ofNat 0)), .int .u64 (.lit (.ofNat 0)), .int .u64 (.lit (.ofNat 0)), .int .u64 (.lit (.ofNat 0)), .int .u64 (.lit (.ofNat 0)), .int .u64 (.lit (.ofNat 0))] [(0, 4, (.t 264)), (4, 4, (.t 265))]), none⟩, 192, 0⟩,
⟨4, ⟨(some 262), .b (.call 158 [(.t 258), (.t 261)]), none⟩, 15, 0⟩,
⟨9, ⟨(some 267), .b (.call 158 [(.t 263), (.t 266)]), none⟩, 511, 0⟩,
⟨10, ⟨(some 268), .b (.copy 1 (.t 262) (.t 267)), none⟩, 1023, 0⟩]))))) (.skip))))))))))))))))))))))))))))))⟩
theorem fp118 : ∃ fn, fb118 = denF fn ∧ ∃ func code hint, FnOk Go.Proofs.Tryz.prog TT 118 fn func code hint := f2_mk (func := Go.Proofs.Tryz.f118) (code := bodyOf Go.Proofs.Tryz.f118) (hint := hintL [(12, [(0, 0), (1, 0), (3, 0), (2, 0), (4, 0)]), (17, [(0, 0), (1, 0), (3, 0), (2, 0), (4, 0)]), (20, [(0, 0), (1, 0), (2, 0), (3, 0), (4, 0), (5, 0), (6, 0), (7, 0), (8, 0), (9, 0), (10, 0), (11, 0), (12, 0), (13, 0), (14, 0), (15, 0), (16, 0), (17, 0), (18, 0), (19, 0), (20, 0)]), (23, [(0, 0), (1, 0), (2, 0), (3, 0), (4, 0), (5, 0), (6, 0), (7, 0), (8, 0), (9, 0), (10, 0), (11, 0), (12, 0), (13, 0), (14, 0), (15, 0)]), (26, [(0, 0), (1, 0), (2, 0), (3, 0), (4, 0)]), (40, [(0, 0), (1, 0), (2, 0), (3, 0), (4, 0), (5, 0), (6, 0), (7, 0), (8, 0), (9, 0), (10, 0), (11, 0), (12, 0), (13, 0), (14, 0), (15, 0), (16, 0)]), (43, [(0, 0), (1, 0), (2, 0), (3, 0), (4, 0), (5, 0), (6, 0), (7, 0), (8, 0), (9, 0), (10, 0), (11, 0), (12, 0), (13, 0), (14, 0), (15, 0)]), (49, [(0, 0), (1, 0), (2, 0), (3, 0), (5, 0), (6, 0), (7, 0), (8, 0), (4, 0), (9, 0), (10, 0)])]) (n := 269) (res := []) Go.Proofs.Tryz.func118 Go.Proofs.Tryz.call118 (by kernel_rfl) (by kernel_rfl) (by kernel_rfl) (by kernel_rfl) (by kernel_rfl)
end
end Go.Sy
